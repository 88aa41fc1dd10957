/- The tables of this load, and for each function the meaning that the evaluator gives it, with its proof. -/
import Derived.Test.YtmekpgjioiodjaaEv3
import Derived.Test.YtmekpgjioiodjaaProg
namespace Go.Ev
open Go.Proofs
def TT : Tab := ⟨[(2, tI),
  (3, tI),
  (4, tB),
  (5, ⟨false, 1, 0, 1, [], [.pv (.int .u8 0)], some .u8, 0, false⟩),
  (6, ⟨false, 1, 0, 1, [], [.pv (.int .u8 0)], some .u8, 0, false⟩),
  (7, ⟨true, 4, 0, 24, [(0, 2), (1, 3), (2, 4), (3, 6)], [zI, zI, zB, .pv (.int .u8 0)], none, 0, true⟩),
  (8, ⟨true, 4, 0, 24, [(0, 2), (1, 3), (2, 4), (3, 6)], [zI, zI, zB, .pv (.int .u8 0)], none, 0, true⟩),
  (9, tS),
  (10, tS),
  (11, tS),
  (12, ⟨false, 1, 0, 8, [], [.pv (.int .u64 0)], some .u64, 0, false⟩),
  (13, ⟨true, 2, 0, 24, [(0, 9), (1, 12)], [zS, .pv (.int .u64 0)], none, 0, false⟩),
  (14, ⟨true, 2, 0, 24, [(0, 9), (1, 12)], [zS, .pv (.int .u64 0)], none, 0, false⟩),
  (21, ⟨false, 1, 0, 4, [], [.pv (.int .i32 0)], some .i32, 0, false⟩),
  (26, ⟨true, 2, 0, 16, [(0, 3), (1, 3)], [zI, zI], none, 0, true⟩),
  (27, ⟨true, 2, 0, 16, [(0, 3), (1, 3)], [zI, zI], none, 0, true⟩),
  (31, ⟨false, 1, 72, 24, [], [.nil 72 2], none, 0, false⟩),
  (34, ⟨false, 1, 27, 24, [], [.nil 27 2], none, 0, false⟩),
  (37, ⟨false, 1, 75, 24, [], [.nil 75 1], none, 0, false⟩),
  (40, ⟨false, 1, 77, 24, [], [.nil 77 1], none, 0, false⟩),
  (47, ⟨false, 1, 3, 24, [], [.nil 3 1], none, 0, false⟩),
  (48, ⟨true, 2, 0, 32, [(0, 47), (1, 3)], [.nil 3 1, zI], none, 0, false⟩),
  (49, ⟨true, 2, 0, 32, [(0, 47), (1, 3)], [.nil 3 1, zI], none, 0, false⟩),
  (50, ⟨true, 16, 0, 176, [(0, 3), (1, 3), (2, 3), (3, 3), (4, 3), (5, 3), (6, 3), (7, 3), (8, 49), (10, 49), (12, 3), (13, 49), (15, 4)], [zI, zI, zI, zI, zI, zI, zI, zI, .nil 3 1, zI, .nil 3 1, zI, zI, .nil 3 1, zI, zB], none, 0, false⟩),
  (51, ⟨true, 16, 0, 176, [(0, 3), (1, 3), (2, 3), (3, 3), (4, 3), (5, 3), (6, 3), (7, 3), (8, 49), (10, 49), (12, 3), (13, 49), (15, 4)], [zI, zI, zI, zI, zI, zI, zI, zI, .nil 3 1, zI, .nil 3 1, zI, zI, .nil 3 1, zI, zB], none, 0, false⟩),
  (54, ⟨true, 2, 0, 32, [(0, 47), (1, 3)], [.nil 3 1, zI], none, 0, false⟩),
  (55, ⟨true, 16, 0, 176, [(0, 3), (1, 3), (2, 3), (3, 3), (4, 3), (5, 3), (6, 3), (7, 3), (8, 54), (10, 54), (12, 3), (13, 54), (15, 4)], [zI, zI, zI, zI, zI, zI, zI, zI, .nil 3 1, zI, .nil 3 1, zI, zI, .nil 3 1, zI, zB], none, 0, false⟩),
  (56, ⟨true, 16, 0, 176, [(0, 3), (1, 3), (2, 3), (3, 3), (4, 3), (5, 3), (6, 3), (7, 3), (8, 54), (10, 54), (12, 3), (13, 54), (15, 4)], [zI, zI, zI, zI, zI, zI, zI, zI, .nil 3 1, zI, .nil 3 1, zI, zI, .nil 3 1, zI, zB], none, 0, false⟩),
  (65, ⟨false, 1, 9, 24, [], [.nil 9 1], none, 0, false⟩),
  (72, ⟨true, 2, 0, 16, [(0, 3), (1, 3)], [zI, zI], none, 0, true⟩),
  (74, ⟨true, 1, 0, 24, [(0, 47)], [.nil 3 1], none, 0, false⟩),
  (75, ⟨true, 1, 0, 24, [(0, 47)], [.nil 3 1], none, 0, false⟩),
  (77, ⟨true, 1, 0, 24, [(0, 47)], [.nil 3 1], none, 0, false⟩),
  (99, ⟨false, 1, 5, 24, [], [.nil 5 1], none, 2, false⟩),
  (104, ⟨false, 1, 0, 8, [], [.pv (.int .u64 0)], some .u64, 0, false⟩),
  (115, ⟨false, 1, 0, 4, [], [.pv (.int .u32 0)], some .u32, 0, false⟩),
  (116, ⟨false, 1, 0, 1, [], [.pv (.int .u8 0)], some .u8, 0, false⟩),
  (117, ⟨false, 1, 0, 1, [], [.pv (.int .u8 0)], some .u8, 0, false⟩),
  (120, ⟨false, 1, 0, 4, [], [.pv (.int .i32 0)], some .i32, 0, false⟩),
  (121, ⟨false, 1, 0, 4, [], [.pv (.int .i32 0)], some .i32, 0, false⟩)],
  [(0, []), (1, []), (2, []), (3, [.one (.sc)]), (4, [.one (.sc)]), (5, [.one (.sc)]), (6, [.one (.sc)]), (7, [.one (.sc)]), (8, [.one (.sc)]), (9, [.one (.sc)]), (10, [.one (.sc)]), (11, [.one (.sc)]), (12, [.one (.sc)]), (13, [.one (.sc)]), (14, [.one (.sc)]), (15, [.one (.sc)]), (16, [.one (.sc)]), (17, [.agg [.sc, .sc]]), (18, [.agg [.sc, .sc]]), (19, [.one (.sc)]), (20, [.one (.sc)]), (21, [.one (.sc)]), (22, [.one (.own true 27 2)]), (23, [.one (.sc)]), (24, [.one (.sc)]), (25, [.one (.sc)]), (26, [.one (.sc)]), (27, [.one (.own true 77 1)]), (28, [.one (.sc)]), (29, [.one (.sc)]), (30, [.one (.sc)]), (31, [.one (.sc)]), (32, [.one (.sc)]), (33, [.one (.sc)]), (34, [.one (.sc)]), (35, [.one (.sc)]), (36, [.agg [.sc, .sc, .sc, .sc, .sc, .sc, .sc, .sc, .own true 3 1, .sc, .own true 3 1, .sc, .sc, .own true 3 1, .sc, .sc]]), (37, [.one (.sc)]), (38, [.one (.sc)]), (39, [.one (.own true 77 1), .one (.sc)]), (40, [.one (.own true 77 1), .one (.sc)]), (41, [.one (.sc)]), (42, [.one (.sc)]), (43, [.one (.own true 77 1), .one (.sc)]), (44, [.one (.own true 77 1), .one (.sc)]), (45, [.one (.sc)]), (46, [.one (.sc)]), (47, [.one (.own true 9 1)]), (48, [.one (.sc)]), (49, [.one (.own true 3 1)]), (50, [.one (.sc)]), (51, [.one (.own true 3 1)]), (52, [.agg [.sc, .sc]]), (53, [.one (.sc)]), (54, [.one (.sc)]), (55, [.one (.sc)]), (56, [.agg [.own true 3 1]]), (57, [.one (.sc)]), (58, [.one (.sc)]), (59, [.one (.sc)]), (60, [.one (.sc)]), (61, [.one (.sc)]), (62, [.one (.sc)]), (63, [.one (.sc)]), (64, [.one (.sc)]), (65, [.one (.sc)]), (66, [.one (.sc)]), (67, [.one (.sc)]), (68, [.one (.sc)]), (69, [.one (.sc)]), (70, [.one (.sc)]), (71, [.one (.sc)]), (72, [.agg [.own true 3 1, .sc]]), (73, [.one (.sc)]), (74, [.agg [.pv, .sc]]), (75, [.one (.sc)]), (76, [.one (.own true 77 1)]), (77, [.one (.own true 77 1)]), (78, [.one (.sc), .one (.sc)]), (79, [.one (.own true 3 1)]), (80, [.one (.sc)]), (81, [.one (.sc)]), (82, [.one (.sc)]), (83, [.one (.sc)]), (84, [.one (.own true 3 1)]), (85, [.one (.sc)]), (86, [.one (.own true 3 1)]), (87, [.one (.sc)]), (88, [.one (.own true 3 1)]), (89, [.one (.sc)]), (90, [.one (.sc)]), (91, [.one (.sc)]), (92, [.one (.sc)]), (93, [.one (.sc)]), (94, [.one (.sc)]), (95, [.one (.own true 3 1)]), (96, [.one (.sc)]), (97, [.one (.sc)]), (98, [.one (.sc)]), (99, []), (100, [.one (.sc)]), (101, []), (102, []), (103, [.one (.sc)]), (104, []), (105, [.one (.sc)]), (106, []), (107, [.one (.sc)]), (108, []), (109, [.one (.sc)]), (110, []), (111, [.one (.sc)]), (112, []), (113, [.one (.sc)]), (114, []), (115, [.one (.sc)]), (116, [.one (.sc)]), (117, []), (118, [.one (.sc)])]⟩
theorem tabok : TabOK Try.prog TT := tabB_ok (by kernel_rfl) (by kernel_rfl)
end Go.Ev
set_option maxRecDepth 100000
set_option linter.unusedVariables false
namespace Go.Ev
open Go.Proofs
--@ spec_BytesToInts
def spec_BytesToInts_r0 (v : List PV) (K : List PV → Prop) (x0k : PV → PV → PV → PV → Prop) : Prop :=
 un 4 (fun v0 v1 v2 v3 =>
  lenP v0 fun r0 =>
  binP .lss v1 r0 fun r1 =>
  iteP r1
   (elemP 1 v0 v1 fun c2 =>
   convP .i64 (atP c2 0) fun r3 =>
   (1 = 1) ∧ (1 ≤ 16777216) ∧ (1 = 1) ∧ (0 = 0) ∧ (1 = 1) ∧ (flatCond [.pv (I 0)] [.pv r3]) ∧ catP 1 v3 (.list 1 [[r3]]) fun r4 =>
   binP .add v1 (I 1) fun r5 =>
   K [v0, r5, v2, r4])
   (x0k v0 v1 v2 v3)) v
def spec_BytesToInts : GM
 | [.one a0], k => 
  lenP a0 fun r0 =>
  (1 = 1) ∧ (1 ≤ 16777216) ∧ (1 = 1) ∧ (0 = 0) ∧ (1 = 1) ∧ (flatCond [.pv (I 0)] [.pv r0]) ∧ lp (fun L w => spec_BytesToInts_r0 w L
   (fun q6 q7 q8 q9 => rt [.own true 3 1] [q9] k)) [a0, (I 0), (.list 1 []), (.list 1 [[r0]])]
 | _, _ => False
abbrev spec_BytesToInts_e : Ent := ⟨[84], spec_BytesToInts⟩
def spec_BytesToInts_l : List LE := [⟨0, ⟨[(0, .one (.pv (.bool false))), (2, .one (.own 1)), (3, .one (.own 0)), (4, .one (.pv (.bool false)))], [], [(1, ⟨.deep, 3, 1, (.bool false)⟩), (0, ⟨.deep, 3, 1, (.bool false)⟩)], 2, 23⟩, fun K k v => spec_BytesToInts_r0 v K (fun x0 x1 x2 x3 => k (.exit 0) ⟨[(0, .one (.pv x0)), (2, .one (.own 1)), (3, .one (.own 0)), (4, .one (.pv x1))], [], [(1, ⟨.deep, 3, 1, x2⟩), (0, ⟨.deep, 3, 1, x3⟩)], 2, 23⟩)⟩]
theorem spec_BytesToInts_s : LEsOK (orac []) TT (kk [0, 2, 3, 4]) (sumsOf spec_BytesToInts_l) Try.f84 spec_BytesToInts_l := ⟨fun v K k h => by
  apply un_all h; exact fun v0 v1 v2 v3 h => Eq.mpr (by kernel_rfl) h
  , trivial⟩
theorem spec_BytesToInts_w : EntOK Try.prog TT spec_BytesToInts_e := ent_ok tabok (L := []) trivial (keep := (kk [0, 2, 3, 4])) (l := spec_BytesToInts_l) Try.func84 (by kernel_rfl) (sg := [.one (.own true 3 1)]) (by kernel_rfl) spec_BytesToInts_s fun av k h => by
  unfold spec_BytesToInts at h; split at h
  · exact Eq.mpr (by kernel_rfl) h
  · exact h.elim

--@ spec_LabelInts
def spec_LabelInts : GM
 | [.one a0], k => 
  bytesP a0 fun r0 =>
  call spec_BytesToInts [.one r0] fun o1 =>
  rt [.own true 3 1] [(atP o1 0)] k
 | _, _ => False
abbrev spec_LabelInts_e : Ent := ⟨[49], spec_LabelInts⟩
theorem spec_LabelInts_w : EntOK Try.prog TT spec_LabelInts_e := ent_ok tabok (L := [spec_BytesToInts_e]) ⟨spec_BytesToInts_w, trivial⟩ (keep := []) (l := []) Try.func49 (by kernel_rfl) (sg := [.one (.own true 3 1)]) (by kernel_rfl) trivial fun av k h => by
  unfold spec_LabelInts at h; split at h
  · exact Eq.mpr (by kernel_rfl) h
  · exact h.elim

--@ spec_l1In
def spec_l1In : GM
 | [.one a0, .one a1, .one a2], k => 
  binP .geq a0 a1 fun r0 =>
  iteP r0
   (binP .leq a0 a2 fun r1 =>
   rt [.sc] [r1] k)
   (rt [.sc] [(.bool false)] k)
 | _, _ => False
abbrev spec_l1In_e : Ent := ⟨[45], spec_l1In⟩
theorem spec_l1In_w : EntOK Try.prog TT spec_l1In_e := ent_ok tabok (L := []) trivial (keep := []) (l := []) Try.func45 (by kernel_rfl) (sg := [.one (.sc)]) (by kernel_rfl) trivial fun av k h => by
  unfold spec_l1In at h; split at h
  · exact Eq.mpr (by kernel_rfl) h
  · exact h.elim

--@ spec_Mod
def spec_Mod : GM
 | [.one a0, .one a1], k => 
  call spec_l1In [.one a1, .one (I 1), .one (I 1000000000000)] fun o0 =>
  unP .not (atP o0 0) fun r1 =>
  iteP r1
   (rt [.sc] [(I 0)] k)
   (binP .rem a0 a1 fun r2 =>
   binP .add r2 a1 fun r3 =>
   binP .rem r3 a1 fun r4 =>
   rt [.sc] [r4] k)
 | _, _ => False
abbrev spec_Mod_e : Ent := ⟨[83], spec_Mod⟩
theorem spec_Mod_w : EntOK Try.prog TT spec_Mod_e := ent_ok tabok (L := [spec_l1In_e]) ⟨spec_l1In_w, trivial⟩ (keep := []) (l := []) Try.func83 (by kernel_rfl) (sg := [.one (.sc)]) (by kernel_rfl) trivial fun av k h => by
  unfold spec_Mod at h; split at h
  · exact Eq.mpr (by kernel_rfl) h
  · exact h.elim

--@ spec_Hash
def spec_Hash_r0 (v : List PV) (K : List PV → Prop) (x0k : PV → PV → PV → PV → Prop) : Prop :=
 un 4 (fun v0 v1 v2 v3 =>
  lenP v0 fun r0 =>
  binP .lss v3 r0 fun r1 =>
  iteP r1
   (binP .mul v2 (I 1000003) fun r2 =>
   elemP 1 v0 v3 fun c3 =>
   call spec_Mod [.one (atP c3 0), .one (I 2147483647)] fun o4 =>
   binP .add r2 (atP o4 0) fun r5 =>
   binP .add r5 (I 13) fun r6 =>
   binP .rem r6 (I 2147483647) fun r7 =>
   binP .add v3 (I 1) fun r8 =>
   K [v0, v1, r7, r8])
   (x0k v0 v1 v2 v3)) v
def spec_Hash : GM
 | [.one a0], k => 
  lp (fun L w => spec_Hash_r0 w L
   (fun q9 q10 q11 q12 => rt [.sc] [q11] k)) [a0, (I 0), (I 11), (I 0)]
 | _, _ => False
abbrev spec_Hash_e : Ent := ⟨[48], spec_Hash⟩
def spec_Hash_l : List LE := [⟨0, ⟨[(0, .one (.pv (.bool false))), (2, .one (.pv (.bool false))), (3, .one (.pv (.bool false))), (4, .one (.pv (.bool false)))], [], [], 0, 22⟩, fun K k v => spec_Hash_r0 v K (fun x0 x1 x2 x3 => k (.exit 0) ⟨[(0, .one (.pv x0)), (2, .one (.pv x1)), (3, .one (.pv x2)), (4, .one (.pv x3))], [], [], 0, 22⟩)⟩]
theorem spec_Hash_s : LEsOK (orac [spec_Mod_e]) TT (kk [0, 2, 3, 4]) (sumsOf spec_Hash_l) Try.f48 spec_Hash_l := ⟨fun v K k h => by
  apply un_all h; exact fun v0 v1 v2 v3 h => Eq.mpr (by kernel_rfl) h
  , trivial⟩
theorem spec_Hash_w : EntOK Try.prog TT spec_Hash_e := ent_ok tabok (L := [spec_Mod_e]) ⟨spec_Mod_w, trivial⟩ (keep := (kk [0, 2, 3, 4])) (l := spec_Hash_l) Try.func48 (by kernel_rfl) (sg := [.one (.sc)]) (by kernel_rfl) spec_Hash_s fun av k h => by
  unfold spec_Hash at h; split at h
  · exact Eq.mpr (by kernel_rfl) h
  · exact h.elim

--@ spec_BucketOf
def spec_BucketOf : GM
 | [.one a0], k => 
  call spec_LabelInts [.one a0] fun o0 =>
  call spec_Hash [.one (atP o0 0)] fun o1 =>
  binP .rem (atP o1 0) (I 4) fun r2 =>
  rt [.sc] [r2] k
 | _, _ => False
abbrev spec_BucketOf_e : Ent := ⟨[15], spec_BucketOf⟩
theorem spec_BucketOf_w : EntOK Try.prog TT spec_BucketOf_e := ent_ok tabok (L := [spec_LabelInts_e, spec_Hash_e]) ⟨spec_LabelInts_w, spec_Hash_w, trivial⟩ (keep := []) (l := []) Try.func15 (by kernel_rfl) (sg := [.one (.sc)]) (by kernel_rfl) trivial fun av k h => by
  unfold spec_BucketOf at h; split at h
  · exact Eq.mpr (by kernel_rfl) h
  · exact h.elim

--@ impl_BytesToInts
def impl_BytesToInts_r0 (v : List PV) (K : List PV → Prop) (x0k : PV → PV → PV → PV → PV → Prop) : Prop :=
 un 5 (fun v0 v1 v2 v3 v4 =>
  binP .lss v2 v1 fun r0 =>
  iteP r0
   (elemP 1 v0 v2 fun c1 =>
   convP .i64 (atP c1 0) fun r2 =>
   (1 = 1) ∧ (1 ≤ 16777216) ∧ (1 = 1) ∧ (0 = 0) ∧ (1 = 1) ∧ (flatCond [.pv (I 0)] [.pv r2]) ∧ catP 1 v4 (.list 1 [[r2]]) fun r3 =>
   binP .add v2 (I 1) fun r4 =>
   K [v0, v1, r4, v3, r3])
   (x0k v0 v1 v2 v3 v4)) v
def impl_BytesToInts : GM
 | [.one a0], k => 
  lenP a0 fun r0 =>
  (1 = 1) ∧ (1 ≤ 16777216) ∧ (1 = 1) ∧ (0 = 0) ∧ (1 = 1) ∧ (flatCond [.pv (I 0)] [.pv r0]) ∧ lenP a0 fun r1 =>
  lp (fun L w => impl_BytesToInts_r0 w L
   (fun q5 q6 q7 q8 q9 => rt [.own true 3 1] [q9] k)) [a0, r1, (I 0), (.list 1 []), (.list 1 [[r0]])]
 | _, _ => False
abbrev impl_BytesToInts_e : Ent := ⟨[86], impl_BytesToInts⟩
def impl_BytesToInts_l : List LE := [⟨0, ⟨[(2, .one (.own 1)), (3, .one (.own 0)), (9, .one (.pv (.bool false))), (10, .one (.pv (.bool false))), (11, .one (.pv (.bool false)))], [], [(1, ⟨.deep, 3, 1, (.bool false)⟩), (0, ⟨.deep, 3, 1, (.bool false)⟩)], 2, 22⟩, fun K k v => impl_BytesToInts_r0 v K (fun x0 x1 x2 x3 x4 => k (.exit 0) ⟨[(2, .one (.own 1)), (3, .one (.own 0)), (9, .one (.pv x0)), (10, .one (.pv x1)), (11, .one (.pv x2))], [], [(1, ⟨.deep, 3, 1, x3⟩), (0, ⟨.deep, 3, 1, x4⟩)], 2, 22⟩)⟩]
theorem impl_BytesToInts_s : LEsOK (orac []) TT (kk [2, 3, 9, 10, 11]) (sumsOf impl_BytesToInts_l) Try.f86 impl_BytesToInts_l := ⟨fun v K k h => by
  apply un_all h; exact fun v0 v1 v2 v3 v4 h => Eq.mpr (by kernel_rfl) h
  , trivial⟩
theorem impl_BytesToInts_w : EntOK Try.prog TT impl_BytesToInts_e := ent_ok tabok (L := []) trivial (keep := (kk [2, 3, 9, 10, 11])) (l := impl_BytesToInts_l) Try.func86 (by kernel_rfl) (sg := [.one (.own true 3 1)]) (by kernel_rfl) impl_BytesToInts_s fun av k h => by
  unfold impl_BytesToInts at h; split at h
  · exact Eq.mpr (by kernel_rfl) h
  · exact h.elim

--@ impl_LabelInts
def impl_LabelInts : GM
 | [.one a0], k => 
  bytesP a0 fun r0 =>
  call impl_BytesToInts [.one r0] fun o1 =>
  rt [.own true 3 1] [(atP o1 0)] k
 | _, _ => False
abbrev impl_LabelInts_e : Ent := ⟨[51], impl_LabelInts⟩
theorem impl_LabelInts_w : EntOK Try.prog TT impl_LabelInts_e := ent_ok tabok (L := [impl_BytesToInts_e]) ⟨impl_BytesToInts_w, trivial⟩ (keep := []) (l := []) Try.func51 (by kernel_rfl) (sg := [.one (.own true 3 1)]) (by kernel_rfl) trivial fun av k h => by
  unfold impl_LabelInts at h; split at h
  · exact Eq.mpr (by kernel_rfl) h
  · exact h.elim

--@ impl_InRange
def impl_InRange : GM
 | [.one a0, .one a1, .one a2], k => 
  binP .leq a1 a0 fun r0 =>
  iteP r0
   (binP .leq a0 a2 fun r1 =>
   rt [.sc] [r1] k)
   (rt [.sc] [(.bool false)] k)
 | _, _ => False
abbrev impl_InRange_e : Ent := ⟨[82], impl_InRange⟩
theorem impl_InRange_w : EntOK Try.prog TT impl_InRange_e := ent_ok tabok (L := []) trivial (keep := []) (l := []) Try.func82 (by kernel_rfl) (sg := [.one (.sc)]) (by kernel_rfl) trivial fun av k h => by
  unfold impl_InRange at h; split at h
  · exact Eq.mpr (by kernel_rfl) h
  · exact h.elim

--@ impl_Mod
def impl_Mod : GM
 | [.one a0, .one a1], k => 
  call impl_InRange [.one a1, .one (I 1), .one (I 1000000000000)] fun o0 =>
  unP .not (atP o0 0) fun r1 =>
  iteP r1
   (rt [.sc] [(I 0)] k)
   (binP .rem a0 a1 fun r2 =>
   binP .add r2 a1 fun r3 =>
   binP .rem r3 a1 fun r4 =>
   rt [.sc] [r4] k)
 | _, _ => False
abbrev impl_Mod_e : Ent := ⟨[85], impl_Mod⟩
theorem impl_Mod_w : EntOK Try.prog TT impl_Mod_e := ent_ok tabok (L := [impl_InRange_e]) ⟨impl_InRange_w, trivial⟩ (keep := []) (l := []) Try.func85 (by kernel_rfl) (sg := [.one (.sc)]) (by kernel_rfl) trivial fun av k h => by
  unfold impl_Mod at h; split at h
  · exact Eq.mpr (by kernel_rfl) h
  · exact h.elim

--@ impl_Hash
def impl_Hash_r0 (v : List PV) (K : List PV → Prop) (x0k : PV → PV → PV → PV → PV → Prop) : Prop :=
 un 5 (fun v0 v1 v2 v3 v4 =>
  binP .lss v4 v3 fun r0 =>
  iteP r0
   (elemP 1 v2 v4 fun c1 =>
   binP .mul v1 (I 1000003) fun r2 =>
   call impl_Mod [.one (atP c1 0), .one (I 2147483647)] fun o3 =>
   binP .add r2 (atP o3 0) fun r4 =>
   binP .add r4 (I 13) fun r5 =>
   binP .rem r5 (I 2147483647) fun r6 =>
   binP .add v4 (I 1) fun r7 =>
   K [v0, r6, v2, v3, r7])
   (x0k v0 v1 v2 v3 v4)) v
def impl_Hash : GM
 | [.one a0], k => 
  lenP a0 fun r0 =>
  lp (fun L w => impl_Hash_r0 w L
   (fun q8 q9 q10 q11 q12 => rt [.sc] [q9] k)) [(I 0), (I 11), a0, r0, (I 0)]
 | _, _ => False
abbrev impl_Hash_e : Ent := ⟨[50], impl_Hash⟩
def impl_Hash_l : List LE := [⟨0, ⟨[(2, .one (.pv (.bool false))), (3, .one (.pv (.bool false))), (6, .one (.pv (.bool false))), (7, .one (.pv (.bool false))), (8, .one (.pv (.bool false)))], [], [], 0, 21⟩, fun K k v => impl_Hash_r0 v K (fun x0 x1 x2 x3 x4 => k (.exit 0) ⟨[(2, .one (.pv x0)), (3, .one (.pv x1)), (6, .one (.pv x2)), (7, .one (.pv x3)), (8, .one (.pv x4))], [], [], 0, 21⟩)⟩]
theorem impl_Hash_s : LEsOK (orac [impl_Mod_e]) TT (kk [2, 3, 6, 7, 8]) (sumsOf impl_Hash_l) Try.f50 impl_Hash_l := ⟨fun v K k h => by
  apply un_all h; exact fun v0 v1 v2 v3 v4 h => Eq.mpr (by kernel_rfl) h
  , trivial⟩
theorem impl_Hash_w : EntOK Try.prog TT impl_Hash_e := ent_ok tabok (L := [impl_Mod_e]) ⟨impl_Mod_w, trivial⟩ (keep := (kk [2, 3, 6, 7, 8])) (l := impl_Hash_l) Try.func50 (by kernel_rfl) (sg := [.one (.sc)]) (by kernel_rfl) impl_Hash_s fun av k h => by
  unfold impl_Hash at h; split at h
  · exact Eq.mpr (by kernel_rfl) h
  · exact h.elim

--@ impl_BucketOf
def impl_BucketOf : GM
 | [.one a0], k => 
  call impl_LabelInts [.one a0] fun o0 =>
  call impl_Hash [.one (atP o0 0)] fun o1 =>
  binP .rem (atP o1 0) (I 4) fun r2 =>
  rt [.sc] [r2] k
 | _, _ => False
abbrev impl_BucketOf_e : Ent := ⟨[16], impl_BucketOf⟩
theorem impl_BucketOf_w : EntOK Try.prog TT impl_BucketOf_e := ent_ok tabok (L := [impl_LabelInts_e, impl_Hash_e]) ⟨impl_LabelInts_w, impl_Hash_w, trivial⟩ (keep := []) (l := []) Try.func16 (by kernel_rfl) (sg := [.one (.sc)]) (by kernel_rfl) trivial fun av k h => by
  unfold impl_BucketOf at h; split at h
  · exact Eq.mpr (by kernel_rfl) h
  · exact h.elim

--@ laws_FnExactBucketOf
def laws_FnExactBucketOf : GM
 | [.one a0], k => 
  lenS a0 fun r0 =>
  binP .gtr r0 (I 1048576) fun r1 =>
  iteP r1
   (rt [.sc] [(.bool true)] k)
   (call spec_BucketOf [.one a0] fun o2 =>
   call impl_BucketOf [.one a0] fun o3 =>
   binP .neq (atP o3 0) (atP o2 0) fun r4 =>
   iteP r4
    (rt [.sc] [(.bool false)] k)
    (rt [.sc] [(.bool true)] k))
 | _, _ => False
abbrev laws_FnExactBucketOf_e : Ent := ⟨[4], laws_FnExactBucketOf⟩
theorem laws_FnExactBucketOf_w : EntOK Try.prog TT laws_FnExactBucketOf_e := ent_ok tabok (L := [spec_BucketOf_e, impl_BucketOf_e]) ⟨spec_BucketOf_w, impl_BucketOf_w, trivial⟩ (keep := []) (l := []) Try.func4 (by kernel_rfl) (sg := [.one (.sc)]) (by kernel_rfl) trivial fun av k h => by
  unfold laws_FnExactBucketOf at h; split at h
  · exact Eq.mpr (by kernel_rfl) h
  · exact h.elim

--@ spec_QuestionFor
def spec_QuestionFor : GM
 | [.one a0, .one a1], k => 
  call spec_BucketOf [.one a1] fun o0 =>
  rt [.sc, .sc] [a0, (atP o0 0)] k
 | _, _ => False
abbrev spec_QuestionFor_e : Ent := ⟨[17], spec_QuestionFor⟩
theorem spec_QuestionFor_w : EntOK Try.prog TT spec_QuestionFor_e := ent_ok tabok (L := [spec_BucketOf_e]) ⟨spec_BucketOf_w, trivial⟩ (keep := []) (l := []) Try.func17 (by kernel_rfl) (sg := [.agg [.sc, .sc]]) (by kernel_rfl) trivial fun av k h => by
  unfold spec_QuestionFor at h; split at h
  · exact Eq.mpr (by kernel_rfl) h
  · exact h.elim

--@ impl_QuestionFor
def impl_QuestionFor : GM
 | [.one a0, .one a1], k => 
  call impl_BucketOf [.one a1] fun o0 =>
  rt [.sc, .sc] [a0, (atP o0 0)] k
 | _, _ => False
abbrev impl_QuestionFor_e : Ent := ⟨[18], impl_QuestionFor⟩
theorem impl_QuestionFor_w : EntOK Try.prog TT impl_QuestionFor_e := ent_ok tabok (L := [impl_BucketOf_e]) ⟨impl_BucketOf_w, trivial⟩ (keep := []) (l := []) Try.func18 (by kernel_rfl) (sg := [.agg [.sc, .sc]]) (by kernel_rfl) trivial fun av k h => by
  unfold impl_QuestionFor at h; split at h
  · exact Eq.mpr (by kernel_rfl) h
  · exact h.elim

--@ laws_eqQuestion
def laws_eqQuestion : GM
 | [.agg u0, .agg u1], k => un 2 (fun a0 a1 => un 2 (fun a2 a3 => 
  binP .neq a0 a2 fun r0 =>
  iteP r0
   (rt [.sc] [(.bool false)] k)
   (binP .neq a1 a3 fun r1 =>
   iteP r1
    (rt [.sc] [(.bool false)] k)
    (rt [.sc] [(.bool true)] k))) u1) u0
 | _, _ => False
abbrev laws_eqQuestion_e : Ent := ⟨[19], laws_eqQuestion⟩
theorem laws_eqQuestion_w : EntOK Try.prog TT laws_eqQuestion_e := ent_ok tabok (L := []) trivial (keep := []) (l := []) Try.func19 (by kernel_rfl) (sg := [.one (.sc)]) (by kernel_rfl) trivial fun av k h => by
  unfold laws_eqQuestion at h; split at h
  · apply un_all h; clear h; intro a0 a1 h; apply un_all h; clear h; intro a2 a3 h; exact Eq.mpr (by kernel_rfl) h
  · exact h.elim

--@ laws_FnExactQuestionFor
def laws_FnExactQuestionFor : GM
 | [.one a0, .one a1], k => 
  lenS a1 fun r0 =>
  binP .gtr r0 (I 1048576) fun r1 =>
  iteP r1
   (rt [.sc] [(.bool true)] k)
   (call spec_QuestionFor [.one a0, .one a1] fun o2 =>
   call impl_QuestionFor [.one a0, .one a1] fun o3 =>
   call laws_eqQuestion [.agg [(atP o3 0), (atP o3 1)], .agg [(atP o2 0), (atP o2 1)]] fun o4 =>
   unP .not (atP o4 0) fun r5 =>
   iteP r5
    (rt [.sc] [(.bool false)] k)
    (rt [.sc] [(.bool true)] k))
 | _, _ => False
abbrev laws_FnExactQuestionFor_e : Ent := ⟨[5], laws_FnExactQuestionFor⟩
theorem laws_FnExactQuestionFor_w : EntOK Try.prog TT laws_FnExactQuestionFor_e := ent_ok tabok (L := [spec_QuestionFor_e, impl_QuestionFor_e, laws_eqQuestion_e]) ⟨spec_QuestionFor_w, impl_QuestionFor_w, laws_eqQuestion_w, trivial⟩ (keep := []) (l := []) Try.func5 (by kernel_rfl) (sg := [.one (.sc)]) (by kernel_rfl) trivial fun av k h => by
  unfold laws_FnExactQuestionFor at h; split at h
  · exact Eq.mpr (by kernel_rfl) h
  · exact h.elim

--@ laws_szQuestionS
def laws_szQuestionS : GM
 | [.one a0, .one a1], k => 
  lenP a0 fun r0 =>
  binP .sub a1 r0 fun r1 =>
  binP .lss r1 (I 0) fun r2 =>
  iteP r2
   (rt [.sc] [(I (-1))] k)
   (rt [.sc] [r1] k)
 | _, _ => False
abbrev laws_szQuestionS_e : Ent := ⟨[20], laws_szQuestionS⟩
theorem laws_szQuestionS_w : EntOK Try.prog TT laws_szQuestionS_e := ent_ok tabok (L := []) trivial (keep := []) (l := []) Try.func20 (by kernel_rfl) (sg := [.one (.sc)]) (by kernel_rfl) trivial fun av k h => by
  unfold laws_szQuestionS at h; split at h
  · exact Eq.mpr (by kernel_rfl) h
  · exact h.elim

--@ laws_toQuestion
def laws_toQuestion : GM
 | [.agg u0], k => un 2 (fun a0 a1 => 
  rt [.sc, .sc] [a0, a1] k) u0
 | _, _ => False
abbrev laws_toQuestion_e : Ent := ⟨[52], laws_toQuestion⟩
theorem laws_toQuestion_w : EntOK Try.prog TT laws_toQuestion_e := ent_ok tabok (L := []) trivial (keep := []) (l := []) Try.func52 (by kernel_rfl) (sg := [.agg [.sc, .sc]]) (by kernel_rfl) trivial fun av k h => by
  unfold laws_toQuestion at h; split at h
  · apply un_all h; clear h; intro a0 a1 h; exact Eq.mpr (by kernel_rfl) h
  · exact h.elim

--@ laws_toQuestionS
def laws_toQuestionS_r0 (v : List PV) (K : List PV → Prop) (x0k : PV → PV → PV → PV → Prop) : Prop :=
 un 4 (fun v0 v1 v2 v3 =>
  lenP v0 fun r0 =>
  binP .lss v1 r0 fun r1 =>
  iteP r1
   (elemP 2 v0 v1 fun c2 =>
   call laws_toQuestion [.agg [(atP c2 0), (atP c2 1)]] fun o3 =>
   boundP 2 v3 v1 fun n4 =>
   (flatCond [.pv (I 0), .pv (I 0)] [.pv (atP o3 0), .pv (atP o3 1)]) ∧ setP v3 n4 0 [(atP o3 0), (atP o3 1)] fun r5 =>
   binP .add v1 (I 1) fun r6 =>
   K [v0, r6, v2, r5])
   (x0k v0 v1 v2 v3)) v
def laws_toQuestionS : GM
 | [.one a0], k => 
  lenP a0 fun r0 =>
  (r0 = r0) ∧ (2 = 2) ∧ makeP 2 r0 [(I 0), (I 0)] fun r1 =>
  lp (fun L w => laws_toQuestionS_r0 w L
   (fun q7 q8 q9 q10 => rt [.own true 27 2] [q10] k)) [a0, (I 0), (.list 2 []), r1]
 | _, _ => False
abbrev laws_toQuestionS_e : Ent := ⟨[22], laws_toQuestionS⟩
def laws_toQuestionS_l : List LE := [⟨0, ⟨[(0, .one (.pv (.bool false))), (2, .one (.own 1)), (3, .one (.own 0)), (4, .one (.pv (.bool false)))], [], [(1, ⟨.deep, 27, 2, (.bool false)⟩), (0, ⟨.deep, 27, 2, (.bool false)⟩)], 2, 23⟩, fun K k v => laws_toQuestionS_r0 v K (fun x0 x1 x2 x3 => k (.exit 0) ⟨[(0, .one (.pv x0)), (2, .one (.own 1)), (3, .one (.own 0)), (4, .one (.pv x1))], [], [(1, ⟨.deep, 27, 2, x2⟩), (0, ⟨.deep, 27, 2, x3⟩)], 2, 23⟩)⟩]
theorem laws_toQuestionS_s : LEsOK (orac [laws_toQuestion_e]) TT (kk [0, 2, 3, 4]) (sumsOf laws_toQuestionS_l) Try.f22 laws_toQuestionS_l := ⟨fun v K k h => by
  apply un_all h; exact fun v0 v1 v2 v3 h => Eq.mpr (by kernel_rfl) h
  , trivial⟩
theorem laws_toQuestionS_w : EntOK Try.prog TT laws_toQuestionS_e := ent_ok tabok (L := [laws_toQuestion_e]) ⟨laws_toQuestion_w, trivial⟩ (keep := (kk [0, 2, 3, 4])) (l := laws_toQuestionS_l) Try.func22 (by kernel_rfl) (sg := [.one (.own true 27 2)]) (by kernel_rfl) laws_toQuestionS_s fun av k h => by
  unfold laws_toQuestionS at h; split at h
  · exact Eq.mpr (by kernel_rfl) h
  · exact h.elim

--@ spec_EqualViews
def spec_EqualViews_r0 (v : List PV) (K : List PV → Prop) (x0k : Prop) (x1k : PV → PV → PV → PV → Prop) : Prop :=
 un 4 (fun v0 v1 v2 v3 =>
  lenP v0 fun r0 =>
  binP .lss v3 r0 fun r1 =>
  iteP r1
   (elemP 2 v0 v3 fun c2 =>
   elemP 2 v1 v3 fun c3 =>
   (kindsP [.pv (I 0), .pv (I 0)] [(atP c2 0), (atP c2 1)]) ∧ (kindsP [.pv (I 0), .pv (I 0)] [(atP c3 0), (atP c3 1)]) ∧ aggP .neq [(atP c2 0), (atP c2 1)] [(atP c3 0), (atP c3 1)] fun r4 =>
   iteP r4
    (x0k)
    (binP .add v3 (I 1) fun r5 =>
    K [v0, v1, v2, r5]))
   (x1k v0 v1 v2 v3)) v
def spec_EqualViews : GM
 | [.one a0, .one a1], k => 
  lenP a0 fun r0 =>
  lenP a1 fun r1 =>
  binP .neq r0 r1 fun r2 =>
  iteP r2
   (rt [.sc] [(.bool false)] k)
   (lp (fun L w => spec_EqualViews_r0 w L
    (rt [.sc] [(.bool false)] k)
    (fun q6 q7 q8 q9 => rt [.sc] [(.bool true)] k)) [a0, a1, (.bool false), (I 0)])
 | _, _ => False
abbrev spec_EqualViews_e : Ent := ⟨[21], spec_EqualViews⟩
def spec_EqualViews_l : List LE := [⟨0, ⟨[(0, .one (.pv (.bool false))), (1, .one (.pv (.bool false))), (4, .one (.pv (.bool false))), (5, .one (.pv (.bool false)))], [], [], 0, 26⟩, fun K k v => spec_EqualViews_r0 v K (k .ret ⟨[(4, .one (.kb false))], [], [], 0, 26⟩) (fun x0 x1 x2 x3 => k (.exit 0) ⟨[(0, .one (.pv x0)), (1, .one (.pv x1)), (4, .one (.pv x2)), (5, .one (.pv x3))], [], [], 0, 26⟩)⟩]
theorem spec_EqualViews_s : LEsOK (orac []) TT (kk [0, 1, 4, 5]) (sumsOf spec_EqualViews_l) Try.f21 spec_EqualViews_l := ⟨fun v K k h => by
  apply un_all h; exact fun v0 v1 v2 v3 h => Eq.mpr (by kernel_rfl) h
  , trivial⟩
theorem spec_EqualViews_w : EntOK Try.prog TT spec_EqualViews_e := ent_ok tabok (L := []) trivial (keep := (kk [0, 1, 4, 5])) (l := spec_EqualViews_l) Try.func21 (by kernel_rfl) (sg := [.one (.sc)]) (by kernel_rfl) spec_EqualViews_s fun av k h => by
  unfold spec_EqualViews at h; split at h
  · exact Eq.mpr (by kernel_rfl) h
  · exact h.elim

--@ slices_Equal_Question
def slices_Equal_Question_r0 (v : List PV) (K : List PV → Prop) (x0k : Prop) (x1k : PV → PV → PV → PV → PV → Prop) : Prop :=
 un 5 (fun v0 v1 v2 v3 v4 =>
  binP .lss v4 v3 fun r0 =>
  iteP r0
   (elemP 2 v0 v4 fun c1 =>
   elemP 2 v1 v4 fun c2 =>
   (kindsP [.pv (I 0), .pv (I 0)] [(atP c1 0), (atP c1 1)]) ∧ (kindsP [.pv (I 0), .pv (I 0)] [(atP c2 0), (atP c2 1)]) ∧ aggP .neq [(atP c1 0), (atP c1 1)] [(atP c2 0), (atP c2 1)] fun r3 =>
   iteP r3
    (x0k)
    (binP .add v4 (I 1) fun r4 =>
    K [v0, v1, v2, v3, r4]))
   (x1k v0 v1 v2 v3 v4)) v
def slices_Equal_Question : GM
 | [.one a0, .one a1], k => 
  lenP a0 fun r0 =>
  lenP a1 fun r1 =>
  binP .neq r0 r1 fun r2 =>
  iteP r2
   (rt [.sc] [(.bool false)] k)
   (lenP a0 fun r3 =>
   lp (fun L w => slices_Equal_Question_r0 w L
    (rt [.sc] [(.bool false)] k)
    (fun q5 q6 q7 q8 q9 => rt [.sc] [(.bool true)] k)) [a0, a1, (.bool false), r3, (I 0)])
 | _, _ => False
abbrev slices_Equal_Question_e : Ent := ⟨[53], slices_Equal_Question⟩
def slices_Equal_Question_l : List LE := [⟨0, ⟨[(0, .one (.pv (.bool false))), (1, .one (.pv (.bool false))), (4, .one (.pv (.bool false))), (12, .one (.pv (.bool false))), (13, .one (.pv (.bool false)))], [], [], 0, 26⟩, fun K k v => slices_Equal_Question_r0 v K (k .ret ⟨[(4, .one (.kb false))], [], [], 0, 26⟩) (fun x0 x1 x2 x3 x4 => k (.exit 0) ⟨[(0, .one (.pv x0)), (1, .one (.pv x1)), (4, .one (.pv x2)), (12, .one (.pv x3)), (13, .one (.pv x4))], [], [], 0, 26⟩)⟩]
theorem slices_Equal_Question_s : LEsOK (orac []) TT (kk [0, 1, 4, 12, 13]) (sumsOf slices_Equal_Question_l) Try.f53 slices_Equal_Question_l := ⟨fun v K k h => by
  apply un_all h; exact fun v0 v1 v2 v3 v4 h => Eq.mpr (by kernel_rfl) h
  , trivial⟩
theorem slices_Equal_Question_w : EntOK Try.prog TT slices_Equal_Question_e := ent_ok tabok (L := []) trivial (keep := (kk [0, 1, 4, 12, 13])) (l := slices_Equal_Question_l) Try.func53 (by kernel_rfl) (sg := [.one (.sc)]) (by kernel_rfl) slices_Equal_Question_s fun av k h => by
  unfold slices_Equal_Question at h; split at h
  · exact Eq.mpr (by kernel_rfl) h
  · exact h.elim

--@ impl_EqualViews
def impl_EqualViews : GM
 | [.one a0, .one a1], k => 
  call slices_Equal_Question [.one a0, .one a1] fun o0 =>
  rt [.sc] [(atP o0 0)] k
 | _, _ => False
abbrev impl_EqualViews_e : Ent := ⟨[23], impl_EqualViews⟩
theorem impl_EqualViews_w : EntOK Try.prog TT impl_EqualViews_e := ent_ok tabok (L := [slices_Equal_Question_e]) ⟨slices_Equal_Question_w, trivial⟩ (keep := []) (l := []) Try.func23 (by kernel_rfl) (sg := [.one (.sc)]) (by kernel_rfl) trivial fun av k h => by
  unfold impl_EqualViews at h; split at h
  · exact Eq.mpr (by kernel_rfl) h
  · exact h.elim

--@ laws_eqQuestionS
def laws_eqQuestionS_r0 (v : List PV) (K : List PV → Prop) (x0k : Prop) (x1k : PV → PV → PV → PV → Prop) : Prop :=
 un 4 (fun v0 v1 v2 v3 =>
  lenP v0 fun r0 =>
  binP .lss v3 r0 fun r1 =>
  iteP r1
   (elemP 2 v0 v3 fun c2 =>
   elemP 2 v1 v3 fun c3 =>
   call laws_eqQuestion [.agg [(atP c2 0), (atP c2 1)], .agg [(atP c3 0), (atP c3 1)]] fun o4 =>
   unP .not (atP o4 0) fun r5 =>
   iteP r5
    (x0k)
    (binP .add v3 (I 1) fun r6 =>
    K [v0, v1, v2, r6]))
   (x1k v0 v1 v2 v3)) v
def laws_eqQuestionS : GM
 | [.one a0, .one a1], k => 
  lenP a0 fun r0 =>
  lenP a1 fun r1 =>
  binP .neq r0 r1 fun r2 =>
  iteP r2
   (rt [.sc] [(.bool false)] k)
   (lp (fun L w => laws_eqQuestionS_r0 w L
    (rt [.sc] [(.bool false)] k)
    (fun q7 q8 q9 q10 => rt [.sc] [(.bool true)] k)) [a0, a1, (.bool false), (I 0)])
 | _, _ => False
abbrev laws_eqQuestionS_e : Ent := ⟨[24], laws_eqQuestionS⟩
def laws_eqQuestionS_l : List LE := [⟨0, ⟨[(0, .one (.pv (.bool false))), (1, .one (.pv (.bool false))), (4, .one (.pv (.bool false))), (5, .one (.pv (.bool false)))], [], [], 0, 27⟩, fun K k v => laws_eqQuestionS_r0 v K (k .ret ⟨[(4, .one (.kb false))], [], [], 1, 27⟩) (fun x0 x1 x2 x3 => k (.exit 0) ⟨[(0, .one (.pv x0)), (1, .one (.pv x1)), (4, .one (.pv x2)), (5, .one (.pv x3))], [], [], 0, 27⟩)⟩]
theorem laws_eqQuestionS_s : LEsOK (orac [laws_eqQuestion_e]) TT (kk [0, 1, 4, 5]) (sumsOf laws_eqQuestionS_l) Try.f24 laws_eqQuestionS_l := ⟨fun v K k h => by
  apply un_all h; exact fun v0 v1 v2 v3 h => Eq.mpr (by kernel_rfl) h
  , trivial⟩
theorem laws_eqQuestionS_w : EntOK Try.prog TT laws_eqQuestionS_e := ent_ok tabok (L := [laws_eqQuestion_e]) ⟨laws_eqQuestion_w, trivial⟩ (keep := (kk [0, 1, 4, 5])) (l := laws_eqQuestionS_l) Try.func24 (by kernel_rfl) (sg := [.one (.sc)]) (by kernel_rfl) laws_eqQuestionS_s fun av k h => by
  unfold laws_eqQuestionS at h; split at h
  · exact Eq.mpr (by kernel_rfl) h
  · exact h.elim

--@ laws_FnExactEqualViews
def laws_FnExactEqualViews : GM
 | [.one a0, .one a1], k => 
  call laws_szQuestionS [.one a0, .one (I 1048576)] fun o0 =>
  binP .lss (atP o0 0) (I 0) fun r1 =>
  iteP r1
   (rt [.sc] [(.bool true)] k)
   (call laws_szQuestionS [.one a1, .one (atP o0 0)] fun o2 =>
   binP .lss (atP o2 0) (I 0) fun r3 =>
   iteP r3
    (rt [.sc] [(.bool true)] k)
    (call laws_toQuestionS [.one a0] fun o4 =>
    call laws_toQuestionS [.one a1] fun o5 =>
    call spec_EqualViews [.one (atP o4 0), .one (atP o5 0)] fun o6 =>
    call laws_toQuestionS [.one a0] fun o7 =>
    call laws_toQuestionS [.one a1] fun o8 =>
    call impl_EqualViews [.one (atP o7 0), .one (atP o8 0)] fun o9 =>
    boolP .neq (atP o9 0) (atP o6 0) fun r10 =>
    iteP r10
     (rt [.sc] [(.bool false)] k)
     (call laws_toQuestionS [.one a0] fun o11 =>
     call laws_eqQuestionS [.one (atP o7 0), .one (atP o11 0)] fun o12 =>
     unP .not (atP o12 0) fun r13 =>
     iteP r13
      (rt [.sc] [(.bool false)] k)
      (call laws_toQuestionS [.one a1] fun o14 =>
      call laws_eqQuestionS [.one (atP o8 0), .one (atP o14 0)] fun o15 =>
      unP .not (atP o15 0) fun r16 =>
      iteP r16
       (rt [.sc] [(.bool false)] k)
       (rt [.sc] [(.bool true)] k)))))
 | _, _ => False
abbrev laws_FnExactEqualViews_e : Ent := ⟨[6], laws_FnExactEqualViews⟩
theorem laws_FnExactEqualViews_w : EntOK Try.prog TT laws_FnExactEqualViews_e := ent_ok tabok (L := [laws_szQuestionS_e, laws_toQuestionS_e, spec_EqualViews_e, impl_EqualViews_e, laws_eqQuestionS_e]) ⟨laws_szQuestionS_w, laws_toQuestionS_w, spec_EqualViews_w, impl_EqualViews_w, laws_eqQuestionS_w, trivial⟩ (keep := []) (l := []) Try.func6 (by kernel_rfl) (sg := [.one (.sc)]) (by kernel_rfl) trivial fun av k h => by
  unfold laws_FnExactEqualViews at h; split at h
  · exact Eq.mpr (by kernel_rfl) h
  · exact h.elim

--@ laws_szIntS
def laws_szIntS : GM
 | [.one a0, .one a1], k => 
  lenP a0 fun r0 =>
  binP .sub a1 r0 fun r1 =>
  binP .lss r1 (I 0) fun r2 =>
  iteP r2
   (rt [.sc] [(I (-1))] k)
   (rt [.sc] [r1] k)
 | _, _ => False
abbrev laws_szIntS_e : Ent := ⟨[87], laws_szIntS⟩
theorem laws_szIntS_w : EntOK Try.prog TT laws_szIntS_e := ent_ok tabok (L := []) trivial (keep := []) (l := []) Try.func87 (by kernel_rfl) (sg := [.one (.sc)]) (by kernel_rfl) trivial fun av k h => by
  unfold laws_szIntS at h; split at h
  · exact Eq.mpr (by kernel_rfl) h
  · exact h.elim

--@ laws_szActor
def laws_szActor : GM
 | [.agg u0, .one a1], k => un 1 (fun a0 => 
  call laws_szIntS [.one a0, .one a1] fun o0 =>
  binP .lss (atP o0 0) (I 0) fun r1 =>
  iteP r1
   (rt [.sc] [(I (-1))] k)
   (rt [.sc] [(atP o0 0)] k)) u0
 | _, _ => False
abbrev laws_szActor_e : Ent := ⟨[54], laws_szActor⟩
theorem laws_szActor_w : EntOK Try.prog TT laws_szActor_e := ent_ok tabok (L := [laws_szIntS_e]) ⟨laws_szIntS_w, trivial⟩ (keep := []) (l := []) Try.func54 (by kernel_rfl) (sg := [.one (.sc)]) (by kernel_rfl) trivial fun av k h => by
  unfold laws_szActor at h; split at h
  · apply un_all h; clear h; intro a0 h; exact Eq.mpr (by kernel_rfl) h
  · exact h.elim

--@ laws_szActorS
def laws_szActorS_r0 (v : List PV) (K : List PV → Prop) (x0k : Prop) (x1k : PV → PV → PV → PV → Prop) : Prop :=
 un 4 (fun v0 v1 v2 v3 =>
  lenP v0 fun r0 =>
  binP .lss v3 r0 fun r1 =>
  iteP r1
   (elemP 1 v0 v3 fun c2 =>
   call laws_szActor [.agg [(atP c2 0)], .one v1] fun o3 =>
   binP .lss (atP o3 0) (I 0) fun r4 =>
   iteP r4
    (x0k)
    (binP .add v3 (I 1) fun r5 =>
    K [v0, (atP o3 0), v2, r5]))
   (x1k v0 v1 v2 v3)) v
def laws_szActorS : GM
 | [.one a0, .one a1], k => 
  lenP a0 fun r0 =>
  binP .sub a1 r0 fun r1 =>
  binP .lss r1 (I 0) fun r2 =>
  iteP r2
   (rt [.sc] [(I (-1))] k)
   (lp (fun L w => laws_szActorS_r0 w L
    (rt [.sc] [(I (-1))] k)
    (fun q6 q7 q8 q9 => rt [.sc] [q7] k)) [a0, r1, (I 0), (I 0)])
 | _, _ => False
abbrev laws_szActorS_e : Ent := ⟨[25], laws_szActorS⟩
def laws_szActorS_l : List LE := [⟨0, ⟨[(0, .one (.pv (.bool false))), (1, .one (.pv (.bool false))), (4, .one (.pv (.bool false))), (5, .one (.pv (.bool false)))], [], [], 0, 27⟩, fun K k v => laws_szActorS_r0 v K (k .ret ⟨[(4, .one (.pv (I (-1))))], [], [], 1, 27⟩) (fun x0 x1 x2 x3 => k (.exit 0) ⟨[(0, .one (.pv x0)), (1, .one (.pv x1)), (4, .one (.pv x2)), (5, .one (.pv x3))], [], [], 0, 27⟩)⟩]
theorem laws_szActorS_s : LEsOK (orac [laws_szActor_e]) TT (kk [0, 1, 4, 5]) (sumsOf laws_szActorS_l) Try.f25 laws_szActorS_l := ⟨fun v K k h => by
  apply un_all h; exact fun v0 v1 v2 v3 h => Eq.mpr (by kernel_rfl) h
  , trivial⟩
theorem laws_szActorS_w : EntOK Try.prog TT laws_szActorS_e := ent_ok tabok (L := [laws_szActor_e]) ⟨laws_szActor_w, trivial⟩ (keep := (kk [0, 1, 4, 5])) (l := laws_szActorS_l) Try.func25 (by kernel_rfl) (sg := [.one (.sc)]) (by kernel_rfl) laws_szActorS_s fun av k h => by
  unfold laws_szActorS at h; split at h
  · exact Eq.mpr (by kernel_rfl) h
  · exact h.elim

--@ laws_toIntS
def laws_toIntS_r0 (v : List PV) (K : List PV → Prop) (x0k : PV → PV → PV → PV → Prop) : Prop :=
 un 4 (fun v0 v1 v2 v3 =>
  lenP v0 fun r0 =>
  binP .lss v1 r0 fun r1 =>
  iteP r1
   (elemP 1 v0 v1 fun c2 =>
   boundP 1 v3 v1 fun n3 =>
   (flatCond [.pv (I 0)] [.pv (atP c2 0)]) ∧ setP v3 n3 0 [(atP c2 0)] fun r4 =>
   binP .add v1 (I 1) fun r5 =>
   K [v0, r5, v2, r4])
   (x0k v0 v1 v2 v3)) v
def laws_toIntS : GM
 | [.one a0], k => 
  lenP a0 fun r0 =>
  (r0 = r0) ∧ (1 = 1) ∧ makeP 1 r0 [(I 0)] fun r1 =>
  lp (fun L w => laws_toIntS_r0 w L
   (fun q6 q7 q8 q9 => rt [.own true 3 1] [q9] k)) [a0, (I 0), (.list 1 []), r1]
 | _, _ => False
abbrev laws_toIntS_e : Ent := ⟨[88], laws_toIntS⟩
def laws_toIntS_l : List LE := [⟨0, ⟨[(0, .one (.pv (.bool false))), (2, .one (.own 1)), (3, .one (.own 0)), (4, .one (.pv (.bool false)))], [], [(1, ⟨.deep, 3, 1, (.bool false)⟩), (0, ⟨.deep, 3, 1, (.bool false)⟩)], 2, 22⟩, fun K k v => laws_toIntS_r0 v K (fun x0 x1 x2 x3 => k (.exit 0) ⟨[(0, .one (.pv x0)), (2, .one (.own 1)), (3, .one (.own 0)), (4, .one (.pv x1))], [], [(1, ⟨.deep, 3, 1, x2⟩), (0, ⟨.deep, 3, 1, x3⟩)], 2, 22⟩)⟩]
theorem laws_toIntS_s : LEsOK (orac []) TT (kk [0, 2, 3, 4]) (sumsOf laws_toIntS_l) Try.f88 laws_toIntS_l := ⟨fun v K k h => by
  apply un_all h; exact fun v0 v1 v2 v3 h => Eq.mpr (by kernel_rfl) h
  , trivial⟩
theorem laws_toIntS_w : EntOK Try.prog TT laws_toIntS_e := ent_ok tabok (L := []) trivial (keep := (kk [0, 2, 3, 4])) (l := laws_toIntS_l) Try.func88 (by kernel_rfl) (sg := [.one (.own true 3 1)]) (by kernel_rfl) laws_toIntS_s fun av k h => by
  unfold laws_toIntS at h; split at h
  · exact Eq.mpr (by kernel_rfl) h
  · exact h.elim

--@ laws_toActor
def laws_toActor : GM
 | [.agg u0], k => un 1 (fun a0 => 
  call laws_toIntS [.one a0] fun o0 =>
  rt [.own true 3 1] [(atP o0 0)] k) u0
 | _, _ => False
abbrev laws_toActor_e : Ent := ⟨[56], laws_toActor⟩
theorem laws_toActor_w : EntOK Try.prog TT laws_toActor_e := ent_ok tabok (L := [laws_toIntS_e]) ⟨laws_toIntS_w, trivial⟩ (keep := []) (l := []) Try.func56 (by kernel_rfl) (sg := [.agg [.own true 3 1]]) (by kernel_rfl) trivial fun av k h => by
  unfold laws_toActor at h; split at h
  · apply un_all h; clear h; intro a0 h; exact Eq.mpr (by kernel_rfl) h
  · exact h.elim

--@ laws_toActorS
def laws_toActorS_r0 (v : List PV) (K : List PV → Prop) (x0k : PV → PV → PV → PV → Prop) : Prop :=
 un 4 (fun v0 v1 v2 v3 =>
  lenP v0 fun r0 =>
  binP .lss v1 r0 fun r1 =>
  iteP r1
   (elemP 1 v0 v1 fun c2 =>
   call laws_toActor [.agg [(atP c2 0)]] fun o3 =>
   boundP 1 v3 v1 fun n4 =>
   (flatCond [.nil 3 1] [.own 2]) ∧ setP v3 n4 0 [(atP o3 0)] fun r5 =>
   binP .add v1 (I 1) fun r6 =>
   K [v0, r6, v2, r5])
   (x0k v0 v1 v2 v3)) v
def laws_toActorS : GM
 | [.one a0], k => 
  lenP a0 fun r0 =>
  (r0 = r0) ∧ (1 = 1) ∧ makeP 1 r0 [(.list 1 [])] fun r1 =>
  lp (fun L w => laws_toActorS_r0 w L
   (fun q7 q8 q9 q10 => rt [.own true 77 1] [q10] k)) [a0, (I 0), (.list 1 []), r1]
 | _, _ => False
abbrev laws_toActorS_e : Ent := ⟨[27], laws_toActorS⟩
def laws_toActorS_l : List LE := [⟨0, ⟨[(0, .one (.pv (.bool false))), (2, .one (.own 1)), (3, .one (.own 0)), (4, .one (.pv (.bool false)))], [], [(1, ⟨.deep, 77, 1, (.bool false)⟩), (0, ⟨.deep, 77, 1, (.bool false)⟩)], 2, 23⟩, fun K k v => laws_toActorS_r0 v K (fun x0 x1 x2 x3 => k (.exit 0) ⟨[(0, .one (.pv x0)), (2, .one (.own 1)), (3, .one (.own 0)), (4, .one (.pv x1))], [], [(1, ⟨.deep, 77, 1, x2⟩), (0, ⟨.deep, 77, 1, x3⟩)], 2, 23⟩)⟩]
theorem laws_toActorS_s : LEsOK (orac [laws_toActor_e]) TT (kk [0, 2, 3, 4]) (sumsOf laws_toActorS_l) Try.f27 laws_toActorS_l := ⟨fun v K k h => by
  apply un_all h; exact fun v0 v1 v2 v3 h => Eq.mpr (by kernel_rfl) h
  , trivial⟩
theorem laws_toActorS_w : EntOK Try.prog TT laws_toActorS_e := ent_ok tabok (L := [laws_toActor_e]) ⟨laws_toActor_w, trivial⟩ (keep := (kk [0, 2, 3, 4])) (l := laws_toActorS_l) Try.func27 (by kernel_rfl) (sg := [.one (.own true 77 1)]) (by kernel_rfl) laws_toActorS_s fun av k h => by
  unfold laws_toActorS at h; split at h
  · exact Eq.mpr (by kernel_rfl) h
  · exact h.elim

--@ spec_l6Has
def spec_l6Has_r0 (v : List PV) (K : List PV → Prop) (x0k : Prop) (x1k : PV → PV → PV → PV → Prop) : Prop :=
 un 4 (fun v0 v1 v2 v3 =>
  lenP v0 fun r0 =>
  binP .lss v3 r0 fun r1 =>
  iteP r1
   (elemP 1 v0 v3 fun c2 =>
   binP .eql (atP c2 0) v1 fun r3 =>
   iteP r3
    (x0k)
    (binP .add v3 (I 1) fun r4 =>
    K [v0, v1, v2, r4]))
   (x1k v0 v1 v2 v3)) v
def spec_l6Has : GM
 | [.one a0, .one a1], k => 
  lp (fun L w => spec_l6Has_r0 w L
   (rt [.sc] [(.bool true)] k)
   (fun q5 q6 q7 q8 => rt [.sc] [(.bool false)] k)) [a0, a1, (.bool false), (I 0)]
 | _, _ => False
abbrev spec_l6Has_e : Ent := ⟨[55], spec_l6Has⟩
def spec_l6Has_l : List LE := [⟨0, ⟨[(0, .one (.pv (.bool false))), (1, .one (.pv (.bool false))), (4, .one (.pv (.bool false))), (5, .one (.pv (.bool false)))], [], [], 0, 18⟩, fun K k v => spec_l6Has_r0 v K (k .ret ⟨[(4, .one (.kb true))], [], [], 0, 18⟩) (fun x0 x1 x2 x3 => k (.exit 0) ⟨[(0, .one (.pv x0)), (1, .one (.pv x1)), (4, .one (.pv x2)), (5, .one (.pv x3))], [], [], 0, 18⟩)⟩]
theorem spec_l6Has_s : LEsOK (orac []) TT (kk [0, 1, 4, 5]) (sumsOf spec_l6Has_l) Try.f55 spec_l6Has_l := ⟨fun v K k h => by
  apply un_all h; exact fun v0 v1 v2 v3 h => Eq.mpr (by kernel_rfl) h
  , trivial⟩
theorem spec_l6Has_w : EntOK Try.prog TT spec_l6Has_e := ent_ok tabok (L := []) trivial (keep := (kk [0, 1, 4, 5])) (l := spec_l6Has_l) Try.func55 (by kernel_rfl) (sg := [.one (.sc)]) (by kernel_rfl) spec_l6Has_s fun av k h => by
  unfold spec_l6Has at h; split at h
  · exact Eq.mpr (by kernel_rfl) h
  · exact h.elim

--@ spec_HoldsKey
def spec_HoldsKey : GM
 | [.one a0, .one a1, .one a2], k => 
  lenP a0 fun r0 =>
  binP .sub r0 (I 1) fun r1 =>
  call spec_l1In [.one a1, .one (I 0), .one r1] fun o2 =>
  iteP (atP o2 0)
   (elemP 1 a0 a1 fun c3 =>
   call spec_l6Has [.one (atP c3 0), .one a2] fun o4 =>
   rt [.sc] [(atP o4 0)] k)
   (rt [.sc] [(.bool false)] k)
 | _, _ => False
abbrev spec_HoldsKey_e : Ent := ⟨[26], spec_HoldsKey⟩
theorem spec_HoldsKey_w : EntOK Try.prog TT spec_HoldsKey_e := ent_ok tabok (L := [spec_l1In_e, spec_l6Has_e]) ⟨spec_l1In_w, spec_l6Has_w, trivial⟩ (keep := []) (l := []) Try.func26 (by kernel_rfl) (sg := [.one (.sc)]) (by kernel_rfl) trivial fun av k h => by
  unfold spec_HoldsKey at h; split at h
  · exact Eq.mpr (by kernel_rfl) h
  · exact h.elim

--@ impl_isActor
def impl_isActor : GM
 | [.one a0, .one a1], k => 
  lenP a0 fun r0 =>
  binP .sub r0 (I 1) fun r1 =>
  call impl_InRange [.one a1, .one (I 0), .one r1] fun o2 =>
  rt [.sc] [(atP o2 0)] k
 | _, _ => False
abbrev impl_isActor_e : Ent := ⟨[57], impl_isActor⟩
theorem impl_isActor_w : EntOK Try.prog TT impl_isActor_e := ent_ok tabok (L := [impl_InRange_e]) ⟨impl_InRange_w, trivial⟩ (keep := []) (l := []) Try.func57 (by kernel_rfl) (sg := [.one (.sc)]) (by kernel_rfl) trivial fun av k h => by
  unfold impl_isActor at h; split at h
  · exact Eq.mpr (by kernel_rfl) h
  · exact h.elim

--@ slices_Index_int
def slices_Index_int_r0 (v : List PV) (K : List PV → Prop) (x0k : PV → Prop) (x1k : PV → PV → PV → PV → PV → Prop) : Prop :=
 un 5 (fun v0 v1 v2 v3 v4 =>
  binP .lss v4 v3 fun r0 =>
  iteP r0
   (elemP 1 v0 v4 fun c1 =>
   binP .eql v1 (atP c1 0) fun r2 =>
   iteP r2
    (x0k v4)
    (binP .add v4 (I 1) fun r3 =>
    K [v0, v1, v2, v3, r3]))
   (x1k v0 v1 v2 v3 v4)) v
def slices_Index_int : GM
 | [.one a0, .one a1], k => 
  lenP a0 fun r0 =>
  lp (fun L w => slices_Index_int_r0 w L
   (fun q4 => rt [.sc] [q4] k)
   (fun q5 q6 q7 q8 q9 => rt [.sc] [(I (-1))] k)) [a0, a1, (I 0), r0, (I 0)]
 | _, _ => False
abbrev slices_Index_int_e : Ent := ⟨[89], slices_Index_int⟩
def slices_Index_int_l : List LE := [⟨0, ⟨[(0, .one (.pv (.bool false))), (1, .one (.pv (.bool false))), (4, .one (.pv (.bool false))), (7, .one (.pv (.bool false))), (8, .one (.pv (.bool false)))], [], [], 0, 19⟩, fun K k v => slices_Index_int_r0 v K (fun x0 => k .ret ⟨[(4, .one (.pv x0))], [], [], 0, 19⟩) (fun x0 x1 x2 x3 x4 => k (.exit 0) ⟨[(0, .one (.pv x0)), (1, .one (.pv x1)), (4, .one (.pv x2)), (7, .one (.pv x3)), (8, .one (.pv x4))], [], [], 0, 19⟩)⟩]
theorem slices_Index_int_s : LEsOK (orac []) TT (kk [0, 1, 4, 7, 8]) (sumsOf slices_Index_int_l) Try.f89 slices_Index_int_l := ⟨fun v K k h => by
  apply un_all h; exact fun v0 v1 v2 v3 v4 h => Eq.mpr (by kernel_rfl) h
  , trivial⟩
theorem slices_Index_int_w : EntOK Try.prog TT slices_Index_int_e := ent_ok tabok (L := []) trivial (keep := (kk [0, 1, 4, 7, 8])) (l := slices_Index_int_l) Try.func89 (by kernel_rfl) (sg := [.one (.sc)]) (by kernel_rfl) slices_Index_int_s fun av k h => by
  unfold slices_Index_int at h; split at h
  · exact Eq.mpr (by kernel_rfl) h
  · exact h.elim

--@ slices_Contains_int
def slices_Contains_int : GM
 | [.one a0, .one a1], k => 
  call slices_Index_int [.one a0, .one a1] fun o0 =>
  binP .geq (atP o0 0) (I 0) fun r1 =>
  rt [.sc] [r1] k
 | _, _ => False
abbrev slices_Contains_int_e : Ent := ⟨[58], slices_Contains_int⟩
theorem slices_Contains_int_w : EntOK Try.prog TT slices_Contains_int_e := ent_ok tabok (L := [slices_Index_int_e]) ⟨slices_Index_int_w, trivial⟩ (keep := []) (l := []) Try.func58 (by kernel_rfl) (sg := [.one (.sc)]) (by kernel_rfl) trivial fun av k h => by
  unfold slices_Contains_int at h; split at h
  · exact Eq.mpr (by kernel_rfl) h
  · exact h.elim

--@ impl_HoldsKey
def impl_HoldsKey : GM
 | [.one a0, .one a1, .one a2], k => 
  call impl_isActor [.one a0, .one a1] fun o0 =>
  iteP (atP o0 0)
   (elemP 1 a0 a1 fun c1 =>
   call slices_Contains_int [.one (atP c1 0), .one a2] fun o2 =>
   rt [.sc] [(atP o2 0)] k)
   (rt [.sc] [(.bool false)] k)
 | _, _ => False
abbrev impl_HoldsKey_e : Ent := ⟨[28], impl_HoldsKey⟩
theorem impl_HoldsKey_w : EntOK Try.prog TT impl_HoldsKey_e := ent_ok tabok (L := [impl_isActor_e, slices_Contains_int_e]) ⟨impl_isActor_w, slices_Contains_int_w, trivial⟩ (keep := []) (l := []) Try.func28 (by kernel_rfl) (sg := [.one (.sc)]) (by kernel_rfl) trivial fun av k h => by
  unfold impl_HoldsKey at h; split at h
  · exact Eq.mpr (by kernel_rfl) h
  · exact h.elim

--@ laws_eqIntS
def laws_eqIntS_r0 (v : List PV) (K : List PV → Prop) (x0k : Prop) (x1k : PV → PV → PV → PV → Prop) : Prop :=
 un 4 (fun v0 v1 v2 v3 =>
  lenP v0 fun r0 =>
  binP .lss v3 r0 fun r1 =>
  iteP r1
   (elemP 1 v0 v3 fun c2 =>
   elemP 1 v1 v3 fun c3 =>
   binP .neq (atP c2 0) (atP c3 0) fun r4 =>
   iteP r4
    (x0k)
    (binP .add v3 (I 1) fun r5 =>
    K [v0, v1, v2, r5]))
   (x1k v0 v1 v2 v3)) v
def laws_eqIntS : GM
 | [.one a0, .one a1], k => 
  lenP a0 fun r0 =>
  lenP a1 fun r1 =>
  binP .neq r0 r1 fun r2 =>
  iteP r2
   (rt [.sc] [(.bool false)] k)
   (lp (fun L w => laws_eqIntS_r0 w L
    (rt [.sc] [(.bool false)] k)
    (fun q6 q7 q8 q9 => rt [.sc] [(.bool true)] k)) [a0, a1, (.bool false), (I 0)])
 | _, _ => False
abbrev laws_eqIntS_e : Ent := ⟨[90], laws_eqIntS⟩
def laws_eqIntS_l : List LE := [⟨0, ⟨[(0, .one (.pv (.bool false))), (1, .one (.pv (.bool false))), (4, .one (.pv (.bool false))), (5, .one (.pv (.bool false)))], [], [], 0, 26⟩, fun K k v => laws_eqIntS_r0 v K (k .ret ⟨[(4, .one (.kb false))], [], [], 0, 26⟩) (fun x0 x1 x2 x3 => k (.exit 0) ⟨[(0, .one (.pv x0)), (1, .one (.pv x1)), (4, .one (.pv x2)), (5, .one (.pv x3))], [], [], 0, 26⟩)⟩]
theorem laws_eqIntS_s : LEsOK (orac []) TT (kk [0, 1, 4, 5]) (sumsOf laws_eqIntS_l) Try.f90 laws_eqIntS_l := ⟨fun v K k h => by
  apply un_all h; exact fun v0 v1 v2 v3 h => Eq.mpr (by kernel_rfl) h
  , trivial⟩
theorem laws_eqIntS_w : EntOK Try.prog TT laws_eqIntS_e := ent_ok tabok (L := []) trivial (keep := (kk [0, 1, 4, 5])) (l := laws_eqIntS_l) Try.func90 (by kernel_rfl) (sg := [.one (.sc)]) (by kernel_rfl) laws_eqIntS_s fun av k h => by
  unfold laws_eqIntS at h; split at h
  · exact Eq.mpr (by kernel_rfl) h
  · exact h.elim

--@ laws_eqActor
def laws_eqActor : GM
 | [.agg u0, .agg u1], k => un 1 (fun a0 => un 1 (fun a1 => 
  call laws_eqIntS [.one a0, .one a1] fun o0 =>
  unP .not (atP o0 0) fun r1 =>
  iteP r1
   (rt [.sc] [(.bool false)] k)
   (rt [.sc] [(.bool true)] k)) u1) u0
 | _, _ => False
abbrev laws_eqActor_e : Ent := ⟨[59], laws_eqActor⟩
theorem laws_eqActor_w : EntOK Try.prog TT laws_eqActor_e := ent_ok tabok (L := [laws_eqIntS_e]) ⟨laws_eqIntS_w, trivial⟩ (keep := []) (l := []) Try.func59 (by kernel_rfl) (sg := [.one (.sc)]) (by kernel_rfl) trivial fun av k h => by
  unfold laws_eqActor at h; split at h
  · apply un_all h; clear h; intro a0 h; apply un_all h; clear h; intro a1 h; exact Eq.mpr (by kernel_rfl) h
  · exact h.elim

--@ laws_eqActorS
def laws_eqActorS_r0 (v : List PV) (K : List PV → Prop) (x0k : Prop) (x1k : PV → PV → PV → PV → Prop) : Prop :=
 un 4 (fun v0 v1 v2 v3 =>
  lenP v0 fun r0 =>
  binP .lss v3 r0 fun r1 =>
  iteP r1
   (elemP 1 v0 v3 fun c2 =>
   elemP 1 v1 v3 fun c3 =>
   call laws_eqActor [.agg [(atP c2 0)], .agg [(atP c3 0)]] fun o4 =>
   unP .not (atP o4 0) fun r5 =>
   iteP r5
    (x0k)
    (binP .add v3 (I 1) fun r6 =>
    K [v0, v1, v2, r6]))
   (x1k v0 v1 v2 v3)) v
def laws_eqActorS : GM
 | [.one a0, .one a1], k => 
  lenP a0 fun r0 =>
  lenP a1 fun r1 =>
  binP .neq r0 r1 fun r2 =>
  iteP r2
   (rt [.sc] [(.bool false)] k)
   (lp (fun L w => laws_eqActorS_r0 w L
    (rt [.sc] [(.bool false)] k)
    (fun q7 q8 q9 q10 => rt [.sc] [(.bool true)] k)) [a0, a1, (.bool false), (I 0)])
 | _, _ => False
abbrev laws_eqActorS_e : Ent := ⟨[29], laws_eqActorS⟩
def laws_eqActorS_l : List LE := [⟨0, ⟨[(0, .one (.pv (.bool false))), (1, .one (.pv (.bool false))), (4, .one (.pv (.bool false))), (5, .one (.pv (.bool false)))], [], [], 0, 27⟩, fun K k v => laws_eqActorS_r0 v K (k .ret ⟨[(4, .one (.kb false))], [], [], 1, 27⟩) (fun x0 x1 x2 x3 => k (.exit 0) ⟨[(0, .one (.pv x0)), (1, .one (.pv x1)), (4, .one (.pv x2)), (5, .one (.pv x3))], [], [], 0, 27⟩)⟩]
theorem laws_eqActorS_s : LEsOK (orac [laws_eqActor_e]) TT (kk [0, 1, 4, 5]) (sumsOf laws_eqActorS_l) Try.f29 laws_eqActorS_l := ⟨fun v K k h => by
  apply un_all h; exact fun v0 v1 v2 v3 h => Eq.mpr (by kernel_rfl) h
  , trivial⟩
theorem laws_eqActorS_w : EntOK Try.prog TT laws_eqActorS_e := ent_ok tabok (L := [laws_eqActor_e]) ⟨laws_eqActor_w, trivial⟩ (keep := (kk [0, 1, 4, 5])) (l := laws_eqActorS_l) Try.func29 (by kernel_rfl) (sg := [.one (.sc)]) (by kernel_rfl) laws_eqActorS_s fun av k h => by
  unfold laws_eqActorS at h; split at h
  · exact Eq.mpr (by kernel_rfl) h
  · exact h.elim

--@ laws_FnExactHoldsKey
def laws_FnExactHoldsKey : GM
 | [.one a0, .one a1, .one a2], k => 
  call laws_szActorS [.one a0, .one (I 1048576)] fun o0 =>
  binP .lss (atP o0 0) (I 0) fun r1 =>
  iteP r1
   (rt [.sc] [(.bool true)] k)
   (call laws_toActorS [.one a0] fun o2 =>
   call spec_HoldsKey [.one (atP o2 0), .one a1, .one a2] fun o3 =>
   call laws_toActorS [.one a0] fun o4 =>
   call impl_HoldsKey [.one (atP o4 0), .one a1, .one a2] fun o5 =>
   boolP .neq (atP o5 0) (atP o3 0) fun r6 =>
   iteP r6
    (rt [.sc] [(.bool false)] k)
    (call laws_toActorS [.one a0] fun o7 =>
    call laws_eqActorS [.one (atP o4 0), .one (atP o7 0)] fun o8 =>
    unP .not (atP o8 0) fun r9 =>
    iteP r9
     (rt [.sc] [(.bool false)] k)
     (rt [.sc] [(.bool true)] k)))
 | _, _ => False
abbrev laws_FnExactHoldsKey_e : Ent := ⟨[7], laws_FnExactHoldsKey⟩
theorem laws_FnExactHoldsKey_w : EntOK Try.prog TT laws_FnExactHoldsKey_e := ent_ok tabok (L := [laws_szActorS_e, laws_toActorS_e, spec_HoldsKey_e, impl_HoldsKey_e, laws_eqActorS_e]) ⟨laws_szActorS_w, laws_toActorS_w, spec_HoldsKey_w, impl_HoldsKey_w, laws_eqActorS_w, trivial⟩ (keep := []) (l := []) Try.func7 (by kernel_rfl) (sg := [.one (.sc)]) (by kernel_rfl) trivial fun av k h => by
  unfold laws_FnExactHoldsKey at h; split at h
  · exact Eq.mpr (by kernel_rfl) h
  · exact h.elim

--@ spec_AreActors
def spec_AreActors_r1 (v : List PV) (K : List PV → Prop) (x0k : Prop) (x1k : PV → PV → PV → PV → PV → Prop) : Prop :=
 un 5 (fun v0 v1 v2 v3 v4 =>
  lenP v3 fun r0 =>
  binP .lss v4 r0 fun r1 =>
  iteP r1
   (elemP 1 v3 v4 fun c2 =>
   call spec_l1In [.one (atP c2 0), .one (I 1), .one (I 99)] fun o3 =>
   unP .not (atP o3 0) fun r4 =>
   iteP r4
    (x0k)
    (binP .gtr v4 (I 0) fun r5 =>
    iteP r5
     (binP .sub v4 (I 1) fun r6 =>
     elemP 1 v3 r6 fun c7 =>
     elemP 1 v3 v4 fun c8 =>
     binP .geq (atP c7 0) (atP c8 0) fun r9 =>
     iteP r9
      (x0k)
      (binP .add v4 (I 1) fun r10 =>
      K [v0, v1, v2, v3, r10]))
     (binP .add v4 (I 1) fun r11 =>
     K [v0, v1, v2, v3, r11])))
   (x1k v0 v1 v2 v3 v4)) v
def spec_AreActors_r0 (v : List PV) (K : List PV → Prop) (x0k : Prop) (x1k : Prop) (x2k : PV → PV → PV → Prop) : Prop :=
 un 3 (fun v0 v1 v2 =>
  lenP v0 fun r0 =>
  binP .lss v2 r0 fun r1 =>
  iteP r1
   (elemP 1 v0 v2 fun c2 =>
   lp (fun L w => spec_AreActors_r1 w L
    (x0k)
    (fun q12 q13 q14 q15 q16 => lenP q15 fun r17 =>
     binP .gtr r17 (I 20) fun r18 =>
     iteP r18
      (x1k)
      (binP .add q14 (I 1) fun r19 =>
      K [q12, q13, r19]))) [v0, v1, v2, (atP c2 0), (I 0)])
   (x2k v0 v1 v2)) v
def spec_AreActors : GM
 | [.one a0], k => 
  lp (fun L w => spec_AreActors_r0 w L
   (rt [.sc] [(.bool false)] k)
   (rt [.sc] [(.bool false)] k)
   (fun q20 q21 q22 => lenP q20 fun r23 =>
    binP .leq r23 (I 4) fun r24 =>
    rt [.sc] [r24] k)) [a0, (.bool false), (I 0)]
 | _, _ => False
abbrev spec_AreActors_e : Ent := ⟨[30], spec_AreActors⟩
def spec_AreActors_l : List LE := [⟨1, ⟨[(0, .one (.pv (.bool false))), (2, .one (.pv (.bool false))), (3, .one (.pv (.bool false))), (4, .one (.pv (.bool false))), (5, .one (.pv (.bool false)))], [], [], 0, 51⟩, fun K k v => spec_AreActors_r1 v K (k .ret ⟨[(2, .one (.kb false))], [], [], 1, 51⟩) (fun x0 x1 x2 x3 x4 => k (.exit 2) ⟨[(0, .one (.pv x0)), (2, .one (.pv x1)), (3, .one (.pv x2)), (4, .one (.pv x3)), (5, .one (.pv x4))], [], [], 0, 51⟩)⟩,
  ⟨0, ⟨[(0, .one (.pv (.bool false))), (2, .one (.pv (.bool false))), (3, .one (.pv (.bool false)))], [], [], 0, 51⟩, fun K k v => spec_AreActors_r0 v K (k .ret ⟨[(2, .one (.kb false))], [], [], 1, 51⟩) (k .ret ⟨[(2, .one (.kb false))], [], [], 0, 51⟩) (fun x0 x1 x2 => k (.exit 0) ⟨[(0, .one (.pv x0)), (2, .one (.pv x1)), (3, .one (.pv x2))], [], [], 0, 51⟩)⟩]
theorem spec_AreActors_s : LEsOK (orac [spec_l1In_e]) TT (kk [0, 2, 3, 4, 5, 30, 31, 32, 33, 34, 35, 36, 37, 38, 39, 40, 41, 42, 43]) (sumsOf spec_AreActors_l) Try.f30 spec_AreActors_l := ⟨fun v K k h => by
  apply un_all h; exact fun v0 v1 v2 v3 v4 h => Eq.mpr (by kernel_rfl) h
  , fun v K k h => by
  apply un_all h; exact fun v0 v1 v2 h => Eq.mpr (by kernel_rfl) h
  , trivial⟩
theorem spec_AreActors_w : EntOK Try.prog TT spec_AreActors_e := ent_ok tabok (L := [spec_l1In_e]) ⟨spec_l1In_w, trivial⟩ (keep := (kk [0, 2, 3, 4, 5, 30, 31, 32, 33, 34, 35, 36, 37, 38, 39, 40, 41, 42, 43])) (l := spec_AreActors_l) Try.func30 (by kernel_rfl) (sg := [.one (.sc)]) (by kernel_rfl) spec_AreActors_s fun av k h => by
  unfold spec_AreActors at h; split at h
  · exact Eq.mpr (by kernel_rfl) h
  · exact h.elim

--@ impl_ascending
def impl_ascending_r0 (v : List PV) (K : List PV → Prop) (x0k : Prop) (x1k : PV → PV → PV → PV → Prop) : Prop :=
 un 4 (fun v0 v1 v2 v3 =>
  binP .lss v3 v2 fun r0 =>
  iteP r0
   (binP .gtr v3 (I 0) fun r1 =>
   iteP r1
    (elemP 1 v0 v3 fun c2 =>
    binP .sub v3 (I 1) fun r3 =>
    elemP 1 v0 r3 fun c4 =>
    binP .leq (atP c2 0) (atP c4 0) fun r5 =>
    iteP r5
     (x0k)
     (binP .add v3 (I 1) fun r6 =>
     K [v0, v1, v2, r6]))
    (binP .add v3 (I 1) fun r7 =>
    K [v0, v1, v2, r7]))
   (x1k v0 v1 v2 v3)) v
def impl_ascending : GM
 | [.one a0], k => 
  lenP a0 fun r0 =>
  lp (fun L w => impl_ascending_r0 w L
   (rt [.sc] [(.bool false)] k)
   (fun q8 q9 q10 q11 => rt [.sc] [(.bool true)] k)) [a0, (.bool false), r0, (I 0)]
 | _, _ => False
abbrev impl_ascending_e : Ent := ⟨[62], impl_ascending⟩
def impl_ascending_l : List LE := [⟨0, ⟨[(0, .one (.pv (.bool false))), (2, .one (.pv (.bool false))), (5, .one (.pv (.bool false))), (6, .one (.pv (.bool false)))], [], [], 0, 24⟩, fun K k v => impl_ascending_r0 v K (k .ret ⟨[(2, .one (.kb false))], [], [], 0, 24⟩) (fun x0 x1 x2 x3 => k (.exit 0) ⟨[(0, .one (.pv x0)), (2, .one (.pv x1)), (5, .one (.pv x2)), (6, .one (.pv x3))], [], [], 0, 24⟩)⟩]
theorem impl_ascending_s : LEsOK (orac []) TT (kk [0, 2, 5, 6, 12, 13, 14, 15, 16, 17, 18, 19, 20, 21]) (sumsOf impl_ascending_l) Try.f62 impl_ascending_l := ⟨fun v K k h => by
  apply un_all h; exact fun v0 v1 v2 v3 h => Eq.mpr (by kernel_rfl) h
  , trivial⟩
theorem impl_ascending_w : EntOK Try.prog TT impl_ascending_e := ent_ok tabok (L := []) trivial (keep := (kk [0, 2, 5, 6, 12, 13, 14, 15, 16, 17, 18, 19, 20, 21])) (l := impl_ascending_l) Try.func62 (by kernel_rfl) (sg := [.one (.sc)]) (by kernel_rfl) impl_ascending_s fun av k h => by
  unfold impl_ascending at h; split at h
  · exact Eq.mpr (by kernel_rfl) h
  · exact h.elim

--@ impl_isKey
def impl_isKey : GM
 | [.one a0], k => 
  call impl_InRange [.one a0, .one (I 1), .one (I 99)] fun o0 =>
  rt [.sc] [(atP o0 0)] k
 | _, _ => False
abbrev impl_isKey_e : Ent := ⟨[65], impl_isKey⟩
theorem impl_isKey_w : EntOK Try.prog TT impl_isKey_e := ent_ok tabok (L := [impl_InRange_e]) ⟨impl_InRange_w, trivial⟩ (keep := []) (l := []) Try.func65 (by kernel_rfl) (sg := [.one (.sc)]) (by kernel_rfl) trivial fun av k h => by
  unfold impl_isKey at h; split at h
  · exact Eq.mpr (by kernel_rfl) h
  · exact h.elim

--@ impl_AreActors_1_1
def impl_AreActors_1_1 : GM
 | [.one a0], k => 
  call impl_isKey [.one a0] fun o0 =>
  unP .not (atP o0 0) fun r1 =>
  rt [.sc] [r1] k
 | _, _ => False
abbrev impl_AreActors_1_1_e : Ent := ⟨[64], impl_AreActors_1_1⟩
theorem impl_AreActors_1_1_w : EntOK Try.prog TT impl_AreActors_1_1_e := ent_ok tabok (L := [impl_isKey_e]) ⟨impl_isKey_w, trivial⟩ (keep := []) (l := []) Try.func64 (by kernel_rfl) (sg := [.one (.sc)]) (by kernel_rfl) trivial fun av k h => by
  unfold impl_AreActors_1_1 at h; split at h
  · exact Eq.mpr (by kernel_rfl) h
  · exact h.elim

--@ slices_IndexFunc_int_F_impl_AreActors_1_1
def slices_IndexFunc_int_F_impl_AreActors_1_1_r0 (v : List PV) (K : List PV → Prop) (x0k : PV → Prop) (x1k : PV → PV → PV → PV → Prop) : Prop :=
 un 4 (fun v0 v1 v2 v3 =>
  binP .lss v3 v2 fun r0 =>
  iteP r0
   (elemP 1 v0 v3 fun c1 =>
   call impl_AreActors_1_1 [.one (atP c1 0)] fun o2 =>
   iteP (atP o2 0)
    (x0k v3)
    (binP .add v3 (I 1) fun r3 =>
    K [v0, v1, v2, r3]))
   (x1k v0 v1 v2 v3)) v
def slices_IndexFunc_int_F_impl_AreActors_1_1 : GM
 | [.one a0, .fn 64 []], k => 
  lenP a0 fun r0 =>
  lp (fun L w => slices_IndexFunc_int_F_impl_AreActors_1_1_r0 w L
   (fun q4 => rt [.sc] [q4] k)
   (fun q5 q6 q7 q8 => rt [.sc] [(I (-1))] k)) [a0, (I 0), r0, (I 0)]
 | _, _ => False
abbrev slices_IndexFunc_int_F_impl_AreActors_1_1_e : Ent := ⟨[92, 64], slices_IndexFunc_int_F_impl_AreActors_1_1⟩
def slices_IndexFunc_int_F_impl_AreActors_1_1_l : List LE := [⟨0, ⟨[(0, .one (.pv (.bool false))), (1, .one (.fn 64 [])), (4, .one (.pv (.bool false))), (7, .one (.pv (.bool false))), (8, .one (.pv (.bool false)))], [], [], 0, 19⟩, fun K k v => slices_IndexFunc_int_F_impl_AreActors_1_1_r0 v K (fun x0 => k .ret ⟨[(4, .one (.pv x0))], [], [], 1, 19⟩) (fun x0 x1 x2 x3 => k (.exit 0) ⟨[(0, .one (.pv x0)), (1, .one (.fn 64 [])), (4, .one (.pv x1)), (7, .one (.pv x2)), (8, .one (.pv x3))], [], [], 0, 19⟩)⟩]
theorem slices_IndexFunc_int_F_impl_AreActors_1_1_s : LEsOK (orac [impl_AreActors_1_1_e]) TT (kk [0, 1, 4, 7, 8]) (sumsOf slices_IndexFunc_int_F_impl_AreActors_1_1_l) Try.f92 slices_IndexFunc_int_F_impl_AreActors_1_1_l := ⟨fun v K k h => by
  apply un_all h; exact fun v0 v1 v2 v3 h => Eq.mpr (by kernel_rfl) h
  , trivial⟩
theorem slices_IndexFunc_int_F_impl_AreActors_1_1_w : EntOK Try.prog TT slices_IndexFunc_int_F_impl_AreActors_1_1_e := ent_ok tabok (L := [impl_AreActors_1_1_e]) ⟨impl_AreActors_1_1_w, trivial⟩ (keep := (kk [0, 1, 4, 7, 8])) (l := slices_IndexFunc_int_F_impl_AreActors_1_1_l) Try.func92 (by kernel_rfl) (sg := [.one (.sc)]) (by kernel_rfl) slices_IndexFunc_int_F_impl_AreActors_1_1_s fun av k h => by
  unfold slices_IndexFunc_int_F_impl_AreActors_1_1 at h; split at h
  · exact Eq.mpr (by kernel_rfl) h
  · exact h.elim

--@ slices_ContainsFunc_int_F_impl_AreActors_1_1
def slices_ContainsFunc_int_F_impl_AreActors_1_1 : GM
 | [.one a0, .fn 64 []], k => 
  call slices_IndexFunc_int_F_impl_AreActors_1_1 [.one a0, .fn 64 []] fun o0 =>
  binP .geq (atP o0 0) (I 0) fun r1 =>
  rt [.sc] [r1] k
 | _, _ => False
abbrev slices_ContainsFunc_int_F_impl_AreActors_1_1_e : Ent := ⟨[63, 64], slices_ContainsFunc_int_F_impl_AreActors_1_1⟩
theorem slices_ContainsFunc_int_F_impl_AreActors_1_1_w : EntOK Try.prog TT slices_ContainsFunc_int_F_impl_AreActors_1_1_e := ent_ok tabok (L := [slices_IndexFunc_int_F_impl_AreActors_1_1_e]) ⟨slices_IndexFunc_int_F_impl_AreActors_1_1_w, trivial⟩ (keep := []) (l := []) Try.func63 (by kernel_rfl) (sg := [.one (.sc)]) (by kernel_rfl) trivial fun av k h => by
  unfold slices_ContainsFunc_int_F_impl_AreActors_1_1 at h; split at h
  · exact Eq.mpr (by kernel_rfl) h
  · exact h.elim

--@ impl_AreActors_1
def impl_AreActors_1 : GM
 | [.agg u0], k => un 1 (fun a0 => 
  lenP a0 fun r0 =>
  binP .gtr r0 (I 20) fun r1 =>
  iteP r1
   (rt [.sc] [(.bool true)] k)
   (call impl_ascending [.one a0] fun o2 =>
   unP .not (atP o2 0) fun r3 =>
   iteP r3
    (rt [.sc] [(.bool true)] k)
    (call slices_ContainsFunc_int_F_impl_AreActors_1_1 [.one a0, .fn 64 []] fun o4 =>
    rt [.sc] [(atP o4 0)] k))) u0
 | _, _ => False
abbrev impl_AreActors_1_e : Ent := ⟨[61], impl_AreActors_1⟩
theorem impl_AreActors_1_w : EntOK Try.prog TT impl_AreActors_1_e := ent_ok tabok (L := [impl_ascending_e, slices_ContainsFunc_int_F_impl_AreActors_1_1_e]) ⟨impl_ascending_w, slices_ContainsFunc_int_F_impl_AreActors_1_1_w, trivial⟩ (keep := []) (l := []) Try.func61 (by kernel_rfl) (sg := [.one (.sc)]) (by kernel_rfl) trivial fun av k h => by
  unfold impl_AreActors_1 at h; split at h
  · apply un_all h; clear h; intro a0 h; exact Eq.mpr (by kernel_rfl) h
  · exact h.elim

--@ slices_IndexFunc_Actor_F_impl_AreActors_1
def slices_IndexFunc_Actor_F_impl_AreActors_1_r0 (v : List PV) (K : List PV → Prop) (x0k : PV → Prop) (x1k : PV → PV → PV → PV → Prop) : Prop :=
 un 4 (fun v0 v1 v2 v3 =>
  binP .lss v3 v2 fun r0 =>
  iteP r0
   (elemP 1 v0 v3 fun c1 =>
   call impl_AreActors_1 [.agg [(atP c1 0)]] fun o2 =>
   iteP (atP o2 0)
    (x0k v3)
    (binP .add v3 (I 1) fun r3 =>
    K [v0, v1, v2, r3]))
   (x1k v0 v1 v2 v3)) v
def slices_IndexFunc_Actor_F_impl_AreActors_1 : GM
 | [.one a0, .fn 61 []], k => 
  lenP a0 fun r0 =>
  lp (fun L w => slices_IndexFunc_Actor_F_impl_AreActors_1_r0 w L
   (fun q4 => rt [.sc] [q4] k)
   (fun q5 q6 q7 q8 => rt [.sc] [(I (-1))] k)) [a0, (I 0), r0, (I 0)]
 | _, _ => False
abbrev slices_IndexFunc_Actor_F_impl_AreActors_1_e : Ent := ⟨[91, 61], slices_IndexFunc_Actor_F_impl_AreActors_1⟩
def slices_IndexFunc_Actor_F_impl_AreActors_1_l : List LE := [⟨0, ⟨[(0, .one (.pv (.bool false))), (1, .one (.fn 61 [])), (4, .one (.pv (.bool false))), (7, .one (.pv (.bool false))), (8, .one (.pv (.bool false)))], [], [], 0, 19⟩, fun K k v => slices_IndexFunc_Actor_F_impl_AreActors_1_r0 v K (fun x0 => k .ret ⟨[(4, .one (.pv x0))], [], [], 1, 19⟩) (fun x0 x1 x2 x3 => k (.exit 0) ⟨[(0, .one (.pv x0)), (1, .one (.fn 61 [])), (4, .one (.pv x1)), (7, .one (.pv x2)), (8, .one (.pv x3))], [], [], 0, 19⟩)⟩]
theorem slices_IndexFunc_Actor_F_impl_AreActors_1_s : LEsOK (orac [impl_AreActors_1_e]) TT (kk [0, 1, 4, 7, 8]) (sumsOf slices_IndexFunc_Actor_F_impl_AreActors_1_l) Try.f91 slices_IndexFunc_Actor_F_impl_AreActors_1_l := ⟨fun v K k h => by
  apply un_all h; exact fun v0 v1 v2 v3 h => Eq.mpr (by kernel_rfl) h
  , trivial⟩
theorem slices_IndexFunc_Actor_F_impl_AreActors_1_w : EntOK Try.prog TT slices_IndexFunc_Actor_F_impl_AreActors_1_e := ent_ok tabok (L := [impl_AreActors_1_e]) ⟨impl_AreActors_1_w, trivial⟩ (keep := (kk [0, 1, 4, 7, 8])) (l := slices_IndexFunc_Actor_F_impl_AreActors_1_l) Try.func91 (by kernel_rfl) (sg := [.one (.sc)]) (by kernel_rfl) slices_IndexFunc_Actor_F_impl_AreActors_1_s fun av k h => by
  unfold slices_IndexFunc_Actor_F_impl_AreActors_1 at h; split at h
  · exact Eq.mpr (by kernel_rfl) h
  · exact h.elim

--@ slices_ContainsFunc_Actor_F_impl_AreActors_1
def slices_ContainsFunc_Actor_F_impl_AreActors_1 : GM
 | [.one a0, .fn 61 []], k => 
  call slices_IndexFunc_Actor_F_impl_AreActors_1 [.one a0, .fn 61 []] fun o0 =>
  binP .geq (atP o0 0) (I 0) fun r1 =>
  rt [.sc] [r1] k
 | _, _ => False
abbrev slices_ContainsFunc_Actor_F_impl_AreActors_1_e : Ent := ⟨[60, 61], slices_ContainsFunc_Actor_F_impl_AreActors_1⟩
theorem slices_ContainsFunc_Actor_F_impl_AreActors_1_w : EntOK Try.prog TT slices_ContainsFunc_Actor_F_impl_AreActors_1_e := ent_ok tabok (L := [slices_IndexFunc_Actor_F_impl_AreActors_1_e]) ⟨slices_IndexFunc_Actor_F_impl_AreActors_1_w, trivial⟩ (keep := []) (l := []) Try.func60 (by kernel_rfl) (sg := [.one (.sc)]) (by kernel_rfl) trivial fun av k h => by
  unfold slices_ContainsFunc_Actor_F_impl_AreActors_1 at h; split at h
  · exact Eq.mpr (by kernel_rfl) h
  · exact h.elim

--@ impl_AreActors
def impl_AreActors : GM
 | [.one a0], k => 
  lenP a0 fun r0 =>
  binP .leq r0 (I 4) fun r1 =>
  iteP r1
   (call slices_ContainsFunc_Actor_F_impl_AreActors_1 [.one a0, .fn 61 []] fun o2 =>
   unP .not (atP o2 0) fun r3 =>
   rt [.sc] [r3] k)
   (rt [.sc] [(.bool false)] k)
 | _, _ => False
abbrev impl_AreActors_e : Ent := ⟨[31], impl_AreActors⟩
theorem impl_AreActors_w : EntOK Try.prog TT impl_AreActors_e := ent_ok tabok (L := [slices_ContainsFunc_Actor_F_impl_AreActors_1_e]) ⟨slices_ContainsFunc_Actor_F_impl_AreActors_1_w, trivial⟩ (keep := []) (l := []) Try.func31 (by kernel_rfl) (sg := [.one (.sc)]) (by kernel_rfl) trivial fun av k h => by
  unfold impl_AreActors at h; split at h
  · exact Eq.mpr (by kernel_rfl) h
  · exact h.elim

--@ laws_FnExactAreActors
def laws_FnExactAreActors : GM
 | [.one a0], k => 
  call laws_szActorS [.one a0, .one (I 1048576)] fun o0 =>
  binP .lss (atP o0 0) (I 0) fun r1 =>
  iteP r1
   (rt [.sc] [(.bool true)] k)
   (call laws_toActorS [.one a0] fun o2 =>
   call spec_AreActors [.one (atP o2 0)] fun o3 =>
   call laws_toActorS [.one a0] fun o4 =>
   call impl_AreActors [.one (atP o4 0)] fun o5 =>
   boolP .neq (atP o5 0) (atP o3 0) fun r6 =>
   iteP r6
    (rt [.sc] [(.bool false)] k)
    (call laws_toActorS [.one a0] fun o7 =>
    call laws_eqActorS [.one (atP o4 0), .one (atP o7 0)] fun o8 =>
    unP .not (atP o8 0) fun r9 =>
    iteP r9
     (rt [.sc] [(.bool false)] k)
     (rt [.sc] [(.bool true)] k)))
 | _, _ => False
abbrev laws_FnExactAreActors_e : Ent := ⟨[8], laws_FnExactAreActors⟩
theorem laws_FnExactAreActors_w : EntOK Try.prog TT laws_FnExactAreActors_e := ent_ok tabok (L := [laws_szActorS_e, laws_toActorS_e, spec_AreActors_e, impl_AreActors_e, laws_eqActorS_e]) ⟨laws_szActorS_w, laws_toActorS_w, spec_AreActors_w, impl_AreActors_w, laws_eqActorS_w, trivial⟩ (keep := []) (l := []) Try.func8 (by kernel_rfl) (sg := [.one (.sc)]) (by kernel_rfl) trivial fun av k h => by
  unfold laws_FnExactAreActors at h; split at h
  · exact Eq.mpr (by kernel_rfl) h
  · exact h.elim

--@ spec_EqualInts
def spec_EqualInts_r0 (v : List PV) (K : List PV → Prop) (x0k : Prop) (x1k : PV → PV → PV → PV → Prop) : Prop :=
 un 4 (fun v0 v1 v2 v3 =>
  lenP v0 fun r0 =>
  binP .lss v3 r0 fun r1 =>
  iteP r1
   (elemP 1 v0 v3 fun c2 =>
   elemP 1 v1 v3 fun c3 =>
   binP .neq (atP c2 0) (atP c3 0) fun r4 =>
   iteP r4
    (x0k)
    (binP .add v3 (I 1) fun r5 =>
    K [v0, v1, v2, r5]))
   (x1k v0 v1 v2 v3)) v
def spec_EqualInts : GM
 | [.one a0, .one a1], k => 
  lenP a0 fun r0 =>
  lenP a1 fun r1 =>
  binP .neq r0 r1 fun r2 =>
  iteP r2
   (rt [.sc] [(.bool false)] k)
   (lp (fun L w => spec_EqualInts_r0 w L
    (rt [.sc] [(.bool false)] k)
    (fun q6 q7 q8 q9 => rt [.sc] [(.bool true)] k)) [a0, a1, (.bool false), (I 0)])
 | _, _ => False
abbrev spec_EqualInts_e : Ent := ⟨[66], spec_EqualInts⟩
def spec_EqualInts_l : List LE := [⟨0, ⟨[(0, .one (.pv (.bool false))), (1, .one (.pv (.bool false))), (4, .one (.pv (.bool false))), (5, .one (.pv (.bool false)))], [], [], 0, 26⟩, fun K k v => spec_EqualInts_r0 v K (k .ret ⟨[(4, .one (.kb false))], [], [], 0, 26⟩) (fun x0 x1 x2 x3 => k (.exit 0) ⟨[(0, .one (.pv x0)), (1, .one (.pv x1)), (4, .one (.pv x2)), (5, .one (.pv x3))], [], [], 0, 26⟩)⟩]
theorem spec_EqualInts_s : LEsOK (orac []) TT (kk [0, 1, 4, 5]) (sumsOf spec_EqualInts_l) Try.f66 spec_EqualInts_l := ⟨fun v K k h => by
  apply un_all h; exact fun v0 v1 v2 v3 h => Eq.mpr (by kernel_rfl) h
  , trivial⟩
theorem spec_EqualInts_w : EntOK Try.prog TT spec_EqualInts_e := ent_ok tabok (L := []) trivial (keep := (kk [0, 1, 4, 5])) (l := spec_EqualInts_l) Try.func66 (by kernel_rfl) (sg := [.one (.sc)]) (by kernel_rfl) spec_EqualInts_s fun av k h => by
  unfold spec_EqualInts at h; split at h
  · exact Eq.mpr (by kernel_rfl) h
  · exact h.elim

--@ spec_EqualActors
def spec_EqualActors_r0 (v : List PV) (K : List PV → Prop) (x0k : Prop) (x1k : PV → PV → PV → PV → Prop) : Prop :=
 un 4 (fun v0 v1 v2 v3 =>
  lenP v0 fun r0 =>
  binP .lss v3 r0 fun r1 =>
  iteP r1
   (elemP 1 v0 v3 fun c2 =>
   elemP 1 v1 v3 fun c3 =>
   call spec_EqualInts [.one (atP c2 0), .one (atP c3 0)] fun o4 =>
   unP .not (atP o4 0) fun r5 =>
   iteP r5
    (x0k)
    (binP .add v3 (I 1) fun r6 =>
    K [v0, v1, v2, r6]))
   (x1k v0 v1 v2 v3)) v
def spec_EqualActors : GM
 | [.one a0, .one a1], k => 
  lenP a0 fun r0 =>
  lenP a1 fun r1 =>
  binP .neq r0 r1 fun r2 =>
  iteP r2
   (rt [.sc] [(.bool false)] k)
   (lp (fun L w => spec_EqualActors_r0 w L
    (rt [.sc] [(.bool false)] k)
    (fun q7 q8 q9 q10 => rt [.sc] [(.bool true)] k)) [a0, a1, (.bool false), (I 0)])
 | _, _ => False
abbrev spec_EqualActors_e : Ent := ⟨[32], spec_EqualActors⟩
def spec_EqualActors_l : List LE := [⟨0, ⟨[(0, .one (.pv (.bool false))), (1, .one (.pv (.bool false))), (4, .one (.pv (.bool false))), (5, .one (.pv (.bool false)))], [], [], 0, 29⟩, fun K k v => spec_EqualActors_r0 v K (k .ret ⟨[(4, .one (.kb false))], [], [], 1, 29⟩) (fun x0 x1 x2 x3 => k (.exit 0) ⟨[(0, .one (.pv x0)), (1, .one (.pv x1)), (4, .one (.pv x2)), (5, .one (.pv x3))], [], [], 0, 29⟩)⟩]
theorem spec_EqualActors_s : LEsOK (orac [spec_EqualInts_e]) TT (kk [0, 1, 4, 5]) (sumsOf spec_EqualActors_l) Try.f32 spec_EqualActors_l := ⟨fun v K k h => by
  apply un_all h; exact fun v0 v1 v2 v3 h => Eq.mpr (by kernel_rfl) h
  , trivial⟩
theorem spec_EqualActors_w : EntOK Try.prog TT spec_EqualActors_e := ent_ok tabok (L := [spec_EqualInts_e]) ⟨spec_EqualInts_w, trivial⟩ (keep := (kk [0, 1, 4, 5])) (l := spec_EqualActors_l) Try.func32 (by kernel_rfl) (sg := [.one (.sc)]) (by kernel_rfl) spec_EqualActors_s fun av k h => by
  unfold spec_EqualActors at h; split at h
  · exact Eq.mpr (by kernel_rfl) h
  · exact h.elim

--@ slices_Equal_int
def slices_Equal_int_r0 (v : List PV) (K : List PV → Prop) (x0k : Prop) (x1k : PV → PV → PV → PV → PV → Prop) : Prop :=
 un 5 (fun v0 v1 v2 v3 v4 =>
  binP .lss v4 v3 fun r0 =>
  iteP r0
   (elemP 1 v0 v4 fun c1 =>
   elemP 1 v1 v4 fun c2 =>
   binP .neq (atP c1 0) (atP c2 0) fun r3 =>
   iteP r3
    (x0k)
    (binP .add v4 (I 1) fun r4 =>
    K [v0, v1, v2, v3, r4]))
   (x1k v0 v1 v2 v3 v4)) v
def slices_Equal_int : GM
 | [.one a0, .one a1], k => 
  lenP a0 fun r0 =>
  lenP a1 fun r1 =>
  binP .neq r0 r1 fun r2 =>
  iteP r2
   (rt [.sc] [(.bool false)] k)
   (lenP a0 fun r3 =>
   lp (fun L w => slices_Equal_int_r0 w L
    (rt [.sc] [(.bool false)] k)
    (fun q5 q6 q7 q8 q9 => rt [.sc] [(.bool true)] k)) [a0, a1, (.bool false), r3, (I 0)])
 | _, _ => False
abbrev slices_Equal_int_e : Ent := ⟨[69], slices_Equal_int⟩
def slices_Equal_int_l : List LE := [⟨0, ⟨[(0, .one (.pv (.bool false))), (1, .one (.pv (.bool false))), (4, .one (.pv (.bool false))), (12, .one (.pv (.bool false))), (13, .one (.pv (.bool false)))], [], [], 0, 26⟩, fun K k v => slices_Equal_int_r0 v K (k .ret ⟨[(4, .one (.kb false))], [], [], 0, 26⟩) (fun x0 x1 x2 x3 x4 => k (.exit 0) ⟨[(0, .one (.pv x0)), (1, .one (.pv x1)), (4, .one (.pv x2)), (12, .one (.pv x3)), (13, .one (.pv x4))], [], [], 0, 26⟩)⟩]
theorem slices_Equal_int_s : LEsOK (orac []) TT (kk [0, 1, 4, 12, 13]) (sumsOf slices_Equal_int_l) Try.f69 slices_Equal_int_l := ⟨fun v K k h => by
  apply un_all h; exact fun v0 v1 v2 v3 v4 h => Eq.mpr (by kernel_rfl) h
  , trivial⟩
theorem slices_Equal_int_w : EntOK Try.prog TT slices_Equal_int_e := ent_ok tabok (L := []) trivial (keep := (kk [0, 1, 4, 12, 13])) (l := slices_Equal_int_l) Try.func69 (by kernel_rfl) (sg := [.one (.sc)]) (by kernel_rfl) slices_Equal_int_s fun av k h => by
  unfold slices_Equal_int at h; split at h
  · exact Eq.mpr (by kernel_rfl) h
  · exact h.elim

--@ impl_EqualActors_1
def impl_EqualActors_1 : GM
 | [.agg u0, .agg u1], k => un 1 (fun a0 => un 1 (fun a1 => 
  call slices_Equal_int [.one a0, .one a1] fun o0 =>
  rt [.sc] [(atP o0 0)] k) u1) u0
 | _, _ => False
abbrev impl_EqualActors_1_e : Ent := ⟨[68], impl_EqualActors_1⟩
theorem impl_EqualActors_1_w : EntOK Try.prog TT impl_EqualActors_1_e := ent_ok tabok (L := [slices_Equal_int_e]) ⟨slices_Equal_int_w, trivial⟩ (keep := []) (l := []) Try.func68 (by kernel_rfl) (sg := [.one (.sc)]) (by kernel_rfl) trivial fun av k h => by
  unfold impl_EqualActors_1 at h; split at h
  · apply un_all h; clear h; intro a0 h; apply un_all h; clear h; intro a1 h; exact Eq.mpr (by kernel_rfl) h
  · exact h.elim

--@ slices_EqualFunc_Actor_F_impl_EqualActors_1
def slices_EqualFunc_Actor_F_impl_EqualActors_1_r0 (v : List PV) (K : List PV → Prop) (x0k : PV → PV → Prop) (x1k : PV → PV → PV → PV → PV → Prop) : Prop :=
 un 5 (fun v0 v1 v2 v3 v4 =>
  binP .lss v4 v3 fun r0 =>
  iteP r0
   (elemP 1 v2 v4 fun c1 =>
   elemP 1 v0 v4 fun c2 =>
   call impl_EqualActors_1 [.agg [(atP c1 0)], .agg [(atP c2 0)]] fun o3 =>
   unP .not (atP o3 0) fun r4 =>
   iteP r4
    (x0k (atP c2 0) (atP c1 0))
    (binP .add v4 (I 1) fun r5 =>
    K [v0, v1, v2, v3, r5]))
   (x1k v0 v1 v2 v3 v4)) v
def slices_EqualFunc_Actor_F_impl_EqualActors_1 : GM
 | [.one a0, .one a1, .fn 68 []], k => 
  lenP a0 fun r0 =>
  lenP a1 fun r1 =>
  binP .neq r0 r1 fun r2 =>
  iteP r2
   (rt [.sc] [(.bool false)] k)
   (lenP a0 fun r3 =>
   lp (fun L w => slices_EqualFunc_Actor_F_impl_EqualActors_1_r0 w L
    (fun q6 q7 => rt [.sc] [(.bool false)] k)
    (fun q8 q9 q10 q11 q12 => rt [.sc] [(.bool true)] k)) [a1, (.bool false), a0, r3, (I 0)])
 | _, _ => False
abbrev slices_EqualFunc_Actor_F_impl_EqualActors_1_e : Ent := ⟨[67, 68], slices_EqualFunc_Actor_F_impl_EqualActors_1⟩
def slices_EqualFunc_Actor_F_impl_EqualActors_1_l : List LE := [⟨0, ⟨[(1, .one (.pv (.bool false))), (2, .one (.fn 68 [])), (6, .one (.pv (.bool false))), (15, .one (.pv (.bool false))), (16, .one (.pv (.bool false))), (17, .one (.pv (.bool false)))], [], [], 0, 32⟩, fun K k v => slices_EqualFunc_Actor_F_impl_EqualActors_1_r0 v K (fun x0 x1 => k .ret ⟨[(6, .one (.kb false))], [(1, [.pv x0]), (1, [.nil 3 1]), (0, [.pv x1]), (0, [.nil 3 1])], [], 3, 32⟩) (fun x0 x1 x2 x3 x4 => k (.exit 0) ⟨[(1, .one (.pv x0)), (2, .one (.fn 68 [])), (6, .one (.pv x1)), (15, .one (.pv x2)), (16, .one (.pv x3)), (17, .one (.pv x4))], [], [], 0, 32⟩)⟩]
theorem slices_EqualFunc_Actor_F_impl_EqualActors_1_s : LEsOK (orac [impl_EqualActors_1_e]) TT (kk [1, 2, 6, 15, 16, 17]) (sumsOf slices_EqualFunc_Actor_F_impl_EqualActors_1_l) Try.f67 slices_EqualFunc_Actor_F_impl_EqualActors_1_l := ⟨fun v K k h => by
  apply un_all h; exact fun v0 v1 v2 v3 v4 h => Eq.mpr (by kernel_rfl) h
  , trivial⟩
theorem slices_EqualFunc_Actor_F_impl_EqualActors_1_w : EntOK Try.prog TT slices_EqualFunc_Actor_F_impl_EqualActors_1_e := ent_ok tabok (L := [impl_EqualActors_1_e]) ⟨impl_EqualActors_1_w, trivial⟩ (keep := (kk [1, 2, 6, 15, 16, 17])) (l := slices_EqualFunc_Actor_F_impl_EqualActors_1_l) Try.func67 (by kernel_rfl) (sg := [.one (.sc)]) (by kernel_rfl) slices_EqualFunc_Actor_F_impl_EqualActors_1_s fun av k h => by
  unfold slices_EqualFunc_Actor_F_impl_EqualActors_1 at h; split at h
  · exact Eq.mpr (by kernel_rfl) h
  · exact h.elim

--@ impl_EqualActors
def impl_EqualActors : GM
 | [.one a0, .one a1], k => 
  call slices_EqualFunc_Actor_F_impl_EqualActors_1 [.one a0, .one a1, .fn 68 []] fun o0 =>
  rt [.sc] [(atP o0 0)] k
 | _, _ => False
abbrev impl_EqualActors_e : Ent := ⟨[33], impl_EqualActors⟩
theorem impl_EqualActors_w : EntOK Try.prog TT impl_EqualActors_e := ent_ok tabok (L := [slices_EqualFunc_Actor_F_impl_EqualActors_1_e]) ⟨slices_EqualFunc_Actor_F_impl_EqualActors_1_w, trivial⟩ (keep := []) (l := []) Try.func33 (by kernel_rfl) (sg := [.one (.sc)]) (by kernel_rfl) trivial fun av k h => by
  unfold impl_EqualActors at h; split at h
  · exact Eq.mpr (by kernel_rfl) h
  · exact h.elim

--@ laws_FnExactEqualActors
def laws_FnExactEqualActors : GM
 | [.one a0, .one a1], k => 
  call laws_szActorS [.one a0, .one (I 1048576)] fun o0 =>
  binP .lss (atP o0 0) (I 0) fun r1 =>
  iteP r1
   (rt [.sc] [(.bool true)] k)
   (call laws_szActorS [.one a1, .one (atP o0 0)] fun o2 =>
   binP .lss (atP o2 0) (I 0) fun r3 =>
   iteP r3
    (rt [.sc] [(.bool true)] k)
    (call laws_toActorS [.one a0] fun o4 =>
    call laws_toActorS [.one a1] fun o5 =>
    call spec_EqualActors [.one (atP o4 0), .one (atP o5 0)] fun o6 =>
    call laws_toActorS [.one a0] fun o7 =>
    call laws_toActorS [.one a1] fun o8 =>
    call impl_EqualActors [.one (atP o7 0), .one (atP o8 0)] fun o9 =>
    boolP .neq (atP o9 0) (atP o6 0) fun r10 =>
    iteP r10
     (rt [.sc] [(.bool false)] k)
     (call laws_toActorS [.one a0] fun o11 =>
     call laws_eqActorS [.one (atP o7 0), .one (atP o11 0)] fun o12 =>
     unP .not (atP o12 0) fun r13 =>
     iteP r13
      (rt [.sc] [(.bool false)] k)
      (call laws_toActorS [.one a1] fun o14 =>
      call laws_eqActorS [.one (atP o8 0), .one (atP o14 0)] fun o15 =>
      unP .not (atP o15 0) fun r16 =>
      iteP r16
       (rt [.sc] [(.bool false)] k)
       (rt [.sc] [(.bool true)] k)))))
 | _, _ => False
abbrev laws_FnExactEqualActors_e : Ent := ⟨[9], laws_FnExactEqualActors⟩
theorem laws_FnExactEqualActors_w : EntOK Try.prog TT laws_FnExactEqualActors_e := ent_ok tabok (L := [laws_szActorS_e, laws_toActorS_e, spec_EqualActors_e, impl_EqualActors_e, laws_eqActorS_e]) ⟨laws_szActorS_w, laws_toActorS_w, spec_EqualActors_w, impl_EqualActors_w, laws_eqActorS_w, trivial⟩ (keep := []) (l := []) Try.func9 (by kernel_rfl) (sg := [.one (.sc)]) (by kernel_rfl) trivial fun av k h => by
  unfold laws_FnExactEqualActors at h; split at h
  · exact Eq.mpr (by kernel_rfl) h
  · exact h.elim

--@ laws_szKeys
def laws_szKeys : GM
 | [.agg u0, .one a2], k => un 2 (fun a0 a1 => 
  call laws_szIntS [.one a0, .one a2] fun o0 =>
  binP .lss (atP o0 0) (I 0) fun r1 =>
  iteP r1
   (rt [.sc] [(I (-1))] k)
   (rt [.sc] [(atP o0 0)] k)) u0
 | _, _ => False
abbrev laws_szKeys_e : Ent := ⟨[70], laws_szKeys⟩
theorem laws_szKeys_w : EntOK Try.prog TT laws_szKeys_e := ent_ok tabok (L := [laws_szIntS_e]) ⟨laws_szIntS_w, trivial⟩ (keep := []) (l := []) Try.func70 (by kernel_rfl) (sg := [.one (.sc)]) (by kernel_rfl) trivial fun av k h => by
  unfold laws_szKeys at h; split at h
  · apply un_all h; clear h; intro a0 a1 h; exact Eq.mpr (by kernel_rfl) h
  · exact h.elim

--@ laws_szHead
def laws_szHead : GM
 | [.agg u0, .one a16], k => un 16 (fun a0 a1 a2 a3 a4 a5 a6 a7 a8 a9 a10 a11 a12 a13 a14 a15 => 
  call laws_szKeys [.agg [a8, a9], .one a16] fun o0 =>
  binP .lss (atP o0 0) (I 0) fun r1 =>
  iteP r1
   (rt [.sc] [(I (-1))] k)
   (call laws_szKeys [.agg [a10, a11], .one (atP o0 0)] fun o2 =>
   binP .lss (atP o2 0) (I 0) fun r3 =>
   iteP r3
    (rt [.sc] [(I (-1))] k)
    (call laws_szKeys [.agg [a13, a14], .one (atP o2 0)] fun o4 =>
    binP .lss (atP o4 0) (I 0) fun r5 =>
    iteP r5
     (rt [.sc] [(I (-1))] k)
     (rt [.sc] [(atP o4 0)] k)))) u0
 | _, _ => False
abbrev laws_szHead_e : Ent := ⟨[34], laws_szHead⟩
theorem laws_szHead_w : EntOK Try.prog TT laws_szHead_e := ent_ok tabok (L := [laws_szKeys_e]) ⟨laws_szKeys_w, trivial⟩ (keep := []) (l := []) Try.func34 (by kernel_rfl) (sg := [.one (.sc)]) (by kernel_rfl) trivial fun av k h => by
  unfold laws_szHead at h; split at h
  · apply un_all h; clear h; intro a0 a1 a2 a3 a4 a5 a6 a7 a8 a9 a10 a11 a12 a13 a14 a15 h; exact Eq.mpr (by kernel_rfl) h
  · exact h.elim

--@ laws_toKeys
def laws_toKeys : GM
 | [.agg u0], k => un 2 (fun a0 a1 => 
  call laws_toIntS [.one a0] fun o0 =>
  rt [.own true 3 1, .sc] [(atP o0 0), a1] k) u0
 | _, _ => False
abbrev laws_toKeys_e : Ent := ⟨[72], laws_toKeys⟩
theorem laws_toKeys_w : EntOK Try.prog TT laws_toKeys_e := ent_ok tabok (L := [laws_toIntS_e]) ⟨laws_toIntS_w, trivial⟩ (keep := []) (l := []) Try.func72 (by kernel_rfl) (sg := [.agg [.own true 3 1, .sc]]) (by kernel_rfl) trivial fun av k h => by
  unfold laws_toKeys at h; split at h
  · apply un_all h; clear h; intro a0 a1 h; exact Eq.mpr (by kernel_rfl) h
  · exact h.elim

--@ laws_toHead
def laws_toHead : GM
 | [.agg u0], k => un 16 (fun a0 a1 a2 a3 a4 a5 a6 a7 a8 a9 a10 a11 a12 a13 a14 a15 => 
  call laws_toKeys [.agg [a8, a9]] fun o0 =>
  call laws_toKeys [.agg [a10, a11]] fun o1 =>
  call laws_toKeys [.agg [a13, a14]] fun o2 =>
  rt [.sc, .sc, .sc, .sc, .sc, .sc, .sc, .sc, .own true 3 1, .sc, .own true 3 1, .sc, .sc, .own true 3 1, .sc, .sc] [a0, a1, a2, a3, a4, a5, a6, a7, (atP o0 0), (atP o0 1), (atP o1 0), (atP o1 1), a12, (atP o2 0), (atP o2 1), a15] k) u0
 | _, _ => False
abbrev laws_toHead_e : Ent := ⟨[36], laws_toHead⟩
theorem laws_toHead_w : EntOK Try.prog TT laws_toHead_e := ent_ok tabok (L := [laws_toKeys_e]) ⟨laws_toKeys_w, trivial⟩ (keep := []) (l := []) Try.func36 (by kernel_rfl) (sg := [.agg [.sc, .sc, .sc, .sc, .sc, .sc, .sc, .sc, .own true 3 1, .sc, .own true 3 1, .sc, .sc, .own true 3 1, .sc, .sc]]) (by kernel_rfl) trivial fun av k h => by
  unfold laws_toHead at h; split at h
  · apply un_all h; clear h; intro a0 a1 a2 a3 a4 a5 a6 a7 a8 a9 a10 a11 a12 a13 a14 a15 h; exact Eq.mpr (by kernel_rfl) h
  · exact h.elim

--@ spec_IsKeys
def spec_IsKeys_r0 (v : List PV) (K : List PV → Prop) (x0k : PV → PV → Prop) (x1k : PV → PV → PV → PV → Prop) : Prop :=
 un 4 (fun v0 v1 v2 v3 =>
  lenP v2 fun r0 =>
  binP .lss v1 r0 fun r1 =>
  iteP r1
   (elemP 1 v2 v1 fun c2 =>
   call spec_l1In [.one (atP c2 0), .one (I 1), .one (I 99)] fun o3 =>
   unP .not (atP o3 0) fun r4 =>
   iteP r4
    (x0k v2 v3)
    (binP .gtr v1 (I 0) fun r5 =>
    iteP r5
     (binP .sub v1 (I 1) fun r6 =>
     elemP 1 v2 r6 fun c7 =>
     elemP 1 v2 v1 fun c8 =>
     binP .geq (atP c7 0) (atP c8 0) fun r9 =>
     iteP r9
      (x0k v2 v3)
      (binP .add v1 (I 1) fun r10 =>
      K [v0, r10, v2, v3]))
     (binP .add v1 (I 1) fun r11 =>
     K [v0, r11, v2, v3])))
   (x1k v0 v1 v2 v3)) v
def spec_IsKeys : GM
 | [.agg u0], k => un 2 (fun a0 a1 => 
  lp (fun L w => spec_IsKeys_r0 w L
   (fun q12 q13 => rt [.sc] [(.bool false)] k)
   (fun q14 q15 q16 q17 => lenP q16 fun r18 =>
    call spec_l1In [.one r18, .one (I 1), .one (I 4)] fun o19 =>
    iteP (atP o19 0)
     (lenP q16 fun r20 =>
     call spec_l1In [.one q17, .one (I 1), .one r20] fun o21 =>
     rt [.sc] [(atP o21 0)] k)
     (rt [.sc] [(.bool false)] k))) [(.bool false), (I 0), a0, a1]) u0
 | _, _ => False
abbrev spec_IsKeys_e : Ent := ⟨[93], spec_IsKeys⟩
def spec_IsKeys_l : List LE := [⟨0, ⟨[(1, .one (.ptr 0 0)), (2, .one (.pv (.bool false))), (3, .one (.pv (.bool false)))], [(0, [.pv (.bool false), .pv (.bool false)])], [], 1, 48⟩, fun K k v => spec_IsKeys_r0 v K (fun x0 x1 => k .ret ⟨[(2, .one (.kb false))], [(0, [.pv x0, .pv x1])], [], 2, 48⟩) (fun x0 x1 x2 x3 => k (.exit 0) ⟨[(1, .one (.ptr 0 0)), (2, .one (.pv x0)), (3, .one (.pv x1))], [(0, [.pv x2, .pv x3])], [], 1, 48⟩)⟩]
theorem spec_IsKeys_s : LEsOK (orac [spec_l1In_e]) TT (kk [1, 2, 3, 19, 20, 21, 22, 23, 24, 25, 26, 27, 28, 29, 30, 31, 32, 33, 34, 41, 42, 43, 44, 45, 46]) (sumsOf spec_IsKeys_l) Try.f93 spec_IsKeys_l := ⟨fun v K k h => by
  apply un_all h; exact fun v0 v1 v2 v3 h => Eq.mpr (by kernel_rfl) h
  , trivial⟩
theorem spec_IsKeys_w : EntOK Try.prog TT spec_IsKeys_e := ent_ok tabok (L := [spec_l1In_e]) ⟨spec_l1In_w, trivial⟩ (keep := (kk [1, 2, 3, 19, 20, 21, 22, 23, 24, 25, 26, 27, 28, 29, 30, 31, 32, 33, 34, 41, 42, 43, 44, 45, 46])) (l := spec_IsKeys_l) Try.func93 (by kernel_rfl) (sg := [.one (.sc)]) (by kernel_rfl) spec_IsKeys_s fun av k h => by
  unfold spec_IsKeys at h; split at h
  · apply un_all h; clear h; intro a0 a1 h; exact Eq.mpr (by kernel_rfl) h
  · exact h.elim

--@ spec_CanSign
def spec_CanSign_r0 (v : List PV) (K : List PV → Prop) (x0k : PV → PV → PV → PV → PV → PV → Prop) : Prop :=
 un 6 (fun v0 v1 v2 v3 v4 v5 =>
  lenP v4 fun r0 =>
  binP .lss v3 r0 fun r1 =>
  iteP r1
   (elemP 1 v4 v3 fun c2 =>
   call spec_l6Has [.one v0, .one (atP c2 0)] fun o3 =>
   iteP (atP o3 0)
    (binP .add v2 (I 1) fun r4 =>
    binP .add v3 (I 1) fun r5 =>
    K [v0, v1, r4, r5, v4, v5])
    (binP .add v3 (I 1) fun r6 =>
    K [v0, v1, v2, r6, v4, v5]))
   (x0k v0 v1 v2 v3 v4 v5)) v
def spec_CanSign : GM
 | [.agg u0, .one a2], k => un 2 (fun a0 a1 => 
  lp (fun L w => spec_CanSign_r0 w L
   (fun q7 q8 q9 q10 q11 q12 => call spec_IsKeys [.agg [q11, q12]] fun o13 =>
    iteP (atP o13 0)
     (binP .geq q9 q12 fun r14 =>
     rt [.sc] [r14] k)
     (rt [.sc] [(.bool false)] k))) [a2, (.bool false), (I 0), (I 0), a0, a1]) u0
 | _, _ => False
abbrev spec_CanSign_e : Ent := ⟨[71], spec_CanSign⟩
def spec_CanSign_l : List LE := [⟨0, ⟨[(1, .one (.pv (.bool false))), (2, .one (.ptr 0 0)), (4, .one (.pv (.bool false))), (5, .one (.pv (.bool false))), (6, .one (.pv (.bool false)))], [(0, [.pv (.bool false), .pv (.bool false)])], [], 1, 31⟩, fun K k v => spec_CanSign_r0 v K (fun x0 x1 x2 x3 x4 x5 => k (.exit 0) ⟨[(1, .one (.pv x0)), (2, .one (.ptr 0 0)), (4, .one (.pv x1)), (5, .one (.pv x2)), (6, .one (.pv x3))], [(0, [.pv x4, .pv x5])], [], 1, 31⟩)⟩]
theorem spec_CanSign_s : LEsOK (orac [spec_l6Has_e, spec_IsKeys_e]) TT (kk [1, 2, 4, 5, 6, 26, 27, 28, 29]) (sumsOf spec_CanSign_l) Try.f71 spec_CanSign_l := ⟨fun v K k h => by
  apply un_all h; exact fun v0 v1 v2 v3 v4 v5 h => Eq.mpr (by kernel_rfl) h
  , trivial⟩
theorem spec_CanSign_w : EntOK Try.prog TT spec_CanSign_e := ent_ok tabok (L := [spec_l6Has_e, spec_IsKeys_e]) ⟨spec_l6Has_w, spec_IsKeys_w, trivial⟩ (keep := (kk [1, 2, 4, 5, 6, 26, 27, 28, 29])) (l := spec_CanSign_l) Try.func71 (by kernel_rfl) (sg := [.one (.sc)]) (by kernel_rfl) spec_CanSign_s fun av k h => by
  unfold spec_CanSign at h; split at h
  · apply un_all h; clear h; intro a0 a1 h; exact Eq.mpr (by kernel_rfl) h
  · exact h.elim

--@ spec_CanSpeak
def spec_CanSpeak : GM
 | [.one a0, .one a1, .agg u0, .one a18], k => un 16 (fun a2 a3 a4 a5 a6 a7 a8 a9 a10 a11 a12 a13 a14 a15 a16 a17 => 
  lenP a0 fun r0 =>
  binP .sub r0 (I 1) fun r1 =>
  call spec_l1In [.one a1, .one (I 0), .one r1] fun o2 =>
  unP .not (atP o2 0) fun r3 =>
  iteP r3
   (rt [.sc] [(.bool false)] k)
   (binP .eql a18 (I 1) fun r4 =>
   iteP r4
    (elemP 1 a0 a1 fun c5 =>
    call spec_CanSign [.agg [a10, a11], .one (atP c5 0)] fun o6 =>
    rt [.sc] [(atP o6 0)] k)
    (binP .eql a18 (I 2) fun r7 =>
    iteP r7
     (elemP 1 a0 a1 fun c8 =>
     call spec_CanSign [.agg [a12, a13], .one (atP c8 0)] fun o9 =>
     rt [.sc] [(atP o9 0)] k)
     (binP .eql a18 (I 3) fun r10 =>
     iteP r10
      (elemP 1 a0 a1 fun c11 =>
      call spec_CanSign [.agg [a15, a16], .one (atP c11 0)] fun o12 =>
      rt [.sc] [(atP o12 0)] k)
      (rt [.sc] [(.bool false)] k))))) u0
 | _, _ => False
abbrev spec_CanSpeak_e : Ent := ⟨[35], spec_CanSpeak⟩
theorem spec_CanSpeak_w : EntOK Try.prog TT spec_CanSpeak_e := ent_ok tabok (L := [spec_l1In_e, spec_CanSign_e]) ⟨spec_l1In_w, spec_CanSign_w, trivial⟩ (keep := []) (l := []) Try.func35 (by kernel_rfl) (sg := [.one (.sc)]) (by kernel_rfl) trivial fun av k h => by
  unfold spec_CanSpeak at h; split at h
  · apply un_all h; clear h; intro a2 a3 a4 a5 a6 a7 a8 a9 a10 a11 a12 a13 a14 a15 a16 a17 h; exact Eq.mpr (by kernel_rfl) h
  · exact h.elim

--@ impl_signersFor
def impl_signersFor : GM
 | [.agg u0, .one a16], k => un 16 (fun a0 a1 a2 a3 a4 a5 a6 a7 a8 a9 a10 a11 a12 a13 a14 a15 => 
  binP .eql a16 (I 1) fun r0 =>
  iteP r0
   (rt [.pv, .sc] [a8, a9] k)
   (binP .eql a16 (I 2) fun r1 =>
   iteP r1
    (rt [.pv, .sc] [a10, a11] k)
    (binP .eql a16 (I 3) fun r2 =>
    iteP r2
     (rt [.pv, .sc] [a13, a14] k)
     (rt [.pv, .sc] [(.list 1 []), (I 0)] k)))) u0
 | _, _ => False
abbrev impl_signersFor_e : Ent := ⟨[74], impl_signersFor⟩
theorem impl_signersFor_w : EntOK Try.prog TT impl_signersFor_e := ent_ok tabok (L := []) trivial (keep := []) (l := []) Try.func74 (by kernel_rfl) (sg := [.agg [.pv, .sc]]) (by kernel_rfl) trivial fun av k h => by
  unfold impl_signersFor at h; split at h
  · apply un_all h; clear h; intro a0 a1 a2 a3 a4 a5 a6 a7 a8 a9 a10 a11 a12 a13 a14 a15 h; exact Eq.mpr (by kernel_rfl) h
  · exact h.elim

--@ impl_IsKeys
def impl_IsKeys : GM
 | [.agg u0], k => un 2 (fun a0 a1 => 
  lenP a0 fun r0 =>
  call impl_InRange [.one r0, .one (I 1), .one (I 4)] fun o1 =>
  iteP (atP o1 0)
   (call impl_ascending [.one a0] fun o2 =>
   iteP (atP o2 0)
    (elemP 1 a0 (I 0) fun c3 =>
    call impl_isKey [.one (atP c3 0)] fun o4 =>
    iteP (atP o4 0)
     (lenP a0 fun r5 =>
     binP .sub r5 (I 1) fun r6 =>
     elemP 1 a0 r6 fun c7 =>
     call impl_isKey [.one (atP c7 0)] fun o8 =>
     iteP (atP o8 0)
      (lenP a0 fun r9 =>
      call impl_InRange [.one a1, .one (I 1), .one r9] fun o10 =>
      rt [.sc] [(atP o10 0)] k)
      (rt [.sc] [(.bool false)] k))
     (rt [.sc] [(.bool false)] k))
    (rt [.sc] [(.bool false)] k))
   (rt [.sc] [(.bool false)] k)) u0
 | _, _ => False
abbrev impl_IsKeys_e : Ent := ⟨[94], impl_IsKeys⟩
theorem impl_IsKeys_w : EntOK Try.prog TT impl_IsKeys_e := ent_ok tabok (L := [impl_InRange_e, impl_ascending_e, impl_isKey_e]) ⟨impl_InRange_w, impl_ascending_w, impl_isKey_w, trivial⟩ (keep := []) (l := []) Try.func94 (by kernel_rfl) (sg := [.one (.sc)]) (by kernel_rfl) trivial fun av k h => by
  unfold impl_IsKeys at h; split at h
  · apply un_all h; clear h; intro a0 a1 h; exact Eq.mpr (by kernel_rfl) h
  · exact h.elim

--@ impl_CanSign
def impl_CanSign_r0 (v : List PV) (K : List PV → Prop) (x0k : PV → PV → PV → PV → PV → PV → PV → PV → Prop) : Prop :=
 un 8 (fun v0 v1 v2 v3 v4 v5 v6 v7 =>
  binP .lss v5 v4 fun r0 =>
  iteP r0
   (elemP 1 v3 v5 fun c1 =>
   call slices_Contains_int [.one v0, .one (atP c1 0)] fun o2 =>
   iteP (atP o2 0)
    (binP .add v2 (I 1) fun r3 =>
    binP .add v5 (I 1) fun r4 =>
    K [v0, v1, r3, v3, v4, r4, v6, v7])
    (binP .add v5 (I 1) fun r5 =>
    K [v0, v1, v2, v3, v4, r5, v6, v7]))
   (x0k v0 v1 v2 v3 v4 v5 v6 v7)) v
def impl_CanSign : GM
 | [.agg u0, .one a2], k => un 2 (fun a0 a1 => 
  lenP a0 fun r0 =>
  lp (fun L w => impl_CanSign_r0 w L
   (fun q6 q7 q8 q9 q10 q11 q12 q13 => call impl_IsKeys [.agg [q12, q13]] fun o14 =>
    iteP (atP o14 0)
     (binP .geq q8 q13 fun r15 =>
     rt [.sc] [r15] k)
     (rt [.sc] [(.bool false)] k))) [a2, (.bool false), (I 0), a0, r0, (I 0), a0, a1]) u0
 | _, _ => False
abbrev impl_CanSign_e : Ent := ⟨[73], impl_CanSign⟩
def impl_CanSign_l : List LE := [⟨0, ⟨[(1, .one (.pv (.bool false))), (2, .one (.ptr 0 0)), (4, .one (.pv (.bool false))), (5, .one (.pv (.bool false))), (9, .one (.pv (.bool false))), (10, .one (.pv (.bool false))), (11, .one (.pv (.bool false)))], [(0, [.pv (.bool false), .pv (.bool false)])], [], 1, 29⟩, fun K k v => impl_CanSign_r0 v K (fun x0 x1 x2 x3 x4 x5 x6 x7 => k (.exit 0) ⟨[(1, .one (.pv x0)), (2, .one (.ptr 0 0)), (4, .one (.pv x1)), (5, .one (.pv x2)), (9, .one (.pv x3)), (10, .one (.pv x4)), (11, .one (.pv x5))], [(0, [.pv x6, .pv x7])], [], 1, 29⟩)⟩]
theorem impl_CanSign_s : LEsOK (orac [slices_Contains_int_e, impl_IsKeys_e]) TT (kk [1, 2, 4, 5, 9, 10, 11, 24, 25, 26, 27]) (sumsOf impl_CanSign_l) Try.f73 impl_CanSign_l := ⟨fun v K k h => by
  apply un_all h; exact fun v0 v1 v2 v3 v4 v5 v6 v7 h => Eq.mpr (by kernel_rfl) h
  , trivial⟩
theorem impl_CanSign_w : EntOK Try.prog TT impl_CanSign_e := ent_ok tabok (L := [slices_Contains_int_e, impl_IsKeys_e]) ⟨slices_Contains_int_w, impl_IsKeys_w, trivial⟩ (keep := (kk [1, 2, 4, 5, 9, 10, 11, 24, 25, 26, 27])) (l := impl_CanSign_l) Try.func73 (by kernel_rfl) (sg := [.one (.sc)]) (by kernel_rfl) impl_CanSign_s fun av k h => by
  unfold impl_CanSign at h; split at h
  · apply un_all h; clear h; intro a0 a1 h; exact Eq.mpr (by kernel_rfl) h
  · exact h.elim

--@ impl_CanSpeak
def impl_CanSpeak : GM
 | [.one a0, .one a1, .agg u0, .one a18], k => un 16 (fun a2 a3 a4 a5 a6 a7 a8 a9 a10 a11 a12 a13 a14 a15 a16 a17 => 
  call impl_isActor [.one a0, .one a1] fun o0 =>
  iteP (atP o0 0)
   (call impl_signersFor [.agg [a2, a3, a4, a5, a6, a7, a8, a9, a10, a11, a12, a13, a14, a15, a16, a17], .one a18] fun o1 =>
   elemP 1 a0 a1 fun c2 =>
   call impl_CanSign [.agg [(atP o1 0), (atP o1 1)], .one (atP c2 0)] fun o3 =>
   rt [.sc] [(atP o3 0)] k)
   (rt [.sc] [(.bool false)] k)) u0
 | _, _ => False
abbrev impl_CanSpeak_e : Ent := ⟨[37], impl_CanSpeak⟩
theorem impl_CanSpeak_w : EntOK Try.prog TT impl_CanSpeak_e := ent_ok tabok (L := [impl_isActor_e, impl_signersFor_e, impl_CanSign_e]) ⟨impl_isActor_w, impl_signersFor_w, impl_CanSign_w, trivial⟩ (keep := []) (l := []) Try.func37 (by kernel_rfl) (sg := [.one (.sc)]) (by kernel_rfl) trivial fun av k h => by
  unfold impl_CanSpeak at h; split at h
  · apply un_all h; clear h; intro a2 a3 a4 a5 a6 a7 a8 a9 a10 a11 a12 a13 a14 a15 a16 a17 h; exact Eq.mpr (by kernel_rfl) h
  · exact h.elim

--@ laws_eqKeys
def laws_eqKeys : GM
 | [.agg u0, .agg u1], k => un 2 (fun a0 a1 => un 2 (fun a2 a3 => 
  call laws_eqIntS [.one a0, .one a2] fun o0 =>
  unP .not (atP o0 0) fun r1 =>
  iteP r1
   (rt [.sc] [(.bool false)] k)
   (binP .neq a1 a3 fun r2 =>
   iteP r2
    (rt [.sc] [(.bool false)] k)
    (rt [.sc] [(.bool true)] k))) u1) u0
 | _, _ => False
abbrev laws_eqKeys_e : Ent := ⟨[75], laws_eqKeys⟩
theorem laws_eqKeys_w : EntOK Try.prog TT laws_eqKeys_e := ent_ok tabok (L := [laws_eqIntS_e]) ⟨laws_eqIntS_w, trivial⟩ (keep := []) (l := []) Try.func75 (by kernel_rfl) (sg := [.one (.sc)]) (by kernel_rfl) trivial fun av k h => by
  unfold laws_eqKeys at h; split at h
  · apply un_all h; clear h; intro a0 a1 h; apply un_all h; clear h; intro a2 a3 h; exact Eq.mpr (by kernel_rfl) h
  · exact h.elim

--@ laws_eqHead
def laws_eqHead : GM
 | [.agg u0, .agg u1], k => un 16 (fun a0 a1 a2 a3 a4 a5 a6 a7 a8 a9 a10 a11 a12 a13 a14 a15 => un 16 (fun a16 a17 a18 a19 a20 a21 a22 a23 a24 a25 a26 a27 a28 a29 a30 a31 => 
  binP .neq a0 a16 fun r0 =>
  iteP r0
   (rt [.sc] [(.bool false)] k)
   (binP .neq a1 a17 fun r1 =>
   iteP r1
    (rt [.sc] [(.bool false)] k)
    (binP .neq a2 a18 fun r2 =>
    iteP r2
     (rt [.sc] [(.bool false)] k)
     (binP .neq a3 a19 fun r3 =>
     iteP r3
      (rt [.sc] [(.bool false)] k)
      (binP .neq a4 a20 fun r4 =>
      iteP r4
       (rt [.sc] [(.bool false)] k)
       (binP .neq a5 a21 fun r5 =>
       iteP r5
        (rt [.sc] [(.bool false)] k)
        (binP .neq a6 a22 fun r6 =>
        iteP r6
         (rt [.sc] [(.bool false)] k)
         (binP .neq a7 a23 fun r7 =>
         iteP r7
          (rt [.sc] [(.bool false)] k)
          (call laws_eqKeys [.agg [a8, a9], .agg [a24, a25]] fun o8 =>
          unP .not (atP o8 0) fun r9 =>
          iteP r9
           (rt [.sc] [(.bool false)] k)
           (call laws_eqKeys [.agg [a10, a11], .agg [a26, a27]] fun o10 =>
           unP .not (atP o10 0) fun r11 =>
           iteP r11
            (rt [.sc] [(.bool false)] k)
            (binP .neq a12 a28 fun r12 =>
            iteP r12
             (rt [.sc] [(.bool false)] k)
             (call laws_eqKeys [.agg [a13, a14], .agg [a29, a30]] fun o13 =>
             unP .not (atP o13 0) fun r14 =>
             iteP r14
              (rt [.sc] [(.bool false)] k)
              (boolP .neq a15 a31 fun r15 =>
              iteP r15
               (rt [.sc] [(.bool false)] k)
               (rt [.sc] [(.bool true)] k)))))))))))))) u1) u0
 | _, _ => False
abbrev laws_eqHead_e : Ent := ⟨[38], laws_eqHead⟩
theorem laws_eqHead_w : EntOK Try.prog TT laws_eqHead_e := ent_ok tabok (L := [laws_eqKeys_e]) ⟨laws_eqKeys_w, trivial⟩ (keep := []) (l := []) Try.func38 (by kernel_rfl) (sg := [.one (.sc)]) (by kernel_rfl) trivial fun av k h => by
  unfold laws_eqHead at h; split at h
  · apply un_all h; clear h; intro a0 a1 a2 a3 a4 a5 a6 a7 a8 a9 a10 a11 a12 a13 a14 a15 h; apply un_all h; clear h; intro a16 a17 a18 a19 a20 a21 a22 a23 a24 a25 a26 a27 a28 a29 a30 a31 h; exact Eq.mpr (by kernel_rfl) h
  · exact h.elim

--@ laws_FnExactCanSpeak
def laws_FnExactCanSpeak : GM
 | [.one a0, .one a1, .agg u0, .one a18], k => un 16 (fun a2 a3 a4 a5 a6 a7 a8 a9 a10 a11 a12 a13 a14 a15 a16 a17 => 
  call laws_szActorS [.one a0, .one (I 1048576)] fun o0 =>
  binP .lss (atP o0 0) (I 0) fun r1 =>
  iteP r1
   (rt [.sc] [(.bool true)] k)
   (call laws_szHead [.agg [a2, a3, a4, a5, a6, a7, a8, a9, a10, a11, a12, a13, a14, a15, a16, a17], .one (atP o0 0)] fun o2 =>
   binP .lss (atP o2 0) (I 0) fun r3 =>
   iteP r3
    (rt [.sc] [(.bool true)] k)
    (call laws_toActorS [.one a0] fun o4 =>
    call laws_toHead [.agg [a2, a3, a4, a5, a6, a7, a8, a9, a10, a11, a12, a13, a14, a15, a16, a17]] fun o5 =>
    call spec_CanSpeak [.one (atP o4 0), .one a1, .agg [(atP o5 0), (atP o5 1), (atP o5 2), (atP o5 3), (atP o5 4), (atP o5 5), (atP o5 6), (atP o5 7), (atP o5 8), (atP o5 9), (atP o5 10), (atP o5 11), (atP o5 12), (atP o5 13), (atP o5 14), (atP o5 15)], .one a18] fun o6 =>
    call laws_toActorS [.one a0] fun o7 =>
    call laws_toHead [.agg [a2, a3, a4, a5, a6, a7, a8, a9, a10, a11, a12, a13, a14, a15, a16, a17]] fun o8 =>
    call impl_CanSpeak [.one (atP o7 0), .one a1, .agg [(atP o8 0), (atP o8 1), (atP o8 2), (atP o8 3), (atP o8 4), (atP o8 5), (atP o8 6), (atP o8 7), (atP o8 8), (atP o8 9), (atP o8 10), (atP o8 11), (atP o8 12), (atP o8 13), (atP o8 14), (atP o8 15)], .one a18] fun o9 =>
    boolP .neq (atP o9 0) (atP o6 0) fun r10 =>
    iteP r10
     (rt [.sc] [(.bool false)] k)
     (call laws_toActorS [.one a0] fun o11 =>
     call laws_eqActorS [.one (atP o7 0), .one (atP o11 0)] fun o12 =>
     unP .not (atP o12 0) fun r13 =>
     iteP r13
      (rt [.sc] [(.bool false)] k)
      (call laws_toHead [.agg [a2, a3, a4, a5, a6, a7, a8, a9, a10, a11, a12, a13, a14, a15, a16, a17]] fun o14 =>
      call laws_eqHead [.agg [(atP o8 0), (atP o8 1), (atP o8 2), (atP o8 3), (atP o8 4), (atP o8 5), (atP o8 6), (atP o8 7), (atP o8 8), (atP o8 9), (atP o8 10), (atP o8 11), (atP o8 12), (atP o8 13), (atP o8 14), (atP o8 15)], .agg [(atP o14 0), (atP o14 1), (atP o14 2), (atP o14 3), (atP o14 4), (atP o14 5), (atP o14 6), (atP o14 7), (atP o14 8), (atP o14 9), (atP o14 10), (atP o14 11), (atP o14 12), (atP o14 13), (atP o14 14), (atP o14 15)]] fun o15 =>
      unP .not (atP o15 0) fun r16 =>
      iteP r16
       (rt [.sc] [(.bool false)] k)
       (rt [.sc] [(.bool true)] k)))))) u0
 | _, _ => False
abbrev laws_FnExactCanSpeak_e : Ent := ⟨[10], laws_FnExactCanSpeak⟩
theorem laws_FnExactCanSpeak_w : EntOK Try.prog TT laws_FnExactCanSpeak_e := ent_ok tabok (L := [laws_szActorS_e, laws_szHead_e, laws_toActorS_e, laws_toHead_e, spec_CanSpeak_e, impl_CanSpeak_e, laws_eqActorS_e, laws_eqHead_e]) ⟨laws_szActorS_w, laws_szHead_w, laws_toActorS_w, laws_toHead_w, spec_CanSpeak_w, impl_CanSpeak_w, laws_eqActorS_w, laws_eqHead_w, trivial⟩ (keep := []) (l := []) Try.func10 (by kernel_rfl) (sg := [.one (.sc)]) (by kernel_rfl) trivial fun av k h => by
  unfold laws_FnExactCanSpeak at h; split at h
  · apply un_all h; clear h; intro a2 a3 a4 a5 a6 a7 a8 a9 a10 a11 a12 a13 a14 a15 a16 a17 h; exact Eq.mpr (by kernel_rfl) h
  · exact h.elim

end Go.Ev
