/- The tables of this load, and for each function the meaning that the evaluator gives it, with its proof, part 2. -/
import Derived.Test.YtgnmkfjaimgncaaGreatDoorFn1
set_option maxRecDepth 100000
set_option linter.unusedVariables false
namespace Go.Ev
open Go.Proofs
def impl_Hash_r0 (v : List PV) (K : List PV → Prop) (x0k : PV → PV → PV → PV → PV → Prop) : Prop :=
 un 5 (fun v0 v1 v2 v3 v4 =>
  binP .lss v4 v3 fun r0 =>
  iteP r0
   (elemP 1 v2 v4 fun c1 =>
   binP .mul v1 (I 1000003) fun r2 =>
   call impl_Mod [.one (atP c1 0), .one (I 2147483647)] fun o3 =>
   binP .add r2 (atP o3 0) fun r4 =>
   binP .add r4 (I 13) fun r5 =>
   binP .rem r5 (I 2147483647) fun r6 =>
   binP .add v4 (I 1) fun r7 =>
   K [v0, r6, v2, v3, r7])
   (x0k v0 v1 v2 v3 v4)) v
def impl_Hash : GM
 | [.one a0], k => 
  lenP a0 fun r0 =>
  lp (fun L w => impl_Hash_r0 w L
   (fun q8 q9 q10 q11 q12 => rt [.sc] [q9] k)) [(I 0), (I 11), a0, r0, (I 0)]
 | _, _ => False
abbrev impl_Hash_e : Ent := ⟨[199], impl_Hash⟩
def impl_Hash_l : List LE := [⟨0, ⟨[(2, .one (.pv (.bool false))), (3, .one (.pv (.bool false))), (6, .one (.pv (.bool false))), (7, .one (.pv (.bool false))), (8, .one (.pv (.bool false)))], [], [], 0, 21⟩, fun K k v => impl_Hash_r0 v K (fun x0 x1 x2 x3 x4 => k (.exit 0) ⟨[(2, .one (.pv x0)), (3, .one (.pv x1)), (6, .one (.pv x2)), (7, .one (.pv x3)), (8, .one (.pv x4))], [], [], 0, 21⟩)⟩]
theorem impl_Hash_s : LEsOK (orac [impl_Mod_e]) TT (kk [2, 3, 6, 7, 8]) (sumsOf impl_Hash_l) Tryz.f199 impl_Hash_l := ⟨fun v K k h => by
  apply un_all h; exact fun v0 v1 v2 v3 v4 h => Eq.mpr (by kernel_rfl) h
  , trivial⟩
theorem impl_Hash_w : EntOK Tryz.prog TT impl_Hash_e := ent_ok tabok (L := [impl_Mod_e]) ⟨impl_Mod_w, trivial⟩ (keep := (kk [2, 3, 6, 7, 8])) (l := impl_Hash_l) Tryz.func199 (by kernel_rfl) (sg := [.one (.sc)]) (by kernel_rfl) impl_Hash_s fun av k h => by
  unfold impl_Hash at h; split at h
  · exact Eq.mpr (by kernel_rfl) h
  · exact h.elim

def impl_ZoneOf : GM
 | [.agg u0, .one a2], k => un 2 (fun a0 a1 => 
  (2 = 2) ∧ (2 ≤ 16777216) ∧ (1 = 1) ∧ (0 = 0) ∧ (1 = 1) ∧ (flatCond [.pv (I 0)] [.pv (I 239)]) ∧ (1 = 1) ∧ (1 = 1) ∧ (flatCond [.pv (I 0)] [.pv a2]) ∧ call impl_KeysInts [.agg [a0, a1]] fun o0 =>
  catP 1 (.list 1 [[(I 239)], [a2]]) (atP o0 0) fun r1 =>
  call impl_Hash [.one r1] fun o2 =>
  rt [.sc] [(atP o2 0)] k) u0
 | _, _ => False
abbrev impl_ZoneOf_e : Ent := ⟨[171], impl_ZoneOf⟩
theorem impl_ZoneOf_w : EntOK Tryz.prog TT impl_ZoneOf_e := ent_ok tabok (L := [impl_KeysInts_e, impl_Hash_e]) ⟨impl_KeysInts_w, impl_Hash_w, trivial⟩ (keep := []) (l := []) Tryz.func171 (by kernel_rfl) (sg := [.one (.sc)]) (by kernel_rfl) trivial fun av k h => by
  unfold impl_ZoneOf at h; split at h
  · apply un_all h; clear h; intro a0 a1 h; exact Eq.mpr (by kernel_rfl) h
  · exact h.elim

def impl_bit : GM
 | [.one a0], k => 
  iteP a0
   (rt [.sc] [(I 1)] k)
   (rt [.sc] [(I 0)] k)
 | _, _ => False
abbrev impl_bit_e : Ent := ⟨[221], impl_bit⟩
theorem impl_bit_w : EntOK Tryz.prog TT impl_bit_e := ent_ok tabok (L := []) trivial (keep := []) (l := []) Tryz.func221 (by kernel_rfl) (sg := [.one (.sc)]) (by kernel_rfl) trivial fun av k h => by
  unfold impl_bit at h; split at h
  · exact Eq.mpr (by kernel_rfl) h
  · exact h.elim

def slices_Grow_int_F_nil : GM
 | [.nil 3 1, .one a0], k => 
  binP .lss a0 (I 0) fun r0 =>
  iteP r0
   (False)
   (lenP (.list 1 []) fun r1 =>
   binP .sub (I 0) r1 fun r2 =>
   binP .sub a0 r2 fun r3 =>
   binP .gtr r3 (I 0) fun r4 =>
   iteP r4
    (natP (I 0) fun n5 =>
    (0 = 0) ∧ (n5 = 0) ∧ ((Go.Ev.tI.ik = some Go.IntKind.i64)) ∧ (1 = 1) ∧ makeP 1 r3 [(I 0)] fun r6 =>
    lenP (.list 1 []) fun r7 =>
    natP r7 fun n8 =>
    cutP 1 r6 none (some n8) fun r9 =>
    rt [.own true 3 1] [r9] k)
    (rt [.own true 3 1] [(.list 1 [])] k))
 | _, _ => False
abbrev slices_Grow_int_F_nil_e : Ent := ⟨[233, 999999], slices_Grow_int_F_nil⟩
theorem slices_Grow_int_F_nil_w : EntOK Tryz.prog TT slices_Grow_int_F_nil_e := ent_okM tabok (L := []) trivial (keep := []) (l := []) Tryz.func233 (by kernel_rfl) (sg := [.one (.own true 3 1)]) (by kernel_rfl) trivial fun av k h => by
  unfold slices_Grow_int_F_nil at h; split at h
  · exact Eq.mpr (by kernel_rfl) h
  · exact h.elim

def slices_Concat_int_r0 (v : List PV) (K : List PV → Prop) (x0k : PV → PV → PV → PV → PV → PV → Prop) : Prop :=
 un 6 (fun v0 v1 v2 v3 v4 v5 =>
  binP .lss v4 v3 fun r0 =>
  iteP r0
   (elemP 1 v2 v4 fun c1 =>
   lenP (atP c1 0) fun r2 =>
   binP .add v1 r2 fun r3 =>
   binP .lss r3 (I 0) fun r4 =>
   iteP r4
    (False)
    (binP .add v4 (I 1) fun r5 =>
    K [v0, r3, v2, v3, r5, v5]))
   (x0k v0 v1 v2 v3 v4 v5)) v
def slices_Concat_int_r1 (v : List PV) (K : List PV → Prop) (x0k : PV → PV → PV → PV → PV → PV → PV → PV → PV → PV → Prop) : Prop :=
 un 10 (fun v0 v1 v2 v3 v4 v5 v6 v7 v8 v9 =>
  binP .lss v7 v6 fun r0 =>
  iteP r0
   (elemP 1 v5 v7 fun c1 =>
   (flatRows (atP c1 0)) ∧ catP 1 v8 (atP c1 0) fun r2 =>
   binP .add v7 (I 1) fun r3 =>
   K [v0, v1, v2, v3, v4, v5, v6, r3, r2, v9])
   (x0k v0 v1 v2 v3 v4 v5 v6 v7 v8 v9)) v
def slices_Concat_int : GM
 | [.one a0], k => 
  lenP a0 fun r0 =>
  lp (fun L w => slices_Concat_int_r0 w L
   (fun q6 q7 q8 q9 q10 q11 => call slices_Grow_int_F_nil [.nil 3 1, .one q7] fun o12 =>
    lenP q6 fun r13 =>
    lp (fun L w => slices_Concat_int_r1 w L
     (fun q14 q15 q16 q17 q18 q19 q20 q21 q22 q23 => rt [.own true 3 1] [q22] k)) [q6, q7, q8, q9, q10, q6, r13, (I 0), (atP o12 0), q11])) [a0, (I 0), a0, r0, (I 0), (.list 1 [])]
 | _, _ => False
abbrev slices_Concat_int_e : Ent := ⟨[220], slices_Concat_int⟩
def slices_Concat_int_l : List LE := [⟨0, ⟨[(0, .one (.pv (.bool false))), (2, .one (.own 0)), (3, .one (.pv (.bool false))), (9, .one (.pv (.bool false))), (10, .one (.pv (.bool false))), (11, .one (.pv (.bool false)))], [], [(0, ⟨.deep, 3, 1, (.bool false)⟩)], 1, 36⟩, fun K k v => slices_Concat_int_r0 v K (fun x0 x1 x2 x3 x4 x5 => k (.exit 0) ⟨[(0, .one (.pv x0)), (2, .one (.own 0)), (3, .one (.pv x1)), (9, .one (.pv x2)), (10, .one (.pv x3)), (11, .one (.pv x4))], [], [(0, ⟨.deep, 3, 1, x5⟩)], 1, 36⟩)⟩,
  ⟨1, ⟨[(0, .one (.pv (.bool false))), (2, .one (.own 0)), (3, .one (.pv (.bool false))), (6, .one (.own 1)), (9, .one (.pv (.bool false))), (10, .one (.pv (.bool false))), (11, .one (.pv (.bool false))), (25, .one (.pv (.bool false))), (26, .one (.pv (.bool false))), (27, .one (.pv (.bool false)))], [], [(1, ⟨.deep, 3, 1, (.bool false)⟩), (0, ⟨.deep, 3, 1, (.bool false)⟩)], 2, 36⟩, fun K k v => slices_Concat_int_r1 v K (fun x0 x1 x2 x3 x4 x5 x6 x7 x8 x9 => k (.exit 2) ⟨[(0, .one (.pv x0)), (2, .one (.own 0)), (3, .one (.pv x1)), (6, .one (.own 1)), (9, .one (.pv x2)), (10, .one (.pv x3)), (11, .one (.pv x4)), (25, .one (.pv x5)), (26, .one (.pv x6)), (27, .one (.pv x7))], [], [(1, ⟨.deep, 3, 1, x8⟩), (0, ⟨.deep, 3, 1, x9⟩)], 2, 36⟩)⟩]
theorem slices_Concat_int_s : LEsOK (orac [slices_Grow_int_F_nil_e]) TT (kk [0, 2, 3, 6, 9, 10, 11, 25, 26, 27]) (sumsOf slices_Concat_int_l) Tryz.f220 slices_Concat_int_l := ⟨fun v K k h => by
  apply un_all h; exact fun v0 v1 v2 v3 v4 v5 h => Eq.mpr (by kernel_rfl) h
  , fun v K k h => by
  apply un_all h; exact fun v0 v1 v2 v3 v4 v5 v6 v7 v8 v9 h => Eq.mpr (by kernel_rfl) h
  , trivial⟩
theorem slices_Concat_int_w : EntOK Tryz.prog TT slices_Concat_int_e := ent_ok tabok (L := [slices_Grow_int_F_nil_e]) ⟨slices_Grow_int_F_nil_w, trivial⟩ (keep := (kk [0, 2, 3, 6, 9, 10, 11, 25, 26, 27])) (l := slices_Concat_int_l) Tryz.func220 (by kernel_rfl) (sg := [.one (.own true 3 1)]) (by kernel_rfl) slices_Concat_int_s fun av k h => by
  unfold slices_Concat_int at h; split at h
  · exact Eq.mpr (by kernel_rfl) h
  · exact h.elim

def impl_HeadInts : GM
 | [.agg u0], k => un 16 (fun a0 a1 a2 a3 a4 a5 a6 a7 a8 a9 a10 a11 a12 a13 a14 a15 => 
  (8 = 8) ∧ (8 ≤ 16777216) ∧ (1 = 1) ∧ (0 = 0) ∧ (1 = 1) ∧ (flatCond [.pv (I 0)] [.pv a0]) ∧ (1 = 1) ∧ (1 = 1) ∧ (flatCond [.pv (I 0)] [.pv a1]) ∧ (2 = 2) ∧ (1 = 1) ∧ (flatCond [.pv (I 0)] [.pv a2]) ∧ (3 = 3) ∧ (1 = 1) ∧ (flatCond [.pv (I 0)] [.pv a3]) ∧ (4 = 4) ∧ (1 = 1) ∧ (flatCond [.pv (I 0)] [.pv a4]) ∧ (5 = 5) ∧ (1 = 1) ∧ (flatCond [.pv (I 0)] [.pv a5]) ∧ (6 = 6) ∧ (1 = 1) ∧ (flatCond [.pv (I 0)] [.pv a6]) ∧ (7 = 7) ∧ (1 = 1) ∧ (flatCond [.pv (I 0)] [.pv a7]) ∧ call impl_KeysInts [.agg [a8, a9]] fun o0 =>
  call impl_KeysInts [.agg [a10, a11]] fun o1 =>
  (1 = 1) ∧ (1 ≤ 16777216) ∧ (1 = 1) ∧ (0 = 0) ∧ (1 = 1) ∧ (flatCond [.pv (I 0)] [.pv a12]) ∧ call impl_KeysInts [.agg [a13, a14]] fun o2 =>
  call impl_bit [.one a15] fun o3 =>
  (1 = 1) ∧ (1 ≤ 16777216) ∧ (1 = 1) ∧ (0 = 0) ∧ (1 = 1) ∧ (flatCond [.pv (I 0)] [.pv (atP o3 0)]) ∧ (6 = 6) ∧ (6 ≤ 16777216) ∧ (1 = 1) ∧ (0 = 0) ∧ (1 = 1) ∧ (flatCond [.nil 3 1] [.own 1]) ∧ (1 = 1) ∧ (1 = 1) ∧ (flatCond [.nil 3 1] [.own 2]) ∧ (2 = 2) ∧ (1 = 1) ∧ (flatCond [.nil 3 1] [.own 3]) ∧ (3 = 3) ∧ (1 = 1) ∧ (flatCond [.nil 3 1] [.own 4]) ∧ (4 = 4) ∧ (1 = 1) ∧ (flatCond [.nil 3 1] [.own 5]) ∧ (5 = 5) ∧ (1 = 1) ∧ (flatCond [.nil 3 1] [.own 7]) ∧ call slices_Concat_int [.one (.list 1 [[(.list 1 [[a0], [a1], [a2], [a3], [a4], [a5], [a6], [a7]])], [(atP o0 0)], [(atP o1 0)], [(.list 1 [[a12]])], [(atP o2 0)], [(.list 1 [[(atP o3 0)]])]])] fun o4 =>
  rt [.own true 3 1] [(atP o4 0)] k) u0
 | _, _ => False
abbrev impl_HeadInts_e : Ent := ⟨[202], impl_HeadInts⟩
theorem impl_HeadInts_w : EntOK Tryz.prog TT impl_HeadInts_e := ent_ok tabok (L := [impl_KeysInts_e, impl_bit_e, slices_Concat_int_e]) ⟨impl_KeysInts_w, impl_bit_w, slices_Concat_int_w, trivial⟩ (keep := []) (l := []) Tryz.func202 (by kernel_rfl) (sg := [.one (.own true 3 1)]) (by kernel_rfl) trivial fun av k h => by
  unfold impl_HeadInts at h; split at h
  · apply un_all h; clear h; intro a0 a1 a2 a3 a4 a5 a6 a7 a8 a9 a10 a11 a12 a13 a14 a15 h; exact Eq.mpr (by kernel_rfl) h
  · exact h.elim

def impl_KeyedHash : GM
 | [.one a0, .one a1], k => 
  (1 = 1) ∧ (1 ≤ 16777216) ∧ (1 = 1) ∧ (0 = 0) ∧ (1 = 1) ∧ (flatCond [.pv (I 0)] [.pv a0]) ∧ (1 = 1) ∧ (1 ≤ 16777216) ∧ (1 = 1) ∧ (0 = 0) ∧ (1 = 1) ∧ (flatCond [.pv (I 0)] [.pv a0]) ∧ (3 = 3) ∧ (3 ≤ 16777216) ∧ (1 = 1) ∧ (0 = 0) ∧ (1 = 1) ∧ (flatCond [.nil 3 1] [.own 0]) ∧ (1 = 1) ∧ (1 = 1) ∧ (2 = 2) ∧ (1 = 1) ∧ (flatCond [.nil 3 1] [.own 1]) ∧ call slices_Concat_int [.one (.list 1 [[(.list 1 [[a0]])], [a1], [(.list 1 [[a0]])]])] fun o0 =>
  call impl_Hash [.one (atP o0 0)] fun o1 =>
  rt [.sc] [(atP o1 0)] k
 | _, _ => False
abbrev impl_KeyedHash_e : Ent := ⟨[239], impl_KeyedHash⟩
theorem impl_KeyedHash_w : EntOK Tryz.prog TT impl_KeyedHash_e := ent_ok tabok (L := [slices_Concat_int_e, impl_Hash_e]) ⟨slices_Concat_int_w, impl_Hash_w, trivial⟩ (keep := []) (l := []) Tryz.func239 (by kernel_rfl) (sg := [.one (.sc)]) (by kernel_rfl) trivial fun av k h => by
  unfold impl_KeyedHash at h; split at h
  · exact Eq.mpr (by kernel_rfl) h
  · exact h.elim

def impl_TagOf : GM
 | [.one a0, .one a1], k => 
  (1 = 1) ∧ (1 ≤ 16777216) ∧ (1 = 1) ∧ (0 = 0) ∧ (1 = 1) ∧ (flatCond [.pv (I 0)] [.pv (I 223)]) ∧ (flatRows a1) ∧ catP 1 (.list 1 [[(I 223)]]) a1 fun r0 =>
  call impl_KeyedHash [.one a0, .one r0] fun o1 =>
  rt [.sc] [(atP o1 0)] k
 | _, _ => False
abbrev impl_TagOf_e : Ent := ⟨[238], impl_TagOf⟩
theorem impl_TagOf_w : EntOK Tryz.prog TT impl_TagOf_e := ent_ok tabok (L := [impl_KeyedHash_e]) ⟨impl_KeyedHash_w, trivial⟩ (keep := []) (l := []) Tryz.func238 (by kernel_rfl) (sg := [.one (.sc)]) (by kernel_rfl) trivial fun av k h => by
  unfold impl_TagOf at h; split at h
  · exact Eq.mpr (by kernel_rfl) h
  · exact h.elim

def impl_IsSigBy : GM
 | [.agg u0, .one a2], k => un 2 (fun a0 a1 => 
  call impl_isKey [.one a0] fun o0 =>
  iteP (atP o0 0)
   (call impl_TagOf [.one a0, .one a2] fun o1 =>
   binP .eql a1 (atP o1 0) fun r2 =>
   rt [.sc] [r2] k)
   (rt [.sc] [(.bool false)] k)) u0
 | _, _ => False
abbrev impl_IsSigBy_e : Ent := ⟨[232], impl_IsSigBy⟩
theorem impl_IsSigBy_w : EntOK Tryz.prog TT impl_IsSigBy_e := ent_ok tabok (L := [impl_isKey_e, impl_TagOf_e]) ⟨impl_isKey_w, impl_TagOf_w, trivial⟩ (keep := []) (l := []) Tryz.func232 (by kernel_rfl) (sg := [.one (.sc)]) (by kernel_rfl) trivial fun av k h => by
  unfold impl_IsSigBy at h; split at h
  · apply un_all h; clear h; intro a0 a1 h; exact Eq.mpr (by kernel_rfl) h
  · exact h.elim

def impl_CountSigs_1 : GM
 | [.agg u0, .ro (.cells u1), .ro (.cells u2)], k => un 2 (fun a0 a1 => un 1 (fun a2 => un 1 (fun a3 => 
  binP .eql a0 a2 fun r0 =>
  iteP r0
   (call impl_IsSigBy [.agg [a0, a1], .one a3] fun o1 =>
   rt [.sc] [(atP o1 0)] k)
   (rt [.sc] [(.bool false)] k)) u2) u1) u0
 | _, _ => False
abbrev impl_CountSigs_1_e : Ent := ⟨[231], impl_CountSigs_1⟩
theorem impl_CountSigs_1_w : EntOK Tryz.prog TT impl_CountSigs_1_e := ent_ok tabok (L := [impl_IsSigBy_e]) ⟨impl_IsSigBy_w, trivial⟩ (keep := []) (l := []) Tryz.func231 (by kernel_rfl) (sg := [.one (.sc)]) (by kernel_rfl) trivial fun av k h => by
  unfold impl_CountSigs_1 at h; split at h
  · apply un_all h; clear h; intro a0 a1 h; apply un_all h; clear h; intro a2 h; apply un_all h; clear h; intro a3 h; exact Eq.mpr (by kernel_rfl) h
  · exact h.elim

def slices_IndexFunc_Sig_F_impl_CountSigs_1_r0 (v : List PV) (K : List PV → Prop) (x0k : PV → Prop) (x1k : PV → PV → PV → PV → PV → PV → Prop) : Prop :=
 un 6 (fun v0 v1 v2 v3 v4 v5 =>
  binP .lss v5 v4 fun r0 =>
  iteP r0
   (elemP 2 v0 v5 fun c1 =>
   call impl_CountSigs_1 [.agg [(atP c1 0), (atP c1 1)], .ro (.cells [v1]), .ro (.cells [v2])] fun o2 =>
   iteP (atP o2 0)
    (x0k v5)
    (binP .add v5 (I 1) fun r3 =>
    K [v0, v1, v2, v3, v4, r3]))
   (x1k v0 v1 v2 v3 v4 v5)) v
def slices_IndexFunc_Sig_F_impl_CountSigs_1 : GM
 | [.one a0, .fn 231 [.cells u0, .cells u1]], k => un 1 (fun a1 => un 1 (fun a2 => 
  lenP a0 fun r0 =>
  lp (fun L w => slices_IndexFunc_Sig_F_impl_CountSigs_1_r0 w L
   (fun q4 => rt [.sc] [q4] k)
   (fun q5 q6 q7 q8 q9 q10 => rt [.sc] [(I (-1))] k)) [a0, a1, a2, (I 0), r0, (I 0)]) u1) u0
 | _, _ => False
abbrev slices_IndexFunc_Sig_F_impl_CountSigs_1_e : Ent := ⟨[237, 231], slices_IndexFunc_Sig_F_impl_CountSigs_1⟩
def slices_IndexFunc_Sig_F_impl_CountSigs_1_l : List LE := [⟨0, ⟨[(0, .one (.pv (.bool false))), (1, .one (.fn 231 [.ro (.cells [(.bool false)]), .ro (.cells [(.bool false)])])), (4, .one (.pv (.bool false))), (7, .one (.pv (.bool false))), (8, .one (.pv (.bool false)))], [], [], 0, 19⟩, fun K k v => slices_IndexFunc_Sig_F_impl_CountSigs_1_r0 v K (fun x0 => k .ret ⟨[(4, .one (.pv x0))], [], [], 1, 19⟩) (fun x0 x1 x2 x3 x4 x5 => k (.exit 0) ⟨[(0, .one (.pv x0)), (1, .one (.fn 231 [.ro (.cells [x1]), .ro (.cells [x2])])), (4, .one (.pv x3)), (7, .one (.pv x4)), (8, .one (.pv x5))], [], [], 0, 19⟩)⟩]
theorem slices_IndexFunc_Sig_F_impl_CountSigs_1_s : LEsOK (orac [impl_CountSigs_1_e]) TT (kk [0, 1, 4, 7, 8]) (sumsOf slices_IndexFunc_Sig_F_impl_CountSigs_1_l) Tryz.f237 slices_IndexFunc_Sig_F_impl_CountSigs_1_l := ⟨fun v K k h => by
  apply un_all h; exact fun v0 v1 v2 v3 v4 v5 h => Eq.mpr (by kernel_rfl) h
  , trivial⟩
theorem slices_IndexFunc_Sig_F_impl_CountSigs_1_w : EntOK Tryz.prog TT slices_IndexFunc_Sig_F_impl_CountSigs_1_e := ent_ok tabok (L := [impl_CountSigs_1_e]) ⟨impl_CountSigs_1_w, trivial⟩ (keep := (kk [0, 1, 4, 7, 8])) (l := slices_IndexFunc_Sig_F_impl_CountSigs_1_l) Tryz.func237 (by kernel_rfl) (sg := [.one (.sc)]) (by kernel_rfl) slices_IndexFunc_Sig_F_impl_CountSigs_1_s fun av k h => by
  unfold slices_IndexFunc_Sig_F_impl_CountSigs_1 at h; split at h
  · apply un_all h; clear h; intro a1 h; apply un_all h; clear h; intro a2 h; exact Eq.mpr (by kernel_rfl) h
  · exact h.elim

def slices_ContainsFunc_Sig_F_impl_CountSigs_1 : GM
 | [.one a0, .fn 231 [.cells u0, .cells u1]], k => un 1 (fun a1 => un 1 (fun a2 => 
  call slices_IndexFunc_Sig_F_impl_CountSigs_1 [.one a0, .fn 231 [.cells [a1], .cells [a2]]] fun o0 =>
  binP .geq (atP o0 0) (I 0) fun r1 =>
  rt [.sc] [r1] k) u1) u0
 | _, _ => False
abbrev slices_ContainsFunc_Sig_F_impl_CountSigs_1_e : Ent := ⟨[230, 231], slices_ContainsFunc_Sig_F_impl_CountSigs_1⟩
theorem slices_ContainsFunc_Sig_F_impl_CountSigs_1_w : EntOK Tryz.prog TT slices_ContainsFunc_Sig_F_impl_CountSigs_1_e := ent_ok tabok (L := [slices_IndexFunc_Sig_F_impl_CountSigs_1_e]) ⟨slices_IndexFunc_Sig_F_impl_CountSigs_1_w, trivial⟩ (keep := []) (l := []) Tryz.func230 (by kernel_rfl) (sg := [.one (.sc)]) (by kernel_rfl) trivial fun av k h => by
  unfold slices_ContainsFunc_Sig_F_impl_CountSigs_1 at h; split at h
  · apply un_all h; clear h; intro a1 h; apply un_all h; clear h; intro a2 h; exact Eq.mpr (by kernel_rfl) h
  · exact h.elim

def impl_CountSigs_r0 (v : List PV) (K : List PV → Prop) (x0k : PV → PV → PV → PV → PV → PV → PV → Prop) : Prop :=
 un 7 (fun v0 v1 v2 v3 v4 v5 v6 =>
  binP .lss v5 v4 fun r0 =>
  iteP r0
   (elemP 1 v3 v5 fun c1 =>
   call slices_ContainsFunc_Sig_F_impl_CountSigs_1 [.one v0, .fn 231 [.cells [(atP c1 0)], .cells [v6]]] fun o2 =>
   iteP (atP o2 0)
    (binP .add v2 (I 1) fun r3 =>
    binP .add v5 (I 1) fun r4 =>
    K [v0, v1, r3, v3, v4, r4, v6])
    (binP .add v5 (I 1) fun r5 =>
    K [v0, v1, v2, v3, v4, r5, v6]))
   (x0k v0 v1 v2 v3 v4 v5 v6)) v
def impl_CountSigs : GM
 | [.agg u0, .one a2, .one a3], k => un 2 (fun a0 a1 => 
  lenP a0 fun r0 =>
  lp (fun L w => impl_CountSigs_r0 w L
   (fun q6 q7 q8 q9 q10 q11 q12 => rt [.sc] [q8] k)) [a3, (I 0), (I 0), a0, r0, (I 0), a2]) u0
 | _, _ => False
abbrev impl_CountSigs_e : Ent := ⟨[219], impl_CountSigs⟩
def impl_CountSigs_l : List LE := [⟨0, ⟨[(2, .one (.pv (.bool false))), (4, .one (.ptr 1 0)), (6, .one (.pv (.bool false))), (7, .one (.pv (.bool false))), (11, .one (.pv (.bool false))), (12, .one (.pv (.bool false))), (13, .one (.pv (.bool false)))], [(1, [.pv (.bool false)])], [], 2, 24⟩, fun K k v => impl_CountSigs_r0 v K (fun x0 x1 x2 x3 x4 x5 x6 => k (.exit 0) ⟨[(2, .one (.pv x0)), (4, .one (.ptr 1 0)), (6, .one (.pv x1)), (7, .one (.pv x2)), (11, .one (.pv x3)), (12, .one (.pv x4)), (13, .one (.pv x5))], [(1, [.pv x6])], [], 2, 24⟩)⟩]
theorem impl_CountSigs_s : LEsOK (orac [slices_ContainsFunc_Sig_F_impl_CountSigs_1_e]) TT (kk [2, 4, 6, 7, 11, 12, 13]) (sumsOf impl_CountSigs_l) Tryz.f219 impl_CountSigs_l := ⟨fun v K k h => by
  apply un_all h; exact fun v0 v1 v2 v3 v4 v5 v6 h => Eq.mpr (by kernel_rfl) h
  , trivial⟩
theorem impl_CountSigs_w : EntOK Tryz.prog TT impl_CountSigs_e := ent_ok tabok (L := [slices_ContainsFunc_Sig_F_impl_CountSigs_1_e]) ⟨slices_ContainsFunc_Sig_F_impl_CountSigs_1_w, trivial⟩ (keep := (kk [2, 4, 6, 7, 11, 12, 13])) (l := impl_CountSigs_l) Tryz.func219 (by kernel_rfl) (sg := [.one (.sc)]) (by kernel_rfl) impl_CountSigs_s fun av k h => by
  unfold impl_CountSigs at h; split at h
  · apply un_all h; clear h; intro a0 a1 h; exact Eq.mpr (by kernel_rfl) h
  · exact h.elim

def impl_IsSigned : GM
 | [.agg u0, .one a2, .one a3], k => un 2 (fun a0 a1 => 
  call impl_IsKeys [.agg [a0, a1]] fun o0 =>
  iteP (atP o0 0)
   (call impl_CountSigs [.agg [a0, a1], .one a2, .one a3] fun o1 =>
   binP .geq (atP o1 0) a1 fun r2 =>
   rt [.sc] [r2] k)
   (rt [.sc] [(.bool false)] k)) u0
 | _, _ => False
abbrev impl_IsSigned_e : Ent := ⟨[201], impl_IsSigned⟩
theorem impl_IsSigned_w : EntOK Tryz.prog TT impl_IsSigned_e := ent_ok tabok (L := [impl_IsKeys_e, impl_CountSigs_e]) ⟨impl_IsKeys_w, impl_CountSigs_w, trivial⟩ (keep := []) (l := []) Tryz.func201 (by kernel_rfl) (sg := [.one (.sc)]) (by kernel_rfl) trivial fun av k h => by
  unfold impl_IsSigned at h; split at h
  · apply un_all h; clear h; intro a0 a1 h; exact Eq.mpr (by kernel_rfl) h
  · exact h.elim

def impl_Signed_isSignedBy : GM
 | [.agg u0, .agg u1], k => un 17 (fun a0 a1 a2 a3 a4 a5 a6 a7 a8 a9 a10 a11 a12 a13 a14 a15 a16 => un 2 (fun a17 a18 => 
  call impl_HeadInts [.agg [a0, a1, a2, a3, a4, a5, a6, a7, a8, a9, a10, a11, a12, a13, a14, a15]] fun o0 =>
  call impl_IsSigned [.agg [a17, a18], .one (atP o0 0), .one a16] fun o1 =>
  rt [.sc] [(atP o1 0)] k) u1) u0
 | _, _ => False
abbrev impl_Signed_isSignedBy_e : Ent := ⟨[172], impl_Signed_isSignedBy⟩
theorem impl_Signed_isSignedBy_w : EntOK Tryz.prog TT impl_Signed_isSignedBy_e := ent_ok tabok (L := [impl_HeadInts_e, impl_IsSigned_e]) ⟨impl_HeadInts_w, impl_IsSigned_w, trivial⟩ (keep := []) (l := []) Tryz.func172 (by kernel_rfl) (sg := [.one (.sc)]) (by kernel_rfl) trivial fun av k h => by
  unfold impl_Signed_isSignedBy at h; split at h
  · apply un_all h; clear h; intro a0 a1 a2 a3 a4 a5 a6 a7 a8 a9 a10 a11 a12 a13 a14 a15 a16 h; apply un_all h; clear h; intro a17 a18 h; exact Eq.mpr (by kernel_rfl) h
  · exact h.elim

def impl_IsFirst : GM
 | [.agg u0], k => un 17 (fun a0 a1 a2 a3 a4 a5 a6 a7 a8 a9 a10 a11 a12 a13 a14 a15 a16 => 
  call impl_IsHead [.agg [a0, a1, a2, a3, a4, a5, a6, a7, a8, a9, a10, a11, a12, a13, a14, a15]] fun o0 =>
  iteP (atP o0 0)
   (binP .eql a1 (I 0) fun r1 =>
   iteP r1
    (binP .eql a2 (I 1) fun r2 =>
    iteP r2
     (unP .not a15 fun r3 =>
     iteP r3
      (call impl_ZoneOf [.agg [a8, a9], .one a7] fun o4 =>
      binP .eql a0 (atP o4 0) fun r5 =>
      iteP r5
       (call impl_Signed_isSignedBy [.agg [a0, a1, a2, a3, a4, a5, a6, a7, a8, a9, a10, a11, a12, a13, a14, a15, a16], .agg [a8, a9]] fun o6 =>
       rt [.sc] [(atP o6 0)] k)
       (rt [.sc] [(.bool false)] k))
      (rt [.sc] [(.bool false)] k))
     (rt [.sc] [(.bool false)] k))
    (rt [.sc] [(.bool false)] k))
   (rt [.sc] [(.bool false)] k)) u0
 | _, _ => False
abbrev impl_IsFirst_e : Ent := ⟨[138], impl_IsFirst⟩
theorem impl_IsFirst_w : EntOK Tryz.prog TT impl_IsFirst_e := ent_ok tabok (L := [impl_IsHead_e, impl_ZoneOf_e, impl_Signed_isSignedBy_e]) ⟨impl_IsHead_w, impl_ZoneOf_w, impl_Signed_isSignedBy_w, trivial⟩ (keep := []) (l := []) Tryz.func138 (by kernel_rfl) (sg := [.one (.sc)]) (by kernel_rfl) trivial fun av k h => by
  unfold impl_IsFirst at h; split at h
  · apply un_all h; clear h; intro a0 a1 a2 a3 a4 a5 a6 a7 a8 a9 a10 a11 a12 a13 a14 a15 a16 h; exact Eq.mpr (by kernel_rfl) h
  · exact h.elim

def impl_HeadDigest : GM
 | [.agg u0], k => un 16 (fun a0 a1 a2 a3 a4 a5 a6 a7 a8 a9 a10 a11 a12 a13 a14 a15 => 
  (1 = 1) ∧ (1 ≤ 16777216) ∧ (1 = 1) ∧ (0 = 0) ∧ (1 = 1) ∧ (flatCond [.pv (I 0)] [.pv (I 233)]) ∧ call impl_HeadInts [.agg [a0, a1, a2, a3, a4, a5, a6, a7, a8, a9, a10, a11, a12, a13, a14, a15]] fun o0 =>
  catP 1 (.list 1 [[(I 233)]]) (atP o0 0) fun r1 =>
  call impl_Hash [.one r1] fun o2 =>
  rt [.sc] [(atP o2 0)] k) u0
 | _, _ => False
abbrev impl_HeadDigest_e : Ent := ⟨[222], impl_HeadDigest⟩
theorem impl_HeadDigest_w : EntOK Tryz.prog TT impl_HeadDigest_e := ent_ok tabok (L := [impl_HeadInts_e, impl_Hash_e]) ⟨impl_HeadInts_w, impl_Hash_w, trivial⟩ (keep := []) (l := []) Tryz.func222 (by kernel_rfl) (sg := [.one (.sc)]) (by kernel_rfl) trivial fun av k h => by
  unfold impl_HeadDigest at h; split at h
  · apply un_all h; clear h; intro a0 a1 a2 a3 a4 a5 a6 a7 a8 a9 a10 a11 a12 a13 a14 a15 h; exact Eq.mpr (by kernel_rfl) h
  · exact h.elim

def impl_isNext : GM
 | [.agg u0, .agg u1], k => un 16 (fun a0 a1 a2 a3 a4 a5 a6 a7 a8 a9 a10 a11 a12 a13 a14 a15 => un 16 (fun a16 a17 a18 a19 a20 a21 a22 a23 a24 a25 a26 a27 a28 a29 a30 a31 => 
  binP .eql a16 a0 fun r0 =>
  iteP r0
   (binP .add a1 (I 1) fun r1 =>
   binP .eql a17 r1 fun r2 =>
   iteP r2
    (call impl_HeadDigest [.agg [a0, a1, a2, a3, a4, a5, a6, a7, a8, a9, a10, a11, a12, a13, a14, a15]] fun o3 =>
    binP .eql a23 (atP o3 0) fun r4 =>
    iteP r4
     (binP .geq a19 a3 fun r5 =>
     rt [.sc] [r5] k)
     (rt [.sc] [(.bool false)] k))
    (rt [.sc] [(.bool false)] k))
   (rt [.sc] [(.bool false)] k)) u1) u0
 | _, _ => False
abbrev impl_isNext_e : Ent := ⟨[203], impl_isNext⟩
theorem impl_isNext_w : EntOK Tryz.prog TT impl_isNext_e := ent_ok tabok (L := [impl_HeadDigest_e]) ⟨impl_HeadDigest_w, trivial⟩ (keep := []) (l := []) Tryz.func203 (by kernel_rfl) (sg := [.one (.sc)]) (by kernel_rfl) trivial fun av k h => by
  unfold impl_isNext at h; split at h
  · apply un_all h; clear h; intro a0 a1 a2 a3 a4 a5 a6 a7 a8 a9 a10 a11 a12 a13 a14 a15 h; apply un_all h; clear h; intro a16 a17 a18 a19 a20 a21 a22 a23 a24 a25 a26 a27 a28 a29 a30 a31 h; exact Eq.mpr (by kernel_rfl) h
  · exact h.elim

def impl_ownerCode : GM
 | [.agg u0, .agg u1], k => un 16 (fun a0 a1 a2 a3 a4 a5 a6 a7 a8 a9 a10 a11 a12 a13 a14 a15 => un 17 (fun a16 a17 a18 a19 a20 a21 a22 a23 a24 a25 a26 a27 a28 a29 a30 a31 a32 => 
  iteP a15
   (rt [.sc] [(I 4)] k)
   (iteP a31
    (rt [.sc] [(I 6)] k)
    (call impl_Signed_isSignedBy [.agg [a16, a17, a18, a19, a20, a21, a22, a23, a24, a25, a26, a27, a28, a29, a30, a31, a32], .agg [a8, a9]] fun o0 =>
    unP .not (atP o0 0) fun r1 =>
    iteP r1
     (rt [.sc] [(I 7)] k)
     (rt [.sc] [(I 1)] k)))) u1) u0
 | _, _ => False
abbrev impl_ownerCode_e : Ent := ⟨[204], impl_ownerCode⟩
theorem impl_ownerCode_w : EntOK Tryz.prog TT impl_ownerCode_e := ent_ok tabok (L := [impl_Signed_isSignedBy_e]) ⟨impl_Signed_isSignedBy_w, trivial⟩ (keep := []) (l := []) Tryz.func204 (by kernel_rfl) (sg := [.one (.sc)]) (by kernel_rfl) trivial fun av k h => by
  unfold impl_ownerCode at h; split at h
  · apply un_all h; clear h; intro a0 a1 a2 a3 a4 a5 a6 a7 a8 a9 a10 a11 a12 a13 a14 a15 h; apply un_all h; clear h; intro a16 a17 a18 a19 a20 a21 a22 a23 a24 a25 a26 a27 a28 a29 a30 a31 a32 h; exact Eq.mpr (by kernel_rfl) h
  · exact h.elim

def slices_Equal_int_r0 (v : List PV) (K : List PV → Prop) (x0k : Prop) (x1k : PV → PV → PV → PV → PV → Prop) : Prop :=
 un 5 (fun v0 v1 v2 v3 v4 =>
  binP .lss v4 v3 fun r0 =>
  iteP r0
   (elemP 1 v0 v4 fun c1 =>
   elemP 1 v1 v4 fun c2 =>
   binP .neq (atP c1 0) (atP c2 0) fun r3 =>
   iteP r3
    (x0k)
    (binP .add v4 (I 1) fun r4 =>
    K [v0, v1, v2, v3, r4]))
   (x1k v0 v1 v2 v3 v4)) v
def slices_Equal_int : GM
 | [.one a0, .one a1], k => 
  lenP a0 fun r0 =>
  lenP a1 fun r1 =>
  binP .neq r0 r1 fun r2 =>
  iteP r2
   (rt [.sc] [(.bool false)] k)
   (lenP a0 fun r3 =>
   lp (fun L w => slices_Equal_int_r0 w L
    (rt [.sc] [(.bool false)] k)
    (fun q5 q6 q7 q8 q9 => rt [.sc] [(.bool true)] k)) [a0, a1, (.bool false), r3, (I 0)])
 | _, _ => False
abbrev slices_Equal_int_e : Ent := ⟨[234], slices_Equal_int⟩
def slices_Equal_int_l : List LE := [⟨0, ⟨[(0, .one (.pv (.bool false))), (1, .one (.pv (.bool false))), (4, .one (.pv (.bool false))), (12, .one (.pv (.bool false))), (13, .one (.pv (.bool false)))], [], [], 0, 26⟩, fun K k v => slices_Equal_int_r0 v K (k .ret ⟨[(4, .one (.kb false))], [], [], 0, 26⟩) (fun x0 x1 x2 x3 x4 => k (.exit 0) ⟨[(0, .one (.pv x0)), (1, .one (.pv x1)), (4, .one (.pv x2)), (12, .one (.pv x3)), (13, .one (.pv x4))], [], [], 0, 26⟩)⟩]
theorem slices_Equal_int_s : LEsOK (orac []) TT (kk [0, 1, 4, 12, 13]) (sumsOf slices_Equal_int_l) Tryz.f234 slices_Equal_int_l := ⟨fun v K k h => by
  apply un_all h; exact fun v0 v1 v2 v3 v4 h => Eq.mpr (by kernel_rfl) h
  , trivial⟩
theorem slices_Equal_int_w : EntOK Tryz.prog TT slices_Equal_int_e := ent_ok tabok (L := []) trivial (keep := (kk [0, 1, 4, 12, 13])) (l := slices_Equal_int_l) Tryz.func234 (by kernel_rfl) (sg := [.one (.sc)]) (by kernel_rfl) slices_Equal_int_s fun av k h => by
  unfold slices_Equal_int at h; split at h
  · exact Eq.mpr (by kernel_rfl) h
  · exact h.elim

def impl_EqualKeys : GM
 | [.agg u0, .agg u1], k => un 2 (fun a0 a1 => un 2 (fun a2 a3 => 
  call slices_Equal_int [.one a0, .one a2] fun o0 =>
  iteP (atP o0 0)
   (binP .eql a1 a3 fun r1 =>
   rt [.sc] [r1] k)
   (rt [.sc] [(.bool false)] k)) u1) u0
 | _, _ => False
abbrev impl_EqualKeys_e : Ent := ⟨[223], impl_EqualKeys⟩
theorem impl_EqualKeys_w : EntOK Tryz.prog TT impl_EqualKeys_e := ent_ok tabok (L := [slices_Equal_int_e]) ⟨slices_Equal_int_w, trivial⟩ (keep := []) (l := []) Tryz.func223 (by kernel_rfl) (sg := [.one (.sc)]) (by kernel_rfl) trivial fun av k h => by
  unfold impl_EqualKeys at h; split at h
  · apply un_all h; clear h; intro a0 a1 h; apply un_all h; clear h; intro a2 a3 h; exact Eq.mpr (by kernel_rfl) h
  · exact h.elim

def impl_SameContents : GM
 | [.agg u0, .agg u1], k => un 16 (fun a0 a1 a2 a3 a4 a5 a6 a7 a8 a9 a10 a11 a12 a13 a14 a15 => un 16 (fun a16 a17 a18 a19 a20 a21 a22 a23 a24 a25 a26 a27 a28 a29 a30 a31 => 
  binP .eql a5 a21 fun r0 =>
  iteP r0
   (binP .eql a6 a22 fun r1 =>
   rt [.sc] [r1] k)
   (rt [.sc] [(.bool false)] k)) u1) u0
 | _, _ => False
abbrev impl_SameContents_e : Ent := ⟨[224], impl_SameContents⟩
theorem impl_SameContents_w : EntOK Tryz.prog TT impl_SameContents_e := ent_ok tabok (L := []) trivial (keep := []) (l := []) Tryz.func224 (by kernel_rfl) (sg := [.one (.sc)]) (by kernel_rfl) trivial fun av k h => by
  unfold impl_SameContents at h; split at h
  · apply un_all h; clear h; intro a0 a1 a2 a3 a4 a5 a6 a7 a8 a9 a10 a11 a12 a13 a14 a15 h; apply un_all h; clear h; intro a16 a17 a18 a19 a20 a21 a22 a23 a24 a25 a26 a27 a28 a29 a30 a31 h; exact Eq.mpr (by kernel_rfl) h
  · exact h.elim

def impl_heirCode : GM
 | [.agg u0, .agg u1], k => un 16 (fun a0 a1 a2 a3 a4 a5 a6 a7 a8 a9 a10 a11 a12 a13 a14 a15 => un 17 (fun a16 a17 a18 a19 a20 a21 a22 a23 a24 a25 a26 a27 a28 a29 a30 a31 a32 => 
  iteP a15
   (rt [.sc] [(I 4)] k)
   (call impl_NoKeys [.agg [a10, a11]] fun o0 =>
   iteP (atP o0 0)
    (rt [.sc] [(I 5)] k)
    (binP .add a4 a12 fun r1 =>
    binP .lss a19 r1 fun r2 =>
    iteP r2
     (rt [.sc] [(I 5)] k)
     (iteP a31
      (rt [.sc] [(I 6)] k)
      (call impl_EqualKeys [.agg [a24, a25], .agg [a10, a11]] fun o3 =>
      unP .not (atP o3 0) fun r4 =>
      iteP r4
       (rt [.sc] [(I 6)] k)
       (call impl_SameContents [.agg [a16, a17, a18, a19, a20, a21, a22, a23, a24, a25, a26, a27, a28, a29, a30, a31], .agg [a0, a1, a2, a3, a4, a5, a6, a7, a8, a9, a10, a11, a12, a13, a14, a15]] fun o5 =>
       unP .not (atP o5 0) fun r6 =>
       iteP r6
        (rt [.sc] [(I 6)] k)
        (call impl_Signed_isSignedBy [.agg [a16, a17, a18, a19, a20, a21, a22, a23, a24, a25, a26, a27, a28, a29, a30, a31, a32], .agg [a10, a11]] fun o7 =>
        unP .not (atP o7 0) fun r8 =>
        iteP r8
         (rt [.sc] [(I 7)] k)
         (rt [.sc] [(I 1)] k)))))))) u1) u0
 | _, _ => False
abbrev impl_heirCode_e : Ent := ⟨[205], impl_heirCode⟩
theorem impl_heirCode_w : EntOK Tryz.prog TT impl_heirCode_e := ent_ok tabok (L := [impl_NoKeys_e, impl_EqualKeys_e, impl_SameContents_e, impl_Signed_isSignedBy_e]) ⟨impl_NoKeys_w, impl_EqualKeys_w, impl_SameContents_w, impl_Signed_isSignedBy_w, trivial⟩ (keep := []) (l := []) Tryz.func205 (by kernel_rfl) (sg := [.one (.sc)]) (by kernel_rfl) trivial fun av k h => by
  unfold impl_heirCode at h; split at h
  · apply un_all h; clear h; intro a0 a1 a2 a3 a4 a5 a6 a7 a8 a9 a10 a11 a12 a13 a14 a15 h; apply un_all h; clear h; intro a16 a17 a18 a19 a20 a21 a22 a23 a24 a25 a26 a27 a28 a29 a30 a31 a32 h; exact Eq.mpr (by kernel_rfl) h
  · exact h.elim

def impl_judgeCode : GM
 | [.agg u0, .agg u1], k => un 16 (fun a0 a1 a2 a3 a4 a5 a6 a7 a8 a9 a10 a11 a12 a13 a14 a15 => un 17 (fun a16 a17 a18 a19 a20 a21 a22 a23 a24 a25 a26 a27 a28 a29 a30 a31 a32 => 
  call impl_SameContents [.agg [a16, a17, a18, a19, a20, a21, a22, a23, a24, a25, a26, a27, a28, a29, a30, a31], .agg [a0, a1, a2, a3, a4, a5, a6, a7, a8, a9, a10, a11, a12, a13, a14, a15]] fun o0 =>
  iteP (atP o0 0)
   (call impl_EqualKeys [.agg [a29, a30], .agg [a13, a14]] fun o1 =>
   iteP (atP o1 0)
    (call impl_EqualKeys [.agg [a26, a27], .agg [a10, a11]] fun o2 =>
    iteP (atP o2 0)
     (binP .eql a28 a12 fun r3 =>
     call impl_NoKeys [.agg [a13, a14]] fun o4 =>
     iteP (atP o4 0)
      (rt [.sc] [(I 5)] k)
      (boolP .eql a31 a15 fun r5 =>
      iteP r5
       (rt [.sc] [(I 6)] k)
       (unP .not r3 fun r6 =>
       iteP r6
        (rt [.sc] [(I 6)] k)
        (iteP a31
         (call impl_EqualKeys [.agg [a24, a25], .agg [a8, a9]] fun o7 =>
         unP .not (atP o7 0) fun r8 =>
         iteP r8
          (rt [.sc] [(I 6)] k)
          (call impl_Signed_isSignedBy [.agg [a16, a17, a18, a19, a20, a21, a22, a23, a24, a25, a26, a27, a28, a29, a30, a31, a32], .agg [a13, a14]] fun o9 =>
          unP .not (atP o9 0) fun r10 =>
          iteP r10
           (rt [.sc] [(I 7)] k)
           (rt [.sc] [(I 1)] k)))
         (call impl_Signed_isSignedBy [.agg [a16, a17, a18, a19, a20, a21, a22, a23, a24, a25, a26, a27, a28, a29, a30, a31, a32], .agg [a13, a14]] fun o11 =>
         unP .not (atP o11 0) fun r12 =>
         iteP r12
          (rt [.sc] [(I 7)] k)
          (rt [.sc] [(I 1)] k))))))
     (call impl_NoKeys [.agg [a13, a14]] fun o13 =>
     iteP (atP o13 0)
      (rt [.sc] [(I 5)] k)
      (boolP .eql a31 a15 fun r14 =>
      iteP r14
       (rt [.sc] [(I 6)] k)
       (rt [.sc] [(I 6)] k))))
    (call impl_NoKeys [.agg [a13, a14]] fun o15 =>
    iteP (atP o15 0)
     (rt [.sc] [(I 5)] k)
     (boolP .eql a31 a15 fun r16 =>
     iteP r16
      (rt [.sc] [(I 6)] k)
      (rt [.sc] [(I 6)] k))))
   (call impl_NoKeys [.agg [a13, a14]] fun o17 =>
   iteP (atP o17 0)
    (rt [.sc] [(I 5)] k)
    (boolP .eql a31 a15 fun r18 =>
    iteP r18
     (rt [.sc] [(I 6)] k)
     (rt [.sc] [(I 6)] k)))) u1) u0
 | _, _ => False
abbrev impl_judgeCode_e : Ent := ⟨[206], impl_judgeCode⟩
theorem impl_judgeCode_w : EntOK Tryz.prog TT impl_judgeCode_e := ent_ok tabok (L := [impl_SameContents_e, impl_EqualKeys_e, impl_NoKeys_e, impl_Signed_isSignedBy_e]) ⟨impl_SameContents_w, impl_EqualKeys_w, impl_NoKeys_w, impl_Signed_isSignedBy_w, trivial⟩ (keep := []) (l := []) Tryz.func206 (by kernel_rfl) (sg := [.one (.sc)]) (by kernel_rfl) trivial fun av k h => by
  unfold impl_judgeCode at h; split at h
  · apply un_all h; clear h; intro a0 a1 a2 a3 a4 a5 a6 a7 a8 a9 a10 a11 a12 a13 a14 a15 h; apply un_all h; clear h; intro a16 a17 a18 a19 a20 a21 a22 a23 a24 a25 a26 a27 a28 a29 a30 a31 a32 h; exact Eq.mpr (by kernel_rfl) h
  · exact h.elim

def impl_NextCode : GM
 | [.agg u0, .agg u1], k => un 16 (fun a0 a1 a2 a3 a4 a5 a6 a7 a8 a9 a10 a11 a12 a13 a14 a15 => un 17 (fun a16 a17 a18 a19 a20 a21 a22 a23 a24 a25 a26 a27 a28 a29 a30 a31 a32 => 
  call impl_IsHead [.agg [a0, a1, a2, a3, a4, a5, a6, a7, a8, a9, a10, a11, a12, a13, a14, a15]] fun o0 =>
  unP .not (atP o0 0) fun r1 =>
  iteP r1
   (rt [.sc] [(I 2)] k)
   (call impl_IsHead [.agg [a16, a17, a18, a19, a20, a21, a22, a23, a24, a25, a26, a27, a28, a29, a30, a31]] fun o2 =>
   unP .not (atP o2 0) fun r3 =>
   iteP r3
    (rt [.sc] [(I 2)] k)
    (call impl_isNext [.agg [a0, a1, a2, a3, a4, a5, a6, a7, a8, a9, a10, a11, a12, a13, a14, a15], .agg [a16, a17, a18, a19, a20, a21, a22, a23, a24, a25, a26, a27, a28, a29, a30, a31]] fun o4 =>
    unP .not (atP o4 0) fun r5 =>
    iteP r5
     (rt [.sc] [(I 3)] k)
     (binP .eql a18 (I 1) fun r6 =>
     iteP r6
      (call impl_ownerCode [.agg [a0, a1, a2, a3, a4, a5, a6, a7, a8, a9, a10, a11, a12, a13, a14, a15], .agg [a16, a17, a18, a19, a20, a21, a22, a23, a24, a25, a26, a27, a28, a29, a30, a31, a32]] fun o7 =>
      rt [.sc] [(atP o7 0)] k)
      (binP .eql a18 (I 2) fun r8 =>
      iteP r8
       (call impl_heirCode [.agg [a0, a1, a2, a3, a4, a5, a6, a7, a8, a9, a10, a11, a12, a13, a14, a15], .agg [a16, a17, a18, a19, a20, a21, a22, a23, a24, a25, a26, a27, a28, a29, a30, a31, a32]] fun o9 =>
       rt [.sc] [(atP o9 0)] k)
       (call impl_judgeCode [.agg [a0, a1, a2, a3, a4, a5, a6, a7, a8, a9, a10, a11, a12, a13, a14, a15], .agg [a16, a17, a18, a19, a20, a21, a22, a23, a24, a25, a26, a27, a28, a29, a30, a31, a32]] fun o10 =>
       rt [.sc] [(atP o10 0)] k)))))) u1) u0
 | _, _ => False
abbrev impl_NextCode_e : Ent := ⟨[173], impl_NextCode⟩
theorem impl_NextCode_w : EntOK Tryz.prog TT impl_NextCode_e := ent_ok tabok (L := [impl_IsHead_e, impl_isNext_e, impl_ownerCode_e, impl_heirCode_e, impl_judgeCode_e]) ⟨impl_IsHead_w, impl_isNext_w, impl_ownerCode_w, impl_heirCode_w, impl_judgeCode_w, trivial⟩ (keep := []) (l := []) Tryz.func173 (by kernel_rfl) (sg := [.one (.sc)]) (by kernel_rfl) trivial fun av k h => by
  unfold impl_NextCode at h; split at h
  · apply un_all h; clear h; intro a0 a1 a2 a3 a4 a5 a6 a7 a8 a9 a10 a11 a12 a13 a14 a15 h; apply un_all h; clear h; intro a16 a17 a18 a19 a20 a21 a22 a23 a24 a25 a26 a27 a28 a29 a30 a31 a32 h; exact Eq.mpr (by kernel_rfl) h
  · exact h.elim

def impl_MayFollow : GM
 | [.agg u0, .agg u1], k => un 16 (fun a0 a1 a2 a3 a4 a5 a6 a7 a8 a9 a10 a11 a12 a13 a14 a15 => un 17 (fun a16 a17 a18 a19 a20 a21 a22 a23 a24 a25 a26 a27 a28 a29 a30 a31 a32 => 
  call impl_NextCode [.agg [a0, a1, a2, a3, a4, a5, a6, a7, a8, a9, a10, a11, a12, a13, a14, a15], .agg [a16, a17, a18, a19, a20, a21, a22, a23, a24, a25, a26, a27, a28, a29, a30, a31, a32]] fun o0 =>
  binP .eql (atP o0 0) (I 1) fun r1 =>
  rt [.sc] [r1] k) u1) u0
 | _, _ => False
abbrev impl_MayFollow_e : Ent := ⟨[139], impl_MayFollow⟩
theorem impl_MayFollow_w : EntOK Tryz.prog TT impl_MayFollow_e := ent_ok tabok (L := [impl_NextCode_e]) ⟨impl_NextCode_w, trivial⟩ (keep := []) (l := []) Tryz.func139 (by kernel_rfl) (sg := [.one (.sc)]) (by kernel_rfl) trivial fun av k h => by
  unfold impl_MayFollow at h; split at h
  · apply un_all h; clear h; intro a0 a1 a2 a3 a4 a5 a6 a7 a8 a9 a10 a11 a12 a13 a14 a15 h; apply un_all h; clear h; intro a16 a17 a18 a19 a20 a21 a22 a23 a24 a25 a26 a27 a28 a29 a30 a31 a32 h; exact Eq.mpr (by kernel_rfl) h
  · exact h.elim

def impl_FirstWrong_r0 (v : List PV) (K : List PV → Prop) (x0k : PV → PV → PV → PV → PV → PV → PV → PV → PV → PV → PV → PV → PV → PV → PV → PV → PV → PV → Prop) (x1k : PV → PV → PV → PV → PV → PV → PV → PV → PV → PV → PV → PV → PV → PV → PV → PV → PV → PV → Prop) (x2k : PV → PV → PV → PV → PV → Prop) : Prop :=
 un 5 (fun v0 v1 v2 v3 v4 =>
  binP .lss v4 v3 fun r0 =>
  iteP r0
   (elemP 17 v2 v4 fun c1 =>
   binP .eql v4 (I 0) fun r2 =>
   iteP r2
    (call impl_IsFirst [.agg [(atP c1 0), (atP c1 1), (atP c1 2), (atP c1 3), (atP c1 4), (atP c1 5), (atP c1 6), (atP c1 7), (atP c1 8), (atP c1 9), (atP c1 10), (atP c1 11), (atP c1 12), (atP c1 13), (atP c1 14), (atP c1 15), (atP c1 16)]] fun o3 =>
    unP .not (atP o3 0) fun r4 =>
    iteP r4
     (x0k v4 (atP c1 0) (atP c1 1) (atP c1 2) (atP c1 3) (atP c1 4) (atP c1 5) (atP c1 6) (atP c1 7) (atP c1 8) (atP c1 9) (atP c1 10) (atP c1 11) (atP c1 12) (atP c1 13) (atP c1 14) (atP c1 15) (atP c1 16))
     (binP .gtr v4 (I 0) fun r5 =>
     iteP r5
      (binP .sub v4 (I 1) fun r6 =>
      elemP 17 v0 r6 fun c7 =>
      call impl_MayFollow [.agg [(atP c7 0), (atP c7 1), (atP c7 2), (atP c7 3), (atP c7 4), (atP c7 5), (atP c7 6), (atP c7 7), (atP c7 8), (atP c7 9), (atP c7 10), (atP c7 11), (atP c7 12), (atP c7 13), (atP c7 14), (atP c7 15)], .agg [(atP c1 0), (atP c1 1), (atP c1 2), (atP c1 3), (atP c1 4), (atP c1 5), (atP c1 6), (atP c1 7), (atP c1 8), (atP c1 9), (atP c1 10), (atP c1 11), (atP c1 12), (atP c1 13), (atP c1 14), (atP c1 15), (atP c1 16)]] fun o8 =>
      unP .not (atP o8 0) fun r9 =>
      iteP r9
       (x1k v4 (atP c1 0) (atP c1 1) (atP c1 2) (atP c1 3) (atP c1 4) (atP c1 5) (atP c1 6) (atP c1 7) (atP c1 8) (atP c1 9) (atP c1 10) (atP c1 11) (atP c1 12) (atP c1 13) (atP c1 14) (atP c1 15) (atP c1 16))
       (binP .add v4 (I 1) fun r10 =>
       K [v0, v1, v2, v3, r10]))
      (binP .add v4 (I 1) fun r11 =>
      K [v0, v1, v2, v3, r11])))
    (binP .gtr v4 (I 0) fun r12 =>
    iteP r12
     (binP .sub v4 (I 1) fun r13 =>
     elemP 17 v0 r13 fun c14 =>
     call impl_MayFollow [.agg [(atP c14 0), (atP c14 1), (atP c14 2), (atP c14 3), (atP c14 4), (atP c14 5), (atP c14 6), (atP c14 7), (atP c14 8), (atP c14 9), (atP c14 10), (atP c14 11), (atP c14 12), (atP c14 13), (atP c14 14), (atP c14 15)], .agg [(atP c1 0), (atP c1 1), (atP c1 2), (atP c1 3), (atP c1 4), (atP c1 5), (atP c1 6), (atP c1 7), (atP c1 8), (atP c1 9), (atP c1 10), (atP c1 11), (atP c1 12), (atP c1 13), (atP c1 14), (atP c1 15), (atP c1 16)]] fun o15 =>
     unP .not (atP o15 0) fun r16 =>
     iteP r16
      (x0k v4 (atP c1 0) (atP c1 1) (atP c1 2) (atP c1 3) (atP c1 4) (atP c1 5) (atP c1 6) (atP c1 7) (atP c1 8) (atP c1 9) (atP c1 10) (atP c1 11) (atP c1 12) (atP c1 13) (atP c1 14) (atP c1 15) (atP c1 16))
      (binP .add v4 (I 1) fun r17 =>
      K [v0, v1, v2, v3, r17]))
     (binP .add v4 (I 1) fun r18 =>
     K [v0, v1, v2, v3, r18])))
   (x2k v0 v1 v2 v3 v4)) v
def impl_FirstWrong : GM
 | [.one a0], k => 
  lenP a0 fun r0 =>
  lp (fun L w => impl_FirstWrong_r0 w L
   (fun q19 q20 q21 q22 q23 q24 q25 q26 q27 q28 q29 q30 q31 q32 q33 q34 q35 q36 => rt [.sc] [q19] k)
   (fun q37 q38 q39 q40 q41 q42 q43 q44 q45 q46 q47 q48 q49 q50 q51 q52 q53 q54 => rt [.sc] [q37] k)
   (fun q55 q56 q57 q58 q59 => rt [.sc] [(I (-1))] k)) [a0, (I 0), a0, r0, (I 0)]
 | _, _ => False
abbrev impl_FirstWrong_e : Ent := ⟨[113], impl_FirstWrong⟩
def impl_FirstWrong_l : List LE := [⟨0, ⟨[(0, .one (.pv (.bool false))), (2, .one (.pv (.bool false))), (5, .one (.pv (.bool false))), (6, .one (.pv (.bool false))), (7, .one (.pv (.bool false)))], [], [], 0, 36⟩, fun K k v => impl_FirstWrong_r0 v K (fun x0 x1 x2 x3 x4 x5 x6 x7 x8 x9 x10 x11 x12 x13 x14 x15 x16 x17 => k .ret ⟨[(2, .one (.pv x0))], [(0, [.pv x1, .pv x2, .pv x3, .pv x4, .pv x5, .pv x6, .pv x7, .pv x8, .pv x9, .pv x10, .pv x11, .pv x12, .pv x13, .pv x14, .pv x15, .pv x16, .pv x17]), (0, [.pv (I 0), .pv (I 0), .pv (I 0), .pv (I 0), .pv (I 0), .pv (I 0), .pv (I 0), .pv (I 0), .nil 3 1, .pv (I 0), .nil 3 1, .pv (I 0), .pv (I 0), .nil 3 1, .pv (I 0), .pv (.bool false), .nil 228 2])], [], 2, 36⟩) (fun x0 x1 x2 x3 x4 x5 x6 x7 x8 x9 x10 x11 x12 x13 x14 x15 x16 x17 => k .ret ⟨[(2, .one (.pv x0))], [(0, [.pv x1, .pv x2, .pv x3, .pv x4, .pv x5, .pv x6, .pv x7, .pv x8, .pv x9, .pv x10, .pv x11, .pv x12, .pv x13, .pv x14, .pv x15, .pv x16, .pv x17]), (0, [.pv (I 0), .pv (I 0), .pv (I 0), .pv (I 0), .pv (I 0), .pv (I 0), .pv (I 0), .pv (I 0), .nil 3 1, .pv (I 0), .nil 3 1, .pv (I 0), .pv (I 0), .nil 3 1, .pv (I 0), .pv (.bool false), .nil 228 2])], [], 3, 36⟩) (fun x0 x1 x2 x3 x4 => k (.exit 0) ⟨[(0, .one (.pv x0)), (2, .one (.pv x1)), (5, .one (.pv x2)), (6, .one (.pv x3)), (7, .one (.pv x4))], [], [], 0, 36⟩)⟩]
theorem impl_FirstWrong_s : LEsOK (orac [impl_IsFirst_e, impl_MayFollow_e]) TT (kk [0, 2, 5, 6, 7, 15, 16, 17, 20, 21, 22, 23, 24, 25, 26, 27, 28, 29, 30, 31, 32]) (sumsOf impl_FirstWrong_l) Tryz.f113 impl_FirstWrong_l := ⟨fun v K k h => by
  apply un_all h; exact fun v0 v1 v2 v3 v4 h => Eq.mpr (by kernel_rfl) h
  , trivial⟩
theorem impl_FirstWrong_w : EntOK Tryz.prog TT impl_FirstWrong_e := ent_ok tabok (L := [impl_IsFirst_e, impl_MayFollow_e]) ⟨impl_IsFirst_w, impl_MayFollow_w, trivial⟩ (keep := (kk [0, 2, 5, 6, 7, 15, 16, 17, 20, 21, 22, 23, 24, 25, 26, 27, 28, 29, 30, 31, 32])) (l := impl_FirstWrong_l) Tryz.func113 (by kernel_rfl) (sg := [.one (.sc)]) (by kernel_rfl) impl_FirstWrong_s fun av k h => by
  unfold impl_FirstWrong at h; split at h
  · exact Eq.mpr (by kernel_rfl) h
  · exact h.elim

def impl_IsChain : GM
 | [.one a0], k => 
  lenP a0 fun r0 =>
  call impl_InRange [.one r0, .one (I 1), .one (I 12)] fun o1 =>
  iteP (atP o1 0)
   (call impl_FirstWrong [.one a0] fun o2 =>
   binP .lss (atP o2 0) (I 0) fun r3 =>
   rt [.sc] [r3] k)
   (rt [.sc] [(.bool false)] k)
 | _, _ => False
abbrev impl_IsChain_e : Ent := ⟨[80], impl_IsChain⟩
theorem impl_IsChain_w : EntOK Tryz.prog TT impl_IsChain_e := ent_ok tabok (L := [impl_InRange_e, impl_FirstWrong_e]) ⟨impl_InRange_w, impl_FirstWrong_w, trivial⟩ (keep := []) (l := []) Tryz.func80 (by kernel_rfl) (sg := [.one (.sc)]) (by kernel_rfl) trivial fun av k h => by
  unfold impl_IsChain at h; split at h
  · exact Eq.mpr (by kernel_rfl) h
  · exact h.elim

def impl_last : GM
 | [.one a0], k => 
  lenP a0 fun r0 =>
  binP .sub r0 (I 1) fun r1 =>
  elemP 17 a0 r1 fun c2 =>
  rt [.sc, .sc, .sc, .sc, .sc, .sc, .sc, .sc, .pv, .sc, .pv, .sc, .sc, .pv, .sc, .sc] [(atP c2 0), (atP c2 1), (atP c2 2), (atP c2 3), (atP c2 4), (atP c2 5), (atP c2 6), (atP c2 7), (atP c2 8), (atP c2 9), (atP c2 10), (atP c2 11), (atP c2 12), (atP c2 13), (atP c2 14), (atP c2 15)] k
 | _, _ => False
abbrev impl_last_e : Ent := ⟨[46], impl_last⟩
theorem impl_last_w : EntOK Tryz.prog TT impl_last_e := ent_ok tabok (L := []) trivial (keep := []) (l := []) Tryz.func46 (by kernel_rfl) (sg := [.agg [.sc, .sc, .sc, .sc, .sc, .sc, .sc, .sc, .pv, .sc, .pv, .sc, .sc, .pv, .sc, .sc]]) (by kernel_rfl) trivial fun av k h => by
  unfold impl_last at h; split at h
  · exact Eq.mpr (by kernel_rfl) h
  · exact h.elim

def impl_IsLabel_r0 (v : List PV) (K : List PV → Prop) (x0k : Prop) (x1k : PV → PV → PV → PV → Prop) : Prop :=
 un 4 (fun v0 v1 v2 v3 =>
  binP .lss v3 v2 fun r0 =>
  iteP r0
   (charP v0 v3 fun r1 =>
   binP .geq r1 (.int .u8 97) fun r2 =>
   iteP r2
    (binP .leq r1 (.int .u8 122) fun r3 =>
    iteP r3
     (binP .add v3 (I 1) fun r4 =>
     K [v0, v1, v2, r4])
     (binP .geq r1 (.int .u8 48) fun r5 =>
     iteP r5
      (binP .leq r1 (.int .u8 57) fun r6 =>
      iteP r6
       (binP .add v3 (I 1) fun r7 =>
       K [v0, v1, v2, r7])
       (binP .eql r1 (.int .u8 45) fun r8 =>
       iteP r8
        (binP .gtr v3 (I 0) fun r9 =>
        iteP r9
         (lenS v0 fun r10 =>
         binP .sub r10 (I 1) fun r11 =>
         binP .lss v3 r11 fun r12 =>
         unP .not r12 fun r13 =>
         iteP r13
          (x0k)
          (binP .add v3 (I 1) fun r14 =>
          K [v0, v1, v2, r14]))
         (x0k))
        (x0k)))
      (binP .eql r1 (.int .u8 45) fun r15 =>
      iteP r15
       (binP .gtr v3 (I 0) fun r16 =>
       iteP r16
        (lenS v0 fun r17 =>
        binP .sub r17 (I 1) fun r18 =>
        binP .lss v3 r18 fun r19 =>
        unP .not r19 fun r20 =>
        iteP r20
         (x0k)
         (binP .add v3 (I 1) fun r21 =>
         K [v0, v1, v2, r21]))
        (x0k))
       (x0k))))
    (binP .geq r1 (.int .u8 48) fun r22 =>
    iteP r22
     (binP .leq r1 (.int .u8 57) fun r23 =>
     iteP r23
      (binP .add v3 (I 1) fun r24 =>
      K [v0, v1, v2, r24])
      (binP .eql r1 (.int .u8 45) fun r25 =>
      iteP r25
       (binP .gtr v3 (I 0) fun r26 =>
       iteP r26
        (lenS v0 fun r27 =>
        binP .sub r27 (I 1) fun r28 =>
        binP .lss v3 r28 fun r29 =>
        unP .not r29 fun r30 =>
        iteP r30
         (x0k)
         (binP .add v3 (I 1) fun r31 =>
         K [v0, v1, v2, r31]))
        (x0k))
       (x0k)))
     (binP .eql r1 (.int .u8 45) fun r32 =>
     iteP r32
      (binP .gtr v3 (I 0) fun r33 =>
      iteP r33
       (lenS v0 fun r34 =>
       binP .sub r34 (I 1) fun r35 =>
       binP .lss v3 r35 fun r36 =>
       unP .not r36 fun r37 =>
       iteP r37
        (x0k)
        (binP .add v3 (I 1) fun r38 =>
        K [v0, v1, v2, r38]))
       (x0k))
      (x0k))))
   (x1k v0 v1 v2 v3)) v
def impl_IsLabel : GM
 | [.one a0], k => 
  lenS a0 fun r0 =>
  lp (fun L w => impl_IsLabel_r0 w L
   (rt [.sc] [(.bool false)] k)
   (fun q39 q40 q41 q42 => lenS q39 fun r43 =>
    call impl_InRange [.one r43, .one (I 1), .one (I 8)] fun o44 =>
    rt [.sc] [(atP o44 0)] k)) [a0, (.bool false), r0, (I 0)]
 | _, _ => False
abbrev impl_IsLabel_e : Ent := ⟨[147], impl_IsLabel⟩
def impl_IsLabel_l : List LE := [⟨0, ⟨[(0, .one (.pv (.bool false))), (2, .one (.pv (.bool false))), (6, .one (.pv (.bool false))), (7, .one (.pv (.bool false)))], [], [], 0, 47⟩, fun K k v => impl_IsLabel_r0 v K (k .ret ⟨[(2, .one (.kb false))], [], [], 0, 47⟩) (fun x0 x1 x2 x3 => k (.exit 0) ⟨[(0, .one (.pv x0)), (2, .one (.pv x1)), (6, .one (.pv x2)), (7, .one (.pv x3))], [], [], 0, 47⟩)⟩]
theorem impl_IsLabel_s : LEsOK (orac [impl_InRange_e]) TT (kk [0, 2, 6, 7, 16, 17, 20, 21, 22, 23, 24, 25, 28, 29, 30, 31, 32, 33, 34, 35, 36, 37, 38, 39, 40]) (sumsOf impl_IsLabel_l) Tryz.f147 impl_IsLabel_l := ⟨fun v K k h => by
  apply un_all h; exact fun v0 v1 v2 v3 h => Eq.mpr (by kernel_rfl) h
  , trivial⟩
theorem impl_IsLabel_w : EntOK Tryz.prog TT impl_IsLabel_e := ent_ok tabok (L := [impl_InRange_e]) ⟨impl_InRange_w, trivial⟩ (keep := (kk [0, 2, 6, 7, 16, 17, 20, 21, 22, 23, 24, 25, 28, 29, 30, 31, 32, 33, 34, 35, 36, 37, 38, 39, 40])) (l := impl_IsLabel_l) Tryz.func147 (by kernel_rfl) (sg := [.one (.sc)]) (by kernel_rfl) impl_IsLabel_s fun av k h => by
  unfold impl_IsLabel at h; split at h
  · exact Eq.mpr (by kernel_rfl) h
  · exact h.elim

def impl_IsPath_1 : GM
 | [.one a0], k => 
  call impl_IsLabel [.one a0] fun o0 =>
  unP .not (atP o0 0) fun r1 =>
  rt [.sc] [r1] k
 | _, _ => False
abbrev impl_IsPath_1_e : Ent := ⟨[146], impl_IsPath_1⟩
theorem impl_IsPath_1_w : EntOK Tryz.prog TT impl_IsPath_1_e := ent_ok tabok (L := [impl_IsLabel_e]) ⟨impl_IsLabel_w, trivial⟩ (keep := []) (l := []) Tryz.func146 (by kernel_rfl) (sg := [.one (.sc)]) (by kernel_rfl) trivial fun av k h => by
  unfold impl_IsPath_1 at h; split at h
  · exact Eq.mpr (by kernel_rfl) h
  · exact h.elim

def slices_IndexFunc_string_F_impl_IsPath_1_r0 (v : List PV) (K : List PV → Prop) (x0k : PV → Prop) (x1k : PV → PV → PV → PV → Prop) : Prop :=
 un 4 (fun v0 v1 v2 v3 =>
  binP .lss v3 v2 fun r0 =>
  iteP r0
   (elemP 1 v0 v3 fun c1 =>
   call impl_IsPath_1 [.one (atP c1 0)] fun o2 =>
   iteP (atP o2 0)
    (x0k v3)
    (binP .add v3 (I 1) fun r3 =>
    K [v0, v1, v2, r3]))
   (x1k v0 v1 v2 v3)) v
def slices_IndexFunc_string_F_impl_IsPath_1 : GM
 | [.one a0, .fn 146 []], k => 
  lenP a0 fun r0 =>
  lp (fun L w => slices_IndexFunc_string_F_impl_IsPath_1_r0 w L
   (fun q4 => rt [.sc] [q4] k)
   (fun q5 q6 q7 q8 => rt [.sc] [(I (-1))] k)) [a0, (I 0), r0, (I 0)]
 | _, _ => False
abbrev slices_IndexFunc_string_F_impl_IsPath_1_e : Ent := ⟨[179, 146], slices_IndexFunc_string_F_impl_IsPath_1⟩
def slices_IndexFunc_string_F_impl_IsPath_1_l : List LE := [⟨0, ⟨[(0, .one (.pv (.bool false))), (1, .one (.fn 146 [])), (4, .one (.pv (.bool false))), (7, .one (.pv (.bool false))), (8, .one (.pv (.bool false)))], [], [], 0, 19⟩, fun K k v => slices_IndexFunc_string_F_impl_IsPath_1_r0 v K (fun x0 => k .ret ⟨[(4, .one (.pv x0))], [], [], 1, 19⟩) (fun x0 x1 x2 x3 => k (.exit 0) ⟨[(0, .one (.pv x0)), (1, .one (.fn 146 [])), (4, .one (.pv x1)), (7, .one (.pv x2)), (8, .one (.pv x3))], [], [], 0, 19⟩)⟩]
theorem slices_IndexFunc_string_F_impl_IsPath_1_s : LEsOK (orac [impl_IsPath_1_e]) TT (kk [0, 1, 4, 7, 8]) (sumsOf slices_IndexFunc_string_F_impl_IsPath_1_l) Tryz.f179 slices_IndexFunc_string_F_impl_IsPath_1_l := ⟨fun v K k h => by
  apply un_all h; exact fun v0 v1 v2 v3 h => Eq.mpr (by kernel_rfl) h
  , trivial⟩
theorem slices_IndexFunc_string_F_impl_IsPath_1_w : EntOK Tryz.prog TT slices_IndexFunc_string_F_impl_IsPath_1_e := ent_ok tabok (L := [impl_IsPath_1_e]) ⟨impl_IsPath_1_w, trivial⟩ (keep := (kk [0, 1, 4, 7, 8])) (l := slices_IndexFunc_string_F_impl_IsPath_1_l) Tryz.func179 (by kernel_rfl) (sg := [.one (.sc)]) (by kernel_rfl) slices_IndexFunc_string_F_impl_IsPath_1_s fun av k h => by
  unfold slices_IndexFunc_string_F_impl_IsPath_1 at h; split at h
  · exact Eq.mpr (by kernel_rfl) h
  · exact h.elim

def slices_ContainsFunc_string_F_impl_IsPath_1 : GM
 | [.one a0, .fn 146 []], k => 
  call slices_IndexFunc_string_F_impl_IsPath_1 [.one a0, .fn 146 []] fun o0 =>
  binP .geq (atP o0 0) (I 0) fun r1 =>
  rt [.sc] [r1] k
 | _, _ => False
abbrev slices_ContainsFunc_string_F_impl_IsPath_1_e : Ent := ⟨[145, 146], slices_ContainsFunc_string_F_impl_IsPath_1⟩
theorem slices_ContainsFunc_string_F_impl_IsPath_1_w : EntOK Tryz.prog TT slices_ContainsFunc_string_F_impl_IsPath_1_e := ent_ok tabok (L := [slices_IndexFunc_string_F_impl_IsPath_1_e]) ⟨slices_IndexFunc_string_F_impl_IsPath_1_w, trivial⟩ (keep := []) (l := []) Tryz.func145 (by kernel_rfl) (sg := [.one (.sc)]) (by kernel_rfl) trivial fun av k h => by
  unfold slices_ContainsFunc_string_F_impl_IsPath_1 at h; split at h
  · exact Eq.mpr (by kernel_rfl) h
  · exact h.elim

def impl_IsPath : GM
 | [.one a0], k => 
  lenP a0 fun r0 =>
  call impl_InRange [.one r0, .one (I 1), .one (I 4)] fun o1 =>
  iteP (atP o1 0)
   (call slices_ContainsFunc_string_F_impl_IsPath_1 [.one a0, .fn 146 []] fun o2 =>
   unP .not (atP o2 0) fun r3 =>
   rt [.sc] [r3] k)
   (rt [.sc] [(.bool false)] k)
 | _, _ => False
abbrev impl_IsPath_e : Ent := ⟨[117], impl_IsPath⟩
theorem impl_IsPath_w : EntOK Tryz.prog TT impl_IsPath_e := ent_ok tabok (L := [impl_InRange_e, slices_ContainsFunc_string_F_impl_IsPath_1_e]) ⟨impl_InRange_w, slices_ContainsFunc_string_F_impl_IsPath_1_w, trivial⟩ (keep := []) (l := []) Tryz.func117 (by kernel_rfl) (sg := [.one (.sc)]) (by kernel_rfl) trivial fun av k h => by
  unfold impl_IsPath at h; split at h
  · exact Eq.mpr (by kernel_rfl) h
  · exact h.elim

def impl_IsEntry : GM
 | [.agg u0], k => un 4 (fun a0 a1 a2 a3 => 
  call impl_IsLabel [.one a0] fun o0 =>
  unP .not (atP o0 0) fun r1 =>
  iteP r1
   (rt [.sc] [(.bool false)] k)
   (binP .eql a1 (I 1) fun r2 =>
   iteP r2
    (call impl_InRange [.one a2, .one (I 0), .one (I 999999)] fun o3 =>
    iteP (atP o3 0)
     (lenP a3 fun r4 =>
     binP .eql r4 (I 0) fun r5 =>
     rt [.sc] [r5] k)
     (rt [.sc] [(.bool false)] k))
    (binP .eql a1 (I 2) fun r6 =>
    iteP r6
     (call impl_isDigest [.one a2] fun o7 =>
     iteP (atP o7 0)
      (lenP a3 fun r8 =>
      binP .eql r8 (I 0) fun r9 =>
      rt [.sc] [r9] k)
      (rt [.sc] [(.bool false)] k))
     (binP .eql a1 (I 3) fun r10 =>
     iteP r10
      (call impl_isDigest [.one a2] fun o11 =>
      iteP (atP o11 0)
       (call impl_IsPath [.one a3] fun o12 =>
       rt [.sc] [(atP o12 0)] k)
       (rt [.sc] [(.bool false)] k))
      (rt [.sc] [(.bool false)] k))))) u0
 | _, _ => False
abbrev impl_IsEntry_e : Ent := ⟨[140], impl_IsEntry⟩
theorem impl_IsEntry_w : EntOK Tryz.prog TT impl_IsEntry_e := ent_ok tabok (L := [impl_IsLabel_e, impl_InRange_e, impl_isDigest_e, impl_IsPath_e]) ⟨impl_IsLabel_w, impl_InRange_w, impl_isDigest_w, impl_IsPath_w, trivial⟩ (keep := []) (l := []) Tryz.func140 (by kernel_rfl) (sg := [.one (.sc)]) (by kernel_rfl) trivial fun av k h => by
  unfold impl_IsEntry at h; split at h
  · apply un_all h; clear h; intro a0 a1 a2 a3 h; exact Eq.mpr (by kernel_rfl) h
  · exact h.elim


def strings_Compare : GM
 | [.one a0, .one a1], k => 
  call bytealg_CompareString [.one a0, .one a1] fun o0 =>
  rt [.sc] [(atP o0 0)] k
 | _, _ => False
abbrev strings_Compare_e : Ent := ⟨[175], strings_Compare⟩
theorem strings_Compare_w : EntOK Tryz.prog TT strings_Compare_e := ent_ok tabok (L := [bytealg_CompareString_e]) ⟨bytealg_CompareString_w, trivial⟩ (keep := []) (l := []) Tryz.func175 (by kernel_rfl) (sg := [.one (.sc)]) (by kernel_rfl) trivial fun av k h => by
  unfold strings_Compare at h; split at h
  · exact Eq.mpr (by kernel_rfl) h
  · exact h.elim

def impl_CompareLabels : GM
 | [.one a0, .one a1], k => 
  call strings_Compare [.one a0, .one a1] fun o0 =>
  rt [.sc] [(atP o0 0)] k
 | _, _ => False
abbrev impl_CompareLabels_e : Ent := ⟨[141], impl_CompareLabels⟩
theorem impl_CompareLabels_w : EntOK Tryz.prog TT impl_CompareLabels_e := ent_ok tabok (L := [strings_Compare_e]) ⟨strings_Compare_w, trivial⟩ (keep := []) (l := []) Tryz.func141 (by kernel_rfl) (sg := [.one (.sc)]) (by kernel_rfl) trivial fun av k h => by
  unfold impl_CompareLabels at h; split at h
  · exact Eq.mpr (by kernel_rfl) h
  · exact h.elim

def impl_AreEntries_r0 (v : List PV) (K : List PV → Prop) (x0k : PV → PV → PV → PV → Prop) (x1k : PV → PV → PV → PV → Prop) (x2k : PV → PV → PV → PV → PV → Prop) : Prop :=
 un 5 (fun v0 v1 v2 v3 v4 =>
  binP .lss v4 v3 fun r0 =>
  iteP r0
   (elemP 4 v2 v4 fun c1 =>
   call impl_IsEntry [.agg [(atP c1 0), (atP c1 1), (atP c1 2), (atP c1 3)]] fun o2 =>
   unP .not (atP o2 0) fun r3 =>
   iteP r3
    (x0k (atP c1 0) (atP c1 1) (atP c1 2) (atP c1 3))
    (binP .gtr v4 (I 0) fun r4 =>
    iteP r4
     (binP .sub v4 (I 1) fun r5 =>
     elemP 4 v0 r5 fun c6 =>
     call impl_CompareLabels [.one (atP c1 0), .one (atP c6 0)] fun o7 =>
     binP .leq (atP o7 0) (I 0) fun r8 =>
     iteP r8
      (x1k (atP c1 0) (atP c1 1) (atP c1 2) (atP c1 3))
      (binP .add v4 (I 1) fun r9 =>
      K [v0, v1, v2, v3, r9]))
     (binP .add v4 (I 1) fun r10 =>
     K [v0, v1, v2, v3, r10])))
   (x2k v0 v1 v2 v3 v4)) v
def impl_AreEntries : GM
 | [.one a0], k => 
  lenP a0 fun r0 =>
  lp (fun L w => impl_AreEntries_r0 w L
   (fun q11 q12 q13 q14 => rt [.sc] [(.bool false)] k)
   (fun q15 q16 q17 q18 => rt [.sc] [(.bool false)] k)
   (fun q19 q20 q21 q22 q23 => lenP q19 fun r24 =>
    binP .leq r24 (I 12) fun r25 =>
    rt [.sc] [r25] k)) [a0, (.bool false), a0, r0, (I 0)]
 | _, _ => False
abbrev impl_AreEntries_e : Ent := ⟨[114], impl_AreEntries⟩
def impl_AreEntries_l : List LE := [⟨0, ⟨[(0, .one (.pv (.bool false))), (2, .one (.pv (.bool false))), (5, .one (.pv (.bool false))), (6, .one (.pv (.bool false))), (7, .one (.pv (.bool false)))], [], [], 0, 35⟩, fun K k v => impl_AreEntries_r0 v K (fun x0 x1 x2 x3 => k .ret ⟨[(2, .one (.kb false))], [(0, [.pv x0, .pv x1, .pv x2, .pv x3]), (0, [.pv (.str ⟨#[]⟩), .pv (I 0), .pv (I 0), .nil 9 1])], [], 2, 35⟩) (fun x0 x1 x2 x3 => k .ret ⟨[(2, .one (.kb false))], [(0, [.pv x0, .pv x1, .pv x2, .pv x3]), (0, [.pv (.str ⟨#[]⟩), .pv (I 0), .pv (I 0), .nil 9 1])], [], 3, 35⟩) (fun x0 x1 x2 x3 x4 => k (.exit 0) ⟨[(0, .one (.pv x0)), (2, .one (.pv x1)), (5, .one (.pv x2)), (6, .one (.pv x3)), (7, .one (.pv x4))], [], [], 0, 35⟩)⟩]
theorem impl_AreEntries_s : LEsOK (orac [impl_IsEntry_e, impl_CompareLabels_e]) TT (kk [0, 2, 5, 6, 7, 16, 17, 18, 19, 20, 21, 22, 23, 24, 25, 26, 27, 28, 29]) (sumsOf impl_AreEntries_l) Tryz.f114 impl_AreEntries_l := ⟨fun v K k h => by
  apply un_all h; exact fun v0 v1 v2 v3 v4 h => Eq.mpr (by kernel_rfl) h
  , trivial⟩
theorem impl_AreEntries_w : EntOK Tryz.prog TT impl_AreEntries_e := ent_ok tabok (L := [impl_IsEntry_e, impl_CompareLabels_e]) ⟨impl_IsEntry_w, impl_CompareLabels_w, trivial⟩ (keep := (kk [0, 2, 5, 6, 7, 16, 17, 18, 19, 20, 21, 22, 23, 24, 25, 26, 27, 28, 29])) (l := impl_AreEntries_l) Tryz.func114 (by kernel_rfl) (sg := [.one (.sc)]) (by kernel_rfl) impl_AreEntries_s fun av k h => by
  unfold impl_AreEntries at h; split at h
  · exact Eq.mpr (by kernel_rfl) h
  · exact h.elim

def impl_BytesToInts_r0 (v : List PV) (K : List PV → Prop) (x0k : PV → PV → PV → PV → PV → Prop) : Prop :=
 un 5 (fun v0 v1 v2 v3 v4 =>
  binP .lss v2 v1 fun r0 =>
  iteP r0
   (elemP 1 v0 v2 fun c1 =>
   convP .i64 (atP c1 0) fun r2 =>
   (1 = 1) ∧ (1 ≤ 16777216) ∧ (1 = 1) ∧ (0 = 0) ∧ (1 = 1) ∧ (flatCond [.pv (I 0)] [.pv r2]) ∧ catP 1 v4 (.list 1 [[r2]]) fun r3 =>
   binP .add v2 (I 1) fun r4 =>
   K [v0, v1, r4, v3, r3])
   (x0k v0 v1 v2 v3 v4)) v
def impl_BytesToInts : GM
 | [.one a0], k => 
  lenP a0 fun r0 =>
  (1 = 1) ∧ (1 ≤ 16777216) ∧ (1 = 1) ∧ (0 = 0) ∧ (1 = 1) ∧ (flatCond [.pv (I 0)] [.pv r0]) ∧ lenP a0 fun r1 =>
  lp (fun L w => impl_BytesToInts_r0 w L
   (fun q5 q6 q7 q8 q9 => rt [.own true 3 1] [q9] k)) [a0, r1, (I 0), (.list 1 []), (.list 1 [[r0]])]
 | _, _ => False
abbrev impl_BytesToInts_e : Ent := ⟨[235], impl_BytesToInts⟩
def impl_BytesToInts_l : List LE := [⟨0, ⟨[(2, .one (.own 1)), (3, .one (.own 0)), (9, .one (.pv (.bool false))), (10, .one (.pv (.bool false))), (11, .one (.pv (.bool false)))], [], [(1, ⟨.deep, 3, 1, (.bool false)⟩), (0, ⟨.deep, 3, 1, (.bool false)⟩)], 2, 22⟩, fun K k v => impl_BytesToInts_r0 v K (fun x0 x1 x2 x3 x4 => k (.exit 0) ⟨[(2, .one (.own 1)), (3, .one (.own 0)), (9, .one (.pv x0)), (10, .one (.pv x1)), (11, .one (.pv x2))], [], [(1, ⟨.deep, 3, 1, x3⟩), (0, ⟨.deep, 3, 1, x4⟩)], 2, 22⟩)⟩]
theorem impl_BytesToInts_s : LEsOK (orac []) TT (kk [2, 3, 9, 10, 11]) (sumsOf impl_BytesToInts_l) Tryz.f235 impl_BytesToInts_l := ⟨fun v K k h => by
  apply un_all h; exact fun v0 v1 v2 v3 v4 h => Eq.mpr (by kernel_rfl) h
  , trivial⟩
theorem impl_BytesToInts_w : EntOK Tryz.prog TT impl_BytesToInts_e := ent_ok tabok (L := []) trivial (keep := (kk [2, 3, 9, 10, 11])) (l := impl_BytesToInts_l) Tryz.func235 (by kernel_rfl) (sg := [.one (.own true 3 1)]) (by kernel_rfl) impl_BytesToInts_s fun av k h => by
  unfold impl_BytesToInts at h; split at h
  · exact Eq.mpr (by kernel_rfl) h
  · exact h.elim

def impl_LabelInts : GM
 | [.one a0], k => 
  bytesP a0 fun r0 =>
  call impl_BytesToInts [.one r0] fun o1 =>
  rt [.own true 3 1] [(atP o1 0)] k
 | _, _ => False
abbrev impl_LabelInts_e : Ent := ⟨[226], impl_LabelInts⟩
theorem impl_LabelInts_w : EntOK Tryz.prog TT impl_LabelInts_e := ent_ok tabok (L := [impl_BytesToInts_e]) ⟨impl_BytesToInts_w, trivial⟩ (keep := []) (l := []) Tryz.func226 (by kernel_rfl) (sg := [.one (.own true 3 1)]) (by kernel_rfl) trivial fun av k h => by
  unfold impl_LabelInts at h; split at h
  · exact Eq.mpr (by kernel_rfl) h
  · exact h.elim

def impl_EntryInts_r0 (v : List PV) (K : List PV → Prop) (x0k : PV → PV → PV → PV → PV → Prop) : Prop :=
 un 5 (fun v0 v1 v2 v3 v4 =>
  binP .lss v2 v1 fun r0 =>
  iteP r0
   (elemP 1 v0 v2 fun c1 =>
   call impl_LabelInts [.one (atP c1 0)] fun o2 =>
   catP 1 v4 (atP o2 0) fun r3 =>
   binP .add v2 (I 1) fun r4 =>
   K [v0, v1, r4, v3, r3])
   (x0k v0 v1 v2 v3 v4)) v
def impl_EntryInts : GM
 | [.agg u0], k => un 4 (fun a0 a1 a2 a3 => 
  call impl_LabelInts [.one a0] fun o0 =>
  lenP a3 fun r1 =>
  (3 = 3) ∧ (3 ≤ 16777216) ∧ (1 = 1) ∧ (0 = 0) ∧ (1 = 1) ∧ (flatCond [.pv (I 0)] [.pv a1]) ∧ (1 = 1) ∧ (1 = 1) ∧ (flatCond [.pv (I 0)] [.pv a2]) ∧ (2 = 2) ∧ (1 = 1) ∧ (flatCond [.pv (I 0)] [.pv r1]) ∧ catP 1 (atP o0 0) (.list 1 [[a1], [a2], [r1]]) fun r2 =>
  lenP a3 fun r3 =>
  lp (fun L w => impl_EntryInts_r0 w L
   (fun q5 q6 q7 q8 q9 => rt [.own true 3 1] [q9] k)) [a3, r3, (I 0), (.list 1 []), r2]) u0
 | _, _ => False
abbrev impl_EntryInts_e : Ent := ⟨[209], impl_EntryInts⟩
def impl_EntryInts_l : List LE := [⟨0, ⟨[(2, .one (.own 4)), (3, .one (.own 3)), (19, .one (.pv (.bool false))), (20, .one (.pv (.bool false))), (21, .one (.pv (.bool false)))], [], [(4, ⟨.deep, 3, 1, (.bool false)⟩), (3, ⟨.deep, 3, 1, (.bool false)⟩)], 5, 31⟩, fun K k v => impl_EntryInts_r0 v K (fun x0 x1 x2 x3 x4 => k (.exit 0) ⟨[(2, .one (.own 4)), (3, .one (.own 3)), (19, .one (.pv x0)), (20, .one (.pv x1)), (21, .one (.pv x2))], [], [(4, ⟨.deep, 3, 1, x3⟩), (3, ⟨.deep, 3, 1, x4⟩)], 5, 31⟩)⟩]
theorem impl_EntryInts_s : LEsOK (orac [impl_LabelInts_e]) TT (kk [2, 3, 19, 20, 21]) (sumsOf impl_EntryInts_l) Tryz.f209 impl_EntryInts_l := ⟨fun v K k h => by
  apply un_all h; exact fun v0 v1 v2 v3 v4 h => Eq.mpr (by kernel_rfl) h
  , trivial⟩
theorem impl_EntryInts_w : EntOK Tryz.prog TT impl_EntryInts_e := ent_ok tabok (L := [impl_LabelInts_e]) ⟨impl_LabelInts_w, trivial⟩ (keep := (kk [2, 3, 19, 20, 21])) (l := impl_EntryInts_l) Tryz.func209 (by kernel_rfl) (sg := [.one (.own true 3 1)]) (by kernel_rfl) impl_EntryInts_s fun av k h => by
  unfold impl_EntryInts at h; split at h
  · apply un_all h; clear h; intro a0 a1 a2 a3 h; exact Eq.mpr (by kernel_rfl) h
  · exact h.elim

def impl_LeafOf : GM
 | [.agg u0], k => un 4 (fun a0 a1 a2 a3 => 
  (1 = 1) ∧ (1 ≤ 16777216) ∧ (1 = 1) ∧ (0 = 0) ∧ (1 = 1) ∧ (flatCond [.pv (I 0)] [.pv (I 227)]) ∧ call impl_EntryInts [.agg [a0, a1, a2, a3]] fun o0 =>
  catP 1 (.list 1 [[(I 227)]]) (atP o0 0) fun r1 =>
  call impl_Hash [.one r1] fun o2 =>
  rt [.sc] [(atP o2 0)] k) u0
 | _, _ => False
abbrev impl_LeafOf_e : Ent := ⟨[178], impl_LeafOf⟩
theorem impl_LeafOf_w : EntOK Tryz.prog TT impl_LeafOf_e := ent_ok tabok (L := [impl_EntryInts_e, impl_Hash_e]) ⟨impl_EntryInts_w, impl_Hash_w, trivial⟩ (keep := []) (l := []) Tryz.func178 (by kernel_rfl) (sg := [.one (.sc)]) (by kernel_rfl) trivial fun av k h => by
  unfold impl_LeafOf at h; split at h
  · apply un_all h; clear h; intro a0 a1 a2 a3 h; exact Eq.mpr (by kernel_rfl) h
  · exact h.elim

def impl_LeavesOf_r0 (v : List PV) (K : List PV → Prop) (x0k : PV → PV → PV → PV → PV → Prop) : Prop :=
 un 5 (fun v0 v1 v2 v3 v4 =>
  binP .lss v2 v1 fun r0 =>
  iteP r0
   (elemP 4 v0 v2 fun c1 =>
   call impl_LeafOf [.agg [(atP c1 0), (atP c1 1), (atP c1 2), (atP c1 3)]] fun o2 =>
   (1 = 1) ∧ (1 ≤ 16777216) ∧ (1 = 1) ∧ (0 = 0) ∧ (1 = 1) ∧ (flatCond [.pv (I 0)] [.pv (atP o2 0)]) ∧ catP 1 v4 (.list 1 [[(atP o2 0)]]) fun r3 =>
   binP .add v2 (I 1) fun r4 =>
   K [v0, v1, r4, v3, r3])
   (x0k v0 v1 v2 v3 v4)) v
def impl_LeavesOf : GM
 | [.one a0], k => 
  (0 = 0) ∧ (0 ≤ 16777216) ∧ (1 = 1) ∧ lenP a0 fun r0 =>
  lp (fun L w => impl_LeavesOf_r0 w L
   (fun q5 q6 q7 q8 q9 => rt [.own true 3 1] [q9] k)) [a0, r0, (I 0), (.list 1 []), (.list 1 [])]
 | _, _ => False
abbrev impl_LeavesOf_e : Ent := ⟨[144], impl_LeavesOf⟩
def impl_LeavesOf_l : List LE := [⟨0, ⟨[(2, .one (.own 1)), (3, .one (.own 0)), (7, .one (.pv (.bool false))), (8, .one (.pv (.bool false))), (9, .one (.pv (.bool false)))], [], [(1, ⟨.deep, 3, 1, (.bool false)⟩), (0, ⟨.deep, 3, 1, (.bool false)⟩)], 2, 20⟩, fun K k v => impl_LeavesOf_r0 v K (fun x0 x1 x2 x3 x4 => k (.exit 0) ⟨[(2, .one (.own 1)), (3, .one (.own 0)), (7, .one (.pv x0)), (8, .one (.pv x1)), (9, .one (.pv x2))], [], [(1, ⟨.deep, 3, 1, x3⟩), (0, ⟨.deep, 3, 1, x4⟩)], 2, 20⟩)⟩]
theorem impl_LeavesOf_s : LEsOK (orac [impl_LeafOf_e]) TT (kk [2, 3, 7, 8, 9]) (sumsOf impl_LeavesOf_l) Tryz.f144 impl_LeavesOf_l := ⟨fun v K k h => by
  apply un_all h; exact fun v0 v1 v2 v3 v4 h => Eq.mpr (by kernel_rfl) h
  , trivial⟩
theorem impl_LeavesOf_w : EntOK Tryz.prog TT impl_LeavesOf_e := ent_ok tabok (L := [impl_LeafOf_e]) ⟨impl_LeafOf_w, trivial⟩ (keep := (kk [2, 3, 7, 8, 9])) (l := impl_LeavesOf_l) Tryz.func144 (by kernel_rfl) (sg := [.one (.own true 3 1)]) (by kernel_rfl) impl_LeavesOf_s fun av k h => by
  unfold impl_LeavesOf at h; split at h
  · exact Eq.mpr (by kernel_rfl) h
  · exact h.elim

def impl_hash : GM
 | [.one a0], k => 
  call impl_Hash [.one a0] fun o0 =>
  rt [.sc] [(atP o0 0)] k
 | _, _ => False
abbrev impl_hash_e : Ent := ⟨[176], impl_hash⟩
theorem impl_hash_w : EntOK Tryz.prog TT impl_hash_e := ent_ok tabok (L := [impl_Hash_e]) ⟨impl_Hash_w, trivial⟩ (keep := []) (l := []) Tryz.func176 (by kernel_rfl) (sg := [.one (.sc)]) (by kernel_rfl) trivial fun av k h => by
  unfold impl_hash at h; split at h
  · exact Eq.mpr (by kernel_rfl) h
  · exact h.elim

def impl_NodeOf : GM
 | [.one a0, .one a1], k => 
  (3 = 3) ∧ (3 ≤ 16777216) ∧ (1 = 1) ∧ (0 = 0) ∧ (1 = 1) ∧ (flatCond [.pv (I 0)] [.pv (I 229)]) ∧ (1 = 1) ∧ (1 = 1) ∧ (flatCond [.pv (I 0)] [.pv a0]) ∧ (2 = 2) ∧ (1 = 1) ∧ (flatCond [.pv (I 0)] [.pv a1]) ∧ call impl_hash [.one (.list 1 [[(I 229)], [a0], [a1]])] fun o0 =>
  rt [.sc] [(atP o0 0)] k
 | _, _ => False
abbrev impl_NodeOf_e : Ent := ⟨[208], impl_NodeOf⟩
theorem impl_NodeOf_w : EntOK Tryz.prog TT impl_NodeOf_e := ent_ok tabok (L := [impl_hash_e]) ⟨impl_hash_w, trivial⟩ (keep := []) (l := []) Tryz.func208 (by kernel_rfl) (sg := [.one (.sc)]) (by kernel_rfl) trivial fun av k h => by
  unfold impl_NodeOf at h; split at h
  · exact Eq.mpr (by kernel_rfl) h
  · exact h.elim

def impl_above_r0 (v : List PV) (K : List PV → Prop) (x0k : PV → PV → PV → PV → Prop) : Prop :=
 un 4 (fun v0 v1 v2 v3 =>
  lenP v0 fun r0 =>
  binP .lss v1 r0 fun r1 =>
  iteP r1
   (binP .add v1 (I 1) fun r2 =>
   lenP v0 fun r3 =>
   binP .lss r2 r3 fun r4 =>
   iteP r4
    (elemP 1 v0 v1 fun c5 =>
    binP .add v1 (I 1) fun r6 =>
    elemP 1 v0 r6 fun c7 =>
    call impl_NodeOf [.one (atP c5 0), .one (atP c7 0)] fun o8 =>
    (1 = 1) ∧ (1 ≤ 16777216) ∧ (1 = 1) ∧ (0 = 0) ∧ (1 = 1) ∧ (flatCond [.pv (I 0)] [.pv (atP o8 0)]) ∧ catP 1 v3 (.list 1 [[(atP o8 0)]]) fun r9 =>
    binP .add v1 (I 2) fun r10 =>
    K [v0, r10, v2, r9])
    (elemP 1 v0 v1 fun c11 =>
    (1 = 1) ∧ (1 ≤ 16777216) ∧ (1 = 1) ∧ (0 = 0) ∧ (1 = 1) ∧ (flatCond [.pv (I 0)] [.pv (atP c11 0)]) ∧ catP 1 v3 (.list 1 [[(atP c11 0)]]) fun r12 =>
    binP .add v1 (I 2) fun r13 =>
    K [v0, r13, v2, r12]))
   (x0k v0 v1 v2 v3)) v
def impl_above : GM
 | [.one a0], k => 
  (0 = 0) ∧ (0 ≤ 16777216) ∧ (1 = 1) ∧ lp (fun L w => impl_above_r0 w L
   (fun q14 q15 q16 q17 => rt [.own true 3 1] [q17] k)) [a0, (I 0), (.list 1 []), (.list 1 [])]
 | _, _ => False
abbrev impl_above_e : Ent := ⟨[177], impl_above⟩
def impl_above_l : List LE := [⟨0, ⟨[(0, .one (.pv (.bool false))), (2, .one (.own 1)), (3, .one (.own 0)), (4, .one (.pv (.bool false)))], [], [(1, ⟨.deep, 3, 1, (.bool false)⟩), (0, ⟨.deep, 3, 1, (.bool false)⟩)], 2, 38⟩, fun K k v => impl_above_r0 v K (fun x0 x1 x2 x3 => k (.exit 0) ⟨[(0, .one (.pv x0)), (2, .one (.own 1)), (3, .one (.own 0)), (4, .one (.pv x1))], [], [(1, ⟨.deep, 3, 1, x2⟩), (0, ⟨.deep, 3, 1, x3⟩)], 2, 38⟩)⟩]
theorem impl_above_s : LEsOK (orac [impl_NodeOf_e]) TT (kk [0, 2, 3, 4]) (sumsOf impl_above_l) Tryz.f177 impl_above_l := ⟨fun v K k h => by
  apply un_all h; exact fun v0 v1 v2 v3 h => Eq.mpr (by kernel_rfl) h
  , trivial⟩
theorem impl_above_w : EntOK Tryz.prog TT impl_above_e := ent_ok tabok (L := [impl_NodeOf_e]) ⟨impl_NodeOf_w, trivial⟩ (keep := (kk [0, 2, 3, 4])) (l := impl_above_l) Tryz.func177 (by kernel_rfl) (sg := [.one (.own true 3 1)]) (by kernel_rfl) impl_above_s fun av k h => by
  unfold impl_above at h; split at h
  · exact Eq.mpr (by kernel_rfl) h
  · exact h.elim

def impl_TopOf_r0 (v : List PV) (K : List PV → Prop) (x0k : PV → PV → Prop) : Prop :=
 un 2 (fun v0 v1 =>
  lenP v0 fun r0 =>
  binP .gtr r0 (I 1) fun r1 =>
  iteP r1
   (call impl_above [.one v0] fun o2 =>
   K [(atP o2 0), v1])
   (x0k v0 v1)) v
def impl_TopOf : GM
 | [.one a0], k => 
  lenP a0 fun r0 =>
  binP .eql r0 (I 0) fun r1 =>
  iteP r1
   ((1 = 1) ∧ (1 ≤ 16777216) ∧ (1 = 1) ∧ (0 = 0) ∧ (1 = 1) ∧ (flatCond [.pv (I 0)] [.pv (I 229)]) ∧ call impl_hash [.one (.list 1 [[(I 229)]])] fun o2 =>
   rt [.sc] [(atP o2 0)] k)
   (lp (fun L w => impl_TopOf_r0 w L
    (fun q3 q4 => elemP 1 q3 (I 0) fun c5 =>
     rt [.sc] [(atP c5 0)] k)) [a0, (I 0)])
 | _, _ => False
abbrev impl_TopOf_e : Ent := ⟨[143], impl_TopOf⟩
def impl_TopOf_l : List LE := [⟨0, ⟨[(0, .one (.pv (.bool false))), (2, .one (.pv (.bool false)))], [], [], 0, 16⟩, fun K k v => impl_TopOf_r0 v K (fun x0 x1 => k (.exit 0) ⟨[(0, .one (.pv x0)), (2, .one (.pv x1))], [], [], 0, 16⟩)⟩]
theorem impl_TopOf_s : LEsOK (orac [impl_hash_e, impl_above_e]) TT (kk [0, 2]) (sumsOf impl_TopOf_l) Tryz.f143 impl_TopOf_l := ⟨fun v K k h => by
  apply un_all h; exact fun v0 v1 h => Eq.mpr (by kernel_rfl) h
  , trivial⟩
theorem impl_TopOf_w : EntOK Tryz.prog TT impl_TopOf_e := ent_ok tabok (L := [impl_hash_e, impl_above_e]) ⟨impl_hash_w, impl_above_w, trivial⟩ (keep := (kk [0, 2])) (l := impl_TopOf_l) Tryz.func143 (by kernel_rfl) (sg := [.one (.sc)]) (by kernel_rfl) impl_TopOf_s fun av k h => by
  unfold impl_TopOf at h; split at h
  · exact Eq.mpr (by kernel_rfl) h
  · exact h.elim

def impl_rootFrom : GM
 | [.one a0, .one a1], k => 
  (3 = 3) ∧ (3 ≤ 16777216) ∧ (1 = 1) ∧ (0 = 0) ∧ (1 = 1) ∧ (flatCond [.pv (I 0)] [.pv (I 231)]) ∧ (1 = 1) ∧ (1 = 1) ∧ (flatCond [.pv (I 0)] [.pv a0]) ∧ (2 = 2) ∧ (1 = 1) ∧ (flatCond [.pv (I 0)] [.pv a1]) ∧ call impl_hash [.one (.list 1 [[(I 231)], [a0], [a1]])] fun o0 =>
  rt [.sc] [(atP o0 0)] k
 | _, _ => False
abbrev impl_rootFrom_e : Ent := ⟨[142], impl_rootFrom⟩
theorem impl_rootFrom_w : EntOK Tryz.prog TT impl_rootFrom_e := ent_ok tabok (L := [impl_hash_e]) ⟨impl_hash_w, trivial⟩ (keep := []) (l := []) Tryz.func142 (by kernel_rfl) (sg := [.one (.sc)]) (by kernel_rfl) trivial fun av k h => by
  unfold impl_rootFrom at h; split at h
  · exact Eq.mpr (by kernel_rfl) h
  · exact h.elim

def impl_RootOf : GM
 | [.one a0], k => 
  lenP a0 fun r0 =>
  call impl_LeavesOf [.one a0] fun o1 =>
  call impl_TopOf [.one (atP o1 0)] fun o2 =>
  call impl_rootFrom [.one r0, .one (atP o2 0)] fun o3 =>
  rt [.sc] [(atP o3 0)] k
 | _, _ => False
abbrev impl_RootOf_e : Ent := ⟨[115], impl_RootOf⟩
theorem impl_RootOf_w : EntOK Tryz.prog TT impl_RootOf_e := ent_ok tabok (L := [impl_LeavesOf_e, impl_TopOf_e, impl_rootFrom_e]) ⟨impl_LeavesOf_w, impl_TopOf_w, impl_rootFrom_w, trivial⟩ (keep := []) (l := []) Tryz.func115 (by kernel_rfl) (sg := [.one (.sc)]) (by kernel_rfl) trivial fun av k h => by
  unfold impl_RootOf at h; split at h
  · exact Eq.mpr (by kernel_rfl) h
  · exact h.elim

def impl_CheckAll : GM
 | [.one a0, .one a1], k => 
  call impl_AreEntries [.one a1] fun o0 =>
  iteP (atP o0 0)
   (call impl_RootOf [.one a1] fun o1 =>
   binP .eql (atP o1 0) a0 fun r2 =>
   rt [.sc] [r2] k)
   (rt [.sc] [(.bool false)] k)
 | _, _ => False
abbrev impl_CheckAll_e : Ent := ⟨[81], impl_CheckAll⟩
theorem impl_CheckAll_w : EntOK Tryz.prog TT impl_CheckAll_e := ent_ok tabok (L := [impl_AreEntries_e, impl_RootOf_e]) ⟨impl_AreEntries_w, impl_RootOf_w, trivial⟩ (keep := []) (l := []) Tryz.func81 (by kernel_rfl) (sg := [.one (.sc)]) (by kernel_rfl) trivial fun av k h => by
  unfold impl_CheckAll at h; split at h
  · exact Eq.mpr (by kernel_rfl) h
  · exact h.elim

def impl_IsZone : GM
 | [.agg u0], k => un 2 (fun a0 a1 => 
  call impl_IsChain [.one a0] fun o0 =>
  unP .not (atP o0 0) fun r1 =>
  iteP r1
   (rt [.sc] [(.bool false)] k)
   (call impl_last [.one a0] fun o2 =>
   lenP a1 fun r3 =>
   binP .eql (atP o2 5) r3 fun r4 =>
   iteP r4
    (call impl_CheckAll [.one (atP o2 6), .one a1] fun o5 =>
    rt [.sc] [(atP o5 0)] k)
    (rt [.sc] [(.bool false)] k))) u0
 | _, _ => False
abbrev impl_IsZone_e : Ent := ⟨[44], impl_IsZone⟩
theorem impl_IsZone_w : EntOK Tryz.prog TT impl_IsZone_e := ent_ok tabok (L := [impl_IsChain_e, impl_last_e, impl_CheckAll_e]) ⟨impl_IsChain_w, impl_last_w, impl_CheckAll_w, trivial⟩ (keep := []) (l := []) Tryz.func44 (by kernel_rfl) (sg := [.one (.sc)]) (by kernel_rfl) trivial fun av k h => by
  unfold impl_IsZone at h; split at h
  · apply un_all h; clear h; intro a0 a1 h; exact Eq.mpr (by kernel_rfl) h
  · exact h.elim

def impl_nameOf : GM
 | [.one a0, .one a1], k => 
  lenP a1 fun r0 =>
  call impl_InRange [.one a0, .one (I 1), .one r0] fun o1 =>
  unP .not (atP o1 0) fun r2 =>
  iteP r2
   (rt [.sc] [(.str ⟨#[]⟩)] k)
   (binP .sub a0 (I 1) fun r3 =>
   elemP 1 a1 r3 fun c4 =>
   rt [.sc] [(atP c4 0)] k)
 | _, _ => False
abbrev impl_nameOf_e : Ent := ⟨[82], impl_nameOf⟩
theorem impl_nameOf_w : EntOK Tryz.prog TT impl_nameOf_e := ent_ok tabok (L := [impl_InRange_e]) ⟨impl_InRange_w, trivial⟩ (keep := []) (l := []) Tryz.func82 (by kernel_rfl) (sg := [.one (.sc)]) (by kernel_rfl) trivial fun av k h => by
  unfold impl_nameOf at h; split at h
  · exact Eq.mpr (by kernel_rfl) h
  · exact h.elim

def impl_FormatKeys : GM
 | [.agg u0], k => un 2 (fun a0 a1 => 
  call impl_NoKeys [.agg [a0, a1]] fun o0 =>
  iteP (atP o0 0)
   (rt [.sc] [(.str ⟨#[45]⟩)] k)
   (call impl_FormatInt [.one a1] fun o1 =>
   binP .add (atP o1 0) (.str ⟨#[47]⟩) fun r2 =>
   call impl_joined [.one (.str ⟨#[43]⟩), .one a0] fun o3 =>
   binP .add r2 (atP o3 0) fun r4 =>
   rt [.sc] [r4] k)) u0
 | _, _ => False
abbrev impl_FormatKeys_e : Ent := ⟨[83], impl_FormatKeys⟩
theorem impl_FormatKeys_w : EntOK Tryz.prog TT impl_FormatKeys_e := ent_ok tabok (L := [impl_NoKeys_e, impl_FormatInt_e, impl_joined_e]) ⟨impl_NoKeys_w, impl_FormatInt_w, impl_joined_w, trivial⟩ (keep := []) (l := []) Tryz.func83 (by kernel_rfl) (sg := [.one (.sc)]) (by kernel_rfl) trivial fun av k h => by
  unfold impl_FormatKeys at h; split at h
  · apply un_all h; clear h; intro a0 a1 h; exact Eq.mpr (by kernel_rfl) h
  · exact h.elim

def impl_FormatHead : GM
 | [.agg u0], k => un 16 (fun a0 a1 a2 a3 a4 a5 a6 a7 a8 a9 a10 a11 a12 a13 a14 a15 => 
  (3 = 3) ∧ (3 ≤ 16777216) ∧ (1 = 1) ∧ (0 = 0) ∧ (1 = 1) ∧ (flatCond [.pv (.str ⟨#[]⟩)] [.pv (.str ⟨#[111, 119, 110, 101, 114]⟩)]) ∧ (1 = 1) ∧ (1 = 1) ∧ (flatCond [.pv (.str ⟨#[]⟩)] [.pv (.str ⟨#[104, 101, 105, 114]⟩)]) ∧ (2 = 2) ∧ (1 = 1) ∧ (flatCond [.pv (.str ⟨#[]⟩)] [.pv (.str ⟨#[106, 117, 100, 103, 101]⟩)]) ∧ call impl_nameOf [.one a2, .one (.list 1 [[(.str ⟨#[111, 119, 110, 101, 114]⟩)], [(.str ⟨#[104, 101, 105, 114]⟩)], [(.str ⟨#[106, 117, 100, 103, 101]⟩)]])] fun o0 =>
  binP .eql (atP o0 0) (.str ⟨#[]⟩) fun r1 =>
  iteP r1
   (call impl_FormatInt [.one a1] fun o2 =>
   (2 = 2) ∧ (2 ≤ 16777216) ∧ (1 = 1) ∧ (0 = 0) ∧ (1 = 1) ∧ (flatCond [.pv (I 0)] [.pv a3]) ∧ (1 = 1) ∧ (1 = 1) ∧ (flatCond [.pv (I 0)] [.pv a4]) ∧ call impl_joined [.one (.str ⟨#[45]⟩), .one (.list 1 [[a3], [a4]])] fun o3 =>
   call impl_FormatInt [.one a5] fun o4 =>
   call impl_FormatKeys [.agg [a8, a9]] fun o5 =>
   (5 = 5) ∧ (5 ≤ 16777216) ∧ (1 = 1) ∧ (0 = 0) ∧ (1 = 1) ∧ (flatCond [.pv (.str ⟨#[]⟩)] [.pv (atP o2 0)]) ∧ (1 = 1) ∧ (1 = 1) ∧ (flatCond [.pv (.str ⟨#[]⟩)] [.pv (.str ⟨#[63]⟩)]) ∧ (2 = 2) ∧ (1 = 1) ∧ (flatCond [.pv (.str ⟨#[]⟩)] [.pv (atP o3 0)]) ∧ (3 = 3) ∧ (1 = 1) ∧ (flatCond [.pv (.str ⟨#[]⟩)] [.pv (atP o4 0)]) ∧ (4 = 4) ∧ (1 = 1) ∧ (flatCond [.pv (.str ⟨#[]⟩)] [.pv (atP o5 0)]) ∧ call strings_Join [.one (.list 1 [[(atP o2 0)], [(.str ⟨#[63]⟩)], [(atP o3 0)], [(atP o4 0)], [(atP o5 0)]]), .one (.str ⟨#[32]⟩)] fun o6 =>
   iteP a15
    (binP .add (atP o6 0) (.str ⟨#[32, 102, 114, 111, 122, 101, 110]⟩) fun r7 =>
    rt [.sc] [r7] k)
    (rt [.sc] [(atP o6 0)] k))
   (call impl_FormatInt [.one a1] fun o8 =>
   (2 = 2) ∧ (2 ≤ 16777216) ∧ (1 = 1) ∧ (0 = 0) ∧ (1 = 1) ∧ (flatCond [.pv (I 0)] [.pv a3]) ∧ (1 = 1) ∧ (1 = 1) ∧ (flatCond [.pv (I 0)] [.pv a4]) ∧ call impl_joined [.one (.str ⟨#[45]⟩), .one (.list 1 [[a3], [a4]])] fun o9 =>
   call impl_FormatInt [.one a5] fun o10 =>
   call impl_FormatKeys [.agg [a8, a9]] fun o11 =>
   (5 = 5) ∧ (5 ≤ 16777216) ∧ (1 = 1) ∧ (0 = 0) ∧ (1 = 1) ∧ (flatCond [.pv (.str ⟨#[]⟩)] [.pv (atP o8 0)]) ∧ (1 = 1) ∧ (1 = 1) ∧ (flatCond [.pv (.str ⟨#[]⟩)] [.pv (atP o0 0)]) ∧ (2 = 2) ∧ (1 = 1) ∧ (flatCond [.pv (.str ⟨#[]⟩)] [.pv (atP o9 0)]) ∧ (3 = 3) ∧ (1 = 1) ∧ (flatCond [.pv (.str ⟨#[]⟩)] [.pv (atP o10 0)]) ∧ (4 = 4) ∧ (1 = 1) ∧ (flatCond [.pv (.str ⟨#[]⟩)] [.pv (atP o11 0)]) ∧ call strings_Join [.one (.list 1 [[(atP o8 0)], [(atP o0 0)], [(atP o9 0)], [(atP o10 0)], [(atP o11 0)]]), .one (.str ⟨#[32]⟩)] fun o12 =>
   iteP a15
    (binP .add (atP o12 0) (.str ⟨#[32, 102, 114, 111, 122, 101, 110]⟩) fun r13 =>
    rt [.sc] [r13] k)
    (rt [.sc] [(atP o12 0)] k))) u0
 | _, _ => False
abbrev impl_FormatHead_e : Ent := ⟨[45], impl_FormatHead⟩
theorem impl_FormatHead_w : EntOK Tryz.prog TT impl_FormatHead_e := ent_ok tabok (L := [impl_nameOf_e, impl_FormatInt_e, impl_joined_e, impl_FormatKeys_e, strings_Join_e]) ⟨impl_nameOf_w, impl_FormatInt_w, impl_joined_w, impl_FormatKeys_w, strings_Join_w, trivial⟩ (keep := []) (l := []) Tryz.func45 (by kernel_rfl) (sg := [.one (.sc)]) (by kernel_rfl) trivial fun av k h => by
  unfold impl_FormatHead at h; split at h
  · apply un_all h; clear h; intro a0 a1 a2 a3 a4 a5 a6 a7 a8 a9 a10 a11 a12 a13 a14 a15 h; exact Eq.mpr (by kernel_rfl) h
  · exact h.elim

def impl_FormatPath : GM
 | [.one a0], k => 
  call impl_IsPath [.one a0] fun o0 =>
  unP .not (atP o0 0) fun r1 =>
  iteP r1
   (rt [.sc] [(.str ⟨#[]⟩)] k)
   (call strings_Join [.one a0, .one (.str ⟨#[47]⟩)] fun o2 =>
   rt [.sc] [(atP o2 0)] k)
 | _, _ => False
abbrev impl_FormatPath_e : Ent := ⟨[84], impl_FormatPath⟩
theorem impl_FormatPath_w : EntOK Tryz.prog TT impl_FormatPath_e := ent_ok tabok (L := [impl_IsPath_e, strings_Join_e]) ⟨impl_IsPath_w, strings_Join_w, trivial⟩ (keep := []) (l := []) Tryz.func84 (by kernel_rfl) (sg := [.one (.sc)]) (by kernel_rfl) trivial fun av k h => by
  unfold impl_FormatPath at h; split at h
  · exact Eq.mpr (by kernel_rfl) h
  · exact h.elim

def impl_FormatEntry : GM
 | [.agg u0], k => un 4 (fun a0 a1 a2 a3 => 
  call impl_FormatInt [.one a2] fun o0 =>
  binP .eql a1 (I 2) fun r1 =>
  iteP r1
   (binP .add (.str ⟨#[35]⟩) (atP o0 0) fun r2 =>
   binP .add a0 (.str ⟨#[61]⟩) fun r3 =>
   binP .add r3 r2 fun r4 =>
   rt [.sc] [r4] k)
   (binP .eql a1 (I 3) fun r5 =>
   iteP r5
    (binP .add (.str ⟨#[62]⟩) (atP o0 0) fun r6 =>
    binP .add r6 (.str ⟨#[58]⟩) fun r7 =>
    call impl_FormatPath [.one a3] fun o8 =>
    binP .add r7 (atP o8 0) fun r9 =>
    binP .add a0 (.str ⟨#[61]⟩) fun r10 =>
    binP .add r10 r9 fun r11 =>
    rt [.sc] [r11] k)
    (binP .add a0 (.str ⟨#[61]⟩) fun r12 =>
    binP .add r12 (atP o0 0) fun r13 =>
    rt [.sc] [r13] k))) u0
 | _, _ => False
abbrev impl_FormatEntry_e : Ent := ⟨[47], impl_FormatEntry⟩
theorem impl_FormatEntry_w : EntOK Tryz.prog TT impl_FormatEntry_e := ent_ok tabok (L := [impl_FormatInt_e, impl_FormatPath_e]) ⟨impl_FormatInt_w, impl_FormatPath_w, trivial⟩ (keep := []) (l := []) Tryz.func47 (by kernel_rfl) (sg := [.one (.sc)]) (by kernel_rfl) trivial fun av k h => by
  unfold impl_FormatEntry at h; split at h
  · apply un_all h; clear h; intro a0 a1 a2 a3 h; exact Eq.mpr (by kernel_rfl) h
  · exact h.elim

def impl_FormatZone_r0 (v : List PV) (K : List PV → Prop) (x0k : PV → PV → PV → PV → PV → Prop) : Prop :=
 un 5 (fun v0 v1 v2 v3 v4 =>
  binP .lss v4 v3 fun r0 =>
  iteP r0
   (elemP 4 v2 v4 fun c1 =>
   call impl_FormatEntry [.agg [(atP c1 0), (atP c1 1), (atP c1 2), (atP c1 3)]] fun o2 =>
   binP .add (.str ⟨#[32]⟩) (atP o2 0) fun r3 =>
   binP .add v1 r3 fun r4 =>
   binP .add v4 (I 1) fun r5 =>
   K [v0, r4, v2, v3, r5])
   (x0k v0 v1 v2 v3 v4)) v
def impl_FormatZone : GM
 | [.agg u0], k => un 2 (fun a0 a1 => 
  call impl_IsZone [.agg [a0, a1]] fun o0 =>
  unP .not (atP o0 0) fun r1 =>
  iteP r1
   (rt [.sc] [(.str ⟨#[45]⟩)] k)
   (call impl_last [.one a0] fun o2 =>
   call impl_FormatHead [.agg [(atP o2 0), (atP o2 1), (atP o2 2), (atP o2 3), (atP o2 4), (atP o2 5), (atP o2 6), (atP o2 7), (atP o2 8), (atP o2 9), (atP o2 10), (atP o2 11), (atP o2 12), (atP o2 13), (atP o2 14), (atP o2 15)]] fun o3 =>
   lenP a1 fun r4 =>
   lp (fun L w => impl_FormatZone_r0 w L
    (fun q6 q7 q8 q9 q10 => rt [.sc] [q7] k)) [(.str ⟨#[]⟩), (atP o3 0), a1, r4, (I 0)])) u0
 | _, _ => False
abbrev impl_FormatZone_e : Ent := ⟨[13], impl_FormatZone⟩
def impl_FormatZone_l : List LE := [⟨0, ⟨[(2, .one (.pv (.bool false))), (3, .one (.pv (.bool false))), (14, .one (.pv (.bool false))), (15, .one (.pv (.bool false))), (16, .one (.pv (.bool false)))], [], [], 19, 27⟩, fun K k v => impl_FormatZone_r0 v K (fun x0 x1 x2 x3 x4 => k (.exit 0) ⟨[(2, .one (.pv x0)), (3, .one (.pv x1)), (14, .one (.pv x2)), (15, .one (.pv x3)), (16, .one (.pv x4))], [], [], 19, 27⟩)⟩]
theorem impl_FormatZone_s : LEsOK (orac [impl_IsZone_e, impl_last_e, impl_FormatHead_e, impl_FormatEntry_e]) TT (kk [2, 3, 14, 15, 16]) (sumsOf impl_FormatZone_l) Tryz.f13 impl_FormatZone_l := ⟨fun v K k h => by
  apply un_all h; exact fun v0 v1 v2 v3 v4 h => Eq.mpr (by kernel_rfl) h
  , trivial⟩
theorem impl_FormatZone_w : EntOK Tryz.prog TT impl_FormatZone_e := ent_ok tabok (L := [impl_IsZone_e, impl_last_e, impl_FormatHead_e, impl_FormatEntry_e]) ⟨impl_IsZone_w, impl_last_w, impl_FormatHead_w, impl_FormatEntry_w, trivial⟩ (keep := (kk [2, 3, 14, 15, 16])) (l := impl_FormatZone_l) Tryz.func13 (by kernel_rfl) (sg := [.one (.sc)]) (by kernel_rfl) impl_FormatZone_s fun av k h => by
  unfold impl_FormatZone at h; split at h
  · apply un_all h; clear h; intro a0 a1 h; exact Eq.mpr (by kernel_rfl) h
  · exact h.elim

def laws_FnExactFormatZone : GM
 | [.agg u0], k => un 2 (fun a0 a1 => 
  call laws_szZone [.agg [a0, a1], .one (I 1048576)] fun o0 =>
  binP .lss (atP o0 0) (I 0) fun r1 =>
  iteP r1
   (rt [.sc] [(.bool true)] k)
   (call laws_toZone [.agg [a0, a1]] fun o2 =>
   call spec_FormatZone [.agg [(atP o2 0), (atP o2 1)]] fun o3 =>
   call laws_toZone [.agg [a0, a1]] fun o4 =>
   call impl_FormatZone [.agg [(atP o4 0), (atP o4 1)]] fun o5 =>
   binP .neq (atP o5 0) (atP o3 0) fun r6 =>
   iteP r6
    (rt [.sc] [(.bool false)] k)
    (call laws_toZone [.agg [a0, a1]] fun o7 =>
    call laws_eqZone [.agg [(atP o4 0), (atP o4 1)], .agg [(atP o7 0), (atP o7 1)]] fun o8 =>
    unP .not (atP o8 0) fun r9 =>
    iteP r9
     (rt [.sc] [(.bool false)] k)
     (rt [.sc] [(.bool true)] k)))) u0
 | _, _ => False
abbrev laws_FnExactFormatZone_e : Ent := ⟨[4], laws_FnExactFormatZone⟩
theorem laws_FnExactFormatZone_w : EntOK Tryz.prog TT laws_FnExactFormatZone_e := ent_ok tabok (L := [laws_szZone_e, laws_toZone_e, spec_FormatZone_e, impl_FormatZone_e, laws_eqZone_e]) ⟨laws_szZone_w, laws_toZone_w, spec_FormatZone_w, impl_FormatZone_w, laws_eqZone_w, trivial⟩ (keep := []) (l := []) Tryz.func4 (by kernel_rfl) (sg := [.one (.sc)]) (by kernel_rfl) trivial fun av k h => by
  unfold laws_FnExactFormatZone at h; split at h
  · apply un_all h; clear h; intro a0 a1 h; exact Eq.mpr (by kernel_rfl) h
  · exact h.elim


end Go.Ev
