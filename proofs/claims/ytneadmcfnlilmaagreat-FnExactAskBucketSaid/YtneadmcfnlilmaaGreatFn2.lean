/- The tables of this load, and for each function the meaning that the evaluator gives it, with its proof, part 2. -/
import Derived.Test.YtneadmcfnlilmaaGreatFn1
set_option maxRecDepth 100000
set_option linter.unusedVariables false
namespace Go.Ev
open Go.Proofs
def slices_IndexFunc_Entry_F_impl_FindEntry_1_r0 (v : List PV) (K : List PV → Prop) (x0k : PV → Prop) (x1k : PV → PV → PV → PV → PV → Prop) : Prop :=
 un 5 (fun v0 v1 v2 v3 v4 =>
  binP .lss v4 v3 fun r0 =>
  iteP r0
   (elemP 4 v0 v4 fun c1 =>
   call impl_FindEntry_1 [.agg [(atP c1 0), (atP c1 1), (atP c1 2), (atP c1 3)], .ro (.cells [v1])] fun o2 =>
   iteP (atP o2 0)
    (x0k v4)
    (binP .add v4 (I 1) fun r3 =>
    K [v0, v1, v2, v3, r3]))
   (x1k v0 v1 v2 v3 v4)) v
def slices_IndexFunc_Entry_F_impl_FindEntry_1 : GM
 | [.one a0, .fn 184 [.cells u0]], k => un 1 (fun a1 => 
  lenP a0 fun r0 =>
  lp (fun L w => slices_IndexFunc_Entry_F_impl_FindEntry_1_r0 w L
   (fun q4 => rt [.sc] [q4] k)
   (fun q5 q6 q7 q8 q9 => rt [.sc] [(I (-1))] k)) [a0, a1, (I 0), r0, (I 0)]) u0
 | _, _ => False
abbrev slices_IndexFunc_Entry_F_impl_FindEntry_1_e : Ent := ⟨[183, 184], slices_IndexFunc_Entry_F_impl_FindEntry_1⟩
def slices_IndexFunc_Entry_F_impl_FindEntry_1_l : List LE := [⟨0, ⟨[(0, .one (.pv (.bool false))), (1, .one (.fn 184 [.ro (.cells [(.bool false)])])), (4, .one (.pv (.bool false))), (7, .one (.pv (.bool false))), (8, .one (.pv (.bool false)))], [], [], 0, 19⟩, fun K k v => slices_IndexFunc_Entry_F_impl_FindEntry_1_r0 v K (fun x0 => k .ret ⟨[(4, .one (.pv x0))], [], [], 1, 19⟩) (fun x0 x1 x2 x3 x4 => k (.exit 0) ⟨[(0, .one (.pv x0)), (1, .one (.fn 184 [.ro (.cells [x1])])), (4, .one (.pv x2)), (7, .one (.pv x3)), (8, .one (.pv x4))], [], [], 0, 19⟩)⟩]
theorem slices_IndexFunc_Entry_F_impl_FindEntry_1_s : LEsOK (orac [impl_FindEntry_1_e]) TT (kk [0, 1, 4, 7, 8]) (sumsOf slices_IndexFunc_Entry_F_impl_FindEntry_1_l) Tryz.f183 slices_IndexFunc_Entry_F_impl_FindEntry_1_l := ⟨fun v K k h => by
  apply un_all h; exact fun v0 v1 v2 v3 v4 h => Eq.mpr (by kernel_rfl) h
  , trivial⟩
theorem slices_IndexFunc_Entry_F_impl_FindEntry_1_w : EntOK Tryz.prog TT slices_IndexFunc_Entry_F_impl_FindEntry_1_e := ent_ok tabok (L := [impl_FindEntry_1_e]) ⟨impl_FindEntry_1_w, trivial⟩ (keep := (kk [0, 1, 4, 7, 8])) (l := slices_IndexFunc_Entry_F_impl_FindEntry_1_l) Tryz.func183 (by kernel_rfl) (sg := [.one (.sc)]) (by kernel_rfl) slices_IndexFunc_Entry_F_impl_FindEntry_1_s fun av k h => by
  unfold slices_IndexFunc_Entry_F_impl_FindEntry_1 at h; split at h
  · apply un_all h; clear h; intro a1 h; exact Eq.mpr (by kernel_rfl) h
  · exact h.elim

def impl_FindEntry : GM
 | [.one a0, .one a1], k => 
  call slices_IndexFunc_Entry_F_impl_FindEntry_1 [.one a0, .fn 184 [.cells [a1]]] fun o0 =>
  rt [.sc] [(atP o0 0)] k
 | _, _ => False
abbrev impl_FindEntry_e : Ent := ⟨[155], impl_FindEntry⟩
theorem impl_FindEntry_w : EntOK Tryz.prog TT impl_FindEntry_e := ent_okF tabok (L := [slices_IndexFunc_Entry_F_impl_FindEntry_1_e]) ⟨slices_IndexFunc_Entry_F_impl_FindEntry_1_w, trivial⟩ (keep := []) (l := []) Tryz.func155 (by kernel_rfl) (sg := [.one (.sc)]) (by kernel_rfl) trivial fun av k h => by
  unfold impl_FindEntry at h; split at h
  · exact Eq.mpr (by kernel_rfl) h
  · exact h.elim

def slices_Clone_string : GM
 | [.one a0], k => 
  nilP false a0 fun r0 =>
  iteP r0
   (rt [.own true 9 1] [(.list 1 [])] k)
   ((0 = 0) ∧ (0 ≤ 16777216) ∧ (1 = 1) ∧ (flatRows a0) ∧ catP 1 (.list 1 []) a0 fun r1 =>
   rt [.own true 9 1] [r1] k)
 | _, _ => False
abbrev slices_Clone_string_e : Ent := ⟨[172], slices_Clone_string⟩
theorem slices_Clone_string_w : EntOK Tryz.prog TT slices_Clone_string_e := ent_ok tabok (L := []) trivial (keep := []) (l := []) Tryz.func172 (by kernel_rfl) (sg := [.one (.own true 9 1)]) (by kernel_rfl) trivial fun av k h => by
  unfold slices_Clone_string at h; split at h
  · exact Eq.mpr (by kernel_rfl) h
  · exact h.elim

def impl_copyEntry : GM
 | [.agg u0], k => un 4 (fun a0 a1 a2 a3 => 
  call slices_Clone_string [.one a3] fun o0 =>
  rt [.sc, .sc, .sc, .own true 9 1] [a0, a1, a2, (atP o0 0)] k) u0
 | _, _ => False
abbrev impl_copyEntry_e : Ent := ⟨[139], impl_copyEntry⟩
theorem impl_copyEntry_w : EntOK Tryz.prog TT impl_copyEntry_e := ent_okF tabok (L := [slices_Clone_string_e]) ⟨slices_Clone_string_w, trivial⟩ (keep := []) (l := []) Tryz.func139 (by kernel_rfl) (sg := [.agg [.sc, .sc, .sc, .own true 9 1]]) (by kernel_rfl) trivial fun av k h => by
  unfold impl_copyEntry at h; split at h
  · apply un_all h; clear h; intro a0 a1 a2 a3 h; exact Eq.mpr (by kernel_rfl) h
  · exact h.elim

def impl_PathFor_r0 (v : List PV) (K : List PV → Prop) (x0k : PV → PV → PV → PV → Prop) : Prop :=
 un 4 (fun v0 v1 v2 v3 =>
  lenP v0 fun r0 =>
  binP .gtr r0 (I 1) fun r1 =>
  iteP r1
   (binP .xor v1 (I 1) fun r2 =>
   lenP v0 fun r3 =>
   binP .lss r2 r3 fun r4 =>
   iteP r4
    (elemP 1 v0 r2 fun c5 =>
    (1 = 1) ∧ (1 ≤ 16777216) ∧ (1 = 1) ∧ (0 = 0) ∧ (1 = 1) ∧ (flatCond [.pv (I 0)] [.pv (atP c5 0)]) ∧ catP 1 v3 (.list 1 [[(atP c5 0)]]) fun r6 =>
    call impl_above [.one v0] fun o7 =>
    binP .quo v1 (I 2) fun r8 =>
    K [(atP o7 0), r8, v2, r6])
    (call impl_above [.one v0] fun o9 =>
    binP .quo v1 (I 2) fun r10 =>
    K [(atP o9 0), r10, v2, v3]))
   (x0k v0 v1 v2 v3)) v
def impl_PathFor : GM
 | [.one a0, .one a1], k => 
  (0 = 0) ∧ (0 ≤ 16777216) ∧ (1 = 1) ∧ lenP a0 fun r0 =>
  binP .sub r0 (I 1) fun r1 =>
  call impl_InRange [.one a1, .one (I 0), .one r1] fun o2 =>
  unP .not (atP o2 0) fun r3 =>
  iteP r3
   (rt [.own true 3 1] [(.list 1 [])] k)
   (lp (fun L w => impl_PathFor_r0 w L
    (fun q11 q12 q13 q14 => rt [.own true 3 1] [q14] k)) [a0, a1, (.list 1 []), (.list 1 [])])
 | _, _ => False
abbrev impl_PathFor_e : Ent := ⟨[185], impl_PathFor⟩
def impl_PathFor_l : List LE := [⟨0, ⟨[(0, .one (.pv (.bool false))), (1, .one (.pv (.bool false))), (4, .one (.own 2)), (5, .one (.own 0))], [], [(2, ⟨.deep, 3, 1, (.bool false)⟩), (0, ⟨.deep, 3, 1, (.bool false)⟩)], 3, 36⟩, fun K k v => impl_PathFor_r0 v K (fun x0 x1 x2 x3 => k (.exit 0) ⟨[(0, .one (.pv x0)), (1, .one (.pv x1)), (4, .one (.own 2)), (5, .one (.own 0))], [], [(2, ⟨.deep, 3, 1, x2⟩), (0, ⟨.deep, 3, 1, x3⟩)], 3, 36⟩)⟩]
theorem impl_PathFor_s : LEsOK (orac [impl_InRange_e, impl_above_e]) TT.nofl (kk [0, 1, 4, 5]) (sumsOf impl_PathFor_l) Tryz.f185 impl_PathFor_l := ⟨fun v K k h => by
  apply un_all h; exact fun v0 v1 v2 v3 h => Eq.mpr (by kernel_rfl) h
  , trivial⟩
theorem impl_PathFor_w : EntOK Tryz.prog TT impl_PathFor_e := ent_okF tabok (L := [impl_InRange_e, impl_above_e]) ⟨impl_InRange_w, impl_above_w, trivial⟩ (keep := (kk [0, 1, 4, 5])) (l := impl_PathFor_l) Tryz.func185 (by kernel_rfl) (sg := [.one (.own true 3 1)]) (by kernel_rfl) impl_PathFor_s fun av k h => by
  unfold impl_PathFor at h; split at h
  · exact Eq.mpr (by kernel_rfl) h
  · exact h.elim

def impl_ProveEntry : GM
 | [.one a0, .one a1], k => 
  call impl_FindEntry [.one a0, .one a1] fun o0 =>
  binP .lss (atP o0 0) (I 0) fun r1 =>
  iteP r1
   (rt [.sc, .own true 3 1, .sc] [(I 0), (.list 1 []), (.bool false)] k)
   (call impl_LeavesOf [.one a0] fun o2 =>
   call impl_PathFor [.one (atP o2 0), .one (atP o0 0)] fun o3 =>
   rt [.sc, .own true 3 1, .sc] [(atP o0 0), (atP o3 0), (.bool true)] k)
 | _, _ => False
abbrev impl_ProveEntry_e : Ent := ⟨[156], impl_ProveEntry⟩
theorem impl_ProveEntry_w : EntOK Tryz.prog TT impl_ProveEntry_e := ent_okF tabok (L := [impl_FindEntry_e, impl_LeavesOf_e, impl_PathFor_e]) ⟨impl_FindEntry_w, impl_LeavesOf_w, impl_PathFor_w, trivial⟩ (keep := []) (l := []) Tryz.func156 (by kernel_rfl) (sg := [.agg [.sc, .own true 3 1], .one (.sc)]) (by kernel_rfl) trivial fun av k h => by
  unfold impl_ProveEntry at h; split at h
  · exact Eq.mpr (by kernel_rfl) h
  · exact h.elim

def impl_RankOf_r0 (v : List PV) (K : List PV → Prop) (x0k : PV → PV → PV → PV → PV → PV → Prop) : Prop :=
 un 6 (fun v0 v1 v2 v3 v4 v5 =>
  binP .lss v5 v4 fun r0 =>
  iteP r0
   (elemP 4 v3 v5 fun c1 =>
   call impl_CompareLabels [.one (atP c1 0), .one v0] fun o2 =>
   binP .lss (atP o2 0) (I 0) fun r3 =>
   iteP r3
    (binP .add v2 (I 1) fun r4 =>
    binP .add v5 (I 1) fun r5 =>
    K [v0, v1, r4, v3, v4, r5])
    (binP .add v5 (I 1) fun r6 =>
    K [v0, v1, v2, v3, v4, r6]))
   (x0k v0 v1 v2 v3 v4 v5)) v
def impl_RankOf : GM
 | [.one a0, .one a1], k => 
  lenP a0 fun r0 =>
  lp (fun L w => impl_RankOf_r0 w L
   (fun q7 q8 q9 q10 q11 q12 => rt [.sc] [q9] k)) [a1, (I 0), (I 0), a0, r0, (I 0)]
 | _, _ => False
abbrev impl_RankOf_e : Ent := ⟨[188], impl_RankOf⟩
def impl_RankOf_l : List LE := [⟨0, ⟨[(1, .one (.pv (.bool false))), (4, .one (.pv (.bool false))), (5, .one (.pv (.bool false))), (8, .one (.pv (.bool false))), (9, .one (.pv (.bool false))), (10, .one (.pv (.bool false)))], [], [], 0, 23⟩, fun K k v => impl_RankOf_r0 v K (fun x0 x1 x2 x3 x4 x5 => k (.exit 0) ⟨[(1, .one (.pv x0)), (4, .one (.pv x1)), (5, .one (.pv x2)), (8, .one (.pv x3)), (9, .one (.pv x4)), (10, .one (.pv x5))], [], [], 0, 23⟩)⟩]
theorem impl_RankOf_s : LEsOK (orac [impl_CompareLabels_e]) TT.nofl (kk [1, 4, 5, 8, 9, 10]) (sumsOf impl_RankOf_l) Tryz.f188 impl_RankOf_l := ⟨fun v K k h => by
  apply un_all h; exact fun v0 v1 v2 v3 v4 v5 h => Eq.mpr (by kernel_rfl) h
  , trivial⟩
theorem impl_RankOf_w : EntOK Tryz.prog TT impl_RankOf_e := ent_okF tabok (L := [impl_CompareLabels_e]) ⟨impl_CompareLabels_w, trivial⟩ (keep := (kk [1, 4, 5, 8, 9, 10])) (l := impl_RankOf_l) Tryz.func188 (by kernel_rfl) (sg := [.one (.sc)]) (by kernel_rfl) impl_RankOf_s fun av k h => by
  unfold impl_RankOf at h; split at h
  · exact Eq.mpr (by kernel_rfl) h
  · exact h.elim

def impl_ProveAbsence : GM
 | [.one a0, .one a1], k => 
  call impl_AreEntries [.one a0] fun o0 =>
  unP .not (atP o0 0) fun r1 =>
  iteP r1
   (rt [.sc, .sc, .sc, .sc, .own true 9 1, .sc, .sc, .sc, .own true 9 1, .sc, .own true 3 1, .sc, .own true 3 1, .sc] [(I 0), (.str ⟨#[]⟩), (I 0), (I 0), (.list 1 []), (.str ⟨#[]⟩), (I 0), (I 0), (.list 1 []), (I 0), (.list 1 []), (I 0), (.list 1 []), (.bool false)] k)
   (call impl_IsLabel [.one a1] fun o2 =>
   unP .not (atP o2 0) fun r3 =>
   iteP r3
    (rt [.sc, .sc, .sc, .sc, .own true 9 1, .sc, .sc, .sc, .own true 9 1, .sc, .own true 3 1, .sc, .own true 3 1, .sc] [(I 0), (.str ⟨#[]⟩), (I 0), (I 0), (.list 1 []), (.str ⟨#[]⟩), (I 0), (I 0), (.list 1 []), (I 0), (.list 1 []), (I 0), (.list 1 []), (.bool false)] k)
    (call impl_FindEntry [.one a0, .one a1] fun o4 =>
    binP .geq (atP o4 0) (I 0) fun r5 =>
    iteP r5
     (rt [.sc, .sc, .sc, .sc, .own true 9 1, .sc, .sc, .sc, .own true 9 1, .sc, .own true 3 1, .sc, .own true 3 1, .sc] [(I 0), (.str ⟨#[]⟩), (I 0), (I 0), (.list 1 []), (.str ⟨#[]⟩), (I 0), (I 0), (.list 1 []), (I 0), (.list 1 []), (I 0), (.list 1 []), (.bool false)] k)
     (call impl_RankOf [.one a0, .one a1] fun o6 =>
     binP .gtr (atP o6 0) (I 0) fun r7 =>
     iteP r7
      (binP .sub (atP o6 0) (I 1) fun r8 =>
      elemP 4 a0 r8 fun c9 =>
      call impl_copyEntry [.agg [(atP c9 0), (atP c9 1), (atP c9 2), (atP c9 3)]] fun o10 =>
      call impl_ProveEntry [.one a0, .one (atP o10 0)] fun o11 =>
      lenP a0 fun r12 =>
      binP .lss (atP o6 0) r12 fun r13 =>
      iteP r13
       (elemP 4 a0 (atP o6 0) fun c14 =>
       call impl_copyEntry [.agg [(atP c14 0), (atP c14 1), (atP c14 2), (atP c14 3)]] fun o15 =>
       call impl_ProveEntry [.one a0, .one (atP o15 0)] fun o16 =>
       rt [.sc, .sc, .sc, .sc, .own true 9 1, .sc, .sc, .sc, .own true 9 1, .sc, .own true 3 1, .sc, .own true 3 1, .sc] [(atP o6 0), (atP o10 0), (atP o10 1), (atP o10 2), (atP o10 3), (atP o15 0), (atP o15 1), (atP o15 2), (atP o15 3), (atP o11 0), (atP o11 1), (atP o16 0), (atP o16 1), (.bool true)] k)
       (rt [.sc, .sc, .sc, .sc, .own true 9 1, .sc, .sc, .sc, .own true 9 1, .sc, .own true 3 1, .sc, .own true 3 1, .sc] [(atP o6 0), (atP o10 0), (atP o10 1), (atP o10 2), (atP o10 3), (.str ⟨#[]⟩), (I 0), (I 0), (.list 1 []), (atP o11 0), (atP o11 1), (I 0), (.list 1 []), (.bool true)] k))
      (lenP a0 fun r17 =>
      binP .lss (atP o6 0) r17 fun r18 =>
      iteP r18
       (elemP 4 a0 (atP o6 0) fun c19 =>
       call impl_copyEntry [.agg [(atP c19 0), (atP c19 1), (atP c19 2), (atP c19 3)]] fun o20 =>
       call impl_ProveEntry [.one a0, .one (atP o20 0)] fun o21 =>
       rt [.sc, .sc, .sc, .sc, .own true 9 1, .sc, .sc, .sc, .own true 9 1, .sc, .own true 3 1, .sc, .own true 3 1, .sc] [(atP o6 0), (.str ⟨#[]⟩), (I 0), (I 0), (.list 1 []), (atP o20 0), (atP o20 1), (atP o20 2), (atP o20 3), (I 0), (.list 1 []), (atP o21 0), (atP o21 1), (.bool true)] k)
       (rt [.sc, .sc, .sc, .sc, .own true 9 1, .sc, .sc, .sc, .own true 9 1, .sc, .own true 3 1, .sc, .own true 3 1, .sc] [(atP o6 0), (.str ⟨#[]⟩), (I 0), (I 0), (.list 1 []), (.str ⟨#[]⟩), (I 0), (I 0), (.list 1 []), (I 0), (.list 1 []), (I 0), (.list 1 []), (.bool true)] k)))))
 | _, _ => False
abbrev impl_ProveAbsence_e : Ent := ⟨[157], impl_ProveAbsence⟩
theorem impl_ProveAbsence_w : EntOK Tryz.prog TT impl_ProveAbsence_e := ent_okF tabok (L := [impl_AreEntries_e, impl_IsLabel_e, impl_FindEntry_e, impl_RankOf_e, impl_copyEntry_e, impl_ProveEntry_e]) ⟨impl_AreEntries_w, impl_IsLabel_w, impl_FindEntry_w, impl_RankOf_w, impl_copyEntry_w, impl_ProveEntry_w, trivial⟩ (keep := []) (l := []) Tryz.func157 (by kernel_rfl) (sg := [.agg [.sc, .sc, .sc, .sc, .own true 9 1, .sc, .sc, .sc, .own true 9 1, .sc, .own true 3 1, .sc, .own true 3 1], .one (.sc)]) (by kernel_rfl) trivial fun av k h => by
  unfold impl_ProveAbsence at h; split at h
  · exact Eq.mpr (by kernel_rfl) h
  · exact h.elim

def impl_AnswerFor : GM
 | [.agg u0, .one a2], k => un 2 (fun a0 a1 => 
  call impl_IsZone [.agg [a0, a1]] fun o0 =>
  unP .not (atP o0 0) fun r1 =>
  iteP r1
   (rt [.own true 148 17, .sc, .sc, .sc, .sc, .own true 9 1, .sc, .own true 3 1, .sc, .sc, .sc, .sc, .own true 9 1, .sc, .sc, .sc, .own true 9 1, .sc, .own true 3 1, .sc, .own true 3 1] [(.list 17 []), (.bool false), (.str ⟨#[]⟩), (I 0), (I 0), (.list 1 []), (I 0), (.list 1 []), (I 0), (.str ⟨#[]⟩), (I 0), (I 0), (.list 1 []), (.str ⟨#[]⟩), (I 0), (I 0), (.list 1 []), (I 0), (.list 1 []), (I 0), (.list 1 [])] k)
   (call impl_IsLabel [.one a2] fun o2 =>
   unP .not (atP o2 0) fun r3 =>
   iteP r3
    (rt [.own true 148 17, .sc, .sc, .sc, .sc, .own true 9 1, .sc, .own true 3 1, .sc, .sc, .sc, .sc, .own true 9 1, .sc, .sc, .sc, .own true 9 1, .sc, .own true 3 1, .sc, .own true 3 1] [(.list 17 []), (.bool false), (.str ⟨#[]⟩), (I 0), (I 0), (.list 1 []), (I 0), (.list 1 []), (I 0), (.str ⟨#[]⟩), (I 0), (I 0), (.list 1 []), (.str ⟨#[]⟩), (I 0), (I 0), (.list 1 []), (I 0), (.list 1 []), (I 0), (.list 1 [])] k)
    (call impl_copyChain [.one a0] fun o4 =>
    call impl_FindEntry [.one a1, .one a2] fun o5 =>
    binP .geq (atP o5 0) (I 0) fun r6 =>
    iteP r6
     (elemP 4 a1 (atP o5 0) fun c7 =>
     call impl_copyEntry [.agg [(atP c7 0), (atP c7 1), (atP c7 2), (atP c7 3)]] fun o8 =>
     call impl_ProveEntry [.one a1, .one a2] fun o9 =>
     rt [.own true 148 17, .sc, .sc, .sc, .sc, .own true 9 1, .sc, .own true 3 1, .sc, .sc, .sc, .sc, .own true 9 1, .sc, .sc, .sc, .own true 9 1, .sc, .own true 3 1, .sc, .own true 3 1] [(atP o4 0), (.bool true), (atP o8 0), (atP o8 1), (atP o8 2), (atP o8 3), (atP o9 0), (atP o9 1), (I 0), (.str ⟨#[]⟩), (I 0), (I 0), (.list 1 []), (.str ⟨#[]⟩), (I 0), (I 0), (.list 1 []), (I 0), (.list 1 []), (I 0), (.list 1 [])] k)
     (call impl_ProveAbsence [.one a1, .one a2] fun o10 =>
     rt [.own true 148 17, .sc, .sc, .sc, .sc, .own true 9 1, .sc, .own true 3 1, .sc, .sc, .sc, .sc, .own true 9 1, .sc, .sc, .sc, .own true 9 1, .sc, .own true 3 1, .sc, .own true 3 1] [(atP o4 0), (.bool false), (.str ⟨#[]⟩), (I 0), (I 0), (.list 1 []), (I 0), (.list 1 []), (atP o10 0), (atP o10 1), (atP o10 2), (atP o10 3), (atP o10 4), (atP o10 5), (atP o10 6), (atP o10 7), (atP o10 8), (atP o10 9), (atP o10 10), (atP o10 11), (atP o10 12)] k)))) u0
 | _, _ => False
abbrev impl_AnswerFor_e : Ent := ⟨[117], impl_AnswerFor⟩
theorem impl_AnswerFor_w : EntOK Tryz.prog TT impl_AnswerFor_e := ent_okF tabok (L := [impl_IsZone_e, impl_IsLabel_e, impl_copyChain_e, impl_FindEntry_e, impl_copyEntry_e, impl_ProveEntry_e, impl_ProveAbsence_e]) ⟨impl_IsZone_w, impl_IsLabel_w, impl_copyChain_w, impl_FindEntry_w, impl_copyEntry_w, impl_ProveEntry_w, impl_ProveAbsence_w, trivial⟩ (keep := []) (l := []) Tryz.func117 (by kernel_rfl) (sg := [.agg [.own true 148 17, .sc, .sc, .sc, .sc, .own true 9 1, .sc, .own true 3 1, .sc, .sc, .sc, .sc, .own true 9 1, .sc, .sc, .sc, .own true 9 1, .sc, .own true 3 1, .sc, .own true 3 1]]) (by kernel_rfl) trivial fun av k h => by
  unfold impl_AnswerFor at h; split at h
  · apply un_all h; clear h; intro a0 a1 h; exact Eq.mpr (by kernel_rfl) h
  · exact h.elim

def impl_Ask : GM
 | [.agg u0, .one a2, .one a3], k => un 2 (fun a0 a1 => 
  call impl_ServedZone [.agg [a0, a1], .one a2] fun o0 =>
  binP .lss (atP o0 0) (I 0) fun r1 =>
  iteP r1
   (rt [.own true 148 17, .sc, .sc, .sc, .sc, .own true 9 1, .sc, .own true 3 1, .sc, .sc, .sc, .sc, .own true 9 1, .sc, .sc, .sc, .own true 9 1, .sc, .own true 3 1, .sc, .own true 3 1] [(.list 17 []), (.bool false), (.str ⟨#[]⟩), (I 0), (I 0), (.list 1 []), (I 0), (.list 1 []), (I 0), (.str ⟨#[]⟩), (I 0), (I 0), (.list 1 []), (.str ⟨#[]⟩), (I 0), (I 0), (.list 1 []), (I 0), (.list 1 []), (I 0), (.list 1 [])] k)
   (binP .eql a1 (I 4) fun r2 =>
   iteP r2
    (rt [.own true 148 17, .sc, .sc, .sc, .sc, .own true 9 1, .sc, .own true 3 1, .sc, .sc, .sc, .sc, .own true 9 1, .sc, .sc, .sc, .own true 9 1, .sc, .own true 3 1, .sc, .own true 3 1] [(.list 17 []), (.bool false), (.str ⟨#[]⟩), (I 0), (I 0), (.list 1 []), (I 0), (.list 1 []), (I 0), (.str ⟨#[]⟩), (I 0), (I 0), (.list 1 []), (.str ⟨#[]⟩), (I 0), (I 0), (.list 1 []), (I 0), (.list 1 []), (I 0), (.list 1 [])] k)
    (elemP 2 a0 (atP o0 0) fun c3 =>
    call impl_AnswerFor [.agg [(atP c3 0), (atP c3 1)], .one a3] fun o4 =>
    binP .eql a1 (I 1) fun r5 =>
    iteP r5
     (binP .add (atP o4 4) (I 1) fun r6 =>
     rt [.own true 148 17, .sc, .sc, .sc, .sc, .own true 9 1, .sc, .own true 3 1, .sc, .sc, .sc, .sc, .own true 9 1, .sc, .sc, .sc, .own true 9 1, .sc, .own true 3 1, .sc, .own true 3 1] [(atP o4 0), (atP o4 1), (atP o4 2), (atP o4 3), r6, (atP o4 5), (atP o4 6), (atP o4 7), (atP o4 8), (atP o4 9), (atP o4 10), (atP o4 11), (atP o4 12), (atP o4 13), (atP o4 14), (atP o4 15), (atP o4 16), (atP o4 17), (atP o4 18), (atP o4 19), (atP o4 20)] k)
     (binP .eql a1 (I 2) fun r7 =>
     iteP r7
      (lenP (atP o4 0) fun r8 =>
      binP .sub r8 (I 1) fun r9 =>
      maxP (I 0) r9 fun r10 =>
      natP r10 fun n11 =>
      cutP 17 (atP o4 0) none (some n11) fun r12 =>
      rt [.own true 148 17, .sc, .sc, .sc, .sc, .own true 9 1, .sc, .own true 3 1, .sc, .sc, .sc, .sc, .own true 9 1, .sc, .sc, .sc, .own true 9 1, .sc, .own true 3 1, .sc, .own true 3 1] [r12, (atP o4 1), (atP o4 2), (atP o4 3), (atP o4 4), (atP o4 5), (atP o4 6), (atP o4 7), (atP o4 8), (atP o4 9), (atP o4 10), (atP o4 11), (atP o4 12), (atP o4 13), (atP o4 14), (atP o4 15), (atP o4 16), (atP o4 17), (atP o4 18), (atP o4 19), (atP o4 20)] k)
      (binP .eql a1 (I 3) fun r13 =>
      iteP r13
       (rt [.own true 148 17, .sc, .sc, .sc, .sc, .own true 9 1, .sc, .own true 3 1, .sc, .sc, .sc, .sc, .own true 9 1, .sc, .sc, .sc, .own true 9 1, .sc, .own true 3 1, .sc, .own true 3 1] [(atP o4 0), (.bool false), (.str ⟨#[]⟩), (I 0), (I 0), (.list 1 []), (I 0), (.list 1 []), (I 0), (.str ⟨#[]⟩), (I 0), (I 0), (.list 1 []), (.str ⟨#[]⟩), (I 0), (I 0), (.list 1 []), (I 0), (.list 1 []), (I 0), (.list 1 [])] k)
       (rt [.own true 148 17, .sc, .sc, .sc, .sc, .own true 9 1, .sc, .own true 3 1, .sc, .sc, .sc, .sc, .own true 9 1, .sc, .sc, .sc, .own true 9 1, .sc, .own true 3 1, .sc, .own true 3 1] [(atP o4 0), (atP o4 1), (atP o4 2), (atP o4 3), (atP o4 4), (atP o4 5), (atP o4 6), (atP o4 7), (atP o4 8), (atP o4 9), (atP o4 10), (atP o4 11), (atP o4 12), (atP o4 13), (atP o4 14), (atP o4 15), (atP o4 16), (atP o4 17), (atP o4 18), (atP o4 19), (atP o4 20)] k)))))) u0
 | _, _ => False
abbrev impl_Ask_e : Ent := ⟨[71], impl_Ask⟩
theorem impl_Ask_w : EntOK Tryz.prog TT impl_Ask_e := ent_okM tabok (L := [impl_ServedZone_e, impl_AnswerFor_e]) ⟨impl_ServedZone_w, impl_AnswerFor_w, trivial⟩ (keep := []) (l := []) Tryz.func71 (by kernel_rfl) (sg := [.agg [.own true 148 17, .sc, .sc, .sc, .sc, .own true 9 1, .sc, .own true 3 1, .sc, .sc, .sc, .sc, .own true 9 1, .sc, .sc, .sc, .own true 9 1, .sc, .own true 3 1, .sc, .own true 3 1]]) (by kernel_rfl) trivial fun av k h => by
  unfold impl_Ask at h; split at h
  · apply un_all h; clear h; intro a0 a1 h; exact Eq.mpr (by kernel_rfl) h
  · exact h.elim

def impl_AskBucket_r0 (v : List PV) (K : List PV → Prop) (x0k : PV → PV → PV → PV → PV → PV → PV → PV → PV → Prop) : Prop :=
 un 9 (fun v0 v1 v2 v3 v4 v5 v6 v7 v8 =>
  binP .lss v2 v1 fun r0 =>
  iteP r0
   (elemP 4 v0 v2 fun c1 =>
   call impl_BucketOf [.one (atP c1 0)] fun o2 =>
   binP .eql (atP o2 0) v4 fun r3 =>
   iteP r3
    (call impl_Ask [.agg [v5, v6], .one v3, .one (atP c1 0)] fun o4 =>
    (1 = 1) ∧ (21 ≤ 16777216) ∧ (21 = 21) ∧ (0 = 0) ∧ (21 = 21) ∧ (flatCond [.nil 148 17, .pv (.bool false), .pv (.str ⟨#[]⟩), .pv (I 0), .pv (I 0), .nil 9 1, .pv (I 0), .nil 3 1, .pv (I 0), .pv (.str ⟨#[]⟩), .pv (I 0), .pv (I 0), .nil 9 1, .pv (.str ⟨#[]⟩), .pv (I 0), .pv (I 0), .nil 9 1, .pv (I 0), .nil 3 1, .pv (I 0), .nil 3 1] [.own 7, .pv (atP o4 1), .pv (atP o4 2), .pv (atP o4 3), .pv (atP o4 4), .own 12, .pv (atP o4 6), .own 14, .pv (atP o4 8), .pv (atP o4 9), .pv (atP o4 10), .pv (atP o4 11), .own 19, .pv (atP o4 13), .pv (atP o4 14), .pv (atP o4 15), .own 23, .pv (atP o4 17), .own 25, .pv (atP o4 19), .own 27]) ∧ catP 21 v8 (.list 21 [[(atP o4 0), (atP o4 1), (atP o4 2), (atP o4 3), (atP o4 4), (atP o4 5), (atP o4 6), (atP o4 7), (atP o4 8), (atP o4 9), (atP o4 10), (atP o4 11), (atP o4 12), (atP o4 13), (atP o4 14), (atP o4 15), (atP o4 16), (atP o4 17), (atP o4 18), (atP o4 19), (atP o4 20)]]) fun r5 =>
    binP .add v2 (I 1) fun r6 =>
    K [v0, v1, r6, v3, v4, v5, v6, v7, r5])
    (binP .add v2 (I 1) fun r7 =>
    K [v0, v1, r7, v3, v4, v5, v6, v7, v8]))
   (x0k v0 v1 v2 v3 v4 v5 v6 v7 v8)) v
def impl_AskBucket : GM
 | [.agg u0, .agg u1], k => un 2 (fun a0 a1 => un 2 (fun a2 a3 => 
  (0 = 0) ∧ (0 ≤ 16777216) ∧ (21 = 21) ∧ call impl_ServedZone [.agg [a0, a1], .one a2] fun o0 =>
  binP .lss (atP o0 0) (I 0) fun r1 =>
  iteP r1
   (rt [.own true 123 21] [(.list 21 [])] k)
   (elemP 2 a0 (atP o0 0) fun c2 =>
   lenP (atP c2 1) fun r3 =>
   lp (fun L w => impl_AskBucket_r0 w L
    (fun q8 q9 q10 q11 q12 q13 q14 q15 q16 => rt [.own true 123 21] [q16] k)) [(atP c2 1), r3, (I 0), a2, a3, a0, a1, (.list 21 []), (.list 21 [])])) u1) u0
 | _, _ => False
abbrev impl_AskBucket_e : Ent := ⟨[24], impl_AskBucket⟩
def impl_AskBucket_l : List LE := [⟨0, ⟨[(2, .one (.ptr 0 0)), (3, .one (.ptr 1 0)), (4, .one (.own 4)), (5, .one (.own 2)), (22, .one (.pv (.bool false))), (23, .one (.pv (.bool false))), (24, .one (.pv (.bool false)))], [(1, [.pv (.bool false), .pv (.bool false)]), (0, [.pv (.bool false), .pv (.bool false)])], [(4, ⟨.deep, 123, 21, (.bool false)⟩), (2, ⟨.deep, 123, 21, (.bool false)⟩)], 5, 45⟩, fun K k v => impl_AskBucket_r0 v K (fun x0 x1 x2 x3 x4 x5 x6 x7 x8 => k (.exit 0) ⟨[(2, .one (.ptr 0 0)), (3, .one (.ptr 1 0)), (4, .one (.own 4)), (5, .one (.own 2)), (22, .one (.pv x0)), (23, .one (.pv x1)), (24, .one (.pv x2))], [(1, [.pv x3, .pv x4]), (0, [.pv x5, .pv x6])], [(4, ⟨.deep, 123, 21, x7⟩), (2, ⟨.deep, 123, 21, x8⟩)], 5, 45⟩)⟩]
theorem impl_AskBucket_s : LEsOK (orac [impl_ServedZone_e, impl_BucketOf_e, impl_Ask_e]) TT.nofl (kk [2, 3, 4, 5, 22, 23, 24]) (sumsOf impl_AskBucket_l) Tryz.f24 impl_AskBucket_l := ⟨fun v K k h => by
  apply un_all h; exact fun v0 v1 v2 v3 v4 v5 v6 v7 v8 h => Eq.mpr (by kernel_rfl) h
  , trivial⟩
theorem impl_AskBucket_w : EntOK Tryz.prog TT impl_AskBucket_e := ent_okF tabok (L := [impl_ServedZone_e, impl_BucketOf_e, impl_Ask_e]) ⟨impl_ServedZone_w, impl_BucketOf_w, impl_Ask_w, trivial⟩ (keep := (kk [2, 3, 4, 5, 22, 23, 24])) (l := impl_AskBucket_l) Tryz.func24 (by kernel_rfl) (sg := [.one (.own true 123 21)]) (by kernel_rfl) impl_AskBucket_s fun av k h => by
  unfold impl_AskBucket at h; split at h
  · apply un_all h; clear h; intro a0 a1 h; apply un_all h; clear h; intro a2 a3 h; exact Eq.mpr (by kernel_rfl) h
  · exact h.elim

def laws_eqIntS_r0 (v : List PV) (K : List PV → Prop) (x0k : Prop) (x1k : PV → PV → PV → PV → Prop) : Prop :=
 un 4 (fun v0 v1 v2 v3 =>
  lenP v0 fun r0 =>
  binP .lss v3 r0 fun r1 =>
  iteP r1
   (elemP 1 v0 v3 fun c2 =>
   elemP 1 v1 v3 fun c3 =>
   binP .neq (atP c2 0) (atP c3 0) fun r4 =>
   iteP r4
    (x0k)
    (binP .add v3 (I 1) fun r5 =>
    K [v0, v1, v2, r5]))
   (x1k v0 v1 v2 v3)) v
def laws_eqIntS : GM
 | [.one a0, .one a1], k => 
  lenP a0 fun r0 =>
  lenP a1 fun r1 =>
  binP .neq r0 r1 fun r2 =>
  iteP r2
   (rt [.sc] [(.bool false)] k)
   (lp (fun L w => laws_eqIntS_r0 w L
    (rt [.sc] [(.bool false)] k)
    (fun q6 q7 q8 q9 => rt [.sc] [(.bool true)] k)) [a0, a1, (.bool false), (I 0)])
 | _, _ => False
abbrev laws_eqIntS_e : Ent := ⟨[10], laws_eqIntS⟩
def laws_eqIntS_l : List LE := [⟨0, ⟨[(0, .one (.pv (.bool false))), (1, .one (.pv (.bool false))), (4, .one (.pv (.bool false))), (5, .one (.pv (.bool false)))], [], [], 0, 26⟩, fun K k v => laws_eqIntS_r0 v K (k .ret ⟨[(4, .one (.kb false))], [], [], 0, 26⟩) (fun x0 x1 x2 x3 => k (.exit 0) ⟨[(0, .one (.pv x0)), (1, .one (.pv x1)), (4, .one (.pv x2)), (5, .one (.pv x3))], [], [], 0, 26⟩)⟩]
theorem laws_eqIntS_s : LEsOK (orac []) TT (kk [0, 1, 4, 5]) (sumsOf laws_eqIntS_l) Tryz.f10 laws_eqIntS_l := ⟨fun v K k h => by
  apply un_all h; exact fun v0 v1 v2 v3 h => Eq.mpr (by kernel_rfl) h
  , trivial⟩
theorem laws_eqIntS_w : EntOK Tryz.prog TT laws_eqIntS_e := ent_ok tabok (L := []) trivial (keep := (kk [0, 1, 4, 5])) (l := laws_eqIntS_l) Tryz.func10 (by kernel_rfl) (sg := [.one (.sc)]) (by kernel_rfl) laws_eqIntS_s fun av k h => by
  unfold laws_eqIntS at h; split at h
  · exact Eq.mpr (by kernel_rfl) h
  · exact h.elim

def laws_eqKeys : GM
 | [.agg u0, .agg u1], k => un 2 (fun a0 a1 => un 2 (fun a2 a3 => 
  call laws_eqIntS [.one a0, .one a2] fun o0 =>
  unP .not (atP o0 0) fun r1 =>
  iteP r1
   (rt [.sc] [(.bool false)] k)
   (binP .neq a1 a3 fun r2 =>
   iteP r2
    (rt [.sc] [(.bool false)] k)
    (rt [.sc] [(.bool true)] k))) u1) u0
 | _, _ => False
abbrev laws_eqKeys_e : Ent := ⟨[173], laws_eqKeys⟩
theorem laws_eqKeys_w : EntOK Tryz.prog TT laws_eqKeys_e := ent_ok tabok (L := [laws_eqIntS_e]) ⟨laws_eqIntS_w, trivial⟩ (keep := []) (l := []) Tryz.func173 (by kernel_rfl) (sg := [.one (.sc)]) (by kernel_rfl) trivial fun av k h => by
  unfold laws_eqKeys at h; split at h
  · apply un_all h; clear h; intro a0 a1 h; apply un_all h; clear h; intro a2 a3 h; exact Eq.mpr (by kernel_rfl) h
  · exact h.elim

def laws_eqHead : GM
 | [.agg u0, .agg u1], k => un 16 (fun a0 a1 a2 a3 a4 a5 a6 a7 a8 a9 a10 a11 a12 a13 a14 a15 => un 16 (fun a16 a17 a18 a19 a20 a21 a22 a23 a24 a25 a26 a27 a28 a29 a30 a31 => 
  binP .neq a0 a16 fun r0 =>
  iteP r0
   (rt [.sc] [(.bool false)] k)
   (binP .neq a1 a17 fun r1 =>
   iteP r1
    (rt [.sc] [(.bool false)] k)
    (binP .neq a2 a18 fun r2 =>
    iteP r2
     (rt [.sc] [(.bool false)] k)
     (binP .neq a3 a19 fun r3 =>
     iteP r3
      (rt [.sc] [(.bool false)] k)
      (binP .neq a4 a20 fun r4 =>
      iteP r4
       (rt [.sc] [(.bool false)] k)
       (binP .neq a5 a21 fun r5 =>
       iteP r5
        (rt [.sc] [(.bool false)] k)
        (binP .neq a6 a22 fun r6 =>
        iteP r6
         (rt [.sc] [(.bool false)] k)
         (binP .neq a7 a23 fun r7 =>
         iteP r7
          (rt [.sc] [(.bool false)] k)
          (call laws_eqKeys [.agg [a8, a9], .agg [a24, a25]] fun o8 =>
          unP .not (atP o8 0) fun r9 =>
          iteP r9
           (rt [.sc] [(.bool false)] k)
           (call laws_eqKeys [.agg [a10, a11], .agg [a26, a27]] fun o10 =>
           unP .not (atP o10 0) fun r11 =>
           iteP r11
            (rt [.sc] [(.bool false)] k)
            (binP .neq a12 a28 fun r12 =>
            iteP r12
             (rt [.sc] [(.bool false)] k)
             (call laws_eqKeys [.agg [a13, a14], .agg [a29, a30]] fun o13 =>
             unP .not (atP o13 0) fun r14 =>
             iteP r14
              (rt [.sc] [(.bool false)] k)
              (boolP .neq a15 a31 fun r15 =>
              iteP r15
               (rt [.sc] [(.bool false)] k)
               (rt [.sc] [(.bool true)] k)))))))))))))) u1) u0
 | _, _ => False
abbrev laws_eqHead_e : Ent := ⟨[140], laws_eqHead⟩
theorem laws_eqHead_w : EntOK Tryz.prog TT laws_eqHead_e := ent_ok tabok (L := [laws_eqKeys_e]) ⟨laws_eqKeys_w, trivial⟩ (keep := []) (l := []) Tryz.func140 (by kernel_rfl) (sg := [.one (.sc)]) (by kernel_rfl) trivial fun av k h => by
  unfold laws_eqHead at h; split at h
  · apply un_all h; clear h; intro a0 a1 a2 a3 a4 a5 a6 a7 a8 a9 a10 a11 a12 a13 a14 a15 h; apply un_all h; clear h; intro a16 a17 a18 a19 a20 a21 a22 a23 a24 a25 a26 a27 a28 a29 a30 a31 h; exact Eq.mpr (by kernel_rfl) h
  · exact h.elim

def laws_eqSig : GM
 | [.agg u0, .agg u1], k => un 2 (fun a0 a1 => un 2 (fun a2 a3 => 
  binP .neq a0 a2 fun r0 =>
  iteP r0
   (rt [.sc] [(.bool false)] k)
   (binP .neq a1 a3 fun r1 =>
   iteP r1
    (rt [.sc] [(.bool false)] k)
    (rt [.sc] [(.bool true)] k))) u1) u0
 | _, _ => False
abbrev laws_eqSig_e : Ent := ⟨[174], laws_eqSig⟩
theorem laws_eqSig_w : EntOK Tryz.prog TT laws_eqSig_e := ent_ok tabok (L := []) trivial (keep := []) (l := []) Tryz.func174 (by kernel_rfl) (sg := [.one (.sc)]) (by kernel_rfl) trivial fun av k h => by
  unfold laws_eqSig at h; split at h
  · apply un_all h; clear h; intro a0 a1 h; apply un_all h; clear h; intro a2 a3 h; exact Eq.mpr (by kernel_rfl) h
  · exact h.elim

def laws_eqSigS_r0 (v : List PV) (K : List PV → Prop) (x0k : Prop) (x1k : PV → PV → PV → PV → Prop) : Prop :=
 un 4 (fun v0 v1 v2 v3 =>
  lenP v0 fun r0 =>
  binP .lss v3 r0 fun r1 =>
  iteP r1
   (elemP 2 v0 v3 fun c2 =>
   elemP 2 v1 v3 fun c3 =>
   call laws_eqSig [.agg [(atP c2 0), (atP c2 1)], .agg [(atP c3 0), (atP c3 1)]] fun o4 =>
   unP .not (atP o4 0) fun r5 =>
   iteP r5
    (x0k)
    (binP .add v3 (I 1) fun r6 =>
    K [v0, v1, v2, r6]))
   (x1k v0 v1 v2 v3)) v
def laws_eqSigS : GM
 | [.one a0, .one a1], k => 
  lenP a0 fun r0 =>
  lenP a1 fun r1 =>
  binP .neq r0 r1 fun r2 =>
  iteP r2
   (rt [.sc] [(.bool false)] k)
   (lp (fun L w => laws_eqSigS_r0 w L
    (rt [.sc] [(.bool false)] k)
    (fun q7 q8 q9 q10 => rt [.sc] [(.bool true)] k)) [a0, a1, (.bool false), (I 0)])
 | _, _ => False
abbrev laws_eqSigS_e : Ent := ⟨[141], laws_eqSigS⟩
def laws_eqSigS_l : List LE := [⟨0, ⟨[(0, .one (.pv (.bool false))), (1, .one (.pv (.bool false))), (4, .one (.pv (.bool false))), (5, .one (.pv (.bool false)))], [], [], 0, 27⟩, fun K k v => laws_eqSigS_r0 v K (k .ret ⟨[(4, .one (.kb false))], [], [], 1, 27⟩) (fun x0 x1 x2 x3 => k (.exit 0) ⟨[(0, .one (.pv x0)), (1, .one (.pv x1)), (4, .one (.pv x2)), (5, .one (.pv x3))], [], [], 0, 27⟩)⟩]
theorem laws_eqSigS_s : LEsOK (orac [laws_eqSig_e]) TT (kk [0, 1, 4, 5]) (sumsOf laws_eqSigS_l) Tryz.f141 laws_eqSigS_l := ⟨fun v K k h => by
  apply un_all h; exact fun v0 v1 v2 v3 h => Eq.mpr (by kernel_rfl) h
  , trivial⟩
theorem laws_eqSigS_w : EntOK Tryz.prog TT laws_eqSigS_e := ent_ok tabok (L := [laws_eqSig_e]) ⟨laws_eqSig_w, trivial⟩ (keep := (kk [0, 1, 4, 5])) (l := laws_eqSigS_l) Tryz.func141 (by kernel_rfl) (sg := [.one (.sc)]) (by kernel_rfl) laws_eqSigS_s fun av k h => by
  unfold laws_eqSigS at h; split at h
  · exact Eq.mpr (by kernel_rfl) h
  · exact h.elim

def laws_eqSigned : GM
 | [.agg u0, .agg u1], k => un 17 (fun a0 a1 a2 a3 a4 a5 a6 a7 a8 a9 a10 a11 a12 a13 a14 a15 a16 => un 17 (fun a17 a18 a19 a20 a21 a22 a23 a24 a25 a26 a27 a28 a29 a30 a31 a32 a33 => 
  call laws_eqHead [.agg [a0, a1, a2, a3, a4, a5, a6, a7, a8, a9, a10, a11, a12, a13, a14, a15], .agg [a17, a18, a19, a20, a21, a22, a23, a24, a25, a26, a27, a28, a29, a30, a31, a32]] fun o0 =>
  unP .not (atP o0 0) fun r1 =>
  iteP r1
   (rt [.sc] [(.bool false)] k)
   (call laws_eqSigS [.one a16, .one a33] fun o2 =>
   unP .not (atP o2 0) fun r3 =>
   iteP r3
    (rt [.sc] [(.bool false)] k)
    (rt [.sc] [(.bool true)] k))) u1) u0
 | _, _ => False
abbrev laws_eqSigned_e : Ent := ⟨[104], laws_eqSigned⟩
theorem laws_eqSigned_w : EntOK Tryz.prog TT laws_eqSigned_e := ent_ok tabok (L := [laws_eqHead_e, laws_eqSigS_e]) ⟨laws_eqHead_w, laws_eqSigS_w, trivial⟩ (keep := []) (l := []) Tryz.func104 (by kernel_rfl) (sg := [.one (.sc)]) (by kernel_rfl) trivial fun av k h => by
  unfold laws_eqSigned at h; split at h
  · apply un_all h; clear h; intro a0 a1 a2 a3 a4 a5 a6 a7 a8 a9 a10 a11 a12 a13 a14 a15 a16 h; apply un_all h; clear h; intro a17 a18 a19 a20 a21 a22 a23 a24 a25 a26 a27 a28 a29 a30 a31 a32 a33 h; exact Eq.mpr (by kernel_rfl) h
  · exact h.elim

def laws_eqSignedS_r0 (v : List PV) (K : List PV → Prop) (x0k : Prop) (x1k : PV → PV → PV → PV → Prop) : Prop :=
 un 4 (fun v0 v1 v2 v3 =>
  lenP v0 fun r0 =>
  binP .lss v3 r0 fun r1 =>
  iteP r1
   (elemP 17 v0 v3 fun c2 =>
   elemP 17 v1 v3 fun c3 =>
   call laws_eqSigned [.agg [(atP c2 0), (atP c2 1), (atP c2 2), (atP c2 3), (atP c2 4), (atP c2 5), (atP c2 6), (atP c2 7), (atP c2 8), (atP c2 9), (atP c2 10), (atP c2 11), (atP c2 12), (atP c2 13), (atP c2 14), (atP c2 15), (atP c2 16)], .agg [(atP c3 0), (atP c3 1), (atP c3 2), (atP c3 3), (atP c3 4), (atP c3 5), (atP c3 6), (atP c3 7), (atP c3 8), (atP c3 9), (atP c3 10), (atP c3 11), (atP c3 12), (atP c3 13), (atP c3 14), (atP c3 15), (atP c3 16)]] fun o4 =>
   unP .not (atP o4 0) fun r5 =>
   iteP r5
    (x0k)
    (binP .add v3 (I 1) fun r6 =>
    K [v0, v1, v2, r6]))
   (x1k v0 v1 v2 v3)) v
def laws_eqSignedS : GM
 | [.one a0, .one a1], k => 
  lenP a0 fun r0 =>
  lenP a1 fun r1 =>
  binP .neq r0 r1 fun r2 =>
  iteP r2
   (rt [.sc] [(.bool false)] k)
   (lp (fun L w => laws_eqSignedS_r0 w L
    (rt [.sc] [(.bool false)] k)
    (fun q7 q8 q9 q10 => rt [.sc] [(.bool true)] k)) [a0, a1, (.bool false), (I 0)])
 | _, _ => False
abbrev laws_eqSignedS_e : Ent := ⟨[60], laws_eqSignedS⟩
def laws_eqSignedS_l : List LE := [⟨0, ⟨[(0, .one (.pv (.bool false))), (1, .one (.pv (.bool false))), (4, .one (.pv (.bool false))), (5, .one (.pv (.bool false)))], [], [], 0, 27⟩, fun K k v => laws_eqSignedS_r0 v K (k .ret ⟨[(4, .one (.kb false))], [], [], 1, 27⟩) (fun x0 x1 x2 x3 => k (.exit 0) ⟨[(0, .one (.pv x0)), (1, .one (.pv x1)), (4, .one (.pv x2)), (5, .one (.pv x3))], [], [], 0, 27⟩)⟩]
theorem laws_eqSignedS_s : LEsOK (orac [laws_eqSigned_e]) TT (kk [0, 1, 4, 5]) (sumsOf laws_eqSignedS_l) Tryz.f60 laws_eqSignedS_l := ⟨fun v K k h => by
  apply un_all h; exact fun v0 v1 v2 v3 h => Eq.mpr (by kernel_rfl) h
  , trivial⟩
theorem laws_eqSignedS_w : EntOK Tryz.prog TT laws_eqSignedS_e := ent_ok tabok (L := [laws_eqSigned_e]) ⟨laws_eqSigned_w, trivial⟩ (keep := (kk [0, 1, 4, 5])) (l := laws_eqSignedS_l) Tryz.func60 (by kernel_rfl) (sg := [.one (.sc)]) (by kernel_rfl) laws_eqSignedS_s fun av k h => by
  unfold laws_eqSignedS at h; split at h
  · exact Eq.mpr (by kernel_rfl) h
  · exact h.elim

def laws_eqStringS_r0 (v : List PV) (K : List PV → Prop) (x0k : Prop) (x1k : PV → PV → PV → PV → Prop) : Prop :=
 un 4 (fun v0 v1 v2 v3 =>
  lenP v0 fun r0 =>
  binP .lss v3 r0 fun r1 =>
  iteP r1
   (elemP 1 v0 v3 fun c2 =>
   elemP 1 v1 v3 fun c3 =>
   binP .neq (atP c2 0) (atP c3 0) fun r4 =>
   iteP r4
    (x0k)
    (binP .add v3 (I 1) fun r5 =>
    K [v0, v1, v2, r5]))
   (x1k v0 v1 v2 v3)) v
def laws_eqStringS : GM
 | [.one a0, .one a1], k => 
  lenP a0 fun r0 =>
  lenP a1 fun r1 =>
  binP .neq r0 r1 fun r2 =>
  iteP r2
   (rt [.sc] [(.bool false)] k)
   (lp (fun L w => laws_eqStringS_r0 w L
    (rt [.sc] [(.bool false)] k)
    (fun q6 q7 q8 q9 => rt [.sc] [(.bool true)] k)) [a0, a1, (.bool false), (I 0)])
 | _, _ => False
abbrev laws_eqStringS_e : Ent := ⟨[142], laws_eqStringS⟩
def laws_eqStringS_l : List LE := [⟨0, ⟨[(0, .one (.pv (.bool false))), (1, .one (.pv (.bool false))), (4, .one (.pv (.bool false))), (5, .one (.pv (.bool false)))], [], [], 0, 26⟩, fun K k v => laws_eqStringS_r0 v K (k .ret ⟨[(4, .one (.kb false))], [], [], 0, 26⟩) (fun x0 x1 x2 x3 => k (.exit 0) ⟨[(0, .one (.pv x0)), (1, .one (.pv x1)), (4, .one (.pv x2)), (5, .one (.pv x3))], [], [], 0, 26⟩)⟩]
theorem laws_eqStringS_s : LEsOK (orac []) TT (kk [0, 1, 4, 5]) (sumsOf laws_eqStringS_l) Tryz.f142 laws_eqStringS_l := ⟨fun v K k h => by
  apply un_all h; exact fun v0 v1 v2 v3 h => Eq.mpr (by kernel_rfl) h
  , trivial⟩
theorem laws_eqStringS_w : EntOK Tryz.prog TT laws_eqStringS_e := ent_ok tabok (L := []) trivial (keep := (kk [0, 1, 4, 5])) (l := laws_eqStringS_l) Tryz.func142 (by kernel_rfl) (sg := [.one (.sc)]) (by kernel_rfl) laws_eqStringS_s fun av k h => by
  unfold laws_eqStringS at h; split at h
  · exact Eq.mpr (by kernel_rfl) h
  · exact h.elim

def laws_eqEntry : GM
 | [.agg u0, .agg u1], k => un 4 (fun a0 a1 a2 a3 => un 4 (fun a4 a5 a6 a7 => 
  binP .neq a0 a4 fun r0 =>
  iteP r0
   (rt [.sc] [(.bool false)] k)
   (binP .neq a1 a5 fun r1 =>
   iteP r1
    (rt [.sc] [(.bool false)] k)
    (binP .neq a2 a6 fun r2 =>
    iteP r2
     (rt [.sc] [(.bool false)] k)
     (call laws_eqStringS [.one a3, .one a7] fun o3 =>
     unP .not (atP o3 0) fun r4 =>
     iteP r4
      (rt [.sc] [(.bool false)] k)
      (rt [.sc] [(.bool true)] k))))) u1) u0
 | _, _ => False
abbrev laws_eqEntry_e : Ent := ⟨[105], laws_eqEntry⟩
theorem laws_eqEntry_w : EntOK Tryz.prog TT laws_eqEntry_e := ent_ok tabok (L := [laws_eqStringS_e]) ⟨laws_eqStringS_w, trivial⟩ (keep := []) (l := []) Tryz.func105 (by kernel_rfl) (sg := [.one (.sc)]) (by kernel_rfl) trivial fun av k h => by
  unfold laws_eqEntry at h; split at h
  · apply un_all h; clear h; intro a0 a1 a2 a3 h; apply un_all h; clear h; intro a4 a5 a6 a7 h; exact Eq.mpr (by kernel_rfl) h
  · exact h.elim

def laws_eqProof : GM
 | [.agg u0, .agg u1], k => un 2 (fun a0 a1 => un 2 (fun a2 a3 => 
  binP .neq a0 a2 fun r0 =>
  iteP r0
   (rt [.sc] [(.bool false)] k)
   (call laws_eqIntS [.one a1, .one a3] fun o1 =>
   unP .not (atP o1 0) fun r2 =>
   iteP r2
    (rt [.sc] [(.bool false)] k)
    (rt [.sc] [(.bool true)] k))) u1) u0
 | _, _ => False
abbrev laws_eqProof_e : Ent := ⟨[118], laws_eqProof⟩
theorem laws_eqProof_w : EntOK Tryz.prog TT laws_eqProof_e := ent_ok tabok (L := [laws_eqIntS_e]) ⟨laws_eqIntS_w, trivial⟩ (keep := []) (l := []) Tryz.func118 (by kernel_rfl) (sg := [.one (.sc)]) (by kernel_rfl) trivial fun av k h => by
  unfold laws_eqProof at h; split at h
  · apply un_all h; clear h; intro a0 a1 h; apply un_all h; clear h; intro a2 a3 h; exact Eq.mpr (by kernel_rfl) h
  · exact h.elim

def laws_eqGap : GM
 | [.agg u0, .agg u1], k => un 13 (fun a0 a1 a2 a3 a4 a5 a6 a7 a8 a9 a10 a11 a12 => un 13 (fun a13 a14 a15 a16 a17 a18 a19 a20 a21 a22 a23 a24 a25 => 
  binP .neq a0 a13 fun r0 =>
  iteP r0
   (rt [.sc] [(.bool false)] k)
   (call laws_eqEntry [.agg [a1, a2, a3, a4], .agg [a14, a15, a16, a17]] fun o1 =>
   unP .not (atP o1 0) fun r2 =>
   iteP r2
    (rt [.sc] [(.bool false)] k)
    (call laws_eqEntry [.agg [a5, a6, a7, a8], .agg [a18, a19, a20, a21]] fun o3 =>
    unP .not (atP o3 0) fun r4 =>
    iteP r4
     (rt [.sc] [(.bool false)] k)
     (call laws_eqProof [.agg [a9, a10], .agg [a22, a23]] fun o5 =>
     unP .not (atP o5 0) fun r6 =>
     iteP r6
      (rt [.sc] [(.bool false)] k)
      (call laws_eqProof [.agg [a11, a12], .agg [a24, a25]] fun o7 =>
      unP .not (atP o7 0) fun r8 =>
      iteP r8
       (rt [.sc] [(.bool false)] k)
       (rt [.sc] [(.bool true)] k)))))) u1) u0
 | _, _ => False
abbrev laws_eqGap_e : Ent := ⟨[119], laws_eqGap⟩
theorem laws_eqGap_w : EntOK Tryz.prog TT laws_eqGap_e := ent_ok tabok (L := [laws_eqEntry_e, laws_eqProof_e]) ⟨laws_eqEntry_w, laws_eqProof_w, trivial⟩ (keep := []) (l := []) Tryz.func119 (by kernel_rfl) (sg := [.one (.sc)]) (by kernel_rfl) trivial fun av k h => by
  unfold laws_eqGap at h; split at h
  · apply un_all h; clear h; intro a0 a1 a2 a3 a4 a5 a6 a7 a8 a9 a10 a11 a12 h; apply un_all h; clear h; intro a13 a14 a15 a16 a17 a18 a19 a20 a21 a22 a23 a24 a25 h; exact Eq.mpr (by kernel_rfl) h
  · exact h.elim

def laws_eqAnswer : GM
 | [.agg u0, .agg u1], k => un 21 (fun a0 a1 a2 a3 a4 a5 a6 a7 a8 a9 a10 a11 a12 a13 a14 a15 a16 a17 a18 a19 a20 => un 21 (fun a21 a22 a23 a24 a25 a26 a27 a28 a29 a30 a31 a32 a33 a34 a35 a36 a37 a38 a39 a40 a41 => 
  call laws_eqSignedS [.one a0, .one a21] fun o0 =>
  unP .not (atP o0 0) fun r1 =>
  iteP r1
   (rt [.sc] [(.bool false)] k)
   (boolP .neq a1 a22 fun r2 =>
   iteP r2
    (rt [.sc] [(.bool false)] k)
    (call laws_eqEntry [.agg [a2, a3, a4, a5], .agg [a23, a24, a25, a26]] fun o3 =>
    unP .not (atP o3 0) fun r4 =>
    iteP r4
     (rt [.sc] [(.bool false)] k)
     (call laws_eqProof [.agg [a6, a7], .agg [a27, a28]] fun o5 =>
     unP .not (atP o5 0) fun r6 =>
     iteP r6
      (rt [.sc] [(.bool false)] k)
      (call laws_eqGap [.agg [a8, a9, a10, a11, a12, a13, a14, a15, a16, a17, a18, a19, a20], .agg [a29, a30, a31, a32, a33, a34, a35, a36, a37, a38, a39, a40, a41]] fun o7 =>
      unP .not (atP o7 0) fun r8 =>
      iteP r8
       (rt [.sc] [(.bool false)] k)
       (rt [.sc] [(.bool true)] k)))))) u1) u0
 | _, _ => False
abbrev laws_eqAnswer_e : Ent := ⟨[72], laws_eqAnswer⟩
theorem laws_eqAnswer_w : EntOK Tryz.prog TT laws_eqAnswer_e := ent_ok tabok (L := [laws_eqSignedS_e, laws_eqEntry_e, laws_eqProof_e, laws_eqGap_e]) ⟨laws_eqSignedS_w, laws_eqEntry_w, laws_eqProof_w, laws_eqGap_w, trivial⟩ (keep := []) (l := []) Tryz.func72 (by kernel_rfl) (sg := [.one (.sc)]) (by kernel_rfl) trivial fun av k h => by
  unfold laws_eqAnswer at h; split at h
  · apply un_all h; clear h; intro a0 a1 a2 a3 a4 a5 a6 a7 a8 a9 a10 a11 a12 a13 a14 a15 a16 a17 a18 a19 a20 h; apply un_all h; clear h; intro a21 a22 a23 a24 a25 a26 a27 a28 a29 a30 a31 a32 a33 a34 a35 a36 a37 a38 a39 a40 a41 h; exact Eq.mpr (by kernel_rfl) h
  · exact h.elim

def laws_eqAnswerS_r0 (v : List PV) (K : List PV → Prop) (x0k : Prop) (x1k : PV → PV → PV → PV → Prop) : Prop :=
 un 4 (fun v0 v1 v2 v3 =>
  lenP v0 fun r0 =>
  binP .lss v3 r0 fun r1 =>
  iteP r1
   (elemP 21 v0 v3 fun c2 =>
   elemP 21 v1 v3 fun c3 =>
   call laws_eqAnswer [.agg [(atP c2 0), (atP c2 1), (atP c2 2), (atP c2 3), (atP c2 4), (atP c2 5), (atP c2 6), (atP c2 7), (atP c2 8), (atP c2 9), (atP c2 10), (atP c2 11), (atP c2 12), (atP c2 13), (atP c2 14), (atP c2 15), (atP c2 16), (atP c2 17), (atP c2 18), (atP c2 19), (atP c2 20)], .agg [(atP c3 0), (atP c3 1), (atP c3 2), (atP c3 3), (atP c3 4), (atP c3 5), (atP c3 6), (atP c3 7), (atP c3 8), (atP c3 9), (atP c3 10), (atP c3 11), (atP c3 12), (atP c3 13), (atP c3 14), (atP c3 15), (atP c3 16), (atP c3 17), (atP c3 18), (atP c3 19), (atP c3 20)]] fun o4 =>
   unP .not (atP o4 0) fun r5 =>
   iteP r5
    (x0k)
    (binP .add v3 (I 1) fun r6 =>
    K [v0, v1, v2, r6]))
   (x1k v0 v1 v2 v3)) v
def laws_eqAnswerS : GM
 | [.one a0, .one a1], k => 
  lenP a0 fun r0 =>
  lenP a1 fun r1 =>
  binP .neq r0 r1 fun r2 =>
  iteP r2
   (rt [.sc] [(.bool false)] k)
   (lp (fun L w => laws_eqAnswerS_r0 w L
    (rt [.sc] [(.bool false)] k)
    (fun q7 q8 q9 q10 => rt [.sc] [(.bool true)] k)) [a0, a1, (.bool false), (I 0)])
 | _, _ => False
abbrev laws_eqAnswerS_e : Ent := ⟨[25], laws_eqAnswerS⟩
def laws_eqAnswerS_l : List LE := [⟨0, ⟨[(0, .one (.pv (.bool false))), (1, .one (.pv (.bool false))), (4, .one (.pv (.bool false))), (5, .one (.pv (.bool false)))], [], [], 0, 27⟩, fun K k v => laws_eqAnswerS_r0 v K (k .ret ⟨[(4, .one (.kb false))], [], [], 1, 27⟩) (fun x0 x1 x2 x3 => k (.exit 0) ⟨[(0, .one (.pv x0)), (1, .one (.pv x1)), (4, .one (.pv x2)), (5, .one (.pv x3))], [], [], 0, 27⟩)⟩]
theorem laws_eqAnswerS_s : LEsOK (orac [laws_eqAnswer_e]) TT (kk [0, 1, 4, 5]) (sumsOf laws_eqAnswerS_l) Tryz.f25 laws_eqAnswerS_l := ⟨fun v K k h => by
  apply un_all h; exact fun v0 v1 v2 v3 h => Eq.mpr (by kernel_rfl) h
  , trivial⟩
theorem laws_eqAnswerS_w : EntOK Tryz.prog TT laws_eqAnswerS_e := ent_ok tabok (L := [laws_eqAnswer_e]) ⟨laws_eqAnswer_w, trivial⟩ (keep := (kk [0, 1, 4, 5])) (l := laws_eqAnswerS_l) Tryz.func25 (by kernel_rfl) (sg := [.one (.sc)]) (by kernel_rfl) laws_eqAnswerS_s fun av k h => by
  unfold laws_eqAnswerS at h; split at h
  · exact Eq.mpr (by kernel_rfl) h
  · exact h.elim

def laws_eqEntryS_r0 (v : List PV) (K : List PV → Prop) (x0k : Prop) (x1k : PV → PV → PV → PV → Prop) : Prop :=
 un 4 (fun v0 v1 v2 v3 =>
  lenP v0 fun r0 =>
  binP .lss v3 r0 fun r1 =>
  iteP r1
   (elemP 4 v0 v3 fun c2 =>
   elemP 4 v1 v3 fun c3 =>
   call laws_eqEntry [.agg [(atP c2 0), (atP c2 1), (atP c2 2), (atP c2 3)], .agg [(atP c3 0), (atP c3 1), (atP c3 2), (atP c3 3)]] fun o4 =>
   unP .not (atP o4 0) fun r5 =>
   iteP r5
    (x0k)
    (binP .add v3 (I 1) fun r6 =>
    K [v0, v1, v2, r6]))
   (x1k v0 v1 v2 v3)) v
def laws_eqEntryS : GM
 | [.one a0, .one a1], k => 
  lenP a0 fun r0 =>
  lenP a1 fun r1 =>
  binP .neq r0 r1 fun r2 =>
  iteP r2
   (rt [.sc] [(.bool false)] k)
   (lp (fun L w => laws_eqEntryS_r0 w L
    (rt [.sc] [(.bool false)] k)
    (fun q7 q8 q9 q10 => rt [.sc] [(.bool true)] k)) [a0, a1, (.bool false), (I 0)])
 | _, _ => False
abbrev laws_eqEntryS_e : Ent := ⟨[61], laws_eqEntryS⟩
def laws_eqEntryS_l : List LE := [⟨0, ⟨[(0, .one (.pv (.bool false))), (1, .one (.pv (.bool false))), (4, .one (.pv (.bool false))), (5, .one (.pv (.bool false)))], [], [], 0, 27⟩, fun K k v => laws_eqEntryS_r0 v K (k .ret ⟨[(4, .one (.kb false))], [], [], 1, 27⟩) (fun x0 x1 x2 x3 => k (.exit 0) ⟨[(0, .one (.pv x0)), (1, .one (.pv x1)), (4, .one (.pv x2)), (5, .one (.pv x3))], [], [], 0, 27⟩)⟩]
theorem laws_eqEntryS_s : LEsOK (orac [laws_eqEntry_e]) TT (kk [0, 1, 4, 5]) (sumsOf laws_eqEntryS_l) Tryz.f61 laws_eqEntryS_l := ⟨fun v K k h => by
  apply un_all h; exact fun v0 v1 v2 v3 h => Eq.mpr (by kernel_rfl) h
  , trivial⟩
theorem laws_eqEntryS_w : EntOK Tryz.prog TT laws_eqEntryS_e := ent_ok tabok (L := [laws_eqEntry_e]) ⟨laws_eqEntry_w, trivial⟩ (keep := (kk [0, 1, 4, 5])) (l := laws_eqEntryS_l) Tryz.func61 (by kernel_rfl) (sg := [.one (.sc)]) (by kernel_rfl) laws_eqEntryS_s fun av k h => by
  unfold laws_eqEntryS at h; split at h
  · exact Eq.mpr (by kernel_rfl) h
  · exact h.elim

def laws_eqZone : GM
 | [.agg u0, .agg u1], k => un 2 (fun a0 a1 => un 2 (fun a2 a3 => 
  call laws_eqSignedS [.one a0, .one a2] fun o0 =>
  unP .not (atP o0 0) fun r1 =>
  iteP r1
   (rt [.sc] [(.bool false)] k)
   (call laws_eqEntryS [.one a1, .one a3] fun o2 =>
   unP .not (atP o2 0) fun r3 =>
   iteP r3
    (rt [.sc] [(.bool false)] k)
    (rt [.sc] [(.bool true)] k))) u1) u0
 | _, _ => False
abbrev laws_eqZone_e : Ent := ⟨[17], laws_eqZone⟩
theorem laws_eqZone_w : EntOK Tryz.prog TT laws_eqZone_e := ent_ok tabok (L := [laws_eqSignedS_e, laws_eqEntryS_e]) ⟨laws_eqSignedS_w, laws_eqEntryS_w, trivial⟩ (keep := []) (l := []) Tryz.func17 (by kernel_rfl) (sg := [.one (.sc)]) (by kernel_rfl) trivial fun av k h => by
  unfold laws_eqZone at h; split at h
  · apply un_all h; clear h; intro a0 a1 h; apply un_all h; clear h; intro a2 a3 h; exact Eq.mpr (by kernel_rfl) h
  · exact h.elim

def laws_eqZoneS_r0 (v : List PV) (K : List PV → Prop) (x0k : Prop) (x1k : PV → PV → PV → PV → Prop) : Prop :=
 un 4 (fun v0 v1 v2 v3 =>
  lenP v0 fun r0 =>
  binP .lss v3 r0 fun r1 =>
  iteP r1
   (elemP 2 v0 v3 fun c2 =>
   elemP 2 v1 v3 fun c3 =>
   call laws_eqZone [.agg [(atP c2 0), (atP c2 1)], .agg [(atP c3 0), (atP c3 1)]] fun o4 =>
   unP .not (atP o4 0) fun r5 =>
   iteP r5
    (x0k)
    (binP .add v3 (I 1) fun r6 =>
    K [v0, v1, v2, r6]))
   (x1k v0 v1 v2 v3)) v
def laws_eqZoneS : GM
 | [.one a0, .one a1], k => 
  lenP a0 fun r0 =>
  lenP a1 fun r1 =>
  binP .neq r0 r1 fun r2 =>
  iteP r2
   (rt [.sc] [(.bool false)] k)
   (lp (fun L w => laws_eqZoneS_r0 w L
    (rt [.sc] [(.bool false)] k)
    (fun q7 q8 q9 q10 => rt [.sc] [(.bool true)] k)) [a0, a1, (.bool false), (I 0)])
 | _, _ => False
abbrev laws_eqZoneS_e : Ent := ⟨[45], laws_eqZoneS⟩
def laws_eqZoneS_l : List LE := [⟨0, ⟨[(0, .one (.pv (.bool false))), (1, .one (.pv (.bool false))), (4, .one (.pv (.bool false))), (5, .one (.pv (.bool false)))], [], [], 0, 27⟩, fun K k v => laws_eqZoneS_r0 v K (k .ret ⟨[(4, .one (.kb false))], [], [], 1, 27⟩) (fun x0 x1 x2 x3 => k (.exit 0) ⟨[(0, .one (.pv x0)), (1, .one (.pv x1)), (4, .one (.pv x2)), (5, .one (.pv x3))], [], [], 0, 27⟩)⟩]
theorem laws_eqZoneS_s : LEsOK (orac [laws_eqZone_e]) TT (kk [0, 1, 4, 5]) (sumsOf laws_eqZoneS_l) Tryz.f45 laws_eqZoneS_l := ⟨fun v K k h => by
  apply un_all h; exact fun v0 v1 v2 v3 h => Eq.mpr (by kernel_rfl) h
  , trivial⟩
theorem laws_eqZoneS_w : EntOK Tryz.prog TT laws_eqZoneS_e := ent_ok tabok (L := [laws_eqZone_e]) ⟨laws_eqZone_w, trivial⟩ (keep := (kk [0, 1, 4, 5])) (l := laws_eqZoneS_l) Tryz.func45 (by kernel_rfl) (sg := [.one (.sc)]) (by kernel_rfl) laws_eqZoneS_s fun av k h => by
  unfold laws_eqZoneS at h; split at h
  · exact Eq.mpr (by kernel_rfl) h
  · exact h.elim

def laws_eqServer : GM
 | [.agg u0, .agg u1], k => un 2 (fun a0 a1 => un 2 (fun a2 a3 => 
  call laws_eqZoneS [.one a0, .one a2] fun o0 =>
  unP .not (atP o0 0) fun r1 =>
  iteP r1
   (rt [.sc] [(.bool false)] k)
   (binP .neq a1 a3 fun r2 =>
   iteP r2
    (rt [.sc] [(.bool false)] k)
    (rt [.sc] [(.bool true)] k))) u1) u0
 | _, _ => False
abbrev laws_eqServer_e : Ent := ⟨[26], laws_eqServer⟩
theorem laws_eqServer_w : EntOK Tryz.prog TT laws_eqServer_e := ent_ok tabok (L := [laws_eqZoneS_e]) ⟨laws_eqZoneS_w, trivial⟩ (keep := []) (l := []) Tryz.func26 (by kernel_rfl) (sg := [.one (.sc)]) (by kernel_rfl) trivial fun av k h => by
  unfold laws_eqServer at h; split at h
  · apply un_all h; clear h; intro a0 a1 h; apply un_all h; clear h; intro a2 a3 h; exact Eq.mpr (by kernel_rfl) h
  · exact h.elim

def laws_heldIntS_r0 (v : List PV) (K : List PV → Prop) (x0k : Prop) (x1k : PV → PV → PV → PV → Prop) : Prop :=
 un 4 (fun v0 v1 v2 v3 =>
  lenP v0 fun r0 =>
  binP .lss v3 r0 fun r1 =>
  iteP r1
   (elemP 1 v0 v3 fun c2 =>
   binP .neq (atP c2 0) v1 fun r3 =>
   iteP r3
    (x0k)
    (binP .add v1 (I 1) fun r4 =>
    binP .add v3 (I 1) fun r5 =>
    K [v0, r4, v2, r5]))
   (x1k v0 v1 v2 v3)) v
def laws_heldIntS : GM
 | [.one a0, .one a1], k => 
  lp (fun L w => laws_heldIntS_r0 w L
   (rt [.sc] [(I (-1))] k)
   (fun q6 q7 q8 q9 => rt [.sc] [q7] k)) [a0, a1, (I 0), (I 0)]
 | _, _ => False
abbrev laws_heldIntS_e : Ent := ⟨[14], laws_heldIntS⟩
def laws_heldIntS_l : List LE := [⟨0, ⟨[(0, .one (.pv (.bool false))), (1, .one (.pv (.bool false))), (4, .one (.pv (.bool false))), (5, .one (.pv (.bool false)))], [], [], 0, 21⟩, fun K k v => laws_heldIntS_r0 v K (k .ret ⟨[(4, .one (.pv (I (-1))))], [], [], 0, 21⟩) (fun x0 x1 x2 x3 => k (.exit 0) ⟨[(0, .one (.pv x0)), (1, .one (.pv x1)), (4, .one (.pv x2)), (5, .one (.pv x3))], [], [], 0, 21⟩)⟩]
theorem laws_heldIntS_s : LEsOK (orac []) TT (kk [0, 1, 4, 5]) (sumsOf laws_heldIntS_l) Tryz.f14 laws_heldIntS_l := ⟨fun v K k h => by
  apply un_all h; exact fun v0 v1 v2 v3 h => Eq.mpr (by kernel_rfl) h
  , trivial⟩
theorem laws_heldIntS_w : EntOK Tryz.prog TT laws_heldIntS_e := ent_ok tabok (L := []) trivial (keep := (kk [0, 1, 4, 5])) (l := laws_heldIntS_l) Tryz.func14 (by kernel_rfl) (sg := [.one (.sc)]) (by kernel_rfl) laws_heldIntS_s fun av k h => by
  unfold laws_heldIntS at h; split at h
  · exact Eq.mpr (by kernel_rfl) h
  · exact h.elim

def laws_heldSigS_r0 (v : List PV) (K : List PV → Prop) (x0k : Prop) (x1k : PV → PV → PV → PV → Prop) : Prop :=
 un 4 (fun v0 v1 v2 v3 =>
  lenP v0 fun r0 =>
  binP .lss v3 r0 fun r1 =>
  iteP r1
   (elemP 2 v0 v3 fun c2 =>
   binP .neq (atP c2 0) v1 fun r3 =>
   iteP r3
    (x0k)
    (binP .add v1 (I 1) fun r4 =>
    elemP 2 v0 v3 fun c5 =>
    binP .neq (atP c5 1) r4 fun r6 =>
    iteP r6
     (x0k)
     (binP .add r4 (I 1) fun r7 =>
     binP .add v3 (I 1) fun r8 =>
     K [v0, r7, v2, r8])))
   (x1k v0 v1 v2 v3)) v
def laws_heldSigS : GM
 | [.one a0, .one a1], k => 
  lp (fun L w => laws_heldSigS_r0 w L
   (rt [.sc] [(I (-1))] k)
   (fun q9 q10 q11 q12 => rt [.sc] [q10] k)) [a0, a1, (I 0), (I 0)]
 | _, _ => False
abbrev laws_heldSigS_e : Ent := ⟨[107], laws_heldSigS⟩
def laws_heldSigS_l : List LE := [⟨0, ⟨[(0, .one (.pv (.bool false))), (1, .one (.pv (.bool false))), (4, .one (.pv (.bool false))), (5, .one (.pv (.bool false)))], [], [], 0, 31⟩, fun K k v => laws_heldSigS_r0 v K (k .ret ⟨[(4, .one (.pv (I (-1))))], [], [], 0, 31⟩) (fun x0 x1 x2 x3 => k (.exit 0) ⟨[(0, .one (.pv x0)), (1, .one (.pv x1)), (4, .one (.pv x2)), (5, .one (.pv x3))], [], [], 0, 31⟩)⟩]
theorem laws_heldSigS_s : LEsOK (orac []) TT (kk [0, 1, 4, 5]) (sumsOf laws_heldSigS_l) Tryz.f107 laws_heldSigS_l := ⟨fun v K k h => by
  apply un_all h; exact fun v0 v1 v2 v3 h => Eq.mpr (by kernel_rfl) h
  , trivial⟩
theorem laws_heldSigS_w : EntOK Tryz.prog TT laws_heldSigS_e := ent_ok tabok (L := []) trivial (keep := (kk [0, 1, 4, 5])) (l := laws_heldSigS_l) Tryz.func107 (by kernel_rfl) (sg := [.one (.sc)]) (by kernel_rfl) laws_heldSigS_s fun av k h => by
  unfold laws_heldSigS at h; split at h
  · exact Eq.mpr (by kernel_rfl) h
  · exact h.elim

def laws_heldSignedS_r0 (v : List PV) (K : List PV → Prop) (x0k : Prop) (x1k : Prop) (x2k : Prop) (x3k : Prop) (x4k : Prop) (x5k : PV → PV → PV → PV → Prop) : Prop :=
 un 4 (fun v0 v1 v2 v3 =>
  lenP v0 fun r0 =>
  binP .lss v3 r0 fun r1 =>
  iteP r1
   (elemP 17 v0 v3 fun c2 =>
   binP .neq (atP c2 0) v1 fun r3 =>
   iteP r3
    (x0k)
    (binP .add v1 (I 1) fun r4 =>
    elemP 17 v0 v3 fun c5 =>
    binP .neq (atP c5 1) r4 fun r6 =>
    iteP r6
     (x0k)
     (binP .add r4 (I 1) fun r7 =>
     elemP 17 v0 v3 fun c8 =>
     binP .neq (atP c8 2) r7 fun r9 =>
     iteP r9
      (x0k)
      (binP .add r7 (I 1) fun r10 =>
      elemP 17 v0 v3 fun c11 =>
      binP .neq (atP c11 3) r10 fun r12 =>
      iteP r12
       (x0k)
       (binP .add r10 (I 1) fun r13 =>
       elemP 17 v0 v3 fun c14 =>
       binP .neq (atP c14 4) r13 fun r15 =>
       iteP r15
        (x0k)
        (binP .add r13 (I 1) fun r16 =>
        elemP 17 v0 v3 fun c17 =>
        binP .neq (atP c17 5) r16 fun r18 =>
        iteP r18
         (x0k)
         (binP .add r16 (I 1) fun r19 =>
         elemP 17 v0 v3 fun c20 =>
         binP .neq (atP c20 6) r19 fun r21 =>
         iteP r21
          (x0k)
          (binP .add r19 (I 1) fun r22 =>
          elemP 17 v0 v3 fun c23 =>
          binP .neq (atP c23 7) r22 fun r24 =>
          iteP r24
           (x0k)
           (binP .add r22 (I 1) fun r25 =>
           elemP 17 v0 v3 fun c26 =>
           call laws_heldIntS [.one (atP c26 8), .one r25] fun o27 =>
           binP .lss (atP o27 0) (I 0) fun r28 =>
           iteP r28
            (x1k)
            (elemP 17 v0 v3 fun c29 =>
            binP .neq (atP c29 9) (atP o27 0) fun r30 =>
            iteP r30
             (x1k)
             (binP .add (atP o27 0) (I 1) fun r31 =>
             elemP 17 v0 v3 fun c32 =>
             call laws_heldIntS [.one (atP c32 10), .one r31] fun o33 =>
             binP .lss (atP o33 0) (I 0) fun r34 =>
             iteP r34
              (x2k)
              (elemP 17 v0 v3 fun c35 =>
              binP .neq (atP c35 11) (atP o33 0) fun r36 =>
              iteP r36
               (x2k)
               (binP .add (atP o33 0) (I 1) fun r37 =>
               elemP 17 v0 v3 fun c38 =>
               binP .neq (atP c38 12) r37 fun r39 =>
               iteP r39
                (x2k)
                (binP .add r37 (I 1) fun r40 =>
                elemP 17 v0 v3 fun c41 =>
                call laws_heldIntS [.one (atP c41 13), .one r40] fun o42 =>
                binP .lss (atP o42 0) (I 0) fun r43 =>
                iteP r43
                 (x3k)
                 (elemP 17 v0 v3 fun c44 =>
                 binP .neq (atP c44 14) (atP o42 0) fun r45 =>
                 iteP r45
                  (x3k)
                  (binP .add (atP o42 0) (I 1) fun r46 =>
                  elemP 17 v0 v3 fun c47 =>
                  binP .rem r46 (I 3) fun r48 =>
                  binP .eql r48 (I 0) fun r49 =>
                  boolP .neq (atP c47 15) r49 fun r50 =>
                  iteP r50
                   (x3k)
                   (binP .add r46 (I 1) fun r51 =>
                   elemP 17 v0 v3 fun c52 =>
                   call laws_heldSigS [.one (atP c52 16), .one r51] fun o53 =>
                   binP .lss (atP o53 0) (I 0) fun r54 =>
                   iteP r54
                    (x4k)
                    (binP .add v3 (I 1) fun r55 =>
                    K [v0, (atP o53 0), v2, r55]))))))))))))))))))
   (x5k v0 v1 v2 v3)) v
def laws_heldSignedS : GM
 | [.one a0, .one a1], k => 
  lp (fun L w => laws_heldSignedS_r0 w L
   (rt [.sc] [(I (-1))] k)
   (rt [.sc] [(I (-1))] k)
   (rt [.sc] [(I (-1))] k)
   (rt [.sc] [(I (-1))] k)
   (rt [.sc] [(I (-1))] k)
   (fun q56 q57 q58 q59 => rt [.sc] [q57] k)) [a0, a1, (I 0), (I 0)]
 | _, _ => False
abbrev laws_heldSignedS_e : Ent := ⟨[64], laws_heldSignedS⟩
def laws_heldSignedS_l : List LE := [⟨0, ⟨[(0, .one (.pv (.bool false))), (1, .one (.pv (.bool false))), (4, .one (.pv (.bool false))), (5, .one (.pv (.bool false)))], [], [], 0, 190⟩, fun K k v => laws_heldSignedS_r0 v K (k .ret ⟨[(4, .one (.pv (I (-1))))], [], [], 0, 190⟩) (k .ret ⟨[(4, .one (.pv (I (-1))))], [], [], 1, 190⟩) (k .ret ⟨[(4, .one (.pv (I (-1))))], [], [], 2, 190⟩) (k .ret ⟨[(4, .one (.pv (I (-1))))], [], [], 3, 190⟩) (k .ret ⟨[(4, .one (.pv (I (-1))))], [], [], 4, 190⟩) (fun x0 x1 x2 x3 => k (.exit 0) ⟨[(0, .one (.pv x0)), (1, .one (.pv x1)), (4, .one (.pv x2)), (5, .one (.pv x3))], [], [], 0, 190⟩)⟩]
theorem laws_heldSignedS_s : LEsOK (orac [laws_heldIntS_e, laws_heldSigS_e]) TT (kk [0, 1, 4, 5]) (sumsOf laws_heldSignedS_l) Tryz.f64 laws_heldSignedS_l := ⟨fun v K k h => by
  apply un_all h; exact fun v0 v1 v2 v3 h => Eq.mpr (by kernel_rfl) h
  , trivial⟩
theorem laws_heldSignedS_w : EntOK Tryz.prog TT laws_heldSignedS_e := ent_ok tabok (L := [laws_heldIntS_e, laws_heldSigS_e]) ⟨laws_heldIntS_w, laws_heldSigS_w, trivial⟩ (keep := (kk [0, 1, 4, 5])) (l := laws_heldSignedS_l) Tryz.func64 (by kernel_rfl) (sg := [.one (.sc)]) (by kernel_rfl) laws_heldSignedS_s fun av k h => by
  unfold laws_heldSignedS at h; split at h
  · exact Eq.mpr (by kernel_rfl) h
  · exact h.elim

def laws_heldStringS_r0 (v : List PV) (K : List PV → Prop) (x0k : Prop) (x1k : PV → PV → PV → PV → Prop) : Prop :=
 un 4 (fun v0 v1 v2 v3 =>
  lenP v0 fun r0 =>
  binP .lss v3 r0 fun r1 =>
  iteP r1
   (elemP 1 v0 v3 fun c2 =>
   call laws_markText [.one v1] fun o3 =>
   binP .neq (atP c2 0) (atP o3 0) fun r4 =>
   iteP r4
    (x0k)
    (binP .add v1 (I 1) fun r5 =>
    binP .add v3 (I 1) fun r6 =>
    K [v0, r5, v2, r6]))
   (x1k v0 v1 v2 v3)) v
def laws_heldStringS : GM
 | [.one a0, .one a1], k => 
  lp (fun L w => laws_heldStringS_r0 w L
   (rt [.sc] [(I (-1))] k)
   (fun q7 q8 q9 q10 => rt [.sc] [q8] k)) [a0, a1, (I 0), (I 0)]
 | _, _ => False
abbrev laws_heldStringS_e : Ent := ⟨[75], laws_heldStringS⟩
def laws_heldStringS_l : List LE := [⟨0, ⟨[(0, .one (.pv (.bool false))), (1, .one (.pv (.bool false))), (4, .one (.pv (.bool false))), (5, .one (.pv (.bool false)))], [], [], 0, 22⟩, fun K k v => laws_heldStringS_r0 v K (k .ret ⟨[(4, .one (.pv (I (-1))))], [], [], 1, 22⟩) (fun x0 x1 x2 x3 => k (.exit 0) ⟨[(0, .one (.pv x0)), (1, .one (.pv x1)), (4, .one (.pv x2)), (5, .one (.pv x3))], [], [], 0, 22⟩)⟩]
theorem laws_heldStringS_s : LEsOK (orac [laws_markText_e]) TT (kk [0, 1, 4, 5]) (sumsOf laws_heldStringS_l) Tryz.f75 laws_heldStringS_l := ⟨fun v K k h => by
  apply un_all h; exact fun v0 v1 v2 v3 h => Eq.mpr (by kernel_rfl) h
  , trivial⟩
theorem laws_heldStringS_w : EntOK Tryz.prog TT laws_heldStringS_e := ent_ok tabok (L := [laws_markText_e]) ⟨laws_markText_w, trivial⟩ (keep := (kk [0, 1, 4, 5])) (l := laws_heldStringS_l) Tryz.func75 (by kernel_rfl) (sg := [.one (.sc)]) (by kernel_rfl) laws_heldStringS_s fun av k h => by
  unfold laws_heldStringS at h; split at h
  · exact Eq.mpr (by kernel_rfl) h
  · exact h.elim

def laws_heldAnswerS_r0 (v : List PV) (K : List PV → Prop) (x0k : Prop) (x1k : Prop) (x2k : Prop) (x3k : Prop) (x4k : Prop) (x5k : Prop) (x6k : Prop) (x7k : Prop) (x8k : Prop) (x9k : Prop) (x10k : PV → PV → PV → PV → Prop) : Prop :=
 un 4 (fun v0 v1 v2 v3 =>
  lenP v0 fun r0 =>
  binP .lss v3 r0 fun r1 =>
  iteP r1
   (elemP 21 v0 v3 fun c2 =>
   call laws_heldSignedS [.one (atP c2 0), .one v1] fun o3 =>
   binP .lss (atP o3 0) (I 0) fun r4 =>
   iteP r4
    (x0k)
    (elemP 21 v0 v3 fun c5 =>
    binP .rem (atP o3 0) (I 3) fun r6 =>
    binP .eql r6 (I 0) fun r7 =>
    boolP .neq (atP c5 1) r7 fun r8 =>
    iteP r8
     (x0k)
     (binP .add (atP o3 0) (I 1) fun r9 =>
     elemP 21 v0 v3 fun c10 =>
     call laws_markText [.one r9] fun o11 =>
     binP .neq (atP c10 2) (atP o11 0) fun r12 =>
     iteP r12
      (x1k)
      (binP .add r9 (I 1) fun r13 =>
      elemP 21 v0 v3 fun c14 =>
      binP .neq (atP c14 3) r13 fun r15 =>
      iteP r15
       (x1k)
       (binP .add r13 (I 1) fun r16 =>
       elemP 21 v0 v3 fun c17 =>
       binP .neq (atP c17 4) r16 fun r18 =>
       iteP r18
        (x1k)
        (binP .add r16 (I 1) fun r19 =>
        elemP 21 v0 v3 fun c20 =>
        call laws_heldStringS [.one (atP c20 5), .one r19] fun o21 =>
        binP .lss (atP o21 0) (I 0) fun r22 =>
        iteP r22
         (x2k)
         (elemP 21 v0 v3 fun c23 =>
         binP .neq (atP c23 6) (atP o21 0) fun r24 =>
         iteP r24
          (x2k)
          (binP .add (atP o21 0) (I 1) fun r25 =>
          elemP 21 v0 v3 fun c26 =>
          call laws_heldIntS [.one (atP c26 7), .one r25] fun o27 =>
          binP .lss (atP o27 0) (I 0) fun r28 =>
          iteP r28
           (x3k)
           (elemP 21 v0 v3 fun c29 =>
           binP .neq (atP c29 8) (atP o27 0) fun r30 =>
           iteP r30
            (x3k)
            (binP .add (atP o27 0) (I 1) fun r31 =>
            elemP 21 v0 v3 fun c32 =>
            call laws_markText [.one r31] fun o33 =>
            binP .neq (atP c32 9) (atP o33 0) fun r34 =>
            iteP r34
             (x4k)
             (binP .add r31 (I 1) fun r35 =>
             elemP 21 v0 v3 fun c36 =>
             binP .neq (atP c36 10) r35 fun r37 =>
             iteP r37
              (x4k)
              (binP .add r35 (I 1) fun r38 =>
              elemP 21 v0 v3 fun c39 =>
              binP .neq (atP c39 11) r38 fun r40 =>
              iteP r40
               (x4k)
               (binP .add r38 (I 1) fun r41 =>
               elemP 21 v0 v3 fun c42 =>
               call laws_heldStringS [.one (atP c42 12), .one r41] fun o43 =>
               binP .lss (atP o43 0) (I 0) fun r44 =>
               iteP r44
                (x5k)
                (elemP 21 v0 v3 fun c45 =>
                call laws_markText [.one (atP o43 0)] fun o46 =>
                binP .neq (atP c45 13) (atP o46 0) fun r47 =>
                iteP r47
                 (x6k)
                 (binP .add (atP o43 0) (I 1) fun r48 =>
                 elemP 21 v0 v3 fun c49 =>
                 binP .neq (atP c49 14) r48 fun r50 =>
                 iteP r50
                  (x6k)
                  (binP .add r48 (I 1) fun r51 =>
                  elemP 21 v0 v3 fun c52 =>
                  binP .neq (atP c52 15) r51 fun r53 =>
                  iteP r53
                   (x6k)
                   (binP .add r51 (I 1) fun r54 =>
                   elemP 21 v0 v3 fun c55 =>
                   call laws_heldStringS [.one (atP c55 16), .one r54] fun o56 =>
                   binP .lss (atP o56 0) (I 0) fun r57 =>
                   iteP r57
                    (x7k)
                    (elemP 21 v0 v3 fun c58 =>
                    binP .neq (atP c58 17) (atP o56 0) fun r59 =>
                    iteP r59
                     (x7k)
                     (binP .add (atP o56 0) (I 1) fun r60 =>
                     elemP 21 v0 v3 fun c61 =>
                     call laws_heldIntS [.one (atP c61 18), .one r60] fun o62 =>
                     binP .lss (atP o62 0) (I 0) fun r63 =>
                     iteP r63
                      (x8k)
                      (elemP 21 v0 v3 fun c64 =>
                      binP .neq (atP c64 19) (atP o62 0) fun r65 =>
                      iteP r65
                       (x8k)
                       (binP .add (atP o62 0) (I 1) fun r66 =>
                       elemP 21 v0 v3 fun c67 =>
                       call laws_heldIntS [.one (atP c67 20), .one r66] fun o68 =>
                       binP .lss (atP o68 0) (I 0) fun r69 =>
                       iteP r69
                        (x9k)
                        (binP .add v3 (I 1) fun r70 =>
                        K [v0, (atP o68 0), v2, r70]))))))))))))))))))))))
   (x10k v0 v1 v2 v3)) v
def laws_heldAnswerS : GM
 | [.one a0, .one a1], k => 
  lp (fun L w => laws_heldAnswerS_r0 w L
   (rt [.sc] [(I (-1))] k)
   (rt [.sc] [(I (-1))] k)
   (rt [.sc] [(I (-1))] k)
   (rt [.sc] [(I (-1))] k)
   (rt [.sc] [(I (-1))] k)
   (rt [.sc] [(I (-1))] k)
   (rt [.sc] [(I (-1))] k)
   (rt [.sc] [(I (-1))] k)
   (rt [.sc] [(I (-1))] k)
   (rt [.sc] [(I (-1))] k)
   (fun q71 q72 q73 q74 => rt [.sc] [q72] k)) [a0, a1, (I 0), (I 0)]
 | _, _ => False
abbrev laws_heldAnswerS_e : Ent := ⟨[29], laws_heldAnswerS⟩
def laws_heldAnswerS_l : List LE := [⟨0, ⟨[(0, .one (.pv (.bool false))), (1, .one (.pv (.bool false))), (4, .one (.pv (.bool false))), (5, .one (.pv (.bool false)))], [], [], 0, 238⟩, fun K k v => laws_heldAnswerS_r0 v K (k .ret ⟨[(4, .one (.pv (I (-1))))], [], [], 1, 238⟩) (k .ret ⟨[(4, .one (.pv (I (-1))))], [], [], 2, 238⟩) (k .ret ⟨[(4, .one (.pv (I (-1))))], [], [], 3, 238⟩) (k .ret ⟨[(4, .one (.pv (I (-1))))], [], [], 4, 238⟩) (k .ret ⟨[(4, .one (.pv (I (-1))))], [], [], 5, 238⟩) (k .ret ⟨[(4, .one (.pv (I (-1))))], [], [], 6, 238⟩) (k .ret ⟨[(4, .one (.pv (I (-1))))], [], [], 7, 238⟩) (k .ret ⟨[(4, .one (.pv (I (-1))))], [], [], 8, 238⟩) (k .ret ⟨[(4, .one (.pv (I (-1))))], [], [], 9, 238⟩) (k .ret ⟨[(4, .one (.pv (I (-1))))], [], [], 10, 238⟩) (fun x0 x1 x2 x3 => k (.exit 0) ⟨[(0, .one (.pv x0)), (1, .one (.pv x1)), (4, .one (.pv x2)), (5, .one (.pv x3))], [], [], 0, 238⟩)⟩]
theorem laws_heldAnswerS_s : LEsOK (orac [laws_heldSignedS_e, laws_markText_e, laws_heldStringS_e, laws_heldIntS_e]) TT (kk [0, 1, 4, 5]) (sumsOf laws_heldAnswerS_l) Tryz.f29 laws_heldAnswerS_l := ⟨fun v K k h => by
  apply un_all h; exact fun v0 v1 v2 v3 h => Eq.mpr (by kernel_rfl) h
  , trivial⟩
theorem laws_heldAnswerS_w : EntOK Tryz.prog TT laws_heldAnswerS_e := ent_ok tabok (L := [laws_heldSignedS_e, laws_markText_e, laws_heldStringS_e, laws_heldIntS_e]) ⟨laws_heldSignedS_w, laws_markText_w, laws_heldStringS_w, laws_heldIntS_w, trivial⟩ (keep := (kk [0, 1, 4, 5])) (l := laws_heldAnswerS_l) Tryz.func29 (by kernel_rfl) (sg := [.one (.sc)]) (by kernel_rfl) laws_heldAnswerS_s fun av k h => by
  unfold laws_heldAnswerS at h; split at h
  · exact Eq.mpr (by kernel_rfl) h
  · exact h.elim

def laws_FnExactAskBucket : GM
 | [.agg u0, .agg u1], k => un 2 (fun a0 a1 => un 2 (fun a2 a3 => 
  call laws_szServer [.agg [a0, a1], .one (I 1048576)] fun o0 =>
  binP .lss (atP o0 0) (I 0) fun r1 =>
  iteP r1
   (rt [.sc] [(.bool true)] k)
   (call laws_toServer [.agg [a0, a1]] fun o2 =>
   call laws_toQuestion [.agg [a2, a3]] fun o3 =>
   call spec_AskBucket [.agg [(atP o2 0), (atP o2 1)], .agg [(atP o3 0), (atP o3 1)]] fun o4 =>
   call laws_toServer [.agg [a0, a1]] fun o5 =>
   call laws_toQuestion [.agg [a2, a3]] fun o6 =>
   call impl_AskBucket [.agg [(atP o5 0), (atP o5 1)], .agg [(atP o6 0), (atP o6 1)]] fun o7 =>
   call laws_eqAnswerS [.one (atP o7 0), .one (atP o4 0)] fun o8 =>
   unP .not (atP o8 0) fun r9 =>
   iteP r9
    (rt [.sc] [(.bool false)] k)
    (call laws_toServer [.agg [a0, a1]] fun o10 =>
    call laws_eqServer [.agg [(atP o5 0), (atP o5 1)], .agg [(atP o10 0), (atP o10 1)]] fun o11 =>
    unP .not (atP o11 0) fun r12 =>
    iteP r12
     (rt [.sc] [(.bool false)] k)
     ((flatCond [.nil 60 2, .pv (I 0)] [.own 8, .pv (atP o5 1)]) ∧ call laws_markServer [.agg [(atP o5 0), (atP o5 1)], .one (I 1)] fun o13 =>
     binP .lss (atP o13 2) (I 0) fun r14 =>
     iteP r14
      (rt [.sc] [(.bool false)] k)
      (call laws_eqAnswerS [.one (atP o7 0), .one (atP o4 0)] fun o15 =>
      unP .not (atP o15 0) fun r16 =>
      iteP r16
       (rt [.sc] [(.bool false)] k)
       ((flatCond [.nil 123 21] [.own 13]) ∧ call laws_markAnswerS [.one (atP [(atP o7 0)] 0), .one (I 1)] fun o17 =>
       call laws_heldAnswerS [.one (atP o17 0), .one (I 1)] fun o18 =>
       binP .lss (atP o18 0) (I 0) fun r19 =>
       iteP r19
        (rt [.sc] [(.bool false)] k)
        (binP .neq (atP o18 0) (atP o17 1) fun r20 =>
        iteP r20
         (rt [.sc] [(.bool false)] k)
         (call laws_toServer [.agg [a0, a1]] fun o21 =>
         call laws_toQuestion [.agg [a2, a3]] fun o22 =>
         call impl_AskBucket [.agg [(atP o21 0), (atP o21 1)], .agg [(atP o22 0), (atP o22 1)]] fun o23 =>
         call laws_eqAnswerS [.one (atP o23 0), .one (atP o4 0)] fun o24 =>
         unP .not (atP o24 0) fun r25 =>
         iteP r25
          (rt [.sc] [(.bool false)] k)
          (call laws_heldAnswerS [.one (atP o17 0), .one (I 1)] fun o26 =>
          binP .lss (atP o26 0) (I 0) fun r27 =>
          iteP r27
           (rt [.sc] [(.bool false)] k)
           (binP .neq (atP o26 0) (atP o17 1) fun r28 =>
           iteP r28
            (rt [.sc] [(.bool false)] k)
            (rt [.sc] [(.bool true)] k))))))))))) u1) u0
 | _, _ => False
abbrev laws_FnExactAskBucket_e : Ent := ⟨[5], laws_FnExactAskBucket⟩
theorem laws_FnExactAskBucket_w : EntOK Tryz.prog TT laws_FnExactAskBucket_e := ent_ok tabok (L := [laws_szServer_e, laws_toServer_e, laws_toQuestion_e, spec_AskBucket_e, impl_AskBucket_e, laws_eqAnswerS_e, laws_eqServer_e, laws_markServer_e, laws_markAnswerS_e, laws_heldAnswerS_e]) ⟨laws_szServer_w, laws_toServer_w, laws_toQuestion_w, spec_AskBucket_w, impl_AskBucket_w, laws_eqAnswerS_w, laws_eqServer_w, laws_markServer_w, laws_markAnswerS_w, laws_heldAnswerS_w, trivial⟩ (keep := []) (l := []) Tryz.func5 (by kernel_rfl) (sg := [.one (.sc)]) (by kernel_rfl) trivial fun av k h => by
  unfold laws_FnExactAskBucket at h; split at h
  · apply un_all h; clear h; intro a0 a1 h; apply un_all h; clear h; intro a2 a3 h; exact Eq.mpr (by kernel_rfl) h
  · exact h.elim


end Go.Ev
