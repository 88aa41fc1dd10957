/- The tables of this load, and for each function the meaning that the evaluator gives it, with its proof, part 3. -/
import Derived.Test.YtgnmkfjaimgncaaGreatFn2
set_option maxRecDepth 100000
set_option linter.unusedVariables false
namespace Go.Ev
open Go.Proofs
def Qlo : GM
 | [.agg u0, .agg u1], k => un 8 (fun a0 a1 a2 a3 a4 a5 a6 a7 => un 16 (fun a8 a9 a10 a11 a12 a13 a14 a15 a16 a17 a18 a19 a20 a21 a22 a23 => 
  call Qln [.agg [a0, a1, a2, a3, a4, a5, a6, a7], .fn 195 [.cells [a8, a9, a10, a11, a12, a13, a14, a15, a16, a17, a18, a19, a20, a21, a22, a23]]] fun o0 =>
  rt [.sc] [(atP o0 0)] k) u1) u0
 | _, _ => False
abbrev Qlo_e : Ent := ⟨[148], Qlo⟩
theorem Qlo_w : EntOK Tryz.prog TT Qlo_e := ent_ok tabok (L := [Qln_e]) ⟨Qln_w, trivial⟩ (keep := []) (l := []) Tryz.func148 (by kernel_rfl) (sg := [.one (.sc)]) (by kernel_rfl) trivial fun av k h => by
  unfold Qlo at h; split at h
  · apply un_all h; clear h; intro a0 a1 a2 a3 a4 a5 a6 a7 h; apply un_all h; clear h; intro a8 a9 a10 a11 a12 a13 a14 a15 a16 a17 a18 a19 a20 a21 a22 a23 h; exact Eq.mpr (by kernel_rfl) h
  · exact h.elim
def Qlp : GM
 | [.agg u0, .agg u1], k => un 8 (fun a0 a1 a2 a3 a4 a5 a6 a7 => un 51 (fun a8 a9 a10 a11 a12 a13 a14 a15 a16 a17 a18 a19 a20 a21 a22 a23 a24 a25 a26 a27 a28 a29 a30 a31 a32 a33 a34 a35 a36 a37 a38 a39 a40 a41 a42 a43 a44 a45 a46 a47 a48 a49 a50 a51 a52 a53 a54 a55 a56 a57 a58 => 
  call Qiw [.agg [a8, a9, a10, a11, a12, a13, a14, a15, a16, a17, a18, a19, a20, a21, a22, a23, a24], .agg [(I 0), (I 0), (I 0), (I 0), (I 0), (I 0), (I 0), (I 0), (.list 1 []), (I 0), (.list 1 []), (I 0), (I 0), (.list 1 []), (I 0), (.bool false), (.list 2 [])]] fun o0 =>
  iteP (atP o0 0)
   (call Qlo [.agg [a0, a1, a2, a3, a4, a5, a6, a7], .agg [a25, a26, a27, a28, a29, a30, a31, a32, a33, a34, a35, a36, a37, a38, a39, a40]] fun o1 =>
   iteP (atP o1 0)
    (call Qlo [.agg [a0, a1, a2, a3, a4, a5, a6, a7], .agg [a42, a43, a44, a45, a46, a47, a48, a49, a50, a51, a52, a53, a54, a55, a56, a57]] fun o2 =>
    rt [.sc] [(atP o2 0)] k)
    (rt [.sc] [(.bool false)] k))
   (call Qlo [.agg [a0, a1, a2, a3, a4, a5, a6, a7], .agg [a8, a9, a10, a11, a12, a13, a14, a15, a16, a17, a18, a19, a20, a21, a22, a23]] fun o3 =>
   iteP (atP o3 0)
    (call Qlo [.agg [a0, a1, a2, a3, a4, a5, a6, a7], .agg [a25, a26, a27, a28, a29, a30, a31, a32, a33, a34, a35, a36, a37, a38, a39, a40]] fun o4 =>
    iteP (atP o4 0)
     (call Qlo [.agg [a0, a1, a2, a3, a4, a5, a6, a7], .agg [a42, a43, a44, a45, a46, a47, a48, a49, a50, a51, a52, a53, a54, a55, a56, a57]] fun o5 =>
     rt [.sc] [(atP o5 0)] k)
     (rt [.sc] [(.bool false)] k))
    (rt [.sc] [(.bool false)] k))) u1) u0
 | _, _ => False
abbrev Qlp_e : Ent := ⟨[90], Qlp⟩
theorem Qlp_w : EntOK Tryz.prog TT Qlp_e := ent_ok tabok (L := [Qiw_e, Qlo_e]) ⟨Qiw_w, Qlo_w, trivial⟩ (keep := []) (l := []) Tryz.func90 (by kernel_rfl) (sg := [.one (.sc)]) (by kernel_rfl) trivial fun av k h => by
  unfold Qlp at h; split at h
  · apply un_all h; clear h; intro a0 a1 a2 a3 a4 a5 a6 a7 h; apply un_all h; clear h; intro a8 a9 a10 a11 a12 a13 a14 a15 a16 a17 a18 a19 a20 a21 a22 a23 a24 a25 a26 a27 a28 a29 a30 a31 a32 a33 a34 a35 a36 a37 a38 a39 a40 a41 a42 a43 a44 a45 a46 a47 a48 a49 a50 a51 a52 a53 a54 a55 a56 a57 a58 h; exact Eq.mpr (by kernel_rfl) h
  · exact h.elim
def Qlq : GM
 | [.agg u0, .ro (.cells u1)], k => un 51 (fun a0 a1 a2 a3 a4 a5 a6 a7 a8 a9 a10 a11 a12 a13 a14 a15 a16 a17 a18 a19 a20 a21 a22 a23 a24 a25 a26 a27 a28 a29 a30 a31 a32 a33 a34 a35 a36 a37 a38 a39 a40 a41 a42 a43 a44 a45 a46 a47 a48 a49 a50 => un 8 (fun a51 a52 a53 a54 a55 a56 a57 a58 => 
  call Qlp [.agg [a51, a52, a53, a54, a55, a56, a57, a58], .agg [a0, a1, a2, a3, a4, a5, a6, a7, a8, a9, a10, a11, a12, a13, a14, a15, a16, a17, a18, a19, a20, a21, a22, a23, a24, a25, a26, a27, a28, a29, a30, a31, a32, a33, a34, a35, a36, a37, a38, a39, a40, a41, a42, a43, a44, a45, a46, a47, a48, a49, a50]] fun o0 =>
  unP .not (atP o0 0) fun r1 =>
  rt [.sc] [r1] k) u1) u0
 | _, _ => False
abbrev Qlq_e : Ent := ⟨[89], Qlq⟩
theorem Qlq_w : EntOK Tryz.prog TT Qlq_e := ent_ok tabok (L := [Qlp_e]) ⟨Qlp_w, trivial⟩ (keep := []) (l := []) Tryz.func89 (by kernel_rfl) (sg := [.one (.sc)]) (by kernel_rfl) trivial fun av k h => by
  unfold Qlq at h; split at h
  · apply un_all h; clear h; intro a0 a1 a2 a3 a4 a5 a6 a7 a8 a9 a10 a11 a12 a13 a14 a15 a16 a17 a18 a19 a20 a21 a22 a23 a24 a25 a26 a27 a28 a29 a30 a31 a32 a33 a34 a35 a36 a37 a38 a39 a40 a41 a42 a43 a44 a45 a46 a47 a48 a49 a50 h; apply un_all h; clear h; intro a51 a52 a53 a54 a55 a56 a57 a58 h; exact Eq.mpr (by kernel_rfl) h
  · exact h.elim
def Qlr_r0 (v : List PV) (K : List PV → Prop) (x0k : PV → Prop) (x1k : PV → PV → PV → PV → PV → PV → PV → PV → PV → PV → PV → PV → Prop) : Prop :=
 un 12 (fun v0 v1 v2 v3 v4 v5 v6 v7 v8 v9 v10 v11 =>
  binP .lss v11 v10 fun r0 =>
  iteP r0
   (elemP 51 v0 v11 fun c1 =>
   call Qlq [.agg [(atP c1 0), (atP c1 1), (atP c1 2), (atP c1 3), (atP c1 4), (atP c1 5), (atP c1 6), (atP c1 7), (atP c1 8), (atP c1 9), (atP c1 10), (atP c1 11), (atP c1 12), (atP c1 13), (atP c1 14), (atP c1 15), (atP c1 16), (atP c1 17), (atP c1 18), (atP c1 19), (atP c1 20), (atP c1 21), (atP c1 22), (atP c1 23), (atP c1 24), (atP c1 25), (atP c1 26), (atP c1 27), (atP c1 28), (atP c1 29), (atP c1 30), (atP c1 31), (atP c1 32), (atP c1 33), (atP c1 34), (atP c1 35), (atP c1 36), (atP c1 37), (atP c1 38), (atP c1 39), (atP c1 40), (atP c1 41), (atP c1 42), (atP c1 43), (atP c1 44), (atP c1 45), (atP c1 46), (atP c1 47), (atP c1 48), (atP c1 49), (atP c1 50)], .ro (.cells [v1, v2, v3, v4, v5, v6, v7, v8])] fun o2 =>
   iteP (atP o2 0)
    (x0k v11)
    (binP .add v11 (I 1) fun r3 =>
    K [v0, v1, v2, v3, v4, v5, v6, v7, v8, v9, v10, r3]))
   (x1k v0 v1 v2 v3 v4 v5 v6 v7 v8 v9 v10 v11)) v
def Qlr : GM
 | [.one a0, .fn 89 [.cells u0]], k => un 8 (fun a1 a2 a3 a4 a5 a6 a7 a8 => 
  lenP a0 fun r0 =>
  lp (fun L w => Qlr_r0 w L
   (fun q4 => rt [.sc] [q4] k)
   (fun q5 q6 q7 q8 q9 q10 q11 q12 q13 q14 q15 q16 => rt [.sc] [(I (-1))] k)) [a0, a1, a2, a3, a4, a5, a6, a7, a8, (I 0), r0, (I 0)]) u0
 | _, _ => False
abbrev Qlr_e : Ent := ⟨[146, 89], Qlr⟩
def Qlr_l : List LE := [⟨0, ⟨[(0, .one zB), (1, .one (.fn 89 [.ro (.cells [(.bool false), (.bool false), (.bool false), (.bool false), (.bool false), (.bool false), (.bool false), (.bool false)])])), (4, .one zB), (7, .one zB), (8, .one zB)], [], [], 0, 19⟩, fun K k v => Qlr_r0 v K (fun x0 => k .ret ⟨[(4, .one (.pv x0))], [], [], 1, 19⟩) (fun x0 x1 x2 x3 x4 x5 x6 x7 x8 x9 x10 x11 => k (.exit 0) ⟨[(0, .one (.pv x0)), (1, .one (.fn 89 [.ro (.cells [x1, x2, x3, x4, x5, x6, x7, x8])])), (4, .one (.pv x9)), (7, .one (.pv x10)), (8, .one (.pv x11))], [], [], 0, 19⟩)⟩]
theorem Qlr_s : LEsOK (orac [Qlq_e]) TT (kk [0, 1, 4, 7, 8]) (sumsOf Qlr_l) Tryz.f146 Qlr_l := ⟨fun v K k h => by
  apply un_all h; exact fun v0 v1 v2 v3 v4 v5 v6 v7 v8 v9 v10 v11 h => Eq.mpr (by kernel_rfl) h
  , trivial⟩
theorem Qlr_w : EntOK Tryz.prog TT Qlr_e := ent_ok tabok (L := [Qlq_e]) ⟨Qlq_w, trivial⟩ (keep := (kk [0, 1, 4, 7, 8])) (l := Qlr_l) Tryz.func146 (by kernel_rfl) (sg := [.one (.sc)]) (by kernel_rfl) Qlr_s fun av k h => by
  unfold Qlr at h; split at h
  · apply un_all h; clear h; intro a1 a2 a3 a4 a5 a6 a7 a8 h; exact Eq.mpr (by kernel_rfl) h
  · exact h.elim
def Qls : GM
 | [.one a0, .fn 89 [.cells u0]], k => un 8 (fun a1 a2 a3 a4 a5 a6 a7 a8 => 
  call Qlr [.one a0, .fn 89 [.cells [a1, a2, a3, a4, a5, a6, a7, a8]]] fun o0 =>
  binP .geq (atP o0 0) (I 0) fun r1 =>
  rt [.sc] [r1] k) u0
 | _, _ => False
abbrev Qls_e : Ent := ⟨[88, 89], Qls⟩
theorem Qls_w : EntOK Tryz.prog TT Qls_e := ent_ok tabok (L := [Qlr_e]) ⟨Qlr_w, trivial⟩ (keep := []) (l := []) Tryz.func88 (by kernel_rfl) (sg := [.one (.sc)]) (by kernel_rfl) trivial fun av k h => by
  unfold Qls at h; split at h
  · apply un_all h; clear h; intro a1 a2 a3 a4 a5 a6 a7 a8 h; exact Eq.mpr (by kernel_rfl) h
  · exact h.elim
def Qlt_r0 (v : List PV) (K : List PV → Prop) (x0k : PV → PV → PV → PV → PV → PV → PV → PV → Prop) (x1k : PV → PV → PV → PV → PV → PV → PV → PV → PV → PV → PV → PV → Prop) : Prop :=
 un 12 (fun v0 v1 v2 v3 v4 v5 v6 v7 v8 v9 v10 v11 =>
  binP .lss v3 v2 fun r0 =>
  iteP r0
   (elemP 1 v1 v3 fun c1 =>
   call Qlf [.agg [v4, v5, v6, v7, v8, v9, v10, v11], .one (atP c1 0)] fun o2 =>
   unP .not (atP o2 0) fun r3 =>
   iteP r3
    (x0k v4 v5 v6 v7 v8 v9 v10 v11)
    (binP .add v3 (I 1) fun r4 =>
    K [v0, v1, v2, r4, v4, v5, v6, v7, v8, v9, v10, v11]))
   (x1k v0 v1 v2 v3 v4 v5 v6 v7 v8 v9 v10 v11)) v
def Qlt_r1 (v : List PV) (K : List PV → Prop) (x0k : PV → PV → PV → PV → PV → PV → PV → PV → PV → PV → PV → PV → PV → PV → PV → PV → PV → PV → PV → PV → PV → PV → PV → PV → PV → PV → PV → PV → PV → PV → PV → Prop) (x1k : PV → PV → PV → PV → PV → PV → PV → PV → PV → PV → PV → PV → PV → PV → PV → Prop) : Prop :=
 un 15 (fun v0 v1 v2 v3 v4 v5 v6 v7 v8 v9 v10 v11 v12 v13 v14 =>
  binP .lss v6 v5 fun r0 =>
  iteP r0
   (elemP 23 v4 v6 fun c1 =>
   call Qlf [.agg [v7, v8, v9, v10, v11, v12, v13, v14], .one (atP c1 2)] fun o2 =>
   unP .not (atP o2 0) fun r3 =>
   iteP r3
    (x0k (atP c1 0) (atP c1 1) (atP c1 2) (atP c1 3) (atP c1 4) (atP c1 5) (atP c1 6) (atP c1 7) (atP c1 8) (atP c1 9) (atP c1 10) (atP c1 11) (atP c1 12) (atP c1 13) (atP c1 14) (atP c1 15) (atP c1 16) (atP c1 17) (atP c1 18) (atP c1 19) (atP c1 20) (atP c1 21) (atP c1 22) v7 v8 v9 v10 v11 v12 v13 v14)
    (binP .add v6 (I 1) fun r4 =>
    K [v0, v1, v2, v3, v4, v5, r4, v7, v8, v9, v10, v11, v12, v13, v14]))
   (x1k v0 v1 v2 v3 v4 v5 v6 v7 v8 v9 v10 v11 v12 v13 v14)) v
def Qlt : GM
 | [.agg u0], k => un 8 (fun a0 a1 a2 a3 a4 a5 a6 a7 => 
  lenP a5 fun r0 =>
  lp (fun L w => Qlt_r0 w L
   (fun q5 q6 q7 q8 q9 q10 q11 q12 => rt [.sc] [(.bool false)] k)
   (fun q13 q14 q15 q16 q17 q18 q19 q20 q21 q22 q23 q24 => lenP q24 fun r25 =>
    lp (fun L w => Qlt_r1 w L
     (fun q26 q27 q28 q29 q30 q31 q32 q33 q34 q35 q36 q37 q38 q39 q40 q41 q42 q43 q44 q45 q46 q47 q48 q49 q50 q51 q52 q53 q54 q55 q56 => rt [.sc] [(.bool false)] k)
     (fun q57 q58 q59 q60 q61 q62 q63 q64 q65 q66 q67 q68 q69 q70 q71 => call Qls [.one q70, .fn 89 [.cells [q64, q65, q66, q67, q68, q69, q70, q71]]] fun o72 =>
      unP .not (atP o72 0) fun r73 =>
      rt [.sc] [r73] k)) [q13, q14, q15, q16, q24, r25, (I 0), q17, q18, q19, q20, q21, q22, q23, q24])) [(.bool false), a5, r0, (I 0), a0, a1, a2, a3, a4, a5, a6, a7]) u0
 | _, _ => False
abbrev Qlt_e : Ent := ⟨[34], Qlt⟩
def Qlt_l : List LE := [⟨0, ⟨[(1, .one (.ptr 0 0)), (2, .one zB), (9, .one zB), (10, .one zB), (11, .one zB)], [(0, [zB, zB, zB, zB, zB, zB, zB, zB])], [], 1, 41⟩, fun K k v => Qlt_r0 v K (fun x0 x1 x2 x3 x4 x5 x6 x7 => k .ret ⟨[(2, .one (.kb false))], [(0, [.pv x0, .pv x1, .pv x2, .pv x3, .pv x4, .pv x5, .pv x6, .pv x7])], [], 2, 41⟩) (fun x0 x1 x2 x3 x4 x5 x6 x7 x8 x9 x10 x11 => k (.exit 0) ⟨[(1, .one (.ptr 0 0)), (2, .one (.pv x0)), (9, .one (.pv x1)), (10, .one (.pv x2)), (11, .one (.pv x3))], [(0, [.pv x4, .pv x5, .pv x6, .pv x7, .pv x8, .pv x9, .pv x10, .pv x11])], [], 1, 41⟩)⟩,
  ⟨1, ⟨[(1, .one (.ptr 0 0)), (2, .one zB), (9, .one zB), (10, .one zB), (11, .one zB), (22, .one zB), (23, .one zB), (24, .one zB)], [(0, [zB, zB, zB, zB, zB, zB, zB, zB])], [], 1, 41⟩, fun K k v => Qlt_r1 v K (fun x0 x1 x2 x3 x4 x5 x6 x7 x8 x9 x10 x11 x12 x13 x14 x15 x16 x17 x18 x19 x20 x21 x22 x23 x24 x25 x26 x27 x28 x29 x30 => k .ret ⟨[(2, .one (.kb false))], [(1, [.pv x0, .pv x1, .pv x2, .pv x3, .pv x4, .pv x5, .pv x6, .pv x7, .pv x8, .pv x9, .pv x10, .pv x11, .pv x12, .pv x13, .pv x14, .pv x15, .pv x16, .pv x17, .pv x18, .pv x19, .pv x20, .pv x21, .pv x22]), (1, [.pv (I 0), .pv (.str ⟨#[]⟩), .nil 129 17, zB, .pv (.str ⟨#[]⟩), .pv (I 0), .pv (I 0), .nil 9 1, .pv (I 0), .nil 3 1, .pv (I 0), .pv (.str ⟨#[]⟩), .pv (I 0), .pv (I 0), .nil 9 1, .pv (.str ⟨#[]⟩), .pv (I 0), .pv (I 0), .nil 9 1, .pv (I 0), .nil 3 1, .pv (I 0), .nil 3 1]), (0, [.pv x23, .pv x24, .pv x25, .pv x26, .pv x27, .pv x28, .pv x29, .pv x30])], [], 3, 41⟩) (fun x0 x1 x2 x3 x4 x5 x6 x7 x8 x9 x10 x11 x12 x13 x14 => k (.exit 2) ⟨[(1, .one (.ptr 0 0)), (2, .one (.pv x0)), (9, .one (.pv x1)), (10, .one (.pv x2)), (11, .one (.pv x3)), (22, .one (.pv x4)), (23, .one (.pv x5)), (24, .one (.pv x6))], [(0, [.pv x7, .pv x8, .pv x9, .pv x10, .pv x11, .pv x12, .pv x13, .pv x14])], [], 1, 41⟩)⟩]
theorem Qlt_s : LEsOK (orac [Qlf_e, Qls_e]) TT (kk [1, 2, 9, 10, 11, 22, 23, 24]) (sumsOf Qlt_l) Tryz.f34 Qlt_l := ⟨fun v K k h => by
  apply un_all h; exact fun v0 v1 v2 v3 v4 v5 v6 v7 v8 v9 v10 v11 h => Eq.mpr (by kernel_rfl) h
  , fun v K k h => by
  apply un_all h; exact fun v0 v1 v2 v3 v4 v5 v6 v7 v8 v9 v10 v11 v12 v13 v14 h => Eq.mpr (by kernel_rfl) h
  , trivial⟩
theorem Qlt_w : EntOK Tryz.prog TT Qlt_e := ent_ok tabok (L := [Qlf_e, Qls_e]) ⟨Qlf_w, Qls_w, trivial⟩ (keep := (kk [1, 2, 9, 10, 11, 22, 23, 24])) (l := Qlt_l) Tryz.func34 (by kernel_rfl) (sg := [.one (.sc)]) (by kernel_rfl) Qlt_s fun av k h => by
  unfold Qlt at h; split at h
  · apply un_all h; clear h; intro a0 a1 a2 a3 a4 a5 a6 a7 h; exact Eq.mpr (by kernel_rfl) h
  · exact h.elim
def Qlu : GM
 | [.agg u0], k => un 8 (fun a0 a1 a2 a3 a4 a5 a6 a7 => 
  call Qjx [.agg [a0, a1, a2, a3, a4, a5, a6, a7]] fun o0 =>
  iteP (atP o0 0)
   (call Qkg [.one a3, .fn 28 []] fun o1 =>
   unP .not (atP o1 0) fun r2 =>
   iteP r2
    (call Qks [.one a2, .fn 31 [.cells [a0, a1, a2, a3, a4, a5, a6, a7]]] fun o3 =>
    unP .not (atP o3 0) fun r4 =>
    iteP r4
     (call Qkz [.agg [a0, a1, a2, a3, a4, a5, a6, a7]] fun o5 =>
     iteP (atP o5 0)
      (call Qlt [.agg [a0, a1, a2, a3, a4, a5, a6, a7]] fun o6 =>
      rt [.sc] [(atP o6 0)] k)
      (rt [.sc] [(.bool false)] k))
     (rt [.sc] [(.bool false)] k))
    (rt [.sc] [(.bool false)] k))
   (rt [.sc] [(.bool false)] k)) u0
 | _, _ => False
abbrev Qlu_e : Ent := ⟨[7], Qlu⟩
theorem Qlu_w : EntOK Tryz.prog TT Qlu_e := ent_ok tabok (L := [Qjx_e, Qkg_e, Qks_e, Qkz_e, Qlt_e]) ⟨Qjx_w, Qkg_w, Qks_w, Qkz_w, Qlt_w, trivial⟩ (keep := []) (l := []) Tryz.func7 (by kernel_rfl) (sg := [.one (.sc)]) (by kernel_rfl) trivial fun av k h => by
  unfold Qlu at h; split at h
  · apply un_all h; clear h; intro a0 a1 a2 a3 a4 a5 a6 a7 h; exact Eq.mpr (by kernel_rfl) h
  · exact h.elim
def Qlv_r0 (v : List PV) (K : List PV → Prop) (x0k : Prop) (x1k : PV → PV → PV → PV → Prop) : Prop :=
 un 4 (fun v0 v1 v2 v3 =>
  lenP v0 fun r0 =>
  binP .lss v3 r0 fun r1 =>
  iteP r1
   (elemP 1 v0 v3 fun c2 =>
   elemP 1 v1 v3 fun c3 =>
   binP .neq (atP c2 0) (atP c3 0) fun r4 =>
   iteP r4
    (x0k)
    (binP .add v3 (I 1) fun r5 =>
    K [v0, v1, v2, r5]))
   (x1k v0 v1 v2 v3)) v
def Qlv : GM
 | [.one a0, .one a1], k => 
  lenP a0 fun r0 =>
  lenP a1 fun r1 =>
  binP .neq r0 r1 fun r2 =>
  iteP r2
   (rt [.sc] [(.bool false)] k)
   (lp (fun L w => Qlv_r0 w L
    (rt [.sc] [(.bool false)] k)
    (fun q6 q7 q8 q9 => rt [.sc] [(.bool true)] k)) [a0, a1, (.bool false), (I 0)])
 | _, _ => False
abbrev Qlv_e : Ent := ⟨[149], Qlv⟩
def Qlv_l : List LE := [⟨0, ⟨[(0, .one zB), (1, .one zB), (4, .one zB), (5, .one zB)], [], [], 0, 26⟩, fun K k v => Qlv_r0 v K (k .ret ⟨[(4, .one (.kb false))], [], [], 0, 26⟩) (fun x0 x1 x2 x3 => k (.exit 0) ⟨[(0, .one (.pv x0)), (1, .one (.pv x1)), (4, .one (.pv x2)), (5, .one (.pv x3))], [], [], 0, 26⟩)⟩]
theorem Qlv_s : LEsOK (orac []) TT (kk [0, 1, 4, 5]) (sumsOf Qlv_l) Tryz.f149 Qlv_l := ⟨fun v K k h => by
  apply un_all h; exact fun v0 v1 v2 v3 h => Eq.mpr (by kernel_rfl) h
  , trivial⟩
theorem Qlv_w : EntOK Tryz.prog TT Qlv_e := ent_ok tabok (L := []) trivial (keep := (kk [0, 1, 4, 5])) (l := Qlv_l) Tryz.func149 (by kernel_rfl) (sg := [.one (.sc)]) (by kernel_rfl) Qlv_s fun av k h => by
  unfold Qlv at h; split at h
  · exact Eq.mpr (by kernel_rfl) h
  · exact h.elim
def Qlw : GM
 | [.agg u0, .agg u1], k => un 1 (fun a0 => un 1 (fun a1 => 
  call Qlv [.one a0, .one a1] fun o0 =>
  unP .not (atP o0 0) fun r1 =>
  iteP r1
   (rt [.sc] [(.bool false)] k)
   (rt [.sc] [(.bool true)] k)) u1) u0
 | _, _ => False
abbrev Qlw_e : Ent := ⟨[91], Qlw⟩
theorem Qlw_w : EntOK Tryz.prog TT Qlw_e := ent_ok tabok (L := [Qlv_e]) ⟨Qlv_w, trivial⟩ (keep := []) (l := []) Tryz.func91 (by kernel_rfl) (sg := [.one (.sc)]) (by kernel_rfl) trivial fun av k h => by
  unfold Qlw at h; split at h
  · apply un_all h; clear h; intro a0 h; apply un_all h; clear h; intro a1 h; exact Eq.mpr (by kernel_rfl) h
  · exact h.elim
def Qlx_r0 (v : List PV) (K : List PV → Prop) (x0k : Prop) (x1k : PV → PV → PV → PV → Prop) : Prop :=
 un 4 (fun v0 v1 v2 v3 =>
  lenP v0 fun r0 =>
  binP .lss v3 r0 fun r1 =>
  iteP r1
   (elemP 1 v0 v3 fun c2 =>
   elemP 1 v1 v3 fun c3 =>
   call Qlw [.agg [(atP c2 0)], .agg [(atP c3 0)]] fun o4 =>
   unP .not (atP o4 0) fun r5 =>
   iteP r5
    (x0k)
    (binP .add v3 (I 1) fun r6 =>
    K [v0, v1, v2, r6]))
   (x1k v0 v1 v2 v3)) v
def Qlx : GM
 | [.one a0, .one a1], k => 
  lenP a0 fun r0 =>
  lenP a1 fun r1 =>
  binP .neq r0 r1 fun r2 =>
  iteP r2
   (rt [.sc] [(.bool false)] k)
   (lp (fun L w => Qlx_r0 w L
    (rt [.sc] [(.bool false)] k)
    (fun q7 q8 q9 q10 => rt [.sc] [(.bool true)] k)) [a0, a1, (.bool false), (I 0)])
 | _, _ => False
abbrev Qlx_e : Ent := ⟨[35], Qlx⟩
def Qlx_l : List LE := [⟨0, ⟨[(0, .one zB), (1, .one zB), (4, .one zB), (5, .one zB)], [], [], 0, 27⟩, fun K k v => Qlx_r0 v K (k .ret ⟨[(4, .one (.kb false))], [], [], 1, 27⟩) (fun x0 x1 x2 x3 => k (.exit 0) ⟨[(0, .one (.pv x0)), (1, .one (.pv x1)), (4, .one (.pv x2)), (5, .one (.pv x3))], [], [], 0, 27⟩)⟩]
theorem Qlx_s : LEsOK (orac [Qlw_e]) TT (kk [0, 1, 4, 5]) (sumsOf Qlx_l) Tryz.f35 Qlx_l := ⟨fun v K k h => by
  apply un_all h; exact fun v0 v1 v2 v3 h => Eq.mpr (by kernel_rfl) h
  , trivial⟩
theorem Qlx_w : EntOK Tryz.prog TT Qlx_e := ent_ok tabok (L := [Qlw_e]) ⟨Qlw_w, trivial⟩ (keep := (kk [0, 1, 4, 5])) (l := Qlx_l) Tryz.func35 (by kernel_rfl) (sg := [.one (.sc)]) (by kernel_rfl) Qlx_s fun av k h => by
  unfold Qlx at h; split at h
  · exact Eq.mpr (by kernel_rfl) h
  · exact h.elim
def Qly : GM
 | [.agg u0, .agg u1], k => un 2 (fun a0 a1 => un 2 (fun a2 a3 => 
  call Qlv [.one a0, .one a2] fun o0 =>
  unP .not (atP o0 0) fun r1 =>
  iteP r1
   (rt [.sc] [(.bool false)] k)
   (binP .neq a1 a3 fun r2 =>
   iteP r2
    (rt [.sc] [(.bool false)] k)
    (rt [.sc] [(.bool true)] k))) u1) u0
 | _, _ => False
abbrev Qly_e : Ent := ⟨[289], Qly⟩
theorem Qly_w : EntOK Tryz.prog TT Qly_e := ent_ok tabok (L := [Qlv_e]) ⟨Qlv_w, trivial⟩ (keep := []) (l := []) Tryz.func289 (by kernel_rfl) (sg := [.one (.sc)]) (by kernel_rfl) trivial fun av k h => by
  unfold Qly at h; split at h
  · apply un_all h; clear h; intro a0 a1 h; apply un_all h; clear h; intro a2 a3 h; exact Eq.mpr (by kernel_rfl) h
  · exact h.elim
def Qlz : GM
 | [.agg u0, .agg u1], k => un 16 (fun a0 a1 a2 a3 a4 a5 a6 a7 a8 a9 a10 a11 a12 a13 a14 a15 => un 16 (fun a16 a17 a18 a19 a20 a21 a22 a23 a24 a25 a26 a27 a28 a29 a30 a31 => 
  binP .neq a0 a16 fun r0 =>
  iteP r0
   (rt [.sc] [(.bool false)] k)
   (binP .neq a1 a17 fun r1 =>
   iteP r1
    (rt [.sc] [(.bool false)] k)
    (binP .neq a2 a18 fun r2 =>
    iteP r2
     (rt [.sc] [(.bool false)] k)
     (binP .neq a3 a19 fun r3 =>
     iteP r3
      (rt [.sc] [(.bool false)] k)
      (binP .neq a4 a20 fun r4 =>
      iteP r4
       (rt [.sc] [(.bool false)] k)
       (binP .neq a5 a21 fun r5 =>
       iteP r5
        (rt [.sc] [(.bool false)] k)
        (binP .neq a6 a22 fun r6 =>
        iteP r6
         (rt [.sc] [(.bool false)] k)
         (binP .neq a7 a23 fun r7 =>
         iteP r7
          (rt [.sc] [(.bool false)] k)
          (call Qly [.agg [a8, a9], .agg [a24, a25]] fun o8 =>
          unP .not (atP o8 0) fun r9 =>
          iteP r9
           (rt [.sc] [(.bool false)] k)
           (call Qly [.agg [a10, a11], .agg [a26, a27]] fun o10 =>
           unP .not (atP o10 0) fun r11 =>
           iteP r11
            (rt [.sc] [(.bool false)] k)
            (binP .neq a12 a28 fun r12 =>
            iteP r12
             (rt [.sc] [(.bool false)] k)
             (call Qly [.agg [a13, a14], .agg [a29, a30]] fun o13 =>
             unP .not (atP o13 0) fun r14 =>
             iteP r14
              (rt [.sc] [(.bool false)] k)
              (boolP .neq a15 a31 fun r15 =>
              iteP r15
               (rt [.sc] [(.bool false)] k)
               (rt [.sc] [(.bool true)] k)))))))))))))) u1) u0
 | _, _ => False
abbrev Qlz_e : Ent := ⟨[246], Qlz⟩
theorem Qlz_w : EntOK Tryz.prog TT Qlz_e := ent_ok tabok (L := [Qly_e]) ⟨Qly_w, trivial⟩ (keep := []) (l := []) Tryz.func246 (by kernel_rfl) (sg := [.one (.sc)]) (by kernel_rfl) trivial fun av k h => by
  unfold Qlz at h; split at h
  · apply un_all h; clear h; intro a0 a1 a2 a3 a4 a5 a6 a7 a8 a9 a10 a11 a12 a13 a14 a15 h; apply un_all h; clear h; intro a16 a17 a18 a19 a20 a21 a22 a23 a24 a25 a26 a27 a28 a29 a30 a31 h; exact Eq.mpr (by kernel_rfl) h
  · exact h.elim
def Qma : GM
 | [.agg u0, .agg u1], k => un 2 (fun a0 a1 => un 2 (fun a2 a3 => 
  binP .neq a0 a2 fun r0 =>
  iteP r0
   (rt [.sc] [(.bool false)] k)
   (binP .neq a1 a3 fun r1 =>
   iteP r1
    (rt [.sc] [(.bool false)] k)
    (rt [.sc] [(.bool true)] k))) u1) u0
 | _, _ => False
abbrev Qma_e : Ent := ⟨[290], Qma⟩
theorem Qma_w : EntOK Tryz.prog TT Qma_e := ent_ok tabok (L := []) trivial (keep := []) (l := []) Tryz.func290 (by kernel_rfl) (sg := [.one (.sc)]) (by kernel_rfl) trivial fun av k h => by
  unfold Qma at h; split at h
  · apply un_all h; clear h; intro a0 a1 h; apply un_all h; clear h; intro a2 a3 h; exact Eq.mpr (by kernel_rfl) h
  · exact h.elim
def Qmb_r0 (v : List PV) (K : List PV → Prop) (x0k : Prop) (x1k : PV → PV → PV → PV → Prop) : Prop :=
 un 4 (fun v0 v1 v2 v3 =>
  lenP v0 fun r0 =>
  binP .lss v3 r0 fun r1 =>
  iteP r1
   (elemP 2 v0 v3 fun c2 =>
   elemP 2 v1 v3 fun c3 =>
   call Qma [.agg [(atP c2 0), (atP c2 1)], .agg [(atP c3 0), (atP c3 1)]] fun o4 =>
   unP .not (atP o4 0) fun r5 =>
   iteP r5
    (x0k)
    (binP .add v3 (I 1) fun r6 =>
    K [v0, v1, v2, r6]))
   (x1k v0 v1 v2 v3)) v
def Qmb : GM
 | [.one a0, .one a1], k => 
  lenP a0 fun r0 =>
  lenP a1 fun r1 =>
  binP .neq r0 r1 fun r2 =>
  iteP r2
   (rt [.sc] [(.bool false)] k)
   (lp (fun L w => Qmb_r0 w L
    (rt [.sc] [(.bool false)] k)
    (fun q7 q8 q9 q10 => rt [.sc] [(.bool true)] k)) [a0, a1, (.bool false), (I 0)])
 | _, _ => False
abbrev Qmb_e : Ent := ⟨[247], Qmb⟩
def Qmb_l : List LE := [⟨0, ⟨[(0, .one zB), (1, .one zB), (4, .one zB), (5, .one zB)], [], [], 0, 27⟩, fun K k v => Qmb_r0 v K (k .ret ⟨[(4, .one (.kb false))], [], [], 1, 27⟩) (fun x0 x1 x2 x3 => k (.exit 0) ⟨[(0, .one (.pv x0)), (1, .one (.pv x1)), (4, .one (.pv x2)), (5, .one (.pv x3))], [], [], 0, 27⟩)⟩]
theorem Qmb_s : LEsOK (orac [Qma_e]) TT (kk [0, 1, 4, 5]) (sumsOf Qmb_l) Tryz.f247 Qmb_l := ⟨fun v K k h => by
  apply un_all h; exact fun v0 v1 v2 v3 h => Eq.mpr (by kernel_rfl) h
  , trivial⟩
theorem Qmb_w : EntOK Tryz.prog TT Qmb_e := ent_ok tabok (L := [Qma_e]) ⟨Qma_w, trivial⟩ (keep := (kk [0, 1, 4, 5])) (l := Qmb_l) Tryz.func247 (by kernel_rfl) (sg := [.one (.sc)]) (by kernel_rfl) Qmb_s fun av k h => by
  unfold Qmb at h; split at h
  · exact Eq.mpr (by kernel_rfl) h
  · exact h.elim
def Qmc : GM
 | [.agg u0, .agg u1], k => un 17 (fun a0 a1 a2 a3 a4 a5 a6 a7 a8 a9 a10 a11 a12 a13 a14 a15 a16 => un 17 (fun a17 a18 a19 a20 a21 a22 a23 a24 a25 a26 a27 a28 a29 a30 a31 a32 a33 => 
  call Qlz [.agg [a0, a1, a2, a3, a4, a5, a6, a7, a8, a9, a10, a11, a12, a13, a14, a15], .agg [a17, a18, a19, a20, a21, a22, a23, a24, a25, a26, a27, a28, a29, a30, a31, a32]] fun o0 =>
  unP .not (atP o0 0) fun r1 =>
  iteP r1
   (rt [.sc] [(.bool false)] k)
   (call Qmb [.one a16, .one a33] fun o2 =>
   unP .not (atP o2 0) fun r3 =>
   iteP r3
    (rt [.sc] [(.bool false)] k)
    (rt [.sc] [(.bool true)] k))) u1) u0
 | _, _ => False
abbrev Qmc_e : Ent := ⟨[198], Qmc⟩
theorem Qmc_w : EntOK Tryz.prog TT Qmc_e := ent_ok tabok (L := [Qlz_e, Qmb_e]) ⟨Qlz_w, Qmb_w, trivial⟩ (keep := []) (l := []) Tryz.func198 (by kernel_rfl) (sg := [.one (.sc)]) (by kernel_rfl) trivial fun av k h => by
  unfold Qmc at h; split at h
  · apply un_all h; clear h; intro a0 a1 a2 a3 a4 a5 a6 a7 a8 a9 a10 a11 a12 a13 a14 a15 a16 h; apply un_all h; clear h; intro a17 a18 a19 a20 a21 a22 a23 a24 a25 a26 a27 a28 a29 a30 a31 a32 a33 h; exact Eq.mpr (by kernel_rfl) h
  · exact h.elim
def Qmd_r0 (v : List PV) (K : List PV → Prop) (x0k : Prop) (x1k : PV → PV → PV → PV → Prop) : Prop :=
 un 4 (fun v0 v1 v2 v3 =>
  lenP v0 fun r0 =>
  binP .lss v3 r0 fun r1 =>
  iteP r1
   (elemP 17 v0 v3 fun c2 =>
   elemP 17 v1 v3 fun c3 =>
   call Qmc [.agg [(atP c2 0), (atP c2 1), (atP c2 2), (atP c2 3), (atP c2 4), (atP c2 5), (atP c2 6), (atP c2 7), (atP c2 8), (atP c2 9), (atP c2 10), (atP c2 11), (atP c2 12), (atP c2 13), (atP c2 14), (atP c2 15), (atP c2 16)], .agg [(atP c3 0), (atP c3 1), (atP c3 2), (atP c3 3), (atP c3 4), (atP c3 5), (atP c3 6), (atP c3 7), (atP c3 8), (atP c3 9), (atP c3 10), (atP c3 11), (atP c3 12), (atP c3 13), (atP c3 14), (atP c3 15), (atP c3 16)]] fun o4 =>
   unP .not (atP o4 0) fun r5 =>
   iteP r5
    (x0k)
    (binP .add v3 (I 1) fun r6 =>
    K [v0, v1, v2, r6]))
   (x1k v0 v1 v2 v3)) v
def Qmd : GM
 | [.one a0, .one a1], k => 
  lenP a0 fun r0 =>
  lenP a1 fun r1 =>
  binP .neq r0 r1 fun r2 =>
  iteP r2
   (rt [.sc] [(.bool false)] k)
   (lp (fun L w => Qmd_r0 w L
    (rt [.sc] [(.bool false)] k)
    (fun q7 q8 q9 q10 => rt [.sc] [(.bool true)] k)) [a0, a1, (.bool false), (I 0)])
 | _, _ => False
abbrev Qmd_e : Ent := ⟨[150], Qmd⟩
def Qmd_l : List LE := [⟨0, ⟨[(0, .one zB), (1, .one zB), (4, .one zB), (5, .one zB)], [], [], 0, 27⟩, fun K k v => Qmd_r0 v K (k .ret ⟨[(4, .one (.kb false))], [], [], 1, 27⟩) (fun x0 x1 x2 x3 => k (.exit 0) ⟨[(0, .one (.pv x0)), (1, .one (.pv x1)), (4, .one (.pv x2)), (5, .one (.pv x3))], [], [], 0, 27⟩)⟩]
theorem Qmd_s : LEsOK (orac [Qmc_e]) TT (kk [0, 1, 4, 5]) (sumsOf Qmd_l) Tryz.f150 Qmd_l := ⟨fun v K k h => by
  apply un_all h; exact fun v0 v1 v2 v3 h => Eq.mpr (by kernel_rfl) h
  , trivial⟩
theorem Qmd_w : EntOK Tryz.prog TT Qmd_e := ent_ok tabok (L := [Qmc_e]) ⟨Qmc_w, trivial⟩ (keep := (kk [0, 1, 4, 5])) (l := Qmd_l) Tryz.func150 (by kernel_rfl) (sg := [.one (.sc)]) (by kernel_rfl) Qmd_s fun av k h => by
  unfold Qmd at h; split at h
  · exact Eq.mpr (by kernel_rfl) h
  · exact h.elim
def Qme_r0 (v : List PV) (K : List PV → Prop) (x0k : Prop) (x1k : PV → PV → PV → PV → Prop) : Prop :=
 un 4 (fun v0 v1 v2 v3 =>
  lenP v0 fun r0 =>
  binP .lss v3 r0 fun r1 =>
  iteP r1
   (elemP 1 v0 v3 fun c2 =>
   elemP 1 v1 v3 fun c3 =>
   binP .neq (atP c2 0) (atP c3 0) fun r4 =>
   iteP r4
    (x0k)
    (binP .add v3 (I 1) fun r5 =>
    K [v0, v1, v2, r5]))
   (x1k v0 v1 v2 v3)) v
def Qme : GM
 | [.one a0, .one a1], k => 
  lenP a0 fun r0 =>
  lenP a1 fun r1 =>
  binP .neq r0 r1 fun r2 =>
  iteP r2
   (rt [.sc] [(.bool false)] k)
   (lp (fun L w => Qme_r0 w L
    (rt [.sc] [(.bool false)] k)
    (fun q6 q7 q8 q9 => rt [.sc] [(.bool true)] k)) [a0, a1, (.bool false), (I 0)])
 | _, _ => False
abbrev Qme_e : Ent := ⟨[248], Qme⟩
def Qme_l : List LE := [⟨0, ⟨[(0, .one zB), (1, .one zB), (4, .one zB), (5, .one zB)], [], [], 0, 26⟩, fun K k v => Qme_r0 v K (k .ret ⟨[(4, .one (.kb false))], [], [], 0, 26⟩) (fun x0 x1 x2 x3 => k (.exit 0) ⟨[(0, .one (.pv x0)), (1, .one (.pv x1)), (4, .one (.pv x2)), (5, .one (.pv x3))], [], [], 0, 26⟩)⟩]
theorem Qme_s : LEsOK (orac []) TT (kk [0, 1, 4, 5]) (sumsOf Qme_l) Tryz.f248 Qme_l := ⟨fun v K k h => by
  apply un_all h; exact fun v0 v1 v2 v3 h => Eq.mpr (by kernel_rfl) h
  , trivial⟩
theorem Qme_w : EntOK Tryz.prog TT Qme_e := ent_ok tabok (L := []) trivial (keep := (kk [0, 1, 4, 5])) (l := Qme_l) Tryz.func248 (by kernel_rfl) (sg := [.one (.sc)]) (by kernel_rfl) Qme_s fun av k h => by
  unfold Qme at h; split at h
  · exact Eq.mpr (by kernel_rfl) h
  · exact h.elim
def Qmf : GM
 | [.agg u0, .agg u1], k => un 4 (fun a0 a1 a2 a3 => un 4 (fun a4 a5 a6 a7 => 
  binP .neq a0 a4 fun r0 =>
  iteP r0
   (rt [.sc] [(.bool false)] k)
   (binP .neq a1 a5 fun r1 =>
   iteP r1
    (rt [.sc] [(.bool false)] k)
    (binP .neq a2 a6 fun r2 =>
    iteP r2
     (rt [.sc] [(.bool false)] k)
     (call Qme [.one a3, .one a7] fun o3 =>
     unP .not (atP o3 0) fun r4 =>
     iteP r4
      (rt [.sc] [(.bool false)] k)
      (rt [.sc] [(.bool true)] k))))) u1) u0
 | _, _ => False
abbrev Qmf_e : Ent := ⟨[199], Qmf⟩
theorem Qmf_w : EntOK Tryz.prog TT Qmf_e := ent_ok tabok (L := [Qme_e]) ⟨Qme_w, trivial⟩ (keep := []) (l := []) Tryz.func199 (by kernel_rfl) (sg := [.one (.sc)]) (by kernel_rfl) trivial fun av k h => by
  unfold Qmf at h; split at h
  · apply un_all h; clear h; intro a0 a1 a2 a3 h; apply un_all h; clear h; intro a4 a5 a6 a7 h; exact Eq.mpr (by kernel_rfl) h
  · exact h.elim
def Qmg_r0 (v : List PV) (K : List PV → Prop) (x0k : Prop) (x1k : PV → PV → PV → PV → Prop) : Prop :=
 un 4 (fun v0 v1 v2 v3 =>
  lenP v0 fun r0 =>
  binP .lss v3 r0 fun r1 =>
  iteP r1
   (elemP 4 v0 v3 fun c2 =>
   elemP 4 v1 v3 fun c3 =>
   call Qmf [.agg [(atP c2 0), (atP c2 1), (atP c2 2), (atP c2 3)], .agg [(atP c3 0), (atP c3 1), (atP c3 2), (atP c3 3)]] fun o4 =>
   unP .not (atP o4 0) fun r5 =>
   iteP r5
    (x0k)
    (binP .add v3 (I 1) fun r6 =>
    K [v0, v1, v2, r6]))
   (x1k v0 v1 v2 v3)) v
def Qmg : GM
 | [.one a0, .one a1], k => 
  lenP a0 fun r0 =>
  lenP a1 fun r1 =>
  binP .neq r0 r1 fun r2 =>
  iteP r2
   (rt [.sc] [(.bool false)] k)
   (lp (fun L w => Qmg_r0 w L
    (rt [.sc] [(.bool false)] k)
    (fun q7 q8 q9 q10 => rt [.sc] [(.bool true)] k)) [a0, a1, (.bool false), (I 0)])
 | _, _ => False
abbrev Qmg_e : Ent := ⟨[151], Qmg⟩
def Qmg_l : List LE := [⟨0, ⟨[(0, .one zB), (1, .one zB), (4, .one zB), (5, .one zB)], [], [], 0, 27⟩, fun K k v => Qmg_r0 v K (k .ret ⟨[(4, .one (.kb false))], [], [], 1, 27⟩) (fun x0 x1 x2 x3 => k (.exit 0) ⟨[(0, .one (.pv x0)), (1, .one (.pv x1)), (4, .one (.pv x2)), (5, .one (.pv x3))], [], [], 0, 27⟩)⟩]
theorem Qmg_s : LEsOK (orac [Qmf_e]) TT (kk [0, 1, 4, 5]) (sumsOf Qmg_l) Tryz.f151 Qmg_l := ⟨fun v K k h => by
  apply un_all h; exact fun v0 v1 v2 v3 h => Eq.mpr (by kernel_rfl) h
  , trivial⟩
theorem Qmg_w : EntOK Tryz.prog TT Qmg_e := ent_ok tabok (L := [Qmf_e]) ⟨Qmf_w, trivial⟩ (keep := (kk [0, 1, 4, 5])) (l := Qmg_l) Tryz.func151 (by kernel_rfl) (sg := [.one (.sc)]) (by kernel_rfl) Qmg_s fun av k h => by
  unfold Qmg at h; split at h
  · exact Eq.mpr (by kernel_rfl) h
  · exact h.elim
def Qmh : GM
 | [.agg u0, .agg u1], k => un 2 (fun a0 a1 => un 2 (fun a2 a3 => 
  call Qmd [.one a0, .one a2] fun o0 =>
  unP .not (atP o0 0) fun r1 =>
  iteP r1
   (rt [.sc] [(.bool false)] k)
   (call Qmg [.one a1, .one a3] fun o2 =>
   unP .not (atP o2 0) fun r3 =>
   iteP r3
    (rt [.sc] [(.bool false)] k)
    (rt [.sc] [(.bool true)] k))) u1) u0
 | _, _ => False
abbrev Qmh_e : Ent := ⟨[92], Qmh⟩
theorem Qmh_w : EntOK Tryz.prog TT Qmh_e := ent_ok tabok (L := [Qmd_e, Qmg_e]) ⟨Qmd_w, Qmg_w, trivial⟩ (keep := []) (l := []) Tryz.func92 (by kernel_rfl) (sg := [.one (.sc)]) (by kernel_rfl) trivial fun av k h => by
  unfold Qmh at h; split at h
  · apply un_all h; clear h; intro a0 a1 h; apply un_all h; clear h; intro a2 a3 h; exact Eq.mpr (by kernel_rfl) h
  · exact h.elim
def Qmi_r0 (v : List PV) (K : List PV → Prop) (x0k : Prop) (x1k : PV → PV → PV → PV → Prop) : Prop :=
 un 4 (fun v0 v1 v2 v3 =>
  lenP v0 fun r0 =>
  binP .lss v3 r0 fun r1 =>
  iteP r1
   (elemP 2 v0 v3 fun c2 =>
   elemP 2 v1 v3 fun c3 =>
   call Qmh [.agg [(atP c2 0), (atP c2 1)], .agg [(atP c3 0), (atP c3 1)]] fun o4 =>
   unP .not (atP o4 0) fun r5 =>
   iteP r5
    (x0k)
    (binP .add v3 (I 1) fun r6 =>
    K [v0, v1, v2, r6]))
   (x1k v0 v1 v2 v3)) v
def Qmi : GM
 | [.one a0, .one a1], k => 
  lenP a0 fun r0 =>
  lenP a1 fun r1 =>
  binP .neq r0 r1 fun r2 =>
  iteP r2
   (rt [.sc] [(.bool false)] k)
   (lp (fun L w => Qmi_r0 w L
    (rt [.sc] [(.bool false)] k)
    (fun q7 q8 q9 q10 => rt [.sc] [(.bool true)] k)) [a0, a1, (.bool false), (I 0)])
 | _, _ => False
abbrev Qmi_e : Ent := ⟨[36], Qmi⟩
def Qmi_l : List LE := [⟨0, ⟨[(0, .one zB), (1, .one zB), (4, .one zB), (5, .one zB)], [], [], 0, 27⟩, fun K k v => Qmi_r0 v K (k .ret ⟨[(4, .one (.kb false))], [], [], 1, 27⟩) (fun x0 x1 x2 x3 => k (.exit 0) ⟨[(0, .one (.pv x0)), (1, .one (.pv x1)), (4, .one (.pv x2)), (5, .one (.pv x3))], [], [], 0, 27⟩)⟩]
theorem Qmi_s : LEsOK (orac [Qmh_e]) TT (kk [0, 1, 4, 5]) (sumsOf Qmi_l) Tryz.f36 Qmi_l := ⟨fun v K k h => by
  apply un_all h; exact fun v0 v1 v2 v3 h => Eq.mpr (by kernel_rfl) h
  , trivial⟩
theorem Qmi_w : EntOK Tryz.prog TT Qmi_e := ent_ok tabok (L := [Qmh_e]) ⟨Qmh_w, trivial⟩ (keep := (kk [0, 1, 4, 5])) (l := Qmi_l) Tryz.func36 (by kernel_rfl) (sg := [.one (.sc)]) (by kernel_rfl) Qmi_s fun av k h => by
  unfold Qmi at h; split at h
  · exact Eq.mpr (by kernel_rfl) h
  · exact h.elim
def Qmj : GM
 | [.agg u0, .agg u1], k => un 3 (fun a0 a1 a2 => un 3 (fun a3 a4 a5 => 
  call Qmh [.agg [a0, a1], .agg [a3, a4]] fun o0 =>
  unP .not (atP o0 0) fun r1 =>
  iteP r1
   (rt [.sc] [(.bool false)] k)
   (call Qlv [.one a2, .one a5] fun o2 =>
   unP .not (atP o2 0) fun r3 =>
   iteP r3
    (rt [.sc] [(.bool false)] k)
    (rt [.sc] [(.bool true)] k))) u1) u0
 | _, _ => False
abbrev Qmj_e : Ent := ⟨[93], Qmj⟩
theorem Qmj_w : EntOK Tryz.prog TT Qmj_e := ent_ok tabok (L := [Qmh_e, Qlv_e]) ⟨Qmh_w, Qlv_w, trivial⟩ (keep := []) (l := []) Tryz.func93 (by kernel_rfl) (sg := [.one (.sc)]) (by kernel_rfl) trivial fun av k h => by
  unfold Qmj at h; split at h
  · apply un_all h; clear h; intro a0 a1 a2 h; apply un_all h; clear h; intro a3 a4 a5 h; exact Eq.mpr (by kernel_rfl) h
  · exact h.elim
def Qmk_r0 (v : List PV) (K : List PV → Prop) (x0k : Prop) (x1k : PV → PV → PV → PV → Prop) : Prop :=
 un 4 (fun v0 v1 v2 v3 =>
  lenP v0 fun r0 =>
  binP .lss v3 r0 fun r1 =>
  iteP r1
   (elemP 3 v0 v3 fun c2 =>
   elemP 3 v1 v3 fun c3 =>
   call Qmj [.agg [(atP c2 0), (atP c2 1), (atP c2 2)], .agg [(atP c3 0), (atP c3 1), (atP c3 2)]] fun o4 =>
   unP .not (atP o4 0) fun r5 =>
   iteP r5
    (x0k)
    (binP .add v3 (I 1) fun r6 =>
    K [v0, v1, v2, r6]))
   (x1k v0 v1 v2 v3)) v
def Qmk : GM
 | [.one a0, .one a1], k => 
  lenP a0 fun r0 =>
  lenP a1 fun r1 =>
  binP .neq r0 r1 fun r2 =>
  iteP r2
   (rt [.sc] [(.bool false)] k)
   (lp (fun L w => Qmk_r0 w L
    (rt [.sc] [(.bool false)] k)
    (fun q7 q8 q9 q10 => rt [.sc] [(.bool true)] k)) [a0, a1, (.bool false), (I 0)])
 | _, _ => False
abbrev Qmk_e : Ent := ⟨[37], Qmk⟩
def Qmk_l : List LE := [⟨0, ⟨[(0, .one zB), (1, .one zB), (4, .one zB), (5, .one zB)], [], [], 0, 27⟩, fun K k v => Qmk_r0 v K (k .ret ⟨[(4, .one (.kb false))], [], [], 1, 27⟩) (fun x0 x1 x2 x3 => k (.exit 0) ⟨[(0, .one (.pv x0)), (1, .one (.pv x1)), (4, .one (.pv x2)), (5, .one (.pv x3))], [], [], 0, 27⟩)⟩]
theorem Qmk_s : LEsOK (orac [Qmj_e]) TT (kk [0, 1, 4, 5]) (sumsOf Qmk_l) Tryz.f37 Qmk_l := ⟨fun v K k h => by
  apply un_all h; exact fun v0 v1 v2 v3 h => Eq.mpr (by kernel_rfl) h
  , trivial⟩
theorem Qmk_w : EntOK Tryz.prog TT Qmk_e := ent_ok tabok (L := [Qmj_e]) ⟨Qmj_w, trivial⟩ (keep := (kk [0, 1, 4, 5])) (l := Qmk_l) Tryz.func37 (by kernel_rfl) (sg := [.one (.sc)]) (by kernel_rfl) Qmk_s fun av k h => by
  unfold Qmk at h; split at h
  · exact Eq.mpr (by kernel_rfl) h
  · exact h.elim
def Qml : GM
 | [.agg u0, .agg u1], k => un 2 (fun a0 a1 => un 2 (fun a2 a3 => 
  call Qmi [.one a0, .one a2] fun o0 =>
  unP .not (atP o0 0) fun r1 =>
  iteP r1
   (rt [.sc] [(.bool false)] k)
   (binP .neq a1 a3 fun r2 =>
   iteP r2
    (rt [.sc] [(.bool false)] k)
    (rt [.sc] [(.bool true)] k))) u1) u0
 | _, _ => False
abbrev Qml_e : Ent := ⟨[94], Qml⟩
theorem Qml_w : EntOK Tryz.prog TT Qml_e := ent_ok tabok (L := [Qmi_e]) ⟨Qmi_w, trivial⟩ (keep := []) (l := []) Tryz.func94 (by kernel_rfl) (sg := [.one (.sc)]) (by kernel_rfl) trivial fun av k h => by
  unfold Qml at h; split at h
  · apply un_all h; clear h; intro a0 a1 h; apply un_all h; clear h; intro a2 a3 h; exact Eq.mpr (by kernel_rfl) h
  · exact h.elim
def Qmm_r0 (v : List PV) (K : List PV → Prop) (x0k : Prop) (x1k : PV → PV → PV → PV → Prop) : Prop :=
 un 4 (fun v0 v1 v2 v3 =>
  lenP v0 fun r0 =>
  binP .lss v3 r0 fun r1 =>
  iteP r1
   (elemP 2 v0 v3 fun c2 =>
   elemP 2 v1 v3 fun c3 =>
   call Qml [.agg [(atP c2 0), (atP c2 1)], .agg [(atP c3 0), (atP c3 1)]] fun o4 =>
   unP .not (atP o4 0) fun r5 =>
   iteP r5
    (x0k)
    (binP .add v3 (I 1) fun r6 =>
    K [v0, v1, v2, r6]))
   (x1k v0 v1 v2 v3)) v
def Qmm : GM
 | [.one a0, .one a1], k => 
  lenP a0 fun r0 =>
  lenP a1 fun r1 =>
  binP .neq r0 r1 fun r2 =>
  iteP r2
   (rt [.sc] [(.bool false)] k)
   (lp (fun L w => Qmm_r0 w L
    (rt [.sc] [(.bool false)] k)
    (fun q7 q8 q9 q10 => rt [.sc] [(.bool true)] k)) [a0, a1, (.bool false), (I 0)])
 | _, _ => False
abbrev Qmm_e : Ent := ⟨[38], Qmm⟩
def Qmm_l : List LE := [⟨0, ⟨[(0, .one zB), (1, .one zB), (4, .one zB), (5, .one zB)], [], [], 0, 27⟩, fun K k v => Qmm_r0 v K (k .ret ⟨[(4, .one (.kb false))], [], [], 1, 27⟩) (fun x0 x1 x2 x3 => k (.exit 0) ⟨[(0, .one (.pv x0)), (1, .one (.pv x1)), (4, .one (.pv x2)), (5, .one (.pv x3))], [], [], 0, 27⟩)⟩]
theorem Qmm_s : LEsOK (orac [Qml_e]) TT (kk [0, 1, 4, 5]) (sumsOf Qmm_l) Tryz.f38 Qmm_l := ⟨fun v K k h => by
  apply un_all h; exact fun v0 v1 v2 v3 h => Eq.mpr (by kernel_rfl) h
  , trivial⟩
theorem Qmm_w : EntOK Tryz.prog TT Qmm_e := ent_ok tabok (L := [Qml_e]) ⟨Qml_w, trivial⟩ (keep := (kk [0, 1, 4, 5])) (l := Qmm_l) Tryz.func38 (by kernel_rfl) (sg := [.one (.sc)]) (by kernel_rfl) Qmm_s fun av k h => by
  unfold Qmm at h; split at h
  · exact Eq.mpr (by kernel_rfl) h
  · exact h.elim
def Qmn_r0 (v : List PV) (K : List PV → Prop) (x0k : Prop) (x1k : PV → PV → PV → PV → Prop) : Prop :=
 un 4 (fun v0 v1 v2 v3 =>
  lenP v0 fun r0 =>
  binP .lss v3 r0 fun r1 =>
  iteP r1
   (elemP 1 v0 v3 fun c2 =>
   elemP 1 v1 v3 fun c3 =>
   call Qmd [.one (atP c2 0), .one (atP c3 0)] fun o4 =>
   unP .not (atP o4 0) fun r5 =>
   iteP r5
    (x0k)
    (binP .add v3 (I 1) fun r6 =>
    K [v0, v1, v2, r6]))
   (x1k v0 v1 v2 v3)) v
def Qmn : GM
 | [.one a0, .one a1], k => 
  lenP a0 fun r0 =>
  lenP a1 fun r1 =>
  binP .neq r0 r1 fun r2 =>
  iteP r2
   (rt [.sc] [(.bool false)] k)
   (lp (fun L w => Qmn_r0 w L
    (rt [.sc] [(.bool false)] k)
    (fun q7 q8 q9 q10 => rt [.sc] [(.bool true)] k)) [a0, a1, (.bool false), (I 0)])
 | _, _ => False
abbrev Qmn_e : Ent := ⟨[95], Qmn⟩
def Qmn_l : List LE := [⟨0, ⟨[(0, .one zB), (1, .one zB), (4, .one zB), (5, .one zB)], [], [], 0, 27⟩, fun K k v => Qmn_r0 v K (k .ret ⟨[(4, .one (.kb false))], [], [], 1, 27⟩) (fun x0 x1 x2 x3 => k (.exit 0) ⟨[(0, .one (.pv x0)), (1, .one (.pv x1)), (4, .one (.pv x2)), (5, .one (.pv x3))], [], [], 0, 27⟩)⟩]
theorem Qmn_s : LEsOK (orac [Qmd_e]) TT (kk [0, 1, 4, 5]) (sumsOf Qmn_l) Tryz.f95 Qmn_l := ⟨fun v K k h => by
  apply un_all h; exact fun v0 v1 v2 v3 h => Eq.mpr (by kernel_rfl) h
  , trivial⟩
theorem Qmn_w : EntOK Tryz.prog TT Qmn_e := ent_ok tabok (L := [Qmd_e]) ⟨Qmd_w, trivial⟩ (keep := (kk [0, 1, 4, 5])) (l := Qmn_l) Tryz.func95 (by kernel_rfl) (sg := [.one (.sc)]) (by kernel_rfl) Qmn_s fun av k h => by
  unfold Qmn at h; split at h
  · exact Eq.mpr (by kernel_rfl) h
  · exact h.elim
def Qmo : GM
 | [.agg u0, .agg u1], k => un 51 (fun a0 a1 a2 a3 a4 a5 a6 a7 a8 a9 a10 a11 a12 a13 a14 a15 a16 a17 a18 a19 a20 a21 a22 a23 a24 a25 a26 a27 a28 a29 a30 a31 a32 a33 a34 a35 a36 a37 a38 a39 a40 a41 a42 a43 a44 a45 a46 a47 a48 a49 a50 => un 51 (fun a51 a52 a53 a54 a55 a56 a57 a58 a59 a60 a61 a62 a63 a64 a65 a66 a67 a68 a69 a70 a71 a72 a73 a74 a75 a76 a77 a78 a79 a80 a81 a82 a83 a84 a85 a86 a87 a88 a89 a90 a91 a92 a93 a94 a95 a96 a97 a98 a99 a100 a101 => 
  call Qmc [.agg [a0, a1, a2, a3, a4, a5, a6, a7, a8, a9, a10, a11, a12, a13, a14, a15, a16], .agg [a51, a52, a53, a54, a55, a56, a57, a58, a59, a60, a61, a62, a63, a64, a65, a66, a67]] fun o0 =>
  unP .not (atP o0 0) fun r1 =>
  iteP r1
   (rt [.sc] [(.bool false)] k)
   (call Qmc [.agg [a17, a18, a19, a20, a21, a22, a23, a24, a25, a26, a27, a28, a29, a30, a31, a32, a33], .agg [a68, a69, a70, a71, a72, a73, a74, a75, a76, a77, a78, a79, a80, a81, a82, a83, a84]] fun o2 =>
   unP .not (atP o2 0) fun r3 =>
   iteP r3
    (rt [.sc] [(.bool false)] k)
    (call Qmc [.agg [a34, a35, a36, a37, a38, a39, a40, a41, a42, a43, a44, a45, a46, a47, a48, a49, a50], .agg [a85, a86, a87, a88, a89, a90, a91, a92, a93, a94, a95, a96, a97, a98, a99, a100, a101]] fun o4 =>
    unP .not (atP o4 0) fun r5 =>
    iteP r5
     (rt [.sc] [(.bool false)] k)
     (rt [.sc] [(.bool true)] k)))) u1) u0
 | _, _ => False
abbrev Qmo_e : Ent := ⟨[152], Qmo⟩
theorem Qmo_w : EntOK Tryz.prog TT Qmo_e := ent_ok tabok (L := [Qmc_e]) ⟨Qmc_w, trivial⟩ (keep := []) (l := []) Tryz.func152 (by kernel_rfl) (sg := [.one (.sc)]) (by kernel_rfl) trivial fun av k h => by
  unfold Qmo at h; split at h
  · apply un_all h; clear h; intro a0 a1 a2 a3 a4 a5 a6 a7 a8 a9 a10 a11 a12 a13 a14 a15 a16 a17 a18 a19 a20 a21 a22 a23 a24 a25 a26 a27 a28 a29 a30 a31 a32 a33 a34 a35 a36 a37 a38 a39 a40 a41 a42 a43 a44 a45 a46 a47 a48 a49 a50 h; apply un_all h; clear h; intro a51 a52 a53 a54 a55 a56 a57 a58 a59 a60 a61 a62 a63 a64 a65 a66 a67 a68 a69 a70 a71 a72 a73 a74 a75 a76 a77 a78 a79 a80 a81 a82 a83 a84 a85 a86 a87 a88 a89 a90 a91 a92 a93 a94 a95 a96 a97 a98 a99 a100 a101 h; exact Eq.mpr (by kernel_rfl) h
  · exact h.elim
def Qmp_r0 (v : List PV) (K : List PV → Prop) (x0k : Prop) (x1k : PV → PV → PV → PV → Prop) : Prop :=
 un 4 (fun v0 v1 v2 v3 =>
  lenP v0 fun r0 =>
  binP .lss v3 r0 fun r1 =>
  iteP r1
   (elemP 51 v0 v3 fun c2 =>
   elemP 51 v1 v3 fun c3 =>
   call Qmo [.agg [(atP c2 0), (atP c2 1), (atP c2 2), (atP c2 3), (atP c2 4), (atP c2 5), (atP c2 6), (atP c2 7), (atP c2 8), (atP c2 9), (atP c2 10), (atP c2 11), (atP c2 12), (atP c2 13), (atP c2 14), (atP c2 15), (atP c2 16), (atP c2 17), (atP c2 18), (atP c2 19), (atP c2 20), (atP c2 21), (atP c2 22), (atP c2 23), (atP c2 24), (atP c2 25), (atP c2 26), (atP c2 27), (atP c2 28), (atP c2 29), (atP c2 30), (atP c2 31), (atP c2 32), (atP c2 33), (atP c2 34), (atP c2 35), (atP c2 36), (atP c2 37), (atP c2 38), (atP c2 39), (atP c2 40), (atP c2 41), (atP c2 42), (atP c2 43), (atP c2 44), (atP c2 45), (atP c2 46), (atP c2 47), (atP c2 48), (atP c2 49), (atP c2 50)], .agg [(atP c3 0), (atP c3 1), (atP c3 2), (atP c3 3), (atP c3 4), (atP c3 5), (atP c3 6), (atP c3 7), (atP c3 8), (atP c3 9), (atP c3 10), (atP c3 11), (atP c3 12), (atP c3 13), (atP c3 14), (atP c3 15), (atP c3 16), (atP c3 17), (atP c3 18), (atP c3 19), (atP c3 20), (atP c3 21), (atP c3 22), (atP c3 23), (atP c3 24), (atP c3 25), (atP c3 26), (atP c3 27), (atP c3 28), (atP c3 29), (atP c3 30), (atP c3 31), (atP c3 32), (atP c3 33), (atP c3 34), (atP c3 35), (atP c3 36), (atP c3 37), (atP c3 38), (atP c3 39), (atP c3 40), (atP c3 41), (atP c3 42), (atP c3 43), (atP c3 44), (atP c3 45), (atP c3 46), (atP c3 47), (atP c3 48), (atP c3 49), (atP c3 50)]] fun o4 =>
   unP .not (atP o4 0) fun r5 =>
   iteP r5
    (x0k)
    (binP .add v3 (I 1) fun r6 =>
    K [v0, v1, v2, r6]))
   (x1k v0 v1 v2 v3)) v
def Qmp : GM
 | [.one a0, .one a1], k => 
  lenP a0 fun r0 =>
  lenP a1 fun r1 =>
  binP .neq r0 r1 fun r2 =>
  iteP r2
   (rt [.sc] [(.bool false)] k)
   (lp (fun L w => Qmp_r0 w L
    (rt [.sc] [(.bool false)] k)
    (fun q7 q8 q9 q10 => rt [.sc] [(.bool true)] k)) [a0, a1, (.bool false), (I 0)])
 | _, _ => False
abbrev Qmp_e : Ent := ⟨[96], Qmp⟩
def Qmp_l : List LE := [⟨0, ⟨[(0, .one zB), (1, .one zB), (4, .one zB), (5, .one zB)], [], [], 0, 27⟩, fun K k v => Qmp_r0 v K (k .ret ⟨[(4, .one (.kb false))], [], [], 1, 27⟩) (fun x0 x1 x2 x3 => k (.exit 0) ⟨[(0, .one (.pv x0)), (1, .one (.pv x1)), (4, .one (.pv x2)), (5, .one (.pv x3))], [], [], 0, 27⟩)⟩]
theorem Qmp_s : LEsOK (orac [Qmo_e]) TT (kk [0, 1, 4, 5]) (sumsOf Qmp_l) Tryz.f96 Qmp_l := ⟨fun v K k h => by
  apply un_all h; exact fun v0 v1 v2 v3 h => Eq.mpr (by kernel_rfl) h
  , trivial⟩
theorem Qmp_w : EntOK Tryz.prog TT Qmp_e := ent_ok tabok (L := [Qmo_e]) ⟨Qmo_w, trivial⟩ (keep := (kk [0, 1, 4, 5])) (l := Qmp_l) Tryz.func96 (by kernel_rfl) (sg := [.one (.sc)]) (by kernel_rfl) Qmp_s fun av k h => by
  unfold Qmp at h; split at h
  · exact Eq.mpr (by kernel_rfl) h
  · exact h.elim
def Qmq : GM
 | [.agg u0, .agg u1], k => un 2 (fun a0 a1 => un 2 (fun a2 a3 => 
  call Qmn [.one a0, .one a2] fun o0 =>
  unP .not (atP o0 0) fun r1 =>
  iteP r1
   (rt [.sc] [(.bool false)] k)
   (call Qmp [.one a1, .one a3] fun o2 =>
   unP .not (atP o2 0) fun r3 =>
   iteP r3
    (rt [.sc] [(.bool false)] k)
    (rt [.sc] [(.bool true)] k))) u1) u0
 | _, _ => False
abbrev Qmq_e : Ent := ⟨[39], Qmq⟩
theorem Qmq_w : EntOK Tryz.prog TT Qmq_e := ent_ok tabok (L := [Qmn_e, Qmp_e]) ⟨Qmn_w, Qmp_w, trivial⟩ (keep := []) (l := []) Tryz.func39 (by kernel_rfl) (sg := [.one (.sc)]) (by kernel_rfl) trivial fun av k h => by
  unfold Qmq at h; split at h
  · apply un_all h; clear h; intro a0 a1 h; apply un_all h; clear h; intro a2 a3 h; exact Eq.mpr (by kernel_rfl) h
  · exact h.elim
def Qmr : GM
 | [.agg u0, .agg u1], k => un 2 (fun a0 a1 => un 2 (fun a2 a3 => 
  binP .neq a0 a2 fun r0 =>
  iteP r0
   (rt [.sc] [(.bool false)] k)
   (call Qlv [.one a1, .one a3] fun o1 =>
   unP .not (atP o1 0) fun r2 =>
   iteP r2
    (rt [.sc] [(.bool false)] k)
    (rt [.sc] [(.bool true)] k))) u1) u0
 | _, _ => False
abbrev Qmr_e : Ent := ⟨[249], Qmr⟩
theorem Qmr_w : EntOK Tryz.prog TT Qmr_e := ent_ok tabok (L := [Qlv_e]) ⟨Qlv_w, trivial⟩ (keep := []) (l := []) Tryz.func249 (by kernel_rfl) (sg := [.one (.sc)]) (by kernel_rfl) trivial fun av k h => by
  unfold Qmr at h; split at h
  · apply un_all h; clear h; intro a0 a1 h; apply un_all h; clear h; intro a2 a3 h; exact Eq.mpr (by kernel_rfl) h
  · exact h.elim
def Qms : GM
 | [.agg u0, .agg u1], k => un 13 (fun a0 a1 a2 a3 a4 a5 a6 a7 a8 a9 a10 a11 a12 => un 13 (fun a13 a14 a15 a16 a17 a18 a19 a20 a21 a22 a23 a24 a25 => 
  binP .neq a0 a13 fun r0 =>
  iteP r0
   (rt [.sc] [(.bool false)] k)
   (call Qmf [.agg [a1, a2, a3, a4], .agg [a14, a15, a16, a17]] fun o1 =>
   unP .not (atP o1 0) fun r2 =>
   iteP r2
    (rt [.sc] [(.bool false)] k)
    (call Qmf [.agg [a5, a6, a7, a8], .agg [a18, a19, a20, a21]] fun o3 =>
    unP .not (atP o3 0) fun r4 =>
    iteP r4
     (rt [.sc] [(.bool false)] k)
     (call Qmr [.agg [a9, a10], .agg [a22, a23]] fun o5 =>
     unP .not (atP o5 0) fun r6 =>
     iteP r6
      (rt [.sc] [(.bool false)] k)
      (call Qmr [.agg [a11, a12], .agg [a24, a25]] fun o7 =>
      unP .not (atP o7 0) fun r8 =>
      iteP r8
       (rt [.sc] [(.bool false)] k)
       (rt [.sc] [(.bool true)] k)))))) u1) u0
 | _, _ => False
abbrev Qms_e : Ent := ⟨[250], Qms⟩
theorem Qms_w : EntOK Tryz.prog TT Qms_e := ent_ok tabok (L := [Qmf_e, Qmr_e]) ⟨Qmf_w, Qmr_w, trivial⟩ (keep := []) (l := []) Tryz.func250 (by kernel_rfl) (sg := [.one (.sc)]) (by kernel_rfl) trivial fun av k h => by
  unfold Qms at h; split at h
  · apply un_all h; clear h; intro a0 a1 a2 a3 a4 a5 a6 a7 a8 a9 a10 a11 a12 h; apply un_all h; clear h; intro a13 a14 a15 a16 a17 a18 a19 a20 a21 a22 a23 a24 a25 h; exact Eq.mpr (by kernel_rfl) h
  · exact h.elim
def Qmt : GM
 | [.agg u0, .agg u1], k => un 21 (fun a0 a1 a2 a3 a4 a5 a6 a7 a8 a9 a10 a11 a12 a13 a14 a15 a16 a17 a18 a19 a20 => un 21 (fun a21 a22 a23 a24 a25 a26 a27 a28 a29 a30 a31 a32 a33 a34 a35 a36 a37 a38 a39 a40 a41 => 
  call Qmd [.one a0, .one a21] fun o0 =>
  unP .not (atP o0 0) fun r1 =>
  iteP r1
   (rt [.sc] [(.bool false)] k)
   (boolP .neq a1 a22 fun r2 =>
   iteP r2
    (rt [.sc] [(.bool false)] k)
    (call Qmf [.agg [a2, a3, a4, a5], .agg [a23, a24, a25, a26]] fun o3 =>
    unP .not (atP o3 0) fun r4 =>
    iteP r4
     (rt [.sc] [(.bool false)] k)
     (call Qmr [.agg [a6, a7], .agg [a27, a28]] fun o5 =>
     unP .not (atP o5 0) fun r6 =>
     iteP r6
      (rt [.sc] [(.bool false)] k)
      (call Qms [.agg [a8, a9, a10, a11, a12, a13, a14, a15, a16, a17, a18, a19, a20], .agg [a29, a30, a31, a32, a33, a34, a35, a36, a37, a38, a39, a40, a41]] fun o7 =>
      unP .not (atP o7 0) fun r8 =>
      iteP r8
       (rt [.sc] [(.bool false)] k)
       (rt [.sc] [(.bool true)] k)))))) u1) u0
 | _, _ => False
abbrev Qmt_e : Ent := ⟨[200], Qmt⟩
theorem Qmt_w : EntOK Tryz.prog TT Qmt_e := ent_ok tabok (L := [Qmd_e, Qmf_e, Qmr_e, Qms_e]) ⟨Qmd_w, Qmf_w, Qmr_w, Qms_w, trivial⟩ (keep := []) (l := []) Tryz.func200 (by kernel_rfl) (sg := [.one (.sc)]) (by kernel_rfl) trivial fun av k h => by
  unfold Qmt at h; split at h
  · apply un_all h; clear h; intro a0 a1 a2 a3 a4 a5 a6 a7 a8 a9 a10 a11 a12 a13 a14 a15 a16 a17 a18 a19 a20 h; apply un_all h; clear h; intro a21 a22 a23 a24 a25 a26 a27 a28 a29 a30 a31 a32 a33 a34 a35 a36 a37 a38 a39 a40 a41 h; exact Eq.mpr (by kernel_rfl) h
  · exact h.elim
def Qmu : GM
 | [.agg u0, .agg u1], k => un 23 (fun a0 a1 a2 a3 a4 a5 a6 a7 a8 a9 a10 a11 a12 a13 a14 a15 a16 a17 a18 a19 a20 a21 a22 => un 23 (fun a23 a24 a25 a26 a27 a28 a29 a30 a31 a32 a33 a34 a35 a36 a37 a38 a39 a40 a41 a42 a43 a44 a45 => 
  binP .neq a0 a23 fun r0 =>
  iteP r0
   (rt [.sc] [(.bool false)] k)
   (binP .neq a1 a24 fun r1 =>
   iteP r1
    (rt [.sc] [(.bool false)] k)
    (call Qmt [.agg [a2, a3, a4, a5, a6, a7, a8, a9, a10, a11, a12, a13, a14, a15, a16, a17, a18, a19, a20, a21, a22], .agg [a25, a26, a27, a28, a29, a30, a31, a32, a33, a34, a35, a36, a37, a38, a39, a40, a41, a42, a43, a44, a45]] fun o2 =>
    unP .not (atP o2 0) fun r3 =>
    iteP r3
     (rt [.sc] [(.bool false)] k)
     (rt [.sc] [(.bool true)] k)))) u1) u0
 | _, _ => False
abbrev Qmu_e : Ent := ⟨[153], Qmu⟩
theorem Qmu_w : EntOK Tryz.prog TT Qmu_e := ent_ok tabok (L := [Qmt_e]) ⟨Qmt_w, trivial⟩ (keep := []) (l := []) Tryz.func153 (by kernel_rfl) (sg := [.one (.sc)]) (by kernel_rfl) trivial fun av k h => by
  unfold Qmu at h; split at h
  · apply un_all h; clear h; intro a0 a1 a2 a3 a4 a5 a6 a7 a8 a9 a10 a11 a12 a13 a14 a15 a16 a17 a18 a19 a20 a21 a22 h; apply un_all h; clear h; intro a23 a24 a25 a26 a27 a28 a29 a30 a31 a32 a33 a34 a35 a36 a37 a38 a39 a40 a41 a42 a43 a44 a45 h; exact Eq.mpr (by kernel_rfl) h
  · exact h.elim
def Qmv_r0 (v : List PV) (K : List PV → Prop) (x0k : Prop) (x1k : PV → PV → PV → PV → Prop) : Prop :=
 un 4 (fun v0 v1 v2 v3 =>
  lenP v0 fun r0 =>
  binP .lss v3 r0 fun r1 =>
  iteP r1
   (elemP 23 v0 v3 fun c2 =>
   elemP 23 v1 v3 fun c3 =>
   call Qmu [.agg [(atP c2 0), (atP c2 1), (atP c2 2), (atP c2 3), (atP c2 4), (atP c2 5), (atP c2 6), (atP c2 7), (atP c2 8), (atP c2 9), (atP c2 10), (atP c2 11), (atP c2 12), (atP c2 13), (atP c2 14), (atP c2 15), (atP c2 16), (atP c2 17), (atP c2 18), (atP c2 19), (atP c2 20), (atP c2 21), (atP c2 22)], .agg [(atP c3 0), (atP c3 1), (atP c3 2), (atP c3 3), (atP c3 4), (atP c3 5), (atP c3 6), (atP c3 7), (atP c3 8), (atP c3 9), (atP c3 10), (atP c3 11), (atP c3 12), (atP c3 13), (atP c3 14), (atP c3 15), (atP c3 16), (atP c3 17), (atP c3 18), (atP c3 19), (atP c3 20), (atP c3 21), (atP c3 22)]] fun o4 =>
   unP .not (atP o4 0) fun r5 =>
   iteP r5
    (x0k)
    (binP .add v3 (I 1) fun r6 =>
    K [v0, v1, v2, r6]))
   (x1k v0 v1 v2 v3)) v
def Qmv : GM
 | [.one a0, .one a1], k => 
  lenP a0 fun r0 =>
  lenP a1 fun r1 =>
  binP .neq r0 r1 fun r2 =>
  iteP r2
   (rt [.sc] [(.bool false)] k)
   (lp (fun L w => Qmv_r0 w L
    (rt [.sc] [(.bool false)] k)
    (fun q7 q8 q9 q10 => rt [.sc] [(.bool true)] k)) [a0, a1, (.bool false), (I 0)])
 | _, _ => False
abbrev Qmv_e : Ent := ⟨[97], Qmv⟩
def Qmv_l : List LE := [⟨0, ⟨[(0, .one zB), (1, .one zB), (4, .one zB), (5, .one zB)], [], [], 0, 27⟩, fun K k v => Qmv_r0 v K (k .ret ⟨[(4, .one (.kb false))], [], [], 1, 27⟩) (fun x0 x1 x2 x3 => k (.exit 0) ⟨[(0, .one (.pv x0)), (1, .one (.pv x1)), (4, .one (.pv x2)), (5, .one (.pv x3))], [], [], 0, 27⟩)⟩]
theorem Qmv_s : LEsOK (orac [Qmu_e]) TT (kk [0, 1, 4, 5]) (sumsOf Qmv_l) Tryz.f97 Qmv_l := ⟨fun v K k h => by
  apply un_all h; exact fun v0 v1 v2 v3 h => Eq.mpr (by kernel_rfl) h
  , trivial⟩
theorem Qmv_w : EntOK Tryz.prog TT Qmv_e := ent_ok tabok (L := [Qmu_e]) ⟨Qmu_w, trivial⟩ (keep := (kk [0, 1, 4, 5])) (l := Qmv_l) Tryz.func97 (by kernel_rfl) (sg := [.one (.sc)]) (by kernel_rfl) Qmv_s fun av k h => by
  unfold Qmv at h; split at h
  · exact Eq.mpr (by kernel_rfl) h
  · exact h.elim
def Qmw : GM
 | [.agg u0, .agg u1], k => un 1 (fun a0 => un 1 (fun a1 => 
  call Qmv [.one a0, .one a1] fun o0 =>
  unP .not (atP o0 0) fun r1 =>
  iteP r1
   (rt [.sc] [(.bool false)] k)
   (rt [.sc] [(.bool true)] k)) u1) u0
 | _, _ => False
abbrev Qmw_e : Ent := ⟨[40], Qmw⟩
theorem Qmw_w : EntOK Tryz.prog TT Qmw_e := ent_ok tabok (L := [Qmv_e]) ⟨Qmv_w, trivial⟩ (keep := []) (l := []) Tryz.func40 (by kernel_rfl) (sg := [.one (.sc)]) (by kernel_rfl) trivial fun av k h => by
  unfold Qmw at h; split at h
  · apply un_all h; clear h; intro a0 h; apply un_all h; clear h; intro a1 h; exact Eq.mpr (by kernel_rfl) h
  · exact h.elim
def Qmx : GM
 | [.agg u0, .agg u1], k => un 8 (fun a0 a1 a2 a3 a4 a5 a6 a7 => un 8 (fun a8 a9 a10 a11 a12 a13 a14 a15 => 
  binP .neq a0 a8 fun r0 =>
  iteP r0
   (rt [.sc] [(.bool false)] k)
   (call Qlx [.one a1, .one a9] fun o1 =>
   unP .not (atP o1 0) fun r2 =>
   iteP r2
    (rt [.sc] [(.bool false)] k)
    (call Qmi [.one a2, .one a10] fun o3 =>
    unP .not (atP o3 0) fun r4 =>
    iteP r4
     (rt [.sc] [(.bool false)] k)
     (call Qmk [.one a3, .one a11] fun o5 =>
     unP .not (atP o5 0) fun r6 =>
     iteP r6
      (rt [.sc] [(.bool false)] k)
      (call Qmm [.one a4, .one a12] fun o7 =>
      unP .not (atP o7 0) fun r8 =>
      iteP r8
       (rt [.sc] [(.bool false)] k)
       (call Qmq [.agg [a5, a6], .agg [a13, a14]] fun o9 =>
       unP .not (atP o9 0) fun r10 =>
       iteP r10
        (rt [.sc] [(.bool false)] k)
        (call Qmw [.agg [a7], .agg [a15]] fun o11 =>
        unP .not (atP o11 0) fun r12 =>
        iteP r12
         (rt [.sc] [(.bool false)] k)
         (rt [.sc] [(.bool true)] k)))))))) u1) u0
 | _, _ => False
abbrev Qmx_e : Ent := ⟨[8], Qmx⟩
theorem Qmx_w : EntOK Tryz.prog TT Qmx_e := ent_ok tabok (L := [Qlx_e, Qmi_e, Qmk_e, Qmm_e, Qmq_e, Qmw_e]) ⟨Qlx_w, Qmi_w, Qmk_w, Qmm_w, Qmq_w, Qmw_w, trivial⟩ (keep := []) (l := []) Tryz.func8 (by kernel_rfl) (sg := [.one (.sc)]) (by kernel_rfl) trivial fun av k h => by
  unfold Qmx at h; split at h
  · apply un_all h; clear h; intro a0 a1 a2 a3 a4 a5 a6 a7 h; apply un_all h; clear h; intro a8 a9 a10 a11 a12 a13 a14 a15 h; exact Eq.mpr (by kernel_rfl) h
  · exact h.elim
def laws_FnExactAuditWorld : GM
 | [.agg u0], k => un 8 (fun a0 a1 a2 a3 a4 a5 a6 a7 => 
  call Qbb [.agg [a0, a1, a2, a3, a4, a5, a6, a7], .one (I 1048576)] fun o0 =>
  binP .lss (atP o0 0) (I 0) fun r1 =>
  iteP r1
   (rt [.sc] [(.bool true)] k)
   (call Qce [.agg [a0, a1, a2, a3, a4, a5, a6, a7]] fun o2 =>
   call Qfi [.agg [(atP o2 0), (atP o2 1), (atP o2 2), (atP o2 3), (atP o2 4), (atP o2 5), (atP o2 6), (atP o2 7)]] fun o3 =>
   call Qce [.agg [a0, a1, a2, a3, a4, a5, a6, a7]] fun o4 =>
   call Qlu [.agg [(atP o4 0), (atP o4 1), (atP o4 2), (atP o4 3), (atP o4 4), (atP o4 5), (atP o4 6), (atP o4 7)]] fun o5 =>
   boolP .neq (atP o5 0) (atP o3 0) fun r6 =>
   iteP r6
    (rt [.sc] [(.bool false)] k)
    (call Qce [.agg [a0, a1, a2, a3, a4, a5, a6, a7]] fun o7 =>
    call Qmx [.agg [(atP o4 0), (atP o4 1), (atP o4 2), (atP o4 3), (atP o4 4), (atP o4 5), (atP o4 6), (atP o4 7)], .agg [(atP o7 0), (atP o7 1), (atP o7 2), (atP o7 3), (atP o7 4), (atP o7 5), (atP o7 6), (atP o7 7)]] fun o8 =>
    unP .not (atP o8 0) fun r9 =>
    iteP r9
     (rt [.sc] [(.bool false)] k)
     (rt [.sc] [(.bool true)] k)))) u0
 | _, _ => False
abbrev laws_FnExactAuditWorld_e : Ent := ⟨[3], laws_FnExactAuditWorld⟩
theorem laws_FnExactAuditWorld_w : EntOK Tryz.prog TT laws_FnExactAuditWorld_e := ent_ok tabok (L := [Qbb_e, Qce_e, Qfi_e, Qlu_e, Qmx_e]) ⟨Qbb_w, Qce_w, Qfi_w, Qlu_w, Qmx_w, trivial⟩ (keep := []) (l := []) Tryz.func3 (by kernel_rfl) (sg := [.one (.sc)]) (by kernel_rfl) trivial fun av k h => by
  unfold laws_FnExactAuditWorld at h; split at h
  · apply un_all h; clear h; intro a0 a1 a2 a3 a4 a5 a6 a7 h; exact Eq.mpr (by kernel_rfl) h
  · exact h.elim
end Go.Ev
