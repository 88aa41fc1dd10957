/- The tables of this load, and for each function the meaning that the evaluator gives it, with its proof, part 2. -/
import Derived.Test.YtgnmkfjaimgncaaGreatFn1
set_option maxRecDepth 100000
set_option linter.unusedVariables false
namespace Go.Ev
open Go.Proofs
def Qff_r0 (v : List PV) (K : List PV → Prop) (x0k : PV → PV → PV → PV → PV → PV → PV → PV → Prop) (x1k : PV → PV → PV → PV → PV → PV → PV → PV → PV → PV → PV → Prop) : Prop :=
 un 11 (fun v0 v1 v2 v3 v4 v5 v6 v7 v8 v9 v10 =>
  lenP v6 fun r0 =>
  binP .lss v2 r0 fun r1 =>
  iteP r1
   (elemP 3 v6 v2 fun c2 =>
   call Qef [.one v0, .one (atP c2 0)] fun o3 =>
   iteP (atP o3 0)
    (x0k v3 v4 v5 v6 v7 v8 v9 v10)
    (binP .add v2 (I 1) fun r4 =>
    K [v0, v1, r4, v3, v4, v5, v6, v7, v8, v9, v10]))
   (x1k v0 v1 v2 v3 v4 v5 v6 v7 v8 v9 v10)) v
def Qff : GM
 | [.agg u0, .one a8], k => un 8 (fun a0 a1 a2 a3 a4 a5 a6 a7 => 
  lp (fun L w => Qff_r0 w L
   (fun q5 q6 q7 q8 q9 q10 q11 q12 => rt [.sc] [(.bool true)] k)
   (fun q13 q14 q15 q16 q17 q18 q19 q20 q21 q22 q23 => rt [.sc] [(.bool false)] k)) [a8, (.bool false), (I 0), a0, a1, a2, a3, a4, a5, a6, a7]) u0
 | _, _ => False
abbrev Qff_e : Ent := ⟨[58], Qff⟩
def Qff_l : List LE := [⟨0, ⟨[(1, .one zB), (2, .one (.ptr 0 0)), (4, .one zB), (5, .one zB)], [(0, [zB, zB, zB, zB, zB, zB, zB, zB])], [], 1, 22⟩, fun K k v => Qff_r0 v K (fun x0 x1 x2 x3 x4 x5 x6 x7 => k .ret ⟨[(4, .one (.kb true))], [(0, [.pv x0, .pv x1, .pv x2, .pv x3, .pv x4, .pv x5, .pv x6, .pv x7])], [], 2, 22⟩) (fun x0 x1 x2 x3 x4 x5 x6 x7 x8 x9 x10 => k (.exit 0) ⟨[(1, .one (.pv x0)), (2, .one (.ptr 0 0)), (4, .one (.pv x1)), (5, .one (.pv x2))], [(0, [.pv x3, .pv x4, .pv x5, .pv x6, .pv x7, .pv x8, .pv x9, .pv x10])], [], 1, 22⟩)⟩]
theorem Qff_s : LEsOK (orac [Qef_e]) TT (kk [1, 2, 4, 5]) (sumsOf Qff_l) Tryz.f58 Qff_l := ⟨fun v K k h => by
  apply un_all h; exact fun v0 v1 v2 v3 v4 v5 v6 v7 v8 v9 v10 h => Eq.mpr (by kernel_rfl) h
  , trivial⟩
theorem Qff_w : EntOK Tryz.prog TT Qff_e := ent_ok tabok (L := [Qef_e]) ⟨Qef_w, trivial⟩ (keep := (kk [1, 2, 4, 5])) (l := Qff_l) Tryz.func58 (by kernel_rfl) (sg := [.one (.sc)]) (by kernel_rfl) Qff_s fun av k h => by
  unfold Qff at h; split at h
  · apply un_all h; clear h; intro a0 a1 a2 a3 a4 a5 a6 a7 h; exact Eq.mpr (by kernel_rfl) h
  · exact h.elim
def Qfg_r1 (v : List PV) (K : List PV → Prop) (x0k : PV → PV → PV → PV → PV → PV → PV → PV → PV → PV → PV → PV → PV → PV → PV → PV → PV → PV → PV → PV → PV → PV → PV → PV → PV → Prop) (x1k : PV → PV → PV → PV → PV → PV → PV → PV → PV → PV → PV → PV → PV → PV → PV → PV → PV → PV → PV → PV → PV → PV → PV → PV → PV → PV → PV → PV → PV → Prop) : Prop :=
 un 29 (fun v0 v1 v2 v3 v4 v5 v6 v7 v8 v9 v10 v11 v12 v13 v14 v15 v16 v17 v18 v19 v20 v21 v22 v23 v24 v25 v26 v27 v28 =>
  lenP v2 fun r0 =>
  binP .lss v3 r0 fun r1 =>
  iteP r1
   (elemP 17 v2 v3 fun c2 =>
   call Qee [.agg [(atP c2 0), (atP c2 1), (atP c2 2), (atP c2 3), (atP c2 4), (atP c2 5), (atP c2 6), (atP c2 7), (atP c2 8), (atP c2 9), (atP c2 10), (atP c2 11), (atP c2 12), (atP c2 13), (atP c2 14), (atP c2 15)], .agg [v4, v5, v6, v7, v8, v9, v10, v11, v12, v13, v14, v15, v16, v17, v18, v19]] fun o3 =>
   iteP (atP o3 0)
    (x0k v4 v5 v6 v7 v8 v9 v10 v11 v12 v13 v14 v15 v16 v17 v18 v19 v20 v21 v22 v23 v24 v25 v26 v27 v28)
    (binP .add v3 (I 1) fun r4 =>
    K [v0, v1, v2, r4, v4, v5, v6, v7, v8, v9, v10, v11, v12, v13, v14, v15, v16, v17, v18, v19, v20, v21, v22, v23, v24, v25, v26, v27, v28]))
   (x1k v0 v1 v2 v3 v4 v5 v6 v7 v8 v9 v10 v11 v12 v13 v14 v15 v16 v17 v18 v19 v20 v21 v22 v23 v24 v25 v26 v27 v28)) v
def Qfg_r0 (v : List PV) (K : List PV → Prop) (x0k : PV → PV → PV → PV → PV → PV → PV → PV → PV → PV → PV → PV → PV → PV → PV → PV → PV → PV → PV → PV → PV → PV → PV → PV → PV → Prop) (x1k : PV → PV → PV → PV → PV → PV → PV → PV → PV → PV → PV → PV → PV → PV → PV → PV → PV → PV → PV → PV → PV → PV → PV → PV → PV → PV → PV → Prop) : Prop :=
 un 27 (fun v0 v1 v2 v3 v4 v5 v6 v7 v8 v9 v10 v11 v12 v13 v14 v15 v16 v17 v18 v19 v20 v21 v22 v23 v24 v25 v26 =>
  lenP v22 fun r0 =>
  binP .lss v1 r0 fun r1 =>
  iteP r1
   (elemP 3 v22 v1 fun c2 =>
   lp (fun L w => Qfg_r1 w L
    (fun q5 q6 q7 q8 q9 q10 q11 q12 q13 q14 q15 q16 q17 q18 q19 q20 q21 q22 q23 q24 q25 q26 q27 q28 q29 => x0k q5 q6 q7 q8 q9 q10 q11 q12 q13 q14 q15 q16 q17 q18 q19 q20 q21 q22 q23 q24 q25 q26 q27 q28 q29)
    (fun q30 q31 q32 q33 q34 q35 q36 q37 q38 q39 q40 q41 q42 q43 q44 q45 q46 q47 q48 q49 q50 q51 q52 q53 q54 q55 q56 q57 q58 => binP .add q31 (I 1) fun r59 =>
     K [q30, r59, q34, q35, q36, q37, q38, q39, q40, q41, q42, q43, q44, q45, q46, q47, q48, q49, q50, q51, q52, q53, q54, q55, q56, q57, q58])) [v0, v1, (atP c2 0), (I 0), v2, v3, v4, v5, v6, v7, v8, v9, v10, v11, v12, v13, v14, v15, v16, v17, v18, v19, v20, v21, v22, v23, v24, v25, v26])
   (x1k v0 v1 v2 v3 v4 v5 v6 v7 v8 v9 v10 v11 v12 v13 v14 v15 v16 v17 v18 v19 v20 v21 v22 v23 v24 v25 v26)) v
def Qfg : GM
 | [.agg u0, .agg u1], k => un 8 (fun a0 a1 a2 a3 a4 a5 a6 a7 => un 17 (fun a8 a9 a10 a11 a12 a13 a14 a15 a16 a17 a18 a19 a20 a21 a22 a23 a24 => 
  lp (fun L w => Qfg_r0 w L
   (fun q60 q61 q62 q63 q64 q65 q66 q67 q68 q69 q70 q71 q72 q73 q74 q75 q76 q77 q78 q79 q80 q81 q82 q83 q84 => rt [.sc] [(.bool true)] k)
   (fun q85 q86 q87 q88 q89 q90 q91 q92 q93 q94 q95 q96 q97 q98 q99 q100 q101 q102 q103 q104 q105 q106 q107 q108 q109 q110 q111 => rt [.sc] [(.bool false)] k)) [(.bool false), (I 0), a8, a9, a10, a11, a12, a13, a14, a15, a16, a17, a18, a19, a20, a21, a22, a23, a24, a0, a1, a2, a3, a4, a5, a6, a7]) u1) u0
 | _, _ => False
abbrev Qfg_e : Ent := ⟨[60], Qfg⟩
def Qfg_l : List LE := [⟨1, ⟨[(2, .one (.ptr 0 0)), (3, .one (.ptr 1 0)), (4, .one zB), (5, .one zB), (6, .one zB), (7, .one zB)], [(1, [zB, zB, zB, zB, zB, zB, zB, zB, zB, zB, zB, zB, zB, zB, zB, zB, zB]), (0, [zB, zB, zB, zB, zB, zB, zB, zB])], [], 2, 36⟩, fun K k v => Qfg_r1 v K (fun x0 x1 x2 x3 x4 x5 x6 x7 x8 x9 x10 x11 x12 x13 x14 x15 x16 x17 x18 x19 x20 x21 x22 x23 x24 => k .ret ⟨[(4, .one (.kb true))], [(1, [.pv x0, .pv x1, .pv x2, .pv x3, .pv x4, .pv x5, .pv x6, .pv x7, .pv x8, .pv x9, .pv x10, .pv x11, .pv x12, .pv x13, .pv x14, .pv x15, .pv x16]), (0, [.pv x17, .pv x18, .pv x19, .pv x20, .pv x21, .pv x22, .pv x23, .pv x24])], [], 3, 36⟩) (fun x0 x1 x2 x3 x4 x5 x6 x7 x8 x9 x10 x11 x12 x13 x14 x15 x16 x17 x18 x19 x20 x21 x22 x23 x24 x25 x26 x27 x28 => k (.exit 2) ⟨[(2, .one (.ptr 0 0)), (3, .one (.ptr 1 0)), (4, .one (.pv x0)), (5, .one (.pv x1)), (6, .one (.pv x2)), (7, .one (.pv x3))], [(1, [.pv x4, .pv x5, .pv x6, .pv x7, .pv x8, .pv x9, .pv x10, .pv x11, .pv x12, .pv x13, .pv x14, .pv x15, .pv x16, .pv x17, .pv x18, .pv x19, .pv x20]), (0, [.pv x21, .pv x22, .pv x23, .pv x24, .pv x25, .pv x26, .pv x27, .pv x28])], [], 2, 36⟩)⟩,
  ⟨0, ⟨[(2, .one (.ptr 0 0)), (3, .one (.ptr 1 0)), (4, .one zB), (5, .one zB)], [(1, [zB, zB, zB, zB, zB, zB, zB, zB, zB, zB, zB, zB, zB, zB, zB, zB, zB]), (0, [zB, zB, zB, zB, zB, zB, zB, zB])], [], 2, 36⟩, fun K k v => Qfg_r0 v K (fun x0 x1 x2 x3 x4 x5 x6 x7 x8 x9 x10 x11 x12 x13 x14 x15 x16 x17 x18 x19 x20 x21 x22 x23 x24 => k .ret ⟨[(4, .one (.kb true))], [(1, [.pv x0, .pv x1, .pv x2, .pv x3, .pv x4, .pv x5, .pv x6, .pv x7, .pv x8, .pv x9, .pv x10, .pv x11, .pv x12, .pv x13, .pv x14, .pv x15, .pv x16]), (0, [.pv x17, .pv x18, .pv x19, .pv x20, .pv x21, .pv x22, .pv x23, .pv x24])], [], 3, 36⟩) (fun x0 x1 x2 x3 x4 x5 x6 x7 x8 x9 x10 x11 x12 x13 x14 x15 x16 x17 x18 x19 x20 x21 x22 x23 x24 x25 x26 => k (.exit 0) ⟨[(2, .one (.ptr 0 0)), (3, .one (.ptr 1 0)), (4, .one (.pv x0)), (5, .one (.pv x1))], [(1, [.pv x2, .pv x3, .pv x4, .pv x5, .pv x6, .pv x7, .pv x8, .pv x9, .pv x10, .pv x11, .pv x12, .pv x13, .pv x14, .pv x15, .pv x16, .pv x17, .pv x18]), (0, [.pv x19, .pv x20, .pv x21, .pv x22, .pv x23, .pv x24, .pv x25, .pv x26])], [], 2, 36⟩)⟩]
theorem Qfg_s : LEsOK (orac [Qee_e]) TT (kk [2, 3, 4, 5, 6, 7]) (sumsOf Qfg_l) Tryz.f60 Qfg_l := ⟨fun v K k h => by
  apply un_all h; exact fun v0 v1 v2 v3 v4 v5 v6 v7 v8 v9 v10 v11 v12 v13 v14 v15 v16 v17 v18 v19 v20 v21 v22 v23 v24 v25 v26 v27 v28 h => Eq.mpr (by kernel_rfl) h
  , fun v K k h => by
  apply un_all h; exact fun v0 v1 v2 v3 v4 v5 v6 v7 v8 v9 v10 v11 v12 v13 v14 v15 v16 v17 v18 v19 v20 v21 v22 v23 v24 v25 v26 h => Eq.mpr (by kernel_rfl) h
  , trivial⟩
theorem Qfg_w : EntOK Tryz.prog TT Qfg_e := ent_ok tabok (L := [Qee_e]) ⟨Qee_w, trivial⟩ (keep := (kk [2, 3, 4, 5, 6, 7])) (l := Qfg_l) Tryz.func60 (by kernel_rfl) (sg := [.one (.sc)]) (by kernel_rfl) Qfg_s fun av k h => by
  unfold Qfg at h; split at h
  · apply un_all h; clear h; intro a0 a1 a2 a3 a4 a5 a6 a7 h; apply un_all h; clear h; intro a8 a9 a10 a11 a12 a13 a14 a15 a16 a17 a18 a19 a20 a21 a22 a23 a24 h; exact Eq.mpr (by kernel_rfl) h
  · exact h.elim
def Qfh_r0 (v : List PV) (K : List PV → Prop) (x0k : PV → PV → PV → PV → PV → PV → PV → PV → Prop) (x1k : PV → PV → PV → PV → PV → PV → PV → PV → PV → PV → Prop) : Prop :=
 un 10 (fun v0 v1 v2 v3 v4 v5 v6 v7 v8 v9 =>
  lenP v7 fun r0 =>
  binP .lss v1 r0 fun r1 =>
  iteP r1
   (elemP 1 v7 v1 fun c2 =>
   call Qff [.agg [v2, v3, v4, v5, v6, v7, v8, v9], .one (atP c2 0)] fun o3 =>
   unP .not (atP o3 0) fun r4 =>
   iteP r4
    (x0k v2 v3 v4 v5 v6 v7 v8 v9)
    (binP .add v1 (I 1) fun r5 =>
    K [v0, r5, v2, v3, v4, v5, v6, v7, v8, v9]))
   (x1k v0 v1 v2 v3 v4 v5 v6 v7 v8 v9)) v
def Qfh_r1 (v : List PV) (K : List PV → Prop) (x0k : PV → PV → PV → PV → PV → PV → PV → PV → Prop) (x1k : PV → PV → PV → PV → PV → PV → PV → PV → PV → PV → PV → Prop) : Prop :=
 un 11 (fun v0 v1 v2 v3 v4 v5 v6 v7 v8 v9 v10 =>
  lenP v10 fun r0 =>
  binP .lss v2 r0 fun r1 =>
  iteP r1
   (elemP 23 v10 v2 fun c2 =>
   call Qff [.agg [v3, v4, v5, v6, v7, v8, v9, v10], .one (atP c2 2)] fun o3 =>
   unP .not (atP o3 0) fun r4 =>
   iteP r4
    (x0k v3 v4 v5 v6 v7 v8 v9 v10)
    (binP .add v2 (I 1) fun r5 =>
    K [v0, v1, r5, v3, v4, v5, v6, v7, v8, v9, v10]))
   (x1k v0 v1 v2 v3 v4 v5 v6 v7 v8 v9 v10)) v
def Qfh_r2 (v : List PV) (K : List PV → Prop) (x0k : PV → PV → PV → PV → PV → PV → PV → PV → PV → PV → PV → PV → PV → PV → PV → PV → PV → PV → PV → PV → PV → PV → PV → PV → PV → PV → PV → PV → PV → PV → PV → PV → PV → PV → PV → PV → PV → PV → PV → PV → PV → PV → PV → PV → PV → PV → PV → PV → PV → PV → PV → PV → PV → PV → PV → PV → PV → PV → PV → Prop) (x1k : PV → PV → PV → PV → PV → PV → PV → PV → PV → PV → PV → PV → PV → PV → PV → PV → PV → PV → PV → PV → PV → PV → PV → PV → PV → PV → PV → PV → PV → PV → PV → PV → PV → PV → PV → PV → PV → PV → PV → PV → PV → PV → PV → PV → PV → PV → PV → PV → PV → PV → PV → PV → PV → PV → PV → PV → PV → PV → PV → Prop) (x2k : PV → PV → PV → PV → PV → PV → PV → PV → PV → PV → PV → PV → PV → PV → PV → PV → PV → PV → PV → PV → PV → PV → PV → PV → PV → PV → PV → PV → PV → PV → PV → PV → PV → PV → PV → PV → PV → PV → PV → PV → PV → PV → PV → PV → PV → PV → PV → PV → PV → PV → PV → PV → PV → PV → PV → PV → PV → PV → PV → Prop) (x3k : PV → PV → PV → PV → PV → PV → PV → PV → PV → PV → PV → PV → Prop) : Prop :=
 un 12 (fun v0 v1 v2 v3 v4 v5 v6 v7 v8 v9 v10 v11 =>
  lenP v10 fun r0 =>
  binP .lss v3 r0 fun r1 =>
  iteP r1
   (elemP 51 v10 v3 fun c2 =>
   call Qep [.agg [(atP c2 0), (atP c2 1), (atP c2 2), (atP c2 3), (atP c2 4), (atP c2 5), (atP c2 6), (atP c2 7), (atP c2 8), (atP c2 9), (atP c2 10), (atP c2 11), (atP c2 12), (atP c2 13), (atP c2 14), (atP c2 15), (atP c2 16)], .agg [(I 0), (I 0), (I 0), (I 0), (I 0), (I 0), (I 0), (I 0), (.list 1 []), (I 0), (.list 1 []), (I 0), (I 0), (.list 1 []), (I 0), (.bool false), (.list 2 [])]] fun o3 =>
   unP .not (atP o3 0) fun r4 =>
   iteP r4
    (call Qfg [.agg [v4, v5, v6, v7, v8, v9, v10, v11], .agg [(atP c2 0), (atP c2 1), (atP c2 2), (atP c2 3), (atP c2 4), (atP c2 5), (atP c2 6), (atP c2 7), (atP c2 8), (atP c2 9), (atP c2 10), (atP c2 11), (atP c2 12), (atP c2 13), (atP c2 14), (atP c2 15), (atP c2 16)]] fun o5 =>
    unP .not (atP o5 0) fun r6 =>
    iteP r6
     (x0k (atP c2 0) (atP c2 1) (atP c2 2) (atP c2 3) (atP c2 4) (atP c2 5) (atP c2 6) (atP c2 7) (atP c2 8) (atP c2 9) (atP c2 10) (atP c2 11) (atP c2 12) (atP c2 13) (atP c2 14) (atP c2 15) (atP c2 16) (atP c2 17) (atP c2 18) (atP c2 19) (atP c2 20) (atP c2 21) (atP c2 22) (atP c2 23) (atP c2 24) (atP c2 25) (atP c2 26) (atP c2 27) (atP c2 28) (atP c2 29) (atP c2 30) (atP c2 31) (atP c2 32) (atP c2 33) (atP c2 34) (atP c2 35) (atP c2 36) (atP c2 37) (atP c2 38) (atP c2 39) (atP c2 40) (atP c2 41) (atP c2 42) (atP c2 43) (atP c2 44) (atP c2 45) (atP c2 46) (atP c2 47) (atP c2 48) (atP c2 49) (atP c2 50) v4 v5 v6 v7 v8 v9 v10 v11)
     (call Qfg [.agg [v4, v5, v6, v7, v8, v9, v10, v11], .agg [(atP c2 17), (atP c2 18), (atP c2 19), (atP c2 20), (atP c2 21), (atP c2 22), (atP c2 23), (atP c2 24), (atP c2 25), (atP c2 26), (atP c2 27), (atP c2 28), (atP c2 29), (atP c2 30), (atP c2 31), (atP c2 32), (atP c2 33)]] fun o7 =>
     unP .not (atP o7 0) fun r8 =>
     iteP r8
      (x1k (atP c2 0) (atP c2 1) (atP c2 2) (atP c2 3) (atP c2 4) (atP c2 5) (atP c2 6) (atP c2 7) (atP c2 8) (atP c2 9) (atP c2 10) (atP c2 11) (atP c2 12) (atP c2 13) (atP c2 14) (atP c2 15) (atP c2 16) (atP c2 17) (atP c2 18) (atP c2 19) (atP c2 20) (atP c2 21) (atP c2 22) (atP c2 23) (atP c2 24) (atP c2 25) (atP c2 26) (atP c2 27) (atP c2 28) (atP c2 29) (atP c2 30) (atP c2 31) (atP c2 32) (atP c2 33) (atP c2 34) (atP c2 35) (atP c2 36) (atP c2 37) (atP c2 38) (atP c2 39) (atP c2 40) (atP c2 41) (atP c2 42) (atP c2 43) (atP c2 44) (atP c2 45) (atP c2 46) (atP c2 47) (atP c2 48) (atP c2 49) (atP c2 50) v4 v5 v6 v7 v8 v9 v10 v11)
      (call Qfg [.agg [v4, v5, v6, v7, v8, v9, v10, v11], .agg [(atP c2 34), (atP c2 35), (atP c2 36), (atP c2 37), (atP c2 38), (atP c2 39), (atP c2 40), (atP c2 41), (atP c2 42), (atP c2 43), (atP c2 44), (atP c2 45), (atP c2 46), (atP c2 47), (atP c2 48), (atP c2 49), (atP c2 50)]] fun o9 =>
      unP .not (atP o9 0) fun r10 =>
      iteP r10
       (x2k (atP c2 0) (atP c2 1) (atP c2 2) (atP c2 3) (atP c2 4) (atP c2 5) (atP c2 6) (atP c2 7) (atP c2 8) (atP c2 9) (atP c2 10) (atP c2 11) (atP c2 12) (atP c2 13) (atP c2 14) (atP c2 15) (atP c2 16) (atP c2 17) (atP c2 18) (atP c2 19) (atP c2 20) (atP c2 21) (atP c2 22) (atP c2 23) (atP c2 24) (atP c2 25) (atP c2 26) (atP c2 27) (atP c2 28) (atP c2 29) (atP c2 30) (atP c2 31) (atP c2 32) (atP c2 33) (atP c2 34) (atP c2 35) (atP c2 36) (atP c2 37) (atP c2 38) (atP c2 39) (atP c2 40) (atP c2 41) (atP c2 42) (atP c2 43) (atP c2 44) (atP c2 45) (atP c2 46) (atP c2 47) (atP c2 48) (atP c2 49) (atP c2 50) v4 v5 v6 v7 v8 v9 v10 v11)
       (binP .add v3 (I 1) fun r11 =>
       K [v0, v1, v2, r11, v4, v5, v6, v7, v8, v9, v10, v11]))))
    (call Qfg [.agg [v4, v5, v6, v7, v8, v9, v10, v11], .agg [(atP c2 17), (atP c2 18), (atP c2 19), (atP c2 20), (atP c2 21), (atP c2 22), (atP c2 23), (atP c2 24), (atP c2 25), (atP c2 26), (atP c2 27), (atP c2 28), (atP c2 29), (atP c2 30), (atP c2 31), (atP c2 32), (atP c2 33)]] fun o12 =>
    unP .not (atP o12 0) fun r13 =>
    iteP r13
     (x0k (atP c2 0) (atP c2 1) (atP c2 2) (atP c2 3) (atP c2 4) (atP c2 5) (atP c2 6) (atP c2 7) (atP c2 8) (atP c2 9) (atP c2 10) (atP c2 11) (atP c2 12) (atP c2 13) (atP c2 14) (atP c2 15) (atP c2 16) (atP c2 17) (atP c2 18) (atP c2 19) (atP c2 20) (atP c2 21) (atP c2 22) (atP c2 23) (atP c2 24) (atP c2 25) (atP c2 26) (atP c2 27) (atP c2 28) (atP c2 29) (atP c2 30) (atP c2 31) (atP c2 32) (atP c2 33) (atP c2 34) (atP c2 35) (atP c2 36) (atP c2 37) (atP c2 38) (atP c2 39) (atP c2 40) (atP c2 41) (atP c2 42) (atP c2 43) (atP c2 44) (atP c2 45) (atP c2 46) (atP c2 47) (atP c2 48) (atP c2 49) (atP c2 50) v4 v5 v6 v7 v8 v9 v10 v11)
     (call Qfg [.agg [v4, v5, v6, v7, v8, v9, v10, v11], .agg [(atP c2 34), (atP c2 35), (atP c2 36), (atP c2 37), (atP c2 38), (atP c2 39), (atP c2 40), (atP c2 41), (atP c2 42), (atP c2 43), (atP c2 44), (atP c2 45), (atP c2 46), (atP c2 47), (atP c2 48), (atP c2 49), (atP c2 50)]] fun o14 =>
     unP .not (atP o14 0) fun r15 =>
     iteP r15
      (x1k (atP c2 0) (atP c2 1) (atP c2 2) (atP c2 3) (atP c2 4) (atP c2 5) (atP c2 6) (atP c2 7) (atP c2 8) (atP c2 9) (atP c2 10) (atP c2 11) (atP c2 12) (atP c2 13) (atP c2 14) (atP c2 15) (atP c2 16) (atP c2 17) (atP c2 18) (atP c2 19) (atP c2 20) (atP c2 21) (atP c2 22) (atP c2 23) (atP c2 24) (atP c2 25) (atP c2 26) (atP c2 27) (atP c2 28) (atP c2 29) (atP c2 30) (atP c2 31) (atP c2 32) (atP c2 33) (atP c2 34) (atP c2 35) (atP c2 36) (atP c2 37) (atP c2 38) (atP c2 39) (atP c2 40) (atP c2 41) (atP c2 42) (atP c2 43) (atP c2 44) (atP c2 45) (atP c2 46) (atP c2 47) (atP c2 48) (atP c2 49) (atP c2 50) v4 v5 v6 v7 v8 v9 v10 v11)
      (binP .add v3 (I 1) fun r16 =>
      K [v0, v1, v2, r16, v4, v5, v6, v7, v8, v9, v10, v11]))))
   (x3k v0 v1 v2 v3 v4 v5 v6 v7 v8 v9 v10 v11)) v
def Qfh : GM
 | [.agg u0], k => un 8 (fun a0 a1 a2 a3 a4 a5 a6 a7 => 
  lp (fun L w => Qfh_r0 w L
   (fun q6 q7 q8 q9 q10 q11 q12 q13 => rt [.sc] [(.bool false)] k)
   (fun q14 q15 q16 q17 q18 q19 q20 q21 q22 q23 => lp (fun L w => Qfh_r1 w L
     (fun q24 q25 q26 q27 q28 q29 q30 q31 => rt [.sc] [(.bool false)] k)
     (fun q32 q33 q34 q35 q36 q37 q38 q39 q40 q41 q42 => lp (fun L w => Qfh_r2 w L
       (fun q43 q44 q45 q46 q47 q48 q49 q50 q51 q52 q53 q54 q55 q56 q57 q58 q59 q60 q61 q62 q63 q64 q65 q66 q67 q68 q69 q70 q71 q72 q73 q74 q75 q76 q77 q78 q79 q80 q81 q82 q83 q84 q85 q86 q87 q88 q89 q90 q91 q92 q93 q94 q95 q96 q97 q98 q99 q100 q101 => rt [.sc] [(.bool false)] k)
       (fun q102 q103 q104 q105 q106 q107 q108 q109 q110 q111 q112 q113 q114 q115 q116 q117 q118 q119 q120 q121 q122 q123 q124 q125 q126 q127 q128 q129 q130 q131 q132 q133 q134 q135 q136 q137 q138 q139 q140 q141 q142 q143 q144 q145 q146 q147 q148 q149 q150 q151 q152 q153 q154 q155 q156 q157 q158 q159 q160 => rt [.sc] [(.bool false)] k)
       (fun q161 q162 q163 q164 q165 q166 q167 q168 q169 q170 q171 q172 q173 q174 q175 q176 q177 q178 q179 q180 q181 q182 q183 q184 q185 q186 q187 q188 q189 q190 q191 q192 q193 q194 q195 q196 q197 q198 q199 q200 q201 q202 q203 q204 q205 q206 q207 q208 q209 q210 q211 q212 q213 q214 q215 q216 q217 q218 q219 => rt [.sc] [(.bool false)] k)
       (fun q220 q221 q222 q223 q224 q225 q226 q227 q228 q229 q230 q231 => rt [.sc] [(.bool true)] k)) [q32, q33, q34, (I 0), q35, q36, q37, q38, q39, q40, q41, q42])) [q14, q15, (I 0), q16, q17, q18, q19, q20, q21, q22, q23])) [(.bool false), (I 0), a0, a1, a2, a3, a4, a5, a6, a7]) u0
 | _, _ => False
abbrev Qfh_e : Ent := ⟨[19], Qfh⟩
def Qfh_l : List LE := [⟨0, ⟨[(1, .one (.ptr 0 0)), (2, .one zB), (3, .one zB)], [(0, [zB, zB, zB, zB, zB, zB, zB, zB])], [], 1, 83⟩, fun K k v => Qfh_r0 v K (fun x0 x1 x2 x3 x4 x5 x6 x7 => k .ret ⟨[(2, .one (.kb false))], [(0, [.pv x0, .pv x1, .pv x2, .pv x3, .pv x4, .pv x5, .pv x6, .pv x7])], [], 2, 83⟩) (fun x0 x1 x2 x3 x4 x5 x6 x7 x8 x9 => k (.exit 0) ⟨[(1, .one (.ptr 0 0)), (2, .one (.pv x0)), (3, .one (.pv x1))], [(0, [.pv x2, .pv x3, .pv x4, .pv x5, .pv x6, .pv x7, .pv x8, .pv x9])], [], 1, 83⟩)⟩,
  ⟨1, ⟨[(1, .one (.ptr 0 0)), (2, .one zB), (3, .one zB), (4, .one zB)], [(0, [zB, zB, zB, zB, zB, zB, zB, zB])], [], 1, 83⟩, fun K k v => Qfh_r1 v K (fun x0 x1 x2 x3 x4 x5 x6 x7 => k .ret ⟨[(2, .one (.kb false))], [(0, [.pv x0, .pv x1, .pv x2, .pv x3, .pv x4, .pv x5, .pv x6, .pv x7])], [], 2, 83⟩) (fun x0 x1 x2 x3 x4 x5 x6 x7 x8 x9 x10 => k (.exit 2) ⟨[(1, .one (.ptr 0 0)), (2, .one (.pv x0)), (3, .one (.pv x1)), (4, .one (.pv x2))], [(0, [.pv x3, .pv x4, .pv x5, .pv x6, .pv x7, .pv x8, .pv x9, .pv x10])], [], 1, 83⟩)⟩,
  ⟨2, ⟨[(1, .one (.ptr 0 0)), (2, .one zB), (3, .one zB), (4, .one zB), (5, .one zB)], [(0, [zB, zB, zB, zB, zB, zB, zB, zB])], [], 1, 83⟩, fun K k v => Qfh_r2 v K (fun x0 x1 x2 x3 x4 x5 x6 x7 x8 x9 x10 x11 x12 x13 x14 x15 x16 x17 x18 x19 x20 x21 x22 x23 x24 x25 x26 x27 x28 x29 x30 x31 x32 x33 x34 x35 x36 x37 x38 x39 x40 x41 x42 x43 x44 x45 x46 x47 x48 x49 x50 x51 x52 x53 x54 x55 x56 x57 x58 => k .ret ⟨[(2, .one (.kb false))], [(1, [.pv x0, .pv x1, .pv x2, .pv x3, .pv x4, .pv x5, .pv x6, .pv x7, .pv x8, .pv x9, .pv x10, .pv x11, .pv x12, .pv x13, .pv x14, .pv x15, .pv x16, .pv x17, .pv x18, .pv x19, .pv x20, .pv x21, .pv x22, .pv x23, .pv x24, .pv x25, .pv x26, .pv x27, .pv x28, .pv x29, .pv x30, .pv x31, .pv x32, .pv x33, .pv x34, .pv x35, .pv x36, .pv x37, .pv x38, .pv x39, .pv x40, .pv x41, .pv x42, .pv x43, .pv x44, .pv x45, .pv x46, .pv x47, .pv x48, .pv x49, .pv x50]), (1, [.pv (I 0), .pv (I 0), .pv (I 0), .pv (I 0), .pv (I 0), .pv (I 0), .pv (I 0), .pv (I 0), .nil 3 1, .pv (I 0), .nil 3 1, .pv (I 0), .pv (I 0), .nil 3 1, .pv (I 0), zB, .nil 191 2, .pv (I 0), .pv (I 0), .pv (I 0), .pv (I 0), .pv (I 0), .pv (I 0), .pv (I 0), .pv (I 0), .nil 3 1, .pv (I 0), .nil 3 1, .pv (I 0), .pv (I 0), .nil 3 1, .pv (I 0), zB, .nil 191 2, .pv (I 0), .pv (I 0), .pv (I 0), .pv (I 0), .pv (I 0), .pv (I 0), .pv (I 0), .pv (I 0), .nil 3 1, .pv (I 0), .nil 3 1, .pv (I 0), .pv (I 0), .nil 3 1, .pv (I 0), zB, .nil 191 2]), (0, [.pv x51, .pv x52, .pv x53, .pv x54, .pv x55, .pv x56, .pv x57, .pv x58])], [], 4, 83⟩) (fun x0 x1 x2 x3 x4 x5 x6 x7 x8 x9 x10 x11 x12 x13 x14 x15 x16 x17 x18 x19 x20 x21 x22 x23 x24 x25 x26 x27 x28 x29 x30 x31 x32 x33 x34 x35 x36 x37 x38 x39 x40 x41 x42 x43 x44 x45 x46 x47 x48 x49 x50 x51 x52 x53 x54 x55 x56 x57 x58 => k .ret ⟨[(2, .one (.kb false))], [(1, [.pv x0, .pv x1, .pv x2, .pv x3, .pv x4, .pv x5, .pv x6, .pv x7, .pv x8, .pv x9, .pv x10, .pv x11, .pv x12, .pv x13, .pv x14, .pv x15, .pv x16, .pv x17, .pv x18, .pv x19, .pv x20, .pv x21, .pv x22, .pv x23, .pv x24, .pv x25, .pv x26, .pv x27, .pv x28, .pv x29, .pv x30, .pv x31, .pv x32, .pv x33, .pv x34, .pv x35, .pv x36, .pv x37, .pv x38, .pv x39, .pv x40, .pv x41, .pv x42, .pv x43, .pv x44, .pv x45, .pv x46, .pv x47, .pv x48, .pv x49, .pv x50]), (1, [.pv (I 0), .pv (I 0), .pv (I 0), .pv (I 0), .pv (I 0), .pv (I 0), .pv (I 0), .pv (I 0), .nil 3 1, .pv (I 0), .nil 3 1, .pv (I 0), .pv (I 0), .nil 3 1, .pv (I 0), zB, .nil 191 2, .pv (I 0), .pv (I 0), .pv (I 0), .pv (I 0), .pv (I 0), .pv (I 0), .pv (I 0), .pv (I 0), .nil 3 1, .pv (I 0), .nil 3 1, .pv (I 0), .pv (I 0), .nil 3 1, .pv (I 0), zB, .nil 191 2, .pv (I 0), .pv (I 0), .pv (I 0), .pv (I 0), .pv (I 0), .pv (I 0), .pv (I 0), .pv (I 0), .nil 3 1, .pv (I 0), .nil 3 1, .pv (I 0), .pv (I 0), .nil 3 1, .pv (I 0), zB, .nil 191 2]), (0, [.pv x51, .pv x52, .pv x53, .pv x54, .pv x55, .pv x56, .pv x57, .pv x58])], [], 5, 83⟩) (fun x0 x1 x2 x3 x4 x5 x6 x7 x8 x9 x10 x11 x12 x13 x14 x15 x16 x17 x18 x19 x20 x21 x22 x23 x24 x25 x26 x27 x28 x29 x30 x31 x32 x33 x34 x35 x36 x37 x38 x39 x40 x41 x42 x43 x44 x45 x46 x47 x48 x49 x50 x51 x52 x53 x54 x55 x56 x57 x58 => k .ret ⟨[(2, .one (.kb false))], [(1, [.pv x0, .pv x1, .pv x2, .pv x3, .pv x4, .pv x5, .pv x6, .pv x7, .pv x8, .pv x9, .pv x10, .pv x11, .pv x12, .pv x13, .pv x14, .pv x15, .pv x16, .pv x17, .pv x18, .pv x19, .pv x20, .pv x21, .pv x22, .pv x23, .pv x24, .pv x25, .pv x26, .pv x27, .pv x28, .pv x29, .pv x30, .pv x31, .pv x32, .pv x33, .pv x34, .pv x35, .pv x36, .pv x37, .pv x38, .pv x39, .pv x40, .pv x41, .pv x42, .pv x43, .pv x44, .pv x45, .pv x46, .pv x47, .pv x48, .pv x49, .pv x50]), (1, [.pv (I 0), .pv (I 0), .pv (I 0), .pv (I 0), .pv (I 0), .pv (I 0), .pv (I 0), .pv (I 0), .nil 3 1, .pv (I 0), .nil 3 1, .pv (I 0), .pv (I 0), .nil 3 1, .pv (I 0), zB, .nil 191 2, .pv (I 0), .pv (I 0), .pv (I 0), .pv (I 0), .pv (I 0), .pv (I 0), .pv (I 0), .pv (I 0), .nil 3 1, .pv (I 0), .nil 3 1, .pv (I 0), .pv (I 0), .nil 3 1, .pv (I 0), zB, .nil 191 2, .pv (I 0), .pv (I 0), .pv (I 0), .pv (I 0), .pv (I 0), .pv (I 0), .pv (I 0), .pv (I 0), .nil 3 1, .pv (I 0), .nil 3 1, .pv (I 0), .pv (I 0), .nil 3 1, .pv (I 0), zB, .nil 191 2]), (0, [.pv x51, .pv x52, .pv x53, .pv x54, .pv x55, .pv x56, .pv x57, .pv x58])], [], 6, 83⟩) (fun x0 x1 x2 x3 x4 x5 x6 x7 x8 x9 x10 x11 => k (.exit 4) ⟨[(1, .one (.ptr 0 0)), (2, .one (.pv x0)), (3, .one (.pv x1)), (4, .one (.pv x2)), (5, .one (.pv x3))], [(0, [.pv x4, .pv x5, .pv x6, .pv x7, .pv x8, .pv x9, .pv x10, .pv x11])], [], 1, 83⟩)⟩]
theorem Qfh_s : LEsOK (orac [Qff_e, Qep_e, Qfg_e]) TT (kk [1, 2, 3, 4, 5, 63, 64, 65, 66, 67, 70, 71, 72, 73, 74, 77, 78, 79, 80, 81]) (sumsOf Qfh_l) Tryz.f19 Qfh_l := ⟨fun v K k h => by
  apply un_all h; exact fun v0 v1 v2 v3 v4 v5 v6 v7 v8 v9 h => Eq.mpr (by kernel_rfl) h
  , fun v K k h => by
  apply un_all h; exact fun v0 v1 v2 v3 v4 v5 v6 v7 v8 v9 v10 h => Eq.mpr (by kernel_rfl) h
  , fun v K k h => by
  apply un_all h; exact fun v0 v1 v2 v3 v4 v5 v6 v7 v8 v9 v10 v11 h => Eq.mpr (by kernel_rfl) h
  , trivial⟩
theorem Qfh_w : EntOK Tryz.prog TT Qfh_e := ent_ok tabok (L := [Qff_e, Qep_e, Qfg_e]) ⟨Qff_w, Qep_w, Qfg_w, trivial⟩ (keep := (kk [1, 2, 3, 4, 5, 63, 64, 65, 66, 67, 70, 71, 72, 73, 74, 77, 78, 79, 80, 81])) (l := Qfh_l) Tryz.func19 (by kernel_rfl) (sg := [.one (.sc)]) (by kernel_rfl) Qfh_s fun av k h => by
  unfold Qfh at h; split at h
  · apply un_all h; clear h; intro a0 a1 a2 a3 a4 a5 a6 a7 h; exact Eq.mpr (by kernel_rfl) h
  · exact h.elim
def Qfi_r0 (v : List PV) (K : List PV → Prop) (x0k : PV → PV → PV → PV → PV → PV → PV → PV → Prop) (x1k : PV → PV → PV → PV → PV → PV → PV → PV → PV → PV → Prop) : Prop :=
 un 10 (fun v0 v1 v2 v3 v4 v5 v6 v7 v8 v9 =>
  lenP v5 fun r0 =>
  binP .lss v1 r0 fun r1 =>
  iteP r1
   (elemP 3 v5 v1 fun c2 =>
   call Qed [.agg [(atP c2 0), (atP c2 1), (atP c2 2)]] fun o3 =>
   unP .not (atP o3 0) fun r4 =>
   iteP r4
    (x0k v2 v3 v4 v5 v6 v7 v8 v9)
    (binP .add v1 (I 1) fun r5 =>
    K [v0, r5, v2, v3, v4, v5, v6, v7, v8, v9]))
   (x1k v0 v1 v2 v3 v4 v5 v6 v7 v8 v9)) v
def Qfi_r1 (v : List PV) (K : List PV → Prop) (x0k : PV → PV → PV → PV → PV → PV → PV → PV → Prop) (x1k : PV → PV → PV → PV → PV → PV → PV → PV → PV → PV → PV → Prop) : Prop :=
 un 11 (fun v0 v1 v2 v3 v4 v5 v6 v7 v8 v9 v10 =>
  lenP v5 fun r0 =>
  binP .lss v2 r0 fun r1 =>
  iteP r1
   (elemP 2 v5 v2 fun c2 =>
   call Qej [.agg [v3, v4, v5, v6, v7, v8, v9, v10], .agg [(atP c2 0), (atP c2 1)]] fun o3 =>
   unP .not (atP o3 0) fun r4 =>
   iteP r4
    (x0k v3 v4 v5 v6 v7 v8 v9 v10)
    (binP .add v2 (I 1) fun r5 =>
    K [v0, v1, r5, v3, v4, v5, v6, v7, v8, v9, v10]))
   (x1k v0 v1 v2 v3 v4 v5 v6 v7 v8 v9 v10)) v
def Qfi : GM
 | [.agg u0], k => un 8 (fun a0 a1 a2 a3 a4 a5 a6 a7 => 
  lp (fun L w => Qfi_r0 w L
   (fun q6 q7 q8 q9 q10 q11 q12 q13 => rt [.sc] [(.bool false)] k)
   (fun q14 q15 q16 q17 q18 q19 q20 q21 q22 q23 => lp (fun L w => Qfi_r1 w L
     (fun q24 q25 q26 q27 q28 q29 q30 q31 => rt [.sc] [(.bool false)] k)
     (fun q32 q33 q34 q35 q36 q37 q38 q39 q40 q41 q42 => call Qfd [.agg [q35, q36, q37, q38, q39, q40, q41, q42]] fun o43 =>
      iteP (atP o43 0)
       (call Qfe [.agg [q35, q36, q37, q38, q39, q40, q41, q42]] fun o44 =>
       iteP (atP o44 0)
        (call Qfh [.agg [q35, q36, q37, q38, q39, q40, q41, q42]] fun o45 =>
        rt [.sc] [(atP o45 0)] k)
        (rt [.sc] [(.bool false)] k))
       (rt [.sc] [(.bool false)] k))) [q14, q15, (I 0), q16, q17, q18, q19, q20, q21, q22, q23])) [(.bool false), (I 0), a0, a1, a2, a3, a4, a5, a6, a7]) u0
 | _, _ => False
abbrev Qfi_e : Ent := ⟨[5], Qfi⟩
def Qfi_l : List LE := [⟨0, ⟨[(1, .one (.ptr 0 0)), (2, .one zB), (3, .one zB)], [(0, [zB, zB, zB, zB, zB, zB, zB, zB])], [], 1, 44⟩, fun K k v => Qfi_r0 v K (fun x0 x1 x2 x3 x4 x5 x6 x7 => k .ret ⟨[(2, .one (.kb false))], [(0, [.pv x0, .pv x1, .pv x2, .pv x3, .pv x4, .pv x5, .pv x6, .pv x7])], [], 2, 44⟩) (fun x0 x1 x2 x3 x4 x5 x6 x7 x8 x9 => k (.exit 0) ⟨[(1, .one (.ptr 0 0)), (2, .one (.pv x0)), (3, .one (.pv x1))], [(0, [.pv x2, .pv x3, .pv x4, .pv x5, .pv x6, .pv x7, .pv x8, .pv x9])], [], 1, 44⟩)⟩,
  ⟨1, ⟨[(1, .one (.ptr 0 0)), (2, .one zB), (3, .one zB), (4, .one zB)], [(0, [zB, zB, zB, zB, zB, zB, zB, zB])], [], 1, 44⟩, fun K k v => Qfi_r1 v K (fun x0 x1 x2 x3 x4 x5 x6 x7 => k .ret ⟨[(2, .one (.kb false))], [(0, [.pv x0, .pv x1, .pv x2, .pv x3, .pv x4, .pv x5, .pv x6, .pv x7])], [], 2, 44⟩) (fun x0 x1 x2 x3 x4 x5 x6 x7 x8 x9 x10 => k (.exit 2) ⟨[(1, .one (.ptr 0 0)), (2, .one (.pv x0)), (3, .one (.pv x1)), (4, .one (.pv x2))], [(0, [.pv x3, .pv x4, .pv x5, .pv x6, .pv x7, .pv x8, .pv x9, .pv x10])], [], 1, 44⟩)⟩]
theorem Qfi_s : LEsOK (orac [Qed_e, Qej_e, Qfd_e, Qfe_e, Qfh_e]) TT (kk [1, 2, 3, 4, 37, 38, 41, 42]) (sumsOf Qfi_l) Tryz.f5 Qfi_l := ⟨fun v K k h => by
  apply un_all h; exact fun v0 v1 v2 v3 v4 v5 v6 v7 v8 v9 h => Eq.mpr (by kernel_rfl) h
  , fun v K k h => by
  apply un_all h; exact fun v0 v1 v2 v3 v4 v5 v6 v7 v8 v9 v10 h => Eq.mpr (by kernel_rfl) h
  , trivial⟩
theorem Qfi_w : EntOK Tryz.prog TT Qfi_e := ent_ok tabok (L := [Qed_e, Qej_e, Qfd_e, Qfe_e, Qfh_e]) ⟨Qed_w, Qej_w, Qfd_w, Qfe_w, Qfh_w, trivial⟩ (keep := (kk [1, 2, 3, 4, 37, 38, 41, 42])) (l := Qfi_l) Tryz.func5 (by kernel_rfl) (sg := [.one (.sc)]) (by kernel_rfl) Qfi_s fun av k h => by
  unfold Qfi at h; split at h
  · apply un_all h; clear h; intro a0 a1 a2 a3 a4 a5 a6 a7 h; exact Eq.mpr (by kernel_rfl) h
  · exact h.elim
def Qfj : GM
 | [.one a0, .one a1, .one a2], k => 
  binP .leq a1 a0 fun r0 =>
  iteP r0
   (binP .leq a0 a2 fun r1 =>
   rt [.sc] [r1] k)
   (rt [.sc] [(.bool false)] k)
 | _, _ => False
abbrev Qfj_e : Ent := ⟨[68], Qfj⟩
theorem Qfj_w : EntOK Tryz.prog TT Qfj_e := ent_ok tabok (L := []) trivial (keep := []) (l := []) Tryz.func68 (by kernel_rfl) (sg := [.one (.sc)]) (by kernel_rfl) trivial fun av k h => by
  unfold Qfj at h; split at h
  · exact Eq.mpr (by kernel_rfl) h
  · exact h.elim
def Qfk_r0 (v : List PV) (K : List PV → Prop) (x0k : Prop) (x1k : PV → PV → PV → PV → Prop) : Prop :=
 un 4 (fun v0 v1 v2 v3 =>
  binP .lss v3 v2 fun r0 =>
  iteP r0
   (binP .gtr v3 (I 0) fun r1 =>
   iteP r1
    (elemP 1 v0 v3 fun c2 =>
    binP .sub v3 (I 1) fun r3 =>
    elemP 1 v0 r3 fun c4 =>
    binP .leq (atP c2 0) (atP c4 0) fun r5 =>
    iteP r5
     (x0k)
     (binP .add v3 (I 1) fun r6 =>
     K [v0, v1, v2, r6]))
    (binP .add v3 (I 1) fun r7 =>
    K [v0, v1, v2, r7]))
   (x1k v0 v1 v2 v3)) v
def Qfk : GM
 | [.one a0], k => 
  lenP a0 fun r0 =>
  lp (fun L w => Qfk_r0 w L
   (rt [.sc] [(.bool false)] k)
   (fun q8 q9 q10 q11 => rt [.sc] [(.bool true)] k)) [a0, (.bool false), r0, (I 0)]
 | _, _ => False
abbrev Qfk_e : Ent := ⟨[122], Qfk⟩
def Qfk_l : List LE := [⟨0, ⟨[(0, .one zB), (2, .one zB), (5, .one zB), (6, .one zB)], [], [], 0, 24⟩, fun K k v => Qfk_r0 v K (k .ret ⟨[(2, .one (.kb false))], [], [], 0, 24⟩) (fun x0 x1 x2 x3 => k (.exit 0) ⟨[(0, .one (.pv x0)), (2, .one (.pv x1)), (5, .one (.pv x2)), (6, .one (.pv x3))], [], [], 0, 24⟩)⟩]
theorem Qfk_s : LEsOK (orac []) TT (kk [0, 2, 5, 6, 12, 13, 14, 15, 16, 17, 18, 19, 20, 21]) (sumsOf Qfk_l) Tryz.f122 Qfk_l := ⟨fun v K k h => by
  apply un_all h; exact fun v0 v1 v2 v3 h => Eq.mpr (by kernel_rfl) h
  , trivial⟩
theorem Qfk_w : EntOK Tryz.prog TT Qfk_e := ent_ok tabok (L := []) trivial (keep := (kk [0, 2, 5, 6, 12, 13, 14, 15, 16, 17, 18, 19, 20, 21])) (l := Qfk_l) Tryz.func122 (by kernel_rfl) (sg := [.one (.sc)]) (by kernel_rfl) Qfk_s fun av k h => by
  unfold Qfk at h; split at h
  · exact Eq.mpr (by kernel_rfl) h
  · exact h.elim
def Qfl : GM
 | [.one a0], k => 
  call Qfj [.one a0, .one (I 1), .one (I 99)] fun o0 =>
  rt [.sc] [(atP o0 0)] k
 | _, _ => False
abbrev Qfl_e : Ent := ⟨[125], Qfl⟩
theorem Qfl_w : EntOK Tryz.prog TT Qfl_e := ent_ok tabok (L := [Qfj_e]) ⟨Qfj_w, trivial⟩ (keep := []) (l := []) Tryz.func125 (by kernel_rfl) (sg := [.one (.sc)]) (by kernel_rfl) trivial fun av k h => by
  unfold Qfl at h; split at h
  · exact Eq.mpr (by kernel_rfl) h
  · exact h.elim
def Qfm : GM
 | [.one a0], k => 
  call Qfl [.one a0] fun o0 =>
  unP .not (atP o0 0) fun r1 =>
  rt [.sc] [r1] k
 | _, _ => False
abbrev Qfm_e : Ent := ⟨[124], Qfm⟩
theorem Qfm_w : EntOK Tryz.prog TT Qfm_e := ent_ok tabok (L := [Qfl_e]) ⟨Qfl_w, trivial⟩ (keep := []) (l := []) Tryz.func124 (by kernel_rfl) (sg := [.one (.sc)]) (by kernel_rfl) trivial fun av k h => by
  unfold Qfm at h; split at h
  · exact Eq.mpr (by kernel_rfl) h
  · exact h.elim
def Qfn_r0 (v : List PV) (K : List PV → Prop) (x0k : PV → Prop) (x1k : PV → PV → PV → PV → Prop) : Prop :=
 un 4 (fun v0 v1 v2 v3 =>
  binP .lss v3 v2 fun r0 =>
  iteP r0
   (elemP 1 v0 v3 fun c1 =>
   call Qfm [.one (atP c1 0)] fun o2 =>
   iteP (atP o2 0)
    (x0k v3)
    (binP .add v3 (I 1) fun r3 =>
    K [v0, v1, v2, r3]))
   (x1k v0 v1 v2 v3)) v
def Qfn : GM
 | [.one a0, .fn 124 []], k => 
  lenP a0 fun r0 =>
  lp (fun L w => Qfn_r0 w L
   (fun q4 => rt [.sc] [q4] k)
   (fun q5 q6 q7 q8 => rt [.sc] [(I (-1))] k)) [a0, (I 0), r0, (I 0)]
 | _, _ => False
abbrev Qfn_e : Ent := ⟨[174, 124], Qfn⟩
def Qfn_l : List LE := [⟨0, ⟨[(0, .one zB), (1, .one (.fn 124 [])), (4, .one zB), (7, .one zB), (8, .one zB)], [], [], 0, 19⟩, fun K k v => Qfn_r0 v K (fun x0 => k .ret ⟨[(4, .one (.pv x0))], [], [], 1, 19⟩) (fun x0 x1 x2 x3 => k (.exit 0) ⟨[(0, .one (.pv x0)), (1, .one (.fn 124 [])), (4, .one (.pv x1)), (7, .one (.pv x2)), (8, .one (.pv x3))], [], [], 0, 19⟩)⟩]
theorem Qfn_s : LEsOK (orac [Qfm_e]) TT (kk [0, 1, 4, 7, 8]) (sumsOf Qfn_l) Tryz.f174 Qfn_l := ⟨fun v K k h => by
  apply un_all h; exact fun v0 v1 v2 v3 h => Eq.mpr (by kernel_rfl) h
  , trivial⟩
theorem Qfn_w : EntOK Tryz.prog TT Qfn_e := ent_ok tabok (L := [Qfm_e]) ⟨Qfm_w, trivial⟩ (keep := (kk [0, 1, 4, 7, 8])) (l := Qfn_l) Tryz.func174 (by kernel_rfl) (sg := [.one (.sc)]) (by kernel_rfl) Qfn_s fun av k h => by
  unfold Qfn at h; split at h
  · exact Eq.mpr (by kernel_rfl) h
  · exact h.elim
def Qfo : GM
 | [.one a0, .fn 124 []], k => 
  call Qfn [.one a0, .fn 124 []] fun o0 =>
  binP .geq (atP o0 0) (I 0) fun r1 =>
  rt [.sc] [r1] k
 | _, _ => False
abbrev Qfo_e : Ent := ⟨[123, 124], Qfo⟩
theorem Qfo_w : EntOK Tryz.prog TT Qfo_e := ent_ok tabok (L := [Qfn_e]) ⟨Qfn_w, trivial⟩ (keep := []) (l := []) Tryz.func123 (by kernel_rfl) (sg := [.one (.sc)]) (by kernel_rfl) trivial fun av k h => by
  unfold Qfo at h; split at h
  · exact Eq.mpr (by kernel_rfl) h
  · exact h.elim
def Qfp : GM
 | [.agg u0], k => un 1 (fun a0 => 
  lenP a0 fun r0 =>
  binP .gtr r0 (I 20) fun r1 =>
  iteP r1
   (rt [.sc] [(.bool true)] k)
   (call Qfk [.one a0] fun o2 =>
   unP .not (atP o2 0) fun r3 =>
   iteP r3
    (rt [.sc] [(.bool true)] k)
    (call Qfo [.one a0, .fn 124 []] fun o4 =>
    rt [.sc] [(atP o4 0)] k))) u0
 | _, _ => False
abbrev Qfp_e : Ent := ⟨[121], Qfp⟩
theorem Qfp_w : EntOK Tryz.prog TT Qfp_e := ent_ok tabok (L := [Qfk_e, Qfo_e]) ⟨Qfk_w, Qfo_w, trivial⟩ (keep := []) (l := []) Tryz.func121 (by kernel_rfl) (sg := [.one (.sc)]) (by kernel_rfl) trivial fun av k h => by
  unfold Qfp at h; split at h
  · apply un_all h; clear h; intro a0 h; exact Eq.mpr (by kernel_rfl) h
  · exact h.elim
def Qfq_r0 (v : List PV) (K : List PV → Prop) (x0k : PV → Prop) (x1k : PV → PV → PV → PV → Prop) : Prop :=
 un 4 (fun v0 v1 v2 v3 =>
  binP .lss v3 v2 fun r0 =>
  iteP r0
   (elemP 1 v0 v3 fun c1 =>
   call Qfp [.agg [(atP c1 0)]] fun o2 =>
   iteP (atP o2 0)
    (x0k v3)
    (binP .add v3 (I 1) fun r3 =>
    K [v0, v1, v2, r3]))
   (x1k v0 v1 v2 v3)) v
def Qfq : GM
 | [.one a0, .fn 121 []], k => 
  lenP a0 fun r0 =>
  lp (fun L w => Qfq_r0 w L
   (fun q4 => rt [.sc] [q4] k)
   (fun q5 q6 q7 q8 => rt [.sc] [(I (-1))] k)) [a0, (I 0), r0, (I 0)]
 | _, _ => False
abbrev Qfq_e : Ent := ⟨[173, 121], Qfq⟩
def Qfq_l : List LE := [⟨0, ⟨[(0, .one zB), (1, .one (.fn 121 [])), (4, .one zB), (7, .one zB), (8, .one zB)], [], [], 0, 19⟩, fun K k v => Qfq_r0 v K (fun x0 => k .ret ⟨[(4, .one (.pv x0))], [], [], 1, 19⟩) (fun x0 x1 x2 x3 => k (.exit 0) ⟨[(0, .one (.pv x0)), (1, .one (.fn 121 [])), (4, .one (.pv x1)), (7, .one (.pv x2)), (8, .one (.pv x3))], [], [], 0, 19⟩)⟩]
theorem Qfq_s : LEsOK (orac [Qfp_e]) TT (kk [0, 1, 4, 7, 8]) (sumsOf Qfq_l) Tryz.f173 Qfq_l := ⟨fun v K k h => by
  apply un_all h; exact fun v0 v1 v2 v3 h => Eq.mpr (by kernel_rfl) h
  , trivial⟩
theorem Qfq_w : EntOK Tryz.prog TT Qfq_e := ent_ok tabok (L := [Qfp_e]) ⟨Qfp_w, trivial⟩ (keep := (kk [0, 1, 4, 7, 8])) (l := Qfq_l) Tryz.func173 (by kernel_rfl) (sg := [.one (.sc)]) (by kernel_rfl) Qfq_s fun av k h => by
  unfold Qfq at h; split at h
  · exact Eq.mpr (by kernel_rfl) h
  · exact h.elim
def Qfr : GM
 | [.one a0, .fn 121 []], k => 
  call Qfq [.one a0, .fn 121 []] fun o0 =>
  binP .geq (atP o0 0) (I 0) fun r1 =>
  rt [.sc] [r1] k
 | _, _ => False
abbrev Qfr_e : Ent := ⟨[120, 121], Qfr⟩
theorem Qfr_w : EntOK Tryz.prog TT Qfr_e := ent_ok tabok (L := [Qfq_e]) ⟨Qfq_w, trivial⟩ (keep := []) (l := []) Tryz.func120 (by kernel_rfl) (sg := [.one (.sc)]) (by kernel_rfl) trivial fun av k h => by
  unfold Qfr at h; split at h
  · exact Eq.mpr (by kernel_rfl) h
  · exact h.elim
def Qfs : GM
 | [.one a0], k => 
  lenP a0 fun r0 =>
  binP .leq r0 (I 4) fun r1 =>
  iteP r1
   (call Qfr [.one a0, .fn 121 []] fun o2 =>
   unP .not (atP o2 0) fun r3 =>
   rt [.sc] [r3] k)
   (rt [.sc] [(.bool false)] k)
 | _, _ => False
abbrev Qfs_e : Ent := ⟨[69], Qfs⟩
theorem Qfs_w : EntOK Tryz.prog TT Qfs_e := ent_ok tabok (L := [Qfr_e]) ⟨Qfr_w, trivial⟩ (keep := []) (l := []) Tryz.func69 (by kernel_rfl) (sg := [.one (.sc)]) (by kernel_rfl) trivial fun av k h => by
  unfold Qfs at h; split at h
  · exact Eq.mpr (by kernel_rfl) h
  · exact h.elim
def Qft : GM
 | [.one a0], k => 
  call Qfj [.one a0, .one (I 0), .one (I 2147483646)] fun o0 =>
  rt [.sc] [(atP o0 0)] k
 | _, _ => False
abbrev Qft_e : Ent := ⟨[268], Qft⟩
theorem Qft_w : EntOK Tryz.prog TT Qft_e := ent_ok tabok (L := [Qfj_e]) ⟨Qfj_w, trivial⟩ (keep := []) (l := []) Tryz.func268 (by kernel_rfl) (sg := [.one (.sc)]) (by kernel_rfl) trivial fun av k h => by
  unfold Qft at h; split at h
  · exact Eq.mpr (by kernel_rfl) h
  · exact h.elim
def Qfu : GM
 | [.agg u0], k => un 16 (fun a0 a1 a2 a3 a4 a5 a6 a7 a8 a9 a10 a11 a12 a13 a14 a15 => 
  binP .geq a3 (I 0) fun r0 =>
  iteP r0
   (binP .leq a3 a4 fun r1 =>
   iteP r1
    (binP .leq a4 (I 100000) fun r2 =>
    iteP r2
     (binP .sub a4 a3 fun r3 =>
     binP .leq r3 (I 200) fun r4 =>
     rt [.sc] [r4] k)
     (rt [.sc] [(.bool false)] k))
    (rt [.sc] [(.bool false)] k))
   (rt [.sc] [(.bool false)] k)) u0
 | _, _ => False
abbrev Qfu_e : Ent := ⟨[274], Qfu⟩
theorem Qfu_w : EntOK Tryz.prog TT Qfu_e := ent_ok tabok (L := []) trivial (keep := []) (l := []) Tryz.func274 (by kernel_rfl) (sg := [.one (.sc)]) (by kernel_rfl) trivial fun av k h => by
  unfold Qfu at h; split at h
  · apply un_all h; clear h; intro a0 a1 a2 a3 a4 a5 a6 a7 a8 a9 a10 a11 a12 a13 a14 a15 h; exact Eq.mpr (by kernel_rfl) h
  · exact h.elim
def Qfv : GM
 | [.agg u0], k => un 2 (fun a0 a1 => 
  lenP a0 fun r0 =>
  call Qfj [.one r0, .one (I 1), .one (I 4)] fun o1 =>
  iteP (atP o1 0)
   (call Qfk [.one a0] fun o2 =>
   iteP (atP o2 0)
    (elemP 1 a0 (I 0) fun c3 =>
    call Qfl [.one (atP c3 0)] fun o4 =>
    iteP (atP o4 0)
     (lenP a0 fun r5 =>
     binP .sub r5 (I 1) fun r6 =>
     elemP 1 a0 r6 fun c7 =>
     call Qfl [.one (atP c7 0)] fun o8 =>
     iteP (atP o8 0)
      (lenP a0 fun r9 =>
      call Qfj [.one a1, .one (I 1), .one r9] fun o10 =>
      rt [.sc] [(atP o10 0)] k)
      (rt [.sc] [(.bool false)] k))
     (rt [.sc] [(.bool false)] k))
    (rt [.sc] [(.bool false)] k))
   (rt [.sc] [(.bool false)] k)) u0
 | _, _ => False
abbrev Qfv_e : Ent := ⟨[189], Qfv⟩
theorem Qfv_w : EntOK Tryz.prog TT Qfv_e := ent_ok tabok (L := [Qfj_e, Qfk_e, Qfl_e]) ⟨Qfj_w, Qfk_w, Qfl_w, trivial⟩ (keep := []) (l := []) Tryz.func189 (by kernel_rfl) (sg := [.one (.sc)]) (by kernel_rfl) trivial fun av k h => by
  unfold Qfv at h; split at h
  · apply un_all h; clear h; intro a0 a1 h; exact Eq.mpr (by kernel_rfl) h
  · exact h.elim
def Qfw : GM
 | [.agg u0], k => un 2 (fun a0 a1 => 
  binP .eql a1 (I 0) fun r0 =>
  iteP r0
   (lenP a0 fun r1 =>
   binP .eql r1 (I 0) fun r2 =>
   rt [.sc] [r2] k)
   (rt [.sc] [(.bool false)] k)) u0
 | _, _ => False
abbrev Qfw_e : Ent := ⟨[277], Qfw⟩
theorem Qfw_w : EntOK Tryz.prog TT Qfw_e := ent_ok tabok (L := []) trivial (keep := []) (l := []) Tryz.func277 (by kernel_rfl) (sg := [.one (.sc)]) (by kernel_rfl) trivial fun av k h => by
  unfold Qfw at h; split at h
  · apply un_all h; clear h; intro a0 a1 h; exact Eq.mpr (by kernel_rfl) h
  · exact h.elim
def Qfx : GM
 | [.agg u0], k => un 2 (fun a0 a1 => 
  call Qfw [.agg [a0, a1]] fun o0 =>
  iteP (atP o0 0)
   (rt [.sc] [(.bool true)] k)
   (call Qfv [.agg [a0, a1]] fun o1 =>
   rt [.sc] [(atP o1 0)] k)) u0
 | _, _ => False
abbrev Qfx_e : Ent := ⟨[275], Qfx⟩
theorem Qfx_w : EntOK Tryz.prog TT Qfx_e := ent_ok tabok (L := [Qfw_e, Qfv_e]) ⟨Qfw_w, Qfv_w, trivial⟩ (keep := []) (l := []) Tryz.func275 (by kernel_rfl) (sg := [.one (.sc)]) (by kernel_rfl) trivial fun av k h => by
  unfold Qfx at h; split at h
  · apply un_all h; clear h; intro a0 a1 h; exact Eq.mpr (by kernel_rfl) h
  · exact h.elim
def Qfy : GM
 | [.one a0, .agg u0], k => un 2 (fun a1 a2 => 
  call Qfw [.agg [a1, a2]] fun o0 =>
  iteP (atP o0 0)
   (binP .eql a0 (I 0) fun r1 =>
   rt [.sc] [r1] k)
   (call Qfj [.one a0, .one (I 1), .one (I 500)] fun o2 =>
   rt [.sc] [(atP o2 0)] k)) u0
 | _, _ => False
abbrev Qfy_e : Ent := ⟨[276], Qfy⟩
theorem Qfy_w : EntOK Tryz.prog TT Qfy_e := ent_ok tabok (L := [Qfw_e, Qfj_e]) ⟨Qfw_w, Qfj_w, trivial⟩ (keep := []) (l := []) Tryz.func276 (by kernel_rfl) (sg := [.one (.sc)]) (by kernel_rfl) trivial fun av k h => by
  unfold Qfy at h; split at h
  · apply un_all h; clear h; intro a1 a2 h; exact Eq.mpr (by kernel_rfl) h
  · exact h.elim
def Qfz : GM
 | [.agg u0], k => un 16 (fun a0 a1 a2 a3 a4 a5 a6 a7 a8 a9 a10 a11 a12 a13 a14 a15 => 
  call Qft [.one a0] fun o0 =>
  iteP (atP o0 0)
   (call Qft [.one a6] fun o1 =>
   iteP (atP o1 0)
    (call Qft [.one a7] fun o2 =>
    iteP (atP o2 0)
     (call Qfj [.one a1, .one (I 0), .one (I 200)] fun o3 =>
     iteP (atP o3 0)
      (call Qfj [.one a2, .one (I 1), .one (I 3)] fun o4 =>
      iteP (atP o4 0)
       (call Qfu [.agg [a0, a1, a2, a3, a4, a5, a6, a7, a8, a9, a10, a11, a12, a13, a14, a15]] fun o5 =>
       iteP (atP o5 0)
        (call Qfj [.one a5, .one (I 0), .one (I 12)] fun o6 =>
        iteP (atP o6 0)
         (call Qfv [.agg [a8, a9]] fun o7 =>
         iteP (atP o7 0)
          (call Qfx [.agg [a10, a11]] fun o8 =>
          iteP (atP o8 0)
           (call Qfx [.agg [a13, a14]] fun o9 =>
           iteP (atP o9 0)
            (call Qfy [.one a12, .agg [a10, a11]] fun o10 =>
            iteP (atP o10 0)
             (iteP a15
              (call Qfw [.agg [a13, a14]] fun o11 =>
              unP .not (atP o11 0) fun r12 =>
              rt [.sc] [r12] k)
              (rt [.sc] [(.bool true)] k))
             (rt [.sc] [(.bool false)] k))
            (rt [.sc] [(.bool false)] k))
           (rt [.sc] [(.bool false)] k))
          (rt [.sc] [(.bool false)] k))
         (rt [.sc] [(.bool false)] k))
        (rt [.sc] [(.bool false)] k))
       (rt [.sc] [(.bool false)] k))
      (rt [.sc] [(.bool false)] k))
     (rt [.sc] [(.bool false)] k))
    (rt [.sc] [(.bool false)] k))
   (rt [.sc] [(.bool false)] k)) u0
 | _, _ => False
abbrev Qfz_e : Ent := ⟨[231], Qfz⟩
theorem Qfz_w : EntOK Tryz.prog TT Qfz_e := ent_ok tabok (L := [Qft_e, Qfj_e, Qfu_e, Qfv_e, Qfx_e, Qfy_e, Qfw_e]) ⟨Qft_w, Qfj_w, Qfu_w, Qfv_w, Qfx_w, Qfy_w, Qfw_w, trivial⟩ (keep := []) (l := []) Tryz.func231 (by kernel_rfl) (sg := [.one (.sc)]) (by kernel_rfl) trivial fun av k h => by
  unfold Qfz at h; split at h
  · apply un_all h; clear h; intro a0 a1 a2 a3 a4 a5 a6 a7 a8 a9 a10 a11 a12 a13 a14 a15 h; exact Eq.mpr (by kernel_rfl) h
  · exact h.elim
def Qga : GM
 | [.agg u0], k => un 2 (fun a0 a1 => 
  lenP a0 fun r0 =>
  (2 = 2) ∧ (2 ≤ 16777216) ∧ (1 = 1) ∧ (0 = 0) ∧ (1 = 1) ∧ (flatCond [.pv (I 0)] [.pv a1]) ∧ (1 = 1) ∧ (1 = 1) ∧ (flatCond [.pv (I 0)] [.pv r0]) ∧ (flatRows a0) ∧ catP 1 (.list 1 [[a1], [r0]]) a0 fun r1 =>
  rt [.own true 3 1] [r1] k) u0
 | _, _ => False
abbrev Qga_e : Ent := ⟨[243], Qga⟩
theorem Qga_w : EntOK Tryz.prog TT Qga_e := ent_ok tabok (L := []) trivial (keep := []) (l := []) Tryz.func243 (by kernel_rfl) (sg := [.one (.own true 3 1)]) (by kernel_rfl) trivial fun av k h => by
  unfold Qga at h; split at h
  · apply un_all h; clear h; intro a0 a1 h; exact Eq.mpr (by kernel_rfl) h
  · exact h.elim
def Qgb : GM
 | [.one a0, .one a1], k => 
  call Qfj [.one a1, .one (I 1), .one (I 1000000000000)] fun o0 =>
  unP .not (atP o0 0) fun r1 =>
  iteP r1
   (rt [.sc] [(I 0)] k)
   (binP .rem a0 a1 fun r2 =>
   binP .add r2 a1 fun r3 =>
   binP .rem r3 a1 fun r4 =>
   rt [.sc] [r4] k)
 | _, _ => False
abbrev Qgb_e : Ent := ⟨[302], Qgb⟩
theorem Qgb_w : EntOK Tryz.prog TT Qgb_e := ent_ok tabok (L := [Qfj_e]) ⟨Qfj_w, trivial⟩ (keep := []) (l := []) Tryz.func302 (by kernel_rfl) (sg := [.one (.sc)]) (by kernel_rfl) trivial fun av k h => by
  unfold Qgb at h; split at h
  · exact Eq.mpr (by kernel_rfl) h
  · exact h.elim
def Qgc_r0 (v : List PV) (K : List PV → Prop) (x0k : PV → PV → PV → PV → PV → Prop) : Prop :=
 un 5 (fun v0 v1 v2 v3 v4 =>
  binP .lss v4 v3 fun r0 =>
  iteP r0
   (elemP 1 v2 v4 fun c1 =>
   binP .mul v1 (I 1000003) fun r2 =>
   call Qgb [.one (atP c1 0), .one (I 2147483647)] fun o3 =>
   binP .add r2 (atP o3 0) fun r4 =>
   binP .add r4 (I 13) fun r5 =>
   binP .rem r5 (I 2147483647) fun r6 =>
   binP .add v4 (I 1) fun r7 =>
   K [v0, r6, v2, v3, r7])
   (x0k v0 v1 v2 v3 v4)) v
def Qgc : GM
 | [.one a0], k => 
  lenP a0 fun r0 =>
  lp (fun L w => Qgc_r0 w L
   (fun q8 q9 q10 q11 q12 => rt [.sc] [q9] k)) [(I 0), (I 11), a0, r0, (I 0)]
 | _, _ => False
abbrev Qgc_e : Ent := ⟨[278], Qgc⟩
def Qgc_l : List LE := [⟨0, ⟨[(2, .one zB), (3, .one zB), (6, .one zB), (7, .one zB), (8, .one zB)], [], [], 0, 21⟩, fun K k v => Qgc_r0 v K (fun x0 x1 x2 x3 x4 => k (.exit 0) ⟨[(2, .one (.pv x0)), (3, .one (.pv x1)), (6, .one (.pv x2)), (7, .one (.pv x3)), (8, .one (.pv x4))], [], [], 0, 21⟩)⟩]
theorem Qgc_s : LEsOK (orac [Qgb_e]) TT (kk [2, 3, 6, 7, 8]) (sumsOf Qgc_l) Tryz.f278 Qgc_l := ⟨fun v K k h => by
  apply un_all h; exact fun v0 v1 v2 v3 v4 h => Eq.mpr (by kernel_rfl) h
  , trivial⟩
theorem Qgc_w : EntOK Tryz.prog TT Qgc_e := ent_ok tabok (L := [Qgb_e]) ⟨Qgb_w, trivial⟩ (keep := (kk [2, 3, 6, 7, 8])) (l := Qgc_l) Tryz.func278 (by kernel_rfl) (sg := [.one (.sc)]) (by kernel_rfl) Qgc_s fun av k h => by
  unfold Qgc at h; split at h
  · exact Eq.mpr (by kernel_rfl) h
  · exact h.elim
def Qgd : GM
 | [.agg u0, .one a2], k => un 2 (fun a0 a1 => 
  (2 = 2) ∧ (2 ≤ 16777216) ∧ (1 = 1) ∧ (0 = 0) ∧ (1 = 1) ∧ (flatCond [.pv (I 0)] [.pv (I 239)]) ∧ (1 = 1) ∧ (1 = 1) ∧ (flatCond [.pv (I 0)] [.pv a2]) ∧ call Qga [.agg [a0, a1]] fun o0 =>
  catP 1 (.list 1 [[(I 239)], [a2]]) (atP o0 0) fun r1 =>
  call Qgc [.one r1] fun o2 =>
  rt [.sc] [(atP o2 0)] k) u0
 | _, _ => False
abbrev Qgd_e : Ent := ⟨[232], Qgd⟩
theorem Qgd_w : EntOK Tryz.prog TT Qgd_e := ent_ok tabok (L := [Qga_e, Qgc_e]) ⟨Qga_w, Qgc_w, trivial⟩ (keep := []) (l := []) Tryz.func232 (by kernel_rfl) (sg := [.one (.sc)]) (by kernel_rfl) trivial fun av k h => by
  unfold Qgd at h; split at h
  · apply un_all h; clear h; intro a0 a1 h; exact Eq.mpr (by kernel_rfl) h
  · exact h.elim
def Qge : GM
 | [.one a0], k => 
  iteP a0
   (rt [.sc] [(I 1)] k)
   (rt [.sc] [(I 0)] k)
 | _, _ => False
abbrev Qge_e : Ent := ⟨[244], Qge⟩
theorem Qge_w : EntOK Tryz.prog TT Qge_e := ent_ok tabok (L := []) trivial (keep := []) (l := []) Tryz.func244 (by kernel_rfl) (sg := [.one (.sc)]) (by kernel_rfl) trivial fun av k h => by
  unfold Qge at h; split at h
  · exact Eq.mpr (by kernel_rfl) h
  · exact h.elim
def Qgf : GM
 | [.nil 3 1, .one a0], k => 
  binP .lss a0 (I 0) fun r0 =>
  iteP r0
   (False)
   (lenP (.list 1 []) fun r1 =>
   binP .sub (I 0) r1 fun r2 =>
   binP .sub a0 r2 fun r3 =>
   binP .gtr r3 (I 0) fun r4 =>
   iteP r4
    (natP (I 0) fun n5 =>
    (0 = 0) ∧ (n5 = 0) ∧ ((Go.Ev.tI.ik = some Go.IntKind.i64)) ∧ (1 = 1) ∧ makeP 1 r3 [(I 0)] fun r6 =>
    lenP (.list 1 []) fun r7 =>
    natP r7 fun n8 =>
    cutP 1 r6 none (some n8) fun r9 =>
    rt [.own true 3 1] [r9] k)
    (rt [.own true 3 1] [(.list 1 [])] k))
 | _, _ => False
abbrev Qgf_e : Ent := ⟨[288, 999999], Qgf⟩
theorem Qgf_w : EntOK Tryz.prog TT Qgf_e := ent_okM tabok (L := []) trivial (keep := []) (l := []) Tryz.func288 (by kernel_rfl) (sg := [.one (.own true 3 1)]) (by kernel_rfl) trivial fun av k h => by
  unfold Qgf at h; split at h
  · exact Eq.mpr (by kernel_rfl) h
  · exact h.elim
def Qgg_r0 (v : List PV) (K : List PV → Prop) (x0k : PV → PV → PV → PV → PV → PV → Prop) : Prop :=
 un 6 (fun v0 v1 v2 v3 v4 v5 =>
  binP .lss v4 v3 fun r0 =>
  iteP r0
   (elemP 1 v2 v4 fun c1 =>
   lenP (atP c1 0) fun r2 =>
   binP .add v1 r2 fun r3 =>
   binP .lss r3 (I 0) fun r4 =>
   iteP r4
    (False)
    (binP .add v4 (I 1) fun r5 =>
    K [v0, r3, v2, v3, r5, v5]))
   (x0k v0 v1 v2 v3 v4 v5)) v
def Qgg_r1 (v : List PV) (K : List PV → Prop) (x0k : PV → PV → PV → PV → PV → PV → PV → PV → PV → PV → Prop) : Prop :=
 un 10 (fun v0 v1 v2 v3 v4 v5 v6 v7 v8 v9 =>
  binP .lss v7 v6 fun r0 =>
  iteP r0
   (elemP 1 v5 v7 fun c1 =>
   (flatRows (atP c1 0)) ∧ catP 1 v8 (atP c1 0) fun r2 =>
   binP .add v7 (I 1) fun r3 =>
   K [v0, v1, v2, v3, v4, v5, v6, r3, r2, v9])
   (x0k v0 v1 v2 v3 v4 v5 v6 v7 v8 v9)) v
def Qgg : GM
 | [.one a0], k => 
  lenP a0 fun r0 =>
  lp (fun L w => Qgg_r0 w L
   (fun q6 q7 q8 q9 q10 q11 => call Qgf [.nil 3 1, .one q7] fun o12 =>
    lenP q6 fun r13 =>
    lp (fun L w => Qgg_r1 w L
     (fun q14 q15 q16 q17 q18 q19 q20 q21 q22 q23 => rt [.own true 3 1] [q22] k)) [q6, q7, q8, q9, q10, q6, r13, (I 0), (atP o12 0), q11])) [a0, (I 0), a0, r0, (I 0), (.list 1 [])]
 | _, _ => False
abbrev Qgg_e : Ent := ⟨[242], Qgg⟩
def Qgg_l : List LE := [⟨0, ⟨[(0, .one zB), (2, .one (.own 0)), (3, .one zB), (9, .one zB), (10, .one zB), (11, .one zB)], [], [(0, ⟨.deep, 3, 1, (.bool false)⟩)], 1, 36⟩, fun K k v => Qgg_r0 v K (fun x0 x1 x2 x3 x4 x5 => k (.exit 0) ⟨[(0, .one (.pv x0)), (2, .one (.own 0)), (3, .one (.pv x1)), (9, .one (.pv x2)), (10, .one (.pv x3)), (11, .one (.pv x4))], [], [(0, ⟨.deep, 3, 1, x5⟩)], 1, 36⟩)⟩,
  ⟨1, ⟨[(0, .one zB), (2, .one (.own 0)), (3, .one zB), (6, .one (.own 1)), (9, .one zB), (10, .one zB), (11, .one zB), (25, .one zB), (26, .one zB), (27, .one zB)], [], [(1, ⟨.deep, 3, 1, (.bool false)⟩), (0, ⟨.deep, 3, 1, (.bool false)⟩)], 2, 36⟩, fun K k v => Qgg_r1 v K (fun x0 x1 x2 x3 x4 x5 x6 x7 x8 x9 => k (.exit 2) ⟨[(0, .one (.pv x0)), (2, .one (.own 0)), (3, .one (.pv x1)), (6, .one (.own 1)), (9, .one (.pv x2)), (10, .one (.pv x3)), (11, .one (.pv x4)), (25, .one (.pv x5)), (26, .one (.pv x6)), (27, .one (.pv x7))], [], [(1, ⟨.deep, 3, 1, x8⟩), (0, ⟨.deep, 3, 1, x9⟩)], 2, 36⟩)⟩]
theorem Qgg_s : LEsOK (orac [Qgf_e]) TT (kk [0, 2, 3, 6, 9, 10, 11, 25, 26, 27]) (sumsOf Qgg_l) Tryz.f242 Qgg_l := ⟨fun v K k h => by
  apply un_all h; exact fun v0 v1 v2 v3 v4 v5 h => Eq.mpr (by kernel_rfl) h
  , fun v K k h => by
  apply un_all h; exact fun v0 v1 v2 v3 v4 v5 v6 v7 v8 v9 h => Eq.mpr (by kernel_rfl) h
  , trivial⟩
theorem Qgg_w : EntOK Tryz.prog TT Qgg_e := ent_ok tabok (L := [Qgf_e]) ⟨Qgf_w, trivial⟩ (keep := (kk [0, 2, 3, 6, 9, 10, 11, 25, 26, 27])) (l := Qgg_l) Tryz.func242 (by kernel_rfl) (sg := [.one (.own true 3 1)]) (by kernel_rfl) Qgg_s fun av k h => by
  unfold Qgg at h; split at h
  · exact Eq.mpr (by kernel_rfl) h
  · exact h.elim
def Qgh : GM
 | [.agg u0], k => un 16 (fun a0 a1 a2 a3 a4 a5 a6 a7 a8 a9 a10 a11 a12 a13 a14 a15 => 
  (8 = 8) ∧ (8 ≤ 16777216) ∧ (1 = 1) ∧ (0 = 0) ∧ (1 = 1) ∧ (flatCond [.pv (I 0)] [.pv a0]) ∧ (1 = 1) ∧ (1 = 1) ∧ (flatCond [.pv (I 0)] [.pv a1]) ∧ (2 = 2) ∧ (1 = 1) ∧ (flatCond [.pv (I 0)] [.pv a2]) ∧ (3 = 3) ∧ (1 = 1) ∧ (flatCond [.pv (I 0)] [.pv a3]) ∧ (4 = 4) ∧ (1 = 1) ∧ (flatCond [.pv (I 0)] [.pv a4]) ∧ (5 = 5) ∧ (1 = 1) ∧ (flatCond [.pv (I 0)] [.pv a5]) ∧ (6 = 6) ∧ (1 = 1) ∧ (flatCond [.pv (I 0)] [.pv a6]) ∧ (7 = 7) ∧ (1 = 1) ∧ (flatCond [.pv (I 0)] [.pv a7]) ∧ call Qga [.agg [a8, a9]] fun o0 =>
  call Qga [.agg [a10, a11]] fun o1 =>
  (1 = 1) ∧ (1 ≤ 16777216) ∧ (1 = 1) ∧ (0 = 0) ∧ (1 = 1) ∧ (flatCond [.pv (I 0)] [.pv a12]) ∧ call Qga [.agg [a13, a14]] fun o2 =>
  call Qge [.one a15] fun o3 =>
  (1 = 1) ∧ (1 ≤ 16777216) ∧ (1 = 1) ∧ (0 = 0) ∧ (1 = 1) ∧ (flatCond [.pv (I 0)] [.pv (atP o3 0)]) ∧ (6 = 6) ∧ (6 ≤ 16777216) ∧ (1 = 1) ∧ (0 = 0) ∧ (1 = 1) ∧ (flatCond [.nil 3 1] [.own 1]) ∧ (1 = 1) ∧ (1 = 1) ∧ (flatCond [.nil 3 1] [.own 2]) ∧ (2 = 2) ∧ (1 = 1) ∧ (flatCond [.nil 3 1] [.own 3]) ∧ (3 = 3) ∧ (1 = 1) ∧ (flatCond [.nil 3 1] [.own 4]) ∧ (4 = 4) ∧ (1 = 1) ∧ (flatCond [.nil 3 1] [.own 5]) ∧ (5 = 5) ∧ (1 = 1) ∧ (flatCond [.nil 3 1] [.own 7]) ∧ call Qgg [.one (.list 1 [[(.list 1 [[a0], [a1], [a2], [a3], [a4], [a5], [a6], [a7]])], [(atP o0 0)], [(atP o1 0)], [(.list 1 [[a12]])], [(atP o2 0)], [(.list 1 [[(atP o3 0)]])]])] fun o4 =>
  rt [.own true 3 1] [(atP o4 0)] k) u0
 | _, _ => False
abbrev Qgh_e : Ent := ⟨[192], Qgh⟩
theorem Qgh_w : EntOK Tryz.prog TT Qgh_e := ent_ok tabok (L := [Qga_e, Qge_e, Qgg_e]) ⟨Qga_w, Qge_w, Qgg_w, trivial⟩ (keep := []) (l := []) Tryz.func192 (by kernel_rfl) (sg := [.one (.own true 3 1)]) (by kernel_rfl) trivial fun av k h => by
  unfold Qgh at h; split at h
  · apply un_all h; clear h; intro a0 a1 a2 a3 a4 a5 a6 a7 a8 a9 a10 a11 a12 a13 a14 a15 h; exact Eq.mpr (by kernel_rfl) h
  · exact h.elim
def Qgi : GM
 | [.one a0, .one a1], k => 
  (1 = 1) ∧ (1 ≤ 16777216) ∧ (1 = 1) ∧ (0 = 0) ∧ (1 = 1) ∧ (flatCond [.pv (I 0)] [.pv a0]) ∧ (1 = 1) ∧ (1 ≤ 16777216) ∧ (1 = 1) ∧ (0 = 0) ∧ (1 = 1) ∧ (flatCond [.pv (I 0)] [.pv a0]) ∧ (3 = 3) ∧ (3 ≤ 16777216) ∧ (1 = 1) ∧ (0 = 0) ∧ (1 = 1) ∧ (flatCond [.nil 3 1] [.own 0]) ∧ (1 = 1) ∧ (1 = 1) ∧ (2 = 2) ∧ (1 = 1) ∧ (flatCond [.nil 3 1] [.own 1]) ∧ call Qgg [.one (.list 1 [[(.list 1 [[a0]])], [a1], [(.list 1 [[a0]])]])] fun o0 =>
  call Qgc [.one (atP o0 0)] fun o1 =>
  rt [.sc] [(atP o1 0)] k
 | _, _ => False
abbrev Qgi_e : Ent := ⟨[319], Qgi⟩
theorem Qgi_w : EntOK Tryz.prog TT Qgi_e := ent_ok tabok (L := [Qgg_e, Qgc_e]) ⟨Qgg_w, Qgc_w, trivial⟩ (keep := []) (l := []) Tryz.func319 (by kernel_rfl) (sg := [.one (.sc)]) (by kernel_rfl) trivial fun av k h => by
  unfold Qgi at h; split at h
  · exact Eq.mpr (by kernel_rfl) h
  · exact h.elim
def Qgj : GM
 | [.one a0, .one a1], k => 
  (1 = 1) ∧ (1 ≤ 16777216) ∧ (1 = 1) ∧ (0 = 0) ∧ (1 = 1) ∧ (flatCond [.pv (I 0)] [.pv (I 223)]) ∧ (flatRows a1) ∧ catP 1 (.list 1 [[(I 223)]]) a1 fun r0 =>
  call Qgi [.one a0, .one r0] fun o1 =>
  rt [.sc] [(atP o1 0)] k
 | _, _ => False
abbrev Qgj_e : Ent := ⟨[318], Qgj⟩
theorem Qgj_w : EntOK Tryz.prog TT Qgj_e := ent_ok tabok (L := [Qgi_e]) ⟨Qgi_w, trivial⟩ (keep := []) (l := []) Tryz.func318 (by kernel_rfl) (sg := [.one (.sc)]) (by kernel_rfl) trivial fun av k h => by
  unfold Qgj at h; split at h
  · exact Eq.mpr (by kernel_rfl) h
  · exact h.elim
def Qgk : GM
 | [.agg u0, .one a2], k => un 2 (fun a0 a1 => 
  call Qfl [.one a0] fun o0 =>
  iteP (atP o0 0)
   (call Qgj [.one a0, .one a2] fun o1 =>
   binP .eql a1 (atP o1 0) fun r2 =>
   rt [.sc] [r2] k)
   (rt [.sc] [(.bool false)] k)) u0
 | _, _ => False
abbrev Qgk_e : Ent := ⟨[313], Qgk⟩
theorem Qgk_w : EntOK Tryz.prog TT Qgk_e := ent_ok tabok (L := [Qfl_e, Qgj_e]) ⟨Qfl_w, Qgj_w, trivial⟩ (keep := []) (l := []) Tryz.func313 (by kernel_rfl) (sg := [.one (.sc)]) (by kernel_rfl) trivial fun av k h => by
  unfold Qgk at h; split at h
  · apply un_all h; clear h; intro a0 a1 h; exact Eq.mpr (by kernel_rfl) h
  · exact h.elim
def Qgl : GM
 | [.agg u0, .ro (.cells u1), .ro (.cells u2)], k => un 2 (fun a0 a1 => un 1 (fun a2 => un 1 (fun a3 => 
  binP .eql a0 a2 fun r0 =>
  iteP r0
   (call Qgk [.agg [a0, a1], .one a3] fun o1 =>
   rt [.sc] [(atP o1 0)] k)
   (rt [.sc] [(.bool false)] k)) u2) u1) u0
 | _, _ => False
abbrev Qgl_e : Ent := ⟨[312], Qgl⟩
theorem Qgl_w : EntOK Tryz.prog TT Qgl_e := ent_ok tabok (L := [Qgk_e]) ⟨Qgk_w, trivial⟩ (keep := []) (l := []) Tryz.func312 (by kernel_rfl) (sg := [.one (.sc)]) (by kernel_rfl) trivial fun av k h => by
  unfold Qgl at h; split at h
  · apply un_all h; clear h; intro a0 a1 h; apply un_all h; clear h; intro a2 h; apply un_all h; clear h; intro a3 h; exact Eq.mpr (by kernel_rfl) h
  · exact h.elim
def Qgm_r0 (v : List PV) (K : List PV → Prop) (x0k : PV → Prop) (x1k : PV → PV → PV → PV → PV → PV → Prop) : Prop :=
 un 6 (fun v0 v1 v2 v3 v4 v5 =>
  binP .lss v5 v4 fun r0 =>
  iteP r0
   (elemP 2 v0 v5 fun c1 =>
   call Qgl [.agg [(atP c1 0), (atP c1 1)], .ro (.cells [v1]), .ro (.cells [v2])] fun o2 =>
   iteP (atP o2 0)
    (x0k v5)
    (binP .add v5 (I 1) fun r3 =>
    K [v0, v1, v2, v3, v4, r3]))
   (x1k v0 v1 v2 v3 v4 v5)) v
def Qgm : GM
 | [.one a0, .fn 312 [.cells u0, .cells u1]], k => un 1 (fun a1 => un 1 (fun a2 => 
  lenP a0 fun r0 =>
  lp (fun L w => Qgm_r0 w L
   (fun q4 => rt [.sc] [q4] k)
   (fun q5 q6 q7 q8 q9 q10 => rt [.sc] [(I (-1))] k)) [a0, a1, a2, (I 0), r0, (I 0)]) u1) u0
 | _, _ => False
abbrev Qgm_e : Ent := ⟨[317, 312], Qgm⟩
def Qgm_l : List LE := [⟨0, ⟨[(0, .one zB), (1, .one (.fn 312 [.ro (.cells [(.bool false)]), .ro (.cells [(.bool false)])])), (4, .one zB), (7, .one zB), (8, .one zB)], [], [], 0, 19⟩, fun K k v => Qgm_r0 v K (fun x0 => k .ret ⟨[(4, .one (.pv x0))], [], [], 1, 19⟩) (fun x0 x1 x2 x3 x4 x5 => k (.exit 0) ⟨[(0, .one (.pv x0)), (1, .one (.fn 312 [.ro (.cells [x1]), .ro (.cells [x2])])), (4, .one (.pv x3)), (7, .one (.pv x4)), (8, .one (.pv x5))], [], [], 0, 19⟩)⟩]
theorem Qgm_s : LEsOK (orac [Qgl_e]) TT (kk [0, 1, 4, 7, 8]) (sumsOf Qgm_l) Tryz.f317 Qgm_l := ⟨fun v K k h => by
  apply un_all h; exact fun v0 v1 v2 v3 v4 v5 h => Eq.mpr (by kernel_rfl) h
  , trivial⟩
theorem Qgm_w : EntOK Tryz.prog TT Qgm_e := ent_ok tabok (L := [Qgl_e]) ⟨Qgl_w, trivial⟩ (keep := (kk [0, 1, 4, 7, 8])) (l := Qgm_l) Tryz.func317 (by kernel_rfl) (sg := [.one (.sc)]) (by kernel_rfl) Qgm_s fun av k h => by
  unfold Qgm at h; split at h
  · apply un_all h; clear h; intro a1 h; apply un_all h; clear h; intro a2 h; exact Eq.mpr (by kernel_rfl) h
  · exact h.elim
def Qgn : GM
 | [.one a0, .fn 312 [.cells u0, .cells u1]], k => un 1 (fun a1 => un 1 (fun a2 => 
  call Qgm [.one a0, .fn 312 [.cells [a1], .cells [a2]]] fun o0 =>
  binP .geq (atP o0 0) (I 0) fun r1 =>
  rt [.sc] [r1] k) u1) u0
 | _, _ => False
abbrev Qgn_e : Ent := ⟨[311, 312], Qgn⟩
theorem Qgn_w : EntOK Tryz.prog TT Qgn_e := ent_ok tabok (L := [Qgm_e]) ⟨Qgm_w, trivial⟩ (keep := []) (l := []) Tryz.func311 (by kernel_rfl) (sg := [.one (.sc)]) (by kernel_rfl) trivial fun av k h => by
  unfold Qgn at h; split at h
  · apply un_all h; clear h; intro a1 h; apply un_all h; clear h; intro a2 h; exact Eq.mpr (by kernel_rfl) h
  · exact h.elim
def Qgo_r0 (v : List PV) (K : List PV → Prop) (x0k : PV → PV → PV → PV → PV → PV → PV → Prop) : Prop :=
 un 7 (fun v0 v1 v2 v3 v4 v5 v6 =>
  binP .lss v5 v4 fun r0 =>
  iteP r0
   (elemP 1 v3 v5 fun c1 =>
   call Qgn [.one v0, .fn 312 [.cells [(atP c1 0)], .cells [v6]]] fun o2 =>
   iteP (atP o2 0)
    (binP .add v2 (I 1) fun r3 =>
    binP .add v5 (I 1) fun r4 =>
    K [v0, v1, r3, v3, v4, r4, v6])
    (binP .add v5 (I 1) fun r5 =>
    K [v0, v1, v2, v3, v4, r5, v6]))
   (x0k v0 v1 v2 v3 v4 v5 v6)) v
def Qgo : GM
 | [.agg u0, .one a2, .one a3], k => un 2 (fun a0 a1 => 
  lenP a0 fun r0 =>
  lp (fun L w => Qgo_r0 w L
   (fun q6 q7 q8 q9 q10 q11 q12 => rt [.sc] [q8] k)) [a3, (I 0), (I 0), a0, r0, (I 0), a2]) u0
 | _, _ => False
abbrev Qgo_e : Ent := ⟨[303], Qgo⟩
def Qgo_l : List LE := [⟨0, ⟨[(2, .one zB), (4, .one (.ptr 1 0)), (6, .one zB), (7, .one zB), (11, .one zB), (12, .one zB), (13, .one zB)], [(1, [zB])], [], 2, 24⟩, fun K k v => Qgo_r0 v K (fun x0 x1 x2 x3 x4 x5 x6 => k (.exit 0) ⟨[(2, .one (.pv x0)), (4, .one (.ptr 1 0)), (6, .one (.pv x1)), (7, .one (.pv x2)), (11, .one (.pv x3)), (12, .one (.pv x4)), (13, .one (.pv x5))], [(1, [.pv x6])], [], 2, 24⟩)⟩]
theorem Qgo_s : LEsOK (orac [Qgn_e]) TT (kk [2, 4, 6, 7, 11, 12, 13]) (sumsOf Qgo_l) Tryz.f303 Qgo_l := ⟨fun v K k h => by
  apply un_all h; exact fun v0 v1 v2 v3 v4 v5 v6 h => Eq.mpr (by kernel_rfl) h
  , trivial⟩
theorem Qgo_w : EntOK Tryz.prog TT Qgo_e := ent_ok tabok (L := [Qgn_e]) ⟨Qgn_w, trivial⟩ (keep := (kk [2, 4, 6, 7, 11, 12, 13])) (l := Qgo_l) Tryz.func303 (by kernel_rfl) (sg := [.one (.sc)]) (by kernel_rfl) Qgo_s fun av k h => by
  unfold Qgo at h; split at h
  · apply un_all h; clear h; intro a0 a1 h; exact Eq.mpr (by kernel_rfl) h
  · exact h.elim
def Qgp : GM
 | [.agg u0, .one a2, .one a3], k => un 2 (fun a0 a1 => 
  call Qfv [.agg [a0, a1]] fun o0 =>
  iteP (atP o0 0)
   (call Qgo [.agg [a0, a1], .one a2, .one a3] fun o1 =>
   binP .geq (atP o1 0) a1 fun r2 =>
   rt [.sc] [r2] k)
   (rt [.sc] [(.bool false)] k)) u0
 | _, _ => False
abbrev Qgp_e : Ent := ⟨[279], Qgp⟩
theorem Qgp_w : EntOK Tryz.prog TT Qgp_e := ent_ok tabok (L := [Qfv_e, Qgo_e]) ⟨Qfv_w, Qgo_w, trivial⟩ (keep := []) (l := []) Tryz.func279 (by kernel_rfl) (sg := [.one (.sc)]) (by kernel_rfl) trivial fun av k h => by
  unfold Qgp at h; split at h
  · apply un_all h; clear h; intro a0 a1 h; exact Eq.mpr (by kernel_rfl) h
  · exact h.elim
def Qgq : GM
 | [.agg u0, .agg u1], k => un 17 (fun a0 a1 a2 a3 a4 a5 a6 a7 a8 a9 a10 a11 a12 a13 a14 a15 a16 => un 2 (fun a17 a18 => 
  call Qgh [.agg [a0, a1, a2, a3, a4, a5, a6, a7, a8, a9, a10, a11, a12, a13, a14, a15]] fun o0 =>
  call Qgp [.agg [a17, a18], .one (atP o0 0), .one a16] fun o1 =>
  rt [.sc] [(atP o1 0)] k) u1) u0
 | _, _ => False
abbrev Qgq_e : Ent := ⟨[233], Qgq⟩
theorem Qgq_w : EntOK Tryz.prog TT Qgq_e := ent_ok tabok (L := [Qgh_e, Qgp_e]) ⟨Qgh_w, Qgp_w, trivial⟩ (keep := []) (l := []) Tryz.func233 (by kernel_rfl) (sg := [.one (.sc)]) (by kernel_rfl) trivial fun av k h => by
  unfold Qgq at h; split at h
  · apply un_all h; clear h; intro a0 a1 a2 a3 a4 a5 a6 a7 a8 a9 a10 a11 a12 a13 a14 a15 a16 h; apply un_all h; clear h; intro a17 a18 h; exact Eq.mpr (by kernel_rfl) h
  · exact h.elim
def Qgr : GM
 | [.agg u0], k => un 17 (fun a0 a1 a2 a3 a4 a5 a6 a7 a8 a9 a10 a11 a12 a13 a14 a15 a16 => 
  call Qfz [.agg [a0, a1, a2, a3, a4, a5, a6, a7, a8, a9, a10, a11, a12, a13, a14, a15]] fun o0 =>
  iteP (atP o0 0)
   (binP .eql a1 (I 0) fun r1 =>
   iteP r1
    (binP .eql a2 (I 1) fun r2 =>
    iteP r2
     (unP .not a15 fun r3 =>
     iteP r3
      (call Qgd [.agg [a8, a9], .one a7] fun o4 =>
      binP .eql a0 (atP o4 0) fun r5 =>
      iteP r5
       (call Qgq [.agg [a0, a1, a2, a3, a4, a5, a6, a7, a8, a9, a10, a11, a12, a13, a14, a15, a16], .agg [a8, a9]] fun o6 =>
       rt [.sc] [(atP o6 0)] k)
       (rt [.sc] [(.bool false)] k))
      (rt [.sc] [(.bool false)] k))
     (rt [.sc] [(.bool false)] k))
    (rt [.sc] [(.bool false)] k))
   (rt [.sc] [(.bool false)] k)) u0
 | _, _ => False
abbrev Qgr_e : Ent := ⟨[181], Qgr⟩
theorem Qgr_w : EntOK Tryz.prog TT Qgr_e := ent_ok tabok (L := [Qfz_e, Qgd_e, Qgq_e]) ⟨Qfz_w, Qgd_w, Qgq_w, trivial⟩ (keep := []) (l := []) Tryz.func181 (by kernel_rfl) (sg := [.one (.sc)]) (by kernel_rfl) trivial fun av k h => by
  unfold Qgr at h; split at h
  · apply un_all h; clear h; intro a0 a1 a2 a3 a4 a5 a6 a7 a8 a9 a10 a11 a12 a13 a14 a15 a16 h; exact Eq.mpr (by kernel_rfl) h
  · exact h.elim
def Qgs : GM
 | [.agg u0], k => un 16 (fun a0 a1 a2 a3 a4 a5 a6 a7 a8 a9 a10 a11 a12 a13 a14 a15 => 
  (1 = 1) ∧ (1 ≤ 16777216) ∧ (1 = 1) ∧ (0 = 0) ∧ (1 = 1) ∧ (flatCond [.pv (I 0)] [.pv (I 233)]) ∧ call Qgh [.agg [a0, a1, a2, a3, a4, a5, a6, a7, a8, a9, a10, a11, a12, a13, a14, a15]] fun o0 =>
  catP 1 (.list 1 [[(I 233)]]) (atP o0 0) fun r1 =>
  call Qgc [.one r1] fun o2 =>
  rt [.sc] [(atP o2 0)] k) u0
 | _, _ => False
abbrev Qgs_e : Ent := ⟨[304], Qgs⟩
theorem Qgs_w : EntOK Tryz.prog TT Qgs_e := ent_ok tabok (L := [Qgh_e, Qgc_e]) ⟨Qgh_w, Qgc_w, trivial⟩ (keep := []) (l := []) Tryz.func304 (by kernel_rfl) (sg := [.one (.sc)]) (by kernel_rfl) trivial fun av k h => by
  unfold Qgs at h; split at h
  · apply un_all h; clear h; intro a0 a1 a2 a3 a4 a5 a6 a7 a8 a9 a10 a11 a12 a13 a14 a15 h; exact Eq.mpr (by kernel_rfl) h
  · exact h.elim
def Qgt : GM
 | [.agg u0, .agg u1], k => un 16 (fun a0 a1 a2 a3 a4 a5 a6 a7 a8 a9 a10 a11 a12 a13 a14 a15 => un 16 (fun a16 a17 a18 a19 a20 a21 a22 a23 a24 a25 a26 a27 a28 a29 a30 a31 => 
  binP .eql a16 a0 fun r0 =>
  iteP r0
   (binP .add a1 (I 1) fun r1 =>
   binP .eql a17 r1 fun r2 =>
   iteP r2
    (call Qgs [.agg [a0, a1, a2, a3, a4, a5, a6, a7, a8, a9, a10, a11, a12, a13, a14, a15]] fun o3 =>
    binP .eql a23 (atP o3 0) fun r4 =>
    iteP r4
     (binP .geq a19 a3 fun r5 =>
     rt [.sc] [r5] k)
     (rt [.sc] [(.bool false)] k))
    (rt [.sc] [(.bool false)] k))
   (rt [.sc] [(.bool false)] k)) u1) u0
 | _, _ => False
abbrev Qgt_e : Ent := ⟨[280], Qgt⟩
theorem Qgt_w : EntOK Tryz.prog TT Qgt_e := ent_ok tabok (L := [Qgs_e]) ⟨Qgs_w, trivial⟩ (keep := []) (l := []) Tryz.func280 (by kernel_rfl) (sg := [.one (.sc)]) (by kernel_rfl) trivial fun av k h => by
  unfold Qgt at h; split at h
  · apply un_all h; clear h; intro a0 a1 a2 a3 a4 a5 a6 a7 a8 a9 a10 a11 a12 a13 a14 a15 h; apply un_all h; clear h; intro a16 a17 a18 a19 a20 a21 a22 a23 a24 a25 a26 a27 a28 a29 a30 a31 h; exact Eq.mpr (by kernel_rfl) h
  · exact h.elim
def Qgu : GM
 | [.agg u0, .agg u1], k => un 16 (fun a0 a1 a2 a3 a4 a5 a6 a7 a8 a9 a10 a11 a12 a13 a14 a15 => un 17 (fun a16 a17 a18 a19 a20 a21 a22 a23 a24 a25 a26 a27 a28 a29 a30 a31 a32 => 
  iteP a15
   (rt [.sc] [(I 4)] k)
   (iteP a31
    (rt [.sc] [(I 6)] k)
    (call Qgq [.agg [a16, a17, a18, a19, a20, a21, a22, a23, a24, a25, a26, a27, a28, a29, a30, a31, a32], .agg [a8, a9]] fun o0 =>
    unP .not (atP o0 0) fun r1 =>
    iteP r1
     (rt [.sc] [(I 7)] k)
     (rt [.sc] [(I 1)] k)))) u1) u0
 | _, _ => False
abbrev Qgu_e : Ent := ⟨[281], Qgu⟩
theorem Qgu_w : EntOK Tryz.prog TT Qgu_e := ent_ok tabok (L := [Qgq_e]) ⟨Qgq_w, trivial⟩ (keep := []) (l := []) Tryz.func281 (by kernel_rfl) (sg := [.one (.sc)]) (by kernel_rfl) trivial fun av k h => by
  unfold Qgu at h; split at h
  · apply un_all h; clear h; intro a0 a1 a2 a3 a4 a5 a6 a7 a8 a9 a10 a11 a12 a13 a14 a15 h; apply un_all h; clear h; intro a16 a17 a18 a19 a20 a21 a22 a23 a24 a25 a26 a27 a28 a29 a30 a31 a32 h; exact Eq.mpr (by kernel_rfl) h
  · exact h.elim
def Qgv_r0 (v : List PV) (K : List PV → Prop) (x0k : Prop) (x1k : PV → PV → PV → PV → PV → Prop) : Prop :=
 un 5 (fun v0 v1 v2 v3 v4 =>
  binP .lss v4 v3 fun r0 =>
  iteP r0
   (elemP 1 v0 v4 fun c1 =>
   elemP 1 v1 v4 fun c2 =>
   binP .neq (atP c1 0) (atP c2 0) fun r3 =>
   iteP r3
    (x0k)
    (binP .add v4 (I 1) fun r4 =>
    K [v0, v1, v2, v3, r4]))
   (x1k v0 v1 v2 v3 v4)) v
def Qgv : GM
 | [.one a0, .one a1], k => 
  lenP a0 fun r0 =>
  lenP a1 fun r1 =>
  binP .neq r0 r1 fun r2 =>
  iteP r2
   (rt [.sc] [(.bool false)] k)
   (lenP a0 fun r3 =>
   lp (fun L w => Qgv_r0 w L
    (rt [.sc] [(.bool false)] k)
    (fun q5 q6 q7 q8 q9 => rt [.sc] [(.bool true)] k)) [a0, a1, (.bool false), r3, (I 0)])
 | _, _ => False
abbrev Qgv_e : Ent := ⟨[191], Qgv⟩
def Qgv_l : List LE := [⟨0, ⟨[(0, .one zB), (1, .one zB), (4, .one zB), (12, .one zB), (13, .one zB)], [], [], 0, 26⟩, fun K k v => Qgv_r0 v K (k .ret ⟨[(4, .one (.kb false))], [], [], 0, 26⟩) (fun x0 x1 x2 x3 x4 => k (.exit 0) ⟨[(0, .one (.pv x0)), (1, .one (.pv x1)), (4, .one (.pv x2)), (12, .one (.pv x3)), (13, .one (.pv x4))], [], [], 0, 26⟩)⟩]
theorem Qgv_s : LEsOK (orac []) TT (kk [0, 1, 4, 12, 13]) (sumsOf Qgv_l) Tryz.f191 Qgv_l := ⟨fun v K k h => by
  apply un_all h; exact fun v0 v1 v2 v3 v4 h => Eq.mpr (by kernel_rfl) h
  , trivial⟩
theorem Qgv_w : EntOK Tryz.prog TT Qgv_e := ent_ok tabok (L := []) trivial (keep := (kk [0, 1, 4, 12, 13])) (l := Qgv_l) Tryz.func191 (by kernel_rfl) (sg := [.one (.sc)]) (by kernel_rfl) Qgv_s fun av k h => by
  unfold Qgv at h; split at h
  · exact Eq.mpr (by kernel_rfl) h
  · exact h.elim
def Qgw : GM
 | [.agg u0, .agg u1], k => un 2 (fun a0 a1 => un 2 (fun a2 a3 => 
  call Qgv [.one a0, .one a2] fun o0 =>
  iteP (atP o0 0)
   (binP .eql a1 a3 fun r1 =>
   rt [.sc] [r1] k)
   (rt [.sc] [(.bool false)] k)) u1) u0
 | _, _ => False
abbrev Qgw_e : Ent := ⟨[190], Qgw⟩
theorem Qgw_w : EntOK Tryz.prog TT Qgw_e := ent_ok tabok (L := [Qgv_e]) ⟨Qgv_w, trivial⟩ (keep := []) (l := []) Tryz.func190 (by kernel_rfl) (sg := [.one (.sc)]) (by kernel_rfl) trivial fun av k h => by
  unfold Qgw at h; split at h
  · apply un_all h; clear h; intro a0 a1 h; apply un_all h; clear h; intro a2 a3 h; exact Eq.mpr (by kernel_rfl) h
  · exact h.elim
def Qgx : GM
 | [.agg u0, .agg u1], k => un 16 (fun a0 a1 a2 a3 a4 a5 a6 a7 a8 a9 a10 a11 a12 a13 a14 a15 => un 16 (fun a16 a17 a18 a19 a20 a21 a22 a23 a24 a25 a26 a27 a28 a29 a30 a31 => 
  binP .eql a5 a21 fun r0 =>
  iteP r0
   (binP .eql a6 a22 fun r1 =>
   rt [.sc] [r1] k)
   (rt [.sc] [(.bool false)] k)) u1) u0
 | _, _ => False
abbrev Qgx_e : Ent := ⟨[305], Qgx⟩
theorem Qgx_w : EntOK Tryz.prog TT Qgx_e := ent_ok tabok (L := []) trivial (keep := []) (l := []) Tryz.func305 (by kernel_rfl) (sg := [.one (.sc)]) (by kernel_rfl) trivial fun av k h => by
  unfold Qgx at h; split at h
  · apply un_all h; clear h; intro a0 a1 a2 a3 a4 a5 a6 a7 a8 a9 a10 a11 a12 a13 a14 a15 h; apply un_all h; clear h; intro a16 a17 a18 a19 a20 a21 a22 a23 a24 a25 a26 a27 a28 a29 a30 a31 h; exact Eq.mpr (by kernel_rfl) h
  · exact h.elim
def Qgy : GM
 | [.agg u0, .agg u1], k => un 16 (fun a0 a1 a2 a3 a4 a5 a6 a7 a8 a9 a10 a11 a12 a13 a14 a15 => un 17 (fun a16 a17 a18 a19 a20 a21 a22 a23 a24 a25 a26 a27 a28 a29 a30 a31 a32 => 
  iteP a15
   (rt [.sc] [(I 4)] k)
   (call Qfw [.agg [a10, a11]] fun o0 =>
   iteP (atP o0 0)
    (rt [.sc] [(I 5)] k)
    (binP .add a4 a12 fun r1 =>
    binP .lss a19 r1 fun r2 =>
    iteP r2
     (rt [.sc] [(I 5)] k)
     (iteP a31
      (rt [.sc] [(I 6)] k)
      (call Qgw [.agg [a24, a25], .agg [a10, a11]] fun o3 =>
      unP .not (atP o3 0) fun r4 =>
      iteP r4
       (rt [.sc] [(I 6)] k)
       (call Qgx [.agg [a16, a17, a18, a19, a20, a21, a22, a23, a24, a25, a26, a27, a28, a29, a30, a31], .agg [a0, a1, a2, a3, a4, a5, a6, a7, a8, a9, a10, a11, a12, a13, a14, a15]] fun o5 =>
       unP .not (atP o5 0) fun r6 =>
       iteP r6
        (rt [.sc] [(I 6)] k)
        (call Qgq [.agg [a16, a17, a18, a19, a20, a21, a22, a23, a24, a25, a26, a27, a28, a29, a30, a31, a32], .agg [a10, a11]] fun o7 =>
        unP .not (atP o7 0) fun r8 =>
        iteP r8
         (rt [.sc] [(I 7)] k)
         (rt [.sc] [(I 1)] k)))))))) u1) u0
 | _, _ => False
abbrev Qgy_e : Ent := ⟨[282], Qgy⟩
theorem Qgy_w : EntOK Tryz.prog TT Qgy_e := ent_ok tabok (L := [Qfw_e, Qgw_e, Qgx_e, Qgq_e]) ⟨Qfw_w, Qgw_w, Qgx_w, Qgq_w, trivial⟩ (keep := []) (l := []) Tryz.func282 (by kernel_rfl) (sg := [.one (.sc)]) (by kernel_rfl) trivial fun av k h => by
  unfold Qgy at h; split at h
  · apply un_all h; clear h; intro a0 a1 a2 a3 a4 a5 a6 a7 a8 a9 a10 a11 a12 a13 a14 a15 h; apply un_all h; clear h; intro a16 a17 a18 a19 a20 a21 a22 a23 a24 a25 a26 a27 a28 a29 a30 a31 a32 h; exact Eq.mpr (by kernel_rfl) h
  · exact h.elim
def Qgz : GM
 | [.agg u0, .agg u1], k => un 16 (fun a0 a1 a2 a3 a4 a5 a6 a7 a8 a9 a10 a11 a12 a13 a14 a15 => un 17 (fun a16 a17 a18 a19 a20 a21 a22 a23 a24 a25 a26 a27 a28 a29 a30 a31 a32 => 
  call Qgx [.agg [a16, a17, a18, a19, a20, a21, a22, a23, a24, a25, a26, a27, a28, a29, a30, a31], .agg [a0, a1, a2, a3, a4, a5, a6, a7, a8, a9, a10, a11, a12, a13, a14, a15]] fun o0 =>
  iteP (atP o0 0)
   (call Qgw [.agg [a29, a30], .agg [a13, a14]] fun o1 =>
   iteP (atP o1 0)
    (call Qgw [.agg [a26, a27], .agg [a10, a11]] fun o2 =>
    iteP (atP o2 0)
     (binP .eql a28 a12 fun r3 =>
     call Qfw [.agg [a13, a14]] fun o4 =>
     iteP (atP o4 0)
      (rt [.sc] [(I 5)] k)
      (boolP .eql a31 a15 fun r5 =>
      iteP r5
       (rt [.sc] [(I 6)] k)
       (unP .not r3 fun r6 =>
       iteP r6
        (rt [.sc] [(I 6)] k)
        (iteP a31
         (call Qgw [.agg [a24, a25], .agg [a8, a9]] fun o7 =>
         unP .not (atP o7 0) fun r8 =>
         iteP r8
          (rt [.sc] [(I 6)] k)
          (call Qgq [.agg [a16, a17, a18, a19, a20, a21, a22, a23, a24, a25, a26, a27, a28, a29, a30, a31, a32], .agg [a13, a14]] fun o9 =>
          unP .not (atP o9 0) fun r10 =>
          iteP r10
           (rt [.sc] [(I 7)] k)
           (rt [.sc] [(I 1)] k)))
         (call Qgq [.agg [a16, a17, a18, a19, a20, a21, a22, a23, a24, a25, a26, a27, a28, a29, a30, a31, a32], .agg [a13, a14]] fun o11 =>
         unP .not (atP o11 0) fun r12 =>
         iteP r12
          (rt [.sc] [(I 7)] k)
          (rt [.sc] [(I 1)] k))))))
     (call Qfw [.agg [a13, a14]] fun o13 =>
     iteP (atP o13 0)
      (rt [.sc] [(I 5)] k)
      (boolP .eql a31 a15 fun r14 =>
      iteP r14
       (rt [.sc] [(I 6)] k)
       (rt [.sc] [(I 6)] k))))
    (call Qfw [.agg [a13, a14]] fun o15 =>
    iteP (atP o15 0)
     (rt [.sc] [(I 5)] k)
     (boolP .eql a31 a15 fun r16 =>
     iteP r16
      (rt [.sc] [(I 6)] k)
      (rt [.sc] [(I 6)] k))))
   (call Qfw [.agg [a13, a14]] fun o17 =>
   iteP (atP o17 0)
    (rt [.sc] [(I 5)] k)
    (boolP .eql a31 a15 fun r18 =>
    iteP r18
     (rt [.sc] [(I 6)] k)
     (rt [.sc] [(I 6)] k)))) u1) u0
 | _, _ => False
abbrev Qgz_e : Ent := ⟨[283], Qgz⟩
theorem Qgz_w : EntOK Tryz.prog TT Qgz_e := ent_ok tabok (L := [Qgx_e, Qgw_e, Qfw_e, Qgq_e]) ⟨Qgx_w, Qgw_w, Qfw_w, Qgq_w, trivial⟩ (keep := []) (l := []) Tryz.func283 (by kernel_rfl) (sg := [.one (.sc)]) (by kernel_rfl) trivial fun av k h => by
  unfold Qgz at h; split at h
  · apply un_all h; clear h; intro a0 a1 a2 a3 a4 a5 a6 a7 a8 a9 a10 a11 a12 a13 a14 a15 h; apply un_all h; clear h; intro a16 a17 a18 a19 a20 a21 a22 a23 a24 a25 a26 a27 a28 a29 a30 a31 a32 h; exact Eq.mpr (by kernel_rfl) h
  · exact h.elim
def Qha : GM
 | [.agg u0, .agg u1], k => un 16 (fun a0 a1 a2 a3 a4 a5 a6 a7 a8 a9 a10 a11 a12 a13 a14 a15 => un 17 (fun a16 a17 a18 a19 a20 a21 a22 a23 a24 a25 a26 a27 a28 a29 a30 a31 a32 => 
  call Qfz [.agg [a0, a1, a2, a3, a4, a5, a6, a7, a8, a9, a10, a11, a12, a13, a14, a15]] fun o0 =>
  unP .not (atP o0 0) fun r1 =>
  iteP r1
   (rt [.sc] [(I 2)] k)
   (call Qfz [.agg [a16, a17, a18, a19, a20, a21, a22, a23, a24, a25, a26, a27, a28, a29, a30, a31]] fun o2 =>
   unP .not (atP o2 0) fun r3 =>
   iteP r3
    (rt [.sc] [(I 2)] k)
    (call Qgt [.agg [a0, a1, a2, a3, a4, a5, a6, a7, a8, a9, a10, a11, a12, a13, a14, a15], .agg [a16, a17, a18, a19, a20, a21, a22, a23, a24, a25, a26, a27, a28, a29, a30, a31]] fun o4 =>
    unP .not (atP o4 0) fun r5 =>
    iteP r5
     (rt [.sc] [(I 3)] k)
     (binP .eql a18 (I 1) fun r6 =>
     iteP r6
      (call Qgu [.agg [a0, a1, a2, a3, a4, a5, a6, a7, a8, a9, a10, a11, a12, a13, a14, a15], .agg [a16, a17, a18, a19, a20, a21, a22, a23, a24, a25, a26, a27, a28, a29, a30, a31, a32]] fun o7 =>
      rt [.sc] [(atP o7 0)] k)
      (binP .eql a18 (I 2) fun r8 =>
      iteP r8
       (call Qgy [.agg [a0, a1, a2, a3, a4, a5, a6, a7, a8, a9, a10, a11, a12, a13, a14, a15], .agg [a16, a17, a18, a19, a20, a21, a22, a23, a24, a25, a26, a27, a28, a29, a30, a31, a32]] fun o9 =>
       rt [.sc] [(atP o9 0)] k)
       (call Qgz [.agg [a0, a1, a2, a3, a4, a5, a6, a7, a8, a9, a10, a11, a12, a13, a14, a15], .agg [a16, a17, a18, a19, a20, a21, a22, a23, a24, a25, a26, a27, a28, a29, a30, a31, a32]] fun o10 =>
       rt [.sc] [(atP o10 0)] k)))))) u1) u0
 | _, _ => False
abbrev Qha_e : Ent := ⟨[234], Qha⟩
theorem Qha_w : EntOK Tryz.prog TT Qha_e := ent_ok tabok (L := [Qfz_e, Qgt_e, Qgu_e, Qgy_e, Qgz_e]) ⟨Qfz_w, Qgt_w, Qgu_w, Qgy_w, Qgz_w, trivial⟩ (keep := []) (l := []) Tryz.func234 (by kernel_rfl) (sg := [.one (.sc)]) (by kernel_rfl) trivial fun av k h => by
  unfold Qha at h; split at h
  · apply un_all h; clear h; intro a0 a1 a2 a3 a4 a5 a6 a7 a8 a9 a10 a11 a12 a13 a14 a15 h; apply un_all h; clear h; intro a16 a17 a18 a19 a20 a21 a22 a23 a24 a25 a26 a27 a28 a29 a30 a31 a32 h; exact Eq.mpr (by kernel_rfl) h
  · exact h.elim
def Qhb : GM
 | [.agg u0, .agg u1], k => un 16 (fun a0 a1 a2 a3 a4 a5 a6 a7 a8 a9 a10 a11 a12 a13 a14 a15 => un 17 (fun a16 a17 a18 a19 a20 a21 a22 a23 a24 a25 a26 a27 a28 a29 a30 a31 a32 => 
  call Qha [.agg [a0, a1, a2, a3, a4, a5, a6, a7, a8, a9, a10, a11, a12, a13, a14, a15], .agg [a16, a17, a18, a19, a20, a21, a22, a23, a24, a25, a26, a27, a28, a29, a30, a31, a32]] fun o0 =>
  binP .eql (atP o0 0) (I 1) fun r1 =>
  rt [.sc] [r1] k) u1) u0
 | _, _ => False
abbrev Qhb_e : Ent := ⟨[182], Qhb⟩
theorem Qhb_w : EntOK Tryz.prog TT Qhb_e := ent_ok tabok (L := [Qha_e]) ⟨Qha_w, trivial⟩ (keep := []) (l := []) Tryz.func182 (by kernel_rfl) (sg := [.one (.sc)]) (by kernel_rfl) trivial fun av k h => by
  unfold Qhb at h; split at h
  · apply un_all h; clear h; intro a0 a1 a2 a3 a4 a5 a6 a7 a8 a9 a10 a11 a12 a13 a14 a15 h; apply un_all h; clear h; intro a16 a17 a18 a19 a20 a21 a22 a23 a24 a25 a26 a27 a28 a29 a30 a31 a32 h; exact Eq.mpr (by kernel_rfl) h
  · exact h.elim
def Qhc_r0 (v : List PV) (K : List PV → Prop) (x0k : PV → PV → PV → PV → PV → PV → PV → PV → PV → PV → PV → PV → PV → PV → PV → PV → PV → PV → Prop) (x1k : PV → PV → PV → PV → PV → PV → PV → PV → PV → PV → PV → PV → PV → PV → PV → PV → PV → PV → Prop) (x2k : PV → PV → PV → PV → PV → Prop) : Prop :=
 un 5 (fun v0 v1 v2 v3 v4 =>
  binP .lss v4 v3 fun r0 =>
  iteP r0
   (elemP 17 v2 v4 fun c1 =>
   binP .eql v4 (I 0) fun r2 =>
   iteP r2
    (call Qgr [.agg [(atP c1 0), (atP c1 1), (atP c1 2), (atP c1 3), (atP c1 4), (atP c1 5), (atP c1 6), (atP c1 7), (atP c1 8), (atP c1 9), (atP c1 10), (atP c1 11), (atP c1 12), (atP c1 13), (atP c1 14), (atP c1 15), (atP c1 16)]] fun o3 =>
    unP .not (atP o3 0) fun r4 =>
    iteP r4
     (x0k v4 (atP c1 0) (atP c1 1) (atP c1 2) (atP c1 3) (atP c1 4) (atP c1 5) (atP c1 6) (atP c1 7) (atP c1 8) (atP c1 9) (atP c1 10) (atP c1 11) (atP c1 12) (atP c1 13) (atP c1 14) (atP c1 15) (atP c1 16))
     (binP .gtr v4 (I 0) fun r5 =>
     iteP r5
      (binP .sub v4 (I 1) fun r6 =>
      elemP 17 v0 r6 fun c7 =>
      call Qhb [.agg [(atP c7 0), (atP c7 1), (atP c7 2), (atP c7 3), (atP c7 4), (atP c7 5), (atP c7 6), (atP c7 7), (atP c7 8), (atP c7 9), (atP c7 10), (atP c7 11), (atP c7 12), (atP c7 13), (atP c7 14), (atP c7 15)], .agg [(atP c1 0), (atP c1 1), (atP c1 2), (atP c1 3), (atP c1 4), (atP c1 5), (atP c1 6), (atP c1 7), (atP c1 8), (atP c1 9), (atP c1 10), (atP c1 11), (atP c1 12), (atP c1 13), (atP c1 14), (atP c1 15), (atP c1 16)]] fun o8 =>
      unP .not (atP o8 0) fun r9 =>
      iteP r9
       (x1k v4 (atP c1 0) (atP c1 1) (atP c1 2) (atP c1 3) (atP c1 4) (atP c1 5) (atP c1 6) (atP c1 7) (atP c1 8) (atP c1 9) (atP c1 10) (atP c1 11) (atP c1 12) (atP c1 13) (atP c1 14) (atP c1 15) (atP c1 16))
       (binP .add v4 (I 1) fun r10 =>
       K [v0, v1, v2, v3, r10]))
      (binP .add v4 (I 1) fun r11 =>
      K [v0, v1, v2, v3, r11])))
    (binP .gtr v4 (I 0) fun r12 =>
    iteP r12
     (binP .sub v4 (I 1) fun r13 =>
     elemP 17 v0 r13 fun c14 =>
     call Qhb [.agg [(atP c14 0), (atP c14 1), (atP c14 2), (atP c14 3), (atP c14 4), (atP c14 5), (atP c14 6), (atP c14 7), (atP c14 8), (atP c14 9), (atP c14 10), (atP c14 11), (atP c14 12), (atP c14 13), (atP c14 14), (atP c14 15)], .agg [(atP c1 0), (atP c1 1), (atP c1 2), (atP c1 3), (atP c1 4), (atP c1 5), (atP c1 6), (atP c1 7), (atP c1 8), (atP c1 9), (atP c1 10), (atP c1 11), (atP c1 12), (atP c1 13), (atP c1 14), (atP c1 15), (atP c1 16)]] fun o15 =>
     unP .not (atP o15 0) fun r16 =>
     iteP r16
      (x0k v4 (atP c1 0) (atP c1 1) (atP c1 2) (atP c1 3) (atP c1 4) (atP c1 5) (atP c1 6) (atP c1 7) (atP c1 8) (atP c1 9) (atP c1 10) (atP c1 11) (atP c1 12) (atP c1 13) (atP c1 14) (atP c1 15) (atP c1 16))
      (binP .add v4 (I 1) fun r17 =>
      K [v0, v1, v2, v3, r17]))
     (binP .add v4 (I 1) fun r18 =>
     K [v0, v1, v2, v3, r18])))
   (x2k v0 v1 v2 v3 v4)) v
def Qhc : GM
 | [.one a0], k => 
  lenP a0 fun r0 =>
  lp (fun L w => Qhc_r0 w L
   (fun q19 q20 q21 q22 q23 q24 q25 q26 q27 q28 q29 q30 q31 q32 q33 q34 q35 q36 => rt [.sc] [q19] k)
   (fun q37 q38 q39 q40 q41 q42 q43 q44 q45 q46 q47 q48 q49 q50 q51 q52 q53 q54 => rt [.sc] [q37] k)
   (fun q55 q56 q57 q58 q59 => rt [.sc] [(I (-1))] k)) [a0, (I 0), a0, r0, (I 0)]
 | _, _ => False
abbrev Qhc_e : Ent := ⟨[176], Qhc⟩
def Qhc_l : List LE := [⟨0, ⟨[(0, .one zB), (2, .one zB), (5, .one zB), (6, .one zB), (7, .one zB)], [], [], 0, 36⟩, fun K k v => Qhc_r0 v K (fun x0 x1 x2 x3 x4 x5 x6 x7 x8 x9 x10 x11 x12 x13 x14 x15 x16 x17 => k .ret ⟨[(2, .one (.pv x0))], [(0, [.pv x1, .pv x2, .pv x3, .pv x4, .pv x5, .pv x6, .pv x7, .pv x8, .pv x9, .pv x10, .pv x11, .pv x12, .pv x13, .pv x14, .pv x15, .pv x16, .pv x17]), (0, [.pv (I 0), .pv (I 0), .pv (I 0), .pv (I 0), .pv (I 0), .pv (I 0), .pv (I 0), .pv (I 0), .nil 3 1, .pv (I 0), .nil 3 1, .pv (I 0), .pv (I 0), .nil 3 1, .pv (I 0), zB, .nil 191 2])], [], 2, 36⟩) (fun x0 x1 x2 x3 x4 x5 x6 x7 x8 x9 x10 x11 x12 x13 x14 x15 x16 x17 => k .ret ⟨[(2, .one (.pv x0))], [(0, [.pv x1, .pv x2, .pv x3, .pv x4, .pv x5, .pv x6, .pv x7, .pv x8, .pv x9, .pv x10, .pv x11, .pv x12, .pv x13, .pv x14, .pv x15, .pv x16, .pv x17]), (0, [.pv (I 0), .pv (I 0), .pv (I 0), .pv (I 0), .pv (I 0), .pv (I 0), .pv (I 0), .pv (I 0), .nil 3 1, .pv (I 0), .nil 3 1, .pv (I 0), .pv (I 0), .nil 3 1, .pv (I 0), zB, .nil 191 2])], [], 3, 36⟩) (fun x0 x1 x2 x3 x4 => k (.exit 0) ⟨[(0, .one (.pv x0)), (2, .one (.pv x1)), (5, .one (.pv x2)), (6, .one (.pv x3)), (7, .one (.pv x4))], [], [], 0, 36⟩)⟩]
theorem Qhc_s : LEsOK (orac [Qgr_e, Qhb_e]) TT (kk [0, 2, 5, 6, 7, 15, 16, 17, 20, 21, 22, 23, 24, 25, 26, 27, 28, 29, 30, 31, 32]) (sumsOf Qhc_l) Tryz.f176 Qhc_l := ⟨fun v K k h => by
  apply un_all h; exact fun v0 v1 v2 v3 v4 h => Eq.mpr (by kernel_rfl) h
  , trivial⟩
theorem Qhc_w : EntOK Tryz.prog TT Qhc_e := ent_ok tabok (L := [Qgr_e, Qhb_e]) ⟨Qgr_w, Qhb_w, trivial⟩ (keep := (kk [0, 2, 5, 6, 7, 15, 16, 17, 20, 21, 22, 23, 24, 25, 26, 27, 28, 29, 30, 31, 32])) (l := Qhc_l) Tryz.func176 (by kernel_rfl) (sg := [.one (.sc)]) (by kernel_rfl) Qhc_s fun av k h => by
  unfold Qhc at h; split at h
  · exact Eq.mpr (by kernel_rfl) h
  · exact h.elim
def Qhd : GM
 | [.one a0], k => 
  lenP a0 fun r0 =>
  call Qfj [.one r0, .one (I 1), .one (I 12)] fun o1 =>
  iteP (atP o1 0)
   (call Qhc [.one a0] fun o2 =>
   binP .lss (atP o2 0) (I 0) fun r3 =>
   rt [.sc] [r3] k)
   (rt [.sc] [(.bool false)] k)
 | _, _ => False
abbrev Qhd_e : Ent := ⟨[128], Qhd⟩
theorem Qhd_w : EntOK Tryz.prog TT Qhd_e := ent_ok tabok (L := [Qfj_e, Qhc_e]) ⟨Qfj_w, Qhc_w, trivial⟩ (keep := []) (l := []) Tryz.func128 (by kernel_rfl) (sg := [.one (.sc)]) (by kernel_rfl) trivial fun av k h => by
  unfold Qhd at h; split at h
  · exact Eq.mpr (by kernel_rfl) h
  · exact h.elim
def Qhe : GM
 | [.one a0], k => 
  lenP a0 fun r0 =>
  binP .sub r0 (I 1) fun r1 =>
  elemP 17 a0 r1 fun c2 =>
  rt [.sc, .sc, .sc, .sc, .sc, .sc, .sc, .sc, .pv, .sc, .pv, .sc, .sc, .pv, .sc, .sc] [(atP c2 0), (atP c2 1), (atP c2 2), (atP c2 3), (atP c2 4), (atP c2 5), (atP c2 6), (atP c2 7), (atP c2 8), (atP c2 9), (atP c2 10), (atP c2 11), (atP c2 12), (atP c2 13), (atP c2 14), (atP c2 15)] k
 | _, _ => False
abbrev Qhe_e : Ent := ⟨[129], Qhe⟩
theorem Qhe_w : EntOK Tryz.prog TT Qhe_e := ent_ok tabok (L := []) trivial (keep := []) (l := []) Tryz.func129 (by kernel_rfl) (sg := [.agg [.sc, .sc, .sc, .sc, .sc, .sc, .sc, .sc, .pv, .sc, .pv, .sc, .sc, .pv, .sc, .sc]]) (by kernel_rfl) trivial fun av k h => by
  unfold Qhe at h; split at h
  · exact Eq.mpr (by kernel_rfl) h
  · exact h.elim
def Qhf_r0 (v : List PV) (K : List PV → Prop) (x0k : Prop) (x1k : PV → PV → PV → PV → Prop) : Prop :=
 un 4 (fun v0 v1 v2 v3 =>
  binP .lss v3 v2 fun r0 =>
  iteP r0
   (charP v0 v3 fun r1 =>
   binP .geq r1 (.int .u8 97) fun r2 =>
   iteP r2
    (binP .leq r1 (.int .u8 122) fun r3 =>
    iteP r3
     (binP .add v3 (I 1) fun r4 =>
     K [v0, v1, v2, r4])
     (binP .geq r1 (.int .u8 48) fun r5 =>
     iteP r5
      (binP .leq r1 (.int .u8 57) fun r6 =>
      iteP r6
       (binP .add v3 (I 1) fun r7 =>
       K [v0, v1, v2, r7])
       (binP .eql r1 (.int .u8 45) fun r8 =>
       iteP r8
        (binP .gtr v3 (I 0) fun r9 =>
        iteP r9
         (lenS v0 fun r10 =>
         binP .sub r10 (I 1) fun r11 =>
         binP .lss v3 r11 fun r12 =>
         unP .not r12 fun r13 =>
         iteP r13
          (x0k)
          (binP .add v3 (I 1) fun r14 =>
          K [v0, v1, v2, r14]))
         (x0k))
        (x0k)))
      (binP .eql r1 (.int .u8 45) fun r15 =>
      iteP r15
       (binP .gtr v3 (I 0) fun r16 =>
       iteP r16
        (lenS v0 fun r17 =>
        binP .sub r17 (I 1) fun r18 =>
        binP .lss v3 r18 fun r19 =>
        unP .not r19 fun r20 =>
        iteP r20
         (x0k)
         (binP .add v3 (I 1) fun r21 =>
         K [v0, v1, v2, r21]))
        (x0k))
       (x0k))))
    (binP .geq r1 (.int .u8 48) fun r22 =>
    iteP r22
     (binP .leq r1 (.int .u8 57) fun r23 =>
     iteP r23
      (binP .add v3 (I 1) fun r24 =>
      K [v0, v1, v2, r24])
      (binP .eql r1 (.int .u8 45) fun r25 =>
      iteP r25
       (binP .gtr v3 (I 0) fun r26 =>
       iteP r26
        (lenS v0 fun r27 =>
        binP .sub r27 (I 1) fun r28 =>
        binP .lss v3 r28 fun r29 =>
        unP .not r29 fun r30 =>
        iteP r30
         (x0k)
         (binP .add v3 (I 1) fun r31 =>
         K [v0, v1, v2, r31]))
        (x0k))
       (x0k)))
     (binP .eql r1 (.int .u8 45) fun r32 =>
     iteP r32
      (binP .gtr v3 (I 0) fun r33 =>
      iteP r33
       (lenS v0 fun r34 =>
       binP .sub r34 (I 1) fun r35 =>
       binP .lss v3 r35 fun r36 =>
       unP .not r36 fun r37 =>
       iteP r37
        (x0k)
        (binP .add v3 (I 1) fun r38 =>
        K [v0, v1, v2, r38]))
       (x0k))
      (x0k))))
   (x1k v0 v1 v2 v3)) v
def Qhf : GM
 | [.one a0], k => 
  lenS a0 fun r0 =>
  lp (fun L w => Qhf_r0 w L
   (rt [.sc] [(.bool false)] k)
   (fun q39 q40 q41 q42 => lenS q39 fun r43 =>
    call Qfj [.one r43, .one (I 1), .one (I 8)] fun o44 =>
    rt [.sc] [(atP o44 0)] k)) [a0, (.bool false), r0, (I 0)]
 | _, _ => False
abbrev Qhf_e : Ent := ⟨[267], Qhf⟩
def Qhf_l : List LE := [⟨0, ⟨[(0, .one zB), (2, .one zB), (6, .one zB), (7, .one zB)], [], [], 0, 47⟩, fun K k v => Qhf_r0 v K (k .ret ⟨[(2, .one (.kb false))], [], [], 0, 47⟩) (fun x0 x1 x2 x3 => k (.exit 0) ⟨[(0, .one (.pv x0)), (2, .one (.pv x1)), (6, .one (.pv x2)), (7, .one (.pv x3))], [], [], 0, 47⟩)⟩]
theorem Qhf_s : LEsOK (orac [Qfj_e]) TT (kk [0, 2, 6, 7, 16, 17, 20, 21, 22, 23, 24, 25, 28, 29, 30, 31, 32, 33, 34, 35, 36, 37, 38, 39, 40]) (sumsOf Qhf_l) Tryz.f267 Qhf_l := ⟨fun v K k h => by
  apply un_all h; exact fun v0 v1 v2 v3 h => Eq.mpr (by kernel_rfl) h
  , trivial⟩
theorem Qhf_w : EntOK Tryz.prog TT Qhf_e := ent_ok tabok (L := [Qfj_e]) ⟨Qfj_w, trivial⟩ (keep := (kk [0, 2, 6, 7, 16, 17, 20, 21, 22, 23, 24, 25, 28, 29, 30, 31, 32, 33, 34, 35, 36, 37, 38, 39, 40])) (l := Qhf_l) Tryz.func267 (by kernel_rfl) (sg := [.one (.sc)]) (by kernel_rfl) Qhf_s fun av k h => by
  unfold Qhf at h; split at h
  · exact Eq.mpr (by kernel_rfl) h
  · exact h.elim
def Qhg : GM
 | [.one a0], k => 
  call Qhf [.one a0] fun o0 =>
  unP .not (atP o0 0) fun r1 =>
  rt [.sc] [r1] k
 | _, _ => False
abbrev Qhg_e : Ent := ⟨[298], Qhg⟩
theorem Qhg_w : EntOK Tryz.prog TT Qhg_e := ent_ok tabok (L := [Qhf_e]) ⟨Qhf_w, trivial⟩ (keep := []) (l := []) Tryz.func298 (by kernel_rfl) (sg := [.one (.sc)]) (by kernel_rfl) trivial fun av k h => by
  unfold Qhg at h; split at h
  · exact Eq.mpr (by kernel_rfl) h
  · exact h.elim
def Qhh_r0 (v : List PV) (K : List PV → Prop) (x0k : PV → Prop) (x1k : PV → PV → PV → PV → Prop) : Prop :=
 un 4 (fun v0 v1 v2 v3 =>
  binP .lss v3 v2 fun r0 =>
  iteP r0
   (elemP 1 v0 v3 fun c1 =>
   call Qhg [.one (atP c1 0)] fun o2 =>
   iteP (atP o2 0)
    (x0k v3)
    (binP .add v3 (I 1) fun r3 =>
    K [v0, v1, v2, r3]))
   (x1k v0 v1 v2 v3)) v
def Qhh : GM
 | [.one a0, .fn 298 []], k => 
  lenP a0 fun r0 =>
  lp (fun L w => Qhh_r0 w L
   (fun q4 => rt [.sc] [q4] k)
   (fun q5 q6 q7 q8 => rt [.sc] [(I (-1))] k)) [a0, (I 0), r0, (I 0)]
 | _, _ => False
abbrev Qhh_e : Ent := ⟨[308, 298], Qhh⟩
def Qhh_l : List LE := [⟨0, ⟨[(0, .one zB), (1, .one (.fn 298 [])), (4, .one zB), (7, .one zB), (8, .one zB)], [], [], 0, 19⟩, fun K k v => Qhh_r0 v K (fun x0 => k .ret ⟨[(4, .one (.pv x0))], [], [], 1, 19⟩) (fun x0 x1 x2 x3 => k (.exit 0) ⟨[(0, .one (.pv x0)), (1, .one (.fn 298 [])), (4, .one (.pv x1)), (7, .one (.pv x2)), (8, .one (.pv x3))], [], [], 0, 19⟩)⟩]
theorem Qhh_s : LEsOK (orac [Qhg_e]) TT (kk [0, 1, 4, 7, 8]) (sumsOf Qhh_l) Tryz.f308 Qhh_l := ⟨fun v K k h => by
  apply un_all h; exact fun v0 v1 v2 v3 h => Eq.mpr (by kernel_rfl) h
  , trivial⟩
theorem Qhh_w : EntOK Tryz.prog TT Qhh_e := ent_ok tabok (L := [Qhg_e]) ⟨Qhg_w, trivial⟩ (keep := (kk [0, 1, 4, 7, 8])) (l := Qhh_l) Tryz.func308 (by kernel_rfl) (sg := [.one (.sc)]) (by kernel_rfl) Qhh_s fun av k h => by
  unfold Qhh at h; split at h
  · exact Eq.mpr (by kernel_rfl) h
  · exact h.elim
def Qhi : GM
 | [.one a0, .fn 298 []], k => 
  call Qhh [.one a0, .fn 298 []] fun o0 =>
  binP .geq (atP o0 0) (I 0) fun r1 =>
  rt [.sc] [r1] k
 | _, _ => False
abbrev Qhi_e : Ent := ⟨[297, 298], Qhi⟩
theorem Qhi_w : EntOK Tryz.prog TT Qhi_e := ent_ok tabok (L := [Qhh_e]) ⟨Qhh_w, trivial⟩ (keep := []) (l := []) Tryz.func297 (by kernel_rfl) (sg := [.one (.sc)]) (by kernel_rfl) trivial fun av k h => by
  unfold Qhi at h; split at h
  · exact Eq.mpr (by kernel_rfl) h
  · exact h.elim
def Qhj : GM
 | [.one a0], k => 
  lenP a0 fun r0 =>
  call Qfj [.one r0, .one (I 1), .one (I 4)] fun o1 =>
  iteP (atP o1 0)
   (call Qhi [.one a0, .fn 298 []] fun o2 =>
   unP .not (atP o2 0) fun r3 =>
   rt [.sc] [r3] k)
   (rt [.sc] [(.bool false)] k)
 | _, _ => False
abbrev Qhj_e : Ent := ⟨[269], Qhj⟩
theorem Qhj_w : EntOK Tryz.prog TT Qhj_e := ent_ok tabok (L := [Qfj_e, Qhi_e]) ⟨Qfj_w, Qhi_w, trivial⟩ (keep := []) (l := []) Tryz.func269 (by kernel_rfl) (sg := [.one (.sc)]) (by kernel_rfl) trivial fun av k h => by
  unfold Qhj at h; split at h
  · exact Eq.mpr (by kernel_rfl) h
  · exact h.elim
def Qhk : GM
 | [.agg u0], k => un 4 (fun a0 a1 a2 a3 => 
  call Qhf [.one a0] fun o0 =>
  unP .not (atP o0 0) fun r1 =>
  iteP r1
   (rt [.sc] [(.bool false)] k)
   (binP .eql a1 (I 1) fun r2 =>
   iteP r2
    (call Qfj [.one a2, .one (I 0), .one (I 999999)] fun o3 =>
    iteP (atP o3 0)
     (lenP a3 fun r4 =>
     binP .eql r4 (I 0) fun r5 =>
     rt [.sc] [r5] k)
     (rt [.sc] [(.bool false)] k))
    (binP .eql a1 (I 2) fun r6 =>
    iteP r6
     (call Qft [.one a2] fun o7 =>
     iteP (atP o7 0)
      (lenP a3 fun r8 =>
      binP .eql r8 (I 0) fun r9 =>
      rt [.sc] [r9] k)
      (rt [.sc] [(.bool false)] k))
     (binP .eql a1 (I 3) fun r10 =>
     iteP r10
      (call Qft [.one a2] fun o11 =>
      iteP (atP o11 0)
       (call Qhj [.one a3] fun o12 =>
       rt [.sc] [(atP o12 0)] k)
       (rt [.sc] [(.bool false)] k))
      (rt [.sc] [(.bool false)] k))))) u0
 | _, _ => False
abbrev Qhk_e : Ent := ⟨[226], Qhk⟩
theorem Qhk_w : EntOK Tryz.prog TT Qhk_e := ent_ok tabok (L := [Qhf_e, Qfj_e, Qft_e, Qhj_e]) ⟨Qhf_w, Qfj_w, Qft_w, Qhj_w, trivial⟩ (keep := []) (l := []) Tryz.func226 (by kernel_rfl) (sg := [.one (.sc)]) (by kernel_rfl) trivial fun av k h => by
  unfold Qhk at h; split at h
  · apply un_all h; clear h; intro a0 a1 a2 a3 h; exact Eq.mpr (by kernel_rfl) h
  · exact h.elim
def Qhm : GM
 | [.one a0, .one a1], k => 
  call Qmy [.one a0, .one a1] fun o0 =>
  rt [.sc] [(atP o0 0)] k
 | _, _ => False
abbrev Qhm_e : Ent := ⟨[270], Qhm⟩
theorem Qhm_w : EntOK Tryz.prog TT Qhm_e := ent_ok tabok (L := [Qmy_e]) ⟨Qmy_w, trivial⟩ (keep := []) (l := []) Tryz.func270 (by kernel_rfl) (sg := [.one (.sc)]) (by kernel_rfl) trivial fun av k h => by
  unfold Qhm at h; split at h
  · exact Eq.mpr (by kernel_rfl) h
  · exact h.elim
def Qhn : GM
 | [.one a0, .one a1], k => 
  call Qhm [.one a0, .one a1] fun o0 =>
  rt [.sc] [(atP o0 0)] k
 | _, _ => False
abbrev Qhn_e : Ent := ⟨[227], Qhn⟩
theorem Qhn_w : EntOK Tryz.prog TT Qhn_e := ent_ok tabok (L := [Qhm_e]) ⟨Qhm_w, trivial⟩ (keep := []) (l := []) Tryz.func227 (by kernel_rfl) (sg := [.one (.sc)]) (by kernel_rfl) trivial fun av k h => by
  unfold Qhn at h; split at h
  · exact Eq.mpr (by kernel_rfl) h
  · exact h.elim
def Qho_r0 (v : List PV) (K : List PV → Prop) (x0k : PV → PV → PV → PV → Prop) (x1k : PV → PV → PV → PV → Prop) (x2k : PV → PV → PV → PV → PV → Prop) : Prop :=
 un 5 (fun v0 v1 v2 v3 v4 =>
  binP .lss v4 v3 fun r0 =>
  iteP r0
   (elemP 4 v2 v4 fun c1 =>
   call Qhk [.agg [(atP c1 0), (atP c1 1), (atP c1 2), (atP c1 3)]] fun o2 =>
   unP .not (atP o2 0) fun r3 =>
   iteP r3
    (x0k (atP c1 0) (atP c1 1) (atP c1 2) (atP c1 3))
    (binP .gtr v4 (I 0) fun r4 =>
    iteP r4
     (binP .sub v4 (I 1) fun r5 =>
     elemP 4 v0 r5 fun c6 =>
     call Qhn [.one (atP c1 0), .one (atP c6 0)] fun o7 =>
     binP .leq (atP o7 0) (I 0) fun r8 =>
     iteP r8
      (x1k (atP c1 0) (atP c1 1) (atP c1 2) (atP c1 3))
      (binP .add v4 (I 1) fun r9 =>
      K [v0, v1, v2, v3, r9]))
     (binP .add v4 (I 1) fun r10 =>
     K [v0, v1, v2, v3, r10])))
   (x2k v0 v1 v2 v3 v4)) v
def Qho : GM
 | [.one a0], k => 
  lenP a0 fun r0 =>
  lp (fun L w => Qho_r0 w L
   (fun q11 q12 q13 q14 => rt [.sc] [(.bool false)] k)
   (fun q15 q16 q17 q18 => rt [.sc] [(.bool false)] k)
   (fun q19 q20 q21 q22 q23 => lenP q19 fun r24 =>
    binP .leq r24 (I 12) fun r25 =>
    rt [.sc] [r25] k)) [a0, (.bool false), a0, r0, (I 0)]
 | _, _ => False
abbrev Qho_e : Ent := ⟨[177], Qho⟩
def Qho_l : List LE := [⟨0, ⟨[(0, .one zB), (2, .one zB), (5, .one zB), (6, .one zB), (7, .one zB)], [], [], 0, 35⟩, fun K k v => Qho_r0 v K (fun x0 x1 x2 x3 => k .ret ⟨[(2, .one (.kb false))], [(0, [.pv x0, .pv x1, .pv x2, .pv x3]), (0, [.pv (.str ⟨#[]⟩), .pv (I 0), .pv (I 0), .nil 9 1])], [], 2, 35⟩) (fun x0 x1 x2 x3 => k .ret ⟨[(2, .one (.kb false))], [(0, [.pv x0, .pv x1, .pv x2, .pv x3]), (0, [.pv (.str ⟨#[]⟩), .pv (I 0), .pv (I 0), .nil 9 1])], [], 3, 35⟩) (fun x0 x1 x2 x3 x4 => k (.exit 0) ⟨[(0, .one (.pv x0)), (2, .one (.pv x1)), (5, .one (.pv x2)), (6, .one (.pv x3)), (7, .one (.pv x4))], [], [], 0, 35⟩)⟩]
theorem Qho_s : LEsOK (orac [Qhk_e, Qhn_e]) TT (kk [0, 2, 5, 6, 7, 16, 17, 18, 19, 20, 21, 22, 23, 24, 25, 26, 27, 28, 29]) (sumsOf Qho_l) Tryz.f177 Qho_l := ⟨fun v K k h => by
  apply un_all h; exact fun v0 v1 v2 v3 v4 h => Eq.mpr (by kernel_rfl) h
  , trivial⟩
theorem Qho_w : EntOK Tryz.prog TT Qho_e := ent_ok tabok (L := [Qhk_e, Qhn_e]) ⟨Qhk_w, Qhn_w, trivial⟩ (keep := (kk [0, 2, 5, 6, 7, 16, 17, 18, 19, 20, 21, 22, 23, 24, 25, 26, 27, 28, 29])) (l := Qho_l) Tryz.func177 (by kernel_rfl) (sg := [.one (.sc)]) (by kernel_rfl) Qho_s fun av k h => by
  unfold Qho at h; split at h
  · exact Eq.mpr (by kernel_rfl) h
  · exact h.elim
def Qhp_r0 (v : List PV) (K : List PV → Prop) (x0k : PV → PV → PV → PV → PV → Prop) : Prop :=
 un 5 (fun v0 v1 v2 v3 v4 =>
  binP .lss v2 v1 fun r0 =>
  iteP r0
   (elemP 1 v0 v2 fun c1 =>
   convP .i64 (atP c1 0) fun r2 =>
   (1 = 1) ∧ (1 ≤ 16777216) ∧ (1 = 1) ∧ (0 = 0) ∧ (1 = 1) ∧ (flatCond [.pv (I 0)] [.pv r2]) ∧ catP 1 v4 (.list 1 [[r2]]) fun r3 =>
   binP .add v2 (I 1) fun r4 =>
   K [v0, v1, r4, v3, r3])
   (x0k v0 v1 v2 v3 v4)) v
def Qhp : GM
 | [.one a0], k => 
  lenP a0 fun r0 =>
  (1 = 1) ∧ (1 ≤ 16777216) ∧ (1 = 1) ∧ (0 = 0) ∧ (1 = 1) ∧ (flatCond [.pv (I 0)] [.pv r0]) ∧ lenP a0 fun r1 =>
  lp (fun L w => Qhp_r0 w L
   (fun q5 q6 q7 q8 q9 => rt [.own true 3 1] [q9] k)) [a0, r1, (I 0), (.list 1 []), (.list 1 [[r0]])]
 | _, _ => False
abbrev Qhp_e : Ent := ⟨[316], Qhp⟩
def Qhp_l : List LE := [⟨0, ⟨[(2, .one (.own 1)), (3, .one (.own 0)), (9, .one zB), (10, .one zB), (11, .one zB)], [], [(1, ⟨.deep, 3, 1, (.bool false)⟩), (0, ⟨.deep, 3, 1, (.bool false)⟩)], 2, 22⟩, fun K k v => Qhp_r0 v K (fun x0 x1 x2 x3 x4 => k (.exit 0) ⟨[(2, .one (.own 1)), (3, .one (.own 0)), (9, .one (.pv x0)), (10, .one (.pv x1)), (11, .one (.pv x2))], [], [(1, ⟨.deep, 3, 1, x3⟩), (0, ⟨.deep, 3, 1, x4⟩)], 2, 22⟩)⟩]
theorem Qhp_s : LEsOK (orac []) TT (kk [2, 3, 9, 10, 11]) (sumsOf Qhp_l) Tryz.f316 Qhp_l := ⟨fun v K k h => by
  apply un_all h; exact fun v0 v1 v2 v3 v4 h => Eq.mpr (by kernel_rfl) h
  , trivial⟩
theorem Qhp_w : EntOK Tryz.prog TT Qhp_e := ent_ok tabok (L := []) trivial (keep := (kk [2, 3, 9, 10, 11])) (l := Qhp_l) Tryz.func316 (by kernel_rfl) (sg := [.one (.own true 3 1)]) (by kernel_rfl) Qhp_s fun av k h => by
  unfold Qhp at h; split at h
  · exact Eq.mpr (by kernel_rfl) h
  · exact h.elim
def Qhq : GM
 | [.one a0], k => 
  bytesP a0 fun r0 =>
  call Qhp [.one r0] fun o1 =>
  rt [.own true 3 1] [(atP o1 0)] k
 | _, _ => False
abbrev Qhq_e : Ent := ⟨[310], Qhq⟩
theorem Qhq_w : EntOK Tryz.prog TT Qhq_e := ent_ok tabok (L := [Qhp_e]) ⟨Qhp_w, trivial⟩ (keep := []) (l := []) Tryz.func310 (by kernel_rfl) (sg := [.one (.own true 3 1)]) (by kernel_rfl) trivial fun av k h => by
  unfold Qhq at h; split at h
  · exact Eq.mpr (by kernel_rfl) h
  · exact h.elim
def Qhr_r0 (v : List PV) (K : List PV → Prop) (x0k : PV → PV → PV → PV → PV → Prop) : Prop :=
 un 5 (fun v0 v1 v2 v3 v4 =>
  binP .lss v2 v1 fun r0 =>
  iteP r0
   (elemP 1 v0 v2 fun c1 =>
   call Qhq [.one (atP c1 0)] fun o2 =>
   catP 1 v4 (atP o2 0) fun r3 =>
   binP .add v2 (I 1) fun r4 =>
   K [v0, v1, r4, v3, r3])
   (x0k v0 v1 v2 v3 v4)) v
def Qhr : GM
 | [.agg u0], k => un 4 (fun a0 a1 a2 a3 => 
  call Qhq [.one a0] fun o0 =>
  lenP a3 fun r1 =>
  (3 = 3) ∧ (3 ≤ 16777216) ∧ (1 = 1) ∧ (0 = 0) ∧ (1 = 1) ∧ (flatCond [.pv (I 0)] [.pv a1]) ∧ (1 = 1) ∧ (1 = 1) ∧ (flatCond [.pv (I 0)] [.pv a2]) ∧ (2 = 2) ∧ (1 = 1) ∧ (flatCond [.pv (I 0)] [.pv r1]) ∧ catP 1 (atP o0 0) (.list 1 [[a1], [a2], [r1]]) fun r2 =>
  lenP a3 fun r3 =>
  lp (fun L w => Qhr_r0 w L
   (fun q5 q6 q7 q8 q9 => rt [.own true 3 1] [q9] k)) [a3, r3, (I 0), (.list 1 []), r2]) u0
 | _, _ => False
abbrev Qhr_e : Ent := ⟨[301], Qhr⟩
def Qhr_l : List LE := [⟨0, ⟨[(2, .one (.own 4)), (3, .one (.own 3)), (19, .one zB), (20, .one zB), (21, .one zB)], [], [(4, ⟨.deep, 3, 1, (.bool false)⟩), (3, ⟨.deep, 3, 1, (.bool false)⟩)], 5, 31⟩, fun K k v => Qhr_r0 v K (fun x0 x1 x2 x3 x4 => k (.exit 0) ⟨[(2, .one (.own 4)), (3, .one (.own 3)), (19, .one (.pv x0)), (20, .one (.pv x1)), (21, .one (.pv x2))], [], [(4, ⟨.deep, 3, 1, x3⟩), (3, ⟨.deep, 3, 1, x4⟩)], 5, 31⟩)⟩]
theorem Qhr_s : LEsOK (orac [Qhq_e]) TT (kk [2, 3, 19, 20, 21]) (sumsOf Qhr_l) Tryz.f301 Qhr_l := ⟨fun v K k h => by
  apply un_all h; exact fun v0 v1 v2 v3 v4 h => Eq.mpr (by kernel_rfl) h
  , trivial⟩
theorem Qhr_w : EntOK Tryz.prog TT Qhr_e := ent_ok tabok (L := [Qhq_e]) ⟨Qhq_w, trivial⟩ (keep := (kk [2, 3, 19, 20, 21])) (l := Qhr_l) Tryz.func301 (by kernel_rfl) (sg := [.one (.own true 3 1)]) (by kernel_rfl) Qhr_s fun av k h => by
  unfold Qhr at h; split at h
  · apply un_all h; clear h; intro a0 a1 a2 a3 h; exact Eq.mpr (by kernel_rfl) h
  · exact h.elim
def Qhs : GM
 | [.agg u0], k => un 4 (fun a0 a1 a2 a3 => 
  (1 = 1) ∧ (1 ≤ 16777216) ∧ (1 = 1) ∧ (0 = 0) ∧ (1 = 1) ∧ (flatCond [.pv (I 0)] [.pv (I 227)]) ∧ call Qhr [.agg [a0, a1, a2, a3]] fun o0 =>
  catP 1 (.list 1 [[(I 227)]]) (atP o0 0) fun r1 =>
  call Qgc [.one r1] fun o2 =>
  rt [.sc] [(atP o2 0)] k) u0
 | _, _ => False
abbrev Qhs_e : Ent := ⟨[273], Qhs⟩
theorem Qhs_w : EntOK Tryz.prog TT Qhs_e := ent_ok tabok (L := [Qhr_e, Qgc_e]) ⟨Qhr_w, Qgc_w, trivial⟩ (keep := []) (l := []) Tryz.func273 (by kernel_rfl) (sg := [.one (.sc)]) (by kernel_rfl) trivial fun av k h => by
  unfold Qhs at h; split at h
  · apply un_all h; clear h; intro a0 a1 a2 a3 h; exact Eq.mpr (by kernel_rfl) h
  · exact h.elim
def Qht_r0 (v : List PV) (K : List PV → Prop) (x0k : PV → PV → PV → PV → PV → Prop) : Prop :=
 un 5 (fun v0 v1 v2 v3 v4 =>
  binP .lss v2 v1 fun r0 =>
  iteP r0
   (elemP 4 v0 v2 fun c1 =>
   call Qhs [.agg [(atP c1 0), (atP c1 1), (atP c1 2), (atP c1 3)]] fun o2 =>
   (1 = 1) ∧ (1 ≤ 16777216) ∧ (1 = 1) ∧ (0 = 0) ∧ (1 = 1) ∧ (flatCond [.pv (I 0)] [.pv (atP o2 0)]) ∧ catP 1 v4 (.list 1 [[(atP o2 0)]]) fun r3 =>
   binP .add v2 (I 1) fun r4 =>
   K [v0, v1, r4, v3, r3])
   (x0k v0 v1 v2 v3 v4)) v
def Qht : GM
 | [.one a0], k => 
  (0 = 0) ∧ (0 ≤ 16777216) ∧ (1 = 1) ∧ lenP a0 fun r0 =>
  lp (fun L w => Qht_r0 w L
   (fun q5 q6 q7 q8 q9 => rt [.own true 3 1] [q9] k)) [a0, r0, (I 0), (.list 1 []), (.list 1 [])]
 | _, _ => False
abbrev Qht_e : Ent := ⟨[230], Qht⟩
def Qht_l : List LE := [⟨0, ⟨[(2, .one (.own 1)), (3, .one (.own 0)), (7, .one zB), (8, .one zB), (9, .one zB)], [], [(1, ⟨.deep, 3, 1, (.bool false)⟩), (0, ⟨.deep, 3, 1, (.bool false)⟩)], 2, 20⟩, fun K k v => Qht_r0 v K (fun x0 x1 x2 x3 x4 => k (.exit 0) ⟨[(2, .one (.own 1)), (3, .one (.own 0)), (7, .one (.pv x0)), (8, .one (.pv x1)), (9, .one (.pv x2))], [], [(1, ⟨.deep, 3, 1, x3⟩), (0, ⟨.deep, 3, 1, x4⟩)], 2, 20⟩)⟩]
theorem Qht_s : LEsOK (orac [Qhs_e]) TT (kk [2, 3, 7, 8, 9]) (sumsOf Qht_l) Tryz.f230 Qht_l := ⟨fun v K k h => by
  apply un_all h; exact fun v0 v1 v2 v3 v4 h => Eq.mpr (by kernel_rfl) h
  , trivial⟩
theorem Qht_w : EntOK Tryz.prog TT Qht_e := ent_ok tabok (L := [Qhs_e]) ⟨Qhs_w, trivial⟩ (keep := (kk [2, 3, 7, 8, 9])) (l := Qht_l) Tryz.func230 (by kernel_rfl) (sg := [.one (.own true 3 1)]) (by kernel_rfl) Qht_s fun av k h => by
  unfold Qht at h; split at h
  · exact Eq.mpr (by kernel_rfl) h
  · exact h.elim
def Qhu : GM
 | [.one a0], k => 
  call Qgc [.one a0] fun o0 =>
  rt [.sc] [(atP o0 0)] k
 | _, _ => False
abbrev Qhu_e : Ent := ⟨[271], Qhu⟩
theorem Qhu_w : EntOK Tryz.prog TT Qhu_e := ent_ok tabok (L := [Qgc_e]) ⟨Qgc_w, trivial⟩ (keep := []) (l := []) Tryz.func271 (by kernel_rfl) (sg := [.one (.sc)]) (by kernel_rfl) trivial fun av k h => by
  unfold Qhu at h; split at h
  · exact Eq.mpr (by kernel_rfl) h
  · exact h.elim
def Qhv : GM
 | [.one a0, .one a1], k => 
  (3 = 3) ∧ (3 ≤ 16777216) ∧ (1 = 1) ∧ (0 = 0) ∧ (1 = 1) ∧ (flatCond [.pv (I 0)] [.pv (I 229)]) ∧ (1 = 1) ∧ (1 = 1) ∧ (flatCond [.pv (I 0)] [.pv a0]) ∧ (2 = 2) ∧ (1 = 1) ∧ (flatCond [.pv (I 0)] [.pv a1]) ∧ call Qhu [.one (.list 1 [[(I 229)], [a0], [a1]])] fun o0 =>
  rt [.sc] [(atP o0 0)] k
 | _, _ => False
abbrev Qhv_e : Ent := ⟨[300], Qhv⟩
theorem Qhv_w : EntOK Tryz.prog TT Qhv_e := ent_ok tabok (L := [Qhu_e]) ⟨Qhu_w, trivial⟩ (keep := []) (l := []) Tryz.func300 (by kernel_rfl) (sg := [.one (.sc)]) (by kernel_rfl) trivial fun av k h => by
  unfold Qhv at h; split at h
  · exact Eq.mpr (by kernel_rfl) h
  · exact h.elim
def Qhw_r0 (v : List PV) (K : List PV → Prop) (x0k : PV → PV → PV → PV → Prop) : Prop :=
 un 4 (fun v0 v1 v2 v3 =>
  lenP v0 fun r0 =>
  binP .lss v1 r0 fun r1 =>
  iteP r1
   (binP .add v1 (I 1) fun r2 =>
   lenP v0 fun r3 =>
   binP .lss r2 r3 fun r4 =>
   iteP r4
    (elemP 1 v0 v1 fun c5 =>
    binP .add v1 (I 1) fun r6 =>
    elemP 1 v0 r6 fun c7 =>
    call Qhv [.one (atP c5 0), .one (atP c7 0)] fun o8 =>
    (1 = 1) ∧ (1 ≤ 16777216) ∧ (1 = 1) ∧ (0 = 0) ∧ (1 = 1) ∧ (flatCond [.pv (I 0)] [.pv (atP o8 0)]) ∧ catP 1 v3 (.list 1 [[(atP o8 0)]]) fun r9 =>
    binP .add v1 (I 2) fun r10 =>
    K [v0, r10, v2, r9])
    (elemP 1 v0 v1 fun c11 =>
    (1 = 1) ∧ (1 ≤ 16777216) ∧ (1 = 1) ∧ (0 = 0) ∧ (1 = 1) ∧ (flatCond [.pv (I 0)] [.pv (atP c11 0)]) ∧ catP 1 v3 (.list 1 [[(atP c11 0)]]) fun r12 =>
    binP .add v1 (I 2) fun r13 =>
    K [v0, r13, v2, r12]))
   (x0k v0 v1 v2 v3)) v
def Qhw : GM
 | [.one a0], k => 
  (0 = 0) ∧ (0 ≤ 16777216) ∧ (1 = 1) ∧ lp (fun L w => Qhw_r0 w L
   (fun q14 q15 q16 q17 => rt [.own true 3 1] [q17] k)) [a0, (I 0), (.list 1 []), (.list 1 [])]
 | _, _ => False
abbrev Qhw_e : Ent := ⟨[272], Qhw⟩
def Qhw_l : List LE := [⟨0, ⟨[(0, .one zB), (2, .one (.own 1)), (3, .one (.own 0)), (4, .one zB)], [], [(1, ⟨.deep, 3, 1, (.bool false)⟩), (0, ⟨.deep, 3, 1, (.bool false)⟩)], 2, 38⟩, fun K k v => Qhw_r0 v K (fun x0 x1 x2 x3 => k (.exit 0) ⟨[(0, .one (.pv x0)), (2, .one (.own 1)), (3, .one (.own 0)), (4, .one (.pv x1))], [], [(1, ⟨.deep, 3, 1, x2⟩), (0, ⟨.deep, 3, 1, x3⟩)], 2, 38⟩)⟩]
theorem Qhw_s : LEsOK (orac [Qhv_e]) TT (kk [0, 2, 3, 4]) (sumsOf Qhw_l) Tryz.f272 Qhw_l := ⟨fun v K k h => by
  apply un_all h; exact fun v0 v1 v2 v3 h => Eq.mpr (by kernel_rfl) h
  , trivial⟩
theorem Qhw_w : EntOK Tryz.prog TT Qhw_e := ent_ok tabok (L := [Qhv_e]) ⟨Qhv_w, trivial⟩ (keep := (kk [0, 2, 3, 4])) (l := Qhw_l) Tryz.func272 (by kernel_rfl) (sg := [.one (.own true 3 1)]) (by kernel_rfl) Qhw_s fun av k h => by
  unfold Qhw at h; split at h
  · exact Eq.mpr (by kernel_rfl) h
  · exact h.elim
def Qhx_r0 (v : List PV) (K : List PV → Prop) (x0k : PV → PV → Prop) : Prop :=
 un 2 (fun v0 v1 =>
  lenP v0 fun r0 =>
  binP .gtr r0 (I 1) fun r1 =>
  iteP r1
   (call Qhw [.one v0] fun o2 =>
   K [(atP o2 0), v1])
   (x0k v0 v1)) v
def Qhx : GM
 | [.one a0], k => 
  lenP a0 fun r0 =>
  binP .eql r0 (I 0) fun r1 =>
  iteP r1
   ((1 = 1) ∧ (1 ≤ 16777216) ∧ (1 = 1) ∧ (0 = 0) ∧ (1 = 1) ∧ (flatCond [.pv (I 0)] [.pv (I 229)]) ∧ call Qhu [.one (.list 1 [[(I 229)]])] fun o2 =>
   rt [.sc] [(atP o2 0)] k)
   (lp (fun L w => Qhx_r0 w L
    (fun q3 q4 => elemP 1 q3 (I 0) fun c5 =>
     rt [.sc] [(atP c5 0)] k)) [a0, (I 0)])
 | _, _ => False
abbrev Qhx_e : Ent := ⟨[229], Qhx⟩
def Qhx_l : List LE := [⟨0, ⟨[(0, .one zB), (2, .one zB)], [], [], 0, 16⟩, fun K k v => Qhx_r0 v K (fun x0 x1 => k (.exit 0) ⟨[(0, .one (.pv x0)), (2, .one (.pv x1))], [], [], 0, 16⟩)⟩]
theorem Qhx_s : LEsOK (orac [Qhu_e, Qhw_e]) TT (kk [0, 2]) (sumsOf Qhx_l) Tryz.f229 Qhx_l := ⟨fun v K k h => by
  apply un_all h; exact fun v0 v1 h => Eq.mpr (by kernel_rfl) h
  , trivial⟩
theorem Qhx_w : EntOK Tryz.prog TT Qhx_e := ent_ok tabok (L := [Qhu_e, Qhw_e]) ⟨Qhu_w, Qhw_w, trivial⟩ (keep := (kk [0, 2])) (l := Qhx_l) Tryz.func229 (by kernel_rfl) (sg := [.one (.sc)]) (by kernel_rfl) Qhx_s fun av k h => by
  unfold Qhx at h; split at h
  · exact Eq.mpr (by kernel_rfl) h
  · exact h.elim
def Qhy : GM
 | [.one a0, .one a1], k => 
  (3 = 3) ∧ (3 ≤ 16777216) ∧ (1 = 1) ∧ (0 = 0) ∧ (1 = 1) ∧ (flatCond [.pv (I 0)] [.pv (I 231)]) ∧ (1 = 1) ∧ (1 = 1) ∧ (flatCond [.pv (I 0)] [.pv a0]) ∧ (2 = 2) ∧ (1 = 1) ∧ (flatCond [.pv (I 0)] [.pv a1]) ∧ call Qhu [.one (.list 1 [[(I 231)], [a0], [a1]])] fun o0 =>
  rt [.sc] [(atP o0 0)] k
 | _, _ => False
abbrev Qhy_e : Ent := ⟨[228], Qhy⟩
theorem Qhy_w : EntOK Tryz.prog TT Qhy_e := ent_ok tabok (L := [Qhu_e]) ⟨Qhu_w, trivial⟩ (keep := []) (l := []) Tryz.func228 (by kernel_rfl) (sg := [.one (.sc)]) (by kernel_rfl) trivial fun av k h => by
  unfold Qhy at h; split at h
  · exact Eq.mpr (by kernel_rfl) h
  · exact h.elim
def Qhz : GM
 | [.one a0], k => 
  lenP a0 fun r0 =>
  call Qht [.one a0] fun o1 =>
  call Qhx [.one (atP o1 0)] fun o2 =>
  call Qhy [.one r0, .one (atP o2 0)] fun o3 =>
  rt [.sc] [(atP o3 0)] k
 | _, _ => False
abbrev Qhz_e : Ent := ⟨[178], Qhz⟩
theorem Qhz_w : EntOK Tryz.prog TT Qhz_e := ent_ok tabok (L := [Qht_e, Qhx_e, Qhy_e]) ⟨Qht_w, Qhx_w, Qhy_w, trivial⟩ (keep := []) (l := []) Tryz.func178 (by kernel_rfl) (sg := [.one (.sc)]) (by kernel_rfl) trivial fun av k h => by
  unfold Qhz at h; split at h
  · exact Eq.mpr (by kernel_rfl) h
  · exact h.elim
def Qia : GM
 | [.one a0, .one a1], k => 
  call Qho [.one a1] fun o0 =>
  iteP (atP o0 0)
   (call Qhz [.one a1] fun o1 =>
   binP .eql (atP o1 0) a0 fun r2 =>
   rt [.sc] [r2] k)
   (rt [.sc] [(.bool false)] k)
 | _, _ => False
abbrev Qia_e : Ent := ⟨[130], Qia⟩
theorem Qia_w : EntOK Tryz.prog TT Qia_e := ent_ok tabok (L := [Qho_e, Qhz_e]) ⟨Qho_w, Qhz_w, trivial⟩ (keep := []) (l := []) Tryz.func130 (by kernel_rfl) (sg := [.one (.sc)]) (by kernel_rfl) trivial fun av k h => by
  unfold Qia at h; split at h
  · exact Eq.mpr (by kernel_rfl) h
  · exact h.elim
def Qib : GM
 | [.agg u0], k => un 2 (fun a0 a1 => 
  call Qhd [.one a0] fun o0 =>
  unP .not (atP o0 0) fun r1 =>
  iteP r1
   (rt [.sc] [(.bool false)] k)
   (call Qhe [.one a0] fun o2 =>
   lenP a1 fun r3 =>
   binP .eql (atP o2 5) r3 fun r4 =>
   iteP r4
    (call Qia [.one (atP o2 6), .one a1] fun o5 =>
    rt [.sc] [(atP o5 0)] k)
    (rt [.sc] [(.bool false)] k))) u0
 | _, _ => False
abbrev Qib_e : Ent := ⟨[72], Qib⟩
theorem Qib_w : EntOK Tryz.prog TT Qib_e := ent_ok tabok (L := [Qhd_e, Qhe_e, Qia_e]) ⟨Qhd_w, Qhe_w, Qia_w, trivial⟩ (keep := []) (l := []) Tryz.func72 (by kernel_rfl) (sg := [.one (.sc)]) (by kernel_rfl) trivial fun av k h => by
  unfold Qib at h; split at h
  · apply un_all h; clear h; intro a0 a1 h; exact Eq.mpr (by kernel_rfl) h
  · exact h.elim
def Qic : GM
 | [.agg u0], k => un 2 (fun a0 a1 => 
  call Qib [.agg [a0, a1]] fun o0 =>
  unP .not (atP o0 0) fun r1 =>
  iteP r1
   (rt [.sc] [(I (-1))] k)
   (call Qhe [.one a0] fun o2 =>
   rt [.sc] [(atP o2 0)] k)) u0
 | _, _ => False
abbrev Qic_e : Ent := ⟨[126], Qic⟩
theorem Qic_w : EntOK Tryz.prog TT Qic_e := ent_ok tabok (L := [Qib_e, Qhe_e]) ⟨Qib_w, Qhe_w, trivial⟩ (keep := []) (l := []) Tryz.func126 (by kernel_rfl) (sg := [.one (.sc)]) (by kernel_rfl) trivial fun av k h => by
  unfold Qic at h; split at h
  · apply un_all h; clear h; intro a0 a1 h; exact Eq.mpr (by kernel_rfl) h
  · exact h.elim
def Qid : GM
 | [.agg u0, .ro (.cells u1)], k => un 2 (fun a0 a1 => un 1 (fun a2 => 
  call Qic [.agg [a0, a1]] fun o0 =>
  binP .eql (atP o0 0) a2 fun r1 =>
  rt [.sc] [r1] k) u1) u0
 | _, _ => False
abbrev Qid_e : Ent := ⟨[175], Qid⟩
theorem Qid_w : EntOK Tryz.prog TT Qid_e := ent_ok tabok (L := [Qic_e]) ⟨Qic_w, trivial⟩ (keep := []) (l := []) Tryz.func175 (by kernel_rfl) (sg := [.one (.sc)]) (by kernel_rfl) trivial fun av k h => by
  unfold Qid at h; split at h
  · apply un_all h; clear h; intro a0 a1 h; apply un_all h; clear h; intro a2 h; exact Eq.mpr (by kernel_rfl) h
  · exact h.elim
def Qie_r0 (v : List PV) (K : List PV → Prop) (x0k : PV → Prop) (x1k : PV → PV → PV → PV → PV → Prop) : Prop :=
 un 5 (fun v0 v1 v2 v3 v4 =>
  binP .lss v4 v3 fun r0 =>
  iteP r0
   (elemP 2 v0 v4 fun c1 =>
   call Qid [.agg [(atP c1 0), (atP c1 1)], .ro (.cells [v1])] fun o2 =>
   iteP (atP o2 0)
    (x0k v4)
    (binP .add v4 (I 1) fun r3 =>
    K [v0, v1, v2, v3, r3]))
   (x1k v0 v1 v2 v3 v4)) v
def Qie : GM
 | [.one a0, .fn 175 [.cells u0]], k => un 1 (fun a1 => 
  lenP a0 fun r0 =>
  lp (fun L w => Qie_r0 w L
   (fun q4 => rt [.sc] [q4] k)
   (fun q5 q6 q7 q8 q9 => rt [.sc] [(I (-1))] k)) [a0, a1, (I 0), r0, (I 0)]) u0
 | _, _ => False
abbrev Qie_e : Ent := ⟨[80, 175], Qie⟩
def Qie_l : List LE := [⟨0, ⟨[(0, .one zB), (1, .one (.fn 175 [.ro (.cells [(.bool false)])])), (4, .one zB), (7, .one zB), (8, .one zB)], [], [], 0, 19⟩, fun K k v => Qie_r0 v K (fun x0 => k .ret ⟨[(4, .one (.pv x0))], [], [], 1, 19⟩) (fun x0 x1 x2 x3 x4 => k (.exit 0) ⟨[(0, .one (.pv x0)), (1, .one (.fn 175 [.ro (.cells [x1])])), (4, .one (.pv x2)), (7, .one (.pv x3)), (8, .one (.pv x4))], [], [], 0, 19⟩)⟩]
theorem Qie_s : LEsOK (orac [Qid_e]) TT (kk [0, 1, 4, 7, 8]) (sumsOf Qie_l) Tryz.f80 Qie_l := ⟨fun v K k h => by
  apply un_all h; exact fun v0 v1 v2 v3 v4 h => Eq.mpr (by kernel_rfl) h
  , trivial⟩
theorem Qie_w : EntOK Tryz.prog TT Qie_e := ent_ok tabok (L := [Qid_e]) ⟨Qid_w, trivial⟩ (keep := (kk [0, 1, 4, 7, 8])) (l := Qie_l) Tryz.func80 (by kernel_rfl) (sg := [.one (.sc)]) (by kernel_rfl) Qie_s fun av k h => by
  unfold Qie at h; split at h
  · apply un_all h; clear h; intro a1 h; exact Eq.mpr (by kernel_rfl) h
  · exact h.elim
def Qif : GM
 | [.agg u0, .one a8], k => un 8 (fun a0 a1 a2 a3 a4 a5 a6 a7 => 
  call Qie [.one a2, .fn 175 [.cells [a8]]] fun o0 =>
  rt [.sc] [(atP o0 0)] k) u0
 | _, _ => False
abbrev Qif_e : Ent := ⟨[127], Qif⟩
theorem Qif_w : EntOK Tryz.prog TT Qif_e := ent_ok tabok (L := [Qie_e]) ⟨Qie_w, trivial⟩ (keep := []) (l := []) Tryz.func127 (by kernel_rfl) (sg := [.one (.sc)]) (by kernel_rfl) trivial fun av k h => by
  unfold Qif at h; split at h
  · apply un_all h; clear h; intro a0 a1 a2 a3 a4 a5 a6 a7 h; exact Eq.mpr (by kernel_rfl) h
  · exact h.elim
def Qig_r0 (v : List PV) (K : List PV → Prop) (x0k : PV → PV → PV → PV → PV → PV → PV → PV → PV → PV → Prop) (x1k : PV → PV → PV → PV → PV → PV → PV → PV → PV → PV → Prop) (x2k : PV → PV → PV → PV → PV → PV → PV → PV → PV → PV → PV → PV → Prop) : Prop :=
 un 12 (fun v0 v1 v2 v3 v4 v5 v6 v7 v8 v9 v10 v11 =>
  binP .lss v3 v2 fun r0 =>
  iteP r0
   (elemP 2 v1 v3 fun c1 =>
   call Qic [.agg [(atP c1 0), (atP c1 1)]] fun o2 =>
   binP .lss (atP o2 0) (I 0) fun r3 =>
   iteP r3
    (x0k (atP c1 0) (atP c1 1) v4 v5 v6 v7 v8 v9 v10 v11)
    (call Qif [.agg [v4, v5, v6, v7, v8, v9, v10, v11], .one (atP o2 0)] fun o4 =>
    binP .neq (atP o4 0) v3 fun r5 =>
    iteP r5
     (x1k (atP c1 0) (atP c1 1) v4 v5 v6 v7 v8 v9 v10 v11)
     (binP .add v3 (I 1) fun r6 =>
     K [v0, v1, v2, r6, v4, v5, v6, v7, v8, v9, v10, v11])))
   (x2k v0 v1 v2 v3 v4 v5 v6 v7 v8 v9 v10 v11)) v
def Qig : GM
 | [.agg u0], k => un 8 (fun a0 a1 a2 a3 a4 a5 a6 a7 => 
  lenP a2 fun r0 =>
  lp (fun L w => Qig_r0 w L
   (fun q7 q8 q9 q10 q11 q12 q13 q14 q15 q16 => rt [.sc] [(.bool false)] k)
   (fun q17 q18 q19 q20 q21 q22 q23 q24 q25 q26 => rt [.sc] [(.bool false)] k)
   (fun q27 q28 q29 q30 q31 q32 q33 q34 q35 q36 q37 q38 => lenP q33 fun r39 =>
    binP .leq r39 (I 8) fun r40 =>
    rt [.sc] [r40] k)) [(.bool false), a2, r0, (I 0), a0, a1, a2, a3, a4, a5, a6, a7]) u0
 | _, _ => False
abbrev Qig_e : Ent := ⟨[70], Qig⟩
def Qig_l : List LE := [⟨0, ⟨[(1, .one (.ptr 0 0)), (2, .one zB), (7, .one zB), (8, .one zB), (9, .one zB)], [(0, [zB, zB, zB, zB, zB, zB, zB, zB])], [], 1, 30⟩, fun K k v => Qig_r0 v K (fun x0 x1 x2 x3 x4 x5 x6 x7 x8 x9 => k .ret ⟨[(2, .one (.kb false))], [(1, [.pv x0, .pv x1]), (1, [.nil 129 17, .nil 114 4]), (0, [.pv x2, .pv x3, .pv x4, .pv x5, .pv x6, .pv x7, .pv x8, .pv x9])], [], 3, 30⟩) (fun x0 x1 x2 x3 x4 x5 x6 x7 x8 x9 => k .ret ⟨[(2, .one (.kb false))], [(1, [.pv x0, .pv x1]), (1, [.nil 129 17, .nil 114 4]), (0, [.pv x2, .pv x3, .pv x4, .pv x5, .pv x6, .pv x7, .pv x8, .pv x9])], [], 4, 30⟩) (fun x0 x1 x2 x3 x4 x5 x6 x7 x8 x9 x10 x11 => k (.exit 0) ⟨[(1, .one (.ptr 0 0)), (2, .one (.pv x0)), (7, .one (.pv x1)), (8, .one (.pv x2)), (9, .one (.pv x3))], [(0, [.pv x4, .pv x5, .pv x6, .pv x7, .pv x8, .pv x9, .pv x10, .pv x11])], [], 1, 30⟩)⟩]
theorem Qig_s : LEsOK (orac [Qic_e, Qif_e]) TT (kk [1, 2, 7, 8, 9, 19, 20, 21, 22, 23]) (sumsOf Qig_l) Tryz.f70 Qig_l := ⟨fun v K k h => by
  apply un_all h; exact fun v0 v1 v2 v3 v4 v5 v6 v7 v8 v9 v10 v11 h => Eq.mpr (by kernel_rfl) h
  , trivial⟩
theorem Qig_w : EntOK Tryz.prog TT Qig_e := ent_ok tabok (L := [Qic_e, Qif_e]) ⟨Qic_w, Qif_w, trivial⟩ (keep := (kk [1, 2, 7, 8, 9, 19, 20, 21, 22, 23])) (l := Qig_l) Tryz.func70 (by kernel_rfl) (sg := [.one (.sc)]) (by kernel_rfl) Qig_s fun av k h => by
  unfold Qig at h; split at h
  · apply un_all h; clear h; intro a0 a1 a2 a3 a4 a5 a6 a7 h; exact Eq.mpr (by kernel_rfl) h
  · exact h.elim
def Qih : GM
 | [.agg u0], k => un 3 (fun a0 a1 a2 => 
  call Qib [.agg [a0, a1]] fun o0 =>
  unP .not (atP o0 0) fun r1 =>
  rt [.sc] [r1] k) u0
 | _, _ => False
abbrev Qih_e : Ent := ⟨[71], Qih⟩
theorem Qih_w : EntOK Tryz.prog TT Qih_e := ent_ok tabok (L := [Qib_e]) ⟨Qib_w, trivial⟩ (keep := []) (l := []) Tryz.func71 (by kernel_rfl) (sg := [.one (.sc)]) (by kernel_rfl) trivial fun av k h => by
  unfold Qih at h; split at h
  · apply un_all h; clear h; intro a0 a1 a2 h; exact Eq.mpr (by kernel_rfl) h
  · exact h.elim
def Qii_r0 (v : List PV) (K : List PV → Prop) (x0k : PV → Prop) (x1k : PV → PV → PV → PV → Prop) : Prop :=
 un 4 (fun v0 v1 v2 v3 =>
  binP .lss v3 v2 fun r0 =>
  iteP r0
   (elemP 3 v0 v3 fun c1 =>
   call Qih [.agg [(atP c1 0), (atP c1 1), (atP c1 2)]] fun o2 =>
   iteP (atP o2 0)
    (x0k v3)
    (binP .add v3 (I 1) fun r3 =>
    K [v0, v1, v2, r3]))
   (x1k v0 v1 v2 v3)) v
def Qii : GM
 | [.one a0, .fn 71 []], k => 
  lenP a0 fun r0 =>
  lp (fun L w => Qii_r0 w L
   (fun q4 => rt [.sc] [q4] k)
   (fun q5 q6 q7 q8 => rt [.sc] [(I (-1))] k)) [a0, (I 0), r0, (I 0)]
 | _, _ => False
abbrev Qii_e : Ent := ⟨[78, 71], Qii⟩
def Qii_l : List LE := [⟨0, ⟨[(0, .one zB), (1, .one (.fn 71 [])), (4, .one zB), (7, .one zB), (8, .one zB)], [], [], 0, 19⟩, fun K k v => Qii_r0 v K (fun x0 => k .ret ⟨[(4, .one (.pv x0))], [], [], 1, 19⟩) (fun x0 x1 x2 x3 => k (.exit 0) ⟨[(0, .one (.pv x0)), (1, .one (.fn 71 [])), (4, .one (.pv x1)), (7, .one (.pv x2)), (8, .one (.pv x3))], [], [], 0, 19⟩)⟩]
theorem Qii_s : LEsOK (orac [Qih_e]) TT (kk [0, 1, 4, 7, 8]) (sumsOf Qii_l) Tryz.f78 Qii_l := ⟨fun v K k h => by
  apply un_all h; exact fun v0 v1 v2 v3 h => Eq.mpr (by kernel_rfl) h
  , trivial⟩
theorem Qii_w : EntOK Tryz.prog TT Qii_e := ent_ok tabok (L := [Qih_e]) ⟨Qih_w, trivial⟩ (keep := (kk [0, 1, 4, 7, 8])) (l := Qii_l) Tryz.func78 (by kernel_rfl) (sg := [.one (.sc)]) (by kernel_rfl) Qii_s fun av k h => by
  unfold Qii at h; split at h
  · exact Eq.mpr (by kernel_rfl) h
  · exact h.elim
def Qij : GM
 | [.one a0, .fn 71 []], k => 
  call Qii [.one a0, .fn 71 []] fun o0 =>
  binP .geq (atP o0 0) (I 0) fun r1 =>
  rt [.sc] [r1] k
 | _, _ => False
abbrev Qij_e : Ent := ⟨[27, 71], Qij⟩
theorem Qij_w : EntOK Tryz.prog TT Qij_e := ent_ok tabok (L := [Qii_e]) ⟨Qii_w, trivial⟩ (keep := []) (l := []) Tryz.func27 (by kernel_rfl) (sg := [.one (.sc)]) (by kernel_rfl) trivial fun av k h => by
  unfold Qij at h; split at h
  · exact Eq.mpr (by kernel_rfl) h
  · exact h.elim
def Qik : GM
 | [.agg u0], k => un 2 (fun a0 a1 => 
  call Qib [.agg [a0, a1]] fun o0 =>
  unP .not (atP o0 0) fun r1 =>
  rt [.sc] [r1] k) u0
 | _, _ => False
abbrev Qik_e : Ent := ⟨[132], Qik⟩
theorem Qik_w : EntOK Tryz.prog TT Qik_e := ent_ok tabok (L := [Qib_e]) ⟨Qib_w, trivial⟩ (keep := []) (l := []) Tryz.func132 (by kernel_rfl) (sg := [.one (.sc)]) (by kernel_rfl) trivial fun av k h => by
  unfold Qik at h; split at h
  · apply un_all h; clear h; intro a0 a1 h; exact Eq.mpr (by kernel_rfl) h
  · exact h.elim
def Qil_r0 (v : List PV) (K : List PV → Prop) (x0k : PV → Prop) (x1k : PV → PV → PV → PV → Prop) : Prop :=
 un 4 (fun v0 v1 v2 v3 =>
  binP .lss v3 v2 fun r0 =>
  iteP r0
   (elemP 2 v0 v3 fun c1 =>
   call Qik [.agg [(atP c1 0), (atP c1 1)]] fun o2 =>
   iteP (atP o2 0)
    (x0k v3)
    (binP .add v3 (I 1) fun r3 =>
    K [v0, v1, v2, r3]))
   (x1k v0 v1 v2 v3)) v
def Qil : GM
 | [.one a0, .fn 132 []], k => 
  lenP a0 fun r0 =>
  lp (fun L w => Qil_r0 w L
   (fun q4 => rt [.sc] [q4] k)
   (fun q5 q6 q7 q8 => rt [.sc] [(I (-1))] k)) [a0, (I 0), r0, (I 0)]
 | _, _ => False
abbrev Qil_e : Ent := ⟨[80, 132], Qil⟩
def Qil_l : List LE := [⟨0, ⟨[(0, .one zB), (1, .one (.fn 132 [])), (4, .one zB), (7, .one zB), (8, .one zB)], [], [], 0, 19⟩, fun K k v => Qil_r0 v K (fun x0 => k .ret ⟨[(4, .one (.pv x0))], [], [], 1, 19⟩) (fun x0 x1 x2 x3 => k (.exit 0) ⟨[(0, .one (.pv x0)), (1, .one (.fn 132 [])), (4, .one (.pv x1)), (7, .one (.pv x2)), (8, .one (.pv x3))], [], [], 0, 19⟩)⟩]
theorem Qil_s : LEsOK (orac [Qik_e]) TT (kk [0, 1, 4, 7, 8]) (sumsOf Qil_l) Tryz.f80 Qil_l := ⟨fun v K k h => by
  apply un_all h; exact fun v0 v1 v2 v3 h => Eq.mpr (by kernel_rfl) h
  , trivial⟩
theorem Qil_w : EntOK Tryz.prog TT Qil_e := ent_ok tabok (L := [Qik_e]) ⟨Qik_w, trivial⟩ (keep := (kk [0, 1, 4, 7, 8])) (l := Qil_l) Tryz.func80 (by kernel_rfl) (sg := [.one (.sc)]) (by kernel_rfl) Qil_s fun av k h => by
  unfold Qil at h; split at h
  · exact Eq.mpr (by kernel_rfl) h
  · exact h.elim
def Qim : GM
 | [.one a0, .fn 132 []], k => 
  call Qil [.one a0, .fn 132 []] fun o0 =>
  binP .geq (atP o0 0) (I 0) fun r1 =>
  rt [.sc] [r1] k
 | _, _ => False
abbrev Qim_e : Ent := ⟨[30, 132], Qim⟩
theorem Qim_w : EntOK Tryz.prog TT Qim_e := ent_ok tabok (L := [Qil_e]) ⟨Qil_w, trivial⟩ (keep := []) (l := []) Tryz.func30 (by kernel_rfl) (sg := [.one (.sc)]) (by kernel_rfl) trivial fun av k h => by
  unfold Qim at h; split at h
  · exact Eq.mpr (by kernel_rfl) h
  · exact h.elim
def Qin : GM
 | [.agg u0], k => un 2 (fun a0 a1 => 
  lenP a0 fun r0 =>
  binP .leq r0 (I 8) fun r1 =>
  iteP r1
   (call Qim [.one a0, .fn 132 []] fun o2 =>
   unP .not (atP o2 0) fun r3 =>
   iteP r3
    (call Qfj [.one a1, .one (I 0), .one (I 4)] fun o4 =>
    rt [.sc] [(atP o4 0)] k)
    (rt [.sc] [(.bool false)] k))
   (rt [.sc] [(.bool false)] k)) u0
 | _, _ => False
abbrev Qin_e : Ent := ⟨[75], Qin⟩
theorem Qin_w : EntOK Tryz.prog TT Qin_e := ent_ok tabok (L := [Qim_e, Qfj_e]) ⟨Qim_w, Qfj_w, trivial⟩ (keep := []) (l := []) Tryz.func75 (by kernel_rfl) (sg := [.one (.sc)]) (by kernel_rfl) trivial fun av k h => by
  unfold Qin at h; split at h
  · apply un_all h; clear h; intro a0 a1 h; exact Eq.mpr (by kernel_rfl) h
  · exact h.elim
def Qio : GM
 | [.agg u0], k => un 2 (fun a0 a1 => 
  call Qin [.agg [a0, a1]] fun o0 =>
  unP .not (atP o0 0) fun r1 =>
  rt [.sc] [r1] k) u0
 | _, _ => False
abbrev Qio_e : Ent := ⟨[74], Qio⟩
theorem Qio_w : EntOK Tryz.prog TT Qio_e := ent_ok tabok (L := [Qin_e]) ⟨Qin_w, trivial⟩ (keep := []) (l := []) Tryz.func74 (by kernel_rfl) (sg := [.one (.sc)]) (by kernel_rfl) trivial fun av k h => by
  unfold Qio at h; split at h
  · apply un_all h; clear h; intro a0 a1 h; exact Eq.mpr (by kernel_rfl) h
  · exact h.elim
def Qip_r0 (v : List PV) (K : List PV → Prop) (x0k : PV → Prop) (x1k : PV → PV → PV → PV → Prop) : Prop :=
 un 4 (fun v0 v1 v2 v3 =>
  binP .lss v3 v2 fun r0 =>
  iteP r0
   (elemP 2 v0 v3 fun c1 =>
   call Qio [.agg [(atP c1 0), (atP c1 1)]] fun o2 =>
   iteP (atP o2 0)
    (x0k v3)
    (binP .add v3 (I 1) fun r3 =>
    K [v0, v1, v2, r3]))
   (x1k v0 v1 v2 v3)) v
def Qip : GM
 | [.one a0, .fn 74 []], k => 
  lenP a0 fun r0 =>
  lp (fun L w => Qip_r0 w L
   (fun q4 => rt [.sc] [q4] k)
   (fun q5 q6 q7 q8 => rt [.sc] [(I (-1))] k)) [a0, (I 0), r0, (I 0)]
 | _, _ => False
abbrev Qip_e : Ent := ⟨[131, 74], Qip⟩
def Qip_l : List LE := [⟨0, ⟨[(0, .one zB), (1, .one (.fn 74 [])), (4, .one zB), (7, .one zB), (8, .one zB)], [], [], 0, 19⟩, fun K k v => Qip_r0 v K (fun x0 => k .ret ⟨[(4, .one (.pv x0))], [], [], 1, 19⟩) (fun x0 x1 x2 x3 => k (.exit 0) ⟨[(0, .one (.pv x0)), (1, .one (.fn 74 [])), (4, .one (.pv x1)), (7, .one (.pv x2)), (8, .one (.pv x3))], [], [], 0, 19⟩)⟩]
theorem Qip_s : LEsOK (orac [Qio_e]) TT (kk [0, 1, 4, 7, 8]) (sumsOf Qip_l) Tryz.f131 Qip_l := ⟨fun v K k h => by
  apply un_all h; exact fun v0 v1 v2 v3 h => Eq.mpr (by kernel_rfl) h
  , trivial⟩
theorem Qip_w : EntOK Tryz.prog TT Qip_e := ent_ok tabok (L := [Qio_e]) ⟨Qio_w, trivial⟩ (keep := (kk [0, 1, 4, 7, 8])) (l := Qip_l) Tryz.func131 (by kernel_rfl) (sg := [.one (.sc)]) (by kernel_rfl) Qip_s fun av k h => by
  unfold Qip at h; split at h
  · exact Eq.mpr (by kernel_rfl) h
  · exact h.elim
def Qiq : GM
 | [.one a0, .fn 74 []], k => 
  call Qip [.one a0, .fn 74 []] fun o0 =>
  binP .geq (atP o0 0) (I 0) fun r1 =>
  rt [.sc] [r1] k
 | _, _ => False
abbrev Qiq_e : Ent := ⟨[73, 74], Qiq⟩
theorem Qiq_w : EntOK Tryz.prog TT Qiq_e := ent_ok tabok (L := [Qip_e]) ⟨Qip_w, trivial⟩ (keep := []) (l := []) Tryz.func73 (by kernel_rfl) (sg := [.one (.sc)]) (by kernel_rfl) trivial fun av k h => by
  unfold Qiq at h; split at h
  · exact Eq.mpr (by kernel_rfl) h
  · exact h.elim
def Qir : GM
 | [.one a0, .ro (.cells u0)], k => un 1 (fun a1 => 
  lenP a0 fun r0 =>
  binP .gtr r0 (I 0) fun r1 =>
  iteP r1
   (elemP 17 a0 (I 0) fun c2 =>
   binP .eql (atP c2 0) a1 fun r3 =>
   rt [.sc] [r3] k)
   (rt [.sc] [(.bool false)] k)) u0
 | _, _ => False
abbrev Qir_e : Ent := ⟨[180], Qir⟩
theorem Qir_w : EntOK Tryz.prog TT Qir_e := ent_ok tabok (L := []) trivial (keep := []) (l := []) Tryz.func180 (by kernel_rfl) (sg := [.one (.sc)]) (by kernel_rfl) trivial fun av k h => by
  unfold Qir at h; split at h
  · apply un_all h; clear h; intro a1 h; exact Eq.mpr (by kernel_rfl) h
  · exact h.elim
def Qis_r0 (v : List PV) (K : List PV → Prop) (x0k : PV → Prop) (x1k : PV → PV → PV → PV → PV → Prop) : Prop :=
 un 5 (fun v0 v1 v2 v3 v4 =>
  binP .lss v4 v3 fun r0 =>
  iteP r0
   (elemP 1 v0 v4 fun c1 =>
   call Qir [.one (atP c1 0), .ro (.cells [v1])] fun o2 =>
   iteP (atP o2 0)
    (x0k v4)
    (binP .add v4 (I 1) fun r3 =>
    K [v0, v1, v2, v3, r3]))
   (x1k v0 v1 v2 v3 v4)) v
def Qis : GM
 | [.one a0, .fn 180 [.cells u0]], k => un 1 (fun a1 => 
  lenP a0 fun r0 =>
  lp (fun L w => Qis_r0 w L
   (fun q4 => rt [.sc] [q4] k)
   (fun q5 q6 q7 q8 q9 => rt [.sc] [(I (-1))] k)) [a0, a1, (I 0), r0, (I 0)]) u0
 | _, _ => False
abbrev Qis_e : Ent := ⟨[179, 180], Qis⟩
def Qis_l : List LE := [⟨0, ⟨[(0, .one zB), (1, .one (.fn 180 [.ro (.cells [(.bool false)])])), (4, .one zB), (7, .one zB), (8, .one zB)], [], [], 0, 19⟩, fun K k v => Qis_r0 v K (fun x0 => k .ret ⟨[(4, .one (.pv x0))], [], [], 1, 19⟩) (fun x0 x1 x2 x3 x4 => k (.exit 0) ⟨[(0, .one (.pv x0)), (1, .one (.fn 180 [.ro (.cells [x1])])), (4, .one (.pv x2)), (7, .one (.pv x3)), (8, .one (.pv x4))], [], [], 0, 19⟩)⟩]
theorem Qis_s : LEsOK (orac [Qir_e]) TT (kk [0, 1, 4, 7, 8]) (sumsOf Qis_l) Tryz.f179 Qis_l := ⟨fun v K k h => by
  apply un_all h; exact fun v0 v1 v2 v3 v4 h => Eq.mpr (by kernel_rfl) h
  , trivial⟩
theorem Qis_w : EntOK Tryz.prog TT Qis_e := ent_ok tabok (L := [Qir_e]) ⟨Qir_w, trivial⟩ (keep := (kk [0, 1, 4, 7, 8])) (l := Qis_l) Tryz.func179 (by kernel_rfl) (sg := [.one (.sc)]) (by kernel_rfl) Qis_s fun av k h => by
  unfold Qis at h; split at h
  · apply un_all h; clear h; intro a1 h; exact Eq.mpr (by kernel_rfl) h
  · exact h.elim
def Qit : GM
 | [.agg u0, .one a2], k => un 2 (fun a0 a1 => 
  call Qis [.one a0, .fn 180 [.cells [a2]]] fun o0 =>
  rt [.sc] [(atP o0 0)] k) u0
 | _, _ => False
abbrev Qit_e : Ent := ⟨[133], Qit⟩
theorem Qit_w : EntOK Tryz.prog TT Qit_e := ent_ok tabok (L := [Qis_e]) ⟨Qis_w, trivial⟩ (keep := []) (l := []) Tryz.func133 (by kernel_rfl) (sg := [.one (.sc)]) (by kernel_rfl) trivial fun av k h => by
  unfold Qit at h; split at h
  · apply un_all h; clear h; intro a0 a1 h; exact Eq.mpr (by kernel_rfl) h
  · exact h.elim
def Qiu : GM
 | [.agg u0, .agg u1], k => un 16 (fun a0 a1 a2 a3 a4 a5 a6 a7 a8 a9 a10 a11 a12 a13 a14 a15 => un 16 (fun a16 a17 a18 a19 a20 a21 a22 a23 a24 a25 a26 a27 a28 a29 a30 a31 => 
  call Qgw [.agg [a8, a9], .agg [a24, a25]] fun o0 =>
  iteP (atP o0 0)
   (call Qgw [.agg [a10, a11], .agg [a26, a27]] fun o1 =>
   iteP (atP o1 0)
    (call Qgw [.agg [a13, a14], .agg [a29, a30]] fun o2 =>
    iteP (atP o2 0)
     (call Qgh [.agg [a0, a1, a2, a3, a4, a5, a6, a7, a8, a9, a10, a11, a12, a13, a14, a15]] fun o3 =>
     call Qgh [.agg [a16, a17, a18, a19, a20, a21, a22, a23, a24, a25, a26, a27, a28, a29, a30, a31]] fun o4 =>
     call Qgv [.one (atP o3 0), .one (atP o4 0)] fun o5 =>
     rt [.sc] [(atP o5 0)] k)
     (rt [.sc] [(.bool false)] k))
    (rt [.sc] [(.bool false)] k))
   (rt [.sc] [(.bool false)] k)) u1) u0
 | _, _ => False
abbrev Qiu_e : Ent := ⟨[142], Qiu⟩
theorem Qiu_w : EntOK Tryz.prog TT Qiu_e := ent_ok tabok (L := [Qgw_e, Qgh_e, Qgv_e]) ⟨Qgw_w, Qgh_w, Qgv_w, trivial⟩ (keep := []) (l := []) Tryz.func142 (by kernel_rfl) (sg := [.one (.sc)]) (by kernel_rfl) trivial fun av k h => by
  unfold Qiu at h; split at h
  · apply un_all h; clear h; intro a0 a1 a2 a3 a4 a5 a6 a7 a8 a9 a10 a11 a12 a13 a14 a15 h; apply un_all h; clear h; intro a16 a17 a18 a19 a20 a21 a22 a23 a24 a25 a26 a27 a28 a29 a30 a31 h; exact Eq.mpr (by kernel_rfl) h
  · exact h.elim
def Qiv_r0 (v : List PV) (K : List PV → Prop) (x0k : Prop) (x1k : PV → PV → PV → PV → PV → Prop) : Prop :=
 un 5 (fun v0 v1 v2 v3 v4 =>
  binP .lss v4 v3 fun r0 =>
  iteP r0
   (elemP 2 v0 v4 fun c1 =>
   elemP 2 v1 v4 fun c2 =>
   (kindsP [.pv (I 0), .pv (I 0)] [(atP c1 0), (atP c1 1)]) ∧ (kindsP [.pv (I 0), .pv (I 0)] [(atP c2 0), (atP c2 1)]) ∧ aggP .neq [(atP c1 0), (atP c1 1)] [(atP c2 0), (atP c2 1)] fun r3 =>
   iteP r3
    (x0k)
    (binP .add v4 (I 1) fun r4 =>
    K [v0, v1, v2, v3, r4]))
   (x1k v0 v1 v2 v3 v4)) v
def Qiv : GM
 | [.one a0, .one a1], k => 
  lenP a0 fun r0 =>
  lenP a1 fun r1 =>
  binP .neq r0 r1 fun r2 =>
  iteP r2
   (rt [.sc] [(.bool false)] k)
   (lenP a0 fun r3 =>
   lp (fun L w => Qiv_r0 w L
    (rt [.sc] [(.bool false)] k)
    (fun q5 q6 q7 q8 q9 => rt [.sc] [(.bool true)] k)) [a0, a1, (.bool false), r3, (I 0)])
 | _, _ => False
abbrev Qiv_e : Ent := ⟨[194], Qiv⟩
def Qiv_l : List LE := [⟨0, ⟨[(0, .one zB), (1, .one zB), (4, .one zB), (12, .one zB), (13, .one zB)], [], [], 0, 26⟩, fun K k v => Qiv_r0 v K (k .ret ⟨[(4, .one (.kb false))], [], [], 0, 26⟩) (fun x0 x1 x2 x3 x4 => k (.exit 0) ⟨[(0, .one (.pv x0)), (1, .one (.pv x1)), (4, .one (.pv x2)), (12, .one (.pv x3)), (13, .one (.pv x4))], [], [], 0, 26⟩)⟩]
theorem Qiv_s : LEsOK (orac []) TT (kk [0, 1, 4, 12, 13]) (sumsOf Qiv_l) Tryz.f194 Qiv_l := ⟨fun v K k h => by
  apply un_all h; exact fun v0 v1 v2 v3 v4 h => Eq.mpr (by kernel_rfl) h
  , trivial⟩
theorem Qiv_w : EntOK Tryz.prog TT Qiv_e := ent_ok tabok (L := []) trivial (keep := (kk [0, 1, 4, 12, 13])) (l := Qiv_l) Tryz.func194 (by kernel_rfl) (sg := [.one (.sc)]) (by kernel_rfl) Qiv_s fun av k h => by
  unfold Qiv at h; split at h
  · exact Eq.mpr (by kernel_rfl) h
  · exact h.elim
def Qiw : GM
 | [.agg u0, .agg u1], k => un 17 (fun a0 a1 a2 a3 a4 a5 a6 a7 a8 a9 a10 a11 a12 a13 a14 a15 a16 => un 17 (fun a17 a18 a19 a20 a21 a22 a23 a24 a25 a26 a27 a28 a29 a30 a31 a32 a33 => 
  call Qiu [.agg [a0, a1, a2, a3, a4, a5, a6, a7, a8, a9, a10, a11, a12, a13, a14, a15], .agg [a17, a18, a19, a20, a21, a22, a23, a24, a25, a26, a27, a28, a29, a30, a31, a32]] fun o0 =>
  iteP (atP o0 0)
   (call Qiv [.one a16, .one a33] fun o1 =>
   rt [.sc] [(atP o1 0)] k)
   (rt [.sc] [(.bool false)] k)) u1) u0
 | _, _ => False
abbrev Qiw_e : Ent := ⟨[147], Qiw⟩
theorem Qiw_w : EntOK Tryz.prog TT Qiw_e := ent_ok tabok (L := [Qiu_e, Qiv_e]) ⟨Qiu_w, Qiv_w, trivial⟩ (keep := []) (l := []) Tryz.func147 (by kernel_rfl) (sg := [.one (.sc)]) (by kernel_rfl) trivial fun av k h => by
  unfold Qiw at h; split at h
  · apply un_all h; clear h; intro a0 a1 a2 a3 a4 a5 a6 a7 a8 a9 a10 a11 a12 a13 a14 a15 a16 h; apply un_all h; clear h; intro a17 a18 a19 a20 a21 a22 a23 a24 a25 a26 a27 a28 a29 a30 a31 a32 a33 h; exact Eq.mpr (by kernel_rfl) h
  · exact h.elim
def Qix : GM
 | [.agg u0], k => un 51 (fun a0 a1 a2 a3 a4 a5 a6 a7 a8 a9 a10 a11 a12 a13 a14 a15 a16 a17 a18 a19 a20 a21 a22 a23 a24 a25 a26 a27 a28 a29 a30 a31 a32 a33 a34 a35 a36 a37 a38 a39 a40 a41 a42 a43 a44 a45 a46 a47 a48 a49 a50 => 
  call Qiu [.agg [a17, a18, a19, a20, a21, a22, a23, a24, a25, a26, a27, a28, a29, a30, a31, a32], .agg [a34, a35, a36, a37, a38, a39, a40, a41, a42, a43, a44, a45, a46, a47, a48, a49]] fun o0 =>
  iteP (atP o0 0)
   (rt [.sc] [(.bool false)] k)
   (call Qiw [.agg [a0, a1, a2, a3, a4, a5, a6, a7, a8, a9, a10, a11, a12, a13, a14, a15, a16], .agg [(I 0), (I 0), (I 0), (I 0), (I 0), (I 0), (I 0), (I 0), (.list 1 []), (I 0), (.list 1 []), (I 0), (I 0), (.list 1 []), (I 0), (.bool false), (.list 2 [])]] fun o1 =>
   iteP (atP o1 0)
    (call Qgr [.agg [a17, a18, a19, a20, a21, a22, a23, a24, a25, a26, a27, a28, a29, a30, a31, a32, a33]] fun o2 =>
    iteP (atP o2 0)
     (call Qgr [.agg [a34, a35, a36, a37, a38, a39, a40, a41, a42, a43, a44, a45, a46, a47, a48, a49, a50]] fun o3 =>
     iteP (atP o3 0)
      (binP .eql a17 a34 fun r4 =>
      rt [.sc] [r4] k)
      (rt [.sc] [(.bool false)] k))
     (rt [.sc] [(.bool false)] k))
    (call Qhb [.agg [a0, a1, a2, a3, a4, a5, a6, a7, a8, a9, a10, a11, a12, a13, a14, a15], .agg [a17, a18, a19, a20, a21, a22, a23, a24, a25, a26, a27, a28, a29, a30, a31, a32, a33]] fun o5 =>
    iteP (atP o5 0)
     (call Qhb [.agg [a0, a1, a2, a3, a4, a5, a6, a7, a8, a9, a10, a11, a12, a13, a14, a15], .agg [a34, a35, a36, a37, a38, a39, a40, a41, a42, a43, a44, a45, a46, a47, a48, a49, a50]] fun o6 =>
     rt [.sc] [(atP o6 0)] k)
     (rt [.sc] [(.bool false)] k)))) u0
 | _, _ => False
abbrev Qix_e : Ent := ⟨[135], Qix⟩
theorem Qix_w : EntOK Tryz.prog TT Qix_e := ent_ok tabok (L := [Qiu_e, Qiw_e, Qgr_e, Qhb_e]) ⟨Qiu_w, Qiw_w, Qgr_w, Qhb_w, trivial⟩ (keep := []) (l := []) Tryz.func135 (by kernel_rfl) (sg := [.one (.sc)]) (by kernel_rfl) trivial fun av k h => by
  unfold Qix at h; split at h
  · apply un_all h; clear h; intro a0 a1 a2 a3 a4 a5 a6 a7 a8 a9 a10 a11 a12 a13 a14 a15 a16 a17 a18 a19 a20 a21 a22 a23 a24 a25 a26 a27 a28 a29 a30 a31 a32 a33 a34 a35 a36 a37 a38 a39 a40 a41 a42 a43 a44 a45 a46 a47 a48 a49 a50 h; exact Eq.mpr (by kernel_rfl) h
  · exact h.elim
def Qiy : GM
 | [.agg u0], k => un 51 (fun a0 a1 a2 a3 a4 a5 a6 a7 a8 a9 a10 a11 a12 a13 a14 a15 a16 a17 a18 a19 a20 a21 a22 a23 a24 a25 a26 a27 a28 a29 a30 a31 a32 a33 a34 a35 a36 a37 a38 a39 a40 a41 a42 a43 a44 a45 a46 a47 a48 a49 a50 => 
  call Qix [.agg [a0, a1, a2, a3, a4, a5, a6, a7, a8, a9, a10, a11, a12, a13, a14, a15, a16, a17, a18, a19, a20, a21, a22, a23, a24, a25, a26, a27, a28, a29, a30, a31, a32, a33, a34, a35, a36, a37, a38, a39, a40, a41, a42, a43, a44, a45, a46, a47, a48, a49, a50]] fun o0 =>
  unP .not (atP o0 0) fun r1 =>
  rt [.sc] [r1] k) u0
 | _, _ => False
abbrev Qiy_e : Ent := ⟨[134], Qiy⟩
theorem Qiy_w : EntOK Tryz.prog TT Qiy_e := ent_ok tabok (L := [Qix_e]) ⟨Qix_w, trivial⟩ (keep := []) (l := []) Tryz.func134 (by kernel_rfl) (sg := [.one (.sc)]) (by kernel_rfl) trivial fun av k h => by
  unfold Qiy at h; split at h
  · apply un_all h; clear h; intro a0 a1 a2 a3 a4 a5 a6 a7 a8 a9 a10 a11 a12 a13 a14 a15 a16 a17 a18 a19 a20 a21 a22 a23 a24 a25 a26 a27 a28 a29 a30 a31 a32 a33 a34 a35 a36 a37 a38 a39 a40 a41 a42 a43 a44 a45 a46 a47 a48 a49 a50 h; exact Eq.mpr (by kernel_rfl) h
  · exact h.elim
def Qiz_r0 (v : List PV) (K : List PV → Prop) (x0k : PV → Prop) (x1k : PV → PV → PV → PV → Prop) : Prop :=
 un 4 (fun v0 v1 v2 v3 =>
  binP .lss v3 v2 fun r0 =>
  iteP r0
   (elemP 51 v0 v3 fun c1 =>
   call Qiy [.agg [(atP c1 0), (atP c1 1), (atP c1 2), (atP c1 3), (atP c1 4), (atP c1 5), (atP c1 6), (atP c1 7), (atP c1 8), (atP c1 9), (atP c1 10), (atP c1 11), (atP c1 12), (atP c1 13), (atP c1 14), (atP c1 15), (atP c1 16), (atP c1 17), (atP c1 18), (atP c1 19), (atP c1 20), (atP c1 21), (atP c1 22), (atP c1 23), (atP c1 24), (atP c1 25), (atP c1 26), (atP c1 27), (atP c1 28), (atP c1 29), (atP c1 30), (atP c1 31), (atP c1 32), (atP c1 33), (atP c1 34), (atP c1 35), (atP c1 36), (atP c1 37), (atP c1 38), (atP c1 39), (atP c1 40), (atP c1 41), (atP c1 42), (atP c1 43), (atP c1 44), (atP c1 45), (atP c1 46), (atP c1 47), (atP c1 48), (atP c1 49), (atP c1 50)]] fun o2 =>
   iteP (atP o2 0)
    (x0k v3)
    (binP .add v3 (I 1) fun r3 =>
    K [v0, v1, v2, r3]))
   (x1k v0 v1 v2 v3)) v
def Qiz : GM
 | [.one a0, .fn 134 []], k => 
  lenP a0 fun r0 =>
  lp (fun L w => Qiz_r0 w L
   (fun q4 => rt [.sc] [q4] k)
   (fun q5 q6 q7 q8 => rt [.sc] [(I (-1))] k)) [a0, (I 0), r0, (I 0)]
 | _, _ => False
abbrev Qiz_e : Ent := ⟨[146, 134], Qiz⟩
def Qiz_l : List LE := [⟨0, ⟨[(0, .one zB), (1, .one (.fn 134 [])), (4, .one zB), (7, .one zB), (8, .one zB)], [], [], 0, 19⟩, fun K k v => Qiz_r0 v K (fun x0 => k .ret ⟨[(4, .one (.pv x0))], [], [], 1, 19⟩) (fun x0 x1 x2 x3 => k (.exit 0) ⟨[(0, .one (.pv x0)), (1, .one (.fn 134 [])), (4, .one (.pv x1)), (7, .one (.pv x2)), (8, .one (.pv x3))], [], [], 0, 19⟩)⟩]
theorem Qiz_s : LEsOK (orac [Qiy_e]) TT (kk [0, 1, 4, 7, 8]) (sumsOf Qiz_l) Tryz.f146 Qiz_l := ⟨fun v K k h => by
  apply un_all h; exact fun v0 v1 v2 v3 h => Eq.mpr (by kernel_rfl) h
  , trivial⟩
theorem Qiz_w : EntOK Tryz.prog TT Qiz_e := ent_ok tabok (L := [Qiy_e]) ⟨Qiy_w, trivial⟩ (keep := (kk [0, 1, 4, 7, 8])) (l := Qiz_l) Tryz.func146 (by kernel_rfl) (sg := [.one (.sc)]) (by kernel_rfl) Qiz_s fun av k h => by
  unfold Qiz at h; split at h
  · exact Eq.mpr (by kernel_rfl) h
  · exact h.elim
def Qja : GM
 | [.one a0, .fn 134 []], k => 
  call Qiz [.one a0, .fn 134 []] fun o0 =>
  binP .geq (atP o0 0) (I 0) fun r1 =>
  rt [.sc] [r1] k
 | _, _ => False
abbrev Qja_e : Ent := ⟨[88, 134], Qja⟩
theorem Qja_w : EntOK Tryz.prog TT Qja_e := ent_ok tabok (L := [Qiz_e]) ⟨Qiz_w, trivial⟩ (keep := []) (l := []) Tryz.func88 (by kernel_rfl) (sg := [.one (.sc)]) (by kernel_rfl) trivial fun av k h => by
  unfold Qja at h; split at h
  · exact Eq.mpr (by kernel_rfl) h
  · exact h.elim
def Qjb_r0 (v : List PV) (K : List PV → Prop) (x0k : PV → PV → Prop) (x1k : PV → PV → Prop) (x2k : PV → PV → PV → PV → PV → PV → Prop) : Prop :=
 un 6 (fun v0 v1 v2 v3 v4 v5 =>
  binP .lss v3 v2 fun r0 =>
  iteP r0
   (elemP 1 v1 v3 fun c1 =>
   call Qhd [.one (atP c1 0)] fun o2 =>
   unP .not (atP o2 0) fun r3 =>
   iteP r3
    (x0k v4 v5)
    (elemP 17 (atP c1 0) (I 0) fun c4 =>
    call Qit [.agg [v4, v5], .one (atP c4 0)] fun o5 =>
    binP .neq (atP o5 0) v3 fun r6 =>
    iteP r6
     (x1k v4 v5)
     (binP .add v3 (I 1) fun r7 =>
     K [v0, v1, v2, r7, v4, v5])))
   (x2k v0 v1 v2 v3 v4 v5)) v
def Qjb : GM
 | [.agg u0], k => un 2 (fun a0 a1 => 
  lenP a0 fun r0 =>
  lp (fun L w => Qjb_r0 w L
   (fun q8 q9 => rt [.sc] [(.bool false)] k)
   (fun q10 q11 => rt [.sc] [(.bool false)] k)
   (fun q12 q13 q14 q15 q16 q17 => lenP q16 fun r18 =>
    binP .leq r18 (I 8) fun r19 =>
    iteP r19
     (lenP q17 fun r20 =>
     binP .leq r20 (I 8) fun r21 =>
     iteP r21
      (call Qja [.one q17, .fn 134 []] fun o22 =>
      unP .not (atP o22 0) fun r23 =>
      rt [.sc] [r23] k)
      (rt [.sc] [(.bool false)] k))
     (rt [.sc] [(.bool false)] k))) [(.bool false), a0, r0, (I 0), a0, a1]) u0
 | _, _ => False
abbrev Qjb_e : Ent := ⟨[76], Qjb⟩
def Qjb_l : List LE := [⟨0, ⟨[(1, .one (.ptr 0 0)), (2, .one zB), (6, .one zB), (7, .one zB), (8, .one zB)], [(0, [zB, zB])], [], 1, 44⟩, fun K k v => Qjb_r0 v K (fun x0 x1 => k .ret ⟨[(2, .one (.kb false))], [(0, [.pv x0, .pv x1])], [], 2, 44⟩) (fun x0 x1 => k .ret ⟨[(2, .one (.kb false))], [(0, [.pv x0, .pv x1])], [], 3, 44⟩) (fun x0 x1 x2 x3 x4 x5 => k (.exit 0) ⟨[(1, .one (.ptr 0 0)), (2, .one (.pv x0)), (6, .one (.pv x1)), (7, .one (.pv x2)), (8, .one (.pv x3))], [(0, [.pv x4, .pv x5])], [], 1, 44⟩)⟩]
theorem Qjb_s : LEsOK (orac [Qhd_e, Qit_e, Qja_e]) TT (kk [1, 2, 6, 7, 8, 17, 18, 19, 20, 21, 22, 23, 24, 25, 33, 34, 35, 36, 39, 40, 41, 42]) (sumsOf Qjb_l) Tryz.f76 Qjb_l := ⟨fun v K k h => by
  apply un_all h; exact fun v0 v1 v2 v3 v4 v5 h => Eq.mpr (by kernel_rfl) h
  , trivial⟩
theorem Qjb_w : EntOK Tryz.prog TT Qjb_e := ent_ok tabok (L := [Qhd_e, Qit_e, Qja_e]) ⟨Qhd_w, Qit_w, Qja_w, trivial⟩ (keep := (kk [1, 2, 6, 7, 8, 17, 18, 19, 20, 21, 22, 23, 24, 25, 33, 34, 35, 36, 39, 40, 41, 42])) (l := Qjb_l) Tryz.func76 (by kernel_rfl) (sg := [.one (.sc)]) (by kernel_rfl) Qjb_s fun av k h => by
  unfold Qjb at h; split at h
  · apply un_all h; clear h; intro a0 a1 h; exact Eq.mpr (by kernel_rfl) h
  · exact h.elim
def Qjc : GM
 | [.one a0], k => 
  nilP false a0 fun r0 =>
  iteP r0
   (rt [.own true 3 1] [(.list 1 [])] k)
   ((0 = 0) ∧ (0 ≤ 16777216) ∧ (1 = 1) ∧ (flatRows a0) ∧ catP 1 (.list 1 []) a0 fun r1 =>
   rt [.own true 3 1] [r1] k)
 | _, _ => False
abbrev Qjc_e : Ent := ⟨[284], Qjc⟩
theorem Qjc_w : EntOK Tryz.prog TT Qjc_e := ent_ok tabok (L := []) trivial (keep := []) (l := []) Tryz.func284 (by kernel_rfl) (sg := [.one (.own true 3 1)]) (by kernel_rfl) trivial fun av k h => by
  unfold Qjc at h; split at h
  · exact Eq.mpr (by kernel_rfl) h
  · exact h.elim
def Qjd : GM
 | [.agg u0], k => un 2 (fun a0 a1 => 
  call Qjc [.one a0] fun o0 =>
  rt [.own true 3 1, .sc] [(atP o0 0), a1] k) u0
 | _, _ => False
abbrev Qjd_e : Ent := ⟨[235], Qjd⟩
theorem Qjd_w : EntOK Tryz.prog TT Qjd_e := ent_ok tabok (L := [Qjc_e]) ⟨Qjc_w, trivial⟩ (keep := []) (l := []) Tryz.func235 (by kernel_rfl) (sg := [.agg [.own true 3 1, .sc]]) (by kernel_rfl) trivial fun av k h => by
  unfold Qjd at h; split at h
  · apply un_all h; clear h; intro a0 a1 h; exact Eq.mpr (by kernel_rfl) h
  · exact h.elim
def Qje : GM
 | [.agg u0], k => un 16 (fun a0 a1 a2 a3 a4 a5 a6 a7 a8 a9 a10 a11 a12 a13 a14 a15 => 
  call Qjd [.agg [a8, a9]] fun o0 =>
  call Qjd [.agg [a10, a11]] fun o1 =>
  call Qjd [.agg [a13, a14]] fun o2 =>
  rt [.sc, .sc, .sc, .sc, .sc, .sc, .sc, .sc, .own true 3 1, .sc, .own true 3 1, .sc, .sc, .own true 3 1, .sc, .sc] [a0, a1, a2, a3, a4, a5, a6, a7, (atP o0 0), (atP o0 1), (atP o1 0), (atP o1 1), a12, (atP o2 0), (atP o2 1), a15] k) u0
 | _, _ => False
abbrev Qje_e : Ent := ⟨[183], Qje⟩
theorem Qje_w : EntOK Tryz.prog TT Qje_e := ent_ok tabok (L := [Qjd_e]) ⟨Qjd_w, trivial⟩ (keep := []) (l := []) Tryz.func183 (by kernel_rfl) (sg := [.agg [.sc, .sc, .sc, .sc, .sc, .sc, .sc, .sc, .own true 3 1, .sc, .own true 3 1, .sc, .sc, .own true 3 1, .sc, .sc]]) (by kernel_rfl) trivial fun av k h => by
  unfold Qje at h; split at h
  · apply un_all h; clear h; intro a0 a1 a2 a3 a4 a5 a6 a7 a8 a9 a10 a11 a12 a13 a14 a15 h; exact Eq.mpr (by kernel_rfl) h
  · exact h.elim
def Qjf : GM
 | [.one a0], k => 
  call Qhd [.one a0] fun o0 =>
  unP .not (atP o0 0) fun r1 =>
  iteP r1
   (rt [.sc, .sc, .sc, .sc, .sc, .sc, .sc, .sc, .own true 3 1, .sc, .own true 3 1, .sc, .sc, .own true 3 1, .sc, .sc, .sc] [(I 0), (I 0), (I 0), (I 0), (I 0), (I 0), (I 0), (I 0), (.list 1 []), (I 0), (.list 1 []), (I 0), (I 0), (.list 1 []), (I 0), (.bool false), (.bool false)] k)
   (call Qhe [.one a0] fun o2 =>
   call Qje [.agg [(atP o2 0), (atP o2 1), (atP o2 2), (atP o2 3), (atP o2 4), (atP o2 5), (atP o2 6), (atP o2 7), (atP o2 8), (atP o2 9), (atP o2 10), (atP o2 11), (atP o2 12), (atP o2 13), (atP o2 14), (atP o2 15)]] fun o3 =>
   rt [.sc, .sc, .sc, .sc, .sc, .sc, .sc, .sc, .own true 3 1, .sc, .own true 3 1, .sc, .sc, .own true 3 1, .sc, .sc, .sc] [(atP o3 0), (atP o3 1), (atP o3 2), (atP o3 3), (atP o3 4), (atP o3 5), (atP o3 6), (atP o3 7), (atP o3 8), (atP o3 9), (atP o3 10), (atP o3 11), (atP o3 12), (atP o3 13), (atP o3 14), (atP o3 15), (.bool true)] k)
 | _, _ => False
abbrev Qjf_e : Ent := ⟨[136], Qjf⟩
theorem Qjf_w : EntOK Tryz.prog TT Qjf_e := ent_ok tabok (L := [Qhd_e, Qhe_e, Qje_e]) ⟨Qhd_w, Qhe_w, Qje_w, trivial⟩ (keep := []) (l := []) Tryz.func136 (by kernel_rfl) (sg := [.agg [.sc, .sc, .sc, .sc, .sc, .sc, .sc, .sc, .own true 3 1, .sc, .own true 3 1, .sc, .sc, .own true 3 1, .sc, .sc], .one (.sc)]) (by kernel_rfl) trivial fun av k h => by
  unfold Qjf at h; split at h
  · exact Eq.mpr (by kernel_rfl) h
  · exact h.elim
def Qjg : GM
 | [.agg u0, .ro (.cells u1), .ro (.cells u2)], k => un 23 (fun a0 a1 a2 a3 a4 a5 a6 a7 a8 a9 a10 a11 a12 a13 a14 a15 a16 a17 a18 a19 a20 a21 a22 => un 1 (fun a23 => un 1 (fun a24 => 
  binP .eql a0 a23 fun r0 =>
  iteP r0
   (binP .eql a1 a24 fun r1 =>
   rt [.sc] [r1] k)
   (rt [.sc] [(.bool false)] k)) u2) u1) u0
 | _, _ => False
abbrev Qjg_e : Ent := ⟨[185], Qjg⟩
theorem Qjg_w : EntOK Tryz.prog TT Qjg_e := ent_ok tabok (L := []) trivial (keep := []) (l := []) Tryz.func185 (by kernel_rfl) (sg := [.one (.sc)]) (by kernel_rfl) trivial fun av k h => by
  unfold Qjg at h; split at h
  · apply un_all h; clear h; intro a0 a1 a2 a3 a4 a5 a6 a7 a8 a9 a10 a11 a12 a13 a14 a15 a16 a17 a18 a19 a20 a21 a22 h; apply un_all h; clear h; intro a23 h; apply un_all h; clear h; intro a24 h; exact Eq.mpr (by kernel_rfl) h
  · exact h.elim
def Qjh_r0 (v : List PV) (K : List PV → Prop) (x0k : PV → Prop) (x1k : PV → PV → PV → PV → PV → PV → Prop) : Prop :=
 un 6 (fun v0 v1 v2 v3 v4 v5 =>
  binP .lss v5 v4 fun r0 =>
  iteP r0
   (elemP 23 v0 v5 fun c1 =>
   call Qjg [.agg [(atP c1 0), (atP c1 1), (atP c1 2), (atP c1 3), (atP c1 4), (atP c1 5), (atP c1 6), (atP c1 7), (atP c1 8), (atP c1 9), (atP c1 10), (atP c1 11), (atP c1 12), (atP c1 13), (atP c1 14), (atP c1 15), (atP c1 16), (atP c1 17), (atP c1 18), (atP c1 19), (atP c1 20), (atP c1 21), (atP c1 22)], .ro (.cells [v1]), .ro (.cells [v2])] fun o2 =>
   iteP (atP o2 0)
    (x0k v5)
    (binP .add v5 (I 1) fun r3 =>
    K [v0, v1, v2, v3, v4, r3]))
   (x1k v0 v1 v2 v3 v4 v5)) v
def Qjh : GM
 | [.one a0, .fn 185 [.cells u0, .cells u1]], k => un 1 (fun a1 => un 1 (fun a2 => 
  lenP a0 fun r0 =>
  lp (fun L w => Qjh_r0 w L
   (fun q4 => rt [.sc] [q4] k)
   (fun q5 q6 q7 q8 q9 q10 => rt [.sc] [(I (-1))] k)) [a0, a1, a2, (I 0), r0, (I 0)]) u1) u0
 | _, _ => False
abbrev Qjh_e : Ent := ⟨[184, 185], Qjh⟩
def Qjh_l : List LE := [⟨0, ⟨[(0, .one zB), (1, .one (.fn 185 [.ro (.cells [(.bool false)]), .ro (.cells [(.bool false)])])), (4, .one zB), (7, .one zB), (8, .one zB)], [], [], 0, 19⟩, fun K k v => Qjh_r0 v K (fun x0 => k .ret ⟨[(4, .one (.pv x0))], [], [], 1, 19⟩) (fun x0 x1 x2 x3 x4 x5 => k (.exit 0) ⟨[(0, .one (.pv x0)), (1, .one (.fn 185 [.ro (.cells [x1]), .ro (.cells [x2])])), (4, .one (.pv x3)), (7, .one (.pv x4)), (8, .one (.pv x5))], [], [], 0, 19⟩)⟩]
theorem Qjh_s : LEsOK (orac [Qjg_e]) TT (kk [0, 1, 4, 7, 8]) (sumsOf Qjh_l) Tryz.f184 Qjh_l := ⟨fun v K k h => by
  apply un_all h; exact fun v0 v1 v2 v3 v4 v5 h => Eq.mpr (by kernel_rfl) h
  , trivial⟩
theorem Qjh_w : EntOK Tryz.prog TT Qjh_e := ent_ok tabok (L := [Qjg_e]) ⟨Qjg_w, trivial⟩ (keep := (kk [0, 1, 4, 7, 8])) (l := Qjh_l) Tryz.func184 (by kernel_rfl) (sg := [.one (.sc)]) (by kernel_rfl) Qjh_s fun av k h => by
  unfold Qjh at h; split at h
  · apply un_all h; clear h; intro a1 h; apply un_all h; clear h; intro a2 h; exact Eq.mpr (by kernel_rfl) h
  · exact h.elim
def Qji : GM
 | [.agg u0, .one a1, .one a2], k => un 1 (fun a0 => 
  call Qjh [.one a0, .fn 185 [.cells [a1], .cells [a2]]] fun o0 =>
  rt [.sc] [(atP o0 0)] k) u0
 | _, _ => False
abbrev Qji_e : Ent := ⟨[137], Qji⟩
theorem Qji_w : EntOK Tryz.prog TT Qji_e := ent_ok tabok (L := [Qjh_e]) ⟨Qjh_w, trivial⟩ (keep := []) (l := []) Tryz.func137 (by kernel_rfl) (sg := [.one (.sc)]) (by kernel_rfl) trivial fun av k h => by
  unfold Qji at h; split at h
  · apply un_all h; clear h; intro a0 h; exact Eq.mpr (by kernel_rfl) h
  · exact h.elim
def Qjj : GM
 | [.agg u0, .one a16], k => un 16 (fun a0 a1 a2 a3 a4 a5 a6 a7 a8 a9 a10 a11 a12 a13 a14 a15 => 
  call Qfj [.one a16, .one a3, .one a4] fun o0 =>
  rt [.sc] [(atP o0 0)] k) u0
 | _, _ => False
abbrev Qjj_e : Ent := ⟨[186], Qjj⟩
theorem Qjj_w : EntOK Tryz.prog TT Qjj_e := ent_ok tabok (L := [Qfj_e]) ⟨Qfj_w, trivial⟩ (keep := []) (l := []) Tryz.func186 (by kernel_rfl) (sg := [.one (.sc)]) (by kernel_rfl) trivial fun av k h => by
  unfold Qjj at h; split at h
  · apply un_all h; clear h; intro a0 a1 a2 a3 a4 a5 a6 a7 a8 a9 a10 a11 a12 a13 a14 a15 h; exact Eq.mpr (by kernel_rfl) h
  · exact h.elim
def Qjk_r0 (v : List PV) (K : List PV → Prop) (x0k : Prop) (x1k : PV → PV → PV → PV → PV → PV → Prop) : Prop :=
 un 6 (fun v0 v1 v2 v3 v4 v5 =>
  binP .gtr v2 (I 1) fun r0 =>
  iteP r0
   (binP .xor v1 (I 1) fun r1 =>
   binP .geq r1 v2 fun r2 =>
   iteP r2
    (binP .quo v1 (I 2) fun r3 =>
    binP .add v2 (I 1) fun r4 =>
    binP .quo r4 (I 2) fun r5 =>
    K [v0, r3, r5, v3, v4, v5])
    (lenP v3 fun r6 =>
    binP .eql r6 (I 0) fun r7 =>
    iteP r7
     (x0k)
     (binP .rem v1 (I 2) fun r8 =>
     binP .eql r8 (I 0) fun r9 =>
     iteP r9
      (elemP 1 v3 (I 0) fun c10 =>
      call Qhv [.one v0, .one (atP c10 0)] fun o11 =>
      natP (I 1) fun n12 =>
      cutP 1 v3 (some n12) none fun r13 =>
      binP .quo v1 (I 2) fun r14 =>
      binP .add v2 (I 1) fun r15 =>
      binP .quo r15 (I 2) fun r16 =>
      K [(atP o11 0), r14, r16, r13, v4, v5])
      (elemP 1 v3 (I 0) fun c17 =>
      call Qhv [.one (atP c17 0), .one v0] fun o18 =>
      natP (I 1) fun n19 =>
      cutP 1 v3 (some n19) none fun r20 =>
      binP .quo v1 (I 2) fun r21 =>
      binP .add v2 (I 1) fun r22 =>
      binP .quo r22 (I 2) fun r23 =>
      K [(atP o18 0), r21, r23, r20, v4, v5]))))
   (x1k v0 v1 v2 v3 v4 v5)) v
def Qjk : GM
 | [.one a0, .one a1, .one a2, .one a3], k => 
  binP .lss a2 (I 1) fun r0 =>
  iteP r0
   (rt [.sc, .sc] [(I 0), (.bool false)] k)
   (binP .gtr a2 (I 12) fun r1 =>
   iteP r1
    (rt [.sc, .sc] [(I 0), (.bool false)] k)
    (binP .sub a2 (I 1) fun r2 =>
    call Qfj [.one a1, .one (I 0), .one r2] fun o3 =>
    unP .not (atP o3 0) fun r4 =>
    iteP r4
     (rt [.sc, .sc] [(I 0), (.bool false)] k)
     (lp (fun L w => Qjk_r0 w L
      (rt [.sc, .sc] [(I 0), (.bool false)] k)
      (fun q24 q25 q26 q27 q28 q29 => lenP q27 fun r30 =>
       binP .gtr r30 (I 0) fun r31 =>
       iteP r31
        (rt [.sc, .sc] [(I 0), (.bool false)] k)
        (rt [.sc, .sc] [q24, (.bool true)] k))) [a0, a1, a2, a3, (I 0), (.bool false)])))
 | _, _ => False
abbrev Qjk_e : Ent := ⟨[285], Qjk⟩
def Qjk_l : List LE := [⟨0, ⟨[(0, .one zB), (1, .one zB), (2, .one zB), (3, .one zB), (8, .one zB), (9, .one zB)], [], [], 1, 56⟩, fun K k v => Qjk_r0 v K (k .ret ⟨[(8, .one (.pv (I 0))), (9, .one (.kb false))], [], [], 1, 56⟩) (fun x0 x1 x2 x3 x4 x5 => k (.exit 0) ⟨[(0, .one (.pv x0)), (1, .one (.pv x1)), (2, .one (.pv x2)), (3, .one (.pv x3)), (8, .one (.pv x4)), (9, .one (.pv x5))], [], [], 1, 56⟩)⟩]
theorem Qjk_s : LEsOK (orac [Qfj_e, Qhv_e]) TT (kk [0, 1, 2, 3, 8, 9]) (sumsOf Qjk_l) Tryz.f285 Qjk_l := ⟨fun v K k h => by
  apply un_all h; exact fun v0 v1 v2 v3 v4 v5 h => Eq.mpr (by kernel_rfl) h
  , trivial⟩
theorem Qjk_w : EntOK Tryz.prog TT Qjk_e := ent_ok tabok (L := [Qfj_e, Qhv_e]) ⟨Qfj_w, Qhv_w, trivial⟩ (keep := (kk [0, 1, 2, 3, 8, 9])) (l := Qjk_l) Tryz.func285 (by kernel_rfl) (sg := [.one (.sc), .one (.sc)]) (by kernel_rfl) Qjk_s fun av k h => by
  unfold Qjk at h; split at h
  · exact Eq.mpr (by kernel_rfl) h
  · exact h.elim
def Qjl : GM
 | [.one a0, .one a1, .agg u0, .agg u1], k => un 4 (fun a2 a3 a4 a5 => un 2 (fun a6 a7 => 
  call Qhs [.agg [a2, a3, a4, a5]] fun o0 =>
  call Qjk [.one (atP o0 0), .one a6, .one a1, .one a7] fun o1 =>
  iteP (atP o1 1)
   (call Qhk [.agg [a2, a3, a4, a5]] fun o2 =>
   iteP (atP o2 0)
    (call Qhy [.one a1, .one (atP o1 0)] fun o3 =>
    binP .eql (atP o3 0) a0 fun r4 =>
    rt [.sc] [r4] k)
    (rt [.sc] [(.bool false)] k))
   (rt [.sc] [(.bool false)] k)) u1) u0
 | _, _ => False
abbrev Qjl_e : Ent := ⟨[236], Qjl⟩
theorem Qjl_w : EntOK Tryz.prog TT Qjl_e := ent_ok tabok (L := [Qhs_e, Qjk_e, Qhk_e, Qhy_e]) ⟨Qhs_w, Qjk_w, Qhk_w, Qhy_w, trivial⟩ (keep := []) (l := []) Tryz.func236 (by kernel_rfl) (sg := [.one (.sc)]) (by kernel_rfl) trivial fun av k h => by
  unfold Qjl at h; split at h
  · apply un_all h; clear h; intro a2 a3 a4 a5 h; apply un_all h; clear h; intro a6 a7 h; exact Eq.mpr (by kernel_rfl) h
  · exact h.elim
def Qjm_r0 (v : List PV) (K : List PV → Prop) (x0k : Prop) (x1k : PV → PV → PV → PV → PV → Prop) : Prop :=
 un 5 (fun v0 v1 v2 v3 v4 =>
  binP .lss v4 v3 fun r0 =>
  iteP r0
   (elemP 1 v0 v4 fun c1 =>
   elemP 1 v1 v4 fun c2 =>
   binP .neq (atP c1 0) (atP c2 0) fun r3 =>
   iteP r3
    (x0k)
    (binP .add v4 (I 1) fun r4 =>
    K [v0, v1, v2, v3, r4]))
   (x1k v0 v1 v2 v3 v4)) v
def Qjm : GM
 | [.one a0, .one a1], k => 
  lenP a0 fun r0 =>
  lenP a1 fun r1 =>
  binP .neq r0 r1 fun r2 =>
  iteP r2
   (rt [.sc] [(.bool false)] k)
   (lenP a0 fun r3 =>
   lp (fun L w => Qjm_r0 w L
    (rt [.sc] [(.bool false)] k)
    (fun q5 q6 q7 q8 q9 => rt [.sc] [(.bool true)] k)) [a0, a1, (.bool false), r3, (I 0)])
 | _, _ => False
abbrev Qjm_e : Ent := ⟨[193], Qjm⟩
def Qjm_l : List LE := [⟨0, ⟨[(0, .one zB), (1, .one zB), (4, .one zB), (12, .one zB), (13, .one zB)], [], [], 0, 26⟩, fun K k v => Qjm_r0 v K (k .ret ⟨[(4, .one (.kb false))], [], [], 0, 26⟩) (fun x0 x1 x2 x3 x4 => k (.exit 0) ⟨[(0, .one (.pv x0)), (1, .one (.pv x1)), (4, .one (.pv x2)), (12, .one (.pv x3)), (13, .one (.pv x4))], [], [], 0, 26⟩)⟩]
theorem Qjm_s : LEsOK (orac []) TT (kk [0, 1, 4, 12, 13]) (sumsOf Qjm_l) Tryz.f193 Qjm_l := ⟨fun v K k h => by
  apply un_all h; exact fun v0 v1 v2 v3 v4 h => Eq.mpr (by kernel_rfl) h
  , trivial⟩
theorem Qjm_w : EntOK Tryz.prog TT Qjm_e := ent_ok tabok (L := []) trivial (keep := (kk [0, 1, 4, 12, 13])) (l := Qjm_l) Tryz.func193 (by kernel_rfl) (sg := [.one (.sc)]) (by kernel_rfl) Qjm_s fun av k h => by
  unfold Qjm at h; split at h
  · exact Eq.mpr (by kernel_rfl) h
  · exact h.elim
def Qjn : GM
 | [.agg u0, .agg u1], k => un 4 (fun a0 a1 a2 a3 => un 4 (fun a4 a5 a6 a7 => 
  binP .eql a0 a4 fun r0 =>
  iteP r0
   (binP .eql a1 a5 fun r1 =>
   iteP r1
    (binP .eql a2 a6 fun r2 =>
    iteP r2
     (call Qjm [.one a3, .one a7] fun o3 =>
     rt [.sc] [(atP o3 0)] k)
     (rt [.sc] [(.bool false)] k))
    (rt [.sc] [(.bool false)] k))
   (rt [.sc] [(.bool false)] k)) u1) u0
 | _, _ => False
abbrev Qjn_e : Ent := ⟨[144], Qjn⟩
theorem Qjn_w : EntOK Tryz.prog TT Qjn_e := ent_ok tabok (L := [Qjm_e]) ⟨Qjm_w, trivial⟩ (keep := []) (l := []) Tryz.func144 (by kernel_rfl) (sg := [.one (.sc)]) (by kernel_rfl) trivial fun av k h => by
  unfold Qjn at h; split at h
  · apply un_all h; clear h; intro a0 a1 a2 a3 h; apply un_all h; clear h; intro a4 a5 a6 a7 h; exact Eq.mpr (by kernel_rfl) h
  · exact h.elim
def Qjo : GM
 | [.agg u0, .agg u1], k => un 2 (fun a0 a1 => un 2 (fun a2 a3 => 
  binP .eql a0 a2 fun r0 =>
  iteP r0
   (call Qgv [.one a1, .one a3] fun o1 =>
   rt [.sc] [(atP o1 0)] k)
   (rt [.sc] [(.bool false)] k)) u1) u0
 | _, _ => False
abbrev Qjo_e : Ent := ⟨[286], Qjo⟩
theorem Qjo_w : EntOK Tryz.prog TT Qjo_e := ent_ok tabok (L := [Qgv_e]) ⟨Qgv_w, trivial⟩ (keep := []) (l := []) Tryz.func286 (by kernel_rfl) (sg := [.one (.sc)]) (by kernel_rfl) trivial fun av k h => by
  unfold Qjo at h; split at h
  · apply un_all h; clear h; intro a0 a1 h; apply un_all h; clear h; intro a2 a3 h; exact Eq.mpr (by kernel_rfl) h
  · exact h.elim
def Qjp : GM
 | [.agg u0, .agg u1], k => un 13 (fun a0 a1 a2 a3 a4 a5 a6 a7 a8 a9 a10 a11 a12 => un 13 (fun a13 a14 a15 a16 a17 a18 a19 a20 a21 a22 a23 a24 a25 => 
  binP .eql a0 a13 fun r0 =>
  iteP r0
   (call Qjn [.agg [a1, a2, a3, a4], .agg [a14, a15, a16, a17]] fun o1 =>
   iteP (atP o1 0)
    (call Qjn [.agg [a5, a6, a7, a8], .agg [a18, a19, a20, a21]] fun o2 =>
    iteP (atP o2 0)
     (call Qjo [.agg [a9, a10], .agg [a22, a23]] fun o3 =>
     iteP (atP o3 0)
      (call Qjo [.agg [a11, a12], .agg [a24, a25]] fun o4 =>
      rt [.sc] [(atP o4 0)] k)
      (rt [.sc] [(.bool false)] k))
     (rt [.sc] [(.bool false)] k))
    (rt [.sc] [(.bool false)] k))
   (rt [.sc] [(.bool false)] k)) u1) u0
 | _, _ => False
abbrev Qjp_e : Ent := ⟨[237], Qjp⟩
theorem Qjp_w : EntOK Tryz.prog TT Qjp_e := ent_ok tabok (L := [Qjn_e, Qjo_e]) ⟨Qjn_w, Qjo_w, trivial⟩ (keep := []) (l := []) Tryz.func237 (by kernel_rfl) (sg := [.one (.sc)]) (by kernel_rfl) trivial fun av k h => by
  unfold Qjp at h; split at h
  · apply un_all h; clear h; intro a0 a1 a2 a3 a4 a5 a6 a7 a8 a9 a10 a11 a12 h; apply un_all h; clear h; intro a13 a14 a15 a16 a17 a18 a19 a20 a21 a22 a23 a24 a25 h; exact Eq.mpr (by kernel_rfl) h
  · exact h.elim
def Qjq : GM
 | [.agg u0], k => un 4 (fun a0 a1 a2 a3 => 
  call Qjn [.agg [a0, a1, a2, a3], .agg [(.str ⟨#[]⟩), (I 0), (I 0), (.list 1 [])]] fun o0 =>
  rt [.sc] [(atP o0 0)] k) u0
 | _, _ => False
abbrev Qjq_e : Ent := ⟨[239], Qjq⟩
theorem Qjq_w : EntOK Tryz.prog TT Qjq_e := ent_ok tabok (L := [Qjn_e]) ⟨Qjn_w, trivial⟩ (keep := []) (l := []) Tryz.func239 (by kernel_rfl) (sg := [.one (.sc)]) (by kernel_rfl) trivial fun av k h => by
  unfold Qjq at h; split at h
  · apply un_all h; clear h; intro a0 a1 a2 a3 h; exact Eq.mpr (by kernel_rfl) h
  · exact h.elim
def Qjr : GM
 | [.agg u0], k => un 2 (fun a0 a1 => 
  call Qjo [.agg [a0, a1], .agg [(I 0), (.list 1 [])]] fun o0 =>
  rt [.sc] [(atP o0 0)] k) u0
 | _, _ => False
abbrev Qjr_e : Ent := ⟨[240], Qjr⟩
theorem Qjr_w : EntOK Tryz.prog TT Qjr_e := ent_ok tabok (L := [Qjo_e]) ⟨Qjo_w, trivial⟩ (keep := []) (l := []) Tryz.func240 (by kernel_rfl) (sg := [.one (.sc)]) (by kernel_rfl) trivial fun av k h => by
  unfold Qjr at h; split at h
  · apply un_all h; clear h; intro a0 a1 h; exact Eq.mpr (by kernel_rfl) h
  · exact h.elim
def Qjs : GM
 | [.one a0, .one a1, .agg u0, .agg u1, .one a8], k => un 4 (fun a2 a3 a4 a5 => un 2 (fun a6 a7 => 
  binP .sub a1 (I 1) fun r0 =>
  call Qfj [.one a8, .one (I 0), .one r0] fun o1 =>
  unP .not (atP o1 0) fun r2 =>
  iteP r2
   (call Qjq [.agg [a2, a3, a4, a5]] fun o3 =>
   iteP (atP o3 0)
    (call Qjr [.agg [a6, a7]] fun o4 =>
    rt [.sc] [(atP o4 0)] k)
    (rt [.sc] [(.bool false)] k))
   (call Qjl [.one a0, .one a1, .agg [a2, a3, a4, a5], .agg [a6, a7]] fun o5 =>
   iteP (atP o5 0)
    (binP .eql a6 a8 fun r6 =>
    rt [.sc] [r6] k)
    (rt [.sc] [(.bool false)] k))) u1) u0
 | _, _ => False
abbrev Qjs_e : Ent := ⟨[287], Qjs⟩
theorem Qjs_w : EntOK Tryz.prog TT Qjs_e := ent_ok tabok (L := [Qfj_e, Qjq_e, Qjr_e, Qjl_e]) ⟨Qfj_w, Qjq_w, Qjr_w, Qjl_w, trivial⟩ (keep := []) (l := []) Tryz.func287 (by kernel_rfl) (sg := [.one (.sc)]) (by kernel_rfl) trivial fun av k h => by
  unfold Qjs at h; split at h
  · apply un_all h; clear h; intro a2 a3 a4 a5 h; apply un_all h; clear h; intro a6 a7 h; exact Eq.mpr (by kernel_rfl) h
  · exact h.elim
def Qjt : GM
 | [.one a0, .one a1, .one a2, .agg u0], k => un 13 (fun a3 a4 a5 a6 a7 a8 a9 a10 a11 a12 a13 a14 a15 => 
  call Qhf [.one a2] fun o0 =>
  unP .not (atP o0 0) fun r1 =>
  iteP r1
   (rt [.sc] [(.bool false)] k)
   (call Qfj [.one a3, .one (I 0), .one a1] fun o2 =>
   unP .not (atP o2 0) fun r3 =>
   iteP r3
    (rt [.sc] [(.bool false)] k)
    (binP .eql a1 (I 0) fun r4 =>
    iteP r4
     (call Qhz [.one (.list 4 [])] fun o5 =>
     binP .neq a0 (atP o5 0) fun r6 =>
     iteP r6
      (rt [.sc] [(.bool false)] k)
      (binP .sub a3 (I 1) fun r7 =>
      call Qjs [.one a0, .one a1, .agg [a4, a5, a6, a7], .agg [a12, a13], .one r7] fun o8 =>
      unP .not (atP o8 0) fun r9 =>
      iteP r9
       (rt [.sc] [(.bool false)] k)
       (call Qjs [.one a0, .one a1, .agg [a8, a9, a10, a11], .agg [a14, a15], .one a3] fun o10 =>
       unP .not (atP o10 0) fun r11 =>
       iteP r11
        (rt [.sc] [(.bool false)] k)
        (binP .eql a3 (I 0) fun r12 =>
        iteP r12
         (binP .eql a3 a1 fun r13 =>
         iteP r13
          (rt [.sc] [(.bool true)] k)
          (call Qhn [.one a8, .one a2] fun o14 =>
          binP .gtr (atP o14 0) (I 0) fun r15 =>
          rt [.sc] [r15] k))
         (call Qhn [.one a4, .one a2] fun o16 =>
         binP .lss (atP o16 0) (I 0) fun r17 =>
         iteP r17
          (binP .eql a3 a1 fun r18 =>
          iteP r18
           (rt [.sc] [(.bool true)] k)
           (call Qhn [.one a8, .one a2] fun o19 =>
           binP .gtr (atP o19 0) (I 0) fun r20 =>
           rt [.sc] [r20] k))
          (rt [.sc] [(.bool false)] k))))))
     (binP .sub a3 (I 1) fun r21 =>
     call Qjs [.one a0, .one a1, .agg [a4, a5, a6, a7], .agg [a12, a13], .one r21] fun o22 =>
     unP .not (atP o22 0) fun r23 =>
     iteP r23
      (rt [.sc] [(.bool false)] k)
      (call Qjs [.one a0, .one a1, .agg [a8, a9, a10, a11], .agg [a14, a15], .one a3] fun o24 =>
      unP .not (atP o24 0) fun r25 =>
      iteP r25
       (rt [.sc] [(.bool false)] k)
       (binP .eql a3 (I 0) fun r26 =>
       iteP r26
        (binP .eql a3 a1 fun r27 =>
        iteP r27
         (rt [.sc] [(.bool true)] k)
         (call Qhn [.one a8, .one a2] fun o28 =>
         binP .gtr (atP o28 0) (I 0) fun r29 =>
         rt [.sc] [r29] k))
        (call Qhn [.one a4, .one a2] fun o30 =>
        binP .lss (atP o30 0) (I 0) fun r31 =>
        iteP r31
         (binP .eql a3 a1 fun r32 =>
         iteP r32
          (rt [.sc] [(.bool true)] k)
          (call Qhn [.one a8, .one a2] fun o33 =>
          binP .gtr (atP o33 0) (I 0) fun r34 =>
          rt [.sc] [r34] k))
         (rt [.sc] [(.bool false)] k)))))))) u0
 | _, _ => False
abbrev Qjt_e : Ent := ⟨[238], Qjt⟩
theorem Qjt_w : EntOK Tryz.prog TT Qjt_e := ent_ok tabok (L := [Qhf_e, Qfj_e, Qhz_e, Qjs_e, Qhn_e]) ⟨Qhf_w, Qfj_w, Qhz_w, Qjs_w, Qhn_w, trivial⟩ (keep := []) (l := []) Tryz.func238 (by kernel_rfl) (sg := [.one (.sc)]) (by kernel_rfl) trivial fun av k h => by
  unfold Qjt at h; split at h
  · apply un_all h; clear h; intro a3 a4 a5 a6 a7 a8 a9 a10 a11 a12 a13 a14 a15 h; exact Eq.mpr (by kernel_rfl) h
  · exact h.elim
def Qju : GM
 | [.agg u0, .one a16, .agg u1], k => un 16 (fun a0 a1 a2 a3 a4 a5 a6 a7 a8 a9 a10 a11 a12 a13 a14 a15 => un 21 (fun a17 a18 a19 a20 a21 a22 a23 a24 a25 a26 a27 a28 a29 a30 a31 a32 a33 a34 a35 a36 a37 => 
  iteP a18
   (binP .eql a19 a16 fun r0 =>
   iteP r0
    (call Qjl [.one a6, .one a5, .agg [a19, a20, a21, a22], .agg [a23, a24]] fun o1 =>
    iteP (atP o1 0)
     (call Qjp [.agg [a25, a26, a27, a28, a29, a30, a31, a32, a33, a34, a35, a36, a37], .agg [(I 0), (.str ⟨#[]⟩), (I 0), (I 0), (.list 1 []), (.str ⟨#[]⟩), (I 0), (I 0), (.list 1 []), (I 0), (.list 1 []), (I 0), (.list 1 [])]] fun o2 =>
     rt [.sc] [(atP o2 0)] k)
     (rt [.sc] [(.bool false)] k))
    (rt [.sc] [(.bool false)] k))
   (call Qjt [.one a6, .one a5, .one a16, .agg [a25, a26, a27, a28, a29, a30, a31, a32, a33, a34, a35, a36, a37]] fun o3 =>
   iteP (atP o3 0)
    (call Qjq [.agg [a19, a20, a21, a22]] fun o4 =>
    iteP (atP o4 0)
     (call Qjr [.agg [a23, a24]] fun o5 =>
     rt [.sc] [(atP o5 0)] k)
     (rt [.sc] [(.bool false)] k))
    (rt [.sc] [(.bool false)] k))) u1) u0
 | _, _ => False
abbrev Qju_e : Ent := ⟨[187], Qju⟩
theorem Qju_w : EntOK Tryz.prog TT Qju_e := ent_ok tabok (L := [Qjl_e, Qjp_e, Qjt_e, Qjq_e, Qjr_e]) ⟨Qjl_w, Qjp_w, Qjt_w, Qjq_w, Qjr_w, trivial⟩ (keep := []) (l := []) Tryz.func187 (by kernel_rfl) (sg := [.one (.sc)]) (by kernel_rfl) trivial fun av k h => by
  unfold Qju at h; split at h
  · apply un_all h; clear h; intro a0 a1 a2 a3 a4 a5 a6 a7 a8 a9 a10 a11 a12 a13 a14 a15 h; apply un_all h; clear h; intro a17 a18 a19 a20 a21 a22 a23 a24 a25 a26 a27 a28 a29 a30 a31 a32 a33 a34 a35 a36 a37 h; exact Eq.mpr (by kernel_rfl) h
  · exact h.elim
def Qjv : GM
 | [.one a0, .one a1, .agg u0, .one a23], k => un 21 (fun a2 a3 a4 a5 a6 a7 a8 a9 a10 a11 a12 a13 a14 a15 a16 a17 a18 a19 a20 a21 a22 => 
  call Qjf [.one a2] fun o0 =>
  unP .not (atP o0 16) fun r1 =>
  iteP r1
   (rt [.sc] [(I 3)] k)
   (binP .neq (atP o0 0) a0 fun r2 =>
   iteP r2
    (rt [.sc] [(I 2)] k)
    (call Qjj [.agg [(atP o0 0), (atP o0 1), (atP o0 2), (atP o0 3), (atP o0 4), (atP o0 5), (atP o0 6), (atP o0 7), (atP o0 8), (atP o0 9), (atP o0 10), (atP o0 11), (atP o0 12), (atP o0 13), (atP o0 14), (atP o0 15)], .one a23] fun o3 =>
    unP .not (atP o3 0) fun r4 =>
    iteP r4
     (rt [.sc] [(I 4)] k)
     (iteP (atP o0 15)
      (rt [.sc] [(I 5)] k)
      (call Qju [.agg [(atP o0 0), (atP o0 1), (atP o0 2), (atP o0 3), (atP o0 4), (atP o0 5), (atP o0 6), (atP o0 7), (atP o0 8), (atP o0 9), (atP o0 10), (atP o0 11), (atP o0 12), (atP o0 13), (atP o0 14), (atP o0 15)], .one a1, .agg [a2, a3, a4, a5, a6, a7, a8, a9, a10, a11, a12, a13, a14, a15, a16, a17, a18, a19, a20, a21, a22]] fun o5 =>
      unP .not (atP o5 0) fun r6 =>
      iteP r6
       (rt [.sc] [(I 6)] k)
       (rt [.sc] [(I 1)] k)))))) u0
 | _, _ => False
abbrev Qjv_e : Ent := ⟨[138], Qjv⟩
theorem Qjv_w : EntOK Tryz.prog TT Qjv_e := ent_ok tabok (L := [Qjf_e, Qjj_e, Qju_e]) ⟨Qjf_w, Qjj_w, Qju_w, trivial⟩ (keep := []) (l := []) Tryz.func138 (by kernel_rfl) (sg := [.one (.sc)]) (by kernel_rfl) trivial fun av k h => by
  unfold Qjv at h; split at h
  · apply un_all h; clear h; intro a2 a3 a4 a5 a6 a7 a8 a9 a10 a11 a12 a13 a14 a15 a16 a17 a18 a19 a20 a21 a22 h; exact Eq.mpr (by kernel_rfl) h
  · exact h.elim
def Qjw_r0 (v : List PV) (K : List PV → Prop) (x0k : PV → PV → PV → PV → PV → PV → PV → PV → PV → PV → PV → PV → PV → PV → PV → PV → PV → PV → PV → PV → PV → PV → PV → PV → PV → PV → PV → PV → PV → PV → PV → PV → PV → PV → PV → PV → PV → PV → PV → PV → Prop) (x1k : PV → PV → PV → PV → PV → PV → PV → PV → PV → PV → PV → PV → PV → PV → PV → PV → PV → PV → PV → PV → PV → PV → PV → PV → PV → PV → PV → PV → PV → PV → PV → PV → PV → PV → PV → PV → PV → PV → PV → PV → Prop) (x2k : PV → PV → PV → PV → PV → PV → PV → PV → PV → PV → PV → PV → PV → PV → PV → PV → PV → PV → PV → PV → PV → PV → PV → PV → PV → PV → PV → PV → PV → PV → PV → PV → PV → PV → PV → PV → PV → PV → PV → PV → Prop) (x3k : PV → PV → PV → PV → PV → Prop) : Prop :=
 un 5 (fun v0 v1 v2 v3 v4 =>
  binP .lss v3 v2 fun r0 =>
  iteP r0
   (elemP 23 v1 v3 fun c1 =>
   call Qjf [.one (atP c1 2)] fun o2 =>
   unP .not (atP o2 16) fun r3 =>
   iteP r3
    (x0k (atP o2 0) (atP o2 1) (atP o2 2) (atP o2 3) (atP o2 4) (atP o2 5) (atP o2 6) (atP o2 7) (atP o2 9) (atP o2 11) (atP o2 12) (atP o2 14) (atP o2 15) (atP c1 0) (atP c1 1) (atP c1 2) (atP c1 3) (atP c1 4) (atP c1 5) (atP c1 6) (atP c1 7) (atP c1 8) (atP c1 9) (atP c1 10) (atP c1 11) (atP c1 12) (atP c1 13) (atP c1 14) (atP c1 15) (atP c1 16) (atP c1 17) (atP c1 18) (atP c1 19) (atP c1 20) (atP c1 21) (atP c1 22) v4 (atP o2 8) (atP o2 10) (atP o2 13))
    (call Qji [.agg [v4], .one (atP c1 0), .one (atP c1 1)] fun o4 =>
    binP .neq (atP o4 0) v3 fun r5 =>
    iteP r5
     (x1k (atP o2 0) (atP o2 1) (atP o2 2) (atP o2 3) (atP o2 4) (atP o2 5) (atP o2 6) (atP o2 7) (atP o2 9) (atP o2 11) (atP o2 12) (atP o2 14) (atP o2 15) (atP c1 0) (atP c1 1) (atP c1 2) (atP c1 3) (atP c1 4) (atP c1 5) (atP c1 6) (atP c1 7) (atP c1 8) (atP c1 9) (atP c1 10) (atP c1 11) (atP c1 12) (atP c1 13) (atP c1 14) (atP c1 15) (atP c1 16) (atP c1 17) (atP c1 18) (atP c1 19) (atP c1 20) (atP c1 21) (atP c1 22) v4 (atP o2 8) (atP o2 10) (atP o2 13))
     (call Qjv [.one (atP c1 0), .one (atP c1 1), .agg [(atP c1 2), (atP c1 3), (atP c1 4), (atP c1 5), (atP c1 6), (atP c1 7), (atP c1 8), (atP c1 9), (atP c1 10), (atP c1 11), (atP c1 12), (atP c1 13), (atP c1 14), (atP c1 15), (atP c1 16), (atP c1 17), (atP c1 18), (atP c1 19), (atP c1 20), (atP c1 21), (atP c1 22)], .one (atP o2 3)] fun o6 =>
     binP .neq (atP o6 0) (I 1) fun r7 =>
     iteP r7
      (x2k (atP o2 0) (atP o2 1) (atP o2 2) (atP o2 3) (atP o2 4) (atP o2 5) (atP o2 6) (atP o2 7) (atP o2 9) (atP o2 11) (atP o2 12) (atP o2 14) (atP o2 15) (atP c1 0) (atP c1 1) (atP c1 2) (atP c1 3) (atP c1 4) (atP c1 5) (atP c1 6) (atP c1 7) (atP c1 8) (atP c1 9) (atP c1 10) (atP c1 11) (atP c1 12) (atP c1 13) (atP c1 14) (atP c1 15) (atP c1 16) (atP c1 17) (atP c1 18) (atP c1 19) (atP c1 20) (atP c1 21) (atP c1 22) v4 (atP o2 8) (atP o2 10) (atP o2 13))
      (binP .add v3 (I 1) fun r8 =>
      K [v0, v1, v2, r8, v4]))))
   (x3k v0 v1 v2 v3 v4)) v
def Qjw : GM
 | [.agg u0], k => un 1 (fun a0 => 
  lenP a0 fun r0 =>
  lp (fun L w => Qjw_r0 w L
   (fun q9 q10 q11 q12 q13 q14 q15 q16 q17 q18 q19 q20 q21 q22 q23 q24 q25 q26 q27 q28 q29 q30 q31 q32 q33 q34 q35 q36 q37 q38 q39 q40 q41 q42 q43 q44 q45 q46 q47 q48 => rt [.sc] [(.bool false)] k)
   (fun q49 q50 q51 q52 q53 q54 q55 q56 q57 q58 q59 q60 q61 q62 q63 q64 q65 q66 q67 q68 q69 q70 q71 q72 q73 q74 q75 q76 q77 q78 q79 q80 q81 q82 q83 q84 q85 q86 q87 q88 => rt [.sc] [(.bool false)] k)
   (fun q89 q90 q91 q92 q93 q94 q95 q96 q97 q98 q99 q100 q101 q102 q103 q104 q105 q106 q107 q108 q109 q110 q111 q112 q113 q114 q115 q116 q117 q118 q119 q120 q121 q122 q123 q124 q125 q126 q127 q128 => rt [.sc] [(.bool false)] k)
   (fun q129 q130 q131 q132 q133 => lenP q133 fun r134 =>
    binP .leq r134 (I 16) fun r135 =>
    rt [.sc] [r135] k)) [(.bool false), a0, r0, (I 0), a0]) u0
 | _, _ => False
abbrev Qjw_e : Ent := ⟨[77], Qjw⟩
def Qjw_l : List LE := [⟨0, ⟨[(1, .one (.ptr 0 0)), (2, .one zB), (8, .one zB), (9, .one zB), (10, .one zB)], [(0, [zB])], [], 1, 51⟩, fun K k v => Qjw_r0 v K (fun x0 x1 x2 x3 x4 x5 x6 x7 x8 x9 x10 x11 x12 x13 x14 x15 x16 x17 x18 x19 x20 x21 x22 x23 x24 x25 x26 x27 x28 x29 x30 x31 x32 x33 x34 x35 x36 x37 x38 x39 => k .ret ⟨[(2, .one (.kb false))], [(19, [.pv x0, .pv x1, .pv x2, .pv x3, .pv x4, .pv x5, .pv x6, .pv x7, .own 10, .pv x8, .own 12, .pv x9, .pv x10, .own 15, .pv x11, .pv x12]), (19, [.pv (I 0), .pv (I 0), .pv (I 0), .pv (I 0), .pv (I 0), .pv (I 0), .pv (I 0), .pv (I 0), .nil 3 1, .pv (I 0), .nil 3 1, .pv (I 0), .pv (I 0), .nil 3 1, .pv (I 0), zB]), (1, [.pv x13, .pv x14, .pv x15, .pv x16, .pv x17, .pv x18, .pv x19, .pv x20, .pv x21, .pv x22, .pv x23, .pv x24, .pv x25, .pv x26, .pv x27, .pv x28, .pv x29, .pv x30, .pv x31, .pv x32, .pv x33, .pv x34, .pv x35]), (1, [.pv (I 0), .pv (.str ⟨#[]⟩), .nil 129 17, zB, .pv (.str ⟨#[]⟩), .pv (I 0), .pv (I 0), .nil 9 1, .pv (I 0), .nil 3 1, .pv (I 0), .pv (.str ⟨#[]⟩), .pv (I 0), .pv (I 0), .nil 9 1, .pv (.str ⟨#[]⟩), .pv (I 0), .pv (I 0), .nil 9 1, .pv (I 0), .nil 3 1, .pv (I 0), .nil 3 1]), (0, [.pv x36])], [(10, ⟨.deep, 3, 1, x37⟩), (12, ⟨.deep, 3, 1, x38⟩), (15, ⟨.deep, 3, 1, x39⟩)], 20, 51⟩) (fun x0 x1 x2 x3 x4 x5 x6 x7 x8 x9 x10 x11 x12 x13 x14 x15 x16 x17 x18 x19 x20 x21 x22 x23 x24 x25 x26 x27 x28 x29 x30 x31 x32 x33 x34 x35 x36 x37 x38 x39 => k .ret ⟨[(2, .one (.kb false))], [(19, [.pv x0, .pv x1, .pv x2, .pv x3, .pv x4, .pv x5, .pv x6, .pv x7, .own 10, .pv x8, .own 12, .pv x9, .pv x10, .own 15, .pv x11, .pv x12]), (19, [.pv (I 0), .pv (I 0), .pv (I 0), .pv (I 0), .pv (I 0), .pv (I 0), .pv (I 0), .pv (I 0), .nil 3 1, .pv (I 0), .nil 3 1, .pv (I 0), .pv (I 0), .nil 3 1, .pv (I 0), zB]), (1, [.pv x13, .pv x14, .pv x15, .pv x16, .pv x17, .pv x18, .pv x19, .pv x20, .pv x21, .pv x22, .pv x23, .pv x24, .pv x25, .pv x26, .pv x27, .pv x28, .pv x29, .pv x30, .pv x31, .pv x32, .pv x33, .pv x34, .pv x35]), (1, [.pv (I 0), .pv (.str ⟨#[]⟩), .nil 129 17, zB, .pv (.str ⟨#[]⟩), .pv (I 0), .pv (I 0), .nil 9 1, .pv (I 0), .nil 3 1, .pv (I 0), .pv (.str ⟨#[]⟩), .pv (I 0), .pv (I 0), .nil 9 1, .pv (.str ⟨#[]⟩), .pv (I 0), .pv (I 0), .nil 9 1, .pv (I 0), .nil 3 1, .pv (I 0), .nil 3 1]), (0, [.pv x36])], [(10, ⟨.deep, 3, 1, x37⟩), (12, ⟨.deep, 3, 1, x38⟩), (15, ⟨.deep, 3, 1, x39⟩)], 21, 51⟩) (fun x0 x1 x2 x3 x4 x5 x6 x7 x8 x9 x10 x11 x12 x13 x14 x15 x16 x17 x18 x19 x20 x21 x22 x23 x24 x25 x26 x27 x28 x29 x30 x31 x32 x33 x34 x35 x36 x37 x38 x39 => k .ret ⟨[(2, .one (.kb false))], [(19, [.pv x0, .pv x1, .pv x2, .pv x3, .pv x4, .pv x5, .pv x6, .pv x7, .own 10, .pv x8, .own 12, .pv x9, .pv x10, .own 15, .pv x11, .pv x12]), (19, [.pv (I 0), .pv (I 0), .pv (I 0), .pv (I 0), .pv (I 0), .pv (I 0), .pv (I 0), .pv (I 0), .nil 3 1, .pv (I 0), .nil 3 1, .pv (I 0), .pv (I 0), .nil 3 1, .pv (I 0), zB]), (1, [.pv x13, .pv x14, .pv x15, .pv x16, .pv x17, .pv x18, .pv x19, .pv x20, .pv x21, .pv x22, .pv x23, .pv x24, .pv x25, .pv x26, .pv x27, .pv x28, .pv x29, .pv x30, .pv x31, .pv x32, .pv x33, .pv x34, .pv x35]), (1, [.pv (I 0), .pv (.str ⟨#[]⟩), .nil 129 17, zB, .pv (.str ⟨#[]⟩), .pv (I 0), .pv (I 0), .nil 9 1, .pv (I 0), .nil 3 1, .pv (I 0), .pv (.str ⟨#[]⟩), .pv (I 0), .pv (I 0), .nil 9 1, .pv (.str ⟨#[]⟩), .pv (I 0), .pv (I 0), .nil 9 1, .pv (I 0), .nil 3 1, .pv (I 0), .nil 3 1]), (0, [.pv x36])], [(10, ⟨.deep, 3, 1, x37⟩), (12, ⟨.deep, 3, 1, x38⟩), (15, ⟨.deep, 3, 1, x39⟩)], 22, 51⟩) (fun x0 x1 x2 x3 x4 => k (.exit 0) ⟨[(1, .one (.ptr 0 0)), (2, .one (.pv x0)), (8, .one (.pv x1)), (9, .one (.pv x2)), (10, .one (.pv x3))], [(0, [.pv x4])], [], 1, 51⟩)⟩]
theorem Qjw_s : LEsOK (orac [Qjf_e, Qji_e, Qjv_e]) TT (kk [1, 2, 8, 9, 10, 25, 26, 27, 28, 29, 30, 31, 32, 35, 36, 37, 38, 39, 40, 41, 42, 43, 44]) (sumsOf Qjw_l) Tryz.f77 Qjw_l := ⟨fun v K k h => by
  apply un_all h; exact fun v0 v1 v2 v3 v4 h => Eq.mpr (by kernel_rfl) h
  , trivial⟩
theorem Qjw_w : EntOK Tryz.prog TT Qjw_e := ent_ok tabok (L := [Qjf_e, Qji_e, Qjv_e]) ⟨Qjf_w, Qji_w, Qjv_w, trivial⟩ (keep := (kk [1, 2, 8, 9, 10, 25, 26, 27, 28, 29, 30, 31, 32, 35, 36, 37, 38, 39, 40, 41, 42, 43, 44])) (l := Qjw_l) Tryz.func77 (by kernel_rfl) (sg := [.one (.sc)]) (by kernel_rfl) Qjw_s fun av k h => by
  unfold Qjw at h; split at h
  · apply un_all h; clear h; intro a0 h; exact Eq.mpr (by kernel_rfl) h
  · exact h.elim
def Qjx : GM
 | [.agg u0], k => un 8 (fun a0 a1 a2 a3 a4 a5 a6 a7 => 
  call Qfj [.one a0, .one (I 0), .one (I 99800)] fun o0 =>
  iteP (atP o0 0)
   (call Qfs [.one a1] fun o1 =>
   iteP (atP o1 0)
    (call Qig [.agg [a0, a1, a2, a3, a4, a5, a6, a7]] fun o2 =>
    iteP (atP o2 0)
     (lenP a3 fun r3 =>
     binP .leq r3 (I 60) fun r4 =>
     iteP r4
      (call Qij [.one a3, .fn 71 []] fun o5 =>
      unP .not (atP o5 0) fun r6 =>
      iteP r6
       (lenP a4 fun r7 =>
       binP .leq r7 (I 4) fun r8 =>
       iteP r8
        (call Qiq [.one a4, .fn 74 []] fun o9 =>
        unP .not (atP o9 0) fun r10 =>
        iteP r10
         (call Qjb [.agg [a5, a6]] fun o11 =>
         iteP (atP o11 0)
          (call Qjw [.agg [a7]] fun o12 =>
          rt [.sc] [(atP o12 0)] k)
          (rt [.sc] [(.bool false)] k))
         (rt [.sc] [(.bool false)] k))
        (rt [.sc] [(.bool false)] k))
       (rt [.sc] [(.bool false)] k))
      (rt [.sc] [(.bool false)] k))
     (rt [.sc] [(.bool false)] k))
    (rt [.sc] [(.bool false)] k))
   (rt [.sc] [(.bool false)] k)) u0
 | _, _ => False
abbrev Qjx_e : Ent := ⟨[26], Qjx⟩
theorem Qjx_w : EntOK Tryz.prog TT Qjx_e := ent_ok tabok (L := [Qfj_e, Qfs_e, Qig_e, Qij_e, Qiq_e, Qjb_e, Qjw_e]) ⟨Qfj_w, Qfs_w, Qig_w, Qij_w, Qiq_w, Qjb_w, Qjw_w, trivial⟩ (keep := []) (l := []) Tryz.func26 (by kernel_rfl) (sg := [.one (.sc)]) (by kernel_rfl) trivial fun av k h => by
  unfold Qjx at h; split at h
  · apply un_all h; clear h; intro a0 a1 a2 a3 a4 a5 a6 a7 h; exact Eq.mpr (by kernel_rfl) h
  · exact h.elim
def Qjy_r0 (v : List PV) (K : List PV → Prop) (x0k : PV → Prop) (x1k : PV → PV → PV → PV → PV → Prop) : Prop :=
 un 5 (fun v0 v1 v2 v3 v4 =>
  binP .lss v4 v3 fun r0 =>
  iteP r0
   (elemP 1 v0 v4 fun c1 =>
   binP .eql v1 (atP c1 0) fun r2 =>
   iteP r2
    (x0k v4)
    (binP .add v4 (I 1) fun r3 =>
    K [v0, v1, v2, v3, r3]))
   (x1k v0 v1 v2 v3 v4)) v
def Qjy : GM
 | [.one a0, .one a1], k => 
  lenP a0 fun r0 =>
  lp (fun L w => Qjy_r0 w L
   (fun q4 => rt [.sc] [q4] k)
   (fun q5 q6 q7 q8 q9 => rt [.sc] [(I (-1))] k)) [a0, a1, (I 0), r0, (I 0)]
 | _, _ => False
abbrev Qjy_e : Ent := ⟨[241], Qjy⟩
def Qjy_l : List LE := [⟨0, ⟨[(0, .one zB), (1, .one zB), (4, .one zB), (7, .one zB), (8, .one zB)], [], [], 0, 19⟩, fun K k v => Qjy_r0 v K (fun x0 => k .ret ⟨[(4, .one (.pv x0))], [], [], 0, 19⟩) (fun x0 x1 x2 x3 x4 => k (.exit 0) ⟨[(0, .one (.pv x0)), (1, .one (.pv x1)), (4, .one (.pv x2)), (7, .one (.pv x3)), (8, .one (.pv x4))], [], [], 0, 19⟩)⟩]
theorem Qjy_s : LEsOK (orac []) TT (kk [0, 1, 4, 7, 8]) (sumsOf Qjy_l) Tryz.f241 Qjy_l := ⟨fun v K k h => by
  apply un_all h; exact fun v0 v1 v2 v3 v4 h => Eq.mpr (by kernel_rfl) h
  , trivial⟩
theorem Qjy_w : EntOK Tryz.prog TT Qjy_e := ent_ok tabok (L := []) trivial (keep := (kk [0, 1, 4, 7, 8])) (l := Qjy_l) Tryz.func241 (by kernel_rfl) (sg := [.one (.sc)]) (by kernel_rfl) Qjy_s fun av k h => by
  unfold Qjy at h; split at h
  · exact Eq.mpr (by kernel_rfl) h
  · exact h.elim
def Qjz : GM
 | [.one a0, .one a1], k => 
  call Qjy [.one a0, .one a1] fun o0 =>
  binP .geq (atP o0 0) (I 0) fun r1 =>
  rt [.sc] [r1] k
 | _, _ => False
abbrev Qjz_e : Ent := ⟨[188], Qjz⟩
theorem Qjz_w : EntOK Tryz.prog TT Qjz_e := ent_ok tabok (L := [Qjy_e]) ⟨Qjy_w, trivial⟩ (keep := []) (l := []) Tryz.func188 (by kernel_rfl) (sg := [.one (.sc)]) (by kernel_rfl) trivial fun av k h => by
  unfold Qjz at h; split at h
  · exact Eq.mpr (by kernel_rfl) h
  · exact h.elim
def Qka_r0 (v : List PV) (K : List PV → Prop) (x0k : PV → PV → PV → PV → PV → PV → PV → PV → Prop) : Prop :=
 un 8 (fun v0 v1 v2 v3 v4 v5 v6 v7 =>
  binP .lss v5 v4 fun r0 =>
  iteP r0
   (elemP 1 v3 v5 fun c1 =>
   call Qjz [.one v0, .one (atP c1 0)] fun o2 =>
   iteP (atP o2 0)
    (binP .add v2 (I 1) fun r3 =>
    binP .add v5 (I 1) fun r4 =>
    K [v0, v1, r3, v3, v4, r4, v6, v7])
    (binP .add v5 (I 1) fun r5 =>
    K [v0, v1, v2, v3, v4, r5, v6, v7]))
   (x0k v0 v1 v2 v3 v4 v5 v6 v7)) v
def Qka : GM
 | [.agg u0, .one a2], k => un 2 (fun a0 a1 => 
  lenP a0 fun r0 =>
  lp (fun L w => Qka_r0 w L
   (fun q6 q7 q8 q9 q10 q11 q12 q13 => call Qfv [.agg [q12, q13]] fun o14 =>
    iteP (atP o14 0)
     (binP .geq q8 q13 fun r15 =>
     rt [.sc] [r15] k)
     (rt [.sc] [(.bool false)] k))) [a2, (.bool false), (I 0), a0, r0, (I 0), a0, a1]) u0
 | _, _ => False
abbrev Qka_e : Ent := ⟨[139], Qka⟩
def Qka_l : List LE := [⟨0, ⟨[(1, .one zB), (2, .one (.ptr 0 0)), (4, .one zB), (5, .one zB), (9, .one zB), (10, .one zB), (11, .one zB)], [(0, [zB, zB])], [], 1, 29⟩, fun K k v => Qka_r0 v K (fun x0 x1 x2 x3 x4 x5 x6 x7 => k (.exit 0) ⟨[(1, .one (.pv x0)), (2, .one (.ptr 0 0)), (4, .one (.pv x1)), (5, .one (.pv x2)), (9, .one (.pv x3)), (10, .one (.pv x4)), (11, .one (.pv x5))], [(0, [.pv x6, .pv x7])], [], 1, 29⟩)⟩]
theorem Qka_s : LEsOK (orac [Qjz_e, Qfv_e]) TT (kk [1, 2, 4, 5, 9, 10, 11, 24, 25, 26, 27]) (sumsOf Qka_l) Tryz.f139 Qka_l := ⟨fun v K k h => by
  apply un_all h; exact fun v0 v1 v2 v3 v4 v5 v6 v7 h => Eq.mpr (by kernel_rfl) h
  , trivial⟩
theorem Qka_w : EntOK Tryz.prog TT Qka_e := ent_ok tabok (L := [Qjz_e, Qfv_e]) ⟨Qjz_w, Qfv_w, trivial⟩ (keep := (kk [1, 2, 4, 5, 9, 10, 11, 24, 25, 26, 27])) (l := Qka_l) Tryz.func139 (by kernel_rfl) (sg := [.one (.sc)]) (by kernel_rfl) Qka_s fun av k h => by
  unfold Qka at h; split at h
  · apply un_all h; clear h; intro a0 a1 h; exact Eq.mpr (by kernel_rfl) h
  · exact h.elim
def Qkb : GM
 | [.agg u0, .one a16], k => un 16 (fun a0 a1 a2 a3 a4 a5 a6 a7 a8 a9 a10 a11 a12 a13 a14 a15 => 
  binP .eql a16 (I 1) fun r0 =>
  iteP r0
   (rt [.pv, .sc] [a8, a9] k)
   (binP .eql a16 (I 2) fun r1 =>
   iteP r1
    (rt [.pv, .sc] [a10, a11] k)
    (binP .eql a16 (I 3) fun r2 =>
    iteP r2
     (rt [.pv, .sc] [a13, a14] k)
     (rt [.pv, .sc] [(.list 1 []), (I 0)] k)))) u0
 | _, _ => False
abbrev Qkb_e : Ent := ⟨[140], Qkb⟩
theorem Qkb_w : EntOK Tryz.prog TT Qkb_e := ent_ok tabok (L := []) trivial (keep := []) (l := []) Tryz.func140 (by kernel_rfl) (sg := [.agg [.pv, .sc]]) (by kernel_rfl) trivial fun av k h => by
  unfold Qkb at h; split at h
  · apply un_all h; clear h; intro a0 a1 a2 a3 a4 a5 a6 a7 a8 a9 a10 a11 a12 a13 a14 a15 h; exact Eq.mpr (by kernel_rfl) h
  · exact h.elim
def Qkc : GM
 | [.agg u0, .one a2], k => un 2 (fun a0 a1 => 
  lenP a0 fun r0 =>
  binP .eql r0 (I 1) fun r1 =>
  iteP r1
   (elemP 17 a0 (I 0) fun c2 =>
   call Qka [.agg [(atP c2 8), (atP c2 9)], .one a2] fun o3 =>
   rt [.sc] [(atP o3 0)] k)
   (binP .sub r0 (I 2) fun r4 =>
   elemP 17 a0 r4 fun c5 =>
   binP .sub r0 (I 1) fun r6 =>
   elemP 17 a0 r6 fun c7 =>
   call Qkb [.agg [(atP c5 0), (atP c5 1), (atP c5 2), (atP c5 3), (atP c5 4), (atP c5 5), (atP c5 6), (atP c5 7), (atP c5 8), (atP c5 9), (atP c5 10), (atP c5 11), (atP c5 12), (atP c5 13), (atP c5 14), (atP c5 15)], .one (atP c7 2)] fun o8 =>
   call Qka [.agg [(atP o8 0), (atP o8 1)], .one a2] fun o9 =>
   rt [.sc] [(atP o9 0)] k)) u0
 | _, _ => False
abbrev Qkc_e : Ent := ⟨[79], Qkc⟩
theorem Qkc_w : EntOK Tryz.prog TT Qkc_e := ent_ok tabok (L := [Qka_e, Qkb_e]) ⟨Qka_w, Qkb_w, trivial⟩ (keep := []) (l := []) Tryz.func79 (by kernel_rfl) (sg := [.one (.sc)]) (by kernel_rfl) trivial fun av k h => by
  unfold Qkc at h; split at h
  · apply un_all h; clear h; intro a0 a1 h; exact Eq.mpr (by kernel_rfl) h
  · exact h.elim
def Qkd : GM
 | [.agg u0], k => un 3 (fun a0 a1 a2 => 
  call Qib [.agg [a0, a1]] fun o0 =>
  iteP (atP o0 0)
   (call Qkc [.agg [a0, a1], .one a2] fun o1 =>
   rt [.sc] [(atP o1 0)] k)
   (rt [.sc] [(.bool false)] k)) u0
 | _, _ => False
abbrev Qkd_e : Ent := ⟨[29], Qkd⟩
theorem Qkd_w : EntOK Tryz.prog TT Qkd_e := ent_ok tabok (L := [Qib_e, Qkc_e]) ⟨Qib_w, Qkc_w, trivial⟩ (keep := []) (l := []) Tryz.func29 (by kernel_rfl) (sg := [.one (.sc)]) (by kernel_rfl) trivial fun av k h => by
  unfold Qkd at h; split at h
  · apply un_all h; clear h; intro a0 a1 a2 h; exact Eq.mpr (by kernel_rfl) h
  · exact h.elim
def Qke : GM
 | [.agg u0], k => un 3 (fun a0 a1 a2 => 
  call Qkd [.agg [a0, a1, a2]] fun o0 =>
  unP .not (atP o0 0) fun r1 =>
  rt [.sc] [r1] k) u0
 | _, _ => False
abbrev Qke_e : Ent := ⟨[28], Qke⟩
theorem Qke_w : EntOK Tryz.prog TT Qke_e := ent_ok tabok (L := [Qkd_e]) ⟨Qkd_w, trivial⟩ (keep := []) (l := []) Tryz.func28 (by kernel_rfl) (sg := [.one (.sc)]) (by kernel_rfl) trivial fun av k h => by
  unfold Qke at h; split at h
  · apply un_all h; clear h; intro a0 a1 a2 h; exact Eq.mpr (by kernel_rfl) h
  · exact h.elim
def Qkf_r0 (v : List PV) (K : List PV → Prop) (x0k : PV → Prop) (x1k : PV → PV → PV → PV → Prop) : Prop :=
 un 4 (fun v0 v1 v2 v3 =>
  binP .lss v3 v2 fun r0 =>
  iteP r0
   (elemP 3 v0 v3 fun c1 =>
   call Qke [.agg [(atP c1 0), (atP c1 1), (atP c1 2)]] fun o2 =>
   iteP (atP o2 0)
    (x0k v3)
    (binP .add v3 (I 1) fun r3 =>
    K [v0, v1, v2, r3]))
   (x1k v0 v1 v2 v3)) v
def Qkf : GM
 | [.one a0, .fn 28 []], k => 
  lenP a0 fun r0 =>
  lp (fun L w => Qkf_r0 w L
   (fun q4 => rt [.sc] [q4] k)
   (fun q5 q6 q7 q8 => rt [.sc] [(I (-1))] k)) [a0, (I 0), r0, (I 0)]
 | _, _ => False
abbrev Qkf_e : Ent := ⟨[78, 28], Qkf⟩
def Qkf_l : List LE := [⟨0, ⟨[(0, .one zB), (1, .one (.fn 28 [])), (4, .one zB), (7, .one zB), (8, .one zB)], [], [], 0, 19⟩, fun K k v => Qkf_r0 v K (fun x0 => k .ret ⟨[(4, .one (.pv x0))], [], [], 1, 19⟩) (fun x0 x1 x2 x3 => k (.exit 0) ⟨[(0, .one (.pv x0)), (1, .one (.fn 28 [])), (4, .one (.pv x1)), (7, .one (.pv x2)), (8, .one (.pv x3))], [], [], 0, 19⟩)⟩]
theorem Qkf_s : LEsOK (orac [Qke_e]) TT (kk [0, 1, 4, 7, 8]) (sumsOf Qkf_l) Tryz.f78 Qkf_l := ⟨fun v K k h => by
  apply un_all h; exact fun v0 v1 v2 v3 h => Eq.mpr (by kernel_rfl) h
  , trivial⟩
theorem Qkf_w : EntOK Tryz.prog TT Qkf_e := ent_ok tabok (L := [Qke_e]) ⟨Qke_w, trivial⟩ (keep := (kk [0, 1, 4, 7, 8])) (l := Qkf_l) Tryz.func78 (by kernel_rfl) (sg := [.one (.sc)]) (by kernel_rfl) Qkf_s fun av k h => by
  unfold Qkf at h; split at h
  · exact Eq.mpr (by kernel_rfl) h
  · exact h.elim
def Qkg : GM
 | [.one a0, .fn 28 []], k => 
  call Qkf [.one a0, .fn 28 []] fun o0 =>
  binP .geq (atP o0 0) (I 0) fun r1 =>
  rt [.sc] [r1] k
 | _, _ => False
abbrev Qkg_e : Ent := ⟨[27, 28], Qkg⟩
theorem Qkg_w : EntOK Tryz.prog TT Qkg_e := ent_ok tabok (L := [Qkf_e]) ⟨Qkf_w, trivial⟩ (keep := []) (l := []) Tryz.func27 (by kernel_rfl) (sg := [.one (.sc)]) (by kernel_rfl) trivial fun av k h => by
  unfold Qkg at h; split at h
  · exact Eq.mpr (by kernel_rfl) h
  · exact h.elim
def Qkh_r0 (v : List PV) (K : List PV → Prop) (x0k : PV → PV → PV → PV → PV → PV → PV → PV → PV → PV → PV → PV → PV → PV → PV → PV → PV → Prop) (x1k : PV → PV → PV → PV → PV → Prop) : Prop :=
 un 5 (fun v0 v1 v2 v3 v4 =>
  binP .lss v4 v3 fun r0 =>
  iteP r0
   (elemP 17 v2 v4 fun c1 =>
   elemP 17 v0 v4 fun c2 =>
   call Qiu [.agg [(atP c1 0), (atP c1 1), (atP c1 2), (atP c1 3), (atP c1 4), (atP c1 5), (atP c1 6), (atP c1 7), (atP c1 8), (atP c1 9), (atP c1 10), (atP c1 11), (atP c1 12), (atP c1 13), (atP c1 14), (atP c1 15)], .agg [(atP c2 0), (atP c2 1), (atP c2 2), (atP c2 3), (atP c2 4), (atP c2 5), (atP c2 6), (atP c2 7), (atP c2 8), (atP c2 9), (atP c2 10), (atP c2 11), (atP c2 12), (atP c2 13), (atP c2 14), (atP c2 15)]] fun o3 =>
   unP .not (atP o3 0) fun r4 =>
   iteP r4
    (x0k (atP c1 0) (atP c1 1) (atP c1 2) (atP c1 3) (atP c1 4) (atP c1 5) (atP c1 6) (atP c1 7) (atP c1 8) (atP c1 9) (atP c1 10) (atP c1 11) (atP c1 12) (atP c1 13) (atP c1 14) (atP c1 15) (atP c1 16))
    (binP .add v4 (I 1) fun r5 =>
    K [v0, v1, v2, v3, r5]))
   (x1k v0 v1 v2 v3 v4)) v
def Qkh : GM
 | [.one a0, .one a1], k => 
  lenP a0 fun r0 =>
  lenP a1 fun r1 =>
  binP .gtr r0 r1 fun r2 =>
  iteP r2
   (rt [.sc] [(.bool false)] k)
   (lenP a0 fun r3 =>
   lp (fun L w => Qkh_r0 w L
    (fun q6 q7 q8 q9 q10 q11 q12 q13 q14 q15 q16 q17 q18 q19 q20 q21 q22 => rt [.sc] [(.bool false)] k)
    (fun q23 q24 q25 q26 q27 => rt [.sc] [(.bool true)] k)) [a1, (.bool false), a0, r3, (I 0)])
 | _, _ => False
abbrev Qkh_e : Ent := ⟨[83], Qkh⟩
def Qkh_l : List LE := [⟨0, ⟨[(1, .one zB), (4, .one zB), (12, .one zB), (13, .one zB), (14, .one zB)], [], [], 0, 29⟩, fun K k v => Qkh_r0 v K (fun x0 x1 x2 x3 x4 x5 x6 x7 x8 x9 x10 x11 x12 x13 x14 x15 x16 => k .ret ⟨[(4, .one (.kb false))], [(0, [.pv x0, .pv x1, .pv x2, .pv x3, .pv x4, .pv x5, .pv x6, .pv x7, .pv x8, .pv x9, .pv x10, .pv x11, .pv x12, .pv x13, .pv x14, .pv x15, .pv x16]), (0, [.pv (I 0), .pv (I 0), .pv (I 0), .pv (I 0), .pv (I 0), .pv (I 0), .pv (I 0), .pv (I 0), .nil 3 1, .pv (I 0), .nil 3 1, .pv (I 0), .pv (I 0), .nil 3 1, .pv (I 0), zB, .nil 191 2])], [], 2, 29⟩) (fun x0 x1 x2 x3 x4 => k (.exit 0) ⟨[(1, .one (.pv x0)), (4, .one (.pv x1)), (12, .one (.pv x2)), (13, .one (.pv x3)), (14, .one (.pv x4))], [], [], 0, 29⟩)⟩]
theorem Qkh_s : LEsOK (orac [Qiu_e]) TT (kk [1, 4, 12, 13, 14]) (sumsOf Qkh_l) Tryz.f83 Qkh_l := ⟨fun v K k h => by
  apply un_all h; exact fun v0 v1 v2 v3 v4 h => Eq.mpr (by kernel_rfl) h
  , trivial⟩
theorem Qkh_w : EntOK Tryz.prog TT Qkh_e := ent_ok tabok (L := [Qiu_e]) ⟨Qiu_w, trivial⟩ (keep := (kk [1, 4, 12, 13, 14])) (l := Qkh_l) Tryz.func83 (by kernel_rfl) (sg := [.one (.sc)]) (by kernel_rfl) Qkh_s fun av k h => by
  unfold Qkh at h; split at h
  · exact Eq.mpr (by kernel_rfl) h
  · exact h.elim
def Qki_r0 (v : List PV) (K : List PV → Prop) (x0k : PV → PV → PV → PV → PV → PV → PV → PV → Prop) (x1k : PV → PV → PV → PV → PV → Prop) : Prop :=
 un 5 (fun v0 v1 v2 v3 v4 =>
  binP .lss v4 v3 fun r0 =>
  iteP r0
   (elemP 4 v2 v4 fun c1 =>
   elemP 4 v0 v4 fun c2 =>
   call Qjn [.agg [(atP c1 0), (atP c1 1), (atP c1 2), (atP c1 3)], .agg [(atP c2 0), (atP c2 1), (atP c2 2), (atP c2 3)]] fun o3 =>
   unP .not (atP o3 0) fun r4 =>
   iteP r4
    (x0k (atP c2 0) (atP c2 1) (atP c2 2) (atP c2 3) (atP c1 0) (atP c1 1) (atP c1 2) (atP c1 3))
    (binP .add v4 (I 1) fun r5 =>
    K [v0, v1, v2, v3, r5]))
   (x1k v0 v1 v2 v3 v4)) v
def Qki : GM
 | [.one a0, .one a1, .fn 144 []], k => 
  lenP a0 fun r0 =>
  lenP a1 fun r1 =>
  binP .neq r0 r1 fun r2 =>
  iteP r2
   (rt [.sc] [(.bool false)] k)
   (lenP a0 fun r3 =>
   lp (fun L w => Qki_r0 w L
    (fun q6 q7 q8 q9 q10 q11 q12 q13 => rt [.sc] [(.bool false)] k)
    (fun q14 q15 q16 q17 q18 => rt [.sc] [(.bool true)] k)) [a1, (.bool false), a0, r3, (I 0)])
 | _, _ => False
abbrev Qki_e : Ent := ⟨[143, 144], Qki⟩
def Qki_l : List LE := [⟨0, ⟨[(1, .one zB), (2, .one (.fn 144 [])), (6, .one zB), (15, .one zB), (16, .one zB), (17, .one zB)], [], [], 0, 32⟩, fun K k v => Qki_r0 v K (fun x0 x1 x2 x3 x4 x5 x6 x7 => k .ret ⟨[(6, .one (.kb false))], [(1, [.pv x0, .pv x1, .pv x2, .pv x3]), (1, [.pv (.str ⟨#[]⟩), .pv (I 0), .pv (I 0), .nil 9 1]), (0, [.pv x4, .pv x5, .pv x6, .pv x7]), (0, [.pv (.str ⟨#[]⟩), .pv (I 0), .pv (I 0), .nil 9 1])], [], 3, 32⟩) (fun x0 x1 x2 x3 x4 => k (.exit 0) ⟨[(1, .one (.pv x0)), (2, .one (.fn 144 [])), (6, .one (.pv x1)), (15, .one (.pv x2)), (16, .one (.pv x3)), (17, .one (.pv x4))], [], [], 0, 32⟩)⟩]
theorem Qki_s : LEsOK (orac [Qjn_e]) TT (kk [1, 2, 6, 15, 16, 17]) (sumsOf Qki_l) Tryz.f143 Qki_l := ⟨fun v K k h => by
  apply un_all h; exact fun v0 v1 v2 v3 v4 h => Eq.mpr (by kernel_rfl) h
  , trivial⟩
theorem Qki_w : EntOK Tryz.prog TT Qki_e := ent_ok tabok (L := [Qjn_e]) ⟨Qjn_w, trivial⟩ (keep := (kk [1, 2, 6, 15, 16, 17])) (l := Qki_l) Tryz.func143 (by kernel_rfl) (sg := [.one (.sc)]) (by kernel_rfl) Qki_s fun av k h => by
  unfold Qki at h; split at h
  · exact Eq.mpr (by kernel_rfl) h
  · exact h.elim
def Qkj : GM
 | [.one a0, .one a1], k => 
  call Qki [.one a0, .one a1, .fn 144 []] fun o0 =>
  rt [.sc] [(atP o0 0)] k
 | _, _ => False
abbrev Qkj_e : Ent := ⟨[84], Qkj⟩
theorem Qkj_w : EntOK Tryz.prog TT Qkj_e := ent_ok tabok (L := [Qki_e]) ⟨Qki_w, trivial⟩ (keep := []) (l := []) Tryz.func84 (by kernel_rfl) (sg := [.one (.sc)]) (by kernel_rfl) trivial fun av k h => by
  unfold Qkj at h; split at h
  · exact Eq.mpr (by kernel_rfl) h
  · exact h.elim
def Qkk : GM
 | [.agg u0, .ro (.cells u1)], k => un 2 (fun a0 a1 => un 2 (fun a2 a3 => 
  call Qkh [.one a0, .one a2] fun o0 =>
  iteP (atP o0 0)
   (call Qkh [.one a2, .one a0] fun o1 =>
   iteP (atP o1 0)
    (call Qkj [.one a1, .one a3] fun o2 =>
    rt [.sc] [(atP o2 0)] k)
    (rt [.sc] [(.bool false)] k))
   (rt [.sc] [(.bool false)] k)) u1) u0
 | _, _ => False
abbrev Qkk_e : Ent := ⟨[82], Qkk⟩
theorem Qkk_w : EntOK Tryz.prog TT Qkk_e := ent_ok tabok (L := [Qkh_e, Qkj_e]) ⟨Qkh_w, Qkj_w, trivial⟩ (keep := []) (l := []) Tryz.func82 (by kernel_rfl) (sg := [.one (.sc)]) (by kernel_rfl) trivial fun av k h => by
  unfold Qkk at h; split at h
  · apply un_all h; clear h; intro a0 a1 h; apply un_all h; clear h; intro a2 a3 h; exact Eq.mpr (by kernel_rfl) h
  · exact h.elim
def Qkl : GM
 | [.agg u0, .ro (.fn 82 [u1])], k => un 3 (fun a0 a1 a2 => un 2 (fun a3 a4 => 
  call Qkk [.agg [a0, a1], .ro (.cells [a3, a4])] fun o0 =>
  rt [.sc] [(atP o0 0)] k) u1) u0
 | _, _ => False
abbrev Qkl_e : Ent := ⟨[141, 82], Qkl⟩
theorem Qkl_w : EntOK Tryz.prog TT Qkl_e := ent_ok tabok (L := [Qkk_e]) ⟨Qkk_w, trivial⟩ (keep := []) (l := []) Tryz.func141 (by kernel_rfl) (sg := [.one (.sc)]) (by kernel_rfl) trivial fun av k h => by
  unfold Qkl at h; split at h
  · apply un_all h; clear h; intro a0 a1 a2 h; apply un_all h; clear h; intro a3 a4 h; exact Eq.mpr (by kernel_rfl) h
  · exact h.elim
def Qkm_r0 (v : List PV) (K : List PV → Prop) (x0k : PV → Prop) (x1k : PV → PV → PV → PV → PV → PV → Prop) : Prop :=
 un 6 (fun v0 v1 v2 v3 v4 v5 =>
  binP .lss v5 v4 fun r0 =>
  iteP r0
   (elemP 3 v0 v5 fun c1 =>
   call Qkl [.agg [(atP c1 0), (atP c1 1), (atP c1 2)], .ro (.fn 82 [[v1, v2]])] fun o2 =>
   iteP (atP o2 0)
    (x0k v5)
    (binP .add v5 (I 1) fun r3 =>
    K [v0, v1, v2, v3, v4, r3]))
   (x1k v0 v1 v2 v3 v4 v5)) v
def Qkm : GM
 | [.one a0, .fn 141 [.fn 82 [u0]]], k => un 2 (fun a1 a2 => 
  lenP a0 fun r0 =>
  lp (fun L w => Qkm_r0 w L
   (fun q4 => rt [.sc] [q4] k)
   (fun q5 q6 q7 q8 q9 q10 => rt [.sc] [(I (-1))] k)) [a0, a1, a2, (I 0), r0, (I 0)]) u0
 | _, _ => False
abbrev Qkm_e : Ent := ⟨[78, 141, 82], Qkm⟩
def Qkm_l : List LE := [⟨0, ⟨[(0, .one zB), (1, .one (.fn 141 [.ro (.fn 82 [[(.bool false), (.bool false)]])])), (4, .one zB), (7, .one zB), (8, .one zB)], [], [], 0, 19⟩, fun K k v => Qkm_r0 v K (fun x0 => k .ret ⟨[(4, .one (.pv x0))], [], [], 1, 19⟩) (fun x0 x1 x2 x3 x4 x5 => k (.exit 0) ⟨[(0, .one (.pv x0)), (1, .one (.fn 141 [.ro (.fn 82 [[x1, x2]])])), (4, .one (.pv x3)), (7, .one (.pv x4)), (8, .one (.pv x5))], [], [], 0, 19⟩)⟩]
theorem Qkm_s : LEsOK (orac [Qkl_e]) TT (kk [0, 1, 4, 7, 8]) (sumsOf Qkm_l) Tryz.f78 Qkm_l := ⟨fun v K k h => by
  apply un_all h; exact fun v0 v1 v2 v3 v4 v5 h => Eq.mpr (by kernel_rfl) h
  , trivial⟩
theorem Qkm_w : EntOK Tryz.prog TT Qkm_e := ent_ok tabok (L := [Qkl_e]) ⟨Qkl_w, trivial⟩ (keep := (kk [0, 1, 4, 7, 8])) (l := Qkm_l) Tryz.func78 (by kernel_rfl) (sg := [.one (.sc)]) (by kernel_rfl) Qkm_s fun av k h => by
  unfold Qkm at h; split at h
  · apply un_all h; clear h; intro a1 a2 h; exact Eq.mpr (by kernel_rfl) h
  · exact h.elim
def Qkn : GM
 | [.one a0, .fn 141 [.fn 82 [u0]]], k => un 2 (fun a1 a2 => 
  call Qkm [.one a0, .fn 141 [.fn 82 [[a1, a2]]]] fun o0 =>
  binP .geq (atP o0 0) (I 0) fun r1 =>
  rt [.sc] [r1] k) u0
 | _, _ => False
abbrev Qkn_e : Ent := ⟨[27, 141, 82], Qkn⟩
theorem Qkn_w : EntOK Tryz.prog TT Qkn_e := ent_ok tabok (L := [Qkm_e]) ⟨Qkm_w, trivial⟩ (keep := []) (l := []) Tryz.func27 (by kernel_rfl) (sg := [.one (.sc)]) (by kernel_rfl) trivial fun av k h => by
  unfold Qkn at h; split at h
  · apply un_all h; clear h; intro a1 a2 h; exact Eq.mpr (by kernel_rfl) h
  · exact h.elim
def Qko : GM
 | [.agg u0, .fn 82 [.cells u1]], k => un 8 (fun a0 a1 a2 a3 a4 a5 a6 a7 => un 2 (fun a8 a9 => 
  call Qkn [.one a3, .fn 141 [.fn 82 [[a8, a9]]]] fun o0 =>
  rt [.sc] [(atP o0 0)] k) u1) u0
 | _, _ => False
abbrev Qko_e : Ent := ⟨[81, 82], Qko⟩
theorem Qko_w : EntOK Tryz.prog TT Qko_e := ent_ok tabok (L := [Qkn_e]) ⟨Qkn_w, trivial⟩ (keep := []) (l := []) Tryz.func81 (by kernel_rfl) (sg := [.one (.sc)]) (by kernel_rfl) trivial fun av k h => by
  unfold Qko at h; split at h
  · apply un_all h; clear h; intro a0 a1 a2 a3 a4 a5 a6 a7 h; apply un_all h; clear h; intro a8 a9 h; exact Eq.mpr (by kernel_rfl) h
  · exact h.elim
def Qkp : GM
 | [.agg u0, .agg u1], k => un 8 (fun a0 a1 a2 a3 a4 a5 a6 a7 => un 2 (fun a8 a9 => 
  call Qko [.agg [a0, a1, a2, a3, a4, a5, a6, a7], .fn 82 [.cells [a8, a9]]] fun o0 =>
  rt [.sc] [(atP o0 0)] k) u1) u0
 | _, _ => False
abbrev Qkp_e : Ent := ⟨[32], Qkp⟩
theorem Qkp_w : EntOK Tryz.prog TT Qkp_e := ent_ok tabok (L := [Qko_e]) ⟨Qko_w, trivial⟩ (keep := []) (l := []) Tryz.func32 (by kernel_rfl) (sg := [.one (.sc)]) (by kernel_rfl) trivial fun av k h => by
  unfold Qkp at h; split at h
  · apply un_all h; clear h; intro a0 a1 a2 a3 a4 a5 a6 a7 h; apply un_all h; clear h; intro a8 a9 h; exact Eq.mpr (by kernel_rfl) h
  · exact h.elim
def Qkq : GM
 | [.agg u0, .ro (.cells u1)], k => un 2 (fun a0 a1 => un 8 (fun a2 a3 a4 a5 a6 a7 a8 a9 => 
  call Qkp [.agg [a2, a3, a4, a5, a6, a7, a8, a9], .agg [a0, a1]] fun o0 =>
  unP .not (atP o0 0) fun r1 =>
  rt [.sc] [r1] k) u1) u0
 | _, _ => False
abbrev Qkq_e : Ent := ⟨[31], Qkq⟩
theorem Qkq_w : EntOK Tryz.prog TT Qkq_e := ent_ok tabok (L := [Qkp_e]) ⟨Qkp_w, trivial⟩ (keep := []) (l := []) Tryz.func31 (by kernel_rfl) (sg := [.one (.sc)]) (by kernel_rfl) trivial fun av k h => by
  unfold Qkq at h; split at h
  · apply un_all h; clear h; intro a0 a1 h; apply un_all h; clear h; intro a2 a3 a4 a5 a6 a7 a8 a9 h; exact Eq.mpr (by kernel_rfl) h
  · exact h.elim
def Qkr_r0 (v : List PV) (K : List PV → Prop) (x0k : PV → Prop) (x1k : PV → PV → PV → PV → PV → PV → PV → PV → PV → PV → PV → PV → Prop) : Prop :=
 un 12 (fun v0 v1 v2 v3 v4 v5 v6 v7 v8 v9 v10 v11 =>
  binP .lss v11 v10 fun r0 =>
  iteP r0
   (elemP 2 v0 v11 fun c1 =>
   call Qkq [.agg [(atP c1 0), (atP c1 1)], .ro (.cells [v1, v2, v3, v4, v5, v6, v7, v8])] fun o2 =>
   iteP (atP o2 0)
    (x0k v11)
    (binP .add v11 (I 1) fun r3 =>
    K [v0, v1, v2, v3, v4, v5, v6, v7, v8, v9, v10, r3]))
   (x1k v0 v1 v2 v3 v4 v5 v6 v7 v8 v9 v10 v11)) v
def Qkr : GM
 | [.one a0, .fn 31 [.cells u0]], k => un 8 (fun a1 a2 a3 a4 a5 a6 a7 a8 => 
  lenP a0 fun r0 =>
  lp (fun L w => Qkr_r0 w L
   (fun q4 => rt [.sc] [q4] k)
   (fun q5 q6 q7 q8 q9 q10 q11 q12 q13 q14 q15 q16 => rt [.sc] [(I (-1))] k)) [a0, a1, a2, a3, a4, a5, a6, a7, a8, (I 0), r0, (I 0)]) u0
 | _, _ => False
abbrev Qkr_e : Ent := ⟨[80, 31], Qkr⟩
def Qkr_l : List LE := [⟨0, ⟨[(0, .one zB), (1, .one (.fn 31 [.ro (.cells [(.bool false), (.bool false), (.bool false), (.bool false), (.bool false), (.bool false), (.bool false), (.bool false)])])), (4, .one zB), (7, .one zB), (8, .one zB)], [], [], 0, 19⟩, fun K k v => Qkr_r0 v K (fun x0 => k .ret ⟨[(4, .one (.pv x0))], [], [], 1, 19⟩) (fun x0 x1 x2 x3 x4 x5 x6 x7 x8 x9 x10 x11 => k (.exit 0) ⟨[(0, .one (.pv x0)), (1, .one (.fn 31 [.ro (.cells [x1, x2, x3, x4, x5, x6, x7, x8])])), (4, .one (.pv x9)), (7, .one (.pv x10)), (8, .one (.pv x11))], [], [], 0, 19⟩)⟩]
theorem Qkr_s : LEsOK (orac [Qkq_e]) TT (kk [0, 1, 4, 7, 8]) (sumsOf Qkr_l) Tryz.f80 Qkr_l := ⟨fun v K k h => by
  apply un_all h; exact fun v0 v1 v2 v3 v4 v5 v6 v7 v8 v9 v10 v11 h => Eq.mpr (by kernel_rfl) h
  , trivial⟩
theorem Qkr_w : EntOK Tryz.prog TT Qkr_e := ent_ok tabok (L := [Qkq_e]) ⟨Qkq_w, trivial⟩ (keep := (kk [0, 1, 4, 7, 8])) (l := Qkr_l) Tryz.func80 (by kernel_rfl) (sg := [.one (.sc)]) (by kernel_rfl) Qkr_s fun av k h => by
  unfold Qkr at h; split at h
  · apply un_all h; clear h; intro a1 a2 a3 a4 a5 a6 a7 a8 h; exact Eq.mpr (by kernel_rfl) h
  · exact h.elim
def Qks : GM
 | [.one a0, .fn 31 [.cells u0]], k => un 8 (fun a1 a2 a3 a4 a5 a6 a7 a8 => 
  call Qkr [.one a0, .fn 31 [.cells [a1, a2, a3, a4, a5, a6, a7, a8]]] fun o0 =>
  binP .geq (atP o0 0) (I 0) fun r1 =>
  rt [.sc] [r1] k) u0
 | _, _ => False
abbrev Qks_e : Ent := ⟨[30, 31], Qks⟩
theorem Qks_w : EntOK Tryz.prog TT Qks_e := ent_ok tabok (L := [Qkr_e]) ⟨Qkr_w, trivial⟩ (keep := []) (l := []) Tryz.func30 (by kernel_rfl) (sg := [.one (.sc)]) (by kernel_rfl) trivial fun av k h => by
  unfold Qks at h; split at h
  · apply un_all h; clear h; intro a1 a2 a3 a4 a5 a6 a7 a8 h; exact Eq.mpr (by kernel_rfl) h
  · exact h.elim
def Qkt : GM
 | [.agg u0, .ro (.cells u1)], k => un 2 (fun a0 a1 => un 8 (fun a2 a3 a4 a5 a6 a7 a8 a9 => 
  call Qkp [.agg [a2, a3, a4, a5, a6, a7, a8, a9], .agg [a0, a1]] fun o0 =>
  unP .not (atP o0 0) fun r1 =>
  rt [.sc] [r1] k) u1) u0
 | _, _ => False
abbrev Qkt_e : Ent := ⟨[86], Qkt⟩
theorem Qkt_w : EntOK Tryz.prog TT Qkt_e := ent_ok tabok (L := [Qkp_e]) ⟨Qkp_w, trivial⟩ (keep := []) (l := []) Tryz.func86 (by kernel_rfl) (sg := [.one (.sc)]) (by kernel_rfl) trivial fun av k h => by
  unfold Qkt at h; split at h
  · apply un_all h; clear h; intro a0 a1 h; apply un_all h; clear h; intro a2 a3 a4 a5 a6 a7 a8 a9 h; exact Eq.mpr (by kernel_rfl) h
  · exact h.elim
def Qku_r0 (v : List PV) (K : List PV → Prop) (x0k : PV → Prop) (x1k : PV → PV → PV → PV → PV → PV → PV → PV → PV → PV → PV → PV → Prop) : Prop :=
 un 12 (fun v0 v1 v2 v3 v4 v5 v6 v7 v8 v9 v10 v11 =>
  binP .lss v11 v10 fun r0 =>
  iteP r0
   (elemP 2 v0 v11 fun c1 =>
   call Qkt [.agg [(atP c1 0), (atP c1 1)], .ro (.cells [v1, v2, v3, v4, v5, v6, v7, v8])] fun o2 =>
   iteP (atP o2 0)
    (x0k v11)
    (binP .add v11 (I 1) fun r3 =>
    K [v0, v1, v2, v3, v4, v5, v6, v7, v8, v9, v10, r3]))
   (x1k v0 v1 v2 v3 v4 v5 v6 v7 v8 v9 v10 v11)) v
def Qku : GM
 | [.one a0, .fn 86 [.cells u0]], k => un 8 (fun a1 a2 a3 a4 a5 a6 a7 a8 => 
  lenP a0 fun r0 =>
  lp (fun L w => Qku_r0 w L
   (fun q4 => rt [.sc] [q4] k)
   (fun q5 q6 q7 q8 q9 q10 q11 q12 q13 q14 q15 q16 => rt [.sc] [(I (-1))] k)) [a0, a1, a2, a3, a4, a5, a6, a7, a8, (I 0), r0, (I 0)]) u0
 | _, _ => False
abbrev Qku_e : Ent := ⟨[80, 86], Qku⟩
def Qku_l : List LE := [⟨0, ⟨[(0, .one zB), (1, .one (.fn 86 [.ro (.cells [(.bool false), (.bool false), (.bool false), (.bool false), (.bool false), (.bool false), (.bool false), (.bool false)])])), (4, .one zB), (7, .one zB), (8, .one zB)], [], [], 0, 19⟩, fun K k v => Qku_r0 v K (fun x0 => k .ret ⟨[(4, .one (.pv x0))], [], [], 1, 19⟩) (fun x0 x1 x2 x3 x4 x5 x6 x7 x8 x9 x10 x11 => k (.exit 0) ⟨[(0, .one (.pv x0)), (1, .one (.fn 86 [.ro (.cells [x1, x2, x3, x4, x5, x6, x7, x8])])), (4, .one (.pv x9)), (7, .one (.pv x10)), (8, .one (.pv x11))], [], [], 0, 19⟩)⟩]
theorem Qku_s : LEsOK (orac [Qkt_e]) TT (kk [0, 1, 4, 7, 8]) (sumsOf Qku_l) Tryz.f80 Qku_l := ⟨fun v K k h => by
  apply un_all h; exact fun v0 v1 v2 v3 v4 v5 v6 v7 v8 v9 v10 v11 h => Eq.mpr (by kernel_rfl) h
  , trivial⟩
theorem Qku_w : EntOK Tryz.prog TT Qku_e := ent_ok tabok (L := [Qkt_e]) ⟨Qkt_w, trivial⟩ (keep := (kk [0, 1, 4, 7, 8])) (l := Qku_l) Tryz.func80 (by kernel_rfl) (sg := [.one (.sc)]) (by kernel_rfl) Qku_s fun av k h => by
  unfold Qku at h; split at h
  · apply un_all h; clear h; intro a1 a2 a3 a4 a5 a6 a7 a8 h; exact Eq.mpr (by kernel_rfl) h
  · exact h.elim
def Qkv : GM
 | [.one a0, .fn 86 [.cells u0]], k => un 8 (fun a1 a2 a3 a4 a5 a6 a7 a8 => 
  call Qku [.one a0, .fn 86 [.cells [a1, a2, a3, a4, a5, a6, a7, a8]]] fun o0 =>
  binP .geq (atP o0 0) (I 0) fun r1 =>
  rt [.sc] [r1] k) u0
 | _, _ => False
abbrev Qkv_e : Ent := ⟨[30, 86], Qkv⟩
theorem Qkv_w : EntOK Tryz.prog TT Qkv_e := ent_ok tabok (L := [Qku_e]) ⟨Qku_w, trivial⟩ (keep := []) (l := []) Tryz.func30 (by kernel_rfl) (sg := [.one (.sc)]) (by kernel_rfl) trivial fun av k h => by
  unfold Qkv at h; split at h
  · apply un_all h; clear h; intro a1 a2 a3 a4 a5 a6 a7 a8 h; exact Eq.mpr (by kernel_rfl) h
  · exact h.elim
def Qkw : GM
 | [.agg u0, .ro (.cells u1)], k => un 2 (fun a0 a1 => un 8 (fun a2 a3 a4 a5 a6 a7 a8 a9 => 
  call Qkv [.one a0, .fn 86 [.cells [a2, a3, a4, a5, a6, a7, a8, a9]]] fun o0 =>
  rt [.sc] [(atP o0 0)] k) u1) u0
 | _, _ => False
abbrev Qkw_e : Ent := ⟨[85], Qkw⟩
theorem Qkw_w : EntOK Tryz.prog TT Qkw_e := ent_ok tabok (L := [Qkv_e]) ⟨Qkv_w, trivial⟩ (keep := []) (l := []) Tryz.func85 (by kernel_rfl) (sg := [.one (.sc)]) (by kernel_rfl) trivial fun av k h => by
  unfold Qkw at h; split at h
  · apply un_all h; clear h; intro a0 a1 h; apply un_all h; clear h; intro a2 a3 a4 a5 a6 a7 a8 a9 h; exact Eq.mpr (by kernel_rfl) h
  · exact h.elim
def Qkx_r0 (v : List PV) (K : List PV → Prop) (x0k : PV → Prop) (x1k : PV → PV → PV → PV → PV → PV → PV → PV → PV → PV → PV → PV → Prop) : Prop :=
 un 12 (fun v0 v1 v2 v3 v4 v5 v6 v7 v8 v9 v10 v11 =>
  binP .lss v11 v10 fun r0 =>
  iteP r0
   (elemP 2 v0 v11 fun c1 =>
   call Qkw [.agg [(atP c1 0), (atP c1 1)], .ro (.cells [v1, v2, v3, v4, v5, v6, v7, v8])] fun o2 =>
   iteP (atP o2 0)
    (x0k v11)
    (binP .add v11 (I 1) fun r3 =>
    K [v0, v1, v2, v3, v4, v5, v6, v7, v8, v9, v10, r3]))
   (x1k v0 v1 v2 v3 v4 v5 v6 v7 v8 v9 v10 v11)) v
def Qkx : GM
 | [.one a0, .fn 85 [.cells u0]], k => un 8 (fun a1 a2 a3 a4 a5 a6 a7 a8 => 
  lenP a0 fun r0 =>
  lp (fun L w => Qkx_r0 w L
   (fun q4 => rt [.sc] [q4] k)
   (fun q5 q6 q7 q8 q9 q10 q11 q12 q13 q14 q15 q16 => rt [.sc] [(I (-1))] k)) [a0, a1, a2, a3, a4, a5, a6, a7, a8, (I 0), r0, (I 0)]) u0
 | _, _ => False
abbrev Qkx_e : Ent := ⟨[131, 85], Qkx⟩
def Qkx_l : List LE := [⟨0, ⟨[(0, .one zB), (1, .one (.fn 85 [.ro (.cells [(.bool false), (.bool false), (.bool false), (.bool false), (.bool false), (.bool false), (.bool false), (.bool false)])])), (4, .one zB), (7, .one zB), (8, .one zB)], [], [], 0, 19⟩, fun K k v => Qkx_r0 v K (fun x0 => k .ret ⟨[(4, .one (.pv x0))], [], [], 1, 19⟩) (fun x0 x1 x2 x3 x4 x5 x6 x7 x8 x9 x10 x11 => k (.exit 0) ⟨[(0, .one (.pv x0)), (1, .one (.fn 85 [.ro (.cells [x1, x2, x3, x4, x5, x6, x7, x8])])), (4, .one (.pv x9)), (7, .one (.pv x10)), (8, .one (.pv x11))], [], [], 0, 19⟩)⟩]
theorem Qkx_s : LEsOK (orac [Qkw_e]) TT (kk [0, 1, 4, 7, 8]) (sumsOf Qkx_l) Tryz.f131 Qkx_l := ⟨fun v K k h => by
  apply un_all h; exact fun v0 v1 v2 v3 v4 v5 v6 v7 v8 v9 v10 v11 h => Eq.mpr (by kernel_rfl) h
  , trivial⟩
theorem Qkx_w : EntOK Tryz.prog TT Qkx_e := ent_ok tabok (L := [Qkw_e]) ⟨Qkw_w, trivial⟩ (keep := (kk [0, 1, 4, 7, 8])) (l := Qkx_l) Tryz.func131 (by kernel_rfl) (sg := [.one (.sc)]) (by kernel_rfl) Qkx_s fun av k h => by
  unfold Qkx at h; split at h
  · apply un_all h; clear h; intro a1 a2 a3 a4 a5 a6 a7 a8 h; exact Eq.mpr (by kernel_rfl) h
  · exact h.elim
def Qky : GM
 | [.one a0, .fn 85 [.cells u0]], k => un 8 (fun a1 a2 a3 a4 a5 a6 a7 a8 => 
  call Qkx [.one a0, .fn 85 [.cells [a1, a2, a3, a4, a5, a6, a7, a8]]] fun o0 =>
  binP .geq (atP o0 0) (I 0) fun r1 =>
  rt [.sc] [r1] k) u0
 | _, _ => False
abbrev Qky_e : Ent := ⟨[73, 85], Qky⟩
theorem Qky_w : EntOK Tryz.prog TT Qky_e := ent_ok tabok (L := [Qkx_e]) ⟨Qkx_w, trivial⟩ (keep := []) (l := []) Tryz.func73 (by kernel_rfl) (sg := [.one (.sc)]) (by kernel_rfl) trivial fun av k h => by
  unfold Qky at h; split at h
  · apply un_all h; clear h; intro a1 a2 a3 a4 a5 a6 a7 a8 h; exact Eq.mpr (by kernel_rfl) h
  · exact h.elim
def Qkz : GM
 | [.agg u0], k => un 8 (fun a0 a1 a2 a3 a4 a5 a6 a7 => 
  call Qky [.one a4, .fn 85 [.cells [a0, a1, a2, a3, a4, a5, a6, a7]]] fun o0 =>
  unP .not (atP o0 0) fun r1 =>
  rt [.sc] [r1] k) u0
 | _, _ => False
abbrev Qkz_e : Ent := ⟨[33], Qkz⟩
theorem Qkz_w : EntOK Tryz.prog TT Qkz_e := ent_ok tabok (L := [Qky_e]) ⟨Qky_w, trivial⟩ (keep := []) (l := []) Tryz.func33 (by kernel_rfl) (sg := [.one (.sc)]) (by kernel_rfl) trivial fun av k h => by
  unfold Qkz at h; split at h
  · apply un_all h; clear h; intro a0 a1 a2 a3 a4 a5 a6 a7 h; exact Eq.mpr (by kernel_rfl) h
  · exact h.elim
def Qla : GM
 | [.agg u0, .ro (.cells u1)], k => un 2 (fun a0 a1 => un 1 (fun a2 => 
  call Qkh [.one a2, .one a0] fun o0 =>
  rt [.sc] [(atP o0 0)] k) u1) u0
 | _, _ => False
abbrev Qla_e : Ent := ⟨[145], Qla⟩
theorem Qla_w : EntOK Tryz.prog TT Qla_e := ent_ok tabok (L := [Qkh_e]) ⟨Qkh_w, trivial⟩ (keep := []) (l := []) Tryz.func145 (by kernel_rfl) (sg := [.one (.sc)]) (by kernel_rfl) trivial fun av k h => by
  unfold Qla at h; split at h
  · apply un_all h; clear h; intro a0 a1 h; apply un_all h; clear h; intro a2 h; exact Eq.mpr (by kernel_rfl) h
  · exact h.elim
def Qlb : GM
 | [.agg u0, .ro (.fn 145 [u1])], k => un 3 (fun a0 a1 a2 => un 1 (fun a3 => 
  call Qla [.agg [a0, a1], .ro (.cells [a3])] fun o0 =>
  rt [.sc] [(atP o0 0)] k) u1) u0
 | _, _ => False
abbrev Qlb_e : Ent := ⟨[141, 145], Qlb⟩
theorem Qlb_w : EntOK Tryz.prog TT Qlb_e := ent_ok tabok (L := [Qla_e]) ⟨Qla_w, trivial⟩ (keep := []) (l := []) Tryz.func141 (by kernel_rfl) (sg := [.one (.sc)]) (by kernel_rfl) trivial fun av k h => by
  unfold Qlb at h; split at h
  · apply un_all h; clear h; intro a0 a1 a2 h; apply un_all h; clear h; intro a3 h; exact Eq.mpr (by kernel_rfl) h
  · exact h.elim
def Qlc_r0 (v : List PV) (K : List PV → Prop) (x0k : PV → Prop) (x1k : PV → PV → PV → PV → PV → Prop) : Prop :=
 un 5 (fun v0 v1 v2 v3 v4 =>
  binP .lss v4 v3 fun r0 =>
  iteP r0
   (elemP 3 v0 v4 fun c1 =>
   call Qlb [.agg [(atP c1 0), (atP c1 1), (atP c1 2)], .ro (.fn 145 [[v1]])] fun o2 =>
   iteP (atP o2 0)
    (x0k v4)
    (binP .add v4 (I 1) fun r3 =>
    K [v0, v1, v2, v3, r3]))
   (x1k v0 v1 v2 v3 v4)) v
def Qlc : GM
 | [.one a0, .fn 141 [.fn 145 [u0]]], k => un 1 (fun a1 => 
  lenP a0 fun r0 =>
  lp (fun L w => Qlc_r0 w L
   (fun q4 => rt [.sc] [q4] k)
   (fun q5 q6 q7 q8 q9 => rt [.sc] [(I (-1))] k)) [a0, a1, (I 0), r0, (I 0)]) u0
 | _, _ => False
abbrev Qlc_e : Ent := ⟨[78, 141, 145], Qlc⟩
def Qlc_l : List LE := [⟨0, ⟨[(0, .one zB), (1, .one (.fn 141 [.ro (.fn 145 [[(.bool false)]])])), (4, .one zB), (7, .one zB), (8, .one zB)], [], [], 0, 19⟩, fun K k v => Qlc_r0 v K (fun x0 => k .ret ⟨[(4, .one (.pv x0))], [], [], 1, 19⟩) (fun x0 x1 x2 x3 x4 => k (.exit 0) ⟨[(0, .one (.pv x0)), (1, .one (.fn 141 [.ro (.fn 145 [[x1]])])), (4, .one (.pv x2)), (7, .one (.pv x3)), (8, .one (.pv x4))], [], [], 0, 19⟩)⟩]
theorem Qlc_s : LEsOK (orac [Qlb_e]) TT (kk [0, 1, 4, 7, 8]) (sumsOf Qlc_l) Tryz.f78 Qlc_l := ⟨fun v K k h => by
  apply un_all h; exact fun v0 v1 v2 v3 v4 h => Eq.mpr (by kernel_rfl) h
  , trivial⟩
theorem Qlc_w : EntOK Tryz.prog TT Qlc_e := ent_ok tabok (L := [Qlb_e]) ⟨Qlb_w, trivial⟩ (keep := (kk [0, 1, 4, 7, 8])) (l := Qlc_l) Tryz.func78 (by kernel_rfl) (sg := [.one (.sc)]) (by kernel_rfl) Qlc_s fun av k h => by
  unfold Qlc at h; split at h
  · apply un_all h; clear h; intro a1 h; exact Eq.mpr (by kernel_rfl) h
  · exact h.elim
def Qld : GM
 | [.one a0, .fn 141 [.fn 145 [u0]]], k => un 1 (fun a1 => 
  call Qlc [.one a0, .fn 141 [.fn 145 [[a1]]]] fun o0 =>
  binP .geq (atP o0 0) (I 0) fun r1 =>
  rt [.sc] [r1] k) u0
 | _, _ => False
abbrev Qld_e : Ent := ⟨[27, 141, 145], Qld⟩
theorem Qld_w : EntOK Tryz.prog TT Qld_e := ent_ok tabok (L := [Qlc_e]) ⟨Qlc_w, trivial⟩ (keep := []) (l := []) Tryz.func27 (by kernel_rfl) (sg := [.one (.sc)]) (by kernel_rfl) trivial fun av k h => by
  unfold Qld at h; split at h
  · apply un_all h; clear h; intro a1 h; exact Eq.mpr (by kernel_rfl) h
  · exact h.elim
def Qle : GM
 | [.agg u0, .fn 145 [.cells u1]], k => un 8 (fun a0 a1 a2 a3 a4 a5 a6 a7 => un 1 (fun a8 => 
  call Qld [.one a3, .fn 141 [.fn 145 [[a8]]]] fun o0 =>
  rt [.sc] [(atP o0 0)] k) u1) u0
 | _, _ => False
abbrev Qle_e : Ent := ⟨[81, 145], Qle⟩
theorem Qle_w : EntOK Tryz.prog TT Qle_e := ent_ok tabok (L := [Qld_e]) ⟨Qld_w, trivial⟩ (keep := []) (l := []) Tryz.func81 (by kernel_rfl) (sg := [.one (.sc)]) (by kernel_rfl) trivial fun av k h => by
  unfold Qle at h; split at h
  · apply un_all h; clear h; intro a0 a1 a2 a3 a4 a5 a6 a7 h; apply un_all h; clear h; intro a8 h; exact Eq.mpr (by kernel_rfl) h
  · exact h.elim
def Qlf : GM
 | [.agg u0, .one a8], k => un 8 (fun a0 a1 a2 a3 a4 a5 a6 a7 => 
  call Qle [.agg [a0, a1, a2, a3, a4, a5, a6, a7], .fn 145 [.cells [a8]]] fun o0 =>
  rt [.sc] [(atP o0 0)] k) u0
 | _, _ => False
abbrev Qlf_e : Ent := ⟨[87], Qlf⟩
theorem Qlf_w : EntOK Tryz.prog TT Qlf_e := ent_ok tabok (L := [Qle_e]) ⟨Qle_w, trivial⟩ (keep := []) (l := []) Tryz.func87 (by kernel_rfl) (sg := [.one (.sc)]) (by kernel_rfl) trivial fun av k h => by
  unfold Qlf at h; split at h
  · apply un_all h; clear h; intro a0 a1 a2 a3 a4 a5 a6 a7 h; exact Eq.mpr (by kernel_rfl) h
  · exact h.elim
def Qlg : GM
 | [.agg u0, .ro (.cells u1)], k => un 17 (fun a0 a1 a2 a3 a4 a5 a6 a7 a8 a9 a10 a11 a12 a13 a14 a15 a16 => un 16 (fun a17 a18 a19 a20 a21 a22 a23 a24 a25 a26 a27 a28 a29 a30 a31 a32 => 
  call Qiu [.agg [a0, a1, a2, a3, a4, a5, a6, a7, a8, a9, a10, a11, a12, a13, a14, a15], .agg [a17, a18, a19, a20, a21, a22, a23, a24, a25, a26, a27, a28, a29, a30, a31, a32]] fun o0 =>
  rt [.sc] [(atP o0 0)] k) u1) u0
 | _, _ => False
abbrev Qlg_e : Ent := ⟨[197], Qlg⟩
theorem Qlg_w : EntOK Tryz.prog TT Qlg_e := ent_ok tabok (L := [Qiu_e]) ⟨Qiu_w, trivial⟩ (keep := []) (l := []) Tryz.func197 (by kernel_rfl) (sg := [.one (.sc)]) (by kernel_rfl) trivial fun av k h => by
  unfold Qlg at h; split at h
  · apply un_all h; clear h; intro a0 a1 a2 a3 a4 a5 a6 a7 a8 a9 a10 a11 a12 a13 a14 a15 a16 h; apply un_all h; clear h; intro a17 a18 a19 a20 a21 a22 a23 a24 a25 a26 a27 a28 a29 a30 a31 a32 h; exact Eq.mpr (by kernel_rfl) h
  · exact h.elim
def Qlh_r0 (v : List PV) (K : List PV → Prop) (x0k : PV → Prop) (x1k : PV → PV → PV → PV → PV → PV → PV → PV → PV → PV → PV → PV → PV → PV → PV → PV → PV → PV → PV → PV → Prop) : Prop :=
 un 20 (fun v0 v1 v2 v3 v4 v5 v6 v7 v8 v9 v10 v11 v12 v13 v14 v15 v16 v17 v18 v19 =>
  binP .lss v19 v18 fun r0 =>
  iteP r0
   (elemP 17 v0 v19 fun c1 =>
   call Qlg [.agg [(atP c1 0), (atP c1 1), (atP c1 2), (atP c1 3), (atP c1 4), (atP c1 5), (atP c1 6), (atP c1 7), (atP c1 8), (atP c1 9), (atP c1 10), (atP c1 11), (atP c1 12), (atP c1 13), (atP c1 14), (atP c1 15), (atP c1 16)], .ro (.cells [v1, v2, v3, v4, v5, v6, v7, v8, v9, v10, v11, v12, v13, v14, v15, v16])] fun o2 =>
   iteP (atP o2 0)
    (x0k v19)
    (binP .add v19 (I 1) fun r3 =>
    K [v0, v1, v2, v3, v4, v5, v6, v7, v8, v9, v10, v11, v12, v13, v14, v15, v16, v17, v18, r3]))
   (x1k v0 v1 v2 v3 v4 v5 v6 v7 v8 v9 v10 v11 v12 v13 v14 v15 v16 v17 v18 v19)) v
def Qlh : GM
 | [.one a0, .fn 197 [.cells u0]], k => un 16 (fun a1 a2 a3 a4 a5 a6 a7 a8 a9 a10 a11 a12 a13 a14 a15 a16 => 
  lenP a0 fun r0 =>
  lp (fun L w => Qlh_r0 w L
   (fun q4 => rt [.sc] [q4] k)
   (fun q5 q6 q7 q8 q9 q10 q11 q12 q13 q14 q15 q16 q17 q18 q19 q20 q21 q22 q23 q24 => rt [.sc] [(I (-1))] k)) [a0, a1, a2, a3, a4, a5, a6, a7, a8, a9, a10, a11, a12, a13, a14, a15, a16, (I 0), r0, (I 0)]) u0
 | _, _ => False
abbrev Qlh_e : Ent := ⟨[245, 197], Qlh⟩
def Qlh_l : List LE := [⟨0, ⟨[(0, .one zB), (1, .one (.fn 197 [.ro (.cells [(.bool false), (.bool false), (.bool false), (.bool false), (.bool false), (.bool false), (.bool false), (.bool false), (.bool false), (.bool false), (.bool false), (.bool false), (.bool false), (.bool false), (.bool false), (.bool false)])])), (4, .one zB), (7, .one zB), (8, .one zB)], [], [], 0, 19⟩, fun K k v => Qlh_r0 v K (fun x0 => k .ret ⟨[(4, .one (.pv x0))], [], [], 1, 19⟩) (fun x0 x1 x2 x3 x4 x5 x6 x7 x8 x9 x10 x11 x12 x13 x14 x15 x16 x17 x18 x19 => k (.exit 0) ⟨[(0, .one (.pv x0)), (1, .one (.fn 197 [.ro (.cells [x1, x2, x3, x4, x5, x6, x7, x8, x9, x10, x11, x12, x13, x14, x15, x16])])), (4, .one (.pv x17)), (7, .one (.pv x18)), (8, .one (.pv x19))], [], [], 0, 19⟩)⟩]
theorem Qlh_s : LEsOK (orac [Qlg_e]) TT (kk [0, 1, 4, 7, 8]) (sumsOf Qlh_l) Tryz.f245 Qlh_l := ⟨fun v K k h => by
  apply un_all h; exact fun v0 v1 v2 v3 v4 v5 v6 v7 v8 v9 v10 v11 v12 v13 v14 v15 v16 v17 v18 v19 h => Eq.mpr (by kernel_rfl) h
  , trivial⟩
theorem Qlh_w : EntOK Tryz.prog TT Qlh_e := ent_ok tabok (L := [Qlg_e]) ⟨Qlg_w, trivial⟩ (keep := (kk [0, 1, 4, 7, 8])) (l := Qlh_l) Tryz.func245 (by kernel_rfl) (sg := [.one (.sc)]) (by kernel_rfl) Qlh_s fun av k h => by
  unfold Qlh at h; split at h
  · apply un_all h; clear h; intro a1 a2 a3 a4 a5 a6 a7 a8 a9 a10 a11 a12 a13 a14 a15 a16 h; exact Eq.mpr (by kernel_rfl) h
  · exact h.elim
def Qli : GM
 | [.one a0, .fn 197 [.cells u0]], k => un 16 (fun a1 a2 a3 a4 a5 a6 a7 a8 a9 a10 a11 a12 a13 a14 a15 a16 => 
  call Qlh [.one a0, .fn 197 [.cells [a1, a2, a3, a4, a5, a6, a7, a8, a9, a10, a11, a12, a13, a14, a15, a16]]] fun o0 =>
  binP .geq (atP o0 0) (I 0) fun r1 =>
  rt [.sc] [r1] k) u0
 | _, _ => False
abbrev Qli_e : Ent := ⟨[196, 197], Qli⟩
theorem Qli_w : EntOK Tryz.prog TT Qli_e := ent_ok tabok (L := [Qlh_e]) ⟨Qlh_w, trivial⟩ (keep := []) (l := []) Tryz.func196 (by kernel_rfl) (sg := [.one (.sc)]) (by kernel_rfl) trivial fun av k h => by
  unfold Qli at h; split at h
  · apply un_all h; clear h; intro a1 a2 a3 a4 a5 a6 a7 a8 a9 a10 a11 a12 a13 a14 a15 a16 h; exact Eq.mpr (by kernel_rfl) h
  · exact h.elim
def Qlj : GM
 | [.agg u0, .ro (.cells u1)], k => un 2 (fun a0 a1 => un 16 (fun a2 a3 a4 a5 a6 a7 a8 a9 a10 a11 a12 a13 a14 a15 a16 a17 => 
  call Qli [.one a0, .fn 197 [.cells [a2, a3, a4, a5, a6, a7, a8, a9, a10, a11, a12, a13, a14, a15, a16, a17]]] fun o0 =>
  rt [.sc] [(atP o0 0)] k) u1) u0
 | _, _ => False
abbrev Qlj_e : Ent := ⟨[195], Qlj⟩
theorem Qlj_w : EntOK Tryz.prog TT Qlj_e := ent_ok tabok (L := [Qli_e]) ⟨Qli_w, trivial⟩ (keep := []) (l := []) Tryz.func195 (by kernel_rfl) (sg := [.one (.sc)]) (by kernel_rfl) trivial fun av k h => by
  unfold Qlj at h; split at h
  · apply un_all h; clear h; intro a0 a1 h; apply un_all h; clear h; intro a2 a3 a4 a5 a6 a7 a8 a9 a10 a11 a12 a13 a14 a15 a16 a17 h; exact Eq.mpr (by kernel_rfl) h
  · exact h.elim
def Qlk : GM
 | [.agg u0, .ro (.fn 195 [u1])], k => un 3 (fun a0 a1 a2 => un 16 (fun a3 a4 a5 a6 a7 a8 a9 a10 a11 a12 a13 a14 a15 a16 a17 a18 => 
  call Qlj [.agg [a0, a1], .ro (.cells [a3, a4, a5, a6, a7, a8, a9, a10, a11, a12, a13, a14, a15, a16, a17, a18])] fun o0 =>
  rt [.sc] [(atP o0 0)] k) u1) u0
 | _, _ => False
abbrev Qlk_e : Ent := ⟨[141, 195], Qlk⟩
theorem Qlk_w : EntOK Tryz.prog TT Qlk_e := ent_ok tabok (L := [Qlj_e]) ⟨Qlj_w, trivial⟩ (keep := []) (l := []) Tryz.func141 (by kernel_rfl) (sg := [.one (.sc)]) (by kernel_rfl) trivial fun av k h => by
  unfold Qlk at h; split at h
  · apply un_all h; clear h; intro a0 a1 a2 h; apply un_all h; clear h; intro a3 a4 a5 a6 a7 a8 a9 a10 a11 a12 a13 a14 a15 a16 a17 a18 h; exact Eq.mpr (by kernel_rfl) h
  · exact h.elim
def Qll_r0 (v : List PV) (K : List PV → Prop) (x0k : PV → Prop) (x1k : PV → PV → PV → PV → PV → PV → PV → PV → PV → PV → PV → PV → PV → PV → PV → PV → PV → PV → PV → PV → Prop) : Prop :=
 un 20 (fun v0 v1 v2 v3 v4 v5 v6 v7 v8 v9 v10 v11 v12 v13 v14 v15 v16 v17 v18 v19 =>
  binP .lss v19 v18 fun r0 =>
  iteP r0
   (elemP 3 v0 v19 fun c1 =>
   call Qlk [.agg [(atP c1 0), (atP c1 1), (atP c1 2)], .ro (.fn 195 [[v1, v2, v3, v4, v5, v6, v7, v8, v9, v10, v11, v12, v13, v14, v15, v16]])] fun o2 =>
   iteP (atP o2 0)
    (x0k v19)
    (binP .add v19 (I 1) fun r3 =>
    K [v0, v1, v2, v3, v4, v5, v6, v7, v8, v9, v10, v11, v12, v13, v14, v15, v16, v17, v18, r3]))
   (x1k v0 v1 v2 v3 v4 v5 v6 v7 v8 v9 v10 v11 v12 v13 v14 v15 v16 v17 v18 v19)) v
def Qll : GM
 | [.one a0, .fn 141 [.fn 195 [u0]]], k => un 16 (fun a1 a2 a3 a4 a5 a6 a7 a8 a9 a10 a11 a12 a13 a14 a15 a16 => 
  lenP a0 fun r0 =>
  lp (fun L w => Qll_r0 w L
   (fun q4 => rt [.sc] [q4] k)
   (fun q5 q6 q7 q8 q9 q10 q11 q12 q13 q14 q15 q16 q17 q18 q19 q20 q21 q22 q23 q24 => rt [.sc] [(I (-1))] k)) [a0, a1, a2, a3, a4, a5, a6, a7, a8, a9, a10, a11, a12, a13, a14, a15, a16, (I 0), r0, (I 0)]) u0
 | _, _ => False
abbrev Qll_e : Ent := ⟨[78, 141, 195], Qll⟩
def Qll_l : List LE := [⟨0, ⟨[(0, .one zB), (1, .one (.fn 141 [.ro (.fn 195 [[(.bool false), (.bool false), (.bool false), (.bool false), (.bool false), (.bool false), (.bool false), (.bool false), (.bool false), (.bool false), (.bool false), (.bool false), (.bool false), (.bool false), (.bool false), (.bool false)]])])), (4, .one zB), (7, .one zB), (8, .one zB)], [], [], 0, 19⟩, fun K k v => Qll_r0 v K (fun x0 => k .ret ⟨[(4, .one (.pv x0))], [], [], 1, 19⟩) (fun x0 x1 x2 x3 x4 x5 x6 x7 x8 x9 x10 x11 x12 x13 x14 x15 x16 x17 x18 x19 => k (.exit 0) ⟨[(0, .one (.pv x0)), (1, .one (.fn 141 [.ro (.fn 195 [[x1, x2, x3, x4, x5, x6, x7, x8, x9, x10, x11, x12, x13, x14, x15, x16]])])), (4, .one (.pv x17)), (7, .one (.pv x18)), (8, .one (.pv x19))], [], [], 0, 19⟩)⟩]
theorem Qll_s : LEsOK (orac [Qlk_e]) TT (kk [0, 1, 4, 7, 8]) (sumsOf Qll_l) Tryz.f78 Qll_l := ⟨fun v K k h => by
  apply un_all h; exact fun v0 v1 v2 v3 v4 v5 v6 v7 v8 v9 v10 v11 v12 v13 v14 v15 v16 v17 v18 v19 h => Eq.mpr (by kernel_rfl) h
  , trivial⟩
theorem Qll_w : EntOK Tryz.prog TT Qll_e := ent_ok tabok (L := [Qlk_e]) ⟨Qlk_w, trivial⟩ (keep := (kk [0, 1, 4, 7, 8])) (l := Qll_l) Tryz.func78 (by kernel_rfl) (sg := [.one (.sc)]) (by kernel_rfl) Qll_s fun av k h => by
  unfold Qll at h; split at h
  · apply un_all h; clear h; intro a1 a2 a3 a4 a5 a6 a7 a8 a9 a10 a11 a12 a13 a14 a15 a16 h; exact Eq.mpr (by kernel_rfl) h
  · exact h.elim
def Qlm : GM
 | [.one a0, .fn 141 [.fn 195 [u0]]], k => un 16 (fun a1 a2 a3 a4 a5 a6 a7 a8 a9 a10 a11 a12 a13 a14 a15 a16 => 
  call Qll [.one a0, .fn 141 [.fn 195 [[a1, a2, a3, a4, a5, a6, a7, a8, a9, a10, a11, a12, a13, a14, a15, a16]]]] fun o0 =>
  binP .geq (atP o0 0) (I 0) fun r1 =>
  rt [.sc] [r1] k) u0
 | _, _ => False
abbrev Qlm_e : Ent := ⟨[27, 141, 195], Qlm⟩
theorem Qlm_w : EntOK Tryz.prog TT Qlm_e := ent_ok tabok (L := [Qll_e]) ⟨Qll_w, trivial⟩ (keep := []) (l := []) Tryz.func27 (by kernel_rfl) (sg := [.one (.sc)]) (by kernel_rfl) trivial fun av k h => by
  unfold Qlm at h; split at h
  · apply un_all h; clear h; intro a1 a2 a3 a4 a5 a6 a7 a8 a9 a10 a11 a12 a13 a14 a15 a16 h; exact Eq.mpr (by kernel_rfl) h
  · exact h.elim
def Qln : GM
 | [.agg u0, .fn 195 [.cells u1]], k => un 8 (fun a0 a1 a2 a3 a4 a5 a6 a7 => un 16 (fun a8 a9 a10 a11 a12 a13 a14 a15 a16 a17 a18 a19 a20 a21 a22 a23 => 
  call Qlm [.one a3, .fn 141 [.fn 195 [[a8, a9, a10, a11, a12, a13, a14, a15, a16, a17, a18, a19, a20, a21, a22, a23]]]] fun o0 =>
  rt [.sc] [(atP o0 0)] k) u1) u0
 | _, _ => False
abbrev Qln_e : Ent := ⟨[81, 195], Qln⟩
theorem Qln_w : EntOK Tryz.prog TT Qln_e := ent_ok tabok (L := [Qlm_e]) ⟨Qlm_w, trivial⟩ (keep := []) (l := []) Tryz.func81 (by kernel_rfl) (sg := [.one (.sc)]) (by kernel_rfl) trivial fun av k h => by
  unfold Qln at h; split at h
  · apply un_all h; clear h; intro a0 a1 a2 a3 a4 a5 a6 a7 h; apply un_all h; clear h; intro a8 a9 a10 a11 a12 a13 a14 a15 a16 a17 a18 a19 a20 a21 a22 a23 h; exact Eq.mpr (by kernel_rfl) h
  · exact h.elim
end Go.Ev
