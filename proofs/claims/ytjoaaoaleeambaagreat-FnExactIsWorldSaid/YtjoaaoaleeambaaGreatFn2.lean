/- The tables of this load, and for each function the meaning that the evaluator gives it, with its proof, part 2. -/
import Derived.Test.YtjoaaoaleeambaaGreatFn1
set_option maxRecDepth 100000
set_option linter.unusedVariables false
namespace Go.Ev
open Go.Proofs
def laws_szZoneS_r0 (v : List PV) (K : List PV → Prop) (x0k : Prop) (x1k : PV → PV → PV → PV → Prop) : Prop :=
 un 4 (fun v0 v1 v2 v3 =>
  lenP v0 fun r0 =>
  binP .lss v3 r0 fun r1 =>
  iteP r1
   (elemP 2 v0 v3 fun c2 =>
   call laws_szZone [.agg [(atP c2 0), (atP c2 1)], .one v1] fun o3 =>
   binP .lss (atP o3 0) (I 0) fun r4 =>
   iteP r4
    (x0k)
    (binP .add v3 (I 1) fun r5 =>
    K [v0, (atP o3 0), v2, r5]))
   (x1k v0 v1 v2 v3)) v
def laws_szZoneS : GM
 | [.one a0, .one a1], k => 
  lenP a0 fun r0 =>
  binP .sub a1 r0 fun r1 =>
  binP .lss r1 (I 0) fun r2 =>
  iteP r2
   (rt [.sc] [(I (-1))] k)
   (lp (fun L w => laws_szZoneS_r0 w L
    (rt [.sc] [(I (-1))] k)
    (fun q6 q7 q8 q9 => rt [.sc] [q7] k)) [a0, r1, (I 0), (I 0)])
 | _, _ => False
abbrev laws_szZoneS_e : Ent := ⟨[79], laws_szZoneS⟩
def laws_szZoneS_l : List LE := [⟨0, ⟨[(0, .one (.pv (.bool false))), (1, .one (.pv (.bool false))), (4, .one (.pv (.bool false))), (5, .one (.pv (.bool false)))], [], [], 0, 27⟩, fun K k v => laws_szZoneS_r0 v K (k .ret ⟨[(4, .one (.pv (I (-1))))], [], [], 1, 27⟩) (fun x0 x1 x2 x3 => k (.exit 0) ⟨[(0, .one (.pv x0)), (1, .one (.pv x1)), (4, .one (.pv x2)), (5, .one (.pv x3))], [], [], 0, 27⟩)⟩]
theorem laws_szZoneS_s : LEsOK (orac [laws_szZone_e]) TT (kk [0, 1, 4, 5]) (sumsOf laws_szZoneS_l) Tryz.f79 laws_szZoneS_l := ⟨fun v K k h => by
  apply un_all h; exact fun v0 v1 v2 v3 h => Eq.mpr (by kernel_rfl) h
  , trivial⟩
theorem laws_szZoneS_w : EntOK Tryz.prog TT laws_szZoneS_e := ent_ok tabok (L := [laws_szZone_e]) ⟨laws_szZone_w, trivial⟩ (keep := (kk [0, 1, 4, 5])) (l := laws_szZoneS_l) Tryz.func79 (by kernel_rfl) (sg := [.one (.sc)]) (by kernel_rfl) laws_szZoneS_s fun av k h => by
  unfold laws_szZoneS at h; split at h
  · exact Eq.mpr (by kernel_rfl) h
  · exact h.elim

def laws_szSaidS_r0 (v : List PV) (K : List PV → Prop) (x0k : Prop) (x1k : PV → PV → PV → PV → Prop) : Prop :=
 un 4 (fun v0 v1 v2 v3 =>
  lenP v0 fun r0 =>
  binP .lss v3 r0 fun r1 =>
  iteP r1
   (elemP 3 v0 v3 fun c2 =>
   call laws_szSaid [.agg [(atP c2 0), (atP c2 1), (atP c2 2)], .one v1] fun o3 =>
   binP .lss (atP o3 0) (I 0) fun r4 =>
   iteP r4
    (x0k)
    (binP .add v3 (I 1) fun r5 =>
    K [v0, (atP o3 0), v2, r5]))
   (x1k v0 v1 v2 v3)) v
def laws_szSaidS : GM
 | [.one a0, .one a1], k => 
  lenP a0 fun r0 =>
  binP .sub a1 r0 fun r1 =>
  binP .lss r1 (I 0) fun r2 =>
  iteP r2
   (rt [.sc] [(I (-1))] k)
   (lp (fun L w => laws_szSaidS_r0 w L
    (rt [.sc] [(I (-1))] k)
    (fun q6 q7 q8 q9 => rt [.sc] [q7] k)) [a0, r1, (I 0), (I 0)])
 | _, _ => False
abbrev laws_szSaidS_e : Ent := ⟨[80], laws_szSaidS⟩
def laws_szSaidS_l : List LE := [⟨0, ⟨[(0, .one (.pv (.bool false))), (1, .one (.pv (.bool false))), (4, .one (.pv (.bool false))), (5, .one (.pv (.bool false)))], [], [], 0, 27⟩, fun K k v => laws_szSaidS_r0 v K (k .ret ⟨[(4, .one (.pv (I (-1))))], [], [], 1, 27⟩) (fun x0 x1 x2 x3 => k (.exit 0) ⟨[(0, .one (.pv x0)), (1, .one (.pv x1)), (4, .one (.pv x2)), (5, .one (.pv x3))], [], [], 0, 27⟩)⟩]
theorem laws_szSaidS_s : LEsOK (orac [laws_szSaid_e]) TT (kk [0, 1, 4, 5]) (sumsOf laws_szSaidS_l) Tryz.f80 laws_szSaidS_l := ⟨fun v K k h => by
  apply un_all h; exact fun v0 v1 v2 v3 h => Eq.mpr (by kernel_rfl) h
  , trivial⟩
theorem laws_szSaidS_w : EntOK Tryz.prog TT laws_szSaidS_e := ent_ok tabok (L := [laws_szSaid_e]) ⟨laws_szSaid_w, trivial⟩ (keep := (kk [0, 1, 4, 5])) (l := laws_szSaidS_l) Tryz.func80 (by kernel_rfl) (sg := [.one (.sc)]) (by kernel_rfl) laws_szSaidS_s fun av k h => by
  unfold laws_szSaidS at h; split at h
  · exact Eq.mpr (by kernel_rfl) h
  · exact h.elim

def laws_szServer : GM
 | [.agg u0, .one a2], k => un 2 (fun a0 a1 => 
  call laws_szZoneS [.one a0, .one a2] fun o0 =>
  binP .lss (atP o0 0) (I 0) fun r1 =>
  iteP r1
   (rt [.sc] [(I (-1))] k)
   (rt [.sc] [(atP o0 0)] k)) u0
 | _, _ => False
abbrev laws_szServer_e : Ent := ⟨[187], laws_szServer⟩
theorem laws_szServer_w : EntOK Tryz.prog TT laws_szServer_e := ent_ok tabok (L := [laws_szZoneS_e]) ⟨laws_szZoneS_w, trivial⟩ (keep := []) (l := []) Tryz.func187 (by kernel_rfl) (sg := [.one (.sc)]) (by kernel_rfl) trivial fun av k h => by
  unfold laws_szServer at h; split at h
  · apply un_all h; clear h; intro a0 a1 h; exact Eq.mpr (by kernel_rfl) h
  · exact h.elim

def laws_szServerS_r0 (v : List PV) (K : List PV → Prop) (x0k : Prop) (x1k : PV → PV → PV → PV → Prop) : Prop :=
 un 4 (fun v0 v1 v2 v3 =>
  lenP v0 fun r0 =>
  binP .lss v3 r0 fun r1 =>
  iteP r1
   (elemP 2 v0 v3 fun c2 =>
   call laws_szServer [.agg [(atP c2 0), (atP c2 1)], .one v1] fun o3 =>
   binP .lss (atP o3 0) (I 0) fun r4 =>
   iteP r4
    (x0k)
    (binP .add v3 (I 1) fun r5 =>
    K [v0, (atP o3 0), v2, r5]))
   (x1k v0 v1 v2 v3)) v
def laws_szServerS : GM
 | [.one a0, .one a1], k => 
  lenP a0 fun r0 =>
  binP .sub a1 r0 fun r1 =>
  binP .lss r1 (I 0) fun r2 =>
  iteP r2
   (rt [.sc] [(I (-1))] k)
   (lp (fun L w => laws_szServerS_r0 w L
    (rt [.sc] [(I (-1))] k)
    (fun q6 q7 q8 q9 => rt [.sc] [q7] k)) [a0, r1, (I 0), (I 0)])
 | _, _ => False
abbrev laws_szServerS_e : Ent := ⟨[81], laws_szServerS⟩
def laws_szServerS_l : List LE := [⟨0, ⟨[(0, .one (.pv (.bool false))), (1, .one (.pv (.bool false))), (4, .one (.pv (.bool false))), (5, .one (.pv (.bool false)))], [], [], 0, 27⟩, fun K k v => laws_szServerS_r0 v K (k .ret ⟨[(4, .one (.pv (I (-1))))], [], [], 1, 27⟩) (fun x0 x1 x2 x3 => k (.exit 0) ⟨[(0, .one (.pv x0)), (1, .one (.pv x1)), (4, .one (.pv x2)), (5, .one (.pv x3))], [], [], 0, 27⟩)⟩]
theorem laws_szServerS_s : LEsOK (orac [laws_szServer_e]) TT (kk [0, 1, 4, 5]) (sumsOf laws_szServerS_l) Tryz.f81 laws_szServerS_l := ⟨fun v K k h => by
  apply un_all h; exact fun v0 v1 v2 v3 h => Eq.mpr (by kernel_rfl) h
  , trivial⟩
theorem laws_szServerS_w : EntOK Tryz.prog TT laws_szServerS_e := ent_ok tabok (L := [laws_szServer_e]) ⟨laws_szServer_w, trivial⟩ (keep := (kk [0, 1, 4, 5])) (l := laws_szServerS_l) Tryz.func81 (by kernel_rfl) (sg := [.one (.sc)]) (by kernel_rfl) laws_szServerS_s fun av k h => by
  unfold laws_szServerS at h; split at h
  · exact Eq.mpr (by kernel_rfl) h
  · exact h.elim

def laws_szSignedSS_r0 (v : List PV) (K : List PV → Prop) (x0k : Prop) (x1k : PV → PV → PV → PV → Prop) : Prop :=
 un 4 (fun v0 v1 v2 v3 =>
  lenP v0 fun r0 =>
  binP .lss v3 r0 fun r1 =>
  iteP r1
   (elemP 1 v0 v3 fun c2 =>
   call laws_szSignedS [.one (atP c2 0), .one v1] fun o3 =>
   binP .lss (atP o3 0) (I 0) fun r4 =>
   iteP r4
    (x0k)
    (binP .add v3 (I 1) fun r5 =>
    K [v0, (atP o3 0), v2, r5]))
   (x1k v0 v1 v2 v3)) v
def laws_szSignedSS : GM
 | [.one a0, .one a1], k => 
  lenP a0 fun r0 =>
  binP .sub a1 r0 fun r1 =>
  binP .lss r1 (I 0) fun r2 =>
  iteP r2
   (rt [.sc] [(I (-1))] k)
   (lp (fun L w => laws_szSignedSS_r0 w L
    (rt [.sc] [(I (-1))] k)
    (fun q6 q7 q8 q9 => rt [.sc] [q7] k)) [a0, r1, (I 0), (I 0)])
 | _, _ => False
abbrev laws_szSignedSS_e : Ent := ⟨[188], laws_szSignedSS⟩
def laws_szSignedSS_l : List LE := [⟨0, ⟨[(0, .one (.pv (.bool false))), (1, .one (.pv (.bool false))), (4, .one (.pv (.bool false))), (5, .one (.pv (.bool false)))], [], [], 0, 27⟩, fun K k v => laws_szSignedSS_r0 v K (k .ret ⟨[(4, .one (.pv (I (-1))))], [], [], 1, 27⟩) (fun x0 x1 x2 x3 => k (.exit 0) ⟨[(0, .one (.pv x0)), (1, .one (.pv x1)), (4, .one (.pv x2)), (5, .one (.pv x3))], [], [], 0, 27⟩)⟩]
theorem laws_szSignedSS_s : LEsOK (orac [laws_szSignedS_e]) TT (kk [0, 1, 4, 5]) (sumsOf laws_szSignedSS_l) Tryz.f188 laws_szSignedSS_l := ⟨fun v K k h => by
  apply un_all h; exact fun v0 v1 v2 v3 h => Eq.mpr (by kernel_rfl) h
  , trivial⟩
theorem laws_szSignedSS_w : EntOK Tryz.prog TT laws_szSignedSS_e := ent_ok tabok (L := [laws_szSignedS_e]) ⟨laws_szSignedS_w, trivial⟩ (keep := (kk [0, 1, 4, 5])) (l := laws_szSignedSS_l) Tryz.func188 (by kernel_rfl) (sg := [.one (.sc)]) (by kernel_rfl) laws_szSignedSS_s fun av k h => by
  unfold laws_szSignedSS at h; split at h
  · exact Eq.mpr (by kernel_rfl) h
  · exact h.elim

def laws_szFork : GM
 | [.agg u0, .one a51], k => un 51 (fun a0 a1 a2 a3 a4 a5 a6 a7 a8 a9 a10 a11 a12 a13 a14 a15 a16 a17 a18 a19 a20 a21 a22 a23 a24 a25 a26 a27 a28 a29 a30 a31 a32 a33 a34 a35 a36 a37 a38 a39 a40 a41 a42 a43 a44 a45 a46 a47 a48 a49 a50 => 
  call laws_szSigned [.agg [a0, a1, a2, a3, a4, a5, a6, a7, a8, a9, a10, a11, a12, a13, a14, a15, a16], .one a51] fun o0 =>
  binP .lss (atP o0 0) (I 0) fun r1 =>
  iteP r1
   (rt [.sc] [(I (-1))] k)
   (call laws_szSigned [.agg [a17, a18, a19, a20, a21, a22, a23, a24, a25, a26, a27, a28, a29, a30, a31, a32, a33], .one (atP o0 0)] fun o2 =>
   binP .lss (atP o2 0) (I 0) fun r3 =>
   iteP r3
    (rt [.sc] [(I (-1))] k)
    (call laws_szSigned [.agg [a34, a35, a36, a37, a38, a39, a40, a41, a42, a43, a44, a45, a46, a47, a48, a49, a50], .one (atP o2 0)] fun o4 =>
    binP .lss (atP o4 0) (I 0) fun r5 =>
    iteP r5
     (rt [.sc] [(I (-1))] k)
     (rt [.sc] [(atP o4 0)] k)))) u0
 | _, _ => False
abbrev laws_szFork_e : Ent := ⟨[275], laws_szFork⟩
theorem laws_szFork_w : EntOK Tryz.prog TT laws_szFork_e := ent_ok tabok (L := [laws_szSigned_e]) ⟨laws_szSigned_w, trivial⟩ (keep := []) (l := []) Tryz.func275 (by kernel_rfl) (sg := [.one (.sc)]) (by kernel_rfl) trivial fun av k h => by
  unfold laws_szFork at h; split at h
  · apply un_all h; clear h; intro a0 a1 a2 a3 a4 a5 a6 a7 a8 a9 a10 a11 a12 a13 a14 a15 a16 a17 a18 a19 a20 a21 a22 a23 a24 a25 a26 a27 a28 a29 a30 a31 a32 a33 a34 a35 a36 a37 a38 a39 a40 a41 a42 a43 a44 a45 a46 a47 a48 a49 a50 h; exact Eq.mpr (by kernel_rfl) h
  · exact h.elim

def laws_szForkS_r0 (v : List PV) (K : List PV → Prop) (x0k : Prop) (x1k : PV → PV → PV → PV → Prop) : Prop :=
 un 4 (fun v0 v1 v2 v3 =>
  lenP v0 fun r0 =>
  binP .lss v3 r0 fun r1 =>
  iteP r1
   (elemP 51 v0 v3 fun c2 =>
   call laws_szFork [.agg [(atP c2 0), (atP c2 1), (atP c2 2), (atP c2 3), (atP c2 4), (atP c2 5), (atP c2 6), (atP c2 7), (atP c2 8), (atP c2 9), (atP c2 10), (atP c2 11), (atP c2 12), (atP c2 13), (atP c2 14), (atP c2 15), (atP c2 16), (atP c2 17), (atP c2 18), (atP c2 19), (atP c2 20), (atP c2 21), (atP c2 22), (atP c2 23), (atP c2 24), (atP c2 25), (atP c2 26), (atP c2 27), (atP c2 28), (atP c2 29), (atP c2 30), (atP c2 31), (atP c2 32), (atP c2 33), (atP c2 34), (atP c2 35), (atP c2 36), (atP c2 37), (atP c2 38), (atP c2 39), (atP c2 40), (atP c2 41), (atP c2 42), (atP c2 43), (atP c2 44), (atP c2 45), (atP c2 46), (atP c2 47), (atP c2 48), (atP c2 49), (atP c2 50)], .one v1] fun o3 =>
   binP .lss (atP o3 0) (I 0) fun r4 =>
   iteP r4
    (x0k)
    (binP .add v3 (I 1) fun r5 =>
    K [v0, (atP o3 0), v2, r5]))
   (x1k v0 v1 v2 v3)) v
def laws_szForkS : GM
 | [.one a0, .one a1], k => 
  lenP a0 fun r0 =>
  binP .sub a1 r0 fun r1 =>
  binP .lss r1 (I 0) fun r2 =>
  iteP r2
   (rt [.sc] [(I (-1))] k)
   (lp (fun L w => laws_szForkS_r0 w L
    (rt [.sc] [(I (-1))] k)
    (fun q6 q7 q8 q9 => rt [.sc] [q7] k)) [a0, r1, (I 0), (I 0)])
 | _, _ => False
abbrev laws_szForkS_e : Ent := ⟨[189], laws_szForkS⟩
def laws_szForkS_l : List LE := [⟨0, ⟨[(0, .one (.pv (.bool false))), (1, .one (.pv (.bool false))), (4, .one (.pv (.bool false))), (5, .one (.pv (.bool false)))], [], [], 0, 27⟩, fun K k v => laws_szForkS_r0 v K (k .ret ⟨[(4, .one (.pv (I (-1))))], [], [], 1, 27⟩) (fun x0 x1 x2 x3 => k (.exit 0) ⟨[(0, .one (.pv x0)), (1, .one (.pv x1)), (4, .one (.pv x2)), (5, .one (.pv x3))], [], [], 0, 27⟩)⟩]
theorem laws_szForkS_s : LEsOK (orac [laws_szFork_e]) TT (kk [0, 1, 4, 5]) (sumsOf laws_szForkS_l) Tryz.f189 laws_szForkS_l := ⟨fun v K k h => by
  apply un_all h; exact fun v0 v1 v2 v3 h => Eq.mpr (by kernel_rfl) h
  , trivial⟩
theorem laws_szForkS_w : EntOK Tryz.prog TT laws_szForkS_e := ent_ok tabok (L := [laws_szFork_e]) ⟨laws_szFork_w, trivial⟩ (keep := (kk [0, 1, 4, 5])) (l := laws_szForkS_l) Tryz.func189 (by kernel_rfl) (sg := [.one (.sc)]) (by kernel_rfl) laws_szForkS_s fun av k h => by
  unfold laws_szForkS at h; split at h
  · exact Eq.mpr (by kernel_rfl) h
  · exact h.elim

def laws_szKnown : GM
 | [.agg u0, .one a2], k => un 2 (fun a0 a1 => 
  call laws_szSignedSS [.one a0, .one a2] fun o0 =>
  binP .lss (atP o0 0) (I 0) fun r1 =>
  iteP r1
   (rt [.sc] [(I (-1))] k)
   (call laws_szForkS [.one a1, .one (atP o0 0)] fun o2 =>
   binP .lss (atP o2 0) (I 0) fun r3 =>
   iteP r3
    (rt [.sc] [(I (-1))] k)
    (rt [.sc] [(atP o2 0)] k))) u0
 | _, _ => False
abbrev laws_szKnown_e : Ent := ⟨[82], laws_szKnown⟩
theorem laws_szKnown_w : EntOK Tryz.prog TT laws_szKnown_e := ent_ok tabok (L := [laws_szSignedSS_e, laws_szForkS_e]) ⟨laws_szSignedSS_w, laws_szForkS_w, trivial⟩ (keep := []) (l := []) Tryz.func82 (by kernel_rfl) (sg := [.one (.sc)]) (by kernel_rfl) trivial fun av k h => by
  unfold laws_szKnown at h; split at h
  · apply un_all h; clear h; intro a0 a1 h; exact Eq.mpr (by kernel_rfl) h
  · exact h.elim

def laws_szCache : GM
 | [.agg u0, .one a1], k => un 1 (fun a0 => 
  call laws_szStoredS [.one a0, .one a1] fun o0 =>
  binP .lss (atP o0 0) (I 0) fun r1 =>
  iteP r1
   (rt [.sc] [(I (-1))] k)
   (rt [.sc] [(atP o0 0)] k)) u0
 | _, _ => False
abbrev laws_szCache_e : Ent := ⟨[83], laws_szCache⟩
theorem laws_szCache_w : EntOK Tryz.prog TT laws_szCache_e := ent_ok tabok (L := [laws_szStoredS_e]) ⟨laws_szStoredS_w, trivial⟩ (keep := []) (l := []) Tryz.func83 (by kernel_rfl) (sg := [.one (.sc)]) (by kernel_rfl) trivial fun av k h => by
  unfold laws_szCache at h; split at h
  · apply un_all h; clear h; intro a0 h; exact Eq.mpr (by kernel_rfl) h
  · exact h.elim

def laws_szWorld : GM
 | [.agg u0, .one a8], k => un 8 (fun a0 a1 a2 a3 a4 a5 a6 a7 => 
  call laws_szActorS [.one a1, .one a8] fun o0 =>
  binP .lss (atP o0 0) (I 0) fun r1 =>
  iteP r1
   (rt [.sc] [(I (-1))] k)
   (call laws_szZoneS [.one a2, .one (atP o0 0)] fun o2 =>
   binP .lss (atP o2 0) (I 0) fun r3 =>
   iteP r3
    (rt [.sc] [(I (-1))] k)
    (call laws_szSaidS [.one a3, .one (atP o2 0)] fun o4 =>
    binP .lss (atP o4 0) (I 0) fun r5 =>
    iteP r5
     (rt [.sc] [(I (-1))] k)
     (call laws_szServerS [.one a4, .one (atP o4 0)] fun o6 =>
     binP .lss (atP o6 0) (I 0) fun r7 =>
     iteP r7
      (rt [.sc] [(I (-1))] k)
      (call laws_szKnown [.agg [a5, a6], .one (atP o6 0)] fun o8 =>
      binP .lss (atP o8 0) (I 0) fun r9 =>
      iteP r9
       (rt [.sc] [(I (-1))] k)
       (call laws_szCache [.agg [a7], .one (atP o8 0)] fun o10 =>
       binP .lss (atP o10 0) (I 0) fun r11 =>
       iteP r11
        (rt [.sc] [(I (-1))] k)
        (rt [.sc] [(atP o10 0)] k))))))) u0
 | _, _ => False
abbrev laws_szWorld_e : Ent := ⟨[25], laws_szWorld⟩
theorem laws_szWorld_w : EntOK Tryz.prog TT laws_szWorld_e := ent_ok tabok (L := [laws_szActorS_e, laws_szZoneS_e, laws_szSaidS_e, laws_szServerS_e, laws_szKnown_e, laws_szCache_e]) ⟨laws_szActorS_w, laws_szZoneS_w, laws_szSaidS_w, laws_szServerS_w, laws_szKnown_w, laws_szCache_w, trivial⟩ (keep := []) (l := []) Tryz.func25 (by kernel_rfl) (sg := [.one (.sc)]) (by kernel_rfl) trivial fun av k h => by
  unfold laws_szWorld at h; split at h
  · apply un_all h; clear h; intro a0 a1 a2 a3 a4 a5 a6 a7 h; exact Eq.mpr (by kernel_rfl) h
  · exact h.elim

def laws_toActor : GM
 | [.agg u0], k => un 1 (fun a0 => 
  call laws_toIntS [.one a0] fun o0 =>
  rt [.own true 3 1] [(atP o0 0)] k) u0
 | _, _ => False
abbrev laws_toActor_e : Ent := ⟨[193], laws_toActor⟩
theorem laws_toActor_w : EntOK Tryz.prog TT laws_toActor_e := ent_ok tabok (L := [laws_toIntS_e]) ⟨laws_toIntS_w, trivial⟩ (keep := []) (l := []) Tryz.func193 (by kernel_rfl) (sg := [.agg [.own true 3 1]]) (by kernel_rfl) trivial fun av k h => by
  unfold laws_toActor at h; split at h
  · apply un_all h; clear h; intro a0 h; exact Eq.mpr (by kernel_rfl) h
  · exact h.elim

def laws_toActorS_r0 (v : List PV) (K : List PV → Prop) (x0k : PV → PV → PV → PV → Prop) : Prop :=
 un 4 (fun v0 v1 v2 v3 =>
  lenP v0 fun r0 =>
  binP .lss v1 r0 fun r1 =>
  iteP r1
   (elemP 1 v0 v1 fun c2 =>
   call laws_toActor [.agg [(atP c2 0)]] fun o3 =>
   boundP 1 v3 v1 fun n4 =>
   (flatCond [.nil 3 1] [.own 2]) ∧ setP v3 n4 0 [(atP o3 0)] fun r5 =>
   binP .add v1 (I 1) fun r6 =>
   K [v0, r6, v2, r5])
   (x0k v0 v1 v2 v3)) v
def laws_toActorS : GM
 | [.one a0], k => 
  lenP a0 fun r0 =>
  (r0 = r0) ∧ (1 = 1) ∧ makeP 1 r0 [(.list 1 [])] fun r1 =>
  lp (fun L w => laws_toActorS_r0 w L
   (fun q7 q8 q9 q10 => rt [.own true 223 1] [q10] k)) [a0, (I 0), (.list 1 []), r1]
 | _, _ => False
abbrev laws_toActorS_e : Ent := ⟨[86], laws_toActorS⟩
def laws_toActorS_l : List LE := [⟨0, ⟨[(0, .one (.pv (.bool false))), (2, .one (.own 1)), (3, .one (.own 0)), (4, .one (.pv (.bool false)))], [], [(1, ⟨.deep, 223, 1, (.bool false)⟩), (0, ⟨.deep, 223, 1, (.bool false)⟩)], 2, 23⟩, fun K k v => laws_toActorS_r0 v K (fun x0 x1 x2 x3 => k (.exit 0) ⟨[(0, .one (.pv x0)), (2, .one (.own 1)), (3, .one (.own 0)), (4, .one (.pv x1))], [], [(1, ⟨.deep, 223, 1, x2⟩), (0, ⟨.deep, 223, 1, x3⟩)], 2, 23⟩)⟩]
theorem laws_toActorS_s : LEsOK (orac [laws_toActor_e]) TT (kk [0, 2, 3, 4]) (sumsOf laws_toActorS_l) Tryz.f86 laws_toActorS_l := ⟨fun v K k h => by
  apply un_all h; exact fun v0 v1 v2 v3 h => Eq.mpr (by kernel_rfl) h
  , trivial⟩
theorem laws_toActorS_w : EntOK Tryz.prog TT laws_toActorS_e := ent_ok tabok (L := [laws_toActor_e]) ⟨laws_toActor_w, trivial⟩ (keep := (kk [0, 2, 3, 4])) (l := laws_toActorS_l) Tryz.func86 (by kernel_rfl) (sg := [.one (.own true 223 1)]) (by kernel_rfl) laws_toActorS_s fun av k h => by
  unfold laws_toActorS at h; split at h
  · exact Eq.mpr (by kernel_rfl) h
  · exact h.elim

def laws_toZoneS_r0 (v : List PV) (K : List PV → Prop) (x0k : PV → PV → PV → PV → Prop) : Prop :=
 un 4 (fun v0 v1 v2 v3 =>
  lenP v0 fun r0 =>
  binP .lss v1 r0 fun r1 =>
  iteP r1
   (elemP 2 v0 v1 fun c2 =>
   call laws_toZone [.agg [(atP c2 0), (atP c2 1)]] fun o3 =>
   boundP 2 v3 v1 fun n4 =>
   (flatCond [.nil 155 17, .nil 101 4] [.own 2, .own 3]) ∧ setP v3 n4 0 [(atP o3 0), (atP o3 1)] fun r5 =>
   binP .add v1 (I 1) fun r6 =>
   K [v0, r6, v2, r5])
   (x0k v0 v1 v2 v3)) v
def laws_toZoneS : GM
 | [.one a0], k => 
  lenP a0 fun r0 =>
  (r0 = r0) ∧ (2 = 2) ∧ makeP 2 r0 [(.list 17 []), (.list 4 [])] fun r1 =>
  lp (fun L w => laws_toZoneS_r0 w L
   (fun q7 q8 q9 q10 => rt [.own true 46 2] [q10] k)) [a0, (I 0), (.list 2 []), r1]
 | _, _ => False
abbrev laws_toZoneS_e : Ent := ⟨[87], laws_toZoneS⟩
def laws_toZoneS_l : List LE := [⟨0, ⟨[(0, .one (.pv (.bool false))), (2, .one (.own 1)), (3, .one (.own 0)), (4, .one (.pv (.bool false)))], [], [(1, ⟨.deep, 46, 2, (.bool false)⟩), (0, ⟨.deep, 46, 2, (.bool false)⟩)], 2, 23⟩, fun K k v => laws_toZoneS_r0 v K (fun x0 x1 x2 x3 => k (.exit 0) ⟨[(0, .one (.pv x0)), (2, .one (.own 1)), (3, .one (.own 0)), (4, .one (.pv x1))], [], [(1, ⟨.deep, 46, 2, x2⟩), (0, ⟨.deep, 46, 2, x3⟩)], 2, 23⟩)⟩]
theorem laws_toZoneS_s : LEsOK (orac [laws_toZone_e]) TT (kk [0, 2, 3, 4]) (sumsOf laws_toZoneS_l) Tryz.f87 laws_toZoneS_l := ⟨fun v K k h => by
  apply un_all h; exact fun v0 v1 v2 v3 h => Eq.mpr (by kernel_rfl) h
  , trivial⟩
theorem laws_toZoneS_w : EntOK Tryz.prog TT laws_toZoneS_e := ent_ok tabok (L := [laws_toZone_e]) ⟨laws_toZone_w, trivial⟩ (keep := (kk [0, 2, 3, 4])) (l := laws_toZoneS_l) Tryz.func87 (by kernel_rfl) (sg := [.one (.own true 46 2)]) (by kernel_rfl) laws_toZoneS_s fun av k h => by
  unfold laws_toZoneS at h; split at h
  · exact Eq.mpr (by kernel_rfl) h
  · exact h.elim

def laws_toSaidS_r0 (v : List PV) (K : List PV → Prop) (x0k : PV → PV → PV → PV → Prop) : Prop :=
 un 4 (fun v0 v1 v2 v3 =>
  lenP v0 fun r0 =>
  binP .lss v1 r0 fun r1 =>
  iteP r1
   (elemP 3 v0 v1 fun c2 =>
   call laws_toSaid [.agg [(atP c2 0), (atP c2 1), (atP c2 2)]] fun o3 =>
   boundP 3 v3 v1 fun n4 =>
   (flatCond [.nil 155 17, .nil 101 4, .nil 3 1] [.own 2, .own 3, .own 4]) ∧ setP v3 n4 0 [(atP o3 0), (atP o3 1), (atP o3 2)] fun r5 =>
   binP .add v1 (I 1) fun r6 =>
   K [v0, r6, v2, r5])
   (x0k v0 v1 v2 v3)) v
def laws_toSaidS : GM
 | [.one a0], k => 
  lenP a0 fun r0 =>
  (r0 = r0) ∧ (3 = 3) ∧ makeP 3 r0 [(.list 17 []), (.list 4 []), (.list 1 [])] fun r1 =>
  lp (fun L w => laws_toSaidS_r0 w L
   (fun q7 q8 q9 q10 => rt [.own true 48 3] [q10] k)) [a0, (I 0), (.list 3 []), r1]
 | _, _ => False
abbrev laws_toSaidS_e : Ent := ⟨[88], laws_toSaidS⟩
def laws_toSaidS_l : List LE := [⟨0, ⟨[(0, .one (.pv (.bool false))), (2, .one (.own 1)), (3, .one (.own 0)), (4, .one (.pv (.bool false)))], [], [(1, ⟨.deep, 48, 3, (.bool false)⟩), (0, ⟨.deep, 48, 3, (.bool false)⟩)], 2, 23⟩, fun K k v => laws_toSaidS_r0 v K (fun x0 x1 x2 x3 => k (.exit 0) ⟨[(0, .one (.pv x0)), (2, .one (.own 1)), (3, .one (.own 0)), (4, .one (.pv x1))], [], [(1, ⟨.deep, 48, 3, x2⟩), (0, ⟨.deep, 48, 3, x3⟩)], 2, 23⟩)⟩]
theorem laws_toSaidS_s : LEsOK (orac [laws_toSaid_e]) TT (kk [0, 2, 3, 4]) (sumsOf laws_toSaidS_l) Tryz.f88 laws_toSaidS_l := ⟨fun v K k h => by
  apply un_all h; exact fun v0 v1 v2 v3 h => Eq.mpr (by kernel_rfl) h
  , trivial⟩
theorem laws_toSaidS_w : EntOK Tryz.prog TT laws_toSaidS_e := ent_ok tabok (L := [laws_toSaid_e]) ⟨laws_toSaid_w, trivial⟩ (keep := (kk [0, 2, 3, 4])) (l := laws_toSaidS_l) Tryz.func88 (by kernel_rfl) (sg := [.one (.own true 48 3)]) (by kernel_rfl) laws_toSaidS_s fun av k h => by
  unfold laws_toSaidS at h; split at h
  · exact Eq.mpr (by kernel_rfl) h
  · exact h.elim

def laws_toServer : GM
 | [.agg u0], k => un 2 (fun a0 a1 => 
  call laws_toZoneS [.one a0] fun o0 =>
  rt [.own true 46 2, .sc] [(atP o0 0), a1] k) u0
 | _, _ => False
abbrev laws_toServer_e : Ent := ⟨[194], laws_toServer⟩
theorem laws_toServer_w : EntOK Tryz.prog TT laws_toServer_e := ent_ok tabok (L := [laws_toZoneS_e]) ⟨laws_toZoneS_w, trivial⟩ (keep := []) (l := []) Tryz.func194 (by kernel_rfl) (sg := [.agg [.own true 46 2, .sc]]) (by kernel_rfl) trivial fun av k h => by
  unfold laws_toServer at h; split at h
  · apply un_all h; clear h; intro a0 a1 h; exact Eq.mpr (by kernel_rfl) h
  · exact h.elim

def laws_toServerS_r0 (v : List PV) (K : List PV → Prop) (x0k : PV → PV → PV → PV → Prop) : Prop :=
 un 4 (fun v0 v1 v2 v3 =>
  lenP v0 fun r0 =>
  binP .lss v1 r0 fun r1 =>
  iteP r1
   (elemP 2 v0 v1 fun c2 =>
   call laws_toServer [.agg [(atP c2 0), (atP c2 1)]] fun o3 =>
   boundP 2 v3 v1 fun n4 =>
   (flatCond [.nil 46 2, .pv (I 0)] [.own 2, .pv (atP o3 1)]) ∧ setP v3 n4 0 [(atP o3 0), (atP o3 1)] fun r5 =>
   binP .add v1 (I 1) fun r6 =>
   K [v0, r6, v2, r5])
   (x0k v0 v1 v2 v3)) v
def laws_toServerS : GM
 | [.one a0], k => 
  lenP a0 fun r0 =>
  (r0 = r0) ∧ (2 = 2) ∧ makeP 2 r0 [(.list 2 []), (I 0)] fun r1 =>
  lp (fun L w => laws_toServerS_r0 w L
   (fun q7 q8 q9 q10 => rt [.own true 174 2] [q10] k)) [a0, (I 0), (.list 2 []), r1]
 | _, _ => False
abbrev laws_toServerS_e : Ent := ⟨[89], laws_toServerS⟩
def laws_toServerS_l : List LE := [⟨0, ⟨[(0, .one (.pv (.bool false))), (2, .one (.own 1)), (3, .one (.own 0)), (4, .one (.pv (.bool false)))], [], [(1, ⟨.deep, 174, 2, (.bool false)⟩), (0, ⟨.deep, 174, 2, (.bool false)⟩)], 2, 23⟩, fun K k v => laws_toServerS_r0 v K (fun x0 x1 x2 x3 => k (.exit 0) ⟨[(0, .one (.pv x0)), (2, .one (.own 1)), (3, .one (.own 0)), (4, .one (.pv x1))], [], [(1, ⟨.deep, 174, 2, x2⟩), (0, ⟨.deep, 174, 2, x3⟩)], 2, 23⟩)⟩]
theorem laws_toServerS_s : LEsOK (orac [laws_toServer_e]) TT (kk [0, 2, 3, 4]) (sumsOf laws_toServerS_l) Tryz.f89 laws_toServerS_l := ⟨fun v K k h => by
  apply un_all h; exact fun v0 v1 v2 v3 h => Eq.mpr (by kernel_rfl) h
  , trivial⟩
theorem laws_toServerS_w : EntOK Tryz.prog TT laws_toServerS_e := ent_ok tabok (L := [laws_toServer_e]) ⟨laws_toServer_w, trivial⟩ (keep := (kk [0, 2, 3, 4])) (l := laws_toServerS_l) Tryz.func89 (by kernel_rfl) (sg := [.one (.own true 174 2)]) (by kernel_rfl) laws_toServerS_s fun av k h => by
  unfold laws_toServerS at h; split at h
  · exact Eq.mpr (by kernel_rfl) h
  · exact h.elim

def laws_toSignedSS_r0 (v : List PV) (K : List PV → Prop) (x0k : PV → PV → PV → PV → Prop) : Prop :=
 un 4 (fun v0 v1 v2 v3 =>
  lenP v0 fun r0 =>
  binP .lss v1 r0 fun r1 =>
  iteP r1
   (elemP 1 v0 v1 fun c2 =>
   call laws_toSignedS [.one (atP c2 0)] fun o3 =>
   boundP 1 v3 v1 fun n4 =>
   (flatCond [.nil 155 17] [.own 2]) ∧ setP v3 n4 0 [(atP o3 0)] fun r5 =>
   binP .add v1 (I 1) fun r6 =>
   K [v0, r6, v2, r5])
   (x0k v0 v1 v2 v3)) v
def laws_toSignedSS : GM
 | [.one a0], k => 
  lenP a0 fun r0 =>
  (r0 = r0) ∧ (1 = 1) ∧ makeP 1 r0 [(.list 17 [])] fun r1 =>
  lp (fun L w => laws_toSignedSS_r0 w L
   (fun q7 q8 q9 q10 => rt [.own true 43 1] [q10] k)) [a0, (I 0), (.list 1 []), r1]
 | _, _ => False
abbrev laws_toSignedSS_e : Ent := ⟨[195], laws_toSignedSS⟩
def laws_toSignedSS_l : List LE := [⟨0, ⟨[(0, .one (.pv (.bool false))), (2, .one (.own 1)), (3, .one (.own 0)), (4, .one (.pv (.bool false)))], [], [(1, ⟨.deep, 43, 1, (.bool false)⟩), (0, ⟨.deep, 43, 1, (.bool false)⟩)], 2, 23⟩, fun K k v => laws_toSignedSS_r0 v K (fun x0 x1 x2 x3 => k (.exit 0) ⟨[(0, .one (.pv x0)), (2, .one (.own 1)), (3, .one (.own 0)), (4, .one (.pv x1))], [], [(1, ⟨.deep, 43, 1, x2⟩), (0, ⟨.deep, 43, 1, x3⟩)], 2, 23⟩)⟩]
theorem laws_toSignedSS_s : LEsOK (orac [laws_toSignedS_e]) TT (kk [0, 2, 3, 4]) (sumsOf laws_toSignedSS_l) Tryz.f195 laws_toSignedSS_l := ⟨fun v K k h => by
  apply un_all h; exact fun v0 v1 v2 v3 h => Eq.mpr (by kernel_rfl) h
  , trivial⟩
theorem laws_toSignedSS_w : EntOK Tryz.prog TT laws_toSignedSS_e := ent_ok tabok (L := [laws_toSignedS_e]) ⟨laws_toSignedS_w, trivial⟩ (keep := (kk [0, 2, 3, 4])) (l := laws_toSignedSS_l) Tryz.func195 (by kernel_rfl) (sg := [.one (.own true 43 1)]) (by kernel_rfl) laws_toSignedSS_s fun av k h => by
  unfold laws_toSignedSS at h; split at h
  · exact Eq.mpr (by kernel_rfl) h
  · exact h.elim

def laws_toFork : GM
 | [.agg u0], k => un 51 (fun a0 a1 a2 a3 a4 a5 a6 a7 a8 a9 a10 a11 a12 a13 a14 a15 a16 a17 a18 a19 a20 a21 a22 a23 a24 a25 a26 a27 a28 a29 a30 a31 a32 a33 a34 a35 a36 a37 a38 a39 a40 a41 a42 a43 a44 a45 a46 a47 a48 a49 a50 => 
  call laws_toSigned [.agg [a0, a1, a2, a3, a4, a5, a6, a7, a8, a9, a10, a11, a12, a13, a14, a15, a16]] fun o0 =>
  call laws_toSigned [.agg [a17, a18, a19, a20, a21, a22, a23, a24, a25, a26, a27, a28, a29, a30, a31, a32, a33]] fun o1 =>
  call laws_toSigned [.agg [a34, a35, a36, a37, a38, a39, a40, a41, a42, a43, a44, a45, a46, a47, a48, a49, a50]] fun o2 =>
  rt [.sc, .sc, .sc, .sc, .sc, .sc, .sc, .sc, .own true 3 1, .sc, .own true 3 1, .sc, .sc, .own true 3 1, .sc, .sc, .own true 251 2, .sc, .sc, .sc, .sc, .sc, .sc, .sc, .sc, .own true 3 1, .sc, .own true 3 1, .sc, .sc, .own true 3 1, .sc, .sc, .own true 251 2, .sc, .sc, .sc, .sc, .sc, .sc, .sc, .sc, .own true 3 1, .sc, .own true 3 1, .sc, .sc, .own true 3 1, .sc, .sc, .own true 251 2] [(atP o0 0), (atP o0 1), (atP o0 2), (atP o0 3), (atP o0 4), (atP o0 5), (atP o0 6), (atP o0 7), (atP o0 8), (atP o0 9), (atP o0 10), (atP o0 11), (atP o0 12), (atP o0 13), (atP o0 14), (atP o0 15), (atP o0 16), (atP o1 0), (atP o1 1), (atP o1 2), (atP o1 3), (atP o1 4), (atP o1 5), (atP o1 6), (atP o1 7), (atP o1 8), (atP o1 9), (atP o1 10), (atP o1 11), (atP o1 12), (atP o1 13), (atP o1 14), (atP o1 15), (atP o1 16), (atP o2 0), (atP o2 1), (atP o2 2), (atP o2 3), (atP o2 4), (atP o2 5), (atP o2 6), (atP o2 7), (atP o2 8), (atP o2 9), (atP o2 10), (atP o2 11), (atP o2 12), (atP o2 13), (atP o2 14), (atP o2 15), (atP o2 16)] k) u0
 | _, _ => False
abbrev laws_toFork_e : Ent := ⟨[277], laws_toFork⟩
theorem laws_toFork_w : EntOK Tryz.prog TT laws_toFork_e := ent_ok tabok (L := [laws_toSigned_e]) ⟨laws_toSigned_w, trivial⟩ (keep := []) (l := []) Tryz.func277 (by kernel_rfl) (sg := [.agg [.sc, .sc, .sc, .sc, .sc, .sc, .sc, .sc, .own true 3 1, .sc, .own true 3 1, .sc, .sc, .own true 3 1, .sc, .sc, .own true 251 2, .sc, .sc, .sc, .sc, .sc, .sc, .sc, .sc, .own true 3 1, .sc, .own true 3 1, .sc, .sc, .own true 3 1, .sc, .sc, .own true 251 2, .sc, .sc, .sc, .sc, .sc, .sc, .sc, .sc, .own true 3 1, .sc, .own true 3 1, .sc, .sc, .own true 3 1, .sc, .sc, .own true 251 2]]) (by kernel_rfl) trivial fun av k h => by
  unfold laws_toFork at h; split at h
  · apply un_all h; clear h; intro a0 a1 a2 a3 a4 a5 a6 a7 a8 a9 a10 a11 a12 a13 a14 a15 a16 a17 a18 a19 a20 a21 a22 a23 a24 a25 a26 a27 a28 a29 a30 a31 a32 a33 a34 a35 a36 a37 a38 a39 a40 a41 a42 a43 a44 a45 a46 a47 a48 a49 a50 h; exact Eq.mpr (by kernel_rfl) h
  · exact h.elim

def laws_toForkS_r0 (v : List PV) (K : List PV → Prop) (x0k : PV → PV → PV → PV → Prop) : Prop :=
 un 4 (fun v0 v1 v2 v3 =>
  lenP v0 fun r0 =>
  binP .lss v1 r0 fun r1 =>
  iteP r1
   (elemP 51 v0 v1 fun c2 =>
   call laws_toFork [.agg [(atP c2 0), (atP c2 1), (atP c2 2), (atP c2 3), (atP c2 4), (atP c2 5), (atP c2 6), (atP c2 7), (atP c2 8), (atP c2 9), (atP c2 10), (atP c2 11), (atP c2 12), (atP c2 13), (atP c2 14), (atP c2 15), (atP c2 16), (atP c2 17), (atP c2 18), (atP c2 19), (atP c2 20), (atP c2 21), (atP c2 22), (atP c2 23), (atP c2 24), (atP c2 25), (atP c2 26), (atP c2 27), (atP c2 28), (atP c2 29), (atP c2 30), (atP c2 31), (atP c2 32), (atP c2 33), (atP c2 34), (atP c2 35), (atP c2 36), (atP c2 37), (atP c2 38), (atP c2 39), (atP c2 40), (atP c2 41), (atP c2 42), (atP c2 43), (atP c2 44), (atP c2 45), (atP c2 46), (atP c2 47), (atP c2 48), (atP c2 49), (atP c2 50)]] fun o3 =>
   boundP 51 v3 v1 fun n4 =>
   (flatCond [.pv (I 0), .pv (I 0), .pv (I 0), .pv (I 0), .pv (I 0), .pv (I 0), .pv (I 0), .pv (I 0), .nil 3 1, .pv (I 0), .nil 3 1, .pv (I 0), .pv (I 0), .nil 3 1, .pv (I 0), .pv (.bool false), .nil 251 2, .pv (I 0), .pv (I 0), .pv (I 0), .pv (I 0), .pv (I 0), .pv (I 0), .pv (I 0), .pv (I 0), .nil 3 1, .pv (I 0), .nil 3 1, .pv (I 0), .pv (I 0), .nil 3 1, .pv (I 0), .pv (.bool false), .nil 251 2, .pv (I 0), .pv (I 0), .pv (I 0), .pv (I 0), .pv (I 0), .pv (I 0), .pv (I 0), .pv (I 0), .nil 3 1, .pv (I 0), .nil 3 1, .pv (I 0), .pv (I 0), .nil 3 1, .pv (I 0), .pv (.bool false), .nil 251 2] [.pv (atP o3 0), .pv (atP o3 1), .pv (atP o3 2), .pv (atP o3 3), .pv (atP o3 4), .pv (atP o3 5), .pv (atP o3 6), .pv (atP o3 7), .own 10, .pv (atP o3 9), .own 12, .pv (atP o3 11), .pv (atP o3 12), .own 15, .pv (atP o3 14), .pv (atP o3 15), .own 18, .pv (atP o3 17), .pv (atP o3 18), .pv (atP o3 19), .pv (atP o3 20), .pv (atP o3 21), .pv (atP o3 22), .pv (atP o3 23), .pv (atP o3 24), .own 27, .pv (atP o3 26), .own 29, .pv (atP o3 28), .pv (atP o3 29), .own 32, .pv (atP o3 31), .pv (atP o3 32), .own 35, .pv (atP o3 34), .pv (atP o3 35), .pv (atP o3 36), .pv (atP o3 37), .pv (atP o3 38), .pv (atP o3 39), .pv (atP o3 40), .pv (atP o3 41), .own 44, .pv (atP o3 43), .own 46, .pv (atP o3 45), .pv (atP o3 46), .own 49, .pv (atP o3 48), .pv (atP o3 49), .own 52]) ∧ setP v3 n4 0 [(atP o3 0), (atP o3 1), (atP o3 2), (atP o3 3), (atP o3 4), (atP o3 5), (atP o3 6), (atP o3 7), (atP o3 8), (atP o3 9), (atP o3 10), (atP o3 11), (atP o3 12), (atP o3 13), (atP o3 14), (atP o3 15), (atP o3 16), (atP o3 17), (atP o3 18), (atP o3 19), (atP o3 20), (atP o3 21), (atP o3 22), (atP o3 23), (atP o3 24), (atP o3 25), (atP o3 26), (atP o3 27), (atP o3 28), (atP o3 29), (atP o3 30), (atP o3 31), (atP o3 32), (atP o3 33), (atP o3 34), (atP o3 35), (atP o3 36), (atP o3 37), (atP o3 38), (atP o3 39), (atP o3 40), (atP o3 41), (atP o3 42), (atP o3 43), (atP o3 44), (atP o3 45), (atP o3 46), (atP o3 47), (atP o3 48), (atP o3 49), (atP o3 50)] fun r5 =>
   binP .add v1 (I 1) fun r6 =>
   K [v0, r6, v2, r5])
   (x0k v0 v1 v2 v3)) v
def laws_toForkS : GM
 | [.one a0], k => 
  lenP a0 fun r0 =>
  (r0 = r0) ∧ (51 = 51) ∧ makeP 51 r0 [(I 0), (I 0), (I 0), (I 0), (I 0), (I 0), (I 0), (I 0), (.list 1 []), (I 0), (.list 1 []), (I 0), (I 0), (.list 1 []), (I 0), (.bool false), (.list 2 []), (I 0), (I 0), (I 0), (I 0), (I 0), (I 0), (I 0), (I 0), (.list 1 []), (I 0), (.list 1 []), (I 0), (I 0), (.list 1 []), (I 0), (.bool false), (.list 2 []), (I 0), (I 0), (I 0), (I 0), (I 0), (I 0), (I 0), (I 0), (.list 1 []), (I 0), (.list 1 []), (I 0), (I 0), (.list 1 []), (I 0), (.bool false), (.list 2 [])] fun r1 =>
  lp (fun L w => laws_toForkS_r0 w L
   (fun q7 q8 q9 q10 => rt [.own true 179 51] [q10] k)) [a0, (I 0), (.list 51 []), r1]
 | _, _ => False
abbrev laws_toForkS_e : Ent := ⟨[196], laws_toForkS⟩
def laws_toForkS_l : List LE := [⟨0, ⟨[(0, .one (.pv (.bool false))), (2, .one (.own 1)), (3, .one (.own 0)), (4, .one (.pv (.bool false)))], [], [(1, ⟨.deep, 179, 51, (.bool false)⟩), (0, ⟨.deep, 179, 51, (.bool false)⟩)], 2, 23⟩, fun K k v => laws_toForkS_r0 v K (fun x0 x1 x2 x3 => k (.exit 0) ⟨[(0, .one (.pv x0)), (2, .one (.own 1)), (3, .one (.own 0)), (4, .one (.pv x1))], [], [(1, ⟨.deep, 179, 51, x2⟩), (0, ⟨.deep, 179, 51, x3⟩)], 2, 23⟩)⟩]
theorem laws_toForkS_s : LEsOK (orac [laws_toFork_e]) TT (kk [0, 2, 3, 4]) (sumsOf laws_toForkS_l) Tryz.f196 laws_toForkS_l := ⟨fun v K k h => by
  apply un_all h; exact fun v0 v1 v2 v3 h => Eq.mpr (by kernel_rfl) h
  , trivial⟩
theorem laws_toForkS_w : EntOK Tryz.prog TT laws_toForkS_e := ent_ok tabok (L := [laws_toFork_e]) ⟨laws_toFork_w, trivial⟩ (keep := (kk [0, 2, 3, 4])) (l := laws_toForkS_l) Tryz.func196 (by kernel_rfl) (sg := [.one (.own true 179 51)]) (by kernel_rfl) laws_toForkS_s fun av k h => by
  unfold laws_toForkS at h; split at h
  · exact Eq.mpr (by kernel_rfl) h
  · exact h.elim

def laws_toKnown : GM
 | [.agg u0], k => un 2 (fun a0 a1 => 
  call laws_toSignedSS [.one a0] fun o0 =>
  call laws_toForkS [.one a1] fun o1 =>
  rt [.own true 43 1, .own true 179 51] [(atP o0 0), (atP o1 0)] k) u0
 | _, _ => False
abbrev laws_toKnown_e : Ent := ⟨[90], laws_toKnown⟩
theorem laws_toKnown_w : EntOK Tryz.prog TT laws_toKnown_e := ent_ok tabok (L := [laws_toSignedSS_e, laws_toForkS_e]) ⟨laws_toSignedSS_w, laws_toForkS_w, trivial⟩ (keep := []) (l := []) Tryz.func90 (by kernel_rfl) (sg := [.agg [.own true 43 1, .own true 179 51]]) (by kernel_rfl) trivial fun av k h => by
  unfold laws_toKnown at h; split at h
  · apply un_all h; clear h; intro a0 a1 h; exact Eq.mpr (by kernel_rfl) h
  · exact h.elim

def laws_toCache : GM
 | [.agg u0], k => un 1 (fun a0 => 
  call laws_toStoredS [.one a0] fun o0 =>
  rt [.own true 114 23] [(atP o0 0)] k) u0
 | _, _ => False
abbrev laws_toCache_e : Ent := ⟨[91], laws_toCache⟩
theorem laws_toCache_w : EntOK Tryz.prog TT laws_toCache_e := ent_ok tabok (L := [laws_toStoredS_e]) ⟨laws_toStoredS_w, trivial⟩ (keep := []) (l := []) Tryz.func91 (by kernel_rfl) (sg := [.agg [.own true 114 23]]) (by kernel_rfl) trivial fun av k h => by
  unfold laws_toCache at h; split at h
  · apply un_all h; clear h; intro a0 h; exact Eq.mpr (by kernel_rfl) h
  · exact h.elim

def laws_toWorld : GM
 | [.agg u0], k => un 8 (fun a0 a1 a2 a3 a4 a5 a6 a7 => 
  call laws_toActorS [.one a1] fun o0 =>
  call laws_toZoneS [.one a2] fun o1 =>
  call laws_toSaidS [.one a3] fun o2 =>
  call laws_toServerS [.one a4] fun o3 =>
  call laws_toKnown [.agg [a5, a6]] fun o4 =>
  call laws_toCache [.agg [a7]] fun o5 =>
  rt [.sc, .own true 223 1, .own true 46 2, .own true 48 3, .own true 174 2, .own true 43 1, .own true 179 51, .own true 114 23] [a0, (atP o0 0), (atP o1 0), (atP o2 0), (atP o3 0), (atP o4 0), (atP o4 1), (atP o5 0)] k) u0
 | _, _ => False
abbrev laws_toWorld_e : Ent := ⟨[28], laws_toWorld⟩
theorem laws_toWorld_w : EntOK Tryz.prog TT laws_toWorld_e := ent_ok tabok (L := [laws_toActorS_e, laws_toZoneS_e, laws_toSaidS_e, laws_toServerS_e, laws_toKnown_e, laws_toCache_e]) ⟨laws_toActorS_w, laws_toZoneS_w, laws_toSaidS_w, laws_toServerS_w, laws_toKnown_w, laws_toCache_w, trivial⟩ (keep := []) (l := []) Tryz.func28 (by kernel_rfl) (sg := [.agg [.sc, .own true 223 1, .own true 46 2, .own true 48 3, .own true 174 2, .own true 43 1, .own true 179 51, .own true 114 23]]) (by kernel_rfl) trivial fun av k h => by
  unfold laws_toWorld at h; split at h
  · apply un_all h; clear h; intro a0 a1 a2 a3 a4 a5 a6 a7 h; exact Eq.mpr (by kernel_rfl) h
  · exact h.elim

def spec_EqualHeads : GM
 | [.agg u0, .agg u1], k => un 16 (fun a0 a1 a2 a3 a4 a5 a6 a7 a8 a9 a10 a11 a12 a13 a14 a15 => un 16 (fun a16 a17 a18 a19 a20 a21 a22 a23 a24 a25 a26 a27 a28 a29 a30 a31 => 
  call spec_HeadInts [.agg [a0, a1, a2, a3, a4, a5, a6, a7, a8, a9, a10, a11, a12, a13, a14, a15]] fun o0 =>
  call spec_HeadInts [.agg [a16, a17, a18, a19, a20, a21, a22, a23, a24, a25, a26, a27, a28, a29, a30, a31]] fun o1 =>
  call spec_EqualInts [.one (atP o0 0), .one (atP o1 0)] fun o2 =>
  iteP (atP o2 0)
   (boolP .eql a15 a31 fun r3 =>
   rt [.sc] [r3] k)
   (rt [.sc] [(.bool false)] k)) u1) u0
 | _, _ => False
abbrev spec_EqualHeads_e : Ent := ⟨[192], spec_EqualHeads⟩
theorem spec_EqualHeads_w : EntOK Tryz.prog TT spec_EqualHeads_e := ent_ok tabok (L := [spec_HeadInts_e, spec_EqualInts_e]) ⟨spec_HeadInts_w, spec_EqualInts_w, trivial⟩ (keep := []) (l := []) Tryz.func192 (by kernel_rfl) (sg := [.one (.sc)]) (by kernel_rfl) trivial fun av k h => by
  unfold spec_EqualHeads at h; split at h
  · apply un_all h; clear h; intro a0 a1 a2 a3 a4 a5 a6 a7 a8 a9 a10 a11 a12 a13 a14 a15 h; apply un_all h; clear h; intro a16 a17 a18 a19 a20 a21 a22 a23 a24 a25 a26 a27 a28 a29 a30 a31 h; exact Eq.mpr (by kernel_rfl) h
  · exact h.elim

def impl_EqualHeads : GM
 | [.agg u0, .agg u1], k => un 16 (fun a0 a1 a2 a3 a4 a5 a6 a7 a8 a9 a10 a11 a12 a13 a14 a15 => un 16 (fun a16 a17 a18 a19 a20 a21 a22 a23 a24 a25 a26 a27 a28 a29 a30 a31 => 
  call impl_EqualKeys [.agg [a8, a9], .agg [a24, a25]] fun o0 =>
  iteP (atP o0 0)
   (call impl_EqualKeys [.agg [a10, a11], .agg [a26, a27]] fun o1 =>
   iteP (atP o1 0)
    (call impl_EqualKeys [.agg [a13, a14], .agg [a29, a30]] fun o2 =>
    iteP (atP o2 0)
     (call impl_HeadInts [.agg [a0, a1, a2, a3, a4, a5, a6, a7, a8, a9, a10, a11, a12, a13, a14, a15]] fun o3 =>
     call impl_HeadInts [.agg [a16, a17, a18, a19, a20, a21, a22, a23, a24, a25, a26, a27, a28, a29, a30, a31]] fun o4 =>
     call slices_Equal_int [.one (atP o3 0), .one (atP o4 0)] fun o5 =>
     rt [.sc] [(atP o5 0)] k)
     (rt [.sc] [(.bool false)] k))
    (rt [.sc] [(.bool false)] k))
   (rt [.sc] [(.bool false)] k)) u1) u0
 | _, _ => False
abbrev impl_EqualHeads_e : Ent := ⟨[200], impl_EqualHeads⟩
theorem impl_EqualHeads_w : EntOK Tryz.prog TT impl_EqualHeads_e := ent_ok tabok (L := [impl_EqualKeys_e, impl_HeadInts_e, slices_Equal_int_e]) ⟨impl_EqualKeys_w, impl_HeadInts_w, slices_Equal_int_w, trivial⟩ (keep := []) (l := []) Tryz.func200 (by kernel_rfl) (sg := [.one (.sc)]) (by kernel_rfl) trivial fun av k h => by
  unfold impl_EqualHeads at h; split at h
  · apply un_all h; clear h; intro a0 a1 a2 a3 a4 a5 a6 a7 a8 a9 a10 a11 a12 a13 a14 a15 h; apply un_all h; clear h; intro a16 a17 a18 a19 a20 a21 a22 a23 a24 a25 a26 a27 a28 a29 a30 a31 h; exact Eq.mpr (by kernel_rfl) h
  · exact h.elim

def laws_eqActor : GM
 | [.agg u0, .agg u1], k => un 1 (fun a0 => un 1 (fun a1 => 
  call laws_eqIntS [.one a0, .one a1] fun o0 =>
  unP .not (atP o0 0) fun r1 =>
  iteP r1
   (rt [.sc] [(.bool false)] k)
   (rt [.sc] [(.bool true)] k)) u1) u0
 | _, _ => False
abbrev laws_eqActor_e : Ent := ⟨[201], laws_eqActor⟩
theorem laws_eqActor_w : EntOK Tryz.prog TT laws_eqActor_e := ent_ok tabok (L := [laws_eqIntS_e]) ⟨laws_eqIntS_w, trivial⟩ (keep := []) (l := []) Tryz.func201 (by kernel_rfl) (sg := [.one (.sc)]) (by kernel_rfl) trivial fun av k h => by
  unfold laws_eqActor at h; split at h
  · apply un_all h; clear h; intro a0 h; apply un_all h; clear h; intro a1 h; exact Eq.mpr (by kernel_rfl) h
  · exact h.elim

def laws_eqActorS_r0 (v : List PV) (K : List PV → Prop) (x0k : Prop) (x1k : PV → PV → PV → PV → Prop) : Prop :=
 un 4 (fun v0 v1 v2 v3 =>
  lenP v0 fun r0 =>
  binP .lss v3 r0 fun r1 =>
  iteP r1
   (elemP 1 v0 v3 fun c2 =>
   elemP 1 v1 v3 fun c3 =>
   call laws_eqActor [.agg [(atP c2 0)], .agg [(atP c3 0)]] fun o4 =>
   unP .not (atP o4 0) fun r5 =>
   iteP r5
    (x0k)
    (binP .add v3 (I 1) fun r6 =>
    K [v0, v1, v2, r6]))
   (x1k v0 v1 v2 v3)) v
def laws_eqActorS : GM
 | [.one a0, .one a1], k => 
  lenP a0 fun r0 =>
  lenP a1 fun r1 =>
  binP .neq r0 r1 fun r2 =>
  iteP r2
   (rt [.sc] [(.bool false)] k)
   (lp (fun L w => laws_eqActorS_r0 w L
    (rt [.sc] [(.bool false)] k)
    (fun q7 q8 q9 q10 => rt [.sc] [(.bool true)] k)) [a0, a1, (.bool false), (I 0)])
 | _, _ => False
abbrev laws_eqActorS_e : Ent := ⟨[96], laws_eqActorS⟩
def laws_eqActorS_l : List LE := [⟨0, ⟨[(0, .one (.pv (.bool false))), (1, .one (.pv (.bool false))), (4, .one (.pv (.bool false))), (5, .one (.pv (.bool false)))], [], [], 0, 27⟩, fun K k v => laws_eqActorS_r0 v K (k .ret ⟨[(4, .one (.kb false))], [], [], 1, 27⟩) (fun x0 x1 x2 x3 => k (.exit 0) ⟨[(0, .one (.pv x0)), (1, .one (.pv x1)), (4, .one (.pv x2)), (5, .one (.pv x3))], [], [], 0, 27⟩)⟩]
theorem laws_eqActorS_s : LEsOK (orac [laws_eqActor_e]) TT (kk [0, 1, 4, 5]) (sumsOf laws_eqActorS_l) Tryz.f96 laws_eqActorS_l := ⟨fun v K k h => by
  apply un_all h; exact fun v0 v1 v2 v3 h => Eq.mpr (by kernel_rfl) h
  , trivial⟩
theorem laws_eqActorS_w : EntOK Tryz.prog TT laws_eqActorS_e := ent_ok tabok (L := [laws_eqActor_e]) ⟨laws_eqActor_w, trivial⟩ (keep := (kk [0, 1, 4, 5])) (l := laws_eqActorS_l) Tryz.func96 (by kernel_rfl) (sg := [.one (.sc)]) (by kernel_rfl) laws_eqActorS_s fun av k h => by
  unfold laws_eqActorS at h; split at h
  · exact Eq.mpr (by kernel_rfl) h
  · exact h.elim

def laws_eqZoneS_r0 (v : List PV) (K : List PV → Prop) (x0k : Prop) (x1k : PV → PV → PV → PV → Prop) : Prop :=
 un 4 (fun v0 v1 v2 v3 =>
  lenP v0 fun r0 =>
  binP .lss v3 r0 fun r1 =>
  iteP r1
   (elemP 2 v0 v3 fun c2 =>
   elemP 2 v1 v3 fun c3 =>
   call laws_eqZone [.agg [(atP c2 0), (atP c2 1)], .agg [(atP c3 0), (atP c3 1)]] fun o4 =>
   unP .not (atP o4 0) fun r5 =>
   iteP r5
    (x0k)
    (binP .add v3 (I 1) fun r6 =>
    K [v0, v1, v2, r6]))
   (x1k v0 v1 v2 v3)) v
def laws_eqZoneS : GM
 | [.one a0, .one a1], k => 
  lenP a0 fun r0 =>
  lenP a1 fun r1 =>
  binP .neq r0 r1 fun r2 =>
  iteP r2
   (rt [.sc] [(.bool false)] k)
   (lp (fun L w => laws_eqZoneS_r0 w L
    (rt [.sc] [(.bool false)] k)
    (fun q7 q8 q9 q10 => rt [.sc] [(.bool true)] k)) [a0, a1, (.bool false), (I 0)])
 | _, _ => False
abbrev laws_eqZoneS_e : Ent := ⟨[97], laws_eqZoneS⟩
def laws_eqZoneS_l : List LE := [⟨0, ⟨[(0, .one (.pv (.bool false))), (1, .one (.pv (.bool false))), (4, .one (.pv (.bool false))), (5, .one (.pv (.bool false)))], [], [], 0, 27⟩, fun K k v => laws_eqZoneS_r0 v K (k .ret ⟨[(4, .one (.kb false))], [], [], 1, 27⟩) (fun x0 x1 x2 x3 => k (.exit 0) ⟨[(0, .one (.pv x0)), (1, .one (.pv x1)), (4, .one (.pv x2)), (5, .one (.pv x3))], [], [], 0, 27⟩)⟩]
theorem laws_eqZoneS_s : LEsOK (orac [laws_eqZone_e]) TT (kk [0, 1, 4, 5]) (sumsOf laws_eqZoneS_l) Tryz.f97 laws_eqZoneS_l := ⟨fun v K k h => by
  apply un_all h; exact fun v0 v1 v2 v3 h => Eq.mpr (by kernel_rfl) h
  , trivial⟩
theorem laws_eqZoneS_w : EntOK Tryz.prog TT laws_eqZoneS_e := ent_ok tabok (L := [laws_eqZone_e]) ⟨laws_eqZone_w, trivial⟩ (keep := (kk [0, 1, 4, 5])) (l := laws_eqZoneS_l) Tryz.func97 (by kernel_rfl) (sg := [.one (.sc)]) (by kernel_rfl) laws_eqZoneS_s fun av k h => by
  unfold laws_eqZoneS at h; split at h
  · exact Eq.mpr (by kernel_rfl) h
  · exact h.elim

def laws_eqSaidS_r0 (v : List PV) (K : List PV → Prop) (x0k : Prop) (x1k : PV → PV → PV → PV → Prop) : Prop :=
 un 4 (fun v0 v1 v2 v3 =>
  lenP v0 fun r0 =>
  binP .lss v3 r0 fun r1 =>
  iteP r1
   (elemP 3 v0 v3 fun c2 =>
   elemP 3 v1 v3 fun c3 =>
   call laws_eqSaid [.agg [(atP c2 0), (atP c2 1), (atP c2 2)], .agg [(atP c3 0), (atP c3 1), (atP c3 2)]] fun o4 =>
   unP .not (atP o4 0) fun r5 =>
   iteP r5
    (x0k)
    (binP .add v3 (I 1) fun r6 =>
    K [v0, v1, v2, r6]))
   (x1k v0 v1 v2 v3)) v
def laws_eqSaidS : GM
 | [.one a0, .one a1], k => 
  lenP a0 fun r0 =>
  lenP a1 fun r1 =>
  binP .neq r0 r1 fun r2 =>
  iteP r2
   (rt [.sc] [(.bool false)] k)
   (lp (fun L w => laws_eqSaidS_r0 w L
    (rt [.sc] [(.bool false)] k)
    (fun q7 q8 q9 q10 => rt [.sc] [(.bool true)] k)) [a0, a1, (.bool false), (I 0)])
 | _, _ => False
abbrev laws_eqSaidS_e : Ent := ⟨[98], laws_eqSaidS⟩
def laws_eqSaidS_l : List LE := [⟨0, ⟨[(0, .one (.pv (.bool false))), (1, .one (.pv (.bool false))), (4, .one (.pv (.bool false))), (5, .one (.pv (.bool false)))], [], [], 0, 27⟩, fun K k v => laws_eqSaidS_r0 v K (k .ret ⟨[(4, .one (.kb false))], [], [], 1, 27⟩) (fun x0 x1 x2 x3 => k (.exit 0) ⟨[(0, .one (.pv x0)), (1, .one (.pv x1)), (4, .one (.pv x2)), (5, .one (.pv x3))], [], [], 0, 27⟩)⟩]
theorem laws_eqSaidS_s : LEsOK (orac [laws_eqSaid_e]) TT (kk [0, 1, 4, 5]) (sumsOf laws_eqSaidS_l) Tryz.f98 laws_eqSaidS_l := ⟨fun v K k h => by
  apply un_all h; exact fun v0 v1 v2 v3 h => Eq.mpr (by kernel_rfl) h
  , trivial⟩
theorem laws_eqSaidS_w : EntOK Tryz.prog TT laws_eqSaidS_e := ent_ok tabok (L := [laws_eqSaid_e]) ⟨laws_eqSaid_w, trivial⟩ (keep := (kk [0, 1, 4, 5])) (l := laws_eqSaidS_l) Tryz.func98 (by kernel_rfl) (sg := [.one (.sc)]) (by kernel_rfl) laws_eqSaidS_s fun av k h => by
  unfold laws_eqSaidS at h; split at h
  · exact Eq.mpr (by kernel_rfl) h
  · exact h.elim

def laws_eqServer : GM
 | [.agg u0, .agg u1], k => un 2 (fun a0 a1 => un 2 (fun a2 a3 => 
  call laws_eqZoneS [.one a0, .one a2] fun o0 =>
  unP .not (atP o0 0) fun r1 =>
  iteP r1
   (rt [.sc] [(.bool false)] k)
   (binP .neq a1 a3 fun r2 =>
   iteP r2
    (rt [.sc] [(.bool false)] k)
    (rt [.sc] [(.bool true)] k))) u1) u0
 | _, _ => False
abbrev laws_eqServer_e : Ent := ⟨[202], laws_eqServer⟩
theorem laws_eqServer_w : EntOK Tryz.prog TT laws_eqServer_e := ent_ok tabok (L := [laws_eqZoneS_e]) ⟨laws_eqZoneS_w, trivial⟩ (keep := []) (l := []) Tryz.func202 (by kernel_rfl) (sg := [.one (.sc)]) (by kernel_rfl) trivial fun av k h => by
  unfold laws_eqServer at h; split at h
  · apply un_all h; clear h; intro a0 a1 h; apply un_all h; clear h; intro a2 a3 h; exact Eq.mpr (by kernel_rfl) h
  · exact h.elim

def laws_eqServerS_r0 (v : List PV) (K : List PV → Prop) (x0k : Prop) (x1k : PV → PV → PV → PV → Prop) : Prop :=
 un 4 (fun v0 v1 v2 v3 =>
  lenP v0 fun r0 =>
  binP .lss v3 r0 fun r1 =>
  iteP r1
   (elemP 2 v0 v3 fun c2 =>
   elemP 2 v1 v3 fun c3 =>
   call laws_eqServer [.agg [(atP c2 0), (atP c2 1)], .agg [(atP c3 0), (atP c3 1)]] fun o4 =>
   unP .not (atP o4 0) fun r5 =>
   iteP r5
    (x0k)
    (binP .add v3 (I 1) fun r6 =>
    K [v0, v1, v2, r6]))
   (x1k v0 v1 v2 v3)) v
def laws_eqServerS : GM
 | [.one a0, .one a1], k => 
  lenP a0 fun r0 =>
  lenP a1 fun r1 =>
  binP .neq r0 r1 fun r2 =>
  iteP r2
   (rt [.sc] [(.bool false)] k)
   (lp (fun L w => laws_eqServerS_r0 w L
    (rt [.sc] [(.bool false)] k)
    (fun q7 q8 q9 q10 => rt [.sc] [(.bool true)] k)) [a0, a1, (.bool false), (I 0)])
 | _, _ => False
abbrev laws_eqServerS_e : Ent := ⟨[99], laws_eqServerS⟩
def laws_eqServerS_l : List LE := [⟨0, ⟨[(0, .one (.pv (.bool false))), (1, .one (.pv (.bool false))), (4, .one (.pv (.bool false))), (5, .one (.pv (.bool false)))], [], [], 0, 27⟩, fun K k v => laws_eqServerS_r0 v K (k .ret ⟨[(4, .one (.kb false))], [], [], 1, 27⟩) (fun x0 x1 x2 x3 => k (.exit 0) ⟨[(0, .one (.pv x0)), (1, .one (.pv x1)), (4, .one (.pv x2)), (5, .one (.pv x3))], [], [], 0, 27⟩)⟩]
theorem laws_eqServerS_s : LEsOK (orac [laws_eqServer_e]) TT (kk [0, 1, 4, 5]) (sumsOf laws_eqServerS_l) Tryz.f99 laws_eqServerS_l := ⟨fun v K k h => by
  apply un_all h; exact fun v0 v1 v2 v3 h => Eq.mpr (by kernel_rfl) h
  , trivial⟩
theorem laws_eqServerS_w : EntOK Tryz.prog TT laws_eqServerS_e := ent_ok tabok (L := [laws_eqServer_e]) ⟨laws_eqServer_w, trivial⟩ (keep := (kk [0, 1, 4, 5])) (l := laws_eqServerS_l) Tryz.func99 (by kernel_rfl) (sg := [.one (.sc)]) (by kernel_rfl) laws_eqServerS_s fun av k h => by
  unfold laws_eqServerS at h; split at h
  · exact Eq.mpr (by kernel_rfl) h
  · exact h.elim

def laws_eqSignedSS_r0 (v : List PV) (K : List PV → Prop) (x0k : Prop) (x1k : PV → PV → PV → PV → Prop) : Prop :=
 un 4 (fun v0 v1 v2 v3 =>
  lenP v0 fun r0 =>
  binP .lss v3 r0 fun r1 =>
  iteP r1
   (elemP 1 v0 v3 fun c2 =>
   elemP 1 v1 v3 fun c3 =>
   call laws_eqSignedS [.one (atP c2 0), .one (atP c3 0)] fun o4 =>
   unP .not (atP o4 0) fun r5 =>
   iteP r5
    (x0k)
    (binP .add v3 (I 1) fun r6 =>
    K [v0, v1, v2, r6]))
   (x1k v0 v1 v2 v3)) v
def laws_eqSignedSS : GM
 | [.one a0, .one a1], k => 
  lenP a0 fun r0 =>
  lenP a1 fun r1 =>
  binP .neq r0 r1 fun r2 =>
  iteP r2
   (rt [.sc] [(.bool false)] k)
   (lp (fun L w => laws_eqSignedSS_r0 w L
    (rt [.sc] [(.bool false)] k)
    (fun q7 q8 q9 q10 => rt [.sc] [(.bool true)] k)) [a0, a1, (.bool false), (I 0)])
 | _, _ => False
abbrev laws_eqSignedSS_e : Ent := ⟨[203], laws_eqSignedSS⟩
def laws_eqSignedSS_l : List LE := [⟨0, ⟨[(0, .one (.pv (.bool false))), (1, .one (.pv (.bool false))), (4, .one (.pv (.bool false))), (5, .one (.pv (.bool false)))], [], [], 0, 27⟩, fun K k v => laws_eqSignedSS_r0 v K (k .ret ⟨[(4, .one (.kb false))], [], [], 1, 27⟩) (fun x0 x1 x2 x3 => k (.exit 0) ⟨[(0, .one (.pv x0)), (1, .one (.pv x1)), (4, .one (.pv x2)), (5, .one (.pv x3))], [], [], 0, 27⟩)⟩]
theorem laws_eqSignedSS_s : LEsOK (orac [laws_eqSignedS_e]) TT (kk [0, 1, 4, 5]) (sumsOf laws_eqSignedSS_l) Tryz.f203 laws_eqSignedSS_l := ⟨fun v K k h => by
  apply un_all h; exact fun v0 v1 v2 v3 h => Eq.mpr (by kernel_rfl) h
  , trivial⟩
theorem laws_eqSignedSS_w : EntOK Tryz.prog TT laws_eqSignedSS_e := ent_ok tabok (L := [laws_eqSignedS_e]) ⟨laws_eqSignedS_w, trivial⟩ (keep := (kk [0, 1, 4, 5])) (l := laws_eqSignedSS_l) Tryz.func203 (by kernel_rfl) (sg := [.one (.sc)]) (by kernel_rfl) laws_eqSignedSS_s fun av k h => by
  unfold laws_eqSignedSS at h; split at h
  · exact Eq.mpr (by kernel_rfl) h
  · exact h.elim

def laws_eqFork : GM
 | [.agg u0, .agg u1], k => un 51 (fun a0 a1 a2 a3 a4 a5 a6 a7 a8 a9 a10 a11 a12 a13 a14 a15 a16 a17 a18 a19 a20 a21 a22 a23 a24 a25 a26 a27 a28 a29 a30 a31 a32 a33 a34 a35 a36 a37 a38 a39 a40 a41 a42 a43 a44 a45 a46 a47 a48 a49 a50 => un 51 (fun a51 a52 a53 a54 a55 a56 a57 a58 a59 a60 a61 a62 a63 a64 a65 a66 a67 a68 a69 a70 a71 a72 a73 a74 a75 a76 a77 a78 a79 a80 a81 a82 a83 a84 a85 a86 a87 a88 a89 a90 a91 a92 a93 a94 a95 a96 a97 a98 a99 a100 a101 => 
  call laws_eqSigned [.agg [a0, a1, a2, a3, a4, a5, a6, a7, a8, a9, a10, a11, a12, a13, a14, a15, a16], .agg [a51, a52, a53, a54, a55, a56, a57, a58, a59, a60, a61, a62, a63, a64, a65, a66, a67]] fun o0 =>
  unP .not (atP o0 0) fun r1 =>
  iteP r1
   (rt [.sc] [(.bool false)] k)
   (call laws_eqSigned [.agg [a17, a18, a19, a20, a21, a22, a23, a24, a25, a26, a27, a28, a29, a30, a31, a32, a33], .agg [a68, a69, a70, a71, a72, a73, a74, a75, a76, a77, a78, a79, a80, a81, a82, a83, a84]] fun o2 =>
   unP .not (atP o2 0) fun r3 =>
   iteP r3
    (rt [.sc] [(.bool false)] k)
    (call laws_eqSigned [.agg [a34, a35, a36, a37, a38, a39, a40, a41, a42, a43, a44, a45, a46, a47, a48, a49, a50], .agg [a85, a86, a87, a88, a89, a90, a91, a92, a93, a94, a95, a96, a97, a98, a99, a100, a101]] fun o4 =>
    unP .not (atP o4 0) fun r5 =>
    iteP r5
     (rt [.sc] [(.bool false)] k)
     (rt [.sc] [(.bool true)] k)))) u1) u0
 | _, _ => False
abbrev laws_eqFork_e : Ent := ⟨[281], laws_eqFork⟩
theorem laws_eqFork_w : EntOK Tryz.prog TT laws_eqFork_e := ent_ok tabok (L := [laws_eqSigned_e]) ⟨laws_eqSigned_w, trivial⟩ (keep := []) (l := []) Tryz.func281 (by kernel_rfl) (sg := [.one (.sc)]) (by kernel_rfl) trivial fun av k h => by
  unfold laws_eqFork at h; split at h
  · apply un_all h; clear h; intro a0 a1 a2 a3 a4 a5 a6 a7 a8 a9 a10 a11 a12 a13 a14 a15 a16 a17 a18 a19 a20 a21 a22 a23 a24 a25 a26 a27 a28 a29 a30 a31 a32 a33 a34 a35 a36 a37 a38 a39 a40 a41 a42 a43 a44 a45 a46 a47 a48 a49 a50 h; apply un_all h; clear h; intro a51 a52 a53 a54 a55 a56 a57 a58 a59 a60 a61 a62 a63 a64 a65 a66 a67 a68 a69 a70 a71 a72 a73 a74 a75 a76 a77 a78 a79 a80 a81 a82 a83 a84 a85 a86 a87 a88 a89 a90 a91 a92 a93 a94 a95 a96 a97 a98 a99 a100 a101 h; exact Eq.mpr (by kernel_rfl) h
  · exact h.elim

def laws_eqForkS_r0 (v : List PV) (K : List PV → Prop) (x0k : Prop) (x1k : PV → PV → PV → PV → Prop) : Prop :=
 un 4 (fun v0 v1 v2 v3 =>
  lenP v0 fun r0 =>
  binP .lss v3 r0 fun r1 =>
  iteP r1
   (elemP 51 v0 v3 fun c2 =>
   elemP 51 v1 v3 fun c3 =>
   call laws_eqFork [.agg [(atP c2 0), (atP c2 1), (atP c2 2), (atP c2 3), (atP c2 4), (atP c2 5), (atP c2 6), (atP c2 7), (atP c2 8), (atP c2 9), (atP c2 10), (atP c2 11), (atP c2 12), (atP c2 13), (atP c2 14), (atP c2 15), (atP c2 16), (atP c2 17), (atP c2 18), (atP c2 19), (atP c2 20), (atP c2 21), (atP c2 22), (atP c2 23), (atP c2 24), (atP c2 25), (atP c2 26), (atP c2 27), (atP c2 28), (atP c2 29), (atP c2 30), (atP c2 31), (atP c2 32), (atP c2 33), (atP c2 34), (atP c2 35), (atP c2 36), (atP c2 37), (atP c2 38), (atP c2 39), (atP c2 40), (atP c2 41), (atP c2 42), (atP c2 43), (atP c2 44), (atP c2 45), (atP c2 46), (atP c2 47), (atP c2 48), (atP c2 49), (atP c2 50)], .agg [(atP c3 0), (atP c3 1), (atP c3 2), (atP c3 3), (atP c3 4), (atP c3 5), (atP c3 6), (atP c3 7), (atP c3 8), (atP c3 9), (atP c3 10), (atP c3 11), (atP c3 12), (atP c3 13), (atP c3 14), (atP c3 15), (atP c3 16), (atP c3 17), (atP c3 18), (atP c3 19), (atP c3 20), (atP c3 21), (atP c3 22), (atP c3 23), (atP c3 24), (atP c3 25), (atP c3 26), (atP c3 27), (atP c3 28), (atP c3 29), (atP c3 30), (atP c3 31), (atP c3 32), (atP c3 33), (atP c3 34), (atP c3 35), (atP c3 36), (atP c3 37), (atP c3 38), (atP c3 39), (atP c3 40), (atP c3 41), (atP c3 42), (atP c3 43), (atP c3 44), (atP c3 45), (atP c3 46), (atP c3 47), (atP c3 48), (atP c3 49), (atP c3 50)]] fun o4 =>
   unP .not (atP o4 0) fun r5 =>
   iteP r5
    (x0k)
    (binP .add v3 (I 1) fun r6 =>
    K [v0, v1, v2, r6]))
   (x1k v0 v1 v2 v3)) v
def laws_eqForkS : GM
 | [.one a0, .one a1], k => 
  lenP a0 fun r0 =>
  lenP a1 fun r1 =>
  binP .neq r0 r1 fun r2 =>
  iteP r2
   (rt [.sc] [(.bool false)] k)
   (lp (fun L w => laws_eqForkS_r0 w L
    (rt [.sc] [(.bool false)] k)
    (fun q7 q8 q9 q10 => rt [.sc] [(.bool true)] k)) [a0, a1, (.bool false), (I 0)])
 | _, _ => False
abbrev laws_eqForkS_e : Ent := ⟨[204], laws_eqForkS⟩
def laws_eqForkS_l : List LE := [⟨0, ⟨[(0, .one (.pv (.bool false))), (1, .one (.pv (.bool false))), (4, .one (.pv (.bool false))), (5, .one (.pv (.bool false)))], [], [], 0, 27⟩, fun K k v => laws_eqForkS_r0 v K (k .ret ⟨[(4, .one (.kb false))], [], [], 1, 27⟩) (fun x0 x1 x2 x3 => k (.exit 0) ⟨[(0, .one (.pv x0)), (1, .one (.pv x1)), (4, .one (.pv x2)), (5, .one (.pv x3))], [], [], 0, 27⟩)⟩]
theorem laws_eqForkS_s : LEsOK (orac [laws_eqFork_e]) TT (kk [0, 1, 4, 5]) (sumsOf laws_eqForkS_l) Tryz.f204 laws_eqForkS_l := ⟨fun v K k h => by
  apply un_all h; exact fun v0 v1 v2 v3 h => Eq.mpr (by kernel_rfl) h
  , trivial⟩
theorem laws_eqForkS_w : EntOK Tryz.prog TT laws_eqForkS_e := ent_ok tabok (L := [laws_eqFork_e]) ⟨laws_eqFork_w, trivial⟩ (keep := (kk [0, 1, 4, 5])) (l := laws_eqForkS_l) Tryz.func204 (by kernel_rfl) (sg := [.one (.sc)]) (by kernel_rfl) laws_eqForkS_s fun av k h => by
  unfold laws_eqForkS at h; split at h
  · exact Eq.mpr (by kernel_rfl) h
  · exact h.elim

def laws_eqKnown : GM
 | [.agg u0, .agg u1], k => un 2 (fun a0 a1 => un 2 (fun a2 a3 => 
  call laws_eqSignedSS [.one a0, .one a2] fun o0 =>
  unP .not (atP o0 0) fun r1 =>
  iteP r1
   (rt [.sc] [(.bool false)] k)
   (call laws_eqForkS [.one a1, .one a3] fun o2 =>
   unP .not (atP o2 0) fun r3 =>
   iteP r3
    (rt [.sc] [(.bool false)] k)
    (rt [.sc] [(.bool true)] k))) u1) u0
 | _, _ => False
abbrev laws_eqKnown_e : Ent := ⟨[100], laws_eqKnown⟩
theorem laws_eqKnown_w : EntOK Tryz.prog TT laws_eqKnown_e := ent_ok tabok (L := [laws_eqSignedSS_e, laws_eqForkS_e]) ⟨laws_eqSignedSS_w, laws_eqForkS_w, trivial⟩ (keep := []) (l := []) Tryz.func100 (by kernel_rfl) (sg := [.one (.sc)]) (by kernel_rfl) trivial fun av k h => by
  unfold laws_eqKnown at h; split at h
  · apply un_all h; clear h; intro a0 a1 h; apply un_all h; clear h; intro a2 a3 h; exact Eq.mpr (by kernel_rfl) h
  · exact h.elim

def laws_eqCache : GM
 | [.agg u0, .agg u1], k => un 1 (fun a0 => un 1 (fun a1 => 
  call laws_eqStoredS [.one a0, .one a1] fun o0 =>
  unP .not (atP o0 0) fun r1 =>
  iteP r1
   (rt [.sc] [(.bool false)] k)
   (rt [.sc] [(.bool true)] k)) u1) u0
 | _, _ => False
abbrev laws_eqCache_e : Ent := ⟨[101], laws_eqCache⟩
theorem laws_eqCache_w : EntOK Tryz.prog TT laws_eqCache_e := ent_ok tabok (L := [laws_eqStoredS_e]) ⟨laws_eqStoredS_w, trivial⟩ (keep := []) (l := []) Tryz.func101 (by kernel_rfl) (sg := [.one (.sc)]) (by kernel_rfl) trivial fun av k h => by
  unfold laws_eqCache at h; split at h
  · apply un_all h; clear h; intro a0 h; apply un_all h; clear h; intro a1 h; exact Eq.mpr (by kernel_rfl) h
  · exact h.elim

def laws_eqWorld : GM
 | [.agg u0, .agg u1], k => un 8 (fun a0 a1 a2 a3 a4 a5 a6 a7 => un 8 (fun a8 a9 a10 a11 a12 a13 a14 a15 => 
  binP .neq a0 a8 fun r0 =>
  iteP r0
   (rt [.sc] [(.bool false)] k)
   (call laws_eqActorS [.one a1, .one a9] fun o1 =>
   unP .not (atP o1 0) fun r2 =>
   iteP r2
    (rt [.sc] [(.bool false)] k)
    (call laws_eqZoneS [.one a2, .one a10] fun o3 =>
    unP .not (atP o3 0) fun r4 =>
    iteP r4
     (rt [.sc] [(.bool false)] k)
     (call laws_eqSaidS [.one a3, .one a11] fun o5 =>
     unP .not (atP o5 0) fun r6 =>
     iteP r6
      (rt [.sc] [(.bool false)] k)
      (call laws_eqServerS [.one a4, .one a12] fun o7 =>
      unP .not (atP o7 0) fun r8 =>
      iteP r8
       (rt [.sc] [(.bool false)] k)
       (call laws_eqKnown [.agg [a5, a6], .agg [a13, a14]] fun o9 =>
       unP .not (atP o9 0) fun r10 =>
       iteP r10
        (rt [.sc] [(.bool false)] k)
        (call laws_eqCache [.agg [a7], .agg [a15]] fun o11 =>
        unP .not (atP o11 0) fun r12 =>
        iteP r12
         (rt [.sc] [(.bool false)] k)
         (rt [.sc] [(.bool true)] k)))))))) u1) u0
 | _, _ => False
abbrev laws_eqWorld_e : Ent := ⟨[31], laws_eqWorld⟩
theorem laws_eqWorld_w : EntOK Tryz.prog TT laws_eqWorld_e := ent_ok tabok (L := [laws_eqActorS_e, laws_eqZoneS_e, laws_eqSaidS_e, laws_eqServerS_e, laws_eqKnown_e, laws_eqCache_e]) ⟨laws_eqActorS_w, laws_eqZoneS_w, laws_eqSaidS_w, laws_eqServerS_w, laws_eqKnown_w, laws_eqCache_w, trivial⟩ (keep := []) (l := []) Tryz.func31 (by kernel_rfl) (sg := [.one (.sc)]) (by kernel_rfl) trivial fun av k h => by
  unfold laws_eqWorld at h; split at h
  · apply un_all h; clear h; intro a0 a1 a2 a3 a4 a5 a6 a7 h; apply un_all h; clear h; intro a8 a9 a10 a11 a12 a13 a14 a15 h; exact Eq.mpr (by kernel_rfl) h
  · exact h.elim

def spec_SamePath_r0 (v : List PV) (K : List PV → Prop) (x0k : Prop) (x1k : PV → PV → PV → PV → Prop) : Prop :=
 un 4 (fun v0 v1 v2 v3 =>
  lenP v0 fun r0 =>
  binP .lss v3 r0 fun r1 =>
  iteP r1
   (elemP 1 v0 v3 fun c2 =>
   elemP 1 v1 v3 fun c3 =>
   binP .neq (atP c2 0) (atP c3 0) fun r4 =>
   iteP r4
    (x0k)
    (binP .add v3 (I 1) fun r5 =>
    K [v0, v1, v2, r5]))
   (x1k v0 v1 v2 v3)) v
def spec_SamePath : GM
 | [.one a0, .one a1], k => 
  lenP a0 fun r0 =>
  lenP a1 fun r1 =>
  binP .neq r0 r1 fun r2 =>
  iteP r2
   (rt [.sc] [(.bool false)] k)
   (lp (fun L w => spec_SamePath_r0 w L
    (rt [.sc] [(.bool false)] k)
    (fun q6 q7 q8 q9 => rt [.sc] [(.bool true)] k)) [a0, a1, (.bool false), (I 0)])
 | _, _ => False
abbrev spec_SamePath_e : Ent := ⟨[286], spec_SamePath⟩
def spec_SamePath_l : List LE := [⟨0, ⟨[(0, .one (.pv (.bool false))), (1, .one (.pv (.bool false))), (4, .one (.pv (.bool false))), (5, .one (.pv (.bool false)))], [], [], 0, 26⟩, fun K k v => spec_SamePath_r0 v K (k .ret ⟨[(4, .one (.kb false))], [], [], 0, 26⟩) (fun x0 x1 x2 x3 => k (.exit 0) ⟨[(0, .one (.pv x0)), (1, .one (.pv x1)), (4, .one (.pv x2)), (5, .one (.pv x3))], [], [], 0, 26⟩)⟩]
theorem spec_SamePath_s : LEsOK (orac []) TT (kk [0, 1, 4, 5]) (sumsOf spec_SamePath_l) Tryz.f286 spec_SamePath_l := ⟨fun v K k h => by
  apply un_all h; exact fun v0 v1 v2 v3 h => Eq.mpr (by kernel_rfl) h
  , trivial⟩
theorem spec_SamePath_w : EntOK Tryz.prog TT spec_SamePath_e := ent_ok tabok (L := []) trivial (keep := (kk [0, 1, 4, 5])) (l := spec_SamePath_l) Tryz.func286 (by kernel_rfl) (sg := [.one (.sc)]) (by kernel_rfl) spec_SamePath_s fun av k h => by
  unfold spec_SamePath at h; split at h
  · exact Eq.mpr (by kernel_rfl) h
  · exact h.elim

def spec_EqualEntries : GM
 | [.agg u0, .agg u1], k => un 4 (fun a0 a1 a2 a3 => un 4 (fun a4 a5 a6 a7 => 
  binP .eql a0 a4 fun r0 =>
  iteP r0
   (binP .eql a1 a5 fun r1 =>
   iteP r1
    (binP .eql a2 a6 fun r2 =>
    iteP r2
     (call spec_SamePath [.one a3, .one a7] fun o3 =>
     rt [.sc] [(atP o3 0)] k)
     (rt [.sc] [(.bool false)] k))
    (rt [.sc] [(.bool false)] k))
   (rt [.sc] [(.bool false)] k)) u1) u0
 | _, _ => False
abbrev spec_EqualEntries_e : Ent := ⟨[209], spec_EqualEntries⟩
theorem spec_EqualEntries_w : EntOK Tryz.prog TT spec_EqualEntries_e := ent_ok tabok (L := [spec_SamePath_e]) ⟨spec_SamePath_w, trivial⟩ (keep := []) (l := []) Tryz.func209 (by kernel_rfl) (sg := [.one (.sc)]) (by kernel_rfl) trivial fun av k h => by
  unfold spec_EqualEntries at h; split at h
  · apply un_all h; clear h; intro a0 a1 a2 a3 h; apply un_all h; clear h; intro a4 a5 a6 a7 h; exact Eq.mpr (by kernel_rfl) h
  · exact h.elim

def slices_Equal_string_r0 (v : List PV) (K : List PV → Prop) (x0k : Prop) (x1k : PV → PV → PV → PV → PV → Prop) : Prop :=
 un 5 (fun v0 v1 v2 v3 v4 =>
  binP .lss v4 v3 fun r0 =>
  iteP r0
   (elemP 1 v0 v4 fun c1 =>
   elemP 1 v1 v4 fun c2 =>
   binP .neq (atP c1 0) (atP c2 0) fun r3 =>
   iteP r3
    (x0k)
    (binP .add v4 (I 1) fun r4 =>
    K [v0, v1, v2, v3, r4]))
   (x1k v0 v1 v2 v3 v4)) v
def slices_Equal_string : GM
 | [.one a0, .one a1], k => 
  lenP a0 fun r0 =>
  lenP a1 fun r1 =>
  binP .neq r0 r1 fun r2 =>
  iteP r2
   (rt [.sc] [(.bool false)] k)
   (lenP a0 fun r3 =>
   lp (fun L w => slices_Equal_string_r0 w L
    (rt [.sc] [(.bool false)] k)
    (fun q5 q6 q7 q8 q9 => rt [.sc] [(.bool true)] k)) [a0, a1, (.bool false), r3, (I 0)])
 | _, _ => False
abbrev slices_Equal_string_e : Ent := ⟨[238], slices_Equal_string⟩
def slices_Equal_string_l : List LE := [⟨0, ⟨[(0, .one (.pv (.bool false))), (1, .one (.pv (.bool false))), (4, .one (.pv (.bool false))), (12, .one (.pv (.bool false))), (13, .one (.pv (.bool false)))], [], [], 0, 26⟩, fun K k v => slices_Equal_string_r0 v K (k .ret ⟨[(4, .one (.kb false))], [], [], 0, 26⟩) (fun x0 x1 x2 x3 x4 => k (.exit 0) ⟨[(0, .one (.pv x0)), (1, .one (.pv x1)), (4, .one (.pv x2)), (12, .one (.pv x3)), (13, .one (.pv x4))], [], [], 0, 26⟩)⟩]
theorem slices_Equal_string_s : LEsOK (orac []) TT (kk [0, 1, 4, 12, 13]) (sumsOf slices_Equal_string_l) Tryz.f238 slices_Equal_string_l := ⟨fun v K k h => by
  apply un_all h; exact fun v0 v1 v2 v3 v4 h => Eq.mpr (by kernel_rfl) h
  , trivial⟩
theorem slices_Equal_string_w : EntOK Tryz.prog TT slices_Equal_string_e := ent_ok tabok (L := []) trivial (keep := (kk [0, 1, 4, 12, 13])) (l := slices_Equal_string_l) Tryz.func238 (by kernel_rfl) (sg := [.one (.sc)]) (by kernel_rfl) slices_Equal_string_s fun av k h => by
  unfold slices_Equal_string at h; split at h
  · exact Eq.mpr (by kernel_rfl) h
  · exact h.elim

def impl_EqualEntries : GM
 | [.agg u0, .agg u1], k => un 4 (fun a0 a1 a2 a3 => un 4 (fun a4 a5 a6 a7 => 
  binP .eql a0 a4 fun r0 =>
  iteP r0
   (binP .eql a1 a5 fun r1 =>
   iteP r1
    (binP .eql a2 a6 fun r2 =>
    iteP r2
     (call slices_Equal_string [.one a3, .one a7] fun o3 =>
     rt [.sc] [(atP o3 0)] k)
     (rt [.sc] [(.bool false)] k))
    (rt [.sc] [(.bool false)] k))
   (rt [.sc] [(.bool false)] k)) u1) u0
 | _, _ => False
abbrev impl_EqualEntries_e : Ent := ⟨[152], impl_EqualEntries⟩
theorem impl_EqualEntries_w : EntOK Tryz.prog TT impl_EqualEntries_e := ent_ok tabok (L := [slices_Equal_string_e]) ⟨slices_Equal_string_w, trivial⟩ (keep := []) (l := []) Tryz.func152 (by kernel_rfl) (sg := [.one (.sc)]) (by kernel_rfl) trivial fun av k h => by
  unfold impl_EqualEntries at h; split at h
  · apply un_all h; clear h; intro a0 a1 a2 a3 h; apply un_all h; clear h; intro a4 a5 a6 a7 h; exact Eq.mpr (by kernel_rfl) h
  · exact h.elim

def spec_EqualSigned_r0 (v : List PV) (K : List PV → Prop) (x0k : PV → PV → PV → PV → PV → PV → PV → PV → PV → PV → PV → PV → PV → PV → PV → PV → PV → PV → PV → PV → PV → PV → PV → PV → PV → PV → PV → PV → PV → PV → PV → PV → PV → PV → Prop) (x1k : PV → PV → PV → PV → PV → PV → PV → PV → PV → PV → PV → PV → PV → PV → PV → PV → PV → PV → PV → PV → PV → PV → PV → PV → PV → PV → PV → PV → PV → PV → PV → PV → PV → PV → PV → PV → Prop) : Prop :=
 un 36 (fun v0 v1 v2 v3 v4 v5 v6 v7 v8 v9 v10 v11 v12 v13 v14 v15 v16 v17 v18 v19 v20 v21 v22 v23 v24 v25 v26 v27 v28 v29 v30 v31 v32 v33 v34 v35 =>
  lenP v35 fun r0 =>
  binP .lss v1 r0 fun r1 =>
  iteP r1
   (elemP 2 v35 v1 fun c2 =>
   elemP 2 v18 v1 fun c3 =>
   (kindsP [.pv (I 0), .pv (I 0)] [(atP c2 0), (atP c2 1)]) ∧ (kindsP [.pv (I 0), .pv (I 0)] [(atP c3 0), (atP c3 1)]) ∧ aggP .neq [(atP c2 0), (atP c2 1)] [(atP c3 0), (atP c3 1)] fun r4 =>
   iteP r4
    (x0k v2 v3 v4 v5 v6 v7 v8 v9 v10 v11 v12 v13 v14 v15 v16 v17 v18 v19 v20 v21 v22 v23 v24 v25 v26 v27 v28 v29 v30 v31 v32 v33 v34 v35)
    (binP .add v1 (I 1) fun r5 =>
    K [v0, r5, v2, v3, v4, v5, v6, v7, v8, v9, v10, v11, v12, v13, v14, v15, v16, v17, v18, v19, v20, v21, v22, v23, v24, v25, v26, v27, v28, v29, v30, v31, v32, v33, v34, v35]))
   (x1k v0 v1 v2 v3 v4 v5 v6 v7 v8 v9 v10 v11 v12 v13 v14 v15 v16 v17 v18 v19 v20 v21 v22 v23 v24 v25 v26 v27 v28 v29 v30 v31 v32 v33 v34 v35)) v
def spec_EqualSigned : GM
 | [.agg u0, .agg u1], k => un 17 (fun a0 a1 a2 a3 a4 a5 a6 a7 a8 a9 a10 a11 a12 a13 a14 a15 a16 => un 17 (fun a17 a18 a19 a20 a21 a22 a23 a24 a25 a26 a27 a28 a29 a30 a31 a32 a33 => 
  call spec_EqualHeads [.agg [a0, a1, a2, a3, a4, a5, a6, a7, a8, a9, a10, a11, a12, a13, a14, a15], .agg [a17, a18, a19, a20, a21, a22, a23, a24, a25, a26, a27, a28, a29, a30, a31, a32]] fun o0 =>
  unP .not (atP o0 0) fun r1 =>
  iteP r1
   (rt [.sc] [(.bool false)] k)
   (lenP a16 fun r2 =>
   lenP a33 fun r3 =>
   binP .neq r2 r3 fun r4 =>
   iteP r4
    (rt [.sc] [(.bool false)] k)
    (lp (fun L w => spec_EqualSigned_r0 w L
     (fun q6 q7 q8 q9 q10 q11 q12 q13 q14 q15 q16 q17 q18 q19 q20 q21 q22 q23 q24 q25 q26 q27 q28 q29 q30 q31 q32 q33 q34 q35 q36 q37 q38 q39 => rt [.sc] [(.bool false)] k)
     (fun q40 q41 q42 q43 q44 q45 q46 q47 q48 q49 q50 q51 q52 q53 q54 q55 q56 q57 q58 q59 q60 q61 q62 q63 q64 q65 q66 q67 q68 q69 q70 q71 q72 q73 q74 q75 => rt [.sc] [(.bool true)] k)) [(.bool false), (I 0), a17, a18, a19, a20, a21, a22, a23, a24, a25, a26, a27, a28, a29, a30, a31, a32, a33, a0, a1, a2, a3, a4, a5, a6, a7, a8, a9, a10, a11, a12, a13, a14, a15, a16]))) u1) u0
 | _, _ => False
abbrev spec_EqualSigned_e : Ent := ⟨[118], spec_EqualSigned⟩
def spec_EqualSigned_l : List LE := [⟨0, ⟨[(2, .one (.ptr 0 0)), (3, .one (.ptr 1 0)), (4, .one (.pv (.bool false))), (5, .one (.pv (.bool false)))], [(1, [.pv (.bool false), .pv (.bool false), .pv (.bool false), .pv (.bool false), .pv (.bool false), .pv (.bool false), .pv (.bool false), .pv (.bool false), .pv (.bool false), .pv (.bool false), .pv (.bool false), .pv (.bool false), .pv (.bool false), .pv (.bool false), .pv (.bool false), .pv (.bool false), .pv (.bool false)]), (0, [.pv (.bool false), .pv (.bool false), .pv (.bool false), .pv (.bool false), .pv (.bool false), .pv (.bool false), .pv (.bool false), .pv (.bool false), .pv (.bool false), .pv (.bool false), .pv (.bool false), .pv (.bool false), .pv (.bool false), .pv (.bool false), .pv (.bool false), .pv (.bool false), .pv (.bool false)])], [], 3, 39⟩, fun K k v => spec_EqualSigned_r0 v K (fun x0 x1 x2 x3 x4 x5 x6 x7 x8 x9 x10 x11 x12 x13 x14 x15 x16 x17 x18 x19 x20 x21 x22 x23 x24 x25 x26 x27 x28 x29 x30 x31 x32 x33 => k .ret ⟨[(4, .one (.kb false))], [(1, [.pv x0, .pv x1, .pv x2, .pv x3, .pv x4, .pv x5, .pv x6, .pv x7, .pv x8, .pv x9, .pv x10, .pv x11, .pv x12, .pv x13, .pv x14, .pv x15, .pv x16]), (0, [.pv x17, .pv x18, .pv x19, .pv x20, .pv x21, .pv x22, .pv x23, .pv x24, .pv x25, .pv x26, .pv x27, .pv x28, .pv x29, .pv x30, .pv x31, .pv x32, .pv x33])], [], 3, 39⟩) (fun x0 x1 x2 x3 x4 x5 x6 x7 x8 x9 x10 x11 x12 x13 x14 x15 x16 x17 x18 x19 x20 x21 x22 x23 x24 x25 x26 x27 x28 x29 x30 x31 x32 x33 x34 x35 => k (.exit 0) ⟨[(2, .one (.ptr 0 0)), (3, .one (.ptr 1 0)), (4, .one (.pv x0)), (5, .one (.pv x1))], [(1, [.pv x2, .pv x3, .pv x4, .pv x5, .pv x6, .pv x7, .pv x8, .pv x9, .pv x10, .pv x11, .pv x12, .pv x13, .pv x14, .pv x15, .pv x16, .pv x17, .pv x18]), (0, [.pv x19, .pv x20, .pv x21, .pv x22, .pv x23, .pv x24, .pv x25, .pv x26, .pv x27, .pv x28, .pv x29, .pv x30, .pv x31, .pv x32, .pv x33, .pv x34, .pv x35])], [], 3, 39⟩)⟩]
theorem spec_EqualSigned_s : LEsOK (orac [spec_EqualHeads_e]) TT (kk [2, 3, 4, 5]) (sumsOf spec_EqualSigned_l) Tryz.f118 spec_EqualSigned_l := ⟨fun v K k h => by
  apply un_all h; exact fun v0 v1 v2 v3 v4 v5 v6 v7 v8 v9 v10 v11 v12 v13 v14 v15 v16 v17 v18 v19 v20 v21 v22 v23 v24 v25 v26 v27 v28 v29 v30 v31 v32 v33 v34 v35 h => Eq.mpr (by kernel_rfl) h
  , trivial⟩
theorem spec_EqualSigned_w : EntOK Tryz.prog TT spec_EqualSigned_e := ent_ok tabok (L := [spec_EqualHeads_e]) ⟨spec_EqualHeads_w, trivial⟩ (keep := (kk [2, 3, 4, 5])) (l := spec_EqualSigned_l) Tryz.func118 (by kernel_rfl) (sg := [.one (.sc)]) (by kernel_rfl) spec_EqualSigned_s fun av k h => by
  unfold spec_EqualSigned at h; split at h
  · apply un_all h; clear h; intro a0 a1 a2 a3 a4 a5 a6 a7 a8 a9 a10 a11 a12 a13 a14 a15 a16 h; apply un_all h; clear h; intro a17 a18 a19 a20 a21 a22 a23 a24 a25 a26 a27 a28 a29 a30 a31 a32 a33 h; exact Eq.mpr (by kernel_rfl) h
  · exact h.elim

def slices_Equal_Sig_r0 (v : List PV) (K : List PV → Prop) (x0k : Prop) (x1k : PV → PV → PV → PV → PV → Prop) : Prop :=
 un 5 (fun v0 v1 v2 v3 v4 =>
  binP .lss v4 v3 fun r0 =>
  iteP r0
   (elemP 2 v0 v4 fun c1 =>
   elemP 2 v1 v4 fun c2 =>
   (kindsP [.pv (I 0), .pv (I 0)] [(atP c1 0), (atP c1 1)]) ∧ (kindsP [.pv (I 0), .pv (I 0)] [(atP c2 0), (atP c2 1)]) ∧ aggP .neq [(atP c1 0), (atP c1 1)] [(atP c2 0), (atP c2 1)] fun r3 =>
   iteP r3
    (x0k)
    (binP .add v4 (I 1) fun r4 =>
    K [v0, v1, v2, v3, r4]))
   (x1k v0 v1 v2 v3 v4)) v
def slices_Equal_Sig : GM
 | [.one a0, .one a1], k => 
  lenP a0 fun r0 =>
  lenP a1 fun r1 =>
  binP .neq r0 r1 fun r2 =>
  iteP r2
   (rt [.sc] [(.bool false)] k)
   (lenP a0 fun r3 =>
   lp (fun L w => slices_Equal_Sig_r0 w L
    (rt [.sc] [(.bool false)] k)
    (fun q5 q6 q7 q8 q9 => rt [.sc] [(.bool true)] k)) [a0, a1, (.bool false), r3, (I 0)])
 | _, _ => False
abbrev slices_Equal_Sig_e : Ent := ⟨[287], slices_Equal_Sig⟩
def slices_Equal_Sig_l : List LE := [⟨0, ⟨[(0, .one (.pv (.bool false))), (1, .one (.pv (.bool false))), (4, .one (.pv (.bool false))), (12, .one (.pv (.bool false))), (13, .one (.pv (.bool false)))], [], [], 0, 26⟩, fun K k v => slices_Equal_Sig_r0 v K (k .ret ⟨[(4, .one (.kb false))], [], [], 0, 26⟩) (fun x0 x1 x2 x3 x4 => k (.exit 0) ⟨[(0, .one (.pv x0)), (1, .one (.pv x1)), (4, .one (.pv x2)), (12, .one (.pv x3)), (13, .one (.pv x4))], [], [], 0, 26⟩)⟩]
theorem slices_Equal_Sig_s : LEsOK (orac []) TT (kk [0, 1, 4, 12, 13]) (sumsOf slices_Equal_Sig_l) Tryz.f287 slices_Equal_Sig_l := ⟨fun v K k h => by
  apply un_all h; exact fun v0 v1 v2 v3 v4 h => Eq.mpr (by kernel_rfl) h
  , trivial⟩
theorem slices_Equal_Sig_w : EntOK Tryz.prog TT slices_Equal_Sig_e := ent_ok tabok (L := []) trivial (keep := (kk [0, 1, 4, 12, 13])) (l := slices_Equal_Sig_l) Tryz.func287 (by kernel_rfl) (sg := [.one (.sc)]) (by kernel_rfl) slices_Equal_Sig_s fun av k h => by
  unfold slices_Equal_Sig at h; split at h
  · exact Eq.mpr (by kernel_rfl) h
  · exact h.elim

def impl_EqualSigned : GM
 | [.agg u0, .agg u1], k => un 17 (fun a0 a1 a2 a3 a4 a5 a6 a7 a8 a9 a10 a11 a12 a13 a14 a15 a16 => un 17 (fun a17 a18 a19 a20 a21 a22 a23 a24 a25 a26 a27 a28 a29 a30 a31 a32 a33 => 
  call impl_EqualHeads [.agg [a0, a1, a2, a3, a4, a5, a6, a7, a8, a9, a10, a11, a12, a13, a14, a15], .agg [a17, a18, a19, a20, a21, a22, a23, a24, a25, a26, a27, a28, a29, a30, a31, a32]] fun o0 =>
  iteP (atP o0 0)
   (call slices_Equal_Sig [.one a16, .one a33] fun o1 =>
   rt [.sc] [(atP o1 0)] k)
   (rt [.sc] [(.bool false)] k)) u1) u0
 | _, _ => False
abbrev impl_EqualSigned_e : Ent := ⟨[214], impl_EqualSigned⟩
theorem impl_EqualSigned_w : EntOK Tryz.prog TT impl_EqualSigned_e := ent_ok tabok (L := [impl_EqualHeads_e, slices_Equal_Sig_e]) ⟨impl_EqualHeads_w, slices_Equal_Sig_w, trivial⟩ (keep := []) (l := []) Tryz.func214 (by kernel_rfl) (sg := [.one (.sc)]) (by kernel_rfl) trivial fun av k h => by
  unfold impl_EqualSigned at h; split at h
  · apply un_all h; clear h; intro a0 a1 a2 a3 a4 a5 a6 a7 a8 a9 a10 a11 a12 a13 a14 a15 a16 h; apply un_all h; clear h; intro a17 a18 a19 a20 a21 a22 a23 a24 a25 a26 a27 a28 a29 a30 a31 a32 a33 h; exact Eq.mpr (by kernel_rfl) h
  · exact h.elim

def spec_EqualProofs : GM
 | [.agg u0, .agg u1], k => un 2 (fun a0 a1 => un 2 (fun a2 a3 => 
  binP .eql a0 a2 fun r0 =>
  iteP r0
   (call spec_EqualInts [.one a1, .one a3] fun o1 =>
   rt [.sc] [(atP o1 0)] k)
   (rt [.sc] [(.bool false)] k)) u1) u0
 | _, _ => False
abbrev spec_EqualProofs_e : Ent := ⟨[291], spec_EqualProofs⟩
theorem spec_EqualProofs_w : EntOK Tryz.prog TT spec_EqualProofs_e := ent_ok tabok (L := [spec_EqualInts_e]) ⟨spec_EqualInts_w, trivial⟩ (keep := []) (l := []) Tryz.func291 (by kernel_rfl) (sg := [.one (.sc)]) (by kernel_rfl) trivial fun av k h => by
  unfold spec_EqualProofs at h; split at h
  · apply un_all h; clear h; intro a0 a1 h; apply un_all h; clear h; intro a2 a3 h; exact Eq.mpr (by kernel_rfl) h
  · exact h.elim

def spec_EqualGaps : GM
 | [.agg u0, .agg u1], k => un 13 (fun a0 a1 a2 a3 a4 a5 a6 a7 a8 a9 a10 a11 a12 => un 13 (fun a13 a14 a15 a16 a17 a18 a19 a20 a21 a22 a23 a24 a25 => 
  binP .eql a0 a13 fun r0 =>
  iteP r0
   (call spec_EqualEntries [.agg [a1, a2, a3, a4], .agg [a14, a15, a16, a17]] fun o1 =>
   iteP (atP o1 0)
    (call spec_EqualEntries [.agg [a5, a6, a7, a8], .agg [a18, a19, a20, a21]] fun o2 =>
    iteP (atP o2 0)
     (call spec_EqualProofs [.agg [a9, a10], .agg [a22, a23]] fun o3 =>
     iteP (atP o3 0)
      (call spec_EqualProofs [.agg [a11, a12], .agg [a24, a25]] fun o4 =>
      rt [.sc] [(atP o4 0)] k)
      (rt [.sc] [(.bool false)] k))
     (rt [.sc] [(.bool false)] k))
    (rt [.sc] [(.bool false)] k))
   (rt [.sc] [(.bool false)] k)) u1) u0
 | _, _ => False
abbrev spec_EqualGaps_e : Ent := ⟨[292], spec_EqualGaps⟩
theorem spec_EqualGaps_w : EntOK Tryz.prog TT spec_EqualGaps_e := ent_ok tabok (L := [spec_EqualEntries_e, spec_EqualProofs_e]) ⟨spec_EqualEntries_w, spec_EqualProofs_w, trivial⟩ (keep := []) (l := []) Tryz.func292 (by kernel_rfl) (sg := [.one (.sc)]) (by kernel_rfl) trivial fun av k h => by
  unfold spec_EqualGaps at h; split at h
  · apply un_all h; clear h; intro a0 a1 a2 a3 a4 a5 a6 a7 a8 a9 a10 a11 a12 h; apply un_all h; clear h; intro a13 a14 a15 a16 a17 a18 a19 a20 a21 a22 a23 a24 a25 h; exact Eq.mpr (by kernel_rfl) h
  · exact h.elim

def impl_EqualProofs : GM
 | [.agg u0, .agg u1], k => un 2 (fun a0 a1 => un 2 (fun a2 a3 => 
  binP .eql a0 a2 fun r0 =>
  iteP r0
   (call slices_Equal_int [.one a1, .one a3] fun o1 =>
   rt [.sc] [(atP o1 0)] k)
   (rt [.sc] [(.bool false)] k)) u1) u0
 | _, _ => False
abbrev impl_EqualProofs_e : Ent := ⟨[294], impl_EqualProofs⟩
theorem impl_EqualProofs_w : EntOK Tryz.prog TT impl_EqualProofs_e := ent_ok tabok (L := [slices_Equal_int_e]) ⟨slices_Equal_int_w, trivial⟩ (keep := []) (l := []) Tryz.func294 (by kernel_rfl) (sg := [.one (.sc)]) (by kernel_rfl) trivial fun av k h => by
  unfold impl_EqualProofs at h; split at h
  · apply un_all h; clear h; intro a0 a1 h; apply un_all h; clear h; intro a2 a3 h; exact Eq.mpr (by kernel_rfl) h
  · exact h.elim

def impl_EqualGaps : GM
 | [.agg u0, .agg u1], k => un 13 (fun a0 a1 a2 a3 a4 a5 a6 a7 a8 a9 a10 a11 a12 => un 13 (fun a13 a14 a15 a16 a17 a18 a19 a20 a21 a22 a23 a24 a25 => 
  binP .eql a0 a13 fun r0 =>
  iteP r0
   (call impl_EqualEntries [.agg [a1, a2, a3, a4], .agg [a14, a15, a16, a17]] fun o1 =>
   iteP (atP o1 0)
    (call impl_EqualEntries [.agg [a5, a6, a7, a8], .agg [a18, a19, a20, a21]] fun o2 =>
    iteP (atP o2 0)
     (call impl_EqualProofs [.agg [a9, a10], .agg [a22, a23]] fun o3 =>
     iteP (atP o3 0)
      (call impl_EqualProofs [.agg [a11, a12], .agg [a24, a25]] fun o4 =>
      rt [.sc] [(atP o4 0)] k)
      (rt [.sc] [(.bool false)] k))
     (rt [.sc] [(.bool false)] k))
    (rt [.sc] [(.bool false)] k))
   (rt [.sc] [(.bool false)] k)) u1) u0
 | _, _ => False
abbrev impl_EqualGaps_e : Ent := ⟨[295], impl_EqualGaps⟩
theorem impl_EqualGaps_w : EntOK Tryz.prog TT impl_EqualGaps_e := ent_ok tabok (L := [impl_EqualEntries_e, impl_EqualProofs_e]) ⟨impl_EqualEntries_w, impl_EqualProofs_w, trivial⟩ (keep := []) (l := []) Tryz.func295 (by kernel_rfl) (sg := [.one (.sc)]) (by kernel_rfl) trivial fun av k h => by
  unfold impl_EqualGaps at h; split at h
  · apply un_all h; clear h; intro a0 a1 a2 a3 a4 a5 a6 a7 a8 a9 a10 a11 a12 h; apply un_all h; clear h; intro a13 a14 a15 a16 a17 a18 a19 a20 a21 a22 a23 a24 a25 h; exact Eq.mpr (by kernel_rfl) h
  · exact h.elim

def spec_ZoneId : GM
 | [.agg u0], k => un 2 (fun a0 a1 => 
  call spec_LastHead [.one a0] fun o0 =>
  call spec_IsZone [.agg [a0, a1]] fun o1 =>
  unP .not (atP o1 0) fun r2 =>
  iteP r2
   (rt [.sc] [(I (-1))] k)
   (rt [.sc] [(atP o0 0)] k)) u0
 | _, _ => False
abbrev spec_ZoneId_e : Ent := ⟨[229], spec_ZoneId⟩
theorem spec_ZoneId_w : EntOK Tryz.prog TT spec_ZoneId_e := ent_ok tabok (L := [spec_LastHead_e, spec_IsZone_e]) ⟨spec_LastHead_w, spec_IsZone_w, trivial⟩ (keep := []) (l := []) Tryz.func229 (by kernel_rfl) (sg := [.one (.sc)]) (by kernel_rfl) trivial fun av k h => by
  unfold spec_ZoneId at h; split at h
  · apply un_all h; clear h; intro a0 a1 h; exact Eq.mpr (by kernel_rfl) h
  · exact h.elim

def spec_IsFresh : GM
 | [.agg u0, .one a16], k => un 16 (fun a0 a1 a2 a3 a4 a5 a6 a7 a8 a9 a10 a11 a12 a13 a14 a15 => 
  call spec_l1In [.one a16, .one a3, .one a4] fun o0 =>
  rt [.sc] [(atP o0 0)] k) u0
 | _, _ => False
abbrev spec_IsFresh_e : Ent := ⟨[230], spec_IsFresh⟩
theorem spec_IsFresh_w : EntOK Tryz.prog TT spec_IsFresh_e := ent_ok tabok (L := [spec_l1In_e]) ⟨spec_l1In_w, trivial⟩ (keep := []) (l := []) Tryz.func230 (by kernel_rfl) (sg := [.one (.sc)]) (by kernel_rfl) trivial fun av k h => by
  unfold spec_IsFresh at h; split at h
  · apply un_all h; clear h; intro a0 a1 a2 a3 a4 a5 a6 a7 a8 a9 a10 a11 a12 a13 a14 a15 h; exact Eq.mpr (by kernel_rfl) h
  · exact h.elim

def impl_ZoneId : GM
 | [.agg u0], k => un 2 (fun a0 a1 => 
  call impl_IsZone [.agg [a0, a1]] fun o0 =>
  unP .not (atP o0 0) fun r1 =>
  iteP r1
   (rt [.sc] [(I (-1))] k)
   (call impl_last [.one a0] fun o2 =>
   rt [.sc] [(atP o2 0)] k)) u0
 | _, _ => False
abbrev impl_ZoneId_e : Ent := ⟨[231], impl_ZoneId⟩
theorem impl_ZoneId_w : EntOK Tryz.prog TT impl_ZoneId_e := ent_ok tabok (L := [impl_IsZone_e, impl_last_e]) ⟨impl_IsZone_w, impl_last_w, trivial⟩ (keep := []) (l := []) Tryz.func231 (by kernel_rfl) (sg := [.one (.sc)]) (by kernel_rfl) trivial fun av k h => by
  unfold impl_ZoneId at h; split at h
  · apply un_all h; clear h; intro a0 a1 h; exact Eq.mpr (by kernel_rfl) h
  · exact h.elim

def impl_IsFresh : GM
 | [.agg u0, .one a16], k => un 16 (fun a0 a1 a2 a3 a4 a5 a6 a7 a8 a9 a10 a11 a12 a13 a14 a15 => 
  call impl_InRange [.one a16, .one a3, .one a4] fun o0 =>
  rt [.sc] [(atP o0 0)] k) u0
 | _, _ => False
abbrev impl_IsFresh_e : Ent := ⟨[232], impl_IsFresh⟩
theorem impl_IsFresh_w : EntOK Tryz.prog TT impl_IsFresh_e := ent_ok tabok (L := [impl_InRange_e]) ⟨impl_InRange_w, trivial⟩ (keep := []) (l := []) Tryz.func232 (by kernel_rfl) (sg := [.one (.sc)]) (by kernel_rfl) trivial fun av k h => by
  unfold impl_IsFresh at h; split at h
  · apply un_all h; clear h; intro a0 a1 a2 a3 a4 a5 a6 a7 a8 a9 a10 a11 a12 a13 a14 a15 h; exact Eq.mpr (by kernel_rfl) h
  · exact h.elim

def spec_IsServer_r0 (v : List PV) (K : List PV → Prop) (x0k : PV → PV → Prop) (x1k : PV → PV → PV → PV → Prop) : Prop :=
 un 4 (fun v0 v1 v2 v3 =>
  lenP v2 fun r0 =>
  binP .lss v1 r0 fun r1 =>
  iteP r1
   (elemP 2 v2 v1 fun c2 =>
   call spec_IsZone [.agg [(atP c2 0), (atP c2 1)]] fun o3 =>
   unP .not (atP o3 0) fun r4 =>
   iteP r4
    (x0k v2 v3)
    (binP .add v1 (I 1) fun r5 =>
    K [v0, r5, v2, v3]))
   (x1k v0 v1 v2 v3)) v
def spec_IsServer : GM
 | [.agg u0], k => un 2 (fun a0 a1 => 
  lp (fun L w => spec_IsServer_r0 w L
   (fun q6 q7 => rt [.sc] [(.bool false)] k)
   (fun q8 q9 q10 q11 => lenP q10 fun r12 =>
    binP .leq r12 (I 8) fun r13 =>
    iteP r13
     (call spec_l1In [.one q11, .one (I 0), .one (I 4)] fun o14 =>
     rt [.sc] [(atP o14 0)] k)
     (rt [.sc] [(.bool false)] k))) [(.bool false), (I 0), a0, a1]) u0
 | _, _ => False
abbrev spec_IsServer_e : Ent := ⟨[153], spec_IsServer⟩
def spec_IsServer_l : List LE := [⟨0, ⟨[(1, .one (.ptr 0 0)), (2, .one (.pv (.bool false))), (3, .one (.pv (.bool false)))], [(0, [.pv (.bool false), .pv (.bool false)])], [], 1, 27⟩, fun K k v => spec_IsServer_r0 v K (fun x0 x1 => k .ret ⟨[(2, .one (.kb false))], [(0, [.pv x0, .pv x1])], [], 2, 27⟩) (fun x0 x1 x2 x3 => k (.exit 0) ⟨[(1, .one (.ptr 0 0)), (2, .one (.pv x0)), (3, .one (.pv x1))], [(0, [.pv x2, .pv x3])], [], 1, 27⟩)⟩]
theorem spec_IsServer_s : LEsOK (orac [spec_IsZone_e, spec_l1In_e]) TT (kk [1, 2, 3, 23, 24, 25]) (sumsOf spec_IsServer_l) Tryz.f153 spec_IsServer_l := ⟨fun v K k h => by
  apply un_all h; exact fun v0 v1 v2 v3 h => Eq.mpr (by kernel_rfl) h
  , trivial⟩
theorem spec_IsServer_w : EntOK Tryz.prog TT spec_IsServer_e := ent_ok tabok (L := [spec_IsZone_e, spec_l1In_e]) ⟨spec_IsZone_w, spec_l1In_w, trivial⟩ (keep := (kk [1, 2, 3, 23, 24, 25])) (l := spec_IsServer_l) Tryz.func153 (by kernel_rfl) (sg := [.one (.sc)]) (by kernel_rfl) spec_IsServer_s fun av k h => by
  unfold spec_IsServer at h; split at h
  · apply un_all h; clear h; intro a0 a1 h; exact Eq.mpr (by kernel_rfl) h
  · exact h.elim

def spec_AreActors_r1 (v : List PV) (K : List PV → Prop) (x0k : Prop) (x1k : PV → PV → PV → PV → PV → Prop) : Prop :=
 un 5 (fun v0 v1 v2 v3 v4 =>
  lenP v3 fun r0 =>
  binP .lss v4 r0 fun r1 =>
  iteP r1
   (elemP 1 v3 v4 fun c2 =>
   call spec_l1In [.one (atP c2 0), .one (I 1), .one (I 99)] fun o3 =>
   unP .not (atP o3 0) fun r4 =>
   iteP r4
    (x0k)
    (binP .gtr v4 (I 0) fun r5 =>
    iteP r5
     (binP .sub v4 (I 1) fun r6 =>
     elemP 1 v3 r6 fun c7 =>
     elemP 1 v3 v4 fun c8 =>
     binP .geq (atP c7 0) (atP c8 0) fun r9 =>
     iteP r9
      (x0k)
      (binP .add v4 (I 1) fun r10 =>
      K [v0, v1, v2, v3, r10]))
     (binP .add v4 (I 1) fun r11 =>
     K [v0, v1, v2, v3, r11])))
   (x1k v0 v1 v2 v3 v4)) v
def spec_AreActors_r0 (v : List PV) (K : List PV → Prop) (x0k : Prop) (x1k : Prop) (x2k : PV → PV → PV → Prop) : Prop :=
 un 3 (fun v0 v1 v2 =>
  lenP v0 fun r0 =>
  binP .lss v2 r0 fun r1 =>
  iteP r1
   (elemP 1 v0 v2 fun c2 =>
   lp (fun L w => spec_AreActors_r1 w L
    (x0k)
    (fun q12 q13 q14 q15 q16 => lenP q15 fun r17 =>
     binP .gtr r17 (I 20) fun r18 =>
     iteP r18
      (x1k)
      (binP .add q14 (I 1) fun r19 =>
      K [q12, q13, r19]))) [v0, v1, v2, (atP c2 0), (I 0)])
   (x2k v0 v1 v2)) v
def spec_AreActors : GM
 | [.one a0], k => 
  lp (fun L w => spec_AreActors_r0 w L
   (rt [.sc] [(.bool false)] k)
   (rt [.sc] [(.bool false)] k)
   (fun q20 q21 q22 => lenP q20 fun r23 =>
    binP .leq r23 (I 4) fun r24 =>
    rt [.sc] [r24] k)) [a0, (.bool false), (I 0)]
 | _, _ => False
abbrev spec_AreActors_e : Ent := ⟨[155], spec_AreActors⟩
def spec_AreActors_l : List LE := [⟨1, ⟨[(0, .one (.pv (.bool false))), (2, .one (.pv (.bool false))), (3, .one (.pv (.bool false))), (4, .one (.pv (.bool false))), (5, .one (.pv (.bool false)))], [], [], 0, 51⟩, fun K k v => spec_AreActors_r1 v K (k .ret ⟨[(2, .one (.kb false))], [], [], 1, 51⟩) (fun x0 x1 x2 x3 x4 => k (.exit 2) ⟨[(0, .one (.pv x0)), (2, .one (.pv x1)), (3, .one (.pv x2)), (4, .one (.pv x3)), (5, .one (.pv x4))], [], [], 0, 51⟩)⟩,
  ⟨0, ⟨[(0, .one (.pv (.bool false))), (2, .one (.pv (.bool false))), (3, .one (.pv (.bool false)))], [], [], 0, 51⟩, fun K k v => spec_AreActors_r0 v K (k .ret ⟨[(2, .one (.kb false))], [], [], 1, 51⟩) (k .ret ⟨[(2, .one (.kb false))], [], [], 0, 51⟩) (fun x0 x1 x2 => k (.exit 0) ⟨[(0, .one (.pv x0)), (2, .one (.pv x1)), (3, .one (.pv x2))], [], [], 0, 51⟩)⟩]
theorem spec_AreActors_s : LEsOK (orac [spec_l1In_e]) TT (kk [0, 2, 3, 4, 5, 30, 31, 32, 33, 34, 35, 36, 37, 38, 39, 40, 41, 42, 43]) (sumsOf spec_AreActors_l) Tryz.f155 spec_AreActors_l := ⟨fun v K k h => by
  apply un_all h; exact fun v0 v1 v2 v3 v4 h => Eq.mpr (by kernel_rfl) h
  , fun v K k h => by
  apply un_all h; exact fun v0 v1 v2 h => Eq.mpr (by kernel_rfl) h
  , trivial⟩
theorem spec_AreActors_w : EntOK Tryz.prog TT spec_AreActors_e := ent_ok tabok (L := [spec_l1In_e]) ⟨spec_l1In_w, trivial⟩ (keep := (kk [0, 2, 3, 4, 5, 30, 31, 32, 33, 34, 35, 36, 37, 38, 39, 40, 41, 42, 43])) (l := spec_AreActors_l) Tryz.func155 (by kernel_rfl) (sg := [.one (.sc)]) (by kernel_rfl) spec_AreActors_s fun av k h => by
  unfold spec_AreActors at h; split at h
  · exact Eq.mpr (by kernel_rfl) h
  · exact h.elim

def spec_l35Zones_r1 (v : List PV) (K : List PV → Prop) (x0k : Prop) (x1k : PV → PV → PV → PV → Prop) : Prop :=
 un 4 (fun v0 v1 v2 v3 =>
  binP .lss v3 v2 fun r0 =>
  iteP r0
   (elemP 2 v0 v3 fun c1 =>
   call spec_ZoneId [.agg [(atP c1 0), (atP c1 1)]] fun o2 =>
   elemP 2 v0 v2 fun c3 =>
   call spec_ZoneId [.agg [(atP c3 0), (atP c3 1)]] fun o4 =>
   binP .eql (atP o2 0) (atP o4 0) fun r5 =>
   iteP r5
    (x0k)
    (binP .add v3 (I 1) fun r6 =>
    K [v0, v1, v2, r6]))
   (x1k v0 v1 v2 v3)) v
def spec_l35Zones_r0 (v : List PV) (K : List PV → Prop) (x0k : Prop) (x1k : Prop) (x2k : PV → PV → PV → Prop) : Prop :=
 un 3 (fun v0 v1 v2 =>
  lenP v0 fun r0 =>
  binP .lss v2 r0 fun r1 =>
  iteP r1
   (elemP 2 v0 v2 fun c2 =>
   call spec_IsZone [.agg [(atP c2 0), (atP c2 1)]] fun o3 =>
   unP .not (atP o3 0) fun r4 =>
   iteP r4
    (x0k)
    (lp (fun L w => spec_l35Zones_r1 w L
     (x1k)
     (fun q7 q8 q9 q10 => binP .add q9 (I 1) fun r11 =>
      K [q7, q8, r11])) [v0, v1, v2, (I 0)]))
   (x2k v0 v1 v2)) v
def spec_l35Zones : GM
 | [.one a0], k => 
  lp (fun L w => spec_l35Zones_r0 w L
   (rt [.sc] [(.bool false)] k)
   (rt [.sc] [(.bool false)] k)
   (fun q12 q13 q14 => lenP q12 fun r15 =>
    binP .leq r15 (I 8) fun r16 =>
    rt [.sc] [r16] k)) [a0, (.bool false), (I 0)]
 | _, _ => False
abbrev spec_l35Zones_e : Ent := ⟨[156], spec_l35Zones⟩
def spec_l35Zones_l : List LE := [⟨1, ⟨[(0, .one (.pv (.bool false))), (2, .one (.pv (.bool false))), (3, .one (.pv (.bool false))), (4, .one (.pv (.bool false)))], [], [], 1, 36⟩, fun K k v => spec_l35Zones_r1 v K (k .ret ⟨[(2, .one (.kb false))], [], [], 3, 36⟩) (fun x0 x1 x2 x3 => k (.exit 2) ⟨[(0, .one (.pv x0)), (2, .one (.pv x1)), (3, .one (.pv x2)), (4, .one (.pv x3))], [], [], 1, 36⟩)⟩,
  ⟨0, ⟨[(0, .one (.pv (.bool false))), (2, .one (.pv (.bool false))), (3, .one (.pv (.bool false)))], [], [], 0, 36⟩, fun K k v => spec_l35Zones_r0 v K (k .ret ⟨[(2, .one (.kb false))], [], [], 1, 36⟩) (k .ret ⟨[(2, .one (.kb false))], [], [], 3, 36⟩) (fun x0 x1 x2 => k (.exit 0) ⟨[(0, .one (.pv x0)), (2, .one (.pv x1)), (3, .one (.pv x2))], [], [], 0, 36⟩)⟩]
theorem spec_l35Zones_s : LEsOK (orac [spec_IsZone_e, spec_ZoneId_e]) TT (kk [0, 2, 3, 4]) (sumsOf spec_l35Zones_l) Tryz.f156 spec_l35Zones_l := ⟨fun v K k h => by
  apply un_all h; exact fun v0 v1 v2 v3 h => Eq.mpr (by kernel_rfl) h
  , fun v K k h => by
  apply un_all h; exact fun v0 v1 v2 h => Eq.mpr (by kernel_rfl) h
  , trivial⟩
theorem spec_l35Zones_w : EntOK Tryz.prog TT spec_l35Zones_e := ent_ok tabok (L := [spec_IsZone_e, spec_ZoneId_e]) ⟨spec_IsZone_w, spec_ZoneId_w, trivial⟩ (keep := (kk [0, 2, 3, 4])) (l := spec_l35Zones_l) Tryz.func156 (by kernel_rfl) (sg := [.one (.sc)]) (by kernel_rfl) spec_l35Zones_s fun av k h => by
  unfold spec_l35Zones at h; split at h
  · exact Eq.mpr (by kernel_rfl) h
  · exact h.elim

def spec_l22Find_r0 (v : List PV) (K : List PV → Prop) (x0k : PV → PV → PV → Prop) (x1k : PV → PV → PV → PV → PV → Prop) : Prop :=
 un 5 (fun v0 v1 v2 v3 v4 =>
  lenP v3 fun r0 =>
  binP .lss v2 r0 fun r1 =>
  iteP r1
   (elemP 1 v3 v2 fun c2 =>
   lenP (atP c2 0) fun r3 =>
   binP .gtr r3 (I 0) fun r4 =>
   iteP r4
    (elemP 1 v3 v2 fun c5 =>
    elemP 17 (atP c5 0) (I 0) fun c6 =>
    binP .eql (atP c6 0) v0 fun r7 =>
    iteP r7
     (x0k v2 v3 v4)
     (binP .add v2 (I 1) fun r8 =>
     K [v0, v1, r8, v3, v4]))
    (binP .add v2 (I 1) fun r9 =>
    K [v0, v1, r9, v3, v4]))
   (x1k v0 v1 v2 v3 v4)) v
def spec_l22Find : GM
 | [.agg u0, .one a2], k => un 2 (fun a0 a1 => 
  lp (fun L w => spec_l22Find_r0 w L
   (fun q10 q11 q12 => rt [.sc] [q10] k)
   (fun q13 q14 q15 q16 q17 => rt [.sc] [(I (-1))] k)) [a2, (I 0), (I 0), a0, a1]) u0
 | _, _ => False
abbrev spec_l22Find_e : Ent := ⟨[239], spec_l22Find⟩
def spec_l22Find_l : List LE := [⟨0, ⟨[(1, .one (.pv (.bool false))), (2, .one (.ptr 0 0)), (4, .one (.pv (.bool false))), (5, .one (.pv (.bool false)))], [(0, [.pv (.bool false), .pv (.bool false)])], [], 1, 34⟩, fun K k v => spec_l22Find_r0 v K (fun x0 x1 x2 => k .ret ⟨[(4, .one (.pv x0))], [(0, [.pv x1, .pv x2])], [], 1, 34⟩) (fun x0 x1 x2 x3 x4 => k (.exit 0) ⟨[(1, .one (.pv x0)), (2, .one (.ptr 0 0)), (4, .one (.pv x1)), (5, .one (.pv x2))], [(0, [.pv x3, .pv x4])], [], 1, 34⟩)⟩]
theorem spec_l22Find_s : LEsOK (orac []) TT (kk [1, 2, 4, 5, 21, 22, 23, 24, 25, 26, 27, 28, 29, 30, 31]) (sumsOf spec_l22Find_l) Tryz.f239 spec_l22Find_l := ⟨fun v K k h => by
  apply un_all h; exact fun v0 v1 v2 v3 v4 h => Eq.mpr (by kernel_rfl) h
  , trivial⟩
theorem spec_l22Find_w : EntOK Tryz.prog TT spec_l22Find_e := ent_ok tabok (L := []) trivial (keep := (kk [1, 2, 4, 5, 21, 22, 23, 24, 25, 26, 27, 28, 29, 30, 31])) (l := spec_l22Find_l) Tryz.func239 (by kernel_rfl) (sg := [.one (.sc)]) (by kernel_rfl) spec_l22Find_s fun av k h => by
  unfold spec_l22Find at h; split at h
  · apply un_all h; clear h; intro a0 a1 h; exact Eq.mpr (by kernel_rfl) h
  · exact h.elim

def spec_IsFork : GM
 | [.agg u0], k => un 51 (fun a0 a1 a2 a3 a4 a5 a6 a7 a8 a9 a10 a11 a12 a13 a14 a15 a16 a17 a18 a19 a20 a21 a22 a23 a24 a25 a26 a27 a28 a29 a30 a31 a32 a33 a34 a35 a36 a37 a38 a39 a40 a41 a42 a43 a44 a45 a46 a47 a48 a49 a50 => 
  call spec_EqualHeads [.agg [a17, a18, a19, a20, a21, a22, a23, a24, a25, a26, a27, a28, a29, a30, a31, a32], .agg [a34, a35, a36, a37, a38, a39, a40, a41, a42, a43, a44, a45, a46, a47, a48, a49]] fun o0 =>
  iteP (atP o0 0)
   (rt [.sc] [(.bool false)] k)
   (call spec_EqualSigned [.agg [a0, a1, a2, a3, a4, a5, a6, a7, a8, a9, a10, a11, a12, a13, a14, a15, a16], .agg [(I 0), (I 0), (I 0), (I 0), (I 0), (I 0), (I 0), (I 0), (.list 1 []), (I 0), (.list 1 []), (I 0), (I 0), (.list 1 []), (I 0), (.bool false), (.list 2 [])]] fun o1 =>
   iteP (atP o1 0)
    (call spec_IsFirst [.agg [a17, a18, a19, a20, a21, a22, a23, a24, a25, a26, a27, a28, a29, a30, a31, a32, a33]] fun o2 =>
    iteP (atP o2 0)
     (call spec_IsFirst [.agg [a34, a35, a36, a37, a38, a39, a40, a41, a42, a43, a44, a45, a46, a47, a48, a49, a50]] fun o3 =>
     iteP (atP o3 0)
      (binP .eql a17 a34 fun r4 =>
      rt [.sc] [r4] k)
      (rt [.sc] [(.bool false)] k))
     (rt [.sc] [(.bool false)] k))
    (call spec_MayFollow [.agg [a0, a1, a2, a3, a4, a5, a6, a7, a8, a9, a10, a11, a12, a13, a14, a15], .agg [a17, a18, a19, a20, a21, a22, a23, a24, a25, a26, a27, a28, a29, a30, a31, a32, a33]] fun o5 =>
    iteP (atP o5 0)
     (call spec_MayFollow [.agg [a0, a1, a2, a3, a4, a5, a6, a7, a8, a9, a10, a11, a12, a13, a14, a15], .agg [a34, a35, a36, a37, a38, a39, a40, a41, a42, a43, a44, a45, a46, a47, a48, a49, a50]] fun o6 =>
     rt [.sc] [(atP o6 0)] k)
     (rt [.sc] [(.bool false)] k)))) u0
 | _, _ => False
abbrev spec_IsFork_e : Ent := ⟨[240], spec_IsFork⟩
theorem spec_IsFork_w : EntOK Tryz.prog TT spec_IsFork_e := ent_ok tabok (L := [spec_EqualHeads_e, spec_EqualSigned_e, spec_IsFirst_e, spec_MayFollow_e]) ⟨spec_EqualHeads_w, spec_EqualSigned_w, spec_IsFirst_w, spec_MayFollow_w, trivial⟩ (keep := []) (l := []) Tryz.func240 (by kernel_rfl) (sg := [.one (.sc)]) (by kernel_rfl) trivial fun av k h => by
  unfold spec_IsFork at h; split at h
  · apply un_all h; clear h; intro a0 a1 a2 a3 a4 a5 a6 a7 a8 a9 a10 a11 a12 a13 a14 a15 a16 a17 a18 a19 a20 a21 a22 a23 a24 a25 a26 a27 a28 a29 a30 a31 a32 a33 a34 a35 a36 a37 a38 a39 a40 a41 a42 a43 a44 a45 a46 a47 a48 a49 a50 h; exact Eq.mpr (by kernel_rfl) h
  · exact h.elim

def spec_IsKnown_r0 (v : List PV) (K : List PV → Prop) (x0k : PV → PV → Prop) (x1k : PV → PV → Prop) (x2k : PV → PV → PV → PV → Prop) : Prop :=
 un 4 (fun v0 v1 v2 v3 =>
  lenP v2 fun r0 =>
  binP .lss v1 r0 fun r1 =>
  iteP r1
   (elemP 1 v2 v1 fun c2 =>
   call spec_IsChain [.one (atP c2 0)] fun o3 =>
   unP .not (atP o3 0) fun r4 =>
   iteP r4
    (x0k v2 v3)
    (elemP 1 v2 v1 fun c5 =>
    elemP 17 (atP c5 0) (I 0) fun c6 =>
    call spec_l22Find [.agg [v2, v3], .one (atP c6 0)] fun o7 =>
    binP .neq (atP o7 0) v1 fun r8 =>
    iteP r8
     (x1k v2 v3)
     (binP .add v1 (I 1) fun r9 =>
     K [v0, r9, v2, v3])))
   (x2k v0 v1 v2 v3)) v
def spec_IsKnown_r1 (v : List PV) (K : List PV → Prop) (x0k : PV → PV → Prop) (x1k : PV → PV → PV → PV → PV → Prop) : Prop :=
 un 5 (fun v0 v1 v2 v3 v4 =>
  lenP v4 fun r0 =>
  binP .lss v2 r0 fun r1 =>
  iteP r1
   (elemP 51 v4 v2 fun c2 =>
   call spec_IsFork [.agg [(atP c2 0), (atP c2 1), (atP c2 2), (atP c2 3), (atP c2 4), (atP c2 5), (atP c2 6), (atP c2 7), (atP c2 8), (atP c2 9), (atP c2 10), (atP c2 11), (atP c2 12), (atP c2 13), (atP c2 14), (atP c2 15), (atP c2 16), (atP c2 17), (atP c2 18), (atP c2 19), (atP c2 20), (atP c2 21), (atP c2 22), (atP c2 23), (atP c2 24), (atP c2 25), (atP c2 26), (atP c2 27), (atP c2 28), (atP c2 29), (atP c2 30), (atP c2 31), (atP c2 32), (atP c2 33), (atP c2 34), (atP c2 35), (atP c2 36), (atP c2 37), (atP c2 38), (atP c2 39), (atP c2 40), (atP c2 41), (atP c2 42), (atP c2 43), (atP c2 44), (atP c2 45), (atP c2 46), (atP c2 47), (atP c2 48), (atP c2 49), (atP c2 50)]] fun o3 =>
   unP .not (atP o3 0) fun r4 =>
   iteP r4
    (x0k v3 v4)
    (binP .add v2 (I 1) fun r5 =>
    K [v0, v1, r5, v3, v4]))
   (x1k v0 v1 v2 v3 v4)) v
def spec_IsKnown : GM
 | [.agg u0], k => un 2 (fun a0 a1 => 
  lp (fun L w => spec_IsKnown_r0 w L
   (fun q10 q11 => rt [.sc] [(.bool false)] k)
   (fun q12 q13 => rt [.sc] [(.bool false)] k)
   (fun q14 q15 q16 q17 => lp (fun L w => spec_IsKnown_r1 w L
     (fun q18 q19 => rt [.sc] [(.bool false)] k)
     (fun q20 q21 q22 q23 q24 => lenP q23 fun r25 =>
      binP .leq r25 (I 8) fun r26 =>
      iteP r26
       (lenP q24 fun r27 =>
       binP .leq r27 (I 8) fun r28 =>
       rt [.sc] [r28] k)
       (rt [.sc] [(.bool false)] k))) [q14, q15, (I 0), q16, q17])) [(.bool false), (I 0), a0, a1]) u0
 | _, _ => False
abbrev spec_IsKnown_e : Ent := ⟨[157], spec_IsKnown⟩
def spec_IsKnown_l : List LE := [⟨0, ⟨[(1, .one (.ptr 0 0)), (2, .one (.pv (.bool false))), (3, .one (.pv (.bool false)))], [(0, [.pv (.bool false), .pv (.bool false)])], [], 1, 58⟩, fun K k v => spec_IsKnown_r0 v K (fun x0 x1 => k .ret ⟨[(2, .one (.kb false))], [(0, [.pv x0, .pv x1])], [], 2, 58⟩) (fun x0 x1 => k .ret ⟨[(2, .one (.kb false))], [(0, [.pv x0, .pv x1])], [], 3, 58⟩) (fun x0 x1 x2 x3 => k (.exit 0) ⟨[(1, .one (.ptr 0 0)), (2, .one (.pv x0)), (3, .one (.pv x1))], [(0, [.pv x2, .pv x3])], [], 1, 58⟩)⟩,
  ⟨1, ⟨[(1, .one (.ptr 0 0)), (2, .one (.pv (.bool false))), (3, .one (.pv (.bool false))), (4, .one (.pv (.bool false)))], [(0, [.pv (.bool false), .pv (.bool false)])], [], 1, 58⟩, fun K k v => spec_IsKnown_r1 v K (fun x0 x1 => k .ret ⟨[(2, .one (.kb false))], [(0, [.pv x0, .pv x1])], [], 2, 58⟩) (fun x0 x1 x2 x3 x4 => k (.exit 2) ⟨[(1, .one (.ptr 0 0)), (2, .one (.pv x0)), (3, .one (.pv x1)), (4, .one (.pv x2))], [(0, [.pv x3, .pv x4])], [], 1, 58⟩)⟩]
theorem spec_IsKnown_s : LEsOK (orac [spec_IsChain_e, spec_l22Find_e, spec_IsFork_e]) TT (kk [1, 2, 3, 4, 20, 21, 22, 23, 24, 25, 26, 27, 28, 29, 30, 31, 32, 53, 54, 55, 56]) (sumsOf spec_IsKnown_l) Tryz.f157 spec_IsKnown_l := ⟨fun v K k h => by
  apply un_all h; exact fun v0 v1 v2 v3 h => Eq.mpr (by kernel_rfl) h
  , fun v K k h => by
  apply un_all h; exact fun v0 v1 v2 v3 v4 h => Eq.mpr (by kernel_rfl) h
  , trivial⟩
theorem spec_IsKnown_w : EntOK Tryz.prog TT spec_IsKnown_e := ent_ok tabok (L := [spec_IsChain_e, spec_l22Find_e, spec_IsFork_e]) ⟨spec_IsChain_w, spec_l22Find_w, spec_IsFork_w, trivial⟩ (keep := (kk [1, 2, 3, 4, 20, 21, 22, 23, 24, 25, 26, 27, 28, 29, 30, 31, 32, 53, 54, 55, 56])) (l := spec_IsKnown_l) Tryz.func157 (by kernel_rfl) (sg := [.one (.sc)]) (by kernel_rfl) spec_IsKnown_s fun av k h => by
  unfold spec_IsKnown at h; split at h
  · apply un_all h; clear h; intro a0 a1 h; exact Eq.mpr (by kernel_rfl) h
  · exact h.elim

def spec_l26Find_r0 (v : List PV) (K : List PV → Prop) (x0k : PV → PV → Prop) (x1k : PV → PV → PV → PV → PV → Prop) : Prop :=
 un 5 (fun v0 v1 v2 v3 v4 =>
  lenP v4 fun r0 =>
  binP .lss v3 r0 fun r1 =>
  iteP r1
   (elemP 23 v4 v3 fun c2 =>
   binP .eql (atP c2 0) v0 fun r3 =>
   iteP r3
    (elemP 23 v4 v3 fun c4 =>
    binP .eql (atP c4 1) v1 fun r5 =>
    iteP r5
     (x0k v3 v4)
     (binP .add v3 (I 1) fun r6 =>
     K [v0, v1, v2, r6, v4]))
    (binP .add v3 (I 1) fun r7 =>
    K [v0, v1, v2, r7, v4]))
   (x1k v0 v1 v2 v3 v4)) v
def spec_l26Find : GM
 | [.agg u0, .one a1, .one a2], k => un 1 (fun a0 => 
  lp (fun L w => spec_l26Find_r0 w L
   (fun q8 q9 => rt [.sc] [q8] k)
   (fun q10 q11 q12 q13 q14 => rt [.sc] [(I (-1))] k)) [a1, a2, (I 0), (I 0), a0]) u0
 | _, _ => False
abbrev spec_l26Find_e : Ent := ⟨[241], spec_l26Find⟩
def spec_l26Find_l : List LE := [⟨0, ⟨[(1, .one (.pv (.bool false))), (2, .one (.pv (.bool false))), (3, .one (.ptr 0 0)), (6, .one (.pv (.bool false))), (7, .one (.pv (.bool false)))], [(0, [.pv (.bool false)])], [], 1, 34⟩, fun K k v => spec_l26Find_r0 v K (fun x0 x1 => k .ret ⟨[(6, .one (.pv x0))], [(0, [.pv x1])], [], 1, 34⟩) (fun x0 x1 x2 x3 x4 => k (.exit 0) ⟨[(1, .one (.pv x0)), (2, .one (.pv x1)), (3, .one (.ptr 0 0)), (6, .one (.pv x2)), (7, .one (.pv x3))], [(0, [.pv x4])], [], 1, 34⟩)⟩]
theorem spec_l26Find_s : LEsOK (orac []) TT (kk [1, 2, 3, 6, 7, 24, 25, 26, 27, 28, 29, 30, 31]) (sumsOf spec_l26Find_l) Tryz.f241 spec_l26Find_l := ⟨fun v K k h => by
  apply un_all h; exact fun v0 v1 v2 v3 v4 h => Eq.mpr (by kernel_rfl) h
  , trivial⟩
theorem spec_l26Find_w : EntOK Tryz.prog TT spec_l26Find_e := ent_ok tabok (L := []) trivial (keep := (kk [1, 2, 3, 6, 7, 24, 25, 26, 27, 28, 29, 30, 31])) (l := spec_l26Find_l) Tryz.func241 (by kernel_rfl) (sg := [.one (.sc)]) (by kernel_rfl) spec_l26Find_s fun av k h => by
  unfold spec_l26Find at h; split at h
  · apply un_all h; clear h; intro a0 h; exact Eq.mpr (by kernel_rfl) h
  · exact h.elim

def spec_TopFrom_r0 (v : List PV) (K : List PV → Prop) (x0k : Prop) (x1k : PV → PV → PV → PV → PV → PV → PV → Prop) : Prop :=
 un 7 (fun v0 v1 v2 v3 v4 v5 v6 =>
  binP .gtr v2 (I 1) fun r0 =>
  iteP r0
   (binP .rem v1 (I 2) fun r1 =>
   binP .eql r1 (I 1) fun r2 =>
   iteP r2
    (lenP v3 fun r3 =>
    binP .geq v6 r3 fun r4 =>
    iteP r4
     (x0k)
     (binP .rem v1 (I 2) fun r5 =>
     binP .eql r5 (I 1) fun r6 =>
     iteP r6
      (elemP 1 v3 v6 fun c7 =>
      call spec_NodeOf [.one (atP c7 0), .one v0] fun o8 =>
      binP .add v6 (I 1) fun r9 =>
      binP .quo v1 (I 2) fun r10 =>
      binP .add v2 (I 1) fun r11 =>
      binP .quo r11 (I 2) fun r12 =>
      K [(atP o8 0), r10, r12, v3, v4, v5, r9])
      (elemP 1 v3 v6 fun c13 =>
      call spec_NodeOf [.one v0, .one (atP c13 0)] fun o14 =>
      binP .add v6 (I 1) fun r15 =>
      binP .quo v1 (I 2) fun r16 =>
      binP .add v2 (I 1) fun r17 =>
      binP .quo r17 (I 2) fun r18 =>
      K [(atP o14 0), r16, r18, v3, v4, v5, r15])))
    (binP .add v1 (I 1) fun r19 =>
    binP .lss r19 v2 fun r20 =>
    iteP r20
     (lenP v3 fun r21 =>
     binP .geq v6 r21 fun r22 =>
     iteP r22
      (x0k)
      (binP .rem v1 (I 2) fun r23 =>
      binP .eql r23 (I 1) fun r24 =>
      iteP r24
       (elemP 1 v3 v6 fun c25 =>
       call spec_NodeOf [.one (atP c25 0), .one v0] fun o26 =>
       binP .add v6 (I 1) fun r27 =>
       binP .quo v1 (I 2) fun r28 =>
       binP .add v2 (I 1) fun r29 =>
       binP .quo r29 (I 2) fun r30 =>
       K [(atP o26 0), r28, r30, v3, v4, v5, r27])
       (elemP 1 v3 v6 fun c31 =>
       call spec_NodeOf [.one v0, .one (atP c31 0)] fun o32 =>
       binP .add v6 (I 1) fun r33 =>
       binP .quo v1 (I 2) fun r34 =>
       binP .add v2 (I 1) fun r35 =>
       binP .quo r35 (I 2) fun r36 =>
       K [(atP o32 0), r34, r36, v3, v4, v5, r33])))
     (binP .quo v1 (I 2) fun r37 =>
     binP .add v2 (I 1) fun r38 =>
     binP .quo r38 (I 2) fun r39 =>
     K [v0, r37, r39, v3, v4, v5, v6])))
   (x1k v0 v1 v2 v3 v4 v5 v6)) v
def spec_TopFrom : GM
 | [.one a0, .one a1, .one a2, .one a3], k => 
  call spec_l1In [.one a2, .one (I 1), .one (I 12)] fun o0 =>
  unP .not (atP o0 0) fun r1 =>
  iteP r1
   (rt [.sc, .sc] [(I 0), (.bool false)] k)
   (binP .sub a2 (I 1) fun r2 =>
   call spec_l1In [.one a1, .one (I 0), .one r2] fun o3 =>
   unP .not (atP o3 0) fun r4 =>
   iteP r4
    (rt [.sc, .sc] [(I 0), (.bool false)] k)
    (lp (fun L w => spec_TopFrom_r0 w L
     (rt [.sc, .sc] [(I 0), (.bool false)] k)
     (fun q40 q41 q42 q43 q44 q45 q46 => lenP q43 fun r47 =>
      binP .neq q46 r47 fun r48 =>
      iteP r48
       (rt [.sc, .sc] [(I 0), (.bool false)] k)
       (rt [.sc, .sc] [q40, (.bool true)] k))) [a0, a1, a2, a3, (I 0), (.bool false), (I 0)]))
 | _, _ => False
abbrev spec_TopFrom_e : Ent := ⟨[363], spec_TopFrom⟩
def spec_TopFrom_l : List LE := [⟨0, ⟨[(0, .one (.pv (.bool false))), (1, .one (.pv (.bool false))), (2, .one (.pv (.bool false))), (3, .one (.pv (.bool false))), (8, .one (.pv (.bool false))), (9, .one (.pv (.bool false))), (10, .one (.pv (.bool false)))], [], [], 2, 63⟩, fun K k v => spec_TopFrom_r0 v K (k .ret ⟨[(8, .one (.pv (I 0))), (9, .one (.kb false))], [], [], 2, 63⟩) (fun x0 x1 x2 x3 x4 x5 x6 => k (.exit 0) ⟨[(0, .one (.pv x0)), (1, .one (.pv x1)), (2, .one (.pv x2)), (3, .one (.pv x3)), (8, .one (.pv x4)), (9, .one (.pv x5)), (10, .one (.pv x6))], [], [], 2, 63⟩)⟩]
theorem spec_TopFrom_s : LEsOK (orac [spec_l1In_e, spec_NodeOf_e]) TT (kk [0, 1, 2, 3, 8, 9, 10, 27, 28, 29, 30]) (sumsOf spec_TopFrom_l) Tryz.f363 spec_TopFrom_l := ⟨fun v K k h => by
  apply un_all h; exact fun v0 v1 v2 v3 v4 v5 v6 h => Eq.mpr (by kernel_rfl) h
  , trivial⟩
theorem spec_TopFrom_w : EntOK Tryz.prog TT spec_TopFrom_e := ent_ok tabok (L := [spec_l1In_e, spec_NodeOf_e]) ⟨spec_l1In_w, spec_NodeOf_w, trivial⟩ (keep := (kk [0, 1, 2, 3, 8, 9, 10, 27, 28, 29, 30])) (l := spec_TopFrom_l) Tryz.func363 (by kernel_rfl) (sg := [.one (.sc), .one (.sc)]) (by kernel_rfl) spec_TopFrom_s fun av k h => by
  unfold spec_TopFrom at h; split at h
  · exact Eq.mpr (by kernel_rfl) h
  · exact h.elim

def spec_CheckEntry : GM
 | [.one a0, .one a1, .agg u0, .agg u1], k => un 4 (fun a2 a3 a4 a5 => un 2 (fun a6 a7 => 
  call spec_LeafOf [.agg [a2, a3, a4, a5]] fun o0 =>
  call spec_TopFrom [.one (atP o0 0), .one a6, .one a1, .one a7] fun o1 =>
  call spec_IsEntry [.agg [a2, a3, a4, a5]] fun o2 =>
  iteP (atP o2 0)
   (iteP (atP o1 1)
    (call spec_l10Root [.one a1, .one (atP o1 0)] fun o3 =>
    binP .eql (atP o3 0) a0 fun r4 =>
    rt [.sc] [r4] k)
    (rt [.sc] [(.bool false)] k))
   (rt [.sc] [(.bool false)] k)) u1) u0
 | _, _ => False
abbrev spec_CheckEntry_e : Ent := ⟨[336], spec_CheckEntry⟩
theorem spec_CheckEntry_w : EntOK Tryz.prog TT spec_CheckEntry_e := ent_ok tabok (L := [spec_LeafOf_e, spec_TopFrom_e, spec_IsEntry_e, spec_l10Root_e]) ⟨spec_LeafOf_w, spec_TopFrom_w, spec_IsEntry_w, spec_l10Root_w, trivial⟩ (keep := []) (l := []) Tryz.func336 (by kernel_rfl) (sg := [.one (.sc)]) (by kernel_rfl) trivial fun av k h => by
  unfold spec_CheckEntry at h; split at h
  · apply un_all h; clear h; intro a2 a3 a4 a5 h; apply un_all h; clear h; intro a6 a7 h; exact Eq.mpr (by kernel_rfl) h
  · exact h.elim

def spec_l12None : GM
 | [.agg u0, .agg u1], k => un 4 (fun a0 a1 a2 a3 => un 2 (fun a4 a5 => 
  call spec_EqualEntries [.agg [a0, a1, a2, a3], .agg [(.str ⟨#[]⟩), (I 0), (I 0), (.list 1 [])]] fun o0 =>
  iteP (atP o0 0)
   (call spec_EqualProofs [.agg [a4, a5], .agg [(I 0), (.list 1 [])]] fun o1 =>
   rt [.sc] [(atP o1 0)] k)
   (rt [.sc] [(.bool false)] k)) u1) u0
 | _, _ => False
abbrev spec_l12None_e : Ent := ⟨[338], spec_l12None⟩
theorem spec_l12None_w : EntOK Tryz.prog TT spec_l12None_e := ent_ok tabok (L := [spec_EqualEntries_e, spec_EqualProofs_e]) ⟨spec_EqualEntries_w, spec_EqualProofs_w, trivial⟩ (keep := []) (l := []) Tryz.func338 (by kernel_rfl) (sg := [.one (.sc)]) (by kernel_rfl) trivial fun av k h => by
  unfold spec_l12None at h; split at h
  · apply un_all h; clear h; intro a0 a1 a2 a3 h; apply un_all h; clear h; intro a4 a5 h; exact Eq.mpr (by kernel_rfl) h
  · exact h.elim

def spec_CheckAbsence : GM
 | [.one a0, .one a1, .one a2, .agg u0], k => un 13 (fun a3 a4 a5 a6 a7 a8 a9 a10 a11 a12 a13 a14 a15 => 
  call spec_IsLabel [.one a2] fun o0 =>
  unP .not (atP o0 0) fun r1 =>
  iteP r1
   (rt [.sc] [(.bool false)] k)
   (call spec_l1In [.one a3, .one (I 0), .one a1] fun o2 =>
   unP .not (atP o2 0) fun r3 =>
   iteP r3
    (rt [.sc] [(.bool false)] k)
    (binP .eql a1 (I 0) fun r4 =>
    iteP r4
     ((0 = 0) ∧ (0 ≤ 16777216) ∧ (4 = 4) ∧ call spec_RootOf [.one (.list 4 [])] fun o5 =>
     binP .neq a0 (atP o5 0) fun r6 =>
     iteP r6
      (rt [.sc] [(.bool false)] k)
      (binP .eql a3 (I 0) fun r7 =>
      iteP r7
       (call spec_l12None [.agg [a4, a5, a6, a7], .agg [a12, a13]] fun o8 =>
       unP .not (atP o8 0) fun r9 =>
       iteP r9
        (rt [.sc] [(.bool false)] k)
        (binP .eql a3 a1 fun r10 =>
        iteP r10
         (call spec_l12None [.agg [a8, a9, a10, a11], .agg [a14, a15]] fun o11 =>
         rt [.sc] [(atP o11 0)] k)
         (call spec_CheckEntry [.one a0, .one a1, .agg [a8, a9, a10, a11], .agg [a14, a15]] fun o12 =>
         iteP (atP o12 0)
          (binP .eql a14 a3 fun r13 =>
          iteP r13
           (call spec_CompareLabels [.one a8, .one a2] fun o14 =>
           binP .eql (atP o14 0) (I 1) fun r15 =>
           rt [.sc] [r15] k)
           (rt [.sc] [(.bool false)] k))
          (rt [.sc] [(.bool false)] k))))
       (call spec_CheckEntry [.one a0, .one a1, .agg [a4, a5, a6, a7], .agg [a12, a13]] fun o16 =>
       unP .not (atP o16 0) fun r17 =>
       iteP r17
        (rt [.sc] [(.bool false)] k)
        (binP .sub a3 (I 1) fun r18 =>
        binP .neq a12 r18 fun r19 =>
        iteP r19
         (rt [.sc] [(.bool false)] k)
         (call spec_CompareLabels [.one a4, .one a2] fun o20 =>
         binP .neq (atP o20 0) (I (-1)) fun r21 =>
         iteP r21
          (rt [.sc] [(.bool false)] k)
          (binP .eql a3 a1 fun r22 =>
          iteP r22
           (call spec_l12None [.agg [a8, a9, a10, a11], .agg [a14, a15]] fun o23 =>
           rt [.sc] [(atP o23 0)] k)
           (call spec_CheckEntry [.one a0, .one a1, .agg [a8, a9, a10, a11], .agg [a14, a15]] fun o24 =>
           iteP (atP o24 0)
            (binP .eql a14 a3 fun r25 =>
            iteP r25
             (call spec_CompareLabels [.one a8, .one a2] fun o26 =>
             binP .eql (atP o26 0) (I 1) fun r27 =>
             rt [.sc] [r27] k)
             (rt [.sc] [(.bool false)] k))
            (rt [.sc] [(.bool false)] k))))))))
     (binP .eql a3 (I 0) fun r28 =>
     iteP r28
      (call spec_l12None [.agg [a4, a5, a6, a7], .agg [a12, a13]] fun o29 =>
      unP .not (atP o29 0) fun r30 =>
      iteP r30
       (rt [.sc] [(.bool false)] k)
       (binP .eql a3 a1 fun r31 =>
       iteP r31
        (call spec_l12None [.agg [a8, a9, a10, a11], .agg [a14, a15]] fun o32 =>
        rt [.sc] [(atP o32 0)] k)
        (call spec_CheckEntry [.one a0, .one a1, .agg [a8, a9, a10, a11], .agg [a14, a15]] fun o33 =>
        iteP (atP o33 0)
         (binP .eql a14 a3 fun r34 =>
         iteP r34
          (call spec_CompareLabels [.one a8, .one a2] fun o35 =>
          binP .eql (atP o35 0) (I 1) fun r36 =>
          rt [.sc] [r36] k)
          (rt [.sc] [(.bool false)] k))
         (rt [.sc] [(.bool false)] k))))
      (call spec_CheckEntry [.one a0, .one a1, .agg [a4, a5, a6, a7], .agg [a12, a13]] fun o37 =>
      unP .not (atP o37 0) fun r38 =>
      iteP r38
       (rt [.sc] [(.bool false)] k)
       (binP .sub a3 (I 1) fun r39 =>
       binP .neq a12 r39 fun r40 =>
       iteP r40
        (rt [.sc] [(.bool false)] k)
        (call spec_CompareLabels [.one a4, .one a2] fun o41 =>
        binP .neq (atP o41 0) (I (-1)) fun r42 =>
        iteP r42
         (rt [.sc] [(.bool false)] k)
         (binP .eql a3 a1 fun r43 =>
         iteP r43
          (call spec_l12None [.agg [a8, a9, a10, a11], .agg [a14, a15]] fun o44 =>
          rt [.sc] [(atP o44 0)] k)
          (call spec_CheckEntry [.one a0, .one a1, .agg [a8, a9, a10, a11], .agg [a14, a15]] fun o45 =>
          iteP (atP o45 0)
           (binP .eql a14 a3 fun r46 =>
           iteP r46
            (call spec_CompareLabels [.one a8, .one a2] fun o47 =>
            binP .eql (atP o47 0) (I 1) fun r48 =>
            rt [.sc] [r48] k)
            (rt [.sc] [(.bool false)] k))
           (rt [.sc] [(.bool false)] k)))))))))) u0
 | _, _ => False
abbrev spec_CheckAbsence_e : Ent := ⟨[337], spec_CheckAbsence⟩
theorem spec_CheckAbsence_w : EntOK Tryz.prog TT spec_CheckAbsence_e := ent_ok tabok (L := [spec_IsLabel_e, spec_l1In_e, spec_RootOf_e, spec_l12None_e, spec_CheckEntry_e, spec_CompareLabels_e]) ⟨spec_IsLabel_w, spec_l1In_w, spec_RootOf_w, spec_l12None_w, spec_CheckEntry_w, spec_CompareLabels_w, trivial⟩ (keep := []) (l := []) Tryz.func337 (by kernel_rfl) (sg := [.one (.sc)]) (by kernel_rfl) trivial fun av k h => by
  unfold spec_CheckAbsence at h; split at h
  · apply un_all h; clear h; intro a3 a4 a5 a6 a7 a8 a9 a10 a11 a12 a13 a14 a15 h; exact Eq.mpr (by kernel_rfl) h
  · exact h.elim

def spec_l21Proved : GM
 | [.agg u0, .one a16, .agg u1], k => un 16 (fun a0 a1 a2 a3 a4 a5 a6 a7 a8 a9 a10 a11 a12 a13 a14 a15 => un 21 (fun a17 a18 a19 a20 a21 a22 a23 a24 a25 a26 a27 a28 a29 a30 a31 a32 a33 a34 a35 a36 a37 => 
  iteP a18
   (binP .eql a19 a16 fun r0 =>
   iteP r0
    (call spec_CheckEntry [.one a6, .one a5, .agg [a19, a20, a21, a22], .agg [a23, a24]] fun o1 =>
    iteP (atP o1 0)
     (call spec_EqualGaps [.agg [a25, a26, a27, a28, a29, a30, a31, a32, a33, a34, a35, a36, a37], .agg [(I 0), (.str ⟨#[]⟩), (I 0), (I 0), (.list 1 []), (.str ⟨#[]⟩), (I 0), (I 0), (.list 1 []), (I 0), (.list 1 []), (I 0), (.list 1 [])]] fun o2 =>
     rt [.sc] [(atP o2 0)] k)
     (rt [.sc] [(.bool false)] k))
    (rt [.sc] [(.bool false)] k))
   (call spec_CheckAbsence [.one a6, .one a5, .one a16, .agg [a25, a26, a27, a28, a29, a30, a31, a32, a33, a34, a35, a36, a37]] fun o3 =>
   iteP (atP o3 0)
    (call spec_l12None [.agg [a19, a20, a21, a22], .agg [a23, a24]] fun o4 =>
    rt [.sc] [(atP o4 0)] k)
    (rt [.sc] [(.bool false)] k))) u1) u0
 | _, _ => False
abbrev spec_l21Proved_e : Ent := ⟨[301], spec_l21Proved⟩
theorem spec_l21Proved_w : EntOK Tryz.prog TT spec_l21Proved_e := ent_ok tabok (L := [spec_CheckEntry_e, spec_EqualGaps_e, spec_CheckAbsence_e, spec_l12None_e]) ⟨spec_CheckEntry_w, spec_EqualGaps_w, spec_CheckAbsence_w, spec_l12None_w, trivial⟩ (keep := []) (l := []) Tryz.func301 (by kernel_rfl) (sg := [.one (.sc)]) (by kernel_rfl) trivial fun av k h => by
  unfold spec_l21Proved at h; split at h
  · apply un_all h; clear h; intro a0 a1 a2 a3 a4 a5 a6 a7 a8 a9 a10 a11 a12 a13 a14 a15 h; apply un_all h; clear h; intro a17 a18 a19 a20 a21 a22 a23 a24 a25 a26 a27 a28 a29 a30 a31 a32 a33 a34 a35 a36 a37 h; exact Eq.mpr (by kernel_rfl) h
  · exact h.elim

def spec_CheckAnswer : GM
 | [.one a0, .one a1, .agg u0, .one a23], k => un 21 (fun a2 a3 a4 a5 a6 a7 a8 a9 a10 a11 a12 a13 a14 a15 a16 a17 a18 a19 a20 a21 a22 => 
  call spec_LastHead [.one a2] fun o0 =>
  unP .not (atP o0 16) fun r1 =>
  iteP r1
   (rt [.sc] [(I 3)] k)
   (binP .neq (atP o0 0) a0 fun r2 =>
   iteP r2
    (rt [.sc] [(I 2)] k)
    (call spec_IsFresh [.agg [(atP o0 0), (atP o0 1), (atP o0 2), (atP o0 3), (atP o0 4), (atP o0 5), (atP o0 6), (atP o0 7), (atP o0 8), (atP o0 9), (atP o0 10), (atP o0 11), (atP o0 12), (atP o0 13), (atP o0 14), (atP o0 15)], .one a23] fun o3 =>
    unP .not (atP o3 0) fun r4 =>
    iteP r4
     (rt [.sc] [(I 4)] k)
     (iteP (atP o0 15)
      (rt [.sc] [(I 5)] k)
      (call spec_l21Proved [.agg [(atP o0 0), (atP o0 1), (atP o0 2), (atP o0 3), (atP o0 4), (atP o0 5), (atP o0 6), (atP o0 7), (atP o0 8), (atP o0 9), (atP o0 10), (atP o0 11), (atP o0 12), (atP o0 13), (atP o0 14), (atP o0 15)], .one a1, .agg [a2, a3, a4, a5, a6, a7, a8, a9, a10, a11, a12, a13, a14, a15, a16, a17, a18, a19, a20, a21, a22]] fun o5 =>
      unP .not (atP o5 0) fun r6 =>
      iteP r6
       (rt [.sc] [(I 6)] k)
       (rt [.sc] [(I 1)] k)))))) u0
 | _, _ => False
abbrev spec_CheckAnswer_e : Ent := ⟨[242], spec_CheckAnswer⟩
theorem spec_CheckAnswer_w : EntOK Tryz.prog TT spec_CheckAnswer_e := ent_ok tabok (L := [spec_LastHead_e, spec_IsFresh_e, spec_l21Proved_e]) ⟨spec_LastHead_w, spec_IsFresh_w, spec_l21Proved_w, trivial⟩ (keep := []) (l := []) Tryz.func242 (by kernel_rfl) (sg := [.one (.sc)]) (by kernel_rfl) trivial fun av k h => by
  unfold spec_CheckAnswer at h; split at h
  · apply un_all h; clear h; intro a2 a3 a4 a5 a6 a7 a8 a9 a10 a11 a12 a13 a14 a15 a16 a17 a18 a19 a20 a21 a22 h; exact Eq.mpr (by kernel_rfl) h
  · exact h.elim

def spec_IsCache_r0 (v : List PV) (K : List PV → Prop) (x0k : PV → PV → PV → PV → PV → PV → PV → PV → PV → PV → PV → PV → PV → PV → PV → PV → PV → PV → PV → PV → PV → PV → PV → PV → PV → PV → PV → PV → PV → PV → PV → PV → PV → PV → PV → PV → PV → PV → PV → PV → Prop) (x1k : PV → PV → PV → PV → PV → PV → PV → PV → PV → PV → PV → PV → PV → PV → PV → PV → PV → PV → PV → PV → PV → PV → PV → PV → PV → PV → PV → PV → PV → PV → PV → PV → PV → PV → PV → PV → PV → PV → PV → PV → Prop) (x2k : PV → PV → PV → Prop) : Prop :=
 un 3 (fun v0 v1 v2 =>
  lenP v2 fun r0 =>
  binP .lss v1 r0 fun r1 =>
  iteP r1
   (elemP 23 v2 v1 fun c2 =>
   call spec_LastHead [.one (atP c2 2)] fun o3 =>
   call spec_l26Find [.agg [v2], .one (atP c2 0), .one (atP c2 1)] fun o4 =>
   binP .neq (atP o4 0) v1 fun r5 =>
   iteP r5
    (x0k (atP o3 0) (atP o3 1) (atP o3 2) (atP o3 3) (atP o3 4) (atP o3 5) (atP o3 6) (atP o3 7) (atP o3 8) (atP o3 9) (atP o3 10) (atP o3 11) (atP o3 12) (atP o3 13) (atP o3 14) (atP o3 15) (atP c2 0) (atP c2 1) (atP c2 2) (atP c2 3) (atP c2 4) (atP c2 5) (atP c2 6) (atP c2 7) (atP c2 8) (atP c2 9) (atP c2 10) (atP c2 11) (atP c2 12) (atP c2 13) (atP c2 14) (atP c2 15) (atP c2 16) (atP c2 17) (atP c2 18) (atP c2 19) (atP c2 20) (atP c2 21) (atP c2 22) v2)
    (call spec_CheckAnswer [.one (atP c2 0), .one (atP c2 1), .agg [(atP c2 2), (atP c2 3), (atP c2 4), (atP c2 5), (atP c2 6), (atP c2 7), (atP c2 8), (atP c2 9), (atP c2 10), (atP c2 11), (atP c2 12), (atP c2 13), (atP c2 14), (atP c2 15), (atP c2 16), (atP c2 17), (atP c2 18), (atP c2 19), (atP c2 20), (atP c2 21), (atP c2 22)], .one (atP o3 3)] fun o6 =>
    binP .neq (atP o6 0) (I 1) fun r7 =>
    iteP r7
     (x1k (atP o3 0) (atP o3 1) (atP o3 2) (atP o3 3) (atP o3 4) (atP o3 5) (atP o3 6) (atP o3 7) (atP o3 8) (atP o3 9) (atP o3 10) (atP o3 11) (atP o3 12) (atP o3 13) (atP o3 14) (atP o3 15) (atP c2 0) (atP c2 1) (atP c2 2) (atP c2 3) (atP c2 4) (atP c2 5) (atP c2 6) (atP c2 7) (atP c2 8) (atP c2 9) (atP c2 10) (atP c2 11) (atP c2 12) (atP c2 13) (atP c2 14) (atP c2 15) (atP c2 16) (atP c2 17) (atP c2 18) (atP c2 19) (atP c2 20) (atP c2 21) (atP c2 22) v2)
     (binP .add v1 (I 1) fun r8 =>
     K [v0, r8, v2])))
   (x2k v0 v1 v2)) v
def spec_IsCache : GM
 | [.agg u0], k => un 1 (fun a0 => 
  lp (fun L w => spec_IsCache_r0 w L
   (fun q9 q10 q11 q12 q13 q14 q15 q16 q17 q18 q19 q20 q21 q22 q23 q24 q25 q26 q27 q28 q29 q30 q31 q32 q33 q34 q35 q36 q37 q38 q39 q40 q41 q42 q43 q44 q45 q46 q47 q48 => rt [.sc] [(.bool false)] k)
   (fun q49 q50 q51 q52 q53 q54 q55 q56 q57 q58 q59 q60 q61 q62 q63 q64 q65 q66 q67 q68 q69 q70 q71 q72 q73 q74 q75 q76 q77 q78 q79 q80 q81 q82 q83 q84 q85 q86 q87 q88 => rt [.sc] [(.bool false)] k)
   (fun q89 q90 q91 => lenP q91 fun r92 =>
    binP .leq r92 (I 16) fun r93 =>
    rt [.sc] [r93] k)) [(.bool false), (I 0), a0]) u0
 | _, _ => False
abbrev spec_IsCache_e : Ent := ⟨[158], spec_IsCache⟩
def spec_IsCache_l : List LE := [⟨0, ⟨[(1, .one (.ptr 0 0)), (2, .one (.pv (.bool false))), (3, .one (.pv (.bool false)))], [(0, [.pv (.bool false)])], [], 1, 50⟩, fun K k v => spec_IsCache_r0 v K (fun x0 x1 x2 x3 x4 x5 x6 x7 x8 x9 x10 x11 x12 x13 x14 x15 x16 x17 x18 x19 x20 x21 x22 x23 x24 x25 x26 x27 x28 x29 x30 x31 x32 x33 x34 x35 x36 x37 x38 x39 => k .ret ⟨[(2, .one (.kb false))], [(19, [.pv x0, .pv x1, .pv x2, .pv x3, .pv x4, .pv x5, .pv x6, .pv x7, .pv x8, .pv x9, .pv x10, .pv x11, .pv x12, .pv x13, .pv x14, .pv x15]), (19, [.pv (I 0), .pv (I 0), .pv (I 0), .pv (I 0), .pv (I 0), .pv (I 0), .pv (I 0), .pv (I 0), .nil 3 1, .pv (I 0), .nil 3 1, .pv (I 0), .pv (I 0), .nil 3 1, .pv (I 0), .pv (.bool false)]), (1, [.pv x16, .pv x17, .pv x18, .pv x19, .pv x20, .pv x21, .pv x22, .pv x23, .pv x24, .pv x25, .pv x26, .pv x27, .pv x28, .pv x29, .pv x30, .pv x31, .pv x32, .pv x33, .pv x34, .pv x35, .pv x36, .pv x37, .pv x38]), (1, [.pv (I 0), .pv (.str ⟨#[]⟩), .nil 155 17, .pv (.bool false), .pv (.str ⟨#[]⟩), .pv (I 0), .pv (I 0), .nil 9 1, .pv (I 0), .nil 3 1, .pv (I 0), .pv (.str ⟨#[]⟩), .pv (I 0), .pv (I 0), .nil 9 1, .pv (.str ⟨#[]⟩), .pv (I 0), .pv (I 0), .nil 9 1, .pv (I 0), .nil 3 1, .pv (I 0), .nil 3 1]), (0, [.pv x39])], [], 21, 50⟩) (fun x0 x1 x2 x3 x4 x5 x6 x7 x8 x9 x10 x11 x12 x13 x14 x15 x16 x17 x18 x19 x20 x21 x22 x23 x24 x25 x26 x27 x28 x29 x30 x31 x32 x33 x34 x35 x36 x37 x38 x39 => k .ret ⟨[(2, .one (.kb false))], [(19, [.pv x0, .pv x1, .pv x2, .pv x3, .pv x4, .pv x5, .pv x6, .pv x7, .pv x8, .pv x9, .pv x10, .pv x11, .pv x12, .pv x13, .pv x14, .pv x15]), (19, [.pv (I 0), .pv (I 0), .pv (I 0), .pv (I 0), .pv (I 0), .pv (I 0), .pv (I 0), .pv (I 0), .nil 3 1, .pv (I 0), .nil 3 1, .pv (I 0), .pv (I 0), .nil 3 1, .pv (I 0), .pv (.bool false)]), (1, [.pv x16, .pv x17, .pv x18, .pv x19, .pv x20, .pv x21, .pv x22, .pv x23, .pv x24, .pv x25, .pv x26, .pv x27, .pv x28, .pv x29, .pv x30, .pv x31, .pv x32, .pv x33, .pv x34, .pv x35, .pv x36, .pv x37, .pv x38]), (1, [.pv (I 0), .pv (.str ⟨#[]⟩), .nil 155 17, .pv (.bool false), .pv (.str ⟨#[]⟩), .pv (I 0), .pv (I 0), .nil 9 1, .pv (I 0), .nil 3 1, .pv (I 0), .pv (.str ⟨#[]⟩), .pv (I 0), .pv (I 0), .nil 9 1, .pv (.str ⟨#[]⟩), .pv (I 0), .pv (I 0), .nil 9 1, .pv (I 0), .nil 3 1, .pv (I 0), .nil 3 1]), (0, [.pv x39])], [], 22, 50⟩) (fun x0 x1 x2 => k (.exit 0) ⟨[(1, .one (.ptr 0 0)), (2, .one (.pv x0)), (3, .one (.pv x1))], [(0, [.pv x2])], [], 1, 50⟩)⟩]
theorem spec_IsCache_s : LEsOK (orac [spec_LastHead_e, spec_l26Find_e, spec_CheckAnswer_e]) TT (kk [1, 2, 3, 35, 36, 37, 38, 39, 40, 41, 42, 43, 44]) (sumsOf spec_IsCache_l) Tryz.f158 spec_IsCache_l := ⟨fun v K k h => by
  apply un_all h; exact fun v0 v1 v2 h => Eq.mpr (by kernel_rfl) h
  , trivial⟩
theorem spec_IsCache_w : EntOK Tryz.prog TT spec_IsCache_e := ent_ok tabok (L := [spec_LastHead_e, spec_l26Find_e, spec_CheckAnswer_e]) ⟨spec_LastHead_w, spec_l26Find_w, spec_CheckAnswer_w, trivial⟩ (keep := (kk [1, 2, 3, 35, 36, 37, 38, 39, 40, 41, 42, 43, 44])) (l := spec_IsCache_l) Tryz.func158 (by kernel_rfl) (sg := [.one (.sc)]) (by kernel_rfl) spec_IsCache_s fun av k h => by
  unfold spec_IsCache at h; split at h
  · apply un_all h; clear h; intro a0 h; exact Eq.mpr (by kernel_rfl) h
  · exact h.elim

def spec_IsWorld_r0 (v : List PV) (K : List PV → Prop) (x0k : PV → PV → PV → PV → PV → PV → PV → PV → Prop) (x1k : PV → PV → PV → PV → PV → PV → PV → PV → PV → PV → Prop) : Prop :=
 un 10 (fun v0 v1 v2 v3 v4 v5 v6 v7 v8 v9 =>
  lenP v5 fun r0 =>
  binP .lss v1 r0 fun r1 =>
  iteP r1
   (elemP 3 v5 v1 fun c2 =>
   call spec_IsZone [.agg [(atP c2 0), (atP c2 1)]] fun o3 =>
   unP .not (atP o3 0) fun r4 =>
   iteP r4
    (x0k v2 v3 v4 v5 v6 v7 v8 v9)
    (binP .add v1 (I 1) fun r5 =>
    K [v0, r5, v2, v3, v4, v5, v6, v7, v8, v9]))
   (x1k v0 v1 v2 v3 v4 v5 v6 v7 v8 v9)) v
def spec_IsWorld_r1 (v : List PV) (K : List PV → Prop) (x0k : PV → PV → PV → PV → PV → PV → PV → PV → Prop) (x1k : PV → PV → PV → PV → PV → PV → PV → PV → PV → PV → PV → Prop) : Prop :=
 un 11 (fun v0 v1 v2 v3 v4 v5 v6 v7 v8 v9 v10 =>
  lenP v7 fun r0 =>
  binP .lss v2 r0 fun r1 =>
  iteP r1
   (elemP 2 v7 v2 fun c2 =>
   call spec_IsServer [.agg [(atP c2 0), (atP c2 1)]] fun o3 =>
   unP .not (atP o3 0) fun r4 =>
   iteP r4
    (x0k v3 v4 v5 v6 v7 v8 v9 v10)
    (binP .add v2 (I 1) fun r5 =>
    K [v0, v1, r5, v3, v4, v5, v6, v7, v8, v9, v10]))
   (x1k v0 v1 v2 v3 v4 v5 v6 v7 v8 v9 v10)) v
def spec_IsWorld : GM
 | [.agg u0], k => un 8 (fun a0 a1 a2 a3 a4 a5 a6 a7 => 
  lp (fun L w => spec_IsWorld_r0 w L
   (fun q6 q7 q8 q9 q10 q11 q12 q13 => rt [.sc] [(.bool false)] k)
   (fun q14 q15 q16 q17 q18 q19 q20 q21 q22 q23 => lp (fun L w => spec_IsWorld_r1 w L
     (fun q24 q25 q26 q27 q28 q29 q30 q31 => rt [.sc] [(.bool false)] k)
     (fun q32 q33 q34 q35 q36 q37 q38 q39 q40 q41 q42 => call spec_l1In [.one q35, .one (I 0), .one (I 99800)] fun o43 =>
      iteP (atP o43 0)
       (call spec_AreActors [.one q36] fun o44 =>
       iteP (atP o44 0)
        (call spec_l35Zones [.one q37] fun o45 =>
        iteP (atP o45 0)
         (lenP q38 fun r46 =>
         binP .leq r46 (I 60) fun r47 =>
         iteP r47
          (lenP q39 fun r48 =>
          binP .leq r48 (I 4) fun r49 =>
          iteP r49
           (call spec_IsKnown [.agg [q40, q41]] fun o50 =>
           iteP (atP o50 0)
            (call spec_IsCache [.agg [q42]] fun o51 =>
            rt [.sc] [(atP o51 0)] k)
            (rt [.sc] [(.bool false)] k))
           (rt [.sc] [(.bool false)] k))
          (rt [.sc] [(.bool false)] k))
         (rt [.sc] [(.bool false)] k))
        (rt [.sc] [(.bool false)] k))
       (rt [.sc] [(.bool false)] k))) [q14, q15, (I 0), q16, q17, q18, q19, q20, q21, q22, q23])) [(.bool false), (I 0), a0, a1, a2, a3, a4, a5, a6, a7]) u0
 | _, _ => False
abbrev spec_IsWorld_e : Ent := ⟨[55], spec_IsWorld⟩
def spec_IsWorld_l : List LE := [⟨0, ⟨[(1, .one (.ptr 0 0)), (2, .one (.pv (.bool false))), (3, .one (.pv (.bool false)))], [(0, [.pv (.bool false), .pv (.bool false), .pv (.bool false), .pv (.bool false), .pv (.bool false), .pv (.bool false), .pv (.bool false), .pv (.bool false)])], [], 1, 69⟩, fun K k v => spec_IsWorld_r0 v K (fun x0 x1 x2 x3 x4 x5 x6 x7 => k .ret ⟨[(2, .one (.kb false))], [(0, [.pv x0, .pv x1, .pv x2, .pv x3, .pv x4, .pv x5, .pv x6, .pv x7])], [], 2, 69⟩) (fun x0 x1 x2 x3 x4 x5 x6 x7 x8 x9 => k (.exit 0) ⟨[(1, .one (.ptr 0 0)), (2, .one (.pv x0)), (3, .one (.pv x1))], [(0, [.pv x2, .pv x3, .pv x4, .pv x5, .pv x6, .pv x7, .pv x8, .pv x9])], [], 1, 69⟩)⟩,
  ⟨1, ⟨[(1, .one (.ptr 0 0)), (2, .one (.pv (.bool false))), (3, .one (.pv (.bool false))), (4, .one (.pv (.bool false)))], [(0, [.pv (.bool false), .pv (.bool false), .pv (.bool false), .pv (.bool false), .pv (.bool false), .pv (.bool false), .pv (.bool false), .pv (.bool false)])], [], 1, 69⟩, fun K k v => spec_IsWorld_r1 v K (fun x0 x1 x2 x3 x4 x5 x6 x7 => k .ret ⟨[(2, .one (.kb false))], [(0, [.pv x0, .pv x1, .pv x2, .pv x3, .pv x4, .pv x5, .pv x6, .pv x7])], [], 2, 69⟩) (fun x0 x1 x2 x3 x4 x5 x6 x7 x8 x9 x10 => k (.exit 2) ⟨[(1, .one (.ptr 0 0)), (2, .one (.pv x0)), (3, .one (.pv x1)), (4, .one (.pv x2))], [(0, [.pv x3, .pv x4, .pv x5, .pv x6, .pv x7, .pv x8, .pv x9, .pv x10])], [], 1, 69⟩)⟩]
theorem spec_IsWorld_s : LEsOK (orac [spec_IsZone_e, spec_IsServer_e, spec_l1In_e, spec_AreActors_e, spec_l35Zones_e, spec_IsKnown_e, spec_IsCache_e]) TT (kk [1, 2, 3, 4, 38, 39, 40, 43, 44, 45, 48, 49, 50, 51, 54, 55, 56, 57, 60, 61, 62, 65, 66, 67]) (sumsOf spec_IsWorld_l) Tryz.f55 spec_IsWorld_l := ⟨fun v K k h => by
  apply un_all h; exact fun v0 v1 v2 v3 v4 v5 v6 v7 v8 v9 h => Eq.mpr (by kernel_rfl) h
  , fun v K k h => by
  apply un_all h; exact fun v0 v1 v2 v3 v4 v5 v6 v7 v8 v9 v10 h => Eq.mpr (by kernel_rfl) h
  , trivial⟩
theorem spec_IsWorld_w : EntOK Tryz.prog TT spec_IsWorld_e := ent_ok tabok (L := [spec_IsZone_e, spec_IsServer_e, spec_l1In_e, spec_AreActors_e, spec_l35Zones_e, spec_IsKnown_e, spec_IsCache_e]) ⟨spec_IsZone_w, spec_IsServer_w, spec_l1In_w, spec_AreActors_w, spec_l35Zones_w, spec_IsKnown_w, spec_IsCache_w, trivial⟩ (keep := (kk [1, 2, 3, 4, 38, 39, 40, 43, 44, 45, 48, 49, 50, 51, 54, 55, 56, 57, 60, 61, 62, 65, 66, 67])) (l := spec_IsWorld_l) Tryz.func55 (by kernel_rfl) (sg := [.one (.sc)]) (by kernel_rfl) spec_IsWorld_s fun av k h => by
  unfold spec_IsWorld at h; split at h
  · apply un_all h; clear h; intro a0 a1 a2 a3 a4 a5 a6 a7 h; exact Eq.mpr (by kernel_rfl) h
  · exact h.elim

def impl_AreActors_1_1 : GM
 | [.one a0], k => 
  call impl_isKey [.one a0] fun o0 =>
  unP .not (atP o0 0) fun r1 =>
  rt [.sc] [r1] k
 | _, _ => False
abbrev impl_AreActors_1_1_e : Ent := ⟨[247], impl_AreActors_1_1⟩
theorem impl_AreActors_1_1_w : EntOK Tryz.prog TT impl_AreActors_1_1_e := ent_ok tabok (L := [impl_isKey_e]) ⟨impl_isKey_w, trivial⟩ (keep := []) (l := []) Tryz.func247 (by kernel_rfl) (sg := [.one (.sc)]) (by kernel_rfl) trivial fun av k h => by
  unfold impl_AreActors_1_1 at h; split at h
  · exact Eq.mpr (by kernel_rfl) h
  · exact h.elim

def slices_IndexFunc_int_F_impl_AreActors_1_1_r0 (v : List PV) (K : List PV → Prop) (x0k : PV → Prop) (x1k : PV → PV → PV → PV → Prop) : Prop :=
 un 4 (fun v0 v1 v2 v3 =>
  binP .lss v3 v2 fun r0 =>
  iteP r0
   (elemP 1 v0 v3 fun c1 =>
   call impl_AreActors_1_1 [.one (atP c1 0)] fun o2 =>
   iteP (atP o2 0)
    (x0k v3)
    (binP .add v3 (I 1) fun r3 =>
    K [v0, v1, v2, r3]))
   (x1k v0 v1 v2 v3)) v
def slices_IndexFunc_int_F_impl_AreActors_1_1 : GM
 | [.one a0, .fn 247 []], k => 
  lenP a0 fun r0 =>
  lp (fun L w => slices_IndexFunc_int_F_impl_AreActors_1_1_r0 w L
   (fun q4 => rt [.sc] [q4] k)
   (fun q5 q6 q7 q8 => rt [.sc] [(I (-1))] k)) [a0, (I 0), r0, (I 0)]
 | _, _ => False
abbrev slices_IndexFunc_int_F_impl_AreActors_1_1_e : Ent := ⟨[303, 247], slices_IndexFunc_int_F_impl_AreActors_1_1⟩
def slices_IndexFunc_int_F_impl_AreActors_1_1_l : List LE := [⟨0, ⟨[(0, .one (.pv (.bool false))), (1, .one (.fn 247 [])), (4, .one (.pv (.bool false))), (7, .one (.pv (.bool false))), (8, .one (.pv (.bool false)))], [], [], 0, 19⟩, fun K k v => slices_IndexFunc_int_F_impl_AreActors_1_1_r0 v K (fun x0 => k .ret ⟨[(4, .one (.pv x0))], [], [], 1, 19⟩) (fun x0 x1 x2 x3 => k (.exit 0) ⟨[(0, .one (.pv x0)), (1, .one (.fn 247 [])), (4, .one (.pv x1)), (7, .one (.pv x2)), (8, .one (.pv x3))], [], [], 0, 19⟩)⟩]
theorem slices_IndexFunc_int_F_impl_AreActors_1_1_s : LEsOK (orac [impl_AreActors_1_1_e]) TT (kk [0, 1, 4, 7, 8]) (sumsOf slices_IndexFunc_int_F_impl_AreActors_1_1_l) Tryz.f303 slices_IndexFunc_int_F_impl_AreActors_1_1_l := ⟨fun v K k h => by
  apply un_all h; exact fun v0 v1 v2 v3 h => Eq.mpr (by kernel_rfl) h
  , trivial⟩
theorem slices_IndexFunc_int_F_impl_AreActors_1_1_w : EntOK Tryz.prog TT slices_IndexFunc_int_F_impl_AreActors_1_1_e := ent_ok tabok (L := [impl_AreActors_1_1_e]) ⟨impl_AreActors_1_1_w, trivial⟩ (keep := (kk [0, 1, 4, 7, 8])) (l := slices_IndexFunc_int_F_impl_AreActors_1_1_l) Tryz.func303 (by kernel_rfl) (sg := [.one (.sc)]) (by kernel_rfl) slices_IndexFunc_int_F_impl_AreActors_1_1_s fun av k h => by
  unfold slices_IndexFunc_int_F_impl_AreActors_1_1 at h; split at h
  · exact Eq.mpr (by kernel_rfl) h
  · exact h.elim

def slices_ContainsFunc_int_F_impl_AreActors_1_1 : GM
 | [.one a0, .fn 247 []], k => 
  call slices_IndexFunc_int_F_impl_AreActors_1_1 [.one a0, .fn 247 []] fun o0 =>
  binP .geq (atP o0 0) (I 0) fun r1 =>
  rt [.sc] [r1] k
 | _, _ => False
abbrev slices_ContainsFunc_int_F_impl_AreActors_1_1_e : Ent := ⟨[246, 247], slices_ContainsFunc_int_F_impl_AreActors_1_1⟩
theorem slices_ContainsFunc_int_F_impl_AreActors_1_1_w : EntOK Tryz.prog TT slices_ContainsFunc_int_F_impl_AreActors_1_1_e := ent_ok tabok (L := [slices_IndexFunc_int_F_impl_AreActors_1_1_e]) ⟨slices_IndexFunc_int_F_impl_AreActors_1_1_w, trivial⟩ (keep := []) (l := []) Tryz.func246 (by kernel_rfl) (sg := [.one (.sc)]) (by kernel_rfl) trivial fun av k h => by
  unfold slices_ContainsFunc_int_F_impl_AreActors_1_1 at h; split at h
  · exact Eq.mpr (by kernel_rfl) h
  · exact h.elim

def impl_AreActors_1 : GM
 | [.agg u0], k => un 1 (fun a0 => 
  lenP a0 fun r0 =>
  binP .gtr r0 (I 20) fun r1 =>
  iteP r1
   (rt [.sc] [(.bool true)] k)
   (call impl_ascending [.one a0] fun o2 =>
   unP .not (atP o2 0) fun r3 =>
   iteP r3
    (rt [.sc] [(.bool true)] k)
    (call slices_ContainsFunc_int_F_impl_AreActors_1_1 [.one a0, .fn 247 []] fun o4 =>
    rt [.sc] [(atP o4 0)] k))) u0
 | _, _ => False
abbrev impl_AreActors_1_e : Ent := ⟨[244], impl_AreActors_1⟩
theorem impl_AreActors_1_w : EntOK Tryz.prog TT impl_AreActors_1_e := ent_ok tabok (L := [impl_ascending_e, slices_ContainsFunc_int_F_impl_AreActors_1_1_e]) ⟨impl_ascending_w, slices_ContainsFunc_int_F_impl_AreActors_1_1_w, trivial⟩ (keep := []) (l := []) Tryz.func244 (by kernel_rfl) (sg := [.one (.sc)]) (by kernel_rfl) trivial fun av k h => by
  unfold impl_AreActors_1 at h; split at h
  · apply un_all h; clear h; intro a0 h; exact Eq.mpr (by kernel_rfl) h
  · exact h.elim

def slices_IndexFunc_Actor_F_impl_AreActors_1_r0 (v : List PV) (K : List PV → Prop) (x0k : PV → Prop) (x1k : PV → PV → PV → PV → Prop) : Prop :=
 un 4 (fun v0 v1 v2 v3 =>
  binP .lss v3 v2 fun r0 =>
  iteP r0
   (elemP 1 v0 v3 fun c1 =>
   call impl_AreActors_1 [.agg [(atP c1 0)]] fun o2 =>
   iteP (atP o2 0)
    (x0k v3)
    (binP .add v3 (I 1) fun r3 =>
    K [v0, v1, v2, r3]))
   (x1k v0 v1 v2 v3)) v
def slices_IndexFunc_Actor_F_impl_AreActors_1 : GM
 | [.one a0, .fn 244 []], k => 
  lenP a0 fun r0 =>
  lp (fun L w => slices_IndexFunc_Actor_F_impl_AreActors_1_r0 w L
   (fun q4 => rt [.sc] [q4] k)
   (fun q5 q6 q7 q8 => rt [.sc] [(I (-1))] k)) [a0, (I 0), r0, (I 0)]
 | _, _ => False
abbrev slices_IndexFunc_Actor_F_impl_AreActors_1_e : Ent := ⟨[302, 244], slices_IndexFunc_Actor_F_impl_AreActors_1⟩
def slices_IndexFunc_Actor_F_impl_AreActors_1_l : List LE := [⟨0, ⟨[(0, .one (.pv (.bool false))), (1, .one (.fn 244 [])), (4, .one (.pv (.bool false))), (7, .one (.pv (.bool false))), (8, .one (.pv (.bool false)))], [], [], 0, 19⟩, fun K k v => slices_IndexFunc_Actor_F_impl_AreActors_1_r0 v K (fun x0 => k .ret ⟨[(4, .one (.pv x0))], [], [], 1, 19⟩) (fun x0 x1 x2 x3 => k (.exit 0) ⟨[(0, .one (.pv x0)), (1, .one (.fn 244 [])), (4, .one (.pv x1)), (7, .one (.pv x2)), (8, .one (.pv x3))], [], [], 0, 19⟩)⟩]
theorem slices_IndexFunc_Actor_F_impl_AreActors_1_s : LEsOK (orac [impl_AreActors_1_e]) TT (kk [0, 1, 4, 7, 8]) (sumsOf slices_IndexFunc_Actor_F_impl_AreActors_1_l) Tryz.f302 slices_IndexFunc_Actor_F_impl_AreActors_1_l := ⟨fun v K k h => by
  apply un_all h; exact fun v0 v1 v2 v3 h => Eq.mpr (by kernel_rfl) h
  , trivial⟩
theorem slices_IndexFunc_Actor_F_impl_AreActors_1_w : EntOK Tryz.prog TT slices_IndexFunc_Actor_F_impl_AreActors_1_e := ent_ok tabok (L := [impl_AreActors_1_e]) ⟨impl_AreActors_1_w, trivial⟩ (keep := (kk [0, 1, 4, 7, 8])) (l := slices_IndexFunc_Actor_F_impl_AreActors_1_l) Tryz.func302 (by kernel_rfl) (sg := [.one (.sc)]) (by kernel_rfl) slices_IndexFunc_Actor_F_impl_AreActors_1_s fun av k h => by
  unfold slices_IndexFunc_Actor_F_impl_AreActors_1 at h; split at h
  · exact Eq.mpr (by kernel_rfl) h
  · exact h.elim

def slices_ContainsFunc_Actor_F_impl_AreActors_1 : GM
 | [.one a0, .fn 244 []], k => 
  call slices_IndexFunc_Actor_F_impl_AreActors_1 [.one a0, .fn 244 []] fun o0 =>
  binP .geq (atP o0 0) (I 0) fun r1 =>
  rt [.sc] [r1] k
 | _, _ => False
abbrev slices_ContainsFunc_Actor_F_impl_AreActors_1_e : Ent := ⟨[243, 244], slices_ContainsFunc_Actor_F_impl_AreActors_1⟩
theorem slices_ContainsFunc_Actor_F_impl_AreActors_1_w : EntOK Tryz.prog TT slices_ContainsFunc_Actor_F_impl_AreActors_1_e := ent_ok tabok (L := [slices_IndexFunc_Actor_F_impl_AreActors_1_e]) ⟨slices_IndexFunc_Actor_F_impl_AreActors_1_w, trivial⟩ (keep := []) (l := []) Tryz.func243 (by kernel_rfl) (sg := [.one (.sc)]) (by kernel_rfl) trivial fun av k h => by
  unfold slices_ContainsFunc_Actor_F_impl_AreActors_1 at h; split at h
  · exact Eq.mpr (by kernel_rfl) h
  · exact h.elim

def impl_AreActors : GM
 | [.one a0], k => 
  lenP a0 fun r0 =>
  binP .leq r0 (I 4) fun r1 =>
  iteP r1
   (call slices_ContainsFunc_Actor_F_impl_AreActors_1 [.one a0, .fn 244 []] fun o2 =>
   unP .not (atP o2 0) fun r3 =>
   rt [.sc] [r3] k)
   (rt [.sc] [(.bool false)] k)
 | _, _ => False
abbrev impl_AreActors_e : Ent := ⟨[160], impl_AreActors⟩
theorem impl_AreActors_w : EntOK Tryz.prog TT impl_AreActors_e := ent_ok tabok (L := [slices_ContainsFunc_Actor_F_impl_AreActors_1_e]) ⟨slices_ContainsFunc_Actor_F_impl_AreActors_1_w, trivial⟩ (keep := []) (l := []) Tryz.func160 (by kernel_rfl) (sg := [.one (.sc)]) (by kernel_rfl) trivial fun av k h => by
  unfold impl_AreActors at h; split at h
  · exact Eq.mpr (by kernel_rfl) h
  · exact h.elim

def impl_World_zoneAt_1 : GM
 | [.agg u0, .ro (.cells u1)], k => un 2 (fun a0 a1 => un 1 (fun a2 => 
  call impl_ZoneId [.agg [a0, a1]] fun o0 =>
  binP .eql (atP o0 0) a2 fun r1 =>
  rt [.sc] [r1] k) u1) u0
 | _, _ => False
abbrev impl_World_zoneAt_1_e : Ent := ⟨[304], impl_World_zoneAt_1⟩
theorem impl_World_zoneAt_1_w : EntOK Tryz.prog TT impl_World_zoneAt_1_e := ent_ok tabok (L := [impl_ZoneId_e]) ⟨impl_ZoneId_w, trivial⟩ (keep := []) (l := []) Tryz.func304 (by kernel_rfl) (sg := [.one (.sc)]) (by kernel_rfl) trivial fun av k h => by
  unfold impl_World_zoneAt_1 at h; split at h
  · apply un_all h; clear h; intro a0 a1 h; apply un_all h; clear h; intro a2 h; exact Eq.mpr (by kernel_rfl) h
  · exact h.elim

def slices_IndexFunc_Zone_F_impl_World_zoneAt_1_r0 (v : List PV) (K : List PV → Prop) (x0k : PV → Prop) (x1k : PV → PV → PV → PV → PV → Prop) : Prop :=
 un 5 (fun v0 v1 v2 v3 v4 =>
  binP .lss v4 v3 fun r0 =>
  iteP r0
   (elemP 2 v0 v4 fun c1 =>
   call impl_World_zoneAt_1 [.agg [(atP c1 0), (atP c1 1)], .ro (.cells [v1])] fun o2 =>
   iteP (atP o2 0)
    (x0k v4)
    (binP .add v4 (I 1) fun r3 =>
    K [v0, v1, v2, v3, r3]))
   (x1k v0 v1 v2 v3 v4)) v
def slices_IndexFunc_Zone_F_impl_World_zoneAt_1 : GM
 | [.one a0, .fn 304 [.cells u0]], k => un 1 (fun a1 => 
  lenP a0 fun r0 =>
  lp (fun L w => slices_IndexFunc_Zone_F_impl_World_zoneAt_1_r0 w L
   (fun q4 => rt [.sc] [q4] k)
   (fun q5 q6 q7 q8 q9 => rt [.sc] [(I (-1))] k)) [a0, a1, (I 0), r0, (I 0)]) u0
 | _, _ => False
abbrev slices_IndexFunc_Zone_F_impl_World_zoneAt_1_e : Ent := ⟨[212, 304], slices_IndexFunc_Zone_F_impl_World_zoneAt_1⟩
def slices_IndexFunc_Zone_F_impl_World_zoneAt_1_l : List LE := [⟨0, ⟨[(0, .one (.pv (.bool false))), (1, .one (.fn 304 [.ro (.cells [(.bool false)])])), (4, .one (.pv (.bool false))), (7, .one (.pv (.bool false))), (8, .one (.pv (.bool false)))], [], [], 0, 19⟩, fun K k v => slices_IndexFunc_Zone_F_impl_World_zoneAt_1_r0 v K (fun x0 => k .ret ⟨[(4, .one (.pv x0))], [], [], 1, 19⟩) (fun x0 x1 x2 x3 x4 => k (.exit 0) ⟨[(0, .one (.pv x0)), (1, .one (.fn 304 [.ro (.cells [x1])])), (4, .one (.pv x2)), (7, .one (.pv x3)), (8, .one (.pv x4))], [], [], 0, 19⟩)⟩]
theorem slices_IndexFunc_Zone_F_impl_World_zoneAt_1_s : LEsOK (orac [impl_World_zoneAt_1_e]) TT (kk [0, 1, 4, 7, 8]) (sumsOf slices_IndexFunc_Zone_F_impl_World_zoneAt_1_l) Tryz.f212 slices_IndexFunc_Zone_F_impl_World_zoneAt_1_l := ⟨fun v K k h => by
  apply un_all h; exact fun v0 v1 v2 v3 v4 h => Eq.mpr (by kernel_rfl) h
  , trivial⟩
theorem slices_IndexFunc_Zone_F_impl_World_zoneAt_1_w : EntOK Tryz.prog TT slices_IndexFunc_Zone_F_impl_World_zoneAt_1_e := ent_ok tabok (L := [impl_World_zoneAt_1_e]) ⟨impl_World_zoneAt_1_w, trivial⟩ (keep := (kk [0, 1, 4, 7, 8])) (l := slices_IndexFunc_Zone_F_impl_World_zoneAt_1_l) Tryz.func212 (by kernel_rfl) (sg := [.one (.sc)]) (by kernel_rfl) slices_IndexFunc_Zone_F_impl_World_zoneAt_1_s fun av k h => by
  unfold slices_IndexFunc_Zone_F_impl_World_zoneAt_1 at h; split at h
  · apply un_all h; clear h; intro a1 h; exact Eq.mpr (by kernel_rfl) h
  · exact h.elim

def impl_World_zoneAt : GM
 | [.agg u0, .one a8], k => un 8 (fun a0 a1 a2 a3 a4 a5 a6 a7 => 
  call slices_IndexFunc_Zone_F_impl_World_zoneAt_1 [.one a2, .fn 304 [.cells [a8]]] fun o0 =>
  rt [.sc] [(atP o0 0)] k) u0
 | _, _ => False
abbrev impl_World_zoneAt_e : Ent := ⟨[249], impl_World_zoneAt⟩
theorem impl_World_zoneAt_w : EntOK Tryz.prog TT impl_World_zoneAt_e := ent_ok tabok (L := [slices_IndexFunc_Zone_F_impl_World_zoneAt_1_e]) ⟨slices_IndexFunc_Zone_F_impl_World_zoneAt_1_w, trivial⟩ (keep := []) (l := []) Tryz.func249 (by kernel_rfl) (sg := [.one (.sc)]) (by kernel_rfl) trivial fun av k h => by
  unfold impl_World_zoneAt at h; split at h
  · apply un_all h; clear h; intro a0 a1 a2 a3 a4 a5 a6 a7 h; exact Eq.mpr (by kernel_rfl) h
  · exact h.elim

def impl_World_hasZones_r0 (v : List PV) (K : List PV → Prop) (x0k : PV → PV → PV → PV → PV → PV → PV → PV → PV → PV → Prop) (x1k : PV → PV → PV → PV → PV → PV → PV → PV → PV → PV → Prop) (x2k : PV → PV → PV → PV → PV → PV → PV → PV → PV → PV → PV → PV → Prop) : Prop :=
 un 12 (fun v0 v1 v2 v3 v4 v5 v6 v7 v8 v9 v10 v11 =>
  binP .lss v3 v2 fun r0 =>
  iteP r0
   (elemP 2 v1 v3 fun c1 =>
   call impl_ZoneId [.agg [(atP c1 0), (atP c1 1)]] fun o2 =>
   binP .lss (atP o2 0) (I 0) fun r3 =>
   iteP r3
    (x0k (atP c1 0) (atP c1 1) v4 v5 v6 v7 v8 v9 v10 v11)
    (call impl_World_zoneAt [.agg [v4, v5, v6, v7, v8, v9, v10, v11], .one (atP o2 0)] fun o4 =>
    binP .neq (atP o4 0) v3 fun r5 =>
    iteP r5
     (x1k (atP c1 0) (atP c1 1) v4 v5 v6 v7 v8 v9 v10 v11)
     (binP .add v3 (I 1) fun r6 =>
     K [v0, v1, v2, r6, v4, v5, v6, v7, v8, v9, v10, v11])))
   (x2k v0 v1 v2 v3 v4 v5 v6 v7 v8 v9 v10 v11)) v
def impl_World_hasZones : GM
 | [.agg u0], k => un 8 (fun a0 a1 a2 a3 a4 a5 a6 a7 => 
  lenP a2 fun r0 =>
  lp (fun L w => impl_World_hasZones_r0 w L
   (fun q7 q8 q9 q10 q11 q12 q13 q14 q15 q16 => rt [.sc] [(.bool false)] k)
   (fun q17 q18 q19 q20 q21 q22 q23 q24 q25 q26 => rt [.sc] [(.bool false)] k)
   (fun q27 q28 q29 q30 q31 q32 q33 q34 q35 q36 q37 q38 => lenP q33 fun r39 =>
    binP .leq r39 (I 8) fun r40 =>
    rt [.sc] [r40] k)) [(.bool false), a2, r0, (I 0), a0, a1, a2, a3, a4, a5, a6, a7]) u0
 | _, _ => False
abbrev impl_World_hasZones_e : Ent := ⟨[161], impl_World_hasZones⟩
def impl_World_hasZones_l : List LE := [⟨0, ⟨[(1, .one (.ptr 0 0)), (2, .one (.pv (.bool false))), (7, .one (.pv (.bool false))), (8, .one (.pv (.bool false))), (9, .one (.pv (.bool false)))], [(0, [.pv (.bool false), .pv (.bool false), .pv (.bool false), .pv (.bool false), .pv (.bool false), .pv (.bool false), .pv (.bool false), .pv (.bool false)])], [], 1, 30⟩, fun K k v => impl_World_hasZones_r0 v K (fun x0 x1 x2 x3 x4 x5 x6 x7 x8 x9 => k .ret ⟨[(2, .one (.kb false))], [(1, [.pv x0, .pv x1]), (1, [.nil 155 17, .nil 101 4]), (0, [.pv x2, .pv x3, .pv x4, .pv x5, .pv x6, .pv x7, .pv x8, .pv x9])], [], 3, 30⟩) (fun x0 x1 x2 x3 x4 x5 x6 x7 x8 x9 => k .ret ⟨[(2, .one (.kb false))], [(1, [.pv x0, .pv x1]), (1, [.nil 155 17, .nil 101 4]), (0, [.pv x2, .pv x3, .pv x4, .pv x5, .pv x6, .pv x7, .pv x8, .pv x9])], [], 4, 30⟩) (fun x0 x1 x2 x3 x4 x5 x6 x7 x8 x9 x10 x11 => k (.exit 0) ⟨[(1, .one (.ptr 0 0)), (2, .one (.pv x0)), (7, .one (.pv x1)), (8, .one (.pv x2)), (9, .one (.pv x3))], [(0, [.pv x4, .pv x5, .pv x6, .pv x7, .pv x8, .pv x9, .pv x10, .pv x11])], [], 1, 30⟩)⟩]
theorem impl_World_hasZones_s : LEsOK (orac [impl_ZoneId_e, impl_World_zoneAt_e]) TT (kk [1, 2, 7, 8, 9, 19, 20, 21, 22, 23]) (sumsOf impl_World_hasZones_l) Tryz.f161 impl_World_hasZones_l := ⟨fun v K k h => by
  apply un_all h; exact fun v0 v1 v2 v3 v4 v5 v6 v7 v8 v9 v10 v11 h => Eq.mpr (by kernel_rfl) h
  , trivial⟩
theorem impl_World_hasZones_w : EntOK Tryz.prog TT impl_World_hasZones_e := ent_ok tabok (L := [impl_ZoneId_e, impl_World_zoneAt_e]) ⟨impl_ZoneId_w, impl_World_zoneAt_w, trivial⟩ (keep := (kk [1, 2, 7, 8, 9, 19, 20, 21, 22, 23])) (l := impl_World_hasZones_l) Tryz.func161 (by kernel_rfl) (sg := [.one (.sc)]) (by kernel_rfl) impl_World_hasZones_s fun av k h => by
  unfold impl_World_hasZones at h; split at h
  · apply un_all h; clear h; intro a0 a1 a2 a3 a4 a5 a6 a7 h; exact Eq.mpr (by kernel_rfl) h
  · exact h.elim

def impl_IsWorld_1 : GM
 | [.agg u0], k => un 3 (fun a0 a1 a2 => 
  call impl_IsZone [.agg [a0, a1]] fun o0 =>
  unP .not (atP o0 0) fun r1 =>
  rt [.sc] [r1] k) u0
 | _, _ => False
abbrev impl_IsWorld_1_e : Ent := ⟨[163], impl_IsWorld_1⟩
theorem impl_IsWorld_1_w : EntOK Tryz.prog TT impl_IsWorld_1_e := ent_ok tabok (L := [impl_IsZone_e]) ⟨impl_IsZone_w, trivial⟩ (keep := []) (l := []) Tryz.func163 (by kernel_rfl) (sg := [.one (.sc)]) (by kernel_rfl) trivial fun av k h => by
  unfold impl_IsWorld_1 at h; split at h
  · apply un_all h; clear h; intro a0 a1 a2 h; exact Eq.mpr (by kernel_rfl) h
  · exact h.elim

def slices_IndexFunc_Said_F_impl_IsWorld_1_r0 (v : List PV) (K : List PV → Prop) (x0k : PV → Prop) (x1k : PV → PV → PV → PV → Prop) : Prop :=
 un 4 (fun v0 v1 v2 v3 =>
  binP .lss v3 v2 fun r0 =>
  iteP r0
   (elemP 3 v0 v3 fun c1 =>
   call impl_IsWorld_1 [.agg [(atP c1 0), (atP c1 1), (atP c1 2)]] fun o2 =>
   iteP (atP o2 0)
    (x0k v3)
    (binP .add v3 (I 1) fun r3 =>
    K [v0, v1, v2, r3]))
   (x1k v0 v1 v2 v3)) v
def slices_IndexFunc_Said_F_impl_IsWorld_1 : GM
 | [.one a0, .fn 163 []], k => 
  lenP a0 fun r0 =>
  lp (fun L w => slices_IndexFunc_Said_F_impl_IsWorld_1_r0 w L
   (fun q4 => rt [.sc] [q4] k)
   (fun q5 q6 q7 q8 => rt [.sc] [(I (-1))] k)) [a0, (I 0), r0, (I 0)]
 | _, _ => False
abbrev slices_IndexFunc_Said_F_impl_IsWorld_1_e : Ent := ⟨[250, 163], slices_IndexFunc_Said_F_impl_IsWorld_1⟩
def slices_IndexFunc_Said_F_impl_IsWorld_1_l : List LE := [⟨0, ⟨[(0, .one (.pv (.bool false))), (1, .one (.fn 163 [])), (4, .one (.pv (.bool false))), (7, .one (.pv (.bool false))), (8, .one (.pv (.bool false)))], [], [], 0, 19⟩, fun K k v => slices_IndexFunc_Said_F_impl_IsWorld_1_r0 v K (fun x0 => k .ret ⟨[(4, .one (.pv x0))], [], [], 1, 19⟩) (fun x0 x1 x2 x3 => k (.exit 0) ⟨[(0, .one (.pv x0)), (1, .one (.fn 163 [])), (4, .one (.pv x1)), (7, .one (.pv x2)), (8, .one (.pv x3))], [], [], 0, 19⟩)⟩]
theorem slices_IndexFunc_Said_F_impl_IsWorld_1_s : LEsOK (orac [impl_IsWorld_1_e]) TT (kk [0, 1, 4, 7, 8]) (sumsOf slices_IndexFunc_Said_F_impl_IsWorld_1_l) Tryz.f250 slices_IndexFunc_Said_F_impl_IsWorld_1_l := ⟨fun v K k h => by
  apply un_all h; exact fun v0 v1 v2 v3 h => Eq.mpr (by kernel_rfl) h
  , trivial⟩
theorem slices_IndexFunc_Said_F_impl_IsWorld_1_w : EntOK Tryz.prog TT slices_IndexFunc_Said_F_impl_IsWorld_1_e := ent_ok tabok (L := [impl_IsWorld_1_e]) ⟨impl_IsWorld_1_w, trivial⟩ (keep := (kk [0, 1, 4, 7, 8])) (l := slices_IndexFunc_Said_F_impl_IsWorld_1_l) Tryz.func250 (by kernel_rfl) (sg := [.one (.sc)]) (by kernel_rfl) slices_IndexFunc_Said_F_impl_IsWorld_1_s fun av k h => by
  unfold slices_IndexFunc_Said_F_impl_IsWorld_1 at h; split at h
  · exact Eq.mpr (by kernel_rfl) h
  · exact h.elim

def slices_ContainsFunc_Said_F_impl_IsWorld_1 : GM
 | [.one a0, .fn 163 []], k => 
  call slices_IndexFunc_Said_F_impl_IsWorld_1 [.one a0, .fn 163 []] fun o0 =>
  binP .geq (atP o0 0) (I 0) fun r1 =>
  rt [.sc] [r1] k
 | _, _ => False
abbrev slices_ContainsFunc_Said_F_impl_IsWorld_1_e : Ent := ⟨[162, 163], slices_ContainsFunc_Said_F_impl_IsWorld_1⟩
theorem slices_ContainsFunc_Said_F_impl_IsWorld_1_w : EntOK Tryz.prog TT slices_ContainsFunc_Said_F_impl_IsWorld_1_e := ent_ok tabok (L := [slices_IndexFunc_Said_F_impl_IsWorld_1_e]) ⟨slices_IndexFunc_Said_F_impl_IsWorld_1_w, trivial⟩ (keep := []) (l := []) Tryz.func162 (by kernel_rfl) (sg := [.one (.sc)]) (by kernel_rfl) trivial fun av k h => by
  unfold slices_ContainsFunc_Said_F_impl_IsWorld_1 at h; split at h
  · exact Eq.mpr (by kernel_rfl) h
  · exact h.elim

def impl_IsServer_1 : GM
 | [.agg u0], k => un 2 (fun a0 a1 => 
  call impl_IsZone [.agg [a0, a1]] fun o0 =>
  unP .not (atP o0 0) fun r1 =>
  rt [.sc] [r1] k) u0
 | _, _ => False
abbrev impl_IsServer_1_e : Ent := ⟨[251], impl_IsServer_1⟩
theorem impl_IsServer_1_w : EntOK Tryz.prog TT impl_IsServer_1_e := ent_ok tabok (L := [impl_IsZone_e]) ⟨impl_IsZone_w, trivial⟩ (keep := []) (l := []) Tryz.func251 (by kernel_rfl) (sg := [.one (.sc)]) (by kernel_rfl) trivial fun av k h => by
  unfold impl_IsServer_1 at h; split at h
  · apply un_all h; clear h; intro a0 a1 h; exact Eq.mpr (by kernel_rfl) h
  · exact h.elim

def slices_IndexFunc_Zone_F_impl_IsServer_1_r0 (v : List PV) (K : List PV → Prop) (x0k : PV → Prop) (x1k : PV → PV → PV → PV → Prop) : Prop :=
 un 4 (fun v0 v1 v2 v3 =>
  binP .lss v3 v2 fun r0 =>
  iteP r0
   (elemP 2 v0 v3 fun c1 =>
   call impl_IsServer_1 [.agg [(atP c1 0), (atP c1 1)]] fun o2 =>
   iteP (atP o2 0)
    (x0k v3)
    (binP .add v3 (I 1) fun r3 =>
    K [v0, v1, v2, r3]))
   (x1k v0 v1 v2 v3)) v
def slices_IndexFunc_Zone_F_impl_IsServer_1 : GM
 | [.one a0, .fn 251 []], k => 
  lenP a0 fun r0 =>
  lp (fun L w => slices_IndexFunc_Zone_F_impl_IsServer_1_r0 w L
   (fun q4 => rt [.sc] [q4] k)
   (fun q5 q6 q7 q8 => rt [.sc] [(I (-1))] k)) [a0, (I 0), r0, (I 0)]
 | _, _ => False
abbrev slices_IndexFunc_Zone_F_impl_IsServer_1_e : Ent := ⟨[212, 251], slices_IndexFunc_Zone_F_impl_IsServer_1⟩
def slices_IndexFunc_Zone_F_impl_IsServer_1_l : List LE := [⟨0, ⟨[(0, .one (.pv (.bool false))), (1, .one (.fn 251 [])), (4, .one (.pv (.bool false))), (7, .one (.pv (.bool false))), (8, .one (.pv (.bool false)))], [], [], 0, 19⟩, fun K k v => slices_IndexFunc_Zone_F_impl_IsServer_1_r0 v K (fun x0 => k .ret ⟨[(4, .one (.pv x0))], [], [], 1, 19⟩) (fun x0 x1 x2 x3 => k (.exit 0) ⟨[(0, .one (.pv x0)), (1, .one (.fn 251 [])), (4, .one (.pv x1)), (7, .one (.pv x2)), (8, .one (.pv x3))], [], [], 0, 19⟩)⟩]
theorem slices_IndexFunc_Zone_F_impl_IsServer_1_s : LEsOK (orac [impl_IsServer_1_e]) TT (kk [0, 1, 4, 7, 8]) (sumsOf slices_IndexFunc_Zone_F_impl_IsServer_1_l) Tryz.f212 slices_IndexFunc_Zone_F_impl_IsServer_1_l := ⟨fun v K k h => by
  apply un_all h; exact fun v0 v1 v2 v3 h => Eq.mpr (by kernel_rfl) h
  , trivial⟩
theorem slices_IndexFunc_Zone_F_impl_IsServer_1_w : EntOK Tryz.prog TT slices_IndexFunc_Zone_F_impl_IsServer_1_e := ent_ok tabok (L := [impl_IsServer_1_e]) ⟨impl_IsServer_1_w, trivial⟩ (keep := (kk [0, 1, 4, 7, 8])) (l := slices_IndexFunc_Zone_F_impl_IsServer_1_l) Tryz.func212 (by kernel_rfl) (sg := [.one (.sc)]) (by kernel_rfl) slices_IndexFunc_Zone_F_impl_IsServer_1_s fun av k h => by
  unfold slices_IndexFunc_Zone_F_impl_IsServer_1 at h; split at h
  · exact Eq.mpr (by kernel_rfl) h
  · exact h.elim

def slices_ContainsFunc_Zone_F_impl_IsServer_1 : GM
 | [.one a0, .fn 251 []], k => 
  call slices_IndexFunc_Zone_F_impl_IsServer_1 [.one a0, .fn 251 []] fun o0 =>
  binP .geq (atP o0 0) (I 0) fun r1 =>
  rt [.sc] [r1] k
 | _, _ => False
abbrev slices_ContainsFunc_Zone_F_impl_IsServer_1_e : Ent := ⟨[116, 251], slices_ContainsFunc_Zone_F_impl_IsServer_1⟩
theorem slices_ContainsFunc_Zone_F_impl_IsServer_1_w : EntOK Tryz.prog TT slices_ContainsFunc_Zone_F_impl_IsServer_1_e := ent_ok tabok (L := [slices_IndexFunc_Zone_F_impl_IsServer_1_e]) ⟨slices_IndexFunc_Zone_F_impl_IsServer_1_w, trivial⟩ (keep := []) (l := []) Tryz.func116 (by kernel_rfl) (sg := [.one (.sc)]) (by kernel_rfl) trivial fun av k h => by
  unfold slices_ContainsFunc_Zone_F_impl_IsServer_1 at h; split at h
  · exact Eq.mpr (by kernel_rfl) h
  · exact h.elim

def impl_IsServer : GM
 | [.agg u0], k => un 2 (fun a0 a1 => 
  lenP a0 fun r0 =>
  binP .leq r0 (I 8) fun r1 =>
  iteP r1
   (call slices_ContainsFunc_Zone_F_impl_IsServer_1 [.one a0, .fn 251 []] fun o2 =>
   unP .not (atP o2 0) fun r3 =>
   iteP r3
    (call impl_InRange [.one a1, .one (I 0), .one (I 4)] fun o4 =>
    rt [.sc] [(atP o4 0)] k)
    (rt [.sc] [(.bool false)] k))
   (rt [.sc] [(.bool false)] k)) u0
 | _, _ => False
abbrev impl_IsServer_e : Ent := ⟨[165], impl_IsServer⟩
theorem impl_IsServer_w : EntOK Tryz.prog TT impl_IsServer_e := ent_ok tabok (L := [slices_ContainsFunc_Zone_F_impl_IsServer_1_e, impl_InRange_e]) ⟨slices_ContainsFunc_Zone_F_impl_IsServer_1_w, impl_InRange_w, trivial⟩ (keep := []) (l := []) Tryz.func165 (by kernel_rfl) (sg := [.one (.sc)]) (by kernel_rfl) trivial fun av k h => by
  unfold impl_IsServer at h; split at h
  · apply un_all h; clear h; intro a0 a1 h; exact Eq.mpr (by kernel_rfl) h
  · exact h.elim

def impl_IsWorld_2 : GM
 | [.agg u0], k => un 2 (fun a0 a1 => 
  call impl_IsServer [.agg [a0, a1]] fun o0 =>
  unP .not (atP o0 0) fun r1 =>
  rt [.sc] [r1] k) u0
 | _, _ => False
abbrev impl_IsWorld_2_e : Ent := ⟨[164], impl_IsWorld_2⟩
theorem impl_IsWorld_2_w : EntOK Tryz.prog TT impl_IsWorld_2_e := ent_ok tabok (L := [impl_IsServer_e]) ⟨impl_IsServer_w, trivial⟩ (keep := []) (l := []) Tryz.func164 (by kernel_rfl) (sg := [.one (.sc)]) (by kernel_rfl) trivial fun av k h => by
  unfold impl_IsWorld_2 at h; split at h
  · apply un_all h; clear h; intro a0 a1 h; exact Eq.mpr (by kernel_rfl) h
  · exact h.elim

def slices_IndexFunc_Server_F_impl_IsWorld_2_r0 (v : List PV) (K : List PV → Prop) (x0k : PV → Prop) (x1k : PV → PV → PV → PV → Prop) : Prop :=
 un 4 (fun v0 v1 v2 v3 =>
  binP .lss v3 v2 fun r0 =>
  iteP r0
   (elemP 2 v0 v3 fun c1 =>
   call impl_IsWorld_2 [.agg [(atP c1 0), (atP c1 1)]] fun o2 =>
   iteP (atP o2 0)
    (x0k v3)
    (binP .add v3 (I 1) fun r3 =>
    K [v0, v1, v2, r3]))
   (x1k v0 v1 v2 v3)) v
def slices_IndexFunc_Server_F_impl_IsWorld_2 : GM
 | [.one a0, .fn 164 []], k => 
  lenP a0 fun r0 =>
  lp (fun L w => slices_IndexFunc_Server_F_impl_IsWorld_2_r0 w L
   (fun q4 => rt [.sc] [q4] k)
   (fun q5 q6 q7 q8 => rt [.sc] [(I (-1))] k)) [a0, (I 0), r0, (I 0)]
 | _, _ => False
abbrev slices_IndexFunc_Server_F_impl_IsWorld_2_e : Ent := ⟨[211, 164], slices_IndexFunc_Server_F_impl_IsWorld_2⟩
def slices_IndexFunc_Server_F_impl_IsWorld_2_l : List LE := [⟨0, ⟨[(0, .one (.pv (.bool false))), (1, .one (.fn 164 [])), (4, .one (.pv (.bool false))), (7, .one (.pv (.bool false))), (8, .one (.pv (.bool false)))], [], [], 0, 19⟩, fun K k v => slices_IndexFunc_Server_F_impl_IsWorld_2_r0 v K (fun x0 => k .ret ⟨[(4, .one (.pv x0))], [], [], 1, 19⟩) (fun x0 x1 x2 x3 => k (.exit 0) ⟨[(0, .one (.pv x0)), (1, .one (.fn 164 [])), (4, .one (.pv x1)), (7, .one (.pv x2)), (8, .one (.pv x3))], [], [], 0, 19⟩)⟩]
theorem slices_IndexFunc_Server_F_impl_IsWorld_2_s : LEsOK (orac [impl_IsWorld_2_e]) TT (kk [0, 1, 4, 7, 8]) (sumsOf slices_IndexFunc_Server_F_impl_IsWorld_2_l) Tryz.f211 slices_IndexFunc_Server_F_impl_IsWorld_2_l := ⟨fun v K k h => by
  apply un_all h; exact fun v0 v1 v2 v3 h => Eq.mpr (by kernel_rfl) h
  , trivial⟩
theorem slices_IndexFunc_Server_F_impl_IsWorld_2_w : EntOK Tryz.prog TT slices_IndexFunc_Server_F_impl_IsWorld_2_e := ent_ok tabok (L := [impl_IsWorld_2_e]) ⟨impl_IsWorld_2_w, trivial⟩ (keep := (kk [0, 1, 4, 7, 8])) (l := slices_IndexFunc_Server_F_impl_IsWorld_2_l) Tryz.func211 (by kernel_rfl) (sg := [.one (.sc)]) (by kernel_rfl) slices_IndexFunc_Server_F_impl_IsWorld_2_s fun av k h => by
  unfold slices_IndexFunc_Server_F_impl_IsWorld_2 at h; split at h
  · exact Eq.mpr (by kernel_rfl) h
  · exact h.elim

def slices_ContainsFunc_Server_F_impl_IsWorld_2 : GM
 | [.one a0, .fn 164 []], k => 
  call slices_IndexFunc_Server_F_impl_IsWorld_2 [.one a0, .fn 164 []] fun o0 =>
  binP .geq (atP o0 0) (I 0) fun r1 =>
  rt [.sc] [r1] k
 | _, _ => False
abbrev slices_ContainsFunc_Server_F_impl_IsWorld_2_e : Ent := ⟨[114, 164], slices_ContainsFunc_Server_F_impl_IsWorld_2⟩
theorem slices_ContainsFunc_Server_F_impl_IsWorld_2_w : EntOK Tryz.prog TT slices_ContainsFunc_Server_F_impl_IsWorld_2_e := ent_ok tabok (L := [slices_IndexFunc_Server_F_impl_IsWorld_2_e]) ⟨slices_IndexFunc_Server_F_impl_IsWorld_2_w, trivial⟩ (keep := []) (l := []) Tryz.func114 (by kernel_rfl) (sg := [.one (.sc)]) (by kernel_rfl) trivial fun av k h => by
  unfold slices_ContainsFunc_Server_F_impl_IsWorld_2 at h; split at h
  · exact Eq.mpr (by kernel_rfl) h
  · exact h.elim

def impl_Known_find_1 : GM
 | [.one a0, .ro (.cells u0)], k => un 1 (fun a1 => 
  lenP a0 fun r0 =>
  binP .gtr r0 (I 0) fun r1 =>
  iteP r1
   (elemP 17 a0 (I 0) fun c2 =>
   binP .eql (atP c2 0) a1 fun r3 =>
   rt [.sc] [r3] k)
   (rt [.sc] [(.bool false)] k)) u0
 | _, _ => False
abbrev impl_Known_find_1_e : Ent := ⟨[306], impl_Known_find_1⟩
theorem impl_Known_find_1_w : EntOK Tryz.prog TT impl_Known_find_1_e := ent_ok tabok (L := []) trivial (keep := []) (l := []) Tryz.func306 (by kernel_rfl) (sg := [.one (.sc)]) (by kernel_rfl) trivial fun av k h => by
  unfold impl_Known_find_1 at h; split at h
  · apply un_all h; clear h; intro a1 h; exact Eq.mpr (by kernel_rfl) h
  · exact h.elim

def slices_IndexFunc_Signed_F_impl_Known_find_1_r0 (v : List PV) (K : List PV → Prop) (x0k : PV → Prop) (x1k : PV → PV → PV → PV → PV → Prop) : Prop :=
 un 5 (fun v0 v1 v2 v3 v4 =>
  binP .lss v4 v3 fun r0 =>
  iteP r0
   (elemP 1 v0 v4 fun c1 =>
   call impl_Known_find_1 [.one (atP c1 0), .ro (.cells [v1])] fun o2 =>
   iteP (atP o2 0)
    (x0k v4)
    (binP .add v4 (I 1) fun r3 =>
    K [v0, v1, v2, v3, r3]))
   (x1k v0 v1 v2 v3 v4)) v
def slices_IndexFunc_Signed_F_impl_Known_find_1 : GM
 | [.one a0, .fn 306 [.cells u0]], k => un 1 (fun a1 => 
  lenP a0 fun r0 =>
  lp (fun L w => slices_IndexFunc_Signed_F_impl_Known_find_1_r0 w L
   (fun q4 => rt [.sc] [q4] k)
   (fun q5 q6 q7 q8 q9 => rt [.sc] [(I (-1))] k)) [a0, a1, (I 0), r0, (I 0)]) u0
 | _, _ => False
abbrev slices_IndexFunc_Signed_F_impl_Known_find_1_e : Ent := ⟨[305, 306], slices_IndexFunc_Signed_F_impl_Known_find_1⟩
def slices_IndexFunc_Signed_F_impl_Known_find_1_l : List LE := [⟨0, ⟨[(0, .one (.pv (.bool false))), (1, .one (.fn 306 [.ro (.cells [(.bool false)])])), (4, .one (.pv (.bool false))), (7, .one (.pv (.bool false))), (8, .one (.pv (.bool false)))], [], [], 0, 19⟩, fun K k v => slices_IndexFunc_Signed_F_impl_Known_find_1_r0 v K (fun x0 => k .ret ⟨[(4, .one (.pv x0))], [], [], 1, 19⟩) (fun x0 x1 x2 x3 x4 => k (.exit 0) ⟨[(0, .one (.pv x0)), (1, .one (.fn 306 [.ro (.cells [x1])])), (4, .one (.pv x2)), (7, .one (.pv x3)), (8, .one (.pv x4))], [], [], 0, 19⟩)⟩]
theorem slices_IndexFunc_Signed_F_impl_Known_find_1_s : LEsOK (orac [impl_Known_find_1_e]) TT (kk [0, 1, 4, 7, 8]) (sumsOf slices_IndexFunc_Signed_F_impl_Known_find_1_l) Tryz.f305 slices_IndexFunc_Signed_F_impl_Known_find_1_l := ⟨fun v K k h => by
  apply un_all h; exact fun v0 v1 v2 v3 v4 h => Eq.mpr (by kernel_rfl) h
  , trivial⟩
theorem slices_IndexFunc_Signed_F_impl_Known_find_1_w : EntOK Tryz.prog TT slices_IndexFunc_Signed_F_impl_Known_find_1_e := ent_ok tabok (L := [impl_Known_find_1_e]) ⟨impl_Known_find_1_w, trivial⟩ (keep := (kk [0, 1, 4, 7, 8])) (l := slices_IndexFunc_Signed_F_impl_Known_find_1_l) Tryz.func305 (by kernel_rfl) (sg := [.one (.sc)]) (by kernel_rfl) slices_IndexFunc_Signed_F_impl_Known_find_1_s fun av k h => by
  unfold slices_IndexFunc_Signed_F_impl_Known_find_1 at h; split at h
  · apply un_all h; clear h; intro a1 h; exact Eq.mpr (by kernel_rfl) h
  · exact h.elim

def impl_Known_find : GM
 | [.agg u0, .one a2], k => un 2 (fun a0 a1 => 
  call slices_IndexFunc_Signed_F_impl_Known_find_1 [.one a0, .fn 306 [.cells [a2]]] fun o0 =>
  rt [.sc] [(atP o0 0)] k) u0
 | _, _ => False
abbrev impl_Known_find_e : Ent := ⟨[252], impl_Known_find⟩
theorem impl_Known_find_w : EntOK Tryz.prog TT impl_Known_find_e := ent_ok tabok (L := [slices_IndexFunc_Signed_F_impl_Known_find_1_e]) ⟨slices_IndexFunc_Signed_F_impl_Known_find_1_w, trivial⟩ (keep := []) (l := []) Tryz.func252 (by kernel_rfl) (sg := [.one (.sc)]) (by kernel_rfl) trivial fun av k h => by
  unfold impl_Known_find at h; split at h
  · apply un_all h; clear h; intro a0 a1 h; exact Eq.mpr (by kernel_rfl) h
  · exact h.elim

def impl_IsFork : GM
 | [.agg u0], k => un 51 (fun a0 a1 a2 a3 a4 a5 a6 a7 a8 a9 a10 a11 a12 a13 a14 a15 a16 a17 a18 a19 a20 a21 a22 a23 a24 a25 a26 a27 a28 a29 a30 a31 a32 a33 a34 a35 a36 a37 a38 a39 a40 a41 a42 a43 a44 a45 a46 a47 a48 a49 a50 => 
  call impl_EqualHeads [.agg [a17, a18, a19, a20, a21, a22, a23, a24, a25, a26, a27, a28, a29, a30, a31, a32], .agg [a34, a35, a36, a37, a38, a39, a40, a41, a42, a43, a44, a45, a46, a47, a48, a49]] fun o0 =>
  iteP (atP o0 0)
   (rt [.sc] [(.bool false)] k)
   (call impl_EqualSigned [.agg [a0, a1, a2, a3, a4, a5, a6, a7, a8, a9, a10, a11, a12, a13, a14, a15, a16], .agg [(I 0), (I 0), (I 0), (I 0), (I 0), (I 0), (I 0), (I 0), (.list 1 []), (I 0), (.list 1 []), (I 0), (I 0), (.list 1 []), (I 0), (.bool false), (.list 2 [])]] fun o1 =>
   iteP (atP o1 0)
    (call impl_IsFirst [.agg [a17, a18, a19, a20, a21, a22, a23, a24, a25, a26, a27, a28, a29, a30, a31, a32, a33]] fun o2 =>
    iteP (atP o2 0)
     (call impl_IsFirst [.agg [a34, a35, a36, a37, a38, a39, a40, a41, a42, a43, a44, a45, a46, a47, a48, a49, a50]] fun o3 =>
     iteP (atP o3 0)
      (binP .eql a17 a34 fun r4 =>
      rt [.sc] [r4] k)
      (rt [.sc] [(.bool false)] k))
     (rt [.sc] [(.bool false)] k))
    (call impl_MayFollow [.agg [a0, a1, a2, a3, a4, a5, a6, a7, a8, a9, a10, a11, a12, a13, a14, a15], .agg [a17, a18, a19, a20, a21, a22, a23, a24, a25, a26, a27, a28, a29, a30, a31, a32, a33]] fun o5 =>
    iteP (atP o5 0)
     (call impl_MayFollow [.agg [a0, a1, a2, a3, a4, a5, a6, a7, a8, a9, a10, a11, a12, a13, a14, a15], .agg [a34, a35, a36, a37, a38, a39, a40, a41, a42, a43, a44, a45, a46, a47, a48, a49, a50]] fun o6 =>
     rt [.sc] [(atP o6 0)] k)
     (rt [.sc] [(.bool false)] k)))) u0
 | _, _ => False
abbrev impl_IsFork_e : Ent := ⟨[254], impl_IsFork⟩
theorem impl_IsFork_w : EntOK Tryz.prog TT impl_IsFork_e := ent_ok tabok (L := [impl_EqualHeads_e, impl_EqualSigned_e, impl_IsFirst_e, impl_MayFollow_e]) ⟨impl_EqualHeads_w, impl_EqualSigned_w, impl_IsFirst_w, impl_MayFollow_w, trivial⟩ (keep := []) (l := []) Tryz.func254 (by kernel_rfl) (sg := [.one (.sc)]) (by kernel_rfl) trivial fun av k h => by
  unfold impl_IsFork at h; split at h
  · apply un_all h; clear h; intro a0 a1 a2 a3 a4 a5 a6 a7 a8 a9 a10 a11 a12 a13 a14 a15 a16 a17 a18 a19 a20 a21 a22 a23 a24 a25 a26 a27 a28 a29 a30 a31 a32 a33 a34 a35 a36 a37 a38 a39 a40 a41 a42 a43 a44 a45 a46 a47 a48 a49 a50 h; exact Eq.mpr (by kernel_rfl) h
  · exact h.elim

def impl_IsKnown_1 : GM
 | [.agg u0], k => un 51 (fun a0 a1 a2 a3 a4 a5 a6 a7 a8 a9 a10 a11 a12 a13 a14 a15 a16 a17 a18 a19 a20 a21 a22 a23 a24 a25 a26 a27 a28 a29 a30 a31 a32 a33 a34 a35 a36 a37 a38 a39 a40 a41 a42 a43 a44 a45 a46 a47 a48 a49 a50 => 
  call impl_IsFork [.agg [a0, a1, a2, a3, a4, a5, a6, a7, a8, a9, a10, a11, a12, a13, a14, a15, a16, a17, a18, a19, a20, a21, a22, a23, a24, a25, a26, a27, a28, a29, a30, a31, a32, a33, a34, a35, a36, a37, a38, a39, a40, a41, a42, a43, a44, a45, a46, a47, a48, a49, a50]] fun o0 =>
  unP .not (atP o0 0) fun r1 =>
  rt [.sc] [r1] k) u0
 | _, _ => False
abbrev impl_IsKnown_1_e : Ent := ⟨[253], impl_IsKnown_1⟩
theorem impl_IsKnown_1_w : EntOK Tryz.prog TT impl_IsKnown_1_e := ent_ok tabok (L := [impl_IsFork_e]) ⟨impl_IsFork_w, trivial⟩ (keep := []) (l := []) Tryz.func253 (by kernel_rfl) (sg := [.one (.sc)]) (by kernel_rfl) trivial fun av k h => by
  unfold impl_IsKnown_1 at h; split at h
  · apply un_all h; clear h; intro a0 a1 a2 a3 a4 a5 a6 a7 a8 a9 a10 a11 a12 a13 a14 a15 a16 a17 a18 a19 a20 a21 a22 a23 a24 a25 a26 a27 a28 a29 a30 a31 a32 a33 a34 a35 a36 a37 a38 a39 a40 a41 a42 a43 a44 a45 a46 a47 a48 a49 a50 h; exact Eq.mpr (by kernel_rfl) h
  · exact h.elim

def slices_IndexFunc_Fork_F_impl_IsKnown_1_r0 (v : List PV) (K : List PV → Prop) (x0k : PV → Prop) (x1k : PV → PV → PV → PV → Prop) : Prop :=
 un 4 (fun v0 v1 v2 v3 =>
  binP .lss v3 v2 fun r0 =>
  iteP r0
   (elemP 51 v0 v3 fun c1 =>
   call impl_IsKnown_1 [.agg [(atP c1 0), (atP c1 1), (atP c1 2), (atP c1 3), (atP c1 4), (atP c1 5), (atP c1 6), (atP c1 7), (atP c1 8), (atP c1 9), (atP c1 10), (atP c1 11), (atP c1 12), (atP c1 13), (atP c1 14), (atP c1 15), (atP c1 16), (atP c1 17), (atP c1 18), (atP c1 19), (atP c1 20), (atP c1 21), (atP c1 22), (atP c1 23), (atP c1 24), (atP c1 25), (atP c1 26), (atP c1 27), (atP c1 28), (atP c1 29), (atP c1 30), (atP c1 31), (atP c1 32), (atP c1 33), (atP c1 34), (atP c1 35), (atP c1 36), (atP c1 37), (atP c1 38), (atP c1 39), (atP c1 40), (atP c1 41), (atP c1 42), (atP c1 43), (atP c1 44), (atP c1 45), (atP c1 46), (atP c1 47), (atP c1 48), (atP c1 49), (atP c1 50)]] fun o2 =>
   iteP (atP o2 0)
    (x0k v3)
    (binP .add v3 (I 1) fun r3 =>
    K [v0, v1, v2, r3]))
   (x1k v0 v1 v2 v3)) v
def slices_IndexFunc_Fork_F_impl_IsKnown_1 : GM
 | [.one a0, .fn 253 []], k => 
  lenP a0 fun r0 =>
  lp (fun L w => slices_IndexFunc_Fork_F_impl_IsKnown_1_r0 w L
   (fun q4 => rt [.sc] [q4] k)
   (fun q5 q6 q7 q8 => rt [.sc] [(I (-1))] k)) [a0, (I 0), r0, (I 0)]
 | _, _ => False
abbrev slices_IndexFunc_Fork_F_impl_IsKnown_1_e : Ent := ⟨[213, 253], slices_IndexFunc_Fork_F_impl_IsKnown_1⟩
def slices_IndexFunc_Fork_F_impl_IsKnown_1_l : List LE := [⟨0, ⟨[(0, .one (.pv (.bool false))), (1, .one (.fn 253 [])), (4, .one (.pv (.bool false))), (7, .one (.pv (.bool false))), (8, .one (.pv (.bool false)))], [], [], 0, 19⟩, fun K k v => slices_IndexFunc_Fork_F_impl_IsKnown_1_r0 v K (fun x0 => k .ret ⟨[(4, .one (.pv x0))], [], [], 1, 19⟩) (fun x0 x1 x2 x3 => k (.exit 0) ⟨[(0, .one (.pv x0)), (1, .one (.fn 253 [])), (4, .one (.pv x1)), (7, .one (.pv x2)), (8, .one (.pv x3))], [], [], 0, 19⟩)⟩]
theorem slices_IndexFunc_Fork_F_impl_IsKnown_1_s : LEsOK (orac [impl_IsKnown_1_e]) TT (kk [0, 1, 4, 7, 8]) (sumsOf slices_IndexFunc_Fork_F_impl_IsKnown_1_l) Tryz.f213 slices_IndexFunc_Fork_F_impl_IsKnown_1_l := ⟨fun v K k h => by
  apply un_all h; exact fun v0 v1 v2 v3 h => Eq.mpr (by kernel_rfl) h
  , trivial⟩
theorem slices_IndexFunc_Fork_F_impl_IsKnown_1_w : EntOK Tryz.prog TT slices_IndexFunc_Fork_F_impl_IsKnown_1_e := ent_ok tabok (L := [impl_IsKnown_1_e]) ⟨impl_IsKnown_1_w, trivial⟩ (keep := (kk [0, 1, 4, 7, 8])) (l := slices_IndexFunc_Fork_F_impl_IsKnown_1_l) Tryz.func213 (by kernel_rfl) (sg := [.one (.sc)]) (by kernel_rfl) slices_IndexFunc_Fork_F_impl_IsKnown_1_s fun av k h => by
  unfold slices_IndexFunc_Fork_F_impl_IsKnown_1 at h; split at h
  · exact Eq.mpr (by kernel_rfl) h
  · exact h.elim

def slices_ContainsFunc_Fork_F_impl_IsKnown_1 : GM
 | [.one a0, .fn 253 []], k => 
  call slices_IndexFunc_Fork_F_impl_IsKnown_1 [.one a0, .fn 253 []] fun o0 =>
  binP .geq (atP o0 0) (I 0) fun r1 =>
  rt [.sc] [r1] k
 | _, _ => False
abbrev slices_ContainsFunc_Fork_F_impl_IsKnown_1_e : Ent := ⟨[120, 253], slices_ContainsFunc_Fork_F_impl_IsKnown_1⟩
theorem slices_ContainsFunc_Fork_F_impl_IsKnown_1_w : EntOK Tryz.prog TT slices_ContainsFunc_Fork_F_impl_IsKnown_1_e := ent_ok tabok (L := [slices_IndexFunc_Fork_F_impl_IsKnown_1_e]) ⟨slices_IndexFunc_Fork_F_impl_IsKnown_1_w, trivial⟩ (keep := []) (l := []) Tryz.func120 (by kernel_rfl) (sg := [.one (.sc)]) (by kernel_rfl) trivial fun av k h => by
  unfold slices_ContainsFunc_Fork_F_impl_IsKnown_1 at h; split at h
  · exact Eq.mpr (by kernel_rfl) h
  · exact h.elim

def impl_IsKnown_r0 (v : List PV) (K : List PV → Prop) (x0k : PV → PV → Prop) (x1k : PV → PV → Prop) (x2k : PV → PV → PV → PV → PV → PV → Prop) : Prop :=
 un 6 (fun v0 v1 v2 v3 v4 v5 =>
  binP .lss v3 v2 fun r0 =>
  iteP r0
   (elemP 1 v1 v3 fun c1 =>
   call impl_IsChain [.one (atP c1 0)] fun o2 =>
   unP .not (atP o2 0) fun r3 =>
   iteP r3
    (x0k v4 v5)
    (elemP 17 (atP c1 0) (I 0) fun c4 =>
    call impl_Known_find [.agg [v4, v5], .one (atP c4 0)] fun o5 =>
    binP .neq (atP o5 0) v3 fun r6 =>
    iteP r6
     (x1k v4 v5)
     (binP .add v3 (I 1) fun r7 =>
     K [v0, v1, v2, r7, v4, v5])))
   (x2k v0 v1 v2 v3 v4 v5)) v
def impl_IsKnown : GM
 | [.agg u0], k => un 2 (fun a0 a1 => 
  lenP a0 fun r0 =>
  lp (fun L w => impl_IsKnown_r0 w L
   (fun q8 q9 => rt [.sc] [(.bool false)] k)
   (fun q10 q11 => rt [.sc] [(.bool false)] k)
   (fun q12 q13 q14 q15 q16 q17 => lenP q16 fun r18 =>
    binP .leq r18 (I 8) fun r19 =>
    iteP r19
     (lenP q17 fun r20 =>
     binP .leq r20 (I 8) fun r21 =>
     iteP r21
      (call slices_ContainsFunc_Fork_F_impl_IsKnown_1 [.one q17, .fn 253 []] fun o22 =>
      unP .not (atP o22 0) fun r23 =>
      rt [.sc] [r23] k)
      (rt [.sc] [(.bool false)] k))
     (rt [.sc] [(.bool false)] k))) [(.bool false), a0, r0, (I 0), a0, a1]) u0
 | _, _ => False
abbrev impl_IsKnown_e : Ent := ⟨[166], impl_IsKnown⟩
def impl_IsKnown_l : List LE := [⟨0, ⟨[(1, .one (.ptr 0 0)), (2, .one (.pv (.bool false))), (6, .one (.pv (.bool false))), (7, .one (.pv (.bool false))), (8, .one (.pv (.bool false)))], [(0, [.pv (.bool false), .pv (.bool false)])], [], 1, 44⟩, fun K k v => impl_IsKnown_r0 v K (fun x0 x1 => k .ret ⟨[(2, .one (.kb false))], [(0, [.pv x0, .pv x1])], [], 2, 44⟩) (fun x0 x1 => k .ret ⟨[(2, .one (.kb false))], [(0, [.pv x0, .pv x1])], [], 3, 44⟩) (fun x0 x1 x2 x3 x4 x5 => k (.exit 0) ⟨[(1, .one (.ptr 0 0)), (2, .one (.pv x0)), (6, .one (.pv x1)), (7, .one (.pv x2)), (8, .one (.pv x3))], [(0, [.pv x4, .pv x5])], [], 1, 44⟩)⟩]
theorem impl_IsKnown_s : LEsOK (orac [impl_IsChain_e, impl_Known_find_e, slices_ContainsFunc_Fork_F_impl_IsKnown_1_e]) TT (kk [1, 2, 6, 7, 8, 17, 18, 19, 20, 21, 22, 23, 24, 25, 33, 34, 35, 36, 39, 40, 41, 42]) (sumsOf impl_IsKnown_l) Tryz.f166 impl_IsKnown_l := ⟨fun v K k h => by
  apply un_all h; exact fun v0 v1 v2 v3 v4 v5 h => Eq.mpr (by kernel_rfl) h
  , trivial⟩
theorem impl_IsKnown_w : EntOK Tryz.prog TT impl_IsKnown_e := ent_ok tabok (L := [impl_IsChain_e, impl_Known_find_e, slices_ContainsFunc_Fork_F_impl_IsKnown_1_e]) ⟨impl_IsChain_w, impl_Known_find_w, slices_ContainsFunc_Fork_F_impl_IsKnown_1_w, trivial⟩ (keep := (kk [1, 2, 6, 7, 8, 17, 18, 19, 20, 21, 22, 23, 24, 25, 33, 34, 35, 36, 39, 40, 41, 42])) (l := impl_IsKnown_l) Tryz.func166 (by kernel_rfl) (sg := [.one (.sc)]) (by kernel_rfl) impl_IsKnown_s fun av k h => by
  unfold impl_IsKnown at h; split at h
  · apply un_all h; clear h; intro a0 a1 h; exact Eq.mpr (by kernel_rfl) h
  · exact h.elim

def impl_Cache_find_1 : GM
 | [.agg u0, .ro (.cells u1), .ro (.cells u2)], k => un 23 (fun a0 a1 a2 a3 a4 a5 a6 a7 a8 a9 a10 a11 a12 a13 a14 a15 a16 a17 a18 a19 a20 a21 a22 => un 1 (fun a23 => un 1 (fun a24 => 
  binP .eql a0 a23 fun r0 =>
  iteP r0
   (binP .eql a1 a24 fun r1 =>
   rt [.sc] [r1] k)
   (rt [.sc] [(.bool false)] k)) u2) u1) u0
 | _, _ => False
abbrev impl_Cache_find_1_e : Ent := ⟨[310], impl_Cache_find_1⟩
theorem impl_Cache_find_1_w : EntOK Tryz.prog TT impl_Cache_find_1_e := ent_ok tabok (L := []) trivial (keep := []) (l := []) Tryz.func310 (by kernel_rfl) (sg := [.one (.sc)]) (by kernel_rfl) trivial fun av k h => by
  unfold impl_Cache_find_1 at h; split at h
  · apply un_all h; clear h; intro a0 a1 a2 a3 a4 a5 a6 a7 a8 a9 a10 a11 a12 a13 a14 a15 a16 a17 a18 a19 a20 a21 a22 h; apply un_all h; clear h; intro a23 h; apply un_all h; clear h; intro a24 h; exact Eq.mpr (by kernel_rfl) h
  · exact h.elim

def slices_IndexFunc_Stored_F_impl_Cache_find_1_r0 (v : List PV) (K : List PV → Prop) (x0k : PV → Prop) (x1k : PV → PV → PV → PV → PV → PV → Prop) : Prop :=
 un 6 (fun v0 v1 v2 v3 v4 v5 =>
  binP .lss v5 v4 fun r0 =>
  iteP r0
   (elemP 23 v0 v5 fun c1 =>
   call impl_Cache_find_1 [.agg [(atP c1 0), (atP c1 1), (atP c1 2), (atP c1 3), (atP c1 4), (atP c1 5), (atP c1 6), (atP c1 7), (atP c1 8), (atP c1 9), (atP c1 10), (atP c1 11), (atP c1 12), (atP c1 13), (atP c1 14), (atP c1 15), (atP c1 16), (atP c1 17), (atP c1 18), (atP c1 19), (atP c1 20), (atP c1 21), (atP c1 22)], .ro (.cells [v1]), .ro (.cells [v2])] fun o2 =>
   iteP (atP o2 0)
    (x0k v5)
    (binP .add v5 (I 1) fun r3 =>
    K [v0, v1, v2, v3, v4, r3]))
   (x1k v0 v1 v2 v3 v4 v5)) v
def slices_IndexFunc_Stored_F_impl_Cache_find_1 : GM
 | [.one a0, .fn 310 [.cells u0, .cells u1]], k => un 1 (fun a1 => un 1 (fun a2 => 
  lenP a0 fun r0 =>
  lp (fun L w => slices_IndexFunc_Stored_F_impl_Cache_find_1_r0 w L
   (fun q4 => rt [.sc] [q4] k)
   (fun q5 q6 q7 q8 q9 q10 => rt [.sc] [(I (-1))] k)) [a0, a1, a2, (I 0), r0, (I 0)]) u1) u0
 | _, _ => False
abbrev slices_IndexFunc_Stored_F_impl_Cache_find_1_e : Ent := ⟨[309, 310], slices_IndexFunc_Stored_F_impl_Cache_find_1⟩
def slices_IndexFunc_Stored_F_impl_Cache_find_1_l : List LE := [⟨0, ⟨[(0, .one (.pv (.bool false))), (1, .one (.fn 310 [.ro (.cells [(.bool false)]), .ro (.cells [(.bool false)])])), (4, .one (.pv (.bool false))), (7, .one (.pv (.bool false))), (8, .one (.pv (.bool false)))], [], [], 0, 19⟩, fun K k v => slices_IndexFunc_Stored_F_impl_Cache_find_1_r0 v K (fun x0 => k .ret ⟨[(4, .one (.pv x0))], [], [], 1, 19⟩) (fun x0 x1 x2 x3 x4 x5 => k (.exit 0) ⟨[(0, .one (.pv x0)), (1, .one (.fn 310 [.ro (.cells [x1]), .ro (.cells [x2])])), (4, .one (.pv x3)), (7, .one (.pv x4)), (8, .one (.pv x5))], [], [], 0, 19⟩)⟩]
theorem slices_IndexFunc_Stored_F_impl_Cache_find_1_s : LEsOK (orac [impl_Cache_find_1_e]) TT (kk [0, 1, 4, 7, 8]) (sumsOf slices_IndexFunc_Stored_F_impl_Cache_find_1_l) Tryz.f309 slices_IndexFunc_Stored_F_impl_Cache_find_1_l := ⟨fun v K k h => by
  apply un_all h; exact fun v0 v1 v2 v3 v4 v5 h => Eq.mpr (by kernel_rfl) h
  , trivial⟩
theorem slices_IndexFunc_Stored_F_impl_Cache_find_1_w : EntOK Tryz.prog TT slices_IndexFunc_Stored_F_impl_Cache_find_1_e := ent_ok tabok (L := [impl_Cache_find_1_e]) ⟨impl_Cache_find_1_w, trivial⟩ (keep := (kk [0, 1, 4, 7, 8])) (l := slices_IndexFunc_Stored_F_impl_Cache_find_1_l) Tryz.func309 (by kernel_rfl) (sg := [.one (.sc)]) (by kernel_rfl) slices_IndexFunc_Stored_F_impl_Cache_find_1_s fun av k h => by
  unfold slices_IndexFunc_Stored_F_impl_Cache_find_1 at h; split at h
  · apply un_all h; clear h; intro a1 h; apply un_all h; clear h; intro a2 h; exact Eq.mpr (by kernel_rfl) h
  · exact h.elim

def impl_Cache_find : GM
 | [.agg u0, .one a1, .one a2], k => un 1 (fun a0 => 
  call slices_IndexFunc_Stored_F_impl_Cache_find_1 [.one a0, .fn 310 [.cells [a1], .cells [a2]]] fun o0 =>
  rt [.sc] [(atP o0 0)] k) u0
 | _, _ => False
abbrev impl_Cache_find_e : Ent := ⟨[255], impl_Cache_find⟩
theorem impl_Cache_find_w : EntOK Tryz.prog TT impl_Cache_find_e := ent_ok tabok (L := [slices_IndexFunc_Stored_F_impl_Cache_find_1_e]) ⟨slices_IndexFunc_Stored_F_impl_Cache_find_1_w, trivial⟩ (keep := []) (l := []) Tryz.func255 (by kernel_rfl) (sg := [.one (.sc)]) (by kernel_rfl) trivial fun av k h => by
  unfold impl_Cache_find at h; split at h
  · apply un_all h; clear h; intro a0 h; exact Eq.mpr (by kernel_rfl) h
  · exact h.elim

def impl_TopFrom_r0 (v : List PV) (K : List PV → Prop) (x0k : Prop) (x1k : PV → PV → PV → PV → PV → PV → Prop) : Prop :=
 un 6 (fun v0 v1 v2 v3 v4 v5 =>
  binP .gtr v2 (I 1) fun r0 =>
  iteP r0
   (binP .xor v1 (I 1) fun r1 =>
   binP .geq r1 v2 fun r2 =>
   iteP r2
    (binP .quo v1 (I 2) fun r3 =>
    binP .add v2 (I 1) fun r4 =>
    binP .quo r4 (I 2) fun r5 =>
    K [v0, r3, r5, v3, v4, v5])
    (lenP v3 fun r6 =>
    binP .eql r6 (I 0) fun r7 =>
    iteP r7
     (x0k)
     (binP .rem v1 (I 2) fun r8 =>
     binP .eql r8 (I 0) fun r9 =>
     iteP r9
      (elemP 1 v3 (I 0) fun c10 =>
      call impl_NodeOf [.one v0, .one (atP c10 0)] fun o11 =>
      natP (I 1) fun n12 =>
      cutP 1 v3 (some n12) none fun r13 =>
      binP .quo v1 (I 2) fun r14 =>
      binP .add v2 (I 1) fun r15 =>
      binP .quo r15 (I 2) fun r16 =>
      K [(atP o11 0), r14, r16, r13, v4, v5])
      (elemP 1 v3 (I 0) fun c17 =>
      call impl_NodeOf [.one (atP c17 0), .one v0] fun o18 =>
      natP (I 1) fun n19 =>
      cutP 1 v3 (some n19) none fun r20 =>
      binP .quo v1 (I 2) fun r21 =>
      binP .add v2 (I 1) fun r22 =>
      binP .quo r22 (I 2) fun r23 =>
      K [(atP o18 0), r21, r23, r20, v4, v5]))))
   (x1k v0 v1 v2 v3 v4 v5)) v
def impl_TopFrom : GM
 | [.one a0, .one a1, .one a2, .one a3], k => 
  binP .lss a2 (I 1) fun r0 =>
  iteP r0
   (rt [.sc, .sc] [(I 0), (.bool false)] k)
   (binP .gtr a2 (I 12) fun r1 =>
   iteP r1
    (rt [.sc, .sc] [(I 0), (.bool false)] k)
    (binP .sub a2 (I 1) fun r2 =>
    call impl_InRange [.one a1, .one (I 0), .one r2] fun o3 =>
    unP .not (atP o3 0) fun r4 =>
    iteP r4
     (rt [.sc, .sc] [(I 0), (.bool false)] k)
     (lp (fun L w => impl_TopFrom_r0 w L
      (rt [.sc, .sc] [(I 0), (.bool false)] k)
      (fun q24 q25 q26 q27 q28 q29 => lenP q27 fun r30 =>
       binP .gtr r30 (I 0) fun r31 =>
       iteP r31
        (rt [.sc, .sc] [(I 0), (.bool false)] k)
        (rt [.sc, .sc] [q24, (.bool true)] k))) [a0, a1, a2, a3, (I 0), (.bool false)])))
 | _, _ => False
abbrev impl_TopFrom_e : Ent := ⟨[373], impl_TopFrom⟩
def impl_TopFrom_l : List LE := [⟨0, ⟨[(0, .one (.pv (.bool false))), (1, .one (.pv (.bool false))), (2, .one (.pv (.bool false))), (3, .one (.pv (.bool false))), (8, .one (.pv (.bool false))), (9, .one (.pv (.bool false)))], [], [], 1, 56⟩, fun K k v => impl_TopFrom_r0 v K (k .ret ⟨[(8, .one (.pv (I 0))), (9, .one (.kb false))], [], [], 1, 56⟩) (fun x0 x1 x2 x3 x4 x5 => k (.exit 0) ⟨[(0, .one (.pv x0)), (1, .one (.pv x1)), (2, .one (.pv x2)), (3, .one (.pv x3)), (8, .one (.pv x4)), (9, .one (.pv x5))], [], [], 1, 56⟩)⟩]
theorem impl_TopFrom_s : LEsOK (orac [impl_InRange_e, impl_NodeOf_e]) TT (kk [0, 1, 2, 3, 8, 9]) (sumsOf impl_TopFrom_l) Tryz.f373 impl_TopFrom_l := ⟨fun v K k h => by
  apply un_all h; exact fun v0 v1 v2 v3 v4 v5 h => Eq.mpr (by kernel_rfl) h
  , trivial⟩
theorem impl_TopFrom_w : EntOK Tryz.prog TT impl_TopFrom_e := ent_ok tabok (L := [impl_InRange_e, impl_NodeOf_e]) ⟨impl_InRange_w, impl_NodeOf_w, trivial⟩ (keep := (kk [0, 1, 2, 3, 8, 9])) (l := impl_TopFrom_l) Tryz.func373 (by kernel_rfl) (sg := [.one (.sc), .one (.sc)]) (by kernel_rfl) impl_TopFrom_s fun av k h => by
  unfold impl_TopFrom at h; split at h
  · exact Eq.mpr (by kernel_rfl) h
  · exact h.elim

def impl_CheckEntry : GM
 | [.one a0, .one a1, .agg u0, .agg u1], k => un 4 (fun a2 a3 a4 a5 => un 2 (fun a6 a7 => 
  call impl_LeafOf [.agg [a2, a3, a4, a5]] fun o0 =>
  call impl_TopFrom [.one (atP o0 0), .one a6, .one a1, .one a7] fun o1 =>
  iteP (atP o1 1)
   (call impl_IsEntry [.agg [a2, a3, a4, a5]] fun o2 =>
   iteP (atP o2 0)
    (call impl_rootFrom [.one a1, .one (atP o1 0)] fun o3 =>
    binP .eql (atP o3 0) a0 fun r4 =>
    rt [.sc] [r4] k)
    (rt [.sc] [(.bool false)] k))
   (rt [.sc] [(.bool false)] k)) u1) u0
 | _, _ => False
abbrev impl_CheckEntry_e : Ent := ⟨[343], impl_CheckEntry⟩
theorem impl_CheckEntry_w : EntOK Tryz.prog TT impl_CheckEntry_e := ent_ok tabok (L := [impl_LeafOf_e, impl_TopFrom_e, impl_IsEntry_e, impl_rootFrom_e]) ⟨impl_LeafOf_w, impl_TopFrom_w, impl_IsEntry_w, impl_rootFrom_w, trivial⟩ (keep := []) (l := []) Tryz.func343 (by kernel_rfl) (sg := [.one (.sc)]) (by kernel_rfl) trivial fun av k h => by
  unfold impl_CheckEntry at h; split at h
  · apply un_all h; clear h; intro a2 a3 a4 a5 h; apply un_all h; clear h; intro a6 a7 h; exact Eq.mpr (by kernel_rfl) h
  · exact h.elim

def impl_isZeroEntry : GM
 | [.agg u0], k => un 4 (fun a0 a1 a2 a3 => 
  call impl_EqualEntries [.agg [a0, a1, a2, a3], .agg [(.str ⟨#[]⟩), (I 0), (I 0), (.list 1 [])]] fun o0 =>
  rt [.sc] [(atP o0 0)] k) u0
 | _, _ => False
abbrev impl_isZeroEntry_e : Ent := ⟨[345], impl_isZeroEntry⟩
theorem impl_isZeroEntry_w : EntOK Tryz.prog TT impl_isZeroEntry_e := ent_ok tabok (L := [impl_EqualEntries_e]) ⟨impl_EqualEntries_w, trivial⟩ (keep := []) (l := []) Tryz.func345 (by kernel_rfl) (sg := [.one (.sc)]) (by kernel_rfl) trivial fun av k h => by
  unfold impl_isZeroEntry at h; split at h
  · apply un_all h; clear h; intro a0 a1 a2 a3 h; exact Eq.mpr (by kernel_rfl) h
  · exact h.elim

def impl_isZeroProof : GM
 | [.agg u0], k => un 2 (fun a0 a1 => 
  call impl_EqualProofs [.agg [a0, a1], .agg [(I 0), (.list 1 [])]] fun o0 =>
  rt [.sc] [(atP o0 0)] k) u0
 | _, _ => False
abbrev impl_isZeroProof_e : Ent := ⟨[346], impl_isZeroProof⟩
theorem impl_isZeroProof_w : EntOK Tryz.prog TT impl_isZeroProof_e := ent_ok tabok (L := [impl_EqualProofs_e]) ⟨impl_EqualProofs_w, trivial⟩ (keep := []) (l := []) Tryz.func346 (by kernel_rfl) (sg := [.one (.sc)]) (by kernel_rfl) trivial fun av k h => by
  unfold impl_isZeroProof at h; split at h
  · apply un_all h; clear h; intro a0 a1 h; exact Eq.mpr (by kernel_rfl) h
  · exact h.elim

def impl_neighbourHolds : GM
 | [.one a0, .one a1, .agg u0, .agg u1, .one a8], k => un 4 (fun a2 a3 a4 a5 => un 2 (fun a6 a7 => 
  binP .sub a1 (I 1) fun r0 =>
  call impl_InRange [.one a8, .one (I 0), .one r0] fun o1 =>
  unP .not (atP o1 0) fun r2 =>
  iteP r2
   (call impl_isZeroEntry [.agg [a2, a3, a4, a5]] fun o3 =>
   iteP (atP o3 0)
    (call impl_isZeroProof [.agg [a6, a7]] fun o4 =>
    rt [.sc] [(atP o4 0)] k)
    (rt [.sc] [(.bool false)] k))
   (call impl_CheckEntry [.one a0, .one a1, .agg [a2, a3, a4, a5], .agg [a6, a7]] fun o5 =>
   iteP (atP o5 0)
    (binP .eql a6 a8 fun r6 =>
    rt [.sc] [r6] k)
    (rt [.sc] [(.bool false)] k))) u1) u0
 | _, _ => False
abbrev impl_neighbourHolds_e : Ent := ⟨[374], impl_neighbourHolds⟩
theorem impl_neighbourHolds_w : EntOK Tryz.prog TT impl_neighbourHolds_e := ent_ok tabok (L := [impl_InRange_e, impl_isZeroEntry_e, impl_isZeroProof_e, impl_CheckEntry_e]) ⟨impl_InRange_w, impl_isZeroEntry_w, impl_isZeroProof_w, impl_CheckEntry_w, trivial⟩ (keep := []) (l := []) Tryz.func374 (by kernel_rfl) (sg := [.one (.sc)]) (by kernel_rfl) trivial fun av k h => by
  unfold impl_neighbourHolds at h; split at h
  · apply un_all h; clear h; intro a2 a3 a4 a5 h; apply un_all h; clear h; intro a6 a7 h; exact Eq.mpr (by kernel_rfl) h
  · exact h.elim

def impl_CheckAbsence : GM
 | [.one a0, .one a1, .one a2, .agg u0], k => un 13 (fun a3 a4 a5 a6 a7 a8 a9 a10 a11 a12 a13 a14 a15 => 
  call impl_IsLabel [.one a2] fun o0 =>
  unP .not (atP o0 0) fun r1 =>
  iteP r1
   (rt [.sc] [(.bool false)] k)
   (call impl_InRange [.one a3, .one (I 0), .one a1] fun o2 =>
   unP .not (atP o2 0) fun r3 =>
   iteP r3
    (rt [.sc] [(.bool false)] k)
    (binP .eql a1 (I 0) fun r4 =>
    iteP r4
     (call impl_RootOf [.one (.list 4 [])] fun o5 =>
     binP .neq a0 (atP o5 0) fun r6 =>
     iteP r6
      (rt [.sc] [(.bool false)] k)
      (binP .sub a3 (I 1) fun r7 =>
      call impl_neighbourHolds [.one a0, .one a1, .agg [a4, a5, a6, a7], .agg [a12, a13], .one r7] fun o8 =>
      unP .not (atP o8 0) fun r9 =>
      iteP r9
       (rt [.sc] [(.bool false)] k)
       (call impl_neighbourHolds [.one a0, .one a1, .agg [a8, a9, a10, a11], .agg [a14, a15], .one a3] fun o10 =>
       unP .not (atP o10 0) fun r11 =>
       iteP r11
        (rt [.sc] [(.bool false)] k)
        (binP .eql a3 (I 0) fun r12 =>
        iteP r12
         (binP .eql a3 a1 fun r13 =>
         iteP r13
          (rt [.sc] [(.bool true)] k)
          (call impl_CompareLabels [.one a8, .one a2] fun o14 =>
          binP .gtr (atP o14 0) (I 0) fun r15 =>
          rt [.sc] [r15] k))
         (call impl_CompareLabels [.one a4, .one a2] fun o16 =>
         binP .lss (atP o16 0) (I 0) fun r17 =>
         iteP r17
          (binP .eql a3 a1 fun r18 =>
          iteP r18
           (rt [.sc] [(.bool true)] k)
           (call impl_CompareLabels [.one a8, .one a2] fun o19 =>
           binP .gtr (atP o19 0) (I 0) fun r20 =>
           rt [.sc] [r20] k))
          (rt [.sc] [(.bool false)] k))))))
     (binP .sub a3 (I 1) fun r21 =>
     call impl_neighbourHolds [.one a0, .one a1, .agg [a4, a5, a6, a7], .agg [a12, a13], .one r21] fun o22 =>
     unP .not (atP o22 0) fun r23 =>
     iteP r23
      (rt [.sc] [(.bool false)] k)
      (call impl_neighbourHolds [.one a0, .one a1, .agg [a8, a9, a10, a11], .agg [a14, a15], .one a3] fun o24 =>
      unP .not (atP o24 0) fun r25 =>
      iteP r25
       (rt [.sc] [(.bool false)] k)
       (binP .eql a3 (I 0) fun r26 =>
       iteP r26
        (binP .eql a3 a1 fun r27 =>
        iteP r27
         (rt [.sc] [(.bool true)] k)
         (call impl_CompareLabels [.one a8, .one a2] fun o28 =>
         binP .gtr (atP o28 0) (I 0) fun r29 =>
         rt [.sc] [r29] k))
        (call impl_CompareLabels [.one a4, .one a2] fun o30 =>
        binP .lss (atP o30 0) (I 0) fun r31 =>
        iteP r31
         (binP .eql a3 a1 fun r32 =>
         iteP r32
          (rt [.sc] [(.bool true)] k)
          (call impl_CompareLabels [.one a8, .one a2] fun o33 =>
          binP .gtr (atP o33 0) (I 0) fun r34 =>
          rt [.sc] [r34] k))
         (rt [.sc] [(.bool false)] k)))))))) u0
 | _, _ => False
abbrev impl_CheckAbsence_e : Ent := ⟨[344], impl_CheckAbsence⟩
theorem impl_CheckAbsence_w : EntOK Tryz.prog TT impl_CheckAbsence_e := ent_ok tabok (L := [impl_IsLabel_e, impl_InRange_e, impl_RootOf_e, impl_neighbourHolds_e, impl_CompareLabels_e]) ⟨impl_IsLabel_w, impl_InRange_w, impl_RootOf_w, impl_neighbourHolds_w, impl_CompareLabels_w, trivial⟩ (keep := []) (l := []) Tryz.func344 (by kernel_rfl) (sg := [.one (.sc)]) (by kernel_rfl) trivial fun av k h => by
  unfold impl_CheckAbsence at h; split at h
  · apply un_all h; clear h; intro a3 a4 a5 a6 a7 a8 a9 a10 a11 a12 a13 a14 a15 h; exact Eq.mpr (by kernel_rfl) h
  · exact h.elim

def impl_isProved : GM
 | [.agg u0, .one a16, .agg u1], k => un 16 (fun a0 a1 a2 a3 a4 a5 a6 a7 a8 a9 a10 a11 a12 a13 a14 a15 => un 21 (fun a17 a18 a19 a20 a21 a22 a23 a24 a25 a26 a27 a28 a29 a30 a31 a32 a33 a34 a35 a36 a37 => 
  iteP a18
   (binP .eql a19 a16 fun r0 =>
   iteP r0
    (call impl_CheckEntry [.one a6, .one a5, .agg [a19, a20, a21, a22], .agg [a23, a24]] fun o1 =>
    iteP (atP o1 0)
     (call impl_EqualGaps [.agg [a25, a26, a27, a28, a29, a30, a31, a32, a33, a34, a35, a36, a37], .agg [(I 0), (.str ⟨#[]⟩), (I 0), (I 0), (.list 1 []), (.str ⟨#[]⟩), (I 0), (I 0), (.list 1 []), (I 0), (.list 1 []), (I 0), (.list 1 [])]] fun o2 =>
     rt [.sc] [(atP o2 0)] k)
     (rt [.sc] [(.bool false)] k))
    (rt [.sc] [(.bool false)] k))
   (call impl_CheckAbsence [.one a6, .one a5, .one a16, .agg [a25, a26, a27, a28, a29, a30, a31, a32, a33, a34, a35, a36, a37]] fun o3 =>
   iteP (atP o3 0)
    (call impl_isZeroEntry [.agg [a19, a20, a21, a22]] fun o4 =>
    iteP (atP o4 0)
     (call impl_isZeroProof [.agg [a23, a24]] fun o5 =>
     rt [.sc] [(atP o5 0)] k)
     (rt [.sc] [(.bool false)] k))
    (rt [.sc] [(.bool false)] k))) u1) u0
 | _, _ => False
abbrev impl_isProved_e : Ent := ⟨[311], impl_isProved⟩
theorem impl_isProved_w : EntOK Tryz.prog TT impl_isProved_e := ent_ok tabok (L := [impl_CheckEntry_e, impl_EqualGaps_e, impl_CheckAbsence_e, impl_isZeroEntry_e, impl_isZeroProof_e]) ⟨impl_CheckEntry_w, impl_EqualGaps_w, impl_CheckAbsence_w, impl_isZeroEntry_w, impl_isZeroProof_w, trivial⟩ (keep := []) (l := []) Tryz.func311 (by kernel_rfl) (sg := [.one (.sc)]) (by kernel_rfl) trivial fun av k h => by
  unfold impl_isProved at h; split at h
  · apply un_all h; clear h; intro a0 a1 a2 a3 a4 a5 a6 a7 a8 a9 a10 a11 a12 a13 a14 a15 h; apply un_all h; clear h; intro a17 a18 a19 a20 a21 a22 a23 a24 a25 a26 a27 a28 a29 a30 a31 a32 a33 a34 a35 a36 a37 h; exact Eq.mpr (by kernel_rfl) h
  · exact h.elim

def impl_CheckAnswer : GM
 | [.one a0, .one a1, .agg u0, .one a23], k => un 21 (fun a2 a3 a4 a5 a6 a7 a8 a9 a10 a11 a12 a13 a14 a15 a16 a17 a18 a19 a20 a21 a22 => 
  call impl_LastHead [.one a2] fun o0 =>
  unP .not (atP o0 16) fun r1 =>
  iteP r1
   (rt [.sc] [(I 3)] k)
   (binP .neq (atP o0 0) a0 fun r2 =>
   iteP r2
    (rt [.sc] [(I 2)] k)
    (call impl_IsFresh [.agg [(atP o0 0), (atP o0 1), (atP o0 2), (atP o0 3), (atP o0 4), (atP o0 5), (atP o0 6), (atP o0 7), (atP o0 8), (atP o0 9), (atP o0 10), (atP o0 11), (atP o0 12), (atP o0 13), (atP o0 14), (atP o0 15)], .one a23] fun o3 =>
    unP .not (atP o3 0) fun r4 =>
    iteP r4
     (rt [.sc] [(I 4)] k)
     (iteP (atP o0 15)
      (rt [.sc] [(I 5)] k)
      (call impl_isProved [.agg [(atP o0 0), (atP o0 1), (atP o0 2), (atP o0 3), (atP o0 4), (atP o0 5), (atP o0 6), (atP o0 7), (atP o0 8), (atP o0 9), (atP o0 10), (atP o0 11), (atP o0 12), (atP o0 13), (atP o0 14), (atP o0 15)], .one a1, .agg [a2, a3, a4, a5, a6, a7, a8, a9, a10, a11, a12, a13, a14, a15, a16, a17, a18, a19, a20, a21, a22]] fun o5 =>
      unP .not (atP o5 0) fun r6 =>
      iteP r6
       (rt [.sc] [(I 6)] k)
       (rt [.sc] [(I 1)] k)))))) u0
 | _, _ => False
abbrev impl_CheckAnswer_e : Ent := ⟨[256], impl_CheckAnswer⟩
theorem impl_CheckAnswer_w : EntOK Tryz.prog TT impl_CheckAnswer_e := ent_ok tabok (L := [impl_LastHead_e, impl_IsFresh_e, impl_isProved_e]) ⟨impl_LastHead_w, impl_IsFresh_w, impl_isProved_w, trivial⟩ (keep := []) (l := []) Tryz.func256 (by kernel_rfl) (sg := [.one (.sc)]) (by kernel_rfl) trivial fun av k h => by
  unfold impl_CheckAnswer at h; split at h
  · apply un_all h; clear h; intro a2 a3 a4 a5 a6 a7 a8 a9 a10 a11 a12 a13 a14 a15 a16 a17 a18 a19 a20 a21 a22 h; exact Eq.mpr (by kernel_rfl) h
  · exact h.elim

def impl_IsCache_r0 (v : List PV) (K : List PV → Prop) (x0k : PV → PV → PV → PV → PV → PV → PV → PV → PV → PV → PV → PV → PV → PV → PV → PV → PV → PV → PV → PV → PV → PV → PV → PV → PV → PV → PV → PV → PV → PV → PV → PV → PV → PV → PV → PV → PV → PV → PV → PV → Prop) (x1k : PV → PV → PV → PV → PV → PV → PV → PV → PV → PV → PV → PV → PV → PV → PV → PV → PV → PV → PV → PV → PV → PV → PV → PV → PV → PV → PV → PV → PV → PV → PV → PV → PV → PV → PV → PV → PV → PV → PV → PV → Prop) (x2k : PV → PV → PV → PV → PV → PV → PV → PV → PV → PV → PV → PV → PV → PV → PV → PV → PV → PV → PV → PV → PV → PV → PV → PV → PV → PV → PV → PV → PV → PV → PV → PV → PV → PV → PV → PV → PV → PV → PV → PV → Prop) (x3k : PV → PV → PV → PV → PV → Prop) : Prop :=
 un 5 (fun v0 v1 v2 v3 v4 =>
  binP .lss v3 v2 fun r0 =>
  iteP r0
   (elemP 23 v1 v3 fun c1 =>
   call impl_LastHead [.one (atP c1 2)] fun o2 =>
   unP .not (atP o2 16) fun r3 =>
   iteP r3
    (x0k (atP o2 0) (atP o2 1) (atP o2 2) (atP o2 3) (atP o2 4) (atP o2 5) (atP o2 6) (atP o2 7) (atP o2 9) (atP o2 11) (atP o2 12) (atP o2 14) (atP o2 15) (atP c1 0) (atP c1 1) (atP c1 2) (atP c1 3) (atP c1 4) (atP c1 5) (atP c1 6) (atP c1 7) (atP c1 8) (atP c1 9) (atP c1 10) (atP c1 11) (atP c1 12) (atP c1 13) (atP c1 14) (atP c1 15) (atP c1 16) (atP c1 17) (atP c1 18) (atP c1 19) (atP c1 20) (atP c1 21) (atP c1 22) v4 (atP o2 8) (atP o2 10) (atP o2 13))
    (call impl_Cache_find [.agg [v4], .one (atP c1 0), .one (atP c1 1)] fun o4 =>
    binP .neq (atP o4 0) v3 fun r5 =>
    iteP r5
     (x1k (atP o2 0) (atP o2 1) (atP o2 2) (atP o2 3) (atP o2 4) (atP o2 5) (atP o2 6) (atP o2 7) (atP o2 9) (atP o2 11) (atP o2 12) (atP o2 14) (atP o2 15) (atP c1 0) (atP c1 1) (atP c1 2) (atP c1 3) (atP c1 4) (atP c1 5) (atP c1 6) (atP c1 7) (atP c1 8) (atP c1 9) (atP c1 10) (atP c1 11) (atP c1 12) (atP c1 13) (atP c1 14) (atP c1 15) (atP c1 16) (atP c1 17) (atP c1 18) (atP c1 19) (atP c1 20) (atP c1 21) (atP c1 22) v4 (atP o2 8) (atP o2 10) (atP o2 13))
     (call impl_CheckAnswer [.one (atP c1 0), .one (atP c1 1), .agg [(atP c1 2), (atP c1 3), (atP c1 4), (atP c1 5), (atP c1 6), (atP c1 7), (atP c1 8), (atP c1 9), (atP c1 10), (atP c1 11), (atP c1 12), (atP c1 13), (atP c1 14), (atP c1 15), (atP c1 16), (atP c1 17), (atP c1 18), (atP c1 19), (atP c1 20), (atP c1 21), (atP c1 22)], .one (atP o2 3)] fun o6 =>
     binP .neq (atP o6 0) (I 1) fun r7 =>
     iteP r7
      (x2k (atP o2 0) (atP o2 1) (atP o2 2) (atP o2 3) (atP o2 4) (atP o2 5) (atP o2 6) (atP o2 7) (atP o2 9) (atP o2 11) (atP o2 12) (atP o2 14) (atP o2 15) (atP c1 0) (atP c1 1) (atP c1 2) (atP c1 3) (atP c1 4) (atP c1 5) (atP c1 6) (atP c1 7) (atP c1 8) (atP c1 9) (atP c1 10) (atP c1 11) (atP c1 12) (atP c1 13) (atP c1 14) (atP c1 15) (atP c1 16) (atP c1 17) (atP c1 18) (atP c1 19) (atP c1 20) (atP c1 21) (atP c1 22) v4 (atP o2 8) (atP o2 10) (atP o2 13))
      (binP .add v3 (I 1) fun r8 =>
      K [v0, v1, v2, r8, v4]))))
   (x3k v0 v1 v2 v3 v4)) v
def impl_IsCache : GM
 | [.agg u0], k => un 1 (fun a0 => 
  lenP a0 fun r0 =>
  lp (fun L w => impl_IsCache_r0 w L
   (fun q9 q10 q11 q12 q13 q14 q15 q16 q17 q18 q19 q20 q21 q22 q23 q24 q25 q26 q27 q28 q29 q30 q31 q32 q33 q34 q35 q36 q37 q38 q39 q40 q41 q42 q43 q44 q45 q46 q47 q48 => rt [.sc] [(.bool false)] k)
   (fun q49 q50 q51 q52 q53 q54 q55 q56 q57 q58 q59 q60 q61 q62 q63 q64 q65 q66 q67 q68 q69 q70 q71 q72 q73 q74 q75 q76 q77 q78 q79 q80 q81 q82 q83 q84 q85 q86 q87 q88 => rt [.sc] [(.bool false)] k)
   (fun q89 q90 q91 q92 q93 q94 q95 q96 q97 q98 q99 q100 q101 q102 q103 q104 q105 q106 q107 q108 q109 q110 q111 q112 q113 q114 q115 q116 q117 q118 q119 q120 q121 q122 q123 q124 q125 q126 q127 q128 => rt [.sc] [(.bool false)] k)
   (fun q129 q130 q131 q132 q133 => lenP q133 fun r134 =>
    binP .leq r134 (I 16) fun r135 =>
    rt [.sc] [r135] k)) [(.bool false), a0, r0, (I 0), a0]) u0
 | _, _ => False
abbrev impl_IsCache_e : Ent := ⟨[167], impl_IsCache⟩
def impl_IsCache_l : List LE := [⟨0, ⟨[(1, .one (.ptr 0 0)), (2, .one (.pv (.bool false))), (8, .one (.pv (.bool false))), (9, .one (.pv (.bool false))), (10, .one (.pv (.bool false)))], [(0, [.pv (.bool false)])], [], 1, 51⟩, fun K k v => impl_IsCache_r0 v K (fun x0 x1 x2 x3 x4 x5 x6 x7 x8 x9 x10 x11 x12 x13 x14 x15 x16 x17 x18 x19 x20 x21 x22 x23 x24 x25 x26 x27 x28 x29 x30 x31 x32 x33 x34 x35 x36 x37 x38 x39 => k .ret ⟨[(2, .one (.kb false))], [(19, [.pv x0, .pv x1, .pv x2, .pv x3, .pv x4, .pv x5, .pv x6, .pv x7, .own 10, .pv x8, .own 12, .pv x9, .pv x10, .own 15, .pv x11, .pv x12]), (19, [.pv (I 0), .pv (I 0), .pv (I 0), .pv (I 0), .pv (I 0), .pv (I 0), .pv (I 0), .pv (I 0), .nil 3 1, .pv (I 0), .nil 3 1, .pv (I 0), .pv (I 0), .nil 3 1, .pv (I 0), .pv (.bool false)]), (1, [.pv x13, .pv x14, .pv x15, .pv x16, .pv x17, .pv x18, .pv x19, .pv x20, .pv x21, .pv x22, .pv x23, .pv x24, .pv x25, .pv x26, .pv x27, .pv x28, .pv x29, .pv x30, .pv x31, .pv x32, .pv x33, .pv x34, .pv x35]), (1, [.pv (I 0), .pv (.str ⟨#[]⟩), .nil 155 17, .pv (.bool false), .pv (.str ⟨#[]⟩), .pv (I 0), .pv (I 0), .nil 9 1, .pv (I 0), .nil 3 1, .pv (I 0), .pv (.str ⟨#[]⟩), .pv (I 0), .pv (I 0), .nil 9 1, .pv (.str ⟨#[]⟩), .pv (I 0), .pv (I 0), .nil 9 1, .pv (I 0), .nil 3 1, .pv (I 0), .nil 3 1]), (0, [.pv x36])], [(10, ⟨.deep, 3, 1, x37⟩), (12, ⟨.deep, 3, 1, x38⟩), (15, ⟨.deep, 3, 1, x39⟩)], 20, 51⟩) (fun x0 x1 x2 x3 x4 x5 x6 x7 x8 x9 x10 x11 x12 x13 x14 x15 x16 x17 x18 x19 x20 x21 x22 x23 x24 x25 x26 x27 x28 x29 x30 x31 x32 x33 x34 x35 x36 x37 x38 x39 => k .ret ⟨[(2, .one (.kb false))], [(19, [.pv x0, .pv x1, .pv x2, .pv x3, .pv x4, .pv x5, .pv x6, .pv x7, .own 10, .pv x8, .own 12, .pv x9, .pv x10, .own 15, .pv x11, .pv x12]), (19, [.pv (I 0), .pv (I 0), .pv (I 0), .pv (I 0), .pv (I 0), .pv (I 0), .pv (I 0), .pv (I 0), .nil 3 1, .pv (I 0), .nil 3 1, .pv (I 0), .pv (I 0), .nil 3 1, .pv (I 0), .pv (.bool false)]), (1, [.pv x13, .pv x14, .pv x15, .pv x16, .pv x17, .pv x18, .pv x19, .pv x20, .pv x21, .pv x22, .pv x23, .pv x24, .pv x25, .pv x26, .pv x27, .pv x28, .pv x29, .pv x30, .pv x31, .pv x32, .pv x33, .pv x34, .pv x35]), (1, [.pv (I 0), .pv (.str ⟨#[]⟩), .nil 155 17, .pv (.bool false), .pv (.str ⟨#[]⟩), .pv (I 0), .pv (I 0), .nil 9 1, .pv (I 0), .nil 3 1, .pv (I 0), .pv (.str ⟨#[]⟩), .pv (I 0), .pv (I 0), .nil 9 1, .pv (.str ⟨#[]⟩), .pv (I 0), .pv (I 0), .nil 9 1, .pv (I 0), .nil 3 1, .pv (I 0), .nil 3 1]), (0, [.pv x36])], [(10, ⟨.deep, 3, 1, x37⟩), (12, ⟨.deep, 3, 1, x38⟩), (15, ⟨.deep, 3, 1, x39⟩)], 21, 51⟩) (fun x0 x1 x2 x3 x4 x5 x6 x7 x8 x9 x10 x11 x12 x13 x14 x15 x16 x17 x18 x19 x20 x21 x22 x23 x24 x25 x26 x27 x28 x29 x30 x31 x32 x33 x34 x35 x36 x37 x38 x39 => k .ret ⟨[(2, .one (.kb false))], [(19, [.pv x0, .pv x1, .pv x2, .pv x3, .pv x4, .pv x5, .pv x6, .pv x7, .own 10, .pv x8, .own 12, .pv x9, .pv x10, .own 15, .pv x11, .pv x12]), (19, [.pv (I 0), .pv (I 0), .pv (I 0), .pv (I 0), .pv (I 0), .pv (I 0), .pv (I 0), .pv (I 0), .nil 3 1, .pv (I 0), .nil 3 1, .pv (I 0), .pv (I 0), .nil 3 1, .pv (I 0), .pv (.bool false)]), (1, [.pv x13, .pv x14, .pv x15, .pv x16, .pv x17, .pv x18, .pv x19, .pv x20, .pv x21, .pv x22, .pv x23, .pv x24, .pv x25, .pv x26, .pv x27, .pv x28, .pv x29, .pv x30, .pv x31, .pv x32, .pv x33, .pv x34, .pv x35]), (1, [.pv (I 0), .pv (.str ⟨#[]⟩), .nil 155 17, .pv (.bool false), .pv (.str ⟨#[]⟩), .pv (I 0), .pv (I 0), .nil 9 1, .pv (I 0), .nil 3 1, .pv (I 0), .pv (.str ⟨#[]⟩), .pv (I 0), .pv (I 0), .nil 9 1, .pv (.str ⟨#[]⟩), .pv (I 0), .pv (I 0), .nil 9 1, .pv (I 0), .nil 3 1, .pv (I 0), .nil 3 1]), (0, [.pv x36])], [(10, ⟨.deep, 3, 1, x37⟩), (12, ⟨.deep, 3, 1, x38⟩), (15, ⟨.deep, 3, 1, x39⟩)], 22, 51⟩) (fun x0 x1 x2 x3 x4 => k (.exit 0) ⟨[(1, .one (.ptr 0 0)), (2, .one (.pv x0)), (8, .one (.pv x1)), (9, .one (.pv x2)), (10, .one (.pv x3))], [(0, [.pv x4])], [], 1, 51⟩)⟩]
theorem impl_IsCache_s : LEsOK (orac [impl_LastHead_e, impl_Cache_find_e, impl_CheckAnswer_e]) TT (kk [1, 2, 8, 9, 10, 25, 26, 27, 28, 29, 30, 31, 32, 35, 36, 37, 38, 39, 40, 41, 42, 43, 44]) (sumsOf impl_IsCache_l) Tryz.f167 impl_IsCache_l := ⟨fun v K k h => by
  apply un_all h; exact fun v0 v1 v2 v3 v4 h => Eq.mpr (by kernel_rfl) h
  , trivial⟩
theorem impl_IsCache_w : EntOK Tryz.prog TT impl_IsCache_e := ent_ok tabok (L := [impl_LastHead_e, impl_Cache_find_e, impl_CheckAnswer_e]) ⟨impl_LastHead_w, impl_Cache_find_w, impl_CheckAnswer_w, trivial⟩ (keep := (kk [1, 2, 8, 9, 10, 25, 26, 27, 28, 29, 30, 31, 32, 35, 36, 37, 38, 39, 40, 41, 42, 43, 44])) (l := impl_IsCache_l) Tryz.func167 (by kernel_rfl) (sg := [.one (.sc)]) (by kernel_rfl) impl_IsCache_s fun av k h => by
  unfold impl_IsCache at h; split at h
  · apply un_all h; clear h; intro a0 h; exact Eq.mpr (by kernel_rfl) h
  · exact h.elim

def impl_IsWorld : GM
 | [.agg u0], k => un 8 (fun a0 a1 a2 a3 a4 a5 a6 a7 => 
  call impl_InRange [.one a0, .one (I 0), .one (I 99800)] fun o0 =>
  iteP (atP o0 0)
   (call impl_AreActors [.one a1] fun o1 =>
   iteP (atP o1 0)
    (call impl_World_hasZones [.agg [a0, a1, a2, a3, a4, a5, a6, a7]] fun o2 =>
    iteP (atP o2 0)
     (lenP a3 fun r3 =>
     binP .leq r3 (I 60) fun r4 =>
     iteP r4
      (call slices_ContainsFunc_Said_F_impl_IsWorld_1 [.one a3, .fn 163 []] fun o5 =>
      unP .not (atP o5 0) fun r6 =>
      iteP r6
       (lenP a4 fun r7 =>
       binP .leq r7 (I 4) fun r8 =>
       iteP r8
        (call slices_ContainsFunc_Server_F_impl_IsWorld_2 [.one a4, .fn 164 []] fun o9 =>
        unP .not (atP o9 0) fun r10 =>
        iteP r10
         (call impl_IsKnown [.agg [a5, a6]] fun o11 =>
         iteP (atP o11 0)
          (call impl_IsCache [.agg [a7]] fun o12 =>
          rt [.sc] [(atP o12 0)] k)
          (rt [.sc] [(.bool false)] k))
         (rt [.sc] [(.bool false)] k))
        (rt [.sc] [(.bool false)] k))
       (rt [.sc] [(.bool false)] k))
      (rt [.sc] [(.bool false)] k))
     (rt [.sc] [(.bool false)] k))
    (rt [.sc] [(.bool false)] k))
   (rt [.sc] [(.bool false)] k)) u0
 | _, _ => False
abbrev impl_IsWorld_e : Ent := ⟨[56], impl_IsWorld⟩
theorem impl_IsWorld_w : EntOK Tryz.prog TT impl_IsWorld_e := ent_ok tabok (L := [impl_InRange_e, impl_AreActors_e, impl_World_hasZones_e, slices_ContainsFunc_Said_F_impl_IsWorld_1_e, slices_ContainsFunc_Server_F_impl_IsWorld_2_e, impl_IsKnown_e, impl_IsCache_e]) ⟨impl_InRange_w, impl_AreActors_w, impl_World_hasZones_w, slices_ContainsFunc_Said_F_impl_IsWorld_1_w, slices_ContainsFunc_Server_F_impl_IsWorld_2_w, impl_IsKnown_w, impl_IsCache_w, trivial⟩ (keep := []) (l := []) Tryz.func56 (by kernel_rfl) (sg := [.one (.sc)]) (by kernel_rfl) trivial fun av k h => by
  unfold impl_IsWorld at h; split at h
  · apply un_all h; clear h; intro a0 a1 a2 a3 a4 a5 a6 a7 h; exact Eq.mpr (by kernel_rfl) h
  · exact h.elim

def laws_FnExactIsWorld : GM
 | [.agg u0], k => un 8 (fun a0 a1 a2 a3 a4 a5 a6 a7 => 
  call laws_szWorld [.agg [a0, a1, a2, a3, a4, a5, a6, a7], .one (I 1048576)] fun o0 =>
  binP .lss (atP o0 0) (I 0) fun r1 =>
  iteP r1
   (rt [.sc] [(.bool true)] k)
   (call laws_toWorld [.agg [a0, a1, a2, a3, a4, a5, a6, a7]] fun o2 =>
   call spec_IsWorld [.agg [(atP o2 0), (atP o2 1), (atP o2 2), (atP o2 3), (atP o2 4), (atP o2 5), (atP o2 6), (atP o2 7)]] fun o3 =>
   call laws_toWorld [.agg [a0, a1, a2, a3, a4, a5, a6, a7]] fun o4 =>
   call impl_IsWorld [.agg [(atP o4 0), (atP o4 1), (atP o4 2), (atP o4 3), (atP o4 4), (atP o4 5), (atP o4 6), (atP o4 7)]] fun o5 =>
   boolP .neq (atP o5 0) (atP o3 0) fun r6 =>
   iteP r6
    (rt [.sc] [(.bool false)] k)
    (call laws_toWorld [.agg [a0, a1, a2, a3, a4, a5, a6, a7]] fun o7 =>
    call laws_eqWorld [.agg [(atP o4 0), (atP o4 1), (atP o4 2), (atP o4 3), (atP o4 4), (atP o4 5), (atP o4 6), (atP o4 7)], .agg [(atP o7 0), (atP o7 1), (atP o7 2), (atP o7 3), (atP o7 4), (atP o7 5), (atP o7 6), (atP o7 7)]] fun o8 =>
    unP .not (atP o8 0) fun r9 =>
    iteP r9
     (rt [.sc] [(.bool false)] k)
     (rt [.sc] [(.bool true)] k)))) u0
 | _, _ => False
abbrev laws_FnExactIsWorld_e : Ent := ⟨[14], laws_FnExactIsWorld⟩
theorem laws_FnExactIsWorld_w : EntOK Tryz.prog TT laws_FnExactIsWorld_e := ent_ok tabok (L := [laws_szWorld_e, laws_toWorld_e, spec_IsWorld_e, impl_IsWorld_e, laws_eqWorld_e]) ⟨laws_szWorld_w, laws_toWorld_w, spec_IsWorld_w, impl_IsWorld_w, laws_eqWorld_w, trivial⟩ (keep := []) (l := []) Tryz.func14 (by kernel_rfl) (sg := [.one (.sc)]) (by kernel_rfl) trivial fun av k h => by
  unfold laws_FnExactIsWorld at h; split at h
  · apply un_all h; clear h; intro a0 a1 a2 a3 a4 a5 a6 a7 h; exact Eq.mpr (by kernel_rfl) h
  · exact h.elim


end Go.Ev
