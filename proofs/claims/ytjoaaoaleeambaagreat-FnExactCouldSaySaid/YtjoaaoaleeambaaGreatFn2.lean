/- The tables of this load, and for each function the meaning that the evaluator gives it, with its proof, part 2. -/
import Derived.Test.YtjoaaoaleeambaaGreatFn1
set_option maxRecDepth 100000
set_option linter.unusedVariables false
namespace Go.Ev
open Go.Proofs
def impl_CanSign_r0 (v : List PV) (K : List PV → Prop) (x0k : PV → PV → PV → PV → PV → PV → PV → PV → Prop) : Prop :=
 un 8 (fun v0 v1 v2 v3 v4 v5 v6 v7 =>
  binP .lss v5 v4 fun r0 =>
  iteP r0
   (elemP 1 v3 v5 fun c1 =>
   call slices_Contains_int [.one v0, .one (atP c1 0)] fun o2 =>
   iteP (atP o2 0)
    (binP .add v2 (I 1) fun r3 =>
    binP .add v5 (I 1) fun r4 =>
    K [v0, v1, r3, v3, v4, r4, v6, v7])
    (binP .add v5 (I 1) fun r5 =>
    K [v0, v1, v2, v3, v4, r5, v6, v7]))
   (x0k v0 v1 v2 v3 v4 v5 v6 v7)) v
def impl_CanSign : GM
 | [.agg u0, .one a2], k => un 2 (fun a0 a1 => 
  lenP a0 fun r0 =>
  lp (fun L w => impl_CanSign_r0 w L
   (fun q6 q7 q8 q9 q10 q11 q12 q13 => call impl_IsKeys [.agg [q12, q13]] fun o14 =>
    iteP (atP o14 0)
     (binP .geq q8 q13 fun r15 =>
     rt [.sc] [r15] k)
     (rt [.sc] [(.bool false)] k))) [a2, (.bool false), (I 0), a0, r0, (I 0), a0, a1]) u0
 | _, _ => False
abbrev impl_CanSign_e : Ent := ⟨[184], impl_CanSign⟩
def impl_CanSign_l : List LE := [⟨0, ⟨[(1, .one (.pv (.bool false))), (2, .one (.ptr 0 0)), (4, .one (.pv (.bool false))), (5, .one (.pv (.bool false))), (9, .one (.pv (.bool false))), (10, .one (.pv (.bool false))), (11, .one (.pv (.bool false)))], [(0, [.pv (.bool false), .pv (.bool false)])], [], 1, 29⟩, fun K k v => impl_CanSign_r0 v K (fun x0 x1 x2 x3 x4 x5 x6 x7 => k (.exit 0) ⟨[(1, .one (.pv x0)), (2, .one (.ptr 0 0)), (4, .one (.pv x1)), (5, .one (.pv x2)), (9, .one (.pv x3)), (10, .one (.pv x4)), (11, .one (.pv x5))], [(0, [.pv x6, .pv x7])], [], 1, 29⟩)⟩]
theorem impl_CanSign_s : LEsOK (orac [slices_Contains_int_e, impl_IsKeys_e]) TT (kk [1, 2, 4, 5, 9, 10, 11, 24, 25, 26, 27]) (sumsOf impl_CanSign_l) Tryz.f184 impl_CanSign_l := ⟨fun v K k h => by
  apply un_all h; exact fun v0 v1 v2 v3 v4 v5 v6 v7 h => Eq.mpr (by kernel_rfl) h
  , trivial⟩
theorem impl_CanSign_w : EntOK Tryz.prog TT impl_CanSign_e := ent_ok tabok (L := [slices_Contains_int_e, impl_IsKeys_e]) ⟨slices_Contains_int_w, impl_IsKeys_w, trivial⟩ (keep := (kk [1, 2, 4, 5, 9, 10, 11, 24, 25, 26, 27])) (l := impl_CanSign_l) Tryz.func184 (by kernel_rfl) (sg := [.one (.sc)]) (by kernel_rfl) impl_CanSign_s fun av k h => by
  unfold impl_CanSign at h; split at h
  · apply un_all h; clear h; intro a0 a1 h; exact Eq.mpr (by kernel_rfl) h
  · exact h.elim

def impl_signersFor : GM
 | [.agg u0, .one a16], k => un 16 (fun a0 a1 a2 a3 a4 a5 a6 a7 a8 a9 a10 a11 a12 a13 a14 a15 => 
  binP .eql a16 (I 1) fun r0 =>
  iteP r0
   (rt [.pv, .sc] [a8, a9] k)
   (binP .eql a16 (I 2) fun r1 =>
   iteP r1
    (rt [.pv, .sc] [a10, a11] k)
    (binP .eql a16 (I 3) fun r2 =>
    iteP r2
     (rt [.pv, .sc] [a13, a14] k)
     (rt [.pv, .sc] [(.list 1 []), (I 0)] k)))) u0
 | _, _ => False
abbrev impl_signersFor_e : Ent := ⟨[185], impl_signersFor⟩
theorem impl_signersFor_w : EntOK Tryz.prog TT impl_signersFor_e := ent_ok tabok (L := []) trivial (keep := []) (l := []) Tryz.func185 (by kernel_rfl) (sg := [.agg [.pv, .sc]]) (by kernel_rfl) trivial fun av k h => by
  unfold impl_signersFor at h; split at h
  · apply un_all h; clear h; intro a0 a1 a2 a3 a4 a5 a6 a7 a8 a9 a10 a11 a12 a13 a14 a15 h; exact Eq.mpr (by kernel_rfl) h
  · exact h.elim

def impl_canMake : GM
 | [.agg u0, .one a2], k => un 2 (fun a0 a1 => 
  lenP a0 fun r0 =>
  binP .eql r0 (I 1) fun r1 =>
  iteP r1
   (elemP 17 a0 (I 0) fun c2 =>
   call impl_CanSign [.agg [(atP c2 8), (atP c2 9)], .one a2] fun o3 =>
   rt [.sc] [(atP o3 0)] k)
   (binP .sub r0 (I 2) fun r4 =>
   elemP 17 a0 r4 fun c5 =>
   binP .sub r0 (I 1) fun r6 =>
   elemP 17 a0 r6 fun c7 =>
   call impl_signersFor [.agg [(atP c5 0), (atP c5 1), (atP c5 2), (atP c5 3), (atP c5 4), (atP c5 5), (atP c5 6), (atP c5 7), (atP c5 8), (atP c5 9), (atP c5 10), (atP c5 11), (atP c5 12), (atP c5 13), (atP c5 14), (atP c5 15)], .one (atP c7 2)] fun o8 =>
   call impl_CanSign [.agg [(atP o8 0), (atP o8 1)], .one a2] fun o9 =>
   rt [.sc] [(atP o9 0)] k)) u0
 | _, _ => False
abbrev impl_canMake_e : Ent := ⟨[76], impl_canMake⟩
theorem impl_canMake_w : EntOK Tryz.prog TT impl_canMake_e := ent_ok tabok (L := [impl_CanSign_e, impl_signersFor_e]) ⟨impl_CanSign_w, impl_signersFor_w, trivial⟩ (keep := []) (l := []) Tryz.func76 (by kernel_rfl) (sg := [.one (.sc)]) (by kernel_rfl) trivial fun av k h => by
  unfold impl_canMake at h; split at h
  · apply un_all h; clear h; intro a0 a1 h; exact Eq.mpr (by kernel_rfl) h
  · exact h.elim

def impl_CouldSay : GM
 | [.agg u0], k => un 3 (fun a0 a1 a2 => 
  call impl_IsZone [.agg [a0, a1]] fun o0 =>
  iteP (atP o0 0)
   (call impl_canMake [.agg [a0, a1], .one a2] fun o1 =>
   rt [.sc] [(atP o1 0)] k)
   (rt [.sc] [(.bool false)] k)) u0
 | _, _ => False
abbrev impl_CouldSay_e : Ent := ⟨[23], impl_CouldSay⟩
theorem impl_CouldSay_w : EntOK Tryz.prog TT impl_CouldSay_e := ent_ok tabok (L := [impl_IsZone_e, impl_canMake_e]) ⟨impl_IsZone_w, impl_canMake_w, trivial⟩ (keep := []) (l := []) Tryz.func23 (by kernel_rfl) (sg := [.one (.sc)]) (by kernel_rfl) trivial fun av k h => by
  unfold impl_CouldSay at h; split at h
  · apply un_all h; clear h; intro a0 a1 a2 h; exact Eq.mpr (by kernel_rfl) h
  · exact h.elim

def laws_eqEntryS_r0 (v : List PV) (K : List PV → Prop) (x0k : Prop) (x1k : PV → PV → PV → PV → Prop) : Prop :=
 un 4 (fun v0 v1 v2 v3 =>
  lenP v0 fun r0 =>
  binP .lss v3 r0 fun r1 =>
  iteP r1
   (elemP 4 v0 v3 fun c2 =>
   elemP 4 v1 v3 fun c3 =>
   call laws_eqEntry [.agg [(atP c2 0), (atP c2 1), (atP c2 2), (atP c2 3)], .agg [(atP c3 0), (atP c3 1), (atP c3 2), (atP c3 3)]] fun o4 =>
   unP .not (atP o4 0) fun r5 =>
   iteP r5
    (x0k)
    (binP .add v3 (I 1) fun r6 =>
    K [v0, v1, v2, r6]))
   (x1k v0 v1 v2 v3)) v
def laws_eqEntryS : GM
 | [.one a0, .one a1], k => 
  lenP a0 fun r0 =>
  lenP a1 fun r1 =>
  binP .neq r0 r1 fun r2 =>
  iteP r2
   (rt [.sc] [(.bool false)] k)
   (lp (fun L w => laws_eqEntryS_r0 w L
    (rt [.sc] [(.bool false)] k)
    (fun q7 q8 q9 q10 => rt [.sc] [(.bool true)] k)) [a0, a1, (.bool false), (I 0)])
 | _, _ => False
abbrev laws_eqEntryS_e : Ent := ⟨[113], laws_eqEntryS⟩
def laws_eqEntryS_l : List LE := [⟨0, ⟨[(0, .one (.pv (.bool false))), (1, .one (.pv (.bool false))), (4, .one (.pv (.bool false))), (5, .one (.pv (.bool false)))], [], [], 0, 27⟩, fun K k v => laws_eqEntryS_r0 v K (k .ret ⟨[(4, .one (.kb false))], [], [], 1, 27⟩) (fun x0 x1 x2 x3 => k (.exit 0) ⟨[(0, .one (.pv x0)), (1, .one (.pv x1)), (4, .one (.pv x2)), (5, .one (.pv x3))], [], [], 0, 27⟩)⟩]
theorem laws_eqEntryS_s : LEsOK (orac [laws_eqEntry_e]) TT (kk [0, 1, 4, 5]) (sumsOf laws_eqEntryS_l) Tryz.f113 laws_eqEntryS_l := ⟨fun v K k h => by
  apply un_all h; exact fun v0 v1 v2 v3 h => Eq.mpr (by kernel_rfl) h
  , trivial⟩
theorem laws_eqEntryS_w : EntOK Tryz.prog TT laws_eqEntryS_e := ent_ok tabok (L := [laws_eqEntry_e]) ⟨laws_eqEntry_w, trivial⟩ (keep := (kk [0, 1, 4, 5])) (l := laws_eqEntryS_l) Tryz.func113 (by kernel_rfl) (sg := [.one (.sc)]) (by kernel_rfl) laws_eqEntryS_s fun av k h => by
  unfold laws_eqEntryS at h; split at h
  · exact Eq.mpr (by kernel_rfl) h
  · exact h.elim

def laws_eqZone : GM
 | [.agg u0, .agg u1], k => un 2 (fun a0 a1 => un 2 (fun a2 a3 => 
  call laws_eqSignedS [.one a0, .one a2] fun o0 =>
  unP .not (atP o0 0) fun r1 =>
  iteP r1
   (rt [.sc] [(.bool false)] k)
   (call laws_eqEntryS [.one a1, .one a3] fun o2 =>
   unP .not (atP o2 0) fun r3 =>
   iteP r3
    (rt [.sc] [(.bool false)] k)
    (rt [.sc] [(.bool true)] k))) u1) u0
 | _, _ => False
abbrev laws_eqZone_e : Ent := ⟨[39], laws_eqZone⟩
theorem laws_eqZone_w : EntOK Tryz.prog TT laws_eqZone_e := ent_ok tabok (L := [laws_eqSignedS_e, laws_eqEntryS_e]) ⟨laws_eqSignedS_w, laws_eqEntryS_w, trivial⟩ (keep := []) (l := []) Tryz.func39 (by kernel_rfl) (sg := [.one (.sc)]) (by kernel_rfl) trivial fun av k h => by
  unfold laws_eqZone at h; split at h
  · apply un_all h; clear h; intro a0 a1 h; apply un_all h; clear h; intro a2 a3 h; exact Eq.mpr (by kernel_rfl) h
  · exact h.elim

def laws_eqSaid : GM
 | [.agg u0, .agg u1], k => un 3 (fun a0 a1 a2 => un 3 (fun a3 a4 a5 => 
  call laws_eqZone [.agg [a0, a1], .agg [a3, a4]] fun o0 =>
  unP .not (atP o0 0) fun r1 =>
  iteP r1
   (rt [.sc] [(.bool false)] k)
   (call laws_eqIntS [.one a2, .one a5] fun o2 =>
   unP .not (atP o2 0) fun r3 =>
   iteP r3
    (rt [.sc] [(.bool false)] k)
    (rt [.sc] [(.bool true)] k))) u1) u0
 | _, _ => False
abbrev laws_eqSaid_e : Ent := ⟨[24], laws_eqSaid⟩
theorem laws_eqSaid_w : EntOK Tryz.prog TT laws_eqSaid_e := ent_ok tabok (L := [laws_eqZone_e, laws_eqIntS_e]) ⟨laws_eqZone_w, laws_eqIntS_w, trivial⟩ (keep := []) (l := []) Tryz.func24 (by kernel_rfl) (sg := [.one (.sc)]) (by kernel_rfl) trivial fun av k h => by
  unfold laws_eqSaid at h; split at h
  · apply un_all h; clear h; intro a0 a1 a2 h; apply un_all h; clear h; intro a3 a4 a5 h; exact Eq.mpr (by kernel_rfl) h
  · exact h.elim

def laws_FnExactCouldSay : GM
 | [.agg u0], k => un 3 (fun a0 a1 a2 => 
  call laws_szSaid [.agg [a0, a1, a2], .one (I 1048576)] fun o0 =>
  binP .lss (atP o0 0) (I 0) fun r1 =>
  iteP r1
   (rt [.sc] [(.bool true)] k)
   (call laws_toSaid [.agg [a0, a1, a2]] fun o2 =>
   call spec_CouldSay [.agg [(atP o2 0), (atP o2 1), (atP o2 2)]] fun o3 =>
   call laws_toSaid [.agg [a0, a1, a2]] fun o4 =>
   call impl_CouldSay [.agg [(atP o4 0), (atP o4 1), (atP o4 2)]] fun o5 =>
   boolP .neq (atP o5 0) (atP o3 0) fun r6 =>
   iteP r6
    (rt [.sc] [(.bool false)] k)
    (call laws_toSaid [.agg [a0, a1, a2]] fun o7 =>
    call laws_eqSaid [.agg [(atP o4 0), (atP o4 1), (atP o4 2)], .agg [(atP o7 0), (atP o7 1), (atP o7 2)]] fun o8 =>
    unP .not (atP o8 0) fun r9 =>
    iteP r9
     (rt [.sc] [(.bool false)] k)
     (rt [.sc] [(.bool true)] k)))) u0
 | _, _ => False
abbrev laws_FnExactCouldSay_e : Ent := ⟨[4], laws_FnExactCouldSay⟩
theorem laws_FnExactCouldSay_w : EntOK Tryz.prog TT laws_FnExactCouldSay_e := ent_ok tabok (L := [laws_szSaid_e, laws_toSaid_e, spec_CouldSay_e, impl_CouldSay_e, laws_eqSaid_e]) ⟨laws_szSaid_w, laws_toSaid_w, spec_CouldSay_w, impl_CouldSay_w, laws_eqSaid_w, trivial⟩ (keep := []) (l := []) Tryz.func4 (by kernel_rfl) (sg := [.one (.sc)]) (by kernel_rfl) trivial fun av k h => by
  unfold laws_FnExactCouldSay at h; split at h
  · apply un_all h; clear h; intro a0 a1 a2 h; exact Eq.mpr (by kernel_rfl) h
  · exact h.elim

def laws_szActor : GM
 | [.agg u0, .one a1], k => un 1 (fun a0 => 
  call laws_szIntS [.one a0, .one a1] fun o0 =>
  binP .lss (atP o0 0) (I 0) fun r1 =>
  iteP r1
   (rt [.sc] [(I (-1))] k)
   (rt [.sc] [(atP o0 0)] k)) u0
 | _, _ => False
abbrev laws_szActor_e : Ent := ⟨[186], laws_szActor⟩
theorem laws_szActor_w : EntOK Tryz.prog TT laws_szActor_e := ent_ok tabok (L := [laws_szIntS_e]) ⟨laws_szIntS_w, trivial⟩ (keep := []) (l := []) Tryz.func186 (by kernel_rfl) (sg := [.one (.sc)]) (by kernel_rfl) trivial fun av k h => by
  unfold laws_szActor at h; split at h
  · apply un_all h; clear h; intro a0 h; exact Eq.mpr (by kernel_rfl) h
  · exact h.elim

def laws_szActorS_r0 (v : List PV) (K : List PV → Prop) (x0k : Prop) (x1k : PV → PV → PV → PV → Prop) : Prop :=
 un 4 (fun v0 v1 v2 v3 =>
  lenP v0 fun r0 =>
  binP .lss v3 r0 fun r1 =>
  iteP r1
   (elemP 1 v0 v3 fun c2 =>
   call laws_szActor [.agg [(atP c2 0)], .one v1] fun o3 =>
   binP .lss (atP o3 0) (I 0) fun r4 =>
   iteP r4
    (x0k)
    (binP .add v3 (I 1) fun r5 =>
    K [v0, (atP o3 0), v2, r5]))
   (x1k v0 v1 v2 v3)) v
def laws_szActorS : GM
 | [.one a0, .one a1], k => 
  lenP a0 fun r0 =>
  binP .sub a1 r0 fun r1 =>
  binP .lss r1 (I 0) fun r2 =>
  iteP r2
   (rt [.sc] [(I (-1))] k)
   (lp (fun L w => laws_szActorS_r0 w L
    (rt [.sc] [(I (-1))] k)
    (fun q6 q7 q8 q9 => rt [.sc] [q7] k)) [a0, r1, (I 0), (I 0)])
 | _, _ => False
abbrev laws_szActorS_e : Ent := ⟨[78], laws_szActorS⟩
def laws_szActorS_l : List LE := [⟨0, ⟨[(0, .one (.pv (.bool false))), (1, .one (.pv (.bool false))), (4, .one (.pv (.bool false))), (5, .one (.pv (.bool false)))], [], [], 0, 27⟩, fun K k v => laws_szActorS_r0 v K (k .ret ⟨[(4, .one (.pv (I (-1))))], [], [], 1, 27⟩) (fun x0 x1 x2 x3 => k (.exit 0) ⟨[(0, .one (.pv x0)), (1, .one (.pv x1)), (4, .one (.pv x2)), (5, .one (.pv x3))], [], [], 0, 27⟩)⟩]
theorem laws_szActorS_s : LEsOK (orac [laws_szActor_e]) TT (kk [0, 1, 4, 5]) (sumsOf laws_szActorS_l) Tryz.f78 laws_szActorS_l := ⟨fun v K k h => by
  apply un_all h; exact fun v0 v1 v2 v3 h => Eq.mpr (by kernel_rfl) h
  , trivial⟩
theorem laws_szActorS_w : EntOK Tryz.prog TT laws_szActorS_e := ent_ok tabok (L := [laws_szActor_e]) ⟨laws_szActor_w, trivial⟩ (keep := (kk [0, 1, 4, 5])) (l := laws_szActorS_l) Tryz.func78 (by kernel_rfl) (sg := [.one (.sc)]) (by kernel_rfl) laws_szActorS_s fun av k h => by
  unfold laws_szActorS at h; split at h
  · exact Eq.mpr (by kernel_rfl) h
  · exact h.elim

def laws_szZoneS_r0 (v : List PV) (K : List PV → Prop) (x0k : Prop) (x1k : PV → PV → PV → PV → Prop) : Prop :=
 un 4 (fun v0 v1 v2 v3 =>
  lenP v0 fun r0 =>
  binP .lss v3 r0 fun r1 =>
  iteP r1
   (elemP 2 v0 v3 fun c2 =>
   call laws_szZone [.agg [(atP c2 0), (atP c2 1)], .one v1] fun o3 =>
   binP .lss (atP o3 0) (I 0) fun r4 =>
   iteP r4
    (x0k)
    (binP .add v3 (I 1) fun r5 =>
    K [v0, (atP o3 0), v2, r5]))
   (x1k v0 v1 v2 v3)) v
def laws_szZoneS : GM
 | [.one a0, .one a1], k => 
  lenP a0 fun r0 =>
  binP .sub a1 r0 fun r1 =>
  binP .lss r1 (I 0) fun r2 =>
  iteP r2
   (rt [.sc] [(I (-1))] k)
   (lp (fun L w => laws_szZoneS_r0 w L
    (rt [.sc] [(I (-1))] k)
    (fun q6 q7 q8 q9 => rt [.sc] [q7] k)) [a0, r1, (I 0), (I 0)])
 | _, _ => False
abbrev laws_szZoneS_e : Ent := ⟨[79], laws_szZoneS⟩
def laws_szZoneS_l : List LE := [⟨0, ⟨[(0, .one (.pv (.bool false))), (1, .one (.pv (.bool false))), (4, .one (.pv (.bool false))), (5, .one (.pv (.bool false)))], [], [], 0, 27⟩, fun K k v => laws_szZoneS_r0 v K (k .ret ⟨[(4, .one (.pv (I (-1))))], [], [], 1, 27⟩) (fun x0 x1 x2 x3 => k (.exit 0) ⟨[(0, .one (.pv x0)), (1, .one (.pv x1)), (4, .one (.pv x2)), (5, .one (.pv x3))], [], [], 0, 27⟩)⟩]
theorem laws_szZoneS_s : LEsOK (orac [laws_szZone_e]) TT (kk [0, 1, 4, 5]) (sumsOf laws_szZoneS_l) Tryz.f79 laws_szZoneS_l := ⟨fun v K k h => by
  apply un_all h; exact fun v0 v1 v2 v3 h => Eq.mpr (by kernel_rfl) h
  , trivial⟩
theorem laws_szZoneS_w : EntOK Tryz.prog TT laws_szZoneS_e := ent_ok tabok (L := [laws_szZone_e]) ⟨laws_szZone_w, trivial⟩ (keep := (kk [0, 1, 4, 5])) (l := laws_szZoneS_l) Tryz.func79 (by kernel_rfl) (sg := [.one (.sc)]) (by kernel_rfl) laws_szZoneS_s fun av k h => by
  unfold laws_szZoneS at h; split at h
  · exact Eq.mpr (by kernel_rfl) h
  · exact h.elim

def laws_szSaidS_r0 (v : List PV) (K : List PV → Prop) (x0k : Prop) (x1k : PV → PV → PV → PV → Prop) : Prop :=
 un 4 (fun v0 v1 v2 v3 =>
  lenP v0 fun r0 =>
  binP .lss v3 r0 fun r1 =>
  iteP r1
   (elemP 3 v0 v3 fun c2 =>
   call laws_szSaid [.agg [(atP c2 0), (atP c2 1), (atP c2 2)], .one v1] fun o3 =>
   binP .lss (atP o3 0) (I 0) fun r4 =>
   iteP r4
    (x0k)
    (binP .add v3 (I 1) fun r5 =>
    K [v0, (atP o3 0), v2, r5]))
   (x1k v0 v1 v2 v3)) v
def laws_szSaidS : GM
 | [.one a0, .one a1], k => 
  lenP a0 fun r0 =>
  binP .sub a1 r0 fun r1 =>
  binP .lss r1 (I 0) fun r2 =>
  iteP r2
   (rt [.sc] [(I (-1))] k)
   (lp (fun L w => laws_szSaidS_r0 w L
    (rt [.sc] [(I (-1))] k)
    (fun q6 q7 q8 q9 => rt [.sc] [q7] k)) [a0, r1, (I 0), (I 0)])
 | _, _ => False
abbrev laws_szSaidS_e : Ent := ⟨[80], laws_szSaidS⟩
def laws_szSaidS_l : List LE := [⟨0, ⟨[(0, .one (.pv (.bool false))), (1, .one (.pv (.bool false))), (4, .one (.pv (.bool false))), (5, .one (.pv (.bool false)))], [], [], 0, 27⟩, fun K k v => laws_szSaidS_r0 v K (k .ret ⟨[(4, .one (.pv (I (-1))))], [], [], 1, 27⟩) (fun x0 x1 x2 x3 => k (.exit 0) ⟨[(0, .one (.pv x0)), (1, .one (.pv x1)), (4, .one (.pv x2)), (5, .one (.pv x3))], [], [], 0, 27⟩)⟩]
theorem laws_szSaidS_s : LEsOK (orac [laws_szSaid_e]) TT (kk [0, 1, 4, 5]) (sumsOf laws_szSaidS_l) Tryz.f80 laws_szSaidS_l := ⟨fun v K k h => by
  apply un_all h; exact fun v0 v1 v2 v3 h => Eq.mpr (by kernel_rfl) h
  , trivial⟩
theorem laws_szSaidS_w : EntOK Tryz.prog TT laws_szSaidS_e := ent_ok tabok (L := [laws_szSaid_e]) ⟨laws_szSaid_w, trivial⟩ (keep := (kk [0, 1, 4, 5])) (l := laws_szSaidS_l) Tryz.func80 (by kernel_rfl) (sg := [.one (.sc)]) (by kernel_rfl) laws_szSaidS_s fun av k h => by
  unfold laws_szSaidS at h; split at h
  · exact Eq.mpr (by kernel_rfl) h
  · exact h.elim

def laws_szServer : GM
 | [.agg u0, .one a2], k => un 2 (fun a0 a1 => 
  call laws_szZoneS [.one a0, .one a2] fun o0 =>
  binP .lss (atP o0 0) (I 0) fun r1 =>
  iteP r1
   (rt [.sc] [(I (-1))] k)
   (rt [.sc] [(atP o0 0)] k)) u0
 | _, _ => False
abbrev laws_szServer_e : Ent := ⟨[187], laws_szServer⟩
theorem laws_szServer_w : EntOK Tryz.prog TT laws_szServer_e := ent_ok tabok (L := [laws_szZoneS_e]) ⟨laws_szZoneS_w, trivial⟩ (keep := []) (l := []) Tryz.func187 (by kernel_rfl) (sg := [.one (.sc)]) (by kernel_rfl) trivial fun av k h => by
  unfold laws_szServer at h; split at h
  · apply un_all h; clear h; intro a0 a1 h; exact Eq.mpr (by kernel_rfl) h
  · exact h.elim

def laws_szServerS_r0 (v : List PV) (K : List PV → Prop) (x0k : Prop) (x1k : PV → PV → PV → PV → Prop) : Prop :=
 un 4 (fun v0 v1 v2 v3 =>
  lenP v0 fun r0 =>
  binP .lss v3 r0 fun r1 =>
  iteP r1
   (elemP 2 v0 v3 fun c2 =>
   call laws_szServer [.agg [(atP c2 0), (atP c2 1)], .one v1] fun o3 =>
   binP .lss (atP o3 0) (I 0) fun r4 =>
   iteP r4
    (x0k)
    (binP .add v3 (I 1) fun r5 =>
    K [v0, (atP o3 0), v2, r5]))
   (x1k v0 v1 v2 v3)) v
def laws_szServerS : GM
 | [.one a0, .one a1], k => 
  lenP a0 fun r0 =>
  binP .sub a1 r0 fun r1 =>
  binP .lss r1 (I 0) fun r2 =>
  iteP r2
   (rt [.sc] [(I (-1))] k)
   (lp (fun L w => laws_szServerS_r0 w L
    (rt [.sc] [(I (-1))] k)
    (fun q6 q7 q8 q9 => rt [.sc] [q7] k)) [a0, r1, (I 0), (I 0)])
 | _, _ => False
abbrev laws_szServerS_e : Ent := ⟨[81], laws_szServerS⟩
def laws_szServerS_l : List LE := [⟨0, ⟨[(0, .one (.pv (.bool false))), (1, .one (.pv (.bool false))), (4, .one (.pv (.bool false))), (5, .one (.pv (.bool false)))], [], [], 0, 27⟩, fun K k v => laws_szServerS_r0 v K (k .ret ⟨[(4, .one (.pv (I (-1))))], [], [], 1, 27⟩) (fun x0 x1 x2 x3 => k (.exit 0) ⟨[(0, .one (.pv x0)), (1, .one (.pv x1)), (4, .one (.pv x2)), (5, .one (.pv x3))], [], [], 0, 27⟩)⟩]
theorem laws_szServerS_s : LEsOK (orac [laws_szServer_e]) TT (kk [0, 1, 4, 5]) (sumsOf laws_szServerS_l) Tryz.f81 laws_szServerS_l := ⟨fun v K k h => by
  apply un_all h; exact fun v0 v1 v2 v3 h => Eq.mpr (by kernel_rfl) h
  , trivial⟩
theorem laws_szServerS_w : EntOK Tryz.prog TT laws_szServerS_e := ent_ok tabok (L := [laws_szServer_e]) ⟨laws_szServer_w, trivial⟩ (keep := (kk [0, 1, 4, 5])) (l := laws_szServerS_l) Tryz.func81 (by kernel_rfl) (sg := [.one (.sc)]) (by kernel_rfl) laws_szServerS_s fun av k h => by
  unfold laws_szServerS at h; split at h
  · exact Eq.mpr (by kernel_rfl) h
  · exact h.elim

def laws_szSignedSS_r0 (v : List PV) (K : List PV → Prop) (x0k : Prop) (x1k : PV → PV → PV → PV → Prop) : Prop :=
 un 4 (fun v0 v1 v2 v3 =>
  lenP v0 fun r0 =>
  binP .lss v3 r0 fun r1 =>
  iteP r1
   (elemP 1 v0 v3 fun c2 =>
   call laws_szSignedS [.one (atP c2 0), .one v1] fun o3 =>
   binP .lss (atP o3 0) (I 0) fun r4 =>
   iteP r4
    (x0k)
    (binP .add v3 (I 1) fun r5 =>
    K [v0, (atP o3 0), v2, r5]))
   (x1k v0 v1 v2 v3)) v
def laws_szSignedSS : GM
 | [.one a0, .one a1], k => 
  lenP a0 fun r0 =>
  binP .sub a1 r0 fun r1 =>
  binP .lss r1 (I 0) fun r2 =>
  iteP r2
   (rt [.sc] [(I (-1))] k)
   (lp (fun L w => laws_szSignedSS_r0 w L
    (rt [.sc] [(I (-1))] k)
    (fun q6 q7 q8 q9 => rt [.sc] [q7] k)) [a0, r1, (I 0), (I 0)])
 | _, _ => False
abbrev laws_szSignedSS_e : Ent := ⟨[188], laws_szSignedSS⟩
def laws_szSignedSS_l : List LE := [⟨0, ⟨[(0, .one (.pv (.bool false))), (1, .one (.pv (.bool false))), (4, .one (.pv (.bool false))), (5, .one (.pv (.bool false)))], [], [], 0, 27⟩, fun K k v => laws_szSignedSS_r0 v K (k .ret ⟨[(4, .one (.pv (I (-1))))], [], [], 1, 27⟩) (fun x0 x1 x2 x3 => k (.exit 0) ⟨[(0, .one (.pv x0)), (1, .one (.pv x1)), (4, .one (.pv x2)), (5, .one (.pv x3))], [], [], 0, 27⟩)⟩]
theorem laws_szSignedSS_s : LEsOK (orac [laws_szSignedS_e]) TT (kk [0, 1, 4, 5]) (sumsOf laws_szSignedSS_l) Tryz.f188 laws_szSignedSS_l := ⟨fun v K k h => by
  apply un_all h; exact fun v0 v1 v2 v3 h => Eq.mpr (by kernel_rfl) h
  , trivial⟩
theorem laws_szSignedSS_w : EntOK Tryz.prog TT laws_szSignedSS_e := ent_ok tabok (L := [laws_szSignedS_e]) ⟨laws_szSignedS_w, trivial⟩ (keep := (kk [0, 1, 4, 5])) (l := laws_szSignedSS_l) Tryz.func188 (by kernel_rfl) (sg := [.one (.sc)]) (by kernel_rfl) laws_szSignedSS_s fun av k h => by
  unfold laws_szSignedSS at h; split at h
  · exact Eq.mpr (by kernel_rfl) h
  · exact h.elim

def laws_szFork : GM
 | [.agg u0, .one a51], k => un 51 (fun a0 a1 a2 a3 a4 a5 a6 a7 a8 a9 a10 a11 a12 a13 a14 a15 a16 a17 a18 a19 a20 a21 a22 a23 a24 a25 a26 a27 a28 a29 a30 a31 a32 a33 a34 a35 a36 a37 a38 a39 a40 a41 a42 a43 a44 a45 a46 a47 a48 a49 a50 => 
  call laws_szSigned [.agg [a0, a1, a2, a3, a4, a5, a6, a7, a8, a9, a10, a11, a12, a13, a14, a15, a16], .one a51] fun o0 =>
  binP .lss (atP o0 0) (I 0) fun r1 =>
  iteP r1
   (rt [.sc] [(I (-1))] k)
   (call laws_szSigned [.agg [a17, a18, a19, a20, a21, a22, a23, a24, a25, a26, a27, a28, a29, a30, a31, a32, a33], .one (atP o0 0)] fun o2 =>
   binP .lss (atP o2 0) (I 0) fun r3 =>
   iteP r3
    (rt [.sc] [(I (-1))] k)
    (call laws_szSigned [.agg [a34, a35, a36, a37, a38, a39, a40, a41, a42, a43, a44, a45, a46, a47, a48, a49, a50], .one (atP o2 0)] fun o4 =>
    binP .lss (atP o4 0) (I 0) fun r5 =>
    iteP r5
     (rt [.sc] [(I (-1))] k)
     (rt [.sc] [(atP o4 0)] k)))) u0
 | _, _ => False
abbrev laws_szFork_e : Ent := ⟨[275], laws_szFork⟩
theorem laws_szFork_w : EntOK Tryz.prog TT laws_szFork_e := ent_ok tabok (L := [laws_szSigned_e]) ⟨laws_szSigned_w, trivial⟩ (keep := []) (l := []) Tryz.func275 (by kernel_rfl) (sg := [.one (.sc)]) (by kernel_rfl) trivial fun av k h => by
  unfold laws_szFork at h; split at h
  · apply un_all h; clear h; intro a0 a1 a2 a3 a4 a5 a6 a7 a8 a9 a10 a11 a12 a13 a14 a15 a16 a17 a18 a19 a20 a21 a22 a23 a24 a25 a26 a27 a28 a29 a30 a31 a32 a33 a34 a35 a36 a37 a38 a39 a40 a41 a42 a43 a44 a45 a46 a47 a48 a49 a50 h; exact Eq.mpr (by kernel_rfl) h
  · exact h.elim

def laws_szForkS_r0 (v : List PV) (K : List PV → Prop) (x0k : Prop) (x1k : PV → PV → PV → PV → Prop) : Prop :=
 un 4 (fun v0 v1 v2 v3 =>
  lenP v0 fun r0 =>
  binP .lss v3 r0 fun r1 =>
  iteP r1
   (elemP 51 v0 v3 fun c2 =>
   call laws_szFork [.agg [(atP c2 0), (atP c2 1), (atP c2 2), (atP c2 3), (atP c2 4), (atP c2 5), (atP c2 6), (atP c2 7), (atP c2 8), (atP c2 9), (atP c2 10), (atP c2 11), (atP c2 12), (atP c2 13), (atP c2 14), (atP c2 15), (atP c2 16), (atP c2 17), (atP c2 18), (atP c2 19), (atP c2 20), (atP c2 21), (atP c2 22), (atP c2 23), (atP c2 24), (atP c2 25), (atP c2 26), (atP c2 27), (atP c2 28), (atP c2 29), (atP c2 30), (atP c2 31), (atP c2 32), (atP c2 33), (atP c2 34), (atP c2 35), (atP c2 36), (atP c2 37), (atP c2 38), (atP c2 39), (atP c2 40), (atP c2 41), (atP c2 42), (atP c2 43), (atP c2 44), (atP c2 45), (atP c2 46), (atP c2 47), (atP c2 48), (atP c2 49), (atP c2 50)], .one v1] fun o3 =>
   binP .lss (atP o3 0) (I 0) fun r4 =>
   iteP r4
    (x0k)
    (binP .add v3 (I 1) fun r5 =>
    K [v0, (atP o3 0), v2, r5]))
   (x1k v0 v1 v2 v3)) v
def laws_szForkS : GM
 | [.one a0, .one a1], k => 
  lenP a0 fun r0 =>
  binP .sub a1 r0 fun r1 =>
  binP .lss r1 (I 0) fun r2 =>
  iteP r2
   (rt [.sc] [(I (-1))] k)
   (lp (fun L w => laws_szForkS_r0 w L
    (rt [.sc] [(I (-1))] k)
    (fun q6 q7 q8 q9 => rt [.sc] [q7] k)) [a0, r1, (I 0), (I 0)])
 | _, _ => False
abbrev laws_szForkS_e : Ent := ⟨[189], laws_szForkS⟩
def laws_szForkS_l : List LE := [⟨0, ⟨[(0, .one (.pv (.bool false))), (1, .one (.pv (.bool false))), (4, .one (.pv (.bool false))), (5, .one (.pv (.bool false)))], [], [], 0, 27⟩, fun K k v => laws_szForkS_r0 v K (k .ret ⟨[(4, .one (.pv (I (-1))))], [], [], 1, 27⟩) (fun x0 x1 x2 x3 => k (.exit 0) ⟨[(0, .one (.pv x0)), (1, .one (.pv x1)), (4, .one (.pv x2)), (5, .one (.pv x3))], [], [], 0, 27⟩)⟩]
theorem laws_szForkS_s : LEsOK (orac [laws_szFork_e]) TT (kk [0, 1, 4, 5]) (sumsOf laws_szForkS_l) Tryz.f189 laws_szForkS_l := ⟨fun v K k h => by
  apply un_all h; exact fun v0 v1 v2 v3 h => Eq.mpr (by kernel_rfl) h
  , trivial⟩
theorem laws_szForkS_w : EntOK Tryz.prog TT laws_szForkS_e := ent_ok tabok (L := [laws_szFork_e]) ⟨laws_szFork_w, trivial⟩ (keep := (kk [0, 1, 4, 5])) (l := laws_szForkS_l) Tryz.func189 (by kernel_rfl) (sg := [.one (.sc)]) (by kernel_rfl) laws_szForkS_s fun av k h => by
  unfold laws_szForkS at h; split at h
  · exact Eq.mpr (by kernel_rfl) h
  · exact h.elim

def laws_szKnown : GM
 | [.agg u0, .one a2], k => un 2 (fun a0 a1 => 
  call laws_szSignedSS [.one a0, .one a2] fun o0 =>
  binP .lss (atP o0 0) (I 0) fun r1 =>
  iteP r1
   (rt [.sc] [(I (-1))] k)
   (call laws_szForkS [.one a1, .one (atP o0 0)] fun o2 =>
   binP .lss (atP o2 0) (I 0) fun r3 =>
   iteP r3
    (rt [.sc] [(I (-1))] k)
    (rt [.sc] [(atP o2 0)] k))) u0
 | _, _ => False
abbrev laws_szKnown_e : Ent := ⟨[82], laws_szKnown⟩
theorem laws_szKnown_w : EntOK Tryz.prog TT laws_szKnown_e := ent_ok tabok (L := [laws_szSignedSS_e, laws_szForkS_e]) ⟨laws_szSignedSS_w, laws_szForkS_w, trivial⟩ (keep := []) (l := []) Tryz.func82 (by kernel_rfl) (sg := [.one (.sc)]) (by kernel_rfl) trivial fun av k h => by
  unfold laws_szKnown at h; split at h
  · apply un_all h; clear h; intro a0 a1 h; exact Eq.mpr (by kernel_rfl) h
  · exact h.elim

def laws_szCache : GM
 | [.agg u0, .one a1], k => un 1 (fun a0 => 
  call laws_szStoredS [.one a0, .one a1] fun o0 =>
  binP .lss (atP o0 0) (I 0) fun r1 =>
  iteP r1
   (rt [.sc] [(I (-1))] k)
   (rt [.sc] [(atP o0 0)] k)) u0
 | _, _ => False
abbrev laws_szCache_e : Ent := ⟨[83], laws_szCache⟩
theorem laws_szCache_w : EntOK Tryz.prog TT laws_szCache_e := ent_ok tabok (L := [laws_szStoredS_e]) ⟨laws_szStoredS_w, trivial⟩ (keep := []) (l := []) Tryz.func83 (by kernel_rfl) (sg := [.one (.sc)]) (by kernel_rfl) trivial fun av k h => by
  unfold laws_szCache at h; split at h
  · apply un_all h; clear h; intro a0 h; exact Eq.mpr (by kernel_rfl) h
  · exact h.elim

def laws_szWorld : GM
 | [.agg u0, .one a8], k => un 8 (fun a0 a1 a2 a3 a4 a5 a6 a7 => 
  call laws_szActorS [.one a1, .one a8] fun o0 =>
  binP .lss (atP o0 0) (I 0) fun r1 =>
  iteP r1
   (rt [.sc] [(I (-1))] k)
   (call laws_szZoneS [.one a2, .one (atP o0 0)] fun o2 =>
   binP .lss (atP o2 0) (I 0) fun r3 =>
   iteP r3
    (rt [.sc] [(I (-1))] k)
    (call laws_szSaidS [.one a3, .one (atP o2 0)] fun o4 =>
    binP .lss (atP o4 0) (I 0) fun r5 =>
    iteP r5
     (rt [.sc] [(I (-1))] k)
     (call laws_szServerS [.one a4, .one (atP o4 0)] fun o6 =>
     binP .lss (atP o6 0) (I 0) fun r7 =>
     iteP r7
      (rt [.sc] [(I (-1))] k)
      (call laws_szKnown [.agg [a5, a6], .one (atP o6 0)] fun o8 =>
      binP .lss (atP o8 0) (I 0) fun r9 =>
      iteP r9
       (rt [.sc] [(I (-1))] k)
       (call laws_szCache [.agg [a7], .one (atP o8 0)] fun o10 =>
       binP .lss (atP o10 0) (I 0) fun r11 =>
       iteP r11
        (rt [.sc] [(I (-1))] k)
        (rt [.sc] [(atP o10 0)] k))))))) u0
 | _, _ => False
abbrev laws_szWorld_e : Ent := ⟨[25], laws_szWorld⟩
theorem laws_szWorld_w : EntOK Tryz.prog TT laws_szWorld_e := ent_ok tabok (L := [laws_szActorS_e, laws_szZoneS_e, laws_szSaidS_e, laws_szServerS_e, laws_szKnown_e, laws_szCache_e]) ⟨laws_szActorS_w, laws_szZoneS_w, laws_szSaidS_w, laws_szServerS_w, laws_szKnown_w, laws_szCache_w, trivial⟩ (keep := []) (l := []) Tryz.func25 (by kernel_rfl) (sg := [.one (.sc)]) (by kernel_rfl) trivial fun av k h => by
  unfold laws_szWorld at h; split at h
  · apply un_all h; clear h; intro a0 a1 a2 a3 a4 a5 a6 a7 h; exact Eq.mpr (by kernel_rfl) h
  · exact h.elim

def laws_toActor : GM
 | [.agg u0], k => un 1 (fun a0 => 
  call laws_toIntS [.one a0] fun o0 =>
  rt [.own true 3 1] [(atP o0 0)] k) u0
 | _, _ => False
abbrev laws_toActor_e : Ent := ⟨[193], laws_toActor⟩
theorem laws_toActor_w : EntOK Tryz.prog TT laws_toActor_e := ent_ok tabok (L := [laws_toIntS_e]) ⟨laws_toIntS_w, trivial⟩ (keep := []) (l := []) Tryz.func193 (by kernel_rfl) (sg := [.agg [.own true 3 1]]) (by kernel_rfl) trivial fun av k h => by
  unfold laws_toActor at h; split at h
  · apply un_all h; clear h; intro a0 h; exact Eq.mpr (by kernel_rfl) h
  · exact h.elim

def laws_toActorS_r0 (v : List PV) (K : List PV → Prop) (x0k : PV → PV → PV → PV → Prop) : Prop :=
 un 4 (fun v0 v1 v2 v3 =>
  lenP v0 fun r0 =>
  binP .lss v1 r0 fun r1 =>
  iteP r1
   (elemP 1 v0 v1 fun c2 =>
   call laws_toActor [.agg [(atP c2 0)]] fun o3 =>
   boundP 1 v3 v1 fun n4 =>
   (flatCond [.nil 3 1] [.own 2]) ∧ setP v3 n4 0 [(atP o3 0)] fun r5 =>
   binP .add v1 (I 1) fun r6 =>
   K [v0, r6, v2, r5])
   (x0k v0 v1 v2 v3)) v
def laws_toActorS : GM
 | [.one a0], k => 
  lenP a0 fun r0 =>
  (r0 = r0) ∧ (1 = 1) ∧ makeP 1 r0 [(.list 1 [])] fun r1 =>
  lp (fun L w => laws_toActorS_r0 w L
   (fun q7 q8 q9 q10 => rt [.own true 223 1] [q10] k)) [a0, (I 0), (.list 1 []), r1]
 | _, _ => False
abbrev laws_toActorS_e : Ent := ⟨[86], laws_toActorS⟩
def laws_toActorS_l : List LE := [⟨0, ⟨[(0, .one (.pv (.bool false))), (2, .one (.own 1)), (3, .one (.own 0)), (4, .one (.pv (.bool false)))], [], [(1, ⟨.deep, 223, 1, (.bool false)⟩), (0, ⟨.deep, 223, 1, (.bool false)⟩)], 2, 23⟩, fun K k v => laws_toActorS_r0 v K (fun x0 x1 x2 x3 => k (.exit 0) ⟨[(0, .one (.pv x0)), (2, .one (.own 1)), (3, .one (.own 0)), (4, .one (.pv x1))], [], [(1, ⟨.deep, 223, 1, x2⟩), (0, ⟨.deep, 223, 1, x3⟩)], 2, 23⟩)⟩]
theorem laws_toActorS_s : LEsOK (orac [laws_toActor_e]) TT (kk [0, 2, 3, 4]) (sumsOf laws_toActorS_l) Tryz.f86 laws_toActorS_l := ⟨fun v K k h => by
  apply un_all h; exact fun v0 v1 v2 v3 h => Eq.mpr (by kernel_rfl) h
  , trivial⟩
theorem laws_toActorS_w : EntOK Tryz.prog TT laws_toActorS_e := ent_ok tabok (L := [laws_toActor_e]) ⟨laws_toActor_w, trivial⟩ (keep := (kk [0, 2, 3, 4])) (l := laws_toActorS_l) Tryz.func86 (by kernel_rfl) (sg := [.one (.own true 223 1)]) (by kernel_rfl) laws_toActorS_s fun av k h => by
  unfold laws_toActorS at h; split at h
  · exact Eq.mpr (by kernel_rfl) h
  · exact h.elim

def laws_toZoneS_r0 (v : List PV) (K : List PV → Prop) (x0k : PV → PV → PV → PV → Prop) : Prop :=
 un 4 (fun v0 v1 v2 v3 =>
  lenP v0 fun r0 =>
  binP .lss v1 r0 fun r1 =>
  iteP r1
   (elemP 2 v0 v1 fun c2 =>
   call laws_toZone [.agg [(atP c2 0), (atP c2 1)]] fun o3 =>
   boundP 2 v3 v1 fun n4 =>
   (flatCond [.nil 155 17, .nil 101 4] [.own 2, .own 3]) ∧ setP v3 n4 0 [(atP o3 0), (atP o3 1)] fun r5 =>
   binP .add v1 (I 1) fun r6 =>
   K [v0, r6, v2, r5])
   (x0k v0 v1 v2 v3)) v
def laws_toZoneS : GM
 | [.one a0], k => 
  lenP a0 fun r0 =>
  (r0 = r0) ∧ (2 = 2) ∧ makeP 2 r0 [(.list 17 []), (.list 4 [])] fun r1 =>
  lp (fun L w => laws_toZoneS_r0 w L
   (fun q7 q8 q9 q10 => rt [.own true 46 2] [q10] k)) [a0, (I 0), (.list 2 []), r1]
 | _, _ => False
abbrev laws_toZoneS_e : Ent := ⟨[87], laws_toZoneS⟩
def laws_toZoneS_l : List LE := [⟨0, ⟨[(0, .one (.pv (.bool false))), (2, .one (.own 1)), (3, .one (.own 0)), (4, .one (.pv (.bool false)))], [], [(1, ⟨.deep, 46, 2, (.bool false)⟩), (0, ⟨.deep, 46, 2, (.bool false)⟩)], 2, 23⟩, fun K k v => laws_toZoneS_r0 v K (fun x0 x1 x2 x3 => k (.exit 0) ⟨[(0, .one (.pv x0)), (2, .one (.own 1)), (3, .one (.own 0)), (4, .one (.pv x1))], [], [(1, ⟨.deep, 46, 2, x2⟩), (0, ⟨.deep, 46, 2, x3⟩)], 2, 23⟩)⟩]
theorem laws_toZoneS_s : LEsOK (orac [laws_toZone_e]) TT (kk [0, 2, 3, 4]) (sumsOf laws_toZoneS_l) Tryz.f87 laws_toZoneS_l := ⟨fun v K k h => by
  apply un_all h; exact fun v0 v1 v2 v3 h => Eq.mpr (by kernel_rfl) h
  , trivial⟩
theorem laws_toZoneS_w : EntOK Tryz.prog TT laws_toZoneS_e := ent_ok tabok (L := [laws_toZone_e]) ⟨laws_toZone_w, trivial⟩ (keep := (kk [0, 2, 3, 4])) (l := laws_toZoneS_l) Tryz.func87 (by kernel_rfl) (sg := [.one (.own true 46 2)]) (by kernel_rfl) laws_toZoneS_s fun av k h => by
  unfold laws_toZoneS at h; split at h
  · exact Eq.mpr (by kernel_rfl) h
  · exact h.elim

def laws_toSaidS_r0 (v : List PV) (K : List PV → Prop) (x0k : PV → PV → PV → PV → Prop) : Prop :=
 un 4 (fun v0 v1 v2 v3 =>
  lenP v0 fun r0 =>
  binP .lss v1 r0 fun r1 =>
  iteP r1
   (elemP 3 v0 v1 fun c2 =>
   call laws_toSaid [.agg [(atP c2 0), (atP c2 1), (atP c2 2)]] fun o3 =>
   boundP 3 v3 v1 fun n4 =>
   (flatCond [.nil 155 17, .nil 101 4, .nil 3 1] [.own 2, .own 3, .own 4]) ∧ setP v3 n4 0 [(atP o3 0), (atP o3 1), (atP o3 2)] fun r5 =>
   binP .add v1 (I 1) fun r6 =>
   K [v0, r6, v2, r5])
   (x0k v0 v1 v2 v3)) v
def laws_toSaidS : GM
 | [.one a0], k => 
  lenP a0 fun r0 =>
  (r0 = r0) ∧ (3 = 3) ∧ makeP 3 r0 [(.list 17 []), (.list 4 []), (.list 1 [])] fun r1 =>
  lp (fun L w => laws_toSaidS_r0 w L
   (fun q7 q8 q9 q10 => rt [.own true 48 3] [q10] k)) [a0, (I 0), (.list 3 []), r1]
 | _, _ => False
abbrev laws_toSaidS_e : Ent := ⟨[88], laws_toSaidS⟩
def laws_toSaidS_l : List LE := [⟨0, ⟨[(0, .one (.pv (.bool false))), (2, .one (.own 1)), (3, .one (.own 0)), (4, .one (.pv (.bool false)))], [], [(1, ⟨.deep, 48, 3, (.bool false)⟩), (0, ⟨.deep, 48, 3, (.bool false)⟩)], 2, 23⟩, fun K k v => laws_toSaidS_r0 v K (fun x0 x1 x2 x3 => k (.exit 0) ⟨[(0, .one (.pv x0)), (2, .one (.own 1)), (3, .one (.own 0)), (4, .one (.pv x1))], [], [(1, ⟨.deep, 48, 3, x2⟩), (0, ⟨.deep, 48, 3, x3⟩)], 2, 23⟩)⟩]
theorem laws_toSaidS_s : LEsOK (orac [laws_toSaid_e]) TT (kk [0, 2, 3, 4]) (sumsOf laws_toSaidS_l) Tryz.f88 laws_toSaidS_l := ⟨fun v K k h => by
  apply un_all h; exact fun v0 v1 v2 v3 h => Eq.mpr (by kernel_rfl) h
  , trivial⟩
theorem laws_toSaidS_w : EntOK Tryz.prog TT laws_toSaidS_e := ent_ok tabok (L := [laws_toSaid_e]) ⟨laws_toSaid_w, trivial⟩ (keep := (kk [0, 2, 3, 4])) (l := laws_toSaidS_l) Tryz.func88 (by kernel_rfl) (sg := [.one (.own true 48 3)]) (by kernel_rfl) laws_toSaidS_s fun av k h => by
  unfold laws_toSaidS at h; split at h
  · exact Eq.mpr (by kernel_rfl) h
  · exact h.elim

def laws_toServer : GM
 | [.agg u0], k => un 2 (fun a0 a1 => 
  call laws_toZoneS [.one a0] fun o0 =>
  rt [.own true 46 2, .sc] [(atP o0 0), a1] k) u0
 | _, _ => False
abbrev laws_toServer_e : Ent := ⟨[194], laws_toServer⟩
theorem laws_toServer_w : EntOK Tryz.prog TT laws_toServer_e := ent_ok tabok (L := [laws_toZoneS_e]) ⟨laws_toZoneS_w, trivial⟩ (keep := []) (l := []) Tryz.func194 (by kernel_rfl) (sg := [.agg [.own true 46 2, .sc]]) (by kernel_rfl) trivial fun av k h => by
  unfold laws_toServer at h; split at h
  · apply un_all h; clear h; intro a0 a1 h; exact Eq.mpr (by kernel_rfl) h
  · exact h.elim

def laws_toServerS_r0 (v : List PV) (K : List PV → Prop) (x0k : PV → PV → PV → PV → Prop) : Prop :=
 un 4 (fun v0 v1 v2 v3 =>
  lenP v0 fun r0 =>
  binP .lss v1 r0 fun r1 =>
  iteP r1
   (elemP 2 v0 v1 fun c2 =>
   call laws_toServer [.agg [(atP c2 0), (atP c2 1)]] fun o3 =>
   boundP 2 v3 v1 fun n4 =>
   (flatCond [.nil 46 2, .pv (I 0)] [.own 2, .pv (atP o3 1)]) ∧ setP v3 n4 0 [(atP o3 0), (atP o3 1)] fun r5 =>
   binP .add v1 (I 1) fun r6 =>
   K [v0, r6, v2, r5])
   (x0k v0 v1 v2 v3)) v
def laws_toServerS : GM
 | [.one a0], k => 
  lenP a0 fun r0 =>
  (r0 = r0) ∧ (2 = 2) ∧ makeP 2 r0 [(.list 2 []), (I 0)] fun r1 =>
  lp (fun L w => laws_toServerS_r0 w L
   (fun q7 q8 q9 q10 => rt [.own true 174 2] [q10] k)) [a0, (I 0), (.list 2 []), r1]
 | _, _ => False
abbrev laws_toServerS_e : Ent := ⟨[89], laws_toServerS⟩
def laws_toServerS_l : List LE := [⟨0, ⟨[(0, .one (.pv (.bool false))), (2, .one (.own 1)), (3, .one (.own 0)), (4, .one (.pv (.bool false)))], [], [(1, ⟨.deep, 174, 2, (.bool false)⟩), (0, ⟨.deep, 174, 2, (.bool false)⟩)], 2, 23⟩, fun K k v => laws_toServerS_r0 v K (fun x0 x1 x2 x3 => k (.exit 0) ⟨[(0, .one (.pv x0)), (2, .one (.own 1)), (3, .one (.own 0)), (4, .one (.pv x1))], [], [(1, ⟨.deep, 174, 2, x2⟩), (0, ⟨.deep, 174, 2, x3⟩)], 2, 23⟩)⟩]
theorem laws_toServerS_s : LEsOK (orac [laws_toServer_e]) TT (kk [0, 2, 3, 4]) (sumsOf laws_toServerS_l) Tryz.f89 laws_toServerS_l := ⟨fun v K k h => by
  apply un_all h; exact fun v0 v1 v2 v3 h => Eq.mpr (by kernel_rfl) h
  , trivial⟩
theorem laws_toServerS_w : EntOK Tryz.prog TT laws_toServerS_e := ent_ok tabok (L := [laws_toServer_e]) ⟨laws_toServer_w, trivial⟩ (keep := (kk [0, 2, 3, 4])) (l := laws_toServerS_l) Tryz.func89 (by kernel_rfl) (sg := [.one (.own true 174 2)]) (by kernel_rfl) laws_toServerS_s fun av k h => by
  unfold laws_toServerS at h; split at h
  · exact Eq.mpr (by kernel_rfl) h
  · exact h.elim

def laws_toSignedSS_r0 (v : List PV) (K : List PV → Prop) (x0k : PV → PV → PV → PV → Prop) : Prop :=
 un 4 (fun v0 v1 v2 v3 =>
  lenP v0 fun r0 =>
  binP .lss v1 r0 fun r1 =>
  iteP r1
   (elemP 1 v0 v1 fun c2 =>
   call laws_toSignedS [.one (atP c2 0)] fun o3 =>
   boundP 1 v3 v1 fun n4 =>
   (flatCond [.nil 155 17] [.own 2]) ∧ setP v3 n4 0 [(atP o3 0)] fun r5 =>
   binP .add v1 (I 1) fun r6 =>
   K [v0, r6, v2, r5])
   (x0k v0 v1 v2 v3)) v
def laws_toSignedSS : GM
 | [.one a0], k => 
  lenP a0 fun r0 =>
  (r0 = r0) ∧ (1 = 1) ∧ makeP 1 r0 [(.list 17 [])] fun r1 =>
  lp (fun L w => laws_toSignedSS_r0 w L
   (fun q7 q8 q9 q10 => rt [.own true 43 1] [q10] k)) [a0, (I 0), (.list 1 []), r1]
 | _, _ => False
abbrev laws_toSignedSS_e : Ent := ⟨[195], laws_toSignedSS⟩
def laws_toSignedSS_l : List LE := [⟨0, ⟨[(0, .one (.pv (.bool false))), (2, .one (.own 1)), (3, .one (.own 0)), (4, .one (.pv (.bool false)))], [], [(1, ⟨.deep, 43, 1, (.bool false)⟩), (0, ⟨.deep, 43, 1, (.bool false)⟩)], 2, 23⟩, fun K k v => laws_toSignedSS_r0 v K (fun x0 x1 x2 x3 => k (.exit 0) ⟨[(0, .one (.pv x0)), (2, .one (.own 1)), (3, .one (.own 0)), (4, .one (.pv x1))], [], [(1, ⟨.deep, 43, 1, x2⟩), (0, ⟨.deep, 43, 1, x3⟩)], 2, 23⟩)⟩]
theorem laws_toSignedSS_s : LEsOK (orac [laws_toSignedS_e]) TT (kk [0, 2, 3, 4]) (sumsOf laws_toSignedSS_l) Tryz.f195 laws_toSignedSS_l := ⟨fun v K k h => by
  apply un_all h; exact fun v0 v1 v2 v3 h => Eq.mpr (by kernel_rfl) h
  , trivial⟩
theorem laws_toSignedSS_w : EntOK Tryz.prog TT laws_toSignedSS_e := ent_ok tabok (L := [laws_toSignedS_e]) ⟨laws_toSignedS_w, trivial⟩ (keep := (kk [0, 2, 3, 4])) (l := laws_toSignedSS_l) Tryz.func195 (by kernel_rfl) (sg := [.one (.own true 43 1)]) (by kernel_rfl) laws_toSignedSS_s fun av k h => by
  unfold laws_toSignedSS at h; split at h
  · exact Eq.mpr (by kernel_rfl) h
  · exact h.elim

def laws_toFork : GM
 | [.agg u0], k => un 51 (fun a0 a1 a2 a3 a4 a5 a6 a7 a8 a9 a10 a11 a12 a13 a14 a15 a16 a17 a18 a19 a20 a21 a22 a23 a24 a25 a26 a27 a28 a29 a30 a31 a32 a33 a34 a35 a36 a37 a38 a39 a40 a41 a42 a43 a44 a45 a46 a47 a48 a49 a50 => 
  call laws_toSigned [.agg [a0, a1, a2, a3, a4, a5, a6, a7, a8, a9, a10, a11, a12, a13, a14, a15, a16]] fun o0 =>
  call laws_toSigned [.agg [a17, a18, a19, a20, a21, a22, a23, a24, a25, a26, a27, a28, a29, a30, a31, a32, a33]] fun o1 =>
  call laws_toSigned [.agg [a34, a35, a36, a37, a38, a39, a40, a41, a42, a43, a44, a45, a46, a47, a48, a49, a50]] fun o2 =>
  rt [.sc, .sc, .sc, .sc, .sc, .sc, .sc, .sc, .own true 3 1, .sc, .own true 3 1, .sc, .sc, .own true 3 1, .sc, .sc, .own true 251 2, .sc, .sc, .sc, .sc, .sc, .sc, .sc, .sc, .own true 3 1, .sc, .own true 3 1, .sc, .sc, .own true 3 1, .sc, .sc, .own true 251 2, .sc, .sc, .sc, .sc, .sc, .sc, .sc, .sc, .own true 3 1, .sc, .own true 3 1, .sc, .sc, .own true 3 1, .sc, .sc, .own true 251 2] [(atP o0 0), (atP o0 1), (atP o0 2), (atP o0 3), (atP o0 4), (atP o0 5), (atP o0 6), (atP o0 7), (atP o0 8), (atP o0 9), (atP o0 10), (atP o0 11), (atP o0 12), (atP o0 13), (atP o0 14), (atP o0 15), (atP o0 16), (atP o1 0), (atP o1 1), (atP o1 2), (atP o1 3), (atP o1 4), (atP o1 5), (atP o1 6), (atP o1 7), (atP o1 8), (atP o1 9), (atP o1 10), (atP o1 11), (atP o1 12), (atP o1 13), (atP o1 14), (atP o1 15), (atP o1 16), (atP o2 0), (atP o2 1), (atP o2 2), (atP o2 3), (atP o2 4), (atP o2 5), (atP o2 6), (atP o2 7), (atP o2 8), (atP o2 9), (atP o2 10), (atP o2 11), (atP o2 12), (atP o2 13), (atP o2 14), (atP o2 15), (atP o2 16)] k) u0
 | _, _ => False
abbrev laws_toFork_e : Ent := ⟨[277], laws_toFork⟩
theorem laws_toFork_w : EntOK Tryz.prog TT laws_toFork_e := ent_ok tabok (L := [laws_toSigned_e]) ⟨laws_toSigned_w, trivial⟩ (keep := []) (l := []) Tryz.func277 (by kernel_rfl) (sg := [.agg [.sc, .sc, .sc, .sc, .sc, .sc, .sc, .sc, .own true 3 1, .sc, .own true 3 1, .sc, .sc, .own true 3 1, .sc, .sc, .own true 251 2, .sc, .sc, .sc, .sc, .sc, .sc, .sc, .sc, .own true 3 1, .sc, .own true 3 1, .sc, .sc, .own true 3 1, .sc, .sc, .own true 251 2, .sc, .sc, .sc, .sc, .sc, .sc, .sc, .sc, .own true 3 1, .sc, .own true 3 1, .sc, .sc, .own true 3 1, .sc, .sc, .own true 251 2]]) (by kernel_rfl) trivial fun av k h => by
  unfold laws_toFork at h; split at h
  · apply un_all h; clear h; intro a0 a1 a2 a3 a4 a5 a6 a7 a8 a9 a10 a11 a12 a13 a14 a15 a16 a17 a18 a19 a20 a21 a22 a23 a24 a25 a26 a27 a28 a29 a30 a31 a32 a33 a34 a35 a36 a37 a38 a39 a40 a41 a42 a43 a44 a45 a46 a47 a48 a49 a50 h; exact Eq.mpr (by kernel_rfl) h
  · exact h.elim

def laws_toForkS_r0 (v : List PV) (K : List PV → Prop) (x0k : PV → PV → PV → PV → Prop) : Prop :=
 un 4 (fun v0 v1 v2 v3 =>
  lenP v0 fun r0 =>
  binP .lss v1 r0 fun r1 =>
  iteP r1
   (elemP 51 v0 v1 fun c2 =>
   call laws_toFork [.agg [(atP c2 0), (atP c2 1), (atP c2 2), (atP c2 3), (atP c2 4), (atP c2 5), (atP c2 6), (atP c2 7), (atP c2 8), (atP c2 9), (atP c2 10), (atP c2 11), (atP c2 12), (atP c2 13), (atP c2 14), (atP c2 15), (atP c2 16), (atP c2 17), (atP c2 18), (atP c2 19), (atP c2 20), (atP c2 21), (atP c2 22), (atP c2 23), (atP c2 24), (atP c2 25), (atP c2 26), (atP c2 27), (atP c2 28), (atP c2 29), (atP c2 30), (atP c2 31), (atP c2 32), (atP c2 33), (atP c2 34), (atP c2 35), (atP c2 36), (atP c2 37), (atP c2 38), (atP c2 39), (atP c2 40), (atP c2 41), (atP c2 42), (atP c2 43), (atP c2 44), (atP c2 45), (atP c2 46), (atP c2 47), (atP c2 48), (atP c2 49), (atP c2 50)]] fun o3 =>
   boundP 51 v3 v1 fun n4 =>
   (flatCond [.pv (I 0), .pv (I 0), .pv (I 0), .pv (I 0), .pv (I 0), .pv (I 0), .pv (I 0), .pv (I 0), .nil 3 1, .pv (I 0), .nil 3 1, .pv (I 0), .pv (I 0), .nil 3 1, .pv (I 0), .pv (.bool false), .nil 251 2, .pv (I 0), .pv (I 0), .pv (I 0), .pv (I 0), .pv (I 0), .pv (I 0), .pv (I 0), .pv (I 0), .nil 3 1, .pv (I 0), .nil 3 1, .pv (I 0), .pv (I 0), .nil 3 1, .pv (I 0), .pv (.bool false), .nil 251 2, .pv (I 0), .pv (I 0), .pv (I 0), .pv (I 0), .pv (I 0), .pv (I 0), .pv (I 0), .pv (I 0), .nil 3 1, .pv (I 0), .nil 3 1, .pv (I 0), .pv (I 0), .nil 3 1, .pv (I 0), .pv (.bool false), .nil 251 2] [.pv (atP o3 0), .pv (atP o3 1), .pv (atP o3 2), .pv (atP o3 3), .pv (atP o3 4), .pv (atP o3 5), .pv (atP o3 6), .pv (atP o3 7), .own 10, .pv (atP o3 9), .own 12, .pv (atP o3 11), .pv (atP o3 12), .own 15, .pv (atP o3 14), .pv (atP o3 15), .own 18, .pv (atP o3 17), .pv (atP o3 18), .pv (atP o3 19), .pv (atP o3 20), .pv (atP o3 21), .pv (atP o3 22), .pv (atP o3 23), .pv (atP o3 24), .own 27, .pv (atP o3 26), .own 29, .pv (atP o3 28), .pv (atP o3 29), .own 32, .pv (atP o3 31), .pv (atP o3 32), .own 35, .pv (atP o3 34), .pv (atP o3 35), .pv (atP o3 36), .pv (atP o3 37), .pv (atP o3 38), .pv (atP o3 39), .pv (atP o3 40), .pv (atP o3 41), .own 44, .pv (atP o3 43), .own 46, .pv (atP o3 45), .pv (atP o3 46), .own 49, .pv (atP o3 48), .pv (atP o3 49), .own 52]) ∧ setP v3 n4 0 [(atP o3 0), (atP o3 1), (atP o3 2), (atP o3 3), (atP o3 4), (atP o3 5), (atP o3 6), (atP o3 7), (atP o3 8), (atP o3 9), (atP o3 10), (atP o3 11), (atP o3 12), (atP o3 13), (atP o3 14), (atP o3 15), (atP o3 16), (atP o3 17), (atP o3 18), (atP o3 19), (atP o3 20), (atP o3 21), (atP o3 22), (atP o3 23), (atP o3 24), (atP o3 25), (atP o3 26), (atP o3 27), (atP o3 28), (atP o3 29), (atP o3 30), (atP o3 31), (atP o3 32), (atP o3 33), (atP o3 34), (atP o3 35), (atP o3 36), (atP o3 37), (atP o3 38), (atP o3 39), (atP o3 40), (atP o3 41), (atP o3 42), (atP o3 43), (atP o3 44), (atP o3 45), (atP o3 46), (atP o3 47), (atP o3 48), (atP o3 49), (atP o3 50)] fun r5 =>
   binP .add v1 (I 1) fun r6 =>
   K [v0, r6, v2, r5])
   (x0k v0 v1 v2 v3)) v
def laws_toForkS : GM
 | [.one a0], k => 
  lenP a0 fun r0 =>
  (r0 = r0) ∧ (51 = 51) ∧ makeP 51 r0 [(I 0), (I 0), (I 0), (I 0), (I 0), (I 0), (I 0), (I 0), (.list 1 []), (I 0), (.list 1 []), (I 0), (I 0), (.list 1 []), (I 0), (.bool false), (.list 2 []), (I 0), (I 0), (I 0), (I 0), (I 0), (I 0), (I 0), (I 0), (.list 1 []), (I 0), (.list 1 []), (I 0), (I 0), (.list 1 []), (I 0), (.bool false), (.list 2 []), (I 0), (I 0), (I 0), (I 0), (I 0), (I 0), (I 0), (I 0), (.list 1 []), (I 0), (.list 1 []), (I 0), (I 0), (.list 1 []), (I 0), (.bool false), (.list 2 [])] fun r1 =>
  lp (fun L w => laws_toForkS_r0 w L
   (fun q7 q8 q9 q10 => rt [.own true 179 51] [q10] k)) [a0, (I 0), (.list 51 []), r1]
 | _, _ => False
abbrev laws_toForkS_e : Ent := ⟨[196], laws_toForkS⟩
def laws_toForkS_l : List LE := [⟨0, ⟨[(0, .one (.pv (.bool false))), (2, .one (.own 1)), (3, .one (.own 0)), (4, .one (.pv (.bool false)))], [], [(1, ⟨.deep, 179, 51, (.bool false)⟩), (0, ⟨.deep, 179, 51, (.bool false)⟩)], 2, 23⟩, fun K k v => laws_toForkS_r0 v K (fun x0 x1 x2 x3 => k (.exit 0) ⟨[(0, .one (.pv x0)), (2, .one (.own 1)), (3, .one (.own 0)), (4, .one (.pv x1))], [], [(1, ⟨.deep, 179, 51, x2⟩), (0, ⟨.deep, 179, 51, x3⟩)], 2, 23⟩)⟩]
theorem laws_toForkS_s : LEsOK (orac [laws_toFork_e]) TT (kk [0, 2, 3, 4]) (sumsOf laws_toForkS_l) Tryz.f196 laws_toForkS_l := ⟨fun v K k h => by
  apply un_all h; exact fun v0 v1 v2 v3 h => Eq.mpr (by kernel_rfl) h
  , trivial⟩
theorem laws_toForkS_w : EntOK Tryz.prog TT laws_toForkS_e := ent_ok tabok (L := [laws_toFork_e]) ⟨laws_toFork_w, trivial⟩ (keep := (kk [0, 2, 3, 4])) (l := laws_toForkS_l) Tryz.func196 (by kernel_rfl) (sg := [.one (.own true 179 51)]) (by kernel_rfl) laws_toForkS_s fun av k h => by
  unfold laws_toForkS at h; split at h
  · exact Eq.mpr (by kernel_rfl) h
  · exact h.elim

def laws_toKnown : GM
 | [.agg u0], k => un 2 (fun a0 a1 => 
  call laws_toSignedSS [.one a0] fun o0 =>
  call laws_toForkS [.one a1] fun o1 =>
  rt [.own true 43 1, .own true 179 51] [(atP o0 0), (atP o1 0)] k) u0
 | _, _ => False
abbrev laws_toKnown_e : Ent := ⟨[90], laws_toKnown⟩
theorem laws_toKnown_w : EntOK Tryz.prog TT laws_toKnown_e := ent_ok tabok (L := [laws_toSignedSS_e, laws_toForkS_e]) ⟨laws_toSignedSS_w, laws_toForkS_w, trivial⟩ (keep := []) (l := []) Tryz.func90 (by kernel_rfl) (sg := [.agg [.own true 43 1, .own true 179 51]]) (by kernel_rfl) trivial fun av k h => by
  unfold laws_toKnown at h; split at h
  · apply un_all h; clear h; intro a0 a1 h; exact Eq.mpr (by kernel_rfl) h
  · exact h.elim

def laws_toCache : GM
 | [.agg u0], k => un 1 (fun a0 => 
  call laws_toStoredS [.one a0] fun o0 =>
  rt [.own true 114 23] [(atP o0 0)] k) u0
 | _, _ => False
abbrev laws_toCache_e : Ent := ⟨[91], laws_toCache⟩
theorem laws_toCache_w : EntOK Tryz.prog TT laws_toCache_e := ent_ok tabok (L := [laws_toStoredS_e]) ⟨laws_toStoredS_w, trivial⟩ (keep := []) (l := []) Tryz.func91 (by kernel_rfl) (sg := [.agg [.own true 114 23]]) (by kernel_rfl) trivial fun av k h => by
  unfold laws_toCache at h; split at h
  · apply un_all h; clear h; intro a0 h; exact Eq.mpr (by kernel_rfl) h
  · exact h.elim

def laws_toWorld : GM
 | [.agg u0], k => un 8 (fun a0 a1 a2 a3 a4 a5 a6 a7 => 
  call laws_toActorS [.one a1] fun o0 =>
  call laws_toZoneS [.one a2] fun o1 =>
  call laws_toSaidS [.one a3] fun o2 =>
  call laws_toServerS [.one a4] fun o3 =>
  call laws_toKnown [.agg [a5, a6]] fun o4 =>
  call laws_toCache [.agg [a7]] fun o5 =>
  rt [.sc, .own true 223 1, .own true 46 2, .own true 48 3, .own true 174 2, .own true 43 1, .own true 179 51, .own true 114 23] [a0, (atP o0 0), (atP o1 0), (atP o2 0), (atP o3 0), (atP o4 0), (atP o4 1), (atP o5 0)] k) u0
 | _, _ => False
abbrev laws_toWorld_e : Ent := ⟨[28], laws_toWorld⟩
theorem laws_toWorld_w : EntOK Tryz.prog TT laws_toWorld_e := ent_ok tabok (L := [laws_toActorS_e, laws_toZoneS_e, laws_toSaidS_e, laws_toServerS_e, laws_toKnown_e, laws_toCache_e]) ⟨laws_toActorS_w, laws_toZoneS_w, laws_toSaidS_w, laws_toServerS_w, laws_toKnown_w, laws_toCache_w, trivial⟩ (keep := []) (l := []) Tryz.func28 (by kernel_rfl) (sg := [.agg [.sc, .own true 223 1, .own true 46 2, .own true 48 3, .own true 174 2, .own true 43 1, .own true 179 51, .own true 114 23]]) (by kernel_rfl) trivial fun av k h => by
  unfold laws_toWorld at h; split at h
  · apply un_all h; clear h; intro a0 a1 a2 a3 a4 a5 a6 a7 h; exact Eq.mpr (by kernel_rfl) h
  · exact h.elim

def laws_eqActor : GM
 | [.agg u0, .agg u1], k => un 1 (fun a0 => un 1 (fun a1 => 
  call laws_eqIntS [.one a0, .one a1] fun o0 =>
  unP .not (atP o0 0) fun r1 =>
  iteP r1
   (rt [.sc] [(.bool false)] k)
   (rt [.sc] [(.bool true)] k)) u1) u0
 | _, _ => False
abbrev laws_eqActor_e : Ent := ⟨[201], laws_eqActor⟩
theorem laws_eqActor_w : EntOK Tryz.prog TT laws_eqActor_e := ent_ok tabok (L := [laws_eqIntS_e]) ⟨laws_eqIntS_w, trivial⟩ (keep := []) (l := []) Tryz.func201 (by kernel_rfl) (sg := [.one (.sc)]) (by kernel_rfl) trivial fun av k h => by
  unfold laws_eqActor at h; split at h
  · apply un_all h; clear h; intro a0 h; apply un_all h; clear h; intro a1 h; exact Eq.mpr (by kernel_rfl) h
  · exact h.elim

def laws_eqActorS_r0 (v : List PV) (K : List PV → Prop) (x0k : Prop) (x1k : PV → PV → PV → PV → Prop) : Prop :=
 un 4 (fun v0 v1 v2 v3 =>
  lenP v0 fun r0 =>
  binP .lss v3 r0 fun r1 =>
  iteP r1
   (elemP 1 v0 v3 fun c2 =>
   elemP 1 v1 v3 fun c3 =>
   call laws_eqActor [.agg [(atP c2 0)], .agg [(atP c3 0)]] fun o4 =>
   unP .not (atP o4 0) fun r5 =>
   iteP r5
    (x0k)
    (binP .add v3 (I 1) fun r6 =>
    K [v0, v1, v2, r6]))
   (x1k v0 v1 v2 v3)) v
def laws_eqActorS : GM
 | [.one a0, .one a1], k => 
  lenP a0 fun r0 =>
  lenP a1 fun r1 =>
  binP .neq r0 r1 fun r2 =>
  iteP r2
   (rt [.sc] [(.bool false)] k)
   (lp (fun L w => laws_eqActorS_r0 w L
    (rt [.sc] [(.bool false)] k)
    (fun q7 q8 q9 q10 => rt [.sc] [(.bool true)] k)) [a0, a1, (.bool false), (I 0)])
 | _, _ => False
abbrev laws_eqActorS_e : Ent := ⟨[96], laws_eqActorS⟩
def laws_eqActorS_l : List LE := [⟨0, ⟨[(0, .one (.pv (.bool false))), (1, .one (.pv (.bool false))), (4, .one (.pv (.bool false))), (5, .one (.pv (.bool false)))], [], [], 0, 27⟩, fun K k v => laws_eqActorS_r0 v K (k .ret ⟨[(4, .one (.kb false))], [], [], 1, 27⟩) (fun x0 x1 x2 x3 => k (.exit 0) ⟨[(0, .one (.pv x0)), (1, .one (.pv x1)), (4, .one (.pv x2)), (5, .one (.pv x3))], [], [], 0, 27⟩)⟩]
theorem laws_eqActorS_s : LEsOK (orac [laws_eqActor_e]) TT (kk [0, 1, 4, 5]) (sumsOf laws_eqActorS_l) Tryz.f96 laws_eqActorS_l := ⟨fun v K k h => by
  apply un_all h; exact fun v0 v1 v2 v3 h => Eq.mpr (by kernel_rfl) h
  , trivial⟩
theorem laws_eqActorS_w : EntOK Tryz.prog TT laws_eqActorS_e := ent_ok tabok (L := [laws_eqActor_e]) ⟨laws_eqActor_w, trivial⟩ (keep := (kk [0, 1, 4, 5])) (l := laws_eqActorS_l) Tryz.func96 (by kernel_rfl) (sg := [.one (.sc)]) (by kernel_rfl) laws_eqActorS_s fun av k h => by
  unfold laws_eqActorS at h; split at h
  · exact Eq.mpr (by kernel_rfl) h
  · exact h.elim

def laws_eqZoneS_r0 (v : List PV) (K : List PV → Prop) (x0k : Prop) (x1k : PV → PV → PV → PV → Prop) : Prop :=
 un 4 (fun v0 v1 v2 v3 =>
  lenP v0 fun r0 =>
  binP .lss v3 r0 fun r1 =>
  iteP r1
   (elemP 2 v0 v3 fun c2 =>
   elemP 2 v1 v3 fun c3 =>
   call laws_eqZone [.agg [(atP c2 0), (atP c2 1)], .agg [(atP c3 0), (atP c3 1)]] fun o4 =>
   unP .not (atP o4 0) fun r5 =>
   iteP r5
    (x0k)
    (binP .add v3 (I 1) fun r6 =>
    K [v0, v1, v2, r6]))
   (x1k v0 v1 v2 v3)) v
def laws_eqZoneS : GM
 | [.one a0, .one a1], k => 
  lenP a0 fun r0 =>
  lenP a1 fun r1 =>
  binP .neq r0 r1 fun r2 =>
  iteP r2
   (rt [.sc] [(.bool false)] k)
   (lp (fun L w => laws_eqZoneS_r0 w L
    (rt [.sc] [(.bool false)] k)
    (fun q7 q8 q9 q10 => rt [.sc] [(.bool true)] k)) [a0, a1, (.bool false), (I 0)])
 | _, _ => False
abbrev laws_eqZoneS_e : Ent := ⟨[97], laws_eqZoneS⟩
def laws_eqZoneS_l : List LE := [⟨0, ⟨[(0, .one (.pv (.bool false))), (1, .one (.pv (.bool false))), (4, .one (.pv (.bool false))), (5, .one (.pv (.bool false)))], [], [], 0, 27⟩, fun K k v => laws_eqZoneS_r0 v K (k .ret ⟨[(4, .one (.kb false))], [], [], 1, 27⟩) (fun x0 x1 x2 x3 => k (.exit 0) ⟨[(0, .one (.pv x0)), (1, .one (.pv x1)), (4, .one (.pv x2)), (5, .one (.pv x3))], [], [], 0, 27⟩)⟩]
theorem laws_eqZoneS_s : LEsOK (orac [laws_eqZone_e]) TT (kk [0, 1, 4, 5]) (sumsOf laws_eqZoneS_l) Tryz.f97 laws_eqZoneS_l := ⟨fun v K k h => by
  apply un_all h; exact fun v0 v1 v2 v3 h => Eq.mpr (by kernel_rfl) h
  , trivial⟩
theorem laws_eqZoneS_w : EntOK Tryz.prog TT laws_eqZoneS_e := ent_ok tabok (L := [laws_eqZone_e]) ⟨laws_eqZone_w, trivial⟩ (keep := (kk [0, 1, 4, 5])) (l := laws_eqZoneS_l) Tryz.func97 (by kernel_rfl) (sg := [.one (.sc)]) (by kernel_rfl) laws_eqZoneS_s fun av k h => by
  unfold laws_eqZoneS at h; split at h
  · exact Eq.mpr (by kernel_rfl) h
  · exact h.elim

def laws_eqSaidS_r0 (v : List PV) (K : List PV → Prop) (x0k : Prop) (x1k : PV → PV → PV → PV → Prop) : Prop :=
 un 4 (fun v0 v1 v2 v3 =>
  lenP v0 fun r0 =>
  binP .lss v3 r0 fun r1 =>
  iteP r1
   (elemP 3 v0 v3 fun c2 =>
   elemP 3 v1 v3 fun c3 =>
   call laws_eqSaid [.agg [(atP c2 0), (atP c2 1), (atP c2 2)], .agg [(atP c3 0), (atP c3 1), (atP c3 2)]] fun o4 =>
   unP .not (atP o4 0) fun r5 =>
   iteP r5
    (x0k)
    (binP .add v3 (I 1) fun r6 =>
    K [v0, v1, v2, r6]))
   (x1k v0 v1 v2 v3)) v
def laws_eqSaidS : GM
 | [.one a0, .one a1], k => 
  lenP a0 fun r0 =>
  lenP a1 fun r1 =>
  binP .neq r0 r1 fun r2 =>
  iteP r2
   (rt [.sc] [(.bool false)] k)
   (lp (fun L w => laws_eqSaidS_r0 w L
    (rt [.sc] [(.bool false)] k)
    (fun q7 q8 q9 q10 => rt [.sc] [(.bool true)] k)) [a0, a1, (.bool false), (I 0)])
 | _, _ => False
abbrev laws_eqSaidS_e : Ent := ⟨[98], laws_eqSaidS⟩
def laws_eqSaidS_l : List LE := [⟨0, ⟨[(0, .one (.pv (.bool false))), (1, .one (.pv (.bool false))), (4, .one (.pv (.bool false))), (5, .one (.pv (.bool false)))], [], [], 0, 27⟩, fun K k v => laws_eqSaidS_r0 v K (k .ret ⟨[(4, .one (.kb false))], [], [], 1, 27⟩) (fun x0 x1 x2 x3 => k (.exit 0) ⟨[(0, .one (.pv x0)), (1, .one (.pv x1)), (4, .one (.pv x2)), (5, .one (.pv x3))], [], [], 0, 27⟩)⟩]
theorem laws_eqSaidS_s : LEsOK (orac [laws_eqSaid_e]) TT (kk [0, 1, 4, 5]) (sumsOf laws_eqSaidS_l) Tryz.f98 laws_eqSaidS_l := ⟨fun v K k h => by
  apply un_all h; exact fun v0 v1 v2 v3 h => Eq.mpr (by kernel_rfl) h
  , trivial⟩
theorem laws_eqSaidS_w : EntOK Tryz.prog TT laws_eqSaidS_e := ent_ok tabok (L := [laws_eqSaid_e]) ⟨laws_eqSaid_w, trivial⟩ (keep := (kk [0, 1, 4, 5])) (l := laws_eqSaidS_l) Tryz.func98 (by kernel_rfl) (sg := [.one (.sc)]) (by kernel_rfl) laws_eqSaidS_s fun av k h => by
  unfold laws_eqSaidS at h; split at h
  · exact Eq.mpr (by kernel_rfl) h
  · exact h.elim

def laws_eqServer : GM
 | [.agg u0, .agg u1], k => un 2 (fun a0 a1 => un 2 (fun a2 a3 => 
  call laws_eqZoneS [.one a0, .one a2] fun o0 =>
  unP .not (atP o0 0) fun r1 =>
  iteP r1
   (rt [.sc] [(.bool false)] k)
   (binP .neq a1 a3 fun r2 =>
   iteP r2
    (rt [.sc] [(.bool false)] k)
    (rt [.sc] [(.bool true)] k))) u1) u0
 | _, _ => False
abbrev laws_eqServer_e : Ent := ⟨[202], laws_eqServer⟩
theorem laws_eqServer_w : EntOK Tryz.prog TT laws_eqServer_e := ent_ok tabok (L := [laws_eqZoneS_e]) ⟨laws_eqZoneS_w, trivial⟩ (keep := []) (l := []) Tryz.func202 (by kernel_rfl) (sg := [.one (.sc)]) (by kernel_rfl) trivial fun av k h => by
  unfold laws_eqServer at h; split at h
  · apply un_all h; clear h; intro a0 a1 h; apply un_all h; clear h; intro a2 a3 h; exact Eq.mpr (by kernel_rfl) h
  · exact h.elim

def laws_eqServerS_r0 (v : List PV) (K : List PV → Prop) (x0k : Prop) (x1k : PV → PV → PV → PV → Prop) : Prop :=
 un 4 (fun v0 v1 v2 v3 =>
  lenP v0 fun r0 =>
  binP .lss v3 r0 fun r1 =>
  iteP r1
   (elemP 2 v0 v3 fun c2 =>
   elemP 2 v1 v3 fun c3 =>
   call laws_eqServer [.agg [(atP c2 0), (atP c2 1)], .agg [(atP c3 0), (atP c3 1)]] fun o4 =>
   unP .not (atP o4 0) fun r5 =>
   iteP r5
    (x0k)
    (binP .add v3 (I 1) fun r6 =>
    K [v0, v1, v2, r6]))
   (x1k v0 v1 v2 v3)) v
def laws_eqServerS : GM
 | [.one a0, .one a1], k => 
  lenP a0 fun r0 =>
  lenP a1 fun r1 =>
  binP .neq r0 r1 fun r2 =>
  iteP r2
   (rt [.sc] [(.bool false)] k)
   (lp (fun L w => laws_eqServerS_r0 w L
    (rt [.sc] [(.bool false)] k)
    (fun q7 q8 q9 q10 => rt [.sc] [(.bool true)] k)) [a0, a1, (.bool false), (I 0)])
 | _, _ => False
abbrev laws_eqServerS_e : Ent := ⟨[99], laws_eqServerS⟩
def laws_eqServerS_l : List LE := [⟨0, ⟨[(0, .one (.pv (.bool false))), (1, .one (.pv (.bool false))), (4, .one (.pv (.bool false))), (5, .one (.pv (.bool false)))], [], [], 0, 27⟩, fun K k v => laws_eqServerS_r0 v K (k .ret ⟨[(4, .one (.kb false))], [], [], 1, 27⟩) (fun x0 x1 x2 x3 => k (.exit 0) ⟨[(0, .one (.pv x0)), (1, .one (.pv x1)), (4, .one (.pv x2)), (5, .one (.pv x3))], [], [], 0, 27⟩)⟩]
theorem laws_eqServerS_s : LEsOK (orac [laws_eqServer_e]) TT (kk [0, 1, 4, 5]) (sumsOf laws_eqServerS_l) Tryz.f99 laws_eqServerS_l := ⟨fun v K k h => by
  apply un_all h; exact fun v0 v1 v2 v3 h => Eq.mpr (by kernel_rfl) h
  , trivial⟩
theorem laws_eqServerS_w : EntOK Tryz.prog TT laws_eqServerS_e := ent_ok tabok (L := [laws_eqServer_e]) ⟨laws_eqServer_w, trivial⟩ (keep := (kk [0, 1, 4, 5])) (l := laws_eqServerS_l) Tryz.func99 (by kernel_rfl) (sg := [.one (.sc)]) (by kernel_rfl) laws_eqServerS_s fun av k h => by
  unfold laws_eqServerS at h; split at h
  · exact Eq.mpr (by kernel_rfl) h
  · exact h.elim

def laws_eqSignedSS_r0 (v : List PV) (K : List PV → Prop) (x0k : Prop) (x1k : PV → PV → PV → PV → Prop) : Prop :=
 un 4 (fun v0 v1 v2 v3 =>
  lenP v0 fun r0 =>
  binP .lss v3 r0 fun r1 =>
  iteP r1
   (elemP 1 v0 v3 fun c2 =>
   elemP 1 v1 v3 fun c3 =>
   call laws_eqSignedS [.one (atP c2 0), .one (atP c3 0)] fun o4 =>
   unP .not (atP o4 0) fun r5 =>
   iteP r5
    (x0k)
    (binP .add v3 (I 1) fun r6 =>
    K [v0, v1, v2, r6]))
   (x1k v0 v1 v2 v3)) v
def laws_eqSignedSS : GM
 | [.one a0, .one a1], k => 
  lenP a0 fun r0 =>
  lenP a1 fun r1 =>
  binP .neq r0 r1 fun r2 =>
  iteP r2
   (rt [.sc] [(.bool false)] k)
   (lp (fun L w => laws_eqSignedSS_r0 w L
    (rt [.sc] [(.bool false)] k)
    (fun q7 q8 q9 q10 => rt [.sc] [(.bool true)] k)) [a0, a1, (.bool false), (I 0)])
 | _, _ => False
abbrev laws_eqSignedSS_e : Ent := ⟨[203], laws_eqSignedSS⟩
def laws_eqSignedSS_l : List LE := [⟨0, ⟨[(0, .one (.pv (.bool false))), (1, .one (.pv (.bool false))), (4, .one (.pv (.bool false))), (5, .one (.pv (.bool false)))], [], [], 0, 27⟩, fun K k v => laws_eqSignedSS_r0 v K (k .ret ⟨[(4, .one (.kb false))], [], [], 1, 27⟩) (fun x0 x1 x2 x3 => k (.exit 0) ⟨[(0, .one (.pv x0)), (1, .one (.pv x1)), (4, .one (.pv x2)), (5, .one (.pv x3))], [], [], 0, 27⟩)⟩]
theorem laws_eqSignedSS_s : LEsOK (orac [laws_eqSignedS_e]) TT (kk [0, 1, 4, 5]) (sumsOf laws_eqSignedSS_l) Tryz.f203 laws_eqSignedSS_l := ⟨fun v K k h => by
  apply un_all h; exact fun v0 v1 v2 v3 h => Eq.mpr (by kernel_rfl) h
  , trivial⟩
theorem laws_eqSignedSS_w : EntOK Tryz.prog TT laws_eqSignedSS_e := ent_ok tabok (L := [laws_eqSignedS_e]) ⟨laws_eqSignedS_w, trivial⟩ (keep := (kk [0, 1, 4, 5])) (l := laws_eqSignedSS_l) Tryz.func203 (by kernel_rfl) (sg := [.one (.sc)]) (by kernel_rfl) laws_eqSignedSS_s fun av k h => by
  unfold laws_eqSignedSS at h; split at h
  · exact Eq.mpr (by kernel_rfl) h
  · exact h.elim

def laws_eqFork : GM
 | [.agg u0, .agg u1], k => un 51 (fun a0 a1 a2 a3 a4 a5 a6 a7 a8 a9 a10 a11 a12 a13 a14 a15 a16 a17 a18 a19 a20 a21 a22 a23 a24 a25 a26 a27 a28 a29 a30 a31 a32 a33 a34 a35 a36 a37 a38 a39 a40 a41 a42 a43 a44 a45 a46 a47 a48 a49 a50 => un 51 (fun a51 a52 a53 a54 a55 a56 a57 a58 a59 a60 a61 a62 a63 a64 a65 a66 a67 a68 a69 a70 a71 a72 a73 a74 a75 a76 a77 a78 a79 a80 a81 a82 a83 a84 a85 a86 a87 a88 a89 a90 a91 a92 a93 a94 a95 a96 a97 a98 a99 a100 a101 => 
  call laws_eqSigned [.agg [a0, a1, a2, a3, a4, a5, a6, a7, a8, a9, a10, a11, a12, a13, a14, a15, a16], .agg [a51, a52, a53, a54, a55, a56, a57, a58, a59, a60, a61, a62, a63, a64, a65, a66, a67]] fun o0 =>
  unP .not (atP o0 0) fun r1 =>
  iteP r1
   (rt [.sc] [(.bool false)] k)
   (call laws_eqSigned [.agg [a17, a18, a19, a20, a21, a22, a23, a24, a25, a26, a27, a28, a29, a30, a31, a32, a33], .agg [a68, a69, a70, a71, a72, a73, a74, a75, a76, a77, a78, a79, a80, a81, a82, a83, a84]] fun o2 =>
   unP .not (atP o2 0) fun r3 =>
   iteP r3
    (rt [.sc] [(.bool false)] k)
    (call laws_eqSigned [.agg [a34, a35, a36, a37, a38, a39, a40, a41, a42, a43, a44, a45, a46, a47, a48, a49, a50], .agg [a85, a86, a87, a88, a89, a90, a91, a92, a93, a94, a95, a96, a97, a98, a99, a100, a101]] fun o4 =>
    unP .not (atP o4 0) fun r5 =>
    iteP r5
     (rt [.sc] [(.bool false)] k)
     (rt [.sc] [(.bool true)] k)))) u1) u0
 | _, _ => False
abbrev laws_eqFork_e : Ent := ⟨[281], laws_eqFork⟩
theorem laws_eqFork_w : EntOK Tryz.prog TT laws_eqFork_e := ent_ok tabok (L := [laws_eqSigned_e]) ⟨laws_eqSigned_w, trivial⟩ (keep := []) (l := []) Tryz.func281 (by kernel_rfl) (sg := [.one (.sc)]) (by kernel_rfl) trivial fun av k h => by
  unfold laws_eqFork at h; split at h
  · apply un_all h; clear h; intro a0 a1 a2 a3 a4 a5 a6 a7 a8 a9 a10 a11 a12 a13 a14 a15 a16 a17 a18 a19 a20 a21 a22 a23 a24 a25 a26 a27 a28 a29 a30 a31 a32 a33 a34 a35 a36 a37 a38 a39 a40 a41 a42 a43 a44 a45 a46 a47 a48 a49 a50 h; apply un_all h; clear h; intro a51 a52 a53 a54 a55 a56 a57 a58 a59 a60 a61 a62 a63 a64 a65 a66 a67 a68 a69 a70 a71 a72 a73 a74 a75 a76 a77 a78 a79 a80 a81 a82 a83 a84 a85 a86 a87 a88 a89 a90 a91 a92 a93 a94 a95 a96 a97 a98 a99 a100 a101 h; exact Eq.mpr (by kernel_rfl) h
  · exact h.elim

def laws_eqForkS_r0 (v : List PV) (K : List PV → Prop) (x0k : Prop) (x1k : PV → PV → PV → PV → Prop) : Prop :=
 un 4 (fun v0 v1 v2 v3 =>
  lenP v0 fun r0 =>
  binP .lss v3 r0 fun r1 =>
  iteP r1
   (elemP 51 v0 v3 fun c2 =>
   elemP 51 v1 v3 fun c3 =>
   call laws_eqFork [.agg [(atP c2 0), (atP c2 1), (atP c2 2), (atP c2 3), (atP c2 4), (atP c2 5), (atP c2 6), (atP c2 7), (atP c2 8), (atP c2 9), (atP c2 10), (atP c2 11), (atP c2 12), (atP c2 13), (atP c2 14), (atP c2 15), (atP c2 16), (atP c2 17), (atP c2 18), (atP c2 19), (atP c2 20), (atP c2 21), (atP c2 22), (atP c2 23), (atP c2 24), (atP c2 25), (atP c2 26), (atP c2 27), (atP c2 28), (atP c2 29), (atP c2 30), (atP c2 31), (atP c2 32), (atP c2 33), (atP c2 34), (atP c2 35), (atP c2 36), (atP c2 37), (atP c2 38), (atP c2 39), (atP c2 40), (atP c2 41), (atP c2 42), (atP c2 43), (atP c2 44), (atP c2 45), (atP c2 46), (atP c2 47), (atP c2 48), (atP c2 49), (atP c2 50)], .agg [(atP c3 0), (atP c3 1), (atP c3 2), (atP c3 3), (atP c3 4), (atP c3 5), (atP c3 6), (atP c3 7), (atP c3 8), (atP c3 9), (atP c3 10), (atP c3 11), (atP c3 12), (atP c3 13), (atP c3 14), (atP c3 15), (atP c3 16), (atP c3 17), (atP c3 18), (atP c3 19), (atP c3 20), (atP c3 21), (atP c3 22), (atP c3 23), (atP c3 24), (atP c3 25), (atP c3 26), (atP c3 27), (atP c3 28), (atP c3 29), (atP c3 30), (atP c3 31), (atP c3 32), (atP c3 33), (atP c3 34), (atP c3 35), (atP c3 36), (atP c3 37), (atP c3 38), (atP c3 39), (atP c3 40), (atP c3 41), (atP c3 42), (atP c3 43), (atP c3 44), (atP c3 45), (atP c3 46), (atP c3 47), (atP c3 48), (atP c3 49), (atP c3 50)]] fun o4 =>
   unP .not (atP o4 0) fun r5 =>
   iteP r5
    (x0k)
    (binP .add v3 (I 1) fun r6 =>
    K [v0, v1, v2, r6]))
   (x1k v0 v1 v2 v3)) v
def laws_eqForkS : GM
 | [.one a0, .one a1], k => 
  lenP a0 fun r0 =>
  lenP a1 fun r1 =>
  binP .neq r0 r1 fun r2 =>
  iteP r2
   (rt [.sc] [(.bool false)] k)
   (lp (fun L w => laws_eqForkS_r0 w L
    (rt [.sc] [(.bool false)] k)
    (fun q7 q8 q9 q10 => rt [.sc] [(.bool true)] k)) [a0, a1, (.bool false), (I 0)])
 | _, _ => False
abbrev laws_eqForkS_e : Ent := ⟨[204], laws_eqForkS⟩
def laws_eqForkS_l : List LE := [⟨0, ⟨[(0, .one (.pv (.bool false))), (1, .one (.pv (.bool false))), (4, .one (.pv (.bool false))), (5, .one (.pv (.bool false)))], [], [], 0, 27⟩, fun K k v => laws_eqForkS_r0 v K (k .ret ⟨[(4, .one (.kb false))], [], [], 1, 27⟩) (fun x0 x1 x2 x3 => k (.exit 0) ⟨[(0, .one (.pv x0)), (1, .one (.pv x1)), (4, .one (.pv x2)), (5, .one (.pv x3))], [], [], 0, 27⟩)⟩]
theorem laws_eqForkS_s : LEsOK (orac [laws_eqFork_e]) TT (kk [0, 1, 4, 5]) (sumsOf laws_eqForkS_l) Tryz.f204 laws_eqForkS_l := ⟨fun v K k h => by
  apply un_all h; exact fun v0 v1 v2 v3 h => Eq.mpr (by kernel_rfl) h
  , trivial⟩
theorem laws_eqForkS_w : EntOK Tryz.prog TT laws_eqForkS_e := ent_ok tabok (L := [laws_eqFork_e]) ⟨laws_eqFork_w, trivial⟩ (keep := (kk [0, 1, 4, 5])) (l := laws_eqForkS_l) Tryz.func204 (by kernel_rfl) (sg := [.one (.sc)]) (by kernel_rfl) laws_eqForkS_s fun av k h => by
  unfold laws_eqForkS at h; split at h
  · exact Eq.mpr (by kernel_rfl) h
  · exact h.elim

def laws_eqKnown : GM
 | [.agg u0, .agg u1], k => un 2 (fun a0 a1 => un 2 (fun a2 a3 => 
  call laws_eqSignedSS [.one a0, .one a2] fun o0 =>
  unP .not (atP o0 0) fun r1 =>
  iteP r1
   (rt [.sc] [(.bool false)] k)
   (call laws_eqForkS [.one a1, .one a3] fun o2 =>
   unP .not (atP o2 0) fun r3 =>
   iteP r3
    (rt [.sc] [(.bool false)] k)
    (rt [.sc] [(.bool true)] k))) u1) u0
 | _, _ => False
abbrev laws_eqKnown_e : Ent := ⟨[100], laws_eqKnown⟩
theorem laws_eqKnown_w : EntOK Tryz.prog TT laws_eqKnown_e := ent_ok tabok (L := [laws_eqSignedSS_e, laws_eqForkS_e]) ⟨laws_eqSignedSS_w, laws_eqForkS_w, trivial⟩ (keep := []) (l := []) Tryz.func100 (by kernel_rfl) (sg := [.one (.sc)]) (by kernel_rfl) trivial fun av k h => by
  unfold laws_eqKnown at h; split at h
  · apply un_all h; clear h; intro a0 a1 h; apply un_all h; clear h; intro a2 a3 h; exact Eq.mpr (by kernel_rfl) h
  · exact h.elim

def laws_eqCache : GM
 | [.agg u0, .agg u1], k => un 1 (fun a0 => un 1 (fun a1 => 
  call laws_eqStoredS [.one a0, .one a1] fun o0 =>
  unP .not (atP o0 0) fun r1 =>
  iteP r1
   (rt [.sc] [(.bool false)] k)
   (rt [.sc] [(.bool true)] k)) u1) u0
 | _, _ => False
abbrev laws_eqCache_e : Ent := ⟨[101], laws_eqCache⟩
theorem laws_eqCache_w : EntOK Tryz.prog TT laws_eqCache_e := ent_ok tabok (L := [laws_eqStoredS_e]) ⟨laws_eqStoredS_w, trivial⟩ (keep := []) (l := []) Tryz.func101 (by kernel_rfl) (sg := [.one (.sc)]) (by kernel_rfl) trivial fun av k h => by
  unfold laws_eqCache at h; split at h
  · apply un_all h; clear h; intro a0 h; apply un_all h; clear h; intro a1 h; exact Eq.mpr (by kernel_rfl) h
  · exact h.elim

def laws_eqWorld : GM
 | [.agg u0, .agg u1], k => un 8 (fun a0 a1 a2 a3 a4 a5 a6 a7 => un 8 (fun a8 a9 a10 a11 a12 a13 a14 a15 => 
  binP .neq a0 a8 fun r0 =>
  iteP r0
   (rt [.sc] [(.bool false)] k)
   (call laws_eqActorS [.one a1, .one a9] fun o1 =>
   unP .not (atP o1 0) fun r2 =>
   iteP r2
    (rt [.sc] [(.bool false)] k)
    (call laws_eqZoneS [.one a2, .one a10] fun o3 =>
    unP .not (atP o3 0) fun r4 =>
    iteP r4
     (rt [.sc] [(.bool false)] k)
     (call laws_eqSaidS [.one a3, .one a11] fun o5 =>
     unP .not (atP o5 0) fun r6 =>
     iteP r6
      (rt [.sc] [(.bool false)] k)
      (call laws_eqServerS [.one a4, .one a12] fun o7 =>
      unP .not (atP o7 0) fun r8 =>
      iteP r8
       (rt [.sc] [(.bool false)] k)
       (call laws_eqKnown [.agg [a5, a6], .agg [a13, a14]] fun o9 =>
       unP .not (atP o9 0) fun r10 =>
       iteP r10
        (rt [.sc] [(.bool false)] k)
        (call laws_eqCache [.agg [a7], .agg [a15]] fun o11 =>
        unP .not (atP o11 0) fun r12 =>
        iteP r12
         (rt [.sc] [(.bool false)] k)
         (rt [.sc] [(.bool true)] k)))))))) u1) u0
 | _, _ => False
abbrev laws_eqWorld_e : Ent := ⟨[31], laws_eqWorld⟩
theorem laws_eqWorld_w : EntOK Tryz.prog TT laws_eqWorld_e := ent_ok tabok (L := [laws_eqActorS_e, laws_eqZoneS_e, laws_eqSaidS_e, laws_eqServerS_e, laws_eqKnown_e, laws_eqCache_e]) ⟨laws_eqActorS_w, laws_eqZoneS_w, laws_eqSaidS_w, laws_eqServerS_w, laws_eqKnown_w, laws_eqCache_w, trivial⟩ (keep := []) (l := []) Tryz.func31 (by kernel_rfl) (sg := [.one (.sc)]) (by kernel_rfl) trivial fun av k h => by
  unfold laws_eqWorld at h; split at h
  · apply un_all h; clear h; intro a0 a1 a2 a3 a4 a5 a6 a7 h; apply un_all h; clear h; intro a8 a9 a10 a11 a12 a13 a14 a15 h; exact Eq.mpr (by kernel_rfl) h
  · exact h.elim

def spec_ZoneId : GM
 | [.agg u0], k => un 2 (fun a0 a1 => 
  call spec_LastHead [.one a0] fun o0 =>
  call spec_IsZone [.agg [a0, a1]] fun o1 =>
  unP .not (atP o1 0) fun r2 =>
  iteP r2
   (rt [.sc] [(I (-1))] k)
   (rt [.sc] [(atP o0 0)] k)) u0
 | _, _ => False
abbrev spec_ZoneId_e : Ent := ⟨[229], spec_ZoneId⟩
theorem spec_ZoneId_w : EntOK Tryz.prog TT spec_ZoneId_e := ent_ok tabok (L := [spec_LastHead_e, spec_IsZone_e]) ⟨spec_LastHead_w, spec_IsZone_w, trivial⟩ (keep := []) (l := []) Tryz.func229 (by kernel_rfl) (sg := [.one (.sc)]) (by kernel_rfl) trivial fun av k h => by
  unfold spec_ZoneId at h; split at h
  · apply un_all h; clear h; intro a0 a1 h; exact Eq.mpr (by kernel_rfl) h
  · exact h.elim

def spec_IsFresh : GM
 | [.agg u0, .one a16], k => un 16 (fun a0 a1 a2 a3 a4 a5 a6 a7 a8 a9 a10 a11 a12 a13 a14 a15 => 
  call spec_l1In [.one a16, .one a3, .one a4] fun o0 =>
  rt [.sc] [(atP o0 0)] k) u0
 | _, _ => False
abbrev spec_IsFresh_e : Ent := ⟨[230], spec_IsFresh⟩
theorem spec_IsFresh_w : EntOK Tryz.prog TT spec_IsFresh_e := ent_ok tabok (L := [spec_l1In_e]) ⟨spec_l1In_w, trivial⟩ (keep := []) (l := []) Tryz.func230 (by kernel_rfl) (sg := [.one (.sc)]) (by kernel_rfl) trivial fun av k h => by
  unfold spec_IsFresh at h; split at h
  · apply un_all h; clear h; intro a0 a1 a2 a3 a4 a5 a6 a7 a8 a9 a10 a11 a12 a13 a14 a15 h; exact Eq.mpr (by kernel_rfl) h
  · exact h.elim

def spec_l38Live : GM
 | [.agg u0, .one a2, .one a3], k => un 2 (fun a0 a1 => 
  call spec_LastHead [.one a0] fun o0 =>
  iteP (atP o0 16)
   (call spec_ZoneId [.agg [a0, a1]] fun o1 =>
   binP .eql (atP o1 0) a2 fun r2 =>
   iteP r2
    (call spec_IsFresh [.agg [(atP o0 0), (atP o0 1), (atP o0 2), (atP o0 3), (atP o0 4), (atP o0 5), (atP o0 6), (atP o0 7), (atP o0 8), (atP o0 9), (atP o0 10), (atP o0 11), (atP o0 12), (atP o0 13), (atP o0 14), (atP o0 15)], .one a3] fun o3 =>
    iteP (atP o3 0)
     (unP .not (atP o0 15) fun r4 =>
     rt [.sc] [r4] k)
     (rt [.sc] [(.bool false)] k))
    (rt [.sc] [(.bool false)] k))
   (rt [.sc] [(.bool false)] k)) u0
 | _, _ => False
abbrev spec_l38Live_e : Ent := ⟨[142], spec_l38Live⟩
theorem spec_l38Live_w : EntOK Tryz.prog TT spec_l38Live_e := ent_ok tabok (L := [spec_LastHead_e, spec_ZoneId_e, spec_IsFresh_e]) ⟨spec_LastHead_w, spec_ZoneId_w, spec_IsFresh_w, trivial⟩ (keep := []) (l := []) Tryz.func142 (by kernel_rfl) (sg := [.one (.sc)]) (by kernel_rfl) trivial fun av k h => by
  unfold spec_l38Live at h; split at h
  · apply un_all h; clear h; intro a0 a1 h; exact Eq.mpr (by kernel_rfl) h
  · exact h.elim

def spec_FindEntry_r0 (v : List PV) (K : List PV → Prop) (x0k : PV → Prop) (x1k : PV → PV → PV → PV → Prop) : Prop :=
 un 4 (fun v0 v1 v2 v3 =>
  lenP v0 fun r0 =>
  binP .lss v3 r0 fun r1 =>
  iteP r1
   (elemP 4 v0 v3 fun c2 =>
   binP .eql (atP c2 0) v1 fun r3 =>
   iteP r3
    (x0k v3)
    (binP .add v3 (I 1) fun r4 =>
    K [v0, v1, v2, r4]))
   (x1k v0 v1 v2 v3)) v
def spec_FindEntry : GM
 | [.one a0, .one a1], k => 
  lp (fun L w => spec_FindEntry_r0 w L
   (fun q5 => rt [.sc] [q5] k)
   (fun q6 q7 q8 q9 => rt [.sc] [(I (-1))] k)) [a0, a1, (I 0), (I 0)]
 | _, _ => False
abbrev spec_FindEntry_e : Ent := ⟨[143], spec_FindEntry⟩
def spec_FindEntry_l : List LE := [⟨0, ⟨[(0, .one (.pv (.bool false))), (1, .one (.pv (.bool false))), (4, .one (.pv (.bool false))), (5, .one (.pv (.bool false)))], [], [], 0, 20⟩, fun K k v => spec_FindEntry_r0 v K (fun x0 => k .ret ⟨[(4, .one (.pv x0))], [], [], 0, 20⟩) (fun x0 x1 x2 x3 => k (.exit 0) ⟨[(0, .one (.pv x0)), (1, .one (.pv x1)), (4, .one (.pv x2)), (5, .one (.pv x3))], [], [], 0, 20⟩)⟩]
theorem spec_FindEntry_s : LEsOK (orac []) TT (kk [0, 1, 4, 5]) (sumsOf spec_FindEntry_l) Tryz.f143 spec_FindEntry_l := ⟨fun v K k h => by
  apply un_all h; exact fun v0 v1 v2 v3 h => Eq.mpr (by kernel_rfl) h
  , trivial⟩
theorem spec_FindEntry_w : EntOK Tryz.prog TT spec_FindEntry_e := ent_ok tabok (L := []) trivial (keep := (kk [0, 1, 4, 5])) (l := spec_FindEntry_l) Tryz.func143 (by kernel_rfl) (sg := [.one (.sc)]) (by kernel_rfl) spec_FindEntry_s fun av k h => by
  unfold spec_FindEntry at h; split at h
  · exact Eq.mpr (by kernel_rfl) h
  · exact h.elim

def spec_IsDenied_r0 (v : List PV) (K : List PV → Prop) (x0k : PV → PV → PV → PV → PV → PV → PV → PV → PV → PV → Prop) (x1k : PV → PV → PV → PV → PV → PV → PV → PV → PV → PV → PV → PV → PV → Prop) : Prop :=
 un 13 (fun v0 v1 v2 v3 v4 v5 v6 v7 v8 v9 v10 v11 v12 =>
  lenP v8 fun r0 =>
  binP .lss v4 r0 fun r1 =>
  iteP r1
   (elemP 3 v8 v4 fun c2 =>
   call spec_l38Live [.agg [(atP c2 0), (atP c2 1)], .one v0, .one v2] fun o3 =>
   iteP (atP o3 0)
    (call spec_FindEntry [.one (atP c2 1), .one v1] fun o4 =>
    binP .lss (atP o4 0) (I 0) fun r5 =>
    iteP r5
     (x0k (atP c2 0) (atP c2 1) v5 v6 v7 v8 v9 v10 v11 v12)
     (binP .add v4 (I 1) fun r6 =>
     K [v0, v1, v2, v3, r6, v5, v6, v7, v8, v9, v10, v11, v12]))
    (binP .add v4 (I 1) fun r7 =>
    K [v0, v1, v2, v3, r7, v5, v6, v7, v8, v9, v10, v11, v12]))
   (x1k v0 v1 v2 v3 v4 v5 v6 v7 v8 v9 v10 v11 v12)) v
def spec_IsDenied : GM
 | [.agg u0, .one a8, .one a9, .one a10], k => un 8 (fun a0 a1 a2 a3 a4 a5 a6 a7 => 
  lp (fun L w => spec_IsDenied_r0 w L
   (fun q8 q9 q10 q11 q12 q13 q14 q15 q16 q17 => rt [.sc] [(.bool true)] k)
   (fun q18 q19 q20 q21 q22 q23 q24 q25 q26 q27 q28 q29 q30 => rt [.sc] [(.bool false)] k)) [a8, a9, a10, (.bool false), (I 0), a0, a1, a2, a3, a4, a5, a6, a7]) u0
 | _, _ => False
abbrev spec_IsDenied_e : Ent := ⟨[48], spec_IsDenied⟩
def spec_IsDenied_l : List LE := [⟨0, ⟨[(1, .one (.pv (.bool false))), (2, .one (.pv (.bool false))), (3, .one (.pv (.bool false))), (4, .one (.ptr 0 0)), (8, .one (.pv (.bool false))), (9, .one (.pv (.bool false)))], [(0, [.pv (.bool false), .pv (.bool false), .pv (.bool false), .pv (.bool false), .pv (.bool false), .pv (.bool false), .pv (.bool false), .pv (.bool false)])], [], 1, 35⟩, fun K k v => spec_IsDenied_r0 v K (fun x0 x1 x2 x3 x4 x5 x6 x7 x8 x9 => k .ret ⟨[(8, .one (.kb true))], [(1, [.pv x0, .pv x1]), (1, [.nil 155 17, .nil 101 4]), (0, [.pv x2, .pv x3, .pv x4, .pv x5, .pv x6, .pv x7, .pv x8, .pv x9])], [], 4, 35⟩) (fun x0 x1 x2 x3 x4 x5 x6 x7 x8 x9 x10 x11 x12 => k (.exit 0) ⟨[(1, .one (.pv x0)), (2, .one (.pv x1)), (3, .one (.pv x2)), (4, .one (.ptr 0 0)), (8, .one (.pv x3)), (9, .one (.pv x4))], [(0, [.pv x5, .pv x6, .pv x7, .pv x8, .pv x9, .pv x10, .pv x11, .pv x12])], [], 1, 35⟩)⟩]
theorem spec_IsDenied_s : LEsOK (orac [spec_l38Live_e, spec_FindEntry_e]) TT (kk [1, 2, 3, 4, 8, 9, 29, 30, 31, 32, 33]) (sumsOf spec_IsDenied_l) Tryz.f48 spec_IsDenied_l := ⟨fun v K k h => by
  apply un_all h; exact fun v0 v1 v2 v3 v4 v5 v6 v7 v8 v9 v10 v11 v12 h => Eq.mpr (by kernel_rfl) h
  , trivial⟩
theorem spec_IsDenied_w : EntOK Tryz.prog TT spec_IsDenied_e := ent_ok tabok (L := [spec_l38Live_e, spec_FindEntry_e]) ⟨spec_l38Live_w, spec_FindEntry_w, trivial⟩ (keep := (kk [1, 2, 3, 4, 8, 9, 29, 30, 31, 32, 33])) (l := spec_IsDenied_l) Tryz.func48 (by kernel_rfl) (sg := [.one (.sc)]) (by kernel_rfl) spec_IsDenied_s fun av k h => by
  unfold spec_IsDenied at h; split at h
  · apply un_all h; clear h; intro a0 a1 a2 a3 a4 a5 a6 a7 h; exact Eq.mpr (by kernel_rfl) h
  · exact h.elim

def impl_ZoneId : GM
 | [.agg u0], k => un 2 (fun a0 a1 => 
  call impl_IsZone [.agg [a0, a1]] fun o0 =>
  unP .not (atP o0 0) fun r1 =>
  iteP r1
   (rt [.sc] [(I (-1))] k)
   (call impl_last [.one a0] fun o2 =>
   rt [.sc] [(atP o2 0)] k)) u0
 | _, _ => False
abbrev impl_ZoneId_e : Ent := ⟨[231], impl_ZoneId⟩
theorem impl_ZoneId_w : EntOK Tryz.prog TT impl_ZoneId_e := ent_ok tabok (L := [impl_IsZone_e, impl_last_e]) ⟨impl_IsZone_w, impl_last_w, trivial⟩ (keep := []) (l := []) Tryz.func231 (by kernel_rfl) (sg := [.one (.sc)]) (by kernel_rfl) trivial fun av k h => by
  unfold impl_ZoneId at h; split at h
  · apply un_all h; clear h; intro a0 a1 h; exact Eq.mpr (by kernel_rfl) h
  · exact h.elim

def impl_IsFresh : GM
 | [.agg u0, .one a16], k => un 16 (fun a0 a1 a2 a3 a4 a5 a6 a7 a8 a9 a10 a11 a12 a13 a14 a15 => 
  call impl_InRange [.one a16, .one a3, .one a4] fun o0 =>
  rt [.sc] [(atP o0 0)] k) u0
 | _, _ => False
abbrev impl_IsFresh_e : Ent := ⟨[232], impl_IsFresh⟩
theorem impl_IsFresh_w : EntOK Tryz.prog TT impl_IsFresh_e := ent_ok tabok (L := [impl_InRange_e]) ⟨impl_InRange_w, trivial⟩ (keep := []) (l := []) Tryz.func232 (by kernel_rfl) (sg := [.one (.sc)]) (by kernel_rfl) trivial fun av k h => by
  unfold impl_IsFresh at h; split at h
  · apply un_all h; clear h; intro a0 a1 a2 a3 a4 a5 a6 a7 a8 a9 a10 a11 a12 a13 a14 a15 h; exact Eq.mpr (by kernel_rfl) h
  · exact h.elim

def impl_Zone_holds : GM
 | [.agg u0, .one a2, .one a3], k => un 2 (fun a0 a1 => 
  binP .lss a2 (I 0) fun r0 =>
  iteP r0
   (rt [.sc] [(.bool false)] k)
   (call impl_ZoneId [.agg [a0, a1]] fun o1 =>
   binP .neq (atP o1 0) a2 fun r2 =>
   iteP r2
    (rt [.sc] [(.bool false)] k)
    (call impl_last [.one a0] fun o3 =>
    call impl_IsFresh [.agg [(atP o3 0), (atP o3 1), (atP o3 2), (atP o3 3), (atP o3 4), (atP o3 5), (atP o3 6), (atP o3 7), (atP o3 8), (atP o3 9), (atP o3 10), (atP o3 11), (atP o3 12), (atP o3 13), (atP o3 14), (atP o3 15)], .one a3] fun o4 =>
    iteP (atP o4 0)
     (unP .not (atP o3 15) fun r5 =>
     rt [.sc] [r5] k)
     (rt [.sc] [(.bool false)] k)))) u0
 | _, _ => False
abbrev impl_Zone_holds_e : Ent := ⟨[145], impl_Zone_holds⟩
theorem impl_Zone_holds_w : EntOK Tryz.prog TT impl_Zone_holds_e := ent_ok tabok (L := [impl_ZoneId_e, impl_last_e, impl_IsFresh_e]) ⟨impl_ZoneId_w, impl_last_w, impl_IsFresh_w, trivial⟩ (keep := []) (l := []) Tryz.func145 (by kernel_rfl) (sg := [.one (.sc)]) (by kernel_rfl) trivial fun av k h => by
  unfold impl_Zone_holds at h; split at h
  · apply un_all h; clear h; intro a0 a1 h; exact Eq.mpr (by kernel_rfl) h
  · exact h.elim

def impl_FindEntry_1 : GM
 | [.agg u0, .ro (.cells u1)], k => un 4 (fun a0 a1 a2 a3 => un 1 (fun a4 => 
  binP .eql a0 a4 fun r0 =>
  rt [.sc] [r0] k) u1) u0
 | _, _ => False
abbrev impl_FindEntry_1_e : Ent := ⟨[234], impl_FindEntry_1⟩
theorem impl_FindEntry_1_w : EntOK Tryz.prog TT impl_FindEntry_1_e := ent_ok tabok (L := []) trivial (keep := []) (l := []) Tryz.func234 (by kernel_rfl) (sg := [.one (.sc)]) (by kernel_rfl) trivial fun av k h => by
  unfold impl_FindEntry_1 at h; split at h
  · apply un_all h; clear h; intro a0 a1 a2 a3 h; apply un_all h; clear h; intro a4 h; exact Eq.mpr (by kernel_rfl) h
  · exact h.elim

def slices_IndexFunc_Entry_F_impl_FindEntry_1_r0 (v : List PV) (K : List PV → Prop) (x0k : PV → Prop) (x1k : PV → PV → PV → PV → PV → Prop) : Prop :=
 un 5 (fun v0 v1 v2 v3 v4 =>
  binP .lss v4 v3 fun r0 =>
  iteP r0
   (elemP 4 v0 v4 fun c1 =>
   call impl_FindEntry_1 [.agg [(atP c1 0), (atP c1 1), (atP c1 2), (atP c1 3)], .ro (.cells [v1])] fun o2 =>
   iteP (atP o2 0)
    (x0k v4)
    (binP .add v4 (I 1) fun r3 =>
    K [v0, v1, v2, v3, r3]))
   (x1k v0 v1 v2 v3 v4)) v
def slices_IndexFunc_Entry_F_impl_FindEntry_1 : GM
 | [.one a0, .fn 234 [.cells u0]], k => un 1 (fun a1 => 
  lenP a0 fun r0 =>
  lp (fun L w => slices_IndexFunc_Entry_F_impl_FindEntry_1_r0 w L
   (fun q4 => rt [.sc] [q4] k)
   (fun q5 q6 q7 q8 q9 => rt [.sc] [(I (-1))] k)) [a0, a1, (I 0), r0, (I 0)]) u0
 | _, _ => False
abbrev slices_IndexFunc_Entry_F_impl_FindEntry_1_e : Ent := ⟨[233, 234], slices_IndexFunc_Entry_F_impl_FindEntry_1⟩
def slices_IndexFunc_Entry_F_impl_FindEntry_1_l : List LE := [⟨0, ⟨[(0, .one (.pv (.bool false))), (1, .one (.fn 234 [.ro (.cells [(.bool false)])])), (4, .one (.pv (.bool false))), (7, .one (.pv (.bool false))), (8, .one (.pv (.bool false)))], [], [], 0, 19⟩, fun K k v => slices_IndexFunc_Entry_F_impl_FindEntry_1_r0 v K (fun x0 => k .ret ⟨[(4, .one (.pv x0))], [], [], 1, 19⟩) (fun x0 x1 x2 x3 x4 => k (.exit 0) ⟨[(0, .one (.pv x0)), (1, .one (.fn 234 [.ro (.cells [x1])])), (4, .one (.pv x2)), (7, .one (.pv x3)), (8, .one (.pv x4))], [], [], 0, 19⟩)⟩]
theorem slices_IndexFunc_Entry_F_impl_FindEntry_1_s : LEsOK (orac [impl_FindEntry_1_e]) TT (kk [0, 1, 4, 7, 8]) (sumsOf slices_IndexFunc_Entry_F_impl_FindEntry_1_l) Tryz.f233 slices_IndexFunc_Entry_F_impl_FindEntry_1_l := ⟨fun v K k h => by
  apply un_all h; exact fun v0 v1 v2 v3 v4 h => Eq.mpr (by kernel_rfl) h
  , trivial⟩
theorem slices_IndexFunc_Entry_F_impl_FindEntry_1_w : EntOK Tryz.prog TT slices_IndexFunc_Entry_F_impl_FindEntry_1_e := ent_ok tabok (L := [impl_FindEntry_1_e]) ⟨impl_FindEntry_1_w, trivial⟩ (keep := (kk [0, 1, 4, 7, 8])) (l := slices_IndexFunc_Entry_F_impl_FindEntry_1_l) Tryz.func233 (by kernel_rfl) (sg := [.one (.sc)]) (by kernel_rfl) slices_IndexFunc_Entry_F_impl_FindEntry_1_s fun av k h => by
  unfold slices_IndexFunc_Entry_F_impl_FindEntry_1 at h; split at h
  · apply un_all h; clear h; intro a1 h; exact Eq.mpr (by kernel_rfl) h
  · exact h.elim

def impl_FindEntry : GM
 | [.one a0, .one a1], k => 
  call slices_IndexFunc_Entry_F_impl_FindEntry_1 [.one a0, .fn 234 [.cells [a1]]] fun o0 =>
  rt [.sc] [(atP o0 0)] k
 | _, _ => False
abbrev impl_FindEntry_e : Ent := ⟨[146], impl_FindEntry⟩
theorem impl_FindEntry_w : EntOK Tryz.prog TT impl_FindEntry_e := ent_ok tabok (L := [slices_IndexFunc_Entry_F_impl_FindEntry_1_e]) ⟨slices_IndexFunc_Entry_F_impl_FindEntry_1_w, trivial⟩ (keep := []) (l := []) Tryz.func146 (by kernel_rfl) (sg := [.one (.sc)]) (by kernel_rfl) trivial fun av k h => by
  unfold impl_FindEntry at h; split at h
  · exact Eq.mpr (by kernel_rfl) h
  · exact h.elim

def impl_IsDenied_1 : GM
 | [.agg u0, .ro (.cells u1), .ro (.cells u2), .ro (.cells u3)], k => un 2 (fun a0 a1 => un 1 (fun a2 => un 1 (fun a3 => un 1 (fun a4 => 
  call impl_Zone_holds [.agg [a0, a1], .one a2, .one a3] fun o0 =>
  iteP (atP o0 0)
   (call impl_FindEntry [.one a1, .one a4] fun o1 =>
   binP .lss (atP o1 0) (I 0) fun r2 =>
   rt [.sc] [r2] k)
   (rt [.sc] [(.bool false)] k)) u3) u2) u1) u0
 | _, _ => False
abbrev impl_IsDenied_1_e : Ent := ⟨[144], impl_IsDenied_1⟩
theorem impl_IsDenied_1_w : EntOK Tryz.prog TT impl_IsDenied_1_e := ent_ok tabok (L := [impl_Zone_holds_e, impl_FindEntry_e]) ⟨impl_Zone_holds_w, impl_FindEntry_w, trivial⟩ (keep := []) (l := []) Tryz.func144 (by kernel_rfl) (sg := [.one (.sc)]) (by kernel_rfl) trivial fun av k h => by
  unfold impl_IsDenied_1 at h; split at h
  · apply un_all h; clear h; intro a0 a1 h; apply un_all h; clear h; intro a2 h; apply un_all h; clear h; intro a3 h; apply un_all h; clear h; intro a4 h; exact Eq.mpr (by kernel_rfl) h
  · exact h.elim

def impl_World_someSaid_1_F_impl_IsDenied_1 : GM
 | [.agg u0, .ro (.fn 144 [u1, u2, u3])], k => un 3 (fun a0 a1 a2 => un 1 (fun a3 => un 1 (fun a4 => un 1 (fun a5 => 
  call impl_IsDenied_1 [.agg [a0, a1], .ro (.cells [a3]), .ro (.cells [a4]), .ro (.cells [a5])] fun o0 =>
  rt [.sc] [(atP o0 0)] k) u3) u2) u1) u0
 | _, _ => False
abbrev impl_World_someSaid_1_F_impl_IsDenied_1_e : Ent := ⟨[199, 144], impl_World_someSaid_1_F_impl_IsDenied_1⟩
theorem impl_World_someSaid_1_F_impl_IsDenied_1_w : EntOK Tryz.prog TT impl_World_someSaid_1_F_impl_IsDenied_1_e := ent_ok tabok (L := [impl_IsDenied_1_e]) ⟨impl_IsDenied_1_w, trivial⟩ (keep := []) (l := []) Tryz.func199 (by kernel_rfl) (sg := [.one (.sc)]) (by kernel_rfl) trivial fun av k h => by
  unfold impl_World_someSaid_1_F_impl_IsDenied_1 at h; split at h
  · apply un_all h; clear h; intro a0 a1 a2 h; apply un_all h; clear h; intro a3 h; apply un_all h; clear h; intro a4 h; apply un_all h; clear h; intro a5 h; exact Eq.mpr (by kernel_rfl) h
  · exact h.elim

def slices_IndexFunc_Said_F_impl_World_someSaid_1_F_impl_IsDenied_1_r0 (v : List PV) (K : List PV → Prop) (x0k : PV → Prop) (x1k : PV → PV → PV → PV → PV → PV → PV → Prop) : Prop :=
 un 7 (fun v0 v1 v2 v3 v4 v5 v6 =>
  binP .lss v6 v5 fun r0 =>
  iteP r0
   (elemP 3 v0 v6 fun c1 =>
   call impl_World_someSaid_1_F_impl_IsDenied_1 [.agg [(atP c1 0), (atP c1 1), (atP c1 2)], .ro (.fn 144 [[v1], [v2], [v3]])] fun o2 =>
   iteP (atP o2 0)
    (x0k v6)
    (binP .add v6 (I 1) fun r3 =>
    K [v0, v1, v2, v3, v4, v5, r3]))
   (x1k v0 v1 v2 v3 v4 v5 v6)) v
def slices_IndexFunc_Said_F_impl_World_someSaid_1_F_impl_IsDenied_1 : GM
 | [.one a0, .fn 199 [.fn 144 [u0, u1, u2]]], k => un 1 (fun a1 => un 1 (fun a2 => un 1 (fun a3 => 
  lenP a0 fun r0 =>
  lp (fun L w => slices_IndexFunc_Said_F_impl_World_someSaid_1_F_impl_IsDenied_1_r0 w L
   (fun q4 => rt [.sc] [q4] k)
   (fun q5 q6 q7 q8 q9 q10 q11 => rt [.sc] [(I (-1))] k)) [a0, a1, a2, a3, (I 0), r0, (I 0)]) u2) u1) u0
 | _, _ => False
abbrev slices_IndexFunc_Said_F_impl_World_someSaid_1_F_impl_IsDenied_1_e : Ent := ⟨[250, 199, 144], slices_IndexFunc_Said_F_impl_World_someSaid_1_F_impl_IsDenied_1⟩
def slices_IndexFunc_Said_F_impl_World_someSaid_1_F_impl_IsDenied_1_l : List LE := [⟨0, ⟨[(0, .one (.pv (.bool false))), (1, .one (.fn 199 [.ro (.fn 144 [[(.bool false)], [(.bool false)], [(.bool false)]])])), (4, .one (.pv (.bool false))), (7, .one (.pv (.bool false))), (8, .one (.pv (.bool false)))], [], [], 0, 19⟩, fun K k v => slices_IndexFunc_Said_F_impl_World_someSaid_1_F_impl_IsDenied_1_r0 v K (fun x0 => k .ret ⟨[(4, .one (.pv x0))], [], [], 1, 19⟩) (fun x0 x1 x2 x3 x4 x5 x6 => k (.exit 0) ⟨[(0, .one (.pv x0)), (1, .one (.fn 199 [.ro (.fn 144 [[x1], [x2], [x3]])])), (4, .one (.pv x4)), (7, .one (.pv x5)), (8, .one (.pv x6))], [], [], 0, 19⟩)⟩]
theorem slices_IndexFunc_Said_F_impl_World_someSaid_1_F_impl_IsDenied_1_s : LEsOK (orac [impl_World_someSaid_1_F_impl_IsDenied_1_e]) TT (kk [0, 1, 4, 7, 8]) (sumsOf slices_IndexFunc_Said_F_impl_World_someSaid_1_F_impl_IsDenied_1_l) Tryz.f250 slices_IndexFunc_Said_F_impl_World_someSaid_1_F_impl_IsDenied_1_l := ⟨fun v K k h => by
  apply un_all h; exact fun v0 v1 v2 v3 v4 v5 v6 h => Eq.mpr (by kernel_rfl) h
  , trivial⟩
theorem slices_IndexFunc_Said_F_impl_World_someSaid_1_F_impl_IsDenied_1_w : EntOK Tryz.prog TT slices_IndexFunc_Said_F_impl_World_someSaid_1_F_impl_IsDenied_1_e := ent_ok tabok (L := [impl_World_someSaid_1_F_impl_IsDenied_1_e]) ⟨impl_World_someSaid_1_F_impl_IsDenied_1_w, trivial⟩ (keep := (kk [0, 1, 4, 7, 8])) (l := slices_IndexFunc_Said_F_impl_World_someSaid_1_F_impl_IsDenied_1_l) Tryz.func250 (by kernel_rfl) (sg := [.one (.sc)]) (by kernel_rfl) slices_IndexFunc_Said_F_impl_World_someSaid_1_F_impl_IsDenied_1_s fun av k h => by
  unfold slices_IndexFunc_Said_F_impl_World_someSaid_1_F_impl_IsDenied_1 at h; split at h
  · apply un_all h; clear h; intro a1 h; apply un_all h; clear h; intro a2 h; apply un_all h; clear h; intro a3 h; exact Eq.mpr (by kernel_rfl) h
  · exact h.elim

def slices_ContainsFunc_Said_F_impl_World_someSaid_1_F_impl_IsDenied_1 : GM
 | [.one a0, .fn 199 [.fn 144 [u0, u1, u2]]], k => un 1 (fun a1 => un 1 (fun a2 => un 1 (fun a3 => 
  call slices_IndexFunc_Said_F_impl_World_someSaid_1_F_impl_IsDenied_1 [.one a0, .fn 199 [.fn 144 [[a1], [a2], [a3]]]] fun o0 =>
  binP .geq (atP o0 0) (I 0) fun r1 =>
  rt [.sc] [r1] k) u2) u1) u0
 | _, _ => False
abbrev slices_ContainsFunc_Said_F_impl_World_someSaid_1_F_impl_IsDenied_1_e : Ent := ⟨[162, 199, 144], slices_ContainsFunc_Said_F_impl_World_someSaid_1_F_impl_IsDenied_1⟩
theorem slices_ContainsFunc_Said_F_impl_World_someSaid_1_F_impl_IsDenied_1_w : EntOK Tryz.prog TT slices_ContainsFunc_Said_F_impl_World_someSaid_1_F_impl_IsDenied_1_e := ent_ok tabok (L := [slices_IndexFunc_Said_F_impl_World_someSaid_1_F_impl_IsDenied_1_e]) ⟨slices_IndexFunc_Said_F_impl_World_someSaid_1_F_impl_IsDenied_1_w, trivial⟩ (keep := []) (l := []) Tryz.func162 (by kernel_rfl) (sg := [.one (.sc)]) (by kernel_rfl) trivial fun av k h => by
  unfold slices_ContainsFunc_Said_F_impl_World_someSaid_1_F_impl_IsDenied_1 at h; split at h
  · apply un_all h; clear h; intro a1 h; apply un_all h; clear h; intro a2 h; apply un_all h; clear h; intro a3 h; exact Eq.mpr (by kernel_rfl) h
  · exact h.elim

def impl_World_someSaid_F_impl_IsDenied_1 : GM
 | [.agg u0, .fn 144 [.cells u1, .cells u2, .cells u3]], k => un 8 (fun a0 a1 a2 a3 a4 a5 a6 a7 => un 1 (fun a8 => un 1 (fun a9 => un 1 (fun a10 => 
  call slices_ContainsFunc_Said_F_impl_World_someSaid_1_F_impl_IsDenied_1 [.one a3, .fn 199 [.fn 144 [[a8], [a9], [a10]]]] fun o0 =>
  rt [.sc] [(atP o0 0)] k) u3) u2) u1) u0
 | _, _ => False
abbrev impl_World_someSaid_F_impl_IsDenied_1_e : Ent := ⟨[93, 144], impl_World_someSaid_F_impl_IsDenied_1⟩
theorem impl_World_someSaid_F_impl_IsDenied_1_w : EntOK Tryz.prog TT impl_World_someSaid_F_impl_IsDenied_1_e := ent_ok tabok (L := [slices_ContainsFunc_Said_F_impl_World_someSaid_1_F_impl_IsDenied_1_e]) ⟨slices_ContainsFunc_Said_F_impl_World_someSaid_1_F_impl_IsDenied_1_w, trivial⟩ (keep := []) (l := []) Tryz.func93 (by kernel_rfl) (sg := [.one (.sc)]) (by kernel_rfl) trivial fun av k h => by
  unfold impl_World_someSaid_F_impl_IsDenied_1 at h; split at h
  · apply un_all h; clear h; intro a0 a1 a2 a3 a4 a5 a6 a7 h; apply un_all h; clear h; intro a8 h; apply un_all h; clear h; intro a9 h; apply un_all h; clear h; intro a10 h; exact Eq.mpr (by kernel_rfl) h
  · exact h.elim

def impl_IsDenied : GM
 | [.agg u0, .one a8, .one a9, .one a10], k => un 8 (fun a0 a1 a2 a3 a4 a5 a6 a7 => 
  call impl_World_someSaid_F_impl_IsDenied_1 [.agg [a0, a1, a2, a3, a4, a5, a6, a7], .fn 144 [.cells [a8], .cells [a10], .cells [a9]]] fun o0 =>
  rt [.sc] [(atP o0 0)] k) u0
 | _, _ => False
abbrev impl_IsDenied_e : Ent := ⟨[49], impl_IsDenied⟩
theorem impl_IsDenied_w : EntOK Tryz.prog TT impl_IsDenied_e := ent_ok tabok (L := [impl_World_someSaid_F_impl_IsDenied_1_e]) ⟨impl_World_someSaid_F_impl_IsDenied_1_w, trivial⟩ (keep := []) (l := []) Tryz.func49 (by kernel_rfl) (sg := [.one (.sc)]) (by kernel_rfl) trivial fun av k h => by
  unfold impl_IsDenied at h; split at h
  · apply un_all h; clear h; intro a0 a1 a2 a3 a4 a5 a6 a7 h; exact Eq.mpr (by kernel_rfl) h
  · exact h.elim

def laws_FnExactIsDenied : GM
 | [.agg u0, .one a8, .one a9, .one a10], k => un 8 (fun a0 a1 a2 a3 a4 a5 a6 a7 => 
  lenS a9 fun r0 =>
  binP .gtr r0 (I 1048576) fun r1 =>
  iteP r1
   (rt [.sc] [(.bool true)] k)
   (call laws_szWorld [.agg [a0, a1, a2, a3, a4, a5, a6, a7], .one (I 1048576)] fun o2 =>
   binP .lss (atP o2 0) (I 0) fun r3 =>
   iteP r3
    (rt [.sc] [(.bool true)] k)
    (call laws_toWorld [.agg [a0, a1, a2, a3, a4, a5, a6, a7]] fun o4 =>
    call spec_IsDenied [.agg [(atP o4 0), (atP o4 1), (atP o4 2), (atP o4 3), (atP o4 4), (atP o4 5), (atP o4 6), (atP o4 7)], .one a8, .one a9, .one a10] fun o5 =>
    call laws_toWorld [.agg [a0, a1, a2, a3, a4, a5, a6, a7]] fun o6 =>
    call impl_IsDenied [.agg [(atP o6 0), (atP o6 1), (atP o6 2), (atP o6 3), (atP o6 4), (atP o6 5), (atP o6 6), (atP o6 7)], .one a8, .one a9, .one a10] fun o7 =>
    boolP .neq (atP o7 0) (atP o5 0) fun r8 =>
    iteP r8
     (rt [.sc] [(.bool false)] k)
     (call laws_toWorld [.agg [a0, a1, a2, a3, a4, a5, a6, a7]] fun o9 =>
     call laws_eqWorld [.agg [(atP o6 0), (atP o6 1), (atP o6 2), (atP o6 3), (atP o6 4), (atP o6 5), (atP o6 6), (atP o6 7)], .agg [(atP o9 0), (atP o9 1), (atP o9 2), (atP o9 3), (atP o9 4), (atP o9 5), (atP o9 6), (atP o9 7)]] fun o10 =>
     unP .not (atP o10 0) fun r11 =>
     iteP r11
      (rt [.sc] [(.bool false)] k)
      (rt [.sc] [(.bool true)] k))))) u0
 | _, _ => False
abbrev laws_FnExactIsDenied_e : Ent := ⟨[12], laws_FnExactIsDenied⟩
theorem laws_FnExactIsDenied_w : EntOK Tryz.prog TT laws_FnExactIsDenied_e := ent_ok tabok (L := [laws_szWorld_e, laws_toWorld_e, spec_IsDenied_e, impl_IsDenied_e, laws_eqWorld_e]) ⟨laws_szWorld_w, laws_toWorld_w, spec_IsDenied_w, impl_IsDenied_w, laws_eqWorld_w, trivial⟩ (keep := []) (l := []) Tryz.func12 (by kernel_rfl) (sg := [.one (.sc)]) (by kernel_rfl) trivial fun av k h => by
  unfold laws_FnExactIsDenied at h; split at h
  · apply un_all h; clear h; intro a0 a1 a2 a3 a4 a5 a6 a7 h; exact Eq.mpr (by kernel_rfl) h
  · exact h.elim


end Go.Ev
