/- What each function hands back, in plain Lean, and that the laws answer true, part 1. -/
import Derived.Test.YtjoaaoaleeambaaGreatFn2
set_option linter.unusedVariables false
set_option linter.unusedSimpArgs false
set_option maxRecDepth 4000
namespace Go.Ev
open Go.Proofs
/-! ### The laws' own functions: copies, sizes, comparisons (printed by gentypes.py) -/
theorem szr_add {s t : Nat} {left : Int} (h : (s : Int) ≤ left) : szr (s + t) left = szr t (left - s) := by
  unfold szr
  by_cases h1 : (t : Int) ≤ left - s
  · rw [if_pos h1, if_pos (by omega)]; omega
  · rw [if_neg h1, if_neg (by omega)]
theorem szr_over {s t : Nat} {left : Int} (h : ¬ (s : Int) ≤ left) : szr (s + t) left = -1 := by unfold szr; rw [if_neg (by omega)]
theorem szr_not {s : Nat} {left : Int} (h : ¬ (s : Int) ≤ left) : szr s left = -1 := by unfold szr; rw [if_neg h]
theorem szr_yes {s : Nat} {left : Int} (h : (s : Int) ≤ left) : szr s left = left - s := by unfold szr; rw [if_pos h]
theorem szr_pos {s : Nat} {left : Int} (h : 0 ≤ szr s left) : (s : Int) ≤ left ∧ szr s left = left - s := by
  unfold szr at h ⊢
  split at h
  · rename_i h1; rw [if_pos h1]; exact ⟨h1, rfl⟩
  · omega
theorem sumN_mem {α : Type} {s : α → Nat} {x : α} : ∀ {l : List α}, x ∈ l → s x ≤ sumN s l
  | y :: l, h => by
    rw [show sumN s (y :: l) = s y + sumN s l from rfl]
    rcases List.mem_cons.1 h with rfl | h
    · omega
    · have := sumN_mem (s := s) h; omega
/-- one count, then the rest -/
theorem sz_seq {s t : Nat} {left : Int} {A : Int → Prop} {k : List PV → Prop} (h2 : 0 ≤ left) (h3 : left ≤ 1048576) (h : ∀ l, 0 ≤ l → l ≤ 1048576 → (A l ↔ k [I (szr t l)])) :
    (if decide (szr s left < 0) = true then k [I (-1)] else A (szr s left)) ↔ k [I (szr (s + t) left)] := by
  by_cases hs : (s : Int) ≤ left
  · rw [szr_yes hs, szr_add hs, if_neg (by simp; omega)]
    exact h _ (by omega) (by omega)
  · rw [szr_not hs, szr_over hs]; simp
theorem sz_end {s : Nat} {left : Int} {k : List PV → Prop} (h2 : 0 ≤ left) : (if decide (szr s left < 0) = true then k [I (-1)] else k [I (szr s left)]) ↔ k [I (szr s left)] := by
  by_cases hs : (s : Int) ≤ left
  · rw [szr_yes hs, if_neg (by simp; omega)]
  · rw [szr_not hs]; simp
/-- a length, taken off -/
theorem sz_len {n : Nat} {left : Int} {A : Int → Prop} {k : List PV → Prop} (h1 : n ≤ maxLen) (h2 : 0 ≤ left) (h3 : left ≤ 1048576) :
    (if decide (IntKind.i64.wrap (left - n) < 0) = true then k [I (-1)] else A (IntKind.i64.wrap (left - n))) ↔ (if decide (szr n left < 0) = true then k [I (-1)] else A (szr n left)) := by
  rw [wr_left h1 h2 h3]
  by_cases hs : (n : Int) ≤ left
  · rw [szr_yes hs]
  · rw [szr_not hs, if_pos (by simp; omega), if_pos (by simp)]

theorem has_strs {p : PV} (hp : Sh.has (.list [.str]) p) : ∃ l : List ByteArray, p = strs l ∧ (l.length ≤ maxLen ∧ ∀ y ∈ l, y.size ≤ maxLen) := by
  obtain ⟨l, h1, h2, h3⟩ := has_map (enc := rS) (wf := fun y => y.size ≤ maxLen) (fun r hr => by
    obtain ⟨p, rfl, h⟩ := all_one hr
    obtain ⟨n, rfl, g⟩ := has_str h
    exact ⟨n, rfl, g⟩) 1 rfl hp
  exact ⟨l, h1, h2, h3⟩
theorem laws_szIntS_n (l : List Int) (left : Int) (hw : l.length ≤ maxLen) (h2 : 0 ≤ left) (h3 : left ≤ 1048576) (k) : call laws_szIntS [.one (ints l), .one (I left)] k = k [I (szr l.length left)] := call_of (fun k => by
  simp only [laws_szIntS, lenP_eq, List.length_map, binP_sub, wr_left hw h2 h3, binP_lss, iteP_eq, rt_eq, scs_sc, scs_nil, flat_int, true_and, and_true]
  by_cases c : (l.length : Int) ≤ left
  · simp [szr_yes c, show ¬ (left - (l.length : Int) < 0) by omega]
  · simp [szr_not c, show left - (l.length : Int) < 0 by omega]) k
theorem laws_toIntS_n (l : List Int) (h : l.length ≤ 1048576) (k) : call laws_toIntS [.one (ints l)] k = k [ints l] := call_of (fun k => by
  have hm := h
  simp [laws_toIntS, show l.length < 1073741824 by omega]
  refine lp_toS l rI rI [I 0] 1 1 (.list 1 []) rfl (fun i x hx hi K rows hr hz => ?_) fun K => ?_
  · simp [-getElem?_pos, laws_toIntS_r0, hx, hi, hr, hz, over, wr_succ (show i < 1000000000000000000 by omega)]
  · simp [laws_toIntS_r0]) k
theorem laws_eqIntS_n (l : List Int) (h : l.length ≤ 1048576) (k) : call laws_eqIntS [.one (ints l), .one (ints l)] k = k [.bool true] := call_of (fun k => by
  have hm := h
  simp [laws_eqIntS]
  refine lp_eqS l rI 1 (.bool false) rfl (fun i x hx hi K => ?_) fun K => ?_
  · simp [-getElem?_pos, laws_eqIntS_r0, hx, hi, wr_succ (show i < 1000000000000000000 by omega)]
  · simp [laws_eqIntS_r0]) k
theorem laws_szStringS_n (l : List ByteArray) (left : Int) (hw : (l.length ≤ maxLen ∧ ∀ y ∈ l, y.size ≤ maxLen)) (h2 : 0 ≤ left) (h3 : left ≤ 1048576) (k) : call laws_szStringS [.one (strs l), .one (I left)] k = k [I (szr ((l.length + sumN ByteArray.size l)) left)] := call_of (fun k => by
  simp only [laws_szStringS, lenP_eq, List.length_map, binP_sub, wr_left hw.1 h2 h3, binP_lss, iteP_eq, rt_eq, scs_sc, scs_nil, flat_int, true_and, and_true]
  by_cases c : (l.length : Int) ≤ left
  rotate_left
  · simp [szr_over c, show left - (l.length : Int) < 0 by omega]
  simp only [szr_add c, show ¬ (left - (l.length : Int) < 0) by omega, decide_false, Bool.false_eq_true, if_false]
  refine (lp_sz (neg := k [I (-1)]) (fin := fun t => k [I t]) l rS 1 ByteArray.size (left - (l.length : Int)) (I 0) (by omega) (by omega) rfl (fun i x hx hi t ht1 ht2 K => ?_) fun t K => ?_).trans ?_
  · have e := wr_left (left := t) (hw.2 x (List.mem_of_getElem? hx)) ht1 ht2
    simp [-getElem?_pos, laws_szStringS_r0, hx, hi, e, wr_succ (show i < 1000000000000000000 by have := hw.1; omega)]
    by_cases hs : (x.size : Int) ≤ t
    · simp [hs, show ¬ (t - (x.size : Int) < 0) by omega]
    · simp [hs, show t - (x.size : Int) < 0 by omega]
  · simp [laws_szStringS_r0]
  · by_cases hs : ((sumN ByteArray.size l : Nat) : Int) ≤ left - (l.length : Int)
    · simp [szr_yes hs, hs]
    · simp [szr_not hs, hs]) k
theorem laws_toStringS_n (l : List ByteArray) (h : (l.length + sumN ByteArray.size l) ≤ 1048576) (k) : call laws_toStringS [.one (strs l)] k = k [strs l] := call_of (fun k => by
  have hm := h
  simp [laws_toStringS, show l.length < 1073741824 by omega]
  refine lp_toS l rS rS [.str ⟨#[]⟩] 1 1 (.list 1 []) rfl (fun i x hx hi K rows hr hz => ?_) fun K => ?_
  · simp [-getElem?_pos, laws_toStringS_r0, hx, hi, hr, hz, over, wr_succ (show i < 1000000000000000000 by omega)]
  · simp [laws_toStringS_r0]) k
theorem laws_eqStringS_n (l : List ByteArray) (h : (l.length + sumN ByteArray.size l) ≤ 1048576) (k) : call laws_eqStringS [.one (strs l), .one (strs l)] k = k [.bool true] := call_of (fun k => by
  have hm := h
  simp [laws_eqStringS]
  refine lp_eqS l rS 1 (.bool false) rfl (fun i x hx hi K => ?_) fun K => ?_
  · simp [-getElem?_pos, laws_eqStringS_r0, hx, hi, wr_succ (show i < 1000000000000000000 by omega)]
  · simp [laws_eqStringS_r0]) k
structure GKeys where
  Lst : List Int
  Need : Int
abbrev eKeys (a : GKeys) : List PV := [ints a.Lst, I a.Need]
def mKeys (a : GKeys) : Nat := a.Lst.length
def WKeys (a : GKeys) : Prop := a.Lst.length ≤ maxLen
theorem decKeys (r : List PV) (hr : Sh.hasAll [.list [.int .i64], .int .i64] r) : ∃ a : GKeys, r = eKeys a ∧ WKeys a := by
  obtain ⟨p1, r1, rfl, h1, hr1⟩ := all_cons hr
  obtain ⟨n1, rfl, g1⟩ := has_ints h1
  obtain ⟨p2, rfl, h2⟩ := all_one hr1
  obtain ⟨n2, rfl⟩ := has_int h2
  exact ⟨⟨n1, n2⟩, rfl, g1⟩
theorem laws_szKeys_n (a : GKeys) (left : Int) (hw : WKeys a) (h2 : 0 ≤ left) (h3 : left ≤ 1048576) (k) : call laws_szKeys [.agg (eKeys a), .one (I left)] k = k [I (szr (mKeys a) left)] := call_of (fun k => by
  have g0 := hw
  unfold mKeys
  simp only [laws_szKeys, un, cur0, laws_szIntS_n a.Lst (left) g0 h2 h3, binP_lss, iteP_eq, atP_zero, rt_eq, scs_sc, scs_nil, flat_int, true_and, and_true]
  by_cases c0 : ((a.Lst.length : Nat) : Int) ≤ left
  rotate_left
  · simp [szr_not c0, szr_not c0]
  simp only [szr_yes c0, show ¬ (left - ((a.Lst.length : Nat) : Int) < 0) by omega, decide_false, Bool.false_eq_true, if_false, binP_lss, iteP_eq, atP_zero, rt_eq, scs_sc, scs_nil, flat_int, true_and, and_true]) k
theorem laws_toKeys_n (a : GKeys) (h : mKeys a ≤ 1048576) (k) : call laws_toKeys [.agg (eKeys a)] k = k (eKeys a) := call_of (fun k => by
  unfold mKeys at h
  simp [laws_toKeys, laws_toIntS_n a.Lst (by omega)]) k
theorem laws_eqKeys_n (a : GKeys) (h : mKeys a ≤ 1048576) (k) : call laws_eqKeys [.agg (eKeys a), .agg (eKeys a)] k = k [.bool true] := call_of (fun k => by
  unfold mKeys at h
  simp [laws_eqKeys, laws_eqIntS_n a.Lst (by omega)]) k
structure GSig where
  Key : Int
  Tag : Int
abbrev eSig (a : GSig) : List PV := [I a.Key, I a.Tag]
theorem decSig (r : List PV) (hr : Sh.hasAll [.int .i64, .int .i64] r) : ∃ a : GSig, r = eSig a ∧ True := by
  obtain ⟨p1, r1, rfl, h1, hr1⟩ := all_cons hr
  obtain ⟨n1, rfl⟩ := has_int h1
  obtain ⟨p2, rfl, h2⟩ := all_one hr1
  obtain ⟨n2, rfl⟩ := has_int h2
  exact ⟨⟨n1, n2⟩, rfl, trivial⟩
theorem laws_toSig_n (a : GSig) (k) : call laws_toSig [.agg (eSig a)] k = k (eSig a) := call_of (fun k => by
  simp [laws_toSig]) k
theorem laws_eqSig_n (a : GSig) (k) : call laws_eqSig [.agg (eSig a), .agg (eSig a)] k = k [.bool true] := call_of (fun k => by
  simp [laws_eqSig]) k
structure GEntry where
  Label : ByteArray
  Kind : Int
  Value : Int
  Path : List ByteArray
abbrev eEntry (a : GEntry) : List PV := [.str a.Label, I a.Kind, I a.Value, strs a.Path]
def mEntry (a : GEntry) : Nat := a.Label.size + ((a.Path.length + sumN ByteArray.size a.Path))
def WEntry (a : GEntry) : Prop := a.Label.size ≤ maxLen ∧ (a.Path.length ≤ maxLen ∧ ∀ y ∈ a.Path, y.size ≤ maxLen)
theorem decEntry (r : List PV) (hr : Sh.hasAll [.str, .int .i64, .int .i64, .list [.str]] r) : ∃ a : GEntry, r = eEntry a ∧ WEntry a := by
  obtain ⟨p1, r1, rfl, h1, hr1⟩ := all_cons hr
  obtain ⟨n1, rfl, g1⟩ := has_str h1
  obtain ⟨p2, r2, rfl, h2, hr2⟩ := all_cons hr1
  obtain ⟨n2, rfl⟩ := has_int h2
  obtain ⟨p3, r3, rfl, h3, hr3⟩ := all_cons hr2
  obtain ⟨n3, rfl⟩ := has_int h3
  obtain ⟨p4, rfl, h4⟩ := all_one hr3
  obtain ⟨n4, rfl, g4⟩ := has_strs h4
  exact ⟨⟨n1, n2, n3, n4⟩, rfl, ⟨g1, g4⟩⟩
theorem laws_szEntry_n (a : GEntry) (left : Int) (hw : WEntry a) (h2 : 0 ≤ left) (h3 : left ≤ 1048576) (k) : call laws_szEntry [.agg (eEntry a), .one (I left)] k = k [I (szr (mEntry a) left)] := call_of (fun k => by
  obtain ⟨g0, g1⟩ := hw
  unfold mEntry
  simp only [laws_szEntry, un, cur0, lenS_eq, binP_sub, wr_left (left := left) g0 h2 h3, binP_lss, iteP_eq, atP_zero, rt_eq, scs_sc, scs_nil, flat_int, true_and, and_true]
  by_cases c0 : ((a.Label.size : Nat) : Int) ≤ left
  rotate_left
  · simp [szr_over c0, show left - ((a.Label.size : Nat) : Int) < 0 by omega]
  simp only [szr_yes c0, szr_add c0, show ¬ (left - ((a.Label.size : Nat) : Int) < 0) by omega, decide_false, Bool.false_eq_true, if_false, laws_szStringS_n a.Path (left - ((a.Label.size : Nat) : Int)) g1 (by omega) (by omega), binP_lss, iteP_eq, atP_zero, rt_eq, scs_sc, scs_nil, flat_int, true_and, and_true]
  by_cases c1 : (((a.Path.length + sumN ByteArray.size a.Path) : Nat) : Int) ≤ left - ((a.Label.size : Nat) : Int)
  rotate_left
  · simp [szr_not c1, szr_not c1]
  simp only [szr_yes c1, show ¬ (left - ((a.Label.size : Nat) : Int) - (((a.Path.length + sumN ByteArray.size a.Path) : Nat) : Int) < 0) by omega, decide_false, Bool.false_eq_true, if_false, binP_lss, iteP_eq, atP_zero, rt_eq, scs_sc, scs_nil, flat_int, true_and, and_true]) k
theorem laws_toEntry_n (a : GEntry) (h : mEntry a ≤ 1048576) (k) : call laws_toEntry [.agg (eEntry a)] k = k (eEntry a) := call_of (fun k => by
  unfold mEntry at h
  simp [laws_toEntry, laws_toStringS_n a.Path (by omega)]) k
theorem laws_eqEntry_n (a : GEntry) (h : mEntry a ≤ 1048576) (k) : call laws_eqEntry [.agg (eEntry a), .agg (eEntry a)] k = k [.bool true] := call_of (fun k => by
  unfold mEntry at h
  simp [laws_eqEntry, laws_eqStringS_n a.Path (by omega)]) k
structure GProof where
  At : Int
  Path : List Int
abbrev eProof (a : GProof) : List PV := [I a.At, ints a.Path]
def mProof (a : GProof) : Nat := a.Path.length
def WProof (a : GProof) : Prop := a.Path.length ≤ maxLen
theorem decProof (r : List PV) (hr : Sh.hasAll [.int .i64, .list [.int .i64]] r) : ∃ a : GProof, r = eProof a ∧ WProof a := by
  obtain ⟨p1, r1, rfl, h1, hr1⟩ := all_cons hr
  obtain ⟨n1, rfl⟩ := has_int h1
  obtain ⟨p2, rfl, h2⟩ := all_one hr1
  obtain ⟨n2, rfl, g2⟩ := has_ints h2
  exact ⟨⟨n1, n2⟩, rfl, g2⟩
theorem laws_szProof_n (a : GProof) (left : Int) (hw : WProof a) (h2 : 0 ≤ left) (h3 : left ≤ 1048576) (k) : call laws_szProof [.agg (eProof a), .one (I left)] k = k [I (szr (mProof a) left)] := call_of (fun k => by
  have g0 := hw
  unfold mProof
  simp only [laws_szProof, un, cur0, laws_szIntS_n a.Path (left) g0 h2 h3, binP_lss, iteP_eq, atP_zero, rt_eq, scs_sc, scs_nil, flat_int, true_and, and_true]
  by_cases c0 : ((a.Path.length : Nat) : Int) ≤ left
  rotate_left
  · simp [szr_not c0, szr_not c0]
  simp only [szr_yes c0, show ¬ (left - ((a.Path.length : Nat) : Int) < 0) by omega, decide_false, Bool.false_eq_true, if_false, binP_lss, iteP_eq, atP_zero, rt_eq, scs_sc, scs_nil, flat_int, true_and, and_true]) k
theorem laws_toProof_n (a : GProof) (h : mProof a ≤ 1048576) (k) : call laws_toProof [.agg (eProof a)] k = k (eProof a) := call_of (fun k => by
  unfold mProof at h
  simp [laws_toProof, laws_toIntS_n a.Path (by omega)]) k
theorem laws_eqProof_n (a : GProof) (h : mProof a ≤ 1048576) (k) : call laws_eqProof [.agg (eProof a), .agg (eProof a)] k = k [.bool true] := call_of (fun k => by
  unfold mProof at h
  simp [laws_eqProof, laws_eqIntS_n a.Path (by omega)]) k
structure GGap where
  At : Int
  Before : GEntry
  After : GEntry
  Left : GProof
  Right : GProof
abbrev eGap (a : GGap) : List PV := [I a.At, .str a.Before.Label, I a.Before.Kind, I a.Before.Value, strs a.Before.Path, .str a.After.Label, I a.After.Kind, I a.After.Value, strs a.After.Path, I a.Left.At, ints a.Left.Path, I a.Right.At, ints a.Right.Path]
def mGap (a : GGap) : Nat := mEntry a.Before + (mEntry a.After + (mProof a.Left + (mProof a.Right)))
def WGap (a : GGap) : Prop := WEntry a.Before ∧ WEntry a.After ∧ WProof a.Left ∧ WProof a.Right
theorem decGap (r : List PV) (hr : Sh.hasAll [.int .i64, .str, .int .i64, .int .i64, .list [.str], .str, .int .i64, .int .i64, .list [.str], .int .i64, .list [.int .i64], .int .i64, .list [.int .i64]] r) : ∃ a : GGap, r = eGap a ∧ WGap a := by
  obtain ⟨p1, r1, rfl, h1, hr1⟩ := all_cons hr
  obtain ⟨n1, rfl⟩ := has_int h1
  obtain ⟨p2, r2, rfl, h2, hr2⟩ := all_cons hr1
  obtain ⟨n2, rfl, g2⟩ := has_str h2
  obtain ⟨p3, r3, rfl, h3, hr3⟩ := all_cons hr2
  obtain ⟨n3, rfl⟩ := has_int h3
  obtain ⟨p4, r4, rfl, h4, hr4⟩ := all_cons hr3
  obtain ⟨n4, rfl⟩ := has_int h4
  obtain ⟨p5, r5, rfl, h5, hr5⟩ := all_cons hr4
  obtain ⟨n5, rfl, g5⟩ := has_strs h5
  obtain ⟨p6, r6, rfl, h6, hr6⟩ := all_cons hr5
  obtain ⟨n6, rfl, g6⟩ := has_str h6
  obtain ⟨p7, r7, rfl, h7, hr7⟩ := all_cons hr6
  obtain ⟨n7, rfl⟩ := has_int h7
  obtain ⟨p8, r8, rfl, h8, hr8⟩ := all_cons hr7
  obtain ⟨n8, rfl⟩ := has_int h8
  obtain ⟨p9, r9, rfl, h9, hr9⟩ := all_cons hr8
  obtain ⟨n9, rfl, g9⟩ := has_strs h9
  obtain ⟨p10, r10, rfl, h10, hr10⟩ := all_cons hr9
  obtain ⟨n10, rfl⟩ := has_int h10
  obtain ⟨p11, r11, rfl, h11, hr11⟩ := all_cons hr10
  obtain ⟨n11, rfl, g11⟩ := has_ints h11
  obtain ⟨p12, r12, rfl, h12, hr12⟩ := all_cons hr11
  obtain ⟨n12, rfl⟩ := has_int h12
  obtain ⟨p13, rfl, h13⟩ := all_one hr12
  obtain ⟨n13, rfl, g13⟩ := has_ints h13
  exact ⟨⟨n1, ⟨n2, n3, n4, n5⟩, ⟨n6, n7, n8, n9⟩, ⟨n10, n11⟩, ⟨n12, n13⟩⟩, rfl, ⟨⟨g2, g5⟩, ⟨g6, g9⟩, g11, g13⟩⟩
theorem laws_szGap_n (a : GGap) (left : Int) (hw : WGap a) (h2 : 0 ≤ left) (h3 : left ≤ 1048576) (k) : call laws_szGap [.agg (eGap a), .one (I left)] k = k [I (szr (mGap a) left)] := call_of (fun k => by
  obtain ⟨g0, g1, g2, g3⟩ := hw
  unfold mGap
  simp only [laws_szGap, un, cur0, laws_szEntry_n a.Before (left) g0 h2 h3, binP_lss, iteP_eq, atP_zero, rt_eq, scs_sc, scs_nil, flat_int, true_and, and_true]
  by_cases c0 : ((mEntry a.Before : Nat) : Int) ≤ left
  rotate_left
  · simp [szr_over c0, szr_not c0]
  simp only [szr_yes c0, szr_add c0, show ¬ (left - ((mEntry a.Before : Nat) : Int) < 0) by omega, decide_false, Bool.false_eq_true, if_false, laws_szEntry_n a.After (left - ((mEntry a.Before : Nat) : Int)) g1 (by omega) (by omega), binP_lss, iteP_eq, atP_zero, rt_eq, scs_sc, scs_nil, flat_int, true_and, and_true]
  by_cases c1 : ((mEntry a.After : Nat) : Int) ≤ left - ((mEntry a.Before : Nat) : Int)
  rotate_left
  · simp [szr_over c1, szr_not c1]
  simp only [szr_yes c1, szr_add c1, show ¬ (left - ((mEntry a.Before : Nat) : Int) - ((mEntry a.After : Nat) : Int) < 0) by omega, decide_false, Bool.false_eq_true, if_false, laws_szProof_n a.Left (left - ((mEntry a.Before : Nat) : Int) - ((mEntry a.After : Nat) : Int)) g2 (by omega) (by omega), binP_lss, iteP_eq, atP_zero, rt_eq, scs_sc, scs_nil, flat_int, true_and, and_true]
  by_cases c2 : ((mProof a.Left : Nat) : Int) ≤ left - ((mEntry a.Before : Nat) : Int) - ((mEntry a.After : Nat) : Int)
  rotate_left
  · simp [szr_over c2, szr_not c2]
  simp only [szr_yes c2, szr_add c2, show ¬ (left - ((mEntry a.Before : Nat) : Int) - ((mEntry a.After : Nat) : Int) - ((mProof a.Left : Nat) : Int) < 0) by omega, decide_false, Bool.false_eq_true, if_false, laws_szProof_n a.Right (left - ((mEntry a.Before : Nat) : Int) - ((mEntry a.After : Nat) : Int) - ((mProof a.Left : Nat) : Int)) g3 (by omega) (by omega), binP_lss, iteP_eq, atP_zero, rt_eq, scs_sc, scs_nil, flat_int, true_and, and_true]
  by_cases c3 : ((mProof a.Right : Nat) : Int) ≤ left - ((mEntry a.Before : Nat) : Int) - ((mEntry a.After : Nat) : Int) - ((mProof a.Left : Nat) : Int)
  rotate_left
  · simp [szr_not c3, szr_not c3]
  simp only [szr_yes c3, show ¬ (left - ((mEntry a.Before : Nat) : Int) - ((mEntry a.After : Nat) : Int) - ((mProof a.Left : Nat) : Int) - ((mProof a.Right : Nat) : Int) < 0) by omega, decide_false, Bool.false_eq_true, if_false, binP_lss, iteP_eq, atP_zero, rt_eq, scs_sc, scs_nil, flat_int, true_and, and_true]) k
theorem laws_toGap_n (a : GGap) (h : mGap a ≤ 1048576) (k) : call laws_toGap [.agg (eGap a)] k = k (eGap a) := call_of (fun k => by
  unfold mGap at h
  simp [laws_toGap, laws_toEntry_n a.Before (by omega), laws_toEntry_n a.After (by omega), laws_toProof_n a.Left (by omega), laws_toProof_n a.Right (by omega)]) k
theorem laws_eqGap_n (a : GGap) (h : mGap a ≤ 1048576) (k) : call laws_eqGap [.agg (eGap a), .agg (eGap a)] k = k [.bool true] := call_of (fun k => by
  unfold mGap at h
  simp [laws_eqGap, laws_eqEntry_n a.Before (by omega), laws_eqEntry_n a.After (by omega), laws_eqProof_n a.Left (by omega), laws_eqProof_n a.Right (by omega)]) k
structure GHead where
  Zone : Int
  Epoch : Int
  Kind : Int
  Time : Int
  Until : Int
  Count : Int
  Root : Int
  Prev : Int
  Keys : GKeys
  Heirs : GKeys
  Wait : Int
  Judge : GKeys
  Frozen : Bool
abbrev eHead (a : GHead) : List PV := [I a.Zone, I a.Epoch, I a.Kind, I a.Time, I a.Until, I a.Count, I a.Root, I a.Prev, ints a.Keys.Lst, I a.Keys.Need, ints a.Heirs.Lst, I a.Heirs.Need, I a.Wait, ints a.Judge.Lst, I a.Judge.Need, .bool a.Frozen]
def mHead (a : GHead) : Nat := mKeys a.Keys + (mKeys a.Heirs + (mKeys a.Judge))
def WHead (a : GHead) : Prop := WKeys a.Keys ∧ WKeys a.Heirs ∧ WKeys a.Judge
theorem decHead (r : List PV) (hr : Sh.hasAll [.int .i64, .int .i64, .int .i64, .int .i64, .int .i64, .int .i64, .int .i64, .int .i64, .list [.int .i64], .int .i64, .list [.int .i64], .int .i64, .int .i64, .list [.int .i64], .int .i64, .bool] r) : ∃ a : GHead, r = eHead a ∧ WHead a := by
  obtain ⟨p1, r1, rfl, h1, hr1⟩ := all_cons hr
  obtain ⟨n1, rfl⟩ := has_int h1
  obtain ⟨p2, r2, rfl, h2, hr2⟩ := all_cons hr1
  obtain ⟨n2, rfl⟩ := has_int h2
  obtain ⟨p3, r3, rfl, h3, hr3⟩ := all_cons hr2
  obtain ⟨n3, rfl⟩ := has_int h3
  obtain ⟨p4, r4, rfl, h4, hr4⟩ := all_cons hr3
  obtain ⟨n4, rfl⟩ := has_int h4
  obtain ⟨p5, r5, rfl, h5, hr5⟩ := all_cons hr4
  obtain ⟨n5, rfl⟩ := has_int h5
  obtain ⟨p6, r6, rfl, h6, hr6⟩ := all_cons hr5
  obtain ⟨n6, rfl⟩ := has_int h6
  obtain ⟨p7, r7, rfl, h7, hr7⟩ := all_cons hr6
  obtain ⟨n7, rfl⟩ := has_int h7
  obtain ⟨p8, r8, rfl, h8, hr8⟩ := all_cons hr7
  obtain ⟨n8, rfl⟩ := has_int h8
  obtain ⟨p9, r9, rfl, h9, hr9⟩ := all_cons hr8
  obtain ⟨n9, rfl, g9⟩ := has_ints h9
  obtain ⟨p10, r10, rfl, h10, hr10⟩ := all_cons hr9
  obtain ⟨n10, rfl⟩ := has_int h10
  obtain ⟨p11, r11, rfl, h11, hr11⟩ := all_cons hr10
  obtain ⟨n11, rfl, g11⟩ := has_ints h11
  obtain ⟨p12, r12, rfl, h12, hr12⟩ := all_cons hr11
  obtain ⟨n12, rfl⟩ := has_int h12
  obtain ⟨p13, r13, rfl, h13, hr13⟩ := all_cons hr12
  obtain ⟨n13, rfl⟩ := has_int h13
  obtain ⟨p14, r14, rfl, h14, hr14⟩ := all_cons hr13
  obtain ⟨n14, rfl, g14⟩ := has_ints h14
  obtain ⟨p15, r15, rfl, h15, hr15⟩ := all_cons hr14
  obtain ⟨n15, rfl⟩ := has_int h15
  obtain ⟨p16, rfl, h16⟩ := all_one hr15
  obtain ⟨n16, rfl⟩ := has_bool h16
  exact ⟨⟨n1, n2, n3, n4, n5, n6, n7, n8, ⟨n9, n10⟩, ⟨n11, n12⟩, n13, ⟨n14, n15⟩, n16⟩, rfl, ⟨g9, g11, g14⟩⟩
theorem laws_szHead_n (a : GHead) (left : Int) (hw : WHead a) (h2 : 0 ≤ left) (h3 : left ≤ 1048576) (k) : call laws_szHead [.agg (eHead a), .one (I left)] k = k [I (szr (mHead a) left)] := call_of (fun k => by
  obtain ⟨g0, g1, g2⟩ := hw
  unfold mHead
  simp only [laws_szHead, un, cur0, laws_szKeys_n a.Keys (left) g0 h2 h3, binP_lss, iteP_eq, atP_zero, rt_eq, scs_sc, scs_nil, flat_int, true_and, and_true]
  by_cases c0 : ((mKeys a.Keys : Nat) : Int) ≤ left
  rotate_left
  · simp [szr_over c0, szr_not c0]
  simp only [szr_yes c0, szr_add c0, show ¬ (left - ((mKeys a.Keys : Nat) : Int) < 0) by omega, decide_false, Bool.false_eq_true, if_false, laws_szKeys_n a.Heirs (left - ((mKeys a.Keys : Nat) : Int)) g1 (by omega) (by omega), binP_lss, iteP_eq, atP_zero, rt_eq, scs_sc, scs_nil, flat_int, true_and, and_true]
  by_cases c1 : ((mKeys a.Heirs : Nat) : Int) ≤ left - ((mKeys a.Keys : Nat) : Int)
  rotate_left
  · simp [szr_over c1, szr_not c1]
  simp only [szr_yes c1, szr_add c1, show ¬ (left - ((mKeys a.Keys : Nat) : Int) - ((mKeys a.Heirs : Nat) : Int) < 0) by omega, decide_false, Bool.false_eq_true, if_false, laws_szKeys_n a.Judge (left - ((mKeys a.Keys : Nat) : Int) - ((mKeys a.Heirs : Nat) : Int)) g2 (by omega) (by omega), binP_lss, iteP_eq, atP_zero, rt_eq, scs_sc, scs_nil, flat_int, true_and, and_true]
  by_cases c2 : ((mKeys a.Judge : Nat) : Int) ≤ left - ((mKeys a.Keys : Nat) : Int) - ((mKeys a.Heirs : Nat) : Int)
  rotate_left
  · simp [szr_not c2, szr_not c2]
  simp only [szr_yes c2, show ¬ (left - ((mKeys a.Keys : Nat) : Int) - ((mKeys a.Heirs : Nat) : Int) - ((mKeys a.Judge : Nat) : Int) < 0) by omega, decide_false, Bool.false_eq_true, if_false, binP_lss, iteP_eq, atP_zero, rt_eq, scs_sc, scs_nil, flat_int, true_and, and_true]) k
theorem laws_toHead_n (a : GHead) (h : mHead a ≤ 1048576) (k) : call laws_toHead [.agg (eHead a)] k = k (eHead a) := call_of (fun k => by
  unfold mHead at h
  simp [laws_toHead, laws_toKeys_n a.Keys (by omega), laws_toKeys_n a.Heirs (by omega), laws_toKeys_n a.Judge (by omega)]) k
theorem laws_eqHead_n (a : GHead) (h : mHead a ≤ 1048576) (k) : call laws_eqHead [.agg (eHead a), .agg (eHead a)] k = k [.bool true] := call_of (fun k => by
  unfold mHead at h
  simp [laws_eqHead, laws_eqKeys_n a.Keys (by omega), laws_eqKeys_n a.Heirs (by omega), laws_eqKeys_n a.Judge (by omega)]) k
theorem decSigS {p : PV} (h : Sh.has (.list [.int .i64, .int .i64]) p) : ∃ l : List GSig, p = .list 2 (l.map eSig) ∧ l.length ≤ maxLen := by
  obtain ⟨l, h1, h2, h3⟩ := has_map decSig 2 rfl h
  exact ⟨l, h1, h2⟩
theorem laws_szSigS_n (l : List GSig) (left : Int) (hw : l.length ≤ maxLen) (h2 : 0 ≤ left) (h3 : left ≤ 1048576) (k) : call laws_szSigS [.one (.list 2 (l.map eSig)), .one (I left)] k = k [I (szr l.length left)] := call_of (fun k => by
  simp only [laws_szSigS, lenP_eq, List.length_map, binP_sub, wr_left hw h2 h3, binP_lss, iteP_eq, rt_eq, scs_sc, scs_nil, flat_int, true_and, and_true]
  by_cases c : (l.length : Int) ≤ left
  · simp [szr_yes c, show ¬ (left - (l.length : Int) < 0) by omega]
  · simp [szr_not c, show left - (l.length : Int) < 0 by omega]) k
theorem laws_toSigS_n (l : List GSig) (h : l.length ≤ 1048576) (k) : call laws_toSigS [.one (.list 2 (l.map eSig))] k = k [.list 2 (l.map eSig)] := call_of (fun k => by
  have hm := h
  simp [laws_toSigS, show l.length < 1073741824 by omega]
  refine lp_toS l eSig eSig [I 0, I 0] 2 2 (.list 2 []) rfl (fun i x hx hi K rows hr hz => ?_) fun K => ?_
  · simp [-getElem?_pos, laws_toSigS_r0, hx, hi, hr, hz, over, laws_toSig_n x, wr_succ (show i < 1000000000000000000 by omega)]
  · simp [laws_toSigS_r0]) k
theorem laws_eqSigS_n (l : List GSig) (h : l.length ≤ 1048576) (k) : call laws_eqSigS [.one (.list 2 (l.map eSig)), .one (.list 2 (l.map eSig))] k = k [.bool true] := call_of (fun k => by
  have hm := h
  simp [laws_eqSigS]
  refine lp_eqS l eSig 2 (.bool false) rfl (fun i x hx hi K => ?_) fun K => ?_
  · simp [-getElem?_pos, laws_eqSigS_r0, hx, hi, laws_eqSig_n x, wr_succ (show i < 1000000000000000000 by omega)]
  · simp [laws_eqSigS_r0]) k
structure GSigned where
  Head : GHead
  Sigs : List GSig
abbrev eSigned (a : GSigned) : List PV := [I a.Head.Zone, I a.Head.Epoch, I a.Head.Kind, I a.Head.Time, I a.Head.Until, I a.Head.Count, I a.Head.Root, I a.Head.Prev, ints a.Head.Keys.Lst, I a.Head.Keys.Need, ints a.Head.Heirs.Lst, I a.Head.Heirs.Need, I a.Head.Wait, ints a.Head.Judge.Lst, I a.Head.Judge.Need, .bool a.Head.Frozen, .list 2 (a.Sigs.map eSig)]
def mSigned (a : GSigned) : Nat := mHead a.Head + (a.Sigs.length)
def WSigned (a : GSigned) : Prop := WHead a.Head ∧ a.Sigs.length ≤ maxLen
theorem decSigned (r : List PV) (hr : Sh.hasAll [.int .i64, .int .i64, .int .i64, .int .i64, .int .i64, .int .i64, .int .i64, .int .i64, .list [.int .i64], .int .i64, .list [.int .i64], .int .i64, .int .i64, .list [.int .i64], .int .i64, .bool, .list [.int .i64, .int .i64]] r) : ∃ a : GSigned, r = eSigned a ∧ WSigned a := by
  obtain ⟨p1, r1, rfl, h1, hr1⟩ := all_cons hr
  obtain ⟨n1, rfl⟩ := has_int h1
  obtain ⟨p2, r2, rfl, h2, hr2⟩ := all_cons hr1
  obtain ⟨n2, rfl⟩ := has_int h2
  obtain ⟨p3, r3, rfl, h3, hr3⟩ := all_cons hr2
  obtain ⟨n3, rfl⟩ := has_int h3
  obtain ⟨p4, r4, rfl, h4, hr4⟩ := all_cons hr3
  obtain ⟨n4, rfl⟩ := has_int h4
  obtain ⟨p5, r5, rfl, h5, hr5⟩ := all_cons hr4
  obtain ⟨n5, rfl⟩ := has_int h5
  obtain ⟨p6, r6, rfl, h6, hr6⟩ := all_cons hr5
  obtain ⟨n6, rfl⟩ := has_int h6
  obtain ⟨p7, r7, rfl, h7, hr7⟩ := all_cons hr6
  obtain ⟨n7, rfl⟩ := has_int h7
  obtain ⟨p8, r8, rfl, h8, hr8⟩ := all_cons hr7
  obtain ⟨n8, rfl⟩ := has_int h8
  obtain ⟨p9, r9, rfl, h9, hr9⟩ := all_cons hr8
  obtain ⟨n9, rfl, g9⟩ := has_ints h9
  obtain ⟨p10, r10, rfl, h10, hr10⟩ := all_cons hr9
  obtain ⟨n10, rfl⟩ := has_int h10
  obtain ⟨p11, r11, rfl, h11, hr11⟩ := all_cons hr10
  obtain ⟨n11, rfl, g11⟩ := has_ints h11
  obtain ⟨p12, r12, rfl, h12, hr12⟩ := all_cons hr11
  obtain ⟨n12, rfl⟩ := has_int h12
  obtain ⟨p13, r13, rfl, h13, hr13⟩ := all_cons hr12
  obtain ⟨n13, rfl⟩ := has_int h13
  obtain ⟨p14, r14, rfl, h14, hr14⟩ := all_cons hr13
  obtain ⟨n14, rfl, g14⟩ := has_ints h14
  obtain ⟨p15, r15, rfl, h15, hr15⟩ := all_cons hr14
  obtain ⟨n15, rfl⟩ := has_int h15
  obtain ⟨p16, r16, rfl, h16, hr16⟩ := all_cons hr15
  obtain ⟨n16, rfl⟩ := has_bool h16
  obtain ⟨p17, rfl, h17⟩ := all_one hr16
  obtain ⟨n17, rfl, g17⟩ := decSigS h17
  exact ⟨⟨⟨n1, n2, n3, n4, n5, n6, n7, n8, ⟨n9, n10⟩, ⟨n11, n12⟩, n13, ⟨n14, n15⟩, n16⟩, n17⟩, rfl, ⟨⟨g9, g11, g14⟩, g17⟩⟩
theorem laws_szSigned_n (a : GSigned) (left : Int) (hw : WSigned a) (h2 : 0 ≤ left) (h3 : left ≤ 1048576) (k) : call laws_szSigned [.agg (eSigned a), .one (I left)] k = k [I (szr (mSigned a) left)] := call_of (fun k => by
  obtain ⟨g0, g1⟩ := hw
  unfold mSigned
  simp only [laws_szSigned, un, cur0, laws_szHead_n a.Head (left) g0 h2 h3, binP_lss, iteP_eq, atP_zero, rt_eq, scs_sc, scs_nil, flat_int, true_and, and_true]
  by_cases c0 : ((mHead a.Head : Nat) : Int) ≤ left
  rotate_left
  · simp [szr_over c0, szr_not c0]
  simp only [szr_yes c0, szr_add c0, show ¬ (left - ((mHead a.Head : Nat) : Int) < 0) by omega, decide_false, Bool.false_eq_true, if_false, laws_szSigS_n a.Sigs (left - ((mHead a.Head : Nat) : Int)) g1 (by omega) (by omega), binP_lss, iteP_eq, atP_zero, rt_eq, scs_sc, scs_nil, flat_int, true_and, and_true]
  by_cases c1 : ((a.Sigs.length : Nat) : Int) ≤ left - ((mHead a.Head : Nat) : Int)
  rotate_left
  · simp [szr_not c1, szr_not c1]
  simp only [szr_yes c1, show ¬ (left - ((mHead a.Head : Nat) : Int) - ((a.Sigs.length : Nat) : Int) < 0) by omega, decide_false, Bool.false_eq_true, if_false, binP_lss, iteP_eq, atP_zero, rt_eq, scs_sc, scs_nil, flat_int, true_and, and_true]) k
theorem laws_toSigned_n (a : GSigned) (h : mSigned a ≤ 1048576) (k) : call laws_toSigned [.agg (eSigned a)] k = k (eSigned a) := call_of (fun k => by
  unfold mSigned at h
  simp [laws_toSigned, laws_toHead_n a.Head (by omega), laws_toSigS_n a.Sigs (by omega)]) k
theorem laws_eqSigned_n (a : GSigned) (h : mSigned a ≤ 1048576) (k) : call laws_eqSigned [.agg (eSigned a), .agg (eSigned a)] k = k [.bool true] := call_of (fun k => by
  unfold mSigned at h
  simp [laws_eqSigned, laws_eqHead_n a.Head (by omega), laws_eqSigS_n a.Sigs (by omega)]) k
structure GFork where
  Before : GSigned
  A : GSigned
  B : GSigned
abbrev eFork (a : GFork) : List PV := [I a.Before.Head.Zone, I a.Before.Head.Epoch, I a.Before.Head.Kind, I a.Before.Head.Time, I a.Before.Head.Until, I a.Before.Head.Count, I a.Before.Head.Root, I a.Before.Head.Prev, ints a.Before.Head.Keys.Lst, I a.Before.Head.Keys.Need, ints a.Before.Head.Heirs.Lst, I a.Before.Head.Heirs.Need, I a.Before.Head.Wait, ints a.Before.Head.Judge.Lst, I a.Before.Head.Judge.Need, .bool a.Before.Head.Frozen, .list 2 (a.Before.Sigs.map eSig), I a.A.Head.Zone, I a.A.Head.Epoch, I a.A.Head.Kind, I a.A.Head.Time, I a.A.Head.Until, I a.A.Head.Count, I a.A.Head.Root, I a.A.Head.Prev, ints a.A.Head.Keys.Lst, I a.A.Head.Keys.Need, ints a.A.Head.Heirs.Lst, I a.A.Head.Heirs.Need, I a.A.Head.Wait, ints a.A.Head.Judge.Lst, I a.A.Head.Judge.Need, .bool a.A.Head.Frozen, .list 2 (a.A.Sigs.map eSig), I a.B.Head.Zone, I a.B.Head.Epoch, I a.B.Head.Kind, I a.B.Head.Time, I a.B.Head.Until, I a.B.Head.Count, I a.B.Head.Root, I a.B.Head.Prev, ints a.B.Head.Keys.Lst, I a.B.Head.Keys.Need, ints a.B.Head.Heirs.Lst, I a.B.Head.Heirs.Need, I a.B.Head.Wait, ints a.B.Head.Judge.Lst, I a.B.Head.Judge.Need, .bool a.B.Head.Frozen, .list 2 (a.B.Sigs.map eSig)]
def mFork (a : GFork) : Nat := mSigned a.Before + (mSigned a.A + (mSigned a.B))
def WFork (a : GFork) : Prop := WSigned a.Before ∧ WSigned a.A ∧ WSigned a.B
theorem decFork (r : List PV) (hr : Sh.hasAll [.int .i64, .int .i64, .int .i64, .int .i64, .int .i64, .int .i64, .int .i64, .int .i64, .list [.int .i64], .int .i64, .list [.int .i64], .int .i64, .int .i64, .list [.int .i64], .int .i64, .bool, .list [.int .i64, .int .i64], .int .i64, .int .i64, .int .i64, .int .i64, .int .i64, .int .i64, .int .i64, .int .i64, .list [.int .i64], .int .i64, .list [.int .i64], .int .i64, .int .i64, .list [.int .i64], .int .i64, .bool, .list [.int .i64, .int .i64], .int .i64, .int .i64, .int .i64, .int .i64, .int .i64, .int .i64, .int .i64, .int .i64, .list [.int .i64], .int .i64, .list [.int .i64], .int .i64, .int .i64, .list [.int .i64], .int .i64, .bool, .list [.int .i64, .int .i64]] r) : ∃ a : GFork, r = eFork a ∧ WFork a := by
  obtain ⟨p1, r1, rfl, h1, hr1⟩ := all_cons hr
  obtain ⟨n1, rfl⟩ := has_int h1
  obtain ⟨p2, r2, rfl, h2, hr2⟩ := all_cons hr1
  obtain ⟨n2, rfl⟩ := has_int h2
  obtain ⟨p3, r3, rfl, h3, hr3⟩ := all_cons hr2
  obtain ⟨n3, rfl⟩ := has_int h3
  obtain ⟨p4, r4, rfl, h4, hr4⟩ := all_cons hr3
  obtain ⟨n4, rfl⟩ := has_int h4
  obtain ⟨p5, r5, rfl, h5, hr5⟩ := all_cons hr4
  obtain ⟨n5, rfl⟩ := has_int h5
  obtain ⟨p6, r6, rfl, h6, hr6⟩ := all_cons hr5
  obtain ⟨n6, rfl⟩ := has_int h6
  obtain ⟨p7, r7, rfl, h7, hr7⟩ := all_cons hr6
  obtain ⟨n7, rfl⟩ := has_int h7
  obtain ⟨p8, r8, rfl, h8, hr8⟩ := all_cons hr7
  obtain ⟨n8, rfl⟩ := has_int h8
  obtain ⟨p9, r9, rfl, h9, hr9⟩ := all_cons hr8
  obtain ⟨n9, rfl, g9⟩ := has_ints h9
  obtain ⟨p10, r10, rfl, h10, hr10⟩ := all_cons hr9
  obtain ⟨n10, rfl⟩ := has_int h10
  obtain ⟨p11, r11, rfl, h11, hr11⟩ := all_cons hr10
  obtain ⟨n11, rfl, g11⟩ := has_ints h11
  obtain ⟨p12, r12, rfl, h12, hr12⟩ := all_cons hr11
  obtain ⟨n12, rfl⟩ := has_int h12
  obtain ⟨p13, r13, rfl, h13, hr13⟩ := all_cons hr12
  obtain ⟨n13, rfl⟩ := has_int h13
  obtain ⟨p14, r14, rfl, h14, hr14⟩ := all_cons hr13
  obtain ⟨n14, rfl, g14⟩ := has_ints h14
  obtain ⟨p15, r15, rfl, h15, hr15⟩ := all_cons hr14
  obtain ⟨n15, rfl⟩ := has_int h15
  obtain ⟨p16, r16, rfl, h16, hr16⟩ := all_cons hr15
  obtain ⟨n16, rfl⟩ := has_bool h16
  obtain ⟨p17, r17, rfl, h17, hr17⟩ := all_cons hr16
  obtain ⟨n17, rfl, g17⟩ := decSigS h17
  obtain ⟨p18, r18, rfl, h18, hr18⟩ := all_cons hr17
  obtain ⟨n18, rfl⟩ := has_int h18
  obtain ⟨p19, r19, rfl, h19, hr19⟩ := all_cons hr18
  obtain ⟨n19, rfl⟩ := has_int h19
  obtain ⟨p20, r20, rfl, h20, hr20⟩ := all_cons hr19
  obtain ⟨n20, rfl⟩ := has_int h20
  obtain ⟨p21, r21, rfl, h21, hr21⟩ := all_cons hr20
  obtain ⟨n21, rfl⟩ := has_int h21
  obtain ⟨p22, r22, rfl, h22, hr22⟩ := all_cons hr21
  obtain ⟨n22, rfl⟩ := has_int h22
  obtain ⟨p23, r23, rfl, h23, hr23⟩ := all_cons hr22
  obtain ⟨n23, rfl⟩ := has_int h23
  obtain ⟨p24, r24, rfl, h24, hr24⟩ := all_cons hr23
  obtain ⟨n24, rfl⟩ := has_int h24
  obtain ⟨p25, r25, rfl, h25, hr25⟩ := all_cons hr24
  obtain ⟨n25, rfl⟩ := has_int h25
  obtain ⟨p26, r26, rfl, h26, hr26⟩ := all_cons hr25
  obtain ⟨n26, rfl, g26⟩ := has_ints h26
  obtain ⟨p27, r27, rfl, h27, hr27⟩ := all_cons hr26
  obtain ⟨n27, rfl⟩ := has_int h27
  obtain ⟨p28, r28, rfl, h28, hr28⟩ := all_cons hr27
  obtain ⟨n28, rfl, g28⟩ := has_ints h28
  obtain ⟨p29, r29, rfl, h29, hr29⟩ := all_cons hr28
  obtain ⟨n29, rfl⟩ := has_int h29
  obtain ⟨p30, r30, rfl, h30, hr30⟩ := all_cons hr29
  obtain ⟨n30, rfl⟩ := has_int h30
  obtain ⟨p31, r31, rfl, h31, hr31⟩ := all_cons hr30
  obtain ⟨n31, rfl, g31⟩ := has_ints h31
  obtain ⟨p32, r32, rfl, h32, hr32⟩ := all_cons hr31
  obtain ⟨n32, rfl⟩ := has_int h32
  obtain ⟨p33, r33, rfl, h33, hr33⟩ := all_cons hr32
  obtain ⟨n33, rfl⟩ := has_bool h33
  obtain ⟨p34, r34, rfl, h34, hr34⟩ := all_cons hr33
  obtain ⟨n34, rfl, g34⟩ := decSigS h34
  obtain ⟨p35, r35, rfl, h35, hr35⟩ := all_cons hr34
  obtain ⟨n35, rfl⟩ := has_int h35
  obtain ⟨p36, r36, rfl, h36, hr36⟩ := all_cons hr35
  obtain ⟨n36, rfl⟩ := has_int h36
  obtain ⟨p37, r37, rfl, h37, hr37⟩ := all_cons hr36
  obtain ⟨n37, rfl⟩ := has_int h37
  obtain ⟨p38, r38, rfl, h38, hr38⟩ := all_cons hr37
  obtain ⟨n38, rfl⟩ := has_int h38
  obtain ⟨p39, r39, rfl, h39, hr39⟩ := all_cons hr38
  obtain ⟨n39, rfl⟩ := has_int h39
  obtain ⟨p40, r40, rfl, h40, hr40⟩ := all_cons hr39
  obtain ⟨n40, rfl⟩ := has_int h40
  obtain ⟨p41, r41, rfl, h41, hr41⟩ := all_cons hr40
  obtain ⟨n41, rfl⟩ := has_int h41
  obtain ⟨p42, r42, rfl, h42, hr42⟩ := all_cons hr41
  obtain ⟨n42, rfl⟩ := has_int h42
  obtain ⟨p43, r43, rfl, h43, hr43⟩ := all_cons hr42
  obtain ⟨n43, rfl, g43⟩ := has_ints h43
  obtain ⟨p44, r44, rfl, h44, hr44⟩ := all_cons hr43
  obtain ⟨n44, rfl⟩ := has_int h44
  obtain ⟨p45, r45, rfl, h45, hr45⟩ := all_cons hr44
  obtain ⟨n45, rfl, g45⟩ := has_ints h45
  obtain ⟨p46, r46, rfl, h46, hr46⟩ := all_cons hr45
  obtain ⟨n46, rfl⟩ := has_int h46
  obtain ⟨p47, r47, rfl, h47, hr47⟩ := all_cons hr46
  obtain ⟨n47, rfl⟩ := has_int h47
  obtain ⟨p48, r48, rfl, h48, hr48⟩ := all_cons hr47
  obtain ⟨n48, rfl, g48⟩ := has_ints h48
  obtain ⟨p49, r49, rfl, h49, hr49⟩ := all_cons hr48
  obtain ⟨n49, rfl⟩ := has_int h49
  obtain ⟨p50, r50, rfl, h50, hr50⟩ := all_cons hr49
  obtain ⟨n50, rfl⟩ := has_bool h50
  obtain ⟨p51, rfl, h51⟩ := all_one hr50
  obtain ⟨n51, rfl, g51⟩ := decSigS h51
  exact ⟨⟨⟨⟨n1, n2, n3, n4, n5, n6, n7, n8, ⟨n9, n10⟩, ⟨n11, n12⟩, n13, ⟨n14, n15⟩, n16⟩, n17⟩, ⟨⟨n18, n19, n20, n21, n22, n23, n24, n25, ⟨n26, n27⟩, ⟨n28, n29⟩, n30, ⟨n31, n32⟩, n33⟩, n34⟩, ⟨⟨n35, n36, n37, n38, n39, n40, n41, n42, ⟨n43, n44⟩, ⟨n45, n46⟩, n47, ⟨n48, n49⟩, n50⟩, n51⟩⟩, rfl, ⟨⟨⟨g9, g11, g14⟩, g17⟩, ⟨⟨g26, g28, g31⟩, g34⟩, ⟨⟨g43, g45, g48⟩, g51⟩⟩⟩
theorem laws_szFork_n (a : GFork) (left : Int) (hw : WFork a) (h2 : 0 ≤ left) (h3 : left ≤ 1048576) (k) : call laws_szFork [.agg (eFork a), .one (I left)] k = k [I (szr (mFork a) left)] := call_of (fun k => by
  obtain ⟨g0, g1, g2⟩ := hw
  unfold mFork
  simp only [laws_szFork, un, cur0, laws_szSigned_n a.Before (left) g0 h2 h3, binP_lss, iteP_eq, atP_zero, rt_eq, scs_sc, scs_nil, flat_int, true_and, and_true]
  by_cases c0 : ((mSigned a.Before : Nat) : Int) ≤ left
  rotate_left
  · simp [szr_over c0, szr_not c0]
  simp only [szr_yes c0, szr_add c0, show ¬ (left - ((mSigned a.Before : Nat) : Int) < 0) by omega, decide_false, Bool.false_eq_true, if_false, laws_szSigned_n a.A (left - ((mSigned a.Before : Nat) : Int)) g1 (by omega) (by omega), binP_lss, iteP_eq, atP_zero, rt_eq, scs_sc, scs_nil, flat_int, true_and, and_true]
  by_cases c1 : ((mSigned a.A : Nat) : Int) ≤ left - ((mSigned a.Before : Nat) : Int)
  rotate_left
  · simp [szr_over c1, szr_not c1]
  simp only [szr_yes c1, szr_add c1, show ¬ (left - ((mSigned a.Before : Nat) : Int) - ((mSigned a.A : Nat) : Int) < 0) by omega, decide_false, Bool.false_eq_true, if_false, laws_szSigned_n a.B (left - ((mSigned a.Before : Nat) : Int) - ((mSigned a.A : Nat) : Int)) g2 (by omega) (by omega), binP_lss, iteP_eq, atP_zero, rt_eq, scs_sc, scs_nil, flat_int, true_and, and_true]
  by_cases c2 : ((mSigned a.B : Nat) : Int) ≤ left - ((mSigned a.Before : Nat) : Int) - ((mSigned a.A : Nat) : Int)
  rotate_left
  · simp [szr_not c2, szr_not c2]
  simp only [szr_yes c2, show ¬ (left - ((mSigned a.Before : Nat) : Int) - ((mSigned a.A : Nat) : Int) - ((mSigned a.B : Nat) : Int) < 0) by omega, decide_false, Bool.false_eq_true, if_false, binP_lss, iteP_eq, atP_zero, rt_eq, scs_sc, scs_nil, flat_int, true_and, and_true]) k
theorem laws_toFork_n (a : GFork) (h : mFork a ≤ 1048576) (k) : call laws_toFork [.agg (eFork a)] k = k (eFork a) := call_of (fun k => by
  unfold mFork at h
  simp [laws_toFork, laws_toSigned_n a.Before (by omega), laws_toSigned_n a.A (by omega), laws_toSigned_n a.B (by omega)]) k
theorem laws_eqFork_n (a : GFork) (h : mFork a ≤ 1048576) (k) : call laws_eqFork [.agg (eFork a), .agg (eFork a)] k = k [.bool true] := call_of (fun k => by
  unfold mFork at h
  simp [laws_eqFork, laws_eqSigned_n a.Before (by omega), laws_eqSigned_n a.A (by omega), laws_eqSigned_n a.B (by omega)]) k
def mSignedS (l : List GSigned) : Nat := l.length + sumN mSigned l
theorem decSignedS {p : PV} (h : Sh.has (.list [.int .i64, .int .i64, .int .i64, .int .i64, .int .i64, .int .i64, .int .i64, .int .i64, .list [.int .i64], .int .i64, .list [.int .i64], .int .i64, .int .i64, .list [.int .i64], .int .i64, .bool, .list [.int .i64, .int .i64]]) p) : ∃ l : List GSigned, p = .list 17 (l.map eSigned) ∧ (l.length ≤ maxLen ∧ ∀ y ∈ l, WSigned y) := by
  obtain ⟨l, h1, h2, h3⟩ := has_map decSigned 17 rfl h
  exact ⟨l, h1, h2, h3⟩
theorem laws_szSignedS_n (l : List GSigned) (left : Int) (hw : (l.length ≤ maxLen ∧ ∀ y ∈ l, WSigned y)) (h2 : 0 ≤ left) (h3 : left ≤ 1048576) (k) : call laws_szSignedS [.one (.list 17 (l.map eSigned)), .one (I left)] k = k [I (szr (mSignedS l) left)] := call_of (fun k => by
  simp only [laws_szSignedS, lenP_eq, List.length_map, binP_sub, wr_left hw.1 h2 h3, binP_lss, iteP_eq, rt_eq, scs_sc, scs_nil, flat_int, true_and, and_true]
  unfold mSignedS
  by_cases c : (l.length : Int) ≤ left
  rotate_left
  · simp [szr_over c, show left - (l.length : Int) < 0 by omega]
  simp only [szr_add c, show ¬ (left - (l.length : Int) < 0) by omega, decide_false, Bool.false_eq_true, if_false]
  refine (lp_sz (neg := k [I (-1)]) (fin := fun t => k [I t]) l eSigned 17 mSigned (left - (l.length : Int)) (I 0) (by omega) (by omega) rfl (fun i x hx hi t ht1 ht2 K => ?_) fun t K => ?_).trans ?_
  · have e := laws_szSigned_n x t (hw.2 x (List.mem_of_getElem? hx)) ht1 ht2
    simp [-getElem?_pos, laws_szSignedS_r0, hx, hi, e, wr_succ (show i < 1000000000000000000 by omega)]
    by_cases hs : ((mSigned x : Nat) : Int) ≤ t
    · simp [szr_yes hs, hs, show ¬ (t - ((mSigned x : Nat) : Int) < 0) by omega]
    · simp [szr_not hs, hs]
  · simp [laws_szSignedS_r0]
  · by_cases hs : ((sumN mSigned l : Nat) : Int) ≤ left - (l.length : Int)
    · simp [szr_yes hs, hs]
    · simp [szr_not hs, hs]) k
theorem laws_toSignedS_n (l : List GSigned) (h : mSignedS l ≤ 1048576) (k) : call laws_toSignedS [.one (.list 17 (l.map eSigned))] k = k [.list 17 (l.map eSigned)] := call_of (fun k => by
  have hm := h
  unfold mSignedS at hm
  simp [laws_toSignedS, show l.length < 1073741824 by omega]
  refine lp_toS l eSigned eSigned [I 0, I 0, I 0, I 0, I 0, I 0, I 0, I 0, .list 1 [], I 0, .list 1 [], I 0, I 0, .list 1 [], I 0, .bool false, .list 2 []] 17 17 (.list 17 []) rfl (fun i x hx hi K rows hr hz => ?_) fun K => ?_
  · have hs : mSigned x ≤ sumN mSigned l := sumN_mem (s := mSigned) (List.mem_of_getElem? hx)
    simp [-getElem?_pos, laws_toSignedS_r0, hx, hi, hr, hz, over, laws_toSigned_n x (by omega), wr_succ (show i < 1000000000000000000 by omega)]
  · simp [laws_toSignedS_r0]) k
theorem laws_eqSignedS_n (l : List GSigned) (h : mSignedS l ≤ 1048576) (k) : call laws_eqSignedS [.one (.list 17 (l.map eSigned)), .one (.list 17 (l.map eSigned))] k = k [.bool true] := call_of (fun k => by
  have hm := h
  unfold mSignedS at hm
  simp [laws_eqSignedS]
  refine lp_eqS l eSigned 17 (.bool false) rfl (fun i x hx hi K => ?_) fun K => ?_
  · have hs : mSigned x ≤ sumN mSigned l := sumN_mem (s := mSigned) (List.mem_of_getElem? hx)
    simp [-getElem?_pos, laws_eqSignedS_r0, hx, hi, laws_eqSigned_n x (by omega), wr_succ (show i < 1000000000000000000 by omega)]
  · simp [laws_eqSignedS_r0]) k
def mEntryS (l : List GEntry) : Nat := l.length + sumN mEntry l
theorem decEntryS {p : PV} (h : Sh.has (.list [.str, .int .i64, .int .i64, .list [.str]]) p) : ∃ l : List GEntry, p = .list 4 (l.map eEntry) ∧ (l.length ≤ maxLen ∧ ∀ y ∈ l, WEntry y) := by
  obtain ⟨l, h1, h2, h3⟩ := has_map decEntry 4 rfl h
  exact ⟨l, h1, h2, h3⟩
theorem laws_szEntryS_n (l : List GEntry) (left : Int) (hw : (l.length ≤ maxLen ∧ ∀ y ∈ l, WEntry y)) (h2 : 0 ≤ left) (h3 : left ≤ 1048576) (k) : call laws_szEntryS [.one (.list 4 (l.map eEntry)), .one (I left)] k = k [I (szr (mEntryS l) left)] := call_of (fun k => by
  simp only [laws_szEntryS, lenP_eq, List.length_map, binP_sub, wr_left hw.1 h2 h3, binP_lss, iteP_eq, rt_eq, scs_sc, scs_nil, flat_int, true_and, and_true]
  unfold mEntryS
  by_cases c : (l.length : Int) ≤ left
  rotate_left
  · simp [szr_over c, show left - (l.length : Int) < 0 by omega]
  simp only [szr_add c, show ¬ (left - (l.length : Int) < 0) by omega, decide_false, Bool.false_eq_true, if_false]
  refine (lp_sz (neg := k [I (-1)]) (fin := fun t => k [I t]) l eEntry 4 mEntry (left - (l.length : Int)) (I 0) (by omega) (by omega) rfl (fun i x hx hi t ht1 ht2 K => ?_) fun t K => ?_).trans ?_
  · have e := laws_szEntry_n x t (hw.2 x (List.mem_of_getElem? hx)) ht1 ht2
    simp [-getElem?_pos, laws_szEntryS_r0, hx, hi, e, wr_succ (show i < 1000000000000000000 by omega)]
    by_cases hs : ((mEntry x : Nat) : Int) ≤ t
    · simp [szr_yes hs, hs, show ¬ (t - ((mEntry x : Nat) : Int) < 0) by omega]
    · simp [szr_not hs, hs]
  · simp [laws_szEntryS_r0]
  · by_cases hs : ((sumN mEntry l : Nat) : Int) ≤ left - (l.length : Int)
    · simp [szr_yes hs, hs]
    · simp [szr_not hs, hs]) k
theorem laws_toEntryS_n (l : List GEntry) (h : mEntryS l ≤ 1048576) (k) : call laws_toEntryS [.one (.list 4 (l.map eEntry))] k = k [.list 4 (l.map eEntry)] := call_of (fun k => by
  have hm := h
  unfold mEntryS at hm
  simp [laws_toEntryS, show l.length < 1073741824 by omega]
  refine lp_toS l eEntry eEntry [.str ⟨#[]⟩, I 0, I 0, .list 1 []] 4 4 (.list 4 []) rfl (fun i x hx hi K rows hr hz => ?_) fun K => ?_
  · have hs : mEntry x ≤ sumN mEntry l := sumN_mem (s := mEntry) (List.mem_of_getElem? hx)
    simp [-getElem?_pos, laws_toEntryS_r0, hx, hi, hr, hz, over, laws_toEntry_n x (by omega), wr_succ (show i < 1000000000000000000 by omega)]
  · simp [laws_toEntryS_r0]) k
theorem laws_eqEntryS_n (l : List GEntry) (h : mEntryS l ≤ 1048576) (k) : call laws_eqEntryS [.one (.list 4 (l.map eEntry)), .one (.list 4 (l.map eEntry))] k = k [.bool true] := call_of (fun k => by
  have hm := h
  unfold mEntryS at hm
  simp [laws_eqEntryS]
  refine lp_eqS l eEntry 4 (.bool false) rfl (fun i x hx hi K => ?_) fun K => ?_
  · have hs : mEntry x ≤ sumN mEntry l := sumN_mem (s := mEntry) (List.mem_of_getElem? hx)
    simp [-getElem?_pos, laws_eqEntryS_r0, hx, hi, laws_eqEntry_n x (by omega), wr_succ (show i < 1000000000000000000 by omega)]
  · simp [laws_eqEntryS_r0]) k
structure GZone where
  Chain : List GSigned
  Entries : List GEntry
abbrev eZone (a : GZone) : List PV := [.list 17 (a.Chain.map eSigned), .list 4 (a.Entries.map eEntry)]
def mZone (a : GZone) : Nat := mSignedS a.Chain + (mEntryS a.Entries)
def WZone (a : GZone) : Prop := (a.Chain.length ≤ maxLen ∧ ∀ y ∈ a.Chain, WSigned y) ∧ (a.Entries.length ≤ maxLen ∧ ∀ y ∈ a.Entries, WEntry y)
theorem decZone (r : List PV) (hr : Sh.hasAll [.list [.int .i64, .int .i64, .int .i64, .int .i64, .int .i64, .int .i64, .int .i64, .int .i64, .list [.int .i64], .int .i64, .list [.int .i64], .int .i64, .int .i64, .list [.int .i64], .int .i64, .bool, .list [.int .i64, .int .i64]], .list [.str, .int .i64, .int .i64, .list [.str]]] r) : ∃ a : GZone, r = eZone a ∧ WZone a := by
  obtain ⟨p1, r1, rfl, h1, hr1⟩ := all_cons hr
  obtain ⟨n1, rfl, g1⟩ := decSignedS h1
  obtain ⟨p2, rfl, h2⟩ := all_one hr1
  obtain ⟨n2, rfl, g2⟩ := decEntryS h2
  exact ⟨⟨n1, n2⟩, rfl, ⟨g1, g2⟩⟩
theorem laws_szZone_n (a : GZone) (left : Int) (hw : WZone a) (h2 : 0 ≤ left) (h3 : left ≤ 1048576) (k) : call laws_szZone [.agg (eZone a), .one (I left)] k = k [I (szr (mZone a) left)] := call_of (fun k => by
  obtain ⟨g0, g1⟩ := hw
  unfold mZone
  simp only [laws_szZone, un, cur0, laws_szSignedS_n a.Chain (left) g0 h2 h3, binP_lss, iteP_eq, atP_zero, rt_eq, scs_sc, scs_nil, flat_int, true_and, and_true]
  by_cases c0 : ((mSignedS a.Chain : Nat) : Int) ≤ left
  rotate_left
  · simp [szr_over c0, szr_not c0]
  simp only [szr_yes c0, szr_add c0, show ¬ (left - ((mSignedS a.Chain : Nat) : Int) < 0) by omega, decide_false, Bool.false_eq_true, if_false, laws_szEntryS_n a.Entries (left - ((mSignedS a.Chain : Nat) : Int)) g1 (by omega) (by omega), binP_lss, iteP_eq, atP_zero, rt_eq, scs_sc, scs_nil, flat_int, true_and, and_true]
  by_cases c1 : ((mEntryS a.Entries : Nat) : Int) ≤ left - ((mSignedS a.Chain : Nat) : Int)
  rotate_left
  · simp [szr_not c1, szr_not c1]
  simp only [szr_yes c1, show ¬ (left - ((mSignedS a.Chain : Nat) : Int) - ((mEntryS a.Entries : Nat) : Int) < 0) by omega, decide_false, Bool.false_eq_true, if_false, binP_lss, iteP_eq, atP_zero, rt_eq, scs_sc, scs_nil, flat_int, true_and, and_true]) k
theorem laws_toZone_n (a : GZone) (h : mZone a ≤ 1048576) (k) : call laws_toZone [.agg (eZone a)] k = k (eZone a) := call_of (fun k => by
  unfold mZone at h
  simp [laws_toZone, laws_toSignedS_n a.Chain (by omega), laws_toEntryS_n a.Entries (by omega)]) k
theorem laws_eqZone_n (a : GZone) (h : mZone a ≤ 1048576) (k) : call laws_eqZone [.agg (eZone a), .agg (eZone a)] k = k [.bool true] := call_of (fun k => by
  unfold mZone at h
  simp [laws_eqZone, laws_eqSignedS_n a.Chain (by omega), laws_eqEntryS_n a.Entries (by omega)]) k
structure GAnswer where
  Chain : List GSigned
  Found : Bool
  Entry : GEntry
  Proof : GProof
  Gap : GGap
abbrev eAnswer (a : GAnswer) : List PV := [.list 17 (a.Chain.map eSigned), .bool a.Found, .str a.Entry.Label, I a.Entry.Kind, I a.Entry.Value, strs a.Entry.Path, I a.Proof.At, ints a.Proof.Path, I a.Gap.At, .str a.Gap.Before.Label, I a.Gap.Before.Kind, I a.Gap.Before.Value, strs a.Gap.Before.Path, .str a.Gap.After.Label, I a.Gap.After.Kind, I a.Gap.After.Value, strs a.Gap.After.Path, I a.Gap.Left.At, ints a.Gap.Left.Path, I a.Gap.Right.At, ints a.Gap.Right.Path]
def mAnswer (a : GAnswer) : Nat := mSignedS a.Chain + (mEntry a.Entry + (mProof a.Proof + (mGap a.Gap)))
def WAnswer (a : GAnswer) : Prop := (a.Chain.length ≤ maxLen ∧ ∀ y ∈ a.Chain, WSigned y) ∧ WEntry a.Entry ∧ WProof a.Proof ∧ WGap a.Gap
theorem decAnswer (r : List PV) (hr : Sh.hasAll [.list [.int .i64, .int .i64, .int .i64, .int .i64, .int .i64, .int .i64, .int .i64, .int .i64, .list [.int .i64], .int .i64, .list [.int .i64], .int .i64, .int .i64, .list [.int .i64], .int .i64, .bool, .list [.int .i64, .int .i64]], .bool, .str, .int .i64, .int .i64, .list [.str], .int .i64, .list [.int .i64], .int .i64, .str, .int .i64, .int .i64, .list [.str], .str, .int .i64, .int .i64, .list [.str], .int .i64, .list [.int .i64], .int .i64, .list [.int .i64]] r) : ∃ a : GAnswer, r = eAnswer a ∧ WAnswer a := by
  obtain ⟨p1, r1, rfl, h1, hr1⟩ := all_cons hr
  obtain ⟨n1, rfl, g1⟩ := decSignedS h1
  obtain ⟨p2, r2, rfl, h2, hr2⟩ := all_cons hr1
  obtain ⟨n2, rfl⟩ := has_bool h2
  obtain ⟨p3, r3, rfl, h3, hr3⟩ := all_cons hr2
  obtain ⟨n3, rfl, g3⟩ := has_str h3
  obtain ⟨p4, r4, rfl, h4, hr4⟩ := all_cons hr3
  obtain ⟨n4, rfl⟩ := has_int h4
  obtain ⟨p5, r5, rfl, h5, hr5⟩ := all_cons hr4
  obtain ⟨n5, rfl⟩ := has_int h5
  obtain ⟨p6, r6, rfl, h6, hr6⟩ := all_cons hr5
  obtain ⟨n6, rfl, g6⟩ := has_strs h6
  obtain ⟨p7, r7, rfl, h7, hr7⟩ := all_cons hr6
  obtain ⟨n7, rfl⟩ := has_int h7
  obtain ⟨p8, r8, rfl, h8, hr8⟩ := all_cons hr7
  obtain ⟨n8, rfl, g8⟩ := has_ints h8
  obtain ⟨p9, r9, rfl, h9, hr9⟩ := all_cons hr8
  obtain ⟨n9, rfl⟩ := has_int h9
  obtain ⟨p10, r10, rfl, h10, hr10⟩ := all_cons hr9
  obtain ⟨n10, rfl, g10⟩ := has_str h10
  obtain ⟨p11, r11, rfl, h11, hr11⟩ := all_cons hr10
  obtain ⟨n11, rfl⟩ := has_int h11
  obtain ⟨p12, r12, rfl, h12, hr12⟩ := all_cons hr11
  obtain ⟨n12, rfl⟩ := has_int h12
  obtain ⟨p13, r13, rfl, h13, hr13⟩ := all_cons hr12
  obtain ⟨n13, rfl, g13⟩ := has_strs h13
  obtain ⟨p14, r14, rfl, h14, hr14⟩ := all_cons hr13
  obtain ⟨n14, rfl, g14⟩ := has_str h14
  obtain ⟨p15, r15, rfl, h15, hr15⟩ := all_cons hr14
  obtain ⟨n15, rfl⟩ := has_int h15
  obtain ⟨p16, r16, rfl, h16, hr16⟩ := all_cons hr15
  obtain ⟨n16, rfl⟩ := has_int h16
  obtain ⟨p17, r17, rfl, h17, hr17⟩ := all_cons hr16
  obtain ⟨n17, rfl, g17⟩ := has_strs h17
  obtain ⟨p18, r18, rfl, h18, hr18⟩ := all_cons hr17
  obtain ⟨n18, rfl⟩ := has_int h18
  obtain ⟨p19, r19, rfl, h19, hr19⟩ := all_cons hr18
  obtain ⟨n19, rfl, g19⟩ := has_ints h19
  obtain ⟨p20, r20, rfl, h20, hr20⟩ := all_cons hr19
  obtain ⟨n20, rfl⟩ := has_int h20
  obtain ⟨p21, rfl, h21⟩ := all_one hr20
  obtain ⟨n21, rfl, g21⟩ := has_ints h21
  exact ⟨⟨n1, n2, ⟨n3, n4, n5, n6⟩, ⟨n7, n8⟩, ⟨n9, ⟨n10, n11, n12, n13⟩, ⟨n14, n15, n16, n17⟩, ⟨n18, n19⟩, ⟨n20, n21⟩⟩⟩, rfl, ⟨g1, ⟨g3, g6⟩, g8, ⟨⟨g10, g13⟩, ⟨g14, g17⟩, g19, g21⟩⟩⟩
theorem laws_szAnswer_n (a : GAnswer) (left : Int) (hw : WAnswer a) (h2 : 0 ≤ left) (h3 : left ≤ 1048576) (k) : call laws_szAnswer [.agg (eAnswer a), .one (I left)] k = k [I (szr (mAnswer a) left)] := call_of (fun k => by
  obtain ⟨g0, g1, g2, g3⟩ := hw
  unfold mAnswer
  simp only [laws_szAnswer, un, cur0, laws_szSignedS_n a.Chain (left) g0 h2 h3, binP_lss, iteP_eq, atP_zero, rt_eq, scs_sc, scs_nil, flat_int, true_and, and_true]
  by_cases c0 : ((mSignedS a.Chain : Nat) : Int) ≤ left
  rotate_left
  · simp [szr_over c0, szr_not c0]
  simp only [szr_yes c0, szr_add c0, show ¬ (left - ((mSignedS a.Chain : Nat) : Int) < 0) by omega, decide_false, Bool.false_eq_true, if_false, laws_szEntry_n a.Entry (left - ((mSignedS a.Chain : Nat) : Int)) g1 (by omega) (by omega), binP_lss, iteP_eq, atP_zero, rt_eq, scs_sc, scs_nil, flat_int, true_and, and_true]
  by_cases c1 : ((mEntry a.Entry : Nat) : Int) ≤ left - ((mSignedS a.Chain : Nat) : Int)
  rotate_left
  · simp [szr_over c1, szr_not c1]
  simp only [szr_yes c1, szr_add c1, show ¬ (left - ((mSignedS a.Chain : Nat) : Int) - ((mEntry a.Entry : Nat) : Int) < 0) by omega, decide_false, Bool.false_eq_true, if_false, laws_szProof_n a.Proof (left - ((mSignedS a.Chain : Nat) : Int) - ((mEntry a.Entry : Nat) : Int)) g2 (by omega) (by omega), binP_lss, iteP_eq, atP_zero, rt_eq, scs_sc, scs_nil, flat_int, true_and, and_true]
  by_cases c2 : ((mProof a.Proof : Nat) : Int) ≤ left - ((mSignedS a.Chain : Nat) : Int) - ((mEntry a.Entry : Nat) : Int)
  rotate_left
  · simp [szr_over c2, szr_not c2]
  simp only [szr_yes c2, szr_add c2, show ¬ (left - ((mSignedS a.Chain : Nat) : Int) - ((mEntry a.Entry : Nat) : Int) - ((mProof a.Proof : Nat) : Int) < 0) by omega, decide_false, Bool.false_eq_true, if_false, laws_szGap_n a.Gap (left - ((mSignedS a.Chain : Nat) : Int) - ((mEntry a.Entry : Nat) : Int) - ((mProof a.Proof : Nat) : Int)) g3 (by omega) (by omega), binP_lss, iteP_eq, atP_zero, rt_eq, scs_sc, scs_nil, flat_int, true_and, and_true]
  by_cases c3 : ((mGap a.Gap : Nat) : Int) ≤ left - ((mSignedS a.Chain : Nat) : Int) - ((mEntry a.Entry : Nat) : Int) - ((mProof a.Proof : Nat) : Int)
  rotate_left
  · simp [szr_not c3, szr_not c3]
  simp only [szr_yes c3, show ¬ (left - ((mSignedS a.Chain : Nat) : Int) - ((mEntry a.Entry : Nat) : Int) - ((mProof a.Proof : Nat) : Int) - ((mGap a.Gap : Nat) : Int) < 0) by omega, decide_false, Bool.false_eq_true, if_false, binP_lss, iteP_eq, atP_zero, rt_eq, scs_sc, scs_nil, flat_int, true_and, and_true]) k
theorem laws_toAnswer_n (a : GAnswer) (h : mAnswer a ≤ 1048576) (k) : call laws_toAnswer [.agg (eAnswer a)] k = k (eAnswer a) := call_of (fun k => by
  unfold mAnswer at h
  simp [laws_toAnswer, laws_toSignedS_n a.Chain (by omega), laws_toEntry_n a.Entry (by omega), laws_toProof_n a.Proof (by omega), laws_toGap_n a.Gap (by omega)]) k
theorem laws_eqAnswer_n (a : GAnswer) (h : mAnswer a ≤ 1048576) (k) : call laws_eqAnswer [.agg (eAnswer a), .agg (eAnswer a)] k = k [.bool true] := call_of (fun k => by
  unfold mAnswer at h
  simp [laws_eqAnswer, laws_eqSignedS_n a.Chain (by omega), laws_eqEntry_n a.Entry (by omega), laws_eqProof_n a.Proof (by omega), laws_eqGap_n a.Gap (by omega)]) k
def mSignedSS (l : List (List GSigned)) : Nat := l.length + sumN mSignedS l
theorem decSignedSS {p : PV} (h : Sh.has (.list [.list [.int .i64, .int .i64, .int .i64, .int .i64, .int .i64, .int .i64, .int .i64, .int .i64, .list [.int .i64], .int .i64, .list [.int .i64], .int .i64, .int .i64, .list [.int .i64], .int .i64, .bool, .list [.int .i64, .int .i64]]]) p) : ∃ l : List (List GSigned), p = .list 1 (l.map (fun l : List GSigned => [.list 17 (l.map eSigned)])) ∧ (l.length ≤ maxLen ∧ ∀ y ∈ l, (y.length ≤ maxLen ∧ ∀ z ∈ y, WSigned z)) := by
  obtain ⟨l, h1, h2, h3⟩ := has_map (enc := (fun l : List GSigned => [.list 17 (l.map eSigned)])) (wf := fun y => (y.length ≤ maxLen ∧ ∀ z ∈ y, WSigned z)) (fun r hr => by
    obtain ⟨p, rfl, h⟩ := all_one hr
    obtain ⟨m, rfl, g⟩ := decSignedS h
    exact ⟨m, rfl, g⟩) 1 rfl h
  exact ⟨l, h1, h2, h3⟩
theorem laws_szSignedSS_n (l : List (List GSigned)) (left : Int) (hw : (l.length ≤ maxLen ∧ ∀ y ∈ l, (y.length ≤ maxLen ∧ ∀ z ∈ y, WSigned z))) (h2 : 0 ≤ left) (h3 : left ≤ 1048576) (k) : call laws_szSignedSS [.one (.list 1 (l.map (fun l : List GSigned => [.list 17 (l.map eSigned)]))), .one (I left)] k = k [I (szr (mSignedSS l) left)] := call_of (fun k => by
  simp only [laws_szSignedSS, lenP_eq, List.length_map, binP_sub, wr_left hw.1 h2 h3, binP_lss, iteP_eq, rt_eq, scs_sc, scs_nil, flat_int, true_and, and_true]
  unfold mSignedSS
  by_cases c : (l.length : Int) ≤ left
  rotate_left
  · simp [szr_over c, show left - (l.length : Int) < 0 by omega]
  simp only [szr_add c, show ¬ (left - (l.length : Int) < 0) by omega, decide_false, Bool.false_eq_true, if_false]
  refine (lp_sz (neg := k [I (-1)]) (fin := fun t => k [I t]) l (fun l : List GSigned => [.list 17 (l.map eSigned)]) 1 mSignedS (left - (l.length : Int)) (I 0) (by omega) (by omega) rfl (fun i x hx hi t ht1 ht2 K => ?_) fun t K => ?_).trans ?_
  · have e := laws_szSignedS_n x t (hw.2 x (List.mem_of_getElem? hx)) ht1 ht2
    simp [-getElem?_pos, laws_szSignedSS_r0, hx, hi, e, wr_succ (show i < 1000000000000000000 by omega)]
    by_cases hs : ((mSignedS x : Nat) : Int) ≤ t
    · simp [szr_yes hs, hs, show ¬ (t - ((mSignedS x : Nat) : Int) < 0) by omega]
    · simp [szr_not hs, hs]
  · simp [laws_szSignedSS_r0]
  · by_cases hs : ((sumN mSignedS l : Nat) : Int) ≤ left - (l.length : Int)
    · simp [szr_yes hs, hs]
    · simp [szr_not hs, hs]) k
theorem laws_toSignedSS_n (l : List (List GSigned)) (h : mSignedSS l ≤ 1048576) (k) : call laws_toSignedSS [.one (.list 1 (l.map (fun l : List GSigned => [.list 17 (l.map eSigned)])))] k = k [.list 1 (l.map (fun l : List GSigned => [.list 17 (l.map eSigned)]))] := call_of (fun k => by
  have hm := h
  unfold mSignedSS at hm
  simp [laws_toSignedSS, show l.length < 1073741824 by omega]
  refine lp_toS l (fun l : List GSigned => [.list 17 (l.map eSigned)]) (fun l : List GSigned => [.list 17 (l.map eSigned)]) [.list 17 []] 1 1 (.list 1 []) rfl (fun i x hx hi K rows hr hz => ?_) fun K => ?_
  · have hs : mSignedS x ≤ sumN mSignedS l := sumN_mem (s := mSignedS) (List.mem_of_getElem? hx)
    simp [-getElem?_pos, laws_toSignedSS_r0, hx, hi, hr, hz, over, laws_toSignedS_n x (by omega), wr_succ (show i < 1000000000000000000 by omega)]
  · simp [laws_toSignedSS_r0]) k
theorem laws_eqSignedSS_n (l : List (List GSigned)) (h : mSignedSS l ≤ 1048576) (k) : call laws_eqSignedSS [.one (.list 1 (l.map (fun l : List GSigned => [.list 17 (l.map eSigned)]))), .one (.list 1 (l.map (fun l : List GSigned => [.list 17 (l.map eSigned)])))] k = k [.bool true] := call_of (fun k => by
  have hm := h
  unfold mSignedSS at hm
  simp [laws_eqSignedSS]
  refine lp_eqS l (fun l : List GSigned => [.list 17 (l.map eSigned)]) 1 (.bool false) rfl (fun i x hx hi K => ?_) fun K => ?_
  · have hs : mSignedS x ≤ sumN mSignedS l := sumN_mem (s := mSignedS) (List.mem_of_getElem? hx)
    simp [-getElem?_pos, laws_eqSignedSS_r0, hx, hi, laws_eqSignedS_n x (by omega), wr_succ (show i < 1000000000000000000 by omega)]
  · simp [laws_eqSignedSS_r0]) k
def mForkS (l : List GFork) : Nat := l.length + sumN mFork l
theorem decForkS {p : PV} (h : Sh.has (.list [.int .i64, .int .i64, .int .i64, .int .i64, .int .i64, .int .i64, .int .i64, .int .i64, .list [.int .i64], .int .i64, .list [.int .i64], .int .i64, .int .i64, .list [.int .i64], .int .i64, .bool, .list [.int .i64, .int .i64], .int .i64, .int .i64, .int .i64, .int .i64, .int .i64, .int .i64, .int .i64, .int .i64, .list [.int .i64], .int .i64, .list [.int .i64], .int .i64, .int .i64, .list [.int .i64], .int .i64, .bool, .list [.int .i64, .int .i64], .int .i64, .int .i64, .int .i64, .int .i64, .int .i64, .int .i64, .int .i64, .int .i64, .list [.int .i64], .int .i64, .list [.int .i64], .int .i64, .int .i64, .list [.int .i64], .int .i64, .bool, .list [.int .i64, .int .i64]]) p) : ∃ l : List GFork, p = .list 51 (l.map eFork) ∧ (l.length ≤ maxLen ∧ ∀ y ∈ l, WFork y) := by
  obtain ⟨l, h1, h2, h3⟩ := has_map decFork 51 rfl h
  exact ⟨l, h1, h2, h3⟩
theorem laws_szForkS_n (l : List GFork) (left : Int) (hw : (l.length ≤ maxLen ∧ ∀ y ∈ l, WFork y)) (h2 : 0 ≤ left) (h3 : left ≤ 1048576) (k) : call laws_szForkS [.one (.list 51 (l.map eFork)), .one (I left)] k = k [I (szr (mForkS l) left)] := call_of (fun k => by
  simp only [laws_szForkS, lenP_eq, List.length_map, binP_sub, wr_left hw.1 h2 h3, binP_lss, iteP_eq, rt_eq, scs_sc, scs_nil, flat_int, true_and, and_true]
  unfold mForkS
  by_cases c : (l.length : Int) ≤ left
  rotate_left
  · simp [szr_over c, show left - (l.length : Int) < 0 by omega]
  simp only [szr_add c, show ¬ (left - (l.length : Int) < 0) by omega, decide_false, Bool.false_eq_true, if_false]
  refine (lp_sz (neg := k [I (-1)]) (fin := fun t => k [I t]) l eFork 51 mFork (left - (l.length : Int)) (I 0) (by omega) (by omega) rfl (fun i x hx hi t ht1 ht2 K => ?_) fun t K => ?_).trans ?_
  · have e := laws_szFork_n x t (hw.2 x (List.mem_of_getElem? hx)) ht1 ht2
    simp [-getElem?_pos, laws_szForkS_r0, hx, hi, e, wr_succ (show i < 1000000000000000000 by omega)]
    by_cases hs : ((mFork x : Nat) : Int) ≤ t
    · simp [szr_yes hs, hs, show ¬ (t - ((mFork x : Nat) : Int) < 0) by omega]
    · simp [szr_not hs, hs]
  · simp [laws_szForkS_r0]
  · by_cases hs : ((sumN mFork l : Nat) : Int) ≤ left - (l.length : Int)
    · simp [szr_yes hs, hs]
    · simp [szr_not hs, hs]) k
theorem laws_toForkS_n (l : List GFork) (h : mForkS l ≤ 1048576) (k) : call laws_toForkS [.one (.list 51 (l.map eFork))] k = k [.list 51 (l.map eFork)] := call_of (fun k => by
  have hm := h
  unfold mForkS at hm
  simp [laws_toForkS, show l.length < 1073741824 by omega]
  refine lp_toS l eFork eFork [I 0, I 0, I 0, I 0, I 0, I 0, I 0, I 0, .list 1 [], I 0, .list 1 [], I 0, I 0, .list 1 [], I 0, .bool false, .list 2 [], I 0, I 0, I 0, I 0, I 0, I 0, I 0, I 0, .list 1 [], I 0, .list 1 [], I 0, I 0, .list 1 [], I 0, .bool false, .list 2 [], I 0, I 0, I 0, I 0, I 0, I 0, I 0, I 0, .list 1 [], I 0, .list 1 [], I 0, I 0, .list 1 [], I 0, .bool false, .list 2 []] 51 51 (.list 51 []) rfl (fun i x hx hi K rows hr hz => ?_) fun K => ?_
  · have hs : mFork x ≤ sumN mFork l := sumN_mem (s := mFork) (List.mem_of_getElem? hx)
    simp [-getElem?_pos, laws_toForkS_r0, hx, hi, hr, hz, over, laws_toFork_n x (by omega), wr_succ (show i < 1000000000000000000 by omega)]
  · simp [laws_toForkS_r0]) k
theorem laws_eqForkS_n (l : List GFork) (h : mForkS l ≤ 1048576) (k) : call laws_eqForkS [.one (.list 51 (l.map eFork)), .one (.list 51 (l.map eFork))] k = k [.bool true] := call_of (fun k => by
  have hm := h
  unfold mForkS at hm
  simp [laws_eqForkS]
  refine lp_eqS l eFork 51 (.bool false) rfl (fun i x hx hi K => ?_) fun K => ?_
  · have hs : mFork x ≤ sumN mFork l := sumN_mem (s := mFork) (List.mem_of_getElem? hx)
    simp [-getElem?_pos, laws_eqForkS_r0, hx, hi, laws_eqFork_n x (by omega), wr_succ (show i < 1000000000000000000 by omega)]
  · simp [laws_eqForkS_r0]) k
structure GKnown where
  Chains : List (List GSigned)
  Forks : List GFork
abbrev eKnown (a : GKnown) : List PV := [.list 1 (a.Chains.map (fun l : List GSigned => [.list 17 (l.map eSigned)])), .list 51 (a.Forks.map eFork)]
def mKnown (a : GKnown) : Nat := mSignedSS a.Chains + (mForkS a.Forks)
def WKnown (a : GKnown) : Prop := (a.Chains.length ≤ maxLen ∧ ∀ y ∈ a.Chains, (y.length ≤ maxLen ∧ ∀ z ∈ y, WSigned z)) ∧ (a.Forks.length ≤ maxLen ∧ ∀ y ∈ a.Forks, WFork y)
theorem decKnown (r : List PV) (hr : Sh.hasAll [.list [.list [.int .i64, .int .i64, .int .i64, .int .i64, .int .i64, .int .i64, .int .i64, .int .i64, .list [.int .i64], .int .i64, .list [.int .i64], .int .i64, .int .i64, .list [.int .i64], .int .i64, .bool, .list [.int .i64, .int .i64]]], .list [.int .i64, .int .i64, .int .i64, .int .i64, .int .i64, .int .i64, .int .i64, .int .i64, .list [.int .i64], .int .i64, .list [.int .i64], .int .i64, .int .i64, .list [.int .i64], .int .i64, .bool, .list [.int .i64, .int .i64], .int .i64, .int .i64, .int .i64, .int .i64, .int .i64, .int .i64, .int .i64, .int .i64, .list [.int .i64], .int .i64, .list [.int .i64], .int .i64, .int .i64, .list [.int .i64], .int .i64, .bool, .list [.int .i64, .int .i64], .int .i64, .int .i64, .int .i64, .int .i64, .int .i64, .int .i64, .int .i64, .int .i64, .list [.int .i64], .int .i64, .list [.int .i64], .int .i64, .int .i64, .list [.int .i64], .int .i64, .bool, .list [.int .i64, .int .i64]]] r) : ∃ a : GKnown, r = eKnown a ∧ WKnown a := by
  obtain ⟨p1, r1, rfl, h1, hr1⟩ := all_cons hr
  obtain ⟨n1, rfl, g1⟩ := decSignedSS h1
  obtain ⟨p2, rfl, h2⟩ := all_one hr1
  obtain ⟨n2, rfl, g2⟩ := decForkS h2
  exact ⟨⟨n1, n2⟩, rfl, ⟨g1, g2⟩⟩
theorem laws_szKnown_n (a : GKnown) (left : Int) (hw : WKnown a) (h2 : 0 ≤ left) (h3 : left ≤ 1048576) (k) : call laws_szKnown [.agg (eKnown a), .one (I left)] k = k [I (szr (mKnown a) left)] := call_of (fun k => by
  obtain ⟨g0, g1⟩ := hw
  unfold mKnown
  simp only [laws_szKnown, un, cur0, laws_szSignedSS_n a.Chains (left) g0 h2 h3, binP_lss, iteP_eq, atP_zero, rt_eq, scs_sc, scs_nil, flat_int, true_and, and_true]
  by_cases c0 : ((mSignedSS a.Chains : Nat) : Int) ≤ left
  rotate_left
  · simp [szr_over c0, szr_not c0]
  simp only [szr_yes c0, szr_add c0, show ¬ (left - ((mSignedSS a.Chains : Nat) : Int) < 0) by omega, decide_false, Bool.false_eq_true, if_false, laws_szForkS_n a.Forks (left - ((mSignedSS a.Chains : Nat) : Int)) g1 (by omega) (by omega), binP_lss, iteP_eq, atP_zero, rt_eq, scs_sc, scs_nil, flat_int, true_and, and_true]
  by_cases c1 : ((mForkS a.Forks : Nat) : Int) ≤ left - ((mSignedSS a.Chains : Nat) : Int)
  rotate_left
  · simp [szr_not c1, szr_not c1]
  simp only [szr_yes c1, show ¬ (left - ((mSignedSS a.Chains : Nat) : Int) - ((mForkS a.Forks : Nat) : Int) < 0) by omega, decide_false, Bool.false_eq_true, if_false, binP_lss, iteP_eq, atP_zero, rt_eq, scs_sc, scs_nil, flat_int, true_and, and_true]) k
theorem laws_toKnown_n (a : GKnown) (h : mKnown a ≤ 1048576) (k) : call laws_toKnown [.agg (eKnown a)] k = k (eKnown a) := call_of (fun k => by
  unfold mKnown at h
  simp [laws_toKnown, laws_toSignedSS_n a.Chains (by omega), laws_toForkS_n a.Forks (by omega)]) k
theorem laws_eqKnown_n (a : GKnown) (h : mKnown a ≤ 1048576) (k) : call laws_eqKnown [.agg (eKnown a), .agg (eKnown a)] k = k [.bool true] := call_of (fun k => by
  unfold mKnown at h
  simp [laws_eqKnown, laws_eqSignedSS_n a.Chains (by omega), laws_eqForkS_n a.Forks (by omega)]) k
def mZoneS (l : List GZone) : Nat := l.length + sumN mZone l
theorem decZoneS {p : PV} (h : Sh.has (.list [.list [.int .i64, .int .i64, .int .i64, .int .i64, .int .i64, .int .i64, .int .i64, .int .i64, .list [.int .i64], .int .i64, .list [.int .i64], .int .i64, .int .i64, .list [.int .i64], .int .i64, .bool, .list [.int .i64, .int .i64]], .list [.str, .int .i64, .int .i64, .list [.str]]]) p) : ∃ l : List GZone, p = .list 2 (l.map eZone) ∧ (l.length ≤ maxLen ∧ ∀ y ∈ l, WZone y) := by
  obtain ⟨l, h1, h2, h3⟩ := has_map decZone 2 rfl h
  exact ⟨l, h1, h2, h3⟩
theorem laws_szZoneS_n (l : List GZone) (left : Int) (hw : (l.length ≤ maxLen ∧ ∀ y ∈ l, WZone y)) (h2 : 0 ≤ left) (h3 : left ≤ 1048576) (k) : call laws_szZoneS [.one (.list 2 (l.map eZone)), .one (I left)] k = k [I (szr (mZoneS l) left)] := call_of (fun k => by
  simp only [laws_szZoneS, lenP_eq, List.length_map, binP_sub, wr_left hw.1 h2 h3, binP_lss, iteP_eq, rt_eq, scs_sc, scs_nil, flat_int, true_and, and_true]
  unfold mZoneS
  by_cases c : (l.length : Int) ≤ left
  rotate_left
  · simp [szr_over c, show left - (l.length : Int) < 0 by omega]
  simp only [szr_add c, show ¬ (left - (l.length : Int) < 0) by omega, decide_false, Bool.false_eq_true, if_false]
  refine (lp_sz (neg := k [I (-1)]) (fin := fun t => k [I t]) l eZone 2 mZone (left - (l.length : Int)) (I 0) (by omega) (by omega) rfl (fun i x hx hi t ht1 ht2 K => ?_) fun t K => ?_).trans ?_
  · have e := laws_szZone_n x t (hw.2 x (List.mem_of_getElem? hx)) ht1 ht2
    simp [-getElem?_pos, laws_szZoneS_r0, hx, hi, e, wr_succ (show i < 1000000000000000000 by omega)]
    by_cases hs : ((mZone x : Nat) : Int) ≤ t
    · simp [szr_yes hs, hs, show ¬ (t - ((mZone x : Nat) : Int) < 0) by omega]
    · simp [szr_not hs, hs]
  · simp [laws_szZoneS_r0]
  · by_cases hs : ((sumN mZone l : Nat) : Int) ≤ left - (l.length : Int)
    · simp [szr_yes hs, hs]
    · simp [szr_not hs, hs]) k
theorem laws_toZoneS_n (l : List GZone) (h : mZoneS l ≤ 1048576) (k) : call laws_toZoneS [.one (.list 2 (l.map eZone))] k = k [.list 2 (l.map eZone)] := call_of (fun k => by
  have hm := h
  unfold mZoneS at hm
  simp [laws_toZoneS, show l.length < 1073741824 by omega]
  refine lp_toS l eZone eZone [.list 17 [], .list 4 []] 2 2 (.list 2 []) rfl (fun i x hx hi K rows hr hz => ?_) fun K => ?_
  · have hs : mZone x ≤ sumN mZone l := sumN_mem (s := mZone) (List.mem_of_getElem? hx)
    simp [-getElem?_pos, laws_toZoneS_r0, hx, hi, hr, hz, over, laws_toZone_n x (by omega), wr_succ (show i < 1000000000000000000 by omega)]
  · simp [laws_toZoneS_r0]) k
theorem laws_eqZoneS_n (l : List GZone) (h : mZoneS l ≤ 1048576) (k) : call laws_eqZoneS [.one (.list 2 (l.map eZone)), .one (.list 2 (l.map eZone))] k = k [.bool true] := call_of (fun k => by
  have hm := h
  unfold mZoneS at hm
  simp [laws_eqZoneS]
  refine lp_eqS l eZone 2 (.bool false) rfl (fun i x hx hi K => ?_) fun K => ?_
  · have hs : mZone x ≤ sumN mZone l := sumN_mem (s := mZone) (List.mem_of_getElem? hx)
    simp [-getElem?_pos, laws_eqZoneS_r0, hx, hi, laws_eqZone_n x (by omega), wr_succ (show i < 1000000000000000000 by omega)]
  · simp [laws_eqZoneS_r0]) k
structure GServer where
  Zones : List GZone
  Lie : Int
abbrev eServer (a : GServer) : List PV := [.list 2 (a.Zones.map eZone), I a.Lie]
def mServer (a : GServer) : Nat := mZoneS a.Zones
def WServer (a : GServer) : Prop := (a.Zones.length ≤ maxLen ∧ ∀ y ∈ a.Zones, WZone y)
theorem decServer (r : List PV) (hr : Sh.hasAll [.list [.list [.int .i64, .int .i64, .int .i64, .int .i64, .int .i64, .int .i64, .int .i64, .int .i64, .list [.int .i64], .int .i64, .list [.int .i64], .int .i64, .int .i64, .list [.int .i64], .int .i64, .bool, .list [.int .i64, .int .i64]], .list [.str, .int .i64, .int .i64, .list [.str]]], .int .i64] r) : ∃ a : GServer, r = eServer a ∧ WServer a := by
  obtain ⟨p1, r1, rfl, h1, hr1⟩ := all_cons hr
  obtain ⟨n1, rfl, g1⟩ := decZoneS h1
  obtain ⟨p2, rfl, h2⟩ := all_one hr1
  obtain ⟨n2, rfl⟩ := has_int h2
  exact ⟨⟨n1, n2⟩, rfl, g1⟩
theorem laws_szServer_n (a : GServer) (left : Int) (hw : WServer a) (h2 : 0 ≤ left) (h3 : left ≤ 1048576) (k) : call laws_szServer [.agg (eServer a), .one (I left)] k = k [I (szr (mServer a) left)] := call_of (fun k => by
  have g0 := hw
  unfold mServer
  simp only [laws_szServer, un, cur0, laws_szZoneS_n a.Zones (left) g0 h2 h3, binP_lss, iteP_eq, atP_zero, rt_eq, scs_sc, scs_nil, flat_int, true_and, and_true]
  by_cases c0 : ((mZoneS a.Zones : Nat) : Int) ≤ left
  rotate_left
  · simp [szr_not c0, szr_not c0]
  simp only [szr_yes c0, show ¬ (left - ((mZoneS a.Zones : Nat) : Int) < 0) by omega, decide_false, Bool.false_eq_true, if_false, binP_lss, iteP_eq, atP_zero, rt_eq, scs_sc, scs_nil, flat_int, true_and, and_true]) k
theorem laws_toServer_n (a : GServer) (h : mServer a ≤ 1048576) (k) : call laws_toServer [.agg (eServer a)] k = k (eServer a) := call_of (fun k => by
  unfold mServer at h
  simp [laws_toServer, laws_toZoneS_n a.Zones (by omega)]) k
theorem laws_eqServer_n (a : GServer) (h : mServer a ≤ 1048576) (k) : call laws_eqServer [.agg (eServer a), .agg (eServer a)] k = k [.bool true] := call_of (fun k => by
  unfold mServer at h
  simp [laws_eqServer, laws_eqZoneS_n a.Zones (by omega)]) k
structure GStored where
  Zone : Int
  Label : ByteArray
  Answer : GAnswer
abbrev eStored (a : GStored) : List PV := [I a.Zone, .str a.Label, .list 17 (a.Answer.Chain.map eSigned), .bool a.Answer.Found, .str a.Answer.Entry.Label, I a.Answer.Entry.Kind, I a.Answer.Entry.Value, strs a.Answer.Entry.Path, I a.Answer.Proof.At, ints a.Answer.Proof.Path, I a.Answer.Gap.At, .str a.Answer.Gap.Before.Label, I a.Answer.Gap.Before.Kind, I a.Answer.Gap.Before.Value, strs a.Answer.Gap.Before.Path, .str a.Answer.Gap.After.Label, I a.Answer.Gap.After.Kind, I a.Answer.Gap.After.Value, strs a.Answer.Gap.After.Path, I a.Answer.Gap.Left.At, ints a.Answer.Gap.Left.Path, I a.Answer.Gap.Right.At, ints a.Answer.Gap.Right.Path]
def mStored (a : GStored) : Nat := a.Label.size + (mAnswer a.Answer)
def WStored (a : GStored) : Prop := a.Label.size ≤ maxLen ∧ WAnswer a.Answer
theorem decStored (r : List PV) (hr : Sh.hasAll [.int .i64, .str, .list [.int .i64, .int .i64, .int .i64, .int .i64, .int .i64, .int .i64, .int .i64, .int .i64, .list [.int .i64], .int .i64, .list [.int .i64], .int .i64, .int .i64, .list [.int .i64], .int .i64, .bool, .list [.int .i64, .int .i64]], .bool, .str, .int .i64, .int .i64, .list [.str], .int .i64, .list [.int .i64], .int .i64, .str, .int .i64, .int .i64, .list [.str], .str, .int .i64, .int .i64, .list [.str], .int .i64, .list [.int .i64], .int .i64, .list [.int .i64]] r) : ∃ a : GStored, r = eStored a ∧ WStored a := by
  obtain ⟨p1, r1, rfl, h1, hr1⟩ := all_cons hr
  obtain ⟨n1, rfl⟩ := has_int h1
  obtain ⟨p2, r2, rfl, h2, hr2⟩ := all_cons hr1
  obtain ⟨n2, rfl, g2⟩ := has_str h2
  obtain ⟨p3, r3, rfl, h3, hr3⟩ := all_cons hr2
  obtain ⟨n3, rfl, g3⟩ := decSignedS h3
  obtain ⟨p4, r4, rfl, h4, hr4⟩ := all_cons hr3
  obtain ⟨n4, rfl⟩ := has_bool h4
  obtain ⟨p5, r5, rfl, h5, hr5⟩ := all_cons hr4
  obtain ⟨n5, rfl, g5⟩ := has_str h5
  obtain ⟨p6, r6, rfl, h6, hr6⟩ := all_cons hr5
  obtain ⟨n6, rfl⟩ := has_int h6
  obtain ⟨p7, r7, rfl, h7, hr7⟩ := all_cons hr6
  obtain ⟨n7, rfl⟩ := has_int h7
  obtain ⟨p8, r8, rfl, h8, hr8⟩ := all_cons hr7
  obtain ⟨n8, rfl, g8⟩ := has_strs h8
  obtain ⟨p9, r9, rfl, h9, hr9⟩ := all_cons hr8
  obtain ⟨n9, rfl⟩ := has_int h9
  obtain ⟨p10, r10, rfl, h10, hr10⟩ := all_cons hr9
  obtain ⟨n10, rfl, g10⟩ := has_ints h10
  obtain ⟨p11, r11, rfl, h11, hr11⟩ := all_cons hr10
  obtain ⟨n11, rfl⟩ := has_int h11
  obtain ⟨p12, r12, rfl, h12, hr12⟩ := all_cons hr11
  obtain ⟨n12, rfl, g12⟩ := has_str h12
  obtain ⟨p13, r13, rfl, h13, hr13⟩ := all_cons hr12
  obtain ⟨n13, rfl⟩ := has_int h13
  obtain ⟨p14, r14, rfl, h14, hr14⟩ := all_cons hr13
  obtain ⟨n14, rfl⟩ := has_int h14
  obtain ⟨p15, r15, rfl, h15, hr15⟩ := all_cons hr14
  obtain ⟨n15, rfl, g15⟩ := has_strs h15
  obtain ⟨p16, r16, rfl, h16, hr16⟩ := all_cons hr15
  obtain ⟨n16, rfl, g16⟩ := has_str h16
  obtain ⟨p17, r17, rfl, h17, hr17⟩ := all_cons hr16
  obtain ⟨n17, rfl⟩ := has_int h17
  obtain ⟨p18, r18, rfl, h18, hr18⟩ := all_cons hr17
  obtain ⟨n18, rfl⟩ := has_int h18
  obtain ⟨p19, r19, rfl, h19, hr19⟩ := all_cons hr18
  obtain ⟨n19, rfl, g19⟩ := has_strs h19
  obtain ⟨p20, r20, rfl, h20, hr20⟩ := all_cons hr19
  obtain ⟨n20, rfl⟩ := has_int h20
  obtain ⟨p21, r21, rfl, h21, hr21⟩ := all_cons hr20
  obtain ⟨n21, rfl, g21⟩ := has_ints h21
  obtain ⟨p22, r22, rfl, h22, hr22⟩ := all_cons hr21
  obtain ⟨n22, rfl⟩ := has_int h22
  obtain ⟨p23, rfl, h23⟩ := all_one hr22
  obtain ⟨n23, rfl, g23⟩ := has_ints h23
  exact ⟨⟨n1, n2, ⟨n3, n4, ⟨n5, n6, n7, n8⟩, ⟨n9, n10⟩, ⟨n11, ⟨n12, n13, n14, n15⟩, ⟨n16, n17, n18, n19⟩, ⟨n20, n21⟩, ⟨n22, n23⟩⟩⟩⟩, rfl, ⟨g2, ⟨g3, ⟨g5, g8⟩, g10, ⟨⟨g12, g15⟩, ⟨g16, g19⟩, g21, g23⟩⟩⟩⟩
theorem laws_szStored_n (a : GStored) (left : Int) (hw : WStored a) (h2 : 0 ≤ left) (h3 : left ≤ 1048576) (k) : call laws_szStored [.agg (eStored a), .one (I left)] k = k [I (szr (mStored a) left)] := call_of (fun k => by
  obtain ⟨g0, g1⟩ := hw
  unfold mStored
  simp only [laws_szStored, un, cur0, lenS_eq, binP_sub, wr_left (left := left) g0 h2 h3, binP_lss, iteP_eq, atP_zero, rt_eq, scs_sc, scs_nil, flat_int, true_and, and_true]
  by_cases c0 : ((a.Label.size : Nat) : Int) ≤ left
  rotate_left
  · simp [szr_over c0, show left - ((a.Label.size : Nat) : Int) < 0 by omega]
  simp only [szr_yes c0, szr_add c0, show ¬ (left - ((a.Label.size : Nat) : Int) < 0) by omega, decide_false, Bool.false_eq_true, if_false, laws_szAnswer_n a.Answer (left - ((a.Label.size : Nat) : Int)) g1 (by omega) (by omega), binP_lss, iteP_eq, atP_zero, rt_eq, scs_sc, scs_nil, flat_int, true_and, and_true]
  by_cases c1 : ((mAnswer a.Answer : Nat) : Int) ≤ left - ((a.Label.size : Nat) : Int)
  rotate_left
  · simp [szr_not c1, szr_not c1]
  simp only [szr_yes c1, show ¬ (left - ((a.Label.size : Nat) : Int) - ((mAnswer a.Answer : Nat) : Int) < 0) by omega, decide_false, Bool.false_eq_true, if_false, binP_lss, iteP_eq, atP_zero, rt_eq, scs_sc, scs_nil, flat_int, true_and, and_true]) k
theorem laws_toStored_n (a : GStored) (h : mStored a ≤ 1048576) (k) : call laws_toStored [.agg (eStored a)] k = k (eStored a) := call_of (fun k => by
  unfold mStored at h
  simp [laws_toStored, laws_toAnswer_n a.Answer (by omega)]) k
theorem laws_eqStored_n (a : GStored) (h : mStored a ≤ 1048576) (k) : call laws_eqStored [.agg (eStored a), .agg (eStored a)] k = k [.bool true] := call_of (fun k => by
  unfold mStored at h
  simp [laws_eqStored, laws_eqAnswer_n a.Answer (by omega)]) k
def mStoredS (l : List GStored) : Nat := l.length + sumN mStored l
theorem decStoredS {p : PV} (h : Sh.has (.list [.int .i64, .str, .list [.int .i64, .int .i64, .int .i64, .int .i64, .int .i64, .int .i64, .int .i64, .int .i64, .list [.int .i64], .int .i64, .list [.int .i64], .int .i64, .int .i64, .list [.int .i64], .int .i64, .bool, .list [.int .i64, .int .i64]], .bool, .str, .int .i64, .int .i64, .list [.str], .int .i64, .list [.int .i64], .int .i64, .str, .int .i64, .int .i64, .list [.str], .str, .int .i64, .int .i64, .list [.str], .int .i64, .list [.int .i64], .int .i64, .list [.int .i64]]) p) : ∃ l : List GStored, p = .list 23 (l.map eStored) ∧ (l.length ≤ maxLen ∧ ∀ y ∈ l, WStored y) := by
  obtain ⟨l, h1, h2, h3⟩ := has_map decStored 23 rfl h
  exact ⟨l, h1, h2, h3⟩
theorem laws_szStoredS_n (l : List GStored) (left : Int) (hw : (l.length ≤ maxLen ∧ ∀ y ∈ l, WStored y)) (h2 : 0 ≤ left) (h3 : left ≤ 1048576) (k) : call laws_szStoredS [.one (.list 23 (l.map eStored)), .one (I left)] k = k [I (szr (mStoredS l) left)] := call_of (fun k => by
  simp only [laws_szStoredS, lenP_eq, List.length_map, binP_sub, wr_left hw.1 h2 h3, binP_lss, iteP_eq, rt_eq, scs_sc, scs_nil, flat_int, true_and, and_true]
  unfold mStoredS
  by_cases c : (l.length : Int) ≤ left
  rotate_left
  · simp [szr_over c, show left - (l.length : Int) < 0 by omega]
  simp only [szr_add c, show ¬ (left - (l.length : Int) < 0) by omega, decide_false, Bool.false_eq_true, if_false]
  refine (lp_sz (neg := k [I (-1)]) (fin := fun t => k [I t]) l eStored 23 mStored (left - (l.length : Int)) (I 0) (by omega) (by omega) rfl (fun i x hx hi t ht1 ht2 K => ?_) fun t K => ?_).trans ?_
  · have e := laws_szStored_n x t (hw.2 x (List.mem_of_getElem? hx)) ht1 ht2
    simp [-getElem?_pos, laws_szStoredS_r0, hx, hi, e, wr_succ (show i < 1000000000000000000 by omega)]
    by_cases hs : ((mStored x : Nat) : Int) ≤ t
    · simp [szr_yes hs, hs, show ¬ (t - ((mStored x : Nat) : Int) < 0) by omega]
    · simp [szr_not hs, hs]
  · simp [laws_szStoredS_r0]
  · by_cases hs : ((sumN mStored l : Nat) : Int) ≤ left - (l.length : Int)
    · simp [szr_yes hs, hs]
    · simp [szr_not hs, hs]) k
theorem laws_toStoredS_n (l : List GStored) (h : mStoredS l ≤ 1048576) (k) : call laws_toStoredS [.one (.list 23 (l.map eStored))] k = k [.list 23 (l.map eStored)] := call_of (fun k => by
  have hm := h
  unfold mStoredS at hm
  simp [laws_toStoredS, show l.length < 1073741824 by omega]
  refine lp_toS l eStored eStored [I 0, .str ⟨#[]⟩, .list 17 [], .bool false, .str ⟨#[]⟩, I 0, I 0, .list 1 [], I 0, .list 1 [], I 0, .str ⟨#[]⟩, I 0, I 0, .list 1 [], .str ⟨#[]⟩, I 0, I 0, .list 1 [], I 0, .list 1 [], I 0, .list 1 []] 23 23 (.list 23 []) rfl (fun i x hx hi K rows hr hz => ?_) fun K => ?_
  · have hs : mStored x ≤ sumN mStored l := sumN_mem (s := mStored) (List.mem_of_getElem? hx)
    simp [-getElem?_pos, laws_toStoredS_r0, hx, hi, hr, hz, over, laws_toStored_n x (by omega), wr_succ (show i < 1000000000000000000 by omega)]
  · simp [laws_toStoredS_r0]) k
theorem laws_eqStoredS_n (l : List GStored) (h : mStoredS l ≤ 1048576) (k) : call laws_eqStoredS [.one (.list 23 (l.map eStored)), .one (.list 23 (l.map eStored))] k = k [.bool true] := call_of (fun k => by
  have hm := h
  unfold mStoredS at hm
  simp [laws_eqStoredS]
  refine lp_eqS l eStored 23 (.bool false) rfl (fun i x hx hi K => ?_) fun K => ?_
  · have hs : mStored x ≤ sumN mStored l := sumN_mem (s := mStored) (List.mem_of_getElem? hx)
    simp [-getElem?_pos, laws_eqStoredS_r0, hx, hi, laws_eqStored_n x (by omega), wr_succ (show i < 1000000000000000000 by omega)]
  · simp [laws_eqStoredS_r0]) k
structure GCache where
  Lst : List GStored
abbrev eCache (a : GCache) : List PV := [.list 23 (a.Lst.map eStored)]
def mCache (a : GCache) : Nat := mStoredS a.Lst
def WCache (a : GCache) : Prop := (a.Lst.length ≤ maxLen ∧ ∀ y ∈ a.Lst, WStored y)
theorem decCache (r : List PV) (hr : Sh.hasAll [.list [.int .i64, .str, .list [.int .i64, .int .i64, .int .i64, .int .i64, .int .i64, .int .i64, .int .i64, .int .i64, .list [.int .i64], .int .i64, .list [.int .i64], .int .i64, .int .i64, .list [.int .i64], .int .i64, .bool, .list [.int .i64, .int .i64]], .bool, .str, .int .i64, .int .i64, .list [.str], .int .i64, .list [.int .i64], .int .i64, .str, .int .i64, .int .i64, .list [.str], .str, .int .i64, .int .i64, .list [.str], .int .i64, .list [.int .i64], .int .i64, .list [.int .i64]]] r) : ∃ a : GCache, r = eCache a ∧ WCache a := by
  obtain ⟨p1, rfl, h1⟩ := all_one hr
  obtain ⟨n1, rfl, g1⟩ := decStoredS h1
  exact ⟨⟨n1⟩, rfl, g1⟩
theorem laws_szCache_n (a : GCache) (left : Int) (hw : WCache a) (h2 : 0 ≤ left) (h3 : left ≤ 1048576) (k) : call laws_szCache [.agg (eCache a), .one (I left)] k = k [I (szr (mCache a) left)] := call_of (fun k => by
  have g0 := hw
  unfold mCache
  simp only [laws_szCache, un, cur0, laws_szStoredS_n a.Lst (left) g0 h2 h3, binP_lss, iteP_eq, atP_zero, rt_eq, scs_sc, scs_nil, flat_int, true_and, and_true]
  by_cases c0 : ((mStoredS a.Lst : Nat) : Int) ≤ left
  rotate_left
  · simp [szr_not c0, szr_not c0]
  simp only [szr_yes c0, show ¬ (left - ((mStoredS a.Lst : Nat) : Int) < 0) by omega, decide_false, Bool.false_eq_true, if_false, binP_lss, iteP_eq, atP_zero, rt_eq, scs_sc, scs_nil, flat_int, true_and, and_true]) k
theorem laws_toCache_n (a : GCache) (h : mCache a ≤ 1048576) (k) : call laws_toCache [.agg (eCache a)] k = k (eCache a) := call_of (fun k => by
  unfold mCache at h
  simp [laws_toCache, laws_toStoredS_n a.Lst (by omega)]) k
theorem laws_eqCache_n (a : GCache) (h : mCache a ≤ 1048576) (k) : call laws_eqCache [.agg (eCache a), .agg (eCache a)] k = k [.bool true] := call_of (fun k => by
  unfold mCache at h
  simp [laws_eqCache, laws_eqStoredS_n a.Lst (by omega)]) k
structure GActor where
  Held : List Int
abbrev eActor (a : GActor) : List PV := [ints a.Held]
def mActor (a : GActor) : Nat := a.Held.length
def WActor (a : GActor) : Prop := a.Held.length ≤ maxLen
theorem decActor (r : List PV) (hr : Sh.hasAll [.list [.int .i64]] r) : ∃ a : GActor, r = eActor a ∧ WActor a := by
  obtain ⟨p1, rfl, h1⟩ := all_one hr
  obtain ⟨n1, rfl, g1⟩ := has_ints h1
  exact ⟨⟨n1⟩, rfl, g1⟩
theorem laws_szActor_n (a : GActor) (left : Int) (hw : WActor a) (h2 : 0 ≤ left) (h3 : left ≤ 1048576) (k) : call laws_szActor [.agg (eActor a), .one (I left)] k = k [I (szr (mActor a) left)] := call_of (fun k => by
  have g0 := hw
  unfold mActor
  simp only [laws_szActor, un, cur0, laws_szIntS_n a.Held (left) g0 h2 h3, binP_lss, iteP_eq, atP_zero, rt_eq, scs_sc, scs_nil, flat_int, true_and, and_true]
  by_cases c0 : ((a.Held.length : Nat) : Int) ≤ left
  rotate_left
  · simp [szr_not c0, szr_not c0]
  simp only [szr_yes c0, show ¬ (left - ((a.Held.length : Nat) : Int) < 0) by omega, decide_false, Bool.false_eq_true, if_false, binP_lss, iteP_eq, atP_zero, rt_eq, scs_sc, scs_nil, flat_int, true_and, and_true]) k
theorem laws_toActor_n (a : GActor) (h : mActor a ≤ 1048576) (k) : call laws_toActor [.agg (eActor a)] k = k (eActor a) := call_of (fun k => by
  unfold mActor at h
  simp [laws_toActor, laws_toIntS_n a.Held (by omega)]) k
theorem laws_eqActor_n (a : GActor) (h : mActor a ≤ 1048576) (k) : call laws_eqActor [.agg (eActor a), .agg (eActor a)] k = k [.bool true] := call_of (fun k => by
  unfold mActor at h
  simp [laws_eqActor, laws_eqIntS_n a.Held (by omega)]) k
structure GSaid where
  Zone : GZone
  Held : List Int
abbrev eSaid (a : GSaid) : List PV := [.list 17 (a.Zone.Chain.map eSigned), .list 4 (a.Zone.Entries.map eEntry), ints a.Held]
def mSaid (a : GSaid) : Nat := mZone a.Zone + (a.Held.length)
def WSaid (a : GSaid) : Prop := WZone a.Zone ∧ a.Held.length ≤ maxLen
theorem decSaid (r : List PV) (hr : Sh.hasAll [.list [.int .i64, .int .i64, .int .i64, .int .i64, .int .i64, .int .i64, .int .i64, .int .i64, .list [.int .i64], .int .i64, .list [.int .i64], .int .i64, .int .i64, .list [.int .i64], .int .i64, .bool, .list [.int .i64, .int .i64]], .list [.str, .int .i64, .int .i64, .list [.str]], .list [.int .i64]] r) : ∃ a : GSaid, r = eSaid a ∧ WSaid a := by
  obtain ⟨p1, r1, rfl, h1, hr1⟩ := all_cons hr
  obtain ⟨n1, rfl, g1⟩ := decSignedS h1
  obtain ⟨p2, r2, rfl, h2, hr2⟩ := all_cons hr1
  obtain ⟨n2, rfl, g2⟩ := decEntryS h2
  obtain ⟨p3, rfl, h3⟩ := all_one hr2
  obtain ⟨n3, rfl, g3⟩ := has_ints h3
  exact ⟨⟨⟨n1, n2⟩, n3⟩, rfl, ⟨⟨g1, g2⟩, g3⟩⟩
theorem laws_szSaid_n (a : GSaid) (left : Int) (hw : WSaid a) (h2 : 0 ≤ left) (h3 : left ≤ 1048576) (k) : call laws_szSaid [.agg (eSaid a), .one (I left)] k = k [I (szr (mSaid a) left)] := call_of (fun k => by
  obtain ⟨g0, g1⟩ := hw
  unfold mSaid
  simp only [laws_szSaid, un, cur0, laws_szZone_n a.Zone (left) g0 h2 h3, binP_lss, iteP_eq, atP_zero, rt_eq, scs_sc, scs_nil, flat_int, true_and, and_true]
  by_cases c0 : ((mZone a.Zone : Nat) : Int) ≤ left
  rotate_left
  · simp [szr_over c0, szr_not c0]
  simp only [szr_yes c0, szr_add c0, show ¬ (left - ((mZone a.Zone : Nat) : Int) < 0) by omega, decide_false, Bool.false_eq_true, if_false, laws_szIntS_n a.Held (left - ((mZone a.Zone : Nat) : Int)) g1 (by omega) (by omega), binP_lss, iteP_eq, atP_zero, rt_eq, scs_sc, scs_nil, flat_int, true_and, and_true]
  by_cases c1 : ((a.Held.length : Nat) : Int) ≤ left - ((mZone a.Zone : Nat) : Int)
  rotate_left
  · simp [szr_not c1, szr_not c1]
  simp only [szr_yes c1, show ¬ (left - ((mZone a.Zone : Nat) : Int) - ((a.Held.length : Nat) : Int) < 0) by omega, decide_false, Bool.false_eq_true, if_false, binP_lss, iteP_eq, atP_zero, rt_eq, scs_sc, scs_nil, flat_int, true_and, and_true]) k
theorem laws_toSaid_n (a : GSaid) (h : mSaid a ≤ 1048576) (k) : call laws_toSaid [.agg (eSaid a)] k = k (eSaid a) := call_of (fun k => by
  unfold mSaid at h
  simp [laws_toSaid, laws_toZone_n a.Zone (by omega), laws_toIntS_n a.Held (by omega)]) k
theorem laws_eqSaid_n (a : GSaid) (h : mSaid a ≤ 1048576) (k) : call laws_eqSaid [.agg (eSaid a), .agg (eSaid a)] k = k [.bool true] := call_of (fun k => by
  unfold mSaid at h
  simp [laws_eqSaid, laws_eqZone_n a.Zone (by omega), laws_eqIntS_n a.Held (by omega)]) k
def mActorS (l : List GActor) : Nat := l.length + sumN mActor l
theorem decActorS {p : PV} (h : Sh.has (.list [.list [.int .i64]]) p) : ∃ l : List GActor, p = .list 1 (l.map eActor) ∧ (l.length ≤ maxLen ∧ ∀ y ∈ l, WActor y) := by
  obtain ⟨l, h1, h2, h3⟩ := has_map decActor 1 rfl h
  exact ⟨l, h1, h2, h3⟩
theorem laws_szActorS_n (l : List GActor) (left : Int) (hw : (l.length ≤ maxLen ∧ ∀ y ∈ l, WActor y)) (h2 : 0 ≤ left) (h3 : left ≤ 1048576) (k) : call laws_szActorS [.one (.list 1 (l.map eActor)), .one (I left)] k = k [I (szr (mActorS l) left)] := call_of (fun k => by
  simp only [laws_szActorS, lenP_eq, List.length_map, binP_sub, wr_left hw.1 h2 h3, binP_lss, iteP_eq, rt_eq, scs_sc, scs_nil, flat_int, true_and, and_true]
  unfold mActorS
  by_cases c : (l.length : Int) ≤ left
  rotate_left
  · simp [szr_over c, show left - (l.length : Int) < 0 by omega]
  simp only [szr_add c, show ¬ (left - (l.length : Int) < 0) by omega, decide_false, Bool.false_eq_true, if_false]
  refine (lp_sz (neg := k [I (-1)]) (fin := fun t => k [I t]) l eActor 1 mActor (left - (l.length : Int)) (I 0) (by omega) (by omega) rfl (fun i x hx hi t ht1 ht2 K => ?_) fun t K => ?_).trans ?_
  · have e := laws_szActor_n x t (hw.2 x (List.mem_of_getElem? hx)) ht1 ht2
    simp [-getElem?_pos, laws_szActorS_r0, hx, hi, e, wr_succ (show i < 1000000000000000000 by omega)]
    by_cases hs : ((mActor x : Nat) : Int) ≤ t
    · simp [szr_yes hs, hs, show ¬ (t - ((mActor x : Nat) : Int) < 0) by omega]
    · simp [szr_not hs, hs]
  · simp [laws_szActorS_r0]
  · by_cases hs : ((sumN mActor l : Nat) : Int) ≤ left - (l.length : Int)
    · simp [szr_yes hs, hs]
    · simp [szr_not hs, hs]) k
theorem laws_toActorS_n (l : List GActor) (h : mActorS l ≤ 1048576) (k) : call laws_toActorS [.one (.list 1 (l.map eActor))] k = k [.list 1 (l.map eActor)] := call_of (fun k => by
  have hm := h
  unfold mActorS at hm
  simp [laws_toActorS, show l.length < 1073741824 by omega]
  refine lp_toS l eActor eActor [.list 1 []] 1 1 (.list 1 []) rfl (fun i x hx hi K rows hr hz => ?_) fun K => ?_
  · have hs : mActor x ≤ sumN mActor l := sumN_mem (s := mActor) (List.mem_of_getElem? hx)
    simp [-getElem?_pos, laws_toActorS_r0, hx, hi, hr, hz, over, laws_toActor_n x (by omega), wr_succ (show i < 1000000000000000000 by omega)]
  · simp [laws_toActorS_r0]) k
theorem laws_eqActorS_n (l : List GActor) (h : mActorS l ≤ 1048576) (k) : call laws_eqActorS [.one (.list 1 (l.map eActor)), .one (.list 1 (l.map eActor))] k = k [.bool true] := call_of (fun k => by
  have hm := h
  unfold mActorS at hm
  simp [laws_eqActorS]
  refine lp_eqS l eActor 1 (.bool false) rfl (fun i x hx hi K => ?_) fun K => ?_
  · have hs : mActor x ≤ sumN mActor l := sumN_mem (s := mActor) (List.mem_of_getElem? hx)
    simp [-getElem?_pos, laws_eqActorS_r0, hx, hi, laws_eqActor_n x (by omega), wr_succ (show i < 1000000000000000000 by omega)]
  · simp [laws_eqActorS_r0]) k
def mSaidS (l : List GSaid) : Nat := l.length + sumN mSaid l
theorem decSaidS {p : PV} (h : Sh.has (.list [.list [.int .i64, .int .i64, .int .i64, .int .i64, .int .i64, .int .i64, .int .i64, .int .i64, .list [.int .i64], .int .i64, .list [.int .i64], .int .i64, .int .i64, .list [.int .i64], .int .i64, .bool, .list [.int .i64, .int .i64]], .list [.str, .int .i64, .int .i64, .list [.str]], .list [.int .i64]]) p) : ∃ l : List GSaid, p = .list 3 (l.map eSaid) ∧ (l.length ≤ maxLen ∧ ∀ y ∈ l, WSaid y) := by
  obtain ⟨l, h1, h2, h3⟩ := has_map decSaid 3 rfl h
  exact ⟨l, h1, h2, h3⟩
theorem laws_szSaidS_n (l : List GSaid) (left : Int) (hw : (l.length ≤ maxLen ∧ ∀ y ∈ l, WSaid y)) (h2 : 0 ≤ left) (h3 : left ≤ 1048576) (k) : call laws_szSaidS [.one (.list 3 (l.map eSaid)), .one (I left)] k = k [I (szr (mSaidS l) left)] := call_of (fun k => by
  simp only [laws_szSaidS, lenP_eq, List.length_map, binP_sub, wr_left hw.1 h2 h3, binP_lss, iteP_eq, rt_eq, scs_sc, scs_nil, flat_int, true_and, and_true]
  unfold mSaidS
  by_cases c : (l.length : Int) ≤ left
  rotate_left
  · simp [szr_over c, show left - (l.length : Int) < 0 by omega]
  simp only [szr_add c, show ¬ (left - (l.length : Int) < 0) by omega, decide_false, Bool.false_eq_true, if_false]
  refine (lp_sz (neg := k [I (-1)]) (fin := fun t => k [I t]) l eSaid 3 mSaid (left - (l.length : Int)) (I 0) (by omega) (by omega) rfl (fun i x hx hi t ht1 ht2 K => ?_) fun t K => ?_).trans ?_
  · have e := laws_szSaid_n x t (hw.2 x (List.mem_of_getElem? hx)) ht1 ht2
    simp [-getElem?_pos, laws_szSaidS_r0, hx, hi, e, wr_succ (show i < 1000000000000000000 by omega)]
    by_cases hs : ((mSaid x : Nat) : Int) ≤ t
    · simp [szr_yes hs, hs, show ¬ (t - ((mSaid x : Nat) : Int) < 0) by omega]
    · simp [szr_not hs, hs]
  · simp [laws_szSaidS_r0]
  · by_cases hs : ((sumN mSaid l : Nat) : Int) ≤ left - (l.length : Int)
    · simp [szr_yes hs, hs]
    · simp [szr_not hs, hs]) k
theorem laws_toSaidS_n (l : List GSaid) (h : mSaidS l ≤ 1048576) (k) : call laws_toSaidS [.one (.list 3 (l.map eSaid))] k = k [.list 3 (l.map eSaid)] := call_of (fun k => by
  have hm := h
  unfold mSaidS at hm
  simp [laws_toSaidS, show l.length < 1073741824 by omega]
  refine lp_toS l eSaid eSaid [.list 17 [], .list 4 [], .list 1 []] 3 3 (.list 3 []) rfl (fun i x hx hi K rows hr hz => ?_) fun K => ?_
  · have hs : mSaid x ≤ sumN mSaid l := sumN_mem (s := mSaid) (List.mem_of_getElem? hx)
    simp [-getElem?_pos, laws_toSaidS_r0, hx, hi, hr, hz, over, laws_toSaid_n x (by omega), wr_succ (show i < 1000000000000000000 by omega)]
  · simp [laws_toSaidS_r0]) k
theorem laws_eqSaidS_n (l : List GSaid) (h : mSaidS l ≤ 1048576) (k) : call laws_eqSaidS [.one (.list 3 (l.map eSaid)), .one (.list 3 (l.map eSaid))] k = k [.bool true] := call_of (fun k => by
  have hm := h
  unfold mSaidS at hm
  simp [laws_eqSaidS]
  refine lp_eqS l eSaid 3 (.bool false) rfl (fun i x hx hi K => ?_) fun K => ?_
  · have hs : mSaid x ≤ sumN mSaid l := sumN_mem (s := mSaid) (List.mem_of_getElem? hx)
    simp [-getElem?_pos, laws_eqSaidS_r0, hx, hi, laws_eqSaid_n x (by omega), wr_succ (show i < 1000000000000000000 by omega)]
  · simp [laws_eqSaidS_r0]) k
def mServerS (l : List GServer) : Nat := l.length + sumN mServer l
theorem decServerS {p : PV} (h : Sh.has (.list [.list [.list [.int .i64, .int .i64, .int .i64, .int .i64, .int .i64, .int .i64, .int .i64, .int .i64, .list [.int .i64], .int .i64, .list [.int .i64], .int .i64, .int .i64, .list [.int .i64], .int .i64, .bool, .list [.int .i64, .int .i64]], .list [.str, .int .i64, .int .i64, .list [.str]]], .int .i64]) p) : ∃ l : List GServer, p = .list 2 (l.map eServer) ∧ (l.length ≤ maxLen ∧ ∀ y ∈ l, WServer y) := by
  obtain ⟨l, h1, h2, h3⟩ := has_map decServer 2 rfl h
  exact ⟨l, h1, h2, h3⟩
theorem laws_szServerS_n (l : List GServer) (left : Int) (hw : (l.length ≤ maxLen ∧ ∀ y ∈ l, WServer y)) (h2 : 0 ≤ left) (h3 : left ≤ 1048576) (k) : call laws_szServerS [.one (.list 2 (l.map eServer)), .one (I left)] k = k [I (szr (mServerS l) left)] := call_of (fun k => by
  simp only [laws_szServerS, lenP_eq, List.length_map, binP_sub, wr_left hw.1 h2 h3, binP_lss, iteP_eq, rt_eq, scs_sc, scs_nil, flat_int, true_and, and_true]
  unfold mServerS
  by_cases c : (l.length : Int) ≤ left
  rotate_left
  · simp [szr_over c, show left - (l.length : Int) < 0 by omega]
  simp only [szr_add c, show ¬ (left - (l.length : Int) < 0) by omega, decide_false, Bool.false_eq_true, if_false]
  refine (lp_sz (neg := k [I (-1)]) (fin := fun t => k [I t]) l eServer 2 mServer (left - (l.length : Int)) (I 0) (by omega) (by omega) rfl (fun i x hx hi t ht1 ht2 K => ?_) fun t K => ?_).trans ?_
  · have e := laws_szServer_n x t (hw.2 x (List.mem_of_getElem? hx)) ht1 ht2
    simp [-getElem?_pos, laws_szServerS_r0, hx, hi, e, wr_succ (show i < 1000000000000000000 by omega)]
    by_cases hs : ((mServer x : Nat) : Int) ≤ t
    · simp [szr_yes hs, hs, show ¬ (t - ((mServer x : Nat) : Int) < 0) by omega]
    · simp [szr_not hs, hs]
  · simp [laws_szServerS_r0]
  · by_cases hs : ((sumN mServer l : Nat) : Int) ≤ left - (l.length : Int)
    · simp [szr_yes hs, hs]
    · simp [szr_not hs, hs]) k
theorem laws_toServerS_n (l : List GServer) (h : mServerS l ≤ 1048576) (k) : call laws_toServerS [.one (.list 2 (l.map eServer))] k = k [.list 2 (l.map eServer)] := call_of (fun k => by
  have hm := h
  unfold mServerS at hm
  simp [laws_toServerS, show l.length < 1073741824 by omega]
  refine lp_toS l eServer eServer [.list 2 [], I 0] 2 2 (.list 2 []) rfl (fun i x hx hi K rows hr hz => ?_) fun K => ?_
  · have hs : mServer x ≤ sumN mServer l := sumN_mem (s := mServer) (List.mem_of_getElem? hx)
    simp [-getElem?_pos, laws_toServerS_r0, hx, hi, hr, hz, over, laws_toServer_n x (by omega), wr_succ (show i < 1000000000000000000 by omega)]
  · simp [laws_toServerS_r0]) k
theorem laws_eqServerS_n (l : List GServer) (h : mServerS l ≤ 1048576) (k) : call laws_eqServerS [.one (.list 2 (l.map eServer)), .one (.list 2 (l.map eServer))] k = k [.bool true] := call_of (fun k => by
  have hm := h
  unfold mServerS at hm
  simp [laws_eqServerS]
  refine lp_eqS l eServer 2 (.bool false) rfl (fun i x hx hi K => ?_) fun K => ?_
  · have hs : mServer x ≤ sumN mServer l := sumN_mem (s := mServer) (List.mem_of_getElem? hx)
    simp [-getElem?_pos, laws_eqServerS_r0, hx, hi, laws_eqServer_n x (by omega), wr_succ (show i < 1000000000000000000 by omega)]
  · simp [laws_eqServerS_r0]) k
structure GWorld where
  Now : Int
  Actors : List GActor
  Zones : List GZone
  Said : List GSaid
  Servers : List GServer
  Known : GKnown
  Cache : GCache
abbrev eWorld (a : GWorld) : List PV := [I a.Now, .list 1 (a.Actors.map eActor), .list 2 (a.Zones.map eZone), .list 3 (a.Said.map eSaid), .list 2 (a.Servers.map eServer), .list 1 (a.Known.Chains.map (fun l : List GSigned => [.list 17 (l.map eSigned)])), .list 51 (a.Known.Forks.map eFork), .list 23 (a.Cache.Lst.map eStored)]
def mWorld (a : GWorld) : Nat := mActorS a.Actors + (mZoneS a.Zones + (mSaidS a.Said + (mServerS a.Servers + (mKnown a.Known + (mCache a.Cache)))))
def WWorld (a : GWorld) : Prop := (a.Actors.length ≤ maxLen ∧ ∀ y ∈ a.Actors, WActor y) ∧ (a.Zones.length ≤ maxLen ∧ ∀ y ∈ a.Zones, WZone y) ∧ (a.Said.length ≤ maxLen ∧ ∀ y ∈ a.Said, WSaid y) ∧ (a.Servers.length ≤ maxLen ∧ ∀ y ∈ a.Servers, WServer y) ∧ WKnown a.Known ∧ WCache a.Cache
theorem decWorld (r : List PV) (hr : Sh.hasAll [.int .i64, .list [.list [.int .i64]], .list [.list [.int .i64, .int .i64, .int .i64, .int .i64, .int .i64, .int .i64, .int .i64, .int .i64, .list [.int .i64], .int .i64, .list [.int .i64], .int .i64, .int .i64, .list [.int .i64], .int .i64, .bool, .list [.int .i64, .int .i64]], .list [.str, .int .i64, .int .i64, .list [.str]]], .list [.list [.int .i64, .int .i64, .int .i64, .int .i64, .int .i64, .int .i64, .int .i64, .int .i64, .list [.int .i64], .int .i64, .list [.int .i64], .int .i64, .int .i64, .list [.int .i64], .int .i64, .bool, .list [.int .i64, .int .i64]], .list [.str, .int .i64, .int .i64, .list [.str]], .list [.int .i64]], .list [.list [.list [.int .i64, .int .i64, .int .i64, .int .i64, .int .i64, .int .i64, .int .i64, .int .i64, .list [.int .i64], .int .i64, .list [.int .i64], .int .i64, .int .i64, .list [.int .i64], .int .i64, .bool, .list [.int .i64, .int .i64]], .list [.str, .int .i64, .int .i64, .list [.str]]], .int .i64], .list [.list [.int .i64, .int .i64, .int .i64, .int .i64, .int .i64, .int .i64, .int .i64, .int .i64, .list [.int .i64], .int .i64, .list [.int .i64], .int .i64, .int .i64, .list [.int .i64], .int .i64, .bool, .list [.int .i64, .int .i64]]], .list [.int .i64, .int .i64, .int .i64, .int .i64, .int .i64, .int .i64, .int .i64, .int .i64, .list [.int .i64], .int .i64, .list [.int .i64], .int .i64, .int .i64, .list [.int .i64], .int .i64, .bool, .list [.int .i64, .int .i64], .int .i64, .int .i64, .int .i64, .int .i64, .int .i64, .int .i64, .int .i64, .int .i64, .list [.int .i64], .int .i64, .list [.int .i64], .int .i64, .int .i64, .list [.int .i64], .int .i64, .bool, .list [.int .i64, .int .i64], .int .i64, .int .i64, .int .i64, .int .i64, .int .i64, .int .i64, .int .i64, .int .i64, .list [.int .i64], .int .i64, .list [.int .i64], .int .i64, .int .i64, .list [.int .i64], .int .i64, .bool, .list [.int .i64, .int .i64]], .list [.int .i64, .str, .list [.int .i64, .int .i64, .int .i64, .int .i64, .int .i64, .int .i64, .int .i64, .int .i64, .list [.int .i64], .int .i64, .list [.int .i64], .int .i64, .int .i64, .list [.int .i64], .int .i64, .bool, .list [.int .i64, .int .i64]], .bool, .str, .int .i64, .int .i64, .list [.str], .int .i64, .list [.int .i64], .int .i64, .str, .int .i64, .int .i64, .list [.str], .str, .int .i64, .int .i64, .list [.str], .int .i64, .list [.int .i64], .int .i64, .list [.int .i64]]] r) : ∃ a : GWorld, r = eWorld a ∧ WWorld a := by
  obtain ⟨p1, r1, rfl, h1, hr1⟩ := all_cons hr
  obtain ⟨n1, rfl⟩ := has_int h1
  obtain ⟨p2, r2, rfl, h2, hr2⟩ := all_cons hr1
  obtain ⟨n2, rfl, g2⟩ := decActorS h2
  obtain ⟨p3, r3, rfl, h3, hr3⟩ := all_cons hr2
  obtain ⟨n3, rfl, g3⟩ := decZoneS h3
  obtain ⟨p4, r4, rfl, h4, hr4⟩ := all_cons hr3
  obtain ⟨n4, rfl, g4⟩ := decSaidS h4
  obtain ⟨p5, r5, rfl, h5, hr5⟩ := all_cons hr4
  obtain ⟨n5, rfl, g5⟩ := decServerS h5
  obtain ⟨p6, r6, rfl, h6, hr6⟩ := all_cons hr5
  obtain ⟨n6, rfl, g6⟩ := decSignedSS h6
  obtain ⟨p7, r7, rfl, h7, hr7⟩ := all_cons hr6
  obtain ⟨n7, rfl, g7⟩ := decForkS h7
  obtain ⟨p8, rfl, h8⟩ := all_one hr7
  obtain ⟨n8, rfl, g8⟩ := decStoredS h8
  exact ⟨⟨n1, n2, n3, n4, n5, ⟨n6, n7⟩, ⟨n8⟩⟩, rfl, ⟨g2, g3, g4, g5, ⟨g6, g7⟩, g8⟩⟩
theorem laws_szWorld_n (a : GWorld) (left : Int) (hw : WWorld a) (h2 : 0 ≤ left) (h3 : left ≤ 1048576) (k) : call laws_szWorld [.agg (eWorld a), .one (I left)] k = k [I (szr (mWorld a) left)] := call_of (fun k => by
  obtain ⟨g0, g1, g2, g3, g4, g5⟩ := hw
  unfold mWorld
  simp only [laws_szWorld, un, cur0, laws_szActorS_n a.Actors (left) g0 h2 h3, binP_lss, iteP_eq, atP_zero, rt_eq, scs_sc, scs_nil, flat_int, true_and, and_true]
  by_cases c0 : ((mActorS a.Actors : Nat) : Int) ≤ left
  rotate_left
  · simp [szr_over c0, szr_not c0]
  simp only [szr_yes c0, szr_add c0, show ¬ (left - ((mActorS a.Actors : Nat) : Int) < 0) by omega, decide_false, Bool.false_eq_true, if_false, laws_szZoneS_n a.Zones (left - ((mActorS a.Actors : Nat) : Int)) g1 (by omega) (by omega), binP_lss, iteP_eq, atP_zero, rt_eq, scs_sc, scs_nil, flat_int, true_and, and_true]
  by_cases c1 : ((mZoneS a.Zones : Nat) : Int) ≤ left - ((mActorS a.Actors : Nat) : Int)
  rotate_left
  · simp [szr_over c1, szr_not c1]
  simp only [szr_yes c1, szr_add c1, show ¬ (left - ((mActorS a.Actors : Nat) : Int) - ((mZoneS a.Zones : Nat) : Int) < 0) by omega, decide_false, Bool.false_eq_true, if_false, laws_szSaidS_n a.Said (left - ((mActorS a.Actors : Nat) : Int) - ((mZoneS a.Zones : Nat) : Int)) g2 (by omega) (by omega), binP_lss, iteP_eq, atP_zero, rt_eq, scs_sc, scs_nil, flat_int, true_and, and_true]
  by_cases c2 : ((mSaidS a.Said : Nat) : Int) ≤ left - ((mActorS a.Actors : Nat) : Int) - ((mZoneS a.Zones : Nat) : Int)
  rotate_left
  · simp [szr_over c2, szr_not c2]
  simp only [szr_yes c2, szr_add c2, show ¬ (left - ((mActorS a.Actors : Nat) : Int) - ((mZoneS a.Zones : Nat) : Int) - ((mSaidS a.Said : Nat) : Int) < 0) by omega, decide_false, Bool.false_eq_true, if_false, laws_szServerS_n a.Servers (left - ((mActorS a.Actors : Nat) : Int) - ((mZoneS a.Zones : Nat) : Int) - ((mSaidS a.Said : Nat) : Int)) g3 (by omega) (by omega), binP_lss, iteP_eq, atP_zero, rt_eq, scs_sc, scs_nil, flat_int, true_and, and_true]
  by_cases c3 : ((mServerS a.Servers : Nat) : Int) ≤ left - ((mActorS a.Actors : Nat) : Int) - ((mZoneS a.Zones : Nat) : Int) - ((mSaidS a.Said : Nat) : Int)
  rotate_left
  · simp [szr_over c3, szr_not c3]
  simp only [szr_yes c3, szr_add c3, show ¬ (left - ((mActorS a.Actors : Nat) : Int) - ((mZoneS a.Zones : Nat) : Int) - ((mSaidS a.Said : Nat) : Int) - ((mServerS a.Servers : Nat) : Int) < 0) by omega, decide_false, Bool.false_eq_true, if_false, laws_szKnown_n a.Known (left - ((mActorS a.Actors : Nat) : Int) - ((mZoneS a.Zones : Nat) : Int) - ((mSaidS a.Said : Nat) : Int) - ((mServerS a.Servers : Nat) : Int)) g4 (by omega) (by omega), binP_lss, iteP_eq, atP_zero, rt_eq, scs_sc, scs_nil, flat_int, true_and, and_true]
  by_cases c4 : ((mKnown a.Known : Nat) : Int) ≤ left - ((mActorS a.Actors : Nat) : Int) - ((mZoneS a.Zones : Nat) : Int) - ((mSaidS a.Said : Nat) : Int) - ((mServerS a.Servers : Nat) : Int)
  rotate_left
  · simp [szr_over c4, szr_not c4]
  simp only [szr_yes c4, szr_add c4, show ¬ (left - ((mActorS a.Actors : Nat) : Int) - ((mZoneS a.Zones : Nat) : Int) - ((mSaidS a.Said : Nat) : Int) - ((mServerS a.Servers : Nat) : Int) - ((mKnown a.Known : Nat) : Int) < 0) by omega, decide_false, Bool.false_eq_true, if_false, laws_szCache_n a.Cache (left - ((mActorS a.Actors : Nat) : Int) - ((mZoneS a.Zones : Nat) : Int) - ((mSaidS a.Said : Nat) : Int) - ((mServerS a.Servers : Nat) : Int) - ((mKnown a.Known : Nat) : Int)) g5 (by omega) (by omega), binP_lss, iteP_eq, atP_zero, rt_eq, scs_sc, scs_nil, flat_int, true_and, and_true]
  by_cases c5 : ((mCache a.Cache : Nat) : Int) ≤ left - ((mActorS a.Actors : Nat) : Int) - ((mZoneS a.Zones : Nat) : Int) - ((mSaidS a.Said : Nat) : Int) - ((mServerS a.Servers : Nat) : Int) - ((mKnown a.Known : Nat) : Int)
  rotate_left
  · simp [szr_not c5, szr_not c5]
  simp only [szr_yes c5, show ¬ (left - ((mActorS a.Actors : Nat) : Int) - ((mZoneS a.Zones : Nat) : Int) - ((mSaidS a.Said : Nat) : Int) - ((mServerS a.Servers : Nat) : Int) - ((mKnown a.Known : Nat) : Int) - ((mCache a.Cache : Nat) : Int) < 0) by omega, decide_false, Bool.false_eq_true, if_false, binP_lss, iteP_eq, atP_zero, rt_eq, scs_sc, scs_nil, flat_int, true_and, and_true]) k
theorem laws_toWorld_n (a : GWorld) (h : mWorld a ≤ 1048576) (k) : call laws_toWorld [.agg (eWorld a)] k = k (eWorld a) := call_of (fun k => by
  unfold mWorld at h
  simp [laws_toWorld, laws_toActorS_n a.Actors (by omega), laws_toZoneS_n a.Zones (by omega), laws_toSaidS_n a.Said (by omega), laws_toServerS_n a.Servers (by omega), laws_toKnown_n a.Known (by omega), laws_toCache_n a.Cache (by omega)]) k
theorem laws_eqWorld_n (a : GWorld) (h : mWorld a ≤ 1048576) (k) : call laws_eqWorld [.agg (eWorld a), .agg (eWorld a)] k = k [.bool true] := call_of (fun k => by
  unfold mWorld at h
  simp [laws_eqWorld, laws_eqActorS_n a.Actors (by omega), laws_eqZoneS_n a.Zones (by omega), laws_eqSaidS_n a.Said (by omega), laws_eqServerS_n a.Servers (by omega), laws_eqKnown_n a.Known (by omega), laws_eqCache_n a.Cache (by omega)]) k
end Go.Ev
set_option linter.unusedVariables false
set_option linter.unusedSimpArgs false
set_option maxRecDepth 4000
namespace Go.Ev
open Go.Proofs
/-! ### Lists of numbers, one behind the other -/
theorem sumN_take_succ {α : Type} (f : α → Nat) : ∀ (l : List α) (i : Nat) (x : α), l[i]? = some x → sumN f (l.take (i + 1)) = sumN f (l.take i) + f x
  | [], i, x, h => by simp at h
  | a :: l, 0, x, h => by simp at h; subst h; simp [sumN]
  | a :: l, i + 1, x, h => by
    have := sumN_take_succ f l i x (by simpa using h)
    simp only [List.take_succ_cons, sumN, this]; omega
theorem sumN_take_le {α : Type} (f : α → Nat) : ∀ (l : List α) (i : Nat), sumN f (l.take i) ≤ sumN f l
  | [], i => by simp
  | a :: l, 0 => by simp [sumN]
  | a :: l, i + 1 => by
    have := sumN_take_le f l i
    simp only [List.take_succ_cons, sumN]; omega
theorem flatten_take_len {α : Type} : ∀ (ls : List (List α)), ls.flatten.length = sumN List.length ls
  | [] => rfl
  | l :: ls => by simp [sumN, flatten_take_len ls]
theorem slices_Grow_int_F_nil_n (n : Int) (h0 : 0 ≤ n) (h : n < 1073741824) (k) : call slices_Grow_int_F_nil [.nil 3 1, .one (I n)] k = k [ints []] := call_of (fun k => by
  have w0 : IntKind.i64.wrap 0 = 0 := wr_eq (by omega) (by omega)
  have w1 : IntKind.i64.wrap n = n := wr_eq (by omega) (by omega)
  simp [slices_Grow_int_F_nil, w0, w1, show ¬ n < 0 by omega, natP, makeP, cutP]
  by_cases hn : 0 < n
  · simp [hn, h, h0, show n ≤ 1073741823 by omega, show 0 ≤ max n 0 by omega, ints]
  · simp [hn, ints]) k
theorem flatRows_ints (l : List Int) : flatRows (ints l) := by
  intro r hr p hp
  obtain ⟨x, _, rfl⟩ := List.mem_map.1 hr
  simp [rI] at hp
  subst hp; rfl
theorem slices_Concat_int_n (ls : List (List Int)) (h : ls.length + sumN List.length ls < 100000000) (k) : call slices_Concat_int [.one (.list 1 (ls.map fun l => [ints l]))] k = k [ints ls.flatten] := call_of (fun k => by
  simp only [slices_Concat_int, lenP_eq, List.length_map, atP_zero]
  let L : PV := .list 1 (ls.map fun l => [ints l])
  refine lp_list (fin := k [ints ls.flatten]) ls (fun i => [L, I ((sumN List.length (ls.take i) : Nat) : Int), L, I ls.length, I i, .list 1 []]) (by simp [sumN, L]) (fun i x hx hi K => ?_) (fun K => ?_)
  · have e1 := sumN_take_succ List.length ls i x hx
    have e2 := sumN_take_le List.length ls (i + 1)
    have w1 : IntKind.i64.wrap (((sumN List.length (ls.take i) : Nat) : Int) + (x.length : Int)) = ((sumN List.length (ls.take (i + 1)) : Nat) : Int) := by
      rw [e1]; rw [wr_eq (by omega) (by omega)]; omega
    simp [-getElem?_pos, slices_Concat_int_r0, hx, hi, L, w1, wr_succ (show i < 1000000000000000000 by omega), show ¬ (((sumN List.length (ls.take (i + 1)) : Nat) : Int) < 0) by omega]
  · simp only [slices_Concat_int_r0, un, cur0, binP_lss, iteP_eq, lenP_eq, L, List.take_length]
    simp [slices_Grow_int_F_nil_n ((sumN List.length ls : Nat) : Int) (by omega) (by omega)]
    refine lp_list (fin := k [ints ls.flatten]) ls (fun i => [L, I ((sumN List.length ls : Nat) : Int), L, I ls.length, I ls.length, L, I ls.length, I i, ints (ls.take i).flatten, .list 1 []]) (by simp [L]) (fun i x hx hi K => ?_) fun K => ?_
    · have e1 := sumN_take_succ List.length ls i x hx
      have e2 := sumN_take_le List.length ls (i + 1)
      have e3 : (ls.take (i + 1)).flatten = (ls.take i).flatten ++ x := by
        rw [List.take_add_one, hx]; simp
      have e4 := flatten_take_len (ls.take i)
      have e5 : (ls.take i).flatten.length + x.length < 1073741824 := by omega
      show _ ↔ K [L, I ((sumN List.length ls : Nat) : Int), L, I ls.length, I ls.length, L, I ls.length, I ((i + 1 : Nat) : Int), ints (ls.take (i + 1)).flatten, .list 1 []]
      rw [e3]
      generalize (ls.take i).flatten = A at e5
      rw [show ints (A ++ x) = PV.list 1 (A.map rI ++ x.map rI) by simp [ints]]
      simp [-getElem?_pos, slices_Concat_int_r1, hx, hi, L, flatRows_ints, catP, wr_succ (show i < 1000000000000000000 by omega), e5]
    · simp [slices_Concat_int_r1, L]) k
/-! ### Keys and heads as numbers -/
def keysInts (a : GKeys) : List Int := a.Need :: (a.Lst.length : Int) :: a.Lst
def bitI (b : Bool) : Int := if b = true then 1 else 0
def headInts (a : GHead) : List Int :=
  [a.Zone, a.Epoch, a.Kind, a.Time, a.Until, a.Count, a.Root, a.Prev] ++ (keysInts a.Keys ++ (keysInts a.Heirs ++ ([a.Wait] ++ (keysInts a.Judge ++ [bitI a.Frozen]))))
theorem app_len {α : Type} {l m r s : List α} (h : l.length = m.length) : l ++ r = m ++ s ↔ l = m ∧ r = s :=
  ⟨fun e => List.append_inj e h, fun ⟨a, b⟩ => by rw [a, b]⟩
theorem keysInts_inj {a b : GKeys} {r s : List Int} : keysInts a ++ r = keysInts b ++ s ↔ a = b ∧ r = s := by
  obtain ⟨l, n⟩ := a
  obtain ⟨m, q⟩ := b
  simp only [keysInts, List.cons_append, List.cons.injEq, GKeys.mk.injEq]
  constructor
  · rintro ⟨rfl, h1, h2⟩
    obtain ⟨rfl, rfl⟩ := (app_len (by omega)).1 h2
    exact ⟨⟨rfl, rfl⟩, rfl⟩
  · rintro ⟨⟨rfl, rfl⟩, rfl⟩; exact ⟨rfl, rfl, rfl⟩
theorem bitI_inj {a b : Bool} : bitI a = bitI b ↔ a = b := by cases a <;> cases b <;> simp [bitI]
theorem headInts_inj {a b : GHead} : headInts a = headInts b ↔ a = b := by
  obtain ⟨a1, a2, a3, a4, a5, a6, a7, a8, a9, a10, a11, a12, a13⟩ := a
  obtain ⟨b1, b2, b3, b4, b5, b6, b7, b8, b9, b10, b11, b12, b13⟩ := b
  simp only [headInts, List.cons_append, List.nil_append, List.cons.injEq, keysInts_inj, bitI_inj, GHead.mk.injEq, and_true]
theorem fc_int (n : Int) : flatCond [.pv (I 0)] [.pv (I n)] := by intro x hx; simp at hx; subst hx; rfl
theorem spec_KeysInts_n (a : GKeys) (h : mKeys a ≤ 1048576) (k) : call spec_KeysInts [.agg (eKeys a)] k = k [ints (keysInts a)] := call_of (fun k => by
  unfold mKeys at h
  simp [spec_KeysInts, keysInts, flatRows_ints, fc_int, catP, show 2 + a.Lst.length < 1073741824 by omega]
  exact Iff.rfl) k
theorem impl_KeysInts_n (a : GKeys) (h : mKeys a ≤ 1048576) (k) : call impl_KeysInts [.agg (eKeys a)] k = k [ints (keysInts a)] := call_of (fun k => by
  unfold mKeys at h
  simp [impl_KeysInts, keysInts, flatRows_ints, fc_int, catP, show 2 + a.Lst.length < 1073741824 by omega]
  exact Iff.rfl) k
theorem impl_bit_n (b : Bool) (k) : call impl_bit [.one (.bool b)] k = k [I (bitI b)] := call_of (fun k => by
  cases b <;> simp [impl_bit, bitI]) k
theorem keysInts_len (a : GKeys) : (keysInts a).length = 2 + a.Lst.length := by simp [keysInts]; omega
theorem fc_own (i : Nat) : flatCond [.nil 3 1] [.own i] := by intro x hx; simp at hx; subst hx; trivial
theorem impl_HeadInts_n (a : GHead) (h : mHead a ≤ 1048576) (k) : call impl_HeadInts [.agg (eHead a)] k = k [ints (headInts a)] := call_of (fun k => by
  unfold mHead at h
  have k1 := impl_KeysInts_n a.Keys (by omega)
  have k2 := impl_KeysInts_n a.Heirs (by omega)
  have k3 := impl_KeysInts_n a.Judge (by omega)
  have l1 := keysInts_len a.Keys
  have l2 := keysInts_len a.Heirs
  have l3 := keysInts_len a.Judge
  unfold mKeys at h
  have c := slices_Concat_int_n [[a.Zone, a.Epoch, a.Kind, a.Time, a.Until, a.Count, a.Root, a.Prev], keysInts a.Keys, keysInts a.Heirs, [a.Wait], keysInts a.Judge, [bitI a.Frozen]] (by
    simp only [sumN, List.length_cons, List.length_nil, l1, l2, l3]; omega) (fun o => k [atP o 0])
  simp only [impl_HeadInts, un, cur0, k1, k2, k3, impl_bit_n, fc_int, fc_own, atP_zero, true_and, and_true, rt_eq, scs_own, show (1 : Nat) ≤ 16777216 by omega, show (2 : Nat) ≤ 16777216 by omega, show (6 : Nat) ≤ 16777216 by omega, show (8 : Nat) ≤ 16777216 by omega, scs_nil]
  exact iff_of_eq c) k
theorem spec_HeadInts_n (a : GHead) (h : mHead a ≤ 1048576) (k) : call spec_HeadInts [.agg (eHead a)] k = k [ints (headInts a)] := call_of (fun k => by
  unfold mHead at h
  have k1 := spec_KeysInts_n a.Keys (by omega)
  have k2 := spec_KeysInts_n a.Heirs (by omega)
  have k3 := spec_KeysInts_n a.Judge (by omega)
  have l1 := keysInts_len a.Keys
  have l2 := keysInts_len a.Heirs
  have l3 := keysInts_len a.Judge
  unfold mKeys at h
  simp only [spec_HeadInts, un, cur0, k1, k2, k3, fc_int, atP_zero, true_and, and_true, rt_eq, show (8 : Nat) ≤ 16777216 by omega, scs_nil]
  have e : ints (headInts a) = PV.list 1 (([[I a.Zone], [I a.Epoch], [I a.Kind], [I a.Time], [I a.Until], [I a.Count], [I a.Root], [I a.Prev]] ++ ((keysInts a.Keys).map rI ++ ((keysInts a.Heirs).map rI ++ ([[I a.Wait]] ++ ((keysInts a.Judge).map rI ++ [[I (bitI a.Frozen)]])))))) := by
    simp [ints, headInts]
  rw [e]
  cases hf : a.Frozen <;> simp [catP, l1, l2, l3, fc_int, bitI]

  all_goals exact ⟨fun h => h.2.2.2.2.2, fun h => ⟨by omega, by omega, by omega, by omega, by omega, h⟩⟩) k
/-! ### Comparing -/
deriving instance DecidableEq for GKeys, GHead, GSig, GSigned, GFork, GEntry, GProof, GGap, GAnswer, GZone, GKnown, GServer, GActor, GSaid, GStored, GCache, GWorld
theorem listEq_dec {α : Type} [DecidableEq α] {eq : α → α → Bool} (h : ∀ x y, eq x y = decide (x = y)) : ∀ (l m : List α), listEq eq l m = decide (l = m)
  | [], [] => by simp [listEq]
  | [], y :: m => by simp [listEq]
  | x :: l, [] => by simp [listEq]
  | x :: l, y :: m => by rw [listEq, listEq_dec h l m, h]; simp [Bool.decide_and]
end Go.Ev
set_option linter.unusedVariables false
set_option linter.unusedSimpArgs false
set_option maxRecDepth 4000
namespace Go.Ev
open Go.Proofs
abbrev eqD {α : Type} [DecidableEq α] (x y : α) : Bool := decide (x = y)
theorem listEq_d {α : Type} [DecidableEq α] (l m : List α) : listEq eqD l m = decide (l = m) := listEq_dec (fun _ _ => rfl) l m
theorem len_ne {α : Type} [DecidableEq α] {l m : List α} (h : ¬ l.length = m.length) : decide (l = m) = false := by simp; intro e; subst e; exact h rfl
theorem slices_Equal_int_n (l m : List Int) (h : l.length < 1073741824) (k) : call slices_Equal_int [.one (ints l), .one (ints m)] k = k [.bool (decide (l = m))] := call_of (fun k => by
  simp [slices_Equal_int]
  by_cases hl : l.length = m.length
  · rw [← listEq_d]
    simp [hl]
    refine lp_zipk k l m (fun i => [ints l, ints m, .bool false, I m.length, I i]) eqD rfl hl (fun i x y hx hy hi hj K => ?_) fun K => ?_
    · simp [-getElem?_pos, slices_Equal_int_r0, hx, hy, hj, wr_succ (show i < 1000000000000000000 by omega)]
    · simp [slices_Equal_int_r0, hl]
  · simp [show ¬ (l.length : Int) = m.length by omega, len_ne hl]) k
theorem spec_EqualInts_n (l m : List Int) (h : l.length < 1073741824) (k) : call spec_EqualInts [.one (ints l), .one (ints m)] k = k [.bool (decide (l = m))] := call_of (fun k => by
  simp [spec_EqualInts]
  by_cases hl : l.length = m.length
  · rw [← listEq_d]
    simp [hl]
    refine lp_zipk k l m (fun i => [ints l, ints m, .bool false, I i]) eqD rfl hl (fun i x y hx hy hi hj K => ?_) fun K => ?_
    · simp [-getElem?_pos, spec_EqualInts_r0, hx, hy, hi, wr_succ (show i < 1000000000000000000 by omega)]
    · simp [spec_EqualInts_r0]
  · simp [show ¬ (l.length : Int) = m.length by omega, len_ne hl]) k
theorem impl_EqualKeys_n (a b : GKeys) (h : mKeys a ≤ 1048576) (k) : call impl_EqualKeys [.agg (eKeys a), .agg (eKeys b)] k = k [.bool (decide (a = b))] := call_of (fun k => by
  unfold mKeys at h
  obtain ⟨l, n⟩ := a
  obtain ⟨m, q⟩ := b
  simp [impl_EqualKeys, slices_Equal_int_n l m (by simp at h; omega)]
  by_cases hl : l = m <;> by_cases hn : n = q <;> simp [hl, hn, show (n == q) = decide (n = q) from rfl]) k
theorem headInts_len (a : GHead) : (headInts a).length = 16 + mHead a := by simp [headInts, keysInts, mHead, mKeys]; omega
theorem impl_EqualHeads_n (a b : GHead) (h : mHead a ≤ 1048576) (h' : mHead b ≤ 1048576) (k) : call impl_EqualHeads [.agg (eHead a), .agg (eHead b)] k = k [.bool (decide (a = b))] := call_of (fun k => by
  have i1 := impl_HeadInts_n a h
  have i2 := impl_HeadInts_n b h'
  have hl := headInts_len a
  have e := slices_Equal_int_n (headInts a) (headInts b) (by omega)
  unfold mHead at h
  have k1 := impl_EqualKeys_n a.Keys b.Keys (by omega)
  have k2 := impl_EqualKeys_n a.Heirs b.Heirs (by omega)
  have k3 := impl_EqualKeys_n a.Judge b.Judge (by omega)
  simp only [impl_EqualHeads, un, cur0, k1, k2, k3, i1, i2, e, atP_zero, iteP_eq, rt_eq, scs_sc, scs_nil, flat_bool, true_and, and_true, headInts_inj]
  by_cases hk : a = b
  · subst hk; simp
  · simp [hk]) k
theorem spec_EqualHeads_n (a b : GHead) (h : mHead a ≤ 1048576) (h' : mHead b ≤ 1048576) (k) : call spec_EqualHeads [.agg (eHead a), .agg (eHead b)] k = k [.bool (decide (a = b))] := call_of (fun k => by
  have i1 := spec_HeadInts_n a h
  have i2 := spec_HeadInts_n b h'
  have hl := headInts_len a
  have e := spec_EqualInts_n (headInts a) (headInts b) (by omega)
  simp only [spec_EqualHeads, un, cur0, i1, i2, e, atP_zero, iteP_eq, boolP, rt_eq, scs_sc, scs_nil, flat_bool, true_and, and_true, headInts_inj]
  by_cases hk : a = b
  · subst hk; simp
  · simp [hk]) k
abbrev sigs (l : List GSig) : PV := .list 2 (l.map eSig)
theorem slices_Equal_Sig_n (l m : List GSig) (h : l.length < 1073741824) (k) : call slices_Equal_Sig [.one (sigs l), .one (sigs m)] k = k [.bool (decide (l = m))] := call_of (fun k => by
  simp [slices_Equal_Sig]
  by_cases hl : l.length = m.length
  · rw [← listEq_d]
    simp [hl]
    refine lp_zipk k l m (fun i => [sigs l, sigs m, .bool false, I m.length, I i]) eqD rfl hl (fun i x y hx hy hi hj K => ?_) fun K => ?_
    · obtain ⟨a, b⟩ := x
      obtain ⟨c, d⟩ := y
      simp [-getElem?_pos, slices_Equal_Sig_r0, hx, hy, hj, wr_succ (show i < 1000000000000000000 by omega), aggP, sames, PV.same, kindsP, kindP]
    · simp [slices_Equal_Sig_r0, hl]
  · simp [show ¬ (l.length : Int) = m.length by omega, len_ne hl]) k
theorem impl_EqualSigned_n (a b : GSigned) (h : mSigned a ≤ 1048576) (h' : mSigned b ≤ 1048576) (k) : call impl_EqualSigned [.agg (eSigned a), .agg (eSigned b)] k = k [.bool (decide (a = b))] := call_of (fun k => by
  unfold mSigned at h h'
  have e1 := impl_EqualHeads_n a.Head b.Head (by omega) (by omega)
  have e2 := slices_Equal_Sig_n a.Sigs b.Sigs (by omega)
  obtain ⟨x, l⟩ := a
  obtain ⟨y, m⟩ := b
  simp only at e1 e2
  simp only [impl_EqualSigned, un, cur0, e1, e2, atP_zero, iteP_eq, rt_eq, scs_sc, scs_nil, flat_bool, true_and, and_true, GSigned.mk.injEq, Bool.decide_and]
  by_cases hk : x = y <;> simp [hk]) k
theorem spec_EqualSigned_n (a b : GSigned) (h : mSigned a ≤ 1048576) (h' : mSigned b ≤ 1048576) (k) : call spec_EqualSigned [.agg (eSigned a), .agg (eSigned b)] k = k [.bool (decide (a = b))] := call_of (fun k => by
  unfold mSigned at h h'
  have e1 := spec_EqualHeads_n a.Head b.Head (by omega) (by omega)
  obtain ⟨x, l⟩ := a
  obtain ⟨y, m⟩ := b
  simp only at e1 h h'
  simp only [spec_EqualSigned, un, cur0, e1, atP_zero, iteP_eq, rt_eq, scs_sc, scs_nil, flat_bool, true_and, and_true, GSigned.mk.injEq, Bool.decide_and]
  by_cases hk : x = y
  · subst hk
    simp
    by_cases hl : l.length = m.length
    · rw [← listEq_d]
      simp [hl]
      refine lp_zipk k l m (fun i => [.bool false, I i] ++ eHead x ++ [sigs m] ++ eHead x ++ [sigs l]) eqD rfl hl (fun i x y hx hy hi hj K => ?_) fun K => ?_
      · obtain ⟨a, b⟩ := x
        obtain ⟨c, d⟩ := y
        simp [-getElem?_pos, spec_EqualSigned_r0, hx, hy, hi, wr_succ (show i < 1000000000000000000 by omega), aggP, sames, PV.same, kindsP, kindP]
      · simp [spec_EqualSigned_r0, hl]
    · simp [show ¬ (l.length : Int) = m.length by omega, len_ne hl]
  · simp [hk]) k
end Go.Ev
set_option linter.unusedVariables false
set_option linter.unusedSimpArgs false
set_option maxRecDepth 4000
namespace Go.Ev
open Go.Proofs
theorem mem_get {α : Type} {l : List α} {i : Nat} {x : α} (h : l[i]? = some x) : x ∈ l := List.mem_of_getElem? h
theorem spec_SamePath_n (l m : List ByteArray) (h : l.length + sumN ByteArray.size l ≤ 1048576) (h' : m.length + sumN ByteArray.size m ≤ 1048576) (k) : call spec_SamePath [.one (.list 1 (l.map rS)), .one (.list 1 (m.map rS))] k = k [.bool (decide (l = m))] := call_of (fun k => by
  simp [spec_SamePath]
  by_cases hl : l.length = m.length
  · rw [← listEq_d]
    simp [hl]
    refine lp_zipk k l m (fun i => [.list 1 (l.map rS), .list 1 (m.map rS), .bool false, I i]) eqD rfl hl (fun i x y hx hy hi hj K => ?_) fun K => ?_
    · have s1 := sumN_mem (s := ByteArray.size) (mem_get hx)
      have s2 := sumN_mem (s := ByteArray.size) (mem_get hy)
      simp [-getElem?_pos, spec_SamePath_r0, hx, hy, hi, wr_succ (show i < 1000000000000000000 by omega)]
      all_goals (by_cases hxy : x = y <;> simp [hxy])
    · simp [spec_SamePath_r0]
  · simp [show ¬ (l.length : Int) = m.length by omega, len_ne hl]) k
theorem slices_Equal_string_n (l m : List ByteArray) (h : l.length < 1073741824) (k) : call slices_Equal_string [.one (strs l), .one (strs m)] k = k [.bool (decide (l = m))] := call_of (fun k => by
  simp [slices_Equal_string]
  by_cases hl : l.length = m.length
  · rw [← listEq_d]
    simp [hl]
    refine lp_zipk k l m (fun i => [strs l, strs m, .bool false, I m.length, I i]) eqD rfl hl (fun i x y hx hy hi hj K => ?_) fun K => ?_
    · simp [-getElem?_pos, slices_Equal_string_r0, hx, hy, hj, wr_succ (show i < 1000000000000000000 by omega)]
      all_goals (by_cases hxy : x = y <;> simp [hxy])
    · simp [slices_Equal_string_r0, hl]
  · simp [show ¬ (l.length : Int) = m.length by omega, len_ne hl]) k
theorem impl_EqualEntries_n (a b : GEntry) (h : mEntry a ≤ 1048576) (h' : mEntry b ≤ 1048576) (k) : call impl_EqualEntries [.agg (eEntry a), .agg (eEntry b)] k = k [.bool (decide (a = b))] := call_of (fun k => by
  unfold mEntry at h h'
  obtain ⟨a1, a2, a3, l⟩ := a
  obtain ⟨b1, b2, b3, m⟩ := b
  simp only at h h'
  have e := slices_Equal_string_n l m (by omega)
  simp [impl_EqualEntries, e]
  by_cases h1 : a1 = b1 <;> by_cases h2 : a2 = b2 <;> by_cases h3 : a3 = b3 <;> simp [h1, h2, h3]) k
theorem spec_EqualEntries_n (a b : GEntry) (h : mEntry a ≤ 1048576) (h' : mEntry b ≤ 1048576) (k) : call spec_EqualEntries [.agg (eEntry a), .agg (eEntry b)] k = k [.bool (decide (a = b))] := call_of (fun k => by
  unfold mEntry at h h'
  obtain ⟨a1, a2, a3, l⟩ := a
  obtain ⟨b1, b2, b3, m⟩ := b
  simp only at h h'
  have e := spec_SamePath_n l m (by omega) (by omega)
  simp [spec_EqualEntries, e]
  by_cases h1 : a1 = b1 <;> by_cases h2 : a2 = b2 <;> by_cases h3 : a3 = b3 <;> simp [h1, h2, h3]) k
theorem impl_EqualProofs_n (a b : GProof) (h : mProof a ≤ 1048576) (h' : mProof b ≤ 1048576) (k) : call impl_EqualProofs [.agg (eProof a), .agg (eProof b)] k = k [.bool (decide (a = b))] := call_of (fun k => by
  unfold mProof at h h'
  obtain ⟨a1, l⟩ := a
  obtain ⟨b1, m⟩ := b
  simp only at h h'
  have e := slices_Equal_int_n l m (by omega)
  simp [impl_EqualProofs, e]
  by_cases h1 : a1 = b1 <;> simp [h1]) k
theorem impl_EqualGaps_n (a b : GGap) (h : mGap a ≤ 1048576) (h' : mGap b ≤ 1048576) (k) : call impl_EqualGaps [.agg (eGap a), .agg (eGap b)] k = k [.bool (decide (a = b))] := call_of (fun k => by
  unfold mGap at h h'
  obtain ⟨a1, a2, a3, a4, a5⟩ := a
  obtain ⟨b1, b2, b3, b4, b5⟩ := b
  simp only at h h'
  have e2 := impl_EqualEntries_n a2 b2 (by omega) (by omega)
  have e3 := impl_EqualEntries_n a3 b3 (by omega) (by omega)
  have e4 := impl_EqualProofs_n a4 b4 (by omega) (by omega)
  have e5 := impl_EqualProofs_n a5 b5 (by omega) (by omega)
  simp [impl_EqualGaps, e2, e3, e4, e5]
  by_cases h1 : a1 = b1 <;> by_cases h2 : a2 = b2 <;> by_cases h3 : a3 = b3 <;> by_cases h4 : a4 = b4 <;> simp [h1, h2, h3, h4]) k
theorem spec_EqualProofs_n (a b : GProof) (h : mProof a ≤ 1048576) (h' : mProof b ≤ 1048576) (k) : call spec_EqualProofs [.agg (eProof a), .agg (eProof b)] k = k [.bool (decide (a = b))] := call_of (fun k => by
  unfold mProof at h h'
  obtain ⟨a1, l⟩ := a
  obtain ⟨b1, m⟩ := b
  simp only at h h'
  have e := spec_EqualInts_n l m (by omega)
  simp [spec_EqualProofs, e]
  by_cases h1 : a1 = b1 <;> simp [h1]) k
theorem spec_EqualGaps_n (a b : GGap) (h : mGap a ≤ 1048576) (h' : mGap b ≤ 1048576) (k) : call spec_EqualGaps [.agg (eGap a), .agg (eGap b)] k = k [.bool (decide (a = b))] := call_of (fun k => by
  unfold mGap at h h'
  obtain ⟨a1, a2, a3, a4, a5⟩ := a
  obtain ⟨b1, b2, b3, b4, b5⟩ := b
  simp only at h h'
  have e2 := spec_EqualEntries_n a2 b2 (by omega) (by omega)
  have e3 := spec_EqualEntries_n a3 b3 (by omega) (by omega)
  have e4 := spec_EqualProofs_n a4 b4 (by omega) (by omega)
  have e5 := spec_EqualProofs_n a5 b5 (by omega) (by omega)
  simp [spec_EqualGaps, e2, e3, e4, e5]
  by_cases h1 : a1 = b1 <;> by_cases h2 : a2 = b2 <;> by_cases h3 : a3 = b3 <;> by_cases h4 : a4 = b4 <;> simp [h1, h2, h3, h4]) k
theorem slices_EqualFunc_Entry_F_impl_EqualEntries_n (l m : List GEntry) (h : l.length + sumN mEntry l ≤ 1048576) (h' : m.length + sumN mEntry m ≤ 1048576) (k) : call slices_EqualFunc_Entry_F_impl_EqualEntries [.one (.list 4 (l.map eEntry)), .one (.list 4 (m.map eEntry)), .fn 152 []] k = k [.bool (decide (l = m))] := call_of (fun k => by
  simp [slices_EqualFunc_Entry_F_impl_EqualEntries]
  by_cases hl : l.length = m.length
  · rw [← listEq_d]
    simp [hl]
    refine lp_zipk k l m (fun i => [.list 4 (m.map eEntry), .bool false, .list 4 (l.map eEntry), I m.length, I i]) eqD rfl hl (fun i x y hx hy hi hj K => ?_) fun K => ?_
    · have s1 := sumN_mem (s := mEntry) (mem_get hx)
      have s2 := sumN_mem (s := mEntry) (mem_get hy)
      have e := impl_EqualEntries_n x y (by omega) (by omega)
      simp [-getElem?_pos, slices_EqualFunc_Entry_F_impl_EqualEntries_r0, hx, hy, hj, e, wr_succ (show i < 1000000000000000000 by omega)]
      all_goals (by_cases hxy : x = y <;> simp [hxy])
    · simp [slices_EqualFunc_Entry_F_impl_EqualEntries_r0, hl]
  · simp [show ¬ (l.length : Int) = m.length by omega, len_ne hl]) k
theorem slices_EqualFunc_Signed_1_F_impl_EqualSigned_n (l m : List GSigned) (h : l.length + sumN mSigned l ≤ 1048576) (h' : m.length + sumN mSigned m ≤ 1048576) (k) : call slices_EqualFunc_Signed_1_F_impl_EqualSigned [.one (.list 17 (l.map eSigned)), .one (.list 17 (m.map eSigned)), .fn 214 []] k = k [.bool (decide (l = m))] := call_of (fun k => by
  simp [slices_EqualFunc_Signed_1_F_impl_EqualSigned]
  by_cases hl : l.length = m.length
  · rw [← listEq_d]
    simp [hl]
    refine lp_zipk k l m (fun i => [.list 17 (m.map eSigned), .bool false, .list 17 (l.map eSigned), I m.length, I i]) eqD rfl hl (fun i x y hx hy hi hj K => ?_) fun K => ?_
    · have s1 := sumN_mem (s := mSigned) (mem_get hx)
      have s2 := sumN_mem (s := mSigned) (mem_get hy)
      have e := impl_EqualSigned_n x y (by omega) (by omega)
      simp [-getElem?_pos, slices_EqualFunc_Signed_1_F_impl_EqualSigned_r0, hx, hy, hj, e, wr_succ (show i < 1000000000000000000 by omega)]
      all_goals (by_cases hxy : x = y <;> simp [hxy])
    · simp [slices_EqualFunc_Signed_1_F_impl_EqualSigned_r0, hl]
  · simp [show ¬ (l.length : Int) = m.length by omega, len_ne hl]) k
theorem spec_SameEntries_n (l m : List GEntry) (h : l.length + sumN mEntry l ≤ 1048576) (h' : m.length + sumN mEntry m ≤ 1048576) (k) : call spec_SameEntries [.one (.list 4 (l.map eEntry)), .one (.list 4 (m.map eEntry))] k = k [.bool (decide (l = m))] := call_of (fun k => by
  simp [spec_SameEntries]
  by_cases hl : l.length = m.length
  · rw [← listEq_d]
    simp [hl]
    refine lp_zipk k l m (fun i => [.list 4 (l.map eEntry), .list 4 (m.map eEntry), .bool false, I i]) eqD rfl hl (fun i x y hx hy hi hj K => ?_) fun K => ?_
    · have s1 := sumN_mem (s := mEntry) (mem_get hx)
      have s2 := sumN_mem (s := mEntry) (mem_get hy)
      have e := spec_EqualEntries_n x y (by omega) (by omega)
      simp [-getElem?_pos, spec_SameEntries_r0, hx, hy, hi, e, wr_succ (show i < 1000000000000000000 by omega)]
      all_goals (by_cases hxy : x = y <;> simp [hxy])
    · simp [spec_SameEntries_r0]
  · simp [show ¬ (l.length : Int) = m.length by omega, len_ne hl]) k
theorem impl_SameEntries_n (l m : List GEntry) (h : mEntryS l ≤ 1048576) (h' : mEntryS m ≤ 1048576) (k) : call impl_SameEntries [.one (.list 4 (l.map eEntry)), .one (.list 4 (m.map eEntry))] k = k [.bool (decide (l = m))] := call_of (fun k => by
  have e := slices_EqualFunc_Entry_F_impl_EqualEntries_n l m h h'
  simp [impl_SameEntries, e]) k
theorem impl_sameChain_n (l m : List GSigned) (h : mSignedS l ≤ 1048576) (h' : mSignedS m ≤ 1048576) (k) : call impl_sameChain [.one (.list 17 (l.map eSigned)), .one (.list 17 (m.map eSigned))] k = k [.bool (decide (l = m))] := call_of (fun k => by
  have e := slices_EqualFunc_Signed_1_F_impl_EqualSigned_n l m h h'
  simp [impl_sameChain, e]) k
theorem impl_EqualZones_n (a b : GZone) (h : mZone a ≤ 1048576) (h' : mZone b ≤ 1048576) (k) : call impl_EqualZones [.agg (eZone a), .agg (eZone b)] k = k [.bool (decide (a = b))] := call_of (fun k => by
  unfold mZone at h h'
  obtain ⟨a1, a2⟩ := a
  obtain ⟨b1, b2⟩ := b
  simp only at h h'
  have e1 := impl_sameChain_n a1 b1 (by omega) (by omega)
  have e2 := impl_SameEntries_n a2 b2 (by omega) (by omega)
  simp [impl_EqualZones, e1, e2]
  by_cases h1 : a1 = b1 <;> simp [h1]) k
theorem spec_EqualZones_n (a b : GZone) (h : mZone a ≤ 1048576) (h' : mZone b ≤ 1048576) (k) : call spec_EqualZones [.agg (eZone a), .agg (eZone b)] k = k [.bool (decide (a = b))] := call_of (fun k => by
  unfold mZone mSignedS mEntryS at h h'
  obtain ⟨l, a2⟩ := a
  obtain ⟨m, b2⟩ := b
  simp only at h h'
  have e2 := spec_SameEntries_n a2 b2 (by omega) (by omega)
  simp [spec_EqualZones, e2]
  by_cases hl : l.length = m.length
  · by_cases h2 : a2 = b2
    · simp [hl, h2]
      rw [← listEq_d]
      refine lp_zipk k l m (fun i => [.bool false, I i, .list 17 (m.map eSigned), .list 4 (b2.map eEntry), .list 17 (l.map eSigned), .list 4 (b2.map eEntry)]) eqD rfl hl (fun i x y hx hy hi hj K => ?_) fun K => ?_
      · have s1 := sumN_mem (s := mSigned) (mem_get hx)
        have s2 := sumN_mem (s := mSigned) (mem_get hy)
        have e := spec_EqualSigned_n x y (by omega) (by omega)
        simp [-getElem?_pos, spec_EqualZones_r0, hx, hy, hi, e, wr_succ (show i < 1000000000000000000 by omega)]
        all_goals (by_cases hxy : x = y <;> simp [hxy])
      · simp [spec_EqualZones_r0, hl]
    · simp [hl, h2]
  · have : ¬ l = m := fun e => hl (by rw [e])
    simp [show ¬ (l.length : Int) = m.length by omega, this]) k
theorem spec_EqualZones_c (a b : List GSigned) (h : mSignedS a ≤ 1048576) (h' : mSignedS b ≤ 1048576) (k) : call spec_EqualZones [.agg [.list 17 (a.map eSigned), .list 4 []], .agg [.list 17 (b.map eSigned), .list 4 []]] k = k [.bool (decide (a = b))] := by
  have e := spec_EqualZones_n ⟨a, []⟩ ⟨b, []⟩ (by simp [mZone, mEntryS, sumN]; omega) (by simp [mZone, mEntryS, sumN]; omega) k
  exact e.trans (by simp)
theorem impl_EqualForks_n (a b : GFork) (h : mFork a ≤ 1048576) (h' : mFork b ≤ 1048576) (k) : call impl_EqualForks [.agg (eFork a), .agg (eFork b)] k = k [.bool (decide (a = b))] := call_of (fun k => by
  unfold mFork at h h'
  obtain ⟨a1, a2, a3⟩ := a
  obtain ⟨b1, b2, b3⟩ := b
  simp only at h h'
  have e1 := impl_EqualSigned_n a1 b1 (by omega) (by omega)
  have e2 := impl_EqualSigned_n a2 b2 (by omega) (by omega)
  have e3 := impl_EqualSigned_n a3 b3 (by omega) (by omega)
  simp [impl_EqualForks, e1, e2, e3]
  by_cases h1 : a1 = b1 <;> by_cases h2 : a2 = b2 <;> simp [h1, h2]) k
theorem spec_EqualForks_n (a b : GFork) (h : mFork a ≤ 1048576) (h' : mFork b ≤ 1048576) (k) : call spec_EqualForks [.agg (eFork a), .agg (eFork b)] k = k [.bool (decide (a = b))] := call_of (fun k => by
  unfold mFork at h h'
  obtain ⟨a1, a2, a3⟩ := a
  obtain ⟨b1, b2, b3⟩ := b
  simp only at h h'
  have e1 := spec_EqualSigned_n a1 b1 (by omega) (by omega)
  have e2 := spec_EqualSigned_n a2 b2 (by omega) (by omega)
  have e3 := spec_EqualSigned_n a3 b3 (by omega) (by omega)
  simp [spec_EqualForks, e1, e2, e3]
  by_cases h1 : a1 = b1 <;> by_cases h2 : a2 = b2 <;> simp [h1, h2]) k
theorem impl_EqualActors_1_n (a b : GActor) (h : mActor a ≤ 1048576) (h' : mActor b ≤ 1048576) (k) : call impl_EqualActors_1 [.agg (eActor a), .agg (eActor b)] k = k [.bool (decide (a = b))] := call_of (fun k => by
  unfold mActor at h h'
  obtain ⟨l⟩ := a
  obtain ⟨m⟩ := b
  simp only at h h'
  have e := slices_Equal_int_n l m (by omega)
  simp [impl_EqualActors_1, e]) k
theorem spec_EqualInts_a_n (x y : GActor) (h : mActor x ≤ 1048576) (h' : mActor y ≤ 1048576) (k) : call spec_EqualInts [.one (ints x.Held), .one (ints y.Held)] k = k [.bool (decide (x = y))] := by
  unfold mActor at h h'
  obtain ⟨l⟩ := x
  obtain ⟨m⟩ := y
  simp only at h h'
  rw [spec_EqualInts_n l m (by omega)]
  simp
theorem slices_EqualFunc_Actor_F_impl_EqualActors_1_n (l m : List GActor) (h : l.length + sumN mActor l ≤ 1048576) (h' : m.length + sumN mActor m ≤ 1048576) (k) : call slices_EqualFunc_Actor_F_impl_EqualActors_1 [.one (.list 1 (l.map eActor)), .one (.list 1 (m.map eActor)), .fn 219 []] k = k [.bool (decide (l = m))] := call_of (fun k => by
  simp [slices_EqualFunc_Actor_F_impl_EqualActors_1]
  by_cases hl : l.length = m.length
  · rw [← listEq_d]
    simp [hl]
    refine lp_zipk k l m (fun i => [.list 1 (m.map eActor), .bool false, .list 1 (l.map eActor), I m.length, I i]) eqD rfl hl (fun i x y hx hy hi hj K => ?_) fun K => ?_
    · have s1 := sumN_mem (s := mActor) (mem_get hx)
      have s2 := sumN_mem (s := mActor) (mem_get hy)
      have e := impl_EqualActors_1_n x y (by omega) (by omega)
      simp [-getElem?_pos, slices_EqualFunc_Actor_F_impl_EqualActors_1_r0, hx, hy, hj, e, wr_succ (show i < 1000000000000000000 by omega)]
      all_goals (by_cases hxy : x = y <;> simp [hxy])
    · simp [slices_EqualFunc_Actor_F_impl_EqualActors_1_r0, hl]
  · simp [show ¬ (l.length : Int) = m.length by omega, len_ne hl]) k
theorem slices_EqualFunc_Zone_F_impl_EqualZones_n (l m : List GZone) (h : l.length + sumN mZone l ≤ 1048576) (h' : m.length + sumN mZone m ≤ 1048576) (k) : call slices_EqualFunc_Zone_F_impl_EqualZones [.one (.list 2 (l.map eZone)), .one (.list 2 (m.map eZone)), .fn 131 []] k = k [.bool (decide (l = m))] := call_of (fun k => by
  simp [slices_EqualFunc_Zone_F_impl_EqualZones]
  by_cases hl : l.length = m.length
  · rw [← listEq_d]
    simp [hl]
    refine lp_zipk k l m (fun i => [.list 2 (m.map eZone), .bool false, .list 2 (l.map eZone), I m.length, I i]) eqD rfl hl (fun i x y hx hy hi hj K => ?_) fun K => ?_
    · have s1 := sumN_mem (s := mZone) (mem_get hx)
      have s2 := sumN_mem (s := mZone) (mem_get hy)
      have e := impl_EqualZones_n x y (by omega) (by omega)
      simp [-getElem?_pos, slices_EqualFunc_Zone_F_impl_EqualZones_r0, hx, hy, hj, e, wr_succ (show i < 1000000000000000000 by omega)]
      all_goals (by_cases hxy : x = y <;> simp [hxy])
    · simp [slices_EqualFunc_Zone_F_impl_EqualZones_r0, hl]
  · simp [show ¬ (l.length : Int) = m.length by omega, len_ne hl]) k
theorem slices_EqualFunc_Fork_F_impl_EqualForks_n (l m : List GFork) (h : l.length + sumN mFork l ≤ 1048576) (h' : m.length + sumN mFork m ≤ 1048576) (k) : call slices_EqualFunc_Fork_F_impl_EqualForks [.one (.list 51 (l.map eFork)), .one (.list 51 (m.map eFork)), .fn 223 []] k = k [.bool (decide (l = m))] := call_of (fun k => by
  simp [slices_EqualFunc_Fork_F_impl_EqualForks]
  by_cases hl : l.length = m.length
  · rw [← listEq_d]
    simp [hl]
    refine lp_zipk k l m (fun i => [.list 51 (m.map eFork), .bool false, .list 51 (l.map eFork), I m.length, I i]) eqD rfl hl (fun i x y hx hy hi hj K => ?_) fun K => ?_
    · have s1 := sumN_mem (s := mFork) (mem_get hx)
      have s2 := sumN_mem (s := mFork) (mem_get hy)
      have e := impl_EqualForks_n x y (by omega) (by omega)
      simp [-getElem?_pos, slices_EqualFunc_Fork_F_impl_EqualForks_r0, hx, hy, hj, e, wr_succ (show i < 1000000000000000000 by omega)]
      all_goals (by_cases hxy : x = y <;> simp [hxy])
    · simp [slices_EqualFunc_Fork_F_impl_EqualForks_r0, hl]
  · simp [show ¬ (l.length : Int) = m.length by omega, len_ne hl]) k
theorem slices_EqualFunc_Signed_F_impl_sameChain_n (l m : List (List GSigned)) (h : l.length + sumN mSignedS l ≤ 1048576) (h' : m.length + sumN mSignedS m ≤ 1048576) (k) : call slices_EqualFunc_Signed_F_impl_sameChain [.one (.list 1 (l.map (fun l : List GSigned => [.list 17 (l.map eSigned)]))), .one (.list 1 (m.map (fun l : List GSigned => [.list 17 (l.map eSigned)]))), .fn 220 []] k = k [.bool (decide (l = m))] := call_of (fun k => by
  simp [slices_EqualFunc_Signed_F_impl_sameChain]
  by_cases hl : l.length = m.length
  · rw [← listEq_d]
    simp [hl]
    refine lp_zipk k l m (fun i => [.list 1 (m.map (fun l : List GSigned => [.list 17 (l.map eSigned)])), .bool false, .list 1 (l.map (fun l : List GSigned => [.list 17 (l.map eSigned)])), I m.length, I i]) eqD rfl hl (fun i x y hx hy hi hj K => ?_) fun K => ?_
    · have s1 := sumN_mem (s := mSignedS) (mem_get hx)
      have s2 := sumN_mem (s := mSignedS) (mem_get hy)
      have e := impl_sameChain_n x y (by omega) (by omega)
      simp [-getElem?_pos, slices_EqualFunc_Signed_F_impl_sameChain_r0, hx, hy, hj, e, wr_succ (show i < 1000000000000000000 by omega)]
      all_goals (by_cases hxy : x = y <;> simp [hxy])
    · simp [slices_EqualFunc_Signed_F_impl_sameChain_r0, hl]
  · simp [show ¬ (l.length : Int) = m.length by omega, len_ne hl]) k
theorem spec_EqualActors_n (l m : List GActor) (h : l.length + sumN mActor l ≤ 1048576) (h' : m.length + sumN mActor m ≤ 1048576) (k) : call spec_EqualActors [.one (.list 1 (l.map eActor)), .one (.list 1 (m.map eActor))] k = k [.bool (decide (l = m))] := call_of (fun k => by
  simp [spec_EqualActors]
  by_cases hl : l.length = m.length
  · rw [← listEq_d]
    simp [hl]
    refine lp_zipk k l m (fun i => [.list 1 (l.map eActor), .list 1 (m.map eActor), .bool false, I i]) eqD rfl hl (fun i x y hx hy hi hj K => ?_) fun K => ?_
    · have s1 := sumN_mem (s := mActor) (mem_get hx)
      have s2 := sumN_mem (s := mActor) (mem_get hy)
      have e := spec_EqualInts_a_n x y (by omega) (by omega)
      simp [-getElem?_pos, spec_EqualActors_r0, hx, hy, hi, e, wr_succ (show i < 1000000000000000000 by omega)]
      all_goals (by_cases hxy : x = y <;> simp [hxy])
    · simp [spec_EqualActors_r0]
  · simp [show ¬ (l.length : Int) = m.length by omega, len_ne hl]) k
theorem impl_EqualActors_n (l m : List GActor) (h : mActorS l ≤ 1048576) (h' : mActorS m ≤ 1048576) (k) : call impl_EqualActors [.one (.list 1 (l.map eActor)), .one (.list 1 (m.map eActor))] k = k [.bool (decide (l = m))] := call_of (fun k => by
  have e := slices_EqualFunc_Actor_F_impl_EqualActors_1_n l m h h'
  simp [impl_EqualActors, e]) k
theorem impl_EqualKnown_n (a b : GKnown) (h : mKnown a ≤ 1048576) (h' : mKnown b ≤ 1048576) (k) : call impl_EqualKnown [.agg (eKnown a), .agg (eKnown b)] k = k [.bool (decide (a = b))] := call_of (fun k => by
  unfold mKnown mSignedSS mForkS at h h'
  obtain ⟨a1, a2⟩ := a
  obtain ⟨b1, b2⟩ := b
  simp only at h h'
  have e1 := slices_EqualFunc_Signed_F_impl_sameChain_n a1 b1 (by omega) (by omega)
  have e2 := slices_EqualFunc_Fork_F_impl_EqualForks_n a2 b2 (by omega) (by omega)
  simp [impl_EqualKnown, e1, e2]
  by_cases h1 : a1 = b1 <;> simp [h1]) k
theorem impl_EqualServers_n (a b : GServer) (h : mServer a ≤ 1048576) (h' : mServer b ≤ 1048576) (k) : call impl_EqualServers [.agg (eServer a), .agg (eServer b)] k = k [.bool (decide (a = b))] := call_of (fun k => by
  unfold mServer mZoneS at h h'
  obtain ⟨a1, a2⟩ := a
  obtain ⟨b1, b2⟩ := b
  simp only at h h'
  have e1 := slices_EqualFunc_Zone_F_impl_EqualZones_n a1 b1 (by omega) (by omega)
  simp [impl_EqualServers, e1]
  by_cases h1 : a2 = b2 <;> simp [h1]) k
theorem impl_EqualWorlds_1_n (a b : GSaid) (h : mSaid a ≤ 1048576) (h' : mSaid b ≤ 1048576) (k) : call impl_EqualWorlds_1 [.agg (eSaid a), .agg (eSaid b)] k = k [.bool (decide (a = b))] := call_of (fun k => by
  unfold mSaid at h h'
  obtain ⟨a1, a2⟩ := a
  obtain ⟨b1, b2⟩ := b
  simp only at h h'
  have e1 := impl_EqualZones_n a1 b1 (by omega) (by omega)
  have e2 := slices_Equal_int_n a2 b2 (by omega)
  simp [impl_EqualWorlds_1, e1, e2]
  by_cases h1 : a1 = b1 <;> simp [h1]) k
theorem impl_EqualAnswers_n (a b : GAnswer) (h : mAnswer a ≤ 1048576) (h' : mAnswer b ≤ 1048576) (k) : call impl_EqualAnswers [.agg (eAnswer a), .agg (eAnswer b)] k = k [.bool (decide (a = b))] := call_of (fun k => by
  unfold mAnswer at h h'
  obtain ⟨a1, a2, a3, a4, a5⟩ := a
  obtain ⟨b1, b2, b3, b4, b5⟩ := b
  simp only at h h'
  have e1 := impl_sameChain_n a1 b1 (by omega) (by omega)
  have e3 := impl_EqualEntries_n a3 b3 (by omega) (by omega)
  have e4 := impl_EqualProofs_n a4 b4 (by omega) (by omega)
  have e5 := impl_EqualGaps_n a5 b5 (by omega) (by omega)
  simp [impl_EqualAnswers, boolP, e1, e3, e4, e5]
  by_cases h1 : a1 = b1 <;> by_cases h2 : a2 = b2 <;> by_cases h3 : a3 = b3 <;> by_cases h4 : a4 = b4 <;> simp [h1, h2, h3, h4]) k
theorem spec_EqualAnswers_n (a b : GAnswer) (h : mAnswer a ≤ 1048576) (h' : mAnswer b ≤ 1048576) (k) : call spec_EqualAnswers [.agg (eAnswer a), .agg (eAnswer b)] k = k [.bool (decide (a = b))] := call_of (fun k => by
  unfold mAnswer at h h'
  obtain ⟨a1, a2, a3, a4, a5⟩ := a
  obtain ⟨b1, b2, b3, b4, b5⟩ := b
  simp only at h h'
  have e1 := spec_EqualZones_c a1 b1 (by omega) (by omega)
  have e3 := spec_EqualEntries_n a3 b3 (by omega) (by omega)
  have e4 := spec_EqualProofs_n a4 b4 (by omega) (by omega)
  have e5 := spec_EqualGaps_n a5 b5 (by omega) (by omega)
  simp [spec_EqualAnswers, boolP, e1, e3, e4, e5]
  by_cases h1 : a1 = b1 <;> by_cases h2 : a2 = b2 <;> by_cases h3 : a3 = b3 <;> by_cases h4 : a4 = b4 <;> simp [h1, h2, h3, h4]) k
theorem impl_EqualCaches_1_n (a b : GStored) (h : mStored a ≤ 1048576) (h' : mStored b ≤ 1048576) (k) : call impl_EqualCaches_1 [.agg (eStored a), .agg (eStored b)] k = k [.bool (decide (a = b))] := call_of (fun k => by
  unfold mStored at h h'
  obtain ⟨a1, a2, a3⟩ := a
  obtain ⟨b1, b2, b3⟩ := b
  simp only at h h'
  have e3 := impl_EqualAnswers_n a3 b3 (by omega) (by omega)
  simp [impl_EqualCaches_1, e3]
  by_cases h1 : a1 = b1 <;> by_cases h2 : a2 = b2 <;> simp [h1, h2]) k
theorem slices_EqualFunc_Said_F_impl_EqualWorlds_1_n (l m : List GSaid) (h : l.length + sumN mSaid l ≤ 1048576) (h' : m.length + sumN mSaid m ≤ 1048576) (k) : call slices_EqualFunc_Said_F_impl_EqualWorlds_1 [.one (.list 3 (l.map eSaid)), .one (.list 3 (m.map eSaid)), .fn 133 []] k = k [.bool (decide (l = m))] := call_of (fun k => by
  simp [slices_EqualFunc_Said_F_impl_EqualWorlds_1]
  by_cases hl : l.length = m.length
  · rw [← listEq_d]
    simp [hl]
    refine lp_zipk k l m (fun i => [.list 3 (m.map eSaid), .bool false, .list 3 (l.map eSaid), I m.length, I i]) eqD rfl hl (fun i x y hx hy hi hj K => ?_) fun K => ?_
    · have s1 := sumN_mem (s := mSaid) (mem_get hx)
      have s2 := sumN_mem (s := mSaid) (mem_get hy)
      have e := impl_EqualWorlds_1_n x y (by omega) (by omega)
      simp [-getElem?_pos, slices_EqualFunc_Said_F_impl_EqualWorlds_1_r0, hx, hy, hj, e, wr_succ (show i < 1000000000000000000 by omega)]
      all_goals (by_cases hxy : x = y <;> simp [hxy])
    · simp [slices_EqualFunc_Said_F_impl_EqualWorlds_1_r0, hl]
  · simp [show ¬ (l.length : Int) = m.length by omega, len_ne hl]) k
theorem slices_EqualFunc_Server_F_impl_EqualServers_n (l m : List GServer) (h : l.length + sumN mServer l ≤ 1048576) (h' : m.length + sumN mServer m ≤ 1048576) (k) : call slices_EqualFunc_Server_F_impl_EqualServers [.one (.list 2 (l.map eServer)), .one (.list 2 (m.map eServer)), .fn 136 []] k = k [.bool (decide (l = m))] := call_of (fun k => by
  simp [slices_EqualFunc_Server_F_impl_EqualServers]
  by_cases hl : l.length = m.length
  · rw [← listEq_d]
    simp [hl]
    refine lp_zipk k l m (fun i => [.list 2 (m.map eServer), .bool false, .list 2 (l.map eServer), I m.length, I i]) eqD rfl hl (fun i x y hx hy hi hj K => ?_) fun K => ?_
    · have s1 := sumN_mem (s := mServer) (mem_get hx)
      have s2 := sumN_mem (s := mServer) (mem_get hy)
      have e := impl_EqualServers_n x y (by omega) (by omega)
      simp [-getElem?_pos, slices_EqualFunc_Server_F_impl_EqualServers_r0, hx, hy, hj, e, wr_succ (show i < 1000000000000000000 by omega)]
      all_goals (by_cases hxy : x = y <;> simp [hxy])
    · simp [slices_EqualFunc_Server_F_impl_EqualServers_r0, hl]
  · simp [show ¬ (l.length : Int) = m.length by omega, len_ne hl]) k
theorem slices_EqualFunc_Stored_F_impl_EqualCaches_1_n (l m : List GStored) (h : l.length + sumN mStored l ≤ 1048576) (h' : m.length + sumN mStored m ≤ 1048576) (k) : call slices_EqualFunc_Stored_F_impl_EqualCaches_1 [.one (.list 23 (l.map eStored)), .one (.list 23 (m.map eStored)), .fn 225 []] k = k [.bool (decide (l = m))] := call_of (fun k => by
  simp [slices_EqualFunc_Stored_F_impl_EqualCaches_1]
  by_cases hl : l.length = m.length
  · rw [← listEq_d]
    simp [hl]
    refine lp_zipk k l m (fun i => [.list 23 (m.map eStored), .bool false, .list 23 (l.map eStored), I m.length, I i]) eqD rfl hl (fun i x y hx hy hi hj K => ?_) fun K => ?_
    · have s1 := sumN_mem (s := mStored) (mem_get hx)
      have s2 := sumN_mem (s := mStored) (mem_get hy)
      have e := impl_EqualCaches_1_n x y (by omega) (by omega)
      simp [-getElem?_pos, slices_EqualFunc_Stored_F_impl_EqualCaches_1_r0, hx, hy, hj, e, wr_succ (show i < 1000000000000000000 by omega)]
      all_goals (by_cases hxy : x = y <;> simp [hxy])
    · simp [slices_EqualFunc_Stored_F_impl_EqualCaches_1_r0, hl]
  · simp [show ¬ (l.length : Int) = m.length by omega, len_ne hl]) k
theorem impl_EqualCaches_n (a b : GCache) (h : mCache a ≤ 1048576) (h' : mCache b ≤ 1048576) (k) : call impl_EqualCaches [.agg (eCache a), .agg (eCache b)] k = k [.bool (decide (a = b))] := call_of (fun k => by
  unfold mCache mStoredS at h h'
  obtain ⟨l⟩ := a
  obtain ⟨m⟩ := b
  simp only at h h'
  have e := slices_EqualFunc_Stored_F_impl_EqualCaches_1_n l m h h'
  simp [impl_EqualCaches, e]) k
theorem impl_EqualWorlds_n (a b : GWorld) (h : mWorld a ≤ 1048576) (h' : mWorld b ≤ 1048576) (k) : call impl_EqualWorlds [.agg (eWorld a), .agg (eWorld b)] k = k [.bool (decide (a = b))] := call_of (fun k => by
  unfold mWorld mZoneS mSaidS mServerS at h h'
  obtain ⟨a1, a2, a3, a4, a5, a6, a7⟩ := a
  obtain ⟨b1, b2, b3, b4, b5, b6, b7⟩ := b
  simp only at h h'
  have e2 := impl_EqualActors_n a2 b2 (by omega) (by omega)
  have e3 := slices_EqualFunc_Zone_F_impl_EqualZones_n a3 b3 (by omega) (by omega)
  have e4 := slices_EqualFunc_Said_F_impl_EqualWorlds_1_n a4 b4 (by omega) (by omega)
  have e5 := slices_EqualFunc_Server_F_impl_EqualServers_n a5 b5 (by omega) (by omega)
  have e6 := impl_EqualKnown_n a6 b6 (by omega) (by omega)
  have e7 := impl_EqualCaches_n a7 b7 (by omega) (by omega)
  simp [impl_EqualWorlds, e2, e3, e4, e5, e6, e7]
  by_cases h1 : a1 = b1 <;> by_cases h2 : a2 = b2 <;> by_cases h3 : a3 = b3 <;> by_cases h4 : a4 = b4 <;> by_cases h5 : a5 = b5 <;> by_cases h6 : a6 = b6 <;> simp [h1, h2, h3, h4, h5, h6]) k
theorem spec_EqualServers_n (a b : GServer) (h : mServer a ≤ 1048576) (h' : mServer b ≤ 1048576) (k) : call spec_EqualServers [.agg (eServer a), .agg (eServer b)] k = k [.bool (decide (a = b))] := call_of (fun k => by
  unfold mServer mZoneS at h h'
  obtain ⟨l, a2⟩ := a
  obtain ⟨m, b2⟩ := b
  simp only at h h'
  simp [spec_EqualServers]
  by_cases h2 : a2 = b2
  · by_cases hl : l.length = m.length
    · simp [hl, h2]
      rw [← listEq_d]
      refine lp_zipk k l m (fun i => [.bool false, I i, .list 2 (m.map eZone), I b2, .list 2 (l.map eZone), I b2]) eqD rfl hl (fun i x y hx hy hi hj K => ?_) fun K => ?_
      · have s1 := sumN_mem (s := mZone) (mem_get hx)
        have s2 := sumN_mem (s := mZone) (mem_get hy)
        have e := spec_EqualZones_n x y (by omega) (by omega)
        simp [-getElem?_pos, spec_EqualServers_r0, hx, hy, hi, e, wr_succ (show i < 1000000000000000000 by omega)]
        all_goals (by_cases hxy : x = y <;> simp [hxy])
      · simp [spec_EqualServers_r0, hl]
    · have : ¬ l = m := fun e => hl (by rw [e])
      simp [h2, show ¬ (l.length : Int) = m.length by omega, this]
  · simp [h2]) k
theorem spec_EqualCaches_n (a b : GCache) (h : mCache a ≤ 1048576) (h' : mCache b ≤ 1048576) (k) : call spec_EqualCaches [.agg (eCache a), .agg (eCache b)] k = k [.bool (decide (a = b))] := call_of (fun k => by
  unfold mCache mStoredS at h h'
  obtain ⟨l⟩ := a
  obtain ⟨m⟩ := b
  simp only at h h'
  simp [spec_EqualCaches]
  by_cases hl : l.length = m.length
  · simp [hl]
    rw [← listEq_d]
    refine lp_zipk k l m (fun i => [.bool false, I i, .list 23 (m.map eStored), .list 23 (l.map eStored)]) eqD rfl hl (fun i x y hx hy hi hj K => ?_) fun K => ?_
    · have s1 := sumN_mem (s := mStored) (mem_get hx)
      have s2 := sumN_mem (s := mStored) (mem_get hy)
      obtain ⟨x1, x2, x3⟩ := x
      obtain ⟨y1, y2, y3⟩ := y
      simp only [mStored] at s1 s2
      have e := spec_EqualAnswers_n x3 y3 (by omega) (by omega)
      simp [-getElem?_pos, spec_EqualCaches_r0, hx, hy, hi, e, wr_succ (show i < 1000000000000000000 by omega)]
      by_cases h1 : x1 = y1 <;> by_cases h2 : x2 = y2 <;> by_cases h3 : x3 = y3 <;> simp [h1, h2, h3]
    · simp [spec_EqualCaches_r0, hl]
  · have : ¬ l = m := fun e => hl (by rw [e])
    simp [show ¬ (l.length : Int) = m.length by omega, this]) k
theorem spec_EqualKnown_n (a b : GKnown) (h : mKnown a ≤ 1048576) (h' : mKnown b ≤ 1048576) (k) : call spec_EqualKnown [.agg (eKnown a), .agg (eKnown b)] k = k [.bool (decide (a = b))] := call_of (fun k => by
  unfold mKnown mSignedSS mForkS at h h'
  obtain ⟨l, p⟩ := a
  obtain ⟨m, q⟩ := b
  simp only at h h'
  simp [spec_EqualKnown]
  by_cases hl : l.length = m.length
  · by_cases hp : p.length = q.length
    · simp [hl, hp]
      let S : List PV := [.list 1 (m.map (fun l : List GSigned => [.list 17 (l.map eSigned)])), .list 51 (q.map eFork), .list 1 (l.map (fun l : List GSigned => [.list 17 (l.map eSigned)])), .list 51 (p.map eFork)]
      refine (lp_zip (P := k [.bool false]) (fin := k [.bool (decide (p = q))]) l m (fun i => [.bool false, I i] ++ S) eqD rfl hl (fun i x y hx hy hi K => ?_) fun K => ?_).trans ?_
      · have s1 := sumN_mem (s := mSignedS) (mem_get hx)
        have s2 := sumN_mem (s := mSignedS) (mem_get hy)
        have hj : i < m.length := by omega
        have e := spec_EqualZones_c x y (by omega) (by omega)
        simp [-getElem?_pos, S, spec_EqualKnown_r0, hx, hy, hi, e, wr_succ (show i < 1000000000000000000 by omega)]
        all_goals (by_cases hxy : x = y <;> simp [hxy])
      · simp [spec_EqualKnown_r0, hl, S]
        rw [← listEq_d]
        refine lp_zipk k p q (fun i => [.bool false, I m.length, I i] ++ S) eqD rfl hp (fun i x y hx hy hi hj K => ?_) fun K => ?_
        · have s1 := sumN_mem (s := mFork) (mem_get hx)
          have s2 := sumN_mem (s := mFork) (mem_get hy)
          have e := spec_EqualForks_n x y (by omega) (by omega)
          simp [-getElem?_pos, S, spec_EqualKnown_r1, hx, hy, hi, e, wr_succ (show i < 1000000000000000000 by omega)]
          all_goals (by_cases hxy : x = y <;> simp [hxy])
        · simp [spec_EqualKnown_r1, hp, S]
      · rw [listEq_d]
        by_cases h1 : l = m <;> simp [h1]
    · have : ¬ p = q := fun e => hp (by rw [e])
      simp [hl, show ¬ (p.length : Int) = q.length by omega, this]
  · have : ¬ l = m := fun e => hl (by rw [e])
    simp [show ¬ (l.length : Int) = m.length by omega, this]) k
end Go.Ev
set_option linter.unusedVariables false
set_option linter.unusedSimpArgs false
set_option maxRecDepth 4000
namespace Go.Ev
open Go.Proofs
theorem spec_EqualWorlds_n (a b : GWorld) (h : mWorld a ≤ 1048576) (h' : mWorld b ≤ 1048576) (k) : call spec_EqualWorlds [.agg (eWorld a), .agg (eWorld b)] k = k [.bool (decide (a = b))] := call_of (fun k => by
  unfold mWorld mActorS mZoneS mSaidS mServerS at h h'
  obtain ⟨a1, a2, a3, a4, a5, a6, a7⟩ := a
  obtain ⟨b1, b2, b3, b4, b5, b6, b7⟩ := b
  simp only at h h'
  have e2 := spec_EqualActors_n a2 b2 (by omega) (by omega)
  have e6 := spec_EqualKnown_n a6 b6 (by omega) (by omega)
  have e7 := spec_EqualCaches_n a7 b7 (by omega) (by omega)
  by_cases h1 : a1 = b1
  rotate_left
  · simp [spec_EqualWorlds, h1]
  subst h1
  by_cases h2 : a2 = b2
  rotate_left
  · simp [spec_EqualWorlds, e2, h2]
  subst h2
  by_cases h3 : a3.length = b3.length
  rotate_left
  · have : ¬ a3 = b3 := fun e => h3 (by rw [e])
    simp [spec_EqualWorlds, e2, show ¬ (a3.length : Int) = b3.length by omega, this]
  by_cases h4 : a4.length = b4.length
  rotate_left
  · have : ¬ a4 = b4 := fun e => h4 (by rw [e])
    simp [spec_EqualWorlds, e2, h3, show ¬ (a4.length : Int) = b4.length by omega, this]
  by_cases h5 : a5.length = b5.length
  rotate_left
  · have : ¬ a5 = b5 := fun e => h5 (by rw [e])
    simp [spec_EqualWorlds, e2, h3, h4, show ¬ (a5.length : Int) = b5.length by omega, this]
  simp [spec_EqualWorlds, e2, h3, h4, h5]
  let S : List PV := eWorld ⟨a1, a2, b3, b4, b5, b6, b7⟩ ++ eWorld ⟨a1, a2, a3, a4, a5, a6, a7⟩
  refine (lp_zip (P := k [.bool false]) (fin := k [.bool (decide (a4 = b4) && (decide (a5 = b5) && (decide (a6 = b6) && decide (a7 = b7))))]) a3 b3 (fun i => [.bool false, I i] ++ S) eqD rfl h3 (fun i x y hx hy hi K => ?_) fun K => ?_).trans ?_
  · have s1 := sumN_mem (s := mZone) (mem_get hx)
    have s2 := sumN_mem (s := mZone) (mem_get hy)
    have e := spec_EqualZones_n x y (by omega) (by omega)
    have hj : i < b3.length := by omega
    simp [-getElem?_pos, S, spec_EqualWorlds_r0, hx, hy, hi, e, wr_succ (show i < 1000000000000000000 by omega)]
    all_goals (by_cases hxy : x = y <;> simp [hxy])
  · simp [spec_EqualWorlds_r0, h3, S]
    refine (lp_zip (P := k [.bool false]) (fin := k [.bool (decide (a5 = b5) && (decide (a6 = b6) && decide (a7 = b7)))]) a4 b4 (fun i => [.bool false, I b3.length, I i] ++ S) eqD rfl h4 (fun i x y hx hy hi K => ?_) fun K => ?_).trans ?_
    · have s1 := sumN_mem (s := mSaid) (mem_get hx)
      have s2 := sumN_mem (s := mSaid) (mem_get hy)
      obtain ⟨x1, x2⟩ := x
      obtain ⟨y1, y2⟩ := y
      simp only [mSaid] at s1 s2
      have e := spec_EqualZones_n x1 y1 (by omega) (by omega)
      have e' := spec_EqualInts_n x2 y2 (by omega)
      have hj : i < b4.length := by omega
      simp [-getElem?_pos, S, spec_EqualWorlds_r1, hx, hy, hi, e, e', wr_succ (show i < 1000000000000000000 by omega)]
      by_cases g1 : x1 = y1 <;> by_cases g2 : x2 = y2 <;> simp [g1, g2]
    · simp [spec_EqualWorlds_r1, h4, S]
      refine (lp_zip (P := k [.bool false]) (fin := k [.bool (decide (a6 = b6) && decide (a7 = b7))]) a5 b5 (fun i => [.bool false, I b3.length, I b4.length, I i] ++ S) eqD rfl h5 (fun i x y hx hy hi K => ?_) fun K => ?_).trans ?_
      · have s1 := sumN_mem (s := mServer) (mem_get hx)
        have s2 := sumN_mem (s := mServer) (mem_get hy)
        have e := spec_EqualServers_n x y (by omega) (by omega)
        have hj : i < b5.length := by omega
        simp [-getElem?_pos, S, spec_EqualWorlds_r2, hx, hy, hi, e, wr_succ (show i < 1000000000000000000 by omega)]
        all_goals (by_cases hxy : x = y <;> simp [hxy])
      · simp [spec_EqualWorlds_r2, h5, S, e6, e7]
        by_cases g6 : a6 = b6 <;> simp [g6]
      · rw [listEq_d]
        by_cases g5 : a5 = b5 <;> simp [g5]
    · rw [listEq_d]
      by_cases g4 : a4 = b4 <;> simp [g4]
  · rw [listEq_d]
    by_cases g3 : a3 = b3 <;> simp [g3]) k
end Go.Ev
set_option linter.unusedVariables false
set_option linter.unusedSimpArgs false
set_option maxRecDepth 4000
set_option maxHeartbeats 2000000
namespace Go.Ev
open Go.Proofs
theorem laws_FnExactEqualWorlds_law (pvss : List (List PV)) (h : HasEach [[.int .i64, .list [.list [.int .i64]], .list [.list [.int .i64, .int .i64, .int .i64, .int .i64, .int .i64, .int .i64, .int .i64, .int .i64, .list [.int .i64], .int .i64, .list [.int .i64], .int .i64, .int .i64, .list [.int .i64], .int .i64, .bool, .list [.int .i64, .int .i64]], .list [.str, .int .i64, .int .i64, .list [.str]]], .list [.list [.int .i64, .int .i64, .int .i64, .int .i64, .int .i64, .int .i64, .int .i64, .int .i64, .list [.int .i64], .int .i64, .list [.int .i64], .int .i64, .int .i64, .list [.int .i64], .int .i64, .bool, .list [.int .i64, .int .i64]], .list [.str, .int .i64, .int .i64, .list [.str]], .list [.int .i64]], .list [.list [.list [.int .i64, .int .i64, .int .i64, .int .i64, .int .i64, .int .i64, .int .i64, .int .i64, .list [.int .i64], .int .i64, .list [.int .i64], .int .i64, .int .i64, .list [.int .i64], .int .i64, .bool, .list [.int .i64, .int .i64]], .list [.str, .int .i64, .int .i64, .list [.str]]], .int .i64], .list [.list [.int .i64, .int .i64, .int .i64, .int .i64, .int .i64, .int .i64, .int .i64, .int .i64, .list [.int .i64], .int .i64, .list [.int .i64], .int .i64, .int .i64, .list [.int .i64], .int .i64, .bool, .list [.int .i64, .int .i64]]], .list [.int .i64, .int .i64, .int .i64, .int .i64, .int .i64, .int .i64, .int .i64, .int .i64, .list [.int .i64], .int .i64, .list [.int .i64], .int .i64, .int .i64, .list [.int .i64], .int .i64, .bool, .list [.int .i64, .int .i64], .int .i64, .int .i64, .int .i64, .int .i64, .int .i64, .int .i64, .int .i64, .int .i64, .list [.int .i64], .int .i64, .list [.int .i64], .int .i64, .int .i64, .list [.int .i64], .int .i64, .bool, .list [.int .i64, .int .i64], .int .i64, .int .i64, .int .i64, .int .i64, .int .i64, .int .i64, .int .i64, .int .i64, .list [.int .i64], .int .i64, .list [.int .i64], .int .i64, .int .i64, .list [.int .i64], .int .i64, .bool, .list [.int .i64, .int .i64]], .list [.int .i64, .str, .list [.int .i64, .int .i64, .int .i64, .int .i64, .int .i64, .int .i64, .int .i64, .int .i64, .list [.int .i64], .int .i64, .list [.int .i64], .int .i64, .int .i64, .list [.int .i64], .int .i64, .bool, .list [.int .i64, .int .i64]], .bool, .str, .int .i64, .int .i64, .list [.str], .int .i64, .list [.int .i64], .int .i64, .str, .int .i64, .int .i64, .list [.str], .str, .int .i64, .int .i64, .list [.str], .int .i64, .list [.int .i64], .int .i64, .list [.int .i64]]], [.int .i64, .list [.list [.int .i64]], .list [.list [.int .i64, .int .i64, .int .i64, .int .i64, .int .i64, .int .i64, .int .i64, .int .i64, .list [.int .i64], .int .i64, .list [.int .i64], .int .i64, .int .i64, .list [.int .i64], .int .i64, .bool, .list [.int .i64, .int .i64]], .list [.str, .int .i64, .int .i64, .list [.str]]], .list [.list [.int .i64, .int .i64, .int .i64, .int .i64, .int .i64, .int .i64, .int .i64, .int .i64, .list [.int .i64], .int .i64, .list [.int .i64], .int .i64, .int .i64, .list [.int .i64], .int .i64, .bool, .list [.int .i64, .int .i64]], .list [.str, .int .i64, .int .i64, .list [.str]], .list [.int .i64]], .list [.list [.list [.int .i64, .int .i64, .int .i64, .int .i64, .int .i64, .int .i64, .int .i64, .int .i64, .list [.int .i64], .int .i64, .list [.int .i64], .int .i64, .int .i64, .list [.int .i64], .int .i64, .bool, .list [.int .i64, .int .i64]], .list [.str, .int .i64, .int .i64, .list [.str]]], .int .i64], .list [.list [.int .i64, .int .i64, .int .i64, .int .i64, .int .i64, .int .i64, .int .i64, .int .i64, .list [.int .i64], .int .i64, .list [.int .i64], .int .i64, .int .i64, .list [.int .i64], .int .i64, .bool, .list [.int .i64, .int .i64]]], .list [.int .i64, .int .i64, .int .i64, .int .i64, .int .i64, .int .i64, .int .i64, .int .i64, .list [.int .i64], .int .i64, .list [.int .i64], .int .i64, .int .i64, .list [.int .i64], .int .i64, .bool, .list [.int .i64, .int .i64], .int .i64, .int .i64, .int .i64, .int .i64, .int .i64, .int .i64, .int .i64, .int .i64, .list [.int .i64], .int .i64, .list [.int .i64], .int .i64, .int .i64, .list [.int .i64], .int .i64, .bool, .list [.int .i64, .int .i64], .int .i64, .int .i64, .int .i64, .int .i64, .int .i64, .int .i64, .int .i64, .int .i64, .list [.int .i64], .int .i64, .list [.int .i64], .int .i64, .int .i64, .list [.int .i64], .int .i64, .bool, .list [.int .i64, .int .i64]], .list [.int .i64, .str, .list [.int .i64, .int .i64, .int .i64, .int .i64, .int .i64, .int .i64, .int .i64, .int .i64, .list [.int .i64], .int .i64, .list [.int .i64], .int .i64, .int .i64, .list [.int .i64], .int .i64, .bool, .list [.int .i64, .int .i64]], .bool, .str, .int .i64, .int .i64, .list [.str], .int .i64, .list [.int .i64], .int .i64, .str, .int .i64, .int .i64, .list [.str], .str, .int .i64, .int .i64, .list [.str], .int .i64, .list [.int .i64], .int .i64, .list [.int .i64]]]] pvss) : laws_FnExactEqualWorlds (avsOf Tryz.prog Tryz.f10.params.toList pvss) (fun o => o = [PV.bool true]) := by
  obtain ⟨p0, r0, rfl, h0, hq0⟩ := each_cons h
  obtain ⟨p1, r1, rfl, h1, hq1⟩ := each_cons hq0
  rw [each_nil hq1]
  obtain ⟨x0, rfl, w0⟩ := decWorld _ h0
  obtain ⟨x1, rfl, w1⟩ := decWorld _ h1
  rw [show avsOf Tryz.prog Tryz.f10.params.toList [eWorld x0, eWorld x1] = [.agg (eWorld x0), .agg (eWorld x1)] by kernel_rfl]
  simp only [laws_FnExactEqualWorlds, un, cur0, laws_szWorld_n x0 (1048576) w0 (by omega) (by omega), binP_lss, iteP_eq, atP_zero, atP_succ, rt_eq, scs_sc, scs_nil, flat_int, flat_bool, true_and, and_true]
  by_cases c0 : ((mWorld x0 : Nat) : Int) ≤ 1048576
  rotate_left
  · simp [szr_not c0]
  simp only [szr_yes c0, show ¬ (1048576 - ((mWorld x0 : Nat) : Int) < 0) by omega, decide_false, Bool.false_eq_true, if_false, laws_szWorld_n x1 (1048576 - ((mWorld x0 : Nat) : Int)) w1 (by omega) (by omega), binP_lss, iteP_eq, atP_zero, atP_succ, rt_eq, scs_sc, scs_nil, flat_int, flat_bool, true_and, and_true]
  by_cases c1 : ((mWorld x1 : Nat) : Int) ≤ 1048576 - ((mWorld x0 : Nat) : Int)
  rotate_left
  · simp [szr_not c1]
  simp only [szr_yes c1, show ¬ (1048576 - ((mWorld x0 : Nat) : Int) - ((mWorld x1 : Nat) : Int) < 0) by omega, decide_false, Bool.false_eq_true, if_false, binP_lss, iteP_eq, atP_zero, atP_succ, rt_eq, scs_sc, scs_nil, flat_int, flat_bool, true_and, and_true]
  have s0 : mWorld x0 ≤ 1048576 := by omega
  have s1 : mWorld x1 ≤ 1048576 := by omega
  simp [laws_toWorld_n x0 s0, laws_eqWorld_n x0 s0, laws_toWorld_n x1 s1, laws_eqWorld_n x1 s1, spec_EqualWorlds_n x0 x1 s0 s1, impl_EqualWorlds_n x0 x1 s0 s1]
end Go.Ev
set_option linter.unusedVariables false
set_option linter.unusedSimpArgs false
set_option maxRecDepth 4000
namespace Go.Ev
open Go.Proofs
/-! ### Chains that go on from each other -/
def preP (m : List GSigned) (i : Nat) (x : GSigned) : Bool := match m[i]? with | some y => !decide (x.Head = y.Head) | none => true
def sPre (l m : List GSigned) : Bool := decide (l.length ≤ m.length) && (anyI (preP m) 0 l == false)
theorem mHead_le {l : List GSigned} {x : GSigned} (h : mSignedS l ≤ 1048576) (hx : x ∈ l) : mHead x.Head ≤ 1048576 := by
  unfold mSignedS at h
  have := sumN_mem (s := mSigned) hx
  have e : mSigned x = mHead x.Head + x.Sigs.length := rfl
  omega
theorem len_le {l : List GSigned} (h : mSignedS l ≤ 1048576) : l.length ≤ 1048576 := by unfold mSignedS at h; omega
theorem spec_IsPrefix_n (l m : List GSigned) (h : mSignedS l ≤ 1048576) (h' : mSignedS m ≤ 1048576) (k) : call spec_IsPrefix [.one (.list 17 (l.map eSigned)), .one (.list 17 (m.map eSigned))] k = k [.bool (sPre l m)] := call_of (fun k => by
  have hl0 := len_le h
  have hm0 := len_le h'
  unfold sPre
  by_cases hl : l.length ≤ m.length
  · simp only [hl, decide_true, Bool.true_and]
    simp [spec_IsPrefix, show ¬ (m.length : Int) < l.length by omega]
    refine (lp_anyIk k false l (fun i => [.list 17 (l.map eSigned), .list 17 (m.map eSigned), .bool false, I i]) (preP m) rfl (fun i x hx hi K => ?_) fun K => ?_).trans (by simp)
    · obtain ⟨y, hy⟩ : ∃ y, m[i]? = some y := ⟨m[i], List.getElem?_eq_getElem (by omega)⟩
      have e := spec_EqualHeads_n x.Head y.Head (mHead_le h (mem_get hx)) (mHead_le h' (mem_get hy))
      simp [-getElem?_pos, spec_IsPrefix_r0, hx, hy, hi, e, preP, wr_succ (show i < 1000000000000000000 by omega)]
      all_goals (by_cases hxy : x.Head = y.Head <;> simp [hxy])
    · simp [spec_IsPrefix_r0]
  · simp [spec_IsPrefix, hl, show (m.length : Int) < l.length by omega]) k
theorem impl_IsPrefix_n (l m : List GSigned) (h : mSignedS l ≤ 1048576) (h' : mSignedS m ≤ 1048576) (k) : call impl_IsPrefix [.one (.list 17 (l.map eSigned)), .one (.list 17 (m.map eSigned))] k = k [.bool (sPre l m)] := call_of (fun k => by
  have hl0 := len_le h
  have hm0 := len_le h'
  unfold sPre
  by_cases hl : l.length ≤ m.length
  · simp only [hl, decide_true, Bool.true_and]
    simp [impl_IsPrefix, show ¬ (m.length : Int) < l.length by omega]
    refine (lp_anyIk k false l (fun i => [.list 17 (m.map eSigned), .bool false, .list 17 (l.map eSigned), I l.length, I i]) (preP m) rfl (fun i x hx hi K => ?_) fun K => ?_).trans (by simp)
    · obtain ⟨y, hy⟩ : ∃ y, m[i]? = some y := ⟨m[i], List.getElem?_eq_getElem (by omega)⟩
      have e := impl_EqualHeads_n x.Head y.Head (mHead_le h (mem_get hx)) (mHead_le h' (mem_get hy))
      simp [-getElem?_pos, impl_IsPrefix_r0, hx, hy, hi, e, preP, wr_succ (show i < 1000000000000000000 by omega)]
      all_goals (by_cases hxy : x.Head = y.Head <;> simp [hxy])
    · simp [impl_IsPrefix_r0]
  · simp [impl_IsPrefix, hl, show (m.length : Int) < l.length by omega]) k
/-! ### Somebody made heads -/
theorem mChain_le {w : List GSaid} {s : GSaid} (h : mSaidS w ≤ 1048576) (hs : s ∈ w) : mSignedS s.Zone.Chain ≤ 1048576 ∧ mEntryS s.Zone.Entries ≤ 1048576 := by
  unfold mSaidS at h
  have := sumN_mem (s := mSaid) hs
  have e : mSaid s = (mSignedS s.Zone.Chain + mEntryS s.Zone.Entries) + s.Held.length := rfl
  omega
def sGrounded (w : List GSaid) (l : List GSigned) : Bool := w.any fun s => sPre l s.Zone.Chain
theorem said_le {w : GWorld} (h : mWorld w ≤ 1048576) : mSaidS w.Said ≤ 1048576 ∧ w.Said.length ≤ 1048576 := by
  unfold mWorld at h
  have : mSaidS w.Said = w.Said.length + sumN mSaid w.Said := rfl
  omega
theorem spec_IsGrounded_n (w : GWorld) (l : List GSigned) (h : mWorld w ≤ 1048576) (h' : mSignedS l ≤ 1048576) (k) : call spec_IsGrounded [.agg (eWorld w), .one (.list 17 (l.map eSigned))] k = k [.bool (sGrounded w.Said l)] := call_of (fun k => by
  obtain ⟨hs, hsl⟩ := said_le h
  simp [spec_IsGrounded]
  refine (lp_anyk k true w.Said (fun i => [.list 17 (l.map eSigned), .bool false, I i] ++ eWorld w) (fun s => sPre l s.Zone.Chain) rfl (fun i x hx hi K => ?_) fun K => ?_).trans (by simp [sGrounded])
  · have e := spec_IsPrefix_n l x.Zone.Chain h' (mChain_le hs (mem_get hx)).1
    simp [-getElem?_pos, spec_IsGrounded_r0, hx, hi, e, wr_succ (show i < 1000000000000000000 by omega)]
  · simp [spec_IsGrounded_r0]) k
theorem impl_IsGrounded_n (w : GWorld) (l : List GSigned) (h : mWorld w ≤ 1048576) (h' : mSignedS l ≤ 1048576) (k) : call impl_IsGrounded [.agg (eWorld w), .one (.list 17 (l.map eSigned))] k = k [.bool (sGrounded w.Said l)] := call_of (fun k => by
  obtain ⟨hs, hsl⟩ := said_le h
  have e : ∀ k, call slices_IndexFunc_Said_F_impl_World_someSaid_1_F_impl_IsGrounded_1 [.one (.list 3 (w.Said.map eSaid)), .fn 199 [.fn 94 [[.list 17 (l.map eSigned)]]]] k = k [I (idx (fun s => sPre l s.Zone.Chain) w.Said)] := call_of (fun k => by
    simp [slices_IndexFunc_Said_F_impl_World_someSaid_1_F_impl_IsGrounded_1]
    refine lp_find (Q := fun i => k [I i]) w.Said (fun i => [.list 3 (w.Said.map eSaid), .list 17 (l.map eSigned), I 0, I w.Said.length, I i]) (fun s => sPre l s.Zone.Chain) rfl (fun i x hx hi K => ?_) fun K => ?_
    · have e := impl_IsPrefix_n l x.Zone.Chain h' (mChain_le hs (mem_get hx)).1
      have e1 : ∀ k, call impl_World_someSaid_1_F_impl_IsGrounded_1 [.agg (eSaid x), .ro (.fn 94 [[.list 17 (l.map eSigned)]])] k = k [.bool (sPre l x.Zone.Chain)] := call_of (fun k => by
        simp [impl_World_someSaid_1_F_impl_IsGrounded_1, call_of (g := impl_IsGrounded_1) (av := [.agg (eZone x.Zone), .ro (.cells [.list 17 (l.map eSigned)])]) (out := [.bool (sPre l x.Zone.Chain)]) (fun k => by simp [impl_IsGrounded_1, e])])
      simp [-getElem?_pos, slices_IndexFunc_Said_F_impl_World_someSaid_1_F_impl_IsGrounded_1_r0, hx, hi, e1, wr_succ (show i < 1000000000000000000 by omega)]
    · simp [slices_IndexFunc_Said_F_impl_World_someSaid_1_F_impl_IsGrounded_1_r0])
  have e2 : ∀ k, call slices_ContainsFunc_Said_F_impl_World_someSaid_1_F_impl_IsGrounded_1 [.one (.list 3 (w.Said.map eSaid)), .fn 199 [.fn 94 [[.list 17 (l.map eSigned)]]]] k = k [.bool (sGrounded w.Said l)] := call_of (fun k => by simp [slices_ContainsFunc_Said_F_impl_World_someSaid_1_F_impl_IsGrounded_1, e, idx_any, sGrounded])
  have e3 : ∀ k, call impl_World_someSaid_F_impl_IsGrounded_1 [.agg (eWorld w), .fn 94 [.cells [.list 17 (l.map eSigned)]]] k = k [.bool (sGrounded w.Said l)] := call_of (fun k => by simp [impl_World_someSaid_F_impl_IsGrounded_1, e2])
  simp [impl_IsGrounded, e3]) k
end Go.Ev
set_option linter.unusedVariables false
set_option linter.unusedSimpArgs false
set_option maxRecDepth 4000
namespace Go.Ev
open Go.Proofs
/-! ### Is there one of which a function is true -/
theorem slices_IndexFunc_Said_F_impl_World_someSaid_1_F_impl_IsSaid_1_n {P : GSaid → Bool} (l : List GSaid) (hl : l.length ≤ 1048576) (c : GZone) (hc : ∀ x ∈ l, ∀ k, call impl_World_someSaid_1_F_impl_IsSaid_1 [.agg (eSaid x), .ro (.fn 111 [eZone c])] k = k [.bool (P x)]) (k) : call slices_IndexFunc_Said_F_impl_World_someSaid_1_F_impl_IsSaid_1 [.one (.list 3 (l.map eSaid)), .fn 199 [.fn 111 [eZone c]]] k = k [I (idx P l)] := call_of (fun k => by
  simp [slices_IndexFunc_Said_F_impl_World_someSaid_1_F_impl_IsSaid_1]
  refine lp_find (Q := fun i => k [I i]) l (fun i => .list 3 (l.map eSaid) :: (eZone c ++ [I 0, I l.length, I i])) P rfl (fun i x hx hi K => ?_) fun K => ?_
  · have e := hc x (mem_get hx)
    simp [-getElem?_pos, slices_IndexFunc_Said_F_impl_World_someSaid_1_F_impl_IsSaid_1_r0, hx, hi, e, wr_succ (show i < 1000000000000000000 by omega)]
  · simp [slices_IndexFunc_Said_F_impl_World_someSaid_1_F_impl_IsSaid_1_r0]) k
theorem slices_ContainsFunc_Said_F_impl_World_someSaid_1_F_impl_IsSaid_1_n {P : GSaid → Bool} (l : List GSaid) (hl : l.length ≤ 1048576) (c : GZone) (hc : ∀ x ∈ l, ∀ k, call impl_World_someSaid_1_F_impl_IsSaid_1 [.agg (eSaid x), .ro (.fn 111 [eZone c])] k = k [.bool (P x)]) (k) : call slices_ContainsFunc_Said_F_impl_World_someSaid_1_F_impl_IsSaid_1 [.one (.list 3 (l.map eSaid)), .fn 199 [.fn 111 [eZone c]]] k = k [.bool (l.any P)] := call_of (fun k => by
  simp [slices_ContainsFunc_Said_F_impl_World_someSaid_1_F_impl_IsSaid_1, slices_IndexFunc_Said_F_impl_World_someSaid_1_F_impl_IsSaid_1_n l hl c hc, idx_any]) k
theorem slices_IndexFunc_Said_F_impl_World_someSaid_1_F_impl_World_isHeadSaid_1_n {P : GSaid → Bool} (l : List GSaid) (hl : l.length ≤ 1048576) (c : GHead) (hc : ∀ x ∈ l, ∀ k, call impl_World_someSaid_1_F_impl_World_isHeadSaid_1 [.agg (eSaid x), .ro (.fn 288 [eHead c])] k = k [.bool (P x)]) (k) : call slices_IndexFunc_Said_F_impl_World_someSaid_1_F_impl_World_isHeadSaid_1 [.one (.list 3 (l.map eSaid)), .fn 199 [.fn 288 [eHead c]]] k = k [I (idx P l)] := call_of (fun k => by
  simp [slices_IndexFunc_Said_F_impl_World_someSaid_1_F_impl_World_isHeadSaid_1]
  refine lp_find (Q := fun i => k [I i]) l (fun i => .list 3 (l.map eSaid) :: (eHead c ++ [I 0, I l.length, I i])) P rfl (fun i x hx hi K => ?_) fun K => ?_
  · have e := hc x (mem_get hx)
    simp [-getElem?_pos, slices_IndexFunc_Said_F_impl_World_someSaid_1_F_impl_World_isHeadSaid_1_r0, hx, hi, e, wr_succ (show i < 1000000000000000000 by omega)]
  · simp [slices_IndexFunc_Said_F_impl_World_someSaid_1_F_impl_World_isHeadSaid_1_r0]) k
theorem slices_ContainsFunc_Said_F_impl_World_someSaid_1_F_impl_World_isHeadSaid_1_n {P : GSaid → Bool} (l : List GSaid) (hl : l.length ≤ 1048576) (c : GHead) (hc : ∀ x ∈ l, ∀ k, call impl_World_someSaid_1_F_impl_World_isHeadSaid_1 [.agg (eSaid x), .ro (.fn 288 [eHead c])] k = k [.bool (P x)]) (k) : call slices_ContainsFunc_Said_F_impl_World_someSaid_1_F_impl_World_isHeadSaid_1 [.one (.list 3 (l.map eSaid)), .fn 199 [.fn 288 [eHead c]]] k = k [.bool (l.any P)] := call_of (fun k => by
  simp [slices_ContainsFunc_Said_F_impl_World_someSaid_1_F_impl_World_isHeadSaid_1, slices_IndexFunc_Said_F_impl_World_someSaid_1_F_impl_World_isHeadSaid_1_n l hl c hc, idx_any]) k
theorem slices_IndexFunc_Server_F_impl_ServersSaid_1_n {P : GServer → Bool} (l : List GServer) (hl : l.length ≤ 1048576) (c : GWorld) (hc : ∀ x ∈ l, ∀ k, call impl_ServersSaid_1 [.agg (eServer x), .ro (.cells (eWorld c))] k = k [.bool (P x)]) (k) : call slices_IndexFunc_Server_F_impl_ServersSaid_1 [.one (.list 2 (l.map eServer)), .fn 115 [.cells (eWorld c)]] k = k [I (idx P l)] := call_of (fun k => by
  simp [slices_IndexFunc_Server_F_impl_ServersSaid_1]
  refine lp_find (Q := fun i => k [I i]) l (fun i => .list 2 (l.map eServer) :: (eWorld c ++ [I 0, I l.length, I i])) P rfl (fun i x hx hi K => ?_) fun K => ?_
  · have e := hc x (mem_get hx)
    simp [-getElem?_pos, slices_IndexFunc_Server_F_impl_ServersSaid_1_r0, hx, hi, e, wr_succ (show i < 1000000000000000000 by omega)]
  · simp [slices_IndexFunc_Server_F_impl_ServersSaid_1_r0]) k
theorem slices_ContainsFunc_Server_F_impl_ServersSaid_1_n {P : GServer → Bool} (l : List GServer) (hl : l.length ≤ 1048576) (c : GWorld) (hc : ∀ x ∈ l, ∀ k, call impl_ServersSaid_1 [.agg (eServer x), .ro (.cells (eWorld c))] k = k [.bool (P x)]) (k) : call slices_ContainsFunc_Server_F_impl_ServersSaid_1 [.one (.list 2 (l.map eServer)), .fn 115 [.cells (eWorld c)]] k = k [.bool (l.any P)] := call_of (fun k => by
  simp [slices_ContainsFunc_Server_F_impl_ServersSaid_1, slices_IndexFunc_Server_F_impl_ServersSaid_1_n l hl c hc, idx_any]) k
theorem slices_IndexFunc_Zone_F_impl_ServersSaid_1_1_n {P : GZone → Bool} (l : List GZone) (hl : l.length ≤ 1048576) (c : GWorld) (hc : ∀ x ∈ l, ∀ k, call impl_ServersSaid_1_1 [.agg (eZone x), .ro (.cells (eWorld c))] k = k [.bool (P x)]) (k) : call slices_IndexFunc_Zone_F_impl_ServersSaid_1_1 [.one (.list 2 (l.map eZone)), .fn 117 [.cells (eWorld c)]] k = k [I (idx P l)] := call_of (fun k => by
  simp [slices_IndexFunc_Zone_F_impl_ServersSaid_1_1]
  refine lp_find (Q := fun i => k [I i]) l (fun i => .list 2 (l.map eZone) :: (eWorld c ++ [I 0, I l.length, I i])) P rfl (fun i x hx hi K => ?_) fun K => ?_
  · have e := hc x (mem_get hx)
    simp [-getElem?_pos, slices_IndexFunc_Zone_F_impl_ServersSaid_1_1_r0, hx, hi, e, wr_succ (show i < 1000000000000000000 by omega)]
  · simp [slices_IndexFunc_Zone_F_impl_ServersSaid_1_1_r0]) k
theorem slices_ContainsFunc_Zone_F_impl_ServersSaid_1_1_n {P : GZone → Bool} (l : List GZone) (hl : l.length ≤ 1048576) (c : GWorld) (hc : ∀ x ∈ l, ∀ k, call impl_ServersSaid_1_1 [.agg (eZone x), .ro (.cells (eWorld c))] k = k [.bool (P x)]) (k) : call slices_ContainsFunc_Zone_F_impl_ServersSaid_1_1 [.one (.list 2 (l.map eZone)), .fn 117 [.cells (eWorld c)]] k = k [.bool (l.any P)] := call_of (fun k => by
  simp [slices_ContainsFunc_Zone_F_impl_ServersSaid_1_1, slices_IndexFunc_Zone_F_impl_ServersSaid_1_1_n l hl c hc, idx_any]) k
theorem slices_IndexFunc_Signed_1_F_impl_World_isHeadSaid_1_1_n {P : GSigned → Bool} (l : List GSigned) (hl : l.length ≤ 1048576) (c : GHead) (hc : ∀ x ∈ l, ∀ k, call impl_World_isHeadSaid_1_1 [.agg (eSigned x), .ro (.cells (eHead c))] k = k [.bool (P x)]) (k) : call slices_IndexFunc_Signed_1_F_impl_World_isHeadSaid_1_1 [.one (.list 17 (l.map eSigned)), .fn 290 [.cells (eHead c)]] k = k [I (idx P l)] := call_of (fun k => by
  simp [slices_IndexFunc_Signed_1_F_impl_World_isHeadSaid_1_1]
  refine lp_find (Q := fun i => k [I i]) l (fun i => .list 17 (l.map eSigned) :: (eHead c ++ [I 0, I l.length, I i])) P rfl (fun i x hx hi K => ?_) fun K => ?_
  · have e := hc x (mem_get hx)
    simp [-getElem?_pos, slices_IndexFunc_Signed_1_F_impl_World_isHeadSaid_1_1_r0, hx, hi, e, wr_succ (show i < 1000000000000000000 by omega)]
  · simp [slices_IndexFunc_Signed_1_F_impl_World_isHeadSaid_1_1_r0]) k
theorem slices_ContainsFunc_Signed_F_impl_World_isHeadSaid_1_1_n {P : GSigned → Bool} (l : List GSigned) (hl : l.length ≤ 1048576) (c : GHead) (hc : ∀ x ∈ l, ∀ k, call impl_World_isHeadSaid_1_1 [.agg (eSigned x), .ro (.cells (eHead c))] k = k [.bool (P x)]) (k) : call slices_ContainsFunc_Signed_F_impl_World_isHeadSaid_1_1 [.one (.list 17 (l.map eSigned)), .fn 290 [.cells (eHead c)]] k = k [.bool (l.any P)] := call_of (fun k => by
  simp [slices_ContainsFunc_Signed_F_impl_World_isHeadSaid_1_1, slices_IndexFunc_Signed_1_F_impl_World_isHeadSaid_1_1_n l hl c hc, idx_any]) k
theorem slices_IndexFunc_Fork_F_impl_UserSaid_1_n {P : GFork → Bool} (l : List GFork) (hl : l.length ≤ 1048576) (c : GWorld) (hc : ∀ x ∈ l, ∀ k, call impl_UserSaid_1 [.agg (eFork x), .ro (.cells (eWorld c))] k = k [.bool (P x)]) (k) : call slices_IndexFunc_Fork_F_impl_UserSaid_1 [.one (.list 51 (l.map eFork)), .fn 121 [.cells (eWorld c)]] k = k [I (idx P l)] := call_of (fun k => by
  simp [slices_IndexFunc_Fork_F_impl_UserSaid_1]
  refine lp_find (Q := fun i => k [I i]) l (fun i => .list 51 (l.map eFork) :: (eWorld c ++ [I 0, I l.length, I i])) P rfl (fun i x hx hi K => ?_) fun K => ?_
  · have e := hc x (mem_get hx)
    simp [-getElem?_pos, slices_IndexFunc_Fork_F_impl_UserSaid_1_r0, hx, hi, e, wr_succ (show i < 1000000000000000000 by omega)]
  · simp [slices_IndexFunc_Fork_F_impl_UserSaid_1_r0]) k
theorem slices_ContainsFunc_Fork_F_impl_UserSaid_1_n {P : GFork → Bool} (l : List GFork) (hl : l.length ≤ 1048576) (c : GWorld) (hc : ∀ x ∈ l, ∀ k, call impl_UserSaid_1 [.agg (eFork x), .ro (.cells (eWorld c))] k = k [.bool (P x)]) (k) : call slices_ContainsFunc_Fork_F_impl_UserSaid_1 [.one (.list 51 (l.map eFork)), .fn 121 [.cells (eWorld c)]] k = k [.bool (l.any P)] := call_of (fun k => by
  simp [slices_ContainsFunc_Fork_F_impl_UserSaid_1, slices_IndexFunc_Fork_F_impl_UserSaid_1_n l hl c hc, idx_any]) k
end Go.Ev
set_option linter.unusedVariables false
set_option linter.unusedSimpArgs false
set_option maxRecDepth 4000
namespace Go.Ev
open Go.Proofs
/-! ### Somebody made a version of a zone -/
def saidP (z : GZone) (s : GSaid) : Bool := sPre s.Zone.Chain z.Chain && (sPre z.Chain s.Zone.Chain && decide (s.Zone.Entries = z.Entries))
def sSaid (w : List GSaid) (z : GZone) : Bool := w.any (saidP z)
theorem zone_le {z : GZone} (h : mZone z ≤ 1048576) : mSignedS z.Chain ≤ 1048576 ∧ mEntryS z.Entries ≤ 1048576 := by unfold mZone at h; omega
theorem spec_IsSaid_n (w : GWorld) (z : GZone) (h : mWorld w ≤ 1048576) (h' : mZone z ≤ 1048576) (k) : call spec_IsSaid [.agg (eWorld w), .agg (eZone z)] k = k [.bool (sSaid w.Said z)] := call_of (fun k => by
  obtain ⟨hs, hsl⟩ := said_le h
  obtain ⟨hz1, hz2⟩ := zone_le h'
  simp [spec_IsSaid]
  refine (lp_anyk k true w.Said (fun i => [.bool false, I i] ++ (eZone z ++ eWorld w)) (saidP z) rfl (fun i x hx hi K => ?_) fun K => ?_).trans (by simp [sSaid])
  · obtain ⟨c1, c2⟩ := mChain_le hs (mem_get hx)
    have e1 := spec_IsPrefix_n x.Zone.Chain z.Chain c1 hz1
    have e2 := spec_IsPrefix_n z.Chain x.Zone.Chain hz1 c1
    have e3 := spec_SameEntries_n x.Zone.Entries z.Entries c2 hz2
    simp [-getElem?_pos, spec_IsSaid_r0, hx, hi, e1, e2, e3, saidP, wr_succ (show i < 1000000000000000000 by omega)]
    all_goals (cases sPre x.Zone.Chain z.Chain <;> cases sPre z.Chain x.Zone.Chain <;> by_cases h3 : x.Zone.Entries = z.Entries <;> simp [h3])
  · simp [spec_IsSaid_r0]) k
theorem impl_IsSaid_n (w : GWorld) (z : GZone) (h : mWorld w ≤ 1048576) (h' : mZone z ≤ 1048576) (k) : call impl_IsSaid [.agg (eWorld w), .agg (eZone z)] k = k [.bool (sSaid w.Said z)] := call_of (fun k => by
  obtain ⟨hs, hsl⟩ := said_le h
  obtain ⟨hz1, hz2⟩ := zone_le h'
  have e2 := slices_ContainsFunc_Said_F_impl_World_someSaid_1_F_impl_IsSaid_1_n (P := saidP z) w.Said hsl z (fun x hx k => call_of (fun k => by
    obtain ⟨c1, c2⟩ := mChain_le hs hx
    have e1 := impl_IsPrefix_n x.Zone.Chain z.Chain c1 hz1
    have e2 := impl_IsPrefix_n z.Chain x.Zone.Chain hz1 c1
    have e3 := impl_SameEntries_n x.Zone.Entries z.Entries c2 hz2
    have e4 : ∀ k, call impl_IsSaid_1 [.agg (eZone x.Zone), .ro (.cells (eZone z))] k = k [.bool (saidP z x)] := call_of (fun k => by
      simp [impl_IsSaid_1, e1, e2, e3, saidP]
      cases sPre x.Zone.Chain z.Chain <;> cases sPre z.Chain x.Zone.Chain <;> by_cases h3 : x.Zone.Entries = z.Entries <;> simp [h3])
    simp [impl_World_someSaid_1_F_impl_IsSaid_1, e4]) k)
  have e3 : ∀ k, call impl_World_someSaid_F_impl_IsSaid_1 [.agg (eWorld w), .fn 111 [.cells (eZone z)]] k = k [.bool (sSaid w.Said z)] := call_of (fun k => by simp [impl_World_someSaid_F_impl_IsSaid_1, e2, sSaid])
  simp [impl_IsSaid, e3]) k
/-! ### All that servers have -/
def servP (w : List GSaid) (s : GServer) : Bool := s.Zones.any fun z => !sSaid w z
def sServers (w : GWorld) : Bool := !w.Servers.any (servP w.Said)
theorem serv_le {w : GWorld} (h : mWorld w ≤ 1048576) : w.Servers.length ≤ 1048576 ∧ ∀ s ∈ w.Servers, s.Zones.length ≤ 1048576 ∧ ∀ z ∈ s.Zones, mZone z ≤ 1048576 := by
  unfold mWorld at h
  have e : mServerS w.Servers = w.Servers.length + sumN mServer w.Servers := rfl
  refine ⟨by omega, fun s hs => ?_⟩
  have h1 := sumN_mem (s := mServer) hs
  have e2 : mServer s = s.Zones.length + sumN mZone s.Zones := rfl
  refine ⟨by omega, fun z hz => ?_⟩
  have h2 := sumN_mem (s := mZone) hz
  omega
theorem spec_ServersSaid_n (w : GWorld) (h : mWorld w ≤ 1048576) (k) : call spec_ServersSaid [.agg (eWorld w)] k = k [.bool (sServers w)] := call_of (fun k => by
  obtain ⟨hl, hz⟩ := serv_le h
  simp [spec_ServersSaid]
  refine (lp_anyk k false w.Servers (fun i => [.bool false, I i] ++ eWorld w) (servP w.Said) rfl (fun i x hx hi K => ?_) fun K => ?_).trans (by simp [sServers])
  · obtain ⟨hl2, hz2⟩ := hz x (mem_get hx)
    simp [-getElem?_pos, spec_ServersSaid_r0, hx, hi]
    refine (lp_any (P := k [.bool false]) (fin := K ([.bool false, I ((i + 1 : Nat) : Int)] ++ eWorld w)) x.Zones (fun j => [.bool false, I i, I j] ++ eWorld w) (fun z => !sSaid w.Said z) rfl (fun j y hy hj K => ?_) fun K => ?_).trans (by simp [servP])
    · have e := spec_IsSaid_n w y h (hz2 y (mem_get hy))
      simp [-getElem?_pos, spec_ServersSaid_r1, hx, hi, hy, hj, e, wr_succ (show j < 1000000000000000000 by omega)]
    · simp [-getElem?_pos, spec_ServersSaid_r1, hx, hi, wr_succ (show i < 1000000000000000000 by omega)]
  · simp [spec_ServersSaid_r0]) k
theorem impl_ServersSaid_n (w : GWorld) (h : mWorld w ≤ 1048576) (k) : call impl_ServersSaid [.agg (eWorld w)] k = k [.bool (sServers w)] := call_of (fun k => by
  obtain ⟨hl, hz⟩ := serv_le h
  have e := slices_ContainsFunc_Server_F_impl_ServersSaid_1_n (P := servP w.Said) w.Servers hl w (fun x hx k => call_of (fun k => by
    obtain ⟨hl2, hz2⟩ := hz x hx
    have e := slices_ContainsFunc_Zone_F_impl_ServersSaid_1_1_n (P := fun z => !sSaid w.Said z) x.Zones hl2 w (fun y hy k => call_of (fun k => by
      simp [impl_ServersSaid_1_1, impl_IsSaid_n w y h (hz2 y hy)]) k)
    simp [impl_ServersSaid_1, e, servP]) k)
  simp [impl_ServersSaid, e, sServers]) k
end Go.Ev
set_option linter.unusedVariables false
set_option linter.unusedSimpArgs false
set_option maxRecDepth 4000
namespace Go.Ev
open Go.Proofs
/-! ### All that a user knows -/
def headP (h : GHead) (s : GSaid) : Bool := s.Zone.Chain.any fun x => decide (x.Head = h)
def sHead (w : List GSaid) (h : GHead) : Bool := w.any (headP h)
def zSigned : GSigned := ⟨⟨0, 0, 0, 0, 0, 0, 0, 0, ⟨[], 0⟩, ⟨[], 0⟩, 0, ⟨[], 0⟩, false⟩, []⟩
def sFork (w : List GSaid) (f : GFork) : Bool := (decide (f.Before = zSigned) || sHead w f.Before.Head) && (sHead w f.A.Head && sHead w f.B.Head)
def sUser (w : GWorld) : Bool := !(w.Known.Chains.any fun l => !sGrounded w.Said l) && (!(w.Cache.Lst.any fun s => !sGrounded w.Said s.Answer.Chain) && !(w.Known.Forks.any fun f => !sFork w.Said f))
theorem impl_World_isHeadSaid_n (w : GWorld) (h0 : GHead) (h : mWorld w ≤ 1048576) (h' : mHead h0 ≤ 1048576) (k) : call impl_World_isHeadSaid [.agg (eWorld w), .agg (eHead h0)] k = k [.bool (sHead w.Said h0)] := call_of (fun k => by
  obtain ⟨hs, hsl⟩ := said_le h
  have e2 := slices_ContainsFunc_Said_F_impl_World_someSaid_1_F_impl_World_isHeadSaid_1_n (P := headP h0) w.Said hsl h0 (fun x hx k => call_of (fun k => by
    obtain ⟨c1, c2⟩ := mChain_le hs hx
    have e := slices_ContainsFunc_Signed_F_impl_World_isHeadSaid_1_1_n (P := fun y => decide (y.Head = h0)) x.Zone.Chain (len_le c1) h0 (fun y hy k => call_of (fun k => by
      simp [impl_World_isHeadSaid_1_1, impl_EqualHeads_n y.Head h0 (mHead_le c1 hy) h']) k)
    have e4 : ∀ k, call impl_World_isHeadSaid_1 [.agg (eZone x.Zone), .ro (.cells (eHead h0))] k = k [.bool (headP h0 x)] := call_of (fun k => by
      simp [impl_World_isHeadSaid_1, e, headP])
    simp [impl_World_someSaid_1_F_impl_World_isHeadSaid_1, e4]) k)
  have e3 : ∀ k, call impl_World_someSaid_F_impl_World_isHeadSaid_1 [.agg (eWorld w), .fn 288 [.cells (eHead h0)]] k = k [.bool (sHead w.Said h0)] := call_of (fun k => by simp [impl_World_someSaid_F_impl_World_isHeadSaid_1, e2, sHead])
  simp [impl_World_isHeadSaid, e3]) k
theorem spec_l37Head_n (w : GWorld) (s : GSigned) (h : mWorld w ≤ 1048576) (h' : mHead s.Head ≤ 1048576) (k) : call spec_l37Head [.agg (eWorld w), .agg (eSigned s)] k = k [.bool (sHead w.Said s.Head)] := call_of (fun k => by
  obtain ⟨hs, hsl⟩ := said_le h
  simp only [spec_l37Head, un, cur0, rt_eq, scs_sc, scs_nil, flat_bool, true_and]
  refine (lp_anyk k true w.Said (fun i => [.bool false, I i] ++ (eSigned s ++ eWorld w)) (headP s.Head) rfl (fun i x hx hi K => ?_) fun K => ?_).trans (by simp [sHead])
  · obtain ⟨c1, c2⟩ := mChain_le hs (mem_get hx)
    have hl2 := len_le c1
    simp [-getElem?_pos, spec_l37Head_r0, hx, hi]
    refine (lp_any (P := k [.bool true]) (fin := K ([.bool false, I ((i + 1 : Nat) : Int)] ++ (eSigned s ++ eWorld w))) x.Zone.Chain (fun j => [.bool false, I i, .list 17 (x.Zone.Chain.map eSigned), I j] ++ (eSigned s ++ eWorld w)) (fun y => decide (y.Head = s.Head)) rfl (fun j y hy hj K => ?_) fun K => ?_).trans (by simp [headP])
    · have e := spec_EqualHeads_n y.Head s.Head (mHead_le c1 (mem_get hy)) h'
      simp [-getElem?_pos, spec_l37Head_r1, hy, hj, e, wr_succ (show j < 1000000000000000000 by omega)]
    · simp [-getElem?_pos, spec_l37Head_r1, wr_succ (show i < 1000000000000000000 by omega)]
  · simp [spec_l37Head_r0]) k
theorem fork_le {f : GFork} (h : mFork f ≤ 1048576) : (mSigned f.Before ≤ 1048576 ∧ mSigned f.A ≤ 1048576 ∧ mSigned f.B ≤ 1048576) ∧ mHead f.Before.Head ≤ 1048576 ∧ mHead f.A.Head ≤ 1048576 ∧ mHead f.B.Head ≤ 1048576 := by
  unfold mFork at h
  have e : ∀ s : GSigned, mSigned s = mHead s.Head + s.Sigs.length := fun _ => rfl
  have := e f.Before; have := e f.A; have := e f.B
  omega
theorem impl_World_isForkSaid_n (w : GWorld) (f : GFork) (h : mWorld w ≤ 1048576) (h' : mFork f ≤ 1048576) (k) : call impl_World_isForkSaid [.agg (eWorld w), .agg (eFork f)] k = k [.bool (sFork w.Said f)] := call_of (fun k => by
  obtain ⟨⟨m1, m2, m3⟩, q1, q2, q3⟩ := fork_le h'
  have e0 := impl_EqualSigned_n f.Before zSigned m1 (by decide)
  have e1 := impl_World_isHeadSaid_n w f.Before.Head h q1
  have e2 := impl_World_isHeadSaid_n w f.A.Head h q2
  have e3 := impl_World_isHeadSaid_n w f.B.Head h q3
  simp only [impl_World_isForkSaid, un, cur0]
  rw [show [I 0, I 0, I 0, I 0, I 0, I 0, I 0, I 0, PV.list 1 [], I 0, PV.list 1 [], I 0, I 0, PV.list 1 [], I 0, PV.bool false, PV.list 2 []] = eSigned zSigned from rfl, e0, e1, e2, e3]
  simp [sFork]
  by_cases h1 : f.Before = zSigned
  · cases sHead w.Said f.A.Head <;> cases sHead w.Said f.B.Head <;> simp [h1]
  · cases sHead w.Said f.Before.Head <;> cases sHead w.Said f.A.Head <;> cases sHead w.Said f.B.Head <;> simp [h1]) k
theorem known_le {w : GWorld} (h : mWorld w ≤ 1048576) : (w.Known.Chains.length ≤ 1048576 ∧ ∀ l ∈ w.Known.Chains, mSignedS l ≤ 1048576) ∧ (w.Known.Forks.length ≤ 1048576 ∧ ∀ f ∈ w.Known.Forks, mFork f ≤ 1048576) ∧ (w.Cache.Lst.length ≤ 1048576 ∧ ∀ s ∈ w.Cache.Lst, mSignedS s.Answer.Chain ≤ 1048576) := by
  unfold mWorld at h
  have e1 : mKnown w.Known = (w.Known.Chains.length + sumN mSignedS w.Known.Chains) + (w.Known.Forks.length + sumN mFork w.Known.Forks) := rfl
  have e2 : mCache w.Cache = w.Cache.Lst.length + sumN mStored w.Cache.Lst := rfl
  refine ⟨⟨by omega, fun l hl => ?_⟩, ⟨by omega, fun f hf => ?_⟩, by omega, fun s hs => ?_⟩
  · have := sumN_mem (s := mSignedS) hl; omega
  · have := sumN_mem (s := mFork) hf; omega
  · have h1 := sumN_mem (s := mStored) hs
    have h2 : mSignedS s.Answer.Chain ≤ mStored s := by unfold mStored mAnswer; omega
    omega
theorem impl_UserSaid_n (w : GWorld) (h : mWorld w ≤ 1048576) (k) : call impl_UserSaid [.agg (eWorld w)] k = k [.bool (sUser w)] := call_of (fun k => by
  obtain ⟨⟨l1, c1⟩, ⟨l2, c2⟩, l3, c3⟩ := known_le h
  have e3 := slices_ContainsFunc_Fork_F_impl_UserSaid_1_n (P := fun f => !sFork w.Said f) w.Known.Forks l2 w (fun f hf k => call_of (fun k => by
    simp [impl_UserSaid_1, impl_World_isForkSaid_n w f h (c2 f hf)]) k)
  simp only [impl_UserSaid, un, cur0, lenP_eq, List.length_map, rt_eq, scs_sc, scs_nil, flat_bool, true_and]
  refine (lp_any (P := k [.bool false]) (fin := k [.bool (!(w.Cache.Lst.any fun s => !sGrounded w.Said s.Answer.Chain) && !(w.Known.Forks.any fun f => !sFork w.Said f))]) w.Known.Chains (fun i => [.bool false, .list 1 (w.Known.Chains.map fun l : List GSigned => [.list 17 (l.map eSigned)]), I w.Known.Chains.length, I i] ++ eWorld w) (fun l => !sGrounded w.Said l) rfl (fun i x hx hi K => ?_) fun K => ?_).trans ?_
  · have e := impl_IsGrounded_n w x h (c1 x (mem_get hx))
    simp [-getElem?_pos, impl_UserSaid_r0, hx, hi, e, wr_succ (show i < 1000000000000000000 by omega)]
  · simp [impl_UserSaid_r0]
    refine (lp_any (P := k [.bool false]) (fin := k [.bool (!(w.Known.Forks.any fun f => !sFork w.Said f))]) w.Cache.Lst (fun i => [.bool false, .list 1 (w.Known.Chains.map fun l : List GSigned => [.list 17 (l.map eSigned)]), I w.Known.Chains.length, I w.Known.Chains.length, .list 23 (w.Cache.Lst.map eStored), I w.Cache.Lst.length, I i] ++ eWorld w) (fun s => !sGrounded w.Said s.Answer.Chain) rfl (fun i x hx hi K => ?_) fun K => ?_).trans ?_
    · have e := impl_IsGrounded_n w x.Answer.Chain h (c3 x (mem_get hx))
      simp [-getElem?_pos, impl_UserSaid_r1, hx, hi, e, wr_succ (show i < 1000000000000000000 by omega)]
    · simp [impl_UserSaid_r1, e3]
    · cases (w.Cache.Lst.any fun s => !sGrounded w.Said s.Answer.Chain) <;> simp
  · unfold sUser
    cases (w.Known.Chains.any fun l => !sGrounded w.Said l) <;> simp) k
theorem spec_UserSaid_n (w : GWorld) (h : mWorld w ≤ 1048576) (k) : call spec_UserSaid [.agg (eWorld w)] k = k [.bool (sUser w)] := call_of (fun k => by
  obtain ⟨⟨l1, c1⟩, ⟨l2, c2⟩, l3, c3⟩ := known_le h
  simp only [spec_UserSaid, un, cur0, rt_eq, scs_sc, scs_nil, flat_bool, true_and]
  refine (lp_any (P := k [.bool false]) (fin := k [.bool (!(w.Cache.Lst.any fun s => !sGrounded w.Said s.Answer.Chain) && !(w.Known.Forks.any fun f => !sFork w.Said f))]) w.Known.Chains (fun i => [.bool false, I i] ++ eWorld w) (fun l => !sGrounded w.Said l) rfl (fun i x hx hi K => ?_) fun K => ?_).trans ?_
  · have e := spec_IsGrounded_n w x h (c1 x (mem_get hx))
    simp [-getElem?_pos, spec_UserSaid_r0, hx, hi, e, wr_succ (show i < 1000000000000000000 by omega)]
  · simp [spec_UserSaid_r0]
    refine (lp_any (P := k [.bool false]) (fin := k [.bool (!(w.Known.Forks.any fun f => !sFork w.Said f))]) w.Cache.Lst (fun i => [.bool false, I w.Known.Chains.length, I i] ++ eWorld w) (fun s => !sGrounded w.Said s.Answer.Chain) rfl (fun i x hx hi K => ?_) fun K => ?_).trans ?_
    · have e := spec_IsGrounded_n w x.Answer.Chain h (c3 x (mem_get hx))
      simp [-getElem?_pos, spec_UserSaid_r1, hx, hi, e, wr_succ (show i < 1000000000000000000 by omega)]
    · simp [spec_UserSaid_r1]
      refine (lp_anyk k false w.Known.Forks (fun i => [.bool false, I w.Known.Chains.length, I w.Cache.Lst.length, I i] ++ eWorld w) (fun f => !sFork w.Said f) rfl (fun i f hx hi K => ?_) fun K => ?_).trans (by simp)
      · obtain ⟨⟨m1, m2, m3⟩, q1, q2, q3⟩ := fork_le (c2 f (mem_get hx))
        have e0 := spec_EqualSigned_n f.Before zSigned m1 (by decide)
        have e1 := spec_l37Head_n w f.Before h q1
        have e2 := spec_l37Head_n w f.A h q2
        have e3 := spec_l37Head_n w f.B h q3
        rw [show eSigned zSigned = [I 0, I 0, I 0, I 0, I 0, I 0, I 0, I 0, PV.list 1 [], I 0, PV.list 1 [], I 0, I 0, PV.list 1 [], I 0, PV.bool false, PV.list 2 []] from rfl] at e0
        simp [-getElem?_pos, spec_UserSaid_r2, hx, hi, e0, e1, e2, e3, sFork, wr_succ (show i < 1000000000000000000 by omega)]
        by_cases h1 : f.Before = zSigned
        · cases sHead w.Said f.A.Head <;> cases sHead w.Said f.B.Head <;> simp [h1]
        · cases sHead w.Said f.Before.Head <;> cases sHead w.Said f.A.Head <;> cases sHead w.Said f.B.Head <;> simp [h1]
      · simp [spec_UserSaid_r2]
    · cases (w.Cache.Lst.any fun s => !sGrounded w.Said s.Answer.Chain) <;> simp
  · unfold sUser
    cases (w.Known.Chains.any fun l => !sGrounded w.Said l) <;> simp) k
end Go.Ev
set_option linter.unusedVariables false
set_option linter.unusedSimpArgs false
set_option maxRecDepth 4000
set_option maxHeartbeats 2000000
namespace Go.Ev
open Go.Proofs
theorem laws_FnExactIsSaid_law (pvss : List (List PV)) (h : HasEach [[.int .i64, .list [.list [.int .i64]], .list [.list [.int .i64, .int .i64, .int .i64, .int .i64, .int .i64, .int .i64, .int .i64, .int .i64, .list [.int .i64], .int .i64, .list [.int .i64], .int .i64, .int .i64, .list [.int .i64], .int .i64, .bool, .list [.int .i64, .int .i64]], .list [.str, .int .i64, .int .i64, .list [.str]]], .list [.list [.int .i64, .int .i64, .int .i64, .int .i64, .int .i64, .int .i64, .int .i64, .int .i64, .list [.int .i64], .int .i64, .list [.int .i64], .int .i64, .int .i64, .list [.int .i64], .int .i64, .bool, .list [.int .i64, .int .i64]], .list [.str, .int .i64, .int .i64, .list [.str]], .list [.int .i64]], .list [.list [.list [.int .i64, .int .i64, .int .i64, .int .i64, .int .i64, .int .i64, .int .i64, .int .i64, .list [.int .i64], .int .i64, .list [.int .i64], .int .i64, .int .i64, .list [.int .i64], .int .i64, .bool, .list [.int .i64, .int .i64]], .list [.str, .int .i64, .int .i64, .list [.str]]], .int .i64], .list [.list [.int .i64, .int .i64, .int .i64, .int .i64, .int .i64, .int .i64, .int .i64, .int .i64, .list [.int .i64], .int .i64, .list [.int .i64], .int .i64, .int .i64, .list [.int .i64], .int .i64, .bool, .list [.int .i64, .int .i64]]], .list [.int .i64, .int .i64, .int .i64, .int .i64, .int .i64, .int .i64, .int .i64, .int .i64, .list [.int .i64], .int .i64, .list [.int .i64], .int .i64, .int .i64, .list [.int .i64], .int .i64, .bool, .list [.int .i64, .int .i64], .int .i64, .int .i64, .int .i64, .int .i64, .int .i64, .int .i64, .int .i64, .int .i64, .list [.int .i64], .int .i64, .list [.int .i64], .int .i64, .int .i64, .list [.int .i64], .int .i64, .bool, .list [.int .i64, .int .i64], .int .i64, .int .i64, .int .i64, .int .i64, .int .i64, .int .i64, .int .i64, .int .i64, .list [.int .i64], .int .i64, .list [.int .i64], .int .i64, .int .i64, .list [.int .i64], .int .i64, .bool, .list [.int .i64, .int .i64]], .list [.int .i64, .str, .list [.int .i64, .int .i64, .int .i64, .int .i64, .int .i64, .int .i64, .int .i64, .int .i64, .list [.int .i64], .int .i64, .list [.int .i64], .int .i64, .int .i64, .list [.int .i64], .int .i64, .bool, .list [.int .i64, .int .i64]], .bool, .str, .int .i64, .int .i64, .list [.str], .int .i64, .list [.int .i64], .int .i64, .str, .int .i64, .int .i64, .list [.str], .str, .int .i64, .int .i64, .list [.str], .int .i64, .list [.int .i64], .int .i64, .list [.int .i64]]], [.list [.int .i64, .int .i64, .int .i64, .int .i64, .int .i64, .int .i64, .int .i64, .int .i64, .list [.int .i64], .int .i64, .list [.int .i64], .int .i64, .int .i64, .list [.int .i64], .int .i64, .bool, .list [.int .i64, .int .i64]], .list [.str, .int .i64, .int .i64, .list [.str]]]] pvss) : laws_FnExactIsSaid (avsOf Tryz.prog Tryz.f7.params.toList pvss) (fun o => o = [PV.bool true]) := by
  obtain ⟨p0, r0, rfl, h0, hq0⟩ := each_cons h
  obtain ⟨p1, r1, rfl, h1, hq1⟩ := each_cons hq0
  rw [each_nil hq1]
  obtain ⟨x0, rfl, w0⟩ := decWorld _ h0
  obtain ⟨x1, rfl, w1⟩ := decZone _ h1
  rw [show avsOf Tryz.prog Tryz.f7.params.toList [eWorld x0, eZone x1] = [.agg (eWorld x0), .agg (eZone x1)] by kernel_rfl]
  simp only [laws_FnExactIsSaid, un, cur0, laws_szWorld_n x0 (1048576) w0 (by omega) (by omega), binP_lss, iteP_eq, atP_zero, atP_succ, rt_eq, scs_sc, scs_nil, flat_int, flat_bool, true_and, and_true]
  by_cases c0 : ((mWorld x0 : Nat) : Int) ≤ 1048576
  rotate_left
  · simp [szr_not c0]
  simp only [szr_yes c0, show ¬ (1048576 - ((mWorld x0 : Nat) : Int) < 0) by omega, decide_false, Bool.false_eq_true, if_false, laws_szZone_n x1 (1048576 - ((mWorld x0 : Nat) : Int)) w1 (by omega) (by omega), binP_lss, iteP_eq, atP_zero, atP_succ, rt_eq, scs_sc, scs_nil, flat_int, flat_bool, true_and, and_true]
  by_cases c1 : ((mZone x1 : Nat) : Int) ≤ 1048576 - ((mWorld x0 : Nat) : Int)
  rotate_left
  · simp [szr_not c1]
  simp only [szr_yes c1, show ¬ (1048576 - ((mWorld x0 : Nat) : Int) - ((mZone x1 : Nat) : Int) < 0) by omega, decide_false, Bool.false_eq_true, if_false, binP_lss, iteP_eq, atP_zero, atP_succ, rt_eq, scs_sc, scs_nil, flat_int, flat_bool, true_and, and_true]
  have s0 : mWorld x0 ≤ 1048576 := by omega
  have s1 : mZone x1 ≤ 1048576 := by omega
  simp [laws_toWorld_n x0 s0, laws_eqWorld_n x0 s0, laws_toZone_n x1 s1, laws_eqZone_n x1 s1, spec_IsSaid_n x0 x1 s0 s1, impl_IsSaid_n x0 x1 s0 s1]
end Go.Ev
namespace Go.Ev
open Go.Proofs
theorem laws_FnExactIsGrounded_law (pvss : List (List PV)) (h : HasEach [[.int .i64, .list [.list [.int .i64]], .list [.list [.int .i64, .int .i64, .int .i64, .int .i64, .int .i64, .int .i64, .int .i64, .int .i64, .list [.int .i64], .int .i64, .list [.int .i64], .int .i64, .int .i64, .list [.int .i64], .int .i64, .bool, .list [.int .i64, .int .i64]], .list [.str, .int .i64, .int .i64, .list [.str]]], .list [.list [.int .i64, .int .i64, .int .i64, .int .i64, .int .i64, .int .i64, .int .i64, .int .i64, .list [.int .i64], .int .i64, .list [.int .i64], .int .i64, .int .i64, .list [.int .i64], .int .i64, .bool, .list [.int .i64, .int .i64]], .list [.str, .int .i64, .int .i64, .list [.str]], .list [.int .i64]], .list [.list [.list [.int .i64, .int .i64, .int .i64, .int .i64, .int .i64, .int .i64, .int .i64, .int .i64, .list [.int .i64], .int .i64, .list [.int .i64], .int .i64, .int .i64, .list [.int .i64], .int .i64, .bool, .list [.int .i64, .int .i64]], .list [.str, .int .i64, .int .i64, .list [.str]]], .int .i64], .list [.list [.int .i64, .int .i64, .int .i64, .int .i64, .int .i64, .int .i64, .int .i64, .int .i64, .list [.int .i64], .int .i64, .list [.int .i64], .int .i64, .int .i64, .list [.int .i64], .int .i64, .bool, .list [.int .i64, .int .i64]]], .list [.int .i64, .int .i64, .int .i64, .int .i64, .int .i64, .int .i64, .int .i64, .int .i64, .list [.int .i64], .int .i64, .list [.int .i64], .int .i64, .int .i64, .list [.int .i64], .int .i64, .bool, .list [.int .i64, .int .i64], .int .i64, .int .i64, .int .i64, .int .i64, .int .i64, .int .i64, .int .i64, .int .i64, .list [.int .i64], .int .i64, .list [.int .i64], .int .i64, .int .i64, .list [.int .i64], .int .i64, .bool, .list [.int .i64, .int .i64], .int .i64, .int .i64, .int .i64, .int .i64, .int .i64, .int .i64, .int .i64, .int .i64, .list [.int .i64], .int .i64, .list [.int .i64], .int .i64, .int .i64, .list [.int .i64], .int .i64, .bool, .list [.int .i64, .int .i64]], .list [.int .i64, .str, .list [.int .i64, .int .i64, .int .i64, .int .i64, .int .i64, .int .i64, .int .i64, .int .i64, .list [.int .i64], .int .i64, .list [.int .i64], .int .i64, .int .i64, .list [.int .i64], .int .i64, .bool, .list [.int .i64, .int .i64]], .bool, .str, .int .i64, .int .i64, .list [.str], .int .i64, .list [.int .i64], .int .i64, .str, .int .i64, .int .i64, .list [.str], .str, .int .i64, .int .i64, .list [.str], .int .i64, .list [.int .i64], .int .i64, .list [.int .i64]]], [.list [.int .i64, .int .i64, .int .i64, .int .i64, .int .i64, .int .i64, .int .i64, .int .i64, .list [.int .i64], .int .i64, .list [.int .i64], .int .i64, .int .i64, .list [.int .i64], .int .i64, .bool, .list [.int .i64, .int .i64]]]] pvss) : laws_FnExactIsGrounded (avsOf Tryz.prog Tryz.f5.params.toList pvss) (fun o => o = [PV.bool true]) := by
  obtain ⟨p0, r0, rfl, h0, hq0⟩ := each_cons h
  obtain ⟨p1, r1, rfl, h1, hq1⟩ := each_cons hq0
  rw [each_nil hq1]
  obtain ⟨x0, rfl, w0⟩ := decWorld _ h0
  obtain ⟨p1, rfl, g1⟩ := all_one h1
  obtain ⟨x1, rfl, w1⟩ := decSignedS g1
  rw [show avsOf Tryz.prog Tryz.f5.params.toList [eWorld x0, [.list 17 (x1.map eSigned)]] = [.agg (eWorld x0), .one (.list 17 (x1.map eSigned))] by kernel_rfl]
  simp only [laws_FnExactIsGrounded, un, cur0, laws_szWorld_n x0 (1048576) w0 (by omega) (by omega), binP_lss, iteP_eq, atP_zero, atP_succ, rt_eq, scs_sc, scs_nil, flat_int, flat_bool, true_and, and_true]
  by_cases c0 : ((mWorld x0 : Nat) : Int) ≤ 1048576
  rotate_left
  · simp [szr_not c0]
  simp only [szr_yes c0, show ¬ (1048576 - ((mWorld x0 : Nat) : Int) < 0) by omega, decide_false, Bool.false_eq_true, if_false, laws_szSignedS_n x1 (1048576 - ((mWorld x0 : Nat) : Int)) w1 (by omega) (by omega), binP_lss, iteP_eq, atP_zero, atP_succ, rt_eq, scs_sc, scs_nil, flat_int, flat_bool, true_and, and_true]
  by_cases c1 : ((mSignedS x1 : Nat) : Int) ≤ 1048576 - ((mWorld x0 : Nat) : Int)
  rotate_left
  · simp [szr_not c1]
  simp only [szr_yes c1, show ¬ (1048576 - ((mWorld x0 : Nat) : Int) - ((mSignedS x1 : Nat) : Int) < 0) by omega, decide_false, Bool.false_eq_true, if_false, binP_lss, iteP_eq, atP_zero, atP_succ, rt_eq, scs_sc, scs_nil, flat_int, flat_bool, true_and, and_true]
  have s0 : mWorld x0 ≤ 1048576 := by omega
  have s1 : mSignedS x1 ≤ 1048576 := by omega
  simp [laws_toWorld_n x0 s0, laws_eqWorld_n x0 s0, laws_toSignedS_n x1 s1, laws_eqSignedS_n x1 s1, spec_IsGrounded_n x0 x1 s0 s1, impl_IsGrounded_n x0 x1 s0 s1]
end Go.Ev
namespace Go.Ev
open Go.Proofs
theorem laws_FnExactServersSaid_law (pvss : List (List PV)) (h : HasEach [[.int .i64, .list [.list [.int .i64]], .list [.list [.int .i64, .int .i64, .int .i64, .int .i64, .int .i64, .int .i64, .int .i64, .int .i64, .list [.int .i64], .int .i64, .list [.int .i64], .int .i64, .int .i64, .list [.int .i64], .int .i64, .bool, .list [.int .i64, .int .i64]], .list [.str, .int .i64, .int .i64, .list [.str]]], .list [.list [.int .i64, .int .i64, .int .i64, .int .i64, .int .i64, .int .i64, .int .i64, .int .i64, .list [.int .i64], .int .i64, .list [.int .i64], .int .i64, .int .i64, .list [.int .i64], .int .i64, .bool, .list [.int .i64, .int .i64]], .list [.str, .int .i64, .int .i64, .list [.str]], .list [.int .i64]], .list [.list [.list [.int .i64, .int .i64, .int .i64, .int .i64, .int .i64, .int .i64, .int .i64, .int .i64, .list [.int .i64], .int .i64, .list [.int .i64], .int .i64, .int .i64, .list [.int .i64], .int .i64, .bool, .list [.int .i64, .int .i64]], .list [.str, .int .i64, .int .i64, .list [.str]]], .int .i64], .list [.list [.int .i64, .int .i64, .int .i64, .int .i64, .int .i64, .int .i64, .int .i64, .int .i64, .list [.int .i64], .int .i64, .list [.int .i64], .int .i64, .int .i64, .list [.int .i64], .int .i64, .bool, .list [.int .i64, .int .i64]]], .list [.int .i64, .int .i64, .int .i64, .int .i64, .int .i64, .int .i64, .int .i64, .int .i64, .list [.int .i64], .int .i64, .list [.int .i64], .int .i64, .int .i64, .list [.int .i64], .int .i64, .bool, .list [.int .i64, .int .i64], .int .i64, .int .i64, .int .i64, .int .i64, .int .i64, .int .i64, .int .i64, .int .i64, .list [.int .i64], .int .i64, .list [.int .i64], .int .i64, .int .i64, .list [.int .i64], .int .i64, .bool, .list [.int .i64, .int .i64], .int .i64, .int .i64, .int .i64, .int .i64, .int .i64, .int .i64, .int .i64, .int .i64, .list [.int .i64], .int .i64, .list [.int .i64], .int .i64, .int .i64, .list [.int .i64], .int .i64, .bool, .list [.int .i64, .int .i64]], .list [.int .i64, .str, .list [.int .i64, .int .i64, .int .i64, .int .i64, .int .i64, .int .i64, .int .i64, .int .i64, .list [.int .i64], .int .i64, .list [.int .i64], .int .i64, .int .i64, .list [.int .i64], .int .i64, .bool, .list [.int .i64, .int .i64]], .bool, .str, .int .i64, .int .i64, .list [.str], .int .i64, .list [.int .i64], .int .i64, .str, .int .i64, .int .i64, .list [.str], .str, .int .i64, .int .i64, .list [.str], .int .i64, .list [.int .i64], .int .i64, .list [.int .i64]]]] pvss) : laws_FnExactServersSaid (avsOf Tryz.prog Tryz.f8.params.toList pvss) (fun o => o = [PV.bool true]) := by
  obtain ⟨p0, r0, rfl, h0, hq0⟩ := each_cons h
  rw [each_nil hq0]
  obtain ⟨x0, rfl, w0⟩ := decWorld _ h0
  rw [show avsOf Tryz.prog Tryz.f8.params.toList [eWorld x0] = [.agg (eWorld x0)] by kernel_rfl]
  simp only [laws_FnExactServersSaid, un, cur0, laws_szWorld_n x0 (1048576) w0 (by omega) (by omega), binP_lss, iteP_eq, atP_zero, atP_succ, rt_eq, scs_sc, scs_nil, flat_int, flat_bool, true_and, and_true]
  by_cases c0 : ((mWorld x0 : Nat) : Int) ≤ 1048576
  rotate_left
  · simp [szr_not c0]
  simp only [szr_yes c0, show ¬ (1048576 - ((mWorld x0 : Nat) : Int) < 0) by omega, decide_false, Bool.false_eq_true, if_false, binP_lss, iteP_eq, atP_zero, atP_succ, rt_eq, scs_sc, scs_nil, flat_int, flat_bool, true_and, and_true]
  have s0 : mWorld x0 ≤ 1048576 := by omega
  simp [laws_toWorld_n x0 s0, laws_eqWorld_n x0 s0, spec_ServersSaid_n x0 s0, impl_ServersSaid_n x0 s0]
end Go.Ev
namespace Go.Ev
open Go.Proofs
theorem laws_FnExactUserSaid_law (pvss : List (List PV)) (h : HasEach [[.int .i64, .list [.list [.int .i64]], .list [.list [.int .i64, .int .i64, .int .i64, .int .i64, .int .i64, .int .i64, .int .i64, .int .i64, .list [.int .i64], .int .i64, .list [.int .i64], .int .i64, .int .i64, .list [.int .i64], .int .i64, .bool, .list [.int .i64, .int .i64]], .list [.str, .int .i64, .int .i64, .list [.str]]], .list [.list [.int .i64, .int .i64, .int .i64, .int .i64, .int .i64, .int .i64, .int .i64, .int .i64, .list [.int .i64], .int .i64, .list [.int .i64], .int .i64, .int .i64, .list [.int .i64], .int .i64, .bool, .list [.int .i64, .int .i64]], .list [.str, .int .i64, .int .i64, .list [.str]], .list [.int .i64]], .list [.list [.list [.int .i64, .int .i64, .int .i64, .int .i64, .int .i64, .int .i64, .int .i64, .int .i64, .list [.int .i64], .int .i64, .list [.int .i64], .int .i64, .int .i64, .list [.int .i64], .int .i64, .bool, .list [.int .i64, .int .i64]], .list [.str, .int .i64, .int .i64, .list [.str]]], .int .i64], .list [.list [.int .i64, .int .i64, .int .i64, .int .i64, .int .i64, .int .i64, .int .i64, .int .i64, .list [.int .i64], .int .i64, .list [.int .i64], .int .i64, .int .i64, .list [.int .i64], .int .i64, .bool, .list [.int .i64, .int .i64]]], .list [.int .i64, .int .i64, .int .i64, .int .i64, .int .i64, .int .i64, .int .i64, .int .i64, .list [.int .i64], .int .i64, .list [.int .i64], .int .i64, .int .i64, .list [.int .i64], .int .i64, .bool, .list [.int .i64, .int .i64], .int .i64, .int .i64, .int .i64, .int .i64, .int .i64, .int .i64, .int .i64, .int .i64, .list [.int .i64], .int .i64, .list [.int .i64], .int .i64, .int .i64, .list [.int .i64], .int .i64, .bool, .list [.int .i64, .int .i64], .int .i64, .int .i64, .int .i64, .int .i64, .int .i64, .int .i64, .int .i64, .int .i64, .list [.int .i64], .int .i64, .list [.int .i64], .int .i64, .int .i64, .list [.int .i64], .int .i64, .bool, .list [.int .i64, .int .i64]], .list [.int .i64, .str, .list [.int .i64, .int .i64, .int .i64, .int .i64, .int .i64, .int .i64, .int .i64, .int .i64, .list [.int .i64], .int .i64, .list [.int .i64], .int .i64, .int .i64, .list [.int .i64], .int .i64, .bool, .list [.int .i64, .int .i64]], .bool, .str, .int .i64, .int .i64, .list [.str], .int .i64, .list [.int .i64], .int .i64, .str, .int .i64, .int .i64, .list [.str], .str, .int .i64, .int .i64, .list [.str], .int .i64, .list [.int .i64], .int .i64, .list [.int .i64]]]] pvss) : laws_FnExactUserSaid (avsOf Tryz.prog Tryz.f9.params.toList pvss) (fun o => o = [PV.bool true]) := by
  obtain ⟨p0, r0, rfl, h0, hq0⟩ := each_cons h
  rw [each_nil hq0]
  obtain ⟨x0, rfl, w0⟩ := decWorld _ h0
  rw [show avsOf Tryz.prog Tryz.f9.params.toList [eWorld x0] = [.agg (eWorld x0)] by kernel_rfl]
  simp only [laws_FnExactUserSaid, un, cur0, laws_szWorld_n x0 (1048576) w0 (by omega) (by omega), binP_lss, iteP_eq, atP_zero, atP_succ, rt_eq, scs_sc, scs_nil, flat_int, flat_bool, true_and, and_true]
  by_cases c0 : ((mWorld x0 : Nat) : Int) ≤ 1048576
  rotate_left
  · simp [szr_not c0]
  simp only [szr_yes c0, show ¬ (1048576 - ((mWorld x0 : Nat) : Int) < 0) by omega, decide_false, Bool.false_eq_true, if_false, binP_lss, iteP_eq, atP_zero, atP_succ, rt_eq, scs_sc, scs_nil, flat_int, flat_bool, true_and, and_true]
  have s0 : mWorld x0 ≤ 1048576 := by omega
  simp [laws_toWorld_n x0 s0, laws_eqWorld_n x0 s0, spec_UserSaid_n x0 s0, impl_UserSaid_n x0 s0]
end Go.Ev
