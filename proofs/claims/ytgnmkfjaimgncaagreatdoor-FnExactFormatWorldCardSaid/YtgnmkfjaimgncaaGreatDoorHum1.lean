/- What each function hands back, in plain Lean, and that the laws answer true, part 1. -/
import Derived.Test.YtgnmkfjaimgncaaGreatDoorFn2
import Derived.Lib.ItoaLen
import Derived.Lib.Join
set_option linter.unusedVariables false
set_option linter.unusedSimpArgs false
set_option maxRecDepth 4000
namespace Go.Ev
open Go.Proofs
/-! ### The laws' own functions: copies, sizes, comparisons (printed by gentypes.py) -/
theorem szr_add {s t : Nat} {left : Int} (h : (s : Int) ≤ left) : szr (s + t) left = szr t (left - s) := by
  unfold szr
  by_cases h1 : (t : Int) ≤ left - s
  · rw [if_pos h1, if_pos (by omega)]; omega
  · rw [if_neg h1, if_neg (by omega)]
theorem szr_over {s t : Nat} {left : Int} (h : ¬ (s : Int) ≤ left) : szr (s + t) left = -1 := by unfold szr; rw [if_neg (by omega)]
theorem szr_not {s : Nat} {left : Int} (h : ¬ (s : Int) ≤ left) : szr s left = -1 := by unfold szr; rw [if_neg h]
theorem szr_yes {s : Nat} {left : Int} (h : (s : Int) ≤ left) : szr s left = left - s := by unfold szr; rw [if_pos h]
theorem szr_pos {s : Nat} {left : Int} (h : 0 ≤ szr s left) : (s : Int) ≤ left ∧ szr s left = left - s := by
  unfold szr at h ⊢
  split at h
  · rename_i h1; rw [if_pos h1]; exact ⟨h1, rfl⟩
  · omega
theorem sumN_mem {α : Type} {s : α → Nat} {x : α} : ∀ {l : List α}, x ∈ l → s x ≤ sumN s l
  | y :: l, h => by
    rw [show sumN s (y :: l) = s y + sumN s l from rfl]
    rcases List.mem_cons.1 h with rfl | h
    · omega
    · have := sumN_mem (s := s) h; omega
/-- one count, then the rest -/
theorem sz_seq {s t : Nat} {left : Int} {A : Int → Prop} {k : List PV → Prop} (h2 : 0 ≤ left) (h3 : left ≤ 1048576) (h : ∀ l, 0 ≤ l → l ≤ 1048576 → (A l ↔ k [I (szr t l)])) :
    (if decide (szr s left < 0) = true then k [I (-1)] else A (szr s left)) ↔ k [I (szr (s + t) left)] := by
  by_cases hs : (s : Int) ≤ left
  · rw [szr_yes hs, szr_add hs, if_neg (by simp; omega)]
    exact h _ (by omega) (by omega)
  · rw [szr_not hs, szr_over hs]; simp
theorem sz_end {s : Nat} {left : Int} {k : List PV → Prop} (h2 : 0 ≤ left) : (if decide (szr s left < 0) = true then k [I (-1)] else k [I (szr s left)]) ↔ k [I (szr s left)] := by
  by_cases hs : (s : Int) ≤ left
  · rw [szr_yes hs, if_neg (by simp; omega)]
  · rw [szr_not hs]; simp
/-- a length, taken off -/
theorem sz_len {n : Nat} {left : Int} {A : Int → Prop} {k : List PV → Prop} (h1 : n ≤ maxLen) (h2 : 0 ≤ left) (h3 : left ≤ 1048576) :
    (if decide (IntKind.i64.wrap (left - n) < 0) = true then k [I (-1)] else A (IntKind.i64.wrap (left - n))) ↔ (if decide (szr n left < 0) = true then k [I (-1)] else A (szr n left)) := by
  rw [wr_left h1 h2 h3]
  by_cases hs : (n : Int) ≤ left
  · rw [szr_yes hs]
  · rw [szr_not hs, if_pos (by simp; omega), if_pos (by simp)]

theorem has_strs {p : PV} (hp : Sh.has (.list [.str]) p) : ∃ l : List ByteArray, p = strs l ∧ (l.length ≤ maxLen ∧ ∀ y ∈ l, y.size ≤ maxLen) := by
  obtain ⟨l, h1, h2, h3⟩ := has_map (enc := rS) (wf := fun y => y.size ≤ maxLen) (fun r hr => by
    obtain ⟨p, rfl, h⟩ := all_one hr
    obtain ⟨n, rfl, g⟩ := has_str h
    exact ⟨n, rfl, g⟩) 1 rfl hp
  exact ⟨l, h1, h2, h3⟩
theorem laws_szIntS_n (l : List Int) (left : Int) (hw : l.length ≤ maxLen) (h2 : 0 ≤ left) (h3 : left ≤ 1048576) (k) : call laws_szIntS [.one (ints l), .one (I left)] k = k [I (szr l.length left)] := call_of (fun k => by
  simp only [laws_szIntS, lenP_eq, List.length_map, binP_sub, wr_left hw h2 h3, binP_lss, iteP_eq, rt_eq, scs_sc, scs_nil, flat_int, true_and, and_true]
  by_cases c : (l.length : Int) ≤ left
  · simp [szr_yes c, show ¬ (left - (l.length : Int) < 0) by omega]
  · simp [szr_not c, show left - (l.length : Int) < 0 by omega]) k
theorem laws_toIntS_n (l : List Int) (h : l.length ≤ 1048576) (k) : call laws_toIntS [.one (ints l)] k = k [ints l] := call_of (fun k => by
  have hm := h
  simp [laws_toIntS, show l.length < 1073741824 by omega]
  refine lp_toS l rI rI [I 0] 1 1 (.list 1 []) rfl (fun i x hx hi K rows hr hz => ?_) fun K => ?_
  · simp [-getElem?_pos, laws_toIntS_r0, hx, hi, hr, hz, over, wr_succ (show i < 1000000000000000000 by omega)]
  · simp [laws_toIntS_r0]) k
theorem laws_eqIntS_n (l : List Int) (h : l.length ≤ 1048576) (k) : call laws_eqIntS [.one (ints l), .one (ints l)] k = k [.bool true] := call_of (fun k => by
  have hm := h
  simp [laws_eqIntS]
  refine lp_eqS l rI 1 (.bool false) rfl (fun i x hx hi K => ?_) fun K => ?_
  · simp [-getElem?_pos, laws_eqIntS_r0, hx, hi, wr_succ (show i < 1000000000000000000 by omega)]
  · simp [laws_eqIntS_r0]) k
theorem laws_szStringS_n (l : List ByteArray) (left : Int) (hw : (l.length ≤ maxLen ∧ ∀ y ∈ l, y.size ≤ maxLen)) (h2 : 0 ≤ left) (h3 : left ≤ 1048576) (k) : call laws_szStringS [.one (strs l), .one (I left)] k = k [I (szr ((l.length + sumN ByteArray.size l)) left)] := call_of (fun k => by
  simp only [laws_szStringS, lenP_eq, List.length_map, binP_sub, wr_left hw.1 h2 h3, binP_lss, iteP_eq, rt_eq, scs_sc, scs_nil, flat_int, true_and, and_true]
  by_cases c : (l.length : Int) ≤ left
  rotate_left
  · simp [szr_over c, show left - (l.length : Int) < 0 by omega]
  simp only [szr_add c, show ¬ (left - (l.length : Int) < 0) by omega, decide_false, Bool.false_eq_true, if_false]
  refine (lp_sz (neg := k [I (-1)]) (fin := fun t => k [I t]) l rS 1 ByteArray.size (left - (l.length : Int)) (I 0) (by omega) (by omega) rfl (fun i x hx hi t ht1 ht2 K => ?_) fun t K => ?_).trans ?_
  · have e := wr_left (left := t) (hw.2 x (List.mem_of_getElem? hx)) ht1 ht2
    simp [-getElem?_pos, laws_szStringS_r0, hx, hi, e, wr_succ (show i < 1000000000000000000 by have := hw.1; omega)]
    by_cases hs : (x.size : Int) ≤ t
    · simp [hs, show ¬ (t - (x.size : Int) < 0) by omega]
    · simp [hs, show t - (x.size : Int) < 0 by omega]
  · simp [laws_szStringS_r0]
  · by_cases hs : ((sumN ByteArray.size l : Nat) : Int) ≤ left - (l.length : Int)
    · simp [szr_yes hs, hs]
    · simp [szr_not hs, hs]) k
theorem laws_toStringS_n (l : List ByteArray) (h : (l.length + sumN ByteArray.size l) ≤ 1048576) (k) : call laws_toStringS [.one (strs l)] k = k [strs l] := call_of (fun k => by
  have hm := h
  simp [laws_toStringS, show l.length < 1073741824 by omega]
  refine lp_toS l rS rS [.str ⟨#[]⟩] 1 1 (.list 1 []) rfl (fun i x hx hi K rows hr hz => ?_) fun K => ?_
  · simp [-getElem?_pos, laws_toStringS_r0, hx, hi, hr, hz, over, wr_succ (show i < 1000000000000000000 by omega)]
  · simp [laws_toStringS_r0]) k
theorem laws_eqStringS_n (l : List ByteArray) (h : (l.length + sumN ByteArray.size l) ≤ 1048576) (k) : call laws_eqStringS [.one (strs l), .one (strs l)] k = k [.bool true] := call_of (fun k => by
  have hm := h
  simp [laws_eqStringS]
  refine lp_eqS l rS 1 (.bool false) rfl (fun i x hx hi K => ?_) fun K => ?_
  · simp [-getElem?_pos, laws_eqStringS_r0, hx, hi, wr_succ (show i < 1000000000000000000 by omega)]
  · simp [laws_eqStringS_r0]) k
structure GKeys where
  Lst : List Int
  Need : Int
abbrev eKeys (a : GKeys) : List PV := [ints a.Lst, I a.Need]
def mKeys (a : GKeys) : Nat := a.Lst.length
def WKeys (a : GKeys) : Prop := a.Lst.length ≤ maxLen
theorem decKeys (r : List PV) (hr : Sh.hasAll [.list [.int .i64], .int .i64] r) : ∃ a : GKeys, r = eKeys a ∧ WKeys a := by
  obtain ⟨p1, r1, rfl, h1, hr1⟩ := all_cons hr
  obtain ⟨n1, rfl, g1⟩ := has_ints h1
  obtain ⟨p2, rfl, h2⟩ := all_one hr1
  obtain ⟨n2, rfl⟩ := has_int h2
  exact ⟨⟨n1, n2⟩, rfl, g1⟩
theorem laws_szKeys_n (a : GKeys) (left : Int) (hw : WKeys a) (h2 : 0 ≤ left) (h3 : left ≤ 1048576) (k) : call laws_szKeys [.agg (eKeys a), .one (I left)] k = k [I (szr (mKeys a) left)] := call_of (fun k => by
  have g0 := hw
  unfold mKeys
  simp only [laws_szKeys, un, cur0, laws_szIntS_n a.Lst (left) g0 h2 h3, binP_lss, iteP_eq, atP_zero, rt_eq, scs_sc, scs_nil, flat_int, true_and, and_true]
  by_cases c0 : ((a.Lst.length : Nat) : Int) ≤ left
  rotate_left
  · first | (simp [szr_not c0, szr_not c0]; done) | (simp only [szr_not c0, szr_not c0]; simp)
  simp only [szr_yes c0, show ¬ (left - ((a.Lst.length : Nat) : Int) < 0) by omega, decide_false, Bool.false_eq_true, if_false, binP_lss, iteP_eq, atP_zero, rt_eq, scs_sc, scs_nil, flat_int, true_and, and_true]) k
theorem laws_toKeys_n (a : GKeys) (h : mKeys a ≤ 1048576) (k) : call laws_toKeys [.agg (eKeys a)] k = k (eKeys a) := call_of (fun k => by
  unfold mKeys at h
  simp [laws_toKeys, laws_toIntS_n a.Lst (by omega)]) k
theorem laws_eqKeys_n (a : GKeys) (h : mKeys a ≤ 1048576) (k) : call laws_eqKeys [.agg (eKeys a), .agg (eKeys a)] k = k [.bool true] := call_of (fun k => by
  unfold mKeys at h
  simp [laws_eqKeys, laws_eqIntS_n a.Lst (by omega)]) k
structure GSig where
  Key : Int
  Tag : Int
abbrev eSig (a : GSig) : List PV := [I a.Key, I a.Tag]
theorem decSig (r : List PV) (hr : Sh.hasAll [.int .i64, .int .i64] r) : ∃ a : GSig, r = eSig a ∧ True := by
  obtain ⟨p1, r1, rfl, h1, hr1⟩ := all_cons hr
  obtain ⟨n1, rfl⟩ := has_int h1
  obtain ⟨p2, rfl, h2⟩ := all_one hr1
  obtain ⟨n2, rfl⟩ := has_int h2
  exact ⟨⟨n1, n2⟩, rfl, trivial⟩
theorem laws_toSig_n (a : GSig) (k) : call laws_toSig [.agg (eSig a)] k = k (eSig a) := call_of (fun k => by
  simp [laws_toSig]) k
theorem laws_eqSig_n (a : GSig) (k) : call laws_eqSig [.agg (eSig a), .agg (eSig a)] k = k [.bool true] := call_of (fun k => by
  simp [laws_eqSig]) k
structure GEntry where
  Label : ByteArray
  Kind : Int
  Value : Int
  Path : List ByteArray
abbrev eEntry (a : GEntry) : List PV := [.str a.Label, I a.Kind, I a.Value, strs a.Path]
def mEntry (a : GEntry) : Nat := a.Label.size + ((a.Path.length + sumN ByteArray.size a.Path))
def WEntry (a : GEntry) : Prop := a.Label.size ≤ maxLen ∧ (a.Path.length ≤ maxLen ∧ ∀ y ∈ a.Path, y.size ≤ maxLen)
theorem decEntry (r : List PV) (hr : Sh.hasAll [.str, .int .i64, .int .i64, .list [.str]] r) : ∃ a : GEntry, r = eEntry a ∧ WEntry a := by
  obtain ⟨p1, r1, rfl, h1, hr1⟩ := all_cons hr
  obtain ⟨n1, rfl, g1⟩ := has_str h1
  obtain ⟨p2, r2, rfl, h2, hr2⟩ := all_cons hr1
  obtain ⟨n2, rfl⟩ := has_int h2
  obtain ⟨p3, r3, rfl, h3, hr3⟩ := all_cons hr2
  obtain ⟨n3, rfl⟩ := has_int h3
  obtain ⟨p4, rfl, h4⟩ := all_one hr3
  obtain ⟨n4, rfl, g4⟩ := has_strs h4
  exact ⟨⟨n1, n2, n3, n4⟩, rfl, ⟨g1, g4⟩⟩
theorem laws_szEntry_n (a : GEntry) (left : Int) (hw : WEntry a) (h2 : 0 ≤ left) (h3 : left ≤ 1048576) (k) : call laws_szEntry [.agg (eEntry a), .one (I left)] k = k [I (szr (mEntry a) left)] := call_of (fun k => by
  obtain ⟨g0, g1⟩ := hw
  unfold mEntry
  simp only [laws_szEntry, un, cur0, lenS_eq, binP_sub, wr_left (left := left) g0 h2 h3, binP_lss, iteP_eq, atP_zero, rt_eq, scs_sc, scs_nil, flat_int, true_and, and_true]
  by_cases c0 : ((a.Label.size : Nat) : Int) ≤ left
  rotate_left
  · first | (simp [szr_over c0, show left - ((a.Label.size : Nat) : Int) < 0 by omega]; done) | (simp only [szr_over c0, show left - ((a.Label.size : Nat) : Int) < 0 by omega]; simp)
  simp only [szr_yes c0, szr_add c0, show ¬ (left - ((a.Label.size : Nat) : Int) < 0) by omega, decide_false, Bool.false_eq_true, if_false, laws_szStringS_n a.Path (left - ((a.Label.size : Nat) : Int)) g1 (by omega) (by omega), binP_lss, iteP_eq, atP_zero, rt_eq, scs_sc, scs_nil, flat_int, true_and, and_true]
  by_cases c1 : (((a.Path.length + sumN ByteArray.size a.Path) : Nat) : Int) ≤ left - ((a.Label.size : Nat) : Int)
  rotate_left
  · first | (simp [szr_not c1, szr_not c1]; done) | (simp only [szr_not c1, szr_not c1]; simp)
  simp only [szr_yes c1, show ¬ (left - ((a.Label.size : Nat) : Int) - (((a.Path.length + sumN ByteArray.size a.Path) : Nat) : Int) < 0) by omega, decide_false, Bool.false_eq_true, if_false, binP_lss, iteP_eq, atP_zero, rt_eq, scs_sc, scs_nil, flat_int, true_and, and_true]) k
theorem laws_toEntry_n (a : GEntry) (h : mEntry a ≤ 1048576) (k) : call laws_toEntry [.agg (eEntry a)] k = k (eEntry a) := call_of (fun k => by
  unfold mEntry at h
  simp [laws_toEntry, laws_toStringS_n a.Path (by omega)]) k
theorem laws_eqEntry_n (a : GEntry) (h : mEntry a ≤ 1048576) (k) : call laws_eqEntry [.agg (eEntry a), .agg (eEntry a)] k = k [.bool true] := call_of (fun k => by
  unfold mEntry at h
  simp [laws_eqEntry, laws_eqStringS_n a.Path (by omega)]) k
structure GProof where
  At : Int
  Path : List Int
abbrev eProof (a : GProof) : List PV := [I a.At, ints a.Path]
def mProof (a : GProof) : Nat := a.Path.length
def WProof (a : GProof) : Prop := a.Path.length ≤ maxLen
theorem decProof (r : List PV) (hr : Sh.hasAll [.int .i64, .list [.int .i64]] r) : ∃ a : GProof, r = eProof a ∧ WProof a := by
  obtain ⟨p1, r1, rfl, h1, hr1⟩ := all_cons hr
  obtain ⟨n1, rfl⟩ := has_int h1
  obtain ⟨p2, rfl, h2⟩ := all_one hr1
  obtain ⟨n2, rfl, g2⟩ := has_ints h2
  exact ⟨⟨n1, n2⟩, rfl, g2⟩
theorem laws_szProof_n (a : GProof) (left : Int) (hw : WProof a) (h2 : 0 ≤ left) (h3 : left ≤ 1048576) (k) : call laws_szProof [.agg (eProof a), .one (I left)] k = k [I (szr (mProof a) left)] := call_of (fun k => by
  have g0 := hw
  unfold mProof
  simp only [laws_szProof, un, cur0, laws_szIntS_n a.Path (left) g0 h2 h3, binP_lss, iteP_eq, atP_zero, rt_eq, scs_sc, scs_nil, flat_int, true_and, and_true]
  by_cases c0 : ((a.Path.length : Nat) : Int) ≤ left
  rotate_left
  · first | (simp [szr_not c0, szr_not c0]; done) | (simp only [szr_not c0, szr_not c0]; simp)
  simp only [szr_yes c0, show ¬ (left - ((a.Path.length : Nat) : Int) < 0) by omega, decide_false, Bool.false_eq_true, if_false, binP_lss, iteP_eq, atP_zero, rt_eq, scs_sc, scs_nil, flat_int, true_and, and_true]) k
theorem laws_toProof_n (a : GProof) (h : mProof a ≤ 1048576) (k) : call laws_toProof [.agg (eProof a)] k = k (eProof a) := call_of (fun k => by
  unfold mProof at h
  simp [laws_toProof, laws_toIntS_n a.Path (by omega)]) k
theorem laws_eqProof_n (a : GProof) (h : mProof a ≤ 1048576) (k) : call laws_eqProof [.agg (eProof a), .agg (eProof a)] k = k [.bool true] := call_of (fun k => by
  unfold mProof at h
  simp [laws_eqProof, laws_eqIntS_n a.Path (by omega)]) k
structure GGap where
  At : Int
  Before : GEntry
  After : GEntry
  Left : GProof
  Right : GProof
abbrev eGap (a : GGap) : List PV := [I a.At, .str a.Before.Label, I a.Before.Kind, I a.Before.Value, strs a.Before.Path, .str a.After.Label, I a.After.Kind, I a.After.Value, strs a.After.Path, I a.Left.At, ints a.Left.Path, I a.Right.At, ints a.Right.Path]
def mGap (a : GGap) : Nat := mEntry a.Before + (mEntry a.After + (mProof a.Left + (mProof a.Right)))
def WGap (a : GGap) : Prop := WEntry a.Before ∧ WEntry a.After ∧ WProof a.Left ∧ WProof a.Right
theorem decGap (r : List PV) (hr : Sh.hasAll [.int .i64, .str, .int .i64, .int .i64, .list [.str], .str, .int .i64, .int .i64, .list [.str], .int .i64, .list [.int .i64], .int .i64, .list [.int .i64]] r) : ∃ a : GGap, r = eGap a ∧ WGap a := by
  obtain ⟨p1, r1, rfl, h1, hr1⟩ := all_cons hr
  obtain ⟨n1, rfl⟩ := has_int h1
  obtain ⟨p2, r2, rfl, h2, hr2⟩ := all_cons hr1
  obtain ⟨n2, rfl, g2⟩ := has_str h2
  obtain ⟨p3, r3, rfl, h3, hr3⟩ := all_cons hr2
  obtain ⟨n3, rfl⟩ := has_int h3
  obtain ⟨p4, r4, rfl, h4, hr4⟩ := all_cons hr3
  obtain ⟨n4, rfl⟩ := has_int h4
  obtain ⟨p5, r5, rfl, h5, hr5⟩ := all_cons hr4
  obtain ⟨n5, rfl, g5⟩ := has_strs h5
  obtain ⟨p6, r6, rfl, h6, hr6⟩ := all_cons hr5
  obtain ⟨n6, rfl, g6⟩ := has_str h6
  obtain ⟨p7, r7, rfl, h7, hr7⟩ := all_cons hr6
  obtain ⟨n7, rfl⟩ := has_int h7
  obtain ⟨p8, r8, rfl, h8, hr8⟩ := all_cons hr7
  obtain ⟨n8, rfl⟩ := has_int h8
  obtain ⟨p9, r9, rfl, h9, hr9⟩ := all_cons hr8
  obtain ⟨n9, rfl, g9⟩ := has_strs h9
  obtain ⟨p10, r10, rfl, h10, hr10⟩ := all_cons hr9
  obtain ⟨n10, rfl⟩ := has_int h10
  obtain ⟨p11, r11, rfl, h11, hr11⟩ := all_cons hr10
  obtain ⟨n11, rfl, g11⟩ := has_ints h11
  obtain ⟨p12, r12, rfl, h12, hr12⟩ := all_cons hr11
  obtain ⟨n12, rfl⟩ := has_int h12
  obtain ⟨p13, rfl, h13⟩ := all_one hr12
  obtain ⟨n13, rfl, g13⟩ := has_ints h13
  exact ⟨⟨n1, ⟨n2, n3, n4, n5⟩, ⟨n6, n7, n8, n9⟩, ⟨n10, n11⟩, ⟨n12, n13⟩⟩, rfl, ⟨⟨g2, g5⟩, ⟨g6, g9⟩, g11, g13⟩⟩
theorem laws_szGap_n (a : GGap) (left : Int) (hw : WGap a) (h2 : 0 ≤ left) (h3 : left ≤ 1048576) (k) : call laws_szGap [.agg (eGap a), .one (I left)] k = k [I (szr (mGap a) left)] := call_of (fun k => by
  obtain ⟨g0, g1, g2, g3⟩ := hw
  unfold mGap
  simp only [laws_szGap, un, cur0, laws_szEntry_n a.Before (left) g0 h2 h3, binP_lss, iteP_eq, atP_zero, rt_eq, scs_sc, scs_nil, flat_int, true_and, and_true]
  by_cases c0 : ((mEntry a.Before : Nat) : Int) ≤ left
  rotate_left
  · first | (simp [szr_over c0, szr_not c0]; done) | (simp only [szr_over c0, szr_not c0]; simp)
  simp only [szr_yes c0, szr_add c0, show ¬ (left - ((mEntry a.Before : Nat) : Int) < 0) by omega, decide_false, Bool.false_eq_true, if_false, laws_szEntry_n a.After (left - ((mEntry a.Before : Nat) : Int)) g1 (by omega) (by omega), binP_lss, iteP_eq, atP_zero, rt_eq, scs_sc, scs_nil, flat_int, true_and, and_true]
  by_cases c1 : ((mEntry a.After : Nat) : Int) ≤ left - ((mEntry a.Before : Nat) : Int)
  rotate_left
  · first | (simp [szr_over c1, szr_not c1]; done) | (simp only [szr_over c1, szr_not c1]; simp)
  simp only [szr_yes c1, szr_add c1, show ¬ (left - ((mEntry a.Before : Nat) : Int) - ((mEntry a.After : Nat) : Int) < 0) by omega, decide_false, Bool.false_eq_true, if_false, laws_szProof_n a.Left (left - ((mEntry a.Before : Nat) : Int) - ((mEntry a.After : Nat) : Int)) g2 (by omega) (by omega), binP_lss, iteP_eq, atP_zero, rt_eq, scs_sc, scs_nil, flat_int, true_and, and_true]
  by_cases c2 : ((mProof a.Left : Nat) : Int) ≤ left - ((mEntry a.Before : Nat) : Int) - ((mEntry a.After : Nat) : Int)
  rotate_left
  · first | (simp [szr_over c2, szr_not c2]; done) | (simp only [szr_over c2, szr_not c2]; simp)
  simp only [szr_yes c2, szr_add c2, show ¬ (left - ((mEntry a.Before : Nat) : Int) - ((mEntry a.After : Nat) : Int) - ((mProof a.Left : Nat) : Int) < 0) by omega, decide_false, Bool.false_eq_true, if_false, laws_szProof_n a.Right (left - ((mEntry a.Before : Nat) : Int) - ((mEntry a.After : Nat) : Int) - ((mProof a.Left : Nat) : Int)) g3 (by omega) (by omega), binP_lss, iteP_eq, atP_zero, rt_eq, scs_sc, scs_nil, flat_int, true_and, and_true]
  by_cases c3 : ((mProof a.Right : Nat) : Int) ≤ left - ((mEntry a.Before : Nat) : Int) - ((mEntry a.After : Nat) : Int) - ((mProof a.Left : Nat) : Int)
  rotate_left
  · first | (simp [szr_not c3, szr_not c3]; done) | (simp only [szr_not c3, szr_not c3]; simp)
  simp only [szr_yes c3, show ¬ (left - ((mEntry a.Before : Nat) : Int) - ((mEntry a.After : Nat) : Int) - ((mProof a.Left : Nat) : Int) - ((mProof a.Right : Nat) : Int) < 0) by omega, decide_false, Bool.false_eq_true, if_false, binP_lss, iteP_eq, atP_zero, rt_eq, scs_sc, scs_nil, flat_int, true_and, and_true]) k
theorem laws_toGap_n (a : GGap) (h : mGap a ≤ 1048576) (k) : call laws_toGap [.agg (eGap a)] k = k (eGap a) := call_of (fun k => by
  unfold mGap at h
  simp [laws_toGap, laws_toEntry_n a.Before (by omega), laws_toEntry_n a.After (by omega), laws_toProof_n a.Left (by omega), laws_toProof_n a.Right (by omega)]) k
theorem laws_eqGap_n (a : GGap) (h : mGap a ≤ 1048576) (k) : call laws_eqGap [.agg (eGap a), .agg (eGap a)] k = k [.bool true] := call_of (fun k => by
  unfold mGap at h
  simp [laws_eqGap, laws_eqEntry_n a.Before (by omega), laws_eqEntry_n a.After (by omega), laws_eqProof_n a.Left (by omega), laws_eqProof_n a.Right (by omega)]) k
structure GHead where
  Zone : Int
  Epoch : Int
  Kind : Int
  Time : Int
  Until : Int
  Count : Int
  Root : Int
  Prev : Int
  Keys : GKeys
  Heirs : GKeys
  Wait : Int
  Judge : GKeys
  Frozen : Bool
abbrev eHead (a : GHead) : List PV := [I a.Zone, I a.Epoch, I a.Kind, I a.Time, I a.Until, I a.Count, I a.Root, I a.Prev, ints a.Keys.Lst, I a.Keys.Need, ints a.Heirs.Lst, I a.Heirs.Need, I a.Wait, ints a.Judge.Lst, I a.Judge.Need, .bool a.Frozen]
def mHead (a : GHead) : Nat := mKeys a.Keys + (mKeys a.Heirs + (mKeys a.Judge))
def WHead (a : GHead) : Prop := WKeys a.Keys ∧ WKeys a.Heirs ∧ WKeys a.Judge
theorem decHead (r : List PV) (hr : Sh.hasAll [.int .i64, .int .i64, .int .i64, .int .i64, .int .i64, .int .i64, .int .i64, .int .i64, .list [.int .i64], .int .i64, .list [.int .i64], .int .i64, .int .i64, .list [.int .i64], .int .i64, .bool] r) : ∃ a : GHead, r = eHead a ∧ WHead a := by
  obtain ⟨p1, r1, rfl, h1, hr1⟩ := all_cons hr
  obtain ⟨n1, rfl⟩ := has_int h1
  obtain ⟨p2, r2, rfl, h2, hr2⟩ := all_cons hr1
  obtain ⟨n2, rfl⟩ := has_int h2
  obtain ⟨p3, r3, rfl, h3, hr3⟩ := all_cons hr2
  obtain ⟨n3, rfl⟩ := has_int h3
  obtain ⟨p4, r4, rfl, h4, hr4⟩ := all_cons hr3
  obtain ⟨n4, rfl⟩ := has_int h4
  obtain ⟨p5, r5, rfl, h5, hr5⟩ := all_cons hr4
  obtain ⟨n5, rfl⟩ := has_int h5
  obtain ⟨p6, r6, rfl, h6, hr6⟩ := all_cons hr5
  obtain ⟨n6, rfl⟩ := has_int h6
  obtain ⟨p7, r7, rfl, h7, hr7⟩ := all_cons hr6
  obtain ⟨n7, rfl⟩ := has_int h7
  obtain ⟨p8, r8, rfl, h8, hr8⟩ := all_cons hr7
  obtain ⟨n8, rfl⟩ := has_int h8
  obtain ⟨p9, r9, rfl, h9, hr9⟩ := all_cons hr8
  obtain ⟨n9, rfl, g9⟩ := has_ints h9
  obtain ⟨p10, r10, rfl, h10, hr10⟩ := all_cons hr9
  obtain ⟨n10, rfl⟩ := has_int h10
  obtain ⟨p11, r11, rfl, h11, hr11⟩ := all_cons hr10
  obtain ⟨n11, rfl, g11⟩ := has_ints h11
  obtain ⟨p12, r12, rfl, h12, hr12⟩ := all_cons hr11
  obtain ⟨n12, rfl⟩ := has_int h12
  obtain ⟨p13, r13, rfl, h13, hr13⟩ := all_cons hr12
  obtain ⟨n13, rfl⟩ := has_int h13
  obtain ⟨p14, r14, rfl, h14, hr14⟩ := all_cons hr13
  obtain ⟨n14, rfl, g14⟩ := has_ints h14
  obtain ⟨p15, r15, rfl, h15, hr15⟩ := all_cons hr14
  obtain ⟨n15, rfl⟩ := has_int h15
  obtain ⟨p16, rfl, h16⟩ := all_one hr15
  obtain ⟨n16, rfl⟩ := has_bool h16
  exact ⟨⟨n1, n2, n3, n4, n5, n6, n7, n8, ⟨n9, n10⟩, ⟨n11, n12⟩, n13, ⟨n14, n15⟩, n16⟩, rfl, ⟨g9, g11, g14⟩⟩
theorem laws_szHead_n (a : GHead) (left : Int) (hw : WHead a) (h2 : 0 ≤ left) (h3 : left ≤ 1048576) (k) : call laws_szHead [.agg (eHead a), .one (I left)] k = k [I (szr (mHead a) left)] := call_of (fun k => by
  obtain ⟨g0, g1, g2⟩ := hw
  unfold mHead
  simp only [laws_szHead, un, cur0, laws_szKeys_n a.Keys (left) g0 h2 h3, binP_lss, iteP_eq, atP_zero, rt_eq, scs_sc, scs_nil, flat_int, true_and, and_true]
  by_cases c0 : ((mKeys a.Keys : Nat) : Int) ≤ left
  rotate_left
  · first | (simp [szr_over c0, szr_not c0]; done) | (simp only [szr_over c0, szr_not c0]; simp)
  simp only [szr_yes c0, szr_add c0, show ¬ (left - ((mKeys a.Keys : Nat) : Int) < 0) by omega, decide_false, Bool.false_eq_true, if_false, laws_szKeys_n a.Heirs (left - ((mKeys a.Keys : Nat) : Int)) g1 (by omega) (by omega), binP_lss, iteP_eq, atP_zero, rt_eq, scs_sc, scs_nil, flat_int, true_and, and_true]
  by_cases c1 : ((mKeys a.Heirs : Nat) : Int) ≤ left - ((mKeys a.Keys : Nat) : Int)
  rotate_left
  · first | (simp [szr_over c1, szr_not c1]; done) | (simp only [szr_over c1, szr_not c1]; simp)
  simp only [szr_yes c1, szr_add c1, show ¬ (left - ((mKeys a.Keys : Nat) : Int) - ((mKeys a.Heirs : Nat) : Int) < 0) by omega, decide_false, Bool.false_eq_true, if_false, laws_szKeys_n a.Judge (left - ((mKeys a.Keys : Nat) : Int) - ((mKeys a.Heirs : Nat) : Int)) g2 (by omega) (by omega), binP_lss, iteP_eq, atP_zero, rt_eq, scs_sc, scs_nil, flat_int, true_and, and_true]
  by_cases c2 : ((mKeys a.Judge : Nat) : Int) ≤ left - ((mKeys a.Keys : Nat) : Int) - ((mKeys a.Heirs : Nat) : Int)
  rotate_left
  · first | (simp [szr_not c2, szr_not c2]; done) | (simp only [szr_not c2, szr_not c2]; simp)
  simp only [szr_yes c2, show ¬ (left - ((mKeys a.Keys : Nat) : Int) - ((mKeys a.Heirs : Nat) : Int) - ((mKeys a.Judge : Nat) : Int) < 0) by omega, decide_false, Bool.false_eq_true, if_false, binP_lss, iteP_eq, atP_zero, rt_eq, scs_sc, scs_nil, flat_int, true_and, and_true]) k
theorem laws_toHead_n (a : GHead) (h : mHead a ≤ 1048576) (k) : call laws_toHead [.agg (eHead a)] k = k (eHead a) := call_of (fun k => by
  unfold mHead at h
  simp [laws_toHead, laws_toKeys_n a.Keys (by omega), laws_toKeys_n a.Heirs (by omega), laws_toKeys_n a.Judge (by omega)]) k
theorem laws_eqHead_n (a : GHead) (h : mHead a ≤ 1048576) (k) : call laws_eqHead [.agg (eHead a), .agg (eHead a)] k = k [.bool true] := call_of (fun k => by
  unfold mHead at h
  simp [laws_eqHead, laws_eqKeys_n a.Keys (by omega), laws_eqKeys_n a.Heirs (by omega), laws_eqKeys_n a.Judge (by omega)]) k
theorem decSigS {p : PV} (h : Sh.has (.list [.int .i64, .int .i64]) p) : ∃ l : List GSig, p = .list 2 (l.map eSig) ∧ l.length ≤ maxLen := by
  obtain ⟨l, h1, h2, h3⟩ := has_map decSig 2 rfl h
  exact ⟨l, h1, h2⟩
theorem laws_szSigS_n (l : List GSig) (left : Int) (hw : l.length ≤ maxLen) (h2 : 0 ≤ left) (h3 : left ≤ 1048576) (k) : call laws_szSigS [.one (.list 2 (l.map eSig)), .one (I left)] k = k [I (szr l.length left)] := call_of (fun k => by
  simp only [laws_szSigS, lenP_eq, List.length_map, binP_sub, wr_left hw h2 h3, binP_lss, iteP_eq, rt_eq, scs_sc, scs_nil, flat_int, true_and, and_true]
  by_cases c : (l.length : Int) ≤ left
  · simp [szr_yes c, show ¬ (left - (l.length : Int) < 0) by omega]
  · simp [szr_not c, show left - (l.length : Int) < 0 by omega]) k
theorem laws_toSigS_n (l : List GSig) (h : l.length ≤ 1048576) (k) : call laws_toSigS [.one (.list 2 (l.map eSig))] k = k [.list 2 (l.map eSig)] := call_of (fun k => by
  have hm := h
  simp [laws_toSigS, show l.length < 1073741824 by omega]
  refine lp_toS l eSig eSig [I 0, I 0] 2 2 (.list 2 []) rfl (fun i x hx hi K rows hr hz => ?_) fun K => ?_
  · simp [-getElem?_pos, laws_toSigS_r0, hx, hi, hr, hz, over, laws_toSig_n x, wr_succ (show i < 1000000000000000000 by omega)]
  · simp [laws_toSigS_r0]) k
theorem laws_eqSigS_n (l : List GSig) (h : l.length ≤ 1048576) (k) : call laws_eqSigS [.one (.list 2 (l.map eSig)), .one (.list 2 (l.map eSig))] k = k [.bool true] := call_of (fun k => by
  have hm := h
  simp [laws_eqSigS]
  refine lp_eqS l eSig 2 (.bool false) rfl (fun i x hx hi K => ?_) fun K => ?_
  · simp [-getElem?_pos, laws_eqSigS_r0, hx, hi, laws_eqSig_n x, wr_succ (show i < 1000000000000000000 by omega)]
  · simp [laws_eqSigS_r0]) k
structure GSigned where
  Head : GHead
  Sigs : List GSig
abbrev eSigned (a : GSigned) : List PV := [I a.Head.Zone, I a.Head.Epoch, I a.Head.Kind, I a.Head.Time, I a.Head.Until, I a.Head.Count, I a.Head.Root, I a.Head.Prev, ints a.Head.Keys.Lst, I a.Head.Keys.Need, ints a.Head.Heirs.Lst, I a.Head.Heirs.Need, I a.Head.Wait, ints a.Head.Judge.Lst, I a.Head.Judge.Need, .bool a.Head.Frozen, .list 2 (a.Sigs.map eSig)]
def mSigned (a : GSigned) : Nat := mHead a.Head + (a.Sigs.length)
def WSigned (a : GSigned) : Prop := WHead a.Head ∧ a.Sigs.length ≤ maxLen
theorem decSigned (r : List PV) (hr : Sh.hasAll [.int .i64, .int .i64, .int .i64, .int .i64, .int .i64, .int .i64, .int .i64, .int .i64, .list [.int .i64], .int .i64, .list [.int .i64], .int .i64, .int .i64, .list [.int .i64], .int .i64, .bool, .list [.int .i64, .int .i64]] r) : ∃ a : GSigned, r = eSigned a ∧ WSigned a := by
  obtain ⟨p1, r1, rfl, h1, hr1⟩ := all_cons hr
  obtain ⟨n1, rfl⟩ := has_int h1
  obtain ⟨p2, r2, rfl, h2, hr2⟩ := all_cons hr1
  obtain ⟨n2, rfl⟩ := has_int h2
  obtain ⟨p3, r3, rfl, h3, hr3⟩ := all_cons hr2
  obtain ⟨n3, rfl⟩ := has_int h3
  obtain ⟨p4, r4, rfl, h4, hr4⟩ := all_cons hr3
  obtain ⟨n4, rfl⟩ := has_int h4
  obtain ⟨p5, r5, rfl, h5, hr5⟩ := all_cons hr4
  obtain ⟨n5, rfl⟩ := has_int h5
  obtain ⟨p6, r6, rfl, h6, hr6⟩ := all_cons hr5
  obtain ⟨n6, rfl⟩ := has_int h6
  obtain ⟨p7, r7, rfl, h7, hr7⟩ := all_cons hr6
  obtain ⟨n7, rfl⟩ := has_int h7
  obtain ⟨p8, r8, rfl, h8, hr8⟩ := all_cons hr7
  obtain ⟨n8, rfl⟩ := has_int h8
  obtain ⟨p9, r9, rfl, h9, hr9⟩ := all_cons hr8
  obtain ⟨n9, rfl, g9⟩ := has_ints h9
  obtain ⟨p10, r10, rfl, h10, hr10⟩ := all_cons hr9
  obtain ⟨n10, rfl⟩ := has_int h10
  obtain ⟨p11, r11, rfl, h11, hr11⟩ := all_cons hr10
  obtain ⟨n11, rfl, g11⟩ := has_ints h11
  obtain ⟨p12, r12, rfl, h12, hr12⟩ := all_cons hr11
  obtain ⟨n12, rfl⟩ := has_int h12
  obtain ⟨p13, r13, rfl, h13, hr13⟩ := all_cons hr12
  obtain ⟨n13, rfl⟩ := has_int h13
  obtain ⟨p14, r14, rfl, h14, hr14⟩ := all_cons hr13
  obtain ⟨n14, rfl, g14⟩ := has_ints h14
  obtain ⟨p15, r15, rfl, h15, hr15⟩ := all_cons hr14
  obtain ⟨n15, rfl⟩ := has_int h15
  obtain ⟨p16, r16, rfl, h16, hr16⟩ := all_cons hr15
  obtain ⟨n16, rfl⟩ := has_bool h16
  obtain ⟨p17, rfl, h17⟩ := all_one hr16
  obtain ⟨n17, rfl, g17⟩ := decSigS h17
  exact ⟨⟨⟨n1, n2, n3, n4, n5, n6, n7, n8, ⟨n9, n10⟩, ⟨n11, n12⟩, n13, ⟨n14, n15⟩, n16⟩, n17⟩, rfl, ⟨⟨g9, g11, g14⟩, g17⟩⟩
theorem laws_szSigned_n (a : GSigned) (left : Int) (hw : WSigned a) (h2 : 0 ≤ left) (h3 : left ≤ 1048576) (k) : call laws_szSigned [.agg (eSigned a), .one (I left)] k = k [I (szr (mSigned a) left)] := call_of (fun k => by
  obtain ⟨g0, g1⟩ := hw
  unfold mSigned
  simp only [laws_szSigned, un, cur0, laws_szHead_n a.Head (left) g0 h2 h3, binP_lss, iteP_eq, atP_zero, rt_eq, scs_sc, scs_nil, flat_int, true_and, and_true]
  by_cases c0 : ((mHead a.Head : Nat) : Int) ≤ left
  rotate_left
  · first | (simp [szr_over c0, szr_not c0]; done) | (simp only [szr_over c0, szr_not c0]; simp)
  simp only [szr_yes c0, szr_add c0, show ¬ (left - ((mHead a.Head : Nat) : Int) < 0) by omega, decide_false, Bool.false_eq_true, if_false, laws_szSigS_n a.Sigs (left - ((mHead a.Head : Nat) : Int)) g1 (by omega) (by omega), binP_lss, iteP_eq, atP_zero, rt_eq, scs_sc, scs_nil, flat_int, true_and, and_true]
  by_cases c1 : ((a.Sigs.length : Nat) : Int) ≤ left - ((mHead a.Head : Nat) : Int)
  rotate_left
  · first | (simp [szr_not c1, szr_not c1]; done) | (simp only [szr_not c1, szr_not c1]; simp)
  simp only [szr_yes c1, show ¬ (left - ((mHead a.Head : Nat) : Int) - ((a.Sigs.length : Nat) : Int) < 0) by omega, decide_false, Bool.false_eq_true, if_false, binP_lss, iteP_eq, atP_zero, rt_eq, scs_sc, scs_nil, flat_int, true_and, and_true]) k
theorem laws_toSigned_n (a : GSigned) (h : mSigned a ≤ 1048576) (k) : call laws_toSigned [.agg (eSigned a)] k = k (eSigned a) := call_of (fun k => by
  unfold mSigned at h
  simp [laws_toSigned, laws_toHead_n a.Head (by omega), laws_toSigS_n a.Sigs (by omega)]) k
theorem laws_eqSigned_n (a : GSigned) (h : mSigned a ≤ 1048576) (k) : call laws_eqSigned [.agg (eSigned a), .agg (eSigned a)] k = k [.bool true] := call_of (fun k => by
  unfold mSigned at h
  simp [laws_eqSigned, laws_eqHead_n a.Head (by omega), laws_eqSigS_n a.Sigs (by omega)]) k
structure GFork where
  Before : GSigned
  A : GSigned
  B : GSigned
abbrev eFork (a : GFork) : List PV := [I a.Before.Head.Zone, I a.Before.Head.Epoch, I a.Before.Head.Kind, I a.Before.Head.Time, I a.Before.Head.Until, I a.Before.Head.Count, I a.Before.Head.Root, I a.Before.Head.Prev, ints a.Before.Head.Keys.Lst, I a.Before.Head.Keys.Need, ints a.Before.Head.Heirs.Lst, I a.Before.Head.Heirs.Need, I a.Before.Head.Wait, ints a.Before.Head.Judge.Lst, I a.Before.Head.Judge.Need, .bool a.Before.Head.Frozen, .list 2 (a.Before.Sigs.map eSig), I a.A.Head.Zone, I a.A.Head.Epoch, I a.A.Head.Kind, I a.A.Head.Time, I a.A.Head.Until, I a.A.Head.Count, I a.A.Head.Root, I a.A.Head.Prev, ints a.A.Head.Keys.Lst, I a.A.Head.Keys.Need, ints a.A.Head.Heirs.Lst, I a.A.Head.Heirs.Need, I a.A.Head.Wait, ints a.A.Head.Judge.Lst, I a.A.Head.Judge.Need, .bool a.A.Head.Frozen, .list 2 (a.A.Sigs.map eSig), I a.B.Head.Zone, I a.B.Head.Epoch, I a.B.Head.Kind, I a.B.Head.Time, I a.B.Head.Until, I a.B.Head.Count, I a.B.Head.Root, I a.B.Head.Prev, ints a.B.Head.Keys.Lst, I a.B.Head.Keys.Need, ints a.B.Head.Heirs.Lst, I a.B.Head.Heirs.Need, I a.B.Head.Wait, ints a.B.Head.Judge.Lst, I a.B.Head.Judge.Need, .bool a.B.Head.Frozen, .list 2 (a.B.Sigs.map eSig)]
def mFork (a : GFork) : Nat := mSigned a.Before + (mSigned a.A + (mSigned a.B))
def WFork (a : GFork) : Prop := WSigned a.Before ∧ WSigned a.A ∧ WSigned a.B
theorem decFork (r : List PV) (hr : Sh.hasAll [.int .i64, .int .i64, .int .i64, .int .i64, .int .i64, .int .i64, .int .i64, .int .i64, .list [.int .i64], .int .i64, .list [.int .i64], .int .i64, .int .i64, .list [.int .i64], .int .i64, .bool, .list [.int .i64, .int .i64], .int .i64, .int .i64, .int .i64, .int .i64, .int .i64, .int .i64, .int .i64, .int .i64, .list [.int .i64], .int .i64, .list [.int .i64], .int .i64, .int .i64, .list [.int .i64], .int .i64, .bool, .list [.int .i64, .int .i64], .int .i64, .int .i64, .int .i64, .int .i64, .int .i64, .int .i64, .int .i64, .int .i64, .list [.int .i64], .int .i64, .list [.int .i64], .int .i64, .int .i64, .list [.int .i64], .int .i64, .bool, .list [.int .i64, .int .i64]] r) : ∃ a : GFork, r = eFork a ∧ WFork a := by
  obtain ⟨p1, r1, rfl, h1, hr1⟩ := all_cons hr
  obtain ⟨n1, rfl⟩ := has_int h1
  obtain ⟨p2, r2, rfl, h2, hr2⟩ := all_cons hr1
  obtain ⟨n2, rfl⟩ := has_int h2
  obtain ⟨p3, r3, rfl, h3, hr3⟩ := all_cons hr2
  obtain ⟨n3, rfl⟩ := has_int h3
  obtain ⟨p4, r4, rfl, h4, hr4⟩ := all_cons hr3
  obtain ⟨n4, rfl⟩ := has_int h4
  obtain ⟨p5, r5, rfl, h5, hr5⟩ := all_cons hr4
  obtain ⟨n5, rfl⟩ := has_int h5
  obtain ⟨p6, r6, rfl, h6, hr6⟩ := all_cons hr5
  obtain ⟨n6, rfl⟩ := has_int h6
  obtain ⟨p7, r7, rfl, h7, hr7⟩ := all_cons hr6
  obtain ⟨n7, rfl⟩ := has_int h7
  obtain ⟨p8, r8, rfl, h8, hr8⟩ := all_cons hr7
  obtain ⟨n8, rfl⟩ := has_int h8
  obtain ⟨p9, r9, rfl, h9, hr9⟩ := all_cons hr8
  obtain ⟨n9, rfl, g9⟩ := has_ints h9
  obtain ⟨p10, r10, rfl, h10, hr10⟩ := all_cons hr9
  obtain ⟨n10, rfl⟩ := has_int h10
  obtain ⟨p11, r11, rfl, h11, hr11⟩ := all_cons hr10
  obtain ⟨n11, rfl, g11⟩ := has_ints h11
  obtain ⟨p12, r12, rfl, h12, hr12⟩ := all_cons hr11
  obtain ⟨n12, rfl⟩ := has_int h12
  obtain ⟨p13, r13, rfl, h13, hr13⟩ := all_cons hr12
  obtain ⟨n13, rfl⟩ := has_int h13
  obtain ⟨p14, r14, rfl, h14, hr14⟩ := all_cons hr13
  obtain ⟨n14, rfl, g14⟩ := has_ints h14
  obtain ⟨p15, r15, rfl, h15, hr15⟩ := all_cons hr14
  obtain ⟨n15, rfl⟩ := has_int h15
  obtain ⟨p16, r16, rfl, h16, hr16⟩ := all_cons hr15
  obtain ⟨n16, rfl⟩ := has_bool h16
  obtain ⟨p17, r17, rfl, h17, hr17⟩ := all_cons hr16
  obtain ⟨n17, rfl, g17⟩ := decSigS h17
  obtain ⟨p18, r18, rfl, h18, hr18⟩ := all_cons hr17
  obtain ⟨n18, rfl⟩ := has_int h18
  obtain ⟨p19, r19, rfl, h19, hr19⟩ := all_cons hr18
  obtain ⟨n19, rfl⟩ := has_int h19
  obtain ⟨p20, r20, rfl, h20, hr20⟩ := all_cons hr19
  obtain ⟨n20, rfl⟩ := has_int h20
  obtain ⟨p21, r21, rfl, h21, hr21⟩ := all_cons hr20
  obtain ⟨n21, rfl⟩ := has_int h21
  obtain ⟨p22, r22, rfl, h22, hr22⟩ := all_cons hr21
  obtain ⟨n22, rfl⟩ := has_int h22
  obtain ⟨p23, r23, rfl, h23, hr23⟩ := all_cons hr22
  obtain ⟨n23, rfl⟩ := has_int h23
  obtain ⟨p24, r24, rfl, h24, hr24⟩ := all_cons hr23
  obtain ⟨n24, rfl⟩ := has_int h24
  obtain ⟨p25, r25, rfl, h25, hr25⟩ := all_cons hr24
  obtain ⟨n25, rfl⟩ := has_int h25
  obtain ⟨p26, r26, rfl, h26, hr26⟩ := all_cons hr25
  obtain ⟨n26, rfl, g26⟩ := has_ints h26
  obtain ⟨p27, r27, rfl, h27, hr27⟩ := all_cons hr26
  obtain ⟨n27, rfl⟩ := has_int h27
  obtain ⟨p28, r28, rfl, h28, hr28⟩ := all_cons hr27
  obtain ⟨n28, rfl, g28⟩ := has_ints h28
  obtain ⟨p29, r29, rfl, h29, hr29⟩ := all_cons hr28
  obtain ⟨n29, rfl⟩ := has_int h29
  obtain ⟨p30, r30, rfl, h30, hr30⟩ := all_cons hr29
  obtain ⟨n30, rfl⟩ := has_int h30
  obtain ⟨p31, r31, rfl, h31, hr31⟩ := all_cons hr30
  obtain ⟨n31, rfl, g31⟩ := has_ints h31
  obtain ⟨p32, r32, rfl, h32, hr32⟩ := all_cons hr31
  obtain ⟨n32, rfl⟩ := has_int h32
  obtain ⟨p33, r33, rfl, h33, hr33⟩ := all_cons hr32
  obtain ⟨n33, rfl⟩ := has_bool h33
  obtain ⟨p34, r34, rfl, h34, hr34⟩ := all_cons hr33
  obtain ⟨n34, rfl, g34⟩ := decSigS h34
  obtain ⟨p35, r35, rfl, h35, hr35⟩ := all_cons hr34
  obtain ⟨n35, rfl⟩ := has_int h35
  obtain ⟨p36, r36, rfl, h36, hr36⟩ := all_cons hr35
  obtain ⟨n36, rfl⟩ := has_int h36
  obtain ⟨p37, r37, rfl, h37, hr37⟩ := all_cons hr36
  obtain ⟨n37, rfl⟩ := has_int h37
  obtain ⟨p38, r38, rfl, h38, hr38⟩ := all_cons hr37
  obtain ⟨n38, rfl⟩ := has_int h38
  obtain ⟨p39, r39, rfl, h39, hr39⟩ := all_cons hr38
  obtain ⟨n39, rfl⟩ := has_int h39
  obtain ⟨p40, r40, rfl, h40, hr40⟩ := all_cons hr39
  obtain ⟨n40, rfl⟩ := has_int h40
  obtain ⟨p41, r41, rfl, h41, hr41⟩ := all_cons hr40
  obtain ⟨n41, rfl⟩ := has_int h41
  obtain ⟨p42, r42, rfl, h42, hr42⟩ := all_cons hr41
  obtain ⟨n42, rfl⟩ := has_int h42
  obtain ⟨p43, r43, rfl, h43, hr43⟩ := all_cons hr42
  obtain ⟨n43, rfl, g43⟩ := has_ints h43
  obtain ⟨p44, r44, rfl, h44, hr44⟩ := all_cons hr43
  obtain ⟨n44, rfl⟩ := has_int h44
  obtain ⟨p45, r45, rfl, h45, hr45⟩ := all_cons hr44
  obtain ⟨n45, rfl, g45⟩ := has_ints h45
  obtain ⟨p46, r46, rfl, h46, hr46⟩ := all_cons hr45
  obtain ⟨n46, rfl⟩ := has_int h46
  obtain ⟨p47, r47, rfl, h47, hr47⟩ := all_cons hr46
  obtain ⟨n47, rfl⟩ := has_int h47
  obtain ⟨p48, r48, rfl, h48, hr48⟩ := all_cons hr47
  obtain ⟨n48, rfl, g48⟩ := has_ints h48
  obtain ⟨p49, r49, rfl, h49, hr49⟩ := all_cons hr48
  obtain ⟨n49, rfl⟩ := has_int h49
  obtain ⟨p50, r50, rfl, h50, hr50⟩ := all_cons hr49
  obtain ⟨n50, rfl⟩ := has_bool h50
  obtain ⟨p51, rfl, h51⟩ := all_one hr50
  obtain ⟨n51, rfl, g51⟩ := decSigS h51
  exact ⟨⟨⟨⟨n1, n2, n3, n4, n5, n6, n7, n8, ⟨n9, n10⟩, ⟨n11, n12⟩, n13, ⟨n14, n15⟩, n16⟩, n17⟩, ⟨⟨n18, n19, n20, n21, n22, n23, n24, n25, ⟨n26, n27⟩, ⟨n28, n29⟩, n30, ⟨n31, n32⟩, n33⟩, n34⟩, ⟨⟨n35, n36, n37, n38, n39, n40, n41, n42, ⟨n43, n44⟩, ⟨n45, n46⟩, n47, ⟨n48, n49⟩, n50⟩, n51⟩⟩, rfl, ⟨⟨⟨g9, g11, g14⟩, g17⟩, ⟨⟨g26, g28, g31⟩, g34⟩, ⟨⟨g43, g45, g48⟩, g51⟩⟩⟩
theorem laws_szFork_n (a : GFork) (left : Int) (hw : WFork a) (h2 : 0 ≤ left) (h3 : left ≤ 1048576) (k) : call laws_szFork [.agg (eFork a), .one (I left)] k = k [I (szr (mFork a) left)] := call_of (fun k => by
  obtain ⟨g0, g1, g2⟩ := hw
  unfold mFork
  simp only [laws_szFork, un, cur0, laws_szSigned_n a.Before (left) g0 h2 h3, binP_lss, iteP_eq, atP_zero, rt_eq, scs_sc, scs_nil, flat_int, true_and, and_true]
  by_cases c0 : ((mSigned a.Before : Nat) : Int) ≤ left
  rotate_left
  · first | (simp [szr_over c0, szr_not c0]; done) | (simp only [szr_over c0, szr_not c0]; simp)
  simp only [szr_yes c0, szr_add c0, show ¬ (left - ((mSigned a.Before : Nat) : Int) < 0) by omega, decide_false, Bool.false_eq_true, if_false, laws_szSigned_n a.A (left - ((mSigned a.Before : Nat) : Int)) g1 (by omega) (by omega), binP_lss, iteP_eq, atP_zero, rt_eq, scs_sc, scs_nil, flat_int, true_and, and_true]
  by_cases c1 : ((mSigned a.A : Nat) : Int) ≤ left - ((mSigned a.Before : Nat) : Int)
  rotate_left
  · first | (simp [szr_over c1, szr_not c1]; done) | (simp only [szr_over c1, szr_not c1]; simp)
  simp only [szr_yes c1, szr_add c1, show ¬ (left - ((mSigned a.Before : Nat) : Int) - ((mSigned a.A : Nat) : Int) < 0) by omega, decide_false, Bool.false_eq_true, if_false, laws_szSigned_n a.B (left - ((mSigned a.Before : Nat) : Int) - ((mSigned a.A : Nat) : Int)) g2 (by omega) (by omega), binP_lss, iteP_eq, atP_zero, rt_eq, scs_sc, scs_nil, flat_int, true_and, and_true]
  by_cases c2 : ((mSigned a.B : Nat) : Int) ≤ left - ((mSigned a.Before : Nat) : Int) - ((mSigned a.A : Nat) : Int)
  rotate_left
  · first | (simp [szr_not c2, szr_not c2]; done) | (simp only [szr_not c2, szr_not c2]; simp)
  simp only [szr_yes c2, show ¬ (left - ((mSigned a.Before : Nat) : Int) - ((mSigned a.A : Nat) : Int) - ((mSigned a.B : Nat) : Int) < 0) by omega, decide_false, Bool.false_eq_true, if_false, binP_lss, iteP_eq, atP_zero, rt_eq, scs_sc, scs_nil, flat_int, true_and, and_true]) k
theorem laws_toFork_n (a : GFork) (h : mFork a ≤ 1048576) (k) : call laws_toFork [.agg (eFork a)] k = k (eFork a) := call_of (fun k => by
  unfold mFork at h
  simp [laws_toFork, laws_toSigned_n a.Before (by omega), laws_toSigned_n a.A (by omega), laws_toSigned_n a.B (by omega)]) k
theorem laws_eqFork_n (a : GFork) (h : mFork a ≤ 1048576) (k) : call laws_eqFork [.agg (eFork a), .agg (eFork a)] k = k [.bool true] := call_of (fun k => by
  unfold mFork at h
  simp [laws_eqFork, laws_eqSigned_n a.Before (by omega), laws_eqSigned_n a.A (by omega), laws_eqSigned_n a.B (by omega)]) k
def mSignedS (l : List GSigned) : Nat := l.length + sumN mSigned l
theorem decSignedS {p : PV} (h : Sh.has (.list [.int .i64, .int .i64, .int .i64, .int .i64, .int .i64, .int .i64, .int .i64, .int .i64, .list [.int .i64], .int .i64, .list [.int .i64], .int .i64, .int .i64, .list [.int .i64], .int .i64, .bool, .list [.int .i64, .int .i64]]) p) : ∃ l : List GSigned, p = .list 17 (l.map eSigned) ∧ (l.length ≤ maxLen ∧ ∀ y ∈ l, WSigned y) := by
  obtain ⟨l, h1, h2, h3⟩ := has_map decSigned 17 rfl h
  exact ⟨l, h1, h2, h3⟩
theorem laws_szSignedS_n (l : List GSigned) (left : Int) (hw : (l.length ≤ maxLen ∧ ∀ y ∈ l, WSigned y)) (h2 : 0 ≤ left) (h3 : left ≤ 1048576) (k) : call laws_szSignedS [.one (.list 17 (l.map eSigned)), .one (I left)] k = k [I (szr (mSignedS l) left)] := call_of (fun k => by
  simp only [laws_szSignedS, lenP_eq, List.length_map, binP_sub, wr_left hw.1 h2 h3, binP_lss, iteP_eq, rt_eq, scs_sc, scs_nil, flat_int, true_and, and_true]
  unfold mSignedS
  by_cases c : (l.length : Int) ≤ left
  rotate_left
  · simp [szr_over c, show left - (l.length : Int) < 0 by omega]
  simp only [szr_add c, show ¬ (left - (l.length : Int) < 0) by omega, decide_false, Bool.false_eq_true, if_false]
  refine (lp_sz (neg := k [I (-1)]) (fin := fun t => k [I t]) l eSigned 17 mSigned (left - (l.length : Int)) (I 0) (by omega) (by omega) rfl (fun i x hx hi t ht1 ht2 K => ?_) fun t K => ?_).trans ?_
  · have e := laws_szSigned_n x t (hw.2 x (List.mem_of_getElem? hx)) ht1 ht2
    simp [-getElem?_pos, laws_szSignedS_r0, hx, hi, e, wr_succ (show i < 1000000000000000000 by omega)]
    by_cases hs : ((mSigned x : Nat) : Int) ≤ t
    · simp [szr_yes hs, hs, show ¬ (t - ((mSigned x : Nat) : Int) < 0) by omega]
    · simp [szr_not hs, hs]
  · simp [laws_szSignedS_r0]
  · by_cases hs : ((sumN mSigned l : Nat) : Int) ≤ left - (l.length : Int)
    · simp [szr_yes hs, hs]
    · simp [szr_not hs, hs]) k
theorem laws_toSignedS_n (l : List GSigned) (h : mSignedS l ≤ 1048576) (k) : call laws_toSignedS [.one (.list 17 (l.map eSigned))] k = k [.list 17 (l.map eSigned)] := call_of (fun k => by
  have hm := h
  unfold mSignedS at hm
  simp [laws_toSignedS, show l.length < 1073741824 by omega]
  refine lp_toS l eSigned eSigned [I 0, I 0, I 0, I 0, I 0, I 0, I 0, I 0, .list 1 [], I 0, .list 1 [], I 0, I 0, .list 1 [], I 0, .bool false, .list 2 []] 17 17 (.list 17 []) rfl (fun i x hx hi K rows hr hz => ?_) fun K => ?_
  · have hs : mSigned x ≤ sumN mSigned l := sumN_mem (s := mSigned) (List.mem_of_getElem? hx)
    simp [-getElem?_pos, laws_toSignedS_r0, hx, hi, hr, hz, over, laws_toSigned_n x (by omega), wr_succ (show i < 1000000000000000000 by omega)]
  · simp [laws_toSignedS_r0]) k
theorem laws_eqSignedS_n (l : List GSigned) (h : mSignedS l ≤ 1048576) (k) : call laws_eqSignedS [.one (.list 17 (l.map eSigned)), .one (.list 17 (l.map eSigned))] k = k [.bool true] := call_of (fun k => by
  have hm := h
  unfold mSignedS at hm
  simp [laws_eqSignedS]
  refine lp_eqS l eSigned 17 (.bool false) rfl (fun i x hx hi K => ?_) fun K => ?_
  · have hs : mSigned x ≤ sumN mSigned l := sumN_mem (s := mSigned) (List.mem_of_getElem? hx)
    simp [-getElem?_pos, laws_eqSignedS_r0, hx, hi, laws_eqSigned_n x (by omega), wr_succ (show i < 1000000000000000000 by omega)]
  · simp [laws_eqSignedS_r0]) k
def mEntryS (l : List GEntry) : Nat := l.length + sumN mEntry l
theorem decEntryS {p : PV} (h : Sh.has (.list [.str, .int .i64, .int .i64, .list [.str]]) p) : ∃ l : List GEntry, p = .list 4 (l.map eEntry) ∧ (l.length ≤ maxLen ∧ ∀ y ∈ l, WEntry y) := by
  obtain ⟨l, h1, h2, h3⟩ := has_map decEntry 4 rfl h
  exact ⟨l, h1, h2, h3⟩
theorem laws_szEntryS_n (l : List GEntry) (left : Int) (hw : (l.length ≤ maxLen ∧ ∀ y ∈ l, WEntry y)) (h2 : 0 ≤ left) (h3 : left ≤ 1048576) (k) : call laws_szEntryS [.one (.list 4 (l.map eEntry)), .one (I left)] k = k [I (szr (mEntryS l) left)] := call_of (fun k => by
  simp only [laws_szEntryS, lenP_eq, List.length_map, binP_sub, wr_left hw.1 h2 h3, binP_lss, iteP_eq, rt_eq, scs_sc, scs_nil, flat_int, true_and, and_true]
  unfold mEntryS
  by_cases c : (l.length : Int) ≤ left
  rotate_left
  · simp [szr_over c, show left - (l.length : Int) < 0 by omega]
  simp only [szr_add c, show ¬ (left - (l.length : Int) < 0) by omega, decide_false, Bool.false_eq_true, if_false]
  refine (lp_sz (neg := k [I (-1)]) (fin := fun t => k [I t]) l eEntry 4 mEntry (left - (l.length : Int)) (I 0) (by omega) (by omega) rfl (fun i x hx hi t ht1 ht2 K => ?_) fun t K => ?_).trans ?_
  · have e := laws_szEntry_n x t (hw.2 x (List.mem_of_getElem? hx)) ht1 ht2
    simp [-getElem?_pos, laws_szEntryS_r0, hx, hi, e, wr_succ (show i < 1000000000000000000 by omega)]
    by_cases hs : ((mEntry x : Nat) : Int) ≤ t
    · simp [szr_yes hs, hs, show ¬ (t - ((mEntry x : Nat) : Int) < 0) by omega]
    · simp [szr_not hs, hs]
  · simp [laws_szEntryS_r0]
  · by_cases hs : ((sumN mEntry l : Nat) : Int) ≤ left - (l.length : Int)
    · simp [szr_yes hs, hs]
    · simp [szr_not hs, hs]) k
theorem laws_toEntryS_n (l : List GEntry) (h : mEntryS l ≤ 1048576) (k) : call laws_toEntryS [.one (.list 4 (l.map eEntry))] k = k [.list 4 (l.map eEntry)] := call_of (fun k => by
  have hm := h
  unfold mEntryS at hm
  simp [laws_toEntryS, show l.length < 1073741824 by omega]
  refine lp_toS l eEntry eEntry [.str ⟨#[]⟩, I 0, I 0, .list 1 []] 4 4 (.list 4 []) rfl (fun i x hx hi K rows hr hz => ?_) fun K => ?_
  · have hs : mEntry x ≤ sumN mEntry l := sumN_mem (s := mEntry) (List.mem_of_getElem? hx)
    simp [-getElem?_pos, laws_toEntryS_r0, hx, hi, hr, hz, over, laws_toEntry_n x (by omega), wr_succ (show i < 1000000000000000000 by omega)]
  · simp [laws_toEntryS_r0]) k
theorem laws_eqEntryS_n (l : List GEntry) (h : mEntryS l ≤ 1048576) (k) : call laws_eqEntryS [.one (.list 4 (l.map eEntry)), .one (.list 4 (l.map eEntry))] k = k [.bool true] := call_of (fun k => by
  have hm := h
  unfold mEntryS at hm
  simp [laws_eqEntryS]
  refine lp_eqS l eEntry 4 (.bool false) rfl (fun i x hx hi K => ?_) fun K => ?_
  · have hs : mEntry x ≤ sumN mEntry l := sumN_mem (s := mEntry) (List.mem_of_getElem? hx)
    simp [-getElem?_pos, laws_eqEntryS_r0, hx, hi, laws_eqEntry_n x (by omega), wr_succ (show i < 1000000000000000000 by omega)]
  · simp [laws_eqEntryS_r0]) k
structure GZone where
  Chain : List GSigned
  Entries : List GEntry
abbrev eZone (a : GZone) : List PV := [.list 17 (a.Chain.map eSigned), .list 4 (a.Entries.map eEntry)]
def mZone (a : GZone) : Nat := mSignedS a.Chain + (mEntryS a.Entries)
def WZone (a : GZone) : Prop := (a.Chain.length ≤ maxLen ∧ ∀ y ∈ a.Chain, WSigned y) ∧ (a.Entries.length ≤ maxLen ∧ ∀ y ∈ a.Entries, WEntry y)
theorem decZone (r : List PV) (hr : Sh.hasAll [.list [.int .i64, .int .i64, .int .i64, .int .i64, .int .i64, .int .i64, .int .i64, .int .i64, .list [.int .i64], .int .i64, .list [.int .i64], .int .i64, .int .i64, .list [.int .i64], .int .i64, .bool, .list [.int .i64, .int .i64]], .list [.str, .int .i64, .int .i64, .list [.str]]] r) : ∃ a : GZone, r = eZone a ∧ WZone a := by
  obtain ⟨p1, r1, rfl, h1, hr1⟩ := all_cons hr
  obtain ⟨n1, rfl, g1⟩ := decSignedS h1
  obtain ⟨p2, rfl, h2⟩ := all_one hr1
  obtain ⟨n2, rfl, g2⟩ := decEntryS h2
  exact ⟨⟨n1, n2⟩, rfl, ⟨g1, g2⟩⟩
theorem laws_szZone_n (a : GZone) (left : Int) (hw : WZone a) (h2 : 0 ≤ left) (h3 : left ≤ 1048576) (k) : call laws_szZone [.agg (eZone a), .one (I left)] k = k [I (szr (mZone a) left)] := call_of (fun k => by
  obtain ⟨g0, g1⟩ := hw
  unfold mZone
  simp only [laws_szZone, un, cur0, laws_szSignedS_n a.Chain (left) g0 h2 h3, binP_lss, iteP_eq, atP_zero, rt_eq, scs_sc, scs_nil, flat_int, true_and, and_true]
  by_cases c0 : ((mSignedS a.Chain : Nat) : Int) ≤ left
  rotate_left
  · first | (simp [szr_over c0, szr_not c0]; done) | (simp only [szr_over c0, szr_not c0]; simp)
  simp only [szr_yes c0, szr_add c0, show ¬ (left - ((mSignedS a.Chain : Nat) : Int) < 0) by omega, decide_false, Bool.false_eq_true, if_false, laws_szEntryS_n a.Entries (left - ((mSignedS a.Chain : Nat) : Int)) g1 (by omega) (by omega), binP_lss, iteP_eq, atP_zero, rt_eq, scs_sc, scs_nil, flat_int, true_and, and_true]
  by_cases c1 : ((mEntryS a.Entries : Nat) : Int) ≤ left - ((mSignedS a.Chain : Nat) : Int)
  rotate_left
  · first | (simp [szr_not c1, szr_not c1]; done) | (simp only [szr_not c1, szr_not c1]; simp)
  simp only [szr_yes c1, show ¬ (left - ((mSignedS a.Chain : Nat) : Int) - ((mEntryS a.Entries : Nat) : Int) < 0) by omega, decide_false, Bool.false_eq_true, if_false, binP_lss, iteP_eq, atP_zero, rt_eq, scs_sc, scs_nil, flat_int, true_and, and_true]) k
theorem laws_toZone_n (a : GZone) (h : mZone a ≤ 1048576) (k) : call laws_toZone [.agg (eZone a)] k = k (eZone a) := call_of (fun k => by
  unfold mZone at h
  simp [laws_toZone, laws_toSignedS_n a.Chain (by omega), laws_toEntryS_n a.Entries (by omega)]) k
theorem laws_eqZone_n (a : GZone) (h : mZone a ≤ 1048576) (k) : call laws_eqZone [.agg (eZone a), .agg (eZone a)] k = k [.bool true] := call_of (fun k => by
  unfold mZone at h
  simp [laws_eqZone, laws_eqSignedS_n a.Chain (by omega), laws_eqEntryS_n a.Entries (by omega)]) k
structure GAnswer where
  Chain : List GSigned
  Found : Bool
  Entry : GEntry
  Proof : GProof
  Gap : GGap
abbrev eAnswer (a : GAnswer) : List PV := [.list 17 (a.Chain.map eSigned), .bool a.Found, .str a.Entry.Label, I a.Entry.Kind, I a.Entry.Value, strs a.Entry.Path, I a.Proof.At, ints a.Proof.Path, I a.Gap.At, .str a.Gap.Before.Label, I a.Gap.Before.Kind, I a.Gap.Before.Value, strs a.Gap.Before.Path, .str a.Gap.After.Label, I a.Gap.After.Kind, I a.Gap.After.Value, strs a.Gap.After.Path, I a.Gap.Left.At, ints a.Gap.Left.Path, I a.Gap.Right.At, ints a.Gap.Right.Path]
def mAnswer (a : GAnswer) : Nat := mSignedS a.Chain + (mEntry a.Entry + (mProof a.Proof + (mGap a.Gap)))
def WAnswer (a : GAnswer) : Prop := (a.Chain.length ≤ maxLen ∧ ∀ y ∈ a.Chain, WSigned y) ∧ WEntry a.Entry ∧ WProof a.Proof ∧ WGap a.Gap
theorem decAnswer (r : List PV) (hr : Sh.hasAll [.list [.int .i64, .int .i64, .int .i64, .int .i64, .int .i64, .int .i64, .int .i64, .int .i64, .list [.int .i64], .int .i64, .list [.int .i64], .int .i64, .int .i64, .list [.int .i64], .int .i64, .bool, .list [.int .i64, .int .i64]], .bool, .str, .int .i64, .int .i64, .list [.str], .int .i64, .list [.int .i64], .int .i64, .str, .int .i64, .int .i64, .list [.str], .str, .int .i64, .int .i64, .list [.str], .int .i64, .list [.int .i64], .int .i64, .list [.int .i64]] r) : ∃ a : GAnswer, r = eAnswer a ∧ WAnswer a := by
  obtain ⟨p1, r1, rfl, h1, hr1⟩ := all_cons hr
  obtain ⟨n1, rfl, g1⟩ := decSignedS h1
  obtain ⟨p2, r2, rfl, h2, hr2⟩ := all_cons hr1
  obtain ⟨n2, rfl⟩ := has_bool h2
  obtain ⟨p3, r3, rfl, h3, hr3⟩ := all_cons hr2
  obtain ⟨n3, rfl, g3⟩ := has_str h3
  obtain ⟨p4, r4, rfl, h4, hr4⟩ := all_cons hr3
  obtain ⟨n4, rfl⟩ := has_int h4
  obtain ⟨p5, r5, rfl, h5, hr5⟩ := all_cons hr4
  obtain ⟨n5, rfl⟩ := has_int h5
  obtain ⟨p6, r6, rfl, h6, hr6⟩ := all_cons hr5
  obtain ⟨n6, rfl, g6⟩ := has_strs h6
  obtain ⟨p7, r7, rfl, h7, hr7⟩ := all_cons hr6
  obtain ⟨n7, rfl⟩ := has_int h7
  obtain ⟨p8, r8, rfl, h8, hr8⟩ := all_cons hr7
  obtain ⟨n8, rfl, g8⟩ := has_ints h8
  obtain ⟨p9, r9, rfl, h9, hr9⟩ := all_cons hr8
  obtain ⟨n9, rfl⟩ := has_int h9
  obtain ⟨p10, r10, rfl, h10, hr10⟩ := all_cons hr9
  obtain ⟨n10, rfl, g10⟩ := has_str h10
  obtain ⟨p11, r11, rfl, h11, hr11⟩ := all_cons hr10
  obtain ⟨n11, rfl⟩ := has_int h11
  obtain ⟨p12, r12, rfl, h12, hr12⟩ := all_cons hr11
  obtain ⟨n12, rfl⟩ := has_int h12
  obtain ⟨p13, r13, rfl, h13, hr13⟩ := all_cons hr12
  obtain ⟨n13, rfl, g13⟩ := has_strs h13
  obtain ⟨p14, r14, rfl, h14, hr14⟩ := all_cons hr13
  obtain ⟨n14, rfl, g14⟩ := has_str h14
  obtain ⟨p15, r15, rfl, h15, hr15⟩ := all_cons hr14
  obtain ⟨n15, rfl⟩ := has_int h15
  obtain ⟨p16, r16, rfl, h16, hr16⟩ := all_cons hr15
  obtain ⟨n16, rfl⟩ := has_int h16
  obtain ⟨p17, r17, rfl, h17, hr17⟩ := all_cons hr16
  obtain ⟨n17, rfl, g17⟩ := has_strs h17
  obtain ⟨p18, r18, rfl, h18, hr18⟩ := all_cons hr17
  obtain ⟨n18, rfl⟩ := has_int h18
  obtain ⟨p19, r19, rfl, h19, hr19⟩ := all_cons hr18
  obtain ⟨n19, rfl, g19⟩ := has_ints h19
  obtain ⟨p20, r20, rfl, h20, hr20⟩ := all_cons hr19
  obtain ⟨n20, rfl⟩ := has_int h20
  obtain ⟨p21, rfl, h21⟩ := all_one hr20
  obtain ⟨n21, rfl, g21⟩ := has_ints h21
  exact ⟨⟨n1, n2, ⟨n3, n4, n5, n6⟩, ⟨n7, n8⟩, ⟨n9, ⟨n10, n11, n12, n13⟩, ⟨n14, n15, n16, n17⟩, ⟨n18, n19⟩, ⟨n20, n21⟩⟩⟩, rfl, ⟨g1, ⟨g3, g6⟩, g8, ⟨⟨g10, g13⟩, ⟨g14, g17⟩, g19, g21⟩⟩⟩
theorem laws_szAnswer_n (a : GAnswer) (left : Int) (hw : WAnswer a) (h2 : 0 ≤ left) (h3 : left ≤ 1048576) (k) : call laws_szAnswer [.agg (eAnswer a), .one (I left)] k = k [I (szr (mAnswer a) left)] := call_of (fun k => by
  obtain ⟨g0, g1, g2, g3⟩ := hw
  unfold mAnswer
  simp only [laws_szAnswer, un, cur0, laws_szSignedS_n a.Chain (left) g0 h2 h3, binP_lss, iteP_eq, atP_zero, rt_eq, scs_sc, scs_nil, flat_int, true_and, and_true]
  by_cases c0 : ((mSignedS a.Chain : Nat) : Int) ≤ left
  rotate_left
  · first | (simp [szr_over c0, szr_not c0]; done) | (simp only [szr_over c0, szr_not c0]; simp)
  simp only [szr_yes c0, szr_add c0, show ¬ (left - ((mSignedS a.Chain : Nat) : Int) < 0) by omega, decide_false, Bool.false_eq_true, if_false, laws_szEntry_n a.Entry (left - ((mSignedS a.Chain : Nat) : Int)) g1 (by omega) (by omega), binP_lss, iteP_eq, atP_zero, rt_eq, scs_sc, scs_nil, flat_int, true_and, and_true]
  by_cases c1 : ((mEntry a.Entry : Nat) : Int) ≤ left - ((mSignedS a.Chain : Nat) : Int)
  rotate_left
  · first | (simp [szr_over c1, szr_not c1]; done) | (simp only [szr_over c1, szr_not c1]; simp)
  simp only [szr_yes c1, szr_add c1, show ¬ (left - ((mSignedS a.Chain : Nat) : Int) - ((mEntry a.Entry : Nat) : Int) < 0) by omega, decide_false, Bool.false_eq_true, if_false, laws_szProof_n a.Proof (left - ((mSignedS a.Chain : Nat) : Int) - ((mEntry a.Entry : Nat) : Int)) g2 (by omega) (by omega), binP_lss, iteP_eq, atP_zero, rt_eq, scs_sc, scs_nil, flat_int, true_and, and_true]
  by_cases c2 : ((mProof a.Proof : Nat) : Int) ≤ left - ((mSignedS a.Chain : Nat) : Int) - ((mEntry a.Entry : Nat) : Int)
  rotate_left
  · first | (simp [szr_over c2, szr_not c2]; done) | (simp only [szr_over c2, szr_not c2]; simp)
  simp only [szr_yes c2, szr_add c2, show ¬ (left - ((mSignedS a.Chain : Nat) : Int) - ((mEntry a.Entry : Nat) : Int) - ((mProof a.Proof : Nat) : Int) < 0) by omega, decide_false, Bool.false_eq_true, if_false, laws_szGap_n a.Gap (left - ((mSignedS a.Chain : Nat) : Int) - ((mEntry a.Entry : Nat) : Int) - ((mProof a.Proof : Nat) : Int)) g3 (by omega) (by omega), binP_lss, iteP_eq, atP_zero, rt_eq, scs_sc, scs_nil, flat_int, true_and, and_true]
  by_cases c3 : ((mGap a.Gap : Nat) : Int) ≤ left - ((mSignedS a.Chain : Nat) : Int) - ((mEntry a.Entry : Nat) : Int) - ((mProof a.Proof : Nat) : Int)
  rotate_left
  · first | (simp [szr_not c3, szr_not c3]; done) | (simp only [szr_not c3, szr_not c3]; simp)
  simp only [szr_yes c3, show ¬ (left - ((mSignedS a.Chain : Nat) : Int) - ((mEntry a.Entry : Nat) : Int) - ((mProof a.Proof : Nat) : Int) - ((mGap a.Gap : Nat) : Int) < 0) by omega, decide_false, Bool.false_eq_true, if_false, binP_lss, iteP_eq, atP_zero, rt_eq, scs_sc, scs_nil, flat_int, true_and, and_true]) k
theorem laws_toAnswer_n (a : GAnswer) (h : mAnswer a ≤ 1048576) (k) : call laws_toAnswer [.agg (eAnswer a)] k = k (eAnswer a) := call_of (fun k => by
  unfold mAnswer at h
  simp [laws_toAnswer, laws_toSignedS_n a.Chain (by omega), laws_toEntry_n a.Entry (by omega), laws_toProof_n a.Proof (by omega), laws_toGap_n a.Gap (by omega)]) k
theorem laws_eqAnswer_n (a : GAnswer) (h : mAnswer a ≤ 1048576) (k) : call laws_eqAnswer [.agg (eAnswer a), .agg (eAnswer a)] k = k [.bool true] := call_of (fun k => by
  unfold mAnswer at h
  simp [laws_eqAnswer, laws_eqSignedS_n a.Chain (by omega), laws_eqEntry_n a.Entry (by omega), laws_eqProof_n a.Proof (by omega), laws_eqGap_n a.Gap (by omega)]) k
def mSignedSS (l : List (List GSigned)) : Nat := l.length + sumN mSignedS l
theorem decSignedSS {p : PV} (h : Sh.has (.list [.list [.int .i64, .int .i64, .int .i64, .int .i64, .int .i64, .int .i64, .int .i64, .int .i64, .list [.int .i64], .int .i64, .list [.int .i64], .int .i64, .int .i64, .list [.int .i64], .int .i64, .bool, .list [.int .i64, .int .i64]]]) p) : ∃ l : List (List GSigned), p = .list 1 (l.map (fun l : List GSigned => [.list 17 (l.map eSigned)])) ∧ (l.length ≤ maxLen ∧ ∀ y ∈ l, (y.length ≤ maxLen ∧ ∀ z ∈ y, WSigned z)) := by
  obtain ⟨l, h1, h2, h3⟩ := has_map (enc := (fun l : List GSigned => [.list 17 (l.map eSigned)])) (wf := fun y => (y.length ≤ maxLen ∧ ∀ z ∈ y, WSigned z)) (fun r hr => by
    obtain ⟨p, rfl, h⟩ := all_one hr
    obtain ⟨m, rfl, g⟩ := decSignedS h
    exact ⟨m, rfl, g⟩) 1 rfl h
  exact ⟨l, h1, h2, h3⟩
theorem laws_szSignedSS_n (l : List (List GSigned)) (left : Int) (hw : (l.length ≤ maxLen ∧ ∀ y ∈ l, (y.length ≤ maxLen ∧ ∀ z ∈ y, WSigned z))) (h2 : 0 ≤ left) (h3 : left ≤ 1048576) (k) : call laws_szSignedSS [.one (.list 1 (l.map (fun l : List GSigned => [.list 17 (l.map eSigned)]))), .one (I left)] k = k [I (szr (mSignedSS l) left)] := call_of (fun k => by
  simp only [laws_szSignedSS, lenP_eq, List.length_map, binP_sub, wr_left hw.1 h2 h3, binP_lss, iteP_eq, rt_eq, scs_sc, scs_nil, flat_int, true_and, and_true]
  unfold mSignedSS
  by_cases c : (l.length : Int) ≤ left
  rotate_left
  · simp [szr_over c, show left - (l.length : Int) < 0 by omega]
  simp only [szr_add c, show ¬ (left - (l.length : Int) < 0) by omega, decide_false, Bool.false_eq_true, if_false]
  refine (lp_sz (neg := k [I (-1)]) (fin := fun t => k [I t]) l (fun l : List GSigned => [.list 17 (l.map eSigned)]) 1 mSignedS (left - (l.length : Int)) (I 0) (by omega) (by omega) rfl (fun i x hx hi t ht1 ht2 K => ?_) fun t K => ?_).trans ?_
  · have e := laws_szSignedS_n x t (hw.2 x (List.mem_of_getElem? hx)) ht1 ht2
    simp [-getElem?_pos, laws_szSignedSS_r0, hx, hi, e, wr_succ (show i < 1000000000000000000 by omega)]
    by_cases hs : ((mSignedS x : Nat) : Int) ≤ t
    · simp [szr_yes hs, hs, show ¬ (t - ((mSignedS x : Nat) : Int) < 0) by omega]
    · simp [szr_not hs, hs]
  · simp [laws_szSignedSS_r0]
  · by_cases hs : ((sumN mSignedS l : Nat) : Int) ≤ left - (l.length : Int)
    · simp [szr_yes hs, hs]
    · simp [szr_not hs, hs]) k
theorem laws_toSignedSS_n (l : List (List GSigned)) (h : mSignedSS l ≤ 1048576) (k) : call laws_toSignedSS [.one (.list 1 (l.map (fun l : List GSigned => [.list 17 (l.map eSigned)])))] k = k [.list 1 (l.map (fun l : List GSigned => [.list 17 (l.map eSigned)]))] := call_of (fun k => by
  have hm := h
  unfold mSignedSS at hm
  simp [laws_toSignedSS, show l.length < 1073741824 by omega]
  refine lp_toS l (fun l : List GSigned => [.list 17 (l.map eSigned)]) (fun l : List GSigned => [.list 17 (l.map eSigned)]) [.list 17 []] 1 1 (.list 1 []) rfl (fun i x hx hi K rows hr hz => ?_) fun K => ?_
  · have hs : mSignedS x ≤ sumN mSignedS l := sumN_mem (s := mSignedS) (List.mem_of_getElem? hx)
    simp [-getElem?_pos, laws_toSignedSS_r0, hx, hi, hr, hz, over, laws_toSignedS_n x (by omega), wr_succ (show i < 1000000000000000000 by omega)]
  · simp [laws_toSignedSS_r0]) k
theorem laws_eqSignedSS_n (l : List (List GSigned)) (h : mSignedSS l ≤ 1048576) (k) : call laws_eqSignedSS [.one (.list 1 (l.map (fun l : List GSigned => [.list 17 (l.map eSigned)]))), .one (.list 1 (l.map (fun l : List GSigned => [.list 17 (l.map eSigned)])))] k = k [.bool true] := call_of (fun k => by
  have hm := h
  unfold mSignedSS at hm
  simp [laws_eqSignedSS]
  refine lp_eqS l (fun l : List GSigned => [.list 17 (l.map eSigned)]) 1 (.bool false) rfl (fun i x hx hi K => ?_) fun K => ?_
  · have hs : mSignedS x ≤ sumN mSignedS l := sumN_mem (s := mSignedS) (List.mem_of_getElem? hx)
    simp [-getElem?_pos, laws_eqSignedSS_r0, hx, hi, laws_eqSignedS_n x (by omega), wr_succ (show i < 1000000000000000000 by omega)]
  · simp [laws_eqSignedSS_r0]) k
def mForkS (l : List GFork) : Nat := l.length + sumN mFork l
theorem decForkS {p : PV} (h : Sh.has (.list [.int .i64, .int .i64, .int .i64, .int .i64, .int .i64, .int .i64, .int .i64, .int .i64, .list [.int .i64], .int .i64, .list [.int .i64], .int .i64, .int .i64, .list [.int .i64], .int .i64, .bool, .list [.int .i64, .int .i64], .int .i64, .int .i64, .int .i64, .int .i64, .int .i64, .int .i64, .int .i64, .int .i64, .list [.int .i64], .int .i64, .list [.int .i64], .int .i64, .int .i64, .list [.int .i64], .int .i64, .bool, .list [.int .i64, .int .i64], .int .i64, .int .i64, .int .i64, .int .i64, .int .i64, .int .i64, .int .i64, .int .i64, .list [.int .i64], .int .i64, .list [.int .i64], .int .i64, .int .i64, .list [.int .i64], .int .i64, .bool, .list [.int .i64, .int .i64]]) p) : ∃ l : List GFork, p = .list 51 (l.map eFork) ∧ (l.length ≤ maxLen ∧ ∀ y ∈ l, WFork y) := by
  obtain ⟨l, h1, h2, h3⟩ := has_map decFork 51 rfl h
  exact ⟨l, h1, h2, h3⟩
theorem laws_szForkS_n (l : List GFork) (left : Int) (hw : (l.length ≤ maxLen ∧ ∀ y ∈ l, WFork y)) (h2 : 0 ≤ left) (h3 : left ≤ 1048576) (k) : call laws_szForkS [.one (.list 51 (l.map eFork)), .one (I left)] k = k [I (szr (mForkS l) left)] := call_of (fun k => by
  simp only [laws_szForkS, lenP_eq, List.length_map, binP_sub, wr_left hw.1 h2 h3, binP_lss, iteP_eq, rt_eq, scs_sc, scs_nil, flat_int, true_and, and_true]
  unfold mForkS
  by_cases c : (l.length : Int) ≤ left
  rotate_left
  · simp [szr_over c, show left - (l.length : Int) < 0 by omega]
  simp only [szr_add c, show ¬ (left - (l.length : Int) < 0) by omega, decide_false, Bool.false_eq_true, if_false]
  refine (lp_sz (neg := k [I (-1)]) (fin := fun t => k [I t]) l eFork 51 mFork (left - (l.length : Int)) (I 0) (by omega) (by omega) rfl (fun i x hx hi t ht1 ht2 K => ?_) fun t K => ?_).trans ?_
  · have e := laws_szFork_n x t (hw.2 x (List.mem_of_getElem? hx)) ht1 ht2
    simp [-getElem?_pos, laws_szForkS_r0, hx, hi, e, wr_succ (show i < 1000000000000000000 by omega)]
    by_cases hs : ((mFork x : Nat) : Int) ≤ t
    · simp [szr_yes hs, hs, show ¬ (t - ((mFork x : Nat) : Int) < 0) by omega]
    · simp [szr_not hs, hs]
  · simp [laws_szForkS_r0]
  · by_cases hs : ((sumN mFork l : Nat) : Int) ≤ left - (l.length : Int)
    · simp [szr_yes hs, hs]
    · simp [szr_not hs, hs]) k
theorem laws_toForkS_n (l : List GFork) (h : mForkS l ≤ 1048576) (k) : call laws_toForkS [.one (.list 51 (l.map eFork))] k = k [.list 51 (l.map eFork)] := call_of (fun k => by
  have hm := h
  unfold mForkS at hm
  simp [laws_toForkS, show l.length < 1073741824 by omega]
  refine lp_toS l eFork eFork [I 0, I 0, I 0, I 0, I 0, I 0, I 0, I 0, .list 1 [], I 0, .list 1 [], I 0, I 0, .list 1 [], I 0, .bool false, .list 2 [], I 0, I 0, I 0, I 0, I 0, I 0, I 0, I 0, .list 1 [], I 0, .list 1 [], I 0, I 0, .list 1 [], I 0, .bool false, .list 2 [], I 0, I 0, I 0, I 0, I 0, I 0, I 0, I 0, .list 1 [], I 0, .list 1 [], I 0, I 0, .list 1 [], I 0, .bool false, .list 2 []] 51 51 (.list 51 []) rfl (fun i x hx hi K rows hr hz => ?_) fun K => ?_
  · have hs : mFork x ≤ sumN mFork l := sumN_mem (s := mFork) (List.mem_of_getElem? hx)
    simp [-getElem?_pos, laws_toForkS_r0, hx, hi, hr, hz, over, laws_toFork_n x (by omega), wr_succ (show i < 1000000000000000000 by omega)]
  · simp [laws_toForkS_r0]) k
theorem laws_eqForkS_n (l : List GFork) (h : mForkS l ≤ 1048576) (k) : call laws_eqForkS [.one (.list 51 (l.map eFork)), .one (.list 51 (l.map eFork))] k = k [.bool true] := call_of (fun k => by
  have hm := h
  unfold mForkS at hm
  simp [laws_eqForkS]
  refine lp_eqS l eFork 51 (.bool false) rfl (fun i x hx hi K => ?_) fun K => ?_
  · have hs : mFork x ≤ sumN mFork l := sumN_mem (s := mFork) (List.mem_of_getElem? hx)
    simp [-getElem?_pos, laws_eqForkS_r0, hx, hi, laws_eqFork_n x (by omega), wr_succ (show i < 1000000000000000000 by omega)]
  · simp [laws_eqForkS_r0]) k
structure GKnown where
  Chains : List (List GSigned)
  Forks : List GFork
abbrev eKnown (a : GKnown) : List PV := [.list 1 (a.Chains.map (fun l : List GSigned => [.list 17 (l.map eSigned)])), .list 51 (a.Forks.map eFork)]
def mKnown (a : GKnown) : Nat := mSignedSS a.Chains + (mForkS a.Forks)
def WKnown (a : GKnown) : Prop := (a.Chains.length ≤ maxLen ∧ ∀ y ∈ a.Chains, (y.length ≤ maxLen ∧ ∀ z ∈ y, WSigned z)) ∧ (a.Forks.length ≤ maxLen ∧ ∀ y ∈ a.Forks, WFork y)
theorem decKnown (r : List PV) (hr : Sh.hasAll [.list [.list [.int .i64, .int .i64, .int .i64, .int .i64, .int .i64, .int .i64, .int .i64, .int .i64, .list [.int .i64], .int .i64, .list [.int .i64], .int .i64, .int .i64, .list [.int .i64], .int .i64, .bool, .list [.int .i64, .int .i64]]], .list [.int .i64, .int .i64, .int .i64, .int .i64, .int .i64, .int .i64, .int .i64, .int .i64, .list [.int .i64], .int .i64, .list [.int .i64], .int .i64, .int .i64, .list [.int .i64], .int .i64, .bool, .list [.int .i64, .int .i64], .int .i64, .int .i64, .int .i64, .int .i64, .int .i64, .int .i64, .int .i64, .int .i64, .list [.int .i64], .int .i64, .list [.int .i64], .int .i64, .int .i64, .list [.int .i64], .int .i64, .bool, .list [.int .i64, .int .i64], .int .i64, .int .i64, .int .i64, .int .i64, .int .i64, .int .i64, .int .i64, .int .i64, .list [.int .i64], .int .i64, .list [.int .i64], .int .i64, .int .i64, .list [.int .i64], .int .i64, .bool, .list [.int .i64, .int .i64]]] r) : ∃ a : GKnown, r = eKnown a ∧ WKnown a := by
  obtain ⟨p1, r1, rfl, h1, hr1⟩ := all_cons hr
  obtain ⟨n1, rfl, g1⟩ := decSignedSS h1
  obtain ⟨p2, rfl, h2⟩ := all_one hr1
  obtain ⟨n2, rfl, g2⟩ := decForkS h2
  exact ⟨⟨n1, n2⟩, rfl, ⟨g1, g2⟩⟩
theorem laws_szKnown_n (a : GKnown) (left : Int) (hw : WKnown a) (h2 : 0 ≤ left) (h3 : left ≤ 1048576) (k) : call laws_szKnown [.agg (eKnown a), .one (I left)] k = k [I (szr (mKnown a) left)] := call_of (fun k => by
  obtain ⟨g0, g1⟩ := hw
  unfold mKnown
  simp only [laws_szKnown, un, cur0, laws_szSignedSS_n a.Chains (left) g0 h2 h3, binP_lss, iteP_eq, atP_zero, rt_eq, scs_sc, scs_nil, flat_int, true_and, and_true]
  by_cases c0 : ((mSignedSS a.Chains : Nat) : Int) ≤ left
  rotate_left
  · first | (simp [szr_over c0, szr_not c0]; done) | (simp only [szr_over c0, szr_not c0]; simp)
  simp only [szr_yes c0, szr_add c0, show ¬ (left - ((mSignedSS a.Chains : Nat) : Int) < 0) by omega, decide_false, Bool.false_eq_true, if_false, laws_szForkS_n a.Forks (left - ((mSignedSS a.Chains : Nat) : Int)) g1 (by omega) (by omega), binP_lss, iteP_eq, atP_zero, rt_eq, scs_sc, scs_nil, flat_int, true_and, and_true]
  by_cases c1 : ((mForkS a.Forks : Nat) : Int) ≤ left - ((mSignedSS a.Chains : Nat) : Int)
  rotate_left
  · first | (simp [szr_not c1, szr_not c1]; done) | (simp only [szr_not c1, szr_not c1]; simp)
  simp only [szr_yes c1, show ¬ (left - ((mSignedSS a.Chains : Nat) : Int) - ((mForkS a.Forks : Nat) : Int) < 0) by omega, decide_false, Bool.false_eq_true, if_false, binP_lss, iteP_eq, atP_zero, rt_eq, scs_sc, scs_nil, flat_int, true_and, and_true]) k
theorem laws_toKnown_n (a : GKnown) (h : mKnown a ≤ 1048576) (k) : call laws_toKnown [.agg (eKnown a)] k = k (eKnown a) := call_of (fun k => by
  unfold mKnown at h
  simp [laws_toKnown, laws_toSignedSS_n a.Chains (by omega), laws_toForkS_n a.Forks (by omega)]) k
theorem laws_eqKnown_n (a : GKnown) (h : mKnown a ≤ 1048576) (k) : call laws_eqKnown [.agg (eKnown a), .agg (eKnown a)] k = k [.bool true] := call_of (fun k => by
  unfold mKnown at h
  simp [laws_eqKnown, laws_eqSignedSS_n a.Chains (by omega), laws_eqForkS_n a.Forks (by omega)]) k
def mZoneS (l : List GZone) : Nat := l.length + sumN mZone l
theorem decZoneS {p : PV} (h : Sh.has (.list [.list [.int .i64, .int .i64, .int .i64, .int .i64, .int .i64, .int .i64, .int .i64, .int .i64, .list [.int .i64], .int .i64, .list [.int .i64], .int .i64, .int .i64, .list [.int .i64], .int .i64, .bool, .list [.int .i64, .int .i64]], .list [.str, .int .i64, .int .i64, .list [.str]]]) p) : ∃ l : List GZone, p = .list 2 (l.map eZone) ∧ (l.length ≤ maxLen ∧ ∀ y ∈ l, WZone y) := by
  obtain ⟨l, h1, h2, h3⟩ := has_map decZone 2 rfl h
  exact ⟨l, h1, h2, h3⟩
theorem laws_szZoneS_n (l : List GZone) (left : Int) (hw : (l.length ≤ maxLen ∧ ∀ y ∈ l, WZone y)) (h2 : 0 ≤ left) (h3 : left ≤ 1048576) (k) : call laws_szZoneS [.one (.list 2 (l.map eZone)), .one (I left)] k = k [I (szr (mZoneS l) left)] := call_of (fun k => by
  simp only [laws_szZoneS, lenP_eq, List.length_map, binP_sub, wr_left hw.1 h2 h3, binP_lss, iteP_eq, rt_eq, scs_sc, scs_nil, flat_int, true_and, and_true]
  unfold mZoneS
  by_cases c : (l.length : Int) ≤ left
  rotate_left
  · simp [szr_over c, show left - (l.length : Int) < 0 by omega]
  simp only [szr_add c, show ¬ (left - (l.length : Int) < 0) by omega, decide_false, Bool.false_eq_true, if_false]
  refine (lp_sz (neg := k [I (-1)]) (fin := fun t => k [I t]) l eZone 2 mZone (left - (l.length : Int)) (I 0) (by omega) (by omega) rfl (fun i x hx hi t ht1 ht2 K => ?_) fun t K => ?_).trans ?_
  · have e := laws_szZone_n x t (hw.2 x (List.mem_of_getElem? hx)) ht1 ht2
    simp [-getElem?_pos, laws_szZoneS_r0, hx, hi, e, wr_succ (show i < 1000000000000000000 by omega)]
    by_cases hs : ((mZone x : Nat) : Int) ≤ t
    · simp [szr_yes hs, hs, show ¬ (t - ((mZone x : Nat) : Int) < 0) by omega]
    · simp [szr_not hs, hs]
  · simp [laws_szZoneS_r0]
  · by_cases hs : ((sumN mZone l : Nat) : Int) ≤ left - (l.length : Int)
    · simp [szr_yes hs, hs]
    · simp [szr_not hs, hs]) k
theorem laws_toZoneS_n (l : List GZone) (h : mZoneS l ≤ 1048576) (k) : call laws_toZoneS [.one (.list 2 (l.map eZone))] k = k [.list 2 (l.map eZone)] := call_of (fun k => by
  have hm := h
  unfold mZoneS at hm
  simp [laws_toZoneS, show l.length < 1073741824 by omega]
  refine lp_toS l eZone eZone [.list 17 [], .list 4 []] 2 2 (.list 2 []) rfl (fun i x hx hi K rows hr hz => ?_) fun K => ?_
  · have hs : mZone x ≤ sumN mZone l := sumN_mem (s := mZone) (List.mem_of_getElem? hx)
    simp [-getElem?_pos, laws_toZoneS_r0, hx, hi, hr, hz, over, laws_toZone_n x (by omega), wr_succ (show i < 1000000000000000000 by omega)]
  · simp [laws_toZoneS_r0]) k
theorem laws_eqZoneS_n (l : List GZone) (h : mZoneS l ≤ 1048576) (k) : call laws_eqZoneS [.one (.list 2 (l.map eZone)), .one (.list 2 (l.map eZone))] k = k [.bool true] := call_of (fun k => by
  have hm := h
  unfold mZoneS at hm
  simp [laws_eqZoneS]
  refine lp_eqS l eZone 2 (.bool false) rfl (fun i x hx hi K => ?_) fun K => ?_
  · have hs : mZone x ≤ sumN mZone l := sumN_mem (s := mZone) (List.mem_of_getElem? hx)
    simp [-getElem?_pos, laws_eqZoneS_r0, hx, hi, laws_eqZone_n x (by omega), wr_succ (show i < 1000000000000000000 by omega)]
  · simp [laws_eqZoneS_r0]) k
structure GServer where
  Zones : List GZone
  Lie : Int
abbrev eServer (a : GServer) : List PV := [.list 2 (a.Zones.map eZone), I a.Lie]
def mServer (a : GServer) : Nat := mZoneS a.Zones
def WServer (a : GServer) : Prop := (a.Zones.length ≤ maxLen ∧ ∀ y ∈ a.Zones, WZone y)
theorem decServer (r : List PV) (hr : Sh.hasAll [.list [.list [.int .i64, .int .i64, .int .i64, .int .i64, .int .i64, .int .i64, .int .i64, .int .i64, .list [.int .i64], .int .i64, .list [.int .i64], .int .i64, .int .i64, .list [.int .i64], .int .i64, .bool, .list [.int .i64, .int .i64]], .list [.str, .int .i64, .int .i64, .list [.str]]], .int .i64] r) : ∃ a : GServer, r = eServer a ∧ WServer a := by
  obtain ⟨p1, r1, rfl, h1, hr1⟩ := all_cons hr
  obtain ⟨n1, rfl, g1⟩ := decZoneS h1
  obtain ⟨p2, rfl, h2⟩ := all_one hr1
  obtain ⟨n2, rfl⟩ := has_int h2
  exact ⟨⟨n1, n2⟩, rfl, g1⟩
theorem laws_szServer_n (a : GServer) (left : Int) (hw : WServer a) (h2 : 0 ≤ left) (h3 : left ≤ 1048576) (k) : call laws_szServer [.agg (eServer a), .one (I left)] k = k [I (szr (mServer a) left)] := call_of (fun k => by
  have g0 := hw
  unfold mServer
  simp only [laws_szServer, un, cur0, laws_szZoneS_n a.Zones (left) g0 h2 h3, binP_lss, iteP_eq, atP_zero, rt_eq, scs_sc, scs_nil, flat_int, true_and, and_true]
  by_cases c0 : ((mZoneS a.Zones : Nat) : Int) ≤ left
  rotate_left
  · first | (simp [szr_not c0, szr_not c0]; done) | (simp only [szr_not c0, szr_not c0]; simp)
  simp only [szr_yes c0, show ¬ (left - ((mZoneS a.Zones : Nat) : Int) < 0) by omega, decide_false, Bool.false_eq_true, if_false, binP_lss, iteP_eq, atP_zero, rt_eq, scs_sc, scs_nil, flat_int, true_and, and_true]) k
theorem laws_toServer_n (a : GServer) (h : mServer a ≤ 1048576) (k) : call laws_toServer [.agg (eServer a)] k = k (eServer a) := call_of (fun k => by
  unfold mServer at h
  simp [laws_toServer, laws_toZoneS_n a.Zones (by omega)]) k
theorem laws_eqServer_n (a : GServer) (h : mServer a ≤ 1048576) (k) : call laws_eqServer [.agg (eServer a), .agg (eServer a)] k = k [.bool true] := call_of (fun k => by
  unfold mServer at h
  simp [laws_eqServer, laws_eqZoneS_n a.Zones (by omega)]) k
structure GStored where
  Zone : Int
  Label : ByteArray
  Answer : GAnswer
abbrev eStored (a : GStored) : List PV := [I a.Zone, .str a.Label, .list 17 (a.Answer.Chain.map eSigned), .bool a.Answer.Found, .str a.Answer.Entry.Label, I a.Answer.Entry.Kind, I a.Answer.Entry.Value, strs a.Answer.Entry.Path, I a.Answer.Proof.At, ints a.Answer.Proof.Path, I a.Answer.Gap.At, .str a.Answer.Gap.Before.Label, I a.Answer.Gap.Before.Kind, I a.Answer.Gap.Before.Value, strs a.Answer.Gap.Before.Path, .str a.Answer.Gap.After.Label, I a.Answer.Gap.After.Kind, I a.Answer.Gap.After.Value, strs a.Answer.Gap.After.Path, I a.Answer.Gap.Left.At, ints a.Answer.Gap.Left.Path, I a.Answer.Gap.Right.At, ints a.Answer.Gap.Right.Path]
def mStored (a : GStored) : Nat := a.Label.size + (mAnswer a.Answer)
def WStored (a : GStored) : Prop := a.Label.size ≤ maxLen ∧ WAnswer a.Answer
theorem decStored (r : List PV) (hr : Sh.hasAll [.int .i64, .str, .list [.int .i64, .int .i64, .int .i64, .int .i64, .int .i64, .int .i64, .int .i64, .int .i64, .list [.int .i64], .int .i64, .list [.int .i64], .int .i64, .int .i64, .list [.int .i64], .int .i64, .bool, .list [.int .i64, .int .i64]], .bool, .str, .int .i64, .int .i64, .list [.str], .int .i64, .list [.int .i64], .int .i64, .str, .int .i64, .int .i64, .list [.str], .str, .int .i64, .int .i64, .list [.str], .int .i64, .list [.int .i64], .int .i64, .list [.int .i64]] r) : ∃ a : GStored, r = eStored a ∧ WStored a := by
  obtain ⟨p1, r1, rfl, h1, hr1⟩ := all_cons hr
  obtain ⟨n1, rfl⟩ := has_int h1
  obtain ⟨p2, r2, rfl, h2, hr2⟩ := all_cons hr1
  obtain ⟨n2, rfl, g2⟩ := has_str h2
  obtain ⟨p3, r3, rfl, h3, hr3⟩ := all_cons hr2
  obtain ⟨n3, rfl, g3⟩ := decSignedS h3
  obtain ⟨p4, r4, rfl, h4, hr4⟩ := all_cons hr3
  obtain ⟨n4, rfl⟩ := has_bool h4
  obtain ⟨p5, r5, rfl, h5, hr5⟩ := all_cons hr4
  obtain ⟨n5, rfl, g5⟩ := has_str h5
  obtain ⟨p6, r6, rfl, h6, hr6⟩ := all_cons hr5
  obtain ⟨n6, rfl⟩ := has_int h6
  obtain ⟨p7, r7, rfl, h7, hr7⟩ := all_cons hr6
  obtain ⟨n7, rfl⟩ := has_int h7
  obtain ⟨p8, r8, rfl, h8, hr8⟩ := all_cons hr7
  obtain ⟨n8, rfl, g8⟩ := has_strs h8
  obtain ⟨p9, r9, rfl, h9, hr9⟩ := all_cons hr8
  obtain ⟨n9, rfl⟩ := has_int h9
  obtain ⟨p10, r10, rfl, h10, hr10⟩ := all_cons hr9
  obtain ⟨n10, rfl, g10⟩ := has_ints h10
  obtain ⟨p11, r11, rfl, h11, hr11⟩ := all_cons hr10
  obtain ⟨n11, rfl⟩ := has_int h11
  obtain ⟨p12, r12, rfl, h12, hr12⟩ := all_cons hr11
  obtain ⟨n12, rfl, g12⟩ := has_str h12
  obtain ⟨p13, r13, rfl, h13, hr13⟩ := all_cons hr12
  obtain ⟨n13, rfl⟩ := has_int h13
  obtain ⟨p14, r14, rfl, h14, hr14⟩ := all_cons hr13
  obtain ⟨n14, rfl⟩ := has_int h14
  obtain ⟨p15, r15, rfl, h15, hr15⟩ := all_cons hr14
  obtain ⟨n15, rfl, g15⟩ := has_strs h15
  obtain ⟨p16, r16, rfl, h16, hr16⟩ := all_cons hr15
  obtain ⟨n16, rfl, g16⟩ := has_str h16
  obtain ⟨p17, r17, rfl, h17, hr17⟩ := all_cons hr16
  obtain ⟨n17, rfl⟩ := has_int h17
  obtain ⟨p18, r18, rfl, h18, hr18⟩ := all_cons hr17
  obtain ⟨n18, rfl⟩ := has_int h18
  obtain ⟨p19, r19, rfl, h19, hr19⟩ := all_cons hr18
  obtain ⟨n19, rfl, g19⟩ := has_strs h19
  obtain ⟨p20, r20, rfl, h20, hr20⟩ := all_cons hr19
  obtain ⟨n20, rfl⟩ := has_int h20
  obtain ⟨p21, r21, rfl, h21, hr21⟩ := all_cons hr20
  obtain ⟨n21, rfl, g21⟩ := has_ints h21
  obtain ⟨p22, r22, rfl, h22, hr22⟩ := all_cons hr21
  obtain ⟨n22, rfl⟩ := has_int h22
  obtain ⟨p23, rfl, h23⟩ := all_one hr22
  obtain ⟨n23, rfl, g23⟩ := has_ints h23
  exact ⟨⟨n1, n2, ⟨n3, n4, ⟨n5, n6, n7, n8⟩, ⟨n9, n10⟩, ⟨n11, ⟨n12, n13, n14, n15⟩, ⟨n16, n17, n18, n19⟩, ⟨n20, n21⟩, ⟨n22, n23⟩⟩⟩⟩, rfl, ⟨g2, ⟨g3, ⟨g5, g8⟩, g10, ⟨⟨g12, g15⟩, ⟨g16, g19⟩, g21, g23⟩⟩⟩⟩
theorem laws_szStored_n (a : GStored) (left : Int) (hw : WStored a) (h2 : 0 ≤ left) (h3 : left ≤ 1048576) (k) : call laws_szStored [.agg (eStored a), .one (I left)] k = k [I (szr (mStored a) left)] := call_of (fun k => by
  obtain ⟨g0, g1⟩ := hw
  unfold mStored
  simp only [laws_szStored, un, cur0, lenS_eq, binP_sub, wr_left (left := left) g0 h2 h3, binP_lss, iteP_eq, atP_zero, rt_eq, scs_sc, scs_nil, flat_int, true_and, and_true]
  by_cases c0 : ((a.Label.size : Nat) : Int) ≤ left
  rotate_left
  · first | (simp [szr_over c0, show left - ((a.Label.size : Nat) : Int) < 0 by omega]; done) | (simp only [szr_over c0, show left - ((a.Label.size : Nat) : Int) < 0 by omega]; simp)
  simp only [szr_yes c0, szr_add c0, show ¬ (left - ((a.Label.size : Nat) : Int) < 0) by omega, decide_false, Bool.false_eq_true, if_false, laws_szAnswer_n a.Answer (left - ((a.Label.size : Nat) : Int)) g1 (by omega) (by omega), binP_lss, iteP_eq, atP_zero, rt_eq, scs_sc, scs_nil, flat_int, true_and, and_true]
  by_cases c1 : ((mAnswer a.Answer : Nat) : Int) ≤ left - ((a.Label.size : Nat) : Int)
  rotate_left
  · first | (simp [szr_not c1, szr_not c1]; done) | (simp only [szr_not c1, szr_not c1]; simp)
  simp only [szr_yes c1, show ¬ (left - ((a.Label.size : Nat) : Int) - ((mAnswer a.Answer : Nat) : Int) < 0) by omega, decide_false, Bool.false_eq_true, if_false, binP_lss, iteP_eq, atP_zero, rt_eq, scs_sc, scs_nil, flat_int, true_and, and_true]) k
theorem laws_toStored_n (a : GStored) (h : mStored a ≤ 1048576) (k) : call laws_toStored [.agg (eStored a)] k = k (eStored a) := call_of (fun k => by
  unfold mStored at h
  simp [laws_toStored, laws_toAnswer_n a.Answer (by omega)]) k
theorem laws_eqStored_n (a : GStored) (h : mStored a ≤ 1048576) (k) : call laws_eqStored [.agg (eStored a), .agg (eStored a)] k = k [.bool true] := call_of (fun k => by
  unfold mStored at h
  simp [laws_eqStored, laws_eqAnswer_n a.Answer (by omega)]) k
def mStoredS (l : List GStored) : Nat := l.length + sumN mStored l
theorem decStoredS {p : PV} (h : Sh.has (.list [.int .i64, .str, .list [.int .i64, .int .i64, .int .i64, .int .i64, .int .i64, .int .i64, .int .i64, .int .i64, .list [.int .i64], .int .i64, .list [.int .i64], .int .i64, .int .i64, .list [.int .i64], .int .i64, .bool, .list [.int .i64, .int .i64]], .bool, .str, .int .i64, .int .i64, .list [.str], .int .i64, .list [.int .i64], .int .i64, .str, .int .i64, .int .i64, .list [.str], .str, .int .i64, .int .i64, .list [.str], .int .i64, .list [.int .i64], .int .i64, .list [.int .i64]]) p) : ∃ l : List GStored, p = .list 23 (l.map eStored) ∧ (l.length ≤ maxLen ∧ ∀ y ∈ l, WStored y) := by
  obtain ⟨l, h1, h2, h3⟩ := has_map decStored 23 rfl h
  exact ⟨l, h1, h2, h3⟩
theorem laws_szStoredS_n (l : List GStored) (left : Int) (hw : (l.length ≤ maxLen ∧ ∀ y ∈ l, WStored y)) (h2 : 0 ≤ left) (h3 : left ≤ 1048576) (k) : call laws_szStoredS [.one (.list 23 (l.map eStored)), .one (I left)] k = k [I (szr (mStoredS l) left)] := call_of (fun k => by
  simp only [laws_szStoredS, lenP_eq, List.length_map, binP_sub, wr_left hw.1 h2 h3, binP_lss, iteP_eq, rt_eq, scs_sc, scs_nil, flat_int, true_and, and_true]
  unfold mStoredS
  by_cases c : (l.length : Int) ≤ left
  rotate_left
  · simp [szr_over c, show left - (l.length : Int) < 0 by omega]
  simp only [szr_add c, show ¬ (left - (l.length : Int) < 0) by omega, decide_false, Bool.false_eq_true, if_false]
  refine (lp_sz (neg := k [I (-1)]) (fin := fun t => k [I t]) l eStored 23 mStored (left - (l.length : Int)) (I 0) (by omega) (by omega) rfl (fun i x hx hi t ht1 ht2 K => ?_) fun t K => ?_).trans ?_
  · have e := laws_szStored_n x t (hw.2 x (List.mem_of_getElem? hx)) ht1 ht2
    simp [-getElem?_pos, laws_szStoredS_r0, hx, hi, e, wr_succ (show i < 1000000000000000000 by omega)]
    by_cases hs : ((mStored x : Nat) : Int) ≤ t
    · simp [szr_yes hs, hs, show ¬ (t - ((mStored x : Nat) : Int) < 0) by omega]
    · simp [szr_not hs, hs]
  · simp [laws_szStoredS_r0]
  · by_cases hs : ((sumN mStored l : Nat) : Int) ≤ left - (l.length : Int)
    · simp [szr_yes hs, hs]
    · simp [szr_not hs, hs]) k
theorem laws_toStoredS_n (l : List GStored) (h : mStoredS l ≤ 1048576) (k) : call laws_toStoredS [.one (.list 23 (l.map eStored))] k = k [.list 23 (l.map eStored)] := call_of (fun k => by
  have hm := h
  unfold mStoredS at hm
  simp [laws_toStoredS, show l.length < 1073741824 by omega]
  refine lp_toS l eStored eStored [I 0, .str ⟨#[]⟩, .list 17 [], .bool false, .str ⟨#[]⟩, I 0, I 0, .list 1 [], I 0, .list 1 [], I 0, .str ⟨#[]⟩, I 0, I 0, .list 1 [], .str ⟨#[]⟩, I 0, I 0, .list 1 [], I 0, .list 1 [], I 0, .list 1 []] 23 23 (.list 23 []) rfl (fun i x hx hi K rows hr hz => ?_) fun K => ?_
  · have hs : mStored x ≤ sumN mStored l := sumN_mem (s := mStored) (List.mem_of_getElem? hx)
    simp [-getElem?_pos, laws_toStoredS_r0, hx, hi, hr, hz, over, laws_toStored_n x (by omega), wr_succ (show i < 1000000000000000000 by omega)]
  · simp [laws_toStoredS_r0]) k
theorem laws_eqStoredS_n (l : List GStored) (h : mStoredS l ≤ 1048576) (k) : call laws_eqStoredS [.one (.list 23 (l.map eStored)), .one (.list 23 (l.map eStored))] k = k [.bool true] := call_of (fun k => by
  have hm := h
  unfold mStoredS at hm
  simp [laws_eqStoredS]
  refine lp_eqS l eStored 23 (.bool false) rfl (fun i x hx hi K => ?_) fun K => ?_
  · have hs : mStored x ≤ sumN mStored l := sumN_mem (s := mStored) (List.mem_of_getElem? hx)
    simp [-getElem?_pos, laws_eqStoredS_r0, hx, hi, laws_eqStored_n x (by omega), wr_succ (show i < 1000000000000000000 by omega)]
  · simp [laws_eqStoredS_r0]) k
structure GCache where
  Lst : List GStored
abbrev eCache (a : GCache) : List PV := [.list 23 (a.Lst.map eStored)]
def mCache (a : GCache) : Nat := mStoredS a.Lst
def WCache (a : GCache) : Prop := (a.Lst.length ≤ maxLen ∧ ∀ y ∈ a.Lst, WStored y)
theorem decCache (r : List PV) (hr : Sh.hasAll [.list [.int .i64, .str, .list [.int .i64, .int .i64, .int .i64, .int .i64, .int .i64, .int .i64, .int .i64, .int .i64, .list [.int .i64], .int .i64, .list [.int .i64], .int .i64, .int .i64, .list [.int .i64], .int .i64, .bool, .list [.int .i64, .int .i64]], .bool, .str, .int .i64, .int .i64, .list [.str], .int .i64, .list [.int .i64], .int .i64, .str, .int .i64, .int .i64, .list [.str], .str, .int .i64, .int .i64, .list [.str], .int .i64, .list [.int .i64], .int .i64, .list [.int .i64]]] r) : ∃ a : GCache, r = eCache a ∧ WCache a := by
  obtain ⟨p1, rfl, h1⟩ := all_one hr
  obtain ⟨n1, rfl, g1⟩ := decStoredS h1
  exact ⟨⟨n1⟩, rfl, g1⟩
theorem laws_szCache_n (a : GCache) (left : Int) (hw : WCache a) (h2 : 0 ≤ left) (h3 : left ≤ 1048576) (k) : call laws_szCache [.agg (eCache a), .one (I left)] k = k [I (szr (mCache a) left)] := call_of (fun k => by
  have g0 := hw
  unfold mCache
  simp only [laws_szCache, un, cur0, laws_szStoredS_n a.Lst (left) g0 h2 h3, binP_lss, iteP_eq, atP_zero, rt_eq, scs_sc, scs_nil, flat_int, true_and, and_true]
  by_cases c0 : ((mStoredS a.Lst : Nat) : Int) ≤ left
  rotate_left
  · first | (simp [szr_not c0, szr_not c0]; done) | (simp only [szr_not c0, szr_not c0]; simp)
  simp only [szr_yes c0, show ¬ (left - ((mStoredS a.Lst : Nat) : Int) < 0) by omega, decide_false, Bool.false_eq_true, if_false, binP_lss, iteP_eq, atP_zero, rt_eq, scs_sc, scs_nil, flat_int, true_and, and_true]) k
theorem laws_toCache_n (a : GCache) (h : mCache a ≤ 1048576) (k) : call laws_toCache [.agg (eCache a)] k = k (eCache a) := call_of (fun k => by
  unfold mCache at h
  simp [laws_toCache, laws_toStoredS_n a.Lst (by omega)]) k
theorem laws_eqCache_n (a : GCache) (h : mCache a ≤ 1048576) (k) : call laws_eqCache [.agg (eCache a), .agg (eCache a)] k = k [.bool true] := call_of (fun k => by
  unfold mCache at h
  simp [laws_eqCache, laws_eqStoredS_n a.Lst (by omega)]) k
structure GActor where
  Held : List Int
abbrev eActor (a : GActor) : List PV := [ints a.Held]
def mActor (a : GActor) : Nat := a.Held.length
def WActor (a : GActor) : Prop := a.Held.length ≤ maxLen
theorem decActor (r : List PV) (hr : Sh.hasAll [.list [.int .i64]] r) : ∃ a : GActor, r = eActor a ∧ WActor a := by
  obtain ⟨p1, rfl, h1⟩ := all_one hr
  obtain ⟨n1, rfl, g1⟩ := has_ints h1
  exact ⟨⟨n1⟩, rfl, g1⟩
theorem laws_szActor_n (a : GActor) (left : Int) (hw : WActor a) (h2 : 0 ≤ left) (h3 : left ≤ 1048576) (k) : call laws_szActor [.agg (eActor a), .one (I left)] k = k [I (szr (mActor a) left)] := call_of (fun k => by
  have g0 := hw
  unfold mActor
  simp only [laws_szActor, un, cur0, laws_szIntS_n a.Held (left) g0 h2 h3, binP_lss, iteP_eq, atP_zero, rt_eq, scs_sc, scs_nil, flat_int, true_and, and_true]
  by_cases c0 : ((a.Held.length : Nat) : Int) ≤ left
  rotate_left
  · first | (simp [szr_not c0, szr_not c0]; done) | (simp only [szr_not c0, szr_not c0]; simp)
  simp only [szr_yes c0, show ¬ (left - ((a.Held.length : Nat) : Int) < 0) by omega, decide_false, Bool.false_eq_true, if_false, binP_lss, iteP_eq, atP_zero, rt_eq, scs_sc, scs_nil, flat_int, true_and, and_true]) k
theorem laws_toActor_n (a : GActor) (h : mActor a ≤ 1048576) (k) : call laws_toActor [.agg (eActor a)] k = k (eActor a) := call_of (fun k => by
  unfold mActor at h
  simp [laws_toActor, laws_toIntS_n a.Held (by omega)]) k
theorem laws_eqActor_n (a : GActor) (h : mActor a ≤ 1048576) (k) : call laws_eqActor [.agg (eActor a), .agg (eActor a)] k = k [.bool true] := call_of (fun k => by
  unfold mActor at h
  simp [laws_eqActor, laws_eqIntS_n a.Held (by omega)]) k
structure GSaid where
  Zone : GZone
  Held : List Int
abbrev eSaid (a : GSaid) : List PV := [.list 17 (a.Zone.Chain.map eSigned), .list 4 (a.Zone.Entries.map eEntry), ints a.Held]
def mSaid (a : GSaid) : Nat := mZone a.Zone + (a.Held.length)
def WSaid (a : GSaid) : Prop := WZone a.Zone ∧ a.Held.length ≤ maxLen
theorem decSaid (r : List PV) (hr : Sh.hasAll [.list [.int .i64, .int .i64, .int .i64, .int .i64, .int .i64, .int .i64, .int .i64, .int .i64, .list [.int .i64], .int .i64, .list [.int .i64], .int .i64, .int .i64, .list [.int .i64], .int .i64, .bool, .list [.int .i64, .int .i64]], .list [.str, .int .i64, .int .i64, .list [.str]], .list [.int .i64]] r) : ∃ a : GSaid, r = eSaid a ∧ WSaid a := by
  obtain ⟨p1, r1, rfl, h1, hr1⟩ := all_cons hr
  obtain ⟨n1, rfl, g1⟩ := decSignedS h1
  obtain ⟨p2, r2, rfl, h2, hr2⟩ := all_cons hr1
  obtain ⟨n2, rfl, g2⟩ := decEntryS h2
  obtain ⟨p3, rfl, h3⟩ := all_one hr2
  obtain ⟨n3, rfl, g3⟩ := has_ints h3
  exact ⟨⟨⟨n1, n2⟩, n3⟩, rfl, ⟨⟨g1, g2⟩, g3⟩⟩
theorem laws_szSaid_n (a : GSaid) (left : Int) (hw : WSaid a) (h2 : 0 ≤ left) (h3 : left ≤ 1048576) (k) : call laws_szSaid [.agg (eSaid a), .one (I left)] k = k [I (szr (mSaid a) left)] := call_of (fun k => by
  obtain ⟨g0, g1⟩ := hw
  unfold mSaid
  simp only [laws_szSaid, un, cur0, laws_szZone_n a.Zone (left) g0 h2 h3, binP_lss, iteP_eq, atP_zero, rt_eq, scs_sc, scs_nil, flat_int, true_and, and_true]
  by_cases c0 : ((mZone a.Zone : Nat) : Int) ≤ left
  rotate_left
  · first | (simp [szr_over c0, szr_not c0]; done) | (simp only [szr_over c0, szr_not c0]; simp)
  simp only [szr_yes c0, szr_add c0, show ¬ (left - ((mZone a.Zone : Nat) : Int) < 0) by omega, decide_false, Bool.false_eq_true, if_false, laws_szIntS_n a.Held (left - ((mZone a.Zone : Nat) : Int)) g1 (by omega) (by omega), binP_lss, iteP_eq, atP_zero, rt_eq, scs_sc, scs_nil, flat_int, true_and, and_true]
  by_cases c1 : ((a.Held.length : Nat) : Int) ≤ left - ((mZone a.Zone : Nat) : Int)
  rotate_left
  · first | (simp [szr_not c1, szr_not c1]; done) | (simp only [szr_not c1, szr_not c1]; simp)
  simp only [szr_yes c1, show ¬ (left - ((mZone a.Zone : Nat) : Int) - ((a.Held.length : Nat) : Int) < 0) by omega, decide_false, Bool.false_eq_true, if_false, binP_lss, iteP_eq, atP_zero, rt_eq, scs_sc, scs_nil, flat_int, true_and, and_true]) k
theorem laws_toSaid_n (a : GSaid) (h : mSaid a ≤ 1048576) (k) : call laws_toSaid [.agg (eSaid a)] k = k (eSaid a) := call_of (fun k => by
  unfold mSaid at h
  simp [laws_toSaid, laws_toZone_n a.Zone (by omega), laws_toIntS_n a.Held (by omega)]) k
theorem laws_eqSaid_n (a : GSaid) (h : mSaid a ≤ 1048576) (k) : call laws_eqSaid [.agg (eSaid a), .agg (eSaid a)] k = k [.bool true] := call_of (fun k => by
  unfold mSaid at h
  simp [laws_eqSaid, laws_eqZone_n a.Zone (by omega), laws_eqIntS_n a.Held (by omega)]) k
def mActorS (l : List GActor) : Nat := l.length + sumN mActor l
theorem decActorS {p : PV} (h : Sh.has (.list [.list [.int .i64]]) p) : ∃ l : List GActor, p = .list 1 (l.map eActor) ∧ (l.length ≤ maxLen ∧ ∀ y ∈ l, WActor y) := by
  obtain ⟨l, h1, h2, h3⟩ := has_map decActor 1 rfl h
  exact ⟨l, h1, h2, h3⟩
theorem laws_szActorS_n (l : List GActor) (left : Int) (hw : (l.length ≤ maxLen ∧ ∀ y ∈ l, WActor y)) (h2 : 0 ≤ left) (h3 : left ≤ 1048576) (k) : call laws_szActorS [.one (.list 1 (l.map eActor)), .one (I left)] k = k [I (szr (mActorS l) left)] := call_of (fun k => by
  simp only [laws_szActorS, lenP_eq, List.length_map, binP_sub, wr_left hw.1 h2 h3, binP_lss, iteP_eq, rt_eq, scs_sc, scs_nil, flat_int, true_and, and_true]
  unfold mActorS
  by_cases c : (l.length : Int) ≤ left
  rotate_left
  · simp [szr_over c, show left - (l.length : Int) < 0 by omega]
  simp only [szr_add c, show ¬ (left - (l.length : Int) < 0) by omega, decide_false, Bool.false_eq_true, if_false]
  refine (lp_sz (neg := k [I (-1)]) (fin := fun t => k [I t]) l eActor 1 mActor (left - (l.length : Int)) (I 0) (by omega) (by omega) rfl (fun i x hx hi t ht1 ht2 K => ?_) fun t K => ?_).trans ?_
  · have e := laws_szActor_n x t (hw.2 x (List.mem_of_getElem? hx)) ht1 ht2
    simp [-getElem?_pos, laws_szActorS_r0, hx, hi, e, wr_succ (show i < 1000000000000000000 by omega)]
    by_cases hs : ((mActor x : Nat) : Int) ≤ t
    · simp [szr_yes hs, hs, show ¬ (t - ((mActor x : Nat) : Int) < 0) by omega]
    · simp [szr_not hs, hs]
  · simp [laws_szActorS_r0]
  · by_cases hs : ((sumN mActor l : Nat) : Int) ≤ left - (l.length : Int)
    · simp [szr_yes hs, hs]
    · simp [szr_not hs, hs]) k
theorem laws_toActorS_n (l : List GActor) (h : mActorS l ≤ 1048576) (k) : call laws_toActorS [.one (.list 1 (l.map eActor))] k = k [.list 1 (l.map eActor)] := call_of (fun k => by
  have hm := h
  unfold mActorS at hm
  simp [laws_toActorS, show l.length < 1073741824 by omega]
  refine lp_toS l eActor eActor [.list 1 []] 1 1 (.list 1 []) rfl (fun i x hx hi K rows hr hz => ?_) fun K => ?_
  · have hs : mActor x ≤ sumN mActor l := sumN_mem (s := mActor) (List.mem_of_getElem? hx)
    simp [-getElem?_pos, laws_toActorS_r0, hx, hi, hr, hz, over, laws_toActor_n x (by omega), wr_succ (show i < 1000000000000000000 by omega)]
  · simp [laws_toActorS_r0]) k
theorem laws_eqActorS_n (l : List GActor) (h : mActorS l ≤ 1048576) (k) : call laws_eqActorS [.one (.list 1 (l.map eActor)), .one (.list 1 (l.map eActor))] k = k [.bool true] := call_of (fun k => by
  have hm := h
  unfold mActorS at hm
  simp [laws_eqActorS]
  refine lp_eqS l eActor 1 (.bool false) rfl (fun i x hx hi K => ?_) fun K => ?_
  · have hs : mActor x ≤ sumN mActor l := sumN_mem (s := mActor) (List.mem_of_getElem? hx)
    simp [-getElem?_pos, laws_eqActorS_r0, hx, hi, laws_eqActor_n x (by omega), wr_succ (show i < 1000000000000000000 by omega)]
  · simp [laws_eqActorS_r0]) k
def mSaidS (l : List GSaid) : Nat := l.length + sumN mSaid l
theorem decSaidS {p : PV} (h : Sh.has (.list [.list [.int .i64, .int .i64, .int .i64, .int .i64, .int .i64, .int .i64, .int .i64, .int .i64, .list [.int .i64], .int .i64, .list [.int .i64], .int .i64, .int .i64, .list [.int .i64], .int .i64, .bool, .list [.int .i64, .int .i64]], .list [.str, .int .i64, .int .i64, .list [.str]], .list [.int .i64]]) p) : ∃ l : List GSaid, p = .list 3 (l.map eSaid) ∧ (l.length ≤ maxLen ∧ ∀ y ∈ l, WSaid y) := by
  obtain ⟨l, h1, h2, h3⟩ := has_map decSaid 3 rfl h
  exact ⟨l, h1, h2, h3⟩
theorem laws_szSaidS_n (l : List GSaid) (left : Int) (hw : (l.length ≤ maxLen ∧ ∀ y ∈ l, WSaid y)) (h2 : 0 ≤ left) (h3 : left ≤ 1048576) (k) : call laws_szSaidS [.one (.list 3 (l.map eSaid)), .one (I left)] k = k [I (szr (mSaidS l) left)] := call_of (fun k => by
  simp only [laws_szSaidS, lenP_eq, List.length_map, binP_sub, wr_left hw.1 h2 h3, binP_lss, iteP_eq, rt_eq, scs_sc, scs_nil, flat_int, true_and, and_true]
  unfold mSaidS
  by_cases c : (l.length : Int) ≤ left
  rotate_left
  · simp [szr_over c, show left - (l.length : Int) < 0 by omega]
  simp only [szr_add c, show ¬ (left - (l.length : Int) < 0) by omega, decide_false, Bool.false_eq_true, if_false]
  refine (lp_sz (neg := k [I (-1)]) (fin := fun t => k [I t]) l eSaid 3 mSaid (left - (l.length : Int)) (I 0) (by omega) (by omega) rfl (fun i x hx hi t ht1 ht2 K => ?_) fun t K => ?_).trans ?_
  · have e := laws_szSaid_n x t (hw.2 x (List.mem_of_getElem? hx)) ht1 ht2
    simp [-getElem?_pos, laws_szSaidS_r0, hx, hi, e, wr_succ (show i < 1000000000000000000 by omega)]
    by_cases hs : ((mSaid x : Nat) : Int) ≤ t
    · simp [szr_yes hs, hs, show ¬ (t - ((mSaid x : Nat) : Int) < 0) by omega]
    · simp [szr_not hs, hs]
  · simp [laws_szSaidS_r0]
  · by_cases hs : ((sumN mSaid l : Nat) : Int) ≤ left - (l.length : Int)
    · simp [szr_yes hs, hs]
    · simp [szr_not hs, hs]) k
theorem laws_toSaidS_n (l : List GSaid) (h : mSaidS l ≤ 1048576) (k) : call laws_toSaidS [.one (.list 3 (l.map eSaid))] k = k [.list 3 (l.map eSaid)] := call_of (fun k => by
  have hm := h
  unfold mSaidS at hm
  simp [laws_toSaidS, show l.length < 1073741824 by omega]
  refine lp_toS l eSaid eSaid [.list 17 [], .list 4 [], .list 1 []] 3 3 (.list 3 []) rfl (fun i x hx hi K rows hr hz => ?_) fun K => ?_
  · have hs : mSaid x ≤ sumN mSaid l := sumN_mem (s := mSaid) (List.mem_of_getElem? hx)
    simp [-getElem?_pos, laws_toSaidS_r0, hx, hi, hr, hz, over, laws_toSaid_n x (by omega), wr_succ (show i < 1000000000000000000 by omega)]
  · simp [laws_toSaidS_r0]) k
theorem laws_eqSaidS_n (l : List GSaid) (h : mSaidS l ≤ 1048576) (k) : call laws_eqSaidS [.one (.list 3 (l.map eSaid)), .one (.list 3 (l.map eSaid))] k = k [.bool true] := call_of (fun k => by
  have hm := h
  unfold mSaidS at hm
  simp [laws_eqSaidS]
  refine lp_eqS l eSaid 3 (.bool false) rfl (fun i x hx hi K => ?_) fun K => ?_
  · have hs : mSaid x ≤ sumN mSaid l := sumN_mem (s := mSaid) (List.mem_of_getElem? hx)
    simp [-getElem?_pos, laws_eqSaidS_r0, hx, hi, laws_eqSaid_n x (by omega), wr_succ (show i < 1000000000000000000 by omega)]
  · simp [laws_eqSaidS_r0]) k
def mServerS (l : List GServer) : Nat := l.length + sumN mServer l
theorem decServerS {p : PV} (h : Sh.has (.list [.list [.list [.int .i64, .int .i64, .int .i64, .int .i64, .int .i64, .int .i64, .int .i64, .int .i64, .list [.int .i64], .int .i64, .list [.int .i64], .int .i64, .int .i64, .list [.int .i64], .int .i64, .bool, .list [.int .i64, .int .i64]], .list [.str, .int .i64, .int .i64, .list [.str]]], .int .i64]) p) : ∃ l : List GServer, p = .list 2 (l.map eServer) ∧ (l.length ≤ maxLen ∧ ∀ y ∈ l, WServer y) := by
  obtain ⟨l, h1, h2, h3⟩ := has_map decServer 2 rfl h
  exact ⟨l, h1, h2, h3⟩
theorem laws_szServerS_n (l : List GServer) (left : Int) (hw : (l.length ≤ maxLen ∧ ∀ y ∈ l, WServer y)) (h2 : 0 ≤ left) (h3 : left ≤ 1048576) (k) : call laws_szServerS [.one (.list 2 (l.map eServer)), .one (I left)] k = k [I (szr (mServerS l) left)] := call_of (fun k => by
  simp only [laws_szServerS, lenP_eq, List.length_map, binP_sub, wr_left hw.1 h2 h3, binP_lss, iteP_eq, rt_eq, scs_sc, scs_nil, flat_int, true_and, and_true]
  unfold mServerS
  by_cases c : (l.length : Int) ≤ left
  rotate_left
  · simp [szr_over c, show left - (l.length : Int) < 0 by omega]
  simp only [szr_add c, show ¬ (left - (l.length : Int) < 0) by omega, decide_false, Bool.false_eq_true, if_false]
  refine (lp_sz (neg := k [I (-1)]) (fin := fun t => k [I t]) l eServer 2 mServer (left - (l.length : Int)) (I 0) (by omega) (by omega) rfl (fun i x hx hi t ht1 ht2 K => ?_) fun t K => ?_).trans ?_
  · have e := laws_szServer_n x t (hw.2 x (List.mem_of_getElem? hx)) ht1 ht2
    simp [-getElem?_pos, laws_szServerS_r0, hx, hi, e, wr_succ (show i < 1000000000000000000 by omega)]
    by_cases hs : ((mServer x : Nat) : Int) ≤ t
    · simp [szr_yes hs, hs, show ¬ (t - ((mServer x : Nat) : Int) < 0) by omega]
    · simp [szr_not hs, hs]
  · simp [laws_szServerS_r0]
  · by_cases hs : ((sumN mServer l : Nat) : Int) ≤ left - (l.length : Int)
    · simp [szr_yes hs, hs]
    · simp [szr_not hs, hs]) k
theorem laws_toServerS_n (l : List GServer) (h : mServerS l ≤ 1048576) (k) : call laws_toServerS [.one (.list 2 (l.map eServer))] k = k [.list 2 (l.map eServer)] := call_of (fun k => by
  have hm := h
  unfold mServerS at hm
  simp [laws_toServerS, show l.length < 1073741824 by omega]
  refine lp_toS l eServer eServer [.list 2 [], I 0] 2 2 (.list 2 []) rfl (fun i x hx hi K rows hr hz => ?_) fun K => ?_
  · have hs : mServer x ≤ sumN mServer l := sumN_mem (s := mServer) (List.mem_of_getElem? hx)
    simp [-getElem?_pos, laws_toServerS_r0, hx, hi, hr, hz, over, laws_toServer_n x (by omega), wr_succ (show i < 1000000000000000000 by omega)]
  · simp [laws_toServerS_r0]) k
theorem laws_eqServerS_n (l : List GServer) (h : mServerS l ≤ 1048576) (k) : call laws_eqServerS [.one (.list 2 (l.map eServer)), .one (.list 2 (l.map eServer))] k = k [.bool true] := call_of (fun k => by
  have hm := h
  unfold mServerS at hm
  simp [laws_eqServerS]
  refine lp_eqS l eServer 2 (.bool false) rfl (fun i x hx hi K => ?_) fun K => ?_
  · have hs : mServer x ≤ sumN mServer l := sumN_mem (s := mServer) (List.mem_of_getElem? hx)
    simp [-getElem?_pos, laws_eqServerS_r0, hx, hi, laws_eqServer_n x (by omega), wr_succ (show i < 1000000000000000000 by omega)]
  · simp [laws_eqServerS_r0]) k
structure GWorld where
  Now : Int
  Actors : List GActor
  Zones : List GZone
  Said : List GSaid
  Servers : List GServer
  Known : GKnown
  Cache : GCache
abbrev eWorld (a : GWorld) : List PV := [I a.Now, .list 1 (a.Actors.map eActor), .list 2 (a.Zones.map eZone), .list 3 (a.Said.map eSaid), .list 2 (a.Servers.map eServer), .list 1 (a.Known.Chains.map (fun l : List GSigned => [.list 17 (l.map eSigned)])), .list 51 (a.Known.Forks.map eFork), .list 23 (a.Cache.Lst.map eStored)]
def mWorld (a : GWorld) : Nat := mActorS a.Actors + (mZoneS a.Zones + (mSaidS a.Said + (mServerS a.Servers + (mKnown a.Known + (mCache a.Cache)))))
def WWorld (a : GWorld) : Prop := (a.Actors.length ≤ maxLen ∧ ∀ y ∈ a.Actors, WActor y) ∧ (a.Zones.length ≤ maxLen ∧ ∀ y ∈ a.Zones, WZone y) ∧ (a.Said.length ≤ maxLen ∧ ∀ y ∈ a.Said, WSaid y) ∧ (a.Servers.length ≤ maxLen ∧ ∀ y ∈ a.Servers, WServer y) ∧ WKnown a.Known ∧ WCache a.Cache
theorem decWorld (r : List PV) (hr : Sh.hasAll [.int .i64, .list [.list [.int .i64]], .list [.list [.int .i64, .int .i64, .int .i64, .int .i64, .int .i64, .int .i64, .int .i64, .int .i64, .list [.int .i64], .int .i64, .list [.int .i64], .int .i64, .int .i64, .list [.int .i64], .int .i64, .bool, .list [.int .i64, .int .i64]], .list [.str, .int .i64, .int .i64, .list [.str]]], .list [.list [.int .i64, .int .i64, .int .i64, .int .i64, .int .i64, .int .i64, .int .i64, .int .i64, .list [.int .i64], .int .i64, .list [.int .i64], .int .i64, .int .i64, .list [.int .i64], .int .i64, .bool, .list [.int .i64, .int .i64]], .list [.str, .int .i64, .int .i64, .list [.str]], .list [.int .i64]], .list [.list [.list [.int .i64, .int .i64, .int .i64, .int .i64, .int .i64, .int .i64, .int .i64, .int .i64, .list [.int .i64], .int .i64, .list [.int .i64], .int .i64, .int .i64, .list [.int .i64], .int .i64, .bool, .list [.int .i64, .int .i64]], .list [.str, .int .i64, .int .i64, .list [.str]]], .int .i64], .list [.list [.int .i64, .int .i64, .int .i64, .int .i64, .int .i64, .int .i64, .int .i64, .int .i64, .list [.int .i64], .int .i64, .list [.int .i64], .int .i64, .int .i64, .list [.int .i64], .int .i64, .bool, .list [.int .i64, .int .i64]]], .list [.int .i64, .int .i64, .int .i64, .int .i64, .int .i64, .int .i64, .int .i64, .int .i64, .list [.int .i64], .int .i64, .list [.int .i64], .int .i64, .int .i64, .list [.int .i64], .int .i64, .bool, .list [.int .i64, .int .i64], .int .i64, .int .i64, .int .i64, .int .i64, .int .i64, .int .i64, .int .i64, .int .i64, .list [.int .i64], .int .i64, .list [.int .i64], .int .i64, .int .i64, .list [.int .i64], .int .i64, .bool, .list [.int .i64, .int .i64], .int .i64, .int .i64, .int .i64, .int .i64, .int .i64, .int .i64, .int .i64, .int .i64, .list [.int .i64], .int .i64, .list [.int .i64], .int .i64, .int .i64, .list [.int .i64], .int .i64, .bool, .list [.int .i64, .int .i64]], .list [.int .i64, .str, .list [.int .i64, .int .i64, .int .i64, .int .i64, .int .i64, .int .i64, .int .i64, .int .i64, .list [.int .i64], .int .i64, .list [.int .i64], .int .i64, .int .i64, .list [.int .i64], .int .i64, .bool, .list [.int .i64, .int .i64]], .bool, .str, .int .i64, .int .i64, .list [.str], .int .i64, .list [.int .i64], .int .i64, .str, .int .i64, .int .i64, .list [.str], .str, .int .i64, .int .i64, .list [.str], .int .i64, .list [.int .i64], .int .i64, .list [.int .i64]]] r) : ∃ a : GWorld, r = eWorld a ∧ WWorld a := by
  obtain ⟨p1, r1, rfl, h1, hr1⟩ := all_cons hr
  obtain ⟨n1, rfl⟩ := has_int h1
  obtain ⟨p2, r2, rfl, h2, hr2⟩ := all_cons hr1
  obtain ⟨n2, rfl, g2⟩ := decActorS h2
  obtain ⟨p3, r3, rfl, h3, hr3⟩ := all_cons hr2
  obtain ⟨n3, rfl, g3⟩ := decZoneS h3
  obtain ⟨p4, r4, rfl, h4, hr4⟩ := all_cons hr3
  obtain ⟨n4, rfl, g4⟩ := decSaidS h4
  obtain ⟨p5, r5, rfl, h5, hr5⟩ := all_cons hr4
  obtain ⟨n5, rfl, g5⟩ := decServerS h5
  obtain ⟨p6, r6, rfl, h6, hr6⟩ := all_cons hr5
  obtain ⟨n6, rfl, g6⟩ := decSignedSS h6
  obtain ⟨p7, r7, rfl, h7, hr7⟩ := all_cons hr6
  obtain ⟨n7, rfl, g7⟩ := decForkS h7
  obtain ⟨p8, rfl, h8⟩ := all_one hr7
  obtain ⟨n8, rfl, g8⟩ := decStoredS h8
  exact ⟨⟨n1, n2, n3, n4, n5, ⟨n6, n7⟩, ⟨n8⟩⟩, rfl, ⟨g2, g3, g4, g5, ⟨g6, g7⟩, g8⟩⟩
theorem laws_szWorld_n (a : GWorld) (left : Int) (hw : WWorld a) (h2 : 0 ≤ left) (h3 : left ≤ 1048576) (k) : call laws_szWorld [.agg (eWorld a), .one (I left)] k = k [I (szr (mWorld a) left)] := call_of (fun k => by
  obtain ⟨g0, g1, g2, g3, g4, g5⟩ := hw
  unfold mWorld
  simp only [laws_szWorld, un, cur0, laws_szActorS_n a.Actors (left) g0 h2 h3, binP_lss, iteP_eq, atP_zero, rt_eq, scs_sc, scs_nil, flat_int, true_and, and_true]
  by_cases c0 : ((mActorS a.Actors : Nat) : Int) ≤ left
  rotate_left
  · first | (simp [szr_over c0, szr_not c0]; done) | (simp only [szr_over c0, szr_not c0]; simp)
  simp only [szr_yes c0, szr_add c0, show ¬ (left - ((mActorS a.Actors : Nat) : Int) < 0) by omega, decide_false, Bool.false_eq_true, if_false, laws_szZoneS_n a.Zones (left - ((mActorS a.Actors : Nat) : Int)) g1 (by omega) (by omega), binP_lss, iteP_eq, atP_zero, rt_eq, scs_sc, scs_nil, flat_int, true_and, and_true]
  by_cases c1 : ((mZoneS a.Zones : Nat) : Int) ≤ left - ((mActorS a.Actors : Nat) : Int)
  rotate_left
  · first | (simp [szr_over c1, szr_not c1]; done) | (simp only [szr_over c1, szr_not c1]; simp)
  simp only [szr_yes c1, szr_add c1, show ¬ (left - ((mActorS a.Actors : Nat) : Int) - ((mZoneS a.Zones : Nat) : Int) < 0) by omega, decide_false, Bool.false_eq_true, if_false, laws_szSaidS_n a.Said (left - ((mActorS a.Actors : Nat) : Int) - ((mZoneS a.Zones : Nat) : Int)) g2 (by omega) (by omega), binP_lss, iteP_eq, atP_zero, rt_eq, scs_sc, scs_nil, flat_int, true_and, and_true]
  by_cases c2 : ((mSaidS a.Said : Nat) : Int) ≤ left - ((mActorS a.Actors : Nat) : Int) - ((mZoneS a.Zones : Nat) : Int)
  rotate_left
  · first | (simp [szr_over c2, szr_not c2]; done) | (simp only [szr_over c2, szr_not c2]; simp)
  simp only [szr_yes c2, szr_add c2, show ¬ (left - ((mActorS a.Actors : Nat) : Int) - ((mZoneS a.Zones : Nat) : Int) - ((mSaidS a.Said : Nat) : Int) < 0) by omega, decide_false, Bool.false_eq_true, if_false, laws_szServerS_n a.Servers (left - ((mActorS a.Actors : Nat) : Int) - ((mZoneS a.Zones : Nat) : Int) - ((mSaidS a.Said : Nat) : Int)) g3 (by omega) (by omega), binP_lss, iteP_eq, atP_zero, rt_eq, scs_sc, scs_nil, flat_int, true_and, and_true]
  by_cases c3 : ((mServerS a.Servers : Nat) : Int) ≤ left - ((mActorS a.Actors : Nat) : Int) - ((mZoneS a.Zones : Nat) : Int) - ((mSaidS a.Said : Nat) : Int)
  rotate_left
  · first | (simp [szr_over c3, szr_not c3]; done) | (simp only [szr_over c3, szr_not c3]; simp)
  simp only [szr_yes c3, szr_add c3, show ¬ (left - ((mActorS a.Actors : Nat) : Int) - ((mZoneS a.Zones : Nat) : Int) - ((mSaidS a.Said : Nat) : Int) - ((mServerS a.Servers : Nat) : Int) < 0) by omega, decide_false, Bool.false_eq_true, if_false, laws_szKnown_n a.Known (left - ((mActorS a.Actors : Nat) : Int) - ((mZoneS a.Zones : Nat) : Int) - ((mSaidS a.Said : Nat) : Int) - ((mServerS a.Servers : Nat) : Int)) g4 (by omega) (by omega), binP_lss, iteP_eq, atP_zero, rt_eq, scs_sc, scs_nil, flat_int, true_and, and_true]
  by_cases c4 : ((mKnown a.Known : Nat) : Int) ≤ left - ((mActorS a.Actors : Nat) : Int) - ((mZoneS a.Zones : Nat) : Int) - ((mSaidS a.Said : Nat) : Int) - ((mServerS a.Servers : Nat) : Int)
  rotate_left
  · first | (simp [szr_over c4, szr_not c4]; done) | (simp only [szr_over c4, szr_not c4]; simp)
  simp only [szr_yes c4, szr_add c4, show ¬ (left - ((mActorS a.Actors : Nat) : Int) - ((mZoneS a.Zones : Nat) : Int) - ((mSaidS a.Said : Nat) : Int) - ((mServerS a.Servers : Nat) : Int) - ((mKnown a.Known : Nat) : Int) < 0) by omega, decide_false, Bool.false_eq_true, if_false, laws_szCache_n a.Cache (left - ((mActorS a.Actors : Nat) : Int) - ((mZoneS a.Zones : Nat) : Int) - ((mSaidS a.Said : Nat) : Int) - ((mServerS a.Servers : Nat) : Int) - ((mKnown a.Known : Nat) : Int)) g5 (by omega) (by omega), binP_lss, iteP_eq, atP_zero, rt_eq, scs_sc, scs_nil, flat_int, true_and, and_true]
  by_cases c5 : ((mCache a.Cache : Nat) : Int) ≤ left - ((mActorS a.Actors : Nat) : Int) - ((mZoneS a.Zones : Nat) : Int) - ((mSaidS a.Said : Nat) : Int) - ((mServerS a.Servers : Nat) : Int) - ((mKnown a.Known : Nat) : Int)
  rotate_left
  · first | (simp [szr_not c5, szr_not c5]; done) | (simp only [szr_not c5, szr_not c5]; simp)
  simp only [szr_yes c5, show ¬ (left - ((mActorS a.Actors : Nat) : Int) - ((mZoneS a.Zones : Nat) : Int) - ((mSaidS a.Said : Nat) : Int) - ((mServerS a.Servers : Nat) : Int) - ((mKnown a.Known : Nat) : Int) - ((mCache a.Cache : Nat) : Int) < 0) by omega, decide_false, Bool.false_eq_true, if_false, binP_lss, iteP_eq, atP_zero, rt_eq, scs_sc, scs_nil, flat_int, true_and, and_true]) k
theorem laws_toWorld_n (a : GWorld) (h : mWorld a ≤ 1048576) (k) : call laws_toWorld [.agg (eWorld a)] k = k (eWorld a) := call_of (fun k => by
  unfold mWorld at h
  simp [laws_toWorld, laws_toActorS_n a.Actors (by omega), laws_toZoneS_n a.Zones (by omega), laws_toSaidS_n a.Said (by omega), laws_toServerS_n a.Servers (by omega), laws_toKnown_n a.Known (by omega), laws_toCache_n a.Cache (by omega)]) k
theorem laws_eqWorld_n (a : GWorld) (h : mWorld a ≤ 1048576) (k) : call laws_eqWorld [.agg (eWorld a), .agg (eWorld a)] k = k [.bool true] := call_of (fun k => by
  unfold mWorld at h
  simp [laws_eqWorld, laws_eqActorS_n a.Actors (by omega), laws_eqZoneS_n a.Zones (by omega), laws_eqSaidS_n a.Said (by omega), laws_eqServerS_n a.Servers (by omega), laws_eqKnown_n a.Known (by omega), laws_eqCache_n a.Cache (by omega)]) k
end Go.Ev
set_option linter.unusedVariables false
set_option linter.unusedSimpArgs false
set_option maxRecDepth 4000
namespace Go.Ev
open Go.Proofs
def inR (n a b : Int) : Bool := decide (a ≤ n) && decide (n ≤ b)
theorem impl_InRange_n (n a b : Int) (k) : call impl_InRange [.one (I n), .one (I a), .one (I b)] k = k [.bool (inR n a b)] := call_of (fun k => by
  simp [impl_InRange, inR]; split <;> simp [*]) k
theorem spec_l1In_n (n a b : Int) (k) : call spec_l1In [.one (I n), .one (I a), .one (I b)] k = k [.bool (inR n a b)] := call_of (fun k => by
  simp [spec_l1In, inR]; split <;> simp [*]) k
def sMod (n m : Int) : Int := if inR m 1 1000000000000 = true then (wr (n.tmod m + m)).tmod m else 0
theorem impl_Mod_n (n m : Int) (k) : call impl_Mod [.one (I n), .one (I m)] k = k [I (sMod n m)] := call_of (fun k => by
  simp [impl_Mod, sMod, impl_InRange_n]
  cases h : inR m 1 1000000000000
  · simp
  · have : m ≠ 0 := by simp [inR] at h; omega
    simp [this]) k
theorem spec_Mod_n (n m : Int) (k) : call spec_Mod [.one (I n), .one (I m)] k = k [I (sMod n m)] := call_of (fun k => by
  simp [spec_Mod, sMod, spec_l1In_n]
  cases h : inR m 1 1000000000000
  · simp
  · have : m ≠ 0 := by simp [inR] at h; omega
    simp [this]) k
def hashStep (acc v : Int) : Int := (wr (wr (wr (acc * 1000003) + sMod v 2147483647) + 13)).tmod 2147483647
def sHash (l : List Int) : Int := l.foldl hashStep 11
theorem impl_Hash_n (l : List Int) (hl : l.length < 1000000000000000000) (k) : call impl_Hash [.one (ints l)] k = k [I (sHash l)] := call_of (fun k => by
  simp [impl_Hash]
  refine lp_list l (fun i => [I 0, I ((l.take i).foldl hashStep 11), ints l, I l.length, I i]) rfl (fun i x hx hi K => ?_) fun K => ?_
  · simp [-getElem?_pos, impl_Hash_r0, hi, hx, impl_Mod_n, take_snoc hx, wr_succ (show i < 1000000000000000000 by omega), hashStep]
  · simp [impl_Hash_r0, sHash]) k
theorem spec_Hash_n (l : List Int) (hl : l.length < 1000000000000000000) (k) : call spec_Hash [.one (ints l)] k = k [I (sHash l)] := call_of (fun k => by
  simp [spec_Hash]
  refine lp_list l (fun i => [ints l, I 0, I ((l.take i).foldl hashStep 11), I i]) rfl (fun i x hx hi K => ?_) fun K => ?_
  · simp [-getElem?_pos, spec_Hash_r0, hi, hx, spec_Mod_n, take_snoc hx, wr_succ (show i < 1000000000000000000 by omega), hashStep]
  · simp [spec_Hash_r0, sHash]) k
def b2i (b : UInt8) : Int := b.toNat
def sB2I (s : List UInt8) : List Int := (s.length : Int) :: s.map b2i
theorem impl_BytesToInts_n (s : List UInt8) (hl : s.length < 1000000000) (k) : call impl_BytesToInts [.one (byts s)] k = k [ints (sB2I s)] := call_of (fun k => by
  simp [impl_BytesToInts]
  refine lp_list s (fun i => [byts s, I s.length, I i, .list 1 [], ints ((s.length : Int) :: (s.take i).map b2i)]) (by simp) (fun i x hx hi K => ?_) fun K => ?_
  · have h2 : min i s.length = i := by omega
    simp [-getElem?_pos, impl_BytesToInts_r0, hi, hx, take_snoc hx, wr_succ (show i < 1000000000000000000 by omega), b2i, h2]
    rw [and_iff_right (by omega)]
    simp [ints, rI, Function.comp_def]
  · simp [impl_BytesToInts_r0, sB2I]) k
theorem spec_BytesToInts_n (s : List UInt8) (hl : s.length < 1000000000) (k) : call spec_BytesToInts [.one (byts s)] k = k [ints (sB2I s)] := call_of (fun k => by
  simp [spec_BytesToInts]
  refine lp_list s (fun i => [byts s, I i, .list 1 [], ints ((s.length : Int) :: (s.take i).map b2i)]) (by simp) (fun i x hx hi K => ?_) fun K => ?_
  · have h2 : min i s.length = i := by omega
    simp [-getElem?_pos, spec_BytesToInts_r0, hi, hx, take_snoc hx, wr_succ (show i < 1000000000000000000 by omega), b2i, h2]
    rw [and_iff_right (by omega)]
    simp [ints, rI, Function.comp_def]
  · simp [spec_BytesToInts_r0, sB2I]) k
def sLabelInts (s : ByteArray) : List Int := sB2I s.data.toList
theorem impl_LabelInts_n (s : ByteArray) (hl : s.size < 1000000000) (k) : call impl_LabelInts [.one (.str s)] k = k [ints (sLabelInts s)] := call_of (fun k => by
  simp [impl_LabelInts, impl_BytesToInts_n _ (show s.data.toList.length < 1000000000 by simpa using hl), sLabelInts]) k
theorem spec_LabelInts_n (s : ByteArray) (hl : s.size < 1000000000) (k) : call spec_LabelInts [.one (.str s)] k = k [ints (sLabelInts s)] := call_of (fun k => by
  simp [spec_LabelInts, spec_BytesToInts_n _ (show s.data.toList.length < 1000000000 by simpa using hl), sLabelInts]) k
theorem sLabelInts_len (s : ByteArray) : (sLabelInts s).length = s.size + 1 := by simp [sLabelInts, sB2I]
theorem mem_get {α : Type} {l : List α} {i : Nat} {x : α} (h : l[i]? = some x) : x ∈ l := List.mem_of_getElem? h
theorem wr_pred {i : Nat} (h0 : 0 < i) (h : i < 1000000000000000000) : IntKind.i64.wrap ((i : Int) - 1) = ((i - 1 : Nat) : Int) := by
  rw [wr_eq (by omega) (by omega)]; omega
theorem getD_get {α : Type} {l : List α} {i : Nat} (d : α) (h : i < l.length) : l[i]? = some (l.getD i d) := by
  rw [List.getD_eq_getElem?_getD, List.getElem?_eq_getElem h]; rfl
def at0 (l : List Int) (i : Nat) : Int := l.getD i 0
theorem at0_get {l : List Int} {i : Nat} (h : i < l.length) : l[i]? = some (at0 l i) := getD_get 0 h
def ascP (l : List Int) (i : Nat) (x : Int) : Bool := decide (0 < i) && decide (x ≤ at0 l (i - 1))
def sAsc (l : List Int) : Bool := !anyI (ascP l) 0 l
theorem impl_ascending_n (l : List Int) (h : l.length < 1073741824) (k) : call impl_ascending [.one (ints l)] k = k [.bool (sAsc l)] := call_of (fun k => by
  simp [impl_ascending]
  have := lp_anyIk (R := fun L w => impl_ascending_r0 w L (k [.bool false]) fun q8 q9 q10 q11 => k [.bool true]) k false l (fun i => [ints l, .bool false, I l.length, I i]) (ascP l) rfl (fun i x hx hi K => ?_) fun K => ?_
  · simpa [sAsc] using this
  · by_cases h0 : 0 < i
    · have hp := at0_get (l := l) (show i - 1 < l.length by omega)
      simp [-getElem?_pos, impl_ascending_r0, hx, hi, h0, wr_pred h0 (show i < 1000000000000000000 by omega), hp, wr_succ (show i < 1000000000000000000 by omega), ascP]
    · have h1 : i = 0 := by omega
      subst h1
      simp [-getElem?_pos, impl_ascending_r0, hi, ascP, wr_eq]
  · simp [impl_ascending_r0]) k
def isKeyB (x : Int) : Bool := inR x 1 99
theorem impl_isKey_n (x : Int) (k) : call impl_isKey [.one (I x)] k = k [.bool (isKeyB x)] := call_of (fun k => by simp [impl_isKey, impl_InRange_n, isKeyB]) k
def sIsKeys (a : GKeys) : Bool := inR a.Lst.length 1 4 && !(a.Lst.any (fun x => !isKeyB x) || !sAsc a.Lst) && inR a.Need 1 a.Lst.length
theorem spec_IsKeys_n (a : GKeys) (h : mKeys a ≤ 1048576) (k) : call spec_IsKeys [.agg [ints a.Lst, I a.Need]] k = k [.bool (sIsKeys a)] := call_of (fun k => by
  unfold mKeys at h
  simp [spec_IsKeys]
  refine (lp_anyI (P := k [.bool false]) (fin := k [.bool (inR a.Lst.length 1 4 && inR a.Need 1 a.Lst.length)]) a.Lst (fun j => [.bool false, I j, ints a.Lst, I a.Need]) (fun j y => !isKeyB y || ascP a.Lst j y) rfl (fun j y hy hj K => ?_) fun K => ?_).trans ?_
  · by_cases h0 : 0 < j
    · have hp := at0_get (l := a.Lst) (show j - 1 < a.Lst.length by omega)
      simp [-getElem?_pos, spec_IsKeys_r0, hy, hj, h0, spec_l1In_n, wr_pred h0 (show j < 1000000000000000000 by omega), hp, wr_succ (show j < 1000000000000000000 by omega), ascP, isKeyB]
      cases inR y 1 99 <;> simp
    · have h1 : j = 0 := by omega
      subst h1
      simp [-getElem?_pos, spec_IsKeys_r0, hy, hj, ascP, spec_l1In_n, isKeyB, wr_eq]
  · simp [spec_IsKeys_r0, spec_l1In_n]
    cases inR (a.Lst.length : Int) 1 4 <;> simp
  · rw [anyI_or, anyI_const]
    unfold sIsKeys sAsc
    generalize a.Lst.any (fun x => !isKeyB x) = b1
    generalize anyI (ascP a.Lst) 0 a.Lst = b2
    cases b1 <;> cases b2 <;> simp) k
theorem asc_mono {l : List Int} (h : sAsc l = true) : ∀ {j i : Nat} {x y : Int}, i < j → l[i]? = some x → l[j]? = some y → x < y := by
  have h1 : anyI (ascP l) 0 l = false := by unfold sAsc at h; simpa using h
  rw [anyI_false] at h1
  have step : ∀ {j : Nat} {x y : Int}, l[j]? = some x → l[j + 1]? = some y → x < y := by
    intro j x y hx hy
    have := h1 (j + 1) y hy
    simp [ascP] at this
    have h2 : at0 l j = x := by
      have := at0_get (lt_of_get hx)
      rw [hx] at this; injection this with this; exact this.symm
    rw [h2] at this
    omega
  intro j
  induction j with
  | zero => intro i x y hij; omega
  | succ j ih =>
    intro i x y hij hx hy
    have hj : j < l.length := by have := lt_of_get hy; omega
    have hz := List.getElem?_eq_getElem hj
    by_cases h2 : i = j
    · subst h2; exact step hx hy
    · have a1 := ih (i := i) (by omega) hx hz
      have a2 := step hz hy
      omega
theorem asc_range {l : List Int} (h : sAsc l = true) {x y : Int} (hx : l[0]? = some x) (hy : l[l.length - 1]? = some y) : (l.any fun z => !isKeyB z) = (!(isKeyB x && isKeyB y)) := by
  have hlast : ∀ {z : Int} {i : Nat}, l[i]? = some z → x ≤ z ∧ z ≤ y := by
    intro z i hz
    have hi := lt_of_get hz
    constructor
    · by_cases h0 : i = 0
      · subst h0; rw [hx] at hz; injection hz with hz; omega
      · have := asc_mono h (show 0 < i by omega) hx hz; omega
    · by_cases h0 : i = l.length - 1
      · subst h0; rw [hy] at hz; injection hz with hz; omega
      · have := asc_mono h (show i < l.length - 1 by omega) hz hy; omega
  cases hb : (isKeyB x && isKeyB y) with
  | true =>
    simp only [Bool.and_eq_true, isKeyB, inR, decide_eq_true_eq] at hb
    rw [Bool.not_true, List.any_eq_false]
    intro z hz
    obtain ⟨i, hi⟩ := List.mem_iff_getElem?.1 hz
    have := hlast hi
    simp [isKeyB, inR]; omega
  | false =>
    rw [Bool.not_false, List.any_eq_true]
    by_cases hk : isKeyB x = true
    · have hk2 : isKeyB y = false := by rw [hk] at hb; simpa using hb
      exact ⟨y, List.mem_of_getElem? hy, by simp [hk2]⟩
    · exact ⟨x, List.mem_of_getElem? hx, by simpa using hk⟩
theorem impl_IsKeys_n (a : GKeys) (h : mKeys a ≤ 1048576) (k) : call impl_IsKeys [.agg [ints a.Lst, I a.Need]] k = k [.bool (sIsKeys a)] := call_of (fun k => by
  unfold mKeys at h
  simp [impl_IsKeys, impl_InRange_n, sIsKeys]
  cases h1 : inR a.Lst.length 1 4 with
  | false => simp
  | true =>
    have h2 : 1 ≤ a.Lst.length := by unfold inR at h1; simp at h1; omega
    simp [impl_ascending_n a.Lst (by omega)]
    cases h3 : sAsc a.Lst with
    | false => simp
    | true =>
      have hx := at0_get (l := a.Lst) (show 0 < a.Lst.length by omega)
      have hy := at0_get (l := a.Lst) (show a.Lst.length - 1 < a.Lst.length by omega)
      have hr := asc_range h3 hx hy
      rw [hr]
      simp [-getElem?_pos, hx, hy, impl_isKey_n, wr_pred (show 0 < a.Lst.length by omega) (show a.Lst.length < 1000000000000000000 by omega)]
      cases isKeyB (at0 a.Lst 0) <;> cases isKeyB (at0 a.Lst (a.Lst.length - 1)) <;> simp) k
theorem sumN_take_succ {α : Type} (f : α → Nat) : ∀ (l : List α) (i : Nat) (x : α), l[i]? = some x → sumN f (l.take (i + 1)) = sumN f (l.take i) + f x
  | [], i, x, h => by simp at h
  | a :: l, 0, x, h => by simp at h; subst h; simp [sumN]
  | a :: l, i + 1, x, h => by
    have := sumN_take_succ f l i x (by simpa using h)
    simp only [List.take_succ_cons, sumN, this]; omega
theorem sumN_take_le {α : Type} (f : α → Nat) : ∀ (l : List α) (i : Nat), sumN f (l.take i) ≤ sumN f l
  | [], i => by simp
  | a :: l, 0 => by simp [sumN]
  | a :: l, i + 1 => by
    have := sumN_take_le f l i
    simp only [List.take_succ_cons, sumN]; omega
theorem flatten_take_len {α : Type} : ∀ (ls : List (List α)), ls.flatten.length = sumN List.length ls
  | [] => rfl
  | l :: ls => by simp [sumN, flatten_take_len ls]
theorem slices_Grow_int_F_nil_n (n : Int) (h0 : 0 ≤ n) (h : n < 1073741824) (k) : call slices_Grow_int_F_nil [.nil 3 1, .one (I n)] k = k [ints []] := call_of (fun k => by
  have w0 : IntKind.i64.wrap 0 = 0 := wr_eq (by omega) (by omega)
  have w1 : IntKind.i64.wrap n = n := wr_eq (by omega) (by omega)
  simp [slices_Grow_int_F_nil, w0, w1, show ¬ n < 0 by omega, natP, makeP, cutP]
  by_cases hn : 0 < n
  · simp [hn, h, h0, show n ≤ 1073741823 by omega, show 0 ≤ max n 0 by omega, ints]
  · simp [hn, ints]) k
theorem flatRows_ints (l : List Int) : flatRows (ints l) := by
  intro r hr p hp
  obtain ⟨x, _, rfl⟩ := List.mem_map.1 hr
  simp [rI] at hp
  subst hp; rfl
theorem slices_Concat_int_n (ls : List (List Int)) (h : ls.length + sumN List.length ls < 100000000) (k) : call slices_Concat_int [.one (.list 1 (ls.map fun l => [ints l]))] k = k [ints ls.flatten] := call_of (fun k => by
  simp only [slices_Concat_int, lenP_eq, List.length_map, atP_zero]
  let L : PV := .list 1 (ls.map fun l => [ints l])
  refine lp_list (fin := k [ints ls.flatten]) ls (fun i => [L, I ((sumN List.length (ls.take i) : Nat) : Int), L, I ls.length, I i, .list 1 []]) (by simp [sumN, L]) (fun i x hx hi K => ?_) (fun K => ?_)
  · have e1 := sumN_take_succ List.length ls i x hx
    have e2 := sumN_take_le List.length ls (i + 1)
    have w1 : IntKind.i64.wrap (((sumN List.length (ls.take i) : Nat) : Int) + (x.length : Int)) = ((sumN List.length (ls.take (i + 1)) : Nat) : Int) := by
      rw [e1]; rw [wr_eq (by omega) (by omega)]; omega
    simp [-getElem?_pos, slices_Concat_int_r0, hx, hi, L, w1, wr_succ (show i < 1000000000000000000 by omega), show ¬ (((sumN List.length (ls.take (i + 1)) : Nat) : Int) < 0) by omega]
  · simp only [slices_Concat_int_r0, un, cur0, binP_lss, iteP_eq, lenP_eq, L, List.take_length]
    simp [slices_Grow_int_F_nil_n ((sumN List.length ls : Nat) : Int) (by omega) (by omega)]
    refine lp_list (fin := k [ints ls.flatten]) ls (fun i => [L, I ((sumN List.length ls : Nat) : Int), L, I ls.length, I ls.length, L, I ls.length, I i, ints (ls.take i).flatten, .list 1 []]) (by simp [L]) (fun i x hx hi K => ?_) fun K => ?_
    · have e1 := sumN_take_succ List.length ls i x hx
      have e2 := sumN_take_le List.length ls (i + 1)
      have e3 : (ls.take (i + 1)).flatten = (ls.take i).flatten ++ x := by
        rw [List.take_add_one, hx]; simp
      have e4 := flatten_take_len (ls.take i)
      have e5 : (ls.take i).flatten.length + x.length < 1073741824 := by omega
      show _ ↔ K [L, I ((sumN List.length ls : Nat) : Int), L, I ls.length, I ls.length, L, I ls.length, I ((i + 1 : Nat) : Int), ints (ls.take (i + 1)).flatten, .list 1 []]
      rw [e3]
      generalize (ls.take i).flatten = A at e5
      rw [show ints (A ++ x) = PV.list 1 (A.map rI ++ x.map rI) by simp [ints]]
      simp [-getElem?_pos, slices_Concat_int_r1, hx, hi, L, flatRows_ints, catP, wr_succ (show i < 1000000000000000000 by omega), e5]
    · simp [slices_Concat_int_r1, L]) k
def keysInts (a : GKeys) : List Int := a.Need :: (a.Lst.length : Int) :: a.Lst
def bitI (b : Bool) : Int := if b = true then 1 else 0
def headInts (a : GHead) : List Int :=
  [a.Zone, a.Epoch, a.Kind, a.Time, a.Until, a.Count, a.Root, a.Prev] ++ (keysInts a.Keys ++ (keysInts a.Heirs ++ ([a.Wait] ++ (keysInts a.Judge ++ [bitI a.Frozen]))))
theorem fc_int (n : Int) : flatCond [.pv (I 0)] [.pv (I n)] := by intro x hx; simp at hx; subst hx; rfl
theorem spec_KeysInts_n (a : GKeys) (h : mKeys a ≤ 1048576) (k) : call spec_KeysInts [.agg (eKeys a)] k = k [ints (keysInts a)] := call_of (fun k => by
  unfold mKeys at h
  simp [spec_KeysInts, keysInts, flatRows_ints, fc_int, catP, show 2 + a.Lst.length < 1073741824 by omega]
  exact Iff.rfl) k
theorem impl_KeysInts_n (a : GKeys) (h : mKeys a ≤ 1048576) (k) : call impl_KeysInts [.agg (eKeys a)] k = k [ints (keysInts a)] := call_of (fun k => by
  unfold mKeys at h
  simp [impl_KeysInts, keysInts, flatRows_ints, fc_int, catP, show 2 + a.Lst.length < 1073741824 by omega]
  exact Iff.rfl) k
theorem impl_bit_n (b : Bool) (k) : call impl_bit [.one (.bool b)] k = k [I (bitI b)] := call_of (fun k => by
  cases b <;> simp [impl_bit, bitI]) k
theorem keysInts_len (a : GKeys) : (keysInts a).length = 2 + a.Lst.length := by simp [keysInts]; omega
theorem fc_own (i : Nat) : flatCond [.nil 3 1] [.own i] := by intro x hx; simp at hx; subst hx; trivial
theorem impl_HeadInts_n (a : GHead) (h : mHead a ≤ 1048576) (k) : call impl_HeadInts [.agg (eHead a)] k = k [ints (headInts a)] := call_of (fun k => by
  unfold mHead at h
  have k1 := impl_KeysInts_n a.Keys (by omega)
  have k2 := impl_KeysInts_n a.Heirs (by omega)
  have k3 := impl_KeysInts_n a.Judge (by omega)
  have l1 := keysInts_len a.Keys
  have l2 := keysInts_len a.Heirs
  have l3 := keysInts_len a.Judge
  unfold mKeys at h
  have c := slices_Concat_int_n [[a.Zone, a.Epoch, a.Kind, a.Time, a.Until, a.Count, a.Root, a.Prev], keysInts a.Keys, keysInts a.Heirs, [a.Wait], keysInts a.Judge, [bitI a.Frozen]] (by
    simp only [sumN, List.length_cons, List.length_nil, l1, l2, l3]; omega) (fun o => k [atP o 0])
  simp only [impl_HeadInts, un, cur0, k1, k2, k3, impl_bit_n, fc_int, fc_own, atP_zero, true_and, and_true, rt_eq, scs_own, show (1 : Nat) ≤ 16777216 by omega, show (2 : Nat) ≤ 16777216 by omega, show (6 : Nat) ≤ 16777216 by omega, show (8 : Nat) ≤ 16777216 by omega, scs_nil]
  exact iff_of_eq c) k
theorem spec_HeadInts_n (a : GHead) (h : mHead a ≤ 1048576) (k) : call spec_HeadInts [.agg (eHead a)] k = k [ints (headInts a)] := call_of (fun k => by
  unfold mHead at h
  have k1 := spec_KeysInts_n a.Keys (by omega)
  have k2 := spec_KeysInts_n a.Heirs (by omega)
  have k3 := spec_KeysInts_n a.Judge (by omega)
  have l1 := keysInts_len a.Keys
  have l2 := keysInts_len a.Heirs
  have l3 := keysInts_len a.Judge
  unfold mKeys at h
  simp only [spec_HeadInts, un, cur0, k1, k2, k3, fc_int, atP_zero, true_and, and_true, rt_eq, show (8 : Nat) ≤ 16777216 by omega, scs_nil]
  have e : ints (headInts a) = PV.list 1 (([[I a.Zone], [I a.Epoch], [I a.Kind], [I a.Time], [I a.Until], [I a.Count], [I a.Root], [I a.Prev]] ++ ((keysInts a.Keys).map rI ++ ((keysInts a.Heirs).map rI ++ ([[I a.Wait]] ++ ((keysInts a.Judge).map rI ++ [[I (bitI a.Frozen)]])))))) := by
    simp [ints, headInts]
  rw [e]
  cases hf : a.Frozen <;> simp [catP, l1, l2, l3, fc_int, bitI]

  all_goals exact ⟨fun h => h.2.2.2.2.2, fun h => ⟨by omega, by omega, by omega, by omega, by omega, h⟩⟩) k
deriving instance DecidableEq for GKeys, GHead, GSig, GSigned, GFork, GEntry, GProof, GGap, GAnswer, GZone, GKnown, GServer, GActor, GSaid, GStored, GCache, GWorld
theorem listEq_dec {α : Type} [DecidableEq α] {eq : α → α → Bool} (h : ∀ x y, eq x y = decide (x = y)) : ∀ (l m : List α), listEq eq l m = decide (l = m)
  | [], [] => by simp [listEq]
  | [], y :: m => by simp [listEq]
  | x :: l, [] => by simp [listEq]
  | x :: l, y :: m => by rw [listEq, listEq_dec h l m, h]; simp [Bool.decide_and]
abbrev eqD {α : Type} [DecidableEq α] (x y : α) : Bool := decide (x = y)
theorem listEq_d {α : Type} [DecidableEq α] (l m : List α) : listEq eqD l m = decide (l = m) := listEq_dec (fun _ _ => rfl) l m
theorem len_ne {α : Type} [DecidableEq α] {l m : List α} (h : ¬ l.length = m.length) : decide (l = m) = false := by simp; intro e; subst e; exact h rfl
theorem slices_Equal_int_n (l m : List Int) (h : l.length < 1073741824) (k) : call slices_Equal_int [.one (ints l), .one (ints m)] k = k [.bool (decide (l = m))] := call_of (fun k => by
  simp [slices_Equal_int]
  by_cases hl : l.length = m.length
  · rw [← listEq_d]
    simp [hl]
    refine lp_zipk k l m (fun i => [ints l, ints m, .bool false, I m.length, I i]) eqD rfl hl (fun i x y hx hy hi hj K => ?_) fun K => ?_
    · simp [-getElem?_pos, slices_Equal_int_r0, hx, hy, hj, wr_succ (show i < 1000000000000000000 by omega)]
    · simp [slices_Equal_int_r0, hl]
  · simp [show ¬ (l.length : Int) = m.length by omega, len_ne hl]) k
theorem spec_EqualInts_n (l m : List Int) (h : l.length < 1073741824) (k) : call spec_EqualInts [.one (ints l), .one (ints m)] k = k [.bool (decide (l = m))] := call_of (fun k => by
  simp [spec_EqualInts]
  by_cases hl : l.length = m.length
  · rw [← listEq_d]
    simp [hl]
    refine lp_zipk k l m (fun i => [ints l, ints m, .bool false, I i]) eqD rfl hl (fun i x y hx hy hi hj K => ?_) fun K => ?_
    · simp [-getElem?_pos, spec_EqualInts_r0, hx, hy, hi, wr_succ (show i < 1000000000000000000 by omega)]
    · simp [spec_EqualInts_r0]
  · simp [show ¬ (l.length : Int) = m.length by omega, len_ne hl]) k
theorem impl_EqualKeys_n (a b : GKeys) (h : mKeys a ≤ 1048576) (k) : call impl_EqualKeys [.agg (eKeys a), .agg (eKeys b)] k = k [.bool (decide (a = b))] := call_of (fun k => by
  unfold mKeys at h
  obtain ⟨l, n⟩ := a
  obtain ⟨m, q⟩ := b
  simp [impl_EqualKeys, slices_Equal_int_n l m (by simp at h; omega)]
  by_cases hl : l = m <;> by_cases hn : n = q <;> simp [hl, hn, show (n == q) = decide (n = q) from rfl]) k
theorem headInts_len (a : GHead) : (headInts a).length = 16 + mHead a := by simp [headInts, keysInts, mHead, mKeys]; omega
theorem spec_l6Copy_n (a : GKeys) (h : mKeys a ≤ 1048576) (k) : call spec_l6Copy [.agg (eKeys a)] k = k (eKeys a) := call_of (fun k => by
  unfold mKeys at h
  simp [spec_l6Copy, catP, show a.Lst.length < 1073741824 by omega]) k
theorem spec_l13Copy_n (a : GHead) (h : mHead a ≤ 1048576) (k) : call spec_l13Copy [.agg (eHead a)] k = k (eHead a) := call_of (fun k => by
  unfold mHead at h
  simp [spec_l13Copy, spec_l6Copy_n a.Keys (by omega), spec_l6Copy_n a.Heirs (by omega), spec_l6Copy_n a.Judge (by omega)]) k
theorem impl_last_n (l : List GSigned) (p : GSigned) (h : l.length ≤ 1048576) (hp : l[l.length - 1]? = some p) (k) : call impl_last [.one (.list 17 (l.map eSigned))] k = k (eHead p.Head) := call_of (fun k => by
  have h0 := lt_of_get hp
  simp [-getElem?_pos, impl_last, wr_pred (show 0 < l.length by omega) (show l.length < 1000000000000000000 by omega), hp]) k
theorem stepB {b c : Bool} {P : Prop} {k : List PV → Prop} (h : b = true → (P ↔ k [.bool c])) : (if b = true then P else k [.bool false]) ↔ k [.bool (b && c)] := by
  cases b
  · simp
  · simpa using h rfl
theorem stepN {b c : Bool} {P : Prop} {k : List PV → Prop} (h : b = true → (P ↔ k [.bool c])) : (if (!b) = true then k [.bool false] else P) ↔ k [.bool (b && c)] := by
  cases b
  · simp
  · simpa using h rfl
def sNo (a : GKeys) : Bool := decide (a.Need = 0) && decide (a.Lst.length = 0)
theorem impl_NoKeys_n (a : GKeys) (k) : call impl_NoKeys [.agg (eKeys a)] k = k [.bool (sNo a)] := call_of (fun k => by
  have e : ((a.Lst.length : Int) == 0) = decide (a.Lst.length = 0) := by
    by_cases h : a.Lst.length = 0
    · rw [h]; rfl
    · rw [decide_eq_false h]; exact beq_eq_false_iff_ne.2 (by omega)
  simp only [impl_NoKeys, un, cur0, binP_eql, lenP_eq, List.length_map, e, sNo, iteP_eq, rt_eq, scs_sc, scs_nil, flat_bool, true_and, and_true]
  by_cases h : a.Need = 0 <;> simp [h]) k
theorem spec_NoKeys_n (a : GKeys) (k) : call spec_NoKeys [.agg (eKeys a)] k = k [.bool (sNo a)] := call_of (fun k => by
  have e : ((a.Lst.length : Int) == 0) = decide (a.Lst.length = 0) := by
    by_cases h : a.Lst.length = 0
    · rw [h]; rfl
    · rw [decide_eq_false h]; exact beq_eq_false_iff_ne.2 (by omega)
  simp only [spec_NoKeys, un, cur0, binP_eql, lenP_eq, List.length_map, e, sNo, iteP_eq, rt_eq, scs_sc, scs_nil, flat_bool, true_and, and_true]
  by_cases h : a.Need = 0 <;> simp [h]) k
theorem sNo_keys {a : GKeys} (h : sNo a = true) : sIsKeys a = false := by
  unfold sNo at h
  simp only [Bool.and_eq_true, decide_eq_true_eq] at h
  unfold sIsKeys inR
  simp [h.2]
def sMaybe (a : GKeys) : Bool := sNo a || sIsKeys a
def sJudge (a : GHead) : Bool := sIsKeys a.Judge || (sNo a.Judge && !a.Frozen)
def sWait (a : GHead) : Bool := if sNo a.Heirs = true then decide (a.Wait = 0) && sJudge a else sIsKeys a.Heirs && (inR a.Wait 1 500 && sJudge a)
def sIsHead (a : GHead) : Bool :=
  inR a.Zone 0 2147483646 && (inR a.Root 0 2147483646 && (inR a.Prev 0 2147483646 && (inR a.Epoch 0 200 && (inR a.Kind 1 3 && (inR a.Time 0 100000 && (inR a.Until a.Time 100000 && (decide (a.Until - a.Time ≤ 200) &&
  (inR a.Count 0 12 && (sIsKeys a.Keys && sWait a)))))))))
theorem keys_le {a : GHead} (h : mHead a ≤ 1048576) : mKeys a.Keys ≤ 1048576 ∧ mKeys a.Heirs ≤ 1048576 ∧ mKeys a.Judge ≤ 1048576 := by unfold mHead at h; omega
theorem spec_IsHead_n (a : GHead) (h : mHead a ≤ 1048576) (k) : call spec_IsHead [.agg (eHead a)] k = k [.bool (sIsHead a)] := call_of (fun k => by
  obtain ⟨h1, h2, h3⟩ := keys_le h
  have e1 := spec_IsKeys_n a.Keys h1
  have e2 := spec_IsKeys_n a.Heirs h2
  have e3 := spec_IsKeys_n a.Judge h3
  simp only [spec_IsHead, un, cur0, spec_l1In_n, e1, e2, e3, spec_NoKeys_n, unP_not, atP_zero, iteP_eq, rt_eq, scs_sc, scs_nil, flat_bool, true_and, and_true, binP_sub, binP_gtr]
  refine stepN fun _ => stepN fun _ => stepN fun _ => stepN fun _ => stepN fun _ => stepN fun ht => stepN fun hu => ?_
  have hw : IntKind.i64.wrap (a.Until - a.Time) = a.Until - a.Time := by
    simp only [inR, Bool.and_eq_true, decide_eq_true_eq] at ht hu
    exact wr_eq (by omega) (by omega)
  rw [hw, show decide (200 < a.Until - a.Time) = !decide (a.Until - a.Time ≤ 200) by by_cases h : a.Until - a.Time ≤ 200 <;> simp [h] <;> omega]
  refine stepN fun _ => stepN fun _ => stepN fun _ => ?_
  unfold sWait sJudge
  cases sNo a.Heirs <;> cases sIsKeys a.Heirs <;> cases inR a.Wait 1 500 <;> cases sIsKeys a.Judge <;> cases sNo a.Judge <;> cases a.Frozen <;> by_cases hz : a.Wait = 0 <;> simp [hz]) k
theorem headLaw : ∀ (nh kh nj kj wt w0 fr : Bool) (h1 : nh = true → kh = false) (h2 : nj = true → kj = false), ((nh || kh) && ((nj || kj) && ((if nh = true then w0 else wt) && !(fr && nj)))) = (if nh = true then w0 && (kj || (nj && !fr)) else kh && (wt && (kj || (nj && !fr)))) := by decide
theorem impl_IsHead_n (a : GHead) (h : mHead a ≤ 1048576) (k) : call impl_IsHead [.agg (eHead a)] k = k [.bool (sIsHead a)] := call_of (fun k => by
  obtain ⟨h1, h2, h3⟩ := keys_le h
  have e1 := impl_IsKeys_n a.Keys h1
  have e2 := impl_IsKeys_n a.Heirs h2
  have e3 := impl_IsKeys_n a.Judge h3
  have d : ∀ x k, call impl_isDigest [.one (I x)] k = k [.bool (inR x 0 2147483646)] := fun x => call_of (fun k => by simp [impl_isDigest, impl_InRange_n])
  have m2 : ∀ k, call impl_isMaybe [.agg (eKeys a.Heirs)] k = k [.bool (sMaybe a.Heirs)] := call_of (fun k => by
    simp [impl_isMaybe, impl_NoKeys_n, e2, sMaybe]; cases sNo a.Heirs <;> simp)
  have m3 : ∀ k, call impl_isMaybe [.agg (eKeys a.Judge)] k = k [.bool (sMaybe a.Judge)] := call_of (fun k => by
    simp [impl_isMaybe, impl_NoKeys_n, e3, sMaybe]; cases sNo a.Judge <;> simp)
  have m4 : ∀ k, call impl_isWait [.one (I a.Wait), .agg (eKeys a.Heirs)] k = k [.bool (if sNo a.Heirs = true then decide (a.Wait = 0) else inR a.Wait 1 500)] := call_of (fun k => by
    simp [impl_isWait, impl_NoKeys_n, impl_InRange_n]; cases sNo a.Heirs <;> simp
    by_cases hz : a.Wait = 0
    · simp [hz]
    · rw [show (a.Wait == 0) = false from beq_eq_false_iff_ne.2 hz]; simp [hz])
  have m5 : ∀ k, call impl_isSpan [.agg (eHead a)] k = k [.bool (inR a.Time 0 100000 && (inR a.Until a.Time 100000 && decide (a.Until - a.Time ≤ 200)))] := call_of (fun k => by
    simp only [impl_isSpan, un, cur0, binP_geq, binP_leq, binP_sub, iteP_eq, rt_eq, scs_sc, scs_nil, flat_bool, true_and, and_true]
    by_cases c1 : 0 ≤ a.Time
    · by_cases c2 : a.Time ≤ a.Until
      · by_cases c3 : a.Until ≤ 100000
        · rw [wr_eq (show -9223372036854775808 ≤ a.Until - a.Time by omega) (by omega)]
          simp [c1, c2, c3, inR, show a.Time ≤ 100000 by omega]
        · simp [c1, c2, c3, inR]
      · simp [c1, c2, inR]
    · simp [c1, inR])
  simp only [impl_IsHead, un, cur0, d, impl_InRange_n, e1, m2, m3, m4, m5, impl_NoKeys_n, unP_not, atP_zero, iteP_eq, rt_eq, scs_sc, scs_nil, flat_bool, true_and, and_true]
  have key : ∀ z r p e q sp c ks mh mj wt no fr : Bool, (if z = true then if r = true then if p = true then if e = true then if q = true then if sp = true then if c = true then if ks = true then if mh = true then if mj = true then if wt = true then
      if fr = true then k [.bool !no] else k [.bool true] else k [.bool false] else k [.bool false] else k [.bool false] else k [.bool false] else k [.bool false] else k [.bool false] else k [.bool false] else k [.bool false] else k [.bool false] else k [.bool false] else k [.bool false]) ↔
      k [.bool (z && (r && (p && (e && (q && (sp && (c && (ks && (mh && (mj && (wt && !(fr && no))))))))))))] := by
    intro z r p e q sp c ks mh mj wt no fr
    refine stepB fun _ => stepB fun _ => stepB fun _ => stepB fun _ => stepB fun _ => stepB fun _ => stepB fun _ => stepB fun _ => stepB fun _ => stepB fun _ => stepB fun _ => ?_
    cases fr <;> simp
  refine (key _ _ _ _ _ _ _ _ _ _ _ _ _).trans ?_
  apply iff_of_eq
  congr 3
  unfold sIsHead sWait sJudge sMaybe
  simp only [Bool.and_assoc]
  rw [headLaw _ _ _ _ _ _ _ (@sNo_keys a.Heirs) (@sNo_keys a.Judge)]) k
theorem beqI (a b : Int) : (a == b) = decide (a = b) := by
  by_cases h : a = b
  · subst h; simp
  · rw [decide_eq_false h]; exact beq_eq_false_iff_ne.2 h
def sKH (key : Int) (m : List Int) : Int := sHash (key :: (m ++ [key]))
theorem impl_KeyedHash_n (key : Int) (m : List Int) (h : m.length < 90000000) (k) : call impl_KeyedHash [.one (I key), .one (ints m)] k = k [I (sKH key m)] := call_of (fun k => by
  have e : ∀ k, call slices_Concat_int [.one (.list 1 [[.list 1 [[I key]]], [ints m], [.list 1 [[I key]]]])] k = k [ints (key :: (m ++ [key]))] := fun k => by
    have := slices_Concat_int_n [[key], m, [key]] (by simp [sumN]; omega) k
    simpa [ints] using this
  have e2 := impl_Hash_n (key :: (m ++ [key])) (by simp; omega)
  simp only [impl_KeyedHash, un, cur0, fc_int, fc_own, true_and, e, atP_zero, e2, rt_eq, scs_sc, scs_nil, flat_int]
  simp [sKH]) k
theorem spec_KeyedHash_n (key : Int) (m : List Int) (h : m.length < 90000000) (k) : call spec_KeyedHash [.one (I key), .one (ints m)] k = k [I (sKH key m)] := call_of (fun k => by
  have e2 := spec_Hash_n (key :: (m ++ [key])) (by simp; omega)
  have e3 : (PV.list 1 ([I key] :: (m.map rI ++ [[I key]]))) = ints (key :: (m ++ [key])) := by simp [ints]
  simp [spec_KeyedHash, fc_int, flatRows_ints, catP, show 1 + m.length < 1073741824 by omega]
  rw [e3, e2]
  simp [sKH]
  try (intros; omega)) k
def sTag (key : Int) (m : List Int) : Int := sKH key (223 :: m)
theorem impl_TagOf_n (key : Int) (m : List Int) (h : m.length < 80000000) (k) : call impl_TagOf [.one (I key), .one (ints m)] k = k [I (sTag key m)] := call_of (fun k => by
  have e2 := impl_KeyedHash_n key (223 :: m) (by simp; omega)
  have e3 : PV.list 1 ([I 223] :: m.map rI) = ints (223 :: m) := by simp [ints]
  simp [impl_TagOf, fc_int, flatRows_ints, catP, show 1 + m.length < 1073741824 by omega]
  rw [e3, e2]
  simp [sTag]
  try (intros; omega)) k
theorem spec_TagOf_n (key : Int) (m : List Int) (h : m.length < 80000000) (k) : call spec_TagOf [.one (I key), .one (ints m)] k = k [I (sTag key m)] := call_of (fun k => by
  have e2 := spec_KeyedHash_n key (223 :: m) (by simp; omega)
  have e3 : PV.list 1 ([I 223] :: m.map rI) = ints (223 :: m) := by simp [ints]
  simp [spec_TagOf, fc_int, flatRows_ints, catP, show 1 + m.length < 1073741824 by omega]
  rw [e3, e2]
  simp [sTag]
  try (intros; omega)) k
def sDigest (a : GHead) : Int := sHash (233 :: headInts a)
theorem impl_HeadDigest_n (a : GHead) (h : mHead a ≤ 1048576) (k) : call impl_HeadDigest [.agg (eHead a)] k = k [I (sDigest a)] := call_of (fun k => by
  have hl := headInts_len a
  have e1 := impl_HeadInts_n a h
  have e2 := impl_Hash_n (233 :: headInts a) (by simp; omega)
  have e3 : PV.list 1 ([I 233] :: (headInts a).map rI) = ints (233 :: headInts a) := by simp [ints]
  simp [impl_HeadDigest, fc_int, e1, catP, show 1 + (headInts a).length < 1073741824 by omega]
  rw [e3, e2]
  simp [sDigest]
  try (intros; omega)) k
theorem spec_HeadDigest_n (a : GHead) (h : mHead a ≤ 1048576) (k) : call spec_HeadDigest [.agg (eHead a)] k = k [I (sDigest a)] := call_of (fun k => by
  have hl := headInts_len a
  have e1 := spec_HeadInts_n a h
  have e2 := spec_Hash_n (233 :: headInts a) (by simp; omega)
  have e3 : PV.list 1 ([I 233] :: (headInts a).map rI) = ints (233 :: headInts a) := by simp [ints]
  simp [spec_HeadDigest, fc_int, e1, catP, show 1 + (headInts a).length < 1073741824 by omega]
  rw [e3, e2]
  simp [sDigest]
  try (intros; omega)) k
def sZoneOf (a : GKeys) (salt : Int) : Int := sHash (239 :: salt :: keysInts a)
theorem impl_ZoneOf_n (a : GKeys) (salt : Int) (h : mKeys a ≤ 1048576) (k) : call impl_ZoneOf [.agg (eKeys a), .one (I salt)] k = k [I (sZoneOf a salt)] := call_of (fun k => by
  have hl := keysInts_len a
  have h' := h
  unfold mKeys at h'
  have e1 := impl_KeysInts_n a h
  have e2 := impl_Hash_n (239 :: salt :: keysInts a) (by simp; omega)
  have e3 : PV.list 1 ([I 239] :: [I salt] :: (keysInts a).map rI) = ints (239 :: salt :: keysInts a) := by simp [ints]
  simp [impl_ZoneOf, fc_int, e1, catP, show 2 + (keysInts a).length < 1073741824 by omega]
  rw [e3, e2]
  simp [sZoneOf]
  try (intros; omega)) k
theorem spec_ZoneOf_n (a : GKeys) (salt : Int) (h : mKeys a ≤ 1048576) (k) : call spec_ZoneOf [.agg (eKeys a), .one (I salt)] k = k [I (sZoneOf a salt)] := call_of (fun k => by
  have hl := keysInts_len a
  have h' := h
  unfold mKeys at h'
  have e1 := spec_KeysInts_n a h
  have e2 := spec_Hash_n (239 :: salt :: keysInts a) (by simp; omega)
  have e3 : PV.list 1 ([I 239] :: [I salt] :: (keysInts a).map rI) = ints (239 :: salt :: keysInts a) := by simp [ints]
  simp [spec_ZoneOf, fc_int, e1, catP, show 2 + (keysInts a).length < 1073741824 by omega]
  rw [e3, e2]
  simp [sZoneOf]
  try (intros; omega)) k
def sSigBy (m : List Int) (s : GSig) : Bool := isKeyB s.Key && decide (s.Tag = sTag s.Key m)
theorem impl_IsSigBy_n (s : GSig) (m : List Int) (h : m.length < 80000000) (k) : call impl_IsSigBy [.agg (eSig s), .one (ints m)] k = k [.bool (sSigBy m s)] := call_of (fun k => by
  have e := impl_TagOf_n s.Key m h
  simp only [impl_IsSigBy, un, cur0, impl_isKey_n, e, atP_zero, binP_eql, iteP_eq, rt_eq, scs_sc, scs_nil, flat_bool, true_and, and_true]
  exact stepB (c := decide (s.Tag = sTag s.Key m)) fun _ => by rw [beqI]) k
theorem spec_IsSigBy_n (s : GSig) (m : List Int) (h : m.length < 80000000) (k) : call spec_IsSigBy [.agg (eSig s), .one (ints m)] k = k [.bool (sSigBy m s)] := call_of (fun k => by
  have e := spec_TagOf_n s.Key m h
  simp only [spec_IsSigBy, un, cur0, spec_l1In_n, e, atP_zero, binP_eql, iteP_eq, rt_eq, scs_sc, scs_nil, flat_bool, true_and, and_true]
  exact stepB (b := isKeyB s.Key) (c := decide (s.Tag = sTag s.Key m)) fun _ => by rw [beqI]) k
def sigP (m : List Int) (key : Int) (s : GSig) : Bool := decide (s.Key = key) && sSigBy m s
def sCount (a : GKeys) (m : List Int) (l : List GSig) : Nat := a.Lst.countP fun key => l.any (sigP m key)
theorem slices_ContainsFunc_Sig_n (l : List GSig) (key : Int) (m : List Int) (hl : l.length ≤ 1048576) (h : m.length < 80000000) (k) : call slices_ContainsFunc_Sig_F_impl_CountSigs_1 [.one (.list 2 (l.map eSig)), .fn 231 [.cells [I key], .cells [ints m]]] k = k [.bool (l.any (sigP m key))] := call_of (fun k => by
  have e : ∀ k, call slices_IndexFunc_Sig_F_impl_CountSigs_1 [.one (.list 2 (l.map eSig)), .fn 231 [.cells [I key], .cells [ints m]]] k = k [I (idx (sigP m key) l)] := call_of (fun k => by
    simp [slices_IndexFunc_Sig_F_impl_CountSigs_1]
    refine lp_find (Q := fun i => k [I i]) l (fun i => [.list 2 (l.map eSig), I key, ints m, I 0, I l.length, I i]) (sigP m key) rfl (fun i x hx hi K => ?_) fun K => ?_
    · have e1 : ∀ k, call impl_CountSigs_1 [.agg (eSig x), .ro (.cells [I key]), .ro (.cells [ints m])] k = k [.bool (sigP m key x)] := call_of (fun k => by
        have e := impl_IsSigBy_n x m h
        simp only [impl_CountSigs_1, un, cur0, binP_eql, e, atP_zero, iteP_eq, rt_eq, scs_sc, scs_nil, flat_bool, true_and, and_true]
        by_cases hk : x.Key = key <;> simp [hk, sigP])
      simp [-getElem?_pos, slices_IndexFunc_Sig_F_impl_CountSigs_1_r0, hx, hi, e1, wr_succ (show i < 1000000000000000000 by omega)]
    · simp [slices_IndexFunc_Sig_F_impl_CountSigs_1_r0])
  simp [slices_ContainsFunc_Sig_F_impl_CountSigs_1, e, idx_any]) k
theorem impl_CountSigs_n (a : GKeys) (m : List Int) (l : List GSig) (h : mKeys a ≤ 1048576) (hm : m.length < 80000000) (hl : l.length ≤ 1048576) (k) : call impl_CountSigs [.agg (eKeys a), .one (ints m), .one (.list 2 (l.map eSig))] k = k [I (sCount a m l)] := call_of (fun k => by
  unfold mKeys at h
  simp [impl_CountSigs]
  refine lp_list a.Lst (fun i => [.list 2 (l.map eSig), I 0, I ((a.Lst.take i).countP fun key => l.any (sigP m key) : Nat), ints a.Lst, I a.Lst.length, I i, ints m]) rfl (fun i x hx hi K => ?_) fun K => ?_
  · have hc : (a.Lst.take i).countP (fun key => l.any (sigP m key)) ≤ i := Nat.le_trans List.countP_le_length (by simp; omega)
    have e := slices_ContainsFunc_Sig_n l x m hl hm
    simp only [impl_CountSigs_r0, un, cur0, binP_lss, iteP_eq, show decide ((i : Int) < a.Lst.length) = true by simp; omega, if_true, elemP, ints, List.getElem?_map, hx, Int.toNat_natCast, Option.map_some, true_and, atP_zero, rI]
    rw [show PV.list 1 (m.map fun n => [I n]) = ints m from rfl]
    simp only [e, atP_zero, iteP_eq, binP_add, wr_succ (show i < 1000000000000000000 by omega), wr_succ (show (a.Lst.take i).countP (fun key => l.any (sigP m key)) < 1000000000000000000 by omega)]
    rw [take_snoc hx, List.countP_append, List.countP_cons, List.countP_nil]
    cases hb : l.any (sigP m x) <;> simp [hb]
  · simp [impl_CountSigs_r0, sCount]) k
theorem spec_CountSigs_n (a : GKeys) (m : List Int) (l : List GSig) (h : mKeys a ≤ 1048576) (hm : m.length < 80000000) (hl : l.length ≤ 1048576) (k) : call spec_CountSigs [.agg (eKeys a), .one (ints m), .one (.list 2 (l.map eSig))] k = k [I (sCount a m l)] := call_of (fun k => by
  unfold mKeys at h
  simp only [spec_CountSigs, un, cur0, rt_eq, scs_sc, scs_nil, flat_int, true_and]
  refine lp_list a.Lst (fun i => [ints m, .list 2 (l.map eSig), I 0, I ((a.Lst.take i).countP fun key => l.any (sigP m key) : Nat), I i, ints a.Lst, I a.Need]) rfl (fun i x hx hi K => ?_) fun K => ?_
  · have hc : (a.Lst.take i).countP (fun key => l.any (sigP m key)) ≤ i := Nat.le_trans List.countP_le_length (by simp; omega)
    simp [-getElem?_pos, spec_CountSigs_r0, hi]
    rw [take_snoc hx, List.countP_append, List.countP_cons, List.countP_nil]
    generalize hn : (a.Lst.take i).countP (fun key => l.any (sigP m key)) = n at hc
    refine (lp_any (P := K [ints m, .list 2 (l.map eSig), I 0, I ((n + 1 : Nat) : Int), I ((i + 1 : Nat) : Int), ints a.Lst, I a.Need]) (fin := K [ints m, .list 2 (l.map eSig), I 0, I (n : Int), I ((i + 1 : Nat) : Int), ints a.Lst, I a.Need]) l (fun j => [ints m, .list 2 (l.map eSig), I 0, I (n : Int), I i, I j, ints a.Lst, I a.Need]) (sigP m x) rfl (fun j y hy hj K => ?_) fun K => ?_).trans ?_
    · have e := spec_IsSigBy_n y m hm
      simp [-getElem?_pos, spec_CountSigs_r1, hx, hy, hj, e, sigP, wr_succ (show j < 1000000000000000000 by omega), wr_succ (show n < 1000000000000000000 by omega), wr_succ (show i < 1000000000000000000 by omega)]
      by_cases hk : y.Key = x <;> simp [hk]
    · simp [spec_CountSigs_r1, wr_succ (show i < 1000000000000000000 by omega)]
    · cases hb : l.any (sigP m x) <;> simp [hb]
  · simp [spec_CountSigs_r0, sCount]) k
def sIsSigned (a : GKeys) (m : List Int) (l : List GSig) : Bool := sIsKeys a && decide (a.Need ≤ (sCount a m l : Int))
theorem impl_IsSigned_n (a : GKeys) (m : List Int) (l : List GSig) (h : mKeys a ≤ 1048576) (hm : m.length < 80000000) (hl : l.length ≤ 1048576) (k) : call impl_IsSigned [.agg (eKeys a), .one (ints m), .one (.list 2 (l.map eSig))] k = k [.bool (sIsSigned a m l)] := call_of (fun k => by
  have e1 := impl_IsKeys_n a h
  have e2 := impl_CountSigs_n a m l h hm hl
  simp only [impl_IsSigned, un, cur0, e1, e2, atP_zero, iteP_eq, rt_eq, scs_sc, scs_nil, flat_bool, true_and, and_true, binP_geq]
  exact stepB fun _ => Iff.rfl) k
theorem spec_IsSigned_n (a : GKeys) (m : List Int) (l : List GSig) (h : mKeys a ≤ 1048576) (hm : m.length < 80000000) (hl : l.length ≤ 1048576) (k) : call spec_IsSigned [.agg (eKeys a), .one (ints m), .one (.list 2 (l.map eSig))] k = k [.bool (sIsSigned a m l)] := call_of (fun k => by
  have e1 := spec_IsKeys_n a h
  have e2 := spec_CountSigs_n a m l h hm hl
  simp only [spec_IsSigned, un, cur0, e1, e2, atP_zero, iteP_eq, rt_eq, scs_sc, scs_nil, flat_bool, true_and, and_true, binP_geq]
  exact stepB fun _ => Iff.rfl) k
theorem signed_le {s : GSigned} (h : mSigned s ≤ 1048576) : mHead s.Head ≤ 1048576 ∧ s.Sigs.length ≤ 1048576 ∧ (headInts s.Head).length < 80000000 := by
  have hl := headInts_len s.Head
  unfold mSigned at h
  omega
def sBy (s : GSigned) (a : GKeys) : Bool := sIsSigned a (headInts s.Head) s.Sigs
theorem impl_isSignedBy_n (s : GSigned) (a : GKeys) (h : mSigned s ≤ 1048576) (ha : mKeys a ≤ 1048576) (k) : call impl_Signed_isSignedBy [.agg (eSigned s), .agg (eKeys a)] k = k [.bool (sBy s a)] := call_of (fun k => by
  obtain ⟨h1, h2, h3⟩ := signed_le h
  have e1 := impl_HeadInts_n s.Head h1
  have e2 := impl_IsSigned_n a (headInts s.Head) s.Sigs ha h3 h2
  simp only [impl_Signed_isSignedBy, un, cur0, e1, e2, atP_zero, rt_eq, scs_sc, scs_nil, flat_bool, true_and, and_true, sBy]) k
def sIsFirst (s : GSigned) : Bool := sIsHead s.Head && (decide (s.Head.Epoch = 0) && (decide (s.Head.Kind = 1) && (!s.Head.Frozen && (decide (s.Head.Zone = sZoneOf s.Head.Keys s.Head.Prev) && sBy s s.Head.Keys))))
theorem impl_IsFirst_n (s : GSigned) (h : mSigned s ≤ 1048576) (k) : call impl_IsFirst [.agg (eSigned s)] k = k [.bool (sIsFirst s)] := call_of (fun k => by
  obtain ⟨h1, h2, h3⟩ := signed_le h
  obtain ⟨q1, q2, q3⟩ := keys_le h1
  have e1 := impl_IsHead_n s.Head h1
  have e2 := impl_ZoneOf_n s.Head.Keys s.Head.Prev q1
  have e3 := impl_isSignedBy_n s s.Head.Keys h q1
  simp only [impl_IsFirst, un, cur0, e1, e2, e3, binP_eql, beqI, unP_not, atP_zero, iteP_eq, rt_eq, scs_sc, scs_nil, flat_bool, true_and, and_true]
  exact stepB fun _ => stepB fun _ => stepB fun _ => stepB fun _ => stepB fun _ => Iff.rfl) k
theorem spec_IsFirst_n (s : GSigned) (h : mSigned s ≤ 1048576) (k) : call spec_IsFirst [.agg (eSigned s)] k = k [.bool (sIsFirst s)] := call_of (fun k => by
  obtain ⟨h1, h2, h3⟩ := signed_le h
  obtain ⟨q1, q2, q3⟩ := keys_le h1
  have e1 := spec_IsHead_n s.Head h1
  have e2 := spec_ZoneOf_n s.Head.Keys s.Head.Prev q1
  have e3 := spec_HeadInts_n s.Head h1
  have e4 := spec_IsSigned_n s.Head.Keys (headInts s.Head) s.Sigs q1 h3 h2
  simp only [spec_IsFirst, un, cur0, e1, e2, e3, e4, binP_eql, beqI, unP_not, atP_zero, iteP_eq, rt_eq, scs_sc, scs_nil, flat_bool, true_and, and_true]
  exact stepB fun _ => stepB fun _ => stepB fun _ => stepB fun _ => stepB fun _ => Iff.rfl) k
theorem stepI {b : Bool} {v c : Int} {P : Prop} {k : List PV → Prop} (h : b = false → (P ↔ k [I c])) : (if b = true then k [I v] else P) ↔ k [I (if b = true then v else c)] := by
  cases b
  · simpa using h rfl
  · simp
theorem stepJ {b : Bool} {v c : Int} {P : Prop} {k : List PV → Prop} (h : b = true → (P ↔ k [I c])) : (if (!b) = true then k [I v] else P) ↔ k [I (if b = true then c else v)] := by
  cases b
  · simp
  · simpa using h rfl
def sSame (a b : GHead) : Bool := decide (a.Count = b.Count) && decide (a.Root = b.Root)
theorem impl_SameContents_n (a b : GHead) (k) : call impl_SameContents [.agg (eHead a), .agg (eHead b)] k = k [.bool (sSame a b)] := call_of (fun k => by
  simp only [impl_SameContents, un, cur0, binP_eql, beqI, iteP_eq, rt_eq, scs_sc, scs_nil, flat_bool, true_and, and_true]
  exact stepB fun _ => Iff.rfl) k
theorem spec_SameContents_n (a b : GHead) (k) : call spec_SameContents [.agg (eHead a), .agg (eHead b)] k = k [.bool (sSame a b)] := call_of (fun k => by
  simp only [spec_SameContents, un, cur0, binP_eql, beqI, iteP_eq, rt_eq, scs_sc, scs_nil, flat_bool, true_and, and_true]
  exact stepB fun _ => Iff.rfl) k
def sNext (p h : GHead) : Bool := decide (h.Zone = p.Zone) && (decide (h.Epoch = IntKind.i64.wrap (p.Epoch + 1)) && (decide (h.Prev = sDigest p) && decide (p.Time ≤ h.Time)))
theorem impl_isNext_n (p h : GHead) (hp : mHead p ≤ 1048576) (k) : call impl_isNext [.agg (eHead p), .agg (eHead h)] k = k [.bool (sNext p h)] := call_of (fun k => by
  have e := impl_HeadDigest_n p hp
  simp only [impl_isNext, un, cur0, e, binP_eql, binP_geq, binP_add, beqI, atP_zero, iteP_eq, rt_eq, scs_sc, scs_nil, flat_bool, true_and, and_true]
  exact stepB fun _ => stepB fun _ => stepB fun _ => Iff.rfl) k
def sOwner (p : GHead) (s : GSigned) : Int := if p.Frozen = true then 4 else if s.Head.Frozen = true then 6 else if sBy s p.Keys = true then 1 else 7
def sHeir (p : GHead) (s : GSigned) : Int := if p.Frozen = true then 4 else if sNo p.Heirs = true then 5 else if decide (s.Head.Time < IntKind.i64.wrap (p.Until + p.Wait)) = true then 5 else if s.Head.Frozen = true then 6 else
  if decide (s.Head.Keys = p.Heirs) = true then (if sSame s.Head p = true then (if sBy s p.Heirs = true then 1 else 7) else 6) else 6
def sJC (p : GHead) (s : GSigned) : Int := if sNo p.Judge = true then 5 else if decide (s.Head.Frozen = p.Frozen) = true then 6 else
  if (sSame s.Head p && (decide (s.Head.Judge = p.Judge) && (decide (s.Head.Heirs = p.Heirs) && decide (s.Head.Wait = p.Wait)))) = true then (if (!s.Head.Frozen || decide (s.Head.Keys = p.Keys)) = true then (if sBy s p.Judge = true then 1 else 7) else 6) else 6
def sCode (p : GHead) (s : GSigned) : Int := if sIsHead p = true then (if sIsHead s.Head = true then (if sNext p s.Head = true then (if decide (s.Head.Kind = 1) = true then sOwner p s else if decide (s.Head.Kind = 2) = true then sHeir p s else sJC p s) else 3) else 2) else 2
theorem impl_ownerCode_n (p : GHead) (s : GSigned) (hp : mHead p ≤ 1048576) (hs : mSigned s ≤ 1048576) (k) : call impl_ownerCode [.agg (eHead p), .agg (eSigned s)] k = k [I (sOwner p s)] := call_of (fun k => by
  obtain ⟨q1, q2, q3⟩ := keys_le hp
  have e := impl_isSignedBy_n s p.Keys hs q1
  simp only [impl_ownerCode, un, cur0, e, unP_not, atP_zero, iteP_eq, rt_eq, scs_sc, scs_nil, flat_int, true_and, and_true]
  exact stepI fun _ => stepI fun _ => stepJ fun _ => Iff.rfl) k
theorem impl_heirCode_n (p : GHead) (s : GSigned) (hp : mHead p ≤ 1048576) (hs : mSigned s ≤ 1048576) (k) : call impl_heirCode [.agg (eHead p), .agg (eSigned s)] k = k [I (sHeir p s)] := call_of (fun k => by
  obtain ⟨q1, q2, q3⟩ := keys_le hp
  obtain ⟨r1, r2, r3⟩ := keys_le (signed_le hs).1
  have e := impl_isSignedBy_n s p.Heirs hs q2
  have e2 := impl_EqualKeys_n s.Head.Keys p.Heirs r1
  simp only [impl_heirCode, un, cur0, e, e2, impl_NoKeys_n, impl_SameContents_n, unP_not, binP_add, binP_lss, atP_zero, iteP_eq, rt_eq, scs_sc, scs_nil, flat_int, true_and, and_true]
  exact stepI fun _ => stepI fun _ => stepI fun _ => stepI fun _ => stepJ fun _ => stepJ fun _ => stepJ fun _ => Iff.rfl) k
theorem impl_judgeCode_n (p : GHead) (s : GSigned) (hp : mHead p ≤ 1048576) (hs : mSigned s ≤ 1048576) (k) : call impl_judgeCode [.agg (eHead p), .agg (eSigned s)] k = k [I (sJC p s)] := call_of (fun k => by
  obtain ⟨q1, q2, q3⟩ := keys_le hp
  obtain ⟨r1, r2, r3⟩ := keys_le (signed_le hs).1
  have e := impl_isSignedBy_n s p.Judge hs q3
  have e2 := impl_EqualKeys_n s.Head.Judge p.Judge r3
  have e3 := impl_EqualKeys_n s.Head.Heirs p.Heirs r2
  have e4 := impl_EqualKeys_n s.Head.Keys p.Keys r1
  simp only [impl_judgeCode, un, cur0, e, e2, e3, e4, impl_NoKeys_n, impl_SameContents_n, unP_not, boolP_eql, binP_eql, beqI, atP_zero, iteP_eq, rt_eq, scs_sc, scs_nil, flat_int, true_and, and_true, sJC]
  generalize sNo p.Judge = b1
  generalize sSame s.Head p = b2
  generalize decide (s.Head.Judge = p.Judge) = b3
  generalize decide (s.Head.Heirs = p.Heirs) = b4
  generalize decide (s.Head.Wait = p.Wait) = b5
  generalize decide (s.Head.Keys = p.Keys) = b6
  generalize sBy s p.Judge = b7
  cases b1 <;> cases b2 <;> cases b3 <;> cases b4 <;> cases b5 <;> cases b6 <;> cases b7 <;> cases s.Head.Frozen <;> cases p.Frozen <;> simp) k
theorem impl_NextCode_n (p : GHead) (s : GSigned) (hp : mHead p ≤ 1048576) (hs : mSigned s ≤ 1048576) (k) : call impl_NextCode [.agg (eHead p), .agg (eSigned s)] k = k [I (sCode p s)] := call_of (fun k => by
  have e1 := impl_IsHead_n p hp
  have e2 := impl_IsHead_n s.Head (signed_le hs).1
  have e3 := impl_isNext_n p s.Head hp
  have e4 := impl_ownerCode_n p s hp hs
  have e5 := impl_heirCode_n p s hp hs
  have e6 := impl_judgeCode_n p s hp hs
  simp only [impl_NextCode, un, cur0, e1, e2, e3, e4, e5, e6, unP_not, binP_eql, beqI, atP_zero, iteP_eq, rt_eq, scs_sc, scs_nil, flat_int, true_and, and_true]
  refine stepJ fun _ => stepJ fun _ => stepJ fun _ => ?_
  by_cases h1 : s.Head.Kind = 1
  · simp [h1]
  · by_cases h2 : s.Head.Kind = 2 <;> simp [h1, h2]) k
def sMay (p : GHead) (s : GSigned) : Bool := decide (sCode p s = 1)
theorem impl_MayFollow_n (p : GHead) (s : GSigned) (hp : mHead p ≤ 1048576) (hs : mSigned s ≤ 1048576) (k) : call impl_MayFollow [.agg (eHead p), .agg (eSigned s)] k = k [.bool (sMay p s)] := call_of (fun k => by
  have e := impl_NextCode_n p s hp hs
  simp only [impl_MayFollow, un, cur0, e, binP_eql, beqI, atP_zero, rt_eq, scs_sc, scs_nil, flat_bool, true_and, and_true, sMay]) k
theorem spec_EqualKeys_n (a b : GKeys) (h : mKeys a ≤ 1048576) (k) : call spec_EqualKeys [.agg (eKeys a), .agg (eKeys b)] k = k [.bool (decide (a = b))] := call_of (fun k => by
  unfold mKeys at h
  obtain ⟨l, n⟩ := a
  obtain ⟨m, q⟩ := b
  have e := spec_EqualInts_n l m (by simp only at h; omega)
  simp only [spec_EqualKeys, un, cur0, e, binP_eql, beqI, atP_zero, iteP_eq, rt_eq, scs_sc, scs_nil, flat_bool, true_and, and_true]
  by_cases h1 : n = q <;> by_cases h2 : l = m <;> simp [h1, h2]) k
theorem spec_l15Owner_n (p h : GHead) (k) : call spec_l15Owner [.agg (eHead p), .agg (eHead h)] k = k [I (if p.Frozen = true then 4 else if h.Frozen = true then 6 else 1)] := call_of (fun k => by
  simp only [spec_l15Owner, un, cur0, iteP_eq, rt_eq, scs_sc, scs_nil, flat_int, true_and, and_true]
  exact stepI fun _ => stepI fun _ => Iff.rfl) k
def pHeir (p h : GHead) : Int := if p.Frozen = true then 4 else if sNo p.Heirs = true then 5 else if decide (h.Time < IntKind.i64.wrap (p.Until + p.Wait)) = true then 5 else if h.Frozen = true then 6 else
  if decide (h.Keys = p.Heirs) = true then (if sSame h p = true then 1 else 6) else 6
theorem spec_l15Heir_n (p h : GHead) (hp : mHead p ≤ 1048576) (hh : mHead h ≤ 1048576) (k) : call spec_l15Heir [.agg (eHead p), .agg (eHead h)] k = k [I (pHeir p h)] := call_of (fun k => by
  obtain ⟨r1, r2, r3⟩ := keys_le hh
  have e2 := spec_EqualKeys_n h.Keys p.Heirs r1
  simp only [spec_l15Heir, un, cur0, e2, spec_NoKeys_n, spec_SameContents_n, unP_not, binP_add, binP_lss, atP_zero, iteP_eq, rt_eq, scs_sc, scs_nil, flat_int, true_and, and_true]
  exact stepI fun _ => stepI fun _ => stepI fun _ => stepI fun _ => stepJ fun _ => stepJ fun _ => Iff.rfl) k
def pJudge (p h : GHead) : Int := if sNo p.Judge = true then 5 else if decide (h.Frozen = p.Frozen) = true then 6 else
  if (sSame h p && (decide (h.Judge = p.Judge) && (decide (h.Heirs = p.Heirs) && decide (h.Wait = p.Wait)))) = true then (if (!h.Frozen || decide (h.Keys = p.Keys)) = true then 1 else 6) else 6
theorem spec_l15Judge_n (p h : GHead) (hp : mHead p ≤ 1048576) (hh : mHead h ≤ 1048576) (k) : call spec_l15Judge [.agg (eHead p), .agg (eHead h)] k = k [I (pJudge p h)] := call_of (fun k => by
  obtain ⟨r1, r2, r3⟩ := keys_le hh
  have e2 := spec_EqualKeys_n h.Judge p.Judge r3
  have e3 := spec_EqualKeys_n h.Heirs p.Heirs r2
  have e4 := spec_EqualKeys_n h.Keys p.Keys r1
  have e5 : (h.Wait != p.Wait) = !decide (h.Wait = p.Wait) := by rw [bne, beqI]
  simp only [spec_l15Judge, un, cur0, e2, e3, e4, spec_NoKeys_n, spec_SameContents_n, unP_not, boolP_eql, binP_neq, e5, atP_zero, iteP_eq, rt_eq, scs_sc, scs_nil, flat_int, true_and, and_true, pJudge]
  generalize sNo p.Judge = b1
  generalize sSame h p = b2
  generalize decide (h.Judge = p.Judge) = b3
  generalize decide (h.Heirs = p.Heirs) = b4
  generalize decide (h.Wait = p.Wait) = b5
  generalize decide (h.Keys = p.Keys) = b6
  cases b1 <;> cases b2 <;> cases b3 <;> cases b4 <;> cases b5 <;> cases b6 <;> cases h.Frozen <;> cases p.Frozen <;> simp) k
theorem code_owner (p : GHead) (s : GSigned) : sOwner p s = if decide ((if p.Frozen = true then 4 else if s.Head.Frozen = true then 6 else 1 : Int) = 1) = true then (if sBy s p.Keys = true then 1 else 7) else (if p.Frozen = true then 4 else if s.Head.Frozen = true then 6 else 1) := by
  unfold sOwner
  cases p.Frozen <;> cases s.Head.Frozen <;> simp
theorem code_heir (p : GHead) (s : GSigned) : sHeir p s = if decide (pHeir p s.Head = 1) = true then (if sBy s p.Heirs = true then 1 else 7) else pHeir p s.Head := by
  unfold sHeir pHeir
  cases p.Frozen <;> cases sNo p.Heirs <;> by_cases h1 : s.Head.Time < IntKind.i64.wrap (p.Until + p.Wait) <;> cases s.Head.Frozen <;> by_cases h2 : s.Head.Keys = p.Heirs <;> cases sSame s.Head p <;> simp [h1, h2]
theorem code_judge (p : GHead) (s : GSigned) : sJC p s = if decide (pJudge p s.Head = 1) = true then (if sBy s p.Judge = true then 1 else 7) else pJudge p s.Head := by
  unfold sJC pJudge
  generalize (sSame s.Head p && (decide (s.Head.Judge = p.Judge) && (decide (s.Head.Heirs = p.Heirs) && decide (s.Head.Wait = p.Wait)))) = b2
  generalize (!s.Head.Frozen || decide (s.Head.Keys = p.Keys)) = b3
  generalize decide (s.Head.Frozen = p.Frozen) = b4
  cases sNo p.Judge <;> cases b2 <;> cases b3 <;> cases b4 <;> simp
theorem head_kind {h : GHead} (hh : sIsHead h = true) : h.Kind = 1 ∨ h.Kind = 2 ∨ h.Kind = 3 := by
  unfold sIsHead at hh
  simp only [Bool.and_eq_true, inR, decide_eq_true_eq] at hh
  omega
theorem codeStep {c : Int} {b : Bool} {k : List PV → Prop} : (if decide (c = 1) = true then (if (!b) = true then k [I 7] else k [I c]) else k [I c]) ↔ k [I (if decide (c = 1) = true then (if b = true then 1 else 7) else c)] := by
  by_cases h : c = 1
  · subst h; cases b <;> simp
  · simp [h]
theorem spec_NextCode_n (p : GHead) (s : GSigned) (hp : mHead p ≤ 1048576) (hs : mSigned s ≤ 1048576) (k) : call spec_NextCode [.agg (eHead p), .agg (eSigned s)] k = k [I (sCode p s)] := call_of (fun k => by
  obtain ⟨h1, h2, h3⟩ := signed_le hs
  obtain ⟨q1, q2, q3⟩ := keys_le hp
  have e1 := spec_IsHead_n p hp
  have e2 := spec_IsHead_n s.Head h1
  have e3 := spec_HeadDigest_n p hp
  have e4 := spec_l15Owner_n p s.Head
  have e5 := spec_l15Heir_n p s.Head hp h1
  have e6 := spec_l15Judge_n p s.Head hp h1
  have e7 := spec_HeadInts_n s.Head h1
  have e8 := spec_IsSigned_n p.Keys (headInts s.Head) s.Sigs q1 h3 h2
  have e9 := spec_IsSigned_n p.Heirs (headInts s.Head) s.Sigs q2 h3 h2
  have e10 := spec_IsSigned_n p.Judge (headInts s.Head) s.Sigs q3 h3 h2
  simp only [spec_NextCode, un, cur0, e1, e2, e3, e4, e5, e6, e7, e8, e9, e10, unP_not, binP_eql, binP_neq, binP_add, binP_lss, bne, beqI, atP_zero, iteP_eq, rt_eq, scs_sc, scs_nil, flat_int, true_and, and_true, codeStep]
  refine stepJ fun _ => stepJ fun hh => ?_
  have hk := head_kind hh
  have hc : ∀ {b1 b2 b3 b4 : Bool} {P : Prop} {c : Int}, (P ↔ k [I c]) → ((if (!b1) = true then k [I 3] else if (!b2) = true then k [I 3] else if (!b3) = true then k [I 3] else if (!b4) = true then k [I 3] else P) ↔ k [I (if (b1 && (b2 && (b3 && b4))) = true then c else 3)]) := by
    intro b1 b2 b3 b4 P c h
    cases b1 <;> cases b2 <;> cases b3 <;> cases b4 <;> simp [h]
  rw [show decide (s.Head.Time < p.Time) = !decide (p.Time ≤ s.Head.Time) by by_cases h : p.Time ≤ s.Head.Time <;> simp [h] <;> omega]
  refine hc ?_
  rw [code_owner, code_heir, code_judge]
  rcases hk with hk | hk | hk <;> simp [hk, sBy]
  all_goals exact Iff.rfl) k
theorem spec_MayFollow_n (p : GHead) (s : GSigned) (hp : mHead p ≤ 1048576) (hs : mSigned s ≤ 1048576) (k) : call spec_MayFollow [.agg (eHead p), .agg (eSigned s)] k = k [.bool (sMay p s)] := call_of (fun k => by
  have e := spec_NextCode_n p s hp hs
  simp only [spec_MayFollow, un, cur0, e, binP_eql, beqI, atP_zero, rt_eq, scs_sc, scs_nil, flat_bool, true_and, and_true, sMay]) k
def findX {α : Type} (p : Nat → α → Bool) : Nat → List α → Int
  | _, [] => -1
  | i, x :: l => if p i x = true then (i : Int) else findX p (i + 1) l
theorem exitL_findX {α : Type} (p : Nat → α → Bool) (Q : Int → Prop) : ∀ (i : Nat) (l : List α), exitL p (fun i _ => Q i) (Q (-1)) i l = Q (findX p i l)
  | _, [] => rfl
  | i, x :: l => by
    rw [exitL, exitL_findX p Q (i + 1) l, findX]
    split <;> rfl
theorem lp_findX {α : Type} {R : (List PV → Prop) → List PV → Prop} {v : List PV} {Q : Int → Prop} (l : List α) (V : Nat → List PV) (p : Nat → α → Bool) (hv : v = V 0)
    (h : ∀ i x, l[i]? = some x → i < l.length → ∀ K, R K (V i) ↔ if p i x = true then Q i else K (V (i + 1))) (hf : ∀ K, R K (V l.length) ↔ Q (-1)) : lp R v ↔ Q (findX p 0 l) := by
  have := lp_exit l V p (fun i _ => Q i) hv (fun i x hx => h i x hx (lt_of_get hx)) hf
  rwa [exitL_findX] at this
def wrongP (l : List GSigned) (i : Nat) (x : GSigned) : Bool := if i = 0 then !sIsFirst x else match l[i - 1]? with | some y => !sMay y.Head x | none => true
def sFW (l : List GSigned) : Int := findX (wrongP l) 0 l
theorem chain_le {l : List GSigned} (h : mSignedS l ≤ 1048576) : l.length ≤ 1048576 ∧ ∀ x ∈ l, mSigned x ≤ 1048576 := by
  unfold mSignedS at h
  refine ⟨by omega, fun x hx => ?_⟩
  have := sumN_mem (s := mSigned) hx
  omega
theorem impl_FirstWrong_n (l : List GSigned) (h : mSignedS l ≤ 1048576) (k) : call impl_FirstWrong [.one (.list 17 (l.map eSigned))] k = k [I (sFW l)] := call_of (fun k => by
  obtain ⟨hl, hx0⟩ := chain_le h
  simp only [impl_FirstWrong, lenP_eq, List.length_map, rt_eq, scs_sc, scs_nil, flat_int, true_and]
  refine lp_findX (Q := fun i => k [I i]) l (fun i => [.list 17 (l.map eSigned), I 0, .list 17 (l.map eSigned), I l.length, I i]) (wrongP l) rfl (fun i x hx hi K => ?_) fun K => ?_
  · have hm := hx0 x (mem_get hx)
    by_cases h0 : i = 0
    · subst h0
      have e := impl_IsFirst_n x hm
      simp [-getElem?_pos, impl_FirstWrong_r0, hx, hi, e, wrongP, wr_eq]
    · obtain ⟨y, hy⟩ : ∃ y, l[i - 1]? = some y := ⟨l[i - 1], List.getElem?_eq_getElem (by omega)⟩
      have e := impl_MayFollow_n y.Head x (signed_le (hx0 y (mem_get hy))).1 hm
      simp [-getElem?_pos, impl_FirstWrong_r0, hx, hi, hy, h0, e, wrongP, show ¬ (i : Int) = 0 by omega, show 0 < i by omega, wr_pred (show 0 < i by omega) (show i < 1000000000000000000 by omega), wr_succ (show i < 1000000000000000000 by omega)]
  · simp [impl_FirstWrong_r0]) k
theorem spec_FirstWrong_n (l : List GSigned) (h : mSignedS l ≤ 1048576) (k) : call spec_FirstWrong [.one (.list 17 (l.map eSigned))] k = k [I (sFW l)] := call_of (fun k => by
  obtain ⟨hl, hx0⟩ := chain_le h
  simp only [spec_FirstWrong, lenP_eq, List.length_map, rt_eq, scs_sc, scs_nil, flat_int, true_and]
  refine lp_findX (Q := fun i => k [I i]) l (fun i => [.list 17 (l.map eSigned), I 0, I i]) (wrongP l) rfl (fun i x hx hi K => ?_) fun K => ?_
  · have hm := hx0 x (mem_get hx)
    by_cases h0 : i = 0
    · subst h0
      have e := spec_IsFirst_n x hm
      simp [-getElem?_pos, spec_FirstWrong_r0, hx, hi, e, wrongP, wr_eq]
    · obtain ⟨y, hy⟩ : ∃ y, l[i - 1]? = some y := ⟨l[i - 1], List.getElem?_eq_getElem (by omega)⟩
      have e := spec_MayFollow_n y.Head x (signed_le (hx0 y (mem_get hy))).1 hm
      simp [-getElem?_pos, spec_FirstWrong_r0, hx, hi, hy, h0, e, wrongP, show ¬ (i : Int) = 0 by omega, show 0 < i by omega, wr_pred (show 0 < i by omega) (show i < 1000000000000000000 by omega), wr_succ (show i < 1000000000000000000 by omega)]
  · simp [spec_FirstWrong_r0]) k
def sIsChain (l : List GSigned) : Bool := inR l.length 1 12 && decide (sFW l < 0)
theorem impl_IsChain_n (l : List GSigned) (h : mSignedS l ≤ 1048576) (k) : call impl_IsChain [.one (.list 17 (l.map eSigned))] k = k [.bool (sIsChain l)] := call_of (fun k => by
  have e := impl_FirstWrong_n l h
  simp only [impl_IsChain, lenP_eq, List.length_map, impl_InRange_n, e, binP_lss, atP_zero, iteP_eq, rt_eq, scs_sc, scs_nil, flat_bool, true_and, and_true]
  exact stepB fun _ => Iff.rfl) k
theorem spec_IsChain_n (l : List GSigned) (h : mSignedS l ≤ 1048576) (k) : call spec_IsChain [.one (.list 17 (l.map eSigned))] k = k [.bool (sIsChain l)] := call_of (fun k => by
  have e := spec_FirstWrong_n l h
  simp only [spec_IsChain, lenP_eq, List.length_map, spec_l1In_n, e, binP_lss, atP_zero, iteP_eq, rt_eq, scs_sc, scs_nil, flat_bool, true_and, and_true]
  exact stepB fun _ => Iff.rfl) k
theorem chain_has {l : List GSigned} (h : sIsChain l = true) : ∃ p, l[l.length - 1]? = some p ∧ 0 < l.length := by
  unfold sIsChain inR at h
  simp only [Bool.and_eq_true, decide_eq_true_eq] at h
  exact ⟨l[l.length - 1], List.getElem?_eq_getElem (by omega), by omega⟩
def zHead : GHead := ⟨0, 0, 0, 0, 0, 0, 0, 0, ⟨[], 0⟩, ⟨[], 0⟩, 0, ⟨[], 0⟩, false⟩
def sLast (l : List GSigned) : Option GHead := if sIsChain l = true then (l[l.length - 1]?).map (·.Head) else none
def oHead : Option GHead → List PV
  | some h => eHead h ++ [.bool true]
  | none => eHead zHead ++ [.bool false]
theorem spec_LastHead_n (l : List GSigned) (h : mSignedS l ≤ 1048576) (k) : call spec_LastHead [.one (.list 17 (l.map eSigned))] k = k (oHead (sLast l)) := call_of (fun k => by
  obtain ⟨hl, hx0⟩ := chain_le h
  have e := spec_IsChain_n l h
  unfold sLast
  cases hc : sIsChain l with
  | false => simp [spec_LastHead, e, hc, oHead, zHead, ints]
  | true =>
    obtain ⟨p, hp, h0⟩ := chain_has hc
    have e3 := spec_l13Copy_n p.Head (signed_le (hx0 p (mem_get hp))).1
    simp [-getElem?_pos, spec_LastHead, e, hc, e3, oHead, hp, wr_pred h0 (show l.length < 1000000000000000000 by omega)]) k
def azB (x : UInt8) : Bool := (decide (97 ≤ (x.toNat : Int)) && decide ((x.toNat : Int) ≤ 122)) || (decide (48 ≤ (x.toNat : Int)) && decide ((x.toNat : Int) ≤ 57))
def dashB (x : UInt8) : Bool := decide ((x.toNat : Int) = 45)
def badL (n : Nat) (i : Nat) (x : UInt8) : Bool := !(azB x || (dashB x && (decide (0 < i) && decide (i + 1 < n))))
def sLabel (s : ByteArray) : Bool := !anyI (badL s.data.toList.length) 0 s.data.toList && inR s.size 1 8
theorem size_data (s : ByteArray) : s.size = s.data.toList.length := rfl
theorem impl_IsLabel_n (s : ByteArray) (h : s.size ≤ 1048576) (k) : call impl_IsLabel [.one (.str s)] k = k [.bool (sLabel s)] := call_of (fun k => by
  simp only [impl_IsLabel, lenS_eq, rt_eq, scs_sc, scs_nil, flat_bool, true_and, impl_InRange_n, atP_zero]
  refine (lp_anyI (P := k [.bool false]) (fin := k [.bool (inR s.size 1 8)]) s.data.toList (fun i => [.str s, .bool false, I s.size, I i]) (badL s.data.toList.length) rfl (fun i x hx hi K => ?_) fun K => ?_).trans ?_
  · have hw := wr_succ (show i < 1000000000000000000 by rw [size_data] at h; omega)
    have hl : IntKind.i64.wrap ((s.size : Int) - 1) = (s.size : Int) - 1 := wr_eq (by omega) (by omega)
    have hs := size_data s
    simp only [impl_IsLabel_r0, un, cur0, binP_lss, binP_leq, binP_geq, binP_gtr, binP_eql, binP_add, binP_sub, lenS_eq, charP_eq, Int.toNat_natCast, hx, oP, iteP_eq, unP_not, beqI, hw, hl, show decide ((i : Int) < s.size) = true by rw [hs]; simp; omega, if_true, show (0 : Int) ≤ i by omega, true_and]
    unfold badL azB dashB
    have d1 : decide ((i : Int) < (s.size : Int) - 1) = decide (i + 1 < s.data.toList.length) := by apply decide_eq_decide.2; rw [hs]; omega
    have d2 : decide ((0 : Int) < (i : Int)) = decide (0 < i) := by apply decide_eq_decide.2; omega
    rw [d1, d2]
    generalize decide (97 ≤ (x.toNat : Int)) = b1
    generalize decide ((x.toNat : Int) ≤ 122) = b2
    generalize decide (48 ≤ (x.toNat : Int)) = b3
    generalize decide ((x.toNat : Int) ≤ 57) = b4
    generalize decide ((x.toNat : Int) = 45) = b5
    generalize decide (0 < i) = b6
    generalize decide (i + 1 < s.data.toList.length) = b7
    cases b1 <;> cases b2 <;> cases b3 <;> cases b4 <;> cases b5 <;> cases b6 <;> cases b7 <;> simp
  · simp only [impl_IsLabel_r0, un, cur0, binP_lss, iteP_eq, show decide (((s.data.toList.length : Nat) : Int) < s.size) = false by rw [size_data]; simp, lenS_eq, impl_InRange_n, atP_zero]
    simp
  · unfold sLabel
    cases anyI (badL s.data.toList.length) 0 s.data.toList <;> simp) k
theorem label_eq (L : List UInt8) (x y : UInt8) (hx : L[0]? = some x) (hy : L[L.length - 1]? = some y) : anyI (badL L.length) 0 L = (dashB x || (dashB y || L.any fun b => !(azB b || dashB b))) := by
  rw [Bool.eq_iff_iff]
  constructor
  · intro h
    rcases hd : (dashB x || (dashB y || L.any fun b => !(azB b || dashB b))) with _ | _
    · exfalso
      simp only [Bool.or_eq_false_iff] at hd
      obtain ⟨d1, d2, d3⟩ := hd
      have hn : anyI (badL L.length) 0 L = false := by
        rw [anyI_false]
        intro j b hb
        have hj := lt_of_get hb
        have h3 := List.any_eq_false.1 d3 b (List.mem_of_getElem? hb)
        unfold badL
        by_cases ha : azB b = true
        · simp [ha]
        · have hdb : dashB b = true := by cases h : dashB b <;> simp [ha, h] at h3 ⊢
          have j0 : j ≠ 0 := by rintro rfl; rw [hx] at hb; injection hb with hb; subst hb; rw [d1] at hdb; cases hdb
          have j1 : j ≠ L.length - 1 := by rintro rfl; rw [hy] at hb; injection hb with hb; subst hb; rw [d2] at hdb; cases hdb
          simp [hdb, show 0 < j by omega, show j + 1 < L.length by omega]
      rw [hn] at h; cases h
    · rfl
  · intro h
    cases hn : anyI (badL L.length) 0 L with
    | true => rfl
    | false =>
      exfalso
      rw [anyI_false] at hn
      have hl := lt_of_get hy
      have az_dash : ∀ b, dashB b = true → azB b = false := by
        intro b hb
        unfold dashB at hb
        unfold azB
        simp only [decide_eq_true_eq] at hb
        simp [hb]
      simp only [Bool.or_eq_true] at h
      rcases h with h | h | h
      · have := hn 0 x hx
        simp [badL, h, az_dash x h] at this
      · have := hn _ y hy
        simp [badL, h, az_dash y h] at this
        omega
      · obtain ⟨b, hb, h2⟩ := List.any_eq_true.1 h
        obtain ⟨j, hj⟩ := List.mem_iff_getElem?.1 hb
        have := hn j b hj
        unfold badL at this
        simp only [Bool.not_eq_true', Bool.or_eq_false_iff] at h2
        simp [h2.1, h2.2] at this
theorem spec_IsLabel_n (s : ByteArray) (h : s.size ≤ 1048576) (k) : call spec_IsLabel [.one (.str s)] k = k [.bool (sLabel s)] := call_of (fun k => by
  have hs := size_data s
  unfold sLabel
  cases hr : inR s.size 1 8 with
  | false => simp [spec_IsLabel, spec_l1In_n, hr]
  | true =>
    have h1 : 1 ≤ s.size := by unfold inR at hr; simp at hr; omega
    obtain ⟨x, hx⟩ : ∃ x, s.data.toList[0]? = some x := ⟨s.data.toList[0]'(by omega), List.getElem?_eq_getElem (by omega)⟩
    obtain ⟨y, hy⟩ : ∃ y, s.data.toList[s.data.toList.length - 1]? = some y := ⟨_, List.getElem?_eq_getElem (by omega)⟩
    have hl : IntKind.i64.wrap ((s.size : Int) - 1) = ((s.size - 1 : Nat) : Int) := by rw [wr_eq (by omega) (by omega)]; omega
    have hy' : s.data.toList[s.size - 1]? = some y := hy
    rw [label_eq _ x y hx hy]
    simp only [spec_IsLabel, lenS_eq, spec_l1In_n, hr, unP_not, atP_zero, iteP_eq, binP_sub, hl, binP_eql, beqI, charP_eq, Int.toNat_natCast, show ((0 : Int)).toNat = 0 from rfl, hx, hy', oP, rt_eq, scs_sc, scs_nil, flat_bool, true_and, Bool.not_true, Bool.false_eq_true, if_false, show (0 : Int) ≤ 0 by omega, show (0 : Int) ≤ ((s.size - 1 : Nat) : Int) by omega]
    rw [show decide ((x.toNat : Int) = 45) = dashB x from rfl, show decide ((y.toNat : Int) = 45) = dashB y from rfl]
    have key : lp (fun L w => spec_IsLabel_r0 w L (k [PV.bool false]) fun q29 q30 q31 => k [PV.bool true]) [PV.str s, PV.bool false, I 0] ↔ k [.bool (!(s.data.toList.any fun b => !(azB b || dashB b)))] := by
      refine (lp_any (P := k [.bool false]) (fin := k [.bool true]) s.data.toList (fun i => [.str s, .bool false, I i]) (fun b => !(azB b || dashB b)) rfl (fun i x hx hi K => ?_) fun K => ?_).trans ?_
      · have hw := wr_succ (show i < 1000000000000000000 by omega)
        simp only [spec_IsLabel_r0, un, cur0, binP_lss, binP_leq, binP_geq, binP_gtr, binP_eql, binP_neq, binP_add, lenS_eq, charP_eq, Int.toNat_natCast, hx, oP, iteP_eq, unP_not, bne, beqI, hw, show decide ((i : Int) < s.size) = true by rw [hs]; simp; omega, if_true, show (0 : Int) ≤ i by omega, true_and]
        unfold azB dashB
        rw [show decide ((x.toNat : Int) < 97) = !decide (97 ≤ (x.toNat : Int)) by by_cases h : 97 ≤ (x.toNat : Int) <;> simp [h] <;> omega,
          show decide ((x.toNat : Int) < 48) = !decide (48 ≤ (x.toNat : Int)) by by_cases h : 48 ≤ (x.toNat : Int) <;> simp [h] <;> omega,
          show decide (122 < (x.toNat : Int)) = !decide ((x.toNat : Int) ≤ 122) by by_cases h : (x.toNat : Int) ≤ 122 <;> simp [h] <;> omega,
          show decide (57 < (x.toNat : Int)) = !decide ((x.toNat : Int) ≤ 57) by by_cases h : (x.toNat : Int) ≤ 57 <;> simp [h] <;> omega]
        generalize decide (97 ≤ (x.toNat : Int)) = b1
        generalize decide ((x.toNat : Int) ≤ 122) = b2
        generalize decide (48 ≤ (x.toNat : Int)) = b3
        generalize decide ((x.toNat : Int) ≤ 57) = b4
        generalize decide ((x.toNat : Int) = 45) = b5
        cases b1 <;> cases b2 <;> cases b3 <;> cases b4 <;> cases b5 <;> simp
      · simp only [spec_IsLabel_r0, un, cur0, binP_lss, lenS_eq, iteP_eq, show decide (((s.data.toList.length : Nat) : Int) < s.size) = false by rw [size_data]; simp]
        simp
      · cases (s.data.toList.any fun b => !(azB b || dashB b)) <;> simp
    rw [propext key]
    cases dashB x <;> cases dashB y <;> simp) k
def sIsPath (p : List ByteArray) : Bool := inR p.length 1 4 && !(p.any fun s => !sLabel s)
theorem path_le {p : List ByteArray} (h : p.length + sumN ByteArray.size p ≤ 1048576) : p.length ≤ 1048576 ∧ ∀ s ∈ p, s.size ≤ 1048576 := by
  refine ⟨by omega, fun s hs => ?_⟩
  have := sumN_mem (s := ByteArray.size) hs
  omega
theorem impl_IsPath_n (p : List ByteArray) (h : p.length + sumN ByteArray.size p ≤ 1048576) (k) : call impl_IsPath [.one (strs p)] k = k [.bool (sIsPath p)] := call_of (fun k => by
  obtain ⟨hl, hs⟩ := path_le h
  have e : ∀ k, call slices_IndexFunc_string_F_impl_IsPath_1 [.one (strs p), .fn 146 []] k = k [I (idx (fun s => !sLabel s) p)] := call_of (fun k => by
    simp [slices_IndexFunc_string_F_impl_IsPath_1]
    refine lp_find (Q := fun i => k [I i]) p (fun i => [strs p, I 0, I p.length, I i]) (fun s => !sLabel s) rfl (fun i x hx hi K => ?_) fun K => ?_
    · have e1 : ∀ k, call impl_IsPath_1 [.one (.str x)] k = k [.bool (!sLabel x)] := call_of (fun k => by simp [impl_IsPath_1, impl_IsLabel_n x (hs x (mem_get hx))])
      simp [-getElem?_pos, slices_IndexFunc_string_F_impl_IsPath_1_r0, hx, hi, e1, wr_succ (show i < 1000000000000000000 by omega)]
    · simp [slices_IndexFunc_string_F_impl_IsPath_1_r0])
  have e2 : ∀ k, call slices_ContainsFunc_string_F_impl_IsPath_1 [.one (strs p), .fn 146 []] k = k [.bool (p.any fun s => !sLabel s)] := call_of (fun k => by simp [slices_ContainsFunc_string_F_impl_IsPath_1, e, idx_any])
  simp only [impl_IsPath, lenP_eq, List.length_map, impl_InRange_n, e2, unP_not, atP_zero, iteP_eq, rt_eq, scs_sc, scs_nil, flat_bool, true_and]
  exact stepB fun _ => Iff.rfl) k
theorem spec_IsPath_n (p : List ByteArray) (h : p.length + sumN ByteArray.size p ≤ 1048576) (k) : call spec_IsPath [.one (strs p)] k = k [.bool (sIsPath p)] := call_of (fun k => by
  obtain ⟨hl, hs⟩ := path_le h
  simp only [spec_IsPath, rt_eq, scs_sc, scs_nil, flat_bool, true_and, lenP_eq, List.length_map, spec_l1In_n, atP_zero]
  refine (lp_any (P := k [.bool false]) (fin := k [.bool (inR p.length 1 4)]) p (fun i => [strs p, .bool false, I i]) (fun s => !sLabel s) rfl (fun i x hx hi K => ?_) fun K => ?_).trans ?_
  · have e := spec_IsLabel_n x (hs x (mem_get hx))
    simp [-getElem?_pos, spec_IsPath_r0, hx, hi, e, wr_succ (show i < 1000000000000000000 by omega)]
  · simp [spec_IsPath_r0, spec_l1In_n]
  · unfold sIsPath
    cases (p.any fun s => !sLabel s) <;> simp) k
def sIsEntry (e : GEntry) : Bool := sLabel e.Label && (if decide (e.Kind = 1) = true then inR e.Value 0 999999 && decide (e.Path.length = 0) else if decide (e.Kind = 2) = true then inR e.Value 0 2147483646 && decide (e.Path.length = 0) else if decide (e.Kind = 3) = true then inR e.Value 0 2147483646 && sIsPath e.Path else false)
theorem entry_le {e : GEntry} (h : mEntry e ≤ 1048576) : e.Label.size ≤ 1048576 ∧ e.Path.length + sumN ByteArray.size e.Path ≤ 1048576 := by unfold mEntry at h; omega
theorem len0 (n : Nat) : ((n : Int) == 0) = decide (n = 0) := by rw [beqI]; apply decide_eq_decide.2; omega
theorem impl_isDigest_n (x : Int) (k) : call impl_isDigest [.one (I x)] k = k [.bool (inR x 0 2147483646)] := call_of (fun k => by simp [impl_isDigest, impl_InRange_n]) k
theorem impl_IsEntry_n (e : GEntry) (h : mEntry e ≤ 1048576) (k) : call impl_IsEntry [.agg (eEntry e)] k = k [.bool (sIsEntry e)] := call_of (fun k => by
  obtain ⟨h1, h2⟩ := entry_le h
  have e1 := impl_IsLabel_n e.Label h1
  have e2 := impl_IsPath_n e.Path h2
  simp only [impl_IsEntry, un, cur0, e1, e2, impl_InRange_n, impl_isDigest_n, lenP_eq, List.length_map, binP_eql, len0, beqI, unP_not, atP_zero, iteP_eq, rt_eq, scs_sc, scs_nil, flat_bool, true_and, sIsEntry]
  refine stepN fun _ => ?_
  cases decide (e.Kind = 1) <;> cases decide (e.Kind = 2) <;> cases decide (e.Kind = 3) <;> cases inR e.Value 0 999999 <;> cases inR e.Value 0 2147483646 <;> simp) k
theorem spec_IsEntry_n (e : GEntry) (h : mEntry e ≤ 1048576) (k) : call spec_IsEntry [.agg (eEntry e)] k = k [.bool (sIsEntry e)] := call_of (fun k => by
  obtain ⟨h1, h2⟩ := entry_le h
  have e1 := spec_IsLabel_n e.Label h1
  have e2 := spec_IsPath_n e.Path h2
  simp only [spec_IsEntry, un, cur0, e1, e2, spec_l1In_n, lenP_eq, List.length_map, binP_eql, len0, beqI, unP_not, atP_zero, iteP_eq, rt_eq, scs_sc, scs_nil, flat_bool, true_and, sIsEntry]
  cases sLabel e.Label <;> cases decide (e.Kind = 1) <;> cases decide (e.Kind = 2) <;> cases decide (e.Kind = 3) <;> cases inR e.Value 0 999999 <;> cases inR e.Value 0 2147483646 <;> simp) k
theorem cmp_neg : ∀ (a b : List UInt8), Go.Lib.compareBytes b a = -Go.Lib.compareBytes a b
  | [], [] => rfl
  | [], _ :: _ => rfl
  | _ :: _, [] => rfl
  | x :: a, y :: b => by
    have ih := cmp_neg a b
    unfold Go.Lib.compareBytes
    by_cases h1 : x < y
    · have : ¬ y < x := by intro h; exact absurd (UInt8.lt_trans h1 h) (UInt8.lt_irrefl x)
      simp [h1, this]
    · by_cases h2 : y < x
      · simp [h1, h2]
      · simp [h1, h2, ih]

theorem cmp_range : ∀ (a b : List UInt8), Go.Lib.compareBytes a b = -1 ∨ Go.Lib.compareBytes a b = 0 ∨ Go.Lib.compareBytes a b = 1
  | [], [] => .inr (.inl rfl)
  | [], _ :: _ => .inl rfl
  | _ :: _, [] => .inr (.inr rfl)
  | x :: a, y :: b => by
    unfold Go.Lib.compareBytes
    split
    · exact .inl rfl
    · split
      · exact .inr (.inr rfl)
      · exact cmp_range a b

theorem cmp_less : ∀ (a b : List UInt8), Op.bytesLess a b = decide (Go.Lib.compareBytes a b = -1)
  | [], [] => by simp [Op.bytesLess, Go.Lib.compareBytes]
  | [], _ :: _ => by simp [Op.bytesLess, Go.Lib.compareBytes]
  | _ :: _, [] => by simp [Op.bytesLess, Go.Lib.compareBytes]
  | x :: a, y :: b => by
    have ih := cmp_less a b
    unfold Op.bytesLess Go.Lib.compareBytes
    by_cases h1 : x < y
    · simp [h1]
    · by_cases h2 : y < x
      · have : ¬ x = y := by rintro rfl; exact UInt8.lt_irrefl _ h2
        simp [h1, h2, this]
      · have : x = y := by
          apply UInt8.toNat_inj.1
          rw [UInt8.lt_iff_toNat_lt] at h1 h2
          omega
        simp [h1, h2, this, ih]

theorem cmp_eq0 : ∀ (a b : List UInt8), (a == b) = decide (Go.Lib.compareBytes a b = 0)
  | [], [] => by simp [Go.Lib.compareBytes]
  | [], _ :: _ => by simp [Go.Lib.compareBytes]
  | _ :: _, [] => by simp [Go.Lib.compareBytes]
  | x :: a, y :: b => by
    have ih := cmp_eq0 a b
    unfold Go.Lib.compareBytes
    rw [List.cons_beq_cons]
    by_cases h1 : x < y
    · have : ¬ x = y := by rintro rfl; exact UInt8.lt_irrefl _ h1
      simp [h1, this]
    · by_cases h2 : y < x
      · have : ¬ x = y := by rintro rfl; exact UInt8.lt_irrefl _ h2
        simp [h1, h2, this]
      · have : x = y := by
          apply UInt8.toNat_inj.1
          rw [UInt8.lt_iff_toNat_lt] at h1 h2
          omega
        simp [h1, h2, this, ih]
def cmpS (s t : ByteArray) : Int := Go.Lib.compareBytes s.data.toList t.data.toList
theorem impl_CompareLabels_n (s t : ByteArray) (k) : call impl_CompareLabels [.one (.str s), .one (.str t)] k = k [I (cmpS s t)] := call_of (fun k => by
  have e : ∀ k, call bytealg_CompareString [.one (.str s), .one (.str t)] k = k [I (cmpS s t)] := call_of (fun k => by simp [bytealg_CompareString, cmpS])
  have e2 : ∀ k, call strings_Compare [.one (.str s), .one (.str t)] k = k [I (cmpS s t)] := call_of (fun k => by simp [strings_Compare, e])
  simp [impl_CompareLabels, e2]) k
theorem spec_CompareLabels_n (s t : ByteArray) (k) : call spec_CompareLabels [.one (.str s), .one (.str t)] k = k [I (cmpS s t)] := call_of (fun k => by
  simp only [spec_CompareLabels, binP, toList_data, cmp_less, cmp_eq0, iteP_eq, rt_eq, scs_sc, scs_nil, flat_int, true_and]
  unfold cmpS
  rcases cmp_range s.data.toList t.data.toList with h | h | h <;> simp [h]) k
def badE (l : List GEntry) (i : Nat) (x : GEntry) : Bool := !sIsEntry x || (decide (0 < i) && (match l[i - 1]? with | some y => decide (cmpS x.Label y.Label ≤ 0) | none => false))
def sAreEntries (l : List GEntry) : Bool := !anyI (badE l) 0 l && decide ((l.length : Int) ≤ 12)
theorem entries_le {l : List GEntry} (h : mEntryS l ≤ 1048576) : l.length ≤ 1048576 ∧ ∀ x ∈ l, mEntry x ≤ 1048576 := by
  unfold mEntryS at h
  refine ⟨by omega, fun x hx => ?_⟩
  have := sumN_mem (s := mEntry) hx
  omega
theorem impl_AreEntries_n (l : List GEntry) (h : mEntryS l ≤ 1048576) (k) : call impl_AreEntries [.one (.list 4 (l.map eEntry))] k = k [.bool (sAreEntries l)] := call_of (fun k => by
  obtain ⟨hl, hx0⟩ := entries_le h
  simp only [impl_AreEntries, lenP_eq, List.length_map, rt_eq, scs_sc, scs_nil, flat_bool, true_and, binP_leq]
  refine (lp_anyI (P := k [.bool false]) (fin := k [.bool (decide ((l.length : Int) ≤ 12))]) l (fun i => [.list 4 (l.map eEntry), .bool false, .list 4 (l.map eEntry), I l.length, I i]) (badE l) rfl (fun i x hx hi K => ?_) fun K => ?_).trans ?_
  · have e := impl_IsEntry_n x (hx0 x (mem_get hx))
    by_cases h0 : i = 0
    · subst h0
      simp [-getElem?_pos, impl_AreEntries_r0, hx, hi, e, badE, wr_eq]
    · obtain ⟨y, hy⟩ : ∃ y, l[i - 1]? = some y := ⟨l[i - 1], List.getElem?_eq_getElem (by omega)⟩
      have c := cmp_neg x.Label.data.toList y.Label.data.toList
      have r := cmp_range x.Label.data.toList y.Label.data.toList
      have e2 := impl_CompareLabels_n x.Label y.Label
      simp [-getElem?_pos, impl_AreEntries_r0, hx, hi, hy, h0, e, e2, badE, show 0 < i by omega, wr_pred (show 0 < i by omega) (show i < 1000000000000000000 by omega), wr_succ (show i < 1000000000000000000 by omega)]
      cases sIsEntry x <;> by_cases h2 : cmpS x.Label y.Label ≤ 0 <;> simp [h2]
  · simp [impl_AreEntries_r0]
  · unfold sAreEntries
    cases anyI (badE l) 0 l <;> simp) k
theorem spec_AreEntries_n (l : List GEntry) (h : mEntryS l ≤ 1048576) (k) : call spec_AreEntries [.one (.list 4 (l.map eEntry))] k = k [.bool (sAreEntries l)] := call_of (fun k => by
  obtain ⟨hl, hx0⟩ := entries_le h
  simp only [spec_AreEntries, lenP_eq, List.length_map, rt_eq, scs_sc, scs_nil, flat_bool, true_and, binP_leq]
  refine (lp_anyI (P := k [.bool false]) (fin := k [.bool (decide ((l.length : Int) ≤ 12))]) l (fun i => [.list 4 (l.map eEntry), .bool false, I i]) (badE l) rfl (fun i x hx hi K => ?_) fun K => ?_).trans ?_
  · have e := spec_IsEntry_n x (hx0 x (mem_get hx))
    by_cases h0 : i = 0
    · subst h0
      simp [-getElem?_pos, spec_AreEntries_r0, hx, hi, e, badE, wr_eq]
    · obtain ⟨y, hy⟩ : ∃ y, l[i - 1]? = some y := ⟨l[i - 1], List.getElem?_eq_getElem (by omega)⟩
      have c := cmp_neg x.Label.data.toList y.Label.data.toList
      have r := cmp_range x.Label.data.toList y.Label.data.toList
      have e2 := spec_CompareLabels_n y.Label x.Label
      simp [-getElem?_pos, spec_AreEntries_r0, hx, hi, hy, h0, e, e2, badE, show 0 < i by omega, wr_pred (show 0 < i by omega) (show i < 1000000000000000000 by omega), wr_succ (show i < 1000000000000000000 by omega)]
      have c2 : cmpS y.Label x.Label = -cmpS x.Label y.Label := c
      have r2 : cmpS x.Label y.Label = -1 ∨ cmpS x.Label y.Label = 0 ∨ cmpS x.Label y.Label = 1 := r
      rw [c2]
      cases sIsEntry x <;> rcases r2 with r2 | r2 | r2 <;> simp [r2]
  · simp [spec_AreEntries_r0]
  · unfold sAreEntries
    cases anyI (badE l) 0 l <;> simp) k
def pathInts (p : List ByteArray) : List Int := p.flatMap sLabelInts
def entryInts (e : GEntry) : List Int := sLabelInts e.Label ++ ([e.Kind, e.Value, (e.Path.length : Int)] ++ pathInts e.Path)
theorem pathInts_len : ∀ (p : List ByteArray), (pathInts p).length = p.length + sumN ByteArray.size p
  | [] => rfl
  | s :: p => by
    have := pathInts_len p
    unfold pathInts at this ⊢
    simp only [List.flatMap_cons, List.length_append, List.length_cons, sLabelInts_len, sumN, this]
    omega
theorem entryInts_len (e : GEntry) : (entryInts e).length = mEntry e + 4 := by
  simp only [entryInts, List.length_append, sLabelInts_len, pathInts_len, List.length_cons, List.length_nil, mEntry]
  omega
theorem impl_EntryInts_n (e : GEntry) (h : mEntry e ≤ 1048576) (k) : call impl_EntryInts [.agg (eEntry e)] k = k [ints (entryInts e)] := call_of (fun k => by
  obtain ⟨h1, h2⟩ := entry_le h
  obtain ⟨hl, hs⟩ := path_le h2
  have e1 := impl_LabelInts_n e.Label (show e.Label.size < 1000000000 by omega)
  have e2 := sLabelInts_len e.Label
  simp only [impl_EntryInts, un, cur0, e1, lenP_eq, List.length_map, atP_zero, fc_int, true_and, show (3 : Nat) ≤ 16777216 by omega, ints, catP, e2, List.length_cons, List.length_nil, show e.Label.size + 1 + (0 + 1 + 1 + 1) < 1073741824 by omega, rt_eq, scs_own, scs_nil]
  refine lp_list e.Path (fun i => [strs e.Path, I e.Path.length, I i, .list 1 [], ints (sLabelInts e.Label ++ ([e.Kind, e.Value, (e.Path.length : Int)] ++ pathInts (e.Path.take i)))]) (by simp [ints, pathInts]) (fun i x hx hi K => ?_) fun K => ?_
  · have e3 := impl_LabelInts_n x (show x.size < 1000000000 by have := hs x (mem_get hx); omega)
    have e4 : pathInts (e.Path.take (i + 1)) = pathInts (e.Path.take i) ++ sLabelInts x := by
      unfold pathInts; rw [take_snoc hx, List.flatMap_append]; simp
    have e5 : (pathInts (e.Path.take i)).length ≤ 2097152 := by
      rw [pathInts_len]
      have := sumN_take_le ByteArray.size e.Path i
      have : (e.Path.take i).length ≤ e.Path.length := by simp; omega
      omega
    have e6 := sLabelInts_len x
    have e7 := hs x (mem_get hx)
    rw [e4]
    generalize pathInts (e.Path.take i) = A at e5
    simp [-getElem?_pos, impl_EntryInts_r0, hx, hi, e3, ints, catP, e2, e6, wr_succ (show i < 1000000000000000000 by omega)]
    try (intros; omega)
  · simp [impl_EntryInts_r0, entryInts, ints]) k
theorem impl_LeafOf_n (e : GEntry) (h : mEntry e ≤ 1048576) (k) : call impl_LeafOf [.agg (eEntry e)] k = k [I (sHash (227 :: entryInts e))] := call_of (fun k => by
  have hl := entryInts_len e
  have e1 := impl_EntryInts_n e h
  have e2 := impl_Hash_n (227 :: entryInts e) (by simp; omega)
  have e3 : PV.list 1 ([I 227] :: (entryInts e).map rI) = ints (227 :: entryInts e) := by simp [ints]
  simp [impl_LeafOf, fc_int, e1, catP, show 1 + (entryInts e).length < 1073741824 by omega]
  rw [e3, e2]
  simp
  try (intros; omega)) k
theorem spec_EntryInts_n (e : GEntry) (h : mEntry e ≤ 1048576) (k) : call spec_EntryInts [.agg (eEntry e)] k = k [ints (entryInts e)] := call_of (fun k => by
  obtain ⟨h1, h2⟩ := entry_le h
  obtain ⟨hl, hs⟩ := path_le h2
  have e1 := spec_LabelInts_n e.Label (show e.Label.size < 1000000000 by omega)
  have e2 := sLabelInts_len e.Label
  simp only [spec_EntryInts, un, cur0, e1, lenP_eq, List.length_map, atP_zero, fc_int, true_and, show (3 : Nat) ≤ 16777216 by omega, ints, catP, e2, List.length_cons, List.length_nil, show e.Label.size + 1 + (0 + 1 + 1 + 1) < 1073741824 by omega, rt_eq, scs_own, scs_nil]
  refine lp_list e.Path (fun i => [I i, .str e.Label, I e.Kind, I e.Value, strs e.Path, .list 1 [], ints (sLabelInts e.Label ++ ([e.Kind, e.Value, (e.Path.length : Int)] ++ pathInts (e.Path.take i)))]) (by simp [ints, pathInts]) (fun i x hx hi K => ?_) fun K => ?_
  · have e3 := spec_LabelInts_n x (show x.size < 1000000000 by have := hs x (mem_get hx); omega)
    have e4 : pathInts (e.Path.take (i + 1)) = pathInts (e.Path.take i) ++ sLabelInts x := by
      unfold pathInts; rw [take_snoc hx, List.flatMap_append]; simp
    have e5 : (pathInts (e.Path.take i)).length ≤ 2097152 := by
      rw [pathInts_len]
      have := sumN_take_le ByteArray.size e.Path i
      have : (e.Path.take i).length ≤ e.Path.length := by simp; omega
      omega
    have e6 := sLabelInts_len x
    have e7 := hs x (mem_get hx)
    rw [e4]
    generalize pathInts (e.Path.take i) = A at e5
    simp [-getElem?_pos, spec_EntryInts_r0, hx, hi, e3, ints, catP, e2, e6, wr_succ (show i < 1000000000000000000 by omega)]
    try (intros; omega)
  · simp [spec_EntryInts_r0, entryInts, ints]) k
theorem spec_LeafOf_n (e : GEntry) (h : mEntry e ≤ 1048576) (k) : call spec_LeafOf [.agg (eEntry e)] k = k [I (sHash (227 :: entryInts e))] := call_of (fun k => by
  have hl := entryInts_len e
  have e1 := spec_EntryInts_n e h
  have e2 := spec_Hash_n (227 :: entryInts e) (by simp; omega)
  have e3 : PV.list 1 ([I 227] :: (entryInts e).map rI) = ints (227 :: entryInts e) := by simp [ints]
  simp [spec_LeafOf, fc_int, e1, catP, show 1 + (entryInts e).length < 1073741824 by omega]
  rw [e3, e2]
  simp
  try (intros; omega)) k
def sLeaf (e : GEntry) : Int := sHash (227 :: entryInts e)
theorem impl_LeavesOf_n (l : List GEntry) (h : mEntryS l ≤ 1048576) (k) : call impl_LeavesOf [.one (.list 4 (l.map eEntry))] k = k [ints (l.map sLeaf)] := call_of (fun k => by
  obtain ⟨hl, hx0⟩ := entries_le h
  simp only [impl_LeavesOf, lenP_eq, List.length_map, rt_eq, scs_own, scs_nil, true_and, show (0 : Nat) ≤ 16777216 by omega]
  refine lp_list l (fun i => [.list 4 (l.map eEntry), I l.length, I i, .list 1 [], ints ((l.take i).map sLeaf)]) (by simp [ints]) (fun i x hx hi K => ?_) fun K => ?_
  · have e := impl_LeafOf_n x (hx0 x (mem_get hx))
    simp [-getElem?_pos, impl_LeavesOf_r0, hx, hi, e, fc_int, ints, catP, take_snoc hx, show i < 1073741823 by omega, show min i l.length < 1073741823 by omega, sLeaf, wr_succ (show i < 1000000000000000000 by omega)]
    try (intros; omega)
  · simp [impl_LeavesOf_r0]) k
theorem spec_LeavesOf_n (l : List GEntry) (h : mEntryS l ≤ 1048576) (k) : call spec_LeavesOf [.one (.list 4 (l.map eEntry))] k = k [ints (l.map sLeaf)] := call_of (fun k => by
  obtain ⟨hl, hx0⟩ := entries_le h
  simp only [spec_LeavesOf, lenP_eq, List.length_map, rt_eq, scs_own, scs_nil, true_and, show (0 : Nat) ≤ 16777216 by omega]
  refine lp_list l (fun i => [.list 4 (l.map eEntry), I i, .list 1 [], ints ((l.take i).map sLeaf)]) (by simp [ints]) (fun i x hx hi K => ?_) fun K => ?_
  · have e := spec_LeafOf_n x (hx0 x (mem_get hx))
    simp [-getElem?_pos, spec_LeavesOf_r0, hx, hi, e, fc_int, ints, catP, take_snoc hx, show i < 1073741823 by omega, show min i l.length < 1073741823 by omega, sLeaf, wr_succ (show i < 1000000000000000000 by omega)]
    try (intros; omega)
  · simp [spec_LeavesOf_r0]) k
def sNode (a b : Int) : Int := sHash [229, a, b]
def sAbove : List Int → List Int
  | a :: b :: l => sNode a b :: sAbove l
  | [a] => [a]
  | [] => []
theorem sAbove_app : ∀ (n : Nat) (m r : List Int), m.length = 2 * n → sAbove (m ++ r) = sAbove m ++ sAbove r
  | 0, [], r, _ => rfl
  | 0, _ :: _, r, h => by simp at h
  | n + 1, [], r, h => by simp at h
  | n + 1, [a], r, h => by simp at h; omega
  | n + 1, a :: b :: m, r, h => by
    have := sAbove_app n m r (by simp at h; omega)
    simp [sAbove, this]
theorem sAbove_len : ∀ (l : List Int), (sAbove l).length ≤ l.length ∧ (2 ≤ l.length → (sAbove l).length < l.length) ∧ (1 ≤ l.length → 1 ≤ (sAbove l).length)
  | [] => by simp [sAbove]
  | [a] => by simp [sAbove]
  | a :: b :: l => by
    have := sAbove_len l
    simp only [sAbove, List.length_cons]
    omega
def sTopN : Nat → List Int → Int
  | 0, _ => 0
  | n + 1, l => if 1 < l.length then sTopN n (sAbove l) else l.headD 0
def sTop (l : List Int) : Int := if l.length = 0 then sHash [229] else sTopN (l.length + 1) l
def sRoot (l : List GEntry) : Int := sHash [231, (l.length : Int), sTop (l.map sLeaf)]
theorem impl_NodeOf_n (a b : Int) (k) : call impl_NodeOf [.one (I a), .one (I b)] k = k [I (sNode a b)] := call_of (fun k => by
  have eh : ∀ (l : List Int), l.length < 1000 → ∀ k, call impl_hash [.one (ints l)] k = k [I (sHash l)] := fun l hl => call_of (fun k => by simp [impl_hash, impl_Hash_n l (by omega)])
  have e := eh [229, a, b] (by simp)
  rw [show ints [229, a, b] = PV.list 1 [[I 229], [I a], [I b]] from rfl] at e
  simp [impl_NodeOf, fc_int, e, sNode]) k
theorem impl_above_n (l : List Int) (h : l.length ≤ 1048576) (k) : call impl_above [.one (ints l)] k = k [ints (sAbove l)] := call_of (fun k => by
  simp only [impl_above, rt_eq, scs_own, scs_nil, true_and, show (0 : Nat) ≤ 16777216 by omega]
  refine lp_nat ((l.length + 1) / 2) (fun j => [ints l, I ((2 * j : Nat) : Int), .list 1 [], ints (sAbove (l.take (2 * j)))]) (by simp [ints, sAbove]) (fun j hj K => ?_) fun K => ?_
  · have hlt : 2 * j < l.length := by omega
    obtain ⟨x, hx⟩ : ∃ x, l[2 * j]? = some x := ⟨l[2 * j], List.getElem?_eq_getElem hlt⟩
    have t1 : l.take (2 * j + 1) = l.take (2 * j) ++ [x] := take_snoc hx
    have hll : (l.take (2 * j)).length = 2 * j := by simp; omega
    have hA : (sAbove (l.take (2 * j))).length ≤ 1048576 := by have := (sAbove_len (l.take (2 * j))).1; omega
    have w1 : IntKind.i64.wrap (((2 * j : Nat) : Int) + 1) = ((2 * j + 1 : Nat) : Int) := by rw [wr_eq (by omega) (by omega)]; omega
    have w2 : IntKind.i64.wrap (((2 * j : Nat) : Int) + 2) = ((2 * (j + 1) : Nat) : Int) := by rw [wr_eq (by omega) (by omega)]; omega
    by_cases h2 : 2 * j + 1 < l.length
    · obtain ⟨y, hy⟩ : ∃ y, l[2 * j + 1]? = some y := ⟨l[2 * j + 1], List.getElem?_eq_getElem h2⟩
      have t2 : l.take (2 * (j + 1)) = l.take (2 * j) ++ [x, y] := by
        rw [show 2 * (j + 1) = 2 * j + 1 + 1 by omega, take_snoc hy, t1]; simp
      rw [t2, sAbove_app j _ _ hll]
      generalize sAbove (l.take (2 * j)) = A at hA
      simp only [impl_above_r0, un, cur0, binP_lss, binP_add, lenP_eq, ints, List.length_map, iteP_eq, w1, w2, show decide (((2 * j : Nat) : Int) < (l.length : Int)) = true by simp; omega, show decide (((2 * j + 1 : Nat) : Int) < (l.length : Int)) = true by simp; omega, if_true, elemP, Int.toNat_natCast, List.getElem?_map, hx, hy, Option.map_some, show (0 : Int) ≤ ((2 * j : Nat) : Int) by omega, show (0 : Int) ≤ ((2 * j + 1 : Nat) : Int) by omega, true_and, atP_zero, impl_NodeOf_n, fc_int, catP, List.length_cons, List.length_nil, show A.length + (0 + 1) < 1073741824 by omega]
      simp [sAbove]
    · have t2 : l.take (2 * (j + 1)) = l.take (2 * j) ++ [x] := by
        rw [← t1, List.take_of_length_le (by omega), List.take_of_length_le (by omega)]
      rw [t2, sAbove_app j _ _ hll]
      generalize sAbove (l.take (2 * j)) = A at hA
      simp only [impl_above_r0, un, cur0, binP_lss, binP_add, lenP_eq, ints, List.length_map, iteP_eq, w1, w2, show decide (((2 * j : Nat) : Int) < (l.length : Int)) = true by simp; omega, show decide (((2 * j + 1 : Nat) : Int) < (l.length : Int)) = false by simp; omega, if_true, Bool.false_eq_true, if_false, elemP, Int.toNat_natCast, List.getElem?_map, hx, Option.map_some, show (0 : Int) ≤ ((2 * j : Nat) : Int) by omega, true_and, atP_zero, fc_int, catP, List.length_cons, List.length_nil, show A.length + (0 + 1) < 1073741824 by omega]
      simp [sAbove]
  · have : l.take (2 * ((l.length + 1) / 2)) = l := List.take_of_length_le (by omega)
    rw [this]
    simp only [impl_above_r0, un, cur0, binP_lss, lenP_eq, ints, List.length_map, iteP_eq, show decide (((2 * ((l.length + 1) / 2) : Nat) : Int) < (l.length : Int)) = false by simp; omega]
    simp) k
theorem impl_TopOf_lp (k : List PV → Prop) : ∀ (n : Nat) (l : List Int), l.length < n → 1 ≤ l.length → l.length ≤ 1048576 → (lp (fun L w => impl_TopOf_r0 w L (fun q3 q4 => elemP 1 q3 (I 0) fun c5 => rt [.sc] [atP c5 0] k)) [ints l, I 0] ↔ k [I (sTopN n l)])
  | 0, l, h, _, _ => by omega
  | n + 1, l, h, h1, h2 => by
    unfold sTopN
    by_cases hl : 1 < l.length
    · have ha := sAbove_len l
      have ih := impl_TopOf_lp k n (sAbove l) (by omega) (by omega) (by omega)
      rw [if_pos hl]
      refine (lp_step fun K => ?_).trans ih
      have e := impl_above_n l h2
      simp [impl_TopOf_r0, show (1 : Int) < l.length by omega, e]
    · rw [if_neg hl]
      refine itP_mono_end fun K => ?_
      match l, h1, hl with
      | [a], _, _ => simp [impl_TopOf_r0, ints, elemP]
      | _ :: _ :: _, _, hl => simp at hl
theorem impl_TopOf_n (l : List Int) (h : l.length ≤ 1048576) (k) : call impl_TopOf [.one (ints l)] k = k [I (sTop l)] := call_of (fun k => by
  have eh : ∀ (l : List Int), l.length < 1000 → ∀ k, call impl_hash [.one (ints l)] k = k [I (sHash l)] := fun l hl => call_of (fun k => by simp [impl_hash, impl_Hash_n l (by omega)])
  unfold sTop
  by_cases h0 : l.length = 0
  · have : l = [] := List.eq_nil_of_length_eq_zero h0
    subst this
    have e := eh [229] (by simp)
    rw [show ints [229] = PV.list 1 [[I 229]] from rfl] at e
    simp [impl_TopOf, fc_int, e]
  · rw [if_neg h0]
    have e := impl_TopOf_lp k (l.length + 1) l (by omega) (by omega) h
    rw [← e]
    simp [impl_TopOf, show ¬ (l.length : Int) = 0 by omega, show ¬ l = [] by (rintro rfl; simp at h0)]) k
theorem impl_rootFrom_n (a b : Int) (k) : call impl_rootFrom [.one (I a), .one (I b)] k = k [I (sHash [231, a, b])] := call_of (fun k => by
  have eh : ∀ (l : List Int), l.length < 1000 → ∀ k, call impl_hash [.one (ints l)] k = k [I (sHash l)] := fun l hl => call_of (fun k => by simp [impl_hash, impl_Hash_n l (by omega)])
  have e := eh [231, a, b] (by simp)
  rw [show ints [231, a, b] = PV.list 1 [[I 231], [I a], [I b]] from rfl] at e
  simp [impl_rootFrom, fc_int, e]) k
theorem impl_RootOf_n (l : List GEntry) (h : mEntryS l ≤ 1048576) (k) : call impl_RootOf [.one (.list 4 (l.map eEntry))] k = k [I (sRoot l)] := call_of (fun k => by
  have hl := (entries_le h).1
  have e1 := impl_LeavesOf_n l h
  have e2 := impl_TopOf_n (l.map sLeaf) (by simpa using hl)
  simp [impl_RootOf, e1, e2, impl_rootFrom_n, sRoot]) k
theorem spec_NodeOf_n (a b : Int) (k) : call spec_NodeOf [.one (I a), .one (I b)] k = k [I (sNode a b)] := call_of (fun k => by
  have eh : ∀ (l : List Int), l.length < 1000 → ∀ k, call spec_Hash [.one (ints l)] k = k [I (sHash l)] := fun l hl => spec_Hash_n l (by omega)
  have e := eh [229, a, b] (by simp)
  rw [show ints [229, a, b] = PV.list 1 [[I 229], [I a], [I b]] from rfl] at e
  simp [spec_NodeOf, fc_int, e, sNode]) k
theorem spec_l10Up_n (l : List Int) (h : l.length ≤ 1048576) (k) : call spec_l10Up [.one (ints l)] k = k [ints (sAbove l)] := call_of (fun k => by
  simp only [spec_l10Up, rt_eq, scs_own, scs_nil, true_and, show (0 : Nat) ≤ 16777216 by omega]
  refine lp_nat ((l.length + 1) / 2) (fun j => [ints l, I ((2 * j : Nat) : Int), .list 1 [], ints (sAbove (l.take (2 * j)))]) (by simp [ints, sAbove]) (fun j hj K => ?_) fun K => ?_
  · have hlt : 2 * j < l.length := by omega
    obtain ⟨x, hx⟩ : ∃ x, l[2 * j]? = some x := ⟨l[2 * j], List.getElem?_eq_getElem hlt⟩
    have t1 : l.take (2 * j + 1) = l.take (2 * j) ++ [x] := take_snoc hx
    have hll : (l.take (2 * j)).length = 2 * j := by simp; omega
    have hA : (sAbove (l.take (2 * j))).length ≤ 1048576 := by have := (sAbove_len (l.take (2 * j))).1; omega
    have w1 : IntKind.i64.wrap (((2 * j : Nat) : Int) + 1) = ((2 * j + 1 : Nat) : Int) := by rw [wr_eq (by omega) (by omega)]; omega
    have w2 : IntKind.i64.wrap (((2 * j : Nat) : Int) + 2) = ((2 * (j + 1) : Nat) : Int) := by rw [wr_eq (by omega) (by omega)]; omega
    by_cases h2 : 2 * j + 1 < l.length
    · obtain ⟨y, hy⟩ : ∃ y, l[2 * j + 1]? = some y := ⟨l[2 * j + 1], List.getElem?_eq_getElem h2⟩
      have t2 : l.take (2 * (j + 1)) = l.take (2 * j) ++ [x, y] := by
        rw [show 2 * (j + 1) = 2 * j + 1 + 1 by omega, take_snoc hy, t1]; simp
      rw [t2, sAbove_app j _ _ hll]
      generalize sAbove (l.take (2 * j)) = A at hA
      simp only [spec_l10Up_r0, un, cur0, binP_lss, binP_add, lenP_eq, ints, List.length_map, iteP_eq, w1, w2, show decide (((2 * j : Nat) : Int) < (l.length : Int)) = true by simp; omega, show decide (((2 * j + 1 : Nat) : Int) < (l.length : Int)) = true by simp; omega, if_true, elemP, Int.toNat_natCast, List.getElem?_map, hx, hy, Option.map_some, show (0 : Int) ≤ ((2 * j : Nat) : Int) by omega, show (0 : Int) ≤ ((2 * j + 1 : Nat) : Int) by omega, true_and, atP_zero, spec_NodeOf_n, fc_int, catP, List.length_cons, List.length_nil, show A.length + (0 + 1) < 1073741824 by omega]
      simp [sAbove]
    · have t2 : l.take (2 * (j + 1)) = l.take (2 * j) ++ [x] := by
        rw [← t1, List.take_of_length_le (by omega), List.take_of_length_le (by omega)]
      rw [t2, sAbove_app j _ _ hll]
      generalize sAbove (l.take (2 * j)) = A at hA
      simp only [spec_l10Up_r0, un, cur0, binP_lss, binP_add, lenP_eq, ints, List.length_map, iteP_eq, w1, w2, show decide (((2 * j : Nat) : Int) < (l.length : Int)) = true by simp; omega, show decide (((2 * j + 1 : Nat) : Int) < (l.length : Int)) = false by simp; omega, if_true, Bool.false_eq_true, if_false, elemP, Int.toNat_natCast, List.getElem?_map, hx, Option.map_some, show (0 : Int) ≤ ((2 * j : Nat) : Int) by omega, true_and, atP_zero, fc_int, catP, List.length_cons, List.length_nil, show A.length + (0 + 1) < 1073741824 by omega]
      simp [sAbove]
  · have : l.take (2 * ((l.length + 1) / 2)) = l := List.take_of_length_le (by omega)
    rw [this]
    simp only [spec_l10Up_r0, un, cur0, binP_lss, lenP_eq, ints, List.length_map, iteP_eq, show decide (((2 * ((l.length + 1) / 2) : Nat) : Int) < (l.length : Int)) = false by simp; omega]
    simp) k
theorem spec_TopOf_lp (k : List PV → Prop) : ∀ (n : Nat) (l : List Int), l.length < n → 1 ≤ l.length → l.length ≤ 1048576 → (lp (fun L w => spec_TopOf_r0 w L (fun q3 q4 => elemP 1 q4 (I 0) fun c5 => rt [.sc] [atP c5 0] k)) [I 0, ints l] ↔ k [I (sTopN n l)])
  | 0, l, h, _, _ => by omega
  | n + 1, l, h, h1, h2 => by
    unfold sTopN
    by_cases hl : 1 < l.length
    · have ha := sAbove_len l
      have ih := spec_TopOf_lp k n (sAbove l) (by omega) (by omega) (by omega)
      rw [if_pos hl]
      refine (lp_step fun K => ?_).trans ih
      have e := spec_l10Up_n l h2
      simp [spec_TopOf_r0, show (1 : Int) < l.length by omega, e]
    · rw [if_neg hl]
      refine itP_mono_end fun K => ?_
      match l, h1, hl with
      | [a], _, _ => simp [spec_TopOf_r0, ints, elemP]
      | _ :: _ :: _, _, hl => simp at hl
theorem spec_TopOf_n (l : List Int) (h : l.length ≤ 1048576) (k) : call spec_TopOf [.one (ints l)] k = k [I (sTop l)] := call_of (fun k => by
  have eh : ∀ (l : List Int), l.length < 1000 → ∀ k, call spec_Hash [.one (ints l)] k = k [I (sHash l)] := fun l hl => spec_Hash_n l (by omega)
  unfold sTop
  by_cases h0 : l.length = 0
  · have : l = [] := List.eq_nil_of_length_eq_zero h0
    subst this
    have e := eh [229] (by simp)
    rw [show ints [229] = PV.list 1 [[I 229]] from rfl] at e
    simp [spec_TopOf, fc_int, e]
  · rw [if_neg h0]
    have e := spec_TopOf_lp k (l.length + 1) l (by omega) (by omega) h
    rw [← e]
    simp [spec_TopOf, show ¬ (l.length : Int) = 0 by omega, show ¬ l = [] by (rintro rfl; simp at h0)]) k
theorem spec_l10Root_n (a b : Int) (k) : call spec_l10Root [.one (I a), .one (I b)] k = k [I (sHash [231, a, b])] := call_of (fun k => by
  have eh : ∀ (l : List Int), l.length < 1000 → ∀ k, call spec_Hash [.one (ints l)] k = k [I (sHash l)] := fun l hl => spec_Hash_n l (by omega)
  have e := eh [231, a, b] (by simp)
  rw [show ints [231, a, b] = PV.list 1 [[I 231], [I a], [I b]] from rfl] at e
  simp [spec_l10Root, fc_int, e]) k
theorem spec_RootOf_n (l : List GEntry) (h : mEntryS l ≤ 1048576) (k) : call spec_RootOf [.one (.list 4 (l.map eEntry))] k = k [I (sRoot l)] := call_of (fun k => by
  have hl := (entries_le h).1
  have e1 := spec_LeavesOf_n l h
  have e2 := spec_TopOf_n (l.map sLeaf) (by simpa using hl)
  simp [spec_RootOf, e1, e2, spec_l10Root_n, sRoot]) k
def sCheckAll (root : Int) (l : List GEntry) : Bool := sAreEntries l && decide (sRoot l = root)
theorem impl_CheckAll_n (root : Int) (l : List GEntry) (h : mEntryS l ≤ 1048576) (k) : call impl_CheckAll [.one (I root), .one (.list 4 (l.map eEntry))] k = k [.bool (sCheckAll root l)] := call_of (fun k => by
  have e1 := impl_AreEntries_n l h
  have e2 := impl_RootOf_n l h
  simp only [impl_CheckAll, e1, e2, binP_eql, beqI, atP_zero, iteP_eq, rt_eq, scs_sc, scs_nil, flat_bool, true_and]
  exact stepB fun _ => Iff.rfl) k
theorem spec_CheckAll_n (root : Int) (l : List GEntry) (h : mEntryS l ≤ 1048576) (k) : call spec_CheckAll [.one (I root), .one (.list 4 (l.map eEntry))] k = k [.bool (sCheckAll root l)] := call_of (fun k => by
  have e1 := spec_AreEntries_n l h
  have e2 := spec_RootOf_n l h
  simp only [spec_CheckAll, e1, e2, binP_eql, beqI, atP_zero, iteP_eq, rt_eq, scs_sc, scs_nil, flat_bool, true_and]
  exact stepB fun _ => Iff.rfl) k
def sIsZone (z : GZone) : Bool := match sLast z.Chain with | some p => decide (p.Count = (z.Entries.length : Int)) && sCheckAll p.Root z.Entries | none => false
theorem last_some {l : List GSigned} {p : GHead} (h : sLast l = some p) : sIsChain l = true ∧ ∃ s, l[l.length - 1]? = some s ∧ s.Head = p := by
  unfold sLast at h
  split at h
  · rename_i hc
    obtain ⟨s, hs, hp⟩ := Option.map_eq_some_iff.1 h
    exact ⟨hc, s, hs, hp⟩
  · cases h
theorem last_none' {l : List GSigned} (h : sLast l = none) : sIsChain l = false := by
  unfold sLast at h
  cases hc : sIsChain l with
  | false => rfl
  | true =>
    obtain ⟨p, hp, _⟩ := chain_has hc
    rw [hc, if_pos rfl, hp] at h; cases h
theorem zone_le' {z : GZone} (h : mZone z ≤ 1048576) : mSignedS z.Chain ≤ 1048576 ∧ mEntryS z.Entries ≤ 1048576 := by unfold mZone at h; omega
theorem spec_IsZone_n (z : GZone) (h : mZone z ≤ 1048576) (k) : call spec_IsZone [.agg (eZone z)] k = k [.bool (sIsZone z)] := call_of (fun k => by
  obtain ⟨h1, h2⟩ := zone_le' h
  have e := spec_LastHead_n z.Chain h1
  unfold sIsZone
  cases hs : sLast z.Chain with
  | none => simp [spec_IsZone, e, hs, oHead, zHead]
  | some p =>
    have e2 := spec_CheckAll_n p.Root z.Entries h2
    simp [spec_IsZone, e, hs, oHead, e2]
    by_cases hc : p.Count = (z.Entries.length : Int) <;> simp [hc]) k
theorem impl_IsZone_n (z : GZone) (h : mZone z ≤ 1048576) (k) : call impl_IsZone [.agg (eZone z)] k = k [.bool (sIsZone z)] := call_of (fun k => by
  obtain ⟨h1, h2⟩ := zone_le' h
  have e := impl_IsChain_n z.Chain h1
  unfold sIsZone
  cases hs : sLast z.Chain with
  | none => simp [impl_IsZone, e, last_none' hs]
  | some p =>
    obtain ⟨hc, s, hp, rfl⟩ := last_some hs
    have e1 := impl_last_n z.Chain s (chain_le h1).1 hp
    have e2 := impl_CheckAll_n s.Head.Root z.Entries h2
    simp [impl_IsZone, e, hc, e1, e2]
    by_cases hc : s.Head.Count = (z.Entries.length : Int) <;> simp [hc]) k
end Go.Ev
set_option linter.unusedVariables false
set_option linter.unusedSimpArgs false
set_option maxRecDepth 4000
namespace Go.Ev
open Go.Proofs
/-! ### Numerals, joined texts -/
def inI (n : Int) : Prop := -9223372036854775808 ≤ n ∧ n ≤ 9223372036854775807
abbrev S (l : List UInt8) : PV := .str ⟨l.toArray⟩
theorem S_of (s : ByteArray) : PV.str s = S s.data.toList := by cases s; rfl
theorem bin_str (a b : List UInt8) (k : PV → Prop) : binP .add (S a) (S b) k = (a.length + b.length ≤ 9223372036854775807 ∧ k (S (a ++ b))) := by
  have e : (⟨a.toArray⟩ : ByteArray) ++ ⟨b.toArray⟩ = ⟨(a ++ b).toArray⟩ := by
    apply ByteArray.ext
    rw [ByteArray.data_append]
    simp
  have h1 : (⟨a.toArray⟩ : ByteArray).size = a.length := by simp [ByteArray.size]
  have h2 : (⟨b.toArray⟩ : ByteArray).size = b.length := by simp [ByteArray.size]
  show (_ ∧ k _) = _
  rw [h1, h2, e]
theorem text_one (n : Int) (k : PV → Prop) : textP (.list 1 [[.int .u8 n]]) k = k (S [UInt8.ofNat n.toNat]) := rfl
def digs (u : Nat) : List UInt8 := if u = 0 then [] else Go.Lib.decDigits u
theorem digs_step {u : Nat} (h : u ≠ 0) : digs u = digs (u / 10) ++ [UInt8.ofNat (48 + u % 10)] := by
  unfold digs
  rw [if_neg h]
  by_cases h1 : u < 10
  · rw [Go.Lib.decDigits_one h1, if_pos (by omega), show u % 10 = u by omega]; rfl
  · rw [if_neg (by omega), Go.Lib.decDigits, dif_neg h1]
theorem digs_len : ∀ (m u : Nat), u < 10 ^ m → (digs u).length ≤ m
  | 0, u, h => by
    have : u = 0 := by simpa using h
    subst this; simp [digs]
  | m + 1, u, h => by
    by_cases h0 : u = 0
    · subst h0; simp [digs]
    · rw [digs_step h0, List.length_append]
      have h2 : u / 10 < 10 ^ m := by rw [Nat.pow_succ] at h; omega
      have := digs_len m (u / 10) h2
      simp only [List.length_singleton]; omega
theorem wr_tmod (x : Int) : (x.tmod 10).natAbs = x.natAbs % 10 := by rw [Int.natAbs_tmod]; rfl
theorem wr_tdiv (x : Int) : (x.tdiv 10).natAbs = x.natAbs / 10 := by rw [Int.natAbs_tdiv]; rfl
theorem u8_digit {d : Nat} (h : d < 10) : IntKind.u8.wrap (48 + (d : Int)) = ((48 + d : Nat) : Int) := by
  have : ∀ d : Fin 10, IntKind.u8.wrap (48 + ((d : Nat) : Int)) = ((48 + (d : Nat) : Nat) : Int) := by decide
  exact this ⟨d, h⟩
theorem fc_u8 (n : Int) : flatCond [.pv (.int .u8 0)] [.pv (.int .u8 n)] := by intro x hx; simp at hx; subst hx; rfl
theorem tdiv_in {x : Int} (h : inI x) : IntKind.i64.wrap (x.tdiv 10) = x.tdiv 10 := by
  have h1 := wr_tdiv x
  unfold inI at h
  exact wr_eq (by omega) (by omega)
theorem fmt_lp (n : Int) (z : PV) (A : PV → PV → Prop) : ∀ (m : Nat) (x : Int) (s : List UInt8), x.natAbs < 10 ^ m → inI x → s.length + m ≤ 1000 →
    (lp (fun L w => spec_FormatInt_r0 w L (fun q14 q15 q16 q17 => A q14 q16)) [I n, z, S s, I x] ↔ A (I n) (S (digs x.natAbs ++ s)))
  | 0, x, s, h, hx, hs => by
    have h0 : x = 0 := by have : x.natAbs = 0 := by simpa using h
                          omega
    subst h0
    refine itP_mono_end fun K => ?_
    simp [spec_FormatInt_r0, digs]
  | m + 1, x, s, h, hx, hs => by
    by_cases h0 : x = 0
    · subst h0
      refine itP_mono_end fun K => ?_
      simp [spec_FormatInt_r0, digs]
    · have hd : x.natAbs % 10 < 10 := Nat.mod_lt _ (by omega)
      have hq : (x.tdiv 10).natAbs < 10 ^ m := by rw [wr_tdiv]; rw [Nat.pow_succ] at h; omega
      have hqi : inI (x.tdiv 10) := by have := wr_tdiv x; unfold inI at *; omega
      have ih := fmt_lp n z A m (x.tdiv 10) (UInt8.ofNat (48 + x.natAbs % 10) :: s) hq hqi (by simp only [List.length_cons]; omega)
      have he : digs (x.tdiv 10).natAbs ++ (UInt8.ofNat (48 + x.natAbs % 10) :: s) = digs x.natAbs ++ s := by
        rw [digs_step (u := x.natAbs) (by omega), wr_tdiv, List.append_assoc]; rfl
      rw [he] at ih
      refine (lp_step fun K => ?_).trans ih
      have hm := wr_tmod x
      have hb : 1 + s.length ≤ 9223372036854775807 := by omega
      have hdiv := tdiv_in hx
      simp only [spec_FormatInt_r0, un, cur0, binP_neq, bne, beqI, h0, decide_false, Bool.not_false, iteP_eq, if_true, binP_rem, binP_lss]
      by_cases hneg : x.tmod 10 < 0
      · have e1 : IntKind.i64.wrap (0 - x.tmod 10) = ((x.natAbs % 10 : Nat) : Int) := by rw [wr_eq (by omega) (by omega)]; omega
        have e2 : IntKind.i64.wrap (48 + ((x.natAbs % 10 : Nat) : Int)) = 48 + ((x.natAbs % 10 : Nat) : Int) := wr_eq (by omega) (by omega)
        have e3 := u8_digit hd
        simp only [hneg, decide_true, if_true, unP, binP_add, convP, fc_u8, text_one, bin_str, binP_quo, hdiv, List.length_singleton, List.singleton_append, true_and, hb]
        rw [e1, e2, e3, Int.toNat_natCast]
        simp
      · have e1 : x.tmod 10 = ((x.natAbs % 10 : Nat) : Int) := by omega
        have e2 : IntKind.i64.wrap (48 + ((x.natAbs % 10 : Nat) : Int)) = 48 + ((x.natAbs % 10 : Nat) : Int) := wr_eq (by omega) (by omega)
        have e3 := u8_digit hd
        simp only [hneg, decide_false, Bool.false_eq_true, if_false, binP_add, convP, fc_u8, text_one, bin_str, binP_quo, hdiv, List.length_singleton, List.singleton_append, true_and, hb]
        rw [e1, e2, e3, Int.toNat_natCast]
        simp
def itoa (n : Int) : List UInt8 := Go.Lib.itoa n
theorem itoa_len {n : Int} (h : inI n) : (itoa n).length ≤ 21 := Go.Lib.itoa_length_le n h.1 h.2
theorem spec_FormatInt_n (n : Int) (h : inI n) (k) : call spec_FormatInt [.one (I n)] k = k [S (itoa n)] := call_of (fun k => by
  have hlen := itoa_len h
  unfold inI at h
  by_cases h0 : n = 0
  · subst h0
    simp only [spec_FormatInt, binP_eql, beqI, decide_true, iteP_eq, if_true, rt_eq, scs_sc, scs_nil, true_and]
    rw [show itoa 0 = [48] by unfold itoa Go.Lib.itoa; rw [if_neg (by omega)]; exact Go.Lib.decDigits_one (by omega)]
    simp
  · simp only [spec_FormatInt, binP_eql, beqI, h0, decide_false, iteP_eq, Bool.false_eq_true, if_false]
    have hs : n.natAbs < 10 ^ 19 := by have : (10 : Nat) ^ 19 = 10000000000000000000 := rfl
                                       omega
    refine (fmt_lp n (S []) (fun a b => binP .lss a (I 0) fun r18 => iteP r18 (binP .add (S [45]) b fun r19 => rt [.sc] [r19] k) (rt [.sc] [b] k)) 19 n [] hs h (by simp)).trans ?_
    have hd := digs_len 19 _ hs
    unfold itoa Go.Lib.itoa digs
    rw [if_neg (by omega), List.append_nil]
    unfold digs at hd
    rw [if_neg (by omega)] at hd
    by_cases h1 : n < 0
    · rw [if_pos h1]
      simp only [binP_lss, h1, decide_true, iteP_eq, if_true, bin_str, rt_eq, scs_sc, scs_nil, true_and, List.singleton_append, List.length_singleton]
      simp; omega
    · rw [if_neg h1, show n.toNat = n.natAbs by omega]
      simp only [binP_lss, h1, decide_false, iteP_eq, Bool.false_eq_true, if_false, rt_eq, scs_sc, scs_nil, true_and]
      simp) k
theorem impl_FormatInt_n (n : Int) (h : inI n) (k) : call impl_FormatInt [.one (I n)] k = k [S (itoa n)] := call_of (fun k => by
  have e : ∀ k, call strconv_Itoa [.one (I n)] k = k [S (itoa n)] := call_of (fun k => by
    unfold inI at h
    simp only [strconv_Itoa, h.1, h.2, true_and, itoa])
  simp only [impl_FormatInt, e, atP_zero, rt_eq, scs_sc, scs_nil, true_and]
  simp) k
end Go.Ev
set_option linter.unusedVariables false
set_option linter.unusedSimpArgs false
set_option maxRecDepth 4000
namespace Go.Ev
open Go.Proofs
abbrev rL (l : List UInt8) : List PV := [S l]
theorem strsOf_rL : ∀ (L : List (List UInt8)), strsOf (L.map rL) = some (L.map fun l => ⟨l.toArray⟩)
  | [] => rfl
  | l :: L => by
    rw [List.map_cons]
    show (match strsOf (L.map rL) with | some m => some (_ :: m) | none => none) = _
    rw [strsOf_rL L]; rfl
theorem strs_rL (p : List ByteArray) : strs p = .list 1 ((p.map fun s => s.data.toList).map rL) := by
  show PV.list 1 (p.map rS) = _
  rw [List.map_map]
  rfl
theorem Join_n (L : List (List UInt8)) (sep : List UInt8) (h1 : L.length ≤ 140737488355328) (h2 : (Go.Lib.join L sep).length ≤ 140737488355328) (k) : call strings_Join [.one (.list 1 (L.map rL)), .one (S sep)] k = k [S (Go.Lib.join L sep)] := call_of (fun k => by
  have e : joinS (L.map fun l => (⟨l.toArray⟩ : ByteArray)) ⟨sep.toArray⟩ = Go.Lib.join L sep := by
    unfold joinS
    rw [List.map_map]
    simp [Function.comp_def]
  show (match strsOf (L.map rL) with | some l => _ | none => False) ↔ _
  rw [strsOf_rL]
  simp only [e, List.length_map, h1, h2, true_and]) k
theorem tail_len (sep : List UInt8) (c : Nat) : ∀ (r : List (List UInt8)), (∀ y ∈ r, y.length ≤ c) → (Go.Lib.joinTail sep r).length ≤ r.length * (sep.length + c)
  | [], _ => by simp [Go.Lib.joinTail]
  | y :: r, h => by
    have h1 := tail_len sep c r fun z hz => h z (by simp [hz])
    have h2 := h y (by simp)
    rw [show Go.Lib.joinTail sep (y :: r) = (sep ++ y) ++ Go.Lib.joinTail sep r from rfl, List.length_append, List.length_append, List.length_cons, Nat.succ_mul]
    omega
theorem join_len {sep : List UInt8} {c : Nat} {L : List (List UInt8)} (h : ∀ y ∈ L, y.length ≤ c) : (Go.Lib.join L sep).length ≤ L.length * (sep.length + c) := by
  cases L with
  | nil => rw [Go.Lib.join_nil]; simp
  | cons x r =>
    have h1 := tail_len sep c r fun z hz => h z (by simp [hz])
    have h2 := h x (by simp)
    rw [Go.Lib.join_cons, List.length_append, List.length_cons, Nat.succ_mul]
    omega
theorem join_take {L : List (List UInt8)} {sep : List UInt8} {i : Nat} {y : List UInt8} (h : L[i]? = some y) : Go.Lib.join (L.take (i + 1)) sep = if i = 0 then y else Go.Lib.join (L.take i) sep ++ (sep ++ y) := by
  cases L with
  | nil => simp at h
  | cons x r =>
    cases i with
    | zero => simp at h; subst h; simp [Go.Lib.join_one]
    | succ i =>
      have h1 : r[i]? = some y := by simpa using h
      rw [if_neg (by omega), List.take_succ_cons, List.take_succ_cons, Go.Lib.join_cons, Go.Lib.join_cons, Go.Lib.joinTail_take_succ sep r i y h1]
      simp [List.append_assoc]
def allI (l : List Int) : Prop := ∀ x ∈ l, inI x
def joinN (sep : List UInt8) (l : List Int) : List UInt8 := Go.Lib.join (l.map itoa) sep
theorem joinN_len {l : List Int} (hl : allI l) (sep : List UInt8) : (joinN sep l).length ≤ l.length * (sep.length + 21) := by
  have := join_len (sep := sep) (c := 21) (L := l.map itoa) (fun y hy => by
    obtain ⟨x, hx, rfl⟩ := List.mem_map.1 hy
    exact itoa_len (hl x hx))
  rwa [List.length_map] at this
theorem fc_str (s : ByteArray) : flatCond [.pv (.str ⟨#[]⟩)] [.pv (.str s)] := by intro x hx; simp at hx; subst hx; rfl
theorem impl_joined_n (sep : List UInt8) (l : List Int) (h : l.length ≤ 1048576) (hs : sep.length ≤ 10) (hl : allI l) (k) : call impl_joined [.one (S sep), .one (ints l)] k = k [S (joinN sep l)] := call_of (fun k => by
  have hlen := joinN_len hl sep
  have hb : l.length * (sep.length + 21) ≤ 1048576 * 31 := Nat.mul_le_mul h (by omega)
  simp only [impl_joined, lenP_eq, List.length_map, true_and, show (0 : Nat) ≤ 16777216 by omega]
  refine lp_list l (fun i => [S sep, .str ⟨#[]⟩, ints l, I l.length, I i, .list 1 (((l.take i).map itoa).map rL)]) (by simp) (fun i x hx hi K => ?_) fun K => ?_
  · have e := impl_FormatInt_n x (hl x (mem_get hx))
    have hm : (l.take (i + 1)).map itoa = (l.take i).map itoa ++ [itoa x] := by rw [take_snoc hx, List.map_append]; rfl
    rw [hm]
    have hti : (l.take i).length = i := by simp; omega
    simp [-getElem?_pos, impl_joined_r0, hx, hi, e, fc_str, catP, wr_succ (show i < 1000000000000000000 by omega)]
    omega
  · simp only [impl_joined_r0, un, cur0, binP_lss, Int.lt_irrefl, decide_false, iteP_eq, Bool.false_eq_true, if_false, List.take_length]
    have e := Join_n (l.map itoa) sep (by rw [List.length_map]; omega) (by unfold joinN at hlen; omega)
    simp only [e, atP_zero, rt_eq, scs_sc, scs_nil, true_and]
    unfold joinN
    simp) k
def fmtKeys (a : GKeys) : List UInt8 := if sNo a = true then [45] else itoa a.Need ++ [47] ++ joinN [43] a.Lst
def RKeys (a : GKeys) : Prop := inI a.Need ∧ allI a.Lst
theorem fmtKeys_len {a : GKeys} (h : mKeys a ≤ 1048576) (hr : RKeys a) : (fmtKeys a).length ≤ 24000000 := by
  unfold fmtKeys
  split
  · simp
  · have h1 := itoa_len hr.1
    have h2 := joinN_len hr.2 [43]
    unfold mKeys at h
    have h3 : a.Lst.length * ([43].length + 21) ≤ 1048576 * 22 := Nat.mul_le_mul h (by simp)
    simp only [List.length_append, List.length_singleton] at *
    omega
theorem impl_FormatKeys_n (a : GKeys) (h : mKeys a ≤ 1048576) (hr : RKeys a) (k) : call impl_FormatKeys [.agg (eKeys a)] k = k [S (fmtKeys a)] := call_of (fun k => by
  have e1 := impl_NoKeys_n a
  have e2 := impl_FormatInt_n a.Need hr.1
  have e3 := impl_joined_n [43] a.Lst h (by simp) hr.2
  have l1 := itoa_len hr.1
  have l2 := joinN_len hr.2 [43]
  have l3 : a.Lst.length * ([43].length + 21) ≤ 1048576 * 22 := Nat.mul_le_mul h (by simp)
  unfold fmtKeys
  cases hn : sNo a with
  | true => simp [impl_FormatKeys, e1, hn]
  | false =>
    simp only [impl_FormatKeys, un, cur0, e1, hn, iteP_eq, Bool.false_eq_true, if_false, atP_zero, e2, e3, bin_str, List.length_append, List.length_singleton, rt_eq, scs_sc, scs_nil, true_and]
    simp only [List.length_singleton] at l2 l3
    have hA : (itoa a.Need).length + 1 ≤ 9223372036854775807 := by omega
    have hB : (itoa a.Need).length + 1 + (joinN [43] a.Lst).length ≤ 9223372036854775807 := by omega
    simp only [hA, hB, true_and]
    simp) k
theorem spec_FormatKeys_n (a : GKeys) (h : mKeys a ≤ 1048576) (hr : RKeys a) (k) : call spec_FormatKeys [.agg (eKeys a)] k = k [S (fmtKeys a)] := call_of (fun k => by
  have hln : a.Lst.length ≤ 1048576 := h
  have e1 := spec_NoKeys_n a
  have e2 := spec_FormatInt_n a.Need hr.1
  have l1 := itoa_len hr.1
  unfold fmtKeys
  cases hn : sNo a with
  | true => simp [spec_FormatKeys, e1, hn]
  | false =>
    simp only [spec_FormatKeys, un, cur0, e1, hn, iteP_eq, Bool.false_eq_true, if_false, atP_zero, e2, bin_str, List.length_append, List.length_singleton]
    have hc : (itoa a.Need).length + 1 ≤ 9223372036854775807 := by omega
    simp only [hc, true_and]
    refine lp_list a.Lst (fun i => [.str ⟨#[]⟩, S (itoa a.Need ++ [47] ++ Go.Lib.join ((a.Lst.map itoa).take i) [43]), I i, ints a.Lst, I a.Need]) (by simp [Go.Lib.join_nil]) (fun i x hx hi K => ?_) fun K => ?_
    · have e := spec_FormatInt_n x (hr.2 x (mem_get hx))
      have lx := itoa_len (hr.2 x (mem_get hx))
      have hxm : (a.Lst.map itoa)[i]? = some (itoa x) := by rw [List.getElem?_map, hx]; rfl
      have hj := join_take (sep := [43]) hxm
      have hjl := join_len (sep := [43]) (c := 21) (L := (a.Lst.map itoa).take i) (fun y hy => by
        obtain ⟨z, hz, rfl⟩ := List.mem_map.1 (List.mem_of_mem_take hy)
        exact itoa_len (hr.2 z hz))
      have hil : ((a.Lst.map itoa).take i).length ≤ 1048576 := by unfold mKeys at h; simp; omega
      have hjb : ((a.Lst.map itoa).take i).length * ([43].length + 21) ≤ 1048576 * 22 := Nat.mul_le_mul hil (by simp)
      rw [hj]
      generalize Go.Lib.join ((a.Lst.map itoa).take i) [43] = J at *
      by_cases h0 : i = 0
      · subst h0
        simp only [spec_FormatKeys_r0, un, cur0, lenP_eq, List.length_map, binP_lss, show ((0 : Nat) : Int) < (a.Lst.length : Int) by omega, decide_true, iteP_eq, if_true, binP_gtr, show ¬ ((0 : Int) < ((0 : Nat) : Int)) by omega, decide_false, Bool.false_eq_true, if_false, elemP_map, Int.toNat_natCast, hx, oP_some, atP_zero, e, bin_str, binP_add, wr_succ (show 0 < 1000000000000000000 by omega)]
        have hJ : J = [] := by have := hjl; simp at this; exact this
        subst hJ
        simp
        omega
      · simp only [spec_FormatKeys_r0, un, cur0, lenP_eq, List.length_map, binP_lss, show (i : Int) < (a.Lst.length : Int) by omega, decide_true, iteP_eq, if_true, binP_gtr, show (0 : Int) < (i : Int) by omega, elemP_map, Int.toNat_natCast, hx, oP_some, atP_zero, e, bin_str, binP_add, wr_succ (show i < 1000000000000000000 by omega), h0, if_false, List.length_append, List.length_singleton]
        simp only [List.length_singleton] at hjb hjl
        have hA : (itoa a.Need).length + 1 + J.length + 1 ≤ 9223372036854775807 := by omega
        have hB : (itoa a.Need).length + 1 + J.length + 1 + (itoa x).length ≤ 9223372036854775807 := by omega
        simp only [hA, hB, true_and, show (0 : Int) ≤ (i : Int) by omega]
        simp [List.append_assoc]
    · simp only [spec_FormatKeys_r0, un, cur0, lenP_eq, List.length_map, binP_lss, Int.lt_irrefl, decide_false, iteP_eq, Bool.false_eq_true, if_false, rt_eq, scs_sc, scs_nil, true_and]
      have ht : (a.Lst.map itoa).take a.Lst.length = a.Lst.map itoa := List.take_of_length_le (by simp)
      rw [ht]
      unfold joinN
      simp) k
end Go.Ev
set_option linter.unusedVariables false
set_option linter.unusedSimpArgs false
set_option maxRecDepth 4000
namespace Go.Ev
open Go.Proofs
theorem dropA {A B C : Prop} (hA : A) (h : B ↔ C) : (A ∧ B) ↔ C := ⟨fun x => h.1 x.2, fun c => ⟨hA, h.2 c⟩⟩
def pathL (p : List ByteArray) : List (List UInt8) := p.map fun s => s.data.toList
def fmtPath (p : List ByteArray) : List UInt8 := if sIsPath p = true then Go.Lib.join (pathL p) [47] else []
theorem pathL_len {p : List ByteArray} (h : p.length + sumN ByteArray.size p ≤ 1048576) : (pathL p).length ≤ 1048576 ∧ ∀ y ∈ pathL p, y.length ≤ 1048576 := by
  obtain ⟨hl, hs⟩ := path_le h
  refine ⟨by unfold pathL; rw [List.length_map]; exact hl, fun y hy => ?_⟩
  obtain ⟨s, hs', rfl⟩ := List.mem_map.1 hy
  have := hs s hs'
  rwa [ByteArray.size, ← Array.length_toList] at this
theorem joinL_len {L : List (List UInt8)} {sep : List UInt8} (h1 : L.length ≤ 1048576) (h2 : ∀ y ∈ L, y.length ≤ 1048576) (h3 : sep.length ≤ 1) : (Go.Lib.join L sep).length ≤ 1099512676352 := by
  have := join_len (sep := sep) h2
  have h4 : L.length * (sep.length + 1048576) ≤ 1048576 * (1 + 1048576) := Nat.mul_le_mul h1 (by omega)
  omega
theorem fmtPath_len {p : List ByteArray} (h : p.length + sumN ByteArray.size p ≤ 1048576) : (fmtPath p).length ≤ 1099512676352 := by
  unfold fmtPath
  split
  · exact joinL_len (pathL_len h).1 (pathL_len h).2 (by simp)
  · simp
theorem impl_FormatPath_n (p : List ByteArray) (h : p.length + sumN ByteArray.size p ≤ 1048576) (k) : call impl_FormatPath [.one (strs p)] k = k [S (fmtPath p)] := call_of (fun k => by
  have e := impl_IsPath_n p h
  obtain ⟨h1, h2⟩ := pathL_len h
  have h3 := joinL_len (sep := [47]) h1 h2 (by simp)
  have j := Join_n (pathL p) [47] (by omega) (by omega)
  have js : strs p = .list 1 ((pathL p).map rL) := strs_rL p
  rw [← js] at j
  unfold fmtPath
  cases hp : sIsPath p with
  | true => simp only [impl_FormatPath, e, hp, atP_zero, unP_not, iteP_eq, Bool.not_true, Bool.false_eq_true, if_false, if_true, j, rt_eq, scs_sc, scs_nil, flat_str, true_and]
  | false => simp only [impl_FormatPath, e, hp, atP_zero, unP_not, iteP_eq, Bool.not_false, Bool.false_eq_true, if_false, if_true, rt_eq, scs_sc, scs_nil, flat_str, true_and]) k
theorem spec_FormatPath_n (p : List ByteArray) (h : p.length + sumN ByteArray.size p ≤ 1048576) (k) : call spec_FormatPath [.one (strs p)] k = k [S (fmtPath p)] := call_of (fun k => by
  have e := spec_IsPath_n p h
  obtain ⟨h1, h2⟩ := pathL_len h
  unfold fmtPath
  cases hp : sIsPath p with
  | false => simp only [spec_FormatPath, e, hp, atP_zero, unP_not, iteP_eq, Bool.not_false, Bool.false_eq_true, if_false, if_true, rt_eq, scs_sc, scs_nil, flat_str, true_and]
  | true =>
    cases p with
    | nil => simp [sIsPath, inR] at hp
    | cons x q =>
      simp only [spec_FormatPath, e, hp, atP_zero, unP_not, iteP_eq, Bool.not_true, Bool.false_eq_true, if_false, if_true, elemP_map, Int.toNat_zero, List.getElem?_cons_zero, oP_some, Int.le_refl, true_and]
      refine lp_list q (fun i => [strs (x :: q), .str ⟨#[]⟩, S (Go.Lib.join ((pathL (x :: q)).take (i + 1)) [47]), I ((i : Int) + 1)]) (by simp [pathL, Go.Lib.join_one]) (fun i y hy hi K => ?_) fun K => ?_
      · have hg : (x :: q)[i + 1]? = some y := by simpa using hy
        have hm : (pathL (x :: q))[i + 1]? = some y.data.toList := by unfold pathL; rw [List.getElem?_map, hg]; rfl
        have hj := join_take (sep := [47]) hm
        have hb := joinL_len (L := (pathL (x :: q)).take (i + 1)) (sep := [47]) (by rw [List.length_take]; omega) (fun z hz => h2 z (List.mem_of_mem_take hz)) (by simp)
        have hy2 := h2 _ (List.mem_of_getElem? hm)
        have hlen : (pathL (x :: q)).length = q.length + 1 := by simp [pathL]
        rw [if_neg (by omega)] at hj
        rw [hj]
        generalize Go.Lib.join ((pathL (x :: q)).take (i + 1)) [47] = J at *
        have hA : J.length + 1 ≤ 9223372036854775807 := by omega
        have hB : J.length + 1 + y.data.toList.length ≤ 9223372036854775807 := by omega
        simp only [spec_FormatPath_r0, un, cur0, lenP_eq, List.length_map, List.length_cons, binP_lss, show (i : Int) + 1 < ((q.length + 1 : Nat) : Int) by omega, decide_true, iteP_eq, if_true, elemP_map, show ((i : Int) + 1).toNat = i + 1 by omega, hg, oP_some, atP_zero, S_of y, bin_str, binP_add, List.length_append, List.length_singleton, hA, hB, true_and, show (0 : Int) ≤ (i : Int) + 1 by omega]
        rw [show ((i + 1 : Nat) : Int) + 1 = (i : Int) + 1 + 1 by omega, wr_eq (by omega) (by omega)]
        have hC : J.length ≤ 9223372036854775806 := by omega
        have hD : J.length + 1 + y.size ≤ 9223372036854775807 := by rw [ByteArray.size, ← Array.length_toList]; omega
        simp [List.append_assoc, hC, hD]
      · simp only [spec_FormatPath_r0, un, cur0, lenP_eq, List.length_map, List.length_cons, binP_lss, show ¬ ((q.length : Int) + 1 < ((q.length + 1 : Nat) : Int)) by omega, decide_false, iteP_eq, Bool.false_eq_true, if_false, rt_eq, scs_sc, scs_nil, true_and]
        have ht : (pathL (x :: q)).take (q.length + 1) = pathL (x :: q) := List.take_of_length_le (by simp [pathL])
        rw [ht]
        simp) k
def fmtEntry (e : GEntry) : List UInt8 := e.Label.data.toList ++ (if e.Kind = 2 then [61, 35] ++ itoa e.Value else if e.Kind = 3 then [61, 62] ++ itoa e.Value ++ [58] ++ fmtPath e.Path else [61] ++ itoa e.Value)
theorem label_len {e : GEntry} (h : mEntry e ≤ 1048576) : e.Label.data.toList.length ≤ 1048576 := by
  have := (entry_le h).1
  rwa [ByteArray.size, ← Array.length_toList] at this
theorem fmtEntry_len {e : GEntry} (h : mEntry e ≤ 1048576) (hv : inI e.Value) : (fmtEntry e).length ≤ 1099513724999 := by
  have l1 := itoa_len hv
  have l2 := fmtPath_len (entry_le h).2
  have l3 := label_len h
  unfold fmtEntry
  split
  · simp only [List.length_append, List.length_cons, List.length_nil]; omega
  · split <;> (simp only [List.length_append, List.length_cons, List.length_nil]; omega)
theorem impl_FormatEntry_n (e : GEntry) (h : mEntry e ≤ 1048576) (hv : inI e.Value) (k) : call impl_FormatEntry [.agg (eEntry e)] k = k [S (fmtEntry e)] := call_of (fun k => by
  have e1 := impl_FormatInt_n e.Value hv
  have e2 := impl_FormatPath_n e.Path (entry_le h).2
  have l1 := itoa_len hv
  have l2 := fmtPath_len (entry_le h).2
  have l3 := label_len h
  unfold fmtEntry
  generalize hP : fmtPath e.Path = P at *
  generalize hI : itoa e.Value = N at *
  simp only [impl_FormatEntry, un, cur0, S_of e.Label, e1, e2, atP_zero, binP_eql, beqI, iteP_eq, decide_eq_true_eq]
  generalize e.Label.data.toList = L at *
  by_cases h2 : e.Kind = 2
  · simp only [h2, if_true, bin_str, List.length_append, List.length_cons, List.length_nil, rt_eq, scs_sc, scs_nil, flat_str, true_and]
    simp
    (repeat refine dropA (by omega) ?_)
    exact Iff.rfl
  · by_cases h3 : e.Kind = 3
    · simp only [h2, h3, if_true, if_false, bin_str, List.length_append, List.length_cons, List.length_nil, rt_eq, scs_sc, scs_nil, flat_str, true_and]
      simp
      (repeat refine dropA (by omega) ?_)
      exact Iff.rfl
    · simp only [h2, h3, if_true, if_false, bin_str, List.length_append, List.length_cons, List.length_nil, rt_eq, scs_sc, scs_nil, flat_str, true_and]
      simp
      (repeat refine dropA (by omega) ?_)
      exact Iff.rfl) k
theorem spec_FormatEntry_n (e : GEntry) (h : mEntry e ≤ 1048576) (hv : inI e.Value) (k) : call spec_FormatEntry [.agg (eEntry e)] k = k [S (fmtEntry e)] := call_of (fun k => by
  have e1 := spec_FormatInt_n e.Value hv
  have e2 := spec_FormatPath_n e.Path (entry_le h).2
  have l1 := itoa_len hv
  have l2 := fmtPath_len (entry_le h).2
  have l3 := label_len h
  unfold fmtEntry
  generalize hP : fmtPath e.Path = P at *
  generalize hI : itoa e.Value = N at *
  simp only [spec_FormatEntry, un, cur0, S_of e.Label, e1, e2, atP_zero, binP_eql, beqI, iteP_eq, decide_eq_true_eq]
  generalize e.Label.data.toList = L at *
  by_cases h2 : e.Kind = 2
  · simp only [h2, if_true, bin_str, List.length_append, List.length_cons, List.length_nil, rt_eq, scs_sc, scs_nil, flat_str, true_and]
    simp
    (repeat refine dropA (by omega) ?_)
    exact Iff.rfl
  · by_cases h3 : e.Kind = 3
    · simp only [h2, h3, if_true, if_false, bin_str, List.length_append, List.length_cons, List.length_nil, rt_eq, scs_sc, scs_nil, flat_str, true_and]
      simp
      (repeat refine dropA (by omega) ?_)
      exact Iff.rfl
    · simp only [h2, h3, if_true, if_false, bin_str, List.length_append, List.length_cons, List.length_nil, rt_eq, scs_sc, scs_nil, flat_str, true_and]
      simp
      (repeat refine dropA (by omega) ?_)
      exact Iff.rfl) k
theorem has_at : ∀ {es : List Sh} {ps : List PV} {i : Nat} {e : Sh} {p : PV}, Sh.hasAll es ps → es[i]? = some e → ps[i]? = some p → Sh.has e p
  | [], ps, i, e, p, h, h1, h2 => by simp at h1
  | x :: es, ps, i, e, p, h, h1, h2 => by
    obtain ⟨q, r, rfl, k1, k2⟩ := all_cons h
    cases i with
    | zero => simp at h1 h2; subst h1 h2; exact k1
    | succ i => exact has_at k2 (by simpa using h1) (by simpa using h2)
theorem int_in {n : Int} (h : Sh.has (.int .i64) (I n)) : inI n := by
  simp only [Sh.has] at h
  obtain ⟨m, h1, h2⟩ := h
  cases h1
  simp only [Lit.wf, Bool.and_eq_true, decide_eq_true_eq] at h2
  exact h2
theorem at_int {es : List Sh} {ps : List PV} {n : Int} (i : Nat) (h : Sh.hasAll es ps) (h1 : es[i]? = some (.int .i64)) (h2 : ps[i]? = some (I n)) : inI n := int_in (has_at h h1 h2)
theorem at_ints {es : List Sh} {ps : List PV} {l : List Int} (i : Nat) (h : Sh.hasAll es ps) (h1 : es[i]? = some (.list [.int .i64])) (h2 : ps[i]? = some (ints l)) : allI l := by
  have h3 := has_at h h1 h2
  simp only [Sh.has] at h3
  obtain ⟨rows, h4, _, h5⟩ := h3
  intro x hx
  have h6 : rows = l.map rI := by injection h4 with _ h4; exact h4.symm
  have h7 := h5 (rI x) (by rw [h6]; exact List.mem_map.2 ⟨x, hx, rfl⟩)
  exact at_int 0 h7 rfl rfl
theorem rngKeys {a : GKeys} (h : Sh.hasAll [.list [.int .i64], .int .i64] (eKeys a)) : RKeys a := ⟨at_int 1 h rfl rfl, at_ints 0 h rfl rfl⟩
def nm (L : List (List UInt8)) (c : Int) : List UInt8 := if inR c 1 L.length = true then L.getD (c - 1).toNat [] else []
theorem inR_iff {n a b : Int} : inR n a b = true ↔ a ≤ n ∧ n ≤ b := by unfold inR; simp
theorem impl_nameOf_n (c : Int) (L : List (List UInt8)) (hL : L.length ≤ 100) (k) : call impl_nameOf [.one (I c), .one (.list 1 (L.map rL))] k = k [S (nm L c)] := call_of (fun k => by
  unfold nm
  cases hc : inR c 1 L.length with
  | false => simp only [impl_nameOf, lenP_eq, List.length_map, impl_InRange_n, hc, atP_zero, unP_not, iteP_eq, Bool.not_false, if_true, Bool.false_eq_true, if_false, rt_eq, scs_sc, scs_nil, flat_str, true_and]
  | true =>
    obtain ⟨h1, h2⟩ := inR_iff.1 hc
    have hi : (c - 1).toNat < L.length := by omega
    have hg : L[(c - 1).toNat]? = some (L[(c - 1).toNat]) := List.getElem?_eq_getElem hi
    simp only [impl_nameOf, lenP_eq, List.length_map, impl_InRange_n, hc, atP_zero, unP_not, iteP_eq, Bool.not_true, if_true, Bool.false_eq_true, if_false, binP_sub, wr_eq (show -9223372036854775808 ≤ c - 1 by omega) (show c - 1 < 9223372036854775808 by omega), elemP_map, hg, oP_some, rt_eq, scs_sc, scs_nil, flat_str, true_and, show (0 : Int) ≤ c - 1 by omega]
    rw [List.getD_eq_getElem?_getD, hg]
    simp) k
abbrev hdL : List (List UInt8) := [[111, 119, 110, 101, 114], [104, 101, 105, 114], [106, 117, 100, 103, 101]]
abbrev cdL : List (List UInt8) := [[111, 107], [97, 98, 115, 101, 110, 116], [110, 111, 110, 101], [107, 105, 110, 100], [109, 111, 118, 101, 115], [112, 97, 116, 104]]
abbrev dcL : List (List UInt8) := [[115, 117, 114, 101], [97, 103, 114, 101, 101, 100], [97, 115, 107], [97, 98, 115, 101, 110, 116], [110, 111, 110, 101]]
theorem nm_len {L : List (List UInt8)} (h : ∀ y ∈ L, y.length ≤ 10) (c : Int) : (nm L c).length ≤ 10 := by
  unfold nm
  split
  · rw [List.getD_eq_getElem?_getD]
    cases hg : L[(c - 1).toNat]? with
    | none => simp
    | some y => exact h y (List.mem_of_getElem? hg)
  · simp
def kindT (c : Int) : List UInt8 := if inR c 1 3 = true then hdL.getD (c - 1).toNat [] else [63]
theorem kindT_len (c : Int) : (kindT c).length ≤ 10 := by
  have := nm_len (L := hdL) (by decide) c
  unfold nm at this
  unfold kindT
  split
  · rename_i h; rw [show ((hdL.length : Nat) : Int) = 3 from rfl, if_pos h] at this; exact this
  · simp
def RHead (a : GHead) : Prop := inI a.Epoch ∧ inI a.Time ∧ inI a.Until ∧ inI a.Count ∧ RKeys a.Keys
theorem rngHead {a : GHead} (h : Sh.hasAll [.int .i64, .int .i64, .int .i64, .int .i64, .int .i64, .int .i64, .int .i64, .int .i64, .list [.int .i64], .int .i64, .list [.int .i64], .int .i64, .int .i64, .list [.int .i64], .int .i64, .bool] (eHead a)) : RHead a :=
  ⟨at_int 1 h rfl rfl, at_int 3 h rfl rfl, at_int 4 h rfl rfl, at_int 5 h rfl rfl, at_int 9 h rfl rfl, at_ints 8 h rfl rfl⟩
def frzT (b : Bool) : List UInt8 := if b = true then [32, 102, 114, 111, 122, 101, 110] else []
def fmtHead (a : GHead) : List UInt8 := itoa a.Epoch ++ ([32] ++ (kindT a.Kind ++ ([32] ++ (itoa a.Time ++ ([45] ++ (itoa a.Until ++ ([32] ++ (itoa a.Count ++ ([32] ++ (fmtKeys a.Keys ++ frzT a.Frozen))))))))))
theorem fmtHead_len {a : GHead} (h : mKeys a.Keys ≤ 1048576) (hr : RHead a) : (fmtHead a).length ≤ 25000000 := by
  have l1 := itoa_len hr.1
  have l2 := itoa_len hr.2.1
  have l3 := itoa_len hr.2.2.1
  have l4 := itoa_len hr.2.2.2.1
  have l5 := fmtKeys_len h hr.2.2.2.2
  have l6 := kindT_len a.Kind
  have l7 : (frzT a.Frozen).length ≤ 10 := by unfold frzT; split <;> simp
  unfold fmtHead
  simp only [List.length_append, List.length_cons, List.length_nil]
  omega
theorem joinN_two (sep : List UInt8) (x y : Int) : joinN sep [x, y] = itoa x ++ (sep ++ itoa y) := by
  unfold joinN
  rw [List.map_cons, List.map_cons, List.map_nil, Go.Lib.join_cons]
  simp [Go.Lib.joinTail]
theorem join_five (a b c d e : List UInt8) : Go.Lib.join [a, b, c, d, e] [32] = a ++ ([32] ++ (b ++ ([32] ++ (c ++ ([32] ++ (d ++ ([32] ++ e))))))) := by
  rw [Go.Lib.join_cons]
  simp [Go.Lib.joinTail]
theorem kind_impl (c : Int) : (decide ((⟨(nm hdL c).toArray⟩ : ByteArray) = ⟨#[]⟩) = true ∧ kindT c = [63]) ∨ (decide ((⟨(nm hdL c).toArray⟩ : ByteArray) = ⟨#[]⟩) = false ∧ kindT c = nm hdL c) := by
  unfold nm kindT
  rw [show ((hdL.length : Nat) : Int) = 3 from rfl]
  cases hc : inR c 1 3 with
  | false => left; exact ⟨by simp, by simp⟩
  | true =>
    right
    obtain ⟨h1, h2⟩ := inR_iff.1 hc
    have hd : c = 1 ∨ c = 2 ∨ c = 3 := by omega
    rcases hd with rfl | rfl | rfl <;> exact ⟨by decide, rfl⟩
theorem impl_FormatHead_n (a : GHead) (h : mKeys a.Keys ≤ 1048576) (hr : RHead a) (k) : call impl_FormatHead [.agg (eHead a)] k = k [S (fmtHead a)] := call_of (fun k => by
  have l1 := itoa_len hr.1
  have l2 := itoa_len hr.2.1
  have l3 := itoa_len hr.2.2.1
  have l4 := itoa_len hr.2.2.2.1
  have l5 := fmtKeys_len h hr.2.2.2.2
  have l6 := kindT_len a.Kind
  have e1 := impl_FormatInt_n a.Epoch hr.1
  have e2 := impl_FormatInt_n a.Count hr.2.2.2.1
  have e3 := impl_FormatKeys_n a.Keys h hr.2.2.2.2
  have e4 : ∀ k, call impl_joined [.one (.str ⟨#[45]⟩), .one (.list 1 [[I a.Time], [I a.Until]])] k = k [S (itoa a.Time ++ ([45] ++ itoa a.Until))] := fun k => by
    rw [← joinN_two]
    exact impl_joined_n [45] [a.Time, a.Until] (by simp) (by simp) (by intro x hx; simp at hx; rcases hx with rfl | rfl; exact hr.2.1; exact hr.2.2.1) k
  have e5 : ∀ k, call impl_nameOf [.one (I a.Kind), .one (.list 1 [[(.str ⟨#[111, 119, 110, 101, 114]⟩)], [(.str ⟨#[104, 101, 105, 114]⟩)], [(.str ⟨#[106, 117, 100, 103, 101]⟩)]])] k = k [S (nm hdL a.Kind)] := impl_nameOf_n a.Kind hdL (by simp)
  have hj : ∀ kd : List UInt8, kd.length ≤ 10 → ∀ k, call strings_Join [.one (.list 1 [[S (itoa a.Epoch)], [S kd], [S (itoa a.Time ++ ([45] ++ itoa a.Until))], [S (itoa a.Count)], [S (fmtKeys a.Keys)]]), .one (.str ⟨#[32]⟩)] k = k [S (Go.Lib.join [itoa a.Epoch, kd, itoa a.Time ++ ([45] ++ itoa a.Until), itoa a.Count, fmtKeys a.Keys] [32])] := fun kd hkd =>
    Join_n [itoa a.Epoch, kd, itoa a.Time ++ ([45] ++ itoa a.Until), itoa a.Count, fmtKeys a.Keys] [32] (by simp) (by
      rw [join_five]
      simp only [List.length_append, List.length_cons, List.length_nil]
      omega)
  have hkl := kind_impl a.Kind
  unfold fmtHead frzT
  simp only [impl_FormatHead, un, cur0, e5, atP_zero, binP_seql, iteP_eq, e1, e2, e3, e4, flatCond_pv, flatCond_nil, flat_int, flat_str, true_and]
  rcases hkl with ⟨h1, h2⟩ | ⟨h1, h2⟩
  · simp only [h1, if_true, hj [63] (by simp), h2, atP_zero, join_five, bin_str, List.length_append, List.length_cons, List.length_nil, rt_eq, scs_sc, scs_nil, flat_str, true_and]
    cases a.Frozen
    · simp
    · simp only [if_true, show (3 : Nat) = 3 from rfl, true_and]
      simp
      (repeat refine dropA (by omega) ?_)
      first | exact Iff.rfl | (intro _; omega) | (intro _; (repeat' constructor) <;> omega)
  · rw [h2] at l6
    simp only [h1, Bool.false_eq_true, if_false, hj _ l6, h2, atP_zero, join_five, bin_str, List.length_append, List.length_cons, List.length_nil, rt_eq, scs_sc, scs_nil, flat_str, true_and]
    cases a.Frozen
    · simp
    · simp
      (repeat refine dropA (by omega) ?_)
      first | exact Iff.rfl | (intro _; omega) | (intro _; (repeat' constructor) <;> omega)) k
theorem spec_FormatHead_n (a : GHead) (h : mKeys a.Keys ≤ 1048576) (hr : RHead a) (k) : call spec_FormatHead [.agg (eHead a)] k = k [S (fmtHead a)] := call_of (fun k => by
  have l1 := itoa_len hr.1
  have l2 := itoa_len hr.2.1
  have l3 := itoa_len hr.2.2.1
  have l4 := itoa_len hr.2.2.2.1
  have l5 := fmtKeys_len h hr.2.2.2.2
  have e1 := spec_FormatInt_n a.Epoch hr.1
  have e2 := spec_FormatInt_n a.Time hr.2.1
  have e3 := spec_FormatInt_n a.Until hr.2.2.1
  have e4 := spec_FormatInt_n a.Count hr.2.2.2.1
  have e5 := spec_FormatKeys_n a.Keys h hr.2.2.2.2
  unfold fmtHead frzT kindT
  cases hc : inR a.Kind 1 3 with
  | false =>
    simp only [spec_FormatHead, un, cur0, spec_l1In_n, hc, atP_zero, iteP_eq, Bool.false_eq_true, if_false, e1, e2, e3, e4, e5, bin_str, List.length_append, List.length_cons, List.length_nil, rt_eq, scs_sc, scs_nil, flat_str, true_and]
    (repeat refine dropA (by omega) ?_)
    cases a.Frozen
    · simp
    · simp
      (repeat refine dropA (by omega) ?_)
      first | exact Iff.rfl | (intro _; omega) | (intro _; (repeat' constructor) <;> omega)
  | true =>
    obtain ⟨h1, h2⟩ := inR_iff.1 hc
    have hd : a.Kind = 1 ∨ a.Kind = 2 ∨ a.Kind = 3 := by omega
    simp only [spec_FormatHead, un, cur0, spec_l1In_n, hc, atP_zero, iteP_eq, if_true, e1, e2, e3, e4, e5, flatCond_pv, flatCond_nil, flat_str, true_and]
    rcases hd with hk | hk | hk <;> rw [hk] <;> simp [rowP, flats] <;> cases a.Frozen <;> simp [bin_str] <;> ((repeat refine dropA (by omega) ?_); first | exact Iff.rfl | (intro _; omega) | (intro _; (repeat' constructor) <;> omega))) k
def fmtDash (e : GEntry) : List UInt8 := if e.Kind = 0 then [45] else fmtEntry e
theorem fmtDash_len {e : GEntry} (h : mEntry e ≤ 1048576) (hv : inI e.Value) : (fmtDash e).length ≤ 1099513724999 := by
  unfold fmtDash
  split
  · simp
  · exact fmtEntry_len h hv
def REntry (e : GEntry) : Prop := inI e.Value
theorem rngEntry {a : GEntry} (h : Sh.hasAll [.str, .int .i64, .int .i64, .list [.str]] (eEntry a)) : REntry a := at_int 2 h rfl rfl
theorem nat_in {n : Nat} (h : n ≤ 1048576) : inI (n : Int) := by unfold inI; omega
theorem cd_len (c : Int) : (nm cdL c).length ≤ 10 := nm_len (by decide) c
theorem dc_len (c : Int) : (nm dcL c).length ≤ 10 := nm_len (by decide) c
def fmtRes (nme : List UInt8) (e : GEntry) (n : Nat) : List UInt8 := nme ++ ([32] ++ (fmtDash e ++ ([32] ++ itoa n)))
theorem head_le {a : GHead} (h : mHead a ≤ 1048576) : mKeys a.Keys ≤ 1048576 := by unfold mHead at h; omega
end Go.Ev
set_option linter.unusedVariables false
set_option linter.unusedSimpArgs false
set_option maxRecDepth 4000
namespace Go.Ev
open Go.Proofs
/-! ### Worlds -/
def cnts (a : GWorld) : List Int := [(a.Zones.length : Int), (a.Said.length : Int), (a.Servers.length : Int), (a.Known.Chains.length : Int), (a.Known.Forks.length : Int), (a.Cache.Lst.length : Int)]
def fmtWorld (a : GWorld) : List UInt8 := itoa a.Now ++ ([32] ++ joinN [47] (cnts a))
theorem world_cnt {a : GWorld} (h : mWorld a ≤ 1048576) : a.Zones.length ≤ 1048576 ∧ a.Said.length ≤ 1048576 ∧ a.Servers.length ≤ 1048576 ∧ a.Known.Chains.length ≤ 1048576 ∧ a.Known.Forks.length ≤ 1048576 ∧ a.Cache.Lst.length ≤ 1048576 := by
  unfold mWorld mZoneS mSaidS mServerS mKnown mSignedSS mForkS mCache mStoredS at h
  omega
theorem cnts_in {a : GWorld} (h : mWorld a ≤ 1048576) : allI (cnts a) := by
  obtain ⟨h1, h2, h3, h4, h5, h6⟩ := world_cnt h
  intro x hx
  simp only [cnts, List.mem_cons, List.not_mem_nil, or_false] at hx
  rcases hx with rfl | rfl | rfl | rfl | rfl | rfl <;> exact nat_in (by assumption)
theorem impl_FormatWorld_n (a : GWorld) (h : mWorld a ≤ 1048576) (hr : inI a.Now) (k) : call impl_FormatWorld [.agg (eWorld a)] k = k [S (fmtWorld a)] := call_of (fun k => by
  have e1 := impl_FormatInt_n a.Now hr
  have e2 : ∀ k, call impl_joined [.one (.str ⟨#[47]⟩), .one (.list 1 [[I a.Zones.length], [I a.Said.length], [I a.Servers.length], [I a.Known.Chains.length], [I a.Known.Forks.length], [I a.Cache.Lst.length]])] k = k [S (joinN [47] (cnts a))] := impl_joined_n [47] (cnts a) (by simp [cnts]) (by simp) (cnts_in h)
  have l1 := itoa_len hr
  have l2 := joinN_len (cnts_in h) [47]
  rw [show (cnts a).length = 6 from rfl] at l2
  simp only [List.length_cons, List.length_nil] at l2
  unfold fmtWorld
  simp only [impl_FormatWorld, un, cur0, e1, e2, lenP_eq, List.length_map, atP_zero, flatCond_pv, flatCond_nil, flat_int, bin_str, List.length_append, List.length_cons, List.length_nil, rt_eq, scs_sc, scs_nil, flat_str, true_and]
  simp
  (repeat refine dropA (by omega) ?_)
  first | exact Iff.rfl | (intro _; omega) | (intro _; (repeat' constructor) <;> omega)) k
theorem spec_FormatWorld_n (a : GWorld) (h : mWorld a ≤ 1048576) (hr : inI a.Now) (k) : call spec_FormatWorld [.agg (eWorld a)] k = k [S (fmtWorld a)] := call_of (fun k => by
  have e1 := spec_FormatInt_n a.Now hr
  have hci := cnts_in h
  have l1 := itoa_len hr
  unfold fmtWorld
  simp only [spec_FormatWorld, un, cur0, e1, lenP_eq, List.length_map, atP_zero, flatCond_pv, flatCond_nil, flat_int, bin_str, List.length_append, List.length_cons, List.length_nil, true_and]
  have hcl : (cnts a).length = 6 := rfl
  have hcs : PV.list 1 [[I a.Zones.length], [I a.Said.length], [I a.Servers.length], [I a.Known.Chains.length], [I a.Known.Forks.length], [I a.Cache.Lst.length]] = ints (cnts a) := rfl
  rw [hcs]
  generalize cnts a = c at *
  have hpre : (itoa a.Now).length + 1 ≤ 9223372036854775807 := by omega
  simp only [show (6 : Nat) = 6 from rfl, show (6 : Nat) ≤ 16777216 by omega, true_and, show (itoa a.Now).length + (0 + 1) ≤ 9223372036854775807 by omega]
  refine (lp_list (fin := k [S (itoa a.Now ++ ([32] ++ joinN [47] c))]) c (fun i => [.str ⟨#[]⟩, S (itoa a.Now ++ [32] ++ Go.Lib.join ((c.map itoa).take i) [47]), I i, ints c]) (by simp [Go.Lib.join_nil]) (fun i x hx hi K => ?_) fun K => ?_).trans ?_
  · have e := spec_FormatInt_n x (hci x (mem_get hx))
    have lx := itoa_len (hci x (mem_get hx))
    have hxm : (c.map itoa)[i]? = some (itoa x) := by rw [List.getElem?_map, hx]; rfl
    have hj := join_take (sep := [47]) hxm
    have hjl := join_len (sep := [47]) (c := 21) (L := (c.map itoa).take i) (fun y hy => by
      obtain ⟨z, hz, rfl⟩ := List.mem_map.1 (List.mem_of_mem_take hy)
      exact itoa_len (hci z hz))
    have hil : ((c.map itoa).take i).length ≤ 6 := by simp; omega
    have hjb : ((c.map itoa).take i).length * ([47].length + 21) ≤ 6 * 22 := Nat.mul_le_mul hil (by simp)
    rw [hj]
    generalize Go.Lib.join ((c.map itoa).take i) [47] = J at *
    by_cases h0 : i = 0
    · subst h0
      have hJ : J = [] := by have := hjl; simp at this; exact this
      subst hJ
      have hc0 : (0 : Nat) < (List.map rI c).length := by simp; omega
      simp only [spec_FormatWorld_r0, un, cur0, lenP_eq, List.length_map, binP_lss, show ((0 : Nat) : Int) < (c.length : Int) by omega, decide_true, iteP_eq, if_true, binP_gtr, show ¬ ((0 : Int) < ((0 : Nat) : Int)) by omega, decide_false, Bool.false_eq_true, if_false, boundP_eq, rowP_map, Int.toNat_natCast, hx, oP_some, atP_zero, e, bin_str, binP_add, wr_succ (show 0 < 1000000000000000000 by omega), flats, List.length_append, List.length_cons, List.length_nil, hi, true_and]
      simp
      omega
    · simp only [spec_FormatWorld_r0, un, cur0, lenP_eq, List.length_map, binP_lss, show (i : Int) < (c.length : Int) by omega, decide_true, iteP_eq, if_true, binP_gtr, show (0 : Int) < (i : Int) by omega, boundP_eq, rowP_map, Int.toNat_natCast, hx, oP_some, atP_zero, e, bin_str, binP_add, wr_succ (show i < 1000000000000000000 by omega), h0, if_false, List.length_append, List.length_singleton, flats, hi, true_and]
      simp only [List.length_singleton] at hjb hjl
      have hA : (itoa a.Now).length + 1 + J.length + 1 ≤ 9223372036854775807 := by omega
      have hB : (itoa a.Now).length + 1 + J.length + 1 + (itoa x).length ≤ 9223372036854775807 := by omega
      simp only [hA, hB, true_and, show (0 : Int) ≤ (i : Int) by omega]
      simp [List.append_assoc]
  · simp only [spec_FormatWorld_r0, un, cur0, lenP_eq, List.length_map, binP_lss, Int.lt_irrefl, decide_false, iteP_eq, Bool.false_eq_true, if_false, rt_eq, scs_sc, scs_nil, true_and]
    have ht : (c.map itoa).take c.length = c.map itoa := List.take_of_length_le (by simp)
    rw [ht]
    unfold joinN
    simp
  · exact Iff.rfl) k
/-! ### Zones -/
theorem at_rows {es fs : List Sh} {ps : List PV} {α : Type} {n : Nat} {enc : α → List PV} {l : List α} (i : Nat) (h : Sh.hasAll es ps) (h1 : es[i]? = some (.list fs)) (h2 : ps[i]? = some (.list n (l.map enc))) : ∀ x ∈ l, Sh.hasAll fs (enc x) := by
  have h3 := has_at h h1 h2
  simp only [Sh.has] at h3
  obtain ⟨rows, h4, _, h5⟩ := h3
  intro x hx
  have h6 : rows = l.map enc := by injection h4 with _ h4; exact h4.symm
  exact h5 (enc x) (by rw [h6]; exact List.mem_map.2 ⟨x, hx, rfl⟩)
def RZone (z : GZone) : Prop := (∀ s ∈ z.Chain, RHead s.Head) ∧ ∀ e ∈ z.Entries, inI e.Value
def tailE (l : List GEntry) : List UInt8 := (l.map fun e => [32] ++ fmtEntry e).flatten
theorem tailE_snoc (l : List GEntry) (e : GEntry) : tailE (l ++ [e]) = tailE l ++ ([32] ++ fmtEntry e) := by simp [tailE]
theorem tailE_len : ∀ {l : List GEntry}, (∀ e ∈ l, mEntry e ≤ 1048576 ∧ inI e.Value) → (tailE l).length ≤ l.length * 1099513725000
  | [], _ => by simp [tailE]
  | e :: l, h => by
    have h1 := tailE_len (l := l) fun x hx => h x (by simp [hx])
    have h2 := fmtEntry_len (h e (by simp)).1 (h e (by simp)).2
    have : tailE (e :: l) = [32] ++ fmtEntry e ++ tailE l := by simp [tailE]
    rw [this, List.length_append, List.length_append]
    simp only [List.length_cons, List.length_nil, Nat.succ_mul]
    omega
def zoneH (z : GZone) : GHead := match sLast z.Chain with | some p => p | none => zHead
def fmtZone (z : GZone) : List UInt8 := if sIsZone z = true then fmtHead (zoneH z) ++ tailE z.Entries else [45]
theorem zone_lastF {z : GZone} (h : sIsZone z = true) : ∃ s, z.Chain[z.Chain.length - 1]? = some s ∧ sLast z.Chain = some s.Head ∧ zoneH z = s.Head := by
  unfold sIsZone at h
  cases hs : sLast z.Chain with
  | none => rw [hs] at h; cases h
  | some p =>
    obtain ⟨_, s, h1, rfl⟩ := last_some hs
    exact ⟨s, h1, rfl, by unfold zoneH; rw [hs]⟩
theorem impl_FormatZone_n (z : GZone) (h : mZone z ≤ 1048576) (hr : RZone z) (k) : call impl_FormatZone [.agg (eZone z)] k = k [S (fmtZone z)] := call_of (fun k => by
  obtain ⟨h1, h2⟩ := zone_le' h
  obtain ⟨hel, hem⟩ := entries_le h2
  have e0 := impl_IsZone_n z h
  unfold fmtZone
  cases hz : sIsZone z with
  | false => simp only [impl_FormatZone, un, cur0, e0, hz, atP_zero, unP_not, iteP_eq, Bool.not_false, if_true, Bool.false_eq_true, if_false, rt_eq, scs_sc, scs_nil, flat_str, true_and]
  | true =>
    obtain ⟨s, hs1, hs2, hs3⟩ := zone_lastF hz
    obtain ⟨hcl, hcm⟩ := chain_le h1
    have hsm := mem_get hs1
    have hk : mKeys s.Head.Keys ≤ 1048576 := by
      have := hcm s hsm
      unfold mSigned mHead at this
      omega
    have e1 := impl_last_n z.Chain s hcl hs1
    have e2 := impl_FormatHead_n s.Head hk (hr.1 s hsm)
    have lh := fmtHead_len hk (hr.1 s hsm)
    rw [hs3]
    simp only [impl_FormatZone, un, cur0, e0, hz, atP_zero, unP_not, iteP_eq, Bool.not_true, Bool.false_eq_true, if_false, e1, atP_succ, e2, lenP_eq, List.length_map, if_true]
    generalize fmtHead s.Head = HD at *
    refine lp_list z.Entries (fun i => [.str ⟨#[]⟩, S (HD ++ tailE (z.Entries.take i)), .list 4 (z.Entries.map eEntry), I z.Entries.length, I i]) (by simp [tailE]) (fun i x hx hi K => ?_) fun K => ?_
    · have hxm := mem_get hx
      have e := impl_FormatEntry_n x (hem x hxm) (hr.2 x hxm)
      have lx := fmtEntry_len (hem x hxm) (hr.2 x hxm)
      have lt := tailE_len (l := z.Entries.take i) fun y hy => ⟨hem y (List.mem_of_mem_take hy), hr.2 y (List.mem_of_mem_take hy)⟩
      have hlt : (z.Entries.take i).length * 1099513725000 ≤ 1048576 * 1099513725000 := Nat.mul_le_mul (by rw [List.length_take]; omega) (Nat.le_refl _)
      rw [take_snoc hx, tailE_snoc]
      generalize tailE (z.Entries.take i) = TE at *
      generalize hFE : fmtEntry x = FE at *
      simp only [impl_FormatZone_r0, un, cur0, binP_lss, show (i : Int) < (z.Entries.length : Int) by omega, decide_true, iteP_eq, if_true, elemP_map, Int.toNat_natCast, hx, oP_some, atP_zero, atP_succ, e, bin_str, binP_add, wr_succ (show i < 1000000000000000000 by omega), List.length_append, List.length_cons, List.length_nil, show (0 : Int) ≤ (i : Int) by omega, true_and]
      (repeat refine dropA (by omega) ?_)
      simp [List.append_assoc]
    · simp only [impl_FormatZone_r0, un, cur0, binP_lss, Int.lt_irrefl, decide_false, iteP_eq, Bool.false_eq_true, if_false, rt_eq, scs_sc, scs_nil, flat_str, true_and, List.take_length]) k
theorem spec_FormatZone_n (z : GZone) (h : mZone z ≤ 1048576) (hr : RZone z) (k) : call spec_FormatZone [.agg (eZone z)] k = k [S (fmtZone z)] := call_of (fun k => by
  obtain ⟨h1, h2⟩ := zone_le' h
  obtain ⟨hel, hem⟩ := entries_le h2
  have e0 := spec_IsZone_n z h
  have eL := spec_LastHead_n z.Chain h1
  unfold fmtZone
  cases hz : sIsZone z with
  | false => simp only [spec_FormatZone, un, cur0, e0, eL, hz, atP_zero, unP_not, iteP_eq, Bool.not_false, if_true, Bool.false_eq_true, if_false, rt_eq, scs_sc, scs_nil, flat_str, true_and]
  | true =>
    obtain ⟨s, hs1, hs2, hs3⟩ := zone_lastF hz
    obtain ⟨hcl, hcm⟩ := chain_le h1
    have hsm := mem_get hs1
    have hk : mKeys s.Head.Keys ≤ 1048576 := by
      have := hcm s hsm
      unfold mSigned mHead at this
      omega
    have e2 := spec_FormatHead_n s.Head hk (hr.1 s hsm)
    have lh := fmtHead_len hk (hr.1 s hsm)
    rw [hs3]
    simp only [spec_FormatZone, un, cur0, e0, eL, hs2, oHead, List.cons_append, List.nil_append, hz, atP_zero, unP_not, iteP_eq, Bool.not_true, Bool.false_eq_true, if_false, atP_succ, e2, lenP_eq, List.length_map, if_true]
    generalize fmtHead s.Head = HD at *
    refine lp_list z.Entries (fun i => [.str ⟨#[]⟩, S (HD ++ tailE (z.Entries.take i)), I i, .list 17 (z.Chain.map eSigned), .list 4 (z.Entries.map eEntry)]) (by simp [tailE]) (fun i x hx hi K => ?_) fun K => ?_
    · have hxm := mem_get hx
      have e := spec_FormatEntry_n x (hem x hxm) (hr.2 x hxm)
      have lx := fmtEntry_len (hem x hxm) (hr.2 x hxm)
      have lt := tailE_len (l := z.Entries.take i) fun y hy => ⟨hem y (List.mem_of_mem_take hy), hr.2 y (List.mem_of_mem_take hy)⟩
      have hlt : (z.Entries.take i).length * 1099513725000 ≤ 1048576 * 1099513725000 := Nat.mul_le_mul (by rw [List.length_take]; omega) (Nat.le_refl _)
      rw [take_snoc hx, tailE_snoc]
      generalize tailE (z.Entries.take i) = TE at *
      generalize hFE : fmtEntry x = FE at *
      simp only [spec_FormatZone_r0, un, cur0, lenP_eq, List.length_map, binP_lss, show (i : Int) < (z.Entries.length : Int) by omega, decide_true, iteP_eq, if_true, elemP_map, Int.toNat_natCast, hx, oP_some, atP_zero, atP_succ, e, bin_str, binP_add, wr_succ (show i < 1000000000000000000 by omega), List.length_append, List.length_cons, List.length_nil, show (0 : Int) ≤ (i : Int) by omega, true_and]
      (repeat refine dropA (by omega) ?_)
      simp [List.append_assoc]
    · simp only [spec_FormatZone_r0, un, cur0, lenP_eq, List.length_map, binP_lss, Int.lt_irrefl, decide_false, iteP_eq, Bool.false_eq_true, if_false, rt_eq, scs_sc, scs_nil, flat_str, true_and, List.take_length]) k
end Go.Ev
set_option linter.unusedVariables false
set_option linter.unusedSimpArgs false
set_option maxRecDepth 4000
set_option maxHeartbeats 2000000
namespace Go.Ev
open Go.Proofs
theorem laws_FnExactFormatWorld_law (pvss : List (List PV)) (h : HasEach [[.int .i64, .list [.list [.int .i64]], .list [.list [.int .i64, .int .i64, .int .i64, .int .i64, .int .i64, .int .i64, .int .i64, .int .i64, .list [.int .i64], .int .i64, .list [.int .i64], .int .i64, .int .i64, .list [.int .i64], .int .i64, .bool, .list [.int .i64, .int .i64]], .list [.str, .int .i64, .int .i64, .list [.str]]], .list [.list [.int .i64, .int .i64, .int .i64, .int .i64, .int .i64, .int .i64, .int .i64, .int .i64, .list [.int .i64], .int .i64, .list [.int .i64], .int .i64, .int .i64, .list [.int .i64], .int .i64, .bool, .list [.int .i64, .int .i64]], .list [.str, .int .i64, .int .i64, .list [.str]], .list [.int .i64]], .list [.list [.list [.int .i64, .int .i64, .int .i64, .int .i64, .int .i64, .int .i64, .int .i64, .int .i64, .list [.int .i64], .int .i64, .list [.int .i64], .int .i64, .int .i64, .list [.int .i64], .int .i64, .bool, .list [.int .i64, .int .i64]], .list [.str, .int .i64, .int .i64, .list [.str]]], .int .i64], .list [.list [.int .i64, .int .i64, .int .i64, .int .i64, .int .i64, .int .i64, .int .i64, .int .i64, .list [.int .i64], .int .i64, .list [.int .i64], .int .i64, .int .i64, .list [.int .i64], .int .i64, .bool, .list [.int .i64, .int .i64]]], .list [.int .i64, .int .i64, .int .i64, .int .i64, .int .i64, .int .i64, .int .i64, .int .i64, .list [.int .i64], .int .i64, .list [.int .i64], .int .i64, .int .i64, .list [.int .i64], .int .i64, .bool, .list [.int .i64, .int .i64], .int .i64, .int .i64, .int .i64, .int .i64, .int .i64, .int .i64, .int .i64, .int .i64, .list [.int .i64], .int .i64, .list [.int .i64], .int .i64, .int .i64, .list [.int .i64], .int .i64, .bool, .list [.int .i64, .int .i64], .int .i64, .int .i64, .int .i64, .int .i64, .int .i64, .int .i64, .int .i64, .int .i64, .list [.int .i64], .int .i64, .list [.int .i64], .int .i64, .int .i64, .list [.int .i64], .int .i64, .bool, .list [.int .i64, .int .i64]], .list [.int .i64, .str, .list [.int .i64, .int .i64, .int .i64, .int .i64, .int .i64, .int .i64, .int .i64, .int .i64, .list [.int .i64], .int .i64, .list [.int .i64], .int .i64, .int .i64, .list [.int .i64], .int .i64, .bool, .list [.int .i64, .int .i64]], .bool, .str, .int .i64, .int .i64, .list [.str], .int .i64, .list [.int .i64], .int .i64, .str, .int .i64, .int .i64, .list [.str], .str, .int .i64, .int .i64, .list [.str], .int .i64, .list [.int .i64], .int .i64, .list [.int .i64]]]] pvss) : laws_FnExactFormatWorld (avsOf Tryz.prog Tryz.f3.params.toList pvss) (fun o => o = [PV.bool true]) := by
  obtain ⟨p0, r0, rfl, h0, hq0⟩ := each_cons h
  rw [each_nil hq0]
  obtain ⟨x0, rfl, w0⟩ := decWorld _ h0
  have rg0 : inI x0.Now := at_int 0 h0 rfl rfl
  rw [show avsOf Tryz.prog Tryz.f3.params.toList [eWorld x0] = [.agg (eWorld x0)] by kernel_rfl]
  simp only [laws_FnExactFormatWorld, un, cur0, laws_szWorld_n x0 (1048576) w0 (by omega) (by omega), binP_lss, iteP_eq, atP_zero, atP_succ, rt_eq, scs_sc, scs_nil, flat_int, flat_bool, true_and, and_true]
  by_cases c0 : ((mWorld x0 : Nat) : Int) ≤ 1048576
  rotate_left
  · simp [szr_not c0]
  simp only [szr_yes c0, show ¬ (1048576 - ((mWorld x0 : Nat) : Int) < 0) by omega, decide_false, Bool.false_eq_true, if_false, binP_lss, iteP_eq, atP_zero, atP_succ, rt_eq, scs_sc, scs_nil, flat_int, flat_bool, true_and, and_true]
  have s0 : mWorld x0 ≤ 1048576 := by omega
  simp [laws_toWorld_n x0 s0, laws_eqWorld_n x0 s0, spec_FormatWorld_n x0 s0 rg0, impl_FormatWorld_n x0 s0 rg0]
end Go.Ev
namespace Go.Ev
open Go.Proofs
theorem laws_FnExactFormatZone_law (pvss : List (List PV)) (h : HasEach [[.list [.int .i64, .int .i64, .int .i64, .int .i64, .int .i64, .int .i64, .int .i64, .int .i64, .list [.int .i64], .int .i64, .list [.int .i64], .int .i64, .int .i64, .list [.int .i64], .int .i64, .bool, .list [.int .i64, .int .i64]], .list [.str, .int .i64, .int .i64, .list [.str]]]] pvss) : laws_FnExactFormatZone (avsOf Tryz.prog Tryz.f4.params.toList pvss) (fun o => o = [PV.bool true]) := by
  obtain ⟨p0, r0, rfl, h0, hq0⟩ := each_cons h
  rw [each_nil hq0]
  obtain ⟨x0, rfl, w0⟩ := decZone _ h0
  have rg0 : RZone x0 := ⟨fun s hs => have q := at_rows 0 h0 rfl rfl s hs; ⟨at_int 1 q rfl rfl, at_int 3 q rfl rfl, at_int 4 q rfl rfl, at_int 5 q rfl rfl, at_int 9 q rfl rfl, at_ints 8 q rfl rfl⟩, fun e he => at_int 2 (at_rows 1 h0 rfl rfl e he) rfl rfl⟩
  rw [show avsOf Tryz.prog Tryz.f4.params.toList [eZone x0] = [.agg (eZone x0)] by kernel_rfl]
  simp only [laws_FnExactFormatZone, un, cur0, laws_szZone_n x0 (1048576) w0 (by omega) (by omega), binP_lss, iteP_eq, atP_zero, atP_succ, rt_eq, scs_sc, scs_nil, flat_int, flat_bool, true_and, and_true]
  by_cases c0 : ((mZone x0 : Nat) : Int) ≤ 1048576
  rotate_left
  · simp [szr_not c0]
  simp only [szr_yes c0, show ¬ (1048576 - ((mZone x0 : Nat) : Int) < 0) by omega, decide_false, Bool.false_eq_true, if_false, binP_lss, iteP_eq, atP_zero, atP_succ, rt_eq, scs_sc, scs_nil, flat_int, flat_bool, true_and, and_true]
  have s0 : mZone x0 ≤ 1048576 := by omega
  simp [laws_toZone_n x0 s0, laws_eqZone_n x0 s0, spec_FormatZone_n x0 s0 rg0, impl_FormatZone_n x0 s0 rg0]
end Go.Ev
