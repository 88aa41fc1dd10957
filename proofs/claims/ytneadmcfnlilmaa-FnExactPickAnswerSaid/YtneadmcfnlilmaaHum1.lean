/- What each function hands back, in plain Lean, and that the laws answer true, part 1. -/
import Derived.Test.YtneadmcfnlilmaaFn1
set_option linter.unusedVariables false
set_option linter.unusedSimpArgs false
set_option maxRecDepth 4000
namespace Go.Ev
open Go.Proofs
/-! ### The laws' own functions: copies, sizes, comparisons (printed by gentypes.py) -/
theorem szr_add {s t : Nat} {left : Int} (h : (s : Int) ≤ left) : szr (s + t) left = szr t (left - s) := by
  unfold szr
  by_cases h1 : (t : Int) ≤ left - s
  · rw [if_pos h1, if_pos (by omega)]; omega
  · rw [if_neg h1, if_neg (by omega)]
theorem szr_over {s t : Nat} {left : Int} (h : ¬ (s : Int) ≤ left) : szr (s + t) left = -1 := by unfold szr; rw [if_neg (by omega)]
theorem szr_not {s : Nat} {left : Int} (h : ¬ (s : Int) ≤ left) : szr s left = -1 := by unfold szr; rw [if_neg h]
theorem szr_yes {s : Nat} {left : Int} (h : (s : Int) ≤ left) : szr s left = left - s := by unfold szr; rw [if_pos h]
theorem szr_pos {s : Nat} {left : Int} (h : 0 ≤ szr s left) : (s : Int) ≤ left ∧ szr s left = left - s := by
  unfold szr at h ⊢
  split at h
  · rename_i h1; rw [if_pos h1]; exact ⟨h1, rfl⟩
  · omega
theorem sumN_mem {α : Type} {s : α → Nat} {x : α} : ∀ {l : List α}, x ∈ l → s x ≤ sumN s l
  | y :: l, h => by
    rw [show sumN s (y :: l) = s y + sumN s l from rfl]
    rcases List.mem_cons.1 h with rfl | h
    · omega
    · have := sumN_mem (s := s) h; omega
/-- one count, then the rest -/
theorem sz_seq {s t : Nat} {left : Int} {A : Int → Prop} {k : List PV → Prop} (h2 : 0 ≤ left) (h3 : left ≤ 1048576) (h : ∀ l, 0 ≤ l → l ≤ 1048576 → (A l ↔ k [I (szr t l)])) :
    (if decide (szr s left < 0) = true then k [I (-1)] else A (szr s left)) ↔ k [I (szr (s + t) left)] := by
  by_cases hs : (s : Int) ≤ left
  · rw [szr_yes hs, szr_add hs, if_neg (by simp; omega)]
    exact h _ (by omega) (by omega)
  · rw [szr_not hs, szr_over hs]; simp
theorem sz_end {s : Nat} {left : Int} {k : List PV → Prop} (h2 : 0 ≤ left) : (if decide (szr s left < 0) = true then k [I (-1)] else k [I (szr s left)]) ↔ k [I (szr s left)] := by
  by_cases hs : (s : Int) ≤ left
  · rw [szr_yes hs, if_neg (by simp; omega)]
  · rw [szr_not hs]; simp
/-- a length, taken off -/
theorem sz_len {n : Nat} {left : Int} {A : Int → Prop} {k : List PV → Prop} (h1 : n ≤ maxLen) (h2 : 0 ≤ left) (h3 : left ≤ 1048576) :
    (if decide (IntKind.i64.wrap (left - n) < 0) = true then k [I (-1)] else A (IntKind.i64.wrap (left - n))) ↔ (if decide (szr n left < 0) = true then k [I (-1)] else A (szr n left)) := by
  rw [wr_left h1 h2 h3]
  by_cases hs : (n : Int) ≤ left
  · rw [szr_yes hs]
  · rw [szr_not hs, if_pos (by simp; omega), if_pos (by simp)]

theorem has_strs {p : PV} (hp : Sh.has (.list [.str]) p) : ∃ l : List ByteArray, p = strs l ∧ (l.length ≤ maxLen ∧ ∀ y ∈ l, y.size ≤ maxLen) := by
  obtain ⟨l, h1, h2, h3⟩ := has_map (enc := rS) (wf := fun y => y.size ≤ maxLen) (fun r hr => by
    obtain ⟨p, rfl, h⟩ := all_one hr
    obtain ⟨n, rfl, g⟩ := has_str h
    exact ⟨n, rfl, g⟩) 1 rfl hp
  exact ⟨l, h1, h2, h3⟩
theorem laws_szIntS_n (l : List Int) (left : Int) (hw : l.length ≤ maxLen) (h2 : 0 ≤ left) (h3 : left ≤ 1048576) (k) : call laws_szIntS [.one (ints l), .one (I left)] k = k [I (szr l.length left)] := call_of (fun k => by
  simp only [laws_szIntS, lenP_eq, List.length_map, binP_sub, wr_left hw h2 h3, binP_lss, iteP_eq, rt_eq, scs_sc, scs_nil, flat_int, true_and, and_true]
  by_cases c : (l.length : Int) ≤ left
  · simp [szr_yes c, show ¬ (left - (l.length : Int) < 0) by omega]
  · simp [szr_not c, show left - (l.length : Int) < 0 by omega]) k
theorem laws_toIntS_n (l : List Int) (h : l.length ≤ 1048576) (k) : call laws_toIntS [.one (ints l)] k = k [ints l] := call_of (fun k => by
  have hm := h
  simp [laws_toIntS, show l.length < 1073741824 by omega]
  refine lp_toS l rI rI [I 0] 1 1 (.list 1 []) rfl (fun i x hx hi K rows hr hz => ?_) fun K => ?_
  · simp [-getElem?_pos, laws_toIntS_r0, hx, hi, hr, hz, over, wr_succ (show i < 1000000000000000000 by omega)]
  · simp [laws_toIntS_r0]) k
theorem laws_eqIntS_n (l : List Int) (h : l.length ≤ 1048576) (k) : call laws_eqIntS [.one (ints l), .one (ints l)] k = k [.bool true] := call_of (fun k => by
  have hm := h
  simp [laws_eqIntS]
  refine lp_eqS l rI 1 (.bool false) rfl (fun i x hx hi K => ?_) fun K => ?_
  · simp [-getElem?_pos, laws_eqIntS_r0, hx, hi, wr_succ (show i < 1000000000000000000 by omega)]
  · simp [laws_eqIntS_r0]) k
theorem laws_szStringS_n (l : List ByteArray) (left : Int) (hw : (l.length ≤ maxLen ∧ ∀ y ∈ l, y.size ≤ maxLen)) (h2 : 0 ≤ left) (h3 : left ≤ 1048576) (k) : call laws_szStringS [.one (strs l), .one (I left)] k = k [I (szr ((l.length + sumN ByteArray.size l)) left)] := call_of (fun k => by
  simp only [laws_szStringS, lenP_eq, List.length_map, binP_sub, wr_left hw.1 h2 h3, binP_lss, iteP_eq, rt_eq, scs_sc, scs_nil, flat_int, true_and, and_true]
  by_cases c : (l.length : Int) ≤ left
  rotate_left
  · simp [szr_over c, show left - (l.length : Int) < 0 by omega]
  simp only [szr_add c, show ¬ (left - (l.length : Int) < 0) by omega, decide_false, Bool.false_eq_true, if_false]
  refine (lp_sz (neg := k [I (-1)]) (fin := fun t => k [I t]) l rS 1 ByteArray.size (left - (l.length : Int)) (I 0) (by omega) (by omega) rfl (fun i x hx hi t ht1 ht2 K => ?_) fun t K => ?_).trans ?_
  · have e := wr_left (left := t) (hw.2 x (List.mem_of_getElem? hx)) ht1 ht2
    simp [-getElem?_pos, laws_szStringS_r0, hx, hi, e, wr_succ (show i < 1000000000000000000 by have := hw.1; omega)]
    by_cases hs : (x.size : Int) ≤ t
    · simp [hs, show ¬ (t - (x.size : Int) < 0) by omega]
    · simp [hs, show t - (x.size : Int) < 0 by omega]
  · simp [laws_szStringS_r0]
  · by_cases hs : ((sumN ByteArray.size l : Nat) : Int) ≤ left - (l.length : Int)
    · simp [szr_yes hs, hs]
    · simp [szr_not hs, hs]) k
theorem laws_toStringS_n (l : List ByteArray) (h : (l.length + sumN ByteArray.size l) ≤ 1048576) (k) : call laws_toStringS [.one (strs l)] k = k [strs l] := call_of (fun k => by
  have hm := h
  simp [laws_toStringS, show l.length < 1073741824 by omega]
  refine lp_toS l rS rS [.str ⟨#[]⟩] 1 1 (.list 1 []) rfl (fun i x hx hi K rows hr hz => ?_) fun K => ?_
  · simp [-getElem?_pos, laws_toStringS_r0, hx, hi, hr, hz, over, wr_succ (show i < 1000000000000000000 by omega)]
  · simp [laws_toStringS_r0]) k
theorem laws_eqStringS_n (l : List ByteArray) (h : (l.length + sumN ByteArray.size l) ≤ 1048576) (k) : call laws_eqStringS [.one (strs l), .one (strs l)] k = k [.bool true] := call_of (fun k => by
  have hm := h
  simp [laws_eqStringS]
  refine lp_eqS l rS 1 (.bool false) rfl (fun i x hx hi K => ?_) fun K => ?_
  · simp [-getElem?_pos, laws_eqStringS_r0, hx, hi, wr_succ (show i < 1000000000000000000 by omega)]
  · simp [laws_eqStringS_r0]) k
structure GKeys where
  Lst : List Int
  Need : Int
abbrev eKeys (a : GKeys) : List PV := [ints a.Lst, I a.Need]
def mKeys (a : GKeys) : Nat := a.Lst.length
def WKeys (a : GKeys) : Prop := a.Lst.length ≤ maxLen
theorem decKeys (r : List PV) (hr : Sh.hasAll [.list [.int .i64], .int .i64] r) : ∃ a : GKeys, r = eKeys a ∧ WKeys a := by
  obtain ⟨p1, r1, rfl, h1, hr1⟩ := all_cons hr
  obtain ⟨n1, rfl, g1⟩ := has_ints h1
  obtain ⟨p2, rfl, h2⟩ := all_one hr1
  obtain ⟨n2, rfl⟩ := has_int h2
  exact ⟨⟨n1, n2⟩, rfl, g1⟩
theorem laws_szKeys_n (a : GKeys) (left : Int) (hw : WKeys a) (h2 : 0 ≤ left) (h3 : left ≤ 1048576) (k) : call laws_szKeys [.agg (eKeys a), .one (I left)] k = k [I (szr (mKeys a) left)] := call_of (fun k => by
  have g0 := hw
  unfold mKeys
  simp only [laws_szKeys, un, cur0, laws_szIntS_n a.Lst (left) g0 h2 h3, binP_lss, iteP_eq, atP_zero, rt_eq, scs_sc, scs_nil, flat_int, true_and, and_true]
  by_cases c0 : ((a.Lst.length : Nat) : Int) ≤ left
  rotate_left
  · first | (simp [szr_not c0, szr_not c0]; done) | (simp only [szr_not c0, szr_not c0]; simp)
  simp only [szr_yes c0, show ¬ (left - ((a.Lst.length : Nat) : Int) < 0) by omega, decide_false, Bool.false_eq_true, if_false, binP_lss, iteP_eq, atP_zero, rt_eq, scs_sc, scs_nil, flat_int, true_and, and_true]) k
theorem laws_toKeys_n (a : GKeys) (h : mKeys a ≤ 1048576) (k) : call laws_toKeys [.agg (eKeys a)] k = k (eKeys a) := call_of (fun k => by
  unfold mKeys at h
  simp [laws_toKeys, laws_toIntS_n a.Lst (by omega)]) k
theorem laws_eqKeys_n (a : GKeys) (h : mKeys a ≤ 1048576) (k) : call laws_eqKeys [.agg (eKeys a), .agg (eKeys a)] k = k [.bool true] := call_of (fun k => by
  unfold mKeys at h
  simp [laws_eqKeys, laws_eqIntS_n a.Lst (by omega)]) k
structure GSig where
  Key : Int
  Tag : Int
abbrev eSig (a : GSig) : List PV := [I a.Key, I a.Tag]
theorem decSig (r : List PV) (hr : Sh.hasAll [.int .i64, .int .i64] r) : ∃ a : GSig, r = eSig a ∧ True := by
  obtain ⟨p1, r1, rfl, h1, hr1⟩ := all_cons hr
  obtain ⟨n1, rfl⟩ := has_int h1
  obtain ⟨p2, rfl, h2⟩ := all_one hr1
  obtain ⟨n2, rfl⟩ := has_int h2
  exact ⟨⟨n1, n2⟩, rfl, trivial⟩
theorem laws_toSig_n (a : GSig) (k) : call laws_toSig [.agg (eSig a)] k = k (eSig a) := call_of (fun k => by
  simp [laws_toSig]) k
theorem laws_eqSig_n (a : GSig) (k) : call laws_eqSig [.agg (eSig a), .agg (eSig a)] k = k [.bool true] := call_of (fun k => by
  simp [laws_eqSig]) k
structure GEntry where
  Label : ByteArray
  Kind : Int
  Value : Int
  Path : List ByteArray
abbrev eEntry (a : GEntry) : List PV := [.str a.Label, I a.Kind, I a.Value, strs a.Path]
def mEntry (a : GEntry) : Nat := a.Label.size + ((a.Path.length + sumN ByteArray.size a.Path))
def WEntry (a : GEntry) : Prop := a.Label.size ≤ maxLen ∧ (a.Path.length ≤ maxLen ∧ ∀ y ∈ a.Path, y.size ≤ maxLen)
theorem decEntry (r : List PV) (hr : Sh.hasAll [.str, .int .i64, .int .i64, .list [.str]] r) : ∃ a : GEntry, r = eEntry a ∧ WEntry a := by
  obtain ⟨p1, r1, rfl, h1, hr1⟩ := all_cons hr
  obtain ⟨n1, rfl, g1⟩ := has_str h1
  obtain ⟨p2, r2, rfl, h2, hr2⟩ := all_cons hr1
  obtain ⟨n2, rfl⟩ := has_int h2
  obtain ⟨p3, r3, rfl, h3, hr3⟩ := all_cons hr2
  obtain ⟨n3, rfl⟩ := has_int h3
  obtain ⟨p4, rfl, h4⟩ := all_one hr3
  obtain ⟨n4, rfl, g4⟩ := has_strs h4
  exact ⟨⟨n1, n2, n3, n4⟩, rfl, ⟨g1, g4⟩⟩
theorem laws_szEntry_n (a : GEntry) (left : Int) (hw : WEntry a) (h2 : 0 ≤ left) (h3 : left ≤ 1048576) (k) : call laws_szEntry [.agg (eEntry a), .one (I left)] k = k [I (szr (mEntry a) left)] := call_of (fun k => by
  obtain ⟨g0, g1⟩ := hw
  unfold mEntry
  simp only [laws_szEntry, un, cur0, lenS_eq, binP_sub, wr_left (left := left) g0 h2 h3, binP_lss, iteP_eq, atP_zero, rt_eq, scs_sc, scs_nil, flat_int, true_and, and_true]
  by_cases c0 : ((a.Label.size : Nat) : Int) ≤ left
  rotate_left
  · first | (simp [szr_over c0, show left - ((a.Label.size : Nat) : Int) < 0 by omega]; done) | (simp only [szr_over c0, show left - ((a.Label.size : Nat) : Int) < 0 by omega]; simp)
  simp only [szr_yes c0, szr_add c0, show ¬ (left - ((a.Label.size : Nat) : Int) < 0) by omega, decide_false, Bool.false_eq_true, if_false, laws_szStringS_n a.Path (left - ((a.Label.size : Nat) : Int)) g1 (by omega) (by omega), binP_lss, iteP_eq, atP_zero, rt_eq, scs_sc, scs_nil, flat_int, true_and, and_true]
  by_cases c1 : (((a.Path.length + sumN ByteArray.size a.Path) : Nat) : Int) ≤ left - ((a.Label.size : Nat) : Int)
  rotate_left
  · first | (simp [szr_not c1, szr_not c1]; done) | (simp only [szr_not c1, szr_not c1]; simp)
  simp only [szr_yes c1, show ¬ (left - ((a.Label.size : Nat) : Int) - (((a.Path.length + sumN ByteArray.size a.Path) : Nat) : Int) < 0) by omega, decide_false, Bool.false_eq_true, if_false, binP_lss, iteP_eq, atP_zero, rt_eq, scs_sc, scs_nil, flat_int, true_and, and_true]) k
theorem laws_toEntry_n (a : GEntry) (h : mEntry a ≤ 1048576) (k) : call laws_toEntry [.agg (eEntry a)] k = k (eEntry a) := call_of (fun k => by
  unfold mEntry at h
  simp [laws_toEntry, laws_toStringS_n a.Path (by omega)]) k
theorem laws_eqEntry_n (a : GEntry) (h : mEntry a ≤ 1048576) (k) : call laws_eqEntry [.agg (eEntry a), .agg (eEntry a)] k = k [.bool true] := call_of (fun k => by
  unfold mEntry at h
  simp [laws_eqEntry, laws_eqStringS_n a.Path (by omega)]) k
structure GProof where
  At : Int
  Path : List Int
abbrev eProof (a : GProof) : List PV := [I a.At, ints a.Path]
def mProof (a : GProof) : Nat := a.Path.length
def WProof (a : GProof) : Prop := a.Path.length ≤ maxLen
theorem decProof (r : List PV) (hr : Sh.hasAll [.int .i64, .list [.int .i64]] r) : ∃ a : GProof, r = eProof a ∧ WProof a := by
  obtain ⟨p1, r1, rfl, h1, hr1⟩ := all_cons hr
  obtain ⟨n1, rfl⟩ := has_int h1
  obtain ⟨p2, rfl, h2⟩ := all_one hr1
  obtain ⟨n2, rfl, g2⟩ := has_ints h2
  exact ⟨⟨n1, n2⟩, rfl, g2⟩
theorem laws_szProof_n (a : GProof) (left : Int) (hw : WProof a) (h2 : 0 ≤ left) (h3 : left ≤ 1048576) (k) : call laws_szProof [.agg (eProof a), .one (I left)] k = k [I (szr (mProof a) left)] := call_of (fun k => by
  have g0 := hw
  unfold mProof
  simp only [laws_szProof, un, cur0, laws_szIntS_n a.Path (left) g0 h2 h3, binP_lss, iteP_eq, atP_zero, rt_eq, scs_sc, scs_nil, flat_int, true_and, and_true]
  by_cases c0 : ((a.Path.length : Nat) : Int) ≤ left
  rotate_left
  · first | (simp [szr_not c0, szr_not c0]; done) | (simp only [szr_not c0, szr_not c0]; simp)
  simp only [szr_yes c0, show ¬ (left - ((a.Path.length : Nat) : Int) < 0) by omega, decide_false, Bool.false_eq_true, if_false, binP_lss, iteP_eq, atP_zero, rt_eq, scs_sc, scs_nil, flat_int, true_and, and_true]) k
theorem laws_toProof_n (a : GProof) (h : mProof a ≤ 1048576) (k) : call laws_toProof [.agg (eProof a)] k = k (eProof a) := call_of (fun k => by
  unfold mProof at h
  simp [laws_toProof, laws_toIntS_n a.Path (by omega)]) k
theorem laws_eqProof_n (a : GProof) (h : mProof a ≤ 1048576) (k) : call laws_eqProof [.agg (eProof a), .agg (eProof a)] k = k [.bool true] := call_of (fun k => by
  unfold mProof at h
  simp [laws_eqProof, laws_eqIntS_n a.Path (by omega)]) k
structure GGap where
  At : Int
  Before : GEntry
  After : GEntry
  Left : GProof
  Right : GProof
abbrev eGap (a : GGap) : List PV := [I a.At, .str a.Before.Label, I a.Before.Kind, I a.Before.Value, strs a.Before.Path, .str a.After.Label, I a.After.Kind, I a.After.Value, strs a.After.Path, I a.Left.At, ints a.Left.Path, I a.Right.At, ints a.Right.Path]
def mGap (a : GGap) : Nat := mEntry a.Before + (mEntry a.After + (mProof a.Left + (mProof a.Right)))
def WGap (a : GGap) : Prop := WEntry a.Before ∧ WEntry a.After ∧ WProof a.Left ∧ WProof a.Right
theorem decGap (r : List PV) (hr : Sh.hasAll [.int .i64, .str, .int .i64, .int .i64, .list [.str], .str, .int .i64, .int .i64, .list [.str], .int .i64, .list [.int .i64], .int .i64, .list [.int .i64]] r) : ∃ a : GGap, r = eGap a ∧ WGap a := by
  obtain ⟨p1, r1, rfl, h1, hr1⟩ := all_cons hr
  obtain ⟨n1, rfl⟩ := has_int h1
  obtain ⟨p2, r2, rfl, h2, hr2⟩ := all_cons hr1
  obtain ⟨n2, rfl, g2⟩ := has_str h2
  obtain ⟨p3, r3, rfl, h3, hr3⟩ := all_cons hr2
  obtain ⟨n3, rfl⟩ := has_int h3
  obtain ⟨p4, r4, rfl, h4, hr4⟩ := all_cons hr3
  obtain ⟨n4, rfl⟩ := has_int h4
  obtain ⟨p5, r5, rfl, h5, hr5⟩ := all_cons hr4
  obtain ⟨n5, rfl, g5⟩ := has_strs h5
  obtain ⟨p6, r6, rfl, h6, hr6⟩ := all_cons hr5
  obtain ⟨n6, rfl, g6⟩ := has_str h6
  obtain ⟨p7, r7, rfl, h7, hr7⟩ := all_cons hr6
  obtain ⟨n7, rfl⟩ := has_int h7
  obtain ⟨p8, r8, rfl, h8, hr8⟩ := all_cons hr7
  obtain ⟨n8, rfl⟩ := has_int h8
  obtain ⟨p9, r9, rfl, h9, hr9⟩ := all_cons hr8
  obtain ⟨n9, rfl, g9⟩ := has_strs h9
  obtain ⟨p10, r10, rfl, h10, hr10⟩ := all_cons hr9
  obtain ⟨n10, rfl⟩ := has_int h10
  obtain ⟨p11, r11, rfl, h11, hr11⟩ := all_cons hr10
  obtain ⟨n11, rfl, g11⟩ := has_ints h11
  obtain ⟨p12, r12, rfl, h12, hr12⟩ := all_cons hr11
  obtain ⟨n12, rfl⟩ := has_int h12
  obtain ⟨p13, rfl, h13⟩ := all_one hr12
  obtain ⟨n13, rfl, g13⟩ := has_ints h13
  exact ⟨⟨n1, ⟨n2, n3, n4, n5⟩, ⟨n6, n7, n8, n9⟩, ⟨n10, n11⟩, ⟨n12, n13⟩⟩, rfl, ⟨⟨g2, g5⟩, ⟨g6, g9⟩, g11, g13⟩⟩
theorem laws_szGap_n (a : GGap) (left : Int) (hw : WGap a) (h2 : 0 ≤ left) (h3 : left ≤ 1048576) (k) : call laws_szGap [.agg (eGap a), .one (I left)] k = k [I (szr (mGap a) left)] := call_of (fun k => by
  obtain ⟨g0, g1, g2, g3⟩ := hw
  unfold mGap
  simp only [laws_szGap, un, cur0, laws_szEntry_n a.Before (left) g0 h2 h3, binP_lss, iteP_eq, atP_zero, rt_eq, scs_sc, scs_nil, flat_int, true_and, and_true]
  by_cases c0 : ((mEntry a.Before : Nat) : Int) ≤ left
  rotate_left
  · first | (simp [szr_over c0, szr_not c0]; done) | (simp only [szr_over c0, szr_not c0]; simp)
  simp only [szr_yes c0, szr_add c0, show ¬ (left - ((mEntry a.Before : Nat) : Int) < 0) by omega, decide_false, Bool.false_eq_true, if_false, laws_szEntry_n a.After (left - ((mEntry a.Before : Nat) : Int)) g1 (by omega) (by omega), binP_lss, iteP_eq, atP_zero, rt_eq, scs_sc, scs_nil, flat_int, true_and, and_true]
  by_cases c1 : ((mEntry a.After : Nat) : Int) ≤ left - ((mEntry a.Before : Nat) : Int)
  rotate_left
  · first | (simp [szr_over c1, szr_not c1]; done) | (simp only [szr_over c1, szr_not c1]; simp)
  simp only [szr_yes c1, szr_add c1, show ¬ (left - ((mEntry a.Before : Nat) : Int) - ((mEntry a.After : Nat) : Int) < 0) by omega, decide_false, Bool.false_eq_true, if_false, laws_szProof_n a.Left (left - ((mEntry a.Before : Nat) : Int) - ((mEntry a.After : Nat) : Int)) g2 (by omega) (by omega), binP_lss, iteP_eq, atP_zero, rt_eq, scs_sc, scs_nil, flat_int, true_and, and_true]
  by_cases c2 : ((mProof a.Left : Nat) : Int) ≤ left - ((mEntry a.Before : Nat) : Int) - ((mEntry a.After : Nat) : Int)
  rotate_left
  · first | (simp [szr_over c2, szr_not c2]; done) | (simp only [szr_over c2, szr_not c2]; simp)
  simp only [szr_yes c2, szr_add c2, show ¬ (left - ((mEntry a.Before : Nat) : Int) - ((mEntry a.After : Nat) : Int) - ((mProof a.Left : Nat) : Int) < 0) by omega, decide_false, Bool.false_eq_true, if_false, laws_szProof_n a.Right (left - ((mEntry a.Before : Nat) : Int) - ((mEntry a.After : Nat) : Int) - ((mProof a.Left : Nat) : Int)) g3 (by omega) (by omega), binP_lss, iteP_eq, atP_zero, rt_eq, scs_sc, scs_nil, flat_int, true_and, and_true]
  by_cases c3 : ((mProof a.Right : Nat) : Int) ≤ left - ((mEntry a.Before : Nat) : Int) - ((mEntry a.After : Nat) : Int) - ((mProof a.Left : Nat) : Int)
  rotate_left
  · first | (simp [szr_not c3, szr_not c3]; done) | (simp only [szr_not c3, szr_not c3]; simp)
  simp only [szr_yes c3, show ¬ (left - ((mEntry a.Before : Nat) : Int) - ((mEntry a.After : Nat) : Int) - ((mProof a.Left : Nat) : Int) - ((mProof a.Right : Nat) : Int) < 0) by omega, decide_false, Bool.false_eq_true, if_false, binP_lss, iteP_eq, atP_zero, rt_eq, scs_sc, scs_nil, flat_int, true_and, and_true]) k
theorem laws_toGap_n (a : GGap) (h : mGap a ≤ 1048576) (k) : call laws_toGap [.agg (eGap a)] k = k (eGap a) := call_of (fun k => by
  unfold mGap at h
  simp [laws_toGap, laws_toEntry_n a.Before (by omega), laws_toEntry_n a.After (by omega), laws_toProof_n a.Left (by omega), laws_toProof_n a.Right (by omega)]) k
theorem laws_eqGap_n (a : GGap) (h : mGap a ≤ 1048576) (k) : call laws_eqGap [.agg (eGap a), .agg (eGap a)] k = k [.bool true] := call_of (fun k => by
  unfold mGap at h
  simp [laws_eqGap, laws_eqEntry_n a.Before (by omega), laws_eqEntry_n a.After (by omega), laws_eqProof_n a.Left (by omega), laws_eqProof_n a.Right (by omega)]) k
structure GHead where
  Zone : Int
  Epoch : Int
  Kind : Int
  Time : Int
  Until : Int
  Count : Int
  Root : Int
  Prev : Int
  Keys : GKeys
  Heirs : GKeys
  Wait : Int
  Judge : GKeys
  Frozen : Bool
abbrev eHead (a : GHead) : List PV := [I a.Zone, I a.Epoch, I a.Kind, I a.Time, I a.Until, I a.Count, I a.Root, I a.Prev, ints a.Keys.Lst, I a.Keys.Need, ints a.Heirs.Lst, I a.Heirs.Need, I a.Wait, ints a.Judge.Lst, I a.Judge.Need, .bool a.Frozen]
def mHead (a : GHead) : Nat := mKeys a.Keys + (mKeys a.Heirs + (mKeys a.Judge))
def WHead (a : GHead) : Prop := WKeys a.Keys ∧ WKeys a.Heirs ∧ WKeys a.Judge
theorem decHead (r : List PV) (hr : Sh.hasAll [.int .i64, .int .i64, .int .i64, .int .i64, .int .i64, .int .i64, .int .i64, .int .i64, .list [.int .i64], .int .i64, .list [.int .i64], .int .i64, .int .i64, .list [.int .i64], .int .i64, .bool] r) : ∃ a : GHead, r = eHead a ∧ WHead a := by
  obtain ⟨p1, r1, rfl, h1, hr1⟩ := all_cons hr
  obtain ⟨n1, rfl⟩ := has_int h1
  obtain ⟨p2, r2, rfl, h2, hr2⟩ := all_cons hr1
  obtain ⟨n2, rfl⟩ := has_int h2
  obtain ⟨p3, r3, rfl, h3, hr3⟩ := all_cons hr2
  obtain ⟨n3, rfl⟩ := has_int h3
  obtain ⟨p4, r4, rfl, h4, hr4⟩ := all_cons hr3
  obtain ⟨n4, rfl⟩ := has_int h4
  obtain ⟨p5, r5, rfl, h5, hr5⟩ := all_cons hr4
  obtain ⟨n5, rfl⟩ := has_int h5
  obtain ⟨p6, r6, rfl, h6, hr6⟩ := all_cons hr5
  obtain ⟨n6, rfl⟩ := has_int h6
  obtain ⟨p7, r7, rfl, h7, hr7⟩ := all_cons hr6
  obtain ⟨n7, rfl⟩ := has_int h7
  obtain ⟨p8, r8, rfl, h8, hr8⟩ := all_cons hr7
  obtain ⟨n8, rfl⟩ := has_int h8
  obtain ⟨p9, r9, rfl, h9, hr9⟩ := all_cons hr8
  obtain ⟨n9, rfl, g9⟩ := has_ints h9
  obtain ⟨p10, r10, rfl, h10, hr10⟩ := all_cons hr9
  obtain ⟨n10, rfl⟩ := has_int h10
  obtain ⟨p11, r11, rfl, h11, hr11⟩ := all_cons hr10
  obtain ⟨n11, rfl, g11⟩ := has_ints h11
  obtain ⟨p12, r12, rfl, h12, hr12⟩ := all_cons hr11
  obtain ⟨n12, rfl⟩ := has_int h12
  obtain ⟨p13, r13, rfl, h13, hr13⟩ := all_cons hr12
  obtain ⟨n13, rfl⟩ := has_int h13
  obtain ⟨p14, r14, rfl, h14, hr14⟩ := all_cons hr13
  obtain ⟨n14, rfl, g14⟩ := has_ints h14
  obtain ⟨p15, r15, rfl, h15, hr15⟩ := all_cons hr14
  obtain ⟨n15, rfl⟩ := has_int h15
  obtain ⟨p16, rfl, h16⟩ := all_one hr15
  obtain ⟨n16, rfl⟩ := has_bool h16
  exact ⟨⟨n1, n2, n3, n4, n5, n6, n7, n8, ⟨n9, n10⟩, ⟨n11, n12⟩, n13, ⟨n14, n15⟩, n16⟩, rfl, ⟨g9, g11, g14⟩⟩
theorem laws_szHead_n (a : GHead) (left : Int) (hw : WHead a) (h2 : 0 ≤ left) (h3 : left ≤ 1048576) (k) : call laws_szHead [.agg (eHead a), .one (I left)] k = k [I (szr (mHead a) left)] := call_of (fun k => by
  obtain ⟨g0, g1, g2⟩ := hw
  unfold mHead
  simp only [laws_szHead, un, cur0, laws_szKeys_n a.Keys (left) g0 h2 h3, binP_lss, iteP_eq, atP_zero, rt_eq, scs_sc, scs_nil, flat_int, true_and, and_true]
  by_cases c0 : ((mKeys a.Keys : Nat) : Int) ≤ left
  rotate_left
  · first | (simp [szr_over c0, szr_not c0]; done) | (simp only [szr_over c0, szr_not c0]; simp)
  simp only [szr_yes c0, szr_add c0, show ¬ (left - ((mKeys a.Keys : Nat) : Int) < 0) by omega, decide_false, Bool.false_eq_true, if_false, laws_szKeys_n a.Heirs (left - ((mKeys a.Keys : Nat) : Int)) g1 (by omega) (by omega), binP_lss, iteP_eq, atP_zero, rt_eq, scs_sc, scs_nil, flat_int, true_and, and_true]
  by_cases c1 : ((mKeys a.Heirs : Nat) : Int) ≤ left - ((mKeys a.Keys : Nat) : Int)
  rotate_left
  · first | (simp [szr_over c1, szr_not c1]; done) | (simp only [szr_over c1, szr_not c1]; simp)
  simp only [szr_yes c1, szr_add c1, show ¬ (left - ((mKeys a.Keys : Nat) : Int) - ((mKeys a.Heirs : Nat) : Int) < 0) by omega, decide_false, Bool.false_eq_true, if_false, laws_szKeys_n a.Judge (left - ((mKeys a.Keys : Nat) : Int) - ((mKeys a.Heirs : Nat) : Int)) g2 (by omega) (by omega), binP_lss, iteP_eq, atP_zero, rt_eq, scs_sc, scs_nil, flat_int, true_and, and_true]
  by_cases c2 : ((mKeys a.Judge : Nat) : Int) ≤ left - ((mKeys a.Keys : Nat) : Int) - ((mKeys a.Heirs : Nat) : Int)
  rotate_left
  · first | (simp [szr_not c2, szr_not c2]; done) | (simp only [szr_not c2, szr_not c2]; simp)
  simp only [szr_yes c2, show ¬ (left - ((mKeys a.Keys : Nat) : Int) - ((mKeys a.Heirs : Nat) : Int) - ((mKeys a.Judge : Nat) : Int) < 0) by omega, decide_false, Bool.false_eq_true, if_false, binP_lss, iteP_eq, atP_zero, rt_eq, scs_sc, scs_nil, flat_int, true_and, and_true]) k
theorem laws_toHead_n (a : GHead) (h : mHead a ≤ 1048576) (k) : call laws_toHead [.agg (eHead a)] k = k (eHead a) := call_of (fun k => by
  unfold mHead at h
  simp [laws_toHead, laws_toKeys_n a.Keys (by omega), laws_toKeys_n a.Heirs (by omega), laws_toKeys_n a.Judge (by omega)]) k
theorem laws_eqHead_n (a : GHead) (h : mHead a ≤ 1048576) (k) : call laws_eqHead [.agg (eHead a), .agg (eHead a)] k = k [.bool true] := call_of (fun k => by
  unfold mHead at h
  simp [laws_eqHead, laws_eqKeys_n a.Keys (by omega), laws_eqKeys_n a.Heirs (by omega), laws_eqKeys_n a.Judge (by omega)]) k
theorem decSigS {p : PV} (h : Sh.has (.list [.int .i64, .int .i64]) p) : ∃ l : List GSig, p = .list 2 (l.map eSig) ∧ l.length ≤ maxLen := by
  obtain ⟨l, h1, h2, h3⟩ := has_map decSig 2 rfl h
  exact ⟨l, h1, h2⟩
theorem laws_szSigS_n (l : List GSig) (left : Int) (hw : l.length ≤ maxLen) (h2 : 0 ≤ left) (h3 : left ≤ 1048576) (k) : call laws_szSigS [.one (.list 2 (l.map eSig)), .one (I left)] k = k [I (szr l.length left)] := call_of (fun k => by
  simp only [laws_szSigS, lenP_eq, List.length_map, binP_sub, wr_left hw h2 h3, binP_lss, iteP_eq, rt_eq, scs_sc, scs_nil, flat_int, true_and, and_true]
  by_cases c : (l.length : Int) ≤ left
  · simp [szr_yes c, show ¬ (left - (l.length : Int) < 0) by omega]
  · simp [szr_not c, show left - (l.length : Int) < 0 by omega]) k
theorem laws_toSigS_n (l : List GSig) (h : l.length ≤ 1048576) (k) : call laws_toSigS [.one (.list 2 (l.map eSig))] k = k [.list 2 (l.map eSig)] := call_of (fun k => by
  have hm := h
  simp [laws_toSigS, show l.length < 1073741824 by omega]
  refine lp_toS l eSig eSig [I 0, I 0] 2 2 (.list 2 []) rfl (fun i x hx hi K rows hr hz => ?_) fun K => ?_
  · simp [-getElem?_pos, laws_toSigS_r0, hx, hi, hr, hz, over, laws_toSig_n x, wr_succ (show i < 1000000000000000000 by omega)]
  · simp [laws_toSigS_r0]) k
theorem laws_eqSigS_n (l : List GSig) (h : l.length ≤ 1048576) (k) : call laws_eqSigS [.one (.list 2 (l.map eSig)), .one (.list 2 (l.map eSig))] k = k [.bool true] := call_of (fun k => by
  have hm := h
  simp [laws_eqSigS]
  refine lp_eqS l eSig 2 (.bool false) rfl (fun i x hx hi K => ?_) fun K => ?_
  · simp [-getElem?_pos, laws_eqSigS_r0, hx, hi, laws_eqSig_n x, wr_succ (show i < 1000000000000000000 by omega)]
  · simp [laws_eqSigS_r0]) k
structure GSigned where
  Head : GHead
  Sigs : List GSig
abbrev eSigned (a : GSigned) : List PV := [I a.Head.Zone, I a.Head.Epoch, I a.Head.Kind, I a.Head.Time, I a.Head.Until, I a.Head.Count, I a.Head.Root, I a.Head.Prev, ints a.Head.Keys.Lst, I a.Head.Keys.Need, ints a.Head.Heirs.Lst, I a.Head.Heirs.Need, I a.Head.Wait, ints a.Head.Judge.Lst, I a.Head.Judge.Need, .bool a.Head.Frozen, .list 2 (a.Sigs.map eSig)]
def mSigned (a : GSigned) : Nat := mHead a.Head + (a.Sigs.length)
def WSigned (a : GSigned) : Prop := WHead a.Head ∧ a.Sigs.length ≤ maxLen
theorem decSigned (r : List PV) (hr : Sh.hasAll [.int .i64, .int .i64, .int .i64, .int .i64, .int .i64, .int .i64, .int .i64, .int .i64, .list [.int .i64], .int .i64, .list [.int .i64], .int .i64, .int .i64, .list [.int .i64], .int .i64, .bool, .list [.int .i64, .int .i64]] r) : ∃ a : GSigned, r = eSigned a ∧ WSigned a := by
  obtain ⟨p1, r1, rfl, h1, hr1⟩ := all_cons hr
  obtain ⟨n1, rfl⟩ := has_int h1
  obtain ⟨p2, r2, rfl, h2, hr2⟩ := all_cons hr1
  obtain ⟨n2, rfl⟩ := has_int h2
  obtain ⟨p3, r3, rfl, h3, hr3⟩ := all_cons hr2
  obtain ⟨n3, rfl⟩ := has_int h3
  obtain ⟨p4, r4, rfl, h4, hr4⟩ := all_cons hr3
  obtain ⟨n4, rfl⟩ := has_int h4
  obtain ⟨p5, r5, rfl, h5, hr5⟩ := all_cons hr4
  obtain ⟨n5, rfl⟩ := has_int h5
  obtain ⟨p6, r6, rfl, h6, hr6⟩ := all_cons hr5
  obtain ⟨n6, rfl⟩ := has_int h6
  obtain ⟨p7, r7, rfl, h7, hr7⟩ := all_cons hr6
  obtain ⟨n7, rfl⟩ := has_int h7
  obtain ⟨p8, r8, rfl, h8, hr8⟩ := all_cons hr7
  obtain ⟨n8, rfl⟩ := has_int h8
  obtain ⟨p9, r9, rfl, h9, hr9⟩ := all_cons hr8
  obtain ⟨n9, rfl, g9⟩ := has_ints h9
  obtain ⟨p10, r10, rfl, h10, hr10⟩ := all_cons hr9
  obtain ⟨n10, rfl⟩ := has_int h10
  obtain ⟨p11, r11, rfl, h11, hr11⟩ := all_cons hr10
  obtain ⟨n11, rfl, g11⟩ := has_ints h11
  obtain ⟨p12, r12, rfl, h12, hr12⟩ := all_cons hr11
  obtain ⟨n12, rfl⟩ := has_int h12
  obtain ⟨p13, r13, rfl, h13, hr13⟩ := all_cons hr12
  obtain ⟨n13, rfl⟩ := has_int h13
  obtain ⟨p14, r14, rfl, h14, hr14⟩ := all_cons hr13
  obtain ⟨n14, rfl, g14⟩ := has_ints h14
  obtain ⟨p15, r15, rfl, h15, hr15⟩ := all_cons hr14
  obtain ⟨n15, rfl⟩ := has_int h15
  obtain ⟨p16, r16, rfl, h16, hr16⟩ := all_cons hr15
  obtain ⟨n16, rfl⟩ := has_bool h16
  obtain ⟨p17, rfl, h17⟩ := all_one hr16
  obtain ⟨n17, rfl, g17⟩ := decSigS h17
  exact ⟨⟨⟨n1, n2, n3, n4, n5, n6, n7, n8, ⟨n9, n10⟩, ⟨n11, n12⟩, n13, ⟨n14, n15⟩, n16⟩, n17⟩, rfl, ⟨⟨g9, g11, g14⟩, g17⟩⟩
theorem laws_szSigned_n (a : GSigned) (left : Int) (hw : WSigned a) (h2 : 0 ≤ left) (h3 : left ≤ 1048576) (k) : call laws_szSigned [.agg (eSigned a), .one (I left)] k = k [I (szr (mSigned a) left)] := call_of (fun k => by
  obtain ⟨g0, g1⟩ := hw
  unfold mSigned
  simp only [laws_szSigned, un, cur0, laws_szHead_n a.Head (left) g0 h2 h3, binP_lss, iteP_eq, atP_zero, rt_eq, scs_sc, scs_nil, flat_int, true_and, and_true]
  by_cases c0 : ((mHead a.Head : Nat) : Int) ≤ left
  rotate_left
  · first | (simp [szr_over c0, szr_not c0]; done) | (simp only [szr_over c0, szr_not c0]; simp)
  simp only [szr_yes c0, szr_add c0, show ¬ (left - ((mHead a.Head : Nat) : Int) < 0) by omega, decide_false, Bool.false_eq_true, if_false, laws_szSigS_n a.Sigs (left - ((mHead a.Head : Nat) : Int)) g1 (by omega) (by omega), binP_lss, iteP_eq, atP_zero, rt_eq, scs_sc, scs_nil, flat_int, true_and, and_true]
  by_cases c1 : ((a.Sigs.length : Nat) : Int) ≤ left - ((mHead a.Head : Nat) : Int)
  rotate_left
  · first | (simp [szr_not c1, szr_not c1]; done) | (simp only [szr_not c1, szr_not c1]; simp)
  simp only [szr_yes c1, show ¬ (left - ((mHead a.Head : Nat) : Int) - ((a.Sigs.length : Nat) : Int) < 0) by omega, decide_false, Bool.false_eq_true, if_false, binP_lss, iteP_eq, atP_zero, rt_eq, scs_sc, scs_nil, flat_int, true_and, and_true]) k
theorem laws_toSigned_n (a : GSigned) (h : mSigned a ≤ 1048576) (k) : call laws_toSigned [.agg (eSigned a)] k = k (eSigned a) := call_of (fun k => by
  unfold mSigned at h
  simp [laws_toSigned, laws_toHead_n a.Head (by omega), laws_toSigS_n a.Sigs (by omega)]) k
theorem laws_eqSigned_n (a : GSigned) (h : mSigned a ≤ 1048576) (k) : call laws_eqSigned [.agg (eSigned a), .agg (eSigned a)] k = k [.bool true] := call_of (fun k => by
  unfold mSigned at h
  simp [laws_eqSigned, laws_eqHead_n a.Head (by omega), laws_eqSigS_n a.Sigs (by omega)]) k
def mSignedS (l : List GSigned) : Nat := l.length + sumN mSigned l
theorem decSignedS {p : PV} (h : Sh.has (.list [.int .i64, .int .i64, .int .i64, .int .i64, .int .i64, .int .i64, .int .i64, .int .i64, .list [.int .i64], .int .i64, .list [.int .i64], .int .i64, .int .i64, .list [.int .i64], .int .i64, .bool, .list [.int .i64, .int .i64]]) p) : ∃ l : List GSigned, p = .list 17 (l.map eSigned) ∧ (l.length ≤ maxLen ∧ ∀ y ∈ l, WSigned y) := by
  obtain ⟨l, h1, h2, h3⟩ := has_map decSigned 17 rfl h
  exact ⟨l, h1, h2, h3⟩
theorem laws_szSignedS_n (l : List GSigned) (left : Int) (hw : (l.length ≤ maxLen ∧ ∀ y ∈ l, WSigned y)) (h2 : 0 ≤ left) (h3 : left ≤ 1048576) (k) : call laws_szSignedS [.one (.list 17 (l.map eSigned)), .one (I left)] k = k [I (szr (mSignedS l) left)] := call_of (fun k => by
  simp only [laws_szSignedS, lenP_eq, List.length_map, binP_sub, wr_left hw.1 h2 h3, binP_lss, iteP_eq, rt_eq, scs_sc, scs_nil, flat_int, true_and, and_true]
  unfold mSignedS
  by_cases c : (l.length : Int) ≤ left
  rotate_left
  · simp [szr_over c, show left - (l.length : Int) < 0 by omega]
  simp only [szr_add c, show ¬ (left - (l.length : Int) < 0) by omega, decide_false, Bool.false_eq_true, if_false]
  refine (lp_sz (neg := k [I (-1)]) (fin := fun t => k [I t]) l eSigned 17 mSigned (left - (l.length : Int)) (I 0) (by omega) (by omega) rfl (fun i x hx hi t ht1 ht2 K => ?_) fun t K => ?_).trans ?_
  · have e := laws_szSigned_n x t (hw.2 x (List.mem_of_getElem? hx)) ht1 ht2
    simp [-getElem?_pos, laws_szSignedS_r0, hx, hi, e, wr_succ (show i < 1000000000000000000 by omega)]
    by_cases hs : ((mSigned x : Nat) : Int) ≤ t
    · simp [szr_yes hs, hs, show ¬ (t - ((mSigned x : Nat) : Int) < 0) by omega]
    · simp [szr_not hs, hs]
  · simp [laws_szSignedS_r0]
  · by_cases hs : ((sumN mSigned l : Nat) : Int) ≤ left - (l.length : Int)
    · simp [szr_yes hs, hs]
    · simp [szr_not hs, hs]) k
theorem laws_toSignedS_n (l : List GSigned) (h : mSignedS l ≤ 1048576) (k) : call laws_toSignedS [.one (.list 17 (l.map eSigned))] k = k [.list 17 (l.map eSigned)] := call_of (fun k => by
  have hm := h
  unfold mSignedS at hm
  simp [laws_toSignedS, show l.length < 1073741824 by omega]
  refine lp_toS l eSigned eSigned [I 0, I 0, I 0, I 0, I 0, I 0, I 0, I 0, .list 1 [], I 0, .list 1 [], I 0, I 0, .list 1 [], I 0, .bool false, .list 2 []] 17 17 (.list 17 []) rfl (fun i x hx hi K rows hr hz => ?_) fun K => ?_
  · have hs : mSigned x ≤ sumN mSigned l := sumN_mem (s := mSigned) (List.mem_of_getElem? hx)
    simp [-getElem?_pos, laws_toSignedS_r0, hx, hi, hr, hz, over, laws_toSigned_n x (by omega), wr_succ (show i < 1000000000000000000 by omega)]
  · simp [laws_toSignedS_r0]) k
theorem laws_eqSignedS_n (l : List GSigned) (h : mSignedS l ≤ 1048576) (k) : call laws_eqSignedS [.one (.list 17 (l.map eSigned)), .one (.list 17 (l.map eSigned))] k = k [.bool true] := call_of (fun k => by
  have hm := h
  unfold mSignedS at hm
  simp [laws_eqSignedS]
  refine lp_eqS l eSigned 17 (.bool false) rfl (fun i x hx hi K => ?_) fun K => ?_
  · have hs : mSigned x ≤ sumN mSigned l := sumN_mem (s := mSigned) (List.mem_of_getElem? hx)
    simp [-getElem?_pos, laws_eqSignedS_r0, hx, hi, laws_eqSigned_n x (by omega), wr_succ (show i < 1000000000000000000 by omega)]
  · simp [laws_eqSignedS_r0]) k
structure GAnswer where
  Chain : List GSigned
  Found : Bool
  Entry : GEntry
  Proof : GProof
  Gap : GGap
abbrev eAnswer (a : GAnswer) : List PV := [.list 17 (a.Chain.map eSigned), .bool a.Found, .str a.Entry.Label, I a.Entry.Kind, I a.Entry.Value, strs a.Entry.Path, I a.Proof.At, ints a.Proof.Path, I a.Gap.At, .str a.Gap.Before.Label, I a.Gap.Before.Kind, I a.Gap.Before.Value, strs a.Gap.Before.Path, .str a.Gap.After.Label, I a.Gap.After.Kind, I a.Gap.After.Value, strs a.Gap.After.Path, I a.Gap.Left.At, ints a.Gap.Left.Path, I a.Gap.Right.At, ints a.Gap.Right.Path]
def mAnswer (a : GAnswer) : Nat := mSignedS a.Chain + (mEntry a.Entry + (mProof a.Proof + (mGap a.Gap)))
def WAnswer (a : GAnswer) : Prop := (a.Chain.length ≤ maxLen ∧ ∀ y ∈ a.Chain, WSigned y) ∧ WEntry a.Entry ∧ WProof a.Proof ∧ WGap a.Gap
theorem decAnswer (r : List PV) (hr : Sh.hasAll [.list [.int .i64, .int .i64, .int .i64, .int .i64, .int .i64, .int .i64, .int .i64, .int .i64, .list [.int .i64], .int .i64, .list [.int .i64], .int .i64, .int .i64, .list [.int .i64], .int .i64, .bool, .list [.int .i64, .int .i64]], .bool, .str, .int .i64, .int .i64, .list [.str], .int .i64, .list [.int .i64], .int .i64, .str, .int .i64, .int .i64, .list [.str], .str, .int .i64, .int .i64, .list [.str], .int .i64, .list [.int .i64], .int .i64, .list [.int .i64]] r) : ∃ a : GAnswer, r = eAnswer a ∧ WAnswer a := by
  obtain ⟨p1, r1, rfl, h1, hr1⟩ := all_cons hr
  obtain ⟨n1, rfl, g1⟩ := decSignedS h1
  obtain ⟨p2, r2, rfl, h2, hr2⟩ := all_cons hr1
  obtain ⟨n2, rfl⟩ := has_bool h2
  obtain ⟨p3, r3, rfl, h3, hr3⟩ := all_cons hr2
  obtain ⟨n3, rfl, g3⟩ := has_str h3
  obtain ⟨p4, r4, rfl, h4, hr4⟩ := all_cons hr3
  obtain ⟨n4, rfl⟩ := has_int h4
  obtain ⟨p5, r5, rfl, h5, hr5⟩ := all_cons hr4
  obtain ⟨n5, rfl⟩ := has_int h5
  obtain ⟨p6, r6, rfl, h6, hr6⟩ := all_cons hr5
  obtain ⟨n6, rfl, g6⟩ := has_strs h6
  obtain ⟨p7, r7, rfl, h7, hr7⟩ := all_cons hr6
  obtain ⟨n7, rfl⟩ := has_int h7
  obtain ⟨p8, r8, rfl, h8, hr8⟩ := all_cons hr7
  obtain ⟨n8, rfl, g8⟩ := has_ints h8
  obtain ⟨p9, r9, rfl, h9, hr9⟩ := all_cons hr8
  obtain ⟨n9, rfl⟩ := has_int h9
  obtain ⟨p10, r10, rfl, h10, hr10⟩ := all_cons hr9
  obtain ⟨n10, rfl, g10⟩ := has_str h10
  obtain ⟨p11, r11, rfl, h11, hr11⟩ := all_cons hr10
  obtain ⟨n11, rfl⟩ := has_int h11
  obtain ⟨p12, r12, rfl, h12, hr12⟩ := all_cons hr11
  obtain ⟨n12, rfl⟩ := has_int h12
  obtain ⟨p13, r13, rfl, h13, hr13⟩ := all_cons hr12
  obtain ⟨n13, rfl, g13⟩ := has_strs h13
  obtain ⟨p14, r14, rfl, h14, hr14⟩ := all_cons hr13
  obtain ⟨n14, rfl, g14⟩ := has_str h14
  obtain ⟨p15, r15, rfl, h15, hr15⟩ := all_cons hr14
  obtain ⟨n15, rfl⟩ := has_int h15
  obtain ⟨p16, r16, rfl, h16, hr16⟩ := all_cons hr15
  obtain ⟨n16, rfl⟩ := has_int h16
  obtain ⟨p17, r17, rfl, h17, hr17⟩ := all_cons hr16
  obtain ⟨n17, rfl, g17⟩ := has_strs h17
  obtain ⟨p18, r18, rfl, h18, hr18⟩ := all_cons hr17
  obtain ⟨n18, rfl⟩ := has_int h18
  obtain ⟨p19, r19, rfl, h19, hr19⟩ := all_cons hr18
  obtain ⟨n19, rfl, g19⟩ := has_ints h19
  obtain ⟨p20, r20, rfl, h20, hr20⟩ := all_cons hr19
  obtain ⟨n20, rfl⟩ := has_int h20
  obtain ⟨p21, rfl, h21⟩ := all_one hr20
  obtain ⟨n21, rfl, g21⟩ := has_ints h21
  exact ⟨⟨n1, n2, ⟨n3, n4, n5, n6⟩, ⟨n7, n8⟩, ⟨n9, ⟨n10, n11, n12, n13⟩, ⟨n14, n15, n16, n17⟩, ⟨n18, n19⟩, ⟨n20, n21⟩⟩⟩, rfl, ⟨g1, ⟨g3, g6⟩, g8, ⟨⟨g10, g13⟩, ⟨g14, g17⟩, g19, g21⟩⟩⟩
theorem laws_szAnswer_n (a : GAnswer) (left : Int) (hw : WAnswer a) (h2 : 0 ≤ left) (h3 : left ≤ 1048576) (k) : call laws_szAnswer [.agg (eAnswer a), .one (I left)] k = k [I (szr (mAnswer a) left)] := call_of (fun k => by
  obtain ⟨g0, g1, g2, g3⟩ := hw
  unfold mAnswer
  simp only [laws_szAnswer, un, cur0, laws_szSignedS_n a.Chain (left) g0 h2 h3, binP_lss, iteP_eq, atP_zero, rt_eq, scs_sc, scs_nil, flat_int, true_and, and_true]
  by_cases c0 : ((mSignedS a.Chain : Nat) : Int) ≤ left
  rotate_left
  · first | (simp [szr_over c0, szr_not c0]; done) | (simp only [szr_over c0, szr_not c0]; simp)
  simp only [szr_yes c0, szr_add c0, show ¬ (left - ((mSignedS a.Chain : Nat) : Int) < 0) by omega, decide_false, Bool.false_eq_true, if_false, laws_szEntry_n a.Entry (left - ((mSignedS a.Chain : Nat) : Int)) g1 (by omega) (by omega), binP_lss, iteP_eq, atP_zero, rt_eq, scs_sc, scs_nil, flat_int, true_and, and_true]
  by_cases c1 : ((mEntry a.Entry : Nat) : Int) ≤ left - ((mSignedS a.Chain : Nat) : Int)
  rotate_left
  · first | (simp [szr_over c1, szr_not c1]; done) | (simp only [szr_over c1, szr_not c1]; simp)
  simp only [szr_yes c1, szr_add c1, show ¬ (left - ((mSignedS a.Chain : Nat) : Int) - ((mEntry a.Entry : Nat) : Int) < 0) by omega, decide_false, Bool.false_eq_true, if_false, laws_szProof_n a.Proof (left - ((mSignedS a.Chain : Nat) : Int) - ((mEntry a.Entry : Nat) : Int)) g2 (by omega) (by omega), binP_lss, iteP_eq, atP_zero, rt_eq, scs_sc, scs_nil, flat_int, true_and, and_true]
  by_cases c2 : ((mProof a.Proof : Nat) : Int) ≤ left - ((mSignedS a.Chain : Nat) : Int) - ((mEntry a.Entry : Nat) : Int)
  rotate_left
  · first | (simp [szr_over c2, szr_not c2]; done) | (simp only [szr_over c2, szr_not c2]; simp)
  simp only [szr_yes c2, szr_add c2, show ¬ (left - ((mSignedS a.Chain : Nat) : Int) - ((mEntry a.Entry : Nat) : Int) - ((mProof a.Proof : Nat) : Int) < 0) by omega, decide_false, Bool.false_eq_true, if_false, laws_szGap_n a.Gap (left - ((mSignedS a.Chain : Nat) : Int) - ((mEntry a.Entry : Nat) : Int) - ((mProof a.Proof : Nat) : Int)) g3 (by omega) (by omega), binP_lss, iteP_eq, atP_zero, rt_eq, scs_sc, scs_nil, flat_int, true_and, and_true]
  by_cases c3 : ((mGap a.Gap : Nat) : Int) ≤ left - ((mSignedS a.Chain : Nat) : Int) - ((mEntry a.Entry : Nat) : Int) - ((mProof a.Proof : Nat) : Int)
  rotate_left
  · first | (simp [szr_not c3, szr_not c3]; done) | (simp only [szr_not c3, szr_not c3]; simp)
  simp only [szr_yes c3, show ¬ (left - ((mSignedS a.Chain : Nat) : Int) - ((mEntry a.Entry : Nat) : Int) - ((mProof a.Proof : Nat) : Int) - ((mGap a.Gap : Nat) : Int) < 0) by omega, decide_false, Bool.false_eq_true, if_false, binP_lss, iteP_eq, atP_zero, rt_eq, scs_sc, scs_nil, flat_int, true_and, and_true]) k
theorem laws_toAnswer_n (a : GAnswer) (h : mAnswer a ≤ 1048576) (k) : call laws_toAnswer [.agg (eAnswer a)] k = k (eAnswer a) := call_of (fun k => by
  unfold mAnswer at h
  simp [laws_toAnswer, laws_toSignedS_n a.Chain (by omega), laws_toEntry_n a.Entry (by omega), laws_toProof_n a.Proof (by omega), laws_toGap_n a.Gap (by omega)]) k
theorem laws_eqAnswer_n (a : GAnswer) (h : mAnswer a ≤ 1048576) (k) : call laws_eqAnswer [.agg (eAnswer a), .agg (eAnswer a)] k = k [.bool true] := call_of (fun k => by
  unfold mAnswer at h
  simp [laws_eqAnswer, laws_eqSignedS_n a.Chain (by omega), laws_eqEntry_n a.Entry (by omega), laws_eqProof_n a.Proof (by omega), laws_eqGap_n a.Gap (by omega)]) k
def mAnswerS (l : List GAnswer) : Nat := l.length + sumN mAnswer l
theorem decAnswerS {p : PV} (h : Sh.has (.list [.list [.int .i64, .int .i64, .int .i64, .int .i64, .int .i64, .int .i64, .int .i64, .int .i64, .list [.int .i64], .int .i64, .list [.int .i64], .int .i64, .int .i64, .list [.int .i64], .int .i64, .bool, .list [.int .i64, .int .i64]], .bool, .str, .int .i64, .int .i64, .list [.str], .int .i64, .list [.int .i64], .int .i64, .str, .int .i64, .int .i64, .list [.str], .str, .int .i64, .int .i64, .list [.str], .int .i64, .list [.int .i64], .int .i64, .list [.int .i64]]) p) : ∃ l : List GAnswer, p = .list 21 (l.map eAnswer) ∧ (l.length ≤ maxLen ∧ ∀ y ∈ l, WAnswer y) := by
  obtain ⟨l, h1, h2, h3⟩ := has_map decAnswer 21 rfl h
  exact ⟨l, h1, h2, h3⟩
theorem laws_szAnswerS_n (l : List GAnswer) (left : Int) (hw : (l.length ≤ maxLen ∧ ∀ y ∈ l, WAnswer y)) (h2 : 0 ≤ left) (h3 : left ≤ 1048576) (k) : call laws_szAnswerS [.one (.list 21 (l.map eAnswer)), .one (I left)] k = k [I (szr (mAnswerS l) left)] := call_of (fun k => by
  simp only [laws_szAnswerS, lenP_eq, List.length_map, binP_sub, wr_left hw.1 h2 h3, binP_lss, iteP_eq, rt_eq, scs_sc, scs_nil, flat_int, true_and, and_true]
  unfold mAnswerS
  by_cases c : (l.length : Int) ≤ left
  rotate_left
  · simp [szr_over c, show left - (l.length : Int) < 0 by omega]
  simp only [szr_add c, show ¬ (left - (l.length : Int) < 0) by omega, decide_false, Bool.false_eq_true, if_false]
  refine (lp_sz (neg := k [I (-1)]) (fin := fun t => k [I t]) l eAnswer 21 mAnswer (left - (l.length : Int)) (I 0) (by omega) (by omega) rfl (fun i x hx hi t ht1 ht2 K => ?_) fun t K => ?_).trans ?_
  · have e := laws_szAnswer_n x t (hw.2 x (List.mem_of_getElem? hx)) ht1 ht2
    simp [-getElem?_pos, laws_szAnswerS_r0, hx, hi, e, wr_succ (show i < 1000000000000000000 by omega)]
    by_cases hs : ((mAnswer x : Nat) : Int) ≤ t
    · simp [szr_yes hs, hs, show ¬ (t - ((mAnswer x : Nat) : Int) < 0) by omega]
    · simp [szr_not hs, hs]
  · simp [laws_szAnswerS_r0]
  · by_cases hs : ((sumN mAnswer l : Nat) : Int) ≤ left - (l.length : Int)
    · simp [szr_yes hs, hs]
    · simp [szr_not hs, hs]) k
theorem laws_toAnswerS_n (l : List GAnswer) (h : mAnswerS l ≤ 1048576) (k) : call laws_toAnswerS [.one (.list 21 (l.map eAnswer))] k = k [.list 21 (l.map eAnswer)] := call_of (fun k => by
  have hm := h
  unfold mAnswerS at hm
  simp [laws_toAnswerS, show l.length < 1073741824 by omega]
  refine lp_toS l eAnswer eAnswer [.list 17 [], .bool false, .str ⟨#[]⟩, I 0, I 0, .list 1 [], I 0, .list 1 [], I 0, .str ⟨#[]⟩, I 0, I 0, .list 1 [], .str ⟨#[]⟩, I 0, I 0, .list 1 [], I 0, .list 1 [], I 0, .list 1 []] 21 21 (.list 21 []) rfl (fun i x hx hi K rows hr hz => ?_) fun K => ?_
  · have hs : mAnswer x ≤ sumN mAnswer l := sumN_mem (s := mAnswer) (List.mem_of_getElem? hx)
    simp [-getElem?_pos, laws_toAnswerS_r0, hx, hi, hr, hz, over, laws_toAnswer_n x (by omega), wr_succ (show i < 1000000000000000000 by omega)]
  · simp [laws_toAnswerS_r0]) k
theorem laws_eqAnswerS_n (l : List GAnswer) (h : mAnswerS l ≤ 1048576) (k) : call laws_eqAnswerS [.one (.list 21 (l.map eAnswer)), .one (.list 21 (l.map eAnswer))] k = k [.bool true] := call_of (fun k => by
  have hm := h
  unfold mAnswerS at hm
  simp [laws_eqAnswerS]
  refine lp_eqS l eAnswer 21 (.bool false) rfl (fun i x hx hi K => ?_) fun K => ?_
  · have hs : mAnswer x ≤ sumN mAnswer l := sumN_mem (s := mAnswer) (List.mem_of_getElem? hx)
    simp [-getElem?_pos, laws_eqAnswerS_r0, hx, hi, laws_eqAnswer_n x (by omega), wr_succ (show i < 1000000000000000000 by omega)]
  · simp [laws_eqAnswerS_r0]) k
end Go.Ev
set_option linter.unusedVariables false
set_option linter.unusedSimpArgs false
set_option maxRecDepth 10000
set_option maxHeartbeats 1000000
namespace Go.Ev
open Go.Proofs
/-! ### Marks: what was written is read again -/
theorem mk_sc {ρ : List (Nat × MM)} {off t : Nat} {ss : List (Option Eff × SV)} {r r1 r' : List PV} {p : PV} {k k' : Int} (h1 : r[off]? = some p) (h2 : p.flat = true) (h3 : r.set off (cellK mtx k t) = r1) (h4 : IntKind.i64.wrap (k + 1) = k + 1) (h : mkRow ρ mtx ss r1 (k + 1) = some (r', k')) : mkRow ρ mtx ((some (.store off t), .kk) :: (none, .kinc) :: ss) r k = some (r', k') := by
  subst h3
  simp only [mkRow, regE, effS, h1, h2, if_true, h4]
  exact h
theorem mk_ca {ρ : List (Nat × MM)} {off f : Nat} {m : PV → Int → Option (PV × Int)} {ss : List (Option Eff × SV)} {r r1 r' : List PV} {p p' : PV} {k k1 k' : Int} (h1 : r[off]? = some p) (h2 : lk ρ f = some (.sl m)) (h3 : m p k = some (p', k1)) (h4 : r.set off p' = r1) (h5 : rg64 k1 = true) (h : mkRow ρ mtx ss r1 k1 = some (r', k')) : mkRow ρ mtx ((some (.call off none f), .res) :: ss) r k = some (r', k') := by
  subst h4
  simp only [mkRow, regE, effS, h1, h2, h3, h5, if_true]
  exact h
theorem mk_ct {ρ : List (Nat × MM)} {off n f : Nat} {m : List PV → Int → Option (List PV × Int)} {ss : List (Option Eff × SV)} {r r1 r' q q' : List PV} {k k1 k' : Int} (h1 : off + n ≤ r.length) (h2 : lk ρ f = some (.st m)) (hq : (r.drop off).take n = q) (h3 : m q k = some (q', k1)) (h4 : r.take off ++ q' ++ r.drop (off + n) = r1) (h5 : rg64 k1 = true) (h : mkRow ρ mtx ss r1 k1 = some (r', k')) : mkRow ρ mtx ((some (.call off (some n) f), .res) :: ss) r k = some (r', k') := by
  subst h4; subst hq
  simp only [mkRow, regE, effS, h1, h2, h3, h5, if_true]
  exact h
theorem rg_of {k : Int} (h1 : 0 ≤ k) (h2 : k ≤ 1000000000000000) : rg64 k = true := by simp only [rg64, Bool.and_eq_true, decide_eq_true_eq]; omega
theorem wr1 {k : Int} (h1 : 0 ≤ k) (h2 : k ≤ 1000000000000000) : IntKind.i64.wrap (k + 1) = k + 1 := wr_eq (by omega) (by omega)
theorem elemP_row {sz : Nat} {rows : List (List PV)} {i : Nat} {r : List PV} (h : rows[i]? = some r) (k : List PV → Prop) : elemP sz (.list sz rows) (I i) k = k r := by
  simp [elemP, h]
theorem rows_mark {α : Type} (e : α → List PV) (c : α → Nat) {ρ : List (Nat × MM)} {ss : List (Option Eff × SV)} {R : (List PV → Prop) → List PV → Prop} (sz : Nat) : ∀ (l : List α)
    (hel : ∀ x ∈ l, ∀ k, 0 ≤ k → k + 40 * (1 + (c x : Int)) ≤ 1000000000000000 → ∃ r' k', mkRow ρ mtx ss (e x) k = some (r', k') ∧ k ≤ k' ∧ k' ≤ k + 40 * (1 + (c x : Int)) ∧ ∀ (rows : List (List PV)) (i : Nat) K z, rows[i]? = some r' → i < rows.length → rows.length ≤ 1000000000000000 → (R K [.list sz rows, I k, z, I i] ↔ K [.list sz rows, I k', z, I ((i : Int) + 1)]))
    (k : Int), 0 ≤ k → k + 40 * ((l.length : Int) + (sumN c l : Int)) ≤ 1000000000000000 → ∃ rows' k', mkRows ρ mtx ss (l.map e) k = some (rows', k') ∧ rows'.length = l.length ∧ k ≤ k' ∧ k' ≤ k + 40 * ((l.length : Int) + (sumN c l : Int)) ∧
      ∀ (pre : List (List PV)) (z : PV) (fin : Prop), (pre ++ rows').length ≤ 1000000000000000 → (∀ K, R K [.list sz (pre ++ rows'), I k', z, I (pre ++ rows').length] ↔ fin) → (lp R [.list sz (pre ++ rows'), I k, z, I pre.length] ↔ fin)
  | [], hel, k, h0, hb => ⟨[], k, rfl, rfl, Int.le_refl _, by simp [sumN], fun pre z fin hl hf => itP_mono_end fun K => by have := hf K; rwa [List.append_nil] at this ⊢⟩
  | x :: l, hel, k, h0, hb => by
    have hs : sumN c (x :: l) = c x + sumN c l := rfl
    rw [hs] at hb ⊢
    simp only [List.length_cons] at hb ⊢
    obtain ⟨r', k1, q1, q2, q3, q4⟩ := hel x (by simp) k h0 (by omega)
    obtain ⟨rows', k', p1, p2, p3, p4, p5⟩ := rows_mark e c sz l (fun y hy => hel y (by simp [hy])) k1 (by omega) (by omega)
    refine ⟨r' :: rows', k', by simp only [List.map_cons, mkRows, q1, p1], by simp [p2], by omega, by omega, fun pre z fin hl hf => ?_⟩
    have hx : (pre ++ r' :: rows')[pre.length]? = some r' := by simp
    have hlt : pre.length < (pre ++ r' :: rows').length := by simp
    rw [lp_step fun K => q4 (pre ++ r' :: rows') pre.length K z hx hlt hl]
    have e1 : pre ++ r' :: rows' = (pre ++ [r']) ++ rows' := by simp
    have e2 : ((pre.length : Int) + 1) = (((pre ++ [r']).length : Nat) : Int) := by simp
    rw [e1, e2]
    exact p5 (pre ++ [r']) z fin (by rw [← e1]; exact hl) (by rw [← e1]; exact hf)
theorem rows_mark0 {α : Type} (e : α → List PV) (c : α → Nat) {ρ : List (Nat × MM)} {ss : List (Option Eff × SV)} : ∀ (l : List α)
    (hel : ∀ x ∈ l, ∀ k, 0 ≤ k → k + 40 * (1 + (c x : Int)) ≤ 1000000000000000 → ∃ r' k', mkRow ρ mtx ss (e x) k = some (r', k') ∧ k ≤ k' ∧ k' ≤ k + 40 * (1 + (c x : Int)))
    (k : Int), 0 ≤ k → k + 40 * ((l.length : Int) + (sumN c l : Int)) ≤ 1000000000000000 → ∃ rows' k', mkRows ρ mtx ss (l.map e) k = some (rows', k') ∧ k ≤ k' ∧ k' ≤ k + 40 * ((l.length : Int) + (sumN c l : Int))
  | [], hel, k, h0, hb => ⟨[], k, rfl, Int.le_refl _, by simp [sumN]⟩
  | x :: l, hel, k, h0, hb => by
    have hs : sumN c (x :: l) = c x + sumN c l := rfl
    rw [hs] at hb ⊢
    simp only [List.length_cons] at hb ⊢
    obtain ⟨r', k1, q1, q2, q3⟩ := hel x (by simp) k h0 (by omega)
    obtain ⟨rows', k', p1, p3, p4⟩ := rows_mark0 e c l (fun y hy => hel y (by simp [hy])) k1 (by omega) (by omega)
    exact ⟨r' :: rows', k', by simp only [List.map_cons, mkRows, q1, p1], by omega, by omega⟩
theorem mkS_list {ρ : List (Nat × MM)} {sz : Nat} {ss : List (Option Eff × SV)} {rows rows' : List (List PV)} {k k' : Int} (h1 : rows.length < 1000000000000000000) (h2 : mkRows ρ mtx ss rows k = some (rows', k')) : mkS ρ mtx sz ss (.list sz rows) k = some (.list sz rows', k') := by
  simp only [mkS, true_and, h1, if_true, h2]
theorem mkT_of {ρ : List (Nat × MM)} {esz : Nat} {ss : List (Option Eff × SV)} {ps ps' : List PV} {k k' : Int} (h1 : ps.length = esz) (h2 : mkRow ρ mtx ss ps k = some (ps', k')) : mkT ρ mtx esz ss ps k = some (ps', k') := by
  simp only [mkT, h1, if_true, h2]
theorem sumN_z {α : Type} (l : List α) : sumN (fun _ : α => 0) l = 0 := by
  induction l with
  | nil => rfl
  | cons x l ih => show 0 + sumN _ l = 0; rw [ih]
theorem sumN_eq {α : Type} {f g : α → Nat} (h : ∀ x, f x = g x) (l : List α) : sumN f l = sumN g l := by rw [show f = g from funext h]

theorem marks_IntS (l : List Int) (k : Int) (h0 : 0 ≤ k) (hb : k + 40 * ((l.length : Nat) : Int) ≤ 1000000000000000) : ∃ p k', mk_IntS (ints l) k = some (p, k') ∧ k ≤ k' ∧ k' ≤ k + 40 * ((l.length : Nat) : Int) ∧ ∀ K, call laws_heldIntS [.one p, .one (I k)] K = K [I k'] := by
  have hm : (l.length : Nat) = l.length + sumN (fun x : Int => 0) l := by rw [sumN_z]; omega
  rw [hm] at hb ⊢
  have hrow : ∀ (A : Prop) (B : PV → PV → PV → PV → Prop), ∀ x ∈ l, ∀ k, 0 ≤ k → k + 40 * (1 + ((fun x : Int => 0) x : Int)) ≤ 1000000000000000 → ∃ r' k', mkRow mk_IntS_r mtx mk_IntS_s (rI x) k = some (r', k') ∧ k ≤ k' ∧ k' ≤ k + 40 * (1 + ((fun x : Int => 0) x : Int)) ∧ ∀ (rows : List (List PV)) (i : Nat) K z, rows[i]? = some r' → i < rows.length → rows.length ≤ 1000000000000000 → ((fun L w => laws_heldIntS_r0 w L A B) K [.list 1 rows, I k, z, I i] ↔ K [.list 1 rows, I k', z, I ((i : Int) + 1)]) := by
    intro A B x hx k h0 hb
    have hle : (l.length : Int) ≤ 1000000000000000 := by omega
    clear hle
    try dsimp only at hb ⊢
    refine ⟨[I (k)], k + 1, mk_sc rfl rfl rfl (wr1 (by omega) (by omega)) (rfl), by omega, by omega, fun rows i K z hr hi hn => ?_⟩
    have f0 := wr1 (k := k) (by omega) (by omega)
    have hlt : (i : Int) < (rows.length : Int) := by omega
    simp only [laws_heldIntS_r0, un, cur0, lenP_eq, binP_lss, hlt, decide_true, decide_false, iteP_eq, if_true, elemP_row hr, atP_zero, atP_succ, binP_neq, bne_self_eq_false, Bool.false_eq_true, if_false, binP_add, binP_sneq, Bool.not_true, binP_rem, binP_eql, boolP_neq, f0, wr_succ (show i < 1000000000000000000 by omega), true_and, ne_eq, not_false_eq_true]
  obtain ⟨rows', k', p1, p2, p3, p4, p5⟩ := rows_mark rI (fun x : Int => 0) 1 l (hrow True fun _ _ _ _ => True) k h0 (by omega)
  have hle : (l.length : Int) ≤ 1000000000000000 := by omega
  refine ⟨.list 1 rows', k', ?_, p3, p4, fun K => ?_⟩
  · exact mkS_list (by rw [List.length_map]; omega) p1
  · refine (call_of (fun K => ?_) K)
    obtain ⟨rows2, k2, r1, r2, r3, r4, r5⟩ := rows_mark rI (fun x : Int => 0) 1 l (hrow (rt [.sc] [(I (-1))] K) fun q6 q7 q8 q9 => rt [.sc] [q7] K) k h0 (by omega)
    have hs := p1.symm.trans r1
    injection hs with hs; injection hs with hs1 hs2
    subst hs1; subst hs2
    have := r5 [] (I 0) (K [I k']) (by rw [List.nil_append, p2]; omega) fun K2 => by
      simp only [laws_heldIntS_r0, un, cur0, lenP_eq, binP_lss, Int.lt_irrefl, decide_false, iteP_eq, Bool.false_eq_true, if_false, List.nil_append, rt_eq, scs_sc, scs_nil, flat_int, true_and]
    exact this
theorem marks_SigS (l : List GSig) (k : Int) (h0 : 0 ≤ k) (hb : k + 40 * ((l.length : Nat) : Int) ≤ 1000000000000000) : ∃ p k', mk_SigS (.list 2 (l.map eSig)) k = some (p, k') ∧ k ≤ k' ∧ k' ≤ k + 40 * ((l.length : Nat) : Int) ∧ ∀ K, call laws_heldSigS [.one p, .one (I k)] K = K [I k'] := by
  have hm : (l.length : Nat) = l.length + sumN (fun x : GSig => 0) l := by rw [sumN_z]; omega
  rw [hm] at hb ⊢
  have hrow : ∀ (A : Prop) (B : PV → PV → PV → PV → Prop), ∀ x ∈ l, ∀ k, 0 ≤ k → k + 40 * (1 + ((fun x : GSig => 0) x : Int)) ≤ 1000000000000000 → ∃ r' k', mkRow mk_SigS_r mtx mk_SigS_s (eSig x) k = some (r', k') ∧ k ≤ k' ∧ k' ≤ k + 40 * (1 + ((fun x : GSig => 0) x : Int)) ∧ ∀ (rows : List (List PV)) (i : Nat) K z, rows[i]? = some r' → i < rows.length → rows.length ≤ 1000000000000000 → ((fun L w => laws_heldSigS_r0 w L A B) K [.list 2 rows, I k, z, I i] ↔ K [.list 2 rows, I k', z, I ((i : Int) + 1)]) := by
    intro A B x hx k h0 hb
    have hle : (l.length : Int) ≤ 1000000000000000 := by omega
    clear hle
    try dsimp only at hb ⊢
    refine ⟨[I (k), I (k + 1)], k + 1 + 1, mk_sc rfl rfl rfl (wr1 (by omega) (by omega)) (mk_sc rfl rfl rfl (wr1 (by omega) (by omega)) (rfl)), by omega, by omega, fun rows i K z hr hi hn => ?_⟩
    have f0 := wr1 (k := k) (by omega) (by omega)
    have f1 := wr1 (k := k + 1) (by omega) (by omega)
    have hlt : (i : Int) < (rows.length : Int) := by omega
    simp only [laws_heldSigS_r0, un, cur0, lenP_eq, binP_lss, hlt, decide_true, decide_false, iteP_eq, if_true, elemP_row hr, atP_zero, atP_succ, binP_neq, bne_self_eq_false, Bool.false_eq_true, if_false, binP_add, binP_sneq, Bool.not_true, binP_rem, binP_eql, boolP_neq, f0, f1, wr_succ (show i < 1000000000000000000 by omega), true_and, ne_eq, not_false_eq_true]
  obtain ⟨rows', k', p1, p2, p3, p4, p5⟩ := rows_mark eSig (fun x : GSig => 0) 2 l (hrow True fun _ _ _ _ => True) k h0 (by omega)
  have hle : (l.length : Int) ≤ 1000000000000000 := by omega
  refine ⟨.list 2 rows', k', ?_, p3, p4, fun K => ?_⟩
  · exact mkS_list (by rw [List.length_map]; omega) p1
  · refine (call_of (fun K => ?_) K)
    obtain ⟨rows2, k2, r1, r2, r3, r4, r5⟩ := rows_mark eSig (fun x : GSig => 0) 2 l (hrow (rt [.sc] [(I (-1))] K) fun q6 q7 q8 q9 => rt [.sc] [q7] K) k h0 (by omega)
    have hs := p1.symm.trans r1
    injection hs with hs; injection hs with hs1 hs2
    subst hs1; subst hs2
    have := r5 [] (I 0) (K [I k']) (by rw [List.nil_append, p2]; omega) fun K2 => by
      simp only [laws_heldSigS_r0, un, cur0, lenP_eq, binP_lss, Int.lt_irrefl, decide_false, iteP_eq, Bool.false_eq_true, if_false, List.nil_append, rt_eq, scs_sc, scs_nil, flat_int, true_and]
    exact this
theorem marks_SignedS (l : List GSigned) (k : Int) (h0 : 0 ≤ k) (hb : k + 40 * ((mSignedS l : Nat) : Int) ≤ 1000000000000000) : ∃ p k', mk_SignedS (.list 17 (l.map eSigned)) k = some (p, k') ∧ k ≤ k' ∧ k' ≤ k + 40 * ((mSignedS l : Nat) : Int) ∧ ∀ K, call laws_heldSignedS [.one p, .one (I k)] K = K [I k'] := by
  have hm : mSignedS l = l.length + sumN (fun x : GSigned => mSigned x) l := rfl
  rw [hm] at hb ⊢
  have hrow : ∀ (A : Prop) (B : PV → PV → PV → PV → Prop), ∀ x ∈ l, ∀ k, 0 ≤ k → k + 40 * (1 + ((fun x : GSigned => mSigned x) x : Int)) ≤ 1000000000000000 → ∃ r' k', mkRow mk_SignedS_r mtx mk_SignedS_s (eSigned x) k = some (r', k') ∧ k ≤ k' ∧ k' ≤ k + 40 * (1 + ((fun x : GSigned => mSigned x) x : Int)) ∧ ∀ (rows : List (List PV)) (i : Nat) K z, rows[i]? = some r' → i < rows.length → rows.length ≤ 1000000000000000 → ((fun L w => laws_heldSignedS_r0 w L A A A A A B) K [.list 17 rows, I k, z, I i] ↔ K [.list 17 rows, I k', z, I ((i : Int) + 1)]) := by
    intro A B x hx k h0 hb
    have hle : (l.length : Int) ≤ 1000000000000000 := by omega
    clear hle
    try dsimp only at hb ⊢
    simp only [mHead, mKeys, mSigned] at hb ⊢
    obtain ⟨p1, k1, e1, l1, u1, g1⟩ := marks_IntS x.Head.Keys.Lst (k + 1 + 1 + 1 + 1 + 1 + 1 + 1 + 1) (by omega) (by omega)
    obtain ⟨p2, k2, e2, l2, u2, g2⟩ := marks_IntS x.Head.Heirs.Lst (k1 + 1) (by omega) (by omega)
    obtain ⟨p3, k3, e3, l3, u3, g3⟩ := marks_IntS x.Head.Judge.Lst (k2 + 1 + 1) (by omega) (by omega)
    obtain ⟨p4, k4, e4, l4, u4, g4⟩ := marks_SigS x.Sigs (k3 + 1 + 1) (by omega) (by omega)
    refine ⟨[I (k), I (k + 1), I (k + 1 + 1), I (k + 1 + 1 + 1), I (k + 1 + 1 + 1 + 1), I (k + 1 + 1 + 1 + 1 + 1), I (k + 1 + 1 + 1 + 1 + 1 + 1), I (k + 1 + 1 + 1 + 1 + 1 + 1 + 1), p1, I (k1), p2, I (k2), I (k2 + 1), p3, I (k3), .bool ((k3 + 1).tmod 3 == 0), p4], k4, mk_sc (r1 := [I (k), I x.Head.Epoch, I x.Head.Kind, I x.Head.Time, I x.Head.Until, I x.Head.Count, I x.Head.Root, I x.Head.Prev, ints x.Head.Keys.Lst, I x.Head.Keys.Need, ints x.Head.Heirs.Lst, I x.Head.Heirs.Need, I x.Head.Wait, ints x.Head.Judge.Lst, I x.Head.Judge.Need, .bool x.Head.Frozen, .list 2 (x.Sigs.map eSig)]) rfl rfl rfl (wr1 (by omega) (by omega)) (mk_sc (r1 := [I (k), I (k + 1), I x.Head.Kind, I x.Head.Time, I x.Head.Until, I x.Head.Count, I x.Head.Root, I x.Head.Prev, ints x.Head.Keys.Lst, I x.Head.Keys.Need, ints x.Head.Heirs.Lst, I x.Head.Heirs.Need, I x.Head.Wait, ints x.Head.Judge.Lst, I x.Head.Judge.Need, .bool x.Head.Frozen, .list 2 (x.Sigs.map eSig)]) rfl rfl rfl (wr1 (by omega) (by omega)) (mk_sc (r1 := [I (k), I (k + 1), I (k + 1 + 1), I x.Head.Time, I x.Head.Until, I x.Head.Count, I x.Head.Root, I x.Head.Prev, ints x.Head.Keys.Lst, I x.Head.Keys.Need, ints x.Head.Heirs.Lst, I x.Head.Heirs.Need, I x.Head.Wait, ints x.Head.Judge.Lst, I x.Head.Judge.Need, .bool x.Head.Frozen, .list 2 (x.Sigs.map eSig)]) rfl rfl rfl (wr1 (by omega) (by omega)) (mk_sc (r1 := [I (k), I (k + 1), I (k + 1 + 1), I (k + 1 + 1 + 1), I x.Head.Until, I x.Head.Count, I x.Head.Root, I x.Head.Prev, ints x.Head.Keys.Lst, I x.Head.Keys.Need, ints x.Head.Heirs.Lst, I x.Head.Heirs.Need, I x.Head.Wait, ints x.Head.Judge.Lst, I x.Head.Judge.Need, .bool x.Head.Frozen, .list 2 (x.Sigs.map eSig)]) rfl rfl rfl (wr1 (by omega) (by omega)) (mk_sc (r1 := [I (k), I (k + 1), I (k + 1 + 1), I (k + 1 + 1 + 1), I (k + 1 + 1 + 1 + 1), I x.Head.Count, I x.Head.Root, I x.Head.Prev, ints x.Head.Keys.Lst, I x.Head.Keys.Need, ints x.Head.Heirs.Lst, I x.Head.Heirs.Need, I x.Head.Wait, ints x.Head.Judge.Lst, I x.Head.Judge.Need, .bool x.Head.Frozen, .list 2 (x.Sigs.map eSig)]) rfl rfl rfl (wr1 (by omega) (by omega)) (mk_sc (r1 := [I (k), I (k + 1), I (k + 1 + 1), I (k + 1 + 1 + 1), I (k + 1 + 1 + 1 + 1), I (k + 1 + 1 + 1 + 1 + 1), I x.Head.Root, I x.Head.Prev, ints x.Head.Keys.Lst, I x.Head.Keys.Need, ints x.Head.Heirs.Lst, I x.Head.Heirs.Need, I x.Head.Wait, ints x.Head.Judge.Lst, I x.Head.Judge.Need, .bool x.Head.Frozen, .list 2 (x.Sigs.map eSig)]) rfl rfl rfl (wr1 (by omega) (by omega)) (mk_sc (r1 := [I (k), I (k + 1), I (k + 1 + 1), I (k + 1 + 1 + 1), I (k + 1 + 1 + 1 + 1), I (k + 1 + 1 + 1 + 1 + 1), I (k + 1 + 1 + 1 + 1 + 1 + 1), I x.Head.Prev, ints x.Head.Keys.Lst, I x.Head.Keys.Need, ints x.Head.Heirs.Lst, I x.Head.Heirs.Need, I x.Head.Wait, ints x.Head.Judge.Lst, I x.Head.Judge.Need, .bool x.Head.Frozen, .list 2 (x.Sigs.map eSig)]) rfl rfl rfl (wr1 (by omega) (by omega)) (mk_sc (r1 := [I (k), I (k + 1), I (k + 1 + 1), I (k + 1 + 1 + 1), I (k + 1 + 1 + 1 + 1), I (k + 1 + 1 + 1 + 1 + 1), I (k + 1 + 1 + 1 + 1 + 1 + 1), I (k + 1 + 1 + 1 + 1 + 1 + 1 + 1), ints x.Head.Keys.Lst, I x.Head.Keys.Need, ints x.Head.Heirs.Lst, I x.Head.Heirs.Need, I x.Head.Wait, ints x.Head.Judge.Lst, I x.Head.Judge.Need, .bool x.Head.Frozen, .list 2 (x.Sigs.map eSig)]) rfl rfl rfl (wr1 (by omega) (by omega)) (mk_ca (r1 := [I (k), I (k + 1), I (k + 1 + 1), I (k + 1 + 1 + 1), I (k + 1 + 1 + 1 + 1), I (k + 1 + 1 + 1 + 1 + 1), I (k + 1 + 1 + 1 + 1 + 1 + 1), I (k + 1 + 1 + 1 + 1 + 1 + 1 + 1), p1, I x.Head.Keys.Need, ints x.Head.Heirs.Lst, I x.Head.Heirs.Need, I x.Head.Wait, ints x.Head.Judge.Lst, I x.Head.Judge.Need, .bool x.Head.Frozen, .list 2 (x.Sigs.map eSig)]) rfl rfl e1 rfl (rg_of (by omega) (by omega)) (mk_sc (r1 := [I (k), I (k + 1), I (k + 1 + 1), I (k + 1 + 1 + 1), I (k + 1 + 1 + 1 + 1), I (k + 1 + 1 + 1 + 1 + 1), I (k + 1 + 1 + 1 + 1 + 1 + 1), I (k + 1 + 1 + 1 + 1 + 1 + 1 + 1), p1, I (k1), ints x.Head.Heirs.Lst, I x.Head.Heirs.Need, I x.Head.Wait, ints x.Head.Judge.Lst, I x.Head.Judge.Need, .bool x.Head.Frozen, .list 2 (x.Sigs.map eSig)]) rfl rfl rfl (wr1 (by omega) (by omega)) (mk_ca (r1 := [I (k), I (k + 1), I (k + 1 + 1), I (k + 1 + 1 + 1), I (k + 1 + 1 + 1 + 1), I (k + 1 + 1 + 1 + 1 + 1), I (k + 1 + 1 + 1 + 1 + 1 + 1), I (k + 1 + 1 + 1 + 1 + 1 + 1 + 1), p1, I (k1), p2, I x.Head.Heirs.Need, I x.Head.Wait, ints x.Head.Judge.Lst, I x.Head.Judge.Need, .bool x.Head.Frozen, .list 2 (x.Sigs.map eSig)]) rfl rfl e2 rfl (rg_of (by omega) (by omega)) (mk_sc (r1 := [I (k), I (k + 1), I (k + 1 + 1), I (k + 1 + 1 + 1), I (k + 1 + 1 + 1 + 1), I (k + 1 + 1 + 1 + 1 + 1), I (k + 1 + 1 + 1 + 1 + 1 + 1), I (k + 1 + 1 + 1 + 1 + 1 + 1 + 1), p1, I (k1), p2, I (k2), I x.Head.Wait, ints x.Head.Judge.Lst, I x.Head.Judge.Need, .bool x.Head.Frozen, .list 2 (x.Sigs.map eSig)]) rfl rfl rfl (wr1 (by omega) (by omega)) (mk_sc (r1 := [I (k), I (k + 1), I (k + 1 + 1), I (k + 1 + 1 + 1), I (k + 1 + 1 + 1 + 1), I (k + 1 + 1 + 1 + 1 + 1), I (k + 1 + 1 + 1 + 1 + 1 + 1), I (k + 1 + 1 + 1 + 1 + 1 + 1 + 1), p1, I (k1), p2, I (k2), I (k2 + 1), ints x.Head.Judge.Lst, I x.Head.Judge.Need, .bool x.Head.Frozen, .list 2 (x.Sigs.map eSig)]) rfl rfl rfl (wr1 (by omega) (by omega)) (mk_ca (r1 := [I (k), I (k + 1), I (k + 1 + 1), I (k + 1 + 1 + 1), I (k + 1 + 1 + 1 + 1), I (k + 1 + 1 + 1 + 1 + 1), I (k + 1 + 1 + 1 + 1 + 1 + 1), I (k + 1 + 1 + 1 + 1 + 1 + 1 + 1), p1, I (k1), p2, I (k2), I (k2 + 1), p3, I x.Head.Judge.Need, .bool x.Head.Frozen, .list 2 (x.Sigs.map eSig)]) rfl rfl e3 rfl (rg_of (by omega) (by omega)) (mk_sc (r1 := [I (k), I (k + 1), I (k + 1 + 1), I (k + 1 + 1 + 1), I (k + 1 + 1 + 1 + 1), I (k + 1 + 1 + 1 + 1 + 1), I (k + 1 + 1 + 1 + 1 + 1 + 1), I (k + 1 + 1 + 1 + 1 + 1 + 1 + 1), p1, I (k1), p2, I (k2), I (k2 + 1), p3, I (k3), .bool x.Head.Frozen, .list 2 (x.Sigs.map eSig)]) rfl rfl rfl (wr1 (by omega) (by omega)) (mk_sc (r1 := [I (k), I (k + 1), I (k + 1 + 1), I (k + 1 + 1 + 1), I (k + 1 + 1 + 1 + 1), I (k + 1 + 1 + 1 + 1 + 1), I (k + 1 + 1 + 1 + 1 + 1 + 1), I (k + 1 + 1 + 1 + 1 + 1 + 1 + 1), p1, I (k1), p2, I (k2), I (k2 + 1), p3, I (k3), .bool ((k3 + 1).tmod 3 == 0), .list 2 (x.Sigs.map eSig)]) rfl rfl rfl (wr1 (by omega) (by omega)) (mk_ca (r1 := [I (k), I (k + 1), I (k + 1 + 1), I (k + 1 + 1 + 1), I (k + 1 + 1 + 1 + 1), I (k + 1 + 1 + 1 + 1 + 1), I (k + 1 + 1 + 1 + 1 + 1 + 1), I (k + 1 + 1 + 1 + 1 + 1 + 1 + 1), p1, I (k1), p2, I (k2), I (k2 + 1), p3, I (k3), .bool ((k3 + 1).tmod 3 == 0), p4]) rfl rfl e4 rfl (rg_of (by omega) (by omega)) (rfl))))))))))))))))), by omega, by omega, fun rows i K z hr hi hn => ?_⟩
    have f0 := wr1 (k := k) (by omega) (by omega)
    have f1 := wr1 (k := k + 1) (by omega) (by omega)
    have f2 := wr1 (k := k + 1 + 1) (by omega) (by omega)
    have f3 := wr1 (k := k + 1 + 1 + 1) (by omega) (by omega)
    have f4 := wr1 (k := k + 1 + 1 + 1 + 1) (by omega) (by omega)
    have f5 := wr1 (k := k + 1 + 1 + 1 + 1 + 1) (by omega) (by omega)
    have f6 := wr1 (k := k + 1 + 1 + 1 + 1 + 1 + 1) (by omega) (by omega)
    have f7 := wr1 (k := k + 1 + 1 + 1 + 1 + 1 + 1 + 1) (by omega) (by omega)
    have f9 : ¬ (k1 < 0) := by omega
    have f10 := wr1 (k := k1) (by omega) (by omega)
    have f12 : ¬ (k2 < 0) := by omega
    have f13 := wr1 (k := k2) (by omega) (by omega)
    have f14 := wr1 (k := k2 + 1) (by omega) (by omega)
    have f16 : ¬ (k3 < 0) := by omega
    have f17 := wr1 (k := k3) (by omega) (by omega)
    have f18 := wr1 (k := k3 + 1) (by omega) (by omega)
    have f20 : ¬ (k4 < 0) := by omega
    have hlt : (i : Int) < (rows.length : Int) := by omega
    simp only [laws_heldSignedS_r0, un, cur0, lenP_eq, binP_lss, hlt, decide_true, decide_false, iteP_eq, if_true, elemP_row hr, atP_zero, atP_succ, binP_neq, bne_self_eq_false, Bool.false_eq_true, if_false, binP_add, binP_sneq, Bool.not_true, binP_rem, binP_eql, boolP_neq, f0, f1, f2, f3, f4, f5, f6, f7, g1, f9, f10, g2, f12, f13, f14, g3, f16, f17, f18, g4, f20, wr_succ (show i < 1000000000000000000 by omega), true_and, ne_eq, not_false_eq_true]
    simp
  obtain ⟨rows', k', p1, p2, p3, p4, p5⟩ := rows_mark eSigned (fun x : GSigned => mSigned x) 17 l (hrow True fun _ _ _ _ => True) k h0 (by omega)
  have hle : (l.length : Int) ≤ 1000000000000000 := by omega
  refine ⟨.list 17 rows', k', ?_, p3, p4, fun K => ?_⟩
  · exact mkS_list (by rw [List.length_map]; omega) p1
  · refine (call_of (fun K => ?_) K)
    obtain ⟨rows2, k2, r1, r2, r3, r4, r5⟩ := rows_mark eSigned (fun x : GSigned => mSigned x) 17 l (hrow (rt [.sc] [(I (-1))] K) fun q6 q7 q8 q9 => rt [.sc] [q7] K) k h0 (by omega)
    have hs := p1.symm.trans r1
    injection hs with hs; injection hs with hs1 hs2
    subst hs1; subst hs2
    have := r5 [] (I 0) (K [I k']) (by rw [List.nil_append, p2]; omega) fun K2 => by
      simp only [laws_heldSignedS_r0, un, cur0, lenP_eq, binP_lss, Int.lt_irrefl, decide_false, iteP_eq, Bool.false_eq_true, if_false, List.nil_append, rt_eq, scs_sc, scs_nil, flat_int, true_and]
    exact this
theorem marks_StringS (l : List ByteArray) (k : Int) (h0 : 0 ≤ k) (hb : k + 40 * (((l.length + sumN ByteArray.size l) : Nat) : Int) ≤ 1000000000000000) : ∃ p k', mk_StringS (strs l) k = some (p, k') ∧ k ≤ k' ∧ k' ≤ k + 40 * (((l.length + sumN ByteArray.size l) : Nat) : Int) ∧ ∀ K, call laws_heldStringS [.one p, .one (I k)] K = K [I k'] := by
  have hm : ((l.length + sumN ByteArray.size l) : Nat) = l.length + sumN (fun x : ByteArray => x.size) l := rfl
  rw [hm] at hb ⊢
  have hrow : ∀ (A : Prop) (B : PV → PV → PV → PV → Prop), ∀ x ∈ l, ∀ k, 0 ≤ k → k + 40 * (1 + ((fun x : ByteArray => x.size) x : Int)) ≤ 1000000000000000 → ∃ r' k', mkRow mk_StringS_r mtx mk_StringS_s (rS x) k = some (r', k') ∧ k ≤ k' ∧ k' ≤ k + 40 * (1 + ((fun x : ByteArray => x.size) x : Int)) ∧ ∀ (rows : List (List PV)) (i : Nat) K z, rows[i]? = some r' → i < rows.length → rows.length ≤ 1000000000000000 → ((fun L w => laws_heldStringS_r0 w L A B) K [.list 1 rows, I k, z, I i] ↔ K [.list 1 rows, I k', z, I ((i : Int) + 1)]) := by
    intro A B x hx k h0 hb
    have hle : (l.length : Int) ≤ 1000000000000000 := by omega
    clear hle
    try dsimp only at hb ⊢
    have hb0 := hb
    refine ⟨[.str (mtx (k))], k + 1, mk_sc rfl rfl rfl (wr1 (by omega) (by omega)) (rfl), by omega, by omega, fun rows i K z hr hi hn => ?_⟩
    have f0 := wr1 (k := k) (by omega) (by omega)
    have f1 := laws_markText_n (k) (rg_of (by omega) (by omega))
    have hlt : (i : Int) < (rows.length : Int) := by omega
    simp only [laws_heldStringS_r0, un, cur0, lenP_eq, binP_lss, hlt, decide_true, decide_false, iteP_eq, if_true, elemP_row hr, atP_zero, atP_succ, binP_neq, bne_self_eq_false, Bool.false_eq_true, if_false, binP_add, binP_sneq, Bool.not_true, binP_rem, binP_eql, boolP_neq, f0, f1, wr_succ (show i < 1000000000000000000 by omega), true_and, ne_eq, not_false_eq_true]
  obtain ⟨rows', k', p1, p2, p3, p4, p5⟩ := rows_mark rS (fun x : ByteArray => x.size) 1 l (hrow True fun _ _ _ _ => True) k h0 (by omega)
  have hle : (l.length : Int) ≤ 1000000000000000 := by omega
  refine ⟨.list 1 rows', k', ?_, p3, p4, fun K => ?_⟩
  · exact mkS_list (by rw [List.length_map]; omega) p1
  · refine (call_of (fun K => ?_) K)
    obtain ⟨rows2, k2, r1, r2, r3, r4, r5⟩ := rows_mark rS (fun x : ByteArray => x.size) 1 l (hrow (rt [.sc] [(I (-1))] K) fun q6 q7 q8 q9 => rt [.sc] [q7] K) k h0 (by omega)
    have hs := p1.symm.trans r1
    injection hs with hs; injection hs with hs1 hs2
    subst hs1; subst hs2
    have := r5 [] (I 0) (K [I k']) (by rw [List.nil_append, p2]; omega) fun K2 => by
      simp only [laws_heldStringS_r0, un, cur0, lenP_eq, binP_lss, Int.lt_irrefl, decide_false, iteP_eq, Bool.false_eq_true, if_false, List.nil_append, rt_eq, scs_sc, scs_nil, flat_int, true_and]
    exact this
theorem marks_AnswerS (l : List GAnswer) (k : Int) (h0 : 0 ≤ k) (hb : k + 40 * ((mAnswerS l : Nat) : Int) ≤ 1000000000000000) : ∃ p k', mk_AnswerS (.list 21 (l.map eAnswer)) k = some (p, k') ∧ k ≤ k' ∧ k' ≤ k + 40 * ((mAnswerS l : Nat) : Int) ∧ True := by
  have hm : mAnswerS l = l.length + sumN (fun x : GAnswer => mAnswer x) l := rfl
  rw [hm] at hb ⊢
  have hrow : ∀ x ∈ l, ∀ k, 0 ≤ k → k + 40 * (1 + ((fun x : GAnswer => mAnswer x) x : Int)) ≤ 1000000000000000 → ∃ r' k', mkRow mk_AnswerS_r mtx mk_AnswerS_s (eAnswer x) k = some (r', k') ∧ k ≤ k' ∧ k' ≤ k + 40 * (1 + ((fun x : GAnswer => mAnswer x) x : Int)) := by
    intro x hx k h0 hb
    have hle : (l.length : Int) ≤ 1000000000000000 := by omega
    clear hle
    try dsimp only at hb ⊢
    simp only [mAnswer, mEntry, mGap, mProof] at hb ⊢
    obtain ⟨p1, k1, e1, l1, u1, g1⟩ := marks_SignedS x.Chain (k) (by omega) (by omega)
    obtain ⟨p2, k2, e2, l2, u2, g2⟩ := marks_StringS x.Entry.Path (k1 + 1 + 1 + 1 + 1) (by omega) (by omega)
    obtain ⟨p3, k3, e3, l3, u3, g3⟩ := marks_IntS x.Proof.Path (k2 + 1) (by omega) (by omega)
    obtain ⟨p4, k4, e4, l4, u4, g4⟩ := marks_StringS x.Gap.Before.Path (k3 + 1 + 1 + 1 + 1) (by omega) (by omega)
    obtain ⟨p5, k5, e5, l5, u5, g5⟩ := marks_StringS x.Gap.After.Path (k4 + 1 + 1 + 1) (by omega) (by omega)
    obtain ⟨p6, k6, e6, l6, u6, g6⟩ := marks_IntS x.Gap.Left.Path (k5 + 1) (by omega) (by omega)
    obtain ⟨p7, k7, e7, l7, u7, g7⟩ := marks_IntS x.Gap.Right.Path (k6 + 1) (by omega) (by omega)
    exact ⟨[p1, .bool ((k1).tmod 3 == 0), .str (mtx (k1 + 1)), I (k1 + 1 + 1), I (k1 + 1 + 1 + 1), p2, I (k2), p3, I (k3), .str (mtx (k3 + 1)), I (k3 + 1 + 1), I (k3 + 1 + 1 + 1), p4, .str (mtx (k4)), I (k4 + 1), I (k4 + 1 + 1), p5, I (k5), p6, I (k6), p7], k7, mk_ca (r1 := [p1, .bool x.Found, .str x.Entry.Label, I x.Entry.Kind, I x.Entry.Value, strs x.Entry.Path, I x.Proof.At, ints x.Proof.Path, I x.Gap.At, .str x.Gap.Before.Label, I x.Gap.Before.Kind, I x.Gap.Before.Value, strs x.Gap.Before.Path, .str x.Gap.After.Label, I x.Gap.After.Kind, I x.Gap.After.Value, strs x.Gap.After.Path, I x.Gap.Left.At, ints x.Gap.Left.Path, I x.Gap.Right.At, ints x.Gap.Right.Path]) rfl rfl e1 rfl (rg_of (by omega) (by omega)) (mk_sc (r1 := [p1, .bool ((k1).tmod 3 == 0), .str x.Entry.Label, I x.Entry.Kind, I x.Entry.Value, strs x.Entry.Path, I x.Proof.At, ints x.Proof.Path, I x.Gap.At, .str x.Gap.Before.Label, I x.Gap.Before.Kind, I x.Gap.Before.Value, strs x.Gap.Before.Path, .str x.Gap.After.Label, I x.Gap.After.Kind, I x.Gap.After.Value, strs x.Gap.After.Path, I x.Gap.Left.At, ints x.Gap.Left.Path, I x.Gap.Right.At, ints x.Gap.Right.Path]) rfl rfl rfl (wr1 (by omega) (by omega)) (mk_sc (r1 := [p1, .bool ((k1).tmod 3 == 0), .str (mtx (k1 + 1)), I x.Entry.Kind, I x.Entry.Value, strs x.Entry.Path, I x.Proof.At, ints x.Proof.Path, I x.Gap.At, .str x.Gap.Before.Label, I x.Gap.Before.Kind, I x.Gap.Before.Value, strs x.Gap.Before.Path, .str x.Gap.After.Label, I x.Gap.After.Kind, I x.Gap.After.Value, strs x.Gap.After.Path, I x.Gap.Left.At, ints x.Gap.Left.Path, I x.Gap.Right.At, ints x.Gap.Right.Path]) rfl rfl rfl (wr1 (by omega) (by omega)) (mk_sc (r1 := [p1, .bool ((k1).tmod 3 == 0), .str (mtx (k1 + 1)), I (k1 + 1 + 1), I x.Entry.Value, strs x.Entry.Path, I x.Proof.At, ints x.Proof.Path, I x.Gap.At, .str x.Gap.Before.Label, I x.Gap.Before.Kind, I x.Gap.Before.Value, strs x.Gap.Before.Path, .str x.Gap.After.Label, I x.Gap.After.Kind, I x.Gap.After.Value, strs x.Gap.After.Path, I x.Gap.Left.At, ints x.Gap.Left.Path, I x.Gap.Right.At, ints x.Gap.Right.Path]) rfl rfl rfl (wr1 (by omega) (by omega)) (mk_sc (r1 := [p1, .bool ((k1).tmod 3 == 0), .str (mtx (k1 + 1)), I (k1 + 1 + 1), I (k1 + 1 + 1 + 1), strs x.Entry.Path, I x.Proof.At, ints x.Proof.Path, I x.Gap.At, .str x.Gap.Before.Label, I x.Gap.Before.Kind, I x.Gap.Before.Value, strs x.Gap.Before.Path, .str x.Gap.After.Label, I x.Gap.After.Kind, I x.Gap.After.Value, strs x.Gap.After.Path, I x.Gap.Left.At, ints x.Gap.Left.Path, I x.Gap.Right.At, ints x.Gap.Right.Path]) rfl rfl rfl (wr1 (by omega) (by omega)) (mk_ca (r1 := [p1, .bool ((k1).tmod 3 == 0), .str (mtx (k1 + 1)), I (k1 + 1 + 1), I (k1 + 1 + 1 + 1), p2, I x.Proof.At, ints x.Proof.Path, I x.Gap.At, .str x.Gap.Before.Label, I x.Gap.Before.Kind, I x.Gap.Before.Value, strs x.Gap.Before.Path, .str x.Gap.After.Label, I x.Gap.After.Kind, I x.Gap.After.Value, strs x.Gap.After.Path, I x.Gap.Left.At, ints x.Gap.Left.Path, I x.Gap.Right.At, ints x.Gap.Right.Path]) rfl rfl e2 rfl (rg_of (by omega) (by omega)) (mk_sc (r1 := [p1, .bool ((k1).tmod 3 == 0), .str (mtx (k1 + 1)), I (k1 + 1 + 1), I (k1 + 1 + 1 + 1), p2, I (k2), ints x.Proof.Path, I x.Gap.At, .str x.Gap.Before.Label, I x.Gap.Before.Kind, I x.Gap.Before.Value, strs x.Gap.Before.Path, .str x.Gap.After.Label, I x.Gap.After.Kind, I x.Gap.After.Value, strs x.Gap.After.Path, I x.Gap.Left.At, ints x.Gap.Left.Path, I x.Gap.Right.At, ints x.Gap.Right.Path]) rfl rfl rfl (wr1 (by omega) (by omega)) (mk_ca (r1 := [p1, .bool ((k1).tmod 3 == 0), .str (mtx (k1 + 1)), I (k1 + 1 + 1), I (k1 + 1 + 1 + 1), p2, I (k2), p3, I x.Gap.At, .str x.Gap.Before.Label, I x.Gap.Before.Kind, I x.Gap.Before.Value, strs x.Gap.Before.Path, .str x.Gap.After.Label, I x.Gap.After.Kind, I x.Gap.After.Value, strs x.Gap.After.Path, I x.Gap.Left.At, ints x.Gap.Left.Path, I x.Gap.Right.At, ints x.Gap.Right.Path]) rfl rfl e3 rfl (rg_of (by omega) (by omega)) (mk_sc (r1 := [p1, .bool ((k1).tmod 3 == 0), .str (mtx (k1 + 1)), I (k1 + 1 + 1), I (k1 + 1 + 1 + 1), p2, I (k2), p3, I (k3), .str x.Gap.Before.Label, I x.Gap.Before.Kind, I x.Gap.Before.Value, strs x.Gap.Before.Path, .str x.Gap.After.Label, I x.Gap.After.Kind, I x.Gap.After.Value, strs x.Gap.After.Path, I x.Gap.Left.At, ints x.Gap.Left.Path, I x.Gap.Right.At, ints x.Gap.Right.Path]) rfl rfl rfl (wr1 (by omega) (by omega)) (mk_sc (r1 := [p1, .bool ((k1).tmod 3 == 0), .str (mtx (k1 + 1)), I (k1 + 1 + 1), I (k1 + 1 + 1 + 1), p2, I (k2), p3, I (k3), .str (mtx (k3 + 1)), I x.Gap.Before.Kind, I x.Gap.Before.Value, strs x.Gap.Before.Path, .str x.Gap.After.Label, I x.Gap.After.Kind, I x.Gap.After.Value, strs x.Gap.After.Path, I x.Gap.Left.At, ints x.Gap.Left.Path, I x.Gap.Right.At, ints x.Gap.Right.Path]) rfl rfl rfl (wr1 (by omega) (by omega)) (mk_sc (r1 := [p1, .bool ((k1).tmod 3 == 0), .str (mtx (k1 + 1)), I (k1 + 1 + 1), I (k1 + 1 + 1 + 1), p2, I (k2), p3, I (k3), .str (mtx (k3 + 1)), I (k3 + 1 + 1), I x.Gap.Before.Value, strs x.Gap.Before.Path, .str x.Gap.After.Label, I x.Gap.After.Kind, I x.Gap.After.Value, strs x.Gap.After.Path, I x.Gap.Left.At, ints x.Gap.Left.Path, I x.Gap.Right.At, ints x.Gap.Right.Path]) rfl rfl rfl (wr1 (by omega) (by omega)) (mk_sc (r1 := [p1, .bool ((k1).tmod 3 == 0), .str (mtx (k1 + 1)), I (k1 + 1 + 1), I (k1 + 1 + 1 + 1), p2, I (k2), p3, I (k3), .str (mtx (k3 + 1)), I (k3 + 1 + 1), I (k3 + 1 + 1 + 1), strs x.Gap.Before.Path, .str x.Gap.After.Label, I x.Gap.After.Kind, I x.Gap.After.Value, strs x.Gap.After.Path, I x.Gap.Left.At, ints x.Gap.Left.Path, I x.Gap.Right.At, ints x.Gap.Right.Path]) rfl rfl rfl (wr1 (by omega) (by omega)) (mk_ca (r1 := [p1, .bool ((k1).tmod 3 == 0), .str (mtx (k1 + 1)), I (k1 + 1 + 1), I (k1 + 1 + 1 + 1), p2, I (k2), p3, I (k3), .str (mtx (k3 + 1)), I (k3 + 1 + 1), I (k3 + 1 + 1 + 1), p4, .str x.Gap.After.Label, I x.Gap.After.Kind, I x.Gap.After.Value, strs x.Gap.After.Path, I x.Gap.Left.At, ints x.Gap.Left.Path, I x.Gap.Right.At, ints x.Gap.Right.Path]) rfl rfl e4 rfl (rg_of (by omega) (by omega)) (mk_sc (r1 := [p1, .bool ((k1).tmod 3 == 0), .str (mtx (k1 + 1)), I (k1 + 1 + 1), I (k1 + 1 + 1 + 1), p2, I (k2), p3, I (k3), .str (mtx (k3 + 1)), I (k3 + 1 + 1), I (k3 + 1 + 1 + 1), p4, .str (mtx (k4)), I x.Gap.After.Kind, I x.Gap.After.Value, strs x.Gap.After.Path, I x.Gap.Left.At, ints x.Gap.Left.Path, I x.Gap.Right.At, ints x.Gap.Right.Path]) rfl rfl rfl (wr1 (by omega) (by omega)) (mk_sc (r1 := [p1, .bool ((k1).tmod 3 == 0), .str (mtx (k1 + 1)), I (k1 + 1 + 1), I (k1 + 1 + 1 + 1), p2, I (k2), p3, I (k3), .str (mtx (k3 + 1)), I (k3 + 1 + 1), I (k3 + 1 + 1 + 1), p4, .str (mtx (k4)), I (k4 + 1), I x.Gap.After.Value, strs x.Gap.After.Path, I x.Gap.Left.At, ints x.Gap.Left.Path, I x.Gap.Right.At, ints x.Gap.Right.Path]) rfl rfl rfl (wr1 (by omega) (by omega)) (mk_sc (r1 := [p1, .bool ((k1).tmod 3 == 0), .str (mtx (k1 + 1)), I (k1 + 1 + 1), I (k1 + 1 + 1 + 1), p2, I (k2), p3, I (k3), .str (mtx (k3 + 1)), I (k3 + 1 + 1), I (k3 + 1 + 1 + 1), p4, .str (mtx (k4)), I (k4 + 1), I (k4 + 1 + 1), strs x.Gap.After.Path, I x.Gap.Left.At, ints x.Gap.Left.Path, I x.Gap.Right.At, ints x.Gap.Right.Path]) rfl rfl rfl (wr1 (by omega) (by omega)) (mk_ca (r1 := [p1, .bool ((k1).tmod 3 == 0), .str (mtx (k1 + 1)), I (k1 + 1 + 1), I (k1 + 1 + 1 + 1), p2, I (k2), p3, I (k3), .str (mtx (k3 + 1)), I (k3 + 1 + 1), I (k3 + 1 + 1 + 1), p4, .str (mtx (k4)), I (k4 + 1), I (k4 + 1 + 1), p5, I x.Gap.Left.At, ints x.Gap.Left.Path, I x.Gap.Right.At, ints x.Gap.Right.Path]) rfl rfl e5 rfl (rg_of (by omega) (by omega)) (mk_sc (r1 := [p1, .bool ((k1).tmod 3 == 0), .str (mtx (k1 + 1)), I (k1 + 1 + 1), I (k1 + 1 + 1 + 1), p2, I (k2), p3, I (k3), .str (mtx (k3 + 1)), I (k3 + 1 + 1), I (k3 + 1 + 1 + 1), p4, .str (mtx (k4)), I (k4 + 1), I (k4 + 1 + 1), p5, I (k5), ints x.Gap.Left.Path, I x.Gap.Right.At, ints x.Gap.Right.Path]) rfl rfl rfl (wr1 (by omega) (by omega)) (mk_ca (r1 := [p1, .bool ((k1).tmod 3 == 0), .str (mtx (k1 + 1)), I (k1 + 1 + 1), I (k1 + 1 + 1 + 1), p2, I (k2), p3, I (k3), .str (mtx (k3 + 1)), I (k3 + 1 + 1), I (k3 + 1 + 1 + 1), p4, .str (mtx (k4)), I (k4 + 1), I (k4 + 1 + 1), p5, I (k5), p6, I x.Gap.Right.At, ints x.Gap.Right.Path]) rfl rfl e6 rfl (rg_of (by omega) (by omega)) (mk_sc (r1 := [p1, .bool ((k1).tmod 3 == 0), .str (mtx (k1 + 1)), I (k1 + 1 + 1), I (k1 + 1 + 1 + 1), p2, I (k2), p3, I (k3), .str (mtx (k3 + 1)), I (k3 + 1 + 1), I (k3 + 1 + 1 + 1), p4, .str (mtx (k4)), I (k4 + 1), I (k4 + 1 + 1), p5, I (k5), p6, I (k6), ints x.Gap.Right.Path]) rfl rfl rfl (wr1 (by omega) (by omega)) (mk_ca (r1 := [p1, .bool ((k1).tmod 3 == 0), .str (mtx (k1 + 1)), I (k1 + 1 + 1), I (k1 + 1 + 1 + 1), p2, I (k2), p3, I (k3), .str (mtx (k3 + 1)), I (k3 + 1 + 1), I (k3 + 1 + 1 + 1), p4, .str (mtx (k4)), I (k4 + 1), I (k4 + 1 + 1), p5, I (k5), p6, I (k6), p7]) rfl rfl e7 rfl (rg_of (by omega) (by omega)) (rfl))))))))))))))))))))), by omega, by omega⟩
  obtain ⟨rows', k', p1, p3, p4⟩ := rows_mark0 eAnswer (fun x : GAnswer => mAnswer x) l hrow k h0 (by omega)
  exact ⟨.list 21 rows', k', mkS_list (by rw [List.length_map]; omega) p1, p3, p4, trivial⟩
theorem marks_Entry (a : GEntry) (k : Int) (h0 : 0 ≤ k) (hb : k + 40 * ((mEntry a : Nat) : Int) ≤ 1000000000000000) : ∃ c_1 k', mk_Entry (eEntry a) k = some ([.str a.Label, I a.Kind, I a.Value, c_1], k') ∧ k ≤ k' ∧ k' ≤ k + 40 * ((mEntry a : Nat) : Int) ∧ ∀ K, call laws_heldEntry [.agg [.str a.Label, I a.Kind, I a.Value, c_1], .one (I k)] K = K [I k'] := by
  simp only [mEntry] at hb ⊢
  obtain ⟨p1, k1, e1, l1, u1, g1⟩ := marks_StringS a.Path (k) (by omega) (by omega)
  refine ⟨p1, k1, ?_, by omega, by omega, fun K => call_of (fun K => ?_) K⟩
  · exact mkT_of rfl (mk_ca rfl rfl e1 rfl (rg_of (by omega) (by omega)) (rfl))
  · have f1 : ¬ (k1 < 0) := by omega
    simp only [laws_heldEntry, un, cur0, g1, f1, atP_zero, binP_lss, decide_false, iteP_eq, Bool.false_eq_true, if_false, rt_eq, scs_sc, scs_nil, flat_int, true_and]
theorem marks_Proof (a : GProof) (k : Int) (h0 : 0 ≤ k) (hb : k + 40 * ((mProof a : Nat) : Int) ≤ 1000000000000000) : ∃ c_1 k', mk_Proof (eProof a) k = some ([I a.At, c_1], k') ∧ k ≤ k' ∧ k' ≤ k + 40 * ((mProof a : Nat) : Int) ∧ ∀ K, call laws_heldProof [.agg [I a.At, c_1], .one (I k)] K = K [I k'] := by
  simp only [mProof] at hb ⊢
  obtain ⟨p1, k1, e1, l1, u1, g1⟩ := marks_IntS a.Path (k) (by omega) (by omega)
  refine ⟨p1, k1, ?_, by omega, by omega, fun K => call_of (fun K => ?_) K⟩
  · exact mkT_of rfl (mk_ca rfl rfl e1 rfl (rg_of (by omega) (by omega)) (rfl))
  · have f1 : ¬ (k1 < 0) := by omega
    simp only [laws_heldProof, un, cur0, g1, f1, atP_zero, binP_lss, decide_false, iteP_eq, Bool.false_eq_true, if_false, rt_eq, scs_sc, scs_nil, flat_int, true_and]
theorem marks_Gap (a : GGap) (k : Int) (h0 : 0 ≤ k) (hb : k + 40 * ((mGap a : Nat) : Int) ≤ 1000000000000000) : ∃ c_1_1 c_2_1 c_3_1 c_4_1 k', mk_Gap (eGap a) k = some ([I a.At, .str a.Before.Label, I a.Before.Kind, I a.Before.Value, c_1_1, .str a.After.Label, I a.After.Kind, I a.After.Value, c_2_1, I a.Left.At, c_3_1, I a.Right.At, c_4_1], k') ∧ k ≤ k' ∧ k' ≤ k + 40 * ((mGap a : Nat) : Int) ∧ ∀ K, call laws_heldGap [.agg [I a.At, .str a.Before.Label, I a.Before.Kind, I a.Before.Value, c_1_1, .str a.After.Label, I a.After.Kind, I a.After.Value, c_2_1, I a.Left.At, c_3_1, I a.Right.At, c_4_1], .one (I k)] K = K [I k'] := by
  simp only [mGap] at hb ⊢
  obtain ⟨p1_1, k1, e1, l1, u1, g1⟩ := marks_Entry a.Before (k) (by omega) (by omega)
  obtain ⟨p2_1, k2, e2, l2, u2, g2⟩ := marks_Entry a.After (k1) (by omega) (by omega)
  obtain ⟨p3_1, k3, e3, l3, u3, g3⟩ := marks_Proof a.Left (k2) (by omega) (by omega)
  obtain ⟨p4_1, k4, e4, l4, u4, g4⟩ := marks_Proof a.Right (k3) (by omega) (by omega)
  refine ⟨p1_1, p2_1, p3_1, p4_1, k4, ?_, by omega, by omega, fun K => call_of (fun K => ?_) K⟩
  · exact mkT_of rfl (mk_ct (Nat.le_of_ble_eq_true rfl) rfl rfl e1 rfl (rg_of (by omega) (by omega)) (mk_ct (Nat.le_of_ble_eq_true rfl) rfl rfl e2 rfl (rg_of (by omega) (by omega)) (mk_ct (Nat.le_of_ble_eq_true rfl) rfl rfl e3 rfl (rg_of (by omega) (by omega)) (mk_ct (Nat.le_of_ble_eq_true rfl) rfl rfl e4 rfl (rg_of (by omega) (by omega)) (rfl)))))
  · have f1 : ¬ (k1 < 0) := by omega
    have f2 : ¬ (k2 < 0) := by omega
    have f3 : ¬ (k3 < 0) := by omega
    have f4 : ¬ (k4 < 0) := by omega
    simp only [laws_heldGap, un, cur0, g1, g2, g3, g4, f1, f2, f3, f4, atP_zero, binP_lss, decide_false, iteP_eq, Bool.false_eq_true, if_false, rt_eq, scs_sc, scs_nil, flat_int, true_and]
theorem marks_Answer (a : GAnswer) (k : Int) (h0 : 0 ≤ k) (hb : k + 40 * ((mAnswer a : Nat) : Int) ≤ 1000000000000000) : ∃ c_1 c_2_1 c_3_1 c_4_1_1 c_4_2_1 c_4_3_1 c_4_4_1 k', mk_Answer (eAnswer a) k = some ([c_1, .bool a.Found, .str a.Entry.Label, I a.Entry.Kind, I a.Entry.Value, c_2_1, I a.Proof.At, c_3_1, I a.Gap.At, .str a.Gap.Before.Label, I a.Gap.Before.Kind, I a.Gap.Before.Value, c_4_1_1, .str a.Gap.After.Label, I a.Gap.After.Kind, I a.Gap.After.Value, c_4_2_1, I a.Gap.Left.At, c_4_3_1, I a.Gap.Right.At, c_4_4_1], k') ∧ k ≤ k' ∧ k' ≤ k + 40 * ((mAnswer a : Nat) : Int) ∧ ∀ K, call laws_heldAnswer [.agg [c_1, .bool a.Found, .str a.Entry.Label, I a.Entry.Kind, I a.Entry.Value, c_2_1, I a.Proof.At, c_3_1, I a.Gap.At, .str a.Gap.Before.Label, I a.Gap.Before.Kind, I a.Gap.Before.Value, c_4_1_1, .str a.Gap.After.Label, I a.Gap.After.Kind, I a.Gap.After.Value, c_4_2_1, I a.Gap.Left.At, c_4_3_1, I a.Gap.Right.At, c_4_4_1], .one (I k)] K = K [I k'] := by
  simp only [mAnswer] at hb ⊢
  obtain ⟨p1, k1, e1, l1, u1, g1⟩ := marks_SignedS a.Chain (k) (by omega) (by omega)
  obtain ⟨p2_1, k2, e2, l2, u2, g2⟩ := marks_Entry a.Entry (k1) (by omega) (by omega)
  obtain ⟨p3_1, k3, e3, l3, u3, g3⟩ := marks_Proof a.Proof (k2) (by omega) (by omega)
  obtain ⟨p4_1_1, p4_2_1, p4_3_1, p4_4_1, k4, e4, l4, u4, g4⟩ := marks_Gap a.Gap (k3) (by omega) (by omega)
  refine ⟨p1, p2_1, p3_1, p4_1_1, p4_2_1, p4_3_1, p4_4_1, k4, ?_, by omega, by omega, fun K => call_of (fun K => ?_) K⟩
  · exact mkT_of rfl (mk_ca rfl rfl e1 rfl (rg_of (by omega) (by omega)) (mk_ct (Nat.le_of_ble_eq_true rfl) rfl rfl e2 rfl (rg_of (by omega) (by omega)) (mk_ct (Nat.le_of_ble_eq_true rfl) rfl rfl e3 rfl (rg_of (by omega) (by omega)) (mk_ct (Nat.le_of_ble_eq_true rfl) rfl rfl e4 rfl (rg_of (by omega) (by omega)) (rfl)))))
  · have f1 : ¬ (k1 < 0) := by omega
    have f2 : ¬ (k2 < 0) := by omega
    have f3 : ¬ (k3 < 0) := by omega
    have f4 : ¬ (k4 < 0) := by omega
    simp only [laws_heldAnswer, un, cur0, g1, g2, g3, g4, f1, f2, f3, f4, atP_zero, binP_lss, decide_false, iteP_eq, Bool.false_eq_true, if_false, rt_eq, scs_sc, scs_nil, flat_int, true_and]
end Go.Ev
set_option linter.unusedVariables false
set_option linter.unusedSimpArgs false
set_option maxRecDepth 8000
set_option maxHeartbeats 1000000
namespace Go.Ev
open Go.Proofs
/-! ### Copies -/
theorem flatRows_map {α : Type} {sz : Nat} {l : List α} {f : α → List PV} (h : ∀ x ∈ l, ∀ p ∈ f x, p.flat = true) : flatRows (.list sz (l.map f)) := by
  intro r hr p hp
  obtain ⟨x, hx, rfl⟩ := List.mem_map.1 hr
  exact h x hx p hp
theorem Clone_int_n (l : List Int) (h : l.length ≤ 1048576) (k) : call slices_Clone_int [.one (ints l)] k = k [ints l] := call_of (fun k => by
  have hf : flatRows (ints l) := flatRows_map fun x _ p hp => by simp [rI] at hp; subst hp; rfl
  have hb : 0 + (l.map rI).length < 1073741824 := by rw [List.length_map]; omega
  simp only [slices_Clone_int, nilP, iteP_eq, Bool.false_eq_true, if_false, if_true, catP_eq, hf, List.length_nil, hb, List.nil_append, rt_eq, scs_own, scs_nil, true_and, Nat.zero_le]
  refine ⟨fun q => q.1, fun q => ⟨q, fun e => ?_⟩⟩
  simp only [Bool.not_false, if_true]
  have e2 := congrArg (PV.list 1) e
  rw [← e2]; exact q) k
theorem Clone_string_n (l : List ByteArray) (h : l.length ≤ 1048576) (k) : call slices_Clone_string [.one (strs l)] k = k [strs l] := call_of (fun k => by
  have hf : flatRows (strs l) := flatRows_map fun x _ p hp => by simp [rS] at hp; subst hp; rfl
  have hb : 0 + (l.map rS).length < 1073741824 := by rw [List.length_map]; omega
  simp only [slices_Clone_string, nilP, iteP_eq, Bool.false_eq_true, if_false, if_true, catP_eq, hf, List.length_nil, hb, List.nil_append, rt_eq, scs_own, scs_nil, true_and, Nat.zero_le]
  refine ⟨fun q => q.1, fun q => ⟨q, fun e => ?_⟩⟩
  simp only [Bool.not_false, if_true]
  have e2 := congrArg (PV.list 1) e
  rw [← e2]; exact q) k
theorem Clone_Sig_n (l : List GSig) (h : l.length ≤ 1048576) (k) : call slices_Clone_Sig [.one (.list 2 (l.map eSig))] k = k [.list 2 (l.map eSig)] := call_of (fun k => by
  have hf : flatRows (.list 2 (l.map eSig)) := flatRows_map fun x _ p hp => by simp [eSig] at hp; rcases hp with rfl | rfl <;> rfl
  have hb : 0 + (l.map eSig).length < 1073741824 := by rw [List.length_map]; omega
  simp only [slices_Clone_Sig, nilP, iteP_eq, Bool.false_eq_true, if_false, if_true, catP_eq, hf, List.length_nil, hb, List.nil_append, rt_eq, scs_own, scs_nil, true_and, Nat.zero_le]
  refine ⟨fun q => q.1, fun q => ⟨q, fun e => ?_⟩⟩
  simp only [Bool.not_false, if_true]
  have e2 := congrArg (PV.list 2) e
  rw [← e2]; exact q) k
theorem catP_nil {sz : Nat} {rows : List (List PV)} (h : rows.length ≤ 1048576) (k : PV → Prop) : catP sz (.list sz rows) (.list sz []) k = k (.list sz rows) := by
  rw [catP_eq]; simp; omega
theorem impl_copyKeys_n (a : GKeys) (h : mKeys a ≤ 1048576) (k) : call impl_copyKeys [.agg (eKeys a)] k = k (eKeys a) := call_of (fun k => by
  have e := Clone_int_n a.Lst h
  simp [impl_copyKeys, e]) k
theorem spec_l6Copy_n (a : GKeys) (h : mKeys a ≤ 1048576) (k) : call spec_l6Copy [.agg (eKeys a)] k = k (eKeys a) := call_of (fun k => by
  have h' : (a.Lst.map rI).length ≤ 1048576 := by rw [List.length_map]; exact h
  simp only [spec_l6Copy, un, cur0, catP_nil h', rt_eq, scs_pv, scs_sc, scs_nil, flat_int, true_and]) k
theorem impl_copyHead_n (a : GHead) (h : mHead a ≤ 1048576) (k) : call impl_copyHead [.agg (eHead a)] k = k (eHead a) := call_of (fun k => by
  unfold mHead at h
  simp [impl_copyHead, impl_copyKeys_n a.Keys (by omega), impl_copyKeys_n a.Heirs (by omega), impl_copyKeys_n a.Judge (by omega)]) k
theorem spec_l13Copy_n (a : GHead) (h : mHead a ≤ 1048576) (k) : call spec_l13Copy [.agg (eHead a)] k = k (eHead a) := call_of (fun k => by
  unfold mHead at h
  simp [spec_l13Copy, spec_l6Copy_n a.Keys (by omega), spec_l6Copy_n a.Heirs (by omega), spec_l6Copy_n a.Judge (by omega)]) k
theorem impl_copySigned_n (a : GSigned) (h : mSigned a ≤ 1048576) (k) : call impl_copySigned [.agg (eSigned a)] k = k (eSigned a) := call_of (fun k => by
  unfold mSigned at h
  simp [impl_copySigned, impl_copyHead_n a.Head (by omega), Clone_Sig_n a.Sigs (by omega)]) k
theorem spec_l14Copy_n (a : GSigned) (h : mSigned a ≤ 1048576) (k) : call spec_l14Copy [.agg (eSigned a)] k = k (eSigned a) := call_of (fun k => by
  unfold mSigned at h
  have h' : (a.Sigs.map eSig).length ≤ 1048576 := by rw [List.length_map]; omega
  simp only [spec_l14Copy, un, cur0, spec_l13Copy_n a.Head (by omega), catP_nil h']
  simp) k
theorem chain_le7 {l : List GSigned} (h : mSignedS l ≤ 1048576) : l.length ≤ 1048576 ∧ ∀ x ∈ l, mSigned x ≤ 1048576 := by
  unfold mSignedS at h
  refine ⟨by omega, fun x hx => ?_⟩
  have := sumN_mem (s := mSigned) hx
  omega
theorem impl_copyChain_n (l : List GSigned) (h : mSignedS l ≤ 1048576) (k) : call impl_copyChain [.one (.list 17 (l.map eSigned))] k = k [.list 17 (l.map eSigned)] := call_of (fun k => by
  obtain ⟨hl, hx0⟩ := chain_le7 h
  simp only [impl_copyChain, lenP_eq, List.length_map, true_and, show (0 : Nat) ≤ 16777216 by omega]
  refine lp_list l (fun i => [.list 17 (l.map eSigned), I l.length, I i, .list 17 [], .list 17 ((l.take i).map eSigned)]) (by simp) (fun i x hx hi K => ?_) fun K => ?_
  · have e := impl_copySigned_n x (hx0 x (List.mem_of_getElem? hx))
    rw [take_snoc hx, List.map_append]
    have hb : ((l.take i).map eSigned).length + 1 < 1073741824 := by simp; omega
    simp [-getElem?_pos, impl_copyChain_r0, hx, hi, e, wr_succ (show i < 1000000000000000000 by omega)]
    omega
  · simp [impl_copyChain_r0]) k
theorem spec_l16Copy_n (l : List GSigned) (h : mSignedS l ≤ 1048576) (k) : call spec_l16Copy [.one (.list 17 (l.map eSigned))] k = k [.list 17 (l.map eSigned)] := call_of (fun k => by
  obtain ⟨hl, hx0⟩ := chain_le7 h
  simp only [spec_l16Copy, true_and, show (0 : Nat) ≤ 16777216 by omega]
  refine lp_list l (fun i => [.list 17 (l.map eSigned), I i, .list 17 [], .list 17 ((l.take i).map eSigned)]) (by simp) (fun i x hx hi K => ?_) fun K => ?_
  · have e := spec_l14Copy_n x (hx0 x (List.mem_of_getElem? hx))
    rw [take_snoc hx, List.map_append]
    simp [-getElem?_pos, spec_l16Copy_r0, hx, hi, e, wr_succ (show i < 1000000000000000000 by omega)]
    omega
  · simp [spec_l16Copy_r0]) k
theorem impl_copyEntry_n (a : GEntry) (h : mEntry a ≤ 1048576) (k) : call impl_copyEntry [.agg (eEntry a)] k = k (eEntry a) := call_of (fun k => by
  unfold mEntry at h
  simp [impl_copyEntry, Clone_string_n a.Path (by omega)]) k
theorem spec_l5Copy_n (l : List ByteArray) (h : l.length ≤ 1048576) (k) : call spec_l5Copy [.one (strs l)] k = k [strs l] := call_of (fun k => by
  have hf : flatRows (strs l) := flatRows_map fun x _ p hp => by simp [rS] at hp; subst hp; rfl
  have hb : 0 + (l.map rS).length < 1073741824 := by rw [List.length_map]; omega
  simp only [spec_l5Copy, catP_eq, hf, List.length_nil, hb, List.nil_append, rt_eq, scs_pv, scs_nil, true_and, Nat.zero_le]) k
theorem spec_l8Copy_n (a : GEntry) (h : mEntry a ≤ 1048576) (k) : call spec_l8Copy [.agg (eEntry a)] k = k (eEntry a) := call_of (fun k => by
  unfold mEntry at h
  simp [spec_l8Copy, spec_l5Copy_n a.Path (by omega)]) k
theorem impl_copyProof_n (a : GProof) (h : mProof a ≤ 1048576) (k) : call impl_copyProof [.agg (eProof a)] k = k (eProof a) := call_of (fun k => by
  unfold mProof at h
  simp [impl_copyProof, Clone_int_n a.Path h]) k
theorem spec_l11Copy_n (a : GProof) (h : mProof a ≤ 1048576) (k) : call spec_l11Copy [.agg (eProof a)] k = k (eProof a) := call_of (fun k => by
  unfold mProof at h
  have h' : (a.Path.map rI).length ≤ 1048576 := by rw [List.length_map]; exact h
  simp only [spec_l11Copy, un, cur0, catP_nil h', rt_eq, scs_pv, scs_sc, scs_nil, flat_int, true_and]) k
theorem impl_copyGap_n (a : GGap) (h : mGap a ≤ 1048576) (k) : call impl_copyGap [.agg (eGap a)] k = k (eGap a) := call_of (fun k => by
  unfold mGap at h
  simp [impl_copyGap, impl_copyEntry_n a.Before (by omega), impl_copyEntry_n a.After (by omega), impl_copyProof_n a.Left (by omega), impl_copyProof_n a.Right (by omega)]) k
theorem spec_l12Copy_n (a : GGap) (h : mGap a ≤ 1048576) (k) : call spec_l12Copy [.agg (eGap a)] k = k (eGap a) := call_of (fun k => by
  unfold mGap at h
  simp [spec_l12Copy, spec_l8Copy_n a.Before (by omega), spec_l8Copy_n a.After (by omega), spec_l11Copy_n a.Left (by omega), spec_l11Copy_n a.Right (by omega)]) k
theorem impl_copyAnswer_n (a : GAnswer) (h : mAnswer a ≤ 1048576) (k) : call impl_copyAnswer [.agg (eAnswer a)] k = k (eAnswer a) := call_of (fun k => by
  unfold mAnswer at h
  simp [impl_copyAnswer, impl_copyChain_n a.Chain (by omega), impl_copyEntry_n a.Entry (by omega), impl_copyProof_n a.Proof (by omega), impl_copyGap_n a.Gap (by omega)]) k
theorem spec_l21Copy_n (a : GAnswer) (h : mAnswer a ≤ 1048576) (k) : call spec_l21Copy [.agg (eAnswer a)] k = k (eAnswer a) := call_of (fun k => by
  unfold mAnswer at h
  simp [spec_l21Copy, spec_l16Copy_n a.Chain (by omega), spec_l8Copy_n a.Entry (by omega), spec_l11Copy_n a.Proof (by omega), spec_l12Copy_n a.Gap (by omega)]) k

/-! ### The pick -/
def zAns : GAnswer := ⟨[], false, ⟨⟨#[]⟩, 0, 0, []⟩, ⟨0, []⟩, ⟨0, ⟨⟨#[]⟩, 0, 0, []⟩, ⟨⟨#[]⟩, 0, 0, []⟩, ⟨0, []⟩, ⟨0, []⟩⟩⟩
def picks (s : ByteArray) (a : GAnswer) : Bool := a.Found && decide (a.Entry.Label = s)
def pickO (s : ByteArray) : List GAnswer → Option GAnswer
  | [] => none
  | x :: l => if picks s x = true then some x else pickO s l
theorem pickO_mem {s : ByteArray} : ∀ {l : List GAnswer} {x : GAnswer}, pickO s l = some x → x ∈ l
  | [], x, h => by cases h
  | y :: l, x, h => by
    simp only [pickO] at h
    split at h
    · injection h with h; subst h; simp
    · exact List.mem_cons_of_mem _ (pickO_mem h)
def pickR : Option GAnswer → List PV
  | some a => eAnswer a ++ [.bool true]
  | none => eAnswer zAns ++ [.bool false]
theorem exitL_pick (s : ByteArray) (k : List PV → Prop) : ∀ (i : Nat) (l : List GAnswer), exitL (fun _ x => picks s x) (fun _ x => k (eAnswer x ++ [.bool true])) (k (eAnswer zAns ++ [.bool false])) i l = k (pickR (pickO s l))
  | _, [] => rfl
  | i, x :: l => by
    simp only [exitL, pickO]
    split
    · rfl
    · exact exitL_pick s k (i + 1) l
theorem exitL_pick' (s : ByteArray) (k : List PV → Prop) (P : Nat → GAnswer → Prop) (l0 : List GAnswer) (hP : ∀ i x, l0[i]? = some x → P i x = k (eAnswer x ++ [.bool true])) : ∀ (i : Nat) (l : List GAnswer), l0.drop i = l → exitL (fun _ x => picks s x) P (k (eAnswer zAns ++ [.bool false])) i l = k (pickR (pickO s l))
  | _, [], _ => rfl
  | i, x :: l, h => by
    have hx : l0[i]? = some x := by
      have := congrArg (·[0]?) h
      simpa using this
    simp only [exitL, pickO]
    split
    · exact hP i x hx
    · exact exitL_pick' s k P l0 hP (i + 1) l (by rw [← List.drop_drop, h]; rfl)
theorem answers_le7 {l : List GAnswer} (h : mAnswerS l ≤ 1048576) : l.length ≤ 1048576 ∧ ∀ x ∈ l, mAnswer x ≤ 1048576 := by
  unfold mAnswerS at h
  refine ⟨by omega, fun x hx => ?_⟩
  have := sumN_mem (s := mAnswer) hx
  omega
theorem impl_PickAnswer_n (l : List GAnswer) (s : ByteArray) (h : mAnswerS l ≤ 1048576) (k) : call impl_PickAnswer [.one (.list 21 (l.map eAnswer)), .one (.str s)] k = k (pickR (pickO s l)) := call_of (fun k => by
  obtain ⟨hl, hm⟩ := answers_le7 h
  simp only [impl_PickAnswer, lenP_eq, List.length_map]
  refine (lp_exit l (fun i => [.str s, .bool false, .list 21 (l.map eAnswer), I l.length, I i, .bool false, .str ⟨#[]⟩, I 0, I 0, I 0, I 0, .str ⟨#[]⟩, I 0, I 0, .str ⟨#[]⟩, I 0, I 0, I 0, I 0, .list 1 [], .list 1 [], .list 1 [], .list 1 [], .list 1 [], .list 1 [], .list 17 []]) (fun _ x => picks s x) (fun _ x => k (eAnswer x ++ [.bool true])) rfl (fun i x hx K => ?_) fun K => ?_).trans (by
      rw [exitL_pick s k 0 l])
  · have hxm := List.mem_of_getElem? hx
    have hi := lt_of_get hx
    have e := impl_copyAnswer_n x (hm x hxm)
    unfold picks
    cases hf : x.Found
    · simp [-getElem?_pos, impl_PickAnswer_r0, hx, hi, hf, wr_succ (show i < 1000000000000000000 by omega)]
    · by_cases hs : x.Entry.Label = s
      · subst hs
        simp only [eAnswer, hf] at e
        simp [-getElem?_pos, impl_PickAnswer_r0, hx, hi, hf, e]
      · simp [-getElem?_pos, impl_PickAnswer_r0, hx, hi, hf, hs, wr_succ (show i < 1000000000000000000 by omega)]
  · simp [impl_PickAnswer_r0, zAns]
    try exact Iff.rfl) k
theorem spec_PickAnswer_n (l : List GAnswer) (s : ByteArray) (h : mAnswerS l ≤ 1048576) (k) : call spec_PickAnswer [.one (.list 21 (l.map eAnswer)), .one (.str s)] k = k (pickR (pickO s l)) := call_of (fun k => by
  obtain ⟨hl, hm⟩ := answers_le7 h
  simp only [spec_PickAnswer]
  refine (lp_exit l (fun i => [.list 21 (l.map eAnswer), .str s, .bool false, I i, .bool false, .str ⟨#[]⟩, I 0, I 0, I 0, I 0, .str ⟨#[]⟩, I 0, I 0, .str ⟨#[]⟩, I 0, I 0, I 0, I 0, .list 1 [], .list 1 [], .list 1 [], .list 1 [], .list 1 [], .list 1 [], .list 17 []]) (fun _ x => picks s x) (fun _ x => k (eAnswer x ++ [.bool true])) rfl (fun i x hx K => ?_) fun K => ?_).trans (by
      rw [exitL_pick s k 0 l])
  · have hxm := List.mem_of_getElem? hx
    have hi := lt_of_get hx
    have e := spec_l21Copy_n x (hm x hxm)
    unfold picks
    cases hf : x.Found
    · simp [-getElem?_pos, spec_PickAnswer_r0, hx, hi, hf, wr_succ (show i < 1000000000000000000 by omega)]
    · by_cases hs : x.Entry.Label = s
      · subst hs
        simp only [eAnswer, hf] at e
        simp [-getElem?_pos, spec_PickAnswer_r0, hx, hi, hf, e]
      · simp [-getElem?_pos, spec_PickAnswer_r0, hx, hi, hf, hs, wr_succ (show i < 1000000000000000000 by omega)]
  · simp [spec_PickAnswer_r0, zAns]
    try exact Iff.rfl) k
end Go.Ev
set_option linter.unusedVariables false
set_option linter.unusedSimpArgs false
set_option maxRecDepth 8000
set_option maxHeartbeats 2000000
namespace Go.Ev
open Go.Proofs
theorem callS {m : PV → Int → Option (PV × Int)} {p p' : PV} {k k' : Int} (h : m p k = some (p', k')) (hk : rg64 k = true) (K) : call (gS m) [.one p, .one (I k)] K = K [p', I k'] := call_of (fun K => by
  simp only [gS, hk, true_and, h]) K
theorem callT {m : List PV → Int → Option (List PV × Int)} {ps ps' : List PV} {k k' : Int} (h : m ps k = some (ps', k')) (hk : rg64 k = true) (K) : call (gT m) [.agg ps, .one (I k)] K = K (ps' ++ [I k']) := call_of (fun K => by
  simp only [gT, hk, true_and, h]) K
theorem zAns_m : mAnswer zAns = 0 := rfl
theorem laws_FnExactPickAnswer_law (pvss : List (List PV)) (h : HasEach [[.list [.list [.int .i64, .int .i64, .int .i64, .int .i64, .int .i64, .int .i64, .int .i64, .int .i64, .list [.int .i64], .int .i64, .list [.int .i64], .int .i64, .int .i64, .list [.int .i64], .int .i64, .bool, .list [.int .i64, .int .i64]], .bool, .str, .int .i64, .int .i64, .list [.str], .int .i64, .list [.int .i64], .int .i64, .str, .int .i64, .int .i64, .list [.str], .str, .int .i64, .int .i64, .list [.str], .int .i64, .list [.int .i64], .int .i64, .list [.int .i64]]], [.str]] pvss) : laws_FnExactPickAnswer (avsOf Try.prog Try.f5.params.toList pvss) (fun o => o = [PV.bool true]) := by
  obtain ⟨p0, r0, rfl, h0, hq0⟩ := each_cons h
  obtain ⟨p1, r1, rfl, h1, hq1⟩ := each_cons hq0
  rw [each_nil hq1]
  obtain ⟨p0, rfl, g0⟩ := all_one h0
  obtain ⟨x0, rfl, w0⟩ := decAnswerS g0
  obtain ⟨p1, rfl, g1⟩ := all_one h1
  obtain ⟨x1, rfl, w1⟩ := has_str g1
  rw [show avsOf Try.prog Try.f5.params.toList [[.list 21 (x0.map eAnswer)], [.str x1]] = [.one (.list 21 (x0.map eAnswer)), .one (.str x1)] by kernel_rfl]
  by_cases cL : x1.size ≤ 1048576
  rotate_left
  · simp only [laws_FnExactPickAnswer, lenS_eq, binP_gtr, show (1048576 : Int) < (x1.size : Int) by omega, decide_true, iteP_eq, if_true, rt_eq, scs_sc, scs_nil, flat_bool, true_and]
  simp only [laws_FnExactPickAnswer, lenS_eq, binP_gtr, show ¬ ((1048576 : Int) < (x1.size : Int)) by omega, decide_false, iteP_eq, Bool.false_eq_true, if_false, laws_szAnswerS_n x0 (1048576) w0 (by omega) (by omega), binP_lss, atP_zero, atP_succ]
  by_cases c0 : ((mAnswerS x0 : Nat) : Int) ≤ 1048576
  rotate_left
  · simp [szr_not c0]
  have s0 : mAnswerS x0 ≤ 1048576 := by omega
  simp only [szr_yes c0, show ¬ (1048576 - ((mAnswerS x0 : Nat) : Int) < 0) by omega, decide_false, iteP_eq, Bool.false_eq_true, if_false]
  have hpick : ∃ (A : GAnswer) (b : Bool), pickR (pickO x1 x0) = eAnswer A ++ [.bool b] ∧ mAnswer A ≤ 1048576 := by
    cases hp : pickO x1 x0 with
    | none => exact ⟨zAns, false, rfl, by rw [zAns_m]; omega⟩
    | some a => exact ⟨a, true, rfl, (answers_le7 s0).2 a (pickO_mem hp)⟩
  obtain ⟨A, b, hA, hm⟩ := hpick
  have sp : ∀ k, call spec_PickAnswer [.one (.list 21 (x0.map eAnswer)), .one (.str x1)] k = k (eAnswer A ++ [.bool b]) := fun k => by rw [spec_PickAnswer_n x0 x1 s0 k, hA]
  have im : ∀ k, call impl_PickAnswer [.one (.list 21 (x0.map eAnswer)), .one (.str x1)] k = k (eAnswer A ++ [.bool b]) := fun k => by rw [impl_PickAnswer_n x0 x1 s0 k, hA]
  obtain ⟨px, kx, e1, b1, b2, hx⟩ := marks_AnswerS x0 1 (by omega) (by omega)
  obtain ⟨c_1, c_2_1, c_3_1, c_4_1_1, c_4_2_1, c_4_3_1, c_4_4_1, kA, e2, b3, b4, hh⟩ := marks_Answer A 1 (by omega) (by omega)
  have mx : ∀ K, call laws_markAnswerS [.one (.list 21 (x0.map eAnswer)), .one (I 1)] K = K [px, I kx] := callS e1 (by decide)
  have mA := callT e2 (by decide)
  have mA' : ∀ K, call laws_markAnswer [.agg (eAnswer A), .one (I 1)] K = K [c_1, .bool A.Found, .str A.Entry.Label, I A.Entry.Kind, I A.Entry.Value, c_2_1, I A.Proof.At, c_3_1, I A.Gap.At, .str A.Gap.Before.Label, I A.Gap.Before.Kind, I A.Gap.Before.Value, c_4_1_1, .str A.Gap.After.Label, I A.Gap.After.Kind, I A.Gap.After.Value, c_4_2_1, I A.Gap.Left.At, c_4_3_1, I A.Gap.Right.At, c_4_4_1, I kA] := mA
  have n1 : ¬ (kx < 0) := by omega
  have n2 : ¬ (kA < 0) := by omega
  have q1 := laws_toAnswerS_n x0 s0
  have q2 := laws_eqAnswerS_n x0 s0
  have q3 := laws_eqAnswer_n A hm
  simp only [q1, atP_zero, atP_succ, sp, im, List.cons_append, List.nil_append, q3, q2, unP_not, Bool.not_true, iteP_eq, Bool.false_eq_true, if_false, boolP_neq, bne_self_eq_false, flatCond_n, flatCond_pv, flatCond_nil, flat_int, flat_bool, flat_str, true_and, mx, binP_lss, n1, n2, decide_false, mA', hh, binP_neq, rt_eq, scs_sc, scs_nil]
end Go.Ev
