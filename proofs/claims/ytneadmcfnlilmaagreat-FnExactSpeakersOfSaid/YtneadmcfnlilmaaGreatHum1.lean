/- What each function hands back, in plain Lean, and that the laws answer true, part 1. -/
import Derived.Test.YtneadmcfnlilmaaGreatFn1
set_option linter.unusedVariables false
set_option linter.unusedSimpArgs false
set_option maxRecDepth 4000
namespace Go.Ev
open Go.Proofs
/-! ### The laws' own functions: copies, sizes, comparisons (printed by gentypes.py) -/
theorem szr_add {s t : Nat} {left : Int} (h : (s : Int) ≤ left) : szr (s + t) left = szr t (left - s) := by
  unfold szr
  by_cases h1 : (t : Int) ≤ left - s
  · rw [if_pos h1, if_pos (by omega)]; omega
  · rw [if_neg h1, if_neg (by omega)]
theorem szr_over {s t : Nat} {left : Int} (h : ¬ (s : Int) ≤ left) : szr (s + t) left = -1 := by unfold szr; rw [if_neg (by omega)]
theorem szr_not {s : Nat} {left : Int} (h : ¬ (s : Int) ≤ left) : szr s left = -1 := by unfold szr; rw [if_neg h]
theorem szr_yes {s : Nat} {left : Int} (h : (s : Int) ≤ left) : szr s left = left - s := by unfold szr; rw [if_pos h]
theorem szr_pos {s : Nat} {left : Int} (h : 0 ≤ szr s left) : (s : Int) ≤ left ∧ szr s left = left - s := by
  unfold szr at h ⊢
  split at h
  · rename_i h1; rw [if_pos h1]; exact ⟨h1, rfl⟩
  · omega
theorem sumN_mem {α : Type} {s : α → Nat} {x : α} : ∀ {l : List α}, x ∈ l → s x ≤ sumN s l
  | y :: l, h => by
    rw [show sumN s (y :: l) = s y + sumN s l from rfl]
    rcases List.mem_cons.1 h with rfl | h
    · omega
    · have := sumN_mem (s := s) h; omega
/-- one count, then the rest -/
theorem sz_seq {s t : Nat} {left : Int} {A : Int → Prop} {k : List PV → Prop} (h2 : 0 ≤ left) (h3 : left ≤ 1048576) (h : ∀ l, 0 ≤ l → l ≤ 1048576 → (A l ↔ k [I (szr t l)])) :
    (if decide (szr s left < 0) = true then k [I (-1)] else A (szr s left)) ↔ k [I (szr (s + t) left)] := by
  by_cases hs : (s : Int) ≤ left
  · rw [szr_yes hs, szr_add hs, if_neg (by simp; omega)]
    exact h _ (by omega) (by omega)
  · rw [szr_not hs, szr_over hs]; simp
theorem sz_end {s : Nat} {left : Int} {k : List PV → Prop} (h2 : 0 ≤ left) : (if decide (szr s left < 0) = true then k [I (-1)] else k [I (szr s left)]) ↔ k [I (szr s left)] := by
  by_cases hs : (s : Int) ≤ left
  · rw [szr_yes hs, if_neg (by simp; omega)]
  · rw [szr_not hs]; simp
/-- a length, taken off -/
theorem sz_len {n : Nat} {left : Int} {A : Int → Prop} {k : List PV → Prop} (h1 : n ≤ maxLen) (h2 : 0 ≤ left) (h3 : left ≤ 1048576) :
    (if decide (IntKind.i64.wrap (left - n) < 0) = true then k [I (-1)] else A (IntKind.i64.wrap (left - n))) ↔ (if decide (szr n left < 0) = true then k [I (-1)] else A (szr n left)) := by
  rw [wr_left h1 h2 h3]
  by_cases hs : (n : Int) ≤ left
  · rw [szr_yes hs]
  · rw [szr_not hs, if_pos (by simp; omega), if_pos (by simp)]

theorem has_strs {p : PV} (hp : Sh.has (.list [.str]) p) : ∃ l : List ByteArray, p = strs l ∧ (l.length ≤ maxLen ∧ ∀ y ∈ l, y.size ≤ maxLen) := by
  obtain ⟨l, h1, h2, h3⟩ := has_map (enc := rS) (wf := fun y => y.size ≤ maxLen) (fun r hr => by
    obtain ⟨p, rfl, h⟩ := all_one hr
    obtain ⟨n, rfl, g⟩ := has_str h
    exact ⟨n, rfl, g⟩) 1 rfl hp
  exact ⟨l, h1, h2, h3⟩
theorem laws_szIntS_n (l : List Int) (left : Int) (hw : l.length ≤ maxLen) (h2 : 0 ≤ left) (h3 : left ≤ 1048576) (k) : call laws_szIntS [.one (ints l), .one (I left)] k = k [I (szr l.length left)] := call_of (fun k => by
  simp only [laws_szIntS, lenP_eq, List.length_map, binP_sub, wr_left hw h2 h3, binP_lss, iteP_eq, rt_eq, scs_sc, scs_nil, flat_int, true_and, and_true]
  by_cases c : (l.length : Int) ≤ left
  · simp [szr_yes c, show ¬ (left - (l.length : Int) < 0) by omega]
  · simp [szr_not c, show left - (l.length : Int) < 0 by omega]) k
theorem laws_toIntS_n (l : List Int) (h : l.length ≤ 1048576) (k) : call laws_toIntS [.one (ints l)] k = k [ints l] := call_of (fun k => by
  have hm := h
  simp [laws_toIntS, show l.length < 1073741824 by omega]
  refine lp_toS l rI rI [I 0] 1 1 (.list 1 []) rfl (fun i x hx hi K rows hr hz => ?_) fun K => ?_
  · simp [-getElem?_pos, laws_toIntS_r0, hx, hi, hr, hz, over, wr_succ (show i < 1000000000000000000 by omega)]
  · simp [laws_toIntS_r0]) k
theorem laws_eqIntS_n (l : List Int) (h : l.length ≤ 1048576) (k) : call laws_eqIntS [.one (ints l), .one (ints l)] k = k [.bool true] := call_of (fun k => by
  have hm := h
  simp [laws_eqIntS]
  refine lp_eqS l rI 1 (.bool false) rfl (fun i x hx hi K => ?_) fun K => ?_
  · simp [-getElem?_pos, laws_eqIntS_r0, hx, hi, wr_succ (show i < 1000000000000000000 by omega)]
  · simp [laws_eqIntS_r0]) k
theorem laws_szStringS_n (l : List ByteArray) (left : Int) (hw : (l.length ≤ maxLen ∧ ∀ y ∈ l, y.size ≤ maxLen)) (h2 : 0 ≤ left) (h3 : left ≤ 1048576) (k) : call laws_szStringS [.one (strs l), .one (I left)] k = k [I (szr ((l.length + sumN ByteArray.size l)) left)] := call_of (fun k => by
  simp only [laws_szStringS, lenP_eq, List.length_map, binP_sub, wr_left hw.1 h2 h3, binP_lss, iteP_eq, rt_eq, scs_sc, scs_nil, flat_int, true_and, and_true]
  by_cases c : (l.length : Int) ≤ left
  rotate_left
  · simp [szr_over c, show left - (l.length : Int) < 0 by omega]
  simp only [szr_add c, show ¬ (left - (l.length : Int) < 0) by omega, decide_false, Bool.false_eq_true, if_false]
  refine (lp_sz (neg := k [I (-1)]) (fin := fun t => k [I t]) l rS 1 ByteArray.size (left - (l.length : Int)) (I 0) (by omega) (by omega) rfl (fun i x hx hi t ht1 ht2 K => ?_) fun t K => ?_).trans ?_
  · have e := wr_left (left := t) (hw.2 x (List.mem_of_getElem? hx)) ht1 ht2
    simp [-getElem?_pos, laws_szStringS_r0, hx, hi, e, wr_succ (show i < 1000000000000000000 by have := hw.1; omega)]
    by_cases hs : (x.size : Int) ≤ t
    · simp [hs, show ¬ (t - (x.size : Int) < 0) by omega]
    · simp [hs, show t - (x.size : Int) < 0 by omega]
  · simp [laws_szStringS_r0]
  · by_cases hs : ((sumN ByteArray.size l : Nat) : Int) ≤ left - (l.length : Int)
    · simp [szr_yes hs, hs]
    · simp [szr_not hs, hs]) k
theorem laws_toStringS_n (l : List ByteArray) (h : (l.length + sumN ByteArray.size l) ≤ 1048576) (k) : call laws_toStringS [.one (strs l)] k = k [strs l] := call_of (fun k => by
  have hm := h
  simp [laws_toStringS, show l.length < 1073741824 by omega]
  refine lp_toS l rS rS [.str ⟨#[]⟩] 1 1 (.list 1 []) rfl (fun i x hx hi K rows hr hz => ?_) fun K => ?_
  · simp [-getElem?_pos, laws_toStringS_r0, hx, hi, hr, hz, over, wr_succ (show i < 1000000000000000000 by omega)]
  · simp [laws_toStringS_r0]) k
theorem laws_eqStringS_n (l : List ByteArray) (h : (l.length + sumN ByteArray.size l) ≤ 1048576) (k) : call laws_eqStringS [.one (strs l), .one (strs l)] k = k [.bool true] := call_of (fun k => by
  have hm := h
  simp [laws_eqStringS]
  refine lp_eqS l rS 1 (.bool false) rfl (fun i x hx hi K => ?_) fun K => ?_
  · simp [-getElem?_pos, laws_eqStringS_r0, hx, hi, wr_succ (show i < 1000000000000000000 by omega)]
  · simp [laws_eqStringS_r0]) k
structure GKeys where
  Lst : List Int
  Need : Int
abbrev eKeys (a : GKeys) : List PV := [ints a.Lst, I a.Need]
def mKeys (a : GKeys) : Nat := a.Lst.length
def WKeys (a : GKeys) : Prop := a.Lst.length ≤ maxLen
theorem decKeys (r : List PV) (hr : Sh.hasAll [.list [.int .i64], .int .i64] r) : ∃ a : GKeys, r = eKeys a ∧ WKeys a := by
  obtain ⟨p1, r1, rfl, h1, hr1⟩ := all_cons hr
  obtain ⟨n1, rfl, g1⟩ := has_ints h1
  obtain ⟨p2, rfl, h2⟩ := all_one hr1
  obtain ⟨n2, rfl⟩ := has_int h2
  exact ⟨⟨n1, n2⟩, rfl, g1⟩
theorem laws_szKeys_n (a : GKeys) (left : Int) (hw : WKeys a) (h2 : 0 ≤ left) (h3 : left ≤ 1048576) (k) : call laws_szKeys [.agg (eKeys a), .one (I left)] k = k [I (szr (mKeys a) left)] := call_of (fun k => by
  have g0 := hw
  unfold mKeys
  simp only [laws_szKeys, un, cur0, laws_szIntS_n a.Lst (left) g0 h2 h3, binP_lss, iteP_eq, atP_zero, rt_eq, scs_sc, scs_nil, flat_int, true_and, and_true]
  by_cases c0 : ((a.Lst.length : Nat) : Int) ≤ left
  rotate_left
  · first | (simp [szr_not c0, szr_not c0]; done) | (simp only [szr_not c0, szr_not c0]; simp)
  simp only [szr_yes c0, show ¬ (left - ((a.Lst.length : Nat) : Int) < 0) by omega, decide_false, Bool.false_eq_true, if_false, binP_lss, iteP_eq, atP_zero, rt_eq, scs_sc, scs_nil, flat_int, true_and, and_true]) k
theorem laws_toKeys_n (a : GKeys) (h : mKeys a ≤ 1048576) (k) : call laws_toKeys [.agg (eKeys a)] k = k (eKeys a) := call_of (fun k => by
  unfold mKeys at h
  simp [laws_toKeys, laws_toIntS_n a.Lst (by omega)]) k
theorem laws_eqKeys_n (a : GKeys) (h : mKeys a ≤ 1048576) (k) : call laws_eqKeys [.agg (eKeys a), .agg (eKeys a)] k = k [.bool true] := call_of (fun k => by
  unfold mKeys at h
  simp [laws_eqKeys, laws_eqIntS_n a.Lst (by omega)]) k
structure GSig where
  Key : Int
  Tag : Int
abbrev eSig (a : GSig) : List PV := [I a.Key, I a.Tag]
theorem decSig (r : List PV) (hr : Sh.hasAll [.int .i64, .int .i64] r) : ∃ a : GSig, r = eSig a ∧ True := by
  obtain ⟨p1, r1, rfl, h1, hr1⟩ := all_cons hr
  obtain ⟨n1, rfl⟩ := has_int h1
  obtain ⟨p2, rfl, h2⟩ := all_one hr1
  obtain ⟨n2, rfl⟩ := has_int h2
  exact ⟨⟨n1, n2⟩, rfl, trivial⟩
theorem laws_toSig_n (a : GSig) (k) : call laws_toSig [.agg (eSig a)] k = k (eSig a) := call_of (fun k => by
  simp [laws_toSig]) k
theorem laws_eqSig_n (a : GSig) (k) : call laws_eqSig [.agg (eSig a), .agg (eSig a)] k = k [.bool true] := call_of (fun k => by
  simp [laws_eqSig]) k
structure GEntry where
  Label : ByteArray
  Kind : Int
  Value : Int
  Path : List ByteArray
abbrev eEntry (a : GEntry) : List PV := [.str a.Label, I a.Kind, I a.Value, strs a.Path]
def mEntry (a : GEntry) : Nat := a.Label.size + ((a.Path.length + sumN ByteArray.size a.Path))
def WEntry (a : GEntry) : Prop := a.Label.size ≤ maxLen ∧ (a.Path.length ≤ maxLen ∧ ∀ y ∈ a.Path, y.size ≤ maxLen)
theorem decEntry (r : List PV) (hr : Sh.hasAll [.str, .int .i64, .int .i64, .list [.str]] r) : ∃ a : GEntry, r = eEntry a ∧ WEntry a := by
  obtain ⟨p1, r1, rfl, h1, hr1⟩ := all_cons hr
  obtain ⟨n1, rfl, g1⟩ := has_str h1
  obtain ⟨p2, r2, rfl, h2, hr2⟩ := all_cons hr1
  obtain ⟨n2, rfl⟩ := has_int h2
  obtain ⟨p3, r3, rfl, h3, hr3⟩ := all_cons hr2
  obtain ⟨n3, rfl⟩ := has_int h3
  obtain ⟨p4, rfl, h4⟩ := all_one hr3
  obtain ⟨n4, rfl, g4⟩ := has_strs h4
  exact ⟨⟨n1, n2, n3, n4⟩, rfl, ⟨g1, g4⟩⟩
theorem laws_szEntry_n (a : GEntry) (left : Int) (hw : WEntry a) (h2 : 0 ≤ left) (h3 : left ≤ 1048576) (k) : call laws_szEntry [.agg (eEntry a), .one (I left)] k = k [I (szr (mEntry a) left)] := call_of (fun k => by
  obtain ⟨g0, g1⟩ := hw
  unfold mEntry
  simp only [laws_szEntry, un, cur0, lenS_eq, binP_sub, wr_left (left := left) g0 h2 h3, binP_lss, iteP_eq, atP_zero, rt_eq, scs_sc, scs_nil, flat_int, true_and, and_true]
  by_cases c0 : ((a.Label.size : Nat) : Int) ≤ left
  rotate_left
  · first | (simp [szr_over c0, show left - ((a.Label.size : Nat) : Int) < 0 by omega]; done) | (simp only [szr_over c0, show left - ((a.Label.size : Nat) : Int) < 0 by omega]; simp)
  simp only [szr_yes c0, szr_add c0, show ¬ (left - ((a.Label.size : Nat) : Int) < 0) by omega, decide_false, Bool.false_eq_true, if_false, laws_szStringS_n a.Path (left - ((a.Label.size : Nat) : Int)) g1 (by omega) (by omega), binP_lss, iteP_eq, atP_zero, rt_eq, scs_sc, scs_nil, flat_int, true_and, and_true]
  by_cases c1 : (((a.Path.length + sumN ByteArray.size a.Path) : Nat) : Int) ≤ left - ((a.Label.size : Nat) : Int)
  rotate_left
  · first | (simp [szr_not c1, szr_not c1]; done) | (simp only [szr_not c1, szr_not c1]; simp)
  simp only [szr_yes c1, show ¬ (left - ((a.Label.size : Nat) : Int) - (((a.Path.length + sumN ByteArray.size a.Path) : Nat) : Int) < 0) by omega, decide_false, Bool.false_eq_true, if_false, binP_lss, iteP_eq, atP_zero, rt_eq, scs_sc, scs_nil, flat_int, true_and, and_true]) k
theorem laws_toEntry_n (a : GEntry) (h : mEntry a ≤ 1048576) (k) : call laws_toEntry [.agg (eEntry a)] k = k (eEntry a) := call_of (fun k => by
  unfold mEntry at h
  simp [laws_toEntry, laws_toStringS_n a.Path (by omega)]) k
theorem laws_eqEntry_n (a : GEntry) (h : mEntry a ≤ 1048576) (k) : call laws_eqEntry [.agg (eEntry a), .agg (eEntry a)] k = k [.bool true] := call_of (fun k => by
  unfold mEntry at h
  simp [laws_eqEntry, laws_eqStringS_n a.Path (by omega)]) k
structure GProof where
  At : Int
  Path : List Int
abbrev eProof (a : GProof) : List PV := [I a.At, ints a.Path]
def mProof (a : GProof) : Nat := a.Path.length
def WProof (a : GProof) : Prop := a.Path.length ≤ maxLen
theorem decProof (r : List PV) (hr : Sh.hasAll [.int .i64, .list [.int .i64]] r) : ∃ a : GProof, r = eProof a ∧ WProof a := by
  obtain ⟨p1, r1, rfl, h1, hr1⟩ := all_cons hr
  obtain ⟨n1, rfl⟩ := has_int h1
  obtain ⟨p2, rfl, h2⟩ := all_one hr1
  obtain ⟨n2, rfl, g2⟩ := has_ints h2
  exact ⟨⟨n1, n2⟩, rfl, g2⟩
theorem laws_szProof_n (a : GProof) (left : Int) (hw : WProof a) (h2 : 0 ≤ left) (h3 : left ≤ 1048576) (k) : call laws_szProof [.agg (eProof a), .one (I left)] k = k [I (szr (mProof a) left)] := call_of (fun k => by
  have g0 := hw
  unfold mProof
  simp only [laws_szProof, un, cur0, laws_szIntS_n a.Path (left) g0 h2 h3, binP_lss, iteP_eq, atP_zero, rt_eq, scs_sc, scs_nil, flat_int, true_and, and_true]
  by_cases c0 : ((a.Path.length : Nat) : Int) ≤ left
  rotate_left
  · first | (simp [szr_not c0, szr_not c0]; done) | (simp only [szr_not c0, szr_not c0]; simp)
  simp only [szr_yes c0, show ¬ (left - ((a.Path.length : Nat) : Int) < 0) by omega, decide_false, Bool.false_eq_true, if_false, binP_lss, iteP_eq, atP_zero, rt_eq, scs_sc, scs_nil, flat_int, true_and, and_true]) k
theorem laws_toProof_n (a : GProof) (h : mProof a ≤ 1048576) (k) : call laws_toProof [.agg (eProof a)] k = k (eProof a) := call_of (fun k => by
  unfold mProof at h
  simp [laws_toProof, laws_toIntS_n a.Path (by omega)]) k
theorem laws_eqProof_n (a : GProof) (h : mProof a ≤ 1048576) (k) : call laws_eqProof [.agg (eProof a), .agg (eProof a)] k = k [.bool true] := call_of (fun k => by
  unfold mProof at h
  simp [laws_eqProof, laws_eqIntS_n a.Path (by omega)]) k
structure GGap where
  At : Int
  Before : GEntry
  After : GEntry
  Left : GProof
  Right : GProof
abbrev eGap (a : GGap) : List PV := [I a.At, .str a.Before.Label, I a.Before.Kind, I a.Before.Value, strs a.Before.Path, .str a.After.Label, I a.After.Kind, I a.After.Value, strs a.After.Path, I a.Left.At, ints a.Left.Path, I a.Right.At, ints a.Right.Path]
def mGap (a : GGap) : Nat := mEntry a.Before + (mEntry a.After + (mProof a.Left + (mProof a.Right)))
def WGap (a : GGap) : Prop := WEntry a.Before ∧ WEntry a.After ∧ WProof a.Left ∧ WProof a.Right
theorem decGap (r : List PV) (hr : Sh.hasAll [.int .i64, .str, .int .i64, .int .i64, .list [.str], .str, .int .i64, .int .i64, .list [.str], .int .i64, .list [.int .i64], .int .i64, .list [.int .i64]] r) : ∃ a : GGap, r = eGap a ∧ WGap a := by
  obtain ⟨p1, r1, rfl, h1, hr1⟩ := all_cons hr
  obtain ⟨n1, rfl⟩ := has_int h1
  obtain ⟨p2, r2, rfl, h2, hr2⟩ := all_cons hr1
  obtain ⟨n2, rfl, g2⟩ := has_str h2
  obtain ⟨p3, r3, rfl, h3, hr3⟩ := all_cons hr2
  obtain ⟨n3, rfl⟩ := has_int h3
  obtain ⟨p4, r4, rfl, h4, hr4⟩ := all_cons hr3
  obtain ⟨n4, rfl⟩ := has_int h4
  obtain ⟨p5, r5, rfl, h5, hr5⟩ := all_cons hr4
  obtain ⟨n5, rfl, g5⟩ := has_strs h5
  obtain ⟨p6, r6, rfl, h6, hr6⟩ := all_cons hr5
  obtain ⟨n6, rfl, g6⟩ := has_str h6
  obtain ⟨p7, r7, rfl, h7, hr7⟩ := all_cons hr6
  obtain ⟨n7, rfl⟩ := has_int h7
  obtain ⟨p8, r8, rfl, h8, hr8⟩ := all_cons hr7
  obtain ⟨n8, rfl⟩ := has_int h8
  obtain ⟨p9, r9, rfl, h9, hr9⟩ := all_cons hr8
  obtain ⟨n9, rfl, g9⟩ := has_strs h9
  obtain ⟨p10, r10, rfl, h10, hr10⟩ := all_cons hr9
  obtain ⟨n10, rfl⟩ := has_int h10
  obtain ⟨p11, r11, rfl, h11, hr11⟩ := all_cons hr10
  obtain ⟨n11, rfl, g11⟩ := has_ints h11
  obtain ⟨p12, r12, rfl, h12, hr12⟩ := all_cons hr11
  obtain ⟨n12, rfl⟩ := has_int h12
  obtain ⟨p13, rfl, h13⟩ := all_one hr12
  obtain ⟨n13, rfl, g13⟩ := has_ints h13
  exact ⟨⟨n1, ⟨n2, n3, n4, n5⟩, ⟨n6, n7, n8, n9⟩, ⟨n10, n11⟩, ⟨n12, n13⟩⟩, rfl, ⟨⟨g2, g5⟩, ⟨g6, g9⟩, g11, g13⟩⟩
theorem laws_szGap_n (a : GGap) (left : Int) (hw : WGap a) (h2 : 0 ≤ left) (h3 : left ≤ 1048576) (k) : call laws_szGap [.agg (eGap a), .one (I left)] k = k [I (szr (mGap a) left)] := call_of (fun k => by
  obtain ⟨g0, g1, g2, g3⟩ := hw
  unfold mGap
  simp only [laws_szGap, un, cur0, laws_szEntry_n a.Before (left) g0 h2 h3, binP_lss, iteP_eq, atP_zero, rt_eq, scs_sc, scs_nil, flat_int, true_and, and_true]
  by_cases c0 : ((mEntry a.Before : Nat) : Int) ≤ left
  rotate_left
  · first | (simp [szr_over c0, szr_not c0]; done) | (simp only [szr_over c0, szr_not c0]; simp)
  simp only [szr_yes c0, szr_add c0, show ¬ (left - ((mEntry a.Before : Nat) : Int) < 0) by omega, decide_false, Bool.false_eq_true, if_false, laws_szEntry_n a.After (left - ((mEntry a.Before : Nat) : Int)) g1 (by omega) (by omega), binP_lss, iteP_eq, atP_zero, rt_eq, scs_sc, scs_nil, flat_int, true_and, and_true]
  by_cases c1 : ((mEntry a.After : Nat) : Int) ≤ left - ((mEntry a.Before : Nat) : Int)
  rotate_left
  · first | (simp [szr_over c1, szr_not c1]; done) | (simp only [szr_over c1, szr_not c1]; simp)
  simp only [szr_yes c1, szr_add c1, show ¬ (left - ((mEntry a.Before : Nat) : Int) - ((mEntry a.After : Nat) : Int) < 0) by omega, decide_false, Bool.false_eq_true, if_false, laws_szProof_n a.Left (left - ((mEntry a.Before : Nat) : Int) - ((mEntry a.After : Nat) : Int)) g2 (by omega) (by omega), binP_lss, iteP_eq, atP_zero, rt_eq, scs_sc, scs_nil, flat_int, true_and, and_true]
  by_cases c2 : ((mProof a.Left : Nat) : Int) ≤ left - ((mEntry a.Before : Nat) : Int) - ((mEntry a.After : Nat) : Int)
  rotate_left
  · first | (simp [szr_over c2, szr_not c2]; done) | (simp only [szr_over c2, szr_not c2]; simp)
  simp only [szr_yes c2, szr_add c2, show ¬ (left - ((mEntry a.Before : Nat) : Int) - ((mEntry a.After : Nat) : Int) - ((mProof a.Left : Nat) : Int) < 0) by omega, decide_false, Bool.false_eq_true, if_false, laws_szProof_n a.Right (left - ((mEntry a.Before : Nat) : Int) - ((mEntry a.After : Nat) : Int) - ((mProof a.Left : Nat) : Int)) g3 (by omega) (by omega), binP_lss, iteP_eq, atP_zero, rt_eq, scs_sc, scs_nil, flat_int, true_and, and_true]
  by_cases c3 : ((mProof a.Right : Nat) : Int) ≤ left - ((mEntry a.Before : Nat) : Int) - ((mEntry a.After : Nat) : Int) - ((mProof a.Left : Nat) : Int)
  rotate_left
  · first | (simp [szr_not c3, szr_not c3]; done) | (simp only [szr_not c3, szr_not c3]; simp)
  simp only [szr_yes c3, show ¬ (left - ((mEntry a.Before : Nat) : Int) - ((mEntry a.After : Nat) : Int) - ((mProof a.Left : Nat) : Int) - ((mProof a.Right : Nat) : Int) < 0) by omega, decide_false, Bool.false_eq_true, if_false, binP_lss, iteP_eq, atP_zero, rt_eq, scs_sc, scs_nil, flat_int, true_and, and_true]) k
theorem laws_toGap_n (a : GGap) (h : mGap a ≤ 1048576) (k) : call laws_toGap [.agg (eGap a)] k = k (eGap a) := call_of (fun k => by
  unfold mGap at h
  simp [laws_toGap, laws_toEntry_n a.Before (by omega), laws_toEntry_n a.After (by omega), laws_toProof_n a.Left (by omega), laws_toProof_n a.Right (by omega)]) k
theorem laws_eqGap_n (a : GGap) (h : mGap a ≤ 1048576) (k) : call laws_eqGap [.agg (eGap a), .agg (eGap a)] k = k [.bool true] := call_of (fun k => by
  unfold mGap at h
  simp [laws_eqGap, laws_eqEntry_n a.Before (by omega), laws_eqEntry_n a.After (by omega), laws_eqProof_n a.Left (by omega), laws_eqProof_n a.Right (by omega)]) k
structure GHead where
  Zone : Int
  Epoch : Int
  Kind : Int
  Time : Int
  Until : Int
  Count : Int
  Root : Int
  Prev : Int
  Keys : GKeys
  Heirs : GKeys
  Wait : Int
  Judge : GKeys
  Frozen : Bool
abbrev eHead (a : GHead) : List PV := [I a.Zone, I a.Epoch, I a.Kind, I a.Time, I a.Until, I a.Count, I a.Root, I a.Prev, ints a.Keys.Lst, I a.Keys.Need, ints a.Heirs.Lst, I a.Heirs.Need, I a.Wait, ints a.Judge.Lst, I a.Judge.Need, .bool a.Frozen]
def mHead (a : GHead) : Nat := mKeys a.Keys + (mKeys a.Heirs + (mKeys a.Judge))
def WHead (a : GHead) : Prop := WKeys a.Keys ∧ WKeys a.Heirs ∧ WKeys a.Judge
theorem decHead (r : List PV) (hr : Sh.hasAll [.int .i64, .int .i64, .int .i64, .int .i64, .int .i64, .int .i64, .int .i64, .int .i64, .list [.int .i64], .int .i64, .list [.int .i64], .int .i64, .int .i64, .list [.int .i64], .int .i64, .bool] r) : ∃ a : GHead, r = eHead a ∧ WHead a := by
  obtain ⟨p1, r1, rfl, h1, hr1⟩ := all_cons hr
  obtain ⟨n1, rfl⟩ := has_int h1
  obtain ⟨p2, r2, rfl, h2, hr2⟩ := all_cons hr1
  obtain ⟨n2, rfl⟩ := has_int h2
  obtain ⟨p3, r3, rfl, h3, hr3⟩ := all_cons hr2
  obtain ⟨n3, rfl⟩ := has_int h3
  obtain ⟨p4, r4, rfl, h4, hr4⟩ := all_cons hr3
  obtain ⟨n4, rfl⟩ := has_int h4
  obtain ⟨p5, r5, rfl, h5, hr5⟩ := all_cons hr4
  obtain ⟨n5, rfl⟩ := has_int h5
  obtain ⟨p6, r6, rfl, h6, hr6⟩ := all_cons hr5
  obtain ⟨n6, rfl⟩ := has_int h6
  obtain ⟨p7, r7, rfl, h7, hr7⟩ := all_cons hr6
  obtain ⟨n7, rfl⟩ := has_int h7
  obtain ⟨p8, r8, rfl, h8, hr8⟩ := all_cons hr7
  obtain ⟨n8, rfl⟩ := has_int h8
  obtain ⟨p9, r9, rfl, h9, hr9⟩ := all_cons hr8
  obtain ⟨n9, rfl, g9⟩ := has_ints h9
  obtain ⟨p10, r10, rfl, h10, hr10⟩ := all_cons hr9
  obtain ⟨n10, rfl⟩ := has_int h10
  obtain ⟨p11, r11, rfl, h11, hr11⟩ := all_cons hr10
  obtain ⟨n11, rfl, g11⟩ := has_ints h11
  obtain ⟨p12, r12, rfl, h12, hr12⟩ := all_cons hr11
  obtain ⟨n12, rfl⟩ := has_int h12
  obtain ⟨p13, r13, rfl, h13, hr13⟩ := all_cons hr12
  obtain ⟨n13, rfl⟩ := has_int h13
  obtain ⟨p14, r14, rfl, h14, hr14⟩ := all_cons hr13
  obtain ⟨n14, rfl, g14⟩ := has_ints h14
  obtain ⟨p15, r15, rfl, h15, hr15⟩ := all_cons hr14
  obtain ⟨n15, rfl⟩ := has_int h15
  obtain ⟨p16, rfl, h16⟩ := all_one hr15
  obtain ⟨n16, rfl⟩ := has_bool h16
  exact ⟨⟨n1, n2, n3, n4, n5, n6, n7, n8, ⟨n9, n10⟩, ⟨n11, n12⟩, n13, ⟨n14, n15⟩, n16⟩, rfl, ⟨g9, g11, g14⟩⟩
theorem laws_szHead_n (a : GHead) (left : Int) (hw : WHead a) (h2 : 0 ≤ left) (h3 : left ≤ 1048576) (k) : call laws_szHead [.agg (eHead a), .one (I left)] k = k [I (szr (mHead a) left)] := call_of (fun k => by
  obtain ⟨g0, g1, g2⟩ := hw
  unfold mHead
  simp only [laws_szHead, un, cur0, laws_szKeys_n a.Keys (left) g0 h2 h3, binP_lss, iteP_eq, atP_zero, rt_eq, scs_sc, scs_nil, flat_int, true_and, and_true]
  by_cases c0 : ((mKeys a.Keys : Nat) : Int) ≤ left
  rotate_left
  · first | (simp [szr_over c0, szr_not c0]; done) | (simp only [szr_over c0, szr_not c0]; simp)
  simp only [szr_yes c0, szr_add c0, show ¬ (left - ((mKeys a.Keys : Nat) : Int) < 0) by omega, decide_false, Bool.false_eq_true, if_false, laws_szKeys_n a.Heirs (left - ((mKeys a.Keys : Nat) : Int)) g1 (by omega) (by omega), binP_lss, iteP_eq, atP_zero, rt_eq, scs_sc, scs_nil, flat_int, true_and, and_true]
  by_cases c1 : ((mKeys a.Heirs : Nat) : Int) ≤ left - ((mKeys a.Keys : Nat) : Int)
  rotate_left
  · first | (simp [szr_over c1, szr_not c1]; done) | (simp only [szr_over c1, szr_not c1]; simp)
  simp only [szr_yes c1, szr_add c1, show ¬ (left - ((mKeys a.Keys : Nat) : Int) - ((mKeys a.Heirs : Nat) : Int) < 0) by omega, decide_false, Bool.false_eq_true, if_false, laws_szKeys_n a.Judge (left - ((mKeys a.Keys : Nat) : Int) - ((mKeys a.Heirs : Nat) : Int)) g2 (by omega) (by omega), binP_lss, iteP_eq, atP_zero, rt_eq, scs_sc, scs_nil, flat_int, true_and, and_true]
  by_cases c2 : ((mKeys a.Judge : Nat) : Int) ≤ left - ((mKeys a.Keys : Nat) : Int) - ((mKeys a.Heirs : Nat) : Int)
  rotate_left
  · first | (simp [szr_not c2, szr_not c2]; done) | (simp only [szr_not c2, szr_not c2]; simp)
  simp only [szr_yes c2, show ¬ (left - ((mKeys a.Keys : Nat) : Int) - ((mKeys a.Heirs : Nat) : Int) - ((mKeys a.Judge : Nat) : Int) < 0) by omega, decide_false, Bool.false_eq_true, if_false, binP_lss, iteP_eq, atP_zero, rt_eq, scs_sc, scs_nil, flat_int, true_and, and_true]) k
theorem laws_toHead_n (a : GHead) (h : mHead a ≤ 1048576) (k) : call laws_toHead [.agg (eHead a)] k = k (eHead a) := call_of (fun k => by
  unfold mHead at h
  simp [laws_toHead, laws_toKeys_n a.Keys (by omega), laws_toKeys_n a.Heirs (by omega), laws_toKeys_n a.Judge (by omega)]) k
theorem laws_eqHead_n (a : GHead) (h : mHead a ≤ 1048576) (k) : call laws_eqHead [.agg (eHead a), .agg (eHead a)] k = k [.bool true] := call_of (fun k => by
  unfold mHead at h
  simp [laws_eqHead, laws_eqKeys_n a.Keys (by omega), laws_eqKeys_n a.Heirs (by omega), laws_eqKeys_n a.Judge (by omega)]) k
theorem decSigS {p : PV} (h : Sh.has (.list [.int .i64, .int .i64]) p) : ∃ l : List GSig, p = .list 2 (l.map eSig) ∧ l.length ≤ maxLen := by
  obtain ⟨l, h1, h2, h3⟩ := has_map decSig 2 rfl h
  exact ⟨l, h1, h2⟩
theorem laws_szSigS_n (l : List GSig) (left : Int) (hw : l.length ≤ maxLen) (h2 : 0 ≤ left) (h3 : left ≤ 1048576) (k) : call laws_szSigS [.one (.list 2 (l.map eSig)), .one (I left)] k = k [I (szr l.length left)] := call_of (fun k => by
  simp only [laws_szSigS, lenP_eq, List.length_map, binP_sub, wr_left hw h2 h3, binP_lss, iteP_eq, rt_eq, scs_sc, scs_nil, flat_int, true_and, and_true]
  by_cases c : (l.length : Int) ≤ left
  · simp [szr_yes c, show ¬ (left - (l.length : Int) < 0) by omega]
  · simp [szr_not c, show left - (l.length : Int) < 0 by omega]) k
theorem laws_toSigS_n (l : List GSig) (h : l.length ≤ 1048576) (k) : call laws_toSigS [.one (.list 2 (l.map eSig))] k = k [.list 2 (l.map eSig)] := call_of (fun k => by
  have hm := h
  simp [laws_toSigS, show l.length < 1073741824 by omega]
  refine lp_toS l eSig eSig [I 0, I 0] 2 2 (.list 2 []) rfl (fun i x hx hi K rows hr hz => ?_) fun K => ?_
  · simp [-getElem?_pos, laws_toSigS_r0, hx, hi, hr, hz, over, laws_toSig_n x, wr_succ (show i < 1000000000000000000 by omega)]
  · simp [laws_toSigS_r0]) k
theorem laws_eqSigS_n (l : List GSig) (h : l.length ≤ 1048576) (k) : call laws_eqSigS [.one (.list 2 (l.map eSig)), .one (.list 2 (l.map eSig))] k = k [.bool true] := call_of (fun k => by
  have hm := h
  simp [laws_eqSigS]
  refine lp_eqS l eSig 2 (.bool false) rfl (fun i x hx hi K => ?_) fun K => ?_
  · simp [-getElem?_pos, laws_eqSigS_r0, hx, hi, laws_eqSig_n x, wr_succ (show i < 1000000000000000000 by omega)]
  · simp [laws_eqSigS_r0]) k
structure GSigned where
  Head : GHead
  Sigs : List GSig
abbrev eSigned (a : GSigned) : List PV := [I a.Head.Zone, I a.Head.Epoch, I a.Head.Kind, I a.Head.Time, I a.Head.Until, I a.Head.Count, I a.Head.Root, I a.Head.Prev, ints a.Head.Keys.Lst, I a.Head.Keys.Need, ints a.Head.Heirs.Lst, I a.Head.Heirs.Need, I a.Head.Wait, ints a.Head.Judge.Lst, I a.Head.Judge.Need, .bool a.Head.Frozen, .list 2 (a.Sigs.map eSig)]
def mSigned (a : GSigned) : Nat := mHead a.Head + (a.Sigs.length)
def WSigned (a : GSigned) : Prop := WHead a.Head ∧ a.Sigs.length ≤ maxLen
theorem decSigned (r : List PV) (hr : Sh.hasAll [.int .i64, .int .i64, .int .i64, .int .i64, .int .i64, .int .i64, .int .i64, .int .i64, .list [.int .i64], .int .i64, .list [.int .i64], .int .i64, .int .i64, .list [.int .i64], .int .i64, .bool, .list [.int .i64, .int .i64]] r) : ∃ a : GSigned, r = eSigned a ∧ WSigned a := by
  obtain ⟨p1, r1, rfl, h1, hr1⟩ := all_cons hr
  obtain ⟨n1, rfl⟩ := has_int h1
  obtain ⟨p2, r2, rfl, h2, hr2⟩ := all_cons hr1
  obtain ⟨n2, rfl⟩ := has_int h2
  obtain ⟨p3, r3, rfl, h3, hr3⟩ := all_cons hr2
  obtain ⟨n3, rfl⟩ := has_int h3
  obtain ⟨p4, r4, rfl, h4, hr4⟩ := all_cons hr3
  obtain ⟨n4, rfl⟩ := has_int h4
  obtain ⟨p5, r5, rfl, h5, hr5⟩ := all_cons hr4
  obtain ⟨n5, rfl⟩ := has_int h5
  obtain ⟨p6, r6, rfl, h6, hr6⟩ := all_cons hr5
  obtain ⟨n6, rfl⟩ := has_int h6
  obtain ⟨p7, r7, rfl, h7, hr7⟩ := all_cons hr6
  obtain ⟨n7, rfl⟩ := has_int h7
  obtain ⟨p8, r8, rfl, h8, hr8⟩ := all_cons hr7
  obtain ⟨n8, rfl⟩ := has_int h8
  obtain ⟨p9, r9, rfl, h9, hr9⟩ := all_cons hr8
  obtain ⟨n9, rfl, g9⟩ := has_ints h9
  obtain ⟨p10, r10, rfl, h10, hr10⟩ := all_cons hr9
  obtain ⟨n10, rfl⟩ := has_int h10
  obtain ⟨p11, r11, rfl, h11, hr11⟩ := all_cons hr10
  obtain ⟨n11, rfl, g11⟩ := has_ints h11
  obtain ⟨p12, r12, rfl, h12, hr12⟩ := all_cons hr11
  obtain ⟨n12, rfl⟩ := has_int h12
  obtain ⟨p13, r13, rfl, h13, hr13⟩ := all_cons hr12
  obtain ⟨n13, rfl⟩ := has_int h13
  obtain ⟨p14, r14, rfl, h14, hr14⟩ := all_cons hr13
  obtain ⟨n14, rfl, g14⟩ := has_ints h14
  obtain ⟨p15, r15, rfl, h15, hr15⟩ := all_cons hr14
  obtain ⟨n15, rfl⟩ := has_int h15
  obtain ⟨p16, r16, rfl, h16, hr16⟩ := all_cons hr15
  obtain ⟨n16, rfl⟩ := has_bool h16
  obtain ⟨p17, rfl, h17⟩ := all_one hr16
  obtain ⟨n17, rfl, g17⟩ := decSigS h17
  exact ⟨⟨⟨n1, n2, n3, n4, n5, n6, n7, n8, ⟨n9, n10⟩, ⟨n11, n12⟩, n13, ⟨n14, n15⟩, n16⟩, n17⟩, rfl, ⟨⟨g9, g11, g14⟩, g17⟩⟩
theorem laws_szSigned_n (a : GSigned) (left : Int) (hw : WSigned a) (h2 : 0 ≤ left) (h3 : left ≤ 1048576) (k) : call laws_szSigned [.agg (eSigned a), .one (I left)] k = k [I (szr (mSigned a) left)] := call_of (fun k => by
  obtain ⟨g0, g1⟩ := hw
  unfold mSigned
  simp only [laws_szSigned, un, cur0, laws_szHead_n a.Head (left) g0 h2 h3, binP_lss, iteP_eq, atP_zero, rt_eq, scs_sc, scs_nil, flat_int, true_and, and_true]
  by_cases c0 : ((mHead a.Head : Nat) : Int) ≤ left
  rotate_left
  · first | (simp [szr_over c0, szr_not c0]; done) | (simp only [szr_over c0, szr_not c0]; simp)
  simp only [szr_yes c0, szr_add c0, show ¬ (left - ((mHead a.Head : Nat) : Int) < 0) by omega, decide_false, Bool.false_eq_true, if_false, laws_szSigS_n a.Sigs (left - ((mHead a.Head : Nat) : Int)) g1 (by omega) (by omega), binP_lss, iteP_eq, atP_zero, rt_eq, scs_sc, scs_nil, flat_int, true_and, and_true]
  by_cases c1 : ((a.Sigs.length : Nat) : Int) ≤ left - ((mHead a.Head : Nat) : Int)
  rotate_left
  · first | (simp [szr_not c1, szr_not c1]; done) | (simp only [szr_not c1, szr_not c1]; simp)
  simp only [szr_yes c1, show ¬ (left - ((mHead a.Head : Nat) : Int) - ((a.Sigs.length : Nat) : Int) < 0) by omega, decide_false, Bool.false_eq_true, if_false, binP_lss, iteP_eq, atP_zero, rt_eq, scs_sc, scs_nil, flat_int, true_and, and_true]) k
theorem laws_toSigned_n (a : GSigned) (h : mSigned a ≤ 1048576) (k) : call laws_toSigned [.agg (eSigned a)] k = k (eSigned a) := call_of (fun k => by
  unfold mSigned at h
  simp [laws_toSigned, laws_toHead_n a.Head (by omega), laws_toSigS_n a.Sigs (by omega)]) k
theorem laws_eqSigned_n (a : GSigned) (h : mSigned a ≤ 1048576) (k) : call laws_eqSigned [.agg (eSigned a), .agg (eSigned a)] k = k [.bool true] := call_of (fun k => by
  unfold mSigned at h
  simp [laws_eqSigned, laws_eqHead_n a.Head (by omega), laws_eqSigS_n a.Sigs (by omega)]) k
structure GFork where
  Before : GSigned
  A : GSigned
  B : GSigned
abbrev eFork (a : GFork) : List PV := [I a.Before.Head.Zone, I a.Before.Head.Epoch, I a.Before.Head.Kind, I a.Before.Head.Time, I a.Before.Head.Until, I a.Before.Head.Count, I a.Before.Head.Root, I a.Before.Head.Prev, ints a.Before.Head.Keys.Lst, I a.Before.Head.Keys.Need, ints a.Before.Head.Heirs.Lst, I a.Before.Head.Heirs.Need, I a.Before.Head.Wait, ints a.Before.Head.Judge.Lst, I a.Before.Head.Judge.Need, .bool a.Before.Head.Frozen, .list 2 (a.Before.Sigs.map eSig), I a.A.Head.Zone, I a.A.Head.Epoch, I a.A.Head.Kind, I a.A.Head.Time, I a.A.Head.Until, I a.A.Head.Count, I a.A.Head.Root, I a.A.Head.Prev, ints a.A.Head.Keys.Lst, I a.A.Head.Keys.Need, ints a.A.Head.Heirs.Lst, I a.A.Head.Heirs.Need, I a.A.Head.Wait, ints a.A.Head.Judge.Lst, I a.A.Head.Judge.Need, .bool a.A.Head.Frozen, .list 2 (a.A.Sigs.map eSig), I a.B.Head.Zone, I a.B.Head.Epoch, I a.B.Head.Kind, I a.B.Head.Time, I a.B.Head.Until, I a.B.Head.Count, I a.B.Head.Root, I a.B.Head.Prev, ints a.B.Head.Keys.Lst, I a.B.Head.Keys.Need, ints a.B.Head.Heirs.Lst, I a.B.Head.Heirs.Need, I a.B.Head.Wait, ints a.B.Head.Judge.Lst, I a.B.Head.Judge.Need, .bool a.B.Head.Frozen, .list 2 (a.B.Sigs.map eSig)]
def mFork (a : GFork) : Nat := mSigned a.Before + (mSigned a.A + (mSigned a.B))
def WFork (a : GFork) : Prop := WSigned a.Before ∧ WSigned a.A ∧ WSigned a.B
theorem decFork (r : List PV) (hr : Sh.hasAll [.int .i64, .int .i64, .int .i64, .int .i64, .int .i64, .int .i64, .int .i64, .int .i64, .list [.int .i64], .int .i64, .list [.int .i64], .int .i64, .int .i64, .list [.int .i64], .int .i64, .bool, .list [.int .i64, .int .i64], .int .i64, .int .i64, .int .i64, .int .i64, .int .i64, .int .i64, .int .i64, .int .i64, .list [.int .i64], .int .i64, .list [.int .i64], .int .i64, .int .i64, .list [.int .i64], .int .i64, .bool, .list [.int .i64, .int .i64], .int .i64, .int .i64, .int .i64, .int .i64, .int .i64, .int .i64, .int .i64, .int .i64, .list [.int .i64], .int .i64, .list [.int .i64], .int .i64, .int .i64, .list [.int .i64], .int .i64, .bool, .list [.int .i64, .int .i64]] r) : ∃ a : GFork, r = eFork a ∧ WFork a := by
  obtain ⟨p1, r1, rfl, h1, hr1⟩ := all_cons hr
  obtain ⟨n1, rfl⟩ := has_int h1
  obtain ⟨p2, r2, rfl, h2, hr2⟩ := all_cons hr1
  obtain ⟨n2, rfl⟩ := has_int h2
  obtain ⟨p3, r3, rfl, h3, hr3⟩ := all_cons hr2
  obtain ⟨n3, rfl⟩ := has_int h3
  obtain ⟨p4, r4, rfl, h4, hr4⟩ := all_cons hr3
  obtain ⟨n4, rfl⟩ := has_int h4
  obtain ⟨p5, r5, rfl, h5, hr5⟩ := all_cons hr4
  obtain ⟨n5, rfl⟩ := has_int h5
  obtain ⟨p6, r6, rfl, h6, hr6⟩ := all_cons hr5
  obtain ⟨n6, rfl⟩ := has_int h6
  obtain ⟨p7, r7, rfl, h7, hr7⟩ := all_cons hr6
  obtain ⟨n7, rfl⟩ := has_int h7
  obtain ⟨p8, r8, rfl, h8, hr8⟩ := all_cons hr7
  obtain ⟨n8, rfl⟩ := has_int h8
  obtain ⟨p9, r9, rfl, h9, hr9⟩ := all_cons hr8
  obtain ⟨n9, rfl, g9⟩ := has_ints h9
  obtain ⟨p10, r10, rfl, h10, hr10⟩ := all_cons hr9
  obtain ⟨n10, rfl⟩ := has_int h10
  obtain ⟨p11, r11, rfl, h11, hr11⟩ := all_cons hr10
  obtain ⟨n11, rfl, g11⟩ := has_ints h11
  obtain ⟨p12, r12, rfl, h12, hr12⟩ := all_cons hr11
  obtain ⟨n12, rfl⟩ := has_int h12
  obtain ⟨p13, r13, rfl, h13, hr13⟩ := all_cons hr12
  obtain ⟨n13, rfl⟩ := has_int h13
  obtain ⟨p14, r14, rfl, h14, hr14⟩ := all_cons hr13
  obtain ⟨n14, rfl, g14⟩ := has_ints h14
  obtain ⟨p15, r15, rfl, h15, hr15⟩ := all_cons hr14
  obtain ⟨n15, rfl⟩ := has_int h15
  obtain ⟨p16, r16, rfl, h16, hr16⟩ := all_cons hr15
  obtain ⟨n16, rfl⟩ := has_bool h16
  obtain ⟨p17, r17, rfl, h17, hr17⟩ := all_cons hr16
  obtain ⟨n17, rfl, g17⟩ := decSigS h17
  obtain ⟨p18, r18, rfl, h18, hr18⟩ := all_cons hr17
  obtain ⟨n18, rfl⟩ := has_int h18
  obtain ⟨p19, r19, rfl, h19, hr19⟩ := all_cons hr18
  obtain ⟨n19, rfl⟩ := has_int h19
  obtain ⟨p20, r20, rfl, h20, hr20⟩ := all_cons hr19
  obtain ⟨n20, rfl⟩ := has_int h20
  obtain ⟨p21, r21, rfl, h21, hr21⟩ := all_cons hr20
  obtain ⟨n21, rfl⟩ := has_int h21
  obtain ⟨p22, r22, rfl, h22, hr22⟩ := all_cons hr21
  obtain ⟨n22, rfl⟩ := has_int h22
  obtain ⟨p23, r23, rfl, h23, hr23⟩ := all_cons hr22
  obtain ⟨n23, rfl⟩ := has_int h23
  obtain ⟨p24, r24, rfl, h24, hr24⟩ := all_cons hr23
  obtain ⟨n24, rfl⟩ := has_int h24
  obtain ⟨p25, r25, rfl, h25, hr25⟩ := all_cons hr24
  obtain ⟨n25, rfl⟩ := has_int h25
  obtain ⟨p26, r26, rfl, h26, hr26⟩ := all_cons hr25
  obtain ⟨n26, rfl, g26⟩ := has_ints h26
  obtain ⟨p27, r27, rfl, h27, hr27⟩ := all_cons hr26
  obtain ⟨n27, rfl⟩ := has_int h27
  obtain ⟨p28, r28, rfl, h28, hr28⟩ := all_cons hr27
  obtain ⟨n28, rfl, g28⟩ := has_ints h28
  obtain ⟨p29, r29, rfl, h29, hr29⟩ := all_cons hr28
  obtain ⟨n29, rfl⟩ := has_int h29
  obtain ⟨p30, r30, rfl, h30, hr30⟩ := all_cons hr29
  obtain ⟨n30, rfl⟩ := has_int h30
  obtain ⟨p31, r31, rfl, h31, hr31⟩ := all_cons hr30
  obtain ⟨n31, rfl, g31⟩ := has_ints h31
  obtain ⟨p32, r32, rfl, h32, hr32⟩ := all_cons hr31
  obtain ⟨n32, rfl⟩ := has_int h32
  obtain ⟨p33, r33, rfl, h33, hr33⟩ := all_cons hr32
  obtain ⟨n33, rfl⟩ := has_bool h33
  obtain ⟨p34, r34, rfl, h34, hr34⟩ := all_cons hr33
  obtain ⟨n34, rfl, g34⟩ := decSigS h34
  obtain ⟨p35, r35, rfl, h35, hr35⟩ := all_cons hr34
  obtain ⟨n35, rfl⟩ := has_int h35
  obtain ⟨p36, r36, rfl, h36, hr36⟩ := all_cons hr35
  obtain ⟨n36, rfl⟩ := has_int h36
  obtain ⟨p37, r37, rfl, h37, hr37⟩ := all_cons hr36
  obtain ⟨n37, rfl⟩ := has_int h37
  obtain ⟨p38, r38, rfl, h38, hr38⟩ := all_cons hr37
  obtain ⟨n38, rfl⟩ := has_int h38
  obtain ⟨p39, r39, rfl, h39, hr39⟩ := all_cons hr38
  obtain ⟨n39, rfl⟩ := has_int h39
  obtain ⟨p40, r40, rfl, h40, hr40⟩ := all_cons hr39
  obtain ⟨n40, rfl⟩ := has_int h40
  obtain ⟨p41, r41, rfl, h41, hr41⟩ := all_cons hr40
  obtain ⟨n41, rfl⟩ := has_int h41
  obtain ⟨p42, r42, rfl, h42, hr42⟩ := all_cons hr41
  obtain ⟨n42, rfl⟩ := has_int h42
  obtain ⟨p43, r43, rfl, h43, hr43⟩ := all_cons hr42
  obtain ⟨n43, rfl, g43⟩ := has_ints h43
  obtain ⟨p44, r44, rfl, h44, hr44⟩ := all_cons hr43
  obtain ⟨n44, rfl⟩ := has_int h44
  obtain ⟨p45, r45, rfl, h45, hr45⟩ := all_cons hr44
  obtain ⟨n45, rfl, g45⟩ := has_ints h45
  obtain ⟨p46, r46, rfl, h46, hr46⟩ := all_cons hr45
  obtain ⟨n46, rfl⟩ := has_int h46
  obtain ⟨p47, r47, rfl, h47, hr47⟩ := all_cons hr46
  obtain ⟨n47, rfl⟩ := has_int h47
  obtain ⟨p48, r48, rfl, h48, hr48⟩ := all_cons hr47
  obtain ⟨n48, rfl, g48⟩ := has_ints h48
  obtain ⟨p49, r49, rfl, h49, hr49⟩ := all_cons hr48
  obtain ⟨n49, rfl⟩ := has_int h49
  obtain ⟨p50, r50, rfl, h50, hr50⟩ := all_cons hr49
  obtain ⟨n50, rfl⟩ := has_bool h50
  obtain ⟨p51, rfl, h51⟩ := all_one hr50
  obtain ⟨n51, rfl, g51⟩ := decSigS h51
  exact ⟨⟨⟨⟨n1, n2, n3, n4, n5, n6, n7, n8, ⟨n9, n10⟩, ⟨n11, n12⟩, n13, ⟨n14, n15⟩, n16⟩, n17⟩, ⟨⟨n18, n19, n20, n21, n22, n23, n24, n25, ⟨n26, n27⟩, ⟨n28, n29⟩, n30, ⟨n31, n32⟩, n33⟩, n34⟩, ⟨⟨n35, n36, n37, n38, n39, n40, n41, n42, ⟨n43, n44⟩, ⟨n45, n46⟩, n47, ⟨n48, n49⟩, n50⟩, n51⟩⟩, rfl, ⟨⟨⟨g9, g11, g14⟩, g17⟩, ⟨⟨g26, g28, g31⟩, g34⟩, ⟨⟨g43, g45, g48⟩, g51⟩⟩⟩
theorem laws_szFork_n (a : GFork) (left : Int) (hw : WFork a) (h2 : 0 ≤ left) (h3 : left ≤ 1048576) (k) : call laws_szFork [.agg (eFork a), .one (I left)] k = k [I (szr (mFork a) left)] := call_of (fun k => by
  obtain ⟨g0, g1, g2⟩ := hw
  unfold mFork
  simp only [laws_szFork, un, cur0, laws_szSigned_n a.Before (left) g0 h2 h3, binP_lss, iteP_eq, atP_zero, rt_eq, scs_sc, scs_nil, flat_int, true_and, and_true]
  by_cases c0 : ((mSigned a.Before : Nat) : Int) ≤ left
  rotate_left
  · first | (simp [szr_over c0, szr_not c0]; done) | (simp only [szr_over c0, szr_not c0]; simp)
  simp only [szr_yes c0, szr_add c0, show ¬ (left - ((mSigned a.Before : Nat) : Int) < 0) by omega, decide_false, Bool.false_eq_true, if_false, laws_szSigned_n a.A (left - ((mSigned a.Before : Nat) : Int)) g1 (by omega) (by omega), binP_lss, iteP_eq, atP_zero, rt_eq, scs_sc, scs_nil, flat_int, true_and, and_true]
  by_cases c1 : ((mSigned a.A : Nat) : Int) ≤ left - ((mSigned a.Before : Nat) : Int)
  rotate_left
  · first | (simp [szr_over c1, szr_not c1]; done) | (simp only [szr_over c1, szr_not c1]; simp)
  simp only [szr_yes c1, szr_add c1, show ¬ (left - ((mSigned a.Before : Nat) : Int) - ((mSigned a.A : Nat) : Int) < 0) by omega, decide_false, Bool.false_eq_true, if_false, laws_szSigned_n a.B (left - ((mSigned a.Before : Nat) : Int) - ((mSigned a.A : Nat) : Int)) g2 (by omega) (by omega), binP_lss, iteP_eq, atP_zero, rt_eq, scs_sc, scs_nil, flat_int, true_and, and_true]
  by_cases c2 : ((mSigned a.B : Nat) : Int) ≤ left - ((mSigned a.Before : Nat) : Int) - ((mSigned a.A : Nat) : Int)
  rotate_left
  · first | (simp [szr_not c2, szr_not c2]; done) | (simp only [szr_not c2, szr_not c2]; simp)
  simp only [szr_yes c2, show ¬ (left - ((mSigned a.Before : Nat) : Int) - ((mSigned a.A : Nat) : Int) - ((mSigned a.B : Nat) : Int) < 0) by omega, decide_false, Bool.false_eq_true, if_false, binP_lss, iteP_eq, atP_zero, rt_eq, scs_sc, scs_nil, flat_int, true_and, and_true]) k
theorem laws_toFork_n (a : GFork) (h : mFork a ≤ 1048576) (k) : call laws_toFork [.agg (eFork a)] k = k (eFork a) := call_of (fun k => by
  unfold mFork at h
  simp [laws_toFork, laws_toSigned_n a.Before (by omega), laws_toSigned_n a.A (by omega), laws_toSigned_n a.B (by omega)]) k
theorem laws_eqFork_n (a : GFork) (h : mFork a ≤ 1048576) (k) : call laws_eqFork [.agg (eFork a), .agg (eFork a)] k = k [.bool true] := call_of (fun k => by
  unfold mFork at h
  simp [laws_eqFork, laws_eqSigned_n a.Before (by omega), laws_eqSigned_n a.A (by omega), laws_eqSigned_n a.B (by omega)]) k
def mSignedS (l : List GSigned) : Nat := l.length + sumN mSigned l
theorem decSignedS {p : PV} (h : Sh.has (.list [.int .i64, .int .i64, .int .i64, .int .i64, .int .i64, .int .i64, .int .i64, .int .i64, .list [.int .i64], .int .i64, .list [.int .i64], .int .i64, .int .i64, .list [.int .i64], .int .i64, .bool, .list [.int .i64, .int .i64]]) p) : ∃ l : List GSigned, p = .list 17 (l.map eSigned) ∧ (l.length ≤ maxLen ∧ ∀ y ∈ l, WSigned y) := by
  obtain ⟨l, h1, h2, h3⟩ := has_map decSigned 17 rfl h
  exact ⟨l, h1, h2, h3⟩
theorem laws_szSignedS_n (l : List GSigned) (left : Int) (hw : (l.length ≤ maxLen ∧ ∀ y ∈ l, WSigned y)) (h2 : 0 ≤ left) (h3 : left ≤ 1048576) (k) : call laws_szSignedS [.one (.list 17 (l.map eSigned)), .one (I left)] k = k [I (szr (mSignedS l) left)] := call_of (fun k => by
  simp only [laws_szSignedS, lenP_eq, List.length_map, binP_sub, wr_left hw.1 h2 h3, binP_lss, iteP_eq, rt_eq, scs_sc, scs_nil, flat_int, true_and, and_true]
  unfold mSignedS
  by_cases c : (l.length : Int) ≤ left
  rotate_left
  · simp [szr_over c, show left - (l.length : Int) < 0 by omega]
  simp only [szr_add c, show ¬ (left - (l.length : Int) < 0) by omega, decide_false, Bool.false_eq_true, if_false]
  refine (lp_sz (neg := k [I (-1)]) (fin := fun t => k [I t]) l eSigned 17 mSigned (left - (l.length : Int)) (I 0) (by omega) (by omega) rfl (fun i x hx hi t ht1 ht2 K => ?_) fun t K => ?_).trans ?_
  · have e := laws_szSigned_n x t (hw.2 x (List.mem_of_getElem? hx)) ht1 ht2
    simp [-getElem?_pos, laws_szSignedS_r0, hx, hi, e, wr_succ (show i < 1000000000000000000 by omega)]
    by_cases hs : ((mSigned x : Nat) : Int) ≤ t
    · simp [szr_yes hs, hs, show ¬ (t - ((mSigned x : Nat) : Int) < 0) by omega]
    · simp [szr_not hs, hs]
  · simp [laws_szSignedS_r0]
  · by_cases hs : ((sumN mSigned l : Nat) : Int) ≤ left - (l.length : Int)
    · simp [szr_yes hs, hs]
    · simp [szr_not hs, hs]) k
theorem laws_toSignedS_n (l : List GSigned) (h : mSignedS l ≤ 1048576) (k) : call laws_toSignedS [.one (.list 17 (l.map eSigned))] k = k [.list 17 (l.map eSigned)] := call_of (fun k => by
  have hm := h
  unfold mSignedS at hm
  simp [laws_toSignedS, show l.length < 1073741824 by omega]
  refine lp_toS l eSigned eSigned [I 0, I 0, I 0, I 0, I 0, I 0, I 0, I 0, .list 1 [], I 0, .list 1 [], I 0, I 0, .list 1 [], I 0, .bool false, .list 2 []] 17 17 (.list 17 []) rfl (fun i x hx hi K rows hr hz => ?_) fun K => ?_
  · have hs : mSigned x ≤ sumN mSigned l := sumN_mem (s := mSigned) (List.mem_of_getElem? hx)
    simp [-getElem?_pos, laws_toSignedS_r0, hx, hi, hr, hz, over, laws_toSigned_n x (by omega), wr_succ (show i < 1000000000000000000 by omega)]
  · simp [laws_toSignedS_r0]) k
theorem laws_eqSignedS_n (l : List GSigned) (h : mSignedS l ≤ 1048576) (k) : call laws_eqSignedS [.one (.list 17 (l.map eSigned)), .one (.list 17 (l.map eSigned))] k = k [.bool true] := call_of (fun k => by
  have hm := h
  unfold mSignedS at hm
  simp [laws_eqSignedS]
  refine lp_eqS l eSigned 17 (.bool false) rfl (fun i x hx hi K => ?_) fun K => ?_
  · have hs : mSigned x ≤ sumN mSigned l := sumN_mem (s := mSigned) (List.mem_of_getElem? hx)
    simp [-getElem?_pos, laws_eqSignedS_r0, hx, hi, laws_eqSigned_n x (by omega), wr_succ (show i < 1000000000000000000 by omega)]
  · simp [laws_eqSignedS_r0]) k
def mEntryS (l : List GEntry) : Nat := l.length + sumN mEntry l
theorem decEntryS {p : PV} (h : Sh.has (.list [.str, .int .i64, .int .i64, .list [.str]]) p) : ∃ l : List GEntry, p = .list 4 (l.map eEntry) ∧ (l.length ≤ maxLen ∧ ∀ y ∈ l, WEntry y) := by
  obtain ⟨l, h1, h2, h3⟩ := has_map decEntry 4 rfl h
  exact ⟨l, h1, h2, h3⟩
theorem laws_szEntryS_n (l : List GEntry) (left : Int) (hw : (l.length ≤ maxLen ∧ ∀ y ∈ l, WEntry y)) (h2 : 0 ≤ left) (h3 : left ≤ 1048576) (k) : call laws_szEntryS [.one (.list 4 (l.map eEntry)), .one (I left)] k = k [I (szr (mEntryS l) left)] := call_of (fun k => by
  simp only [laws_szEntryS, lenP_eq, List.length_map, binP_sub, wr_left hw.1 h2 h3, binP_lss, iteP_eq, rt_eq, scs_sc, scs_nil, flat_int, true_and, and_true]
  unfold mEntryS
  by_cases c : (l.length : Int) ≤ left
  rotate_left
  · simp [szr_over c, show left - (l.length : Int) < 0 by omega]
  simp only [szr_add c, show ¬ (left - (l.length : Int) < 0) by omega, decide_false, Bool.false_eq_true, if_false]
  refine (lp_sz (neg := k [I (-1)]) (fin := fun t => k [I t]) l eEntry 4 mEntry (left - (l.length : Int)) (I 0) (by omega) (by omega) rfl (fun i x hx hi t ht1 ht2 K => ?_) fun t K => ?_).trans ?_
  · have e := laws_szEntry_n x t (hw.2 x (List.mem_of_getElem? hx)) ht1 ht2
    simp [-getElem?_pos, laws_szEntryS_r0, hx, hi, e, wr_succ (show i < 1000000000000000000 by omega)]
    by_cases hs : ((mEntry x : Nat) : Int) ≤ t
    · simp [szr_yes hs, hs, show ¬ (t - ((mEntry x : Nat) : Int) < 0) by omega]
    · simp [szr_not hs, hs]
  · simp [laws_szEntryS_r0]
  · by_cases hs : ((sumN mEntry l : Nat) : Int) ≤ left - (l.length : Int)
    · simp [szr_yes hs, hs]
    · simp [szr_not hs, hs]) k
theorem laws_toEntryS_n (l : List GEntry) (h : mEntryS l ≤ 1048576) (k) : call laws_toEntryS [.one (.list 4 (l.map eEntry))] k = k [.list 4 (l.map eEntry)] := call_of (fun k => by
  have hm := h
  unfold mEntryS at hm
  simp [laws_toEntryS, show l.length < 1073741824 by omega]
  refine lp_toS l eEntry eEntry [.str ⟨#[]⟩, I 0, I 0, .list 1 []] 4 4 (.list 4 []) rfl (fun i x hx hi K rows hr hz => ?_) fun K => ?_
  · have hs : mEntry x ≤ sumN mEntry l := sumN_mem (s := mEntry) (List.mem_of_getElem? hx)
    simp [-getElem?_pos, laws_toEntryS_r0, hx, hi, hr, hz, over, laws_toEntry_n x (by omega), wr_succ (show i < 1000000000000000000 by omega)]
  · simp [laws_toEntryS_r0]) k
theorem laws_eqEntryS_n (l : List GEntry) (h : mEntryS l ≤ 1048576) (k) : call laws_eqEntryS [.one (.list 4 (l.map eEntry)), .one (.list 4 (l.map eEntry))] k = k [.bool true] := call_of (fun k => by
  have hm := h
  unfold mEntryS at hm
  simp [laws_eqEntryS]
  refine lp_eqS l eEntry 4 (.bool false) rfl (fun i x hx hi K => ?_) fun K => ?_
  · have hs : mEntry x ≤ sumN mEntry l := sumN_mem (s := mEntry) (List.mem_of_getElem? hx)
    simp [-getElem?_pos, laws_eqEntryS_r0, hx, hi, laws_eqEntry_n x (by omega), wr_succ (show i < 1000000000000000000 by omega)]
  · simp [laws_eqEntryS_r0]) k
structure GZone where
  Chain : List GSigned
  Entries : List GEntry
abbrev eZone (a : GZone) : List PV := [.list 17 (a.Chain.map eSigned), .list 4 (a.Entries.map eEntry)]
def mZone (a : GZone) : Nat := mSignedS a.Chain + (mEntryS a.Entries)
def WZone (a : GZone) : Prop := (a.Chain.length ≤ maxLen ∧ ∀ y ∈ a.Chain, WSigned y) ∧ (a.Entries.length ≤ maxLen ∧ ∀ y ∈ a.Entries, WEntry y)
theorem decZone (r : List PV) (hr : Sh.hasAll [.list [.int .i64, .int .i64, .int .i64, .int .i64, .int .i64, .int .i64, .int .i64, .int .i64, .list [.int .i64], .int .i64, .list [.int .i64], .int .i64, .int .i64, .list [.int .i64], .int .i64, .bool, .list [.int .i64, .int .i64]], .list [.str, .int .i64, .int .i64, .list [.str]]] r) : ∃ a : GZone, r = eZone a ∧ WZone a := by
  obtain ⟨p1, r1, rfl, h1, hr1⟩ := all_cons hr
  obtain ⟨n1, rfl, g1⟩ := decSignedS h1
  obtain ⟨p2, rfl, h2⟩ := all_one hr1
  obtain ⟨n2, rfl, g2⟩ := decEntryS h2
  exact ⟨⟨n1, n2⟩, rfl, ⟨g1, g2⟩⟩
theorem laws_szZone_n (a : GZone) (left : Int) (hw : WZone a) (h2 : 0 ≤ left) (h3 : left ≤ 1048576) (k) : call laws_szZone [.agg (eZone a), .one (I left)] k = k [I (szr (mZone a) left)] := call_of (fun k => by
  obtain ⟨g0, g1⟩ := hw
  unfold mZone
  simp only [laws_szZone, un, cur0, laws_szSignedS_n a.Chain (left) g0 h2 h3, binP_lss, iteP_eq, atP_zero, rt_eq, scs_sc, scs_nil, flat_int, true_and, and_true]
  by_cases c0 : ((mSignedS a.Chain : Nat) : Int) ≤ left
  rotate_left
  · first | (simp [szr_over c0, szr_not c0]; done) | (simp only [szr_over c0, szr_not c0]; simp)
  simp only [szr_yes c0, szr_add c0, show ¬ (left - ((mSignedS a.Chain : Nat) : Int) < 0) by omega, decide_false, Bool.false_eq_true, if_false, laws_szEntryS_n a.Entries (left - ((mSignedS a.Chain : Nat) : Int)) g1 (by omega) (by omega), binP_lss, iteP_eq, atP_zero, rt_eq, scs_sc, scs_nil, flat_int, true_and, and_true]
  by_cases c1 : ((mEntryS a.Entries : Nat) : Int) ≤ left - ((mSignedS a.Chain : Nat) : Int)
  rotate_left
  · first | (simp [szr_not c1, szr_not c1]; done) | (simp only [szr_not c1, szr_not c1]; simp)
  simp only [szr_yes c1, show ¬ (left - ((mSignedS a.Chain : Nat) : Int) - ((mEntryS a.Entries : Nat) : Int) < 0) by omega, decide_false, Bool.false_eq_true, if_false, binP_lss, iteP_eq, atP_zero, rt_eq, scs_sc, scs_nil, flat_int, true_and, and_true]) k
theorem laws_toZone_n (a : GZone) (h : mZone a ≤ 1048576) (k) : call laws_toZone [.agg (eZone a)] k = k (eZone a) := call_of (fun k => by
  unfold mZone at h
  simp [laws_toZone, laws_toSignedS_n a.Chain (by omega), laws_toEntryS_n a.Entries (by omega)]) k
theorem laws_eqZone_n (a : GZone) (h : mZone a ≤ 1048576) (k) : call laws_eqZone [.agg (eZone a), .agg (eZone a)] k = k [.bool true] := call_of (fun k => by
  unfold mZone at h
  simp [laws_eqZone, laws_eqSignedS_n a.Chain (by omega), laws_eqEntryS_n a.Entries (by omega)]) k
structure GAnswer where
  Chain : List GSigned
  Found : Bool
  Entry : GEntry
  Proof : GProof
  Gap : GGap
abbrev eAnswer (a : GAnswer) : List PV := [.list 17 (a.Chain.map eSigned), .bool a.Found, .str a.Entry.Label, I a.Entry.Kind, I a.Entry.Value, strs a.Entry.Path, I a.Proof.At, ints a.Proof.Path, I a.Gap.At, .str a.Gap.Before.Label, I a.Gap.Before.Kind, I a.Gap.Before.Value, strs a.Gap.Before.Path, .str a.Gap.After.Label, I a.Gap.After.Kind, I a.Gap.After.Value, strs a.Gap.After.Path, I a.Gap.Left.At, ints a.Gap.Left.Path, I a.Gap.Right.At, ints a.Gap.Right.Path]
def mAnswer (a : GAnswer) : Nat := mSignedS a.Chain + (mEntry a.Entry + (mProof a.Proof + (mGap a.Gap)))
def WAnswer (a : GAnswer) : Prop := (a.Chain.length ≤ maxLen ∧ ∀ y ∈ a.Chain, WSigned y) ∧ WEntry a.Entry ∧ WProof a.Proof ∧ WGap a.Gap
theorem decAnswer (r : List PV) (hr : Sh.hasAll [.list [.int .i64, .int .i64, .int .i64, .int .i64, .int .i64, .int .i64, .int .i64, .int .i64, .list [.int .i64], .int .i64, .list [.int .i64], .int .i64, .int .i64, .list [.int .i64], .int .i64, .bool, .list [.int .i64, .int .i64]], .bool, .str, .int .i64, .int .i64, .list [.str], .int .i64, .list [.int .i64], .int .i64, .str, .int .i64, .int .i64, .list [.str], .str, .int .i64, .int .i64, .list [.str], .int .i64, .list [.int .i64], .int .i64, .list [.int .i64]] r) : ∃ a : GAnswer, r = eAnswer a ∧ WAnswer a := by
  obtain ⟨p1, r1, rfl, h1, hr1⟩ := all_cons hr
  obtain ⟨n1, rfl, g1⟩ := decSignedS h1
  obtain ⟨p2, r2, rfl, h2, hr2⟩ := all_cons hr1
  obtain ⟨n2, rfl⟩ := has_bool h2
  obtain ⟨p3, r3, rfl, h3, hr3⟩ := all_cons hr2
  obtain ⟨n3, rfl, g3⟩ := has_str h3
  obtain ⟨p4, r4, rfl, h4, hr4⟩ := all_cons hr3
  obtain ⟨n4, rfl⟩ := has_int h4
  obtain ⟨p5, r5, rfl, h5, hr5⟩ := all_cons hr4
  obtain ⟨n5, rfl⟩ := has_int h5
  obtain ⟨p6, r6, rfl, h6, hr6⟩ := all_cons hr5
  obtain ⟨n6, rfl, g6⟩ := has_strs h6
  obtain ⟨p7, r7, rfl, h7, hr7⟩ := all_cons hr6
  obtain ⟨n7, rfl⟩ := has_int h7
  obtain ⟨p8, r8, rfl, h8, hr8⟩ := all_cons hr7
  obtain ⟨n8, rfl, g8⟩ := has_ints h8
  obtain ⟨p9, r9, rfl, h9, hr9⟩ := all_cons hr8
  obtain ⟨n9, rfl⟩ := has_int h9
  obtain ⟨p10, r10, rfl, h10, hr10⟩ := all_cons hr9
  obtain ⟨n10, rfl, g10⟩ := has_str h10
  obtain ⟨p11, r11, rfl, h11, hr11⟩ := all_cons hr10
  obtain ⟨n11, rfl⟩ := has_int h11
  obtain ⟨p12, r12, rfl, h12, hr12⟩ := all_cons hr11
  obtain ⟨n12, rfl⟩ := has_int h12
  obtain ⟨p13, r13, rfl, h13, hr13⟩ := all_cons hr12
  obtain ⟨n13, rfl, g13⟩ := has_strs h13
  obtain ⟨p14, r14, rfl, h14, hr14⟩ := all_cons hr13
  obtain ⟨n14, rfl, g14⟩ := has_str h14
  obtain ⟨p15, r15, rfl, h15, hr15⟩ := all_cons hr14
  obtain ⟨n15, rfl⟩ := has_int h15
  obtain ⟨p16, r16, rfl, h16, hr16⟩ := all_cons hr15
  obtain ⟨n16, rfl⟩ := has_int h16
  obtain ⟨p17, r17, rfl, h17, hr17⟩ := all_cons hr16
  obtain ⟨n17, rfl, g17⟩ := has_strs h17
  obtain ⟨p18, r18, rfl, h18, hr18⟩ := all_cons hr17
  obtain ⟨n18, rfl⟩ := has_int h18
  obtain ⟨p19, r19, rfl, h19, hr19⟩ := all_cons hr18
  obtain ⟨n19, rfl, g19⟩ := has_ints h19
  obtain ⟨p20, r20, rfl, h20, hr20⟩ := all_cons hr19
  obtain ⟨n20, rfl⟩ := has_int h20
  obtain ⟨p21, rfl, h21⟩ := all_one hr20
  obtain ⟨n21, rfl, g21⟩ := has_ints h21
  exact ⟨⟨n1, n2, ⟨n3, n4, n5, n6⟩, ⟨n7, n8⟩, ⟨n9, ⟨n10, n11, n12, n13⟩, ⟨n14, n15, n16, n17⟩, ⟨n18, n19⟩, ⟨n20, n21⟩⟩⟩, rfl, ⟨g1, ⟨g3, g6⟩, g8, ⟨⟨g10, g13⟩, ⟨g14, g17⟩, g19, g21⟩⟩⟩
theorem laws_szAnswer_n (a : GAnswer) (left : Int) (hw : WAnswer a) (h2 : 0 ≤ left) (h3 : left ≤ 1048576) (k) : call laws_szAnswer [.agg (eAnswer a), .one (I left)] k = k [I (szr (mAnswer a) left)] := call_of (fun k => by
  obtain ⟨g0, g1, g2, g3⟩ := hw
  unfold mAnswer
  simp only [laws_szAnswer, un, cur0, laws_szSignedS_n a.Chain (left) g0 h2 h3, binP_lss, iteP_eq, atP_zero, rt_eq, scs_sc, scs_nil, flat_int, true_and, and_true]
  by_cases c0 : ((mSignedS a.Chain : Nat) : Int) ≤ left
  rotate_left
  · first | (simp [szr_over c0, szr_not c0]; done) | (simp only [szr_over c0, szr_not c0]; simp)
  simp only [szr_yes c0, szr_add c0, show ¬ (left - ((mSignedS a.Chain : Nat) : Int) < 0) by omega, decide_false, Bool.false_eq_true, if_false, laws_szEntry_n a.Entry (left - ((mSignedS a.Chain : Nat) : Int)) g1 (by omega) (by omega), binP_lss, iteP_eq, atP_zero, rt_eq, scs_sc, scs_nil, flat_int, true_and, and_true]
  by_cases c1 : ((mEntry a.Entry : Nat) : Int) ≤ left - ((mSignedS a.Chain : Nat) : Int)
  rotate_left
  · first | (simp [szr_over c1, szr_not c1]; done) | (simp only [szr_over c1, szr_not c1]; simp)
  simp only [szr_yes c1, szr_add c1, show ¬ (left - ((mSignedS a.Chain : Nat) : Int) - ((mEntry a.Entry : Nat) : Int) < 0) by omega, decide_false, Bool.false_eq_true, if_false, laws_szProof_n a.Proof (left - ((mSignedS a.Chain : Nat) : Int) - ((mEntry a.Entry : Nat) : Int)) g2 (by omega) (by omega), binP_lss, iteP_eq, atP_zero, rt_eq, scs_sc, scs_nil, flat_int, true_and, and_true]
  by_cases c2 : ((mProof a.Proof : Nat) : Int) ≤ left - ((mSignedS a.Chain : Nat) : Int) - ((mEntry a.Entry : Nat) : Int)
  rotate_left
  · first | (simp [szr_over c2, szr_not c2]; done) | (simp only [szr_over c2, szr_not c2]; simp)
  simp only [szr_yes c2, szr_add c2, show ¬ (left - ((mSignedS a.Chain : Nat) : Int) - ((mEntry a.Entry : Nat) : Int) - ((mProof a.Proof : Nat) : Int) < 0) by omega, decide_false, Bool.false_eq_true, if_false, laws_szGap_n a.Gap (left - ((mSignedS a.Chain : Nat) : Int) - ((mEntry a.Entry : Nat) : Int) - ((mProof a.Proof : Nat) : Int)) g3 (by omega) (by omega), binP_lss, iteP_eq, atP_zero, rt_eq, scs_sc, scs_nil, flat_int, true_and, and_true]
  by_cases c3 : ((mGap a.Gap : Nat) : Int) ≤ left - ((mSignedS a.Chain : Nat) : Int) - ((mEntry a.Entry : Nat) : Int) - ((mProof a.Proof : Nat) : Int)
  rotate_left
  · first | (simp [szr_not c3, szr_not c3]; done) | (simp only [szr_not c3, szr_not c3]; simp)
  simp only [szr_yes c3, show ¬ (left - ((mSignedS a.Chain : Nat) : Int) - ((mEntry a.Entry : Nat) : Int) - ((mProof a.Proof : Nat) : Int) - ((mGap a.Gap : Nat) : Int) < 0) by omega, decide_false, Bool.false_eq_true, if_false, binP_lss, iteP_eq, atP_zero, rt_eq, scs_sc, scs_nil, flat_int, true_and, and_true]) k
theorem laws_toAnswer_n (a : GAnswer) (h : mAnswer a ≤ 1048576) (k) : call laws_toAnswer [.agg (eAnswer a)] k = k (eAnswer a) := call_of (fun k => by
  unfold mAnswer at h
  simp [laws_toAnswer, laws_toSignedS_n a.Chain (by omega), laws_toEntry_n a.Entry (by omega), laws_toProof_n a.Proof (by omega), laws_toGap_n a.Gap (by omega)]) k
theorem laws_eqAnswer_n (a : GAnswer) (h : mAnswer a ≤ 1048576) (k) : call laws_eqAnswer [.agg (eAnswer a), .agg (eAnswer a)] k = k [.bool true] := call_of (fun k => by
  unfold mAnswer at h
  simp [laws_eqAnswer, laws_eqSignedS_n a.Chain (by omega), laws_eqEntry_n a.Entry (by omega), laws_eqProof_n a.Proof (by omega), laws_eqGap_n a.Gap (by omega)]) k
def mSignedSS (l : List (List GSigned)) : Nat := l.length + sumN mSignedS l
theorem decSignedSS {p : PV} (h : Sh.has (.list [.list [.int .i64, .int .i64, .int .i64, .int .i64, .int .i64, .int .i64, .int .i64, .int .i64, .list [.int .i64], .int .i64, .list [.int .i64], .int .i64, .int .i64, .list [.int .i64], .int .i64, .bool, .list [.int .i64, .int .i64]]]) p) : ∃ l : List (List GSigned), p = .list 1 (l.map (fun l : List GSigned => [.list 17 (l.map eSigned)])) ∧ (l.length ≤ maxLen ∧ ∀ y ∈ l, (y.length ≤ maxLen ∧ ∀ z ∈ y, WSigned z)) := by
  obtain ⟨l, h1, h2, h3⟩ := has_map (enc := (fun l : List GSigned => [.list 17 (l.map eSigned)])) (wf := fun y => (y.length ≤ maxLen ∧ ∀ z ∈ y, WSigned z)) (fun r hr => by
    obtain ⟨p, rfl, h⟩ := all_one hr
    obtain ⟨m, rfl, g⟩ := decSignedS h
    exact ⟨m, rfl, g⟩) 1 rfl h
  exact ⟨l, h1, h2, h3⟩
theorem laws_szSignedSS_n (l : List (List GSigned)) (left : Int) (hw : (l.length ≤ maxLen ∧ ∀ y ∈ l, (y.length ≤ maxLen ∧ ∀ z ∈ y, WSigned z))) (h2 : 0 ≤ left) (h3 : left ≤ 1048576) (k) : call laws_szSignedSS [.one (.list 1 (l.map (fun l : List GSigned => [.list 17 (l.map eSigned)]))), .one (I left)] k = k [I (szr (mSignedSS l) left)] := call_of (fun k => by
  simp only [laws_szSignedSS, lenP_eq, List.length_map, binP_sub, wr_left hw.1 h2 h3, binP_lss, iteP_eq, rt_eq, scs_sc, scs_nil, flat_int, true_and, and_true]
  unfold mSignedSS
  by_cases c : (l.length : Int) ≤ left
  rotate_left
  · simp [szr_over c, show left - (l.length : Int) < 0 by omega]
  simp only [szr_add c, show ¬ (left - (l.length : Int) < 0) by omega, decide_false, Bool.false_eq_true, if_false]
  refine (lp_sz (neg := k [I (-1)]) (fin := fun t => k [I t]) l (fun l : List GSigned => [.list 17 (l.map eSigned)]) 1 mSignedS (left - (l.length : Int)) (I 0) (by omega) (by omega) rfl (fun i x hx hi t ht1 ht2 K => ?_) fun t K => ?_).trans ?_
  · have e := laws_szSignedS_n x t (hw.2 x (List.mem_of_getElem? hx)) ht1 ht2
    simp [-getElem?_pos, laws_szSignedSS_r0, hx, hi, e, wr_succ (show i < 1000000000000000000 by omega)]
    by_cases hs : ((mSignedS x : Nat) : Int) ≤ t
    · simp [szr_yes hs, hs, show ¬ (t - ((mSignedS x : Nat) : Int) < 0) by omega]
    · simp [szr_not hs, hs]
  · simp [laws_szSignedSS_r0]
  · by_cases hs : ((sumN mSignedS l : Nat) : Int) ≤ left - (l.length : Int)
    · simp [szr_yes hs, hs]
    · simp [szr_not hs, hs]) k
theorem laws_toSignedSS_n (l : List (List GSigned)) (h : mSignedSS l ≤ 1048576) (k) : call laws_toSignedSS [.one (.list 1 (l.map (fun l : List GSigned => [.list 17 (l.map eSigned)])))] k = k [.list 1 (l.map (fun l : List GSigned => [.list 17 (l.map eSigned)]))] := call_of (fun k => by
  have hm := h
  unfold mSignedSS at hm
  simp [laws_toSignedSS, show l.length < 1073741824 by omega]
  refine lp_toS l (fun l : List GSigned => [.list 17 (l.map eSigned)]) (fun l : List GSigned => [.list 17 (l.map eSigned)]) [.list 17 []] 1 1 (.list 1 []) rfl (fun i x hx hi K rows hr hz => ?_) fun K => ?_
  · have hs : mSignedS x ≤ sumN mSignedS l := sumN_mem (s := mSignedS) (List.mem_of_getElem? hx)
    simp [-getElem?_pos, laws_toSignedSS_r0, hx, hi, hr, hz, over, laws_toSignedS_n x (by omega), wr_succ (show i < 1000000000000000000 by omega)]
  · simp [laws_toSignedSS_r0]) k
theorem laws_eqSignedSS_n (l : List (List GSigned)) (h : mSignedSS l ≤ 1048576) (k) : call laws_eqSignedSS [.one (.list 1 (l.map (fun l : List GSigned => [.list 17 (l.map eSigned)]))), .one (.list 1 (l.map (fun l : List GSigned => [.list 17 (l.map eSigned)])))] k = k [.bool true] := call_of (fun k => by
  have hm := h
  unfold mSignedSS at hm
  simp [laws_eqSignedSS]
  refine lp_eqS l (fun l : List GSigned => [.list 17 (l.map eSigned)]) 1 (.bool false) rfl (fun i x hx hi K => ?_) fun K => ?_
  · have hs : mSignedS x ≤ sumN mSignedS l := sumN_mem (s := mSignedS) (List.mem_of_getElem? hx)
    simp [-getElem?_pos, laws_eqSignedSS_r0, hx, hi, laws_eqSignedS_n x (by omega), wr_succ (show i < 1000000000000000000 by omega)]
  · simp [laws_eqSignedSS_r0]) k
def mForkS (l : List GFork) : Nat := l.length + sumN mFork l
theorem decForkS {p : PV} (h : Sh.has (.list [.int .i64, .int .i64, .int .i64, .int .i64, .int .i64, .int .i64, .int .i64, .int .i64, .list [.int .i64], .int .i64, .list [.int .i64], .int .i64, .int .i64, .list [.int .i64], .int .i64, .bool, .list [.int .i64, .int .i64], .int .i64, .int .i64, .int .i64, .int .i64, .int .i64, .int .i64, .int .i64, .int .i64, .list [.int .i64], .int .i64, .list [.int .i64], .int .i64, .int .i64, .list [.int .i64], .int .i64, .bool, .list [.int .i64, .int .i64], .int .i64, .int .i64, .int .i64, .int .i64, .int .i64, .int .i64, .int .i64, .int .i64, .list [.int .i64], .int .i64, .list [.int .i64], .int .i64, .int .i64, .list [.int .i64], .int .i64, .bool, .list [.int .i64, .int .i64]]) p) : ∃ l : List GFork, p = .list 51 (l.map eFork) ∧ (l.length ≤ maxLen ∧ ∀ y ∈ l, WFork y) := by
  obtain ⟨l, h1, h2, h3⟩ := has_map decFork 51 rfl h
  exact ⟨l, h1, h2, h3⟩
theorem laws_szForkS_n (l : List GFork) (left : Int) (hw : (l.length ≤ maxLen ∧ ∀ y ∈ l, WFork y)) (h2 : 0 ≤ left) (h3 : left ≤ 1048576) (k) : call laws_szForkS [.one (.list 51 (l.map eFork)), .one (I left)] k = k [I (szr (mForkS l) left)] := call_of (fun k => by
  simp only [laws_szForkS, lenP_eq, List.length_map, binP_sub, wr_left hw.1 h2 h3, binP_lss, iteP_eq, rt_eq, scs_sc, scs_nil, flat_int, true_and, and_true]
  unfold mForkS
  by_cases c : (l.length : Int) ≤ left
  rotate_left
  · simp [szr_over c, show left - (l.length : Int) < 0 by omega]
  simp only [szr_add c, show ¬ (left - (l.length : Int) < 0) by omega, decide_false, Bool.false_eq_true, if_false]
  refine (lp_sz (neg := k [I (-1)]) (fin := fun t => k [I t]) l eFork 51 mFork (left - (l.length : Int)) (I 0) (by omega) (by omega) rfl (fun i x hx hi t ht1 ht2 K => ?_) fun t K => ?_).trans ?_
  · have e := laws_szFork_n x t (hw.2 x (List.mem_of_getElem? hx)) ht1 ht2
    simp [-getElem?_pos, laws_szForkS_r0, hx, hi, e, wr_succ (show i < 1000000000000000000 by omega)]
    by_cases hs : ((mFork x : Nat) : Int) ≤ t
    · simp [szr_yes hs, hs, show ¬ (t - ((mFork x : Nat) : Int) < 0) by omega]
    · simp [szr_not hs, hs]
  · simp [laws_szForkS_r0]
  · by_cases hs : ((sumN mFork l : Nat) : Int) ≤ left - (l.length : Int)
    · simp [szr_yes hs, hs]
    · simp [szr_not hs, hs]) k
theorem laws_toForkS_n (l : List GFork) (h : mForkS l ≤ 1048576) (k) : call laws_toForkS [.one (.list 51 (l.map eFork))] k = k [.list 51 (l.map eFork)] := call_of (fun k => by
  have hm := h
  unfold mForkS at hm
  simp [laws_toForkS, show l.length < 1073741824 by omega]
  refine lp_toS l eFork eFork [I 0, I 0, I 0, I 0, I 0, I 0, I 0, I 0, .list 1 [], I 0, .list 1 [], I 0, I 0, .list 1 [], I 0, .bool false, .list 2 [], I 0, I 0, I 0, I 0, I 0, I 0, I 0, I 0, .list 1 [], I 0, .list 1 [], I 0, I 0, .list 1 [], I 0, .bool false, .list 2 [], I 0, I 0, I 0, I 0, I 0, I 0, I 0, I 0, .list 1 [], I 0, .list 1 [], I 0, I 0, .list 1 [], I 0, .bool false, .list 2 []] 51 51 (.list 51 []) rfl (fun i x hx hi K rows hr hz => ?_) fun K => ?_
  · have hs : mFork x ≤ sumN mFork l := sumN_mem (s := mFork) (List.mem_of_getElem? hx)
    simp [-getElem?_pos, laws_toForkS_r0, hx, hi, hr, hz, over, laws_toFork_n x (by omega), wr_succ (show i < 1000000000000000000 by omega)]
  · simp [laws_toForkS_r0]) k
theorem laws_eqForkS_n (l : List GFork) (h : mForkS l ≤ 1048576) (k) : call laws_eqForkS [.one (.list 51 (l.map eFork)), .one (.list 51 (l.map eFork))] k = k [.bool true] := call_of (fun k => by
  have hm := h
  unfold mForkS at hm
  simp [laws_eqForkS]
  refine lp_eqS l eFork 51 (.bool false) rfl (fun i x hx hi K => ?_) fun K => ?_
  · have hs : mFork x ≤ sumN mFork l := sumN_mem (s := mFork) (List.mem_of_getElem? hx)
    simp [-getElem?_pos, laws_eqForkS_r0, hx, hi, laws_eqFork_n x (by omega), wr_succ (show i < 1000000000000000000 by omega)]
  · simp [laws_eqForkS_r0]) k
structure GKnown where
  Chains : List (List GSigned)
  Forks : List GFork
abbrev eKnown (a : GKnown) : List PV := [.list 1 (a.Chains.map (fun l : List GSigned => [.list 17 (l.map eSigned)])), .list 51 (a.Forks.map eFork)]
def mKnown (a : GKnown) : Nat := mSignedSS a.Chains + (mForkS a.Forks)
def WKnown (a : GKnown) : Prop := (a.Chains.length ≤ maxLen ∧ ∀ y ∈ a.Chains, (y.length ≤ maxLen ∧ ∀ z ∈ y, WSigned z)) ∧ (a.Forks.length ≤ maxLen ∧ ∀ y ∈ a.Forks, WFork y)
theorem decKnown (r : List PV) (hr : Sh.hasAll [.list [.list [.int .i64, .int .i64, .int .i64, .int .i64, .int .i64, .int .i64, .int .i64, .int .i64, .list [.int .i64], .int .i64, .list [.int .i64], .int .i64, .int .i64, .list [.int .i64], .int .i64, .bool, .list [.int .i64, .int .i64]]], .list [.int .i64, .int .i64, .int .i64, .int .i64, .int .i64, .int .i64, .int .i64, .int .i64, .list [.int .i64], .int .i64, .list [.int .i64], .int .i64, .int .i64, .list [.int .i64], .int .i64, .bool, .list [.int .i64, .int .i64], .int .i64, .int .i64, .int .i64, .int .i64, .int .i64, .int .i64, .int .i64, .int .i64, .list [.int .i64], .int .i64, .list [.int .i64], .int .i64, .int .i64, .list [.int .i64], .int .i64, .bool, .list [.int .i64, .int .i64], .int .i64, .int .i64, .int .i64, .int .i64, .int .i64, .int .i64, .int .i64, .int .i64, .list [.int .i64], .int .i64, .list [.int .i64], .int .i64, .int .i64, .list [.int .i64], .int .i64, .bool, .list [.int .i64, .int .i64]]] r) : ∃ a : GKnown, r = eKnown a ∧ WKnown a := by
  obtain ⟨p1, r1, rfl, h1, hr1⟩ := all_cons hr
  obtain ⟨n1, rfl, g1⟩ := decSignedSS h1
  obtain ⟨p2, rfl, h2⟩ := all_one hr1
  obtain ⟨n2, rfl, g2⟩ := decForkS h2
  exact ⟨⟨n1, n2⟩, rfl, ⟨g1, g2⟩⟩
theorem laws_szKnown_n (a : GKnown) (left : Int) (hw : WKnown a) (h2 : 0 ≤ left) (h3 : left ≤ 1048576) (k) : call laws_szKnown [.agg (eKnown a), .one (I left)] k = k [I (szr (mKnown a) left)] := call_of (fun k => by
  obtain ⟨g0, g1⟩ := hw
  unfold mKnown
  simp only [laws_szKnown, un, cur0, laws_szSignedSS_n a.Chains (left) g0 h2 h3, binP_lss, iteP_eq, atP_zero, rt_eq, scs_sc, scs_nil, flat_int, true_and, and_true]
  by_cases c0 : ((mSignedSS a.Chains : Nat) : Int) ≤ left
  rotate_left
  · first | (simp [szr_over c0, szr_not c0]; done) | (simp only [szr_over c0, szr_not c0]; simp)
  simp only [szr_yes c0, szr_add c0, show ¬ (left - ((mSignedSS a.Chains : Nat) : Int) < 0) by omega, decide_false, Bool.false_eq_true, if_false, laws_szForkS_n a.Forks (left - ((mSignedSS a.Chains : Nat) : Int)) g1 (by omega) (by omega), binP_lss, iteP_eq, atP_zero, rt_eq, scs_sc, scs_nil, flat_int, true_and, and_true]
  by_cases c1 : ((mForkS a.Forks : Nat) : Int) ≤ left - ((mSignedSS a.Chains : Nat) : Int)
  rotate_left
  · first | (simp [szr_not c1, szr_not c1]; done) | (simp only [szr_not c1, szr_not c1]; simp)
  simp only [szr_yes c1, show ¬ (left - ((mSignedSS a.Chains : Nat) : Int) - ((mForkS a.Forks : Nat) : Int) < 0) by omega, decide_false, Bool.false_eq_true, if_false, binP_lss, iteP_eq, atP_zero, rt_eq, scs_sc, scs_nil, flat_int, true_and, and_true]) k
theorem laws_toKnown_n (a : GKnown) (h : mKnown a ≤ 1048576) (k) : call laws_toKnown [.agg (eKnown a)] k = k (eKnown a) := call_of (fun k => by
  unfold mKnown at h
  simp [laws_toKnown, laws_toSignedSS_n a.Chains (by omega), laws_toForkS_n a.Forks (by omega)]) k
theorem laws_eqKnown_n (a : GKnown) (h : mKnown a ≤ 1048576) (k) : call laws_eqKnown [.agg (eKnown a), .agg (eKnown a)] k = k [.bool true] := call_of (fun k => by
  unfold mKnown at h
  simp [laws_eqKnown, laws_eqSignedSS_n a.Chains (by omega), laws_eqForkS_n a.Forks (by omega)]) k
def mZoneS (l : List GZone) : Nat := l.length + sumN mZone l
theorem decZoneS {p : PV} (h : Sh.has (.list [.list [.int .i64, .int .i64, .int .i64, .int .i64, .int .i64, .int .i64, .int .i64, .int .i64, .list [.int .i64], .int .i64, .list [.int .i64], .int .i64, .int .i64, .list [.int .i64], .int .i64, .bool, .list [.int .i64, .int .i64]], .list [.str, .int .i64, .int .i64, .list [.str]]]) p) : ∃ l : List GZone, p = .list 2 (l.map eZone) ∧ (l.length ≤ maxLen ∧ ∀ y ∈ l, WZone y) := by
  obtain ⟨l, h1, h2, h3⟩ := has_map decZone 2 rfl h
  exact ⟨l, h1, h2, h3⟩
theorem laws_szZoneS_n (l : List GZone) (left : Int) (hw : (l.length ≤ maxLen ∧ ∀ y ∈ l, WZone y)) (h2 : 0 ≤ left) (h3 : left ≤ 1048576) (k) : call laws_szZoneS [.one (.list 2 (l.map eZone)), .one (I left)] k = k [I (szr (mZoneS l) left)] := call_of (fun k => by
  simp only [laws_szZoneS, lenP_eq, List.length_map, binP_sub, wr_left hw.1 h2 h3, binP_lss, iteP_eq, rt_eq, scs_sc, scs_nil, flat_int, true_and, and_true]
  unfold mZoneS
  by_cases c : (l.length : Int) ≤ left
  rotate_left
  · simp [szr_over c, show left - (l.length : Int) < 0 by omega]
  simp only [szr_add c, show ¬ (left - (l.length : Int) < 0) by omega, decide_false, Bool.false_eq_true, if_false]
  refine (lp_sz (neg := k [I (-1)]) (fin := fun t => k [I t]) l eZone 2 mZone (left - (l.length : Int)) (I 0) (by omega) (by omega) rfl (fun i x hx hi t ht1 ht2 K => ?_) fun t K => ?_).trans ?_
  · have e := laws_szZone_n x t (hw.2 x (List.mem_of_getElem? hx)) ht1 ht2
    simp [-getElem?_pos, laws_szZoneS_r0, hx, hi, e, wr_succ (show i < 1000000000000000000 by omega)]
    by_cases hs : ((mZone x : Nat) : Int) ≤ t
    · simp [szr_yes hs, hs, show ¬ (t - ((mZone x : Nat) : Int) < 0) by omega]
    · simp [szr_not hs, hs]
  · simp [laws_szZoneS_r0]
  · by_cases hs : ((sumN mZone l : Nat) : Int) ≤ left - (l.length : Int)
    · simp [szr_yes hs, hs]
    · simp [szr_not hs, hs]) k
theorem laws_toZoneS_n (l : List GZone) (h : mZoneS l ≤ 1048576) (k) : call laws_toZoneS [.one (.list 2 (l.map eZone))] k = k [.list 2 (l.map eZone)] := call_of (fun k => by
  have hm := h
  unfold mZoneS at hm
  simp [laws_toZoneS, show l.length < 1073741824 by omega]
  refine lp_toS l eZone eZone [.list 17 [], .list 4 []] 2 2 (.list 2 []) rfl (fun i x hx hi K rows hr hz => ?_) fun K => ?_
  · have hs : mZone x ≤ sumN mZone l := sumN_mem (s := mZone) (List.mem_of_getElem? hx)
    simp [-getElem?_pos, laws_toZoneS_r0, hx, hi, hr, hz, over, laws_toZone_n x (by omega), wr_succ (show i < 1000000000000000000 by omega)]
  · simp [laws_toZoneS_r0]) k
theorem laws_eqZoneS_n (l : List GZone) (h : mZoneS l ≤ 1048576) (k) : call laws_eqZoneS [.one (.list 2 (l.map eZone)), .one (.list 2 (l.map eZone))] k = k [.bool true] := call_of (fun k => by
  have hm := h
  unfold mZoneS at hm
  simp [laws_eqZoneS]
  refine lp_eqS l eZone 2 (.bool false) rfl (fun i x hx hi K => ?_) fun K => ?_
  · have hs : mZone x ≤ sumN mZone l := sumN_mem (s := mZone) (List.mem_of_getElem? hx)
    simp [-getElem?_pos, laws_eqZoneS_r0, hx, hi, laws_eqZone_n x (by omega), wr_succ (show i < 1000000000000000000 by omega)]
  · simp [laws_eqZoneS_r0]) k
structure GServer where
  Zones : List GZone
  Lie : Int
abbrev eServer (a : GServer) : List PV := [.list 2 (a.Zones.map eZone), I a.Lie]
def mServer (a : GServer) : Nat := mZoneS a.Zones
def WServer (a : GServer) : Prop := (a.Zones.length ≤ maxLen ∧ ∀ y ∈ a.Zones, WZone y)
theorem decServer (r : List PV) (hr : Sh.hasAll [.list [.list [.int .i64, .int .i64, .int .i64, .int .i64, .int .i64, .int .i64, .int .i64, .int .i64, .list [.int .i64], .int .i64, .list [.int .i64], .int .i64, .int .i64, .list [.int .i64], .int .i64, .bool, .list [.int .i64, .int .i64]], .list [.str, .int .i64, .int .i64, .list [.str]]], .int .i64] r) : ∃ a : GServer, r = eServer a ∧ WServer a := by
  obtain ⟨p1, r1, rfl, h1, hr1⟩ := all_cons hr
  obtain ⟨n1, rfl, g1⟩ := decZoneS h1
  obtain ⟨p2, rfl, h2⟩ := all_one hr1
  obtain ⟨n2, rfl⟩ := has_int h2
  exact ⟨⟨n1, n2⟩, rfl, g1⟩
theorem laws_szServer_n (a : GServer) (left : Int) (hw : WServer a) (h2 : 0 ≤ left) (h3 : left ≤ 1048576) (k) : call laws_szServer [.agg (eServer a), .one (I left)] k = k [I (szr (mServer a) left)] := call_of (fun k => by
  have g0 := hw
  unfold mServer
  simp only [laws_szServer, un, cur0, laws_szZoneS_n a.Zones (left) g0 h2 h3, binP_lss, iteP_eq, atP_zero, rt_eq, scs_sc, scs_nil, flat_int, true_and, and_true]
  by_cases c0 : ((mZoneS a.Zones : Nat) : Int) ≤ left
  rotate_left
  · first | (simp [szr_not c0, szr_not c0]; done) | (simp only [szr_not c0, szr_not c0]; simp)
  simp only [szr_yes c0, show ¬ (left - ((mZoneS a.Zones : Nat) : Int) < 0) by omega, decide_false, Bool.false_eq_true, if_false, binP_lss, iteP_eq, atP_zero, rt_eq, scs_sc, scs_nil, flat_int, true_and, and_true]) k
theorem laws_toServer_n (a : GServer) (h : mServer a ≤ 1048576) (k) : call laws_toServer [.agg (eServer a)] k = k (eServer a) := call_of (fun k => by
  unfold mServer at h
  simp [laws_toServer, laws_toZoneS_n a.Zones (by omega)]) k
theorem laws_eqServer_n (a : GServer) (h : mServer a ≤ 1048576) (k) : call laws_eqServer [.agg (eServer a), .agg (eServer a)] k = k [.bool true] := call_of (fun k => by
  unfold mServer at h
  simp [laws_eqServer, laws_eqZoneS_n a.Zones (by omega)]) k
structure GStored where
  Zone : Int
  Label : ByteArray
  Answer : GAnswer
abbrev eStored (a : GStored) : List PV := [I a.Zone, .str a.Label, .list 17 (a.Answer.Chain.map eSigned), .bool a.Answer.Found, .str a.Answer.Entry.Label, I a.Answer.Entry.Kind, I a.Answer.Entry.Value, strs a.Answer.Entry.Path, I a.Answer.Proof.At, ints a.Answer.Proof.Path, I a.Answer.Gap.At, .str a.Answer.Gap.Before.Label, I a.Answer.Gap.Before.Kind, I a.Answer.Gap.Before.Value, strs a.Answer.Gap.Before.Path, .str a.Answer.Gap.After.Label, I a.Answer.Gap.After.Kind, I a.Answer.Gap.After.Value, strs a.Answer.Gap.After.Path, I a.Answer.Gap.Left.At, ints a.Answer.Gap.Left.Path, I a.Answer.Gap.Right.At, ints a.Answer.Gap.Right.Path]
def mStored (a : GStored) : Nat := a.Label.size + (mAnswer a.Answer)
def WStored (a : GStored) : Prop := a.Label.size ≤ maxLen ∧ WAnswer a.Answer
theorem decStored (r : List PV) (hr : Sh.hasAll [.int .i64, .str, .list [.int .i64, .int .i64, .int .i64, .int .i64, .int .i64, .int .i64, .int .i64, .int .i64, .list [.int .i64], .int .i64, .list [.int .i64], .int .i64, .int .i64, .list [.int .i64], .int .i64, .bool, .list [.int .i64, .int .i64]], .bool, .str, .int .i64, .int .i64, .list [.str], .int .i64, .list [.int .i64], .int .i64, .str, .int .i64, .int .i64, .list [.str], .str, .int .i64, .int .i64, .list [.str], .int .i64, .list [.int .i64], .int .i64, .list [.int .i64]] r) : ∃ a : GStored, r = eStored a ∧ WStored a := by
  obtain ⟨p1, r1, rfl, h1, hr1⟩ := all_cons hr
  obtain ⟨n1, rfl⟩ := has_int h1
  obtain ⟨p2, r2, rfl, h2, hr2⟩ := all_cons hr1
  obtain ⟨n2, rfl, g2⟩ := has_str h2
  obtain ⟨p3, r3, rfl, h3, hr3⟩ := all_cons hr2
  obtain ⟨n3, rfl, g3⟩ := decSignedS h3
  obtain ⟨p4, r4, rfl, h4, hr4⟩ := all_cons hr3
  obtain ⟨n4, rfl⟩ := has_bool h4
  obtain ⟨p5, r5, rfl, h5, hr5⟩ := all_cons hr4
  obtain ⟨n5, rfl, g5⟩ := has_str h5
  obtain ⟨p6, r6, rfl, h6, hr6⟩ := all_cons hr5
  obtain ⟨n6, rfl⟩ := has_int h6
  obtain ⟨p7, r7, rfl, h7, hr7⟩ := all_cons hr6
  obtain ⟨n7, rfl⟩ := has_int h7
  obtain ⟨p8, r8, rfl, h8, hr8⟩ := all_cons hr7
  obtain ⟨n8, rfl, g8⟩ := has_strs h8
  obtain ⟨p9, r9, rfl, h9, hr9⟩ := all_cons hr8
  obtain ⟨n9, rfl⟩ := has_int h9
  obtain ⟨p10, r10, rfl, h10, hr10⟩ := all_cons hr9
  obtain ⟨n10, rfl, g10⟩ := has_ints h10
  obtain ⟨p11, r11, rfl, h11, hr11⟩ := all_cons hr10
  obtain ⟨n11, rfl⟩ := has_int h11
  obtain ⟨p12, r12, rfl, h12, hr12⟩ := all_cons hr11
  obtain ⟨n12, rfl, g12⟩ := has_str h12
  obtain ⟨p13, r13, rfl, h13, hr13⟩ := all_cons hr12
  obtain ⟨n13, rfl⟩ := has_int h13
  obtain ⟨p14, r14, rfl, h14, hr14⟩ := all_cons hr13
  obtain ⟨n14, rfl⟩ := has_int h14
  obtain ⟨p15, r15, rfl, h15, hr15⟩ := all_cons hr14
  obtain ⟨n15, rfl, g15⟩ := has_strs h15
  obtain ⟨p16, r16, rfl, h16, hr16⟩ := all_cons hr15
  obtain ⟨n16, rfl, g16⟩ := has_str h16
  obtain ⟨p17, r17, rfl, h17, hr17⟩ := all_cons hr16
  obtain ⟨n17, rfl⟩ := has_int h17
  obtain ⟨p18, r18, rfl, h18, hr18⟩ := all_cons hr17
  obtain ⟨n18, rfl⟩ := has_int h18
  obtain ⟨p19, r19, rfl, h19, hr19⟩ := all_cons hr18
  obtain ⟨n19, rfl, g19⟩ := has_strs h19
  obtain ⟨p20, r20, rfl, h20, hr20⟩ := all_cons hr19
  obtain ⟨n20, rfl⟩ := has_int h20
  obtain ⟨p21, r21, rfl, h21, hr21⟩ := all_cons hr20
  obtain ⟨n21, rfl, g21⟩ := has_ints h21
  obtain ⟨p22, r22, rfl, h22, hr22⟩ := all_cons hr21
  obtain ⟨n22, rfl⟩ := has_int h22
  obtain ⟨p23, rfl, h23⟩ := all_one hr22
  obtain ⟨n23, rfl, g23⟩ := has_ints h23
  exact ⟨⟨n1, n2, ⟨n3, n4, ⟨n5, n6, n7, n8⟩, ⟨n9, n10⟩, ⟨n11, ⟨n12, n13, n14, n15⟩, ⟨n16, n17, n18, n19⟩, ⟨n20, n21⟩, ⟨n22, n23⟩⟩⟩⟩, rfl, ⟨g2, ⟨g3, ⟨g5, g8⟩, g10, ⟨⟨g12, g15⟩, ⟨g16, g19⟩, g21, g23⟩⟩⟩⟩
theorem laws_szStored_n (a : GStored) (left : Int) (hw : WStored a) (h2 : 0 ≤ left) (h3 : left ≤ 1048576) (k) : call laws_szStored [.agg (eStored a), .one (I left)] k = k [I (szr (mStored a) left)] := call_of (fun k => by
  obtain ⟨g0, g1⟩ := hw
  unfold mStored
  simp only [laws_szStored, un, cur0, lenS_eq, binP_sub, wr_left (left := left) g0 h2 h3, binP_lss, iteP_eq, atP_zero, rt_eq, scs_sc, scs_nil, flat_int, true_and, and_true]
  by_cases c0 : ((a.Label.size : Nat) : Int) ≤ left
  rotate_left
  · first | (simp [szr_over c0, show left - ((a.Label.size : Nat) : Int) < 0 by omega]; done) | (simp only [szr_over c0, show left - ((a.Label.size : Nat) : Int) < 0 by omega]; simp)
  simp only [szr_yes c0, szr_add c0, show ¬ (left - ((a.Label.size : Nat) : Int) < 0) by omega, decide_false, Bool.false_eq_true, if_false, laws_szAnswer_n a.Answer (left - ((a.Label.size : Nat) : Int)) g1 (by omega) (by omega), binP_lss, iteP_eq, atP_zero, rt_eq, scs_sc, scs_nil, flat_int, true_and, and_true]
  by_cases c1 : ((mAnswer a.Answer : Nat) : Int) ≤ left - ((a.Label.size : Nat) : Int)
  rotate_left
  · first | (simp [szr_not c1, szr_not c1]; done) | (simp only [szr_not c1, szr_not c1]; simp)
  simp only [szr_yes c1, show ¬ (left - ((a.Label.size : Nat) : Int) - ((mAnswer a.Answer : Nat) : Int) < 0) by omega, decide_false, Bool.false_eq_true, if_false, binP_lss, iteP_eq, atP_zero, rt_eq, scs_sc, scs_nil, flat_int, true_and, and_true]) k
theorem laws_toStored_n (a : GStored) (h : mStored a ≤ 1048576) (k) : call laws_toStored [.agg (eStored a)] k = k (eStored a) := call_of (fun k => by
  unfold mStored at h
  simp [laws_toStored, laws_toAnswer_n a.Answer (by omega)]) k
theorem laws_eqStored_n (a : GStored) (h : mStored a ≤ 1048576) (k) : call laws_eqStored [.agg (eStored a), .agg (eStored a)] k = k [.bool true] := call_of (fun k => by
  unfold mStored at h
  simp [laws_eqStored, laws_eqAnswer_n a.Answer (by omega)]) k
def mStoredS (l : List GStored) : Nat := l.length + sumN mStored l
theorem decStoredS {p : PV} (h : Sh.has (.list [.int .i64, .str, .list [.int .i64, .int .i64, .int .i64, .int .i64, .int .i64, .int .i64, .int .i64, .int .i64, .list [.int .i64], .int .i64, .list [.int .i64], .int .i64, .int .i64, .list [.int .i64], .int .i64, .bool, .list [.int .i64, .int .i64]], .bool, .str, .int .i64, .int .i64, .list [.str], .int .i64, .list [.int .i64], .int .i64, .str, .int .i64, .int .i64, .list [.str], .str, .int .i64, .int .i64, .list [.str], .int .i64, .list [.int .i64], .int .i64, .list [.int .i64]]) p) : ∃ l : List GStored, p = .list 23 (l.map eStored) ∧ (l.length ≤ maxLen ∧ ∀ y ∈ l, WStored y) := by
  obtain ⟨l, h1, h2, h3⟩ := has_map decStored 23 rfl h
  exact ⟨l, h1, h2, h3⟩
theorem laws_szStoredS_n (l : List GStored) (left : Int) (hw : (l.length ≤ maxLen ∧ ∀ y ∈ l, WStored y)) (h2 : 0 ≤ left) (h3 : left ≤ 1048576) (k) : call laws_szStoredS [.one (.list 23 (l.map eStored)), .one (I left)] k = k [I (szr (mStoredS l) left)] := call_of (fun k => by
  simp only [laws_szStoredS, lenP_eq, List.length_map, binP_sub, wr_left hw.1 h2 h3, binP_lss, iteP_eq, rt_eq, scs_sc, scs_nil, flat_int, true_and, and_true]
  unfold mStoredS
  by_cases c : (l.length : Int) ≤ left
  rotate_left
  · simp [szr_over c, show left - (l.length : Int) < 0 by omega]
  simp only [szr_add c, show ¬ (left - (l.length : Int) < 0) by omega, decide_false, Bool.false_eq_true, if_false]
  refine (lp_sz (neg := k [I (-1)]) (fin := fun t => k [I t]) l eStored 23 mStored (left - (l.length : Int)) (I 0) (by omega) (by omega) rfl (fun i x hx hi t ht1 ht2 K => ?_) fun t K => ?_).trans ?_
  · have e := laws_szStored_n x t (hw.2 x (List.mem_of_getElem? hx)) ht1 ht2
    simp [-getElem?_pos, laws_szStoredS_r0, hx, hi, e, wr_succ (show i < 1000000000000000000 by omega)]
    by_cases hs : ((mStored x : Nat) : Int) ≤ t
    · simp [szr_yes hs, hs, show ¬ (t - ((mStored x : Nat) : Int) < 0) by omega]
    · simp [szr_not hs, hs]
  · simp [laws_szStoredS_r0]
  · by_cases hs : ((sumN mStored l : Nat) : Int) ≤ left - (l.length : Int)
    · simp [szr_yes hs, hs]
    · simp [szr_not hs, hs]) k
theorem laws_toStoredS_n (l : List GStored) (h : mStoredS l ≤ 1048576) (k) : call laws_toStoredS [.one (.list 23 (l.map eStored))] k = k [.list 23 (l.map eStored)] := call_of (fun k => by
  have hm := h
  unfold mStoredS at hm
  simp [laws_toStoredS, show l.length < 1073741824 by omega]
  refine lp_toS l eStored eStored [I 0, .str ⟨#[]⟩, .list 17 [], .bool false, .str ⟨#[]⟩, I 0, I 0, .list 1 [], I 0, .list 1 [], I 0, .str ⟨#[]⟩, I 0, I 0, .list 1 [], .str ⟨#[]⟩, I 0, I 0, .list 1 [], I 0, .list 1 [], I 0, .list 1 []] 23 23 (.list 23 []) rfl (fun i x hx hi K rows hr hz => ?_) fun K => ?_
  · have hs : mStored x ≤ sumN mStored l := sumN_mem (s := mStored) (List.mem_of_getElem? hx)
    simp [-getElem?_pos, laws_toStoredS_r0, hx, hi, hr, hz, over, laws_toStored_n x (by omega), wr_succ (show i < 1000000000000000000 by omega)]
  · simp [laws_toStoredS_r0]) k
theorem laws_eqStoredS_n (l : List GStored) (h : mStoredS l ≤ 1048576) (k) : call laws_eqStoredS [.one (.list 23 (l.map eStored)), .one (.list 23 (l.map eStored))] k = k [.bool true] := call_of (fun k => by
  have hm := h
  unfold mStoredS at hm
  simp [laws_eqStoredS]
  refine lp_eqS l eStored 23 (.bool false) rfl (fun i x hx hi K => ?_) fun K => ?_
  · have hs : mStored x ≤ sumN mStored l := sumN_mem (s := mStored) (List.mem_of_getElem? hx)
    simp [-getElem?_pos, laws_eqStoredS_r0, hx, hi, laws_eqStored_n x (by omega), wr_succ (show i < 1000000000000000000 by omega)]
  · simp [laws_eqStoredS_r0]) k
structure GCache where
  Lst : List GStored
abbrev eCache (a : GCache) : List PV := [.list 23 (a.Lst.map eStored)]
def mCache (a : GCache) : Nat := mStoredS a.Lst
def WCache (a : GCache) : Prop := (a.Lst.length ≤ maxLen ∧ ∀ y ∈ a.Lst, WStored y)
theorem decCache (r : List PV) (hr : Sh.hasAll [.list [.int .i64, .str, .list [.int .i64, .int .i64, .int .i64, .int .i64, .int .i64, .int .i64, .int .i64, .int .i64, .list [.int .i64], .int .i64, .list [.int .i64], .int .i64, .int .i64, .list [.int .i64], .int .i64, .bool, .list [.int .i64, .int .i64]], .bool, .str, .int .i64, .int .i64, .list [.str], .int .i64, .list [.int .i64], .int .i64, .str, .int .i64, .int .i64, .list [.str], .str, .int .i64, .int .i64, .list [.str], .int .i64, .list [.int .i64], .int .i64, .list [.int .i64]]] r) : ∃ a : GCache, r = eCache a ∧ WCache a := by
  obtain ⟨p1, rfl, h1⟩ := all_one hr
  obtain ⟨n1, rfl, g1⟩ := decStoredS h1
  exact ⟨⟨n1⟩, rfl, g1⟩
theorem laws_szCache_n (a : GCache) (left : Int) (hw : WCache a) (h2 : 0 ≤ left) (h3 : left ≤ 1048576) (k) : call laws_szCache [.agg (eCache a), .one (I left)] k = k [I (szr (mCache a) left)] := call_of (fun k => by
  have g0 := hw
  unfold mCache
  simp only [laws_szCache, un, cur0, laws_szStoredS_n a.Lst (left) g0 h2 h3, binP_lss, iteP_eq, atP_zero, rt_eq, scs_sc, scs_nil, flat_int, true_and, and_true]
  by_cases c0 : ((mStoredS a.Lst : Nat) : Int) ≤ left
  rotate_left
  · first | (simp [szr_not c0, szr_not c0]; done) | (simp only [szr_not c0, szr_not c0]; simp)
  simp only [szr_yes c0, show ¬ (left - ((mStoredS a.Lst : Nat) : Int) < 0) by omega, decide_false, Bool.false_eq_true, if_false, binP_lss, iteP_eq, atP_zero, rt_eq, scs_sc, scs_nil, flat_int, true_and, and_true]) k
theorem laws_toCache_n (a : GCache) (h : mCache a ≤ 1048576) (k) : call laws_toCache [.agg (eCache a)] k = k (eCache a) := call_of (fun k => by
  unfold mCache at h
  simp [laws_toCache, laws_toStoredS_n a.Lst (by omega)]) k
theorem laws_eqCache_n (a : GCache) (h : mCache a ≤ 1048576) (k) : call laws_eqCache [.agg (eCache a), .agg (eCache a)] k = k [.bool true] := call_of (fun k => by
  unfold mCache at h
  simp [laws_eqCache, laws_eqStoredS_n a.Lst (by omega)]) k
structure GActor where
  Held : List Int
abbrev eActor (a : GActor) : List PV := [ints a.Held]
def mActor (a : GActor) : Nat := a.Held.length
def WActor (a : GActor) : Prop := a.Held.length ≤ maxLen
theorem decActor (r : List PV) (hr : Sh.hasAll [.list [.int .i64]] r) : ∃ a : GActor, r = eActor a ∧ WActor a := by
  obtain ⟨p1, rfl, h1⟩ := all_one hr
  obtain ⟨n1, rfl, g1⟩ := has_ints h1
  exact ⟨⟨n1⟩, rfl, g1⟩
theorem laws_szActor_n (a : GActor) (left : Int) (hw : WActor a) (h2 : 0 ≤ left) (h3 : left ≤ 1048576) (k) : call laws_szActor [.agg (eActor a), .one (I left)] k = k [I (szr (mActor a) left)] := call_of (fun k => by
  have g0 := hw
  unfold mActor
  simp only [laws_szActor, un, cur0, laws_szIntS_n a.Held (left) g0 h2 h3, binP_lss, iteP_eq, atP_zero, rt_eq, scs_sc, scs_nil, flat_int, true_and, and_true]
  by_cases c0 : ((a.Held.length : Nat) : Int) ≤ left
  rotate_left
  · first | (simp [szr_not c0, szr_not c0]; done) | (simp only [szr_not c0, szr_not c0]; simp)
  simp only [szr_yes c0, show ¬ (left - ((a.Held.length : Nat) : Int) < 0) by omega, decide_false, Bool.false_eq_true, if_false, binP_lss, iteP_eq, atP_zero, rt_eq, scs_sc, scs_nil, flat_int, true_and, and_true]) k
theorem laws_toActor_n (a : GActor) (h : mActor a ≤ 1048576) (k) : call laws_toActor [.agg (eActor a)] k = k (eActor a) := call_of (fun k => by
  unfold mActor at h
  simp [laws_toActor, laws_toIntS_n a.Held (by omega)]) k
theorem laws_eqActor_n (a : GActor) (h : mActor a ≤ 1048576) (k) : call laws_eqActor [.agg (eActor a), .agg (eActor a)] k = k [.bool true] := call_of (fun k => by
  unfold mActor at h
  simp [laws_eqActor, laws_eqIntS_n a.Held (by omega)]) k
structure GSaid where
  Zone : GZone
  Held : List Int
abbrev eSaid (a : GSaid) : List PV := [.list 17 (a.Zone.Chain.map eSigned), .list 4 (a.Zone.Entries.map eEntry), ints a.Held]
def mSaid (a : GSaid) : Nat := mZone a.Zone + (a.Held.length)
def WSaid (a : GSaid) : Prop := WZone a.Zone ∧ a.Held.length ≤ maxLen
theorem decSaid (r : List PV) (hr : Sh.hasAll [.list [.int .i64, .int .i64, .int .i64, .int .i64, .int .i64, .int .i64, .int .i64, .int .i64, .list [.int .i64], .int .i64, .list [.int .i64], .int .i64, .int .i64, .list [.int .i64], .int .i64, .bool, .list [.int .i64, .int .i64]], .list [.str, .int .i64, .int .i64, .list [.str]], .list [.int .i64]] r) : ∃ a : GSaid, r = eSaid a ∧ WSaid a := by
  obtain ⟨p1, r1, rfl, h1, hr1⟩ := all_cons hr
  obtain ⟨n1, rfl, g1⟩ := decSignedS h1
  obtain ⟨p2, r2, rfl, h2, hr2⟩ := all_cons hr1
  obtain ⟨n2, rfl, g2⟩ := decEntryS h2
  obtain ⟨p3, rfl, h3⟩ := all_one hr2
  obtain ⟨n3, rfl, g3⟩ := has_ints h3
  exact ⟨⟨⟨n1, n2⟩, n3⟩, rfl, ⟨⟨g1, g2⟩, g3⟩⟩
theorem laws_szSaid_n (a : GSaid) (left : Int) (hw : WSaid a) (h2 : 0 ≤ left) (h3 : left ≤ 1048576) (k) : call laws_szSaid [.agg (eSaid a), .one (I left)] k = k [I (szr (mSaid a) left)] := call_of (fun k => by
  obtain ⟨g0, g1⟩ := hw
  unfold mSaid
  simp only [laws_szSaid, un, cur0, laws_szZone_n a.Zone (left) g0 h2 h3, binP_lss, iteP_eq, atP_zero, rt_eq, scs_sc, scs_nil, flat_int, true_and, and_true]
  by_cases c0 : ((mZone a.Zone : Nat) : Int) ≤ left
  rotate_left
  · first | (simp [szr_over c0, szr_not c0]; done) | (simp only [szr_over c0, szr_not c0]; simp)
  simp only [szr_yes c0, szr_add c0, show ¬ (left - ((mZone a.Zone : Nat) : Int) < 0) by omega, decide_false, Bool.false_eq_true, if_false, laws_szIntS_n a.Held (left - ((mZone a.Zone : Nat) : Int)) g1 (by omega) (by omega), binP_lss, iteP_eq, atP_zero, rt_eq, scs_sc, scs_nil, flat_int, true_and, and_true]
  by_cases c1 : ((a.Held.length : Nat) : Int) ≤ left - ((mZone a.Zone : Nat) : Int)
  rotate_left
  · first | (simp [szr_not c1, szr_not c1]; done) | (simp only [szr_not c1, szr_not c1]; simp)
  simp only [szr_yes c1, show ¬ (left - ((mZone a.Zone : Nat) : Int) - ((a.Held.length : Nat) : Int) < 0) by omega, decide_false, Bool.false_eq_true, if_false, binP_lss, iteP_eq, atP_zero, rt_eq, scs_sc, scs_nil, flat_int, true_and, and_true]) k
theorem laws_toSaid_n (a : GSaid) (h : mSaid a ≤ 1048576) (k) : call laws_toSaid [.agg (eSaid a)] k = k (eSaid a) := call_of (fun k => by
  unfold mSaid at h
  simp [laws_toSaid, laws_toZone_n a.Zone (by omega), laws_toIntS_n a.Held (by omega)]) k
theorem laws_eqSaid_n (a : GSaid) (h : mSaid a ≤ 1048576) (k) : call laws_eqSaid [.agg (eSaid a), .agg (eSaid a)] k = k [.bool true] := call_of (fun k => by
  unfold mSaid at h
  simp [laws_eqSaid, laws_eqZone_n a.Zone (by omega), laws_eqIntS_n a.Held (by omega)]) k
def mActorS (l : List GActor) : Nat := l.length + sumN mActor l
theorem decActorS {p : PV} (h : Sh.has (.list [.list [.int .i64]]) p) : ∃ l : List GActor, p = .list 1 (l.map eActor) ∧ (l.length ≤ maxLen ∧ ∀ y ∈ l, WActor y) := by
  obtain ⟨l, h1, h2, h3⟩ := has_map decActor 1 rfl h
  exact ⟨l, h1, h2, h3⟩
theorem laws_szActorS_n (l : List GActor) (left : Int) (hw : (l.length ≤ maxLen ∧ ∀ y ∈ l, WActor y)) (h2 : 0 ≤ left) (h3 : left ≤ 1048576) (k) : call laws_szActorS [.one (.list 1 (l.map eActor)), .one (I left)] k = k [I (szr (mActorS l) left)] := call_of (fun k => by
  simp only [laws_szActorS, lenP_eq, List.length_map, binP_sub, wr_left hw.1 h2 h3, binP_lss, iteP_eq, rt_eq, scs_sc, scs_nil, flat_int, true_and, and_true]
  unfold mActorS
  by_cases c : (l.length : Int) ≤ left
  rotate_left
  · simp [szr_over c, show left - (l.length : Int) < 0 by omega]
  simp only [szr_add c, show ¬ (left - (l.length : Int) < 0) by omega, decide_false, Bool.false_eq_true, if_false]
  refine (lp_sz (neg := k [I (-1)]) (fin := fun t => k [I t]) l eActor 1 mActor (left - (l.length : Int)) (I 0) (by omega) (by omega) rfl (fun i x hx hi t ht1 ht2 K => ?_) fun t K => ?_).trans ?_
  · have e := laws_szActor_n x t (hw.2 x (List.mem_of_getElem? hx)) ht1 ht2
    simp [-getElem?_pos, laws_szActorS_r0, hx, hi, e, wr_succ (show i < 1000000000000000000 by omega)]
    by_cases hs : ((mActor x : Nat) : Int) ≤ t
    · simp [szr_yes hs, hs, show ¬ (t - ((mActor x : Nat) : Int) < 0) by omega]
    · simp [szr_not hs, hs]
  · simp [laws_szActorS_r0]
  · by_cases hs : ((sumN mActor l : Nat) : Int) ≤ left - (l.length : Int)
    · simp [szr_yes hs, hs]
    · simp [szr_not hs, hs]) k
theorem laws_toActorS_n (l : List GActor) (h : mActorS l ≤ 1048576) (k) : call laws_toActorS [.one (.list 1 (l.map eActor))] k = k [.list 1 (l.map eActor)] := call_of (fun k => by
  have hm := h
  unfold mActorS at hm
  simp [laws_toActorS, show l.length < 1073741824 by omega]
  refine lp_toS l eActor eActor [.list 1 []] 1 1 (.list 1 []) rfl (fun i x hx hi K rows hr hz => ?_) fun K => ?_
  · have hs : mActor x ≤ sumN mActor l := sumN_mem (s := mActor) (List.mem_of_getElem? hx)
    simp [-getElem?_pos, laws_toActorS_r0, hx, hi, hr, hz, over, laws_toActor_n x (by omega), wr_succ (show i < 1000000000000000000 by omega)]
  · simp [laws_toActorS_r0]) k
theorem laws_eqActorS_n (l : List GActor) (h : mActorS l ≤ 1048576) (k) : call laws_eqActorS [.one (.list 1 (l.map eActor)), .one (.list 1 (l.map eActor))] k = k [.bool true] := call_of (fun k => by
  have hm := h
  unfold mActorS at hm
  simp [laws_eqActorS]
  refine lp_eqS l eActor 1 (.bool false) rfl (fun i x hx hi K => ?_) fun K => ?_
  · have hs : mActor x ≤ sumN mActor l := sumN_mem (s := mActor) (List.mem_of_getElem? hx)
    simp [-getElem?_pos, laws_eqActorS_r0, hx, hi, laws_eqActor_n x (by omega), wr_succ (show i < 1000000000000000000 by omega)]
  · simp [laws_eqActorS_r0]) k
def mSaidS (l : List GSaid) : Nat := l.length + sumN mSaid l
theorem decSaidS {p : PV} (h : Sh.has (.list [.list [.int .i64, .int .i64, .int .i64, .int .i64, .int .i64, .int .i64, .int .i64, .int .i64, .list [.int .i64], .int .i64, .list [.int .i64], .int .i64, .int .i64, .list [.int .i64], .int .i64, .bool, .list [.int .i64, .int .i64]], .list [.str, .int .i64, .int .i64, .list [.str]], .list [.int .i64]]) p) : ∃ l : List GSaid, p = .list 3 (l.map eSaid) ∧ (l.length ≤ maxLen ∧ ∀ y ∈ l, WSaid y) := by
  obtain ⟨l, h1, h2, h3⟩ := has_map decSaid 3 rfl h
  exact ⟨l, h1, h2, h3⟩
theorem laws_szSaidS_n (l : List GSaid) (left : Int) (hw : (l.length ≤ maxLen ∧ ∀ y ∈ l, WSaid y)) (h2 : 0 ≤ left) (h3 : left ≤ 1048576) (k) : call laws_szSaidS [.one (.list 3 (l.map eSaid)), .one (I left)] k = k [I (szr (mSaidS l) left)] := call_of (fun k => by
  simp only [laws_szSaidS, lenP_eq, List.length_map, binP_sub, wr_left hw.1 h2 h3, binP_lss, iteP_eq, rt_eq, scs_sc, scs_nil, flat_int, true_and, and_true]
  unfold mSaidS
  by_cases c : (l.length : Int) ≤ left
  rotate_left
  · simp [szr_over c, show left - (l.length : Int) < 0 by omega]
  simp only [szr_add c, show ¬ (left - (l.length : Int) < 0) by omega, decide_false, Bool.false_eq_true, if_false]
  refine (lp_sz (neg := k [I (-1)]) (fin := fun t => k [I t]) l eSaid 3 mSaid (left - (l.length : Int)) (I 0) (by omega) (by omega) rfl (fun i x hx hi t ht1 ht2 K => ?_) fun t K => ?_).trans ?_
  · have e := laws_szSaid_n x t (hw.2 x (List.mem_of_getElem? hx)) ht1 ht2
    simp [-getElem?_pos, laws_szSaidS_r0, hx, hi, e, wr_succ (show i < 1000000000000000000 by omega)]
    by_cases hs : ((mSaid x : Nat) : Int) ≤ t
    · simp [szr_yes hs, hs, show ¬ (t - ((mSaid x : Nat) : Int) < 0) by omega]
    · simp [szr_not hs, hs]
  · simp [laws_szSaidS_r0]
  · by_cases hs : ((sumN mSaid l : Nat) : Int) ≤ left - (l.length : Int)
    · simp [szr_yes hs, hs]
    · simp [szr_not hs, hs]) k
theorem laws_toSaidS_n (l : List GSaid) (h : mSaidS l ≤ 1048576) (k) : call laws_toSaidS [.one (.list 3 (l.map eSaid))] k = k [.list 3 (l.map eSaid)] := call_of (fun k => by
  have hm := h
  unfold mSaidS at hm
  simp [laws_toSaidS, show l.length < 1073741824 by omega]
  refine lp_toS l eSaid eSaid [.list 17 [], .list 4 [], .list 1 []] 3 3 (.list 3 []) rfl (fun i x hx hi K rows hr hz => ?_) fun K => ?_
  · have hs : mSaid x ≤ sumN mSaid l := sumN_mem (s := mSaid) (List.mem_of_getElem? hx)
    simp [-getElem?_pos, laws_toSaidS_r0, hx, hi, hr, hz, over, laws_toSaid_n x (by omega), wr_succ (show i < 1000000000000000000 by omega)]
  · simp [laws_toSaidS_r0]) k
theorem laws_eqSaidS_n (l : List GSaid) (h : mSaidS l ≤ 1048576) (k) : call laws_eqSaidS [.one (.list 3 (l.map eSaid)), .one (.list 3 (l.map eSaid))] k = k [.bool true] := call_of (fun k => by
  have hm := h
  unfold mSaidS at hm
  simp [laws_eqSaidS]
  refine lp_eqS l eSaid 3 (.bool false) rfl (fun i x hx hi K => ?_) fun K => ?_
  · have hs : mSaid x ≤ sumN mSaid l := sumN_mem (s := mSaid) (List.mem_of_getElem? hx)
    simp [-getElem?_pos, laws_eqSaidS_r0, hx, hi, laws_eqSaid_n x (by omega), wr_succ (show i < 1000000000000000000 by omega)]
  · simp [laws_eqSaidS_r0]) k
def mServerS (l : List GServer) : Nat := l.length + sumN mServer l
theorem decServerS {p : PV} (h : Sh.has (.list [.list [.list [.int .i64, .int .i64, .int .i64, .int .i64, .int .i64, .int .i64, .int .i64, .int .i64, .list [.int .i64], .int .i64, .list [.int .i64], .int .i64, .int .i64, .list [.int .i64], .int .i64, .bool, .list [.int .i64, .int .i64]], .list [.str, .int .i64, .int .i64, .list [.str]]], .int .i64]) p) : ∃ l : List GServer, p = .list 2 (l.map eServer) ∧ (l.length ≤ maxLen ∧ ∀ y ∈ l, WServer y) := by
  obtain ⟨l, h1, h2, h3⟩ := has_map decServer 2 rfl h
  exact ⟨l, h1, h2, h3⟩
theorem laws_szServerS_n (l : List GServer) (left : Int) (hw : (l.length ≤ maxLen ∧ ∀ y ∈ l, WServer y)) (h2 : 0 ≤ left) (h3 : left ≤ 1048576) (k) : call laws_szServerS [.one (.list 2 (l.map eServer)), .one (I left)] k = k [I (szr (mServerS l) left)] := call_of (fun k => by
  simp only [laws_szServerS, lenP_eq, List.length_map, binP_sub, wr_left hw.1 h2 h3, binP_lss, iteP_eq, rt_eq, scs_sc, scs_nil, flat_int, true_and, and_true]
  unfold mServerS
  by_cases c : (l.length : Int) ≤ left
  rotate_left
  · simp [szr_over c, show left - (l.length : Int) < 0 by omega]
  simp only [szr_add c, show ¬ (left - (l.length : Int) < 0) by omega, decide_false, Bool.false_eq_true, if_false]
  refine (lp_sz (neg := k [I (-1)]) (fin := fun t => k [I t]) l eServer 2 mServer (left - (l.length : Int)) (I 0) (by omega) (by omega) rfl (fun i x hx hi t ht1 ht2 K => ?_) fun t K => ?_).trans ?_
  · have e := laws_szServer_n x t (hw.2 x (List.mem_of_getElem? hx)) ht1 ht2
    simp [-getElem?_pos, laws_szServerS_r0, hx, hi, e, wr_succ (show i < 1000000000000000000 by omega)]
    by_cases hs : ((mServer x : Nat) : Int) ≤ t
    · simp [szr_yes hs, hs, show ¬ (t - ((mServer x : Nat) : Int) < 0) by omega]
    · simp [szr_not hs, hs]
  · simp [laws_szServerS_r0]
  · by_cases hs : ((sumN mServer l : Nat) : Int) ≤ left - (l.length : Int)
    · simp [szr_yes hs, hs]
    · simp [szr_not hs, hs]) k
theorem laws_toServerS_n (l : List GServer) (h : mServerS l ≤ 1048576) (k) : call laws_toServerS [.one (.list 2 (l.map eServer))] k = k [.list 2 (l.map eServer)] := call_of (fun k => by
  have hm := h
  unfold mServerS at hm
  simp [laws_toServerS, show l.length < 1073741824 by omega]
  refine lp_toS l eServer eServer [.list 2 [], I 0] 2 2 (.list 2 []) rfl (fun i x hx hi K rows hr hz => ?_) fun K => ?_
  · have hs : mServer x ≤ sumN mServer l := sumN_mem (s := mServer) (List.mem_of_getElem? hx)
    simp [-getElem?_pos, laws_toServerS_r0, hx, hi, hr, hz, over, laws_toServer_n x (by omega), wr_succ (show i < 1000000000000000000 by omega)]
  · simp [laws_toServerS_r0]) k
theorem laws_eqServerS_n (l : List GServer) (h : mServerS l ≤ 1048576) (k) : call laws_eqServerS [.one (.list 2 (l.map eServer)), .one (.list 2 (l.map eServer))] k = k [.bool true] := call_of (fun k => by
  have hm := h
  unfold mServerS at hm
  simp [laws_eqServerS]
  refine lp_eqS l eServer 2 (.bool false) rfl (fun i x hx hi K => ?_) fun K => ?_
  · have hs : mServer x ≤ sumN mServer l := sumN_mem (s := mServer) (List.mem_of_getElem? hx)
    simp [-getElem?_pos, laws_eqServerS_r0, hx, hi, laws_eqServer_n x (by omega), wr_succ (show i < 1000000000000000000 by omega)]
  · simp [laws_eqServerS_r0]) k
structure GWorld where
  Now : Int
  Actors : List GActor
  Zones : List GZone
  Said : List GSaid
  Servers : List GServer
  Known : GKnown
  Cache : GCache
abbrev eWorld (a : GWorld) : List PV := [I a.Now, .list 1 (a.Actors.map eActor), .list 2 (a.Zones.map eZone), .list 3 (a.Said.map eSaid), .list 2 (a.Servers.map eServer), .list 1 (a.Known.Chains.map (fun l : List GSigned => [.list 17 (l.map eSigned)])), .list 51 (a.Known.Forks.map eFork), .list 23 (a.Cache.Lst.map eStored)]
def mWorld (a : GWorld) : Nat := mActorS a.Actors + (mZoneS a.Zones + (mSaidS a.Said + (mServerS a.Servers + (mKnown a.Known + (mCache a.Cache)))))
def WWorld (a : GWorld) : Prop := (a.Actors.length ≤ maxLen ∧ ∀ y ∈ a.Actors, WActor y) ∧ (a.Zones.length ≤ maxLen ∧ ∀ y ∈ a.Zones, WZone y) ∧ (a.Said.length ≤ maxLen ∧ ∀ y ∈ a.Said, WSaid y) ∧ (a.Servers.length ≤ maxLen ∧ ∀ y ∈ a.Servers, WServer y) ∧ WKnown a.Known ∧ WCache a.Cache
theorem decWorld (r : List PV) (hr : Sh.hasAll [.int .i64, .list [.list [.int .i64]], .list [.list [.int .i64, .int .i64, .int .i64, .int .i64, .int .i64, .int .i64, .int .i64, .int .i64, .list [.int .i64], .int .i64, .list [.int .i64], .int .i64, .int .i64, .list [.int .i64], .int .i64, .bool, .list [.int .i64, .int .i64]], .list [.str, .int .i64, .int .i64, .list [.str]]], .list [.list [.int .i64, .int .i64, .int .i64, .int .i64, .int .i64, .int .i64, .int .i64, .int .i64, .list [.int .i64], .int .i64, .list [.int .i64], .int .i64, .int .i64, .list [.int .i64], .int .i64, .bool, .list [.int .i64, .int .i64]], .list [.str, .int .i64, .int .i64, .list [.str]], .list [.int .i64]], .list [.list [.list [.int .i64, .int .i64, .int .i64, .int .i64, .int .i64, .int .i64, .int .i64, .int .i64, .list [.int .i64], .int .i64, .list [.int .i64], .int .i64, .int .i64, .list [.int .i64], .int .i64, .bool, .list [.int .i64, .int .i64]], .list [.str, .int .i64, .int .i64, .list [.str]]], .int .i64], .list [.list [.int .i64, .int .i64, .int .i64, .int .i64, .int .i64, .int .i64, .int .i64, .int .i64, .list [.int .i64], .int .i64, .list [.int .i64], .int .i64, .int .i64, .list [.int .i64], .int .i64, .bool, .list [.int .i64, .int .i64]]], .list [.int .i64, .int .i64, .int .i64, .int .i64, .int .i64, .int .i64, .int .i64, .int .i64, .list [.int .i64], .int .i64, .list [.int .i64], .int .i64, .int .i64, .list [.int .i64], .int .i64, .bool, .list [.int .i64, .int .i64], .int .i64, .int .i64, .int .i64, .int .i64, .int .i64, .int .i64, .int .i64, .int .i64, .list [.int .i64], .int .i64, .list [.int .i64], .int .i64, .int .i64, .list [.int .i64], .int .i64, .bool, .list [.int .i64, .int .i64], .int .i64, .int .i64, .int .i64, .int .i64, .int .i64, .int .i64, .int .i64, .int .i64, .list [.int .i64], .int .i64, .list [.int .i64], .int .i64, .int .i64, .list [.int .i64], .int .i64, .bool, .list [.int .i64, .int .i64]], .list [.int .i64, .str, .list [.int .i64, .int .i64, .int .i64, .int .i64, .int .i64, .int .i64, .int .i64, .int .i64, .list [.int .i64], .int .i64, .list [.int .i64], .int .i64, .int .i64, .list [.int .i64], .int .i64, .bool, .list [.int .i64, .int .i64]], .bool, .str, .int .i64, .int .i64, .list [.str], .int .i64, .list [.int .i64], .int .i64, .str, .int .i64, .int .i64, .list [.str], .str, .int .i64, .int .i64, .list [.str], .int .i64, .list [.int .i64], .int .i64, .list [.int .i64]]] r) : ∃ a : GWorld, r = eWorld a ∧ WWorld a := by
  obtain ⟨p1, r1, rfl, h1, hr1⟩ := all_cons hr
  obtain ⟨n1, rfl⟩ := has_int h1
  obtain ⟨p2, r2, rfl, h2, hr2⟩ := all_cons hr1
  obtain ⟨n2, rfl, g2⟩ := decActorS h2
  obtain ⟨p3, r3, rfl, h3, hr3⟩ := all_cons hr2
  obtain ⟨n3, rfl, g3⟩ := decZoneS h3
  obtain ⟨p4, r4, rfl, h4, hr4⟩ := all_cons hr3
  obtain ⟨n4, rfl, g4⟩ := decSaidS h4
  obtain ⟨p5, r5, rfl, h5, hr5⟩ := all_cons hr4
  obtain ⟨n5, rfl, g5⟩ := decServerS h5
  obtain ⟨p6, r6, rfl, h6, hr6⟩ := all_cons hr5
  obtain ⟨n6, rfl, g6⟩ := decSignedSS h6
  obtain ⟨p7, r7, rfl, h7, hr7⟩ := all_cons hr6
  obtain ⟨n7, rfl, g7⟩ := decForkS h7
  obtain ⟨p8, rfl, h8⟩ := all_one hr7
  obtain ⟨n8, rfl, g8⟩ := decStoredS h8
  exact ⟨⟨n1, n2, n3, n4, n5, ⟨n6, n7⟩, ⟨n8⟩⟩, rfl, ⟨g2, g3, g4, g5, ⟨g6, g7⟩, g8⟩⟩
theorem laws_szWorld_n (a : GWorld) (left : Int) (hw : WWorld a) (h2 : 0 ≤ left) (h3 : left ≤ 1048576) (k) : call laws_szWorld [.agg (eWorld a), .one (I left)] k = k [I (szr (mWorld a) left)] := call_of (fun k => by
  obtain ⟨g0, g1, g2, g3, g4, g5⟩ := hw
  unfold mWorld
  simp only [laws_szWorld, un, cur0, laws_szActorS_n a.Actors (left) g0 h2 h3, binP_lss, iteP_eq, atP_zero, rt_eq, scs_sc, scs_nil, flat_int, true_and, and_true]
  by_cases c0 : ((mActorS a.Actors : Nat) : Int) ≤ left
  rotate_left
  · first | (simp [szr_over c0, szr_not c0]; done) | (simp only [szr_over c0, szr_not c0]; simp)
  simp only [szr_yes c0, szr_add c0, show ¬ (left - ((mActorS a.Actors : Nat) : Int) < 0) by omega, decide_false, Bool.false_eq_true, if_false, laws_szZoneS_n a.Zones (left - ((mActorS a.Actors : Nat) : Int)) g1 (by omega) (by omega), binP_lss, iteP_eq, atP_zero, rt_eq, scs_sc, scs_nil, flat_int, true_and, and_true]
  by_cases c1 : ((mZoneS a.Zones : Nat) : Int) ≤ left - ((mActorS a.Actors : Nat) : Int)
  rotate_left
  · first | (simp [szr_over c1, szr_not c1]; done) | (simp only [szr_over c1, szr_not c1]; simp)
  simp only [szr_yes c1, szr_add c1, show ¬ (left - ((mActorS a.Actors : Nat) : Int) - ((mZoneS a.Zones : Nat) : Int) < 0) by omega, decide_false, Bool.false_eq_true, if_false, laws_szSaidS_n a.Said (left - ((mActorS a.Actors : Nat) : Int) - ((mZoneS a.Zones : Nat) : Int)) g2 (by omega) (by omega), binP_lss, iteP_eq, atP_zero, rt_eq, scs_sc, scs_nil, flat_int, true_and, and_true]
  by_cases c2 : ((mSaidS a.Said : Nat) : Int) ≤ left - ((mActorS a.Actors : Nat) : Int) - ((mZoneS a.Zones : Nat) : Int)
  rotate_left
  · first | (simp [szr_over c2, szr_not c2]; done) | (simp only [szr_over c2, szr_not c2]; simp)
  simp only [szr_yes c2, szr_add c2, show ¬ (left - ((mActorS a.Actors : Nat) : Int) - ((mZoneS a.Zones : Nat) : Int) - ((mSaidS a.Said : Nat) : Int) < 0) by omega, decide_false, Bool.false_eq_true, if_false, laws_szServerS_n a.Servers (left - ((mActorS a.Actors : Nat) : Int) - ((mZoneS a.Zones : Nat) : Int) - ((mSaidS a.Said : Nat) : Int)) g3 (by omega) (by omega), binP_lss, iteP_eq, atP_zero, rt_eq, scs_sc, scs_nil, flat_int, true_and, and_true]
  by_cases c3 : ((mServerS a.Servers : Nat) : Int) ≤ left - ((mActorS a.Actors : Nat) : Int) - ((mZoneS a.Zones : Nat) : Int) - ((mSaidS a.Said : Nat) : Int)
  rotate_left
  · first | (simp [szr_over c3, szr_not c3]; done) | (simp only [szr_over c3, szr_not c3]; simp)
  simp only [szr_yes c3, szr_add c3, show ¬ (left - ((mActorS a.Actors : Nat) : Int) - ((mZoneS a.Zones : Nat) : Int) - ((mSaidS a.Said : Nat) : Int) - ((mServerS a.Servers : Nat) : Int) < 0) by omega, decide_false, Bool.false_eq_true, if_false, laws_szKnown_n a.Known (left - ((mActorS a.Actors : Nat) : Int) - ((mZoneS a.Zones : Nat) : Int) - ((mSaidS a.Said : Nat) : Int) - ((mServerS a.Servers : Nat) : Int)) g4 (by omega) (by omega), binP_lss, iteP_eq, atP_zero, rt_eq, scs_sc, scs_nil, flat_int, true_and, and_true]
  by_cases c4 : ((mKnown a.Known : Nat) : Int) ≤ left - ((mActorS a.Actors : Nat) : Int) - ((mZoneS a.Zones : Nat) : Int) - ((mSaidS a.Said : Nat) : Int) - ((mServerS a.Servers : Nat) : Int)
  rotate_left
  · first | (simp [szr_over c4, szr_not c4]; done) | (simp only [szr_over c4, szr_not c4]; simp)
  simp only [szr_yes c4, szr_add c4, show ¬ (left - ((mActorS a.Actors : Nat) : Int) - ((mZoneS a.Zones : Nat) : Int) - ((mSaidS a.Said : Nat) : Int) - ((mServerS a.Servers : Nat) : Int) - ((mKnown a.Known : Nat) : Int) < 0) by omega, decide_false, Bool.false_eq_true, if_false, laws_szCache_n a.Cache (left - ((mActorS a.Actors : Nat) : Int) - ((mZoneS a.Zones : Nat) : Int) - ((mSaidS a.Said : Nat) : Int) - ((mServerS a.Servers : Nat) : Int) - ((mKnown a.Known : Nat) : Int)) g5 (by omega) (by omega), binP_lss, iteP_eq, atP_zero, rt_eq, scs_sc, scs_nil, flat_int, true_and, and_true]
  by_cases c5 : ((mCache a.Cache : Nat) : Int) ≤ left - ((mActorS a.Actors : Nat) : Int) - ((mZoneS a.Zones : Nat) : Int) - ((mSaidS a.Said : Nat) : Int) - ((mServerS a.Servers : Nat) : Int) - ((mKnown a.Known : Nat) : Int)
  rotate_left
  · first | (simp [szr_not c5, szr_not c5]; done) | (simp only [szr_not c5, szr_not c5]; simp)
  simp only [szr_yes c5, show ¬ (left - ((mActorS a.Actors : Nat) : Int) - ((mZoneS a.Zones : Nat) : Int) - ((mSaidS a.Said : Nat) : Int) - ((mServerS a.Servers : Nat) : Int) - ((mKnown a.Known : Nat) : Int) - ((mCache a.Cache : Nat) : Int) < 0) by omega, decide_false, Bool.false_eq_true, if_false, binP_lss, iteP_eq, atP_zero, rt_eq, scs_sc, scs_nil, flat_int, true_and, and_true]) k
theorem laws_toWorld_n (a : GWorld) (h : mWorld a ≤ 1048576) (k) : call laws_toWorld [.agg (eWorld a)] k = k (eWorld a) := call_of (fun k => by
  unfold mWorld at h
  simp [laws_toWorld, laws_toActorS_n a.Actors (by omega), laws_toZoneS_n a.Zones (by omega), laws_toSaidS_n a.Said (by omega), laws_toServerS_n a.Servers (by omega), laws_toKnown_n a.Known (by omega), laws_toCache_n a.Cache (by omega)]) k
theorem laws_eqWorld_n (a : GWorld) (h : mWorld a ≤ 1048576) (k) : call laws_eqWorld [.agg (eWorld a), .agg (eWorld a)] k = k [.bool true] := call_of (fun k => by
  unfold mWorld at h
  simp [laws_eqWorld, laws_eqActorS_n a.Actors (by omega), laws_eqZoneS_n a.Zones (by omega), laws_eqSaidS_n a.Said (by omega), laws_eqServerS_n a.Servers (by omega), laws_eqKnown_n a.Known (by omega), laws_eqCache_n a.Cache (by omega)]) k
end Go.Ev
set_option linter.unusedVariables false
set_option linter.unusedSimpArgs false
set_option maxRecDepth 10000
set_option maxHeartbeats 1000000
namespace Go.Ev
open Go.Proofs
/-! ### Marks: what was written is read again -/
theorem mk_sc {ρ : List (Nat × MM)} {off t : Nat} {ss : List (Option Eff × SV)} {r r1 r' : List PV} {p : PV} {k k' : Int} (h1 : r[off]? = some p) (h2 : p.flat = true) (h3 : r.set off (cellK mtx k t) = r1) (h4 : IntKind.i64.wrap (k + 1) = k + 1) (h : mkRow ρ mtx ss r1 (k + 1) = some (r', k')) : mkRow ρ mtx ((some (.store off t), .kk) :: (none, .kinc) :: ss) r k = some (r', k') := by
  subst h3
  simp only [mkRow, regE, effS, h1, h2, if_true, h4]
  exact h
theorem mk_ca {ρ : List (Nat × MM)} {off f : Nat} {m : PV → Int → Option (PV × Int)} {ss : List (Option Eff × SV)} {r r1 r' : List PV} {p p' : PV} {k k1 k' : Int} (h1 : r[off]? = some p) (h2 : lk ρ f = some (.sl m)) (h3 : m p k = some (p', k1)) (h4 : r.set off p' = r1) (h5 : rg64 k1 = true) (h : mkRow ρ mtx ss r1 k1 = some (r', k')) : mkRow ρ mtx ((some (.call off none f), .res) :: ss) r k = some (r', k') := by
  subst h4
  simp only [mkRow, regE, effS, h1, h2, h3, h5, if_true]
  exact h
theorem mk_ct {ρ : List (Nat × MM)} {off n f : Nat} {m : List PV → Int → Option (List PV × Int)} {ss : List (Option Eff × SV)} {r r1 r' q q' : List PV} {k k1 k' : Int} (h1 : off + n ≤ r.length) (h2 : lk ρ f = some (.st m)) (hq : (r.drop off).take n = q) (h3 : m q k = some (q', k1)) (h4 : r.take off ++ q' ++ r.drop (off + n) = r1) (h5 : rg64 k1 = true) (h : mkRow ρ mtx ss r1 k1 = some (r', k')) : mkRow ρ mtx ((some (.call off (some n) f), .res) :: ss) r k = some (r', k') := by
  subst h4; subst hq
  simp only [mkRow, regE, effS, h1, h2, h3, h5, if_true]
  exact h
theorem rg_of {k : Int} (h1 : 0 ≤ k) (h2 : k ≤ 1000000000000000) : rg64 k = true := by simp only [rg64, Bool.and_eq_true, decide_eq_true_eq]; omega
theorem wr1 {k : Int} (h1 : 0 ≤ k) (h2 : k ≤ 1000000000000000) : IntKind.i64.wrap (k + 1) = k + 1 := wr_eq (by omega) (by omega)
theorem elemP_row {sz : Nat} {rows : List (List PV)} {i : Nat} {r : List PV} (h : rows[i]? = some r) (k : List PV → Prop) : elemP sz (.list sz rows) (I i) k = k r := by
  simp [elemP, h]
theorem rows_mark {α : Type} (e : α → List PV) (c : α → Nat) {ρ : List (Nat × MM)} {ss : List (Option Eff × SV)} {R : (List PV → Prop) → List PV → Prop} (sz : Nat) : ∀ (l : List α)
    (hel : ∀ x ∈ l, ∀ k, 0 ≤ k → k + 40 * (1 + (c x : Int)) ≤ 1000000000000000 → ∃ r' k', mkRow ρ mtx ss (e x) k = some (r', k') ∧ k ≤ k' ∧ k' ≤ k + 40 * (1 + (c x : Int)) ∧ ∀ (rows : List (List PV)) (i : Nat) K z, rows[i]? = some r' → i < rows.length → rows.length ≤ 1000000000000000 → (R K [.list sz rows, I k, z, I i] ↔ K [.list sz rows, I k', z, I ((i : Int) + 1)]))
    (k : Int), 0 ≤ k → k + 40 * ((l.length : Int) + (sumN c l : Int)) ≤ 1000000000000000 → ∃ rows' k', mkRows ρ mtx ss (l.map e) k = some (rows', k') ∧ rows'.length = l.length ∧ k ≤ k' ∧ k' ≤ k + 40 * ((l.length : Int) + (sumN c l : Int)) ∧
      ∀ (pre : List (List PV)) (z : PV) (fin : Prop), (pre ++ rows').length ≤ 1000000000000000 → (∀ K, R K [.list sz (pre ++ rows'), I k', z, I (pre ++ rows').length] ↔ fin) → (lp R [.list sz (pre ++ rows'), I k, z, I pre.length] ↔ fin)
  | [], hel, k, h0, hb => ⟨[], k, rfl, rfl, Int.le_refl _, by simp [sumN], fun pre z fin hl hf => itP_mono_end fun K => by have := hf K; rwa [List.append_nil] at this ⊢⟩
  | x :: l, hel, k, h0, hb => by
    have hs : sumN c (x :: l) = c x + sumN c l := rfl
    rw [hs] at hb ⊢
    simp only [List.length_cons] at hb ⊢
    obtain ⟨r', k1, q1, q2, q3, q4⟩ := hel x (by simp) k h0 (by omega)
    obtain ⟨rows', k', p1, p2, p3, p4, p5⟩ := rows_mark e c sz l (fun y hy => hel y (by simp [hy])) k1 (by omega) (by omega)
    refine ⟨r' :: rows', k', by simp only [List.map_cons, mkRows, q1, p1], by simp [p2], by omega, by omega, fun pre z fin hl hf => ?_⟩
    have hx : (pre ++ r' :: rows')[pre.length]? = some r' := by simp
    have hlt : pre.length < (pre ++ r' :: rows').length := by simp
    rw [lp_step fun K => q4 (pre ++ r' :: rows') pre.length K z hx hlt hl]
    have e1 : pre ++ r' :: rows' = (pre ++ [r']) ++ rows' := by simp
    have e2 : ((pre.length : Int) + 1) = (((pre ++ [r']).length : Nat) : Int) := by simp
    rw [e1, e2]
    exact p5 (pre ++ [r']) z fin (by rw [← e1]; exact hl) (by rw [← e1]; exact hf)
theorem rows_mark0 {α : Type} (e : α → List PV) (c : α → Nat) {ρ : List (Nat × MM)} {ss : List (Option Eff × SV)} : ∀ (l : List α)
    (hel : ∀ x ∈ l, ∀ k, 0 ≤ k → k + 40 * (1 + (c x : Int)) ≤ 1000000000000000 → ∃ r' k', mkRow ρ mtx ss (e x) k = some (r', k') ∧ k ≤ k' ∧ k' ≤ k + 40 * (1 + (c x : Int)))
    (k : Int), 0 ≤ k → k + 40 * ((l.length : Int) + (sumN c l : Int)) ≤ 1000000000000000 → ∃ rows' k', mkRows ρ mtx ss (l.map e) k = some (rows', k') ∧ k ≤ k' ∧ k' ≤ k + 40 * ((l.length : Int) + (sumN c l : Int))
  | [], hel, k, h0, hb => ⟨[], k, rfl, Int.le_refl _, by simp [sumN]⟩
  | x :: l, hel, k, h0, hb => by
    have hs : sumN c (x :: l) = c x + sumN c l := rfl
    rw [hs] at hb ⊢
    simp only [List.length_cons] at hb ⊢
    obtain ⟨r', k1, q1, q2, q3⟩ := hel x (by simp) k h0 (by omega)
    obtain ⟨rows', k', p1, p3, p4⟩ := rows_mark0 e c l (fun y hy => hel y (by simp [hy])) k1 (by omega) (by omega)
    exact ⟨r' :: rows', k', by simp only [List.map_cons, mkRows, q1, p1], by omega, by omega⟩
theorem mkS_list {ρ : List (Nat × MM)} {sz : Nat} {ss : List (Option Eff × SV)} {rows rows' : List (List PV)} {k k' : Int} (h1 : rows.length < 1000000000000000000) (h2 : mkRows ρ mtx ss rows k = some (rows', k')) : mkS ρ mtx sz ss (.list sz rows) k = some (.list sz rows', k') := by
  simp only [mkS, true_and, h1, if_true, h2]
theorem mkT_of {ρ : List (Nat × MM)} {esz : Nat} {ss : List (Option Eff × SV)} {ps ps' : List PV} {k k' : Int} (h1 : ps.length = esz) (h2 : mkRow ρ mtx ss ps k = some (ps', k')) : mkT ρ mtx esz ss ps k = some (ps', k') := by
  simp only [mkT, h1, if_true, h2]
theorem sumN_z {α : Type} (l : List α) : sumN (fun _ : α => 0) l = 0 := by
  induction l with
  | nil => rfl
  | cons x l ih => show 0 + sumN _ l = 0; rw [ih]
theorem sumN_eq {α : Type} {f g : α → Nat} (h : ∀ x, f x = g x) (l : List α) : sumN f l = sumN g l := by rw [show f = g from funext h]

theorem marks_IntS (l : List Int) (k : Int) (h0 : 0 ≤ k) (hb : k + 40 * ((l.length : Nat) : Int) ≤ 1000000000000000) : ∃ p k', mk_IntS (ints l) k = some (p, k') ∧ k ≤ k' ∧ k' ≤ k + 40 * ((l.length : Nat) : Int) ∧ ∀ K, call laws_heldIntS [.one p, .one (I k)] K = K [I k'] := by
  have hm : (l.length : Nat) = l.length + sumN (fun x : Int => 0) l := by rw [sumN_z]; omega
  rw [hm] at hb ⊢
  have hrow : ∀ (A : Prop) (B : PV → PV → PV → PV → Prop), ∀ x ∈ l, ∀ k, 0 ≤ k → k + 40 * (1 + ((fun x : Int => 0) x : Int)) ≤ 1000000000000000 → ∃ r' k', mkRow mk_IntS_r mtx mk_IntS_s (rI x) k = some (r', k') ∧ k ≤ k' ∧ k' ≤ k + 40 * (1 + ((fun x : Int => 0) x : Int)) ∧ ∀ (rows : List (List PV)) (i : Nat) K z, rows[i]? = some r' → i < rows.length → rows.length ≤ 1000000000000000 → ((fun L w => laws_heldIntS_r0 w L A B) K [.list 1 rows, I k, z, I i] ↔ K [.list 1 rows, I k', z, I ((i : Int) + 1)]) := by
    intro A B x hx k h0 hb
    have hle : (l.length : Int) ≤ 1000000000000000 := by omega
    clear hle
    try dsimp only at hb ⊢
    refine ⟨[I (k)], k + 1, mk_sc rfl rfl rfl (wr1 (by omega) (by omega)) (rfl), by omega, by omega, fun rows i K z hr hi hn => ?_⟩
    have f0 := wr1 (k := k) (by omega) (by omega)
    have hlt : (i : Int) < (rows.length : Int) := by omega
    simp only [laws_heldIntS_r0, un, cur0, lenP_eq, binP_lss, hlt, decide_true, decide_false, iteP_eq, if_true, elemP_row hr, atP_zero, atP_succ, binP_neq, bne_self_eq_false, Bool.false_eq_true, if_false, binP_add, binP_sneq, Bool.not_true, binP_rem, binP_eql, boolP_neq, f0, wr_succ (show i < 1000000000000000000 by omega), true_and, ne_eq, not_false_eq_true]
  obtain ⟨rows', k', p1, p2, p3, p4, p5⟩ := rows_mark rI (fun x : Int => 0) 1 l (hrow True fun _ _ _ _ => True) k h0 (by omega)
  have hle : (l.length : Int) ≤ 1000000000000000 := by omega
  refine ⟨.list 1 rows', k', ?_, p3, p4, fun K => ?_⟩
  · exact mkS_list (by rw [List.length_map]; omega) p1
  · refine (call_of (fun K => ?_) K)
    obtain ⟨rows2, k2, r1, r2, r3, r4, r5⟩ := rows_mark rI (fun x : Int => 0) 1 l (hrow (rt [.sc] [(I (-1))] K) fun q6 q7 q8 q9 => rt [.sc] [q7] K) k h0 (by omega)
    have hs := p1.symm.trans r1
    injection hs with hs; injection hs with hs1 hs2
    subst hs1; subst hs2
    have := r5 [] (I 0) (K [I k']) (by rw [List.nil_append, p2]; omega) fun K2 => by
      simp only [laws_heldIntS_r0, un, cur0, lenP_eq, binP_lss, Int.lt_irrefl, decide_false, iteP_eq, Bool.false_eq_true, if_false, List.nil_append, rt_eq, scs_sc, scs_nil, flat_int, true_and]
    exact this
theorem marks_ActorS (l : List GActor) (k : Int) (h0 : 0 ≤ k) (hb : k + 40 * ((mActorS l : Nat) : Int) ≤ 1000000000000000) : ∃ p k', mk_ActorS (.list 1 (l.map eActor)) k = some (p, k') ∧ k ≤ k' ∧ k' ≤ k + 40 * ((mActorS l : Nat) : Int) ∧ True := by
  have hm : mActorS l = l.length + sumN (fun x : GActor => mActor x) l := rfl
  rw [hm] at hb ⊢
  have hrow : ∀ x ∈ l, ∀ k, 0 ≤ k → k + 40 * (1 + ((fun x : GActor => mActor x) x : Int)) ≤ 1000000000000000 → ∃ r' k', mkRow mk_ActorS_r mtx mk_ActorS_s (eActor x) k = some (r', k') ∧ k ≤ k' ∧ k' ≤ k + 40 * (1 + ((fun x : GActor => mActor x) x : Int)) := by
    intro x hx k h0 hb
    have hle : (l.length : Int) ≤ 1000000000000000 := by omega
    clear hle
    try dsimp only at hb ⊢
    simp only [mActor] at hb ⊢
    obtain ⟨p1, k1, e1, l1, u1, g1⟩ := marks_IntS x.Held (k) (by omega) (by omega)
    exact ⟨[p1], k1, mk_ca rfl rfl e1 rfl (rg_of (by omega) (by omega)) (rfl), by omega, by omega⟩
  obtain ⟨rows', k', p1, p3, p4⟩ := rows_mark0 eActor (fun x : GActor => mActor x) l hrow k h0 (by omega)
  exact ⟨.list 1 rows', k', mkS_list (by rw [List.length_map]; omega) p1, p3, p4, trivial⟩
theorem marks_SigS (l : List GSig) (k : Int) (h0 : 0 ≤ k) (hb : k + 40 * ((l.length : Nat) : Int) ≤ 1000000000000000) : ∃ p k', mk_SigS (.list 2 (l.map eSig)) k = some (p, k') ∧ k ≤ k' ∧ k' ≤ k + 40 * ((l.length : Nat) : Int) ∧ ∀ K, call laws_heldSigS [.one p, .one (I k)] K = K [I k'] := by
  have hm : (l.length : Nat) = l.length + sumN (fun x : GSig => 0) l := by rw [sumN_z]; omega
  rw [hm] at hb ⊢
  have hrow : ∀ (A : Prop) (B : PV → PV → PV → PV → Prop), ∀ x ∈ l, ∀ k, 0 ≤ k → k + 40 * (1 + ((fun x : GSig => 0) x : Int)) ≤ 1000000000000000 → ∃ r' k', mkRow mk_SigS_r mtx mk_SigS_s (eSig x) k = some (r', k') ∧ k ≤ k' ∧ k' ≤ k + 40 * (1 + ((fun x : GSig => 0) x : Int)) ∧ ∀ (rows : List (List PV)) (i : Nat) K z, rows[i]? = some r' → i < rows.length → rows.length ≤ 1000000000000000 → ((fun L w => laws_heldSigS_r0 w L A B) K [.list 2 rows, I k, z, I i] ↔ K [.list 2 rows, I k', z, I ((i : Int) + 1)]) := by
    intro A B x hx k h0 hb
    have hle : (l.length : Int) ≤ 1000000000000000 := by omega
    clear hle
    try dsimp only at hb ⊢
    refine ⟨[I (k), I (k + 1)], k + 1 + 1, mk_sc rfl rfl rfl (wr1 (by omega) (by omega)) (mk_sc rfl rfl rfl (wr1 (by omega) (by omega)) (rfl)), by omega, by omega, fun rows i K z hr hi hn => ?_⟩
    have f0 := wr1 (k := k) (by omega) (by omega)
    have f1 := wr1 (k := k + 1) (by omega) (by omega)
    have hlt : (i : Int) < (rows.length : Int) := by omega
    simp only [laws_heldSigS_r0, un, cur0, lenP_eq, binP_lss, hlt, decide_true, decide_false, iteP_eq, if_true, elemP_row hr, atP_zero, atP_succ, binP_neq, bne_self_eq_false, Bool.false_eq_true, if_false, binP_add, binP_sneq, Bool.not_true, binP_rem, binP_eql, boolP_neq, f0, f1, wr_succ (show i < 1000000000000000000 by omega), true_and, ne_eq, not_false_eq_true]
  obtain ⟨rows', k', p1, p2, p3, p4, p5⟩ := rows_mark eSig (fun x : GSig => 0) 2 l (hrow True fun _ _ _ _ => True) k h0 (by omega)
  have hle : (l.length : Int) ≤ 1000000000000000 := by omega
  refine ⟨.list 2 rows', k', ?_, p3, p4, fun K => ?_⟩
  · exact mkS_list (by rw [List.length_map]; omega) p1
  · refine (call_of (fun K => ?_) K)
    obtain ⟨rows2, k2, r1, r2, r3, r4, r5⟩ := rows_mark eSig (fun x : GSig => 0) 2 l (hrow (rt [.sc] [(I (-1))] K) fun q6 q7 q8 q9 => rt [.sc] [q7] K) k h0 (by omega)
    have hs := p1.symm.trans r1
    injection hs with hs; injection hs with hs1 hs2
    subst hs1; subst hs2
    have := r5 [] (I 0) (K [I k']) (by rw [List.nil_append, p2]; omega) fun K2 => by
      simp only [laws_heldSigS_r0, un, cur0, lenP_eq, binP_lss, Int.lt_irrefl, decide_false, iteP_eq, Bool.false_eq_true, if_false, List.nil_append, rt_eq, scs_sc, scs_nil, flat_int, true_and]
    exact this
theorem marks_SignedS (l : List GSigned) (k : Int) (h0 : 0 ≤ k) (hb : k + 40 * ((mSignedS l : Nat) : Int) ≤ 1000000000000000) : ∃ p k', mk_SignedS (.list 17 (l.map eSigned)) k = some (p, k') ∧ k ≤ k' ∧ k' ≤ k + 40 * ((mSignedS l : Nat) : Int) ∧ ∀ K, call laws_heldSignedS [.one p, .one (I k)] K = K [I k'] := by
  have hm : mSignedS l = l.length + sumN (fun x : GSigned => mSigned x) l := rfl
  rw [hm] at hb ⊢
  have hrow : ∀ (A : Prop) (B : PV → PV → PV → PV → Prop), ∀ x ∈ l, ∀ k, 0 ≤ k → k + 40 * (1 + ((fun x : GSigned => mSigned x) x : Int)) ≤ 1000000000000000 → ∃ r' k', mkRow mk_SignedS_r mtx mk_SignedS_s (eSigned x) k = some (r', k') ∧ k ≤ k' ∧ k' ≤ k + 40 * (1 + ((fun x : GSigned => mSigned x) x : Int)) ∧ ∀ (rows : List (List PV)) (i : Nat) K z, rows[i]? = some r' → i < rows.length → rows.length ≤ 1000000000000000 → ((fun L w => laws_heldSignedS_r0 w L A A A A A B) K [.list 17 rows, I k, z, I i] ↔ K [.list 17 rows, I k', z, I ((i : Int) + 1)]) := by
    intro A B x hx k h0 hb
    have hle : (l.length : Int) ≤ 1000000000000000 := by omega
    clear hle
    try dsimp only at hb ⊢
    simp only [mHead, mKeys, mSigned] at hb ⊢
    obtain ⟨p1, k1, e1, l1, u1, g1⟩ := marks_IntS x.Head.Keys.Lst (k + 1 + 1 + 1 + 1 + 1 + 1 + 1 + 1) (by omega) (by omega)
    obtain ⟨p2, k2, e2, l2, u2, g2⟩ := marks_IntS x.Head.Heirs.Lst (k1 + 1) (by omega) (by omega)
    obtain ⟨p3, k3, e3, l3, u3, g3⟩ := marks_IntS x.Head.Judge.Lst (k2 + 1 + 1) (by omega) (by omega)
    obtain ⟨p4, k4, e4, l4, u4, g4⟩ := marks_SigS x.Sigs (k3 + 1 + 1) (by omega) (by omega)
    refine ⟨[I (k), I (k + 1), I (k + 1 + 1), I (k + 1 + 1 + 1), I (k + 1 + 1 + 1 + 1), I (k + 1 + 1 + 1 + 1 + 1), I (k + 1 + 1 + 1 + 1 + 1 + 1), I (k + 1 + 1 + 1 + 1 + 1 + 1 + 1), p1, I (k1), p2, I (k2), I (k2 + 1), p3, I (k3), .bool ((k3 + 1).tmod 3 == 0), p4], k4, mk_sc (r1 := [I (k), I x.Head.Epoch, I x.Head.Kind, I x.Head.Time, I x.Head.Until, I x.Head.Count, I x.Head.Root, I x.Head.Prev, ints x.Head.Keys.Lst, I x.Head.Keys.Need, ints x.Head.Heirs.Lst, I x.Head.Heirs.Need, I x.Head.Wait, ints x.Head.Judge.Lst, I x.Head.Judge.Need, .bool x.Head.Frozen, .list 2 (x.Sigs.map eSig)]) rfl rfl rfl (wr1 (by omega) (by omega)) (mk_sc (r1 := [I (k), I (k + 1), I x.Head.Kind, I x.Head.Time, I x.Head.Until, I x.Head.Count, I x.Head.Root, I x.Head.Prev, ints x.Head.Keys.Lst, I x.Head.Keys.Need, ints x.Head.Heirs.Lst, I x.Head.Heirs.Need, I x.Head.Wait, ints x.Head.Judge.Lst, I x.Head.Judge.Need, .bool x.Head.Frozen, .list 2 (x.Sigs.map eSig)]) rfl rfl rfl (wr1 (by omega) (by omega)) (mk_sc (r1 := [I (k), I (k + 1), I (k + 1 + 1), I x.Head.Time, I x.Head.Until, I x.Head.Count, I x.Head.Root, I x.Head.Prev, ints x.Head.Keys.Lst, I x.Head.Keys.Need, ints x.Head.Heirs.Lst, I x.Head.Heirs.Need, I x.Head.Wait, ints x.Head.Judge.Lst, I x.Head.Judge.Need, .bool x.Head.Frozen, .list 2 (x.Sigs.map eSig)]) rfl rfl rfl (wr1 (by omega) (by omega)) (mk_sc (r1 := [I (k), I (k + 1), I (k + 1 + 1), I (k + 1 + 1 + 1), I x.Head.Until, I x.Head.Count, I x.Head.Root, I x.Head.Prev, ints x.Head.Keys.Lst, I x.Head.Keys.Need, ints x.Head.Heirs.Lst, I x.Head.Heirs.Need, I x.Head.Wait, ints x.Head.Judge.Lst, I x.Head.Judge.Need, .bool x.Head.Frozen, .list 2 (x.Sigs.map eSig)]) rfl rfl rfl (wr1 (by omega) (by omega)) (mk_sc (r1 := [I (k), I (k + 1), I (k + 1 + 1), I (k + 1 + 1 + 1), I (k + 1 + 1 + 1 + 1), I x.Head.Count, I x.Head.Root, I x.Head.Prev, ints x.Head.Keys.Lst, I x.Head.Keys.Need, ints x.Head.Heirs.Lst, I x.Head.Heirs.Need, I x.Head.Wait, ints x.Head.Judge.Lst, I x.Head.Judge.Need, .bool x.Head.Frozen, .list 2 (x.Sigs.map eSig)]) rfl rfl rfl (wr1 (by omega) (by omega)) (mk_sc (r1 := [I (k), I (k + 1), I (k + 1 + 1), I (k + 1 + 1 + 1), I (k + 1 + 1 + 1 + 1), I (k + 1 + 1 + 1 + 1 + 1), I x.Head.Root, I x.Head.Prev, ints x.Head.Keys.Lst, I x.Head.Keys.Need, ints x.Head.Heirs.Lst, I x.Head.Heirs.Need, I x.Head.Wait, ints x.Head.Judge.Lst, I x.Head.Judge.Need, .bool x.Head.Frozen, .list 2 (x.Sigs.map eSig)]) rfl rfl rfl (wr1 (by omega) (by omega)) (mk_sc (r1 := [I (k), I (k + 1), I (k + 1 + 1), I (k + 1 + 1 + 1), I (k + 1 + 1 + 1 + 1), I (k + 1 + 1 + 1 + 1 + 1), I (k + 1 + 1 + 1 + 1 + 1 + 1), I x.Head.Prev, ints x.Head.Keys.Lst, I x.Head.Keys.Need, ints x.Head.Heirs.Lst, I x.Head.Heirs.Need, I x.Head.Wait, ints x.Head.Judge.Lst, I x.Head.Judge.Need, .bool x.Head.Frozen, .list 2 (x.Sigs.map eSig)]) rfl rfl rfl (wr1 (by omega) (by omega)) (mk_sc (r1 := [I (k), I (k + 1), I (k + 1 + 1), I (k + 1 + 1 + 1), I (k + 1 + 1 + 1 + 1), I (k + 1 + 1 + 1 + 1 + 1), I (k + 1 + 1 + 1 + 1 + 1 + 1), I (k + 1 + 1 + 1 + 1 + 1 + 1 + 1), ints x.Head.Keys.Lst, I x.Head.Keys.Need, ints x.Head.Heirs.Lst, I x.Head.Heirs.Need, I x.Head.Wait, ints x.Head.Judge.Lst, I x.Head.Judge.Need, .bool x.Head.Frozen, .list 2 (x.Sigs.map eSig)]) rfl rfl rfl (wr1 (by omega) (by omega)) (mk_ca (r1 := [I (k), I (k + 1), I (k + 1 + 1), I (k + 1 + 1 + 1), I (k + 1 + 1 + 1 + 1), I (k + 1 + 1 + 1 + 1 + 1), I (k + 1 + 1 + 1 + 1 + 1 + 1), I (k + 1 + 1 + 1 + 1 + 1 + 1 + 1), p1, I x.Head.Keys.Need, ints x.Head.Heirs.Lst, I x.Head.Heirs.Need, I x.Head.Wait, ints x.Head.Judge.Lst, I x.Head.Judge.Need, .bool x.Head.Frozen, .list 2 (x.Sigs.map eSig)]) rfl rfl e1 rfl (rg_of (by omega) (by omega)) (mk_sc (r1 := [I (k), I (k + 1), I (k + 1 + 1), I (k + 1 + 1 + 1), I (k + 1 + 1 + 1 + 1), I (k + 1 + 1 + 1 + 1 + 1), I (k + 1 + 1 + 1 + 1 + 1 + 1), I (k + 1 + 1 + 1 + 1 + 1 + 1 + 1), p1, I (k1), ints x.Head.Heirs.Lst, I x.Head.Heirs.Need, I x.Head.Wait, ints x.Head.Judge.Lst, I x.Head.Judge.Need, .bool x.Head.Frozen, .list 2 (x.Sigs.map eSig)]) rfl rfl rfl (wr1 (by omega) (by omega)) (mk_ca (r1 := [I (k), I (k + 1), I (k + 1 + 1), I (k + 1 + 1 + 1), I (k + 1 + 1 + 1 + 1), I (k + 1 + 1 + 1 + 1 + 1), I (k + 1 + 1 + 1 + 1 + 1 + 1), I (k + 1 + 1 + 1 + 1 + 1 + 1 + 1), p1, I (k1), p2, I x.Head.Heirs.Need, I x.Head.Wait, ints x.Head.Judge.Lst, I x.Head.Judge.Need, .bool x.Head.Frozen, .list 2 (x.Sigs.map eSig)]) rfl rfl e2 rfl (rg_of (by omega) (by omega)) (mk_sc (r1 := [I (k), I (k + 1), I (k + 1 + 1), I (k + 1 + 1 + 1), I (k + 1 + 1 + 1 + 1), I (k + 1 + 1 + 1 + 1 + 1), I (k + 1 + 1 + 1 + 1 + 1 + 1), I (k + 1 + 1 + 1 + 1 + 1 + 1 + 1), p1, I (k1), p2, I (k2), I x.Head.Wait, ints x.Head.Judge.Lst, I x.Head.Judge.Need, .bool x.Head.Frozen, .list 2 (x.Sigs.map eSig)]) rfl rfl rfl (wr1 (by omega) (by omega)) (mk_sc (r1 := [I (k), I (k + 1), I (k + 1 + 1), I (k + 1 + 1 + 1), I (k + 1 + 1 + 1 + 1), I (k + 1 + 1 + 1 + 1 + 1), I (k + 1 + 1 + 1 + 1 + 1 + 1), I (k + 1 + 1 + 1 + 1 + 1 + 1 + 1), p1, I (k1), p2, I (k2), I (k2 + 1), ints x.Head.Judge.Lst, I x.Head.Judge.Need, .bool x.Head.Frozen, .list 2 (x.Sigs.map eSig)]) rfl rfl rfl (wr1 (by omega) (by omega)) (mk_ca (r1 := [I (k), I (k + 1), I (k + 1 + 1), I (k + 1 + 1 + 1), I (k + 1 + 1 + 1 + 1), I (k + 1 + 1 + 1 + 1 + 1), I (k + 1 + 1 + 1 + 1 + 1 + 1), I (k + 1 + 1 + 1 + 1 + 1 + 1 + 1), p1, I (k1), p2, I (k2), I (k2 + 1), p3, I x.Head.Judge.Need, .bool x.Head.Frozen, .list 2 (x.Sigs.map eSig)]) rfl rfl e3 rfl (rg_of (by omega) (by omega)) (mk_sc (r1 := [I (k), I (k + 1), I (k + 1 + 1), I (k + 1 + 1 + 1), I (k + 1 + 1 + 1 + 1), I (k + 1 + 1 + 1 + 1 + 1), I (k + 1 + 1 + 1 + 1 + 1 + 1), I (k + 1 + 1 + 1 + 1 + 1 + 1 + 1), p1, I (k1), p2, I (k2), I (k2 + 1), p3, I (k3), .bool x.Head.Frozen, .list 2 (x.Sigs.map eSig)]) rfl rfl rfl (wr1 (by omega) (by omega)) (mk_sc (r1 := [I (k), I (k + 1), I (k + 1 + 1), I (k + 1 + 1 + 1), I (k + 1 + 1 + 1 + 1), I (k + 1 + 1 + 1 + 1 + 1), I (k + 1 + 1 + 1 + 1 + 1 + 1), I (k + 1 + 1 + 1 + 1 + 1 + 1 + 1), p1, I (k1), p2, I (k2), I (k2 + 1), p3, I (k3), .bool ((k3 + 1).tmod 3 == 0), .list 2 (x.Sigs.map eSig)]) rfl rfl rfl (wr1 (by omega) (by omega)) (mk_ca (r1 := [I (k), I (k + 1), I (k + 1 + 1), I (k + 1 + 1 + 1), I (k + 1 + 1 + 1 + 1), I (k + 1 + 1 + 1 + 1 + 1), I (k + 1 + 1 + 1 + 1 + 1 + 1), I (k + 1 + 1 + 1 + 1 + 1 + 1 + 1), p1, I (k1), p2, I (k2), I (k2 + 1), p3, I (k3), .bool ((k3 + 1).tmod 3 == 0), p4]) rfl rfl e4 rfl (rg_of (by omega) (by omega)) (rfl))))))))))))))))), by omega, by omega, fun rows i K z hr hi hn => ?_⟩
    have f0 := wr1 (k := k) (by omega) (by omega)
    have f1 := wr1 (k := k + 1) (by omega) (by omega)
    have f2 := wr1 (k := k + 1 + 1) (by omega) (by omega)
    have f3 := wr1 (k := k + 1 + 1 + 1) (by omega) (by omega)
    have f4 := wr1 (k := k + 1 + 1 + 1 + 1) (by omega) (by omega)
    have f5 := wr1 (k := k + 1 + 1 + 1 + 1 + 1) (by omega) (by omega)
    have f6 := wr1 (k := k + 1 + 1 + 1 + 1 + 1 + 1) (by omega) (by omega)
    have f7 := wr1 (k := k + 1 + 1 + 1 + 1 + 1 + 1 + 1) (by omega) (by omega)
    have f9 : ¬ (k1 < 0) := by omega
    have f10 := wr1 (k := k1) (by omega) (by omega)
    have f12 : ¬ (k2 < 0) := by omega
    have f13 := wr1 (k := k2) (by omega) (by omega)
    have f14 := wr1 (k := k2 + 1) (by omega) (by omega)
    have f16 : ¬ (k3 < 0) := by omega
    have f17 := wr1 (k := k3) (by omega) (by omega)
    have f18 := wr1 (k := k3 + 1) (by omega) (by omega)
    have f20 : ¬ (k4 < 0) := by omega
    have hlt : (i : Int) < (rows.length : Int) := by omega
    simp only [laws_heldSignedS_r0, un, cur0, lenP_eq, binP_lss, hlt, decide_true, decide_false, iteP_eq, if_true, elemP_row hr, atP_zero, atP_succ, binP_neq, bne_self_eq_false, Bool.false_eq_true, if_false, binP_add, binP_sneq, Bool.not_true, binP_rem, binP_eql, boolP_neq, f0, f1, f2, f3, f4, f5, f6, f7, g1, f9, f10, g2, f12, f13, f14, g3, f16, f17, f18, g4, f20, wr_succ (show i < 1000000000000000000 by omega), true_and, ne_eq, not_false_eq_true]
    simp
  obtain ⟨rows', k', p1, p2, p3, p4, p5⟩ := rows_mark eSigned (fun x : GSigned => mSigned x) 17 l (hrow True fun _ _ _ _ => True) k h0 (by omega)
  have hle : (l.length : Int) ≤ 1000000000000000 := by omega
  refine ⟨.list 17 rows', k', ?_, p3, p4, fun K => ?_⟩
  · exact mkS_list (by rw [List.length_map]; omega) p1
  · refine (call_of (fun K => ?_) K)
    obtain ⟨rows2, k2, r1, r2, r3, r4, r5⟩ := rows_mark eSigned (fun x : GSigned => mSigned x) 17 l (hrow (rt [.sc] [(I (-1))] K) fun q6 q7 q8 q9 => rt [.sc] [q7] K) k h0 (by omega)
    have hs := p1.symm.trans r1
    injection hs with hs; injection hs with hs1 hs2
    subst hs1; subst hs2
    have := r5 [] (I 0) (K [I k']) (by rw [List.nil_append, p2]; omega) fun K2 => by
      simp only [laws_heldSignedS_r0, un, cur0, lenP_eq, binP_lss, Int.lt_irrefl, decide_false, iteP_eq, Bool.false_eq_true, if_false, List.nil_append, rt_eq, scs_sc, scs_nil, flat_int, true_and]
    exact this
theorem marks_StringS (l : List ByteArray) (k : Int) (h0 : 0 ≤ k) (hb : k + 40 * (((l.length + sumN ByteArray.size l) : Nat) : Int) ≤ 1000000000000000) : ∃ p k', mk_StringS (strs l) k = some (p, k') ∧ k ≤ k' ∧ k' ≤ k + 40 * (((l.length + sumN ByteArray.size l) : Nat) : Int) ∧ ∀ K, call laws_heldStringS [.one p, .one (I k)] K = K [I k'] := by
  have hm : ((l.length + sumN ByteArray.size l) : Nat) = l.length + sumN (fun x : ByteArray => x.size) l := rfl
  rw [hm] at hb ⊢
  have hrow : ∀ (A : Prop) (B : PV → PV → PV → PV → Prop), ∀ x ∈ l, ∀ k, 0 ≤ k → k + 40 * (1 + ((fun x : ByteArray => x.size) x : Int)) ≤ 1000000000000000 → ∃ r' k', mkRow mk_StringS_r mtx mk_StringS_s (rS x) k = some (r', k') ∧ k ≤ k' ∧ k' ≤ k + 40 * (1 + ((fun x : ByteArray => x.size) x : Int)) ∧ ∀ (rows : List (List PV)) (i : Nat) K z, rows[i]? = some r' → i < rows.length → rows.length ≤ 1000000000000000 → ((fun L w => laws_heldStringS_r0 w L A B) K [.list 1 rows, I k, z, I i] ↔ K [.list 1 rows, I k', z, I ((i : Int) + 1)]) := by
    intro A B x hx k h0 hb
    have hle : (l.length : Int) ≤ 1000000000000000 := by omega
    clear hle
    try dsimp only at hb ⊢
    have hb0 := hb
    refine ⟨[.str (mtx (k))], k + 1, mk_sc rfl rfl rfl (wr1 (by omega) (by omega)) (rfl), by omega, by omega, fun rows i K z hr hi hn => ?_⟩
    have f0 := wr1 (k := k) (by omega) (by omega)
    have f1 := laws_markText_n (k) (rg_of (by omega) (by omega))
    have hlt : (i : Int) < (rows.length : Int) := by omega
    simp only [laws_heldStringS_r0, un, cur0, lenP_eq, binP_lss, hlt, decide_true, decide_false, iteP_eq, if_true, elemP_row hr, atP_zero, atP_succ, binP_neq, bne_self_eq_false, Bool.false_eq_true, if_false, binP_add, binP_sneq, Bool.not_true, binP_rem, binP_eql, boolP_neq, f0, f1, wr_succ (show i < 1000000000000000000 by omega), true_and, ne_eq, not_false_eq_true]
  obtain ⟨rows', k', p1, p2, p3, p4, p5⟩ := rows_mark rS (fun x : ByteArray => x.size) 1 l (hrow True fun _ _ _ _ => True) k h0 (by omega)
  have hle : (l.length : Int) ≤ 1000000000000000 := by omega
  refine ⟨.list 1 rows', k', ?_, p3, p4, fun K => ?_⟩
  · exact mkS_list (by rw [List.length_map]; omega) p1
  · refine (call_of (fun K => ?_) K)
    obtain ⟨rows2, k2, r1, r2, r3, r4, r5⟩ := rows_mark rS (fun x : ByteArray => x.size) 1 l (hrow (rt [.sc] [(I (-1))] K) fun q6 q7 q8 q9 => rt [.sc] [q7] K) k h0 (by omega)
    have hs := p1.symm.trans r1
    injection hs with hs; injection hs with hs1 hs2
    subst hs1; subst hs2
    have := r5 [] (I 0) (K [I k']) (by rw [List.nil_append, p2]; omega) fun K2 => by
      simp only [laws_heldStringS_r0, un, cur0, lenP_eq, binP_lss, Int.lt_irrefl, decide_false, iteP_eq, Bool.false_eq_true, if_false, List.nil_append, rt_eq, scs_sc, scs_nil, flat_int, true_and]
    exact this
theorem marks_EntryS (l : List GEntry) (k : Int) (h0 : 0 ≤ k) (hb : k + 40 * ((mEntryS l : Nat) : Int) ≤ 1000000000000000) : ∃ p k', mk_EntryS (.list 4 (l.map eEntry)) k = some (p, k') ∧ k ≤ k' ∧ k' ≤ k + 40 * ((mEntryS l : Nat) : Int) ∧ ∀ K, call laws_heldEntryS [.one p, .one (I k)] K = K [I k'] := by
  have hm : mEntryS l = l.length + sumN (fun x : GEntry => mEntry x) l := rfl
  rw [hm] at hb ⊢
  have hrow : ∀ (A : Prop) (B : PV → PV → PV → PV → Prop), ∀ x ∈ l, ∀ k, 0 ≤ k → k + 40 * (1 + ((fun x : GEntry => mEntry x) x : Int)) ≤ 1000000000000000 → ∃ r' k', mkRow mk_EntryS_r mtx mk_EntryS_s (eEntry x) k = some (r', k') ∧ k ≤ k' ∧ k' ≤ k + 40 * (1 + ((fun x : GEntry => mEntry x) x : Int)) ∧ ∀ (rows : List (List PV)) (i : Nat) K z, rows[i]? = some r' → i < rows.length → rows.length ≤ 1000000000000000 → ((fun L w => laws_heldEntryS_r0 w L A A B) K [.list 4 rows, I k, z, I i] ↔ K [.list 4 rows, I k', z, I ((i : Int) + 1)]) := by
    intro A B x hx k h0 hb
    have hle : (l.length : Int) ≤ 1000000000000000 := by omega
    clear hle
    try dsimp only at hb ⊢
    simp only [mEntry] at hb ⊢
    obtain ⟨p1, k1, e1, l1, u1, g1⟩ := marks_StringS x.Path (k + 1 + 1 + 1) (by omega) (by omega)
    refine ⟨[.str (mtx (k)), I (k + 1), I (k + 1 + 1), p1], k1, mk_sc (r1 := [.str (mtx (k)), I x.Kind, I x.Value, strs x.Path]) rfl rfl rfl (wr1 (by omega) (by omega)) (mk_sc (r1 := [.str (mtx (k)), I (k + 1), I x.Value, strs x.Path]) rfl rfl rfl (wr1 (by omega) (by omega)) (mk_sc (r1 := [.str (mtx (k)), I (k + 1), I (k + 1 + 1), strs x.Path]) rfl rfl rfl (wr1 (by omega) (by omega)) (mk_ca (r1 := [.str (mtx (k)), I (k + 1), I (k + 1 + 1), p1]) rfl rfl e1 rfl (rg_of (by omega) (by omega)) (rfl)))), by omega, by omega, fun rows i K z hr hi hn => ?_⟩
    have f0 := wr1 (k := k) (by omega) (by omega)
    have f1 := laws_markText_n (k) (rg_of (by omega) (by omega))
    have f2 := wr1 (k := k + 1) (by omega) (by omega)
    have f3 := wr1 (k := k + 1 + 1) (by omega) (by omega)
    have f5 : ¬ (k1 < 0) := by omega
    have hlt : (i : Int) < (rows.length : Int) := by omega
    simp only [laws_heldEntryS_r0, un, cur0, lenP_eq, binP_lss, hlt, decide_true, decide_false, iteP_eq, if_true, elemP_row hr, atP_zero, atP_succ, binP_neq, bne_self_eq_false, Bool.false_eq_true, if_false, binP_add, binP_sneq, Bool.not_true, binP_rem, binP_eql, boolP_neq, f0, f1, f2, f3, g1, f5, wr_succ (show i < 1000000000000000000 by omega), true_and, ne_eq, not_false_eq_true]
  obtain ⟨rows', k', p1, p2, p3, p4, p5⟩ := rows_mark eEntry (fun x : GEntry => mEntry x) 4 l (hrow True fun _ _ _ _ => True) k h0 (by omega)
  have hle : (l.length : Int) ≤ 1000000000000000 := by omega
  refine ⟨.list 4 rows', k', ?_, p3, p4, fun K => ?_⟩
  · exact mkS_list (by rw [List.length_map]; omega) p1
  · refine (call_of (fun K => ?_) K)
    obtain ⟨rows2, k2, r1, r2, r3, r4, r5⟩ := rows_mark eEntry (fun x : GEntry => mEntry x) 4 l (hrow (rt [.sc] [(I (-1))] K) fun q6 q7 q8 q9 => rt [.sc] [q7] K) k h0 (by omega)
    have hs := p1.symm.trans r1
    injection hs with hs; injection hs with hs1 hs2
    subst hs1; subst hs2
    have := r5 [] (I 0) (K [I k']) (by rw [List.nil_append, p2]; omega) fun K2 => by
      simp only [laws_heldEntryS_r0, un, cur0, lenP_eq, binP_lss, Int.lt_irrefl, decide_false, iteP_eq, Bool.false_eq_true, if_false, List.nil_append, rt_eq, scs_sc, scs_nil, flat_int, true_and]
    exact this
theorem marks_ZoneS (l : List GZone) (k : Int) (h0 : 0 ≤ k) (hb : k + 40 * ((mZoneS l : Nat) : Int) ≤ 1000000000000000) : ∃ p k', mk_ZoneS (.list 2 (l.map eZone)) k = some (p, k') ∧ k ≤ k' ∧ k' ≤ k + 40 * ((mZoneS l : Nat) : Int) ∧ True := by
  have hm : mZoneS l = l.length + sumN (fun x : GZone => mZone x) l := rfl
  rw [hm] at hb ⊢
  have hrow : ∀ x ∈ l, ∀ k, 0 ≤ k → k + 40 * (1 + ((fun x : GZone => mZone x) x : Int)) ≤ 1000000000000000 → ∃ r' k', mkRow mk_ZoneS_r mtx mk_ZoneS_s (eZone x) k = some (r', k') ∧ k ≤ k' ∧ k' ≤ k + 40 * (1 + ((fun x : GZone => mZone x) x : Int)) := by
    intro x hx k h0 hb
    have hle : (l.length : Int) ≤ 1000000000000000 := by omega
    clear hle
    try dsimp only at hb ⊢
    simp only [mZone] at hb ⊢
    obtain ⟨p1, k1, e1, l1, u1, g1⟩ := marks_SignedS x.Chain (k) (by omega) (by omega)
    obtain ⟨p2, k2, e2, l2, u2, g2⟩ := marks_EntryS x.Entries (k1) (by omega) (by omega)
    exact ⟨[p1, p2], k2, mk_ca rfl rfl e1 rfl (rg_of (by omega) (by omega)) (mk_ca rfl rfl e2 rfl (rg_of (by omega) (by omega)) (rfl)), by omega, by omega⟩
  obtain ⟨rows', k', p1, p3, p4⟩ := rows_mark0 eZone (fun x : GZone => mZone x) l hrow k h0 (by omega)
  exact ⟨.list 2 rows', k', mkS_list (by rw [List.length_map]; omega) p1, p3, p4, trivial⟩
theorem marks_SaidS (l : List GSaid) (k : Int) (h0 : 0 ≤ k) (hb : k + 40 * ((mSaidS l : Nat) : Int) ≤ 1000000000000000) : ∃ p k', mk_SaidS (.list 3 (l.map eSaid)) k = some (p, k') ∧ k ≤ k' ∧ k' ≤ k + 40 * ((mSaidS l : Nat) : Int) ∧ True := by
  have hm : mSaidS l = l.length + sumN (fun x : GSaid => mSaid x) l := rfl
  rw [hm] at hb ⊢
  have hrow : ∀ x ∈ l, ∀ k, 0 ≤ k → k + 40 * (1 + ((fun x : GSaid => mSaid x) x : Int)) ≤ 1000000000000000 → ∃ r' k', mkRow mk_SaidS_r mtx mk_SaidS_s (eSaid x) k = some (r', k') ∧ k ≤ k' ∧ k' ≤ k + 40 * (1 + ((fun x : GSaid => mSaid x) x : Int)) := by
    intro x hx k h0 hb
    have hle : (l.length : Int) ≤ 1000000000000000 := by omega
    clear hle
    try dsimp only at hb ⊢
    simp only [mSaid, mZone] at hb ⊢
    obtain ⟨p1, k1, e1, l1, u1, g1⟩ := marks_SignedS x.Zone.Chain (k) (by omega) (by omega)
    obtain ⟨p2, k2, e2, l2, u2, g2⟩ := marks_EntryS x.Zone.Entries (k1) (by omega) (by omega)
    obtain ⟨p3, k3, e3, l3, u3, g3⟩ := marks_IntS x.Held (k2) (by omega) (by omega)
    exact ⟨[p1, p2, p3], k3, mk_ca rfl rfl e1 rfl (rg_of (by omega) (by omega)) (mk_ca rfl rfl e2 rfl (rg_of (by omega) (by omega)) (mk_ca rfl rfl e3 rfl (rg_of (by omega) (by omega)) (rfl))), by omega, by omega⟩
  obtain ⟨rows', k', p1, p3, p4⟩ := rows_mark0 eSaid (fun x : GSaid => mSaid x) l hrow k h0 (by omega)
  exact ⟨.list 3 rows', k', mkS_list (by rw [List.length_map]; omega) p1, p3, p4, trivial⟩
theorem marks_ServerS (l : List GServer) (k : Int) (h0 : 0 ≤ k) (hb : k + 40 * ((mServerS l : Nat) : Int) ≤ 1000000000000000) : ∃ p k', mk_ServerS (.list 2 (l.map eServer)) k = some (p, k') ∧ k ≤ k' ∧ k' ≤ k + 40 * ((mServerS l : Nat) : Int) ∧ True := by
  have hm : mServerS l = l.length + sumN (fun x : GServer => mServer x) l := rfl
  rw [hm] at hb ⊢
  have hrow : ∀ x ∈ l, ∀ k, 0 ≤ k → k + 40 * (1 + ((fun x : GServer => mServer x) x : Int)) ≤ 1000000000000000 → ∃ r' k', mkRow mk_ServerS_r mtx mk_ServerS_s (eServer x) k = some (r', k') ∧ k ≤ k' ∧ k' ≤ k + 40 * (1 + ((fun x : GServer => mServer x) x : Int)) := by
    intro x hx k h0 hb
    have hle : (l.length : Int) ≤ 1000000000000000 := by omega
    clear hle
    try dsimp only at hb ⊢
    simp only [mServer] at hb ⊢
    obtain ⟨p1, k1, e1, l1, u1, g1⟩ := marks_ZoneS x.Zones (k) (by omega) (by omega)
    exact ⟨[p1, I (k1)], k1 + 1, mk_ca rfl rfl e1 rfl (rg_of (by omega) (by omega)) (mk_sc rfl rfl rfl (wr1 (by omega) (by omega)) (rfl)), by omega, by omega⟩
  obtain ⟨rows', k', p1, p3, p4⟩ := rows_mark0 eServer (fun x : GServer => mServer x) l hrow k h0 (by omega)
  exact ⟨.list 2 rows', k', mkS_list (by rw [List.length_map]; omega) p1, p3, p4, trivial⟩
theorem marks_SignedSS (l : List (List GSigned)) (k : Int) (h0 : 0 ≤ k) (hb : k + 40 * ((mSignedSS l : Nat) : Int) ≤ 1000000000000000) : ∃ p k', mk_SignedSS (.list 1 (l.map (fun l : List GSigned => [.list 17 (l.map eSigned)]))) k = some (p, k') ∧ k ≤ k' ∧ k' ≤ k + 40 * ((mSignedSS l : Nat) : Int) ∧ True := by
  have hm : mSignedSS l = l.length + sumN (fun x : List GSigned => mSignedS x) l := rfl
  rw [hm] at hb ⊢
  have hrow : ∀ x ∈ l, ∀ k, 0 ≤ k → k + 40 * (1 + ((fun x : List GSigned => mSignedS x) x : Int)) ≤ 1000000000000000 → ∃ r' k', mkRow mk_SignedSS_r mtx mk_SignedSS_s ((fun l : List GSigned => [.list 17 (l.map eSigned)]) x) k = some (r', k') ∧ k ≤ k' ∧ k' ≤ k + 40 * (1 + ((fun x : List GSigned => mSignedS x) x : Int)) := by
    intro x hx k h0 hb
    have hle : (l.length : Int) ≤ 1000000000000000 := by omega
    clear hle
    try dsimp only at hb ⊢
    have hb0 := hb
    obtain ⟨p1, k1, e1, l1, u1, g1⟩ := marks_SignedS x (k) (by omega) (by omega)
    exact ⟨[p1], k1, mk_ca rfl rfl e1 rfl (rg_of (by omega) (by omega)) (rfl), by omega, by omega⟩
  obtain ⟨rows', k', p1, p3, p4⟩ := rows_mark0 (fun l : List GSigned => [.list 17 (l.map eSigned)]) (fun x : List GSigned => mSignedS x) l hrow k h0 (by omega)
  exact ⟨.list 1 rows', k', mkS_list (by rw [List.length_map]; omega) p1, p3, p4, trivial⟩
theorem marks_ForkS (l : List GFork) (k : Int) (h0 : 0 ≤ k) (hb : k + 40 * ((mForkS l : Nat) : Int) ≤ 1000000000000000) : ∃ p k', mk_ForkS (.list 51 (l.map eFork)) k = some (p, k') ∧ k ≤ k' ∧ k' ≤ k + 40 * ((mForkS l : Nat) : Int) ∧ True := by
  have hm : mForkS l = l.length + sumN (fun x : GFork => mFork x) l := rfl
  rw [hm] at hb ⊢
  have hrow : ∀ x ∈ l, ∀ k, 0 ≤ k → k + 40 * (1 + ((fun x : GFork => mFork x) x : Int)) ≤ 1000000000000000 → ∃ r' k', mkRow mk_ForkS_r mtx mk_ForkS_s (eFork x) k = some (r', k') ∧ k ≤ k' ∧ k' ≤ k + 40 * (1 + ((fun x : GFork => mFork x) x : Int)) := by
    intro x hx k h0 hb
    have hle : (l.length : Int) ≤ 1000000000000000 := by omega
    clear hle
    try dsimp only at hb ⊢
    simp only [mFork, mHead, mKeys, mSigned] at hb ⊢
    obtain ⟨p1, k1, e1, l1, u1, g1⟩ := marks_IntS x.Before.Head.Keys.Lst (k + 1 + 1 + 1 + 1 + 1 + 1 + 1 + 1) (by omega) (by omega)
    obtain ⟨p2, k2, e2, l2, u2, g2⟩ := marks_IntS x.Before.Head.Heirs.Lst (k1 + 1) (by omega) (by omega)
    obtain ⟨p3, k3, e3, l3, u3, g3⟩ := marks_IntS x.Before.Head.Judge.Lst (k2 + 1 + 1) (by omega) (by omega)
    obtain ⟨p4, k4, e4, l4, u4, g4⟩ := marks_SigS x.Before.Sigs (k3 + 1 + 1) (by omega) (by omega)
    obtain ⟨p5, k5, e5, l5, u5, g5⟩ := marks_IntS x.A.Head.Keys.Lst (k4 + 1 + 1 + 1 + 1 + 1 + 1 + 1 + 1) (by omega) (by omega)
    obtain ⟨p6, k6, e6, l6, u6, g6⟩ := marks_IntS x.A.Head.Heirs.Lst (k5 + 1) (by omega) (by omega)
    obtain ⟨p7, k7, e7, l7, u7, g7⟩ := marks_IntS x.A.Head.Judge.Lst (k6 + 1 + 1) (by omega) (by omega)
    obtain ⟨p8, k8, e8, l8, u8, g8⟩ := marks_SigS x.A.Sigs (k7 + 1 + 1) (by omega) (by omega)
    obtain ⟨p9, k9, e9, l9, u9, g9⟩ := marks_IntS x.B.Head.Keys.Lst (k8 + 1 + 1 + 1 + 1 + 1 + 1 + 1 + 1) (by omega) (by omega)
    obtain ⟨p10, k10, e10, l10, u10, g10⟩ := marks_IntS x.B.Head.Heirs.Lst (k9 + 1) (by omega) (by omega)
    obtain ⟨p11, k11, e11, l11, u11, g11⟩ := marks_IntS x.B.Head.Judge.Lst (k10 + 1 + 1) (by omega) (by omega)
    obtain ⟨p12, k12, e12, l12, u12, g12⟩ := marks_SigS x.B.Sigs (k11 + 1 + 1) (by omega) (by omega)
    exact ⟨[I (k), I (k + 1), I (k + 1 + 1), I (k + 1 + 1 + 1), I (k + 1 + 1 + 1 + 1), I (k + 1 + 1 + 1 + 1 + 1), I (k + 1 + 1 + 1 + 1 + 1 + 1), I (k + 1 + 1 + 1 + 1 + 1 + 1 + 1), p1, I (k1), p2, I (k2), I (k2 + 1), p3, I (k3), .bool ((k3 + 1).tmod 3 == 0), p4, I (k4), I (k4 + 1), I (k4 + 1 + 1), I (k4 + 1 + 1 + 1), I (k4 + 1 + 1 + 1 + 1), I (k4 + 1 + 1 + 1 + 1 + 1), I (k4 + 1 + 1 + 1 + 1 + 1 + 1), I (k4 + 1 + 1 + 1 + 1 + 1 + 1 + 1), p5, I (k5), p6, I (k6), I (k6 + 1), p7, I (k7), .bool ((k7 + 1).tmod 3 == 0), p8, I (k8), I (k8 + 1), I (k8 + 1 + 1), I (k8 + 1 + 1 + 1), I (k8 + 1 + 1 + 1 + 1), I (k8 + 1 + 1 + 1 + 1 + 1), I (k8 + 1 + 1 + 1 + 1 + 1 + 1), I (k8 + 1 + 1 + 1 + 1 + 1 + 1 + 1), p9, I (k9), p10, I (k10), I (k10 + 1), p11, I (k11), .bool ((k11 + 1).tmod 3 == 0), p12], k12, mk_sc (r1 := [I (k), I x.Before.Head.Epoch, I x.Before.Head.Kind, I x.Before.Head.Time, I x.Before.Head.Until, I x.Before.Head.Count, I x.Before.Head.Root, I x.Before.Head.Prev, ints x.Before.Head.Keys.Lst, I x.Before.Head.Keys.Need, ints x.Before.Head.Heirs.Lst, I x.Before.Head.Heirs.Need, I x.Before.Head.Wait, ints x.Before.Head.Judge.Lst, I x.Before.Head.Judge.Need, .bool x.Before.Head.Frozen, .list 2 (x.Before.Sigs.map eSig), I x.A.Head.Zone, I x.A.Head.Epoch, I x.A.Head.Kind, I x.A.Head.Time, I x.A.Head.Until, I x.A.Head.Count, I x.A.Head.Root, I x.A.Head.Prev, ints x.A.Head.Keys.Lst, I x.A.Head.Keys.Need, ints x.A.Head.Heirs.Lst, I x.A.Head.Heirs.Need, I x.A.Head.Wait, ints x.A.Head.Judge.Lst, I x.A.Head.Judge.Need, .bool x.A.Head.Frozen, .list 2 (x.A.Sigs.map eSig), I x.B.Head.Zone, I x.B.Head.Epoch, I x.B.Head.Kind, I x.B.Head.Time, I x.B.Head.Until, I x.B.Head.Count, I x.B.Head.Root, I x.B.Head.Prev, ints x.B.Head.Keys.Lst, I x.B.Head.Keys.Need, ints x.B.Head.Heirs.Lst, I x.B.Head.Heirs.Need, I x.B.Head.Wait, ints x.B.Head.Judge.Lst, I x.B.Head.Judge.Need, .bool x.B.Head.Frozen, .list 2 (x.B.Sigs.map eSig)]) rfl rfl rfl (wr1 (by omega) (by omega)) (mk_sc (r1 := [I (k), I (k + 1), I x.Before.Head.Kind, I x.Before.Head.Time, I x.Before.Head.Until, I x.Before.Head.Count, I x.Before.Head.Root, I x.Before.Head.Prev, ints x.Before.Head.Keys.Lst, I x.Before.Head.Keys.Need, ints x.Before.Head.Heirs.Lst, I x.Before.Head.Heirs.Need, I x.Before.Head.Wait, ints x.Before.Head.Judge.Lst, I x.Before.Head.Judge.Need, .bool x.Before.Head.Frozen, .list 2 (x.Before.Sigs.map eSig), I x.A.Head.Zone, I x.A.Head.Epoch, I x.A.Head.Kind, I x.A.Head.Time, I x.A.Head.Until, I x.A.Head.Count, I x.A.Head.Root, I x.A.Head.Prev, ints x.A.Head.Keys.Lst, I x.A.Head.Keys.Need, ints x.A.Head.Heirs.Lst, I x.A.Head.Heirs.Need, I x.A.Head.Wait, ints x.A.Head.Judge.Lst, I x.A.Head.Judge.Need, .bool x.A.Head.Frozen, .list 2 (x.A.Sigs.map eSig), I x.B.Head.Zone, I x.B.Head.Epoch, I x.B.Head.Kind, I x.B.Head.Time, I x.B.Head.Until, I x.B.Head.Count, I x.B.Head.Root, I x.B.Head.Prev, ints x.B.Head.Keys.Lst, I x.B.Head.Keys.Need, ints x.B.Head.Heirs.Lst, I x.B.Head.Heirs.Need, I x.B.Head.Wait, ints x.B.Head.Judge.Lst, I x.B.Head.Judge.Need, .bool x.B.Head.Frozen, .list 2 (x.B.Sigs.map eSig)]) rfl rfl rfl (wr1 (by omega) (by omega)) (mk_sc (r1 := [I (k), I (k + 1), I (k + 1 + 1), I x.Before.Head.Time, I x.Before.Head.Until, I x.Before.Head.Count, I x.Before.Head.Root, I x.Before.Head.Prev, ints x.Before.Head.Keys.Lst, I x.Before.Head.Keys.Need, ints x.Before.Head.Heirs.Lst, I x.Before.Head.Heirs.Need, I x.Before.Head.Wait, ints x.Before.Head.Judge.Lst, I x.Before.Head.Judge.Need, .bool x.Before.Head.Frozen, .list 2 (x.Before.Sigs.map eSig), I x.A.Head.Zone, I x.A.Head.Epoch, I x.A.Head.Kind, I x.A.Head.Time, I x.A.Head.Until, I x.A.Head.Count, I x.A.Head.Root, I x.A.Head.Prev, ints x.A.Head.Keys.Lst, I x.A.Head.Keys.Need, ints x.A.Head.Heirs.Lst, I x.A.Head.Heirs.Need, I x.A.Head.Wait, ints x.A.Head.Judge.Lst, I x.A.Head.Judge.Need, .bool x.A.Head.Frozen, .list 2 (x.A.Sigs.map eSig), I x.B.Head.Zone, I x.B.Head.Epoch, I x.B.Head.Kind, I x.B.Head.Time, I x.B.Head.Until, I x.B.Head.Count, I x.B.Head.Root, I x.B.Head.Prev, ints x.B.Head.Keys.Lst, I x.B.Head.Keys.Need, ints x.B.Head.Heirs.Lst, I x.B.Head.Heirs.Need, I x.B.Head.Wait, ints x.B.Head.Judge.Lst, I x.B.Head.Judge.Need, .bool x.B.Head.Frozen, .list 2 (x.B.Sigs.map eSig)]) rfl rfl rfl (wr1 (by omega) (by omega)) (mk_sc (r1 := [I (k), I (k + 1), I (k + 1 + 1), I (k + 1 + 1 + 1), I x.Before.Head.Until, I x.Before.Head.Count, I x.Before.Head.Root, I x.Before.Head.Prev, ints x.Before.Head.Keys.Lst, I x.Before.Head.Keys.Need, ints x.Before.Head.Heirs.Lst, I x.Before.Head.Heirs.Need, I x.Before.Head.Wait, ints x.Before.Head.Judge.Lst, I x.Before.Head.Judge.Need, .bool x.Before.Head.Frozen, .list 2 (x.Before.Sigs.map eSig), I x.A.Head.Zone, I x.A.Head.Epoch, I x.A.Head.Kind, I x.A.Head.Time, I x.A.Head.Until, I x.A.Head.Count, I x.A.Head.Root, I x.A.Head.Prev, ints x.A.Head.Keys.Lst, I x.A.Head.Keys.Need, ints x.A.Head.Heirs.Lst, I x.A.Head.Heirs.Need, I x.A.Head.Wait, ints x.A.Head.Judge.Lst, I x.A.Head.Judge.Need, .bool x.A.Head.Frozen, .list 2 (x.A.Sigs.map eSig), I x.B.Head.Zone, I x.B.Head.Epoch, I x.B.Head.Kind, I x.B.Head.Time, I x.B.Head.Until, I x.B.Head.Count, I x.B.Head.Root, I x.B.Head.Prev, ints x.B.Head.Keys.Lst, I x.B.Head.Keys.Need, ints x.B.Head.Heirs.Lst, I x.B.Head.Heirs.Need, I x.B.Head.Wait, ints x.B.Head.Judge.Lst, I x.B.Head.Judge.Need, .bool x.B.Head.Frozen, .list 2 (x.B.Sigs.map eSig)]) rfl rfl rfl (wr1 (by omega) (by omega)) (mk_sc (r1 := [I (k), I (k + 1), I (k + 1 + 1), I (k + 1 + 1 + 1), I (k + 1 + 1 + 1 + 1), I x.Before.Head.Count, I x.Before.Head.Root, I x.Before.Head.Prev, ints x.Before.Head.Keys.Lst, I x.Before.Head.Keys.Need, ints x.Before.Head.Heirs.Lst, I x.Before.Head.Heirs.Need, I x.Before.Head.Wait, ints x.Before.Head.Judge.Lst, I x.Before.Head.Judge.Need, .bool x.Before.Head.Frozen, .list 2 (x.Before.Sigs.map eSig), I x.A.Head.Zone, I x.A.Head.Epoch, I x.A.Head.Kind, I x.A.Head.Time, I x.A.Head.Until, I x.A.Head.Count, I x.A.Head.Root, I x.A.Head.Prev, ints x.A.Head.Keys.Lst, I x.A.Head.Keys.Need, ints x.A.Head.Heirs.Lst, I x.A.Head.Heirs.Need, I x.A.Head.Wait, ints x.A.Head.Judge.Lst, I x.A.Head.Judge.Need, .bool x.A.Head.Frozen, .list 2 (x.A.Sigs.map eSig), I x.B.Head.Zone, I x.B.Head.Epoch, I x.B.Head.Kind, I x.B.Head.Time, I x.B.Head.Until, I x.B.Head.Count, I x.B.Head.Root, I x.B.Head.Prev, ints x.B.Head.Keys.Lst, I x.B.Head.Keys.Need, ints x.B.Head.Heirs.Lst, I x.B.Head.Heirs.Need, I x.B.Head.Wait, ints x.B.Head.Judge.Lst, I x.B.Head.Judge.Need, .bool x.B.Head.Frozen, .list 2 (x.B.Sigs.map eSig)]) rfl rfl rfl (wr1 (by omega) (by omega)) (mk_sc (r1 := [I (k), I (k + 1), I (k + 1 + 1), I (k + 1 + 1 + 1), I (k + 1 + 1 + 1 + 1), I (k + 1 + 1 + 1 + 1 + 1), I x.Before.Head.Root, I x.Before.Head.Prev, ints x.Before.Head.Keys.Lst, I x.Before.Head.Keys.Need, ints x.Before.Head.Heirs.Lst, I x.Before.Head.Heirs.Need, I x.Before.Head.Wait, ints x.Before.Head.Judge.Lst, I x.Before.Head.Judge.Need, .bool x.Before.Head.Frozen, .list 2 (x.Before.Sigs.map eSig), I x.A.Head.Zone, I x.A.Head.Epoch, I x.A.Head.Kind, I x.A.Head.Time, I x.A.Head.Until, I x.A.Head.Count, I x.A.Head.Root, I x.A.Head.Prev, ints x.A.Head.Keys.Lst, I x.A.Head.Keys.Need, ints x.A.Head.Heirs.Lst, I x.A.Head.Heirs.Need, I x.A.Head.Wait, ints x.A.Head.Judge.Lst, I x.A.Head.Judge.Need, .bool x.A.Head.Frozen, .list 2 (x.A.Sigs.map eSig), I x.B.Head.Zone, I x.B.Head.Epoch, I x.B.Head.Kind, I x.B.Head.Time, I x.B.Head.Until, I x.B.Head.Count, I x.B.Head.Root, I x.B.Head.Prev, ints x.B.Head.Keys.Lst, I x.B.Head.Keys.Need, ints x.B.Head.Heirs.Lst, I x.B.Head.Heirs.Need, I x.B.Head.Wait, ints x.B.Head.Judge.Lst, I x.B.Head.Judge.Need, .bool x.B.Head.Frozen, .list 2 (x.B.Sigs.map eSig)]) rfl rfl rfl (wr1 (by omega) (by omega)) (mk_sc (r1 := [I (k), I (k + 1), I (k + 1 + 1), I (k + 1 + 1 + 1), I (k + 1 + 1 + 1 + 1), I (k + 1 + 1 + 1 + 1 + 1), I (k + 1 + 1 + 1 + 1 + 1 + 1), I x.Before.Head.Prev, ints x.Before.Head.Keys.Lst, I x.Before.Head.Keys.Need, ints x.Before.Head.Heirs.Lst, I x.Before.Head.Heirs.Need, I x.Before.Head.Wait, ints x.Before.Head.Judge.Lst, I x.Before.Head.Judge.Need, .bool x.Before.Head.Frozen, .list 2 (x.Before.Sigs.map eSig), I x.A.Head.Zone, I x.A.Head.Epoch, I x.A.Head.Kind, I x.A.Head.Time, I x.A.Head.Until, I x.A.Head.Count, I x.A.Head.Root, I x.A.Head.Prev, ints x.A.Head.Keys.Lst, I x.A.Head.Keys.Need, ints x.A.Head.Heirs.Lst, I x.A.Head.Heirs.Need, I x.A.Head.Wait, ints x.A.Head.Judge.Lst, I x.A.Head.Judge.Need, .bool x.A.Head.Frozen, .list 2 (x.A.Sigs.map eSig), I x.B.Head.Zone, I x.B.Head.Epoch, I x.B.Head.Kind, I x.B.Head.Time, I x.B.Head.Until, I x.B.Head.Count, I x.B.Head.Root, I x.B.Head.Prev, ints x.B.Head.Keys.Lst, I x.B.Head.Keys.Need, ints x.B.Head.Heirs.Lst, I x.B.Head.Heirs.Need, I x.B.Head.Wait, ints x.B.Head.Judge.Lst, I x.B.Head.Judge.Need, .bool x.B.Head.Frozen, .list 2 (x.B.Sigs.map eSig)]) rfl rfl rfl (wr1 (by omega) (by omega)) (mk_sc (r1 := [I (k), I (k + 1), I (k + 1 + 1), I (k + 1 + 1 + 1), I (k + 1 + 1 + 1 + 1), I (k + 1 + 1 + 1 + 1 + 1), I (k + 1 + 1 + 1 + 1 + 1 + 1), I (k + 1 + 1 + 1 + 1 + 1 + 1 + 1), ints x.Before.Head.Keys.Lst, I x.Before.Head.Keys.Need, ints x.Before.Head.Heirs.Lst, I x.Before.Head.Heirs.Need, I x.Before.Head.Wait, ints x.Before.Head.Judge.Lst, I x.Before.Head.Judge.Need, .bool x.Before.Head.Frozen, .list 2 (x.Before.Sigs.map eSig), I x.A.Head.Zone, I x.A.Head.Epoch, I x.A.Head.Kind, I x.A.Head.Time, I x.A.Head.Until, I x.A.Head.Count, I x.A.Head.Root, I x.A.Head.Prev, ints x.A.Head.Keys.Lst, I x.A.Head.Keys.Need, ints x.A.Head.Heirs.Lst, I x.A.Head.Heirs.Need, I x.A.Head.Wait, ints x.A.Head.Judge.Lst, I x.A.Head.Judge.Need, .bool x.A.Head.Frozen, .list 2 (x.A.Sigs.map eSig), I x.B.Head.Zone, I x.B.Head.Epoch, I x.B.Head.Kind, I x.B.Head.Time, I x.B.Head.Until, I x.B.Head.Count, I x.B.Head.Root, I x.B.Head.Prev, ints x.B.Head.Keys.Lst, I x.B.Head.Keys.Need, ints x.B.Head.Heirs.Lst, I x.B.Head.Heirs.Need, I x.B.Head.Wait, ints x.B.Head.Judge.Lst, I x.B.Head.Judge.Need, .bool x.B.Head.Frozen, .list 2 (x.B.Sigs.map eSig)]) rfl rfl rfl (wr1 (by omega) (by omega)) (mk_ca (r1 := [I (k), I (k + 1), I (k + 1 + 1), I (k + 1 + 1 + 1), I (k + 1 + 1 + 1 + 1), I (k + 1 + 1 + 1 + 1 + 1), I (k + 1 + 1 + 1 + 1 + 1 + 1), I (k + 1 + 1 + 1 + 1 + 1 + 1 + 1), p1, I x.Before.Head.Keys.Need, ints x.Before.Head.Heirs.Lst, I x.Before.Head.Heirs.Need, I x.Before.Head.Wait, ints x.Before.Head.Judge.Lst, I x.Before.Head.Judge.Need, .bool x.Before.Head.Frozen, .list 2 (x.Before.Sigs.map eSig), I x.A.Head.Zone, I x.A.Head.Epoch, I x.A.Head.Kind, I x.A.Head.Time, I x.A.Head.Until, I x.A.Head.Count, I x.A.Head.Root, I x.A.Head.Prev, ints x.A.Head.Keys.Lst, I x.A.Head.Keys.Need, ints x.A.Head.Heirs.Lst, I x.A.Head.Heirs.Need, I x.A.Head.Wait, ints x.A.Head.Judge.Lst, I x.A.Head.Judge.Need, .bool x.A.Head.Frozen, .list 2 (x.A.Sigs.map eSig), I x.B.Head.Zone, I x.B.Head.Epoch, I x.B.Head.Kind, I x.B.Head.Time, I x.B.Head.Until, I x.B.Head.Count, I x.B.Head.Root, I x.B.Head.Prev, ints x.B.Head.Keys.Lst, I x.B.Head.Keys.Need, ints x.B.Head.Heirs.Lst, I x.B.Head.Heirs.Need, I x.B.Head.Wait, ints x.B.Head.Judge.Lst, I x.B.Head.Judge.Need, .bool x.B.Head.Frozen, .list 2 (x.B.Sigs.map eSig)]) rfl rfl e1 rfl (rg_of (by omega) (by omega)) (mk_sc (r1 := [I (k), I (k + 1), I (k + 1 + 1), I (k + 1 + 1 + 1), I (k + 1 + 1 + 1 + 1), I (k + 1 + 1 + 1 + 1 + 1), I (k + 1 + 1 + 1 + 1 + 1 + 1), I (k + 1 + 1 + 1 + 1 + 1 + 1 + 1), p1, I (k1), ints x.Before.Head.Heirs.Lst, I x.Before.Head.Heirs.Need, I x.Before.Head.Wait, ints x.Before.Head.Judge.Lst, I x.Before.Head.Judge.Need, .bool x.Before.Head.Frozen, .list 2 (x.Before.Sigs.map eSig), I x.A.Head.Zone, I x.A.Head.Epoch, I x.A.Head.Kind, I x.A.Head.Time, I x.A.Head.Until, I x.A.Head.Count, I x.A.Head.Root, I x.A.Head.Prev, ints x.A.Head.Keys.Lst, I x.A.Head.Keys.Need, ints x.A.Head.Heirs.Lst, I x.A.Head.Heirs.Need, I x.A.Head.Wait, ints x.A.Head.Judge.Lst, I x.A.Head.Judge.Need, .bool x.A.Head.Frozen, .list 2 (x.A.Sigs.map eSig), I x.B.Head.Zone, I x.B.Head.Epoch, I x.B.Head.Kind, I x.B.Head.Time, I x.B.Head.Until, I x.B.Head.Count, I x.B.Head.Root, I x.B.Head.Prev, ints x.B.Head.Keys.Lst, I x.B.Head.Keys.Need, ints x.B.Head.Heirs.Lst, I x.B.Head.Heirs.Need, I x.B.Head.Wait, ints x.B.Head.Judge.Lst, I x.B.Head.Judge.Need, .bool x.B.Head.Frozen, .list 2 (x.B.Sigs.map eSig)]) rfl rfl rfl (wr1 (by omega) (by omega)) (mk_ca (r1 := [I (k), I (k + 1), I (k + 1 + 1), I (k + 1 + 1 + 1), I (k + 1 + 1 + 1 + 1), I (k + 1 + 1 + 1 + 1 + 1), I (k + 1 + 1 + 1 + 1 + 1 + 1), I (k + 1 + 1 + 1 + 1 + 1 + 1 + 1), p1, I (k1), p2, I x.Before.Head.Heirs.Need, I x.Before.Head.Wait, ints x.Before.Head.Judge.Lst, I x.Before.Head.Judge.Need, .bool x.Before.Head.Frozen, .list 2 (x.Before.Sigs.map eSig), I x.A.Head.Zone, I x.A.Head.Epoch, I x.A.Head.Kind, I x.A.Head.Time, I x.A.Head.Until, I x.A.Head.Count, I x.A.Head.Root, I x.A.Head.Prev, ints x.A.Head.Keys.Lst, I x.A.Head.Keys.Need, ints x.A.Head.Heirs.Lst, I x.A.Head.Heirs.Need, I x.A.Head.Wait, ints x.A.Head.Judge.Lst, I x.A.Head.Judge.Need, .bool x.A.Head.Frozen, .list 2 (x.A.Sigs.map eSig), I x.B.Head.Zone, I x.B.Head.Epoch, I x.B.Head.Kind, I x.B.Head.Time, I x.B.Head.Until, I x.B.Head.Count, I x.B.Head.Root, I x.B.Head.Prev, ints x.B.Head.Keys.Lst, I x.B.Head.Keys.Need, ints x.B.Head.Heirs.Lst, I x.B.Head.Heirs.Need, I x.B.Head.Wait, ints x.B.Head.Judge.Lst, I x.B.Head.Judge.Need, .bool x.B.Head.Frozen, .list 2 (x.B.Sigs.map eSig)]) rfl rfl e2 rfl (rg_of (by omega) (by omega)) (mk_sc (r1 := [I (k), I (k + 1), I (k + 1 + 1), I (k + 1 + 1 + 1), I (k + 1 + 1 + 1 + 1), I (k + 1 + 1 + 1 + 1 + 1), I (k + 1 + 1 + 1 + 1 + 1 + 1), I (k + 1 + 1 + 1 + 1 + 1 + 1 + 1), p1, I (k1), p2, I (k2), I x.Before.Head.Wait, ints x.Before.Head.Judge.Lst, I x.Before.Head.Judge.Need, .bool x.Before.Head.Frozen, .list 2 (x.Before.Sigs.map eSig), I x.A.Head.Zone, I x.A.Head.Epoch, I x.A.Head.Kind, I x.A.Head.Time, I x.A.Head.Until, I x.A.Head.Count, I x.A.Head.Root, I x.A.Head.Prev, ints x.A.Head.Keys.Lst, I x.A.Head.Keys.Need, ints x.A.Head.Heirs.Lst, I x.A.Head.Heirs.Need, I x.A.Head.Wait, ints x.A.Head.Judge.Lst, I x.A.Head.Judge.Need, .bool x.A.Head.Frozen, .list 2 (x.A.Sigs.map eSig), I x.B.Head.Zone, I x.B.Head.Epoch, I x.B.Head.Kind, I x.B.Head.Time, I x.B.Head.Until, I x.B.Head.Count, I x.B.Head.Root, I x.B.Head.Prev, ints x.B.Head.Keys.Lst, I x.B.Head.Keys.Need, ints x.B.Head.Heirs.Lst, I x.B.Head.Heirs.Need, I x.B.Head.Wait, ints x.B.Head.Judge.Lst, I x.B.Head.Judge.Need, .bool x.B.Head.Frozen, .list 2 (x.B.Sigs.map eSig)]) rfl rfl rfl (wr1 (by omega) (by omega)) (mk_sc (r1 := [I (k), I (k + 1), I (k + 1 + 1), I (k + 1 + 1 + 1), I (k + 1 + 1 + 1 + 1), I (k + 1 + 1 + 1 + 1 + 1), I (k + 1 + 1 + 1 + 1 + 1 + 1), I (k + 1 + 1 + 1 + 1 + 1 + 1 + 1), p1, I (k1), p2, I (k2), I (k2 + 1), ints x.Before.Head.Judge.Lst, I x.Before.Head.Judge.Need, .bool x.Before.Head.Frozen, .list 2 (x.Before.Sigs.map eSig), I x.A.Head.Zone, I x.A.Head.Epoch, I x.A.Head.Kind, I x.A.Head.Time, I x.A.Head.Until, I x.A.Head.Count, I x.A.Head.Root, I x.A.Head.Prev, ints x.A.Head.Keys.Lst, I x.A.Head.Keys.Need, ints x.A.Head.Heirs.Lst, I x.A.Head.Heirs.Need, I x.A.Head.Wait, ints x.A.Head.Judge.Lst, I x.A.Head.Judge.Need, .bool x.A.Head.Frozen, .list 2 (x.A.Sigs.map eSig), I x.B.Head.Zone, I x.B.Head.Epoch, I x.B.Head.Kind, I x.B.Head.Time, I x.B.Head.Until, I x.B.Head.Count, I x.B.Head.Root, I x.B.Head.Prev, ints x.B.Head.Keys.Lst, I x.B.Head.Keys.Need, ints x.B.Head.Heirs.Lst, I x.B.Head.Heirs.Need, I x.B.Head.Wait, ints x.B.Head.Judge.Lst, I x.B.Head.Judge.Need, .bool x.B.Head.Frozen, .list 2 (x.B.Sigs.map eSig)]) rfl rfl rfl (wr1 (by omega) (by omega)) (mk_ca (r1 := [I (k), I (k + 1), I (k + 1 + 1), I (k + 1 + 1 + 1), I (k + 1 + 1 + 1 + 1), I (k + 1 + 1 + 1 + 1 + 1), I (k + 1 + 1 + 1 + 1 + 1 + 1), I (k + 1 + 1 + 1 + 1 + 1 + 1 + 1), p1, I (k1), p2, I (k2), I (k2 + 1), p3, I x.Before.Head.Judge.Need, .bool x.Before.Head.Frozen, .list 2 (x.Before.Sigs.map eSig), I x.A.Head.Zone, I x.A.Head.Epoch, I x.A.Head.Kind, I x.A.Head.Time, I x.A.Head.Until, I x.A.Head.Count, I x.A.Head.Root, I x.A.Head.Prev, ints x.A.Head.Keys.Lst, I x.A.Head.Keys.Need, ints x.A.Head.Heirs.Lst, I x.A.Head.Heirs.Need, I x.A.Head.Wait, ints x.A.Head.Judge.Lst, I x.A.Head.Judge.Need, .bool x.A.Head.Frozen, .list 2 (x.A.Sigs.map eSig), I x.B.Head.Zone, I x.B.Head.Epoch, I x.B.Head.Kind, I x.B.Head.Time, I x.B.Head.Until, I x.B.Head.Count, I x.B.Head.Root, I x.B.Head.Prev, ints x.B.Head.Keys.Lst, I x.B.Head.Keys.Need, ints x.B.Head.Heirs.Lst, I x.B.Head.Heirs.Need, I x.B.Head.Wait, ints x.B.Head.Judge.Lst, I x.B.Head.Judge.Need, .bool x.B.Head.Frozen, .list 2 (x.B.Sigs.map eSig)]) rfl rfl e3 rfl (rg_of (by omega) (by omega)) (mk_sc (r1 := [I (k), I (k + 1), I (k + 1 + 1), I (k + 1 + 1 + 1), I (k + 1 + 1 + 1 + 1), I (k + 1 + 1 + 1 + 1 + 1), I (k + 1 + 1 + 1 + 1 + 1 + 1), I (k + 1 + 1 + 1 + 1 + 1 + 1 + 1), p1, I (k1), p2, I (k2), I (k2 + 1), p3, I (k3), .bool x.Before.Head.Frozen, .list 2 (x.Before.Sigs.map eSig), I x.A.Head.Zone, I x.A.Head.Epoch, I x.A.Head.Kind, I x.A.Head.Time, I x.A.Head.Until, I x.A.Head.Count, I x.A.Head.Root, I x.A.Head.Prev, ints x.A.Head.Keys.Lst, I x.A.Head.Keys.Need, ints x.A.Head.Heirs.Lst, I x.A.Head.Heirs.Need, I x.A.Head.Wait, ints x.A.Head.Judge.Lst, I x.A.Head.Judge.Need, .bool x.A.Head.Frozen, .list 2 (x.A.Sigs.map eSig), I x.B.Head.Zone, I x.B.Head.Epoch, I x.B.Head.Kind, I x.B.Head.Time, I x.B.Head.Until, I x.B.Head.Count, I x.B.Head.Root, I x.B.Head.Prev, ints x.B.Head.Keys.Lst, I x.B.Head.Keys.Need, ints x.B.Head.Heirs.Lst, I x.B.Head.Heirs.Need, I x.B.Head.Wait, ints x.B.Head.Judge.Lst, I x.B.Head.Judge.Need, .bool x.B.Head.Frozen, .list 2 (x.B.Sigs.map eSig)]) rfl rfl rfl (wr1 (by omega) (by omega)) (mk_sc (r1 := [I (k), I (k + 1), I (k + 1 + 1), I (k + 1 + 1 + 1), I (k + 1 + 1 + 1 + 1), I (k + 1 + 1 + 1 + 1 + 1), I (k + 1 + 1 + 1 + 1 + 1 + 1), I (k + 1 + 1 + 1 + 1 + 1 + 1 + 1), p1, I (k1), p2, I (k2), I (k2 + 1), p3, I (k3), .bool ((k3 + 1).tmod 3 == 0), .list 2 (x.Before.Sigs.map eSig), I x.A.Head.Zone, I x.A.Head.Epoch, I x.A.Head.Kind, I x.A.Head.Time, I x.A.Head.Until, I x.A.Head.Count, I x.A.Head.Root, I x.A.Head.Prev, ints x.A.Head.Keys.Lst, I x.A.Head.Keys.Need, ints x.A.Head.Heirs.Lst, I x.A.Head.Heirs.Need, I x.A.Head.Wait, ints x.A.Head.Judge.Lst, I x.A.Head.Judge.Need, .bool x.A.Head.Frozen, .list 2 (x.A.Sigs.map eSig), I x.B.Head.Zone, I x.B.Head.Epoch, I x.B.Head.Kind, I x.B.Head.Time, I x.B.Head.Until, I x.B.Head.Count, I x.B.Head.Root, I x.B.Head.Prev, ints x.B.Head.Keys.Lst, I x.B.Head.Keys.Need, ints x.B.Head.Heirs.Lst, I x.B.Head.Heirs.Need, I x.B.Head.Wait, ints x.B.Head.Judge.Lst, I x.B.Head.Judge.Need, .bool x.B.Head.Frozen, .list 2 (x.B.Sigs.map eSig)]) rfl rfl rfl (wr1 (by omega) (by omega)) (mk_ca (r1 := [I (k), I (k + 1), I (k + 1 + 1), I (k + 1 + 1 + 1), I (k + 1 + 1 + 1 + 1), I (k + 1 + 1 + 1 + 1 + 1), I (k + 1 + 1 + 1 + 1 + 1 + 1), I (k + 1 + 1 + 1 + 1 + 1 + 1 + 1), p1, I (k1), p2, I (k2), I (k2 + 1), p3, I (k3), .bool ((k3 + 1).tmod 3 == 0), p4, I x.A.Head.Zone, I x.A.Head.Epoch, I x.A.Head.Kind, I x.A.Head.Time, I x.A.Head.Until, I x.A.Head.Count, I x.A.Head.Root, I x.A.Head.Prev, ints x.A.Head.Keys.Lst, I x.A.Head.Keys.Need, ints x.A.Head.Heirs.Lst, I x.A.Head.Heirs.Need, I x.A.Head.Wait, ints x.A.Head.Judge.Lst, I x.A.Head.Judge.Need, .bool x.A.Head.Frozen, .list 2 (x.A.Sigs.map eSig), I x.B.Head.Zone, I x.B.Head.Epoch, I x.B.Head.Kind, I x.B.Head.Time, I x.B.Head.Until, I x.B.Head.Count, I x.B.Head.Root, I x.B.Head.Prev, ints x.B.Head.Keys.Lst, I x.B.Head.Keys.Need, ints x.B.Head.Heirs.Lst, I x.B.Head.Heirs.Need, I x.B.Head.Wait, ints x.B.Head.Judge.Lst, I x.B.Head.Judge.Need, .bool x.B.Head.Frozen, .list 2 (x.B.Sigs.map eSig)]) rfl rfl e4 rfl (rg_of (by omega) (by omega)) (mk_sc (r1 := [I (k), I (k + 1), I (k + 1 + 1), I (k + 1 + 1 + 1), I (k + 1 + 1 + 1 + 1), I (k + 1 + 1 + 1 + 1 + 1), I (k + 1 + 1 + 1 + 1 + 1 + 1), I (k + 1 + 1 + 1 + 1 + 1 + 1 + 1), p1, I (k1), p2, I (k2), I (k2 + 1), p3, I (k3), .bool ((k3 + 1).tmod 3 == 0), p4, I (k4), I x.A.Head.Epoch, I x.A.Head.Kind, I x.A.Head.Time, I x.A.Head.Until, I x.A.Head.Count, I x.A.Head.Root, I x.A.Head.Prev, ints x.A.Head.Keys.Lst, I x.A.Head.Keys.Need, ints x.A.Head.Heirs.Lst, I x.A.Head.Heirs.Need, I x.A.Head.Wait, ints x.A.Head.Judge.Lst, I x.A.Head.Judge.Need, .bool x.A.Head.Frozen, .list 2 (x.A.Sigs.map eSig), I x.B.Head.Zone, I x.B.Head.Epoch, I x.B.Head.Kind, I x.B.Head.Time, I x.B.Head.Until, I x.B.Head.Count, I x.B.Head.Root, I x.B.Head.Prev, ints x.B.Head.Keys.Lst, I x.B.Head.Keys.Need, ints x.B.Head.Heirs.Lst, I x.B.Head.Heirs.Need, I x.B.Head.Wait, ints x.B.Head.Judge.Lst, I x.B.Head.Judge.Need, .bool x.B.Head.Frozen, .list 2 (x.B.Sigs.map eSig)]) rfl rfl rfl (wr1 (by omega) (by omega)) (mk_sc (r1 := [I (k), I (k + 1), I (k + 1 + 1), I (k + 1 + 1 + 1), I (k + 1 + 1 + 1 + 1), I (k + 1 + 1 + 1 + 1 + 1), I (k + 1 + 1 + 1 + 1 + 1 + 1), I (k + 1 + 1 + 1 + 1 + 1 + 1 + 1), p1, I (k1), p2, I (k2), I (k2 + 1), p3, I (k3), .bool ((k3 + 1).tmod 3 == 0), p4, I (k4), I (k4 + 1), I x.A.Head.Kind, I x.A.Head.Time, I x.A.Head.Until, I x.A.Head.Count, I x.A.Head.Root, I x.A.Head.Prev, ints x.A.Head.Keys.Lst, I x.A.Head.Keys.Need, ints x.A.Head.Heirs.Lst, I x.A.Head.Heirs.Need, I x.A.Head.Wait, ints x.A.Head.Judge.Lst, I x.A.Head.Judge.Need, .bool x.A.Head.Frozen, .list 2 (x.A.Sigs.map eSig), I x.B.Head.Zone, I x.B.Head.Epoch, I x.B.Head.Kind, I x.B.Head.Time, I x.B.Head.Until, I x.B.Head.Count, I x.B.Head.Root, I x.B.Head.Prev, ints x.B.Head.Keys.Lst, I x.B.Head.Keys.Need, ints x.B.Head.Heirs.Lst, I x.B.Head.Heirs.Need, I x.B.Head.Wait, ints x.B.Head.Judge.Lst, I x.B.Head.Judge.Need, .bool x.B.Head.Frozen, .list 2 (x.B.Sigs.map eSig)]) rfl rfl rfl (wr1 (by omega) (by omega)) (mk_sc (r1 := [I (k), I (k + 1), I (k + 1 + 1), I (k + 1 + 1 + 1), I (k + 1 + 1 + 1 + 1), I (k + 1 + 1 + 1 + 1 + 1), I (k + 1 + 1 + 1 + 1 + 1 + 1), I (k + 1 + 1 + 1 + 1 + 1 + 1 + 1), p1, I (k1), p2, I (k2), I (k2 + 1), p3, I (k3), .bool ((k3 + 1).tmod 3 == 0), p4, I (k4), I (k4 + 1), I (k4 + 1 + 1), I x.A.Head.Time, I x.A.Head.Until, I x.A.Head.Count, I x.A.Head.Root, I x.A.Head.Prev, ints x.A.Head.Keys.Lst, I x.A.Head.Keys.Need, ints x.A.Head.Heirs.Lst, I x.A.Head.Heirs.Need, I x.A.Head.Wait, ints x.A.Head.Judge.Lst, I x.A.Head.Judge.Need, .bool x.A.Head.Frozen, .list 2 (x.A.Sigs.map eSig), I x.B.Head.Zone, I x.B.Head.Epoch, I x.B.Head.Kind, I x.B.Head.Time, I x.B.Head.Until, I x.B.Head.Count, I x.B.Head.Root, I x.B.Head.Prev, ints x.B.Head.Keys.Lst, I x.B.Head.Keys.Need, ints x.B.Head.Heirs.Lst, I x.B.Head.Heirs.Need, I x.B.Head.Wait, ints x.B.Head.Judge.Lst, I x.B.Head.Judge.Need, .bool x.B.Head.Frozen, .list 2 (x.B.Sigs.map eSig)]) rfl rfl rfl (wr1 (by omega) (by omega)) (mk_sc (r1 := [I (k), I (k + 1), I (k + 1 + 1), I (k + 1 + 1 + 1), I (k + 1 + 1 + 1 + 1), I (k + 1 + 1 + 1 + 1 + 1), I (k + 1 + 1 + 1 + 1 + 1 + 1), I (k + 1 + 1 + 1 + 1 + 1 + 1 + 1), p1, I (k1), p2, I (k2), I (k2 + 1), p3, I (k3), .bool ((k3 + 1).tmod 3 == 0), p4, I (k4), I (k4 + 1), I (k4 + 1 + 1), I (k4 + 1 + 1 + 1), I x.A.Head.Until, I x.A.Head.Count, I x.A.Head.Root, I x.A.Head.Prev, ints x.A.Head.Keys.Lst, I x.A.Head.Keys.Need, ints x.A.Head.Heirs.Lst, I x.A.Head.Heirs.Need, I x.A.Head.Wait, ints x.A.Head.Judge.Lst, I x.A.Head.Judge.Need, .bool x.A.Head.Frozen, .list 2 (x.A.Sigs.map eSig), I x.B.Head.Zone, I x.B.Head.Epoch, I x.B.Head.Kind, I x.B.Head.Time, I x.B.Head.Until, I x.B.Head.Count, I x.B.Head.Root, I x.B.Head.Prev, ints x.B.Head.Keys.Lst, I x.B.Head.Keys.Need, ints x.B.Head.Heirs.Lst, I x.B.Head.Heirs.Need, I x.B.Head.Wait, ints x.B.Head.Judge.Lst, I x.B.Head.Judge.Need, .bool x.B.Head.Frozen, .list 2 (x.B.Sigs.map eSig)]) rfl rfl rfl (wr1 (by omega) (by omega)) (mk_sc (r1 := [I (k), I (k + 1), I (k + 1 + 1), I (k + 1 + 1 + 1), I (k + 1 + 1 + 1 + 1), I (k + 1 + 1 + 1 + 1 + 1), I (k + 1 + 1 + 1 + 1 + 1 + 1), I (k + 1 + 1 + 1 + 1 + 1 + 1 + 1), p1, I (k1), p2, I (k2), I (k2 + 1), p3, I (k3), .bool ((k3 + 1).tmod 3 == 0), p4, I (k4), I (k4 + 1), I (k4 + 1 + 1), I (k4 + 1 + 1 + 1), I (k4 + 1 + 1 + 1 + 1), I x.A.Head.Count, I x.A.Head.Root, I x.A.Head.Prev, ints x.A.Head.Keys.Lst, I x.A.Head.Keys.Need, ints x.A.Head.Heirs.Lst, I x.A.Head.Heirs.Need, I x.A.Head.Wait, ints x.A.Head.Judge.Lst, I x.A.Head.Judge.Need, .bool x.A.Head.Frozen, .list 2 (x.A.Sigs.map eSig), I x.B.Head.Zone, I x.B.Head.Epoch, I x.B.Head.Kind, I x.B.Head.Time, I x.B.Head.Until, I x.B.Head.Count, I x.B.Head.Root, I x.B.Head.Prev, ints x.B.Head.Keys.Lst, I x.B.Head.Keys.Need, ints x.B.Head.Heirs.Lst, I x.B.Head.Heirs.Need, I x.B.Head.Wait, ints x.B.Head.Judge.Lst, I x.B.Head.Judge.Need, .bool x.B.Head.Frozen, .list 2 (x.B.Sigs.map eSig)]) rfl rfl rfl (wr1 (by omega) (by omega)) (mk_sc (r1 := [I (k), I (k + 1), I (k + 1 + 1), I (k + 1 + 1 + 1), I (k + 1 + 1 + 1 + 1), I (k + 1 + 1 + 1 + 1 + 1), I (k + 1 + 1 + 1 + 1 + 1 + 1), I (k + 1 + 1 + 1 + 1 + 1 + 1 + 1), p1, I (k1), p2, I (k2), I (k2 + 1), p3, I (k3), .bool ((k3 + 1).tmod 3 == 0), p4, I (k4), I (k4 + 1), I (k4 + 1 + 1), I (k4 + 1 + 1 + 1), I (k4 + 1 + 1 + 1 + 1), I (k4 + 1 + 1 + 1 + 1 + 1), I x.A.Head.Root, I x.A.Head.Prev, ints x.A.Head.Keys.Lst, I x.A.Head.Keys.Need, ints x.A.Head.Heirs.Lst, I x.A.Head.Heirs.Need, I x.A.Head.Wait, ints x.A.Head.Judge.Lst, I x.A.Head.Judge.Need, .bool x.A.Head.Frozen, .list 2 (x.A.Sigs.map eSig), I x.B.Head.Zone, I x.B.Head.Epoch, I x.B.Head.Kind, I x.B.Head.Time, I x.B.Head.Until, I x.B.Head.Count, I x.B.Head.Root, I x.B.Head.Prev, ints x.B.Head.Keys.Lst, I x.B.Head.Keys.Need, ints x.B.Head.Heirs.Lst, I x.B.Head.Heirs.Need, I x.B.Head.Wait, ints x.B.Head.Judge.Lst, I x.B.Head.Judge.Need, .bool x.B.Head.Frozen, .list 2 (x.B.Sigs.map eSig)]) rfl rfl rfl (wr1 (by omega) (by omega)) (mk_sc (r1 := [I (k), I (k + 1), I (k + 1 + 1), I (k + 1 + 1 + 1), I (k + 1 + 1 + 1 + 1), I (k + 1 + 1 + 1 + 1 + 1), I (k + 1 + 1 + 1 + 1 + 1 + 1), I (k + 1 + 1 + 1 + 1 + 1 + 1 + 1), p1, I (k1), p2, I (k2), I (k2 + 1), p3, I (k3), .bool ((k3 + 1).tmod 3 == 0), p4, I (k4), I (k4 + 1), I (k4 + 1 + 1), I (k4 + 1 + 1 + 1), I (k4 + 1 + 1 + 1 + 1), I (k4 + 1 + 1 + 1 + 1 + 1), I (k4 + 1 + 1 + 1 + 1 + 1 + 1), I x.A.Head.Prev, ints x.A.Head.Keys.Lst, I x.A.Head.Keys.Need, ints x.A.Head.Heirs.Lst, I x.A.Head.Heirs.Need, I x.A.Head.Wait, ints x.A.Head.Judge.Lst, I x.A.Head.Judge.Need, .bool x.A.Head.Frozen, .list 2 (x.A.Sigs.map eSig), I x.B.Head.Zone, I x.B.Head.Epoch, I x.B.Head.Kind, I x.B.Head.Time, I x.B.Head.Until, I x.B.Head.Count, I x.B.Head.Root, I x.B.Head.Prev, ints x.B.Head.Keys.Lst, I x.B.Head.Keys.Need, ints x.B.Head.Heirs.Lst, I x.B.Head.Heirs.Need, I x.B.Head.Wait, ints x.B.Head.Judge.Lst, I x.B.Head.Judge.Need, .bool x.B.Head.Frozen, .list 2 (x.B.Sigs.map eSig)]) rfl rfl rfl (wr1 (by omega) (by omega)) (mk_sc (r1 := [I (k), I (k + 1), I (k + 1 + 1), I (k + 1 + 1 + 1), I (k + 1 + 1 + 1 + 1), I (k + 1 + 1 + 1 + 1 + 1), I (k + 1 + 1 + 1 + 1 + 1 + 1), I (k + 1 + 1 + 1 + 1 + 1 + 1 + 1), p1, I (k1), p2, I (k2), I (k2 + 1), p3, I (k3), .bool ((k3 + 1).tmod 3 == 0), p4, I (k4), I (k4 + 1), I (k4 + 1 + 1), I (k4 + 1 + 1 + 1), I (k4 + 1 + 1 + 1 + 1), I (k4 + 1 + 1 + 1 + 1 + 1), I (k4 + 1 + 1 + 1 + 1 + 1 + 1), I (k4 + 1 + 1 + 1 + 1 + 1 + 1 + 1), ints x.A.Head.Keys.Lst, I x.A.Head.Keys.Need, ints x.A.Head.Heirs.Lst, I x.A.Head.Heirs.Need, I x.A.Head.Wait, ints x.A.Head.Judge.Lst, I x.A.Head.Judge.Need, .bool x.A.Head.Frozen, .list 2 (x.A.Sigs.map eSig), I x.B.Head.Zone, I x.B.Head.Epoch, I x.B.Head.Kind, I x.B.Head.Time, I x.B.Head.Until, I x.B.Head.Count, I x.B.Head.Root, I x.B.Head.Prev, ints x.B.Head.Keys.Lst, I x.B.Head.Keys.Need, ints x.B.Head.Heirs.Lst, I x.B.Head.Heirs.Need, I x.B.Head.Wait, ints x.B.Head.Judge.Lst, I x.B.Head.Judge.Need, .bool x.B.Head.Frozen, .list 2 (x.B.Sigs.map eSig)]) rfl rfl rfl (wr1 (by omega) (by omega)) (mk_ca (r1 := [I (k), I (k + 1), I (k + 1 + 1), I (k + 1 + 1 + 1), I (k + 1 + 1 + 1 + 1), I (k + 1 + 1 + 1 + 1 + 1), I (k + 1 + 1 + 1 + 1 + 1 + 1), I (k + 1 + 1 + 1 + 1 + 1 + 1 + 1), p1, I (k1), p2, I (k2), I (k2 + 1), p3, I (k3), .bool ((k3 + 1).tmod 3 == 0), p4, I (k4), I (k4 + 1), I (k4 + 1 + 1), I (k4 + 1 + 1 + 1), I (k4 + 1 + 1 + 1 + 1), I (k4 + 1 + 1 + 1 + 1 + 1), I (k4 + 1 + 1 + 1 + 1 + 1 + 1), I (k4 + 1 + 1 + 1 + 1 + 1 + 1 + 1), p5, I x.A.Head.Keys.Need, ints x.A.Head.Heirs.Lst, I x.A.Head.Heirs.Need, I x.A.Head.Wait, ints x.A.Head.Judge.Lst, I x.A.Head.Judge.Need, .bool x.A.Head.Frozen, .list 2 (x.A.Sigs.map eSig), I x.B.Head.Zone, I x.B.Head.Epoch, I x.B.Head.Kind, I x.B.Head.Time, I x.B.Head.Until, I x.B.Head.Count, I x.B.Head.Root, I x.B.Head.Prev, ints x.B.Head.Keys.Lst, I x.B.Head.Keys.Need, ints x.B.Head.Heirs.Lst, I x.B.Head.Heirs.Need, I x.B.Head.Wait, ints x.B.Head.Judge.Lst, I x.B.Head.Judge.Need, .bool x.B.Head.Frozen, .list 2 (x.B.Sigs.map eSig)]) rfl rfl e5 rfl (rg_of (by omega) (by omega)) (mk_sc (r1 := [I (k), I (k + 1), I (k + 1 + 1), I (k + 1 + 1 + 1), I (k + 1 + 1 + 1 + 1), I (k + 1 + 1 + 1 + 1 + 1), I (k + 1 + 1 + 1 + 1 + 1 + 1), I (k + 1 + 1 + 1 + 1 + 1 + 1 + 1), p1, I (k1), p2, I (k2), I (k2 + 1), p3, I (k3), .bool ((k3 + 1).tmod 3 == 0), p4, I (k4), I (k4 + 1), I (k4 + 1 + 1), I (k4 + 1 + 1 + 1), I (k4 + 1 + 1 + 1 + 1), I (k4 + 1 + 1 + 1 + 1 + 1), I (k4 + 1 + 1 + 1 + 1 + 1 + 1), I (k4 + 1 + 1 + 1 + 1 + 1 + 1 + 1), p5, I (k5), ints x.A.Head.Heirs.Lst, I x.A.Head.Heirs.Need, I x.A.Head.Wait, ints x.A.Head.Judge.Lst, I x.A.Head.Judge.Need, .bool x.A.Head.Frozen, .list 2 (x.A.Sigs.map eSig), I x.B.Head.Zone, I x.B.Head.Epoch, I x.B.Head.Kind, I x.B.Head.Time, I x.B.Head.Until, I x.B.Head.Count, I x.B.Head.Root, I x.B.Head.Prev, ints x.B.Head.Keys.Lst, I x.B.Head.Keys.Need, ints x.B.Head.Heirs.Lst, I x.B.Head.Heirs.Need, I x.B.Head.Wait, ints x.B.Head.Judge.Lst, I x.B.Head.Judge.Need, .bool x.B.Head.Frozen, .list 2 (x.B.Sigs.map eSig)]) rfl rfl rfl (wr1 (by omega) (by omega)) (mk_ca (r1 := [I (k), I (k + 1), I (k + 1 + 1), I (k + 1 + 1 + 1), I (k + 1 + 1 + 1 + 1), I (k + 1 + 1 + 1 + 1 + 1), I (k + 1 + 1 + 1 + 1 + 1 + 1), I (k + 1 + 1 + 1 + 1 + 1 + 1 + 1), p1, I (k1), p2, I (k2), I (k2 + 1), p3, I (k3), .bool ((k3 + 1).tmod 3 == 0), p4, I (k4), I (k4 + 1), I (k4 + 1 + 1), I (k4 + 1 + 1 + 1), I (k4 + 1 + 1 + 1 + 1), I (k4 + 1 + 1 + 1 + 1 + 1), I (k4 + 1 + 1 + 1 + 1 + 1 + 1), I (k4 + 1 + 1 + 1 + 1 + 1 + 1 + 1), p5, I (k5), p6, I x.A.Head.Heirs.Need, I x.A.Head.Wait, ints x.A.Head.Judge.Lst, I x.A.Head.Judge.Need, .bool x.A.Head.Frozen, .list 2 (x.A.Sigs.map eSig), I x.B.Head.Zone, I x.B.Head.Epoch, I x.B.Head.Kind, I x.B.Head.Time, I x.B.Head.Until, I x.B.Head.Count, I x.B.Head.Root, I x.B.Head.Prev, ints x.B.Head.Keys.Lst, I x.B.Head.Keys.Need, ints x.B.Head.Heirs.Lst, I x.B.Head.Heirs.Need, I x.B.Head.Wait, ints x.B.Head.Judge.Lst, I x.B.Head.Judge.Need, .bool x.B.Head.Frozen, .list 2 (x.B.Sigs.map eSig)]) rfl rfl e6 rfl (rg_of (by omega) (by omega)) (mk_sc (r1 := [I (k), I (k + 1), I (k + 1 + 1), I (k + 1 + 1 + 1), I (k + 1 + 1 + 1 + 1), I (k + 1 + 1 + 1 + 1 + 1), I (k + 1 + 1 + 1 + 1 + 1 + 1), I (k + 1 + 1 + 1 + 1 + 1 + 1 + 1), p1, I (k1), p2, I (k2), I (k2 + 1), p3, I (k3), .bool ((k3 + 1).tmod 3 == 0), p4, I (k4), I (k4 + 1), I (k4 + 1 + 1), I (k4 + 1 + 1 + 1), I (k4 + 1 + 1 + 1 + 1), I (k4 + 1 + 1 + 1 + 1 + 1), I (k4 + 1 + 1 + 1 + 1 + 1 + 1), I (k4 + 1 + 1 + 1 + 1 + 1 + 1 + 1), p5, I (k5), p6, I (k6), I x.A.Head.Wait, ints x.A.Head.Judge.Lst, I x.A.Head.Judge.Need, .bool x.A.Head.Frozen, .list 2 (x.A.Sigs.map eSig), I x.B.Head.Zone, I x.B.Head.Epoch, I x.B.Head.Kind, I x.B.Head.Time, I x.B.Head.Until, I x.B.Head.Count, I x.B.Head.Root, I x.B.Head.Prev, ints x.B.Head.Keys.Lst, I x.B.Head.Keys.Need, ints x.B.Head.Heirs.Lst, I x.B.Head.Heirs.Need, I x.B.Head.Wait, ints x.B.Head.Judge.Lst, I x.B.Head.Judge.Need, .bool x.B.Head.Frozen, .list 2 (x.B.Sigs.map eSig)]) rfl rfl rfl (wr1 (by omega) (by omega)) (mk_sc (r1 := [I (k), I (k + 1), I (k + 1 + 1), I (k + 1 + 1 + 1), I (k + 1 + 1 + 1 + 1), I (k + 1 + 1 + 1 + 1 + 1), I (k + 1 + 1 + 1 + 1 + 1 + 1), I (k + 1 + 1 + 1 + 1 + 1 + 1 + 1), p1, I (k1), p2, I (k2), I (k2 + 1), p3, I (k3), .bool ((k3 + 1).tmod 3 == 0), p4, I (k4), I (k4 + 1), I (k4 + 1 + 1), I (k4 + 1 + 1 + 1), I (k4 + 1 + 1 + 1 + 1), I (k4 + 1 + 1 + 1 + 1 + 1), I (k4 + 1 + 1 + 1 + 1 + 1 + 1), I (k4 + 1 + 1 + 1 + 1 + 1 + 1 + 1), p5, I (k5), p6, I (k6), I (k6 + 1), ints x.A.Head.Judge.Lst, I x.A.Head.Judge.Need, .bool x.A.Head.Frozen, .list 2 (x.A.Sigs.map eSig), I x.B.Head.Zone, I x.B.Head.Epoch, I x.B.Head.Kind, I x.B.Head.Time, I x.B.Head.Until, I x.B.Head.Count, I x.B.Head.Root, I x.B.Head.Prev, ints x.B.Head.Keys.Lst, I x.B.Head.Keys.Need, ints x.B.Head.Heirs.Lst, I x.B.Head.Heirs.Need, I x.B.Head.Wait, ints x.B.Head.Judge.Lst, I x.B.Head.Judge.Need, .bool x.B.Head.Frozen, .list 2 (x.B.Sigs.map eSig)]) rfl rfl rfl (wr1 (by omega) (by omega)) (mk_ca (r1 := [I (k), I (k + 1), I (k + 1 + 1), I (k + 1 + 1 + 1), I (k + 1 + 1 + 1 + 1), I (k + 1 + 1 + 1 + 1 + 1), I (k + 1 + 1 + 1 + 1 + 1 + 1), I (k + 1 + 1 + 1 + 1 + 1 + 1 + 1), p1, I (k1), p2, I (k2), I (k2 + 1), p3, I (k3), .bool ((k3 + 1).tmod 3 == 0), p4, I (k4), I (k4 + 1), I (k4 + 1 + 1), I (k4 + 1 + 1 + 1), I (k4 + 1 + 1 + 1 + 1), I (k4 + 1 + 1 + 1 + 1 + 1), I (k4 + 1 + 1 + 1 + 1 + 1 + 1), I (k4 + 1 + 1 + 1 + 1 + 1 + 1 + 1), p5, I (k5), p6, I (k6), I (k6 + 1), p7, I x.A.Head.Judge.Need, .bool x.A.Head.Frozen, .list 2 (x.A.Sigs.map eSig), I x.B.Head.Zone, I x.B.Head.Epoch, I x.B.Head.Kind, I x.B.Head.Time, I x.B.Head.Until, I x.B.Head.Count, I x.B.Head.Root, I x.B.Head.Prev, ints x.B.Head.Keys.Lst, I x.B.Head.Keys.Need, ints x.B.Head.Heirs.Lst, I x.B.Head.Heirs.Need, I x.B.Head.Wait, ints x.B.Head.Judge.Lst, I x.B.Head.Judge.Need, .bool x.B.Head.Frozen, .list 2 (x.B.Sigs.map eSig)]) rfl rfl e7 rfl (rg_of (by omega) (by omega)) (mk_sc (r1 := [I (k), I (k + 1), I (k + 1 + 1), I (k + 1 + 1 + 1), I (k + 1 + 1 + 1 + 1), I (k + 1 + 1 + 1 + 1 + 1), I (k + 1 + 1 + 1 + 1 + 1 + 1), I (k + 1 + 1 + 1 + 1 + 1 + 1 + 1), p1, I (k1), p2, I (k2), I (k2 + 1), p3, I (k3), .bool ((k3 + 1).tmod 3 == 0), p4, I (k4), I (k4 + 1), I (k4 + 1 + 1), I (k4 + 1 + 1 + 1), I (k4 + 1 + 1 + 1 + 1), I (k4 + 1 + 1 + 1 + 1 + 1), I (k4 + 1 + 1 + 1 + 1 + 1 + 1), I (k4 + 1 + 1 + 1 + 1 + 1 + 1 + 1), p5, I (k5), p6, I (k6), I (k6 + 1), p7, I (k7), .bool x.A.Head.Frozen, .list 2 (x.A.Sigs.map eSig), I x.B.Head.Zone, I x.B.Head.Epoch, I x.B.Head.Kind, I x.B.Head.Time, I x.B.Head.Until, I x.B.Head.Count, I x.B.Head.Root, I x.B.Head.Prev, ints x.B.Head.Keys.Lst, I x.B.Head.Keys.Need, ints x.B.Head.Heirs.Lst, I x.B.Head.Heirs.Need, I x.B.Head.Wait, ints x.B.Head.Judge.Lst, I x.B.Head.Judge.Need, .bool x.B.Head.Frozen, .list 2 (x.B.Sigs.map eSig)]) rfl rfl rfl (wr1 (by omega) (by omega)) (mk_sc (r1 := [I (k), I (k + 1), I (k + 1 + 1), I (k + 1 + 1 + 1), I (k + 1 + 1 + 1 + 1), I (k + 1 + 1 + 1 + 1 + 1), I (k + 1 + 1 + 1 + 1 + 1 + 1), I (k + 1 + 1 + 1 + 1 + 1 + 1 + 1), p1, I (k1), p2, I (k2), I (k2 + 1), p3, I (k3), .bool ((k3 + 1).tmod 3 == 0), p4, I (k4), I (k4 + 1), I (k4 + 1 + 1), I (k4 + 1 + 1 + 1), I (k4 + 1 + 1 + 1 + 1), I (k4 + 1 + 1 + 1 + 1 + 1), I (k4 + 1 + 1 + 1 + 1 + 1 + 1), I (k4 + 1 + 1 + 1 + 1 + 1 + 1 + 1), p5, I (k5), p6, I (k6), I (k6 + 1), p7, I (k7), .bool ((k7 + 1).tmod 3 == 0), .list 2 (x.A.Sigs.map eSig), I x.B.Head.Zone, I x.B.Head.Epoch, I x.B.Head.Kind, I x.B.Head.Time, I x.B.Head.Until, I x.B.Head.Count, I x.B.Head.Root, I x.B.Head.Prev, ints x.B.Head.Keys.Lst, I x.B.Head.Keys.Need, ints x.B.Head.Heirs.Lst, I x.B.Head.Heirs.Need, I x.B.Head.Wait, ints x.B.Head.Judge.Lst, I x.B.Head.Judge.Need, .bool x.B.Head.Frozen, .list 2 (x.B.Sigs.map eSig)]) rfl rfl rfl (wr1 (by omega) (by omega)) (mk_ca (r1 := [I (k), I (k + 1), I (k + 1 + 1), I (k + 1 + 1 + 1), I (k + 1 + 1 + 1 + 1), I (k + 1 + 1 + 1 + 1 + 1), I (k + 1 + 1 + 1 + 1 + 1 + 1), I (k + 1 + 1 + 1 + 1 + 1 + 1 + 1), p1, I (k1), p2, I (k2), I (k2 + 1), p3, I (k3), .bool ((k3 + 1).tmod 3 == 0), p4, I (k4), I (k4 + 1), I (k4 + 1 + 1), I (k4 + 1 + 1 + 1), I (k4 + 1 + 1 + 1 + 1), I (k4 + 1 + 1 + 1 + 1 + 1), I (k4 + 1 + 1 + 1 + 1 + 1 + 1), I (k4 + 1 + 1 + 1 + 1 + 1 + 1 + 1), p5, I (k5), p6, I (k6), I (k6 + 1), p7, I (k7), .bool ((k7 + 1).tmod 3 == 0), p8, I x.B.Head.Zone, I x.B.Head.Epoch, I x.B.Head.Kind, I x.B.Head.Time, I x.B.Head.Until, I x.B.Head.Count, I x.B.Head.Root, I x.B.Head.Prev, ints x.B.Head.Keys.Lst, I x.B.Head.Keys.Need, ints x.B.Head.Heirs.Lst, I x.B.Head.Heirs.Need, I x.B.Head.Wait, ints x.B.Head.Judge.Lst, I x.B.Head.Judge.Need, .bool x.B.Head.Frozen, .list 2 (x.B.Sigs.map eSig)]) rfl rfl e8 rfl (rg_of (by omega) (by omega)) (mk_sc (r1 := [I (k), I (k + 1), I (k + 1 + 1), I (k + 1 + 1 + 1), I (k + 1 + 1 + 1 + 1), I (k + 1 + 1 + 1 + 1 + 1), I (k + 1 + 1 + 1 + 1 + 1 + 1), I (k + 1 + 1 + 1 + 1 + 1 + 1 + 1), p1, I (k1), p2, I (k2), I (k2 + 1), p3, I (k3), .bool ((k3 + 1).tmod 3 == 0), p4, I (k4), I (k4 + 1), I (k4 + 1 + 1), I (k4 + 1 + 1 + 1), I (k4 + 1 + 1 + 1 + 1), I (k4 + 1 + 1 + 1 + 1 + 1), I (k4 + 1 + 1 + 1 + 1 + 1 + 1), I (k4 + 1 + 1 + 1 + 1 + 1 + 1 + 1), p5, I (k5), p6, I (k6), I (k6 + 1), p7, I (k7), .bool ((k7 + 1).tmod 3 == 0), p8, I (k8), I x.B.Head.Epoch, I x.B.Head.Kind, I x.B.Head.Time, I x.B.Head.Until, I x.B.Head.Count, I x.B.Head.Root, I x.B.Head.Prev, ints x.B.Head.Keys.Lst, I x.B.Head.Keys.Need, ints x.B.Head.Heirs.Lst, I x.B.Head.Heirs.Need, I x.B.Head.Wait, ints x.B.Head.Judge.Lst, I x.B.Head.Judge.Need, .bool x.B.Head.Frozen, .list 2 (x.B.Sigs.map eSig)]) rfl rfl rfl (wr1 (by omega) (by omega)) (mk_sc (r1 := [I (k), I (k + 1), I (k + 1 + 1), I (k + 1 + 1 + 1), I (k + 1 + 1 + 1 + 1), I (k + 1 + 1 + 1 + 1 + 1), I (k + 1 + 1 + 1 + 1 + 1 + 1), I (k + 1 + 1 + 1 + 1 + 1 + 1 + 1), p1, I (k1), p2, I (k2), I (k2 + 1), p3, I (k3), .bool ((k3 + 1).tmod 3 == 0), p4, I (k4), I (k4 + 1), I (k4 + 1 + 1), I (k4 + 1 + 1 + 1), I (k4 + 1 + 1 + 1 + 1), I (k4 + 1 + 1 + 1 + 1 + 1), I (k4 + 1 + 1 + 1 + 1 + 1 + 1), I (k4 + 1 + 1 + 1 + 1 + 1 + 1 + 1), p5, I (k5), p6, I (k6), I (k6 + 1), p7, I (k7), .bool ((k7 + 1).tmod 3 == 0), p8, I (k8), I (k8 + 1), I x.B.Head.Kind, I x.B.Head.Time, I x.B.Head.Until, I x.B.Head.Count, I x.B.Head.Root, I x.B.Head.Prev, ints x.B.Head.Keys.Lst, I x.B.Head.Keys.Need, ints x.B.Head.Heirs.Lst, I x.B.Head.Heirs.Need, I x.B.Head.Wait, ints x.B.Head.Judge.Lst, I x.B.Head.Judge.Need, .bool x.B.Head.Frozen, .list 2 (x.B.Sigs.map eSig)]) rfl rfl rfl (wr1 (by omega) (by omega)) (mk_sc (r1 := [I (k), I (k + 1), I (k + 1 + 1), I (k + 1 + 1 + 1), I (k + 1 + 1 + 1 + 1), I (k + 1 + 1 + 1 + 1 + 1), I (k + 1 + 1 + 1 + 1 + 1 + 1), I (k + 1 + 1 + 1 + 1 + 1 + 1 + 1), p1, I (k1), p2, I (k2), I (k2 + 1), p3, I (k3), .bool ((k3 + 1).tmod 3 == 0), p4, I (k4), I (k4 + 1), I (k4 + 1 + 1), I (k4 + 1 + 1 + 1), I (k4 + 1 + 1 + 1 + 1), I (k4 + 1 + 1 + 1 + 1 + 1), I (k4 + 1 + 1 + 1 + 1 + 1 + 1), I (k4 + 1 + 1 + 1 + 1 + 1 + 1 + 1), p5, I (k5), p6, I (k6), I (k6 + 1), p7, I (k7), .bool ((k7 + 1).tmod 3 == 0), p8, I (k8), I (k8 + 1), I (k8 + 1 + 1), I x.B.Head.Time, I x.B.Head.Until, I x.B.Head.Count, I x.B.Head.Root, I x.B.Head.Prev, ints x.B.Head.Keys.Lst, I x.B.Head.Keys.Need, ints x.B.Head.Heirs.Lst, I x.B.Head.Heirs.Need, I x.B.Head.Wait, ints x.B.Head.Judge.Lst, I x.B.Head.Judge.Need, .bool x.B.Head.Frozen, .list 2 (x.B.Sigs.map eSig)]) rfl rfl rfl (wr1 (by omega) (by omega)) (mk_sc (r1 := [I (k), I (k + 1), I (k + 1 + 1), I (k + 1 + 1 + 1), I (k + 1 + 1 + 1 + 1), I (k + 1 + 1 + 1 + 1 + 1), I (k + 1 + 1 + 1 + 1 + 1 + 1), I (k + 1 + 1 + 1 + 1 + 1 + 1 + 1), p1, I (k1), p2, I (k2), I (k2 + 1), p3, I (k3), .bool ((k3 + 1).tmod 3 == 0), p4, I (k4), I (k4 + 1), I (k4 + 1 + 1), I (k4 + 1 + 1 + 1), I (k4 + 1 + 1 + 1 + 1), I (k4 + 1 + 1 + 1 + 1 + 1), I (k4 + 1 + 1 + 1 + 1 + 1 + 1), I (k4 + 1 + 1 + 1 + 1 + 1 + 1 + 1), p5, I (k5), p6, I (k6), I (k6 + 1), p7, I (k7), .bool ((k7 + 1).tmod 3 == 0), p8, I (k8), I (k8 + 1), I (k8 + 1 + 1), I (k8 + 1 + 1 + 1), I x.B.Head.Until, I x.B.Head.Count, I x.B.Head.Root, I x.B.Head.Prev, ints x.B.Head.Keys.Lst, I x.B.Head.Keys.Need, ints x.B.Head.Heirs.Lst, I x.B.Head.Heirs.Need, I x.B.Head.Wait, ints x.B.Head.Judge.Lst, I x.B.Head.Judge.Need, .bool x.B.Head.Frozen, .list 2 (x.B.Sigs.map eSig)]) rfl rfl rfl (wr1 (by omega) (by omega)) (mk_sc (r1 := [I (k), I (k + 1), I (k + 1 + 1), I (k + 1 + 1 + 1), I (k + 1 + 1 + 1 + 1), I (k + 1 + 1 + 1 + 1 + 1), I (k + 1 + 1 + 1 + 1 + 1 + 1), I (k + 1 + 1 + 1 + 1 + 1 + 1 + 1), p1, I (k1), p2, I (k2), I (k2 + 1), p3, I (k3), .bool ((k3 + 1).tmod 3 == 0), p4, I (k4), I (k4 + 1), I (k4 + 1 + 1), I (k4 + 1 + 1 + 1), I (k4 + 1 + 1 + 1 + 1), I (k4 + 1 + 1 + 1 + 1 + 1), I (k4 + 1 + 1 + 1 + 1 + 1 + 1), I (k4 + 1 + 1 + 1 + 1 + 1 + 1 + 1), p5, I (k5), p6, I (k6), I (k6 + 1), p7, I (k7), .bool ((k7 + 1).tmod 3 == 0), p8, I (k8), I (k8 + 1), I (k8 + 1 + 1), I (k8 + 1 + 1 + 1), I (k8 + 1 + 1 + 1 + 1), I x.B.Head.Count, I x.B.Head.Root, I x.B.Head.Prev, ints x.B.Head.Keys.Lst, I x.B.Head.Keys.Need, ints x.B.Head.Heirs.Lst, I x.B.Head.Heirs.Need, I x.B.Head.Wait, ints x.B.Head.Judge.Lst, I x.B.Head.Judge.Need, .bool x.B.Head.Frozen, .list 2 (x.B.Sigs.map eSig)]) rfl rfl rfl (wr1 (by omega) (by omega)) (mk_sc (r1 := [I (k), I (k + 1), I (k + 1 + 1), I (k + 1 + 1 + 1), I (k + 1 + 1 + 1 + 1), I (k + 1 + 1 + 1 + 1 + 1), I (k + 1 + 1 + 1 + 1 + 1 + 1), I (k + 1 + 1 + 1 + 1 + 1 + 1 + 1), p1, I (k1), p2, I (k2), I (k2 + 1), p3, I (k3), .bool ((k3 + 1).tmod 3 == 0), p4, I (k4), I (k4 + 1), I (k4 + 1 + 1), I (k4 + 1 + 1 + 1), I (k4 + 1 + 1 + 1 + 1), I (k4 + 1 + 1 + 1 + 1 + 1), I (k4 + 1 + 1 + 1 + 1 + 1 + 1), I (k4 + 1 + 1 + 1 + 1 + 1 + 1 + 1), p5, I (k5), p6, I (k6), I (k6 + 1), p7, I (k7), .bool ((k7 + 1).tmod 3 == 0), p8, I (k8), I (k8 + 1), I (k8 + 1 + 1), I (k8 + 1 + 1 + 1), I (k8 + 1 + 1 + 1 + 1), I (k8 + 1 + 1 + 1 + 1 + 1), I x.B.Head.Root, I x.B.Head.Prev, ints x.B.Head.Keys.Lst, I x.B.Head.Keys.Need, ints x.B.Head.Heirs.Lst, I x.B.Head.Heirs.Need, I x.B.Head.Wait, ints x.B.Head.Judge.Lst, I x.B.Head.Judge.Need, .bool x.B.Head.Frozen, .list 2 (x.B.Sigs.map eSig)]) rfl rfl rfl (wr1 (by omega) (by omega)) (mk_sc (r1 := [I (k), I (k + 1), I (k + 1 + 1), I (k + 1 + 1 + 1), I (k + 1 + 1 + 1 + 1), I (k + 1 + 1 + 1 + 1 + 1), I (k + 1 + 1 + 1 + 1 + 1 + 1), I (k + 1 + 1 + 1 + 1 + 1 + 1 + 1), p1, I (k1), p2, I (k2), I (k2 + 1), p3, I (k3), .bool ((k3 + 1).tmod 3 == 0), p4, I (k4), I (k4 + 1), I (k4 + 1 + 1), I (k4 + 1 + 1 + 1), I (k4 + 1 + 1 + 1 + 1), I (k4 + 1 + 1 + 1 + 1 + 1), I (k4 + 1 + 1 + 1 + 1 + 1 + 1), I (k4 + 1 + 1 + 1 + 1 + 1 + 1 + 1), p5, I (k5), p6, I (k6), I (k6 + 1), p7, I (k7), .bool ((k7 + 1).tmod 3 == 0), p8, I (k8), I (k8 + 1), I (k8 + 1 + 1), I (k8 + 1 + 1 + 1), I (k8 + 1 + 1 + 1 + 1), I (k8 + 1 + 1 + 1 + 1 + 1), I (k8 + 1 + 1 + 1 + 1 + 1 + 1), I x.B.Head.Prev, ints x.B.Head.Keys.Lst, I x.B.Head.Keys.Need, ints x.B.Head.Heirs.Lst, I x.B.Head.Heirs.Need, I x.B.Head.Wait, ints x.B.Head.Judge.Lst, I x.B.Head.Judge.Need, .bool x.B.Head.Frozen, .list 2 (x.B.Sigs.map eSig)]) rfl rfl rfl (wr1 (by omega) (by omega)) (mk_sc (r1 := [I (k), I (k + 1), I (k + 1 + 1), I (k + 1 + 1 + 1), I (k + 1 + 1 + 1 + 1), I (k + 1 + 1 + 1 + 1 + 1), I (k + 1 + 1 + 1 + 1 + 1 + 1), I (k + 1 + 1 + 1 + 1 + 1 + 1 + 1), p1, I (k1), p2, I (k2), I (k2 + 1), p3, I (k3), .bool ((k3 + 1).tmod 3 == 0), p4, I (k4), I (k4 + 1), I (k4 + 1 + 1), I (k4 + 1 + 1 + 1), I (k4 + 1 + 1 + 1 + 1), I (k4 + 1 + 1 + 1 + 1 + 1), I (k4 + 1 + 1 + 1 + 1 + 1 + 1), I (k4 + 1 + 1 + 1 + 1 + 1 + 1 + 1), p5, I (k5), p6, I (k6), I (k6 + 1), p7, I (k7), .bool ((k7 + 1).tmod 3 == 0), p8, I (k8), I (k8 + 1), I (k8 + 1 + 1), I (k8 + 1 + 1 + 1), I (k8 + 1 + 1 + 1 + 1), I (k8 + 1 + 1 + 1 + 1 + 1), I (k8 + 1 + 1 + 1 + 1 + 1 + 1), I (k8 + 1 + 1 + 1 + 1 + 1 + 1 + 1), ints x.B.Head.Keys.Lst, I x.B.Head.Keys.Need, ints x.B.Head.Heirs.Lst, I x.B.Head.Heirs.Need, I x.B.Head.Wait, ints x.B.Head.Judge.Lst, I x.B.Head.Judge.Need, .bool x.B.Head.Frozen, .list 2 (x.B.Sigs.map eSig)]) rfl rfl rfl (wr1 (by omega) (by omega)) (mk_ca (r1 := [I (k), I (k + 1), I (k + 1 + 1), I (k + 1 + 1 + 1), I (k + 1 + 1 + 1 + 1), I (k + 1 + 1 + 1 + 1 + 1), I (k + 1 + 1 + 1 + 1 + 1 + 1), I (k + 1 + 1 + 1 + 1 + 1 + 1 + 1), p1, I (k1), p2, I (k2), I (k2 + 1), p3, I (k3), .bool ((k3 + 1).tmod 3 == 0), p4, I (k4), I (k4 + 1), I (k4 + 1 + 1), I (k4 + 1 + 1 + 1), I (k4 + 1 + 1 + 1 + 1), I (k4 + 1 + 1 + 1 + 1 + 1), I (k4 + 1 + 1 + 1 + 1 + 1 + 1), I (k4 + 1 + 1 + 1 + 1 + 1 + 1 + 1), p5, I (k5), p6, I (k6), I (k6 + 1), p7, I (k7), .bool ((k7 + 1).tmod 3 == 0), p8, I (k8), I (k8 + 1), I (k8 + 1 + 1), I (k8 + 1 + 1 + 1), I (k8 + 1 + 1 + 1 + 1), I (k8 + 1 + 1 + 1 + 1 + 1), I (k8 + 1 + 1 + 1 + 1 + 1 + 1), I (k8 + 1 + 1 + 1 + 1 + 1 + 1 + 1), p9, I x.B.Head.Keys.Need, ints x.B.Head.Heirs.Lst, I x.B.Head.Heirs.Need, I x.B.Head.Wait, ints x.B.Head.Judge.Lst, I x.B.Head.Judge.Need, .bool x.B.Head.Frozen, .list 2 (x.B.Sigs.map eSig)]) rfl rfl e9 rfl (rg_of (by omega) (by omega)) (mk_sc (r1 := [I (k), I (k + 1), I (k + 1 + 1), I (k + 1 + 1 + 1), I (k + 1 + 1 + 1 + 1), I (k + 1 + 1 + 1 + 1 + 1), I (k + 1 + 1 + 1 + 1 + 1 + 1), I (k + 1 + 1 + 1 + 1 + 1 + 1 + 1), p1, I (k1), p2, I (k2), I (k2 + 1), p3, I (k3), .bool ((k3 + 1).tmod 3 == 0), p4, I (k4), I (k4 + 1), I (k4 + 1 + 1), I (k4 + 1 + 1 + 1), I (k4 + 1 + 1 + 1 + 1), I (k4 + 1 + 1 + 1 + 1 + 1), I (k4 + 1 + 1 + 1 + 1 + 1 + 1), I (k4 + 1 + 1 + 1 + 1 + 1 + 1 + 1), p5, I (k5), p6, I (k6), I (k6 + 1), p7, I (k7), .bool ((k7 + 1).tmod 3 == 0), p8, I (k8), I (k8 + 1), I (k8 + 1 + 1), I (k8 + 1 + 1 + 1), I (k8 + 1 + 1 + 1 + 1), I (k8 + 1 + 1 + 1 + 1 + 1), I (k8 + 1 + 1 + 1 + 1 + 1 + 1), I (k8 + 1 + 1 + 1 + 1 + 1 + 1 + 1), p9, I (k9), ints x.B.Head.Heirs.Lst, I x.B.Head.Heirs.Need, I x.B.Head.Wait, ints x.B.Head.Judge.Lst, I x.B.Head.Judge.Need, .bool x.B.Head.Frozen, .list 2 (x.B.Sigs.map eSig)]) rfl rfl rfl (wr1 (by omega) (by omega)) (mk_ca (r1 := [I (k), I (k + 1), I (k + 1 + 1), I (k + 1 + 1 + 1), I (k + 1 + 1 + 1 + 1), I (k + 1 + 1 + 1 + 1 + 1), I (k + 1 + 1 + 1 + 1 + 1 + 1), I (k + 1 + 1 + 1 + 1 + 1 + 1 + 1), p1, I (k1), p2, I (k2), I (k2 + 1), p3, I (k3), .bool ((k3 + 1).tmod 3 == 0), p4, I (k4), I (k4 + 1), I (k4 + 1 + 1), I (k4 + 1 + 1 + 1), I (k4 + 1 + 1 + 1 + 1), I (k4 + 1 + 1 + 1 + 1 + 1), I (k4 + 1 + 1 + 1 + 1 + 1 + 1), I (k4 + 1 + 1 + 1 + 1 + 1 + 1 + 1), p5, I (k5), p6, I (k6), I (k6 + 1), p7, I (k7), .bool ((k7 + 1).tmod 3 == 0), p8, I (k8), I (k8 + 1), I (k8 + 1 + 1), I (k8 + 1 + 1 + 1), I (k8 + 1 + 1 + 1 + 1), I (k8 + 1 + 1 + 1 + 1 + 1), I (k8 + 1 + 1 + 1 + 1 + 1 + 1), I (k8 + 1 + 1 + 1 + 1 + 1 + 1 + 1), p9, I (k9), p10, I x.B.Head.Heirs.Need, I x.B.Head.Wait, ints x.B.Head.Judge.Lst, I x.B.Head.Judge.Need, .bool x.B.Head.Frozen, .list 2 (x.B.Sigs.map eSig)]) rfl rfl e10 rfl (rg_of (by omega) (by omega)) (mk_sc (r1 := [I (k), I (k + 1), I (k + 1 + 1), I (k + 1 + 1 + 1), I (k + 1 + 1 + 1 + 1), I (k + 1 + 1 + 1 + 1 + 1), I (k + 1 + 1 + 1 + 1 + 1 + 1), I (k + 1 + 1 + 1 + 1 + 1 + 1 + 1), p1, I (k1), p2, I (k2), I (k2 + 1), p3, I (k3), .bool ((k3 + 1).tmod 3 == 0), p4, I (k4), I (k4 + 1), I (k4 + 1 + 1), I (k4 + 1 + 1 + 1), I (k4 + 1 + 1 + 1 + 1), I (k4 + 1 + 1 + 1 + 1 + 1), I (k4 + 1 + 1 + 1 + 1 + 1 + 1), I (k4 + 1 + 1 + 1 + 1 + 1 + 1 + 1), p5, I (k5), p6, I (k6), I (k6 + 1), p7, I (k7), .bool ((k7 + 1).tmod 3 == 0), p8, I (k8), I (k8 + 1), I (k8 + 1 + 1), I (k8 + 1 + 1 + 1), I (k8 + 1 + 1 + 1 + 1), I (k8 + 1 + 1 + 1 + 1 + 1), I (k8 + 1 + 1 + 1 + 1 + 1 + 1), I (k8 + 1 + 1 + 1 + 1 + 1 + 1 + 1), p9, I (k9), p10, I (k10), I x.B.Head.Wait, ints x.B.Head.Judge.Lst, I x.B.Head.Judge.Need, .bool x.B.Head.Frozen, .list 2 (x.B.Sigs.map eSig)]) rfl rfl rfl (wr1 (by omega) (by omega)) (mk_sc (r1 := [I (k), I (k + 1), I (k + 1 + 1), I (k + 1 + 1 + 1), I (k + 1 + 1 + 1 + 1), I (k + 1 + 1 + 1 + 1 + 1), I (k + 1 + 1 + 1 + 1 + 1 + 1), I (k + 1 + 1 + 1 + 1 + 1 + 1 + 1), p1, I (k1), p2, I (k2), I (k2 + 1), p3, I (k3), .bool ((k3 + 1).tmod 3 == 0), p4, I (k4), I (k4 + 1), I (k4 + 1 + 1), I (k4 + 1 + 1 + 1), I (k4 + 1 + 1 + 1 + 1), I (k4 + 1 + 1 + 1 + 1 + 1), I (k4 + 1 + 1 + 1 + 1 + 1 + 1), I (k4 + 1 + 1 + 1 + 1 + 1 + 1 + 1), p5, I (k5), p6, I (k6), I (k6 + 1), p7, I (k7), .bool ((k7 + 1).tmod 3 == 0), p8, I (k8), I (k8 + 1), I (k8 + 1 + 1), I (k8 + 1 + 1 + 1), I (k8 + 1 + 1 + 1 + 1), I (k8 + 1 + 1 + 1 + 1 + 1), I (k8 + 1 + 1 + 1 + 1 + 1 + 1), I (k8 + 1 + 1 + 1 + 1 + 1 + 1 + 1), p9, I (k9), p10, I (k10), I (k10 + 1), ints x.B.Head.Judge.Lst, I x.B.Head.Judge.Need, .bool x.B.Head.Frozen, .list 2 (x.B.Sigs.map eSig)]) rfl rfl rfl (wr1 (by omega) (by omega)) (mk_ca (r1 := [I (k), I (k + 1), I (k + 1 + 1), I (k + 1 + 1 + 1), I (k + 1 + 1 + 1 + 1), I (k + 1 + 1 + 1 + 1 + 1), I (k + 1 + 1 + 1 + 1 + 1 + 1), I (k + 1 + 1 + 1 + 1 + 1 + 1 + 1), p1, I (k1), p2, I (k2), I (k2 + 1), p3, I (k3), .bool ((k3 + 1).tmod 3 == 0), p4, I (k4), I (k4 + 1), I (k4 + 1 + 1), I (k4 + 1 + 1 + 1), I (k4 + 1 + 1 + 1 + 1), I (k4 + 1 + 1 + 1 + 1 + 1), I (k4 + 1 + 1 + 1 + 1 + 1 + 1), I (k4 + 1 + 1 + 1 + 1 + 1 + 1 + 1), p5, I (k5), p6, I (k6), I (k6 + 1), p7, I (k7), .bool ((k7 + 1).tmod 3 == 0), p8, I (k8), I (k8 + 1), I (k8 + 1 + 1), I (k8 + 1 + 1 + 1), I (k8 + 1 + 1 + 1 + 1), I (k8 + 1 + 1 + 1 + 1 + 1), I (k8 + 1 + 1 + 1 + 1 + 1 + 1), I (k8 + 1 + 1 + 1 + 1 + 1 + 1 + 1), p9, I (k9), p10, I (k10), I (k10 + 1), p11, I x.B.Head.Judge.Need, .bool x.B.Head.Frozen, .list 2 (x.B.Sigs.map eSig)]) rfl rfl e11 rfl (rg_of (by omega) (by omega)) (mk_sc (r1 := [I (k), I (k + 1), I (k + 1 + 1), I (k + 1 + 1 + 1), I (k + 1 + 1 + 1 + 1), I (k + 1 + 1 + 1 + 1 + 1), I (k + 1 + 1 + 1 + 1 + 1 + 1), I (k + 1 + 1 + 1 + 1 + 1 + 1 + 1), p1, I (k1), p2, I (k2), I (k2 + 1), p3, I (k3), .bool ((k3 + 1).tmod 3 == 0), p4, I (k4), I (k4 + 1), I (k4 + 1 + 1), I (k4 + 1 + 1 + 1), I (k4 + 1 + 1 + 1 + 1), I (k4 + 1 + 1 + 1 + 1 + 1), I (k4 + 1 + 1 + 1 + 1 + 1 + 1), I (k4 + 1 + 1 + 1 + 1 + 1 + 1 + 1), p5, I (k5), p6, I (k6), I (k6 + 1), p7, I (k7), .bool ((k7 + 1).tmod 3 == 0), p8, I (k8), I (k8 + 1), I (k8 + 1 + 1), I (k8 + 1 + 1 + 1), I (k8 + 1 + 1 + 1 + 1), I (k8 + 1 + 1 + 1 + 1 + 1), I (k8 + 1 + 1 + 1 + 1 + 1 + 1), I (k8 + 1 + 1 + 1 + 1 + 1 + 1 + 1), p9, I (k9), p10, I (k10), I (k10 + 1), p11, I (k11), .bool x.B.Head.Frozen, .list 2 (x.B.Sigs.map eSig)]) rfl rfl rfl (wr1 (by omega) (by omega)) (mk_sc (r1 := [I (k), I (k + 1), I (k + 1 + 1), I (k + 1 + 1 + 1), I (k + 1 + 1 + 1 + 1), I (k + 1 + 1 + 1 + 1 + 1), I (k + 1 + 1 + 1 + 1 + 1 + 1), I (k + 1 + 1 + 1 + 1 + 1 + 1 + 1), p1, I (k1), p2, I (k2), I (k2 + 1), p3, I (k3), .bool ((k3 + 1).tmod 3 == 0), p4, I (k4), I (k4 + 1), I (k4 + 1 + 1), I (k4 + 1 + 1 + 1), I (k4 + 1 + 1 + 1 + 1), I (k4 + 1 + 1 + 1 + 1 + 1), I (k4 + 1 + 1 + 1 + 1 + 1 + 1), I (k4 + 1 + 1 + 1 + 1 + 1 + 1 + 1), p5, I (k5), p6, I (k6), I (k6 + 1), p7, I (k7), .bool ((k7 + 1).tmod 3 == 0), p8, I (k8), I (k8 + 1), I (k8 + 1 + 1), I (k8 + 1 + 1 + 1), I (k8 + 1 + 1 + 1 + 1), I (k8 + 1 + 1 + 1 + 1 + 1), I (k8 + 1 + 1 + 1 + 1 + 1 + 1), I (k8 + 1 + 1 + 1 + 1 + 1 + 1 + 1), p9, I (k9), p10, I (k10), I (k10 + 1), p11, I (k11), .bool ((k11 + 1).tmod 3 == 0), .list 2 (x.B.Sigs.map eSig)]) rfl rfl rfl (wr1 (by omega) (by omega)) (mk_ca (r1 := [I (k), I (k + 1), I (k + 1 + 1), I (k + 1 + 1 + 1), I (k + 1 + 1 + 1 + 1), I (k + 1 + 1 + 1 + 1 + 1), I (k + 1 + 1 + 1 + 1 + 1 + 1), I (k + 1 + 1 + 1 + 1 + 1 + 1 + 1), p1, I (k1), p2, I (k2), I (k2 + 1), p3, I (k3), .bool ((k3 + 1).tmod 3 == 0), p4, I (k4), I (k4 + 1), I (k4 + 1 + 1), I (k4 + 1 + 1 + 1), I (k4 + 1 + 1 + 1 + 1), I (k4 + 1 + 1 + 1 + 1 + 1), I (k4 + 1 + 1 + 1 + 1 + 1 + 1), I (k4 + 1 + 1 + 1 + 1 + 1 + 1 + 1), p5, I (k5), p6, I (k6), I (k6 + 1), p7, I (k7), .bool ((k7 + 1).tmod 3 == 0), p8, I (k8), I (k8 + 1), I (k8 + 1 + 1), I (k8 + 1 + 1 + 1), I (k8 + 1 + 1 + 1 + 1), I (k8 + 1 + 1 + 1 + 1 + 1), I (k8 + 1 + 1 + 1 + 1 + 1 + 1), I (k8 + 1 + 1 + 1 + 1 + 1 + 1 + 1), p9, I (k9), p10, I (k10), I (k10 + 1), p11, I (k11), .bool ((k11 + 1).tmod 3 == 0), p12]) rfl rfl e12 rfl (rg_of (by omega) (by omega)) (rfl))))))))))))))))))))))))))))))))))))))))))))))))))), by omega, by omega⟩
  obtain ⟨rows', k', p1, p3, p4⟩ := rows_mark0 eFork (fun x : GFork => mFork x) l hrow k h0 (by omega)
  exact ⟨.list 51 rows', k', mkS_list (by rw [List.length_map]; omega) p1, p3, p4, trivial⟩
theorem marks_Known (a : GKnown) (k : Int) (h0 : 0 ≤ k) (hb : k + 40 * ((mKnown a : Nat) : Int) ≤ 1000000000000000) : ∃ c_1 c_2 k', mk_Known (eKnown a) k = some ([c_1, c_2], k') ∧ k ≤ k' ∧ k' ≤ k + 40 * ((mKnown a : Nat) : Int) ∧ True := by
  simp only [mKnown] at hb ⊢
  obtain ⟨p1, k1, e1, l1, u1, g1⟩ := marks_SignedSS a.Chains (k) (by omega) (by omega)
  obtain ⟨p2, k2, e2, l2, u2, g2⟩ := marks_ForkS a.Forks (k1) (by omega) (by omega)
  refine ⟨p1, p2, k2, ?_, by omega, by omega, trivial⟩
  · exact mkT_of rfl (mk_ca rfl rfl e1 rfl (rg_of (by omega) (by omega)) (mk_ca rfl rfl e2 rfl (rg_of (by omega) (by omega)) (rfl)))
theorem marks_StoredS (l : List GStored) (k : Int) (h0 : 0 ≤ k) (hb : k + 40 * ((mStoredS l : Nat) : Int) ≤ 1000000000000000) : ∃ p k', mk_StoredS (.list 23 (l.map eStored)) k = some (p, k') ∧ k ≤ k' ∧ k' ≤ k + 40 * ((mStoredS l : Nat) : Int) ∧ True := by
  have hm : mStoredS l = l.length + sumN (fun x : GStored => mStored x) l := rfl
  rw [hm] at hb ⊢
  have hrow : ∀ x ∈ l, ∀ k, 0 ≤ k → k + 40 * (1 + ((fun x : GStored => mStored x) x : Int)) ≤ 1000000000000000 → ∃ r' k', mkRow mk_StoredS_r mtx mk_StoredS_s (eStored x) k = some (r', k') ∧ k ≤ k' ∧ k' ≤ k + 40 * (1 + ((fun x : GStored => mStored x) x : Int)) := by
    intro x hx k h0 hb
    have hle : (l.length : Int) ≤ 1000000000000000 := by omega
    clear hle
    try dsimp only at hb ⊢
    simp only [mAnswer, mEntry, mGap, mProof, mStored] at hb ⊢
    obtain ⟨p1, k1, e1, l1, u1, g1⟩ := marks_SignedS x.Answer.Chain (k + 1 + 1) (by omega) (by omega)
    obtain ⟨p2, k2, e2, l2, u2, g2⟩ := marks_StringS x.Answer.Entry.Path (k1 + 1 + 1 + 1 + 1) (by omega) (by omega)
    obtain ⟨p3, k3, e3, l3, u3, g3⟩ := marks_IntS x.Answer.Proof.Path (k2 + 1) (by omega) (by omega)
    obtain ⟨p4, k4, e4, l4, u4, g4⟩ := marks_StringS x.Answer.Gap.Before.Path (k3 + 1 + 1 + 1 + 1) (by omega) (by omega)
    obtain ⟨p5, k5, e5, l5, u5, g5⟩ := marks_StringS x.Answer.Gap.After.Path (k4 + 1 + 1 + 1) (by omega) (by omega)
    obtain ⟨p6, k6, e6, l6, u6, g6⟩ := marks_IntS x.Answer.Gap.Left.Path (k5 + 1) (by omega) (by omega)
    obtain ⟨p7, k7, e7, l7, u7, g7⟩ := marks_IntS x.Answer.Gap.Right.Path (k6 + 1) (by omega) (by omega)
    exact ⟨[I (k), .str (mtx (k + 1)), p1, .bool ((k1).tmod 3 == 0), .str (mtx (k1 + 1)), I (k1 + 1 + 1), I (k1 + 1 + 1 + 1), p2, I (k2), p3, I (k3), .str (mtx (k3 + 1)), I (k3 + 1 + 1), I (k3 + 1 + 1 + 1), p4, .str (mtx (k4)), I (k4 + 1), I (k4 + 1 + 1), p5, I (k5), p6, I (k6), p7], k7, mk_sc (r1 := [I (k), .str x.Label, .list 17 (x.Answer.Chain.map eSigned), .bool x.Answer.Found, .str x.Answer.Entry.Label, I x.Answer.Entry.Kind, I x.Answer.Entry.Value, strs x.Answer.Entry.Path, I x.Answer.Proof.At, ints x.Answer.Proof.Path, I x.Answer.Gap.At, .str x.Answer.Gap.Before.Label, I x.Answer.Gap.Before.Kind, I x.Answer.Gap.Before.Value, strs x.Answer.Gap.Before.Path, .str x.Answer.Gap.After.Label, I x.Answer.Gap.After.Kind, I x.Answer.Gap.After.Value, strs x.Answer.Gap.After.Path, I x.Answer.Gap.Left.At, ints x.Answer.Gap.Left.Path, I x.Answer.Gap.Right.At, ints x.Answer.Gap.Right.Path]) rfl rfl rfl (wr1 (by omega) (by omega)) (mk_sc (r1 := [I (k), .str (mtx (k + 1)), .list 17 (x.Answer.Chain.map eSigned), .bool x.Answer.Found, .str x.Answer.Entry.Label, I x.Answer.Entry.Kind, I x.Answer.Entry.Value, strs x.Answer.Entry.Path, I x.Answer.Proof.At, ints x.Answer.Proof.Path, I x.Answer.Gap.At, .str x.Answer.Gap.Before.Label, I x.Answer.Gap.Before.Kind, I x.Answer.Gap.Before.Value, strs x.Answer.Gap.Before.Path, .str x.Answer.Gap.After.Label, I x.Answer.Gap.After.Kind, I x.Answer.Gap.After.Value, strs x.Answer.Gap.After.Path, I x.Answer.Gap.Left.At, ints x.Answer.Gap.Left.Path, I x.Answer.Gap.Right.At, ints x.Answer.Gap.Right.Path]) rfl rfl rfl (wr1 (by omega) (by omega)) (mk_ca (r1 := [I (k), .str (mtx (k + 1)), p1, .bool x.Answer.Found, .str x.Answer.Entry.Label, I x.Answer.Entry.Kind, I x.Answer.Entry.Value, strs x.Answer.Entry.Path, I x.Answer.Proof.At, ints x.Answer.Proof.Path, I x.Answer.Gap.At, .str x.Answer.Gap.Before.Label, I x.Answer.Gap.Before.Kind, I x.Answer.Gap.Before.Value, strs x.Answer.Gap.Before.Path, .str x.Answer.Gap.After.Label, I x.Answer.Gap.After.Kind, I x.Answer.Gap.After.Value, strs x.Answer.Gap.After.Path, I x.Answer.Gap.Left.At, ints x.Answer.Gap.Left.Path, I x.Answer.Gap.Right.At, ints x.Answer.Gap.Right.Path]) rfl rfl e1 rfl (rg_of (by omega) (by omega)) (mk_sc (r1 := [I (k), .str (mtx (k + 1)), p1, .bool ((k1).tmod 3 == 0), .str x.Answer.Entry.Label, I x.Answer.Entry.Kind, I x.Answer.Entry.Value, strs x.Answer.Entry.Path, I x.Answer.Proof.At, ints x.Answer.Proof.Path, I x.Answer.Gap.At, .str x.Answer.Gap.Before.Label, I x.Answer.Gap.Before.Kind, I x.Answer.Gap.Before.Value, strs x.Answer.Gap.Before.Path, .str x.Answer.Gap.After.Label, I x.Answer.Gap.After.Kind, I x.Answer.Gap.After.Value, strs x.Answer.Gap.After.Path, I x.Answer.Gap.Left.At, ints x.Answer.Gap.Left.Path, I x.Answer.Gap.Right.At, ints x.Answer.Gap.Right.Path]) rfl rfl rfl (wr1 (by omega) (by omega)) (mk_sc (r1 := [I (k), .str (mtx (k + 1)), p1, .bool ((k1).tmod 3 == 0), .str (mtx (k1 + 1)), I x.Answer.Entry.Kind, I x.Answer.Entry.Value, strs x.Answer.Entry.Path, I x.Answer.Proof.At, ints x.Answer.Proof.Path, I x.Answer.Gap.At, .str x.Answer.Gap.Before.Label, I x.Answer.Gap.Before.Kind, I x.Answer.Gap.Before.Value, strs x.Answer.Gap.Before.Path, .str x.Answer.Gap.After.Label, I x.Answer.Gap.After.Kind, I x.Answer.Gap.After.Value, strs x.Answer.Gap.After.Path, I x.Answer.Gap.Left.At, ints x.Answer.Gap.Left.Path, I x.Answer.Gap.Right.At, ints x.Answer.Gap.Right.Path]) rfl rfl rfl (wr1 (by omega) (by omega)) (mk_sc (r1 := [I (k), .str (mtx (k + 1)), p1, .bool ((k1).tmod 3 == 0), .str (mtx (k1 + 1)), I (k1 + 1 + 1), I x.Answer.Entry.Value, strs x.Answer.Entry.Path, I x.Answer.Proof.At, ints x.Answer.Proof.Path, I x.Answer.Gap.At, .str x.Answer.Gap.Before.Label, I x.Answer.Gap.Before.Kind, I x.Answer.Gap.Before.Value, strs x.Answer.Gap.Before.Path, .str x.Answer.Gap.After.Label, I x.Answer.Gap.After.Kind, I x.Answer.Gap.After.Value, strs x.Answer.Gap.After.Path, I x.Answer.Gap.Left.At, ints x.Answer.Gap.Left.Path, I x.Answer.Gap.Right.At, ints x.Answer.Gap.Right.Path]) rfl rfl rfl (wr1 (by omega) (by omega)) (mk_sc (r1 := [I (k), .str (mtx (k + 1)), p1, .bool ((k1).tmod 3 == 0), .str (mtx (k1 + 1)), I (k1 + 1 + 1), I (k1 + 1 + 1 + 1), strs x.Answer.Entry.Path, I x.Answer.Proof.At, ints x.Answer.Proof.Path, I x.Answer.Gap.At, .str x.Answer.Gap.Before.Label, I x.Answer.Gap.Before.Kind, I x.Answer.Gap.Before.Value, strs x.Answer.Gap.Before.Path, .str x.Answer.Gap.After.Label, I x.Answer.Gap.After.Kind, I x.Answer.Gap.After.Value, strs x.Answer.Gap.After.Path, I x.Answer.Gap.Left.At, ints x.Answer.Gap.Left.Path, I x.Answer.Gap.Right.At, ints x.Answer.Gap.Right.Path]) rfl rfl rfl (wr1 (by omega) (by omega)) (mk_ca (r1 := [I (k), .str (mtx (k + 1)), p1, .bool ((k1).tmod 3 == 0), .str (mtx (k1 + 1)), I (k1 + 1 + 1), I (k1 + 1 + 1 + 1), p2, I x.Answer.Proof.At, ints x.Answer.Proof.Path, I x.Answer.Gap.At, .str x.Answer.Gap.Before.Label, I x.Answer.Gap.Before.Kind, I x.Answer.Gap.Before.Value, strs x.Answer.Gap.Before.Path, .str x.Answer.Gap.After.Label, I x.Answer.Gap.After.Kind, I x.Answer.Gap.After.Value, strs x.Answer.Gap.After.Path, I x.Answer.Gap.Left.At, ints x.Answer.Gap.Left.Path, I x.Answer.Gap.Right.At, ints x.Answer.Gap.Right.Path]) rfl rfl e2 rfl (rg_of (by omega) (by omega)) (mk_sc (r1 := [I (k), .str (mtx (k + 1)), p1, .bool ((k1).tmod 3 == 0), .str (mtx (k1 + 1)), I (k1 + 1 + 1), I (k1 + 1 + 1 + 1), p2, I (k2), ints x.Answer.Proof.Path, I x.Answer.Gap.At, .str x.Answer.Gap.Before.Label, I x.Answer.Gap.Before.Kind, I x.Answer.Gap.Before.Value, strs x.Answer.Gap.Before.Path, .str x.Answer.Gap.After.Label, I x.Answer.Gap.After.Kind, I x.Answer.Gap.After.Value, strs x.Answer.Gap.After.Path, I x.Answer.Gap.Left.At, ints x.Answer.Gap.Left.Path, I x.Answer.Gap.Right.At, ints x.Answer.Gap.Right.Path]) rfl rfl rfl (wr1 (by omega) (by omega)) (mk_ca (r1 := [I (k), .str (mtx (k + 1)), p1, .bool ((k1).tmod 3 == 0), .str (mtx (k1 + 1)), I (k1 + 1 + 1), I (k1 + 1 + 1 + 1), p2, I (k2), p3, I x.Answer.Gap.At, .str x.Answer.Gap.Before.Label, I x.Answer.Gap.Before.Kind, I x.Answer.Gap.Before.Value, strs x.Answer.Gap.Before.Path, .str x.Answer.Gap.After.Label, I x.Answer.Gap.After.Kind, I x.Answer.Gap.After.Value, strs x.Answer.Gap.After.Path, I x.Answer.Gap.Left.At, ints x.Answer.Gap.Left.Path, I x.Answer.Gap.Right.At, ints x.Answer.Gap.Right.Path]) rfl rfl e3 rfl (rg_of (by omega) (by omega)) (mk_sc (r1 := [I (k), .str (mtx (k + 1)), p1, .bool ((k1).tmod 3 == 0), .str (mtx (k1 + 1)), I (k1 + 1 + 1), I (k1 + 1 + 1 + 1), p2, I (k2), p3, I (k3), .str x.Answer.Gap.Before.Label, I x.Answer.Gap.Before.Kind, I x.Answer.Gap.Before.Value, strs x.Answer.Gap.Before.Path, .str x.Answer.Gap.After.Label, I x.Answer.Gap.After.Kind, I x.Answer.Gap.After.Value, strs x.Answer.Gap.After.Path, I x.Answer.Gap.Left.At, ints x.Answer.Gap.Left.Path, I x.Answer.Gap.Right.At, ints x.Answer.Gap.Right.Path]) rfl rfl rfl (wr1 (by omega) (by omega)) (mk_sc (r1 := [I (k), .str (mtx (k + 1)), p1, .bool ((k1).tmod 3 == 0), .str (mtx (k1 + 1)), I (k1 + 1 + 1), I (k1 + 1 + 1 + 1), p2, I (k2), p3, I (k3), .str (mtx (k3 + 1)), I x.Answer.Gap.Before.Kind, I x.Answer.Gap.Before.Value, strs x.Answer.Gap.Before.Path, .str x.Answer.Gap.After.Label, I x.Answer.Gap.After.Kind, I x.Answer.Gap.After.Value, strs x.Answer.Gap.After.Path, I x.Answer.Gap.Left.At, ints x.Answer.Gap.Left.Path, I x.Answer.Gap.Right.At, ints x.Answer.Gap.Right.Path]) rfl rfl rfl (wr1 (by omega) (by omega)) (mk_sc (r1 := [I (k), .str (mtx (k + 1)), p1, .bool ((k1).tmod 3 == 0), .str (mtx (k1 + 1)), I (k1 + 1 + 1), I (k1 + 1 + 1 + 1), p2, I (k2), p3, I (k3), .str (mtx (k3 + 1)), I (k3 + 1 + 1), I x.Answer.Gap.Before.Value, strs x.Answer.Gap.Before.Path, .str x.Answer.Gap.After.Label, I x.Answer.Gap.After.Kind, I x.Answer.Gap.After.Value, strs x.Answer.Gap.After.Path, I x.Answer.Gap.Left.At, ints x.Answer.Gap.Left.Path, I x.Answer.Gap.Right.At, ints x.Answer.Gap.Right.Path]) rfl rfl rfl (wr1 (by omega) (by omega)) (mk_sc (r1 := [I (k), .str (mtx (k + 1)), p1, .bool ((k1).tmod 3 == 0), .str (mtx (k1 + 1)), I (k1 + 1 + 1), I (k1 + 1 + 1 + 1), p2, I (k2), p3, I (k3), .str (mtx (k3 + 1)), I (k3 + 1 + 1), I (k3 + 1 + 1 + 1), strs x.Answer.Gap.Before.Path, .str x.Answer.Gap.After.Label, I x.Answer.Gap.After.Kind, I x.Answer.Gap.After.Value, strs x.Answer.Gap.After.Path, I x.Answer.Gap.Left.At, ints x.Answer.Gap.Left.Path, I x.Answer.Gap.Right.At, ints x.Answer.Gap.Right.Path]) rfl rfl rfl (wr1 (by omega) (by omega)) (mk_ca (r1 := [I (k), .str (mtx (k + 1)), p1, .bool ((k1).tmod 3 == 0), .str (mtx (k1 + 1)), I (k1 + 1 + 1), I (k1 + 1 + 1 + 1), p2, I (k2), p3, I (k3), .str (mtx (k3 + 1)), I (k3 + 1 + 1), I (k3 + 1 + 1 + 1), p4, .str x.Answer.Gap.After.Label, I x.Answer.Gap.After.Kind, I x.Answer.Gap.After.Value, strs x.Answer.Gap.After.Path, I x.Answer.Gap.Left.At, ints x.Answer.Gap.Left.Path, I x.Answer.Gap.Right.At, ints x.Answer.Gap.Right.Path]) rfl rfl e4 rfl (rg_of (by omega) (by omega)) (mk_sc (r1 := [I (k), .str (mtx (k + 1)), p1, .bool ((k1).tmod 3 == 0), .str (mtx (k1 + 1)), I (k1 + 1 + 1), I (k1 + 1 + 1 + 1), p2, I (k2), p3, I (k3), .str (mtx (k3 + 1)), I (k3 + 1 + 1), I (k3 + 1 + 1 + 1), p4, .str (mtx (k4)), I x.Answer.Gap.After.Kind, I x.Answer.Gap.After.Value, strs x.Answer.Gap.After.Path, I x.Answer.Gap.Left.At, ints x.Answer.Gap.Left.Path, I x.Answer.Gap.Right.At, ints x.Answer.Gap.Right.Path]) rfl rfl rfl (wr1 (by omega) (by omega)) (mk_sc (r1 := [I (k), .str (mtx (k + 1)), p1, .bool ((k1).tmod 3 == 0), .str (mtx (k1 + 1)), I (k1 + 1 + 1), I (k1 + 1 + 1 + 1), p2, I (k2), p3, I (k3), .str (mtx (k3 + 1)), I (k3 + 1 + 1), I (k3 + 1 + 1 + 1), p4, .str (mtx (k4)), I (k4 + 1), I x.Answer.Gap.After.Value, strs x.Answer.Gap.After.Path, I x.Answer.Gap.Left.At, ints x.Answer.Gap.Left.Path, I x.Answer.Gap.Right.At, ints x.Answer.Gap.Right.Path]) rfl rfl rfl (wr1 (by omega) (by omega)) (mk_sc (r1 := [I (k), .str (mtx (k + 1)), p1, .bool ((k1).tmod 3 == 0), .str (mtx (k1 + 1)), I (k1 + 1 + 1), I (k1 + 1 + 1 + 1), p2, I (k2), p3, I (k3), .str (mtx (k3 + 1)), I (k3 + 1 + 1), I (k3 + 1 + 1 + 1), p4, .str (mtx (k4)), I (k4 + 1), I (k4 + 1 + 1), strs x.Answer.Gap.After.Path, I x.Answer.Gap.Left.At, ints x.Answer.Gap.Left.Path, I x.Answer.Gap.Right.At, ints x.Answer.Gap.Right.Path]) rfl rfl rfl (wr1 (by omega) (by omega)) (mk_ca (r1 := [I (k), .str (mtx (k + 1)), p1, .bool ((k1).tmod 3 == 0), .str (mtx (k1 + 1)), I (k1 + 1 + 1), I (k1 + 1 + 1 + 1), p2, I (k2), p3, I (k3), .str (mtx (k3 + 1)), I (k3 + 1 + 1), I (k3 + 1 + 1 + 1), p4, .str (mtx (k4)), I (k4 + 1), I (k4 + 1 + 1), p5, I x.Answer.Gap.Left.At, ints x.Answer.Gap.Left.Path, I x.Answer.Gap.Right.At, ints x.Answer.Gap.Right.Path]) rfl rfl e5 rfl (rg_of (by omega) (by omega)) (mk_sc (r1 := [I (k), .str (mtx (k + 1)), p1, .bool ((k1).tmod 3 == 0), .str (mtx (k1 + 1)), I (k1 + 1 + 1), I (k1 + 1 + 1 + 1), p2, I (k2), p3, I (k3), .str (mtx (k3 + 1)), I (k3 + 1 + 1), I (k3 + 1 + 1 + 1), p4, .str (mtx (k4)), I (k4 + 1), I (k4 + 1 + 1), p5, I (k5), ints x.Answer.Gap.Left.Path, I x.Answer.Gap.Right.At, ints x.Answer.Gap.Right.Path]) rfl rfl rfl (wr1 (by omega) (by omega)) (mk_ca (r1 := [I (k), .str (mtx (k + 1)), p1, .bool ((k1).tmod 3 == 0), .str (mtx (k1 + 1)), I (k1 + 1 + 1), I (k1 + 1 + 1 + 1), p2, I (k2), p3, I (k3), .str (mtx (k3 + 1)), I (k3 + 1 + 1), I (k3 + 1 + 1 + 1), p4, .str (mtx (k4)), I (k4 + 1), I (k4 + 1 + 1), p5, I (k5), p6, I x.Answer.Gap.Right.At, ints x.Answer.Gap.Right.Path]) rfl rfl e6 rfl (rg_of (by omega) (by omega)) (mk_sc (r1 := [I (k), .str (mtx (k + 1)), p1, .bool ((k1).tmod 3 == 0), .str (mtx (k1 + 1)), I (k1 + 1 + 1), I (k1 + 1 + 1 + 1), p2, I (k2), p3, I (k3), .str (mtx (k3 + 1)), I (k3 + 1 + 1), I (k3 + 1 + 1 + 1), p4, .str (mtx (k4)), I (k4 + 1), I (k4 + 1 + 1), p5, I (k5), p6, I (k6), ints x.Answer.Gap.Right.Path]) rfl rfl rfl (wr1 (by omega) (by omega)) (mk_ca (r1 := [I (k), .str (mtx (k + 1)), p1, .bool ((k1).tmod 3 == 0), .str (mtx (k1 + 1)), I (k1 + 1 + 1), I (k1 + 1 + 1 + 1), p2, I (k2), p3, I (k3), .str (mtx (k3 + 1)), I (k3 + 1 + 1), I (k3 + 1 + 1 + 1), p4, .str (mtx (k4)), I (k4 + 1), I (k4 + 1 + 1), p5, I (k5), p6, I (k6), p7]) rfl rfl e7 rfl (rg_of (by omega) (by omega)) (rfl))))))))))))))))))))))), by omega, by omega⟩
  obtain ⟨rows', k', p1, p3, p4⟩ := rows_mark0 eStored (fun x : GStored => mStored x) l hrow k h0 (by omega)
  exact ⟨.list 23 rows', k', mkS_list (by rw [List.length_map]; omega) p1, p3, p4, trivial⟩
theorem marks_Cache (a : GCache) (k : Int) (h0 : 0 ≤ k) (hb : k + 40 * ((mCache a : Nat) : Int) ≤ 1000000000000000) : ∃ c_1 k', mk_Cache (eCache a) k = some ([c_1], k') ∧ k ≤ k' ∧ k' ≤ k + 40 * ((mCache a : Nat) : Int) ∧ True := by
  simp only [mCache] at hb ⊢
  obtain ⟨p1, k1, e1, l1, u1, g1⟩ := marks_StoredS a.Lst (k) (by omega) (by omega)
  refine ⟨p1, k1, ?_, by omega, by omega, trivial⟩
  · exact mkT_of rfl (mk_ca rfl rfl e1 rfl (rg_of (by omega) (by omega)) (rfl))
theorem marks_World (a : GWorld) (k : Int) (h0 : 0 ≤ k) (hb : k + 40 * ((mWorld a : Nat) : Int) ≤ 1000000000000000) : ∃ c_1 c_2 c_3 c_4 c_5_1 c_5_2 c_6_1 k', mk_World (eWorld a) k = some ([I a.Now, c_1, c_2, c_3, c_4, c_5_1, c_5_2, c_6_1], k') ∧ k ≤ k' ∧ k' ≤ k + 40 * ((mWorld a : Nat) : Int) ∧ True := by
  simp only [mWorld] at hb ⊢
  obtain ⟨p1, k1, e1, l1, u1, g1⟩ := marks_ActorS a.Actors (k) (by omega) (by omega)
  obtain ⟨p2, k2, e2, l2, u2, g2⟩ := marks_ZoneS a.Zones (k1) (by omega) (by omega)
  obtain ⟨p3, k3, e3, l3, u3, g3⟩ := marks_SaidS a.Said (k2) (by omega) (by omega)
  obtain ⟨p4, k4, e4, l4, u4, g4⟩ := marks_ServerS a.Servers (k3) (by omega) (by omega)
  obtain ⟨p5_1, p5_2, k5, e5, l5, u5, g5⟩ := marks_Known a.Known (k4) (by omega) (by omega)
  obtain ⟨p6_1, k6, e6, l6, u6, g6⟩ := marks_Cache a.Cache (k5) (by omega) (by omega)
  refine ⟨p1, p2, p3, p4, p5_1, p5_2, p6_1, k6, ?_, by omega, by omega, trivial⟩
  · exact mkT_of rfl (mk_ca rfl rfl e1 rfl (rg_of (by omega) (by omega)) (mk_ca rfl rfl e2 rfl (rg_of (by omega) (by omega)) (mk_ca rfl rfl e3 rfl (rg_of (by omega) (by omega)) (mk_ca rfl rfl e4 rfl (rg_of (by omega) (by omega)) (mk_ct (Nat.le_of_ble_eq_true rfl) rfl rfl e5 rfl (rg_of (by omega) (by omega)) (mk_ct (Nat.le_of_ble_eq_true rfl) rfl rfl e6 rfl (rg_of (by omega) (by omega)) (rfl)))))))
theorem marks_Zone (a : GZone) (k : Int) (h0 : 0 ≤ k) (hb : k + 40 * ((mZone a : Nat) : Int) ≤ 1000000000000000) : ∃ c_1 c_2 k', mk_Zone (eZone a) k = some ([c_1, c_2], k') ∧ k ≤ k' ∧ k' ≤ k + 40 * ((mZone a : Nat) : Int) ∧ ∀ K, call laws_heldZone [.agg [c_1, c_2], .one (I k)] K = K [I k'] := by
  simp only [mZone] at hb ⊢
  obtain ⟨p1, k1, e1, l1, u1, g1⟩ := marks_SignedS a.Chain (k) (by omega) (by omega)
  obtain ⟨p2, k2, e2, l2, u2, g2⟩ := marks_EntryS a.Entries (k1) (by omega) (by omega)
  refine ⟨p1, p2, k2, ?_, by omega, by omega, fun K => call_of (fun K => ?_) K⟩
  · exact mkT_of rfl (mk_ca rfl rfl e1 rfl (rg_of (by omega) (by omega)) (mk_ca rfl rfl e2 rfl (rg_of (by omega) (by omega)) (rfl)))
  · have f1 : ¬ (k1 < 0) := by omega
    have f2 : ¬ (k2 < 0) := by omega
    simp only [laws_heldZone, un, cur0, g1, g2, f1, f2, atP_zero, binP_lss, decide_false, iteP_eq, Bool.false_eq_true, if_false, rt_eq, scs_sc, scs_nil, flat_int, true_and]
end Go.Ev
set_option linter.unusedVariables false
set_option linter.unusedSimpArgs false
set_option maxRecDepth 4000
namespace Go.Ev
open Go.Proofs
theorem flatRows_map {α : Type} {sz : Nat} {l : List α} {f : α → List PV} (h : ∀ x ∈ l, ∀ p ∈ f x, p.flat = true) : flatRows (.list sz (l.map f)) := by
  intro r hr p hp
  obtain ⟨x, hx, rfl⟩ := List.mem_map.1 hr
  exact h x hx p hp
theorem Clone_int_n (l : List Int) (h : l.length ≤ 1048576) (k) : call slices_Clone_int [.one (ints l)] k = k [ints l] := call_of (fun k => by
  have hf : flatRows (ints l) := flatRows_map fun x _ p hp => by simp [rI] at hp; subst hp; rfl
  have hb : 0 + (l.map rI).length < 1073741824 := by rw [List.length_map]; omega
  simp only [slices_Clone_int, nilP, iteP_eq, Bool.false_eq_true, if_false, if_true, catP_eq, hf, List.length_nil, hb, List.nil_append, rt_eq, scs_own, scs_nil, true_and, Nat.zero_le]
  refine ⟨fun q => q.1, fun q => ⟨q, fun e => ?_⟩⟩
  simp only [Bool.not_false, if_true]
  have e2 := congrArg (PV.list 1) e
  rw [← e2]; exact q) k
theorem Clone_string_n (l : List ByteArray) (h : l.length ≤ 1048576) (k) : call slices_Clone_string [.one (strs l)] k = k [strs l] := call_of (fun k => by
  have hf : flatRows (strs l) := flatRows_map fun x _ p hp => by simp [rS] at hp; subst hp; rfl
  have hb : 0 + (l.map rS).length < 1073741824 := by rw [List.length_map]; omega
  simp only [slices_Clone_string, nilP, iteP_eq, Bool.false_eq_true, if_false, if_true, catP_eq, hf, List.length_nil, hb, List.nil_append, rt_eq, scs_own, scs_nil, true_and, Nat.zero_le]
  refine ⟨fun q => q.1, fun q => ⟨q, fun e => ?_⟩⟩
  simp only [Bool.not_false, if_true]
  have e2 := congrArg (PV.list 1) e
  rw [← e2]; exact q) k
theorem Clone_Sig_n (l : List GSig) (h : l.length ≤ 1048576) (k) : call slices_Clone_Sig [.one (.list 2 (l.map eSig))] k = k [.list 2 (l.map eSig)] := call_of (fun k => by
  have hf : flatRows (.list 2 (l.map eSig)) := flatRows_map fun x _ p hp => by simp [eSig] at hp; rcases hp with rfl | rfl <;> rfl
  have hb : 0 + (l.map eSig).length < 1073741824 := by rw [List.length_map]; omega
  simp only [slices_Clone_Sig, nilP, iteP_eq, Bool.false_eq_true, if_false, if_true, catP_eq, hf, List.length_nil, hb, List.nil_append, rt_eq, scs_own, scs_nil, true_and, Nat.zero_le]
  refine ⟨fun q => q.1, fun q => ⟨q, fun e => ?_⟩⟩
  simp only [Bool.not_false, if_true]
  have e2 := congrArg (PV.list 2) e
  rw [← e2]; exact q) k
theorem catP_nil {sz : Nat} {rows : List (List PV)} (h : rows.length ≤ 1048576) (k : PV → Prop) : catP sz (.list sz rows) (.list sz []) k = k (.list sz rows) := by
  rw [catP_eq]; simp; omega
theorem impl_copyKeys_n (a : GKeys) (h : mKeys a ≤ 1048576) (k) : call impl_copyKeys [.agg (eKeys a)] k = k (eKeys a) := call_of (fun k => by
  have e := Clone_int_n a.Lst h
  simp [impl_copyKeys, e]) k
theorem spec_l6Copy_n (a : GKeys) (h : mKeys a ≤ 1048576) (k) : call spec_l6Copy [.agg (eKeys a)] k = k (eKeys a) := call_of (fun k => by
  have h' : (a.Lst.map rI).length ≤ 1048576 := by rw [List.length_map]; exact h
  simp only [spec_l6Copy, un, cur0, catP_nil h', rt_eq, scs_pv, scs_sc, scs_nil, flat_int, true_and]) k
theorem impl_copyHead_n (a : GHead) (h : mHead a ≤ 1048576) (k) : call impl_copyHead [.agg (eHead a)] k = k (eHead a) := call_of (fun k => by
  unfold mHead at h
  simp [impl_copyHead, impl_copyKeys_n a.Keys (by omega), impl_copyKeys_n a.Heirs (by omega), impl_copyKeys_n a.Judge (by omega)]) k
theorem spec_l13Copy_n (a : GHead) (h : mHead a ≤ 1048576) (k) : call spec_l13Copy [.agg (eHead a)] k = k (eHead a) := call_of (fun k => by
  unfold mHead at h
  simp [spec_l13Copy, spec_l6Copy_n a.Keys (by omega), spec_l6Copy_n a.Heirs (by omega), spec_l6Copy_n a.Judge (by omega)]) k
theorem impl_copySigned_n (a : GSigned) (h : mSigned a ≤ 1048576) (k) : call impl_copySigned [.agg (eSigned a)] k = k (eSigned a) := call_of (fun k => by
  unfold mSigned at h
  simp [impl_copySigned, impl_copyHead_n a.Head (by omega), Clone_Sig_n a.Sigs (by omega)]) k
theorem spec_l14Copy_n (a : GSigned) (h : mSigned a ≤ 1048576) (k) : call spec_l14Copy [.agg (eSigned a)] k = k (eSigned a) := call_of (fun k => by
  unfold mSigned at h
  have h' : (a.Sigs.map eSig).length ≤ 1048576 := by rw [List.length_map]; omega
  simp only [spec_l14Copy, un, cur0, spec_l13Copy_n a.Head (by omega), catP_nil h']
  simp) k
theorem chain_le7 {l : List GSigned} (h : mSignedS l ≤ 1048576) : l.length ≤ 1048576 ∧ ∀ x ∈ l, mSigned x ≤ 1048576 := by
  unfold mSignedS at h
  refine ⟨by omega, fun x hx => ?_⟩
  have := sumN_mem (s := mSigned) hx
  omega
theorem impl_copyChain_n (l : List GSigned) (h : mSignedS l ≤ 1048576) (k) : call impl_copyChain [.one (.list 17 (l.map eSigned))] k = k [.list 17 (l.map eSigned)] := call_of (fun k => by
  obtain ⟨hl, hx0⟩ := chain_le7 h
  simp only [impl_copyChain, lenP_eq, List.length_map, true_and, show (0 : Nat) ≤ 16777216 by omega]
  refine lp_list l (fun i => [.list 17 (l.map eSigned), I l.length, I i, .list 17 [], .list 17 ((l.take i).map eSigned)]) (by simp) (fun i x hx hi K => ?_) fun K => ?_
  · have e := impl_copySigned_n x (hx0 x (List.mem_of_getElem? hx))
    rw [take_snoc hx, List.map_append]
    have hb : ((l.take i).map eSigned).length + 1 < 1073741824 := by simp; omega
    simp [-getElem?_pos, impl_copyChain_r0, hx, hi, e, wr_succ (show i < 1000000000000000000 by omega)]
    omega
  · simp [impl_copyChain_r0]) k
theorem spec_l16Copy_n (l : List GSigned) (h : mSignedS l ≤ 1048576) (k) : call spec_l16Copy [.one (.list 17 (l.map eSigned))] k = k [.list 17 (l.map eSigned)] := call_of (fun k => by
  obtain ⟨hl, hx0⟩ := chain_le7 h
  simp only [spec_l16Copy, true_and, show (0 : Nat) ≤ 16777216 by omega]
  refine lp_list l (fun i => [.list 17 (l.map eSigned), I i, .list 17 [], .list 17 ((l.take i).map eSigned)]) (by simp) (fun i x hx hi K => ?_) fun K => ?_
  · have e := spec_l14Copy_n x (hx0 x (List.mem_of_getElem? hx))
    rw [take_snoc hx, List.map_append]
    simp [-getElem?_pos, spec_l16Copy_r0, hx, hi, e, wr_succ (show i < 1000000000000000000 by omega)]
    omega
  · simp [spec_l16Copy_r0]) k
theorem impl_copyEntry_n (a : GEntry) (h : mEntry a ≤ 1048576) (k) : call impl_copyEntry [.agg (eEntry a)] k = k (eEntry a) := call_of (fun k => by
  unfold mEntry at h
  simp [impl_copyEntry, Clone_string_n a.Path (by omega)]) k
theorem spec_l5Copy_n (l : List ByteArray) (h : l.length ≤ 1048576) (k) : call spec_l5Copy [.one (strs l)] k = k [strs l] := call_of (fun k => by
  have hf : flatRows (strs l) := flatRows_map fun x _ p hp => by simp [rS] at hp; subst hp; rfl
  have hb : 0 + (l.map rS).length < 1073741824 := by rw [List.length_map]; omega
  simp only [spec_l5Copy, catP_eq, hf, List.length_nil, hb, List.nil_append, rt_eq, scs_pv, scs_nil, true_and, Nat.zero_le]) k
theorem spec_l8Copy_n (a : GEntry) (h : mEntry a ≤ 1048576) (k) : call spec_l8Copy [.agg (eEntry a)] k = k (eEntry a) := call_of (fun k => by
  unfold mEntry at h
  simp [spec_l8Copy, spec_l5Copy_n a.Path (by omega)]) k
def inR (n a b : Int) : Bool := decide (a ≤ n) && decide (n ≤ b)
theorem impl_InRange_n (n a b : Int) (k) : call impl_InRange [.one (I n), .one (I a), .one (I b)] k = k [.bool (inR n a b)] := call_of (fun k => by
  simp [impl_InRange, inR]; split <;> simp [*]) k
theorem spec_l1In_n (n a b : Int) (k) : call spec_l1In [.one (I n), .one (I a), .one (I b)] k = k [.bool (inR n a b)] := call_of (fun k => by
  simp [spec_l1In, inR]; split <;> simp [*]) k
abbrev actors (l : List GActor) : PV := .list 1 (l.map eActor)
theorem mem_get {α : Type} {l : List α} {i : Nat} {x : α} (h : l[i]? = some x) : x ∈ l := List.mem_of_getElem? h
abbrev eqI (x y : Int) : Bool := decide (x = y)
theorem eqI_comm (n : Int) : (fun x => eqI x n) = eqI n := by funext x; exact decide_eq_decide.mpr eq_comm
theorem wr_pred {i : Nat} (h0 : 0 < i) (h : i < 1000000000000000000) : IntKind.i64.wrap ((i : Int) - 1) = ((i - 1 : Nat) : Int) := by
  rw [wr_eq (by omega) (by omega)]; omega
theorem wr_last {n : Nat} (h : n < 1000000000000000000) : IntKind.i64.wrap ((n : Int) - 1) = (n : Int) - 1 := wr_eq (by omega) (by omega)
theorem getD_get {α : Type} {l : List α} {i : Nat} (d : α) (h : i < l.length) : l[i]? = some (l.getD i d) := by
  rw [List.getD_eq_getElem?_getD, List.getElem?_eq_getElem h]; rfl
def getI {α : Type} (l : List α) (i : Int) : Option α := if 0 ≤ i then l[i.toNat]? else none
theorem inR_get {α : Type} (l : List α) (i : Int) : inR i 0 ((l.length : Int) - 1) = (getI l i).isSome := by
  unfold inR getI
  by_cases h : 0 ≤ i
  · rw [if_pos h]
    by_cases h2 : i.toNat < l.length
    · rw [List.getElem?_eq_getElem h2]; simp [h]; omega
    · rw [List.getElem?_eq_none (by omega)]; simp [h]; omega
  · rw [if_neg h]; simp [h]
theorem getI_some {α : Type} {l : List α} {i : Int} {x : α} (h : getI l i = some x) : 0 ≤ i ∧ l[i.toNat]? = some x ∧ x ∈ l := by
  unfold getI at h
  split at h
  · rename_i h0; exact ⟨h0, h, List.mem_of_getElem? h⟩
  · cases h
def sIsActor (l : List GActor) (a : Int) : Bool := (getI l a).isSome
def at0 (l : List Int) (i : Nat) : Int := l.getD i 0
theorem at0_get {l : List Int} {i : Nat} (h : i < l.length) : l[i]? = some (at0 l i) := getD_get 0 h
def ascP (l : List Int) (i : Nat) (x : Int) : Bool := decide (0 < i) && decide (x ≤ at0 l (i - 1))
def sAsc (l : List Int) : Bool := !anyI (ascP l) 0 l
theorem impl_ascending_n (l : List Int) (h : l.length < 1073741824) (k) : call impl_ascending [.one (ints l)] k = k [.bool (sAsc l)] := call_of (fun k => by
  simp [impl_ascending]
  have := lp_anyIk (R := fun L w => impl_ascending_r0 w L (k [.bool false]) fun q8 q9 q10 q11 => k [.bool true]) k false l (fun i => [ints l, .bool false, I l.length, I i]) (ascP l) rfl (fun i x hx hi K => ?_) fun K => ?_
  · simpa [sAsc] using this
  · by_cases h0 : 0 < i
    · have hp := at0_get (l := l) (show i - 1 < l.length by omega)
      simp [-getElem?_pos, impl_ascending_r0, hx, hi, h0, wr_pred h0 (show i < 1000000000000000000 by omega), hp, wr_succ (show i < 1000000000000000000 by omega), ascP]
    · have h1 : i = 0 := by omega
      subst h1
      simp [-getElem?_pos, impl_ascending_r0, hi, ascP, wr_eq]
  · simp [impl_ascending_r0]) k
def isKeyB (x : Int) : Bool := inR x 1 99
theorem impl_isKey_n (x : Int) (k) : call impl_isKey [.one (I x)] k = k [.bool (isKeyB x)] := call_of (fun k => by simp [impl_isKey, impl_InRange_n, isKeyB]) k
def sIsKeys (a : GKeys) : Bool := inR a.Lst.length 1 4 && !(a.Lst.any (fun x => !isKeyB x) || !sAsc a.Lst) && inR a.Need 1 a.Lst.length
theorem spec_IsKeys_n (a : GKeys) (h : mKeys a ≤ 1048576) (k) : call spec_IsKeys [.agg [ints a.Lst, I a.Need]] k = k [.bool (sIsKeys a)] := call_of (fun k => by
  unfold mKeys at h
  simp [spec_IsKeys]
  refine (lp_anyI (P := k [.bool false]) (fin := k [.bool (inR a.Lst.length 1 4 && inR a.Need 1 a.Lst.length)]) a.Lst (fun j => [.bool false, I j, ints a.Lst, I a.Need]) (fun j y => !isKeyB y || ascP a.Lst j y) rfl (fun j y hy hj K => ?_) fun K => ?_).trans ?_
  · by_cases h0 : 0 < j
    · have hp := at0_get (l := a.Lst) (show j - 1 < a.Lst.length by omega)
      simp [-getElem?_pos, spec_IsKeys_r0, hy, hj, h0, spec_l1In_n, wr_pred h0 (show j < 1000000000000000000 by omega), hp, wr_succ (show j < 1000000000000000000 by omega), ascP, isKeyB]
      cases inR y 1 99 <;> simp
    · have h1 : j = 0 := by omega
      subst h1
      simp [-getElem?_pos, spec_IsKeys_r0, hy, hj, ascP, spec_l1In_n, isKeyB, wr_eq]
  · simp [spec_IsKeys_r0, spec_l1In_n]
    cases inR (a.Lst.length : Int) 1 4 <;> simp
  · rw [anyI_or, anyI_const]
    unfold sIsKeys sAsc
    generalize a.Lst.any (fun x => !isKeyB x) = b1
    generalize anyI (ascP a.Lst) 0 a.Lst = b2
    cases b1 <;> cases b2 <;> simp) k
theorem asc_mono {l : List Int} (h : sAsc l = true) : ∀ {j i : Nat} {x y : Int}, i < j → l[i]? = some x → l[j]? = some y → x < y := by
  have h1 : anyI (ascP l) 0 l = false := by unfold sAsc at h; simpa using h
  rw [anyI_false] at h1
  have step : ∀ {j : Nat} {x y : Int}, l[j]? = some x → l[j + 1]? = some y → x < y := by
    intro j x y hx hy
    have := h1 (j + 1) y hy
    simp [ascP] at this
    have h2 : at0 l j = x := by
      have := at0_get (lt_of_get hx)
      rw [hx] at this; injection this with this; exact this.symm
    rw [h2] at this
    omega
  intro j
  induction j with
  | zero => intro i x y hij; omega
  | succ j ih =>
    intro i x y hij hx hy
    have hj : j < l.length := by have := lt_of_get hy; omega
    have hz := List.getElem?_eq_getElem hj
    by_cases h2 : i = j
    · subst h2; exact step hx hy
    · have a1 := ih (i := i) (by omega) hx hz
      have a2 := step hz hy
      omega
theorem asc_range {l : List Int} (h : sAsc l = true) {x y : Int} (hx : l[0]? = some x) (hy : l[l.length - 1]? = some y) : (l.any fun z => !isKeyB z) = (!(isKeyB x && isKeyB y)) := by
  have hlast : ∀ {z : Int} {i : Nat}, l[i]? = some z → x ≤ z ∧ z ≤ y := by
    intro z i hz
    have hi := lt_of_get hz
    constructor
    · by_cases h0 : i = 0
      · subst h0; rw [hx] at hz; injection hz with hz; omega
      · have := asc_mono h (show 0 < i by omega) hx hz; omega
    · by_cases h0 : i = l.length - 1
      · subst h0; rw [hy] at hz; injection hz with hz; omega
      · have := asc_mono h (show i < l.length - 1 by omega) hz hy; omega
  cases hb : (isKeyB x && isKeyB y) with
  | true =>
    simp only [Bool.and_eq_true, isKeyB, inR, decide_eq_true_eq] at hb
    rw [Bool.not_true, List.any_eq_false]
    intro z hz
    obtain ⟨i, hi⟩ := List.mem_iff_getElem?.1 hz
    have := hlast hi
    simp [isKeyB, inR]; omega
  | false =>
    rw [Bool.not_false, List.any_eq_true]
    by_cases hk : isKeyB x = true
    · have hk2 : isKeyB y = false := by rw [hk] at hb; simpa using hb
      exact ⟨y, List.mem_of_getElem? hy, by simp [hk2]⟩
    · exact ⟨x, List.mem_of_getElem? hx, by simpa using hk⟩
theorem impl_IsKeys_n (a : GKeys) (h : mKeys a ≤ 1048576) (k) : call impl_IsKeys [.agg [ints a.Lst, I a.Need]] k = k [.bool (sIsKeys a)] := call_of (fun k => by
  unfold mKeys at h
  simp [impl_IsKeys, impl_InRange_n, sIsKeys]
  cases h1 : inR a.Lst.length 1 4 with
  | false => simp
  | true =>
    have h2 : 1 ≤ a.Lst.length := by unfold inR at h1; simp at h1; omega
    simp [impl_ascending_n a.Lst (by omega)]
    cases h3 : sAsc a.Lst with
    | false => simp
    | true =>
      have hx := at0_get (l := a.Lst) (show 0 < a.Lst.length by omega)
      have hy := at0_get (l := a.Lst) (show a.Lst.length - 1 < a.Lst.length by omega)
      have hr := asc_range h3 hx hy
      rw [hr]
      simp [-getElem?_pos, hx, hy, impl_isKey_n, wr_pred (show 0 < a.Lst.length by omega) (show a.Lst.length < 1000000000000000000 by omega)]
      cases isKeyB (at0 a.Lst 0) <;> cases isKeyB (at0 a.Lst (a.Lst.length - 1)) <;> simp) k
def sCanSign (a : GKeys) (held : List Int) : Bool := sIsKeys a && decide (a.Need ≤ (a.Lst.countP fun key => held.any (eqI key) : Nat))
def sSignersFor (p : GHead) (kind : Int) : GKeys := if kind = 1 then p.Keys else if kind = 2 then p.Heirs else if kind = 3 then p.Judge else ⟨[], 0⟩
def sCanSpeak (l : List GActor) (a : Int) (p : GHead) (kind : Int) : Bool := match getI l a with | some x => sCanSign (sSignersFor p kind) x.Held | none => false
theorem szSigners (p : GHead) (kind : Int) : mKeys (sSignersFor p kind) ≤ mHead p := by
  unfold sSignersFor mHead
  split
  · omega
  · split
    · omega
    · split
      · omega
      · simp [mKeys]
deriving instance DecidableEq for GKeys, GHead, GSig, GSigned, GFork, GEntry, GProof, GGap, GAnswer, GZone, GKnown, GServer, GActor, GSaid, GStored, GCache, GWorld
theorem zones_le {w : GWorld} (h : mWorld w ≤ 1048576) : w.Zones.length ≤ 1048576 ∧ (∀ z ∈ w.Zones, mZone z ≤ 1048576) ∧ mActorS w.Actors ≤ 1048576 := by
  unfold mWorld at h
  have e : mZoneS w.Zones = w.Zones.length + sumN mZone w.Zones := rfl
  refine ⟨by omega, fun z hz => ?_, by omega⟩
  have := sumN_mem (s := mZone) hz
  omega
def oZone : Option GZone → List PV
  | some z => eZone z ++ [.bool true]
  | none => [.list 17 [], .list 4 [], .bool false]
def sCanTurn (w : GWorld) (a i : Int) : Bool := match getI w.Zones i with
  | some z => match z.Chain[z.Chain.length - 1]? with
    | some p => !p.Head.Frozen && sCanSpeak w.Actors a p.Head 1
    | none => false
  | none => false
theorem impl_last_n (l : List GSigned) (p : GSigned) (h : l.length ≤ 1048576) (hp : l[l.length - 1]? = some p) (k) : call impl_last [.one (.list 17 (l.map eSigned))] k = k (eHead p.Head) := call_of (fun k => by
  have h0 := lt_of_get hp
  simp [-getElem?_pos, impl_last, wr_pred (show 0 < l.length by omega) (show l.length < 1000000000000000000 by omega), hp]) k
theorem chain_last {l : List GSigned} (h : mSignedS l ≤ 1048576) {p : GSigned} (hp : l[l.length - 1]? = some p) : mHead p.Head ≤ 1048576 ∧ l.length ≤ 1048576 := by
  unfold mSignedS at h
  have := sumN_mem (s := mSigned) (mem_get hp)
  have e : mSigned p = mHead p.Head + p.Sigs.length := rfl
  omega
theorem last_none {l : List GSigned} : l[l.length - 1]? = none ↔ l = [] := by
  cases l with
  | nil => simp
  | cons a l => simp
theorem zone_le {z : GZone} (h : mZone z ≤ 1048576) : mSignedS z.Chain ≤ 1048576 ∧ mEntryS z.Entries ≤ 1048576 := by unfold mZone at h; omega
theorem entries_le {l : List GEntry} (h : mEntryS l ≤ 1048576) : l.length ≤ 1048576 ∧ ∀ x ∈ l, mEntry x ≤ 1048576 := by
  unfold mEntryS at h
  refine ⟨by omega, fun x hx => ?_⟩
  have := sumN_mem (s := mEntry) hx
  omega
theorem world_le {w : GWorld} (h : mWorld w ≤ 1048576) : mActorS w.Actors ≤ 1048576 ∧ mZoneS w.Zones ≤ 1048576 ∧ w.Said.length ≤ 1048576 ∧ (∀ s ∈ w.Said, mZone s.Zone ≤ 1048576) ∧ w.Servers.length ≤ 1048576 ∧ (∀ s ∈ w.Servers, mServer s ≤ 1048576) ∧ mKnown w.Known ≤ 1048576 ∧ mCache w.Cache ≤ 1048576 := by
  unfold mWorld mSaidS mServerS at h
  refine ⟨by omega, by omega, by omega, fun s hs => ?_, by omega, fun s hs => ?_, by omega, by omega⟩
  · have := sumN_mem (s := mSaid) hs
    have e : mSaid s = mZone s.Zone + s.Held.length := rfl
    omega
  · have := sumN_mem (s := mServer) hs; omega
theorem spec_l6Has_n (l : List Int) (n : Int) (h : l.length < 1073741824) (k) : call spec_l6Has [.one (ints l), .one (I n)] k = k [.bool (l.any (eqI n))] := call_of (fun k => by
  simp [spec_l6Has]
  have := lp_anyk (R := fun L w => spec_l6Has_r0 w L (k [.bool true]) fun q5 q6 q7 q8 => k [.bool false]) k true l (fun i => [ints l, I n, .bool false, I i]) (fun x => eqI x n) rfl (fun i x hx hi K => ?_) fun K => ?_
  · rw [eqI_comm] at this; simpa using this
  · simp [-getElem?_pos, spec_l6Has_r0, hx, hi, wr_succ (show i < 1000000000000000000 by omega)]
  · simp [spec_l6Has_r0]) k
theorem slices_Index_int_n (l : List Int) (n : Int) (h : l.length < 1073741824) (k) : call slices_Index_int [.one (ints l), .one (I n)] k = k [I (idx (eqI n) l)] := call_of (fun k => by
  simp [slices_Index_int]
  refine lp_find (Q := fun i => k [I i]) l (fun i => [ints l, I n, I 0, I l.length, I i]) (eqI n) rfl (fun i x hx hi K => ?_) fun K => ?_
  · simp [-getElem?_pos, slices_Index_int_r0, hx, hi, wr_succ (show i < 1000000000000000000 by omega)]
  · simp [slices_Index_int_r0]) k
theorem slices_Contains_int_n (l : List Int) (n : Int) (h : l.length < 1073741824) (k) : call slices_Contains_int [.one (ints l), .one (I n)] k = k [.bool (l.any (eqI n))] := call_of (fun k => by
  simp [slices_Contains_int, slices_Index_int_n l n h, idx_any]) k

theorem impl_CanSign_n (a : GKeys) (held : List Int) (h : mKeys a ≤ 1048576) (hh : held.length < 1073741824) (k) : call impl_CanSign [.agg [ints a.Lst, I a.Need], .one (ints held)] k = k [.bool (sCanSign a held)] := call_of (fun k => by
  have h' := h
  unfold mKeys at h'
  simp [impl_CanSign]
  refine lp_list a.Lst (fun i => [ints held, .bool false, I ((a.Lst.take i).countP fun key => held.any (eqI key) : Nat), ints a.Lst, I a.Lst.length, I i, ints a.Lst, I a.Need]) rfl (fun i x hx hi K => ?_) fun K => ?_
  · have hc : (a.Lst.take i).countP (fun key => held.any (eqI key)) ≤ i := Nat.le_trans List.countP_le_length (by simp; omega)
    simp [-getElem?_pos, impl_CanSign_r0, hx, hi, slices_Contains_int_n held x hh, take_snoc hx, wr_succ (show i < 1000000000000000000 by omega), wr_succ (show (a.Lst.take i).countP (fun key => held.any (eqI key)) < 1000000000000000000 by omega)]
    by_cases hm : x ∈ held <;> simp [hm]
  · simp [impl_CanSign_r0, impl_IsKeys_n a h, sCanSign]
    cases sIsKeys a <;> simp) k
theorem spec_CanSign_n (a : GKeys) (held : List Int) (h : mKeys a ≤ 1048576) (hh : held.length < 1073741824) (k) : call spec_CanSign [.agg [ints a.Lst, I a.Need], .one (ints held)] k = k [.bool (sCanSign a held)] := call_of (fun k => by
  have h' := h
  unfold mKeys at h'
  simp [spec_CanSign]
  refine lp_list a.Lst (fun i => [ints held, .bool false, I ((a.Lst.take i).countP fun key => held.any (eqI key) : Nat), I i, ints a.Lst, I a.Need]) rfl (fun i x hx hi K => ?_) fun K => ?_
  · have hc : (a.Lst.take i).countP (fun key => held.any (eqI key)) ≤ i := Nat.le_trans List.countP_le_length (by simp; omega)
    simp [-getElem?_pos, spec_CanSign_r0, hx, hi, spec_l6Has_n held x hh, take_snoc hx, wr_succ (show i < 1000000000000000000 by omega), wr_succ (show (a.Lst.take i).countP (fun key => held.any (eqI key)) < 1000000000000000000 by omega)]
    by_cases hm : x ∈ held <;> simp [hm]
  · simp [spec_CanSign_r0, spec_IsKeys_n a h, sCanSign]
    cases sIsKeys a <;> simp) k
theorem impl_signersFor_n (p : GHead) (kind : Int) (k) : call impl_signersFor [.agg (eHead p), .one (I kind)] k = k [ints (sSignersFor p kind).Lst, I (sSignersFor p kind).Need] := call_of (fun k => by
  simp [impl_signersFor, sSignersFor]
  by_cases h1 : kind = 1
  · simp [h1]
  · by_cases h2 : kind = 2
    · simp [h2]
    · by_cases h3 : kind = 3
      · simp [h3]
      · simp [h1, h2, h3, ints]) k
theorem spec_CanSpeak_n (l : List GActor) (a : Int) (p : GHead) (kind : Int) (h : mActorS l ≤ 1048576) (hp : mHead p ≤ 1048576) (k) : call spec_CanSpeak [.one (actors l), .one (I a), .agg (eHead p), .one (I kind)] k = k [.bool (sCanSpeak l a p kind)] := call_of (fun k => by
  have h' := h
  unfold mActorS at h'
  unfold mHead at hp
  simp [spec_CanSpeak, spec_l1In_n, wr_last (show l.length < 1000000000000000000 by omega), inR_get, sCanSpeak]
  cases hg : getI l a with
  | none => simp
  | some x =>
    obtain ⟨h0, h1, h2⟩ := getI_some hg
    have hx : x.Held.length ≤ sumN mActor l := sumN_mem (s := mActor) h2
    simp [-getElem?_pos, h0, h1, spec_CanSign_n p.Keys x.Held (by omega) (by omega), spec_CanSign_n p.Heirs x.Held (by omega) (by omega), spec_CanSign_n p.Judge x.Held (by omega) (by omega), sSignersFor]
    by_cases k1 : kind = 1
    · simp [k1]
    · by_cases k2 : kind = 2
      · simp [k2]
      · by_cases k3 : kind = 3
        · simp [k3]
        · simp [k1, k2, k3, sCanSign, sIsKeys, inR]) k
theorem impl_isActor_n (l : List GActor) (a : Int) (h : mActorS l ≤ 1048576) (k) : call impl_isActor [.one (actors l), .one (I a)] k = k [.bool (sIsActor l a)] := call_of (fun k => by
  unfold mActorS at h
  simp [impl_isActor, impl_InRange_n, wr_last (show l.length < 1000000000000000000 by omega), inR_get, sIsActor]) k
theorem impl_CanSpeak_n (l : List GActor) (a : Int) (p : GHead) (kind : Int) (h : mActorS l ≤ 1048576) (hp : mHead p ≤ 1048576) (k) : call impl_CanSpeak [.one (actors l), .one (I a), .agg (eHead p), .one (I kind)] k = k [.bool (sCanSpeak l a p kind)] := call_of (fun k => by
  have hs := szSigners p kind
  simp [impl_CanSpeak, impl_isActor_n l a h, sIsActor, sCanSpeak, impl_signersFor_n]
  cases hg : getI l a with
  | none => simp
  | some x =>
    obtain ⟨h0, h1, h2⟩ := getI_some hg
    have hx : x.Held.length ≤ sumN mActor l := sumN_mem (s := mActor) h2
    unfold mActorS at h
    simp [-getElem?_pos, h0, h1, impl_CanSign_n (sSignersFor p kind) x.Held (by omega) (by omega)]) k
theorem spec_l9Copy_n (l : List GEntry) (h : mEntryS l ≤ 1048576) (k) : call spec_l9Copy [.one (.list 4 (l.map eEntry))] k = k [.list 4 (l.map eEntry)] := call_of (fun k => by
  unfold mEntryS at h
  simp [spec_l9Copy]
  refine lp_list l (fun i => [.list 4 (l.map eEntry), I i, .list 4 [], .list 4 ((l.take i).map eEntry)]) rfl (fun i x hx hi K => ?_) fun K => ?_
  · have s := sumN_mem (s := mEntry) (mem_get hx)
    have e := spec_l8Copy_n x (by omega)
    simp [-getElem?_pos, spec_l9Copy_r0, hx, hi, e, catP, take_snoc hx, show min i l.length < 1073741823 by omega, show i < 1073741823 by omega, wr_succ (show i < 1000000000000000000 by omega)]
    try (intros; omega)
  · simp [spec_l9Copy_r0]) k
theorem spec_l20Copy_n (z : GZone) (h : mZone z ≤ 1048576) (k) : call spec_l20Copy [.agg (eZone z)] k = k (eZone z) := call_of (fun k => by
  unfold mZone at h
  simp [spec_l20Copy, spec_l16Copy_n z.Chain (by omega), spec_l9Copy_n z.Entries (by omega)]) k
theorem spec_ZoneAt_n (w : GWorld) (i : Int) (h : mWorld w ≤ 1048576) (k) : call spec_ZoneAt [.agg (eWorld w), .one (I i)] k = k (oZone (getI w.Zones i)) := call_of (fun k => by
  obtain ⟨hl, hz, _⟩ := zones_le h
  simp [spec_ZoneAt, spec_l1In_n, wr_last (show w.Zones.length < 1000000000000000000 by omega), inR_get]
  cases hg : getI w.Zones i with
  | none => simp [oZone]
  | some z =>
    obtain ⟨h0, h1, h2⟩ := getI_some hg
    simp [-getElem?_pos, h0, h1, oZone, spec_l20Copy_n z (hz z h2)]) k
theorem spec_CanTurn_n (w : GWorld) (a i : Int) (h : mWorld w ≤ 1048576) (k) : call spec_CanTurn [.agg (eWorld w), .one (I a), .one (I i)] k = k [.bool (sCanTurn w a i)] := call_of (fun k => by
  obtain ⟨hl, hz, ha⟩ := zones_le h
  have e := spec_ZoneAt_n w i h
  simp [spec_CanTurn, e, sCanTurn]
  cases hg : getI w.Zones i with
  | none => simp [oZone]
  | some z =>
    obtain ⟨h0, h1, h2⟩ := getI_some hg
    have hc : mSignedS z.Chain ≤ 1048576 := by have := hz z h2; unfold mZone at this; omega
    cases hp : z.Chain[z.Chain.length - 1]? with
    | none =>
      rw [last_none] at hp
      simp [oZone, hp]
    | some p =>
      obtain ⟨b1, b2⟩ := chain_last hc hp
      have h3 := lt_of_get hp
      have e2 := spec_CanSpeak_n w.Actors a p.Head 1 ha b1
      simp [-getElem?_pos, oZone, show ¬ z.Chain = [] by (intro h; rw [h] at h3; simp at h3), wr_pred (show 0 < z.Chain.length by omega) (show z.Chain.length < 1000000000000000000 by omega), boundP, rowP, h3, hp, e2]
      cases p.Head.Frozen <;> simp) k
theorem impl_CanTurn_n (w : GWorld) (a i : Int) (h : mWorld w ≤ 1048576) (k) : call impl_CanTurn [.agg (eWorld w), .one (I a), .one (I i)] k = k [.bool (sCanTurn w a i)] := call_of (fun k => by
  obtain ⟨hl, hz, ha⟩ := zones_le h
  have e : ∀ k, call impl_World_hasZone [.agg (eWorld w), .one (I i)] k = k [.bool (getI w.Zones i).isSome] := call_of (fun k => by
    simp [impl_World_hasZone, impl_InRange_n, wr_last (show w.Zones.length < 1000000000000000000 by omega), inR_get])
  simp [impl_CanTurn, e, sCanTurn]
  cases hg : getI w.Zones i with
  | none => simp
  | some z =>
    obtain ⟨h0, h1, h2⟩ := getI_some hg
    have hc : mSignedS z.Chain ≤ 1048576 := by have := hz z h2; unfold mZone at this; omega
    cases hp : z.Chain[z.Chain.length - 1]? with
    | none =>
      rw [last_none] at hp
      simp [-getElem?_pos, h0, h1, hp]
    | some p =>
      obtain ⟨b1, b2⟩ := chain_last hc hp
      have h3 := lt_of_get hp
      have e2 := impl_CanSpeak_n w.Actors a p.Head 1 ha b1
      have e3 := impl_last_n z.Chain p b2 hp
      simp [-getElem?_pos, h0, h1, e3, e2, show ¬ z.Chain = [] by (intro h; rw [h] at h3; simp at h3)]
      simp only [hp]
      cases hf : p.Head.Frozen <;> simp [hf]) k
end Go.Ev
set_option linter.unusedVariables false
set_option linter.unusedSimpArgs false
set_option maxRecDepth 8000
set_option maxHeartbeats 2000000
namespace Go.Ev
open Go.Proofs
theorem callS {m : PV → Int → Option (PV × Int)} {p p' : PV} {k k' : Int} (h : m p k = some (p', k')) (hk : rg64 k = true) (K) : call (gS m) [.one p, .one (I k)] K = K [p', I k'] := call_of (fun K => by
  simp only [gS, hk, true_and, h]) K
theorem callT {m : List PV → Int → Option (List PV × Int)} {ps ps' : List PV} {k k' : Int} (h : m ps k = some (ps', k')) (hk : rg64 k = true) (K) : call (gT m) [.agg ps, .one (I k)] K = K (ps' ++ [I k']) := call_of (fun K => by
  simp only [gT, hk, true_and, h]) K
theorem impl_copyEntries_n (l : List GEntry) (h : mEntryS l ≤ 1048576) (k) : call impl_copyEntries [.one (.list 4 (l.map eEntry))] k = k [.list 4 (l.map eEntry)] := call_of (fun k => by
  obtain ⟨hl, hx0⟩ := entries_le h
  simp only [impl_copyEntries, lenP_eq, List.length_map, true_and, show (0 : Nat) ≤ 16777216 by omega]
  refine lp_list l (fun i => [.list 4 (l.map eEntry), I l.length, I i, .list 4 [], .list 4 ((l.take i).map eEntry)]) (by simp) (fun i x hx hi K => ?_) fun K => ?_
  · have e := impl_copyEntry_n x (hx0 x (List.mem_of_getElem? hx))
    rw [take_snoc hx, List.map_append]
    simp [-getElem?_pos, impl_copyEntries_r0, hx, hi, e, wr_succ (show i < 1000000000000000000 by omega)]
    omega
  · simp [impl_copyEntries_r0]) k
theorem impl_copyZone_n (z : GZone) (h : mZone z ≤ 1048576) (k) : call impl_copyZone [.agg (eZone z)] k = k (eZone z) := call_of (fun k => by
  obtain ⟨h1, h2⟩ := zone_le h
  simp [impl_copyZone, impl_copyChain_n z.Chain h1, impl_copyEntries_n z.Entries h2]) k
theorem impl_ZoneAt_n (w : GWorld) (i : Int) (h : mWorld w ≤ 1048576) (k) : call impl_ZoneAt [.agg (eWorld w), .one (I i)] k = k (oZone (getI w.Zones i)) := call_of (fun k => by
  obtain ⟨hl, hz, ha⟩ := zones_le h
  have e : ∀ k, call impl_World_hasZone [.agg (eWorld w), .one (I i)] k = k [.bool (getI w.Zones i).isSome] := call_of (fun k => by
    simp [impl_World_hasZone, impl_InRange_n, wr_last (show w.Zones.length < 1000000000000000000 by omega), inR_get])
  simp [impl_ZoneAt, e]
  cases hg : getI w.Zones i with
  | none => simp [oZone]
  | some z =>
    obtain ⟨h0, h1, h2⟩ := getI_some hg
    have ec := impl_copyZone_n z (hz z h2)
    simp [-getElem?_pos, h0, h1, ec, oZone]) k
/-! ### Speakers -/
def spk (w : GWorld) (i : Int) (n : Nat) : List Int := ((List.range n).filter fun a : Nat => sCanTurn w (a : Int) i).map fun a : Nat => (a : Int)
theorem spk_succ (w : GWorld) (i : Int) (n : Nat) : spk w i (n + 1) = spk w i n ++ (if sCanTurn w (n : Int) i = true then [(n : Int)] else []) := by
  unfold spk
  rw [List.range_succ, List.filter_append, List.map_append]
  congr 1
  by_cases h : sCanTurn w (n : Int) i = true <;> simp [h]
theorem spk_len (w : GWorld) (i : Int) (n : Nat) : (spk w i n).length ≤ n := by
  unfold spk
  rw [List.length_map]
  have := List.length_filter_le (fun a : Nat => sCanTurn w (a : Int) i) (List.range n)
  simpa using this
theorem actors_len {w : GWorld} (h : mWorld w ≤ 1048576) : w.Actors.length ≤ 1048576 := by
  have := (world_le h).1
  unfold mActorS at this
  omega
theorem impl_SpeakersOf_n (w : GWorld) (i : Int) (h : mWorld w ≤ 1048576) (k) : call impl_SpeakersOf [.agg (eWorld w), .one (I i)] k = k [ints (spk w i w.Actors.length)] := call_of (fun k => by
  have hl := actors_len h
  simp only [impl_SpeakersOf, un, cur0, lenP_eq, List.length_map, true_and, show (0 : Nat) ≤ 16777216 by omega]
  refine lp_nat w.Actors.length (fun j => [I i, I w.Actors.length, I j] ++ eWorld w ++ [.list 1 [], ints (spk w i j)]) rfl (fun j hj K => ?_) fun K => ?_
  · have e := impl_CanTurn_n w j i h
    have hs := spk_len w i j
    rw [spk_succ]
    cases hc : sCanTurn w j i with
    | true =>
      simp [impl_SpeakersOf_r0, hj, e, hc, wr_succ (show j < 1000000000000000000 by omega)]
      have e2 : ints (spk w i j ++ [(j : Int)]) = PV.list 1 (List.map rI (spk w i j) ++ [[I (j : Int)]]) := by simp
      rw [e2]
      exact ⟨fun q => q.2, fun q => ⟨by omega, q⟩⟩
    | false => simp [impl_SpeakersOf_r0, hj, e, hc, wr_succ (show j < 1000000000000000000 by omega)]
  · simp [impl_SpeakersOf_r0]) k
theorem spec_SpeakersOf_n (w : GWorld) (i : Int) (h : mWorld w ≤ 1048576) (k) : call spec_SpeakersOf [.agg (eWorld w), .one (I i)] k = k [ints (spk w i w.Actors.length)] := call_of (fun k => by
  have hl := actors_len h
  simp only [spec_SpeakersOf, un, cur0, lenP_eq, List.length_map, true_and, show (0 : Nat) ≤ 16777216 by omega]
  refine lp_nat w.Actors.length (fun j => [I i, I j] ++ eWorld w ++ [.list 1 [], ints (spk w i j)]) rfl (fun j hj K => ?_) fun K => ?_
  · have e := spec_CanTurn_n w j i h
    have hs := spk_len w i j
    rw [spk_succ]
    cases hc : sCanTurn w j i with
    | true =>
      simp [spec_SpeakersOf_r0, hj, e, hc, wr_succ (show j < 1000000000000000000 by omega)]
      have e2 : ints (spk w i j ++ [(j : Int)]) = PV.list 1 (List.map rI (spk w i j) ++ [[I (j : Int)]]) := by simp
      rw [e2]
      exact ⟨fun q => q.2, fun q => ⟨by omega, q⟩⟩
    | false => simp [spec_SpeakersOf_r0, hj, e, hc, wr_succ (show j < 1000000000000000000 by omega)]
  · simp [spec_SpeakersOf_r0]) k
end Go.Ev
set_option linter.unusedVariables false
set_option linter.unusedSimpArgs false
set_option maxRecDepth 8000
set_option maxHeartbeats 2000000
namespace Go.Ev
open Go.Proofs
theorem laws_FnExactSpeakersOf_law (pvss : List (List PV)) (h : HasEach [[.int .i64, .list [.list [.int .i64]], .list [.list [.int .i64, .int .i64, .int .i64, .int .i64, .int .i64, .int .i64, .int .i64, .int .i64, .list [.int .i64], .int .i64, .list [.int .i64], .int .i64, .int .i64, .list [.int .i64], .int .i64, .bool, .list [.int .i64, .int .i64]], .list [.str, .int .i64, .int .i64, .list [.str]]], .list [.list [.int .i64, .int .i64, .int .i64, .int .i64, .int .i64, .int .i64, .int .i64, .int .i64, .list [.int .i64], .int .i64, .list [.int .i64], .int .i64, .int .i64, .list [.int .i64], .int .i64, .bool, .list [.int .i64, .int .i64]], .list [.str, .int .i64, .int .i64, .list [.str]], .list [.int .i64]], .list [.list [.list [.int .i64, .int .i64, .int .i64, .int .i64, .int .i64, .int .i64, .int .i64, .int .i64, .list [.int .i64], .int .i64, .list [.int .i64], .int .i64, .int .i64, .list [.int .i64], .int .i64, .bool, .list [.int .i64, .int .i64]], .list [.str, .int .i64, .int .i64, .list [.str]]], .int .i64], .list [.list [.int .i64, .int .i64, .int .i64, .int .i64, .int .i64, .int .i64, .int .i64, .int .i64, .list [.int .i64], .int .i64, .list [.int .i64], .int .i64, .int .i64, .list [.int .i64], .int .i64, .bool, .list [.int .i64, .int .i64]]], .list [.int .i64, .int .i64, .int .i64, .int .i64, .int .i64, .int .i64, .int .i64, .int .i64, .list [.int .i64], .int .i64, .list [.int .i64], .int .i64, .int .i64, .list [.int .i64], .int .i64, .bool, .list [.int .i64, .int .i64], .int .i64, .int .i64, .int .i64, .int .i64, .int .i64, .int .i64, .int .i64, .int .i64, .list [.int .i64], .int .i64, .list [.int .i64], .int .i64, .int .i64, .list [.int .i64], .int .i64, .bool, .list [.int .i64, .int .i64], .int .i64, .int .i64, .int .i64, .int .i64, .int .i64, .int .i64, .int .i64, .int .i64, .list [.int .i64], .int .i64, .list [.int .i64], .int .i64, .int .i64, .list [.int .i64], .int .i64, .bool, .list [.int .i64, .int .i64]], .list [.int .i64, .str, .list [.int .i64, .int .i64, .int .i64, .int .i64, .int .i64, .int .i64, .int .i64, .int .i64, .list [.int .i64], .int .i64, .list [.int .i64], .int .i64, .int .i64, .list [.int .i64], .int .i64, .bool, .list [.int .i64, .int .i64]], .bool, .str, .int .i64, .int .i64, .list [.str], .int .i64, .list [.int .i64], .int .i64, .str, .int .i64, .int .i64, .list [.str], .str, .int .i64, .int .i64, .list [.str], .int .i64, .list [.int .i64], .int .i64, .list [.int .i64]]], [.int .i64]] pvss) : laws_FnExactSpeakersOf (avsOf Tryz.prog Tryz.f3.params.toList pvss) (fun o => o = [PV.bool true]) := by
  obtain ⟨p0, r0, rfl, h0, hq0⟩ := each_cons h
  obtain ⟨p1, r1, rfl, h1, hq1⟩ := each_cons hq0
  rw [each_nil hq1]
  obtain ⟨x0, rfl, w0⟩ := decWorld _ h0
  obtain ⟨p1, rfl, g1⟩ := all_one h1
  obtain ⟨x1, rfl⟩ := has_int g1
  rw [show avsOf Tryz.prog Tryz.f3.params.toList [eWorld x0, [I x1]] = [.agg (eWorld x0), .one (I x1)] by kernel_rfl]
  simp only [laws_FnExactSpeakersOf, un, cur0, laws_szWorld_n x0 (1048576) w0 (by omega) (by omega), binP_lss, iteP_eq, atP_zero, atP_succ]
  by_cases c0 : ((mWorld x0 : Nat) : Int) ≤ 1048576
  rotate_left
  · simp [szr_not c0]
  have s0 : mWorld x0 ≤ 1048576 := by omega
  simp only [szr_yes c0, show ¬ (1048576 - ((mWorld x0 : Nat) : Int) < 0) by omega, decide_false, iteP_eq, Bool.false_eq_true, if_false]
  have q1 := laws_toWorld_n x0 s0
  have q2 := laws_eqWorld_n x0 s0
  obtain ⟨c_1, c_2, c_3, c_4, c_5_1, c_5_2, c_6_1, kx, e1, b1, b2, _⟩ := marks_World x0 1 (by omega) (by omega)
  have mx : ∀ K, call laws_markWorld [.agg (eWorld x0), .one (I 1)] K = K [I x0.Now, c_1, c_2, c_3, c_4, c_5_1, c_5_2, c_6_1, I kx] := callT e1 (by decide)
  have n1 : ¬ (kx < 0) := by omega
  have hl := actors_len s0
  have hs := spk_len x0 x1 x0.Actors.length
  have sp := spec_SpeakersOf_n x0 x1 s0
  have im := impl_SpeakersOf_n x0 x1 s0
  generalize spk x0 x1 x0.Actors.length = A at *
  have q3 := laws_eqIntS_n A (by omega)
  obtain ⟨pA, kA, e2, b3, b4, hh⟩ := marks_IntS A 1 (by omega) (by omega)
  have mA : ∀ K, call laws_markIntS [.one (ints A), .one (I 1)] K = K [pA, I kA] := callS e2 (by decide)
  have n2 : ¬ (kA < 0) := by omega
  simp only [q1, atP_zero, atP_succ, sp, im, List.cons_append, List.nil_append, q2, q3, unP_not, Bool.not_true, iteP_eq, Bool.false_eq_true, if_false, boolP_neq, bne_self_eq_false, flatCond_n, flatCond_pv, flatCond_nil, flat_int, flat_bool, flat_str, true_and, mx, binP_lss, n1, n2, decide_false, mA, hh, binP_neq, rt_eq, scs_sc, scs_nil]
end Go.Ev
