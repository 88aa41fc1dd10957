/- What each function hands back, in plain Lean, and that the laws answer true, part 1. -/
import Derived.Test.YtjoaaoaleeambaaGreatFn2
set_option linter.unusedVariables false
set_option linter.unusedSimpArgs false
set_option maxRecDepth 4000
namespace Go.Ev
open Go.Proofs
/-! ### The laws' own functions: copies, sizes, comparisons (printed by gentypes.py) -/
theorem szr_add {s t : Nat} {left : Int} (h : (s : Int) ≤ left) : szr (s + t) left = szr t (left - s) := by
  unfold szr
  by_cases h1 : (t : Int) ≤ left - s
  · rw [if_pos h1, if_pos (by omega)]; omega
  · rw [if_neg h1, if_neg (by omega)]
theorem szr_over {s t : Nat} {left : Int} (h : ¬ (s : Int) ≤ left) : szr (s + t) left = -1 := by unfold szr; rw [if_neg (by omega)]
theorem szr_not {s : Nat} {left : Int} (h : ¬ (s : Int) ≤ left) : szr s left = -1 := by unfold szr; rw [if_neg h]
theorem szr_yes {s : Nat} {left : Int} (h : (s : Int) ≤ left) : szr s left = left - s := by unfold szr; rw [if_pos h]
theorem szr_pos {s : Nat} {left : Int} (h : 0 ≤ szr s left) : (s : Int) ≤ left ∧ szr s left = left - s := by
  unfold szr at h ⊢
  split at h
  · rename_i h1; rw [if_pos h1]; exact ⟨h1, rfl⟩
  · omega
theorem sumN_mem {α : Type} {s : α → Nat} {x : α} : ∀ {l : List α}, x ∈ l → s x ≤ sumN s l
  | y :: l, h => by
    rw [show sumN s (y :: l) = s y + sumN s l from rfl]
    rcases List.mem_cons.1 h with rfl | h
    · omega
    · have := sumN_mem (s := s) h; omega
/-- one count, then the rest -/
theorem sz_seq {s t : Nat} {left : Int} {A : Int → Prop} {k : List PV → Prop} (h2 : 0 ≤ left) (h3 : left ≤ 1048576) (h : ∀ l, 0 ≤ l → l ≤ 1048576 → (A l ↔ k [I (szr t l)])) :
    (if decide (szr s left < 0) = true then k [I (-1)] else A (szr s left)) ↔ k [I (szr (s + t) left)] := by
  by_cases hs : (s : Int) ≤ left
  · rw [szr_yes hs, szr_add hs, if_neg (by simp; omega)]
    exact h _ (by omega) (by omega)
  · rw [szr_not hs, szr_over hs]; simp
theorem sz_end {s : Nat} {left : Int} {k : List PV → Prop} (h2 : 0 ≤ left) : (if decide (szr s left < 0) = true then k [I (-1)] else k [I (szr s left)]) ↔ k [I (szr s left)] := by
  by_cases hs : (s : Int) ≤ left
  · rw [szr_yes hs, if_neg (by simp; omega)]
  · rw [szr_not hs]; simp
/-- a length, taken off -/
theorem sz_len {n : Nat} {left : Int} {A : Int → Prop} {k : List PV → Prop} (h1 : n ≤ maxLen) (h2 : 0 ≤ left) (h3 : left ≤ 1048576) :
    (if decide (IntKind.i64.wrap (left - n) < 0) = true then k [I (-1)] else A (IntKind.i64.wrap (left - n))) ↔ (if decide (szr n left < 0) = true then k [I (-1)] else A (szr n left)) := by
  rw [wr_left h1 h2 h3]
  by_cases hs : (n : Int) ≤ left
  · rw [szr_yes hs]
  · rw [szr_not hs, if_pos (by simp; omega), if_pos (by simp)]

theorem has_strs {p : PV} (hp : Sh.has (.list [.str]) p) : ∃ l : List ByteArray, p = strs l ∧ (l.length ≤ maxLen ∧ ∀ y ∈ l, y.size ≤ maxLen) := by
  obtain ⟨l, h1, h2, h3⟩ := has_map (enc := rS) (wf := fun y => y.size ≤ maxLen) (fun r hr => by
    obtain ⟨p, rfl, h⟩ := all_one hr
    obtain ⟨n, rfl, g⟩ := has_str h
    exact ⟨n, rfl, g⟩) 1 rfl hp
  exact ⟨l, h1, h2, h3⟩
theorem laws_szIntS_n (l : List Int) (left : Int) (hw : l.length ≤ maxLen) (h2 : 0 ≤ left) (h3 : left ≤ 1048576) (k) : call laws_szIntS [.one (ints l), .one (I left)] k = k [I (szr l.length left)] := call_of (fun k => by
  simp only [laws_szIntS, lenP_eq, List.length_map, binP_sub, wr_left hw h2 h3, binP_lss, iteP_eq, rt_eq, scs_sc, scs_nil, flat_int, true_and, and_true]
  by_cases c : (l.length : Int) ≤ left
  · simp [szr_yes c, show ¬ (left - (l.length : Int) < 0) by omega]
  · simp [szr_not c, show left - (l.length : Int) < 0 by omega]) k
theorem laws_toIntS_n (l : List Int) (h : l.length ≤ 1048576) (k) : call laws_toIntS [.one (ints l)] k = k [ints l] := call_of (fun k => by
  have hm := h
  simp [laws_toIntS, show l.length < 1073741824 by omega]
  refine lp_toS l rI rI [I 0] 1 1 (.list 1 []) rfl (fun i x hx hi K rows hr hz => ?_) fun K => ?_
  · simp [-getElem?_pos, laws_toIntS_r0, hx, hi, hr, hz, over, wr_succ (show i < 1000000000000000000 by omega)]
  · simp [laws_toIntS_r0]) k
theorem laws_eqIntS_n (l : List Int) (h : l.length ≤ 1048576) (k) : call laws_eqIntS [.one (ints l), .one (ints l)] k = k [.bool true] := call_of (fun k => by
  have hm := h
  simp [laws_eqIntS]
  refine lp_eqS l rI 1 (.bool false) rfl (fun i x hx hi K => ?_) fun K => ?_
  · simp [-getElem?_pos, laws_eqIntS_r0, hx, hi, wr_succ (show i < 1000000000000000000 by omega)]
  · simp [laws_eqIntS_r0]) k
theorem laws_szStringS_n (l : List ByteArray) (left : Int) (hw : (l.length ≤ maxLen ∧ ∀ y ∈ l, y.size ≤ maxLen)) (h2 : 0 ≤ left) (h3 : left ≤ 1048576) (k) : call laws_szStringS [.one (strs l), .one (I left)] k = k [I (szr ((l.length + sumN ByteArray.size l)) left)] := call_of (fun k => by
  simp only [laws_szStringS, lenP_eq, List.length_map, binP_sub, wr_left hw.1 h2 h3, binP_lss, iteP_eq, rt_eq, scs_sc, scs_nil, flat_int, true_and, and_true]
  by_cases c : (l.length : Int) ≤ left
  rotate_left
  · simp [szr_over c, show left - (l.length : Int) < 0 by omega]
  simp only [szr_add c, show ¬ (left - (l.length : Int) < 0) by omega, decide_false, Bool.false_eq_true, if_false]
  refine (lp_sz (neg := k [I (-1)]) (fin := fun t => k [I t]) l rS 1 ByteArray.size (left - (l.length : Int)) (I 0) (by omega) (by omega) rfl (fun i x hx hi t ht1 ht2 K => ?_) fun t K => ?_).trans ?_
  · have e := wr_left (left := t) (hw.2 x (List.mem_of_getElem? hx)) ht1 ht2
    simp [-getElem?_pos, laws_szStringS_r0, hx, hi, e, wr_succ (show i < 1000000000000000000 by have := hw.1; omega)]
    by_cases hs : (x.size : Int) ≤ t
    · simp [hs, show ¬ (t - (x.size : Int) < 0) by omega]
    · simp [hs, show t - (x.size : Int) < 0 by omega]
  · simp [laws_szStringS_r0]
  · by_cases hs : ((sumN ByteArray.size l : Nat) : Int) ≤ left - (l.length : Int)
    · simp [szr_yes hs, hs]
    · simp [szr_not hs, hs]) k
theorem laws_toStringS_n (l : List ByteArray) (h : (l.length + sumN ByteArray.size l) ≤ 1048576) (k) : call laws_toStringS [.one (strs l)] k = k [strs l] := call_of (fun k => by
  have hm := h
  simp [laws_toStringS, show l.length < 1073741824 by omega]
  refine lp_toS l rS rS [.str ⟨#[]⟩] 1 1 (.list 1 []) rfl (fun i x hx hi K rows hr hz => ?_) fun K => ?_
  · simp [-getElem?_pos, laws_toStringS_r0, hx, hi, hr, hz, over, wr_succ (show i < 1000000000000000000 by omega)]
  · simp [laws_toStringS_r0]) k
theorem laws_eqStringS_n (l : List ByteArray) (h : (l.length + sumN ByteArray.size l) ≤ 1048576) (k) : call laws_eqStringS [.one (strs l), .one (strs l)] k = k [.bool true] := call_of (fun k => by
  have hm := h
  simp [laws_eqStringS]
  refine lp_eqS l rS 1 (.bool false) rfl (fun i x hx hi K => ?_) fun K => ?_
  · simp [-getElem?_pos, laws_eqStringS_r0, hx, hi, wr_succ (show i < 1000000000000000000 by omega)]
  · simp [laws_eqStringS_r0]) k
structure GKeys where
  Lst : List Int
  Need : Int
abbrev eKeys (a : GKeys) : List PV := [ints a.Lst, I a.Need]
def mKeys (a : GKeys) : Nat := a.Lst.length
def WKeys (a : GKeys) : Prop := a.Lst.length ≤ maxLen
theorem decKeys (r : List PV) (hr : Sh.hasAll [.list [.int .i64], .int .i64] r) : ∃ a : GKeys, r = eKeys a ∧ WKeys a := by
  obtain ⟨p1, r1, rfl, h1, hr1⟩ := all_cons hr
  obtain ⟨n1, rfl, g1⟩ := has_ints h1
  obtain ⟨p2, rfl, h2⟩ := all_one hr1
  obtain ⟨n2, rfl⟩ := has_int h2
  exact ⟨⟨n1, n2⟩, rfl, g1⟩
theorem laws_szKeys_n (a : GKeys) (left : Int) (hw : WKeys a) (h2 : 0 ≤ left) (h3 : left ≤ 1048576) (k) : call laws_szKeys [.agg (eKeys a), .one (I left)] k = k [I (szr (mKeys a) left)] := call_of (fun k => by
  have g0 := hw
  unfold mKeys
  simp only [laws_szKeys, un, cur0, laws_szIntS_n a.Lst (left) g0 h2 h3, binP_lss, iteP_eq, atP_zero, rt_eq, scs_sc, scs_nil, flat_int, true_and, and_true]
  by_cases c0 : ((a.Lst.length : Nat) : Int) ≤ left
  rotate_left
  · first | (simp [szr_not c0, szr_not c0]; done) | (simp only [szr_not c0, szr_not c0]; simp)
  simp only [szr_yes c0, show ¬ (left - ((a.Lst.length : Nat) : Int) < 0) by omega, decide_false, Bool.false_eq_true, if_false, binP_lss, iteP_eq, atP_zero, rt_eq, scs_sc, scs_nil, flat_int, true_and, and_true]) k
theorem laws_toKeys_n (a : GKeys) (h : mKeys a ≤ 1048576) (k) : call laws_toKeys [.agg (eKeys a)] k = k (eKeys a) := call_of (fun k => by
  unfold mKeys at h
  simp [laws_toKeys, laws_toIntS_n a.Lst (by omega)]) k
theorem laws_eqKeys_n (a : GKeys) (h : mKeys a ≤ 1048576) (k) : call laws_eqKeys [.agg (eKeys a), .agg (eKeys a)] k = k [.bool true] := call_of (fun k => by
  unfold mKeys at h
  simp [laws_eqKeys, laws_eqIntS_n a.Lst (by omega)]) k
structure GSig where
  Key : Int
  Tag : Int
abbrev eSig (a : GSig) : List PV := [I a.Key, I a.Tag]
theorem decSig (r : List PV) (hr : Sh.hasAll [.int .i64, .int .i64] r) : ∃ a : GSig, r = eSig a ∧ True := by
  obtain ⟨p1, r1, rfl, h1, hr1⟩ := all_cons hr
  obtain ⟨n1, rfl⟩ := has_int h1
  obtain ⟨p2, rfl, h2⟩ := all_one hr1
  obtain ⟨n2, rfl⟩ := has_int h2
  exact ⟨⟨n1, n2⟩, rfl, trivial⟩
theorem laws_toSig_n (a : GSig) (k) : call laws_toSig [.agg (eSig a)] k = k (eSig a) := call_of (fun k => by
  simp [laws_toSig]) k
theorem laws_eqSig_n (a : GSig) (k) : call laws_eqSig [.agg (eSig a), .agg (eSig a)] k = k [.bool true] := call_of (fun k => by
  simp [laws_eqSig]) k
structure GEntry where
  Label : ByteArray
  Kind : Int
  Value : Int
  Path : List ByteArray
abbrev eEntry (a : GEntry) : List PV := [.str a.Label, I a.Kind, I a.Value, strs a.Path]
def mEntry (a : GEntry) : Nat := a.Label.size + ((a.Path.length + sumN ByteArray.size a.Path))
def WEntry (a : GEntry) : Prop := a.Label.size ≤ maxLen ∧ (a.Path.length ≤ maxLen ∧ ∀ y ∈ a.Path, y.size ≤ maxLen)
theorem decEntry (r : List PV) (hr : Sh.hasAll [.str, .int .i64, .int .i64, .list [.str]] r) : ∃ a : GEntry, r = eEntry a ∧ WEntry a := by
  obtain ⟨p1, r1, rfl, h1, hr1⟩ := all_cons hr
  obtain ⟨n1, rfl, g1⟩ := has_str h1
  obtain ⟨p2, r2, rfl, h2, hr2⟩ := all_cons hr1
  obtain ⟨n2, rfl⟩ := has_int h2
  obtain ⟨p3, r3, rfl, h3, hr3⟩ := all_cons hr2
  obtain ⟨n3, rfl⟩ := has_int h3
  obtain ⟨p4, rfl, h4⟩ := all_one hr3
  obtain ⟨n4, rfl, g4⟩ := has_strs h4
  exact ⟨⟨n1, n2, n3, n4⟩, rfl, ⟨g1, g4⟩⟩
theorem laws_szEntry_n (a : GEntry) (left : Int) (hw : WEntry a) (h2 : 0 ≤ left) (h3 : left ≤ 1048576) (k) : call laws_szEntry [.agg (eEntry a), .one (I left)] k = k [I (szr (mEntry a) left)] := call_of (fun k => by
  obtain ⟨g0, g1⟩ := hw
  unfold mEntry
  simp only [laws_szEntry, un, cur0, lenS_eq, binP_sub, wr_left (left := left) g0 h2 h3, binP_lss, iteP_eq, atP_zero, rt_eq, scs_sc, scs_nil, flat_int, true_and, and_true]
  by_cases c0 : ((a.Label.size : Nat) : Int) ≤ left
  rotate_left
  · first | (simp [szr_over c0, show left - ((a.Label.size : Nat) : Int) < 0 by omega]; done) | (simp only [szr_over c0, show left - ((a.Label.size : Nat) : Int) < 0 by omega]; simp)
  simp only [szr_yes c0, szr_add c0, show ¬ (left - ((a.Label.size : Nat) : Int) < 0) by omega, decide_false, Bool.false_eq_true, if_false, laws_szStringS_n a.Path (left - ((a.Label.size : Nat) : Int)) g1 (by omega) (by omega), binP_lss, iteP_eq, atP_zero, rt_eq, scs_sc, scs_nil, flat_int, true_and, and_true]
  by_cases c1 : (((a.Path.length + sumN ByteArray.size a.Path) : Nat) : Int) ≤ left - ((a.Label.size : Nat) : Int)
  rotate_left
  · first | (simp [szr_not c1, szr_not c1]; done) | (simp only [szr_not c1, szr_not c1]; simp)
  simp only [szr_yes c1, show ¬ (left - ((a.Label.size : Nat) : Int) - (((a.Path.length + sumN ByteArray.size a.Path) : Nat) : Int) < 0) by omega, decide_false, Bool.false_eq_true, if_false, binP_lss, iteP_eq, atP_zero, rt_eq, scs_sc, scs_nil, flat_int, true_and, and_true]) k
theorem laws_toEntry_n (a : GEntry) (h : mEntry a ≤ 1048576) (k) : call laws_toEntry [.agg (eEntry a)] k = k (eEntry a) := call_of (fun k => by
  unfold mEntry at h
  simp [laws_toEntry, laws_toStringS_n a.Path (by omega)]) k
theorem laws_eqEntry_n (a : GEntry) (h : mEntry a ≤ 1048576) (k) : call laws_eqEntry [.agg (eEntry a), .agg (eEntry a)] k = k [.bool true] := call_of (fun k => by
  unfold mEntry at h
  simp [laws_eqEntry, laws_eqStringS_n a.Path (by omega)]) k
structure GProof where
  At : Int
  Path : List Int
abbrev eProof (a : GProof) : List PV := [I a.At, ints a.Path]
def mProof (a : GProof) : Nat := a.Path.length
def WProof (a : GProof) : Prop := a.Path.length ≤ maxLen
theorem decProof (r : List PV) (hr : Sh.hasAll [.int .i64, .list [.int .i64]] r) : ∃ a : GProof, r = eProof a ∧ WProof a := by
  obtain ⟨p1, r1, rfl, h1, hr1⟩ := all_cons hr
  obtain ⟨n1, rfl⟩ := has_int h1
  obtain ⟨p2, rfl, h2⟩ := all_one hr1
  obtain ⟨n2, rfl, g2⟩ := has_ints h2
  exact ⟨⟨n1, n2⟩, rfl, g2⟩
theorem laws_szProof_n (a : GProof) (left : Int) (hw : WProof a) (h2 : 0 ≤ left) (h3 : left ≤ 1048576) (k) : call laws_szProof [.agg (eProof a), .one (I left)] k = k [I (szr (mProof a) left)] := call_of (fun k => by
  have g0 := hw
  unfold mProof
  simp only [laws_szProof, un, cur0, laws_szIntS_n a.Path (left) g0 h2 h3, binP_lss, iteP_eq, atP_zero, rt_eq, scs_sc, scs_nil, flat_int, true_and, and_true]
  by_cases c0 : ((a.Path.length : Nat) : Int) ≤ left
  rotate_left
  · first | (simp [szr_not c0, szr_not c0]; done) | (simp only [szr_not c0, szr_not c0]; simp)
  simp only [szr_yes c0, show ¬ (left - ((a.Path.length : Nat) : Int) < 0) by omega, decide_false, Bool.false_eq_true, if_false, binP_lss, iteP_eq, atP_zero, rt_eq, scs_sc, scs_nil, flat_int, true_and, and_true]) k
theorem laws_toProof_n (a : GProof) (h : mProof a ≤ 1048576) (k) : call laws_toProof [.agg (eProof a)] k = k (eProof a) := call_of (fun k => by
  unfold mProof at h
  simp [laws_toProof, laws_toIntS_n a.Path (by omega)]) k
theorem laws_eqProof_n (a : GProof) (h : mProof a ≤ 1048576) (k) : call laws_eqProof [.agg (eProof a), .agg (eProof a)] k = k [.bool true] := call_of (fun k => by
  unfold mProof at h
  simp [laws_eqProof, laws_eqIntS_n a.Path (by omega)]) k
structure GGap where
  At : Int
  Before : GEntry
  After : GEntry
  Left : GProof
  Right : GProof
abbrev eGap (a : GGap) : List PV := [I a.At, .str a.Before.Label, I a.Before.Kind, I a.Before.Value, strs a.Before.Path, .str a.After.Label, I a.After.Kind, I a.After.Value, strs a.After.Path, I a.Left.At, ints a.Left.Path, I a.Right.At, ints a.Right.Path]
def mGap (a : GGap) : Nat := mEntry a.Before + (mEntry a.After + (mProof a.Left + (mProof a.Right)))
def WGap (a : GGap) : Prop := WEntry a.Before ∧ WEntry a.After ∧ WProof a.Left ∧ WProof a.Right
theorem decGap (r : List PV) (hr : Sh.hasAll [.int .i64, .str, .int .i64, .int .i64, .list [.str], .str, .int .i64, .int .i64, .list [.str], .int .i64, .list [.int .i64], .int .i64, .list [.int .i64]] r) : ∃ a : GGap, r = eGap a ∧ WGap a := by
  obtain ⟨p1, r1, rfl, h1, hr1⟩ := all_cons hr
  obtain ⟨n1, rfl⟩ := has_int h1
  obtain ⟨p2, r2, rfl, h2, hr2⟩ := all_cons hr1
  obtain ⟨n2, rfl, g2⟩ := has_str h2
  obtain ⟨p3, r3, rfl, h3, hr3⟩ := all_cons hr2
  obtain ⟨n3, rfl⟩ := has_int h3
  obtain ⟨p4, r4, rfl, h4, hr4⟩ := all_cons hr3
  obtain ⟨n4, rfl⟩ := has_int h4
  obtain ⟨p5, r5, rfl, h5, hr5⟩ := all_cons hr4
  obtain ⟨n5, rfl, g5⟩ := has_strs h5
  obtain ⟨p6, r6, rfl, h6, hr6⟩ := all_cons hr5
  obtain ⟨n6, rfl, g6⟩ := has_str h6
  obtain ⟨p7, r7, rfl, h7, hr7⟩ := all_cons hr6
  obtain ⟨n7, rfl⟩ := has_int h7
  obtain ⟨p8, r8, rfl, h8, hr8⟩ := all_cons hr7
  obtain ⟨n8, rfl⟩ := has_int h8
  obtain ⟨p9, r9, rfl, h9, hr9⟩ := all_cons hr8
  obtain ⟨n9, rfl, g9⟩ := has_strs h9
  obtain ⟨p10, r10, rfl, h10, hr10⟩ := all_cons hr9
  obtain ⟨n10, rfl⟩ := has_int h10
  obtain ⟨p11, r11, rfl, h11, hr11⟩ := all_cons hr10
  obtain ⟨n11, rfl, g11⟩ := has_ints h11
  obtain ⟨p12, r12, rfl, h12, hr12⟩ := all_cons hr11
  obtain ⟨n12, rfl⟩ := has_int h12
  obtain ⟨p13, rfl, h13⟩ := all_one hr12
  obtain ⟨n13, rfl, g13⟩ := has_ints h13
  exact ⟨⟨n1, ⟨n2, n3, n4, n5⟩, ⟨n6, n7, n8, n9⟩, ⟨n10, n11⟩, ⟨n12, n13⟩⟩, rfl, ⟨⟨g2, g5⟩, ⟨g6, g9⟩, g11, g13⟩⟩
theorem laws_szGap_n (a : GGap) (left : Int) (hw : WGap a) (h2 : 0 ≤ left) (h3 : left ≤ 1048576) (k) : call laws_szGap [.agg (eGap a), .one (I left)] k = k [I (szr (mGap a) left)] := call_of (fun k => by
  obtain ⟨g0, g1, g2, g3⟩ := hw
  unfold mGap
  simp only [laws_szGap, un, cur0, laws_szEntry_n a.Before (left) g0 h2 h3, binP_lss, iteP_eq, atP_zero, rt_eq, scs_sc, scs_nil, flat_int, true_and, and_true]
  by_cases c0 : ((mEntry a.Before : Nat) : Int) ≤ left
  rotate_left
  · first | (simp [szr_over c0, szr_not c0]; done) | (simp only [szr_over c0, szr_not c0]; simp)
  simp only [szr_yes c0, szr_add c0, show ¬ (left - ((mEntry a.Before : Nat) : Int) < 0) by omega, decide_false, Bool.false_eq_true, if_false, laws_szEntry_n a.After (left - ((mEntry a.Before : Nat) : Int)) g1 (by omega) (by omega), binP_lss, iteP_eq, atP_zero, rt_eq, scs_sc, scs_nil, flat_int, true_and, and_true]
  by_cases c1 : ((mEntry a.After : Nat) : Int) ≤ left - ((mEntry a.Before : Nat) : Int)
  rotate_left
  · first | (simp [szr_over c1, szr_not c1]; done) | (simp only [szr_over c1, szr_not c1]; simp)
  simp only [szr_yes c1, szr_add c1, show ¬ (left - ((mEntry a.Before : Nat) : Int) - ((mEntry a.After : Nat) : Int) < 0) by omega, decide_false, Bool.false_eq_true, if_false, laws_szProof_n a.Left (left - ((mEntry a.Before : Nat) : Int) - ((mEntry a.After : Nat) : Int)) g2 (by omega) (by omega), binP_lss, iteP_eq, atP_zero, rt_eq, scs_sc, scs_nil, flat_int, true_and, and_true]
  by_cases c2 : ((mProof a.Left : Nat) : Int) ≤ left - ((mEntry a.Before : Nat) : Int) - ((mEntry a.After : Nat) : Int)
  rotate_left
  · first | (simp [szr_over c2, szr_not c2]; done) | (simp only [szr_over c2, szr_not c2]; simp)
  simp only [szr_yes c2, szr_add c2, show ¬ (left - ((mEntry a.Before : Nat) : Int) - ((mEntry a.After : Nat) : Int) - ((mProof a.Left : Nat) : Int) < 0) by omega, decide_false, Bool.false_eq_true, if_false, laws_szProof_n a.Right (left - ((mEntry a.Before : Nat) : Int) - ((mEntry a.After : Nat) : Int) - ((mProof a.Left : Nat) : Int)) g3 (by omega) (by omega), binP_lss, iteP_eq, atP_zero, rt_eq, scs_sc, scs_nil, flat_int, true_and, and_true]
  by_cases c3 : ((mProof a.Right : Nat) : Int) ≤ left - ((mEntry a.Before : Nat) : Int) - ((mEntry a.After : Nat) : Int) - ((mProof a.Left : Nat) : Int)
  rotate_left
  · first | (simp [szr_not c3, szr_not c3]; done) | (simp only [szr_not c3, szr_not c3]; simp)
  simp only [szr_yes c3, show ¬ (left - ((mEntry a.Before : Nat) : Int) - ((mEntry a.After : Nat) : Int) - ((mProof a.Left : Nat) : Int) - ((mProof a.Right : Nat) : Int) < 0) by omega, decide_false, Bool.false_eq_true, if_false, binP_lss, iteP_eq, atP_zero, rt_eq, scs_sc, scs_nil, flat_int, true_and, and_true]) k
theorem laws_toGap_n (a : GGap) (h : mGap a ≤ 1048576) (k) : call laws_toGap [.agg (eGap a)] k = k (eGap a) := call_of (fun k => by
  unfold mGap at h
  simp [laws_toGap, laws_toEntry_n a.Before (by omega), laws_toEntry_n a.After (by omega), laws_toProof_n a.Left (by omega), laws_toProof_n a.Right (by omega)]) k
theorem laws_eqGap_n (a : GGap) (h : mGap a ≤ 1048576) (k) : call laws_eqGap [.agg (eGap a), .agg (eGap a)] k = k [.bool true] := call_of (fun k => by
  unfold mGap at h
  simp [laws_eqGap, laws_eqEntry_n a.Before (by omega), laws_eqEntry_n a.After (by omega), laws_eqProof_n a.Left (by omega), laws_eqProof_n a.Right (by omega)]) k
structure GHead where
  Zone : Int
  Epoch : Int
  Kind : Int
  Time : Int
  Until : Int
  Count : Int
  Root : Int
  Prev : Int
  Keys : GKeys
  Heirs : GKeys
  Wait : Int
  Judge : GKeys
  Frozen : Bool
abbrev eHead (a : GHead) : List PV := [I a.Zone, I a.Epoch, I a.Kind, I a.Time, I a.Until, I a.Count, I a.Root, I a.Prev, ints a.Keys.Lst, I a.Keys.Need, ints a.Heirs.Lst, I a.Heirs.Need, I a.Wait, ints a.Judge.Lst, I a.Judge.Need, .bool a.Frozen]
def mHead (a : GHead) : Nat := mKeys a.Keys + (mKeys a.Heirs + (mKeys a.Judge))
def WHead (a : GHead) : Prop := WKeys a.Keys ∧ WKeys a.Heirs ∧ WKeys a.Judge
theorem decHead (r : List PV) (hr : Sh.hasAll [.int .i64, .int .i64, .int .i64, .int .i64, .int .i64, .int .i64, .int .i64, .int .i64, .list [.int .i64], .int .i64, .list [.int .i64], .int .i64, .int .i64, .list [.int .i64], .int .i64, .bool] r) : ∃ a : GHead, r = eHead a ∧ WHead a := by
  obtain ⟨p1, r1, rfl, h1, hr1⟩ := all_cons hr
  obtain ⟨n1, rfl⟩ := has_int h1
  obtain ⟨p2, r2, rfl, h2, hr2⟩ := all_cons hr1
  obtain ⟨n2, rfl⟩ := has_int h2
  obtain ⟨p3, r3, rfl, h3, hr3⟩ := all_cons hr2
  obtain ⟨n3, rfl⟩ := has_int h3
  obtain ⟨p4, r4, rfl, h4, hr4⟩ := all_cons hr3
  obtain ⟨n4, rfl⟩ := has_int h4
  obtain ⟨p5, r5, rfl, h5, hr5⟩ := all_cons hr4
  obtain ⟨n5, rfl⟩ := has_int h5
  obtain ⟨p6, r6, rfl, h6, hr6⟩ := all_cons hr5
  obtain ⟨n6, rfl⟩ := has_int h6
  obtain ⟨p7, r7, rfl, h7, hr7⟩ := all_cons hr6
  obtain ⟨n7, rfl⟩ := has_int h7
  obtain ⟨p8, r8, rfl, h8, hr8⟩ := all_cons hr7
  obtain ⟨n8, rfl⟩ := has_int h8
  obtain ⟨p9, r9, rfl, h9, hr9⟩ := all_cons hr8
  obtain ⟨n9, rfl, g9⟩ := has_ints h9
  obtain ⟨p10, r10, rfl, h10, hr10⟩ := all_cons hr9
  obtain ⟨n10, rfl⟩ := has_int h10
  obtain ⟨p11, r11, rfl, h11, hr11⟩ := all_cons hr10
  obtain ⟨n11, rfl, g11⟩ := has_ints h11
  obtain ⟨p12, r12, rfl, h12, hr12⟩ := all_cons hr11
  obtain ⟨n12, rfl⟩ := has_int h12
  obtain ⟨p13, r13, rfl, h13, hr13⟩ := all_cons hr12
  obtain ⟨n13, rfl⟩ := has_int h13
  obtain ⟨p14, r14, rfl, h14, hr14⟩ := all_cons hr13
  obtain ⟨n14, rfl, g14⟩ := has_ints h14
  obtain ⟨p15, r15, rfl, h15, hr15⟩ := all_cons hr14
  obtain ⟨n15, rfl⟩ := has_int h15
  obtain ⟨p16, rfl, h16⟩ := all_one hr15
  obtain ⟨n16, rfl⟩ := has_bool h16
  exact ⟨⟨n1, n2, n3, n4, n5, n6, n7, n8, ⟨n9, n10⟩, ⟨n11, n12⟩, n13, ⟨n14, n15⟩, n16⟩, rfl, ⟨g9, g11, g14⟩⟩
theorem laws_szHead_n (a : GHead) (left : Int) (hw : WHead a) (h2 : 0 ≤ left) (h3 : left ≤ 1048576) (k) : call laws_szHead [.agg (eHead a), .one (I left)] k = k [I (szr (mHead a) left)] := call_of (fun k => by
  obtain ⟨g0, g1, g2⟩ := hw
  unfold mHead
  simp only [laws_szHead, un, cur0, laws_szKeys_n a.Keys (left) g0 h2 h3, binP_lss, iteP_eq, atP_zero, rt_eq, scs_sc, scs_nil, flat_int, true_and, and_true]
  by_cases c0 : ((mKeys a.Keys : Nat) : Int) ≤ left
  rotate_left
  · first | (simp [szr_over c0, szr_not c0]; done) | (simp only [szr_over c0, szr_not c0]; simp)
  simp only [szr_yes c0, szr_add c0, show ¬ (left - ((mKeys a.Keys : Nat) : Int) < 0) by omega, decide_false, Bool.false_eq_true, if_false, laws_szKeys_n a.Heirs (left - ((mKeys a.Keys : Nat) : Int)) g1 (by omega) (by omega), binP_lss, iteP_eq, atP_zero, rt_eq, scs_sc, scs_nil, flat_int, true_and, and_true]
  by_cases c1 : ((mKeys a.Heirs : Nat) : Int) ≤ left - ((mKeys a.Keys : Nat) : Int)
  rotate_left
  · first | (simp [szr_over c1, szr_not c1]; done) | (simp only [szr_over c1, szr_not c1]; simp)
  simp only [szr_yes c1, szr_add c1, show ¬ (left - ((mKeys a.Keys : Nat) : Int) - ((mKeys a.Heirs : Nat) : Int) < 0) by omega, decide_false, Bool.false_eq_true, if_false, laws_szKeys_n a.Judge (left - ((mKeys a.Keys : Nat) : Int) - ((mKeys a.Heirs : Nat) : Int)) g2 (by omega) (by omega), binP_lss, iteP_eq, atP_zero, rt_eq, scs_sc, scs_nil, flat_int, true_and, and_true]
  by_cases c2 : ((mKeys a.Judge : Nat) : Int) ≤ left - ((mKeys a.Keys : Nat) : Int) - ((mKeys a.Heirs : Nat) : Int)
  rotate_left
  · first | (simp [szr_not c2, szr_not c2]; done) | (simp only [szr_not c2, szr_not c2]; simp)
  simp only [szr_yes c2, show ¬ (left - ((mKeys a.Keys : Nat) : Int) - ((mKeys a.Heirs : Nat) : Int) - ((mKeys a.Judge : Nat) : Int) < 0) by omega, decide_false, Bool.false_eq_true, if_false, binP_lss, iteP_eq, atP_zero, rt_eq, scs_sc, scs_nil, flat_int, true_and, and_true]) k
theorem laws_toHead_n (a : GHead) (h : mHead a ≤ 1048576) (k) : call laws_toHead [.agg (eHead a)] k = k (eHead a) := call_of (fun k => by
  unfold mHead at h
  simp [laws_toHead, laws_toKeys_n a.Keys (by omega), laws_toKeys_n a.Heirs (by omega), laws_toKeys_n a.Judge (by omega)]) k
theorem laws_eqHead_n (a : GHead) (h : mHead a ≤ 1048576) (k) : call laws_eqHead [.agg (eHead a), .agg (eHead a)] k = k [.bool true] := call_of (fun k => by
  unfold mHead at h
  simp [laws_eqHead, laws_eqKeys_n a.Keys (by omega), laws_eqKeys_n a.Heirs (by omega), laws_eqKeys_n a.Judge (by omega)]) k
theorem decSigS {p : PV} (h : Sh.has (.list [.int .i64, .int .i64]) p) : ∃ l : List GSig, p = .list 2 (l.map eSig) ∧ l.length ≤ maxLen := by
  obtain ⟨l, h1, h2, h3⟩ := has_map decSig 2 rfl h
  exact ⟨l, h1, h2⟩
theorem laws_szSigS_n (l : List GSig) (left : Int) (hw : l.length ≤ maxLen) (h2 : 0 ≤ left) (h3 : left ≤ 1048576) (k) : call laws_szSigS [.one (.list 2 (l.map eSig)), .one (I left)] k = k [I (szr l.length left)] := call_of (fun k => by
  simp only [laws_szSigS, lenP_eq, List.length_map, binP_sub, wr_left hw h2 h3, binP_lss, iteP_eq, rt_eq, scs_sc, scs_nil, flat_int, true_and, and_true]
  by_cases c : (l.length : Int) ≤ left
  · simp [szr_yes c, show ¬ (left - (l.length : Int) < 0) by omega]
  · simp [szr_not c, show left - (l.length : Int) < 0 by omega]) k
theorem laws_toSigS_n (l : List GSig) (h : l.length ≤ 1048576) (k) : call laws_toSigS [.one (.list 2 (l.map eSig))] k = k [.list 2 (l.map eSig)] := call_of (fun k => by
  have hm := h
  simp [laws_toSigS, show l.length < 1073741824 by omega]
  refine lp_toS l eSig eSig [I 0, I 0] 2 2 (.list 2 []) rfl (fun i x hx hi K rows hr hz => ?_) fun K => ?_
  · simp [-getElem?_pos, laws_toSigS_r0, hx, hi, hr, hz, over, laws_toSig_n x, wr_succ (show i < 1000000000000000000 by omega)]
  · simp [laws_toSigS_r0]) k
theorem laws_eqSigS_n (l : List GSig) (h : l.length ≤ 1048576) (k) : call laws_eqSigS [.one (.list 2 (l.map eSig)), .one (.list 2 (l.map eSig))] k = k [.bool true] := call_of (fun k => by
  have hm := h
  simp [laws_eqSigS]
  refine lp_eqS l eSig 2 (.bool false) rfl (fun i x hx hi K => ?_) fun K => ?_
  · simp [-getElem?_pos, laws_eqSigS_r0, hx, hi, laws_eqSig_n x, wr_succ (show i < 1000000000000000000 by omega)]
  · simp [laws_eqSigS_r0]) k
structure GSigned where
  Head : GHead
  Sigs : List GSig
abbrev eSigned (a : GSigned) : List PV := [I a.Head.Zone, I a.Head.Epoch, I a.Head.Kind, I a.Head.Time, I a.Head.Until, I a.Head.Count, I a.Head.Root, I a.Head.Prev, ints a.Head.Keys.Lst, I a.Head.Keys.Need, ints a.Head.Heirs.Lst, I a.Head.Heirs.Need, I a.Head.Wait, ints a.Head.Judge.Lst, I a.Head.Judge.Need, .bool a.Head.Frozen, .list 2 (a.Sigs.map eSig)]
def mSigned (a : GSigned) : Nat := mHead a.Head + (a.Sigs.length)
def WSigned (a : GSigned) : Prop := WHead a.Head ∧ a.Sigs.length ≤ maxLen
theorem decSigned (r : List PV) (hr : Sh.hasAll [.int .i64, .int .i64, .int .i64, .int .i64, .int .i64, .int .i64, .int .i64, .int .i64, .list [.int .i64], .int .i64, .list [.int .i64], .int .i64, .int .i64, .list [.int .i64], .int .i64, .bool, .list [.int .i64, .int .i64]] r) : ∃ a : GSigned, r = eSigned a ∧ WSigned a := by
  obtain ⟨p1, r1, rfl, h1, hr1⟩ := all_cons hr
  obtain ⟨n1, rfl⟩ := has_int h1
  obtain ⟨p2, r2, rfl, h2, hr2⟩ := all_cons hr1
  obtain ⟨n2, rfl⟩ := has_int h2
  obtain ⟨p3, r3, rfl, h3, hr3⟩ := all_cons hr2
  obtain ⟨n3, rfl⟩ := has_int h3
  obtain ⟨p4, r4, rfl, h4, hr4⟩ := all_cons hr3
  obtain ⟨n4, rfl⟩ := has_int h4
  obtain ⟨p5, r5, rfl, h5, hr5⟩ := all_cons hr4
  obtain ⟨n5, rfl⟩ := has_int h5
  obtain ⟨p6, r6, rfl, h6, hr6⟩ := all_cons hr5
  obtain ⟨n6, rfl⟩ := has_int h6
  obtain ⟨p7, r7, rfl, h7, hr7⟩ := all_cons hr6
  obtain ⟨n7, rfl⟩ := has_int h7
  obtain ⟨p8, r8, rfl, h8, hr8⟩ := all_cons hr7
  obtain ⟨n8, rfl⟩ := has_int h8
  obtain ⟨p9, r9, rfl, h9, hr9⟩ := all_cons hr8
  obtain ⟨n9, rfl, g9⟩ := has_ints h9
  obtain ⟨p10, r10, rfl, h10, hr10⟩ := all_cons hr9
  obtain ⟨n10, rfl⟩ := has_int h10
  obtain ⟨p11, r11, rfl, h11, hr11⟩ := all_cons hr10
  obtain ⟨n11, rfl, g11⟩ := has_ints h11
  obtain ⟨p12, r12, rfl, h12, hr12⟩ := all_cons hr11
  obtain ⟨n12, rfl⟩ := has_int h12
  obtain ⟨p13, r13, rfl, h13, hr13⟩ := all_cons hr12
  obtain ⟨n13, rfl⟩ := has_int h13
  obtain ⟨p14, r14, rfl, h14, hr14⟩ := all_cons hr13
  obtain ⟨n14, rfl, g14⟩ := has_ints h14
  obtain ⟨p15, r15, rfl, h15, hr15⟩ := all_cons hr14
  obtain ⟨n15, rfl⟩ := has_int h15
  obtain ⟨p16, r16, rfl, h16, hr16⟩ := all_cons hr15
  obtain ⟨n16, rfl⟩ := has_bool h16
  obtain ⟨p17, rfl, h17⟩ := all_one hr16
  obtain ⟨n17, rfl, g17⟩ := decSigS h17
  exact ⟨⟨⟨n1, n2, n3, n4, n5, n6, n7, n8, ⟨n9, n10⟩, ⟨n11, n12⟩, n13, ⟨n14, n15⟩, n16⟩, n17⟩, rfl, ⟨⟨g9, g11, g14⟩, g17⟩⟩
theorem laws_szSigned_n (a : GSigned) (left : Int) (hw : WSigned a) (h2 : 0 ≤ left) (h3 : left ≤ 1048576) (k) : call laws_szSigned [.agg (eSigned a), .one (I left)] k = k [I (szr (mSigned a) left)] := call_of (fun k => by
  obtain ⟨g0, g1⟩ := hw
  unfold mSigned
  simp only [laws_szSigned, un, cur0, laws_szHead_n a.Head (left) g0 h2 h3, binP_lss, iteP_eq, atP_zero, rt_eq, scs_sc, scs_nil, flat_int, true_and, and_true]
  by_cases c0 : ((mHead a.Head : Nat) : Int) ≤ left
  rotate_left
  · first | (simp [szr_over c0, szr_not c0]; done) | (simp only [szr_over c0, szr_not c0]; simp)
  simp only [szr_yes c0, szr_add c0, show ¬ (left - ((mHead a.Head : Nat) : Int) < 0) by omega, decide_false, Bool.false_eq_true, if_false, laws_szSigS_n a.Sigs (left - ((mHead a.Head : Nat) : Int)) g1 (by omega) (by omega), binP_lss, iteP_eq, atP_zero, rt_eq, scs_sc, scs_nil, flat_int, true_and, and_true]
  by_cases c1 : ((a.Sigs.length : Nat) : Int) ≤ left - ((mHead a.Head : Nat) : Int)
  rotate_left
  · first | (simp [szr_not c1, szr_not c1]; done) | (simp only [szr_not c1, szr_not c1]; simp)
  simp only [szr_yes c1, show ¬ (left - ((mHead a.Head : Nat) : Int) - ((a.Sigs.length : Nat) : Int) < 0) by omega, decide_false, Bool.false_eq_true, if_false, binP_lss, iteP_eq, atP_zero, rt_eq, scs_sc, scs_nil, flat_int, true_and, and_true]) k
theorem laws_toSigned_n (a : GSigned) (h : mSigned a ≤ 1048576) (k) : call laws_toSigned [.agg (eSigned a)] k = k (eSigned a) := call_of (fun k => by
  unfold mSigned at h
  simp [laws_toSigned, laws_toHead_n a.Head (by omega), laws_toSigS_n a.Sigs (by omega)]) k
theorem laws_eqSigned_n (a : GSigned) (h : mSigned a ≤ 1048576) (k) : call laws_eqSigned [.agg (eSigned a), .agg (eSigned a)] k = k [.bool true] := call_of (fun k => by
  unfold mSigned at h
  simp [laws_eqSigned, laws_eqHead_n a.Head (by omega), laws_eqSigS_n a.Sigs (by omega)]) k
structure GFork where
  Before : GSigned
  A : GSigned
  B : GSigned
abbrev eFork (a : GFork) : List PV := [I a.Before.Head.Zone, I a.Before.Head.Epoch, I a.Before.Head.Kind, I a.Before.Head.Time, I a.Before.Head.Until, I a.Before.Head.Count, I a.Before.Head.Root, I a.Before.Head.Prev, ints a.Before.Head.Keys.Lst, I a.Before.Head.Keys.Need, ints a.Before.Head.Heirs.Lst, I a.Before.Head.Heirs.Need, I a.Before.Head.Wait, ints a.Before.Head.Judge.Lst, I a.Before.Head.Judge.Need, .bool a.Before.Head.Frozen, .list 2 (a.Before.Sigs.map eSig), I a.A.Head.Zone, I a.A.Head.Epoch, I a.A.Head.Kind, I a.A.Head.Time, I a.A.Head.Until, I a.A.Head.Count, I a.A.Head.Root, I a.A.Head.Prev, ints a.A.Head.Keys.Lst, I a.A.Head.Keys.Need, ints a.A.Head.Heirs.Lst, I a.A.Head.Heirs.Need, I a.A.Head.Wait, ints a.A.Head.Judge.Lst, I a.A.Head.Judge.Need, .bool a.A.Head.Frozen, .list 2 (a.A.Sigs.map eSig), I a.B.Head.Zone, I a.B.Head.Epoch, I a.B.Head.Kind, I a.B.Head.Time, I a.B.Head.Until, I a.B.Head.Count, I a.B.Head.Root, I a.B.Head.Prev, ints a.B.Head.Keys.Lst, I a.B.Head.Keys.Need, ints a.B.Head.Heirs.Lst, I a.B.Head.Heirs.Need, I a.B.Head.Wait, ints a.B.Head.Judge.Lst, I a.B.Head.Judge.Need, .bool a.B.Head.Frozen, .list 2 (a.B.Sigs.map eSig)]
def mFork (a : GFork) : Nat := mSigned a.Before + (mSigned a.A + (mSigned a.B))
def WFork (a : GFork) : Prop := WSigned a.Before ∧ WSigned a.A ∧ WSigned a.B
theorem decFork (r : List PV) (hr : Sh.hasAll [.int .i64, .int .i64, .int .i64, .int .i64, .int .i64, .int .i64, .int .i64, .int .i64, .list [.int .i64], .int .i64, .list [.int .i64], .int .i64, .int .i64, .list [.int .i64], .int .i64, .bool, .list [.int .i64, .int .i64], .int .i64, .int .i64, .int .i64, .int .i64, .int .i64, .int .i64, .int .i64, .int .i64, .list [.int .i64], .int .i64, .list [.int .i64], .int .i64, .int .i64, .list [.int .i64], .int .i64, .bool, .list [.int .i64, .int .i64], .int .i64, .int .i64, .int .i64, .int .i64, .int .i64, .int .i64, .int .i64, .int .i64, .list [.int .i64], .int .i64, .list [.int .i64], .int .i64, .int .i64, .list [.int .i64], .int .i64, .bool, .list [.int .i64, .int .i64]] r) : ∃ a : GFork, r = eFork a ∧ WFork a := by
  obtain ⟨p1, r1, rfl, h1, hr1⟩ := all_cons hr
  obtain ⟨n1, rfl⟩ := has_int h1
  obtain ⟨p2, r2, rfl, h2, hr2⟩ := all_cons hr1
  obtain ⟨n2, rfl⟩ := has_int h2
  obtain ⟨p3, r3, rfl, h3, hr3⟩ := all_cons hr2
  obtain ⟨n3, rfl⟩ := has_int h3
  obtain ⟨p4, r4, rfl, h4, hr4⟩ := all_cons hr3
  obtain ⟨n4, rfl⟩ := has_int h4
  obtain ⟨p5, r5, rfl, h5, hr5⟩ := all_cons hr4
  obtain ⟨n5, rfl⟩ := has_int h5
  obtain ⟨p6, r6, rfl, h6, hr6⟩ := all_cons hr5
  obtain ⟨n6, rfl⟩ := has_int h6
  obtain ⟨p7, r7, rfl, h7, hr7⟩ := all_cons hr6
  obtain ⟨n7, rfl⟩ := has_int h7
  obtain ⟨p8, r8, rfl, h8, hr8⟩ := all_cons hr7
  obtain ⟨n8, rfl⟩ := has_int h8
  obtain ⟨p9, r9, rfl, h9, hr9⟩ := all_cons hr8
  obtain ⟨n9, rfl, g9⟩ := has_ints h9
  obtain ⟨p10, r10, rfl, h10, hr10⟩ := all_cons hr9
  obtain ⟨n10, rfl⟩ := has_int h10
  obtain ⟨p11, r11, rfl, h11, hr11⟩ := all_cons hr10
  obtain ⟨n11, rfl, g11⟩ := has_ints h11
  obtain ⟨p12, r12, rfl, h12, hr12⟩ := all_cons hr11
  obtain ⟨n12, rfl⟩ := has_int h12
  obtain ⟨p13, r13, rfl, h13, hr13⟩ := all_cons hr12
  obtain ⟨n13, rfl⟩ := has_int h13
  obtain ⟨p14, r14, rfl, h14, hr14⟩ := all_cons hr13
  obtain ⟨n14, rfl, g14⟩ := has_ints h14
  obtain ⟨p15, r15, rfl, h15, hr15⟩ := all_cons hr14
  obtain ⟨n15, rfl⟩ := has_int h15
  obtain ⟨p16, r16, rfl, h16, hr16⟩ := all_cons hr15
  obtain ⟨n16, rfl⟩ := has_bool h16
  obtain ⟨p17, r17, rfl, h17, hr17⟩ := all_cons hr16
  obtain ⟨n17, rfl, g17⟩ := decSigS h17
  obtain ⟨p18, r18, rfl, h18, hr18⟩ := all_cons hr17
  obtain ⟨n18, rfl⟩ := has_int h18
  obtain ⟨p19, r19, rfl, h19, hr19⟩ := all_cons hr18
  obtain ⟨n19, rfl⟩ := has_int h19
  obtain ⟨p20, r20, rfl, h20, hr20⟩ := all_cons hr19
  obtain ⟨n20, rfl⟩ := has_int h20
  obtain ⟨p21, r21, rfl, h21, hr21⟩ := all_cons hr20
  obtain ⟨n21, rfl⟩ := has_int h21
  obtain ⟨p22, r22, rfl, h22, hr22⟩ := all_cons hr21
  obtain ⟨n22, rfl⟩ := has_int h22
  obtain ⟨p23, r23, rfl, h23, hr23⟩ := all_cons hr22
  obtain ⟨n23, rfl⟩ := has_int h23
  obtain ⟨p24, r24, rfl, h24, hr24⟩ := all_cons hr23
  obtain ⟨n24, rfl⟩ := has_int h24
  obtain ⟨p25, r25, rfl, h25, hr25⟩ := all_cons hr24
  obtain ⟨n25, rfl⟩ := has_int h25
  obtain ⟨p26, r26, rfl, h26, hr26⟩ := all_cons hr25
  obtain ⟨n26, rfl, g26⟩ := has_ints h26
  obtain ⟨p27, r27, rfl, h27, hr27⟩ := all_cons hr26
  obtain ⟨n27, rfl⟩ := has_int h27
  obtain ⟨p28, r28, rfl, h28, hr28⟩ := all_cons hr27
  obtain ⟨n28, rfl, g28⟩ := has_ints h28
  obtain ⟨p29, r29, rfl, h29, hr29⟩ := all_cons hr28
  obtain ⟨n29, rfl⟩ := has_int h29
  obtain ⟨p30, r30, rfl, h30, hr30⟩ := all_cons hr29
  obtain ⟨n30, rfl⟩ := has_int h30
  obtain ⟨p31, r31, rfl, h31, hr31⟩ := all_cons hr30
  obtain ⟨n31, rfl, g31⟩ := has_ints h31
  obtain ⟨p32, r32, rfl, h32, hr32⟩ := all_cons hr31
  obtain ⟨n32, rfl⟩ := has_int h32
  obtain ⟨p33, r33, rfl, h33, hr33⟩ := all_cons hr32
  obtain ⟨n33, rfl⟩ := has_bool h33
  obtain ⟨p34, r34, rfl, h34, hr34⟩ := all_cons hr33
  obtain ⟨n34, rfl, g34⟩ := decSigS h34
  obtain ⟨p35, r35, rfl, h35, hr35⟩ := all_cons hr34
  obtain ⟨n35, rfl⟩ := has_int h35
  obtain ⟨p36, r36, rfl, h36, hr36⟩ := all_cons hr35
  obtain ⟨n36, rfl⟩ := has_int h36
  obtain ⟨p37, r37, rfl, h37, hr37⟩ := all_cons hr36
  obtain ⟨n37, rfl⟩ := has_int h37
  obtain ⟨p38, r38, rfl, h38, hr38⟩ := all_cons hr37
  obtain ⟨n38, rfl⟩ := has_int h38
  obtain ⟨p39, r39, rfl, h39, hr39⟩ := all_cons hr38
  obtain ⟨n39, rfl⟩ := has_int h39
  obtain ⟨p40, r40, rfl, h40, hr40⟩ := all_cons hr39
  obtain ⟨n40, rfl⟩ := has_int h40
  obtain ⟨p41, r41, rfl, h41, hr41⟩ := all_cons hr40
  obtain ⟨n41, rfl⟩ := has_int h41
  obtain ⟨p42, r42, rfl, h42, hr42⟩ := all_cons hr41
  obtain ⟨n42, rfl⟩ := has_int h42
  obtain ⟨p43, r43, rfl, h43, hr43⟩ := all_cons hr42
  obtain ⟨n43, rfl, g43⟩ := has_ints h43
  obtain ⟨p44, r44, rfl, h44, hr44⟩ := all_cons hr43
  obtain ⟨n44, rfl⟩ := has_int h44
  obtain ⟨p45, r45, rfl, h45, hr45⟩ := all_cons hr44
  obtain ⟨n45, rfl, g45⟩ := has_ints h45
  obtain ⟨p46, r46, rfl, h46, hr46⟩ := all_cons hr45
  obtain ⟨n46, rfl⟩ := has_int h46
  obtain ⟨p47, r47, rfl, h47, hr47⟩ := all_cons hr46
  obtain ⟨n47, rfl⟩ := has_int h47
  obtain ⟨p48, r48, rfl, h48, hr48⟩ := all_cons hr47
  obtain ⟨n48, rfl, g48⟩ := has_ints h48
  obtain ⟨p49, r49, rfl, h49, hr49⟩ := all_cons hr48
  obtain ⟨n49, rfl⟩ := has_int h49
  obtain ⟨p50, r50, rfl, h50, hr50⟩ := all_cons hr49
  obtain ⟨n50, rfl⟩ := has_bool h50
  obtain ⟨p51, rfl, h51⟩ := all_one hr50
  obtain ⟨n51, rfl, g51⟩ := decSigS h51
  exact ⟨⟨⟨⟨n1, n2, n3, n4, n5, n6, n7, n8, ⟨n9, n10⟩, ⟨n11, n12⟩, n13, ⟨n14, n15⟩, n16⟩, n17⟩, ⟨⟨n18, n19, n20, n21, n22, n23, n24, n25, ⟨n26, n27⟩, ⟨n28, n29⟩, n30, ⟨n31, n32⟩, n33⟩, n34⟩, ⟨⟨n35, n36, n37, n38, n39, n40, n41, n42, ⟨n43, n44⟩, ⟨n45, n46⟩, n47, ⟨n48, n49⟩, n50⟩, n51⟩⟩, rfl, ⟨⟨⟨g9, g11, g14⟩, g17⟩, ⟨⟨g26, g28, g31⟩, g34⟩, ⟨⟨g43, g45, g48⟩, g51⟩⟩⟩
theorem laws_szFork_n (a : GFork) (left : Int) (hw : WFork a) (h2 : 0 ≤ left) (h3 : left ≤ 1048576) (k) : call laws_szFork [.agg (eFork a), .one (I left)] k = k [I (szr (mFork a) left)] := call_of (fun k => by
  obtain ⟨g0, g1, g2⟩ := hw
  unfold mFork
  simp only [laws_szFork, un, cur0, laws_szSigned_n a.Before (left) g0 h2 h3, binP_lss, iteP_eq, atP_zero, rt_eq, scs_sc, scs_nil, flat_int, true_and, and_true]
  by_cases c0 : ((mSigned a.Before : Nat) : Int) ≤ left
  rotate_left
  · first | (simp [szr_over c0, szr_not c0]; done) | (simp only [szr_over c0, szr_not c0]; simp)
  simp only [szr_yes c0, szr_add c0, show ¬ (left - ((mSigned a.Before : Nat) : Int) < 0) by omega, decide_false, Bool.false_eq_true, if_false, laws_szSigned_n a.A (left - ((mSigned a.Before : Nat) : Int)) g1 (by omega) (by omega), binP_lss, iteP_eq, atP_zero, rt_eq, scs_sc, scs_nil, flat_int, true_and, and_true]
  by_cases c1 : ((mSigned a.A : Nat) : Int) ≤ left - ((mSigned a.Before : Nat) : Int)
  rotate_left
  · first | (simp [szr_over c1, szr_not c1]; done) | (simp only [szr_over c1, szr_not c1]; simp)
  simp only [szr_yes c1, szr_add c1, show ¬ (left - ((mSigned a.Before : Nat) : Int) - ((mSigned a.A : Nat) : Int) < 0) by omega, decide_false, Bool.false_eq_true, if_false, laws_szSigned_n a.B (left - ((mSigned a.Before : Nat) : Int) - ((mSigned a.A : Nat) : Int)) g2 (by omega) (by omega), binP_lss, iteP_eq, atP_zero, rt_eq, scs_sc, scs_nil, flat_int, true_and, and_true]
  by_cases c2 : ((mSigned a.B : Nat) : Int) ≤ left - ((mSigned a.Before : Nat) : Int) - ((mSigned a.A : Nat) : Int)
  rotate_left
  · first | (simp [szr_not c2, szr_not c2]; done) | (simp only [szr_not c2, szr_not c2]; simp)
  simp only [szr_yes c2, show ¬ (left - ((mSigned a.Before : Nat) : Int) - ((mSigned a.A : Nat) : Int) - ((mSigned a.B : Nat) : Int) < 0) by omega, decide_false, Bool.false_eq_true, if_false, binP_lss, iteP_eq, atP_zero, rt_eq, scs_sc, scs_nil, flat_int, true_and, and_true]) k
theorem laws_toFork_n (a : GFork) (h : mFork a ≤ 1048576) (k) : call laws_toFork [.agg (eFork a)] k = k (eFork a) := call_of (fun k => by
  unfold mFork at h
  simp [laws_toFork, laws_toSigned_n a.Before (by omega), laws_toSigned_n a.A (by omega), laws_toSigned_n a.B (by omega)]) k
theorem laws_eqFork_n (a : GFork) (h : mFork a ≤ 1048576) (k) : call laws_eqFork [.agg (eFork a), .agg (eFork a)] k = k [.bool true] := call_of (fun k => by
  unfold mFork at h
  simp [laws_eqFork, laws_eqSigned_n a.Before (by omega), laws_eqSigned_n a.A (by omega), laws_eqSigned_n a.B (by omega)]) k
def mSignedS (l : List GSigned) : Nat := l.length + sumN mSigned l
theorem decSignedS {p : PV} (h : Sh.has (.list [.int .i64, .int .i64, .int .i64, .int .i64, .int .i64, .int .i64, .int .i64, .int .i64, .list [.int .i64], .int .i64, .list [.int .i64], .int .i64, .int .i64, .list [.int .i64], .int .i64, .bool, .list [.int .i64, .int .i64]]) p) : ∃ l : List GSigned, p = .list 17 (l.map eSigned) ∧ (l.length ≤ maxLen ∧ ∀ y ∈ l, WSigned y) := by
  obtain ⟨l, h1, h2, h3⟩ := has_map decSigned 17 rfl h
  exact ⟨l, h1, h2, h3⟩
theorem laws_szSignedS_n (l : List GSigned) (left : Int) (hw : (l.length ≤ maxLen ∧ ∀ y ∈ l, WSigned y)) (h2 : 0 ≤ left) (h3 : left ≤ 1048576) (k) : call laws_szSignedS [.one (.list 17 (l.map eSigned)), .one (I left)] k = k [I (szr (mSignedS l) left)] := call_of (fun k => by
  simp only [laws_szSignedS, lenP_eq, List.length_map, binP_sub, wr_left hw.1 h2 h3, binP_lss, iteP_eq, rt_eq, scs_sc, scs_nil, flat_int, true_and, and_true]
  unfold mSignedS
  by_cases c : (l.length : Int) ≤ left
  rotate_left
  · simp [szr_over c, show left - (l.length : Int) < 0 by omega]
  simp only [szr_add c, show ¬ (left - (l.length : Int) < 0) by omega, decide_false, Bool.false_eq_true, if_false]
  refine (lp_sz (neg := k [I (-1)]) (fin := fun t => k [I t]) l eSigned 17 mSigned (left - (l.length : Int)) (I 0) (by omega) (by omega) rfl (fun i x hx hi t ht1 ht2 K => ?_) fun t K => ?_).trans ?_
  · have e := laws_szSigned_n x t (hw.2 x (List.mem_of_getElem? hx)) ht1 ht2
    simp [-getElem?_pos, laws_szSignedS_r0, hx, hi, e, wr_succ (show i < 1000000000000000000 by omega)]
    by_cases hs : ((mSigned x : Nat) : Int) ≤ t
    · simp [szr_yes hs, hs, show ¬ (t - ((mSigned x : Nat) : Int) < 0) by omega]
    · simp [szr_not hs, hs]
  · simp [laws_szSignedS_r0]
  · by_cases hs : ((sumN mSigned l : Nat) : Int) ≤ left - (l.length : Int)
    · simp [szr_yes hs, hs]
    · simp [szr_not hs, hs]) k
theorem laws_toSignedS_n (l : List GSigned) (h : mSignedS l ≤ 1048576) (k) : call laws_toSignedS [.one (.list 17 (l.map eSigned))] k = k [.list 17 (l.map eSigned)] := call_of (fun k => by
  have hm := h
  unfold mSignedS at hm
  simp [laws_toSignedS, show l.length < 1073741824 by omega]
  refine lp_toS l eSigned eSigned [I 0, I 0, I 0, I 0, I 0, I 0, I 0, I 0, .list 1 [], I 0, .list 1 [], I 0, I 0, .list 1 [], I 0, .bool false, .list 2 []] 17 17 (.list 17 []) rfl (fun i x hx hi K rows hr hz => ?_) fun K => ?_
  · have hs : mSigned x ≤ sumN mSigned l := sumN_mem (s := mSigned) (List.mem_of_getElem? hx)
    simp [-getElem?_pos, laws_toSignedS_r0, hx, hi, hr, hz, over, laws_toSigned_n x (by omega), wr_succ (show i < 1000000000000000000 by omega)]
  · simp [laws_toSignedS_r0]) k
theorem laws_eqSignedS_n (l : List GSigned) (h : mSignedS l ≤ 1048576) (k) : call laws_eqSignedS [.one (.list 17 (l.map eSigned)), .one (.list 17 (l.map eSigned))] k = k [.bool true] := call_of (fun k => by
  have hm := h
  unfold mSignedS at hm
  simp [laws_eqSignedS]
  refine lp_eqS l eSigned 17 (.bool false) rfl (fun i x hx hi K => ?_) fun K => ?_
  · have hs : mSigned x ≤ sumN mSigned l := sumN_mem (s := mSigned) (List.mem_of_getElem? hx)
    simp [-getElem?_pos, laws_eqSignedS_r0, hx, hi, laws_eqSigned_n x (by omega), wr_succ (show i < 1000000000000000000 by omega)]
  · simp [laws_eqSignedS_r0]) k
def mEntryS (l : List GEntry) : Nat := l.length + sumN mEntry l
theorem decEntryS {p : PV} (h : Sh.has (.list [.str, .int .i64, .int .i64, .list [.str]]) p) : ∃ l : List GEntry, p = .list 4 (l.map eEntry) ∧ (l.length ≤ maxLen ∧ ∀ y ∈ l, WEntry y) := by
  obtain ⟨l, h1, h2, h3⟩ := has_map decEntry 4 rfl h
  exact ⟨l, h1, h2, h3⟩
theorem laws_szEntryS_n (l : List GEntry) (left : Int) (hw : (l.length ≤ maxLen ∧ ∀ y ∈ l, WEntry y)) (h2 : 0 ≤ left) (h3 : left ≤ 1048576) (k) : call laws_szEntryS [.one (.list 4 (l.map eEntry)), .one (I left)] k = k [I (szr (mEntryS l) left)] := call_of (fun k => by
  simp only [laws_szEntryS, lenP_eq, List.length_map, binP_sub, wr_left hw.1 h2 h3, binP_lss, iteP_eq, rt_eq, scs_sc, scs_nil, flat_int, true_and, and_true]
  unfold mEntryS
  by_cases c : (l.length : Int) ≤ left
  rotate_left
  · simp [szr_over c, show left - (l.length : Int) < 0 by omega]
  simp only [szr_add c, show ¬ (left - (l.length : Int) < 0) by omega, decide_false, Bool.false_eq_true, if_false]
  refine (lp_sz (neg := k [I (-1)]) (fin := fun t => k [I t]) l eEntry 4 mEntry (left - (l.length : Int)) (I 0) (by omega) (by omega) rfl (fun i x hx hi t ht1 ht2 K => ?_) fun t K => ?_).trans ?_
  · have e := laws_szEntry_n x t (hw.2 x (List.mem_of_getElem? hx)) ht1 ht2
    simp [-getElem?_pos, laws_szEntryS_r0, hx, hi, e, wr_succ (show i < 1000000000000000000 by omega)]
    by_cases hs : ((mEntry x : Nat) : Int) ≤ t
    · simp [szr_yes hs, hs, show ¬ (t - ((mEntry x : Nat) : Int) < 0) by omega]
    · simp [szr_not hs, hs]
  · simp [laws_szEntryS_r0]
  · by_cases hs : ((sumN mEntry l : Nat) : Int) ≤ left - (l.length : Int)
    · simp [szr_yes hs, hs]
    · simp [szr_not hs, hs]) k
theorem laws_toEntryS_n (l : List GEntry) (h : mEntryS l ≤ 1048576) (k) : call laws_toEntryS [.one (.list 4 (l.map eEntry))] k = k [.list 4 (l.map eEntry)] := call_of (fun k => by
  have hm := h
  unfold mEntryS at hm
  simp [laws_toEntryS, show l.length < 1073741824 by omega]
  refine lp_toS l eEntry eEntry [.str ⟨#[]⟩, I 0, I 0, .list 1 []] 4 4 (.list 4 []) rfl (fun i x hx hi K rows hr hz => ?_) fun K => ?_
  · have hs : mEntry x ≤ sumN mEntry l := sumN_mem (s := mEntry) (List.mem_of_getElem? hx)
    simp [-getElem?_pos, laws_toEntryS_r0, hx, hi, hr, hz, over, laws_toEntry_n x (by omega), wr_succ (show i < 1000000000000000000 by omega)]
  · simp [laws_toEntryS_r0]) k
theorem laws_eqEntryS_n (l : List GEntry) (h : mEntryS l ≤ 1048576) (k) : call laws_eqEntryS [.one (.list 4 (l.map eEntry)), .one (.list 4 (l.map eEntry))] k = k [.bool true] := call_of (fun k => by
  have hm := h
  unfold mEntryS at hm
  simp [laws_eqEntryS]
  refine lp_eqS l eEntry 4 (.bool false) rfl (fun i x hx hi K => ?_) fun K => ?_
  · have hs : mEntry x ≤ sumN mEntry l := sumN_mem (s := mEntry) (List.mem_of_getElem? hx)
    simp [-getElem?_pos, laws_eqEntryS_r0, hx, hi, laws_eqEntry_n x (by omega), wr_succ (show i < 1000000000000000000 by omega)]
  · simp [laws_eqEntryS_r0]) k
structure GZone where
  Chain : List GSigned
  Entries : List GEntry
abbrev eZone (a : GZone) : List PV := [.list 17 (a.Chain.map eSigned), .list 4 (a.Entries.map eEntry)]
def mZone (a : GZone) : Nat := mSignedS a.Chain + (mEntryS a.Entries)
def WZone (a : GZone) : Prop := (a.Chain.length ≤ maxLen ∧ ∀ y ∈ a.Chain, WSigned y) ∧ (a.Entries.length ≤ maxLen ∧ ∀ y ∈ a.Entries, WEntry y)
theorem decZone (r : List PV) (hr : Sh.hasAll [.list [.int .i64, .int .i64, .int .i64, .int .i64, .int .i64, .int .i64, .int .i64, .int .i64, .list [.int .i64], .int .i64, .list [.int .i64], .int .i64, .int .i64, .list [.int .i64], .int .i64, .bool, .list [.int .i64, .int .i64]], .list [.str, .int .i64, .int .i64, .list [.str]]] r) : ∃ a : GZone, r = eZone a ∧ WZone a := by
  obtain ⟨p1, r1, rfl, h1, hr1⟩ := all_cons hr
  obtain ⟨n1, rfl, g1⟩ := decSignedS h1
  obtain ⟨p2, rfl, h2⟩ := all_one hr1
  obtain ⟨n2, rfl, g2⟩ := decEntryS h2
  exact ⟨⟨n1, n2⟩, rfl, ⟨g1, g2⟩⟩
theorem laws_szZone_n (a : GZone) (left : Int) (hw : WZone a) (h2 : 0 ≤ left) (h3 : left ≤ 1048576) (k) : call laws_szZone [.agg (eZone a), .one (I left)] k = k [I (szr (mZone a) left)] := call_of (fun k => by
  obtain ⟨g0, g1⟩ := hw
  unfold mZone
  simp only [laws_szZone, un, cur0, laws_szSignedS_n a.Chain (left) g0 h2 h3, binP_lss, iteP_eq, atP_zero, rt_eq, scs_sc, scs_nil, flat_int, true_and, and_true]
  by_cases c0 : ((mSignedS a.Chain : Nat) : Int) ≤ left
  rotate_left
  · first | (simp [szr_over c0, szr_not c0]; done) | (simp only [szr_over c0, szr_not c0]; simp)
  simp only [szr_yes c0, szr_add c0, show ¬ (left - ((mSignedS a.Chain : Nat) : Int) < 0) by omega, decide_false, Bool.false_eq_true, if_false, laws_szEntryS_n a.Entries (left - ((mSignedS a.Chain : Nat) : Int)) g1 (by omega) (by omega), binP_lss, iteP_eq, atP_zero, rt_eq, scs_sc, scs_nil, flat_int, true_and, and_true]
  by_cases c1 : ((mEntryS a.Entries : Nat) : Int) ≤ left - ((mSignedS a.Chain : Nat) : Int)
  rotate_left
  · first | (simp [szr_not c1, szr_not c1]; done) | (simp only [szr_not c1, szr_not c1]; simp)
  simp only [szr_yes c1, show ¬ (left - ((mSignedS a.Chain : Nat) : Int) - ((mEntryS a.Entries : Nat) : Int) < 0) by omega, decide_false, Bool.false_eq_true, if_false, binP_lss, iteP_eq, atP_zero, rt_eq, scs_sc, scs_nil, flat_int, true_and, and_true]) k
theorem laws_toZone_n (a : GZone) (h : mZone a ≤ 1048576) (k) : call laws_toZone [.agg (eZone a)] k = k (eZone a) := call_of (fun k => by
  unfold mZone at h
  simp [laws_toZone, laws_toSignedS_n a.Chain (by omega), laws_toEntryS_n a.Entries (by omega)]) k
theorem laws_eqZone_n (a : GZone) (h : mZone a ≤ 1048576) (k) : call laws_eqZone [.agg (eZone a), .agg (eZone a)] k = k [.bool true] := call_of (fun k => by
  unfold mZone at h
  simp [laws_eqZone, laws_eqSignedS_n a.Chain (by omega), laws_eqEntryS_n a.Entries (by omega)]) k
structure GAnswer where
  Chain : List GSigned
  Found : Bool
  Entry : GEntry
  Proof : GProof
  Gap : GGap
abbrev eAnswer (a : GAnswer) : List PV := [.list 17 (a.Chain.map eSigned), .bool a.Found, .str a.Entry.Label, I a.Entry.Kind, I a.Entry.Value, strs a.Entry.Path, I a.Proof.At, ints a.Proof.Path, I a.Gap.At, .str a.Gap.Before.Label, I a.Gap.Before.Kind, I a.Gap.Before.Value, strs a.Gap.Before.Path, .str a.Gap.After.Label, I a.Gap.After.Kind, I a.Gap.After.Value, strs a.Gap.After.Path, I a.Gap.Left.At, ints a.Gap.Left.Path, I a.Gap.Right.At, ints a.Gap.Right.Path]
def mAnswer (a : GAnswer) : Nat := mSignedS a.Chain + (mEntry a.Entry + (mProof a.Proof + (mGap a.Gap)))
def WAnswer (a : GAnswer) : Prop := (a.Chain.length ≤ maxLen ∧ ∀ y ∈ a.Chain, WSigned y) ∧ WEntry a.Entry ∧ WProof a.Proof ∧ WGap a.Gap
theorem decAnswer (r : List PV) (hr : Sh.hasAll [.list [.int .i64, .int .i64, .int .i64, .int .i64, .int .i64, .int .i64, .int .i64, .int .i64, .list [.int .i64], .int .i64, .list [.int .i64], .int .i64, .int .i64, .list [.int .i64], .int .i64, .bool, .list [.int .i64, .int .i64]], .bool, .str, .int .i64, .int .i64, .list [.str], .int .i64, .list [.int .i64], .int .i64, .str, .int .i64, .int .i64, .list [.str], .str, .int .i64, .int .i64, .list [.str], .int .i64, .list [.int .i64], .int .i64, .list [.int .i64]] r) : ∃ a : GAnswer, r = eAnswer a ∧ WAnswer a := by
  obtain ⟨p1, r1, rfl, h1, hr1⟩ := all_cons hr
  obtain ⟨n1, rfl, g1⟩ := decSignedS h1
  obtain ⟨p2, r2, rfl, h2, hr2⟩ := all_cons hr1
  obtain ⟨n2, rfl⟩ := has_bool h2
  obtain ⟨p3, r3, rfl, h3, hr3⟩ := all_cons hr2
  obtain ⟨n3, rfl, g3⟩ := has_str h3
  obtain ⟨p4, r4, rfl, h4, hr4⟩ := all_cons hr3
  obtain ⟨n4, rfl⟩ := has_int h4
  obtain ⟨p5, r5, rfl, h5, hr5⟩ := all_cons hr4
  obtain ⟨n5, rfl⟩ := has_int h5
  obtain ⟨p6, r6, rfl, h6, hr6⟩ := all_cons hr5
  obtain ⟨n6, rfl, g6⟩ := has_strs h6
  obtain ⟨p7, r7, rfl, h7, hr7⟩ := all_cons hr6
  obtain ⟨n7, rfl⟩ := has_int h7
  obtain ⟨p8, r8, rfl, h8, hr8⟩ := all_cons hr7
  obtain ⟨n8, rfl, g8⟩ := has_ints h8
  obtain ⟨p9, r9, rfl, h9, hr9⟩ := all_cons hr8
  obtain ⟨n9, rfl⟩ := has_int h9
  obtain ⟨p10, r10, rfl, h10, hr10⟩ := all_cons hr9
  obtain ⟨n10, rfl, g10⟩ := has_str h10
  obtain ⟨p11, r11, rfl, h11, hr11⟩ := all_cons hr10
  obtain ⟨n11, rfl⟩ := has_int h11
  obtain ⟨p12, r12, rfl, h12, hr12⟩ := all_cons hr11
  obtain ⟨n12, rfl⟩ := has_int h12
  obtain ⟨p13, r13, rfl, h13, hr13⟩ := all_cons hr12
  obtain ⟨n13, rfl, g13⟩ := has_strs h13
  obtain ⟨p14, r14, rfl, h14, hr14⟩ := all_cons hr13
  obtain ⟨n14, rfl, g14⟩ := has_str h14
  obtain ⟨p15, r15, rfl, h15, hr15⟩ := all_cons hr14
  obtain ⟨n15, rfl⟩ := has_int h15
  obtain ⟨p16, r16, rfl, h16, hr16⟩ := all_cons hr15
  obtain ⟨n16, rfl⟩ := has_int h16
  obtain ⟨p17, r17, rfl, h17, hr17⟩ := all_cons hr16
  obtain ⟨n17, rfl, g17⟩ := has_strs h17
  obtain ⟨p18, r18, rfl, h18, hr18⟩ := all_cons hr17
  obtain ⟨n18, rfl⟩ := has_int h18
  obtain ⟨p19, r19, rfl, h19, hr19⟩ := all_cons hr18
  obtain ⟨n19, rfl, g19⟩ := has_ints h19
  obtain ⟨p20, r20, rfl, h20, hr20⟩ := all_cons hr19
  obtain ⟨n20, rfl⟩ := has_int h20
  obtain ⟨p21, rfl, h21⟩ := all_one hr20
  obtain ⟨n21, rfl, g21⟩ := has_ints h21
  exact ⟨⟨n1, n2, ⟨n3, n4, n5, n6⟩, ⟨n7, n8⟩, ⟨n9, ⟨n10, n11, n12, n13⟩, ⟨n14, n15, n16, n17⟩, ⟨n18, n19⟩, ⟨n20, n21⟩⟩⟩, rfl, ⟨g1, ⟨g3, g6⟩, g8, ⟨⟨g10, g13⟩, ⟨g14, g17⟩, g19, g21⟩⟩⟩
theorem laws_szAnswer_n (a : GAnswer) (left : Int) (hw : WAnswer a) (h2 : 0 ≤ left) (h3 : left ≤ 1048576) (k) : call laws_szAnswer [.agg (eAnswer a), .one (I left)] k = k [I (szr (mAnswer a) left)] := call_of (fun k => by
  obtain ⟨g0, g1, g2, g3⟩ := hw
  unfold mAnswer
  simp only [laws_szAnswer, un, cur0, laws_szSignedS_n a.Chain (left) g0 h2 h3, binP_lss, iteP_eq, atP_zero, rt_eq, scs_sc, scs_nil, flat_int, true_and, and_true]
  by_cases c0 : ((mSignedS a.Chain : Nat) : Int) ≤ left
  rotate_left
  · first | (simp [szr_over c0, szr_not c0]; done) | (simp only [szr_over c0, szr_not c0]; simp)
  simp only [szr_yes c0, szr_add c0, show ¬ (left - ((mSignedS a.Chain : Nat) : Int) < 0) by omega, decide_false, Bool.false_eq_true, if_false, laws_szEntry_n a.Entry (left - ((mSignedS a.Chain : Nat) : Int)) g1 (by omega) (by omega), binP_lss, iteP_eq, atP_zero, rt_eq, scs_sc, scs_nil, flat_int, true_and, and_true]
  by_cases c1 : ((mEntry a.Entry : Nat) : Int) ≤ left - ((mSignedS a.Chain : Nat) : Int)
  rotate_left
  · first | (simp [szr_over c1, szr_not c1]; done) | (simp only [szr_over c1, szr_not c1]; simp)
  simp only [szr_yes c1, szr_add c1, show ¬ (left - ((mSignedS a.Chain : Nat) : Int) - ((mEntry a.Entry : Nat) : Int) < 0) by omega, decide_false, Bool.false_eq_true, if_false, laws_szProof_n a.Proof (left - ((mSignedS a.Chain : Nat) : Int) - ((mEntry a.Entry : Nat) : Int)) g2 (by omega) (by omega), binP_lss, iteP_eq, atP_zero, rt_eq, scs_sc, scs_nil, flat_int, true_and, and_true]
  by_cases c2 : ((mProof a.Proof : Nat) : Int) ≤ left - ((mSignedS a.Chain : Nat) : Int) - ((mEntry a.Entry : Nat) : Int)
  rotate_left
  · first | (simp [szr_over c2, szr_not c2]; done) | (simp only [szr_over c2, szr_not c2]; simp)
  simp only [szr_yes c2, szr_add c2, show ¬ (left - ((mSignedS a.Chain : Nat) : Int) - ((mEntry a.Entry : Nat) : Int) - ((mProof a.Proof : Nat) : Int) < 0) by omega, decide_false, Bool.false_eq_true, if_false, laws_szGap_n a.Gap (left - ((mSignedS a.Chain : Nat) : Int) - ((mEntry a.Entry : Nat) : Int) - ((mProof a.Proof : Nat) : Int)) g3 (by omega) (by omega), binP_lss, iteP_eq, atP_zero, rt_eq, scs_sc, scs_nil, flat_int, true_and, and_true]
  by_cases c3 : ((mGap a.Gap : Nat) : Int) ≤ left - ((mSignedS a.Chain : Nat) : Int) - ((mEntry a.Entry : Nat) : Int) - ((mProof a.Proof : Nat) : Int)
  rotate_left
  · first | (simp [szr_not c3, szr_not c3]; done) | (simp only [szr_not c3, szr_not c3]; simp)
  simp only [szr_yes c3, show ¬ (left - ((mSignedS a.Chain : Nat) : Int) - ((mEntry a.Entry : Nat) : Int) - ((mProof a.Proof : Nat) : Int) - ((mGap a.Gap : Nat) : Int) < 0) by omega, decide_false, Bool.false_eq_true, if_false, binP_lss, iteP_eq, atP_zero, rt_eq, scs_sc, scs_nil, flat_int, true_and, and_true]) k
theorem laws_toAnswer_n (a : GAnswer) (h : mAnswer a ≤ 1048576) (k) : call laws_toAnswer [.agg (eAnswer a)] k = k (eAnswer a) := call_of (fun k => by
  unfold mAnswer at h
  simp [laws_toAnswer, laws_toSignedS_n a.Chain (by omega), laws_toEntry_n a.Entry (by omega), laws_toProof_n a.Proof (by omega), laws_toGap_n a.Gap (by omega)]) k
theorem laws_eqAnswer_n (a : GAnswer) (h : mAnswer a ≤ 1048576) (k) : call laws_eqAnswer [.agg (eAnswer a), .agg (eAnswer a)] k = k [.bool true] := call_of (fun k => by
  unfold mAnswer at h
  simp [laws_eqAnswer, laws_eqSignedS_n a.Chain (by omega), laws_eqEntry_n a.Entry (by omega), laws_eqProof_n a.Proof (by omega), laws_eqGap_n a.Gap (by omega)]) k
def mSignedSS (l : List (List GSigned)) : Nat := l.length + sumN mSignedS l
theorem decSignedSS {p : PV} (h : Sh.has (.list [.list [.int .i64, .int .i64, .int .i64, .int .i64, .int .i64, .int .i64, .int .i64, .int .i64, .list [.int .i64], .int .i64, .list [.int .i64], .int .i64, .int .i64, .list [.int .i64], .int .i64, .bool, .list [.int .i64, .int .i64]]]) p) : ∃ l : List (List GSigned), p = .list 1 (l.map (fun l : List GSigned => [.list 17 (l.map eSigned)])) ∧ (l.length ≤ maxLen ∧ ∀ y ∈ l, (y.length ≤ maxLen ∧ ∀ z ∈ y, WSigned z)) := by
  obtain ⟨l, h1, h2, h3⟩ := has_map (enc := (fun l : List GSigned => [.list 17 (l.map eSigned)])) (wf := fun y => (y.length ≤ maxLen ∧ ∀ z ∈ y, WSigned z)) (fun r hr => by
    obtain ⟨p, rfl, h⟩ := all_one hr
    obtain ⟨m, rfl, g⟩ := decSignedS h
    exact ⟨m, rfl, g⟩) 1 rfl h
  exact ⟨l, h1, h2, h3⟩
theorem laws_szSignedSS_n (l : List (List GSigned)) (left : Int) (hw : (l.length ≤ maxLen ∧ ∀ y ∈ l, (y.length ≤ maxLen ∧ ∀ z ∈ y, WSigned z))) (h2 : 0 ≤ left) (h3 : left ≤ 1048576) (k) : call laws_szSignedSS [.one (.list 1 (l.map (fun l : List GSigned => [.list 17 (l.map eSigned)]))), .one (I left)] k = k [I (szr (mSignedSS l) left)] := call_of (fun k => by
  simp only [laws_szSignedSS, lenP_eq, List.length_map, binP_sub, wr_left hw.1 h2 h3, binP_lss, iteP_eq, rt_eq, scs_sc, scs_nil, flat_int, true_and, and_true]
  unfold mSignedSS
  by_cases c : (l.length : Int) ≤ left
  rotate_left
  · simp [szr_over c, show left - (l.length : Int) < 0 by omega]
  simp only [szr_add c, show ¬ (left - (l.length : Int) < 0) by omega, decide_false, Bool.false_eq_true, if_false]
  refine (lp_sz (neg := k [I (-1)]) (fin := fun t => k [I t]) l (fun l : List GSigned => [.list 17 (l.map eSigned)]) 1 mSignedS (left - (l.length : Int)) (I 0) (by omega) (by omega) rfl (fun i x hx hi t ht1 ht2 K => ?_) fun t K => ?_).trans ?_
  · have e := laws_szSignedS_n x t (hw.2 x (List.mem_of_getElem? hx)) ht1 ht2
    simp [-getElem?_pos, laws_szSignedSS_r0, hx, hi, e, wr_succ (show i < 1000000000000000000 by omega)]
    by_cases hs : ((mSignedS x : Nat) : Int) ≤ t
    · simp [szr_yes hs, hs, show ¬ (t - ((mSignedS x : Nat) : Int) < 0) by omega]
    · simp [szr_not hs, hs]
  · simp [laws_szSignedSS_r0]
  · by_cases hs : ((sumN mSignedS l : Nat) : Int) ≤ left - (l.length : Int)
    · simp [szr_yes hs, hs]
    · simp [szr_not hs, hs]) k
theorem laws_toSignedSS_n (l : List (List GSigned)) (h : mSignedSS l ≤ 1048576) (k) : call laws_toSignedSS [.one (.list 1 (l.map (fun l : List GSigned => [.list 17 (l.map eSigned)])))] k = k [.list 1 (l.map (fun l : List GSigned => [.list 17 (l.map eSigned)]))] := call_of (fun k => by
  have hm := h
  unfold mSignedSS at hm
  simp [laws_toSignedSS, show l.length < 1073741824 by omega]
  refine lp_toS l (fun l : List GSigned => [.list 17 (l.map eSigned)]) (fun l : List GSigned => [.list 17 (l.map eSigned)]) [.list 17 []] 1 1 (.list 1 []) rfl (fun i x hx hi K rows hr hz => ?_) fun K => ?_
  · have hs : mSignedS x ≤ sumN mSignedS l := sumN_mem (s := mSignedS) (List.mem_of_getElem? hx)
    simp [-getElem?_pos, laws_toSignedSS_r0, hx, hi, hr, hz, over, laws_toSignedS_n x (by omega), wr_succ (show i < 1000000000000000000 by omega)]
  · simp [laws_toSignedSS_r0]) k
theorem laws_eqSignedSS_n (l : List (List GSigned)) (h : mSignedSS l ≤ 1048576) (k) : call laws_eqSignedSS [.one (.list 1 (l.map (fun l : List GSigned => [.list 17 (l.map eSigned)]))), .one (.list 1 (l.map (fun l : List GSigned => [.list 17 (l.map eSigned)])))] k = k [.bool true] := call_of (fun k => by
  have hm := h
  unfold mSignedSS at hm
  simp [laws_eqSignedSS]
  refine lp_eqS l (fun l : List GSigned => [.list 17 (l.map eSigned)]) 1 (.bool false) rfl (fun i x hx hi K => ?_) fun K => ?_
  · have hs : mSignedS x ≤ sumN mSignedS l := sumN_mem (s := mSignedS) (List.mem_of_getElem? hx)
    simp [-getElem?_pos, laws_eqSignedSS_r0, hx, hi, laws_eqSignedS_n x (by omega), wr_succ (show i < 1000000000000000000 by omega)]
  · simp [laws_eqSignedSS_r0]) k
def mForkS (l : List GFork) : Nat := l.length + sumN mFork l
theorem decForkS {p : PV} (h : Sh.has (.list [.int .i64, .int .i64, .int .i64, .int .i64, .int .i64, .int .i64, .int .i64, .int .i64, .list [.int .i64], .int .i64, .list [.int .i64], .int .i64, .int .i64, .list [.int .i64], .int .i64, .bool, .list [.int .i64, .int .i64], .int .i64, .int .i64, .int .i64, .int .i64, .int .i64, .int .i64, .int .i64, .int .i64, .list [.int .i64], .int .i64, .list [.int .i64], .int .i64, .int .i64, .list [.int .i64], .int .i64, .bool, .list [.int .i64, .int .i64], .int .i64, .int .i64, .int .i64, .int .i64, .int .i64, .int .i64, .int .i64, .int .i64, .list [.int .i64], .int .i64, .list [.int .i64], .int .i64, .int .i64, .list [.int .i64], .int .i64, .bool, .list [.int .i64, .int .i64]]) p) : ∃ l : List GFork, p = .list 51 (l.map eFork) ∧ (l.length ≤ maxLen ∧ ∀ y ∈ l, WFork y) := by
  obtain ⟨l, h1, h2, h3⟩ := has_map decFork 51 rfl h
  exact ⟨l, h1, h2, h3⟩
theorem laws_szForkS_n (l : List GFork) (left : Int) (hw : (l.length ≤ maxLen ∧ ∀ y ∈ l, WFork y)) (h2 : 0 ≤ left) (h3 : left ≤ 1048576) (k) : call laws_szForkS [.one (.list 51 (l.map eFork)), .one (I left)] k = k [I (szr (mForkS l) left)] := call_of (fun k => by
  simp only [laws_szForkS, lenP_eq, List.length_map, binP_sub, wr_left hw.1 h2 h3, binP_lss, iteP_eq, rt_eq, scs_sc, scs_nil, flat_int, true_and, and_true]
  unfold mForkS
  by_cases c : (l.length : Int) ≤ left
  rotate_left
  · simp [szr_over c, show left - (l.length : Int) < 0 by omega]
  simp only [szr_add c, show ¬ (left - (l.length : Int) < 0) by omega, decide_false, Bool.false_eq_true, if_false]
  refine (lp_sz (neg := k [I (-1)]) (fin := fun t => k [I t]) l eFork 51 mFork (left - (l.length : Int)) (I 0) (by omega) (by omega) rfl (fun i x hx hi t ht1 ht2 K => ?_) fun t K => ?_).trans ?_
  · have e := laws_szFork_n x t (hw.2 x (List.mem_of_getElem? hx)) ht1 ht2
    simp [-getElem?_pos, laws_szForkS_r0, hx, hi, e, wr_succ (show i < 1000000000000000000 by omega)]
    by_cases hs : ((mFork x : Nat) : Int) ≤ t
    · simp [szr_yes hs, hs, show ¬ (t - ((mFork x : Nat) : Int) < 0) by omega]
    · simp [szr_not hs, hs]
  · simp [laws_szForkS_r0]
  · by_cases hs : ((sumN mFork l : Nat) : Int) ≤ left - (l.length : Int)
    · simp [szr_yes hs, hs]
    · simp [szr_not hs, hs]) k
theorem laws_toForkS_n (l : List GFork) (h : mForkS l ≤ 1048576) (k) : call laws_toForkS [.one (.list 51 (l.map eFork))] k = k [.list 51 (l.map eFork)] := call_of (fun k => by
  have hm := h
  unfold mForkS at hm
  simp [laws_toForkS, show l.length < 1073741824 by omega]
  refine lp_toS l eFork eFork [I 0, I 0, I 0, I 0, I 0, I 0, I 0, I 0, .list 1 [], I 0, .list 1 [], I 0, I 0, .list 1 [], I 0, .bool false, .list 2 [], I 0, I 0, I 0, I 0, I 0, I 0, I 0, I 0, .list 1 [], I 0, .list 1 [], I 0, I 0, .list 1 [], I 0, .bool false, .list 2 [], I 0, I 0, I 0, I 0, I 0, I 0, I 0, I 0, .list 1 [], I 0, .list 1 [], I 0, I 0, .list 1 [], I 0, .bool false, .list 2 []] 51 51 (.list 51 []) rfl (fun i x hx hi K rows hr hz => ?_) fun K => ?_
  · have hs : mFork x ≤ sumN mFork l := sumN_mem (s := mFork) (List.mem_of_getElem? hx)
    simp [-getElem?_pos, laws_toForkS_r0, hx, hi, hr, hz, over, laws_toFork_n x (by omega), wr_succ (show i < 1000000000000000000 by omega)]
  · simp [laws_toForkS_r0]) k
theorem laws_eqForkS_n (l : List GFork) (h : mForkS l ≤ 1048576) (k) : call laws_eqForkS [.one (.list 51 (l.map eFork)), .one (.list 51 (l.map eFork))] k = k [.bool true] := call_of (fun k => by
  have hm := h
  unfold mForkS at hm
  simp [laws_eqForkS]
  refine lp_eqS l eFork 51 (.bool false) rfl (fun i x hx hi K => ?_) fun K => ?_
  · have hs : mFork x ≤ sumN mFork l := sumN_mem (s := mFork) (List.mem_of_getElem? hx)
    simp [-getElem?_pos, laws_eqForkS_r0, hx, hi, laws_eqFork_n x (by omega), wr_succ (show i < 1000000000000000000 by omega)]
  · simp [laws_eqForkS_r0]) k
structure GKnown where
  Chains : List (List GSigned)
  Forks : List GFork
abbrev eKnown (a : GKnown) : List PV := [.list 1 (a.Chains.map (fun l : List GSigned => [.list 17 (l.map eSigned)])), .list 51 (a.Forks.map eFork)]
def mKnown (a : GKnown) : Nat := mSignedSS a.Chains + (mForkS a.Forks)
def WKnown (a : GKnown) : Prop := (a.Chains.length ≤ maxLen ∧ ∀ y ∈ a.Chains, (y.length ≤ maxLen ∧ ∀ z ∈ y, WSigned z)) ∧ (a.Forks.length ≤ maxLen ∧ ∀ y ∈ a.Forks, WFork y)
theorem decKnown (r : List PV) (hr : Sh.hasAll [.list [.list [.int .i64, .int .i64, .int .i64, .int .i64, .int .i64, .int .i64, .int .i64, .int .i64, .list [.int .i64], .int .i64, .list [.int .i64], .int .i64, .int .i64, .list [.int .i64], .int .i64, .bool, .list [.int .i64, .int .i64]]], .list [.int .i64, .int .i64, .int .i64, .int .i64, .int .i64, .int .i64, .int .i64, .int .i64, .list [.int .i64], .int .i64, .list [.int .i64], .int .i64, .int .i64, .list [.int .i64], .int .i64, .bool, .list [.int .i64, .int .i64], .int .i64, .int .i64, .int .i64, .int .i64, .int .i64, .int .i64, .int .i64, .int .i64, .list [.int .i64], .int .i64, .list [.int .i64], .int .i64, .int .i64, .list [.int .i64], .int .i64, .bool, .list [.int .i64, .int .i64], .int .i64, .int .i64, .int .i64, .int .i64, .int .i64, .int .i64, .int .i64, .int .i64, .list [.int .i64], .int .i64, .list [.int .i64], .int .i64, .int .i64, .list [.int .i64], .int .i64, .bool, .list [.int .i64, .int .i64]]] r) : ∃ a : GKnown, r = eKnown a ∧ WKnown a := by
  obtain ⟨p1, r1, rfl, h1, hr1⟩ := all_cons hr
  obtain ⟨n1, rfl, g1⟩ := decSignedSS h1
  obtain ⟨p2, rfl, h2⟩ := all_one hr1
  obtain ⟨n2, rfl, g2⟩ := decForkS h2
  exact ⟨⟨n1, n2⟩, rfl, ⟨g1, g2⟩⟩
theorem laws_szKnown_n (a : GKnown) (left : Int) (hw : WKnown a) (h2 : 0 ≤ left) (h3 : left ≤ 1048576) (k) : call laws_szKnown [.agg (eKnown a), .one (I left)] k = k [I (szr (mKnown a) left)] := call_of (fun k => by
  obtain ⟨g0, g1⟩ := hw
  unfold mKnown
  simp only [laws_szKnown, un, cur0, laws_szSignedSS_n a.Chains (left) g0 h2 h3, binP_lss, iteP_eq, atP_zero, rt_eq, scs_sc, scs_nil, flat_int, true_and, and_true]
  by_cases c0 : ((mSignedSS a.Chains : Nat) : Int) ≤ left
  rotate_left
  · first | (simp [szr_over c0, szr_not c0]; done) | (simp only [szr_over c0, szr_not c0]; simp)
  simp only [szr_yes c0, szr_add c0, show ¬ (left - ((mSignedSS a.Chains : Nat) : Int) < 0) by omega, decide_false, Bool.false_eq_true, if_false, laws_szForkS_n a.Forks (left - ((mSignedSS a.Chains : Nat) : Int)) g1 (by omega) (by omega), binP_lss, iteP_eq, atP_zero, rt_eq, scs_sc, scs_nil, flat_int, true_and, and_true]
  by_cases c1 : ((mForkS a.Forks : Nat) : Int) ≤ left - ((mSignedSS a.Chains : Nat) : Int)
  rotate_left
  · first | (simp [szr_not c1, szr_not c1]; done) | (simp only [szr_not c1, szr_not c1]; simp)
  simp only [szr_yes c1, show ¬ (left - ((mSignedSS a.Chains : Nat) : Int) - ((mForkS a.Forks : Nat) : Int) < 0) by omega, decide_false, Bool.false_eq_true, if_false, binP_lss, iteP_eq, atP_zero, rt_eq, scs_sc, scs_nil, flat_int, true_and, and_true]) k
theorem laws_toKnown_n (a : GKnown) (h : mKnown a ≤ 1048576) (k) : call laws_toKnown [.agg (eKnown a)] k = k (eKnown a) := call_of (fun k => by
  unfold mKnown at h
  simp [laws_toKnown, laws_toSignedSS_n a.Chains (by omega), laws_toForkS_n a.Forks (by omega)]) k
theorem laws_eqKnown_n (a : GKnown) (h : mKnown a ≤ 1048576) (k) : call laws_eqKnown [.agg (eKnown a), .agg (eKnown a)] k = k [.bool true] := call_of (fun k => by
  unfold mKnown at h
  simp [laws_eqKnown, laws_eqSignedSS_n a.Chains (by omega), laws_eqForkS_n a.Forks (by omega)]) k
def mZoneS (l : List GZone) : Nat := l.length + sumN mZone l
theorem decZoneS {p : PV} (h : Sh.has (.list [.list [.int .i64, .int .i64, .int .i64, .int .i64, .int .i64, .int .i64, .int .i64, .int .i64, .list [.int .i64], .int .i64, .list [.int .i64], .int .i64, .int .i64, .list [.int .i64], .int .i64, .bool, .list [.int .i64, .int .i64]], .list [.str, .int .i64, .int .i64, .list [.str]]]) p) : ∃ l : List GZone, p = .list 2 (l.map eZone) ∧ (l.length ≤ maxLen ∧ ∀ y ∈ l, WZone y) := by
  obtain ⟨l, h1, h2, h3⟩ := has_map decZone 2 rfl h
  exact ⟨l, h1, h2, h3⟩
theorem laws_szZoneS_n (l : List GZone) (left : Int) (hw : (l.length ≤ maxLen ∧ ∀ y ∈ l, WZone y)) (h2 : 0 ≤ left) (h3 : left ≤ 1048576) (k) : call laws_szZoneS [.one (.list 2 (l.map eZone)), .one (I left)] k = k [I (szr (mZoneS l) left)] := call_of (fun k => by
  simp only [laws_szZoneS, lenP_eq, List.length_map, binP_sub, wr_left hw.1 h2 h3, binP_lss, iteP_eq, rt_eq, scs_sc, scs_nil, flat_int, true_and, and_true]
  unfold mZoneS
  by_cases c : (l.length : Int) ≤ left
  rotate_left
  · simp [szr_over c, show left - (l.length : Int) < 0 by omega]
  simp only [szr_add c, show ¬ (left - (l.length : Int) < 0) by omega, decide_false, Bool.false_eq_true, if_false]
  refine (lp_sz (neg := k [I (-1)]) (fin := fun t => k [I t]) l eZone 2 mZone (left - (l.length : Int)) (I 0) (by omega) (by omega) rfl (fun i x hx hi t ht1 ht2 K => ?_) fun t K => ?_).trans ?_
  · have e := laws_szZone_n x t (hw.2 x (List.mem_of_getElem? hx)) ht1 ht2
    simp [-getElem?_pos, laws_szZoneS_r0, hx, hi, e, wr_succ (show i < 1000000000000000000 by omega)]
    by_cases hs : ((mZone x : Nat) : Int) ≤ t
    · simp [szr_yes hs, hs, show ¬ (t - ((mZone x : Nat) : Int) < 0) by omega]
    · simp [szr_not hs, hs]
  · simp [laws_szZoneS_r0]
  · by_cases hs : ((sumN mZone l : Nat) : Int) ≤ left - (l.length : Int)
    · simp [szr_yes hs, hs]
    · simp [szr_not hs, hs]) k
theorem laws_toZoneS_n (l : List GZone) (h : mZoneS l ≤ 1048576) (k) : call laws_toZoneS [.one (.list 2 (l.map eZone))] k = k [.list 2 (l.map eZone)] := call_of (fun k => by
  have hm := h
  unfold mZoneS at hm
  simp [laws_toZoneS, show l.length < 1073741824 by omega]
  refine lp_toS l eZone eZone [.list 17 [], .list 4 []] 2 2 (.list 2 []) rfl (fun i x hx hi K rows hr hz => ?_) fun K => ?_
  · have hs : mZone x ≤ sumN mZone l := sumN_mem (s := mZone) (List.mem_of_getElem? hx)
    simp [-getElem?_pos, laws_toZoneS_r0, hx, hi, hr, hz, over, laws_toZone_n x (by omega), wr_succ (show i < 1000000000000000000 by omega)]
  · simp [laws_toZoneS_r0]) k
theorem laws_eqZoneS_n (l : List GZone) (h : mZoneS l ≤ 1048576) (k) : call laws_eqZoneS [.one (.list 2 (l.map eZone)), .one (.list 2 (l.map eZone))] k = k [.bool true] := call_of (fun k => by
  have hm := h
  unfold mZoneS at hm
  simp [laws_eqZoneS]
  refine lp_eqS l eZone 2 (.bool false) rfl (fun i x hx hi K => ?_) fun K => ?_
  · have hs : mZone x ≤ sumN mZone l := sumN_mem (s := mZone) (List.mem_of_getElem? hx)
    simp [-getElem?_pos, laws_eqZoneS_r0, hx, hi, laws_eqZone_n x (by omega), wr_succ (show i < 1000000000000000000 by omega)]
  · simp [laws_eqZoneS_r0]) k
structure GServer where
  Zones : List GZone
  Lie : Int
abbrev eServer (a : GServer) : List PV := [.list 2 (a.Zones.map eZone), I a.Lie]
def mServer (a : GServer) : Nat := mZoneS a.Zones
def WServer (a : GServer) : Prop := (a.Zones.length ≤ maxLen ∧ ∀ y ∈ a.Zones, WZone y)
theorem decServer (r : List PV) (hr : Sh.hasAll [.list [.list [.int .i64, .int .i64, .int .i64, .int .i64, .int .i64, .int .i64, .int .i64, .int .i64, .list [.int .i64], .int .i64, .list [.int .i64], .int .i64, .int .i64, .list [.int .i64], .int .i64, .bool, .list [.int .i64, .int .i64]], .list [.str, .int .i64, .int .i64, .list [.str]]], .int .i64] r) : ∃ a : GServer, r = eServer a ∧ WServer a := by
  obtain ⟨p1, r1, rfl, h1, hr1⟩ := all_cons hr
  obtain ⟨n1, rfl, g1⟩ := decZoneS h1
  obtain ⟨p2, rfl, h2⟩ := all_one hr1
  obtain ⟨n2, rfl⟩ := has_int h2
  exact ⟨⟨n1, n2⟩, rfl, g1⟩
theorem laws_szServer_n (a : GServer) (left : Int) (hw : WServer a) (h2 : 0 ≤ left) (h3 : left ≤ 1048576) (k) : call laws_szServer [.agg (eServer a), .one (I left)] k = k [I (szr (mServer a) left)] := call_of (fun k => by
  have g0 := hw
  unfold mServer
  simp only [laws_szServer, un, cur0, laws_szZoneS_n a.Zones (left) g0 h2 h3, binP_lss, iteP_eq, atP_zero, rt_eq, scs_sc, scs_nil, flat_int, true_and, and_true]
  by_cases c0 : ((mZoneS a.Zones : Nat) : Int) ≤ left
  rotate_left
  · first | (simp [szr_not c0, szr_not c0]; done) | (simp only [szr_not c0, szr_not c0]; simp)
  simp only [szr_yes c0, show ¬ (left - ((mZoneS a.Zones : Nat) : Int) < 0) by omega, decide_false, Bool.false_eq_true, if_false, binP_lss, iteP_eq, atP_zero, rt_eq, scs_sc, scs_nil, flat_int, true_and, and_true]) k
theorem laws_toServer_n (a : GServer) (h : mServer a ≤ 1048576) (k) : call laws_toServer [.agg (eServer a)] k = k (eServer a) := call_of (fun k => by
  unfold mServer at h
  simp [laws_toServer, laws_toZoneS_n a.Zones (by omega)]) k
theorem laws_eqServer_n (a : GServer) (h : mServer a ≤ 1048576) (k) : call laws_eqServer [.agg (eServer a), .agg (eServer a)] k = k [.bool true] := call_of (fun k => by
  unfold mServer at h
  simp [laws_eqServer, laws_eqZoneS_n a.Zones (by omega)]) k
structure GStored where
  Zone : Int
  Label : ByteArray
  Answer : GAnswer
abbrev eStored (a : GStored) : List PV := [I a.Zone, .str a.Label, .list 17 (a.Answer.Chain.map eSigned), .bool a.Answer.Found, .str a.Answer.Entry.Label, I a.Answer.Entry.Kind, I a.Answer.Entry.Value, strs a.Answer.Entry.Path, I a.Answer.Proof.At, ints a.Answer.Proof.Path, I a.Answer.Gap.At, .str a.Answer.Gap.Before.Label, I a.Answer.Gap.Before.Kind, I a.Answer.Gap.Before.Value, strs a.Answer.Gap.Before.Path, .str a.Answer.Gap.After.Label, I a.Answer.Gap.After.Kind, I a.Answer.Gap.After.Value, strs a.Answer.Gap.After.Path, I a.Answer.Gap.Left.At, ints a.Answer.Gap.Left.Path, I a.Answer.Gap.Right.At, ints a.Answer.Gap.Right.Path]
def mStored (a : GStored) : Nat := a.Label.size + (mAnswer a.Answer)
def WStored (a : GStored) : Prop := a.Label.size ≤ maxLen ∧ WAnswer a.Answer
theorem decStored (r : List PV) (hr : Sh.hasAll [.int .i64, .str, .list [.int .i64, .int .i64, .int .i64, .int .i64, .int .i64, .int .i64, .int .i64, .int .i64, .list [.int .i64], .int .i64, .list [.int .i64], .int .i64, .int .i64, .list [.int .i64], .int .i64, .bool, .list [.int .i64, .int .i64]], .bool, .str, .int .i64, .int .i64, .list [.str], .int .i64, .list [.int .i64], .int .i64, .str, .int .i64, .int .i64, .list [.str], .str, .int .i64, .int .i64, .list [.str], .int .i64, .list [.int .i64], .int .i64, .list [.int .i64]] r) : ∃ a : GStored, r = eStored a ∧ WStored a := by
  obtain ⟨p1, r1, rfl, h1, hr1⟩ := all_cons hr
  obtain ⟨n1, rfl⟩ := has_int h1
  obtain ⟨p2, r2, rfl, h2, hr2⟩ := all_cons hr1
  obtain ⟨n2, rfl, g2⟩ := has_str h2
  obtain ⟨p3, r3, rfl, h3, hr3⟩ := all_cons hr2
  obtain ⟨n3, rfl, g3⟩ := decSignedS h3
  obtain ⟨p4, r4, rfl, h4, hr4⟩ := all_cons hr3
  obtain ⟨n4, rfl⟩ := has_bool h4
  obtain ⟨p5, r5, rfl, h5, hr5⟩ := all_cons hr4
  obtain ⟨n5, rfl, g5⟩ := has_str h5
  obtain ⟨p6, r6, rfl, h6, hr6⟩ := all_cons hr5
  obtain ⟨n6, rfl⟩ := has_int h6
  obtain ⟨p7, r7, rfl, h7, hr7⟩ := all_cons hr6
  obtain ⟨n7, rfl⟩ := has_int h7
  obtain ⟨p8, r8, rfl, h8, hr8⟩ := all_cons hr7
  obtain ⟨n8, rfl, g8⟩ := has_strs h8
  obtain ⟨p9, r9, rfl, h9, hr9⟩ := all_cons hr8
  obtain ⟨n9, rfl⟩ := has_int h9
  obtain ⟨p10, r10, rfl, h10, hr10⟩ := all_cons hr9
  obtain ⟨n10, rfl, g10⟩ := has_ints h10
  obtain ⟨p11, r11, rfl, h11, hr11⟩ := all_cons hr10
  obtain ⟨n11, rfl⟩ := has_int h11
  obtain ⟨p12, r12, rfl, h12, hr12⟩ := all_cons hr11
  obtain ⟨n12, rfl, g12⟩ := has_str h12
  obtain ⟨p13, r13, rfl, h13, hr13⟩ := all_cons hr12
  obtain ⟨n13, rfl⟩ := has_int h13
  obtain ⟨p14, r14, rfl, h14, hr14⟩ := all_cons hr13
  obtain ⟨n14, rfl⟩ := has_int h14
  obtain ⟨p15, r15, rfl, h15, hr15⟩ := all_cons hr14
  obtain ⟨n15, rfl, g15⟩ := has_strs h15
  obtain ⟨p16, r16, rfl, h16, hr16⟩ := all_cons hr15
  obtain ⟨n16, rfl, g16⟩ := has_str h16
  obtain ⟨p17, r17, rfl, h17, hr17⟩ := all_cons hr16
  obtain ⟨n17, rfl⟩ := has_int h17
  obtain ⟨p18, r18, rfl, h18, hr18⟩ := all_cons hr17
  obtain ⟨n18, rfl⟩ := has_int h18
  obtain ⟨p19, r19, rfl, h19, hr19⟩ := all_cons hr18
  obtain ⟨n19, rfl, g19⟩ := has_strs h19
  obtain ⟨p20, r20, rfl, h20, hr20⟩ := all_cons hr19
  obtain ⟨n20, rfl⟩ := has_int h20
  obtain ⟨p21, r21, rfl, h21, hr21⟩ := all_cons hr20
  obtain ⟨n21, rfl, g21⟩ := has_ints h21
  obtain ⟨p22, r22, rfl, h22, hr22⟩ := all_cons hr21
  obtain ⟨n22, rfl⟩ := has_int h22
  obtain ⟨p23, rfl, h23⟩ := all_one hr22
  obtain ⟨n23, rfl, g23⟩ := has_ints h23
  exact ⟨⟨n1, n2, ⟨n3, n4, ⟨n5, n6, n7, n8⟩, ⟨n9, n10⟩, ⟨n11, ⟨n12, n13, n14, n15⟩, ⟨n16, n17, n18, n19⟩, ⟨n20, n21⟩, ⟨n22, n23⟩⟩⟩⟩, rfl, ⟨g2, ⟨g3, ⟨g5, g8⟩, g10, ⟨⟨g12, g15⟩, ⟨g16, g19⟩, g21, g23⟩⟩⟩⟩
theorem laws_szStored_n (a : GStored) (left : Int) (hw : WStored a) (h2 : 0 ≤ left) (h3 : left ≤ 1048576) (k) : call laws_szStored [.agg (eStored a), .one (I left)] k = k [I (szr (mStored a) left)] := call_of (fun k => by
  obtain ⟨g0, g1⟩ := hw
  unfold mStored
  simp only [laws_szStored, un, cur0, lenS_eq, binP_sub, wr_left (left := left) g0 h2 h3, binP_lss, iteP_eq, atP_zero, rt_eq, scs_sc, scs_nil, flat_int, true_and, and_true]
  by_cases c0 : ((a.Label.size : Nat) : Int) ≤ left
  rotate_left
  · first | (simp [szr_over c0, show left - ((a.Label.size : Nat) : Int) < 0 by omega]; done) | (simp only [szr_over c0, show left - ((a.Label.size : Nat) : Int) < 0 by omega]; simp)
  simp only [szr_yes c0, szr_add c0, show ¬ (left - ((a.Label.size : Nat) : Int) < 0) by omega, decide_false, Bool.false_eq_true, if_false, laws_szAnswer_n a.Answer (left - ((a.Label.size : Nat) : Int)) g1 (by omega) (by omega), binP_lss, iteP_eq, atP_zero, rt_eq, scs_sc, scs_nil, flat_int, true_and, and_true]
  by_cases c1 : ((mAnswer a.Answer : Nat) : Int) ≤ left - ((a.Label.size : Nat) : Int)
  rotate_left
  · first | (simp [szr_not c1, szr_not c1]; done) | (simp only [szr_not c1, szr_not c1]; simp)
  simp only [szr_yes c1, show ¬ (left - ((a.Label.size : Nat) : Int) - ((mAnswer a.Answer : Nat) : Int) < 0) by omega, decide_false, Bool.false_eq_true, if_false, binP_lss, iteP_eq, atP_zero, rt_eq, scs_sc, scs_nil, flat_int, true_and, and_true]) k
theorem laws_toStored_n (a : GStored) (h : mStored a ≤ 1048576) (k) : call laws_toStored [.agg (eStored a)] k = k (eStored a) := call_of (fun k => by
  unfold mStored at h
  simp [laws_toStored, laws_toAnswer_n a.Answer (by omega)]) k
theorem laws_eqStored_n (a : GStored) (h : mStored a ≤ 1048576) (k) : call laws_eqStored [.agg (eStored a), .agg (eStored a)] k = k [.bool true] := call_of (fun k => by
  unfold mStored at h
  simp [laws_eqStored, laws_eqAnswer_n a.Answer (by omega)]) k
def mStoredS (l : List GStored) : Nat := l.length + sumN mStored l
theorem decStoredS {p : PV} (h : Sh.has (.list [.int .i64, .str, .list [.int .i64, .int .i64, .int .i64, .int .i64, .int .i64, .int .i64, .int .i64, .int .i64, .list [.int .i64], .int .i64, .list [.int .i64], .int .i64, .int .i64, .list [.int .i64], .int .i64, .bool, .list [.int .i64, .int .i64]], .bool, .str, .int .i64, .int .i64, .list [.str], .int .i64, .list [.int .i64], .int .i64, .str, .int .i64, .int .i64, .list [.str], .str, .int .i64, .int .i64, .list [.str], .int .i64, .list [.int .i64], .int .i64, .list [.int .i64]]) p) : ∃ l : List GStored, p = .list 23 (l.map eStored) ∧ (l.length ≤ maxLen ∧ ∀ y ∈ l, WStored y) := by
  obtain ⟨l, h1, h2, h3⟩ := has_map decStored 23 rfl h
  exact ⟨l, h1, h2, h3⟩
theorem laws_szStoredS_n (l : List GStored) (left : Int) (hw : (l.length ≤ maxLen ∧ ∀ y ∈ l, WStored y)) (h2 : 0 ≤ left) (h3 : left ≤ 1048576) (k) : call laws_szStoredS [.one (.list 23 (l.map eStored)), .one (I left)] k = k [I (szr (mStoredS l) left)] := call_of (fun k => by
  simp only [laws_szStoredS, lenP_eq, List.length_map, binP_sub, wr_left hw.1 h2 h3, binP_lss, iteP_eq, rt_eq, scs_sc, scs_nil, flat_int, true_and, and_true]
  unfold mStoredS
  by_cases c : (l.length : Int) ≤ left
  rotate_left
  · simp [szr_over c, show left - (l.length : Int) < 0 by omega]
  simp only [szr_add c, show ¬ (left - (l.length : Int) < 0) by omega, decide_false, Bool.false_eq_true, if_false]
  refine (lp_sz (neg := k [I (-1)]) (fin := fun t => k [I t]) l eStored 23 mStored (left - (l.length : Int)) (I 0) (by omega) (by omega) rfl (fun i x hx hi t ht1 ht2 K => ?_) fun t K => ?_).trans ?_
  · have e := laws_szStored_n x t (hw.2 x (List.mem_of_getElem? hx)) ht1 ht2
    simp [-getElem?_pos, laws_szStoredS_r0, hx, hi, e, wr_succ (show i < 1000000000000000000 by omega)]
    by_cases hs : ((mStored x : Nat) : Int) ≤ t
    · simp [szr_yes hs, hs, show ¬ (t - ((mStored x : Nat) : Int) < 0) by omega]
    · simp [szr_not hs, hs]
  · simp [laws_szStoredS_r0]
  · by_cases hs : ((sumN mStored l : Nat) : Int) ≤ left - (l.length : Int)
    · simp [szr_yes hs, hs]
    · simp [szr_not hs, hs]) k
theorem laws_toStoredS_n (l : List GStored) (h : mStoredS l ≤ 1048576) (k) : call laws_toStoredS [.one (.list 23 (l.map eStored))] k = k [.list 23 (l.map eStored)] := call_of (fun k => by
  have hm := h
  unfold mStoredS at hm
  simp [laws_toStoredS, show l.length < 1073741824 by omega]
  refine lp_toS l eStored eStored [I 0, .str ⟨#[]⟩, .list 17 [], .bool false, .str ⟨#[]⟩, I 0, I 0, .list 1 [], I 0, .list 1 [], I 0, .str ⟨#[]⟩, I 0, I 0, .list 1 [], .str ⟨#[]⟩, I 0, I 0, .list 1 [], I 0, .list 1 [], I 0, .list 1 []] 23 23 (.list 23 []) rfl (fun i x hx hi K rows hr hz => ?_) fun K => ?_
  · have hs : mStored x ≤ sumN mStored l := sumN_mem (s := mStored) (List.mem_of_getElem? hx)
    simp [-getElem?_pos, laws_toStoredS_r0, hx, hi, hr, hz, over, laws_toStored_n x (by omega), wr_succ (show i < 1000000000000000000 by omega)]
  · simp [laws_toStoredS_r0]) k
theorem laws_eqStoredS_n (l : List GStored) (h : mStoredS l ≤ 1048576) (k) : call laws_eqStoredS [.one (.list 23 (l.map eStored)), .one (.list 23 (l.map eStored))] k = k [.bool true] := call_of (fun k => by
  have hm := h
  unfold mStoredS at hm
  simp [laws_eqStoredS]
  refine lp_eqS l eStored 23 (.bool false) rfl (fun i x hx hi K => ?_) fun K => ?_
  · have hs : mStored x ≤ sumN mStored l := sumN_mem (s := mStored) (List.mem_of_getElem? hx)
    simp [-getElem?_pos, laws_eqStoredS_r0, hx, hi, laws_eqStored_n x (by omega), wr_succ (show i < 1000000000000000000 by omega)]
  · simp [laws_eqStoredS_r0]) k
structure GCache where
  Lst : List GStored
abbrev eCache (a : GCache) : List PV := [.list 23 (a.Lst.map eStored)]
def mCache (a : GCache) : Nat := mStoredS a.Lst
def WCache (a : GCache) : Prop := (a.Lst.length ≤ maxLen ∧ ∀ y ∈ a.Lst, WStored y)
theorem decCache (r : List PV) (hr : Sh.hasAll [.list [.int .i64, .str, .list [.int .i64, .int .i64, .int .i64, .int .i64, .int .i64, .int .i64, .int .i64, .int .i64, .list [.int .i64], .int .i64, .list [.int .i64], .int .i64, .int .i64, .list [.int .i64], .int .i64, .bool, .list [.int .i64, .int .i64]], .bool, .str, .int .i64, .int .i64, .list [.str], .int .i64, .list [.int .i64], .int .i64, .str, .int .i64, .int .i64, .list [.str], .str, .int .i64, .int .i64, .list [.str], .int .i64, .list [.int .i64], .int .i64, .list [.int .i64]]] r) : ∃ a : GCache, r = eCache a ∧ WCache a := by
  obtain ⟨p1, rfl, h1⟩ := all_one hr
  obtain ⟨n1, rfl, g1⟩ := decStoredS h1
  exact ⟨⟨n1⟩, rfl, g1⟩
theorem laws_szCache_n (a : GCache) (left : Int) (hw : WCache a) (h2 : 0 ≤ left) (h3 : left ≤ 1048576) (k) : call laws_szCache [.agg (eCache a), .one (I left)] k = k [I (szr (mCache a) left)] := call_of (fun k => by
  have g0 := hw
  unfold mCache
  simp only [laws_szCache, un, cur0, laws_szStoredS_n a.Lst (left) g0 h2 h3, binP_lss, iteP_eq, atP_zero, rt_eq, scs_sc, scs_nil, flat_int, true_and, and_true]
  by_cases c0 : ((mStoredS a.Lst : Nat) : Int) ≤ left
  rotate_left
  · first | (simp [szr_not c0, szr_not c0]; done) | (simp only [szr_not c0, szr_not c0]; simp)
  simp only [szr_yes c0, show ¬ (left - ((mStoredS a.Lst : Nat) : Int) < 0) by omega, decide_false, Bool.false_eq_true, if_false, binP_lss, iteP_eq, atP_zero, rt_eq, scs_sc, scs_nil, flat_int, true_and, and_true]) k
theorem laws_toCache_n (a : GCache) (h : mCache a ≤ 1048576) (k) : call laws_toCache [.agg (eCache a)] k = k (eCache a) := call_of (fun k => by
  unfold mCache at h
  simp [laws_toCache, laws_toStoredS_n a.Lst (by omega)]) k
theorem laws_eqCache_n (a : GCache) (h : mCache a ≤ 1048576) (k) : call laws_eqCache [.agg (eCache a), .agg (eCache a)] k = k [.bool true] := call_of (fun k => by
  unfold mCache at h
  simp [laws_eqCache, laws_eqStoredS_n a.Lst (by omega)]) k
structure GActor where
  Held : List Int
abbrev eActor (a : GActor) : List PV := [ints a.Held]
def mActor (a : GActor) : Nat := a.Held.length
def WActor (a : GActor) : Prop := a.Held.length ≤ maxLen
theorem decActor (r : List PV) (hr : Sh.hasAll [.list [.int .i64]] r) : ∃ a : GActor, r = eActor a ∧ WActor a := by
  obtain ⟨p1, rfl, h1⟩ := all_one hr
  obtain ⟨n1, rfl, g1⟩ := has_ints h1
  exact ⟨⟨n1⟩, rfl, g1⟩
theorem laws_szActor_n (a : GActor) (left : Int) (hw : WActor a) (h2 : 0 ≤ left) (h3 : left ≤ 1048576) (k) : call laws_szActor [.agg (eActor a), .one (I left)] k = k [I (szr (mActor a) left)] := call_of (fun k => by
  have g0 := hw
  unfold mActor
  simp only [laws_szActor, un, cur0, laws_szIntS_n a.Held (left) g0 h2 h3, binP_lss, iteP_eq, atP_zero, rt_eq, scs_sc, scs_nil, flat_int, true_and, and_true]
  by_cases c0 : ((a.Held.length : Nat) : Int) ≤ left
  rotate_left
  · first | (simp [szr_not c0, szr_not c0]; done) | (simp only [szr_not c0, szr_not c0]; simp)
  simp only [szr_yes c0, show ¬ (left - ((a.Held.length : Nat) : Int) < 0) by omega, decide_false, Bool.false_eq_true, if_false, binP_lss, iteP_eq, atP_zero, rt_eq, scs_sc, scs_nil, flat_int, true_and, and_true]) k
theorem laws_toActor_n (a : GActor) (h : mActor a ≤ 1048576) (k) : call laws_toActor [.agg (eActor a)] k = k (eActor a) := call_of (fun k => by
  unfold mActor at h
  simp [laws_toActor, laws_toIntS_n a.Held (by omega)]) k
theorem laws_eqActor_n (a : GActor) (h : mActor a ≤ 1048576) (k) : call laws_eqActor [.agg (eActor a), .agg (eActor a)] k = k [.bool true] := call_of (fun k => by
  unfold mActor at h
  simp [laws_eqActor, laws_eqIntS_n a.Held (by omega)]) k
structure GSaid where
  Zone : GZone
  Held : List Int
abbrev eSaid (a : GSaid) : List PV := [.list 17 (a.Zone.Chain.map eSigned), .list 4 (a.Zone.Entries.map eEntry), ints a.Held]
def mSaid (a : GSaid) : Nat := mZone a.Zone + (a.Held.length)
def WSaid (a : GSaid) : Prop := WZone a.Zone ∧ a.Held.length ≤ maxLen
theorem decSaid (r : List PV) (hr : Sh.hasAll [.list [.int .i64, .int .i64, .int .i64, .int .i64, .int .i64, .int .i64, .int .i64, .int .i64, .list [.int .i64], .int .i64, .list [.int .i64], .int .i64, .int .i64, .list [.int .i64], .int .i64, .bool, .list [.int .i64, .int .i64]], .list [.str, .int .i64, .int .i64, .list [.str]], .list [.int .i64]] r) : ∃ a : GSaid, r = eSaid a ∧ WSaid a := by
  obtain ⟨p1, r1, rfl, h1, hr1⟩ := all_cons hr
  obtain ⟨n1, rfl, g1⟩ := decSignedS h1
  obtain ⟨p2, r2, rfl, h2, hr2⟩ := all_cons hr1
  obtain ⟨n2, rfl, g2⟩ := decEntryS h2
  obtain ⟨p3, rfl, h3⟩ := all_one hr2
  obtain ⟨n3, rfl, g3⟩ := has_ints h3
  exact ⟨⟨⟨n1, n2⟩, n3⟩, rfl, ⟨⟨g1, g2⟩, g3⟩⟩
theorem laws_szSaid_n (a : GSaid) (left : Int) (hw : WSaid a) (h2 : 0 ≤ left) (h3 : left ≤ 1048576) (k) : call laws_szSaid [.agg (eSaid a), .one (I left)] k = k [I (szr (mSaid a) left)] := call_of (fun k => by
  obtain ⟨g0, g1⟩ := hw
  unfold mSaid
  simp only [laws_szSaid, un, cur0, laws_szZone_n a.Zone (left) g0 h2 h3, binP_lss, iteP_eq, atP_zero, rt_eq, scs_sc, scs_nil, flat_int, true_and, and_true]
  by_cases c0 : ((mZone a.Zone : Nat) : Int) ≤ left
  rotate_left
  · first | (simp [szr_over c0, szr_not c0]; done) | (simp only [szr_over c0, szr_not c0]; simp)
  simp only [szr_yes c0, szr_add c0, show ¬ (left - ((mZone a.Zone : Nat) : Int) < 0) by omega, decide_false, Bool.false_eq_true, if_false, laws_szIntS_n a.Held (left - ((mZone a.Zone : Nat) : Int)) g1 (by omega) (by omega), binP_lss, iteP_eq, atP_zero, rt_eq, scs_sc, scs_nil, flat_int, true_and, and_true]
  by_cases c1 : ((a.Held.length : Nat) : Int) ≤ left - ((mZone a.Zone : Nat) : Int)
  rotate_left
  · first | (simp [szr_not c1, szr_not c1]; done) | (simp only [szr_not c1, szr_not c1]; simp)
  simp only [szr_yes c1, show ¬ (left - ((mZone a.Zone : Nat) : Int) - ((a.Held.length : Nat) : Int) < 0) by omega, decide_false, Bool.false_eq_true, if_false, binP_lss, iteP_eq, atP_zero, rt_eq, scs_sc, scs_nil, flat_int, true_and, and_true]) k
theorem laws_toSaid_n (a : GSaid) (h : mSaid a ≤ 1048576) (k) : call laws_toSaid [.agg (eSaid a)] k = k (eSaid a) := call_of (fun k => by
  unfold mSaid at h
  simp [laws_toSaid, laws_toZone_n a.Zone (by omega), laws_toIntS_n a.Held (by omega)]) k
theorem laws_eqSaid_n (a : GSaid) (h : mSaid a ≤ 1048576) (k) : call laws_eqSaid [.agg (eSaid a), .agg (eSaid a)] k = k [.bool true] := call_of (fun k => by
  unfold mSaid at h
  simp [laws_eqSaid, laws_eqZone_n a.Zone (by omega), laws_eqIntS_n a.Held (by omega)]) k
def mActorS (l : List GActor) : Nat := l.length + sumN mActor l
theorem decActorS {p : PV} (h : Sh.has (.list [.list [.int .i64]]) p) : ∃ l : List GActor, p = .list 1 (l.map eActor) ∧ (l.length ≤ maxLen ∧ ∀ y ∈ l, WActor y) := by
  obtain ⟨l, h1, h2, h3⟩ := has_map decActor 1 rfl h
  exact ⟨l, h1, h2, h3⟩
theorem laws_szActorS_n (l : List GActor) (left : Int) (hw : (l.length ≤ maxLen ∧ ∀ y ∈ l, WActor y)) (h2 : 0 ≤ left) (h3 : left ≤ 1048576) (k) : call laws_szActorS [.one (.list 1 (l.map eActor)), .one (I left)] k = k [I (szr (mActorS l) left)] := call_of (fun k => by
  simp only [laws_szActorS, lenP_eq, List.length_map, binP_sub, wr_left hw.1 h2 h3, binP_lss, iteP_eq, rt_eq, scs_sc, scs_nil, flat_int, true_and, and_true]
  unfold mActorS
  by_cases c : (l.length : Int) ≤ left
  rotate_left
  · simp [szr_over c, show left - (l.length : Int) < 0 by omega]
  simp only [szr_add c, show ¬ (left - (l.length : Int) < 0) by omega, decide_false, Bool.false_eq_true, if_false]
  refine (lp_sz (neg := k [I (-1)]) (fin := fun t => k [I t]) l eActor 1 mActor (left - (l.length : Int)) (I 0) (by omega) (by omega) rfl (fun i x hx hi t ht1 ht2 K => ?_) fun t K => ?_).trans ?_
  · have e := laws_szActor_n x t (hw.2 x (List.mem_of_getElem? hx)) ht1 ht2
    simp [-getElem?_pos, laws_szActorS_r0, hx, hi, e, wr_succ (show i < 1000000000000000000 by omega)]
    by_cases hs : ((mActor x : Nat) : Int) ≤ t
    · simp [szr_yes hs, hs, show ¬ (t - ((mActor x : Nat) : Int) < 0) by omega]
    · simp [szr_not hs, hs]
  · simp [laws_szActorS_r0]
  · by_cases hs : ((sumN mActor l : Nat) : Int) ≤ left - (l.length : Int)
    · simp [szr_yes hs, hs]
    · simp [szr_not hs, hs]) k
theorem laws_toActorS_n (l : List GActor) (h : mActorS l ≤ 1048576) (k) : call laws_toActorS [.one (.list 1 (l.map eActor))] k = k [.list 1 (l.map eActor)] := call_of (fun k => by
  have hm := h
  unfold mActorS at hm
  simp [laws_toActorS, show l.length < 1073741824 by omega]
  refine lp_toS l eActor eActor [.list 1 []] 1 1 (.list 1 []) rfl (fun i x hx hi K rows hr hz => ?_) fun K => ?_
  · have hs : mActor x ≤ sumN mActor l := sumN_mem (s := mActor) (List.mem_of_getElem? hx)
    simp [-getElem?_pos, laws_toActorS_r0, hx, hi, hr, hz, over, laws_toActor_n x (by omega), wr_succ (show i < 1000000000000000000 by omega)]
  · simp [laws_toActorS_r0]) k
theorem laws_eqActorS_n (l : List GActor) (h : mActorS l ≤ 1048576) (k) : call laws_eqActorS [.one (.list 1 (l.map eActor)), .one (.list 1 (l.map eActor))] k = k [.bool true] := call_of (fun k => by
  have hm := h
  unfold mActorS at hm
  simp [laws_eqActorS]
  refine lp_eqS l eActor 1 (.bool false) rfl (fun i x hx hi K => ?_) fun K => ?_
  · have hs : mActor x ≤ sumN mActor l := sumN_mem (s := mActor) (List.mem_of_getElem? hx)
    simp [-getElem?_pos, laws_eqActorS_r0, hx, hi, laws_eqActor_n x (by omega), wr_succ (show i < 1000000000000000000 by omega)]
  · simp [laws_eqActorS_r0]) k
def mSaidS (l : List GSaid) : Nat := l.length + sumN mSaid l
theorem decSaidS {p : PV} (h : Sh.has (.list [.list [.int .i64, .int .i64, .int .i64, .int .i64, .int .i64, .int .i64, .int .i64, .int .i64, .list [.int .i64], .int .i64, .list [.int .i64], .int .i64, .int .i64, .list [.int .i64], .int .i64, .bool, .list [.int .i64, .int .i64]], .list [.str, .int .i64, .int .i64, .list [.str]], .list [.int .i64]]) p) : ∃ l : List GSaid, p = .list 3 (l.map eSaid) ∧ (l.length ≤ maxLen ∧ ∀ y ∈ l, WSaid y) := by
  obtain ⟨l, h1, h2, h3⟩ := has_map decSaid 3 rfl h
  exact ⟨l, h1, h2, h3⟩
theorem laws_szSaidS_n (l : List GSaid) (left : Int) (hw : (l.length ≤ maxLen ∧ ∀ y ∈ l, WSaid y)) (h2 : 0 ≤ left) (h3 : left ≤ 1048576) (k) : call laws_szSaidS [.one (.list 3 (l.map eSaid)), .one (I left)] k = k [I (szr (mSaidS l) left)] := call_of (fun k => by
  simp only [laws_szSaidS, lenP_eq, List.length_map, binP_sub, wr_left hw.1 h2 h3, binP_lss, iteP_eq, rt_eq, scs_sc, scs_nil, flat_int, true_and, and_true]
  unfold mSaidS
  by_cases c : (l.length : Int) ≤ left
  rotate_left
  · simp [szr_over c, show left - (l.length : Int) < 0 by omega]
  simp only [szr_add c, show ¬ (left - (l.length : Int) < 0) by omega, decide_false, Bool.false_eq_true, if_false]
  refine (lp_sz (neg := k [I (-1)]) (fin := fun t => k [I t]) l eSaid 3 mSaid (left - (l.length : Int)) (I 0) (by omega) (by omega) rfl (fun i x hx hi t ht1 ht2 K => ?_) fun t K => ?_).trans ?_
  · have e := laws_szSaid_n x t (hw.2 x (List.mem_of_getElem? hx)) ht1 ht2
    simp [-getElem?_pos, laws_szSaidS_r0, hx, hi, e, wr_succ (show i < 1000000000000000000 by omega)]
    by_cases hs : ((mSaid x : Nat) : Int) ≤ t
    · simp [szr_yes hs, hs, show ¬ (t - ((mSaid x : Nat) : Int) < 0) by omega]
    · simp [szr_not hs, hs]
  · simp [laws_szSaidS_r0]
  · by_cases hs : ((sumN mSaid l : Nat) : Int) ≤ left - (l.length : Int)
    · simp [szr_yes hs, hs]
    · simp [szr_not hs, hs]) k
theorem laws_toSaidS_n (l : List GSaid) (h : mSaidS l ≤ 1048576) (k) : call laws_toSaidS [.one (.list 3 (l.map eSaid))] k = k [.list 3 (l.map eSaid)] := call_of (fun k => by
  have hm := h
  unfold mSaidS at hm
  simp [laws_toSaidS, show l.length < 1073741824 by omega]
  refine lp_toS l eSaid eSaid [.list 17 [], .list 4 [], .list 1 []] 3 3 (.list 3 []) rfl (fun i x hx hi K rows hr hz => ?_) fun K => ?_
  · have hs : mSaid x ≤ sumN mSaid l := sumN_mem (s := mSaid) (List.mem_of_getElem? hx)
    simp [-getElem?_pos, laws_toSaidS_r0, hx, hi, hr, hz, over, laws_toSaid_n x (by omega), wr_succ (show i < 1000000000000000000 by omega)]
  · simp [laws_toSaidS_r0]) k
theorem laws_eqSaidS_n (l : List GSaid) (h : mSaidS l ≤ 1048576) (k) : call laws_eqSaidS [.one (.list 3 (l.map eSaid)), .one (.list 3 (l.map eSaid))] k = k [.bool true] := call_of (fun k => by
  have hm := h
  unfold mSaidS at hm
  simp [laws_eqSaidS]
  refine lp_eqS l eSaid 3 (.bool false) rfl (fun i x hx hi K => ?_) fun K => ?_
  · have hs : mSaid x ≤ sumN mSaid l := sumN_mem (s := mSaid) (List.mem_of_getElem? hx)
    simp [-getElem?_pos, laws_eqSaidS_r0, hx, hi, laws_eqSaid_n x (by omega), wr_succ (show i < 1000000000000000000 by omega)]
  · simp [laws_eqSaidS_r0]) k
def mServerS (l : List GServer) : Nat := l.length + sumN mServer l
theorem decServerS {p : PV} (h : Sh.has (.list [.list [.list [.int .i64, .int .i64, .int .i64, .int .i64, .int .i64, .int .i64, .int .i64, .int .i64, .list [.int .i64], .int .i64, .list [.int .i64], .int .i64, .int .i64, .list [.int .i64], .int .i64, .bool, .list [.int .i64, .int .i64]], .list [.str, .int .i64, .int .i64, .list [.str]]], .int .i64]) p) : ∃ l : List GServer, p = .list 2 (l.map eServer) ∧ (l.length ≤ maxLen ∧ ∀ y ∈ l, WServer y) := by
  obtain ⟨l, h1, h2, h3⟩ := has_map decServer 2 rfl h
  exact ⟨l, h1, h2, h3⟩
theorem laws_szServerS_n (l : List GServer) (left : Int) (hw : (l.length ≤ maxLen ∧ ∀ y ∈ l, WServer y)) (h2 : 0 ≤ left) (h3 : left ≤ 1048576) (k) : call laws_szServerS [.one (.list 2 (l.map eServer)), .one (I left)] k = k [I (szr (mServerS l) left)] := call_of (fun k => by
  simp only [laws_szServerS, lenP_eq, List.length_map, binP_sub, wr_left hw.1 h2 h3, binP_lss, iteP_eq, rt_eq, scs_sc, scs_nil, flat_int, true_and, and_true]
  unfold mServerS
  by_cases c : (l.length : Int) ≤ left
  rotate_left
  · simp [szr_over c, show left - (l.length : Int) < 0 by omega]
  simp only [szr_add c, show ¬ (left - (l.length : Int) < 0) by omega, decide_false, Bool.false_eq_true, if_false]
  refine (lp_sz (neg := k [I (-1)]) (fin := fun t => k [I t]) l eServer 2 mServer (left - (l.length : Int)) (I 0) (by omega) (by omega) rfl (fun i x hx hi t ht1 ht2 K => ?_) fun t K => ?_).trans ?_
  · have e := laws_szServer_n x t (hw.2 x (List.mem_of_getElem? hx)) ht1 ht2
    simp [-getElem?_pos, laws_szServerS_r0, hx, hi, e, wr_succ (show i < 1000000000000000000 by omega)]
    by_cases hs : ((mServer x : Nat) : Int) ≤ t
    · simp [szr_yes hs, hs, show ¬ (t - ((mServer x : Nat) : Int) < 0) by omega]
    · simp [szr_not hs, hs]
  · simp [laws_szServerS_r0]
  · by_cases hs : ((sumN mServer l : Nat) : Int) ≤ left - (l.length : Int)
    · simp [szr_yes hs, hs]
    · simp [szr_not hs, hs]) k
theorem laws_toServerS_n (l : List GServer) (h : mServerS l ≤ 1048576) (k) : call laws_toServerS [.one (.list 2 (l.map eServer))] k = k [.list 2 (l.map eServer)] := call_of (fun k => by
  have hm := h
  unfold mServerS at hm
  simp [laws_toServerS, show l.length < 1073741824 by omega]
  refine lp_toS l eServer eServer [.list 2 [], I 0] 2 2 (.list 2 []) rfl (fun i x hx hi K rows hr hz => ?_) fun K => ?_
  · have hs : mServer x ≤ sumN mServer l := sumN_mem (s := mServer) (List.mem_of_getElem? hx)
    simp [-getElem?_pos, laws_toServerS_r0, hx, hi, hr, hz, over, laws_toServer_n x (by omega), wr_succ (show i < 1000000000000000000 by omega)]
  · simp [laws_toServerS_r0]) k
theorem laws_eqServerS_n (l : List GServer) (h : mServerS l ≤ 1048576) (k) : call laws_eqServerS [.one (.list 2 (l.map eServer)), .one (.list 2 (l.map eServer))] k = k [.bool true] := call_of (fun k => by
  have hm := h
  unfold mServerS at hm
  simp [laws_eqServerS]
  refine lp_eqS l eServer 2 (.bool false) rfl (fun i x hx hi K => ?_) fun K => ?_
  · have hs : mServer x ≤ sumN mServer l := sumN_mem (s := mServer) (List.mem_of_getElem? hx)
    simp [-getElem?_pos, laws_eqServerS_r0, hx, hi, laws_eqServer_n x (by omega), wr_succ (show i < 1000000000000000000 by omega)]
  · simp [laws_eqServerS_r0]) k
structure GWorld where
  Now : Int
  Actors : List GActor
  Zones : List GZone
  Said : List GSaid
  Servers : List GServer
  Known : GKnown
  Cache : GCache
abbrev eWorld (a : GWorld) : List PV := [I a.Now, .list 1 (a.Actors.map eActor), .list 2 (a.Zones.map eZone), .list 3 (a.Said.map eSaid), .list 2 (a.Servers.map eServer), .list 1 (a.Known.Chains.map (fun l : List GSigned => [.list 17 (l.map eSigned)])), .list 51 (a.Known.Forks.map eFork), .list 23 (a.Cache.Lst.map eStored)]
def mWorld (a : GWorld) : Nat := mActorS a.Actors + (mZoneS a.Zones + (mSaidS a.Said + (mServerS a.Servers + (mKnown a.Known + (mCache a.Cache)))))
def WWorld (a : GWorld) : Prop := (a.Actors.length ≤ maxLen ∧ ∀ y ∈ a.Actors, WActor y) ∧ (a.Zones.length ≤ maxLen ∧ ∀ y ∈ a.Zones, WZone y) ∧ (a.Said.length ≤ maxLen ∧ ∀ y ∈ a.Said, WSaid y) ∧ (a.Servers.length ≤ maxLen ∧ ∀ y ∈ a.Servers, WServer y) ∧ WKnown a.Known ∧ WCache a.Cache
theorem decWorld (r : List PV) (hr : Sh.hasAll [.int .i64, .list [.list [.int .i64]], .list [.list [.int .i64, .int .i64, .int .i64, .int .i64, .int .i64, .int .i64, .int .i64, .int .i64, .list [.int .i64], .int .i64, .list [.int .i64], .int .i64, .int .i64, .list [.int .i64], .int .i64, .bool, .list [.int .i64, .int .i64]], .list [.str, .int .i64, .int .i64, .list [.str]]], .list [.list [.int .i64, .int .i64, .int .i64, .int .i64, .int .i64, .int .i64, .int .i64, .int .i64, .list [.int .i64], .int .i64, .list [.int .i64], .int .i64, .int .i64, .list [.int .i64], .int .i64, .bool, .list [.int .i64, .int .i64]], .list [.str, .int .i64, .int .i64, .list [.str]], .list [.int .i64]], .list [.list [.list [.int .i64, .int .i64, .int .i64, .int .i64, .int .i64, .int .i64, .int .i64, .int .i64, .list [.int .i64], .int .i64, .list [.int .i64], .int .i64, .int .i64, .list [.int .i64], .int .i64, .bool, .list [.int .i64, .int .i64]], .list [.str, .int .i64, .int .i64, .list [.str]]], .int .i64], .list [.list [.int .i64, .int .i64, .int .i64, .int .i64, .int .i64, .int .i64, .int .i64, .int .i64, .list [.int .i64], .int .i64, .list [.int .i64], .int .i64, .int .i64, .list [.int .i64], .int .i64, .bool, .list [.int .i64, .int .i64]]], .list [.int .i64, .int .i64, .int .i64, .int .i64, .int .i64, .int .i64, .int .i64, .int .i64, .list [.int .i64], .int .i64, .list [.int .i64], .int .i64, .int .i64, .list [.int .i64], .int .i64, .bool, .list [.int .i64, .int .i64], .int .i64, .int .i64, .int .i64, .int .i64, .int .i64, .int .i64, .int .i64, .int .i64, .list [.int .i64], .int .i64, .list [.int .i64], .int .i64, .int .i64, .list [.int .i64], .int .i64, .bool, .list [.int .i64, .int .i64], .int .i64, .int .i64, .int .i64, .int .i64, .int .i64, .int .i64, .int .i64, .int .i64, .list [.int .i64], .int .i64, .list [.int .i64], .int .i64, .int .i64, .list [.int .i64], .int .i64, .bool, .list [.int .i64, .int .i64]], .list [.int .i64, .str, .list [.int .i64, .int .i64, .int .i64, .int .i64, .int .i64, .int .i64, .int .i64, .int .i64, .list [.int .i64], .int .i64, .list [.int .i64], .int .i64, .int .i64, .list [.int .i64], .int .i64, .bool, .list [.int .i64, .int .i64]], .bool, .str, .int .i64, .int .i64, .list [.str], .int .i64, .list [.int .i64], .int .i64, .str, .int .i64, .int .i64, .list [.str], .str, .int .i64, .int .i64, .list [.str], .int .i64, .list [.int .i64], .int .i64, .list [.int .i64]]] r) : ∃ a : GWorld, r = eWorld a ∧ WWorld a := by
  obtain ⟨p1, r1, rfl, h1, hr1⟩ := all_cons hr
  obtain ⟨n1, rfl⟩ := has_int h1
  obtain ⟨p2, r2, rfl, h2, hr2⟩ := all_cons hr1
  obtain ⟨n2, rfl, g2⟩ := decActorS h2
  obtain ⟨p3, r3, rfl, h3, hr3⟩ := all_cons hr2
  obtain ⟨n3, rfl, g3⟩ := decZoneS h3
  obtain ⟨p4, r4, rfl, h4, hr4⟩ := all_cons hr3
  obtain ⟨n4, rfl, g4⟩ := decSaidS h4
  obtain ⟨p5, r5, rfl, h5, hr5⟩ := all_cons hr4
  obtain ⟨n5, rfl, g5⟩ := decServerS h5
  obtain ⟨p6, r6, rfl, h6, hr6⟩ := all_cons hr5
  obtain ⟨n6, rfl, g6⟩ := decSignedSS h6
  obtain ⟨p7, r7, rfl, h7, hr7⟩ := all_cons hr6
  obtain ⟨n7, rfl, g7⟩ := decForkS h7
  obtain ⟨p8, rfl, h8⟩ := all_one hr7
  obtain ⟨n8, rfl, g8⟩ := decStoredS h8
  exact ⟨⟨n1, n2, n3, n4, n5, ⟨n6, n7⟩, ⟨n8⟩⟩, rfl, ⟨g2, g3, g4, g5, ⟨g6, g7⟩, g8⟩⟩
theorem laws_szWorld_n (a : GWorld) (left : Int) (hw : WWorld a) (h2 : 0 ≤ left) (h3 : left ≤ 1048576) (k) : call laws_szWorld [.agg (eWorld a), .one (I left)] k = k [I (szr (mWorld a) left)] := call_of (fun k => by
  obtain ⟨g0, g1, g2, g3, g4, g5⟩ := hw
  unfold mWorld
  simp only [laws_szWorld, un, cur0, laws_szActorS_n a.Actors (left) g0 h2 h3, binP_lss, iteP_eq, atP_zero, rt_eq, scs_sc, scs_nil, flat_int, true_and, and_true]
  by_cases c0 : ((mActorS a.Actors : Nat) : Int) ≤ left
  rotate_left
  · first | (simp [szr_over c0, szr_not c0]; done) | (simp only [szr_over c0, szr_not c0]; simp)
  simp only [szr_yes c0, szr_add c0, show ¬ (left - ((mActorS a.Actors : Nat) : Int) < 0) by omega, decide_false, Bool.false_eq_true, if_false, laws_szZoneS_n a.Zones (left - ((mActorS a.Actors : Nat) : Int)) g1 (by omega) (by omega), binP_lss, iteP_eq, atP_zero, rt_eq, scs_sc, scs_nil, flat_int, true_and, and_true]
  by_cases c1 : ((mZoneS a.Zones : Nat) : Int) ≤ left - ((mActorS a.Actors : Nat) : Int)
  rotate_left
  · first | (simp [szr_over c1, szr_not c1]; done) | (simp only [szr_over c1, szr_not c1]; simp)
  simp only [szr_yes c1, szr_add c1, show ¬ (left - ((mActorS a.Actors : Nat) : Int) - ((mZoneS a.Zones : Nat) : Int) < 0) by omega, decide_false, Bool.false_eq_true, if_false, laws_szSaidS_n a.Said (left - ((mActorS a.Actors : Nat) : Int) - ((mZoneS a.Zones : Nat) : Int)) g2 (by omega) (by omega), binP_lss, iteP_eq, atP_zero, rt_eq, scs_sc, scs_nil, flat_int, true_and, and_true]
  by_cases c2 : ((mSaidS a.Said : Nat) : Int) ≤ left - ((mActorS a.Actors : Nat) : Int) - ((mZoneS a.Zones : Nat) : Int)
  rotate_left
  · first | (simp [szr_over c2, szr_not c2]; done) | (simp only [szr_over c2, szr_not c2]; simp)
  simp only [szr_yes c2, szr_add c2, show ¬ (left - ((mActorS a.Actors : Nat) : Int) - ((mZoneS a.Zones : Nat) : Int) - ((mSaidS a.Said : Nat) : Int) < 0) by omega, decide_false, Bool.false_eq_true, if_false, laws_szServerS_n a.Servers (left - ((mActorS a.Actors : Nat) : Int) - ((mZoneS a.Zones : Nat) : Int) - ((mSaidS a.Said : Nat) : Int)) g3 (by omega) (by omega), binP_lss, iteP_eq, atP_zero, rt_eq, scs_sc, scs_nil, flat_int, true_and, and_true]
  by_cases c3 : ((mServerS a.Servers : Nat) : Int) ≤ left - ((mActorS a.Actors : Nat) : Int) - ((mZoneS a.Zones : Nat) : Int) - ((mSaidS a.Said : Nat) : Int)
  rotate_left
  · first | (simp [szr_over c3, szr_not c3]; done) | (simp only [szr_over c3, szr_not c3]; simp)
  simp only [szr_yes c3, szr_add c3, show ¬ (left - ((mActorS a.Actors : Nat) : Int) - ((mZoneS a.Zones : Nat) : Int) - ((mSaidS a.Said : Nat) : Int) - ((mServerS a.Servers : Nat) : Int) < 0) by omega, decide_false, Bool.false_eq_true, if_false, laws_szKnown_n a.Known (left - ((mActorS a.Actors : Nat) : Int) - ((mZoneS a.Zones : Nat) : Int) - ((mSaidS a.Said : Nat) : Int) - ((mServerS a.Servers : Nat) : Int)) g4 (by omega) (by omega), binP_lss, iteP_eq, atP_zero, rt_eq, scs_sc, scs_nil, flat_int, true_and, and_true]
  by_cases c4 : ((mKnown a.Known : Nat) : Int) ≤ left - ((mActorS a.Actors : Nat) : Int) - ((mZoneS a.Zones : Nat) : Int) - ((mSaidS a.Said : Nat) : Int) - ((mServerS a.Servers : Nat) : Int)
  rotate_left
  · first | (simp [szr_over c4, szr_not c4]; done) | (simp only [szr_over c4, szr_not c4]; simp)
  simp only [szr_yes c4, szr_add c4, show ¬ (left - ((mActorS a.Actors : Nat) : Int) - ((mZoneS a.Zones : Nat) : Int) - ((mSaidS a.Said : Nat) : Int) - ((mServerS a.Servers : Nat) : Int) - ((mKnown a.Known : Nat) : Int) < 0) by omega, decide_false, Bool.false_eq_true, if_false, laws_szCache_n a.Cache (left - ((mActorS a.Actors : Nat) : Int) - ((mZoneS a.Zones : Nat) : Int) - ((mSaidS a.Said : Nat) : Int) - ((mServerS a.Servers : Nat) : Int) - ((mKnown a.Known : Nat) : Int)) g5 (by omega) (by omega), binP_lss, iteP_eq, atP_zero, rt_eq, scs_sc, scs_nil, flat_int, true_and, and_true]
  by_cases c5 : ((mCache a.Cache : Nat) : Int) ≤ left - ((mActorS a.Actors : Nat) : Int) - ((mZoneS a.Zones : Nat) : Int) - ((mSaidS a.Said : Nat) : Int) - ((mServerS a.Servers : Nat) : Int) - ((mKnown a.Known : Nat) : Int)
  rotate_left
  · first | (simp [szr_not c5, szr_not c5]; done) | (simp only [szr_not c5, szr_not c5]; simp)
  simp only [szr_yes c5, show ¬ (left - ((mActorS a.Actors : Nat) : Int) - ((mZoneS a.Zones : Nat) : Int) - ((mSaidS a.Said : Nat) : Int) - ((mServerS a.Servers : Nat) : Int) - ((mKnown a.Known : Nat) : Int) - ((mCache a.Cache : Nat) : Int) < 0) by omega, decide_false, Bool.false_eq_true, if_false, binP_lss, iteP_eq, atP_zero, rt_eq, scs_sc, scs_nil, flat_int, true_and, and_true]) k
theorem laws_toWorld_n (a : GWorld) (h : mWorld a ≤ 1048576) (k) : call laws_toWorld [.agg (eWorld a)] k = k (eWorld a) := call_of (fun k => by
  unfold mWorld at h
  simp [laws_toWorld, laws_toActorS_n a.Actors (by omega), laws_toZoneS_n a.Zones (by omega), laws_toSaidS_n a.Said (by omega), laws_toServerS_n a.Servers (by omega), laws_toKnown_n a.Known (by omega), laws_toCache_n a.Cache (by omega)]) k
theorem laws_eqWorld_n (a : GWorld) (h : mWorld a ≤ 1048576) (k) : call laws_eqWorld [.agg (eWorld a), .agg (eWorld a)] k = k [.bool true] := call_of (fun k => by
  unfold mWorld at h
  simp [laws_eqWorld, laws_eqActorS_n a.Actors (by omega), laws_eqZoneS_n a.Zones (by omega), laws_eqSaidS_n a.Said (by omega), laws_eqServerS_n a.Servers (by omega), laws_eqKnown_n a.Known (by omega), laws_eqCache_n a.Cache (by omega)]) k
end Go.Ev
set_option linter.unusedVariables false
set_option linter.unusedSimpArgs false
set_option maxRecDepth 4000
namespace Go.Ev
open Go.Proofs
def inR (n a b : Int) : Bool := decide (a ≤ n) && decide (n ≤ b)
theorem impl_InRange_n (n a b : Int) (k) : call impl_InRange [.one (I n), .one (I a), .one (I b)] k = k [.bool (inR n a b)] := call_of (fun k => by
  simp [impl_InRange, inR]; split <;> simp [*]) k
theorem spec_l1In_n (n a b : Int) (k) : call spec_l1In [.one (I n), .one (I a), .one (I b)] k = k [.bool (inR n a b)] := call_of (fun k => by
  simp [spec_l1In, inR]; split <;> simp [*]) k
def sMod (n m : Int) : Int := if inR m 1 1000000000000 = true then (wr (n.tmod m + m)).tmod m else 0
theorem impl_Mod_n (n m : Int) (k) : call impl_Mod [.one (I n), .one (I m)] k = k [I (sMod n m)] := call_of (fun k => by
  simp [impl_Mod, sMod, impl_InRange_n]
  cases h : inR m 1 1000000000000
  · simp
  · have : m ≠ 0 := by simp [inR] at h; omega
    simp [this]) k
theorem spec_Mod_n (n m : Int) (k) : call spec_Mod [.one (I n), .one (I m)] k = k [I (sMod n m)] := call_of (fun k => by
  simp [spec_Mod, sMod, spec_l1In_n]
  cases h : inR m 1 1000000000000
  · simp
  · have : m ≠ 0 := by simp [inR] at h; omega
    simp [this]) k
def hashStep (acc v : Int) : Int := (wr (wr (wr (acc * 1000003) + sMod v 2147483647) + 13)).tmod 2147483647
def sHash (l : List Int) : Int := l.foldl hashStep 11
theorem impl_Hash_n (l : List Int) (hl : l.length < 1000000000000000000) (k) : call impl_Hash [.one (ints l)] k = k [I (sHash l)] := call_of (fun k => by
  simp [impl_Hash]
  refine lp_list l (fun i => [I 0, I ((l.take i).foldl hashStep 11), ints l, I l.length, I i]) rfl (fun i x hx hi K => ?_) fun K => ?_
  · simp [-getElem?_pos, impl_Hash_r0, hi, hx, impl_Mod_n, take_snoc hx, wr_succ (show i < 1000000000000000000 by omega), hashStep]
  · simp [impl_Hash_r0, sHash]) k
theorem spec_Hash_n (l : List Int) (hl : l.length < 1000000000000000000) (k) : call spec_Hash [.one (ints l)] k = k [I (sHash l)] := call_of (fun k => by
  simp [spec_Hash]
  refine lp_list l (fun i => [ints l, I 0, I ((l.take i).foldl hashStep 11), I i]) rfl (fun i x hx hi K => ?_) fun K => ?_
  · simp [-getElem?_pos, spec_Hash_r0, hi, hx, spec_Mod_n, take_snoc hx, wr_succ (show i < 1000000000000000000 by omega), hashStep]
  · simp [spec_Hash_r0, sHash]) k
def b2i (b : UInt8) : Int := b.toNat
def sB2I (s : List UInt8) : List Int := (s.length : Int) :: s.map b2i
def sLabelInts (s : ByteArray) : List Int := sB2I s.data.toList
theorem sLabelInts_len (s : ByteArray) : (sLabelInts s).length = s.size + 1 := by simp [sLabelInts, sB2I]
def sBucketOf (s : ByteArray) : Int := (sHash (sLabelInts s)).tmod 4
abbrev actors (l : List GActor) : PV := .list 1 (l.map eActor)
theorem mem_get {α : Type} {l : List α} {i : Nat} {x : α} (h : l[i]? = some x) : x ∈ l := List.mem_of_getElem? h
abbrev eqI (x y : Int) : Bool := decide (x = y)
theorem eqI_comm (n : Int) : (fun x => eqI x n) = eqI n := by funext x; exact decide_eq_decide.mpr eq_comm
theorem wr_pred {i : Nat} (h0 : 0 < i) (h : i < 1000000000000000000) : IntKind.i64.wrap ((i : Int) - 1) = ((i - 1 : Nat) : Int) := by
  rw [wr_eq (by omega) (by omega)]; omega
theorem wr_last {n : Nat} (h : n < 1000000000000000000) : IntKind.i64.wrap ((n : Int) - 1) = (n : Int) - 1 := wr_eq (by omega) (by omega)
theorem getD_get {α : Type} {l : List α} {i : Nat} (d : α) (h : i < l.length) : l[i]? = some (l.getD i d) := by
  rw [List.getD_eq_getElem?_getD, List.getElem?_eq_getElem h]; rfl
def getI {α : Type} (l : List α) (i : Int) : Option α := if 0 ≤ i then l[i.toNat]? else none
theorem inR_get {α : Type} (l : List α) (i : Int) : inR i 0 ((l.length : Int) - 1) = (getI l i).isSome := by
  unfold inR getI
  by_cases h : 0 ≤ i
  · rw [if_pos h]
    by_cases h2 : i.toNat < l.length
    · rw [List.getElem?_eq_getElem h2]; simp [h]; omega
    · rw [List.getElem?_eq_none (by omega)]; simp [h]; omega
  · rw [if_neg h]; simp [h]
theorem getI_some {α : Type} {l : List α} {i : Int} {x : α} (h : getI l i = some x) : 0 ≤ i ∧ l[i.toNat]? = some x ∧ x ∈ l := by
  unfold getI at h
  split at h
  · rename_i h0; exact ⟨h0, h, List.mem_of_getElem? h⟩
  · cases h
def sIsActor (l : List GActor) (a : Int) : Bool := (getI l a).isSome
def at0 (l : List Int) (i : Nat) : Int := l.getD i 0
theorem at0_get {l : List Int} {i : Nat} (h : i < l.length) : l[i]? = some (at0 l i) := getD_get 0 h
def ascP (l : List Int) (i : Nat) (x : Int) : Bool := decide (0 < i) && decide (x ≤ at0 l (i - 1))
def sAsc (l : List Int) : Bool := !anyI (ascP l) 0 l
theorem impl_ascending_n (l : List Int) (h : l.length < 1073741824) (k) : call impl_ascending [.one (ints l)] k = k [.bool (sAsc l)] := call_of (fun k => by
  simp [impl_ascending]
  have := lp_anyIk (R := fun L w => impl_ascending_r0 w L (k [.bool false]) fun q8 q9 q10 q11 => k [.bool true]) k false l (fun i => [ints l, .bool false, I l.length, I i]) (ascP l) rfl (fun i x hx hi K => ?_) fun K => ?_
  · simpa [sAsc] using this
  · by_cases h0 : 0 < i
    · have hp := at0_get (l := l) (show i - 1 < l.length by omega)
      simp [-getElem?_pos, impl_ascending_r0, hx, hi, h0, wr_pred h0 (show i < 1000000000000000000 by omega), hp, wr_succ (show i < 1000000000000000000 by omega), ascP]
    · have h1 : i = 0 := by omega
      subst h1
      simp [-getElem?_pos, impl_ascending_r0, hi, ascP, wr_eq]
  · simp [impl_ascending_r0]) k
def isKeyB (x : Int) : Bool := inR x 1 99
theorem impl_isKey_n (x : Int) (k) : call impl_isKey [.one (I x)] k = k [.bool (isKeyB x)] := call_of (fun k => by simp [impl_isKey, impl_InRange_n, isKeyB]) k
def sIsKeys (a : GKeys) : Bool := inR a.Lst.length 1 4 && !(a.Lst.any (fun x => !isKeyB x) || !sAsc a.Lst) && inR a.Need 1 a.Lst.length
theorem spec_IsKeys_n (a : GKeys) (h : mKeys a ≤ 1048576) (k) : call spec_IsKeys [.agg [ints a.Lst, I a.Need]] k = k [.bool (sIsKeys a)] := call_of (fun k => by
  unfold mKeys at h
  simp [spec_IsKeys]
  refine (lp_anyI (P := k [.bool false]) (fin := k [.bool (inR a.Lst.length 1 4 && inR a.Need 1 a.Lst.length)]) a.Lst (fun j => [.bool false, I j, ints a.Lst, I a.Need]) (fun j y => !isKeyB y || ascP a.Lst j y) rfl (fun j y hy hj K => ?_) fun K => ?_).trans ?_
  · by_cases h0 : 0 < j
    · have hp := at0_get (l := a.Lst) (show j - 1 < a.Lst.length by omega)
      simp [-getElem?_pos, spec_IsKeys_r0, hy, hj, h0, spec_l1In_n, wr_pred h0 (show j < 1000000000000000000 by omega), hp, wr_succ (show j < 1000000000000000000 by omega), ascP, isKeyB]
      cases inR y 1 99 <;> simp
    · have h1 : j = 0 := by omega
      subst h1
      simp [-getElem?_pos, spec_IsKeys_r0, hy, hj, ascP, spec_l1In_n, isKeyB, wr_eq]
  · simp [spec_IsKeys_r0, spec_l1In_n]
    cases inR (a.Lst.length : Int) 1 4 <;> simp
  · rw [anyI_or, anyI_const]
    unfold sIsKeys sAsc
    generalize a.Lst.any (fun x => !isKeyB x) = b1
    generalize anyI (ascP a.Lst) 0 a.Lst = b2
    cases b1 <;> cases b2 <;> simp) k
theorem asc_mono {l : List Int} (h : sAsc l = true) : ∀ {j i : Nat} {x y : Int}, i < j → l[i]? = some x → l[j]? = some y → x < y := by
  have h1 : anyI (ascP l) 0 l = false := by unfold sAsc at h; simpa using h
  rw [anyI_false] at h1
  have step : ∀ {j : Nat} {x y : Int}, l[j]? = some x → l[j + 1]? = some y → x < y := by
    intro j x y hx hy
    have := h1 (j + 1) y hy
    simp [ascP] at this
    have h2 : at0 l j = x := by
      have := at0_get (lt_of_get hx)
      rw [hx] at this; injection this with this; exact this.symm
    rw [h2] at this
    omega
  intro j
  induction j with
  | zero => intro i x y hij; omega
  | succ j ih =>
    intro i x y hij hx hy
    have hj : j < l.length := by have := lt_of_get hy; omega
    have hz := List.getElem?_eq_getElem hj
    by_cases h2 : i = j
    · subst h2; exact step hx hy
    · have a1 := ih (i := i) (by omega) hx hz
      have a2 := step hz hy
      omega
theorem asc_range {l : List Int} (h : sAsc l = true) {x y : Int} (hx : l[0]? = some x) (hy : l[l.length - 1]? = some y) : (l.any fun z => !isKeyB z) = (!(isKeyB x && isKeyB y)) := by
  have hlast : ∀ {z : Int} {i : Nat}, l[i]? = some z → x ≤ z ∧ z ≤ y := by
    intro z i hz
    have hi := lt_of_get hz
    constructor
    · by_cases h0 : i = 0
      · subst h0; rw [hx] at hz; injection hz with hz; omega
      · have := asc_mono h (show 0 < i by omega) hx hz; omega
    · by_cases h0 : i = l.length - 1
      · subst h0; rw [hy] at hz; injection hz with hz; omega
      · have := asc_mono h (show i < l.length - 1 by omega) hz hy; omega
  cases hb : (isKeyB x && isKeyB y) with
  | true =>
    simp only [Bool.and_eq_true, isKeyB, inR, decide_eq_true_eq] at hb
    rw [Bool.not_true, List.any_eq_false]
    intro z hz
    obtain ⟨i, hi⟩ := List.mem_iff_getElem?.1 hz
    have := hlast hi
    simp [isKeyB, inR]; omega
  | false =>
    rw [Bool.not_false, List.any_eq_true]
    by_cases hk : isKeyB x = true
    · have hk2 : isKeyB y = false := by rw [hk] at hb; simpa using hb
      exact ⟨y, List.mem_of_getElem? hy, by simp [hk2]⟩
    · exact ⟨x, List.mem_of_getElem? hx, by simpa using hk⟩
theorem impl_IsKeys_n (a : GKeys) (h : mKeys a ≤ 1048576) (k) : call impl_IsKeys [.agg [ints a.Lst, I a.Need]] k = k [.bool (sIsKeys a)] := call_of (fun k => by
  unfold mKeys at h
  simp [impl_IsKeys, impl_InRange_n, sIsKeys]
  cases h1 : inR a.Lst.length 1 4 with
  | false => simp
  | true =>
    have h2 : 1 ≤ a.Lst.length := by unfold inR at h1; simp at h1; omega
    simp [impl_ascending_n a.Lst (by omega)]
    cases h3 : sAsc a.Lst with
    | false => simp
    | true =>
      have hx := at0_get (l := a.Lst) (show 0 < a.Lst.length by omega)
      have hy := at0_get (l := a.Lst) (show a.Lst.length - 1 < a.Lst.length by omega)
      have hr := asc_range h3 hx hy
      rw [hr]
      simp [-getElem?_pos, hx, hy, impl_isKey_n, wr_pred (show 0 < a.Lst.length by omega) (show a.Lst.length < 1000000000000000000 by omega)]
      cases isKeyB (at0 a.Lst 0) <;> cases isKeyB (at0 a.Lst (a.Lst.length - 1)) <;> simp) k
def sCanSign (a : GKeys) (held : List Int) : Bool := sIsKeys a && decide (a.Need ≤ (a.Lst.countP fun key => held.any (eqI key) : Nat))
def sSignersFor (p : GHead) (kind : Int) : GKeys := if kind = 1 then p.Keys else if kind = 2 then p.Heirs else if kind = 3 then p.Judge else ⟨[], 0⟩
def sCanSpeak (l : List GActor) (a : Int) (p : GHead) (kind : Int) : Bool := match getI l a with | some x => sCanSign (sSignersFor p kind) x.Held | none => false
theorem szSigners (p : GHead) (kind : Int) : mKeys (sSignersFor p kind) ≤ mHead p := by
  unfold sSignersFor mHead
  split
  · omega
  · split
    · omega
    · split
      · omega
      · simp [mKeys]
theorem sumN_take_succ {α : Type} (f : α → Nat) : ∀ (l : List α) (i : Nat) (x : α), l[i]? = some x → sumN f (l.take (i + 1)) = sumN f (l.take i) + f x
  | [], i, x, h => by simp at h
  | a :: l, 0, x, h => by simp at h; subst h; simp [sumN]
  | a :: l, i + 1, x, h => by
    have := sumN_take_succ f l i x (by simpa using h)
    simp only [List.take_succ_cons, sumN, this]; omega
theorem sumN_take_le {α : Type} (f : α → Nat) : ∀ (l : List α) (i : Nat), sumN f (l.take i) ≤ sumN f l
  | [], i => by simp
  | a :: l, 0 => by simp [sumN]
  | a :: l, i + 1 => by
    have := sumN_take_le f l i
    simp only [List.take_succ_cons, sumN]; omega
theorem flatten_take_len {α : Type} : ∀ (ls : List (List α)), ls.flatten.length = sumN List.length ls
  | [] => rfl
  | l :: ls => by simp [sumN, flatten_take_len ls]
theorem slices_Grow_int_F_nil_n (n : Int) (h0 : 0 ≤ n) (h : n < 1073741824) (k) : call slices_Grow_int_F_nil [.nil 3 1, .one (I n)] k = k [ints []] := call_of (fun k => by
  have w0 : IntKind.i64.wrap 0 = 0 := wr_eq (by omega) (by omega)
  have w1 : IntKind.i64.wrap n = n := wr_eq (by omega) (by omega)
  simp [slices_Grow_int_F_nil, w0, w1, show ¬ n < 0 by omega, natP, makeP, cutP]
  by_cases hn : 0 < n
  · simp [hn, h, h0, show n ≤ 1073741823 by omega, show 0 ≤ max n 0 by omega, ints]
  · simp [hn, ints]) k
theorem flatRows_ints (l : List Int) : flatRows (ints l) := by
  intro r hr p hp
  obtain ⟨x, _, rfl⟩ := List.mem_map.1 hr
  simp [rI] at hp
  subst hp; rfl
theorem slices_Concat_int_n (ls : List (List Int)) (h : ls.length + sumN List.length ls < 100000000) (k) : call slices_Concat_int [.one (.list 1 (ls.map fun l => [ints l]))] k = k [ints ls.flatten] := call_of (fun k => by
  simp only [slices_Concat_int, lenP_eq, List.length_map, atP_zero]
  let L : PV := .list 1 (ls.map fun l => [ints l])
  refine lp_list (fin := k [ints ls.flatten]) ls (fun i => [L, I ((sumN List.length (ls.take i) : Nat) : Int), L, I ls.length, I i, .list 1 []]) (by simp [sumN, L]) (fun i x hx hi K => ?_) (fun K => ?_)
  · have e1 := sumN_take_succ List.length ls i x hx
    have e2 := sumN_take_le List.length ls (i + 1)
    have w1 : IntKind.i64.wrap (((sumN List.length (ls.take i) : Nat) : Int) + (x.length : Int)) = ((sumN List.length (ls.take (i + 1)) : Nat) : Int) := by
      rw [e1]; rw [wr_eq (by omega) (by omega)]; omega
    simp [-getElem?_pos, slices_Concat_int_r0, hx, hi, L, w1, wr_succ (show i < 1000000000000000000 by omega), show ¬ (((sumN List.length (ls.take (i + 1)) : Nat) : Int) < 0) by omega]
  · simp only [slices_Concat_int_r0, un, cur0, binP_lss, iteP_eq, lenP_eq, L, List.take_length]
    simp [slices_Grow_int_F_nil_n ((sumN List.length ls : Nat) : Int) (by omega) (by omega)]
    refine lp_list (fin := k [ints ls.flatten]) ls (fun i => [L, I ((sumN List.length ls : Nat) : Int), L, I ls.length, I ls.length, L, I ls.length, I i, ints (ls.take i).flatten, .list 1 []]) (by simp [L]) (fun i x hx hi K => ?_) fun K => ?_
    · have e1 := sumN_take_succ List.length ls i x hx
      have e2 := sumN_take_le List.length ls (i + 1)
      have e3 : (ls.take (i + 1)).flatten = (ls.take i).flatten ++ x := by
        rw [List.take_add_one, hx]; simp
      have e4 := flatten_take_len (ls.take i)
      have e5 : (ls.take i).flatten.length + x.length < 1073741824 := by omega
      show _ ↔ K [L, I ((sumN List.length ls : Nat) : Int), L, I ls.length, I ls.length, L, I ls.length, I ((i + 1 : Nat) : Int), ints (ls.take (i + 1)).flatten, .list 1 []]
      rw [e3]
      generalize (ls.take i).flatten = A at e5
      rw [show ints (A ++ x) = PV.list 1 (A.map rI ++ x.map rI) by simp [ints]]
      simp [-getElem?_pos, slices_Concat_int_r1, hx, hi, L, flatRows_ints, catP, wr_succ (show i < 1000000000000000000 by omega), e5]
    · simp [slices_Concat_int_r1, L]) k
def keysInts (a : GKeys) : List Int := a.Need :: (a.Lst.length : Int) :: a.Lst
def bitI (b : Bool) : Int := if b = true then 1 else 0
def headInts (a : GHead) : List Int :=
  [a.Zone, a.Epoch, a.Kind, a.Time, a.Until, a.Count, a.Root, a.Prev] ++ (keysInts a.Keys ++ (keysInts a.Heirs ++ ([a.Wait] ++ (keysInts a.Judge ++ [bitI a.Frozen]))))
theorem app_len {α : Type} {l m r s : List α} (h : l.length = m.length) : l ++ r = m ++ s ↔ l = m ∧ r = s :=
  ⟨fun e => List.append_inj e h, fun ⟨a, b⟩ => by rw [a, b]⟩
theorem keysInts_inj {a b : GKeys} {r s : List Int} : keysInts a ++ r = keysInts b ++ s ↔ a = b ∧ r = s := by
  obtain ⟨l, n⟩ := a
  obtain ⟨m, q⟩ := b
  simp only [keysInts, List.cons_append, List.cons.injEq, GKeys.mk.injEq]
  constructor
  · rintro ⟨rfl, h1, h2⟩
    obtain ⟨rfl, rfl⟩ := (app_len (by omega)).1 h2
    exact ⟨⟨rfl, rfl⟩, rfl⟩
  · rintro ⟨⟨rfl, rfl⟩, rfl⟩; exact ⟨rfl, rfl, rfl⟩
theorem bitI_inj {a b : Bool} : bitI a = bitI b ↔ a = b := by cases a <;> cases b <;> simp [bitI]
theorem headInts_inj {a b : GHead} : headInts a = headInts b ↔ a = b := by
  obtain ⟨a1, a2, a3, a4, a5, a6, a7, a8, a9, a10, a11, a12, a13⟩ := a
  obtain ⟨b1, b2, b3, b4, b5, b6, b7, b8, b9, b10, b11, b12, b13⟩ := b
  simp only [headInts, List.cons_append, List.nil_append, List.cons.injEq, keysInts_inj, bitI_inj, GHead.mk.injEq, and_true]
theorem fc_int (n : Int) : flatCond [.pv (I 0)] [.pv (I n)] := by intro x hx; simp at hx; subst hx; rfl
theorem spec_KeysInts_n (a : GKeys) (h : mKeys a ≤ 1048576) (k) : call spec_KeysInts [.agg (eKeys a)] k = k [ints (keysInts a)] := call_of (fun k => by
  unfold mKeys at h
  simp [spec_KeysInts, keysInts, flatRows_ints, fc_int, catP, show 2 + a.Lst.length < 1073741824 by omega]
  exact Iff.rfl) k
theorem impl_KeysInts_n (a : GKeys) (h : mKeys a ≤ 1048576) (k) : call impl_KeysInts [.agg (eKeys a)] k = k [ints (keysInts a)] := call_of (fun k => by
  unfold mKeys at h
  simp [impl_KeysInts, keysInts, flatRows_ints, fc_int, catP, show 2 + a.Lst.length < 1073741824 by omega]
  exact Iff.rfl) k
theorem impl_bit_n (b : Bool) (k) : call impl_bit [.one (.bool b)] k = k [I (bitI b)] := call_of (fun k => by
  cases b <;> simp [impl_bit, bitI]) k
theorem keysInts_len (a : GKeys) : (keysInts a).length = 2 + a.Lst.length := by simp [keysInts]; omega
theorem fc_own (i : Nat) : flatCond [.nil 3 1] [.own i] := by intro x hx; simp at hx; subst hx; trivial
theorem impl_HeadInts_n (a : GHead) (h : mHead a ≤ 1048576) (k) : call impl_HeadInts [.agg (eHead a)] k = k [ints (headInts a)] := call_of (fun k => by
  unfold mHead at h
  have k1 := impl_KeysInts_n a.Keys (by omega)
  have k2 := impl_KeysInts_n a.Heirs (by omega)
  have k3 := impl_KeysInts_n a.Judge (by omega)
  have l1 := keysInts_len a.Keys
  have l2 := keysInts_len a.Heirs
  have l3 := keysInts_len a.Judge
  unfold mKeys at h
  have c := slices_Concat_int_n [[a.Zone, a.Epoch, a.Kind, a.Time, a.Until, a.Count, a.Root, a.Prev], keysInts a.Keys, keysInts a.Heirs, [a.Wait], keysInts a.Judge, [bitI a.Frozen]] (by
    simp only [sumN, List.length_cons, List.length_nil, l1, l2, l3]; omega) (fun o => k [atP o 0])
  simp only [impl_HeadInts, un, cur0, k1, k2, k3, impl_bit_n, fc_int, fc_own, atP_zero, true_and, and_true, rt_eq, scs_own, show (1 : Nat) ≤ 16777216 by omega, show (2 : Nat) ≤ 16777216 by omega, show (6 : Nat) ≤ 16777216 by omega, show (8 : Nat) ≤ 16777216 by omega, scs_nil]
  exact iff_of_eq c) k
theorem spec_HeadInts_n (a : GHead) (h : mHead a ≤ 1048576) (k) : call spec_HeadInts [.agg (eHead a)] k = k [ints (headInts a)] := call_of (fun k => by
  unfold mHead at h
  have k1 := spec_KeysInts_n a.Keys (by omega)
  have k2 := spec_KeysInts_n a.Heirs (by omega)
  have k3 := spec_KeysInts_n a.Judge (by omega)
  have l1 := keysInts_len a.Keys
  have l2 := keysInts_len a.Heirs
  have l3 := keysInts_len a.Judge
  unfold mKeys at h
  simp only [spec_HeadInts, un, cur0, k1, k2, k3, fc_int, atP_zero, true_and, and_true, rt_eq, show (8 : Nat) ≤ 16777216 by omega, scs_nil]
  have e : ints (headInts a) = PV.list 1 (([[I a.Zone], [I a.Epoch], [I a.Kind], [I a.Time], [I a.Until], [I a.Count], [I a.Root], [I a.Prev]] ++ ((keysInts a.Keys).map rI ++ ((keysInts a.Heirs).map rI ++ ([[I a.Wait]] ++ ((keysInts a.Judge).map rI ++ [[I (bitI a.Frozen)]])))))) := by
    simp [ints, headInts]
  rw [e]
  cases hf : a.Frozen <;> simp [catP, l1, l2, l3, fc_int, bitI]

  all_goals exact ⟨fun h => h.2.2.2.2.2, fun h => ⟨by omega, by omega, by omega, by omega, by omega, h⟩⟩) k
deriving instance DecidableEq for GKeys, GHead, GSig, GSigned, GFork, GEntry, GProof, GGap, GAnswer, GZone, GKnown, GServer, GActor, GSaid, GStored, GCache, GWorld
theorem listEq_dec {α : Type} [DecidableEq α] {eq : α → α → Bool} (h : ∀ x y, eq x y = decide (x = y)) : ∀ (l m : List α), listEq eq l m = decide (l = m)
  | [], [] => by simp [listEq]
  | [], y :: m => by simp [listEq]
  | x :: l, [] => by simp [listEq]
  | x :: l, y :: m => by rw [listEq, listEq_dec h l m, h]; simp [Bool.decide_and]
abbrev eqD {α : Type} [DecidableEq α] (x y : α) : Bool := decide (x = y)
theorem listEq_d {α : Type} [DecidableEq α] (l m : List α) : listEq eqD l m = decide (l = m) := listEq_dec (fun _ _ => rfl) l m
theorem len_ne {α : Type} [DecidableEq α] {l m : List α} (h : ¬ l.length = m.length) : decide (l = m) = false := by simp; intro e; subst e; exact h rfl
theorem slices_Equal_int_n (l m : List Int) (h : l.length < 1073741824) (k) : call slices_Equal_int [.one (ints l), .one (ints m)] k = k [.bool (decide (l = m))] := call_of (fun k => by
  simp [slices_Equal_int]
  by_cases hl : l.length = m.length
  · rw [← listEq_d]
    simp [hl]
    refine lp_zipk k l m (fun i => [ints l, ints m, .bool false, I m.length, I i]) eqD rfl hl (fun i x y hx hy hi hj K => ?_) fun K => ?_
    · simp [-getElem?_pos, slices_Equal_int_r0, hx, hy, hj, wr_succ (show i < 1000000000000000000 by omega)]
    · simp [slices_Equal_int_r0, hl]
  · simp [show ¬ (l.length : Int) = m.length by omega, len_ne hl]) k
theorem spec_EqualInts_n (l m : List Int) (h : l.length < 1073741824) (k) : call spec_EqualInts [.one (ints l), .one (ints m)] k = k [.bool (decide (l = m))] := call_of (fun k => by
  simp [spec_EqualInts]
  by_cases hl : l.length = m.length
  · rw [← listEq_d]
    simp [hl]
    refine lp_zipk k l m (fun i => [ints l, ints m, .bool false, I i]) eqD rfl hl (fun i x y hx hy hi hj K => ?_) fun K => ?_
    · simp [-getElem?_pos, spec_EqualInts_r0, hx, hy, hi, wr_succ (show i < 1000000000000000000 by omega)]
    · simp [spec_EqualInts_r0]
  · simp [show ¬ (l.length : Int) = m.length by omega, len_ne hl]) k
theorem impl_EqualKeys_n (a b : GKeys) (h : mKeys a ≤ 1048576) (k) : call impl_EqualKeys [.agg (eKeys a), .agg (eKeys b)] k = k [.bool (decide (a = b))] := call_of (fun k => by
  unfold mKeys at h
  obtain ⟨l, n⟩ := a
  obtain ⟨m, q⟩ := b
  simp [impl_EqualKeys, slices_Equal_int_n l m (by simp at h; omega)]
  by_cases hl : l = m <;> by_cases hn : n = q <;> simp [hl, hn, show (n == q) = decide (n = q) from rfl]) k
theorem headInts_len (a : GHead) : (headInts a).length = 16 + mHead a := by simp [headInts, keysInts, mHead, mKeys]; omega
theorem impl_EqualHeads_n (a b : GHead) (h : mHead a ≤ 1048576) (h' : mHead b ≤ 1048576) (k) : call impl_EqualHeads [.agg (eHead a), .agg (eHead b)] k = k [.bool (decide (a = b))] := call_of (fun k => by
  have i1 := impl_HeadInts_n a h
  have i2 := impl_HeadInts_n b h'
  have hl := headInts_len a
  have e := slices_Equal_int_n (headInts a) (headInts b) (by omega)
  unfold mHead at h
  have k1 := impl_EqualKeys_n a.Keys b.Keys (by omega)
  have k2 := impl_EqualKeys_n a.Heirs b.Heirs (by omega)
  have k3 := impl_EqualKeys_n a.Judge b.Judge (by omega)
  simp only [impl_EqualHeads, un, cur0, k1, k2, k3, i1, i2, e, atP_zero, iteP_eq, rt_eq, scs_sc, scs_nil, flat_bool, true_and, and_true, headInts_inj]
  by_cases hk : a = b
  · subst hk; simp
  · simp [hk]) k
theorem spec_EqualHeads_n (a b : GHead) (h : mHead a ≤ 1048576) (h' : mHead b ≤ 1048576) (k) : call spec_EqualHeads [.agg (eHead a), .agg (eHead b)] k = k [.bool (decide (a = b))] := call_of (fun k => by
  have i1 := spec_HeadInts_n a h
  have i2 := spec_HeadInts_n b h'
  have hl := headInts_len a
  have e := spec_EqualInts_n (headInts a) (headInts b) (by omega)
  simp only [spec_EqualHeads, un, cur0, i1, i2, e, atP_zero, iteP_eq, boolP, rt_eq, scs_sc, scs_nil, flat_bool, true_and, and_true, headInts_inj]
  by_cases hk : a = b
  · subst hk; simp
  · simp [hk]) k
abbrev sigs (l : List GSig) : PV := .list 2 (l.map eSig)
theorem spec_EqualInts_a_n (x y : GActor) (h : mActor x ≤ 1048576) (h' : mActor y ≤ 1048576) (k) : call spec_EqualInts [.one (ints x.Held), .one (ints y.Held)] k = k [.bool (decide (x = y))] := by
  unfold mActor at h h'
  obtain ⟨l⟩ := x
  obtain ⟨m⟩ := y
  simp only at h h'
  rw [spec_EqualInts_n l m (by omega)]
  simp
theorem flatRows_strs (l : List ByteArray) : flatRows (strs l) := by
  intro r hr p hp
  obtain ⟨x, _, rfl⟩ := List.mem_map.1 hr
  simp [rS] at hp
  subst hp; rfl
theorem spec_l6Copy_n (a : GKeys) (h : mKeys a ≤ 1048576) (k) : call spec_l6Copy [.agg (eKeys a)] k = k (eKeys a) := call_of (fun k => by
  unfold mKeys at h
  simp [spec_l6Copy, catP, show a.Lst.length < 1073741824 by omega]) k
theorem spec_l13Copy_n (a : GHead) (h : mHead a ≤ 1048576) (k) : call spec_l13Copy [.agg (eHead a)] k = k (eHead a) := call_of (fun k => by
  unfold mHead at h
  simp [spec_l13Copy, spec_l6Copy_n a.Keys (by omega), spec_l6Copy_n a.Heirs (by omega), spec_l6Copy_n a.Judge (by omega)]) k
theorem spec_l14Copy_n (a : GSigned) (h : mSigned a ≤ 1048576) (k) : call spec_l14Copy [.agg (eSigned a)] k = k (eSigned a) := call_of (fun k => by
  unfold mSigned at h
  simp [spec_l14Copy, spec_l13Copy_n a.Head (by omega), catP, show a.Sigs.length < 1073741824 by omega]) k
theorem zones_le {w : GWorld} (h : mWorld w ≤ 1048576) : w.Zones.length ≤ 1048576 ∧ (∀ z ∈ w.Zones, mZone z ≤ 1048576) ∧ mActorS w.Actors ≤ 1048576 := by
  unfold mWorld at h
  have e : mZoneS w.Zones = w.Zones.length + sumN mZone w.Zones := rfl
  refine ⟨by omega, fun z hz => ?_, by omega⟩
  have := sumN_mem (s := mZone) hz
  omega
def oZone : Option GZone → List PV
  | some z => eZone z ++ [.bool true]
  | none => [.list 17 [], .list 4 [], .bool false]
def sCanTurn (w : GWorld) (a i : Int) : Bool := match getI w.Zones i with
  | some z => match z.Chain[z.Chain.length - 1]? with
    | some p => !p.Head.Frozen && sCanSpeak w.Actors a p.Head 1
    | none => false
  | none => false
theorem chain_last {l : List GSigned} (h : mSignedS l ≤ 1048576) {p : GSigned} (hp : l[l.length - 1]? = some p) : mHead p.Head ≤ 1048576 ∧ l.length ≤ 1048576 := by
  unfold mSignedS at h
  have := sumN_mem (s := mSigned) (mem_get hp)
  have e : mSigned p = mHead p.Head + p.Sigs.length := rfl
  omega
theorem last_none {l : List GSigned} : l[l.length - 1]? = none ↔ l = [] := by
  cases l with
  | nil => simp
  | cons a l => simp
def preP (m : List GSigned) (i : Nat) (x : GSigned) : Bool := match m[i]? with | some y => !decide (x.Head = y.Head) | none => true
def sPre (l m : List GSigned) : Bool := decide (l.length ≤ m.length) && (anyI (preP m) 0 l == false)
theorem mHead_le {l : List GSigned} {x : GSigned} (h : mSignedS l ≤ 1048576) (hx : x ∈ l) : mHead x.Head ≤ 1048576 := by
  unfold mSignedS at h
  have := sumN_mem (s := mSigned) hx
  have e : mSigned x = mHead x.Head + x.Sigs.length := rfl
  omega
theorem len_le {l : List GSigned} (h : mSignedS l ≤ 1048576) : l.length ≤ 1048576 := by unfold mSignedS at h; omega
theorem spec_IsPrefix_n (l m : List GSigned) (h : mSignedS l ≤ 1048576) (h' : mSignedS m ≤ 1048576) (k) : call spec_IsPrefix [.one (.list 17 (l.map eSigned)), .one (.list 17 (m.map eSigned))] k = k [.bool (sPre l m)] := call_of (fun k => by
  have hl0 := len_le h
  have hm0 := len_le h'
  unfold sPre
  by_cases hl : l.length ≤ m.length
  · simp only [hl, decide_true, Bool.true_and]
    simp [spec_IsPrefix, show ¬ (m.length : Int) < l.length by omega]
    refine (lp_anyIk k false l (fun i => [.list 17 (l.map eSigned), .list 17 (m.map eSigned), .bool false, I i]) (preP m) rfl (fun i x hx hi K => ?_) fun K => ?_).trans (by simp)
    · obtain ⟨y, hy⟩ : ∃ y, m[i]? = some y := ⟨m[i], List.getElem?_eq_getElem (by omega)⟩
      have e := spec_EqualHeads_n x.Head y.Head (mHead_le h (mem_get hx)) (mHead_le h' (mem_get hy))
      simp [-getElem?_pos, spec_IsPrefix_r0, hx, hy, hi, e, preP, wr_succ (show i < 1000000000000000000 by omega)]
      all_goals (by_cases hxy : x.Head = y.Head <;> simp [hxy])
    · simp [spec_IsPrefix_r0]
  · simp [spec_IsPrefix, hl, show (m.length : Int) < l.length by omega]) k
theorem impl_IsPrefix_n (l m : List GSigned) (h : mSignedS l ≤ 1048576) (h' : mSignedS m ≤ 1048576) (k) : call impl_IsPrefix [.one (.list 17 (l.map eSigned)), .one (.list 17 (m.map eSigned))] k = k [.bool (sPre l m)] := call_of (fun k => by
  have hl0 := len_le h
  have hm0 := len_le h'
  unfold sPre
  by_cases hl : l.length ≤ m.length
  · simp only [hl, decide_true, Bool.true_and]
    simp [impl_IsPrefix, show ¬ (m.length : Int) < l.length by omega]
    refine (lp_anyIk k false l (fun i => [.list 17 (m.map eSigned), .bool false, .list 17 (l.map eSigned), I l.length, I i]) (preP m) rfl (fun i x hx hi K => ?_) fun K => ?_).trans (by simp)
    · obtain ⟨y, hy⟩ : ∃ y, m[i]? = some y := ⟨m[i], List.getElem?_eq_getElem (by omega)⟩
      have e := impl_EqualHeads_n x.Head y.Head (mHead_le h (mem_get hx)) (mHead_le h' (mem_get hy))
      simp [-getElem?_pos, impl_IsPrefix_r0, hx, hy, hi, e, preP, wr_succ (show i < 1000000000000000000 by omega)]
      all_goals (by_cases hxy : x.Head = y.Head <;> simp [hxy])
    · simp [impl_IsPrefix_r0]
  · simp [impl_IsPrefix, hl, show (m.length : Int) < l.length by omega]) k
theorem mChain_le {w : List GSaid} {s : GSaid} (h : mSaidS w ≤ 1048576) (hs : s ∈ w) : mSignedS s.Zone.Chain ≤ 1048576 ∧ mEntryS s.Zone.Entries ≤ 1048576 := by
  unfold mSaidS at h
  have := sumN_mem (s := mSaid) hs
  have e : mSaid s = (mSignedS s.Zone.Chain + mEntryS s.Zone.Entries) + s.Held.length := rfl
  omega
def sGrounded (w : List GSaid) (l : List GSigned) : Bool := w.any fun s => sPre l s.Zone.Chain
theorem said_le {w : GWorld} (h : mWorld w ≤ 1048576) : mSaidS w.Said ≤ 1048576 ∧ w.Said.length ≤ 1048576 := by
  unfold mWorld at h
  have : mSaidS w.Said = w.Said.length + sumN mSaid w.Said := rfl
  omega
def saidP (z : GZone) (s : GSaid) : Bool := sPre s.Zone.Chain z.Chain && (sPre z.Chain s.Zone.Chain && decide (s.Zone.Entries = z.Entries))
def sSaid (w : List GSaid) (z : GZone) : Bool := w.any (saidP z)
theorem zone_le {z : GZone} (h : mZone z ≤ 1048576) : mSignedS z.Chain ≤ 1048576 ∧ mEntryS z.Entries ≤ 1048576 := by unfold mZone at h; omega
def servP (w : List GSaid) (s : GServer) : Bool := s.Zones.any fun z => !sSaid w z
def sServers (w : GWorld) : Bool := !w.Servers.any (servP w.Said)
theorem serv_le {w : GWorld} (h : mWorld w ≤ 1048576) : w.Servers.length ≤ 1048576 ∧ ∀ s ∈ w.Servers, s.Zones.length ≤ 1048576 ∧ ∀ z ∈ s.Zones, mZone z ≤ 1048576 := by
  unfold mWorld at h
  have e : mServerS w.Servers = w.Servers.length + sumN mServer w.Servers := rfl
  refine ⟨by omega, fun s hs => ?_⟩
  have h1 := sumN_mem (s := mServer) hs
  have e2 : mServer s = s.Zones.length + sumN mZone s.Zones := rfl
  refine ⟨by omega, fun z hz => ?_⟩
  have h2 := sumN_mem (s := mZone) hz
  omega
def headP (h : GHead) (s : GSaid) : Bool := s.Zone.Chain.any fun x => decide (x.Head = h)
def sHead (w : List GSaid) (h : GHead) : Bool := w.any (headP h)
def zSigned : GSigned := ⟨⟨0, 0, 0, 0, 0, 0, 0, 0, ⟨[], 0⟩, ⟨[], 0⟩, 0, ⟨[], 0⟩, false⟩, []⟩
def sFork (w : List GSaid) (f : GFork) : Bool := (decide (f.Before = zSigned) || sHead w f.Before.Head) && (sHead w f.A.Head && sHead w f.B.Head)
def sUser (w : GWorld) : Bool := !(w.Known.Chains.any fun l => !sGrounded w.Said l) && (!(w.Cache.Lst.any fun s => !sGrounded w.Said s.Answer.Chain) && !(w.Known.Forks.any fun f => !sFork w.Said f))
theorem fork_le {f : GFork} (h : mFork f ≤ 1048576) : (mSigned f.Before ≤ 1048576 ∧ mSigned f.A ≤ 1048576 ∧ mSigned f.B ≤ 1048576) ∧ mHead f.Before.Head ≤ 1048576 ∧ mHead f.A.Head ≤ 1048576 ∧ mHead f.B.Head ≤ 1048576 := by
  unfold mFork at h
  have e : ∀ s : GSigned, mSigned s = mHead s.Head + s.Sigs.length := fun _ => rfl
  have := e f.Before; have := e f.A; have := e f.B
  omega
theorem known_le {w : GWorld} (h : mWorld w ≤ 1048576) : (w.Known.Chains.length ≤ 1048576 ∧ ∀ l ∈ w.Known.Chains, mSignedS l ≤ 1048576) ∧ (w.Known.Forks.length ≤ 1048576 ∧ ∀ f ∈ w.Known.Forks, mFork f ≤ 1048576) ∧ (w.Cache.Lst.length ≤ 1048576 ∧ ∀ s ∈ w.Cache.Lst, mSignedS s.Answer.Chain ≤ 1048576) := by
  unfold mWorld at h
  have e1 : mKnown w.Known = (w.Known.Chains.length + sumN mSignedS w.Known.Chains) + (w.Known.Forks.length + sumN mFork w.Known.Forks) := rfl
  have e2 : mCache w.Cache = w.Cache.Lst.length + sumN mStored w.Cache.Lst := rfl
  refine ⟨⟨by omega, fun l hl => ?_⟩, ⟨by omega, fun f hf => ?_⟩, by omega, fun s hs => ?_⟩
  · have := sumN_mem (s := mSignedS) hl; omega
  · have := sumN_mem (s := mFork) hf; omega
  · have h1 := sumN_mem (s := mStored) hs
    have h2 : mSignedS s.Answer.Chain ≤ mStored s := by unfold mStored mAnswer; omega
    omega
theorem stepB {b c : Bool} {P : Prop} {k : List PV → Prop} (h : b = true → (P ↔ k [.bool c])) : (if b = true then P else k [.bool false]) ↔ k [.bool (b && c)] := by
  cases b
  · simp
  · simpa using h rfl
theorem stepN {b c : Bool} {P : Prop} {k : List PV → Prop} (h : b = true → (P ↔ k [.bool c])) : (if (!b) = true then k [.bool false] else P) ↔ k [.bool (b && c)] := by
  cases b
  · simp
  · simpa using h rfl
def sNo (a : GKeys) : Bool := decide (a.Need = 0) && decide (a.Lst.length = 0)
theorem impl_NoKeys_n (a : GKeys) (k) : call impl_NoKeys [.agg (eKeys a)] k = k [.bool (sNo a)] := call_of (fun k => by
  have e : ((a.Lst.length : Int) == 0) = decide (a.Lst.length = 0) := by
    by_cases h : a.Lst.length = 0
    · rw [h]; rfl
    · rw [decide_eq_false h]; exact beq_eq_false_iff_ne.2 (by omega)
  simp only [impl_NoKeys, un, cur0, binP_eql, lenP_eq, List.length_map, e, sNo, iteP_eq, rt_eq, scs_sc, scs_nil, flat_bool, true_and, and_true]
  by_cases h : a.Need = 0 <;> simp [h]) k
theorem spec_NoKeys_n (a : GKeys) (k) : call spec_NoKeys [.agg (eKeys a)] k = k [.bool (sNo a)] := call_of (fun k => by
  have e : ((a.Lst.length : Int) == 0) = decide (a.Lst.length = 0) := by
    by_cases h : a.Lst.length = 0
    · rw [h]; rfl
    · rw [decide_eq_false h]; exact beq_eq_false_iff_ne.2 (by omega)
  simp only [spec_NoKeys, un, cur0, binP_eql, lenP_eq, List.length_map, e, sNo, iteP_eq, rt_eq, scs_sc, scs_nil, flat_bool, true_and, and_true]
  by_cases h : a.Need = 0 <;> simp [h]) k
theorem sNo_keys {a : GKeys} (h : sNo a = true) : sIsKeys a = false := by
  unfold sNo at h
  simp only [Bool.and_eq_true, decide_eq_true_eq] at h
  unfold sIsKeys inR
  simp [h.2]
def sMaybe (a : GKeys) : Bool := sNo a || sIsKeys a
def sJudge (a : GHead) : Bool := sIsKeys a.Judge || (sNo a.Judge && !a.Frozen)
def sWait (a : GHead) : Bool := if sNo a.Heirs = true then decide (a.Wait = 0) && sJudge a else sIsKeys a.Heirs && (inR a.Wait 1 500 && sJudge a)
def sIsHead (a : GHead) : Bool :=
  inR a.Zone 0 2147483646 && (inR a.Root 0 2147483646 && (inR a.Prev 0 2147483646 && (inR a.Epoch 0 200 && (inR a.Kind 1 3 && (inR a.Time 0 100000 && (inR a.Until a.Time 100000 && (decide (a.Until - a.Time ≤ 200) &&
  (inR a.Count 0 12 && (sIsKeys a.Keys && sWait a)))))))))
theorem keys_le {a : GHead} (h : mHead a ≤ 1048576) : mKeys a.Keys ≤ 1048576 ∧ mKeys a.Heirs ≤ 1048576 ∧ mKeys a.Judge ≤ 1048576 := by unfold mHead at h; omega
theorem spec_IsHead_n (a : GHead) (h : mHead a ≤ 1048576) (k) : call spec_IsHead [.agg (eHead a)] k = k [.bool (sIsHead a)] := call_of (fun k => by
  obtain ⟨h1, h2, h3⟩ := keys_le h
  have e1 := spec_IsKeys_n a.Keys h1
  have e2 := spec_IsKeys_n a.Heirs h2
  have e3 := spec_IsKeys_n a.Judge h3
  simp only [spec_IsHead, un, cur0, spec_l1In_n, e1, e2, e3, spec_NoKeys_n, unP_not, atP_zero, iteP_eq, rt_eq, scs_sc, scs_nil, flat_bool, true_and, and_true, binP_sub, binP_gtr]
  refine stepN fun _ => stepN fun _ => stepN fun _ => stepN fun _ => stepN fun _ => stepN fun ht => stepN fun hu => ?_
  have hw : IntKind.i64.wrap (a.Until - a.Time) = a.Until - a.Time := by
    simp only [inR, Bool.and_eq_true, decide_eq_true_eq] at ht hu
    exact wr_eq (by omega) (by omega)
  rw [hw, show decide (200 < a.Until - a.Time) = !decide (a.Until - a.Time ≤ 200) by by_cases h : a.Until - a.Time ≤ 200 <;> simp [h] <;> omega]
  refine stepN fun _ => stepN fun _ => stepN fun _ => ?_
  unfold sWait sJudge
  cases sNo a.Heirs <;> cases sIsKeys a.Heirs <;> cases inR a.Wait 1 500 <;> cases sIsKeys a.Judge <;> cases sNo a.Judge <;> cases a.Frozen <;> by_cases hz : a.Wait = 0 <;> simp [hz]) k
theorem headLaw : ∀ (nh kh nj kj wt w0 fr : Bool) (h1 : nh = true → kh = false) (h2 : nj = true → kj = false), ((nh || kh) && ((nj || kj) && ((if nh = true then w0 else wt) && !(fr && nj)))) = (if nh = true then w0 && (kj || (nj && !fr)) else kh && (wt && (kj || (nj && !fr)))) := by decide
theorem impl_IsHead_n (a : GHead) (h : mHead a ≤ 1048576) (k) : call impl_IsHead [.agg (eHead a)] k = k [.bool (sIsHead a)] := call_of (fun k => by
  obtain ⟨h1, h2, h3⟩ := keys_le h
  have e1 := impl_IsKeys_n a.Keys h1
  have e2 := impl_IsKeys_n a.Heirs h2
  have e3 := impl_IsKeys_n a.Judge h3
  have d : ∀ x k, call impl_isDigest [.one (I x)] k = k [.bool (inR x 0 2147483646)] := fun x => call_of (fun k => by simp [impl_isDigest, impl_InRange_n])
  have m2 : ∀ k, call impl_isMaybe [.agg (eKeys a.Heirs)] k = k [.bool (sMaybe a.Heirs)] := call_of (fun k => by
    simp [impl_isMaybe, impl_NoKeys_n, e2, sMaybe]; cases sNo a.Heirs <;> simp)
  have m3 : ∀ k, call impl_isMaybe [.agg (eKeys a.Judge)] k = k [.bool (sMaybe a.Judge)] := call_of (fun k => by
    simp [impl_isMaybe, impl_NoKeys_n, e3, sMaybe]; cases sNo a.Judge <;> simp)
  have m4 : ∀ k, call impl_isWait [.one (I a.Wait), .agg (eKeys a.Heirs)] k = k [.bool (if sNo a.Heirs = true then decide (a.Wait = 0) else inR a.Wait 1 500)] := call_of (fun k => by
    simp [impl_isWait, impl_NoKeys_n, impl_InRange_n]; cases sNo a.Heirs <;> simp
    by_cases hz : a.Wait = 0
    · simp [hz]
    · rw [show (a.Wait == 0) = false from beq_eq_false_iff_ne.2 hz]; simp [hz])
  have m5 : ∀ k, call impl_isSpan [.agg (eHead a)] k = k [.bool (inR a.Time 0 100000 && (inR a.Until a.Time 100000 && decide (a.Until - a.Time ≤ 200)))] := call_of (fun k => by
    simp only [impl_isSpan, un, cur0, binP_geq, binP_leq, binP_sub, iteP_eq, rt_eq, scs_sc, scs_nil, flat_bool, true_and, and_true]
    by_cases c1 : 0 ≤ a.Time
    · by_cases c2 : a.Time ≤ a.Until
      · by_cases c3 : a.Until ≤ 100000
        · rw [wr_eq (show -9223372036854775808 ≤ a.Until - a.Time by omega) (by omega)]
          simp [c1, c2, c3, inR, show a.Time ≤ 100000 by omega]
        · simp [c1, c2, c3, inR]
      · simp [c1, c2, inR]
    · simp [c1, inR])
  simp only [impl_IsHead, un, cur0, d, impl_InRange_n, e1, m2, m3, m4, m5, impl_NoKeys_n, unP_not, atP_zero, iteP_eq, rt_eq, scs_sc, scs_nil, flat_bool, true_and, and_true]
  have key : ∀ z r p e q sp c ks mh mj wt no fr : Bool, (if z = true then if r = true then if p = true then if e = true then if q = true then if sp = true then if c = true then if ks = true then if mh = true then if mj = true then if wt = true then
      if fr = true then k [.bool !no] else k [.bool true] else k [.bool false] else k [.bool false] else k [.bool false] else k [.bool false] else k [.bool false] else k [.bool false] else k [.bool false] else k [.bool false] else k [.bool false] else k [.bool false] else k [.bool false]) ↔
      k [.bool (z && (r && (p && (e && (q && (sp && (c && (ks && (mh && (mj && (wt && !(fr && no))))))))))))] := by
    intro z r p e q sp c ks mh mj wt no fr
    refine stepB fun _ => stepB fun _ => stepB fun _ => stepB fun _ => stepB fun _ => stepB fun _ => stepB fun _ => stepB fun _ => stepB fun _ => stepB fun _ => stepB fun _ => ?_
    cases fr <;> simp
  refine (key _ _ _ _ _ _ _ _ _ _ _ _ _).trans ?_
  apply iff_of_eq
  congr 3
  unfold sIsHead sWait sJudge sMaybe
  simp only [Bool.and_assoc]
  rw [headLaw _ _ _ _ _ _ _ (@sNo_keys a.Heirs) (@sNo_keys a.Judge)]) k
theorem beqI (a b : Int) : (a == b) = decide (a = b) := by
  by_cases h : a = b
  · subst h; simp
  · rw [decide_eq_false h]; exact beq_eq_false_iff_ne.2 h
def sKH (key : Int) (m : List Int) : Int := sHash (key :: (m ++ [key]))
theorem impl_KeyedHash_n (key : Int) (m : List Int) (h : m.length < 90000000) (k) : call impl_KeyedHash [.one (I key), .one (ints m)] k = k [I (sKH key m)] := call_of (fun k => by
  have e : ∀ k, call slices_Concat_int [.one (.list 1 [[.list 1 [[I key]]], [ints m], [.list 1 [[I key]]]])] k = k [ints (key :: (m ++ [key]))] := fun k => by
    have := slices_Concat_int_n [[key], m, [key]] (by simp [sumN]; omega) k
    simpa [ints] using this
  have e2 := impl_Hash_n (key :: (m ++ [key])) (by simp; omega)
  simp only [impl_KeyedHash, un, cur0, fc_int, fc_own, true_and, e, atP_zero, e2, rt_eq, scs_sc, scs_nil, flat_int]
  simp [sKH]) k
theorem spec_KeyedHash_n (key : Int) (m : List Int) (h : m.length < 90000000) (k) : call spec_KeyedHash [.one (I key), .one (ints m)] k = k [I (sKH key m)] := call_of (fun k => by
  have e2 := spec_Hash_n (key :: (m ++ [key])) (by simp; omega)
  have e3 : (PV.list 1 ([I key] :: (m.map rI ++ [[I key]]))) = ints (key :: (m ++ [key])) := by simp [ints]
  simp [spec_KeyedHash, fc_int, flatRows_ints, catP, show 1 + m.length < 1073741824 by omega]
  rw [e3, e2]
  simp [sKH]
  try (intros; omega)) k
def sTag (key : Int) (m : List Int) : Int := sKH key (223 :: m)
theorem impl_TagOf_n (key : Int) (m : List Int) (h : m.length < 80000000) (k) : call impl_TagOf [.one (I key), .one (ints m)] k = k [I (sTag key m)] := call_of (fun k => by
  have e2 := impl_KeyedHash_n key (223 :: m) (by simp; omega)
  have e3 : PV.list 1 ([I 223] :: m.map rI) = ints (223 :: m) := by simp [ints]
  simp [impl_TagOf, fc_int, flatRows_ints, catP, show 1 + m.length < 1073741824 by omega]
  rw [e3, e2]
  simp [sTag]
  try (intros; omega)) k
theorem spec_TagOf_n (key : Int) (m : List Int) (h : m.length < 80000000) (k) : call spec_TagOf [.one (I key), .one (ints m)] k = k [I (sTag key m)] := call_of (fun k => by
  have e2 := spec_KeyedHash_n key (223 :: m) (by simp; omega)
  have e3 : PV.list 1 ([I 223] :: m.map rI) = ints (223 :: m) := by simp [ints]
  simp [spec_TagOf, fc_int, flatRows_ints, catP, show 1 + m.length < 1073741824 by omega]
  rw [e3, e2]
  simp [sTag]
  try (intros; omega)) k
def sDigest (a : GHead) : Int := sHash (233 :: headInts a)
theorem impl_HeadDigest_n (a : GHead) (h : mHead a ≤ 1048576) (k) : call impl_HeadDigest [.agg (eHead a)] k = k [I (sDigest a)] := call_of (fun k => by
  have hl := headInts_len a
  have e1 := impl_HeadInts_n a h
  have e2 := impl_Hash_n (233 :: headInts a) (by simp; omega)
  have e3 : PV.list 1 ([I 233] :: (headInts a).map rI) = ints (233 :: headInts a) := by simp [ints]
  simp [impl_HeadDigest, fc_int, e1, catP, show 1 + (headInts a).length < 1073741824 by omega]
  rw [e3, e2]
  simp [sDigest]
  try (intros; omega)) k
theorem spec_HeadDigest_n (a : GHead) (h : mHead a ≤ 1048576) (k) : call spec_HeadDigest [.agg (eHead a)] k = k [I (sDigest a)] := call_of (fun k => by
  have hl := headInts_len a
  have e1 := spec_HeadInts_n a h
  have e2 := spec_Hash_n (233 :: headInts a) (by simp; omega)
  have e3 : PV.list 1 ([I 233] :: (headInts a).map rI) = ints (233 :: headInts a) := by simp [ints]
  simp [spec_HeadDigest, fc_int, e1, catP, show 1 + (headInts a).length < 1073741824 by omega]
  rw [e3, e2]
  simp [sDigest]
  try (intros; omega)) k
def sZoneOf (a : GKeys) (salt : Int) : Int := sHash (239 :: salt :: keysInts a)
theorem impl_ZoneOf_n (a : GKeys) (salt : Int) (h : mKeys a ≤ 1048576) (k) : call impl_ZoneOf [.agg (eKeys a), .one (I salt)] k = k [I (sZoneOf a salt)] := call_of (fun k => by
  have hl := keysInts_len a
  have h' := h
  unfold mKeys at h'
  have e1 := impl_KeysInts_n a h
  have e2 := impl_Hash_n (239 :: salt :: keysInts a) (by simp; omega)
  have e3 : PV.list 1 ([I 239] :: [I salt] :: (keysInts a).map rI) = ints (239 :: salt :: keysInts a) := by simp [ints]
  simp [impl_ZoneOf, fc_int, e1, catP, show 2 + (keysInts a).length < 1073741824 by omega]
  rw [e3, e2]
  simp [sZoneOf]
  try (intros; omega)) k
theorem spec_ZoneOf_n (a : GKeys) (salt : Int) (h : mKeys a ≤ 1048576) (k) : call spec_ZoneOf [.agg (eKeys a), .one (I salt)] k = k [I (sZoneOf a salt)] := call_of (fun k => by
  have hl := keysInts_len a
  have h' := h
  unfold mKeys at h'
  have e1 := spec_KeysInts_n a h
  have e2 := spec_Hash_n (239 :: salt :: keysInts a) (by simp; omega)
  have e3 : PV.list 1 ([I 239] :: [I salt] :: (keysInts a).map rI) = ints (239 :: salt :: keysInts a) := by simp [ints]
  simp [spec_ZoneOf, fc_int, e1, catP, show 2 + (keysInts a).length < 1073741824 by omega]
  rw [e3, e2]
  simp [sZoneOf]
  try (intros; omega)) k
def sSigBy (m : List Int) (s : GSig) : Bool := isKeyB s.Key && decide (s.Tag = sTag s.Key m)
theorem impl_IsSigBy_n (s : GSig) (m : List Int) (h : m.length < 80000000) (k) : call impl_IsSigBy [.agg (eSig s), .one (ints m)] k = k [.bool (sSigBy m s)] := call_of (fun k => by
  have e := impl_TagOf_n s.Key m h
  simp only [impl_IsSigBy, un, cur0, impl_isKey_n, e, atP_zero, binP_eql, iteP_eq, rt_eq, scs_sc, scs_nil, flat_bool, true_and, and_true]
  exact stepB (c := decide (s.Tag = sTag s.Key m)) fun _ => by rw [beqI]) k
theorem spec_IsSigBy_n (s : GSig) (m : List Int) (h : m.length < 80000000) (k) : call spec_IsSigBy [.agg (eSig s), .one (ints m)] k = k [.bool (sSigBy m s)] := call_of (fun k => by
  have e := spec_TagOf_n s.Key m h
  simp only [spec_IsSigBy, un, cur0, spec_l1In_n, e, atP_zero, binP_eql, iteP_eq, rt_eq, scs_sc, scs_nil, flat_bool, true_and, and_true]
  exact stepB (b := isKeyB s.Key) (c := decide (s.Tag = sTag s.Key m)) fun _ => by rw [beqI]) k
def sigP (m : List Int) (key : Int) (s : GSig) : Bool := decide (s.Key = key) && sSigBy m s
def sCount (a : GKeys) (m : List Int) (l : List GSig) : Nat := a.Lst.countP fun key => l.any (sigP m key)
theorem slices_ContainsFunc_Sig_n (l : List GSig) (key : Int) (m : List Int) (hl : l.length ≤ 1048576) (h : m.length < 80000000) (k) : call slices_ContainsFunc_Sig_F_impl_CountSigs_1 [.one (.list 2 (l.map eSig)), .fn 391 [.cells [I key], .cells [ints m]]] k = k [.bool (l.any (sigP m key))] := call_of (fun k => by
  have e : ∀ k, call slices_IndexFunc_Sig_F_impl_CountSigs_1 [.one (.list 2 (l.map eSig)), .fn 391 [.cells [I key], .cells [ints m]]] k = k [I (idx (sigP m key) l)] := call_of (fun k => by
    simp [slices_IndexFunc_Sig_F_impl_CountSigs_1]
    refine lp_find (Q := fun i => k [I i]) l (fun i => [.list 2 (l.map eSig), I key, ints m, I 0, I l.length, I i]) (sigP m key) rfl (fun i x hx hi K => ?_) fun K => ?_
    · have e1 : ∀ k, call impl_CountSigs_1 [.agg (eSig x), .ro (.cells [I key]), .ro (.cells [ints m])] k = k [.bool (sigP m key x)] := call_of (fun k => by
        have e := impl_IsSigBy_n x m h
        simp only [impl_CountSigs_1, un, cur0, binP_eql, e, atP_zero, iteP_eq, rt_eq, scs_sc, scs_nil, flat_bool, true_and, and_true]
        by_cases hk : x.Key = key <;> simp [hk, sigP])
      simp [-getElem?_pos, slices_IndexFunc_Sig_F_impl_CountSigs_1_r0, hx, hi, e1, wr_succ (show i < 1000000000000000000 by omega)]
    · simp [slices_IndexFunc_Sig_F_impl_CountSigs_1_r0])
  simp [slices_ContainsFunc_Sig_F_impl_CountSigs_1, e, idx_any]) k
theorem impl_CountSigs_n (a : GKeys) (m : List Int) (l : List GSig) (h : mKeys a ≤ 1048576) (hm : m.length < 80000000) (hl : l.length ≤ 1048576) (k) : call impl_CountSigs [.agg (eKeys a), .one (ints m), .one (.list 2 (l.map eSig))] k = k [I (sCount a m l)] := call_of (fun k => by
  unfold mKeys at h
  simp [impl_CountSigs]
  refine lp_list a.Lst (fun i => [.list 2 (l.map eSig), I 0, I ((a.Lst.take i).countP fun key => l.any (sigP m key) : Nat), ints a.Lst, I a.Lst.length, I i, ints m]) rfl (fun i x hx hi K => ?_) fun K => ?_
  · have hc : (a.Lst.take i).countP (fun key => l.any (sigP m key)) ≤ i := Nat.le_trans List.countP_le_length (by simp; omega)
    have e := slices_ContainsFunc_Sig_n l x m hl hm
    simp only [impl_CountSigs_r0, un, cur0, binP_lss, iteP_eq, show decide ((i : Int) < a.Lst.length) = true by simp; omega, if_true, elemP, ints, List.getElem?_map, hx, Int.toNat_natCast, Option.map_some, true_and, atP_zero, rI]
    rw [show PV.list 1 (m.map fun n => [I n]) = ints m from rfl]
    simp only [e, atP_zero, iteP_eq, binP_add, wr_succ (show i < 1000000000000000000 by omega), wr_succ (show (a.Lst.take i).countP (fun key => l.any (sigP m key)) < 1000000000000000000 by omega)]
    rw [take_snoc hx, List.countP_append, List.countP_cons, List.countP_nil]
    cases hb : l.any (sigP m x) <;> simp [hb]
  · simp [impl_CountSigs_r0, sCount]) k
theorem spec_CountSigs_n (a : GKeys) (m : List Int) (l : List GSig) (h : mKeys a ≤ 1048576) (hm : m.length < 80000000) (hl : l.length ≤ 1048576) (k) : call spec_CountSigs [.agg (eKeys a), .one (ints m), .one (.list 2 (l.map eSig))] k = k [I (sCount a m l)] := call_of (fun k => by
  unfold mKeys at h
  simp only [spec_CountSigs, un, cur0, rt_eq, scs_sc, scs_nil, flat_int, true_and]
  refine lp_list a.Lst (fun i => [ints m, .list 2 (l.map eSig), I 0, I ((a.Lst.take i).countP fun key => l.any (sigP m key) : Nat), I i, ints a.Lst, I a.Need]) rfl (fun i x hx hi K => ?_) fun K => ?_
  · have hc : (a.Lst.take i).countP (fun key => l.any (sigP m key)) ≤ i := Nat.le_trans List.countP_le_length (by simp; omega)
    simp [-getElem?_pos, spec_CountSigs_r0, hi]
    rw [take_snoc hx, List.countP_append, List.countP_cons, List.countP_nil]
    generalize hn : (a.Lst.take i).countP (fun key => l.any (sigP m key)) = n at hc
    refine (lp_any (P := K [ints m, .list 2 (l.map eSig), I 0, I ((n + 1 : Nat) : Int), I ((i + 1 : Nat) : Int), ints a.Lst, I a.Need]) (fin := K [ints m, .list 2 (l.map eSig), I 0, I (n : Int), I ((i + 1 : Nat) : Int), ints a.Lst, I a.Need]) l (fun j => [ints m, .list 2 (l.map eSig), I 0, I (n : Int), I i, I j, ints a.Lst, I a.Need]) (sigP m x) rfl (fun j y hy hj K => ?_) fun K => ?_).trans ?_
    · have e := spec_IsSigBy_n y m hm
      simp [-getElem?_pos, spec_CountSigs_r1, hx, hy, hj, e, sigP, wr_succ (show j < 1000000000000000000 by omega), wr_succ (show n < 1000000000000000000 by omega), wr_succ (show i < 1000000000000000000 by omega)]
      by_cases hk : y.Key = x <;> simp [hk]
    · simp [spec_CountSigs_r1, wr_succ (show i < 1000000000000000000 by omega)]
    · cases hb : l.any (sigP m x) <;> simp [hb]
  · simp [spec_CountSigs_r0, sCount]) k
def sIsSigned (a : GKeys) (m : List Int) (l : List GSig) : Bool := sIsKeys a && decide (a.Need ≤ (sCount a m l : Int))
theorem impl_IsSigned_n (a : GKeys) (m : List Int) (l : List GSig) (h : mKeys a ≤ 1048576) (hm : m.length < 80000000) (hl : l.length ≤ 1048576) (k) : call impl_IsSigned [.agg (eKeys a), .one (ints m), .one (.list 2 (l.map eSig))] k = k [.bool (sIsSigned a m l)] := call_of (fun k => by
  have e1 := impl_IsKeys_n a h
  have e2 := impl_CountSigs_n a m l h hm hl
  simp only [impl_IsSigned, un, cur0, e1, e2, atP_zero, iteP_eq, rt_eq, scs_sc, scs_nil, flat_bool, true_and, and_true, binP_geq]
  exact stepB fun _ => Iff.rfl) k
theorem spec_IsSigned_n (a : GKeys) (m : List Int) (l : List GSig) (h : mKeys a ≤ 1048576) (hm : m.length < 80000000) (hl : l.length ≤ 1048576) (k) : call spec_IsSigned [.agg (eKeys a), .one (ints m), .one (.list 2 (l.map eSig))] k = k [.bool (sIsSigned a m l)] := call_of (fun k => by
  have e1 := spec_IsKeys_n a h
  have e2 := spec_CountSigs_n a m l h hm hl
  simp only [spec_IsSigned, un, cur0, e1, e2, atP_zero, iteP_eq, rt_eq, scs_sc, scs_nil, flat_bool, true_and, and_true, binP_geq]
  exact stepB fun _ => Iff.rfl) k
theorem signed_le {s : GSigned} (h : mSigned s ≤ 1048576) : mHead s.Head ≤ 1048576 ∧ s.Sigs.length ≤ 1048576 ∧ (headInts s.Head).length < 80000000 := by
  have hl := headInts_len s.Head
  unfold mSigned at h
  omega
def sBy (s : GSigned) (a : GKeys) : Bool := sIsSigned a (headInts s.Head) s.Sigs
theorem impl_isSignedBy_n (s : GSigned) (a : GKeys) (h : mSigned s ≤ 1048576) (ha : mKeys a ≤ 1048576) (k) : call impl_Signed_isSignedBy [.agg (eSigned s), .agg (eKeys a)] k = k [.bool (sBy s a)] := call_of (fun k => by
  obtain ⟨h1, h2, h3⟩ := signed_le h
  have e1 := impl_HeadInts_n s.Head h1
  have e2 := impl_IsSigned_n a (headInts s.Head) s.Sigs ha h3 h2
  simp only [impl_Signed_isSignedBy, un, cur0, e1, e2, atP_zero, rt_eq, scs_sc, scs_nil, flat_bool, true_and, and_true, sBy]) k
def sIsFirst (s : GSigned) : Bool := sIsHead s.Head && (decide (s.Head.Epoch = 0) && (decide (s.Head.Kind = 1) && (!s.Head.Frozen && (decide (s.Head.Zone = sZoneOf s.Head.Keys s.Head.Prev) && sBy s s.Head.Keys))))
theorem impl_IsFirst_n (s : GSigned) (h : mSigned s ≤ 1048576) (k) : call impl_IsFirst [.agg (eSigned s)] k = k [.bool (sIsFirst s)] := call_of (fun k => by
  obtain ⟨h1, h2, h3⟩ := signed_le h
  obtain ⟨q1, q2, q3⟩ := keys_le h1
  have e1 := impl_IsHead_n s.Head h1
  have e2 := impl_ZoneOf_n s.Head.Keys s.Head.Prev q1
  have e3 := impl_isSignedBy_n s s.Head.Keys h q1
  simp only [impl_IsFirst, un, cur0, e1, e2, e3, binP_eql, beqI, unP_not, atP_zero, iteP_eq, rt_eq, scs_sc, scs_nil, flat_bool, true_and, and_true]
  exact stepB fun _ => stepB fun _ => stepB fun _ => stepB fun _ => stepB fun _ => Iff.rfl) k
theorem spec_IsFirst_n (s : GSigned) (h : mSigned s ≤ 1048576) (k) : call spec_IsFirst [.agg (eSigned s)] k = k [.bool (sIsFirst s)] := call_of (fun k => by
  obtain ⟨h1, h2, h3⟩ := signed_le h
  obtain ⟨q1, q2, q3⟩ := keys_le h1
  have e1 := spec_IsHead_n s.Head h1
  have e2 := spec_ZoneOf_n s.Head.Keys s.Head.Prev q1
  have e3 := spec_HeadInts_n s.Head h1
  have e4 := spec_IsSigned_n s.Head.Keys (headInts s.Head) s.Sigs q1 h3 h2
  simp only [spec_IsFirst, un, cur0, e1, e2, e3, e4, binP_eql, beqI, unP_not, atP_zero, iteP_eq, rt_eq, scs_sc, scs_nil, flat_bool, true_and, and_true]
  exact stepB fun _ => stepB fun _ => stepB fun _ => stepB fun _ => stepB fun _ => Iff.rfl) k
theorem stepI {b : Bool} {v c : Int} {P : Prop} {k : List PV → Prop} (h : b = false → (P ↔ k [I c])) : (if b = true then k [I v] else P) ↔ k [I (if b = true then v else c)] := by
  cases b
  · simpa using h rfl
  · simp
theorem stepJ {b : Bool} {v c : Int} {P : Prop} {k : List PV → Prop} (h : b = true → (P ↔ k [I c])) : (if (!b) = true then k [I v] else P) ↔ k [I (if b = true then c else v)] := by
  cases b
  · simp
  · simpa using h rfl
def sSame (a b : GHead) : Bool := decide (a.Count = b.Count) && decide (a.Root = b.Root)
theorem impl_SameContents_n (a b : GHead) (k) : call impl_SameContents [.agg (eHead a), .agg (eHead b)] k = k [.bool (sSame a b)] := call_of (fun k => by
  simp only [impl_SameContents, un, cur0, binP_eql, beqI, iteP_eq, rt_eq, scs_sc, scs_nil, flat_bool, true_and, and_true]
  exact stepB fun _ => Iff.rfl) k
theorem spec_SameContents_n (a b : GHead) (k) : call spec_SameContents [.agg (eHead a), .agg (eHead b)] k = k [.bool (sSame a b)] := call_of (fun k => by
  simp only [spec_SameContents, un, cur0, binP_eql, beqI, iteP_eq, rt_eq, scs_sc, scs_nil, flat_bool, true_and, and_true]
  exact stepB fun _ => Iff.rfl) k
def sNext (p h : GHead) : Bool := decide (h.Zone = p.Zone) && (decide (h.Epoch = IntKind.i64.wrap (p.Epoch + 1)) && (decide (h.Prev = sDigest p) && decide (p.Time ≤ h.Time)))
theorem impl_isNext_n (p h : GHead) (hp : mHead p ≤ 1048576) (k) : call impl_isNext [.agg (eHead p), .agg (eHead h)] k = k [.bool (sNext p h)] := call_of (fun k => by
  have e := impl_HeadDigest_n p hp
  simp only [impl_isNext, un, cur0, e, binP_eql, binP_geq, binP_add, beqI, atP_zero, iteP_eq, rt_eq, scs_sc, scs_nil, flat_bool, true_and, and_true]
  exact stepB fun _ => stepB fun _ => stepB fun _ => Iff.rfl) k
def sOwner (p : GHead) (s : GSigned) : Int := if p.Frozen = true then 4 else if s.Head.Frozen = true then 6 else if sBy s p.Keys = true then 1 else 7
def sHeir (p : GHead) (s : GSigned) : Int := if p.Frozen = true then 4 else if sNo p.Heirs = true then 5 else if decide (s.Head.Time < IntKind.i64.wrap (p.Until + p.Wait)) = true then 5 else if s.Head.Frozen = true then 6 else
  if decide (s.Head.Keys = p.Heirs) = true then (if sSame s.Head p = true then (if sBy s p.Heirs = true then 1 else 7) else 6) else 6
def sJC (p : GHead) (s : GSigned) : Int := if sNo p.Judge = true then 5 else if decide (s.Head.Frozen = p.Frozen) = true then 6 else
  if (sSame s.Head p && (decide (s.Head.Judge = p.Judge) && (decide (s.Head.Heirs = p.Heirs) && decide (s.Head.Wait = p.Wait)))) = true then (if (!s.Head.Frozen || decide (s.Head.Keys = p.Keys)) = true then (if sBy s p.Judge = true then 1 else 7) else 6) else 6
def sCode (p : GHead) (s : GSigned) : Int := if sIsHead p = true then (if sIsHead s.Head = true then (if sNext p s.Head = true then (if decide (s.Head.Kind = 1) = true then sOwner p s else if decide (s.Head.Kind = 2) = true then sHeir p s else sJC p s) else 3) else 2) else 2
theorem impl_ownerCode_n (p : GHead) (s : GSigned) (hp : mHead p ≤ 1048576) (hs : mSigned s ≤ 1048576) (k) : call impl_ownerCode [.agg (eHead p), .agg (eSigned s)] k = k [I (sOwner p s)] := call_of (fun k => by
  obtain ⟨q1, q2, q3⟩ := keys_le hp
  have e := impl_isSignedBy_n s p.Keys hs q1
  simp only [impl_ownerCode, un, cur0, e, unP_not, atP_zero, iteP_eq, rt_eq, scs_sc, scs_nil, flat_int, true_and, and_true]
  exact stepI fun _ => stepI fun _ => stepJ fun _ => Iff.rfl) k
theorem impl_heirCode_n (p : GHead) (s : GSigned) (hp : mHead p ≤ 1048576) (hs : mSigned s ≤ 1048576) (k) : call impl_heirCode [.agg (eHead p), .agg (eSigned s)] k = k [I (sHeir p s)] := call_of (fun k => by
  obtain ⟨q1, q2, q3⟩ := keys_le hp
  obtain ⟨r1, r2, r3⟩ := keys_le (signed_le hs).1
  have e := impl_isSignedBy_n s p.Heirs hs q2
  have e2 := impl_EqualKeys_n s.Head.Keys p.Heirs r1
  simp only [impl_heirCode, un, cur0, e, e2, impl_NoKeys_n, impl_SameContents_n, unP_not, binP_add, binP_lss, atP_zero, iteP_eq, rt_eq, scs_sc, scs_nil, flat_int, true_and, and_true]
  exact stepI fun _ => stepI fun _ => stepI fun _ => stepI fun _ => stepJ fun _ => stepJ fun _ => stepJ fun _ => Iff.rfl) k
theorem impl_judgeCode_n (p : GHead) (s : GSigned) (hp : mHead p ≤ 1048576) (hs : mSigned s ≤ 1048576) (k) : call impl_judgeCode [.agg (eHead p), .agg (eSigned s)] k = k [I (sJC p s)] := call_of (fun k => by
  obtain ⟨q1, q2, q3⟩ := keys_le hp
  obtain ⟨r1, r2, r3⟩ := keys_le (signed_le hs).1
  have e := impl_isSignedBy_n s p.Judge hs q3
  have e2 := impl_EqualKeys_n s.Head.Judge p.Judge r3
  have e3 := impl_EqualKeys_n s.Head.Heirs p.Heirs r2
  have e4 := impl_EqualKeys_n s.Head.Keys p.Keys r1
  simp only [impl_judgeCode, un, cur0, e, e2, e3, e4, impl_NoKeys_n, impl_SameContents_n, unP_not, boolP_eql, binP_eql, beqI, atP_zero, iteP_eq, rt_eq, scs_sc, scs_nil, flat_int, true_and, and_true, sJC]
  generalize sNo p.Judge = b1
  generalize sSame s.Head p = b2
  generalize decide (s.Head.Judge = p.Judge) = b3
  generalize decide (s.Head.Heirs = p.Heirs) = b4
  generalize decide (s.Head.Wait = p.Wait) = b5
  generalize decide (s.Head.Keys = p.Keys) = b6
  generalize sBy s p.Judge = b7
  cases b1 <;> cases b2 <;> cases b3 <;> cases b4 <;> cases b5 <;> cases b6 <;> cases b7 <;> cases s.Head.Frozen <;> cases p.Frozen <;> simp) k
theorem impl_NextCode_n (p : GHead) (s : GSigned) (hp : mHead p ≤ 1048576) (hs : mSigned s ≤ 1048576) (k) : call impl_NextCode [.agg (eHead p), .agg (eSigned s)] k = k [I (sCode p s)] := call_of (fun k => by
  have e1 := impl_IsHead_n p hp
  have e2 := impl_IsHead_n s.Head (signed_le hs).1
  have e3 := impl_isNext_n p s.Head hp
  have e4 := impl_ownerCode_n p s hp hs
  have e5 := impl_heirCode_n p s hp hs
  have e6 := impl_judgeCode_n p s hp hs
  simp only [impl_NextCode, un, cur0, e1, e2, e3, e4, e5, e6, unP_not, binP_eql, beqI, atP_zero, iteP_eq, rt_eq, scs_sc, scs_nil, flat_int, true_and, and_true]
  refine stepJ fun _ => stepJ fun _ => stepJ fun _ => ?_
  by_cases h1 : s.Head.Kind = 1
  · simp [h1]
  · by_cases h2 : s.Head.Kind = 2 <;> simp [h1, h2]) k
def sMay (p : GHead) (s : GSigned) : Bool := decide (sCode p s = 1)
theorem impl_MayFollow_n (p : GHead) (s : GSigned) (hp : mHead p ≤ 1048576) (hs : mSigned s ≤ 1048576) (k) : call impl_MayFollow [.agg (eHead p), .agg (eSigned s)] k = k [.bool (sMay p s)] := call_of (fun k => by
  have e := impl_NextCode_n p s hp hs
  simp only [impl_MayFollow, un, cur0, e, binP_eql, beqI, atP_zero, rt_eq, scs_sc, scs_nil, flat_bool, true_and, and_true, sMay]) k
theorem spec_EqualKeys_n (a b : GKeys) (h : mKeys a ≤ 1048576) (k) : call spec_EqualKeys [.agg (eKeys a), .agg (eKeys b)] k = k [.bool (decide (a = b))] := call_of (fun k => by
  unfold mKeys at h
  obtain ⟨l, n⟩ := a
  obtain ⟨m, q⟩ := b
  have e := spec_EqualInts_n l m (by simp only at h; omega)
  simp only [spec_EqualKeys, un, cur0, e, binP_eql, beqI, atP_zero, iteP_eq, rt_eq, scs_sc, scs_nil, flat_bool, true_and, and_true]
  by_cases h1 : n = q <;> by_cases h2 : l = m <;> simp [h1, h2]) k
theorem spec_l15Owner_n (p h : GHead) (k) : call spec_l15Owner [.agg (eHead p), .agg (eHead h)] k = k [I (if p.Frozen = true then 4 else if h.Frozen = true then 6 else 1)] := call_of (fun k => by
  simp only [spec_l15Owner, un, cur0, iteP_eq, rt_eq, scs_sc, scs_nil, flat_int, true_and, and_true]
  exact stepI fun _ => stepI fun _ => Iff.rfl) k
def pHeir (p h : GHead) : Int := if p.Frozen = true then 4 else if sNo p.Heirs = true then 5 else if decide (h.Time < IntKind.i64.wrap (p.Until + p.Wait)) = true then 5 else if h.Frozen = true then 6 else
  if decide (h.Keys = p.Heirs) = true then (if sSame h p = true then 1 else 6) else 6
theorem spec_l15Heir_n (p h : GHead) (hp : mHead p ≤ 1048576) (hh : mHead h ≤ 1048576) (k) : call spec_l15Heir [.agg (eHead p), .agg (eHead h)] k = k [I (pHeir p h)] := call_of (fun k => by
  obtain ⟨r1, r2, r3⟩ := keys_le hh
  have e2 := spec_EqualKeys_n h.Keys p.Heirs r1
  simp only [spec_l15Heir, un, cur0, e2, spec_NoKeys_n, spec_SameContents_n, unP_not, binP_add, binP_lss, atP_zero, iteP_eq, rt_eq, scs_sc, scs_nil, flat_int, true_and, and_true]
  exact stepI fun _ => stepI fun _ => stepI fun _ => stepI fun _ => stepJ fun _ => stepJ fun _ => Iff.rfl) k
def pJudge (p h : GHead) : Int := if sNo p.Judge = true then 5 else if decide (h.Frozen = p.Frozen) = true then 6 else
  if (sSame h p && (decide (h.Judge = p.Judge) && (decide (h.Heirs = p.Heirs) && decide (h.Wait = p.Wait)))) = true then (if (!h.Frozen || decide (h.Keys = p.Keys)) = true then 1 else 6) else 6
theorem spec_l15Judge_n (p h : GHead) (hp : mHead p ≤ 1048576) (hh : mHead h ≤ 1048576) (k) : call spec_l15Judge [.agg (eHead p), .agg (eHead h)] k = k [I (pJudge p h)] := call_of (fun k => by
  obtain ⟨r1, r2, r3⟩ := keys_le hh
  have e2 := spec_EqualKeys_n h.Judge p.Judge r3
  have e3 := spec_EqualKeys_n h.Heirs p.Heirs r2
  have e4 := spec_EqualKeys_n h.Keys p.Keys r1
  have e5 : (h.Wait != p.Wait) = !decide (h.Wait = p.Wait) := by rw [bne, beqI]
  simp only [spec_l15Judge, un, cur0, e2, e3, e4, spec_NoKeys_n, spec_SameContents_n, unP_not, boolP_eql, binP_neq, e5, atP_zero, iteP_eq, rt_eq, scs_sc, scs_nil, flat_int, true_and, and_true, pJudge]
  generalize sNo p.Judge = b1
  generalize sSame h p = b2
  generalize decide (h.Judge = p.Judge) = b3
  generalize decide (h.Heirs = p.Heirs) = b4
  generalize decide (h.Wait = p.Wait) = b5
  generalize decide (h.Keys = p.Keys) = b6
  cases b1 <;> cases b2 <;> cases b3 <;> cases b4 <;> cases b5 <;> cases b6 <;> cases h.Frozen <;> cases p.Frozen <;> simp) k
theorem code_owner (p : GHead) (s : GSigned) : sOwner p s = if decide ((if p.Frozen = true then 4 else if s.Head.Frozen = true then 6 else 1 : Int) = 1) = true then (if sBy s p.Keys = true then 1 else 7) else (if p.Frozen = true then 4 else if s.Head.Frozen = true then 6 else 1) := by
  unfold sOwner
  cases p.Frozen <;> cases s.Head.Frozen <;> simp
theorem code_heir (p : GHead) (s : GSigned) : sHeir p s = if decide (pHeir p s.Head = 1) = true then (if sBy s p.Heirs = true then 1 else 7) else pHeir p s.Head := by
  unfold sHeir pHeir
  cases p.Frozen <;> cases sNo p.Heirs <;> by_cases h1 : s.Head.Time < IntKind.i64.wrap (p.Until + p.Wait) <;> cases s.Head.Frozen <;> by_cases h2 : s.Head.Keys = p.Heirs <;> cases sSame s.Head p <;> simp [h1, h2]
theorem code_judge (p : GHead) (s : GSigned) : sJC p s = if decide (pJudge p s.Head = 1) = true then (if sBy s p.Judge = true then 1 else 7) else pJudge p s.Head := by
  unfold sJC pJudge
  generalize (sSame s.Head p && (decide (s.Head.Judge = p.Judge) && (decide (s.Head.Heirs = p.Heirs) && decide (s.Head.Wait = p.Wait)))) = b2
  generalize (!s.Head.Frozen || decide (s.Head.Keys = p.Keys)) = b3
  generalize decide (s.Head.Frozen = p.Frozen) = b4
  cases sNo p.Judge <;> cases b2 <;> cases b3 <;> cases b4 <;> simp
theorem head_kind {h : GHead} (hh : sIsHead h = true) : h.Kind = 1 ∨ h.Kind = 2 ∨ h.Kind = 3 := by
  unfold sIsHead at hh
  simp only [Bool.and_eq_true, inR, decide_eq_true_eq] at hh
  omega
theorem codeStep {c : Int} {b : Bool} {k : List PV → Prop} : (if decide (c = 1) = true then (if (!b) = true then k [I 7] else k [I c]) else k [I c]) ↔ k [I (if decide (c = 1) = true then (if b = true then 1 else 7) else c)] := by
  by_cases h : c = 1
  · subst h; cases b <;> simp
  · simp [h]
theorem spec_NextCode_n (p : GHead) (s : GSigned) (hp : mHead p ≤ 1048576) (hs : mSigned s ≤ 1048576) (k) : call spec_NextCode [.agg (eHead p), .agg (eSigned s)] k = k [I (sCode p s)] := call_of (fun k => by
  obtain ⟨h1, h2, h3⟩ := signed_le hs
  obtain ⟨q1, q2, q3⟩ := keys_le hp
  have e1 := spec_IsHead_n p hp
  have e2 := spec_IsHead_n s.Head h1
  have e3 := spec_HeadDigest_n p hp
  have e4 := spec_l15Owner_n p s.Head
  have e5 := spec_l15Heir_n p s.Head hp h1
  have e6 := spec_l15Judge_n p s.Head hp h1
  have e7 := spec_HeadInts_n s.Head h1
  have e8 := spec_IsSigned_n p.Keys (headInts s.Head) s.Sigs q1 h3 h2
  have e9 := spec_IsSigned_n p.Heirs (headInts s.Head) s.Sigs q2 h3 h2
  have e10 := spec_IsSigned_n p.Judge (headInts s.Head) s.Sigs q3 h3 h2
  simp only [spec_NextCode, un, cur0, e1, e2, e3, e4, e5, e6, e7, e8, e9, e10, unP_not, binP_eql, binP_neq, binP_add, binP_lss, bne, beqI, atP_zero, iteP_eq, rt_eq, scs_sc, scs_nil, flat_int, true_and, and_true, codeStep]
  refine stepJ fun _ => stepJ fun hh => ?_
  have hk := head_kind hh
  have hc : ∀ {b1 b2 b3 b4 : Bool} {P : Prop} {c : Int}, (P ↔ k [I c]) → ((if (!b1) = true then k [I 3] else if (!b2) = true then k [I 3] else if (!b3) = true then k [I 3] else if (!b4) = true then k [I 3] else P) ↔ k [I (if (b1 && (b2 && (b3 && b4))) = true then c else 3)]) := by
    intro b1 b2 b3 b4 P c h
    cases b1 <;> cases b2 <;> cases b3 <;> cases b4 <;> simp [h]
  rw [show decide (s.Head.Time < p.Time) = !decide (p.Time ≤ s.Head.Time) by by_cases h : p.Time ≤ s.Head.Time <;> simp [h] <;> omega]
  refine hc ?_
  rw [code_owner, code_heir, code_judge]
  rcases hk with hk | hk | hk <;> simp [hk, sBy]
  all_goals exact Iff.rfl) k
theorem spec_MayFollow_n (p : GHead) (s : GSigned) (hp : mHead p ≤ 1048576) (hs : mSigned s ≤ 1048576) (k) : call spec_MayFollow [.agg (eHead p), .agg (eSigned s)] k = k [.bool (sMay p s)] := call_of (fun k => by
  have e := spec_NextCode_n p s hp hs
  simp only [spec_MayFollow, un, cur0, e, binP_eql, beqI, atP_zero, rt_eq, scs_sc, scs_nil, flat_bool, true_and, and_true, sMay]) k
def findX {α : Type} (p : Nat → α → Bool) : Nat → List α → Int
  | _, [] => -1
  | i, x :: l => if p i x = true then (i : Int) else findX p (i + 1) l
theorem exitL_findX {α : Type} (p : Nat → α → Bool) (Q : Int → Prop) : ∀ (i : Nat) (l : List α), exitL p (fun i _ => Q i) (Q (-1)) i l = Q (findX p i l)
  | _, [] => rfl
  | i, x :: l => by
    rw [exitL, exitL_findX p Q (i + 1) l, findX]
    split <;> rfl
theorem lp_findX {α : Type} {R : (List PV → Prop) → List PV → Prop} {v : List PV} {Q : Int → Prop} (l : List α) (V : Nat → List PV) (p : Nat → α → Bool) (hv : v = V 0)
    (h : ∀ i x, l[i]? = some x → i < l.length → ∀ K, R K (V i) ↔ if p i x = true then Q i else K (V (i + 1))) (hf : ∀ K, R K (V l.length) ↔ Q (-1)) : lp R v ↔ Q (findX p 0 l) := by
  have := lp_exit l V p (fun i _ => Q i) hv (fun i x hx => h i x hx (lt_of_get hx)) hf
  rwa [exitL_findX] at this
def wrongP (l : List GSigned) (i : Nat) (x : GSigned) : Bool := if i = 0 then !sIsFirst x else match l[i - 1]? with | some y => !sMay y.Head x | none => true
def sFW (l : List GSigned) : Int := findX (wrongP l) 0 l
theorem chain_le {l : List GSigned} (h : mSignedS l ≤ 1048576) : l.length ≤ 1048576 ∧ ∀ x ∈ l, mSigned x ≤ 1048576 := by
  unfold mSignedS at h
  refine ⟨by omega, fun x hx => ?_⟩
  have := sumN_mem (s := mSigned) hx
  omega
theorem impl_FirstWrong_n (l : List GSigned) (h : mSignedS l ≤ 1048576) (k) : call impl_FirstWrong [.one (.list 17 (l.map eSigned))] k = k [I (sFW l)] := call_of (fun k => by
  obtain ⟨hl, hx0⟩ := chain_le h
  simp only [impl_FirstWrong, lenP_eq, List.length_map, rt_eq, scs_sc, scs_nil, flat_int, true_and]
  refine lp_findX (Q := fun i => k [I i]) l (fun i => [.list 17 (l.map eSigned), I 0, .list 17 (l.map eSigned), I l.length, I i]) (wrongP l) rfl (fun i x hx hi K => ?_) fun K => ?_
  · have hm := hx0 x (mem_get hx)
    by_cases h0 : i = 0
    · subst h0
      have e := impl_IsFirst_n x hm
      simp [-getElem?_pos, impl_FirstWrong_r0, hx, hi, e, wrongP, wr_eq]
    · obtain ⟨y, hy⟩ : ∃ y, l[i - 1]? = some y := ⟨l[i - 1], List.getElem?_eq_getElem (by omega)⟩
      have e := impl_MayFollow_n y.Head x (signed_le (hx0 y (mem_get hy))).1 hm
      simp [-getElem?_pos, impl_FirstWrong_r0, hx, hi, hy, h0, e, wrongP, show ¬ (i : Int) = 0 by omega, show 0 < i by omega, wr_pred (show 0 < i by omega) (show i < 1000000000000000000 by omega), wr_succ (show i < 1000000000000000000 by omega)]
  · simp [impl_FirstWrong_r0]) k
theorem spec_FirstWrong_n (l : List GSigned) (h : mSignedS l ≤ 1048576) (k) : call spec_FirstWrong [.one (.list 17 (l.map eSigned))] k = k [I (sFW l)] := call_of (fun k => by
  obtain ⟨hl, hx0⟩ := chain_le h
  simp only [spec_FirstWrong, lenP_eq, List.length_map, rt_eq, scs_sc, scs_nil, flat_int, true_and]
  refine lp_findX (Q := fun i => k [I i]) l (fun i => [.list 17 (l.map eSigned), I 0, I i]) (wrongP l) rfl (fun i x hx hi K => ?_) fun K => ?_
  · have hm := hx0 x (mem_get hx)
    by_cases h0 : i = 0
    · subst h0
      have e := spec_IsFirst_n x hm
      simp [-getElem?_pos, spec_FirstWrong_r0, hx, hi, e, wrongP, wr_eq]
    · obtain ⟨y, hy⟩ : ∃ y, l[i - 1]? = some y := ⟨l[i - 1], List.getElem?_eq_getElem (by omega)⟩
      have e := spec_MayFollow_n y.Head x (signed_le (hx0 y (mem_get hy))).1 hm
      simp [-getElem?_pos, spec_FirstWrong_r0, hx, hi, hy, h0, e, wrongP, show ¬ (i : Int) = 0 by omega, show 0 < i by omega, wr_pred (show 0 < i by omega) (show i < 1000000000000000000 by omega), wr_succ (show i < 1000000000000000000 by omega)]
  · simp [spec_FirstWrong_r0]) k
def sIsChain (l : List GSigned) : Bool := inR l.length 1 12 && decide (sFW l < 0)
theorem impl_IsChain_n (l : List GSigned) (h : mSignedS l ≤ 1048576) (k) : call impl_IsChain [.one (.list 17 (l.map eSigned))] k = k [.bool (sIsChain l)] := call_of (fun k => by
  have e := impl_FirstWrong_n l h
  simp only [impl_IsChain, lenP_eq, List.length_map, impl_InRange_n, e, binP_lss, atP_zero, iteP_eq, rt_eq, scs_sc, scs_nil, flat_bool, true_and, and_true]
  exact stepB fun _ => Iff.rfl) k
theorem spec_IsChain_n (l : List GSigned) (h : mSignedS l ≤ 1048576) (k) : call spec_IsChain [.one (.list 17 (l.map eSigned))] k = k [.bool (sIsChain l)] := call_of (fun k => by
  have e := spec_FirstWrong_n l h
  simp only [spec_IsChain, lenP_eq, List.length_map, spec_l1In_n, e, binP_lss, atP_zero, iteP_eq, rt_eq, scs_sc, scs_nil, flat_bool, true_and, and_true]
  exact stepB fun _ => Iff.rfl) k
theorem chain_has {l : List GSigned} (h : sIsChain l = true) : ∃ p, l[l.length - 1]? = some p ∧ 0 < l.length := by
  unfold sIsChain inR at h
  simp only [Bool.and_eq_true, decide_eq_true_eq] at h
  exact ⟨l[l.length - 1], List.getElem?_eq_getElem (by omega), by omega⟩
def zHead : GHead := ⟨0, 0, 0, 0, 0, 0, 0, 0, ⟨[], 0⟩, ⟨[], 0⟩, 0, ⟨[], 0⟩, false⟩
def sLast (l : List GSigned) : Option GHead := if sIsChain l = true then (l[l.length - 1]?).map (·.Head) else none
def oHead : Option GHead → List PV
  | some h => eHead h ++ [.bool true]
  | none => eHead zHead ++ [.bool false]
theorem impl_copyKeys_n (a : GKeys) (h : mKeys a ≤ 1048576) (k) : call impl_copyKeys [.agg (eKeys a)] k = k (eKeys a) := call_of (fun k => by
  unfold mKeys at h
  have e : ∀ k, call slices_Clone_int [.one (ints a.Lst)] k = k [ints a.Lst] := call_of (fun k => by
    simp [slices_Clone_int, nilP, flatRows_ints, catP, show a.Lst.length < 1073741824 by omega]
    intro h1 h2; simpa [h2] using h1)
  simp [impl_copyKeys, e]) k
theorem impl_copyHead_n (a : GHead) (h : mHead a ≤ 1048576) (k) : call impl_copyHead [.agg (eHead a)] k = k (eHead a) := call_of (fun k => by
  obtain ⟨h1, h2, h3⟩ := keys_le h
  simp [impl_copyHead, impl_copyKeys_n a.Keys h1, impl_copyKeys_n a.Heirs h2, impl_copyKeys_n a.Judge h3]) k
theorem last_le {l : List GSigned} {p : GHead} (h : mSignedS l ≤ 1048576) (hp : sLast l = some p) : mHead p ≤ 1048576 := by
  unfold sLast at hp
  split at hp
  · obtain ⟨s, hs, rfl⟩ := Option.map_eq_some_iff.1 hp
    exact (signed_le ((chain_le h).2 s (mem_get hs))).1
  · cases hp
def stepDig (s : GStored) : Int := match sLast s.Answer.Chain with | some p => sDigest p | none => 0
def stepInts (s : GStored) : List Int := s.Zone :: (sLabelInts s.Label ++ [stepDig s])
theorem stepInts_len : ∀ (l : List GStored), (l.flatMap stepInts).length ≤ 3 * l.length + sumN mStored l
  | [] => by simp
  | s :: l => by
    have := stepInts_len l
    have h2 : (stepInts s).length = s.Label.size + 3 := by simp [stepInts, sLabelInts_len]
    have h3 : s.Label.size ≤ mStored s := by unfold mStored; omega
    simp only [List.flatMap_cons, List.length_append, List.length_cons, h2, sumN]
    omega
theorem flat_take {l : List GStored} {i : Nat} {x : GStored} (hx : l[i]? = some x) : (l.take (i + 1)).flatMap stepInts = (l.take i).flatMap stepInts ++ (x.Zone :: (sLabelInts x.Label ++ [stepDig x])) := by
  rw [take_snoc hx, List.flatMap_append]; simp [stepInts]
theorem take_len {l : List GStored} (h : l.length + sumN mStored l ≤ 1048576) (i : Nat) : ((l.take i).flatMap stepInts).length ≤ 4194304 := by
  have h1 := stepInts_len (l.take i)
  have h2 := sumN_take_le mStored l i
  have h3 : (l.take i).length ≤ l.length := by simp; omega
  omega
theorem stored_le {l : List GStored} (h : l.length + sumN mStored l ≤ 1048576) {x : GStored} (hx : x ∈ l) : mSignedS x.Answer.Chain ≤ 1048576 ∧ x.Label.size ≤ 1048576 := by
  have h1 := sumN_mem (s := mStored) hx
  have e : mStored x = x.Label.size + (mSignedS x.Answer.Chain + (mEntry x.Answer.Entry + (mProof x.Answer.Proof + mGap x.Answer.Gap))) := rfl
  omega
end Go.Ev
set_option linter.unusedVariables false
set_option linter.unusedSimpArgs false
set_option maxRecDepth 4000
namespace Go.Ev
open Go.Proofs
/-! ### Forks of two chains -/
def zSgn : GSigned := ⟨zHead, []⟩
def zFork : GFork := ⟨zSgn, zSgn, zSgn⟩
def fdiff : Nat → List (GSigned × GSigned) → Option (Nat × GSigned × GSigned)
  | _, [] => none
  | i, (x, y) :: l => if x.Head = y.Head then fdiff (i + 1) l else some (i, x, y)
theorem exitL_fdiff (P : Nat → GSigned × GSigned → Prop) : ∀ (i : Nat) (l : List (GSigned × GSigned)), exitL (fun _ q => !decide (q.1.Head = q.2.Head)) P False i l = match fdiff i l with | some (d, x, y) => P d (x, y) | none => False
  | _, [] => rfl
  | i, (x, y) :: l => by
    rw [exitL, fdiff, exitL_fdiff P (i + 1) l]
    by_cases h : x.Head = y.Head <;> simp [h]
theorem fdiff_none : ∀ (i : Nat) (l : List (GSigned × GSigned)), fdiff i l = none → ∀ q ∈ l, q.1.Head = q.2.Head
  | _, [], _, q, hq => by cases hq
  | i, (x, y) :: l, h, q, hq => by
    rw [fdiff] at h
    split at h
    · rename_i hxy
      rcases List.mem_cons.1 hq with rfl | hq
      · exact hxy
      · exact fdiff_none (i + 1) l h q hq
    · cases h
theorem anyI_none {α : Type} (p : Nat → α → Bool) : ∀ (i : Nat) (l : List α), (∀ j x, l[j]? = some x → p (i + j) x = false) → anyI p i l = false
  | _, [], _ => rfl
  | i, x :: l, h => by
    have h0 := h 0 x rfl
    rw [Nat.add_zero] at h0
    rw [anyI, h0, Bool.false_or]
    exact anyI_none p (i + 1) l fun j y hy => by
      have := h (j + 1) y (by simpa using hy)
      rwa [show i + (j + 1) = i + 1 + j by omega] at this
theorem zip_get {l m : List GSigned} {i : Nat} {x y : GSigned} (hx : l[i]? = some x) (hy : m[i]? = some y) : (x, y) ∈ l.zip m := by
  apply List.mem_of_getElem? (i := i)
  rw [List.getElem?_zip_eq_some]
  exact ⟨hx, hy⟩
theorem pre_of_same {l m : List GSigned} (h : ∀ q ∈ l.zip m, q.1.Head = q.2.Head) (hl : l.length ≤ m.length) : sPre l m = true := by
  unfold sPre
  have : anyI (preP m) 0 l = false := anyI_none _ 0 l fun j x hx => by
    have hj := lt_of_get hx
    have hy : m[j]? = some m[j] := List.getElem?_eq_getElem (by omega)
    have := h _ (zip_get hx hy)
    rw [Nat.zero_add]
    unfold preP
    rw [hy]
    simp only [Bool.not_eq_false', decide_eq_true_eq]
    exact this
  rw [this]
  simp [hl]
theorem fdiff_some {l m : List GSigned} (h1 : sPre l m = false) (h2 : sPre m l = false) : ∃ d x y, fdiff 0 (l.zip m) = some (d, x, y) := by
  cases h : fdiff 0 (l.zip m) with
  | some q => exact ⟨q.1, q.2.1, q.2.2, rfl⟩
  | none =>
    have h3 := fdiff_none 0 _ h
    rcases Nat.le_total l.length m.length with h4 | h4
    · rw [pre_of_same h3 h4] at h1; cases h1
    · rw [pre_of_same (l := m) (m := l) (fun q hq => by
        obtain ⟨i, hi⟩ := List.mem_iff_getElem?.1 hq
        rw [List.getElem?_zip_eq_some] at hi
        exact (h3 _ (zip_get hi.2 hi.1)).symm) h4] at h2
      cases h2
def befS (l : List GSigned) (d : Nat) : GSigned := if d = 0 then zSgn else match l[d - 1]? with | some z => z | none => zSgn
def sForkIn (l m : List GSigned) : Option GFork := if sIsChain l = true then (if sIsChain m = true then
    (match l[0]?, m[0]? with
      | some x, some y => if decide (x.Head.Zone = y.Head.Zone) = true then (if sPre l m = true then none else if sPre m l = true then none else
          match fdiff 0 (l.zip m) with | some (d, x, y) => some ⟨befS l d, x, y⟩ | none => none) else none
      | _, _ => none) else none) else none
def oFork : Option GFork → List PV
  | some f => eFork f ++ [.bool true]
  | none => eFork zFork ++ [.bool false]
theorem chain_fst {c : List GSigned} (h : sIsChain c = true) : ∃ s, c[0]? = some s := by
  obtain ⟨_, _, h0⟩ := chain_has h
  exact ⟨c[0], List.getElem?_eq_getElem h0⟩
theorem flatRows_sigs (l : List GSig) : flatRows (.list 2 (l.map eSig)) := by
  intro r hr p hp
  obtain ⟨x, _, rfl⟩ := List.mem_map.1 hr
  simp [eSig] at hp
  rcases hp with rfl | rfl <;> rfl
theorem impl_copySigned_n (s : GSigned) (h : mSigned s ≤ 1048576) (k) : call impl_copySigned [.agg (eSigned s)] k = k (eSigned s) := call_of (fun k => by
  have e1 := impl_copyHead_n s.Head (signed_le h).1
  have hl : s.Sigs.length ≤ 1048576 := by unfold mSigned at h; omega
  have e2 : ∀ k, call slices_Clone_Sig [.one (.list 2 (s.Sigs.map eSig))] k = k [.list 2 (s.Sigs.map eSig)] := call_of (fun k => by
    simp [slices_Clone_Sig, nilP, flatRows_sigs, catP, show s.Sigs.length < 1073741824 by omega]
    intro h1 h2; simpa [h2] using h1)
  simp [impl_copySigned, e1, e2]) k
theorem impl_ForkIn_n (l m : List GSigned) (h : mSignedS l ≤ 1048576) (h' : mSignedS m ≤ 1048576) (k) : call impl_ForkIn [.one (.list 17 (l.map eSigned)), .one (.list 17 (m.map eSigned))] k = k (oFork (sForkIn l m)) := call_of (fun k => by
  have e1 := impl_IsChain_n l h
  have e2 := impl_IsChain_n m h'
  have e3 := impl_IsPrefix_n l m h h'
  have e4 := impl_IsPrefix_n m l h' h
  have hl := (chain_le h).2
  have hm := (chain_le h').2
  have hll := (chain_le h).1
  have hlm := (chain_le h').1
  unfold sForkIn
  cases c1 : sIsChain l with
  | false => simp [impl_ForkIn, e1, c1, oFork, zFork, zSgn, zHead, ints]
  | true =>
  cases c2 : sIsChain m with
  | false => simp [impl_ForkIn, e1, e2, c1, c2, oFork, zFork, zSgn, zHead, ints]
  | true =>
  obtain ⟨x0, hx0⟩ := chain_fst c1
  obtain ⟨y0, hy0⟩ := chain_fst c2
  rw [hx0, hy0]
  by_cases c3 : x0.Head.Zone = y0.Head.Zone
  rotate_left
  · simp [-getElem?_pos, impl_ForkIn, e1, e2, c1, c2, hx0, hy0, c3, oFork, zFork, zSgn, zHead, ints]
  cases c4 : sPre l m with
  | true => simp [-getElem?_pos, impl_ForkIn, e1, e2, e3, c1, c2, hx0, hy0, c3, c4, oFork, zFork, zSgn, zHead, ints]
  | false =>
  cases c5 : sPre m l with
  | true => simp [-getElem?_pos, impl_ForkIn, e1, e2, e3, e4, c1, c2, hx0, hy0, c3, c4, c5, oFork, zFork, zSgn, zHead, ints]
  | false =>
  obtain ⟨d, x, y, hd⟩ := fdiff_some c4 c5
  simp only [impl_ForkIn, e1, e2, e3, e4, c1, c2, c4, c5, elemP_map, Int.toNat_zero, hx0, hy0, oP_some, atP_zero, atP_succ, unP_not, binP_neq, bne, beqI, c3, decide_true, Bool.not_true, Bool.false_eq_true, if_false, if_true, iteP_eq, Int.le_refl, show (0 : Int) ≤ 0 by omega, true_and]
  have key := exitL_fdiff (fun d q => k (oFork (some ⟨befS l d, q.1, q.2⟩))) 0 (l.zip m)
  rw [hd] at key
  simp only at key
  rw [hd]
  refine Iff.trans ?_ (Iff.of_eq key)
  refine lp_exit (l.zip m) (fun i => [.list 17 (l.map eSigned), .list 17 (m.map eSigned), .bool false, I i, (I 0), (I 0), (I 0), (I 0), (I 0), (I 0), (I 0), (I 0), (I 0), (I 0), (I 0), (I 0), (.bool false), (I 0), (I 0), (I 0), (I 0), (I 0), (I 0), (I 0), (I 0), (I 0), (I 0), (I 0), (I 0), (.bool false), (I 0), (I 0), (I 0), (I 0), (I 0), (I 0), (I 0), (I 0), (I 0), (I 0), (I 0), (I 0), (.bool false), (.list 2 []), (.list 1 []), (.list 1 []), (.list 1 []), (.list 2 []), (.list 1 []), (.list 1 []), (.list 1 []), (.list 2 []), (.list 1 []), (.list 1 []), (.list 1 [])]) (fun _ q => !decide (q.1.Head = q.2.Head)) (fun d q => k (oFork (some ⟨befS l d, q.1, q.2⟩))) rfl (fun i q hq K => ?_) fun K => ?_
  · obtain ⟨x, y⟩ := q
    obtain ⟨hx, hy⟩ := List.getElem?_zip_eq_some.1 hq
    have q1 := impl_EqualHeads_n x.Head y.Head (signed_le (hl x (mem_get hx))).1 (signed_le (hm y (mem_get hy))).1
    have q2 := impl_copySigned_n x (hl x (mem_get hx))
    have q3 := impl_copySigned_n y (hm y (mem_get hy))
    have hil := lt_of_get hx
    have him := lt_of_get hy
    by_cases hxy : x.Head = y.Head
    · have hxy' : decide (x.Head = y.Head) = true := by simp [hxy]
      rw [hxy'] at q1
      simp [-getElem?_pos, impl_ForkIn_r0, hx, hy, q1, hxy', hil, him, wr_succ (show i < 1000000000000000000 by omega)]
    · have hxy' : decide (x.Head = y.Head) = false := by simp [hxy]
      rw [hxy'] at q1
      unfold befS
      by_cases h0 : i = 0
      · subst h0
        simp [-getElem?_pos, impl_ForkIn_r0, hx, hy, q1, q2, q3, hxy', hil, him, oFork, zSgn, zHead, ints]
      · obtain ⟨z, hz⟩ : ∃ z, l[i - 1]? = some z := ⟨l[i - 1], List.getElem?_eq_getElem (by omega)⟩
        have q4 := impl_copySigned_n z (hl z (mem_get hz))
        simp [-getElem?_pos, impl_ForkIn_r0, hx, hy, hz, q1, q2, q3, q4, hxy', hil, him, oFork, h0, show (0 : Int) < (i : Int) by omega, show 0 < i by omega, wr_pred (show 0 < i by omega) (show i < 1000000000000000000 by omega)]
  · have : (l.zip m)[(l.zip m).length]? = none := by simp
    have hq : l[(l.zip m).length]? = none ∨ m[(l.zip m).length]? = none := by
      simp only [List.length_zip, List.getElem?_eq_none_iff]; omega
    generalize (l.zip m).length = n at hq
    cases hx : l[n]? with
    | none => simp [-getElem?_pos, impl_ForkIn_r0, hx]
    | some x =>
      have hy : m[n]? = none := by rcases hq with h | h; (rw [hx] at h; cases h); exact h
      simp [-getElem?_pos, impl_ForkIn_r0, hx, hy]) k
theorem spec_ForkIn_n (l m : List GSigned) (h : mSignedS l ≤ 1048576) (h' : mSignedS m ≤ 1048576) (k) : call spec_ForkIn [.one (.list 17 (l.map eSigned)), .one (.list 17 (m.map eSigned))] k = k (oFork (sForkIn l m)) := call_of (fun k => by
  have e1 := spec_IsChain_n l h
  have e2 := spec_IsChain_n m h'
  have e3 := spec_IsPrefix_n l m h h'
  have e4 := spec_IsPrefix_n m l h' h
  have hl := (chain_le h).2
  have hm := (chain_le h').2
  have hll := (chain_le h).1
  have hlm := (chain_le h').1
  unfold sForkIn
  cases c1 : sIsChain l with
  | false => simp [spec_ForkIn, e1, c1, oFork, zFork, zSgn, zHead, ints]
  | true =>
  cases c2 : sIsChain m with
  | false => simp [spec_ForkIn, e1, e2, c1, c2, oFork, zFork, zSgn, zHead, ints]
  | true =>
  obtain ⟨x0, hx0⟩ := chain_fst c1
  obtain ⟨y0, hy0⟩ := chain_fst c2
  rw [hx0, hy0]
  by_cases c3 : x0.Head.Zone = y0.Head.Zone
  rotate_left
  · simp [-getElem?_pos, spec_ForkIn, e1, e2, c1, c2, hx0, hy0, c3, oFork, zFork, zSgn, zHead, ints]
  cases c4 : sPre l m with
  | true => simp [-getElem?_pos, spec_ForkIn, e1, e2, e3, c1, c2, hx0, hy0, c3, c4, oFork, zFork, zSgn, zHead, ints]
  | false =>
  cases c5 : sPre m l with
  | true => simp [-getElem?_pos, spec_ForkIn, e1, e2, e3, e4, c1, c2, hx0, hy0, c3, c4, c5, oFork, zFork, zSgn, zHead, ints]
  | false =>
  obtain ⟨d, x, y, hd⟩ := fdiff_some c4 c5
  simp only [spec_ForkIn, e1, e2, e3, e4, c1, c2, c4, c5, elemP_map, Int.toNat_zero, hx0, hy0, oP_some, atP_zero, atP_succ, unP_not, binP_neq, bne, beqI, c3, decide_true, Bool.not_true, Bool.false_eq_true, if_false, if_true, iteP_eq, Int.le_refl, show (0 : Int) ≤ 0 by omega, true_and]
  have key := exitL_fdiff (fun d q => k (oFork (some ⟨befS l d, q.1, q.2⟩))) 0 (l.zip m)
  rw [hd] at key
  simp only at key
  rw [hd]
  refine Iff.trans ?_ (Iff.of_eq key)
  refine lp_exit (l.zip m) (fun i => [.list 17 (l.map eSigned), .list 17 (m.map eSigned), .bool false, I i, (I 0), (I 0), (I 0), (I 0), (I 0), (I 0), (I 0), (I 0), (I 0), (I 0), (I 0), (I 0), (.bool false), (I 0), (I 0), (I 0), (I 0), (I 0), (I 0), (I 0), (I 0), (I 0), (I 0), (I 0), (I 0), (.bool false), (I 0), (I 0), (I 0), (I 0), (I 0), (I 0), (I 0), (I 0), (I 0), (I 0), (I 0), (I 0), (.bool false), (.list 2 []), (.list 1 []), (.list 1 []), (.list 1 []), (.list 2 []), (.list 1 []), (.list 1 []), (.list 1 []), (.list 2 []), (.list 1 []), (.list 1 []), (.list 1 [])]) (fun _ q => !decide (q.1.Head = q.2.Head)) (fun d q => k (oFork (some ⟨befS l d, q.1, q.2⟩))) rfl (fun i q hq K => ?_) fun K => ?_
  · obtain ⟨x, y⟩ := q
    obtain ⟨hx, hy⟩ := List.getElem?_zip_eq_some.1 hq
    have q1 := spec_EqualHeads_n x.Head y.Head (signed_le (hl x (mem_get hx))).1 (signed_le (hm y (mem_get hy))).1
    have q2 := spec_l14Copy_n x (hl x (mem_get hx))
    have q3 := spec_l14Copy_n y (hm y (mem_get hy))
    have hil := lt_of_get hx
    have him := lt_of_get hy
    by_cases hxy : x.Head = y.Head
    · have hxy' : decide (x.Head = y.Head) = true := by simp [hxy]
      rw [hxy'] at q1
      simp [-getElem?_pos, spec_ForkIn_r0, hx, hy, q1, hxy', hil, him, wr_succ (show i < 1000000000000000000 by omega)]
    · have hxy' : decide (x.Head = y.Head) = false := by simp [hxy]
      rw [hxy'] at q1
      unfold befS
      by_cases h0 : i = 0
      · subst h0
        simp [-getElem?_pos, spec_ForkIn_r0, hx, hy, q1, q2, q3, hxy', hil, him, oFork, zSgn, zHead, ints]
      · obtain ⟨z, hz⟩ : ∃ z, l[i - 1]? = some z := ⟨l[i - 1], List.getElem?_eq_getElem (by omega)⟩
        have q4 := spec_l14Copy_n z (hl z (mem_get hz))
        simp [-getElem?_pos, spec_ForkIn_r0, hx, hy, hz, q1, q2, q3, q4, hxy', hil, him, oFork, h0, show (0 : Int) < (i : Int) by omega, show 0 < i by omega, wr_pred (show 0 < i by omega) (show i < 1000000000000000000 by omega)]
  · have hq : l[(l.zip m).length]? = none ∨ m[(l.zip m).length]? = none := by
      simp only [List.length_zip, List.getElem?_eq_none_iff]; omega
    generalize (l.zip m).length = n at hq
    cases hx : l[n]? with
    | none =>
      have hn : ¬ (n : Int) < (l.length : Int) := by have := List.getElem?_eq_none_iff.1 hx; omega
      simp [-getElem?_pos, spec_ForkIn_r0, hx, show ¬ n < l.length by omega]
    | some x =>
      have hy : m[n]? = none := by rcases hq with h | h; (rw [hx] at h; cases h); exact h
      have h1 := lt_of_get hx
      have hn : ¬ (n : Int) < (m.length : Int) := by have := List.getElem?_eq_none_iff.1 hy; omega
      have c := spec_l14Copy_n x (hl x (mem_get hx))
      simp [-getElem?_pos, spec_ForkIn_r0, hx, hy, h1, show ¬ n < m.length by omega, c]) k
end Go.Ev
set_option linter.unusedVariables false
set_option linter.unusedSimpArgs false
set_option maxRecDepth 4000
namespace Go.Ev
open Go.Proofs
/-! ### How many pairs are forks -/
def fkB (a b : GSaid) : Bool := (sForkIn a.Zone.Chain b.Zone.Chain).isSome
theorem oFork51 (o : Option GFork) : atP (oFork o) 51 = .bool o.isSome := by cases o <;> rfl
def pairsN : List GSaid → Nat
  | [] => 0
  | x :: l => l.countP (fkB x) + pairsN l
theorem pairsN_snoc (b : GSaid) : ∀ (l : List GSaid), pairsN (l ++ [b]) = pairsN l + l.countP (fun a => fkB a b)
  | [] => rfl
  | x :: l => by
    rw [List.cons_append, pairsN, pairsN, pairsN_snoc b l, List.countP_append, List.countP_cons]
    simp only [List.countP_cons, List.countP_nil]
    omega
theorem pairsN_le : ∀ (l : List GSaid), pairsN l ≤ l.length * l.length
  | [] => by simp [pairsN]
  | x :: l => by
    have h1 := pairsN_le l
    have h2 : l.countP (fkB x) ≤ l.length := List.countP_le_length
    rw [pairsN, List.length_cons, Nat.succ_mul, Nat.mul_succ]
    omega
theorem pairsN_small {l : List GSaid} (h : l.length ≤ 1048576) : pairsN l ≤ 1099511627776 := by
  have h1 := pairsN_le l
  have h2 : l.length * l.length ≤ 1048576 * 1048576 := Nat.mul_le_mul h h
  omega
theorem pairsN_drop : ∀ (l : List GSaid) (i : Nat), pairsN (l.drop i) ≤ pairsN l
  | _, 0 => Nat.le_refl _
  | [], i + 1 => by simp
  | x :: l, i + 1 => by
    have := pairsN_drop l i
    rw [List.drop_succ_cons, pairsN]; omega
theorem pairsN_at {l : List GSaid} {i : Nat} {x : GSaid} (h : l[i]? = some x) : pairsN (l.drop i) = (l.drop (i + 1)).countP (fkB x) + pairsN (l.drop (i + 1)) := by
  have hi := lt_of_get h
  rw [List.drop_eq_getElem_cons hi, pairsN]
  have : l[i] = x := by rw [List.getElem?_eq_getElem hi] at h; exact Option.some.inj h
  rw [this]
theorem count_take {α : Type} (p : α → Bool) {m : List α} {j : Nat} {a : α} (h : m[j]? = some a) : (m.take (j + 1)).countP p = (m.take j).countP p + if p a = true then 1 else 0 := by
  rw [take_snoc h, List.countP_append, List.countP_cons, List.countP_nil]; omega
theorem count_le {α : Type} (p : α → Bool) (m : List α) (j : Nat) : (m.take j).countP p ≤ m.length := by
  have h1 : (m.take j).countP p ≤ (m.take j).length := List.countP_le_length
  have h2 : (m.take j).length ≤ m.length := by simp; omega
  omega
theorem wr_nat {n : Nat} (h : n < 1000000000000000000) : IntKind.i64.wrap (n : Int) = n := wr_eq (by omega) (by omega)
theorem said_le3 {w : GWorld} (h : mWorld w ≤ 1048576) : w.Said.length ≤ 1048576 ∧ ∀ s ∈ w.Said, mSignedS s.Zone.Chain ≤ 1048576 := by
  unfold mWorld mSaidS at h
  refine ⟨by omega, fun s hs => ?_⟩
  have := sumN_mem (s := mSaid) hs
  have e : mSaid s = (mSignedS s.Zone.Chain + mEntryS s.Zone.Entries) + s.Held.length := rfl
  omega
theorem spec_CountForks_n (w : GWorld) (h : mWorld w ≤ 1048576) (k) : call spec_CountForks [.agg (eWorld w)] k = k [I (pairsN w.Said)] := call_of (fun k => by
  obtain ⟨hl, hs⟩ := said_le3 h
  have hp := pairsN_small hl
  simp only [spec_CountForks, un, cur0]
  have e0 : (0 : Int) = ((pairsN w.Said - pairsN (w.Said.drop 0) : Nat) : Int) := by simp
  refine lp_list w.Said (fun i => I 0 :: I ((pairsN w.Said - pairsN (w.Said.drop i) : Nat) : Int) :: I i :: eWorld w) (by simp) (fun i x hx hi K => ?_) fun K => ?_
  · have hd := pairsN_drop w.Said i
    have hd2 := pairsN_drop w.Said (i + 1)
    have ha := pairsN_at hx
    simp only [spec_CountForks_r0, un, cur0, lenP_eq, List.length_map, binP_lss, show (i : Int) < (w.Said.length : Int) by omega, decide_true, iteP_eq, if_true, binP_add, wr_succ (show i < 1000000000000000000 by omega)]
    have hlen : (w.Said.drop (i + 1)).length = w.Said.length - (i + 1) := by simp
    refine lp_list (w.Said.drop (i + 1)) (fun j => I 0 :: I ((pairsN w.Said - pairsN (w.Said.drop i) + ((w.Said.drop (i + 1)).take j).countP (fkB x) : Nat) : Int) :: I i :: I ((i : Int) + 1 + j) :: eWorld w) (by simp) (fun j y hy hj K' => ?_) fun K' => ?_
    · have hy' : w.Said[i + 1 + j]? = some y := by rw [List.getElem?_drop] at hy; exact hy
      have hij := lt_of_get hy'
      have e1 := spec_ForkIn_n x.Zone.Chain y.Zone.Chain (hs x (mem_get hx)) (hs y (mem_get hy'))
      have hc := count_take (fkB x) hy
      have hcl := count_le (fkB x) (w.Said.drop (i + 1)) j
      have q1 : (i : Int) + 1 + j = ((i + 1 + j : Nat) : Int) := by omega
      have q2 : IntKind.i64.wrap (((i + 1 + j : Nat) : Int) + 1) = (i : Int) + 1 + ((j + 1 : Nat) : Int) := by rw [wr_succ (by omega)]; omega
      rw [q1]
      simp only [spec_CountForks_r1, un, cur0, lenP_eq, List.length_map, binP_lss, show ((i + 1 + j : Nat) : Int) < (w.Said.length : Int) by omega, decide_true, iteP_eq, if_true, elemP_map, Int.toNat_natCast, hx, hy', oP_some, atP_zero, e1, oFork51, binP_add, q2, show (0 : Int) ≤ (i : Int) by omega, show (0 : Int) ≤ ((i + 1 + j : Nat) : Int) by omega, true_and]
      rw [hc]
      have hb : fkB x y = (sForkIn x.Zone.Chain y.Zone.Chain).isSome := rfl
      rw [← hb]
      have ht : pairsN w.Said - pairsN (w.Said.drop i) ≤ 1099511627776 := by omega
      generalize ((w.Said.drop (i + 1)).take j).countP (fkB x) = c at *
      generalize pairsN w.Said - pairsN (w.Said.drop i) = t at *
      have q3 : IntKind.i64.wrap (((t + c : Nat) : Int) + 1) = ((t + (c + 1) : Nat) : Int) := by rw [wr_succ (by omega)]; omega
      cases fkB x y <;> simp only [q3, Bool.false_eq_true, if_true, if_false, Nat.add_zero]
    · have q1 : (i : Int) + 1 + ((w.Said.drop (i + 1)).length : Int) = (w.Said.length : Int) := by rw [hlen]; omega
      rw [q1]
      have q2 : (pairsN w.Said - pairsN (w.Said.drop i) + (w.Said.drop (i + 1)).countP (fkB x) : Nat) = pairsN w.Said - pairsN (w.Said.drop (i + 1)) := by omega
      simp only [spec_CountForks_r1, un, cur0, lenP_eq, List.length_map, binP_lss, Int.lt_irrefl, decide_false, iteP_eq, Bool.false_eq_true, if_false, binP_add, wr_succ (show i < 1000000000000000000 by omega), List.take_length, q2]
      simp
  · simp only [spec_CountForks_r0, un, cur0, lenP_eq, List.length_map, binP_lss, Int.lt_irrefl, decide_false, iteP_eq, Bool.false_eq_true, if_false, List.drop_length, pairsN, Nat.sub_zero, rt_eq, scs_sc, scs_nil, flat_int, true_and]) k
theorem impl_CountForks_n (w : GWorld) (h : mWorld w ≤ 1048576) (k) : call impl_CountForks [.agg (eWorld w)] k = k [I (pairsN w.Said)] := call_of (fun k => by
  obtain ⟨hl, hs⟩ := said_le3 h
  simp only [impl_CountForks, un, cur0, lenP_eq, List.length_map]
  refine lp_list w.Said (fun i => I 0 :: I (pairsN (w.Said.take i) : Int) :: .list 3 (w.Said.map eSaid) :: I w.Said.length :: I i :: eWorld w) rfl (fun i x hx hi K => ?_) fun K => ?_
  · have hlen : (w.Said.take i).length = i := by simp; omega
    have hp := pairsN_small (l := w.Said.take i) (by omega)
    simp only [impl_CountForks_r0, un, cur0, binP_lss, show (i : Int) < (w.Said.length : Int) by omega, decide_true, iteP_eq, if_true, elemP_map, Int.toNat_natCast, hx, oP_some, atP_zero, atP_succ, natP_eq, cutP_eq, Option.getD_none, Option.getD_some, List.length_map, List.drop_zero, ← List.map_take, lenP_eq, hlen, show (0 : Int) ≤ (i : Int) by omega, Nat.zero_le, show i ≤ w.Said.length by omega, true_and]
    refine lp_list (w.Said.take i) (fun j => I 0 :: I ((pairsN (w.Said.take i) + ((w.Said.take i).take j).countP (fun a => fkB a x) : Nat) : Int) :: .list 3 (w.Said.map eSaid) :: I w.Said.length :: I i :: .list 3 ((w.Said.take i).map eSaid) :: I i :: I j :: (eSaid x ++ eWorld w)) (by simp) (fun j y hy hj K' => ?_) fun K' => ?_
    · have hj' : j < i := by rw [hlen] at hj; exact hj
      have hym : y ∈ w.Said := List.mem_of_mem_take (mem_get hy)
      have e1 := impl_ForkIn_n y.Zone.Chain x.Zone.Chain (hs y hym) (hs x (mem_get hx))
      have hc := count_take (fun a => fkB a x) hy
      have hcl := count_le (fun a => fkB a x) (w.Said.take i) j
      simp only [impl_CountForks_r1, un, cur0, List.cons_append, List.nil_append, binP_lss, show (j : Int) < (i : Int) by omega, decide_true, iteP_eq, if_true, elemP_map, Int.toNat_natCast, hy, oP_some, atP_zero, e1, oFork51, impl_bit_n, binP_add, wr_succ (show j < 1000000000000000000 by omega), show (0 : Int) ≤ (j : Int) by omega, true_and]
      rw [hc]
      have hb : fkB y x = (sForkIn y.Zone.Chain x.Zone.Chain).isSome := rfl
      rw [← hb]
      generalize ((w.Said.take i).take j).countP (fun a => fkB a x) = c at *
      generalize pairsN (w.Said.take i) = t at *
      have q3 : IntKind.i64.wrap (((t + c : Nat) : Int) + bitI (fkB y x)) = ((t + (c + if fkB y x = true then 1 else 0) : Nat) : Int) := by
        cases fkB y x with
        | true => rw [show bitI true = 1 from rfl, wr_succ (by omega), if_pos rfl]; omega
        | false => rw [show bitI false = 0 from rfl, Int.add_zero, wr_nat (by omega), if_neg (by simp)]; rfl
      rw [q3]
      simp
    · have q2 : pairsN (w.Said.take (i + 1)) = pairsN (w.Said.take i) + (w.Said.take i).countP (fun a => fkB a x) := by rw [take_snoc hx, pairsN_snoc]
      rw [hlen]
      have q4 : (w.Said.take i).take i = w.Said.take i := by rw [List.take_take, Nat.min_self]
      simp only [impl_CountForks_r1, un, cur0, List.cons_append, List.nil_append, binP_lss, Int.lt_irrefl, decide_false, iteP_eq, Bool.false_eq_true, if_false, binP_add, wr_succ (show i < 1000000000000000000 by omega), q4, q2]
      simp
  · simp only [impl_CountForks_r0, un, cur0, binP_lss, Int.lt_irrefl, decide_false, iteP_eq, Bool.false_eq_true, if_false, List.take_length, rt_eq, scs_sc, scs_nil, flat_int, true_and]) k
end Go.Ev
set_option linter.unusedVariables false
set_option linter.unusedSimpArgs false
set_option maxRecDepth 4000
set_option maxHeartbeats 2000000
namespace Go.Ev
open Go.Proofs
theorem laws_FnExactCountForks_law (pvss : List (List PV)) (h : HasEach [[.int .i64, .list [.list [.int .i64]], .list [.list [.int .i64, .int .i64, .int .i64, .int .i64, .int .i64, .int .i64, .int .i64, .int .i64, .list [.int .i64], .int .i64, .list [.int .i64], .int .i64, .int .i64, .list [.int .i64], .int .i64, .bool, .list [.int .i64, .int .i64]], .list [.str, .int .i64, .int .i64, .list [.str]]], .list [.list [.int .i64, .int .i64, .int .i64, .int .i64, .int .i64, .int .i64, .int .i64, .int .i64, .list [.int .i64], .int .i64, .list [.int .i64], .int .i64, .int .i64, .list [.int .i64], .int .i64, .bool, .list [.int .i64, .int .i64]], .list [.str, .int .i64, .int .i64, .list [.str]], .list [.int .i64]], .list [.list [.list [.int .i64, .int .i64, .int .i64, .int .i64, .int .i64, .int .i64, .int .i64, .int .i64, .list [.int .i64], .int .i64, .list [.int .i64], .int .i64, .int .i64, .list [.int .i64], .int .i64, .bool, .list [.int .i64, .int .i64]], .list [.str, .int .i64, .int .i64, .list [.str]]], .int .i64], .list [.list [.int .i64, .int .i64, .int .i64, .int .i64, .int .i64, .int .i64, .int .i64, .int .i64, .list [.int .i64], .int .i64, .list [.int .i64], .int .i64, .int .i64, .list [.int .i64], .int .i64, .bool, .list [.int .i64, .int .i64]]], .list [.int .i64, .int .i64, .int .i64, .int .i64, .int .i64, .int .i64, .int .i64, .int .i64, .list [.int .i64], .int .i64, .list [.int .i64], .int .i64, .int .i64, .list [.int .i64], .int .i64, .bool, .list [.int .i64, .int .i64], .int .i64, .int .i64, .int .i64, .int .i64, .int .i64, .int .i64, .int .i64, .int .i64, .list [.int .i64], .int .i64, .list [.int .i64], .int .i64, .int .i64, .list [.int .i64], .int .i64, .bool, .list [.int .i64, .int .i64], .int .i64, .int .i64, .int .i64, .int .i64, .int .i64, .int .i64, .int .i64, .int .i64, .list [.int .i64], .int .i64, .list [.int .i64], .int .i64, .int .i64, .list [.int .i64], .int .i64, .bool, .list [.int .i64, .int .i64]], .list [.int .i64, .str, .list [.int .i64, .int .i64, .int .i64, .int .i64, .int .i64, .int .i64, .int .i64, .int .i64, .list [.int .i64], .int .i64, .list [.int .i64], .int .i64, .int .i64, .list [.int .i64], .int .i64, .bool, .list [.int .i64, .int .i64]], .bool, .str, .int .i64, .int .i64, .list [.str], .int .i64, .list [.int .i64], .int .i64, .str, .int .i64, .int .i64, .list [.str], .str, .int .i64, .int .i64, .list [.str], .int .i64, .list [.int .i64], .int .i64, .list [.int .i64]]]] pvss) : laws_FnExactCountForks (avsOf Tryz.prog Tryz.f11.params.toList pvss) (fun o => o = [PV.bool true]) := by
  obtain ⟨p0, r0, rfl, h0, hq0⟩ := each_cons h
  rw [each_nil hq0]
  obtain ⟨x0, rfl, w0⟩ := decWorld _ h0
  rw [show avsOf Tryz.prog Tryz.f11.params.toList [eWorld x0] = [.agg (eWorld x0)] by kernel_rfl]
  simp only [laws_FnExactCountForks, un, cur0, laws_szWorld_n x0 (1048576) w0 (by omega) (by omega), binP_lss, iteP_eq, atP_zero, atP_succ, rt_eq, scs_sc, scs_nil, flat_int, flat_bool, true_and, and_true]
  by_cases c0 : ((mWorld x0 : Nat) : Int) ≤ 1048576
  rotate_left
  · simp [szr_not c0]
  simp only [szr_yes c0, show ¬ (1048576 - ((mWorld x0 : Nat) : Int) < 0) by omega, decide_false, Bool.false_eq_true, if_false, binP_lss, iteP_eq, atP_zero, atP_succ, rt_eq, scs_sc, scs_nil, flat_int, flat_bool, true_and, and_true]
  have s0 : mWorld x0 ≤ 1048576 := by omega
  simp [laws_toWorld_n x0 s0, laws_eqWorld_n x0 s0, spec_CountForks_n x0 s0, impl_CountForks_n x0 s0]
end Go.Ev
