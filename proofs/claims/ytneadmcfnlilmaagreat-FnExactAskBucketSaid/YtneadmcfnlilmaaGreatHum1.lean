/- What each function hands back, in plain Lean, and that the laws answer true, part 1. -/
import Derived.Test.YtneadmcfnlilmaaGreatFn2
set_option linter.unusedVariables false
set_option linter.unusedSimpArgs false
set_option maxRecDepth 4000
namespace Go.Ev
open Go.Proofs
/-! ### The laws' own functions: copies, sizes, comparisons (printed by gentypes.py) -/
theorem szr_add {s t : Nat} {left : Int} (h : (s : Int) ≤ left) : szr (s + t) left = szr t (left - s) := by
  unfold szr
  by_cases h1 : (t : Int) ≤ left - s
  · rw [if_pos h1, if_pos (by omega)]; omega
  · rw [if_neg h1, if_neg (by omega)]
theorem szr_over {s t : Nat} {left : Int} (h : ¬ (s : Int) ≤ left) : szr (s + t) left = -1 := by unfold szr; rw [if_neg (by omega)]
theorem szr_not {s : Nat} {left : Int} (h : ¬ (s : Int) ≤ left) : szr s left = -1 := by unfold szr; rw [if_neg h]
theorem szr_yes {s : Nat} {left : Int} (h : (s : Int) ≤ left) : szr s left = left - s := by unfold szr; rw [if_pos h]
theorem szr_pos {s : Nat} {left : Int} (h : 0 ≤ szr s left) : (s : Int) ≤ left ∧ szr s left = left - s := by
  unfold szr at h ⊢
  split at h
  · rename_i h1; rw [if_pos h1]; exact ⟨h1, rfl⟩
  · omega
theorem sumN_mem {α : Type} {s : α → Nat} {x : α} : ∀ {l : List α}, x ∈ l → s x ≤ sumN s l
  | y :: l, h => by
    rw [show sumN s (y :: l) = s y + sumN s l from rfl]
    rcases List.mem_cons.1 h with rfl | h
    · omega
    · have := sumN_mem (s := s) h; omega
/-- one count, then the rest -/
theorem sz_seq {s t : Nat} {left : Int} {A : Int → Prop} {k : List PV → Prop} (h2 : 0 ≤ left) (h3 : left ≤ 1048576) (h : ∀ l, 0 ≤ l → l ≤ 1048576 → (A l ↔ k [I (szr t l)])) :
    (if decide (szr s left < 0) = true then k [I (-1)] else A (szr s left)) ↔ k [I (szr (s + t) left)] := by
  by_cases hs : (s : Int) ≤ left
  · rw [szr_yes hs, szr_add hs, if_neg (by simp; omega)]
    exact h _ (by omega) (by omega)
  · rw [szr_not hs, szr_over hs]; simp
theorem sz_end {s : Nat} {left : Int} {k : List PV → Prop} (h2 : 0 ≤ left) : (if decide (szr s left < 0) = true then k [I (-1)] else k [I (szr s left)]) ↔ k [I (szr s left)] := by
  by_cases hs : (s : Int) ≤ left
  · rw [szr_yes hs, if_neg (by simp; omega)]
  · rw [szr_not hs]; simp
/-- a length, taken off -/
theorem sz_len {n : Nat} {left : Int} {A : Int → Prop} {k : List PV → Prop} (h1 : n ≤ maxLen) (h2 : 0 ≤ left) (h3 : left ≤ 1048576) :
    (if decide (IntKind.i64.wrap (left - n) < 0) = true then k [I (-1)] else A (IntKind.i64.wrap (left - n))) ↔ (if decide (szr n left < 0) = true then k [I (-1)] else A (szr n left)) := by
  rw [wr_left h1 h2 h3]
  by_cases hs : (n : Int) ≤ left
  · rw [szr_yes hs]
  · rw [szr_not hs, if_pos (by simp; omega), if_pos (by simp)]

theorem has_strs {p : PV} (hp : Sh.has (.list [.str]) p) : ∃ l : List ByteArray, p = strs l ∧ (l.length ≤ maxLen ∧ ∀ y ∈ l, y.size ≤ maxLen) := by
  obtain ⟨l, h1, h2, h3⟩ := has_map (enc := rS) (wf := fun y => y.size ≤ maxLen) (fun r hr => by
    obtain ⟨p, rfl, h⟩ := all_one hr
    obtain ⟨n, rfl, g⟩ := has_str h
    exact ⟨n, rfl, g⟩) 1 rfl hp
  exact ⟨l, h1, h2, h3⟩
theorem laws_szIntS_n (l : List Int) (left : Int) (hw : l.length ≤ maxLen) (h2 : 0 ≤ left) (h3 : left ≤ 1048576) (k) : call laws_szIntS [.one (ints l), .one (I left)] k = k [I (szr l.length left)] := call_of (fun k => by
  simp only [laws_szIntS, lenP_eq, List.length_map, binP_sub, wr_left hw h2 h3, binP_lss, iteP_eq, rt_eq, scs_sc, scs_nil, flat_int, true_and, and_true]
  by_cases c : (l.length : Int) ≤ left
  · simp [szr_yes c, show ¬ (left - (l.length : Int) < 0) by omega]
  · simp [szr_not c, show left - (l.length : Int) < 0 by omega]) k
theorem laws_toIntS_n (l : List Int) (h : l.length ≤ 1048576) (k) : call laws_toIntS [.one (ints l)] k = k [ints l] := call_of (fun k => by
  have hm := h
  simp [laws_toIntS, show l.length < 1073741824 by omega]
  refine lp_toS l rI rI [I 0] 1 1 (.list 1 []) rfl (fun i x hx hi K rows hr hz => ?_) fun K => ?_
  · simp [-getElem?_pos, laws_toIntS_r0, hx, hi, hr, hz, over, wr_succ (show i < 1000000000000000000 by omega)]
  · simp [laws_toIntS_r0]) k
theorem laws_eqIntS_n (l : List Int) (h : l.length ≤ 1048576) (k) : call laws_eqIntS [.one (ints l), .one (ints l)] k = k [.bool true] := call_of (fun k => by
  have hm := h
  simp [laws_eqIntS]
  refine lp_eqS l rI 1 (.bool false) rfl (fun i x hx hi K => ?_) fun K => ?_
  · simp [-getElem?_pos, laws_eqIntS_r0, hx, hi, wr_succ (show i < 1000000000000000000 by omega)]
  · simp [laws_eqIntS_r0]) k
theorem laws_szStringS_n (l : List ByteArray) (left : Int) (hw : (l.length ≤ maxLen ∧ ∀ y ∈ l, y.size ≤ maxLen)) (h2 : 0 ≤ left) (h3 : left ≤ 1048576) (k) : call laws_szStringS [.one (strs l), .one (I left)] k = k [I (szr ((l.length + sumN ByteArray.size l)) left)] := call_of (fun k => by
  simp only [laws_szStringS, lenP_eq, List.length_map, binP_sub, wr_left hw.1 h2 h3, binP_lss, iteP_eq, rt_eq, scs_sc, scs_nil, flat_int, true_and, and_true]
  by_cases c : (l.length : Int) ≤ left
  rotate_left
  · simp [szr_over c, show left - (l.length : Int) < 0 by omega]
  simp only [szr_add c, show ¬ (left - (l.length : Int) < 0) by omega, decide_false, Bool.false_eq_true, if_false]
  refine (lp_sz (neg := k [I (-1)]) (fin := fun t => k [I t]) l rS 1 ByteArray.size (left - (l.length : Int)) (I 0) (by omega) (by omega) rfl (fun i x hx hi t ht1 ht2 K => ?_) fun t K => ?_).trans ?_
  · have e := wr_left (left := t) (hw.2 x (List.mem_of_getElem? hx)) ht1 ht2
    simp [-getElem?_pos, laws_szStringS_r0, hx, hi, e, wr_succ (show i < 1000000000000000000 by have := hw.1; omega)]
    by_cases hs : (x.size : Int) ≤ t
    · simp [hs, show ¬ (t - (x.size : Int) < 0) by omega]
    · simp [hs, show t - (x.size : Int) < 0 by omega]
  · simp [laws_szStringS_r0]
  · by_cases hs : ((sumN ByteArray.size l : Nat) : Int) ≤ left - (l.length : Int)
    · simp [szr_yes hs, hs]
    · simp [szr_not hs, hs]) k
theorem laws_toStringS_n (l : List ByteArray) (h : (l.length + sumN ByteArray.size l) ≤ 1048576) (k) : call laws_toStringS [.one (strs l)] k = k [strs l] := call_of (fun k => by
  have hm := h
  simp [laws_toStringS, show l.length < 1073741824 by omega]
  refine lp_toS l rS rS [.str ⟨#[]⟩] 1 1 (.list 1 []) rfl (fun i x hx hi K rows hr hz => ?_) fun K => ?_
  · simp [-getElem?_pos, laws_toStringS_r0, hx, hi, hr, hz, over, wr_succ (show i < 1000000000000000000 by omega)]
  · simp [laws_toStringS_r0]) k
theorem laws_eqStringS_n (l : List ByteArray) (h : (l.length + sumN ByteArray.size l) ≤ 1048576) (k) : call laws_eqStringS [.one (strs l), .one (strs l)] k = k [.bool true] := call_of (fun k => by
  have hm := h
  simp [laws_eqStringS]
  refine lp_eqS l rS 1 (.bool false) rfl (fun i x hx hi K => ?_) fun K => ?_
  · simp [-getElem?_pos, laws_eqStringS_r0, hx, hi, wr_succ (show i < 1000000000000000000 by omega)]
  · simp [laws_eqStringS_r0]) k
structure GKeys where
  Lst : List Int
  Need : Int
abbrev eKeys (a : GKeys) : List PV := [ints a.Lst, I a.Need]
def mKeys (a : GKeys) : Nat := a.Lst.length
def WKeys (a : GKeys) : Prop := a.Lst.length ≤ maxLen
theorem decKeys (r : List PV) (hr : Sh.hasAll [.list [.int .i64], .int .i64] r) : ∃ a : GKeys, r = eKeys a ∧ WKeys a := by
  obtain ⟨p1, r1, rfl, h1, hr1⟩ := all_cons hr
  obtain ⟨n1, rfl, g1⟩ := has_ints h1
  obtain ⟨p2, rfl, h2⟩ := all_one hr1
  obtain ⟨n2, rfl⟩ := has_int h2
  exact ⟨⟨n1, n2⟩, rfl, g1⟩
theorem laws_szKeys_n (a : GKeys) (left : Int) (hw : WKeys a) (h2 : 0 ≤ left) (h3 : left ≤ 1048576) (k) : call laws_szKeys [.agg (eKeys a), .one (I left)] k = k [I (szr (mKeys a) left)] := call_of (fun k => by
  have g0 := hw
  unfold mKeys
  simp only [laws_szKeys, un, cur0, laws_szIntS_n a.Lst (left) g0 h2 h3, binP_lss, iteP_eq, atP_zero, rt_eq, scs_sc, scs_nil, flat_int, true_and, and_true]
  by_cases c0 : ((a.Lst.length : Nat) : Int) ≤ left
  rotate_left
  · first | (simp [szr_not c0, szr_not c0]; done) | (simp only [szr_not c0, szr_not c0]; simp)
  simp only [szr_yes c0, show ¬ (left - ((a.Lst.length : Nat) : Int) < 0) by omega, decide_false, Bool.false_eq_true, if_false, binP_lss, iteP_eq, atP_zero, rt_eq, scs_sc, scs_nil, flat_int, true_and, and_true]) k
theorem laws_toKeys_n (a : GKeys) (h : mKeys a ≤ 1048576) (k) : call laws_toKeys [.agg (eKeys a)] k = k (eKeys a) := call_of (fun k => by
  unfold mKeys at h
  simp [laws_toKeys, laws_toIntS_n a.Lst (by omega)]) k
theorem laws_eqKeys_n (a : GKeys) (h : mKeys a ≤ 1048576) (k) : call laws_eqKeys [.agg (eKeys a), .agg (eKeys a)] k = k [.bool true] := call_of (fun k => by
  unfold mKeys at h
  simp [laws_eqKeys, laws_eqIntS_n a.Lst (by omega)]) k
structure GSig where
  Key : Int
  Tag : Int
abbrev eSig (a : GSig) : List PV := [I a.Key, I a.Tag]
theorem decSig (r : List PV) (hr : Sh.hasAll [.int .i64, .int .i64] r) : ∃ a : GSig, r = eSig a ∧ True := by
  obtain ⟨p1, r1, rfl, h1, hr1⟩ := all_cons hr
  obtain ⟨n1, rfl⟩ := has_int h1
  obtain ⟨p2, rfl, h2⟩ := all_one hr1
  obtain ⟨n2, rfl⟩ := has_int h2
  exact ⟨⟨n1, n2⟩, rfl, trivial⟩
theorem laws_toSig_n (a : GSig) (k) : call laws_toSig [.agg (eSig a)] k = k (eSig a) := call_of (fun k => by
  simp [laws_toSig]) k
theorem laws_eqSig_n (a : GSig) (k) : call laws_eqSig [.agg (eSig a), .agg (eSig a)] k = k [.bool true] := call_of (fun k => by
  simp [laws_eqSig]) k
structure GEntry where
  Label : ByteArray
  Kind : Int
  Value : Int
  Path : List ByteArray
abbrev eEntry (a : GEntry) : List PV := [.str a.Label, I a.Kind, I a.Value, strs a.Path]
def mEntry (a : GEntry) : Nat := a.Label.size + ((a.Path.length + sumN ByteArray.size a.Path))
def WEntry (a : GEntry) : Prop := a.Label.size ≤ maxLen ∧ (a.Path.length ≤ maxLen ∧ ∀ y ∈ a.Path, y.size ≤ maxLen)
theorem decEntry (r : List PV) (hr : Sh.hasAll [.str, .int .i64, .int .i64, .list [.str]] r) : ∃ a : GEntry, r = eEntry a ∧ WEntry a := by
  obtain ⟨p1, r1, rfl, h1, hr1⟩ := all_cons hr
  obtain ⟨n1, rfl, g1⟩ := has_str h1
  obtain ⟨p2, r2, rfl, h2, hr2⟩ := all_cons hr1
  obtain ⟨n2, rfl⟩ := has_int h2
  obtain ⟨p3, r3, rfl, h3, hr3⟩ := all_cons hr2
  obtain ⟨n3, rfl⟩ := has_int h3
  obtain ⟨p4, rfl, h4⟩ := all_one hr3
  obtain ⟨n4, rfl, g4⟩ := has_strs h4
  exact ⟨⟨n1, n2, n3, n4⟩, rfl, ⟨g1, g4⟩⟩
theorem laws_szEntry_n (a : GEntry) (left : Int) (hw : WEntry a) (h2 : 0 ≤ left) (h3 : left ≤ 1048576) (k) : call laws_szEntry [.agg (eEntry a), .one (I left)] k = k [I (szr (mEntry a) left)] := call_of (fun k => by
  obtain ⟨g0, g1⟩ := hw
  unfold mEntry
  simp only [laws_szEntry, un, cur0, lenS_eq, binP_sub, wr_left (left := left) g0 h2 h3, binP_lss, iteP_eq, atP_zero, rt_eq, scs_sc, scs_nil, flat_int, true_and, and_true]
  by_cases c0 : ((a.Label.size : Nat) : Int) ≤ left
  rotate_left
  · first | (simp [szr_over c0, show left - ((a.Label.size : Nat) : Int) < 0 by omega]; done) | (simp only [szr_over c0, show left - ((a.Label.size : Nat) : Int) < 0 by omega]; simp)
  simp only [szr_yes c0, szr_add c0, show ¬ (left - ((a.Label.size : Nat) : Int) < 0) by omega, decide_false, Bool.false_eq_true, if_false, laws_szStringS_n a.Path (left - ((a.Label.size : Nat) : Int)) g1 (by omega) (by omega), binP_lss, iteP_eq, atP_zero, rt_eq, scs_sc, scs_nil, flat_int, true_and, and_true]
  by_cases c1 : (((a.Path.length + sumN ByteArray.size a.Path) : Nat) : Int) ≤ left - ((a.Label.size : Nat) : Int)
  rotate_left
  · first | (simp [szr_not c1, szr_not c1]; done) | (simp only [szr_not c1, szr_not c1]; simp)
  simp only [szr_yes c1, show ¬ (left - ((a.Label.size : Nat) : Int) - (((a.Path.length + sumN ByteArray.size a.Path) : Nat) : Int) < 0) by omega, decide_false, Bool.false_eq_true, if_false, binP_lss, iteP_eq, atP_zero, rt_eq, scs_sc, scs_nil, flat_int, true_and, and_true]) k
theorem laws_toEntry_n (a : GEntry) (h : mEntry a ≤ 1048576) (k) : call laws_toEntry [.agg (eEntry a)] k = k (eEntry a) := call_of (fun k => by
  unfold mEntry at h
  simp [laws_toEntry, laws_toStringS_n a.Path (by omega)]) k
theorem laws_eqEntry_n (a : GEntry) (h : mEntry a ≤ 1048576) (k) : call laws_eqEntry [.agg (eEntry a), .agg (eEntry a)] k = k [.bool true] := call_of (fun k => by
  unfold mEntry at h
  simp [laws_eqEntry, laws_eqStringS_n a.Path (by omega)]) k
structure GProof where
  At : Int
  Path : List Int
abbrev eProof (a : GProof) : List PV := [I a.At, ints a.Path]
def mProof (a : GProof) : Nat := a.Path.length
def WProof (a : GProof) : Prop := a.Path.length ≤ maxLen
theorem decProof (r : List PV) (hr : Sh.hasAll [.int .i64, .list [.int .i64]] r) : ∃ a : GProof, r = eProof a ∧ WProof a := by
  obtain ⟨p1, r1, rfl, h1, hr1⟩ := all_cons hr
  obtain ⟨n1, rfl⟩ := has_int h1
  obtain ⟨p2, rfl, h2⟩ := all_one hr1
  obtain ⟨n2, rfl, g2⟩ := has_ints h2
  exact ⟨⟨n1, n2⟩, rfl, g2⟩
theorem laws_eqProof_n (a : GProof) (h : mProof a ≤ 1048576) (k) : call laws_eqProof [.agg (eProof a), .agg (eProof a)] k = k [.bool true] := call_of (fun k => by
  unfold mProof at h
  simp [laws_eqProof, laws_eqIntS_n a.Path (by omega)]) k
structure GGap where
  At : Int
  Before : GEntry
  After : GEntry
  Left : GProof
  Right : GProof
abbrev eGap (a : GGap) : List PV := [I a.At, .str a.Before.Label, I a.Before.Kind, I a.Before.Value, strs a.Before.Path, .str a.After.Label, I a.After.Kind, I a.After.Value, strs a.After.Path, I a.Left.At, ints a.Left.Path, I a.Right.At, ints a.Right.Path]
def mGap (a : GGap) : Nat := mEntry a.Before + (mEntry a.After + (mProof a.Left + (mProof a.Right)))
def WGap (a : GGap) : Prop := WEntry a.Before ∧ WEntry a.After ∧ WProof a.Left ∧ WProof a.Right
theorem decGap (r : List PV) (hr : Sh.hasAll [.int .i64, .str, .int .i64, .int .i64, .list [.str], .str, .int .i64, .int .i64, .list [.str], .int .i64, .list [.int .i64], .int .i64, .list [.int .i64]] r) : ∃ a : GGap, r = eGap a ∧ WGap a := by
  obtain ⟨p1, r1, rfl, h1, hr1⟩ := all_cons hr
  obtain ⟨n1, rfl⟩ := has_int h1
  obtain ⟨p2, r2, rfl, h2, hr2⟩ := all_cons hr1
  obtain ⟨n2, rfl, g2⟩ := has_str h2
  obtain ⟨p3, r3, rfl, h3, hr3⟩ := all_cons hr2
  obtain ⟨n3, rfl⟩ := has_int h3
  obtain ⟨p4, r4, rfl, h4, hr4⟩ := all_cons hr3
  obtain ⟨n4, rfl⟩ := has_int h4
  obtain ⟨p5, r5, rfl, h5, hr5⟩ := all_cons hr4
  obtain ⟨n5, rfl, g5⟩ := has_strs h5
  obtain ⟨p6, r6, rfl, h6, hr6⟩ := all_cons hr5
  obtain ⟨n6, rfl, g6⟩ := has_str h6
  obtain ⟨p7, r7, rfl, h7, hr7⟩ := all_cons hr6
  obtain ⟨n7, rfl⟩ := has_int h7
  obtain ⟨p8, r8, rfl, h8, hr8⟩ := all_cons hr7
  obtain ⟨n8, rfl⟩ := has_int h8
  obtain ⟨p9, r9, rfl, h9, hr9⟩ := all_cons hr8
  obtain ⟨n9, rfl, g9⟩ := has_strs h9
  obtain ⟨p10, r10, rfl, h10, hr10⟩ := all_cons hr9
  obtain ⟨n10, rfl⟩ := has_int h10
  obtain ⟨p11, r11, rfl, h11, hr11⟩ := all_cons hr10
  obtain ⟨n11, rfl, g11⟩ := has_ints h11
  obtain ⟨p12, r12, rfl, h12, hr12⟩ := all_cons hr11
  obtain ⟨n12, rfl⟩ := has_int h12
  obtain ⟨p13, rfl, h13⟩ := all_one hr12
  obtain ⟨n13, rfl, g13⟩ := has_ints h13
  exact ⟨⟨n1, ⟨n2, n3, n4, n5⟩, ⟨n6, n7, n8, n9⟩, ⟨n10, n11⟩, ⟨n12, n13⟩⟩, rfl, ⟨⟨g2, g5⟩, ⟨g6, g9⟩, g11, g13⟩⟩
theorem laws_eqGap_n (a : GGap) (h : mGap a ≤ 1048576) (k) : call laws_eqGap [.agg (eGap a), .agg (eGap a)] k = k [.bool true] := call_of (fun k => by
  unfold mGap at h
  simp [laws_eqGap, laws_eqEntry_n a.Before (by omega), laws_eqEntry_n a.After (by omega), laws_eqProof_n a.Left (by omega), laws_eqProof_n a.Right (by omega)]) k
structure GHead where
  Zone : Int
  Epoch : Int
  Kind : Int
  Time : Int
  Until : Int
  Count : Int
  Root : Int
  Prev : Int
  Keys : GKeys
  Heirs : GKeys
  Wait : Int
  Judge : GKeys
  Frozen : Bool
abbrev eHead (a : GHead) : List PV := [I a.Zone, I a.Epoch, I a.Kind, I a.Time, I a.Until, I a.Count, I a.Root, I a.Prev, ints a.Keys.Lst, I a.Keys.Need, ints a.Heirs.Lst, I a.Heirs.Need, I a.Wait, ints a.Judge.Lst, I a.Judge.Need, .bool a.Frozen]
def mHead (a : GHead) : Nat := mKeys a.Keys + (mKeys a.Heirs + (mKeys a.Judge))
def WHead (a : GHead) : Prop := WKeys a.Keys ∧ WKeys a.Heirs ∧ WKeys a.Judge
theorem decHead (r : List PV) (hr : Sh.hasAll [.int .i64, .int .i64, .int .i64, .int .i64, .int .i64, .int .i64, .int .i64, .int .i64, .list [.int .i64], .int .i64, .list [.int .i64], .int .i64, .int .i64, .list [.int .i64], .int .i64, .bool] r) : ∃ a : GHead, r = eHead a ∧ WHead a := by
  obtain ⟨p1, r1, rfl, h1, hr1⟩ := all_cons hr
  obtain ⟨n1, rfl⟩ := has_int h1
  obtain ⟨p2, r2, rfl, h2, hr2⟩ := all_cons hr1
  obtain ⟨n2, rfl⟩ := has_int h2
  obtain ⟨p3, r3, rfl, h3, hr3⟩ := all_cons hr2
  obtain ⟨n3, rfl⟩ := has_int h3
  obtain ⟨p4, r4, rfl, h4, hr4⟩ := all_cons hr3
  obtain ⟨n4, rfl⟩ := has_int h4
  obtain ⟨p5, r5, rfl, h5, hr5⟩ := all_cons hr4
  obtain ⟨n5, rfl⟩ := has_int h5
  obtain ⟨p6, r6, rfl, h6, hr6⟩ := all_cons hr5
  obtain ⟨n6, rfl⟩ := has_int h6
  obtain ⟨p7, r7, rfl, h7, hr7⟩ := all_cons hr6
  obtain ⟨n7, rfl⟩ := has_int h7
  obtain ⟨p8, r8, rfl, h8, hr8⟩ := all_cons hr7
  obtain ⟨n8, rfl⟩ := has_int h8
  obtain ⟨p9, r9, rfl, h9, hr9⟩ := all_cons hr8
  obtain ⟨n9, rfl, g9⟩ := has_ints h9
  obtain ⟨p10, r10, rfl, h10, hr10⟩ := all_cons hr9
  obtain ⟨n10, rfl⟩ := has_int h10
  obtain ⟨p11, r11, rfl, h11, hr11⟩ := all_cons hr10
  obtain ⟨n11, rfl, g11⟩ := has_ints h11
  obtain ⟨p12, r12, rfl, h12, hr12⟩ := all_cons hr11
  obtain ⟨n12, rfl⟩ := has_int h12
  obtain ⟨p13, r13, rfl, h13, hr13⟩ := all_cons hr12
  obtain ⟨n13, rfl⟩ := has_int h13
  obtain ⟨p14, r14, rfl, h14, hr14⟩ := all_cons hr13
  obtain ⟨n14, rfl, g14⟩ := has_ints h14
  obtain ⟨p15, r15, rfl, h15, hr15⟩ := all_cons hr14
  obtain ⟨n15, rfl⟩ := has_int h15
  obtain ⟨p16, rfl, h16⟩ := all_one hr15
  obtain ⟨n16, rfl⟩ := has_bool h16
  exact ⟨⟨n1, n2, n3, n4, n5, n6, n7, n8, ⟨n9, n10⟩, ⟨n11, n12⟩, n13, ⟨n14, n15⟩, n16⟩, rfl, ⟨g9, g11, g14⟩⟩
theorem laws_szHead_n (a : GHead) (left : Int) (hw : WHead a) (h2 : 0 ≤ left) (h3 : left ≤ 1048576) (k) : call laws_szHead [.agg (eHead a), .one (I left)] k = k [I (szr (mHead a) left)] := call_of (fun k => by
  obtain ⟨g0, g1, g2⟩ := hw
  unfold mHead
  simp only [laws_szHead, un, cur0, laws_szKeys_n a.Keys (left) g0 h2 h3, binP_lss, iteP_eq, atP_zero, rt_eq, scs_sc, scs_nil, flat_int, true_and, and_true]
  by_cases c0 : ((mKeys a.Keys : Nat) : Int) ≤ left
  rotate_left
  · first | (simp [szr_over c0, szr_not c0]; done) | (simp only [szr_over c0, szr_not c0]; simp)
  simp only [szr_yes c0, szr_add c0, show ¬ (left - ((mKeys a.Keys : Nat) : Int) < 0) by omega, decide_false, Bool.false_eq_true, if_false, laws_szKeys_n a.Heirs (left - ((mKeys a.Keys : Nat) : Int)) g1 (by omega) (by omega), binP_lss, iteP_eq, atP_zero, rt_eq, scs_sc, scs_nil, flat_int, true_and, and_true]
  by_cases c1 : ((mKeys a.Heirs : Nat) : Int) ≤ left - ((mKeys a.Keys : Nat) : Int)
  rotate_left
  · first | (simp [szr_over c1, szr_not c1]; done) | (simp only [szr_over c1, szr_not c1]; simp)
  simp only [szr_yes c1, szr_add c1, show ¬ (left - ((mKeys a.Keys : Nat) : Int) - ((mKeys a.Heirs : Nat) : Int) < 0) by omega, decide_false, Bool.false_eq_true, if_false, laws_szKeys_n a.Judge (left - ((mKeys a.Keys : Nat) : Int) - ((mKeys a.Heirs : Nat) : Int)) g2 (by omega) (by omega), binP_lss, iteP_eq, atP_zero, rt_eq, scs_sc, scs_nil, flat_int, true_and, and_true]
  by_cases c2 : ((mKeys a.Judge : Nat) : Int) ≤ left - ((mKeys a.Keys : Nat) : Int) - ((mKeys a.Heirs : Nat) : Int)
  rotate_left
  · first | (simp [szr_not c2, szr_not c2]; done) | (simp only [szr_not c2, szr_not c2]; simp)
  simp only [szr_yes c2, show ¬ (left - ((mKeys a.Keys : Nat) : Int) - ((mKeys a.Heirs : Nat) : Int) - ((mKeys a.Judge : Nat) : Int) < 0) by omega, decide_false, Bool.false_eq_true, if_false, binP_lss, iteP_eq, atP_zero, rt_eq, scs_sc, scs_nil, flat_int, true_and, and_true]) k
theorem laws_toHead_n (a : GHead) (h : mHead a ≤ 1048576) (k) : call laws_toHead [.agg (eHead a)] k = k (eHead a) := call_of (fun k => by
  unfold mHead at h
  simp [laws_toHead, laws_toKeys_n a.Keys (by omega), laws_toKeys_n a.Heirs (by omega), laws_toKeys_n a.Judge (by omega)]) k
theorem laws_eqHead_n (a : GHead) (h : mHead a ≤ 1048576) (k) : call laws_eqHead [.agg (eHead a), .agg (eHead a)] k = k [.bool true] := call_of (fun k => by
  unfold mHead at h
  simp [laws_eqHead, laws_eqKeys_n a.Keys (by omega), laws_eqKeys_n a.Heirs (by omega), laws_eqKeys_n a.Judge (by omega)]) k
theorem decSigS {p : PV} (h : Sh.has (.list [.int .i64, .int .i64]) p) : ∃ l : List GSig, p = .list 2 (l.map eSig) ∧ l.length ≤ maxLen := by
  obtain ⟨l, h1, h2, h3⟩ := has_map decSig 2 rfl h
  exact ⟨l, h1, h2⟩
theorem laws_szSigS_n (l : List GSig) (left : Int) (hw : l.length ≤ maxLen) (h2 : 0 ≤ left) (h3 : left ≤ 1048576) (k) : call laws_szSigS [.one (.list 2 (l.map eSig)), .one (I left)] k = k [I (szr l.length left)] := call_of (fun k => by
  simp only [laws_szSigS, lenP_eq, List.length_map, binP_sub, wr_left hw h2 h3, binP_lss, iteP_eq, rt_eq, scs_sc, scs_nil, flat_int, true_and, and_true]
  by_cases c : (l.length : Int) ≤ left
  · simp [szr_yes c, show ¬ (left - (l.length : Int) < 0) by omega]
  · simp [szr_not c, show left - (l.length : Int) < 0 by omega]) k
theorem laws_toSigS_n (l : List GSig) (h : l.length ≤ 1048576) (k) : call laws_toSigS [.one (.list 2 (l.map eSig))] k = k [.list 2 (l.map eSig)] := call_of (fun k => by
  have hm := h
  simp [laws_toSigS, show l.length < 1073741824 by omega]
  refine lp_toS l eSig eSig [I 0, I 0] 2 2 (.list 2 []) rfl (fun i x hx hi K rows hr hz => ?_) fun K => ?_
  · simp [-getElem?_pos, laws_toSigS_r0, hx, hi, hr, hz, over, laws_toSig_n x, wr_succ (show i < 1000000000000000000 by omega)]
  · simp [laws_toSigS_r0]) k
theorem laws_eqSigS_n (l : List GSig) (h : l.length ≤ 1048576) (k) : call laws_eqSigS [.one (.list 2 (l.map eSig)), .one (.list 2 (l.map eSig))] k = k [.bool true] := call_of (fun k => by
  have hm := h
  simp [laws_eqSigS]
  refine lp_eqS l eSig 2 (.bool false) rfl (fun i x hx hi K => ?_) fun K => ?_
  · simp [-getElem?_pos, laws_eqSigS_r0, hx, hi, laws_eqSig_n x, wr_succ (show i < 1000000000000000000 by omega)]
  · simp [laws_eqSigS_r0]) k
structure GSigned where
  Head : GHead
  Sigs : List GSig
abbrev eSigned (a : GSigned) : List PV := [I a.Head.Zone, I a.Head.Epoch, I a.Head.Kind, I a.Head.Time, I a.Head.Until, I a.Head.Count, I a.Head.Root, I a.Head.Prev, ints a.Head.Keys.Lst, I a.Head.Keys.Need, ints a.Head.Heirs.Lst, I a.Head.Heirs.Need, I a.Head.Wait, ints a.Head.Judge.Lst, I a.Head.Judge.Need, .bool a.Head.Frozen, .list 2 (a.Sigs.map eSig)]
def mSigned (a : GSigned) : Nat := mHead a.Head + (a.Sigs.length)
def WSigned (a : GSigned) : Prop := WHead a.Head ∧ a.Sigs.length ≤ maxLen
theorem decSigned (r : List PV) (hr : Sh.hasAll [.int .i64, .int .i64, .int .i64, .int .i64, .int .i64, .int .i64, .int .i64, .int .i64, .list [.int .i64], .int .i64, .list [.int .i64], .int .i64, .int .i64, .list [.int .i64], .int .i64, .bool, .list [.int .i64, .int .i64]] r) : ∃ a : GSigned, r = eSigned a ∧ WSigned a := by
  obtain ⟨p1, r1, rfl, h1, hr1⟩ := all_cons hr
  obtain ⟨n1, rfl⟩ := has_int h1
  obtain ⟨p2, r2, rfl, h2, hr2⟩ := all_cons hr1
  obtain ⟨n2, rfl⟩ := has_int h2
  obtain ⟨p3, r3, rfl, h3, hr3⟩ := all_cons hr2
  obtain ⟨n3, rfl⟩ := has_int h3
  obtain ⟨p4, r4, rfl, h4, hr4⟩ := all_cons hr3
  obtain ⟨n4, rfl⟩ := has_int h4
  obtain ⟨p5, r5, rfl, h5, hr5⟩ := all_cons hr4
  obtain ⟨n5, rfl⟩ := has_int h5
  obtain ⟨p6, r6, rfl, h6, hr6⟩ := all_cons hr5
  obtain ⟨n6, rfl⟩ := has_int h6
  obtain ⟨p7, r7, rfl, h7, hr7⟩ := all_cons hr6
  obtain ⟨n7, rfl⟩ := has_int h7
  obtain ⟨p8, r8, rfl, h8, hr8⟩ := all_cons hr7
  obtain ⟨n8, rfl⟩ := has_int h8
  obtain ⟨p9, r9, rfl, h9, hr9⟩ := all_cons hr8
  obtain ⟨n9, rfl, g9⟩ := has_ints h9
  obtain ⟨p10, r10, rfl, h10, hr10⟩ := all_cons hr9
  obtain ⟨n10, rfl⟩ := has_int h10
  obtain ⟨p11, r11, rfl, h11, hr11⟩ := all_cons hr10
  obtain ⟨n11, rfl, g11⟩ := has_ints h11
  obtain ⟨p12, r12, rfl, h12, hr12⟩ := all_cons hr11
  obtain ⟨n12, rfl⟩ := has_int h12
  obtain ⟨p13, r13, rfl, h13, hr13⟩ := all_cons hr12
  obtain ⟨n13, rfl⟩ := has_int h13
  obtain ⟨p14, r14, rfl, h14, hr14⟩ := all_cons hr13
  obtain ⟨n14, rfl, g14⟩ := has_ints h14
  obtain ⟨p15, r15, rfl, h15, hr15⟩ := all_cons hr14
  obtain ⟨n15, rfl⟩ := has_int h15
  obtain ⟨p16, r16, rfl, h16, hr16⟩ := all_cons hr15
  obtain ⟨n16, rfl⟩ := has_bool h16
  obtain ⟨p17, rfl, h17⟩ := all_one hr16
  obtain ⟨n17, rfl, g17⟩ := decSigS h17
  exact ⟨⟨⟨n1, n2, n3, n4, n5, n6, n7, n8, ⟨n9, n10⟩, ⟨n11, n12⟩, n13, ⟨n14, n15⟩, n16⟩, n17⟩, rfl, ⟨⟨g9, g11, g14⟩, g17⟩⟩
theorem laws_szSigned_n (a : GSigned) (left : Int) (hw : WSigned a) (h2 : 0 ≤ left) (h3 : left ≤ 1048576) (k) : call laws_szSigned [.agg (eSigned a), .one (I left)] k = k [I (szr (mSigned a) left)] := call_of (fun k => by
  obtain ⟨g0, g1⟩ := hw
  unfold mSigned
  simp only [laws_szSigned, un, cur0, laws_szHead_n a.Head (left) g0 h2 h3, binP_lss, iteP_eq, atP_zero, rt_eq, scs_sc, scs_nil, flat_int, true_and, and_true]
  by_cases c0 : ((mHead a.Head : Nat) : Int) ≤ left
  rotate_left
  · first | (simp [szr_over c0, szr_not c0]; done) | (simp only [szr_over c0, szr_not c0]; simp)
  simp only [szr_yes c0, szr_add c0, show ¬ (left - ((mHead a.Head : Nat) : Int) < 0) by omega, decide_false, Bool.false_eq_true, if_false, laws_szSigS_n a.Sigs (left - ((mHead a.Head : Nat) : Int)) g1 (by omega) (by omega), binP_lss, iteP_eq, atP_zero, rt_eq, scs_sc, scs_nil, flat_int, true_and, and_true]
  by_cases c1 : ((a.Sigs.length : Nat) : Int) ≤ left - ((mHead a.Head : Nat) : Int)
  rotate_left
  · first | (simp [szr_not c1, szr_not c1]; done) | (simp only [szr_not c1, szr_not c1]; simp)
  simp only [szr_yes c1, show ¬ (left - ((mHead a.Head : Nat) : Int) - ((a.Sigs.length : Nat) : Int) < 0) by omega, decide_false, Bool.false_eq_true, if_false, binP_lss, iteP_eq, atP_zero, rt_eq, scs_sc, scs_nil, flat_int, true_and, and_true]) k
theorem laws_toSigned_n (a : GSigned) (h : mSigned a ≤ 1048576) (k) : call laws_toSigned [.agg (eSigned a)] k = k (eSigned a) := call_of (fun k => by
  unfold mSigned at h
  simp [laws_toSigned, laws_toHead_n a.Head (by omega), laws_toSigS_n a.Sigs (by omega)]) k
theorem laws_eqSigned_n (a : GSigned) (h : mSigned a ≤ 1048576) (k) : call laws_eqSigned [.agg (eSigned a), .agg (eSigned a)] k = k [.bool true] := call_of (fun k => by
  unfold mSigned at h
  simp [laws_eqSigned, laws_eqHead_n a.Head (by omega), laws_eqSigS_n a.Sigs (by omega)]) k
def mSignedS (l : List GSigned) : Nat := l.length + sumN mSigned l
theorem decSignedS {p : PV} (h : Sh.has (.list [.int .i64, .int .i64, .int .i64, .int .i64, .int .i64, .int .i64, .int .i64, .int .i64, .list [.int .i64], .int .i64, .list [.int .i64], .int .i64, .int .i64, .list [.int .i64], .int .i64, .bool, .list [.int .i64, .int .i64]]) p) : ∃ l : List GSigned, p = .list 17 (l.map eSigned) ∧ (l.length ≤ maxLen ∧ ∀ y ∈ l, WSigned y) := by
  obtain ⟨l, h1, h2, h3⟩ := has_map decSigned 17 rfl h
  exact ⟨l, h1, h2, h3⟩
theorem laws_szSignedS_n (l : List GSigned) (left : Int) (hw : (l.length ≤ maxLen ∧ ∀ y ∈ l, WSigned y)) (h2 : 0 ≤ left) (h3 : left ≤ 1048576) (k) : call laws_szSignedS [.one (.list 17 (l.map eSigned)), .one (I left)] k = k [I (szr (mSignedS l) left)] := call_of (fun k => by
  simp only [laws_szSignedS, lenP_eq, List.length_map, binP_sub, wr_left hw.1 h2 h3, binP_lss, iteP_eq, rt_eq, scs_sc, scs_nil, flat_int, true_and, and_true]
  unfold mSignedS
  by_cases c : (l.length : Int) ≤ left
  rotate_left
  · simp [szr_over c, show left - (l.length : Int) < 0 by omega]
  simp only [szr_add c, show ¬ (left - (l.length : Int) < 0) by omega, decide_false, Bool.false_eq_true, if_false]
  refine (lp_sz (neg := k [I (-1)]) (fin := fun t => k [I t]) l eSigned 17 mSigned (left - (l.length : Int)) (I 0) (by omega) (by omega) rfl (fun i x hx hi t ht1 ht2 K => ?_) fun t K => ?_).trans ?_
  · have e := laws_szSigned_n x t (hw.2 x (List.mem_of_getElem? hx)) ht1 ht2
    simp [-getElem?_pos, laws_szSignedS_r0, hx, hi, e, wr_succ (show i < 1000000000000000000 by omega)]
    by_cases hs : ((mSigned x : Nat) : Int) ≤ t
    · simp [szr_yes hs, hs, show ¬ (t - ((mSigned x : Nat) : Int) < 0) by omega]
    · simp [szr_not hs, hs]
  · simp [laws_szSignedS_r0]
  · by_cases hs : ((sumN mSigned l : Nat) : Int) ≤ left - (l.length : Int)
    · simp [szr_yes hs, hs]
    · simp [szr_not hs, hs]) k
theorem laws_toSignedS_n (l : List GSigned) (h : mSignedS l ≤ 1048576) (k) : call laws_toSignedS [.one (.list 17 (l.map eSigned))] k = k [.list 17 (l.map eSigned)] := call_of (fun k => by
  have hm := h
  unfold mSignedS at hm
  simp [laws_toSignedS, show l.length < 1073741824 by omega]
  refine lp_toS l eSigned eSigned [I 0, I 0, I 0, I 0, I 0, I 0, I 0, I 0, .list 1 [], I 0, .list 1 [], I 0, I 0, .list 1 [], I 0, .bool false, .list 2 []] 17 17 (.list 17 []) rfl (fun i x hx hi K rows hr hz => ?_) fun K => ?_
  · have hs : mSigned x ≤ sumN mSigned l := sumN_mem (s := mSigned) (List.mem_of_getElem? hx)
    simp [-getElem?_pos, laws_toSignedS_r0, hx, hi, hr, hz, over, laws_toSigned_n x (by omega), wr_succ (show i < 1000000000000000000 by omega)]
  · simp [laws_toSignedS_r0]) k
theorem laws_eqSignedS_n (l : List GSigned) (h : mSignedS l ≤ 1048576) (k) : call laws_eqSignedS [.one (.list 17 (l.map eSigned)), .one (.list 17 (l.map eSigned))] k = k [.bool true] := call_of (fun k => by
  have hm := h
  unfold mSignedS at hm
  simp [laws_eqSignedS]
  refine lp_eqS l eSigned 17 (.bool false) rfl (fun i x hx hi K => ?_) fun K => ?_
  · have hs : mSigned x ≤ sumN mSigned l := sumN_mem (s := mSigned) (List.mem_of_getElem? hx)
    simp [-getElem?_pos, laws_eqSignedS_r0, hx, hi, laws_eqSigned_n x (by omega), wr_succ (show i < 1000000000000000000 by omega)]
  · simp [laws_eqSignedS_r0]) k
def mEntryS (l : List GEntry) : Nat := l.length + sumN mEntry l
theorem decEntryS {p : PV} (h : Sh.has (.list [.str, .int .i64, .int .i64, .list [.str]]) p) : ∃ l : List GEntry, p = .list 4 (l.map eEntry) ∧ (l.length ≤ maxLen ∧ ∀ y ∈ l, WEntry y) := by
  obtain ⟨l, h1, h2, h3⟩ := has_map decEntry 4 rfl h
  exact ⟨l, h1, h2, h3⟩
theorem laws_szEntryS_n (l : List GEntry) (left : Int) (hw : (l.length ≤ maxLen ∧ ∀ y ∈ l, WEntry y)) (h2 : 0 ≤ left) (h3 : left ≤ 1048576) (k) : call laws_szEntryS [.one (.list 4 (l.map eEntry)), .one (I left)] k = k [I (szr (mEntryS l) left)] := call_of (fun k => by
  simp only [laws_szEntryS, lenP_eq, List.length_map, binP_sub, wr_left hw.1 h2 h3, binP_lss, iteP_eq, rt_eq, scs_sc, scs_nil, flat_int, true_and, and_true]
  unfold mEntryS
  by_cases c : (l.length : Int) ≤ left
  rotate_left
  · simp [szr_over c, show left - (l.length : Int) < 0 by omega]
  simp only [szr_add c, show ¬ (left - (l.length : Int) < 0) by omega, decide_false, Bool.false_eq_true, if_false]
  refine (lp_sz (neg := k [I (-1)]) (fin := fun t => k [I t]) l eEntry 4 mEntry (left - (l.length : Int)) (I 0) (by omega) (by omega) rfl (fun i x hx hi t ht1 ht2 K => ?_) fun t K => ?_).trans ?_
  · have e := laws_szEntry_n x t (hw.2 x (List.mem_of_getElem? hx)) ht1 ht2
    simp [-getElem?_pos, laws_szEntryS_r0, hx, hi, e, wr_succ (show i < 1000000000000000000 by omega)]
    by_cases hs : ((mEntry x : Nat) : Int) ≤ t
    · simp [szr_yes hs, hs, show ¬ (t - ((mEntry x : Nat) : Int) < 0) by omega]
    · simp [szr_not hs, hs]
  · simp [laws_szEntryS_r0]
  · by_cases hs : ((sumN mEntry l : Nat) : Int) ≤ left - (l.length : Int)
    · simp [szr_yes hs, hs]
    · simp [szr_not hs, hs]) k
theorem laws_toEntryS_n (l : List GEntry) (h : mEntryS l ≤ 1048576) (k) : call laws_toEntryS [.one (.list 4 (l.map eEntry))] k = k [.list 4 (l.map eEntry)] := call_of (fun k => by
  have hm := h
  unfold mEntryS at hm
  simp [laws_toEntryS, show l.length < 1073741824 by omega]
  refine lp_toS l eEntry eEntry [.str ⟨#[]⟩, I 0, I 0, .list 1 []] 4 4 (.list 4 []) rfl (fun i x hx hi K rows hr hz => ?_) fun K => ?_
  · have hs : mEntry x ≤ sumN mEntry l := sumN_mem (s := mEntry) (List.mem_of_getElem? hx)
    simp [-getElem?_pos, laws_toEntryS_r0, hx, hi, hr, hz, over, laws_toEntry_n x (by omega), wr_succ (show i < 1000000000000000000 by omega)]
  · simp [laws_toEntryS_r0]) k
theorem laws_eqEntryS_n (l : List GEntry) (h : mEntryS l ≤ 1048576) (k) : call laws_eqEntryS [.one (.list 4 (l.map eEntry)), .one (.list 4 (l.map eEntry))] k = k [.bool true] := call_of (fun k => by
  have hm := h
  unfold mEntryS at hm
  simp [laws_eqEntryS]
  refine lp_eqS l eEntry 4 (.bool false) rfl (fun i x hx hi K => ?_) fun K => ?_
  · have hs : mEntry x ≤ sumN mEntry l := sumN_mem (s := mEntry) (List.mem_of_getElem? hx)
    simp [-getElem?_pos, laws_eqEntryS_r0, hx, hi, laws_eqEntry_n x (by omega), wr_succ (show i < 1000000000000000000 by omega)]
  · simp [laws_eqEntryS_r0]) k
structure GZone where
  Chain : List GSigned
  Entries : List GEntry
abbrev eZone (a : GZone) : List PV := [.list 17 (a.Chain.map eSigned), .list 4 (a.Entries.map eEntry)]
def mZone (a : GZone) : Nat := mSignedS a.Chain + (mEntryS a.Entries)
def WZone (a : GZone) : Prop := (a.Chain.length ≤ maxLen ∧ ∀ y ∈ a.Chain, WSigned y) ∧ (a.Entries.length ≤ maxLen ∧ ∀ y ∈ a.Entries, WEntry y)
theorem decZone (r : List PV) (hr : Sh.hasAll [.list [.int .i64, .int .i64, .int .i64, .int .i64, .int .i64, .int .i64, .int .i64, .int .i64, .list [.int .i64], .int .i64, .list [.int .i64], .int .i64, .int .i64, .list [.int .i64], .int .i64, .bool, .list [.int .i64, .int .i64]], .list [.str, .int .i64, .int .i64, .list [.str]]] r) : ∃ a : GZone, r = eZone a ∧ WZone a := by
  obtain ⟨p1, r1, rfl, h1, hr1⟩ := all_cons hr
  obtain ⟨n1, rfl, g1⟩ := decSignedS h1
  obtain ⟨p2, rfl, h2⟩ := all_one hr1
  obtain ⟨n2, rfl, g2⟩ := decEntryS h2
  exact ⟨⟨n1, n2⟩, rfl, ⟨g1, g2⟩⟩
theorem laws_szZone_n (a : GZone) (left : Int) (hw : WZone a) (h2 : 0 ≤ left) (h3 : left ≤ 1048576) (k) : call laws_szZone [.agg (eZone a), .one (I left)] k = k [I (szr (mZone a) left)] := call_of (fun k => by
  obtain ⟨g0, g1⟩ := hw
  unfold mZone
  simp only [laws_szZone, un, cur0, laws_szSignedS_n a.Chain (left) g0 h2 h3, binP_lss, iteP_eq, atP_zero, rt_eq, scs_sc, scs_nil, flat_int, true_and, and_true]
  by_cases c0 : ((mSignedS a.Chain : Nat) : Int) ≤ left
  rotate_left
  · first | (simp [szr_over c0, szr_not c0]; done) | (simp only [szr_over c0, szr_not c0]; simp)
  simp only [szr_yes c0, szr_add c0, show ¬ (left - ((mSignedS a.Chain : Nat) : Int) < 0) by omega, decide_false, Bool.false_eq_true, if_false, laws_szEntryS_n a.Entries (left - ((mSignedS a.Chain : Nat) : Int)) g1 (by omega) (by omega), binP_lss, iteP_eq, atP_zero, rt_eq, scs_sc, scs_nil, flat_int, true_and, and_true]
  by_cases c1 : ((mEntryS a.Entries : Nat) : Int) ≤ left - ((mSignedS a.Chain : Nat) : Int)
  rotate_left
  · first | (simp [szr_not c1, szr_not c1]; done) | (simp only [szr_not c1, szr_not c1]; simp)
  simp only [szr_yes c1, show ¬ (left - ((mSignedS a.Chain : Nat) : Int) - ((mEntryS a.Entries : Nat) : Int) < 0) by omega, decide_false, Bool.false_eq_true, if_false, binP_lss, iteP_eq, atP_zero, rt_eq, scs_sc, scs_nil, flat_int, true_and, and_true]) k
theorem laws_toZone_n (a : GZone) (h : mZone a ≤ 1048576) (k) : call laws_toZone [.agg (eZone a)] k = k (eZone a) := call_of (fun k => by
  unfold mZone at h
  simp [laws_toZone, laws_toSignedS_n a.Chain (by omega), laws_toEntryS_n a.Entries (by omega)]) k
theorem laws_eqZone_n (a : GZone) (h : mZone a ≤ 1048576) (k) : call laws_eqZone [.agg (eZone a), .agg (eZone a)] k = k [.bool true] := call_of (fun k => by
  unfold mZone at h
  simp [laws_eqZone, laws_eqSignedS_n a.Chain (by omega), laws_eqEntryS_n a.Entries (by omega)]) k
structure GAnswer where
  Chain : List GSigned
  Found : Bool
  Entry : GEntry
  Proof : GProof
  Gap : GGap
abbrev eAnswer (a : GAnswer) : List PV := [.list 17 (a.Chain.map eSigned), .bool a.Found, .str a.Entry.Label, I a.Entry.Kind, I a.Entry.Value, strs a.Entry.Path, I a.Proof.At, ints a.Proof.Path, I a.Gap.At, .str a.Gap.Before.Label, I a.Gap.Before.Kind, I a.Gap.Before.Value, strs a.Gap.Before.Path, .str a.Gap.After.Label, I a.Gap.After.Kind, I a.Gap.After.Value, strs a.Gap.After.Path, I a.Gap.Left.At, ints a.Gap.Left.Path, I a.Gap.Right.At, ints a.Gap.Right.Path]
def mAnswer (a : GAnswer) : Nat := mSignedS a.Chain + (mEntry a.Entry + (mProof a.Proof + (mGap a.Gap)))
def WAnswer (a : GAnswer) : Prop := (a.Chain.length ≤ maxLen ∧ ∀ y ∈ a.Chain, WSigned y) ∧ WEntry a.Entry ∧ WProof a.Proof ∧ WGap a.Gap
theorem decAnswer (r : List PV) (hr : Sh.hasAll [.list [.int .i64, .int .i64, .int .i64, .int .i64, .int .i64, .int .i64, .int .i64, .int .i64, .list [.int .i64], .int .i64, .list [.int .i64], .int .i64, .int .i64, .list [.int .i64], .int .i64, .bool, .list [.int .i64, .int .i64]], .bool, .str, .int .i64, .int .i64, .list [.str], .int .i64, .list [.int .i64], .int .i64, .str, .int .i64, .int .i64, .list [.str], .str, .int .i64, .int .i64, .list [.str], .int .i64, .list [.int .i64], .int .i64, .list [.int .i64]] r) : ∃ a : GAnswer, r = eAnswer a ∧ WAnswer a := by
  obtain ⟨p1, r1, rfl, h1, hr1⟩ := all_cons hr
  obtain ⟨n1, rfl, g1⟩ := decSignedS h1
  obtain ⟨p2, r2, rfl, h2, hr2⟩ := all_cons hr1
  obtain ⟨n2, rfl⟩ := has_bool h2
  obtain ⟨p3, r3, rfl, h3, hr3⟩ := all_cons hr2
  obtain ⟨n3, rfl, g3⟩ := has_str h3
  obtain ⟨p4, r4, rfl, h4, hr4⟩ := all_cons hr3
  obtain ⟨n4, rfl⟩ := has_int h4
  obtain ⟨p5, r5, rfl, h5, hr5⟩ := all_cons hr4
  obtain ⟨n5, rfl⟩ := has_int h5
  obtain ⟨p6, r6, rfl, h6, hr6⟩ := all_cons hr5
  obtain ⟨n6, rfl, g6⟩ := has_strs h6
  obtain ⟨p7, r7, rfl, h7, hr7⟩ := all_cons hr6
  obtain ⟨n7, rfl⟩ := has_int h7
  obtain ⟨p8, r8, rfl, h8, hr8⟩ := all_cons hr7
  obtain ⟨n8, rfl, g8⟩ := has_ints h8
  obtain ⟨p9, r9, rfl, h9, hr9⟩ := all_cons hr8
  obtain ⟨n9, rfl⟩ := has_int h9
  obtain ⟨p10, r10, rfl, h10, hr10⟩ := all_cons hr9
  obtain ⟨n10, rfl, g10⟩ := has_str h10
  obtain ⟨p11, r11, rfl, h11, hr11⟩ := all_cons hr10
  obtain ⟨n11, rfl⟩ := has_int h11
  obtain ⟨p12, r12, rfl, h12, hr12⟩ := all_cons hr11
  obtain ⟨n12, rfl⟩ := has_int h12
  obtain ⟨p13, r13, rfl, h13, hr13⟩ := all_cons hr12
  obtain ⟨n13, rfl, g13⟩ := has_strs h13
  obtain ⟨p14, r14, rfl, h14, hr14⟩ := all_cons hr13
  obtain ⟨n14, rfl, g14⟩ := has_str h14
  obtain ⟨p15, r15, rfl, h15, hr15⟩ := all_cons hr14
  obtain ⟨n15, rfl⟩ := has_int h15
  obtain ⟨p16, r16, rfl, h16, hr16⟩ := all_cons hr15
  obtain ⟨n16, rfl⟩ := has_int h16
  obtain ⟨p17, r17, rfl, h17, hr17⟩ := all_cons hr16
  obtain ⟨n17, rfl, g17⟩ := has_strs h17
  obtain ⟨p18, r18, rfl, h18, hr18⟩ := all_cons hr17
  obtain ⟨n18, rfl⟩ := has_int h18
  obtain ⟨p19, r19, rfl, h19, hr19⟩ := all_cons hr18
  obtain ⟨n19, rfl, g19⟩ := has_ints h19
  obtain ⟨p20, r20, rfl, h20, hr20⟩ := all_cons hr19
  obtain ⟨n20, rfl⟩ := has_int h20
  obtain ⟨p21, rfl, h21⟩ := all_one hr20
  obtain ⟨n21, rfl, g21⟩ := has_ints h21
  exact ⟨⟨n1, n2, ⟨n3, n4, n5, n6⟩, ⟨n7, n8⟩, ⟨n9, ⟨n10, n11, n12, n13⟩, ⟨n14, n15, n16, n17⟩, ⟨n18, n19⟩, ⟨n20, n21⟩⟩⟩, rfl, ⟨g1, ⟨g3, g6⟩, g8, ⟨⟨g10, g13⟩, ⟨g14, g17⟩, g19, g21⟩⟩⟩
theorem laws_eqAnswer_n (a : GAnswer) (h : mAnswer a ≤ 1048576) (k) : call laws_eqAnswer [.agg (eAnswer a), .agg (eAnswer a)] k = k [.bool true] := call_of (fun k => by
  unfold mAnswer at h
  simp [laws_eqAnswer, laws_eqSignedS_n a.Chain (by omega), laws_eqEntry_n a.Entry (by omega), laws_eqProof_n a.Proof (by omega), laws_eqGap_n a.Gap (by omega)]) k
def mZoneS (l : List GZone) : Nat := l.length + sumN mZone l
theorem decZoneS {p : PV} (h : Sh.has (.list [.list [.int .i64, .int .i64, .int .i64, .int .i64, .int .i64, .int .i64, .int .i64, .int .i64, .list [.int .i64], .int .i64, .list [.int .i64], .int .i64, .int .i64, .list [.int .i64], .int .i64, .bool, .list [.int .i64, .int .i64]], .list [.str, .int .i64, .int .i64, .list [.str]]]) p) : ∃ l : List GZone, p = .list 2 (l.map eZone) ∧ (l.length ≤ maxLen ∧ ∀ y ∈ l, WZone y) := by
  obtain ⟨l, h1, h2, h3⟩ := has_map decZone 2 rfl h
  exact ⟨l, h1, h2, h3⟩
theorem laws_szZoneS_n (l : List GZone) (left : Int) (hw : (l.length ≤ maxLen ∧ ∀ y ∈ l, WZone y)) (h2 : 0 ≤ left) (h3 : left ≤ 1048576) (k) : call laws_szZoneS [.one (.list 2 (l.map eZone)), .one (I left)] k = k [I (szr (mZoneS l) left)] := call_of (fun k => by
  simp only [laws_szZoneS, lenP_eq, List.length_map, binP_sub, wr_left hw.1 h2 h3, binP_lss, iteP_eq, rt_eq, scs_sc, scs_nil, flat_int, true_and, and_true]
  unfold mZoneS
  by_cases c : (l.length : Int) ≤ left
  rotate_left
  · simp [szr_over c, show left - (l.length : Int) < 0 by omega]
  simp only [szr_add c, show ¬ (left - (l.length : Int) < 0) by omega, decide_false, Bool.false_eq_true, if_false]
  refine (lp_sz (neg := k [I (-1)]) (fin := fun t => k [I t]) l eZone 2 mZone (left - (l.length : Int)) (I 0) (by omega) (by omega) rfl (fun i x hx hi t ht1 ht2 K => ?_) fun t K => ?_).trans ?_
  · have e := laws_szZone_n x t (hw.2 x (List.mem_of_getElem? hx)) ht1 ht2
    simp [-getElem?_pos, laws_szZoneS_r0, hx, hi, e, wr_succ (show i < 1000000000000000000 by omega)]
    by_cases hs : ((mZone x : Nat) : Int) ≤ t
    · simp [szr_yes hs, hs, show ¬ (t - ((mZone x : Nat) : Int) < 0) by omega]
    · simp [szr_not hs, hs]
  · simp [laws_szZoneS_r0]
  · by_cases hs : ((sumN mZone l : Nat) : Int) ≤ left - (l.length : Int)
    · simp [szr_yes hs, hs]
    · simp [szr_not hs, hs]) k
theorem laws_toZoneS_n (l : List GZone) (h : mZoneS l ≤ 1048576) (k) : call laws_toZoneS [.one (.list 2 (l.map eZone))] k = k [.list 2 (l.map eZone)] := call_of (fun k => by
  have hm := h
  unfold mZoneS at hm
  simp [laws_toZoneS, show l.length < 1073741824 by omega]
  refine lp_toS l eZone eZone [.list 17 [], .list 4 []] 2 2 (.list 2 []) rfl (fun i x hx hi K rows hr hz => ?_) fun K => ?_
  · have hs : mZone x ≤ sumN mZone l := sumN_mem (s := mZone) (List.mem_of_getElem? hx)
    simp [-getElem?_pos, laws_toZoneS_r0, hx, hi, hr, hz, over, laws_toZone_n x (by omega), wr_succ (show i < 1000000000000000000 by omega)]
  · simp [laws_toZoneS_r0]) k
theorem laws_eqZoneS_n (l : List GZone) (h : mZoneS l ≤ 1048576) (k) : call laws_eqZoneS [.one (.list 2 (l.map eZone)), .one (.list 2 (l.map eZone))] k = k [.bool true] := call_of (fun k => by
  have hm := h
  unfold mZoneS at hm
  simp [laws_eqZoneS]
  refine lp_eqS l eZone 2 (.bool false) rfl (fun i x hx hi K => ?_) fun K => ?_
  · have hs : mZone x ≤ sumN mZone l := sumN_mem (s := mZone) (List.mem_of_getElem? hx)
    simp [-getElem?_pos, laws_eqZoneS_r0, hx, hi, laws_eqZone_n x (by omega), wr_succ (show i < 1000000000000000000 by omega)]
  · simp [laws_eqZoneS_r0]) k
structure GServer where
  Zones : List GZone
  Lie : Int
abbrev eServer (a : GServer) : List PV := [.list 2 (a.Zones.map eZone), I a.Lie]
def mServer (a : GServer) : Nat := mZoneS a.Zones
def WServer (a : GServer) : Prop := (a.Zones.length ≤ maxLen ∧ ∀ y ∈ a.Zones, WZone y)
theorem decServer (r : List PV) (hr : Sh.hasAll [.list [.list [.int .i64, .int .i64, .int .i64, .int .i64, .int .i64, .int .i64, .int .i64, .int .i64, .list [.int .i64], .int .i64, .list [.int .i64], .int .i64, .int .i64, .list [.int .i64], .int .i64, .bool, .list [.int .i64, .int .i64]], .list [.str, .int .i64, .int .i64, .list [.str]]], .int .i64] r) : ∃ a : GServer, r = eServer a ∧ WServer a := by
  obtain ⟨p1, r1, rfl, h1, hr1⟩ := all_cons hr
  obtain ⟨n1, rfl, g1⟩ := decZoneS h1
  obtain ⟨p2, rfl, h2⟩ := all_one hr1
  obtain ⟨n2, rfl⟩ := has_int h2
  exact ⟨⟨n1, n2⟩, rfl, g1⟩
theorem laws_szServer_n (a : GServer) (left : Int) (hw : WServer a) (h2 : 0 ≤ left) (h3 : left ≤ 1048576) (k) : call laws_szServer [.agg (eServer a), .one (I left)] k = k [I (szr (mServer a) left)] := call_of (fun k => by
  have g0 := hw
  unfold mServer
  simp only [laws_szServer, un, cur0, laws_szZoneS_n a.Zones (left) g0 h2 h3, binP_lss, iteP_eq, atP_zero, rt_eq, scs_sc, scs_nil, flat_int, true_and, and_true]
  by_cases c0 : ((mZoneS a.Zones : Nat) : Int) ≤ left
  rotate_left
  · first | (simp [szr_not c0, szr_not c0]; done) | (simp only [szr_not c0, szr_not c0]; simp)
  simp only [szr_yes c0, show ¬ (left - ((mZoneS a.Zones : Nat) : Int) < 0) by omega, decide_false, Bool.false_eq_true, if_false, binP_lss, iteP_eq, atP_zero, rt_eq, scs_sc, scs_nil, flat_int, true_and, and_true]) k
theorem laws_toServer_n (a : GServer) (h : mServer a ≤ 1048576) (k) : call laws_toServer [.agg (eServer a)] k = k (eServer a) := call_of (fun k => by
  unfold mServer at h
  simp [laws_toServer, laws_toZoneS_n a.Zones (by omega)]) k
theorem laws_eqServer_n (a : GServer) (h : mServer a ≤ 1048576) (k) : call laws_eqServer [.agg (eServer a), .agg (eServer a)] k = k [.bool true] := call_of (fun k => by
  unfold mServer at h
  simp [laws_eqServer, laws_eqZoneS_n a.Zones (by omega)]) k
structure GQuestion where
  Zone : Int
  Bucket : Int
abbrev eQuestion (a : GQuestion) : List PV := [I a.Zone, I a.Bucket]
theorem decQuestion (r : List PV) (hr : Sh.hasAll [.int .i64, .int .i64] r) : ∃ a : GQuestion, r = eQuestion a ∧ True := by
  obtain ⟨p1, r1, rfl, h1, hr1⟩ := all_cons hr
  obtain ⟨n1, rfl⟩ := has_int h1
  obtain ⟨p2, rfl, h2⟩ := all_one hr1
  obtain ⟨n2, rfl⟩ := has_int h2
  exact ⟨⟨n1, n2⟩, rfl, trivial⟩
theorem laws_toQuestion_n (a : GQuestion) (k) : call laws_toQuestion [.agg (eQuestion a)] k = k (eQuestion a) := call_of (fun k => by
  simp [laws_toQuestion]) k
def mAnswerS (l : List GAnswer) : Nat := l.length + sumN mAnswer l
theorem decAnswerS {p : PV} (h : Sh.has (.list [.list [.int .i64, .int .i64, .int .i64, .int .i64, .int .i64, .int .i64, .int .i64, .int .i64, .list [.int .i64], .int .i64, .list [.int .i64], .int .i64, .int .i64, .list [.int .i64], .int .i64, .bool, .list [.int .i64, .int .i64]], .bool, .str, .int .i64, .int .i64, .list [.str], .int .i64, .list [.int .i64], .int .i64, .str, .int .i64, .int .i64, .list [.str], .str, .int .i64, .int .i64, .list [.str], .int .i64, .list [.int .i64], .int .i64, .list [.int .i64]]) p) : ∃ l : List GAnswer, p = .list 21 (l.map eAnswer) ∧ (l.length ≤ maxLen ∧ ∀ y ∈ l, WAnswer y) := by
  obtain ⟨l, h1, h2, h3⟩ := has_map decAnswer 21 rfl h
  exact ⟨l, h1, h2, h3⟩
theorem laws_eqAnswerS_n (l : List GAnswer) (h : mAnswerS l ≤ 1048576) (k) : call laws_eqAnswerS [.one (.list 21 (l.map eAnswer)), .one (.list 21 (l.map eAnswer))] k = k [.bool true] := call_of (fun k => by
  have hm := h
  unfold mAnswerS at hm
  simp [laws_eqAnswerS]
  refine lp_eqS l eAnswer 21 (.bool false) rfl (fun i x hx hi K => ?_) fun K => ?_
  · have hs : mAnswer x ≤ sumN mAnswer l := sumN_mem (s := mAnswer) (List.mem_of_getElem? hx)
    simp [-getElem?_pos, laws_eqAnswerS_r0, hx, hi, laws_eqAnswer_n x (by omega), wr_succ (show i < 1000000000000000000 by omega)]
  · simp [laws_eqAnswerS_r0]) k
end Go.Ev
set_option linter.unusedVariables false
set_option linter.unusedSimpArgs false
set_option maxRecDepth 10000
set_option maxHeartbeats 1000000
namespace Go.Ev
open Go.Proofs
/-! ### Marks: what was written is read again -/
theorem mk_sc {ρ : List (Nat × MM)} {off t : Nat} {ss : List (Option Eff × SV)} {r r1 r' : List PV} {p : PV} {k k' : Int} (h1 : r[off]? = some p) (h2 : p.flat = true) (h3 : r.set off (cellK mtx k t) = r1) (h4 : IntKind.i64.wrap (k + 1) = k + 1) (h : mkRow ρ mtx ss r1 (k + 1) = some (r', k')) : mkRow ρ mtx ((some (.store off t), .kk) :: (none, .kinc) :: ss) r k = some (r', k') := by
  subst h3
  simp only [mkRow, regE, effS, h1, h2, if_true, h4]
  exact h
theorem mk_ca {ρ : List (Nat × MM)} {off f : Nat} {m : PV → Int → Option (PV × Int)} {ss : List (Option Eff × SV)} {r r1 r' : List PV} {p p' : PV} {k k1 k' : Int} (h1 : r[off]? = some p) (h2 : lk ρ f = some (.sl m)) (h3 : m p k = some (p', k1)) (h4 : r.set off p' = r1) (h5 : rg64 k1 = true) (h : mkRow ρ mtx ss r1 k1 = some (r', k')) : mkRow ρ mtx ((some (.call off none f), .res) :: ss) r k = some (r', k') := by
  subst h4
  simp only [mkRow, regE, effS, h1, h2, h3, h5, if_true]
  exact h
theorem mk_ct {ρ : List (Nat × MM)} {off n f : Nat} {m : List PV → Int → Option (List PV × Int)} {ss : List (Option Eff × SV)} {r r1 r' q q' : List PV} {k k1 k' : Int} (h1 : off + n ≤ r.length) (h2 : lk ρ f = some (.st m)) (hq : (r.drop off).take n = q) (h3 : m q k = some (q', k1)) (h4 : r.take off ++ q' ++ r.drop (off + n) = r1) (h5 : rg64 k1 = true) (h : mkRow ρ mtx ss r1 k1 = some (r', k')) : mkRow ρ mtx ((some (.call off (some n) f), .res) :: ss) r k = some (r', k') := by
  subst h4; subst hq
  simp only [mkRow, regE, effS, h1, h2, h3, h5, if_true]
  exact h
theorem rg_of {k : Int} (h1 : 0 ≤ k) (h2 : k ≤ 1000000000000000) : rg64 k = true := by simp only [rg64, Bool.and_eq_true, decide_eq_true_eq]; omega
theorem wr1 {k : Int} (h1 : 0 ≤ k) (h2 : k ≤ 1000000000000000) : IntKind.i64.wrap (k + 1) = k + 1 := wr_eq (by omega) (by omega)
theorem elemP_row {sz : Nat} {rows : List (List PV)} {i : Nat} {r : List PV} (h : rows[i]? = some r) (k : List PV → Prop) : elemP sz (.list sz rows) (I i) k = k r := by
  simp [elemP, h]
theorem rows_mark {α : Type} (e : α → List PV) (c : α → Nat) {ρ : List (Nat × MM)} {ss : List (Option Eff × SV)} {R : (List PV → Prop) → List PV → Prop} (sz : Nat) : ∀ (l : List α)
    (hel : ∀ x ∈ l, ∀ k, 0 ≤ k → k + 40 * (1 + (c x : Int)) ≤ 1000000000000000 → ∃ r' k', mkRow ρ mtx ss (e x) k = some (r', k') ∧ k ≤ k' ∧ k' ≤ k + 40 * (1 + (c x : Int)) ∧ ∀ (rows : List (List PV)) (i : Nat) K z, rows[i]? = some r' → i < rows.length → rows.length ≤ 1000000000000000 → (R K [.list sz rows, I k, z, I i] ↔ K [.list sz rows, I k', z, I ((i : Int) + 1)]))
    (k : Int), 0 ≤ k → k + 40 * ((l.length : Int) + (sumN c l : Int)) ≤ 1000000000000000 → ∃ rows' k', mkRows ρ mtx ss (l.map e) k = some (rows', k') ∧ rows'.length = l.length ∧ k ≤ k' ∧ k' ≤ k + 40 * ((l.length : Int) + (sumN c l : Int)) ∧
      ∀ (pre : List (List PV)) (z : PV) (fin : Prop), (pre ++ rows').length ≤ 1000000000000000 → (∀ K, R K [.list sz (pre ++ rows'), I k', z, I (pre ++ rows').length] ↔ fin) → (lp R [.list sz (pre ++ rows'), I k, z, I pre.length] ↔ fin)
  | [], hel, k, h0, hb => ⟨[], k, rfl, rfl, Int.le_refl _, by simp [sumN], fun pre z fin hl hf => itP_mono_end fun K => by have := hf K; rwa [List.append_nil] at this ⊢⟩
  | x :: l, hel, k, h0, hb => by
    have hs : sumN c (x :: l) = c x + sumN c l := rfl
    rw [hs] at hb ⊢
    simp only [List.length_cons] at hb ⊢
    obtain ⟨r', k1, q1, q2, q3, q4⟩ := hel x (by simp) k h0 (by omega)
    obtain ⟨rows', k', p1, p2, p3, p4, p5⟩ := rows_mark e c sz l (fun y hy => hel y (by simp [hy])) k1 (by omega) (by omega)
    refine ⟨r' :: rows', k', by simp only [List.map_cons, mkRows, q1, p1], by simp [p2], by omega, by omega, fun pre z fin hl hf => ?_⟩
    have hx : (pre ++ r' :: rows')[pre.length]? = some r' := by simp
    have hlt : pre.length < (pre ++ r' :: rows').length := by simp
    rw [lp_step fun K => q4 (pre ++ r' :: rows') pre.length K z hx hlt hl]
    have e1 : pre ++ r' :: rows' = (pre ++ [r']) ++ rows' := by simp
    have e2 : ((pre.length : Int) + 1) = (((pre ++ [r']).length : Nat) : Int) := by simp
    rw [e1, e2]
    exact p5 (pre ++ [r']) z fin (by rw [← e1]; exact hl) (by rw [← e1]; exact hf)
theorem rows_mark0 {α : Type} (e : α → List PV) (c : α → Nat) {ρ : List (Nat × MM)} {ss : List (Option Eff × SV)} : ∀ (l : List α)
    (hel : ∀ x ∈ l, ∀ k, 0 ≤ k → k + 40 * (1 + (c x : Int)) ≤ 1000000000000000 → ∃ r' k', mkRow ρ mtx ss (e x) k = some (r', k') ∧ k ≤ k' ∧ k' ≤ k + 40 * (1 + (c x : Int)))
    (k : Int), 0 ≤ k → k + 40 * ((l.length : Int) + (sumN c l : Int)) ≤ 1000000000000000 → ∃ rows' k', mkRows ρ mtx ss (l.map e) k = some (rows', k') ∧ k ≤ k' ∧ k' ≤ k + 40 * ((l.length : Int) + (sumN c l : Int))
  | [], hel, k, h0, hb => ⟨[], k, rfl, Int.le_refl _, by simp [sumN]⟩
  | x :: l, hel, k, h0, hb => by
    have hs : sumN c (x :: l) = c x + sumN c l := rfl
    rw [hs] at hb ⊢
    simp only [List.length_cons] at hb ⊢
    obtain ⟨r', k1, q1, q2, q3⟩ := hel x (by simp) k h0 (by omega)
    obtain ⟨rows', k', p1, p3, p4⟩ := rows_mark0 e c l (fun y hy => hel y (by simp [hy])) k1 (by omega) (by omega)
    exact ⟨r' :: rows', k', by simp only [List.map_cons, mkRows, q1, p1], by omega, by omega⟩
theorem mkS_list {ρ : List (Nat × MM)} {sz : Nat} {ss : List (Option Eff × SV)} {rows rows' : List (List PV)} {k k' : Int} (h1 : rows.length < 1000000000000000000) (h2 : mkRows ρ mtx ss rows k = some (rows', k')) : mkS ρ mtx sz ss (.list sz rows) k = some (.list sz rows', k') := by
  simp only [mkS, true_and, h1, if_true, h2]
theorem mkT_of {ρ : List (Nat × MM)} {esz : Nat} {ss : List (Option Eff × SV)} {ps ps' : List PV} {k k' : Int} (h1 : ps.length = esz) (h2 : mkRow ρ mtx ss ps k = some (ps', k')) : mkT ρ mtx esz ss ps k = some (ps', k') := by
  simp only [mkT, h1, if_true, h2]
theorem sumN_z {α : Type} (l : List α) : sumN (fun _ : α => 0) l = 0 := by
  induction l with
  | nil => rfl
  | cons x l ih => show 0 + sumN _ l = 0; rw [ih]
theorem sumN_eq {α : Type} {f g : α → Nat} (h : ∀ x, f x = g x) (l : List α) : sumN f l = sumN g l := by rw [show f = g from funext h]

theorem marks_IntS (l : List Int) (k : Int) (h0 : 0 ≤ k) (hb : k + 40 * ((l.length : Nat) : Int) ≤ 1000000000000000) : ∃ p k', mk_IntS (ints l) k = some (p, k') ∧ k ≤ k' ∧ k' ≤ k + 40 * ((l.length : Nat) : Int) ∧ ∀ K, call laws_heldIntS [.one p, .one (I k)] K = K [I k'] := by
  have hm : (l.length : Nat) = l.length + sumN (fun x : Int => 0) l := by rw [sumN_z]; omega
  rw [hm] at hb ⊢
  have hrow : ∀ (A : Prop) (B : PV → PV → PV → PV → Prop), ∀ x ∈ l, ∀ k, 0 ≤ k → k + 40 * (1 + ((fun x : Int => 0) x : Int)) ≤ 1000000000000000 → ∃ r' k', mkRow mk_IntS_r mtx mk_IntS_s (rI x) k = some (r', k') ∧ k ≤ k' ∧ k' ≤ k + 40 * (1 + ((fun x : Int => 0) x : Int)) ∧ ∀ (rows : List (List PV)) (i : Nat) K z, rows[i]? = some r' → i < rows.length → rows.length ≤ 1000000000000000 → ((fun L w => laws_heldIntS_r0 w L A B) K [.list 1 rows, I k, z, I i] ↔ K [.list 1 rows, I k', z, I ((i : Int) + 1)]) := by
    intro A B x hx k h0 hb
    have hle : (l.length : Int) ≤ 1000000000000000 := by omega
    clear hle
    try dsimp only at hb ⊢
    refine ⟨[I (k)], k + 1, mk_sc rfl rfl rfl (wr1 (by omega) (by omega)) (rfl), by omega, by omega, fun rows i K z hr hi hn => ?_⟩
    have f0 := wr1 (k := k) (by omega) (by omega)
    have hlt : (i : Int) < (rows.length : Int) := by omega
    simp only [laws_heldIntS_r0, un, cur0, lenP_eq, binP_lss, hlt, decide_true, decide_false, iteP_eq, if_true, elemP_row hr, atP_zero, atP_succ, binP_neq, bne_self_eq_false, Bool.false_eq_true, if_false, binP_add, binP_sneq, Bool.not_true, binP_rem, binP_eql, boolP_neq, f0, wr_succ (show i < 1000000000000000000 by omega), true_and, ne_eq, not_false_eq_true]
  obtain ⟨rows', k', p1, p2, p3, p4, p5⟩ := rows_mark rI (fun x : Int => 0) 1 l (hrow True fun _ _ _ _ => True) k h0 (by omega)
  have hle : (l.length : Int) ≤ 1000000000000000 := by omega
  refine ⟨.list 1 rows', k', ?_, p3, p4, fun K => ?_⟩
  · exact mkS_list (by rw [List.length_map]; omega) p1
  · refine (call_of (fun K => ?_) K)
    obtain ⟨rows2, k2, r1, r2, r3, r4, r5⟩ := rows_mark rI (fun x : Int => 0) 1 l (hrow (rt [.sc] [(I (-1))] K) fun q6 q7 q8 q9 => rt [.sc] [q7] K) k h0 (by omega)
    have hs := p1.symm.trans r1
    injection hs with hs; injection hs with hs1 hs2
    subst hs1; subst hs2
    have := r5 [] (I 0) (K [I k']) (by rw [List.nil_append, p2]; omega) fun K2 => by
      simp only [laws_heldIntS_r0, un, cur0, lenP_eq, binP_lss, Int.lt_irrefl, decide_false, iteP_eq, Bool.false_eq_true, if_false, List.nil_append, rt_eq, scs_sc, scs_nil, flat_int, true_and]
    exact this
theorem marks_SigS (l : List GSig) (k : Int) (h0 : 0 ≤ k) (hb : k + 40 * ((l.length : Nat) : Int) ≤ 1000000000000000) : ∃ p k', mk_SigS (.list 2 (l.map eSig)) k = some (p, k') ∧ k ≤ k' ∧ k' ≤ k + 40 * ((l.length : Nat) : Int) ∧ ∀ K, call laws_heldSigS [.one p, .one (I k)] K = K [I k'] := by
  have hm : (l.length : Nat) = l.length + sumN (fun x : GSig => 0) l := by rw [sumN_z]; omega
  rw [hm] at hb ⊢
  have hrow : ∀ (A : Prop) (B : PV → PV → PV → PV → Prop), ∀ x ∈ l, ∀ k, 0 ≤ k → k + 40 * (1 + ((fun x : GSig => 0) x : Int)) ≤ 1000000000000000 → ∃ r' k', mkRow mk_SigS_r mtx mk_SigS_s (eSig x) k = some (r', k') ∧ k ≤ k' ∧ k' ≤ k + 40 * (1 + ((fun x : GSig => 0) x : Int)) ∧ ∀ (rows : List (List PV)) (i : Nat) K z, rows[i]? = some r' → i < rows.length → rows.length ≤ 1000000000000000 → ((fun L w => laws_heldSigS_r0 w L A B) K [.list 2 rows, I k, z, I i] ↔ K [.list 2 rows, I k', z, I ((i : Int) + 1)]) := by
    intro A B x hx k h0 hb
    have hle : (l.length : Int) ≤ 1000000000000000 := by omega
    clear hle
    try dsimp only at hb ⊢
    refine ⟨[I (k), I (k + 1)], k + 1 + 1, mk_sc rfl rfl rfl (wr1 (by omega) (by omega)) (mk_sc rfl rfl rfl (wr1 (by omega) (by omega)) (rfl)), by omega, by omega, fun rows i K z hr hi hn => ?_⟩
    have f0 := wr1 (k := k) (by omega) (by omega)
    have f1 := wr1 (k := k + 1) (by omega) (by omega)
    have hlt : (i : Int) < (rows.length : Int) := by omega
    simp only [laws_heldSigS_r0, un, cur0, lenP_eq, binP_lss, hlt, decide_true, decide_false, iteP_eq, if_true, elemP_row hr, atP_zero, atP_succ, binP_neq, bne_self_eq_false, Bool.false_eq_true, if_false, binP_add, binP_sneq, Bool.not_true, binP_rem, binP_eql, boolP_neq, f0, f1, wr_succ (show i < 1000000000000000000 by omega), true_and, ne_eq, not_false_eq_true]
  obtain ⟨rows', k', p1, p2, p3, p4, p5⟩ := rows_mark eSig (fun x : GSig => 0) 2 l (hrow True fun _ _ _ _ => True) k h0 (by omega)
  have hle : (l.length : Int) ≤ 1000000000000000 := by omega
  refine ⟨.list 2 rows', k', ?_, p3, p4, fun K => ?_⟩
  · exact mkS_list (by rw [List.length_map]; omega) p1
  · refine (call_of (fun K => ?_) K)
    obtain ⟨rows2, k2, r1, r2, r3, r4, r5⟩ := rows_mark eSig (fun x : GSig => 0) 2 l (hrow (rt [.sc] [(I (-1))] K) fun q6 q7 q8 q9 => rt [.sc] [q7] K) k h0 (by omega)
    have hs := p1.symm.trans r1
    injection hs with hs; injection hs with hs1 hs2
    subst hs1; subst hs2
    have := r5 [] (I 0) (K [I k']) (by rw [List.nil_append, p2]; omega) fun K2 => by
      simp only [laws_heldSigS_r0, un, cur0, lenP_eq, binP_lss, Int.lt_irrefl, decide_false, iteP_eq, Bool.false_eq_true, if_false, List.nil_append, rt_eq, scs_sc, scs_nil, flat_int, true_and]
    exact this
theorem marks_SignedS (l : List GSigned) (k : Int) (h0 : 0 ≤ k) (hb : k + 40 * ((mSignedS l : Nat) : Int) ≤ 1000000000000000) : ∃ p k', mk_SignedS (.list 17 (l.map eSigned)) k = some (p, k') ∧ k ≤ k' ∧ k' ≤ k + 40 * ((mSignedS l : Nat) : Int) ∧ ∀ K, call laws_heldSignedS [.one p, .one (I k)] K = K [I k'] := by
  have hm : mSignedS l = l.length + sumN (fun x : GSigned => mSigned x) l := rfl
  rw [hm] at hb ⊢
  have hrow : ∀ (A : Prop) (B : PV → PV → PV → PV → Prop), ∀ x ∈ l, ∀ k, 0 ≤ k → k + 40 * (1 + ((fun x : GSigned => mSigned x) x : Int)) ≤ 1000000000000000 → ∃ r' k', mkRow mk_SignedS_r mtx mk_SignedS_s (eSigned x) k = some (r', k') ∧ k ≤ k' ∧ k' ≤ k + 40 * (1 + ((fun x : GSigned => mSigned x) x : Int)) ∧ ∀ (rows : List (List PV)) (i : Nat) K z, rows[i]? = some r' → i < rows.length → rows.length ≤ 1000000000000000 → ((fun L w => laws_heldSignedS_r0 w L A A A A A B) K [.list 17 rows, I k, z, I i] ↔ K [.list 17 rows, I k', z, I ((i : Int) + 1)]) := by
    intro A B x hx k h0 hb
    have hle : (l.length : Int) ≤ 1000000000000000 := by omega
    clear hle
    try dsimp only at hb ⊢
    simp only [mHead, mKeys, mSigned] at hb ⊢
    obtain ⟨p1, k1, e1, l1, u1, g1⟩ := marks_IntS x.Head.Keys.Lst (k + 1 + 1 + 1 + 1 + 1 + 1 + 1 + 1) (by omega) (by omega)
    obtain ⟨p2, k2, e2, l2, u2, g2⟩ := marks_IntS x.Head.Heirs.Lst (k1 + 1) (by omega) (by omega)
    obtain ⟨p3, k3, e3, l3, u3, g3⟩ := marks_IntS x.Head.Judge.Lst (k2 + 1 + 1) (by omega) (by omega)
    obtain ⟨p4, k4, e4, l4, u4, g4⟩ := marks_SigS x.Sigs (k3 + 1 + 1) (by omega) (by omega)
    refine ⟨[I (k), I (k + 1), I (k + 1 + 1), I (k + 1 + 1 + 1), I (k + 1 + 1 + 1 + 1), I (k + 1 + 1 + 1 + 1 + 1), I (k + 1 + 1 + 1 + 1 + 1 + 1), I (k + 1 + 1 + 1 + 1 + 1 + 1 + 1), p1, I (k1), p2, I (k2), I (k2 + 1), p3, I (k3), .bool ((k3 + 1).tmod 3 == 0), p4], k4, mk_sc (r1 := [I (k), I x.Head.Epoch, I x.Head.Kind, I x.Head.Time, I x.Head.Until, I x.Head.Count, I x.Head.Root, I x.Head.Prev, ints x.Head.Keys.Lst, I x.Head.Keys.Need, ints x.Head.Heirs.Lst, I x.Head.Heirs.Need, I x.Head.Wait, ints x.Head.Judge.Lst, I x.Head.Judge.Need, .bool x.Head.Frozen, .list 2 (x.Sigs.map eSig)]) rfl rfl rfl (wr1 (by omega) (by omega)) (mk_sc (r1 := [I (k), I (k + 1), I x.Head.Kind, I x.Head.Time, I x.Head.Until, I x.Head.Count, I x.Head.Root, I x.Head.Prev, ints x.Head.Keys.Lst, I x.Head.Keys.Need, ints x.Head.Heirs.Lst, I x.Head.Heirs.Need, I x.Head.Wait, ints x.Head.Judge.Lst, I x.Head.Judge.Need, .bool x.Head.Frozen, .list 2 (x.Sigs.map eSig)]) rfl rfl rfl (wr1 (by omega) (by omega)) (mk_sc (r1 := [I (k), I (k + 1), I (k + 1 + 1), I x.Head.Time, I x.Head.Until, I x.Head.Count, I x.Head.Root, I x.Head.Prev, ints x.Head.Keys.Lst, I x.Head.Keys.Need, ints x.Head.Heirs.Lst, I x.Head.Heirs.Need, I x.Head.Wait, ints x.Head.Judge.Lst, I x.Head.Judge.Need, .bool x.Head.Frozen, .list 2 (x.Sigs.map eSig)]) rfl rfl rfl (wr1 (by omega) (by omega)) (mk_sc (r1 := [I (k), I (k + 1), I (k + 1 + 1), I (k + 1 + 1 + 1), I x.Head.Until, I x.Head.Count, I x.Head.Root, I x.Head.Prev, ints x.Head.Keys.Lst, I x.Head.Keys.Need, ints x.Head.Heirs.Lst, I x.Head.Heirs.Need, I x.Head.Wait, ints x.Head.Judge.Lst, I x.Head.Judge.Need, .bool x.Head.Frozen, .list 2 (x.Sigs.map eSig)]) rfl rfl rfl (wr1 (by omega) (by omega)) (mk_sc (r1 := [I (k), I (k + 1), I (k + 1 + 1), I (k + 1 + 1 + 1), I (k + 1 + 1 + 1 + 1), I x.Head.Count, I x.Head.Root, I x.Head.Prev, ints x.Head.Keys.Lst, I x.Head.Keys.Need, ints x.Head.Heirs.Lst, I x.Head.Heirs.Need, I x.Head.Wait, ints x.Head.Judge.Lst, I x.Head.Judge.Need, .bool x.Head.Frozen, .list 2 (x.Sigs.map eSig)]) rfl rfl rfl (wr1 (by omega) (by omega)) (mk_sc (r1 := [I (k), I (k + 1), I (k + 1 + 1), I (k + 1 + 1 + 1), I (k + 1 + 1 + 1 + 1), I (k + 1 + 1 + 1 + 1 + 1), I x.Head.Root, I x.Head.Prev, ints x.Head.Keys.Lst, I x.Head.Keys.Need, ints x.Head.Heirs.Lst, I x.Head.Heirs.Need, I x.Head.Wait, ints x.Head.Judge.Lst, I x.Head.Judge.Need, .bool x.Head.Frozen, .list 2 (x.Sigs.map eSig)]) rfl rfl rfl (wr1 (by omega) (by omega)) (mk_sc (r1 := [I (k), I (k + 1), I (k + 1 + 1), I (k + 1 + 1 + 1), I (k + 1 + 1 + 1 + 1), I (k + 1 + 1 + 1 + 1 + 1), I (k + 1 + 1 + 1 + 1 + 1 + 1), I x.Head.Prev, ints x.Head.Keys.Lst, I x.Head.Keys.Need, ints x.Head.Heirs.Lst, I x.Head.Heirs.Need, I x.Head.Wait, ints x.Head.Judge.Lst, I x.Head.Judge.Need, .bool x.Head.Frozen, .list 2 (x.Sigs.map eSig)]) rfl rfl rfl (wr1 (by omega) (by omega)) (mk_sc (r1 := [I (k), I (k + 1), I (k + 1 + 1), I (k + 1 + 1 + 1), I (k + 1 + 1 + 1 + 1), I (k + 1 + 1 + 1 + 1 + 1), I (k + 1 + 1 + 1 + 1 + 1 + 1), I (k + 1 + 1 + 1 + 1 + 1 + 1 + 1), ints x.Head.Keys.Lst, I x.Head.Keys.Need, ints x.Head.Heirs.Lst, I x.Head.Heirs.Need, I x.Head.Wait, ints x.Head.Judge.Lst, I x.Head.Judge.Need, .bool x.Head.Frozen, .list 2 (x.Sigs.map eSig)]) rfl rfl rfl (wr1 (by omega) (by omega)) (mk_ca (r1 := [I (k), I (k + 1), I (k + 1 + 1), I (k + 1 + 1 + 1), I (k + 1 + 1 + 1 + 1), I (k + 1 + 1 + 1 + 1 + 1), I (k + 1 + 1 + 1 + 1 + 1 + 1), I (k + 1 + 1 + 1 + 1 + 1 + 1 + 1), p1, I x.Head.Keys.Need, ints x.Head.Heirs.Lst, I x.Head.Heirs.Need, I x.Head.Wait, ints x.Head.Judge.Lst, I x.Head.Judge.Need, .bool x.Head.Frozen, .list 2 (x.Sigs.map eSig)]) rfl rfl e1 rfl (rg_of (by omega) (by omega)) (mk_sc (r1 := [I (k), I (k + 1), I (k + 1 + 1), I (k + 1 + 1 + 1), I (k + 1 + 1 + 1 + 1), I (k + 1 + 1 + 1 + 1 + 1), I (k + 1 + 1 + 1 + 1 + 1 + 1), I (k + 1 + 1 + 1 + 1 + 1 + 1 + 1), p1, I (k1), ints x.Head.Heirs.Lst, I x.Head.Heirs.Need, I x.Head.Wait, ints x.Head.Judge.Lst, I x.Head.Judge.Need, .bool x.Head.Frozen, .list 2 (x.Sigs.map eSig)]) rfl rfl rfl (wr1 (by omega) (by omega)) (mk_ca (r1 := [I (k), I (k + 1), I (k + 1 + 1), I (k + 1 + 1 + 1), I (k + 1 + 1 + 1 + 1), I (k + 1 + 1 + 1 + 1 + 1), I (k + 1 + 1 + 1 + 1 + 1 + 1), I (k + 1 + 1 + 1 + 1 + 1 + 1 + 1), p1, I (k1), p2, I x.Head.Heirs.Need, I x.Head.Wait, ints x.Head.Judge.Lst, I x.Head.Judge.Need, .bool x.Head.Frozen, .list 2 (x.Sigs.map eSig)]) rfl rfl e2 rfl (rg_of (by omega) (by omega)) (mk_sc (r1 := [I (k), I (k + 1), I (k + 1 + 1), I (k + 1 + 1 + 1), I (k + 1 + 1 + 1 + 1), I (k + 1 + 1 + 1 + 1 + 1), I (k + 1 + 1 + 1 + 1 + 1 + 1), I (k + 1 + 1 + 1 + 1 + 1 + 1 + 1), p1, I (k1), p2, I (k2), I x.Head.Wait, ints x.Head.Judge.Lst, I x.Head.Judge.Need, .bool x.Head.Frozen, .list 2 (x.Sigs.map eSig)]) rfl rfl rfl (wr1 (by omega) (by omega)) (mk_sc (r1 := [I (k), I (k + 1), I (k + 1 + 1), I (k + 1 + 1 + 1), I (k + 1 + 1 + 1 + 1), I (k + 1 + 1 + 1 + 1 + 1), I (k + 1 + 1 + 1 + 1 + 1 + 1), I (k + 1 + 1 + 1 + 1 + 1 + 1 + 1), p1, I (k1), p2, I (k2), I (k2 + 1), ints x.Head.Judge.Lst, I x.Head.Judge.Need, .bool x.Head.Frozen, .list 2 (x.Sigs.map eSig)]) rfl rfl rfl (wr1 (by omega) (by omega)) (mk_ca (r1 := [I (k), I (k + 1), I (k + 1 + 1), I (k + 1 + 1 + 1), I (k + 1 + 1 + 1 + 1), I (k + 1 + 1 + 1 + 1 + 1), I (k + 1 + 1 + 1 + 1 + 1 + 1), I (k + 1 + 1 + 1 + 1 + 1 + 1 + 1), p1, I (k1), p2, I (k2), I (k2 + 1), p3, I x.Head.Judge.Need, .bool x.Head.Frozen, .list 2 (x.Sigs.map eSig)]) rfl rfl e3 rfl (rg_of (by omega) (by omega)) (mk_sc (r1 := [I (k), I (k + 1), I (k + 1 + 1), I (k + 1 + 1 + 1), I (k + 1 + 1 + 1 + 1), I (k + 1 + 1 + 1 + 1 + 1), I (k + 1 + 1 + 1 + 1 + 1 + 1), I (k + 1 + 1 + 1 + 1 + 1 + 1 + 1), p1, I (k1), p2, I (k2), I (k2 + 1), p3, I (k3), .bool x.Head.Frozen, .list 2 (x.Sigs.map eSig)]) rfl rfl rfl (wr1 (by omega) (by omega)) (mk_sc (r1 := [I (k), I (k + 1), I (k + 1 + 1), I (k + 1 + 1 + 1), I (k + 1 + 1 + 1 + 1), I (k + 1 + 1 + 1 + 1 + 1), I (k + 1 + 1 + 1 + 1 + 1 + 1), I (k + 1 + 1 + 1 + 1 + 1 + 1 + 1), p1, I (k1), p2, I (k2), I (k2 + 1), p3, I (k3), .bool ((k3 + 1).tmod 3 == 0), .list 2 (x.Sigs.map eSig)]) rfl rfl rfl (wr1 (by omega) (by omega)) (mk_ca (r1 := [I (k), I (k + 1), I (k + 1 + 1), I (k + 1 + 1 + 1), I (k + 1 + 1 + 1 + 1), I (k + 1 + 1 + 1 + 1 + 1), I (k + 1 + 1 + 1 + 1 + 1 + 1), I (k + 1 + 1 + 1 + 1 + 1 + 1 + 1), p1, I (k1), p2, I (k2), I (k2 + 1), p3, I (k3), .bool ((k3 + 1).tmod 3 == 0), p4]) rfl rfl e4 rfl (rg_of (by omega) (by omega)) (rfl))))))))))))))))), by omega, by omega, fun rows i K z hr hi hn => ?_⟩
    have f0 := wr1 (k := k) (by omega) (by omega)
    have f1 := wr1 (k := k + 1) (by omega) (by omega)
    have f2 := wr1 (k := k + 1 + 1) (by omega) (by omega)
    have f3 := wr1 (k := k + 1 + 1 + 1) (by omega) (by omega)
    have f4 := wr1 (k := k + 1 + 1 + 1 + 1) (by omega) (by omega)
    have f5 := wr1 (k := k + 1 + 1 + 1 + 1 + 1) (by omega) (by omega)
    have f6 := wr1 (k := k + 1 + 1 + 1 + 1 + 1 + 1) (by omega) (by omega)
    have f7 := wr1 (k := k + 1 + 1 + 1 + 1 + 1 + 1 + 1) (by omega) (by omega)
    have f9 : ¬ (k1 < 0) := by omega
    have f10 := wr1 (k := k1) (by omega) (by omega)
    have f12 : ¬ (k2 < 0) := by omega
    have f13 := wr1 (k := k2) (by omega) (by omega)
    have f14 := wr1 (k := k2 + 1) (by omega) (by omega)
    have f16 : ¬ (k3 < 0) := by omega
    have f17 := wr1 (k := k3) (by omega) (by omega)
    have f18 := wr1 (k := k3 + 1) (by omega) (by omega)
    have f20 : ¬ (k4 < 0) := by omega
    have hlt : (i : Int) < (rows.length : Int) := by omega
    simp only [laws_heldSignedS_r0, un, cur0, lenP_eq, binP_lss, hlt, decide_true, decide_false, iteP_eq, if_true, elemP_row hr, atP_zero, atP_succ, binP_neq, bne_self_eq_false, Bool.false_eq_true, if_false, binP_add, binP_sneq, Bool.not_true, binP_rem, binP_eql, boolP_neq, f0, f1, f2, f3, f4, f5, f6, f7, g1, f9, f10, g2, f12, f13, f14, g3, f16, f17, f18, g4, f20, wr_succ (show i < 1000000000000000000 by omega), true_and, ne_eq, not_false_eq_true]
    simp
  obtain ⟨rows', k', p1, p2, p3, p4, p5⟩ := rows_mark eSigned (fun x : GSigned => mSigned x) 17 l (hrow True fun _ _ _ _ => True) k h0 (by omega)
  have hle : (l.length : Int) ≤ 1000000000000000 := by omega
  refine ⟨.list 17 rows', k', ?_, p3, p4, fun K => ?_⟩
  · exact mkS_list (by rw [List.length_map]; omega) p1
  · refine (call_of (fun K => ?_) K)
    obtain ⟨rows2, k2, r1, r2, r3, r4, r5⟩ := rows_mark eSigned (fun x : GSigned => mSigned x) 17 l (hrow (rt [.sc] [(I (-1))] K) fun q6 q7 q8 q9 => rt [.sc] [q7] K) k h0 (by omega)
    have hs := p1.symm.trans r1
    injection hs with hs; injection hs with hs1 hs2
    subst hs1; subst hs2
    have := r5 [] (I 0) (K [I k']) (by rw [List.nil_append, p2]; omega) fun K2 => by
      simp only [laws_heldSignedS_r0, un, cur0, lenP_eq, binP_lss, Int.lt_irrefl, decide_false, iteP_eq, Bool.false_eq_true, if_false, List.nil_append, rt_eq, scs_sc, scs_nil, flat_int, true_and]
    exact this
theorem marks_StringS (l : List ByteArray) (k : Int) (h0 : 0 ≤ k) (hb : k + 40 * (((l.length + sumN ByteArray.size l) : Nat) : Int) ≤ 1000000000000000) : ∃ p k', mk_StringS (strs l) k = some (p, k') ∧ k ≤ k' ∧ k' ≤ k + 40 * (((l.length + sumN ByteArray.size l) : Nat) : Int) ∧ ∀ K, call laws_heldStringS [.one p, .one (I k)] K = K [I k'] := by
  have hm : ((l.length + sumN ByteArray.size l) : Nat) = l.length + sumN (fun x : ByteArray => x.size) l := rfl
  rw [hm] at hb ⊢
  have hrow : ∀ (A : Prop) (B : PV → PV → PV → PV → Prop), ∀ x ∈ l, ∀ k, 0 ≤ k → k + 40 * (1 + ((fun x : ByteArray => x.size) x : Int)) ≤ 1000000000000000 → ∃ r' k', mkRow mk_StringS_r mtx mk_StringS_s (rS x) k = some (r', k') ∧ k ≤ k' ∧ k' ≤ k + 40 * (1 + ((fun x : ByteArray => x.size) x : Int)) ∧ ∀ (rows : List (List PV)) (i : Nat) K z, rows[i]? = some r' → i < rows.length → rows.length ≤ 1000000000000000 → ((fun L w => laws_heldStringS_r0 w L A B) K [.list 1 rows, I k, z, I i] ↔ K [.list 1 rows, I k', z, I ((i : Int) + 1)]) := by
    intro A B x hx k h0 hb
    have hle : (l.length : Int) ≤ 1000000000000000 := by omega
    clear hle
    try dsimp only at hb ⊢
    have hb0 := hb
    refine ⟨[.str (mtx (k))], k + 1, mk_sc rfl rfl rfl (wr1 (by omega) (by omega)) (rfl), by omega, by omega, fun rows i K z hr hi hn => ?_⟩
    have f0 := wr1 (k := k) (by omega) (by omega)
    have f1 := laws_markText_n (k) (rg_of (by omega) (by omega))
    have hlt : (i : Int) < (rows.length : Int) := by omega
    simp only [laws_heldStringS_r0, un, cur0, lenP_eq, binP_lss, hlt, decide_true, decide_false, iteP_eq, if_true, elemP_row hr, atP_zero, atP_succ, binP_neq, bne_self_eq_false, Bool.false_eq_true, if_false, binP_add, binP_sneq, Bool.not_true, binP_rem, binP_eql, boolP_neq, f0, f1, wr_succ (show i < 1000000000000000000 by omega), true_and, ne_eq, not_false_eq_true]
  obtain ⟨rows', k', p1, p2, p3, p4, p5⟩ := rows_mark rS (fun x : ByteArray => x.size) 1 l (hrow True fun _ _ _ _ => True) k h0 (by omega)
  have hle : (l.length : Int) ≤ 1000000000000000 := by omega
  refine ⟨.list 1 rows', k', ?_, p3, p4, fun K => ?_⟩
  · exact mkS_list (by rw [List.length_map]; omega) p1
  · refine (call_of (fun K => ?_) K)
    obtain ⟨rows2, k2, r1, r2, r3, r4, r5⟩ := rows_mark rS (fun x : ByteArray => x.size) 1 l (hrow (rt [.sc] [(I (-1))] K) fun q6 q7 q8 q9 => rt [.sc] [q7] K) k h0 (by omega)
    have hs := p1.symm.trans r1
    injection hs with hs; injection hs with hs1 hs2
    subst hs1; subst hs2
    have := r5 [] (I 0) (K [I k']) (by rw [List.nil_append, p2]; omega) fun K2 => by
      simp only [laws_heldStringS_r0, un, cur0, lenP_eq, binP_lss, Int.lt_irrefl, decide_false, iteP_eq, Bool.false_eq_true, if_false, List.nil_append, rt_eq, scs_sc, scs_nil, flat_int, true_and]
    exact this
theorem marks_EntryS (l : List GEntry) (k : Int) (h0 : 0 ≤ k) (hb : k + 40 * ((mEntryS l : Nat) : Int) ≤ 1000000000000000) : ∃ p k', mk_EntryS (.list 4 (l.map eEntry)) k = some (p, k') ∧ k ≤ k' ∧ k' ≤ k + 40 * ((mEntryS l : Nat) : Int) ∧ True := by
  have hm : mEntryS l = l.length + sumN (fun x : GEntry => mEntry x) l := rfl
  rw [hm] at hb ⊢
  have hrow : ∀ x ∈ l, ∀ k, 0 ≤ k → k + 40 * (1 + ((fun x : GEntry => mEntry x) x : Int)) ≤ 1000000000000000 → ∃ r' k', mkRow mk_EntryS_r mtx mk_EntryS_s (eEntry x) k = some (r', k') ∧ k ≤ k' ∧ k' ≤ k + 40 * (1 + ((fun x : GEntry => mEntry x) x : Int)) := by
    intro x hx k h0 hb
    have hle : (l.length : Int) ≤ 1000000000000000 := by omega
    clear hle
    try dsimp only at hb ⊢
    simp only [mEntry] at hb ⊢
    obtain ⟨p1, k1, e1, l1, u1, g1⟩ := marks_StringS x.Path (k + 1 + 1 + 1) (by omega) (by omega)
    exact ⟨[.str (mtx (k)), I (k + 1), I (k + 1 + 1), p1], k1, mk_sc (r1 := [.str (mtx (k)), I x.Kind, I x.Value, strs x.Path]) rfl rfl rfl (wr1 (by omega) (by omega)) (mk_sc (r1 := [.str (mtx (k)), I (k + 1), I x.Value, strs x.Path]) rfl rfl rfl (wr1 (by omega) (by omega)) (mk_sc (r1 := [.str (mtx (k)), I (k + 1), I (k + 1 + 1), strs x.Path]) rfl rfl rfl (wr1 (by omega) (by omega)) (mk_ca (r1 := [.str (mtx (k)), I (k + 1), I (k + 1 + 1), p1]) rfl rfl e1 rfl (rg_of (by omega) (by omega)) (rfl)))), by omega, by omega⟩
  obtain ⟨rows', k', p1, p3, p4⟩ := rows_mark0 eEntry (fun x : GEntry => mEntry x) l hrow k h0 (by omega)
  exact ⟨.list 4 rows', k', mkS_list (by rw [List.length_map]; omega) p1, p3, p4, trivial⟩
theorem marks_ZoneS (l : List GZone) (k : Int) (h0 : 0 ≤ k) (hb : k + 40 * ((mZoneS l : Nat) : Int) ≤ 1000000000000000) : ∃ p k', mk_ZoneS (.list 2 (l.map eZone)) k = some (p, k') ∧ k ≤ k' ∧ k' ≤ k + 40 * ((mZoneS l : Nat) : Int) ∧ True := by
  have hm : mZoneS l = l.length + sumN (fun x : GZone => mZone x) l := rfl
  rw [hm] at hb ⊢
  have hrow : ∀ x ∈ l, ∀ k, 0 ≤ k → k + 40 * (1 + ((fun x : GZone => mZone x) x : Int)) ≤ 1000000000000000 → ∃ r' k', mkRow mk_ZoneS_r mtx mk_ZoneS_s (eZone x) k = some (r', k') ∧ k ≤ k' ∧ k' ≤ k + 40 * (1 + ((fun x : GZone => mZone x) x : Int)) := by
    intro x hx k h0 hb
    have hle : (l.length : Int) ≤ 1000000000000000 := by omega
    clear hle
    try dsimp only at hb ⊢
    simp only [mZone] at hb ⊢
    obtain ⟨p1, k1, e1, l1, u1, g1⟩ := marks_SignedS x.Chain (k) (by omega) (by omega)
    obtain ⟨p2, k2, e2, l2, u2, g2⟩ := marks_EntryS x.Entries (k1) (by omega) (by omega)
    exact ⟨[p1, p2], k2, mk_ca rfl rfl e1 rfl (rg_of (by omega) (by omega)) (mk_ca rfl rfl e2 rfl (rg_of (by omega) (by omega)) (rfl)), by omega, by omega⟩
  obtain ⟨rows', k', p1, p3, p4⟩ := rows_mark0 eZone (fun x : GZone => mZone x) l hrow k h0 (by omega)
  exact ⟨.list 2 rows', k', mkS_list (by rw [List.length_map]; omega) p1, p3, p4, trivial⟩
theorem marks_Server (a : GServer) (k : Int) (h0 : 0 ≤ k) (hb : k + 40 * ((mServer a : Nat) : Int) ≤ 1000000000000000) : ∃ c_1 k', mk_Server (eServer a) k = some ([c_1, I a.Lie], k') ∧ k ≤ k' ∧ k' ≤ k + 40 * ((mServer a : Nat) : Int) ∧ True := by
  simp only [mServer] at hb ⊢
  obtain ⟨p1, k1, e1, l1, u1, g1⟩ := marks_ZoneS a.Zones (k) (by omega) (by omega)
  refine ⟨p1, k1, ?_, by omega, by omega, trivial⟩
  · exact mkT_of rfl (mk_ca rfl rfl e1 rfl (rg_of (by omega) (by omega)) (rfl))
theorem marks_AnswerS (l : List GAnswer) (k : Int) (h0 : 0 ≤ k) (hb : k + 40 * ((mAnswerS l : Nat) : Int) ≤ 1000000000000000) : ∃ p k', mk_AnswerS (.list 21 (l.map eAnswer)) k = some (p, k') ∧ k ≤ k' ∧ k' ≤ k + 40 * ((mAnswerS l : Nat) : Int) ∧ ∀ K, call laws_heldAnswerS [.one p, .one (I k)] K = K [I k'] := by
  have hm : mAnswerS l = l.length + sumN (fun x : GAnswer => mAnswer x) l := rfl
  rw [hm] at hb ⊢
  have hrow : ∀ (A : Prop) (B : PV → PV → PV → PV → Prop), ∀ x ∈ l, ∀ k, 0 ≤ k → k + 40 * (1 + ((fun x : GAnswer => mAnswer x) x : Int)) ≤ 1000000000000000 → ∃ r' k', mkRow mk_AnswerS_r mtx mk_AnswerS_s (eAnswer x) k = some (r', k') ∧ k ≤ k' ∧ k' ≤ k + 40 * (1 + ((fun x : GAnswer => mAnswer x) x : Int)) ∧ ∀ (rows : List (List PV)) (i : Nat) K z, rows[i]? = some r' → i < rows.length → rows.length ≤ 1000000000000000 → ((fun L w => laws_heldAnswerS_r0 w L A A A A A A A A A A B) K [.list 21 rows, I k, z, I i] ↔ K [.list 21 rows, I k', z, I ((i : Int) + 1)]) := by
    intro A B x hx k h0 hb
    have hle : (l.length : Int) ≤ 1000000000000000 := by omega
    clear hle
    try dsimp only at hb ⊢
    simp only [mAnswer, mEntry, mGap, mProof] at hb ⊢
    obtain ⟨p1, k1, e1, l1, u1, g1⟩ := marks_SignedS x.Chain (k) (by omega) (by omega)
    obtain ⟨p2, k2, e2, l2, u2, g2⟩ := marks_StringS x.Entry.Path (k1 + 1 + 1 + 1 + 1) (by omega) (by omega)
    obtain ⟨p3, k3, e3, l3, u3, g3⟩ := marks_IntS x.Proof.Path (k2 + 1) (by omega) (by omega)
    obtain ⟨p4, k4, e4, l4, u4, g4⟩ := marks_StringS x.Gap.Before.Path (k3 + 1 + 1 + 1 + 1) (by omega) (by omega)
    obtain ⟨p5, k5, e5, l5, u5, g5⟩ := marks_StringS x.Gap.After.Path (k4 + 1 + 1 + 1) (by omega) (by omega)
    obtain ⟨p6, k6, e6, l6, u6, g6⟩ := marks_IntS x.Gap.Left.Path (k5 + 1) (by omega) (by omega)
    obtain ⟨p7, k7, e7, l7, u7, g7⟩ := marks_IntS x.Gap.Right.Path (k6 + 1) (by omega) (by omega)
    refine ⟨[p1, .bool ((k1).tmod 3 == 0), .str (mtx (k1 + 1)), I (k1 + 1 + 1), I (k1 + 1 + 1 + 1), p2, I (k2), p3, I (k3), .str (mtx (k3 + 1)), I (k3 + 1 + 1), I (k3 + 1 + 1 + 1), p4, .str (mtx (k4)), I (k4 + 1), I (k4 + 1 + 1), p5, I (k5), p6, I (k6), p7], k7, mk_ca (r1 := [p1, .bool x.Found, .str x.Entry.Label, I x.Entry.Kind, I x.Entry.Value, strs x.Entry.Path, I x.Proof.At, ints x.Proof.Path, I x.Gap.At, .str x.Gap.Before.Label, I x.Gap.Before.Kind, I x.Gap.Before.Value, strs x.Gap.Before.Path, .str x.Gap.After.Label, I x.Gap.After.Kind, I x.Gap.After.Value, strs x.Gap.After.Path, I x.Gap.Left.At, ints x.Gap.Left.Path, I x.Gap.Right.At, ints x.Gap.Right.Path]) rfl rfl e1 rfl (rg_of (by omega) (by omega)) (mk_sc (r1 := [p1, .bool ((k1).tmod 3 == 0), .str x.Entry.Label, I x.Entry.Kind, I x.Entry.Value, strs x.Entry.Path, I x.Proof.At, ints x.Proof.Path, I x.Gap.At, .str x.Gap.Before.Label, I x.Gap.Before.Kind, I x.Gap.Before.Value, strs x.Gap.Before.Path, .str x.Gap.After.Label, I x.Gap.After.Kind, I x.Gap.After.Value, strs x.Gap.After.Path, I x.Gap.Left.At, ints x.Gap.Left.Path, I x.Gap.Right.At, ints x.Gap.Right.Path]) rfl rfl rfl (wr1 (by omega) (by omega)) (mk_sc (r1 := [p1, .bool ((k1).tmod 3 == 0), .str (mtx (k1 + 1)), I x.Entry.Kind, I x.Entry.Value, strs x.Entry.Path, I x.Proof.At, ints x.Proof.Path, I x.Gap.At, .str x.Gap.Before.Label, I x.Gap.Before.Kind, I x.Gap.Before.Value, strs x.Gap.Before.Path, .str x.Gap.After.Label, I x.Gap.After.Kind, I x.Gap.After.Value, strs x.Gap.After.Path, I x.Gap.Left.At, ints x.Gap.Left.Path, I x.Gap.Right.At, ints x.Gap.Right.Path]) rfl rfl rfl (wr1 (by omega) (by omega)) (mk_sc (r1 := [p1, .bool ((k1).tmod 3 == 0), .str (mtx (k1 + 1)), I (k1 + 1 + 1), I x.Entry.Value, strs x.Entry.Path, I x.Proof.At, ints x.Proof.Path, I x.Gap.At, .str x.Gap.Before.Label, I x.Gap.Before.Kind, I x.Gap.Before.Value, strs x.Gap.Before.Path, .str x.Gap.After.Label, I x.Gap.After.Kind, I x.Gap.After.Value, strs x.Gap.After.Path, I x.Gap.Left.At, ints x.Gap.Left.Path, I x.Gap.Right.At, ints x.Gap.Right.Path]) rfl rfl rfl (wr1 (by omega) (by omega)) (mk_sc (r1 := [p1, .bool ((k1).tmod 3 == 0), .str (mtx (k1 + 1)), I (k1 + 1 + 1), I (k1 + 1 + 1 + 1), strs x.Entry.Path, I x.Proof.At, ints x.Proof.Path, I x.Gap.At, .str x.Gap.Before.Label, I x.Gap.Before.Kind, I x.Gap.Before.Value, strs x.Gap.Before.Path, .str x.Gap.After.Label, I x.Gap.After.Kind, I x.Gap.After.Value, strs x.Gap.After.Path, I x.Gap.Left.At, ints x.Gap.Left.Path, I x.Gap.Right.At, ints x.Gap.Right.Path]) rfl rfl rfl (wr1 (by omega) (by omega)) (mk_ca (r1 := [p1, .bool ((k1).tmod 3 == 0), .str (mtx (k1 + 1)), I (k1 + 1 + 1), I (k1 + 1 + 1 + 1), p2, I x.Proof.At, ints x.Proof.Path, I x.Gap.At, .str x.Gap.Before.Label, I x.Gap.Before.Kind, I x.Gap.Before.Value, strs x.Gap.Before.Path, .str x.Gap.After.Label, I x.Gap.After.Kind, I x.Gap.After.Value, strs x.Gap.After.Path, I x.Gap.Left.At, ints x.Gap.Left.Path, I x.Gap.Right.At, ints x.Gap.Right.Path]) rfl rfl e2 rfl (rg_of (by omega) (by omega)) (mk_sc (r1 := [p1, .bool ((k1).tmod 3 == 0), .str (mtx (k1 + 1)), I (k1 + 1 + 1), I (k1 + 1 + 1 + 1), p2, I (k2), ints x.Proof.Path, I x.Gap.At, .str x.Gap.Before.Label, I x.Gap.Before.Kind, I x.Gap.Before.Value, strs x.Gap.Before.Path, .str x.Gap.After.Label, I x.Gap.After.Kind, I x.Gap.After.Value, strs x.Gap.After.Path, I x.Gap.Left.At, ints x.Gap.Left.Path, I x.Gap.Right.At, ints x.Gap.Right.Path]) rfl rfl rfl (wr1 (by omega) (by omega)) (mk_ca (r1 := [p1, .bool ((k1).tmod 3 == 0), .str (mtx (k1 + 1)), I (k1 + 1 + 1), I (k1 + 1 + 1 + 1), p2, I (k2), p3, I x.Gap.At, .str x.Gap.Before.Label, I x.Gap.Before.Kind, I x.Gap.Before.Value, strs x.Gap.Before.Path, .str x.Gap.After.Label, I x.Gap.After.Kind, I x.Gap.After.Value, strs x.Gap.After.Path, I x.Gap.Left.At, ints x.Gap.Left.Path, I x.Gap.Right.At, ints x.Gap.Right.Path]) rfl rfl e3 rfl (rg_of (by omega) (by omega)) (mk_sc (r1 := [p1, .bool ((k1).tmod 3 == 0), .str (mtx (k1 + 1)), I (k1 + 1 + 1), I (k1 + 1 + 1 + 1), p2, I (k2), p3, I (k3), .str x.Gap.Before.Label, I x.Gap.Before.Kind, I x.Gap.Before.Value, strs x.Gap.Before.Path, .str x.Gap.After.Label, I x.Gap.After.Kind, I x.Gap.After.Value, strs x.Gap.After.Path, I x.Gap.Left.At, ints x.Gap.Left.Path, I x.Gap.Right.At, ints x.Gap.Right.Path]) rfl rfl rfl (wr1 (by omega) (by omega)) (mk_sc (r1 := [p1, .bool ((k1).tmod 3 == 0), .str (mtx (k1 + 1)), I (k1 + 1 + 1), I (k1 + 1 + 1 + 1), p2, I (k2), p3, I (k3), .str (mtx (k3 + 1)), I x.Gap.Before.Kind, I x.Gap.Before.Value, strs x.Gap.Before.Path, .str x.Gap.After.Label, I x.Gap.After.Kind, I x.Gap.After.Value, strs x.Gap.After.Path, I x.Gap.Left.At, ints x.Gap.Left.Path, I x.Gap.Right.At, ints x.Gap.Right.Path]) rfl rfl rfl (wr1 (by omega) (by omega)) (mk_sc (r1 := [p1, .bool ((k1).tmod 3 == 0), .str (mtx (k1 + 1)), I (k1 + 1 + 1), I (k1 + 1 + 1 + 1), p2, I (k2), p3, I (k3), .str (mtx (k3 + 1)), I (k3 + 1 + 1), I x.Gap.Before.Value, strs x.Gap.Before.Path, .str x.Gap.After.Label, I x.Gap.After.Kind, I x.Gap.After.Value, strs x.Gap.After.Path, I x.Gap.Left.At, ints x.Gap.Left.Path, I x.Gap.Right.At, ints x.Gap.Right.Path]) rfl rfl rfl (wr1 (by omega) (by omega)) (mk_sc (r1 := [p1, .bool ((k1).tmod 3 == 0), .str (mtx (k1 + 1)), I (k1 + 1 + 1), I (k1 + 1 + 1 + 1), p2, I (k2), p3, I (k3), .str (mtx (k3 + 1)), I (k3 + 1 + 1), I (k3 + 1 + 1 + 1), strs x.Gap.Before.Path, .str x.Gap.After.Label, I x.Gap.After.Kind, I x.Gap.After.Value, strs x.Gap.After.Path, I x.Gap.Left.At, ints x.Gap.Left.Path, I x.Gap.Right.At, ints x.Gap.Right.Path]) rfl rfl rfl (wr1 (by omega) (by omega)) (mk_ca (r1 := [p1, .bool ((k1).tmod 3 == 0), .str (mtx (k1 + 1)), I (k1 + 1 + 1), I (k1 + 1 + 1 + 1), p2, I (k2), p3, I (k3), .str (mtx (k3 + 1)), I (k3 + 1 + 1), I (k3 + 1 + 1 + 1), p4, .str x.Gap.After.Label, I x.Gap.After.Kind, I x.Gap.After.Value, strs x.Gap.After.Path, I x.Gap.Left.At, ints x.Gap.Left.Path, I x.Gap.Right.At, ints x.Gap.Right.Path]) rfl rfl e4 rfl (rg_of (by omega) (by omega)) (mk_sc (r1 := [p1, .bool ((k1).tmod 3 == 0), .str (mtx (k1 + 1)), I (k1 + 1 + 1), I (k1 + 1 + 1 + 1), p2, I (k2), p3, I (k3), .str (mtx (k3 + 1)), I (k3 + 1 + 1), I (k3 + 1 + 1 + 1), p4, .str (mtx (k4)), I x.Gap.After.Kind, I x.Gap.After.Value, strs x.Gap.After.Path, I x.Gap.Left.At, ints x.Gap.Left.Path, I x.Gap.Right.At, ints x.Gap.Right.Path]) rfl rfl rfl (wr1 (by omega) (by omega)) (mk_sc (r1 := [p1, .bool ((k1).tmod 3 == 0), .str (mtx (k1 + 1)), I (k1 + 1 + 1), I (k1 + 1 + 1 + 1), p2, I (k2), p3, I (k3), .str (mtx (k3 + 1)), I (k3 + 1 + 1), I (k3 + 1 + 1 + 1), p4, .str (mtx (k4)), I (k4 + 1), I x.Gap.After.Value, strs x.Gap.After.Path, I x.Gap.Left.At, ints x.Gap.Left.Path, I x.Gap.Right.At, ints x.Gap.Right.Path]) rfl rfl rfl (wr1 (by omega) (by omega)) (mk_sc (r1 := [p1, .bool ((k1).tmod 3 == 0), .str (mtx (k1 + 1)), I (k1 + 1 + 1), I (k1 + 1 + 1 + 1), p2, I (k2), p3, I (k3), .str (mtx (k3 + 1)), I (k3 + 1 + 1), I (k3 + 1 + 1 + 1), p4, .str (mtx (k4)), I (k4 + 1), I (k4 + 1 + 1), strs x.Gap.After.Path, I x.Gap.Left.At, ints x.Gap.Left.Path, I x.Gap.Right.At, ints x.Gap.Right.Path]) rfl rfl rfl (wr1 (by omega) (by omega)) (mk_ca (r1 := [p1, .bool ((k1).tmod 3 == 0), .str (mtx (k1 + 1)), I (k1 + 1 + 1), I (k1 + 1 + 1 + 1), p2, I (k2), p3, I (k3), .str (mtx (k3 + 1)), I (k3 + 1 + 1), I (k3 + 1 + 1 + 1), p4, .str (mtx (k4)), I (k4 + 1), I (k4 + 1 + 1), p5, I x.Gap.Left.At, ints x.Gap.Left.Path, I x.Gap.Right.At, ints x.Gap.Right.Path]) rfl rfl e5 rfl (rg_of (by omega) (by omega)) (mk_sc (r1 := [p1, .bool ((k1).tmod 3 == 0), .str (mtx (k1 + 1)), I (k1 + 1 + 1), I (k1 + 1 + 1 + 1), p2, I (k2), p3, I (k3), .str (mtx (k3 + 1)), I (k3 + 1 + 1), I (k3 + 1 + 1 + 1), p4, .str (mtx (k4)), I (k4 + 1), I (k4 + 1 + 1), p5, I (k5), ints x.Gap.Left.Path, I x.Gap.Right.At, ints x.Gap.Right.Path]) rfl rfl rfl (wr1 (by omega) (by omega)) (mk_ca (r1 := [p1, .bool ((k1).tmod 3 == 0), .str (mtx (k1 + 1)), I (k1 + 1 + 1), I (k1 + 1 + 1 + 1), p2, I (k2), p3, I (k3), .str (mtx (k3 + 1)), I (k3 + 1 + 1), I (k3 + 1 + 1 + 1), p4, .str (mtx (k4)), I (k4 + 1), I (k4 + 1 + 1), p5, I (k5), p6, I x.Gap.Right.At, ints x.Gap.Right.Path]) rfl rfl e6 rfl (rg_of (by omega) (by omega)) (mk_sc (r1 := [p1, .bool ((k1).tmod 3 == 0), .str (mtx (k1 + 1)), I (k1 + 1 + 1), I (k1 + 1 + 1 + 1), p2, I (k2), p3, I (k3), .str (mtx (k3 + 1)), I (k3 + 1 + 1), I (k3 + 1 + 1 + 1), p4, .str (mtx (k4)), I (k4 + 1), I (k4 + 1 + 1), p5, I (k5), p6, I (k6), ints x.Gap.Right.Path]) rfl rfl rfl (wr1 (by omega) (by omega)) (mk_ca (r1 := [p1, .bool ((k1).tmod 3 == 0), .str (mtx (k1 + 1)), I (k1 + 1 + 1), I (k1 + 1 + 1 + 1), p2, I (k2), p3, I (k3), .str (mtx (k3 + 1)), I (k3 + 1 + 1), I (k3 + 1 + 1 + 1), p4, .str (mtx (k4)), I (k4 + 1), I (k4 + 1 + 1), p5, I (k5), p6, I (k6), p7]) rfl rfl e7 rfl (rg_of (by omega) (by omega)) (rfl))))))))))))))))))))), by omega, by omega, fun rows i K z hr hi hn => ?_⟩
    have f1 : ¬ (k1 < 0) := by omega
    have f2 := wr1 (k := k1) (by omega) (by omega)
    have f3 := wr1 (k := k1 + 1) (by omega) (by omega)
    have f4 := laws_markText_n (k1 + 1) (rg_of (by omega) (by omega))
    have f5 := wr1 (k := k1 + 1 + 1) (by omega) (by omega)
    have f6 := wr1 (k := k1 + 1 + 1 + 1) (by omega) (by omega)
    have f8 : ¬ (k2 < 0) := by omega
    have f9 := wr1 (k := k2) (by omega) (by omega)
    have f11 : ¬ (k3 < 0) := by omega
    have f12 := wr1 (k := k3) (by omega) (by omega)
    have f13 := wr1 (k := k3 + 1) (by omega) (by omega)
    have f14 := laws_markText_n (k3 + 1) (rg_of (by omega) (by omega))
    have f15 := wr1 (k := k3 + 1 + 1) (by omega) (by omega)
    have f16 := wr1 (k := k3 + 1 + 1 + 1) (by omega) (by omega)
    have f18 : ¬ (k4 < 0) := by omega
    have f19 := wr1 (k := k4) (by omega) (by omega)
    have f20 := laws_markText_n (k4) (rg_of (by omega) (by omega))
    have f21 := wr1 (k := k4 + 1) (by omega) (by omega)
    have f22 := wr1 (k := k4 + 1 + 1) (by omega) (by omega)
    have f24 : ¬ (k5 < 0) := by omega
    have f25 := wr1 (k := k5) (by omega) (by omega)
    have f27 : ¬ (k6 < 0) := by omega
    have f28 := wr1 (k := k6) (by omega) (by omega)
    have f30 : ¬ (k7 < 0) := by omega
    have hlt : (i : Int) < (rows.length : Int) := by omega
    simp only [laws_heldAnswerS_r0, un, cur0, lenP_eq, binP_lss, hlt, decide_true, decide_false, iteP_eq, if_true, elemP_row hr, atP_zero, atP_succ, binP_neq, bne_self_eq_false, Bool.false_eq_true, if_false, binP_add, binP_sneq, Bool.not_true, binP_rem, binP_eql, boolP_neq, g1, f1, f2, f3, f4, f5, f6, g2, f8, f9, g3, f11, f12, f13, f14, f15, f16, g4, f18, f19, f20, f21, f22, g5, f24, f25, g6, f27, f28, g7, f30, wr_succ (show i < 1000000000000000000 by omega), true_and, ne_eq, not_false_eq_true]
    simp
  obtain ⟨rows', k', p1, p2, p3, p4, p5⟩ := rows_mark eAnswer (fun x : GAnswer => mAnswer x) 21 l (hrow True fun _ _ _ _ => True) k h0 (by omega)
  have hle : (l.length : Int) ≤ 1000000000000000 := by omega
  refine ⟨.list 21 rows', k', ?_, p3, p4, fun K => ?_⟩
  · exact mkS_list (by rw [List.length_map]; omega) p1
  · refine (call_of (fun K => ?_) K)
    obtain ⟨rows2, k2, r1, r2, r3, r4, r5⟩ := rows_mark eAnswer (fun x : GAnswer => mAnswer x) 21 l (hrow (rt [.sc] [(I (-1))] K) fun q6 q7 q8 q9 => rt [.sc] [q7] K) k h0 (by omega)
    have hs := p1.symm.trans r1
    injection hs with hs; injection hs with hs1 hs2
    subst hs1; subst hs2
    have := r5 [] (I 0) (K [I k']) (by rw [List.nil_append, p2]; omega) fun K2 => by
      simp only [laws_heldAnswerS_r0, un, cur0, lenP_eq, binP_lss, Int.lt_irrefl, decide_false, iteP_eq, Bool.false_eq_true, if_false, List.nil_append, rt_eq, scs_sc, scs_nil, flat_int, true_and]
    exact this
end Go.Ev
set_option linter.unusedVariables false
set_option linter.unusedSimpArgs false
set_option maxRecDepth 4000
namespace Go.Ev
open Go.Proofs
theorem flatRows_map {α : Type} {sz : Nat} {l : List α} {f : α → List PV} (h : ∀ x ∈ l, ∀ p ∈ f x, p.flat = true) : flatRows (.list sz (l.map f)) := by
  intro r hr p hp
  obtain ⟨x, hx, rfl⟩ := List.mem_map.1 hr
  exact h x hx p hp
theorem Clone_int_n (l : List Int) (h : l.length ≤ 1048576) (k) : call slices_Clone_int [.one (ints l)] k = k [ints l] := call_of (fun k => by
  have hf : flatRows (ints l) := flatRows_map fun x _ p hp => by simp [rI] at hp; subst hp; rfl
  have hb : 0 + (l.map rI).length < 1073741824 := by rw [List.length_map]; omega
  simp only [slices_Clone_int, nilP, iteP_eq, Bool.false_eq_true, if_false, if_true, catP_eq, hf, List.length_nil, hb, List.nil_append, rt_eq, scs_own, scs_nil, true_and, Nat.zero_le]
  refine ⟨fun q => q.1, fun q => ⟨q, fun e => ?_⟩⟩
  simp only [Bool.not_false, if_true]
  have e2 := congrArg (PV.list 1) e
  rw [← e2]; exact q) k
theorem Clone_string_n (l : List ByteArray) (h : l.length ≤ 1048576) (k) : call slices_Clone_string [.one (strs l)] k = k [strs l] := call_of (fun k => by
  have hf : flatRows (strs l) := flatRows_map fun x _ p hp => by simp [rS] at hp; subst hp; rfl
  have hb : 0 + (l.map rS).length < 1073741824 := by rw [List.length_map]; omega
  simp only [slices_Clone_string, nilP, iteP_eq, Bool.false_eq_true, if_false, if_true, catP_eq, hf, List.length_nil, hb, List.nil_append, rt_eq, scs_own, scs_nil, true_and, Nat.zero_le]
  refine ⟨fun q => q.1, fun q => ⟨q, fun e => ?_⟩⟩
  simp only [Bool.not_false, if_true]
  have e2 := congrArg (PV.list 1) e
  rw [← e2]; exact q) k
theorem Clone_Sig_n (l : List GSig) (h : l.length ≤ 1048576) (k) : call slices_Clone_Sig [.one (.list 2 (l.map eSig))] k = k [.list 2 (l.map eSig)] := call_of (fun k => by
  have hf : flatRows (.list 2 (l.map eSig)) := flatRows_map fun x _ p hp => by simp [eSig] at hp; rcases hp with rfl | rfl <;> rfl
  have hb : 0 + (l.map eSig).length < 1073741824 := by rw [List.length_map]; omega
  simp only [slices_Clone_Sig, nilP, iteP_eq, Bool.false_eq_true, if_false, if_true, catP_eq, hf, List.length_nil, hb, List.nil_append, rt_eq, scs_own, scs_nil, true_and, Nat.zero_le]
  refine ⟨fun q => q.1, fun q => ⟨q, fun e => ?_⟩⟩
  simp only [Bool.not_false, if_true]
  have e2 := congrArg (PV.list 2) e
  rw [← e2]; exact q) k
theorem catP_nil {sz : Nat} {rows : List (List PV)} (h : rows.length ≤ 1048576) (k : PV → Prop) : catP sz (.list sz rows) (.list sz []) k = k (.list sz rows) := by
  rw [catP_eq]; simp; omega
theorem impl_copyKeys_n (a : GKeys) (h : mKeys a ≤ 1048576) (k) : call impl_copyKeys [.agg (eKeys a)] k = k (eKeys a) := call_of (fun k => by
  have e := Clone_int_n a.Lst h
  simp [impl_copyKeys, e]) k
theorem spec_l6Copy_n (a : GKeys) (h : mKeys a ≤ 1048576) (k) : call spec_l6Copy [.agg (eKeys a)] k = k (eKeys a) := call_of (fun k => by
  have h' : (a.Lst.map rI).length ≤ 1048576 := by rw [List.length_map]; exact h
  simp only [spec_l6Copy, un, cur0, catP_nil h', rt_eq, scs_pv, scs_sc, scs_nil, flat_int, true_and]) k
theorem impl_copyHead_n (a : GHead) (h : mHead a ≤ 1048576) (k) : call impl_copyHead [.agg (eHead a)] k = k (eHead a) := call_of (fun k => by
  unfold mHead at h
  simp [impl_copyHead, impl_copyKeys_n a.Keys (by omega), impl_copyKeys_n a.Heirs (by omega), impl_copyKeys_n a.Judge (by omega)]) k
theorem spec_l13Copy_n (a : GHead) (h : mHead a ≤ 1048576) (k) : call spec_l13Copy [.agg (eHead a)] k = k (eHead a) := call_of (fun k => by
  unfold mHead at h
  simp [spec_l13Copy, spec_l6Copy_n a.Keys (by omega), spec_l6Copy_n a.Heirs (by omega), spec_l6Copy_n a.Judge (by omega)]) k
theorem impl_copySigned_n (a : GSigned) (h : mSigned a ≤ 1048576) (k) : call impl_copySigned [.agg (eSigned a)] k = k (eSigned a) := call_of (fun k => by
  unfold mSigned at h
  simp [impl_copySigned, impl_copyHead_n a.Head (by omega), Clone_Sig_n a.Sigs (by omega)]) k
theorem spec_l14Copy_n (a : GSigned) (h : mSigned a ≤ 1048576) (k) : call spec_l14Copy [.agg (eSigned a)] k = k (eSigned a) := call_of (fun k => by
  unfold mSigned at h
  have h' : (a.Sigs.map eSig).length ≤ 1048576 := by rw [List.length_map]; omega
  simp only [spec_l14Copy, un, cur0, spec_l13Copy_n a.Head (by omega), catP_nil h']
  simp) k
theorem chain_le7 {l : List GSigned} (h : mSignedS l ≤ 1048576) : l.length ≤ 1048576 ∧ ∀ x ∈ l, mSigned x ≤ 1048576 := by
  unfold mSignedS at h
  refine ⟨by omega, fun x hx => ?_⟩
  have := sumN_mem (s := mSigned) hx
  omega
theorem impl_copyChain_n (l : List GSigned) (h : mSignedS l ≤ 1048576) (k) : call impl_copyChain [.one (.list 17 (l.map eSigned))] k = k [.list 17 (l.map eSigned)] := call_of (fun k => by
  obtain ⟨hl, hx0⟩ := chain_le7 h
  simp only [impl_copyChain, lenP_eq, List.length_map, true_and, show (0 : Nat) ≤ 16777216 by omega]
  refine lp_list l (fun i => [.list 17 (l.map eSigned), I l.length, I i, .list 17 [], .list 17 ((l.take i).map eSigned)]) (by simp) (fun i x hx hi K => ?_) fun K => ?_
  · have e := impl_copySigned_n x (hx0 x (List.mem_of_getElem? hx))
    rw [take_snoc hx, List.map_append]
    have hb : ((l.take i).map eSigned).length + 1 < 1073741824 := by simp; omega
    simp [-getElem?_pos, impl_copyChain_r0, hx, hi, e, wr_succ (show i < 1000000000000000000 by omega)]
    omega
  · simp [impl_copyChain_r0]) k
theorem spec_l16Copy_n (l : List GSigned) (h : mSignedS l ≤ 1048576) (k) : call spec_l16Copy [.one (.list 17 (l.map eSigned))] k = k [.list 17 (l.map eSigned)] := call_of (fun k => by
  obtain ⟨hl, hx0⟩ := chain_le7 h
  simp only [spec_l16Copy, true_and, show (0 : Nat) ≤ 16777216 by omega]
  refine lp_list l (fun i => [.list 17 (l.map eSigned), I i, .list 17 [], .list 17 ((l.take i).map eSigned)]) (by simp) (fun i x hx hi K => ?_) fun K => ?_
  · have e := spec_l14Copy_n x (hx0 x (List.mem_of_getElem? hx))
    rw [take_snoc hx, List.map_append]
    simp [-getElem?_pos, spec_l16Copy_r0, hx, hi, e, wr_succ (show i < 1000000000000000000 by omega)]
    omega
  · simp [spec_l16Copy_r0]) k
theorem impl_copyEntry_n (a : GEntry) (h : mEntry a ≤ 1048576) (k) : call impl_copyEntry [.agg (eEntry a)] k = k (eEntry a) := call_of (fun k => by
  unfold mEntry at h
  simp [impl_copyEntry, Clone_string_n a.Path (by omega)]) k
theorem spec_l5Copy_n (l : List ByteArray) (h : l.length ≤ 1048576) (k) : call spec_l5Copy [.one (strs l)] k = k [strs l] := call_of (fun k => by
  have hf : flatRows (strs l) := flatRows_map fun x _ p hp => by simp [rS] at hp; subst hp; rfl
  have hb : 0 + (l.map rS).length < 1073741824 := by rw [List.length_map]; omega
  simp only [spec_l5Copy, catP_eq, hf, List.length_nil, hb, List.nil_append, rt_eq, scs_pv, scs_nil, true_and, Nat.zero_le]) k
theorem spec_l8Copy_n (a : GEntry) (h : mEntry a ≤ 1048576) (k) : call spec_l8Copy [.agg (eEntry a)] k = k (eEntry a) := call_of (fun k => by
  unfold mEntry at h
  simp [spec_l8Copy, spec_l5Copy_n a.Path (by omega)]) k
def inR (n a b : Int) : Bool := decide (a ≤ n) && decide (n ≤ b)
theorem impl_InRange_n (n a b : Int) (k) : call impl_InRange [.one (I n), .one (I a), .one (I b)] k = k [.bool (inR n a b)] := call_of (fun k => by
  simp [impl_InRange, inR]; split <;> simp [*]) k
theorem spec_l1In_n (n a b : Int) (k) : call spec_l1In [.one (I n), .one (I a), .one (I b)] k = k [.bool (inR n a b)] := call_of (fun k => by
  simp [spec_l1In, inR]; split <;> simp [*]) k
def sMod (n m : Int) : Int := if inR m 1 1000000000000 = true then (wr (n.tmod m + m)).tmod m else 0
theorem impl_Mod_n (n m : Int) (k) : call impl_Mod [.one (I n), .one (I m)] k = k [I (sMod n m)] := call_of (fun k => by
  simp [impl_Mod, sMod, impl_InRange_n]
  cases h : inR m 1 1000000000000
  · simp
  · have : m ≠ 0 := by simp [inR] at h; omega
    simp [this]) k
theorem spec_Mod_n (n m : Int) (k) : call spec_Mod [.one (I n), .one (I m)] k = k [I (sMod n m)] := call_of (fun k => by
  simp [spec_Mod, sMod, spec_l1In_n]
  cases h : inR m 1 1000000000000
  · simp
  · have : m ≠ 0 := by simp [inR] at h; omega
    simp [this]) k
def hashStep (acc v : Int) : Int := (wr (wr (wr (acc * 1000003) + sMod v 2147483647) + 13)).tmod 2147483647
def sHash (l : List Int) : Int := l.foldl hashStep 11
theorem impl_Hash_n (l : List Int) (hl : l.length < 1000000000000000000) (k) : call impl_Hash [.one (ints l)] k = k [I (sHash l)] := call_of (fun k => by
  simp [impl_Hash]
  refine lp_list l (fun i => [I 0, I ((l.take i).foldl hashStep 11), ints l, I l.length, I i]) rfl (fun i x hx hi K => ?_) fun K => ?_
  · simp [-getElem?_pos, impl_Hash_r0, hi, hx, impl_Mod_n, take_snoc hx, wr_succ (show i < 1000000000000000000 by omega), hashStep]
  · simp [impl_Hash_r0, sHash]) k
theorem spec_Hash_n (l : List Int) (hl : l.length < 1000000000000000000) (k) : call spec_Hash [.one (ints l)] k = k [I (sHash l)] := call_of (fun k => by
  simp [spec_Hash]
  refine lp_list l (fun i => [ints l, I 0, I ((l.take i).foldl hashStep 11), I i]) rfl (fun i x hx hi K => ?_) fun K => ?_
  · simp [-getElem?_pos, spec_Hash_r0, hi, hx, spec_Mod_n, take_snoc hx, wr_succ (show i < 1000000000000000000 by omega), hashStep]
  · simp [spec_Hash_r0, sHash]) k
def b2i (b : UInt8) : Int := b.toNat
def sB2I (s : List UInt8) : List Int := (s.length : Int) :: s.map b2i
theorem impl_BytesToInts_n (s : List UInt8) (hl : s.length < 1000000000) (k) : call impl_BytesToInts [.one (byts s)] k = k [ints (sB2I s)] := call_of (fun k => by
  simp [impl_BytesToInts]
  refine lp_list s (fun i => [byts s, I s.length, I i, .list 1 [], ints ((s.length : Int) :: (s.take i).map b2i)]) (by simp) (fun i x hx hi K => ?_) fun K => ?_
  · have h2 : min i s.length = i := by omega
    simp [-getElem?_pos, impl_BytesToInts_r0, hi, hx, take_snoc hx, wr_succ (show i < 1000000000000000000 by omega), b2i, h2]
    rw [and_iff_right (by omega)]
    simp [ints, rI, Function.comp_def]
  · simp [impl_BytesToInts_r0, sB2I]) k
theorem spec_BytesToInts_n (s : List UInt8) (hl : s.length < 1000000000) (k) : call spec_BytesToInts [.one (byts s)] k = k [ints (sB2I s)] := call_of (fun k => by
  simp [spec_BytesToInts]
  refine lp_list s (fun i => [byts s, I i, .list 1 [], ints ((s.length : Int) :: (s.take i).map b2i)]) (by simp) (fun i x hx hi K => ?_) fun K => ?_
  · have h2 : min i s.length = i := by omega
    simp [-getElem?_pos, spec_BytesToInts_r0, hi, hx, take_snoc hx, wr_succ (show i < 1000000000000000000 by omega), b2i, h2]
    rw [and_iff_right (by omega)]
    simp [ints, rI, Function.comp_def]
  · simp [spec_BytesToInts_r0, sB2I]) k
def sLabelInts (s : ByteArray) : List Int := sB2I s.data.toList
theorem impl_LabelInts_n (s : ByteArray) (hl : s.size < 1000000000) (k) : call impl_LabelInts [.one (.str s)] k = k [ints (sLabelInts s)] := call_of (fun k => by
  simp [impl_LabelInts, impl_BytesToInts_n _ (show s.data.toList.length < 1000000000 by simpa using hl), sLabelInts]) k
theorem spec_LabelInts_n (s : ByteArray) (hl : s.size < 1000000000) (k) : call spec_LabelInts [.one (.str s)] k = k [ints (sLabelInts s)] := call_of (fun k => by
  simp [spec_LabelInts, spec_BytesToInts_n _ (show s.data.toList.length < 1000000000 by simpa using hl), sLabelInts]) k
theorem sLabelInts_len (s : ByteArray) : (sLabelInts s).length = s.size + 1 := by simp [sLabelInts, sB2I]
def sBucketOf (s : ByteArray) : Int := (sHash (sLabelInts s)).tmod 4
theorem mem_get {α : Type} {l : List α} {i : Nat} {x : α} (h : l[i]? = some x) : x ∈ l := List.mem_of_getElem? h
theorem wr_pred {i : Nat} (h0 : 0 < i) (h : i < 1000000000000000000) : IntKind.i64.wrap ((i : Int) - 1) = ((i - 1 : Nat) : Int) := by
  rw [wr_eq (by omega) (by omega)]; omega
theorem getD_get {α : Type} {l : List α} {i : Nat} (d : α) (h : i < l.length) : l[i]? = some (l.getD i d) := by
  rw [List.getD_eq_getElem?_getD, List.getElem?_eq_getElem h]; rfl
def at0 (l : List Int) (i : Nat) : Int := l.getD i 0
theorem at0_get {l : List Int} {i : Nat} (h : i < l.length) : l[i]? = some (at0 l i) := getD_get 0 h
def ascP (l : List Int) (i : Nat) (x : Int) : Bool := decide (0 < i) && decide (x ≤ at0 l (i - 1))
def sAsc (l : List Int) : Bool := !anyI (ascP l) 0 l
theorem impl_ascending_n (l : List Int) (h : l.length < 1073741824) (k) : call impl_ascending [.one (ints l)] k = k [.bool (sAsc l)] := call_of (fun k => by
  simp [impl_ascending]
  have := lp_anyIk (R := fun L w => impl_ascending_r0 w L (k [.bool false]) fun q8 q9 q10 q11 => k [.bool true]) k false l (fun i => [ints l, .bool false, I l.length, I i]) (ascP l) rfl (fun i x hx hi K => ?_) fun K => ?_
  · simpa [sAsc] using this
  · by_cases h0 : 0 < i
    · have hp := at0_get (l := l) (show i - 1 < l.length by omega)
      simp [-getElem?_pos, impl_ascending_r0, hx, hi, h0, wr_pred h0 (show i < 1000000000000000000 by omega), hp, wr_succ (show i < 1000000000000000000 by omega), ascP]
    · have h1 : i = 0 := by omega
      subst h1
      simp [-getElem?_pos, impl_ascending_r0, hi, ascP, wr_eq]
  · simp [impl_ascending_r0]) k
def isKeyB (x : Int) : Bool := inR x 1 99
theorem impl_isKey_n (x : Int) (k) : call impl_isKey [.one (I x)] k = k [.bool (isKeyB x)] := call_of (fun k => by simp [impl_isKey, impl_InRange_n, isKeyB]) k
def sIsKeys (a : GKeys) : Bool := inR a.Lst.length 1 4 && !(a.Lst.any (fun x => !isKeyB x) || !sAsc a.Lst) && inR a.Need 1 a.Lst.length
theorem spec_IsKeys_n (a : GKeys) (h : mKeys a ≤ 1048576) (k) : call spec_IsKeys [.agg [ints a.Lst, I a.Need]] k = k [.bool (sIsKeys a)] := call_of (fun k => by
  unfold mKeys at h
  simp [spec_IsKeys]
  refine (lp_anyI (P := k [.bool false]) (fin := k [.bool (inR a.Lst.length 1 4 && inR a.Need 1 a.Lst.length)]) a.Lst (fun j => [.bool false, I j, ints a.Lst, I a.Need]) (fun j y => !isKeyB y || ascP a.Lst j y) rfl (fun j y hy hj K => ?_) fun K => ?_).trans ?_
  · by_cases h0 : 0 < j
    · have hp := at0_get (l := a.Lst) (show j - 1 < a.Lst.length by omega)
      simp [-getElem?_pos, spec_IsKeys_r0, hy, hj, h0, spec_l1In_n, wr_pred h0 (show j < 1000000000000000000 by omega), hp, wr_succ (show j < 1000000000000000000 by omega), ascP, isKeyB]
      cases inR y 1 99 <;> simp
    · have h1 : j = 0 := by omega
      subst h1
      simp [-getElem?_pos, spec_IsKeys_r0, hy, hj, ascP, spec_l1In_n, isKeyB, wr_eq]
  · simp [spec_IsKeys_r0, spec_l1In_n]
    cases inR (a.Lst.length : Int) 1 4 <;> simp
  · rw [anyI_or, anyI_const]
    unfold sIsKeys sAsc
    generalize a.Lst.any (fun x => !isKeyB x) = b1
    generalize anyI (ascP a.Lst) 0 a.Lst = b2
    cases b1 <;> cases b2 <;> simp) k
theorem asc_mono {l : List Int} (h : sAsc l = true) : ∀ {j i : Nat} {x y : Int}, i < j → l[i]? = some x → l[j]? = some y → x < y := by
  have h1 : anyI (ascP l) 0 l = false := by unfold sAsc at h; simpa using h
  rw [anyI_false] at h1
  have step : ∀ {j : Nat} {x y : Int}, l[j]? = some x → l[j + 1]? = some y → x < y := by
    intro j x y hx hy
    have := h1 (j + 1) y hy
    simp [ascP] at this
    have h2 : at0 l j = x := by
      have := at0_get (lt_of_get hx)
      rw [hx] at this; injection this with this; exact this.symm
    rw [h2] at this
    omega
  intro j
  induction j with
  | zero => intro i x y hij; omega
  | succ j ih =>
    intro i x y hij hx hy
    have hj : j < l.length := by have := lt_of_get hy; omega
    have hz := List.getElem?_eq_getElem hj
    by_cases h2 : i = j
    · subst h2; exact step hx hy
    · have a1 := ih (i := i) (by omega) hx hz
      have a2 := step hz hy
      omega
theorem asc_range {l : List Int} (h : sAsc l = true) {x y : Int} (hx : l[0]? = some x) (hy : l[l.length - 1]? = some y) : (l.any fun z => !isKeyB z) = (!(isKeyB x && isKeyB y)) := by
  have hlast : ∀ {z : Int} {i : Nat}, l[i]? = some z → x ≤ z ∧ z ≤ y := by
    intro z i hz
    have hi := lt_of_get hz
    constructor
    · by_cases h0 : i = 0
      · subst h0; rw [hx] at hz; injection hz with hz; omega
      · have := asc_mono h (show 0 < i by omega) hx hz; omega
    · by_cases h0 : i = l.length - 1
      · subst h0; rw [hy] at hz; injection hz with hz; omega
      · have := asc_mono h (show i < l.length - 1 by omega) hz hy; omega
  cases hb : (isKeyB x && isKeyB y) with
  | true =>
    simp only [Bool.and_eq_true, isKeyB, inR, decide_eq_true_eq] at hb
    rw [Bool.not_true, List.any_eq_false]
    intro z hz
    obtain ⟨i, hi⟩ := List.mem_iff_getElem?.1 hz
    have := hlast hi
    simp [isKeyB, inR]; omega
  | false =>
    rw [Bool.not_false, List.any_eq_true]
    by_cases hk : isKeyB x = true
    · have hk2 : isKeyB y = false := by rw [hk] at hb; simpa using hb
      exact ⟨y, List.mem_of_getElem? hy, by simp [hk2]⟩
    · exact ⟨x, List.mem_of_getElem? hx, by simpa using hk⟩
theorem impl_IsKeys_n (a : GKeys) (h : mKeys a ≤ 1048576) (k) : call impl_IsKeys [.agg [ints a.Lst, I a.Need]] k = k [.bool (sIsKeys a)] := call_of (fun k => by
  unfold mKeys at h
  simp [impl_IsKeys, impl_InRange_n, sIsKeys]
  cases h1 : inR a.Lst.length 1 4 with
  | false => simp
  | true =>
    have h2 : 1 ≤ a.Lst.length := by unfold inR at h1; simp at h1; omega
    simp [impl_ascending_n a.Lst (by omega)]
    cases h3 : sAsc a.Lst with
    | false => simp
    | true =>
      have hx := at0_get (l := a.Lst) (show 0 < a.Lst.length by omega)
      have hy := at0_get (l := a.Lst) (show a.Lst.length - 1 < a.Lst.length by omega)
      have hr := asc_range h3 hx hy
      rw [hr]
      simp [-getElem?_pos, hx, hy, impl_isKey_n, wr_pred (show 0 < a.Lst.length by omega) (show a.Lst.length < 1000000000000000000 by omega)]
      cases isKeyB (at0 a.Lst 0) <;> cases isKeyB (at0 a.Lst (a.Lst.length - 1)) <;> simp) k
theorem sumN_take_succ {α : Type} (f : α → Nat) : ∀ (l : List α) (i : Nat) (x : α), l[i]? = some x → sumN f (l.take (i + 1)) = sumN f (l.take i) + f x
  | [], i, x, h => by simp at h
  | a :: l, 0, x, h => by simp at h; subst h; simp [sumN]
  | a :: l, i + 1, x, h => by
    have := sumN_take_succ f l i x (by simpa using h)
    simp only [List.take_succ_cons, sumN, this]; omega
theorem sumN_take_le {α : Type} (f : α → Nat) : ∀ (l : List α) (i : Nat), sumN f (l.take i) ≤ sumN f l
  | [], i => by simp
  | a :: l, 0 => by simp [sumN]
  | a :: l, i + 1 => by
    have := sumN_take_le f l i
    simp only [List.take_succ_cons, sumN]; omega
theorem flatten_take_len {α : Type} : ∀ (ls : List (List α)), ls.flatten.length = sumN List.length ls
  | [] => rfl
  | l :: ls => by simp [sumN, flatten_take_len ls]
theorem slices_Grow_int_F_nil_n (n : Int) (h0 : 0 ≤ n) (h : n < 1073741824) (k) : call slices_Grow_int_F_nil [.nil 3 1, .one (I n)] k = k [ints []] := call_of (fun k => by
  have w0 : IntKind.i64.wrap 0 = 0 := wr_eq (by omega) (by omega)
  have w1 : IntKind.i64.wrap n = n := wr_eq (by omega) (by omega)
  simp [slices_Grow_int_F_nil, w0, w1, show ¬ n < 0 by omega, natP, makeP, cutP]
  by_cases hn : 0 < n
  · simp [hn, h, h0, show n ≤ 1073741823 by omega, show 0 ≤ max n 0 by omega, ints]
  · simp [hn, ints]) k
theorem flatRows_ints (l : List Int) : flatRows (ints l) := by
  intro r hr p hp
  obtain ⟨x, _, rfl⟩ := List.mem_map.1 hr
  simp [rI] at hp
  subst hp; rfl
theorem slices_Concat_int_n (ls : List (List Int)) (h : ls.length + sumN List.length ls < 100000000) (k) : call slices_Concat_int [.one (.list 1 (ls.map fun l => [ints l]))] k = k [ints ls.flatten] := call_of (fun k => by
  simp only [slices_Concat_int, lenP_eq, List.length_map, atP_zero]
  let L : PV := .list 1 (ls.map fun l => [ints l])
  refine lp_list (fin := k [ints ls.flatten]) ls (fun i => [L, I ((sumN List.length (ls.take i) : Nat) : Int), L, I ls.length, I i, .list 1 []]) (by simp [sumN, L]) (fun i x hx hi K => ?_) (fun K => ?_)
  · have e1 := sumN_take_succ List.length ls i x hx
    have e2 := sumN_take_le List.length ls (i + 1)
    have w1 : IntKind.i64.wrap (((sumN List.length (ls.take i) : Nat) : Int) + (x.length : Int)) = ((sumN List.length (ls.take (i + 1)) : Nat) : Int) := by
      rw [e1]; rw [wr_eq (by omega) (by omega)]; omega
    simp [-getElem?_pos, slices_Concat_int_r0, hx, hi, L, w1, wr_succ (show i < 1000000000000000000 by omega), show ¬ (((sumN List.length (ls.take (i + 1)) : Nat) : Int) < 0) by omega]
  · simp only [slices_Concat_int_r0, un, cur0, binP_lss, iteP_eq, lenP_eq, L, List.take_length]
    simp [slices_Grow_int_F_nil_n ((sumN List.length ls : Nat) : Int) (by omega) (by omega)]
    refine lp_list (fin := k [ints ls.flatten]) ls (fun i => [L, I ((sumN List.length ls : Nat) : Int), L, I ls.length, I ls.length, L, I ls.length, I i, ints (ls.take i).flatten, .list 1 []]) (by simp [L]) (fun i x hx hi K => ?_) fun K => ?_
    · have e1 := sumN_take_succ List.length ls i x hx
      have e2 := sumN_take_le List.length ls (i + 1)
      have e3 : (ls.take (i + 1)).flatten = (ls.take i).flatten ++ x := by
        rw [List.take_add_one, hx]; simp
      have e4 := flatten_take_len (ls.take i)
      have e5 : (ls.take i).flatten.length + x.length < 1073741824 := by omega
      show _ ↔ K [L, I ((sumN List.length ls : Nat) : Int), L, I ls.length, I ls.length, L, I ls.length, I ((i + 1 : Nat) : Int), ints (ls.take (i + 1)).flatten, .list 1 []]
      rw [e3]
      generalize (ls.take i).flatten = A at e5
      rw [show ints (A ++ x) = PV.list 1 (A.map rI ++ x.map rI) by simp [ints]]
      simp [-getElem?_pos, slices_Concat_int_r1, hx, hi, L, flatRows_ints, catP, wr_succ (show i < 1000000000000000000 by omega), e5]
    · simp [slices_Concat_int_r1, L]) k
def keysInts (a : GKeys) : List Int := a.Need :: (a.Lst.length : Int) :: a.Lst
def bitI (b : Bool) : Int := if b = true then 1 else 0
def headInts (a : GHead) : List Int :=
  [a.Zone, a.Epoch, a.Kind, a.Time, a.Until, a.Count, a.Root, a.Prev] ++ (keysInts a.Keys ++ (keysInts a.Heirs ++ ([a.Wait] ++ (keysInts a.Judge ++ [bitI a.Frozen]))))
theorem fc_int (n : Int) : flatCond [.pv (I 0)] [.pv (I n)] := by intro x hx; simp at hx; subst hx; rfl
theorem spec_KeysInts_n (a : GKeys) (h : mKeys a ≤ 1048576) (k) : call spec_KeysInts [.agg (eKeys a)] k = k [ints (keysInts a)] := call_of (fun k => by
  unfold mKeys at h
  simp [spec_KeysInts, keysInts, flatRows_ints, fc_int, catP, show 2 + a.Lst.length < 1073741824 by omega]
  exact Iff.rfl) k
theorem impl_KeysInts_n (a : GKeys) (h : mKeys a ≤ 1048576) (k) : call impl_KeysInts [.agg (eKeys a)] k = k [ints (keysInts a)] := call_of (fun k => by
  unfold mKeys at h
  simp [impl_KeysInts, keysInts, flatRows_ints, fc_int, catP, show 2 + a.Lst.length < 1073741824 by omega]
  exact Iff.rfl) k
theorem impl_bit_n (b : Bool) (k) : call impl_bit [.one (.bool b)] k = k [I (bitI b)] := call_of (fun k => by
  cases b <;> simp [impl_bit, bitI]) k
theorem keysInts_len (a : GKeys) : (keysInts a).length = 2 + a.Lst.length := by simp [keysInts]; omega
theorem fc_own (i : Nat) : flatCond [.nil 3 1] [.own i] := by intro x hx; simp at hx; subst hx; trivial
theorem impl_HeadInts_n (a : GHead) (h : mHead a ≤ 1048576) (k) : call impl_HeadInts [.agg (eHead a)] k = k [ints (headInts a)] := call_of (fun k => by
  unfold mHead at h
  have k1 := impl_KeysInts_n a.Keys (by omega)
  have k2 := impl_KeysInts_n a.Heirs (by omega)
  have k3 := impl_KeysInts_n a.Judge (by omega)
  have l1 := keysInts_len a.Keys
  have l2 := keysInts_len a.Heirs
  have l3 := keysInts_len a.Judge
  unfold mKeys at h
  have c := slices_Concat_int_n [[a.Zone, a.Epoch, a.Kind, a.Time, a.Until, a.Count, a.Root, a.Prev], keysInts a.Keys, keysInts a.Heirs, [a.Wait], keysInts a.Judge, [bitI a.Frozen]] (by
    simp only [sumN, List.length_cons, List.length_nil, l1, l2, l3]; omega) (fun o => k [atP o 0])
  simp only [impl_HeadInts, un, cur0, k1, k2, k3, impl_bit_n, fc_int, fc_own, atP_zero, true_and, and_true, rt_eq, scs_own, show (1 : Nat) ≤ 16777216 by omega, show (2 : Nat) ≤ 16777216 by omega, show (6 : Nat) ≤ 16777216 by omega, show (8 : Nat) ≤ 16777216 by omega, scs_nil]
  exact iff_of_eq c) k
theorem spec_HeadInts_n (a : GHead) (h : mHead a ≤ 1048576) (k) : call spec_HeadInts [.agg (eHead a)] k = k [ints (headInts a)] := call_of (fun k => by
  unfold mHead at h
  have k1 := spec_KeysInts_n a.Keys (by omega)
  have k2 := spec_KeysInts_n a.Heirs (by omega)
  have k3 := spec_KeysInts_n a.Judge (by omega)
  have l1 := keysInts_len a.Keys
  have l2 := keysInts_len a.Heirs
  have l3 := keysInts_len a.Judge
  unfold mKeys at h
  simp only [spec_HeadInts, un, cur0, k1, k2, k3, fc_int, atP_zero, true_and, and_true, rt_eq, show (8 : Nat) ≤ 16777216 by omega, scs_nil]
  have e : ints (headInts a) = PV.list 1 (([[I a.Zone], [I a.Epoch], [I a.Kind], [I a.Time], [I a.Until], [I a.Count], [I a.Root], [I a.Prev]] ++ ((keysInts a.Keys).map rI ++ ((keysInts a.Heirs).map rI ++ ([[I a.Wait]] ++ ((keysInts a.Judge).map rI ++ [[I (bitI a.Frozen)]])))))) := by
    simp [ints, headInts]
  rw [e]
  cases hf : a.Frozen <;> simp [catP, l1, l2, l3, fc_int, bitI]

  all_goals exact ⟨fun h => h.2.2.2.2.2, fun h => ⟨by omega, by omega, by omega, by omega, by omega, h⟩⟩) k
deriving instance DecidableEq for GKeys, GHead, GSig, GSigned, GEntry, GProof, GGap, GAnswer, GZone, GServer
theorem listEq_dec {α : Type} [DecidableEq α] {eq : α → α → Bool} (h : ∀ x y, eq x y = decide (x = y)) : ∀ (l m : List α), listEq eq l m = decide (l = m)
  | [], [] => by simp [listEq]
  | [], y :: m => by simp [listEq]
  | x :: l, [] => by simp [listEq]
  | x :: l, y :: m => by rw [listEq, listEq_dec h l m, h]; simp [Bool.decide_and]
abbrev eqD {α : Type} [DecidableEq α] (x y : α) : Bool := decide (x = y)
theorem listEq_d {α : Type} [DecidableEq α] (l m : List α) : listEq eqD l m = decide (l = m) := listEq_dec (fun _ _ => rfl) l m
theorem len_ne {α : Type} [DecidableEq α] {l m : List α} (h : ¬ l.length = m.length) : decide (l = m) = false := by simp; intro e; subst e; exact h rfl
theorem slices_Equal_int_n (l m : List Int) (h : l.length < 1073741824) (k) : call slices_Equal_int [.one (ints l), .one (ints m)] k = k [.bool (decide (l = m))] := call_of (fun k => by
  simp [slices_Equal_int]
  by_cases hl : l.length = m.length
  · rw [← listEq_d]
    simp [hl]
    refine lp_zipk k l m (fun i => [ints l, ints m, .bool false, I m.length, I i]) eqD rfl hl (fun i x y hx hy hi hj K => ?_) fun K => ?_
    · simp [-getElem?_pos, slices_Equal_int_r0, hx, hy, hj, wr_succ (show i < 1000000000000000000 by omega)]
    · simp [slices_Equal_int_r0, hl]
  · simp [show ¬ (l.length : Int) = m.length by omega, len_ne hl]) k
theorem spec_EqualInts_n (l m : List Int) (h : l.length < 1073741824) (k) : call spec_EqualInts [.one (ints l), .one (ints m)] k = k [.bool (decide (l = m))] := call_of (fun k => by
  simp [spec_EqualInts]
  by_cases hl : l.length = m.length
  · rw [← listEq_d]
    simp [hl]
    refine lp_zipk k l m (fun i => [ints l, ints m, .bool false, I i]) eqD rfl hl (fun i x y hx hy hi hj K => ?_) fun K => ?_
    · simp [-getElem?_pos, spec_EqualInts_r0, hx, hy, hi, wr_succ (show i < 1000000000000000000 by omega)]
    · simp [spec_EqualInts_r0]
  · simp [show ¬ (l.length : Int) = m.length by omega, len_ne hl]) k
theorem impl_EqualKeys_n (a b : GKeys) (h : mKeys a ≤ 1048576) (k) : call impl_EqualKeys [.agg (eKeys a), .agg (eKeys b)] k = k [.bool (decide (a = b))] := call_of (fun k => by
  unfold mKeys at h
  obtain ⟨l, n⟩ := a
  obtain ⟨m, q⟩ := b
  simp [impl_EqualKeys, slices_Equal_int_n l m (by simp at h; omega)]
  by_cases hl : l = m <;> by_cases hn : n = q <;> simp [hl, hn, show (n == q) = decide (n = q) from rfl]) k
theorem headInts_len (a : GHead) : (headInts a).length = 16 + mHead a := by simp [headInts, keysInts, mHead, mKeys]; omega
theorem impl_last_n (l : List GSigned) (p : GSigned) (h : l.length ≤ 1048576) (hp : l[l.length - 1]? = some p) (k) : call impl_last [.one (.list 17 (l.map eSigned))] k = k (eHead p.Head) := call_of (fun k => by
  have h0 := lt_of_get hp
  simp [-getElem?_pos, impl_last, wr_pred (show 0 < l.length by omega) (show l.length < 1000000000000000000 by omega), hp]) k
theorem zone_le {z : GZone} (h : mZone z ≤ 1048576) : mSignedS z.Chain ≤ 1048576 ∧ mEntryS z.Entries ≤ 1048576 := by unfold mZone at h; omega
theorem stepB {b c : Bool} {P : Prop} {k : List PV → Prop} (h : b = true → (P ↔ k [.bool c])) : (if b = true then P else k [.bool false]) ↔ k [.bool (b && c)] := by
  cases b
  · simp
  · simpa using h rfl
theorem stepN {b c : Bool} {P : Prop} {k : List PV → Prop} (h : b = true → (P ↔ k [.bool c])) : (if (!b) = true then k [.bool false] else P) ↔ k [.bool (b && c)] := by
  cases b
  · simp
  · simpa using h rfl
def sNo (a : GKeys) : Bool := decide (a.Need = 0) && decide (a.Lst.length = 0)
theorem impl_NoKeys_n (a : GKeys) (k) : call impl_NoKeys [.agg (eKeys a)] k = k [.bool (sNo a)] := call_of (fun k => by
  have e : ((a.Lst.length : Int) == 0) = decide (a.Lst.length = 0) := by
    by_cases h : a.Lst.length = 0
    · rw [h]; rfl
    · rw [decide_eq_false h]; exact beq_eq_false_iff_ne.2 (by omega)
  simp only [impl_NoKeys, un, cur0, binP_eql, lenP_eq, List.length_map, e, sNo, iteP_eq, rt_eq, scs_sc, scs_nil, flat_bool, true_and, and_true]
  by_cases h : a.Need = 0 <;> simp [h]) k
theorem spec_NoKeys_n (a : GKeys) (k) : call spec_NoKeys [.agg (eKeys a)] k = k [.bool (sNo a)] := call_of (fun k => by
  have e : ((a.Lst.length : Int) == 0) = decide (a.Lst.length = 0) := by
    by_cases h : a.Lst.length = 0
    · rw [h]; rfl
    · rw [decide_eq_false h]; exact beq_eq_false_iff_ne.2 (by omega)
  simp only [spec_NoKeys, un, cur0, binP_eql, lenP_eq, List.length_map, e, sNo, iteP_eq, rt_eq, scs_sc, scs_nil, flat_bool, true_and, and_true]
  by_cases h : a.Need = 0 <;> simp [h]) k
theorem sNo_keys {a : GKeys} (h : sNo a = true) : sIsKeys a = false := by
  unfold sNo at h
  simp only [Bool.and_eq_true, decide_eq_true_eq] at h
  unfold sIsKeys inR
  simp [h.2]
def sMaybe (a : GKeys) : Bool := sNo a || sIsKeys a
def sJudge (a : GHead) : Bool := sIsKeys a.Judge || (sNo a.Judge && !a.Frozen)
def sWait (a : GHead) : Bool := if sNo a.Heirs = true then decide (a.Wait = 0) && sJudge a else sIsKeys a.Heirs && (inR a.Wait 1 500 && sJudge a)
def sIsHead (a : GHead) : Bool :=
  inR a.Zone 0 2147483646 && (inR a.Root 0 2147483646 && (inR a.Prev 0 2147483646 && (inR a.Epoch 0 200 && (inR a.Kind 1 3 && (inR a.Time 0 100000 && (inR a.Until a.Time 100000 && (decide (a.Until - a.Time ≤ 200) &&
  (inR a.Count 0 12 && (sIsKeys a.Keys && sWait a)))))))))
theorem keys_le {a : GHead} (h : mHead a ≤ 1048576) : mKeys a.Keys ≤ 1048576 ∧ mKeys a.Heirs ≤ 1048576 ∧ mKeys a.Judge ≤ 1048576 := by unfold mHead at h; omega
theorem spec_IsHead_n (a : GHead) (h : mHead a ≤ 1048576) (k) : call spec_IsHead [.agg (eHead a)] k = k [.bool (sIsHead a)] := call_of (fun k => by
  obtain ⟨h1, h2, h3⟩ := keys_le h
  have e1 := spec_IsKeys_n a.Keys h1
  have e2 := spec_IsKeys_n a.Heirs h2
  have e3 := spec_IsKeys_n a.Judge h3
  simp only [spec_IsHead, un, cur0, spec_l1In_n, e1, e2, e3, spec_NoKeys_n, unP_not, atP_zero, iteP_eq, rt_eq, scs_sc, scs_nil, flat_bool, true_and, and_true, binP_sub, binP_gtr]
  refine stepN fun _ => stepN fun _ => stepN fun _ => stepN fun _ => stepN fun _ => stepN fun ht => stepN fun hu => ?_
  have hw : IntKind.i64.wrap (a.Until - a.Time) = a.Until - a.Time := by
    simp only [inR, Bool.and_eq_true, decide_eq_true_eq] at ht hu
    exact wr_eq (by omega) (by omega)
  rw [hw, show decide (200 < a.Until - a.Time) = !decide (a.Until - a.Time ≤ 200) by by_cases h : a.Until - a.Time ≤ 200 <;> simp [h] <;> omega]
  refine stepN fun _ => stepN fun _ => stepN fun _ => ?_
  unfold sWait sJudge
  cases sNo a.Heirs <;> cases sIsKeys a.Heirs <;> cases inR a.Wait 1 500 <;> cases sIsKeys a.Judge <;> cases sNo a.Judge <;> cases a.Frozen <;> by_cases hz : a.Wait = 0 <;> simp [hz]) k
theorem headLaw : ∀ (nh kh nj kj wt w0 fr : Bool) (h1 : nh = true → kh = false) (h2 : nj = true → kj = false), ((nh || kh) && ((nj || kj) && ((if nh = true then w0 else wt) && !(fr && nj)))) = (if nh = true then w0 && (kj || (nj && !fr)) else kh && (wt && (kj || (nj && !fr)))) := by decide
theorem impl_IsHead_n (a : GHead) (h : mHead a ≤ 1048576) (k) : call impl_IsHead [.agg (eHead a)] k = k [.bool (sIsHead a)] := call_of (fun k => by
  obtain ⟨h1, h2, h3⟩ := keys_le h
  have e1 := impl_IsKeys_n a.Keys h1
  have e2 := impl_IsKeys_n a.Heirs h2
  have e3 := impl_IsKeys_n a.Judge h3
  have d : ∀ x k, call impl_isDigest [.one (I x)] k = k [.bool (inR x 0 2147483646)] := fun x => call_of (fun k => by simp [impl_isDigest, impl_InRange_n])
  have m2 : ∀ k, call impl_isMaybe [.agg (eKeys a.Heirs)] k = k [.bool (sMaybe a.Heirs)] := call_of (fun k => by
    simp [impl_isMaybe, impl_NoKeys_n, e2, sMaybe]; cases sNo a.Heirs <;> simp)
  have m3 : ∀ k, call impl_isMaybe [.agg (eKeys a.Judge)] k = k [.bool (sMaybe a.Judge)] := call_of (fun k => by
    simp [impl_isMaybe, impl_NoKeys_n, e3, sMaybe]; cases sNo a.Judge <;> simp)
  have m4 : ∀ k, call impl_isWait [.one (I a.Wait), .agg (eKeys a.Heirs)] k = k [.bool (if sNo a.Heirs = true then decide (a.Wait = 0) else inR a.Wait 1 500)] := call_of (fun k => by
    simp [impl_isWait, impl_NoKeys_n, impl_InRange_n]; cases sNo a.Heirs <;> simp
    by_cases hz : a.Wait = 0
    · simp [hz]
    · rw [show (a.Wait == 0) = false from beq_eq_false_iff_ne.2 hz]; simp [hz])
  have m5 : ∀ k, call impl_isSpan [.agg (eHead a)] k = k [.bool (inR a.Time 0 100000 && (inR a.Until a.Time 100000 && decide (a.Until - a.Time ≤ 200)))] := call_of (fun k => by
    simp only [impl_isSpan, un, cur0, binP_geq, binP_leq, binP_sub, iteP_eq, rt_eq, scs_sc, scs_nil, flat_bool, true_and, and_true]
    by_cases c1 : 0 ≤ a.Time
    · by_cases c2 : a.Time ≤ a.Until
      · by_cases c3 : a.Until ≤ 100000
        · rw [wr_eq (show -9223372036854775808 ≤ a.Until - a.Time by omega) (by omega)]
          simp [c1, c2, c3, inR, show a.Time ≤ 100000 by omega]
        · simp [c1, c2, c3, inR]
      · simp [c1, c2, inR]
    · simp [c1, inR])
  simp only [impl_IsHead, un, cur0, d, impl_InRange_n, e1, m2, m3, m4, m5, impl_NoKeys_n, unP_not, atP_zero, iteP_eq, rt_eq, scs_sc, scs_nil, flat_bool, true_and, and_true]
  have key : ∀ z r p e q sp c ks mh mj wt no fr : Bool, (if z = true then if r = true then if p = true then if e = true then if q = true then if sp = true then if c = true then if ks = true then if mh = true then if mj = true then if wt = true then
      if fr = true then k [.bool !no] else k [.bool true] else k [.bool false] else k [.bool false] else k [.bool false] else k [.bool false] else k [.bool false] else k [.bool false] else k [.bool false] else k [.bool false] else k [.bool false] else k [.bool false] else k [.bool false]) ↔
      k [.bool (z && (r && (p && (e && (q && (sp && (c && (ks && (mh && (mj && (wt && !(fr && no))))))))))))] := by
    intro z r p e q sp c ks mh mj wt no fr
    refine stepB fun _ => stepB fun _ => stepB fun _ => stepB fun _ => stepB fun _ => stepB fun _ => stepB fun _ => stepB fun _ => stepB fun _ => stepB fun _ => stepB fun _ => ?_
    cases fr <;> simp
  refine (key _ _ _ _ _ _ _ _ _ _ _ _ _).trans ?_
  apply iff_of_eq
  congr 3
  unfold sIsHead sWait sJudge sMaybe
  simp only [Bool.and_assoc]
  rw [headLaw _ _ _ _ _ _ _ (@sNo_keys a.Heirs) (@sNo_keys a.Judge)]) k
theorem beqI (a b : Int) : (a == b) = decide (a = b) := by
  by_cases h : a = b
  · subst h; simp
  · rw [decide_eq_false h]; exact beq_eq_false_iff_ne.2 h
def sKH (key : Int) (m : List Int) : Int := sHash (key :: (m ++ [key]))
theorem impl_KeyedHash_n (key : Int) (m : List Int) (h : m.length < 90000000) (k) : call impl_KeyedHash [.one (I key), .one (ints m)] k = k [I (sKH key m)] := call_of (fun k => by
  have e : ∀ k, call slices_Concat_int [.one (.list 1 [[.list 1 [[I key]]], [ints m], [.list 1 [[I key]]]])] k = k [ints (key :: (m ++ [key]))] := fun k => by
    have := slices_Concat_int_n [[key], m, [key]] (by simp [sumN]; omega) k
    simpa [ints] using this
  have e2 := impl_Hash_n (key :: (m ++ [key])) (by simp; omega)
  simp only [impl_KeyedHash, un, cur0, fc_int, fc_own, true_and, e, atP_zero, e2, rt_eq, scs_sc, scs_nil, flat_int]
  simp [sKH]) k
theorem spec_KeyedHash_n (key : Int) (m : List Int) (h : m.length < 90000000) (k) : call spec_KeyedHash [.one (I key), .one (ints m)] k = k [I (sKH key m)] := call_of (fun k => by
  have e2 := spec_Hash_n (key :: (m ++ [key])) (by simp; omega)
  have e3 : (PV.list 1 ([I key] :: (m.map rI ++ [[I key]]))) = ints (key :: (m ++ [key])) := by simp [ints]
  simp [spec_KeyedHash, fc_int, flatRows_ints, catP, show 1 + m.length < 1073741824 by omega]
  rw [e3, e2]
  simp [sKH]
  try (intros; omega)) k
def sTag (key : Int) (m : List Int) : Int := sKH key (223 :: m)
theorem impl_TagOf_n (key : Int) (m : List Int) (h : m.length < 80000000) (k) : call impl_TagOf [.one (I key), .one (ints m)] k = k [I (sTag key m)] := call_of (fun k => by
  have e2 := impl_KeyedHash_n key (223 :: m) (by simp; omega)
  have e3 : PV.list 1 ([I 223] :: m.map rI) = ints (223 :: m) := by simp [ints]
  simp [impl_TagOf, fc_int, flatRows_ints, catP, show 1 + m.length < 1073741824 by omega]
  rw [e3, e2]
  simp [sTag]
  try (intros; omega)) k
theorem spec_TagOf_n (key : Int) (m : List Int) (h : m.length < 80000000) (k) : call spec_TagOf [.one (I key), .one (ints m)] k = k [I (sTag key m)] := call_of (fun k => by
  have e2 := spec_KeyedHash_n key (223 :: m) (by simp; omega)
  have e3 : PV.list 1 ([I 223] :: m.map rI) = ints (223 :: m) := by simp [ints]
  simp [spec_TagOf, fc_int, flatRows_ints, catP, show 1 + m.length < 1073741824 by omega]
  rw [e3, e2]
  simp [sTag]
  try (intros; omega)) k
def sDigest (a : GHead) : Int := sHash (233 :: headInts a)
theorem impl_HeadDigest_n (a : GHead) (h : mHead a ≤ 1048576) (k) : call impl_HeadDigest [.agg (eHead a)] k = k [I (sDigest a)] := call_of (fun k => by
  have hl := headInts_len a
  have e1 := impl_HeadInts_n a h
  have e2 := impl_Hash_n (233 :: headInts a) (by simp; omega)
  have e3 : PV.list 1 ([I 233] :: (headInts a).map rI) = ints (233 :: headInts a) := by simp [ints]
  simp [impl_HeadDigest, fc_int, e1, catP, show 1 + (headInts a).length < 1073741824 by omega]
  rw [e3, e2]
  simp [sDigest]
  try (intros; omega)) k
theorem spec_HeadDigest_n (a : GHead) (h : mHead a ≤ 1048576) (k) : call spec_HeadDigest [.agg (eHead a)] k = k [I (sDigest a)] := call_of (fun k => by
  have hl := headInts_len a
  have e1 := spec_HeadInts_n a h
  have e2 := spec_Hash_n (233 :: headInts a) (by simp; omega)
  have e3 : PV.list 1 ([I 233] :: (headInts a).map rI) = ints (233 :: headInts a) := by simp [ints]
  simp [spec_HeadDigest, fc_int, e1, catP, show 1 + (headInts a).length < 1073741824 by omega]
  rw [e3, e2]
  simp [sDigest]
  try (intros; omega)) k
def sZoneOf (a : GKeys) (salt : Int) : Int := sHash (239 :: salt :: keysInts a)
theorem impl_ZoneOf_n (a : GKeys) (salt : Int) (h : mKeys a ≤ 1048576) (k) : call impl_ZoneOf [.agg (eKeys a), .one (I salt)] k = k [I (sZoneOf a salt)] := call_of (fun k => by
  have hl := keysInts_len a
  have h' := h
  unfold mKeys at h'
  have e1 := impl_KeysInts_n a h
  have e2 := impl_Hash_n (239 :: salt :: keysInts a) (by simp; omega)
  have e3 : PV.list 1 ([I 239] :: [I salt] :: (keysInts a).map rI) = ints (239 :: salt :: keysInts a) := by simp [ints]
  simp [impl_ZoneOf, fc_int, e1, catP, show 2 + (keysInts a).length < 1073741824 by omega]
  rw [e3, e2]
  simp [sZoneOf]
  try (intros; omega)) k
theorem spec_ZoneOf_n (a : GKeys) (salt : Int) (h : mKeys a ≤ 1048576) (k) : call spec_ZoneOf [.agg (eKeys a), .one (I salt)] k = k [I (sZoneOf a salt)] := call_of (fun k => by
  have hl := keysInts_len a
  have h' := h
  unfold mKeys at h'
  have e1 := spec_KeysInts_n a h
  have e2 := spec_Hash_n (239 :: salt :: keysInts a) (by simp; omega)
  have e3 : PV.list 1 ([I 239] :: [I salt] :: (keysInts a).map rI) = ints (239 :: salt :: keysInts a) := by simp [ints]
  simp [spec_ZoneOf, fc_int, e1, catP, show 2 + (keysInts a).length < 1073741824 by omega]
  rw [e3, e2]
  simp [sZoneOf]
  try (intros; omega)) k
def sSigBy (m : List Int) (s : GSig) : Bool := isKeyB s.Key && decide (s.Tag = sTag s.Key m)
theorem impl_IsSigBy_n (s : GSig) (m : List Int) (h : m.length < 80000000) (k) : call impl_IsSigBy [.agg (eSig s), .one (ints m)] k = k [.bool (sSigBy m s)] := call_of (fun k => by
  have e := impl_TagOf_n s.Key m h
  simp only [impl_IsSigBy, un, cur0, impl_isKey_n, e, atP_zero, binP_eql, iteP_eq, rt_eq, scs_sc, scs_nil, flat_bool, true_and, and_true]
  exact stepB (c := decide (s.Tag = sTag s.Key m)) fun _ => by rw [beqI]) k
theorem spec_IsSigBy_n (s : GSig) (m : List Int) (h : m.length < 80000000) (k) : call spec_IsSigBy [.agg (eSig s), .one (ints m)] k = k [.bool (sSigBy m s)] := call_of (fun k => by
  have e := spec_TagOf_n s.Key m h
  simp only [spec_IsSigBy, un, cur0, spec_l1In_n, e, atP_zero, binP_eql, iteP_eq, rt_eq, scs_sc, scs_nil, flat_bool, true_and, and_true]
  exact stepB (b := isKeyB s.Key) (c := decide (s.Tag = sTag s.Key m)) fun _ => by rw [beqI]) k
def sigP (m : List Int) (key : Int) (s : GSig) : Bool := decide (s.Key = key) && sSigBy m s
def sCount (a : GKeys) (m : List Int) (l : List GSig) : Nat := a.Lst.countP fun key => l.any (sigP m key)
theorem slices_ContainsFunc_Sig_n (l : List GSig) (key : Int) (m : List Int) (hl : l.length ≤ 1048576) (h : m.length < 80000000) (k) : call slices_ContainsFunc_Sig_F_impl_CountSigs_1 [.one (.list 2 (l.map eSig)), .fn 281 [.cells [I key], .cells [ints m]]] k = k [.bool (l.any (sigP m key))] := call_of (fun k => by
  have e : ∀ k, call slices_IndexFunc_Sig_F_impl_CountSigs_1 [.one (.list 2 (l.map eSig)), .fn 281 [.cells [I key], .cells [ints m]]] k = k [I (idx (sigP m key) l)] := call_of (fun k => by
    simp [slices_IndexFunc_Sig_F_impl_CountSigs_1]
    refine lp_find (Q := fun i => k [I i]) l (fun i => [.list 2 (l.map eSig), I key, ints m, I 0, I l.length, I i]) (sigP m key) rfl (fun i x hx hi K => ?_) fun K => ?_
    · have e1 : ∀ k, call impl_CountSigs_1 [.agg (eSig x), .ro (.cells [I key]), .ro (.cells [ints m])] k = k [.bool (sigP m key x)] := call_of (fun k => by
        have e := impl_IsSigBy_n x m h
        simp only [impl_CountSigs_1, un, cur0, binP_eql, e, atP_zero, iteP_eq, rt_eq, scs_sc, scs_nil, flat_bool, true_and, and_true]
        by_cases hk : x.Key = key <;> simp [hk, sigP])
      simp [-getElem?_pos, slices_IndexFunc_Sig_F_impl_CountSigs_1_r0, hx, hi, e1, wr_succ (show i < 1000000000000000000 by omega)]
    · simp [slices_IndexFunc_Sig_F_impl_CountSigs_1_r0])
  simp [slices_ContainsFunc_Sig_F_impl_CountSigs_1, e, idx_any]) k
theorem impl_CountSigs_n (a : GKeys) (m : List Int) (l : List GSig) (h : mKeys a ≤ 1048576) (hm : m.length < 80000000) (hl : l.length ≤ 1048576) (k) : call impl_CountSigs [.agg (eKeys a), .one (ints m), .one (.list 2 (l.map eSig))] k = k [I (sCount a m l)] := call_of (fun k => by
  unfold mKeys at h
  simp [impl_CountSigs]
  refine lp_list a.Lst (fun i => [.list 2 (l.map eSig), I 0, I ((a.Lst.take i).countP fun key => l.any (sigP m key) : Nat), ints a.Lst, I a.Lst.length, I i, ints m]) rfl (fun i x hx hi K => ?_) fun K => ?_
  · have hc : (a.Lst.take i).countP (fun key => l.any (sigP m key)) ≤ i := Nat.le_trans List.countP_le_length (by simp; omega)
    have e := slices_ContainsFunc_Sig_n l x m hl hm
    simp only [impl_CountSigs_r0, un, cur0, binP_lss, iteP_eq, show decide ((i : Int) < a.Lst.length) = true by simp; omega, if_true, elemP, ints, List.getElem?_map, hx, Int.toNat_natCast, Option.map_some, true_and, atP_zero, rI]
    rw [show PV.list 1 (m.map fun n => [I n]) = ints m from rfl]
    simp only [e, atP_zero, iteP_eq, binP_add, wr_succ (show i < 1000000000000000000 by omega), wr_succ (show (a.Lst.take i).countP (fun key => l.any (sigP m key)) < 1000000000000000000 by omega)]
    rw [take_snoc hx, List.countP_append, List.countP_cons, List.countP_nil]
    cases hb : l.any (sigP m x) <;> simp [hb]
  · simp [impl_CountSigs_r0, sCount]) k
theorem spec_CountSigs_n (a : GKeys) (m : List Int) (l : List GSig) (h : mKeys a ≤ 1048576) (hm : m.length < 80000000) (hl : l.length ≤ 1048576) (k) : call spec_CountSigs [.agg (eKeys a), .one (ints m), .one (.list 2 (l.map eSig))] k = k [I (sCount a m l)] := call_of (fun k => by
  unfold mKeys at h
  simp only [spec_CountSigs, un, cur0, rt_eq, scs_sc, scs_nil, flat_int, true_and]
  refine lp_list a.Lst (fun i => [ints m, .list 2 (l.map eSig), I 0, I ((a.Lst.take i).countP fun key => l.any (sigP m key) : Nat), I i, ints a.Lst, I a.Need]) rfl (fun i x hx hi K => ?_) fun K => ?_
  · have hc : (a.Lst.take i).countP (fun key => l.any (sigP m key)) ≤ i := Nat.le_trans List.countP_le_length (by simp; omega)
    simp [-getElem?_pos, spec_CountSigs_r0, hi]
    rw [take_snoc hx, List.countP_append, List.countP_cons, List.countP_nil]
    generalize hn : (a.Lst.take i).countP (fun key => l.any (sigP m key)) = n at hc
    refine (lp_any (P := K [ints m, .list 2 (l.map eSig), I 0, I ((n + 1 : Nat) : Int), I ((i + 1 : Nat) : Int), ints a.Lst, I a.Need]) (fin := K [ints m, .list 2 (l.map eSig), I 0, I (n : Int), I ((i + 1 : Nat) : Int), ints a.Lst, I a.Need]) l (fun j => [ints m, .list 2 (l.map eSig), I 0, I (n : Int), I i, I j, ints a.Lst, I a.Need]) (sigP m x) rfl (fun j y hy hj K => ?_) fun K => ?_).trans ?_
    · have e := spec_IsSigBy_n y m hm
      simp [-getElem?_pos, spec_CountSigs_r1, hx, hy, hj, e, sigP, wr_succ (show j < 1000000000000000000 by omega), wr_succ (show n < 1000000000000000000 by omega), wr_succ (show i < 1000000000000000000 by omega)]
      by_cases hk : y.Key = x <;> simp [hk]
    · simp [spec_CountSigs_r1, wr_succ (show i < 1000000000000000000 by omega)]
    · cases hb : l.any (sigP m x) <;> simp [hb]
  · simp [spec_CountSigs_r0, sCount]) k
def sIsSigned (a : GKeys) (m : List Int) (l : List GSig) : Bool := sIsKeys a && decide (a.Need ≤ (sCount a m l : Int))
theorem impl_IsSigned_n (a : GKeys) (m : List Int) (l : List GSig) (h : mKeys a ≤ 1048576) (hm : m.length < 80000000) (hl : l.length ≤ 1048576) (k) : call impl_IsSigned [.agg (eKeys a), .one (ints m), .one (.list 2 (l.map eSig))] k = k [.bool (sIsSigned a m l)] := call_of (fun k => by
  have e1 := impl_IsKeys_n a h
  have e2 := impl_CountSigs_n a m l h hm hl
  simp only [impl_IsSigned, un, cur0, e1, e2, atP_zero, iteP_eq, rt_eq, scs_sc, scs_nil, flat_bool, true_and, and_true, binP_geq]
  exact stepB fun _ => Iff.rfl) k
theorem spec_IsSigned_n (a : GKeys) (m : List Int) (l : List GSig) (h : mKeys a ≤ 1048576) (hm : m.length < 80000000) (hl : l.length ≤ 1048576) (k) : call spec_IsSigned [.agg (eKeys a), .one (ints m), .one (.list 2 (l.map eSig))] k = k [.bool (sIsSigned a m l)] := call_of (fun k => by
  have e1 := spec_IsKeys_n a h
  have e2 := spec_CountSigs_n a m l h hm hl
  simp only [spec_IsSigned, un, cur0, e1, e2, atP_zero, iteP_eq, rt_eq, scs_sc, scs_nil, flat_bool, true_and, and_true, binP_geq]
  exact stepB fun _ => Iff.rfl) k
theorem signed_le {s : GSigned} (h : mSigned s ≤ 1048576) : mHead s.Head ≤ 1048576 ∧ s.Sigs.length ≤ 1048576 ∧ (headInts s.Head).length < 80000000 := by
  have hl := headInts_len s.Head
  unfold mSigned at h
  omega
def sBy (s : GSigned) (a : GKeys) : Bool := sIsSigned a (headInts s.Head) s.Sigs
theorem impl_isSignedBy_n (s : GSigned) (a : GKeys) (h : mSigned s ≤ 1048576) (ha : mKeys a ≤ 1048576) (k) : call impl_Signed_isSignedBy [.agg (eSigned s), .agg (eKeys a)] k = k [.bool (sBy s a)] := call_of (fun k => by
  obtain ⟨h1, h2, h3⟩ := signed_le h
  have e1 := impl_HeadInts_n s.Head h1
  have e2 := impl_IsSigned_n a (headInts s.Head) s.Sigs ha h3 h2
  simp only [impl_Signed_isSignedBy, un, cur0, e1, e2, atP_zero, rt_eq, scs_sc, scs_nil, flat_bool, true_and, and_true, sBy]) k
def sIsFirst (s : GSigned) : Bool := sIsHead s.Head && (decide (s.Head.Epoch = 0) && (decide (s.Head.Kind = 1) && (!s.Head.Frozen && (decide (s.Head.Zone = sZoneOf s.Head.Keys s.Head.Prev) && sBy s s.Head.Keys))))
theorem impl_IsFirst_n (s : GSigned) (h : mSigned s ≤ 1048576) (k) : call impl_IsFirst [.agg (eSigned s)] k = k [.bool (sIsFirst s)] := call_of (fun k => by
  obtain ⟨h1, h2, h3⟩ := signed_le h
  obtain ⟨q1, q2, q3⟩ := keys_le h1
  have e1 := impl_IsHead_n s.Head h1
  have e2 := impl_ZoneOf_n s.Head.Keys s.Head.Prev q1
  have e3 := impl_isSignedBy_n s s.Head.Keys h q1
  simp only [impl_IsFirst, un, cur0, e1, e2, e3, binP_eql, beqI, unP_not, atP_zero, iteP_eq, rt_eq, scs_sc, scs_nil, flat_bool, true_and, and_true]
  exact stepB fun _ => stepB fun _ => stepB fun _ => stepB fun _ => stepB fun _ => Iff.rfl) k
theorem spec_IsFirst_n (s : GSigned) (h : mSigned s ≤ 1048576) (k) : call spec_IsFirst [.agg (eSigned s)] k = k [.bool (sIsFirst s)] := call_of (fun k => by
  obtain ⟨h1, h2, h3⟩ := signed_le h
  obtain ⟨q1, q2, q3⟩ := keys_le h1
  have e1 := spec_IsHead_n s.Head h1
  have e2 := spec_ZoneOf_n s.Head.Keys s.Head.Prev q1
  have e3 := spec_HeadInts_n s.Head h1
  have e4 := spec_IsSigned_n s.Head.Keys (headInts s.Head) s.Sigs q1 h3 h2
  simp only [spec_IsFirst, un, cur0, e1, e2, e3, e4, binP_eql, beqI, unP_not, atP_zero, iteP_eq, rt_eq, scs_sc, scs_nil, flat_bool, true_and, and_true]
  exact stepB fun _ => stepB fun _ => stepB fun _ => stepB fun _ => stepB fun _ => Iff.rfl) k
theorem stepI {b : Bool} {v c : Int} {P : Prop} {k : List PV → Prop} (h : b = false → (P ↔ k [I c])) : (if b = true then k [I v] else P) ↔ k [I (if b = true then v else c)] := by
  cases b
  · simpa using h rfl
  · simp
theorem stepJ {b : Bool} {v c : Int} {P : Prop} {k : List PV → Prop} (h : b = true → (P ↔ k [I c])) : (if (!b) = true then k [I v] else P) ↔ k [I (if b = true then c else v)] := by
  cases b
  · simp
  · simpa using h rfl
def sSame (a b : GHead) : Bool := decide (a.Count = b.Count) && decide (a.Root = b.Root)
theorem impl_SameContents_n (a b : GHead) (k) : call impl_SameContents [.agg (eHead a), .agg (eHead b)] k = k [.bool (sSame a b)] := call_of (fun k => by
  simp only [impl_SameContents, un, cur0, binP_eql, beqI, iteP_eq, rt_eq, scs_sc, scs_nil, flat_bool, true_and, and_true]
  exact stepB fun _ => Iff.rfl) k
theorem spec_SameContents_n (a b : GHead) (k) : call spec_SameContents [.agg (eHead a), .agg (eHead b)] k = k [.bool (sSame a b)] := call_of (fun k => by
  simp only [spec_SameContents, un, cur0, binP_eql, beqI, iteP_eq, rt_eq, scs_sc, scs_nil, flat_bool, true_and, and_true]
  exact stepB fun _ => Iff.rfl) k
def sNext (p h : GHead) : Bool := decide (h.Zone = p.Zone) && (decide (h.Epoch = IntKind.i64.wrap (p.Epoch + 1)) && (decide (h.Prev = sDigest p) && decide (p.Time ≤ h.Time)))
theorem impl_isNext_n (p h : GHead) (hp : mHead p ≤ 1048576) (k) : call impl_isNext [.agg (eHead p), .agg (eHead h)] k = k [.bool (sNext p h)] := call_of (fun k => by
  have e := impl_HeadDigest_n p hp
  simp only [impl_isNext, un, cur0, e, binP_eql, binP_geq, binP_add, beqI, atP_zero, iteP_eq, rt_eq, scs_sc, scs_nil, flat_bool, true_and, and_true]
  exact stepB fun _ => stepB fun _ => stepB fun _ => Iff.rfl) k
def sOwner (p : GHead) (s : GSigned) : Int := if p.Frozen = true then 4 else if s.Head.Frozen = true then 6 else if sBy s p.Keys = true then 1 else 7
def sHeir (p : GHead) (s : GSigned) : Int := if p.Frozen = true then 4 else if sNo p.Heirs = true then 5 else if decide (s.Head.Time < IntKind.i64.wrap (p.Until + p.Wait)) = true then 5 else if s.Head.Frozen = true then 6 else
  if decide (s.Head.Keys = p.Heirs) = true then (if sSame s.Head p = true then (if sBy s p.Heirs = true then 1 else 7) else 6) else 6
def sJC (p : GHead) (s : GSigned) : Int := if sNo p.Judge = true then 5 else if decide (s.Head.Frozen = p.Frozen) = true then 6 else
  if (sSame s.Head p && (decide (s.Head.Judge = p.Judge) && (decide (s.Head.Heirs = p.Heirs) && decide (s.Head.Wait = p.Wait)))) = true then (if (!s.Head.Frozen || decide (s.Head.Keys = p.Keys)) = true then (if sBy s p.Judge = true then 1 else 7) else 6) else 6
def sCode (p : GHead) (s : GSigned) : Int := if sIsHead p = true then (if sIsHead s.Head = true then (if sNext p s.Head = true then (if decide (s.Head.Kind = 1) = true then sOwner p s else if decide (s.Head.Kind = 2) = true then sHeir p s else sJC p s) else 3) else 2) else 2
theorem impl_ownerCode_n (p : GHead) (s : GSigned) (hp : mHead p ≤ 1048576) (hs : mSigned s ≤ 1048576) (k) : call impl_ownerCode [.agg (eHead p), .agg (eSigned s)] k = k [I (sOwner p s)] := call_of (fun k => by
  obtain ⟨q1, q2, q3⟩ := keys_le hp
  have e := impl_isSignedBy_n s p.Keys hs q1
  simp only [impl_ownerCode, un, cur0, e, unP_not, atP_zero, iteP_eq, rt_eq, scs_sc, scs_nil, flat_int, true_and, and_true]
  exact stepI fun _ => stepI fun _ => stepJ fun _ => Iff.rfl) k
theorem impl_heirCode_n (p : GHead) (s : GSigned) (hp : mHead p ≤ 1048576) (hs : mSigned s ≤ 1048576) (k) : call impl_heirCode [.agg (eHead p), .agg (eSigned s)] k = k [I (sHeir p s)] := call_of (fun k => by
  obtain ⟨q1, q2, q3⟩ := keys_le hp
  obtain ⟨r1, r2, r3⟩ := keys_le (signed_le hs).1
  have e := impl_isSignedBy_n s p.Heirs hs q2
  have e2 := impl_EqualKeys_n s.Head.Keys p.Heirs r1
  simp only [impl_heirCode, un, cur0, e, e2, impl_NoKeys_n, impl_SameContents_n, unP_not, binP_add, binP_lss, atP_zero, iteP_eq, rt_eq, scs_sc, scs_nil, flat_int, true_and, and_true]
  exact stepI fun _ => stepI fun _ => stepI fun _ => stepI fun _ => stepJ fun _ => stepJ fun _ => stepJ fun _ => Iff.rfl) k
theorem impl_judgeCode_n (p : GHead) (s : GSigned) (hp : mHead p ≤ 1048576) (hs : mSigned s ≤ 1048576) (k) : call impl_judgeCode [.agg (eHead p), .agg (eSigned s)] k = k [I (sJC p s)] := call_of (fun k => by
  obtain ⟨q1, q2, q3⟩ := keys_le hp
  obtain ⟨r1, r2, r3⟩ := keys_le (signed_le hs).1
  have e := impl_isSignedBy_n s p.Judge hs q3
  have e2 := impl_EqualKeys_n s.Head.Judge p.Judge r3
  have e3 := impl_EqualKeys_n s.Head.Heirs p.Heirs r2
  have e4 := impl_EqualKeys_n s.Head.Keys p.Keys r1
  simp only [impl_judgeCode, un, cur0, e, e2, e3, e4, impl_NoKeys_n, impl_SameContents_n, unP_not, boolP_eql, binP_eql, beqI, atP_zero, iteP_eq, rt_eq, scs_sc, scs_nil, flat_int, true_and, and_true, sJC]
  generalize sNo p.Judge = b1
  generalize sSame s.Head p = b2
  generalize decide (s.Head.Judge = p.Judge) = b3
  generalize decide (s.Head.Heirs = p.Heirs) = b4
  generalize decide (s.Head.Wait = p.Wait) = b5
  generalize decide (s.Head.Keys = p.Keys) = b6
  generalize sBy s p.Judge = b7
  cases b1 <;> cases b2 <;> cases b3 <;> cases b4 <;> cases b5 <;> cases b6 <;> cases b7 <;> cases s.Head.Frozen <;> cases p.Frozen <;> simp) k
theorem impl_NextCode_n (p : GHead) (s : GSigned) (hp : mHead p ≤ 1048576) (hs : mSigned s ≤ 1048576) (k) : call impl_NextCode [.agg (eHead p), .agg (eSigned s)] k = k [I (sCode p s)] := call_of (fun k => by
  have e1 := impl_IsHead_n p hp
  have e2 := impl_IsHead_n s.Head (signed_le hs).1
  have e3 := impl_isNext_n p s.Head hp
  have e4 := impl_ownerCode_n p s hp hs
  have e5 := impl_heirCode_n p s hp hs
  have e6 := impl_judgeCode_n p s hp hs
  simp only [impl_NextCode, un, cur0, e1, e2, e3, e4, e5, e6, unP_not, binP_eql, beqI, atP_zero, iteP_eq, rt_eq, scs_sc, scs_nil, flat_int, true_and, and_true]
  refine stepJ fun _ => stepJ fun _ => stepJ fun _ => ?_
  by_cases h1 : s.Head.Kind = 1
  · simp [h1]
  · by_cases h2 : s.Head.Kind = 2 <;> simp [h1, h2]) k
def sMay (p : GHead) (s : GSigned) : Bool := decide (sCode p s = 1)
theorem impl_MayFollow_n (p : GHead) (s : GSigned) (hp : mHead p ≤ 1048576) (hs : mSigned s ≤ 1048576) (k) : call impl_MayFollow [.agg (eHead p), .agg (eSigned s)] k = k [.bool (sMay p s)] := call_of (fun k => by
  have e := impl_NextCode_n p s hp hs
  simp only [impl_MayFollow, un, cur0, e, binP_eql, beqI, atP_zero, rt_eq, scs_sc, scs_nil, flat_bool, true_and, and_true, sMay]) k
theorem spec_EqualKeys_n (a b : GKeys) (h : mKeys a ≤ 1048576) (k) : call spec_EqualKeys [.agg (eKeys a), .agg (eKeys b)] k = k [.bool (decide (a = b))] := call_of (fun k => by
  unfold mKeys at h
  obtain ⟨l, n⟩ := a
  obtain ⟨m, q⟩ := b
  have e := spec_EqualInts_n l m (by simp only at h; omega)
  simp only [spec_EqualKeys, un, cur0, e, binP_eql, beqI, atP_zero, iteP_eq, rt_eq, scs_sc, scs_nil, flat_bool, true_and, and_true]
  by_cases h1 : n = q <;> by_cases h2 : l = m <;> simp [h1, h2]) k
theorem spec_l15Owner_n (p h : GHead) (k) : call spec_l15Owner [.agg (eHead p), .agg (eHead h)] k = k [I (if p.Frozen = true then 4 else if h.Frozen = true then 6 else 1)] := call_of (fun k => by
  simp only [spec_l15Owner, un, cur0, iteP_eq, rt_eq, scs_sc, scs_nil, flat_int, true_and, and_true]
  exact stepI fun _ => stepI fun _ => Iff.rfl) k
def pHeir (p h : GHead) : Int := if p.Frozen = true then 4 else if sNo p.Heirs = true then 5 else if decide (h.Time < IntKind.i64.wrap (p.Until + p.Wait)) = true then 5 else if h.Frozen = true then 6 else
  if decide (h.Keys = p.Heirs) = true then (if sSame h p = true then 1 else 6) else 6
theorem spec_l15Heir_n (p h : GHead) (hp : mHead p ≤ 1048576) (hh : mHead h ≤ 1048576) (k) : call spec_l15Heir [.agg (eHead p), .agg (eHead h)] k = k [I (pHeir p h)] := call_of (fun k => by
  obtain ⟨r1, r2, r3⟩ := keys_le hh
  have e2 := spec_EqualKeys_n h.Keys p.Heirs r1
  simp only [spec_l15Heir, un, cur0, e2, spec_NoKeys_n, spec_SameContents_n, unP_not, binP_add, binP_lss, atP_zero, iteP_eq, rt_eq, scs_sc, scs_nil, flat_int, true_and, and_true]
  exact stepI fun _ => stepI fun _ => stepI fun _ => stepI fun _ => stepJ fun _ => stepJ fun _ => Iff.rfl) k
def pJudge (p h : GHead) : Int := if sNo p.Judge = true then 5 else if decide (h.Frozen = p.Frozen) = true then 6 else
  if (sSame h p && (decide (h.Judge = p.Judge) && (decide (h.Heirs = p.Heirs) && decide (h.Wait = p.Wait)))) = true then (if (!h.Frozen || decide (h.Keys = p.Keys)) = true then 1 else 6) else 6
theorem spec_l15Judge_n (p h : GHead) (hp : mHead p ≤ 1048576) (hh : mHead h ≤ 1048576) (k) : call spec_l15Judge [.agg (eHead p), .agg (eHead h)] k = k [I (pJudge p h)] := call_of (fun k => by
  obtain ⟨r1, r2, r3⟩ := keys_le hh
  have e2 := spec_EqualKeys_n h.Judge p.Judge r3
  have e3 := spec_EqualKeys_n h.Heirs p.Heirs r2
  have e4 := spec_EqualKeys_n h.Keys p.Keys r1
  have e5 : (h.Wait != p.Wait) = !decide (h.Wait = p.Wait) := by rw [bne, beqI]
  simp only [spec_l15Judge, un, cur0, e2, e3, e4, spec_NoKeys_n, spec_SameContents_n, unP_not, boolP_eql, binP_neq, e5, atP_zero, iteP_eq, rt_eq, scs_sc, scs_nil, flat_int, true_and, and_true, pJudge]
  generalize sNo p.Judge = b1
  generalize sSame h p = b2
  generalize decide (h.Judge = p.Judge) = b3
  generalize decide (h.Heirs = p.Heirs) = b4
  generalize decide (h.Wait = p.Wait) = b5
  generalize decide (h.Keys = p.Keys) = b6
  cases b1 <;> cases b2 <;> cases b3 <;> cases b4 <;> cases b5 <;> cases b6 <;> cases h.Frozen <;> cases p.Frozen <;> simp) k
theorem code_owner (p : GHead) (s : GSigned) : sOwner p s = if decide ((if p.Frozen = true then 4 else if s.Head.Frozen = true then 6 else 1 : Int) = 1) = true then (if sBy s p.Keys = true then 1 else 7) else (if p.Frozen = true then 4 else if s.Head.Frozen = true then 6 else 1) := by
  unfold sOwner
  cases p.Frozen <;> cases s.Head.Frozen <;> simp
theorem code_heir (p : GHead) (s : GSigned) : sHeir p s = if decide (pHeir p s.Head = 1) = true then (if sBy s p.Heirs = true then 1 else 7) else pHeir p s.Head := by
  unfold sHeir pHeir
  cases p.Frozen <;> cases sNo p.Heirs <;> by_cases h1 : s.Head.Time < IntKind.i64.wrap (p.Until + p.Wait) <;> cases s.Head.Frozen <;> by_cases h2 : s.Head.Keys = p.Heirs <;> cases sSame s.Head p <;> simp [h1, h2]
theorem code_judge (p : GHead) (s : GSigned) : sJC p s = if decide (pJudge p s.Head = 1) = true then (if sBy s p.Judge = true then 1 else 7) else pJudge p s.Head := by
  unfold sJC pJudge
  generalize (sSame s.Head p && (decide (s.Head.Judge = p.Judge) && (decide (s.Head.Heirs = p.Heirs) && decide (s.Head.Wait = p.Wait)))) = b2
  generalize (!s.Head.Frozen || decide (s.Head.Keys = p.Keys)) = b3
  generalize decide (s.Head.Frozen = p.Frozen) = b4
  cases sNo p.Judge <;> cases b2 <;> cases b3 <;> cases b4 <;> simp
theorem head_kind {h : GHead} (hh : sIsHead h = true) : h.Kind = 1 ∨ h.Kind = 2 ∨ h.Kind = 3 := by
  unfold sIsHead at hh
  simp only [Bool.and_eq_true, inR, decide_eq_true_eq] at hh
  omega
theorem codeStep {c : Int} {b : Bool} {k : List PV → Prop} : (if decide (c = 1) = true then (if (!b) = true then k [I 7] else k [I c]) else k [I c]) ↔ k [I (if decide (c = 1) = true then (if b = true then 1 else 7) else c)] := by
  by_cases h : c = 1
  · subst h; cases b <;> simp
  · simp [h]
theorem spec_NextCode_n (p : GHead) (s : GSigned) (hp : mHead p ≤ 1048576) (hs : mSigned s ≤ 1048576) (k) : call spec_NextCode [.agg (eHead p), .agg (eSigned s)] k = k [I (sCode p s)] := call_of (fun k => by
  obtain ⟨h1, h2, h3⟩ := signed_le hs
  obtain ⟨q1, q2, q3⟩ := keys_le hp
  have e1 := spec_IsHead_n p hp
  have e2 := spec_IsHead_n s.Head h1
  have e3 := spec_HeadDigest_n p hp
  have e4 := spec_l15Owner_n p s.Head
  have e5 := spec_l15Heir_n p s.Head hp h1
  have e6 := spec_l15Judge_n p s.Head hp h1
  have e7 := spec_HeadInts_n s.Head h1
  have e8 := spec_IsSigned_n p.Keys (headInts s.Head) s.Sigs q1 h3 h2
  have e9 := spec_IsSigned_n p.Heirs (headInts s.Head) s.Sigs q2 h3 h2
  have e10 := spec_IsSigned_n p.Judge (headInts s.Head) s.Sigs q3 h3 h2
  simp only [spec_NextCode, un, cur0, e1, e2, e3, e4, e5, e6, e7, e8, e9, e10, unP_not, binP_eql, binP_neq, binP_add, binP_lss, bne, beqI, atP_zero, iteP_eq, rt_eq, scs_sc, scs_nil, flat_int, true_and, and_true, codeStep]
  refine stepJ fun _ => stepJ fun hh => ?_
  have hk := head_kind hh
  have hc : ∀ {b1 b2 b3 b4 : Bool} {P : Prop} {c : Int}, (P ↔ k [I c]) → ((if (!b1) = true then k [I 3] else if (!b2) = true then k [I 3] else if (!b3) = true then k [I 3] else if (!b4) = true then k [I 3] else P) ↔ k [I (if (b1 && (b2 && (b3 && b4))) = true then c else 3)]) := by
    intro b1 b2 b3 b4 P c h
    cases b1 <;> cases b2 <;> cases b3 <;> cases b4 <;> simp [h]
  rw [show decide (s.Head.Time < p.Time) = !decide (p.Time ≤ s.Head.Time) by by_cases h : p.Time ≤ s.Head.Time <;> simp [h] <;> omega]
  refine hc ?_
  rw [code_owner, code_heir, code_judge]
  rcases hk with hk | hk | hk <;> simp [hk, sBy]
  all_goals exact Iff.rfl) k
theorem spec_MayFollow_n (p : GHead) (s : GSigned) (hp : mHead p ≤ 1048576) (hs : mSigned s ≤ 1048576) (k) : call spec_MayFollow [.agg (eHead p), .agg (eSigned s)] k = k [.bool (sMay p s)] := call_of (fun k => by
  have e := spec_NextCode_n p s hp hs
  simp only [spec_MayFollow, un, cur0, e, binP_eql, beqI, atP_zero, rt_eq, scs_sc, scs_nil, flat_bool, true_and, and_true, sMay]) k
def findX {α : Type} (p : Nat → α → Bool) : Nat → List α → Int
  | _, [] => -1
  | i, x :: l => if p i x = true then (i : Int) else findX p (i + 1) l
theorem exitL_findX {α : Type} (p : Nat → α → Bool) (Q : Int → Prop) : ∀ (i : Nat) (l : List α), exitL p (fun i _ => Q i) (Q (-1)) i l = Q (findX p i l)
  | _, [] => rfl
  | i, x :: l => by
    rw [exitL, exitL_findX p Q (i + 1) l, findX]
    split <;> rfl
theorem lp_findX {α : Type} {R : (List PV → Prop) → List PV → Prop} {v : List PV} {Q : Int → Prop} (l : List α) (V : Nat → List PV) (p : Nat → α → Bool) (hv : v = V 0)
    (h : ∀ i x, l[i]? = some x → i < l.length → ∀ K, R K (V i) ↔ if p i x = true then Q i else K (V (i + 1))) (hf : ∀ K, R K (V l.length) ↔ Q (-1)) : lp R v ↔ Q (findX p 0 l) := by
  have := lp_exit l V p (fun i _ => Q i) hv (fun i x hx => h i x hx (lt_of_get hx)) hf
  rwa [exitL_findX] at this
def wrongP (l : List GSigned) (i : Nat) (x : GSigned) : Bool := if i = 0 then !sIsFirst x else match l[i - 1]? with | some y => !sMay y.Head x | none => true
def sFW (l : List GSigned) : Int := findX (wrongP l) 0 l
theorem chain_le {l : List GSigned} (h : mSignedS l ≤ 1048576) : l.length ≤ 1048576 ∧ ∀ x ∈ l, mSigned x ≤ 1048576 := by
  unfold mSignedS at h
  refine ⟨by omega, fun x hx => ?_⟩
  have := sumN_mem (s := mSigned) hx
  omega
theorem impl_FirstWrong_n (l : List GSigned) (h : mSignedS l ≤ 1048576) (k) : call impl_FirstWrong [.one (.list 17 (l.map eSigned))] k = k [I (sFW l)] := call_of (fun k => by
  obtain ⟨hl, hx0⟩ := chain_le h
  simp only [impl_FirstWrong, lenP_eq, List.length_map, rt_eq, scs_sc, scs_nil, flat_int, true_and]
  refine lp_findX (Q := fun i => k [I i]) l (fun i => [.list 17 (l.map eSigned), I 0, .list 17 (l.map eSigned), I l.length, I i]) (wrongP l) rfl (fun i x hx hi K => ?_) fun K => ?_
  · have hm := hx0 x (mem_get hx)
    by_cases h0 : i = 0
    · subst h0
      have e := impl_IsFirst_n x hm
      simp [-getElem?_pos, impl_FirstWrong_r0, hx, hi, e, wrongP, wr_eq]
    · obtain ⟨y, hy⟩ : ∃ y, l[i - 1]? = some y := ⟨l[i - 1], List.getElem?_eq_getElem (by omega)⟩
      have e := impl_MayFollow_n y.Head x (signed_le (hx0 y (mem_get hy))).1 hm
      simp [-getElem?_pos, impl_FirstWrong_r0, hx, hi, hy, h0, e, wrongP, show ¬ (i : Int) = 0 by omega, show 0 < i by omega, wr_pred (show 0 < i by omega) (show i < 1000000000000000000 by omega), wr_succ (show i < 1000000000000000000 by omega)]
  · simp [impl_FirstWrong_r0]) k
theorem spec_FirstWrong_n (l : List GSigned) (h : mSignedS l ≤ 1048576) (k) : call spec_FirstWrong [.one (.list 17 (l.map eSigned))] k = k [I (sFW l)] := call_of (fun k => by
  obtain ⟨hl, hx0⟩ := chain_le h
  simp only [spec_FirstWrong, lenP_eq, List.length_map, rt_eq, scs_sc, scs_nil, flat_int, true_and]
  refine lp_findX (Q := fun i => k [I i]) l (fun i => [.list 17 (l.map eSigned), I 0, I i]) (wrongP l) rfl (fun i x hx hi K => ?_) fun K => ?_
  · have hm := hx0 x (mem_get hx)
    by_cases h0 : i = 0
    · subst h0
      have e := spec_IsFirst_n x hm
      simp [-getElem?_pos, spec_FirstWrong_r0, hx, hi, e, wrongP, wr_eq]
    · obtain ⟨y, hy⟩ : ∃ y, l[i - 1]? = some y := ⟨l[i - 1], List.getElem?_eq_getElem (by omega)⟩
      have e := spec_MayFollow_n y.Head x (signed_le (hx0 y (mem_get hy))).1 hm
      simp [-getElem?_pos, spec_FirstWrong_r0, hx, hi, hy, h0, e, wrongP, show ¬ (i : Int) = 0 by omega, show 0 < i by omega, wr_pred (show 0 < i by omega) (show i < 1000000000000000000 by omega), wr_succ (show i < 1000000000000000000 by omega)]
  · simp [spec_FirstWrong_r0]) k
def sIsChain (l : List GSigned) : Bool := inR l.length 1 12 && decide (sFW l < 0)
theorem impl_IsChain_n (l : List GSigned) (h : mSignedS l ≤ 1048576) (k) : call impl_IsChain [.one (.list 17 (l.map eSigned))] k = k [.bool (sIsChain l)] := call_of (fun k => by
  have e := impl_FirstWrong_n l h
  simp only [impl_IsChain, lenP_eq, List.length_map, impl_InRange_n, e, binP_lss, atP_zero, iteP_eq, rt_eq, scs_sc, scs_nil, flat_bool, true_and, and_true]
  exact stepB fun _ => Iff.rfl) k
theorem spec_IsChain_n (l : List GSigned) (h : mSignedS l ≤ 1048576) (k) : call spec_IsChain [.one (.list 17 (l.map eSigned))] k = k [.bool (sIsChain l)] := call_of (fun k => by
  have e := spec_FirstWrong_n l h
  simp only [spec_IsChain, lenP_eq, List.length_map, spec_l1In_n, e, binP_lss, atP_zero, iteP_eq, rt_eq, scs_sc, scs_nil, flat_bool, true_and, and_true]
  exact stepB fun _ => Iff.rfl) k
theorem chain_has {l : List GSigned} (h : sIsChain l = true) : ∃ p, l[l.length - 1]? = some p ∧ 0 < l.length := by
  unfold sIsChain inR at h
  simp only [Bool.and_eq_true, decide_eq_true_eq] at h
  exact ⟨l[l.length - 1], List.getElem?_eq_getElem (by omega), by omega⟩
def zHead : GHead := ⟨0, 0, 0, 0, 0, 0, 0, 0, ⟨[], 0⟩, ⟨[], 0⟩, 0, ⟨[], 0⟩, false⟩
def sLast (l : List GSigned) : Option GHead := if sIsChain l = true then (l[l.length - 1]?).map (·.Head) else none
def oHead : Option GHead → List PV
  | some h => eHead h ++ [.bool true]
  | none => eHead zHead ++ [.bool false]
theorem spec_LastHead_n (l : List GSigned) (h : mSignedS l ≤ 1048576) (k) : call spec_LastHead [.one (.list 17 (l.map eSigned))] k = k (oHead (sLast l)) := call_of (fun k => by
  obtain ⟨hl, hx0⟩ := chain_le h
  have e := spec_IsChain_n l h
  unfold sLast
  cases hc : sIsChain l with
  | false => simp [spec_LastHead, e, hc, oHead, zHead, ints]
  | true =>
    obtain ⟨p, hp, h0⟩ := chain_has hc
    have e3 := spec_l13Copy_n p.Head (signed_le (hx0 p (mem_get hp))).1
    simp [-getElem?_pos, spec_LastHead, e, hc, e3, oHead, hp, wr_pred h0 (show l.length < 1000000000000000000 by omega)]) k
def azB (x : UInt8) : Bool := (decide (97 ≤ (x.toNat : Int)) && decide ((x.toNat : Int) ≤ 122)) || (decide (48 ≤ (x.toNat : Int)) && decide ((x.toNat : Int) ≤ 57))
def dashB (x : UInt8) : Bool := decide ((x.toNat : Int) = 45)
def badL (n : Nat) (i : Nat) (x : UInt8) : Bool := !(azB x || (dashB x && (decide (0 < i) && decide (i + 1 < n))))
def sLabel (s : ByteArray) : Bool := !anyI (badL s.data.toList.length) 0 s.data.toList && inR s.size 1 8
theorem size_data (s : ByteArray) : s.size = s.data.toList.length := rfl
theorem impl_IsLabel_n (s : ByteArray) (h : s.size ≤ 1048576) (k) : call impl_IsLabel [.one (.str s)] k = k [.bool (sLabel s)] := call_of (fun k => by
  simp only [impl_IsLabel, lenS_eq, rt_eq, scs_sc, scs_nil, flat_bool, true_and, impl_InRange_n, atP_zero]
  refine (lp_anyI (P := k [.bool false]) (fin := k [.bool (inR s.size 1 8)]) s.data.toList (fun i => [.str s, .bool false, I s.size, I i]) (badL s.data.toList.length) rfl (fun i x hx hi K => ?_) fun K => ?_).trans ?_
  · have hw := wr_succ (show i < 1000000000000000000 by rw [size_data] at h; omega)
    have hl : IntKind.i64.wrap ((s.size : Int) - 1) = (s.size : Int) - 1 := wr_eq (by omega) (by omega)
    have hs := size_data s
    simp only [impl_IsLabel_r0, un, cur0, binP_lss, binP_leq, binP_geq, binP_gtr, binP_eql, binP_add, binP_sub, lenS_eq, charP_eq, Int.toNat_natCast, hx, oP, iteP_eq, unP_not, beqI, hw, hl, show decide ((i : Int) < s.size) = true by rw [hs]; simp; omega, if_true, show (0 : Int) ≤ i by omega, true_and]
    unfold badL azB dashB
    have d1 : decide ((i : Int) < (s.size : Int) - 1) = decide (i + 1 < s.data.toList.length) := by apply decide_eq_decide.2; rw [hs]; omega
    have d2 : decide ((0 : Int) < (i : Int)) = decide (0 < i) := by apply decide_eq_decide.2; omega
    rw [d1, d2]
    generalize decide (97 ≤ (x.toNat : Int)) = b1
    generalize decide ((x.toNat : Int) ≤ 122) = b2
    generalize decide (48 ≤ (x.toNat : Int)) = b3
    generalize decide ((x.toNat : Int) ≤ 57) = b4
    generalize decide ((x.toNat : Int) = 45) = b5
    generalize decide (0 < i) = b6
    generalize decide (i + 1 < s.data.toList.length) = b7
    cases b1 <;> cases b2 <;> cases b3 <;> cases b4 <;> cases b5 <;> cases b6 <;> cases b7 <;> simp
  · simp only [impl_IsLabel_r0, un, cur0, binP_lss, iteP_eq, show decide (((s.data.toList.length : Nat) : Int) < s.size) = false by rw [size_data]; simp, lenS_eq, impl_InRange_n, atP_zero]
    simp
  · unfold sLabel
    cases anyI (badL s.data.toList.length) 0 s.data.toList <;> simp) k
theorem label_eq (L : List UInt8) (x y : UInt8) (hx : L[0]? = some x) (hy : L[L.length - 1]? = some y) : anyI (badL L.length) 0 L = (dashB x || (dashB y || L.any fun b => !(azB b || dashB b))) := by
  rw [Bool.eq_iff_iff]
  constructor
  · intro h
    rcases hd : (dashB x || (dashB y || L.any fun b => !(azB b || dashB b))) with _ | _
    · exfalso
      simp only [Bool.or_eq_false_iff] at hd
      obtain ⟨d1, d2, d3⟩ := hd
      have hn : anyI (badL L.length) 0 L = false := by
        rw [anyI_false]
        intro j b hb
        have hj := lt_of_get hb
        have h3 := List.any_eq_false.1 d3 b (List.mem_of_getElem? hb)
        unfold badL
        by_cases ha : azB b = true
        · simp [ha]
        · have hdb : dashB b = true := by cases h : dashB b <;> simp [ha, h] at h3 ⊢
          have j0 : j ≠ 0 := by rintro rfl; rw [hx] at hb; injection hb with hb; subst hb; rw [d1] at hdb; cases hdb
          have j1 : j ≠ L.length - 1 := by rintro rfl; rw [hy] at hb; injection hb with hb; subst hb; rw [d2] at hdb; cases hdb
          simp [hdb, show 0 < j by omega, show j + 1 < L.length by omega]
      rw [hn] at h; cases h
    · rfl
  · intro h
    cases hn : anyI (badL L.length) 0 L with
    | true => rfl
    | false =>
      exfalso
      rw [anyI_false] at hn
      have hl := lt_of_get hy
      have az_dash : ∀ b, dashB b = true → azB b = false := by
        intro b hb
        unfold dashB at hb
        unfold azB
        simp only [decide_eq_true_eq] at hb
        simp [hb]
      simp only [Bool.or_eq_true] at h
      rcases h with h | h | h
      · have := hn 0 x hx
        simp [badL, h, az_dash x h] at this
      · have := hn _ y hy
        simp [badL, h, az_dash y h] at this
        omega
      · obtain ⟨b, hb, h2⟩ := List.any_eq_true.1 h
        obtain ⟨j, hj⟩ := List.mem_iff_getElem?.1 hb
        have := hn j b hj
        unfold badL at this
        simp only [Bool.not_eq_true', Bool.or_eq_false_iff] at h2
        simp [h2.1, h2.2] at this
theorem spec_IsLabel_n (s : ByteArray) (h : s.size ≤ 1048576) (k) : call spec_IsLabel [.one (.str s)] k = k [.bool (sLabel s)] := call_of (fun k => by
  have hs := size_data s
  unfold sLabel
  cases hr : inR s.size 1 8 with
  | false => simp [spec_IsLabel, spec_l1In_n, hr]
  | true =>
    have h1 : 1 ≤ s.size := by unfold inR at hr; simp at hr; omega
    obtain ⟨x, hx⟩ : ∃ x, s.data.toList[0]? = some x := ⟨s.data.toList[0]'(by omega), List.getElem?_eq_getElem (by omega)⟩
    obtain ⟨y, hy⟩ : ∃ y, s.data.toList[s.data.toList.length - 1]? = some y := ⟨_, List.getElem?_eq_getElem (by omega)⟩
    have hl : IntKind.i64.wrap ((s.size : Int) - 1) = ((s.size - 1 : Nat) : Int) := by rw [wr_eq (by omega) (by omega)]; omega
    have hy' : s.data.toList[s.size - 1]? = some y := hy
    rw [label_eq _ x y hx hy]
    simp only [spec_IsLabel, lenS_eq, spec_l1In_n, hr, unP_not, atP_zero, iteP_eq, binP_sub, hl, binP_eql, beqI, charP_eq, Int.toNat_natCast, show ((0 : Int)).toNat = 0 from rfl, hx, hy', oP, rt_eq, scs_sc, scs_nil, flat_bool, true_and, Bool.not_true, Bool.false_eq_true, if_false, show (0 : Int) ≤ 0 by omega, show (0 : Int) ≤ ((s.size - 1 : Nat) : Int) by omega]
    rw [show decide ((x.toNat : Int) = 45) = dashB x from rfl, show decide ((y.toNat : Int) = 45) = dashB y from rfl]
    have key : lp (fun L w => spec_IsLabel_r0 w L (k [PV.bool false]) fun q29 q30 q31 => k [PV.bool true]) [PV.str s, PV.bool false, I 0] ↔ k [.bool (!(s.data.toList.any fun b => !(azB b || dashB b)))] := by
      refine (lp_any (P := k [.bool false]) (fin := k [.bool true]) s.data.toList (fun i => [.str s, .bool false, I i]) (fun b => !(azB b || dashB b)) rfl (fun i x hx hi K => ?_) fun K => ?_).trans ?_
      · have hw := wr_succ (show i < 1000000000000000000 by omega)
        simp only [spec_IsLabel_r0, un, cur0, binP_lss, binP_leq, binP_geq, binP_gtr, binP_eql, binP_neq, binP_add, lenS_eq, charP_eq, Int.toNat_natCast, hx, oP, iteP_eq, unP_not, bne, beqI, hw, show decide ((i : Int) < s.size) = true by rw [hs]; simp; omega, if_true, show (0 : Int) ≤ i by omega, true_and]
        unfold azB dashB
        rw [show decide ((x.toNat : Int) < 97) = !decide (97 ≤ (x.toNat : Int)) by by_cases h : 97 ≤ (x.toNat : Int) <;> simp [h] <;> omega,
          show decide ((x.toNat : Int) < 48) = !decide (48 ≤ (x.toNat : Int)) by by_cases h : 48 ≤ (x.toNat : Int) <;> simp [h] <;> omega,
          show decide (122 < (x.toNat : Int)) = !decide ((x.toNat : Int) ≤ 122) by by_cases h : (x.toNat : Int) ≤ 122 <;> simp [h] <;> omega,
          show decide (57 < (x.toNat : Int)) = !decide ((x.toNat : Int) ≤ 57) by by_cases h : (x.toNat : Int) ≤ 57 <;> simp [h] <;> omega]
        generalize decide (97 ≤ (x.toNat : Int)) = b1
        generalize decide ((x.toNat : Int) ≤ 122) = b2
        generalize decide (48 ≤ (x.toNat : Int)) = b3
        generalize decide ((x.toNat : Int) ≤ 57) = b4
        generalize decide ((x.toNat : Int) = 45) = b5
        cases b1 <;> cases b2 <;> cases b3 <;> cases b4 <;> cases b5 <;> simp
      · simp only [spec_IsLabel_r0, un, cur0, binP_lss, lenS_eq, iteP_eq, show decide (((s.data.toList.length : Nat) : Int) < s.size) = false by rw [size_data]; simp]
        simp
      · cases (s.data.toList.any fun b => !(azB b || dashB b)) <;> simp
    rw [propext key]
    cases dashB x <;> cases dashB y <;> simp) k
def sIsPath (p : List ByteArray) : Bool := inR p.length 1 4 && !(p.any fun s => !sLabel s)
theorem path_le {p : List ByteArray} (h : p.length + sumN ByteArray.size p ≤ 1048576) : p.length ≤ 1048576 ∧ ∀ s ∈ p, s.size ≤ 1048576 := by
  refine ⟨by omega, fun s hs => ?_⟩
  have := sumN_mem (s := ByteArray.size) hs
  omega
theorem impl_IsPath_n (p : List ByteArray) (h : p.length + sumN ByteArray.size p ≤ 1048576) (k) : call impl_IsPath [.one (strs p)] k = k [.bool (sIsPath p)] := call_of (fun k => by
  obtain ⟨hl, hs⟩ := path_le h
  have e : ∀ k, call slices_IndexFunc_string_F_impl_IsPath_1 [.one (strs p), .fn 247 []] k = k [I (idx (fun s => !sLabel s) p)] := call_of (fun k => by
    simp [slices_IndexFunc_string_F_impl_IsPath_1]
    refine lp_find (Q := fun i => k [I i]) p (fun i => [strs p, I 0, I p.length, I i]) (fun s => !sLabel s) rfl (fun i x hx hi K => ?_) fun K => ?_
    · have e1 : ∀ k, call impl_IsPath_1 [.one (.str x)] k = k [.bool (!sLabel x)] := call_of (fun k => by simp [impl_IsPath_1, impl_IsLabel_n x (hs x (mem_get hx))])
      simp [-getElem?_pos, slices_IndexFunc_string_F_impl_IsPath_1_r0, hx, hi, e1, wr_succ (show i < 1000000000000000000 by omega)]
    · simp [slices_IndexFunc_string_F_impl_IsPath_1_r0])
  have e2 : ∀ k, call slices_ContainsFunc_string_F_impl_IsPath_1 [.one (strs p), .fn 247 []] k = k [.bool (p.any fun s => !sLabel s)] := call_of (fun k => by simp [slices_ContainsFunc_string_F_impl_IsPath_1, e, idx_any])
  simp only [impl_IsPath, lenP_eq, List.length_map, impl_InRange_n, e2, unP_not, atP_zero, iteP_eq, rt_eq, scs_sc, scs_nil, flat_bool, true_and]
  exact stepB fun _ => Iff.rfl) k
theorem spec_IsPath_n (p : List ByteArray) (h : p.length + sumN ByteArray.size p ≤ 1048576) (k) : call spec_IsPath [.one (strs p)] k = k [.bool (sIsPath p)] := call_of (fun k => by
  obtain ⟨hl, hs⟩ := path_le h
  simp only [spec_IsPath, rt_eq, scs_sc, scs_nil, flat_bool, true_and, lenP_eq, List.length_map, spec_l1In_n, atP_zero]
  refine (lp_any (P := k [.bool false]) (fin := k [.bool (inR p.length 1 4)]) p (fun i => [strs p, .bool false, I i]) (fun s => !sLabel s) rfl (fun i x hx hi K => ?_) fun K => ?_).trans ?_
  · have e := spec_IsLabel_n x (hs x (mem_get hx))
    simp [-getElem?_pos, spec_IsPath_r0, hx, hi, e, wr_succ (show i < 1000000000000000000 by omega)]
  · simp [spec_IsPath_r0, spec_l1In_n]
  · unfold sIsPath
    cases (p.any fun s => !sLabel s) <;> simp) k
def sIsEntry (e : GEntry) : Bool := sLabel e.Label && (if decide (e.Kind = 1) = true then inR e.Value 0 999999 && decide (e.Path.length = 0) else if decide (e.Kind = 2) = true then inR e.Value 0 2147483646 && decide (e.Path.length = 0) else if decide (e.Kind = 3) = true then inR e.Value 0 2147483646 && sIsPath e.Path else false)
theorem entry_le {e : GEntry} (h : mEntry e ≤ 1048576) : e.Label.size ≤ 1048576 ∧ e.Path.length + sumN ByteArray.size e.Path ≤ 1048576 := by unfold mEntry at h; omega
theorem len0 (n : Nat) : ((n : Int) == 0) = decide (n = 0) := by rw [beqI]; apply decide_eq_decide.2; omega
theorem impl_isDigest_n (x : Int) (k) : call impl_isDigest [.one (I x)] k = k [.bool (inR x 0 2147483646)] := call_of (fun k => by simp [impl_isDigest, impl_InRange_n]) k
theorem impl_IsEntry_n (e : GEntry) (h : mEntry e ≤ 1048576) (k) : call impl_IsEntry [.agg (eEntry e)] k = k [.bool (sIsEntry e)] := call_of (fun k => by
  obtain ⟨h1, h2⟩ := entry_le h
  have e1 := impl_IsLabel_n e.Label h1
  have e2 := impl_IsPath_n e.Path h2
  simp only [impl_IsEntry, un, cur0, e1, e2, impl_InRange_n, impl_isDigest_n, lenP_eq, List.length_map, binP_eql, len0, beqI, unP_not, atP_zero, iteP_eq, rt_eq, scs_sc, scs_nil, flat_bool, true_and, sIsEntry]
  refine stepN fun _ => ?_
  cases decide (e.Kind = 1) <;> cases decide (e.Kind = 2) <;> cases decide (e.Kind = 3) <;> cases inR e.Value 0 999999 <;> cases inR e.Value 0 2147483646 <;> simp) k
theorem spec_IsEntry_n (e : GEntry) (h : mEntry e ≤ 1048576) (k) : call spec_IsEntry [.agg (eEntry e)] k = k [.bool (sIsEntry e)] := call_of (fun k => by
  obtain ⟨h1, h2⟩ := entry_le h
  have e1 := spec_IsLabel_n e.Label h1
  have e2 := spec_IsPath_n e.Path h2
  simp only [spec_IsEntry, un, cur0, e1, e2, spec_l1In_n, lenP_eq, List.length_map, binP_eql, len0, beqI, unP_not, atP_zero, iteP_eq, rt_eq, scs_sc, scs_nil, flat_bool, true_and, sIsEntry]
  cases sLabel e.Label <;> cases decide (e.Kind = 1) <;> cases decide (e.Kind = 2) <;> cases decide (e.Kind = 3) <;> cases inR e.Value 0 999999 <;> cases inR e.Value 0 2147483646 <;> simp) k
theorem cmp_neg : ∀ (a b : List UInt8), Go.Lib.compareBytes b a = -Go.Lib.compareBytes a b
  | [], [] => rfl
  | [], _ :: _ => rfl
  | _ :: _, [] => rfl
  | x :: a, y :: b => by
    have ih := cmp_neg a b
    unfold Go.Lib.compareBytes
    by_cases h1 : x < y
    · have : ¬ y < x := by intro h; exact absurd (UInt8.lt_trans h1 h) (UInt8.lt_irrefl x)
      simp [h1, this]
    · by_cases h2 : y < x
      · simp [h1, h2]
      · simp [h1, h2, ih]

theorem cmp_range : ∀ (a b : List UInt8), Go.Lib.compareBytes a b = -1 ∨ Go.Lib.compareBytes a b = 0 ∨ Go.Lib.compareBytes a b = 1
  | [], [] => .inr (.inl rfl)
  | [], _ :: _ => .inl rfl
  | _ :: _, [] => .inr (.inr rfl)
  | x :: a, y :: b => by
    unfold Go.Lib.compareBytes
    split
    · exact .inl rfl
    · split
      · exact .inr (.inr rfl)
      · exact cmp_range a b

theorem cmp_less : ∀ (a b : List UInt8), Op.bytesLess a b = decide (Go.Lib.compareBytes a b = -1)
  | [], [] => by simp [Op.bytesLess, Go.Lib.compareBytes]
  | [], _ :: _ => by simp [Op.bytesLess, Go.Lib.compareBytes]
  | _ :: _, [] => by simp [Op.bytesLess, Go.Lib.compareBytes]
  | x :: a, y :: b => by
    have ih := cmp_less a b
    unfold Op.bytesLess Go.Lib.compareBytes
    by_cases h1 : x < y
    · simp [h1]
    · by_cases h2 : y < x
      · have : ¬ x = y := by rintro rfl; exact UInt8.lt_irrefl _ h2
        simp [h1, h2, this]
      · have : x = y := by
          apply UInt8.toNat_inj.1
          rw [UInt8.lt_iff_toNat_lt] at h1 h2
          omega
        simp [h1, h2, this, ih]

theorem cmp_eq0 : ∀ (a b : List UInt8), (a == b) = decide (Go.Lib.compareBytes a b = 0)
  | [], [] => by simp [Go.Lib.compareBytes]
  | [], _ :: _ => by simp [Go.Lib.compareBytes]
  | _ :: _, [] => by simp [Go.Lib.compareBytes]
  | x :: a, y :: b => by
    have ih := cmp_eq0 a b
    unfold Go.Lib.compareBytes
    rw [List.cons_beq_cons]
    by_cases h1 : x < y
    · have : ¬ x = y := by rintro rfl; exact UInt8.lt_irrefl _ h1
      simp [h1, this]
    · by_cases h2 : y < x
      · have : ¬ x = y := by rintro rfl; exact UInt8.lt_irrefl _ h2
        simp [h1, h2, this]
      · have : x = y := by
          apply UInt8.toNat_inj.1
          rw [UInt8.lt_iff_toNat_lt] at h1 h2
          omega
        simp [h1, h2, this, ih]
def cmpS (s t : ByteArray) : Int := Go.Lib.compareBytes s.data.toList t.data.toList
theorem impl_CompareLabels_n (s t : ByteArray) (k) : call impl_CompareLabels [.one (.str s), .one (.str t)] k = k [I (cmpS s t)] := call_of (fun k => by
  have e : ∀ k, call bytealg_CompareString [.one (.str s), .one (.str t)] k = k [I (cmpS s t)] := call_of (fun k => by simp [bytealg_CompareString, cmpS])
  have e2 : ∀ k, call strings_Compare [.one (.str s), .one (.str t)] k = k [I (cmpS s t)] := call_of (fun k => by simp [strings_Compare, e])
  simp [impl_CompareLabels, e2]) k
theorem spec_CompareLabels_n (s t : ByteArray) (k) : call spec_CompareLabels [.one (.str s), .one (.str t)] k = k [I (cmpS s t)] := call_of (fun k => by
  simp only [spec_CompareLabels, binP, toList_data, cmp_less, cmp_eq0, iteP_eq, rt_eq, scs_sc, scs_nil, flat_int, true_and]
  unfold cmpS
  rcases cmp_range s.data.toList t.data.toList with h | h | h <;> simp [h]) k
def badE (l : List GEntry) (i : Nat) (x : GEntry) : Bool := !sIsEntry x || (decide (0 < i) && (match l[i - 1]? with | some y => decide (cmpS x.Label y.Label ≤ 0) | none => false))
def sAreEntries (l : List GEntry) : Bool := !anyI (badE l) 0 l && decide ((l.length : Int) ≤ 12)
theorem entries_le {l : List GEntry} (h : mEntryS l ≤ 1048576) : l.length ≤ 1048576 ∧ ∀ x ∈ l, mEntry x ≤ 1048576 := by
  unfold mEntryS at h
  refine ⟨by omega, fun x hx => ?_⟩
  have := sumN_mem (s := mEntry) hx
  omega
theorem impl_AreEntries_n (l : List GEntry) (h : mEntryS l ≤ 1048576) (k) : call impl_AreEntries [.one (.list 4 (l.map eEntry))] k = k [.bool (sAreEntries l)] := call_of (fun k => by
  obtain ⟨hl, hx0⟩ := entries_le h
  simp only [impl_AreEntries, lenP_eq, List.length_map, rt_eq, scs_sc, scs_nil, flat_bool, true_and, binP_leq]
  refine (lp_anyI (P := k [.bool false]) (fin := k [.bool (decide ((l.length : Int) ≤ 12))]) l (fun i => [.list 4 (l.map eEntry), .bool false, .list 4 (l.map eEntry), I l.length, I i]) (badE l) rfl (fun i x hx hi K => ?_) fun K => ?_).trans ?_
  · have e := impl_IsEntry_n x (hx0 x (mem_get hx))
    by_cases h0 : i = 0
    · subst h0
      simp [-getElem?_pos, impl_AreEntries_r0, hx, hi, e, badE, wr_eq]
    · obtain ⟨y, hy⟩ : ∃ y, l[i - 1]? = some y := ⟨l[i - 1], List.getElem?_eq_getElem (by omega)⟩
      have c := cmp_neg x.Label.data.toList y.Label.data.toList
      have r := cmp_range x.Label.data.toList y.Label.data.toList
      have e2 := impl_CompareLabels_n x.Label y.Label
      simp [-getElem?_pos, impl_AreEntries_r0, hx, hi, hy, h0, e, e2, badE, show 0 < i by omega, wr_pred (show 0 < i by omega) (show i < 1000000000000000000 by omega), wr_succ (show i < 1000000000000000000 by omega)]
      cases sIsEntry x <;> by_cases h2 : cmpS x.Label y.Label ≤ 0 <;> simp [h2]
  · simp [impl_AreEntries_r0]
  · unfold sAreEntries
    cases anyI (badE l) 0 l <;> simp) k
theorem spec_AreEntries_n (l : List GEntry) (h : mEntryS l ≤ 1048576) (k) : call spec_AreEntries [.one (.list 4 (l.map eEntry))] k = k [.bool (sAreEntries l)] := call_of (fun k => by
  obtain ⟨hl, hx0⟩ := entries_le h
  simp only [spec_AreEntries, lenP_eq, List.length_map, rt_eq, scs_sc, scs_nil, flat_bool, true_and, binP_leq]
  refine (lp_anyI (P := k [.bool false]) (fin := k [.bool (decide ((l.length : Int) ≤ 12))]) l (fun i => [.list 4 (l.map eEntry), .bool false, I i]) (badE l) rfl (fun i x hx hi K => ?_) fun K => ?_).trans ?_
  · have e := spec_IsEntry_n x (hx0 x (mem_get hx))
    by_cases h0 : i = 0
    · subst h0
      simp [-getElem?_pos, spec_AreEntries_r0, hx, hi, e, badE, wr_eq]
    · obtain ⟨y, hy⟩ : ∃ y, l[i - 1]? = some y := ⟨l[i - 1], List.getElem?_eq_getElem (by omega)⟩
      have c := cmp_neg x.Label.data.toList y.Label.data.toList
      have r := cmp_range x.Label.data.toList y.Label.data.toList
      have e2 := spec_CompareLabels_n y.Label x.Label
      simp [-getElem?_pos, spec_AreEntries_r0, hx, hi, hy, h0, e, e2, badE, show 0 < i by omega, wr_pred (show 0 < i by omega) (show i < 1000000000000000000 by omega), wr_succ (show i < 1000000000000000000 by omega)]
      have c2 : cmpS y.Label x.Label = -cmpS x.Label y.Label := c
      have r2 : cmpS x.Label y.Label = -1 ∨ cmpS x.Label y.Label = 0 ∨ cmpS x.Label y.Label = 1 := r
      rw [c2]
      cases sIsEntry x <;> rcases r2 with r2 | r2 | r2 <;> simp [r2]
  · simp [spec_AreEntries_r0]
  · unfold sAreEntries
    cases anyI (badE l) 0 l <;> simp) k
def pathInts (p : List ByteArray) : List Int := p.flatMap sLabelInts
def entryInts (e : GEntry) : List Int := sLabelInts e.Label ++ ([e.Kind, e.Value, (e.Path.length : Int)] ++ pathInts e.Path)
theorem pathInts_len : ∀ (p : List ByteArray), (pathInts p).length = p.length + sumN ByteArray.size p
  | [] => rfl
  | s :: p => by
    have := pathInts_len p
    unfold pathInts at this ⊢
    simp only [List.flatMap_cons, List.length_append, List.length_cons, sLabelInts_len, sumN, this]
    omega
theorem entryInts_len (e : GEntry) : (entryInts e).length = mEntry e + 4 := by
  simp only [entryInts, List.length_append, sLabelInts_len, pathInts_len, List.length_cons, List.length_nil, mEntry]
  omega
theorem impl_EntryInts_n (e : GEntry) (h : mEntry e ≤ 1048576) (k) : call impl_EntryInts [.agg (eEntry e)] k = k [ints (entryInts e)] := call_of (fun k => by
  obtain ⟨h1, h2⟩ := entry_le h
  obtain ⟨hl, hs⟩ := path_le h2
  have e1 := impl_LabelInts_n e.Label (show e.Label.size < 1000000000 by omega)
  have e2 := sLabelInts_len e.Label
  simp only [impl_EntryInts, un, cur0, e1, lenP_eq, List.length_map, atP_zero, fc_int, true_and, show (3 : Nat) ≤ 16777216 by omega, ints, catP, e2, List.length_cons, List.length_nil, show e.Label.size + 1 + (0 + 1 + 1 + 1) < 1073741824 by omega, rt_eq, scs_own, scs_nil]
  refine lp_list e.Path (fun i => [strs e.Path, I e.Path.length, I i, .list 1 [], ints (sLabelInts e.Label ++ ([e.Kind, e.Value, (e.Path.length : Int)] ++ pathInts (e.Path.take i)))]) (by simp [ints, pathInts]) (fun i x hx hi K => ?_) fun K => ?_
  · have e3 := impl_LabelInts_n x (show x.size < 1000000000 by have := hs x (mem_get hx); omega)
    have e4 : pathInts (e.Path.take (i + 1)) = pathInts (e.Path.take i) ++ sLabelInts x := by
      unfold pathInts; rw [take_snoc hx, List.flatMap_append]; simp
    have e5 : (pathInts (e.Path.take i)).length ≤ 2097152 := by
      rw [pathInts_len]
      have := sumN_take_le ByteArray.size e.Path i
      have : (e.Path.take i).length ≤ e.Path.length := by simp; omega
      omega
    have e6 := sLabelInts_len x
    have e7 := hs x (mem_get hx)
    rw [e4]
    generalize pathInts (e.Path.take i) = A at e5
    simp [-getElem?_pos, impl_EntryInts_r0, hx, hi, e3, ints, catP, e2, e6, wr_succ (show i < 1000000000000000000 by omega)]
    try (intros; omega)
  · simp [impl_EntryInts_r0, entryInts, ints]) k
theorem impl_LeafOf_n (e : GEntry) (h : mEntry e ≤ 1048576) (k) : call impl_LeafOf [.agg (eEntry e)] k = k [I (sHash (227 :: entryInts e))] := call_of (fun k => by
  have hl := entryInts_len e
  have e1 := impl_EntryInts_n e h
  have e2 := impl_Hash_n (227 :: entryInts e) (by simp; omega)
  have e3 : PV.list 1 ([I 227] :: (entryInts e).map rI) = ints (227 :: entryInts e) := by simp [ints]
  simp [impl_LeafOf, fc_int, e1, catP, show 1 + (entryInts e).length < 1073741824 by omega]
  rw [e3, e2]
  simp
  try (intros; omega)) k
theorem spec_EntryInts_n (e : GEntry) (h : mEntry e ≤ 1048576) (k) : call spec_EntryInts [.agg (eEntry e)] k = k [ints (entryInts e)] := call_of (fun k => by
  obtain ⟨h1, h2⟩ := entry_le h
  obtain ⟨hl, hs⟩ := path_le h2
  have e1 := spec_LabelInts_n e.Label (show e.Label.size < 1000000000 by omega)
  have e2 := sLabelInts_len e.Label
  simp only [spec_EntryInts, un, cur0, e1, lenP_eq, List.length_map, atP_zero, fc_int, true_and, show (3 : Nat) ≤ 16777216 by omega, ints, catP, e2, List.length_cons, List.length_nil, show e.Label.size + 1 + (0 + 1 + 1 + 1) < 1073741824 by omega, rt_eq, scs_own, scs_nil]
  refine lp_list e.Path (fun i => [I i, .str e.Label, I e.Kind, I e.Value, strs e.Path, .list 1 [], ints (sLabelInts e.Label ++ ([e.Kind, e.Value, (e.Path.length : Int)] ++ pathInts (e.Path.take i)))]) (by simp [ints, pathInts]) (fun i x hx hi K => ?_) fun K => ?_
  · have e3 := spec_LabelInts_n x (show x.size < 1000000000 by have := hs x (mem_get hx); omega)
    have e4 : pathInts (e.Path.take (i + 1)) = pathInts (e.Path.take i) ++ sLabelInts x := by
      unfold pathInts; rw [take_snoc hx, List.flatMap_append]; simp
    have e5 : (pathInts (e.Path.take i)).length ≤ 2097152 := by
      rw [pathInts_len]
      have := sumN_take_le ByteArray.size e.Path i
      have : (e.Path.take i).length ≤ e.Path.length := by simp; omega
      omega
    have e6 := sLabelInts_len x
    have e7 := hs x (mem_get hx)
    rw [e4]
    generalize pathInts (e.Path.take i) = A at e5
    simp [-getElem?_pos, spec_EntryInts_r0, hx, hi, e3, ints, catP, e2, e6, wr_succ (show i < 1000000000000000000 by omega)]
    try (intros; omega)
  · simp [spec_EntryInts_r0, entryInts, ints]) k
theorem spec_LeafOf_n (e : GEntry) (h : mEntry e ≤ 1048576) (k) : call spec_LeafOf [.agg (eEntry e)] k = k [I (sHash (227 :: entryInts e))] := call_of (fun k => by
  have hl := entryInts_len e
  have e1 := spec_EntryInts_n e h
  have e2 := spec_Hash_n (227 :: entryInts e) (by simp; omega)
  have e3 : PV.list 1 ([I 227] :: (entryInts e).map rI) = ints (227 :: entryInts e) := by simp [ints]
  simp [spec_LeafOf, fc_int, e1, catP, show 1 + (entryInts e).length < 1073741824 by omega]
  rw [e3, e2]
  simp
  try (intros; omega)) k
def sLeaf (e : GEntry) : Int := sHash (227 :: entryInts e)
theorem impl_LeavesOf_n (l : List GEntry) (h : mEntryS l ≤ 1048576) (k) : call impl_LeavesOf [.one (.list 4 (l.map eEntry))] k = k [ints (l.map sLeaf)] := call_of (fun k => by
  obtain ⟨hl, hx0⟩ := entries_le h
  simp only [impl_LeavesOf, lenP_eq, List.length_map, rt_eq, scs_own, scs_nil, true_and, show (0 : Nat) ≤ 16777216 by omega]
  refine lp_list l (fun i => [.list 4 (l.map eEntry), I l.length, I i, .list 1 [], ints ((l.take i).map sLeaf)]) (by simp [ints]) (fun i x hx hi K => ?_) fun K => ?_
  · have e := impl_LeafOf_n x (hx0 x (mem_get hx))
    simp [-getElem?_pos, impl_LeavesOf_r0, hx, hi, e, fc_int, ints, catP, take_snoc hx, show i < 1073741823 by omega, show min i l.length < 1073741823 by omega, sLeaf, wr_succ (show i < 1000000000000000000 by omega)]
    try (intros; omega)
  · simp [impl_LeavesOf_r0]) k
theorem spec_LeavesOf_n (l : List GEntry) (h : mEntryS l ≤ 1048576) (k) : call spec_LeavesOf [.one (.list 4 (l.map eEntry))] k = k [ints (l.map sLeaf)] := call_of (fun k => by
  obtain ⟨hl, hx0⟩ := entries_le h
  simp only [spec_LeavesOf, lenP_eq, List.length_map, rt_eq, scs_own, scs_nil, true_and, show (0 : Nat) ≤ 16777216 by omega]
  refine lp_list l (fun i => [.list 4 (l.map eEntry), I i, .list 1 [], ints ((l.take i).map sLeaf)]) (by simp [ints]) (fun i x hx hi K => ?_) fun K => ?_
  · have e := spec_LeafOf_n x (hx0 x (mem_get hx))
    simp [-getElem?_pos, spec_LeavesOf_r0, hx, hi, e, fc_int, ints, catP, take_snoc hx, show i < 1073741823 by omega, show min i l.length < 1073741823 by omega, sLeaf, wr_succ (show i < 1000000000000000000 by omega)]
    try (intros; omega)
  · simp [spec_LeavesOf_r0]) k
def sNode (a b : Int) : Int := sHash [229, a, b]
def sAbove : List Int → List Int
  | a :: b :: l => sNode a b :: sAbove l
  | [a] => [a]
  | [] => []
theorem sAbove_app : ∀ (n : Nat) (m r : List Int), m.length = 2 * n → sAbove (m ++ r) = sAbove m ++ sAbove r
  | 0, [], r, _ => rfl
  | 0, _ :: _, r, h => by simp at h
  | n + 1, [], r, h => by simp at h
  | n + 1, [a], r, h => by simp at h; omega
  | n + 1, a :: b :: m, r, h => by
    have := sAbove_app n m r (by simp at h; omega)
    simp [sAbove, this]
theorem sAbove_len : ∀ (l : List Int), (sAbove l).length ≤ l.length ∧ (2 ≤ l.length → (sAbove l).length < l.length) ∧ (1 ≤ l.length → 1 ≤ (sAbove l).length)
  | [] => by simp [sAbove]
  | [a] => by simp [sAbove]
  | a :: b :: l => by
    have := sAbove_len l
    simp only [sAbove, List.length_cons]
    omega
def sTopN : Nat → List Int → Int
  | 0, _ => 0
  | n + 1, l => if 1 < l.length then sTopN n (sAbove l) else l.headD 0
def sTop (l : List Int) : Int := if l.length = 0 then sHash [229] else sTopN (l.length + 1) l
def sRoot (l : List GEntry) : Int := sHash [231, (l.length : Int), sTop (l.map sLeaf)]
theorem impl_NodeOf_n (a b : Int) (k) : call impl_NodeOf [.one (I a), .one (I b)] k = k [I (sNode a b)] := call_of (fun k => by
  have eh : ∀ (l : List Int), l.length < 1000 → ∀ k, call impl_hash [.one (ints l)] k = k [I (sHash l)] := fun l hl => call_of (fun k => by simp [impl_hash, impl_Hash_n l (by omega)])
  have e := eh [229, a, b] (by simp)
  rw [show ints [229, a, b] = PV.list 1 [[I 229], [I a], [I b]] from rfl] at e
  simp [impl_NodeOf, fc_int, e, sNode]) k
theorem impl_above_n (l : List Int) (h : l.length ≤ 1048576) (k) : call impl_above [.one (ints l)] k = k [ints (sAbove l)] := call_of (fun k => by
  simp only [impl_above, rt_eq, scs_own, scs_nil, true_and, show (0 : Nat) ≤ 16777216 by omega]
  refine lp_nat ((l.length + 1) / 2) (fun j => [ints l, I ((2 * j : Nat) : Int), .list 1 [], ints (sAbove (l.take (2 * j)))]) (by simp [ints, sAbove]) (fun j hj K => ?_) fun K => ?_
  · have hlt : 2 * j < l.length := by omega
    obtain ⟨x, hx⟩ : ∃ x, l[2 * j]? = some x := ⟨l[2 * j], List.getElem?_eq_getElem hlt⟩
    have t1 : l.take (2 * j + 1) = l.take (2 * j) ++ [x] := take_snoc hx
    have hll : (l.take (2 * j)).length = 2 * j := by simp; omega
    have hA : (sAbove (l.take (2 * j))).length ≤ 1048576 := by have := (sAbove_len (l.take (2 * j))).1; omega
    have w1 : IntKind.i64.wrap (((2 * j : Nat) : Int) + 1) = ((2 * j + 1 : Nat) : Int) := by rw [wr_eq (by omega) (by omega)]; omega
    have w2 : IntKind.i64.wrap (((2 * j : Nat) : Int) + 2) = ((2 * (j + 1) : Nat) : Int) := by rw [wr_eq (by omega) (by omega)]; omega
    by_cases h2 : 2 * j + 1 < l.length
    · obtain ⟨y, hy⟩ : ∃ y, l[2 * j + 1]? = some y := ⟨l[2 * j + 1], List.getElem?_eq_getElem h2⟩
      have t2 : l.take (2 * (j + 1)) = l.take (2 * j) ++ [x, y] := by
        rw [show 2 * (j + 1) = 2 * j + 1 + 1 by omega, take_snoc hy, t1]; simp
      rw [t2, sAbove_app j _ _ hll]
      generalize sAbove (l.take (2 * j)) = A at hA
      simp only [impl_above_r0, un, cur0, binP_lss, binP_add, lenP_eq, ints, List.length_map, iteP_eq, w1, w2, show decide (((2 * j : Nat) : Int) < (l.length : Int)) = true by simp; omega, show decide (((2 * j + 1 : Nat) : Int) < (l.length : Int)) = true by simp; omega, if_true, elemP, Int.toNat_natCast, List.getElem?_map, hx, hy, Option.map_some, show (0 : Int) ≤ ((2 * j : Nat) : Int) by omega, show (0 : Int) ≤ ((2 * j + 1 : Nat) : Int) by omega, true_and, atP_zero, impl_NodeOf_n, fc_int, catP, List.length_cons, List.length_nil, show A.length + (0 + 1) < 1073741824 by omega]
      simp [sAbove]
    · have t2 : l.take (2 * (j + 1)) = l.take (2 * j) ++ [x] := by
        rw [← t1, List.take_of_length_le (by omega), List.take_of_length_le (by omega)]
      rw [t2, sAbove_app j _ _ hll]
      generalize sAbove (l.take (2 * j)) = A at hA
      simp only [impl_above_r0, un, cur0, binP_lss, binP_add, lenP_eq, ints, List.length_map, iteP_eq, w1, w2, show decide (((2 * j : Nat) : Int) < (l.length : Int)) = true by simp; omega, show decide (((2 * j + 1 : Nat) : Int) < (l.length : Int)) = false by simp; omega, if_true, Bool.false_eq_true, if_false, elemP, Int.toNat_natCast, List.getElem?_map, hx, Option.map_some, show (0 : Int) ≤ ((2 * j : Nat) : Int) by omega, true_and, atP_zero, fc_int, catP, List.length_cons, List.length_nil, show A.length + (0 + 1) < 1073741824 by omega]
      simp [sAbove]
  · have : l.take (2 * ((l.length + 1) / 2)) = l := List.take_of_length_le (by omega)
    rw [this]
    simp only [impl_above_r0, un, cur0, binP_lss, lenP_eq, ints, List.length_map, iteP_eq, show decide (((2 * ((l.length + 1) / 2) : Nat) : Int) < (l.length : Int)) = false by simp; omega]
    simp) k
theorem impl_TopOf_lp (k : List PV → Prop) : ∀ (n : Nat) (l : List Int), l.length < n → 1 ≤ l.length → l.length ≤ 1048576 → (lp (fun L w => impl_TopOf_r0 w L (fun q3 q4 => elemP 1 q3 (I 0) fun c5 => rt [.sc] [atP c5 0] k)) [ints l, I 0] ↔ k [I (sTopN n l)])
  | 0, l, h, _, _ => by omega
  | n + 1, l, h, h1, h2 => by
    unfold sTopN
    by_cases hl : 1 < l.length
    · have ha := sAbove_len l
      have ih := impl_TopOf_lp k n (sAbove l) (by omega) (by omega) (by omega)
      rw [if_pos hl]
      refine (lp_step fun K => ?_).trans ih
      have e := impl_above_n l h2
      simp [impl_TopOf_r0, show (1 : Int) < l.length by omega, e]
    · rw [if_neg hl]
      refine itP_mono_end fun K => ?_
      match l, h1, hl with
      | [a], _, _ => simp [impl_TopOf_r0, ints, elemP]
      | _ :: _ :: _, _, hl => simp at hl
theorem impl_TopOf_n (l : List Int) (h : l.length ≤ 1048576) (k) : call impl_TopOf [.one (ints l)] k = k [I (sTop l)] := call_of (fun k => by
  have eh : ∀ (l : List Int), l.length < 1000 → ∀ k, call impl_hash [.one (ints l)] k = k [I (sHash l)] := fun l hl => call_of (fun k => by simp [impl_hash, impl_Hash_n l (by omega)])
  unfold sTop
  by_cases h0 : l.length = 0
  · have : l = [] := List.eq_nil_of_length_eq_zero h0
    subst this
    have e := eh [229] (by simp)
    rw [show ints [229] = PV.list 1 [[I 229]] from rfl] at e
    simp [impl_TopOf, fc_int, e]
  · rw [if_neg h0]
    have e := impl_TopOf_lp k (l.length + 1) l (by omega) (by omega) h
    rw [← e]
    simp [impl_TopOf, show ¬ (l.length : Int) = 0 by omega, show ¬ l = [] by (rintro rfl; simp at h0)]) k
theorem impl_rootFrom_n (a b : Int) (k) : call impl_rootFrom [.one (I a), .one (I b)] k = k [I (sHash [231, a, b])] := call_of (fun k => by
  have eh : ∀ (l : List Int), l.length < 1000 → ∀ k, call impl_hash [.one (ints l)] k = k [I (sHash l)] := fun l hl => call_of (fun k => by simp [impl_hash, impl_Hash_n l (by omega)])
  have e := eh [231, a, b] (by simp)
  rw [show ints [231, a, b] = PV.list 1 [[I 231], [I a], [I b]] from rfl] at e
  simp [impl_rootFrom, fc_int, e]) k
theorem impl_RootOf_n (l : List GEntry) (h : mEntryS l ≤ 1048576) (k) : call impl_RootOf [.one (.list 4 (l.map eEntry))] k = k [I (sRoot l)] := call_of (fun k => by
  have hl := (entries_le h).1
  have e1 := impl_LeavesOf_n l h
  have e2 := impl_TopOf_n (l.map sLeaf) (by simpa using hl)
  simp [impl_RootOf, e1, e2, impl_rootFrom_n, sRoot]) k
theorem spec_NodeOf_n (a b : Int) (k) : call spec_NodeOf [.one (I a), .one (I b)] k = k [I (sNode a b)] := call_of (fun k => by
  have eh : ∀ (l : List Int), l.length < 1000 → ∀ k, call spec_Hash [.one (ints l)] k = k [I (sHash l)] := fun l hl => spec_Hash_n l (by omega)
  have e := eh [229, a, b] (by simp)
  rw [show ints [229, a, b] = PV.list 1 [[I 229], [I a], [I b]] from rfl] at e
  simp [spec_NodeOf, fc_int, e, sNode]) k
theorem spec_l10Up_n (l : List Int) (h : l.length ≤ 1048576) (k) : call spec_l10Up [.one (ints l)] k = k [ints (sAbove l)] := call_of (fun k => by
  simp only [spec_l10Up, rt_eq, scs_own, scs_nil, true_and, show (0 : Nat) ≤ 16777216 by omega]
  refine lp_nat ((l.length + 1) / 2) (fun j => [ints l, I ((2 * j : Nat) : Int), .list 1 [], ints (sAbove (l.take (2 * j)))]) (by simp [ints, sAbove]) (fun j hj K => ?_) fun K => ?_
  · have hlt : 2 * j < l.length := by omega
    obtain ⟨x, hx⟩ : ∃ x, l[2 * j]? = some x := ⟨l[2 * j], List.getElem?_eq_getElem hlt⟩
    have t1 : l.take (2 * j + 1) = l.take (2 * j) ++ [x] := take_snoc hx
    have hll : (l.take (2 * j)).length = 2 * j := by simp; omega
    have hA : (sAbove (l.take (2 * j))).length ≤ 1048576 := by have := (sAbove_len (l.take (2 * j))).1; omega
    have w1 : IntKind.i64.wrap (((2 * j : Nat) : Int) + 1) = ((2 * j + 1 : Nat) : Int) := by rw [wr_eq (by omega) (by omega)]; omega
    have w2 : IntKind.i64.wrap (((2 * j : Nat) : Int) + 2) = ((2 * (j + 1) : Nat) : Int) := by rw [wr_eq (by omega) (by omega)]; omega
    by_cases h2 : 2 * j + 1 < l.length
    · obtain ⟨y, hy⟩ : ∃ y, l[2 * j + 1]? = some y := ⟨l[2 * j + 1], List.getElem?_eq_getElem h2⟩
      have t2 : l.take (2 * (j + 1)) = l.take (2 * j) ++ [x, y] := by
        rw [show 2 * (j + 1) = 2 * j + 1 + 1 by omega, take_snoc hy, t1]; simp
      rw [t2, sAbove_app j _ _ hll]
      generalize sAbove (l.take (2 * j)) = A at hA
      simp only [spec_l10Up_r0, un, cur0, binP_lss, binP_add, lenP_eq, ints, List.length_map, iteP_eq, w1, w2, show decide (((2 * j : Nat) : Int) < (l.length : Int)) = true by simp; omega, show decide (((2 * j + 1 : Nat) : Int) < (l.length : Int)) = true by simp; omega, if_true, elemP, Int.toNat_natCast, List.getElem?_map, hx, hy, Option.map_some, show (0 : Int) ≤ ((2 * j : Nat) : Int) by omega, show (0 : Int) ≤ ((2 * j + 1 : Nat) : Int) by omega, true_and, atP_zero, spec_NodeOf_n, fc_int, catP, List.length_cons, List.length_nil, show A.length + (0 + 1) < 1073741824 by omega]
      simp [sAbove]
    · have t2 : l.take (2 * (j + 1)) = l.take (2 * j) ++ [x] := by
        rw [← t1, List.take_of_length_le (by omega), List.take_of_length_le (by omega)]
      rw [t2, sAbove_app j _ _ hll]
      generalize sAbove (l.take (2 * j)) = A at hA
      simp only [spec_l10Up_r0, un, cur0, binP_lss, binP_add, lenP_eq, ints, List.length_map, iteP_eq, w1, w2, show decide (((2 * j : Nat) : Int) < (l.length : Int)) = true by simp; omega, show decide (((2 * j + 1 : Nat) : Int) < (l.length : Int)) = false by simp; omega, if_true, Bool.false_eq_true, if_false, elemP, Int.toNat_natCast, List.getElem?_map, hx, Option.map_some, show (0 : Int) ≤ ((2 * j : Nat) : Int) by omega, true_and, atP_zero, fc_int, catP, List.length_cons, List.length_nil, show A.length + (0 + 1) < 1073741824 by omega]
      simp [sAbove]
  · have : l.take (2 * ((l.length + 1) / 2)) = l := List.take_of_length_le (by omega)
    rw [this]
    simp only [spec_l10Up_r0, un, cur0, binP_lss, lenP_eq, ints, List.length_map, iteP_eq, show decide (((2 * ((l.length + 1) / 2) : Nat) : Int) < (l.length : Int)) = false by simp; omega]
    simp) k
theorem spec_TopOf_lp (k : List PV → Prop) : ∀ (n : Nat) (l : List Int), l.length < n → 1 ≤ l.length → l.length ≤ 1048576 → (lp (fun L w => spec_TopOf_r0 w L (fun q3 q4 => elemP 1 q4 (I 0) fun c5 => rt [.sc] [atP c5 0] k)) [I 0, ints l] ↔ k [I (sTopN n l)])
  | 0, l, h, _, _ => by omega
  | n + 1, l, h, h1, h2 => by
    unfold sTopN
    by_cases hl : 1 < l.length
    · have ha := sAbove_len l
      have ih := spec_TopOf_lp k n (sAbove l) (by omega) (by omega) (by omega)
      rw [if_pos hl]
      refine (lp_step fun K => ?_).trans ih
      have e := spec_l10Up_n l h2
      simp [spec_TopOf_r0, show (1 : Int) < l.length by omega, e]
    · rw [if_neg hl]
      refine itP_mono_end fun K => ?_
      match l, h1, hl with
      | [a], _, _ => simp [spec_TopOf_r0, ints, elemP]
      | _ :: _ :: _, _, hl => simp at hl
theorem spec_TopOf_n (l : List Int) (h : l.length ≤ 1048576) (k) : call spec_TopOf [.one (ints l)] k = k [I (sTop l)] := call_of (fun k => by
  have eh : ∀ (l : List Int), l.length < 1000 → ∀ k, call spec_Hash [.one (ints l)] k = k [I (sHash l)] := fun l hl => spec_Hash_n l (by omega)
  unfold sTop
  by_cases h0 : l.length = 0
  · have : l = [] := List.eq_nil_of_length_eq_zero h0
    subst this
    have e := eh [229] (by simp)
    rw [show ints [229] = PV.list 1 [[I 229]] from rfl] at e
    simp [spec_TopOf, fc_int, e]
  · rw [if_neg h0]
    have e := spec_TopOf_lp k (l.length + 1) l (by omega) (by omega) h
    rw [← e]
    simp [spec_TopOf, show ¬ (l.length : Int) = 0 by omega, show ¬ l = [] by (rintro rfl; simp at h0)]) k
theorem spec_l10Root_n (a b : Int) (k) : call spec_l10Root [.one (I a), .one (I b)] k = k [I (sHash [231, a, b])] := call_of (fun k => by
  have eh : ∀ (l : List Int), l.length < 1000 → ∀ k, call spec_Hash [.one (ints l)] k = k [I (sHash l)] := fun l hl => spec_Hash_n l (by omega)
  have e := eh [231, a, b] (by simp)
  rw [show ints [231, a, b] = PV.list 1 [[I 231], [I a], [I b]] from rfl] at e
  simp [spec_l10Root, fc_int, e]) k
theorem spec_RootOf_n (l : List GEntry) (h : mEntryS l ≤ 1048576) (k) : call spec_RootOf [.one (.list 4 (l.map eEntry))] k = k [I (sRoot l)] := call_of (fun k => by
  have hl := (entries_le h).1
  have e1 := spec_LeavesOf_n l h
  have e2 := spec_TopOf_n (l.map sLeaf) (by simpa using hl)
  simp [spec_RootOf, e1, e2, spec_l10Root_n, sRoot]) k
def sCheckAll (root : Int) (l : List GEntry) : Bool := sAreEntries l && decide (sRoot l = root)
theorem impl_CheckAll_n (root : Int) (l : List GEntry) (h : mEntryS l ≤ 1048576) (k) : call impl_CheckAll [.one (I root), .one (.list 4 (l.map eEntry))] k = k [.bool (sCheckAll root l)] := call_of (fun k => by
  have e1 := impl_AreEntries_n l h
  have e2 := impl_RootOf_n l h
  simp only [impl_CheckAll, e1, e2, binP_eql, beqI, atP_zero, iteP_eq, rt_eq, scs_sc, scs_nil, flat_bool, true_and]
  exact stepB fun _ => Iff.rfl) k
theorem spec_CheckAll_n (root : Int) (l : List GEntry) (h : mEntryS l ≤ 1048576) (k) : call spec_CheckAll [.one (I root), .one (.list 4 (l.map eEntry))] k = k [.bool (sCheckAll root l)] := call_of (fun k => by
  have e1 := spec_AreEntries_n l h
  have e2 := spec_RootOf_n l h
  simp only [spec_CheckAll, e1, e2, binP_eql, beqI, atP_zero, iteP_eq, rt_eq, scs_sc, scs_nil, flat_bool, true_and]
  exact stepB fun _ => Iff.rfl) k
def sIsZone (z : GZone) : Bool := match sLast z.Chain with | some p => decide (p.Count = (z.Entries.length : Int)) && sCheckAll p.Root z.Entries | none => false
theorem last_some {l : List GSigned} {p : GHead} (h : sLast l = some p) : sIsChain l = true ∧ ∃ s, l[l.length - 1]? = some s ∧ s.Head = p := by
  unfold sLast at h
  split at h
  · rename_i hc
    obtain ⟨s, hs, hp⟩ := Option.map_eq_some_iff.1 h
    exact ⟨hc, s, hs, hp⟩
  · cases h
theorem last_none' {l : List GSigned} (h : sLast l = none) : sIsChain l = false := by
  unfold sLast at h
  cases hc : sIsChain l with
  | false => rfl
  | true =>
    obtain ⟨p, hp, _⟩ := chain_has hc
    rw [hc, if_pos rfl, hp] at h; cases h
theorem zone_le' {z : GZone} (h : mZone z ≤ 1048576) : mSignedS z.Chain ≤ 1048576 ∧ mEntryS z.Entries ≤ 1048576 := by unfold mZone at h; omega
theorem spec_IsZone_n (z : GZone) (h : mZone z ≤ 1048576) (k) : call spec_IsZone [.agg (eZone z)] k = k [.bool (sIsZone z)] := call_of (fun k => by
  obtain ⟨h1, h2⟩ := zone_le' h
  have e := spec_LastHead_n z.Chain h1
  unfold sIsZone
  cases hs : sLast z.Chain with
  | none => simp [spec_IsZone, e, hs, oHead, zHead]
  | some p =>
    have e2 := spec_CheckAll_n p.Root z.Entries h2
    simp [spec_IsZone, e, hs, oHead, e2]
    by_cases hc : p.Count = (z.Entries.length : Int) <;> simp [hc]) k
theorem impl_IsZone_n (z : GZone) (h : mZone z ≤ 1048576) (k) : call impl_IsZone [.agg (eZone z)] k = k [.bool (sIsZone z)] := call_of (fun k => by
  obtain ⟨h1, h2⟩ := zone_le' h
  have e := impl_IsChain_n z.Chain h1
  unfold sIsZone
  cases hs : sLast z.Chain with
  | none => simp [impl_IsZone, e, last_none' hs]
  | some p =>
    obtain ⟨hc, s, hp, rfl⟩ := last_some hs
    have e1 := impl_last_n z.Chain s (chain_le h1).1 hp
    have e2 := impl_CheckAll_n s.Head.Root z.Entries h2
    simp [impl_IsZone, e, hc, e1, e2]
    by_cases hc : s.Head.Count = (z.Entries.length : Int) <;> simp [hc]) k
theorem binP_xor {x : IntKind} {m n : Int} {k : PV → Prop} : binP .xor (.int x m) (.int x n) k = k (.int x (x.wrap ((BitVec.ofInt x.bits m ^^^ BitVec.ofInt x.bits n).toNat : Int))) := by simp [binP]
def sZoneId (z : GZone) : Int := if sIsZone z = true then (match sLast z.Chain with | some p => p.Zone | none => -1) else -1
theorem zone_last {z : GZone} (h : sIsZone z = true) : ∃ p, sLast z.Chain = some p := by
  unfold sIsZone at h
  cases hs : sLast z.Chain with
  | none => rw [hs] at h; cases h
  | some p => exact ⟨p, rfl⟩
theorem spec_ZoneId_n (z : GZone) (h : mZone z ≤ 1048576) (k) : call spec_ZoneId [.agg (eZone z)] k = k [I (sZoneId z)] := call_of (fun k => by
  obtain ⟨h1, h2⟩ := zone_le' h
  have e1 := spec_LastHead_n z.Chain h1
  have e2 := spec_IsZone_n z h
  unfold sZoneId
  cases hz : sIsZone z with
  | false => cases hs : sLast z.Chain <;> simp [spec_ZoneId, e1, e2, hz, hs, oHead, zHead]
  | true =>
    obtain ⟨p, hp⟩ := zone_last hz
    simp [spec_ZoneId, e1, e2, hz, hp, oHead]) k
theorem impl_ZoneId_n (z : GZone) (h : mZone z ≤ 1048576) (k) : call impl_ZoneId [.agg (eZone z)] k = k [I (sZoneId z)] := call_of (fun k => by
  obtain ⟨h1, h2⟩ := zone_le' h
  have e2 := impl_IsZone_n z h
  unfold sZoneId
  cases hz : sIsZone z with
  | false => simp [impl_ZoneId, e2, hz]
  | true =>
    obtain ⟨p, hp⟩ := zone_last hz
    obtain ⟨hc, s, hs, rfl⟩ := last_some hp
    have e1 := impl_last_n z.Chain s (chain_le h1).1 hs
    simp [impl_ZoneId, e1, e2, hz, hp]) k
theorem zoneS_le {l : List GZone} (h : mZoneS l ≤ 1048576) : l.length ≤ 1048576 ∧ ∀ z ∈ l, mZone z ≤ 1048576 := by
  unfold mZoneS at h
  refine ⟨by omega, fun z hz => ?_⟩
  have := sumN_mem (s := mZone) hz
  omega
end Go.Ev
set_option linter.unusedVariables false
set_option linter.unusedSimpArgs false
set_option maxRecDepth 8000
set_option maxHeartbeats 1000000
namespace Go.Ev
open Go.Proofs
/-! ### Where an entry is -/
def labP (s : ByteArray) (e : GEntry) : Bool := decide (e.Label = s)
def sFind (l : List GEntry) (s : ByteArray) : Int := idx (labP s) l
theorem findI_bd {α : Type} (p : α → Bool) : ∀ (l : List α) (i : Nat), findI p i l = -1 ∨ ((i : Int) ≤ findI p i l ∧ findI p i l < (i : Int) + l.length)
  | [], i => .inl rfl
  | x :: l, i => by
    unfold findI
    split
    · right; simp; omega
    · rcases findI_bd p l (i + 1) with h | ⟨h1, h2⟩
      · exact .inl h
      · right; rw [List.length_cons]; omega
theorem sFind_bd (l : List GEntry) (s : ByteArray) : sFind l s = -1 ∨ (0 ≤ sFind l s ∧ sFind l s < l.length) := by
  have := findI_bd (labP s) l 0
  simpa [sFind, idx] using this
theorem impl_FindEntry_n (l : List GEntry) (s : ByteArray) (h : l.length ≤ 1048576) (k) : call impl_FindEntry [.one (.list 4 (l.map eEntry)), .one (.str s)] k = k [I (sFind l s)] := call_of (fun k => by
  have e : ∀ k, call slices_IndexFunc_Entry_F_impl_FindEntry_1 [.one (.list 4 (l.map eEntry)), .fn 184 [.cells [.str s]]] k = k [I (sFind l s)] := call_of (fun k => by
    simp [slices_IndexFunc_Entry_F_impl_FindEntry_1]
    refine lp_find (Q := fun i => k [I i]) l (fun i => [.list 4 (l.map eEntry), .str s, I 0, I l.length, I i]) (labP s) rfl (fun i x hx hi K => ?_) fun K => ?_
    · have e1 : ∀ k, call impl_FindEntry_1 [.agg (eEntry x), .ro (.cells [.str s])] k = k [.bool (labP s x)] := call_of (fun k => by
        simp [impl_FindEntry_1, labP])
      simp only [slices_IndexFunc_Entry_F_impl_FindEntry_1_r0, un, cur0, binP_lss, show (i : Int) < (l.length : Int) by omega, decide_true, iteP_eq, if_true, elemP, Int.toNat_natCast, List.getElem?_map, hx, Option.map_some, show (0 : Int) ≤ (i : Int) by omega, true_and, atP_zero, atP_succ, e1, binP_add, wr_succ (show i < 1000000000000000000 by omega)]
      cases labP s x <;> simp
    · simp [slices_IndexFunc_Entry_F_impl_FindEntry_1_r0])
  simp [impl_FindEntry, e]) k
theorem spec_FindEntry_n (l : List GEntry) (s : ByteArray) (h : l.length ≤ 1048576) (k) : call spec_FindEntry [.one (.list 4 (l.map eEntry)), .one (.str s)] k = k [I (sFind l s)] := call_of (fun k => by
  simp only [spec_FindEntry]
  refine lp_find (Q := fun i => k [I i]) l (fun i => [.list 4 (l.map eEntry), .str s, I 0, I i]) (labP s) rfl (fun i x hx hi K => ?_) fun K => ?_
  · by_cases hq : x.Label = s <;> simp [-getElem?_pos, spec_FindEntry_r0, hx, hi, hq, labP, wr_succ (show i < 1000000000000000000 by omega)]
  · simp [spec_FindEntry_r0]) k
/-! ### The way to the top -/
theorem xor_one (i : Nat) : i ^^^ 1 = if i % 2 = 0 then i + 1 else i - 1 := by
  have h1 : (i ^^^ 1) / 2 = i / 2 := by rw [Nat.xor_div_two]; simp
  have t : (i ^^^ 1).testBit 0 = !(i.testBit 0) := by rw [Nat.testBit_xor]; cases i.testBit 0 <;> rfl
  have h2 : (i ^^^ 1) % 2 = (i + 1) % 2 := by
    simp only [Nat.testBit_zero] at t
    generalize i ^^^ 1 = j at *
    by_cases hi : i % 2 = 1 <;> by_cases hj : j % 2 = 1 <;> simp [hi, hj] at t <;> omega
  split <;> omega
def sib (i : Nat) : Nat := if i % 2 = 0 then i + 1 else i - 1
theorem xor_sib (i : Nat) (h : i < 1000000000000) : IntKind.i64.wrap ((BitVec.ofInt IntKind.i64.bits (i : Int) ^^^ BitVec.ofInt IntKind.i64.bits 1).toNat : Int) = ((sib i : Nat) : Int) := by
  show IntKind.i64.wrap ((BitVec.ofInt 64 (i : Int) ^^^ BitVec.ofInt 64 1).toNat : Int) = _
  have e : (BitVec.ofInt 64 (i : Int) ^^^ BitVec.ofInt 64 1).toNat = sib i := by
    rw [BitVec.toNat_xor]
    have e1 : (BitVec.ofInt 64 (i : Int)).toNat = i := by rw [BitVec.toNat_ofInt]; omega
    have e2 : (BitVec.ofInt 64 1).toNat = 1 := rfl
    rw [e1, e2, xor_one]; rfl
  rw [e]
  have : sib i ≤ i + 1 := by unfold sib; split <;> omega
  exact wr_eq (by omega) (by omega)
def sPathN : Nat → List Int → Nat → List Int
  | 0, _, _ => []
  | n + 1, l, i => if 1 < l.length then (match l[sib i]? with | some x => [x] | none => []) ++ sPathN n (sAbove l) (i / 2) else []
theorem sPathN_len : ∀ (n : Nat) (l : List Int) (i : Nat), (sPathN n l i).length ≤ l.length
  | 0, _, _ => Nat.zero_le _
  | n + 1, l, i => by
    unfold sPathN
    have ha := sAbove_len l
    split
    · have := sPathN_len n (sAbove l) (i / 2)
      rw [List.length_append]
      split <;> simp <;> omega
    · simp
def sPath (l : List Int) (i : Int) : List Int := if 0 ≤ i ∧ i ≤ (l.length : Int) - 1 then sPathN (l.length + 1) l i.toNat else []
theorem sPath_len (l : List Int) (i : Int) : (sPath l i).length ≤ l.length := by
  unfold sPath; split
  · exact sPathN_len _ _ _
  · simp
theorem impl_Path_lp (k : List PV → Prop) (a : PV) : ∀ (n : Nat) (l : List Int) (i : Nat) (acc : List Int), l.length < n → l.length ≤ 1048576 → i ≤ 1048576 → acc.length + l.length ≤ 4000000 →
    (lp (fun L w => impl_PathFor_r0 w L (fun q11 q12 q13 q14 => rt [.own true 3 1] [q14] k)) [ints l, I i, a, ints acc] ↔ k [ints (acc ++ sPathN n l i)])
  | 0, l, i, acc, h, _, _, _ => by omega
  | n + 1, l, i, acc, h, h1, h2, h3 => by
    have ha := sAbove_len l
    by_cases hl : 1 < l.length
    · have e := impl_above_n l h1
      have hsib : sib i ≤ i + 1 := by unfold sib; split <;> omega
      have w4 : IntKind.i64.wrap ((i : Int) / 2) = (i : Int) / 2 := wr_eq (by omega) (by omega)
      have ht : (i : Int).tmod 2 = (i : Int) % 2 := Int.tmod_eq_emod_of_nonneg (by omega)
      cases hx : l[sib i]? with
      | some x =>
        have hlt := lt_of_get hx
        have ih := impl_Path_lp k a n (sAbove l) (i / 2) (acc ++ [x]) (by omega) (by omega) (by omega) (by simp; omega)
        rw [List.append_assoc, show [x] ++ sPathN n (sAbove l) (i / 2) = sPathN (n + 1) l i by simp [sPathN, hl, hx]] at ih
        refine (lp_step fun K => ?_).trans ih
        have hb : (acc.map rI).length + [[I x]].length < 1073741824 := by simp; omega
        simp only [impl_PathFor_r0, un, cur0, ints, lenP_eq, List.length_map, binP_gtr, show (1 : Int) < (l.length : Int) by omega, decide_true, iteP_eq, if_true, binP_xor, xor_sib i (by omega), binP_lss, show ((sib i : Nat) : Int) < (l.length : Int) by omega, elemP, Int.toNat_natCast, List.getElem?_map, hx, Option.map_some, show (0 : Int) ≤ ((sib i : Nat) : Int) by omega, true_and, atP_zero, fc_int, catP_eq, hb]
        simp only [ints] at e
        simp [e, w4]
        intro _; omega
      | none =>
        have hge : l.length ≤ sib i := by simpa using hx
        have ih := impl_Path_lp k a n (sAbove l) (i / 2) acc (by omega) (by omega) (by omega) (by omega)
        rw [show sPathN n (sAbove l) (i / 2) = sPathN (n + 1) l i by simp [sPathN, hl, hx]] at ih
        refine (lp_step fun K => ?_).trans ih
        simp only [impl_PathFor_r0, un, cur0, ints, lenP_eq, List.length_map, binP_gtr, show (1 : Int) < (l.length : Int) by omega, decide_true, iteP_eq, if_true, binP_xor, xor_sib i (by omega), binP_lss, show ¬ ((sib i : Nat) : Int) < (l.length : Int) by omega, decide_false, Bool.false_eq_true, if_false]
        simp only [ints] at e
        simp [e, w4]
    · refine itP_mono_end fun K => ?_
      have : sPathN (n + 1) l i = [] := by simp [sPathN, hl]
      rw [this, List.append_nil]
      simp [impl_PathFor_r0, show ¬ (1 : Int) < (l.length : Int) by omega]
theorem spec_Path_lp (k : List PV → Prop) (a : PV) : ∀ (n : Nat) (l : List Int) (i : Nat) (acc : List Int), l.length < n → l.length ≤ 1048576 → i ≤ 1048576 → acc.length + l.length ≤ 4000000 →
    (lp (fun L w => spec_PathFor_r0 w L (fun q11 q12 q13 q14 => rt [.own true 3 1] [q14] k)) [I i, ints l, a, ints acc] ↔ k [ints (acc ++ sPathN n l i)])
  | 0, l, i, acc, h, _, _, _ => by omega
  | n + 1, l, i, acc, h, h1, h2, h3 => by
    have ha := sAbove_len l
    by_cases hl : 1 < l.length
    · have e := spec_l10Up_n l h1
      have hsib : sib i ≤ i + 1 := by unfold sib; split <;> omega
      have w4 : IntKind.i64.wrap ((i : Int) / 2) = (i : Int) / 2 := wr_eq (by omega) (by omega)
      have ht : (i : Int).tmod 2 = (i : Int) % 2 := Int.tmod_eq_emod_of_nonneg (by omega)
      have w1 : IntKind.i64.wrap ((i : Int) + 1) = (i : Int) + 1 := wr_eq (by omega) (by omega)
      have w2 : IntKind.i64.wrap (2 * (i : Int).tmod 2) = 2 * (i : Int).tmod 2 := by rw [ht]; exact wr_eq (by omega) (by omega)
      have w3 : IntKind.i64.wrap ((i : Int) + 1 - 2 * (i : Int).tmod 2) = ((sib i : Nat) : Int) := by
        rw [show (i : Int) + 1 - 2 * (i : Int).tmod 2 = ((sib i : Nat) : Int) by rw [ht]; unfold sib; split <;> omega]
        exact wr_eq (by omega) (by omega)
      cases hx : l[sib i]? with
      | some x =>
        have hlt := lt_of_get hx
        have ih := spec_Path_lp k a n (sAbove l) (i / 2) (acc ++ [x]) (by omega) (by omega) (by omega) (by simp; omega)
        rw [List.append_assoc, show [x] ++ sPathN n (sAbove l) (i / 2) = sPathN (n + 1) l i by simp [sPathN, hl, hx]] at ih
        refine (lp_step fun K => ?_).trans ih
        have hb : (acc.map rI).length + [[I x]].length < 1073741824 := by simp; omega
        simp only [spec_PathFor_r0, un, cur0, ints, lenP_eq, List.length_map, binP_gtr, show (1 : Int) < (l.length : Int) by omega, decide_true, iteP_eq, if_true, binP_add, binP_rem, binP_mul, binP_sub, w1, w2, w3, binP_lss, show ((sib i : Nat) : Int) < (l.length : Int) by omega, elemP, Int.toNat_natCast, List.getElem?_map, hx, Option.map_some, show (0 : Int) ≤ ((sib i : Nat) : Int) by omega, true_and, atP_zero, fc_int, catP_eq, hb]
        simp only [ints] at e
        simp [e, w4, w2, w3]
        intro _; omega
      | none =>
        have hge : l.length ≤ sib i := by simpa using hx
        have ih := spec_Path_lp k a n (sAbove l) (i / 2) acc (by omega) (by omega) (by omega) (by omega)
        rw [show sPathN n (sAbove l) (i / 2) = sPathN (n + 1) l i by simp [sPathN, hl, hx]] at ih
        refine (lp_step fun K => ?_).trans ih
        simp only [spec_PathFor_r0, un, cur0, ints, lenP_eq, List.length_map, binP_gtr, show (1 : Int) < (l.length : Int) by omega, decide_true, iteP_eq, if_true, binP_add, binP_rem, binP_mul, binP_sub, w1, w2, w3, binP_lss, show ¬ ((sib i : Nat) : Int) < (l.length : Int) by omega, decide_false, Bool.false_eq_true, if_false]
        simp only [ints] at e
        simp [e, w4, w2, w3, show ¬ ((sib i : Nat) : Int) < (l.length : Int) by omega]
    · refine itP_mono_end fun K => ?_
      have : sPathN (n + 1) l i = [] := by simp [sPathN, hl]
      rw [this, List.append_nil]
      simp [spec_PathFor_r0, show ¬ (1 : Int) < (l.length : Int) by omega]
theorem impl_PathFor_n (l : List Int) (i : Int) (h : l.length ≤ 1048576) (k) : call impl_PathFor [.one (ints l), .one (I i)] k = k [ints (sPath l i)] := call_of (fun k => by
  have w : IntKind.i64.wrap ((l.length : Int) - 1) = (l.length : Int) - 1 := wr_eq (by omega) (by omega)
  have e : ∀ k, call impl_InRange [.one (I i), .one (I 0), .one (I ((l.length : Int) - 1))] k = k [.bool (decide (0 ≤ i ∧ i ≤ (l.length : Int) - 1))] := call_of (fun k => by
    by_cases h1 : 0 ≤ i <;> simp [impl_InRange, h1])
  by_cases hc : 0 ≤ i ∧ i ≤ (l.length : Int) - 1
  · have e2 := impl_Path_lp k (.list 1 []) (l.length + 1) l i.toNat [] (by omega) h (by omega) (by simp; omega)
    rw [List.nil_append, show ((i.toNat : Nat) : Int) = i by omega] at e2
    simp only [ints] at e2
    simp [impl_PathFor, w, e, hc, sPath, ints]
    simpa using e2
  · simp [impl_PathFor, w, e, hc, sPath, ints]) k
theorem spec_PathFor_n (l : List Int) (i : Int) (h : l.length ≤ 1048576) (k) : call spec_PathFor [.one (ints l), .one (I i)] k = k [ints (sPath l i)] := call_of (fun k => by
  have w : IntKind.i64.wrap ((l.length : Int) - 1) = (l.length : Int) - 1 := wr_eq (by omega) (by omega)
  have e : ∀ k, call spec_l1In [.one (I i), .one (I 0), .one (I ((l.length : Int) - 1))] k = k [.bool (decide (0 ≤ i ∧ i ≤ (l.length : Int) - 1))] := call_of (fun k => by
    by_cases h1 : 0 ≤ i <;> simp [spec_l1In, h1])
  by_cases hc : 0 ≤ i ∧ i ≤ (l.length : Int) - 1
  · have e2 := spec_Path_lp k (.list 1 []) (l.length + 1) l i.toNat [] (by omega) h (by omega) (by simp; omega)
    rw [List.nil_append, show ((i.toNat : Nat) : Int) = i by omega] at e2
    simp only [ints] at e2
    simp [spec_PathFor, w, e, hc, sPath, ints]
    simpa using e2
  · simp [spec_PathFor, w, e, hc, sPath, ints]) k
/-! ### Proofs of presence and of absence -/
def sProof (l : List GEntry) (s : ByteArray) : GProof := if sFind l s < 0 then ⟨0, []⟩ else ⟨sFind l s, sPath (l.map sLeaf) (sFind l s)⟩
theorem impl_ProveEntry_n (l : List GEntry) (s : ByteArray) (h : mEntryS l ≤ 1048576) (k) : call impl_ProveEntry [.one (.list 4 (l.map eEntry)), .one (.str s)] k = k (eProof (sProof l s) ++ [.bool (!decide (sFind l s < 0))]) := call_of (fun k => by
  have hl := (entries_le h).1
  have e1 := impl_FindEntry_n l s hl
  have e2 := impl_LeavesOf_n l h
  have e3 := impl_PathFor_n (l.map sLeaf) (sFind l s) (by simpa using hl)
  by_cases hc : sFind l s < 0
  · simp [impl_ProveEntry, e1, hc, sProof, ints]
  · simp [impl_ProveEntry, e1, e2, e3, hc, sProof]) k
theorem spec_ProveEntry_n (l : List GEntry) (s : ByteArray) (h : mEntryS l ≤ 1048576) (k) : call spec_ProveEntry [.one (.list 4 (l.map eEntry)), .one (.str s)] k = k (eProof (sProof l s) ++ [.bool (!decide (sFind l s < 0))]) := call_of (fun k => by
  have hl := (entries_le h).1
  have e1 := spec_FindEntry_n l s hl
  have e2 := spec_LeavesOf_n l h
  have e3 := spec_PathFor_n (l.map sLeaf) (sFind l s) (by simpa using hl)
  by_cases hc : sFind l s < 0
  · simp [spec_ProveEntry, e1, hc, sProof, ints]
  · simp [spec_ProveEntry, e1, e2, e3, hc, sProof]) k
def sRank (l : List GEntry) (s : ByteArray) : Nat := l.countP fun e => decide (cmpS e.Label s < 0)
theorem sRank_le (l : List GEntry) (s : ByteArray) : sRank l s ≤ l.length := List.countP_le_length
theorem take_count {α : Type} (p : α → Bool) {l : List α} {i : Nat} {x : α} (hx : l[i]? = some x) : (l.take (i + 1)).countP p = (l.take i).countP p + if p x = true then 1 else 0 := by
  rw [take_snoc hx, List.countP_append, List.countP_cons, List.countP_nil]; simp
theorem impl_RankOf_n (l : List GEntry) (s : ByteArray) (h : l.length ≤ 1048576) (k) : call impl_RankOf [.one (.list 4 (l.map eEntry)), .one (.str s)] k = k [I (sRank l s)] := call_of (fun k => by
  simp only [impl_RankOf, lenP_eq, List.length_map]
  refine lp_list l (fun i => [.str s, I 0, I (((l.take i).countP fun e => decide (cmpS e.Label s < 0) : Nat) : Int), .list 4 (l.map eEntry), I l.length, I i]) rfl (fun i x hx hi K => ?_) fun K => ?_
  · have hc : (l.take i).countP (fun e => decide (cmpS e.Label s < 0)) ≤ i := Nat.le_trans List.countP_le_length (by simp; omega)
    have t := take_count (fun e : GEntry => decide (cmpS e.Label s < 0)) hx
    by_cases hq : cmpS x.Label s < 0
    · rw [decide_eq_true hq, if_pos rfl] at t
      simp [-getElem?_pos, impl_RankOf_r0, hx, hi, impl_CompareLabels_n, hq, t, wr_succ (show i < 1000000000000000000 by omega), wr_succ (show (l.take i).countP (fun e => decide (cmpS e.Label s < 0)) < 1000000000000000000 by omega)]
    · rw [decide_eq_false hq, if_neg (by simp)] at t
      simp [-getElem?_pos, impl_RankOf_r0, hx, hi, impl_CompareLabels_n, hq, t, wr_succ (show i < 1000000000000000000 by omega)]
  · simp [impl_RankOf_r0, sRank]) k
theorem spec_RankOf_n (l : List GEntry) (s : ByteArray) (h : l.length ≤ 1048576) (k) : call spec_RankOf [.one (.list 4 (l.map eEntry)), .one (.str s)] k = k [I (sRank l s)] := call_of (fun k => by
  simp only [spec_RankOf]
  refine lp_list l (fun i => [.list 4 (l.map eEntry), .str s, I 0, I (((l.take i).countP fun e => decide (cmpS e.Label s < 0) : Nat) : Int), I i]) rfl (fun i x hx hi K => ?_) fun K => ?_
  · have hc : (l.take i).countP (fun e => decide (cmpS e.Label s < 0)) ≤ i := Nat.le_trans List.countP_le_length (by simp; omega)
    have t := take_count (fun e : GEntry => decide (cmpS e.Label s < 0)) hx
    by_cases hq : cmpS x.Label s < 0
    · rw [decide_eq_true hq, if_pos rfl] at t
      simp [-getElem?_pos, spec_RankOf_r0, hx, hi, spec_CompareLabels_n, hq, t, wr_succ (show i < 1000000000000000000 by omega), wr_succ (show (l.take i).countP (fun e => decide (cmpS e.Label s < 0)) < 1000000000000000000 by omega)]
    · rw [decide_eq_false hq, if_neg (by simp)] at t
      simp [-getElem?_pos, spec_RankOf_r0, hx, hi, spec_CompareLabels_n, hq, t, wr_succ (show i < 1000000000000000000 by omega)]
  · simp [spec_RankOf_r0, sRank]) k
def zEnt : GEntry := ⟨⟨#[]⟩, 0, 0, []⟩
def zPr : GProof := ⟨0, []⟩
def zGapQ : GGap := ⟨0, zEnt, zEnt, zPr, zPr⟩
def noAbs (l : List GEntry) (s : ByteArray) : Bool := !sAreEntries l || (!sLabel s || decide (0 ≤ sFind l s))
def sAbsQ (l : List GEntry) (s : ByteArray) : GGap :=
  let r := sRank l s
  ⟨r, if 0 < r then l.getD (r - 1) zEnt else zEnt, if r < l.length then l.getD r zEnt else zEnt,
    if 0 < r then sProof l (l.getD (r - 1) zEnt).Label else zPr, if r < l.length then sProof l (l.getD r zEnt).Label else zPr⟩
def sGap (l : List GEntry) (s : ByteArray) : GGap := if noAbs l s = true then zGapQ else sAbsQ l s
theorem impl_ProveAbsence_n (l : List GEntry) (s : ByteArray) (h : mEntryS l ≤ 1048576) (hs : s.size ≤ 1048576) (k) : call impl_ProveAbsence [.one (.list 4 (l.map eEntry)), .one (.str s)] k = k (eGap (sGap l s) ++ [.bool (!noAbs l s)]) := call_of (fun k => by
  have hl := (entries_le h).1
  have hm := (entries_le h).2
  have e1 := impl_FindEntry_n l s hl
  have e2 := impl_AreEntries_n l h
  have e3 := impl_IsLabel_n s hs
  have e4 := impl_RankOf_n l s hl
  cases c1 : sAreEntries l
  · simp [impl_ProveAbsence, e2, c1, sGap, noAbs, zGapQ, zEnt, zPr, ints, strs]
  cases c2 : sLabel s
  · simp [impl_ProveAbsence, e2, e3, c1, c2, sGap, noAbs, zGapQ, zEnt, zPr, ints, strs]
  by_cases c3 : 0 ≤ sFind l s
  · simp [impl_ProveAbsence, e1, e2, e3, c1, c2, c3, sGap, noAbs, zGapQ, zEnt, zPr, ints, strs]
  have hn : noAbs l s = false := by simp [noAbs, c1, c2, c3]
  have hr := sRank_le l s
  rw [hn, sGap, hn, sAbsQ]
  generalize sRank l s = r at *
  have w : IntKind.i64.wrap ((r : Int) - 1) = ((r - 1 : Nat) : Int) ∨ r = 0 := by
    by_cases h0 : r = 0
    · exact .inr h0
    · left; rw [wr_eq (by omega) (by omega)]; omega
  have hg : ∀ i, i < l.length → ∃ x, l[i]? = some x ∧ l.getD i zEnt = x ∧ mEntry x ≤ 1048576 := fun i hi => ⟨l[i], List.getElem?_eq_getElem hi, by simp [List.getD, List.getElem?_eq_getElem hi], hm _ (List.getElem_mem hi)⟩
  by_cases h0 : 0 < r
  · obtain ⟨x, hx1, hx2, hx3⟩ := hg (r - 1) (by omega)
    have w' := w.resolve_right (by omega)
    have ex := impl_copyEntry_n x hx3
    have px := impl_ProveEntry_n l x.Label h
    by_cases h1 : r < l.length
    · obtain ⟨y, hy1, hy2, hy3⟩ := hg r h1
      have ey := impl_copyEntry_n y hy3
      have py := impl_ProveEntry_n l y.Label h
      rw [hx2, hy2]
      simp [-getElem?_pos, impl_ProveAbsence, e1, e2, e3, e4, c1, c2, c3, h0, h1, w', hx1, hy1, ex, ey, px, py]
    · rw [hx2]
      simp [-getElem?_pos, impl_ProveAbsence, e1, e2, e3, e4, c1, c2, c3, h0, h1, w', hx1, ex, px, zEnt, zPr, ints, strs]
  · by_cases h1 : r < l.length
    · obtain ⟨y, hy1, hy2, hy3⟩ := hg r h1
      have ey := impl_copyEntry_n y hy3
      have py := impl_ProveEntry_n l y.Label h
      rw [hy2]
      simp [-getElem?_pos, impl_ProveAbsence, e1, e2, e3, e4, c1, c2, c3, h0, h1, hy1, ey, py, zEnt, zPr, ints, strs]
    · simp [-getElem?_pos, impl_ProveAbsence, e1, e2, e3, e4, c1, c2, c3, h0, h1, zEnt, zPr, ints, strs]) k
theorem spec_ProveAbsence_n (l : List GEntry) (s : ByteArray) (h : mEntryS l ≤ 1048576) (hs : s.size ≤ 1048576) (k) : call spec_ProveAbsence [.one (.list 4 (l.map eEntry)), .one (.str s)] k = k (eGap (sGap l s) ++ [.bool (!noAbs l s)]) := call_of (fun k => by
  have hl := (entries_le h).1
  have hm := (entries_le h).2
  have e1 := spec_FindEntry_n l s hl
  have e2 := spec_AreEntries_n l h
  have e3 := spec_IsLabel_n s hs
  have e4 := spec_RankOf_n l s hl
  cases c1 : sAreEntries l
  · simp [spec_ProveAbsence, e2, c1, sGap, noAbs, zGapQ, zEnt, zPr, ints, strs]
  cases c2 : sLabel s
  · simp [spec_ProveAbsence, e2, e3, c1, c2, sGap, noAbs, zGapQ, zEnt, zPr, ints, strs]
  by_cases c3 : 0 ≤ sFind l s
  · simp [spec_ProveAbsence, e1, e2, e3, c1, c2, c3, sGap, noAbs, zGapQ, zEnt, zPr, ints, strs]
  have hn : noAbs l s = false := by simp [noAbs, c1, c2, c3]
  have hr := sRank_le l s
  rw [hn, sGap, hn, sAbsQ]
  generalize sRank l s = r at *
  have w : IntKind.i64.wrap ((r : Int) - 1) = ((r - 1 : Nat) : Int) ∨ r = 0 := by
    by_cases h0 : r = 0
    · exact .inr h0
    · left; rw [wr_eq (by omega) (by omega)]; omega
  have hg : ∀ i, i < l.length → ∃ x, l[i]? = some x ∧ l.getD i zEnt = x ∧ mEntry x ≤ 1048576 := fun i hi => ⟨l[i], List.getElem?_eq_getElem hi, by simp [List.getD, List.getElem?_eq_getElem hi], hm _ (List.getElem_mem hi)⟩
  by_cases h0 : 0 < r
  · obtain ⟨x, hx1, hx2, hx3⟩ := hg (r - 1) (by omega)
    have w' := w.resolve_right (by omega)
    have ex := spec_l8Copy_n x hx3
    have px := spec_ProveEntry_n l x.Label h
    by_cases h1 : r < l.length
    · obtain ⟨y, hy1, hy2, hy3⟩ := hg r h1
      have ey := spec_l8Copy_n y hy3
      have py := spec_ProveEntry_n l y.Label h
      rw [hx2, hy2]
      simp [-getElem?_pos, spec_ProveAbsence, e1, e2, e3, e4, c1, c2, c3, h0, h1, w', hx1, hy1, ex, ey, px, py]
    · rw [hx2]
      simp [-getElem?_pos, spec_ProveAbsence, e1, e2, e3, e4, c1, c2, c3, h0, h1, w', hx1, ex, px, zEnt, zPr, ints, strs]
  · by_cases h1 : r < l.length
    · obtain ⟨y, hy1, hy2, hy3⟩ := hg r h1
      have ey := spec_l8Copy_n y hy3
      have py := spec_ProveEntry_n l y.Label h
      rw [hy2]
      simp [-getElem?_pos, spec_ProveAbsence, e1, e2, e3, e4, c1, c2, c3, h0, h1, hy1, ey, py, zEnt, zPr, ints, strs]
    · simp [-getElem?_pos, spec_ProveAbsence, e1, e2, e3, e4, c1, c2, c3, h0, h1, zEnt, zPr, ints, strs]) k
end Go.Ev
set_option linter.unusedVariables false
set_option linter.unusedSimpArgs false
set_option maxRecDepth 8000
set_option maxHeartbeats 1000000
namespace Go.Ev
open Go.Proofs
def zAnsQ : GAnswer := ⟨[], false, zEnt, zPr, zGapQ⟩
def sAnsQ (z : GZone) (s : ByteArray) : GAnswer :=
  if (sIsZone z && sLabel s) = true then (if 0 ≤ sFind z.Entries s then ⟨z.Chain, true, z.Entries.getD (sFind z.Entries s).toNat zEnt, sProof z.Entries s, zGapQ⟩ else ⟨z.Chain, false, zEnt, zPr, sGap z.Entries s⟩) else zAnsQ
theorem impl_AnswerFor_n (z : GZone) (s : ByteArray) (h : mZone z ≤ 1048576) (hs : s.size ≤ 1048576) (k) : call impl_AnswerFor [.agg (eZone z), .one (.str s)] k = k (eAnswer (sAnsQ z s)) := call_of (fun k => by
  obtain ⟨hc, he⟩ := zone_le h
  have hl := (entries_le he).1
  have hm := (entries_le he).2
  have e1 := impl_IsZone_n z h
  have e2 := impl_IsLabel_n s hs
  have e3 := impl_copyChain_n z.Chain hc
  have e4 := impl_FindEntry_n z.Entries s hl
  have e5 := impl_ProveEntry_n z.Entries s he
  have e6 := impl_ProveAbsence_n z.Entries s he hs
  cases c1 : sIsZone z
  · simp [impl_AnswerFor, e1, c1, sAnsQ, zAnsQ, eAnswer, zGapQ, zEnt, zPr, ints, strs]
  cases c2 : sLabel s
  · simp [impl_AnswerFor, e1, e2, c1, c2, sAnsQ, zAnsQ, eAnswer, zGapQ, zEnt, zPr, ints, strs]
  by_cases c3 : 0 ≤ sFind z.Entries s
  · rcases sFind_bd z.Entries s with hb | ⟨hb1, hb2⟩
    · omega
    have hi : (sFind z.Entries s).toNat < z.Entries.length := by omega
    have hx : z.Entries[(sFind z.Entries s).toNat]? = some z.Entries[(sFind z.Entries s).toNat] := List.getElem?_eq_getElem hi
    have hd : z.Entries.getD (sFind z.Entries s).toNat zEnt = z.Entries[(sFind z.Entries s).toNat] := by simp [List.getD, hx]
    have hmx := hm _ (List.getElem_mem hi)
    generalize z.Entries[(sFind z.Entries s).toNat] = x at *
    have e7 := impl_copyEntry_n x hmx
    simp [-getElem?_pos, impl_AnswerFor, e1, e2, e3, e4, e5, e7, c1, c2, c3, hx, sAnsQ, hd, eAnswer, zGapQ, zEnt, zPr, ints, strs]
  · simp [impl_AnswerFor, e1, e2, e3, e4, e6, c1, c2, c3, sAnsQ, eAnswer, zEnt, zPr, ints, strs]) k
theorem spec_AnswerFor_n (z : GZone) (s : ByteArray) (h : mZone z ≤ 1048576) (hs : s.size ≤ 1048576) (k) : call spec_AnswerFor [.agg (eZone z), .one (.str s)] k = k (eAnswer (sAnsQ z s)) := call_of (fun k => by
  obtain ⟨hc, he⟩ := zone_le h
  have hl := (entries_le he).1
  have hm := (entries_le he).2
  have e1 := spec_IsZone_n z h
  have e2 := spec_IsLabel_n s hs
  have e3 := spec_l16Copy_n z.Chain hc
  have e4 := spec_FindEntry_n z.Entries s hl
  have e5 := spec_ProveEntry_n z.Entries s he
  have e6 := spec_ProveAbsence_n z.Entries s he hs
  cases c1 : sIsZone z
  · simp [spec_AnswerFor, e1, c1, sAnsQ, zAnsQ, eAnswer, zGapQ, zEnt, zPr, ints, strs]
  cases c2 : sLabel s
  · simp [spec_AnswerFor, e1, e2, c1, c2, sAnsQ, zAnsQ, eAnswer, zGapQ, zEnt, zPr, ints, strs]
  by_cases c3 : 0 ≤ sFind z.Entries s
  · rcases sFind_bd z.Entries s with hb | ⟨hb1, hb2⟩
    · omega
    have hi : (sFind z.Entries s).toNat < z.Entries.length := by omega
    have hx : z.Entries[(sFind z.Entries s).toNat]? = some z.Entries[(sFind z.Entries s).toNat] := List.getElem?_eq_getElem hi
    have hd : z.Entries.getD (sFind z.Entries s).toNat zEnt = z.Entries[(sFind z.Entries s).toNat] := by simp [List.getD, hx]
    have hmx := hm _ (List.getElem_mem hi)
    generalize z.Entries[(sFind z.Entries s).toNat] = x at *
    have e7 := spec_l8Copy_n x hmx
    simp [-getElem?_pos, spec_AnswerFor, e1, e2, e3, e4, e5, e7, c1, c2, c3, hx, sAnsQ, hd, eAnswer, zGapQ, zEnt, zPr, ints, strs]
  · simp [spec_AnswerFor, e1, e2, e3, e4, e6, c1, c2, c3, sAnsQ, eAnswer, zEnt, zPr, ints, strs]) k
/-! ### Servers -/
def servP (zone : Int) (z : GZone) : Bool := (sZoneId z == zone) && decide (0 ≤ zone)
def sServed (s : GServer) (zone : Int) : Int := idx (servP zone) s.Zones
theorem findI_none {α : Type} {p : α → Bool} (h : ∀ x, p x = false) : ∀ (l : List α) (i : Nat), findI p i l = -1
  | [], _ => rfl
  | x :: l, i => by unfold findI; rw [h x]; exact findI_none h l (i + 1)
theorem sServed_bd (s : GServer) (zone : Int) : sServed s zone = -1 ∨ (0 ≤ sServed s zone ∧ sServed s zone < s.Zones.length) := by
  have := findI_bd (servP zone) s.Zones 0
  simpa [sServed, idx] using this
theorem impl_ServedZone_n (s : GServer) (zone : Int) (h : mServer s ≤ 1048576) (k) : call impl_ServedZone [.agg (eServer s), .one (I zone)] k = k [I (sServed s zone)] := call_of (fun k => by
  by_cases c : zone < 0
  · have e : sServed s zone = -1 := findI_none (fun x => by simp [servP, show ¬ 0 ≤ zone by omega]) s.Zones 0
    simp [impl_ServedZone, c, e]
  · obtain ⟨hl, hz⟩ := zoneS_le (show mZoneS s.Zones ≤ 1048576 from h)
    have e : ∀ k, call slices_IndexFunc_Zone_F_impl_ServedZone_1 [.one (.list 2 (s.Zones.map eZone)), .fn 113 [.cells [I zone]]] k = k [I (sServed s zone)] := call_of (fun k => by
      simp [slices_IndexFunc_Zone_F_impl_ServedZone_1]
      refine lp_find (Q := fun i => k [I i]) s.Zones (fun i => [.list 2 (s.Zones.map eZone), I zone, I 0, I s.Zones.length, I i]) (servP zone) rfl (fun i x hx hi K => ?_) fun K => ?_
      · have hm := hz x (List.mem_of_getElem? hx)
        have e1 : ∀ k, call impl_ServedZone_1 [.agg (eZone x), .ro (.cells [I zone])] k = k [.bool (servP zone x)] := call_of (fun k => by
          simp [impl_ServedZone_1, impl_ZoneId_n x hm, servP, show 0 ≤ zone by omega])
        cases hq : servP zone x <;> simp [-getElem?_pos, slices_IndexFunc_Zone_F_impl_ServedZone_1_r0, hx, hi, e1, hq, wr_succ (show i < 1000000000000000000 by omega)]
      · simp [slices_IndexFunc_Zone_F_impl_ServedZone_1_r0])
    simp [impl_ServedZone, c, e]) k
theorem spec_ServedZone_n (s : GServer) (zone : Int) (h : mServer s ≤ 1048576) (k) : call spec_ServedZone [.agg (eServer s), .one (I zone)] k = k [I (sServed s zone)] := call_of (fun k => by
  obtain ⟨hl, hz⟩ := zoneS_le (show mZoneS s.Zones ≤ 1048576 from h)
  simp only [spec_ServedZone, un, cur0]
  refine lp_find (Q := fun i => k [I i]) s.Zones (fun i => [I zone, I 0, I i, .list 2 (s.Zones.map eZone), I s.Lie]) (servP zone) rfl (fun i x hx hi K => ?_) fun K => ?_
  · have hm := hz x (List.mem_of_getElem? hx)
    by_cases c1 : sZoneId x = zone <;> by_cases c2 : 0 ≤ zone <;> simp [-getElem?_pos, spec_ServedZone_r0, hx, hi, spec_ZoneId_n x hm, c1, c2, servP, wr_succ (show i < 1000000000000000000 by omega)]
  · simp [spec_ServedZone_r0]) k
def sAsk (s : GServer) (zone : Int) (label : ByteArray) : GAnswer :=
  if sServed s zone < 0 ∨ s.Lie = 4 then zAnsQ else
  let a := sAnsQ (s.Zones.getD (sServed s zone).toNat ⟨[], []⟩) label
  if s.Lie = 1 then { a with Entry := { a.Entry with Value := IntKind.i64.wrap (a.Entry.Value + 1) } }
  else if s.Lie = 2 then { a with Chain := a.Chain.take (a.Chain.length - 1) }
  else if s.Lie = 3 then { zAnsQ with Chain := a.Chain } else a
theorem impl_Ask_n (s : GServer) (zone : Int) (label : ByteArray) (h : mServer s ≤ 1048576) (hs : label.size ≤ 1048576) (k) : call impl_Ask [.agg (eServer s), .one (I zone), .one (.str label)] k = k (eAnswer (sAsk s zone label)) := call_of (fun k => by
  obtain ⟨hl, hz⟩ := zoneS_le (show mZoneS s.Zones ≤ 1048576 from h)
  have e1 := impl_ServedZone_n s zone h
  by_cases c1 : sServed s zone < 0
  · simp [impl_Ask, e1, c1, sAsk, zAnsQ, eAnswer, zGapQ, zEnt, zPr, ints, strs]
  by_cases c2 : s.Lie = 4
  · have f := e1
    simp only [eServer, c2] at f
    simp [impl_Ask, e1, f, c1, c2, sAsk, zAnsQ, eAnswer, zGapQ, zEnt, zPr, ints, strs]
  rcases sServed_bd s zone with hb | ⟨hb1, hb2⟩
  · omega
  have hi : (sServed s zone).toNat < s.Zones.length := by omega
  have hx : s.Zones[(sServed s zone).toNat]? = some s.Zones[(sServed s zone).toNat] := List.getElem?_eq_getElem hi
  have hd : s.Zones.getD (sServed s zone).toNat ⟨[], []⟩ = s.Zones[(sServed s zone).toNat] := by simp [List.getD, hx]
  have hm := hz _ (List.getElem_mem hi)
  unfold sAsk
  rw [hd]
  generalize s.Zones[(sServed s zone).toNat] = z at *
  have e2 := impl_AnswerFor_n z label hm hs
  have hlen : (sAnsQ z label).Chain.length ≤ 1048576 := by
    have h1 : z.Chain.length ≤ 1048576 := (chain_le7 (zone_le hm).1).1
    unfold sAnsQ; split
    · split <;> exact h1
    · exact Nat.zero_le _
  generalize sAnsQ z label = a at *
  by_cases c3 : s.Lie = 1
  · have f := e1
    simp only [eServer, c3] at f
    simp [-getElem?_pos, impl_Ask, e1, f, c1, c2, hx, show 0 ≤ sServed s zone by omega, e2, c3, eAnswer]
  by_cases c4 : s.Lie = 2
  · have f := e1
    simp only [eServer, c4] at f
    have w : IntKind.i64.wrap ((a.Chain.length : Int) - 1) = (a.Chain.length : Int) - 1 := wr_eq (by omega) (by omega)
    by_cases c6 : (1 : Int) < (a.Chain.length : Int)
    · have c7 : ((a.Chain.length : Int) - 1).toNat = a.Chain.length - 1 := by omega
      simp [-getElem?_pos, impl_Ask, e1, f, c1, c2, hx, show 0 ≤ sServed s zone by omega, e2, c3, c4, w, eAnswer, maxP, c6, natP, c7, cutP, show (0 : Int) ≤ (a.Chain.length : Int) - 1 by omega, show (1 : Int) ≤ (a.Chain.length : Int) by omega]
      intro _; omega
    · have c7 : a.Chain.length - 1 = 0 := by omega
      simp [-getElem?_pos, impl_Ask, e1, f, c1, c2, hx, show 0 ≤ sServed s zone by omega, e2, c3, c4, w, eAnswer, maxP, c6, natP, c7, cutP]
  by_cases c5 : s.Lie = 3
  · have f := e1
    simp only [eServer, c5] at f
    simp [-getElem?_pos, impl_Ask, e1, f, c1, c2, hx, show 0 ≤ sServed s zone by omega, e2, c3, c4, c5, zAnsQ, eAnswer, zGapQ, zEnt, zPr, ints, strs]
  · simp [-getElem?_pos, impl_Ask, e1, c1, c2, hx, show 0 ≤ sServed s zone by omega, e2, c3, c4, c5]) k
theorem spec_Ask_n (s : GServer) (zone : Int) (label : ByteArray) (h : mServer s ≤ 1048576) (hs : label.size ≤ 1048576) (k) : call spec_Ask [.agg (eServer s), .one (I zone), .one (.str label)] k = k (eAnswer (sAsk s zone label)) := call_of (fun k => by
  obtain ⟨hl, hz⟩ := zoneS_le (show mZoneS s.Zones ≤ 1048576 from h)
  have e1 := spec_ServedZone_n s zone h
  by_cases c1 : sServed s zone < 0
  · simp [spec_Ask, e1, c1, sAsk, zAnsQ, eAnswer, zGapQ, zEnt, zPr, ints, strs]
  by_cases c2 : s.Lie = 4
  · have f := e1
    simp only [eServer, c2] at f
    simp [spec_Ask, e1, f, c1, c2, sAsk, zAnsQ, eAnswer, zGapQ, zEnt, zPr, ints, strs]
  rcases sServed_bd s zone with hb | ⟨hb1, hb2⟩
  · omega
  have hi : (sServed s zone).toNat < s.Zones.length := by omega
  have hx : s.Zones[(sServed s zone).toNat]? = some s.Zones[(sServed s zone).toNat] := List.getElem?_eq_getElem hi
  have hd : s.Zones.getD (sServed s zone).toNat ⟨[], []⟩ = s.Zones[(sServed s zone).toNat] := by simp [List.getD, hx]
  have hm := hz _ (List.getElem_mem hi)
  unfold sAsk
  rw [hd]
  generalize s.Zones[(sServed s zone).toNat] = z at *
  have e2 := spec_AnswerFor_n z label hm hs
  have hlen : (sAnsQ z label).Chain.length ≤ 1048576 := by
    have h1 : z.Chain.length ≤ 1048576 := (chain_le7 (zone_le hm).1).1
    unfold sAnsQ; split
    · split <;> exact h1
    · exact Nat.zero_le _
  generalize sAnsQ z label = a at *
  by_cases c3 : s.Lie = 1
  · have f := e1
    simp only [eServer, c3] at f
    simp [-getElem?_pos, spec_Ask, e1, f, c1, c2, hx, show 0 ≤ sServed s zone by omega, e2, c3, eAnswer]
  by_cases c4 : s.Lie = 2
  · have f := e1
    simp only [eServer, c4] at f
    have w : IntKind.i64.wrap ((a.Chain.length : Int) - 1) = (a.Chain.length : Int) - 1 := wr_eq (by omega) (by omega)
    by_cases c6 : 0 < a.Chain.length
    · have c7 : ((a.Chain.length : Int) - 1).toNat = a.Chain.length - 1 := by omega
      simp [-getElem?_pos, spec_Ask, e1, f, c1, c2, hx, show 0 ≤ sServed s zone by omega, e2, c3, c4, w, eAnswer, c6, natP, c7, cutP, show (1 : Int) ≤ (a.Chain.length : Int) by omega]
      intro _; omega
    · have c7 : a.Chain = [] := List.eq_nil_of_length_eq_zero (by omega)
      simp [-getElem?_pos, spec_Ask, e1, f, c1, c2, hx, show 0 ≤ sServed s zone by omega, e2, c3, c4, w, eAnswer, c7]
  by_cases c5 : s.Lie = 3
  · have f := e1
    simp only [eServer, c5] at f
    simp [-getElem?_pos, spec_Ask, e1, f, c1, c2, hx, show 0 ≤ sServed s zone by omega, e2, c3, c4, c5, zAnsQ, eAnswer, zGapQ, zEnt, zPr, ints, strs]
  · simp [-getElem?_pos, spec_Ask, e1, c1, c2, hx, show 0 ≤ sServed s zone by omega, e2, c3, c4, c5]) k
/-! ### A bucket's answers -/
theorem impl_BucketOf_n (s : ByteArray) (hl : s.size < 1000000000) (k) : call impl_BucketOf [.one (.str s)] k = k [I (sBucketOf s)] := call_of (fun k => by
  simp [impl_BucketOf, impl_LabelInts_n s hl, impl_Hash_n _ (show (sLabelInts s).length < _ by rw [sLabelInts_len]; omega), sBucketOf]) k
theorem spec_BucketOf_n (s : ByteArray) (hl : s.size < 1000000000) (k) : call spec_BucketOf [.one (.str s)] k = k [I (sBucketOf s)] := call_of (fun k => by
  simp [spec_BucketOf, spec_LabelInts_n s hl, spec_Hash_n _ (show (sLabelInts s).length < _ by rw [sLabelInts_len]; omega), sBucketOf]) k
def buckP (b : Int) (e : GEntry) : Bool := decide (sBucketOf e.Label = b)
def sAskB (s : GServer) (zone b : Int) : List GAnswer :=
  if sServed s zone < 0 then [] else ((s.Zones.getD (sServed s zone).toNat ⟨[], []⟩).Entries.filter (buckP b)).map fun e => sAsk s zone e.Label
theorem take_filter {α : Type} (p : α → Bool) {l : List α} {i : Nat} {x : α} (hx : l[i]? = some x) : (l.take (i + 1)).filter p = (l.take i).filter p ++ if p x = true then [x] else [] := by
  rw [take_snoc hx, List.filter_append]
  cases h : p x <;> simp [h]
theorem impl_AskBucket_n (s : GServer) (zone b : Int) (h : mServer s ≤ 1048576) (k) : call impl_AskBucket [.agg (eServer s), .agg [I zone, I b]] k = k [.list 21 ((sAskB s zone b).map eAnswer)] := call_of (fun k => by
  obtain ⟨hl, hz⟩ := zoneS_le (show mZoneS s.Zones ≤ 1048576 from h)
  have e1 := impl_ServedZone_n s zone h
  by_cases c1 : sServed s zone < 0
  · simp [impl_AskBucket, e1, c1, sAskB]
  rcases sServed_bd s zone with hb | ⟨hb1, hb2⟩
  · omega
  have hi : (sServed s zone).toNat < s.Zones.length := by omega
  have hx : s.Zones[(sServed s zone).toNat]? = some s.Zones[(sServed s zone).toNat] := List.getElem?_eq_getElem hi
  have hd : s.Zones.getD (sServed s zone).toNat ⟨[], []⟩ = s.Zones[(sServed s zone).toNat] := by simp [List.getD, hx]
  have hm := hz _ (List.getElem_mem hi)
  unfold sAskB
  rw [hd, if_neg c1]
  generalize s.Zones[(sServed s zone).toNat] = z at *
  have he := (zone_le hm).2
  have hel := (entries_le he).1
  have hem := (entries_le he).2
  simp [-getElem?_pos, impl_AskBucket, e1, c1, hx, show 0 ≤ sServed s zone by omega]
  refine lp_list z.Entries (fun i => [.list 4 (z.Entries.map eEntry), I z.Entries.length, I i, I zone, I b, .list 2 (s.Zones.map eZone), I s.Lie, .list 21 [], .list 21 ((((z.Entries.take i).filter (buckP b)).map fun e => sAsk s zone e.Label).map eAnswer)]) (by simp) (fun i x hx hi K => ?_) fun K => ?_
  · have hmx := hem x (List.mem_of_getElem? hx)
    have hsz : x.Label.size ≤ 1048576 := by unfold mEntry at hmx; omega
    have e2 := impl_BucketOf_n x.Label (by omega)
    have e3 := impl_Ask_n s zone x.Label h hsz
    have t := take_filter (buckP b) hx
    have hn : ((z.Entries.take i).filter (buckP b)).length ≤ i := Nat.le_trans (List.length_filter_le _ _) (by simp; omega)
    generalize (z.Entries.take i).filter (buckP b) = acc at *
    by_cases hq : sBucketOf x.Label = b
    · have hq' : buckP b x = true := by simp [buckP, hq]
      rw [if_pos hq'] at t
      have hbd : ((acc.map fun e => sAsk s zone e.Label).map eAnswer).length + 1 < 1073741824 := by simp; omega
      simp only [t, List.map_append, List.map_cons, List.map_nil]
      generalize (acc.map fun e => sAsk s zone e.Label).map eAnswer = A at *
      generalize sAsk s zone x.Label = y at *
      simp [-getElem?_pos, impl_AskBucket_r0, hx, hi, e2, e3, hq, wr_succ (show i < 1000000000000000000 by omega), hbd, eAnswer]
    · have hq' : buckP b x = false := by simp [buckP, hq]
      rw [hq', if_neg (by simp), List.append_nil] at t
      simp only [t]
      simp [-getElem?_pos, impl_AskBucket_r0, hx, hi, e2, hq, wr_succ (show i < 1000000000000000000 by omega)]
  · simp [impl_AskBucket_r0]) k
theorem spec_AskBucket_n (s : GServer) (zone b : Int) (h : mServer s ≤ 1048576) (k) : call spec_AskBucket [.agg (eServer s), .agg [I zone, I b]] k = k [.list 21 ((sAskB s zone b).map eAnswer)] := call_of (fun k => by
  obtain ⟨hl, hz⟩ := zoneS_le (show mZoneS s.Zones ≤ 1048576 from h)
  have e1 := spec_ServedZone_n s zone h
  by_cases c1 : sServed s zone < 0
  · simp [spec_AskBucket, e1, c1, sAskB]
  rcases sServed_bd s zone with hb | ⟨hb1, hb2⟩
  · omega
  have hi : (sServed s zone).toNat < s.Zones.length := by omega
  have hx : s.Zones[(sServed s zone).toNat]? = some s.Zones[(sServed s zone).toNat] := List.getElem?_eq_getElem hi
  have hd : s.Zones.getD (sServed s zone).toNat ⟨[], []⟩ = s.Zones[(sServed s zone).toNat] := by simp [List.getD, hx]
  have hm := hz _ (List.getElem_mem hi)
  unfold sAskB
  rw [hd, if_neg c1]
  generalize s.Zones[(sServed s zone).toNat] = z at *
  have he := (zone_le hm).2
  have hel := (entries_le he).1
  have hem := (entries_le he).2
  simp [-getElem?_pos, spec_AskBucket, e1, c1, hx, show 0 ≤ sServed s zone by omega]
  refine lp_list z.Entries (fun i => [.list 4 (z.Entries.map eEntry), I i, I zone, I b, .list 2 (s.Zones.map eZone), I s.Lie, .list 21 [], .list 21 ((((z.Entries.take i).filter (buckP b)).map fun e => sAsk s zone e.Label).map eAnswer)]) (by simp) (fun i x hx hi K => ?_) fun K => ?_
  · have hmx := hem x (List.mem_of_getElem? hx)
    have hsz : x.Label.size ≤ 1048576 := by unfold mEntry at hmx; omega
    have e2 := spec_BucketOf_n x.Label (by omega)
    have e3 := spec_Ask_n s zone x.Label h hsz
    have t := take_filter (buckP b) hx
    have hn : ((z.Entries.take i).filter (buckP b)).length ≤ i := Nat.le_trans (List.length_filter_le _ _) (by simp; omega)
    generalize (z.Entries.take i).filter (buckP b) = acc at *
    by_cases hq : sBucketOf x.Label = b
    · have hq' : buckP b x = true := by simp [buckP, hq]
      rw [if_pos hq'] at t
      have hbd : ((acc.map fun e => sAsk s zone e.Label).map eAnswer).length + 1 < 1073741824 := by simp; omega
      simp only [t, List.map_append, List.map_cons, List.map_nil]
      generalize (acc.map fun e => sAsk s zone e.Label).map eAnswer = A at *
      generalize sAsk s zone x.Label = y at *
      simp [-getElem?_pos, spec_AskBucket_r0, hx, hi, e2, e3, hq, wr_succ (show i < 1000000000000000000 by omega), hbd, eAnswer]
    · have hq' : buckP b x = false := by simp [buckP, hq]
      rw [hq', if_neg (by simp), List.append_nil] at t
      simp only [t]
      simp [-getElem?_pos, spec_AskBucket_r0, hx, hi, e2, hq, wr_succ (show i < 1000000000000000000 by omega)]
  · simp [spec_AskBucket_r0]) k
end Go.Ev
set_option linter.unusedVariables false
set_option linter.unusedSimpArgs false
set_option maxRecDepth 8000
set_option maxHeartbeats 1000000
namespace Go.Ev
open Go.Proofs
theorem callS {m : PV → Int → Option (PV × Int)} {p p' : PV} {k k' : Int} (h : m p k = some (p', k')) (hk : rg64 k = true) (K) : call (gS m) [.one p, .one (I k)] K = K [p', I k'] := call_of (fun K => by
  simp only [gS, hk, true_and, h]) K
theorem callT {m : List PV → Int → Option (List PV × Int)} {ps ps' : List PV} {k k' : Int} (h : m ps k = some (ps', k')) (hk : rg64 k = true) (K) : call (gT m) [.agg ps, .one (I k)] K = K (ps' ++ [I k']) := call_of (fun K => by
  simp only [gT, hk, true_and, h]) K
/-! ### The laws' comparison at greater sizes -/
theorem laws_eqIntS_b (l : List Int) (h : l.length ≤ 16777216) (k) : call laws_eqIntS [.one (ints l), .one (ints l)] k = k [.bool true] := call_of (fun k => by
  have hm := h
  simp [laws_eqIntS]
  refine lp_eqS l rI 1 (.bool false) rfl (fun i x hx hi K => ?_) fun K => ?_
  · simp [-getElem?_pos, laws_eqIntS_r0, hx, hi, wr_succ (show i < 1000000000000000000 by omega)]
  · simp [laws_eqIntS_r0]) k
theorem laws_eqStringS_b (l : List ByteArray) (h : (l.length + sumN ByteArray.size l) ≤ 16777216) (k) : call laws_eqStringS [.one (strs l), .one (strs l)] k = k [.bool true] := call_of (fun k => by
  have hm := h
  simp [laws_eqStringS]
  refine lp_eqS l rS 1 (.bool false) rfl (fun i x hx hi K => ?_) fun K => ?_
  · simp [-getElem?_pos, laws_eqStringS_r0, hx, hi, wr_succ (show i < 1000000000000000000 by omega)]
  · simp [laws_eqStringS_r0]) k
theorem laws_eqKeys_b (a : GKeys) (h : mKeys a ≤ 16777216) (k) : call laws_eqKeys [.agg (eKeys a), .agg (eKeys a)] k = k [.bool true] := call_of (fun k => by
  unfold mKeys at h
  simp [laws_eqKeys, laws_eqIntS_b a.Lst (by omega)]) k
theorem laws_eqEntry_b (a : GEntry) (h : mEntry a ≤ 16777216) (k) : call laws_eqEntry [.agg (eEntry a), .agg (eEntry a)] k = k [.bool true] := call_of (fun k => by
  unfold mEntry at h
  simp [laws_eqEntry, laws_eqStringS_b a.Path (by omega)]) k
theorem laws_eqProof_b (a : GProof) (h : mProof a ≤ 16777216) (k) : call laws_eqProof [.agg (eProof a), .agg (eProof a)] k = k [.bool true] := call_of (fun k => by
  unfold mProof at h
  simp [laws_eqProof, laws_eqIntS_b a.Path (by omega)]) k
theorem laws_eqGap_b (a : GGap) (h : mGap a ≤ 16777216) (k) : call laws_eqGap [.agg (eGap a), .agg (eGap a)] k = k [.bool true] := call_of (fun k => by
  unfold mGap at h
  simp [laws_eqGap, laws_eqEntry_b a.Before (by omega), laws_eqEntry_b a.After (by omega), laws_eqProof_b a.Left (by omega), laws_eqProof_b a.Right (by omega)]) k
theorem laws_eqHead_b (a : GHead) (h : mHead a ≤ 16777216) (k) : call laws_eqHead [.agg (eHead a), .agg (eHead a)] k = k [.bool true] := call_of (fun k => by
  unfold mHead at h
  simp [laws_eqHead, laws_eqKeys_b a.Keys (by omega), laws_eqKeys_b a.Heirs (by omega), laws_eqKeys_b a.Judge (by omega)]) k
theorem laws_eqSigS_b (l : List GSig) (h : l.length ≤ 16777216) (k) : call laws_eqSigS [.one (.list 2 (l.map eSig)), .one (.list 2 (l.map eSig))] k = k [.bool true] := call_of (fun k => by
  have hm := h
  simp [laws_eqSigS]
  refine lp_eqS l eSig 2 (.bool false) rfl (fun i x hx hi K => ?_) fun K => ?_
  · simp [-getElem?_pos, laws_eqSigS_r0, hx, hi, laws_eqSig_n x, wr_succ (show i < 1000000000000000000 by omega)]
  · simp [laws_eqSigS_r0]) k
theorem laws_eqSigned_b (a : GSigned) (h : mSigned a ≤ 16777216) (k) : call laws_eqSigned [.agg (eSigned a), .agg (eSigned a)] k = k [.bool true] := call_of (fun k => by
  unfold mSigned at h
  simp [laws_eqSigned, laws_eqHead_b a.Head (by omega), laws_eqSigS_b a.Sigs (by omega)]) k
theorem laws_eqSignedS_b (l : List GSigned) (h : mSignedS l ≤ 16777216) (k) : call laws_eqSignedS [.one (.list 17 (l.map eSigned)), .one (.list 17 (l.map eSigned))] k = k [.bool true] := call_of (fun k => by
  have hm := h
  unfold mSignedS at hm
  simp [laws_eqSignedS]
  refine lp_eqS l eSigned 17 (.bool false) rfl (fun i x hx hi K => ?_) fun K => ?_
  · have hs : mSigned x ≤ sumN mSigned l := sumN_mem (s := mSigned) (List.mem_of_getElem? hx)
    simp [-getElem?_pos, laws_eqSignedS_r0, hx, hi, laws_eqSigned_b x (by omega), wr_succ (show i < 1000000000000000000 by omega)]
  · simp [laws_eqSignedS_r0]) k
theorem laws_eqAnswer_b (a : GAnswer) (h : mAnswer a ≤ 16777216) (k) : call laws_eqAnswer [.agg (eAnswer a), .agg (eAnswer a)] k = k [.bool true] := call_of (fun k => by
  unfold mAnswer at h
  simp [laws_eqAnswer, laws_eqSignedS_b a.Chain (by omega), laws_eqEntry_b a.Entry (by omega), laws_eqProof_b a.Proof (by omega), laws_eqGap_b a.Gap (by omega)]) k
theorem laws_eqAnswerS_b (l : List GAnswer) (hl : l.length ≤ 1048576) (h : ∀ x ∈ l, mAnswer x ≤ 16777216) (k) : call laws_eqAnswerS [.one (.list 21 (l.map eAnswer)), .one (.list 21 (l.map eAnswer))] k = k [.bool true] := call_of (fun k => by
  simp [laws_eqAnswerS]
  refine lp_eqS l eAnswer 21 (.bool false) rfl (fun i x hx hi K => ?_) fun K => ?_
  · simp [-getElem?_pos, laws_eqAnswerS_r0, hx, hi, laws_eqAnswer_b x (h x (List.mem_of_getElem? hx)), wr_succ (show i < 1000000000000000000 by omega)]
  · simp [laws_eqAnswerS_r0]) k
theorem sumN_all {α : Type} {s : α → Nat} {B : Nat} : ∀ {l : List α}, (∀ x ∈ l, s x ≤ B) → sumN s l ≤ l.length * B
  | [], _ => by simp [sumN]
  | x :: l, h => by
    have h1 := h x (by simp)
    have h2 := sumN_all (l := l) fun y hy => h y (by simp [hy])
    simp only [sumN, List.length_cons, Nat.succ_mul]
    omega
theorem mEnt0 : mEntry zEnt = 0 := rfl
theorem sProof_le (l : List GEntry) (s : ByteArray) : mProof (sProof l s) ≤ l.length := by
  unfold sProof mProof
  split
  · exact Nat.zero_le _
  · have := sPath_len (l.map sLeaf) (sFind l s)
    simpa using this
theorem getD_le {l : List GEntry} (hm : ∀ x ∈ l, mEntry x ≤ 1048576) (i : Nat) : mEntry (l.getD i zEnt) ≤ 1048576 := by
  rw [List.getD_eq_getElem?_getD]
  cases h : l[i]? with
  | none => exact Nat.zero_le _
  | some x => exact hm x (List.mem_of_getElem? h)
theorem sGap_le {l : List GEntry} (hl : l.length ≤ 1048576) (hm : ∀ x ∈ l, mEntry x ≤ 1048576) (s : ByteArray) : mGap (sGap l s) ≤ 4194304 := by
  unfold sGap
  split
  · exact Nat.zero_le _
  · simp only [sAbsQ, mGap]
    have z1 : mProof zPr = 0 := rfl
    have z2 := mEnt0
    have a1 : mEntry (if 0 < sRank l s then l.getD (sRank l s - 1) zEnt else zEnt) ≤ 1048576 := by
      split
      · exact getD_le hm _
      · omega
    have a2 : mEntry (if sRank l s < l.length then l.getD (sRank l s) zEnt else zEnt) ≤ 1048576 := by
      split
      · exact getD_le hm _
      · omega
    have a3 : mProof (if 0 < sRank l s then sProof l (l.getD (sRank l s - 1) zEnt).Label else zPr) ≤ 1048576 := by
      split
      · exact Nat.le_trans (sProof_le _ _) hl
      · omega
    have a4 : mProof (if sRank l s < l.length then sProof l (l.getD (sRank l s) zEnt).Label else zPr) ≤ 1048576 := by
      split
      · exact Nat.le_trans (sProof_le _ _) hl
      · omega
    omega
theorem sAns_le {z : GZone} (h : mZone z ≤ 1048576) (s : ByteArray) : mSignedS (sAnsQ z s).Chain ≤ 1048576 ∧ mEntry (sAnsQ z s).Entry ≤ 1048576 ∧ mProof (sAnsQ z s).Proof ≤ 1048576 ∧ mGap (sAnsQ z s).Gap ≤ 4194304 := by
  obtain ⟨hc, he⟩ := zone_le h
  have hl := (entries_le he).1
  have hm := (entries_le he).2
  unfold sAnsQ
  split
  · split
    · exact ⟨hc, getD_le hm _, Nat.le_trans (sProof_le _ _) hl, Nat.zero_le _⟩
    · exact ⟨hc, Nat.zero_le _, Nat.zero_le _, sGap_le hl hm s⟩
  · exact ⟨Nat.zero_le _, Nat.zero_le _, Nat.zero_le _, Nat.zero_le _⟩
theorem mz0 : mAnswer zAnsQ = 0 := rfl
theorem sAsk_le {s : GServer} (h : mServer s ≤ 1048576) (zone : Int) (label : ByteArray) : mAnswer (sAsk s zone label) ≤ 16777216 := by
  obtain ⟨hl, hz⟩ := zoneS_le (show mZoneS s.Zones ≤ 1048576 from h)
  unfold sAsk
  split
  · rw [mz0]; omega
  · have hm : mZone (s.Zones.getD (sServed s zone).toNat ⟨[], []⟩) ≤ 1048576 := by
      rw [List.getD_eq_getElem?_getD]
      cases h : s.Zones[(sServed s zone).toNat]? with
      | none => exact Nat.zero_le _
      | some x => exact hz x (List.mem_of_getElem? h)
    obtain ⟨b1, b2, b3, b4⟩ := sAns_le hm label
    generalize sAnsQ (s.Zones.getD (sServed s zone).toNat ⟨[], []⟩) label = a at *
    have hA : mAnswer a ≤ 16777216 := by unfold mAnswer; omega
    dsimp only
    split
    · have : mAnswer { a with Entry := { a.Entry with Value := IntKind.i64.wrap (a.Entry.Value + 1) } } = mAnswer a := rfl
      rw [this]; exact hA
    · split
      · have h1 := sumN_take_le mSigned a.Chain (a.Chain.length - 1)
        have h2 : mSignedS (a.Chain.take (a.Chain.length - 1)) ≤ mSignedS a.Chain := by
          show (a.Chain.take (a.Chain.length - 1)).length + sumN mSigned (a.Chain.take (a.Chain.length - 1)) ≤ a.Chain.length + sumN mSigned a.Chain
          rw [List.length_take]; omega
        show mSignedS (a.Chain.take (a.Chain.length - 1)) + (mEntry a.Entry + (mProof a.Proof + mGap a.Gap)) ≤ 16777216
        omega
      · split
        · show mSignedS a.Chain + (mEntry zEnt + (mProof zPr + mGap zGapQ)) ≤ 16777216
          have : mEntry zEnt + (mProof zPr + mGap zGapQ) = 0 := rfl
          omega
        · exact hA
theorem sAskB_le {s : GServer} (h : mServer s ≤ 1048576) (zone b : Int) : (sAskB s zone b).length ≤ 1048576 ∧ ∀ x ∈ sAskB s zone b, mAnswer x ≤ 16777216 := by
  obtain ⟨hl, hz⟩ := zoneS_le (show mZoneS s.Zones ≤ 1048576 from h)
  unfold sAskB
  split
  · simp
  · have hm : mZone (s.Zones.getD (sServed s zone).toNat ⟨[], []⟩) ≤ 1048576 := by
      rw [List.getD_eq_getElem?_getD]
      cases h : s.Zones[(sServed s zone).toNat]? with
      | none => exact Nat.zero_le _
      | some x => exact hz x (List.mem_of_getElem? h)
    generalize s.Zones.getD (sServed s zone).toNat ⟨[], []⟩ = z at *
    have he := (entries_le (zone_le hm).2).1
    refine ⟨?_, fun x hx => ?_⟩
    · rw [List.length_map]
      exact Nat.le_trans (List.length_filter_le _ _) he
    · obtain ⟨e, _, rfl⟩ := List.mem_map.1 hx
      exact sAsk_le h zone e.Label
theorem laws_FnExactAskBucket_law (pvss : List (List PV)) (h : HasEach [[.list [.list [.int .i64, .int .i64, .int .i64, .int .i64, .int .i64, .int .i64, .int .i64, .int .i64, .list [.int .i64], .int .i64, .list [.int .i64], .int .i64, .int .i64, .list [.int .i64], .int .i64, .bool, .list [.int .i64, .int .i64]], .list [.str, .int .i64, .int .i64, .list [.str]]], .int .i64], [.int .i64, .int .i64]] pvss) : laws_FnExactAskBucket (avsOf Tryz.prog Tryz.f5.params.toList pvss) (fun o => o = [PV.bool true]) := by
  obtain ⟨p0, r0, rfl, h0, hq0⟩ := each_cons h
  obtain ⟨p1, r1, rfl, h1, hq1⟩ := each_cons hq0
  rw [each_nil hq1]
  obtain ⟨x0, rfl, w0⟩ := decServer _ h0
  obtain ⟨x1, rfl, w1⟩ := decQuestion _ h1
  rw [show avsOf Tryz.prog Tryz.f5.params.toList [eServer x0, eQuestion x1] = [.agg (eServer x0), .agg (eQuestion x1)] by kernel_rfl]
  simp only [laws_FnExactAskBucket, un, cur0, laws_szServer_n x0 (1048576) w0 (by omega) (by omega), binP_lss, iteP_eq, atP_zero, atP_succ]
  by_cases c0 : ((mServer x0 : Nat) : Int) ≤ 1048576
  rotate_left
  · simp [szr_not c0]
  simp only [szr_yes c0, show ¬ (1048576 - ((mServer x0 : Nat) : Int) < 0) by omega, decide_false, Bool.false_eq_true, if_false, iteP_eq]
  have s0 : mServer x0 ≤ 1048576 := by omega
  have q1 := laws_toServer_n x0 s0
  have q2 := laws_eqServer_n x0 s0
  have q4 := laws_toQuestion_n x1
  obtain ⟨c_1, kx, e1, b1, b2, _⟩ := marks_Server x0 1 (by omega) (by omega)
  have mx : ∀ K, call laws_markServer [.agg (eServer x0), .one (I 1)] K = K [c_1, I x0.Lie, I kx] := callT e1 (by decide)
  have n1 : ¬ (kx < 0) := by omega
  obtain ⟨la, lb⟩ := sAskB_le s0 x1.Zone x1.Bucket
  have sp := spec_AskBucket_n x0 x1.Zone x1.Bucket s0
  have im := impl_AskBucket_n x0 x1.Zone x1.Bucket s0
  generalize sAskB x0 x1.Zone x1.Bucket = A at *
  have q3 := laws_eqAnswerS_b A la lb
  have hsum : mAnswerS A ≤ 1048576 + 1048576 * 16777216 := by
    have h1 : sumN mAnswer A ≤ A.length * 16777216 := sumN_all lb
    have h2 : A.length * 16777216 ≤ 1048576 * 16777216 := Nat.mul_le_mul_right _ la
    show A.length + sumN mAnswer A ≤ _
    omega
  obtain ⟨p, kA, e2, b3, b4, hh⟩ := marks_AnswerS A 1 (by omega) (by omega)
  have mA : ∀ K, call laws_markAnswerS [.one (.list 21 (A.map eAnswer)), .one (I 1)] K = K [p, I kA] := callS e2 (by decide)
  have n2 : ¬ (kA < 0) := by omega
  simp only [q1, q4, atP_zero, atP_succ, sp, im, q2, q3, unP_not, Bool.not_true, iteP_eq, Bool.false_eq_true, if_false, flatCond_n, flatCond_pv, flatCond_nil, flat_int, flat_bool, flat_str, true_and, mx, binP_lss, n1, n2, decide_false, mA, hh, binP_neq, bne_self_eq_false, rt_eq, scs_sc, scs_nil]
end Go.Ev
