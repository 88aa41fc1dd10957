/- What each function hands back, in plain Lean, and that the laws answer true, part 1. -/
import Derived.Test.YtgnmkfjaimgncaaDoorFn1
import Derived.Lib.ItoaLen
import Derived.Lib.Join
set_option linter.unusedVariables false
set_option linter.unusedSimpArgs false
set_option maxRecDepth 4000
namespace Go.Ev
open Go.Proofs
/-! ### The laws' own functions: copies, sizes, comparisons (printed by gentypes.py) -/
theorem szr_add {s t : Nat} {left : Int} (h : (s : Int) ≤ left) : szr (s + t) left = szr t (left - s) := by
  unfold szr
  by_cases h1 : (t : Int) ≤ left - s
  · rw [if_pos h1, if_pos (by omega)]; omega
  · rw [if_neg h1, if_neg (by omega)]
theorem szr_over {s t : Nat} {left : Int} (h : ¬ (s : Int) ≤ left) : szr (s + t) left = -1 := by unfold szr; rw [if_neg (by omega)]
theorem szr_not {s : Nat} {left : Int} (h : ¬ (s : Int) ≤ left) : szr s left = -1 := by unfold szr; rw [if_neg h]
theorem szr_yes {s : Nat} {left : Int} (h : (s : Int) ≤ left) : szr s left = left - s := by unfold szr; rw [if_pos h]
theorem szr_pos {s : Nat} {left : Int} (h : 0 ≤ szr s left) : (s : Int) ≤ left ∧ szr s left = left - s := by
  unfold szr at h ⊢
  split at h
  · rename_i h1; rw [if_pos h1]; exact ⟨h1, rfl⟩
  · omega
theorem sumN_mem {α : Type} {s : α → Nat} {x : α} : ∀ {l : List α}, x ∈ l → s x ≤ sumN s l
  | y :: l, h => by
    rw [show sumN s (y :: l) = s y + sumN s l from rfl]
    rcases List.mem_cons.1 h with rfl | h
    · omega
    · have := sumN_mem (s := s) h; omega
/-- one count, then the rest -/
theorem sz_seq {s t : Nat} {left : Int} {A : Int → Prop} {k : List PV → Prop} (h2 : 0 ≤ left) (h3 : left ≤ 1048576) (h : ∀ l, 0 ≤ l → l ≤ 1048576 → (A l ↔ k [I (szr t l)])) :
    (if decide (szr s left < 0) = true then k [I (-1)] else A (szr s left)) ↔ k [I (szr (s + t) left)] := by
  by_cases hs : (s : Int) ≤ left
  · rw [szr_yes hs, szr_add hs, if_neg (by simp; omega)]
    exact h _ (by omega) (by omega)
  · rw [szr_not hs, szr_over hs]; simp
theorem sz_end {s : Nat} {left : Int} {k : List PV → Prop} (h2 : 0 ≤ left) : (if decide (szr s left < 0) = true then k [I (-1)] else k [I (szr s left)]) ↔ k [I (szr s left)] := by
  by_cases hs : (s : Int) ≤ left
  · rw [szr_yes hs, if_neg (by simp; omega)]
  · rw [szr_not hs]; simp
/-- a length, taken off -/
theorem sz_len {n : Nat} {left : Int} {A : Int → Prop} {k : List PV → Prop} (h1 : n ≤ maxLen) (h2 : 0 ≤ left) (h3 : left ≤ 1048576) :
    (if decide (IntKind.i64.wrap (left - n) < 0) = true then k [I (-1)] else A (IntKind.i64.wrap (left - n))) ↔ (if decide (szr n left < 0) = true then k [I (-1)] else A (szr n left)) := by
  rw [wr_left h1 h2 h3]
  by_cases hs : (n : Int) ≤ left
  · rw [szr_yes hs]
  · rw [szr_not hs, if_pos (by simp; omega), if_pos (by simp)]

theorem has_strs {p : PV} (hp : Sh.has (.list [.str]) p) : ∃ l : List ByteArray, p = strs l ∧ (l.length ≤ maxLen ∧ ∀ y ∈ l, y.size ≤ maxLen) := by
  obtain ⟨l, h1, h2, h3⟩ := has_map (enc := rS) (wf := fun y => y.size ≤ maxLen) (fun r hr => by
    obtain ⟨p, rfl, h⟩ := all_one hr
    obtain ⟨n, rfl, g⟩ := has_str h
    exact ⟨n, rfl, g⟩) 1 rfl hp
  exact ⟨l, h1, h2, h3⟩
theorem laws_szIntS_n (l : List Int) (left : Int) (hw : l.length ≤ maxLen) (h2 : 0 ≤ left) (h3 : left ≤ 1048576) (k) : call laws_szIntS [.one (ints l), .one (I left)] k = k [I (szr l.length left)] := call_of (fun k => by
  simp only [laws_szIntS, lenP_eq, List.length_map, binP_sub, wr_left hw h2 h3, binP_lss, iteP_eq, rt_eq, scs_sc, scs_nil, flat_int, true_and, and_true]
  by_cases c : (l.length : Int) ≤ left
  · simp [szr_yes c, show ¬ (left - (l.length : Int) < 0) by omega]
  · simp [szr_not c, show left - (l.length : Int) < 0 by omega]) k
theorem laws_toIntS_n (l : List Int) (h : l.length ≤ 1048576) (k) : call laws_toIntS [.one (ints l)] k = k [ints l] := call_of (fun k => by
  have hm := h
  simp [laws_toIntS, show l.length < 1073741824 by omega]
  refine lp_toS l rI rI [I 0] 1 1 (.list 1 []) rfl (fun i x hx hi K rows hr hz => ?_) fun K => ?_
  · simp [-getElem?_pos, laws_toIntS_r0, hx, hi, hr, hz, over, wr_succ (show i < 1000000000000000000 by omega)]
  · simp [laws_toIntS_r0]) k
theorem laws_eqIntS_n (l : List Int) (h : l.length ≤ 1048576) (k) : call laws_eqIntS [.one (ints l), .one (ints l)] k = k [.bool true] := call_of (fun k => by
  have hm := h
  simp [laws_eqIntS]
  refine lp_eqS l rI 1 (.bool false) rfl (fun i x hx hi K => ?_) fun K => ?_
  · simp [-getElem?_pos, laws_eqIntS_r0, hx, hi, wr_succ (show i < 1000000000000000000 by omega)]
  · simp [laws_eqIntS_r0]) k
theorem laws_szStringS_n (l : List ByteArray) (left : Int) (hw : (l.length ≤ maxLen ∧ ∀ y ∈ l, y.size ≤ maxLen)) (h2 : 0 ≤ left) (h3 : left ≤ 1048576) (k) : call laws_szStringS [.one (strs l), .one (I left)] k = k [I (szr ((l.length + sumN ByteArray.size l)) left)] := call_of (fun k => by
  simp only [laws_szStringS, lenP_eq, List.length_map, binP_sub, wr_left hw.1 h2 h3, binP_lss, iteP_eq, rt_eq, scs_sc, scs_nil, flat_int, true_and, and_true]
  by_cases c : (l.length : Int) ≤ left
  rotate_left
  · simp [szr_over c, show left - (l.length : Int) < 0 by omega]
  simp only [szr_add c, show ¬ (left - (l.length : Int) < 0) by omega, decide_false, Bool.false_eq_true, if_false]
  refine (lp_sz (neg := k [I (-1)]) (fin := fun t => k [I t]) l rS 1 ByteArray.size (left - (l.length : Int)) (I 0) (by omega) (by omega) rfl (fun i x hx hi t ht1 ht2 K => ?_) fun t K => ?_).trans ?_
  · have e := wr_left (left := t) (hw.2 x (List.mem_of_getElem? hx)) ht1 ht2
    simp [-getElem?_pos, laws_szStringS_r0, hx, hi, e, wr_succ (show i < 1000000000000000000 by have := hw.1; omega)]
    by_cases hs : (x.size : Int) ≤ t
    · simp [hs, show ¬ (t - (x.size : Int) < 0) by omega]
    · simp [hs, show t - (x.size : Int) < 0 by omega]
  · simp [laws_szStringS_r0]
  · by_cases hs : ((sumN ByteArray.size l : Nat) : Int) ≤ left - (l.length : Int)
    · simp [szr_yes hs, hs]
    · simp [szr_not hs, hs]) k
theorem laws_toStringS_n (l : List ByteArray) (h : (l.length + sumN ByteArray.size l) ≤ 1048576) (k) : call laws_toStringS [.one (strs l)] k = k [strs l] := call_of (fun k => by
  have hm := h
  simp [laws_toStringS, show l.length < 1073741824 by omega]
  refine lp_toS l rS rS [.str ⟨#[]⟩] 1 1 (.list 1 []) rfl (fun i x hx hi K rows hr hz => ?_) fun K => ?_
  · simp [-getElem?_pos, laws_toStringS_r0, hx, hi, hr, hz, over, wr_succ (show i < 1000000000000000000 by omega)]
  · simp [laws_toStringS_r0]) k
theorem laws_eqStringS_n (l : List ByteArray) (h : (l.length + sumN ByteArray.size l) ≤ 1048576) (k) : call laws_eqStringS [.one (strs l), .one (strs l)] k = k [.bool true] := call_of (fun k => by
  have hm := h
  simp [laws_eqStringS]
  refine lp_eqS l rS 1 (.bool false) rfl (fun i x hx hi K => ?_) fun K => ?_
  · simp [-getElem?_pos, laws_eqStringS_r0, hx, hi, wr_succ (show i < 1000000000000000000 by omega)]
  · simp [laws_eqStringS_r0]) k
structure GKeys where
  Lst : List Int
  Need : Int
abbrev eKeys (a : GKeys) : List PV := [ints a.Lst, I a.Need]
def mKeys (a : GKeys) : Nat := a.Lst.length
def WKeys (a : GKeys) : Prop := a.Lst.length ≤ maxLen
theorem decKeys (r : List PV) (hr : Sh.hasAll [.list [.int .i64], .int .i64] r) : ∃ a : GKeys, r = eKeys a ∧ WKeys a := by
  obtain ⟨p1, r1, rfl, h1, hr1⟩ := all_cons hr
  obtain ⟨n1, rfl, g1⟩ := has_ints h1
  obtain ⟨p2, rfl, h2⟩ := all_one hr1
  obtain ⟨n2, rfl⟩ := has_int h2
  exact ⟨⟨n1, n2⟩, rfl, g1⟩
theorem laws_szKeys_n (a : GKeys) (left : Int) (hw : WKeys a) (h2 : 0 ≤ left) (h3 : left ≤ 1048576) (k) : call laws_szKeys [.agg (eKeys a), .one (I left)] k = k [I (szr (mKeys a) left)] := call_of (fun k => by
  have g0 := hw
  unfold mKeys
  simp only [laws_szKeys, un, cur0, laws_szIntS_n a.Lst (left) g0 h2 h3, binP_lss, iteP_eq, atP_zero, rt_eq, scs_sc, scs_nil, flat_int, true_and, and_true]
  by_cases c0 : ((a.Lst.length : Nat) : Int) ≤ left
  rotate_left
  · first | (simp [szr_not c0, szr_not c0]; done) | (simp only [szr_not c0, szr_not c0]; simp)
  simp only [szr_yes c0, show ¬ (left - ((a.Lst.length : Nat) : Int) < 0) by omega, decide_false, Bool.false_eq_true, if_false, binP_lss, iteP_eq, atP_zero, rt_eq, scs_sc, scs_nil, flat_int, true_and, and_true]) k
theorem laws_toKeys_n (a : GKeys) (h : mKeys a ≤ 1048576) (k) : call laws_toKeys [.agg (eKeys a)] k = k (eKeys a) := call_of (fun k => by
  unfold mKeys at h
  simp [laws_toKeys, laws_toIntS_n a.Lst (by omega)]) k
theorem laws_eqKeys_n (a : GKeys) (h : mKeys a ≤ 1048576) (k) : call laws_eqKeys [.agg (eKeys a), .agg (eKeys a)] k = k [.bool true] := call_of (fun k => by
  unfold mKeys at h
  simp [laws_eqKeys, laws_eqIntS_n a.Lst (by omega)]) k
structure GSig where
  Key : Int
  Tag : Int
abbrev eSig (a : GSig) : List PV := [I a.Key, I a.Tag]
theorem decSig (r : List PV) (hr : Sh.hasAll [.int .i64, .int .i64] r) : ∃ a : GSig, r = eSig a ∧ True := by
  obtain ⟨p1, r1, rfl, h1, hr1⟩ := all_cons hr
  obtain ⟨n1, rfl⟩ := has_int h1
  obtain ⟨p2, rfl, h2⟩ := all_one hr1
  obtain ⟨n2, rfl⟩ := has_int h2
  exact ⟨⟨n1, n2⟩, rfl, trivial⟩
theorem laws_toSig_n (a : GSig) (k) : call laws_toSig [.agg (eSig a)] k = k (eSig a) := call_of (fun k => by
  simp [laws_toSig]) k
theorem laws_eqSig_n (a : GSig) (k) : call laws_eqSig [.agg (eSig a), .agg (eSig a)] k = k [.bool true] := call_of (fun k => by
  simp [laws_eqSig]) k
structure GEntry where
  Label : ByteArray
  Kind : Int
  Value : Int
  Path : List ByteArray
abbrev eEntry (a : GEntry) : List PV := [.str a.Label, I a.Kind, I a.Value, strs a.Path]
def mEntry (a : GEntry) : Nat := a.Label.size + ((a.Path.length + sumN ByteArray.size a.Path))
def WEntry (a : GEntry) : Prop := a.Label.size ≤ maxLen ∧ (a.Path.length ≤ maxLen ∧ ∀ y ∈ a.Path, y.size ≤ maxLen)
theorem decEntry (r : List PV) (hr : Sh.hasAll [.str, .int .i64, .int .i64, .list [.str]] r) : ∃ a : GEntry, r = eEntry a ∧ WEntry a := by
  obtain ⟨p1, r1, rfl, h1, hr1⟩ := all_cons hr
  obtain ⟨n1, rfl, g1⟩ := has_str h1
  obtain ⟨p2, r2, rfl, h2, hr2⟩ := all_cons hr1
  obtain ⟨n2, rfl⟩ := has_int h2
  obtain ⟨p3, r3, rfl, h3, hr3⟩ := all_cons hr2
  obtain ⟨n3, rfl⟩ := has_int h3
  obtain ⟨p4, rfl, h4⟩ := all_one hr3
  obtain ⟨n4, rfl, g4⟩ := has_strs h4
  exact ⟨⟨n1, n2, n3, n4⟩, rfl, ⟨g1, g4⟩⟩
theorem laws_szEntry_n (a : GEntry) (left : Int) (hw : WEntry a) (h2 : 0 ≤ left) (h3 : left ≤ 1048576) (k) : call laws_szEntry [.agg (eEntry a), .one (I left)] k = k [I (szr (mEntry a) left)] := call_of (fun k => by
  obtain ⟨g0, g1⟩ := hw
  unfold mEntry
  simp only [laws_szEntry, un, cur0, lenS_eq, binP_sub, wr_left (left := left) g0 h2 h3, binP_lss, iteP_eq, atP_zero, rt_eq, scs_sc, scs_nil, flat_int, true_and, and_true]
  by_cases c0 : ((a.Label.size : Nat) : Int) ≤ left
  rotate_left
  · first | (simp [szr_over c0, show left - ((a.Label.size : Nat) : Int) < 0 by omega]; done) | (simp only [szr_over c0, show left - ((a.Label.size : Nat) : Int) < 0 by omega]; simp)
  simp only [szr_yes c0, szr_add c0, show ¬ (left - ((a.Label.size : Nat) : Int) < 0) by omega, decide_false, Bool.false_eq_true, if_false, laws_szStringS_n a.Path (left - ((a.Label.size : Nat) : Int)) g1 (by omega) (by omega), binP_lss, iteP_eq, atP_zero, rt_eq, scs_sc, scs_nil, flat_int, true_and, and_true]
  by_cases c1 : (((a.Path.length + sumN ByteArray.size a.Path) : Nat) : Int) ≤ left - ((a.Label.size : Nat) : Int)
  rotate_left
  · first | (simp [szr_not c1, szr_not c1]; done) | (simp only [szr_not c1, szr_not c1]; simp)
  simp only [szr_yes c1, show ¬ (left - ((a.Label.size : Nat) : Int) - (((a.Path.length + sumN ByteArray.size a.Path) : Nat) : Int) < 0) by omega, decide_false, Bool.false_eq_true, if_false, binP_lss, iteP_eq, atP_zero, rt_eq, scs_sc, scs_nil, flat_int, true_and, and_true]) k
theorem laws_toEntry_n (a : GEntry) (h : mEntry a ≤ 1048576) (k) : call laws_toEntry [.agg (eEntry a)] k = k (eEntry a) := call_of (fun k => by
  unfold mEntry at h
  simp [laws_toEntry, laws_toStringS_n a.Path (by omega)]) k
theorem laws_eqEntry_n (a : GEntry) (h : mEntry a ≤ 1048576) (k) : call laws_eqEntry [.agg (eEntry a), .agg (eEntry a)] k = k [.bool true] := call_of (fun k => by
  unfold mEntry at h
  simp [laws_eqEntry, laws_eqStringS_n a.Path (by omega)]) k
structure GHead where
  Zone : Int
  Epoch : Int
  Kind : Int
  Time : Int
  Until : Int
  Count : Int
  Root : Int
  Prev : Int
  Keys : GKeys
  Heirs : GKeys
  Wait : Int
  Judge : GKeys
  Frozen : Bool
abbrev eHead (a : GHead) : List PV := [I a.Zone, I a.Epoch, I a.Kind, I a.Time, I a.Until, I a.Count, I a.Root, I a.Prev, ints a.Keys.Lst, I a.Keys.Need, ints a.Heirs.Lst, I a.Heirs.Need, I a.Wait, ints a.Judge.Lst, I a.Judge.Need, .bool a.Frozen]
def mHead (a : GHead) : Nat := mKeys a.Keys + (mKeys a.Heirs + (mKeys a.Judge))
def WHead (a : GHead) : Prop := WKeys a.Keys ∧ WKeys a.Heirs ∧ WKeys a.Judge
theorem decHead (r : List PV) (hr : Sh.hasAll [.int .i64, .int .i64, .int .i64, .int .i64, .int .i64, .int .i64, .int .i64, .int .i64, .list [.int .i64], .int .i64, .list [.int .i64], .int .i64, .int .i64, .list [.int .i64], .int .i64, .bool] r) : ∃ a : GHead, r = eHead a ∧ WHead a := by
  obtain ⟨p1, r1, rfl, h1, hr1⟩ := all_cons hr
  obtain ⟨n1, rfl⟩ := has_int h1
  obtain ⟨p2, r2, rfl, h2, hr2⟩ := all_cons hr1
  obtain ⟨n2, rfl⟩ := has_int h2
  obtain ⟨p3, r3, rfl, h3, hr3⟩ := all_cons hr2
  obtain ⟨n3, rfl⟩ := has_int h3
  obtain ⟨p4, r4, rfl, h4, hr4⟩ := all_cons hr3
  obtain ⟨n4, rfl⟩ := has_int h4
  obtain ⟨p5, r5, rfl, h5, hr5⟩ := all_cons hr4
  obtain ⟨n5, rfl⟩ := has_int h5
  obtain ⟨p6, r6, rfl, h6, hr6⟩ := all_cons hr5
  obtain ⟨n6, rfl⟩ := has_int h6
  obtain ⟨p7, r7, rfl, h7, hr7⟩ := all_cons hr6
  obtain ⟨n7, rfl⟩ := has_int h7
  obtain ⟨p8, r8, rfl, h8, hr8⟩ := all_cons hr7
  obtain ⟨n8, rfl⟩ := has_int h8
  obtain ⟨p9, r9, rfl, h9, hr9⟩ := all_cons hr8
  obtain ⟨n9, rfl, g9⟩ := has_ints h9
  obtain ⟨p10, r10, rfl, h10, hr10⟩ := all_cons hr9
  obtain ⟨n10, rfl⟩ := has_int h10
  obtain ⟨p11, r11, rfl, h11, hr11⟩ := all_cons hr10
  obtain ⟨n11, rfl, g11⟩ := has_ints h11
  obtain ⟨p12, r12, rfl, h12, hr12⟩ := all_cons hr11
  obtain ⟨n12, rfl⟩ := has_int h12
  obtain ⟨p13, r13, rfl, h13, hr13⟩ := all_cons hr12
  obtain ⟨n13, rfl⟩ := has_int h13
  obtain ⟨p14, r14, rfl, h14, hr14⟩ := all_cons hr13
  obtain ⟨n14, rfl, g14⟩ := has_ints h14
  obtain ⟨p15, r15, rfl, h15, hr15⟩ := all_cons hr14
  obtain ⟨n15, rfl⟩ := has_int h15
  obtain ⟨p16, rfl, h16⟩ := all_one hr15
  obtain ⟨n16, rfl⟩ := has_bool h16
  exact ⟨⟨n1, n2, n3, n4, n5, n6, n7, n8, ⟨n9, n10⟩, ⟨n11, n12⟩, n13, ⟨n14, n15⟩, n16⟩, rfl, ⟨g9, g11, g14⟩⟩
theorem laws_szHead_n (a : GHead) (left : Int) (hw : WHead a) (h2 : 0 ≤ left) (h3 : left ≤ 1048576) (k) : call laws_szHead [.agg (eHead a), .one (I left)] k = k [I (szr (mHead a) left)] := call_of (fun k => by
  obtain ⟨g0, g1, g2⟩ := hw
  unfold mHead
  simp only [laws_szHead, un, cur0, laws_szKeys_n a.Keys (left) g0 h2 h3, binP_lss, iteP_eq, atP_zero, rt_eq, scs_sc, scs_nil, flat_int, true_and, and_true]
  by_cases c0 : ((mKeys a.Keys : Nat) : Int) ≤ left
  rotate_left
  · first | (simp [szr_over c0, szr_not c0]; done) | (simp only [szr_over c0, szr_not c0]; simp)
  simp only [szr_yes c0, szr_add c0, show ¬ (left - ((mKeys a.Keys : Nat) : Int) < 0) by omega, decide_false, Bool.false_eq_true, if_false, laws_szKeys_n a.Heirs (left - ((mKeys a.Keys : Nat) : Int)) g1 (by omega) (by omega), binP_lss, iteP_eq, atP_zero, rt_eq, scs_sc, scs_nil, flat_int, true_and, and_true]
  by_cases c1 : ((mKeys a.Heirs : Nat) : Int) ≤ left - ((mKeys a.Keys : Nat) : Int)
  rotate_left
  · first | (simp [szr_over c1, szr_not c1]; done) | (simp only [szr_over c1, szr_not c1]; simp)
  simp only [szr_yes c1, szr_add c1, show ¬ (left - ((mKeys a.Keys : Nat) : Int) - ((mKeys a.Heirs : Nat) : Int) < 0) by omega, decide_false, Bool.false_eq_true, if_false, laws_szKeys_n a.Judge (left - ((mKeys a.Keys : Nat) : Int) - ((mKeys a.Heirs : Nat) : Int)) g2 (by omega) (by omega), binP_lss, iteP_eq, atP_zero, rt_eq, scs_sc, scs_nil, flat_int, true_and, and_true]
  by_cases c2 : ((mKeys a.Judge : Nat) : Int) ≤ left - ((mKeys a.Keys : Nat) : Int) - ((mKeys a.Heirs : Nat) : Int)
  rotate_left
  · first | (simp [szr_not c2, szr_not c2]; done) | (simp only [szr_not c2, szr_not c2]; simp)
  simp only [szr_yes c2, show ¬ (left - ((mKeys a.Keys : Nat) : Int) - ((mKeys a.Heirs : Nat) : Int) - ((mKeys a.Judge : Nat) : Int) < 0) by omega, decide_false, Bool.false_eq_true, if_false, binP_lss, iteP_eq, atP_zero, rt_eq, scs_sc, scs_nil, flat_int, true_and, and_true]) k
theorem laws_toHead_n (a : GHead) (h : mHead a ≤ 1048576) (k) : call laws_toHead [.agg (eHead a)] k = k (eHead a) := call_of (fun k => by
  unfold mHead at h
  simp [laws_toHead, laws_toKeys_n a.Keys (by omega), laws_toKeys_n a.Heirs (by omega), laws_toKeys_n a.Judge (by omega)]) k
theorem laws_eqHead_n (a : GHead) (h : mHead a ≤ 1048576) (k) : call laws_eqHead [.agg (eHead a), .agg (eHead a)] k = k [.bool true] := call_of (fun k => by
  unfold mHead at h
  simp [laws_eqHead, laws_eqKeys_n a.Keys (by omega), laws_eqKeys_n a.Heirs (by omega), laws_eqKeys_n a.Judge (by omega)]) k
theorem decSigS {p : PV} (h : Sh.has (.list [.int .i64, .int .i64]) p) : ∃ l : List GSig, p = .list 2 (l.map eSig) ∧ l.length ≤ maxLen := by
  obtain ⟨l, h1, h2, h3⟩ := has_map decSig 2 rfl h
  exact ⟨l, h1, h2⟩
theorem laws_szSigS_n (l : List GSig) (left : Int) (hw : l.length ≤ maxLen) (h2 : 0 ≤ left) (h3 : left ≤ 1048576) (k) : call laws_szSigS [.one (.list 2 (l.map eSig)), .one (I left)] k = k [I (szr l.length left)] := call_of (fun k => by
  simp only [laws_szSigS, lenP_eq, List.length_map, binP_sub, wr_left hw h2 h3, binP_lss, iteP_eq, rt_eq, scs_sc, scs_nil, flat_int, true_and, and_true]
  by_cases c : (l.length : Int) ≤ left
  · simp [szr_yes c, show ¬ (left - (l.length : Int) < 0) by omega]
  · simp [szr_not c, show left - (l.length : Int) < 0 by omega]) k
theorem laws_toSigS_n (l : List GSig) (h : l.length ≤ 1048576) (k) : call laws_toSigS [.one (.list 2 (l.map eSig))] k = k [.list 2 (l.map eSig)] := call_of (fun k => by
  have hm := h
  simp [laws_toSigS, show l.length < 1073741824 by omega]
  refine lp_toS l eSig eSig [I 0, I 0] 2 2 (.list 2 []) rfl (fun i x hx hi K rows hr hz => ?_) fun K => ?_
  · simp [-getElem?_pos, laws_toSigS_r0, hx, hi, hr, hz, over, laws_toSig_n x, wr_succ (show i < 1000000000000000000 by omega)]
  · simp [laws_toSigS_r0]) k
theorem laws_eqSigS_n (l : List GSig) (h : l.length ≤ 1048576) (k) : call laws_eqSigS [.one (.list 2 (l.map eSig)), .one (.list 2 (l.map eSig))] k = k [.bool true] := call_of (fun k => by
  have hm := h
  simp [laws_eqSigS]
  refine lp_eqS l eSig 2 (.bool false) rfl (fun i x hx hi K => ?_) fun K => ?_
  · simp [-getElem?_pos, laws_eqSigS_r0, hx, hi, laws_eqSig_n x, wr_succ (show i < 1000000000000000000 by omega)]
  · simp [laws_eqSigS_r0]) k
structure GSigned where
  Head : GHead
  Sigs : List GSig
abbrev eSigned (a : GSigned) : List PV := [I a.Head.Zone, I a.Head.Epoch, I a.Head.Kind, I a.Head.Time, I a.Head.Until, I a.Head.Count, I a.Head.Root, I a.Head.Prev, ints a.Head.Keys.Lst, I a.Head.Keys.Need, ints a.Head.Heirs.Lst, I a.Head.Heirs.Need, I a.Head.Wait, ints a.Head.Judge.Lst, I a.Head.Judge.Need, .bool a.Head.Frozen, .list 2 (a.Sigs.map eSig)]
def mSigned (a : GSigned) : Nat := mHead a.Head + (a.Sigs.length)
def WSigned (a : GSigned) : Prop := WHead a.Head ∧ a.Sigs.length ≤ maxLen
theorem decSigned (r : List PV) (hr : Sh.hasAll [.int .i64, .int .i64, .int .i64, .int .i64, .int .i64, .int .i64, .int .i64, .int .i64, .list [.int .i64], .int .i64, .list [.int .i64], .int .i64, .int .i64, .list [.int .i64], .int .i64, .bool, .list [.int .i64, .int .i64]] r) : ∃ a : GSigned, r = eSigned a ∧ WSigned a := by
  obtain ⟨p1, r1, rfl, h1, hr1⟩ := all_cons hr
  obtain ⟨n1, rfl⟩ := has_int h1
  obtain ⟨p2, r2, rfl, h2, hr2⟩ := all_cons hr1
  obtain ⟨n2, rfl⟩ := has_int h2
  obtain ⟨p3, r3, rfl, h3, hr3⟩ := all_cons hr2
  obtain ⟨n3, rfl⟩ := has_int h3
  obtain ⟨p4, r4, rfl, h4, hr4⟩ := all_cons hr3
  obtain ⟨n4, rfl⟩ := has_int h4
  obtain ⟨p5, r5, rfl, h5, hr5⟩ := all_cons hr4
  obtain ⟨n5, rfl⟩ := has_int h5
  obtain ⟨p6, r6, rfl, h6, hr6⟩ := all_cons hr5
  obtain ⟨n6, rfl⟩ := has_int h6
  obtain ⟨p7, r7, rfl, h7, hr7⟩ := all_cons hr6
  obtain ⟨n7, rfl⟩ := has_int h7
  obtain ⟨p8, r8, rfl, h8, hr8⟩ := all_cons hr7
  obtain ⟨n8, rfl⟩ := has_int h8
  obtain ⟨p9, r9, rfl, h9, hr9⟩ := all_cons hr8
  obtain ⟨n9, rfl, g9⟩ := has_ints h9
  obtain ⟨p10, r10, rfl, h10, hr10⟩ := all_cons hr9
  obtain ⟨n10, rfl⟩ := has_int h10
  obtain ⟨p11, r11, rfl, h11, hr11⟩ := all_cons hr10
  obtain ⟨n11, rfl, g11⟩ := has_ints h11
  obtain ⟨p12, r12, rfl, h12, hr12⟩ := all_cons hr11
  obtain ⟨n12, rfl⟩ := has_int h12
  obtain ⟨p13, r13, rfl, h13, hr13⟩ := all_cons hr12
  obtain ⟨n13, rfl⟩ := has_int h13
  obtain ⟨p14, r14, rfl, h14, hr14⟩ := all_cons hr13
  obtain ⟨n14, rfl, g14⟩ := has_ints h14
  obtain ⟨p15, r15, rfl, h15, hr15⟩ := all_cons hr14
  obtain ⟨n15, rfl⟩ := has_int h15
  obtain ⟨p16, r16, rfl, h16, hr16⟩ := all_cons hr15
  obtain ⟨n16, rfl⟩ := has_bool h16
  obtain ⟨p17, rfl, h17⟩ := all_one hr16
  obtain ⟨n17, rfl, g17⟩ := decSigS h17
  exact ⟨⟨⟨n1, n2, n3, n4, n5, n6, n7, n8, ⟨n9, n10⟩, ⟨n11, n12⟩, n13, ⟨n14, n15⟩, n16⟩, n17⟩, rfl, ⟨⟨g9, g11, g14⟩, g17⟩⟩
theorem laws_szSigned_n (a : GSigned) (left : Int) (hw : WSigned a) (h2 : 0 ≤ left) (h3 : left ≤ 1048576) (k) : call laws_szSigned [.agg (eSigned a), .one (I left)] k = k [I (szr (mSigned a) left)] := call_of (fun k => by
  obtain ⟨g0, g1⟩ := hw
  unfold mSigned
  simp only [laws_szSigned, un, cur0, laws_szHead_n a.Head (left) g0 h2 h3, binP_lss, iteP_eq, atP_zero, rt_eq, scs_sc, scs_nil, flat_int, true_and, and_true]
  by_cases c0 : ((mHead a.Head : Nat) : Int) ≤ left
  rotate_left
  · first | (simp [szr_over c0, szr_not c0]; done) | (simp only [szr_over c0, szr_not c0]; simp)
  simp only [szr_yes c0, szr_add c0, show ¬ (left - ((mHead a.Head : Nat) : Int) < 0) by omega, decide_false, Bool.false_eq_true, if_false, laws_szSigS_n a.Sigs (left - ((mHead a.Head : Nat) : Int)) g1 (by omega) (by omega), binP_lss, iteP_eq, atP_zero, rt_eq, scs_sc, scs_nil, flat_int, true_and, and_true]
  by_cases c1 : ((a.Sigs.length : Nat) : Int) ≤ left - ((mHead a.Head : Nat) : Int)
  rotate_left
  · first | (simp [szr_not c1, szr_not c1]; done) | (simp only [szr_not c1, szr_not c1]; simp)
  simp only [szr_yes c1, show ¬ (left - ((mHead a.Head : Nat) : Int) - ((a.Sigs.length : Nat) : Int) < 0) by omega, decide_false, Bool.false_eq_true, if_false, binP_lss, iteP_eq, atP_zero, rt_eq, scs_sc, scs_nil, flat_int, true_and, and_true]) k
theorem laws_toSigned_n (a : GSigned) (h : mSigned a ≤ 1048576) (k) : call laws_toSigned [.agg (eSigned a)] k = k (eSigned a) := call_of (fun k => by
  unfold mSigned at h
  simp [laws_toSigned, laws_toHead_n a.Head (by omega), laws_toSigS_n a.Sigs (by omega)]) k
theorem laws_eqSigned_n (a : GSigned) (h : mSigned a ≤ 1048576) (k) : call laws_eqSigned [.agg (eSigned a), .agg (eSigned a)] k = k [.bool true] := call_of (fun k => by
  unfold mSigned at h
  simp [laws_eqSigned, laws_eqHead_n a.Head (by omega), laws_eqSigS_n a.Sigs (by omega)]) k
structure GFork where
  Before : GSigned
  A : GSigned
  B : GSigned
abbrev eFork (a : GFork) : List PV := [I a.Before.Head.Zone, I a.Before.Head.Epoch, I a.Before.Head.Kind, I a.Before.Head.Time, I a.Before.Head.Until, I a.Before.Head.Count, I a.Before.Head.Root, I a.Before.Head.Prev, ints a.Before.Head.Keys.Lst, I a.Before.Head.Keys.Need, ints a.Before.Head.Heirs.Lst, I a.Before.Head.Heirs.Need, I a.Before.Head.Wait, ints a.Before.Head.Judge.Lst, I a.Before.Head.Judge.Need, .bool a.Before.Head.Frozen, .list 2 (a.Before.Sigs.map eSig), I a.A.Head.Zone, I a.A.Head.Epoch, I a.A.Head.Kind, I a.A.Head.Time, I a.A.Head.Until, I a.A.Head.Count, I a.A.Head.Root, I a.A.Head.Prev, ints a.A.Head.Keys.Lst, I a.A.Head.Keys.Need, ints a.A.Head.Heirs.Lst, I a.A.Head.Heirs.Need, I a.A.Head.Wait, ints a.A.Head.Judge.Lst, I a.A.Head.Judge.Need, .bool a.A.Head.Frozen, .list 2 (a.A.Sigs.map eSig), I a.B.Head.Zone, I a.B.Head.Epoch, I a.B.Head.Kind, I a.B.Head.Time, I a.B.Head.Until, I a.B.Head.Count, I a.B.Head.Root, I a.B.Head.Prev, ints a.B.Head.Keys.Lst, I a.B.Head.Keys.Need, ints a.B.Head.Heirs.Lst, I a.B.Head.Heirs.Need, I a.B.Head.Wait, ints a.B.Head.Judge.Lst, I a.B.Head.Judge.Need, .bool a.B.Head.Frozen, .list 2 (a.B.Sigs.map eSig)]
def mFork (a : GFork) : Nat := mSigned a.Before + (mSigned a.A + (mSigned a.B))
def WFork (a : GFork) : Prop := WSigned a.Before ∧ WSigned a.A ∧ WSigned a.B
theorem decFork (r : List PV) (hr : Sh.hasAll [.int .i64, .int .i64, .int .i64, .int .i64, .int .i64, .int .i64, .int .i64, .int .i64, .list [.int .i64], .int .i64, .list [.int .i64], .int .i64, .int .i64, .list [.int .i64], .int .i64, .bool, .list [.int .i64, .int .i64], .int .i64, .int .i64, .int .i64, .int .i64, .int .i64, .int .i64, .int .i64, .int .i64, .list [.int .i64], .int .i64, .list [.int .i64], .int .i64, .int .i64, .list [.int .i64], .int .i64, .bool, .list [.int .i64, .int .i64], .int .i64, .int .i64, .int .i64, .int .i64, .int .i64, .int .i64, .int .i64, .int .i64, .list [.int .i64], .int .i64, .list [.int .i64], .int .i64, .int .i64, .list [.int .i64], .int .i64, .bool, .list [.int .i64, .int .i64]] r) : ∃ a : GFork, r = eFork a ∧ WFork a := by
  obtain ⟨p1, r1, rfl, h1, hr1⟩ := all_cons hr
  obtain ⟨n1, rfl⟩ := has_int h1
  obtain ⟨p2, r2, rfl, h2, hr2⟩ := all_cons hr1
  obtain ⟨n2, rfl⟩ := has_int h2
  obtain ⟨p3, r3, rfl, h3, hr3⟩ := all_cons hr2
  obtain ⟨n3, rfl⟩ := has_int h3
  obtain ⟨p4, r4, rfl, h4, hr4⟩ := all_cons hr3
  obtain ⟨n4, rfl⟩ := has_int h4
  obtain ⟨p5, r5, rfl, h5, hr5⟩ := all_cons hr4
  obtain ⟨n5, rfl⟩ := has_int h5
  obtain ⟨p6, r6, rfl, h6, hr6⟩ := all_cons hr5
  obtain ⟨n6, rfl⟩ := has_int h6
  obtain ⟨p7, r7, rfl, h7, hr7⟩ := all_cons hr6
  obtain ⟨n7, rfl⟩ := has_int h7
  obtain ⟨p8, r8, rfl, h8, hr8⟩ := all_cons hr7
  obtain ⟨n8, rfl⟩ := has_int h8
  obtain ⟨p9, r9, rfl, h9, hr9⟩ := all_cons hr8
  obtain ⟨n9, rfl, g9⟩ := has_ints h9
  obtain ⟨p10, r10, rfl, h10, hr10⟩ := all_cons hr9
  obtain ⟨n10, rfl⟩ := has_int h10
  obtain ⟨p11, r11, rfl, h11, hr11⟩ := all_cons hr10
  obtain ⟨n11, rfl, g11⟩ := has_ints h11
  obtain ⟨p12, r12, rfl, h12, hr12⟩ := all_cons hr11
  obtain ⟨n12, rfl⟩ := has_int h12
  obtain ⟨p13, r13, rfl, h13, hr13⟩ := all_cons hr12
  obtain ⟨n13, rfl⟩ := has_int h13
  obtain ⟨p14, r14, rfl, h14, hr14⟩ := all_cons hr13
  obtain ⟨n14, rfl, g14⟩ := has_ints h14
  obtain ⟨p15, r15, rfl, h15, hr15⟩ := all_cons hr14
  obtain ⟨n15, rfl⟩ := has_int h15
  obtain ⟨p16, r16, rfl, h16, hr16⟩ := all_cons hr15
  obtain ⟨n16, rfl⟩ := has_bool h16
  obtain ⟨p17, r17, rfl, h17, hr17⟩ := all_cons hr16
  obtain ⟨n17, rfl, g17⟩ := decSigS h17
  obtain ⟨p18, r18, rfl, h18, hr18⟩ := all_cons hr17
  obtain ⟨n18, rfl⟩ := has_int h18
  obtain ⟨p19, r19, rfl, h19, hr19⟩ := all_cons hr18
  obtain ⟨n19, rfl⟩ := has_int h19
  obtain ⟨p20, r20, rfl, h20, hr20⟩ := all_cons hr19
  obtain ⟨n20, rfl⟩ := has_int h20
  obtain ⟨p21, r21, rfl, h21, hr21⟩ := all_cons hr20
  obtain ⟨n21, rfl⟩ := has_int h21
  obtain ⟨p22, r22, rfl, h22, hr22⟩ := all_cons hr21
  obtain ⟨n22, rfl⟩ := has_int h22
  obtain ⟨p23, r23, rfl, h23, hr23⟩ := all_cons hr22
  obtain ⟨n23, rfl⟩ := has_int h23
  obtain ⟨p24, r24, rfl, h24, hr24⟩ := all_cons hr23
  obtain ⟨n24, rfl⟩ := has_int h24
  obtain ⟨p25, r25, rfl, h25, hr25⟩ := all_cons hr24
  obtain ⟨n25, rfl⟩ := has_int h25
  obtain ⟨p26, r26, rfl, h26, hr26⟩ := all_cons hr25
  obtain ⟨n26, rfl, g26⟩ := has_ints h26
  obtain ⟨p27, r27, rfl, h27, hr27⟩ := all_cons hr26
  obtain ⟨n27, rfl⟩ := has_int h27
  obtain ⟨p28, r28, rfl, h28, hr28⟩ := all_cons hr27
  obtain ⟨n28, rfl, g28⟩ := has_ints h28
  obtain ⟨p29, r29, rfl, h29, hr29⟩ := all_cons hr28
  obtain ⟨n29, rfl⟩ := has_int h29
  obtain ⟨p30, r30, rfl, h30, hr30⟩ := all_cons hr29
  obtain ⟨n30, rfl⟩ := has_int h30
  obtain ⟨p31, r31, rfl, h31, hr31⟩ := all_cons hr30
  obtain ⟨n31, rfl, g31⟩ := has_ints h31
  obtain ⟨p32, r32, rfl, h32, hr32⟩ := all_cons hr31
  obtain ⟨n32, rfl⟩ := has_int h32
  obtain ⟨p33, r33, rfl, h33, hr33⟩ := all_cons hr32
  obtain ⟨n33, rfl⟩ := has_bool h33
  obtain ⟨p34, r34, rfl, h34, hr34⟩ := all_cons hr33
  obtain ⟨n34, rfl, g34⟩ := decSigS h34
  obtain ⟨p35, r35, rfl, h35, hr35⟩ := all_cons hr34
  obtain ⟨n35, rfl⟩ := has_int h35
  obtain ⟨p36, r36, rfl, h36, hr36⟩ := all_cons hr35
  obtain ⟨n36, rfl⟩ := has_int h36
  obtain ⟨p37, r37, rfl, h37, hr37⟩ := all_cons hr36
  obtain ⟨n37, rfl⟩ := has_int h37
  obtain ⟨p38, r38, rfl, h38, hr38⟩ := all_cons hr37
  obtain ⟨n38, rfl⟩ := has_int h38
  obtain ⟨p39, r39, rfl, h39, hr39⟩ := all_cons hr38
  obtain ⟨n39, rfl⟩ := has_int h39
  obtain ⟨p40, r40, rfl, h40, hr40⟩ := all_cons hr39
  obtain ⟨n40, rfl⟩ := has_int h40
  obtain ⟨p41, r41, rfl, h41, hr41⟩ := all_cons hr40
  obtain ⟨n41, rfl⟩ := has_int h41
  obtain ⟨p42, r42, rfl, h42, hr42⟩ := all_cons hr41
  obtain ⟨n42, rfl⟩ := has_int h42
  obtain ⟨p43, r43, rfl, h43, hr43⟩ := all_cons hr42
  obtain ⟨n43, rfl, g43⟩ := has_ints h43
  obtain ⟨p44, r44, rfl, h44, hr44⟩ := all_cons hr43
  obtain ⟨n44, rfl⟩ := has_int h44
  obtain ⟨p45, r45, rfl, h45, hr45⟩ := all_cons hr44
  obtain ⟨n45, rfl, g45⟩ := has_ints h45
  obtain ⟨p46, r46, rfl, h46, hr46⟩ := all_cons hr45
  obtain ⟨n46, rfl⟩ := has_int h46
  obtain ⟨p47, r47, rfl, h47, hr47⟩ := all_cons hr46
  obtain ⟨n47, rfl⟩ := has_int h47
  obtain ⟨p48, r48, rfl, h48, hr48⟩ := all_cons hr47
  obtain ⟨n48, rfl, g48⟩ := has_ints h48
  obtain ⟨p49, r49, rfl, h49, hr49⟩ := all_cons hr48
  obtain ⟨n49, rfl⟩ := has_int h49
  obtain ⟨p50, r50, rfl, h50, hr50⟩ := all_cons hr49
  obtain ⟨n50, rfl⟩ := has_bool h50
  obtain ⟨p51, rfl, h51⟩ := all_one hr50
  obtain ⟨n51, rfl, g51⟩ := decSigS h51
  exact ⟨⟨⟨⟨n1, n2, n3, n4, n5, n6, n7, n8, ⟨n9, n10⟩, ⟨n11, n12⟩, n13, ⟨n14, n15⟩, n16⟩, n17⟩, ⟨⟨n18, n19, n20, n21, n22, n23, n24, n25, ⟨n26, n27⟩, ⟨n28, n29⟩, n30, ⟨n31, n32⟩, n33⟩, n34⟩, ⟨⟨n35, n36, n37, n38, n39, n40, n41, n42, ⟨n43, n44⟩, ⟨n45, n46⟩, n47, ⟨n48, n49⟩, n50⟩, n51⟩⟩, rfl, ⟨⟨⟨g9, g11, g14⟩, g17⟩, ⟨⟨g26, g28, g31⟩, g34⟩, ⟨⟨g43, g45, g48⟩, g51⟩⟩⟩
theorem laws_szFork_n (a : GFork) (left : Int) (hw : WFork a) (h2 : 0 ≤ left) (h3 : left ≤ 1048576) (k) : call laws_szFork [.agg (eFork a), .one (I left)] k = k [I (szr (mFork a) left)] := call_of (fun k => by
  obtain ⟨g0, g1, g2⟩ := hw
  unfold mFork
  simp only [laws_szFork, un, cur0, laws_szSigned_n a.Before (left) g0 h2 h3, binP_lss, iteP_eq, atP_zero, rt_eq, scs_sc, scs_nil, flat_int, true_and, and_true]
  by_cases c0 : ((mSigned a.Before : Nat) : Int) ≤ left
  rotate_left
  · first | (simp [szr_over c0, szr_not c0]; done) | (simp only [szr_over c0, szr_not c0]; simp)
  simp only [szr_yes c0, szr_add c0, show ¬ (left - ((mSigned a.Before : Nat) : Int) < 0) by omega, decide_false, Bool.false_eq_true, if_false, laws_szSigned_n a.A (left - ((mSigned a.Before : Nat) : Int)) g1 (by omega) (by omega), binP_lss, iteP_eq, atP_zero, rt_eq, scs_sc, scs_nil, flat_int, true_and, and_true]
  by_cases c1 : ((mSigned a.A : Nat) : Int) ≤ left - ((mSigned a.Before : Nat) : Int)
  rotate_left
  · first | (simp [szr_over c1, szr_not c1]; done) | (simp only [szr_over c1, szr_not c1]; simp)
  simp only [szr_yes c1, szr_add c1, show ¬ (left - ((mSigned a.Before : Nat) : Int) - ((mSigned a.A : Nat) : Int) < 0) by omega, decide_false, Bool.false_eq_true, if_false, laws_szSigned_n a.B (left - ((mSigned a.Before : Nat) : Int) - ((mSigned a.A : Nat) : Int)) g2 (by omega) (by omega), binP_lss, iteP_eq, atP_zero, rt_eq, scs_sc, scs_nil, flat_int, true_and, and_true]
  by_cases c2 : ((mSigned a.B : Nat) : Int) ≤ left - ((mSigned a.Before : Nat) : Int) - ((mSigned a.A : Nat) : Int)
  rotate_left
  · first | (simp [szr_not c2, szr_not c2]; done) | (simp only [szr_not c2, szr_not c2]; simp)
  simp only [szr_yes c2, show ¬ (left - ((mSigned a.Before : Nat) : Int) - ((mSigned a.A : Nat) : Int) - ((mSigned a.B : Nat) : Int) < 0) by omega, decide_false, Bool.false_eq_true, if_false, binP_lss, iteP_eq, atP_zero, rt_eq, scs_sc, scs_nil, flat_int, true_and, and_true]) k
theorem laws_toFork_n (a : GFork) (h : mFork a ≤ 1048576) (k) : call laws_toFork [.agg (eFork a)] k = k (eFork a) := call_of (fun k => by
  unfold mFork at h
  simp [laws_toFork, laws_toSigned_n a.Before (by omega), laws_toSigned_n a.A (by omega), laws_toSigned_n a.B (by omega)]) k
theorem laws_eqFork_n (a : GFork) (h : mFork a ≤ 1048576) (k) : call laws_eqFork [.agg (eFork a), .agg (eFork a)] k = k [.bool true] := call_of (fun k => by
  unfold mFork at h
  simp [laws_eqFork, laws_eqSigned_n a.Before (by omega), laws_eqSigned_n a.A (by omega), laws_eqSigned_n a.B (by omega)]) k
def mSignedS (l : List GSigned) : Nat := l.length + sumN mSigned l
theorem decSignedS {p : PV} (h : Sh.has (.list [.int .i64, .int .i64, .int .i64, .int .i64, .int .i64, .int .i64, .int .i64, .int .i64, .list [.int .i64], .int .i64, .list [.int .i64], .int .i64, .int .i64, .list [.int .i64], .int .i64, .bool, .list [.int .i64, .int .i64]]) p) : ∃ l : List GSigned, p = .list 17 (l.map eSigned) ∧ (l.length ≤ maxLen ∧ ∀ y ∈ l, WSigned y) := by
  obtain ⟨l, h1, h2, h3⟩ := has_map decSigned 17 rfl h
  exact ⟨l, h1, h2, h3⟩
theorem laws_szSignedS_n (l : List GSigned) (left : Int) (hw : (l.length ≤ maxLen ∧ ∀ y ∈ l, WSigned y)) (h2 : 0 ≤ left) (h3 : left ≤ 1048576) (k) : call laws_szSignedS [.one (.list 17 (l.map eSigned)), .one (I left)] k = k [I (szr (mSignedS l) left)] := call_of (fun k => by
  simp only [laws_szSignedS, lenP_eq, List.length_map, binP_sub, wr_left hw.1 h2 h3, binP_lss, iteP_eq, rt_eq, scs_sc, scs_nil, flat_int, true_and, and_true]
  unfold mSignedS
  by_cases c : (l.length : Int) ≤ left
  rotate_left
  · simp [szr_over c, show left - (l.length : Int) < 0 by omega]
  simp only [szr_add c, show ¬ (left - (l.length : Int) < 0) by omega, decide_false, Bool.false_eq_true, if_false]
  refine (lp_sz (neg := k [I (-1)]) (fin := fun t => k [I t]) l eSigned 17 mSigned (left - (l.length : Int)) (I 0) (by omega) (by omega) rfl (fun i x hx hi t ht1 ht2 K => ?_) fun t K => ?_).trans ?_
  · have e := laws_szSigned_n x t (hw.2 x (List.mem_of_getElem? hx)) ht1 ht2
    simp [-getElem?_pos, laws_szSignedS_r0, hx, hi, e, wr_succ (show i < 1000000000000000000 by omega)]
    by_cases hs : ((mSigned x : Nat) : Int) ≤ t
    · simp [szr_yes hs, hs, show ¬ (t - ((mSigned x : Nat) : Int) < 0) by omega]
    · simp [szr_not hs, hs]
  · simp [laws_szSignedS_r0]
  · by_cases hs : ((sumN mSigned l : Nat) : Int) ≤ left - (l.length : Int)
    · simp [szr_yes hs, hs]
    · simp [szr_not hs, hs]) k
theorem laws_toSignedS_n (l : List GSigned) (h : mSignedS l ≤ 1048576) (k) : call laws_toSignedS [.one (.list 17 (l.map eSigned))] k = k [.list 17 (l.map eSigned)] := call_of (fun k => by
  have hm := h
  unfold mSignedS at hm
  simp [laws_toSignedS, show l.length < 1073741824 by omega]
  refine lp_toS l eSigned eSigned [I 0, I 0, I 0, I 0, I 0, I 0, I 0, I 0, .list 1 [], I 0, .list 1 [], I 0, I 0, .list 1 [], I 0, .bool false, .list 2 []] 17 17 (.list 17 []) rfl (fun i x hx hi K rows hr hz => ?_) fun K => ?_
  · have hs : mSigned x ≤ sumN mSigned l := sumN_mem (s := mSigned) (List.mem_of_getElem? hx)
    simp [-getElem?_pos, laws_toSignedS_r0, hx, hi, hr, hz, over, laws_toSigned_n x (by omega), wr_succ (show i < 1000000000000000000 by omega)]
  · simp [laws_toSignedS_r0]) k
theorem laws_eqSignedS_n (l : List GSigned) (h : mSignedS l ≤ 1048576) (k) : call laws_eqSignedS [.one (.list 17 (l.map eSigned)), .one (.list 17 (l.map eSigned))] k = k [.bool true] := call_of (fun k => by
  have hm := h
  unfold mSignedS at hm
  simp [laws_eqSignedS]
  refine lp_eqS l eSigned 17 (.bool false) rfl (fun i x hx hi K => ?_) fun K => ?_
  · have hs : mSigned x ≤ sumN mSigned l := sumN_mem (s := mSigned) (List.mem_of_getElem? hx)
    simp [-getElem?_pos, laws_eqSignedS_r0, hx, hi, laws_eqSigned_n x (by omega), wr_succ (show i < 1000000000000000000 by omega)]
  · simp [laws_eqSignedS_r0]) k
def mSignedSS (l : List (List GSigned)) : Nat := l.length + sumN mSignedS l
theorem decSignedSS {p : PV} (h : Sh.has (.list [.list [.int .i64, .int .i64, .int .i64, .int .i64, .int .i64, .int .i64, .int .i64, .int .i64, .list [.int .i64], .int .i64, .list [.int .i64], .int .i64, .int .i64, .list [.int .i64], .int .i64, .bool, .list [.int .i64, .int .i64]]]) p) : ∃ l : List (List GSigned), p = .list 1 (l.map (fun l : List GSigned => [.list 17 (l.map eSigned)])) ∧ (l.length ≤ maxLen ∧ ∀ y ∈ l, (y.length ≤ maxLen ∧ ∀ z ∈ y, WSigned z)) := by
  obtain ⟨l, h1, h2, h3⟩ := has_map (enc := (fun l : List GSigned => [.list 17 (l.map eSigned)])) (wf := fun y => (y.length ≤ maxLen ∧ ∀ z ∈ y, WSigned z)) (fun r hr => by
    obtain ⟨p, rfl, h⟩ := all_one hr
    obtain ⟨m, rfl, g⟩ := decSignedS h
    exact ⟨m, rfl, g⟩) 1 rfl h
  exact ⟨l, h1, h2, h3⟩
theorem laws_szSignedSS_n (l : List (List GSigned)) (left : Int) (hw : (l.length ≤ maxLen ∧ ∀ y ∈ l, (y.length ≤ maxLen ∧ ∀ z ∈ y, WSigned z))) (h2 : 0 ≤ left) (h3 : left ≤ 1048576) (k) : call laws_szSignedSS [.one (.list 1 (l.map (fun l : List GSigned => [.list 17 (l.map eSigned)]))), .one (I left)] k = k [I (szr (mSignedSS l) left)] := call_of (fun k => by
  simp only [laws_szSignedSS, lenP_eq, List.length_map, binP_sub, wr_left hw.1 h2 h3, binP_lss, iteP_eq, rt_eq, scs_sc, scs_nil, flat_int, true_and, and_true]
  unfold mSignedSS
  by_cases c : (l.length : Int) ≤ left
  rotate_left
  · simp [szr_over c, show left - (l.length : Int) < 0 by omega]
  simp only [szr_add c, show ¬ (left - (l.length : Int) < 0) by omega, decide_false, Bool.false_eq_true, if_false]
  refine (lp_sz (neg := k [I (-1)]) (fin := fun t => k [I t]) l (fun l : List GSigned => [.list 17 (l.map eSigned)]) 1 mSignedS (left - (l.length : Int)) (I 0) (by omega) (by omega) rfl (fun i x hx hi t ht1 ht2 K => ?_) fun t K => ?_).trans ?_
  · have e := laws_szSignedS_n x t (hw.2 x (List.mem_of_getElem? hx)) ht1 ht2
    simp [-getElem?_pos, laws_szSignedSS_r0, hx, hi, e, wr_succ (show i < 1000000000000000000 by omega)]
    by_cases hs : ((mSignedS x : Nat) : Int) ≤ t
    · simp [szr_yes hs, hs, show ¬ (t - ((mSignedS x : Nat) : Int) < 0) by omega]
    · simp [szr_not hs, hs]
  · simp [laws_szSignedSS_r0]
  · by_cases hs : ((sumN mSignedS l : Nat) : Int) ≤ left - (l.length : Int)
    · simp [szr_yes hs, hs]
    · simp [szr_not hs, hs]) k
theorem laws_toSignedSS_n (l : List (List GSigned)) (h : mSignedSS l ≤ 1048576) (k) : call laws_toSignedSS [.one (.list 1 (l.map (fun l : List GSigned => [.list 17 (l.map eSigned)])))] k = k [.list 1 (l.map (fun l : List GSigned => [.list 17 (l.map eSigned)]))] := call_of (fun k => by
  have hm := h
  unfold mSignedSS at hm
  simp [laws_toSignedSS, show l.length < 1073741824 by omega]
  refine lp_toS l (fun l : List GSigned => [.list 17 (l.map eSigned)]) (fun l : List GSigned => [.list 17 (l.map eSigned)]) [.list 17 []] 1 1 (.list 1 []) rfl (fun i x hx hi K rows hr hz => ?_) fun K => ?_
  · have hs : mSignedS x ≤ sumN mSignedS l := sumN_mem (s := mSignedS) (List.mem_of_getElem? hx)
    simp [-getElem?_pos, laws_toSignedSS_r0, hx, hi, hr, hz, over, laws_toSignedS_n x (by omega), wr_succ (show i < 1000000000000000000 by omega)]
  · simp [laws_toSignedSS_r0]) k
theorem laws_eqSignedSS_n (l : List (List GSigned)) (h : mSignedSS l ≤ 1048576) (k) : call laws_eqSignedSS [.one (.list 1 (l.map (fun l : List GSigned => [.list 17 (l.map eSigned)]))), .one (.list 1 (l.map (fun l : List GSigned => [.list 17 (l.map eSigned)])))] k = k [.bool true] := call_of (fun k => by
  have hm := h
  unfold mSignedSS at hm
  simp [laws_eqSignedSS]
  refine lp_eqS l (fun l : List GSigned => [.list 17 (l.map eSigned)]) 1 (.bool false) rfl (fun i x hx hi K => ?_) fun K => ?_
  · have hs : mSignedS x ≤ sumN mSignedS l := sumN_mem (s := mSignedS) (List.mem_of_getElem? hx)
    simp [-getElem?_pos, laws_eqSignedSS_r0, hx, hi, laws_eqSignedS_n x (by omega), wr_succ (show i < 1000000000000000000 by omega)]
  · simp [laws_eqSignedSS_r0]) k
def mForkS (l : List GFork) : Nat := l.length + sumN mFork l
theorem decForkS {p : PV} (h : Sh.has (.list [.int .i64, .int .i64, .int .i64, .int .i64, .int .i64, .int .i64, .int .i64, .int .i64, .list [.int .i64], .int .i64, .list [.int .i64], .int .i64, .int .i64, .list [.int .i64], .int .i64, .bool, .list [.int .i64, .int .i64], .int .i64, .int .i64, .int .i64, .int .i64, .int .i64, .int .i64, .int .i64, .int .i64, .list [.int .i64], .int .i64, .list [.int .i64], .int .i64, .int .i64, .list [.int .i64], .int .i64, .bool, .list [.int .i64, .int .i64], .int .i64, .int .i64, .int .i64, .int .i64, .int .i64, .int .i64, .int .i64, .int .i64, .list [.int .i64], .int .i64, .list [.int .i64], .int .i64, .int .i64, .list [.int .i64], .int .i64, .bool, .list [.int .i64, .int .i64]]) p) : ∃ l : List GFork, p = .list 51 (l.map eFork) ∧ (l.length ≤ maxLen ∧ ∀ y ∈ l, WFork y) := by
  obtain ⟨l, h1, h2, h3⟩ := has_map decFork 51 rfl h
  exact ⟨l, h1, h2, h3⟩
theorem laws_szForkS_n (l : List GFork) (left : Int) (hw : (l.length ≤ maxLen ∧ ∀ y ∈ l, WFork y)) (h2 : 0 ≤ left) (h3 : left ≤ 1048576) (k) : call laws_szForkS [.one (.list 51 (l.map eFork)), .one (I left)] k = k [I (szr (mForkS l) left)] := call_of (fun k => by
  simp only [laws_szForkS, lenP_eq, List.length_map, binP_sub, wr_left hw.1 h2 h3, binP_lss, iteP_eq, rt_eq, scs_sc, scs_nil, flat_int, true_and, and_true]
  unfold mForkS
  by_cases c : (l.length : Int) ≤ left
  rotate_left
  · simp [szr_over c, show left - (l.length : Int) < 0 by omega]
  simp only [szr_add c, show ¬ (left - (l.length : Int) < 0) by omega, decide_false, Bool.false_eq_true, if_false]
  refine (lp_sz (neg := k [I (-1)]) (fin := fun t => k [I t]) l eFork 51 mFork (left - (l.length : Int)) (I 0) (by omega) (by omega) rfl (fun i x hx hi t ht1 ht2 K => ?_) fun t K => ?_).trans ?_
  · have e := laws_szFork_n x t (hw.2 x (List.mem_of_getElem? hx)) ht1 ht2
    simp [-getElem?_pos, laws_szForkS_r0, hx, hi, e, wr_succ (show i < 1000000000000000000 by omega)]
    by_cases hs : ((mFork x : Nat) : Int) ≤ t
    · simp [szr_yes hs, hs, show ¬ (t - ((mFork x : Nat) : Int) < 0) by omega]
    · simp [szr_not hs, hs]
  · simp [laws_szForkS_r0]
  · by_cases hs : ((sumN mFork l : Nat) : Int) ≤ left - (l.length : Int)
    · simp [szr_yes hs, hs]
    · simp [szr_not hs, hs]) k
theorem laws_toForkS_n (l : List GFork) (h : mForkS l ≤ 1048576) (k) : call laws_toForkS [.one (.list 51 (l.map eFork))] k = k [.list 51 (l.map eFork)] := call_of (fun k => by
  have hm := h
  unfold mForkS at hm
  simp [laws_toForkS, show l.length < 1073741824 by omega]
  refine lp_toS l eFork eFork [I 0, I 0, I 0, I 0, I 0, I 0, I 0, I 0, .list 1 [], I 0, .list 1 [], I 0, I 0, .list 1 [], I 0, .bool false, .list 2 [], I 0, I 0, I 0, I 0, I 0, I 0, I 0, I 0, .list 1 [], I 0, .list 1 [], I 0, I 0, .list 1 [], I 0, .bool false, .list 2 [], I 0, I 0, I 0, I 0, I 0, I 0, I 0, I 0, .list 1 [], I 0, .list 1 [], I 0, I 0, .list 1 [], I 0, .bool false, .list 2 []] 51 51 (.list 51 []) rfl (fun i x hx hi K rows hr hz => ?_) fun K => ?_
  · have hs : mFork x ≤ sumN mFork l := sumN_mem (s := mFork) (List.mem_of_getElem? hx)
    simp [-getElem?_pos, laws_toForkS_r0, hx, hi, hr, hz, over, laws_toFork_n x (by omega), wr_succ (show i < 1000000000000000000 by omega)]
  · simp [laws_toForkS_r0]) k
theorem laws_eqForkS_n (l : List GFork) (h : mForkS l ≤ 1048576) (k) : call laws_eqForkS [.one (.list 51 (l.map eFork)), .one (.list 51 (l.map eFork))] k = k [.bool true] := call_of (fun k => by
  have hm := h
  unfold mForkS at hm
  simp [laws_eqForkS]
  refine lp_eqS l eFork 51 (.bool false) rfl (fun i x hx hi K => ?_) fun K => ?_
  · have hs : mFork x ≤ sumN mFork l := sumN_mem (s := mFork) (List.mem_of_getElem? hx)
    simp [-getElem?_pos, laws_eqForkS_r0, hx, hi, laws_eqFork_n x (by omega), wr_succ (show i < 1000000000000000000 by omega)]
  · simp [laws_eqForkS_r0]) k
structure GKnown where
  Chains : List (List GSigned)
  Forks : List GFork
abbrev eKnown (a : GKnown) : List PV := [.list 1 (a.Chains.map (fun l : List GSigned => [.list 17 (l.map eSigned)])), .list 51 (a.Forks.map eFork)]
def mKnown (a : GKnown) : Nat := mSignedSS a.Chains + (mForkS a.Forks)
def WKnown (a : GKnown) : Prop := (a.Chains.length ≤ maxLen ∧ ∀ y ∈ a.Chains, (y.length ≤ maxLen ∧ ∀ z ∈ y, WSigned z)) ∧ (a.Forks.length ≤ maxLen ∧ ∀ y ∈ a.Forks, WFork y)
theorem decKnown (r : List PV) (hr : Sh.hasAll [.list [.list [.int .i64, .int .i64, .int .i64, .int .i64, .int .i64, .int .i64, .int .i64, .int .i64, .list [.int .i64], .int .i64, .list [.int .i64], .int .i64, .int .i64, .list [.int .i64], .int .i64, .bool, .list [.int .i64, .int .i64]]], .list [.int .i64, .int .i64, .int .i64, .int .i64, .int .i64, .int .i64, .int .i64, .int .i64, .list [.int .i64], .int .i64, .list [.int .i64], .int .i64, .int .i64, .list [.int .i64], .int .i64, .bool, .list [.int .i64, .int .i64], .int .i64, .int .i64, .int .i64, .int .i64, .int .i64, .int .i64, .int .i64, .int .i64, .list [.int .i64], .int .i64, .list [.int .i64], .int .i64, .int .i64, .list [.int .i64], .int .i64, .bool, .list [.int .i64, .int .i64], .int .i64, .int .i64, .int .i64, .int .i64, .int .i64, .int .i64, .int .i64, .int .i64, .list [.int .i64], .int .i64, .list [.int .i64], .int .i64, .int .i64, .list [.int .i64], .int .i64, .bool, .list [.int .i64, .int .i64]]] r) : ∃ a : GKnown, r = eKnown a ∧ WKnown a := by
  obtain ⟨p1, r1, rfl, h1, hr1⟩ := all_cons hr
  obtain ⟨n1, rfl, g1⟩ := decSignedSS h1
  obtain ⟨p2, rfl, h2⟩ := all_one hr1
  obtain ⟨n2, rfl, g2⟩ := decForkS h2
  exact ⟨⟨n1, n2⟩, rfl, ⟨g1, g2⟩⟩
theorem laws_szKnown_n (a : GKnown) (left : Int) (hw : WKnown a) (h2 : 0 ≤ left) (h3 : left ≤ 1048576) (k) : call laws_szKnown [.agg (eKnown a), .one (I left)] k = k [I (szr (mKnown a) left)] := call_of (fun k => by
  obtain ⟨g0, g1⟩ := hw
  unfold mKnown
  simp only [laws_szKnown, un, cur0, laws_szSignedSS_n a.Chains (left) g0 h2 h3, binP_lss, iteP_eq, atP_zero, rt_eq, scs_sc, scs_nil, flat_int, true_and, and_true]
  by_cases c0 : ((mSignedSS a.Chains : Nat) : Int) ≤ left
  rotate_left
  · first | (simp [szr_over c0, szr_not c0]; done) | (simp only [szr_over c0, szr_not c0]; simp)
  simp only [szr_yes c0, szr_add c0, show ¬ (left - ((mSignedSS a.Chains : Nat) : Int) < 0) by omega, decide_false, Bool.false_eq_true, if_false, laws_szForkS_n a.Forks (left - ((mSignedSS a.Chains : Nat) : Int)) g1 (by omega) (by omega), binP_lss, iteP_eq, atP_zero, rt_eq, scs_sc, scs_nil, flat_int, true_and, and_true]
  by_cases c1 : ((mForkS a.Forks : Nat) : Int) ≤ left - ((mSignedSS a.Chains : Nat) : Int)
  rotate_left
  · first | (simp [szr_not c1, szr_not c1]; done) | (simp only [szr_not c1, szr_not c1]; simp)
  simp only [szr_yes c1, show ¬ (left - ((mSignedSS a.Chains : Nat) : Int) - ((mForkS a.Forks : Nat) : Int) < 0) by omega, decide_false, Bool.false_eq_true, if_false, binP_lss, iteP_eq, atP_zero, rt_eq, scs_sc, scs_nil, flat_int, true_and, and_true]) k
theorem laws_toKnown_n (a : GKnown) (h : mKnown a ≤ 1048576) (k) : call laws_toKnown [.agg (eKnown a)] k = k (eKnown a) := call_of (fun k => by
  unfold mKnown at h
  simp [laws_toKnown, laws_toSignedSS_n a.Chains (by omega), laws_toForkS_n a.Forks (by omega)]) k
theorem laws_eqKnown_n (a : GKnown) (h : mKnown a ≤ 1048576) (k) : call laws_eqKnown [.agg (eKnown a), .agg (eKnown a)] k = k [.bool true] := call_of (fun k => by
  unfold mKnown at h
  simp [laws_eqKnown, laws_eqSignedSS_n a.Chains (by omega), laws_eqForkS_n a.Forks (by omega)]) k
structure GTrace where
  Known : GKnown
  Code : Int
  Entry : GEntry
  Zones : List Int
  Moves : Int
abbrev eTrace (a : GTrace) : List PV := [.list 1 (a.Known.Chains.map (fun l : List GSigned => [.list 17 (l.map eSigned)])), .list 51 (a.Known.Forks.map eFork), I a.Code, .str a.Entry.Label, I a.Entry.Kind, I a.Entry.Value, strs a.Entry.Path, ints a.Zones, I a.Moves]
def mTrace (a : GTrace) : Nat := mKnown a.Known + (mEntry a.Entry + (a.Zones.length))
def WTrace (a : GTrace) : Prop := WKnown a.Known ∧ WEntry a.Entry ∧ a.Zones.length ≤ maxLen
theorem decTrace (r : List PV) (hr : Sh.hasAll [.list [.list [.int .i64, .int .i64, .int .i64, .int .i64, .int .i64, .int .i64, .int .i64, .int .i64, .list [.int .i64], .int .i64, .list [.int .i64], .int .i64, .int .i64, .list [.int .i64], .int .i64, .bool, .list [.int .i64, .int .i64]]], .list [.int .i64, .int .i64, .int .i64, .int .i64, .int .i64, .int .i64, .int .i64, .int .i64, .list [.int .i64], .int .i64, .list [.int .i64], .int .i64, .int .i64, .list [.int .i64], .int .i64, .bool, .list [.int .i64, .int .i64], .int .i64, .int .i64, .int .i64, .int .i64, .int .i64, .int .i64, .int .i64, .int .i64, .list [.int .i64], .int .i64, .list [.int .i64], .int .i64, .int .i64, .list [.int .i64], .int .i64, .bool, .list [.int .i64, .int .i64], .int .i64, .int .i64, .int .i64, .int .i64, .int .i64, .int .i64, .int .i64, .int .i64, .list [.int .i64], .int .i64, .list [.int .i64], .int .i64, .int .i64, .list [.int .i64], .int .i64, .bool, .list [.int .i64, .int .i64]], .int .i64, .str, .int .i64, .int .i64, .list [.str], .list [.int .i64], .int .i64] r) : ∃ a : GTrace, r = eTrace a ∧ WTrace a := by
  obtain ⟨p1, r1, rfl, h1, hr1⟩ := all_cons hr
  obtain ⟨n1, rfl, g1⟩ := decSignedSS h1
  obtain ⟨p2, r2, rfl, h2, hr2⟩ := all_cons hr1
  obtain ⟨n2, rfl, g2⟩ := decForkS h2
  obtain ⟨p3, r3, rfl, h3, hr3⟩ := all_cons hr2
  obtain ⟨n3, rfl⟩ := has_int h3
  obtain ⟨p4, r4, rfl, h4, hr4⟩ := all_cons hr3
  obtain ⟨n4, rfl, g4⟩ := has_str h4
  obtain ⟨p5, r5, rfl, h5, hr5⟩ := all_cons hr4
  obtain ⟨n5, rfl⟩ := has_int h5
  obtain ⟨p6, r6, rfl, h6, hr6⟩ := all_cons hr5
  obtain ⟨n6, rfl⟩ := has_int h6
  obtain ⟨p7, r7, rfl, h7, hr7⟩ := all_cons hr6
  obtain ⟨n7, rfl, g7⟩ := has_strs h7
  obtain ⟨p8, r8, rfl, h8, hr8⟩ := all_cons hr7
  obtain ⟨n8, rfl, g8⟩ := has_ints h8
  obtain ⟨p9, rfl, h9⟩ := all_one hr8
  obtain ⟨n9, rfl⟩ := has_int h9
  exact ⟨⟨⟨n1, n2⟩, n3, ⟨n4, n5, n6, n7⟩, n8, n9⟩, rfl, ⟨⟨g1, g2⟩, ⟨g4, g7⟩, g8⟩⟩
theorem laws_szTrace_n (a : GTrace) (left : Int) (hw : WTrace a) (h2 : 0 ≤ left) (h3 : left ≤ 1048576) (k) : call laws_szTrace [.agg (eTrace a), .one (I left)] k = k [I (szr (mTrace a) left)] := call_of (fun k => by
  obtain ⟨g0, g1, g2⟩ := hw
  unfold mTrace
  simp only [laws_szTrace, un, cur0, laws_szKnown_n a.Known (left) g0 h2 h3, binP_lss, iteP_eq, atP_zero, rt_eq, scs_sc, scs_nil, flat_int, true_and, and_true]
  by_cases c0 : ((mKnown a.Known : Nat) : Int) ≤ left
  rotate_left
  · first | (simp [szr_over c0, szr_not c0]; done) | (simp only [szr_over c0, szr_not c0]; simp)
  simp only [szr_yes c0, szr_add c0, show ¬ (left - ((mKnown a.Known : Nat) : Int) < 0) by omega, decide_false, Bool.false_eq_true, if_false, laws_szEntry_n a.Entry (left - ((mKnown a.Known : Nat) : Int)) g1 (by omega) (by omega), binP_lss, iteP_eq, atP_zero, rt_eq, scs_sc, scs_nil, flat_int, true_and, and_true]
  by_cases c1 : ((mEntry a.Entry : Nat) : Int) ≤ left - ((mKnown a.Known : Nat) : Int)
  rotate_left
  · first | (simp [szr_over c1, szr_not c1]; done) | (simp only [szr_over c1, szr_not c1]; simp)
  simp only [szr_yes c1, szr_add c1, show ¬ (left - ((mKnown a.Known : Nat) : Int) - ((mEntry a.Entry : Nat) : Int) < 0) by omega, decide_false, Bool.false_eq_true, if_false, laws_szIntS_n a.Zones (left - ((mKnown a.Known : Nat) : Int) - ((mEntry a.Entry : Nat) : Int)) g2 (by omega) (by omega), binP_lss, iteP_eq, atP_zero, rt_eq, scs_sc, scs_nil, flat_int, true_and, and_true]
  by_cases c2 : ((a.Zones.length : Nat) : Int) ≤ left - ((mKnown a.Known : Nat) : Int) - ((mEntry a.Entry : Nat) : Int)
  rotate_left
  · first | (simp [szr_not c2, szr_not c2]; done) | (simp only [szr_not c2, szr_not c2]; simp)
  simp only [szr_yes c2, show ¬ (left - ((mKnown a.Known : Nat) : Int) - ((mEntry a.Entry : Nat) : Int) - ((a.Zones.length : Nat) : Int) < 0) by omega, decide_false, Bool.false_eq_true, if_false, binP_lss, iteP_eq, atP_zero, rt_eq, scs_sc, scs_nil, flat_int, true_and, and_true]) k
theorem laws_toTrace_n (a : GTrace) (h : mTrace a ≤ 1048576) (k) : call laws_toTrace [.agg (eTrace a)] k = k (eTrace a) := call_of (fun k => by
  unfold mTrace at h
  simp [laws_toTrace, laws_toKnown_n a.Known (by omega), laws_toEntry_n a.Entry (by omega), laws_toIntS_n a.Zones (by omega)]) k
theorem laws_eqTrace_n (a : GTrace) (h : mTrace a ≤ 1048576) (k) : call laws_eqTrace [.agg (eTrace a), .agg (eTrace a)] k = k [.bool true] := call_of (fun k => by
  unfold mTrace at h
  simp [laws_eqTrace, laws_eqKnown_n a.Known (by omega), laws_eqEntry_n a.Entry (by omega), laws_eqIntS_n a.Zones (by omega)]) k
def mEntryS (l : List GEntry) : Nat := l.length + sumN mEntry l
theorem decEntryS {p : PV} (h : Sh.has (.list [.str, .int .i64, .int .i64, .list [.str]]) p) : ∃ l : List GEntry, p = .list 4 (l.map eEntry) ∧ (l.length ≤ maxLen ∧ ∀ y ∈ l, WEntry y) := by
  obtain ⟨l, h1, h2, h3⟩ := has_map decEntry 4 rfl h
  exact ⟨l, h1, h2, h3⟩
theorem laws_szEntryS_n (l : List GEntry) (left : Int) (hw : (l.length ≤ maxLen ∧ ∀ y ∈ l, WEntry y)) (h2 : 0 ≤ left) (h3 : left ≤ 1048576) (k) : call laws_szEntryS [.one (.list 4 (l.map eEntry)), .one (I left)] k = k [I (szr (mEntryS l) left)] := call_of (fun k => by
  simp only [laws_szEntryS, lenP_eq, List.length_map, binP_sub, wr_left hw.1 h2 h3, binP_lss, iteP_eq, rt_eq, scs_sc, scs_nil, flat_int, true_and, and_true]
  unfold mEntryS
  by_cases c : (l.length : Int) ≤ left
  rotate_left
  · simp [szr_over c, show left - (l.length : Int) < 0 by omega]
  simp only [szr_add c, show ¬ (left - (l.length : Int) < 0) by omega, decide_false, Bool.false_eq_true, if_false]
  refine (lp_sz (neg := k [I (-1)]) (fin := fun t => k [I t]) l eEntry 4 mEntry (left - (l.length : Int)) (I 0) (by omega) (by omega) rfl (fun i x hx hi t ht1 ht2 K => ?_) fun t K => ?_).trans ?_
  · have e := laws_szEntry_n x t (hw.2 x (List.mem_of_getElem? hx)) ht1 ht2
    simp [-getElem?_pos, laws_szEntryS_r0, hx, hi, e, wr_succ (show i < 1000000000000000000 by omega)]
    by_cases hs : ((mEntry x : Nat) : Int) ≤ t
    · simp [szr_yes hs, hs, show ¬ (t - ((mEntry x : Nat) : Int) < 0) by omega]
    · simp [szr_not hs, hs]
  · simp [laws_szEntryS_r0]
  · by_cases hs : ((sumN mEntry l : Nat) : Int) ≤ left - (l.length : Int)
    · simp [szr_yes hs, hs]
    · simp [szr_not hs, hs]) k
theorem laws_toEntryS_n (l : List GEntry) (h : mEntryS l ≤ 1048576) (k) : call laws_toEntryS [.one (.list 4 (l.map eEntry))] k = k [.list 4 (l.map eEntry)] := call_of (fun k => by
  have hm := h
  unfold mEntryS at hm
  simp [laws_toEntryS, show l.length < 1073741824 by omega]
  refine lp_toS l eEntry eEntry [.str ⟨#[]⟩, I 0, I 0, .list 1 []] 4 4 (.list 4 []) rfl (fun i x hx hi K rows hr hz => ?_) fun K => ?_
  · have hs : mEntry x ≤ sumN mEntry l := sumN_mem (s := mEntry) (List.mem_of_getElem? hx)
    simp [-getElem?_pos, laws_toEntryS_r0, hx, hi, hr, hz, over, laws_toEntry_n x (by omega), wr_succ (show i < 1000000000000000000 by omega)]
  · simp [laws_toEntryS_r0]) k
theorem laws_eqEntryS_n (l : List GEntry) (h : mEntryS l ≤ 1048576) (k) : call laws_eqEntryS [.one (.list 4 (l.map eEntry)), .one (.list 4 (l.map eEntry))] k = k [.bool true] := call_of (fun k => by
  have hm := h
  unfold mEntryS at hm
  simp [laws_eqEntryS]
  refine lp_eqS l eEntry 4 (.bool false) rfl (fun i x hx hi K => ?_) fun K => ?_
  · have hs : mEntry x ≤ sumN mEntry l := sumN_mem (s := mEntry) (List.mem_of_getElem? hx)
    simp [-getElem?_pos, laws_eqEntryS_r0, hx, hi, laws_eqEntry_n x (by omega), wr_succ (show i < 1000000000000000000 by omega)]
  · simp [laws_eqEntryS_r0]) k
structure GDecision where
  Code : Int
  Entry : GEntry
  Others : List GEntry
abbrev eDecision (a : GDecision) : List PV := [I a.Code, .str a.Entry.Label, I a.Entry.Kind, I a.Entry.Value, strs a.Entry.Path, .list 4 (a.Others.map eEntry)]
def mDecision (a : GDecision) : Nat := mEntry a.Entry + (mEntryS a.Others)
def WDecision (a : GDecision) : Prop := WEntry a.Entry ∧ (a.Others.length ≤ maxLen ∧ ∀ y ∈ a.Others, WEntry y)
theorem decDecision (r : List PV) (hr : Sh.hasAll [.int .i64, .str, .int .i64, .int .i64, .list [.str], .list [.str, .int .i64, .int .i64, .list [.str]]] r) : ∃ a : GDecision, r = eDecision a ∧ WDecision a := by
  obtain ⟨p1, r1, rfl, h1, hr1⟩ := all_cons hr
  obtain ⟨n1, rfl⟩ := has_int h1
  obtain ⟨p2, r2, rfl, h2, hr2⟩ := all_cons hr1
  obtain ⟨n2, rfl, g2⟩ := has_str h2
  obtain ⟨p3, r3, rfl, h3, hr3⟩ := all_cons hr2
  obtain ⟨n3, rfl⟩ := has_int h3
  obtain ⟨p4, r4, rfl, h4, hr4⟩ := all_cons hr3
  obtain ⟨n4, rfl⟩ := has_int h4
  obtain ⟨p5, r5, rfl, h5, hr5⟩ := all_cons hr4
  obtain ⟨n5, rfl, g5⟩ := has_strs h5
  obtain ⟨p6, rfl, h6⟩ := all_one hr5
  obtain ⟨n6, rfl, g6⟩ := decEntryS h6
  exact ⟨⟨n1, ⟨n2, n3, n4, n5⟩, n6⟩, rfl, ⟨⟨g2, g5⟩, g6⟩⟩
theorem laws_szDecision_n (a : GDecision) (left : Int) (hw : WDecision a) (h2 : 0 ≤ left) (h3 : left ≤ 1048576) (k) : call laws_szDecision [.agg (eDecision a), .one (I left)] k = k [I (szr (mDecision a) left)] := call_of (fun k => by
  obtain ⟨g0, g1⟩ := hw
  unfold mDecision
  simp only [laws_szDecision, un, cur0, laws_szEntry_n a.Entry (left) g0 h2 h3, binP_lss, iteP_eq, atP_zero, rt_eq, scs_sc, scs_nil, flat_int, true_and, and_true]
  by_cases c0 : ((mEntry a.Entry : Nat) : Int) ≤ left
  rotate_left
  · first | (simp [szr_over c0, szr_not c0]; done) | (simp only [szr_over c0, szr_not c0]; simp)
  simp only [szr_yes c0, szr_add c0, show ¬ (left - ((mEntry a.Entry : Nat) : Int) < 0) by omega, decide_false, Bool.false_eq_true, if_false, laws_szEntryS_n a.Others (left - ((mEntry a.Entry : Nat) : Int)) g1 (by omega) (by omega), binP_lss, iteP_eq, atP_zero, rt_eq, scs_sc, scs_nil, flat_int, true_and, and_true]
  by_cases c1 : ((mEntryS a.Others : Nat) : Int) ≤ left - ((mEntry a.Entry : Nat) : Int)
  rotate_left
  · first | (simp [szr_not c1, szr_not c1]; done) | (simp only [szr_not c1, szr_not c1]; simp)
  simp only [szr_yes c1, show ¬ (left - ((mEntry a.Entry : Nat) : Int) - ((mEntryS a.Others : Nat) : Int) < 0) by omega, decide_false, Bool.false_eq_true, if_false, binP_lss, iteP_eq, atP_zero, rt_eq, scs_sc, scs_nil, flat_int, true_and, and_true]) k
theorem laws_toDecision_n (a : GDecision) (h : mDecision a ≤ 1048576) (k) : call laws_toDecision [.agg (eDecision a)] k = k (eDecision a) := call_of (fun k => by
  unfold mDecision at h
  simp [laws_toDecision, laws_toEntry_n a.Entry (by omega), laws_toEntryS_n a.Others (by omega)]) k
theorem laws_eqDecision_n (a : GDecision) (h : mDecision a ≤ 1048576) (k) : call laws_eqDecision [.agg (eDecision a), .agg (eDecision a)] k = k [.bool true] := call_of (fun k => by
  unfold mDecision at h
  simp [laws_eqDecision, laws_eqEntry_n a.Entry (by omega), laws_eqEntryS_n a.Others (by omega)]) k
end Go.Ev
set_option linter.unusedVariables false
set_option linter.unusedSimpArgs false
set_option maxRecDepth 4000
namespace Go.Ev
open Go.Proofs
def inR (n a b : Int) : Bool := decide (a ≤ n) && decide (n ≤ b)
theorem impl_InRange_n (n a b : Int) (k) : call impl_InRange [.one (I n), .one (I a), .one (I b)] k = k [.bool (inR n a b)] := call_of (fun k => by
  simp [impl_InRange, inR]; split <;> simp [*]) k
theorem spec_l1In_n (n a b : Int) (k) : call spec_l1In [.one (I n), .one (I a), .one (I b)] k = k [.bool (inR n a b)] := call_of (fun k => by
  simp [spec_l1In, inR]; split <;> simp [*]) k
theorem mem_get {α : Type} {l : List α} {i : Nat} {x : α} (h : l[i]? = some x) : x ∈ l := List.mem_of_getElem? h
deriving instance DecidableEq for GKeys, GHead, GSig, GSigned, GFork, GEntry, GKnown
theorem stepB {b c : Bool} {P : Prop} {k : List PV → Prop} (h : b = true → (P ↔ k [.bool c])) : (if b = true then P else k [.bool false]) ↔ k [.bool (b && c)] := by
  cases b
  · simp
  · simpa using h rfl
def sNo (a : GKeys) : Bool := decide (a.Need = 0) && decide (a.Lst.length = 0)
theorem impl_NoKeys_n (a : GKeys) (k) : call impl_NoKeys [.agg (eKeys a)] k = k [.bool (sNo a)] := call_of (fun k => by
  have e : ((a.Lst.length : Int) == 0) = decide (a.Lst.length = 0) := by
    by_cases h : a.Lst.length = 0
    · rw [h]; rfl
    · rw [decide_eq_false h]; exact beq_eq_false_iff_ne.2 (by omega)
  simp only [impl_NoKeys, un, cur0, binP_eql, lenP_eq, List.length_map, e, sNo, iteP_eq, rt_eq, scs_sc, scs_nil, flat_bool, true_and, and_true]
  by_cases h : a.Need = 0 <;> simp [h]) k
theorem spec_NoKeys_n (a : GKeys) (k) : call spec_NoKeys [.agg (eKeys a)] k = k [.bool (sNo a)] := call_of (fun k => by
  have e : ((a.Lst.length : Int) == 0) = decide (a.Lst.length = 0) := by
    by_cases h : a.Lst.length = 0
    · rw [h]; rfl
    · rw [decide_eq_false h]; exact beq_eq_false_iff_ne.2 (by omega)
  simp only [spec_NoKeys, un, cur0, binP_eql, lenP_eq, List.length_map, e, sNo, iteP_eq, rt_eq, scs_sc, scs_nil, flat_bool, true_and, and_true]
  by_cases h : a.Need = 0 <;> simp [h]) k
theorem beqI (a b : Int) : (a == b) = decide (a = b) := by
  by_cases h : a = b
  · subst h; simp
  · rw [decide_eq_false h]; exact beq_eq_false_iff_ne.2 h
def azB (x : UInt8) : Bool := (decide (97 ≤ (x.toNat : Int)) && decide ((x.toNat : Int) ≤ 122)) || (decide (48 ≤ (x.toNat : Int)) && decide ((x.toNat : Int) ≤ 57))
def dashB (x : UInt8) : Bool := decide ((x.toNat : Int) = 45)
def badL (n : Nat) (i : Nat) (x : UInt8) : Bool := !(azB x || (dashB x && (decide (0 < i) && decide (i + 1 < n))))
def sLabel (s : ByteArray) : Bool := !anyI (badL s.data.toList.length) 0 s.data.toList && inR s.size 1 8
theorem size_data (s : ByteArray) : s.size = s.data.toList.length := rfl
theorem impl_IsLabel_n (s : ByteArray) (h : s.size ≤ 1048576) (k) : call impl_IsLabel [.one (.str s)] k = k [.bool (sLabel s)] := call_of (fun k => by
  simp only [impl_IsLabel, lenS_eq, rt_eq, scs_sc, scs_nil, flat_bool, true_and, impl_InRange_n, atP_zero]
  refine (lp_anyI (P := k [.bool false]) (fin := k [.bool (inR s.size 1 8)]) s.data.toList (fun i => [.str s, .bool false, I s.size, I i]) (badL s.data.toList.length) rfl (fun i x hx hi K => ?_) fun K => ?_).trans ?_
  · have hw := wr_succ (show i < 1000000000000000000 by rw [size_data] at h; omega)
    have hl : IntKind.i64.wrap ((s.size : Int) - 1) = (s.size : Int) - 1 := wr_eq (by omega) (by omega)
    have hs := size_data s
    simp only [impl_IsLabel_r0, un, cur0, binP_lss, binP_leq, binP_geq, binP_gtr, binP_eql, binP_add, binP_sub, lenS_eq, charP_eq, Int.toNat_natCast, hx, oP, iteP_eq, unP_not, beqI, hw, hl, show decide ((i : Int) < s.size) = true by rw [hs]; simp; omega, if_true, show (0 : Int) ≤ i by omega, true_and]
    unfold badL azB dashB
    have d1 : decide ((i : Int) < (s.size : Int) - 1) = decide (i + 1 < s.data.toList.length) := by apply decide_eq_decide.2; rw [hs]; omega
    have d2 : decide ((0 : Int) < (i : Int)) = decide (0 < i) := by apply decide_eq_decide.2; omega
    rw [d1, d2]
    generalize decide (97 ≤ (x.toNat : Int)) = b1
    generalize decide ((x.toNat : Int) ≤ 122) = b2
    generalize decide (48 ≤ (x.toNat : Int)) = b3
    generalize decide ((x.toNat : Int) ≤ 57) = b4
    generalize decide ((x.toNat : Int) = 45) = b5
    generalize decide (0 < i) = b6
    generalize decide (i + 1 < s.data.toList.length) = b7
    cases b1 <;> cases b2 <;> cases b3 <;> cases b4 <;> cases b5 <;> cases b6 <;> cases b7 <;> simp
  · simp only [impl_IsLabel_r0, un, cur0, binP_lss, iteP_eq, show decide (((s.data.toList.length : Nat) : Int) < s.size) = false by rw [size_data]; simp, lenS_eq, impl_InRange_n, atP_zero]
    simp
  · unfold sLabel
    cases anyI (badL s.data.toList.length) 0 s.data.toList <;> simp) k
theorem label_eq (L : List UInt8) (x y : UInt8) (hx : L[0]? = some x) (hy : L[L.length - 1]? = some y) : anyI (badL L.length) 0 L = (dashB x || (dashB y || L.any fun b => !(azB b || dashB b))) := by
  rw [Bool.eq_iff_iff]
  constructor
  · intro h
    rcases hd : (dashB x || (dashB y || L.any fun b => !(azB b || dashB b))) with _ | _
    · exfalso
      simp only [Bool.or_eq_false_iff] at hd
      obtain ⟨d1, d2, d3⟩ := hd
      have hn : anyI (badL L.length) 0 L = false := by
        rw [anyI_false]
        intro j b hb
        have hj := lt_of_get hb
        have h3 := List.any_eq_false.1 d3 b (List.mem_of_getElem? hb)
        unfold badL
        by_cases ha : azB b = true
        · simp [ha]
        · have hdb : dashB b = true := by cases h : dashB b <;> simp [ha, h] at h3 ⊢
          have j0 : j ≠ 0 := by rintro rfl; rw [hx] at hb; injection hb with hb; subst hb; rw [d1] at hdb; cases hdb
          have j1 : j ≠ L.length - 1 := by rintro rfl; rw [hy] at hb; injection hb with hb; subst hb; rw [d2] at hdb; cases hdb
          simp [hdb, show 0 < j by omega, show j + 1 < L.length by omega]
      rw [hn] at h; cases h
    · rfl
  · intro h
    cases hn : anyI (badL L.length) 0 L with
    | true => rfl
    | false =>
      exfalso
      rw [anyI_false] at hn
      have hl := lt_of_get hy
      have az_dash : ∀ b, dashB b = true → azB b = false := by
        intro b hb
        unfold dashB at hb
        unfold azB
        simp only [decide_eq_true_eq] at hb
        simp [hb]
      simp only [Bool.or_eq_true] at h
      rcases h with h | h | h
      · have := hn 0 x hx
        simp [badL, h, az_dash x h] at this
      · have := hn _ y hy
        simp [badL, h, az_dash y h] at this
        omega
      · obtain ⟨b, hb, h2⟩ := List.any_eq_true.1 h
        obtain ⟨j, hj⟩ := List.mem_iff_getElem?.1 hb
        have := hn j b hj
        unfold badL at this
        simp only [Bool.not_eq_true', Bool.or_eq_false_iff] at h2
        simp [h2.1, h2.2] at this
theorem spec_IsLabel_n (s : ByteArray) (h : s.size ≤ 1048576) (k) : call spec_IsLabel [.one (.str s)] k = k [.bool (sLabel s)] := call_of (fun k => by
  have hs := size_data s
  unfold sLabel
  cases hr : inR s.size 1 8 with
  | false => simp [spec_IsLabel, spec_l1In_n, hr]
  | true =>
    have h1 : 1 ≤ s.size := by unfold inR at hr; simp at hr; omega
    obtain ⟨x, hx⟩ : ∃ x, s.data.toList[0]? = some x := ⟨s.data.toList[0]'(by omega), List.getElem?_eq_getElem (by omega)⟩
    obtain ⟨y, hy⟩ : ∃ y, s.data.toList[s.data.toList.length - 1]? = some y := ⟨_, List.getElem?_eq_getElem (by omega)⟩
    have hl : IntKind.i64.wrap ((s.size : Int) - 1) = ((s.size - 1 : Nat) : Int) := by rw [wr_eq (by omega) (by omega)]; omega
    have hy' : s.data.toList[s.size - 1]? = some y := hy
    rw [label_eq _ x y hx hy]
    simp only [spec_IsLabel, lenS_eq, spec_l1In_n, hr, unP_not, atP_zero, iteP_eq, binP_sub, hl, binP_eql, beqI, charP_eq, Int.toNat_natCast, show ((0 : Int)).toNat = 0 from rfl, hx, hy', oP, rt_eq, scs_sc, scs_nil, flat_bool, true_and, Bool.not_true, Bool.false_eq_true, if_false, show (0 : Int) ≤ 0 by omega, show (0 : Int) ≤ ((s.size - 1 : Nat) : Int) by omega]
    rw [show decide ((x.toNat : Int) = 45) = dashB x from rfl, show decide ((y.toNat : Int) = 45) = dashB y from rfl]
    have key : lp (fun L w => spec_IsLabel_r0 w L (k [PV.bool false]) fun q29 q30 q31 => k [PV.bool true]) [PV.str s, PV.bool false, I 0] ↔ k [.bool (!(s.data.toList.any fun b => !(azB b || dashB b)))] := by
      refine (lp_any (P := k [.bool false]) (fin := k [.bool true]) s.data.toList (fun i => [.str s, .bool false, I i]) (fun b => !(azB b || dashB b)) rfl (fun i x hx hi K => ?_) fun K => ?_).trans ?_
      · have hw := wr_succ (show i < 1000000000000000000 by omega)
        simp only [spec_IsLabel_r0, un, cur0, binP_lss, binP_leq, binP_geq, binP_gtr, binP_eql, binP_neq, binP_add, lenS_eq, charP_eq, Int.toNat_natCast, hx, oP, iteP_eq, unP_not, bne, beqI, hw, show decide ((i : Int) < s.size) = true by rw [hs]; simp; omega, if_true, show (0 : Int) ≤ i by omega, true_and]
        unfold azB dashB
        rw [show decide ((x.toNat : Int) < 97) = !decide (97 ≤ (x.toNat : Int)) by by_cases h : 97 ≤ (x.toNat : Int) <;> simp [h] <;> omega,
          show decide ((x.toNat : Int) < 48) = !decide (48 ≤ (x.toNat : Int)) by by_cases h : 48 ≤ (x.toNat : Int) <;> simp [h] <;> omega,
          show decide (122 < (x.toNat : Int)) = !decide ((x.toNat : Int) ≤ 122) by by_cases h : (x.toNat : Int) ≤ 122 <;> simp [h] <;> omega,
          show decide (57 < (x.toNat : Int)) = !decide ((x.toNat : Int) ≤ 57) by by_cases h : (x.toNat : Int) ≤ 57 <;> simp [h] <;> omega]
        generalize decide (97 ≤ (x.toNat : Int)) = b1
        generalize decide ((x.toNat : Int) ≤ 122) = b2
        generalize decide (48 ≤ (x.toNat : Int)) = b3
        generalize decide ((x.toNat : Int) ≤ 57) = b4
        generalize decide ((x.toNat : Int) = 45) = b5
        cases b1 <;> cases b2 <;> cases b3 <;> cases b4 <;> cases b5 <;> simp
      · simp only [spec_IsLabel_r0, un, cur0, binP_lss, lenS_eq, iteP_eq, show decide (((s.data.toList.length : Nat) : Int) < s.size) = false by rw [size_data]; simp]
        simp
      · cases (s.data.toList.any fun b => !(azB b || dashB b)) <;> simp
    rw [propext key]
    cases dashB x <;> cases dashB y <;> simp) k
def sIsPath (p : List ByteArray) : Bool := inR p.length 1 4 && !(p.any fun s => !sLabel s)
theorem path_le {p : List ByteArray} (h : p.length + sumN ByteArray.size p ≤ 1048576) : p.length ≤ 1048576 ∧ ∀ s ∈ p, s.size ≤ 1048576 := by
  refine ⟨by omega, fun s hs => ?_⟩
  have := sumN_mem (s := ByteArray.size) hs
  omega
theorem impl_IsPath_n (p : List ByteArray) (h : p.length + sumN ByteArray.size p ≤ 1048576) (k) : call impl_IsPath [.one (strs p)] k = k [.bool (sIsPath p)] := call_of (fun k => by
  obtain ⟨hl, hs⟩ := path_le h
  have e : ∀ k, call slices_IndexFunc_string_F_impl_IsPath_1 [.one (strs p), .fn 79 []] k = k [I (idx (fun s => !sLabel s) p)] := call_of (fun k => by
    simp [slices_IndexFunc_string_F_impl_IsPath_1]
    refine lp_find (Q := fun i => k [I i]) p (fun i => [strs p, I 0, I p.length, I i]) (fun s => !sLabel s) rfl (fun i x hx hi K => ?_) fun K => ?_
    · have e1 : ∀ k, call impl_IsPath_1 [.one (.str x)] k = k [.bool (!sLabel x)] := call_of (fun k => by simp [impl_IsPath_1, impl_IsLabel_n x (hs x (mem_get hx))])
      simp [-getElem?_pos, slices_IndexFunc_string_F_impl_IsPath_1_r0, hx, hi, e1, wr_succ (show i < 1000000000000000000 by omega)]
    · simp [slices_IndexFunc_string_F_impl_IsPath_1_r0])
  have e2 : ∀ k, call slices_ContainsFunc_string_F_impl_IsPath_1 [.one (strs p), .fn 79 []] k = k [.bool (p.any fun s => !sLabel s)] := call_of (fun k => by simp [slices_ContainsFunc_string_F_impl_IsPath_1, e, idx_any])
  simp only [impl_IsPath, lenP_eq, List.length_map, impl_InRange_n, e2, unP_not, atP_zero, iteP_eq, rt_eq, scs_sc, scs_nil, flat_bool, true_and]
  exact stepB fun _ => Iff.rfl) k
theorem spec_IsPath_n (p : List ByteArray) (h : p.length + sumN ByteArray.size p ≤ 1048576) (k) : call spec_IsPath [.one (strs p)] k = k [.bool (sIsPath p)] := call_of (fun k => by
  obtain ⟨hl, hs⟩ := path_le h
  simp only [spec_IsPath, rt_eq, scs_sc, scs_nil, flat_bool, true_and, lenP_eq, List.length_map, spec_l1In_n, atP_zero]
  refine (lp_any (P := k [.bool false]) (fin := k [.bool (inR p.length 1 4)]) p (fun i => [strs p, .bool false, I i]) (fun s => !sLabel s) rfl (fun i x hx hi K => ?_) fun K => ?_).trans ?_
  · have e := spec_IsLabel_n x (hs x (mem_get hx))
    simp [-getElem?_pos, spec_IsPath_r0, hx, hi, e, wr_succ (show i < 1000000000000000000 by omega)]
  · simp [spec_IsPath_r0, spec_l1In_n]
  · unfold sIsPath
    cases (p.any fun s => !sLabel s) <;> simp) k
theorem entry_le {e : GEntry} (h : mEntry e ≤ 1048576) : e.Label.size ≤ 1048576 ∧ e.Path.length + sumN ByteArray.size e.Path ≤ 1048576 := by unfold mEntry at h; omega
end Go.Ev
set_option linter.unusedVariables false
set_option linter.unusedSimpArgs false
set_option maxRecDepth 4000
namespace Go.Ev
open Go.Proofs
/-! ### Numerals, joined texts -/
def inI (n : Int) : Prop := -9223372036854775808 ≤ n ∧ n ≤ 9223372036854775807
abbrev S (l : List UInt8) : PV := .str ⟨l.toArray⟩
theorem S_of (s : ByteArray) : PV.str s = S s.data.toList := by cases s; rfl
theorem bin_str (a b : List UInt8) (k : PV → Prop) : binP .add (S a) (S b) k = (a.length + b.length ≤ 9223372036854775807 ∧ k (S (a ++ b))) := by
  have e : (⟨a.toArray⟩ : ByteArray) ++ ⟨b.toArray⟩ = ⟨(a ++ b).toArray⟩ := by
    apply ByteArray.ext
    rw [ByteArray.data_append]
    simp
  have h1 : (⟨a.toArray⟩ : ByteArray).size = a.length := by simp [ByteArray.size]
  have h2 : (⟨b.toArray⟩ : ByteArray).size = b.length := by simp [ByteArray.size]
  show (_ ∧ k _) = _
  rw [h1, h2, e]
theorem text_one (n : Int) (k : PV → Prop) : textP (.list 1 [[.int .u8 n]]) k = k (S [UInt8.ofNat n.toNat]) := rfl
def digs (u : Nat) : List UInt8 := if u = 0 then [] else Go.Lib.decDigits u
theorem digs_step {u : Nat} (h : u ≠ 0) : digs u = digs (u / 10) ++ [UInt8.ofNat (48 + u % 10)] := by
  unfold digs
  rw [if_neg h]
  by_cases h1 : u < 10
  · rw [Go.Lib.decDigits_one h1, if_pos (by omega), show u % 10 = u by omega]; rfl
  · rw [if_neg (by omega), Go.Lib.decDigits, dif_neg h1]
theorem digs_len : ∀ (m u : Nat), u < 10 ^ m → (digs u).length ≤ m
  | 0, u, h => by
    have : u = 0 := by simpa using h
    subst this; simp [digs]
  | m + 1, u, h => by
    by_cases h0 : u = 0
    · subst h0; simp [digs]
    · rw [digs_step h0, List.length_append]
      have h2 : u / 10 < 10 ^ m := by rw [Nat.pow_succ] at h; omega
      have := digs_len m (u / 10) h2
      simp only [List.length_singleton]; omega
theorem wr_tmod (x : Int) : (x.tmod 10).natAbs = x.natAbs % 10 := by rw [Int.natAbs_tmod]; rfl
theorem wr_tdiv (x : Int) : (x.tdiv 10).natAbs = x.natAbs / 10 := by rw [Int.natAbs_tdiv]; rfl
theorem u8_digit {d : Nat} (h : d < 10) : IntKind.u8.wrap (48 + (d : Int)) = ((48 + d : Nat) : Int) := by
  have : ∀ d : Fin 10, IntKind.u8.wrap (48 + ((d : Nat) : Int)) = ((48 + (d : Nat) : Nat) : Int) := by decide
  exact this ⟨d, h⟩
theorem fc_u8 (n : Int) : flatCond [.pv (.int .u8 0)] [.pv (.int .u8 n)] := by intro x hx; simp at hx; subst hx; rfl
theorem tdiv_in {x : Int} (h : inI x) : IntKind.i64.wrap (x.tdiv 10) = x.tdiv 10 := by
  have h1 := wr_tdiv x
  unfold inI at h
  exact wr_eq (by omega) (by omega)
theorem fmt_lp (n : Int) (z : PV) (A : PV → PV → Prop) : ∀ (m : Nat) (x : Int) (s : List UInt8), x.natAbs < 10 ^ m → inI x → s.length + m ≤ 1000 →
    (lp (fun L w => spec_FormatInt_r0 w L (fun q14 q15 q16 q17 => A q14 q16)) [I n, z, S s, I x] ↔ A (I n) (S (digs x.natAbs ++ s)))
  | 0, x, s, h, hx, hs => by
    have h0 : x = 0 := by have : x.natAbs = 0 := by simpa using h
                          omega
    subst h0
    refine itP_mono_end fun K => ?_
    simp [spec_FormatInt_r0, digs]
  | m + 1, x, s, h, hx, hs => by
    by_cases h0 : x = 0
    · subst h0
      refine itP_mono_end fun K => ?_
      simp [spec_FormatInt_r0, digs]
    · have hd : x.natAbs % 10 < 10 := Nat.mod_lt _ (by omega)
      have hq : (x.tdiv 10).natAbs < 10 ^ m := by rw [wr_tdiv]; rw [Nat.pow_succ] at h; omega
      have hqi : inI (x.tdiv 10) := by have := wr_tdiv x; unfold inI at *; omega
      have ih := fmt_lp n z A m (x.tdiv 10) (UInt8.ofNat (48 + x.natAbs % 10) :: s) hq hqi (by simp only [List.length_cons]; omega)
      have he : digs (x.tdiv 10).natAbs ++ (UInt8.ofNat (48 + x.natAbs % 10) :: s) = digs x.natAbs ++ s := by
        rw [digs_step (u := x.natAbs) (by omega), wr_tdiv, List.append_assoc]; rfl
      rw [he] at ih
      refine (lp_step fun K => ?_).trans ih
      have hm := wr_tmod x
      have hb : 1 + s.length ≤ 9223372036854775807 := by omega
      have hdiv := tdiv_in hx
      simp only [spec_FormatInt_r0, un, cur0, binP_neq, bne, beqI, h0, decide_false, Bool.not_false, iteP_eq, if_true, binP_rem, binP_lss]
      by_cases hneg : x.tmod 10 < 0
      · have e1 : IntKind.i64.wrap (0 - x.tmod 10) = ((x.natAbs % 10 : Nat) : Int) := by rw [wr_eq (by omega) (by omega)]; omega
        have e2 : IntKind.i64.wrap (48 + ((x.natAbs % 10 : Nat) : Int)) = 48 + ((x.natAbs % 10 : Nat) : Int) := wr_eq (by omega) (by omega)
        have e3 := u8_digit hd
        simp only [hneg, decide_true, if_true, unP, binP_add, convP, fc_u8, text_one, bin_str, binP_quo, hdiv, List.length_singleton, List.singleton_append, true_and, hb]
        rw [e1, e2, e3, Int.toNat_natCast]
        simp
      · have e1 : x.tmod 10 = ((x.natAbs % 10 : Nat) : Int) := by omega
        have e2 : IntKind.i64.wrap (48 + ((x.natAbs % 10 : Nat) : Int)) = 48 + ((x.natAbs % 10 : Nat) : Int) := wr_eq (by omega) (by omega)
        have e3 := u8_digit hd
        simp only [hneg, decide_false, Bool.false_eq_true, if_false, binP_add, convP, fc_u8, text_one, bin_str, binP_quo, hdiv, List.length_singleton, List.singleton_append, true_and, hb]
        rw [e1, e2, e3, Int.toNat_natCast]
        simp
def itoa (n : Int) : List UInt8 := Go.Lib.itoa n
theorem itoa_len {n : Int} (h : inI n) : (itoa n).length ≤ 21 := Go.Lib.itoa_length_le n h.1 h.2
theorem spec_FormatInt_n (n : Int) (h : inI n) (k) : call spec_FormatInt [.one (I n)] k = k [S (itoa n)] := call_of (fun k => by
  have hlen := itoa_len h
  unfold inI at h
  by_cases h0 : n = 0
  · subst h0
    simp only [spec_FormatInt, binP_eql, beqI, decide_true, iteP_eq, if_true, rt_eq, scs_sc, scs_nil, true_and]
    rw [show itoa 0 = [48] by unfold itoa Go.Lib.itoa; rw [if_neg (by omega)]; exact Go.Lib.decDigits_one (by omega)]
    simp
  · simp only [spec_FormatInt, binP_eql, beqI, h0, decide_false, iteP_eq, Bool.false_eq_true, if_false]
    have hs : n.natAbs < 10 ^ 19 := by have : (10 : Nat) ^ 19 = 10000000000000000000 := rfl
                                       omega
    refine (fmt_lp n (S []) (fun a b => binP .lss a (I 0) fun r18 => iteP r18 (binP .add (S [45]) b fun r19 => rt [.sc] [r19] k) (rt [.sc] [b] k)) 19 n [] hs h (by simp)).trans ?_
    have hd := digs_len 19 _ hs
    unfold itoa Go.Lib.itoa digs
    rw [if_neg (by omega), List.append_nil]
    unfold digs at hd
    rw [if_neg (by omega)] at hd
    by_cases h1 : n < 0
    · rw [if_pos h1]
      simp only [binP_lss, h1, decide_true, iteP_eq, if_true, bin_str, rt_eq, scs_sc, scs_nil, true_and, List.singleton_append, List.length_singleton]
      simp; omega
    · rw [if_neg h1, show n.toNat = n.natAbs by omega]
      simp only [binP_lss, h1, decide_false, iteP_eq, Bool.false_eq_true, if_false, rt_eq, scs_sc, scs_nil, true_and]
      simp) k
theorem impl_FormatInt_n (n : Int) (h : inI n) (k) : call impl_FormatInt [.one (I n)] k = k [S (itoa n)] := call_of (fun k => by
  have e : ∀ k, call strconv_Itoa [.one (I n)] k = k [S (itoa n)] := call_of (fun k => by
    unfold inI at h
    simp only [strconv_Itoa, h.1, h.2, true_and, itoa])
  simp only [impl_FormatInt, e, atP_zero, rt_eq, scs_sc, scs_nil, true_and]
  simp) k
end Go.Ev
set_option linter.unusedVariables false
set_option linter.unusedSimpArgs false
set_option maxRecDepth 4000
namespace Go.Ev
open Go.Proofs
abbrev rL (l : List UInt8) : List PV := [S l]
theorem strsOf_rL : ∀ (L : List (List UInt8)), strsOf (L.map rL) = some (L.map fun l => ⟨l.toArray⟩)
  | [] => rfl
  | l :: L => by
    rw [List.map_cons]
    show (match strsOf (L.map rL) with | some m => some (_ :: m) | none => none) = _
    rw [strsOf_rL L]; rfl
theorem strs_rL (p : List ByteArray) : strs p = .list 1 ((p.map fun s => s.data.toList).map rL) := by
  show PV.list 1 (p.map rS) = _
  rw [List.map_map]
  rfl
theorem Join_n (L : List (List UInt8)) (sep : List UInt8) (h1 : L.length ≤ 140737488355328) (h2 : (Go.Lib.join L sep).length ≤ 140737488355328) (k) : call strings_Join [.one (.list 1 (L.map rL)), .one (S sep)] k = k [S (Go.Lib.join L sep)] := call_of (fun k => by
  have e : joinS (L.map fun l => (⟨l.toArray⟩ : ByteArray)) ⟨sep.toArray⟩ = Go.Lib.join L sep := by
    unfold joinS
    rw [List.map_map]
    simp [Function.comp_def]
  show (match strsOf (L.map rL) with | some l => _ | none => False) ↔ _
  rw [strsOf_rL]
  simp only [e, List.length_map, h1, h2, true_and]) k
theorem tail_len (sep : List UInt8) (c : Nat) : ∀ (r : List (List UInt8)), (∀ y ∈ r, y.length ≤ c) → (Go.Lib.joinTail sep r).length ≤ r.length * (sep.length + c)
  | [], _ => by simp [Go.Lib.joinTail]
  | y :: r, h => by
    have h1 := tail_len sep c r fun z hz => h z (by simp [hz])
    have h2 := h y (by simp)
    rw [show Go.Lib.joinTail sep (y :: r) = (sep ++ y) ++ Go.Lib.joinTail sep r from rfl, List.length_append, List.length_append, List.length_cons, Nat.succ_mul]
    omega
theorem join_len {sep : List UInt8} {c : Nat} {L : List (List UInt8)} (h : ∀ y ∈ L, y.length ≤ c) : (Go.Lib.join L sep).length ≤ L.length * (sep.length + c) := by
  cases L with
  | nil => rw [Go.Lib.join_nil]; simp
  | cons x r =>
    have h1 := tail_len sep c r fun z hz => h z (by simp [hz])
    have h2 := h x (by simp)
    rw [Go.Lib.join_cons, List.length_append, List.length_cons, Nat.succ_mul]
    omega
theorem join_take {L : List (List UInt8)} {sep : List UInt8} {i : Nat} {y : List UInt8} (h : L[i]? = some y) : Go.Lib.join (L.take (i + 1)) sep = if i = 0 then y else Go.Lib.join (L.take i) sep ++ (sep ++ y) := by
  cases L with
  | nil => simp at h
  | cons x r =>
    cases i with
    | zero => simp at h; subst h; simp [Go.Lib.join_one]
    | succ i =>
      have h1 : r[i]? = some y := by simpa using h
      rw [if_neg (by omega), List.take_succ_cons, List.take_succ_cons, Go.Lib.join_cons, Go.Lib.join_cons, Go.Lib.joinTail_take_succ sep r i y h1]
      simp [List.append_assoc]
def allI (l : List Int) : Prop := ∀ x ∈ l, inI x
def joinN (sep : List UInt8) (l : List Int) : List UInt8 := Go.Lib.join (l.map itoa) sep
theorem joinN_len {l : List Int} (hl : allI l) (sep : List UInt8) : (joinN sep l).length ≤ l.length * (sep.length + 21) := by
  have := join_len (sep := sep) (c := 21) (L := l.map itoa) (fun y hy => by
    obtain ⟨x, hx, rfl⟩ := List.mem_map.1 hy
    exact itoa_len (hl x hx))
  rwa [List.length_map] at this
theorem fc_str (s : ByteArray) : flatCond [.pv (.str ⟨#[]⟩)] [.pv (.str s)] := by intro x hx; simp at hx; subst hx; rfl
theorem impl_joined_n (sep : List UInt8) (l : List Int) (h : l.length ≤ 1048576) (hs : sep.length ≤ 10) (hl : allI l) (k) : call impl_joined [.one (S sep), .one (ints l)] k = k [S (joinN sep l)] := call_of (fun k => by
  have hlen := joinN_len hl sep
  have hb : l.length * (sep.length + 21) ≤ 1048576 * 31 := Nat.mul_le_mul h (by omega)
  simp only [impl_joined, lenP_eq, List.length_map, true_and, show (0 : Nat) ≤ 16777216 by omega]
  refine lp_list l (fun i => [S sep, .str ⟨#[]⟩, ints l, I l.length, I i, .list 1 (((l.take i).map itoa).map rL)]) (by simp) (fun i x hx hi K => ?_) fun K => ?_
  · have e := impl_FormatInt_n x (hl x (mem_get hx))
    have hm : (l.take (i + 1)).map itoa = (l.take i).map itoa ++ [itoa x] := by rw [take_snoc hx, List.map_append]; rfl
    rw [hm]
    have hti : (l.take i).length = i := by simp; omega
    simp [-getElem?_pos, impl_joined_r0, hx, hi, e, fc_str, catP, wr_succ (show i < 1000000000000000000 by omega)]
    omega
  · simp only [impl_joined_r0, un, cur0, binP_lss, Int.lt_irrefl, decide_false, iteP_eq, Bool.false_eq_true, if_false, List.take_length]
    have e := Join_n (l.map itoa) sep (by rw [List.length_map]; omega) (by unfold joinN at hlen; omega)
    simp only [e, atP_zero, rt_eq, scs_sc, scs_nil, true_and]
    unfold joinN
    simp) k
def fmtKeys (a : GKeys) : List UInt8 := if sNo a = true then [45] else itoa a.Need ++ [47] ++ joinN [43] a.Lst
def RKeys (a : GKeys) : Prop := inI a.Need ∧ allI a.Lst
theorem fmtKeys_len {a : GKeys} (h : mKeys a ≤ 1048576) (hr : RKeys a) : (fmtKeys a).length ≤ 24000000 := by
  unfold fmtKeys
  split
  · simp
  · have h1 := itoa_len hr.1
    have h2 := joinN_len hr.2 [43]
    unfold mKeys at h
    have h3 : a.Lst.length * ([43].length + 21) ≤ 1048576 * 22 := Nat.mul_le_mul h (by simp)
    simp only [List.length_append, List.length_singleton] at *
    omega
theorem impl_FormatKeys_n (a : GKeys) (h : mKeys a ≤ 1048576) (hr : RKeys a) (k) : call impl_FormatKeys [.agg (eKeys a)] k = k [S (fmtKeys a)] := call_of (fun k => by
  have e1 := impl_NoKeys_n a
  have e2 := impl_FormatInt_n a.Need hr.1
  have e3 := impl_joined_n [43] a.Lst h (by simp) hr.2
  have l1 := itoa_len hr.1
  have l2 := joinN_len hr.2 [43]
  have l3 : a.Lst.length * ([43].length + 21) ≤ 1048576 * 22 := Nat.mul_le_mul h (by simp)
  unfold fmtKeys
  cases hn : sNo a with
  | true => simp [impl_FormatKeys, e1, hn]
  | false =>
    simp only [impl_FormatKeys, un, cur0, e1, hn, iteP_eq, Bool.false_eq_true, if_false, atP_zero, e2, e3, bin_str, List.length_append, List.length_singleton, rt_eq, scs_sc, scs_nil, true_and]
    simp only [List.length_singleton] at l2 l3
    have hA : (itoa a.Need).length + 1 ≤ 9223372036854775807 := by omega
    have hB : (itoa a.Need).length + 1 + (joinN [43] a.Lst).length ≤ 9223372036854775807 := by omega
    simp only [hA, hB, true_and]
    simp) k
theorem spec_FormatKeys_n (a : GKeys) (h : mKeys a ≤ 1048576) (hr : RKeys a) (k) : call spec_FormatKeys [.agg (eKeys a)] k = k [S (fmtKeys a)] := call_of (fun k => by
  have hln : a.Lst.length ≤ 1048576 := h
  have e1 := spec_NoKeys_n a
  have e2 := spec_FormatInt_n a.Need hr.1
  have l1 := itoa_len hr.1
  unfold fmtKeys
  cases hn : sNo a with
  | true => simp [spec_FormatKeys, e1, hn]
  | false =>
    simp only [spec_FormatKeys, un, cur0, e1, hn, iteP_eq, Bool.false_eq_true, if_false, atP_zero, e2, bin_str, List.length_append, List.length_singleton]
    have hc : (itoa a.Need).length + 1 ≤ 9223372036854775807 := by omega
    simp only [hc, true_and]
    refine lp_list a.Lst (fun i => [.str ⟨#[]⟩, S (itoa a.Need ++ [47] ++ Go.Lib.join ((a.Lst.map itoa).take i) [43]), I i, ints a.Lst, I a.Need]) (by simp [Go.Lib.join_nil]) (fun i x hx hi K => ?_) fun K => ?_
    · have e := spec_FormatInt_n x (hr.2 x (mem_get hx))
      have lx := itoa_len (hr.2 x (mem_get hx))
      have hxm : (a.Lst.map itoa)[i]? = some (itoa x) := by rw [List.getElem?_map, hx]; rfl
      have hj := join_take (sep := [43]) hxm
      have hjl := join_len (sep := [43]) (c := 21) (L := (a.Lst.map itoa).take i) (fun y hy => by
        obtain ⟨z, hz, rfl⟩ := List.mem_map.1 (List.mem_of_mem_take hy)
        exact itoa_len (hr.2 z hz))
      have hil : ((a.Lst.map itoa).take i).length ≤ 1048576 := by unfold mKeys at h; simp; omega
      have hjb : ((a.Lst.map itoa).take i).length * ([43].length + 21) ≤ 1048576 * 22 := Nat.mul_le_mul hil (by simp)
      rw [hj]
      generalize Go.Lib.join ((a.Lst.map itoa).take i) [43] = J at *
      by_cases h0 : i = 0
      · subst h0
        simp only [spec_FormatKeys_r0, un, cur0, lenP_eq, List.length_map, binP_lss, show ((0 : Nat) : Int) < (a.Lst.length : Int) by omega, decide_true, iteP_eq, if_true, binP_gtr, show ¬ ((0 : Int) < ((0 : Nat) : Int)) by omega, decide_false, Bool.false_eq_true, if_false, elemP_map, Int.toNat_natCast, hx, oP_some, atP_zero, e, bin_str, binP_add, wr_succ (show 0 < 1000000000000000000 by omega)]
        have hJ : J = [] := by have := hjl; simp at this; exact this
        subst hJ
        simp
        omega
      · simp only [spec_FormatKeys_r0, un, cur0, lenP_eq, List.length_map, binP_lss, show (i : Int) < (a.Lst.length : Int) by omega, decide_true, iteP_eq, if_true, binP_gtr, show (0 : Int) < (i : Int) by omega, elemP_map, Int.toNat_natCast, hx, oP_some, atP_zero, e, bin_str, binP_add, wr_succ (show i < 1000000000000000000 by omega), h0, if_false, List.length_append, List.length_singleton]
        simp only [List.length_singleton] at hjb hjl
        have hA : (itoa a.Need).length + 1 + J.length + 1 ≤ 9223372036854775807 := by omega
        have hB : (itoa a.Need).length + 1 + J.length + 1 + (itoa x).length ≤ 9223372036854775807 := by omega
        simp only [hA, hB, true_and, show (0 : Int) ≤ (i : Int) by omega]
        simp [List.append_assoc]
    · simp only [spec_FormatKeys_r0, un, cur0, lenP_eq, List.length_map, binP_lss, Int.lt_irrefl, decide_false, iteP_eq, Bool.false_eq_true, if_false, rt_eq, scs_sc, scs_nil, true_and]
      have ht : (a.Lst.map itoa).take a.Lst.length = a.Lst.map itoa := List.take_of_length_le (by simp)
      rw [ht]
      unfold joinN
      simp) k
end Go.Ev
set_option linter.unusedVariables false
set_option linter.unusedSimpArgs false
set_option maxRecDepth 4000
namespace Go.Ev
open Go.Proofs
/-! ### Paths, entries -/
theorem dropA {A B C : Prop} (hA : A) (h : B ↔ C) : (A ∧ B) ↔ C := ⟨fun x => h.1 x.2, fun c => ⟨hA, h.2 c⟩⟩
def pathL (p : List ByteArray) : List (List UInt8) := p.map fun s => s.data.toList
def fmtPath (p : List ByteArray) : List UInt8 := if sIsPath p = true then Go.Lib.join (pathL p) [47] else []
theorem pathL_len {p : List ByteArray} (h : p.length + sumN ByteArray.size p ≤ 1048576) : (pathL p).length ≤ 1048576 ∧ ∀ y ∈ pathL p, y.length ≤ 1048576 := by
  obtain ⟨hl, hs⟩ := path_le h
  refine ⟨by unfold pathL; rw [List.length_map]; exact hl, fun y hy => ?_⟩
  obtain ⟨s, hs', rfl⟩ := List.mem_map.1 hy
  have := hs s hs'
  rwa [ByteArray.size, ← Array.length_toList] at this
theorem joinL_len {L : List (List UInt8)} {sep : List UInt8} (h1 : L.length ≤ 1048576) (h2 : ∀ y ∈ L, y.length ≤ 1048576) (h3 : sep.length ≤ 1) : (Go.Lib.join L sep).length ≤ 1099512676352 := by
  have := join_len (sep := sep) h2
  have h4 : L.length * (sep.length + 1048576) ≤ 1048576 * (1 + 1048576) := Nat.mul_le_mul h1 (by omega)
  omega
theorem fmtPath_len {p : List ByteArray} (h : p.length + sumN ByteArray.size p ≤ 1048576) : (fmtPath p).length ≤ 1099512676352 := by
  unfold fmtPath
  split
  · exact joinL_len (pathL_len h).1 (pathL_len h).2 (by simp)
  · simp
theorem impl_FormatPath_n (p : List ByteArray) (h : p.length + sumN ByteArray.size p ≤ 1048576) (k) : call impl_FormatPath [.one (strs p)] k = k [S (fmtPath p)] := call_of (fun k => by
  have e := impl_IsPath_n p h
  obtain ⟨h1, h2⟩ := pathL_len h
  have h3 := joinL_len (sep := [47]) h1 h2 (by simp)
  have j := Join_n (pathL p) [47] (by omega) (by omega)
  have js : strs p = .list 1 ((pathL p).map rL) := strs_rL p
  rw [← js] at j
  unfold fmtPath
  cases hp : sIsPath p with
  | true => simp only [impl_FormatPath, e, hp, atP_zero, unP_not, iteP_eq, Bool.not_true, Bool.false_eq_true, if_false, if_true, j, rt_eq, scs_sc, scs_nil, flat_str, true_and]
  | false => simp only [impl_FormatPath, e, hp, atP_zero, unP_not, iteP_eq, Bool.not_false, Bool.false_eq_true, if_false, if_true, rt_eq, scs_sc, scs_nil, flat_str, true_and]) k
theorem spec_FormatPath_n (p : List ByteArray) (h : p.length + sumN ByteArray.size p ≤ 1048576) (k) : call spec_FormatPath [.one (strs p)] k = k [S (fmtPath p)] := call_of (fun k => by
  have e := spec_IsPath_n p h
  obtain ⟨h1, h2⟩ := pathL_len h
  unfold fmtPath
  cases hp : sIsPath p with
  | false => simp only [spec_FormatPath, e, hp, atP_zero, unP_not, iteP_eq, Bool.not_false, Bool.false_eq_true, if_false, if_true, rt_eq, scs_sc, scs_nil, flat_str, true_and]
  | true =>
    cases p with
    | nil => simp [sIsPath, inR] at hp
    | cons x q =>
      simp only [spec_FormatPath, e, hp, atP_zero, unP_not, iteP_eq, Bool.not_true, Bool.false_eq_true, if_false, if_true, elemP_map, Int.toNat_zero, List.getElem?_cons_zero, oP_some, Int.le_refl, true_and]
      refine lp_list q (fun i => [strs (x :: q), .str ⟨#[]⟩, S (Go.Lib.join ((pathL (x :: q)).take (i + 1)) [47]), I ((i : Int) + 1)]) (by simp [pathL, Go.Lib.join_one]) (fun i y hy hi K => ?_) fun K => ?_
      · have hg : (x :: q)[i + 1]? = some y := by simpa using hy
        have hm : (pathL (x :: q))[i + 1]? = some y.data.toList := by unfold pathL; rw [List.getElem?_map, hg]; rfl
        have hj := join_take (sep := [47]) hm
        have hb := joinL_len (L := (pathL (x :: q)).take (i + 1)) (sep := [47]) (by rw [List.length_take]; omega) (fun z hz => h2 z (List.mem_of_mem_take hz)) (by simp)
        have hy2 := h2 _ (List.mem_of_getElem? hm)
        have hlen : (pathL (x :: q)).length = q.length + 1 := by simp [pathL]
        rw [if_neg (by omega)] at hj
        rw [hj]
        generalize Go.Lib.join ((pathL (x :: q)).take (i + 1)) [47] = J at *
        have hA : J.length + 1 ≤ 9223372036854775807 := by omega
        have hB : J.length + 1 + y.data.toList.length ≤ 9223372036854775807 := by omega
        simp only [spec_FormatPath_r0, un, cur0, lenP_eq, List.length_map, List.length_cons, binP_lss, show (i : Int) + 1 < ((q.length + 1 : Nat) : Int) by omega, decide_true, iteP_eq, if_true, elemP_map, show ((i : Int) + 1).toNat = i + 1 by omega, hg, oP_some, atP_zero, S_of y, bin_str, binP_add, List.length_append, List.length_singleton, hA, hB, true_and, show (0 : Int) ≤ (i : Int) + 1 by omega]
        rw [show ((i + 1 : Nat) : Int) + 1 = (i : Int) + 1 + 1 by omega, wr_eq (by omega) (by omega)]
        have hC : J.length ≤ 9223372036854775806 := by omega
        have hD : J.length + 1 + y.size ≤ 9223372036854775807 := by rw [ByteArray.size, ← Array.length_toList]; omega
        simp [List.append_assoc, hC, hD]
      · simp only [spec_FormatPath_r0, un, cur0, lenP_eq, List.length_map, List.length_cons, binP_lss, show ¬ ((q.length : Int) + 1 < ((q.length + 1 : Nat) : Int)) by omega, decide_false, iteP_eq, Bool.false_eq_true, if_false, rt_eq, scs_sc, scs_nil, true_and]
        have ht : (pathL (x :: q)).take (q.length + 1) = pathL (x :: q) := List.take_of_length_le (by simp [pathL])
        rw [ht]
        simp) k
def fmtEntry (e : GEntry) : List UInt8 := e.Label.data.toList ++ (if e.Kind = 2 then [61, 35] ++ itoa e.Value else if e.Kind = 3 then [61, 62] ++ itoa e.Value ++ [58] ++ fmtPath e.Path else [61] ++ itoa e.Value)
theorem label_len {e : GEntry} (h : mEntry e ≤ 1048576) : e.Label.data.toList.length ≤ 1048576 := by
  have := (entry_le h).1
  rwa [ByteArray.size, ← Array.length_toList] at this
theorem fmtEntry_len {e : GEntry} (h : mEntry e ≤ 1048576) (hv : inI e.Value) : (fmtEntry e).length ≤ 1099513724999 := by
  have l1 := itoa_len hv
  have l2 := fmtPath_len (entry_le h).2
  have l3 := label_len h
  unfold fmtEntry
  split
  · simp only [List.length_append, List.length_cons, List.length_nil]; omega
  · split <;> (simp only [List.length_append, List.length_cons, List.length_nil]; omega)
theorem impl_FormatEntry_n (e : GEntry) (h : mEntry e ≤ 1048576) (hv : inI e.Value) (k) : call impl_FormatEntry [.agg (eEntry e)] k = k [S (fmtEntry e)] := call_of (fun k => by
  have e1 := impl_FormatInt_n e.Value hv
  have e2 := impl_FormatPath_n e.Path (entry_le h).2
  have l1 := itoa_len hv
  have l2 := fmtPath_len (entry_le h).2
  have l3 := label_len h
  unfold fmtEntry
  generalize hP : fmtPath e.Path = P at *
  generalize hI : itoa e.Value = N at *
  simp only [impl_FormatEntry, un, cur0, S_of e.Label, e1, e2, atP_zero, binP_eql, beqI, iteP_eq, decide_eq_true_eq]
  generalize e.Label.data.toList = L at *
  by_cases h2 : e.Kind = 2
  · simp only [h2, if_true, bin_str, List.length_append, List.length_cons, List.length_nil, rt_eq, scs_sc, scs_nil, flat_str, true_and]
    simp
    (repeat refine dropA (by omega) ?_)
    exact Iff.rfl
  · by_cases h3 : e.Kind = 3
    · simp only [h2, h3, if_true, if_false, bin_str, List.length_append, List.length_cons, List.length_nil, rt_eq, scs_sc, scs_nil, flat_str, true_and]
      simp
      (repeat refine dropA (by omega) ?_)
      exact Iff.rfl
    · simp only [h2, h3, if_true, if_false, bin_str, List.length_append, List.length_cons, List.length_nil, rt_eq, scs_sc, scs_nil, flat_str, true_and]
      simp
      (repeat refine dropA (by omega) ?_)
      exact Iff.rfl) k
theorem spec_FormatEntry_n (e : GEntry) (h : mEntry e ≤ 1048576) (hv : inI e.Value) (k) : call spec_FormatEntry [.agg (eEntry e)] k = k [S (fmtEntry e)] := call_of (fun k => by
  have e1 := spec_FormatInt_n e.Value hv
  have e2 := spec_FormatPath_n e.Path (entry_le h).2
  have l1 := itoa_len hv
  have l2 := fmtPath_len (entry_le h).2
  have l3 := label_len h
  unfold fmtEntry
  generalize hP : fmtPath e.Path = P at *
  generalize hI : itoa e.Value = N at *
  simp only [spec_FormatEntry, un, cur0, S_of e.Label, e1, e2, atP_zero, binP_eql, beqI, iteP_eq, decide_eq_true_eq]
  generalize e.Label.data.toList = L at *
  by_cases h2 : e.Kind = 2
  · simp only [h2, if_true, bin_str, List.length_append, List.length_cons, List.length_nil, rt_eq, scs_sc, scs_nil, flat_str, true_and]
    simp
    (repeat refine dropA (by omega) ?_)
    exact Iff.rfl
  · by_cases h3 : e.Kind = 3
    · simp only [h2, h3, if_true, if_false, bin_str, List.length_append, List.length_cons, List.length_nil, rt_eq, scs_sc, scs_nil, flat_str, true_and]
      simp
      (repeat refine dropA (by omega) ?_)
      exact Iff.rfl
    · simp only [h2, h3, if_true, if_false, bin_str, List.length_append, List.length_cons, List.length_nil, rt_eq, scs_sc, scs_nil, flat_str, true_and]
      simp
      (repeat refine dropA (by omega) ?_)
      exact Iff.rfl) k
end Go.Ev
set_option linter.unusedVariables false
set_option linter.unusedSimpArgs false
set_option maxRecDepth 4000
namespace Go.Ev
open Go.Proofs
/-! ### Ranges of what is handed -/
theorem has_at : ∀ {es : List Sh} {ps : List PV} {i : Nat} {e : Sh} {p : PV}, Sh.hasAll es ps → es[i]? = some e → ps[i]? = some p → Sh.has e p
  | [], ps, i, e, p, h, h1, h2 => by simp at h1
  | x :: es, ps, i, e, p, h, h1, h2 => by
    obtain ⟨q, r, rfl, k1, k2⟩ := all_cons h
    cases i with
    | zero => simp at h1 h2; subst h1 h2; exact k1
    | succ i => exact has_at k2 (by simpa using h1) (by simpa using h2)
theorem int_in {n : Int} (h : Sh.has (.int .i64) (I n)) : inI n := by
  simp only [Sh.has] at h
  obtain ⟨m, h1, h2⟩ := h
  cases h1
  simp only [Lit.wf, Bool.and_eq_true, decide_eq_true_eq] at h2
  exact h2
theorem at_int {es : List Sh} {ps : List PV} {n : Int} (i : Nat) (h : Sh.hasAll es ps) (h1 : es[i]? = some (.int .i64)) (h2 : ps[i]? = some (I n)) : inI n := int_in (has_at h h1 h2)
theorem at_ints {es : List Sh} {ps : List PV} {l : List Int} (i : Nat) (h : Sh.hasAll es ps) (h1 : es[i]? = some (.list [.int .i64])) (h2 : ps[i]? = some (ints l)) : allI l := by
  have h3 := has_at h h1 h2
  simp only [Sh.has] at h3
  obtain ⟨rows, h4, _, h5⟩ := h3
  intro x hx
  have h6 : rows = l.map rI := by injection h4 with _ h4; exact h4.symm
  have h7 := h5 (rI x) (by rw [h6]; exact List.mem_map.2 ⟨x, hx, rfl⟩)
  exact at_int 0 h7 rfl rfl
theorem rngKeys {a : GKeys} (h : Sh.hasAll [.list [.int .i64], .int .i64] (eKeys a)) : RKeys a := ⟨at_int 1 h rfl rfl, at_ints 0 h rfl rfl⟩
/-! ### Names of codes -/
def nm (L : List (List UInt8)) (c : Int) : List UInt8 := if inR c 1 L.length = true then L.getD (c - 1).toNat [] else []
theorem inR_iff {n a b : Int} : inR n a b = true ↔ a ≤ n ∧ n ≤ b := by unfold inR; simp
theorem impl_nameOf_n (c : Int) (L : List (List UInt8)) (hL : L.length ≤ 100) (k) : call impl_nameOf [.one (I c), .one (.list 1 (L.map rL))] k = k [S (nm L c)] := call_of (fun k => by
  unfold nm
  cases hc : inR c 1 L.length with
  | false => simp only [impl_nameOf, lenP_eq, List.length_map, impl_InRange_n, hc, atP_zero, unP_not, iteP_eq, Bool.not_false, if_true, Bool.false_eq_true, if_false, rt_eq, scs_sc, scs_nil, flat_str, true_and]
  | true =>
    obtain ⟨h1, h2⟩ := inR_iff.1 hc
    have hi : (c - 1).toNat < L.length := by omega
    have hg : L[(c - 1).toNat]? = some (L[(c - 1).toNat]) := List.getElem?_eq_getElem hi
    simp only [impl_nameOf, lenP_eq, List.length_map, impl_InRange_n, hc, atP_zero, unP_not, iteP_eq, Bool.not_true, if_true, Bool.false_eq_true, if_false, binP_sub, wr_eq (show -9223372036854775808 ≤ c - 1 by omega) (show c - 1 < 9223372036854775808 by omega), elemP_map, hg, oP_some, rt_eq, scs_sc, scs_nil, flat_str, true_and, show (0 : Int) ≤ c - 1 by omega]
    rw [List.getD_eq_getElem?_getD, hg]
    simp) k
abbrev hdL : List (List UInt8) := [[111, 119, 110, 101, 114], [104, 101, 105, 114], [106, 117, 100, 103, 101]]
abbrev cdL : List (List UInt8) := [[111, 107], [97, 98, 115, 101, 110, 116], [110, 111, 110, 101], [107, 105, 110, 100], [109, 111, 118, 101, 115], [112, 97, 116, 104]]
abbrev dcL : List (List UInt8) := [[115, 117, 114, 101], [97, 103, 114, 101, 101, 100], [97, 115, 107], [97, 98, 115, 101, 110, 116], [110, 111, 110, 101]]
theorem nm_len {L : List (List UInt8)} (h : ∀ y ∈ L, y.length ≤ 10) (c : Int) : (nm L c).length ≤ 10 := by
  unfold nm
  split
  · rw [List.getD_eq_getElem?_getD]
    cases hg : L[(c - 1).toNat]? with
    | none => simp
    | some y => exact h y (List.mem_of_getElem? hg)
  · simp
theorem impl_CodeText_n (c : Int) (k) : call impl_CodeText [.one (I c)] k = k [S (nm cdL c)] := call_of (fun k => by
  have e : ∀ k, call impl_nameOf [.one (I c), .one (.list 1 [[(.str ⟨#[111, 107]⟩)], [(.str ⟨#[97, 98, 115, 101, 110, 116]⟩)], [(.str ⟨#[110, 111, 110, 101]⟩)], [(.str ⟨#[107, 105, 110, 100]⟩)], [(.str ⟨#[109, 111, 118, 101, 115]⟩)], [(.str ⟨#[112, 97, 116, 104]⟩)]])] k = k [S (nm cdL c)] := impl_nameOf_n c cdL (by simp)
  simp only [impl_CodeText, e, atP_zero, flatCond_pv, flatCond_nil, flat_str, rt_eq, scs_sc, scs_nil, true_and]
  simp) k
theorem impl_DecisionName_n (c : Int) (k) : call impl_DecisionName [.one (I c)] k = k [S (nm dcL c)] := call_of (fun k => by
  have e : ∀ k, call impl_nameOf [.one (I c), .one (.list 1 [[(.str ⟨#[115, 117, 114, 101]⟩)], [(.str ⟨#[97, 103, 114, 101, 101, 100]⟩)], [(.str ⟨#[97, 115, 107]⟩)], [(.str ⟨#[97, 98, 115, 101, 110, 116]⟩)], [(.str ⟨#[110, 111, 110, 101]⟩)]])] k = k [S (nm dcL c)] := impl_nameOf_n c dcL (by simp)
  simp only [impl_DecisionName, e, atP_zero, flatCond_pv, flatCond_nil, flat_str, rt_eq, scs_sc, scs_nil, true_and]
  simp) k
theorem spec_CodeText_n (c : Int) (k) : call spec_CodeText [.one (I c)] k = k [S (nm cdL c)] := call_of (fun k => by
  unfold nm
  rw [show ((cdL.length : Nat) : Int) = 6 from rfl]
  cases hc : inR c 1 6 with
  | false => simp only [spec_CodeText, spec_l1In_n, hc, atP_zero, unP_not, iteP_eq, Bool.not_false, if_true, Bool.false_eq_true, if_false, rt_eq, scs_sc, scs_nil, flat_str, true_and]
  | true =>
    obtain ⟨h1, h2⟩ := inR_iff.1 hc
    have hd : c = 1 ∨ c = 2 ∨ c = 3 ∨ c = 4 ∨ c = 5 ∨ c = 6 := by omega
    rcases hd with rfl | rfl | rfl | rfl | rfl | rfl <;> simp [spec_CodeText, spec_l1In_n, hc, rowP, flats]) k
theorem spec_DecisionName_n (c : Int) (k) : call spec_DecisionName [.one (I c)] k = k [S (nm dcL c)] := call_of (fun k => by
  unfold nm
  rw [show ((dcL.length : Nat) : Int) = 5 from rfl]
  cases hc : inR c 1 5 with
  | false => simp only [spec_DecisionName, spec_l1In_n, hc, atP_zero, unP_not, iteP_eq, Bool.not_false, if_true, Bool.false_eq_true, if_false, rt_eq, scs_sc, scs_nil, flat_str, true_and]
  | true =>
    obtain ⟨h1, h2⟩ := inR_iff.1 hc
    have hd : c = 1 ∨ c = 2 ∨ c = 3 ∨ c = 4 ∨ c = 5 := by omega
    rcases hd with rfl | rfl | rfl | rfl | rfl <;> simp [spec_DecisionName, spec_l1In_n, hc, rowP, flats]) k
/-! ### Heads -/
def kindT (c : Int) : List UInt8 := if inR c 1 3 = true then hdL.getD (c - 1).toNat [] else [63]
theorem kindT_len (c : Int) : (kindT c).length ≤ 10 := by
  have := nm_len (L := hdL) (by decide) c
  unfold nm at this
  unfold kindT
  split
  · rename_i h; rw [show ((hdL.length : Nat) : Int) = 3 from rfl, if_pos h] at this; exact this
  · simp
def RHead (a : GHead) : Prop := inI a.Epoch ∧ inI a.Time ∧ inI a.Until ∧ inI a.Count ∧ RKeys a.Keys
theorem rngHead {a : GHead} (h : Sh.hasAll [.int .i64, .int .i64, .int .i64, .int .i64, .int .i64, .int .i64, .int .i64, .int .i64, .list [.int .i64], .int .i64, .list [.int .i64], .int .i64, .int .i64, .list [.int .i64], .int .i64, .bool] (eHead a)) : RHead a :=
  ⟨at_int 1 h rfl rfl, at_int 3 h rfl rfl, at_int 4 h rfl rfl, at_int 5 h rfl rfl, at_int 9 h rfl rfl, at_ints 8 h rfl rfl⟩
def frzT (b : Bool) : List UInt8 := if b = true then [32, 102, 114, 111, 122, 101, 110] else []
def fmtHead (a : GHead) : List UInt8 := itoa a.Epoch ++ ([32] ++ (kindT a.Kind ++ ([32] ++ (itoa a.Time ++ ([45] ++ (itoa a.Until ++ ([32] ++ (itoa a.Count ++ ([32] ++ (fmtKeys a.Keys ++ frzT a.Frozen))))))))))
theorem fmtHead_len {a : GHead} (h : mKeys a.Keys ≤ 1048576) (hr : RHead a) : (fmtHead a).length ≤ 25000000 := by
  have l1 := itoa_len hr.1
  have l2 := itoa_len hr.2.1
  have l3 := itoa_len hr.2.2.1
  have l4 := itoa_len hr.2.2.2.1
  have l5 := fmtKeys_len h hr.2.2.2.2
  have l6 := kindT_len a.Kind
  have l7 : (frzT a.Frozen).length ≤ 10 := by unfold frzT; split <;> simp
  unfold fmtHead
  simp only [List.length_append, List.length_cons, List.length_nil]
  omega
theorem joinN_two (sep : List UInt8) (x y : Int) : joinN sep [x, y] = itoa x ++ (sep ++ itoa y) := by
  unfold joinN
  rw [List.map_cons, List.map_cons, List.map_nil, Go.Lib.join_cons]
  simp [Go.Lib.joinTail]
theorem join_five (a b c d e : List UInt8) : Go.Lib.join [a, b, c, d, e] [32] = a ++ ([32] ++ (b ++ ([32] ++ (c ++ ([32] ++ (d ++ ([32] ++ e))))))) := by
  rw [Go.Lib.join_cons]
  simp [Go.Lib.joinTail]
theorem kind_impl (c : Int) : (decide ((⟨(nm hdL c).toArray⟩ : ByteArray) = ⟨#[]⟩) = true ∧ kindT c = [63]) ∨ (decide ((⟨(nm hdL c).toArray⟩ : ByteArray) = ⟨#[]⟩) = false ∧ kindT c = nm hdL c) := by
  unfold nm kindT
  rw [show ((hdL.length : Nat) : Int) = 3 from rfl]
  cases hc : inR c 1 3 with
  | false => left; exact ⟨by simp, by simp⟩
  | true =>
    right
    obtain ⟨h1, h2⟩ := inR_iff.1 hc
    have hd : c = 1 ∨ c = 2 ∨ c = 3 := by omega
    rcases hd with rfl | rfl | rfl <;> exact ⟨by decide, rfl⟩
theorem impl_FormatHead_n (a : GHead) (h : mKeys a.Keys ≤ 1048576) (hr : RHead a) (k) : call impl_FormatHead [.agg (eHead a)] k = k [S (fmtHead a)] := call_of (fun k => by
  have l1 := itoa_len hr.1
  have l2 := itoa_len hr.2.1
  have l3 := itoa_len hr.2.2.1
  have l4 := itoa_len hr.2.2.2.1
  have l5 := fmtKeys_len h hr.2.2.2.2
  have l6 := kindT_len a.Kind
  have e1 := impl_FormatInt_n a.Epoch hr.1
  have e2 := impl_FormatInt_n a.Count hr.2.2.2.1
  have e3 := impl_FormatKeys_n a.Keys h hr.2.2.2.2
  have e4 : ∀ k, call impl_joined [.one (.str ⟨#[45]⟩), .one (.list 1 [[I a.Time], [I a.Until]])] k = k [S (itoa a.Time ++ ([45] ++ itoa a.Until))] := fun k => by
    rw [← joinN_two]
    exact impl_joined_n [45] [a.Time, a.Until] (by simp) (by simp) (by intro x hx; simp at hx; rcases hx with rfl | rfl; exact hr.2.1; exact hr.2.2.1) k
  have e5 : ∀ k, call impl_nameOf [.one (I a.Kind), .one (.list 1 [[(.str ⟨#[111, 119, 110, 101, 114]⟩)], [(.str ⟨#[104, 101, 105, 114]⟩)], [(.str ⟨#[106, 117, 100, 103, 101]⟩)]])] k = k [S (nm hdL a.Kind)] := impl_nameOf_n a.Kind hdL (by simp)
  have hj : ∀ kd : List UInt8, kd.length ≤ 10 → ∀ k, call strings_Join [.one (.list 1 [[S (itoa a.Epoch)], [S kd], [S (itoa a.Time ++ ([45] ++ itoa a.Until))], [S (itoa a.Count)], [S (fmtKeys a.Keys)]]), .one (.str ⟨#[32]⟩)] k = k [S (Go.Lib.join [itoa a.Epoch, kd, itoa a.Time ++ ([45] ++ itoa a.Until), itoa a.Count, fmtKeys a.Keys] [32])] := fun kd hkd =>
    Join_n [itoa a.Epoch, kd, itoa a.Time ++ ([45] ++ itoa a.Until), itoa a.Count, fmtKeys a.Keys] [32] (by simp) (by
      rw [join_five]
      simp only [List.length_append, List.length_cons, List.length_nil]
      omega)
  have hkl := kind_impl a.Kind
  unfold fmtHead frzT
  simp only [impl_FormatHead, un, cur0, e5, atP_zero, binP_seql, iteP_eq, e1, e2, e3, e4, flatCond_pv, flatCond_nil, flat_int, flat_str, true_and]
  rcases hkl with ⟨h1, h2⟩ | ⟨h1, h2⟩
  · simp only [h1, if_true, hj [63] (by simp), h2, atP_zero, join_five, bin_str, List.length_append, List.length_cons, List.length_nil, rt_eq, scs_sc, scs_nil, flat_str, true_and]
    cases a.Frozen
    · simp
    · simp only [if_true, show (3 : Nat) = 3 from rfl, true_and]
      simp
      (repeat refine dropA (by omega) ?_)
      first | exact Iff.rfl | (intro _; omega) | (intro _; (repeat' constructor) <;> omega)
  · rw [h2] at l6
    simp only [h1, Bool.false_eq_true, if_false, hj _ l6, h2, atP_zero, join_five, bin_str, List.length_append, List.length_cons, List.length_nil, rt_eq, scs_sc, scs_nil, flat_str, true_and]
    cases a.Frozen
    · simp
    · simp
      (repeat refine dropA (by omega) ?_)
      first | exact Iff.rfl | (intro _; omega) | (intro _; (repeat' constructor) <;> omega)) k
theorem spec_FormatHead_n (a : GHead) (h : mKeys a.Keys ≤ 1048576) (hr : RHead a) (k) : call spec_FormatHead [.agg (eHead a)] k = k [S (fmtHead a)] := call_of (fun k => by
  have l1 := itoa_len hr.1
  have l2 := itoa_len hr.2.1
  have l3 := itoa_len hr.2.2.1
  have l4 := itoa_len hr.2.2.2.1
  have l5 := fmtKeys_len h hr.2.2.2.2
  have e1 := spec_FormatInt_n a.Epoch hr.1
  have e2 := spec_FormatInt_n a.Time hr.2.1
  have e3 := spec_FormatInt_n a.Until hr.2.2.1
  have e4 := spec_FormatInt_n a.Count hr.2.2.2.1
  have e5 := spec_FormatKeys_n a.Keys h hr.2.2.2.2
  unfold fmtHead frzT kindT
  cases hc : inR a.Kind 1 3 with
  | false =>
    simp only [spec_FormatHead, un, cur0, spec_l1In_n, hc, atP_zero, iteP_eq, Bool.false_eq_true, if_false, e1, e2, e3, e4, e5, bin_str, List.length_append, List.length_cons, List.length_nil, rt_eq, scs_sc, scs_nil, flat_str, true_and]
    (repeat refine dropA (by omega) ?_)
    cases a.Frozen
    · simp
    · simp
      (repeat refine dropA (by omega) ?_)
      first | exact Iff.rfl | (intro _; omega) | (intro _; (repeat' constructor) <;> omega)
  | true =>
    obtain ⟨h1, h2⟩ := inR_iff.1 hc
    have hd : a.Kind = 1 ∨ a.Kind = 2 ∨ a.Kind = 3 := by omega
    simp only [spec_FormatHead, un, cur0, spec_l1In_n, hc, atP_zero, iteP_eq, if_true, e1, e2, e3, e4, e5, flatCond_pv, flatCond_nil, flat_str, true_and]
    rcases hd with hk | hk | hk <;> rw [hk] <;> simp [rowP, flats] <;> cases a.Frozen <;> simp [bin_str] <;> ((repeat refine dropA (by omega) ?_); first | exact Iff.rfl | (intro _; omega) | (intro _; (repeat' constructor) <;> omega))) k
end Go.Ev
set_option linter.unusedVariables false
set_option linter.unusedSimpArgs false
set_option maxRecDepth 4000
namespace Go.Ev
open Go.Proofs
def fmtDash (e : GEntry) : List UInt8 := if e.Kind = 0 then [45] else fmtEntry e
theorem fmtDash_len {e : GEntry} (h : mEntry e ≤ 1048576) (hv : inI e.Value) : (fmtDash e).length ≤ 1099513724999 := by
  unfold fmtDash
  split
  · simp
  · exact fmtEntry_len h hv
theorem impl_entryOrDash_n (e : GEntry) (h : mEntry e ≤ 1048576) (hv : inI e.Value) (k) : call impl_entryOrDash [.agg (eEntry e)] k = k [S (fmtDash e)] := call_of (fun k => by
  have e1 := impl_FormatEntry_n e h hv
  unfold fmtDash
  simp only [impl_entryOrDash, un, cur0, e1, atP_zero, binP_eql, beqI, iteP_eq, decide_eq_true_eq, rt_eq, scs_sc, scs_nil, flat_str, true_and]
  by_cases h0 : e.Kind = 0 <;> simp [h0]) k
theorem spec_l39Entry_n (e : GEntry) (h : mEntry e ≤ 1048576) (hv : inI e.Value) (k) : call spec_l39Entry [.agg (eEntry e)] k = k [S (fmtDash e)] := call_of (fun k => by
  have e1 := spec_FormatEntry_n e h hv
  unfold fmtDash
  simp only [spec_l39Entry, un, cur0, e1, atP_zero, binP_eql, beqI, iteP_eq, decide_eq_true_eq, rt_eq, scs_sc, scs_nil, flat_str, true_and]
  by_cases h0 : e.Kind = 0 <;> simp [h0]) k
def REntry (e : GEntry) : Prop := inI e.Value
theorem rngEntry {a : GEntry} (h : Sh.hasAll [.str, .int .i64, .int .i64, .list [.str]] (eEntry a)) : REntry a := at_int 2 h rfl rfl
theorem nat_in {n : Nat} (h : n ≤ 1048576) : inI (n : Int) := by unfold inI; omega
theorem cd_len (c : Int) : (nm cdL c).length ≤ 10 := nm_len (by decide) c
theorem dc_len (c : Int) : (nm dcL c).length ≤ 10 := nm_len (by decide) c
def fmtRes (nme : List UInt8) (e : GEntry) (n : Nat) : List UInt8 := nme ++ ([32] ++ (fmtDash e ++ ([32] ++ itoa n)))
def fmtDecision (a : GDecision) : List UInt8 := fmtRes (nm dcL a.Code) a.Entry a.Others.length
def RDecision (a : GDecision) : Prop := inI a.Entry.Value
theorem decision_le {a : GDecision} (h : mDecision a ≤ 1048576) : mEntry a.Entry ≤ 1048576 ∧ a.Others.length ≤ 1048576 := by
  unfold mDecision mEntryS at h; omega
theorem impl_FormatDecision_n (a : GDecision) (h : mDecision a ≤ 1048576) (hr : RDecision a) (k) : call impl_FormatDecision [.agg (eDecision a)] k = k [S (fmtDecision a)] := call_of (fun k => by
  obtain ⟨h1, h2⟩ := decision_le h
  have e1 := impl_DecisionName_n a.Code
  have e2 := impl_entryOrDash_n a.Entry h1 hr
  have e3 := impl_FormatInt_n a.Others.length (nat_in h2)
  have l1 := dc_len a.Code
  have l2 := fmtDash_len h1 hr
  have l3 := itoa_len (nat_in h2)
  unfold fmtDecision fmtRes
  generalize fmtDash a.Entry = D at *
  generalize nm dcL a.Code = N at *
  simp only [impl_FormatDecision, un, cur0, e1, e2, e3, atP_zero, lenP_eq, List.length_map, bin_str, List.length_append, List.length_cons, List.length_nil, rt_eq, scs_sc, scs_nil, flat_str, true_and]
  (repeat refine dropA (by omega) ?_)
  simp) k
theorem spec_FormatDecision_n (a : GDecision) (h : mDecision a ≤ 1048576) (hr : RDecision a) (k) : call spec_FormatDecision [.agg (eDecision a)] k = k [S (fmtDecision a)] := call_of (fun k => by
  obtain ⟨h1, h2⟩ := decision_le h
  have e1 := spec_DecisionName_n a.Code
  have e2 := spec_l39Entry_n a.Entry h1 hr
  have e3 := spec_FormatInt_n a.Others.length (nat_in h2)
  have l1 := dc_len a.Code
  have l2 := fmtDash_len h1 hr
  have l3 := itoa_len (nat_in h2)
  unfold fmtDecision fmtRes
  generalize fmtDash a.Entry = D at *
  generalize nm dcL a.Code = N at *
  simp only [spec_FormatDecision, un, cur0, e1, e2, e3, atP_zero, lenP_eq, List.length_map, bin_str, List.length_append, List.length_cons, List.length_nil, rt_eq, scs_sc, scs_nil, flat_str, true_and]
  (repeat refine dropA (by omega) ?_)
  simp) k
theorem impl_StepsOf_n (a : GTrace) (k) : call impl_StepsOf [.agg (eTrace a)] k = k [I a.Zones.length] := call_of (fun k => by simp [impl_StepsOf]) k
theorem spec_StepsOf_n (a : GTrace) (k) : call spec_StepsOf [.agg (eTrace a)] k = k [I a.Zones.length] := call_of (fun k => by simp [spec_StepsOf]) k
def fmtTrace (a : GTrace) : List UInt8 := fmtRes (nm cdL a.Code) a.Entry a.Zones.length
def RTrace (a : GTrace) : Prop := inI a.Entry.Value
theorem trace_le {a : GTrace} (h : mTrace a ≤ 1048576) : mEntry a.Entry ≤ 1048576 ∧ a.Zones.length ≤ 1048576 := by
  unfold mTrace at h; omega
theorem impl_FormatTrace_n (a : GTrace) (h : mTrace a ≤ 1048576) (hr : RTrace a) (k) : call impl_FormatTrace [.agg (eTrace a)] k = k [S (fmtTrace a)] := call_of (fun k => by
  obtain ⟨h1, h2⟩ := trace_le h
  have e1 := impl_CodeText_n a.Code
  have e2 := impl_entryOrDash_n a.Entry h1 hr
  have e3 := impl_FormatInt_n a.Zones.length (nat_in h2)
  have e4 := impl_StepsOf_n a
  have l1 := cd_len a.Code
  have l2 := fmtDash_len h1 hr
  have l3 := itoa_len (nat_in h2)
  unfold fmtTrace fmtRes
  generalize fmtDash a.Entry = D at *
  generalize nm cdL a.Code = N at *
  simp only [impl_FormatTrace, un, cur0, e1, e2, e3, e4, atP_zero, bin_str, List.length_append, List.length_cons, List.length_nil, rt_eq, scs_sc, scs_nil, flat_str, true_and]
  (repeat refine dropA (by omega) ?_)
  simp) k
theorem spec_FormatTrace_n (a : GTrace) (h : mTrace a ≤ 1048576) (hr : RTrace a) (k) : call spec_FormatTrace [.agg (eTrace a)] k = k [S (fmtTrace a)] := call_of (fun k => by
  obtain ⟨h1, h2⟩ := trace_le h
  have e1 := spec_CodeText_n a.Code
  have e2 := spec_l39Entry_n a.Entry h1 hr
  have e3 := spec_FormatInt_n a.Zones.length (nat_in h2)
  have e4 := spec_StepsOf_n a
  have l1 := cd_len a.Code
  have l2 := fmtDash_len h1 hr
  have l3 := itoa_len (nat_in h2)
  unfold fmtTrace fmtRes
  generalize fmtDash a.Entry = D at *
  generalize nm cdL a.Code = N at *
  simp only [spec_FormatTrace, un, cur0, e1, e2, e3, e4, atP_zero, bin_str, List.length_append, List.length_cons, List.length_nil, rt_eq, scs_sc, scs_nil, flat_str, true_and]
  (repeat refine dropA (by omega) ?_)
  simp) k
theorem head_le {a : GHead} (h : mHead a ≤ 1048576) : mKeys a.Keys ≤ 1048576 := by unfold mHead at h; omega
end Go.Ev
set_option linter.unusedVariables false
set_option linter.unusedSimpArgs false
set_option maxRecDepth 4000
set_option maxHeartbeats 2000000
namespace Go.Ev
open Go.Proofs
theorem laws_FnExactFormatKeys_law (pvss : List (List PV)) (h : HasEach [[.list [.int .i64], .int .i64]] pvss) : laws_FnExactFormatKeys (avsOf Tryd.prog Tryd.f3.params.toList pvss) (fun o => o = [PV.bool true]) := by
  obtain ⟨p0, r0, rfl, h0, hq0⟩ := each_cons h
  rw [each_nil hq0]
  obtain ⟨x0, rfl, w0⟩ := decKeys _ h0
  have rg0 : RKeys x0 := ⟨at_int 1 h0 rfl rfl, at_ints 0 h0 rfl rfl⟩
  rw [show avsOf Tryd.prog Tryd.f3.params.toList [eKeys x0] = [.agg (eKeys x0)] by kernel_rfl]
  simp only [laws_FnExactFormatKeys, un, cur0, laws_szKeys_n x0 (1048576) w0 (by omega) (by omega), binP_lss, iteP_eq, atP_zero, atP_succ, rt_eq, scs_sc, scs_nil, flat_int, flat_bool, true_and, and_true]
  by_cases c0 : ((mKeys x0 : Nat) : Int) ≤ 1048576
  rotate_left
  · simp [szr_not c0]
  simp only [szr_yes c0, show ¬ (1048576 - ((mKeys x0 : Nat) : Int) < 0) by omega, decide_false, Bool.false_eq_true, if_false, binP_lss, iteP_eq, atP_zero, atP_succ, rt_eq, scs_sc, scs_nil, flat_int, flat_bool, true_and, and_true]
  have s0 : mKeys x0 ≤ 1048576 := by omega
  simp [laws_toKeys_n x0 s0, laws_eqKeys_n x0 s0, spec_FormatKeys_n x0 s0 rg0, impl_FormatKeys_n x0 s0 rg0]
end Go.Ev
namespace Go.Ev
open Go.Proofs
theorem laws_FnExactFormatEntry_law (pvss : List (List PV)) (h : HasEach [[.str, .int .i64, .int .i64, .list [.str]]] pvss) : laws_FnExactFormatEntry (avsOf Tryd.prog Tryd.f4.params.toList pvss) (fun o => o = [PV.bool true]) := by
  obtain ⟨p0, r0, rfl, h0, hq0⟩ := each_cons h
  rw [each_nil hq0]
  obtain ⟨x0, rfl, w0⟩ := decEntry _ h0
  have rg0 : REntry x0 := at_int 2 h0 rfl rfl
  rw [show avsOf Tryd.prog Tryd.f4.params.toList [eEntry x0] = [.agg (eEntry x0)] by kernel_rfl]
  simp only [laws_FnExactFormatEntry, un, cur0, laws_szEntry_n x0 (1048576) w0 (by omega) (by omega), binP_lss, iteP_eq, atP_zero, atP_succ, rt_eq, scs_sc, scs_nil, flat_int, flat_bool, true_and, and_true]
  by_cases c0 : ((mEntry x0 : Nat) : Int) ≤ 1048576
  rotate_left
  · simp [szr_not c0]
  simp only [szr_yes c0, show ¬ (1048576 - ((mEntry x0 : Nat) : Int) < 0) by omega, decide_false, Bool.false_eq_true, if_false, binP_lss, iteP_eq, atP_zero, atP_succ, rt_eq, scs_sc, scs_nil, flat_int, flat_bool, true_and, and_true]
  have s0 : mEntry x0 ≤ 1048576 := by omega
  simp [laws_toEntry_n x0 s0, laws_eqEntry_n x0 s0, spec_FormatEntry_n x0 s0 rg0, impl_FormatEntry_n x0 s0 rg0]
end Go.Ev
namespace Go.Ev
open Go.Proofs
theorem laws_FnExactFormatHead_law (pvss : List (List PV)) (h : HasEach [[.int .i64, .int .i64, .int .i64, .int .i64, .int .i64, .int .i64, .int .i64, .int .i64, .list [.int .i64], .int .i64, .list [.int .i64], .int .i64, .int .i64, .list [.int .i64], .int .i64, .bool]] pvss) : laws_FnExactFormatHead (avsOf Tryd.prog Tryd.f5.params.toList pvss) (fun o => o = [PV.bool true]) := by
  obtain ⟨p0, r0, rfl, h0, hq0⟩ := each_cons h
  rw [each_nil hq0]
  obtain ⟨x0, rfl, w0⟩ := decHead _ h0
  have rg0 : RHead x0 := rngHead h0
  rw [show avsOf Tryd.prog Tryd.f5.params.toList [eHead x0] = [.agg (eHead x0)] by kernel_rfl]
  simp only [laws_FnExactFormatHead, un, cur0, laws_szHead_n x0 (1048576) w0 (by omega) (by omega), binP_lss, iteP_eq, atP_zero, atP_succ, rt_eq, scs_sc, scs_nil, flat_int, flat_bool, true_and, and_true]
  by_cases c0 : ((mHead x0 : Nat) : Int) ≤ 1048576
  rotate_left
  · simp [szr_not c0]
  simp only [szr_yes c0, show ¬ (1048576 - ((mHead x0 : Nat) : Int) < 0) by omega, decide_false, Bool.false_eq_true, if_false, binP_lss, iteP_eq, atP_zero, atP_succ, rt_eq, scs_sc, scs_nil, flat_int, flat_bool, true_and, and_true]
  have s0 : mHead x0 ≤ 1048576 := by omega
  simp [laws_toHead_n x0 s0, laws_eqHead_n x0 s0, spec_FormatHead_n x0 (head_le s0) rg0, impl_FormatHead_n x0 (head_le s0) rg0]
end Go.Ev
namespace Go.Ev
open Go.Proofs
theorem laws_FnExactFormatDecision_law (pvss : List (List PV)) (h : HasEach [[.int .i64, .str, .int .i64, .int .i64, .list [.str], .list [.str, .int .i64, .int .i64, .list [.str]]]] pvss) : laws_FnExactFormatDecision (avsOf Tryd.prog Tryd.f6.params.toList pvss) (fun o => o = [PV.bool true]) := by
  obtain ⟨p0, r0, rfl, h0, hq0⟩ := each_cons h
  rw [each_nil hq0]
  obtain ⟨x0, rfl, w0⟩ := decDecision _ h0
  have rg0 : RDecision x0 := at_int 3 h0 rfl rfl
  rw [show avsOf Tryd.prog Tryd.f6.params.toList [eDecision x0] = [.agg (eDecision x0)] by kernel_rfl]
  simp only [laws_FnExactFormatDecision, un, cur0, laws_szDecision_n x0 (1048576) w0 (by omega) (by omega), binP_lss, iteP_eq, atP_zero, atP_succ, rt_eq, scs_sc, scs_nil, flat_int, flat_bool, true_and, and_true]
  by_cases c0 : ((mDecision x0 : Nat) : Int) ≤ 1048576
  rotate_left
  · simp [szr_not c0]
  simp only [szr_yes c0, show ¬ (1048576 - ((mDecision x0 : Nat) : Int) < 0) by omega, decide_false, Bool.false_eq_true, if_false, binP_lss, iteP_eq, atP_zero, atP_succ, rt_eq, scs_sc, scs_nil, flat_int, flat_bool, true_and, and_true]
  have s0 : mDecision x0 ≤ 1048576 := by omega
  simp [laws_toDecision_n x0 s0, laws_eqDecision_n x0 s0, spec_FormatDecision_n x0 s0 rg0, impl_FormatDecision_n x0 s0 rg0]
end Go.Ev
namespace Go.Ev
open Go.Proofs
theorem laws_FnExactFormatTrace_law (pvss : List (List PV)) (h : HasEach [[.list [.list [.int .i64, .int .i64, .int .i64, .int .i64, .int .i64, .int .i64, .int .i64, .int .i64, .list [.int .i64], .int .i64, .list [.int .i64], .int .i64, .int .i64, .list [.int .i64], .int .i64, .bool, .list [.int .i64, .int .i64]]], .list [.int .i64, .int .i64, .int .i64, .int .i64, .int .i64, .int .i64, .int .i64, .int .i64, .list [.int .i64], .int .i64, .list [.int .i64], .int .i64, .int .i64, .list [.int .i64], .int .i64, .bool, .list [.int .i64, .int .i64], .int .i64, .int .i64, .int .i64, .int .i64, .int .i64, .int .i64, .int .i64, .int .i64, .list [.int .i64], .int .i64, .list [.int .i64], .int .i64, .int .i64, .list [.int .i64], .int .i64, .bool, .list [.int .i64, .int .i64], .int .i64, .int .i64, .int .i64, .int .i64, .int .i64, .int .i64, .int .i64, .int .i64, .list [.int .i64], .int .i64, .list [.int .i64], .int .i64, .int .i64, .list [.int .i64], .int .i64, .bool, .list [.int .i64, .int .i64]], .int .i64, .str, .int .i64, .int .i64, .list [.str], .list [.int .i64], .int .i64]] pvss) : laws_FnExactFormatTrace (avsOf Tryd.prog Tryd.f7.params.toList pvss) (fun o => o = [PV.bool true]) := by
  obtain ⟨p0, r0, rfl, h0, hq0⟩ := each_cons h
  rw [each_nil hq0]
  obtain ⟨x0, rfl, w0⟩ := decTrace _ h0
  have rg0 : RTrace x0 := at_int 5 h0 rfl rfl
  rw [show avsOf Tryd.prog Tryd.f7.params.toList [eTrace x0] = [.agg (eTrace x0)] by kernel_rfl]
  simp only [laws_FnExactFormatTrace, un, cur0, laws_szTrace_n x0 (1048576) w0 (by omega) (by omega), binP_lss, iteP_eq, atP_zero, atP_succ, rt_eq, scs_sc, scs_nil, flat_int, flat_bool, true_and, and_true]
  by_cases c0 : ((mTrace x0 : Nat) : Int) ≤ 1048576
  rotate_left
  · simp [szr_not c0]
  simp only [szr_yes c0, show ¬ (1048576 - ((mTrace x0 : Nat) : Int) < 0) by omega, decide_false, Bool.false_eq_true, if_false, binP_lss, iteP_eq, atP_zero, atP_succ, rt_eq, scs_sc, scs_nil, flat_int, flat_bool, true_and, and_true]
  have s0 : mTrace x0 ≤ 1048576 := by omega
  simp [laws_toTrace_n x0 s0, laws_eqTrace_n x0 s0, spec_FormatTrace_n x0 s0 rg0, impl_FormatTrace_n x0 s0 rg0]
end Go.Ev
