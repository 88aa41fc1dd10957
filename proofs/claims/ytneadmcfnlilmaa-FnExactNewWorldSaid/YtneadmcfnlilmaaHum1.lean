/- What each function hands back, in plain Lean, and that the laws answer true, part 1. -/
import Derived.Test.YtneadmcfnlilmaaFn1
set_option linter.unusedVariables false
set_option linter.unusedSimpArgs false
set_option maxRecDepth 4000
namespace Go.Ev
open Go.Proofs
/-! ### The laws' own functions: copies, sizes, comparisons (printed by gentypes.py) -/
theorem szr_add {s t : Nat} {left : Int} (h : (s : Int) ≤ left) : szr (s + t) left = szr t (left - s) := by
  unfold szr
  by_cases h1 : (t : Int) ≤ left - s
  · rw [if_pos h1, if_pos (by omega)]; omega
  · rw [if_neg h1, if_neg (by omega)]
theorem szr_over {s t : Nat} {left : Int} (h : ¬ (s : Int) ≤ left) : szr (s + t) left = -1 := by unfold szr; rw [if_neg (by omega)]
theorem szr_not {s : Nat} {left : Int} (h : ¬ (s : Int) ≤ left) : szr s left = -1 := by unfold szr; rw [if_neg h]
theorem szr_yes {s : Nat} {left : Int} (h : (s : Int) ≤ left) : szr s left = left - s := by unfold szr; rw [if_pos h]
theorem szr_pos {s : Nat} {left : Int} (h : 0 ≤ szr s left) : (s : Int) ≤ left ∧ szr s left = left - s := by
  unfold szr at h ⊢
  split at h
  · rename_i h1; rw [if_pos h1]; exact ⟨h1, rfl⟩
  · omega
theorem sumN_mem {α : Type} {s : α → Nat} {x : α} : ∀ {l : List α}, x ∈ l → s x ≤ sumN s l
  | y :: l, h => by
    rw [show sumN s (y :: l) = s y + sumN s l from rfl]
    rcases List.mem_cons.1 h with rfl | h
    · omega
    · have := sumN_mem (s := s) h; omega
/-- one count, then the rest -/
theorem sz_seq {s t : Nat} {left : Int} {A : Int → Prop} {k : List PV → Prop} (h2 : 0 ≤ left) (h3 : left ≤ 1048576) (h : ∀ l, 0 ≤ l → l ≤ 1048576 → (A l ↔ k [I (szr t l)])) :
    (if decide (szr s left < 0) = true then k [I (-1)] else A (szr s left)) ↔ k [I (szr (s + t) left)] := by
  by_cases hs : (s : Int) ≤ left
  · rw [szr_yes hs, szr_add hs, if_neg (by simp; omega)]
    exact h _ (by omega) (by omega)
  · rw [szr_not hs, szr_over hs]; simp
theorem sz_end {s : Nat} {left : Int} {k : List PV → Prop} (h2 : 0 ≤ left) : (if decide (szr s left < 0) = true then k [I (-1)] else k [I (szr s left)]) ↔ k [I (szr s left)] := by
  by_cases hs : (s : Int) ≤ left
  · rw [szr_yes hs, if_neg (by simp; omega)]
  · rw [szr_not hs]; simp
/-- a length, taken off -/
theorem sz_len {n : Nat} {left : Int} {A : Int → Prop} {k : List PV → Prop} (h1 : n ≤ maxLen) (h2 : 0 ≤ left) (h3 : left ≤ 1048576) :
    (if decide (IntKind.i64.wrap (left - n) < 0) = true then k [I (-1)] else A (IntKind.i64.wrap (left - n))) ↔ (if decide (szr n left < 0) = true then k [I (-1)] else A (szr n left)) := by
  rw [wr_left h1 h2 h3]
  by_cases hs : (n : Int) ≤ left
  · rw [szr_yes hs]
  · rw [szr_not hs, if_pos (by simp; omega), if_pos (by simp)]

theorem has_strs {p : PV} (hp : Sh.has (.list [.str]) p) : ∃ l : List ByteArray, p = strs l ∧ (l.length ≤ maxLen ∧ ∀ y ∈ l, y.size ≤ maxLen) := by
  obtain ⟨l, h1, h2, h3⟩ := has_map (enc := rS) (wf := fun y => y.size ≤ maxLen) (fun r hr => by
    obtain ⟨p, rfl, h⟩ := all_one hr
    obtain ⟨n, rfl, g⟩ := has_str h
    exact ⟨n, rfl, g⟩) 1 rfl hp
  exact ⟨l, h1, h2, h3⟩
theorem laws_eqIntS_n (l : List Int) (h : l.length ≤ 1048576) (k) : call laws_eqIntS [.one (ints l), .one (ints l)] k = k [.bool true] := call_of (fun k => by
  have hm := h
  simp [laws_eqIntS]
  refine lp_eqS l rI 1 (.bool false) rfl (fun i x hx hi K => ?_) fun K => ?_
  · simp [-getElem?_pos, laws_eqIntS_r0, hx, hi, wr_succ (show i < 1000000000000000000 by omega)]
  · simp [laws_eqIntS_r0]) k
theorem laws_eqStringS_n (l : List ByteArray) (h : (l.length + sumN ByteArray.size l) ≤ 1048576) (k) : call laws_eqStringS [.one (strs l), .one (strs l)] k = k [.bool true] := call_of (fun k => by
  have hm := h
  simp [laws_eqStringS]
  refine lp_eqS l rS 1 (.bool false) rfl (fun i x hx hi K => ?_) fun K => ?_
  · simp [-getElem?_pos, laws_eqStringS_r0, hx, hi, wr_succ (show i < 1000000000000000000 by omega)]
  · simp [laws_eqStringS_r0]) k
structure GKeys where
  Lst : List Int
  Need : Int
abbrev eKeys (a : GKeys) : List PV := [ints a.Lst, I a.Need]
def mKeys (a : GKeys) : Nat := a.Lst.length
def WKeys (a : GKeys) : Prop := a.Lst.length ≤ maxLen
theorem decKeys (r : List PV) (hr : Sh.hasAll [.list [.int .i64], .int .i64] r) : ∃ a : GKeys, r = eKeys a ∧ WKeys a := by
  obtain ⟨p1, r1, rfl, h1, hr1⟩ := all_cons hr
  obtain ⟨n1, rfl, g1⟩ := has_ints h1
  obtain ⟨p2, rfl, h2⟩ := all_one hr1
  obtain ⟨n2, rfl⟩ := has_int h2
  exact ⟨⟨n1, n2⟩, rfl, g1⟩
theorem laws_eqKeys_n (a : GKeys) (h : mKeys a ≤ 1048576) (k) : call laws_eqKeys [.agg (eKeys a), .agg (eKeys a)] k = k [.bool true] := call_of (fun k => by
  unfold mKeys at h
  simp [laws_eqKeys, laws_eqIntS_n a.Lst (by omega)]) k
structure GSig where
  Key : Int
  Tag : Int
abbrev eSig (a : GSig) : List PV := [I a.Key, I a.Tag]
theorem decSig (r : List PV) (hr : Sh.hasAll [.int .i64, .int .i64] r) : ∃ a : GSig, r = eSig a ∧ True := by
  obtain ⟨p1, r1, rfl, h1, hr1⟩ := all_cons hr
  obtain ⟨n1, rfl⟩ := has_int h1
  obtain ⟨p2, rfl, h2⟩ := all_one hr1
  obtain ⟨n2, rfl⟩ := has_int h2
  exact ⟨⟨n1, n2⟩, rfl, trivial⟩
theorem laws_eqSig_n (a : GSig) (k) : call laws_eqSig [.agg (eSig a), .agg (eSig a)] k = k [.bool true] := call_of (fun k => by
  simp [laws_eqSig]) k
structure GEntry where
  Label : ByteArray
  Kind : Int
  Value : Int
  Path : List ByteArray
abbrev eEntry (a : GEntry) : List PV := [.str a.Label, I a.Kind, I a.Value, strs a.Path]
def mEntry (a : GEntry) : Nat := a.Label.size + ((a.Path.length + sumN ByteArray.size a.Path))
def WEntry (a : GEntry) : Prop := a.Label.size ≤ maxLen ∧ (a.Path.length ≤ maxLen ∧ ∀ y ∈ a.Path, y.size ≤ maxLen)
theorem decEntry (r : List PV) (hr : Sh.hasAll [.str, .int .i64, .int .i64, .list [.str]] r) : ∃ a : GEntry, r = eEntry a ∧ WEntry a := by
  obtain ⟨p1, r1, rfl, h1, hr1⟩ := all_cons hr
  obtain ⟨n1, rfl, g1⟩ := has_str h1
  obtain ⟨p2, r2, rfl, h2, hr2⟩ := all_cons hr1
  obtain ⟨n2, rfl⟩ := has_int h2
  obtain ⟨p3, r3, rfl, h3, hr3⟩ := all_cons hr2
  obtain ⟨n3, rfl⟩ := has_int h3
  obtain ⟨p4, rfl, h4⟩ := all_one hr3
  obtain ⟨n4, rfl, g4⟩ := has_strs h4
  exact ⟨⟨n1, n2, n3, n4⟩, rfl, ⟨g1, g4⟩⟩
theorem laws_eqEntry_n (a : GEntry) (h : mEntry a ≤ 1048576) (k) : call laws_eqEntry [.agg (eEntry a), .agg (eEntry a)] k = k [.bool true] := call_of (fun k => by
  unfold mEntry at h
  simp [laws_eqEntry, laws_eqStringS_n a.Path (by omega)]) k
structure GProof where
  At : Int
  Path : List Int
abbrev eProof (a : GProof) : List PV := [I a.At, ints a.Path]
def mProof (a : GProof) : Nat := a.Path.length
def WProof (a : GProof) : Prop := a.Path.length ≤ maxLen
theorem decProof (r : List PV) (hr : Sh.hasAll [.int .i64, .list [.int .i64]] r) : ∃ a : GProof, r = eProof a ∧ WProof a := by
  obtain ⟨p1, r1, rfl, h1, hr1⟩ := all_cons hr
  obtain ⟨n1, rfl⟩ := has_int h1
  obtain ⟨p2, rfl, h2⟩ := all_one hr1
  obtain ⟨n2, rfl, g2⟩ := has_ints h2
  exact ⟨⟨n1, n2⟩, rfl, g2⟩
theorem laws_eqProof_n (a : GProof) (h : mProof a ≤ 1048576) (k) : call laws_eqProof [.agg (eProof a), .agg (eProof a)] k = k [.bool true] := call_of (fun k => by
  unfold mProof at h
  simp [laws_eqProof, laws_eqIntS_n a.Path (by omega)]) k
structure GGap where
  At : Int
  Before : GEntry
  After : GEntry
  Left : GProof
  Right : GProof
abbrev eGap (a : GGap) : List PV := [I a.At, .str a.Before.Label, I a.Before.Kind, I a.Before.Value, strs a.Before.Path, .str a.After.Label, I a.After.Kind, I a.After.Value, strs a.After.Path, I a.Left.At, ints a.Left.Path, I a.Right.At, ints a.Right.Path]
def mGap (a : GGap) : Nat := mEntry a.Before + (mEntry a.After + (mProof a.Left + (mProof a.Right)))
def WGap (a : GGap) : Prop := WEntry a.Before ∧ WEntry a.After ∧ WProof a.Left ∧ WProof a.Right
theorem decGap (r : List PV) (hr : Sh.hasAll [.int .i64, .str, .int .i64, .int .i64, .list [.str], .str, .int .i64, .int .i64, .list [.str], .int .i64, .list [.int .i64], .int .i64, .list [.int .i64]] r) : ∃ a : GGap, r = eGap a ∧ WGap a := by
  obtain ⟨p1, r1, rfl, h1, hr1⟩ := all_cons hr
  obtain ⟨n1, rfl⟩ := has_int h1
  obtain ⟨p2, r2, rfl, h2, hr2⟩ := all_cons hr1
  obtain ⟨n2, rfl, g2⟩ := has_str h2
  obtain ⟨p3, r3, rfl, h3, hr3⟩ := all_cons hr2
  obtain ⟨n3, rfl⟩ := has_int h3
  obtain ⟨p4, r4, rfl, h4, hr4⟩ := all_cons hr3
  obtain ⟨n4, rfl⟩ := has_int h4
  obtain ⟨p5, r5, rfl, h5, hr5⟩ := all_cons hr4
  obtain ⟨n5, rfl, g5⟩ := has_strs h5
  obtain ⟨p6, r6, rfl, h6, hr6⟩ := all_cons hr5
  obtain ⟨n6, rfl, g6⟩ := has_str h6
  obtain ⟨p7, r7, rfl, h7, hr7⟩ := all_cons hr6
  obtain ⟨n7, rfl⟩ := has_int h7
  obtain ⟨p8, r8, rfl, h8, hr8⟩ := all_cons hr7
  obtain ⟨n8, rfl⟩ := has_int h8
  obtain ⟨p9, r9, rfl, h9, hr9⟩ := all_cons hr8
  obtain ⟨n9, rfl, g9⟩ := has_strs h9
  obtain ⟨p10, r10, rfl, h10, hr10⟩ := all_cons hr9
  obtain ⟨n10, rfl⟩ := has_int h10
  obtain ⟨p11, r11, rfl, h11, hr11⟩ := all_cons hr10
  obtain ⟨n11, rfl, g11⟩ := has_ints h11
  obtain ⟨p12, r12, rfl, h12, hr12⟩ := all_cons hr11
  obtain ⟨n12, rfl⟩ := has_int h12
  obtain ⟨p13, rfl, h13⟩ := all_one hr12
  obtain ⟨n13, rfl, g13⟩ := has_ints h13
  exact ⟨⟨n1, ⟨n2, n3, n4, n5⟩, ⟨n6, n7, n8, n9⟩, ⟨n10, n11⟩, ⟨n12, n13⟩⟩, rfl, ⟨⟨g2, g5⟩, ⟨g6, g9⟩, g11, g13⟩⟩
theorem laws_eqGap_n (a : GGap) (h : mGap a ≤ 1048576) (k) : call laws_eqGap [.agg (eGap a), .agg (eGap a)] k = k [.bool true] := call_of (fun k => by
  unfold mGap at h
  simp [laws_eqGap, laws_eqEntry_n a.Before (by omega), laws_eqEntry_n a.After (by omega), laws_eqProof_n a.Left (by omega), laws_eqProof_n a.Right (by omega)]) k
structure GHead where
  Zone : Int
  Epoch : Int
  Kind : Int
  Time : Int
  Until : Int
  Count : Int
  Root : Int
  Prev : Int
  Keys : GKeys
  Heirs : GKeys
  Wait : Int
  Judge : GKeys
  Frozen : Bool
abbrev eHead (a : GHead) : List PV := [I a.Zone, I a.Epoch, I a.Kind, I a.Time, I a.Until, I a.Count, I a.Root, I a.Prev, ints a.Keys.Lst, I a.Keys.Need, ints a.Heirs.Lst, I a.Heirs.Need, I a.Wait, ints a.Judge.Lst, I a.Judge.Need, .bool a.Frozen]
def mHead (a : GHead) : Nat := mKeys a.Keys + (mKeys a.Heirs + (mKeys a.Judge))
def WHead (a : GHead) : Prop := WKeys a.Keys ∧ WKeys a.Heirs ∧ WKeys a.Judge
theorem decHead (r : List PV) (hr : Sh.hasAll [.int .i64, .int .i64, .int .i64, .int .i64, .int .i64, .int .i64, .int .i64, .int .i64, .list [.int .i64], .int .i64, .list [.int .i64], .int .i64, .int .i64, .list [.int .i64], .int .i64, .bool] r) : ∃ a : GHead, r = eHead a ∧ WHead a := by
  obtain ⟨p1, r1, rfl, h1, hr1⟩ := all_cons hr
  obtain ⟨n1, rfl⟩ := has_int h1
  obtain ⟨p2, r2, rfl, h2, hr2⟩ := all_cons hr1
  obtain ⟨n2, rfl⟩ := has_int h2
  obtain ⟨p3, r3, rfl, h3, hr3⟩ := all_cons hr2
  obtain ⟨n3, rfl⟩ := has_int h3
  obtain ⟨p4, r4, rfl, h4, hr4⟩ := all_cons hr3
  obtain ⟨n4, rfl⟩ := has_int h4
  obtain ⟨p5, r5, rfl, h5, hr5⟩ := all_cons hr4
  obtain ⟨n5, rfl⟩ := has_int h5
  obtain ⟨p6, r6, rfl, h6, hr6⟩ := all_cons hr5
  obtain ⟨n6, rfl⟩ := has_int h6
  obtain ⟨p7, r7, rfl, h7, hr7⟩ := all_cons hr6
  obtain ⟨n7, rfl⟩ := has_int h7
  obtain ⟨p8, r8, rfl, h8, hr8⟩ := all_cons hr7
  obtain ⟨n8, rfl⟩ := has_int h8
  obtain ⟨p9, r9, rfl, h9, hr9⟩ := all_cons hr8
  obtain ⟨n9, rfl, g9⟩ := has_ints h9
  obtain ⟨p10, r10, rfl, h10, hr10⟩ := all_cons hr9
  obtain ⟨n10, rfl⟩ := has_int h10
  obtain ⟨p11, r11, rfl, h11, hr11⟩ := all_cons hr10
  obtain ⟨n11, rfl, g11⟩ := has_ints h11
  obtain ⟨p12, r12, rfl, h12, hr12⟩ := all_cons hr11
  obtain ⟨n12, rfl⟩ := has_int h12
  obtain ⟨p13, r13, rfl, h13, hr13⟩ := all_cons hr12
  obtain ⟨n13, rfl⟩ := has_int h13
  obtain ⟨p14, r14, rfl, h14, hr14⟩ := all_cons hr13
  obtain ⟨n14, rfl, g14⟩ := has_ints h14
  obtain ⟨p15, r15, rfl, h15, hr15⟩ := all_cons hr14
  obtain ⟨n15, rfl⟩ := has_int h15
  obtain ⟨p16, rfl, h16⟩ := all_one hr15
  obtain ⟨n16, rfl⟩ := has_bool h16
  exact ⟨⟨n1, n2, n3, n4, n5, n6, n7, n8, ⟨n9, n10⟩, ⟨n11, n12⟩, n13, ⟨n14, n15⟩, n16⟩, rfl, ⟨g9, g11, g14⟩⟩
theorem laws_eqHead_n (a : GHead) (h : mHead a ≤ 1048576) (k) : call laws_eqHead [.agg (eHead a), .agg (eHead a)] k = k [.bool true] := call_of (fun k => by
  unfold mHead at h
  simp [laws_eqHead, laws_eqKeys_n a.Keys (by omega), laws_eqKeys_n a.Heirs (by omega), laws_eqKeys_n a.Judge (by omega)]) k
theorem decSigS {p : PV} (h : Sh.has (.list [.int .i64, .int .i64]) p) : ∃ l : List GSig, p = .list 2 (l.map eSig) ∧ l.length ≤ maxLen := by
  obtain ⟨l, h1, h2, h3⟩ := has_map decSig 2 rfl h
  exact ⟨l, h1, h2⟩
theorem laws_eqSigS_n (l : List GSig) (h : l.length ≤ 1048576) (k) : call laws_eqSigS [.one (.list 2 (l.map eSig)), .one (.list 2 (l.map eSig))] k = k [.bool true] := call_of (fun k => by
  have hm := h
  simp [laws_eqSigS]
  refine lp_eqS l eSig 2 (.bool false) rfl (fun i x hx hi K => ?_) fun K => ?_
  · simp [-getElem?_pos, laws_eqSigS_r0, hx, hi, laws_eqSig_n x, wr_succ (show i < 1000000000000000000 by omega)]
  · simp [laws_eqSigS_r0]) k
structure GSigned where
  Head : GHead
  Sigs : List GSig
abbrev eSigned (a : GSigned) : List PV := [I a.Head.Zone, I a.Head.Epoch, I a.Head.Kind, I a.Head.Time, I a.Head.Until, I a.Head.Count, I a.Head.Root, I a.Head.Prev, ints a.Head.Keys.Lst, I a.Head.Keys.Need, ints a.Head.Heirs.Lst, I a.Head.Heirs.Need, I a.Head.Wait, ints a.Head.Judge.Lst, I a.Head.Judge.Need, .bool a.Head.Frozen, .list 2 (a.Sigs.map eSig)]
def mSigned (a : GSigned) : Nat := mHead a.Head + (a.Sigs.length)
def WSigned (a : GSigned) : Prop := WHead a.Head ∧ a.Sigs.length ≤ maxLen
theorem decSigned (r : List PV) (hr : Sh.hasAll [.int .i64, .int .i64, .int .i64, .int .i64, .int .i64, .int .i64, .int .i64, .int .i64, .list [.int .i64], .int .i64, .list [.int .i64], .int .i64, .int .i64, .list [.int .i64], .int .i64, .bool, .list [.int .i64, .int .i64]] r) : ∃ a : GSigned, r = eSigned a ∧ WSigned a := by
  obtain ⟨p1, r1, rfl, h1, hr1⟩ := all_cons hr
  obtain ⟨n1, rfl⟩ := has_int h1
  obtain ⟨p2, r2, rfl, h2, hr2⟩ := all_cons hr1
  obtain ⟨n2, rfl⟩ := has_int h2
  obtain ⟨p3, r3, rfl, h3, hr3⟩ := all_cons hr2
  obtain ⟨n3, rfl⟩ := has_int h3
  obtain ⟨p4, r4, rfl, h4, hr4⟩ := all_cons hr3
  obtain ⟨n4, rfl⟩ := has_int h4
  obtain ⟨p5, r5, rfl, h5, hr5⟩ := all_cons hr4
  obtain ⟨n5, rfl⟩ := has_int h5
  obtain ⟨p6, r6, rfl, h6, hr6⟩ := all_cons hr5
  obtain ⟨n6, rfl⟩ := has_int h6
  obtain ⟨p7, r7, rfl, h7, hr7⟩ := all_cons hr6
  obtain ⟨n7, rfl⟩ := has_int h7
  obtain ⟨p8, r8, rfl, h8, hr8⟩ := all_cons hr7
  obtain ⟨n8, rfl⟩ := has_int h8
  obtain ⟨p9, r9, rfl, h9, hr9⟩ := all_cons hr8
  obtain ⟨n9, rfl, g9⟩ := has_ints h9
  obtain ⟨p10, r10, rfl, h10, hr10⟩ := all_cons hr9
  obtain ⟨n10, rfl⟩ := has_int h10
  obtain ⟨p11, r11, rfl, h11, hr11⟩ := all_cons hr10
  obtain ⟨n11, rfl, g11⟩ := has_ints h11
  obtain ⟨p12, r12, rfl, h12, hr12⟩ := all_cons hr11
  obtain ⟨n12, rfl⟩ := has_int h12
  obtain ⟨p13, r13, rfl, h13, hr13⟩ := all_cons hr12
  obtain ⟨n13, rfl⟩ := has_int h13
  obtain ⟨p14, r14, rfl, h14, hr14⟩ := all_cons hr13
  obtain ⟨n14, rfl, g14⟩ := has_ints h14
  obtain ⟨p15, r15, rfl, h15, hr15⟩ := all_cons hr14
  obtain ⟨n15, rfl⟩ := has_int h15
  obtain ⟨p16, r16, rfl, h16, hr16⟩ := all_cons hr15
  obtain ⟨n16, rfl⟩ := has_bool h16
  obtain ⟨p17, rfl, h17⟩ := all_one hr16
  obtain ⟨n17, rfl, g17⟩ := decSigS h17
  exact ⟨⟨⟨n1, n2, n3, n4, n5, n6, n7, n8, ⟨n9, n10⟩, ⟨n11, n12⟩, n13, ⟨n14, n15⟩, n16⟩, n17⟩, rfl, ⟨⟨g9, g11, g14⟩, g17⟩⟩
theorem laws_eqSigned_n (a : GSigned) (h : mSigned a ≤ 1048576) (k) : call laws_eqSigned [.agg (eSigned a), .agg (eSigned a)] k = k [.bool true] := call_of (fun k => by
  unfold mSigned at h
  simp [laws_eqSigned, laws_eqHead_n a.Head (by omega), laws_eqSigS_n a.Sigs (by omega)]) k
structure GFork where
  Before : GSigned
  A : GSigned
  B : GSigned
abbrev eFork (a : GFork) : List PV := [I a.Before.Head.Zone, I a.Before.Head.Epoch, I a.Before.Head.Kind, I a.Before.Head.Time, I a.Before.Head.Until, I a.Before.Head.Count, I a.Before.Head.Root, I a.Before.Head.Prev, ints a.Before.Head.Keys.Lst, I a.Before.Head.Keys.Need, ints a.Before.Head.Heirs.Lst, I a.Before.Head.Heirs.Need, I a.Before.Head.Wait, ints a.Before.Head.Judge.Lst, I a.Before.Head.Judge.Need, .bool a.Before.Head.Frozen, .list 2 (a.Before.Sigs.map eSig), I a.A.Head.Zone, I a.A.Head.Epoch, I a.A.Head.Kind, I a.A.Head.Time, I a.A.Head.Until, I a.A.Head.Count, I a.A.Head.Root, I a.A.Head.Prev, ints a.A.Head.Keys.Lst, I a.A.Head.Keys.Need, ints a.A.Head.Heirs.Lst, I a.A.Head.Heirs.Need, I a.A.Head.Wait, ints a.A.Head.Judge.Lst, I a.A.Head.Judge.Need, .bool a.A.Head.Frozen, .list 2 (a.A.Sigs.map eSig), I a.B.Head.Zone, I a.B.Head.Epoch, I a.B.Head.Kind, I a.B.Head.Time, I a.B.Head.Until, I a.B.Head.Count, I a.B.Head.Root, I a.B.Head.Prev, ints a.B.Head.Keys.Lst, I a.B.Head.Keys.Need, ints a.B.Head.Heirs.Lst, I a.B.Head.Heirs.Need, I a.B.Head.Wait, ints a.B.Head.Judge.Lst, I a.B.Head.Judge.Need, .bool a.B.Head.Frozen, .list 2 (a.B.Sigs.map eSig)]
def mFork (a : GFork) : Nat := mSigned a.Before + (mSigned a.A + (mSigned a.B))
def WFork (a : GFork) : Prop := WSigned a.Before ∧ WSigned a.A ∧ WSigned a.B
theorem decFork (r : List PV) (hr : Sh.hasAll [.int .i64, .int .i64, .int .i64, .int .i64, .int .i64, .int .i64, .int .i64, .int .i64, .list [.int .i64], .int .i64, .list [.int .i64], .int .i64, .int .i64, .list [.int .i64], .int .i64, .bool, .list [.int .i64, .int .i64], .int .i64, .int .i64, .int .i64, .int .i64, .int .i64, .int .i64, .int .i64, .int .i64, .list [.int .i64], .int .i64, .list [.int .i64], .int .i64, .int .i64, .list [.int .i64], .int .i64, .bool, .list [.int .i64, .int .i64], .int .i64, .int .i64, .int .i64, .int .i64, .int .i64, .int .i64, .int .i64, .int .i64, .list [.int .i64], .int .i64, .list [.int .i64], .int .i64, .int .i64, .list [.int .i64], .int .i64, .bool, .list [.int .i64, .int .i64]] r) : ∃ a : GFork, r = eFork a ∧ WFork a := by
  obtain ⟨p1, r1, rfl, h1, hr1⟩ := all_cons hr
  obtain ⟨n1, rfl⟩ := has_int h1
  obtain ⟨p2, r2, rfl, h2, hr2⟩ := all_cons hr1
  obtain ⟨n2, rfl⟩ := has_int h2
  obtain ⟨p3, r3, rfl, h3, hr3⟩ := all_cons hr2
  obtain ⟨n3, rfl⟩ := has_int h3
  obtain ⟨p4, r4, rfl, h4, hr4⟩ := all_cons hr3
  obtain ⟨n4, rfl⟩ := has_int h4
  obtain ⟨p5, r5, rfl, h5, hr5⟩ := all_cons hr4
  obtain ⟨n5, rfl⟩ := has_int h5
  obtain ⟨p6, r6, rfl, h6, hr6⟩ := all_cons hr5
  obtain ⟨n6, rfl⟩ := has_int h6
  obtain ⟨p7, r7, rfl, h7, hr7⟩ := all_cons hr6
  obtain ⟨n7, rfl⟩ := has_int h7
  obtain ⟨p8, r8, rfl, h8, hr8⟩ := all_cons hr7
  obtain ⟨n8, rfl⟩ := has_int h8
  obtain ⟨p9, r9, rfl, h9, hr9⟩ := all_cons hr8
  obtain ⟨n9, rfl, g9⟩ := has_ints h9
  obtain ⟨p10, r10, rfl, h10, hr10⟩ := all_cons hr9
  obtain ⟨n10, rfl⟩ := has_int h10
  obtain ⟨p11, r11, rfl, h11, hr11⟩ := all_cons hr10
  obtain ⟨n11, rfl, g11⟩ := has_ints h11
  obtain ⟨p12, r12, rfl, h12, hr12⟩ := all_cons hr11
  obtain ⟨n12, rfl⟩ := has_int h12
  obtain ⟨p13, r13, rfl, h13, hr13⟩ := all_cons hr12
  obtain ⟨n13, rfl⟩ := has_int h13
  obtain ⟨p14, r14, rfl, h14, hr14⟩ := all_cons hr13
  obtain ⟨n14, rfl, g14⟩ := has_ints h14
  obtain ⟨p15, r15, rfl, h15, hr15⟩ := all_cons hr14
  obtain ⟨n15, rfl⟩ := has_int h15
  obtain ⟨p16, r16, rfl, h16, hr16⟩ := all_cons hr15
  obtain ⟨n16, rfl⟩ := has_bool h16
  obtain ⟨p17, r17, rfl, h17, hr17⟩ := all_cons hr16
  obtain ⟨n17, rfl, g17⟩ := decSigS h17
  obtain ⟨p18, r18, rfl, h18, hr18⟩ := all_cons hr17
  obtain ⟨n18, rfl⟩ := has_int h18
  obtain ⟨p19, r19, rfl, h19, hr19⟩ := all_cons hr18
  obtain ⟨n19, rfl⟩ := has_int h19
  obtain ⟨p20, r20, rfl, h20, hr20⟩ := all_cons hr19
  obtain ⟨n20, rfl⟩ := has_int h20
  obtain ⟨p21, r21, rfl, h21, hr21⟩ := all_cons hr20
  obtain ⟨n21, rfl⟩ := has_int h21
  obtain ⟨p22, r22, rfl, h22, hr22⟩ := all_cons hr21
  obtain ⟨n22, rfl⟩ := has_int h22
  obtain ⟨p23, r23, rfl, h23, hr23⟩ := all_cons hr22
  obtain ⟨n23, rfl⟩ := has_int h23
  obtain ⟨p24, r24, rfl, h24, hr24⟩ := all_cons hr23
  obtain ⟨n24, rfl⟩ := has_int h24
  obtain ⟨p25, r25, rfl, h25, hr25⟩ := all_cons hr24
  obtain ⟨n25, rfl⟩ := has_int h25
  obtain ⟨p26, r26, rfl, h26, hr26⟩ := all_cons hr25
  obtain ⟨n26, rfl, g26⟩ := has_ints h26
  obtain ⟨p27, r27, rfl, h27, hr27⟩ := all_cons hr26
  obtain ⟨n27, rfl⟩ := has_int h27
  obtain ⟨p28, r28, rfl, h28, hr28⟩ := all_cons hr27
  obtain ⟨n28, rfl, g28⟩ := has_ints h28
  obtain ⟨p29, r29, rfl, h29, hr29⟩ := all_cons hr28
  obtain ⟨n29, rfl⟩ := has_int h29
  obtain ⟨p30, r30, rfl, h30, hr30⟩ := all_cons hr29
  obtain ⟨n30, rfl⟩ := has_int h30
  obtain ⟨p31, r31, rfl, h31, hr31⟩ := all_cons hr30
  obtain ⟨n31, rfl, g31⟩ := has_ints h31
  obtain ⟨p32, r32, rfl, h32, hr32⟩ := all_cons hr31
  obtain ⟨n32, rfl⟩ := has_int h32
  obtain ⟨p33, r33, rfl, h33, hr33⟩ := all_cons hr32
  obtain ⟨n33, rfl⟩ := has_bool h33
  obtain ⟨p34, r34, rfl, h34, hr34⟩ := all_cons hr33
  obtain ⟨n34, rfl, g34⟩ := decSigS h34
  obtain ⟨p35, r35, rfl, h35, hr35⟩ := all_cons hr34
  obtain ⟨n35, rfl⟩ := has_int h35
  obtain ⟨p36, r36, rfl, h36, hr36⟩ := all_cons hr35
  obtain ⟨n36, rfl⟩ := has_int h36
  obtain ⟨p37, r37, rfl, h37, hr37⟩ := all_cons hr36
  obtain ⟨n37, rfl⟩ := has_int h37
  obtain ⟨p38, r38, rfl, h38, hr38⟩ := all_cons hr37
  obtain ⟨n38, rfl⟩ := has_int h38
  obtain ⟨p39, r39, rfl, h39, hr39⟩ := all_cons hr38
  obtain ⟨n39, rfl⟩ := has_int h39
  obtain ⟨p40, r40, rfl, h40, hr40⟩ := all_cons hr39
  obtain ⟨n40, rfl⟩ := has_int h40
  obtain ⟨p41, r41, rfl, h41, hr41⟩ := all_cons hr40
  obtain ⟨n41, rfl⟩ := has_int h41
  obtain ⟨p42, r42, rfl, h42, hr42⟩ := all_cons hr41
  obtain ⟨n42, rfl⟩ := has_int h42
  obtain ⟨p43, r43, rfl, h43, hr43⟩ := all_cons hr42
  obtain ⟨n43, rfl, g43⟩ := has_ints h43
  obtain ⟨p44, r44, rfl, h44, hr44⟩ := all_cons hr43
  obtain ⟨n44, rfl⟩ := has_int h44
  obtain ⟨p45, r45, rfl, h45, hr45⟩ := all_cons hr44
  obtain ⟨n45, rfl, g45⟩ := has_ints h45
  obtain ⟨p46, r46, rfl, h46, hr46⟩ := all_cons hr45
  obtain ⟨n46, rfl⟩ := has_int h46
  obtain ⟨p47, r47, rfl, h47, hr47⟩ := all_cons hr46
  obtain ⟨n47, rfl⟩ := has_int h47
  obtain ⟨p48, r48, rfl, h48, hr48⟩ := all_cons hr47
  obtain ⟨n48, rfl, g48⟩ := has_ints h48
  obtain ⟨p49, r49, rfl, h49, hr49⟩ := all_cons hr48
  obtain ⟨n49, rfl⟩ := has_int h49
  obtain ⟨p50, r50, rfl, h50, hr50⟩ := all_cons hr49
  obtain ⟨n50, rfl⟩ := has_bool h50
  obtain ⟨p51, rfl, h51⟩ := all_one hr50
  obtain ⟨n51, rfl, g51⟩ := decSigS h51
  exact ⟨⟨⟨⟨n1, n2, n3, n4, n5, n6, n7, n8, ⟨n9, n10⟩, ⟨n11, n12⟩, n13, ⟨n14, n15⟩, n16⟩, n17⟩, ⟨⟨n18, n19, n20, n21, n22, n23, n24, n25, ⟨n26, n27⟩, ⟨n28, n29⟩, n30, ⟨n31, n32⟩, n33⟩, n34⟩, ⟨⟨n35, n36, n37, n38, n39, n40, n41, n42, ⟨n43, n44⟩, ⟨n45, n46⟩, n47, ⟨n48, n49⟩, n50⟩, n51⟩⟩, rfl, ⟨⟨⟨g9, g11, g14⟩, g17⟩, ⟨⟨g26, g28, g31⟩, g34⟩, ⟨⟨g43, g45, g48⟩, g51⟩⟩⟩
theorem laws_eqFork_n (a : GFork) (h : mFork a ≤ 1048576) (k) : call laws_eqFork [.agg (eFork a), .agg (eFork a)] k = k [.bool true] := call_of (fun k => by
  unfold mFork at h
  simp [laws_eqFork, laws_eqSigned_n a.Before (by omega), laws_eqSigned_n a.A (by omega), laws_eqSigned_n a.B (by omega)]) k
def mSignedS (l : List GSigned) : Nat := l.length + sumN mSigned l
theorem decSignedS {p : PV} (h : Sh.has (.list [.int .i64, .int .i64, .int .i64, .int .i64, .int .i64, .int .i64, .int .i64, .int .i64, .list [.int .i64], .int .i64, .list [.int .i64], .int .i64, .int .i64, .list [.int .i64], .int .i64, .bool, .list [.int .i64, .int .i64]]) p) : ∃ l : List GSigned, p = .list 17 (l.map eSigned) ∧ (l.length ≤ maxLen ∧ ∀ y ∈ l, WSigned y) := by
  obtain ⟨l, h1, h2, h3⟩ := has_map decSigned 17 rfl h
  exact ⟨l, h1, h2, h3⟩
theorem laws_eqSignedS_n (l : List GSigned) (h : mSignedS l ≤ 1048576) (k) : call laws_eqSignedS [.one (.list 17 (l.map eSigned)), .one (.list 17 (l.map eSigned))] k = k [.bool true] := call_of (fun k => by
  have hm := h
  unfold mSignedS at hm
  simp [laws_eqSignedS]
  refine lp_eqS l eSigned 17 (.bool false) rfl (fun i x hx hi K => ?_) fun K => ?_
  · have hs : mSigned x ≤ sumN mSigned l := sumN_mem (s := mSigned) (List.mem_of_getElem? hx)
    simp [-getElem?_pos, laws_eqSignedS_r0, hx, hi, laws_eqSigned_n x (by omega), wr_succ (show i < 1000000000000000000 by omega)]
  · simp [laws_eqSignedS_r0]) k
def mEntryS (l : List GEntry) : Nat := l.length + sumN mEntry l
theorem decEntryS {p : PV} (h : Sh.has (.list [.str, .int .i64, .int .i64, .list [.str]]) p) : ∃ l : List GEntry, p = .list 4 (l.map eEntry) ∧ (l.length ≤ maxLen ∧ ∀ y ∈ l, WEntry y) := by
  obtain ⟨l, h1, h2, h3⟩ := has_map decEntry 4 rfl h
  exact ⟨l, h1, h2, h3⟩
theorem laws_eqEntryS_n (l : List GEntry) (h : mEntryS l ≤ 1048576) (k) : call laws_eqEntryS [.one (.list 4 (l.map eEntry)), .one (.list 4 (l.map eEntry))] k = k [.bool true] := call_of (fun k => by
  have hm := h
  unfold mEntryS at hm
  simp [laws_eqEntryS]
  refine lp_eqS l eEntry 4 (.bool false) rfl (fun i x hx hi K => ?_) fun K => ?_
  · have hs : mEntry x ≤ sumN mEntry l := sumN_mem (s := mEntry) (List.mem_of_getElem? hx)
    simp [-getElem?_pos, laws_eqEntryS_r0, hx, hi, laws_eqEntry_n x (by omega), wr_succ (show i < 1000000000000000000 by omega)]
  · simp [laws_eqEntryS_r0]) k
structure GZone where
  Chain : List GSigned
  Entries : List GEntry
abbrev eZone (a : GZone) : List PV := [.list 17 (a.Chain.map eSigned), .list 4 (a.Entries.map eEntry)]
def mZone (a : GZone) : Nat := mSignedS a.Chain + (mEntryS a.Entries)
def WZone (a : GZone) : Prop := (a.Chain.length ≤ maxLen ∧ ∀ y ∈ a.Chain, WSigned y) ∧ (a.Entries.length ≤ maxLen ∧ ∀ y ∈ a.Entries, WEntry y)
theorem decZone (r : List PV) (hr : Sh.hasAll [.list [.int .i64, .int .i64, .int .i64, .int .i64, .int .i64, .int .i64, .int .i64, .int .i64, .list [.int .i64], .int .i64, .list [.int .i64], .int .i64, .int .i64, .list [.int .i64], .int .i64, .bool, .list [.int .i64, .int .i64]], .list [.str, .int .i64, .int .i64, .list [.str]]] r) : ∃ a : GZone, r = eZone a ∧ WZone a := by
  obtain ⟨p1, r1, rfl, h1, hr1⟩ := all_cons hr
  obtain ⟨n1, rfl, g1⟩ := decSignedS h1
  obtain ⟨p2, rfl, h2⟩ := all_one hr1
  obtain ⟨n2, rfl, g2⟩ := decEntryS h2
  exact ⟨⟨n1, n2⟩, rfl, ⟨g1, g2⟩⟩
theorem laws_eqZone_n (a : GZone) (h : mZone a ≤ 1048576) (k) : call laws_eqZone [.agg (eZone a), .agg (eZone a)] k = k [.bool true] := call_of (fun k => by
  unfold mZone at h
  simp [laws_eqZone, laws_eqSignedS_n a.Chain (by omega), laws_eqEntryS_n a.Entries (by omega)]) k
structure GAnswer where
  Chain : List GSigned
  Found : Bool
  Entry : GEntry
  Proof : GProof
  Gap : GGap
abbrev eAnswer (a : GAnswer) : List PV := [.list 17 (a.Chain.map eSigned), .bool a.Found, .str a.Entry.Label, I a.Entry.Kind, I a.Entry.Value, strs a.Entry.Path, I a.Proof.At, ints a.Proof.Path, I a.Gap.At, .str a.Gap.Before.Label, I a.Gap.Before.Kind, I a.Gap.Before.Value, strs a.Gap.Before.Path, .str a.Gap.After.Label, I a.Gap.After.Kind, I a.Gap.After.Value, strs a.Gap.After.Path, I a.Gap.Left.At, ints a.Gap.Left.Path, I a.Gap.Right.At, ints a.Gap.Right.Path]
def mAnswer (a : GAnswer) : Nat := mSignedS a.Chain + (mEntry a.Entry + (mProof a.Proof + (mGap a.Gap)))
def WAnswer (a : GAnswer) : Prop := (a.Chain.length ≤ maxLen ∧ ∀ y ∈ a.Chain, WSigned y) ∧ WEntry a.Entry ∧ WProof a.Proof ∧ WGap a.Gap
theorem decAnswer (r : List PV) (hr : Sh.hasAll [.list [.int .i64, .int .i64, .int .i64, .int .i64, .int .i64, .int .i64, .int .i64, .int .i64, .list [.int .i64], .int .i64, .list [.int .i64], .int .i64, .int .i64, .list [.int .i64], .int .i64, .bool, .list [.int .i64, .int .i64]], .bool, .str, .int .i64, .int .i64, .list [.str], .int .i64, .list [.int .i64], .int .i64, .str, .int .i64, .int .i64, .list [.str], .str, .int .i64, .int .i64, .list [.str], .int .i64, .list [.int .i64], .int .i64, .list [.int .i64]] r) : ∃ a : GAnswer, r = eAnswer a ∧ WAnswer a := by
  obtain ⟨p1, r1, rfl, h1, hr1⟩ := all_cons hr
  obtain ⟨n1, rfl, g1⟩ := decSignedS h1
  obtain ⟨p2, r2, rfl, h2, hr2⟩ := all_cons hr1
  obtain ⟨n2, rfl⟩ := has_bool h2
  obtain ⟨p3, r3, rfl, h3, hr3⟩ := all_cons hr2
  obtain ⟨n3, rfl, g3⟩ := has_str h3
  obtain ⟨p4, r4, rfl, h4, hr4⟩ := all_cons hr3
  obtain ⟨n4, rfl⟩ := has_int h4
  obtain ⟨p5, r5, rfl, h5, hr5⟩ := all_cons hr4
  obtain ⟨n5, rfl⟩ := has_int h5
  obtain ⟨p6, r6, rfl, h6, hr6⟩ := all_cons hr5
  obtain ⟨n6, rfl, g6⟩ := has_strs h6
  obtain ⟨p7, r7, rfl, h7, hr7⟩ := all_cons hr6
  obtain ⟨n7, rfl⟩ := has_int h7
  obtain ⟨p8, r8, rfl, h8, hr8⟩ := all_cons hr7
  obtain ⟨n8, rfl, g8⟩ := has_ints h8
  obtain ⟨p9, r9, rfl, h9, hr9⟩ := all_cons hr8
  obtain ⟨n9, rfl⟩ := has_int h9
  obtain ⟨p10, r10, rfl, h10, hr10⟩ := all_cons hr9
  obtain ⟨n10, rfl, g10⟩ := has_str h10
  obtain ⟨p11, r11, rfl, h11, hr11⟩ := all_cons hr10
  obtain ⟨n11, rfl⟩ := has_int h11
  obtain ⟨p12, r12, rfl, h12, hr12⟩ := all_cons hr11
  obtain ⟨n12, rfl⟩ := has_int h12
  obtain ⟨p13, r13, rfl, h13, hr13⟩ := all_cons hr12
  obtain ⟨n13, rfl, g13⟩ := has_strs h13
  obtain ⟨p14, r14, rfl, h14, hr14⟩ := all_cons hr13
  obtain ⟨n14, rfl, g14⟩ := has_str h14
  obtain ⟨p15, r15, rfl, h15, hr15⟩ := all_cons hr14
  obtain ⟨n15, rfl⟩ := has_int h15
  obtain ⟨p16, r16, rfl, h16, hr16⟩ := all_cons hr15
  obtain ⟨n16, rfl⟩ := has_int h16
  obtain ⟨p17, r17, rfl, h17, hr17⟩ := all_cons hr16
  obtain ⟨n17, rfl, g17⟩ := has_strs h17
  obtain ⟨p18, r18, rfl, h18, hr18⟩ := all_cons hr17
  obtain ⟨n18, rfl⟩ := has_int h18
  obtain ⟨p19, r19, rfl, h19, hr19⟩ := all_cons hr18
  obtain ⟨n19, rfl, g19⟩ := has_ints h19
  obtain ⟨p20, r20, rfl, h20, hr20⟩ := all_cons hr19
  obtain ⟨n20, rfl⟩ := has_int h20
  obtain ⟨p21, rfl, h21⟩ := all_one hr20
  obtain ⟨n21, rfl, g21⟩ := has_ints h21
  exact ⟨⟨n1, n2, ⟨n3, n4, n5, n6⟩, ⟨n7, n8⟩, ⟨n9, ⟨n10, n11, n12, n13⟩, ⟨n14, n15, n16, n17⟩, ⟨n18, n19⟩, ⟨n20, n21⟩⟩⟩, rfl, ⟨g1, ⟨g3, g6⟩, g8, ⟨⟨g10, g13⟩, ⟨g14, g17⟩, g19, g21⟩⟩⟩
theorem laws_eqAnswer_n (a : GAnswer) (h : mAnswer a ≤ 1048576) (k) : call laws_eqAnswer [.agg (eAnswer a), .agg (eAnswer a)] k = k [.bool true] := call_of (fun k => by
  unfold mAnswer at h
  simp [laws_eqAnswer, laws_eqSignedS_n a.Chain (by omega), laws_eqEntry_n a.Entry (by omega), laws_eqProof_n a.Proof (by omega), laws_eqGap_n a.Gap (by omega)]) k
def mSignedSS (l : List (List GSigned)) : Nat := l.length + sumN mSignedS l
theorem decSignedSS {p : PV} (h : Sh.has (.list [.list [.int .i64, .int .i64, .int .i64, .int .i64, .int .i64, .int .i64, .int .i64, .int .i64, .list [.int .i64], .int .i64, .list [.int .i64], .int .i64, .int .i64, .list [.int .i64], .int .i64, .bool, .list [.int .i64, .int .i64]]]) p) : ∃ l : List (List GSigned), p = .list 1 (l.map (fun l : List GSigned => [.list 17 (l.map eSigned)])) ∧ (l.length ≤ maxLen ∧ ∀ y ∈ l, (y.length ≤ maxLen ∧ ∀ z ∈ y, WSigned z)) := by
  obtain ⟨l, h1, h2, h3⟩ := has_map (enc := (fun l : List GSigned => [.list 17 (l.map eSigned)])) (wf := fun y => (y.length ≤ maxLen ∧ ∀ z ∈ y, WSigned z)) (fun r hr => by
    obtain ⟨p, rfl, h⟩ := all_one hr
    obtain ⟨m, rfl, g⟩ := decSignedS h
    exact ⟨m, rfl, g⟩) 1 rfl h
  exact ⟨l, h1, h2, h3⟩
theorem laws_eqSignedSS_n (l : List (List GSigned)) (h : mSignedSS l ≤ 1048576) (k) : call laws_eqSignedSS [.one (.list 1 (l.map (fun l : List GSigned => [.list 17 (l.map eSigned)]))), .one (.list 1 (l.map (fun l : List GSigned => [.list 17 (l.map eSigned)])))] k = k [.bool true] := call_of (fun k => by
  have hm := h
  unfold mSignedSS at hm
  simp [laws_eqSignedSS]
  refine lp_eqS l (fun l : List GSigned => [.list 17 (l.map eSigned)]) 1 (.bool false) rfl (fun i x hx hi K => ?_) fun K => ?_
  · have hs : mSignedS x ≤ sumN mSignedS l := sumN_mem (s := mSignedS) (List.mem_of_getElem? hx)
    simp [-getElem?_pos, laws_eqSignedSS_r0, hx, hi, laws_eqSignedS_n x (by omega), wr_succ (show i < 1000000000000000000 by omega)]
  · simp [laws_eqSignedSS_r0]) k
def mForkS (l : List GFork) : Nat := l.length + sumN mFork l
theorem decForkS {p : PV} (h : Sh.has (.list [.int .i64, .int .i64, .int .i64, .int .i64, .int .i64, .int .i64, .int .i64, .int .i64, .list [.int .i64], .int .i64, .list [.int .i64], .int .i64, .int .i64, .list [.int .i64], .int .i64, .bool, .list [.int .i64, .int .i64], .int .i64, .int .i64, .int .i64, .int .i64, .int .i64, .int .i64, .int .i64, .int .i64, .list [.int .i64], .int .i64, .list [.int .i64], .int .i64, .int .i64, .list [.int .i64], .int .i64, .bool, .list [.int .i64, .int .i64], .int .i64, .int .i64, .int .i64, .int .i64, .int .i64, .int .i64, .int .i64, .int .i64, .list [.int .i64], .int .i64, .list [.int .i64], .int .i64, .int .i64, .list [.int .i64], .int .i64, .bool, .list [.int .i64, .int .i64]]) p) : ∃ l : List GFork, p = .list 51 (l.map eFork) ∧ (l.length ≤ maxLen ∧ ∀ y ∈ l, WFork y) := by
  obtain ⟨l, h1, h2, h3⟩ := has_map decFork 51 rfl h
  exact ⟨l, h1, h2, h3⟩
theorem laws_eqForkS_n (l : List GFork) (h : mForkS l ≤ 1048576) (k) : call laws_eqForkS [.one (.list 51 (l.map eFork)), .one (.list 51 (l.map eFork))] k = k [.bool true] := call_of (fun k => by
  have hm := h
  unfold mForkS at hm
  simp [laws_eqForkS]
  refine lp_eqS l eFork 51 (.bool false) rfl (fun i x hx hi K => ?_) fun K => ?_
  · have hs : mFork x ≤ sumN mFork l := sumN_mem (s := mFork) (List.mem_of_getElem? hx)
    simp [-getElem?_pos, laws_eqForkS_r0, hx, hi, laws_eqFork_n x (by omega), wr_succ (show i < 1000000000000000000 by omega)]
  · simp [laws_eqForkS_r0]) k
structure GKnown where
  Chains : List (List GSigned)
  Forks : List GFork
abbrev eKnown (a : GKnown) : List PV := [.list 1 (a.Chains.map (fun l : List GSigned => [.list 17 (l.map eSigned)])), .list 51 (a.Forks.map eFork)]
def mKnown (a : GKnown) : Nat := mSignedSS a.Chains + (mForkS a.Forks)
def WKnown (a : GKnown) : Prop := (a.Chains.length ≤ maxLen ∧ ∀ y ∈ a.Chains, (y.length ≤ maxLen ∧ ∀ z ∈ y, WSigned z)) ∧ (a.Forks.length ≤ maxLen ∧ ∀ y ∈ a.Forks, WFork y)
theorem decKnown (r : List PV) (hr : Sh.hasAll [.list [.list [.int .i64, .int .i64, .int .i64, .int .i64, .int .i64, .int .i64, .int .i64, .int .i64, .list [.int .i64], .int .i64, .list [.int .i64], .int .i64, .int .i64, .list [.int .i64], .int .i64, .bool, .list [.int .i64, .int .i64]]], .list [.int .i64, .int .i64, .int .i64, .int .i64, .int .i64, .int .i64, .int .i64, .int .i64, .list [.int .i64], .int .i64, .list [.int .i64], .int .i64, .int .i64, .list [.int .i64], .int .i64, .bool, .list [.int .i64, .int .i64], .int .i64, .int .i64, .int .i64, .int .i64, .int .i64, .int .i64, .int .i64, .int .i64, .list [.int .i64], .int .i64, .list [.int .i64], .int .i64, .int .i64, .list [.int .i64], .int .i64, .bool, .list [.int .i64, .int .i64], .int .i64, .int .i64, .int .i64, .int .i64, .int .i64, .int .i64, .int .i64, .int .i64, .list [.int .i64], .int .i64, .list [.int .i64], .int .i64, .int .i64, .list [.int .i64], .int .i64, .bool, .list [.int .i64, .int .i64]]] r) : ∃ a : GKnown, r = eKnown a ∧ WKnown a := by
  obtain ⟨p1, r1, rfl, h1, hr1⟩ := all_cons hr
  obtain ⟨n1, rfl, g1⟩ := decSignedSS h1
  obtain ⟨p2, rfl, h2⟩ := all_one hr1
  obtain ⟨n2, rfl, g2⟩ := decForkS h2
  exact ⟨⟨n1, n2⟩, rfl, ⟨g1, g2⟩⟩
theorem laws_eqKnown_n (a : GKnown) (h : mKnown a ≤ 1048576) (k) : call laws_eqKnown [.agg (eKnown a), .agg (eKnown a)] k = k [.bool true] := call_of (fun k => by
  unfold mKnown at h
  simp [laws_eqKnown, laws_eqSignedSS_n a.Chains (by omega), laws_eqForkS_n a.Forks (by omega)]) k
def mZoneS (l : List GZone) : Nat := l.length + sumN mZone l
theorem decZoneS {p : PV} (h : Sh.has (.list [.list [.int .i64, .int .i64, .int .i64, .int .i64, .int .i64, .int .i64, .int .i64, .int .i64, .list [.int .i64], .int .i64, .list [.int .i64], .int .i64, .int .i64, .list [.int .i64], .int .i64, .bool, .list [.int .i64, .int .i64]], .list [.str, .int .i64, .int .i64, .list [.str]]]) p) : ∃ l : List GZone, p = .list 2 (l.map eZone) ∧ (l.length ≤ maxLen ∧ ∀ y ∈ l, WZone y) := by
  obtain ⟨l, h1, h2, h3⟩ := has_map decZone 2 rfl h
  exact ⟨l, h1, h2, h3⟩
theorem laws_eqZoneS_n (l : List GZone) (h : mZoneS l ≤ 1048576) (k) : call laws_eqZoneS [.one (.list 2 (l.map eZone)), .one (.list 2 (l.map eZone))] k = k [.bool true] := call_of (fun k => by
  have hm := h
  unfold mZoneS at hm
  simp [laws_eqZoneS]
  refine lp_eqS l eZone 2 (.bool false) rfl (fun i x hx hi K => ?_) fun K => ?_
  · have hs : mZone x ≤ sumN mZone l := sumN_mem (s := mZone) (List.mem_of_getElem? hx)
    simp [-getElem?_pos, laws_eqZoneS_r0, hx, hi, laws_eqZone_n x (by omega), wr_succ (show i < 1000000000000000000 by omega)]
  · simp [laws_eqZoneS_r0]) k
structure GServer where
  Zones : List GZone
  Lie : Int
abbrev eServer (a : GServer) : List PV := [.list 2 (a.Zones.map eZone), I a.Lie]
def mServer (a : GServer) : Nat := mZoneS a.Zones
def WServer (a : GServer) : Prop := (a.Zones.length ≤ maxLen ∧ ∀ y ∈ a.Zones, WZone y)
theorem decServer (r : List PV) (hr : Sh.hasAll [.list [.list [.int .i64, .int .i64, .int .i64, .int .i64, .int .i64, .int .i64, .int .i64, .int .i64, .list [.int .i64], .int .i64, .list [.int .i64], .int .i64, .int .i64, .list [.int .i64], .int .i64, .bool, .list [.int .i64, .int .i64]], .list [.str, .int .i64, .int .i64, .list [.str]]], .int .i64] r) : ∃ a : GServer, r = eServer a ∧ WServer a := by
  obtain ⟨p1, r1, rfl, h1, hr1⟩ := all_cons hr
  obtain ⟨n1, rfl, g1⟩ := decZoneS h1
  obtain ⟨p2, rfl, h2⟩ := all_one hr1
  obtain ⟨n2, rfl⟩ := has_int h2
  exact ⟨⟨n1, n2⟩, rfl, g1⟩
theorem laws_eqServer_n (a : GServer) (h : mServer a ≤ 1048576) (k) : call laws_eqServer [.agg (eServer a), .agg (eServer a)] k = k [.bool true] := call_of (fun k => by
  unfold mServer at h
  simp [laws_eqServer, laws_eqZoneS_n a.Zones (by omega)]) k
structure GStored where
  Zone : Int
  Label : ByteArray
  Answer : GAnswer
abbrev eStored (a : GStored) : List PV := [I a.Zone, .str a.Label, .list 17 (a.Answer.Chain.map eSigned), .bool a.Answer.Found, .str a.Answer.Entry.Label, I a.Answer.Entry.Kind, I a.Answer.Entry.Value, strs a.Answer.Entry.Path, I a.Answer.Proof.At, ints a.Answer.Proof.Path, I a.Answer.Gap.At, .str a.Answer.Gap.Before.Label, I a.Answer.Gap.Before.Kind, I a.Answer.Gap.Before.Value, strs a.Answer.Gap.Before.Path, .str a.Answer.Gap.After.Label, I a.Answer.Gap.After.Kind, I a.Answer.Gap.After.Value, strs a.Answer.Gap.After.Path, I a.Answer.Gap.Left.At, ints a.Answer.Gap.Left.Path, I a.Answer.Gap.Right.At, ints a.Answer.Gap.Right.Path]
def mStored (a : GStored) : Nat := a.Label.size + (mAnswer a.Answer)
def WStored (a : GStored) : Prop := a.Label.size ≤ maxLen ∧ WAnswer a.Answer
theorem decStored (r : List PV) (hr : Sh.hasAll [.int .i64, .str, .list [.int .i64, .int .i64, .int .i64, .int .i64, .int .i64, .int .i64, .int .i64, .int .i64, .list [.int .i64], .int .i64, .list [.int .i64], .int .i64, .int .i64, .list [.int .i64], .int .i64, .bool, .list [.int .i64, .int .i64]], .bool, .str, .int .i64, .int .i64, .list [.str], .int .i64, .list [.int .i64], .int .i64, .str, .int .i64, .int .i64, .list [.str], .str, .int .i64, .int .i64, .list [.str], .int .i64, .list [.int .i64], .int .i64, .list [.int .i64]] r) : ∃ a : GStored, r = eStored a ∧ WStored a := by
  obtain ⟨p1, r1, rfl, h1, hr1⟩ := all_cons hr
  obtain ⟨n1, rfl⟩ := has_int h1
  obtain ⟨p2, r2, rfl, h2, hr2⟩ := all_cons hr1
  obtain ⟨n2, rfl, g2⟩ := has_str h2
  obtain ⟨p3, r3, rfl, h3, hr3⟩ := all_cons hr2
  obtain ⟨n3, rfl, g3⟩ := decSignedS h3
  obtain ⟨p4, r4, rfl, h4, hr4⟩ := all_cons hr3
  obtain ⟨n4, rfl⟩ := has_bool h4
  obtain ⟨p5, r5, rfl, h5, hr5⟩ := all_cons hr4
  obtain ⟨n5, rfl, g5⟩ := has_str h5
  obtain ⟨p6, r6, rfl, h6, hr6⟩ := all_cons hr5
  obtain ⟨n6, rfl⟩ := has_int h6
  obtain ⟨p7, r7, rfl, h7, hr7⟩ := all_cons hr6
  obtain ⟨n7, rfl⟩ := has_int h7
  obtain ⟨p8, r8, rfl, h8, hr8⟩ := all_cons hr7
  obtain ⟨n8, rfl, g8⟩ := has_strs h8
  obtain ⟨p9, r9, rfl, h9, hr9⟩ := all_cons hr8
  obtain ⟨n9, rfl⟩ := has_int h9
  obtain ⟨p10, r10, rfl, h10, hr10⟩ := all_cons hr9
  obtain ⟨n10, rfl, g10⟩ := has_ints h10
  obtain ⟨p11, r11, rfl, h11, hr11⟩ := all_cons hr10
  obtain ⟨n11, rfl⟩ := has_int h11
  obtain ⟨p12, r12, rfl, h12, hr12⟩ := all_cons hr11
  obtain ⟨n12, rfl, g12⟩ := has_str h12
  obtain ⟨p13, r13, rfl, h13, hr13⟩ := all_cons hr12
  obtain ⟨n13, rfl⟩ := has_int h13
  obtain ⟨p14, r14, rfl, h14, hr14⟩ := all_cons hr13
  obtain ⟨n14, rfl⟩ := has_int h14
  obtain ⟨p15, r15, rfl, h15, hr15⟩ := all_cons hr14
  obtain ⟨n15, rfl, g15⟩ := has_strs h15
  obtain ⟨p16, r16, rfl, h16, hr16⟩ := all_cons hr15
  obtain ⟨n16, rfl, g16⟩ := has_str h16
  obtain ⟨p17, r17, rfl, h17, hr17⟩ := all_cons hr16
  obtain ⟨n17, rfl⟩ := has_int h17
  obtain ⟨p18, r18, rfl, h18, hr18⟩ := all_cons hr17
  obtain ⟨n18, rfl⟩ := has_int h18
  obtain ⟨p19, r19, rfl, h19, hr19⟩ := all_cons hr18
  obtain ⟨n19, rfl, g19⟩ := has_strs h19
  obtain ⟨p20, r20, rfl, h20, hr20⟩ := all_cons hr19
  obtain ⟨n20, rfl⟩ := has_int h20
  obtain ⟨p21, r21, rfl, h21, hr21⟩ := all_cons hr20
  obtain ⟨n21, rfl, g21⟩ := has_ints h21
  obtain ⟨p22, r22, rfl, h22, hr22⟩ := all_cons hr21
  obtain ⟨n22, rfl⟩ := has_int h22
  obtain ⟨p23, rfl, h23⟩ := all_one hr22
  obtain ⟨n23, rfl, g23⟩ := has_ints h23
  exact ⟨⟨n1, n2, ⟨n3, n4, ⟨n5, n6, n7, n8⟩, ⟨n9, n10⟩, ⟨n11, ⟨n12, n13, n14, n15⟩, ⟨n16, n17, n18, n19⟩, ⟨n20, n21⟩, ⟨n22, n23⟩⟩⟩⟩, rfl, ⟨g2, ⟨g3, ⟨g5, g8⟩, g10, ⟨⟨g12, g15⟩, ⟨g16, g19⟩, g21, g23⟩⟩⟩⟩
theorem laws_eqStored_n (a : GStored) (h : mStored a ≤ 1048576) (k) : call laws_eqStored [.agg (eStored a), .agg (eStored a)] k = k [.bool true] := call_of (fun k => by
  unfold mStored at h
  simp [laws_eqStored, laws_eqAnswer_n a.Answer (by omega)]) k
def mStoredS (l : List GStored) : Nat := l.length + sumN mStored l
theorem decStoredS {p : PV} (h : Sh.has (.list [.int .i64, .str, .list [.int .i64, .int .i64, .int .i64, .int .i64, .int .i64, .int .i64, .int .i64, .int .i64, .list [.int .i64], .int .i64, .list [.int .i64], .int .i64, .int .i64, .list [.int .i64], .int .i64, .bool, .list [.int .i64, .int .i64]], .bool, .str, .int .i64, .int .i64, .list [.str], .int .i64, .list [.int .i64], .int .i64, .str, .int .i64, .int .i64, .list [.str], .str, .int .i64, .int .i64, .list [.str], .int .i64, .list [.int .i64], .int .i64, .list [.int .i64]]) p) : ∃ l : List GStored, p = .list 23 (l.map eStored) ∧ (l.length ≤ maxLen ∧ ∀ y ∈ l, WStored y) := by
  obtain ⟨l, h1, h2, h3⟩ := has_map decStored 23 rfl h
  exact ⟨l, h1, h2, h3⟩
theorem laws_eqStoredS_n (l : List GStored) (h : mStoredS l ≤ 1048576) (k) : call laws_eqStoredS [.one (.list 23 (l.map eStored)), .one (.list 23 (l.map eStored))] k = k [.bool true] := call_of (fun k => by
  have hm := h
  unfold mStoredS at hm
  simp [laws_eqStoredS]
  refine lp_eqS l eStored 23 (.bool false) rfl (fun i x hx hi K => ?_) fun K => ?_
  · have hs : mStored x ≤ sumN mStored l := sumN_mem (s := mStored) (List.mem_of_getElem? hx)
    simp [-getElem?_pos, laws_eqStoredS_r0, hx, hi, laws_eqStored_n x (by omega), wr_succ (show i < 1000000000000000000 by omega)]
  · simp [laws_eqStoredS_r0]) k
structure GCache where
  Lst : List GStored
abbrev eCache (a : GCache) : List PV := [.list 23 (a.Lst.map eStored)]
def mCache (a : GCache) : Nat := mStoredS a.Lst
def WCache (a : GCache) : Prop := (a.Lst.length ≤ maxLen ∧ ∀ y ∈ a.Lst, WStored y)
theorem decCache (r : List PV) (hr : Sh.hasAll [.list [.int .i64, .str, .list [.int .i64, .int .i64, .int .i64, .int .i64, .int .i64, .int .i64, .int .i64, .int .i64, .list [.int .i64], .int .i64, .list [.int .i64], .int .i64, .int .i64, .list [.int .i64], .int .i64, .bool, .list [.int .i64, .int .i64]], .bool, .str, .int .i64, .int .i64, .list [.str], .int .i64, .list [.int .i64], .int .i64, .str, .int .i64, .int .i64, .list [.str], .str, .int .i64, .int .i64, .list [.str], .int .i64, .list [.int .i64], .int .i64, .list [.int .i64]]] r) : ∃ a : GCache, r = eCache a ∧ WCache a := by
  obtain ⟨p1, rfl, h1⟩ := all_one hr
  obtain ⟨n1, rfl, g1⟩ := decStoredS h1
  exact ⟨⟨n1⟩, rfl, g1⟩
theorem laws_eqCache_n (a : GCache) (h : mCache a ≤ 1048576) (k) : call laws_eqCache [.agg (eCache a), .agg (eCache a)] k = k [.bool true] := call_of (fun k => by
  unfold mCache at h
  simp [laws_eqCache, laws_eqStoredS_n a.Lst (by omega)]) k
structure GActor where
  Held : List Int
abbrev eActor (a : GActor) : List PV := [ints a.Held]
def mActor (a : GActor) : Nat := a.Held.length
def WActor (a : GActor) : Prop := a.Held.length ≤ maxLen
theorem decActor (r : List PV) (hr : Sh.hasAll [.list [.int .i64]] r) : ∃ a : GActor, r = eActor a ∧ WActor a := by
  obtain ⟨p1, rfl, h1⟩ := all_one hr
  obtain ⟨n1, rfl, g1⟩ := has_ints h1
  exact ⟨⟨n1⟩, rfl, g1⟩
theorem laws_eqActor_n (a : GActor) (h : mActor a ≤ 1048576) (k) : call laws_eqActor [.agg (eActor a), .agg (eActor a)] k = k [.bool true] := call_of (fun k => by
  unfold mActor at h
  simp [laws_eqActor, laws_eqIntS_n a.Held (by omega)]) k
structure GSaid where
  Zone : GZone
  Held : List Int
abbrev eSaid (a : GSaid) : List PV := [.list 17 (a.Zone.Chain.map eSigned), .list 4 (a.Zone.Entries.map eEntry), ints a.Held]
def mSaid (a : GSaid) : Nat := mZone a.Zone + (a.Held.length)
def WSaid (a : GSaid) : Prop := WZone a.Zone ∧ a.Held.length ≤ maxLen
theorem decSaid (r : List PV) (hr : Sh.hasAll [.list [.int .i64, .int .i64, .int .i64, .int .i64, .int .i64, .int .i64, .int .i64, .int .i64, .list [.int .i64], .int .i64, .list [.int .i64], .int .i64, .int .i64, .list [.int .i64], .int .i64, .bool, .list [.int .i64, .int .i64]], .list [.str, .int .i64, .int .i64, .list [.str]], .list [.int .i64]] r) : ∃ a : GSaid, r = eSaid a ∧ WSaid a := by
  obtain ⟨p1, r1, rfl, h1, hr1⟩ := all_cons hr
  obtain ⟨n1, rfl, g1⟩ := decSignedS h1
  obtain ⟨p2, r2, rfl, h2, hr2⟩ := all_cons hr1
  obtain ⟨n2, rfl, g2⟩ := decEntryS h2
  obtain ⟨p3, rfl, h3⟩ := all_one hr2
  obtain ⟨n3, rfl, g3⟩ := has_ints h3
  exact ⟨⟨⟨n1, n2⟩, n3⟩, rfl, ⟨⟨g1, g2⟩, g3⟩⟩
theorem laws_eqSaid_n (a : GSaid) (h : mSaid a ≤ 1048576) (k) : call laws_eqSaid [.agg (eSaid a), .agg (eSaid a)] k = k [.bool true] := call_of (fun k => by
  unfold mSaid at h
  simp [laws_eqSaid, laws_eqZone_n a.Zone (by omega), laws_eqIntS_n a.Held (by omega)]) k
def mActorS (l : List GActor) : Nat := l.length + sumN mActor l
theorem decActorS {p : PV} (h : Sh.has (.list [.list [.int .i64]]) p) : ∃ l : List GActor, p = .list 1 (l.map eActor) ∧ (l.length ≤ maxLen ∧ ∀ y ∈ l, WActor y) := by
  obtain ⟨l, h1, h2, h3⟩ := has_map decActor 1 rfl h
  exact ⟨l, h1, h2, h3⟩
theorem laws_eqActorS_n (l : List GActor) (h : mActorS l ≤ 1048576) (k) : call laws_eqActorS [.one (.list 1 (l.map eActor)), .one (.list 1 (l.map eActor))] k = k [.bool true] := call_of (fun k => by
  have hm := h
  unfold mActorS at hm
  simp [laws_eqActorS]
  refine lp_eqS l eActor 1 (.bool false) rfl (fun i x hx hi K => ?_) fun K => ?_
  · have hs : mActor x ≤ sumN mActor l := sumN_mem (s := mActor) (List.mem_of_getElem? hx)
    simp [-getElem?_pos, laws_eqActorS_r0, hx, hi, laws_eqActor_n x (by omega), wr_succ (show i < 1000000000000000000 by omega)]
  · simp [laws_eqActorS_r0]) k
def mSaidS (l : List GSaid) : Nat := l.length + sumN mSaid l
theorem decSaidS {p : PV} (h : Sh.has (.list [.list [.int .i64, .int .i64, .int .i64, .int .i64, .int .i64, .int .i64, .int .i64, .int .i64, .list [.int .i64], .int .i64, .list [.int .i64], .int .i64, .int .i64, .list [.int .i64], .int .i64, .bool, .list [.int .i64, .int .i64]], .list [.str, .int .i64, .int .i64, .list [.str]], .list [.int .i64]]) p) : ∃ l : List GSaid, p = .list 3 (l.map eSaid) ∧ (l.length ≤ maxLen ∧ ∀ y ∈ l, WSaid y) := by
  obtain ⟨l, h1, h2, h3⟩ := has_map decSaid 3 rfl h
  exact ⟨l, h1, h2, h3⟩
theorem laws_eqSaidS_n (l : List GSaid) (h : mSaidS l ≤ 1048576) (k) : call laws_eqSaidS [.one (.list 3 (l.map eSaid)), .one (.list 3 (l.map eSaid))] k = k [.bool true] := call_of (fun k => by
  have hm := h
  unfold mSaidS at hm
  simp [laws_eqSaidS]
  refine lp_eqS l eSaid 3 (.bool false) rfl (fun i x hx hi K => ?_) fun K => ?_
  · have hs : mSaid x ≤ sumN mSaid l := sumN_mem (s := mSaid) (List.mem_of_getElem? hx)
    simp [-getElem?_pos, laws_eqSaidS_r0, hx, hi, laws_eqSaid_n x (by omega), wr_succ (show i < 1000000000000000000 by omega)]
  · simp [laws_eqSaidS_r0]) k
def mServerS (l : List GServer) : Nat := l.length + sumN mServer l
theorem decServerS {p : PV} (h : Sh.has (.list [.list [.list [.int .i64, .int .i64, .int .i64, .int .i64, .int .i64, .int .i64, .int .i64, .int .i64, .list [.int .i64], .int .i64, .list [.int .i64], .int .i64, .int .i64, .list [.int .i64], .int .i64, .bool, .list [.int .i64, .int .i64]], .list [.str, .int .i64, .int .i64, .list [.str]]], .int .i64]) p) : ∃ l : List GServer, p = .list 2 (l.map eServer) ∧ (l.length ≤ maxLen ∧ ∀ y ∈ l, WServer y) := by
  obtain ⟨l, h1, h2, h3⟩ := has_map decServer 2 rfl h
  exact ⟨l, h1, h2, h3⟩
theorem laws_eqServerS_n (l : List GServer) (h : mServerS l ≤ 1048576) (k) : call laws_eqServerS [.one (.list 2 (l.map eServer)), .one (.list 2 (l.map eServer))] k = k [.bool true] := call_of (fun k => by
  have hm := h
  unfold mServerS at hm
  simp [laws_eqServerS]
  refine lp_eqS l eServer 2 (.bool false) rfl (fun i x hx hi K => ?_) fun K => ?_
  · have hs : mServer x ≤ sumN mServer l := sumN_mem (s := mServer) (List.mem_of_getElem? hx)
    simp [-getElem?_pos, laws_eqServerS_r0, hx, hi, laws_eqServer_n x (by omega), wr_succ (show i < 1000000000000000000 by omega)]
  · simp [laws_eqServerS_r0]) k
structure GWorld where
  Now : Int
  Actors : List GActor
  Zones : List GZone
  Said : List GSaid
  Servers : List GServer
  Known : GKnown
  Cache : GCache
abbrev eWorld (a : GWorld) : List PV := [I a.Now, .list 1 (a.Actors.map eActor), .list 2 (a.Zones.map eZone), .list 3 (a.Said.map eSaid), .list 2 (a.Servers.map eServer), .list 1 (a.Known.Chains.map (fun l : List GSigned => [.list 17 (l.map eSigned)])), .list 51 (a.Known.Forks.map eFork), .list 23 (a.Cache.Lst.map eStored)]
def mWorld (a : GWorld) : Nat := mActorS a.Actors + (mZoneS a.Zones + (mSaidS a.Said + (mServerS a.Servers + (mKnown a.Known + (mCache a.Cache)))))
def WWorld (a : GWorld) : Prop := (a.Actors.length ≤ maxLen ∧ ∀ y ∈ a.Actors, WActor y) ∧ (a.Zones.length ≤ maxLen ∧ ∀ y ∈ a.Zones, WZone y) ∧ (a.Said.length ≤ maxLen ∧ ∀ y ∈ a.Said, WSaid y) ∧ (a.Servers.length ≤ maxLen ∧ ∀ y ∈ a.Servers, WServer y) ∧ WKnown a.Known ∧ WCache a.Cache
theorem decWorld (r : List PV) (hr : Sh.hasAll [.int .i64, .list [.list [.int .i64]], .list [.list [.int .i64, .int .i64, .int .i64, .int .i64, .int .i64, .int .i64, .int .i64, .int .i64, .list [.int .i64], .int .i64, .list [.int .i64], .int .i64, .int .i64, .list [.int .i64], .int .i64, .bool, .list [.int .i64, .int .i64]], .list [.str, .int .i64, .int .i64, .list [.str]]], .list [.list [.int .i64, .int .i64, .int .i64, .int .i64, .int .i64, .int .i64, .int .i64, .int .i64, .list [.int .i64], .int .i64, .list [.int .i64], .int .i64, .int .i64, .list [.int .i64], .int .i64, .bool, .list [.int .i64, .int .i64]], .list [.str, .int .i64, .int .i64, .list [.str]], .list [.int .i64]], .list [.list [.list [.int .i64, .int .i64, .int .i64, .int .i64, .int .i64, .int .i64, .int .i64, .int .i64, .list [.int .i64], .int .i64, .list [.int .i64], .int .i64, .int .i64, .list [.int .i64], .int .i64, .bool, .list [.int .i64, .int .i64]], .list [.str, .int .i64, .int .i64, .list [.str]]], .int .i64], .list [.list [.int .i64, .int .i64, .int .i64, .int .i64, .int .i64, .int .i64, .int .i64, .int .i64, .list [.int .i64], .int .i64, .list [.int .i64], .int .i64, .int .i64, .list [.int .i64], .int .i64, .bool, .list [.int .i64, .int .i64]]], .list [.int .i64, .int .i64, .int .i64, .int .i64, .int .i64, .int .i64, .int .i64, .int .i64, .list [.int .i64], .int .i64, .list [.int .i64], .int .i64, .int .i64, .list [.int .i64], .int .i64, .bool, .list [.int .i64, .int .i64], .int .i64, .int .i64, .int .i64, .int .i64, .int .i64, .int .i64, .int .i64, .int .i64, .list [.int .i64], .int .i64, .list [.int .i64], .int .i64, .int .i64, .list [.int .i64], .int .i64, .bool, .list [.int .i64, .int .i64], .int .i64, .int .i64, .int .i64, .int .i64, .int .i64, .int .i64, .int .i64, .int .i64, .list [.int .i64], .int .i64, .list [.int .i64], .int .i64, .int .i64, .list [.int .i64], .int .i64, .bool, .list [.int .i64, .int .i64]], .list [.int .i64, .str, .list [.int .i64, .int .i64, .int .i64, .int .i64, .int .i64, .int .i64, .int .i64, .int .i64, .list [.int .i64], .int .i64, .list [.int .i64], .int .i64, .int .i64, .list [.int .i64], .int .i64, .bool, .list [.int .i64, .int .i64]], .bool, .str, .int .i64, .int .i64, .list [.str], .int .i64, .list [.int .i64], .int .i64, .str, .int .i64, .int .i64, .list [.str], .str, .int .i64, .int .i64, .list [.str], .int .i64, .list [.int .i64], .int .i64, .list [.int .i64]]] r) : ∃ a : GWorld, r = eWorld a ∧ WWorld a := by
  obtain ⟨p1, r1, rfl, h1, hr1⟩ := all_cons hr
  obtain ⟨n1, rfl⟩ := has_int h1
  obtain ⟨p2, r2, rfl, h2, hr2⟩ := all_cons hr1
  obtain ⟨n2, rfl, g2⟩ := decActorS h2
  obtain ⟨p3, r3, rfl, h3, hr3⟩ := all_cons hr2
  obtain ⟨n3, rfl, g3⟩ := decZoneS h3
  obtain ⟨p4, r4, rfl, h4, hr4⟩ := all_cons hr3
  obtain ⟨n4, rfl, g4⟩ := decSaidS h4
  obtain ⟨p5, r5, rfl, h5, hr5⟩ := all_cons hr4
  obtain ⟨n5, rfl, g5⟩ := decServerS h5
  obtain ⟨p6, r6, rfl, h6, hr6⟩ := all_cons hr5
  obtain ⟨n6, rfl, g6⟩ := decSignedSS h6
  obtain ⟨p7, r7, rfl, h7, hr7⟩ := all_cons hr6
  obtain ⟨n7, rfl, g7⟩ := decForkS h7
  obtain ⟨p8, rfl, h8⟩ := all_one hr7
  obtain ⟨n8, rfl, g8⟩ := decStoredS h8
  exact ⟨⟨n1, n2, n3, n4, n5, ⟨n6, n7⟩, ⟨n8⟩⟩, rfl, ⟨g2, g3, g4, g5, ⟨g6, g7⟩, g8⟩⟩
theorem laws_eqWorld_n (a : GWorld) (h : mWorld a ≤ 1048576) (k) : call laws_eqWorld [.agg (eWorld a), .agg (eWorld a)] k = k [.bool true] := call_of (fun k => by
  unfold mWorld at h
  simp [laws_eqWorld, laws_eqActorS_n a.Actors (by omega), laws_eqZoneS_n a.Zones (by omega), laws_eqSaidS_n a.Said (by omega), laws_eqServerS_n a.Servers (by omega), laws_eqKnown_n a.Known (by omega), laws_eqCache_n a.Cache (by omega)]) k
end Go.Ev
set_option linter.unusedVariables false
set_option linter.unusedSimpArgs false
set_option maxRecDepth 10000
set_option maxHeartbeats 1000000
namespace Go.Ev
open Go.Proofs
/-! ### Marks: what was written is read again -/
theorem mk_sc {ρ : List (Nat × MM)} {off t : Nat} {ss : List (Option Eff × SV)} {r r1 r' : List PV} {p : PV} {k k' : Int} (h1 : r[off]? = some p) (h2 : p.flat = true) (h3 : r.set off (cellK mtx k t) = r1) (h4 : IntKind.i64.wrap (k + 1) = k + 1) (h : mkRow ρ mtx ss r1 (k + 1) = some (r', k')) : mkRow ρ mtx ((some (.store off t), .kk) :: (none, .kinc) :: ss) r k = some (r', k') := by
  subst h3
  simp only [mkRow, regE, effS, h1, h2, if_true, h4]
  exact h
theorem mk_ca {ρ : List (Nat × MM)} {off f : Nat} {m : PV → Int → Option (PV × Int)} {ss : List (Option Eff × SV)} {r r1 r' : List PV} {p p' : PV} {k k1 k' : Int} (h1 : r[off]? = some p) (h2 : lk ρ f = some (.sl m)) (h3 : m p k = some (p', k1)) (h4 : r.set off p' = r1) (h5 : rg64 k1 = true) (h : mkRow ρ mtx ss r1 k1 = some (r', k')) : mkRow ρ mtx ((some (.call off none f), .res) :: ss) r k = some (r', k') := by
  subst h4
  simp only [mkRow, regE, effS, h1, h2, h3, h5, if_true]
  exact h
theorem mk_ct {ρ : List (Nat × MM)} {off n f : Nat} {m : List PV → Int → Option (List PV × Int)} {ss : List (Option Eff × SV)} {r r1 r' q q' : List PV} {k k1 k' : Int} (h1 : off + n ≤ r.length) (h2 : lk ρ f = some (.st m)) (hq : (r.drop off).take n = q) (h3 : m q k = some (q', k1)) (h4 : r.take off ++ q' ++ r.drop (off + n) = r1) (h5 : rg64 k1 = true) (h : mkRow ρ mtx ss r1 k1 = some (r', k')) : mkRow ρ mtx ((some (.call off (some n) f), .res) :: ss) r k = some (r', k') := by
  subst h4; subst hq
  simp only [mkRow, regE, effS, h1, h2, h3, h5, if_true]
  exact h
theorem rg_of {k : Int} (h1 : 0 ≤ k) (h2 : k ≤ 1000000000000000) : rg64 k = true := by simp only [rg64, Bool.and_eq_true, decide_eq_true_eq]; omega
theorem wr1 {k : Int} (h1 : 0 ≤ k) (h2 : k ≤ 1000000000000000) : IntKind.i64.wrap (k + 1) = k + 1 := wr_eq (by omega) (by omega)
theorem elemP_row {sz : Nat} {rows : List (List PV)} {i : Nat} {r : List PV} (h : rows[i]? = some r) (k : List PV → Prop) : elemP sz (.list sz rows) (I i) k = k r := by
  simp [elemP, h]
theorem rows_mark {α : Type} (e : α → List PV) (c : α → Nat) {ρ : List (Nat × MM)} {ss : List (Option Eff × SV)} {R : (List PV → Prop) → List PV → Prop} (sz : Nat) : ∀ (l : List α)
    (hel : ∀ x ∈ l, ∀ k, 0 ≤ k → k + 40 * (1 + (c x : Int)) ≤ 1000000000000000 → ∃ r' k', mkRow ρ mtx ss (e x) k = some (r', k') ∧ k ≤ k' ∧ k' ≤ k + 40 * (1 + (c x : Int)) ∧ ∀ (rows : List (List PV)) (i : Nat) K z, rows[i]? = some r' → i < rows.length → rows.length ≤ 1000000000000000 → (R K [.list sz rows, I k, z, I i] ↔ K [.list sz rows, I k', z, I ((i : Int) + 1)]))
    (k : Int), 0 ≤ k → k + 40 * ((l.length : Int) + (sumN c l : Int)) ≤ 1000000000000000 → ∃ rows' k', mkRows ρ mtx ss (l.map e) k = some (rows', k') ∧ rows'.length = l.length ∧ k ≤ k' ∧ k' ≤ k + 40 * ((l.length : Int) + (sumN c l : Int)) ∧
      ∀ (pre : List (List PV)) (z : PV) (fin : Prop), (pre ++ rows').length ≤ 1000000000000000 → (∀ K, R K [.list sz (pre ++ rows'), I k', z, I (pre ++ rows').length] ↔ fin) → (lp R [.list sz (pre ++ rows'), I k, z, I pre.length] ↔ fin)
  | [], hel, k, h0, hb => ⟨[], k, rfl, rfl, Int.le_refl _, by simp [sumN], fun pre z fin hl hf => itP_mono_end fun K => by have := hf K; rwa [List.append_nil] at this ⊢⟩
  | x :: l, hel, k, h0, hb => by
    have hs : sumN c (x :: l) = c x + sumN c l := rfl
    rw [hs] at hb ⊢
    simp only [List.length_cons] at hb ⊢
    obtain ⟨r', k1, q1, q2, q3, q4⟩ := hel x (by simp) k h0 (by omega)
    obtain ⟨rows', k', p1, p2, p3, p4, p5⟩ := rows_mark e c sz l (fun y hy => hel y (by simp [hy])) k1 (by omega) (by omega)
    refine ⟨r' :: rows', k', by simp only [List.map_cons, mkRows, q1, p1], by simp [p2], by omega, by omega, fun pre z fin hl hf => ?_⟩
    have hx : (pre ++ r' :: rows')[pre.length]? = some r' := by simp
    have hlt : pre.length < (pre ++ r' :: rows').length := by simp
    rw [lp_step fun K => q4 (pre ++ r' :: rows') pre.length K z hx hlt hl]
    have e1 : pre ++ r' :: rows' = (pre ++ [r']) ++ rows' := by simp
    have e2 : ((pre.length : Int) + 1) = (((pre ++ [r']).length : Nat) : Int) := by simp
    rw [e1, e2]
    exact p5 (pre ++ [r']) z fin (by rw [← e1]; exact hl) (by rw [← e1]; exact hf)
theorem rows_mark0 {α : Type} (e : α → List PV) (c : α → Nat) {ρ : List (Nat × MM)} {ss : List (Option Eff × SV)} : ∀ (l : List α)
    (hel : ∀ x ∈ l, ∀ k, 0 ≤ k → k + 40 * (1 + (c x : Int)) ≤ 1000000000000000 → ∃ r' k', mkRow ρ mtx ss (e x) k = some (r', k') ∧ k ≤ k' ∧ k' ≤ k + 40 * (1 + (c x : Int)))
    (k : Int), 0 ≤ k → k + 40 * ((l.length : Int) + (sumN c l : Int)) ≤ 1000000000000000 → ∃ rows' k', mkRows ρ mtx ss (l.map e) k = some (rows', k') ∧ k ≤ k' ∧ k' ≤ k + 40 * ((l.length : Int) + (sumN c l : Int))
  | [], hel, k, h0, hb => ⟨[], k, rfl, Int.le_refl _, by simp [sumN]⟩
  | x :: l, hel, k, h0, hb => by
    have hs : sumN c (x :: l) = c x + sumN c l := rfl
    rw [hs] at hb ⊢
    simp only [List.length_cons] at hb ⊢
    obtain ⟨r', k1, q1, q2, q3⟩ := hel x (by simp) k h0 (by omega)
    obtain ⟨rows', k', p1, p3, p4⟩ := rows_mark0 e c l (fun y hy => hel y (by simp [hy])) k1 (by omega) (by omega)
    exact ⟨r' :: rows', k', by simp only [List.map_cons, mkRows, q1, p1], by omega, by omega⟩
theorem mkS_list {ρ : List (Nat × MM)} {sz : Nat} {ss : List (Option Eff × SV)} {rows rows' : List (List PV)} {k k' : Int} (h1 : rows.length < 1000000000000000000) (h2 : mkRows ρ mtx ss rows k = some (rows', k')) : mkS ρ mtx sz ss (.list sz rows) k = some (.list sz rows', k') := by
  simp only [mkS, true_and, h1, if_true, h2]
theorem mkT_of {ρ : List (Nat × MM)} {esz : Nat} {ss : List (Option Eff × SV)} {ps ps' : List PV} {k k' : Int} (h1 : ps.length = esz) (h2 : mkRow ρ mtx ss ps k = some (ps', k')) : mkT ρ mtx esz ss ps k = some (ps', k') := by
  simp only [mkT, h1, if_true, h2]
theorem sumN_z {α : Type} (l : List α) : sumN (fun _ : α => 0) l = 0 := by
  induction l with
  | nil => rfl
  | cons x l ih => show 0 + sumN _ l = 0; rw [ih]
theorem sumN_eq {α : Type} {f g : α → Nat} (h : ∀ x, f x = g x) (l : List α) : sumN f l = sumN g l := by rw [show f = g from funext h]

theorem marks_IntS (l : List Int) (k : Int) (h0 : 0 ≤ k) (hb : k + 40 * ((l.length : Nat) : Int) ≤ 1000000000000000) : ∃ p k', mk_IntS (ints l) k = some (p, k') ∧ k ≤ k' ∧ k' ≤ k + 40 * ((l.length : Nat) : Int) ∧ ∀ K, call laws_heldIntS [.one p, .one (I k)] K = K [I k'] := by
  have hm : (l.length : Nat) = l.length + sumN (fun x : Int => 0) l := by rw [sumN_z]; omega
  rw [hm] at hb ⊢
  have hrow : ∀ (A : Prop) (B : PV → PV → PV → PV → Prop), ∀ x ∈ l, ∀ k, 0 ≤ k → k + 40 * (1 + ((fun x : Int => 0) x : Int)) ≤ 1000000000000000 → ∃ r' k', mkRow mk_IntS_r mtx mk_IntS_s (rI x) k = some (r', k') ∧ k ≤ k' ∧ k' ≤ k + 40 * (1 + ((fun x : Int => 0) x : Int)) ∧ ∀ (rows : List (List PV)) (i : Nat) K z, rows[i]? = some r' → i < rows.length → rows.length ≤ 1000000000000000 → ((fun L w => laws_heldIntS_r0 w L A B) K [.list 1 rows, I k, z, I i] ↔ K [.list 1 rows, I k', z, I ((i : Int) + 1)]) := by
    intro A B x hx k h0 hb
    have hle : (l.length : Int) ≤ 1000000000000000 := by omega
    clear hle
    try dsimp only at hb ⊢
    refine ⟨[I (k)], k + 1, mk_sc rfl rfl rfl (wr1 (by omega) (by omega)) (rfl), by omega, by omega, fun rows i K z hr hi hn => ?_⟩
    have f0 := wr1 (k := k) (by omega) (by omega)
    have hlt : (i : Int) < (rows.length : Int) := by omega
    simp only [laws_heldIntS_r0, un, cur0, lenP_eq, binP_lss, hlt, decide_true, decide_false, iteP_eq, if_true, elemP_row hr, atP_zero, atP_succ, binP_neq, bne_self_eq_false, Bool.false_eq_true, if_false, binP_add, binP_sneq, Bool.not_true, binP_rem, binP_eql, boolP_neq, f0, wr_succ (show i < 1000000000000000000 by omega), true_and, ne_eq, not_false_eq_true]
  obtain ⟨rows', k', p1, p2, p3, p4, p5⟩ := rows_mark rI (fun x : Int => 0) 1 l (hrow True fun _ _ _ _ => True) k h0 (by omega)
  have hle : (l.length : Int) ≤ 1000000000000000 := by omega
  refine ⟨.list 1 rows', k', ?_, p3, p4, fun K => ?_⟩
  · exact mkS_list (by rw [List.length_map]; omega) p1
  · refine (call_of (fun K => ?_) K)
    obtain ⟨rows2, k2, r1, r2, r3, r4, r5⟩ := rows_mark rI (fun x : Int => 0) 1 l (hrow (rt [.sc] [(I (-1))] K) fun q6 q7 q8 q9 => rt [.sc] [q7] K) k h0 (by omega)
    have hs := p1.symm.trans r1
    injection hs with hs; injection hs with hs1 hs2
    subst hs1; subst hs2
    have := r5 [] (I 0) (K [I k']) (by rw [List.nil_append, p2]; omega) fun K2 => by
      simp only [laws_heldIntS_r0, un, cur0, lenP_eq, binP_lss, Int.lt_irrefl, decide_false, iteP_eq, Bool.false_eq_true, if_false, List.nil_append, rt_eq, scs_sc, scs_nil, flat_int, true_and]
    exact this
theorem marks_ActorS (l : List GActor) (k : Int) (h0 : 0 ≤ k) (hb : k + 40 * ((mActorS l : Nat) : Int) ≤ 1000000000000000) : ∃ p k', mk_ActorS (.list 1 (l.map eActor)) k = some (p, k') ∧ k ≤ k' ∧ k' ≤ k + 40 * ((mActorS l : Nat) : Int) ∧ ∀ K, call laws_heldActorS [.one p, .one (I k)] K = K [I k'] := by
  have hm : mActorS l = l.length + sumN (fun x : GActor => mActor x) l := rfl
  rw [hm] at hb ⊢
  have hrow : ∀ (A : Prop) (B : PV → PV → PV → PV → Prop), ∀ x ∈ l, ∀ k, 0 ≤ k → k + 40 * (1 + ((fun x : GActor => mActor x) x : Int)) ≤ 1000000000000000 → ∃ r' k', mkRow mk_ActorS_r mtx mk_ActorS_s (eActor x) k = some (r', k') ∧ k ≤ k' ∧ k' ≤ k + 40 * (1 + ((fun x : GActor => mActor x) x : Int)) ∧ ∀ (rows : List (List PV)) (i : Nat) K z, rows[i]? = some r' → i < rows.length → rows.length ≤ 1000000000000000 → ((fun L w => laws_heldActorS_r0 w L A B) K [.list 1 rows, I k, z, I i] ↔ K [.list 1 rows, I k', z, I ((i : Int) + 1)]) := by
    intro A B x hx k h0 hb
    have hle : (l.length : Int) ≤ 1000000000000000 := by omega
    clear hle
    try dsimp only at hb ⊢
    simp only [mActor] at hb ⊢
    obtain ⟨p1, k1, e1, l1, u1, g1⟩ := marks_IntS x.Held (k) (by omega) (by omega)
    refine ⟨[p1], k1, mk_ca rfl rfl e1 rfl (rg_of (by omega) (by omega)) (rfl), by omega, by omega, fun rows i K z hr hi hn => ?_⟩
    have f1 : ¬ (k1 < 0) := by omega
    have hlt : (i : Int) < (rows.length : Int) := by omega
    simp only [laws_heldActorS_r0, un, cur0, lenP_eq, binP_lss, hlt, decide_true, decide_false, iteP_eq, if_true, elemP_row hr, atP_zero, atP_succ, binP_neq, bne_self_eq_false, Bool.false_eq_true, if_false, binP_add, binP_sneq, Bool.not_true, binP_rem, binP_eql, boolP_neq, g1, f1, wr_succ (show i < 1000000000000000000 by omega), true_and, ne_eq, not_false_eq_true]
  obtain ⟨rows', k', p1, p2, p3, p4, p5⟩ := rows_mark eActor (fun x : GActor => mActor x) 1 l (hrow True fun _ _ _ _ => True) k h0 (by omega)
  have hle : (l.length : Int) ≤ 1000000000000000 := by omega
  refine ⟨.list 1 rows', k', ?_, p3, p4, fun K => ?_⟩
  · exact mkS_list (by rw [List.length_map]; omega) p1
  · refine (call_of (fun K => ?_) K)
    obtain ⟨rows2, k2, r1, r2, r3, r4, r5⟩ := rows_mark eActor (fun x : GActor => mActor x) 1 l (hrow (rt [.sc] [(I (-1))] K) fun q6 q7 q8 q9 => rt [.sc] [q7] K) k h0 (by omega)
    have hs := p1.symm.trans r1
    injection hs with hs; injection hs with hs1 hs2
    subst hs1; subst hs2
    have := r5 [] (I 0) (K [I k']) (by rw [List.nil_append, p2]; omega) fun K2 => by
      simp only [laws_heldActorS_r0, un, cur0, lenP_eq, binP_lss, Int.lt_irrefl, decide_false, iteP_eq, Bool.false_eq_true, if_false, List.nil_append, rt_eq, scs_sc, scs_nil, flat_int, true_and]
    exact this
theorem marks_SigS (l : List GSig) (k : Int) (h0 : 0 ≤ k) (hb : k + 40 * ((l.length : Nat) : Int) ≤ 1000000000000000) : ∃ p k', mk_SigS (.list 2 (l.map eSig)) k = some (p, k') ∧ k ≤ k' ∧ k' ≤ k + 40 * ((l.length : Nat) : Int) ∧ ∀ K, call laws_heldSigS [.one p, .one (I k)] K = K [I k'] := by
  have hm : (l.length : Nat) = l.length + sumN (fun x : GSig => 0) l := by rw [sumN_z]; omega
  rw [hm] at hb ⊢
  have hrow : ∀ (A : Prop) (B : PV → PV → PV → PV → Prop), ∀ x ∈ l, ∀ k, 0 ≤ k → k + 40 * (1 + ((fun x : GSig => 0) x : Int)) ≤ 1000000000000000 → ∃ r' k', mkRow mk_SigS_r mtx mk_SigS_s (eSig x) k = some (r', k') ∧ k ≤ k' ∧ k' ≤ k + 40 * (1 + ((fun x : GSig => 0) x : Int)) ∧ ∀ (rows : List (List PV)) (i : Nat) K z, rows[i]? = some r' → i < rows.length → rows.length ≤ 1000000000000000 → ((fun L w => laws_heldSigS_r0 w L A B) K [.list 2 rows, I k, z, I i] ↔ K [.list 2 rows, I k', z, I ((i : Int) + 1)]) := by
    intro A B x hx k h0 hb
    have hle : (l.length : Int) ≤ 1000000000000000 := by omega
    clear hle
    try dsimp only at hb ⊢
    refine ⟨[I (k), I (k + 1)], k + 1 + 1, mk_sc rfl rfl rfl (wr1 (by omega) (by omega)) (mk_sc rfl rfl rfl (wr1 (by omega) (by omega)) (rfl)), by omega, by omega, fun rows i K z hr hi hn => ?_⟩
    have f0 := wr1 (k := k) (by omega) (by omega)
    have f1 := wr1 (k := k + 1) (by omega) (by omega)
    have hlt : (i : Int) < (rows.length : Int) := by omega
    simp only [laws_heldSigS_r0, un, cur0, lenP_eq, binP_lss, hlt, decide_true, decide_false, iteP_eq, if_true, elemP_row hr, atP_zero, atP_succ, binP_neq, bne_self_eq_false, Bool.false_eq_true, if_false, binP_add, binP_sneq, Bool.not_true, binP_rem, binP_eql, boolP_neq, f0, f1, wr_succ (show i < 1000000000000000000 by omega), true_and, ne_eq, not_false_eq_true]
  obtain ⟨rows', k', p1, p2, p3, p4, p5⟩ := rows_mark eSig (fun x : GSig => 0) 2 l (hrow True fun _ _ _ _ => True) k h0 (by omega)
  have hle : (l.length : Int) ≤ 1000000000000000 := by omega
  refine ⟨.list 2 rows', k', ?_, p3, p4, fun K => ?_⟩
  · exact mkS_list (by rw [List.length_map]; omega) p1
  · refine (call_of (fun K => ?_) K)
    obtain ⟨rows2, k2, r1, r2, r3, r4, r5⟩ := rows_mark eSig (fun x : GSig => 0) 2 l (hrow (rt [.sc] [(I (-1))] K) fun q6 q7 q8 q9 => rt [.sc] [q7] K) k h0 (by omega)
    have hs := p1.symm.trans r1
    injection hs with hs; injection hs with hs1 hs2
    subst hs1; subst hs2
    have := r5 [] (I 0) (K [I k']) (by rw [List.nil_append, p2]; omega) fun K2 => by
      simp only [laws_heldSigS_r0, un, cur0, lenP_eq, binP_lss, Int.lt_irrefl, decide_false, iteP_eq, Bool.false_eq_true, if_false, List.nil_append, rt_eq, scs_sc, scs_nil, flat_int, true_and]
    exact this
theorem marks_SignedS (l : List GSigned) (k : Int) (h0 : 0 ≤ k) (hb : k + 40 * ((mSignedS l : Nat) : Int) ≤ 1000000000000000) : ∃ p k', mk_SignedS (.list 17 (l.map eSigned)) k = some (p, k') ∧ k ≤ k' ∧ k' ≤ k + 40 * ((mSignedS l : Nat) : Int) ∧ ∀ K, call laws_heldSignedS [.one p, .one (I k)] K = K [I k'] := by
  have hm : mSignedS l = l.length + sumN (fun x : GSigned => mSigned x) l := rfl
  rw [hm] at hb ⊢
  have hrow : ∀ (A : Prop) (B : PV → PV → PV → PV → Prop), ∀ x ∈ l, ∀ k, 0 ≤ k → k + 40 * (1 + ((fun x : GSigned => mSigned x) x : Int)) ≤ 1000000000000000 → ∃ r' k', mkRow mk_SignedS_r mtx mk_SignedS_s (eSigned x) k = some (r', k') ∧ k ≤ k' ∧ k' ≤ k + 40 * (1 + ((fun x : GSigned => mSigned x) x : Int)) ∧ ∀ (rows : List (List PV)) (i : Nat) K z, rows[i]? = some r' → i < rows.length → rows.length ≤ 1000000000000000 → ((fun L w => laws_heldSignedS_r0 w L A A A A A B) K [.list 17 rows, I k, z, I i] ↔ K [.list 17 rows, I k', z, I ((i : Int) + 1)]) := by
    intro A B x hx k h0 hb
    have hle : (l.length : Int) ≤ 1000000000000000 := by omega
    clear hle
    try dsimp only at hb ⊢
    simp only [mHead, mKeys, mSigned] at hb ⊢
    obtain ⟨p1, k1, e1, l1, u1, g1⟩ := marks_IntS x.Head.Keys.Lst (k + 1 + 1 + 1 + 1 + 1 + 1 + 1 + 1) (by omega) (by omega)
    obtain ⟨p2, k2, e2, l2, u2, g2⟩ := marks_IntS x.Head.Heirs.Lst (k1 + 1) (by omega) (by omega)
    obtain ⟨p3, k3, e3, l3, u3, g3⟩ := marks_IntS x.Head.Judge.Lst (k2 + 1 + 1) (by omega) (by omega)
    obtain ⟨p4, k4, e4, l4, u4, g4⟩ := marks_SigS x.Sigs (k3 + 1 + 1) (by omega) (by omega)
    refine ⟨[I (k), I (k + 1), I (k + 1 + 1), I (k + 1 + 1 + 1), I (k + 1 + 1 + 1 + 1), I (k + 1 + 1 + 1 + 1 + 1), I (k + 1 + 1 + 1 + 1 + 1 + 1), I (k + 1 + 1 + 1 + 1 + 1 + 1 + 1), p1, I (k1), p2, I (k2), I (k2 + 1), p3, I (k3), .bool ((k3 + 1).tmod 3 == 0), p4], k4, mk_sc (r1 := [I (k), I x.Head.Epoch, I x.Head.Kind, I x.Head.Time, I x.Head.Until, I x.Head.Count, I x.Head.Root, I x.Head.Prev, ints x.Head.Keys.Lst, I x.Head.Keys.Need, ints x.Head.Heirs.Lst, I x.Head.Heirs.Need, I x.Head.Wait, ints x.Head.Judge.Lst, I x.Head.Judge.Need, .bool x.Head.Frozen, .list 2 (x.Sigs.map eSig)]) rfl rfl rfl (wr1 (by omega) (by omega)) (mk_sc (r1 := [I (k), I (k + 1), I x.Head.Kind, I x.Head.Time, I x.Head.Until, I x.Head.Count, I x.Head.Root, I x.Head.Prev, ints x.Head.Keys.Lst, I x.Head.Keys.Need, ints x.Head.Heirs.Lst, I x.Head.Heirs.Need, I x.Head.Wait, ints x.Head.Judge.Lst, I x.Head.Judge.Need, .bool x.Head.Frozen, .list 2 (x.Sigs.map eSig)]) rfl rfl rfl (wr1 (by omega) (by omega)) (mk_sc (r1 := [I (k), I (k + 1), I (k + 1 + 1), I x.Head.Time, I x.Head.Until, I x.Head.Count, I x.Head.Root, I x.Head.Prev, ints x.Head.Keys.Lst, I x.Head.Keys.Need, ints x.Head.Heirs.Lst, I x.Head.Heirs.Need, I x.Head.Wait, ints x.Head.Judge.Lst, I x.Head.Judge.Need, .bool x.Head.Frozen, .list 2 (x.Sigs.map eSig)]) rfl rfl rfl (wr1 (by omega) (by omega)) (mk_sc (r1 := [I (k), I (k + 1), I (k + 1 + 1), I (k + 1 + 1 + 1), I x.Head.Until, I x.Head.Count, I x.Head.Root, I x.Head.Prev, ints x.Head.Keys.Lst, I x.Head.Keys.Need, ints x.Head.Heirs.Lst, I x.Head.Heirs.Need, I x.Head.Wait, ints x.Head.Judge.Lst, I x.Head.Judge.Need, .bool x.Head.Frozen, .list 2 (x.Sigs.map eSig)]) rfl rfl rfl (wr1 (by omega) (by omega)) (mk_sc (r1 := [I (k), I (k + 1), I (k + 1 + 1), I (k + 1 + 1 + 1), I (k + 1 + 1 + 1 + 1), I x.Head.Count, I x.Head.Root, I x.Head.Prev, ints x.Head.Keys.Lst, I x.Head.Keys.Need, ints x.Head.Heirs.Lst, I x.Head.Heirs.Need, I x.Head.Wait, ints x.Head.Judge.Lst, I x.Head.Judge.Need, .bool x.Head.Frozen, .list 2 (x.Sigs.map eSig)]) rfl rfl rfl (wr1 (by omega) (by omega)) (mk_sc (r1 := [I (k), I (k + 1), I (k + 1 + 1), I (k + 1 + 1 + 1), I (k + 1 + 1 + 1 + 1), I (k + 1 + 1 + 1 + 1 + 1), I x.Head.Root, I x.Head.Prev, ints x.Head.Keys.Lst, I x.Head.Keys.Need, ints x.Head.Heirs.Lst, I x.Head.Heirs.Need, I x.Head.Wait, ints x.Head.Judge.Lst, I x.Head.Judge.Need, .bool x.Head.Frozen, .list 2 (x.Sigs.map eSig)]) rfl rfl rfl (wr1 (by omega) (by omega)) (mk_sc (r1 := [I (k), I (k + 1), I (k + 1 + 1), I (k + 1 + 1 + 1), I (k + 1 + 1 + 1 + 1), I (k + 1 + 1 + 1 + 1 + 1), I (k + 1 + 1 + 1 + 1 + 1 + 1), I x.Head.Prev, ints x.Head.Keys.Lst, I x.Head.Keys.Need, ints x.Head.Heirs.Lst, I x.Head.Heirs.Need, I x.Head.Wait, ints x.Head.Judge.Lst, I x.Head.Judge.Need, .bool x.Head.Frozen, .list 2 (x.Sigs.map eSig)]) rfl rfl rfl (wr1 (by omega) (by omega)) (mk_sc (r1 := [I (k), I (k + 1), I (k + 1 + 1), I (k + 1 + 1 + 1), I (k + 1 + 1 + 1 + 1), I (k + 1 + 1 + 1 + 1 + 1), I (k + 1 + 1 + 1 + 1 + 1 + 1), I (k + 1 + 1 + 1 + 1 + 1 + 1 + 1), ints x.Head.Keys.Lst, I x.Head.Keys.Need, ints x.Head.Heirs.Lst, I x.Head.Heirs.Need, I x.Head.Wait, ints x.Head.Judge.Lst, I x.Head.Judge.Need, .bool x.Head.Frozen, .list 2 (x.Sigs.map eSig)]) rfl rfl rfl (wr1 (by omega) (by omega)) (mk_ca (r1 := [I (k), I (k + 1), I (k + 1 + 1), I (k + 1 + 1 + 1), I (k + 1 + 1 + 1 + 1), I (k + 1 + 1 + 1 + 1 + 1), I (k + 1 + 1 + 1 + 1 + 1 + 1), I (k + 1 + 1 + 1 + 1 + 1 + 1 + 1), p1, I x.Head.Keys.Need, ints x.Head.Heirs.Lst, I x.Head.Heirs.Need, I x.Head.Wait, ints x.Head.Judge.Lst, I x.Head.Judge.Need, .bool x.Head.Frozen, .list 2 (x.Sigs.map eSig)]) rfl rfl e1 rfl (rg_of (by omega) (by omega)) (mk_sc (r1 := [I (k), I (k + 1), I (k + 1 + 1), I (k + 1 + 1 + 1), I (k + 1 + 1 + 1 + 1), I (k + 1 + 1 + 1 + 1 + 1), I (k + 1 + 1 + 1 + 1 + 1 + 1), I (k + 1 + 1 + 1 + 1 + 1 + 1 + 1), p1, I (k1), ints x.Head.Heirs.Lst, I x.Head.Heirs.Need, I x.Head.Wait, ints x.Head.Judge.Lst, I x.Head.Judge.Need, .bool x.Head.Frozen, .list 2 (x.Sigs.map eSig)]) rfl rfl rfl (wr1 (by omega) (by omega)) (mk_ca (r1 := [I (k), I (k + 1), I (k + 1 + 1), I (k + 1 + 1 + 1), I (k + 1 + 1 + 1 + 1), I (k + 1 + 1 + 1 + 1 + 1), I (k + 1 + 1 + 1 + 1 + 1 + 1), I (k + 1 + 1 + 1 + 1 + 1 + 1 + 1), p1, I (k1), p2, I x.Head.Heirs.Need, I x.Head.Wait, ints x.Head.Judge.Lst, I x.Head.Judge.Need, .bool x.Head.Frozen, .list 2 (x.Sigs.map eSig)]) rfl rfl e2 rfl (rg_of (by omega) (by omega)) (mk_sc (r1 := [I (k), I (k + 1), I (k + 1 + 1), I (k + 1 + 1 + 1), I (k + 1 + 1 + 1 + 1), I (k + 1 + 1 + 1 + 1 + 1), I (k + 1 + 1 + 1 + 1 + 1 + 1), I (k + 1 + 1 + 1 + 1 + 1 + 1 + 1), p1, I (k1), p2, I (k2), I x.Head.Wait, ints x.Head.Judge.Lst, I x.Head.Judge.Need, .bool x.Head.Frozen, .list 2 (x.Sigs.map eSig)]) rfl rfl rfl (wr1 (by omega) (by omega)) (mk_sc (r1 := [I (k), I (k + 1), I (k + 1 + 1), I (k + 1 + 1 + 1), I (k + 1 + 1 + 1 + 1), I (k + 1 + 1 + 1 + 1 + 1), I (k + 1 + 1 + 1 + 1 + 1 + 1), I (k + 1 + 1 + 1 + 1 + 1 + 1 + 1), p1, I (k1), p2, I (k2), I (k2 + 1), ints x.Head.Judge.Lst, I x.Head.Judge.Need, .bool x.Head.Frozen, .list 2 (x.Sigs.map eSig)]) rfl rfl rfl (wr1 (by omega) (by omega)) (mk_ca (r1 := [I (k), I (k + 1), I (k + 1 + 1), I (k + 1 + 1 + 1), I (k + 1 + 1 + 1 + 1), I (k + 1 + 1 + 1 + 1 + 1), I (k + 1 + 1 + 1 + 1 + 1 + 1), I (k + 1 + 1 + 1 + 1 + 1 + 1 + 1), p1, I (k1), p2, I (k2), I (k2 + 1), p3, I x.Head.Judge.Need, .bool x.Head.Frozen, .list 2 (x.Sigs.map eSig)]) rfl rfl e3 rfl (rg_of (by omega) (by omega)) (mk_sc (r1 := [I (k), I (k + 1), I (k + 1 + 1), I (k + 1 + 1 + 1), I (k + 1 + 1 + 1 + 1), I (k + 1 + 1 + 1 + 1 + 1), I (k + 1 + 1 + 1 + 1 + 1 + 1), I (k + 1 + 1 + 1 + 1 + 1 + 1 + 1), p1, I (k1), p2, I (k2), I (k2 + 1), p3, I (k3), .bool x.Head.Frozen, .list 2 (x.Sigs.map eSig)]) rfl rfl rfl (wr1 (by omega) (by omega)) (mk_sc (r1 := [I (k), I (k + 1), I (k + 1 + 1), I (k + 1 + 1 + 1), I (k + 1 + 1 + 1 + 1), I (k + 1 + 1 + 1 + 1 + 1), I (k + 1 + 1 + 1 + 1 + 1 + 1), I (k + 1 + 1 + 1 + 1 + 1 + 1 + 1), p1, I (k1), p2, I (k2), I (k2 + 1), p3, I (k3), .bool ((k3 + 1).tmod 3 == 0), .list 2 (x.Sigs.map eSig)]) rfl rfl rfl (wr1 (by omega) (by omega)) (mk_ca (r1 := [I (k), I (k + 1), I (k + 1 + 1), I (k + 1 + 1 + 1), I (k + 1 + 1 + 1 + 1), I (k + 1 + 1 + 1 + 1 + 1), I (k + 1 + 1 + 1 + 1 + 1 + 1), I (k + 1 + 1 + 1 + 1 + 1 + 1 + 1), p1, I (k1), p2, I (k2), I (k2 + 1), p3, I (k3), .bool ((k3 + 1).tmod 3 == 0), p4]) rfl rfl e4 rfl (rg_of (by omega) (by omega)) (rfl))))))))))))))))), by omega, by omega, fun rows i K z hr hi hn => ?_⟩
    have f0 := wr1 (k := k) (by omega) (by omega)
    have f1 := wr1 (k := k + 1) (by omega) (by omega)
    have f2 := wr1 (k := k + 1 + 1) (by omega) (by omega)
    have f3 := wr1 (k := k + 1 + 1 + 1) (by omega) (by omega)
    have f4 := wr1 (k := k + 1 + 1 + 1 + 1) (by omega) (by omega)
    have f5 := wr1 (k := k + 1 + 1 + 1 + 1 + 1) (by omega) (by omega)
    have f6 := wr1 (k := k + 1 + 1 + 1 + 1 + 1 + 1) (by omega) (by omega)
    have f7 := wr1 (k := k + 1 + 1 + 1 + 1 + 1 + 1 + 1) (by omega) (by omega)
    have f9 : ¬ (k1 < 0) := by omega
    have f10 := wr1 (k := k1) (by omega) (by omega)
    have f12 : ¬ (k2 < 0) := by omega
    have f13 := wr1 (k := k2) (by omega) (by omega)
    have f14 := wr1 (k := k2 + 1) (by omega) (by omega)
    have f16 : ¬ (k3 < 0) := by omega
    have f17 := wr1 (k := k3) (by omega) (by omega)
    have f18 := wr1 (k := k3 + 1) (by omega) (by omega)
    have f20 : ¬ (k4 < 0) := by omega
    have hlt : (i : Int) < (rows.length : Int) := by omega
    simp only [laws_heldSignedS_r0, un, cur0, lenP_eq, binP_lss, hlt, decide_true, decide_false, iteP_eq, if_true, elemP_row hr, atP_zero, atP_succ, binP_neq, bne_self_eq_false, Bool.false_eq_true, if_false, binP_add, binP_sneq, Bool.not_true, binP_rem, binP_eql, boolP_neq, f0, f1, f2, f3, f4, f5, f6, f7, g1, f9, f10, g2, f12, f13, f14, g3, f16, f17, f18, g4, f20, wr_succ (show i < 1000000000000000000 by omega), true_and, ne_eq, not_false_eq_true]
    simp
  obtain ⟨rows', k', p1, p2, p3, p4, p5⟩ := rows_mark eSigned (fun x : GSigned => mSigned x) 17 l (hrow True fun _ _ _ _ => True) k h0 (by omega)
  have hle : (l.length : Int) ≤ 1000000000000000 := by omega
  refine ⟨.list 17 rows', k', ?_, p3, p4, fun K => ?_⟩
  · exact mkS_list (by rw [List.length_map]; omega) p1
  · refine (call_of (fun K => ?_) K)
    obtain ⟨rows2, k2, r1, r2, r3, r4, r5⟩ := rows_mark eSigned (fun x : GSigned => mSigned x) 17 l (hrow (rt [.sc] [(I (-1))] K) fun q6 q7 q8 q9 => rt [.sc] [q7] K) k h0 (by omega)
    have hs := p1.symm.trans r1
    injection hs with hs; injection hs with hs1 hs2
    subst hs1; subst hs2
    have := r5 [] (I 0) (K [I k']) (by rw [List.nil_append, p2]; omega) fun K2 => by
      simp only [laws_heldSignedS_r0, un, cur0, lenP_eq, binP_lss, Int.lt_irrefl, decide_false, iteP_eq, Bool.false_eq_true, if_false, List.nil_append, rt_eq, scs_sc, scs_nil, flat_int, true_and]
    exact this
theorem marks_StringS (l : List ByteArray) (k : Int) (h0 : 0 ≤ k) (hb : k + 40 * (((l.length + sumN ByteArray.size l) : Nat) : Int) ≤ 1000000000000000) : ∃ p k', mk_StringS (strs l) k = some (p, k') ∧ k ≤ k' ∧ k' ≤ k + 40 * (((l.length + sumN ByteArray.size l) : Nat) : Int) ∧ ∀ K, call laws_heldStringS [.one p, .one (I k)] K = K [I k'] := by
  have hm : ((l.length + sumN ByteArray.size l) : Nat) = l.length + sumN (fun x : ByteArray => x.size) l := rfl
  rw [hm] at hb ⊢
  have hrow : ∀ (A : Prop) (B : PV → PV → PV → PV → Prop), ∀ x ∈ l, ∀ k, 0 ≤ k → k + 40 * (1 + ((fun x : ByteArray => x.size) x : Int)) ≤ 1000000000000000 → ∃ r' k', mkRow mk_StringS_r mtx mk_StringS_s (rS x) k = some (r', k') ∧ k ≤ k' ∧ k' ≤ k + 40 * (1 + ((fun x : ByteArray => x.size) x : Int)) ∧ ∀ (rows : List (List PV)) (i : Nat) K z, rows[i]? = some r' → i < rows.length → rows.length ≤ 1000000000000000 → ((fun L w => laws_heldStringS_r0 w L A B) K [.list 1 rows, I k, z, I i] ↔ K [.list 1 rows, I k', z, I ((i : Int) + 1)]) := by
    intro A B x hx k h0 hb
    have hle : (l.length : Int) ≤ 1000000000000000 := by omega
    clear hle
    try dsimp only at hb ⊢
    have hb0 := hb
    refine ⟨[.str (mtx (k))], k + 1, mk_sc rfl rfl rfl (wr1 (by omega) (by omega)) (rfl), by omega, by omega, fun rows i K z hr hi hn => ?_⟩
    have f0 := wr1 (k := k) (by omega) (by omega)
    have f1 := laws_markText_n (k) (rg_of (by omega) (by omega))
    have hlt : (i : Int) < (rows.length : Int) := by omega
    simp only [laws_heldStringS_r0, un, cur0, lenP_eq, binP_lss, hlt, decide_true, decide_false, iteP_eq, if_true, elemP_row hr, atP_zero, atP_succ, binP_neq, bne_self_eq_false, Bool.false_eq_true, if_false, binP_add, binP_sneq, Bool.not_true, binP_rem, binP_eql, boolP_neq, f0, f1, wr_succ (show i < 1000000000000000000 by omega), true_and, ne_eq, not_false_eq_true]
  obtain ⟨rows', k', p1, p2, p3, p4, p5⟩ := rows_mark rS (fun x : ByteArray => x.size) 1 l (hrow True fun _ _ _ _ => True) k h0 (by omega)
  have hle : (l.length : Int) ≤ 1000000000000000 := by omega
  refine ⟨.list 1 rows', k', ?_, p3, p4, fun K => ?_⟩
  · exact mkS_list (by rw [List.length_map]; omega) p1
  · refine (call_of (fun K => ?_) K)
    obtain ⟨rows2, k2, r1, r2, r3, r4, r5⟩ := rows_mark rS (fun x : ByteArray => x.size) 1 l (hrow (rt [.sc] [(I (-1))] K) fun q6 q7 q8 q9 => rt [.sc] [q7] K) k h0 (by omega)
    have hs := p1.symm.trans r1
    injection hs with hs; injection hs with hs1 hs2
    subst hs1; subst hs2
    have := r5 [] (I 0) (K [I k']) (by rw [List.nil_append, p2]; omega) fun K2 => by
      simp only [laws_heldStringS_r0, un, cur0, lenP_eq, binP_lss, Int.lt_irrefl, decide_false, iteP_eq, Bool.false_eq_true, if_false, List.nil_append, rt_eq, scs_sc, scs_nil, flat_int, true_and]
    exact this
theorem marks_EntryS (l : List GEntry) (k : Int) (h0 : 0 ≤ k) (hb : k + 40 * ((mEntryS l : Nat) : Int) ≤ 1000000000000000) : ∃ p k', mk_EntryS (.list 4 (l.map eEntry)) k = some (p, k') ∧ k ≤ k' ∧ k' ≤ k + 40 * ((mEntryS l : Nat) : Int) ∧ ∀ K, call laws_heldEntryS [.one p, .one (I k)] K = K [I k'] := by
  have hm : mEntryS l = l.length + sumN (fun x : GEntry => mEntry x) l := rfl
  rw [hm] at hb ⊢
  have hrow : ∀ (A : Prop) (B : PV → PV → PV → PV → Prop), ∀ x ∈ l, ∀ k, 0 ≤ k → k + 40 * (1 + ((fun x : GEntry => mEntry x) x : Int)) ≤ 1000000000000000 → ∃ r' k', mkRow mk_EntryS_r mtx mk_EntryS_s (eEntry x) k = some (r', k') ∧ k ≤ k' ∧ k' ≤ k + 40 * (1 + ((fun x : GEntry => mEntry x) x : Int)) ∧ ∀ (rows : List (List PV)) (i : Nat) K z, rows[i]? = some r' → i < rows.length → rows.length ≤ 1000000000000000 → ((fun L w => laws_heldEntryS_r0 w L A A B) K [.list 4 rows, I k, z, I i] ↔ K [.list 4 rows, I k', z, I ((i : Int) + 1)]) := by
    intro A B x hx k h0 hb
    have hle : (l.length : Int) ≤ 1000000000000000 := by omega
    clear hle
    try dsimp only at hb ⊢
    simp only [mEntry] at hb ⊢
    obtain ⟨p1, k1, e1, l1, u1, g1⟩ := marks_StringS x.Path (k + 1 + 1 + 1) (by omega) (by omega)
    refine ⟨[.str (mtx (k)), I (k + 1), I (k + 1 + 1), p1], k1, mk_sc (r1 := [.str (mtx (k)), I x.Kind, I x.Value, strs x.Path]) rfl rfl rfl (wr1 (by omega) (by omega)) (mk_sc (r1 := [.str (mtx (k)), I (k + 1), I x.Value, strs x.Path]) rfl rfl rfl (wr1 (by omega) (by omega)) (mk_sc (r1 := [.str (mtx (k)), I (k + 1), I (k + 1 + 1), strs x.Path]) rfl rfl rfl (wr1 (by omega) (by omega)) (mk_ca (r1 := [.str (mtx (k)), I (k + 1), I (k + 1 + 1), p1]) rfl rfl e1 rfl (rg_of (by omega) (by omega)) (rfl)))), by omega, by omega, fun rows i K z hr hi hn => ?_⟩
    have f0 := wr1 (k := k) (by omega) (by omega)
    have f1 := laws_markText_n (k) (rg_of (by omega) (by omega))
    have f2 := wr1 (k := k + 1) (by omega) (by omega)
    have f3 := wr1 (k := k + 1 + 1) (by omega) (by omega)
    have f5 : ¬ (k1 < 0) := by omega
    have hlt : (i : Int) < (rows.length : Int) := by omega
    simp only [laws_heldEntryS_r0, un, cur0, lenP_eq, binP_lss, hlt, decide_true, decide_false, iteP_eq, if_true, elemP_row hr, atP_zero, atP_succ, binP_neq, bne_self_eq_false, Bool.false_eq_true, if_false, binP_add, binP_sneq, Bool.not_true, binP_rem, binP_eql, boolP_neq, f0, f1, f2, f3, g1, f5, wr_succ (show i < 1000000000000000000 by omega), true_and, ne_eq, not_false_eq_true]
  obtain ⟨rows', k', p1, p2, p3, p4, p5⟩ := rows_mark eEntry (fun x : GEntry => mEntry x) 4 l (hrow True fun _ _ _ _ => True) k h0 (by omega)
  have hle : (l.length : Int) ≤ 1000000000000000 := by omega
  refine ⟨.list 4 rows', k', ?_, p3, p4, fun K => ?_⟩
  · exact mkS_list (by rw [List.length_map]; omega) p1
  · refine (call_of (fun K => ?_) K)
    obtain ⟨rows2, k2, r1, r2, r3, r4, r5⟩ := rows_mark eEntry (fun x : GEntry => mEntry x) 4 l (hrow (rt [.sc] [(I (-1))] K) fun q6 q7 q8 q9 => rt [.sc] [q7] K) k h0 (by omega)
    have hs := p1.symm.trans r1
    injection hs with hs; injection hs with hs1 hs2
    subst hs1; subst hs2
    have := r5 [] (I 0) (K [I k']) (by rw [List.nil_append, p2]; omega) fun K2 => by
      simp only [laws_heldEntryS_r0, un, cur0, lenP_eq, binP_lss, Int.lt_irrefl, decide_false, iteP_eq, Bool.false_eq_true, if_false, List.nil_append, rt_eq, scs_sc, scs_nil, flat_int, true_and]
    exact this
theorem marks_ZoneS (l : List GZone) (k : Int) (h0 : 0 ≤ k) (hb : k + 40 * ((mZoneS l : Nat) : Int) ≤ 1000000000000000) : ∃ p k', mk_ZoneS (.list 2 (l.map eZone)) k = some (p, k') ∧ k ≤ k' ∧ k' ≤ k + 40 * ((mZoneS l : Nat) : Int) ∧ ∀ K, call laws_heldZoneS [.one p, .one (I k)] K = K [I k'] := by
  have hm : mZoneS l = l.length + sumN (fun x : GZone => mZone x) l := rfl
  rw [hm] at hb ⊢
  have hrow : ∀ (A : Prop) (B : PV → PV → PV → PV → Prop), ∀ x ∈ l, ∀ k, 0 ≤ k → k + 40 * (1 + ((fun x : GZone => mZone x) x : Int)) ≤ 1000000000000000 → ∃ r' k', mkRow mk_ZoneS_r mtx mk_ZoneS_s (eZone x) k = some (r', k') ∧ k ≤ k' ∧ k' ≤ k + 40 * (1 + ((fun x : GZone => mZone x) x : Int)) ∧ ∀ (rows : List (List PV)) (i : Nat) K z, rows[i]? = some r' → i < rows.length → rows.length ≤ 1000000000000000 → ((fun L w => laws_heldZoneS_r0 w L A A B) K [.list 2 rows, I k, z, I i] ↔ K [.list 2 rows, I k', z, I ((i : Int) + 1)]) := by
    intro A B x hx k h0 hb
    have hle : (l.length : Int) ≤ 1000000000000000 := by omega
    clear hle
    try dsimp only at hb ⊢
    simp only [mZone] at hb ⊢
    obtain ⟨p1, k1, e1, l1, u1, g1⟩ := marks_SignedS x.Chain (k) (by omega) (by omega)
    obtain ⟨p2, k2, e2, l2, u2, g2⟩ := marks_EntryS x.Entries (k1) (by omega) (by omega)
    refine ⟨[p1, p2], k2, mk_ca rfl rfl e1 rfl (rg_of (by omega) (by omega)) (mk_ca rfl rfl e2 rfl (rg_of (by omega) (by omega)) (rfl)), by omega, by omega, fun rows i K z hr hi hn => ?_⟩
    have f1 : ¬ (k1 < 0) := by omega
    have f3 : ¬ (k2 < 0) := by omega
    have hlt : (i : Int) < (rows.length : Int) := by omega
    simp only [laws_heldZoneS_r0, un, cur0, lenP_eq, binP_lss, hlt, decide_true, decide_false, iteP_eq, if_true, elemP_row hr, atP_zero, atP_succ, binP_neq, bne_self_eq_false, Bool.false_eq_true, if_false, binP_add, binP_sneq, Bool.not_true, binP_rem, binP_eql, boolP_neq, g1, f1, g2, f3, wr_succ (show i < 1000000000000000000 by omega), true_and, ne_eq, not_false_eq_true]
  obtain ⟨rows', k', p1, p2, p3, p4, p5⟩ := rows_mark eZone (fun x : GZone => mZone x) 2 l (hrow True fun _ _ _ _ => True) k h0 (by omega)
  have hle : (l.length : Int) ≤ 1000000000000000 := by omega
  refine ⟨.list 2 rows', k', ?_, p3, p4, fun K => ?_⟩
  · exact mkS_list (by rw [List.length_map]; omega) p1
  · refine (call_of (fun K => ?_) K)
    obtain ⟨rows2, k2, r1, r2, r3, r4, r5⟩ := rows_mark eZone (fun x : GZone => mZone x) 2 l (hrow (rt [.sc] [(I (-1))] K) fun q6 q7 q8 q9 => rt [.sc] [q7] K) k h0 (by omega)
    have hs := p1.symm.trans r1
    injection hs with hs; injection hs with hs1 hs2
    subst hs1; subst hs2
    have := r5 [] (I 0) (K [I k']) (by rw [List.nil_append, p2]; omega) fun K2 => by
      simp only [laws_heldZoneS_r0, un, cur0, lenP_eq, binP_lss, Int.lt_irrefl, decide_false, iteP_eq, Bool.false_eq_true, if_false, List.nil_append, rt_eq, scs_sc, scs_nil, flat_int, true_and]
    exact this
theorem marks_ServerS (l : List GServer) (k : Int) (h0 : 0 ≤ k) (hb : k + 40 * ((mServerS l : Nat) : Int) ≤ 1000000000000000) : ∃ p k', mk_ServerS (.list 2 (l.map eServer)) k = some (p, k') ∧ k ≤ k' ∧ k' ≤ k + 40 * ((mServerS l : Nat) : Int) ∧ ∀ K, call laws_heldServerS [.one p, .one (I k)] K = K [I k'] := by
  have hm : mServerS l = l.length + sumN (fun x : GServer => mServer x) l := rfl
  rw [hm] at hb ⊢
  have hrow : ∀ (A : Prop) (B : PV → PV → PV → PV → Prop), ∀ x ∈ l, ∀ k, 0 ≤ k → k + 40 * (1 + ((fun x : GServer => mServer x) x : Int)) ≤ 1000000000000000 → ∃ r' k', mkRow mk_ServerS_r mtx mk_ServerS_s (eServer x) k = some (r', k') ∧ k ≤ k' ∧ k' ≤ k + 40 * (1 + ((fun x : GServer => mServer x) x : Int)) ∧ ∀ (rows : List (List PV)) (i : Nat) K z, rows[i]? = some r' → i < rows.length → rows.length ≤ 1000000000000000 → ((fun L w => laws_heldServerS_r0 w L A B) K [.list 2 rows, I k, z, I i] ↔ K [.list 2 rows, I k', z, I ((i : Int) + 1)]) := by
    intro A B x hx k h0 hb
    have hle : (l.length : Int) ≤ 1000000000000000 := by omega
    clear hle
    try dsimp only at hb ⊢
    simp only [mServer] at hb ⊢
    obtain ⟨p1, k1, e1, l1, u1, g1⟩ := marks_ZoneS x.Zones (k) (by omega) (by omega)
    refine ⟨[p1, I (k1)], k1 + 1, mk_ca rfl rfl e1 rfl (rg_of (by omega) (by omega)) (mk_sc rfl rfl rfl (wr1 (by omega) (by omega)) (rfl)), by omega, by omega, fun rows i K z hr hi hn => ?_⟩
    have f1 : ¬ (k1 < 0) := by omega
    have f2 := wr1 (k := k1) (by omega) (by omega)
    have hlt : (i : Int) < (rows.length : Int) := by omega
    simp only [laws_heldServerS_r0, un, cur0, lenP_eq, binP_lss, hlt, decide_true, decide_false, iteP_eq, if_true, elemP_row hr, atP_zero, atP_succ, binP_neq, bne_self_eq_false, Bool.false_eq_true, if_false, binP_add, binP_sneq, Bool.not_true, binP_rem, binP_eql, boolP_neq, g1, f1, f2, wr_succ (show i < 1000000000000000000 by omega), true_and, ne_eq, not_false_eq_true]
  obtain ⟨rows', k', p1, p2, p3, p4, p5⟩ := rows_mark eServer (fun x : GServer => mServer x) 2 l (hrow True fun _ _ _ _ => True) k h0 (by omega)
  have hle : (l.length : Int) ≤ 1000000000000000 := by omega
  refine ⟨.list 2 rows', k', ?_, p3, p4, fun K => ?_⟩
  · exact mkS_list (by rw [List.length_map]; omega) p1
  · refine (call_of (fun K => ?_) K)
    obtain ⟨rows2, k2, r1, r2, r3, r4, r5⟩ := rows_mark eServer (fun x : GServer => mServer x) 2 l (hrow (rt [.sc] [(I (-1))] K) fun q6 q7 q8 q9 => rt [.sc] [q7] K) k h0 (by omega)
    have hs := p1.symm.trans r1
    injection hs with hs; injection hs with hs1 hs2
    subst hs1; subst hs2
    have := r5 [] (I 0) (K [I k']) (by rw [List.nil_append, p2]; omega) fun K2 => by
      simp only [laws_heldServerS_r0, un, cur0, lenP_eq, binP_lss, Int.lt_irrefl, decide_false, iteP_eq, Bool.false_eq_true, if_false, List.nil_append, rt_eq, scs_sc, scs_nil, flat_int, true_and]
    exact this
end Go.Ev
set_option linter.unusedVariables false
set_option linter.unusedSimpArgs false
set_option maxRecDepth 8000
set_option maxHeartbeats 2000000
namespace Go.Ev
open Go.Proofs
theorem callT {m : List PV → Int → Option (List PV × Int)} {ps ps' : List PV} {k k' : Int} (h : m ps k = some (ps', k')) (hk : rg64 k = true) (K) : call (gT m) [.agg ps, .one (I k)] K = K (ps' ++ [I k']) := call_of (fun K => by
  simp only [gT, hk, true_and, h]) K
def cl (x : Int) : Nat := if x < 1 then 1 else if 4 < x then 4 else x.toNat
theorem cl_le (x : Int) : 1 ≤ cl x ∧ cl x ≤ 4 := by unfold cl; split <;> (try split) <;> omega
theorem max_min (x : Int) (k : PV → Prop) : (maxP (I x) (I 1) fun r => minP r (I 4) k) = k (I (cl x)) := by
  rw [maxP_eq, minP_eq]
  congr 2
  unfold cl
  split <;> (try split) <;> (try split) <;> omega
def hel (i j : Nat) : List Int := (List.range j).map fun t : Nat => (i : Int) * 4 + (t : Int) + 1
theorem hel_succ (i j : Nat) : hel i (j + 1) = hel i j ++ [(i : Int) * 4 + (j : Int) + 1] := by simp [hel, List.range_succ]
def mkA (i : Nat) : GActor := ⟨hel i 4⟩
def acts (n : Nat) : List GActor := (List.range n).map mkA
theorem acts_succ (n : Nat) : acts (n + 1) = acts n ++ [mkA n] := by simp [acts, List.range_succ]
def newW (n m : Nat) : GWorld := ⟨0, acts n, [], [], List.replicate m ⟨[], 0⟩, ⟨[], []⟩, ⟨[]⟩⟩
theorem eW (n m : Nat) : eWorld (newW n m) = [I 0, .list 1 ((acts n).map eActor), .list 2 [], .list 3 [], .list 2 (List.replicate m [.list 2 [], I 0]), .list 1 [], .list 51 [], .list 23 []] := by simp [newW]
theorem acts_len (n : Nat) : (acts n).length = n := by simp [acts]
theorem impl_inner (a1 : PV) (n i : Nat) (hi : i < 4) (z : PV) (A : PV → PV → PV → PV → PV → PV → PV → PV → PV → PV → PV → PV → PV → PV → PV → PV → PV → PV → PV → PV → PV → PV → Prop) :
    (lp (fun L w => impl_NewWorld_r1 w L A) [a1, I i, I n, I i, I 0, I 0, I 0, .list 1 [], .list 23 [], .list 51 [], .list 1 [], .list 2 [], .list 3 [], .list 2 [], .list 1 [], .list 23 [], .list 51 [], .list 1 [], .list 2 [], .list 3 [], .list 2 [], z] ↔
      A a1 (I i) (I n) (I i) (I 4) (I 0) (I 0) (ints (hel i 4)) (.list 23 []) (.list 51 []) (.list 1 []) (.list 2 []) (.list 3 []) (.list 2 []) (.list 1 []) (.list 23 []) (.list 51 []) (.list 1 []) (.list 2 []) (.list 3 []) (.list 2 []) z) := by
  refine lp_nat 4 (fun j => [a1, I i, I n, I i, I j, I 0, I 0, ints (hel i j), .list 23 [], .list 51 [], .list 1 [], .list 2 [], .list 3 [], .list 2 [], .list 1 [], .list 23 [], .list 51 [], .list 1 [], .list 2 [], .list 3 [], .list 2 [], z]) rfl (fun j hj K => ?_) fun K => ?_
  · have w1 : IntKind.i64.wrap ((i : Int) * 4) = (i : Int) * 4 := wr_eq (by omega) (by omega)
    have w2 : IntKind.i64.wrap ((i : Int) * 4 + (j : Int)) = (i : Int) * 4 + (j : Int) := wr_eq (by omega) (by omega)
    have w3 : IntKind.i64.wrap ((i : Int) * 4 + (j : Int) + 1) = (i : Int) * 4 + (j : Int) + 1 := wr_eq (by omega) (by omega)
    have hl : (hel i j).length = j := by simp [hel]
    have e2 : ints (hel i (j + 1)) = PV.list 1 ((hel i j).map rI ++ [[I ((i : Int) * 4 + (j : Int) + 1)]]) := by rw [hel_succ]; simp
    have hb : ((hel i j).map rI).length + [[I ((i : Int) * 4 + (j : Int) + 1)]].length < 1073741824 := by rw [List.length_map, hl]; simp; omega
    simp only [impl_NewWorld_r1, un, cur0, binP_lss, show (j : Int) < 4 by omega, decide_true, iteP_eq, if_true, binP_mul, w1, binP_add, w2, w3, flatCond_pv, flatCond_nil, flat_int, true_and, catP_eq, hb, wr_succ (show j < 1000000000000000000 by omega), e2]
    simp
  · simp [impl_NewWorld_r1]
theorem impl_NewWorld_n (x y : Int) (k) : call impl_NewWorld [.one (I x), .one (I y)] k = k (eWorld (newW (cl x) (cl y))) := call_of (fun k => by
  have hn := cl_le x
  have hm := cl_le y
  simp only [impl_NewWorld]
  rw [max_min]
  generalize cl x = n at *
  refine (lp_nat (fin := k (eWorld (newW n (cl y)))) n (fun i => [I y, I n, I i, I 0, I 0, .list 23 [], .list 51 [], .list 1 [], .list 2 [], .list 3 [], .list 2 [], .list 1 [], .list 23 [], .list 51 [], .list 1 [], .list 2 [], .list 3 [], .list 2 [], .list 1 ((acts i).map eActor)]) rfl (fun i hi K => ?_) fun K => ?_)
  · have hal := acts_len i
    simp only [impl_NewWorld_r0, un, cur0, binP_lss, show (i : Int) < (n : Int) by omega, decide_true, iteP_eq, if_true]
    rw [impl_inner _ n i (by omega)]
    rw [acts_succ, List.map_append]
    have hb : ((acts i).map eActor).length + [[ints (hel i 4)]].length < 1073741824 := by rw [List.length_map, hal]; simp; omega
    simp only [flatCond_n, flatCond_nil, true_and, catP_eq, hb, binP_add, wr_succ (show i < 1000000000000000000 by omega)]
    simp [mkA]
  · simp only [impl_NewWorld_r0, un, cur0, binP_lss, Int.lt_irrefl, decide_false, iteP_eq, Bool.false_eq_true, if_false]
    rw [max_min]
    generalize cl y = m at *
    rw [eW]
    simp
    intro _; omega) k
theorem spec_maxmin (x : Int) (k : List PV → Prop) : (call spec_Max [.one (I 1), .one (I x)] fun o0 => call spec_Min [.one (I 4), .one (atP o0 0)] k) = k [I (cl x)] := by
  have e1 : ∀ (a b : Int) k, call spec_Max [.one (I a), .one (I b)] k = k [I (if a < b then b else a)] := fun a b k => call_of (fun k => by
    by_cases h : a < b
    · have h2 : ¬ b ≤ a := by omega
      simp [spec_Max, h, h2]
    · have h2 : b ≤ a := by omega
      simp [spec_Max, h, h2]) k
  have e2 : ∀ (a b : Int) k, call spec_Min [.one (I a), .one (I b)] k = k [I (if b < a then b else a)] := fun a b k => call_of (fun k => by
    by_cases h : b < a <;> simp [spec_Min, h]) k
  rw [e1, atP_zero, e2]
  have e3 : (if (if (1 : Int) < x then x else 1) < 4 then (if (1 : Int) < x then x else 1) else 4) = ((cl x : Nat) : Int) := by
    by_cases h1 : x < 1
    · have g : ¬ ((1 : Int) < x) := by omega
      simp only [cl, h1, g, if_true, if_false]; decide
    · by_cases h2 : 4 < x
      · have g : ((1 : Int) < x) := by omega
        have g2 : ¬ (x < 4) := by omega
        simp only [cl, h1, h2, g, g2, if_true, if_false]; decide
      · by_cases h3 : (1 : Int) < x
        · simp only [cl, h1, h2, h3, if_true, if_false]; split <;> omega
        · have g : x = 1 := by omega
          subst g; decide
  rw [e3]
theorem spec_NewWorld_n (x y : Int) (k) : call spec_NewWorld [.one (I x), .one (I y)] k = k (eWorld (newW (cl x) (cl y))) := call_of (fun k => by
  have hn := cl_le x
  have hm := cl_le y
  simp only [spec_NewWorld]
  rw [spec_maxmin]
  generalize cl x = n at *
  refine (lp_nat (fin := k (eWorld (newW n (cl y)))) n (fun i => [I y, I n, I i, I 0, I 0, .list 23 [], .list 51 [], .list 1 [], .list 2 [], .list 3 [], .list 2 [], .list 1 [], .list 23 [], .list 51 [], .list 1 [], .list 2 [], .list 3 [], .list 2 [], .list 1 ((acts i).map eActor)]) (by simp [acts]) (fun i hi K => ?_) fun K => ?_)
  · have hal := acts_len i
    have w0 : IntKind.i64.wrap ((i : Int) * 4) = (i : Int) * 4 := wr_eq (by omega) (by omega)
    have w1 : IntKind.i64.wrap ((i : Int) * 4 + 1) = (i : Int) * 4 + 1 := wr_eq (by omega) (by omega)
    have w2 : IntKind.i64.wrap ((i : Int) * 4 + 2) = (i : Int) * 4 + 2 := wr_eq (by omega) (by omega)
    have w3 : IntKind.i64.wrap ((i : Int) * 4 + 3) = (i : Int) * 4 + 3 := wr_eq (by omega) (by omega)
    have w4 : IntKind.i64.wrap ((i : Int) * 4 + 4) = (i : Int) * 4 + 4 := wr_eq (by omega) (by omega)
    have eh : PV.list 1 [[I ((i : Int) * 4 + 1)], [I ((i : Int) * 4 + 2)], [I ((i : Int) * 4 + 3)], [I ((i : Int) * 4 + 4)]] = ints (hel i 4) := by
      simp [hel, List.range_succ]; omega
    rw [acts_succ, List.map_append]
    have hb : ((acts i).map eActor).length + [[ints (hel i 4)]].length < 1073741824 := by rw [List.length_map, hal]; simp; omega
    simp only [spec_NewWorld_r0, un, cur0, binP_lss, show (i : Int) < (n : Int) by omega, decide_true, iteP_eq, if_true, binP_mul, w0, binP_add, w1, w2, w3, w4, flatCond_pv, flatCond_n, flatCond_nil, flat_int, true_and, eh, catP_eq, hb, wr_succ (show i < 1000000000000000000 by omega), show (4 : Nat) ≤ 16777216 by omega]
    simp [mkA]
  · simp only [spec_NewWorld_r0, un, cur0, binP_lss, Int.lt_irrefl, decide_false, iteP_eq, Bool.false_eq_true, if_false]
    rw [spec_maxmin]
    generalize cl y = m at *
    refine lp_nat m (fun t => [I y, I n, I n, I ((m : Int) - (t : Int)), I 0, I 0, .list 23 [], .list 51 [], .list 1 [], .list 2 [], .list 3 [], .list 2 [], .list 1 [], .list 23 [], .list 51 [], .list 1 [], .list 2 (List.replicate t [.list 2 [], I 0]), .list 3 [], .list 2 [], .list 1 ((acts n).map eActor)]) (by simp) (fun t ht K => ?_) fun K => ?_
    · have w0 : IntKind.i64.wrap ((m : Int) - (t : Int) - 1) = (m : Int) - ((t + 1 : Nat) : Int) := by rw [wr_eq (by omega) (by omega)]; omega
      have hb : (List.replicate t [PV.list 2 [], I 0]).length + [[PV.list 2 [], I 0]].length < 1073741824 := by rw [List.length_replicate]; simp; omega
      simp only [spec_NewWorld_r1, un, cur0, binP_gtr, show (0 : Int) < (m : Int) - (t : Int) by omega, decide_true, iteP_eq, if_true, flatCond_pv, flatCond_n, flatCond_nil, flat_int, true_and, catP_eq, hb, binP_sub, w0, ← List.replicate_succ', show (2 : Nat) ≤ 16777216 by omega]
    · have hz : ¬ ((0 : Int) < (m : Int) - (m : Int)) := by omega
      rw [eW]
      simp only [spec_NewWorld_r1, un, cur0, binP_gtr, hz, decide_false, iteP_eq, Bool.false_eq_true, if_false, rt_eq]
      simp) k
/-! ### The world is marked, and read again -/
theorem callS {m : PV → Int → Option (PV × Int)} {p p' : PV} {k k' : Int} (h : m p k = some (p', k')) (hk : rg64 k = true) (K) : call (gS m) [.one p, .one (I k)] K = K [p', I k'] := call_of (fun K => by
  simp only [gS, hk, true_and, h]) K
theorem held0_ZoneS (k : Int) (K) : call laws_heldZoneS [.one (.list 2 []), .one (I k)] K = K [I k] := call_of (fun K => by
  refine itP_mono_end fun K2 => ?_
  simp [laws_heldZoneS_r0]) K
theorem held0_SaidS (k : Int) (K) : call laws_heldSaidS [.one (.list 3 []), .one (I k)] K = K [I k] := call_of (fun K => by
  refine itP_mono_end fun K2 => ?_
  simp [laws_heldSaidS_r0]) K
theorem held0_SignedSS (k : Int) (K) : call laws_heldSignedSS [.one (.list 1 []), .one (I k)] K = K [I k] := call_of (fun K => by
  refine itP_mono_end fun K2 => ?_
  simp [laws_heldSignedSS_r0]) K
theorem held0_ForkS (k : Int) (K) : call laws_heldForkS [.one (.list 51 []), .one (I k)] K = K [I k] := call_of (fun K => by
  refine itP_mono_end fun K2 => ?_
  simp [laws_heldForkS_r0]) K
theorem held0_StoredS (k : Int) (K) : call laws_heldStoredS [.one (.list 23 []), .one (I k)] K = K [I k] := call_of (fun K => by
  refine itP_mono_end fun K2 => ?_
  simp [laws_heldStoredS_r0]) K
theorem mact {n : Nat} (h : n ≤ 4) : mActorS (acts n) ≤ 100 := by
  match n, h with
  | 0, _ => decide
  | 1, _ => decide
  | 2, _ => decide
  | 3, _ => decide
  | 4, _ => decide
theorem mser {m : Nat} (h : m ≤ 4) : mServerS (List.replicate m (⟨[], 0⟩ : GServer)) ≤ 100 := by
  match m, h with
  | 0, _ => decide
  | 1, _ => decide
  | 2, _ => decide
  | 3, _ => decide
  | 4, _ => decide
theorem marks_newW {n m : Nat} (hn : n ≤ 4) (hm : m ≤ 4) : ∃ pA pS k', mk_World (eWorld (newW n m)) 1 = some ([I 0, pA, .list 2 [], .list 3 [], pS, .list 1 [], .list 51 [], .list 23 []], k') ∧ 1 ≤ k' ∧ ∀ K, call laws_heldWorld [.agg [I 0, pA, .list 2 [], .list 3 [], pS, .list 1 [], .list 51 [], .list 23 []], .one (I 1)] K = K [I k'] := by
  have h1 := mact hn
  have h2 := mser hm
  obtain ⟨pA, k1, e1, l1, u1, g1⟩ := marks_ActorS (acts n) 1 (by omega) (by omega)
  obtain ⟨pS, k2, e2, l2, u2, g2⟩ := marks_ServerS (List.replicate m ⟨[], 0⟩) k1 (by omega) (by omega)
  refine ⟨pA, pS, k2, ?_, by omega, fun K => call_of (fun K => ?_) K⟩
  · have r1 : rg64 k1 = true := rg_of (by omega) (by omega)
    have r2 : rg64 k2 = true := rg_of (by omega) (by omega)
    have eK : mk_Known [.list 1 [], .list 51 []] k2 = some ([.list 1 [], .list 51 []], k2) := mkT_of rfl (mk_ca rfl rfl rfl rfl r2 (mk_ca rfl rfl rfl rfl r2 rfl))
    have eC : mk_Cache [.list 23 []] k2 = some ([.list 23 []], k2) := mkT_of rfl (mk_ca rfl rfl rfl rfl r2 rfl)
    exact mkT_of rfl (mk_ca rfl rfl e1 rfl r1 (mk_ca rfl rfl (rfl : mk_ZoneS (.list 2 []) k1 = some (.list 2 [], k1)) rfl r1 (mk_ca rfl rfl (rfl : mk_SaidS (.list 3 []) k1 = some (.list 3 [], k1)) rfl r1 (mk_ca rfl rfl e2 rfl r2
      (mk_ct (Nat.le_of_ble_eq_true rfl) rfl rfl eK rfl r2 (mk_ct (Nat.le_of_ble_eq_true rfl) rfl rfl eC rfl r2 rfl))))))
  · have f1 : ¬ (k1 < 0) := by omega
    have f2 : ¬ (k2 < 0) := by omega
    have gK : ∀ K, call laws_heldKnown [.agg [.list 1 [], .list 51 []], .one (I k2)] K = K [I k2] := fun K => call_of (fun K => by
      simp [laws_heldKnown, held0_SignedSS, held0_ForkS, f2]) K
    have gC : ∀ K, call laws_heldCache [.agg [.list 23 []], .one (I k2)] K = K [I k2] := fun K => call_of (fun K => by
      simp [laws_heldCache, held0_StoredS, f2]) K
    simp [laws_heldWorld, g1, g2, held0_ZoneS, held0_SaidS, gK, gC, f1, f2]
theorem mnew {n m : Nat} (hn : n ≤ 4) (hm : m ≤ 4) : mWorld (newW n m) ≤ 1048576 := by
  have h1 := mact hn
  have h2 := mser hm
  show mActorS (acts n) + (0 + (0 + (mServerS (List.replicate m (⟨[], 0⟩ : GServer)) + (0 + 0)))) ≤ 1048576
  omega
theorem laws_FnExactNewWorld_law (pvss : List (List PV)) (h : HasEach [[.int .i64], [.int .i64]] pvss) : laws_FnExactNewWorld (avsOf Try.prog Try.f6.params.toList pvss) (fun o => o = [PV.bool true]) := by
  obtain ⟨p0, r0, rfl, h0, hq0⟩ := each_cons h
  obtain ⟨p1, r1, rfl, h1, hq1⟩ := each_cons hq0
  rw [each_nil hq1]
  obtain ⟨p0, rfl, g0⟩ := all_one h0
  obtain ⟨x, rfl⟩ := has_int g0
  obtain ⟨p1, rfl, g1⟩ := all_one h1
  obtain ⟨y, rfl⟩ := has_int g1
  rw [show avsOf Try.prog Try.f6.params.toList [[I x], [I y]] = [.one (I x), .one (I y)] by kernel_rfl]
  have sp := spec_NewWorld_n x y
  have im := impl_NewWorld_n x y
  have hn := (cl_le x).2
  have hm := (cl_le y).2
  generalize cl x = n at *
  generalize cl y = m at *
  have q3 := laws_eqWorld_n (newW n m) (mnew hn hm)
  obtain ⟨pA, pS, kA, e2, b3, hh⟩ := marks_newW hn hm
  have mA : ∀ K, call laws_markWorld [.agg (eWorld (newW n m)), .one (I 1)] K = K [I 0, pA, .list 2 [], .list 3 [], pS, .list 1 [], .list 51 [], .list 23 [], I kA] := callT e2 (by decide)
  have n2 : ¬ (kA < 0) := by omega
  rw [eW] at sp im q3 mA
  simp only [laws_FnExactNewWorld, sp, im, atP_zero, atP_succ, q3, unP_not, Bool.not_true, iteP_eq, Bool.false_eq_true, if_false, flatCond_n, flatCond_pv, flatCond_nil, flat_int, flat_bool, flat_str, true_and, mA, hh, binP_lss, n2, decide_false, binP_neq, bne_self_eq_false, rt_eq, scs_sc, scs_nil]
end Go.Ev
