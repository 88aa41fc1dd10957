/- What each function hands back, in plain Lean, and that the laws answer true, part 2. -/
import Derived.Test.YtgnmkfjaimgncaaGreatHum1
set_option linter.unusedVariables false
set_option linter.unusedSimpArgs false
set_option maxRecDepth 4000
namespace Go.Ev
open Go.Proofs
def inR (n a b : Int) : Bool := decide (a ≤ n) && decide (n ≤ b)
theorem Qfj_n (n a b : Int) (k) : call Qfj [.one (I n), .one (I a), .one (I b)] k = k [.bool (inR n a b)] := call_of (fun k => by
  simp [Qfj, inR]; split <;> simp [*]) k
theorem Qcf_n (n a b : Int) (k) : call Qcf [.one (I n), .one (I a), .one (I b)] k = k [.bool (inR n a b)] := call_of (fun k => by
  simp [Qcf, inR]; split <;> simp [*]) k
def sMod (n m : Int) : Int := if inR m 1 1000000000000 = true then (wr (n.tmod m + m)).tmod m else 0
theorem Qgb_n (n m : Int) (k) : call Qgb [.one (I n), .one (I m)] k = k [I (sMod n m)] := call_of (fun k => by
  simp [Qgb, sMod, Qfj_n]
  cases h : inR m 1 1000000000000
  · simp
  · have : m ≠ 0 := by simp [inR] at h; omega
    simp [this]) k
theorem Qck_n (n m : Int) (k) : call Qck [.one (I n), .one (I m)] k = k [I (sMod n m)] := call_of (fun k => by
  simp [Qck, sMod, Qcf_n]
  cases h : inR m 1 1000000000000
  · simp
  · have : m ≠ 0 := by simp [inR] at h; omega
    simp [this]) k
def hashStep (acc v : Int) : Int := (wr (wr (wr (acc * 1000003) + sMod v 2147483647) + 13)).tmod 2147483647
def sHash (l : List Int) : Int := l.foldl hashStep 11
theorem Qgc_n (l : List Int) (hl : l.length < 1000000000000000000) (k) : call Qgc [.one (ints l)] k = k [I (sHash l)] := call_of (fun k => by
  simp [Qgc]
  refine lp_list l (fun i => [I 0, I ((l.take i).foldl hashStep 11), ints l, I l.length, I i]) rfl (fun i x hx hi K => ?_) fun K => ?_
  · simp [-getElem?_pos, Qgc_r0, hi, hx, Qgb_n, take_snoc hx, wr_succ (show i < 1000000000000000000 by omega), hashStep]
  · simp [Qgc_r0, sHash]) k
theorem Qcl_n (l : List Int) (hl : l.length < 1000000000000000000) (k) : call Qcl [.one (ints l)] k = k [I (sHash l)] := call_of (fun k => by
  simp [Qcl]
  refine lp_list l (fun i => [ints l, I 0, I ((l.take i).foldl hashStep 11), I i]) rfl (fun i x hx hi K => ?_) fun K => ?_
  · simp [-getElem?_pos, Qcl_r0, hi, hx, Qck_n, take_snoc hx, wr_succ (show i < 1000000000000000000 by omega), hashStep]
  · simp [Qcl_r0, sHash]) k
def b2i (b : UInt8) : Int := b.toNat
def sB2I (s : List UInt8) : List Int := (s.length : Int) :: s.map b2i
theorem Qhp_n (s : List UInt8) (hl : s.length < 1000000000) (k) : call Qhp [.one (byts s)] k = k [ints (sB2I s)] := call_of (fun k => by
  simp [Qhp]
  refine lp_list s (fun i => [byts s, I s.length, I i, .list 1 [], ints ((s.length : Int) :: (s.take i).map b2i)]) (by simp) (fun i x hx hi K => ?_) fun K => ?_
  · have h2 : min i s.length = i := by omega
    simp [-getElem?_pos, Qhp_r0, hi, hx, take_snoc hx, wr_succ (show i < 1000000000000000000 by omega), b2i, h2]
    rw [and_iff_right (by omega)]
    simp [ints, rI, Function.comp_def]
  · simp [Qhp_r0, sB2I]) k
theorem Qdn_n (s : List UInt8) (hl : s.length < 1000000000) (k) : call Qdn [.one (byts s)] k = k [ints (sB2I s)] := call_of (fun k => by
  simp [Qdn]
  refine lp_list s (fun i => [byts s, I i, .list 1 [], ints ((s.length : Int) :: (s.take i).map b2i)]) (by simp) (fun i x hx hi K => ?_) fun K => ?_
  · have h2 : min i s.length = i := by omega
    simp [-getElem?_pos, Qdn_r0, hi, hx, take_snoc hx, wr_succ (show i < 1000000000000000000 by omega), b2i, h2]
    rw [and_iff_right (by omega)]
    simp [ints, rI, Function.comp_def]
  · simp [Qdn_r0, sB2I]) k
def sLabelInts (s : ByteArray) : List Int := sB2I s.data.toList
theorem Qhq_n (s : ByteArray) (hl : s.size < 1000000000) (k) : call Qhq [.one (.str s)] k = k [ints (sLabelInts s)] := call_of (fun k => by
  simp [Qhq, Qhp_n _ (show s.data.toList.length < 1000000000 by simpa using hl), sLabelInts]) k
theorem Qdo_n (s : ByteArray) (hl : s.size < 1000000000) (k) : call Qdo [.one (.str s)] k = k [ints (sLabelInts s)] := call_of (fun k => by
  simp [Qdo, Qdn_n _ (show s.data.toList.length < 1000000000 by simpa using hl), sLabelInts]) k
theorem sLabelInts_len (s : ByteArray) : (sLabelInts s).length = s.size + 1 := by simp [sLabelInts, sB2I]
def sBucketOf (s : ByteArray) : Int := (sHash (sLabelInts s)).tmod 4
abbrev actors (l : List GActor) : PV := .list 1 (l.map eActor)
theorem mem_get {α : Type} {l : List α} {i : Nat} {x : α} (h : l[i]? = some x) : x ∈ l := List.mem_of_getElem? h
abbrev eqI (x y : Int) : Bool := decide (x = y)
theorem eqI_comm (n : Int) : (fun x => eqI x n) = eqI n := by funext x; exact decide_eq_decide.mpr eq_comm
theorem wr_pred {i : Nat} (h0 : 0 < i) (h : i < 1000000000000000000) : IntKind.i64.wrap ((i : Int) - 1) = ((i - 1 : Nat) : Int) := by
  rw [wr_eq (by omega) (by omega)]; omega
theorem wr_last {n : Nat} (h : n < 1000000000000000000) : IntKind.i64.wrap ((n : Int) - 1) = (n : Int) - 1 := wr_eq (by omega) (by omega)
theorem getD_get {α : Type} {l : List α} {i : Nat} (d : α) (h : i < l.length) : l[i]? = some (l.getD i d) := by
  rw [List.getD_eq_getElem?_getD, List.getElem?_eq_getElem h]; rfl
def getI {α : Type} (l : List α) (i : Int) : Option α := if 0 ≤ i then l[i.toNat]? else none
theorem inR_get {α : Type} (l : List α) (i : Int) : inR i 0 ((l.length : Int) - 1) = (getI l i).isSome := by
  unfold inR getI
  by_cases h : 0 ≤ i
  · rw [if_pos h]
    by_cases h2 : i.toNat < l.length
    · rw [List.getElem?_eq_getElem h2]; simp [h]; omega
    · rw [List.getElem?_eq_none (by omega)]; simp [h]; omega
  · rw [if_neg h]; simp [h]
theorem getI_some {α : Type} {l : List α} {i : Int} {x : α} (h : getI l i = some x) : 0 ≤ i ∧ l[i.toNat]? = some x ∧ x ∈ l := by
  unfold getI at h
  split at h
  · rename_i h0; exact ⟨h0, h, List.mem_of_getElem? h⟩
  · cases h
def sIsActor (l : List GActor) (a : Int) : Bool := (getI l a).isSome
def at0 (l : List Int) (i : Nat) : Int := l.getD i 0
theorem at0_get {l : List Int} {i : Nat} (h : i < l.length) : l[i]? = some (at0 l i) := getD_get 0 h
def ascP (l : List Int) (i : Nat) (x : Int) : Bool := decide (0 < i) && decide (x ≤ at0 l (i - 1))
def sAsc (l : List Int) : Bool := !anyI (ascP l) 0 l
theorem Qfk_n (l : List Int) (h : l.length < 1073741824) (k) : call Qfk [.one (ints l)] k = k [.bool (sAsc l)] := call_of (fun k => by
  simp [Qfk]
  have := lp_anyIk (R := fun L w => Qfk_r0 w L (k [.bool false]) fun q8 q9 q10 q11 => k [.bool true]) k false l (fun i => [ints l, .bool false, I l.length, I i]) (ascP l) rfl (fun i x hx hi K => ?_) fun K => ?_
  · simpa [sAsc] using this
  · by_cases h0 : 0 < i
    · have hp := at0_get (l := l) (show i - 1 < l.length by omega)
      simp [-getElem?_pos, Qfk_r0, hx, hi, h0, wr_pred h0 (show i < 1000000000000000000 by omega), hp, wr_succ (show i < 1000000000000000000 by omega), ascP]
    · have h1 : i = 0 := by omega
      subst h1
      simp [-getElem?_pos, Qfk_r0, hi, ascP, wr_eq]
  · simp [Qfk_r0]) k
def isKeyB (x : Int) : Bool := inR x 1 99
theorem Qfl_n (x : Int) (k) : call Qfl [.one (I x)] k = k [.bool (isKeyB x)] := call_of (fun k => by simp [Qfl, Qfj_n, isKeyB]) k
def sIsKeys (a : GKeys) : Bool := inR a.Lst.length 1 4 && !(a.Lst.any (fun x => !isKeyB x) || !sAsc a.Lst) && inR a.Need 1 a.Lst.length
theorem Qcg_n (a : GKeys) (h : mKeys a ≤ 1048576) (k) : call Qcg [.agg [ints a.Lst, I a.Need]] k = k [.bool (sIsKeys a)] := call_of (fun k => by
  unfold mKeys at h
  simp [Qcg]
  refine (lp_anyI (P := k [.bool false]) (fin := k [.bool (inR a.Lst.length 1 4 && inR a.Need 1 a.Lst.length)]) a.Lst (fun j => [.bool false, I j, ints a.Lst, I a.Need]) (fun j y => !isKeyB y || ascP a.Lst j y) rfl (fun j y hy hj K => ?_) fun K => ?_).trans ?_
  · by_cases h0 : 0 < j
    · have hp := at0_get (l := a.Lst) (show j - 1 < a.Lst.length by omega)
      simp [-getElem?_pos, Qcg_r0, hy, hj, h0, Qcf_n, wr_pred h0 (show j < 1000000000000000000 by omega), hp, wr_succ (show j < 1000000000000000000 by omega), ascP, isKeyB]
      cases inR y 1 99 <;> simp
    · have h1 : j = 0 := by omega
      subst h1
      simp [-getElem?_pos, Qcg_r0, hy, hj, ascP, Qcf_n, isKeyB, wr_eq]
  · simp [Qcg_r0, Qcf_n]
    cases inR (a.Lst.length : Int) 1 4 <;> simp
  · rw [anyI_or, anyI_const]
    unfold sIsKeys sAsc
    generalize a.Lst.any (fun x => !isKeyB x) = b1
    generalize anyI (ascP a.Lst) 0 a.Lst = b2
    cases b1 <;> cases b2 <;> simp) k
theorem asc_mono {l : List Int} (h : sAsc l = true) : ∀ {j i : Nat} {x y : Int}, i < j → l[i]? = some x → l[j]? = some y → x < y := by
  have h1 : anyI (ascP l) 0 l = false := by unfold sAsc at h; simpa using h
  rw [anyI_false] at h1
  have step : ∀ {j : Nat} {x y : Int}, l[j]? = some x → l[j + 1]? = some y → x < y := by
    intro j x y hx hy
    have := h1 (j + 1) y hy
    simp [ascP] at this
    have h2 : at0 l j = x := by
      have := at0_get (lt_of_get hx)
      rw [hx] at this; injection this with this; exact this.symm
    rw [h2] at this
    omega
  intro j
  induction j with
  | zero => intro i x y hij; omega
  | succ j ih =>
    intro i x y hij hx hy
    have hj : j < l.length := by have := lt_of_get hy; omega
    have hz := List.getElem?_eq_getElem hj
    by_cases h2 : i = j
    · subst h2; exact step hx hy
    · have a1 := ih (i := i) (by omega) hx hz
      have a2 := step hz hy
      omega
theorem asc_range {l : List Int} (h : sAsc l = true) {x y : Int} (hx : l[0]? = some x) (hy : l[l.length - 1]? = some y) : (l.any fun z => !isKeyB z) = (!(isKeyB x && isKeyB y)) := by
  have hlast : ∀ {z : Int} {i : Nat}, l[i]? = some z → x ≤ z ∧ z ≤ y := by
    intro z i hz
    have hi := lt_of_get hz
    constructor
    · by_cases h0 : i = 0
      · subst h0; rw [hx] at hz; injection hz with hz; omega
      · have := asc_mono h (show 0 < i by omega) hx hz; omega
    · by_cases h0 : i = l.length - 1
      · subst h0; rw [hy] at hz; injection hz with hz; omega
      · have := asc_mono h (show i < l.length - 1 by omega) hz hy; omega
  cases hb : (isKeyB x && isKeyB y) with
  | true =>
    simp only [Bool.and_eq_true, isKeyB, inR, decide_eq_true_eq] at hb
    rw [Bool.not_true, List.any_eq_false]
    intro z hz
    obtain ⟨i, hi⟩ := List.mem_iff_getElem?.1 hz
    have := hlast hi
    simp [isKeyB, inR]; omega
  | false =>
    rw [Bool.not_false, List.any_eq_true]
    by_cases hk : isKeyB x = true
    · have hk2 : isKeyB y = false := by rw [hk] at hb; simpa using hb
      exact ⟨y, List.mem_of_getElem? hy, by simp [hk2]⟩
    · exact ⟨x, List.mem_of_getElem? hx, by simpa using hk⟩
theorem Qfv_n (a : GKeys) (h : mKeys a ≤ 1048576) (k) : call Qfv [.agg [ints a.Lst, I a.Need]] k = k [.bool (sIsKeys a)] := call_of (fun k => by
  unfold mKeys at h
  simp [Qfv, Qfj_n, sIsKeys]
  cases h1 : inR a.Lst.length 1 4 with
  | false => simp
  | true =>
    have h2 : 1 ≤ a.Lst.length := by unfold inR at h1; simp at h1; omega
    simp [Qfk_n a.Lst (by omega)]
    cases h3 : sAsc a.Lst with
    | false => simp
    | true =>
      have hx := at0_get (l := a.Lst) (show 0 < a.Lst.length by omega)
      have hy := at0_get (l := a.Lst) (show a.Lst.length - 1 < a.Lst.length by omega)
      have hr := asc_range h3 hx hy
      rw [hr]
      simp [-getElem?_pos, hx, hy, Qfl_n, wr_pred (show 0 < a.Lst.length by omega) (show a.Lst.length < 1000000000000000000 by omega)]
      cases isKeyB (at0 a.Lst 0) <;> cases isKeyB (at0 a.Lst (a.Lst.length - 1)) <;> simp) k
def sCanSign (a : GKeys) (held : List Int) : Bool := sIsKeys a && decide (a.Need ≤ (a.Lst.countP fun key => held.any (eqI key) : Nat))
def sSignersFor (p : GHead) (kind : Int) : GKeys := if kind = 1 then p.Keys else if kind = 2 then p.Heirs else if kind = 3 then p.Judge else ⟨[], 0⟩
def sCanSpeak (l : List GActor) (a : Int) (p : GHead) (kind : Int) : Bool := match getI l a with | some x => sCanSign (sSignersFor p kind) x.Held | none => false
theorem szSigners (p : GHead) (kind : Int) : mKeys (sSignersFor p kind) ≤ mHead p := by
  unfold sSignersFor mHead
  split
  · omega
  · split
    · omega
    · split
      · omega
      · simp [mKeys]
theorem Qfm_n (x : Int) (k) : call Qfm [.one (I x)] k = k [.bool (!isKeyB x)] := call_of (fun k => by simp [Qfm, Qfl_n]) k
theorem cf_AreActors_1_1_n (l : List Int) (h : l.length < 1073741824) (k) : call Qfo [.one (ints l), .fn 124 []] k = k [.bool (l.any fun x => !isKeyB x)] := call_of (fun k => by
  have e : ∀ k, call Qfn [.one (ints l), .fn 124 []] k = k [I (idx (fun x => !isKeyB x) l)] := call_of (fun k => by
    simp [Qfn]
    refine lp_find (Q := fun i => k [I i]) l (fun i => [ints l, I 0, I l.length, I i]) (fun x => !isKeyB x) rfl (fun i x hx hi K => ?_) fun K => ?_
    · simp [-getElem?_pos, Qfn_r0, hx, hi, Qfm_n, wr_succ (show i < 1000000000000000000 by omega)]
    · simp [Qfn_r0])
  simp [Qfo, e, idx_any]) k
def badA (a : GActor) : Bool := decide (20 < a.Held.length) || !sAsc a.Held || a.Held.any fun x => !isKeyB x
theorem Qfp_n (a : GActor) (h : a.Held.length < 1073741824) (k) : call Qfp [.agg [ints a.Held]] k = k [.bool (badA a)] := call_of (fun k => by
  simp [Qfp, Qfk_n _ h, cf_AreActors_1_1_n _ h, badA]
  by_cases h1 : 20 < a.Held.length
  · simp [h1, show (20 : Int) < a.Held.length by omega]
  · simp [h1, show ¬ (20 : Int) < a.Held.length by omega]
    cases sAsc a.Held <;> simp) k
def sAreActors (l : List GActor) : Bool := decide (l.length ≤ 4) && !l.any badA
theorem Qfs_n (l : List GActor) (h : mActorS l ≤ 1048576) (k) : call Qfs [.one (actors l)] k = k [.bool (sAreActors l)] := call_of (fun k => by
  unfold mActorS at h
  have e : ∀ k, call Qfq [.one (actors l), .fn 121 []] k = k [I (idx badA l)] := call_of (fun k => by
    simp [Qfq]
    refine lp_find (Q := fun i => k [I i]) l (fun i => [actors l, I 0, I l.length, I i]) badA rfl (fun i x hx hi K => ?_) fun K => ?_
    · have hs : x.Held.length ≤ sumN mActor l := sumN_mem (s := mActor) (List.mem_of_getElem? hx)
      simp [-getElem?_pos, Qfq_r0, hx, hi, Qfp_n x (by omega), wr_succ (show i < 1000000000000000000 by omega)]
    · simp [Qfq_r0])
  have e2 : ∀ k, call Qfr [.one (actors l), .fn 121 []] k = k [.bool (l.any badA)] := call_of (fun k => by simp [Qfr, e, idx_any])
  simp [Qfs, e2, sAreActors]
  by_cases h1 : l.length ≤ 4
  · simp [h1, show (l.length : Int) ≤ 4 by omega]
  · simp [h1, show ¬ (l.length : Int) ≤ 4 by omega]) k
theorem Qel_n (l : List GActor) (h : mActorS l ≤ 1048576) (k) : call Qel [.one (actors l)] k = k [.bool (sAreActors l)] := call_of (fun k => by
  unfold mActorS at h
  simp [Qel]
  refine (lp_any (P := k [.bool false]) (fin := k [.bool (decide ((l.length : Int) ≤ 4))]) l (fun i => [actors l, .bool false, I i]) badA rfl (fun i x hx hi K => ?_) fun K => ?_).trans ?_
  · have hs : x.Held.length ≤ sumN mActor l := sumN_mem (s := mActor) (List.mem_of_getElem? hx)
    simp [-getElem?_pos, Qel_r0, hx, hi]
    refine (lp_anyI (P := k [.bool false]) (fin := if decide (20 < x.Held.length) = true then k [.bool false] else K [actors l, .bool false, I ((i : Int) + 1)]) x.Held (fun j => [actors l, .bool false, I i, ints x.Held, I j]) (fun j y => !isKeyB y || ascP x.Held j y) rfl (fun j y hy hj K => ?_) fun K => ?_).trans ?_
    · by_cases h0 : 0 < j
      · have hp := at0_get (l := x.Held) (show j - 1 < x.Held.length by omega)
        simp [-getElem?_pos, Qel_r1, hy, hj, h0, Qcf_n, wr_pred h0 (show j < 1000000000000000000 by omega), hp, wr_succ (show j < 1000000000000000000 by omega), ascP, isKeyB]
        cases inR y 1 99 <;> simp
      · have h1 : j = 0 := by omega
        subst h1
        simp [-getElem?_pos, Qel_r1, hy, hj, ascP, Qcf_n, isKeyB, wr_eq]
    · simp [Qel_r1, wr_succ (show i < 1000000000000000000 by omega)]
      by_cases h1 : 20 < x.Held.length
      · simp [h1, show (20 : Int) < x.Held.length by omega]
      · simp [h1, show ¬ (20 : Int) < x.Held.length by omega]
    · rw [anyI_or, anyI_const]
      unfold badA sAsc
      cases x.Held.any (fun y => !isKeyB y) <;> cases anyI (ascP x.Held) 0 x.Held <;> cases decide (20 < x.Held.length) <;> simp
  · simp [Qel_r0]
  · unfold sAreActors
    by_cases h1 : l.length ≤ 4
    · simp only [h1, show (l.length : Int) ≤ 4 by omega, decide_true, Bool.true_and]
      generalize l.any badA = b
      cases b <;> simp
    · simp [h1, show ¬ (l.length : Int) ≤ 4 by omega]) k
theorem sumN_take_succ {α : Type} (f : α → Nat) : ∀ (l : List α) (i : Nat) (x : α), l[i]? = some x → sumN f (l.take (i + 1)) = sumN f (l.take i) + f x
  | [], i, x, h => by simp at h
  | a :: l, 0, x, h => by simp at h; subst h; simp [sumN]
  | a :: l, i + 1, x, h => by
    have := sumN_take_succ f l i x (by simpa using h)
    simp only [List.take_succ_cons, sumN, this]; omega
theorem sumN_take_le {α : Type} (f : α → Nat) : ∀ (l : List α) (i : Nat), sumN f (l.take i) ≤ sumN f l
  | [], i => by simp
  | a :: l, 0 => by simp [sumN]
  | a :: l, i + 1 => by
    have := sumN_take_le f l i
    simp only [List.take_succ_cons, sumN]; omega
theorem flatten_take_len {α : Type} : ∀ (ls : List (List α)), ls.flatten.length = sumN List.length ls
  | [] => rfl
  | l :: ls => by simp [sumN, flatten_take_len ls]
theorem Qgf_n (n : Int) (h0 : 0 ≤ n) (h : n < 1073741824) (k) : call Qgf [.nil 3 1, .one (I n)] k = k [ints []] := call_of (fun k => by
  have w0 : IntKind.i64.wrap 0 = 0 := wr_eq (by omega) (by omega)
  have w1 : IntKind.i64.wrap n = n := wr_eq (by omega) (by omega)
  simp [Qgf, w0, w1, show ¬ n < 0 by omega, natP, makeP, cutP]
  by_cases hn : 0 < n
  · simp [hn, h, h0, show n ≤ 1073741823 by omega, show 0 ≤ max n 0 by omega, ints]
  · simp [hn, ints]) k
theorem flatRows_ints (l : List Int) : flatRows (ints l) := by
  intro r hr p hp
  obtain ⟨x, _, rfl⟩ := List.mem_map.1 hr
  simp [rI] at hp
  subst hp; rfl
theorem Qgg_n (ls : List (List Int)) (h : ls.length + sumN List.length ls < 100000000) (k) : call Qgg [.one (.list 1 (ls.map fun l => [ints l]))] k = k [ints ls.flatten] := call_of (fun k => by
  simp only [Qgg, lenP_eq, List.length_map, atP_zero]
  let L : PV := .list 1 (ls.map fun l => [ints l])
  refine lp_list (fin := k [ints ls.flatten]) ls (fun i => [L, I ((sumN List.length (ls.take i) : Nat) : Int), L, I ls.length, I i, .list 1 []]) (by simp [sumN, L]) (fun i x hx hi K => ?_) (fun K => ?_)
  · have e1 := sumN_take_succ List.length ls i x hx
    have e2 := sumN_take_le List.length ls (i + 1)
    have w1 : IntKind.i64.wrap (((sumN List.length (ls.take i) : Nat) : Int) + (x.length : Int)) = ((sumN List.length (ls.take (i + 1)) : Nat) : Int) := by
      rw [e1]; rw [wr_eq (by omega) (by omega)]; omega
    simp [-getElem?_pos, Qgg_r0, hx, hi, L, w1, wr_succ (show i < 1000000000000000000 by omega), show ¬ (((sumN List.length (ls.take (i + 1)) : Nat) : Int) < 0) by omega]
  · simp only [Qgg_r0, un, cur0, binP_lss, iteP_eq, lenP_eq, L, List.take_length]
    simp [Qgf_n ((sumN List.length ls : Nat) : Int) (by omega) (by omega)]
    refine lp_list (fin := k [ints ls.flatten]) ls (fun i => [L, I ((sumN List.length ls : Nat) : Int), L, I ls.length, I ls.length, L, I ls.length, I i, ints (ls.take i).flatten, .list 1 []]) (by simp [L]) (fun i x hx hi K => ?_) fun K => ?_
    · have e1 := sumN_take_succ List.length ls i x hx
      have e2 := sumN_take_le List.length ls (i + 1)
      have e3 : (ls.take (i + 1)).flatten = (ls.take i).flatten ++ x := by
        rw [List.take_add_one, hx]; simp
      have e4 := flatten_take_len (ls.take i)
      have e5 : (ls.take i).flatten.length + x.length < 1073741824 := by omega
      show _ ↔ K [L, I ((sumN List.length ls : Nat) : Int), L, I ls.length, I ls.length, L, I ls.length, I ((i + 1 : Nat) : Int), ints (ls.take (i + 1)).flatten, .list 1 []]
      rw [e3]
      generalize (ls.take i).flatten = A at e5
      rw [show ints (A ++ x) = PV.list 1 (A.map rI ++ x.map rI) by simp [ints]]
      simp [-getElem?_pos, Qgg_r1, hx, hi, L, flatRows_ints, catP, wr_succ (show i < 1000000000000000000 by omega), e5]
    · simp [Qgg_r1, L]) k
def keysInts (a : GKeys) : List Int := a.Need :: (a.Lst.length : Int) :: a.Lst
def bitI (b : Bool) : Int := if b = true then 1 else 0
def headInts (a : GHead) : List Int :=
  [a.Zone, a.Epoch, a.Kind, a.Time, a.Until, a.Count, a.Root, a.Prev] ++ (keysInts a.Keys ++ (keysInts a.Heirs ++ ([a.Wait] ++ (keysInts a.Judge ++ [bitI a.Frozen]))))
theorem app_len {α : Type} {l m r s : List α} (h : l.length = m.length) : l ++ r = m ++ s ↔ l = m ∧ r = s :=
  ⟨fun e => List.append_inj e h, fun ⟨a, b⟩ => by rw [a, b]⟩
theorem keysInts_inj {a b : GKeys} {r s : List Int} : keysInts a ++ r = keysInts b ++ s ↔ a = b ∧ r = s := by
  obtain ⟨l, n⟩ := a
  obtain ⟨m, q⟩ := b
  simp only [keysInts, List.cons_append, List.cons.injEq, GKeys.mk.injEq]
  constructor
  · rintro ⟨rfl, h1, h2⟩
    obtain ⟨rfl, rfl⟩ := (app_len (by omega)).1 h2
    exact ⟨⟨rfl, rfl⟩, rfl⟩
  · rintro ⟨⟨rfl, rfl⟩, rfl⟩; exact ⟨rfl, rfl, rfl⟩
theorem bitI_inj {a b : Bool} : bitI a = bitI b ↔ a = b := by cases a <;> cases b <;> simp [bitI]
theorem headInts_inj {a b : GHead} : headInts a = headInts b ↔ a = b := by
  obtain ⟨a1, a2, a3, a4, a5, a6, a7, a8, a9, a10, a11, a12, a13⟩ := a
  obtain ⟨b1, b2, b3, b4, b5, b6, b7, b8, b9, b10, b11, b12, b13⟩ := b
  simp only [headInts, List.cons_append, List.nil_append, List.cons.injEq, keysInts_inj, bitI_inj, GHead.mk.injEq, and_true]
theorem fc_int (n : Int) : flatCond [.pv (I 0)] [.pv (I n)] := by intro x hx; simp at hx; subst hx; rfl
theorem Qcj_n (a : GKeys) (h : mKeys a ≤ 1048576) (k) : call Qcj [.agg (eKeys a)] k = k [ints (keysInts a)] := call_of (fun k => by
  unfold mKeys at h
  simp [Qcj, keysInts, flatRows_ints, fc_int, catP, show 2 + a.Lst.length < 1073741824 by omega]
  exact Iff.rfl) k
theorem Qga_n (a : GKeys) (h : mKeys a ≤ 1048576) (k) : call Qga [.agg (eKeys a)] k = k [ints (keysInts a)] := call_of (fun k => by
  unfold mKeys at h
  simp [Qga, keysInts, flatRows_ints, fc_int, catP, show 2 + a.Lst.length < 1073741824 by omega]
  exact Iff.rfl) k
theorem Qge_n (b : Bool) (k) : call Qge [.one (.bool b)] k = k [I (bitI b)] := call_of (fun k => by
  cases b <;> simp [Qge, bitI]) k
theorem keysInts_len (a : GKeys) : (keysInts a).length = 2 + a.Lst.length := by simp [keysInts]; omega
theorem fc_own (i : Nat) : flatCond [.nil 3 1] [.own i] := by intro x hx; simp at hx; subst hx; trivial
theorem Qgh_n (a : GHead) (h : mHead a ≤ 1048576) (k) : call Qgh [.agg (eHead a)] k = k [ints (headInts a)] := call_of (fun k => by
  unfold mHead at h
  have k1 := Qga_n a.Keys (by omega)
  have k2 := Qga_n a.Heirs (by omega)
  have k3 := Qga_n a.Judge (by omega)
  have l1 := keysInts_len a.Keys
  have l2 := keysInts_len a.Heirs
  have l3 := keysInts_len a.Judge
  unfold mKeys at h
  have c := Qgg_n [[a.Zone, a.Epoch, a.Kind, a.Time, a.Until, a.Count, a.Root, a.Prev], keysInts a.Keys, keysInts a.Heirs, [a.Wait], keysInts a.Judge, [bitI a.Frozen]] (by
    simp only [sumN, List.length_cons, List.length_nil, l1, l2, l3]; omega) (fun o => k [atP o 0])
  simp only [Qgh, un, cur0, k1, k2, k3, Qge_n, fc_int, fc_own, atP_zero, true_and, and_true, rt_eq, scs_own, show (1 : Nat) ≤ 16777216 by omega, show (2 : Nat) ≤ 16777216 by omega, show (6 : Nat) ≤ 16777216 by omega, show (8 : Nat) ≤ 16777216 by omega, scs_nil]
  exact iff_of_eq c) k
theorem Qcn_n (a : GHead) (h : mHead a ≤ 1048576) (k) : call Qcn [.agg (eHead a)] k = k [ints (headInts a)] := call_of (fun k => by
  unfold mHead at h
  have k1 := Qcj_n a.Keys (by omega)
  have k2 := Qcj_n a.Heirs (by omega)
  have k3 := Qcj_n a.Judge (by omega)
  have l1 := keysInts_len a.Keys
  have l2 := keysInts_len a.Heirs
  have l3 := keysInts_len a.Judge
  unfold mKeys at h
  simp only [Qcn, un, cur0, k1, k2, k3, fc_int, atP_zero, true_and, and_true, rt_eq, show (8 : Nat) ≤ 16777216 by omega, scs_nil]
  have e : ints (headInts a) = PV.list 1 (([[I a.Zone], [I a.Epoch], [I a.Kind], [I a.Time], [I a.Until], [I a.Count], [I a.Root], [I a.Prev]] ++ ((keysInts a.Keys).map rI ++ ((keysInts a.Heirs).map rI ++ ([[I a.Wait]] ++ ((keysInts a.Judge).map rI ++ [[I (bitI a.Frozen)]])))))) := by
    simp [ints, headInts]
  rw [e]
  cases hf : a.Frozen <;> simp [catP, l1, l2, l3, fc_int, bitI]
  all_goals exact ⟨fun h => h.2.2.2.2.2, fun h => ⟨by omega, by omega, by omega, by omega, by omega, h⟩⟩) k
deriving instance DecidableEq for GKeys, GHead, GSig, GSigned, GFork, GEntry, GProof, GGap, GAnswer, GZone, GKnown, GServer, GActor, GSaid, GStored, GCache, GWorld
theorem listEq_dec {α : Type} [DecidableEq α] {eq : α → α → Bool} (h : ∀ x y, eq x y = decide (x = y)) : ∀ (l m : List α), listEq eq l m = decide (l = m)
  | [], [] => by simp [listEq]
  | [], y :: m => by simp [listEq]
  | x :: l, [] => by simp [listEq]
  | x :: l, y :: m => by rw [listEq, listEq_dec h l m, h]; simp [Bool.decide_and]
abbrev eqD {α : Type} [DecidableEq α] (x y : α) : Bool := decide (x = y)
theorem listEq_d {α : Type} [DecidableEq α] (l m : List α) : listEq eqD l m = decide (l = m) := listEq_dec (fun _ _ => rfl) l m
theorem len_ne {α : Type} [DecidableEq α] {l m : List α} (h : ¬ l.length = m.length) : decide (l = m) = false := by simp; intro e; subst e; exact h rfl
theorem Qgv_n (l m : List Int) (h : l.length < 1073741824) (k) : call Qgv [.one (ints l), .one (ints m)] k = k [.bool (decide (l = m))] := call_of (fun k => by
  simp [Qgv]
  by_cases hl : l.length = m.length
  · rw [← listEq_d]
    simp [hl]
    refine lp_zipk k l m (fun i => [ints l, ints m, .bool false, I m.length, I i]) eqD rfl hl (fun i x y hx hy hi hj K => ?_) fun K => ?_
    · simp [-getElem?_pos, Qgv_r0, hx, hy, hj, wr_succ (show i < 1000000000000000000 by omega)]
    · simp [Qgv_r0, hl]
  · simp [show ¬ (l.length : Int) = m.length by omega, len_ne hl]) k
theorem Qcw_n (l m : List Int) (h : l.length < 1073741824) (k) : call Qcw [.one (ints l), .one (ints m)] k = k [.bool (decide (l = m))] := call_of (fun k => by
  simp [Qcw]
  by_cases hl : l.length = m.length
  · rw [← listEq_d]
    simp [hl]
    refine lp_zipk k l m (fun i => [ints l, ints m, .bool false, I i]) eqD rfl hl (fun i x y hx hy hi hj K => ?_) fun K => ?_
    · simp [-getElem?_pos, Qcw_r0, hx, hy, hi, wr_succ (show i < 1000000000000000000 by omega)]
    · simp [Qcw_r0]
  · simp [show ¬ (l.length : Int) = m.length by omega, len_ne hl]) k
theorem Qgw_n (a b : GKeys) (h : mKeys a ≤ 1048576) (k) : call Qgw [.agg (eKeys a), .agg (eKeys b)] k = k [.bool (decide (a = b))] := call_of (fun k => by
  unfold mKeys at h
  obtain ⟨l, n⟩ := a
  obtain ⟨m, q⟩ := b
  simp [Qgw, Qgv_n l m (by simp at h; omega)]
  by_cases hl : l = m <;> by_cases hn : n = q <;> simp [hl, hn, show (n == q) = decide (n = q) from rfl]) k
theorem headInts_len (a : GHead) : (headInts a).length = 16 + mHead a := by simp [headInts, keysInts, mHead, mKeys]; omega
theorem Qiu_n (a b : GHead) (h : mHead a ≤ 1048576) (h' : mHead b ≤ 1048576) (k) : call Qiu [.agg (eHead a), .agg (eHead b)] k = k [.bool (decide (a = b))] := call_of (fun k => by
  have i1 := Qgh_n a h
  have i2 := Qgh_n b h'
  have hl := headInts_len a
  have e := Qgv_n (headInts a) (headInts b) (by omega)
  unfold mHead at h
  have k1 := Qgw_n a.Keys b.Keys (by omega)
  have k2 := Qgw_n a.Heirs b.Heirs (by omega)
  have k3 := Qgw_n a.Judge b.Judge (by omega)
  simp only [Qiu, un, cur0, k1, k2, k3, i1, i2, e, atP_zero, iteP_eq, rt_eq, scs_sc, scs_nil, flat_bool, true_and, and_true, headInts_inj]
  by_cases hk : a = b
  · subst hk; simp
  · simp [hk]) k
theorem Qee_n (a b : GHead) (h : mHead a ≤ 1048576) (h' : mHead b ≤ 1048576) (k) : call Qee [.agg (eHead a), .agg (eHead b)] k = k [.bool (decide (a = b))] := call_of (fun k => by
  have i1 := Qcn_n a h
  have i2 := Qcn_n b h'
  have hl := headInts_len a
  have e := Qcw_n (headInts a) (headInts b) (by omega)
  simp only [Qee, un, cur0, i1, i2, e, atP_zero, iteP_eq, boolP, rt_eq, scs_sc, scs_nil, flat_bool, true_and, and_true, headInts_inj]
  by_cases hk : a = b
  · subst hk; simp
  · simp [hk]) k
abbrev sigs (l : List GSig) : PV := .list 2 (l.map eSig)
theorem Qiv_n (l m : List GSig) (h : l.length < 1073741824) (k) : call Qiv [.one (sigs l), .one (sigs m)] k = k [.bool (decide (l = m))] := call_of (fun k => by
  simp [Qiv]
  by_cases hl : l.length = m.length
  · rw [← listEq_d]
    simp [hl]
    refine lp_zipk k l m (fun i => [sigs l, sigs m, .bool false, I m.length, I i]) eqD rfl hl (fun i x y hx hy hi hj K => ?_) fun K => ?_
    · obtain ⟨a, b⟩ := x
      obtain ⟨c, d⟩ := y
      simp [-getElem?_pos, Qiv_r0, hx, hy, hj, wr_succ (show i < 1000000000000000000 by omega), aggP, sames, PV.same, kindsP, kindP]
    · simp [Qiv_r0, hl]
  · simp [show ¬ (l.length : Int) = m.length by omega, len_ne hl]) k
theorem Qiw_n (a b : GSigned) (h : mSigned a ≤ 1048576) (h' : mSigned b ≤ 1048576) (k) : call Qiw [.agg (eSigned a), .agg (eSigned b)] k = k [.bool (decide (a = b))] := call_of (fun k => by
  unfold mSigned at h h'
  have e1 := Qiu_n a.Head b.Head (by omega) (by omega)
  have e2 := Qiv_n a.Sigs b.Sigs (by omega)
  obtain ⟨x, l⟩ := a
  obtain ⟨y, m⟩ := b
  simp only at e1 e2
  simp only [Qiw, un, cur0, e1, e2, atP_zero, iteP_eq, rt_eq, scs_sc, scs_nil, flat_bool, true_and, and_true, GSigned.mk.injEq, Bool.decide_and]
  by_cases hk : x = y <;> simp [hk]) k
theorem Qep_n (a b : GSigned) (h : mSigned a ≤ 1048576) (h' : mSigned b ≤ 1048576) (k) : call Qep [.agg (eSigned a), .agg (eSigned b)] k = k [.bool (decide (a = b))] := call_of (fun k => by
  unfold mSigned at h h'
  have e1 := Qee_n a.Head b.Head (by omega) (by omega)
  obtain ⟨x, l⟩ := a
  obtain ⟨y, m⟩ := b
  simp only at e1 h h'
  simp only [Qep, un, cur0, e1, atP_zero, iteP_eq, rt_eq, scs_sc, scs_nil, flat_bool, true_and, and_true, GSigned.mk.injEq, Bool.decide_and]
  by_cases hk : x = y
  · subst hk
    simp
    by_cases hl : l.length = m.length
    · rw [← listEq_d]
      simp [hl]
      refine lp_zipk k l m (fun i => [.bool false, I i] ++ eHead x ++ [sigs m] ++ eHead x ++ [sigs l]) eqD rfl hl (fun i x y hx hy hi hj K => ?_) fun K => ?_
      · obtain ⟨a, b⟩ := x
        obtain ⟨c, d⟩ := y
        simp [-getElem?_pos, Qep_r0, hx, hy, hi, wr_succ (show i < 1000000000000000000 by omega), aggP, sames, PV.same, kindsP, kindP]
      · simp [Qep_r0, hl]
    · simp [show ¬ (l.length : Int) = m.length by omega, len_ne hl]
  · simp [hk]) k
theorem Qeg_n (l m : List ByteArray) (h : l.length + sumN ByteArray.size l ≤ 1048576) (h' : m.length + sumN ByteArray.size m ≤ 1048576) (k) : call Qeg [.one (.list 1 (l.map rS)), .one (.list 1 (m.map rS))] k = k [.bool (decide (l = m))] := call_of (fun k => by
  simp [Qeg]
  by_cases hl : l.length = m.length
  · rw [← listEq_d]
    simp [hl]
    refine lp_zipk k l m (fun i => [.list 1 (l.map rS), .list 1 (m.map rS), .bool false, I i]) eqD rfl hl (fun i x y hx hy hi hj K => ?_) fun K => ?_
    · have s1 := sumN_mem (s := ByteArray.size) (mem_get hx)
      have s2 := sumN_mem (s := ByteArray.size) (mem_get hy)
      simp [-getElem?_pos, Qeg_r0, hx, hy, hi, wr_succ (show i < 1000000000000000000 by omega)]
      all_goals (by_cases hxy : x = y <;> simp [hxy])
    · simp [Qeg_r0]
  · simp [show ¬ (l.length : Int) = m.length by omega, len_ne hl]) k
theorem Qjm_n (l m : List ByteArray) (h : l.length < 1073741824) (k) : call Qjm [.one (strs l), .one (strs m)] k = k [.bool (decide (l = m))] := call_of (fun k => by
  simp [Qjm]
  by_cases hl : l.length = m.length
  · rw [← listEq_d]
    simp [hl]
    refine lp_zipk k l m (fun i => [strs l, strs m, .bool false, I m.length, I i]) eqD rfl hl (fun i x y hx hy hi hj K => ?_) fun K => ?_
    · simp [-getElem?_pos, Qjm_r0, hx, hy, hj, wr_succ (show i < 1000000000000000000 by omega)]
      all_goals (by_cases hxy : x = y <;> simp [hxy])
    · simp [Qjm_r0, hl]
  · simp [show ¬ (l.length : Int) = m.length by omega, len_ne hl]) k
theorem Qjn_n (a b : GEntry) (h : mEntry a ≤ 1048576) (h' : mEntry b ≤ 1048576) (k) : call Qjn [.agg (eEntry a), .agg (eEntry b)] k = k [.bool (decide (a = b))] := call_of (fun k => by
  unfold mEntry at h h'
  obtain ⟨a1, a2, a3, l⟩ := a
  obtain ⟨b1, b2, b3, m⟩ := b
  simp only at h h'
  have e := Qjm_n l m (by omega)
  simp [Qjn, e]
  by_cases h1 : a1 = b1 <;> by_cases h2 : a2 = b2 <;> by_cases h3 : a3 = b3 <;> simp [h1, h2, h3]) k
theorem Qeh_n (a b : GEntry) (h : mEntry a ≤ 1048576) (h' : mEntry b ≤ 1048576) (k) : call Qeh [.agg (eEntry a), .agg (eEntry b)] k = k [.bool (decide (a = b))] := call_of (fun k => by
  unfold mEntry at h h'
  obtain ⟨a1, a2, a3, l⟩ := a
  obtain ⟨b1, b2, b3, m⟩ := b
  simp only at h h'
  have e := Qeg_n l m (by omega) (by omega)
  simp [Qeh, e]
  by_cases h1 : a1 = b1 <;> by_cases h2 : a2 = b2 <;> by_cases h3 : a3 = b3 <;> simp [h1, h2, h3]) k
theorem Qjo_n (a b : GProof) (h : mProof a ≤ 1048576) (h' : mProof b ≤ 1048576) (k) : call Qjo [.agg (eProof a), .agg (eProof b)] k = k [.bool (decide (a = b))] := call_of (fun k => by
  unfold mProof at h h'
  obtain ⟨a1, l⟩ := a
  obtain ⟨b1, m⟩ := b
  simp only at h h'
  have e := Qgv_n l m (by omega)
  simp [Qjo, e]
  by_cases h1 : a1 = b1 <;> simp [h1]) k
theorem Qjp_n (a b : GGap) (h : mGap a ≤ 1048576) (h' : mGap b ≤ 1048576) (k) : call Qjp [.agg (eGap a), .agg (eGap b)] k = k [.bool (decide (a = b))] := call_of (fun k => by
  unfold mGap at h h'
  obtain ⟨a1, a2, a3, a4, a5⟩ := a
  obtain ⟨b1, b2, b3, b4, b5⟩ := b
  simp only at h h'
  have e2 := Qjn_n a2 b2 (by omega) (by omega)
  have e3 := Qjn_n a3 b3 (by omega) (by omega)
  have e4 := Qjo_n a4 b4 (by omega) (by omega)
  have e5 := Qjo_n a5 b5 (by omega) (by omega)
  simp [Qjp, e2, e3, e4, e5]
  by_cases h1 : a1 = b1 <;> by_cases h2 : a2 = b2 <;> by_cases h3 : a3 = b3 <;> by_cases h4 : a4 = b4 <;> simp [h1, h2, h3, h4]) k
theorem Qew_n (a b : GProof) (h : mProof a ≤ 1048576) (h' : mProof b ≤ 1048576) (k) : call Qew [.agg (eProof a), .agg (eProof b)] k = k [.bool (decide (a = b))] := call_of (fun k => by
  unfold mProof at h h'
  obtain ⟨a1, l⟩ := a
  obtain ⟨b1, m⟩ := b
  simp only at h h'
  have e := Qcw_n l m (by omega)
  simp [Qew, e]
  by_cases h1 : a1 = b1 <;> simp [h1]) k
theorem Qex_n (a b : GGap) (h : mGap a ≤ 1048576) (h' : mGap b ≤ 1048576) (k) : call Qex [.agg (eGap a), .agg (eGap b)] k = k [.bool (decide (a = b))] := call_of (fun k => by
  unfold mGap at h h'
  obtain ⟨a1, a2, a3, a4, a5⟩ := a
  obtain ⟨b1, b2, b3, b4, b5⟩ := b
  simp only at h h'
  have e2 := Qeh_n a2 b2 (by omega) (by omega)
  have e3 := Qeh_n a3 b3 (by omega) (by omega)
  have e4 := Qew_n a4 b4 (by omega) (by omega)
  have e5 := Qew_n a5 b5 (by omega) (by omega)
  simp [Qex, e2, e3, e4, e5]
  by_cases h1 : a1 = b1 <;> by_cases h2 : a2 = b2 <;> by_cases h3 : a3 = b3 <;> by_cases h4 : a4 = b4 <;> simp [h1, h2, h3, h4]) k
theorem spec_EqualInts_a_n (x y : GActor) (h : mActor x ≤ 1048576) (h' : mActor y ≤ 1048576) (k) : call Qcw [.one (ints x.Held), .one (ints y.Held)] k = k [.bool (decide (x = y))] := by
  unfold mActor at h h'
  obtain ⟨l⟩ := x
  obtain ⟨m⟩ := y
  simp only at h h'
  rw [Qcw_n l m (by omega)]
  simp
theorem flatRows_strs (l : List ByteArray) : flatRows (strs l) := by
  intro r hr p hp
  obtain ⟨x, _, rfl⟩ := List.mem_map.1 hr
  simp [rS] at hp
  subst hp; rfl
theorem Qdf_n (a : GKeys) (h : mKeys a ≤ 1048576) (k) : call Qdf [.agg (eKeys a)] k = k (eKeys a) := call_of (fun k => by
  unfold mKeys at h
  simp [Qdf, catP, show a.Lst.length < 1073741824 by omega]) k
theorem Qdg_n (a : GHead) (h : mHead a ≤ 1048576) (k) : call Qdg [.agg (eHead a)] k = k (eHead a) := call_of (fun k => by
  unfold mHead at h
  simp [Qdg, Qdf_n a.Keys (by omega), Qdf_n a.Heirs (by omega), Qdf_n a.Judge (by omega)]) k
theorem zones_le {w : GWorld} (h : mWorld w ≤ 1048576) : w.Zones.length ≤ 1048576 ∧ (∀ z ∈ w.Zones, mZone z ≤ 1048576) ∧ mActorS w.Actors ≤ 1048576 := by
  unfold mWorld at h
  have e : mZoneS w.Zones = w.Zones.length + sumN mZone w.Zones := rfl
  refine ⟨by omega, fun z hz => ?_, by omega⟩
  have := sumN_mem (s := mZone) hz
  omega
def oZone : Option GZone → List PV
  | some z => eZone z ++ [.bool true]
  | none => [.list 17 [], .list 4 [], .bool false]
def sCanTurn (w : GWorld) (a i : Int) : Bool := match getI w.Zones i with
  | some z => match z.Chain[z.Chain.length - 1]? with
    | some p => !p.Head.Frozen && sCanSpeak w.Actors a p.Head 1
    | none => false
  | none => false
theorem Qhe_n (l : List GSigned) (p : GSigned) (h : l.length ≤ 1048576) (hp : l[l.length - 1]? = some p) (k) : call Qhe [.one (.list 17 (l.map eSigned))] k = k (eHead p.Head) := call_of (fun k => by
  have h0 := lt_of_get hp
  simp [-getElem?_pos, Qhe, wr_pred (show 0 < l.length by omega) (show l.length < 1000000000000000000 by omega), hp]) k
theorem chain_last {l : List GSigned} (h : mSignedS l ≤ 1048576) {p : GSigned} (hp : l[l.length - 1]? = some p) : mHead p.Head ≤ 1048576 ∧ l.length ≤ 1048576 := by
  unfold mSignedS at h
  have := sumN_mem (s := mSigned) (mem_get hp)
  have e : mSigned p = mHead p.Head + p.Sigs.length := rfl
  omega
theorem last_none {l : List GSigned} : l[l.length - 1]? = none ↔ l = [] := by
  cases l with
  | nil => simp
  | cons a l => simp
def preP (m : List GSigned) (i : Nat) (x : GSigned) : Bool := match m[i]? with | some y => !decide (x.Head = y.Head) | none => true
def sPre (l m : List GSigned) : Bool := decide (l.length ≤ m.length) && (anyI (preP m) 0 l == false)
theorem mHead_le {l : List GSigned} {x : GSigned} (h : mSignedS l ≤ 1048576) (hx : x ∈ l) : mHead x.Head ≤ 1048576 := by
  unfold mSignedS at h
  have := sumN_mem (s := mSigned) hx
  have e : mSigned x = mHead x.Head + x.Sigs.length := rfl
  omega
theorem len_le {l : List GSigned} (h : mSignedS l ≤ 1048576) : l.length ≤ 1048576 := by unfold mSignedS at h; omega
theorem mChain_le {w : List GSaid} {s : GSaid} (h : mSaidS w ≤ 1048576) (hs : s ∈ w) : mSignedS s.Zone.Chain ≤ 1048576 ∧ mEntryS s.Zone.Entries ≤ 1048576 := by
  unfold mSaidS at h
  have := sumN_mem (s := mSaid) hs
  have e : mSaid s = (mSignedS s.Zone.Chain + mEntryS s.Zone.Entries) + s.Held.length := rfl
  omega
def sGrounded (w : List GSaid) (l : List GSigned) : Bool := w.any fun s => sPre l s.Zone.Chain
theorem said_le {w : GWorld} (h : mWorld w ≤ 1048576) : mSaidS w.Said ≤ 1048576 ∧ w.Said.length ≤ 1048576 := by
  unfold mWorld at h
  have : mSaidS w.Said = w.Said.length + sumN mSaid w.Said := rfl
  omega
def saidP (z : GZone) (s : GSaid) : Bool := sPre s.Zone.Chain z.Chain && (sPre z.Chain s.Zone.Chain && decide (s.Zone.Entries = z.Entries))
def sSaid (w : List GSaid) (z : GZone) : Bool := w.any (saidP z)
theorem zone_le {z : GZone} (h : mZone z ≤ 1048576) : mSignedS z.Chain ≤ 1048576 ∧ mEntryS z.Entries ≤ 1048576 := by unfold mZone at h; omega
def servP (w : List GSaid) (s : GServer) : Bool := s.Zones.any fun z => !sSaid w z
def sServers (w : GWorld) : Bool := !w.Servers.any (servP w.Said)
theorem serv_le {w : GWorld} (h : mWorld w ≤ 1048576) : w.Servers.length ≤ 1048576 ∧ ∀ s ∈ w.Servers, s.Zones.length ≤ 1048576 ∧ ∀ z ∈ s.Zones, mZone z ≤ 1048576 := by
  unfold mWorld at h
  have e : mServerS w.Servers = w.Servers.length + sumN mServer w.Servers := rfl
  refine ⟨by omega, fun s hs => ?_⟩
  have h1 := sumN_mem (s := mServer) hs
  have e2 : mServer s = s.Zones.length + sumN mZone s.Zones := rfl
  refine ⟨by omega, fun z hz => ?_⟩
  have h2 := sumN_mem (s := mZone) hz
  omega
def headP (h : GHead) (s : GSaid) : Bool := s.Zone.Chain.any fun x => decide (x.Head = h)
def sHead (w : List GSaid) (h : GHead) : Bool := w.any (headP h)
def zSigned : GSigned := ⟨⟨0, 0, 0, 0, 0, 0, 0, 0, ⟨[], 0⟩, ⟨[], 0⟩, 0, ⟨[], 0⟩, false⟩, []⟩
def sFork (w : List GSaid) (f : GFork) : Bool := (decide (f.Before = zSigned) || sHead w f.Before.Head) && (sHead w f.A.Head && sHead w f.B.Head)
def sUser (w : GWorld) : Bool := !(w.Known.Chains.any fun l => !sGrounded w.Said l) && (!(w.Cache.Lst.any fun s => !sGrounded w.Said s.Answer.Chain) && !(w.Known.Forks.any fun f => !sFork w.Said f))
theorem fork_le {f : GFork} (h : mFork f ≤ 1048576) : (mSigned f.Before ≤ 1048576 ∧ mSigned f.A ≤ 1048576 ∧ mSigned f.B ≤ 1048576) ∧ mHead f.Before.Head ≤ 1048576 ∧ mHead f.A.Head ≤ 1048576 ∧ mHead f.B.Head ≤ 1048576 := by
  unfold mFork at h
  have e : ∀ s : GSigned, mSigned s = mHead s.Head + s.Sigs.length := fun _ => rfl
  have := e f.Before; have := e f.A; have := e f.B
  omega
theorem known_le {w : GWorld} (h : mWorld w ≤ 1048576) : (w.Known.Chains.length ≤ 1048576 ∧ ∀ l ∈ w.Known.Chains, mSignedS l ≤ 1048576) ∧ (w.Known.Forks.length ≤ 1048576 ∧ ∀ f ∈ w.Known.Forks, mFork f ≤ 1048576) ∧ (w.Cache.Lst.length ≤ 1048576 ∧ ∀ s ∈ w.Cache.Lst, mSignedS s.Answer.Chain ≤ 1048576) := by
  unfold mWorld at h
  have e1 : mKnown w.Known = (w.Known.Chains.length + sumN mSignedS w.Known.Chains) + (w.Known.Forks.length + sumN mFork w.Known.Forks) := rfl
  have e2 : mCache w.Cache = w.Cache.Lst.length + sumN mStored w.Cache.Lst := rfl
  refine ⟨⟨by omega, fun l hl => ?_⟩, ⟨by omega, fun f hf => ?_⟩, by omega, fun s hs => ?_⟩
  · have := sumN_mem (s := mSignedS) hl; omega
  · have := sumN_mem (s := mFork) hf; omega
  · have h1 := sumN_mem (s := mStored) hs
    have h2 : mSignedS s.Answer.Chain ≤ mStored s := by unfold mStored mAnswer; omega
    omega
theorem stepB {b c : Bool} {P : Prop} {k : List PV → Prop} (h : b = true → (P ↔ k [.bool c])) : (if b = true then P else k [.bool false]) ↔ k [.bool (b && c)] := by
  cases b
  · simp
  · simpa using h rfl
theorem stepN {b c : Bool} {P : Prop} {k : List PV → Prop} (h : b = true → (P ↔ k [.bool c])) : (if (!b) = true then k [.bool false] else P) ↔ k [.bool (b && c)] := by
  cases b
  · simp
  · simpa using h rfl
def sNo (a : GKeys) : Bool := decide (a.Need = 0) && decide (a.Lst.length = 0)
theorem Qfw_n (a : GKeys) (k) : call Qfw [.agg (eKeys a)] k = k [.bool (sNo a)] := call_of (fun k => by
  have e : ((a.Lst.length : Int) == 0) = decide (a.Lst.length = 0) := by
    by_cases h : a.Lst.length = 0
    · rw [h]; rfl
    · rw [decide_eq_false h]; exact beq_eq_false_iff_ne.2 (by omega)
  simp only [Qfw, un, cur0, binP_eql, lenP_eq, List.length_map, e, sNo, iteP_eq, rt_eq, scs_sc, scs_nil, flat_bool, true_and, and_true]
  by_cases h : a.Need = 0 <;> simp [h]) k
theorem Qch_n (a : GKeys) (k) : call Qch [.agg (eKeys a)] k = k [.bool (sNo a)] := call_of (fun k => by
  have e : ((a.Lst.length : Int) == 0) = decide (a.Lst.length = 0) := by
    by_cases h : a.Lst.length = 0
    · rw [h]; rfl
    · rw [decide_eq_false h]; exact beq_eq_false_iff_ne.2 (by omega)
  simp only [Qch, un, cur0, binP_eql, lenP_eq, List.length_map, e, sNo, iteP_eq, rt_eq, scs_sc, scs_nil, flat_bool, true_and, and_true]
  by_cases h : a.Need = 0 <;> simp [h]) k
theorem sNo_keys {a : GKeys} (h : sNo a = true) : sIsKeys a = false := by
  unfold sNo at h
  simp only [Bool.and_eq_true, decide_eq_true_eq] at h
  unfold sIsKeys inR
  simp [h.2]
def sMaybe (a : GKeys) : Bool := sNo a || sIsKeys a
def sJudge (a : GHead) : Bool := sIsKeys a.Judge || (sNo a.Judge && !a.Frozen)
def sWait (a : GHead) : Bool := if sNo a.Heirs = true then decide (a.Wait = 0) && sJudge a else sIsKeys a.Heirs && (inR a.Wait 1 500 && sJudge a)
def sIsHead (a : GHead) : Bool :=
  inR a.Zone 0 2147483646 && (inR a.Root 0 2147483646 && (inR a.Prev 0 2147483646 && (inR a.Epoch 0 200 && (inR a.Kind 1 3 && (inR a.Time 0 100000 && (inR a.Until a.Time 100000 && (decide (a.Until - a.Time ≤ 200) &&
  (inR a.Count 0 12 && (sIsKeys a.Keys && sWait a)))))))))
theorem keys_le {a : GHead} (h : mHead a ≤ 1048576) : mKeys a.Keys ≤ 1048576 ∧ mKeys a.Heirs ≤ 1048576 ∧ mKeys a.Judge ≤ 1048576 := by unfold mHead at h; omega
theorem Qci_n (a : GHead) (h : mHead a ≤ 1048576) (k) : call Qci [.agg (eHead a)] k = k [.bool (sIsHead a)] := call_of (fun k => by
  obtain ⟨h1, h2, h3⟩ := keys_le h
  have e1 := Qcg_n a.Keys h1
  have e2 := Qcg_n a.Heirs h2
  have e3 := Qcg_n a.Judge h3
  simp only [Qci, un, cur0, Qcf_n, e1, e2, e3, Qch_n, unP_not, atP_zero, iteP_eq, rt_eq, scs_sc, scs_nil, flat_bool, true_and, and_true, binP_sub, binP_gtr]
  refine stepN fun _ => stepN fun _ => stepN fun _ => stepN fun _ => stepN fun _ => stepN fun ht => stepN fun hu => ?_
  have hw : IntKind.i64.wrap (a.Until - a.Time) = a.Until - a.Time := by
    simp only [inR, Bool.and_eq_true, decide_eq_true_eq] at ht hu
    exact wr_eq (by omega) (by omega)
  rw [hw, show decide (200 < a.Until - a.Time) = !decide (a.Until - a.Time ≤ 200) by by_cases h : a.Until - a.Time ≤ 200 <;> simp [h] <;> omega]
  refine stepN fun _ => stepN fun _ => stepN fun _ => ?_
  unfold sWait sJudge
  cases sNo a.Heirs <;> cases sIsKeys a.Heirs <;> cases inR a.Wait 1 500 <;> cases sIsKeys a.Judge <;> cases sNo a.Judge <;> cases a.Frozen <;> by_cases hz : a.Wait = 0 <;> simp [hz]) k
theorem headLaw : ∀ (nh kh nj kj wt w0 fr : Bool) (h1 : nh = true → kh = false) (h2 : nj = true → kj = false), ((nh || kh) && ((nj || kj) && ((if nh = true then w0 else wt) && !(fr && nj)))) = (if nh = true then w0 && (kj || (nj && !fr)) else kh && (wt && (kj || (nj && !fr)))) := by decide
theorem Qfz_n (a : GHead) (h : mHead a ≤ 1048576) (k) : call Qfz [.agg (eHead a)] k = k [.bool (sIsHead a)] := call_of (fun k => by
  obtain ⟨h1, h2, h3⟩ := keys_le h
  have e1 := Qfv_n a.Keys h1
  have e2 := Qfv_n a.Heirs h2
  have e3 := Qfv_n a.Judge h3
  have d : ∀ x k, call Qft [.one (I x)] k = k [.bool (inR x 0 2147483646)] := fun x => call_of (fun k => by simp [Qft, Qfj_n])
  have m2 : ∀ k, call Qfx [.agg (eKeys a.Heirs)] k = k [.bool (sMaybe a.Heirs)] := call_of (fun k => by
    simp [Qfx, Qfw_n, e2, sMaybe]; cases sNo a.Heirs <;> simp)
  have m3 : ∀ k, call Qfx [.agg (eKeys a.Judge)] k = k [.bool (sMaybe a.Judge)] := call_of (fun k => by
    simp [Qfx, Qfw_n, e3, sMaybe]; cases sNo a.Judge <;> simp)
  have m4 : ∀ k, call Qfy [.one (I a.Wait), .agg (eKeys a.Heirs)] k = k [.bool (if sNo a.Heirs = true then decide (a.Wait = 0) else inR a.Wait 1 500)] := call_of (fun k => by
    simp [Qfy, Qfw_n, Qfj_n]; cases sNo a.Heirs <;> simp
    by_cases hz : a.Wait = 0
    · simp [hz]
    · rw [show (a.Wait == 0) = false from beq_eq_false_iff_ne.2 hz]; simp [hz])
  have m5 : ∀ k, call Qfu [.agg (eHead a)] k = k [.bool (inR a.Time 0 100000 && (inR a.Until a.Time 100000 && decide (a.Until - a.Time ≤ 200)))] := call_of (fun k => by
    simp only [Qfu, un, cur0, binP_geq, binP_leq, binP_sub, iteP_eq, rt_eq, scs_sc, scs_nil, flat_bool, true_and, and_true]
    by_cases c1 : 0 ≤ a.Time
    · by_cases c2 : a.Time ≤ a.Until
      · by_cases c3 : a.Until ≤ 100000
        · rw [wr_eq (show -9223372036854775808 ≤ a.Until - a.Time by omega) (by omega)]
          simp [c1, c2, c3, inR, show a.Time ≤ 100000 by omega]
        · simp [c1, c2, c3, inR]
      · simp [c1, c2, inR]
    · simp [c1, inR])
  simp only [Qfz, un, cur0, d, Qfj_n, e1, m2, m3, m4, m5, Qfw_n, unP_not, atP_zero, iteP_eq, rt_eq, scs_sc, scs_nil, flat_bool, true_and, and_true]
  have key : ∀ z r p e q sp c ks mh mj wt no fr : Bool, (if z = true then if r = true then if p = true then if e = true then if q = true then if sp = true then if c = true then if ks = true then if mh = true then if mj = true then if wt = true then
      if fr = true then k [.bool !no] else k [.bool true] else k [.bool false] else k [.bool false] else k [.bool false] else k [.bool false] else k [.bool false] else k [.bool false] else k [.bool false] else k [.bool false] else k [.bool false] else k [.bool false] else k [.bool false]) ↔
      k [.bool (z && (r && (p && (e && (q && (sp && (c && (ks && (mh && (mj && (wt && !(fr && no))))))))))))] := by
    intro z r p e q sp c ks mh mj wt no fr
    refine stepB fun _ => stepB fun _ => stepB fun _ => stepB fun _ => stepB fun _ => stepB fun _ => stepB fun _ => stepB fun _ => stepB fun _ => stepB fun _ => stepB fun _ => ?_
    cases fr <;> simp
  refine (key _ _ _ _ _ _ _ _ _ _ _ _ _).trans ?_
  apply iff_of_eq
  congr 3
  unfold sIsHead sWait sJudge sMaybe
  simp only [Bool.and_assoc]
  rw [headLaw _ _ _ _ _ _ _ (@sNo_keys a.Heirs) (@sNo_keys a.Judge)]) k
theorem beqI (a b : Int) : (a == b) = decide (a = b) := by
  by_cases h : a = b
  · subst h; simp
  · rw [decide_eq_false h]; exact beq_eq_false_iff_ne.2 h
def sKH (key : Int) (m : List Int) : Int := sHash (key :: (m ++ [key]))
theorem Qgi_n (key : Int) (m : List Int) (h : m.length < 90000000) (k) : call Qgi [.one (I key), .one (ints m)] k = k [I (sKH key m)] := call_of (fun k => by
  have e : ∀ k, call Qgg [.one (.list 1 [[.list 1 [[I key]]], [ints m], [.list 1 [[I key]]]])] k = k [ints (key :: (m ++ [key]))] := fun k => by
    have := Qgg_n [[key], m, [key]] (by simp [sumN]; omega) k
    simpa [ints] using this
  have e2 := Qgc_n (key :: (m ++ [key])) (by simp; omega)
  simp only [Qgi, un, cur0, fc_int, fc_own, true_and, e, atP_zero, e2, rt_eq, scs_sc, scs_nil, flat_int]
  simp [sKH]) k
theorem Qco_n (key : Int) (m : List Int) (h : m.length < 90000000) (k) : call Qco [.one (I key), .one (ints m)] k = k [I (sKH key m)] := call_of (fun k => by
  have e2 := Qcl_n (key :: (m ++ [key])) (by simp; omega)
  have e3 : (PV.list 1 ([I key] :: (m.map rI ++ [[I key]]))) = ints (key :: (m ++ [key])) := by simp [ints]
  simp [Qco, fc_int, flatRows_ints, catP, show 1 + m.length < 1073741824 by omega]
  rw [e3, e2]
  simp [sKH]
  try (intros; omega)) k
def sTag (key : Int) (m : List Int) : Int := sKH key (223 :: m)
theorem Qgj_n (key : Int) (m : List Int) (h : m.length < 80000000) (k) : call Qgj [.one (I key), .one (ints m)] k = k [I (sTag key m)] := call_of (fun k => by
  have e2 := Qgi_n key (223 :: m) (by simp; omega)
  have e3 : PV.list 1 ([I 223] :: m.map rI) = ints (223 :: m) := by simp [ints]
  simp [Qgj, fc_int, flatRows_ints, catP, show 1 + m.length < 1073741824 by omega]
  rw [e3, e2]
  simp [sTag]
  try (intros; omega)) k
theorem Qcp_n (key : Int) (m : List Int) (h : m.length < 80000000) (k) : call Qcp [.one (I key), .one (ints m)] k = k [I (sTag key m)] := call_of (fun k => by
  have e2 := Qco_n key (223 :: m) (by simp; omega)
  have e3 : PV.list 1 ([I 223] :: m.map rI) = ints (223 :: m) := by simp [ints]
  simp [Qcp, fc_int, flatRows_ints, catP, show 1 + m.length < 1073741824 by omega]
  rw [e3, e2]
  simp [sTag]
  try (intros; omega)) k
def sDigest (a : GHead) : Int := sHash (233 :: headInts a)
theorem Qgs_n (a : GHead) (h : mHead a ≤ 1048576) (k) : call Qgs [.agg (eHead a)] k = k [I (sDigest a)] := call_of (fun k => by
  have hl := headInts_len a
  have e1 := Qgh_n a h
  have e2 := Qgc_n (233 :: headInts a) (by simp; omega)
  have e3 : PV.list 1 ([I 233] :: (headInts a).map rI) = ints (233 :: headInts a) := by simp [ints]
  simp [Qgs, fc_int, e1, catP, show 1 + (headInts a).length < 1073741824 by omega]
  rw [e3, e2]
  simp [sDigest]
  try (intros; omega)) k
theorem Qcu_n (a : GHead) (h : mHead a ≤ 1048576) (k) : call Qcu [.agg (eHead a)] k = k [I (sDigest a)] := call_of (fun k => by
  have hl := headInts_len a
  have e1 := Qcn_n a h
  have e2 := Qcl_n (233 :: headInts a) (by simp; omega)
  have e3 : PV.list 1 ([I 233] :: (headInts a).map rI) = ints (233 :: headInts a) := by simp [ints]
  simp [Qcu, fc_int, e1, catP, show 1 + (headInts a).length < 1073741824 by omega]
  rw [e3, e2]
  simp [sDigest]
  try (intros; omega)) k
def sZoneOf (a : GKeys) (salt : Int) : Int := sHash (239 :: salt :: keysInts a)
theorem Qgd_n (a : GKeys) (salt : Int) (h : mKeys a ≤ 1048576) (k) : call Qgd [.agg (eKeys a), .one (I salt)] k = k [I (sZoneOf a salt)] := call_of (fun k => by
  have hl := keysInts_len a
  have h' := h
  unfold mKeys at h'
  have e1 := Qga_n a h
  have e2 := Qgc_n (239 :: salt :: keysInts a) (by simp; omega)
  have e3 : PV.list 1 ([I 239] :: [I salt] :: (keysInts a).map rI) = ints (239 :: salt :: keysInts a) := by simp [ints]
  simp [Qgd, fc_int, e1, catP, show 2 + (keysInts a).length < 1073741824 by omega]
  rw [e3, e2]
  simp [sZoneOf]
  try (intros; omega)) k
theorem Qcm_n (a : GKeys) (salt : Int) (h : mKeys a ≤ 1048576) (k) : call Qcm [.agg (eKeys a), .one (I salt)] k = k [I (sZoneOf a salt)] := call_of (fun k => by
  have hl := keysInts_len a
  have h' := h
  unfold mKeys at h'
  have e1 := Qcj_n a h
  have e2 := Qcl_n (239 :: salt :: keysInts a) (by simp; omega)
  have e3 : PV.list 1 ([I 239] :: [I salt] :: (keysInts a).map rI) = ints (239 :: salt :: keysInts a) := by simp [ints]
  simp [Qcm, fc_int, e1, catP, show 2 + (keysInts a).length < 1073741824 by omega]
  rw [e3, e2]
  simp [sZoneOf]
  try (intros; omega)) k
def sSigBy (m : List Int) (s : GSig) : Bool := isKeyB s.Key && decide (s.Tag = sTag s.Key m)
theorem Qgk_n (s : GSig) (m : List Int) (h : m.length < 80000000) (k) : call Qgk [.agg (eSig s), .one (ints m)] k = k [.bool (sSigBy m s)] := call_of (fun k => by
  have e := Qgj_n s.Key m h
  simp only [Qgk, un, cur0, Qfl_n, e, atP_zero, binP_eql, iteP_eq, rt_eq, scs_sc, scs_nil, flat_bool, true_and, and_true]
  exact stepB (c := decide (s.Tag = sTag s.Key m)) fun _ => by rw [beqI]) k
theorem Qcq_n (s : GSig) (m : List Int) (h : m.length < 80000000) (k) : call Qcq [.agg (eSig s), .one (ints m)] k = k [.bool (sSigBy m s)] := call_of (fun k => by
  have e := Qcp_n s.Key m h
  simp only [Qcq, un, cur0, Qcf_n, e, atP_zero, binP_eql, iteP_eq, rt_eq, scs_sc, scs_nil, flat_bool, true_and, and_true]
  exact stepB (b := isKeyB s.Key) (c := decide (s.Tag = sTag s.Key m)) fun _ => by rw [beqI]) k
def sigP (m : List Int) (key : Int) (s : GSig) : Bool := decide (s.Key = key) && sSigBy m s
def sCount (a : GKeys) (m : List Int) (l : List GSig) : Nat := a.Lst.countP fun key => l.any (sigP m key)
theorem slices_ContainsFunc_Sig_n (l : List GSig) (key : Int) (m : List Int) (hl : l.length ≤ 1048576) (h : m.length < 80000000) (k) : call Qgn [.one (.list 2 (l.map eSig)), .fn 312 [.cells [I key], .cells [ints m]]] k = k [.bool (l.any (sigP m key))] := call_of (fun k => by
  have e : ∀ k, call Qgm [.one (.list 2 (l.map eSig)), .fn 312 [.cells [I key], .cells [ints m]]] k = k [I (idx (sigP m key) l)] := call_of (fun k => by
    simp [Qgm]
    refine lp_find (Q := fun i => k [I i]) l (fun i => [.list 2 (l.map eSig), I key, ints m, I 0, I l.length, I i]) (sigP m key) rfl (fun i x hx hi K => ?_) fun K => ?_
    · have e1 : ∀ k, call Qgl [.agg (eSig x), .ro (.cells [I key]), .ro (.cells [ints m])] k = k [.bool (sigP m key x)] := call_of (fun k => by
        have e := Qgk_n x m h
        simp only [Qgl, un, cur0, binP_eql, e, atP_zero, iteP_eq, rt_eq, scs_sc, scs_nil, flat_bool, true_and, and_true]
        by_cases hk : x.Key = key <;> simp [hk, sigP])
      simp [-getElem?_pos, Qgm_r0, hx, hi, e1, wr_succ (show i < 1000000000000000000 by omega)]
    · simp [Qgm_r0])
  simp [Qgn, e, idx_any]) k
theorem Qgo_n (a : GKeys) (m : List Int) (l : List GSig) (h : mKeys a ≤ 1048576) (hm : m.length < 80000000) (hl : l.length ≤ 1048576) (k) : call Qgo [.agg (eKeys a), .one (ints m), .one (.list 2 (l.map eSig))] k = k [I (sCount a m l)] := call_of (fun k => by
  unfold mKeys at h
  simp [Qgo]
  refine lp_list a.Lst (fun i => [.list 2 (l.map eSig), I 0, I ((a.Lst.take i).countP fun key => l.any (sigP m key) : Nat), ints a.Lst, I a.Lst.length, I i, ints m]) rfl (fun i x hx hi K => ?_) fun K => ?_
  · have hc : (a.Lst.take i).countP (fun key => l.any (sigP m key)) ≤ i := Nat.le_trans List.countP_le_length (by simp; omega)
    have e := slices_ContainsFunc_Sig_n l x m hl hm
    simp only [Qgo_r0, un, cur0, binP_lss, iteP_eq, show decide ((i : Int) < a.Lst.length) = true by simp; omega, if_true, elemP, ints, List.getElem?_map, hx, Int.toNat_natCast, Option.map_some, true_and, atP_zero, rI]
    rw [show PV.list 1 (m.map fun n => [I n]) = ints m from rfl]
    simp only [e, atP_zero, iteP_eq, binP_add, wr_succ (show i < 1000000000000000000 by omega), wr_succ (show (a.Lst.take i).countP (fun key => l.any (sigP m key)) < 1000000000000000000 by omega)]
    rw [take_snoc hx, List.countP_append, List.countP_cons, List.countP_nil]
    cases hb : l.any (sigP m x) <;> simp [hb]
  · simp [Qgo_r0, sCount]) k
theorem Qcr_n (a : GKeys) (m : List Int) (l : List GSig) (h : mKeys a ≤ 1048576) (hm : m.length < 80000000) (hl : l.length ≤ 1048576) (k) : call Qcr [.agg (eKeys a), .one (ints m), .one (.list 2 (l.map eSig))] k = k [I (sCount a m l)] := call_of (fun k => by
  unfold mKeys at h
  simp only [Qcr, un, cur0, rt_eq, scs_sc, scs_nil, flat_int, true_and]
  refine lp_list a.Lst (fun i => [ints m, .list 2 (l.map eSig), I 0, I ((a.Lst.take i).countP fun key => l.any (sigP m key) : Nat), I i, ints a.Lst, I a.Need]) rfl (fun i x hx hi K => ?_) fun K => ?_
  · have hc : (a.Lst.take i).countP (fun key => l.any (sigP m key)) ≤ i := Nat.le_trans List.countP_le_length (by simp; omega)
    simp [-getElem?_pos, Qcr_r0, hi]
    rw [take_snoc hx, List.countP_append, List.countP_cons, List.countP_nil]
    generalize hn : (a.Lst.take i).countP (fun key => l.any (sigP m key)) = n at hc
    refine (lp_any (P := K [ints m, .list 2 (l.map eSig), I 0, I ((n + 1 : Nat) : Int), I ((i + 1 : Nat) : Int), ints a.Lst, I a.Need]) (fin := K [ints m, .list 2 (l.map eSig), I 0, I (n : Int), I ((i + 1 : Nat) : Int), ints a.Lst, I a.Need]) l (fun j => [ints m, .list 2 (l.map eSig), I 0, I (n : Int), I i, I j, ints a.Lst, I a.Need]) (sigP m x) rfl (fun j y hy hj K => ?_) fun K => ?_).trans ?_
    · have e := Qcq_n y m hm
      simp [-getElem?_pos, Qcr_r1, hx, hy, hj, e, sigP, wr_succ (show j < 1000000000000000000 by omega), wr_succ (show n < 1000000000000000000 by omega), wr_succ (show i < 1000000000000000000 by omega)]
      by_cases hk : y.Key = x <;> simp [hk]
    · simp [Qcr_r1, wr_succ (show i < 1000000000000000000 by omega)]
    · cases hb : l.any (sigP m x) <;> simp [hb]
  · simp [Qcr_r0, sCount]) k
def sIsSigned (a : GKeys) (m : List Int) (l : List GSig) : Bool := sIsKeys a && decide (a.Need ≤ (sCount a m l : Int))
theorem Qgp_n (a : GKeys) (m : List Int) (l : List GSig) (h : mKeys a ≤ 1048576) (hm : m.length < 80000000) (hl : l.length ≤ 1048576) (k) : call Qgp [.agg (eKeys a), .one (ints m), .one (.list 2 (l.map eSig))] k = k [.bool (sIsSigned a m l)] := call_of (fun k => by
  have e1 := Qfv_n a h
  have e2 := Qgo_n a m l h hm hl
  simp only [Qgp, un, cur0, e1, e2, atP_zero, iteP_eq, rt_eq, scs_sc, scs_nil, flat_bool, true_and, and_true, binP_geq]
  exact stepB fun _ => Iff.rfl) k
theorem Qcs_n (a : GKeys) (m : List Int) (l : List GSig) (h : mKeys a ≤ 1048576) (hm : m.length < 80000000) (hl : l.length ≤ 1048576) (k) : call Qcs [.agg (eKeys a), .one (ints m), .one (.list 2 (l.map eSig))] k = k [.bool (sIsSigned a m l)] := call_of (fun k => by
  have e1 := Qcg_n a h
  have e2 := Qcr_n a m l h hm hl
  simp only [Qcs, un, cur0, e1, e2, atP_zero, iteP_eq, rt_eq, scs_sc, scs_nil, flat_bool, true_and, and_true, binP_geq]
  exact stepB fun _ => Iff.rfl) k
theorem signed_le {s : GSigned} (h : mSigned s ≤ 1048576) : mHead s.Head ≤ 1048576 ∧ s.Sigs.length ≤ 1048576 ∧ (headInts s.Head).length < 80000000 := by
  have hl := headInts_len s.Head
  unfold mSigned at h
  omega
def sBy (s : GSigned) (a : GKeys) : Bool := sIsSigned a (headInts s.Head) s.Sigs
theorem impl_isSignedBy_n (s : GSigned) (a : GKeys) (h : mSigned s ≤ 1048576) (ha : mKeys a ≤ 1048576) (k) : call Qgq [.agg (eSigned s), .agg (eKeys a)] k = k [.bool (sBy s a)] := call_of (fun k => by
  obtain ⟨h1, h2, h3⟩ := signed_le h
  have e1 := Qgh_n s.Head h1
  have e2 := Qgp_n a (headInts s.Head) s.Sigs ha h3 h2
  simp only [Qgq, un, cur0, e1, e2, atP_zero, rt_eq, scs_sc, scs_nil, flat_bool, true_and, and_true, sBy]) k
def sIsFirst (s : GSigned) : Bool := sIsHead s.Head && (decide (s.Head.Epoch = 0) && (decide (s.Head.Kind = 1) && (!s.Head.Frozen && (decide (s.Head.Zone = sZoneOf s.Head.Keys s.Head.Prev) && sBy s s.Head.Keys))))
theorem Qgr_n (s : GSigned) (h : mSigned s ≤ 1048576) (k) : call Qgr [.agg (eSigned s)] k = k [.bool (sIsFirst s)] := call_of (fun k => by
  obtain ⟨h1, h2, h3⟩ := signed_le h
  obtain ⟨q1, q2, q3⟩ := keys_le h1
  have e1 := Qfz_n s.Head h1
  have e2 := Qgd_n s.Head.Keys s.Head.Prev q1
  have e3 := impl_isSignedBy_n s s.Head.Keys h q1
  simp only [Qgr, un, cur0, e1, e2, e3, binP_eql, beqI, unP_not, atP_zero, iteP_eq, rt_eq, scs_sc, scs_nil, flat_bool, true_and, and_true]
  exact stepB fun _ => stepB fun _ => stepB fun _ => stepB fun _ => stepB fun _ => Iff.rfl) k
theorem Qct_n (s : GSigned) (h : mSigned s ≤ 1048576) (k) : call Qct [.agg (eSigned s)] k = k [.bool (sIsFirst s)] := call_of (fun k => by
  obtain ⟨h1, h2, h3⟩ := signed_le h
  obtain ⟨q1, q2, q3⟩ := keys_le h1
  have e1 := Qci_n s.Head h1
  have e2 := Qcm_n s.Head.Keys s.Head.Prev q1
  have e3 := Qcn_n s.Head h1
  have e4 := Qcs_n s.Head.Keys (headInts s.Head) s.Sigs q1 h3 h2
  simp only [Qct, un, cur0, e1, e2, e3, e4, binP_eql, beqI, unP_not, atP_zero, iteP_eq, rt_eq, scs_sc, scs_nil, flat_bool, true_and, and_true]
  exact stepB fun _ => stepB fun _ => stepB fun _ => stepB fun _ => stepB fun _ => Iff.rfl) k
theorem stepI {b : Bool} {v c : Int} {P : Prop} {k : List PV → Prop} (h : b = false → (P ↔ k [I c])) : (if b = true then k [I v] else P) ↔ k [I (if b = true then v else c)] := by
  cases b
  · simpa using h rfl
  · simp
theorem stepJ {b : Bool} {v c : Int} {P : Prop} {k : List PV → Prop} (h : b = true → (P ↔ k [I c])) : (if (!b) = true then k [I v] else P) ↔ k [I (if b = true then c else v)] := by
  cases b
  · simp
  · simpa using h rfl
def sSame (a b : GHead) : Bool := decide (a.Count = b.Count) && decide (a.Root = b.Root)
theorem Qgx_n (a b : GHead) (k) : call Qgx [.agg (eHead a), .agg (eHead b)] k = k [.bool (sSame a b)] := call_of (fun k => by
  simp only [Qgx, un, cur0, binP_eql, beqI, iteP_eq, rt_eq, scs_sc, scs_nil, flat_bool, true_and, and_true]
  exact stepB fun _ => Iff.rfl) k
theorem Qcy_n (a b : GHead) (k) : call Qcy [.agg (eHead a), .agg (eHead b)] k = k [.bool (sSame a b)] := call_of (fun k => by
  simp only [Qcy, un, cur0, binP_eql, beqI, iteP_eq, rt_eq, scs_sc, scs_nil, flat_bool, true_and, and_true]
  exact stepB fun _ => Iff.rfl) k
def sNext (p h : GHead) : Bool := decide (h.Zone = p.Zone) && (decide (h.Epoch = IntKind.i64.wrap (p.Epoch + 1)) && (decide (h.Prev = sDigest p) && decide (p.Time ≤ h.Time)))
theorem Qgt_n (p h : GHead) (hp : mHead p ≤ 1048576) (k) : call Qgt [.agg (eHead p), .agg (eHead h)] k = k [.bool (sNext p h)] := call_of (fun k => by
  have e := Qgs_n p hp
  simp only [Qgt, un, cur0, e, binP_eql, binP_geq, binP_add, beqI, atP_zero, iteP_eq, rt_eq, scs_sc, scs_nil, flat_bool, true_and, and_true]
  exact stepB fun _ => stepB fun _ => stepB fun _ => Iff.rfl) k
def sOwner (p : GHead) (s : GSigned) : Int := if p.Frozen = true then 4 else if s.Head.Frozen = true then 6 else if sBy s p.Keys = true then 1 else 7
def sHeir (p : GHead) (s : GSigned) : Int := if p.Frozen = true then 4 else if sNo p.Heirs = true then 5 else if decide (s.Head.Time < IntKind.i64.wrap (p.Until + p.Wait)) = true then 5 else if s.Head.Frozen = true then 6 else
  if decide (s.Head.Keys = p.Heirs) = true then (if sSame s.Head p = true then (if sBy s p.Heirs = true then 1 else 7) else 6) else 6
def sJC (p : GHead) (s : GSigned) : Int := if sNo p.Judge = true then 5 else if decide (s.Head.Frozen = p.Frozen) = true then 6 else
  if (sSame s.Head p && (decide (s.Head.Judge = p.Judge) && (decide (s.Head.Heirs = p.Heirs) && decide (s.Head.Wait = p.Wait)))) = true then (if (!s.Head.Frozen || decide (s.Head.Keys = p.Keys)) = true then (if sBy s p.Judge = true then 1 else 7) else 6) else 6
def sCode (p : GHead) (s : GSigned) : Int := if sIsHead p = true then (if sIsHead s.Head = true then (if sNext p s.Head = true then (if decide (s.Head.Kind = 1) = true then sOwner p s else if decide (s.Head.Kind = 2) = true then sHeir p s else sJC p s) else 3) else 2) else 2
theorem Qgu_n (p : GHead) (s : GSigned) (hp : mHead p ≤ 1048576) (hs : mSigned s ≤ 1048576) (k) : call Qgu [.agg (eHead p), .agg (eSigned s)] k = k [I (sOwner p s)] := call_of (fun k => by
  obtain ⟨q1, q2, q3⟩ := keys_le hp
  have e := impl_isSignedBy_n s p.Keys hs q1
  simp only [Qgu, un, cur0, e, unP_not, atP_zero, iteP_eq, rt_eq, scs_sc, scs_nil, flat_int, true_and, and_true]
  exact stepI fun _ => stepI fun _ => stepJ fun _ => Iff.rfl) k
theorem Qgy_n (p : GHead) (s : GSigned) (hp : mHead p ≤ 1048576) (hs : mSigned s ≤ 1048576) (k) : call Qgy [.agg (eHead p), .agg (eSigned s)] k = k [I (sHeir p s)] := call_of (fun k => by
  obtain ⟨q1, q2, q3⟩ := keys_le hp
  obtain ⟨r1, r2, r3⟩ := keys_le (signed_le hs).1
  have e := impl_isSignedBy_n s p.Heirs hs q2
  have e2 := Qgw_n s.Head.Keys p.Heirs r1
  simp only [Qgy, un, cur0, e, e2, Qfw_n, Qgx_n, unP_not, binP_add, binP_lss, atP_zero, iteP_eq, rt_eq, scs_sc, scs_nil, flat_int, true_and, and_true]
  exact stepI fun _ => stepI fun _ => stepI fun _ => stepI fun _ => stepJ fun _ => stepJ fun _ => stepJ fun _ => Iff.rfl) k
theorem Qgz_n (p : GHead) (s : GSigned) (hp : mHead p ≤ 1048576) (hs : mSigned s ≤ 1048576) (k) : call Qgz [.agg (eHead p), .agg (eSigned s)] k = k [I (sJC p s)] := call_of (fun k => by
  obtain ⟨q1, q2, q3⟩ := keys_le hp
  obtain ⟨r1, r2, r3⟩ := keys_le (signed_le hs).1
  have e := impl_isSignedBy_n s p.Judge hs q3
  have e2 := Qgw_n s.Head.Judge p.Judge r3
  have e3 := Qgw_n s.Head.Heirs p.Heirs r2
  have e4 := Qgw_n s.Head.Keys p.Keys r1
  simp only [Qgz, un, cur0, e, e2, e3, e4, Qfw_n, Qgx_n, unP_not, boolP_eql, binP_eql, beqI, atP_zero, iteP_eq, rt_eq, scs_sc, scs_nil, flat_int, true_and, and_true, sJC]
  generalize sNo p.Judge = b1
  generalize sSame s.Head p = b2
  generalize decide (s.Head.Judge = p.Judge) = b3
  generalize decide (s.Head.Heirs = p.Heirs) = b4
  generalize decide (s.Head.Wait = p.Wait) = b5
  generalize decide (s.Head.Keys = p.Keys) = b6
  generalize sBy s p.Judge = b7
  cases b1 <;> cases b2 <;> cases b3 <;> cases b4 <;> cases b5 <;> cases b6 <;> cases b7 <;> cases s.Head.Frozen <;> cases p.Frozen <;> simp) k
theorem Qha_n (p : GHead) (s : GSigned) (hp : mHead p ≤ 1048576) (hs : mSigned s ≤ 1048576) (k) : call Qha [.agg (eHead p), .agg (eSigned s)] k = k [I (sCode p s)] := call_of (fun k => by
  have e1 := Qfz_n p hp
  have e2 := Qfz_n s.Head (signed_le hs).1
  have e3 := Qgt_n p s.Head hp
  have e4 := Qgu_n p s hp hs
  have e5 := Qgy_n p s hp hs
  have e6 := Qgz_n p s hp hs
  simp only [Qha, un, cur0, e1, e2, e3, e4, e5, e6, unP_not, binP_eql, beqI, atP_zero, iteP_eq, rt_eq, scs_sc, scs_nil, flat_int, true_and, and_true]
  refine stepJ fun _ => stepJ fun _ => stepJ fun _ => ?_
  by_cases h1 : s.Head.Kind = 1
  · simp [h1]
  · by_cases h2 : s.Head.Kind = 2 <;> simp [h1, h2]) k
def sMay (p : GHead) (s : GSigned) : Bool := decide (sCode p s = 1)
theorem Qhb_n (p : GHead) (s : GSigned) (hp : mHead p ≤ 1048576) (hs : mSigned s ≤ 1048576) (k) : call Qhb [.agg (eHead p), .agg (eSigned s)] k = k [.bool (sMay p s)] := call_of (fun k => by
  have e := Qha_n p s hp hs
  simp only [Qhb, un, cur0, e, binP_eql, beqI, atP_zero, rt_eq, scs_sc, scs_nil, flat_bool, true_and, and_true, sMay]) k
theorem Qcx_n (a b : GKeys) (h : mKeys a ≤ 1048576) (k) : call Qcx [.agg (eKeys a), .agg (eKeys b)] k = k [.bool (decide (a = b))] := call_of (fun k => by
  unfold mKeys at h
  obtain ⟨l, n⟩ := a
  obtain ⟨m, q⟩ := b
  have e := Qcw_n l m (by simp only at h; omega)
  simp only [Qcx, un, cur0, e, binP_eql, beqI, atP_zero, iteP_eq, rt_eq, scs_sc, scs_nil, flat_bool, true_and, and_true]
  by_cases h1 : n = q <;> by_cases h2 : l = m <;> simp [h1, h2]) k
theorem Qcv_n (p h : GHead) (k) : call Qcv [.agg (eHead p), .agg (eHead h)] k = k [I (if p.Frozen = true then 4 else if h.Frozen = true then 6 else 1)] := call_of (fun k => by
  simp only [Qcv, un, cur0, iteP_eq, rt_eq, scs_sc, scs_nil, flat_int, true_and, and_true]
  exact stepI fun _ => stepI fun _ => Iff.rfl) k
def pHeir (p h : GHead) : Int := if p.Frozen = true then 4 else if sNo p.Heirs = true then 5 else if decide (h.Time < IntKind.i64.wrap (p.Until + p.Wait)) = true then 5 else if h.Frozen = true then 6 else
  if decide (h.Keys = p.Heirs) = true then (if sSame h p = true then 1 else 6) else 6
theorem Qcz_n (p h : GHead) (hp : mHead p ≤ 1048576) (hh : mHead h ≤ 1048576) (k) : call Qcz [.agg (eHead p), .agg (eHead h)] k = k [I (pHeir p h)] := call_of (fun k => by
  obtain ⟨r1, r2, r3⟩ := keys_le hh
  have e2 := Qcx_n h.Keys p.Heirs r1
  simp only [Qcz, un, cur0, e2, Qch_n, Qcy_n, unP_not, binP_add, binP_lss, atP_zero, iteP_eq, rt_eq, scs_sc, scs_nil, flat_int, true_and, and_true]
  exact stepI fun _ => stepI fun _ => stepI fun _ => stepI fun _ => stepJ fun _ => stepJ fun _ => Iff.rfl) k
def pJudge (p h : GHead) : Int := if sNo p.Judge = true then 5 else if decide (h.Frozen = p.Frozen) = true then 6 else
  if (sSame h p && (decide (h.Judge = p.Judge) && (decide (h.Heirs = p.Heirs) && decide (h.Wait = p.Wait)))) = true then (if (!h.Frozen || decide (h.Keys = p.Keys)) = true then 1 else 6) else 6
theorem Qda_n (p h : GHead) (hp : mHead p ≤ 1048576) (hh : mHead h ≤ 1048576) (k) : call Qda [.agg (eHead p), .agg (eHead h)] k = k [I (pJudge p h)] := call_of (fun k => by
  obtain ⟨r1, r2, r3⟩ := keys_le hh
  have e2 := Qcx_n h.Judge p.Judge r3
  have e3 := Qcx_n h.Heirs p.Heirs r2
  have e4 := Qcx_n h.Keys p.Keys r1
  have e5 : (h.Wait != p.Wait) = !decide (h.Wait = p.Wait) := by rw [bne, beqI]
  simp only [Qda, un, cur0, e2, e3, e4, Qch_n, Qcy_n, unP_not, boolP_eql, binP_neq, e5, atP_zero, iteP_eq, rt_eq, scs_sc, scs_nil, flat_int, true_and, and_true, pJudge]
  generalize sNo p.Judge = b1
  generalize sSame h p = b2
  generalize decide (h.Judge = p.Judge) = b3
  generalize decide (h.Heirs = p.Heirs) = b4
  generalize decide (h.Wait = p.Wait) = b5
  generalize decide (h.Keys = p.Keys) = b6
  cases b1 <;> cases b2 <;> cases b3 <;> cases b4 <;> cases b5 <;> cases b6 <;> cases h.Frozen <;> cases p.Frozen <;> simp) k
theorem code_owner (p : GHead) (s : GSigned) : sOwner p s = if decide ((if p.Frozen = true then 4 else if s.Head.Frozen = true then 6 else 1 : Int) = 1) = true then (if sBy s p.Keys = true then 1 else 7) else (if p.Frozen = true then 4 else if s.Head.Frozen = true then 6 else 1) := by
  unfold sOwner
  cases p.Frozen <;> cases s.Head.Frozen <;> simp
theorem code_heir (p : GHead) (s : GSigned) : sHeir p s = if decide (pHeir p s.Head = 1) = true then (if sBy s p.Heirs = true then 1 else 7) else pHeir p s.Head := by
  unfold sHeir pHeir
  cases p.Frozen <;> cases sNo p.Heirs <;> by_cases h1 : s.Head.Time < IntKind.i64.wrap (p.Until + p.Wait) <;> cases s.Head.Frozen <;> by_cases h2 : s.Head.Keys = p.Heirs <;> cases sSame s.Head p <;> simp [h1, h2]
theorem code_judge (p : GHead) (s : GSigned) : sJC p s = if decide (pJudge p s.Head = 1) = true then (if sBy s p.Judge = true then 1 else 7) else pJudge p s.Head := by
  unfold sJC pJudge
  generalize (sSame s.Head p && (decide (s.Head.Judge = p.Judge) && (decide (s.Head.Heirs = p.Heirs) && decide (s.Head.Wait = p.Wait)))) = b2
  generalize (!s.Head.Frozen || decide (s.Head.Keys = p.Keys)) = b3
  generalize decide (s.Head.Frozen = p.Frozen) = b4
  cases sNo p.Judge <;> cases b2 <;> cases b3 <;> cases b4 <;> simp
theorem head_kind {h : GHead} (hh : sIsHead h = true) : h.Kind = 1 ∨ h.Kind = 2 ∨ h.Kind = 3 := by
  unfold sIsHead at hh
  simp only [Bool.and_eq_true, inR, decide_eq_true_eq] at hh
  omega
theorem codeStep {c : Int} {b : Bool} {k : List PV → Prop} : (if decide (c = 1) = true then (if (!b) = true then k [I 7] else k [I c]) else k [I c]) ↔ k [I (if decide (c = 1) = true then (if b = true then 1 else 7) else c)] := by
  by_cases h : c = 1
  · subst h; cases b <;> simp
  · simp [h]
theorem Qdb_n (p : GHead) (s : GSigned) (hp : mHead p ≤ 1048576) (hs : mSigned s ≤ 1048576) (k) : call Qdb [.agg (eHead p), .agg (eSigned s)] k = k [I (sCode p s)] := call_of (fun k => by
  obtain ⟨h1, h2, h3⟩ := signed_le hs
  obtain ⟨q1, q2, q3⟩ := keys_le hp
  have e1 := Qci_n p hp
  have e2 := Qci_n s.Head h1
  have e3 := Qcu_n p hp
  have e4 := Qcv_n p s.Head
  have e5 := Qcz_n p s.Head hp h1
  have e6 := Qda_n p s.Head hp h1
  have e7 := Qcn_n s.Head h1
  have e8 := Qcs_n p.Keys (headInts s.Head) s.Sigs q1 h3 h2
  have e9 := Qcs_n p.Heirs (headInts s.Head) s.Sigs q2 h3 h2
  have e10 := Qcs_n p.Judge (headInts s.Head) s.Sigs q3 h3 h2
  simp only [Qdb, un, cur0, e1, e2, e3, e4, e5, e6, e7, e8, e9, e10, unP_not, binP_eql, binP_neq, binP_add, binP_lss, bne, beqI, atP_zero, iteP_eq, rt_eq, scs_sc, scs_nil, flat_int, true_and, and_true, codeStep]
  refine stepJ fun _ => stepJ fun hh => ?_
  have hk := head_kind hh
  have hc : ∀ {b1 b2 b3 b4 : Bool} {P : Prop} {c : Int}, (P ↔ k [I c]) → ((if (!b1) = true then k [I 3] else if (!b2) = true then k [I 3] else if (!b3) = true then k [I 3] else if (!b4) = true then k [I 3] else P) ↔ k [I (if (b1 && (b2 && (b3 && b4))) = true then c else 3)]) := by
    intro b1 b2 b3 b4 P c h
    cases b1 <;> cases b2 <;> cases b3 <;> cases b4 <;> simp [h]
  rw [show decide (s.Head.Time < p.Time) = !decide (p.Time ≤ s.Head.Time) by by_cases h : p.Time ≤ s.Head.Time <;> simp [h] <;> omega]
  refine hc ?_
  rw [code_owner, code_heir, code_judge]
  rcases hk with hk | hk | hk <;> simp [hk, sBy]
  all_goals exact Iff.rfl) k
theorem Qdc_n (p : GHead) (s : GSigned) (hp : mHead p ≤ 1048576) (hs : mSigned s ≤ 1048576) (k) : call Qdc [.agg (eHead p), .agg (eSigned s)] k = k [.bool (sMay p s)] := call_of (fun k => by
  have e := Qdb_n p s hp hs
  simp only [Qdc, un, cur0, e, binP_eql, beqI, atP_zero, rt_eq, scs_sc, scs_nil, flat_bool, true_and, and_true, sMay]) k
def findX {α : Type} (p : Nat → α → Bool) : Nat → List α → Int
  | _, [] => -1
  | i, x :: l => if p i x = true then (i : Int) else findX p (i + 1) l
theorem exitL_findX {α : Type} (p : Nat → α → Bool) (Q : Int → Prop) : ∀ (i : Nat) (l : List α), exitL p (fun i _ => Q i) (Q (-1)) i l = Q (findX p i l)
  | _, [] => rfl
  | i, x :: l => by
    rw [exitL, exitL_findX p Q (i + 1) l, findX]
    split <;> rfl
theorem lp_findX {α : Type} {R : (List PV → Prop) → List PV → Prop} {v : List PV} {Q : Int → Prop} (l : List α) (V : Nat → List PV) (p : Nat → α → Bool) (hv : v = V 0)
    (h : ∀ i x, l[i]? = some x → i < l.length → ∀ K, R K (V i) ↔ if p i x = true then Q i else K (V (i + 1))) (hf : ∀ K, R K (V l.length) ↔ Q (-1)) : lp R v ↔ Q (findX p 0 l) := by
  have := lp_exit l V p (fun i _ => Q i) hv (fun i x hx => h i x hx (lt_of_get hx)) hf
  rwa [exitL_findX] at this
def wrongP (l : List GSigned) (i : Nat) (x : GSigned) : Bool := if i = 0 then !sIsFirst x else match l[i - 1]? with | some y => !sMay y.Head x | none => true
def sFW (l : List GSigned) : Int := findX (wrongP l) 0 l
theorem chain_le {l : List GSigned} (h : mSignedS l ≤ 1048576) : l.length ≤ 1048576 ∧ ∀ x ∈ l, mSigned x ≤ 1048576 := by
  unfold mSignedS at h
  refine ⟨by omega, fun x hx => ?_⟩
  have := sumN_mem (s := mSigned) hx
  omega
theorem Qhc_n (l : List GSigned) (h : mSignedS l ≤ 1048576) (k) : call Qhc [.one (.list 17 (l.map eSigned))] k = k [I (sFW l)] := call_of (fun k => by
  obtain ⟨hl, hx0⟩ := chain_le h
  simp only [Qhc, lenP_eq, List.length_map, rt_eq, scs_sc, scs_nil, flat_int, true_and]
  refine lp_findX (Q := fun i => k [I i]) l (fun i => [.list 17 (l.map eSigned), I 0, .list 17 (l.map eSigned), I l.length, I i]) (wrongP l) rfl (fun i x hx hi K => ?_) fun K => ?_
  · have hm := hx0 x (mem_get hx)
    by_cases h0 : i = 0
    · subst h0
      have e := Qgr_n x hm
      simp [-getElem?_pos, Qhc_r0, hx, hi, e, wrongP, wr_eq]
    · obtain ⟨y, hy⟩ : ∃ y, l[i - 1]? = some y := ⟨l[i - 1], List.getElem?_eq_getElem (by omega)⟩
      have e := Qhb_n y.Head x (signed_le (hx0 y (mem_get hy))).1 hm
      simp [-getElem?_pos, Qhc_r0, hx, hi, hy, h0, e, wrongP, show ¬ (i : Int) = 0 by omega, show 0 < i by omega, wr_pred (show 0 < i by omega) (show i < 1000000000000000000 by omega), wr_succ (show i < 1000000000000000000 by omega)]
  · simp [Qhc_r0]) k
theorem Qdd_n (l : List GSigned) (h : mSignedS l ≤ 1048576) (k) : call Qdd [.one (.list 17 (l.map eSigned))] k = k [I (sFW l)] := call_of (fun k => by
  obtain ⟨hl, hx0⟩ := chain_le h
  simp only [Qdd, lenP_eq, List.length_map, rt_eq, scs_sc, scs_nil, flat_int, true_and]
  refine lp_findX (Q := fun i => k [I i]) l (fun i => [.list 17 (l.map eSigned), I 0, I i]) (wrongP l) rfl (fun i x hx hi K => ?_) fun K => ?_
  · have hm := hx0 x (mem_get hx)
    by_cases h0 : i = 0
    · subst h0
      have e := Qct_n x hm
      simp [-getElem?_pos, Qdd_r0, hx, hi, e, wrongP, wr_eq]
    · obtain ⟨y, hy⟩ : ∃ y, l[i - 1]? = some y := ⟨l[i - 1], List.getElem?_eq_getElem (by omega)⟩
      have e := Qdc_n y.Head x (signed_le (hx0 y (mem_get hy))).1 hm
      simp [-getElem?_pos, Qdd_r0, hx, hi, hy, h0, e, wrongP, show ¬ (i : Int) = 0 by omega, show 0 < i by omega, wr_pred (show 0 < i by omega) (show i < 1000000000000000000 by omega), wr_succ (show i < 1000000000000000000 by omega)]
  · simp [Qdd_r0]) k
def sIsChain (l : List GSigned) : Bool := inR l.length 1 12 && decide (sFW l < 0)
theorem Qhd_n (l : List GSigned) (h : mSignedS l ≤ 1048576) (k) : call Qhd [.one (.list 17 (l.map eSigned))] k = k [.bool (sIsChain l)] := call_of (fun k => by
  have e := Qhc_n l h
  simp only [Qhd, lenP_eq, List.length_map, Qfj_n, e, binP_lss, atP_zero, iteP_eq, rt_eq, scs_sc, scs_nil, flat_bool, true_and, and_true]
  exact stepB fun _ => Iff.rfl) k
theorem Qde_n (l : List GSigned) (h : mSignedS l ≤ 1048576) (k) : call Qde [.one (.list 17 (l.map eSigned))] k = k [.bool (sIsChain l)] := call_of (fun k => by
  have e := Qdd_n l h
  simp only [Qde, lenP_eq, List.length_map, Qcf_n, e, binP_lss, atP_zero, iteP_eq, rt_eq, scs_sc, scs_nil, flat_bool, true_and, and_true]
  exact stepB fun _ => Iff.rfl) k
theorem chain_has {l : List GSigned} (h : sIsChain l = true) : ∃ p, l[l.length - 1]? = some p ∧ 0 < l.length := by
  unfold sIsChain inR at h
  simp only [Bool.and_eq_true, decide_eq_true_eq] at h
  exact ⟨l[l.length - 1], List.getElem?_eq_getElem (by omega), by omega⟩
def zHead : GHead := ⟨0, 0, 0, 0, 0, 0, 0, 0, ⟨[], 0⟩, ⟨[], 0⟩, 0, ⟨[], 0⟩, false⟩
def sLast (l : List GSigned) : Option GHead := if sIsChain l = true then (l[l.length - 1]?).map (·.Head) else none
def oHead : Option GHead → List PV
  | some h => eHead h ++ [.bool true]
  | none => eHead zHead ++ [.bool false]
theorem Qjd_n (a : GKeys) (h : mKeys a ≤ 1048576) (k) : call Qjd [.agg (eKeys a)] k = k (eKeys a) := call_of (fun k => by
  unfold mKeys at h
  have e : ∀ k, call Qjc [.one (ints a.Lst)] k = k [ints a.Lst] := call_of (fun k => by
    simp [Qjc, nilP, flatRows_ints, catP, show a.Lst.length < 1073741824 by omega]
    intro h1 h2; simpa [h2] using h1)
  simp [Qjd, e]) k
theorem Qje_n (a : GHead) (h : mHead a ≤ 1048576) (k) : call Qje [.agg (eHead a)] k = k (eHead a) := call_of (fun k => by
  obtain ⟨h1, h2, h3⟩ := keys_le h
  simp [Qje, Qjd_n a.Keys h1, Qjd_n a.Heirs h2, Qjd_n a.Judge h3]) k
theorem Qjf_n (l : List GSigned) (h : mSignedS l ≤ 1048576) (k) : call Qjf [.one (.list 17 (l.map eSigned))] k = k (oHead (sLast l)) := call_of (fun k => by
  obtain ⟨hl, hx0⟩ := chain_le h
  have e := Qhd_n l h
  unfold sLast
  cases hc : sIsChain l with
  | false => simp [Qjf, e, hc, oHead, zHead, ints]
  | true =>
    obtain ⟨p, hp, h0⟩ := chain_has hc
    have e2 := Qhe_n l p hl hp
    have e3 := Qje_n p.Head (signed_le (hx0 p (mem_get hp))).1
    simp [-getElem?_pos, Qjf, e, hc, e2, e3, oHead, hp]) k
theorem Qdh_n (l : List GSigned) (h : mSignedS l ≤ 1048576) (k) : call Qdh [.one (.list 17 (l.map eSigned))] k = k (oHead (sLast l)) := call_of (fun k => by
  obtain ⟨hl, hx0⟩ := chain_le h
  have e := Qde_n l h
  unfold sLast
  cases hc : sIsChain l with
  | false => simp [Qdh, e, hc, oHead, zHead, ints]
  | true =>
    obtain ⟨p, hp, h0⟩ := chain_has hc
    have e3 := Qdg_n p.Head (signed_le (hx0 p (mem_get hp))).1
    simp [-getElem?_pos, Qdh, e, hc, e3, oHead, hp, wr_pred h0 (show l.length < 1000000000000000000 by omega)]) k
theorem last_le {l : List GSigned} {p : GHead} (h : mSignedS l ≤ 1048576) (hp : sLast l = some p) : mHead p ≤ 1048576 := by
  unfold sLast at hp
  split at hp
  · obtain ⟨s, hs, rfl⟩ := Option.map_eq_some_iff.1 hp
    exact (signed_le ((chain_le h).2 s (mem_get hs))).1
  · cases hp
def stepDig (s : GStored) : Int := match sLast s.Answer.Chain with | some p => sDigest p | none => 0
def stepInts (s : GStored) : List Int := s.Zone :: (sLabelInts s.Label ++ [stepDig s])
theorem stepInts_len : ∀ (l : List GStored), (l.flatMap stepInts).length ≤ 3 * l.length + sumN mStored l
  | [] => by simp
  | s :: l => by
    have := stepInts_len l
    have h2 : (stepInts s).length = s.Label.size + 3 := by simp [stepInts, sLabelInts_len]
    have h3 : s.Label.size ≤ mStored s := by unfold mStored; omega
    simp only [List.flatMap_cons, List.length_append, List.length_cons, h2, sumN]
    omega
theorem flat_take {l : List GStored} {i : Nat} {x : GStored} (hx : l[i]? = some x) : (l.take (i + 1)).flatMap stepInts = (l.take i).flatMap stepInts ++ (x.Zone :: (sLabelInts x.Label ++ [stepDig x])) := by
  rw [take_snoc hx, List.flatMap_append]; simp [stepInts]
theorem take_len {l : List GStored} (h : l.length + sumN mStored l ≤ 1048576) (i : Nat) : ((l.take i).flatMap stepInts).length ≤ 4194304 := by
  have h1 := stepInts_len (l.take i)
  have h2 := sumN_take_le mStored l i
  have h3 : (l.take i).length ≤ l.length := by simp; omega
  omega
theorem stored_le {l : List GStored} (h : l.length + sumN mStored l ≤ 1048576) {x : GStored} (hx : x ∈ l) : mSignedS x.Answer.Chain ≤ 1048576 ∧ x.Label.size ≤ 1048576 := by
  have h1 := sumN_mem (s := mStored) hx
  have e : mStored x = x.Label.size + (mSignedS x.Answer.Chain + (mEntry x.Answer.Entry + (mProof x.Answer.Proof + mGap x.Answer.Gap))) := rfl
  omega
def azB (x : UInt8) : Bool := (decide (97 ≤ (x.toNat : Int)) && decide ((x.toNat : Int) ≤ 122)) || (decide (48 ≤ (x.toNat : Int)) && decide ((x.toNat : Int) ≤ 57))
def dashB (x : UInt8) : Bool := decide ((x.toNat : Int) = 45)
def badL (n : Nat) (i : Nat) (x : UInt8) : Bool := !(azB x || (dashB x && (decide (0 < i) && decide (i + 1 < n))))
def sLabel (s : ByteArray) : Bool := !anyI (badL s.data.toList.length) 0 s.data.toList && inR s.size 1 8
theorem size_data (s : ByteArray) : s.size = s.data.toList.length := rfl
theorem Qhf_n (s : ByteArray) (h : s.size ≤ 1048576) (k) : call Qhf [.one (.str s)] k = k [.bool (sLabel s)] := call_of (fun k => by
  simp only [Qhf, lenS_eq, rt_eq, scs_sc, scs_nil, flat_bool, true_and, Qfj_n, atP_zero]
  refine (lp_anyI (P := k [.bool false]) (fin := k [.bool (inR s.size 1 8)]) s.data.toList (fun i => [.str s, .bool false, I s.size, I i]) (badL s.data.toList.length) rfl (fun i x hx hi K => ?_) fun K => ?_).trans ?_
  · have hw := wr_succ (show i < 1000000000000000000 by rw [size_data] at h; omega)
    have hl : IntKind.i64.wrap ((s.size : Int) - 1) = (s.size : Int) - 1 := wr_eq (by omega) (by omega)
    have hs := size_data s
    simp only [Qhf_r0, un, cur0, binP_lss, binP_leq, binP_geq, binP_gtr, binP_eql, binP_add, binP_sub, lenS_eq, charP_eq, Int.toNat_natCast, hx, oP, iteP_eq, unP_not, beqI, hw, hl, show decide ((i : Int) < s.size) = true by rw [hs]; simp; omega, if_true, show (0 : Int) ≤ i by omega, true_and]
    unfold badL azB dashB
    have d1 : decide ((i : Int) < (s.size : Int) - 1) = decide (i + 1 < s.data.toList.length) := by apply decide_eq_decide.2; rw [hs]; omega
    have d2 : decide ((0 : Int) < (i : Int)) = decide (0 < i) := by apply decide_eq_decide.2; omega
    rw [d1, d2]
    generalize decide (97 ≤ (x.toNat : Int)) = b1
    generalize decide ((x.toNat : Int) ≤ 122) = b2
    generalize decide (48 ≤ (x.toNat : Int)) = b3
    generalize decide ((x.toNat : Int) ≤ 57) = b4
    generalize decide ((x.toNat : Int) = 45) = b5
    generalize decide (0 < i) = b6
    generalize decide (i + 1 < s.data.toList.length) = b7
    cases b1 <;> cases b2 <;> cases b3 <;> cases b4 <;> cases b5 <;> cases b6 <;> cases b7 <;> simp
  · simp only [Qhf_r0, un, cur0, binP_lss, iteP_eq, show decide (((s.data.toList.length : Nat) : Int) < s.size) = false by rw [size_data]; simp, lenS_eq, Qfj_n, atP_zero]
    simp
  · unfold sLabel
    cases anyI (badL s.data.toList.length) 0 s.data.toList <;> simp) k
theorem label_eq (L : List UInt8) (x y : UInt8) (hx : L[0]? = some x) (hy : L[L.length - 1]? = some y) : anyI (badL L.length) 0 L = (dashB x || (dashB y || L.any fun b => !(azB b || dashB b))) := by
  rw [Bool.eq_iff_iff]
  constructor
  · intro h
    rcases hd : (dashB x || (dashB y || L.any fun b => !(azB b || dashB b))) with _ | _
    · exfalso
      simp only [Bool.or_eq_false_iff] at hd
      obtain ⟨d1, d2, d3⟩ := hd
      have hn : anyI (badL L.length) 0 L = false := by
        rw [anyI_false]
        intro j b hb
        have hj := lt_of_get hb
        have h3 := List.any_eq_false.1 d3 b (List.mem_of_getElem? hb)
        unfold badL
        by_cases ha : azB b = true
        · simp [ha]
        · have hdb : dashB b = true := by cases h : dashB b <;> simp [ha, h] at h3 ⊢
          have j0 : j ≠ 0 := by rintro rfl; rw [hx] at hb; injection hb with hb; subst hb; rw [d1] at hdb; cases hdb
          have j1 : j ≠ L.length - 1 := by rintro rfl; rw [hy] at hb; injection hb with hb; subst hb; rw [d2] at hdb; cases hdb
          simp [hdb, show 0 < j by omega, show j + 1 < L.length by omega]
      rw [hn] at h; cases h
    · rfl
  · intro h
    cases hn : anyI (badL L.length) 0 L with
    | true => rfl
    | false =>
      exfalso
      rw [anyI_false] at hn
      have hl := lt_of_get hy
      have az_dash : ∀ b, dashB b = true → azB b = false := by
        intro b hb
        unfold dashB at hb
        unfold azB
        simp only [decide_eq_true_eq] at hb
        simp [hb]
      simp only [Bool.or_eq_true] at h
      rcases h with h | h | h
      · have := hn 0 x hx
        simp [badL, h, az_dash x h] at this
      · have := hn _ y hy
        simp [badL, h, az_dash y h] at this
        omega
      · obtain ⟨b, hb, h2⟩ := List.any_eq_true.1 h
        obtain ⟨j, hj⟩ := List.mem_iff_getElem?.1 hb
        have := hn j b hj
        unfold badL at this
        simp only [Bool.not_eq_true', Bool.or_eq_false_iff] at h2
        simp [h2.1, h2.2] at this
theorem Qdi_n (s : ByteArray) (h : s.size ≤ 1048576) (k) : call Qdi [.one (.str s)] k = k [.bool (sLabel s)] := call_of (fun k => by
  have hs := size_data s
  unfold sLabel
  cases hr : inR s.size 1 8 with
  | false => simp [Qdi, Qcf_n, hr]
  | true =>
    have h1 : 1 ≤ s.size := by unfold inR at hr; simp at hr; omega
    obtain ⟨x, hx⟩ : ∃ x, s.data.toList[0]? = some x := ⟨s.data.toList[0]'(by omega), List.getElem?_eq_getElem (by omega)⟩
    obtain ⟨y, hy⟩ : ∃ y, s.data.toList[s.data.toList.length - 1]? = some y := ⟨_, List.getElem?_eq_getElem (by omega)⟩
    have hl : IntKind.i64.wrap ((s.size : Int) - 1) = ((s.size - 1 : Nat) : Int) := by rw [wr_eq (by omega) (by omega)]; omega
    have hy' : s.data.toList[s.size - 1]? = some y := hy
    rw [label_eq _ x y hx hy]
    simp only [Qdi, lenS_eq, Qcf_n, hr, unP_not, atP_zero, iteP_eq, binP_sub, hl, binP_eql, beqI, charP_eq, Int.toNat_natCast, show ((0 : Int)).toNat = 0 from rfl, hx, hy', oP, rt_eq, scs_sc, scs_nil, flat_bool, true_and, Bool.not_true, Bool.false_eq_true, if_false, show (0 : Int) ≤ 0 by omega, show (0 : Int) ≤ ((s.size - 1 : Nat) : Int) by omega]
    rw [show decide ((x.toNat : Int) = 45) = dashB x from rfl, show decide ((y.toNat : Int) = 45) = dashB y from rfl]
    have key : lp (fun L w => Qdi_r0 w L (k [PV.bool false]) fun q29 q30 q31 => k [PV.bool true]) [PV.str s, PV.bool false, I 0] ↔ k [.bool (!(s.data.toList.any fun b => !(azB b || dashB b)))] := by
      refine (lp_any (P := k [.bool false]) (fin := k [.bool true]) s.data.toList (fun i => [.str s, .bool false, I i]) (fun b => !(azB b || dashB b)) rfl (fun i x hx hi K => ?_) fun K => ?_).trans ?_
      · have hw := wr_succ (show i < 1000000000000000000 by omega)
        simp only [Qdi_r0, un, cur0, binP_lss, binP_leq, binP_geq, binP_gtr, binP_eql, binP_neq, binP_add, lenS_eq, charP_eq, Int.toNat_natCast, hx, oP, iteP_eq, unP_not, bne, beqI, hw, show decide ((i : Int) < s.size) = true by rw [hs]; simp; omega, if_true, show (0 : Int) ≤ i by omega, true_and]
        unfold azB dashB
        rw [show decide ((x.toNat : Int) < 97) = !decide (97 ≤ (x.toNat : Int)) by by_cases h : 97 ≤ (x.toNat : Int) <;> simp [h] <;> omega,
          show decide ((x.toNat : Int) < 48) = !decide (48 ≤ (x.toNat : Int)) by by_cases h : 48 ≤ (x.toNat : Int) <;> simp [h] <;> omega,
          show decide (122 < (x.toNat : Int)) = !decide ((x.toNat : Int) ≤ 122) by by_cases h : (x.toNat : Int) ≤ 122 <;> simp [h] <;> omega,
          show decide (57 < (x.toNat : Int)) = !decide ((x.toNat : Int) ≤ 57) by by_cases h : (x.toNat : Int) ≤ 57 <;> simp [h] <;> omega]
        generalize decide (97 ≤ (x.toNat : Int)) = b1
        generalize decide ((x.toNat : Int) ≤ 122) = b2
        generalize decide (48 ≤ (x.toNat : Int)) = b3
        generalize decide ((x.toNat : Int) ≤ 57) = b4
        generalize decide ((x.toNat : Int) = 45) = b5
        cases b1 <;> cases b2 <;> cases b3 <;> cases b4 <;> cases b5 <;> simp
      · simp only [Qdi_r0, un, cur0, binP_lss, lenS_eq, iteP_eq, show decide (((s.data.toList.length : Nat) : Int) < s.size) = false by rw [size_data]; simp]
        simp
      · cases (s.data.toList.any fun b => !(azB b || dashB b)) <;> simp
    rw [propext key]
    cases dashB x <;> cases dashB y <;> simp) k
def sIsPath (p : List ByteArray) : Bool := inR p.length 1 4 && !(p.any fun s => !sLabel s)
theorem path_le {p : List ByteArray} (h : p.length + sumN ByteArray.size p ≤ 1048576) : p.length ≤ 1048576 ∧ ∀ s ∈ p, s.size ≤ 1048576 := by
  refine ⟨by omega, fun s hs => ?_⟩
  have := sumN_mem (s := ByteArray.size) hs
  omega
theorem Qhj_n (p : List ByteArray) (h : p.length + sumN ByteArray.size p ≤ 1048576) (k) : call Qhj [.one (strs p)] k = k [.bool (sIsPath p)] := call_of (fun k => by
  obtain ⟨hl, hs⟩ := path_le h
  have e : ∀ k, call Qhh [.one (strs p), .fn 298 []] k = k [I (idx (fun s => !sLabel s) p)] := call_of (fun k => by
    simp [Qhh]
    refine lp_find (Q := fun i => k [I i]) p (fun i => [strs p, I 0, I p.length, I i]) (fun s => !sLabel s) rfl (fun i x hx hi K => ?_) fun K => ?_
    · have e1 : ∀ k, call Qhg [.one (.str x)] k = k [.bool (!sLabel x)] := call_of (fun k => by simp [Qhg, Qhf_n x (hs x (mem_get hx))])
      simp [-getElem?_pos, Qhh_r0, hx, hi, e1, wr_succ (show i < 1000000000000000000 by omega)]
    · simp [Qhh_r0])
  have e2 : ∀ k, call Qhi [.one (strs p), .fn 298 []] k = k [.bool (p.any fun s => !sLabel s)] := call_of (fun k => by simp [Qhi, e, idx_any])
  simp only [Qhj, lenP_eq, List.length_map, Qfj_n, e2, unP_not, atP_zero, iteP_eq, rt_eq, scs_sc, scs_nil, flat_bool, true_and]
  exact stepB fun _ => Iff.rfl) k
theorem Qdj_n (p : List ByteArray) (h : p.length + sumN ByteArray.size p ≤ 1048576) (k) : call Qdj [.one (strs p)] k = k [.bool (sIsPath p)] := call_of (fun k => by
  obtain ⟨hl, hs⟩ := path_le h
  simp only [Qdj, rt_eq, scs_sc, scs_nil, flat_bool, true_and, lenP_eq, List.length_map, Qcf_n, atP_zero]
  refine (lp_any (P := k [.bool false]) (fin := k [.bool (inR p.length 1 4)]) p (fun i => [strs p, .bool false, I i]) (fun s => !sLabel s) rfl (fun i x hx hi K => ?_) fun K => ?_).trans ?_
  · have e := Qdi_n x (hs x (mem_get hx))
    simp [-getElem?_pos, Qdj_r0, hx, hi, e, wr_succ (show i < 1000000000000000000 by omega)]
  · simp [Qdj_r0, Qcf_n]
  · unfold sIsPath
    cases (p.any fun s => !sLabel s) <;> simp) k
def sIsEntry (e : GEntry) : Bool := sLabel e.Label && (if decide (e.Kind = 1) = true then inR e.Value 0 999999 && decide (e.Path.length = 0) else if decide (e.Kind = 2) = true then inR e.Value 0 2147483646 && decide (e.Path.length = 0) else if decide (e.Kind = 3) = true then inR e.Value 0 2147483646 && sIsPath e.Path else false)
theorem entry_le {e : GEntry} (h : mEntry e ≤ 1048576) : e.Label.size ≤ 1048576 ∧ e.Path.length + sumN ByteArray.size e.Path ≤ 1048576 := by unfold mEntry at h; omega
theorem len0 (n : Nat) : ((n : Int) == 0) = decide (n = 0) := by rw [beqI]; apply decide_eq_decide.2; omega
theorem Qft_n (x : Int) (k) : call Qft [.one (I x)] k = k [.bool (inR x 0 2147483646)] := call_of (fun k => by simp [Qft, Qfj_n]) k
theorem Qhk_n (e : GEntry) (h : mEntry e ≤ 1048576) (k) : call Qhk [.agg (eEntry e)] k = k [.bool (sIsEntry e)] := call_of (fun k => by
  obtain ⟨h1, h2⟩ := entry_le h
  have e1 := Qhf_n e.Label h1
  have e2 := Qhj_n e.Path h2
  simp only [Qhk, un, cur0, e1, e2, Qfj_n, Qft_n, lenP_eq, List.length_map, binP_eql, len0, beqI, unP_not, atP_zero, iteP_eq, rt_eq, scs_sc, scs_nil, flat_bool, true_and, sIsEntry]
  refine stepN fun _ => ?_
  cases decide (e.Kind = 1) <;> cases decide (e.Kind = 2) <;> cases decide (e.Kind = 3) <;> cases inR e.Value 0 999999 <;> cases inR e.Value 0 2147483646 <;> simp) k
theorem Qdk_n (e : GEntry) (h : mEntry e ≤ 1048576) (k) : call Qdk [.agg (eEntry e)] k = k [.bool (sIsEntry e)] := call_of (fun k => by
  obtain ⟨h1, h2⟩ := entry_le h
  have e1 := Qdi_n e.Label h1
  have e2 := Qdj_n e.Path h2
  simp only [Qdk, un, cur0, e1, e2, Qcf_n, lenP_eq, List.length_map, binP_eql, len0, beqI, unP_not, atP_zero, iteP_eq, rt_eq, scs_sc, scs_nil, flat_bool, true_and, sIsEntry]
  cases sLabel e.Label <;> cases decide (e.Kind = 1) <;> cases decide (e.Kind = 2) <;> cases decide (e.Kind = 3) <;> cases inR e.Value 0 999999 <;> cases inR e.Value 0 2147483646 <;> simp) k
theorem cmp_neg : ∀ (a b : List UInt8), Go.Lib.compareBytes b a = -Go.Lib.compareBytes a b
  | [], [] => rfl
  | [], _ :: _ => rfl
  | _ :: _, [] => rfl
  | x :: a, y :: b => by
    have ih := cmp_neg a b
    unfold Go.Lib.compareBytes
    by_cases h1 : x < y
    · have : ¬ y < x := by intro h; exact absurd (UInt8.lt_trans h1 h) (UInt8.lt_irrefl x)
      simp [h1, this]
    · by_cases h2 : y < x
      · simp [h1, h2]
      · simp [h1, h2, ih]
theorem cmp_range : ∀ (a b : List UInt8), Go.Lib.compareBytes a b = -1 ∨ Go.Lib.compareBytes a b = 0 ∨ Go.Lib.compareBytes a b = 1
  | [], [] => .inr (.inl rfl)
  | [], _ :: _ => .inl rfl
  | _ :: _, [] => .inr (.inr rfl)
  | x :: a, y :: b => by
    unfold Go.Lib.compareBytes
    split
    · exact .inl rfl
    · split
      · exact .inr (.inr rfl)
      · exact cmp_range a b
theorem cmp_less : ∀ (a b : List UInt8), Op.bytesLess a b = decide (Go.Lib.compareBytes a b = -1)
  | [], [] => by simp [Op.bytesLess, Go.Lib.compareBytes]
  | [], _ :: _ => by simp [Op.bytesLess, Go.Lib.compareBytes]
  | _ :: _, [] => by simp [Op.bytesLess, Go.Lib.compareBytes]
  | x :: a, y :: b => by
    have ih := cmp_less a b
    unfold Op.bytesLess Go.Lib.compareBytes
    by_cases h1 : x < y
    · simp [h1]
    · by_cases h2 : y < x
      · have : ¬ x = y := by rintro rfl; exact UInt8.lt_irrefl _ h2
        simp [h1, h2, this]
      · have : x = y := by
          apply UInt8.toNat_inj.1
          rw [UInt8.lt_iff_toNat_lt] at h1 h2
          omega
        simp [h1, h2, this, ih]
theorem cmp_eq0 : ∀ (a b : List UInt8), (a == b) = decide (Go.Lib.compareBytes a b = 0)
  | [], [] => by simp [Go.Lib.compareBytes]
  | [], _ :: _ => by simp [Go.Lib.compareBytes]
  | _ :: _, [] => by simp [Go.Lib.compareBytes]
  | x :: a, y :: b => by
    have ih := cmp_eq0 a b
    unfold Go.Lib.compareBytes
    rw [List.cons_beq_cons]
    by_cases h1 : x < y
    · have : ¬ x = y := by rintro rfl; exact UInt8.lt_irrefl _ h1
      simp [h1, this]
    · by_cases h2 : y < x
      · have : ¬ x = y := by rintro rfl; exact UInt8.lt_irrefl _ h2
        simp [h1, h2, this]
      · have : x = y := by
          apply UInt8.toNat_inj.1
          rw [UInt8.lt_iff_toNat_lt] at h1 h2
          omega
        simp [h1, h2, this, ih]
def cmpS (s t : ByteArray) : Int := Go.Lib.compareBytes s.data.toList t.data.toList
theorem Qhn_n (s t : ByteArray) (k) : call Qhn [.one (.str s), .one (.str t)] k = k [I (cmpS s t)] := call_of (fun k => by
  have e : ∀ k, call Qmy [.one (.str s), .one (.str t)] k = k [I (cmpS s t)] := call_of (fun k => by simp [Qmy, cmpS])
  have e2 : ∀ k, call Qhm [.one (.str s), .one (.str t)] k = k [I (cmpS s t)] := call_of (fun k => by simp [Qhm, e])
  simp [Qhn, e2]) k
theorem Qdl_n (s t : ByteArray) (k) : call Qdl [.one (.str s), .one (.str t)] k = k [I (cmpS s t)] := call_of (fun k => by
  simp only [Qdl, binP, toList_data, cmp_less, cmp_eq0, iteP_eq, rt_eq, scs_sc, scs_nil, flat_int, true_and]
  unfold cmpS
  rcases cmp_range s.data.toList t.data.toList with h | h | h <;> simp [h]) k
def badE (l : List GEntry) (i : Nat) (x : GEntry) : Bool := !sIsEntry x || (decide (0 < i) && (match l[i - 1]? with | some y => decide (cmpS x.Label y.Label ≤ 0) | none => false))
def sAreEntries (l : List GEntry) : Bool := !anyI (badE l) 0 l && decide ((l.length : Int) ≤ 12)
theorem entries_le {l : List GEntry} (h : mEntryS l ≤ 1048576) : l.length ≤ 1048576 ∧ ∀ x ∈ l, mEntry x ≤ 1048576 := by
  unfold mEntryS at h
  refine ⟨by omega, fun x hx => ?_⟩
  have := sumN_mem (s := mEntry) hx
  omega
theorem Qho_n (l : List GEntry) (h : mEntryS l ≤ 1048576) (k) : call Qho [.one (.list 4 (l.map eEntry))] k = k [.bool (sAreEntries l)] := call_of (fun k => by
  obtain ⟨hl, hx0⟩ := entries_le h
  simp only [Qho, lenP_eq, List.length_map, rt_eq, scs_sc, scs_nil, flat_bool, true_and, binP_leq]
  refine (lp_anyI (P := k [.bool false]) (fin := k [.bool (decide ((l.length : Int) ≤ 12))]) l (fun i => [.list 4 (l.map eEntry), .bool false, .list 4 (l.map eEntry), I l.length, I i]) (badE l) rfl (fun i x hx hi K => ?_) fun K => ?_).trans ?_
  · have e := Qhk_n x (hx0 x (mem_get hx))
    by_cases h0 : i = 0
    · subst h0
      simp [-getElem?_pos, Qho_r0, hx, hi, e, badE, wr_eq]
    · obtain ⟨y, hy⟩ : ∃ y, l[i - 1]? = some y := ⟨l[i - 1], List.getElem?_eq_getElem (by omega)⟩
      have c := cmp_neg x.Label.data.toList y.Label.data.toList
      have r := cmp_range x.Label.data.toList y.Label.data.toList
      have e2 := Qhn_n x.Label y.Label
      simp [-getElem?_pos, Qho_r0, hx, hi, hy, h0, e, e2, badE, show 0 < i by omega, wr_pred (show 0 < i by omega) (show i < 1000000000000000000 by omega), wr_succ (show i < 1000000000000000000 by omega)]
      cases sIsEntry x <;> by_cases h2 : cmpS x.Label y.Label ≤ 0 <;> simp [h2]
  · simp [Qho_r0]
  · unfold sAreEntries
    cases anyI (badE l) 0 l <;> simp) k
theorem Qdm_n (l : List GEntry) (h : mEntryS l ≤ 1048576) (k) : call Qdm [.one (.list 4 (l.map eEntry))] k = k [.bool (sAreEntries l)] := call_of (fun k => by
  obtain ⟨hl, hx0⟩ := entries_le h
  simp only [Qdm, lenP_eq, List.length_map, rt_eq, scs_sc, scs_nil, flat_bool, true_and, binP_leq]
  refine (lp_anyI (P := k [.bool false]) (fin := k [.bool (decide ((l.length : Int) ≤ 12))]) l (fun i => [.list 4 (l.map eEntry), .bool false, I i]) (badE l) rfl (fun i x hx hi K => ?_) fun K => ?_).trans ?_
  · have e := Qdk_n x (hx0 x (mem_get hx))
    by_cases h0 : i = 0
    · subst h0
      simp [-getElem?_pos, Qdm_r0, hx, hi, e, badE, wr_eq]
    · obtain ⟨y, hy⟩ : ∃ y, l[i - 1]? = some y := ⟨l[i - 1], List.getElem?_eq_getElem (by omega)⟩
      have c := cmp_neg x.Label.data.toList y.Label.data.toList
      have r := cmp_range x.Label.data.toList y.Label.data.toList
      have e2 := Qdl_n y.Label x.Label
      simp [-getElem?_pos, Qdm_r0, hx, hi, hy, h0, e, e2, badE, show 0 < i by omega, wr_pred (show 0 < i by omega) (show i < 1000000000000000000 by omega), wr_succ (show i < 1000000000000000000 by omega)]
      have c2 : cmpS y.Label x.Label = -cmpS x.Label y.Label := c
      have r2 : cmpS x.Label y.Label = -1 ∨ cmpS x.Label y.Label = 0 ∨ cmpS x.Label y.Label = 1 := r
      rw [c2]
      cases sIsEntry x <;> rcases r2 with r2 | r2 | r2 <;> simp [r2]
  · simp [Qdm_r0]
  · unfold sAreEntries
    cases anyI (badE l) 0 l <;> simp) k
def pathInts (p : List ByteArray) : List Int := p.flatMap sLabelInts
def entryInts (e : GEntry) : List Int := sLabelInts e.Label ++ ([e.Kind, e.Value, (e.Path.length : Int)] ++ pathInts e.Path)
theorem pathInts_len : ∀ (p : List ByteArray), (pathInts p).length = p.length + sumN ByteArray.size p
  | [] => rfl
  | s :: p => by
    have := pathInts_len p
    unfold pathInts at this ⊢
    simp only [List.flatMap_cons, List.length_append, List.length_cons, sLabelInts_len, sumN, this]
    omega
theorem entryInts_len (e : GEntry) : (entryInts e).length = mEntry e + 4 := by
  simp only [entryInts, List.length_append, sLabelInts_len, pathInts_len, List.length_cons, List.length_nil, mEntry]
  omega
theorem Qhr_n (e : GEntry) (h : mEntry e ≤ 1048576) (k) : call Qhr [.agg (eEntry e)] k = k [ints (entryInts e)] := call_of (fun k => by
  obtain ⟨h1, h2⟩ := entry_le h
  obtain ⟨hl, hs⟩ := path_le h2
  have e1 := Qhq_n e.Label (show e.Label.size < 1000000000 by omega)
  have e2 := sLabelInts_len e.Label
  simp only [Qhr, un, cur0, e1, lenP_eq, List.length_map, atP_zero, fc_int, true_and, show (3 : Nat) ≤ 16777216 by omega, ints, catP, e2, List.length_cons, List.length_nil, show e.Label.size + 1 + (0 + 1 + 1 + 1) < 1073741824 by omega, rt_eq, scs_own, scs_nil]
  refine lp_list e.Path (fun i => [strs e.Path, I e.Path.length, I i, .list 1 [], ints (sLabelInts e.Label ++ ([e.Kind, e.Value, (e.Path.length : Int)] ++ pathInts (e.Path.take i)))]) (by simp [ints, pathInts]) (fun i x hx hi K => ?_) fun K => ?_
  · have e3 := Qhq_n x (show x.size < 1000000000 by have := hs x (mem_get hx); omega)
    have e4 : pathInts (e.Path.take (i + 1)) = pathInts (e.Path.take i) ++ sLabelInts x := by
      unfold pathInts; rw [take_snoc hx, List.flatMap_append]; simp
    have e5 : (pathInts (e.Path.take i)).length ≤ 2097152 := by
      rw [pathInts_len]
      have := sumN_take_le ByteArray.size e.Path i
      have : (e.Path.take i).length ≤ e.Path.length := by simp; omega
      omega
    have e6 := sLabelInts_len x
    have e7 := hs x (mem_get hx)
    rw [e4]
    generalize pathInts (e.Path.take i) = A at e5
    simp [-getElem?_pos, Qhr_r0, hx, hi, e3, ints, catP, e2, e6, wr_succ (show i < 1000000000000000000 by omega)]
    try (intros; omega)
  · simp [Qhr_r0, entryInts, ints]) k
theorem Qhs_n (e : GEntry) (h : mEntry e ≤ 1048576) (k) : call Qhs [.agg (eEntry e)] k = k [I (sHash (227 :: entryInts e))] := call_of (fun k => by
  have hl := entryInts_len e
  have e1 := Qhr_n e h
  have e2 := Qgc_n (227 :: entryInts e) (by simp; omega)
  have e3 : PV.list 1 ([I 227] :: (entryInts e).map rI) = ints (227 :: entryInts e) := by simp [ints]
  simp [Qhs, fc_int, e1, catP, show 1 + (entryInts e).length < 1073741824 by omega]
  rw [e3, e2]
  simp
  try (intros; omega)) k
theorem Qdp_n (e : GEntry) (h : mEntry e ≤ 1048576) (k) : call Qdp [.agg (eEntry e)] k = k [ints (entryInts e)] := call_of (fun k => by
  obtain ⟨h1, h2⟩ := entry_le h
  obtain ⟨hl, hs⟩ := path_le h2
  have e1 := Qdo_n e.Label (show e.Label.size < 1000000000 by omega)
  have e2 := sLabelInts_len e.Label
  simp only [Qdp, un, cur0, e1, lenP_eq, List.length_map, atP_zero, fc_int, true_and, show (3 : Nat) ≤ 16777216 by omega, ints, catP, e2, List.length_cons, List.length_nil, show e.Label.size + 1 + (0 + 1 + 1 + 1) < 1073741824 by omega, rt_eq, scs_own, scs_nil]
  refine lp_list e.Path (fun i => [I i, .str e.Label, I e.Kind, I e.Value, strs e.Path, .list 1 [], ints (sLabelInts e.Label ++ ([e.Kind, e.Value, (e.Path.length : Int)] ++ pathInts (e.Path.take i)))]) (by simp [ints, pathInts]) (fun i x hx hi K => ?_) fun K => ?_
  · have e3 := Qdo_n x (show x.size < 1000000000 by have := hs x (mem_get hx); omega)
    have e4 : pathInts (e.Path.take (i + 1)) = pathInts (e.Path.take i) ++ sLabelInts x := by
      unfold pathInts; rw [take_snoc hx, List.flatMap_append]; simp
    have e5 : (pathInts (e.Path.take i)).length ≤ 2097152 := by
      rw [pathInts_len]
      have := sumN_take_le ByteArray.size e.Path i
      have : (e.Path.take i).length ≤ e.Path.length := by simp; omega
      omega
    have e6 := sLabelInts_len x
    have e7 := hs x (mem_get hx)
    rw [e4]
    generalize pathInts (e.Path.take i) = A at e5
    simp [-getElem?_pos, Qdp_r0, hx, hi, e3, ints, catP, e2, e6, wr_succ (show i < 1000000000000000000 by omega)]
    try (intros; omega)
  · simp [Qdp_r0, entryInts, ints]) k
theorem Qdq_n (e : GEntry) (h : mEntry e ≤ 1048576) (k) : call Qdq [.agg (eEntry e)] k = k [I (sHash (227 :: entryInts e))] := call_of (fun k => by
  have hl := entryInts_len e
  have e1 := Qdp_n e h
  have e2 := Qcl_n (227 :: entryInts e) (by simp; omega)
  have e3 : PV.list 1 ([I 227] :: (entryInts e).map rI) = ints (227 :: entryInts e) := by simp [ints]
  simp [Qdq, fc_int, e1, catP, show 1 + (entryInts e).length < 1073741824 by omega]
  rw [e3, e2]
  simp
  try (intros; omega)) k
def sLeaf (e : GEntry) : Int := sHash (227 :: entryInts e)
theorem Qht_n (l : List GEntry) (h : mEntryS l ≤ 1048576) (k) : call Qht [.one (.list 4 (l.map eEntry))] k = k [ints (l.map sLeaf)] := call_of (fun k => by
  obtain ⟨hl, hx0⟩ := entries_le h
  simp only [Qht, lenP_eq, List.length_map, rt_eq, scs_own, scs_nil, true_and, show (0 : Nat) ≤ 16777216 by omega]
  refine lp_list l (fun i => [.list 4 (l.map eEntry), I l.length, I i, .list 1 [], ints ((l.take i).map sLeaf)]) (by simp [ints]) (fun i x hx hi K => ?_) fun K => ?_
  · have e := Qhs_n x (hx0 x (mem_get hx))
    simp [-getElem?_pos, Qht_r0, hx, hi, e, fc_int, ints, catP, take_snoc hx, show i < 1073741823 by omega, show min i l.length < 1073741823 by omega, sLeaf, wr_succ (show i < 1000000000000000000 by omega)]
    try (intros; omega)
  · simp [Qht_r0]) k
theorem Qdr_n (l : List GEntry) (h : mEntryS l ≤ 1048576) (k) : call Qdr [.one (.list 4 (l.map eEntry))] k = k [ints (l.map sLeaf)] := call_of (fun k => by
  obtain ⟨hl, hx0⟩ := entries_le h
  simp only [Qdr, lenP_eq, List.length_map, rt_eq, scs_own, scs_nil, true_and, show (0 : Nat) ≤ 16777216 by omega]
  refine lp_list l (fun i => [.list 4 (l.map eEntry), I i, .list 1 [], ints ((l.take i).map sLeaf)]) (by simp [ints]) (fun i x hx hi K => ?_) fun K => ?_
  · have e := Qdq_n x (hx0 x (mem_get hx))
    simp [-getElem?_pos, Qdr_r0, hx, hi, e, fc_int, ints, catP, take_snoc hx, show i < 1073741823 by omega, show min i l.length < 1073741823 by omega, sLeaf, wr_succ (show i < 1000000000000000000 by omega)]
    try (intros; omega)
  · simp [Qdr_r0]) k
def sNode (a b : Int) : Int := sHash [229, a, b]
def sAbove : List Int → List Int
  | a :: b :: l => sNode a b :: sAbove l
  | [a] => [a]
  | [] => []
theorem sAbove_app : ∀ (n : Nat) (m r : List Int), m.length = 2 * n → sAbove (m ++ r) = sAbove m ++ sAbove r
  | 0, [], r, _ => rfl
  | 0, _ :: _, r, h => by simp at h
  | n + 1, [], r, h => by simp at h
  | n + 1, [a], r, h => by simp at h; omega
  | n + 1, a :: b :: m, r, h => by
    have := sAbove_app n m r (by simp at h; omega)
    simp [sAbove, this]
theorem sAbove_len : ∀ (l : List Int), (sAbove l).length ≤ l.length ∧ (2 ≤ l.length → (sAbove l).length < l.length) ∧ (1 ≤ l.length → 1 ≤ (sAbove l).length)
  | [] => by simp [sAbove]
  | [a] => by simp [sAbove]
  | a :: b :: l => by
    have := sAbove_len l
    simp only [sAbove, List.length_cons]
    omega
def sTopN : Nat → List Int → Int
  | 0, _ => 0
  | n + 1, l => if 1 < l.length then sTopN n (sAbove l) else l.headD 0
def sTop (l : List Int) : Int := if l.length = 0 then sHash [229] else sTopN (l.length + 1) l
def sRoot (l : List GEntry) : Int := sHash [231, (l.length : Int), sTop (l.map sLeaf)]
theorem Qhv_n (a b : Int) (k) : call Qhv [.one (I a), .one (I b)] k = k [I (sNode a b)] := call_of (fun k => by
  have eh : ∀ (l : List Int), l.length < 1000 → ∀ k, call Qhu [.one (ints l)] k = k [I (sHash l)] := fun l hl => call_of (fun k => by simp [Qhu, Qgc_n l (by omega)])
  have e := eh [229, a, b] (by simp)
  rw [show ints [229, a, b] = PV.list 1 [[I 229], [I a], [I b]] from rfl] at e
  simp [Qhv, fc_int, e, sNode]) k
theorem Qhw_n (l : List Int) (h : l.length ≤ 1048576) (k) : call Qhw [.one (ints l)] k = k [ints (sAbove l)] := call_of (fun k => by
  simp only [Qhw, rt_eq, scs_own, scs_nil, true_and, show (0 : Nat) ≤ 16777216 by omega]
  refine lp_nat ((l.length + 1) / 2) (fun j => [ints l, I ((2 * j : Nat) : Int), .list 1 [], ints (sAbove (l.take (2 * j)))]) (by simp [ints, sAbove]) (fun j hj K => ?_) fun K => ?_
  · have hlt : 2 * j < l.length := by omega
    obtain ⟨x, hx⟩ : ∃ x, l[2 * j]? = some x := ⟨l[2 * j], List.getElem?_eq_getElem hlt⟩
    have t1 : l.take (2 * j + 1) = l.take (2 * j) ++ [x] := take_snoc hx
    have hll : (l.take (2 * j)).length = 2 * j := by simp; omega
    have hA : (sAbove (l.take (2 * j))).length ≤ 1048576 := by have := (sAbove_len (l.take (2 * j))).1; omega
    have w1 : IntKind.i64.wrap (((2 * j : Nat) : Int) + 1) = ((2 * j + 1 : Nat) : Int) := by rw [wr_eq (by omega) (by omega)]; omega
    have w2 : IntKind.i64.wrap (((2 * j : Nat) : Int) + 2) = ((2 * (j + 1) : Nat) : Int) := by rw [wr_eq (by omega) (by omega)]; omega
    by_cases h2 : 2 * j + 1 < l.length
    · obtain ⟨y, hy⟩ : ∃ y, l[2 * j + 1]? = some y := ⟨l[2 * j + 1], List.getElem?_eq_getElem h2⟩
      have t2 : l.take (2 * (j + 1)) = l.take (2 * j) ++ [x, y] := by
        rw [show 2 * (j + 1) = 2 * j + 1 + 1 by omega, take_snoc hy, t1]; simp
      rw [t2, sAbove_app j _ _ hll]
      generalize sAbove (l.take (2 * j)) = A at hA
      simp only [Qhw_r0, un, cur0, binP_lss, binP_add, lenP_eq, ints, List.length_map, iteP_eq, w1, w2, show decide (((2 * j : Nat) : Int) < (l.length : Int)) = true by simp; omega, show decide (((2 * j + 1 : Nat) : Int) < (l.length : Int)) = true by simp; omega, if_true, elemP, Int.toNat_natCast, List.getElem?_map, hx, hy, Option.map_some, show (0 : Int) ≤ ((2 * j : Nat) : Int) by omega, show (0 : Int) ≤ ((2 * j + 1 : Nat) : Int) by omega, true_and, atP_zero, Qhv_n, fc_int, catP, List.length_cons, List.length_nil, show A.length + (0 + 1) < 1073741824 by omega]
      simp [sAbove]
    · have t2 : l.take (2 * (j + 1)) = l.take (2 * j) ++ [x] := by
        rw [← t1, List.take_of_length_le (by omega), List.take_of_length_le (by omega)]
      rw [t2, sAbove_app j _ _ hll]
      generalize sAbove (l.take (2 * j)) = A at hA
      simp only [Qhw_r0, un, cur0, binP_lss, binP_add, lenP_eq, ints, List.length_map, iteP_eq, w1, w2, show decide (((2 * j : Nat) : Int) < (l.length : Int)) = true by simp; omega, show decide (((2 * j + 1 : Nat) : Int) < (l.length : Int)) = false by simp; omega, if_true, Bool.false_eq_true, if_false, elemP, Int.toNat_natCast, List.getElem?_map, hx, Option.map_some, show (0 : Int) ≤ ((2 * j : Nat) : Int) by omega, true_and, atP_zero, fc_int, catP, List.length_cons, List.length_nil, show A.length + (0 + 1) < 1073741824 by omega]
      simp [sAbove]
  · have : l.take (2 * ((l.length + 1) / 2)) = l := List.take_of_length_le (by omega)
    rw [this]
    simp only [Qhw_r0, un, cur0, binP_lss, lenP_eq, ints, List.length_map, iteP_eq, show decide (((2 * ((l.length + 1) / 2) : Nat) : Int) < (l.length : Int)) = false by simp; omega]
    simp) k
theorem Qhx_lp (k : List PV → Prop) : ∀ (n : Nat) (l : List Int), l.length < n → 1 ≤ l.length → l.length ≤ 1048576 → (lp (fun L w => Qhx_r0 w L (fun q3 q4 => elemP 1 q3 (I 0) fun c5 => rt [.sc] [atP c5 0] k)) [ints l, I 0] ↔ k [I (sTopN n l)])
  | 0, l, h, _, _ => by omega
  | n + 1, l, h, h1, h2 => by
    unfold sTopN
    by_cases hl : 1 < l.length
    · have ha := sAbove_len l
      have ih := Qhx_lp k n (sAbove l) (by omega) (by omega) (by omega)
      rw [if_pos hl]
      refine (lp_step fun K => ?_).trans ih
      have e := Qhw_n l h2
      simp [Qhx_r0, show (1 : Int) < l.length by omega, e]
    · rw [if_neg hl]
      refine itP_mono_end fun K => ?_
      match l, h1, hl with
      | [a], _, _ => simp [Qhx_r0, ints, elemP]
      | _ :: _ :: _, _, hl => simp at hl
theorem Qhx_n (l : List Int) (h : l.length ≤ 1048576) (k) : call Qhx [.one (ints l)] k = k [I (sTop l)] := call_of (fun k => by
  have eh : ∀ (l : List Int), l.length < 1000 → ∀ k, call Qhu [.one (ints l)] k = k [I (sHash l)] := fun l hl => call_of (fun k => by simp [Qhu, Qgc_n l (by omega)])
  unfold sTop
  by_cases h0 : l.length = 0
  · have : l = [] := List.eq_nil_of_length_eq_zero h0
    subst this
    have e := eh [229] (by simp)
    rw [show ints [229] = PV.list 1 [[I 229]] from rfl] at e
    simp [Qhx, fc_int, e]
  · rw [if_neg h0]
    have e := Qhx_lp k (l.length + 1) l (by omega) (by omega) h
    rw [← e]
    simp [Qhx, show ¬ (l.length : Int) = 0 by omega, show ¬ l = [] by (rintro rfl; simp at h0)]) k
theorem Qhy_n (a b : Int) (k) : call Qhy [.one (I a), .one (I b)] k = k [I (sHash [231, a, b])] := call_of (fun k => by
  have eh : ∀ (l : List Int), l.length < 1000 → ∀ k, call Qhu [.one (ints l)] k = k [I (sHash l)] := fun l hl => call_of (fun k => by simp [Qhu, Qgc_n l (by omega)])
  have e := eh [231, a, b] (by simp)
  rw [show ints [231, a, b] = PV.list 1 [[I 231], [I a], [I b]] from rfl] at e
  simp [Qhy, fc_int, e]) k
theorem Qhz_n (l : List GEntry) (h : mEntryS l ≤ 1048576) (k) : call Qhz [.one (.list 4 (l.map eEntry))] k = k [I (sRoot l)] := call_of (fun k => by
  have hl := (entries_le h).1
  have e1 := Qht_n l h
  have e2 := Qhx_n (l.map sLeaf) (by simpa using hl)
  simp [Qhz, e1, e2, Qhy_n, sRoot]) k
theorem Qds_n (a b : Int) (k) : call Qds [.one (I a), .one (I b)] k = k [I (sNode a b)] := call_of (fun k => by
  have eh : ∀ (l : List Int), l.length < 1000 → ∀ k, call Qcl [.one (ints l)] k = k [I (sHash l)] := fun l hl => Qcl_n l (by omega)
  have e := eh [229, a, b] (by simp)
  rw [show ints [229, a, b] = PV.list 1 [[I 229], [I a], [I b]] from rfl] at e
  simp [Qds, fc_int, e, sNode]) k
theorem Qdt_n (l : List Int) (h : l.length ≤ 1048576) (k) : call Qdt [.one (ints l)] k = k [ints (sAbove l)] := call_of (fun k => by
  simp only [Qdt, rt_eq, scs_own, scs_nil, true_and, show (0 : Nat) ≤ 16777216 by omega]
  refine lp_nat ((l.length + 1) / 2) (fun j => [ints l, I ((2 * j : Nat) : Int), .list 1 [], ints (sAbove (l.take (2 * j)))]) (by simp [ints, sAbove]) (fun j hj K => ?_) fun K => ?_
  · have hlt : 2 * j < l.length := by omega
    obtain ⟨x, hx⟩ : ∃ x, l[2 * j]? = some x := ⟨l[2 * j], List.getElem?_eq_getElem hlt⟩
    have t1 : l.take (2 * j + 1) = l.take (2 * j) ++ [x] := take_snoc hx
    have hll : (l.take (2 * j)).length = 2 * j := by simp; omega
    have hA : (sAbove (l.take (2 * j))).length ≤ 1048576 := by have := (sAbove_len (l.take (2 * j))).1; omega
    have w1 : IntKind.i64.wrap (((2 * j : Nat) : Int) + 1) = ((2 * j + 1 : Nat) : Int) := by rw [wr_eq (by omega) (by omega)]; omega
    have w2 : IntKind.i64.wrap (((2 * j : Nat) : Int) + 2) = ((2 * (j + 1) : Nat) : Int) := by rw [wr_eq (by omega) (by omega)]; omega
    by_cases h2 : 2 * j + 1 < l.length
    · obtain ⟨y, hy⟩ : ∃ y, l[2 * j + 1]? = some y := ⟨l[2 * j + 1], List.getElem?_eq_getElem h2⟩
      have t2 : l.take (2 * (j + 1)) = l.take (2 * j) ++ [x, y] := by
        rw [show 2 * (j + 1) = 2 * j + 1 + 1 by omega, take_snoc hy, t1]; simp
      rw [t2, sAbove_app j _ _ hll]
      generalize sAbove (l.take (2 * j)) = A at hA
      simp only [Qdt_r0, un, cur0, binP_lss, binP_add, lenP_eq, ints, List.length_map, iteP_eq, w1, w2, show decide (((2 * j : Nat) : Int) < (l.length : Int)) = true by simp; omega, show decide (((2 * j + 1 : Nat) : Int) < (l.length : Int)) = true by simp; omega, if_true, elemP, Int.toNat_natCast, List.getElem?_map, hx, hy, Option.map_some, show (0 : Int) ≤ ((2 * j : Nat) : Int) by omega, show (0 : Int) ≤ ((2 * j + 1 : Nat) : Int) by omega, true_and, atP_zero, Qds_n, fc_int, catP, List.length_cons, List.length_nil, show A.length + (0 + 1) < 1073741824 by omega]
      simp [sAbove]
    · have t2 : l.take (2 * (j + 1)) = l.take (2 * j) ++ [x] := by
        rw [← t1, List.take_of_length_le (by omega), List.take_of_length_le (by omega)]
      rw [t2, sAbove_app j _ _ hll]
      generalize sAbove (l.take (2 * j)) = A at hA
      simp only [Qdt_r0, un, cur0, binP_lss, binP_add, lenP_eq, ints, List.length_map, iteP_eq, w1, w2, show decide (((2 * j : Nat) : Int) < (l.length : Int)) = true by simp; omega, show decide (((2 * j + 1 : Nat) : Int) < (l.length : Int)) = false by simp; omega, if_true, Bool.false_eq_true, if_false, elemP, Int.toNat_natCast, List.getElem?_map, hx, Option.map_some, show (0 : Int) ≤ ((2 * j : Nat) : Int) by omega, true_and, atP_zero, fc_int, catP, List.length_cons, List.length_nil, show A.length + (0 + 1) < 1073741824 by omega]
      simp [sAbove]
  · have : l.take (2 * ((l.length + 1) / 2)) = l := List.take_of_length_le (by omega)
    rw [this]
    simp only [Qdt_r0, un, cur0, binP_lss, lenP_eq, ints, List.length_map, iteP_eq, show decide (((2 * ((l.length + 1) / 2) : Nat) : Int) < (l.length : Int)) = false by simp; omega]
    simp) k
theorem Qdu_lp (k : List PV → Prop) : ∀ (n : Nat) (l : List Int), l.length < n → 1 ≤ l.length → l.length ≤ 1048576 → (lp (fun L w => Qdu_r0 w L (fun q3 q4 => elemP 1 q4 (I 0) fun c5 => rt [.sc] [atP c5 0] k)) [I 0, ints l] ↔ k [I (sTopN n l)])
  | 0, l, h, _, _ => by omega
  | n + 1, l, h, h1, h2 => by
    unfold sTopN
    by_cases hl : 1 < l.length
    · have ha := sAbove_len l
      have ih := Qdu_lp k n (sAbove l) (by omega) (by omega) (by omega)
      rw [if_pos hl]
      refine (lp_step fun K => ?_).trans ih
      have e := Qdt_n l h2
      simp [Qdu_r0, show (1 : Int) < l.length by omega, e]
    · rw [if_neg hl]
      refine itP_mono_end fun K => ?_
      match l, h1, hl with
      | [a], _, _ => simp [Qdu_r0, ints, elemP]
      | _ :: _ :: _, _, hl => simp at hl
theorem Qdu_n (l : List Int) (h : l.length ≤ 1048576) (k) : call Qdu [.one (ints l)] k = k [I (sTop l)] := call_of (fun k => by
  have eh : ∀ (l : List Int), l.length < 1000 → ∀ k, call Qcl [.one (ints l)] k = k [I (sHash l)] := fun l hl => Qcl_n l (by omega)
  unfold sTop
  by_cases h0 : l.length = 0
  · have : l = [] := List.eq_nil_of_length_eq_zero h0
    subst this
    have e := eh [229] (by simp)
    rw [show ints [229] = PV.list 1 [[I 229]] from rfl] at e
    simp [Qdu, fc_int, e]
  · rw [if_neg h0]
    have e := Qdu_lp k (l.length + 1) l (by omega) (by omega) h
    rw [← e]
    simp [Qdu, show ¬ (l.length : Int) = 0 by omega, show ¬ l = [] by (rintro rfl; simp at h0)]) k
theorem Qdv_n (a b : Int) (k) : call Qdv [.one (I a), .one (I b)] k = k [I (sHash [231, a, b])] := call_of (fun k => by
  have eh : ∀ (l : List Int), l.length < 1000 → ∀ k, call Qcl [.one (ints l)] k = k [I (sHash l)] := fun l hl => Qcl_n l (by omega)
  have e := eh [231, a, b] (by simp)
  rw [show ints [231, a, b] = PV.list 1 [[I 231], [I a], [I b]] from rfl] at e
  simp [Qdv, fc_int, e]) k
theorem Qdw_n (l : List GEntry) (h : mEntryS l ≤ 1048576) (k) : call Qdw [.one (.list 4 (l.map eEntry))] k = k [I (sRoot l)] := call_of (fun k => by
  have hl := (entries_le h).1
  have e1 := Qdr_n l h
  have e2 := Qdu_n (l.map sLeaf) (by simpa using hl)
  simp [Qdw, e1, e2, Qdv_n, sRoot]) k
def sCheckAll (root : Int) (l : List GEntry) : Bool := sAreEntries l && decide (sRoot l = root)
theorem Qia_n (root : Int) (l : List GEntry) (h : mEntryS l ≤ 1048576) (k) : call Qia [.one (I root), .one (.list 4 (l.map eEntry))] k = k [.bool (sCheckAll root l)] := call_of (fun k => by
  have e1 := Qho_n l h
  have e2 := Qhz_n l h
  simp only [Qia, e1, e2, binP_eql, beqI, atP_zero, iteP_eq, rt_eq, scs_sc, scs_nil, flat_bool, true_and]
  exact stepB fun _ => Iff.rfl) k
theorem Qdx_n (root : Int) (l : List GEntry) (h : mEntryS l ≤ 1048576) (k) : call Qdx [.one (I root), .one (.list 4 (l.map eEntry))] k = k [.bool (sCheckAll root l)] := call_of (fun k => by
  have e1 := Qdm_n l h
  have e2 := Qdw_n l h
  simp only [Qdx, e1, e2, binP_eql, beqI, atP_zero, iteP_eq, rt_eq, scs_sc, scs_nil, flat_bool, true_and]
  exact stepB fun _ => Iff.rfl) k
def sIsZone (z : GZone) : Bool := match sLast z.Chain with | some p => decide (p.Count = (z.Entries.length : Int)) && sCheckAll p.Root z.Entries | none => false
theorem last_some {l : List GSigned} {p : GHead} (h : sLast l = some p) : sIsChain l = true ∧ ∃ s, l[l.length - 1]? = some s ∧ s.Head = p := by
  unfold sLast at h
  split at h
  · rename_i hc
    obtain ⟨s, hs, hp⟩ := Option.map_eq_some_iff.1 h
    exact ⟨hc, s, hs, hp⟩
  · cases h
theorem last_none' {l : List GSigned} (h : sLast l = none) : sIsChain l = false := by
  unfold sLast at h
  cases hc : sIsChain l with
  | false => rfl
  | true =>
    obtain ⟨p, hp, _⟩ := chain_has hc
    rw [hc, if_pos rfl, hp] at h; cases h
theorem zone_le' {z : GZone} (h : mZone z ≤ 1048576) : mSignedS z.Chain ≤ 1048576 ∧ mEntryS z.Entries ≤ 1048576 := by unfold mZone at h; omega
theorem Qdy_n (z : GZone) (h : mZone z ≤ 1048576) (k) : call Qdy [.agg (eZone z)] k = k [.bool (sIsZone z)] := call_of (fun k => by
  obtain ⟨h1, h2⟩ := zone_le' h
  have e := Qdh_n z.Chain h1
  unfold sIsZone
  cases hs : sLast z.Chain with
  | none => simp [Qdy, e, hs, oHead, zHead]
  | some p =>
    have e2 := Qdx_n p.Root z.Entries h2
    simp [Qdy, e, hs, oHead, e2]
    by_cases hc : p.Count = (z.Entries.length : Int) <;> simp [hc]) k
theorem Qib_n (z : GZone) (h : mZone z ≤ 1048576) (k) : call Qib [.agg (eZone z)] k = k [.bool (sIsZone z)] := call_of (fun k => by
  obtain ⟨h1, h2⟩ := zone_le' h
  have e := Qhd_n z.Chain h1
  unfold sIsZone
  cases hs : sLast z.Chain with
  | none => simp [Qib, e, last_none' hs]
  | some p =>
    obtain ⟨hc, s, hp, rfl⟩ := last_some hs
    have e1 := Qhe_n z.Chain s (chain_le h1).1 hp
    have e2 := Qia_n s.Head.Root z.Entries h2
    simp [Qib, e, hc, e1, e2]
    by_cases hc : s.Head.Count = (z.Entries.length : Int) <;> simp [hc]) k
def sMake (l : List GSigned) (held : List Int) : Bool := if l.length = 1 then (match l[0]? with | some p => sCanSign p.Head.Keys held | none => false) else
  match l[l.length - 2]?, l[l.length - 1]? with | some p, some q => sCanSign (sSignersFor p.Head q.Head.Kind) held | _, _ => false
def sCouldSay (s : GSaid) : Bool := sIsZone s.Zone && sMake s.Zone.Chain s.Held
theorem zone_pos {z : GZone} (h : sIsZone z = true) : 1 ≤ z.Chain.length := by
  unfold sIsZone at h
  cases hs : sLast z.Chain with
  | none => rw [hs] at h; cases h
  | some p =>
    obtain ⟨hc, _⟩ := last_some hs
    obtain ⟨_, _, h0⟩ := chain_has hc
    omega
theorem said_le' {s : GSaid} (h : mSaid s ≤ 1048576) : mZone s.Zone ≤ 1048576 ∧ (1 ≤ s.Zone.Chain.length → s.Held.length ≤ 1048575) := by
  have e : mSaid s = ((s.Zone.Chain.length + sumN mSigned s.Zone.Chain) + mEntryS s.Zone.Entries) + s.Held.length := rfl
  have e2 : mZone s.Zone = (s.Zone.Chain.length + sumN mSigned s.Zone.Chain) + mEntryS s.Zone.Entries := rfl
  omega
def sTF : Nat → Int → Nat → Nat → List Int → Option Int
  | 0, _, _, _, _ => none
  | f + 1, leaf, i, n, path => if 1 < n then
      (if i % 2 = 1 ∨ i + 1 < n then (match path with | [] => none | p :: r => sTF f (if i % 2 = 1 then sNode p leaf else sNode leaf p) (i / 2) ((n + 1) / 2) r)
       else sTF f leaf (i / 2) ((n + 1) / 2) path)
    else (match path with | [] => some leaf | _ :: _ => none)
def oTop : Option Int → List PV
  | some t => [I t, .bool true]
  | none => [I 0, .bool false]
theorem tmod2 (i : Nat) : (i : Int).tmod 2 = ((i % 2 : Nat) : Int) := (Int.ofNat_tmod i 2).symm
theorem wdiv2 (i : Nat) (h : i < 1000) : IntKind.i64.wrap ((i : Int).tdiv 2) = ((i / 2 : Nat) : Int) := by
  rw [show (i : Int).tdiv 2 = ((i / 2 : Nat) : Int) from (Int.ofNat_tdiv i 2).symm]
  exact wr_eq (by omega) (by omega)
theorem wsucc (i : Nat) (h : i < 1000) : IntKind.i64.wrap ((i : Int) + 1) = ((i + 1 : Nat) : Int) := by rw [wr_eq (by omega) (by omega)]; omega
theorem mod2_eq (i : Nat) : decide (((i % 2 : Nat) : Int) = 1) = decide (i % 2 = 1) := by apply decide_eq_decide.2; omega
theorem mod2_eq0 (i : Nat) : decide (((i % 2 : Nat) : Int) = 0) = !decide (i % 2 = 1) := by
  by_cases h : i % 2 = 1
  · simp [h]
  · have : i % 2 = 0 := by omega
    simp [this]
theorem spec_TF_lp (k : List PV → Prop) (path : List Int) (hp : path.length ≤ 1048576) : ∀ (f : Nat) (leaf : Int) (i n used : Nat), n < f → n ≤ 12 → i ≤ 12 → used ≤ path.length →
    (lp (fun L w => Qeu_r0 w L (k [I 0, .bool false]) fun q40 q41 q42 q43 q44 q45 q46 => lenP q43 fun r47 => binP .neq q46 r47 fun r48 => iteP r48 (k [I 0, .bool false]) (rt [.sc, .sc] [q40, .bool true] k)) [I leaf, I i, I n, ints path, I 0, .bool false, I used] ↔ k (oTop (sTF f leaf i n (path.drop used))))
  | 0, _, _, _, _, h, _, _, _ => by omega
  | f + 1, leaf, i, n, used, h, hn, hi, hu => by
    unfold sTF
    by_cases h1 : 1 < n
    · rw [if_pos h1]
      by_cases hc : i % 2 = 1 ∨ i + 1 < n
      · rw [if_pos hc]
        by_cases he : used = path.length
        · rw [List.drop_of_length_le (by omega)]
          refine itP_mono_end fun K => ?_
          subst he
          simp only [Qeu_r0, un, cur0, binP_gtr, binP_rem, binP_eql, binP_geq, binP_add, binP_lss, beqI, tmod2, mod2_eq, wsucc i (by omega), lenP_eq, List.length_map, iteP_eq, show decide ((1 : Int) < n) = true by simp; omega, if_true]
          rcases hc with hc | hc
          · simp [hc, oTop]
          · by_cases ho : i % 2 = 1
            · simp [ho, oTop]
            · simp [ho, show ((i + 1 : Nat) : Int) < n by omega, oTop]
              intro h; omega
        · obtain ⟨p, hx⟩ : ∃ p, path[used]? = some p := ⟨path[used], List.getElem?_eq_getElem (by omega)⟩
          have hd : path.drop used = p :: path.drop (used + 1) := by
            rw [List.drop_eq_getElem_cons (by omega)]
            congr 1
            rw [List.getElem?_eq_getElem (by omega)] at hx
            injection hx
          rw [hd]
          simp only
          refine (lp_step fun K => ?_).trans (spec_TF_lp k path hp f (if i % 2 = 1 then sNode p leaf else sNode leaf p) (i / 2) ((n + 1) / 2) (used + 1) (by omega) (by omega) (by omega) (by omega))
          simp only [Qeu_r0, un, cur0, binP_gtr, binP_rem, binP_quo, binP_eql, binP_geq, binP_add, binP_lss, beqI, tmod2, mod2_eq, wsucc i (by omega), wsucc n (by omega), wdiv2 i (by omega), wdiv2 (n + 1) (by omega), wr_succ (show used < 1000000000000000000 by omega), lenP_eq, List.length_map, iteP_eq, show decide ((1 : Int) < n) = true by simp; omega, show decide (((path.length : Nat) : Int) ≤ used) = false by simp; omega, if_true, elemP, Int.toNat_natCast, List.getElem?_map, hx, Option.map_some, show (0 : Int) ≤ used by omega, true_and, atP_zero, Qds_n]
          by_cases ho : i % 2 = 1
          · simp [ho]
          · rcases hc with hc | hc
            · exact absurd hc ho
            · simp [ho, show ((i + 1 : Nat) : Int) < n by omega]
              omega
      · rw [if_neg hc]
        refine (lp_step fun K => ?_).trans (spec_TF_lp k path hp f leaf (i / 2) ((n + 1) / 2) used (by omega) (by omega) (by omega) hu)
        simp only [Qeu_r0, un, cur0, binP_gtr, binP_rem, binP_quo, binP_eql, binP_geq, binP_add, binP_lss, beqI, tmod2, mod2_eq, wsucc i (by omega), wsucc n (by omega), wdiv2 i (by omega), wdiv2 (n + 1) (by omega), lenP_eq, List.length_map, iteP_eq, show decide ((1 : Int) < n) = true by simp; omega, if_true]
        have ho : ¬ i % 2 = 1 := fun h => hc (.inl h)
        have hl : ¬ ((i + 1 : Nat) : Int) < n := by intro h; exact hc (.inr (by omega))
        simp only [ho, hl, decide_false, Bool.false_eq_true, if_false]
        simp
    · rw [if_neg h1]
      refine itP_mono_end fun K => ?_
      simp only [Qeu_r0, un, cur0, binP_gtr, binP_neq, bne, beqI, lenP_eq, List.length_map, iteP_eq, show decide ((1 : Int) < n) = false by simp; omega, Bool.false_eq_true, if_false, rt_eq, scs_sc, scs_nil, flat_int, flat_bool, true_and, and_true]
      by_cases he : used = path.length
      · rw [List.drop_of_length_le (by omega)]
        simp [he, oTop]
      · rw [List.drop_eq_getElem_cons (by omega)]
        simp [show ¬ (used : Int) = path.length by omega, oTop]
def sTopFrom (leaf at_ count : Int) (path : List Int) : Option Int := if (inR count 1 12 && inR at_ 0 (count - 1)) = true then sTF 13 leaf at_.toNat count.toNat path else none
theorem Qeu_n (leaf at_ count : Int) (path : List Int) (hp : path.length ≤ 1048576) (k) : call Qeu [.one (I leaf), .one (I at_), .one (I count), .one (ints path)] k = k (oTop (sTopFrom leaf at_ count path)) := call_of (fun k => by
  unfold sTopFrom
  cases h1 : inR count 1 12 with
  | false => simp [Qeu, Qcf_n, h1, oTop]
  | true =>
    have b1 : 1 ≤ count ∧ count ≤ 12 := by unfold inR at h1; simpa using h1
    have w : IntKind.i64.wrap (count - 1) = count - 1 := wr_eq (by omega) (by omega)
    cases h2 : inR at_ 0 (count - 1) with
    | false => simp [Qeu, Qcf_n, h1, w, h2, oTop]
    | true =>
      have b2 : 0 ≤ at_ ∧ at_ ≤ count - 1 := by unfold inR at h2; simpa using h2
      have e := spec_TF_lp k path hp 13 leaf at_.toNat count.toNat 0 (by omega) (by omega) (by omega) (by omega)
      rw [show ((at_.toNat : Nat) : Int) = at_ by omega, show ((count.toNat : Nat) : Int) = count by omega] at e
      simp only [Bool.and_self, if_true, List.drop_zero] at e ⊢
      rw [← e]
      simp only [Qeu, Qcf_n, h1, h2, w, binP_sub, unP_not, atP_zero, iteP_eq, Bool.not_true, Bool.false_eq_true, if_false, rt_eq, scs_sc, scs_nil, flat_int, flat_bool, true_and]
      exact Iff.rfl) k
theorem binP_xor {x : IntKind} {m n : Int} {k : PV → Prop} : binP .xor (.int x m) (.int x n) k = k (.int x (x.wrap ((BitVec.ofInt x.bits m ^^^ BitVec.ofInt x.bits n).toNat : Int))) := by simp [binP]
theorem xor1 : ∀ i : Nat, i < 13 → IntKind.i64.wrap ((BitVec.ofInt IntKind.i64.bits (i : Int) ^^^ BitVec.ofInt IntKind.i64.bits 1).toNat : Int) = if i % 2 = 1 then (i : Int) - 1 else (i : Int) + 1 := by decide +kernel
theorem impl_TF_lp (k : List PV → Prop) : ∀ (f : Nat) (leaf : Int) (i n : Nat) (path : List Int), n < f → n ≤ 12 → i < n ∨ n ≤ 1 → i ≤ 12 → path.length ≤ 1048576 →
    (lp (fun L w => Qjk_r0 w L (k [I 0, .bool false]) fun q24 q25 q26 q27 q28 q29 => lenP q27 fun r30 => binP .gtr r30 (I 0) fun r31 => iteP r31 (k [I 0, .bool false]) (rt [.sc, .sc] [q24, .bool true] k)) [I leaf, I i, I n, ints path, I 0, .bool false] ↔ k (oTop (sTF f leaf i n path)))
  | 0, _, _, _, _, h, _, _, _, _ => by omega
  | f + 1, leaf, i, n, path, h, hn, hin, hi, hp => by
    unfold sTF
    by_cases h1 : 1 < n
    · rw [if_pos h1]
      have hx : decide ((n : Int) ≤ if i % 2 = 1 then (i : Int) - 1 else (i : Int) + 1) = !decide (i % 2 = 1 ∨ i + 1 < n) := by
        by_cases ho : i % 2 = 1
        · rw [if_pos ho]; simp [ho]; omega
        · rw [if_neg ho]
          by_cases hl : i + 1 < n
          · simp [ho, hl]; omega
          · simp [ho, hl]; omega
      by_cases hc : i % 2 = 1 ∨ i + 1 < n
      · rw [if_pos hc]
        match path with
        | [] =>
          refine itP_mono_end fun K => ?_
          simp only [Qjk_r0, un, cur0, binP_gtr, binP_xor, xor1 i (by omega), binP_geq, hx, hc, decide_true, Bool.not_true, Bool.false_eq_true, if_false, lenP_eq, List.length_map, List.length_nil, binP_eql, beqI, iteP_eq, show decide ((1 : Int) < n) = true by simp; omega, if_true]
          simp [oTop]
        | p :: r =>
          simp only
          refine (lp_step fun K => ?_).trans (impl_TF_lp k f (if i % 2 = 1 then sNode p leaf else sNode leaf p) (i / 2) ((n + 1) / 2) r (by omega) (by omega) (by omega) (by omega) (by simp at hp; omega))
          simp only [Qjk_r0, un, cur0, binP_gtr, binP_xor, xor1 i (by omega), binP_geq, hx, hc, decide_true, Bool.not_true, Bool.false_eq_true, if_false, lenP_eq, List.length_map, List.length_cons, binP_eql, binP_rem, binP_quo, binP_add, beqI, tmod2, mod2_eq0, wsucc n (by omega), wdiv2 i (by omega), wdiv2 (n + 1) (by omega), iteP_eq, show decide ((1 : Int) < n) = true by simp; omega, if_true, show decide (((r.length + 1 : Nat) : Int) = 0) = false by simp; omega, ints, List.map_cons, elemP, show ((0 : Int)).toNat = 0 from rfl, List.getElem?_cons_zero, show (0 : Int) ≤ 0 by omega, true_and, atP_zero, Qhv_n, natP, cutP]
          by_cases ho : i % 2 = 1 <;> simp [ho, List.take_of_length_le]
      · rw [if_neg hc]
        refine (lp_step fun K => ?_).trans (impl_TF_lp k f leaf (i / 2) ((n + 1) / 2) path (by omega) (by omega) (by omega) (by omega) hp)
        simp only [Qjk_r0, un, cur0, binP_gtr, binP_xor, xor1 i (by omega), binP_geq, hx, hc, decide_false, Bool.not_false, if_true, lenP_eq, List.length_map, binP_quo, binP_add, wsucc n (by omega), wdiv2 i (by omega), wdiv2 (n + 1) (by omega), iteP_eq, show decide ((1 : Int) < n) = true by simp; omega]
        simp
    · rw [if_neg h1]
      refine itP_mono_end fun K => ?_
      simp only [Qjk_r0, un, cur0, binP_gtr, lenP_eq, List.length_map, iteP_eq, show decide ((1 : Int) < n) = false by simp; omega, Bool.false_eq_true, if_false, rt_eq, scs_sc, scs_nil, flat_int, flat_bool, true_and, and_true]
      match path with
      | [] => simp [oTop]
      | p :: r => simp [oTop]
theorem Qjk_n (leaf at_ count : Int) (path : List Int) (hp : path.length ≤ 1048576) (k) : call Qjk [.one (I leaf), .one (I at_), .one (I count), .one (ints path)] k = k (oTop (sTopFrom leaf at_ count path)) := call_of (fun k => by
  unfold sTopFrom
  by_cases c1 : count < 1
  · have : inR count 1 12 = false := by unfold inR; simp; omega
    simp [Qjk, c1, this, oTop]
  by_cases c2 : 12 < count
  · have : inR count 1 12 = false := by unfold inR; simp; omega
    simp [Qjk, c1, c2, this, oTop]
  have h1 : inR count 1 12 = true := by unfold inR; simp; omega
  have w : IntKind.i64.wrap (count - 1) = count - 1 := wr_eq (by omega) (by omega)
  cases h2 : inR at_ 0 (count - 1) with
  | false => simp [Qjk, Qfj_n, c1, c2, w, h2, oTop]
  | true =>
    have b2 : 0 ≤ at_ ∧ at_ ≤ count - 1 := by unfold inR at h2; simpa using h2
    have e := impl_TF_lp k 13 leaf at_.toNat count.toNat path (by omega) (by omega) (by omega) (by omega) hp
    rw [show ((at_.toNat : Nat) : Int) = at_ by omega, show ((count.toNat : Nat) : Int) = count by omega] at e
    simp only [h1, Bool.and_self, if_true]
    rw [← e]
    simp only [Qjk, Qfj_n, binP_lss, binP_gtr, h2, w, binP_sub, unP_not, atP_zero, iteP_eq, c1, c2, decide_false, Bool.not_true, Bool.false_eq_true, if_false, rt_eq, scs_sc, scs_nil, flat_int, flat_bool, true_and]) k
def zEntry : GEntry := ⟨⟨#[]⟩, 0, 0, []⟩
def zProof : GProof := ⟨0, []⟩
def zGap : GGap := ⟨0, zEntry, zEntry, zProof, zProof⟩
def sZero (e : GEntry) (p : GProof) : Bool := decide (e = zEntry) && decide (p = zProof)
def sCheckEntry (root count : Int) (e : GEntry) (p : GProof) : Bool := sIsEntry e && (match sTopFrom (sLeaf e) p.At count p.Path with | some t => decide (sHash [231, count, t] = root) | none => false)
theorem Qjl_n (root count : Int) (e : GEntry) (p : GProof) (h : mEntry e ≤ 1048576) (hp : mProof p ≤ 1048576) (k) : call Qjl [.one (I root), .one (I count), .agg (eEntry e), .agg (eProof p)] k = k [.bool (sCheckEntry root count e p)] := call_of (fun k => by
  unfold mProof at hp
  have e1 := Qhs_n e h
  have e2 := Qhk_n e h
  have e3 := Qjk_n (sLeaf e) p.At count p.Path hp
  have e1' : ∀ k, call Qhs [.agg (eEntry e)] k = k [I (sLeaf e)] := e1
  unfold sCheckEntry
  cases ht : sTopFrom (sLeaf e) p.At count p.Path with
  | none =>
    rw [ht] at e3
    simp only [Qjl, un, cur0, e1', e2, e3, oTop, atP_zero, atP_succ, iteP_eq, rt_eq, scs_sc, scs_nil, flat_bool, true_and]
    cases sIsEntry e <;> simp
  | some t =>
    rw [ht] at e3
    simp only [Qjl, un, cur0, e1', e2, e3, oTop, atP_zero, atP_succ, Qhy_n, binP_eql, beqI, iteP_eq, rt_eq, scs_sc, scs_nil, flat_bool, true_and]
    cases sIsEntry e <;> simp) k
theorem Qev_n (root count : Int) (e : GEntry) (p : GProof) (h : mEntry e ≤ 1048576) (hp : mProof p ≤ 1048576) (k) : call Qev [.one (I root), .one (I count), .agg (eEntry e), .agg (eProof p)] k = k [.bool (sCheckEntry root count e p)] := call_of (fun k => by
  unfold mProof at hp
  have e1 := Qdq_n e h
  have e2 := Qdk_n e h
  have e3 := Qeu_n (sLeaf e) p.At count p.Path hp
  have e1' : ∀ k, call Qdq [.agg (eEntry e)] k = k [I (sLeaf e)] := e1
  unfold sCheckEntry
  cases ht : sTopFrom (sLeaf e) p.At count p.Path with
  | none =>
    rw [ht] at e3
    simp only [Qev, un, cur0, e1', e2, e3, oTop, atP_zero, atP_succ, iteP_eq, rt_eq, scs_sc, scs_nil, flat_bool, true_and]
    cases sIsEntry e <;> simp
  | some t =>
    rw [ht] at e3
    simp only [Qev, un, cur0, e1', e2, e3, oTop, atP_zero, atP_succ, Qdv_n, binP_eql, beqI, iteP_eq, rt_eq, scs_sc, scs_nil, flat_bool, true_and]
    cases sIsEntry e <;> simp) k
theorem mz : mEntry zEntry ≤ 1048576 ∧ mProof zProof ≤ 1048576 ∧ mGap zGap ≤ 1048576 := by decide
theorem Qey_n (e : GEntry) (p : GProof) (h : mEntry e ≤ 1048576) (hp : mProof p ≤ 1048576) (k) : call Qey [.agg (eEntry e), .agg (eProof p)] k = k [.bool (sZero e p)] := call_of (fun k => by
  have e1 := Qeh_n e zEntry h mz.1
  have e2 := Qew_n p zProof hp mz.2.1
  simp only [Qey, un, cur0]
  rw [show [PV.str ⟨#[]⟩, I 0, I 0, PV.list 1 []] = eEntry zEntry from rfl, show [I 0, PV.list 1 []] = eProof zProof from rfl]
  simp only [e1, e2, atP_zero, iteP_eq, rt_eq, scs_sc, scs_nil, flat_bool, true_and]
  exact stepB fun _ => Iff.rfl) k
theorem Qjq_n (e : GEntry) (h : mEntry e ≤ 1048576) (k) : call Qjq [.agg (eEntry e)] k = k [.bool (decide (e = zEntry))] := call_of (fun k => by
  have e1 := Qjn_n e zEntry h mz.1
  simp only [Qjq, un, cur0]
  rw [show [PV.str ⟨#[]⟩, I 0, I 0, PV.list 1 []] = eEntry zEntry from rfl]
  simp only [e1, atP_zero, rt_eq, scs_sc, scs_nil, flat_bool, true_and]) k
theorem Qjr_n (p : GProof) (hp : mProof p ≤ 1048576) (k) : call Qjr [.agg (eProof p)] k = k [.bool (decide (p = zProof))] := call_of (fun k => by
  have e1 := Qjo_n p zProof hp mz.2.1
  simp only [Qjr, un, cur0]
  rw [show [I 0, PV.list 1 []] = eProof zProof from rfl]
  simp only [e1, atP_zero, rt_eq, scs_sc, scs_nil, flat_bool, true_and]) k
def sLower (root count : Int) (label : ByteArray) (g : GGap) : Bool := if decide (g.At = 0) = true then sZero g.Before g.Left else sCheckEntry root count g.Before g.Left && (decide (g.Left.At = g.At - 1) && decide (cmpS g.Before.Label label = -1))
def sUpper (root count : Int) (label : ByteArray) (g : GGap) : Bool := if decide (g.At = count) = true then sZero g.After g.Right else sCheckEntry root count g.After g.Right && (decide (g.Right.At = g.At) && decide (cmpS g.After.Label label = 1))
def sAbs (root count : Int) (label : ByteArray) (g : GGap) : Bool := sLabel label && (inR g.At 0 count && (!(decide (count = 0) && !decide (root = sRoot [])) && (sLower root count label g && sUpper root count label g)))
theorem gap_le {g : GGap} (h : mGap g ≤ 1048576) : mEntry g.Before ≤ 1048576 ∧ mEntry g.After ≤ 1048576 ∧ mProof g.Left ≤ 1048576 ∧ mProof g.Right ≤ 1048576 := by unfold mGap at h; omega
theorem Qez_n (root count : Int) (label : ByteArray) (g : GGap) (hc : count ≤ 12) (hl : label.size ≤ 1048576) (h : mGap g ≤ 1048576) (k) : call Qez [.one (I root), .one (I count), .one (.str label), .agg (eGap g)] k = k [.bool (sAbs root count label g)] := call_of (fun k => by
  obtain ⟨g1, g2, g3, g4⟩ := gap_le h
  have e1 := Qdi_n label hl
  have e2 := Qey_n g.Before g.Left g1 g3
  have e3 := Qey_n g.After g.Right g2 g4
  have e4 := Qev_n root count g.Before g.Left g1 g3
  have e5 := Qev_n root count g.After g.Right g2 g4
  have e6 : ∀ k, call Qdw [.one (.list 4 [])] k = k [I (sRoot [])] := Qdw_n [] (by decide)
  unfold sAbs
  cases hb : sLabel label with
  | false => simp [Qez, e1, hb]
  | true =>
    cases hr : inR g.At 0 count with
    | false => simp [Qez, e1, hb, Qcf_n, hr]
    | true =>
      have hr' : 0 ≤ g.At ∧ g.At ≤ count := by unfold inR at hr; simpa using hr
      have hup : (if decide (g.At = count) = true then k [.bool (sZero g.After g.Right)] else if sCheckEntry root count g.After g.Right = true then if decide (g.Right.At = g.At) = true then k [.bool (decide (cmpS g.After.Label label = 1))] else k [.bool false] else k [.bool false]) ↔ k [.bool (sUpper root count label g)] := by
        unfold sUpper
        cases decide (g.At = count) <;> cases sCheckEntry root count g.After g.Right <;> cases decide (g.Right.At = g.At) <;> simp
      have hw3 : IntKind.i64.wrap (g.At - 1) = g.At - 1 := wr_eq (by omega) (by omega)
      simp only [Qez, un, cur0, e1, hb, Qcf_n, hr, e2, e3, e4, e5, e6, Qdl_n, unP_not, binP_eql, binP_neq, binP_sub, bne, beqI, hw3, atP_zero, iteP_eq, rt_eq, scs_sc, scs_nil, flat_bool, true_and, Bool.not_true, Bool.false_eq_true, if_false, show (0 : Nat) ≤ 16777216 by omega, Bool.true_and, propext hup]
      unfold sLower
      generalize sUpper root count label g = u
      cases decide (count = 0) <;> cases decide (root = sRoot []) <;> cases decide (g.At = 0) <;> cases sZero g.Before g.Left <;> cases sCheckEntry root count g.Before g.Left <;> cases decide (g.Left.At = g.At - 1) <;> cases decide (cmpS g.Before.Label label = -1) <;> simp) k
def sNb (root count : Int) (e : GEntry) (p : GProof) (at_ : Int) : Bool := if inR at_ 0 (count - 1) = true then sCheckEntry root count e p && decide (p.At = at_) else sZero e p
theorem Qjs_n (root count : Int) (e : GEntry) (p : GProof) (at_ : Int) (hc : 0 ≤ count ∧ count ≤ 12) (h : mEntry e ≤ 1048576) (hp : mProof p ≤ 1048576) (k) : call Qjs [.one (I root), .one (I count), .agg (eEntry e), .agg (eProof p), .one (I at_)] k = k [.bool (sNb root count e p at_)] := call_of (fun k => by
  have e1 := Qjl_n root count e p h hp
  have e2 := Qjq_n e h
  have e3 := Qjr_n p hp
  have w : IntKind.i64.wrap (count - 1) = count - 1 := wr_eq (by omega) (by omega)
  simp only [Qjs, un, cur0, e1, e2, e3, binP_sub, w, Qfj_n, unP_not, binP_eql, beqI, atP_zero, iteP_eq, rt_eq, scs_sc, scs_nil, flat_bool, true_and]
  unfold sNb sZero
  cases inR at_ 0 (count - 1) <;> cases decide (e = zEntry) <;> cases sCheckEntry root count e p <;> simp) k
theorem Qjt_n (root count : Int) (label : ByteArray) (g : GGap) (hc : 0 ≤ count ∧ count ≤ 12) (hl : label.size ≤ 1048576) (h : mGap g ≤ 1048576) (k) : call Qjt [.one (I root), .one (I count), .one (.str label), .agg (eGap g)] k = k [.bool (sAbs root count label g)] := call_of (fun k => by
  obtain ⟨g1, g2, g3, g4⟩ := gap_le h
  have e1 := Qhf_n label hl
  have e4 := Qjs_n root count g.Before g.Left (g.At - 1) hc g1 g3
  have e5 := Qjs_n root count g.After g.Right g.At hc g2 g4
  have e6 : ∀ k, call Qhz [.one (.list 4 [])] k = k [I (sRoot [])] := Qhz_n [] (by decide)
  unfold sAbs
  cases hb : sLabel label with
  | false => simp [Qjt, e1, hb]
  | true =>
    cases hr : inR g.At 0 count with
    | false => simp [Qjt, e1, hb, Qfj_n, hr]
    | true =>
      have hr' : 0 ≤ g.At ∧ g.At ≤ count := by unfold inR at hr; simpa using hr
      have hw3 : IntKind.i64.wrap (g.At - 1) = g.At - 1 := wr_eq (by omega) (by omega)
      have n1 : inR (g.At - 1) 0 (count - 1) = !decide (g.At = 0) := by
        unfold inR; by_cases h0 : g.At = 0
        · simp [h0]
        · simp [h0]; omega
      have n2 : inR g.At 0 (count - 1) = !decide (g.At = count) := by
        unfold inR; by_cases h0 : g.At = count
        · simp [h0]; try (intro _; omega)
        · simp [h0]; omega
      have c1 : decide (cmpS g.Before.Label label < 0) = decide (cmpS g.Before.Label label = -1) := by
        rcases cmp_range g.Before.Label.data.toList label.data.toList with h | h | h <;> simp [cmpS, h]
      have c2 : decide (0 < cmpS g.After.Label label) = decide (cmpS g.After.Label label = 1) := by
        rcases cmp_range g.After.Label.data.toList label.data.toList with h | h | h <;> simp [cmpS, h]
      simp only [Qjt, un, cur0, e1, hb, Qfj_n, hr, e4, e5, e6, Qhn_n, unP_not, binP_eql, binP_neq, binP_sub, binP_lss, binP_gtr, bne, beqI, hw3, c1, c2, atP_zero, iteP_eq, rt_eq, scs_sc, scs_nil, flat_bool, true_and, Bool.not_true, Bool.false_eq_true, if_false, Bool.true_and]
      unfold sNb sLower sUpper
      rw [n1, n2]
      cases decide (count = 0) <;> cases decide (root = sRoot []) <;> cases decide (g.At = 0) <;> cases decide (g.At = count) <;> cases sZero g.Before g.Left <;> cases sZero g.After g.Right <;> cases sCheckEntry root count g.Before g.Left <;> cases sCheckEntry root count g.After g.Right <;> cases decide (g.Left.At = g.At - 1) <;> cases decide (g.Right.At = g.At) <;> cases decide (cmpS g.Before.Label label = -1) <;> simp) k
theorem findX_neg {α : Type} (p : Nat → α → Bool) : ∀ (i : Nat) (l : List α), findX p i l < 0 → ∀ j x, l[j]? = some x → p (i + j) x = false
  | i, [], _, j, x, hx => by simp at hx
  | i, y :: l, h, j, x, hx => by
    rw [findX] at h
    split at h
    · omega
    · rename_i hp
      cases j with
      | zero => simp at hx; subst hx; simpa using hp
      | succ j =>
        have := findX_neg p (i + 1) l h j x (by simpa using hx)
        rwa [show i + (j + 1) = i + 1 + j by omega]
theorem may_head {p : GHead} {s : GSigned} (h : sMay p s = true) : sIsHead s.Head = true := by
  unfold sMay sCode at h
  cases h1 : sIsHead s.Head with
  | true => rfl
  | false => rw [h1] at h; cases h2 : sIsHead p <;> simp [h2] at h
theorem last_head {l : List GSigned} {p : GHead} (h : sLast l = some p) : sIsHead p = true := by
  obtain ⟨hc, s, hs, rfl⟩ := last_some h
  unfold sIsChain at hc
  simp only [Bool.and_eq_true, decide_eq_true_eq] at hc
  have := findX_neg (wrongP l) 0 l hc.2 (l.length - 1) s hs
  unfold wrongP at this
  split at this
  · have h2 : sIsFirst s = true := by simpa using this
    unfold sIsFirst at h2
    simp only [Bool.and_eq_true] at h2
    exact h2.1
  · split at this
    · exact may_head (by simpa using this)
    · cases this
theorem last_bounds {l : List GSigned} {p : GHead} (h : sLast l = some p) : (0 ≤ p.Count ∧ p.Count ≤ 12) ∧ 0 ≤ p.Zone := by
  have := last_head h
  unfold sIsHead inR at this
  simp only [Bool.and_eq_true, decide_eq_true_eq] at this
  omega
def sProved (p : GHead) (label : ByteArray) (a : GAnswer) : Bool := if a.Found = true then (if decide (a.Entry.Label = label) = true then sCheckEntry p.Root p.Count a.Entry a.Proof && decide (a.Gap = zGap) else false) else sAbs p.Root p.Count label a.Gap && sZero a.Entry a.Proof
theorem answer_le {a : GAnswer} (h : mAnswer a ≤ 1048576) : mSignedS a.Chain ≤ 1048576 ∧ mEntry a.Entry ≤ 1048576 ∧ mProof a.Proof ≤ 1048576 ∧ mGap a.Gap ≤ 1048576 := by unfold mAnswer at h; omega
def sAns (zone : Int) (label : ByteArray) (a : GAnswer) (now : Int) : Int := match sLast a.Chain with
  | none => 3
  | some p => if decide (p.Zone = zone) = false then 2 else if inR now p.Time p.Until = false then 4 else if p.Frozen = true then 5 else if sProved p label a = false then 6 else 1
def sZoneId (z : GZone) : Int := if sIsZone z = true then (match sLast z.Chain with | some p => p.Zone | none => -1) else -1
theorem zone_last {z : GZone} (h : sIsZone z = true) : ∃ p, sLast z.Chain = some p := by
  unfold sIsZone at h
  cases hs : sLast z.Chain with
  | none => rw [hs] at h; cases h
  | some p => exact ⟨p, rfl⟩
theorem zoneId_neg (z : GZone) : decide (sZoneId z < 0) = !sIsZone z := by
  unfold sZoneId
  cases h : sIsZone z with
  | false => simp
  | true =>
    obtain ⟨p, hp⟩ := zone_last h
    have := last_bounds hp
    simp only [if_true, hp, Bool.not_true, decide_eq_false_iff_not]
    omega
theorem Qjj_n (p : GHead) (now : Int) (k) : call Qjj [.agg (eHead p), .one (I now)] k = k [.bool (inR now p.Time p.Until)] := call_of (fun k => by
  simp only [Qjj, un, cur0, Qfj_n, atP_zero, rt_eq, scs_sc, scs_nil, flat_bool, true_and]) k
theorem Qju_n (p : GHead) (label : ByteArray) (a : GAnswer) (hc : 0 ≤ p.Count ∧ p.Count ≤ 12) (hl : label.size ≤ 1048576) (h : mAnswer a ≤ 1048576) (k) : call Qju [.agg (eHead p), .one (.str label), .agg (eAnswer a)] k = k [.bool (sProved p label a)] := call_of (fun k => by
  obtain ⟨h1, h2, h3, h4⟩ := answer_le h
  have e1 := Qjl_n p.Root p.Count a.Entry a.Proof h2 h3
  have e2 := Qjp_n a.Gap zGap h4 mz.2.2
  have e3 := Qjt_n p.Root p.Count label a.Gap hc hl h4
  have e4 := Qjq_n a.Entry h2
  have e5 := Qjr_n a.Proof h3
  simp only [Qju, un, cur0]
  rw [show [I 0, PV.str ⟨#[]⟩, I 0, I 0, PV.list 1 [], PV.str ⟨#[]⟩, I 0, I 0, PV.list 1 [], I 0, PV.list 1 [], I 0, PV.list 1 []] = eGap zGap from rfl]
  simp only [e1, e2, e3, e4, e5, binP_seql, atP_zero, iteP_eq, rt_eq, scs_sc, scs_nil, flat_bool, true_and]
  unfold sProved sZero
  generalize decide (a.Entry.Label = label) = b1
  generalize sCheckEntry p.Root p.Count a.Entry a.Proof = b2
  generalize sAbs p.Root p.Count label a.Gap = b3
  generalize decide (a.Entry = zEntry) = b4
  cases a.Found <;> cases b1 <;> cases b2 <;> cases b3 <;> cases b4 <;> simp) k
theorem Qjv_n (zone : Int) (label : ByteArray) (a : GAnswer) (now : Int) (hl : label.size ≤ 1048576) (h : mAnswer a ≤ 1048576) (k) : call Qjv [.one (I zone), .one (.str label), .agg (eAnswer a), .one (I now)] k = k [I (sAns zone label a now)] := call_of (fun k => by
  obtain ⟨h1, h2, h3, h4⟩ := answer_le h
  have e1 := Qjf_n a.Chain h1
  unfold sAns
  cases hs : sLast a.Chain with
  | none =>
    rw [hs] at e1
    simp only [Qjv, un, cur0, e1, oHead, zHead, eHead, List.cons_append, List.nil_append, unP_not, atP_zero, atP_succ, iteP_eq, rt_eq, scs_sc, scs_nil, flat_int, true_and, Bool.not_false, if_true]
  | some p =>
    rw [hs] at e1
    have e2 := Qjj_n p now
    have e3 := Qju_n p label a (last_bounds hs).1 hl h
    simp only [Qjv, un, cur0, e1, e2, e3, oHead, eHead, List.cons_append, List.nil_append, unP_not, binP_neq, bne, beqI, atP_zero, atP_succ, iteP_eq, rt_eq, scs_sc, scs_nil, flat_int, true_and, Bool.not_true, Bool.false_eq_true, if_false]
    cases decide (p.Zone = zone) <;> cases inR now p.Time p.Until <;> cases p.Frozen <;> cases sProved p label a <;> simp) k
theorem Qet_n (p : GHead) (now : Int) (k) : call Qet [.agg (eHead p), .one (I now)] k = k [.bool (inR now p.Time p.Until)] := call_of (fun k => by
  simp only [Qet, un, cur0, Qcf_n, atP_zero, rt_eq, scs_sc, scs_nil, flat_bool, true_and]) k
theorem Qfa_n (p : GHead) (label : ByteArray) (a : GAnswer) (hc : 0 ≤ p.Count ∧ p.Count ≤ 12) (hl : label.size ≤ 1048576) (h : mAnswer a ≤ 1048576) (k) : call Qfa [.agg (eHead p), .one (.str label), .agg (eAnswer a)] k = k [.bool (sProved p label a)] := call_of (fun k => by
  obtain ⟨h1, h2, h3, h4⟩ := answer_le h
  have e1 := Qev_n p.Root p.Count a.Entry a.Proof h2 h3
  have e2 := Qex_n a.Gap zGap h4 mz.2.2
  have e3 := Qez_n p.Root p.Count label a.Gap hc.2 hl h4
  have e4 := Qey_n a.Entry a.Proof h2 h3
  have e5 := e4
  simp only [Qfa, un, cur0]
  rw [show [I 0, PV.str ⟨#[]⟩, I 0, I 0, PV.list 1 [], PV.str ⟨#[]⟩, I 0, I 0, PV.list 1 [], I 0, PV.list 1 [], I 0, PV.list 1 []] = eGap zGap from rfl]
  simp only [e1, e2, e3, e4, e5, binP_seql, atP_zero, iteP_eq, rt_eq, scs_sc, scs_nil, flat_bool, true_and]
  unfold sProved
  generalize decide (a.Entry.Label = label) = b1
  generalize sCheckEntry p.Root p.Count a.Entry a.Proof = b2
  generalize sAbs p.Root p.Count label a.Gap = b3
  generalize decide (a.Entry = zEntry) = b4
  cases a.Found <;> cases b1 <;> cases b2 <;> cases b3 <;> cases b4 <;> simp) k
theorem Qfb_n (zone : Int) (label : ByteArray) (a : GAnswer) (now : Int) (hl : label.size ≤ 1048576) (h : mAnswer a ≤ 1048576) (k) : call Qfb [.one (I zone), .one (.str label), .agg (eAnswer a), .one (I now)] k = k [I (sAns zone label a now)] := call_of (fun k => by
  obtain ⟨h1, h2, h3, h4⟩ := answer_le h
  have e1 := Qdh_n a.Chain h1
  unfold sAns
  cases hs : sLast a.Chain with
  | none =>
    rw [hs] at e1
    simp only [Qfb, un, cur0, e1, oHead, zHead, eHead, List.cons_append, List.nil_append, unP_not, atP_zero, atP_succ, iteP_eq, rt_eq, scs_sc, scs_nil, flat_int, true_and, Bool.not_false, if_true]
  | some p =>
    rw [hs] at e1
    have e2 := Qet_n p now
    have e3 := Qfa_n p label a (last_bounds hs).1 hl h
    simp only [Qfb, un, cur0, e1, e2, e3, oHead, eHead, List.cons_append, List.nil_append, unP_not, binP_neq, bne, beqI, atP_zero, atP_succ, iteP_eq, rt_eq, scs_sc, scs_nil, flat_int, true_and, Bool.not_true, Bool.false_eq_true, if_false]
    cases decide (p.Zone = zone) <;> cases inR now p.Time p.Until <;> cases p.Frozen <;> cases sProved p label a <;> simp) k
theorem Qem_n (z : GZone) (h : mZone z ≤ 1048576) (k) : call Qem [.agg (eZone z)] k = k [I (sZoneId z)] := call_of (fun k => by
  obtain ⟨h1, h2⟩ := zone_le' h
  have e1 := Qdh_n z.Chain h1
  have e2 := Qdy_n z h
  unfold sZoneId
  cases hz : sIsZone z with
  | false => cases hs : sLast z.Chain <;> simp [Qem, e1, e2, hz, hs, oHead, zHead]
  | true =>
    obtain ⟨p, hp⟩ := zone_last hz
    simp [Qem, e1, e2, hz, hp, oHead]) k
theorem Qic_n (z : GZone) (h : mZone z ≤ 1048576) (k) : call Qic [.agg (eZone z)] k = k [I (sZoneId z)] := call_of (fun k => by
  obtain ⟨h1, h2⟩ := zone_le' h
  have e2 := Qib_n z h
  unfold sZoneId
  cases hz : sIsZone z with
  | false => simp [Qic, e2, hz]
  | true =>
    obtain ⟨p, hp⟩ := zone_last hz
    obtain ⟨hc, s, hs, rfl⟩ := last_some hp
    have e1 := Qhe_n z.Chain s (chain_le h1).1 hs
    simp [Qic, e1, e2, hz, hp]) k
theorem findI_ge {α : Type} (p : α → Bool) : ∀ (n : Nat) (l : List α), findI p n l = -1 ∨ (n : Int) ≤ findI p n l
  | n, [] => .inl rfl
  | n, x :: l => by
    rw [findI]
    split
    · exact .inr (Int.le_refl _)
    · rcases findI_ge p (n + 1) l with h | h
      · exact .inl h
      · exact .inr (by omega)
theorem findI_take {α : Type} (p : α → Bool) : ∀ (n : Nat) (l : List α) (i : Nat) (x : α), l[i]? = some x → p x = true → decide (findI p n l = (n : Int) + i) = !(l.take i).any p
  | n, [], i, x, hx, hp => by simp at hx
  | n, y :: l, 0, x, hx, hp => by
    simp at hx; subst hx
    rw [findI, if_pos hp]; simp
  | n, y :: l, i + 1, x, hx, hp => by
    rw [findI]
    cases hy : p y with
    | true =>
      simp only [if_true, List.take_succ_cons, List.any_cons, hy, Bool.true_or, Bool.not_true, decide_eq_false_iff_not]
      omega
    | false =>
      have := findI_take p (n + 1) l i x (by simpa using hx) hp
      simp only [Bool.false_eq_true, if_false, List.take_succ_cons, List.any_cons, hy, Bool.false_or, ← this]
      exact decide_eq_decide.2 (by omega)
theorem idx_take {α : Type} {p : α → Bool} {l : List α} {i : Nat} {x : α} (hx : l[i]? = some x) (hp : p x = true) : decide (idx p l = (i : Int)) = !(l.take i).any p := by
  rw [← findI_take p 0 l i x hx hp]
  exact decide_eq_decide.2 (by unfold idx; omega)
def twinZ (l : List GZone) (i : Nat) (z : GZone) : Bool := !sIsZone z || (l.take i).any (fun y => decide (sZoneId y = sZoneId z))
def sHasZones (l : List GZone) : Bool := !anyI (twinZ l) 0 l && decide ((l.length : Int) ≤ 8)
theorem zoneS_le {l : List GZone} (h : mZoneS l ≤ 1048576) : l.length ≤ 1048576 ∧ ∀ z ∈ l, mZone z ≤ 1048576 := by
  unfold mZoneS at h
  refine ⟨by omega, fun z hz => ?_⟩
  have := sumN_mem (s := mZone) hz
  omega
theorem ifB {b c : Bool} {k : List PV → Prop} : (if b = true then k [.bool false] else k [.bool c]) ↔ k [.bool (!b && c)] := by cases b <;> simp
theorem Qen_n (l : List GZone) (h : mZoneS l ≤ 1048576) (k) : call Qen [.one (.list 2 (l.map eZone))] k = k [.bool (sHasZones l)] := call_of (fun k => by
  obtain ⟨hl, hz⟩ := zoneS_le h
  simp only [Qen]
  refine (lp_anyI (P := k [.bool false]) (fin := k [.bool (decide ((l.length : Int) ≤ 8))]) l (fun i => [.list 2 (l.map eZone), .bool false, I i]) (twinZ l) rfl (fun i x hx hi K => ?_) fun K => ?_).trans ifB
  · have e1 := Qdy_n x (hz x (mem_get hx))
    have e2 := Qem_n x (hz x (mem_get hx))
    simp [-getElem?_pos, Qen_r0, hx, hi, e1]
    unfold twinZ
    cases hq : sIsZone x with
    | false => simp
    | true =>
      simp only [if_true, Bool.not_true, Bool.false_or, Bool.true_eq_false, if_false]
      have hlen : (l.take i).length = i := by simp; omega
      refine lp_any (l.take i) (fun j => [.list 2 (l.map eZone), .bool false, I i, I j]) (fun y => decide (sZoneId y = sZoneId x)) rfl (fun j y hy hj K' => ?_) fun K' => ?_
      · have hj' : j < i := by rw [hlen] at hj; exact hj
        have hy' : l[j]? = some y := by rw [List.getElem?_take] at hy; simpa [hj'] using hy
        have e3 := Qem_n y (hz y (mem_get hy'))
        simp [-getElem?_pos, Qen_r1, hx, hy', hj', e2, e3, wr_succ (show j < 1000000000000000000 by omega)]
      · rw [hlen]
        simp [Qen_r1, wr_succ (show i < 1000000000000000000 by omega)]
  · simp [Qen_r0]) k
theorem impl_zoneAt_1_n (z : GZone) (id : Int) (h : mZone z ≤ 1048576) (k) : call Qid [.agg (eZone z), .ro (.cells [I id])] k = k [.bool (decide (sZoneId z = id))] := call_of (fun k => by
  simp [Qid, Qic_n z h, beqI]) k
theorem impl_zoneAt_n (w : GWorld) (id : Int) (h : mZoneS w.Zones ≤ 1048576) (k) : call Qif [.agg (eWorld w), .one (I id)] k = k [I (idx (fun y => decide (sZoneId y = id)) w.Zones)] := call_of (fun k => by
  obtain ⟨hl, hz⟩ := zoneS_le h
  have e : ∀ k, call Qie [.one (.list 2 (w.Zones.map eZone)), .fn 175 [.cells [I id]]] k = k [I (idx (fun y => decide (sZoneId y = id)) w.Zones)] := call_of (fun k => by
    simp [Qie]
    refine lp_find (Q := fun i => k [I i]) w.Zones (fun i => [.list 2 (w.Zones.map eZone), I id, I 0, I w.Zones.length, I i]) (fun y => decide (sZoneId y = id)) rfl (fun i x hx hi K => ?_) fun K => ?_
    · simp [-getElem?_pos, Qie_r0, hx, hi, impl_zoneAt_1_n x id (hz x (mem_get hx)), wr_succ (show i < 1000000000000000000 by omega)]
    · simp [Qie_r0])
  simp only [Qif, un, cur0, e, atP_zero, rt_eq, scs_sc, scs_nil, flat_int, true_and]) k
theorem impl_hasZones_n (w : GWorld) (h : mZoneS w.Zones ≤ 1048576) (k) : call Qig [.agg (eWorld w)] k = k [.bool (sHasZones w.Zones)] := call_of (fun k => by
  obtain ⟨hl, hz⟩ := zoneS_le h
  simp only [Qig, un, cur0, lenP_eq, List.length_map]
  refine (lp_anyI (P := k [.bool false]) (fin := k [.bool (decide ((w.Zones.length : Int) ≤ 8))]) w.Zones (fun i => .bool false :: .list 2 (w.Zones.map eZone) :: I w.Zones.length :: I i :: eWorld w) (twinZ w.Zones) rfl (fun i x hx hi K => ?_) fun K => ?_).trans ifB
  · have e1 := Qic_n x (hz x (mem_get hx))
    have e2 := impl_zoneAt_n w (sZoneId x) h
    have e2' : ∀ k, call Qif [.agg [I w.Now, .list 1 (w.Actors.map eActor), .list 2 (w.Zones.map eZone), .list 3 (w.Said.map eSaid), .list 2 (w.Servers.map eServer), .list 1 (w.Known.Chains.map (fun l : List GSigned => [.list 17 (l.map eSigned)])), .list 51 (w.Known.Forks.map eFork), .list 23 (w.Cache.Lst.map eStored)], .one (I (sZoneId x))] k = k [I (idx (fun y => decide (sZoneId y = sZoneId x)) w.Zones)] := e2
    have e3 := zoneId_neg x
    have e4 := idx_take (p := fun y => decide (sZoneId y = sZoneId x)) hx (by simp)
    have e5 : decide (¬ idx (fun y => decide (sZoneId y = sZoneId x)) w.Zones = (i : Int)) = (w.Zones.take i).any (fun y => decide (sZoneId y = sZoneId x)) := by rw [decide_not, e4, Bool.not_not]
    have e6 : (i : Int) < (w.Zones.length : Int) := by omega
    simp only [Qig_r0, un, cur0, binP_lss, e6, decide_true, iteP_eq, if_true, elemP_map, Int.toNat_natCast, hx, oP_some, atP_zero, atP_succ, e1, e3, e2', binP_neq, bne, beqI, binP_add, wr_succ (show i < 1000000000000000000 by omega), e4, rt_eq, scs_sc, scs_nil, flat_bool, true_and, show (0 : Int) ≤ i by omega, Bool.not_not]
    unfold twinZ
    cases sIsZone x <;> simp
  · simp [Qig_r0]) k
def badZ (z : GZone) : Bool := !sIsZone z
def sServer (s : GServer) : Bool := !s.Zones.any badZ && (decide ((s.Zones.length : Int) ≤ 8) && inR s.Lie 0 4)
theorem Qek_n (s : GServer) (h : mServer s ≤ 1048576) (k) : call Qek [.agg (eServer s)] k = k [.bool (sServer s)] := call_of (fun k => by
  obtain ⟨hl, hz⟩ := zoneS_le (l := s.Zones) h
  simp only [Qek, un, cur0]
  refine (lp_any (P := k [.bool false]) (fin := k [.bool (decide ((s.Zones.length : Int) ≤ 8) && inR s.Lie 0 4)]) s.Zones (fun i => [.bool false, I i, .list 2 (s.Zones.map eZone), I s.Lie]) badZ rfl (fun i x hx hi K => ?_) fun K => ?_).trans ifB
  · have e1 := Qdy_n x (hz x (mem_get hx))
    simp [-getElem?_pos, Qek_r0, hx, hi, e1, wr_succ (show i < 1000000000000000000 by omega), badZ]
  · simp only [Qek_r0, un, cur0, lenP_eq, List.length_map, binP_lss, Int.lt_irrefl, decide_false, iteP_eq, Bool.false_eq_true, if_false, binP_leq, Qcf_n, atP_zero, rt_eq, scs_sc, scs_nil, flat_bool, true_and]
    exact stepB fun _ => Iff.rfl) k
theorem Qin_n (s : GServer) (h : mServer s ≤ 1048576) (k) : call Qin [.agg (eServer s)] k = k [.bool (sServer s)] := call_of (fun k => by
  obtain ⟨hl, hz⟩ := zoneS_le (l := s.Zones) h
  have e1 : ∀ z, mZone z ≤ 1048576 → ∀ k, call Qik [.agg (eZone z)] k = k [.bool (badZ z)] := fun z hz => call_of (fun k => by simp [Qik, Qib_n z hz, badZ])
  have e : ∀ k, call Qil [.one (.list 2 (s.Zones.map eZone)), .fn 132 []] k = k [I (idx badZ s.Zones)] := call_of (fun k => by
    simp [Qil]
    refine lp_find (Q := fun i => k [I i]) s.Zones (fun i => [.list 2 (s.Zones.map eZone), I 0, I s.Zones.length, I i]) badZ rfl (fun i x hx hi K => ?_) fun K => ?_
    · simp [-getElem?_pos, Qil_r0, hx, hi, e1 x (hz x (mem_get hx)), wr_succ (show i < 1000000000000000000 by omega)]
    · simp [Qil_r0])
  have e2 : ∀ k, call Qim [.one (.list 2 (s.Zones.map eZone)), .fn 132 []] k = k [.bool (s.Zones.any badZ)] := call_of (fun k => by simp [Qim, e, idx_any])
  simp only [Qin, un, cur0, lenP_eq, List.length_map, binP_leq, e2, unP_not, Qfj_n, atP_zero, iteP_eq, rt_eq, scs_sc, scs_nil, flat_bool, true_and]
  unfold sServer
  cases s.Zones.any badZ <;> cases decide ((s.Zones.length : Int) ≤ 8) <;> simp) k
def zSgn : GSigned := ⟨zHead, []⟩
theorem mzS : mSigned zSgn ≤ 1048576 := by decide
def sForkOk (f : GFork) : Bool := if decide (f.A.Head = f.B.Head) = true then false else if decide (f.Before = zSgn) = true then sIsFirst f.A && (sIsFirst f.B && decide (f.A.Head.Zone = f.B.Head.Zone)) else sMay f.Before.Head f.A && sMay f.Before.Head f.B
theorem fork_le2 {f : GFork} (h : mFork f ≤ 1048576) : mSigned f.Before ≤ 1048576 ∧ mSigned f.A ≤ 1048576 ∧ mSigned f.B ≤ 1048576 := by unfold mFork at h; omega
def badF (f : GFork) : Bool := !sForkOk f
def fz (c : List GSigned) : Int := match c[0]? with | some s => s.Head.Zone | none => 0
def hasZ (z : Int) (c : List GSigned) : Bool := match c[0]? with | some s => decide (s.Head.Zone = z) | none => false
def badC (l : List (List GSigned)) (i : Nat) (c : List GSigned) : Bool := !sIsChain c || (l.take i).any (hasZ (fz c))
def sKnown (a : GKnown) : Bool := !anyI (badC a.Chains) 0 a.Chains && (!a.Forks.any badF && (decide ((a.Chains.length : Int) ≤ 8) && decide ((a.Forks.length : Int) ≤ 8)))
theorem known_le2 {a : GKnown} (h : mKnown a ≤ 1048576) : a.Chains.length ≤ 1048576 ∧ (∀ c ∈ a.Chains, mSignedS c ≤ 1048576) ∧ a.Forks.length ≤ 1048576 ∧ ∀ f ∈ a.Forks, mFork f ≤ 1048576 := by
  unfold mKnown mSignedSS mForkS at h
  refine ⟨by omega, fun c hc => ?_, by omega, fun f hf => ?_⟩
  · have := sumN_mem (s := mSignedS) hc; omega
  · have := sumN_mem (s := mFork) hf; omega
theorem chain_fst {c : List GSigned} (h : sIsChain c = true) : ∃ s, c[0]? = some s := by
  obtain ⟨_, _, h0⟩ := chain_has h
  exact ⟨c[0], List.getElem?_eq_getElem h0⟩
theorem Qix_n (f : GFork) (h : mFork f ≤ 1048576) (k) : call Qix [.agg (eFork f)] k = k [.bool (sForkOk f)] := call_of (fun k => by
  obtain ⟨h1, h2, h3⟩ := fork_le2 h
  have e1 := Qiu_n f.A.Head f.B.Head (signed_le h2).1 (signed_le h3).1
  have e2 := Qiw_n f.Before zSgn h1 mzS
  have e3 := Qgr_n f.A h2
  have e4 := Qgr_n f.B h3
  have e5 := Qhb_n f.Before.Head f.A (signed_le h1).1 h2
  have e6 := Qhb_n f.Before.Head f.B (signed_le h1).1 h3
  simp only [Qix, un, cur0]
  rw [show [I 0, I 0, I 0, I 0, I 0, I 0, I 0, I 0, PV.list 1 [], I 0, PV.list 1 [], I 0, I 0, PV.list 1 [], I 0, PV.bool false, PV.list 2 []] = eSigned zSgn from rfl]
  simp only [e1, e2, e3, e4, e5, e6, binP_eql, beqI, atP_zero, iteP_eq, rt_eq, scs_sc, scs_nil, flat_bool, true_and]
  unfold sForkOk
  cases decide (f.A.Head = f.B.Head) <;> cases decide (f.Before = zSgn) <;> cases sIsFirst f.A <;> cases sIsFirst f.B <;> cases sMay f.Before.Head f.A <;> simp) k
theorem Qeq_n (f : GFork) (h : mFork f ≤ 1048576) (k) : call Qeq [.agg (eFork f)] k = k [.bool (sForkOk f)] := call_of (fun k => by
  obtain ⟨h1, h2, h3⟩ := fork_le2 h
  have e1 := Qee_n f.A.Head f.B.Head (signed_le h2).1 (signed_le h3).1
  have e2 := Qep_n f.Before zSgn h1 mzS
  have e3 := Qct_n f.A h2
  have e4 := Qct_n f.B h3
  have e5 := Qdc_n f.Before.Head f.A (signed_le h1).1 h2
  have e6 := Qdc_n f.Before.Head f.B (signed_le h1).1 h3
  simp only [Qeq, un, cur0]
  rw [show [I 0, I 0, I 0, I 0, I 0, I 0, I 0, I 0, PV.list 1 [], I 0, PV.list 1 [], I 0, I 0, PV.list 1 [], I 0, PV.bool false, PV.list 2 []] = eSigned zSgn from rfl]
  simp only [e1, e2, e3, e4, e5, e6, binP_eql, beqI, atP_zero, iteP_eq, rt_eq, scs_sc, scs_nil, flat_bool, true_and]
  unfold sForkOk
  cases decide (f.A.Head = f.B.Head) <;> cases decide (f.Before = zSgn) <;> cases sIsFirst f.A <;> cases sIsFirst f.B <;> cases sMay f.Before.Head f.A <;> simp) k
abbrev chains (l : List (List GSigned)) : PV := .list 1 (l.map (fun l : List GSigned => [PV.list 17 (l.map eSigned)]))
theorem Qeo_n (a : GKnown) (z : Int) (h : a.Chains.length ≤ 1048576) (k) : call Qeo [.agg (eKnown a), .one (I z)] k = k [I (idx (hasZ z) a.Chains)] := call_of (fun k => by
  simp only [Qeo, un, cur0]
  refine lp_find (Q := fun i => k [I i]) a.Chains (fun i => [I z, I 0, I i, chains a.Chains, .list 51 (a.Forks.map eFork)]) (hasZ z) rfl (fun i x hx hi K => ?_) fun K => ?_
  · unfold hasZ
    cases h0 : x[0]? with
    | none =>
      have h1 : x = [] := by cases x with | nil => rfl | cons s t => cases h0
      subst h1
      simp [-getElem?_pos, Qeo_r0, hx, hi, wr_succ (show i < 1000000000000000000 by omega)]
    | some s =>
      have h1 := lt_of_get h0
      simp [-getElem?_pos, Qeo_r0, hx, hi, h0, wr_succ (show i < 1000000000000000000 by omega), show (0 : Int) < (x.length : Int) by omega, h1]
  · simp [Qeo_r0]) k
theorem impl_find_1_n (c : List GSigned) (z : Int) (k) : call Qir [.one (.list 17 (c.map eSigned)), .ro (.cells [I z])] k = k [.bool (hasZ z c)] := call_of (fun k => by
  unfold hasZ
  cases h0 : c[0]? with
  | none =>
    have h1 : c = [] := by cases c with | nil => rfl | cons s t => cases h0
    subst h1
    simp [-getElem?_pos, Qir]
  | some s =>
    have h1 := lt_of_get h0
    simp [-getElem?_pos, Qir, h0, beqI, show (0 : Int) < (c.length : Int) by omega, h1]) k
theorem impl_find_n (a : GKnown) (z : Int) (h : a.Chains.length ≤ 1048576) (k) : call Qit [.agg (eKnown a), .one (I z)] k = k [I (idx (hasZ z) a.Chains)] := call_of (fun k => by
  have e : ∀ k, call Qis [.one (chains a.Chains), .fn 180 [.cells [I z]]] k = k [I (idx (hasZ z) a.Chains)] := call_of (fun k => by
    simp [Qis]
    refine lp_find (Q := fun i => k [I i]) a.Chains (fun i => [chains a.Chains, I z, I 0, I a.Chains.length, I i]) (hasZ z) rfl (fun i x hx hi K => ?_) fun K => ?_
    · simp [-getElem?_pos, Qis_r0, hx, hi, impl_find_1_n x z, wr_succ (show i < 1000000000000000000 by omega)]
    · simp [Qis_r0])
  simp only [Qit, un, cur0, e, atP_zero, rt_eq, scs_sc, scs_nil, flat_int, true_and]) k
theorem hasZ_self {c : List GSigned} (h : sIsChain c = true) : hasZ (fz c) c = true := by
  obtain ⟨s, hs⟩ := chain_fst h
  simp [hasZ, fz, hs]
theorem Qer_n (a : GKnown) (h : mKnown a ≤ 1048576) (k) : call Qer [.agg (eKnown a)] k = k [.bool (sKnown a)] := call_of (fun k => by
  obtain ⟨hl, hc, hl2, hf⟩ := known_le2 h
  simp only [Qer, un, cur0]
  refine (lp_anyI (P := k [.bool false]) (fin := k [.bool (!a.Forks.any badF && (decide ((a.Chains.length : Int) ≤ 8) && decide ((a.Forks.length : Int) ≤ 8)))]) a.Chains (fun i => [.bool false, I i, chains a.Chains, .list 51 (a.Forks.map eFork)]) (badC a.Chains) rfl (fun i x hx hi K => ?_) fun K => ?_).trans ifB
  · have e1 := Qde_n x (hc x (mem_get hx))
    unfold badC
    cases hq : sIsChain x with
    | false => simp [-getElem?_pos, Qer_r0, hx, hi, e1, hq]
    | true =>
      obtain ⟨s, hs⟩ := chain_fst hq
      have e2 := Qeo_n a s.Head.Zone hl
      have e3 := idx_take (p := hasZ (fz x)) hx (hasZ_self hq)
      have e4 : fz x = s.Head.Zone := by simp [fz, hs]
      rw [e4] at e3 ⊢
      simp only [Qer_r0, un, cur0, lenP_eq, List.length_map, binP_lss, show (i : Int) < (a.Chains.length : Int) by omega, decide_true, iteP_eq, if_true, elemP_map, Int.toNat_natCast, hx, oP_some, atP_zero, atP_succ, e1, hq, unP_not, Bool.not_true, Bool.false_eq_true, if_false, Int.toNat_zero, hs, e2, binP_neq, bne, beqI, e3, binP_add, wr_succ (show i < 1000000000000000000 by omega), rt_eq, scs_sc, scs_nil, flat_bool, true_and, show (0 : Int) ≤ i by omega, Int.le_refl, Bool.not_not, Bool.false_or, show (0 : Int) ≤ 0 by omega]
      simp
  · simp only [Qer_r0, un, cur0, lenP_eq, List.length_map, binP_lss, Int.lt_irrefl, decide_false, iteP_eq, Bool.false_eq_true, if_false]
    refine (lp_any (P := k [.bool false]) (fin := k [.bool (decide ((a.Chains.length : Int) ≤ 8) && decide ((a.Forks.length : Int) ≤ 8))]) a.Forks (fun i => [.bool false, I a.Chains.length, I i, chains a.Chains, .list 51 (a.Forks.map eFork)]) badF rfl (fun i x hx hi K => ?_) fun K => ?_).trans ifB
    · have e1 := Qeq_n x (hf x (mem_get hx))
      simp [-getElem?_pos, Qer_r1, hx, hi, e1, badF, wr_succ (show i < 1000000000000000000 by omega)]
    · simp only [Qer_r1, un, cur0, lenP_eq, List.length_map, binP_lss, Int.lt_irrefl, decide_false, iteP_eq, Bool.false_eq_true, if_false, binP_leq, rt_eq, scs_sc, scs_nil, flat_bool, true_and]
      exact stepB fun _ => Iff.rfl) k
theorem Qjb_n (a : GKnown) (h : mKnown a ≤ 1048576) (k) : call Qjb [.agg (eKnown a)] k = k [.bool (sKnown a)] := call_of (fun k => by
  obtain ⟨hl, hc, hl2, hf⟩ := known_le2 h
  have g1 : ∀ f, mFork f ≤ 1048576 → ∀ k, call Qiy [.agg (eFork f)] k = k [.bool (badF f)] := fun f hf => call_of (fun k => by simp [Qiy, Qix_n f hf, badF])
  have g2 : ∀ k, call Qiz [.one (.list 51 (a.Forks.map eFork)), .fn 134 []] k = k [I (idx badF a.Forks)] := call_of (fun k => by
    simp [Qiz]
    refine lp_find (Q := fun i => k [I i]) a.Forks (fun i => [.list 51 (a.Forks.map eFork), I 0, I a.Forks.length, I i]) badF rfl (fun i x hx hi K => ?_) fun K => ?_
    · simp [-getElem?_pos, Qiz_r0, hx, hi, g1 x (hf x (mem_get hx)), wr_succ (show i < 1000000000000000000 by omega)]
    · simp [Qiz_r0])
  have g3 : ∀ k, call Qja [.one (.list 51 (a.Forks.map eFork)), .fn 134 []] k = k [.bool (a.Forks.any badF)] := call_of (fun k => by simp [Qja, g2, idx_any])
  simp only [Qjb, un, cur0, lenP_eq, List.length_map]
  refine (lp_anyI (P := k [.bool false]) (fin := k [.bool (!a.Forks.any badF && (decide ((a.Chains.length : Int) ≤ 8) && decide ((a.Forks.length : Int) ≤ 8)))]) a.Chains (fun i => [.bool false, chains a.Chains, I a.Chains.length, I i, chains a.Chains, .list 51 (a.Forks.map eFork)]) (badC a.Chains) rfl (fun i x hx hi K => ?_) fun K => ?_).trans ifB
  · have e1 := Qhd_n x (hc x (mem_get hx))
    unfold badC
    cases hq : sIsChain x with
    | false => simp [-getElem?_pos, Qjb_r0, hx, hi, e1, hq]
    | true =>
      obtain ⟨s, hs⟩ := chain_fst hq
      have e2 := impl_find_n a s.Head.Zone hl
      have e3 := idx_take (p := hasZ (fz x)) hx (hasZ_self hq)
      have e4 : fz x = s.Head.Zone := by simp [fz, hs]
      rw [e4] at e3 ⊢
      simp only [Qjb_r0, un, cur0, lenP_eq, List.length_map, binP_lss, show (i : Int) < (a.Chains.length : Int) by omega, decide_true, iteP_eq, if_true, elemP_map, Int.toNat_natCast, hx, oP_some, atP_zero, atP_succ, e1, hq, unP_not, Bool.not_true, Bool.false_eq_true, if_false, Int.toNat_zero, hs, e2, binP_neq, bne, beqI, e3, binP_add, wr_succ (show i < 1000000000000000000 by omega), rt_eq, scs_sc, scs_nil, flat_bool, true_and, show (0 : Int) ≤ i by omega, Int.le_refl, Bool.not_not, Bool.false_or, show (0 : Int) ≤ 0 by omega]
      simp
  · simp only [Qjb_r0, un, cur0, lenP_eq, List.length_map, binP_lss, Int.lt_irrefl, decide_false, iteP_eq, Bool.false_eq_true, if_false, binP_leq, g3, unP_not, atP_zero, rt_eq, scs_sc, scs_nil, flat_bool, true_and]
    cases a.Forks.any badF <;> cases decide ((a.Chains.length : Int) ≤ 8) <;> cases decide ((a.Forks.length : Int) ≤ 8) <;> simp) k
def isS (z : Int) (n : ByteArray) (s : GStored) : Bool := decide (s.Zone = z) && decide (s.Label = n)
def badS (l : List GStored) (i : Nat) (s : GStored) : Bool := match sLast s.Answer.Chain with
  | some p => (l.take i).any (isS s.Zone s.Label) || !decide (sAns s.Zone s.Label s.Answer p.Time = 1)
  | none => true
def sCache (a : GCache) : Bool := !anyI (badS a.Lst) 0 a.Lst && decide ((a.Lst.length : Int) ≤ 16)
theorem cache_le {a : GCache} (h : mCache a ≤ 1048576) : a.Lst.length ≤ 1048576 ∧ ∀ s ∈ a.Lst, s.Label.size ≤ 1048576 ∧ mAnswer s.Answer ≤ 1048576 := by
  unfold mCache mStoredS at h
  refine ⟨by omega, fun s hs => ?_⟩
  have := sumN_mem (s := mStored) hs
  have e : mStored s = s.Label.size + mAnswer s.Answer := rfl
  omega
theorem Qes_n (a : GCache) (z : Int) (n : ByteArray) (h : a.Lst.length ≤ 1048576) (k) : call Qes [.agg (eCache a), .one (I z), .one (.str n)] k = k [I (idx (isS z n) a.Lst)] := call_of (fun k => by
  simp only [Qes, un, cur0]
  refine lp_find (Q := fun i => k [I i]) a.Lst (fun i => [I z, .str n, I 0, I i, .list 23 (a.Lst.map eStored)]) (isS z n) rfl (fun i x hx hi K => ?_) fun K => ?_
  · unfold isS
    simp [-getElem?_pos, Qes_r0, hx, hi, wr_succ (show i < 1000000000000000000 by omega)]
    by_cases h1 : x.Zone = z <;> by_cases h2 : x.Label = n <;> simp [h1, h2]
  · simp [Qes_r0]) k
theorem impl_cfind_1_n (s : GStored) (z : Int) (n : ByteArray) (k) : call Qjg [.agg (eStored s), .ro (.cells [I z]), .ro (.cells [.str n])] k = k [.bool (isS z n s)] := call_of (fun k => by
  unfold isS
  simp only [Qjg, un, cur0, binP_eql, beqI, binP_seql, iteP_eq, rt_eq, scs_sc, scs_nil, flat_bool, true_and]
  exact stepB fun _ => Iff.rfl) k
theorem impl_cfind_n (a : GCache) (z : Int) (n : ByteArray) (h : a.Lst.length ≤ 1048576) (k) : call Qji [.agg (eCache a), .one (I z), .one (.str n)] k = k [I (idx (isS z n) a.Lst)] := call_of (fun k => by
  have e : ∀ k, call Qjh [.one (.list 23 (a.Lst.map eStored)), .fn 185 [.cells [I z], .cells [.str n]]] k = k [I (idx (isS z n) a.Lst)] := call_of (fun k => by
    simp [Qjh]
    refine lp_find (Q := fun i => k [I i]) a.Lst (fun i => [.list 23 (a.Lst.map eStored), I z, .str n, I 0, I a.Lst.length, I i]) (isS z n) rfl (fun i x hx hi K => ?_) fun K => ?_
    · simp [-getElem?_pos, Qjh_r0, hx, hi, impl_cfind_1_n x z n, wr_succ (show i < 1000000000000000000 by omega)]
    · simp [Qjh_r0])
  simp only [Qji, un, cur0, e, atP_zero, rt_eq, scs_sc, scs_nil, flat_int, true_and]) k
theorem isS_self (s : GStored) : isS s.Zone s.Label s = true := by simp [isS]
theorem Qjw_n (a : GCache) (h : mCache a ≤ 1048576) (k) : call Qjw [.agg (eCache a)] k = k [.bool (sCache a)] := call_of (fun k => by
  obtain ⟨hl, hs0⟩ := cache_le h
  simp only [Qjw, un, cur0, lenP_eq, List.length_map]
  refine (lp_anyI (P := k [.bool false]) (fin := k [.bool (decide ((a.Lst.length : Int) ≤ 16))]) a.Lst (fun i => [.bool false, .list 23 (a.Lst.map eStored), I a.Lst.length, I i, .list 23 (a.Lst.map eStored)]) (badS a.Lst) rfl (fun i x hx hi K => ?_) fun K => ?_).trans ifB
  · obtain ⟨h1, h2⟩ := hs0 x (mem_get hx)
    have e1 := Qjf_n x.Answer.Chain (answer_le h2).1
    have e2 := impl_cfind_n a x.Zone x.Label hl
    have e3 := idx_take (p := isS x.Zone x.Label) hx (isS_self x)
    unfold badS
    cases hs : sLast x.Answer.Chain with
    | none =>
      rw [hs] at e1
      have e4 := Qjv_n x.Zone x.Label x.Answer 0 h1 h2
      have e5 : sAns x.Zone x.Label x.Answer 0 = 3 := by unfold sAns; rw [hs]
      rw [e5] at e4
      simp only [Qjw_r0, un, cur0, lenP_eq, List.length_map, binP_lss, show (i : Int) < (a.Lst.length : Int) by omega, decide_true, iteP_eq, if_true, elemP_map, Int.toNat_natCast, hx, oP_some, eStored, atP_zero, atP_succ, e1, oHead, zHead, eHead, List.cons_append, List.nil_append, e2, e4, unP_not, Bool.not_false, binP_neq, bne, beqI, e3, show (0 : Int) ≤ i by omega, rt_eq, scs_sc, scs_nil, flat_bool, true_and, Bool.not_not]
      try cases (a.Lst.take i).any (isS x.Zone x.Label) <;> simp
    | some p =>
      rw [hs] at e1
      have e4 := Qjv_n x.Zone x.Label x.Answer p.Time h1 h2
      simp only [Qjw_r0, un, cur0, lenP_eq, List.length_map, binP_lss, show (i : Int) < (a.Lst.length : Int) by omega, decide_true, iteP_eq, if_true, elemP_map, Int.toNat_natCast, hx, oP_some, eStored, atP_zero, atP_succ, e1, oHead, eHead, List.cons_append, List.nil_append, e2, e4, unP_not, Bool.not_true, Bool.false_eq_true, if_false, binP_neq, bne, beqI, e3, show (0 : Int) ≤ i by omega, rt_eq, scs_sc, scs_nil, flat_bool, true_and, Bool.not_not, binP_add, wr_succ (show i < 1000000000000000000 by omega)]
      cases (a.Lst.take i).any (isS x.Zone x.Label) <;> by_cases hq : sAns x.Zone x.Label x.Answer p.Time = 1 <;> simp [hq]
  · simp [Qjw_r0]) k
theorem Qfc_n (a : GCache) (h : mCache a ≤ 1048576) (k) : call Qfc [.agg (eCache a)] k = k [.bool (sCache a)] := call_of (fun k => by
  obtain ⟨hl, hs0⟩ := cache_le h
  simp only [Qfc, un, cur0, lenP_eq, List.length_map]
  refine (lp_anyI (P := k [.bool false]) (fin := k [.bool (decide ((a.Lst.length : Int) ≤ 16))]) a.Lst (fun i => [.bool false, I i, .list 23 (a.Lst.map eStored)]) (badS a.Lst) rfl (fun i x hx hi K => ?_) fun K => ?_).trans ifB
  · obtain ⟨h1, h2⟩ := hs0 x (mem_get hx)
    have e1 := Qdh_n x.Answer.Chain (answer_le h2).1
    have e2 := Qes_n a x.Zone x.Label hl
    have e3 := idx_take (p := isS x.Zone x.Label) hx (isS_self x)
    unfold badS
    cases hs : sLast x.Answer.Chain with
    | none =>
      rw [hs] at e1
      have e4 := Qfb_n x.Zone x.Label x.Answer 0 h1 h2
      have e5 : sAns x.Zone x.Label x.Answer 0 = 3 := by unfold sAns; rw [hs]
      rw [e5] at e4
      simp only [Qfc_r0, un, cur0, lenP_eq, List.length_map, binP_lss, show (i : Int) < (a.Lst.length : Int) by omega, decide_true, iteP_eq, if_true, elemP_map, Int.toNat_natCast, hx, oP_some, eStored, atP_zero, atP_succ, e1, oHead, zHead, eHead, List.cons_append, List.nil_append, e2, e4, unP_not, Bool.not_false, binP_neq, bne, beqI, e3, show (0 : Int) ≤ i by omega, rt_eq, scs_sc, scs_nil, flat_bool, true_and, Bool.not_not]
      try cases (a.Lst.take i).any (isS x.Zone x.Label) <;> simp
    | some p =>
      rw [hs] at e1
      have e4 := Qfb_n x.Zone x.Label x.Answer p.Time h1 h2
      simp only [Qfc_r0, un, cur0, lenP_eq, List.length_map, binP_lss, show (i : Int) < (a.Lst.length : Int) by omega, decide_true, iteP_eq, if_true, elemP_map, Int.toNat_natCast, hx, oP_some, eStored, atP_zero, atP_succ, e1, oHead, eHead, List.cons_append, List.nil_append, e2, e4, unP_not, Bool.not_true, Bool.false_eq_true, if_false, binP_neq, bne, beqI, e3, show (0 : Int) ≤ i by omega, rt_eq, scs_sc, scs_nil, flat_bool, true_and, Bool.not_not, binP_add, wr_succ (show i < 1000000000000000000 by omega)]
      cases (a.Lst.take i).any (isS x.Zone x.Label) <;> by_cases hq : sAns x.Zone x.Label x.Answer p.Time = 1 <;> simp [hq]
  · simp [Qfc_r0]) k
def badSaid (s : GSaid) : Bool := !sIsZone s.Zone
def badSrv (s : GServer) : Bool := !sServer s
def sWorld (w : GWorld) : Bool := !w.Said.any badSaid && (!w.Servers.any badSrv && (inR w.Now 0 99800 && (sAreActors w.Actors && (sHasZones w.Zones && (decide ((w.Said.length : Int) ≤ 60) && (decide ((w.Servers.length : Int) ≤ 4) && (sKnown w.Known && sCache w.Cache)))))))
theorem world_le {w : GWorld} (h : mWorld w ≤ 1048576) : mActorS w.Actors ≤ 1048576 ∧ mZoneS w.Zones ≤ 1048576 ∧ w.Said.length ≤ 1048576 ∧ (∀ s ∈ w.Said, mZone s.Zone ≤ 1048576) ∧ w.Servers.length ≤ 1048576 ∧ (∀ s ∈ w.Servers, mServer s ≤ 1048576) ∧ mKnown w.Known ≤ 1048576 ∧ mCache w.Cache ≤ 1048576 := by
  unfold mWorld mSaidS mServerS at h
  refine ⟨by omega, by omega, by omega, fun s hs => ?_, by omega, fun s hs => ?_, by omega, by omega⟩
  · have := sumN_mem (s := mSaid) hs
    have e : mSaid s = mZone s.Zone + s.Held.length := rfl
    omega
  · have := sumN_mem (s := mServer) hs; omega
theorem Qfd_n (w : GWorld) (h : mWorld w ≤ 1048576) (k) : call Qfd [.agg (eWorld w)] k = k [.bool (sWorld w)] := call_of (fun k => by
  obtain ⟨h1, h2, h3, h4, h5, h6, h7, h8⟩ := world_le h
  simp only [Qfd, un, cur0]
  refine (lp_any (P := k [.bool false]) (fin := k [.bool (!w.Servers.any badSrv && (inR w.Now 0 99800 && (sAreActors w.Actors && (sHasZones w.Zones && (decide ((w.Said.length : Int) ≤ 60) && (decide ((w.Servers.length : Int) ≤ 4) && (sKnown w.Known && sCache w.Cache)))))))]) w.Said (fun i => .bool false :: I i :: eWorld w) badSaid rfl (fun i x hx hi K => ?_) fun K => ?_).trans ifB
  · have e1 := Qdy_n x.Zone (h4 x (mem_get hx))
    simp [-getElem?_pos, Qfd_r0, hx, hi, e1, badSaid, wr_succ (show i < 1000000000000000000 by omega)]
  · simp only [Qfd_r0, un, cur0, lenP_eq, List.length_map, binP_lss, Int.lt_irrefl, decide_false, iteP_eq, Bool.false_eq_true, if_false]
    refine (lp_any (P := k [.bool false]) (fin := k [.bool (inR w.Now 0 99800 && (sAreActors w.Actors && (sHasZones w.Zones && (decide ((w.Said.length : Int) ≤ 60) && (decide ((w.Servers.length : Int) ≤ 4) && (sKnown w.Known && sCache w.Cache))))))]) w.Servers (fun i => .bool false :: I w.Said.length :: I i :: eWorld w) badSrv rfl (fun i x hx hi K => ?_) fun K => ?_).trans ifB
    · have e1 := Qek_n x (h6 x (mem_get hx))
      simp [-getElem?_pos, Qfd_r1, hx, hi, e1, badSrv, wr_succ (show i < 1000000000000000000 by omega)]
    · have e1 := Qel_n w.Actors h1
      have e2 := Qen_n w.Zones h2
      have e3 := Qer_n w.Known h7
      have e4 := Qfc_n w.Cache h8
      simp only [Qfd_r1, un, cur0, lenP_eq, List.length_map, binP_lss, Int.lt_irrefl, decide_false, iteP_eq, Bool.false_eq_true, if_false, Qcf_n, e1, e2, e3, e4, binP_leq, atP_zero, rt_eq, scs_sc, scs_nil, flat_bool, true_and]
      exact stepB fun _ => stepB fun _ => stepB fun _ => stepB fun _ => stepB fun _ => stepB fun _ => Iff.rfl) k
theorem Qjx_n (w : GWorld) (h : mWorld w ≤ 1048576) (k) : call Qjx [.agg (eWorld w)] k = k [.bool (sWorld w)] := call_of (fun k => by
  obtain ⟨h1, h2, h3, h4, h5, h6, h7, h8⟩ := world_le h
  have a1 : ∀ s : GSaid, mZone s.Zone ≤ 1048576 → ∀ k, call Qih [.agg (eSaid s)] k = k [.bool (badSaid s)] := fun s hs => call_of (fun k => by simp [Qih, Qib_n s.Zone hs, badSaid])
  have a2 : ∀ k, call Qii [.one (.list 3 (w.Said.map eSaid)), .fn 71 []] k = k [I (idx badSaid w.Said)] := call_of (fun k => by
    simp [Qii]
    refine lp_find (Q := fun i => k [I i]) w.Said (fun i => [.list 3 (w.Said.map eSaid), I 0, I w.Said.length, I i]) badSaid rfl (fun i x hx hi K => ?_) fun K => ?_
    · simp [-getElem?_pos, Qii_r0, hx, hi, a1 x (h4 x (mem_get hx)), wr_succ (show i < 1000000000000000000 by omega)]
    · simp [Qii_r0])
  have a3 : ∀ k, call Qij [.one (.list 3 (w.Said.map eSaid)), .fn 71 []] k = k [.bool (w.Said.any badSaid)] := call_of (fun k => by simp [Qij, a2, idx_any])
  have b1 : ∀ s : GServer, mServer s ≤ 1048576 → ∀ k, call Qio [.agg (eServer s)] k = k [.bool (badSrv s)] := fun s hs => call_of (fun k => by simp [Qio, Qin_n s hs, badSrv])
  have b2 : ∀ k, call Qip [.one (.list 2 (w.Servers.map eServer)), .fn 74 []] k = k [I (idx badSrv w.Servers)] := call_of (fun k => by
    simp [Qip]
    refine lp_find (Q := fun i => k [I i]) w.Servers (fun i => [.list 2 (w.Servers.map eServer), I 0, I w.Servers.length, I i]) badSrv rfl (fun i x hx hi K => ?_) fun K => ?_
    · simp [-getElem?_pos, Qip_r0, hx, hi, b1 x (h6 x (mem_get hx)), wr_succ (show i < 1000000000000000000 by omega)]
    · simp [Qip_r0])
  have b3 : ∀ k, call Qiq [.one (.list 2 (w.Servers.map eServer)), .fn 74 []] k = k [.bool (w.Servers.any badSrv)] := call_of (fun k => by simp [Qiq, b2, idx_any])
  have e1 := Qfs_n w.Actors h1
  have e2 : ∀ k, call Qig [.agg [I w.Now, .list 1 (w.Actors.map eActor), .list 2 (w.Zones.map eZone), .list 3 (w.Said.map eSaid), .list 2 (w.Servers.map eServer), .list 1 (w.Known.Chains.map (fun l : List GSigned => [.list 17 (l.map eSigned)])), .list 51 (w.Known.Forks.map eFork), .list 23 (w.Cache.Lst.map eStored)]] k = k [.bool (sHasZones w.Zones)] := impl_hasZones_n w h2
  have e3 := Qjb_n w.Known h7
  have e4 := Qjw_n w.Cache h8
  simp only [Qjx, un, cur0, lenP_eq, List.length_map, Qfj_n, e1, e2, e3, e4, a3, b3, binP_leq, unP_not, iteP_eq, atP_zero, rt_eq, scs_sc, scs_nil, flat_bool, true_and]
  unfold sWorld
  cases w.Said.any badSaid <;> cases w.Servers.any badSrv <;> cases inR w.Now 0 99800 <;> cases sAreActors w.Actors <;> cases sHasZones w.Zones <;> cases decide ((w.Said.length : Int) ≤ 60) <;> cases decide ((w.Servers.length : Int) ≤ 4) <;> cases sKnown w.Known <;> simp) k
theorem Qki_n (l m : List GEntry) (h : l.length + sumN mEntry l ≤ 1048576) (h' : m.length + sumN mEntry m ≤ 1048576) (k) : call Qki [.one (.list 4 (l.map eEntry)), .one (.list 4 (m.map eEntry)), .fn 144 []] k = k [.bool (decide (l = m))] := call_of (fun k => by
  simp [Qki]
  by_cases hl : l.length = m.length
  · rw [← listEq_d]
    simp [hl]
    refine lp_zipk k l m (fun i => [.list 4 (m.map eEntry), .bool false, .list 4 (l.map eEntry), I m.length, I i]) eqD rfl hl (fun i x y hx hy hi hj K => ?_) fun K => ?_
    · have s1 := sumN_mem (s := mEntry) (mem_get hx)
      have s2 := sumN_mem (s := mEntry) (mem_get hy)
      have e := Qjn_n x y (by omega) (by omega)
      simp [-getElem?_pos, Qki_r0, hx, hy, hj, e, wr_succ (show i < 1000000000000000000 by omega)]
      all_goals (by_cases hxy : x = y <;> simp [hxy])
    · simp [Qki_r0, hl]
  · simp [show ¬ (l.length : Int) = m.length by omega, len_ne hl]) k
theorem Qei_n (l m : List GEntry) (h : l.length + sumN mEntry l ≤ 1048576) (h' : m.length + sumN mEntry m ≤ 1048576) (k) : call Qei [.one (.list 4 (l.map eEntry)), .one (.list 4 (m.map eEntry))] k = k [.bool (decide (l = m))] := call_of (fun k => by
  simp [Qei]
  by_cases hl : l.length = m.length
  · rw [← listEq_d]
    simp [hl]
    refine lp_zipk k l m (fun i => [.list 4 (l.map eEntry), .list 4 (m.map eEntry), .bool false, I i]) eqD rfl hl (fun i x y hx hy hi hj K => ?_) fun K => ?_
    · have s1 := sumN_mem (s := mEntry) (mem_get hx)
      have s2 := sumN_mem (s := mEntry) (mem_get hy)
      have e := Qeh_n x y (by omega) (by omega)
      simp [-getElem?_pos, Qei_r0, hx, hy, hi, e, wr_succ (show i < 1000000000000000000 by omega)]
      all_goals (by_cases hxy : x = y <;> simp [hxy])
    · simp [Qei_r0]
  · simp [show ¬ (l.length : Int) = m.length by omega, len_ne hl]) k
theorem Qkj_n (l m : List GEntry) (h : mEntryS l ≤ 1048576) (h' : mEntryS m ≤ 1048576) (k) : call Qkj [.one (.list 4 (l.map eEntry)), .one (.list 4 (m.map eEntry))] k = k [.bool (decide (l = m))] := call_of (fun k => by
  have e := Qki_n l m h h'
  simp [Qkj, e]) k
theorem Qdz_n (l : List Int) (n : Int) (h : l.length < 1073741824) (k) : call Qdz [.one (ints l), .one (I n)] k = k [.bool (l.any (eqI n))] := call_of (fun k => by
  simp [Qdz]
  have := lp_anyk (R := fun L w => Qdz_r0 w L (k [.bool true]) fun q5 q6 q7 q8 => k [.bool false]) k true l (fun i => [ints l, I n, .bool false, I i]) (fun x => eqI x n) rfl (fun i x hx hi K => ?_) fun K => ?_
  · rw [eqI_comm] at this; simpa using this
  · simp [-getElem?_pos, Qdz_r0, hx, hi, wr_succ (show i < 1000000000000000000 by omega)]
  · simp [Qdz_r0]) k
theorem Qjy_n (l : List Int) (n : Int) (h : l.length < 1073741824) (k) : call Qjy [.one (ints l), .one (I n)] k = k [I (idx (eqI n) l)] := call_of (fun k => by
  simp [Qjy]
  refine lp_find (Q := fun i => k [I i]) l (fun i => [ints l, I n, I 0, I l.length, I i]) (eqI n) rfl (fun i x hx hi K => ?_) fun K => ?_
  · simp [-getElem?_pos, Qjy_r0, hx, hi, wr_succ (show i < 1000000000000000000 by omega)]
  · simp [Qjy_r0]) k
theorem Qjz_n (l : List Int) (n : Int) (h : l.length < 1073741824) (k) : call Qjz [.one (ints l), .one (I n)] k = k [.bool (l.any (eqI n))] := call_of (fun k => by
  simp [Qjz, Qjy_n l n h, idx_any]) k
theorem Qka_n (a : GKeys) (held : List Int) (h : mKeys a ≤ 1048576) (hh : held.length < 1073741824) (k) : call Qka [.agg [ints a.Lst, I a.Need], .one (ints held)] k = k [.bool (sCanSign a held)] := call_of (fun k => by
  have h' := h
  unfold mKeys at h'
  simp [Qka]
  refine lp_list a.Lst (fun i => [ints held, .bool false, I ((a.Lst.take i).countP fun key => held.any (eqI key) : Nat), ints a.Lst, I a.Lst.length, I i, ints a.Lst, I a.Need]) rfl (fun i x hx hi K => ?_) fun K => ?_
  · have hc : (a.Lst.take i).countP (fun key => held.any (eqI key)) ≤ i := Nat.le_trans List.countP_le_length (by simp; omega)
    simp [-getElem?_pos, Qka_r0, hx, hi, Qjz_n held x hh, take_snoc hx, wr_succ (show i < 1000000000000000000 by omega), wr_succ (show (a.Lst.take i).countP (fun key => held.any (eqI key)) < 1000000000000000000 by omega)]
    by_cases hm : x ∈ held <;> simp [hm]
  · simp [Qka_r0, Qfv_n a h, sCanSign]
    cases sIsKeys a <;> simp) k
theorem Qea_n (a : GKeys) (held : List Int) (h : mKeys a ≤ 1048576) (hh : held.length < 1073741824) (k) : call Qea [.agg [ints a.Lst, I a.Need], .one (ints held)] k = k [.bool (sCanSign a held)] := call_of (fun k => by
  have h' := h
  unfold mKeys at h'
  simp [Qea]
  refine lp_list a.Lst (fun i => [ints held, .bool false, I ((a.Lst.take i).countP fun key => held.any (eqI key) : Nat), I i, ints a.Lst, I a.Need]) rfl (fun i x hx hi K => ?_) fun K => ?_
  · have hc : (a.Lst.take i).countP (fun key => held.any (eqI key)) ≤ i := Nat.le_trans List.countP_le_length (by simp; omega)
    simp [-getElem?_pos, Qea_r0, hx, hi, Qdz_n held x hh, take_snoc hx, wr_succ (show i < 1000000000000000000 by omega), wr_succ (show (a.Lst.take i).countP (fun key => held.any (eqI key)) < 1000000000000000000 by omega)]
    by_cases hm : x ∈ held <;> simp [hm]
  · simp [Qea_r0, Qcg_n a h, sCanSign]
    cases sIsKeys a <;> simp) k
theorem Qkb_n (p : GHead) (kind : Int) (k) : call Qkb [.agg (eHead p), .one (I kind)] k = k [ints (sSignersFor p kind).Lst, I (sSignersFor p kind).Need] := call_of (fun k => by
  simp [Qkb, sSignersFor]
  by_cases h1 : kind = 1
  · simp [h1]
  · by_cases h2 : kind = 2
    · simp [h2]
    · by_cases h3 : kind = 3
      · simp [h3]
      · simp [h1, h2, h3, ints]) k
theorem Qeb_n (l : List GActor) (a : Int) (p : GHead) (kind : Int) (h : mActorS l ≤ 1048576) (hp : mHead p ≤ 1048576) (k) : call Qeb [.one (actors l), .one (I a), .agg (eHead p), .one (I kind)] k = k [.bool (sCanSpeak l a p kind)] := call_of (fun k => by
  have h' := h
  unfold mActorS at h'
  unfold mHead at hp
  simp [Qeb, Qcf_n, wr_last (show l.length < 1000000000000000000 by omega), inR_get, sCanSpeak]
  cases hg : getI l a with
  | none => simp
  | some x =>
    obtain ⟨h0, h1, h2⟩ := getI_some hg
    have hx : x.Held.length ≤ sumN mActor l := sumN_mem (s := mActor) h2
    simp [-getElem?_pos, h0, h1, Qea_n p.Keys x.Held (by omega) (by omega), Qea_n p.Heirs x.Held (by omega) (by omega), Qea_n p.Judge x.Held (by omega) (by omega), sSignersFor]
    by_cases k1 : kind = 1
    · simp [k1]
    · by_cases k2 : kind = 2
      · simp [k2]
      · by_cases k3 : kind = 3
        · simp [k3]
        · simp [k1, k2, k3, sCanSign, sIsKeys, inR]) k
theorem Qef_n (l m : List GSigned) (h : mSignedS l ≤ 1048576) (h' : mSignedS m ≤ 1048576) (k) : call Qef [.one (.list 17 (l.map eSigned)), .one (.list 17 (m.map eSigned))] k = k [.bool (sPre l m)] := call_of (fun k => by
  have hl0 := len_le h
  have hm0 := len_le h'
  unfold sPre
  by_cases hl : l.length ≤ m.length
  · simp only [hl, decide_true, Bool.true_and]
    simp [Qef, show ¬ (m.length : Int) < l.length by omega]
    refine (lp_anyIk k false l (fun i => [.list 17 (l.map eSigned), .list 17 (m.map eSigned), .bool false, I i]) (preP m) rfl (fun i x hx hi K => ?_) fun K => ?_).trans (by simp)
    · obtain ⟨y, hy⟩ : ∃ y, m[i]? = some y := ⟨m[i], List.getElem?_eq_getElem (by omega)⟩
      have e := Qee_n x.Head y.Head (mHead_le h (mem_get hx)) (mHead_le h' (mem_get hy))
      simp [-getElem?_pos, Qef_r0, hx, hy, hi, e, preP, wr_succ (show i < 1000000000000000000 by omega)]
      all_goals (by_cases hxy : x.Head = y.Head <;> simp [hxy])
    · simp [Qef_r0]
  · simp [Qef, hl, show (m.length : Int) < l.length by omega]) k
theorem Qkh_n (l m : List GSigned) (h : mSignedS l ≤ 1048576) (h' : mSignedS m ≤ 1048576) (k) : call Qkh [.one (.list 17 (l.map eSigned)), .one (.list 17 (m.map eSigned))] k = k [.bool (sPre l m)] := call_of (fun k => by
  have hl0 := len_le h
  have hm0 := len_le h'
  unfold sPre
  by_cases hl : l.length ≤ m.length
  · simp only [hl, decide_true, Bool.true_and]
    simp [Qkh, show ¬ (m.length : Int) < l.length by omega]
    refine (lp_anyIk k false l (fun i => [.list 17 (m.map eSigned), .bool false, .list 17 (l.map eSigned), I l.length, I i]) (preP m) rfl (fun i x hx hi K => ?_) fun K => ?_).trans (by simp)
    · obtain ⟨y, hy⟩ : ∃ y, m[i]? = some y := ⟨m[i], List.getElem?_eq_getElem (by omega)⟩
      have e := Qiu_n x.Head y.Head (mHead_le h (mem_get hx)) (mHead_le h' (mem_get hy))
      simp [-getElem?_pos, Qkh_r0, hx, hy, hi, e, preP, wr_succ (show i < 1000000000000000000 by omega)]
      all_goals (by_cases hxy : x.Head = y.Head <;> simp [hxy])
    · simp [Qkh_r0]
  · simp [Qkh, hl, show (m.length : Int) < l.length by omega]) k
theorem Qff_n (w : GWorld) (l : List GSigned) (h : mWorld w ≤ 1048576) (h' : mSignedS l ≤ 1048576) (k) : call Qff [.agg (eWorld w), .one (.list 17 (l.map eSigned))] k = k [.bool (sGrounded w.Said l)] := call_of (fun k => by
  obtain ⟨hs, hsl⟩ := said_le h
  simp [Qff]
  refine (lp_anyk k true w.Said (fun i => [.list 17 (l.map eSigned), .bool false, I i] ++ eWorld w) (fun s => sPre l s.Zone.Chain) rfl (fun i x hx hi K => ?_) fun K => ?_).trans (by simp [sGrounded])
  · have e := Qef_n l x.Zone.Chain h' (mChain_le hs (mem_get hx)).1
    simp [-getElem?_pos, Qff_r0, hx, hi, e, wr_succ (show i < 1000000000000000000 by omega)]
  · simp [Qff_r0]) k
theorem Qlf_n (w : GWorld) (l : List GSigned) (h : mWorld w ≤ 1048576) (h' : mSignedS l ≤ 1048576) (k) : call Qlf [.agg (eWorld w), .one (.list 17 (l.map eSigned))] k = k [.bool (sGrounded w.Said l)] := call_of (fun k => by
  obtain ⟨hs, hsl⟩ := said_le h
  have e : ∀ k, call Qlc [.one (.list 3 (w.Said.map eSaid)), .fn 141 [.fn 145 [[.list 17 (l.map eSigned)]]]] k = k [I (idx (fun s => sPre l s.Zone.Chain) w.Said)] := call_of (fun k => by
    simp [Qlc]
    refine lp_find (Q := fun i => k [I i]) w.Said (fun i => [.list 3 (w.Said.map eSaid), .list 17 (l.map eSigned), I 0, I w.Said.length, I i]) (fun s => sPre l s.Zone.Chain) rfl (fun i x hx hi K => ?_) fun K => ?_
    · have e := Qkh_n l x.Zone.Chain h' (mChain_le hs (mem_get hx)).1
      have e1 : ∀ k, call Qlb [.agg (eSaid x), .ro (.fn 145 [[.list 17 (l.map eSigned)]])] k = k [.bool (sPre l x.Zone.Chain)] := call_of (fun k => by
        simp [Qlb, call_of (g := Qla) (av := [.agg (eZone x.Zone), .ro (.cells [.list 17 (l.map eSigned)])]) (out := [.bool (sPre l x.Zone.Chain)]) (fun k => by simp [Qla, e])])
      simp [-getElem?_pos, Qlc_r0, hx, hi, e1, wr_succ (show i < 1000000000000000000 by omega)]
    · simp [Qlc_r0])
  have e2 : ∀ k, call Qld [.one (.list 3 (w.Said.map eSaid)), .fn 141 [.fn 145 [[.list 17 (l.map eSigned)]]]] k = k [.bool (sGrounded w.Said l)] := call_of (fun k => by simp [Qld, e, idx_any, sGrounded])
  have e3 : ∀ k, call Qle [.agg (eWorld w), .fn 145 [.cells [.list 17 (l.map eSigned)]]] k = k [.bool (sGrounded w.Said l)] := call_of (fun k => by simp [Qle, e2])
  simp [Qlf, e3]) k
theorem Qkm_n {P : GSaid → Bool} (l : List GSaid) (hl : l.length ≤ 1048576) (c : GZone) (hc : ∀ x ∈ l, ∀ k, call Qkl [.agg (eSaid x), .ro (.fn 82 [eZone c])] k = k [.bool (P x)]) (k) : call Qkm [.one (.list 3 (l.map eSaid)), .fn 141 [.fn 82 [eZone c]]] k = k [I (idx P l)] := call_of (fun k => by
  simp [Qkm]
  refine lp_find (Q := fun i => k [I i]) l (fun i => .list 3 (l.map eSaid) :: (eZone c ++ [I 0, I l.length, I i])) P rfl (fun i x hx hi K => ?_) fun K => ?_
  · have e := hc x (mem_get hx)
    simp [-getElem?_pos, Qkm_r0, hx, hi, e, wr_succ (show i < 1000000000000000000 by omega)]
  · simp [Qkm_r0]) k
theorem Qkn_n {P : GSaid → Bool} (l : List GSaid) (hl : l.length ≤ 1048576) (c : GZone) (hc : ∀ x ∈ l, ∀ k, call Qkl [.agg (eSaid x), .ro (.fn 82 [eZone c])] k = k [.bool (P x)]) (k) : call Qkn [.one (.list 3 (l.map eSaid)), .fn 141 [.fn 82 [eZone c]]] k = k [.bool (l.any P)] := call_of (fun k => by
  simp [Qkn, Qkm_n l hl c hc, idx_any]) k
theorem Qll_n {P : GSaid → Bool} (l : List GSaid) (hl : l.length ≤ 1048576) (c : GHead) (hc : ∀ x ∈ l, ∀ k, call Qlk [.agg (eSaid x), .ro (.fn 195 [eHead c])] k = k [.bool (P x)]) (k) : call Qll [.one (.list 3 (l.map eSaid)), .fn 141 [.fn 195 [eHead c]]] k = k [I (idx P l)] := call_of (fun k => by
  simp [Qll]
  refine lp_find (Q := fun i => k [I i]) l (fun i => .list 3 (l.map eSaid) :: (eHead c ++ [I 0, I l.length, I i])) P rfl (fun i x hx hi K => ?_) fun K => ?_
  · have e := hc x (mem_get hx)
    simp [-getElem?_pos, Qll_r0, hx, hi, e, wr_succ (show i < 1000000000000000000 by omega)]
  · simp [Qll_r0]) k
theorem Qlm_n {P : GSaid → Bool} (l : List GSaid) (hl : l.length ≤ 1048576) (c : GHead) (hc : ∀ x ∈ l, ∀ k, call Qlk [.agg (eSaid x), .ro (.fn 195 [eHead c])] k = k [.bool (P x)]) (k) : call Qlm [.one (.list 3 (l.map eSaid)), .fn 141 [.fn 195 [eHead c]]] k = k [.bool (l.any P)] := call_of (fun k => by
  simp [Qlm, Qll_n l hl c hc, idx_any]) k
theorem Qkx_n {P : GServer → Bool} (l : List GServer) (hl : l.length ≤ 1048576) (c : GWorld) (hc : ∀ x ∈ l, ∀ k, call Qkw [.agg (eServer x), .ro (.cells (eWorld c))] k = k [.bool (P x)]) (k) : call Qkx [.one (.list 2 (l.map eServer)), .fn 85 [.cells (eWorld c)]] k = k [I (idx P l)] := call_of (fun k => by
  simp [Qkx]
  refine lp_find (Q := fun i => k [I i]) l (fun i => .list 2 (l.map eServer) :: (eWorld c ++ [I 0, I l.length, I i])) P rfl (fun i x hx hi K => ?_) fun K => ?_
  · have e := hc x (mem_get hx)
    simp [-getElem?_pos, Qkx_r0, hx, hi, e, wr_succ (show i < 1000000000000000000 by omega)]
  · simp [Qkx_r0]) k
theorem Qky_n {P : GServer → Bool} (l : List GServer) (hl : l.length ≤ 1048576) (c : GWorld) (hc : ∀ x ∈ l, ∀ k, call Qkw [.agg (eServer x), .ro (.cells (eWorld c))] k = k [.bool (P x)]) (k) : call Qky [.one (.list 2 (l.map eServer)), .fn 85 [.cells (eWorld c)]] k = k [.bool (l.any P)] := call_of (fun k => by
  simp [Qky, Qkx_n l hl c hc, idx_any]) k
theorem Qku_n {P : GZone → Bool} (l : List GZone) (hl : l.length ≤ 1048576) (c : GWorld) (hc : ∀ x ∈ l, ∀ k, call Qkt [.agg (eZone x), .ro (.cells (eWorld c))] k = k [.bool (P x)]) (k) : call Qku [.one (.list 2 (l.map eZone)), .fn 86 [.cells (eWorld c)]] k = k [I (idx P l)] := call_of (fun k => by
  simp [Qku]
  refine lp_find (Q := fun i => k [I i]) l (fun i => .list 2 (l.map eZone) :: (eWorld c ++ [I 0, I l.length, I i])) P rfl (fun i x hx hi K => ?_) fun K => ?_
  · have e := hc x (mem_get hx)
    simp [-getElem?_pos, Qku_r0, hx, hi, e, wr_succ (show i < 1000000000000000000 by omega)]
  · simp [Qku_r0]) k
theorem Qkv_n {P : GZone → Bool} (l : List GZone) (hl : l.length ≤ 1048576) (c : GWorld) (hc : ∀ x ∈ l, ∀ k, call Qkt [.agg (eZone x), .ro (.cells (eWorld c))] k = k [.bool (P x)]) (k) : call Qkv [.one (.list 2 (l.map eZone)), .fn 86 [.cells (eWorld c)]] k = k [.bool (l.any P)] := call_of (fun k => by
  simp [Qkv, Qku_n l hl c hc, idx_any]) k
theorem Qlh_n {P : GSigned → Bool} (l : List GSigned) (hl : l.length ≤ 1048576) (c : GHead) (hc : ∀ x ∈ l, ∀ k, call Qlg [.agg (eSigned x), .ro (.cells (eHead c))] k = k [.bool (P x)]) (k) : call Qlh [.one (.list 17 (l.map eSigned)), .fn 197 [.cells (eHead c)]] k = k [I (idx P l)] := call_of (fun k => by
  simp [Qlh]
  refine lp_find (Q := fun i => k [I i]) l (fun i => .list 17 (l.map eSigned) :: (eHead c ++ [I 0, I l.length, I i])) P rfl (fun i x hx hi K => ?_) fun K => ?_
  · have e := hc x (mem_get hx)
    simp [-getElem?_pos, Qlh_r0, hx, hi, e, wr_succ (show i < 1000000000000000000 by omega)]
  · simp [Qlh_r0]) k
theorem Qli_n {P : GSigned → Bool} (l : List GSigned) (hl : l.length ≤ 1048576) (c : GHead) (hc : ∀ x ∈ l, ∀ k, call Qlg [.agg (eSigned x), .ro (.cells (eHead c))] k = k [.bool (P x)]) (k) : call Qli [.one (.list 17 (l.map eSigned)), .fn 197 [.cells (eHead c)]] k = k [.bool (l.any P)] := call_of (fun k => by
  simp [Qli, Qlh_n l hl c hc, idx_any]) k
theorem Qlr_n {P : GFork → Bool} (l : List GFork) (hl : l.length ≤ 1048576) (c : GWorld) (hc : ∀ x ∈ l, ∀ k, call Qlq [.agg (eFork x), .ro (.cells (eWorld c))] k = k [.bool (P x)]) (k) : call Qlr [.one (.list 51 (l.map eFork)), .fn 89 [.cells (eWorld c)]] k = k [I (idx P l)] := call_of (fun k => by
  simp [Qlr]
  refine lp_find (Q := fun i => k [I i]) l (fun i => .list 51 (l.map eFork) :: (eWorld c ++ [I 0, I l.length, I i])) P rfl (fun i x hx hi K => ?_) fun K => ?_
  · have e := hc x (mem_get hx)
    simp [-getElem?_pos, Qlr_r0, hx, hi, e, wr_succ (show i < 1000000000000000000 by omega)]
  · simp [Qlr_r0]) k
theorem Qls_n {P : GFork → Bool} (l : List GFork) (hl : l.length ≤ 1048576) (c : GWorld) (hc : ∀ x ∈ l, ∀ k, call Qlq [.agg (eFork x), .ro (.cells (eWorld c))] k = k [.bool (P x)]) (k) : call Qls [.one (.list 51 (l.map eFork)), .fn 89 [.cells (eWorld c)]] k = k [.bool (l.any P)] := call_of (fun k => by
  simp [Qls, Qlr_n l hl c hc, idx_any]) k
theorem Qej_n (w : GWorld) (z : GZone) (h : mWorld w ≤ 1048576) (h' : mZone z ≤ 1048576) (k) : call Qej [.agg (eWorld w), .agg (eZone z)] k = k [.bool (sSaid w.Said z)] := call_of (fun k => by
  obtain ⟨hs, hsl⟩ := said_le h
  obtain ⟨hz1, hz2⟩ := zone_le h'
  simp [Qej]
  refine (lp_anyk k true w.Said (fun i => [.bool false, I i] ++ (eZone z ++ eWorld w)) (saidP z) rfl (fun i x hx hi K => ?_) fun K => ?_).trans (by simp [sSaid])
  · obtain ⟨c1, c2⟩ := mChain_le hs (mem_get hx)
    have e1 := Qef_n x.Zone.Chain z.Chain c1 hz1
    have e2 := Qef_n z.Chain x.Zone.Chain hz1 c1
    have e3 := Qei_n x.Zone.Entries z.Entries c2 hz2
    simp [-getElem?_pos, Qej_r0, hx, hi, e1, e2, e3, saidP, wr_succ (show i < 1000000000000000000 by omega)]
    all_goals (cases sPre x.Zone.Chain z.Chain <;> cases sPre z.Chain x.Zone.Chain <;> by_cases h3 : x.Zone.Entries = z.Entries <;> simp [h3])
  · simp [Qej_r0]) k
theorem Qkp_n (w : GWorld) (z : GZone) (h : mWorld w ≤ 1048576) (h' : mZone z ≤ 1048576) (k) : call Qkp [.agg (eWorld w), .agg (eZone z)] k = k [.bool (sSaid w.Said z)] := call_of (fun k => by
  obtain ⟨hs, hsl⟩ := said_le h
  obtain ⟨hz1, hz2⟩ := zone_le h'
  have e2 := Qkn_n (P := saidP z) w.Said hsl z (fun x hx k => call_of (fun k => by
    obtain ⟨c1, c2⟩ := mChain_le hs hx
    have e1 := Qkh_n x.Zone.Chain z.Chain c1 hz1
    have e2 := Qkh_n z.Chain x.Zone.Chain hz1 c1
    have e3 := Qkj_n x.Zone.Entries z.Entries c2 hz2
    have e4 : ∀ k, call Qkk [.agg (eZone x.Zone), .ro (.cells (eZone z))] k = k [.bool (saidP z x)] := call_of (fun k => by
      simp [Qkk, e1, e2, e3, saidP]
      cases sPre x.Zone.Chain z.Chain <;> cases sPre z.Chain x.Zone.Chain <;> by_cases h3 : x.Zone.Entries = z.Entries <;> simp [h3])
    simp [Qkl, e4]) k)
  have e3 : ∀ k, call Qko [.agg (eWorld w), .fn 82 [.cells (eZone z)]] k = k [.bool (sSaid w.Said z)] := call_of (fun k => by simp [Qko, e2, sSaid])
  simp [Qkp, e3]) k
theorem Qfe_n (w : GWorld) (h : mWorld w ≤ 1048576) (k) : call Qfe [.agg (eWorld w)] k = k [.bool (sServers w)] := call_of (fun k => by
  obtain ⟨hl, hz⟩ := serv_le h
  simp [Qfe]
  refine (lp_anyk k false w.Servers (fun i => [.bool false, I i] ++ eWorld w) (servP w.Said) rfl (fun i x hx hi K => ?_) fun K => ?_).trans (by simp [sServers])
  · obtain ⟨hl2, hz2⟩ := hz x (mem_get hx)
    simp [-getElem?_pos, Qfe_r0, hx, hi]
    refine (lp_any (P := k [.bool false]) (fin := K ([.bool false, I ((i + 1 : Nat) : Int)] ++ eWorld w)) x.Zones (fun j => [.bool false, I i, I j] ++ eWorld w) (fun z => !sSaid w.Said z) rfl (fun j y hy hj K => ?_) fun K => ?_).trans (by simp [servP])
    · have e := Qej_n w y h (hz2 y (mem_get hy))
      simp [-getElem?_pos, Qfe_r1, hx, hi, hy, hj, e, wr_succ (show j < 1000000000000000000 by omega)]
    · simp [-getElem?_pos, Qfe_r1, hx, hi, wr_succ (show i < 1000000000000000000 by omega)]
  · simp [Qfe_r0]) k
theorem Qkz_n (w : GWorld) (h : mWorld w ≤ 1048576) (k) : call Qkz [.agg (eWorld w)] k = k [.bool (sServers w)] := call_of (fun k => by
  obtain ⟨hl, hz⟩ := serv_le h
  have e := Qky_n (P := servP w.Said) w.Servers hl w (fun x hx k => call_of (fun k => by
    obtain ⟨hl2, hz2⟩ := hz x hx
    have e := Qkv_n (P := fun z => !sSaid w.Said z) x.Zones hl2 w (fun y hy k => call_of (fun k => by
      simp [Qkt, Qkp_n w y h (hz2 y hy)]) k)
    simp [Qkw, e, servP]) k)
  simp [Qkz, e, sServers]) k
theorem Qlo_n (w : GWorld) (h0 : GHead) (h : mWorld w ≤ 1048576) (h' : mHead h0 ≤ 1048576) (k) : call Qlo [.agg (eWorld w), .agg (eHead h0)] k = k [.bool (sHead w.Said h0)] := call_of (fun k => by
  obtain ⟨hs, hsl⟩ := said_le h
  have e2 := Qlm_n (P := headP h0) w.Said hsl h0 (fun x hx k => call_of (fun k => by
    obtain ⟨c1, c2⟩ := mChain_le hs hx
    have e := Qli_n (P := fun y => decide (y.Head = h0)) x.Zone.Chain (len_le c1) h0 (fun y hy k => call_of (fun k => by
      simp [Qlg, Qiu_n y.Head h0 (mHead_le c1 hy) h']) k)
    have e4 : ∀ k, call Qlj [.agg (eZone x.Zone), .ro (.cells (eHead h0))] k = k [.bool (headP h0 x)] := call_of (fun k => by
      simp [Qlj, e, headP])
    simp [Qlk, e4]) k)
  have e3 : ∀ k, call Qln [.agg (eWorld w), .fn 195 [.cells (eHead h0)]] k = k [.bool (sHead w.Said h0)] := call_of (fun k => by simp [Qln, e2, sHead])
  simp [Qlo, e3]) k
theorem Qfg_n (w : GWorld) (s : GSigned) (h : mWorld w ≤ 1048576) (h' : mHead s.Head ≤ 1048576) (k) : call Qfg [.agg (eWorld w), .agg (eSigned s)] k = k [.bool (sHead w.Said s.Head)] := call_of (fun k => by
  obtain ⟨hs, hsl⟩ := said_le h
  simp only [Qfg, un, cur0, rt_eq, scs_sc, scs_nil, flat_bool, true_and]
  refine (lp_anyk k true w.Said (fun i => [.bool false, I i] ++ (eSigned s ++ eWorld w)) (headP s.Head) rfl (fun i x hx hi K => ?_) fun K => ?_).trans (by simp [sHead])
  · obtain ⟨c1, c2⟩ := mChain_le hs (mem_get hx)
    have hl2 := len_le c1
    simp [-getElem?_pos, Qfg_r0, hx, hi]
    refine (lp_any (P := k [.bool true]) (fin := K ([.bool false, I ((i + 1 : Nat) : Int)] ++ (eSigned s ++ eWorld w))) x.Zone.Chain (fun j => [.bool false, I i, .list 17 (x.Zone.Chain.map eSigned), I j] ++ (eSigned s ++ eWorld w)) (fun y => decide (y.Head = s.Head)) rfl (fun j y hy hj K => ?_) fun K => ?_).trans (by simp [headP])
    · have e := Qee_n y.Head s.Head (mHead_le c1 (mem_get hy)) h'
      simp [-getElem?_pos, Qfg_r1, hy, hj, e, wr_succ (show j < 1000000000000000000 by omega)]
    · simp [-getElem?_pos, Qfg_r1, wr_succ (show i < 1000000000000000000 by omega)]
  · simp [Qfg_r0]) k
theorem Qlp_n (w : GWorld) (f : GFork) (h : mWorld w ≤ 1048576) (h' : mFork f ≤ 1048576) (k) : call Qlp [.agg (eWorld w), .agg (eFork f)] k = k [.bool (sFork w.Said f)] := call_of (fun k => by
  obtain ⟨⟨m1, m2, m3⟩, q1, q2, q3⟩ := fork_le h'
  have e0 := Qiw_n f.Before zSigned m1 (by decide)
  have e1 := Qlo_n w f.Before.Head h q1
  have e2 := Qlo_n w f.A.Head h q2
  have e3 := Qlo_n w f.B.Head h q3
  simp only [Qlp, un, cur0]
  rw [show [I 0, I 0, I 0, I 0, I 0, I 0, I 0, I 0, PV.list 1 [], I 0, PV.list 1 [], I 0, I 0, PV.list 1 [], I 0, PV.bool false, PV.list 2 []] = eSigned zSigned from rfl, e0, e1, e2, e3]
  simp [sFork]
  by_cases h1 : f.Before = zSigned
  · cases sHead w.Said f.A.Head <;> cases sHead w.Said f.B.Head <;> simp [h1]
  · cases sHead w.Said f.Before.Head <;> cases sHead w.Said f.A.Head <;> cases sHead w.Said f.B.Head <;> simp [h1]) k
theorem Qlt_n (w : GWorld) (h : mWorld w ≤ 1048576) (k) : call Qlt [.agg (eWorld w)] k = k [.bool (sUser w)] := call_of (fun k => by
  obtain ⟨⟨l1, c1⟩, ⟨l2, c2⟩, l3, c3⟩ := known_le h
  have e3 := Qls_n (P := fun f => !sFork w.Said f) w.Known.Forks l2 w (fun f hf k => call_of (fun k => by
    simp [Qlq, Qlp_n w f h (c2 f hf)]) k)
  simp only [Qlt, un, cur0, lenP_eq, List.length_map, rt_eq, scs_sc, scs_nil, flat_bool, true_and]
  refine (lp_any (P := k [.bool false]) (fin := k [.bool (!(w.Cache.Lst.any fun s => !sGrounded w.Said s.Answer.Chain) && !(w.Known.Forks.any fun f => !sFork w.Said f))]) w.Known.Chains (fun i => [.bool false, .list 1 (w.Known.Chains.map fun l : List GSigned => [.list 17 (l.map eSigned)]), I w.Known.Chains.length, I i] ++ eWorld w) (fun l => !sGrounded w.Said l) rfl (fun i x hx hi K => ?_) fun K => ?_).trans ?_
  · have e := Qlf_n w x h (c1 x (mem_get hx))
    simp [-getElem?_pos, Qlt_r0, hx, hi, e, wr_succ (show i < 1000000000000000000 by omega)]
  · simp [Qlt_r0]
    refine (lp_any (P := k [.bool false]) (fin := k [.bool (!(w.Known.Forks.any fun f => !sFork w.Said f))]) w.Cache.Lst (fun i => [.bool false, .list 1 (w.Known.Chains.map fun l : List GSigned => [.list 17 (l.map eSigned)]), I w.Known.Chains.length, I w.Known.Chains.length, .list 23 (w.Cache.Lst.map eStored), I w.Cache.Lst.length, I i] ++ eWorld w) (fun s => !sGrounded w.Said s.Answer.Chain) rfl (fun i x hx hi K => ?_) fun K => ?_).trans ?_
    · have e := Qlf_n w x.Answer.Chain h (c3 x (mem_get hx))
      simp [-getElem?_pos, Qlt_r1, hx, hi, e, wr_succ (show i < 1000000000000000000 by omega)]
    · simp [Qlt_r1, e3]
    · cases (w.Cache.Lst.any fun s => !sGrounded w.Said s.Answer.Chain) <;> simp
  · unfold sUser
    cases (w.Known.Chains.any fun l => !sGrounded w.Said l) <;> simp) k
theorem Qfh_n (w : GWorld) (h : mWorld w ≤ 1048576) (k) : call Qfh [.agg (eWorld w)] k = k [.bool (sUser w)] := call_of (fun k => by
  obtain ⟨⟨l1, c1⟩, ⟨l2, c2⟩, l3, c3⟩ := known_le h
  simp only [Qfh, un, cur0, rt_eq, scs_sc, scs_nil, flat_bool, true_and]
  refine (lp_any (P := k [.bool false]) (fin := k [.bool (!(w.Cache.Lst.any fun s => !sGrounded w.Said s.Answer.Chain) && !(w.Known.Forks.any fun f => !sFork w.Said f))]) w.Known.Chains (fun i => [.bool false, I i] ++ eWorld w) (fun l => !sGrounded w.Said l) rfl (fun i x hx hi K => ?_) fun K => ?_).trans ?_
  · have e := Qff_n w x h (c1 x (mem_get hx))
    simp [-getElem?_pos, Qfh_r0, hx, hi, e, wr_succ (show i < 1000000000000000000 by omega)]
  · simp [Qfh_r0]
    refine (lp_any (P := k [.bool false]) (fin := k [.bool (!(w.Known.Forks.any fun f => !sFork w.Said f))]) w.Cache.Lst (fun i => [.bool false, I w.Known.Chains.length, I i] ++ eWorld w) (fun s => !sGrounded w.Said s.Answer.Chain) rfl (fun i x hx hi K => ?_) fun K => ?_).trans ?_
    · have e := Qff_n w x.Answer.Chain h (c3 x (mem_get hx))
      simp [-getElem?_pos, Qfh_r1, hx, hi, e, wr_succ (show i < 1000000000000000000 by omega)]
    · simp [Qfh_r1]
      refine (lp_anyk k false w.Known.Forks (fun i => [.bool false, I w.Known.Chains.length, I w.Cache.Lst.length, I i] ++ eWorld w) (fun f => !sFork w.Said f) rfl (fun i f hx hi K => ?_) fun K => ?_).trans (by simp)
      · obtain ⟨⟨m1, m2, m3⟩, q1, q2, q3⟩ := fork_le (c2 f (mem_get hx))
        have e0 := Qep_n f.Before zSigned m1 (by decide)
        have e1 := Qfg_n w f.Before h q1
        have e2 := Qfg_n w f.A h q2
        have e3 := Qfg_n w f.B h q3
        rw [show eSigned zSigned = [I 0, I 0, I 0, I 0, I 0, I 0, I 0, I 0, PV.list 1 [], I 0, PV.list 1 [], I 0, I 0, PV.list 1 [], I 0, PV.bool false, PV.list 2 []] from rfl] at e0
        simp [-getElem?_pos, Qfh_r2, hx, hi, e0, e1, e2, e3, sFork, wr_succ (show i < 1000000000000000000 by omega)]
        by_cases h1 : f.Before = zSigned
        · cases sHead w.Said f.A.Head <;> cases sHead w.Said f.B.Head <;> simp [h1]
        · cases sHead w.Said f.Before.Head <;> cases sHead w.Said f.A.Head <;> cases sHead w.Said f.B.Head <;> simp [h1]
      · simp [Qfh_r2]
    · cases (w.Cache.Lst.any fun s => !sGrounded w.Said s.Answer.Chain) <;> simp
  · unfold sUser
    cases (w.Known.Chains.any fun l => !sGrounded w.Said l) <;> simp) k
theorem Qkc_n (z : GZone) (held : List Int) (h : mZone z ≤ 1048576) (hh : held.length ≤ 1048575) (h0 : 1 ≤ z.Chain.length) (k) : call Qkc [.agg (eZone z), .one (ints held)] k = k [.bool (sMake z.Chain held)] := call_of (fun k => by
  obtain ⟨h1, h2⟩ := zone_le' h
  obtain ⟨hl, hm⟩ := chain_le h1
  unfold sMake
  by_cases hn : z.Chain.length = 1
  · obtain ⟨p, hp⟩ : ∃ p, z.Chain[0]? = some p := ⟨z.Chain[0], List.getElem?_eq_getElem (by omega)⟩
    have e := Qka_n p.Head.Keys held (keys_le (signed_le (hm p (mem_get hp))).1).1 (by omega)
    simp [-getElem?_pos, Qkc, hn, hp, e]
  · obtain ⟨p, hp⟩ : ∃ p, z.Chain[z.Chain.length - 2]? = some p := ⟨z.Chain[z.Chain.length - 2], List.getElem?_eq_getElem (by omega)⟩
    obtain ⟨q, hq⟩ : ∃ q, z.Chain[z.Chain.length - 1]? = some q := ⟨z.Chain[z.Chain.length - 1], List.getElem?_eq_getElem (by omega)⟩
    have w1 : IntKind.i64.wrap ((z.Chain.length : Int) - 1) = ((z.Chain.length - 1 : Nat) : Int) := by rw [wr_eq (by omega) (by omega)]; omega
    have w2 : IntKind.i64.wrap ((z.Chain.length : Int) - 2) = ((z.Chain.length - 2 : Nat) : Int) := by rw [wr_eq (by omega) (by omega)]; omega
    have hs := szSigners p.Head q.Head.Kind
    have hb := (signed_le (hm p (mem_get hp))).1
    have e1 := Qkb_n p.Head q.Head.Kind
    have e2 := Qka_n (sSignersFor p.Head q.Head.Kind) held (by omega) (by omega)
    simp [-getElem?_pos, Qkc, hn, show ¬ (z.Chain.length : Int) = 1 by omega, w1, w2, hp, hq, e1, e2]) k
theorem Qec_n (z : GZone) (held : List Int) (h : mZone z ≤ 1048576) (hh : held.length ≤ 1048575) (h0 : 1 ≤ z.Chain.length) (k) : call Qec [.one (ints held), .agg (eZone z)] k = k [.bool (sMake z.Chain held)] := call_of (fun k => by
  obtain ⟨h1, h2⟩ := zone_le' h
  obtain ⟨hl, hm⟩ := chain_le h1
  unfold sMake
  obtain ⟨q, hq⟩ : ∃ q, z.Chain[z.Chain.length - 1]? = some q := ⟨z.Chain[z.Chain.length - 1], List.getElem?_eq_getElem (by omega)⟩
  have w1 : IntKind.i64.wrap ((z.Chain.length : Int) - 1) = ((z.Chain.length - 1 : Nat) : Int) := by rw [wr_eq (by omega) (by omega)]; omega
  by_cases hn : z.Chain.length = 1
  · have hq0 : z.Chain[0]? = some q := by rw [hn] at hq; exact hq
    have e := Qea_n q.Head.Keys held (keys_le (signed_le (hm q (mem_get hq))).1).1 (by omega)
    have w0 : IntKind.i64.wrap 0 = 0 := wr_eq (by omega) (by omega)
    simp [-getElem?_pos, Qec, w1, w0, hn, hq0, e]
  · obtain ⟨p, hp⟩ : ∃ p, z.Chain[z.Chain.length - 2]? = some p := ⟨z.Chain[z.Chain.length - 2], List.getElem?_eq_getElem (by omega)⟩
    have w2 : IntKind.i64.wrap ((z.Chain.length : Int) - 2) = ((z.Chain.length - 2 : Nat) : Int) := by rw [wr_eq (by omega) (by omega)]; omega
    have hb := (signed_le (hm p (mem_get hp))).1
    have e := Qeb_n [⟨held⟩] 0 p.Head q.Head.Kind (by simp [mActorS, sumN, mActor]; omega) hb
    have e' : ∀ k, call Qeb [.one (.list 1 [[ints held]]), .one (I 0), .agg (eHead p.Head), .one (I q.Head.Kind)] k = k [.bool (sCanSign (sSignersFor p.Head q.Head.Kind) held)] := fun k => (e k).trans (by simp [sCanSpeak, getI])
    simp [-getElem?_pos, Qec, hn, show ¬ (z.Chain.length : Int) = 1 by omega, w1, w2, hp, hq, e']) k
theorem Qkd_n (s : GSaid) (h : mSaid s ≤ 1048576) (k) : call Qkd [.agg (eSaid s)] k = k [.bool (sCouldSay s)] := call_of (fun k => by
  obtain ⟨h1, h2⟩ := said_le' h
  have e := Qib_n s.Zone h1
  unfold sCouldSay
  cases hz : sIsZone s.Zone with
  | false => simp [Qkd, e, hz]
  | true =>
    have hp := zone_pos hz
    have e2 := Qkc_n s.Zone s.Held h1 (h2 hp) hp
    simp [Qkd, e, hz, e2]) k
theorem Qed_n (s : GSaid) (h : mSaid s ≤ 1048576) (k) : call Qed [.agg (eSaid s)] k = k [.bool (sCouldSay s)] := call_of (fun k => by
  obtain ⟨h1, h2⟩ := said_le' h
  have e := Qdy_n s.Zone h1
  unfold sCouldSay
  cases hz : sIsZone s.Zone with
  | false => simp [Qed, e, hz]
  | true =>
    have hp := zone_pos hz
    have e2 := Qec_n s.Zone s.Held h1 (h2 hp) hp
    simp [Qed, e, hz, e2]) k
end Go.Ev
set_option linter.unusedVariables false
set_option linter.unusedSimpArgs false
set_option maxRecDepth 4000
namespace Go.Ev
open Go.Proofs
def badCould (s : GSaid) : Bool := !sCouldSay s
def badIs (w : GWorld) (z : GZone) : Bool := !sSaid w.Said z
def sAudit (w : GWorld) : Bool := !w.Said.any badCould && (!w.Zones.any (badIs w) && (sWorld w && (sServers w && sUser w)))
theorem audit_le {w : GWorld} (h : mWorld w ≤ 1048576) : w.Said.length ≤ 1048576 ∧ (∀ s ∈ w.Said, mSaid s ≤ 1048576) ∧ w.Zones.length ≤ 1048576 ∧ ∀ z ∈ w.Zones, mZone z ≤ 1048576 := by
  unfold mWorld mSaidS mZoneS at h
  refine ⟨by omega, fun s hs => ?_, by omega, fun z hz => ?_⟩
  · have := sumN_mem (s := mSaid) hs; omega
  · have := sumN_mem (s := mZone) hz; omega
theorem Qfi_n (w : GWorld) (h : mWorld w ≤ 1048576) (k) : call Qfi [.agg (eWorld w)] k = k [.bool (sAudit w)] := call_of (fun k => by
  obtain ⟨h1, h2, h3, h4⟩ := audit_le h
  simp only [Qfi, un, cur0]
  refine (lp_any (P := k [.bool false]) (fin := k [.bool (!w.Zones.any (badIs w) && (sWorld w && (sServers w && sUser w)))]) w.Said (fun i => .bool false :: I i :: eWorld w) badCould rfl (fun i x hx hi K => ?_) fun K => ?_).trans ifB
  · have e1 := Qed_n x (h2 x (mem_get hx))
    simp [-getElem?_pos, Qfi_r0, hx, hi, e1, badCould, wr_succ (show i < 1000000000000000000 by omega)]
  · simp only [Qfi_r0, un, cur0, lenP_eq, List.length_map, binP_lss, Int.lt_irrefl, decide_false, iteP_eq, Bool.false_eq_true, if_false]
    refine (lp_any (P := k [.bool false]) (fin := k [.bool (sWorld w && (sServers w && sUser w))]) w.Zones (fun i => .bool false :: I w.Said.length :: I i :: eWorld w) (badIs w) rfl (fun i x hx hi K => ?_) fun K => ?_).trans ifB
    · have e1 := Qej_n w x h (h4 x (mem_get hx))
      simp only [Qfi_r1, un, cur0, lenP_eq, List.length_map, binP_lss, show (i : Int) < (w.Zones.length : Int) by omega, decide_true, iteP_eq, if_true, elemP_map, Int.toNat_natCast, hx, oP_some, atP_zero, atP_succ, e1, unP_not, binP_add, wr_succ (show i < 1000000000000000000 by omega), rt_eq, scs_sc, scs_nil, flat_bool, true_and, show (0 : Int) ≤ i by omega]
      unfold badIs
      simp
    · have e1 := Qfd_n w h
      have e2 := Qfe_n w h
      have e3 := Qfh_n w h
      simp only [Qfi_r1, un, cur0, lenP_eq, List.length_map, binP_lss, Int.lt_irrefl, decide_false, iteP_eq, Bool.false_eq_true, if_false, e1, e2, e3, atP_zero, rt_eq, scs_sc, scs_nil, flat_bool, true_and]
      exact stepB fun _ => stepB fun _ => Iff.rfl) k
theorem Qlu_n (w : GWorld) (h : mWorld w ≤ 1048576) (k) : call Qlu [.agg (eWorld w)] k = k [.bool (sAudit w)] := call_of (fun k => by
  obtain ⟨h1, h2, h3, h4⟩ := audit_le h
  have a1 : ∀ s : GSaid, mSaid s ≤ 1048576 → ∀ k, call Qke [.agg (eSaid s)] k = k [.bool (badCould s)] := fun s hs => call_of (fun k => by simp [Qke, Qkd_n s hs, badCould])
  have a2 : ∀ k, call Qkf [.one (.list 3 (w.Said.map eSaid)), .fn 28 []] k = k [I (idx badCould w.Said)] := call_of (fun k => by
    simp [Qkf]
    refine lp_find (Q := fun i => k [I i]) w.Said (fun i => [.list 3 (w.Said.map eSaid), I 0, I w.Said.length, I i]) badCould rfl (fun i x hx hi K => ?_) fun K => ?_
    · simp [-getElem?_pos, Qkf_r0, hx, hi, a1 x (h2 x (mem_get hx)), wr_succ (show i < 1000000000000000000 by omega)]
    · simp [Qkf_r0])
  have a3 : ∀ k, call Qkg [.one (.list 3 (w.Said.map eSaid)), .fn 28 []] k = k [.bool (w.Said.any badCould)] := call_of (fun k => by simp [Qkg, a2, idx_any])
  have b1 : ∀ z : GZone, mZone z ≤ 1048576 → ∀ k, call Qkq [.agg (eZone z), .ro (.cells (eWorld w))] k = k [.bool (badIs w z)] := fun z hz => call_of (fun k => by
    have e := Qkp_n w z h hz
    simp only [Qkq, un, cur0, e, unP_not, atP_zero, rt_eq, scs_sc, scs_nil, flat_bool, true_and, badIs])
  have b2 : ∀ k, call Qkr [.one (.list 2 (w.Zones.map eZone)), .fn 31 [.cells (eWorld w)]] k = k [I (idx (badIs w) w.Zones)] := call_of (fun k => by
    simp only [Qkr, un, cur0, lenP_eq, List.length_map]
    refine lp_find (Q := fun i => k [I i]) w.Zones (fun i => .list 2 (w.Zones.map eZone) :: (eWorld w ++ [I 0, I w.Zones.length, I i])) (badIs w) rfl (fun i x hx hi K => ?_) fun K => ?_
    · have b := b1 x (h4 x (mem_get hx))
      simp only [Qkr_r0, un, cur0, List.cons_append, List.nil_append, binP_lss, show (i : Int) < (w.Zones.length : Int) by omega, decide_true, iteP_eq, if_true, elemP_map, Int.toNat_natCast, hx, oP_some, atP_zero, atP_succ, b, binP_add, wr_succ (show i < 1000000000000000000 by omega), rt_eq, scs_sc, scs_nil, flat_int, true_and, show (0 : Int) ≤ i by omega]
      simp
    · simp [Qkr_r0])
  have b3 : ∀ k, call Qks [.one (.list 2 (w.Zones.map eZone)), .fn 31 [.cells (eWorld w)]] k = k [.bool (w.Zones.any (badIs w))] := call_of (fun k => by
    simp only [Qks, un, cur0, b2, binP_geq, atP_zero, idx_any, rt_eq, scs_sc, scs_nil, flat_bool, true_and])
  have e1 := Qjx_n w h
  have e2 := Qkz_n w h
  have e3 := Qlt_n w h
  simp only [Qlu, un, cur0, e1, e2, e3, a3, b3, unP_not, iteP_eq, atP_zero, rt_eq, scs_sc, scs_nil, flat_bool, true_and]
  unfold sAudit
  cases w.Said.any badCould <;> cases w.Zones.any (badIs w) <;> cases sWorld w <;> cases sServers w <;> simp) k
end Go.Ev
set_option linter.unusedVariables false
set_option linter.unusedSimpArgs false
set_option maxRecDepth 4000
set_option maxHeartbeats 2000000
namespace Go.Ev
open Go.Proofs
theorem laws_FnExactAuditWorld_law (pvss : List (List PV)) (h : HasEach [[.int .i64, .list [.list [.int .i64]], .list [.list [.int .i64, .int .i64, .int .i64, .int .i64, .int .i64, .int .i64, .int .i64, .int .i64, .list [.int .i64], .int .i64, .list [.int .i64], .int .i64, .int .i64, .list [.int .i64], .int .i64, .bool, .list [.int .i64, .int .i64]], .list [.str, .int .i64, .int .i64, .list [.str]]], .list [.list [.int .i64, .int .i64, .int .i64, .int .i64, .int .i64, .int .i64, .int .i64, .int .i64, .list [.int .i64], .int .i64, .list [.int .i64], .int .i64, .int .i64, .list [.int .i64], .int .i64, .bool, .list [.int .i64, .int .i64]], .list [.str, .int .i64, .int .i64, .list [.str]], .list [.int .i64]], .list [.list [.list [.int .i64, .int .i64, .int .i64, .int .i64, .int .i64, .int .i64, .int .i64, .int .i64, .list [.int .i64], .int .i64, .list [.int .i64], .int .i64, .int .i64, .list [.int .i64], .int .i64, .bool, .list [.int .i64, .int .i64]], .list [.str, .int .i64, .int .i64, .list [.str]]], .int .i64], .list [.list [.int .i64, .int .i64, .int .i64, .int .i64, .int .i64, .int .i64, .int .i64, .int .i64, .list [.int .i64], .int .i64, .list [.int .i64], .int .i64, .int .i64, .list [.int .i64], .int .i64, .bool, .list [.int .i64, .int .i64]]], .list [.int .i64, .int .i64, .int .i64, .int .i64, .int .i64, .int .i64, .int .i64, .int .i64, .list [.int .i64], .int .i64, .list [.int .i64], .int .i64, .int .i64, .list [.int .i64], .int .i64, .bool, .list [.int .i64, .int .i64], .int .i64, .int .i64, .int .i64, .int .i64, .int .i64, .int .i64, .int .i64, .int .i64, .list [.int .i64], .int .i64, .list [.int .i64], .int .i64, .int .i64, .list [.int .i64], .int .i64, .bool, .list [.int .i64, .int .i64], .int .i64, .int .i64, .int .i64, .int .i64, .int .i64, .int .i64, .int .i64, .int .i64, .list [.int .i64], .int .i64, .list [.int .i64], .int .i64, .int .i64, .list [.int .i64], .int .i64, .bool, .list [.int .i64, .int .i64]], .list [.int .i64, .str, .list [.int .i64, .int .i64, .int .i64, .int .i64, .int .i64, .int .i64, .int .i64, .int .i64, .list [.int .i64], .int .i64, .list [.int .i64], .int .i64, .int .i64, .list [.int .i64], .int .i64, .bool, .list [.int .i64, .int .i64]], .bool, .str, .int .i64, .int .i64, .list [.str], .int .i64, .list [.int .i64], .int .i64, .str, .int .i64, .int .i64, .list [.str], .str, .int .i64, .int .i64, .list [.str], .int .i64, .list [.int .i64], .int .i64, .list [.int .i64]]]] pvss) : laws_FnExactAuditWorld (avsOf Tryz.prog Tryz.f3.params.toList pvss) (fun o => o = [PV.bool true]) := by
  obtain ⟨p0, r0, rfl, h0, hq0⟩ := each_cons h
  rw [each_nil hq0]
  obtain ⟨x0, rfl, w0⟩ := decWorld _ h0
  rw [show avsOf Tryz.prog Tryz.f3.params.toList [eWorld x0] = [.agg (eWorld x0)] by kernel_rfl]
  simp only [laws_FnExactAuditWorld, un, cur0, Qbb_n x0 (1048576) w0 (by omega) (by omega), binP_lss, iteP_eq, atP_zero, atP_succ, rt_eq, scs_sc, scs_nil, flat_int, flat_bool, true_and, and_true]
  by_cases c0 : ((mWorld x0 : Nat) : Int) ≤ 1048576
  rotate_left
  · simp [szr_not c0]
  simp only [szr_yes c0, show ¬ (1048576 - ((mWorld x0 : Nat) : Int) < 0) by omega, decide_false, Bool.false_eq_true, if_false, binP_lss, iteP_eq, atP_zero, atP_succ, rt_eq, scs_sc, scs_nil, flat_int, flat_bool, true_and, and_true]
  have s0 : mWorld x0 ≤ 1048576 := by omega
  simp [Qce_n x0 s0, Qmx_n x0 s0, Qfi_n x0 s0, Qlu_n x0 s0]
end Go.Ev
