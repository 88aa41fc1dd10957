/- What each function hands back, in plain Lean, and that the laws answer true, part 2. -/
import Derived.Test.YtjoaaoaleeambaaGreatHum1
set_option linter.unusedVariables false
set_option linter.unusedSimpArgs false
set_option maxRecDepth 4000
namespace Go.Ev
open Go.Proofs
/-! ### What a valid chain ends in; answers -/
theorem findX_neg {α : Type} (p : Nat → α → Bool) : ∀ (i : Nat) (l : List α), findX p i l < 0 → ∀ j x, l[j]? = some x → p (i + j) x = false
  | i, [], _, j, x, hx => by simp at hx
  | i, y :: l, h, j, x, hx => by
    rw [findX] at h
    split at h
    · omega
    · rename_i hp
      cases j with
      | zero => simp at hx; subst hx; simpa using hp
      | succ j =>
        have := findX_neg p (i + 1) l h j x (by simpa using hx)
        rwa [show i + (j + 1) = i + 1 + j by omega]
theorem may_head {p : GHead} {s : GSigned} (h : sMay p s = true) : sIsHead s.Head = true := by
  unfold sMay sCode at h
  cases h1 : sIsHead s.Head with
  | true => rfl
  | false => rw [h1] at h; cases h2 : sIsHead p <;> simp [h2] at h
theorem last_head {l : List GSigned} {p : GHead} (h : sLast l = some p) : sIsHead p = true := by
  obtain ⟨hc, s, hs, rfl⟩ := last_some h
  unfold sIsChain at hc
  simp only [Bool.and_eq_true, decide_eq_true_eq] at hc
  have := findX_neg (wrongP l) 0 l hc.2 (l.length - 1) s hs
  unfold wrongP at this
  split at this
  · have h2 : sIsFirst s = true := by simpa using this
    unfold sIsFirst at h2
    simp only [Bool.and_eq_true] at h2
    exact h2.1
  · split at this
    · exact may_head (by simpa using this)
    · cases this
theorem last_bounds {l : List GSigned} {p : GHead} (h : sLast l = some p) : (0 ≤ p.Count ∧ p.Count ≤ 12) ∧ 0 ≤ p.Zone := by
  have := last_head h
  unfold sIsHead inR at this
  simp only [Bool.and_eq_true, decide_eq_true_eq] at this
  omega
def sProved (p : GHead) (label : ByteArray) (a : GAnswer) : Bool := if a.Found = true then (if decide (a.Entry.Label = label) = true then sCheckEntry p.Root p.Count a.Entry a.Proof && decide (a.Gap = zGap) else false) else sAbs p.Root p.Count label a.Gap && sZero a.Entry a.Proof
theorem answer_le {a : GAnswer} (h : mAnswer a ≤ 1048576) : mSignedS a.Chain ≤ 1048576 ∧ mEntry a.Entry ≤ 1048576 ∧ mProof a.Proof ≤ 1048576 ∧ mGap a.Gap ≤ 1048576 := by unfold mAnswer at h; omega
def sAns (zone : Int) (label : ByteArray) (a : GAnswer) (now : Int) : Int := match sLast a.Chain with
  | none => 3
  | some p => if decide (p.Zone = zone) = false then 2 else if inR now p.Time p.Until = false then 4 else if p.Frozen = true then 5 else if sProved p label a = false then 6 else 1
def sZoneId (z : GZone) : Int := if sIsZone z = true then (match sLast z.Chain with | some p => p.Zone | none => -1) else -1
theorem zone_last {z : GZone} (h : sIsZone z = true) : ∃ p, sLast z.Chain = some p := by
  unfold sIsZone at h
  cases hs : sLast z.Chain with
  | none => rw [hs] at h; cases h
  | some p => exact ⟨p, rfl⟩
theorem zoneId_neg (z : GZone) : decide (sZoneId z < 0) = !sIsZone z := by
  unfold sZoneId
  cases h : sIsZone z with
  | false => simp
  | true =>
    obtain ⟨p, hp⟩ := zone_last h
    have := last_bounds hp
    simp only [if_true, hp, Bool.not_true, decide_eq_false_iff_not]
    omega
theorem impl_IsFresh_n (p : GHead) (now : Int) (k) : call impl_IsFresh [.agg (eHead p), .one (I now)] k = k [.bool (inR now p.Time p.Until)] := call_of (fun k => by
  simp only [impl_IsFresh, un, cur0, impl_InRange_n, atP_zero, rt_eq, scs_sc, scs_nil, flat_bool, true_and]) k
theorem impl_isProved_n (p : GHead) (label : ByteArray) (a : GAnswer) (hc : 0 ≤ p.Count ∧ p.Count ≤ 12) (hl : label.size ≤ 1048576) (h : mAnswer a ≤ 1048576) (k) : call impl_isProved [.agg (eHead p), .one (.str label), .agg (eAnswer a)] k = k [.bool (sProved p label a)] := call_of (fun k => by
  obtain ⟨h1, h2, h3, h4⟩ := answer_le h
  have e1 := impl_CheckEntry_n p.Root p.Count a.Entry a.Proof h2 h3
  have e2 := impl_EqualGaps_n a.Gap zGap h4 mz.2.2
  have e3 := impl_CheckAbsence_n p.Root p.Count label a.Gap hc hl h4
  have e4 := impl_isZeroEntry_n a.Entry h2
  have e5 := impl_isZeroProof_n a.Proof h3
  simp only [impl_isProved, un, cur0]
  rw [show [I 0, PV.str ⟨#[]⟩, I 0, I 0, PV.list 1 [], PV.str ⟨#[]⟩, I 0, I 0, PV.list 1 [], I 0, PV.list 1 [], I 0, PV.list 1 []] = eGap zGap from rfl]
  simp only [e1, e2, e3, e4, e5, binP_seql, atP_zero, iteP_eq, rt_eq, scs_sc, scs_nil, flat_bool, true_and]
  unfold sProved sZero
  generalize decide (a.Entry.Label = label) = b1
  generalize sCheckEntry p.Root p.Count a.Entry a.Proof = b2
  generalize sAbs p.Root p.Count label a.Gap = b3
  generalize decide (a.Entry = zEntry) = b4
  cases a.Found <;> cases b1 <;> cases b2 <;> cases b3 <;> cases b4 <;> simp) k
theorem impl_CheckAnswer_n (zone : Int) (label : ByteArray) (a : GAnswer) (now : Int) (hl : label.size ≤ 1048576) (h : mAnswer a ≤ 1048576) (k) : call impl_CheckAnswer [.one (I zone), .one (.str label), .agg (eAnswer a), .one (I now)] k = k [I (sAns zone label a now)] := call_of (fun k => by
  obtain ⟨h1, h2, h3, h4⟩ := answer_le h
  have e1 := impl_LastHead_n a.Chain h1
  unfold sAns
  cases hs : sLast a.Chain with
  | none =>
    rw [hs] at e1
    simp only [impl_CheckAnswer, un, cur0, e1, oHead, zHead, eHead, List.cons_append, List.nil_append, unP_not, atP_zero, atP_succ, iteP_eq, rt_eq, scs_sc, scs_nil, flat_int, true_and, Bool.not_false, if_true]
  | some p =>
    rw [hs] at e1
    have e2 := impl_IsFresh_n p now
    have e3 := impl_isProved_n p label a (last_bounds hs).1 hl h
    simp only [impl_CheckAnswer, un, cur0, e1, e2, e3, oHead, eHead, List.cons_append, List.nil_append, unP_not, binP_neq, bne, beqI, atP_zero, atP_succ, iteP_eq, rt_eq, scs_sc, scs_nil, flat_int, true_and, Bool.not_true, Bool.false_eq_true, if_false]
    cases decide (p.Zone = zone) <;> cases inR now p.Time p.Until <;> cases p.Frozen <;> cases sProved p label a <;> simp) k
theorem spec_IsFresh_n (p : GHead) (now : Int) (k) : call spec_IsFresh [.agg (eHead p), .one (I now)] k = k [.bool (inR now p.Time p.Until)] := call_of (fun k => by
  simp only [spec_IsFresh, un, cur0, spec_l1In_n, atP_zero, rt_eq, scs_sc, scs_nil, flat_bool, true_and]) k
theorem spec_l21Proved_n (p : GHead) (label : ByteArray) (a : GAnswer) (hc : 0 ≤ p.Count ∧ p.Count ≤ 12) (hl : label.size ≤ 1048576) (h : mAnswer a ≤ 1048576) (k) : call spec_l21Proved [.agg (eHead p), .one (.str label), .agg (eAnswer a)] k = k [.bool (sProved p label a)] := call_of (fun k => by
  obtain ⟨h1, h2, h3, h4⟩ := answer_le h
  have e1 := spec_CheckEntry_n p.Root p.Count a.Entry a.Proof h2 h3
  have e2 := spec_EqualGaps_n a.Gap zGap h4 mz.2.2
  have e3 := spec_CheckAbsence_n p.Root p.Count label a.Gap hc.2 hl h4
  have e4 := spec_l12None_n a.Entry a.Proof h2 h3
  have e5 := e4
  simp only [spec_l21Proved, un, cur0]
  rw [show [I 0, PV.str ⟨#[]⟩, I 0, I 0, PV.list 1 [], PV.str ⟨#[]⟩, I 0, I 0, PV.list 1 [], I 0, PV.list 1 [], I 0, PV.list 1 []] = eGap zGap from rfl]
  simp only [e1, e2, e3, e4, e5, binP_seql, atP_zero, iteP_eq, rt_eq, scs_sc, scs_nil, flat_bool, true_and]
  unfold sProved
  generalize decide (a.Entry.Label = label) = b1
  generalize sCheckEntry p.Root p.Count a.Entry a.Proof = b2
  generalize sAbs p.Root p.Count label a.Gap = b3
  generalize decide (a.Entry = zEntry) = b4
  cases a.Found <;> cases b1 <;> cases b2 <;> cases b3 <;> cases b4 <;> simp) k
theorem spec_CheckAnswer_n (zone : Int) (label : ByteArray) (a : GAnswer) (now : Int) (hl : label.size ≤ 1048576) (h : mAnswer a ≤ 1048576) (k) : call spec_CheckAnswer [.one (I zone), .one (.str label), .agg (eAnswer a), .one (I now)] k = k [I (sAns zone label a now)] := call_of (fun k => by
  obtain ⟨h1, h2, h3, h4⟩ := answer_le h
  have e1 := spec_LastHead_n a.Chain h1
  unfold sAns
  cases hs : sLast a.Chain with
  | none =>
    rw [hs] at e1
    simp only [spec_CheckAnswer, un, cur0, e1, oHead, zHead, eHead, List.cons_append, List.nil_append, unP_not, atP_zero, atP_succ, iteP_eq, rt_eq, scs_sc, scs_nil, flat_int, true_and, Bool.not_false, if_true]
  | some p =>
    rw [hs] at e1
    have e2 := spec_IsFresh_n p now
    have e3 := spec_l21Proved_n p label a (last_bounds hs).1 hl h
    simp only [spec_CheckAnswer, un, cur0, e1, e2, e3, oHead, eHead, List.cons_append, List.nil_append, unP_not, binP_neq, bne, beqI, atP_zero, atP_succ, iteP_eq, rt_eq, scs_sc, scs_nil, flat_int, true_and, Bool.not_true, Bool.false_eq_true, if_false]
    cases decide (p.Zone = zone) <;> cases inR now p.Time p.Until <;> cases p.Frozen <;> cases sProved p label a <;> simp) k
theorem spec_ZoneId_n (z : GZone) (h : mZone z ≤ 1048576) (k) : call spec_ZoneId [.agg (eZone z)] k = k [I (sZoneId z)] := call_of (fun k => by
  obtain ⟨h1, h2⟩ := zone_le' h
  have e1 := spec_LastHead_n z.Chain h1
  have e2 := spec_IsZone_n z h
  unfold sZoneId
  cases hz : sIsZone z with
  | false => cases hs : sLast z.Chain <;> simp [spec_ZoneId, e1, e2, hz, hs, oHead, zHead]
  | true =>
    obtain ⟨p, hp⟩ := zone_last hz
    simp [spec_ZoneId, e1, e2, hz, hp, oHead]) k
theorem impl_ZoneId_n (z : GZone) (h : mZone z ≤ 1048576) (k) : call impl_ZoneId [.agg (eZone z)] k = k [I (sZoneId z)] := call_of (fun k => by
  obtain ⟨h1, h2⟩ := zone_le' h
  have e2 := impl_IsZone_n z h
  unfold sZoneId
  cases hz : sIsZone z with
  | false => simp [impl_ZoneId, e2, hz]
  | true =>
    obtain ⟨p, hp⟩ := zone_last hz
    obtain ⟨hc, s, hs, rfl⟩ := last_some hp
    have e1 := impl_last_n z.Chain s (chain_le h1).1 hs
    simp [impl_ZoneId, e1, e2, hz, hp]) k
end Go.Ev
set_option linter.unusedVariables false
set_option linter.unusedSimpArgs false
set_option maxRecDepth 4000
namespace Go.Ev
open Go.Proofs
/-! ### Worlds -/
theorem findI_ge {α : Type} (p : α → Bool) : ∀ (n : Nat) (l : List α), findI p n l = -1 ∨ (n : Int) ≤ findI p n l
  | n, [] => .inl rfl
  | n, x :: l => by
    rw [findI]
    split
    · exact .inr (Int.le_refl _)
    · rcases findI_ge p (n + 1) l with h | h
      · exact .inl h
      · exact .inr (by omega)
theorem findI_take {α : Type} (p : α → Bool) : ∀ (n : Nat) (l : List α) (i : Nat) (x : α), l[i]? = some x → p x = true → decide (findI p n l = (n : Int) + i) = !(l.take i).any p
  | n, [], i, x, hx, hp => by simp at hx
  | n, y :: l, 0, x, hx, hp => by
    simp at hx; subst hx
    rw [findI, if_pos hp]; simp
  | n, y :: l, i + 1, x, hx, hp => by
    rw [findI]
    cases hy : p y with
    | true =>
      simp only [if_true, List.take_succ_cons, List.any_cons, hy, Bool.true_or, Bool.not_true, decide_eq_false_iff_not]
      omega
    | false =>
      have := findI_take p (n + 1) l i x (by simpa using hx) hp
      simp only [Bool.false_eq_true, if_false, List.take_succ_cons, List.any_cons, hy, Bool.false_or, ← this]
      exact decide_eq_decide.2 (by omega)
theorem idx_take {α : Type} {p : α → Bool} {l : List α} {i : Nat} {x : α} (hx : l[i]? = some x) (hp : p x = true) : decide (idx p l = (i : Int)) = !(l.take i).any p := by
  rw [← findI_take p 0 l i x hx hp]
  exact decide_eq_decide.2 (by unfold idx; omega)
def twinZ (l : List GZone) (i : Nat) (z : GZone) : Bool := !sIsZone z || (l.take i).any (fun y => decide (sZoneId y = sZoneId z))
def sHasZones (l : List GZone) : Bool := !anyI (twinZ l) 0 l && decide ((l.length : Int) ≤ 8)
theorem zoneS_le {l : List GZone} (h : mZoneS l ≤ 1048576) : l.length ≤ 1048576 ∧ ∀ z ∈ l, mZone z ≤ 1048576 := by
  unfold mZoneS at h
  refine ⟨by omega, fun z hz => ?_⟩
  have := sumN_mem (s := mZone) hz
  omega
theorem ifB {b c : Bool} {k : List PV → Prop} : (if b = true then k [.bool false] else k [.bool c]) ↔ k [.bool (!b && c)] := by cases b <;> simp
theorem spec_l35Zones_n (l : List GZone) (h : mZoneS l ≤ 1048576) (k) : call spec_l35Zones [.one (.list 2 (l.map eZone))] k = k [.bool (sHasZones l)] := call_of (fun k => by
  obtain ⟨hl, hz⟩ := zoneS_le h
  simp only [spec_l35Zones]
  refine (lp_anyI (P := k [.bool false]) (fin := k [.bool (decide ((l.length : Int) ≤ 8))]) l (fun i => [.list 2 (l.map eZone), .bool false, I i]) (twinZ l) rfl (fun i x hx hi K => ?_) fun K => ?_).trans ifB
  · have e1 := spec_IsZone_n x (hz x (mem_get hx))
    have e2 := spec_ZoneId_n x (hz x (mem_get hx))
    simp [-getElem?_pos, spec_l35Zones_r0, hx, hi, e1]
    unfold twinZ
    cases hq : sIsZone x with
    | false => simp
    | true =>
      simp only [if_true, Bool.not_true, Bool.false_or, Bool.true_eq_false, if_false]
      have hlen : (l.take i).length = i := by simp; omega
      refine lp_any (l.take i) (fun j => [.list 2 (l.map eZone), .bool false, I i, I j]) (fun y => decide (sZoneId y = sZoneId x)) rfl (fun j y hy hj K' => ?_) fun K' => ?_
      · have hj' : j < i := by rw [hlen] at hj; exact hj
        have hy' : l[j]? = some y := by rw [List.getElem?_take] at hy; simpa [hj'] using hy
        have e3 := spec_ZoneId_n y (hz y (mem_get hy'))
        simp [-getElem?_pos, spec_l35Zones_r1, hx, hy', hj', e2, e3, wr_succ (show j < 1000000000000000000 by omega)]
      · rw [hlen]
        simp [spec_l35Zones_r1, wr_succ (show i < 1000000000000000000 by omega)]
  · simp [spec_l35Zones_r0]) k
theorem impl_zoneAt_1_n (z : GZone) (id : Int) (h : mZone z ≤ 1048576) (k) : call impl_World_zoneAt_1 [.agg (eZone z), .ro (.cells [I id])] k = k [.bool (decide (sZoneId z = id))] := call_of (fun k => by
  simp [impl_World_zoneAt_1, impl_ZoneId_n z h, beqI]) k
theorem impl_zoneAt_n (w : GWorld) (id : Int) (h : mZoneS w.Zones ≤ 1048576) (k) : call impl_World_zoneAt [.agg (eWorld w), .one (I id)] k = k [I (idx (fun y => decide (sZoneId y = id)) w.Zones)] := call_of (fun k => by
  obtain ⟨hl, hz⟩ := zoneS_le h
  have e : ∀ k, call slices_IndexFunc_Zone_F_impl_World_zoneAt_1 [.one (.list 2 (w.Zones.map eZone)), .fn 304 [.cells [I id]]] k = k [I (idx (fun y => decide (sZoneId y = id)) w.Zones)] := call_of (fun k => by
    simp [slices_IndexFunc_Zone_F_impl_World_zoneAt_1]
    refine lp_find (Q := fun i => k [I i]) w.Zones (fun i => [.list 2 (w.Zones.map eZone), I id, I 0, I w.Zones.length, I i]) (fun y => decide (sZoneId y = id)) rfl (fun i x hx hi K => ?_) fun K => ?_
    · simp [-getElem?_pos, slices_IndexFunc_Zone_F_impl_World_zoneAt_1_r0, hx, hi, impl_zoneAt_1_n x id (hz x (mem_get hx)), wr_succ (show i < 1000000000000000000 by omega)]
    · simp [slices_IndexFunc_Zone_F_impl_World_zoneAt_1_r0])
  simp only [impl_World_zoneAt, un, cur0, e, atP_zero, rt_eq, scs_sc, scs_nil, flat_int, true_and]) k
theorem impl_hasZones_n (w : GWorld) (h : mZoneS w.Zones ≤ 1048576) (k) : call impl_World_hasZones [.agg (eWorld w)] k = k [.bool (sHasZones w.Zones)] := call_of (fun k => by
  obtain ⟨hl, hz⟩ := zoneS_le h
  simp only [impl_World_hasZones, un, cur0, lenP_eq, List.length_map]
  refine (lp_anyI (P := k [.bool false]) (fin := k [.bool (decide ((w.Zones.length : Int) ≤ 8))]) w.Zones (fun i => .bool false :: .list 2 (w.Zones.map eZone) :: I w.Zones.length :: I i :: eWorld w) (twinZ w.Zones) rfl (fun i x hx hi K => ?_) fun K => ?_).trans ifB
  · have e1 := impl_ZoneId_n x (hz x (mem_get hx))
    have e2 := impl_zoneAt_n w (sZoneId x) h
    have e2' : ∀ k, call impl_World_zoneAt [.agg [I w.Now, .list 1 (w.Actors.map eActor), .list 2 (w.Zones.map eZone), .list 3 (w.Said.map eSaid), .list 2 (w.Servers.map eServer), .list 1 (w.Known.Chains.map (fun l : List GSigned => [.list 17 (l.map eSigned)])), .list 51 (w.Known.Forks.map eFork), .list 23 (w.Cache.Lst.map eStored)], .one (I (sZoneId x))] k = k [I (idx (fun y => decide (sZoneId y = sZoneId x)) w.Zones)] := e2
    have e3 := zoneId_neg x
    have e4 := idx_take (p := fun y => decide (sZoneId y = sZoneId x)) hx (by simp)
    have e5 : decide (¬ idx (fun y => decide (sZoneId y = sZoneId x)) w.Zones = (i : Int)) = (w.Zones.take i).any (fun y => decide (sZoneId y = sZoneId x)) := by rw [decide_not, e4, Bool.not_not]
    have e6 : (i : Int) < (w.Zones.length : Int) := by omega
    simp only [impl_World_hasZones_r0, un, cur0, binP_lss, e6, decide_true, iteP_eq, if_true, elemP_map, Int.toNat_natCast, hx, oP_some, atP_zero, atP_succ, e1, e3, e2', binP_neq, bne, beqI, binP_add, wr_succ (show i < 1000000000000000000 by omega), e4, rt_eq, scs_sc, scs_nil, flat_bool, true_and, show (0 : Int) ≤ i by omega, Bool.not_not]
    unfold twinZ
    cases sIsZone x <;> simp
  · simp [impl_World_hasZones_r0]) k
def badZ (z : GZone) : Bool := !sIsZone z
def sServer (s : GServer) : Bool := !s.Zones.any badZ && (decide ((s.Zones.length : Int) ≤ 8) && inR s.Lie 0 4)
theorem spec_IsServer_n (s : GServer) (h : mServer s ≤ 1048576) (k) : call spec_IsServer [.agg (eServer s)] k = k [.bool (sServer s)] := call_of (fun k => by
  obtain ⟨hl, hz⟩ := zoneS_le (l := s.Zones) h
  simp only [spec_IsServer, un, cur0]
  refine (lp_any (P := k [.bool false]) (fin := k [.bool (decide ((s.Zones.length : Int) ≤ 8) && inR s.Lie 0 4)]) s.Zones (fun i => [.bool false, I i, .list 2 (s.Zones.map eZone), I s.Lie]) badZ rfl (fun i x hx hi K => ?_) fun K => ?_).trans ifB
  · have e1 := spec_IsZone_n x (hz x (mem_get hx))
    simp [-getElem?_pos, spec_IsServer_r0, hx, hi, e1, wr_succ (show i < 1000000000000000000 by omega), badZ]
  · simp only [spec_IsServer_r0, un, cur0, lenP_eq, List.length_map, binP_lss, Int.lt_irrefl, decide_false, iteP_eq, Bool.false_eq_true, if_false, binP_leq, spec_l1In_n, atP_zero, rt_eq, scs_sc, scs_nil, flat_bool, true_and]
    exact stepB fun _ => Iff.rfl) k
theorem impl_IsServer_n (s : GServer) (h : mServer s ≤ 1048576) (k) : call impl_IsServer [.agg (eServer s)] k = k [.bool (sServer s)] := call_of (fun k => by
  obtain ⟨hl, hz⟩ := zoneS_le (l := s.Zones) h
  have e1 : ∀ z, mZone z ≤ 1048576 → ∀ k, call impl_IsServer_1 [.agg (eZone z)] k = k [.bool (badZ z)] := fun z hz => call_of (fun k => by simp [impl_IsServer_1, impl_IsZone_n z hz, badZ])
  have e : ∀ k, call slices_IndexFunc_Zone_F_impl_IsServer_1 [.one (.list 2 (s.Zones.map eZone)), .fn 251 []] k = k [I (idx badZ s.Zones)] := call_of (fun k => by
    simp [slices_IndexFunc_Zone_F_impl_IsServer_1]
    refine lp_find (Q := fun i => k [I i]) s.Zones (fun i => [.list 2 (s.Zones.map eZone), I 0, I s.Zones.length, I i]) badZ rfl (fun i x hx hi K => ?_) fun K => ?_
    · simp [-getElem?_pos, slices_IndexFunc_Zone_F_impl_IsServer_1_r0, hx, hi, e1 x (hz x (mem_get hx)), wr_succ (show i < 1000000000000000000 by omega)]
    · simp [slices_IndexFunc_Zone_F_impl_IsServer_1_r0])
  have e2 : ∀ k, call slices_ContainsFunc_Zone_F_impl_IsServer_1 [.one (.list 2 (s.Zones.map eZone)), .fn 251 []] k = k [.bool (s.Zones.any badZ)] := call_of (fun k => by simp [slices_ContainsFunc_Zone_F_impl_IsServer_1, e, idx_any])
  simp only [impl_IsServer, un, cur0, lenP_eq, List.length_map, binP_leq, e2, unP_not, impl_InRange_n, atP_zero, iteP_eq, rt_eq, scs_sc, scs_nil, flat_bool, true_and]
  unfold sServer
  cases s.Zones.any badZ <;> cases decide ((s.Zones.length : Int) ≤ 8) <;> simp) k
def zSgn : GSigned := ⟨zHead, []⟩
theorem mzS : mSigned zSgn ≤ 1048576 := by decide
def sForkOk (f : GFork) : Bool := if decide (f.A.Head = f.B.Head) = true then false else if decide (f.Before = zSgn) = true then sIsFirst f.A && (sIsFirst f.B && decide (f.A.Head.Zone = f.B.Head.Zone)) else sMay f.Before.Head f.A && sMay f.Before.Head f.B
theorem fork_le2 {f : GFork} (h : mFork f ≤ 1048576) : mSigned f.Before ≤ 1048576 ∧ mSigned f.A ≤ 1048576 ∧ mSigned f.B ≤ 1048576 := by unfold mFork at h; omega
def badF (f : GFork) : Bool := !sForkOk f
def fz (c : List GSigned) : Int := match c[0]? with | some s => s.Head.Zone | none => 0
def hasZ (z : Int) (c : List GSigned) : Bool := match c[0]? with | some s => decide (s.Head.Zone = z) | none => false
def badC (l : List (List GSigned)) (i : Nat) (c : List GSigned) : Bool := !sIsChain c || (l.take i).any (hasZ (fz c))
def sKnown (a : GKnown) : Bool := !anyI (badC a.Chains) 0 a.Chains && (!a.Forks.any badF && (decide ((a.Chains.length : Int) ≤ 8) && decide ((a.Forks.length : Int) ≤ 8)))
theorem known_le2 {a : GKnown} (h : mKnown a ≤ 1048576) : a.Chains.length ≤ 1048576 ∧ (∀ c ∈ a.Chains, mSignedS c ≤ 1048576) ∧ a.Forks.length ≤ 1048576 ∧ ∀ f ∈ a.Forks, mFork f ≤ 1048576 := by
  unfold mKnown mSignedSS mForkS at h
  refine ⟨by omega, fun c hc => ?_, by omega, fun f hf => ?_⟩
  · have := sumN_mem (s := mSignedS) hc; omega
  · have := sumN_mem (s := mFork) hf; omega
theorem chain_fst {c : List GSigned} (h : sIsChain c = true) : ∃ s, c[0]? = some s := by
  obtain ⟨_, _, h0⟩ := chain_has h
  exact ⟨c[0], List.getElem?_eq_getElem h0⟩
theorem impl_IsFork_n (f : GFork) (h : mFork f ≤ 1048576) (k) : call impl_IsFork [.agg (eFork f)] k = k [.bool (sForkOk f)] := call_of (fun k => by
  obtain ⟨h1, h2, h3⟩ := fork_le2 h
  have e1 := impl_EqualHeads_n f.A.Head f.B.Head (signed_le h2).1 (signed_le h3).1
  have e2 := impl_EqualSigned_n f.Before zSgn h1 mzS
  have e3 := impl_IsFirst_n f.A h2
  have e4 := impl_IsFirst_n f.B h3
  have e5 := impl_MayFollow_n f.Before.Head f.A (signed_le h1).1 h2
  have e6 := impl_MayFollow_n f.Before.Head f.B (signed_le h1).1 h3
  simp only [impl_IsFork, un, cur0]
  rw [show [I 0, I 0, I 0, I 0, I 0, I 0, I 0, I 0, PV.list 1 [], I 0, PV.list 1 [], I 0, I 0, PV.list 1 [], I 0, PV.bool false, PV.list 2 []] = eSigned zSgn from rfl]
  simp only [e1, e2, e3, e4, e5, e6, binP_eql, beqI, atP_zero, iteP_eq, rt_eq, scs_sc, scs_nil, flat_bool, true_and]
  unfold sForkOk
  cases decide (f.A.Head = f.B.Head) <;> cases decide (f.Before = zSgn) <;> cases sIsFirst f.A <;> cases sIsFirst f.B <;> cases sMay f.Before.Head f.A <;> simp) k
theorem spec_IsFork_n (f : GFork) (h : mFork f ≤ 1048576) (k) : call spec_IsFork [.agg (eFork f)] k = k [.bool (sForkOk f)] := call_of (fun k => by
  obtain ⟨h1, h2, h3⟩ := fork_le2 h
  have e1 := spec_EqualHeads_n f.A.Head f.B.Head (signed_le h2).1 (signed_le h3).1
  have e2 := spec_EqualSigned_n f.Before zSgn h1 mzS
  have e3 := spec_IsFirst_n f.A h2
  have e4 := spec_IsFirst_n f.B h3
  have e5 := spec_MayFollow_n f.Before.Head f.A (signed_le h1).1 h2
  have e6 := spec_MayFollow_n f.Before.Head f.B (signed_le h1).1 h3
  simp only [spec_IsFork, un, cur0]
  rw [show [I 0, I 0, I 0, I 0, I 0, I 0, I 0, I 0, PV.list 1 [], I 0, PV.list 1 [], I 0, I 0, PV.list 1 [], I 0, PV.bool false, PV.list 2 []] = eSigned zSgn from rfl]
  simp only [e1, e2, e3, e4, e5, e6, binP_eql, beqI, atP_zero, iteP_eq, rt_eq, scs_sc, scs_nil, flat_bool, true_and]
  unfold sForkOk
  cases decide (f.A.Head = f.B.Head) <;> cases decide (f.Before = zSgn) <;> cases sIsFirst f.A <;> cases sIsFirst f.B <;> cases sMay f.Before.Head f.A <;> simp) k
abbrev chains (l : List (List GSigned)) : PV := .list 1 (l.map (fun l : List GSigned => [PV.list 17 (l.map eSigned)]))
theorem spec_l22Find_n (a : GKnown) (z : Int) (h : a.Chains.length ≤ 1048576) (k) : call spec_l22Find [.agg (eKnown a), .one (I z)] k = k [I (idx (hasZ z) a.Chains)] := call_of (fun k => by
  simp only [spec_l22Find, un, cur0]
  refine lp_find (Q := fun i => k [I i]) a.Chains (fun i => [I z, I 0, I i, chains a.Chains, .list 51 (a.Forks.map eFork)]) (hasZ z) rfl (fun i x hx hi K => ?_) fun K => ?_
  · unfold hasZ
    cases h0 : x[0]? with
    | none =>
      have h1 : x = [] := by cases x with | nil => rfl | cons s t => cases h0
      subst h1
      simp [-getElem?_pos, spec_l22Find_r0, hx, hi, wr_succ (show i < 1000000000000000000 by omega)]
    | some s =>
      have h1 := lt_of_get h0
      simp [-getElem?_pos, spec_l22Find_r0, hx, hi, h0, wr_succ (show i < 1000000000000000000 by omega), show (0 : Int) < (x.length : Int) by omega, h1]
  · simp [spec_l22Find_r0]) k
theorem impl_find_1_n (c : List GSigned) (z : Int) (k) : call impl_Known_find_1 [.one (.list 17 (c.map eSigned)), .ro (.cells [I z])] k = k [.bool (hasZ z c)] := call_of (fun k => by
  unfold hasZ
  cases h0 : c[0]? with
  | none =>
    have h1 : c = [] := by cases c with | nil => rfl | cons s t => cases h0
    subst h1
    simp [-getElem?_pos, impl_Known_find_1]
  | some s =>
    have h1 := lt_of_get h0
    simp [-getElem?_pos, impl_Known_find_1, h0, beqI, show (0 : Int) < (c.length : Int) by omega, h1]) k
theorem impl_find_n (a : GKnown) (z : Int) (h : a.Chains.length ≤ 1048576) (k) : call impl_Known_find [.agg (eKnown a), .one (I z)] k = k [I (idx (hasZ z) a.Chains)] := call_of (fun k => by
  have e : ∀ k, call slices_IndexFunc_Signed_F_impl_Known_find_1 [.one (chains a.Chains), .fn 306 [.cells [I z]]] k = k [I (idx (hasZ z) a.Chains)] := call_of (fun k => by
    simp [slices_IndexFunc_Signed_F_impl_Known_find_1]
    refine lp_find (Q := fun i => k [I i]) a.Chains (fun i => [chains a.Chains, I z, I 0, I a.Chains.length, I i]) (hasZ z) rfl (fun i x hx hi K => ?_) fun K => ?_
    · simp [-getElem?_pos, slices_IndexFunc_Signed_F_impl_Known_find_1_r0, hx, hi, impl_find_1_n x z, wr_succ (show i < 1000000000000000000 by omega)]
    · simp [slices_IndexFunc_Signed_F_impl_Known_find_1_r0])
  simp only [impl_Known_find, un, cur0, e, atP_zero, rt_eq, scs_sc, scs_nil, flat_int, true_and]) k
theorem hasZ_self {c : List GSigned} (h : sIsChain c = true) : hasZ (fz c) c = true := by
  obtain ⟨s, hs⟩ := chain_fst h
  simp [hasZ, fz, hs]
theorem spec_IsKnown_n (a : GKnown) (h : mKnown a ≤ 1048576) (k) : call spec_IsKnown [.agg (eKnown a)] k = k [.bool (sKnown a)] := call_of (fun k => by
  obtain ⟨hl, hc, hl2, hf⟩ := known_le2 h
  simp only [spec_IsKnown, un, cur0]
  refine (lp_anyI (P := k [.bool false]) (fin := k [.bool (!a.Forks.any badF && (decide ((a.Chains.length : Int) ≤ 8) && decide ((a.Forks.length : Int) ≤ 8)))]) a.Chains (fun i => [.bool false, I i, chains a.Chains, .list 51 (a.Forks.map eFork)]) (badC a.Chains) rfl (fun i x hx hi K => ?_) fun K => ?_).trans ifB
  · have e1 := spec_IsChain_n x (hc x (mem_get hx))
    unfold badC
    cases hq : sIsChain x with
    | false => simp [-getElem?_pos, spec_IsKnown_r0, hx, hi, e1, hq]
    | true =>
      obtain ⟨s, hs⟩ := chain_fst hq
      have e2 := spec_l22Find_n a s.Head.Zone hl
      have e3 := idx_take (p := hasZ (fz x)) hx (hasZ_self hq)
      have e4 : fz x = s.Head.Zone := by simp [fz, hs]
      rw [e4] at e3 ⊢
      simp only [spec_IsKnown_r0, un, cur0, lenP_eq, List.length_map, binP_lss, show (i : Int) < (a.Chains.length : Int) by omega, decide_true, iteP_eq, if_true, elemP_map, Int.toNat_natCast, hx, oP_some, atP_zero, atP_succ, e1, hq, unP_not, Bool.not_true, Bool.false_eq_true, if_false, Int.toNat_zero, hs, e2, binP_neq, bne, beqI, e3, binP_add, wr_succ (show i < 1000000000000000000 by omega), rt_eq, scs_sc, scs_nil, flat_bool, true_and, show (0 : Int) ≤ i by omega, Int.le_refl, Bool.not_not, Bool.false_or, show (0 : Int) ≤ 0 by omega]
      simp
  · simp only [spec_IsKnown_r0, un, cur0, lenP_eq, List.length_map, binP_lss, Int.lt_irrefl, decide_false, iteP_eq, Bool.false_eq_true, if_false]
    refine (lp_any (P := k [.bool false]) (fin := k [.bool (decide ((a.Chains.length : Int) ≤ 8) && decide ((a.Forks.length : Int) ≤ 8))]) a.Forks (fun i => [.bool false, I a.Chains.length, I i, chains a.Chains, .list 51 (a.Forks.map eFork)]) badF rfl (fun i x hx hi K => ?_) fun K => ?_).trans ifB
    · have e1 := spec_IsFork_n x (hf x (mem_get hx))
      simp [-getElem?_pos, spec_IsKnown_r1, hx, hi, e1, badF, wr_succ (show i < 1000000000000000000 by omega)]
    · simp only [spec_IsKnown_r1, un, cur0, lenP_eq, List.length_map, binP_lss, Int.lt_irrefl, decide_false, iteP_eq, Bool.false_eq_true, if_false, binP_leq, rt_eq, scs_sc, scs_nil, flat_bool, true_and]
      exact stepB fun _ => Iff.rfl) k
theorem impl_IsKnown_n (a : GKnown) (h : mKnown a ≤ 1048576) (k) : call impl_IsKnown [.agg (eKnown a)] k = k [.bool (sKnown a)] := call_of (fun k => by
  obtain ⟨hl, hc, hl2, hf⟩ := known_le2 h
  have g1 : ∀ f, mFork f ≤ 1048576 → ∀ k, call impl_IsKnown_1 [.agg (eFork f)] k = k [.bool (badF f)] := fun f hf => call_of (fun k => by simp [impl_IsKnown_1, impl_IsFork_n f hf, badF])
  have g2 : ∀ k, call slices_IndexFunc_Fork_F_impl_IsKnown_1 [.one (.list 51 (a.Forks.map eFork)), .fn 253 []] k = k [I (idx badF a.Forks)] := call_of (fun k => by
    simp [slices_IndexFunc_Fork_F_impl_IsKnown_1]
    refine lp_find (Q := fun i => k [I i]) a.Forks (fun i => [.list 51 (a.Forks.map eFork), I 0, I a.Forks.length, I i]) badF rfl (fun i x hx hi K => ?_) fun K => ?_
    · simp [-getElem?_pos, slices_IndexFunc_Fork_F_impl_IsKnown_1_r0, hx, hi, g1 x (hf x (mem_get hx)), wr_succ (show i < 1000000000000000000 by omega)]
    · simp [slices_IndexFunc_Fork_F_impl_IsKnown_1_r0])
  have g3 : ∀ k, call slices_ContainsFunc_Fork_F_impl_IsKnown_1 [.one (.list 51 (a.Forks.map eFork)), .fn 253 []] k = k [.bool (a.Forks.any badF)] := call_of (fun k => by simp [slices_ContainsFunc_Fork_F_impl_IsKnown_1, g2, idx_any])
  simp only [impl_IsKnown, un, cur0, lenP_eq, List.length_map]
  refine (lp_anyI (P := k [.bool false]) (fin := k [.bool (!a.Forks.any badF && (decide ((a.Chains.length : Int) ≤ 8) && decide ((a.Forks.length : Int) ≤ 8)))]) a.Chains (fun i => [.bool false, chains a.Chains, I a.Chains.length, I i, chains a.Chains, .list 51 (a.Forks.map eFork)]) (badC a.Chains) rfl (fun i x hx hi K => ?_) fun K => ?_).trans ifB
  · have e1 := impl_IsChain_n x (hc x (mem_get hx))
    unfold badC
    cases hq : sIsChain x with
    | false => simp [-getElem?_pos, impl_IsKnown_r0, hx, hi, e1, hq]
    | true =>
      obtain ⟨s, hs⟩ := chain_fst hq
      have e2 := impl_find_n a s.Head.Zone hl
      have e3 := idx_take (p := hasZ (fz x)) hx (hasZ_self hq)
      have e4 : fz x = s.Head.Zone := by simp [fz, hs]
      rw [e4] at e3 ⊢
      simp only [impl_IsKnown_r0, un, cur0, lenP_eq, List.length_map, binP_lss, show (i : Int) < (a.Chains.length : Int) by omega, decide_true, iteP_eq, if_true, elemP_map, Int.toNat_natCast, hx, oP_some, atP_zero, atP_succ, e1, hq, unP_not, Bool.not_true, Bool.false_eq_true, if_false, Int.toNat_zero, hs, e2, binP_neq, bne, beqI, e3, binP_add, wr_succ (show i < 1000000000000000000 by omega), rt_eq, scs_sc, scs_nil, flat_bool, true_and, show (0 : Int) ≤ i by omega, Int.le_refl, Bool.not_not, Bool.false_or, show (0 : Int) ≤ 0 by omega]
      simp
  · simp only [impl_IsKnown_r0, un, cur0, lenP_eq, List.length_map, binP_lss, Int.lt_irrefl, decide_false, iteP_eq, Bool.false_eq_true, if_false, binP_leq, g3, unP_not, atP_zero, rt_eq, scs_sc, scs_nil, flat_bool, true_and]
    cases a.Forks.any badF <;> cases decide ((a.Chains.length : Int) ≤ 8) <;> cases decide ((a.Forks.length : Int) ≤ 8) <;> simp) k
def isS (z : Int) (n : ByteArray) (s : GStored) : Bool := decide (s.Zone = z) && decide (s.Label = n)
def badS (l : List GStored) (i : Nat) (s : GStored) : Bool := match sLast s.Answer.Chain with
  | some p => (l.take i).any (isS s.Zone s.Label) || !decide (sAns s.Zone s.Label s.Answer p.Time = 1)
  | none => true
def sCache (a : GCache) : Bool := !anyI (badS a.Lst) 0 a.Lst && decide ((a.Lst.length : Int) ≤ 16)
theorem cache_le {a : GCache} (h : mCache a ≤ 1048576) : a.Lst.length ≤ 1048576 ∧ ∀ s ∈ a.Lst, s.Label.size ≤ 1048576 ∧ mAnswer s.Answer ≤ 1048576 := by
  unfold mCache mStoredS at h
  refine ⟨by omega, fun s hs => ?_⟩
  have := sumN_mem (s := mStored) hs
  have e : mStored s = s.Label.size + mAnswer s.Answer := rfl
  omega
theorem spec_l26Find_n (a : GCache) (z : Int) (n : ByteArray) (h : a.Lst.length ≤ 1048576) (k) : call spec_l26Find [.agg (eCache a), .one (I z), .one (.str n)] k = k [I (idx (isS z n) a.Lst)] := call_of (fun k => by
  simp only [spec_l26Find, un, cur0]
  refine lp_find (Q := fun i => k [I i]) a.Lst (fun i => [I z, .str n, I 0, I i, .list 23 (a.Lst.map eStored)]) (isS z n) rfl (fun i x hx hi K => ?_) fun K => ?_
  · unfold isS
    simp [-getElem?_pos, spec_l26Find_r0, hx, hi, wr_succ (show i < 1000000000000000000 by omega)]
    by_cases h1 : x.Zone = z <;> by_cases h2 : x.Label = n <;> simp [h1, h2]
  · simp [spec_l26Find_r0]) k
theorem impl_cfind_1_n (s : GStored) (z : Int) (n : ByteArray) (k) : call impl_Cache_find_1 [.agg (eStored s), .ro (.cells [I z]), .ro (.cells [.str n])] k = k [.bool (isS z n s)] := call_of (fun k => by
  unfold isS
  simp only [impl_Cache_find_1, un, cur0, binP_eql, beqI, binP_seql, iteP_eq, rt_eq, scs_sc, scs_nil, flat_bool, true_and]
  exact stepB fun _ => Iff.rfl) k
theorem impl_cfind_n (a : GCache) (z : Int) (n : ByteArray) (h : a.Lst.length ≤ 1048576) (k) : call impl_Cache_find [.agg (eCache a), .one (I z), .one (.str n)] k = k [I (idx (isS z n) a.Lst)] := call_of (fun k => by
  have e : ∀ k, call slices_IndexFunc_Stored_F_impl_Cache_find_1 [.one (.list 23 (a.Lst.map eStored)), .fn 310 [.cells [I z], .cells [.str n]]] k = k [I (idx (isS z n) a.Lst)] := call_of (fun k => by
    simp [slices_IndexFunc_Stored_F_impl_Cache_find_1]
    refine lp_find (Q := fun i => k [I i]) a.Lst (fun i => [.list 23 (a.Lst.map eStored), I z, .str n, I 0, I a.Lst.length, I i]) (isS z n) rfl (fun i x hx hi K => ?_) fun K => ?_
    · simp [-getElem?_pos, slices_IndexFunc_Stored_F_impl_Cache_find_1_r0, hx, hi, impl_cfind_1_n x z n, wr_succ (show i < 1000000000000000000 by omega)]
    · simp [slices_IndexFunc_Stored_F_impl_Cache_find_1_r0])
  simp only [impl_Cache_find, un, cur0, e, atP_zero, rt_eq, scs_sc, scs_nil, flat_int, true_and]) k
theorem isS_self (s : GStored) : isS s.Zone s.Label s = true := by simp [isS]
theorem impl_IsCache_n (a : GCache) (h : mCache a ≤ 1048576) (k) : call impl_IsCache [.agg (eCache a)] k = k [.bool (sCache a)] := call_of (fun k => by
  obtain ⟨hl, hs0⟩ := cache_le h
  simp only [impl_IsCache, un, cur0, lenP_eq, List.length_map]
  refine (lp_anyI (P := k [.bool false]) (fin := k [.bool (decide ((a.Lst.length : Int) ≤ 16))]) a.Lst (fun i => [.bool false, .list 23 (a.Lst.map eStored), I a.Lst.length, I i, .list 23 (a.Lst.map eStored)]) (badS a.Lst) rfl (fun i x hx hi K => ?_) fun K => ?_).trans ifB
  · obtain ⟨h1, h2⟩ := hs0 x (mem_get hx)
    have e1 := impl_LastHead_n x.Answer.Chain (answer_le h2).1
    have e2 := impl_cfind_n a x.Zone x.Label hl
    have e3 := idx_take (p := isS x.Zone x.Label) hx (isS_self x)
    unfold badS
    cases hs : sLast x.Answer.Chain with
    | none =>
      rw [hs] at e1
      have e4 := impl_CheckAnswer_n x.Zone x.Label x.Answer 0 h1 h2
      have e5 : sAns x.Zone x.Label x.Answer 0 = 3 := by unfold sAns; rw [hs]
      rw [e5] at e4
      simp only [impl_IsCache_r0, un, cur0, lenP_eq, List.length_map, binP_lss, show (i : Int) < (a.Lst.length : Int) by omega, decide_true, iteP_eq, if_true, elemP_map, Int.toNat_natCast, hx, oP_some, eStored, atP_zero, atP_succ, e1, oHead, zHead, eHead, List.cons_append, List.nil_append, e2, e4, unP_not, Bool.not_false, binP_neq, bne, beqI, e3, show (0 : Int) ≤ i by omega, rt_eq, scs_sc, scs_nil, flat_bool, true_and, Bool.not_not]
      try cases (a.Lst.take i).any (isS x.Zone x.Label) <;> simp
    | some p =>
      rw [hs] at e1
      have e4 := impl_CheckAnswer_n x.Zone x.Label x.Answer p.Time h1 h2
      simp only [impl_IsCache_r0, un, cur0, lenP_eq, List.length_map, binP_lss, show (i : Int) < (a.Lst.length : Int) by omega, decide_true, iteP_eq, if_true, elemP_map, Int.toNat_natCast, hx, oP_some, eStored, atP_zero, atP_succ, e1, oHead, eHead, List.cons_append, List.nil_append, e2, e4, unP_not, Bool.not_true, Bool.false_eq_true, if_false, binP_neq, bne, beqI, e3, show (0 : Int) ≤ i by omega, rt_eq, scs_sc, scs_nil, flat_bool, true_and, Bool.not_not, binP_add, wr_succ (show i < 1000000000000000000 by omega)]
      cases (a.Lst.take i).any (isS x.Zone x.Label) <;> by_cases hq : sAns x.Zone x.Label x.Answer p.Time = 1 <;> simp [hq]
  · simp [impl_IsCache_r0]) k
theorem spec_IsCache_n (a : GCache) (h : mCache a ≤ 1048576) (k) : call spec_IsCache [.agg (eCache a)] k = k [.bool (sCache a)] := call_of (fun k => by
  obtain ⟨hl, hs0⟩ := cache_le h
  simp only [spec_IsCache, un, cur0, lenP_eq, List.length_map]
  refine (lp_anyI (P := k [.bool false]) (fin := k [.bool (decide ((a.Lst.length : Int) ≤ 16))]) a.Lst (fun i => [.bool false, I i, .list 23 (a.Lst.map eStored)]) (badS a.Lst) rfl (fun i x hx hi K => ?_) fun K => ?_).trans ifB
  · obtain ⟨h1, h2⟩ := hs0 x (mem_get hx)
    have e1 := spec_LastHead_n x.Answer.Chain (answer_le h2).1
    have e2 := spec_l26Find_n a x.Zone x.Label hl
    have e3 := idx_take (p := isS x.Zone x.Label) hx (isS_self x)
    unfold badS
    cases hs : sLast x.Answer.Chain with
    | none =>
      rw [hs] at e1
      have e4 := spec_CheckAnswer_n x.Zone x.Label x.Answer 0 h1 h2
      have e5 : sAns x.Zone x.Label x.Answer 0 = 3 := by unfold sAns; rw [hs]
      rw [e5] at e4
      simp only [spec_IsCache_r0, un, cur0, lenP_eq, List.length_map, binP_lss, show (i : Int) < (a.Lst.length : Int) by omega, decide_true, iteP_eq, if_true, elemP_map, Int.toNat_natCast, hx, oP_some, eStored, atP_zero, atP_succ, e1, oHead, zHead, eHead, List.cons_append, List.nil_append, e2, e4, unP_not, Bool.not_false, binP_neq, bne, beqI, e3, show (0 : Int) ≤ i by omega, rt_eq, scs_sc, scs_nil, flat_bool, true_and, Bool.not_not]
      try cases (a.Lst.take i).any (isS x.Zone x.Label) <;> simp
    | some p =>
      rw [hs] at e1
      have e4 := spec_CheckAnswer_n x.Zone x.Label x.Answer p.Time h1 h2
      simp only [spec_IsCache_r0, un, cur0, lenP_eq, List.length_map, binP_lss, show (i : Int) < (a.Lst.length : Int) by omega, decide_true, iteP_eq, if_true, elemP_map, Int.toNat_natCast, hx, oP_some, eStored, atP_zero, atP_succ, e1, oHead, eHead, List.cons_append, List.nil_append, e2, e4, unP_not, Bool.not_true, Bool.false_eq_true, if_false, binP_neq, bne, beqI, e3, show (0 : Int) ≤ i by omega, rt_eq, scs_sc, scs_nil, flat_bool, true_and, Bool.not_not, binP_add, wr_succ (show i < 1000000000000000000 by omega)]
      cases (a.Lst.take i).any (isS x.Zone x.Label) <;> by_cases hq : sAns x.Zone x.Label x.Answer p.Time = 1 <;> simp [hq]
  · simp [spec_IsCache_r0]) k
def badSaid (s : GSaid) : Bool := !sIsZone s.Zone
def badSrv (s : GServer) : Bool := !sServer s
def sWorld (w : GWorld) : Bool := !w.Said.any badSaid && (!w.Servers.any badSrv && (inR w.Now 0 99800 && (sAreActors w.Actors && (sHasZones w.Zones && (decide ((w.Said.length : Int) ≤ 60) && (decide ((w.Servers.length : Int) ≤ 4) && (sKnown w.Known && sCache w.Cache)))))))
theorem world_le {w : GWorld} (h : mWorld w ≤ 1048576) : mActorS w.Actors ≤ 1048576 ∧ mZoneS w.Zones ≤ 1048576 ∧ w.Said.length ≤ 1048576 ∧ (∀ s ∈ w.Said, mZone s.Zone ≤ 1048576) ∧ w.Servers.length ≤ 1048576 ∧ (∀ s ∈ w.Servers, mServer s ≤ 1048576) ∧ mKnown w.Known ≤ 1048576 ∧ mCache w.Cache ≤ 1048576 := by
  unfold mWorld mSaidS mServerS at h
  refine ⟨by omega, by omega, by omega, fun s hs => ?_, by omega, fun s hs => ?_, by omega, by omega⟩
  · have := sumN_mem (s := mSaid) hs
    have e : mSaid s = mZone s.Zone + s.Held.length := rfl
    omega
  · have := sumN_mem (s := mServer) hs; omega
theorem spec_IsWorld_n (w : GWorld) (h : mWorld w ≤ 1048576) (k) : call spec_IsWorld [.agg (eWorld w)] k = k [.bool (sWorld w)] := call_of (fun k => by
  obtain ⟨h1, h2, h3, h4, h5, h6, h7, h8⟩ := world_le h
  simp only [spec_IsWorld, un, cur0]
  refine (lp_any (P := k [.bool false]) (fin := k [.bool (!w.Servers.any badSrv && (inR w.Now 0 99800 && (sAreActors w.Actors && (sHasZones w.Zones && (decide ((w.Said.length : Int) ≤ 60) && (decide ((w.Servers.length : Int) ≤ 4) && (sKnown w.Known && sCache w.Cache)))))))]) w.Said (fun i => .bool false :: I i :: eWorld w) badSaid rfl (fun i x hx hi K => ?_) fun K => ?_).trans ifB
  · have e1 := spec_IsZone_n x.Zone (h4 x (mem_get hx))
    simp [-getElem?_pos, spec_IsWorld_r0, hx, hi, e1, badSaid, wr_succ (show i < 1000000000000000000 by omega)]
  · simp only [spec_IsWorld_r0, un, cur0, lenP_eq, List.length_map, binP_lss, Int.lt_irrefl, decide_false, iteP_eq, Bool.false_eq_true, if_false]
    refine (lp_any (P := k [.bool false]) (fin := k [.bool (inR w.Now 0 99800 && (sAreActors w.Actors && (sHasZones w.Zones && (decide ((w.Said.length : Int) ≤ 60) && (decide ((w.Servers.length : Int) ≤ 4) && (sKnown w.Known && sCache w.Cache))))))]) w.Servers (fun i => .bool false :: I w.Said.length :: I i :: eWorld w) badSrv rfl (fun i x hx hi K => ?_) fun K => ?_).trans ifB
    · have e1 := spec_IsServer_n x (h6 x (mem_get hx))
      simp [-getElem?_pos, spec_IsWorld_r1, hx, hi, e1, badSrv, wr_succ (show i < 1000000000000000000 by omega)]
    · have e1 := spec_AreActors_n w.Actors h1
      have e2 := spec_l35Zones_n w.Zones h2
      have e3 := spec_IsKnown_n w.Known h7
      have e4 := spec_IsCache_n w.Cache h8
      simp only [spec_IsWorld_r1, un, cur0, lenP_eq, List.length_map, binP_lss, Int.lt_irrefl, decide_false, iteP_eq, Bool.false_eq_true, if_false, spec_l1In_n, e1, e2, e3, e4, binP_leq, atP_zero, rt_eq, scs_sc, scs_nil, flat_bool, true_and]
      exact stepB fun _ => stepB fun _ => stepB fun _ => stepB fun _ => stepB fun _ => stepB fun _ => Iff.rfl) k
theorem impl_IsWorld_n (w : GWorld) (h : mWorld w ≤ 1048576) (k) : call impl_IsWorld [.agg (eWorld w)] k = k [.bool (sWorld w)] := call_of (fun k => by
  obtain ⟨h1, h2, h3, h4, h5, h6, h7, h8⟩ := world_le h
  have a1 : ∀ s : GSaid, mZone s.Zone ≤ 1048576 → ∀ k, call impl_IsWorld_1 [.agg (eSaid s)] k = k [.bool (badSaid s)] := fun s hs => call_of (fun k => by simp [impl_IsWorld_1, impl_IsZone_n s.Zone hs, badSaid])
  have a2 : ∀ k, call slices_IndexFunc_Said_F_impl_IsWorld_1 [.one (.list 3 (w.Said.map eSaid)), .fn 163 []] k = k [I (idx badSaid w.Said)] := call_of (fun k => by
    simp [slices_IndexFunc_Said_F_impl_IsWorld_1]
    refine lp_find (Q := fun i => k [I i]) w.Said (fun i => [.list 3 (w.Said.map eSaid), I 0, I w.Said.length, I i]) badSaid rfl (fun i x hx hi K => ?_) fun K => ?_
    · simp [-getElem?_pos, slices_IndexFunc_Said_F_impl_IsWorld_1_r0, hx, hi, a1 x (h4 x (mem_get hx)), wr_succ (show i < 1000000000000000000 by omega)]
    · simp [slices_IndexFunc_Said_F_impl_IsWorld_1_r0])
  have a3 : ∀ k, call slices_ContainsFunc_Said_F_impl_IsWorld_1 [.one (.list 3 (w.Said.map eSaid)), .fn 163 []] k = k [.bool (w.Said.any badSaid)] := call_of (fun k => by simp [slices_ContainsFunc_Said_F_impl_IsWorld_1, a2, idx_any])
  have b1 : ∀ s : GServer, mServer s ≤ 1048576 → ∀ k, call impl_IsWorld_2 [.agg (eServer s)] k = k [.bool (badSrv s)] := fun s hs => call_of (fun k => by simp [impl_IsWorld_2, impl_IsServer_n s hs, badSrv])
  have b2 : ∀ k, call slices_IndexFunc_Server_F_impl_IsWorld_2 [.one (.list 2 (w.Servers.map eServer)), .fn 164 []] k = k [I (idx badSrv w.Servers)] := call_of (fun k => by
    simp [slices_IndexFunc_Server_F_impl_IsWorld_2]
    refine lp_find (Q := fun i => k [I i]) w.Servers (fun i => [.list 2 (w.Servers.map eServer), I 0, I w.Servers.length, I i]) badSrv rfl (fun i x hx hi K => ?_) fun K => ?_
    · simp [-getElem?_pos, slices_IndexFunc_Server_F_impl_IsWorld_2_r0, hx, hi, b1 x (h6 x (mem_get hx)), wr_succ (show i < 1000000000000000000 by omega)]
    · simp [slices_IndexFunc_Server_F_impl_IsWorld_2_r0])
  have b3 : ∀ k, call slices_ContainsFunc_Server_F_impl_IsWorld_2 [.one (.list 2 (w.Servers.map eServer)), .fn 164 []] k = k [.bool (w.Servers.any badSrv)] := call_of (fun k => by simp [slices_ContainsFunc_Server_F_impl_IsWorld_2, b2, idx_any])
  have e1 := impl_AreActors_n w.Actors h1
  have e2 : ∀ k, call impl_World_hasZones [.agg [I w.Now, .list 1 (w.Actors.map eActor), .list 2 (w.Zones.map eZone), .list 3 (w.Said.map eSaid), .list 2 (w.Servers.map eServer), .list 1 (w.Known.Chains.map (fun l : List GSigned => [.list 17 (l.map eSigned)])), .list 51 (w.Known.Forks.map eFork), .list 23 (w.Cache.Lst.map eStored)]] k = k [.bool (sHasZones w.Zones)] := impl_hasZones_n w h2
  have e3 := impl_IsKnown_n w.Known h7
  have e4 := impl_IsCache_n w.Cache h8
  simp only [impl_IsWorld, un, cur0, lenP_eq, List.length_map, impl_InRange_n, e1, e2, e3, e4, a3, b3, binP_leq, unP_not, iteP_eq, atP_zero, rt_eq, scs_sc, scs_nil, flat_bool, true_and]
  unfold sWorld
  cases w.Said.any badSaid <;> cases w.Servers.any badSrv <;> cases inR w.Now 0 99800 <;> cases sAreActors w.Actors <;> cases sHasZones w.Zones <;> cases decide ((w.Said.length : Int) ≤ 60) <;> cases decide ((w.Servers.length : Int) ≤ 4) <;> cases sKnown w.Known <;> simp) k
end Go.Ev
set_option linter.unusedVariables false
set_option linter.unusedSimpArgs false
set_option maxRecDepth 4000
set_option maxHeartbeats 2000000
namespace Go.Ev
open Go.Proofs
theorem laws_FnExactIsWorld_law (pvss : List (List PV)) (h : HasEach [[.int .i64, .list [.list [.int .i64]], .list [.list [.int .i64, .int .i64, .int .i64, .int .i64, .int .i64, .int .i64, .int .i64, .int .i64, .list [.int .i64], .int .i64, .list [.int .i64], .int .i64, .int .i64, .list [.int .i64], .int .i64, .bool, .list [.int .i64, .int .i64]], .list [.str, .int .i64, .int .i64, .list [.str]]], .list [.list [.int .i64, .int .i64, .int .i64, .int .i64, .int .i64, .int .i64, .int .i64, .int .i64, .list [.int .i64], .int .i64, .list [.int .i64], .int .i64, .int .i64, .list [.int .i64], .int .i64, .bool, .list [.int .i64, .int .i64]], .list [.str, .int .i64, .int .i64, .list [.str]], .list [.int .i64]], .list [.list [.list [.int .i64, .int .i64, .int .i64, .int .i64, .int .i64, .int .i64, .int .i64, .int .i64, .list [.int .i64], .int .i64, .list [.int .i64], .int .i64, .int .i64, .list [.int .i64], .int .i64, .bool, .list [.int .i64, .int .i64]], .list [.str, .int .i64, .int .i64, .list [.str]]], .int .i64], .list [.list [.int .i64, .int .i64, .int .i64, .int .i64, .int .i64, .int .i64, .int .i64, .int .i64, .list [.int .i64], .int .i64, .list [.int .i64], .int .i64, .int .i64, .list [.int .i64], .int .i64, .bool, .list [.int .i64, .int .i64]]], .list [.int .i64, .int .i64, .int .i64, .int .i64, .int .i64, .int .i64, .int .i64, .int .i64, .list [.int .i64], .int .i64, .list [.int .i64], .int .i64, .int .i64, .list [.int .i64], .int .i64, .bool, .list [.int .i64, .int .i64], .int .i64, .int .i64, .int .i64, .int .i64, .int .i64, .int .i64, .int .i64, .int .i64, .list [.int .i64], .int .i64, .list [.int .i64], .int .i64, .int .i64, .list [.int .i64], .int .i64, .bool, .list [.int .i64, .int .i64], .int .i64, .int .i64, .int .i64, .int .i64, .int .i64, .int .i64, .int .i64, .int .i64, .list [.int .i64], .int .i64, .list [.int .i64], .int .i64, .int .i64, .list [.int .i64], .int .i64, .bool, .list [.int .i64, .int .i64]], .list [.int .i64, .str, .list [.int .i64, .int .i64, .int .i64, .int .i64, .int .i64, .int .i64, .int .i64, .int .i64, .list [.int .i64], .int .i64, .list [.int .i64], .int .i64, .int .i64, .list [.int .i64], .int .i64, .bool, .list [.int .i64, .int .i64]], .bool, .str, .int .i64, .int .i64, .list [.str], .int .i64, .list [.int .i64], .int .i64, .str, .int .i64, .int .i64, .list [.str], .str, .int .i64, .int .i64, .list [.str], .int .i64, .list [.int .i64], .int .i64, .list [.int .i64]]]] pvss) : laws_FnExactIsWorld (avsOf Tryz.prog Tryz.f14.params.toList pvss) (fun o => o = [PV.bool true]) := by
  obtain ⟨p0, r0, rfl, h0, hq0⟩ := each_cons h
  rw [each_nil hq0]
  obtain ⟨x0, rfl, w0⟩ := decWorld _ h0
  rw [show avsOf Tryz.prog Tryz.f14.params.toList [eWorld x0] = [.agg (eWorld x0)] by kernel_rfl]
  simp only [laws_FnExactIsWorld, un, cur0, laws_szWorld_n x0 (1048576) w0 (by omega) (by omega), binP_lss, iteP_eq, atP_zero, atP_succ, rt_eq, scs_sc, scs_nil, flat_int, flat_bool, true_and, and_true]
  by_cases c0 : ((mWorld x0 : Nat) : Int) ≤ 1048576
  rotate_left
  · simp [szr_not c0]
  simp only [szr_yes c0, show ¬ (1048576 - ((mWorld x0 : Nat) : Int) < 0) by omega, decide_false, Bool.false_eq_true, if_false, binP_lss, iteP_eq, atP_zero, atP_succ, rt_eq, scs_sc, scs_nil, flat_int, flat_bool, true_and, and_true]
  have s0 : mWorld x0 ≤ 1048576 := by omega
  simp [laws_toWorld_n x0 s0, laws_eqWorld_n x0 s0, spec_IsWorld_n x0 s0, impl_IsWorld_n x0 s0]
end Go.Ev
