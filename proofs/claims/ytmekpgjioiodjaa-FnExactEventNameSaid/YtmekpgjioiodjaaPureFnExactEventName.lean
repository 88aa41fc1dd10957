/- For every whole number the program's EventName returns the text that the reference's returns: for 1 to 14 the same name of an event, for any other number the empty text. Condition: the number is a Go int. -/
import Derived.Test.YtmekpgjioiodjaaPFnExactEventNamex1
namespace Go.Proofs.Ytmekpgjioiodjaa.Pure
open Go.RowKit Go.Proofs.Ytmekpgjioiodjaa.PFnExactEventName Go.Proofs.YtmekpgjioiodjaaW.PrintWords Go.Proofs.YtmekpgjioiodjaaW.PrintLast

theorem event_same (a : Int) (h : impl_EventName.f a = spec_EventName.f a) (hs : (spec_EventName.f a).isSome = true) : laws_FnExactEventName.f a = some true := by
  obtain ⟨s, h1⟩ := Option.isSome_iff_exists.1 hs
  unfold laws_FnExactEventName.f
  rw [h, h1]
  simp

theorem event_in (a : Int) (h0 : 1 ≤ a) (h1 : a ≤ 14) : laws_FnExactEventName.f a = some true := by
  obtain rfl | rfl | rfl | rfl | rfl | rfl | rfl | rfl | rfl | rfl | rfl | rfl | rfl | rfl :
      a = 1 ∨ a = 2 ∨ a = 3 ∨ a = 4 ∨ a = 5 ∨ a = 6 ∨ a = 7 ∨ a = 8 ∨ a = 9 ∨ a = 10 ∨ a = 11 ∨ a = 12 ∨ a = 13 ∨ a = 14 := by omega
  all_goals exact event_same _ (by decide +kernel) (by decide +kernel)

theorem event_out (a : Int) (h : ¬ (1 ≤ a ∧ a ≤ 14)) : laws_FnExactEventName.f a = some true := by
  have hw : wrap64 ((15 : Int) - 1) = 14 := by unfold wrap64; omega
  have e1 : spec_EventName.f a = some (⟨#[]⟩ : ByteArray) := by
    unfold spec_EventName.f
    simp only [Option.bind_some, List.length_cons, List.length_nil]
    have : spec_l1In.f a 1 (wrap64 (((0 + 1 + 1 + 1 + 1 + 1 + 1 + 1 + 1 + 1 + 1 + 1 + 1 + 1 + 1 + 1 : Nat) : Int) - 1)) = some false := by
      show spec_l1In.f a 1 (wrap64 ((15 : Int) - 1)) = some false
      rw [hw]
      unfold spec_l1In.f
      split
      · rw [decide_eq_false (by omega)]
      · rfl
    rw [this]
    rfl
  have e2 : impl_EventName.f a = some (⟨#[]⟩ : ByteArray) := by
    unfold impl_EventName.f impl_eventNames.f
    simp only [Option.bind_some]
    unfold impl_nameOf.f
    simp only [List.length_cons, List.length_nil]
    have : impl_InRange.f a 1 (((0 + 1 + 1 + 1 + 1 + 1 + 1 + 1 + 1 + 1 + 1 + 1 + 1 + 1 + 1 : Nat) : Int)) = some false := by
      show impl_InRange.f a 1 (14 : Int) = some false
      unfold impl_InRange.f
      split
      · rw [decide_eq_false (by omega)]
      · rfl
    rw [this]
    rfl
  unfold laws_FnExactEventName.f
  rw [e1, e2]
  simp

theorem FnExactEventName : laws_FnExactEventName.Pure := by
  intro a _
  by_cases h : 1 ≤ a ∧ a ≤ 14
  · exact event_in a h.1 h.2
  · exact event_out a h

end Go.Proofs.Ytmekpgjioiodjaa.Pure
