/- The row of the law FnExactCanSpeak: for whatever arguments the law hands back true, and the arguments read as they did. -/
import Derived.Test.YtmekpgjioiodjaaHum
import Derived.Test.YtmekpgjioiodjaaRows
set_option maxRecDepth 100000
namespace Go.Proofs.Ytmekpgjioiodjaa.fnExactCanSpeakR
open Go.Ev Go.ChangeShapes Go.WideShapes Go.ChangeAt Go.RowKit
theorem own : ownKnob Try.prog.godebug = none := by kernel_rfl
theorem lifted (os : Os) (started : os.Started) (H : Type) (enc : TypeId × Value → H) :
    ReturnsInHanded {} Try.checked os 10 .any (Rows.fnExactCanSpeakSpec.pre6 enc Try.prog Try.f10 Rows.fnExactCanSpeakRow.domain false) (Rows.fnExactCanSpeakSpec.post enc Try.prog Try.f10 false true false false) :=
  row_lifted (C := Try.checked) (n := 40) (ess := [[.list [.list [.int .i64]]], [.int .i64], [.int .i64, .int .i64, .int .i64, .int .i64, .int .i64, .int .i64, .int .i64, .int .i64, .list [.int .i64], .int .i64, .list [.int .i64], .int .i64, .int .i64, .list [.int .i64], .int .i64, .bool], [.int .i64]]) (tb := 4) own started (by kernel_rfl) Try.func10
    (ChangeSpec.witness6 (enc := enc) (C := Try.checked) false ⟨#[], #[.slice none 0 0, .int .i64 0, .agg #[.int .i64 0, .int .i64 0, .int .i64 0, .int .i64 0, .int .i64 0, .int .i64 0, .int .i64 0, .int .i64 0, .slice none 0 0, .int .i64 0, .slice none 0 0, .int .i64 0, .int .i64 0, .slice none 0 0, .int .i64 0, .bool false], .int .i64 0], []⟩ 40 (by kernel_rfl) (by kernel_rfl) (by kernel_rfl) (by kernel_rfl))
    rfl (fun ds h => match ds, h with | [_, _, _, _], _ => rfl) (by kernel_rfl) (by kernel_rfl) (by kernel_rfl) (by kernel_rfl) (by kernel_rfl) (by kernel_rfl)
    (law_of laws_FnExactCanSpeak_w (by kernel_rfl) laws_FnExactCanSpeak_law)
theorem over : Rows.fnExactCanSpeakRow.holds Try.pinned (OpenSpec.ofChange Rows.fnExactCanSpeakSpec) :=
  OpenClaim.holds_of_wide 10 Try.f10 rfl rfl rfl rfl rfl rfl rfl ⟨rfl, rfl, rfl, rfl, rfl⟩ rfl rfl rfl rfl rfl (by kernel_rfl) Try.func10 (by kernel_rfl)
    (of_decide_eq_true (by kernel_rfl)) (by unfold Func.isWrapper; first | (rw [if_pos (by decide +kernel)]; kernel_rfl) | (rw [if_neg (by decide +kernel)]; exact ⟨rfl, rfl⟩))
    (fun os started H enc _ => lifted os started H enc)
end Go.Proofs.Ytmekpgjioiodjaa.fnExactCanSpeakR
namespace Go.Proofs.Ytmekpgjioiodjaa
theorem fnExactCanSpeak_holds : Rows.FnExactCanSpeakSaid := fnExactCanSpeakR.over
#print axioms fnExactCanSpeak_holds
end Go.Proofs.Ytmekpgjioiodjaa
