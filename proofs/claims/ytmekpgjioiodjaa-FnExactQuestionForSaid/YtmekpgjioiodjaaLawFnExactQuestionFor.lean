/- The row of the law FnExactQuestionFor: for whatever arguments the law hands back true, and the arguments read as they did. -/
import Derived.Test.YtmekpgjioiodjaaHum
import Derived.Test.YtmekpgjioiodjaaRows
set_option maxRecDepth 100000
namespace Go.Proofs.Ytmekpgjioiodjaa.fnExactQuestionForR
open Go.Ev Go.ChangeShapes Go.WideShapes Go.ChangeAt Go.RowKit
theorem own : ownKnob Try.prog.godebug = none := by kernel_rfl
theorem lifted (os : Os) (started : os.Started) (H : Type) (enc : TypeId × Value → H) :
    ReturnsInHanded {} Try.checked os 5 .any (Rows.fnExactQuestionForSpec.pre6 enc Try.prog Try.f5 Rows.fnExactQuestionForRow.domain false) (Rows.fnExactQuestionForSpec.post enc Try.prog Try.f5 false true false false) :=
  row_lifted (C := Try.checked) (n := 40) (ess := [[.int .i64], [.str]]) (tb := 4) own started (by kernel_rfl) Try.func5
    (ChangeSpec.witness6 (enc := enc) (C := Try.checked) false ⟨#[], #[.int .i64 0, .string ⟨#[]⟩], []⟩ 40 (by kernel_rfl) (by kernel_rfl) (by kernel_rfl) (by kernel_rfl))
    rfl (fun ds h => match ds, h with | [_, _], _ => rfl) (by kernel_rfl) (by kernel_rfl) (by kernel_rfl) (by kernel_rfl) (by kernel_rfl) (by kernel_rfl)
    (law_of laws_FnExactQuestionFor_w (by kernel_rfl) laws_FnExactQuestionFor_law)
theorem over : Rows.fnExactQuestionForRow.holds Try.pinned (OpenSpec.ofChange Rows.fnExactQuestionForSpec) :=
  OpenClaim.holds_of_wide 5 Try.f5 rfl rfl rfl rfl rfl rfl rfl ⟨rfl, rfl, rfl, rfl, rfl⟩ rfl rfl rfl rfl rfl (by kernel_rfl) Try.func5 (by kernel_rfl)
    (of_decide_eq_true (by kernel_rfl)) (by unfold Func.isWrapper; first | (rw [if_pos (by decide +kernel)]; kernel_rfl) | (rw [if_neg (by decide +kernel)]; exact ⟨rfl, rfl⟩))
    (fun os started H enc _ => lifted os started H enc)
end Go.Proofs.Ytmekpgjioiodjaa.fnExactQuestionForR
namespace Go.Proofs.Ytmekpgjioiodjaa
theorem fnExactQuestionFor_holds : Rows.FnExactQuestionForSaid := fnExactQuestionForR.over
#print axioms fnExactQuestionFor_holds
end Go.Proofs.Ytmekpgjioiodjaa
