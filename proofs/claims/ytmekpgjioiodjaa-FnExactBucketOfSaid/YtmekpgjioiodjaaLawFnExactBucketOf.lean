/- The row of the law FnExactBucketOf: for whatever arguments the law hands back true, and the arguments read as they did. -/
import Derived.Test.YtmekpgjioiodjaaHum
import Derived.Test.YtmekpgjioiodjaaRows
set_option maxRecDepth 100000
namespace Go.Proofs.Ytmekpgjioiodjaa.fnExactBucketOfR
open Go.Ev Go.ChangeShapes Go.WideShapes Go.ChangeAt Go.RowKit
theorem own : ownKnob Try.prog.godebug = none := by kernel_rfl
theorem lifted (os : Os) (started : os.Started) (H : Type) (enc : TypeId × Value → H) :
    ReturnsInHanded {} Try.checked os 4 .any (Rows.fnExactBucketOfSpec.pre6 enc Try.prog Try.f4 Rows.fnExactBucketOfRow.domain false) (Rows.fnExactBucketOfSpec.post enc Try.prog Try.f4 false true false false) :=
  row_lifted (C := Try.checked) (n := 40) (ess := [[.str]]) (tb := 4) own started (by kernel_rfl) Try.func4
    (ChangeSpec.witness6 (enc := enc) (C := Try.checked) false ⟨#[], #[.string ⟨#[]⟩], []⟩ 40 (by kernel_rfl) (by kernel_rfl) (by kernel_rfl) (by kernel_rfl))
    rfl (fun ds h => match ds, h with | [_], _ => rfl) (by kernel_rfl) (by kernel_rfl) (by kernel_rfl) (by kernel_rfl) (by kernel_rfl) (by kernel_rfl)
    (law_of laws_FnExactBucketOf_w (by kernel_rfl) laws_FnExactBucketOf_law)
theorem over : Rows.fnExactBucketOfRow.holds Try.pinned (OpenSpec.ofChange Rows.fnExactBucketOfSpec) :=
  OpenClaim.holds_of_wide 4 Try.f4 rfl rfl rfl rfl rfl rfl rfl ⟨rfl, rfl, rfl, rfl, rfl⟩ rfl rfl rfl rfl rfl (by kernel_rfl) Try.func4 (by kernel_rfl)
    (of_decide_eq_true (by kernel_rfl)) (by unfold Func.isWrapper; first | (rw [if_pos (by decide +kernel)]; kernel_rfl) | (rw [if_neg (by decide +kernel)]; exact ⟨rfl, rfl⟩))
    (fun os started H enc _ => lifted os started H enc)
end Go.Proofs.Ytmekpgjioiodjaa.fnExactBucketOfR
namespace Go.Proofs.Ytmekpgjioiodjaa
theorem fnExactBucketOf_holds : Rows.FnExactBucketOfSaid := fnExactBucketOfR.over
#print axioms fnExactBucketOf_holds
end Go.Proofs.Ytmekpgjioiodjaa
