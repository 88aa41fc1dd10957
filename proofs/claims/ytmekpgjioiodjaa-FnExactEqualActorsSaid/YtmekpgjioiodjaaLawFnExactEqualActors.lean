/- The row of the law FnExactEqualActors: for whatever arguments the law hands back true, and the arguments read as they did. -/
import Derived.Test.YtmekpgjioiodjaaHum
import Derived.Test.YtmekpgjioiodjaaRows
set_option maxRecDepth 100000
namespace Go.Proofs.Ytmekpgjioiodjaa.fnExactEqualActorsR
open Go.Ev Go.ChangeShapes Go.WideShapes Go.ChangeAt Go.RowKit
theorem own : ownKnob Try.prog.godebug = none := by kernel_rfl
theorem lifted (os : Os) (started : os.Started) (H : Type) (enc : TypeId × Value → H) :
    ReturnsInHanded {} Try.checked os 9 .any (Rows.fnExactEqualActorsSpec.pre6 enc Try.prog Try.f9 Rows.fnExactEqualActorsRow.domain false) (Rows.fnExactEqualActorsSpec.post enc Try.prog Try.f9 false true false false) :=
  row_lifted (C := Try.checked) (n := 40) (ess := [[.list [.list [.int .i64]]], [.list [.list [.int .i64]]]]) (tb := 4) own started (by kernel_rfl) Try.func9
    (ChangeSpec.witness6 (enc := enc) (C := Try.checked) false ⟨#[], #[.slice none 0 0, .slice none 0 0], []⟩ 40 (by kernel_rfl) (by kernel_rfl) (by kernel_rfl) (by kernel_rfl))
    rfl (fun ds h => match ds, h with | [_, _], _ => rfl) (by kernel_rfl) (by kernel_rfl) (by kernel_rfl) (by kernel_rfl) (by kernel_rfl) (by kernel_rfl)
    (law_of laws_FnExactEqualActors_w (by kernel_rfl) laws_FnExactEqualActors_law)
theorem over : Rows.fnExactEqualActorsRow.holds Try.pinned (OpenSpec.ofChange Rows.fnExactEqualActorsSpec) :=
  OpenClaim.holds_of_wide 9 Try.f9 rfl rfl rfl rfl rfl rfl rfl ⟨rfl, rfl, rfl, rfl, rfl⟩ rfl rfl rfl rfl rfl (by kernel_rfl) Try.func9 (by kernel_rfl)
    (of_decide_eq_true (by kernel_rfl)) (by unfold Func.isWrapper; first | (rw [if_pos (by decide +kernel)]; kernel_rfl) | (rw [if_neg (by decide +kernel)]; exact ⟨rfl, rfl⟩))
    (fun os started H enc _ => lifted os started H enc)
end Go.Proofs.Ytmekpgjioiodjaa.fnExactEqualActorsR
namespace Go.Proofs.Ytmekpgjioiodjaa
theorem fnExactEqualActors_holds : Rows.FnExactEqualActorsSaid := fnExactEqualActorsR.over
#print axioms fnExactEqualActors_holds
end Go.Proofs.Ytmekpgjioiodjaa
