/- The row of the law FnExactNewWorld: for whatever arguments the law hands back true, and the arguments read as they did. -/
import Derived.Test.YtneadmcfnlilmaaHum1
import Derived.Test.YtneadmcfnlilmaaRows
set_option maxRecDepth 100000
namespace Go.Proofs.Ytneadmcfnlilmaa.fnExactNewWorldR
open Go.Ev Go.ChangeShapes Go.WideShapes Go.ChangeAt Go.RowKit
theorem own : ownKnob Try.prog.godebug = none := by kernel_rfl
theorem lifted (os : Os) (started : os.Started) (H : Type) (enc : TypeId × Value → H) :
    ReturnsInHanded {} Try.checked os 6 .any (Rows.fnExactNewWorldSpec.pre6 enc Try.prog Try.f6 Rows.fnExactNewWorldRow.domain false) (Rows.fnExactNewWorldSpec.post enc Try.prog Try.f6 false true false false) :=
  row_lifted (C := Try.checked) (n := 40) (ess := [[.int .i64], [.int .i64]]) (tb := 4) own started (by kernel_rfl) Try.func6
    (ChangeSpec.witness6 (enc := enc) (C := Try.checked) false ⟨#[], #[.int .i64 0, .int .i64 0], []⟩ 40 (by kernel_rfl) (by kernel_rfl) (by kernel_rfl) (by kernel_rfl))
    rfl (fun ds h => match ds, h with | [_, _], _ => rfl) (by kernel_rfl) (by kernel_rfl) (by kernel_rfl) (by kernel_rfl) (by kernel_rfl) (by kernel_rfl)
    (fun _ => trivial) (law_of laws_FnExactNewWorld_w (by kernel_rfl) laws_FnExactNewWorld_law)
theorem hl : Try.checked.prog.initOrder.toList = ([104, 97, 114, 110, 101, 115, 115, 32, 53, 49, 54, 54, 51, 50, 55, 52, 100, 101, 55, 101, 50, 98, 55, 100, 56, 56, 102, 51, 51, 52, 56, 98, 56, 48, 97, 49, 99, 102, 97, 100, 101, 101, 50, 101, 100, 97, 56, 100, 102, 102, 49, 52, 53, 55, 98, 52, 97, 50, 98, 54, 49, 55, 50, 50, 51, 54, 52, 56, 53, 101, 99, 98, 32, 99, 117, 116, 32, 97, 116, 32, 108, 111, 111, 112, 46, 101, 120, 97, 109, 112, 108, 101, 47, 103, 48, 48, 53, 56, 56, 47, 108, 97, 119, 115, 46, 70, 110, 69, 120, 97, 99, 116, 71, 105, 118, 101, 75, 101, 121, 32, 108, 111, 111, 112, 46, 101, 120, 97, 109, 112, 108, 101, 47, 103, 48, 48, 53, 56, 56, 47, 108, 97, 119, 115, 46, 70, 110, 69, 120, 97, 99, 116, 83, 116, 101, 97, 108, 75, 101, 121, 32, 108, 111, 111, 112, 46, 101, 120, 97, 109, 112, 108, 101, 47, 103, 48, 48, 53, 56, 56, 47, 108, 97, 119, 115, 46, 70, 110, 69, 120, 97, 99, 116, 80, 105, 99, 107, 65, 110, 115, 119, 101, 114, 32, 108, 111, 111, 112, 46, 101, 120, 97, 109, 112, 108, 101, 47, 103, 48, 48, 53, 56, 56, 47, 108, 97, 119, 115, 46, 70, 110, 69, 120, 97, 99, 116, 78, 101, 119, 87, 111, 114, 108, 100] : List Nat).map Char.ofNat := (congrArg String.toList (show Try.checked.prog.initOrder = String.ofList (([104, 97, 114, 110, 101, 115, 115, 32, 53, 49, 54, 54, 51, 50, 55, 52, 100, 101, 55, 101, 50, 98, 55, 100, 56, 56, 102, 51, 51, 52, 56, 98, 56, 48, 97, 49, 99, 102, 97, 100, 101, 101, 50, 101, 100, 97, 56, 100, 102, 102, 49, 52, 53, 55, 98, 52, 97, 50, 98, 54, 49, 55, 50, 50, 51, 54, 52, 56, 53, 101, 99, 98, 32, 99, 117, 116, 32, 97, 116, 32, 108, 111, 111, 112, 46, 101, 120, 97, 109, 112, 108, 101, 47, 103, 48, 48, 53, 56, 56, 47, 108, 97, 119, 115, 46, 70, 110, 69, 120, 97, 99, 116, 71, 105, 118, 101, 75, 101, 121, 32, 108, 111, 111, 112, 46, 101, 120, 97, 109, 112, 108, 101, 47, 103, 48, 48, 53, 56, 56, 47, 108, 97, 119, 115, 46, 70, 110, 69, 120, 97, 99, 116, 83, 116, 101, 97, 108, 75, 101, 121, 32, 108, 111, 111, 112, 46, 101, 120, 97, 109, 112, 108, 101, 47, 103, 48, 48, 53, 56, 56, 47, 108, 97, 119, 115, 46, 70, 110, 69, 120, 97, 99, 116, 80, 105, 99, 107, 65, 110, 115, 119, 101, 114, 32, 108, 111, 111, 112, 46, 101, 120, 97, 109, 112, 108, 101, 47, 103, 48, 48, 53, 56, 56, 47, 108, 97, 119, 115, 46, 70, 110, 69, 120, 97, 99, 116, 78, 101, 119, 87, 111, 114, 108, 100] : List Nat).map Char.ofNat) by kernel_rfl)).trans String.toList_ofList
theorem a_make : (Try.checked.prog.make == some Rows.fnExactNewWorldRow.make) = true := by
  simp only [Program.make, Program.headLifts, hl]; kernel_rfl
theorem a_lift : (Rows.fnExactNewWorldRow.lifted == Try.checked.prog.liftsFinal) = true := by
  simp only [Program.liftsFinal, Program.headLifts, hl]; kernel_rfl
theorem a_enter : Try.checked.prog.mayEnter = true := by
  simp only [Program.mayEnter, hl]; kernel_rfl
theorem a_laid : laidOutB Try.checked.prog = true := by kernel_rfl
theorem a_maps : mapsRowed Try.checked.prog = true := by kernel_rfl
theorem a_reach : ((Rows.fnExactNewWorldRow.inPlace == Try.checked.prog.inPlace 6) && (Rows.fnExactNewWorldRow.unfollowed == Try.checked.prog.unfollowed 6) && (Rows.fnExactNewWorldRow.recurses == Try.checked.prog.recurses 6) && (Rows.fnExactNewWorldRow.named == Try.checked.prog.varsNamed 6)) = true := by kernel_rfl
theorem over : Rows.fnExactNewWorldRow.holds Try.pinned (OpenSpec.ofChange Rows.fnExactNewWorldSpec) :=
  OpenClaim.holds_of_wide 6 Try.f6 rfl rfl rfl rfl rfl rfl rfl ⟨rfl, rfl, rfl, rfl, rfl⟩ rfl rfl rfl rfl rfl (by kernel_rfl) Try.func6 (joined_of_parts (by kernel_rfl) a_laid a_maps (by kernel_rfl) (by kernel_rfl) a_reach (by kernel_rfl) (by kernel_rfl) a_enter a_lift a_make)
    (of_decide_eq_true (by kernel_rfl)) (by unfold Func.isWrapper; first | (rw [if_pos (by decide +kernel)]; kernel_rfl) | (rw [if_neg (by decide +kernel)]; exact ⟨rfl, rfl⟩))
    (fun os started H enc _ => lifted os started H enc)
end Go.Proofs.Ytneadmcfnlilmaa.fnExactNewWorldR
namespace Go.Proofs.Ytneadmcfnlilmaa
theorem fnExactNewWorld_holds : Rows.FnExactNewWorldSaid := fnExactNewWorldR.over
#print axioms fnExactNewWorld_holds
end Go.Proofs.Ytneadmcfnlilmaa
