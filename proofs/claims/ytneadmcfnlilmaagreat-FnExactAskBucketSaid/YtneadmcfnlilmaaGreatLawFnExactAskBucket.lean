/- The row of the law FnExactAskBucket: for whatever arguments the law hands back true, and the arguments read as they did. -/
import Derived.Test.YtneadmcfnlilmaaGreatHum1
import Derived.Test.YtneadmcfnlilmaaGreatRows
set_option maxRecDepth 100000
namespace Go.Proofs.YtneadmcfnlilmaaGreat.fnExactAskBucketR
open Go.Ev Go.ChangeShapes Go.WideShapes Go.ChangeAt Go.RowKit
theorem own : ownKnob Tryz.prog.godebug = none := by kernel_rfl
theorem lifted (os : Os) (started : os.Started) (H : Type) (enc : TypeId × Value → H) :
    ReturnsInHanded {} Tryz.checked os 5 .any (Rows.fnExactAskBucketSpec.pre6 enc Tryz.prog Tryz.f5 Rows.fnExactAskBucketRow.domain false) (Rows.fnExactAskBucketSpec.post enc Tryz.prog Tryz.f5 false true false false) :=
  row_lifted (C := Tryz.checked) (n := 40) (ess := [[.list [.list [.int .i64, .int .i64, .int .i64, .int .i64, .int .i64, .int .i64, .int .i64, .int .i64, .list [.int .i64], .int .i64, .list [.int .i64], .int .i64, .int .i64, .list [.int .i64], .int .i64, .bool, .list [.int .i64, .int .i64]], .list [.str, .int .i64, .int .i64, .list [.str]]], .int .i64], [.int .i64, .int .i64]]) (tb := 4) own started (by kernel_rfl) Tryz.func5
    (ChangeSpec.witness6 (enc := enc) (C := Tryz.checked) false ⟨#[], #[.agg #[.slice none 0 0, .int .i64 0], .agg #[.int .i64 0, .int .i64 0]], []⟩ 40 (by kernel_rfl) (by kernel_rfl) (by kernel_rfl) (by kernel_rfl))
    rfl (fun ds h => match ds, h with | [_, _], _ => rfl) (by kernel_rfl) (by kernel_rfl) (by kernel_rfl) (by kernel_rfl) (by kernel_rfl) (by kernel_rfl)
    (fun _ => trivial) (law_of laws_FnExactAskBucket_w (by kernel_rfl) laws_FnExactAskBucket_law)
theorem hl : Tryz.checked.prog.initOrder.toList = ([104, 97, 114, 110, 101, 115, 115, 32, 56, 48, 51, 55, 49, 55, 52, 50, 99, 50, 55, 100, 102, 55, 56, 100, 54, 53, 53, 52, 52, 55, 98, 52, 50, 49, 52, 52, 50, 52, 97, 54, 56, 51, 100, 100, 52, 55, 102, 53, 101, 55, 101, 98, 100, 57, 52, 52, 48, 98, 50, 51, 48, 55, 56, 50, 97, 53, 101, 102, 101, 55, 98, 101, 32, 99, 117, 116, 32, 97, 116, 32, 108, 111, 111, 112, 46, 101, 120, 97, 109, 112, 108, 101, 47, 103, 48, 48, 53, 56, 56, 47, 108, 97, 119, 115, 46, 70, 110, 69, 120, 97, 99, 116, 83, 112, 101, 97, 107, 101, 114, 115, 79, 102, 32, 108, 111, 111, 112, 46, 101, 120, 97, 109, 112, 108, 101, 47, 103, 48, 48, 53, 56, 56, 47, 108, 97, 119, 115, 46, 70, 110, 69, 120, 97, 99, 116, 90, 111, 110, 101, 65, 116, 32, 108, 111, 111, 112, 46, 101, 120, 97, 109, 112, 108, 101, 47, 103, 48, 48, 53, 56, 56, 47, 108, 97, 119, 115, 46, 70, 110, 69, 120, 97, 99, 116, 65, 115, 107, 66, 117, 99, 107, 101, 116] : List Nat).map Char.ofNat := (congrArg String.toList (show Tryz.checked.prog.initOrder = String.ofList (([104, 97, 114, 110, 101, 115, 115, 32, 56, 48, 51, 55, 49, 55, 52, 50, 99, 50, 55, 100, 102, 55, 56, 100, 54, 53, 53, 52, 52, 55, 98, 52, 50, 49, 52, 52, 50, 52, 97, 54, 56, 51, 100, 100, 52, 55, 102, 53, 101, 55, 101, 98, 100, 57, 52, 52, 48, 98, 50, 51, 48, 55, 56, 50, 97, 53, 101, 102, 101, 55, 98, 101, 32, 99, 117, 116, 32, 97, 116, 32, 108, 111, 111, 112, 46, 101, 120, 97, 109, 112, 108, 101, 47, 103, 48, 48, 53, 56, 56, 47, 108, 97, 119, 115, 46, 70, 110, 69, 120, 97, 99, 116, 83, 112, 101, 97, 107, 101, 114, 115, 79, 102, 32, 108, 111, 111, 112, 46, 101, 120, 97, 109, 112, 108, 101, 47, 103, 48, 48, 53, 56, 56, 47, 108, 97, 119, 115, 46, 70, 110, 69, 120, 97, 99, 116, 90, 111, 110, 101, 65, 116, 32, 108, 111, 111, 112, 46, 101, 120, 97, 109, 112, 108, 101, 47, 103, 48, 48, 53, 56, 56, 47, 108, 97, 119, 115, 46, 70, 110, 69, 120, 97, 99, 116, 65, 115, 107, 66, 117, 99, 107, 101, 116] : List Nat).map Char.ofNat) by kernel_rfl)).trans String.toList_ofList
theorem a_make : (Tryz.checked.prog.make == some Rows.fnExactAskBucketRow.make) = true := by
  simp only [Program.make, Program.headLifts, hl]; kernel_rfl
theorem a_lift : (Rows.fnExactAskBucketRow.lifted == Tryz.checked.prog.liftsFinal) = true := by
  simp only [Program.liftsFinal, Program.headLifts, hl]; kernel_rfl
theorem a_enter : Tryz.checked.prog.mayEnter = true := by
  simp only [Program.mayEnter, hl]; kernel_rfl
theorem a_laid : laidOutB Tryz.checked.prog = true := by kernel_rfl
theorem a_maps : mapsRowed Tryz.checked.prog = true := by kernel_rfl
theorem a_reach : ((Rows.fnExactAskBucketRow.inPlace == Tryz.checked.prog.inPlace 5) && (Rows.fnExactAskBucketRow.unfollowed == Tryz.checked.prog.unfollowed 5) && (Rows.fnExactAskBucketRow.recurses == Tryz.checked.prog.recurses 5) && (Rows.fnExactAskBucketRow.named == Tryz.checked.prog.varsNamed 5)) = true := by kernel_rfl
theorem over : Rows.fnExactAskBucketRow.holds Tryz.pinned (OpenSpec.ofChange Rows.fnExactAskBucketSpec) :=
  OpenClaim.holds_of_wide 5 Tryz.f5 rfl rfl rfl rfl rfl rfl rfl ⟨rfl, rfl, rfl, rfl, rfl⟩ rfl rfl rfl rfl rfl (by kernel_rfl) Tryz.func5 (joined_of_parts (by kernel_rfl) a_laid a_maps (by kernel_rfl) (by kernel_rfl) a_reach (by kernel_rfl) (by kernel_rfl) a_enter a_lift a_make)
    (of_decide_eq_true (by kernel_rfl)) (by unfold Func.isWrapper; first | (rw [if_pos (by decide +kernel)]; kernel_rfl) | (rw [if_neg (by decide +kernel)]; exact ⟨rfl, rfl⟩))
    (fun os started H enc _ => lifted os started H enc)
end Go.Proofs.YtneadmcfnlilmaaGreat.fnExactAskBucketR
namespace Go.Proofs.YtneadmcfnlilmaaGreat
theorem fnExactAskBucket_holds : Rows.FnExactAskBucketSaid := fnExactAskBucketR.over
#print axioms fnExactAskBucket_holds
end Go.Proofs.YtneadmcfnlilmaaGreat
