/- The row of the law FnExactFormatEntry: for whatever arguments the law hands back true, and the arguments read as they did. -/
import Derived.Test.YtgnmkfjaimgncaaDoorHum1
import Derived.Test.YtgnmkfjaimgncaaDoorRows
import Derived.Test.YtgnmkfjaimgncaaDoorCards
import Derived.Test.YtgnmkfjaimgncaaDoorTie
import Derived.SevenTiedAt
import Derived.Stop.LaidErr
import Derived.Lib.LaidTab
import Derived.LaidLaws
set_option maxRecDepth 100000
namespace Go.Proofs.YtgnmkfjaimgncaaDoor.fnExactFormatEntryR
open Go.Ev Go.ChangeShapes Go.WideShapes Go.ChangeAt Go.RowKit
theorem own : ownKnob Tryd.prog.godebug = none := by kernel_rfl
/-- the cells of a listed table -/
def litV : DataW Unit → Value
  | .lit (.int k n) => .int k n
  | _ => .bool false
def tabV : DataW Unit → Array Value
  | .agg l => (l.map litV).toArray
  | _ => #[]
def put1 (g : Nat) (d : DataW Unit) (w : World) : World := { w with heap := w.heap.modify g fun
      | .cells _ t frozen => .cells (tabV d) t frozen
      | o => o }
/-- the settled world, its tables as the text lays them -/
noncomputable def laidWorld (os : Os) : World :=
  put1 2 Rows.laid_math_bits_deBruijn32tab (put1 3 Rows.laid_math_bits_deBruijn64tab (put1 1 Rows.laid_internal_strconv_uint64pow10 (World.holding Tryd.prog os ⟨#[], #[], []⟩)))
abbrev L3 : List (String × DataW Unit) := [("math/bits.deBruijn32tab", Rows.laid_math_bits_deBruijn32tab), ("math/bits.deBruijn64tab", Rows.laid_math_bits_deBruijn64tab), ("internal/strconv.uint64pow10", Rows.laid_internal_strconv_uint64pow10)]
theorem laidWorld_met (os : Os) (args : Array Value) : laidMet Tryd.prog L3 ((laidWorld os).forCall (fun _ _ => 0) ⟨#[], args, []⟩).memory :=
  laidMet_of_run' 8 (by kernel_rfl) (by kernel_rfl)
theorem env_of (W : World) (h : laidMet Tryd.prog L3 W) : Env W :=
  Lib.tabIs_of_head (k := .u64) (zs := Lib.pow10Tab) (rest := []) (g := 1) (t := 154) (e := 144) (n := 20) (by kernel_rfl) (by kernel_rfl) (by kernel_rfl) (by kernel_rfl) (by kernel_rfl) (by kernel_rfl) h.tail.tail
theorem lifted (os : Os) (started : os.Started) (H : Type) (enc : TypeId × Value → H) :
    ReturnsInHanded {} Tryd.checked os 4 .any (fun w args => (Rows.fnExactFormatEntrySpec.pre enc Tryd.prog Tryd.f4 Rows.fnExactFormatEntryRow.domain false w args ∧ laidMet Tryd.prog L3 w) ∧ sizedMet enc Tryd.prog Tryd.f4 (OpenSpec.ofChange Rows.fnExactFormatEntrySpec) false w args) (Rows.fnExactFormatEntrySpec.post enc Tryd.prog Tryd.f4 false true false false) :=
  row_lifted_laid (C := Tryd.checked) (n := 40) (ess := [[.str, .int .i64, .int .i64, .list [.str]]]) (tb := 4) (L := L3) own started (by kernel_rfl) Tryd.func4
    (ChangeSpec.witness_at (enc := enc) (C := Tryd.checked) (os := os) (X := fun w _ => laidMet Tryd.prog L3 w) false (laidWorld os) #[.agg #[.string ⟨#[]⟩, .int .i64 0, .int .i64 0, .slice none 0 0]] 40 rfl (by kernel_rfl) (by kernel_rfl) (by kernel_rfl) (by kernel_rfl) (by kernel_rfl) (laidWorld_met os _))
    rfl (fun ds h => match ds, h with | [_], _ => rfl) (by kernel_rfl) (by kernel_rfl) (by kernel_rfl) (by kernel_rfl) (by kernel_rfl) (by kernel_rfl)
    env_of (law_of laws_FnExactFormatEntry_w (by kernel_rfl) laws_FnExactFormatEntry_law)
theorem hl : Tryd.checked.prog.initOrder.toList = ([104, 97, 114, 110, 101, 115, 115, 32, 52, 100, 56, 56, 97, 97, 48, 49, 57, 51, 57, 54, 51, 55, 48, 98, 102, 52, 55, 102, 100, 101, 51, 97, 50, 52, 48, 48, 51, 101, 52, 98, 97, 53, 55, 51, 57, 97, 102, 55, 100, 101, 102, 102, 54, 53, 49, 54, 98, 50, 50, 100, 51, 97, 100, 57, 49, 56, 53, 101, 98, 101, 48, 98, 32, 99, 117, 116, 32, 97, 116, 32, 108, 111, 111, 112, 46, 101, 120, 97, 109, 112, 108, 101, 47, 103, 48, 48, 53, 56, 56, 47, 108, 97, 119, 115, 46, 70, 110, 69, 120, 97, 99, 116, 70, 111, 114, 109, 97, 116, 75, 101, 121, 115, 32, 108, 111, 111, 112, 46, 101, 120, 97, 109, 112, 108, 101, 47, 103, 48, 48, 53, 56, 56, 47, 108, 97, 119, 115, 46, 70, 110, 69, 120, 97, 99, 116, 70, 111, 114, 109, 97, 116, 69, 110, 116, 114, 121, 32, 108, 111, 111, 112, 46, 101, 120, 97, 109, 112, 108, 101, 47, 103, 48, 48, 53, 56, 56, 47, 108, 97, 119, 115, 46, 70, 110, 69, 120, 97, 99, 116, 70, 111, 114, 109, 97, 116, 72, 101, 97, 100, 32, 108, 111, 111, 112, 46, 101, 120, 97, 109, 112, 108, 101, 47, 103, 48, 48, 53, 56, 56, 47, 108, 97, 119, 115, 46, 70, 110, 69, 120, 97, 99, 116, 70, 111, 114, 109, 97, 116, 68, 101, 99, 105, 115, 105, 111, 110, 32, 108, 111, 111, 112, 46, 101, 120, 97, 109, 112, 108, 101, 47, 103, 48, 48, 53, 56, 56, 47, 108, 97, 119, 115, 46, 70, 110, 69, 120, 97, 99, 116, 70, 111, 114, 109, 97, 116, 84, 114, 97, 99, 101] : List Nat).map Char.ofNat := (congrArg String.toList (show Tryd.checked.prog.initOrder = String.ofList (([104, 97, 114, 110, 101, 115, 115, 32, 52, 100, 56, 56, 97, 97, 48, 49, 57, 51, 57, 54, 51, 55, 48, 98, 102, 52, 55, 102, 100, 101, 51, 97, 50, 52, 48, 48, 51, 101, 52, 98, 97, 53, 55, 51, 57, 97, 102, 55, 100, 101, 102, 102, 54, 53, 49, 54, 98, 50, 50, 100, 51, 97, 100, 57, 49, 56, 53, 101, 98, 101, 48, 98, 32, 99, 117, 116, 32, 97, 116, 32, 108, 111, 111, 112, 46, 101, 120, 97, 109, 112, 108, 101, 47, 103, 48, 48, 53, 56, 56, 47, 108, 97, 119, 115, 46, 70, 110, 69, 120, 97, 99, 116, 70, 111, 114, 109, 97, 116, 75, 101, 121, 115, 32, 108, 111, 111, 112, 46, 101, 120, 97, 109, 112, 108, 101, 47, 103, 48, 48, 53, 56, 56, 47, 108, 97, 119, 115, 46, 70, 110, 69, 120, 97, 99, 116, 70, 111, 114, 109, 97, 116, 69, 110, 116, 114, 121, 32, 108, 111, 111, 112, 46, 101, 120, 97, 109, 112, 108, 101, 47, 103, 48, 48, 53, 56, 56, 47, 108, 97, 119, 115, 46, 70, 110, 69, 120, 97, 99, 116, 70, 111, 114, 109, 97, 116, 72, 101, 97, 100, 32, 108, 111, 111, 112, 46, 101, 120, 97, 109, 112, 108, 101, 47, 103, 48, 48, 53, 56, 56, 47, 108, 97, 119, 115, 46, 70, 110, 69, 120, 97, 99, 116, 70, 111, 114, 109, 97, 116, 68, 101, 99, 105, 115, 105, 111, 110, 32, 108, 111, 111, 112, 46, 101, 120, 97, 109, 112, 108, 101, 47, 103, 48, 48, 53, 56, 56, 47, 108, 97, 119, 115, 46, 70, 110, 69, 120, 97, 99, 116, 70, 111, 114, 109, 97, 116, 84, 114, 97, 99, 101] : List Nat).map Char.ofNat) by kernel_rfl)).trans String.toList_ofList
theorem a_make : (Tryd.checked.prog.make == some Rows.fnExactFormatEntryRow.make) = true := by
  simp only [Program.make, Program.headLifts, hl]; kernel_rfl
theorem a_lift : (Rows.fnExactFormatEntryRow.lifted == Tryd.checked.prog.liftsFinal) = true := by
  simp only [Program.liftsFinal, Program.headLifts, hl]; kernel_rfl
theorem a_enter : Tryd.checked.prog.mayEnter = true := by
  simp only [Program.mayEnter, hl]; kernel_rfl
theorem a_laid : laidOutB Tryd.checked.prog = true := by kernel_rfl
theorem a_maps : mapsRowed Tryd.checked.prog = true := by kernel_rfl
theorem a_reach : ((Rows.fnExactFormatEntryRow.inPlace == Tryd.checked.prog.inPlace 4) && (Rows.fnExactFormatEntryRow.unfollowed == Tryd.checked.prog.unfollowed 4) && (Rows.fnExactFormatEntryRow.recurses == Tryd.checked.prog.recurses 4) && (Rows.fnExactFormatEntryRow.named == Tryd.checked.prog.varsNamed 4)) = true := by kernel_rfl
theorem over : Rows.fnExactFormatEntryRow.holds Tryd.pinned (OpenSpec.ofChange Rows.fnExactFormatEntrySpec) :=
  OpenClaim.holds_of_wide 4 Tryd.f4 rfl rfl rfl rfl rfl rfl rfl ⟨rfl, rfl, rfl, rfl, rfl⟩ rfl rfl rfl rfl rfl (by kernel_rfl) Tryd.func4 (joined_of_parts (by kernel_rfl) a_laid a_maps (by kernel_rfl) (by kernel_rfl) a_reach (by kernel_rfl) (by kernel_rfl) a_enter a_lift a_make)
    (of_decide_eq_true (by kernel_rfl)) (by unfold Func.isWrapper; first | (rw [if_pos (by decide +kernel)]; kernel_rfl) | (rw [if_neg (by decide +kernel)]; exact ⟨rfl, rfl⟩))
    (fun os started H enc _ => lifted os started H enc)
theorem card : Claim7.holds Tryd.pinned (.plain (OpenSpec.ofChange Rows.fnExactFormatEntrySpec)) Rows.fnExactFormatEntryCard :=
  Claim7.holds_tied_plain_at .later [] [.data, .data, .data] true (true, "4d88aa019396370bf47fde3a24003e4ba5739af7deff6516b22d3ad9185ebe0b") false
    over (fun _ h => by cases h) (by kernel_rfl) (fun _ h => by cases h) fnExactFormatEntry_row_tie rfl ⟨rfl, rfl⟩ (by kernel_rfl) rfl
    (fun f fn hf hfn => by
      obtain rfl : f = 4 := Option.some.inj ((show Tryd.prog.funcNamed "loop.example/g00588/laws.FnExactFormatEntry" = some 4 by kernel_rfl).symm.trans hf) |>.symm
      obtain rfl : fn = Tryd.f4 := (Option.some.inj (Tryd.func4.symm.trans hfn)).symm
      refine ⟨by kernel_rfl, fun j t ht => ?_⟩
      have hp : Tryd.f4.params = #[33] := by kernel_rfl
      rw [hp] at ht
      have h3 : t = 33 := by
        rcases j with _ | j
        · simpa using ht.symm
        · simp at ht
      subst h3
      exact (show Tryd.prog.wantsStandIn 33 = false by kernel_rfl))
    (by kernel_rfl)
end Go.Proofs.YtgnmkfjaimgncaaDoor.fnExactFormatEntryR
namespace Go.Proofs.YtgnmkfjaimgncaaDoor
theorem fnExactFormatEntry_holds : Rows.FnExactFormatEntryCardSaid := fnExactFormatEntryR.card
#print axioms fnExactFormatEntry_holds
end Go.Proofs.YtgnmkfjaimgncaaDoor
