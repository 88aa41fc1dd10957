/- The row of the law FnExactFormatWorld: for whatever arguments the law hands back true, and the arguments read as they did. -/
import Derived.Test.YtgnmkfjaimgncaaGreatDoorHum1
import Derived.Test.YtgnmkfjaimgncaaGreatDoorRows
import Derived.Test.YtgnmkfjaimgncaaGreatDoorCards
import Derived.Test.YtgnmkfjaimgncaaGreatDoorTie
import Derived.SevenTiedAt
import Derived.Stop.LaidErr
import Derived.Lib.LaidTab
import Derived.LaidLaws
set_option maxRecDepth 100000
namespace Go.Proofs.YtgnmkfjaimgncaaGreatDoor.fnExactFormatWorldR
open Go.Ev Go.ChangeShapes Go.WideShapes Go.ChangeAt Go.RowKit
theorem own : ownKnob Tryz.prog.godebug = none := by kernel_rfl
/-- the cells of a listed table -/
def litV : DataW Unit → Value
  | .lit (.int k n) => .int k n
  | _ => .bool false
def tabV : DataW Unit → Array Value
  | .agg l => (l.map litV).toArray
  | _ => #[]
def put1 (g : Nat) (d : DataW Unit) (w : World) : World := { w with heap := w.heap.modify g fun
      | .cells _ t frozen => .cells (tabV d) t frozen
      | o => o }
/-- the settled world, its tables as the text lays them -/
noncomputable def laidWorld (os : Os) : World :=
  put1 2 Rows.laid_math_bits_deBruijn32tab (put1 3 Rows.laid_math_bits_deBruijn64tab (put1 0 Rows.laid_internal_strconv_uint64pow10 (World.holding Tryz.prog os ⟨#[], #[], []⟩)))
abbrev L3 : List (String × DataW Unit) := [("math/bits.deBruijn32tab", Rows.laid_math_bits_deBruijn32tab), ("math/bits.deBruijn64tab", Rows.laid_math_bits_deBruijn64tab), ("internal/strconv.uint64pow10", Rows.laid_internal_strconv_uint64pow10)]
theorem laidWorld_met (os : Os) (args : Array Value) : laidMet Tryz.prog L3 ((laidWorld os).forCall (fun _ _ => 0) ⟨#[], args, []⟩).memory :=
  laidMet_of_run' 8 (by kernel_rfl) (by kernel_rfl)
theorem env_of (W : World) (h : laidMet Tryz.prog L3 W) : Env W :=
  Lib.tabIs_of_head (k := .u64) (zs := Lib.pow10Tab) (rest := []) (g := 0) (t := 260) (e := 239) (n := 20) (by kernel_rfl) (by kernel_rfl) (by kernel_rfl) (by kernel_rfl) (by kernel_rfl) (by kernel_rfl) h.tail.tail
theorem lifted (os : Os) (started : os.Started) (H : Type) (enc : TypeId × Value → H) :
    ReturnsInHanded {} Tryz.checked os 3 .any (fun w args => (Rows.fnExactFormatWorldSpec.pre enc Tryz.prog Tryz.f3 Rows.fnExactFormatWorldRow.domain false w args ∧ laidMet Tryz.prog L3 w) ∧ sizedMet enc Tryz.prog Tryz.f3 (OpenSpec.ofChange Rows.fnExactFormatWorldSpec) false w args) (Rows.fnExactFormatWorldSpec.post enc Tryz.prog Tryz.f3 false true false false) :=
  row_lifted_laid (C := Tryz.checked) (n := 40) (ess := [[.int .i64, .list [.list [.int .i64]], .list [.list [.int .i64, .int .i64, .int .i64, .int .i64, .int .i64, .int .i64, .int .i64, .int .i64, .list [.int .i64], .int .i64, .list [.int .i64], .int .i64, .int .i64, .list [.int .i64], .int .i64, .bool, .list [.int .i64, .int .i64]], .list [.str, .int .i64, .int .i64, .list [.str]]], .list [.list [.int .i64, .int .i64, .int .i64, .int .i64, .int .i64, .int .i64, .int .i64, .int .i64, .list [.int .i64], .int .i64, .list [.int .i64], .int .i64, .int .i64, .list [.int .i64], .int .i64, .bool, .list [.int .i64, .int .i64]], .list [.str, .int .i64, .int .i64, .list [.str]], .list [.int .i64]], .list [.list [.list [.int .i64, .int .i64, .int .i64, .int .i64, .int .i64, .int .i64, .int .i64, .int .i64, .list [.int .i64], .int .i64, .list [.int .i64], .int .i64, .int .i64, .list [.int .i64], .int .i64, .bool, .list [.int .i64, .int .i64]], .list [.str, .int .i64, .int .i64, .list [.str]]], .int .i64], .list [.list [.int .i64, .int .i64, .int .i64, .int .i64, .int .i64, .int .i64, .int .i64, .int .i64, .list [.int .i64], .int .i64, .list [.int .i64], .int .i64, .int .i64, .list [.int .i64], .int .i64, .bool, .list [.int .i64, .int .i64]]], .list [.int .i64, .int .i64, .int .i64, .int .i64, .int .i64, .int .i64, .int .i64, .int .i64, .list [.int .i64], .int .i64, .list [.int .i64], .int .i64, .int .i64, .list [.int .i64], .int .i64, .bool, .list [.int .i64, .int .i64], .int .i64, .int .i64, .int .i64, .int .i64, .int .i64, .int .i64, .int .i64, .int .i64, .list [.int .i64], .int .i64, .list [.int .i64], .int .i64, .int .i64, .list [.int .i64], .int .i64, .bool, .list [.int .i64, .int .i64], .int .i64, .int .i64, .int .i64, .int .i64, .int .i64, .int .i64, .int .i64, .int .i64, .list [.int .i64], .int .i64, .list [.int .i64], .int .i64, .int .i64, .list [.int .i64], .int .i64, .bool, .list [.int .i64, .int .i64]], .list [.int .i64, .str, .list [.int .i64, .int .i64, .int .i64, .int .i64, .int .i64, .int .i64, .int .i64, .int .i64, .list [.int .i64], .int .i64, .list [.int .i64], .int .i64, .int .i64, .list [.int .i64], .int .i64, .bool, .list [.int .i64, .int .i64]], .bool, .str, .int .i64, .int .i64, .list [.str], .int .i64, .list [.int .i64], .int .i64, .str, .int .i64, .int .i64, .list [.str], .str, .int .i64, .int .i64, .list [.str], .int .i64, .list [.int .i64], .int .i64, .list [.int .i64]]]]) (tb := 4) (L := L3) own started (by kernel_rfl) Tryz.func3
    (ChangeSpec.witness_at (enc := enc) (C := Tryz.checked) (os := os) (X := fun w _ => laidMet Tryz.prog L3 w) false (laidWorld os) #[.agg #[.int .i64 0, .slice none 0 0, .slice none 0 0, .slice none 0 0, .slice none 0 0, .slice none 0 0, .slice none 0 0, .slice none 0 0]] 40 rfl (by kernel_rfl) (by kernel_rfl) (by kernel_rfl) (by kernel_rfl) (by kernel_rfl) (laidWorld_met os _))
    rfl (fun ds h => match ds, h with | [_], _ => rfl) (by kernel_rfl) (by kernel_rfl) (by kernel_rfl) (by kernel_rfl) (by kernel_rfl) (by kernel_rfl)
    env_of (law_of laws_FnExactFormatWorld_w (by kernel_rfl) laws_FnExactFormatWorld_law)
theorem hl : Tryz.checked.prog.initOrder.toList = ([104, 97, 114, 110, 101, 115, 115, 32, 56, 51, 52, 56, 102, 100, 102, 99, 56, 53, 56, 101, 53, 48, 50, 99, 99, 100, 102, 51, 97, 49, 50, 56, 99, 102, 98, 99, 57, 57, 101, 50, 97, 97, 54, 57, 99, 102, 97, 98, 51, 51, 55, 57, 51, 97, 101, 99, 56, 52, 99, 102, 97, 99, 53, 56, 51, 54, 101, 50, 102, 101, 49, 99, 32, 99, 117, 116, 32, 97, 116, 32, 108, 111, 111, 112, 46, 101, 120, 97, 109, 112, 108, 101, 47, 103, 48, 48, 53, 56, 56, 47, 108, 97, 119, 115, 46, 70, 110, 69, 120, 97, 99, 116, 70, 111, 114, 109, 97, 116, 87, 111, 114, 108, 100, 32, 108, 111, 111, 112, 46, 101, 120, 97, 109, 112, 108, 101, 47, 103, 48, 48, 53, 56, 56, 47, 108, 97, 119, 115, 46, 70, 110, 69, 120, 97, 99, 116, 70, 111, 114, 109, 97, 116, 90, 111, 110, 101] : List Nat).map Char.ofNat := (congrArg String.toList (show Tryz.checked.prog.initOrder = String.ofList (([104, 97, 114, 110, 101, 115, 115, 32, 56, 51, 52, 56, 102, 100, 102, 99, 56, 53, 56, 101, 53, 48, 50, 99, 99, 100, 102, 51, 97, 49, 50, 56, 99, 102, 98, 99, 57, 57, 101, 50, 97, 97, 54, 57, 99, 102, 97, 98, 51, 51, 55, 57, 51, 97, 101, 99, 56, 52, 99, 102, 97, 99, 53, 56, 51, 54, 101, 50, 102, 101, 49, 99, 32, 99, 117, 116, 32, 97, 116, 32, 108, 111, 111, 112, 46, 101, 120, 97, 109, 112, 108, 101, 47, 103, 48, 48, 53, 56, 56, 47, 108, 97, 119, 115, 46, 70, 110, 69, 120, 97, 99, 116, 70, 111, 114, 109, 97, 116, 87, 111, 114, 108, 100, 32, 108, 111, 111, 112, 46, 101, 120, 97, 109, 112, 108, 101, 47, 103, 48, 48, 53, 56, 56, 47, 108, 97, 119, 115, 46, 70, 110, 69, 120, 97, 99, 116, 70, 111, 114, 109, 97, 116, 90, 111, 110, 101] : List Nat).map Char.ofNat) by kernel_rfl)).trans String.toList_ofList
theorem a_make : (Tryz.checked.prog.make == some Rows.fnExactFormatWorldRow.make) = true := by
  simp only [Program.make, Program.headLifts, hl]; kernel_rfl
theorem a_lift : (Rows.fnExactFormatWorldRow.lifted == Tryz.checked.prog.liftsFinal) = true := by
  simp only [Program.liftsFinal, Program.headLifts, hl]; kernel_rfl
theorem a_enter : Tryz.checked.prog.mayEnter = true := by
  simp only [Program.mayEnter, hl]; kernel_rfl
theorem a_laid : laidOutB Tryz.checked.prog = true := by kernel_rfl
theorem a_maps : mapsRowed Tryz.checked.prog = true := by kernel_rfl
theorem a_reach : ((Rows.fnExactFormatWorldRow.inPlace == Tryz.checked.prog.inPlace 3) && (Rows.fnExactFormatWorldRow.unfollowed == Tryz.checked.prog.unfollowed 3) && (Rows.fnExactFormatWorldRow.recurses == Tryz.checked.prog.recurses 3) && (Rows.fnExactFormatWorldRow.named == Tryz.checked.prog.varsNamed 3)) = true := by kernel_rfl
theorem over : Rows.fnExactFormatWorldRow.holds Tryz.pinned (OpenSpec.ofChange Rows.fnExactFormatWorldSpec) :=
  OpenClaim.holds_of_wide 3 Tryz.f3 rfl rfl rfl rfl rfl rfl rfl ⟨rfl, rfl, rfl, rfl, rfl⟩ rfl rfl rfl rfl rfl (by kernel_rfl) Tryz.func3 (joined_of_parts (by kernel_rfl) a_laid a_maps (by kernel_rfl) (by kernel_rfl) a_reach (by kernel_rfl) (by kernel_rfl) a_enter a_lift a_make)
    (of_decide_eq_true (by kernel_rfl)) (by unfold Func.isWrapper; first | (rw [if_pos (by decide +kernel)]; kernel_rfl) | (rw [if_neg (by decide +kernel)]; exact ⟨rfl, rfl⟩))
    (fun os started H enc _ => lifted os started H enc)
theorem card : Claim7.holds Tryz.pinned (.plain (OpenSpec.ofChange Rows.fnExactFormatWorldSpec)) Rows.fnExactFormatWorldCard :=
  Claim7.holds_tied_plain_at .later [] [.data, .data, .data] true (true, "8348fdfc858e502ccdf3a128cfbc99e2aa69cfab33793aec84cfac5836e2fe1c") false
    over (fun _ h => by cases h) (by kernel_rfl) (fun _ h => by cases h) fnExactFormatWorld_row_tie rfl ⟨rfl, rfl⟩ (by kernel_rfl) rfl
    (fun f fn hf hfn => by
      obtain rfl : f = 3 := Option.some.inj ((show Tryz.prog.funcNamed "loop.example/g00588/laws.FnExactFormatWorld" = some 3 by kernel_rfl).symm.trans hf) |>.symm
      obtain rfl : fn = Tryz.f3 := (Option.some.inj (Tryz.func3.symm.trans hfn)).symm
      refine ⟨by kernel_rfl, fun j t ht => ?_⟩
      have hp : Tryz.f3.params = #[34] := by kernel_rfl
      rw [hp] at ht
      have h3 : t = 34 := by
        rcases j with _ | j
        · simpa using ht.symm
        · simp at ht
      subst h3
      exact (show Tryz.prog.wantsStandIn 34 = false by kernel_rfl))
    (by kernel_rfl)
end Go.Proofs.YtgnmkfjaimgncaaGreatDoor.fnExactFormatWorldR
namespace Go.Proofs.YtgnmkfjaimgncaaGreatDoor
theorem fnExactFormatWorld_holds : Rows.FnExactFormatWorldCardSaid := fnExactFormatWorldR.card
#print axioms fnExactFormatWorld_holds
end Go.Proofs.YtgnmkfjaimgncaaGreatDoor
