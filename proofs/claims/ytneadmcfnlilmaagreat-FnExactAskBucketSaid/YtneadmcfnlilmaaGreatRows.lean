/-
  No cell of these rows narrows 'for every input' (looked for: loops, veiled, ifaces, maps, wideKeys, modest, calm, conditions, laid).
  DERIVED. THE GIVEN ROWS OF THIS SEAT. 3 by the template 'for every input the law returns true; each argument reads behind the call as it read before'; 0 by the template 'total and deterministic' (their statements: YtneadmcfnlilmaaGreatTotals.lean).
  GIVEN WITH THE SEED: the statements are not yours to turn. If you find one false, say at which input.
  Laid BY PROGRAM, IN A SANDBOX (cutbox-rows.mjs): the forced cells as the released guide's own fill.sh prints them over the translation c1bec20f96441a75… (all of the seat's roots in one cut). By AI agents, Wed Nov 11 2026. No macro, syntax, notation, axiom, sorry.
-/
import Derived.Test.YtneadmcfnlilmaaGreatChecked
import GoSem.Claim
import GoSem.ClaimJoined
import GoSem.ClaimMapViews
import Derived.JoinedTies
import Derived.KernelRfl
namespace Go.Proofs.YtneadmcfnlilmaaGreat
/- THE CELL 'sum', in the pinned program and in every row, IS THE sha256 OF THE DUMP (.gsa) THAT YtneadmcfnlilmaaGreatProg.lean LOADS. Nothing in Lean hashes anything: it is a label: what it is worth is what the hold of that sum in a sandbox is worth. -/
noncomputable def Tryz.pinned : Pinned := { name := "ytneadmcfnlilmaagreat", sum := "c1bec20f96441a75fb0838f0525af5de92b4117a727d20b8a55b143a1eeb7cd0", checked := Tryz.checked }
namespace Rows
def none {H : Type} : Left H := { results := [], args := [] }

/-- 'laws.FnExactSpeakersOf': WHATEVER THE INPUT: true; the input reads as it did. -/
def fnExactSpeakersOfSpec : ChangeSpec := { name := "fnExactSpeakersOf", fn := fun _ => fun
  | [d1, d2] => { results := [.lit (.bool true)], args := [d1, d2] }
  | _ => none }
def fnExactSpeakersOfRow : OpenClaim := { program := "ytneadmcfnlilmaagreat", sum := "c1bec20f96441a75fb0838f0525af5de92b4117a727d20b8a55b143a1eeb7cd0", func := "loop.example/g00588/laws.FnExactSpeakersOf", spec := "fnExactSpeakersOf", apart := false }
def FnExactSpeakersOfSaid : Prop := fnExactSpeakersOfRow.holds Tryz.pinned (OpenSpec.ofChange fnExactSpeakersOfSpec)

/-- ITS FALSE NEIGHBOUR: 'it returns false'. Refute it at one input. -/
def fnExactSpeakersOfWrong : ChangeSpec := { name := "fnExactSpeakersOf", fn := fun _ => fun
  | [d1, d2] => { results := [.lit (.bool false)], args := [d1, d2] }
  | _ => none }
def FnExactSpeakersOfWrongFalsely : Prop := fnExactSpeakersOfRow.holds Tryz.pinned (OpenSpec.ofChange fnExactSpeakersOfWrong)

/-- 'laws.FnExactZoneAt': WHATEVER THE INPUT: true; the input reads as it did. -/
def fnExactZoneAtSpec : ChangeSpec := { name := "fnExactZoneAt", fn := fun _ => fun
  | [d1, d2] => { results := [.lit (.bool true)], args := [d1, d2] }
  | _ => none }
def fnExactZoneAtRow : OpenClaim := { program := "ytneadmcfnlilmaagreat", sum := "c1bec20f96441a75fb0838f0525af5de92b4117a727d20b8a55b143a1eeb7cd0", func := "loop.example/g00588/laws.FnExactZoneAt", spec := "fnExactZoneAt", apart := false }
def FnExactZoneAtSaid : Prop := fnExactZoneAtRow.holds Tryz.pinned (OpenSpec.ofChange fnExactZoneAtSpec)

/-- ITS FALSE NEIGHBOUR: 'it returns false'. Refute it at one input. -/
def fnExactZoneAtWrong : ChangeSpec := { name := "fnExactZoneAt", fn := fun _ => fun
  | [d1, d2] => { results := [.lit (.bool false)], args := [d1, d2] }
  | _ => none }
def FnExactZoneAtWrongFalsely : Prop := fnExactZoneAtRow.holds Tryz.pinned (OpenSpec.ofChange fnExactZoneAtWrong)

/-- 'laws.FnExactAskBucket': WHATEVER THE INPUT: true; the input reads as it did. -/
def fnExactAskBucketSpec : ChangeSpec := { name := "fnExactAskBucket", fn := fun _ => fun
  | [d1, d2] => { results := [.lit (.bool true)], args := [d1, d2] }
  | _ => none }
def fnExactAskBucketRow : OpenClaim := { program := "ytneadmcfnlilmaagreat", sum := "c1bec20f96441a75fb0838f0525af5de92b4117a727d20b8a55b143a1eeb7cd0", func := "loop.example/g00588/laws.FnExactAskBucket", spec := "fnExactAskBucket", inPlace := ["internal/bytealg.abigen_runtime_cmpstring"], unfollowed := true, recurses := true, apart := false }
def FnExactAskBucketSaid : Prop := fnExactAskBucketRow.holds Tryz.pinned (OpenSpec.ofChange fnExactAskBucketSpec)

/-- ITS FALSE NEIGHBOUR: 'it returns false'. Refute it at one input. -/
def fnExactAskBucketWrong : ChangeSpec := { name := "fnExactAskBucket", fn := fun _ => fun
  | [d1, d2] => { results := [.lit (.bool false)], args := [d1, d2] }
  | _ => none }
def FnExactAskBucketWrongFalsely : Prop := fnExactAskBucketRow.holds Tryz.pinned (OpenSpec.ofChange fnExactAskBucketWrong)

/- THE SECOND FORM. 'bulk': how many values and letters a reading holds, each counted each time it is reached (what is shared counts as often as it is met; a slice's spare places count too). A statement '..UptoSaid' is the law's where the arguments, and the package variables that the reading takes, are together of bulk at most 1048576: NARROWER than '..Said'. Prove '..Said' where nothing that the law and all that it calls make is longer than what came in: it says more and counts as full. Else prove '..UptoSaid'. A law counts once. -/
mutual
def uptoBulk {H : Type} : DataW H → Nat
  | .lit (.string bytes) => bytes.length + 1
  | .lit _ => 1
  | .nil => 1
  | .ptr d => uptoBulk d + 1
  | .slice elems spare => uptoBulkAll elems + uptoBulkAll spare + 1
  | .agg parts => uptoBulkAll parts + 1
  | .iface _ d => uptoBulk d + 1
  | .map entries => uptoBulkEntries entries + 1
  | .held _ => 1
def uptoBulkAll {H : Type} : List (DataW H) → Nat
  | [] => 0
  | d :: r => uptoBulk d + uptoBulkAll r
def uptoBulkEntries {H : Type} : List (Lit × DataW H) → Nat
  | [] => 0
  | x :: r => uptoBulkEntry x + uptoBulkEntries r
def uptoBulkEntry {H : Type} : Lit × DataW H → Nat
  | (.string bytes, d) => bytes.length + uptoBulk d + 1
  | (_, d) => uptoBulk d + 1
 end
def uptoSmall : (H : Type) → List (DataW H) → Bool := fun _ ds => decide (uptoBulkAll ds ≤ 1048576)
def OpenSpec.upto (s : _root_.Go.ChangeSpec) : _root_.Go.OpenSpec := { _root_.Go.OpenSpec.ofChange s with cond := some uptoSmall }

/-- 'laws.FnExactSpeakersOf', WHERE WHAT IT READS IS OF BULK AT MOST 1048576: true; the input reads as it did. -/
def fnExactSpeakersOfUptoRow : OpenClaim := { program := "ytneadmcfnlilmaagreat", sum := "c1bec20f96441a75fb0838f0525af5de92b4117a727d20b8a55b143a1eeb7cd0", func := "loop.example/g00588/laws.FnExactSpeakersOf", spec := "fnExactSpeakersOf", apart := false, narrowed := true }
def FnExactSpeakersOfUptoSaid : Prop := fnExactSpeakersOfUptoRow.holds Tryz.pinned (OpenSpec.upto fnExactSpeakersOfSpec)

/-- 'laws.FnExactZoneAt', WHERE WHAT IT READS IS OF BULK AT MOST 1048576: true; the input reads as it did. -/
def fnExactZoneAtUptoRow : OpenClaim := { program := "ytneadmcfnlilmaagreat", sum := "c1bec20f96441a75fb0838f0525af5de92b4117a727d20b8a55b143a1eeb7cd0", func := "loop.example/g00588/laws.FnExactZoneAt", spec := "fnExactZoneAt", apart := false, narrowed := true }
def FnExactZoneAtUptoSaid : Prop := fnExactZoneAtUptoRow.holds Tryz.pinned (OpenSpec.upto fnExactZoneAtSpec)

/-- 'laws.FnExactAskBucket', WHERE WHAT IT READS IS OF BULK AT MOST 1048576: true; the input reads as it did. -/
def fnExactAskBucketUptoRow : OpenClaim := { program := "ytneadmcfnlilmaagreat", sum := "c1bec20f96441a75fb0838f0525af5de92b4117a727d20b8a55b143a1eeb7cd0", func := "loop.example/g00588/laws.FnExactAskBucket", spec := "fnExactAskBucket", inPlace := ["internal/bytealg.abigen_runtime_cmpstring"], unfollowed := true, recurses := true, apart := false, narrowed := true }
def FnExactAskBucketUptoSaid : Prop := fnExactAskBucketUptoRow.holds Tryz.pinned (OpenSpec.upto fnExactAskBucketSpec)

end Rows
end Go.Proofs.YtneadmcfnlilmaaGreat
