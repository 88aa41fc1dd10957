/-
  No cell of these rows narrows 'for every input' (looked for: loops, veiled, ifaces, maps, wideKeys, modest, calm, conditions, laid).
  DERIVED. THE GIVEN ROWS OF THIS SEAT. 10 by the template 'for every input the law returns true; each argument reads behind the call as it read before'; 0 by the template 'total and deterministic' (their statements: YtmekpgjioiodjaaTotals.lean).
  GIVEN WITH THE SEED: the statements are not yours to turn. If you find one false, say at which input.
  Laid BY PROGRAM, IN A SANDBOX (cutbox-rows.mjs): the forced cells as the released guide's own fill.sh prints them over the translation f1932505d28ba366… (all of the seat's roots in one cut). By AI agents, Wed Nov 11 2026. No macro, syntax, notation, axiom, sorry.
-/
import Derived.Test.YtmekpgjioiodjaaChecked
import GoSem.Claim
import GoSem.ClaimJoined
import GoSem.ClaimMapViews
import Derived.JoinedTies
import Derived.KernelRfl
namespace Go.Proofs.Ytmekpgjioiodjaa
/- THE CELL 'sum', in the pinned program and in every row, IS THE sha256 OF THE DUMP (.gsa) THAT YtmekpgjioiodjaaProg.lean LOADS. Nothing in Lean hashes anything: it is a label: what it is worth is what the hold of that sum in a sandbox is worth. -/
noncomputable def Try.pinned : Pinned := { name := "ytmekpgjioiodjaa", sum := "f1932505d28ba366691ea1eb4aceaa497e8754bc70c1998de27d2cac5e1ae3bc", checked := Try.checked }
namespace Rows
def none {H : Type} : Left H := { results := [], args := [] }

/-- 'laws.FnExactEventName': WHATEVER THE INPUT: true; the input reads as it did. -/
def fnExactEventNameSpec : ChangeSpec := { name := "fnExactEventName", fn := fun _ => fun
  | [d] => { results := [.lit (.bool true)], args := [d] }
  | _ => none }
def fnExactEventNameRow : OpenClaim := { program := "ytmekpgjioiodjaa", sum := "f1932505d28ba366691ea1eb4aceaa497e8754bc70c1998de27d2cac5e1ae3bc", func := "loop.example/g00588/laws.FnExactEventName", spec := "fnExactEventName", apart := false }
def FnExactEventNameSaid : Prop := fnExactEventNameRow.holds Try.pinned (OpenSpec.ofChange fnExactEventNameSpec)

/-- ITS FALSE NEIGHBOUR: 'it returns false'. Refute it at one input. -/
def fnExactEventNameWrong : ChangeSpec := { name := "fnExactEventName", fn := fun _ => fun
  | [d] => { results := [.lit (.bool false)], args := [d] }
  | _ => none }
def FnExactEventNameWrongFalsely : Prop := fnExactEventNameRow.holds Try.pinned (OpenSpec.ofChange fnExactEventNameWrong)

/-- 'laws.FnExactBucketOf': WHATEVER THE INPUT: true; the input reads as it did. -/
def fnExactBucketOfSpec : ChangeSpec := { name := "fnExactBucketOf", fn := fun _ => fun
  | [d] => { results := [.lit (.bool true)], args := [d] }
  | _ => none }
def fnExactBucketOfRow : OpenClaim := { program := "ytmekpgjioiodjaa", sum := "f1932505d28ba366691ea1eb4aceaa497e8754bc70c1998de27d2cac5e1ae3bc", func := "loop.example/g00588/laws.FnExactBucketOf", spec := "fnExactBucketOf", apart := false }
def FnExactBucketOfSaid : Prop := fnExactBucketOfRow.holds Try.pinned (OpenSpec.ofChange fnExactBucketOfSpec)

/-- ITS FALSE NEIGHBOUR: 'it returns false'. Refute it at one input. -/
def fnExactBucketOfWrong : ChangeSpec := { name := "fnExactBucketOf", fn := fun _ => fun
  | [d] => { results := [.lit (.bool false)], args := [d] }
  | _ => none }
def FnExactBucketOfWrongFalsely : Prop := fnExactBucketOfRow.holds Try.pinned (OpenSpec.ofChange fnExactBucketOfWrong)

/-- 'laws.FnExactQuestionFor': WHATEVER THE INPUT: true; the input reads as it did. -/
def fnExactQuestionForSpec : ChangeSpec := { name := "fnExactQuestionFor", fn := fun _ => fun
  | [d1, d2] => { results := [.lit (.bool true)], args := [d1, d2] }
  | _ => none }
def fnExactQuestionForRow : OpenClaim := { program := "ytmekpgjioiodjaa", sum := "f1932505d28ba366691ea1eb4aceaa497e8754bc70c1998de27d2cac5e1ae3bc", func := "loop.example/g00588/laws.FnExactQuestionFor", spec := "fnExactQuestionFor", apart := false }
def FnExactQuestionForSaid : Prop := fnExactQuestionForRow.holds Try.pinned (OpenSpec.ofChange fnExactQuestionForSpec)

/-- ITS FALSE NEIGHBOUR: 'it returns false'. Refute it at one input. -/
def fnExactQuestionForWrong : ChangeSpec := { name := "fnExactQuestionFor", fn := fun _ => fun
  | [d1, d2] => { results := [.lit (.bool false)], args := [d1, d2] }
  | _ => none }
def FnExactQuestionForWrongFalsely : Prop := fnExactQuestionForRow.holds Try.pinned (OpenSpec.ofChange fnExactQuestionForWrong)

/-- 'laws.FnExactEqualViews': WHATEVER THE INPUT: true; the input reads as it did. -/
def fnExactEqualViewsSpec : ChangeSpec := { name := "fnExactEqualViews", fn := fun _ => fun
  | [d1, d2] => { results := [.lit (.bool true)], args := [d1, d2] }
  | _ => none }
def fnExactEqualViewsRow : OpenClaim := { program := "ytmekpgjioiodjaa", sum := "f1932505d28ba366691ea1eb4aceaa497e8754bc70c1998de27d2cac5e1ae3bc", func := "loop.example/g00588/laws.FnExactEqualViews", spec := "fnExactEqualViews", apart := false }
def FnExactEqualViewsSaid : Prop := fnExactEqualViewsRow.holds Try.pinned (OpenSpec.ofChange fnExactEqualViewsSpec)

/-- ITS FALSE NEIGHBOUR: 'it returns false'. Refute it at one input. -/
def fnExactEqualViewsWrong : ChangeSpec := { name := "fnExactEqualViews", fn := fun _ => fun
  | [d1, d2] => { results := [.lit (.bool false)], args := [d1, d2] }
  | _ => none }
def FnExactEqualViewsWrongFalsely : Prop := fnExactEqualViewsRow.holds Try.pinned (OpenSpec.ofChange fnExactEqualViewsWrong)

/-- 'laws.FnExactHoldsKey': WHATEVER THE INPUT: true; the input reads as it did. -/
def fnExactHoldsKeySpec : ChangeSpec := { name := "fnExactHoldsKey", fn := fun _ => fun
  | [d1, d2, d3] => { results := [.lit (.bool true)], args := [d1, d2, d3] }
  | _ => none }
def fnExactHoldsKeyRow : OpenClaim := { program := "ytmekpgjioiodjaa", sum := "f1932505d28ba366691ea1eb4aceaa497e8754bc70c1998de27d2cac5e1ae3bc", func := "loop.example/g00588/laws.FnExactHoldsKey", spec := "fnExactHoldsKey", apart := false }
def FnExactHoldsKeySaid : Prop := fnExactHoldsKeyRow.holds Try.pinned (OpenSpec.ofChange fnExactHoldsKeySpec)

/-- ITS FALSE NEIGHBOUR: 'it returns false'. Refute it at one input. -/
def fnExactHoldsKeyWrong : ChangeSpec := { name := "fnExactHoldsKey", fn := fun _ => fun
  | [d1, d2, d3] => { results := [.lit (.bool false)], args := [d1, d2, d3] }
  | _ => none }
def FnExactHoldsKeyWrongFalsely : Prop := fnExactHoldsKeyRow.holds Try.pinned (OpenSpec.ofChange fnExactHoldsKeyWrong)

/-- 'laws.FnExactAreActors': WHATEVER THE INPUT: true; the input reads as it did. -/
def fnExactAreActorsSpec : ChangeSpec := { name := "fnExactAreActors", fn := fun _ => fun
  | [d] => { results := [.lit (.bool true)], args := [d] }
  | _ => none }
def fnExactAreActorsRow : OpenClaim := { program := "ytmekpgjioiodjaa", sum := "f1932505d28ba366691ea1eb4aceaa497e8754bc70c1998de27d2cac5e1ae3bc", func := "loop.example/g00588/laws.FnExactAreActors", spec := "fnExactAreActors", unfollowed := true, recurses := true, apart := false }
def FnExactAreActorsSaid : Prop := fnExactAreActorsRow.holds Try.pinned (OpenSpec.ofChange fnExactAreActorsSpec)

/-- ITS FALSE NEIGHBOUR: 'it returns false'. Refute it at one input. -/
def fnExactAreActorsWrong : ChangeSpec := { name := "fnExactAreActors", fn := fun _ => fun
  | [d] => { results := [.lit (.bool false)], args := [d] }
  | _ => none }
def FnExactAreActorsWrongFalsely : Prop := fnExactAreActorsRow.holds Try.pinned (OpenSpec.ofChange fnExactAreActorsWrong)

/-- 'laws.FnExactEqualActors': WHATEVER THE INPUT: true; the input reads as it did. -/
def fnExactEqualActorsSpec : ChangeSpec := { name := "fnExactEqualActors", fn := fun _ => fun
  | [d1, d2] => { results := [.lit (.bool true)], args := [d1, d2] }
  | _ => none }
def fnExactEqualActorsRow : OpenClaim := { program := "ytmekpgjioiodjaa", sum := "f1932505d28ba366691ea1eb4aceaa497e8754bc70c1998de27d2cac5e1ae3bc", func := "loop.example/g00588/laws.FnExactEqualActors", spec := "fnExactEqualActors", unfollowed := true, recurses := true, apart := false }
def FnExactEqualActorsSaid : Prop := fnExactEqualActorsRow.holds Try.pinned (OpenSpec.ofChange fnExactEqualActorsSpec)

/-- ITS FALSE NEIGHBOUR: 'it returns false'. Refute it at one input. -/
def fnExactEqualActorsWrong : ChangeSpec := { name := "fnExactEqualActors", fn := fun _ => fun
  | [d1, d2] => { results := [.lit (.bool false)], args := [d1, d2] }
  | _ => none }
def FnExactEqualActorsWrongFalsely : Prop := fnExactEqualActorsRow.holds Try.pinned (OpenSpec.ofChange fnExactEqualActorsWrong)

/-- 'laws.FnExactCanSpeak': WHATEVER THE INPUT: true; the input reads as it did. -/
def fnExactCanSpeakSpec : ChangeSpec := { name := "fnExactCanSpeak", fn := fun _ => fun
  | [d1, d2, d3, d4] => { results := [.lit (.bool true)], args := [d1, d2, d3, d4] }
  | _ => none }
def fnExactCanSpeakRow : OpenClaim := { program := "ytmekpgjioiodjaa", sum := "f1932505d28ba366691ea1eb4aceaa497e8754bc70c1998de27d2cac5e1ae3bc", func := "loop.example/g00588/laws.FnExactCanSpeak", spec := "fnExactCanSpeak", apart := false }
def FnExactCanSpeakSaid : Prop := fnExactCanSpeakRow.holds Try.pinned (OpenSpec.ofChange fnExactCanSpeakSpec)

/-- ITS FALSE NEIGHBOUR: 'it returns false'. Refute it at one input. -/
def fnExactCanSpeakWrong : ChangeSpec := { name := "fnExactCanSpeak", fn := fun _ => fun
  | [d1, d2, d3, d4] => { results := [.lit (.bool false)], args := [d1, d2, d3, d4] }
  | _ => none }
def FnExactCanSpeakWrongFalsely : Prop := fnExactCanSpeakRow.holds Try.pinned (OpenSpec.ofChange fnExactCanSpeakWrong)

/-- 'laws.FnExactGiveKey': WHATEVER THE INPUT: true; the input reads as it did. -/
def fnExactGiveKeySpec : ChangeSpec := { name := "fnExactGiveKey", fn := fun _ => fun
  | [d1, d2, d3] => { results := [.lit (.bool true)], args := [d1, d2, d3] }
  | _ => none }
def fnExactGiveKeyRow : OpenClaim := { program := "ytmekpgjioiodjaa", sum := "f1932505d28ba366691ea1eb4aceaa497e8754bc70c1998de27d2cac5e1ae3bc", func := "loop.example/g00588/laws.FnExactGiveKey", spec := "fnExactGiveKey", inPlace := ["slices.overlaps[int]"], unfollowed := true, recurses := true, apart := false }
def FnExactGiveKeySaid : Prop := fnExactGiveKeyRow.holds Try.pinned (OpenSpec.ofChange fnExactGiveKeySpec)

/-- ITS FALSE NEIGHBOUR: 'it returns false'. Refute it at one input. -/
def fnExactGiveKeyWrong : ChangeSpec := { name := "fnExactGiveKey", fn := fun _ => fun
  | [d1, d2, d3] => { results := [.lit (.bool false)], args := [d1, d2, d3] }
  | _ => none }
def FnExactGiveKeyWrongFalsely : Prop := fnExactGiveKeyRow.holds Try.pinned (OpenSpec.ofChange fnExactGiveKeyWrong)

/-- 'laws.FnExactStealKey': WHATEVER THE INPUT: true; the input reads as it did. -/
def fnExactStealKeySpec : ChangeSpec := { name := "fnExactStealKey", fn := fun _ => fun
  | [d1, d2, d3, d4] => { results := [.lit (.bool true)], args := [d1, d2, d3, d4] }
  | _ => none }
def fnExactStealKeyRow : OpenClaim := { program := "ytmekpgjioiodjaa", sum := "f1932505d28ba366691ea1eb4aceaa497e8754bc70c1998de27d2cac5e1ae3bc", func := "loop.example/g00588/laws.FnExactStealKey", spec := "fnExactStealKey", inPlace := ["slices.overlaps[int]"], unfollowed := true, recurses := true, apart := false }
def FnExactStealKeySaid : Prop := fnExactStealKeyRow.holds Try.pinned (OpenSpec.ofChange fnExactStealKeySpec)

/-- ITS FALSE NEIGHBOUR: 'it returns false'. Refute it at one input. -/
def fnExactStealKeyWrong : ChangeSpec := { name := "fnExactStealKey", fn := fun _ => fun
  | [d1, d2, d3, d4] => { results := [.lit (.bool false)], args := [d1, d2, d3, d4] }
  | _ => none }
def FnExactStealKeyWrongFalsely : Prop := fnExactStealKeyRow.holds Try.pinned (OpenSpec.ofChange fnExactStealKeyWrong)

/- THE SECOND FORM. 'bulk': how many values and letters a reading holds, each counted each time it is reached (what is shared counts as often as it is met; a slice's spare places count too). A statement '..UptoSaid' is the law's where the arguments, and the package variables that the reading takes, are together of bulk at most 1048576: NARROWER than '..Said'. Prove '..Said' where nothing that the law and all that it calls make is longer than what came in: it says more and counts as full. Else prove '..UptoSaid'. A law counts once. -/
mutual
def uptoBulk {H : Type} : DataW H → Nat
  | .lit (.string bytes) => bytes.length + 1
  | .lit _ => 1
  | .nil => 1
  | .ptr d => uptoBulk d + 1
  | .slice elems spare => uptoBulkAll elems + uptoBulkAll spare + 1
  | .agg parts => uptoBulkAll parts + 1
  | .iface _ d => uptoBulk d + 1
  | .map entries => uptoBulkEntries entries + 1
  | .held _ => 1
def uptoBulkAll {H : Type} : List (DataW H) → Nat
  | [] => 0
  | d :: r => uptoBulk d + uptoBulkAll r
def uptoBulkEntries {H : Type} : List (Lit × DataW H) → Nat
  | [] => 0
  | x :: r => uptoBulkEntry x + uptoBulkEntries r
def uptoBulkEntry {H : Type} : Lit × DataW H → Nat
  | (.string bytes, d) => bytes.length + uptoBulk d + 1
  | (_, d) => uptoBulk d + 1
 end
def uptoSmall : (H : Type) → List (DataW H) → Bool := fun _ ds => decide (uptoBulkAll ds ≤ 1048576)
def OpenSpec.upto (s : _root_.Go.ChangeSpec) : _root_.Go.OpenSpec := { _root_.Go.OpenSpec.ofChange s with cond := some uptoSmall }

/-- 'laws.FnExactEventName', WHERE WHAT IT READS IS OF BULK AT MOST 1048576: true; the input reads as it did. -/
def fnExactEventNameUptoRow : OpenClaim := { program := "ytmekpgjioiodjaa", sum := "f1932505d28ba366691ea1eb4aceaa497e8754bc70c1998de27d2cac5e1ae3bc", func := "loop.example/g00588/laws.FnExactEventName", spec := "fnExactEventName", apart := false, narrowed := true }
def FnExactEventNameUptoSaid : Prop := fnExactEventNameUptoRow.holds Try.pinned (OpenSpec.upto fnExactEventNameSpec)

/-- 'laws.FnExactBucketOf', WHERE WHAT IT READS IS OF BULK AT MOST 1048576: true; the input reads as it did. -/
def fnExactBucketOfUptoRow : OpenClaim := { program := "ytmekpgjioiodjaa", sum := "f1932505d28ba366691ea1eb4aceaa497e8754bc70c1998de27d2cac5e1ae3bc", func := "loop.example/g00588/laws.FnExactBucketOf", spec := "fnExactBucketOf", apart := false, narrowed := true }
def FnExactBucketOfUptoSaid : Prop := fnExactBucketOfUptoRow.holds Try.pinned (OpenSpec.upto fnExactBucketOfSpec)

/-- 'laws.FnExactQuestionFor', WHERE WHAT IT READS IS OF BULK AT MOST 1048576: true; the input reads as it did. -/
def fnExactQuestionForUptoRow : OpenClaim := { program := "ytmekpgjioiodjaa", sum := "f1932505d28ba366691ea1eb4aceaa497e8754bc70c1998de27d2cac5e1ae3bc", func := "loop.example/g00588/laws.FnExactQuestionFor", spec := "fnExactQuestionFor", apart := false, narrowed := true }
def FnExactQuestionForUptoSaid : Prop := fnExactQuestionForUptoRow.holds Try.pinned (OpenSpec.upto fnExactQuestionForSpec)

/-- 'laws.FnExactEqualViews', WHERE WHAT IT READS IS OF BULK AT MOST 1048576: true; the input reads as it did. -/
def fnExactEqualViewsUptoRow : OpenClaim := { program := "ytmekpgjioiodjaa", sum := "f1932505d28ba366691ea1eb4aceaa497e8754bc70c1998de27d2cac5e1ae3bc", func := "loop.example/g00588/laws.FnExactEqualViews", spec := "fnExactEqualViews", apart := false, narrowed := true }
def FnExactEqualViewsUptoSaid : Prop := fnExactEqualViewsUptoRow.holds Try.pinned (OpenSpec.upto fnExactEqualViewsSpec)

/-- 'laws.FnExactHoldsKey', WHERE WHAT IT READS IS OF BULK AT MOST 1048576: true; the input reads as it did. -/
def fnExactHoldsKeyUptoRow : OpenClaim := { program := "ytmekpgjioiodjaa", sum := "f1932505d28ba366691ea1eb4aceaa497e8754bc70c1998de27d2cac5e1ae3bc", func := "loop.example/g00588/laws.FnExactHoldsKey", spec := "fnExactHoldsKey", apart := false, narrowed := true }
def FnExactHoldsKeyUptoSaid : Prop := fnExactHoldsKeyUptoRow.holds Try.pinned (OpenSpec.upto fnExactHoldsKeySpec)

/-- 'laws.FnExactAreActors', WHERE WHAT IT READS IS OF BULK AT MOST 1048576: true; the input reads as it did. -/
def fnExactAreActorsUptoRow : OpenClaim := { program := "ytmekpgjioiodjaa", sum := "f1932505d28ba366691ea1eb4aceaa497e8754bc70c1998de27d2cac5e1ae3bc", func := "loop.example/g00588/laws.FnExactAreActors", spec := "fnExactAreActors", unfollowed := true, recurses := true, apart := false, narrowed := true }
def FnExactAreActorsUptoSaid : Prop := fnExactAreActorsUptoRow.holds Try.pinned (OpenSpec.upto fnExactAreActorsSpec)

/-- 'laws.FnExactEqualActors', WHERE WHAT IT READS IS OF BULK AT MOST 1048576: true; the input reads as it did. -/
def fnExactEqualActorsUptoRow : OpenClaim := { program := "ytmekpgjioiodjaa", sum := "f1932505d28ba366691ea1eb4aceaa497e8754bc70c1998de27d2cac5e1ae3bc", func := "loop.example/g00588/laws.FnExactEqualActors", spec := "fnExactEqualActors", unfollowed := true, recurses := true, apart := false, narrowed := true }
def FnExactEqualActorsUptoSaid : Prop := fnExactEqualActorsUptoRow.holds Try.pinned (OpenSpec.upto fnExactEqualActorsSpec)

/-- 'laws.FnExactCanSpeak', WHERE WHAT IT READS IS OF BULK AT MOST 1048576: true; the input reads as it did. -/
def fnExactCanSpeakUptoRow : OpenClaim := { program := "ytmekpgjioiodjaa", sum := "f1932505d28ba366691ea1eb4aceaa497e8754bc70c1998de27d2cac5e1ae3bc", func := "loop.example/g00588/laws.FnExactCanSpeak", spec := "fnExactCanSpeak", apart := false, narrowed := true }
def FnExactCanSpeakUptoSaid : Prop := fnExactCanSpeakUptoRow.holds Try.pinned (OpenSpec.upto fnExactCanSpeakSpec)

/-- 'laws.FnExactGiveKey', WHERE WHAT IT READS IS OF BULK AT MOST 1048576: true; the input reads as it did. -/
def fnExactGiveKeyUptoRow : OpenClaim := { program := "ytmekpgjioiodjaa", sum := "f1932505d28ba366691ea1eb4aceaa497e8754bc70c1998de27d2cac5e1ae3bc", func := "loop.example/g00588/laws.FnExactGiveKey", spec := "fnExactGiveKey", inPlace := ["slices.overlaps[int]"], unfollowed := true, recurses := true, apart := false, narrowed := true }
def FnExactGiveKeyUptoSaid : Prop := fnExactGiveKeyUptoRow.holds Try.pinned (OpenSpec.upto fnExactGiveKeySpec)

/-- 'laws.FnExactStealKey', WHERE WHAT IT READS IS OF BULK AT MOST 1048576: true; the input reads as it did. -/
def fnExactStealKeyUptoRow : OpenClaim := { program := "ytmekpgjioiodjaa", sum := "f1932505d28ba366691ea1eb4aceaa497e8754bc70c1998de27d2cac5e1ae3bc", func := "loop.example/g00588/laws.FnExactStealKey", spec := "fnExactStealKey", inPlace := ["slices.overlaps[int]"], unfollowed := true, recurses := true, apart := false, narrowed := true }
def FnExactStealKeyUptoSaid : Prop := fnExactStealKeyUptoRow.holds Try.pinned (OpenSpec.upto fnExactStealKeySpec)

end Rows
end Go.Proofs.Ytmekpgjioiodjaa
