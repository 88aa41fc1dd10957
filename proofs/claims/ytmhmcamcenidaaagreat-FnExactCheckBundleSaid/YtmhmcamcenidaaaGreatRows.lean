/-
  No cell of these rows narrows 'for every input' (looked for: loops, veiled, ifaces, maps, wideKeys, modest, calm, conditions, laid).
  DERIVED. THE GIVEN ROWS OF THIS SEAT. 7 by the template 'for every input the law returns true; each argument reads behind the call as it read before'; 0 by the template 'total and deterministic' (their statements: YtmhmcamcenidaaaGreatTotals.lean).
  GIVEN WITH THE SEED: the statements are not yours to turn. If you find one false, say at which input.
  Laid BY PROGRAM, IN A SANDBOX (cutbox-rows.mjs): the forced cells as the released guide's own fill.sh prints them over the translation eb43faa83804eaae… (all of the seat's roots in one cut). By AI agents, Wed Nov 11 2026. No macro, syntax, notation, axiom, sorry.
-/
import Derived.Test.YtmhmcamcenidaaaGreatChecked
import GoSem.Claim
import GoSem.ClaimJoined
import GoSem.ClaimMapViews
import Derived.JoinedTies
import Derived.KernelRfl
namespace Go.Proofs.YtmhmcamcenidaaaGreat
/- THE CELL 'sum', in the pinned program and in every row, IS THE sha256 OF THE DUMP (.gsa) THAT YtmhmcamcenidaaaGreatProg.lean LOADS. Nothing in Lean hashes anything: it is a label: what it is worth is what the hold of that sum in a sandbox is worth. -/
noncomputable def Tryz.pinned : Pinned := { name := "ytmhmcamcenidaaagreat", sum := "eb43faa83804eaae7fd4529b6459011b6b30da598cde69534d96f3c571365973", checked := Tryz.checked }
namespace Rows
def none {H : Type} : Left H := { results := [], args := [] }

/-- 'laws.FnExactIsBundle': WHATEVER THE INPUT: true; the input reads as it did. -/
def fnExactIsBundleSpec : ChangeSpec := { name := "fnExactIsBundle", fn := fun _ => fun
  | [d1, d2] => { results := [.lit (.bool true)], args := [d1, d2] }
  | _ => none }
def fnExactIsBundleRow : OpenClaim := { program := "ytmhmcamcenidaaagreat", sum := "eb43faa83804eaae7fd4529b6459011b6b30da598cde69534d96f3c571365973", func := "loop.example/g00588/laws.FnExactIsBundle", spec := "fnExactIsBundle", inPlace := ["internal/bytealg.abigen_runtime_cmpstring"], unfollowed := true, recurses := true, apart := false }
def FnExactIsBundleSaid : Prop := fnExactIsBundleRow.holds Tryz.pinned (OpenSpec.ofChange fnExactIsBundleSpec)

/-- ITS FALSE NEIGHBOUR: 'it returns false'. Refute it at one input. -/
def fnExactIsBundleWrong : ChangeSpec := { name := "fnExactIsBundle", fn := fun _ => fun
  | [d1, d2] => { results := [.lit (.bool false)], args := [d1, d2] }
  | _ => none }
def FnExactIsBundleWrongFalsely : Prop := fnExactIsBundleRow.holds Tryz.pinned (OpenSpec.ofChange fnExactIsBundleWrong)

/-- 'laws.FnExactBundleOf': WHATEVER THE INPUT: true; the input reads as it did. -/
def fnExactBundleOfSpec : ChangeSpec := { name := "fnExactBundleOf", fn := fun _ => fun
  | [d1, d2, d3, d4] => { results := [.lit (.bool true)], args := [d1, d2, d3, d4] }
  | _ => none }
def fnExactBundleOfRow : OpenClaim := { program := "ytmhmcamcenidaaagreat", sum := "eb43faa83804eaae7fd4529b6459011b6b30da598cde69534d96f3c571365973", func := "loop.example/g00588/laws.FnExactBundleOf", spec := "fnExactBundleOf", inPlace := ["internal/bytealg.abigen_runtime_cmpstring"], unfollowed := true, recurses := true, apart := false }
def FnExactBundleOfSaid : Prop := fnExactBundleOfRow.holds Tryz.pinned (OpenSpec.ofChange fnExactBundleOfSpec)

/-- ITS FALSE NEIGHBOUR: 'it returns false'. Refute it at one input. -/
def fnExactBundleOfWrong : ChangeSpec := { name := "fnExactBundleOf", fn := fun _ => fun
  | [d1, d2, d3, d4] => { results := [.lit (.bool false)], args := [d1, d2, d3, d4] }
  | _ => none }
def FnExactBundleOfWrongFalsely : Prop := fnExactBundleOfRow.holds Tryz.pinned (OpenSpec.ofChange fnExactBundleOfWrong)

/-- 'laws.FnExactPrivateLookUp': WHATEVER THE INPUT: true; the input reads as it did. -/
def fnExactPrivateLookUpSpec : ChangeSpec := { name := "fnExactPrivateLookUp", fn := fun _ => fun
  | [d1, d2, d3, d4, d5] => { results := [.lit (.bool true)], args := [d1, d2, d3, d4, d5] }
  | _ => none }
def fnExactPrivateLookUpRow : OpenClaim := { program := "ytmhmcamcenidaaagreat", sum := "eb43faa83804eaae7fd4529b6459011b6b30da598cde69534d96f3c571365973", func := "loop.example/g00588/laws.FnExactPrivateLookUp", spec := "fnExactPrivateLookUp", inPlace := ["internal/bytealg.abigen_runtime_cmpstring"], unfollowed := true, recurses := true, apart := false }
def FnExactPrivateLookUpSaid : Prop := fnExactPrivateLookUpRow.holds Tryz.pinned (OpenSpec.ofChange fnExactPrivateLookUpSpec)

/-- ITS FALSE NEIGHBOUR: 'it returns false'. Refute it at one input. -/
def fnExactPrivateLookUpWrong : ChangeSpec := { name := "fnExactPrivateLookUp", fn := fun _ => fun
  | [d1, d2, d3, d4, d5] => { results := [.lit (.bool false)], args := [d1, d2, d3, d4, d5] }
  | _ => none }
def FnExactPrivateLookUpWrongFalsely : Prop := fnExactPrivateLookUpRow.holds Tryz.pinned (OpenSpec.ofChange fnExactPrivateLookUpWrong)

/-- 'laws.FnExactPutZone': WHATEVER THE INPUT: true; the input reads as it did. -/
def fnExactPutZoneSpec : ChangeSpec := { name := "fnExactPutZone", fn := fun _ => fun
  | [d1, d2] => { results := [.lit (.bool true)], args := [d1, d2] }
  | _ => none }
def fnExactPutZoneRow : OpenClaim := { program := "ytmhmcamcenidaaagreat", sum := "eb43faa83804eaae7fd4529b6459011b6b30da598cde69534d96f3c571365973", func := "loop.example/g00588/laws.FnExactPutZone", spec := "fnExactPutZone", inPlace := ["internal/bytealg.abigen_runtime_cmpstring"], unfollowed := true, recurses := true, apart := false }
def FnExactPutZoneSaid : Prop := fnExactPutZoneRow.holds Tryz.pinned (OpenSpec.ofChange fnExactPutZoneSpec)

/-- ITS FALSE NEIGHBOUR: 'it returns false'. Refute it at one input. -/
def fnExactPutZoneWrong : ChangeSpec := { name := "fnExactPutZone", fn := fun _ => fun
  | [d1, d2] => { results := [.lit (.bool false)], args := [d1, d2] }
  | _ => none }
def FnExactPutZoneWrongFalsely : Prop := fnExactPutZoneRow.holds Tryz.pinned (OpenSpec.ofChange fnExactPutZoneWrong)

/-- 'laws.FnExactSpeak': WHATEVER THE INPUT: true; the input reads as it did. -/
def fnExactSpeakSpec : ChangeSpec := { name := "fnExactSpeak", fn := fun _ => fun
  | [d1, d2, d3] => { results := [.lit (.bool true)], args := [d1, d2, d3] }
  | _ => none }
def fnExactSpeakRow : OpenClaim := { program := "ytmhmcamcenidaaagreat", sum := "eb43faa83804eaae7fd4529b6459011b6b30da598cde69534d96f3c571365973", func := "loop.example/g00588/laws.FnExactSpeak", spec := "fnExactSpeak", inPlace := ["internal/bytealg.abigen_runtime_cmpstring"], unfollowed := true, recurses := true, apart := false }
def FnExactSpeakSaid : Prop := fnExactSpeakRow.holds Tryz.pinned (OpenSpec.ofChange fnExactSpeakSpec)

/-- ITS FALSE NEIGHBOUR: 'it returns false'. Refute it at one input. -/
def fnExactSpeakWrong : ChangeSpec := { name := "fnExactSpeak", fn := fun _ => fun
  | [d1, d2, d3] => { results := [.lit (.bool false)], args := [d1, d2, d3] }
  | _ => none }
def FnExactSpeakWrongFalsely : Prop := fnExactSpeakRow.holds Tryz.pinned (OpenSpec.ofChange fnExactSpeakWrong)

/-- 'laws.FnExactCheckBundle': WHATEVER THE INPUT: true; the input reads as it did. -/
def fnExactCheckBundleSpec : ChangeSpec := { name := "fnExactCheckBundle", fn := fun _ => fun
  | [d1, d2] => { results := [.lit (.bool true)], args := [d1, d2] }
  | _ => none }
def fnExactCheckBundleRow : OpenClaim := { program := "ytmhmcamcenidaaagreat", sum := "eb43faa83804eaae7fd4529b6459011b6b30da598cde69534d96f3c571365973", func := "loop.example/g00588/laws.FnExactCheckBundle", spec := "fnExactCheckBundle", inPlace := ["internal/bytealg.abigen_runtime_cmpstring"], unfollowed := true, recurses := true, apart := false }
def FnExactCheckBundleSaid : Prop := fnExactCheckBundleRow.holds Tryz.pinned (OpenSpec.ofChange fnExactCheckBundleSpec)

/-- ITS FALSE NEIGHBOUR: 'it returns false'. Refute it at one input. -/
def fnExactCheckBundleWrong : ChangeSpec := { name := "fnExactCheckBundle", fn := fun _ => fun
  | [d1, d2] => { results := [.lit (.bool false)], args := [d1, d2] }
  | _ => none }
def FnExactCheckBundleWrongFalsely : Prop := fnExactCheckBundleRow.holds Tryz.pinned (OpenSpec.ofChange fnExactCheckBundleWrong)

/-- 'laws.FnExactPublishAs': WHATEVER THE INPUT: true; the input reads as it did. -/
def fnExactPublishAsSpec : ChangeSpec := { name := "fnExactPublishAs", fn := fun _ => fun
  | [d1, d2, d3, d4, d5] => { results := [.lit (.bool true)], args := [d1, d2, d3, d4, d5] }
  | _ => none }
def fnExactPublishAsRow : OpenClaim := { program := "ytmhmcamcenidaaagreat", sum := "eb43faa83804eaae7fd4529b6459011b6b30da598cde69534d96f3c571365973", func := "loop.example/g00588/laws.FnExactPublishAs", spec := "fnExactPublishAs", inPlace := ["internal/bytealg.abigen_runtime_cmpstring"], unfollowed := true, recurses := true, apart := false }
def FnExactPublishAsSaid : Prop := fnExactPublishAsRow.holds Tryz.pinned (OpenSpec.ofChange fnExactPublishAsSpec)

/-- ITS FALSE NEIGHBOUR: 'it returns false'. Refute it at one input. -/
def fnExactPublishAsWrong : ChangeSpec := { name := "fnExactPublishAs", fn := fun _ => fun
  | [d1, d2, d3, d4, d5] => { results := [.lit (.bool false)], args := [d1, d2, d3, d4, d5] }
  | _ => none }
def FnExactPublishAsWrongFalsely : Prop := fnExactPublishAsRow.holds Tryz.pinned (OpenSpec.ofChange fnExactPublishAsWrong)

/- THE SECOND FORM. 'bulk': how many values and letters a reading holds, each counted each time it is reached (what is shared counts as often as it is met; a slice's spare places count too). A statement '..UptoSaid' is the law's where the arguments, and the package variables that the reading takes, are together of bulk at most 1048576: NARROWER than '..Said'. Prove '..Said' where nothing that the law and all that it calls make is longer than what came in: it says more and counts as full. Else prove '..UptoSaid'. A law counts once. -/
mutual
def uptoBulk {H : Type} : DataW H → Nat
  | .lit (.string bytes) => bytes.length + 1
  | .lit _ => 1
  | .nil => 1
  | .ptr d => uptoBulk d + 1
  | .slice elems spare => uptoBulkAll elems + uptoBulkAll spare + 1
  | .agg parts => uptoBulkAll parts + 1
  | .iface _ d => uptoBulk d + 1
  | .map entries => uptoBulkEntries entries + 1
  | .held _ => 1
def uptoBulkAll {H : Type} : List (DataW H) → Nat
  | [] => 0
  | d :: r => uptoBulk d + uptoBulkAll r
def uptoBulkEntries {H : Type} : List (Lit × DataW H) → Nat
  | [] => 0
  | x :: r => uptoBulkEntry x + uptoBulkEntries r
def uptoBulkEntry {H : Type} : Lit × DataW H → Nat
  | (.string bytes, d) => bytes.length + uptoBulk d + 1
  | (_, d) => uptoBulk d + 1
 end
def uptoSmall : (H : Type) → List (DataW H) → Bool := fun _ ds => decide (uptoBulkAll ds ≤ 1048576)
def OpenSpec.upto (s : _root_.Go.ChangeSpec) : _root_.Go.OpenSpec := { _root_.Go.OpenSpec.ofChange s with cond := some uptoSmall }

/-- 'laws.FnExactIsBundle', WHERE WHAT IT READS IS OF BULK AT MOST 1048576: true; the input reads as it did. -/
def fnExactIsBundleUptoRow : OpenClaim := { program := "ytmhmcamcenidaaagreat", sum := "eb43faa83804eaae7fd4529b6459011b6b30da598cde69534d96f3c571365973", func := "loop.example/g00588/laws.FnExactIsBundle", spec := "fnExactIsBundle", inPlace := ["internal/bytealg.abigen_runtime_cmpstring"], unfollowed := true, recurses := true, apart := false, narrowed := true }
def FnExactIsBundleUptoSaid : Prop := fnExactIsBundleUptoRow.holds Tryz.pinned (OpenSpec.upto fnExactIsBundleSpec)

/-- 'laws.FnExactBundleOf', WHERE WHAT IT READS IS OF BULK AT MOST 1048576: true; the input reads as it did. -/
def fnExactBundleOfUptoRow : OpenClaim := { program := "ytmhmcamcenidaaagreat", sum := "eb43faa83804eaae7fd4529b6459011b6b30da598cde69534d96f3c571365973", func := "loop.example/g00588/laws.FnExactBundleOf", spec := "fnExactBundleOf", inPlace := ["internal/bytealg.abigen_runtime_cmpstring"], unfollowed := true, recurses := true, apart := false, narrowed := true }
def FnExactBundleOfUptoSaid : Prop := fnExactBundleOfUptoRow.holds Tryz.pinned (OpenSpec.upto fnExactBundleOfSpec)

/-- 'laws.FnExactPrivateLookUp', WHERE WHAT IT READS IS OF BULK AT MOST 1048576: true; the input reads as it did. -/
def fnExactPrivateLookUpUptoRow : OpenClaim := { program := "ytmhmcamcenidaaagreat", sum := "eb43faa83804eaae7fd4529b6459011b6b30da598cde69534d96f3c571365973", func := "loop.example/g00588/laws.FnExactPrivateLookUp", spec := "fnExactPrivateLookUp", inPlace := ["internal/bytealg.abigen_runtime_cmpstring"], unfollowed := true, recurses := true, apart := false, narrowed := true }
def FnExactPrivateLookUpUptoSaid : Prop := fnExactPrivateLookUpUptoRow.holds Tryz.pinned (OpenSpec.upto fnExactPrivateLookUpSpec)

/-- 'laws.FnExactPutZone', WHERE WHAT IT READS IS OF BULK AT MOST 1048576: true; the input reads as it did. -/
def fnExactPutZoneUptoRow : OpenClaim := { program := "ytmhmcamcenidaaagreat", sum := "eb43faa83804eaae7fd4529b6459011b6b30da598cde69534d96f3c571365973", func := "loop.example/g00588/laws.FnExactPutZone", spec := "fnExactPutZone", inPlace := ["internal/bytealg.abigen_runtime_cmpstring"], unfollowed := true, recurses := true, apart := false, narrowed := true }
def FnExactPutZoneUptoSaid : Prop := fnExactPutZoneUptoRow.holds Tryz.pinned (OpenSpec.upto fnExactPutZoneSpec)

/-- 'laws.FnExactSpeak', WHERE WHAT IT READS IS OF BULK AT MOST 1048576: true; the input reads as it did. -/
def fnExactSpeakUptoRow : OpenClaim := { program := "ytmhmcamcenidaaagreat", sum := "eb43faa83804eaae7fd4529b6459011b6b30da598cde69534d96f3c571365973", func := "loop.example/g00588/laws.FnExactSpeak", spec := "fnExactSpeak", inPlace := ["internal/bytealg.abigen_runtime_cmpstring"], unfollowed := true, recurses := true, apart := false, narrowed := true }
def FnExactSpeakUptoSaid : Prop := fnExactSpeakUptoRow.holds Tryz.pinned (OpenSpec.upto fnExactSpeakSpec)

/-- 'laws.FnExactCheckBundle', WHERE WHAT IT READS IS OF BULK AT MOST 1048576: true; the input reads as it did. -/
def fnExactCheckBundleUptoRow : OpenClaim := { program := "ytmhmcamcenidaaagreat", sum := "eb43faa83804eaae7fd4529b6459011b6b30da598cde69534d96f3c571365973", func := "loop.example/g00588/laws.FnExactCheckBundle", spec := "fnExactCheckBundle", inPlace := ["internal/bytealg.abigen_runtime_cmpstring"], unfollowed := true, recurses := true, apart := false, narrowed := true }
def FnExactCheckBundleUptoSaid : Prop := fnExactCheckBundleUptoRow.holds Tryz.pinned (OpenSpec.upto fnExactCheckBundleSpec)

/-- 'laws.FnExactPublishAs', WHERE WHAT IT READS IS OF BULK AT MOST 1048576: true; the input reads as it did. -/
def fnExactPublishAsUptoRow : OpenClaim := { program := "ytmhmcamcenidaaagreat", sum := "eb43faa83804eaae7fd4529b6459011b6b30da598cde69534d96f3c571365973", func := "loop.example/g00588/laws.FnExactPublishAs", spec := "fnExactPublishAs", inPlace := ["internal/bytealg.abigen_runtime_cmpstring"], unfollowed := true, recurses := true, apart := false, narrowed := true }
def FnExactPublishAsUptoSaid : Prop := fnExactPublishAsUptoRow.holds Tryz.pinned (OpenSpec.upto fnExactPublishAsSpec)

end Rows
end Go.Proofs.YtmhmcamcenidaaaGreat
