/-
  No cell of these rows narrows 'for every input' (looked for: loops, veiled, ifaces, maps, wideKeys, modest, calm, conditions, laid).
  DERIVED. THE GIVEN ROWS OF THIS SEAT. 12 by the template 'for every input the law returns true; each argument reads behind the call as it read before'; 0 by the template 'total and deterministic' (their statements: YtjoaaoaleeambaaGreatTotals.lean).
  GIVEN WITH THE SEED: the statements are not yours to turn. If you find one false, say at which input.
  Laid BY PROGRAM, IN A SANDBOX (cutbox-rows.mjs): the forced cells as the released guide's own fill.sh prints them over the translation 51785d0a98c50364… (all of the seat's roots in one cut). By AI agents, Wed Nov 11 2026. No macro, syntax, notation, axiom, sorry.
-/
import Derived.Test.YtjoaaoaleeambaaGreatChecked
import GoSem.Claim
import GoSem.ClaimJoined
import GoSem.ClaimMapViews
import Derived.JoinedTies
import Derived.KernelRfl
namespace Go.Proofs.YtjoaaoaleeambaaGreat
/- THE CELL 'sum', in the pinned program and in every row, IS THE sha256 OF THE DUMP (.gsa) THAT YtjoaaoaleeambaaGreatProg.lean LOADS. Nothing in Lean hashes anything: it is a label: what it is worth is what the hold of that sum in a sandbox is worth. -/
noncomputable def Tryz.pinned : Pinned := { name := "ytjoaaoaleeambaagreat", sum := "51785d0a98c5036405cb6ef69409f32202a6ac04323851ee6402714ee7c98f64", checked := Tryz.checked }
namespace Rows
def none {H : Type} : Left H := { results := [], args := [] }

/-- 'laws.FnExactBundleDigest': WHATEVER THE INPUT: true; the input reads as it did. -/
def fnExactBundleDigestSpec : ChangeSpec := { name := "fnExactBundleDigest", fn := fun _ => fun
  | [d] => { results := [.lit (.bool true)], args := [d] }
  | _ => none }
def fnExactBundleDigestRow : OpenClaim := { program := "ytjoaaoaleeambaagreat", sum := "51785d0a98c5036405cb6ef69409f32202a6ac04323851ee6402714ee7c98f64", func := "loop.example/g00588/laws.FnExactBundleDigest", spec := "fnExactBundleDigest", unfollowed := true, recurses := true, apart := false }
def FnExactBundleDigestSaid : Prop := fnExactBundleDigestRow.holds Tryz.pinned (OpenSpec.ofChange fnExactBundleDigestSpec)

/-- ITS FALSE NEIGHBOUR: 'it returns false'. Refute it at one input. -/
def fnExactBundleDigestWrong : ChangeSpec := { name := "fnExactBundleDigest", fn := fun _ => fun
  | [d] => { results := [.lit (.bool false)], args := [d] }
  | _ => none }
def FnExactBundleDigestWrongFalsely : Prop := fnExactBundleDigestRow.holds Tryz.pinned (OpenSpec.ofChange fnExactBundleDigestWrong)

/-- 'laws.FnExactCouldSay': WHATEVER THE INPUT: true; the input reads as it did. -/
def fnExactCouldSaySpec : ChangeSpec := { name := "fnExactCouldSay", fn := fun _ => fun
  | [d] => { results := [.lit (.bool true)], args := [d] }
  | _ => none }
def fnExactCouldSayRow : OpenClaim := { program := "ytjoaaoaleeambaagreat", sum := "51785d0a98c5036405cb6ef69409f32202a6ac04323851ee6402714ee7c98f64", func := "loop.example/g00588/laws.FnExactCouldSay", spec := "fnExactCouldSay", inPlace := ["internal/bytealg.abigen_runtime_cmpstring"], unfollowed := true, recurses := true, apart := false }
def FnExactCouldSaySaid : Prop := fnExactCouldSayRow.holds Tryz.pinned (OpenSpec.ofChange fnExactCouldSaySpec)

/-- ITS FALSE NEIGHBOUR: 'it returns false'. Refute it at one input. -/
def fnExactCouldSayWrong : ChangeSpec := { name := "fnExactCouldSay", fn := fun _ => fun
  | [d] => { results := [.lit (.bool false)], args := [d] }
  | _ => none }
def FnExactCouldSayWrongFalsely : Prop := fnExactCouldSayRow.holds Tryz.pinned (OpenSpec.ofChange fnExactCouldSayWrong)

/-- 'laws.FnExactIsGrounded': WHATEVER THE INPUT: true; the input reads as it did. -/
def fnExactIsGroundedSpec : ChangeSpec := { name := "fnExactIsGrounded", fn := fun _ => fun
  | [d1, d2] => { results := [.lit (.bool true)], args := [d1, d2] }
  | _ => none }
def fnExactIsGroundedRow : OpenClaim := { program := "ytjoaaoaleeambaagreat", sum := "51785d0a98c5036405cb6ef69409f32202a6ac04323851ee6402714ee7c98f64", func := "loop.example/g00588/laws.FnExactIsGrounded", spec := "fnExactIsGrounded", unfollowed := true, recurses := true, apart := false }
def FnExactIsGroundedSaid : Prop := fnExactIsGroundedRow.holds Tryz.pinned (OpenSpec.ofChange fnExactIsGroundedSpec)

/-- ITS FALSE NEIGHBOUR: 'it returns false'. Refute it at one input. -/
def fnExactIsGroundedWrong : ChangeSpec := { name := "fnExactIsGrounded", fn := fun _ => fun
  | [d1, d2] => { results := [.lit (.bool false)], args := [d1, d2] }
  | _ => none }
def FnExactIsGroundedWrongFalsely : Prop := fnExactIsGroundedRow.holds Tryz.pinned (OpenSpec.ofChange fnExactIsGroundedWrong)

/-- 'laws.FnExactCanTurn': WHATEVER THE INPUT: true; the input reads as it did. -/
def fnExactCanTurnSpec : ChangeSpec := { name := "fnExactCanTurn", fn := fun _ => fun
  | [d1, d2, d3] => { results := [.lit (.bool true)], args := [d1, d2, d3] }
  | _ => none }
def fnExactCanTurnRow : OpenClaim := { program := "ytjoaaoaleeambaagreat", sum := "51785d0a98c5036405cb6ef69409f32202a6ac04323851ee6402714ee7c98f64", func := "loop.example/g00588/laws.FnExactCanTurn", spec := "fnExactCanTurn", apart := false }
def FnExactCanTurnSaid : Prop := fnExactCanTurnRow.holds Tryz.pinned (OpenSpec.ofChange fnExactCanTurnSpec)

/-- ITS FALSE NEIGHBOUR: 'it returns false'. Refute it at one input. -/
def fnExactCanTurnWrong : ChangeSpec := { name := "fnExactCanTurn", fn := fun _ => fun
  | [d1, d2, d3] => { results := [.lit (.bool false)], args := [d1, d2, d3] }
  | _ => none }
def FnExactCanTurnWrongFalsely : Prop := fnExactCanTurnRow.holds Tryz.pinned (OpenSpec.ofChange fnExactCanTurnWrong)

/-- 'laws.FnExactIsSaid': WHATEVER THE INPUT: true; the input reads as it did. -/
def fnExactIsSaidSpec : ChangeSpec := { name := "fnExactIsSaid", fn := fun _ => fun
  | [d1, d2] => { results := [.lit (.bool true)], args := [d1, d2] }
  | _ => none }
def fnExactIsSaidRow : OpenClaim := { program := "ytjoaaoaleeambaagreat", sum := "51785d0a98c5036405cb6ef69409f32202a6ac04323851ee6402714ee7c98f64", func := "loop.example/g00588/laws.FnExactIsSaid", spec := "fnExactIsSaid", unfollowed := true, recurses := true, apart := false }
def FnExactIsSaidSaid : Prop := fnExactIsSaidRow.holds Tryz.pinned (OpenSpec.ofChange fnExactIsSaidSpec)

/-- ITS FALSE NEIGHBOUR: 'it returns false'. Refute it at one input. -/
def fnExactIsSaidWrong : ChangeSpec := { name := "fnExactIsSaid", fn := fun _ => fun
  | [d1, d2] => { results := [.lit (.bool false)], args := [d1, d2] }
  | _ => none }
def FnExactIsSaidWrongFalsely : Prop := fnExactIsSaidRow.holds Tryz.pinned (OpenSpec.ofChange fnExactIsSaidWrong)

/-- 'laws.FnExactServersSaid': WHATEVER THE INPUT: true; the input reads as it did. -/
def fnExactServersSaidSpec : ChangeSpec := { name := "fnExactServersSaid", fn := fun _ => fun
  | [d] => { results := [.lit (.bool true)], args := [d] }
  | _ => none }
def fnExactServersSaidRow : OpenClaim := { program := "ytjoaaoaleeambaagreat", sum := "51785d0a98c5036405cb6ef69409f32202a6ac04323851ee6402714ee7c98f64", func := "loop.example/g00588/laws.FnExactServersSaid", spec := "fnExactServersSaid", unfollowed := true, recurses := true, apart := false }
def FnExactServersSaidSaid : Prop := fnExactServersSaidRow.holds Tryz.pinned (OpenSpec.ofChange fnExactServersSaidSpec)

/-- ITS FALSE NEIGHBOUR: 'it returns false'. Refute it at one input. -/
def fnExactServersSaidWrong : ChangeSpec := { name := "fnExactServersSaid", fn := fun _ => fun
  | [d] => { results := [.lit (.bool false)], args := [d] }
  | _ => none }
def FnExactServersSaidWrongFalsely : Prop := fnExactServersSaidRow.holds Tryz.pinned (OpenSpec.ofChange fnExactServersSaidWrong)

/-- 'laws.FnExactUserSaid': WHATEVER THE INPUT: true; the input reads as it did. -/
def fnExactUserSaidSpec : ChangeSpec := { name := "fnExactUserSaid", fn := fun _ => fun
  | [d] => { results := [.lit (.bool true)], args := [d] }
  | _ => none }
def fnExactUserSaidRow : OpenClaim := { program := "ytjoaaoaleeambaagreat", sum := "51785d0a98c5036405cb6ef69409f32202a6ac04323851ee6402714ee7c98f64", func := "loop.example/g00588/laws.FnExactUserSaid", spec := "fnExactUserSaid", unfollowed := true, recurses := true, apart := false }
def FnExactUserSaidSaid : Prop := fnExactUserSaidRow.holds Tryz.pinned (OpenSpec.ofChange fnExactUserSaidSpec)

/-- ITS FALSE NEIGHBOUR: 'it returns false'. Refute it at one input. -/
def fnExactUserSaidWrong : ChangeSpec := { name := "fnExactUserSaid", fn := fun _ => fun
  | [d] => { results := [.lit (.bool false)], args := [d] }
  | _ => none }
def FnExactUserSaidWrongFalsely : Prop := fnExactUserSaidRow.holds Tryz.pinned (OpenSpec.ofChange fnExactUserSaidWrong)

/-- 'laws.FnExactEqualWorlds': WHATEVER THE INPUT: true; the input reads as it did. -/
def fnExactEqualWorldsSpec : ChangeSpec := { name := "fnExactEqualWorlds", fn := fun _ => fun
  | [d1, d2] => { results := [.lit (.bool true)], args := [d1, d2] }
  | _ => none }
def fnExactEqualWorldsRow : OpenClaim := { program := "ytjoaaoaleeambaagreat", sum := "51785d0a98c5036405cb6ef69409f32202a6ac04323851ee6402714ee7c98f64", func := "loop.example/g00588/laws.FnExactEqualWorlds", spec := "fnExactEqualWorlds", unfollowed := true, recurses := true, apart := false }
def FnExactEqualWorldsSaid : Prop := fnExactEqualWorldsRow.holds Tryz.pinned (OpenSpec.ofChange fnExactEqualWorldsSpec)

/-- ITS FALSE NEIGHBOUR: 'it returns false'. Refute it at one input. -/
def fnExactEqualWorldsWrong : ChangeSpec := { name := "fnExactEqualWorlds", fn := fun _ => fun
  | [d1, d2] => { results := [.lit (.bool false)], args := [d1, d2] }
  | _ => none }
def FnExactEqualWorldsWrongFalsely : Prop := fnExactEqualWorldsRow.holds Tryz.pinned (OpenSpec.ofChange fnExactEqualWorldsWrong)

/-- 'laws.FnExactCountForks': WHATEVER THE INPUT: true; the input reads as it did. -/
def fnExactCountForksSpec : ChangeSpec := { name := "fnExactCountForks", fn := fun _ => fun
  | [d] => { results := [.lit (.bool true)], args := [d] }
  | _ => none }
def fnExactCountForksRow : OpenClaim := { program := "ytjoaaoaleeambaagreat", sum := "51785d0a98c5036405cb6ef69409f32202a6ac04323851ee6402714ee7c98f64", func := "loop.example/g00588/laws.FnExactCountForks", spec := "fnExactCountForks", unfollowed := true, recurses := true, apart := false }
def FnExactCountForksSaid : Prop := fnExactCountForksRow.holds Tryz.pinned (OpenSpec.ofChange fnExactCountForksSpec)

/-- ITS FALSE NEIGHBOUR: 'it returns false'. Refute it at one input. -/
def fnExactCountForksWrong : ChangeSpec := { name := "fnExactCountForks", fn := fun _ => fun
  | [d] => { results := [.lit (.bool false)], args := [d] }
  | _ => none }
def FnExactCountForksWrongFalsely : Prop := fnExactCountForksRow.holds Tryz.pinned (OpenSpec.ofChange fnExactCountForksWrong)

/-- 'laws.FnExactIsDenied': WHATEVER THE INPUT: true; the input reads as it did. -/
def fnExactIsDeniedSpec : ChangeSpec := { name := "fnExactIsDenied", fn := fun _ => fun
  | [d1, d2, d3, d4] => { results := [.lit (.bool true)], args := [d1, d2, d3, d4] }
  | _ => none }
def fnExactIsDeniedRow : OpenClaim := { program := "ytjoaaoaleeambaagreat", sum := "51785d0a98c5036405cb6ef69409f32202a6ac04323851ee6402714ee7c98f64", func := "loop.example/g00588/laws.FnExactIsDenied", spec := "fnExactIsDenied", inPlace := ["internal/bytealg.abigen_runtime_cmpstring"], unfollowed := true, recurses := true, apart := false }
def FnExactIsDeniedSaid : Prop := fnExactIsDeniedRow.holds Tryz.pinned (OpenSpec.ofChange fnExactIsDeniedSpec)

/-- ITS FALSE NEIGHBOUR: 'it returns false'. Refute it at one input. -/
def fnExactIsDeniedWrong : ChangeSpec := { name := "fnExactIsDenied", fn := fun _ => fun
  | [d1, d2, d3, d4] => { results := [.lit (.bool false)], args := [d1, d2, d3, d4] }
  | _ => none }
def FnExactIsDeniedWrongFalsely : Prop := fnExactIsDeniedRow.holds Tryz.pinned (OpenSpec.ofChange fnExactIsDeniedWrong)

/-- 'laws.FnExactIsOffered': WHATEVER THE INPUT: true; the input reads as it did. -/
def fnExactIsOfferedSpec : ChangeSpec := { name := "fnExactIsOffered", fn := fun _ => fun
  | [d1, d2, d3, d4] => { results := [.lit (.bool true)], args := [d1, d2, d3, d4] }
  | _ => none }
def fnExactIsOfferedRow : OpenClaim := { program := "ytjoaaoaleeambaagreat", sum := "51785d0a98c5036405cb6ef69409f32202a6ac04323851ee6402714ee7c98f64", func := "loop.example/g00588/laws.FnExactIsOffered", spec := "fnExactIsOffered", inPlace := ["internal/bytealg.abigen_runtime_cmpstring"], unfollowed := true, recurses := true, apart := false }
def FnExactIsOfferedSaid : Prop := fnExactIsOfferedRow.holds Tryz.pinned (OpenSpec.ofChange fnExactIsOfferedSpec)

/-- ITS FALSE NEIGHBOUR: 'it returns false'. Refute it at one input. -/
def fnExactIsOfferedWrong : ChangeSpec := { name := "fnExactIsOffered", fn := fun _ => fun
  | [d1, d2, d3, d4] => { results := [.lit (.bool false)], args := [d1, d2, d3, d4] }
  | _ => none }
def FnExactIsOfferedWrongFalsely : Prop := fnExactIsOfferedRow.holds Tryz.pinned (OpenSpec.ofChange fnExactIsOfferedWrong)

/-- 'laws.FnExactIsWorld': WHATEVER THE INPUT: true; the input reads as it did. -/
def fnExactIsWorldSpec : ChangeSpec := { name := "fnExactIsWorld", fn := fun _ => fun
  | [d] => { results := [.lit (.bool true)], args := [d] }
  | _ => none }
def fnExactIsWorldRow : OpenClaim := { program := "ytjoaaoaleeambaagreat", sum := "51785d0a98c5036405cb6ef69409f32202a6ac04323851ee6402714ee7c98f64", func := "loop.example/g00588/laws.FnExactIsWorld", spec := "fnExactIsWorld", inPlace := ["internal/bytealg.abigen_runtime_cmpstring"], unfollowed := true, recurses := true, apart := false }
def FnExactIsWorldSaid : Prop := fnExactIsWorldRow.holds Tryz.pinned (OpenSpec.ofChange fnExactIsWorldSpec)

/-- ITS FALSE NEIGHBOUR: 'it returns false'. Refute it at one input. -/
def fnExactIsWorldWrong : ChangeSpec := { name := "fnExactIsWorld", fn := fun _ => fun
  | [d] => { results := [.lit (.bool false)], args := [d] }
  | _ => none }
def FnExactIsWorldWrongFalsely : Prop := fnExactIsWorldRow.holds Tryz.pinned (OpenSpec.ofChange fnExactIsWorldWrong)

/- THE SECOND FORM. 'bulk': how many values and letters a reading holds, each counted each time it is reached (what is shared counts as often as it is met; a slice's spare places count too). A statement '..UptoSaid' is the law's where the arguments, and the package variables that the reading takes, are together of bulk at most 1048576: NARROWER than '..Said'. Prove '..Said' where nothing that the law and all that it calls make is longer than what came in: it says more and counts as full. Else prove '..UptoSaid'. A law counts once. -/
mutual
def uptoBulk {H : Type} : DataW H → Nat
  | .lit (.string bytes) => bytes.length + 1
  | .lit _ => 1
  | .nil => 1
  | .ptr d => uptoBulk d + 1
  | .slice elems spare => uptoBulkAll elems + uptoBulkAll spare + 1
  | .agg parts => uptoBulkAll parts + 1
  | .iface _ d => uptoBulk d + 1
  | .map entries => uptoBulkEntries entries + 1
  | .held _ => 1
def uptoBulkAll {H : Type} : List (DataW H) → Nat
  | [] => 0
  | d :: r => uptoBulk d + uptoBulkAll r
def uptoBulkEntries {H : Type} : List (Lit × DataW H) → Nat
  | [] => 0
  | x :: r => uptoBulkEntry x + uptoBulkEntries r
def uptoBulkEntry {H : Type} : Lit × DataW H → Nat
  | (.string bytes, d) => bytes.length + uptoBulk d + 1
  | (_, d) => uptoBulk d + 1
 end
def uptoSmall : (H : Type) → List (DataW H) → Bool := fun _ ds => decide (uptoBulkAll ds ≤ 1048576)
def OpenSpec.upto (s : _root_.Go.ChangeSpec) : _root_.Go.OpenSpec := { _root_.Go.OpenSpec.ofChange s with cond := some uptoSmall }

/-- 'laws.FnExactBundleDigest', WHERE WHAT IT READS IS OF BULK AT MOST 1048576: true; the input reads as it did. -/
def fnExactBundleDigestUptoRow : OpenClaim := { program := "ytjoaaoaleeambaagreat", sum := "51785d0a98c5036405cb6ef69409f32202a6ac04323851ee6402714ee7c98f64", func := "loop.example/g00588/laws.FnExactBundleDigest", spec := "fnExactBundleDigest", unfollowed := true, recurses := true, apart := false, narrowed := true }
def FnExactBundleDigestUptoSaid : Prop := fnExactBundleDigestUptoRow.holds Tryz.pinned (OpenSpec.upto fnExactBundleDigestSpec)

/-- 'laws.FnExactCouldSay', WHERE WHAT IT READS IS OF BULK AT MOST 1048576: true; the input reads as it did. -/
def fnExactCouldSayUptoRow : OpenClaim := { program := "ytjoaaoaleeambaagreat", sum := "51785d0a98c5036405cb6ef69409f32202a6ac04323851ee6402714ee7c98f64", func := "loop.example/g00588/laws.FnExactCouldSay", spec := "fnExactCouldSay", inPlace := ["internal/bytealg.abigen_runtime_cmpstring"], unfollowed := true, recurses := true, apart := false, narrowed := true }
def FnExactCouldSayUptoSaid : Prop := fnExactCouldSayUptoRow.holds Tryz.pinned (OpenSpec.upto fnExactCouldSaySpec)

/-- 'laws.FnExactIsGrounded', WHERE WHAT IT READS IS OF BULK AT MOST 1048576: true; the input reads as it did. -/
def fnExactIsGroundedUptoRow : OpenClaim := { program := "ytjoaaoaleeambaagreat", sum := "51785d0a98c5036405cb6ef69409f32202a6ac04323851ee6402714ee7c98f64", func := "loop.example/g00588/laws.FnExactIsGrounded", spec := "fnExactIsGrounded", unfollowed := true, recurses := true, apart := false, narrowed := true }
def FnExactIsGroundedUptoSaid : Prop := fnExactIsGroundedUptoRow.holds Tryz.pinned (OpenSpec.upto fnExactIsGroundedSpec)

/-- 'laws.FnExactCanTurn', WHERE WHAT IT READS IS OF BULK AT MOST 1048576: true; the input reads as it did. -/
def fnExactCanTurnUptoRow : OpenClaim := { program := "ytjoaaoaleeambaagreat", sum := "51785d0a98c5036405cb6ef69409f32202a6ac04323851ee6402714ee7c98f64", func := "loop.example/g00588/laws.FnExactCanTurn", spec := "fnExactCanTurn", apart := false, narrowed := true }
def FnExactCanTurnUptoSaid : Prop := fnExactCanTurnUptoRow.holds Tryz.pinned (OpenSpec.upto fnExactCanTurnSpec)

/-- 'laws.FnExactIsSaid', WHERE WHAT IT READS IS OF BULK AT MOST 1048576: true; the input reads as it did. -/
def fnExactIsSaidUptoRow : OpenClaim := { program := "ytjoaaoaleeambaagreat", sum := "51785d0a98c5036405cb6ef69409f32202a6ac04323851ee6402714ee7c98f64", func := "loop.example/g00588/laws.FnExactIsSaid", spec := "fnExactIsSaid", unfollowed := true, recurses := true, apart := false, narrowed := true }
def FnExactIsSaidUptoSaid : Prop := fnExactIsSaidUptoRow.holds Tryz.pinned (OpenSpec.upto fnExactIsSaidSpec)

/-- 'laws.FnExactServersSaid', WHERE WHAT IT READS IS OF BULK AT MOST 1048576: true; the input reads as it did. -/
def fnExactServersSaidUptoRow : OpenClaim := { program := "ytjoaaoaleeambaagreat", sum := "51785d0a98c5036405cb6ef69409f32202a6ac04323851ee6402714ee7c98f64", func := "loop.example/g00588/laws.FnExactServersSaid", spec := "fnExactServersSaid", unfollowed := true, recurses := true, apart := false, narrowed := true }
def FnExactServersSaidUptoSaid : Prop := fnExactServersSaidUptoRow.holds Tryz.pinned (OpenSpec.upto fnExactServersSaidSpec)

/-- 'laws.FnExactUserSaid', WHERE WHAT IT READS IS OF BULK AT MOST 1048576: true; the input reads as it did. -/
def fnExactUserSaidUptoRow : OpenClaim := { program := "ytjoaaoaleeambaagreat", sum := "51785d0a98c5036405cb6ef69409f32202a6ac04323851ee6402714ee7c98f64", func := "loop.example/g00588/laws.FnExactUserSaid", spec := "fnExactUserSaid", unfollowed := true, recurses := true, apart := false, narrowed := true }
def FnExactUserSaidUptoSaid : Prop := fnExactUserSaidUptoRow.holds Tryz.pinned (OpenSpec.upto fnExactUserSaidSpec)

/-- 'laws.FnExactEqualWorlds', WHERE WHAT IT READS IS OF BULK AT MOST 1048576: true; the input reads as it did. -/
def fnExactEqualWorldsUptoRow : OpenClaim := { program := "ytjoaaoaleeambaagreat", sum := "51785d0a98c5036405cb6ef69409f32202a6ac04323851ee6402714ee7c98f64", func := "loop.example/g00588/laws.FnExactEqualWorlds", spec := "fnExactEqualWorlds", unfollowed := true, recurses := true, apart := false, narrowed := true }
def FnExactEqualWorldsUptoSaid : Prop := fnExactEqualWorldsUptoRow.holds Tryz.pinned (OpenSpec.upto fnExactEqualWorldsSpec)

/-- 'laws.FnExactCountForks', WHERE WHAT IT READS IS OF BULK AT MOST 1048576: true; the input reads as it did. -/
def fnExactCountForksUptoRow : OpenClaim := { program := "ytjoaaoaleeambaagreat", sum := "51785d0a98c5036405cb6ef69409f32202a6ac04323851ee6402714ee7c98f64", func := "loop.example/g00588/laws.FnExactCountForks", spec := "fnExactCountForks", unfollowed := true, recurses := true, apart := false, narrowed := true }
def FnExactCountForksUptoSaid : Prop := fnExactCountForksUptoRow.holds Tryz.pinned (OpenSpec.upto fnExactCountForksSpec)

/-- 'laws.FnExactIsDenied', WHERE WHAT IT READS IS OF BULK AT MOST 1048576: true; the input reads as it did. -/
def fnExactIsDeniedUptoRow : OpenClaim := { program := "ytjoaaoaleeambaagreat", sum := "51785d0a98c5036405cb6ef69409f32202a6ac04323851ee6402714ee7c98f64", func := "loop.example/g00588/laws.FnExactIsDenied", spec := "fnExactIsDenied", inPlace := ["internal/bytealg.abigen_runtime_cmpstring"], unfollowed := true, recurses := true, apart := false, narrowed := true }
def FnExactIsDeniedUptoSaid : Prop := fnExactIsDeniedUptoRow.holds Tryz.pinned (OpenSpec.upto fnExactIsDeniedSpec)

/-- 'laws.FnExactIsOffered', WHERE WHAT IT READS IS OF BULK AT MOST 1048576: true; the input reads as it did. -/
def fnExactIsOfferedUptoRow : OpenClaim := { program := "ytjoaaoaleeambaagreat", sum := "51785d0a98c5036405cb6ef69409f32202a6ac04323851ee6402714ee7c98f64", func := "loop.example/g00588/laws.FnExactIsOffered", spec := "fnExactIsOffered", inPlace := ["internal/bytealg.abigen_runtime_cmpstring"], unfollowed := true, recurses := true, apart := false, narrowed := true }
def FnExactIsOfferedUptoSaid : Prop := fnExactIsOfferedUptoRow.holds Tryz.pinned (OpenSpec.upto fnExactIsOfferedSpec)

/-- 'laws.FnExactIsWorld', WHERE WHAT IT READS IS OF BULK AT MOST 1048576: true; the input reads as it did. -/
def fnExactIsWorldUptoRow : OpenClaim := { program := "ytjoaaoaleeambaagreat", sum := "51785d0a98c5036405cb6ef69409f32202a6ac04323851ee6402714ee7c98f64", func := "loop.example/g00588/laws.FnExactIsWorld", spec := "fnExactIsWorld", inPlace := ["internal/bytealg.abigen_runtime_cmpstring"], unfollowed := true, recurses := true, apart := false, narrowed := true }
def FnExactIsWorldUptoSaid : Prop := fnExactIsWorldUptoRow.holds Tryz.pinned (OpenSpec.upto fnExactIsWorldSpec)

end Rows
end Go.Proofs.YtjoaaoaleeambaaGreat
