/-
  DERIVED. GIVEN WITH THE SEED: THE CARDS: each row of YtgnmkfjaimgncaaGreatDoorRows.lean that lists a variable, with what it lists TIED to the program's text (the seventh form; the later family's looks); each row that meets fmt, with fmt's text TOLD by the authors' own Lean function (tested against real Go, not proved from fmt's source: count such statements apart). THE CARD IS WHAT COUNTS. Prove the row's statement (the work); the ties are given (YtgnmkfjaimgncaaGreatDoorTie.lean); close each card by the builder's one call (the guide's Derived/Test/ToyasCard.lean, 'card_holds'). Laid BY PROGRAM, IN A SANDBOX (cutbox-door.mjs). By AI agents, Wed Nov 11 2026. No macro, syntax, notation, axiom, sorry.
-/
import Derived.Test.YtgnmkfjaimgncaaGreatDoorRows
import GoSem.ClaimSeven
namespace Go.Proofs.YtgnmkfjaimgncaaGreatDoor
namespace Rows

/-- THE TIED CARD OF 'laws.FnExactFormatWorld'. -/
def fnExactFormatWorldCard : Claim7 := { stood := { row := fnExactFormatWorldRow, standIns := [], harness := (true, "8348fdfc858e502ccdf3a128cfbc99e2aa69cfab33793aec84cfac5836e2fe1c"), looks := false }, kinds := [], alts := [], laidByText := true, laidKinds := [.data, .data, .data], laidTests := true, laidLooks := .later }
def FnExactFormatWorldCardSaid : Prop := Claim7.holds Tryz.pinned (.plain (OpenSpec.ofChange fnExactFormatWorldSpec)) fnExactFormatWorldCard

/-- THE TIED CARD OF 'laws.FnExactFormatZone'. -/
def fnExactFormatZoneCard : Claim7 := { stood := { row := fnExactFormatZoneRow, standIns := [], harness := (true, "8348fdfc858e502ccdf3a128cfbc99e2aa69cfab33793aec84cfac5836e2fe1c"), looks := false }, kinds := [], alts := [], laidByText := true, laidKinds := [.data, .data, .data], laidTests := true, laidLooks := .later }
def FnExactFormatZoneCardSaid : Prop := Claim7.holds Tryz.pinned (.plain (OpenSpec.ofChange fnExactFormatZoneSpec)) fnExactFormatZoneCard

/-- THE SECOND FORM's CARD OF 'laws.FnExactFormatWorld'. -/
def fnExactFormatWorldUptoCard : Claim7 := { stood := { row := fnExactFormatWorldUptoRow, standIns := [], harness := (true, "8348fdfc858e502ccdf3a128cfbc99e2aa69cfab33793aec84cfac5836e2fe1c"), looks := false }, kinds := [], alts := [], laidByText := true, laidKinds := [.data, .data, .data], laidTests := true, laidLooks := .later }
def FnExactFormatWorldUptoCardSaid : Prop := Claim7.holds Tryz.pinned (.plain (OpenSpec.upto fnExactFormatWorldSpec)) fnExactFormatWorldUptoCard

/-- THE SECOND FORM's CARD OF 'laws.FnExactFormatZone'. -/
def fnExactFormatZoneUptoCard : Claim7 := { stood := { row := fnExactFormatZoneUptoRow, standIns := [], harness := (true, "8348fdfc858e502ccdf3a128cfbc99e2aa69cfab33793aec84cfac5836e2fe1c"), looks := false }, kinds := [], alts := [], laidByText := true, laidKinds := [.data, .data, .data], laidTests := true, laidLooks := .later }
def FnExactFormatZoneUptoCardSaid : Prop := Claim7.holds Tryz.pinned (.plain (OpenSpec.upto fnExactFormatZoneSpec)) fnExactFormatZoneUptoCard
end Rows
end Go.Proofs.YtgnmkfjaimgncaaGreatDoor
