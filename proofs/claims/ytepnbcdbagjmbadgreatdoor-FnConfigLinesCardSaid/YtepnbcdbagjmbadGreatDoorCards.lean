/-
  DERIVED. GIVEN WITH THE SEED: THE CARDS: each row of YtepnbcdbagjmbadGreatDoorRows.lean that lists a variable, with what it lists TIED to the program's text (the seventh form; the later family's looks); each row that meets fmt, with fmt's text TOLD by the authors' own Lean function (tested against real Go, not proved from fmt's source: count such statements apart). THE CARD IS WHAT COUNTS. Prove the row's statement (the work); the ties are given (YtepnbcdbagjmbadGreatDoorTie.lean); close each card by the builder's one call (the guide's Derived/Test/ToyasCard.lean, 'card_holds'). Laid BY PROGRAM, IN A SANDBOX (cutbox-door.mjs). By AI agents, Wed Nov 11 2026. No macro, syntax, notation, axiom, sorry.
-/
import Derived.Test.YtepnbcdbagjmbadGreatDoorRows
import GoSem.ClaimSeven
namespace Go.Proofs.YtepnbcdbagjmbadGreatDoor
namespace Rows

/-- THE TIED CARD OF 'laws.FnConfigLines'. -/
def fnConfigLinesCard : Claim7 := { stood := { row := fnConfigLinesRow, standIns := [], harness := (true, "af851bac9a7a07abe0f2efd4c81c00c9b919e8b4822fd08afbfa22ccb61554c4"), looks := true }, kinds := [], alts := [], laidByText := true, laidKinds := [.data, .data, .data, .data, .sentinel, .sentinel, .pinned], laidTests := true, laidLooks := .later }
def FnConfigLinesCardSaid : Prop := Claim7.holds Tryz.pinned (.plain (OpenSpec.ofChange fnConfigLinesSpec)) fnConfigLinesCard

/-- THE SECOND FORM's CARD OF 'laws.FnConfigLines'. -/
def fnConfigLinesUptoCard : Claim7 := { stood := { row := fnConfigLinesUptoRow, standIns := [], harness := (true, "af851bac9a7a07abe0f2efd4c81c00c9b919e8b4822fd08afbfa22ccb61554c4"), looks := true }, kinds := [], alts := [], laidByText := true, laidKinds := [.data, .data, .data, .data, .sentinel, .sentinel, .pinned], laidTests := true, laidLooks := .later }
def FnConfigLinesUptoCardSaid : Prop := Claim7.holds Tryz.pinned (.plain (OpenSpec.upto fnConfigLinesSpec)) fnConfigLinesUptoCard
end Rows
end Go.Proofs.YtepnbcdbagjmbadGreatDoor
