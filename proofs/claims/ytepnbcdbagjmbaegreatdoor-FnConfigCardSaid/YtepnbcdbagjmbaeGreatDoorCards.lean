/-
  DERIVED. GIVEN WITH THE SEED: THE CARDS: each row of YtepnbcdbagjmbaeGreatDoorRows.lean that lists a variable, with what it lists TIED to the program's text (the seventh form; the later family's looks); each row that meets fmt, with fmt's text TOLD by the authors' own Lean function (tested against real Go, not proved from fmt's source: count such statements apart). THE CARD IS WHAT COUNTS. Prove the row's statement (the work); the ties are given (YtepnbcdbagjmbaeGreatDoorTie.lean); close each card by the builder's one call (the guide's Derived/Test/ToyasCard.lean, 'card_holds'). Laid BY PROGRAM, IN A SANDBOX (cutbox-door.mjs). By AI agents, Wed Nov 11 2026. No macro, syntax, notation, axiom, sorry.
-/
import Derived.Test.YtepnbcdbagjmbaeGreatDoorRows
import GoSem.ClaimSeven
namespace Go.Proofs.YtepnbcdbagjmbaeGreatDoor
namespace Rows

/-- THE TIED CARD OF 'laws.FnConfig'. -/
def fnConfigCard : Claim7 := { stood := { row := fnConfigRow, standIns := [], harness := (true, "f3ba183f992a929537c8a3eba18d5707cf2377d054893c75c312f3a7d73a81fb"), looks := true }, kinds := [], alts := [], laidByText := true, laidKinds := [.data, .data, .data, .data, .sentinel, .sentinel, .pinned], laidTests := true, laidLooks := .later }
def FnConfigCardSaid : Prop := Claim7.holds Tryz.pinned (.plain (OpenSpec.ofChange fnConfigSpec)) fnConfigCard

/-- THE SECOND FORM's CARD OF 'laws.FnConfig'. -/
def fnConfigUptoCard : Claim7 := { stood := { row := fnConfigUptoRow, standIns := [], harness := (true, "f3ba183f992a929537c8a3eba18d5707cf2377d054893c75c312f3a7d73a81fb"), looks := true }, kinds := [], alts := [], laidByText := true, laidKinds := [.data, .data, .data, .data, .sentinel, .sentinel, .pinned], laidTests := true, laidLooks := .later }
def FnConfigUptoCardSaid : Prop := Claim7.holds Tryz.pinned (.plain (OpenSpec.upto fnConfigSpec)) fnConfigUptoCard
end Rows
end Go.Proofs.YtepnbcdbagjmbaeGreatDoor
