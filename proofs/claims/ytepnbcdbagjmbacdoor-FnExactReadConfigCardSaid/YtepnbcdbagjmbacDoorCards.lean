/-
  DERIVED. GIVEN WITH THE SEED: THE CARDS: each row of YtepnbcdbagjmbacDoorRows.lean that lists a variable, with what it lists TIED to the program's text (the seventh form; the later family's looks); each row that meets fmt, with fmt's text TOLD by the authors' own Lean function (tested against real Go, not proved from fmt's source: count such statements apart). THE CARD IS WHAT COUNTS. Prove the row's statement (the work); the ties are given (YtepnbcdbagjmbacDoorTie.lean); close each card by the builder's one call (the guide's Derived/Test/ToyasCard.lean, 'card_holds'). Laid BY PROGRAM, IN A SANDBOX (cutbox-door.mjs). By AI agents, Wed Nov 11 2026. No macro, syntax, notation, axiom, sorry.
-/
import Derived.Test.YtepnbcdbagjmbacDoorRows
import GoSem.ClaimSeven
namespace Go.Proofs.YtepnbcdbagjmbacDoor
namespace Rows

/-- THE TIED CARD OF 'laws.FnExactReadConfig'. -/
def fnExactReadConfigCard : Claim7 := { stood := { row := fnExactReadConfigRow, standIns := [], harness := (true, "5d2aecec75b9747ba775612bf78b3a69e27849010d1be0307f9c64013b898977"), looks := true }, kinds := [], alts := [], laidByText := true, laidKinds := [.data, .data, .data, .data, .sentinel, .sentinel, .pinned], laidTests := true, laidLooks := .later }
def FnExactReadConfigCardSaid : Prop := Claim7.holds Tryd.pinned (.plain (OpenSpec.ofChange fnExactReadConfigSpec)) fnExactReadConfigCard

/-- THE SECOND FORM's CARD OF 'laws.FnExactReadConfig'. -/
def fnExactReadConfigUptoCard : Claim7 := { stood := { row := fnExactReadConfigUptoRow, standIns := [], harness := (true, "5d2aecec75b9747ba775612bf78b3a69e27849010d1be0307f9c64013b898977"), looks := true }, kinds := [], alts := [], laidByText := true, laidKinds := [.data, .data, .data, .data, .sentinel, .sentinel, .pinned], laidTests := true, laidLooks := .later }
def FnExactReadConfigUptoCardSaid : Prop := Claim7.holds Tryd.pinned (.plain (OpenSpec.upto fnExactReadConfigSpec)) fnExactReadConfigUptoCard
end Rows
end Go.Proofs.YtepnbcdbagjmbacDoor
