/-
  DERIVED. GIVEN WITH THE SEED: THE CARDS: each row of YtkjbbnijhpldhaaGreatDoorRows.lean that lists a variable, with what it lists TIED to the program's text (the seventh form; the later family's looks); each row that meets fmt, with fmt's text TOLD by the authors' own Lean function (tested against real Go, not proved from fmt's source: count such statements apart). THE CARD IS WHAT COUNTS. Prove the row's statement (the work); the ties are given (YtkjbbnijhpldhaaGreatDoorTie.lean); close each card by the builder's one call (the guide's Derived/Test/ToyasCard.lean, 'card_holds'). Laid BY PROGRAM, IN A SANDBOX (cutbox-door.mjs). By AI agents, Wed Nov 11 2026. No macro, syntax, notation, axiom, sorry.
-/
import Derived.Test.YtkjbbnijhpldhaaGreatDoorRows
import GoSem.ClaimSeven
namespace Go.Proofs.YtkjbbnijhpldhaaGreatDoor
namespace Rows

/-- THE TIED CARD OF 'laws.FnTable'. -/
def fnTableCard : Claim7 := { stood := { row := fnTableRow, standIns := [], harness := (true, "b02ba59a7be0b224cf571e9c7c8c0f4ae53676dba92f938d316798a173a2e8e4"), looks := false }, kinds := [], alts := [], laidByText := true, laidKinds := [.data, .data, .data, .data, .pinned], laidTests := true, laidLooks := .later }
def FnTableCardSaid : Prop := Claim7.holds Tryz.pinned (.plain (OpenSpec.ofChange fnTableSpec)) fnTableCard

/-- THE SECOND FORM's CARD OF 'laws.FnTable'. -/
def fnTableUptoCard : Claim7 := { stood := { row := fnTableUptoRow, standIns := [], harness := (true, "b02ba59a7be0b224cf571e9c7c8c0f4ae53676dba92f938d316798a173a2e8e4"), looks := false }, kinds := [], alts := [], laidByText := true, laidKinds := [.data, .data, .data, .data, .pinned], laidTests := true, laidLooks := .later }
def FnTableUptoCardSaid : Prop := Claim7.holds Tryz.pinned (.plain (OpenSpec.upto fnTableSpec)) fnTableUptoCard
end Rows
end Go.Proofs.YtkjbbnijhpldhaaGreatDoor
