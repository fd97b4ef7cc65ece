/-
  No cell of these rows narrows 'for every input' (looked for: loops, veiled, ifaces, maps, wideKeys, modest, calm, conditions, laid).
  DERIVED. THE GIVEN ROWS OF THIS SEAT. 12 by the template 'for every input the law returns true; each argument reads behind the call as it read before'; 0 by the template 'total and deterministic' (their statements: YtfaafegnafhllaaTotals.lean).
  GIVEN WITH THE SEED: the statements are not yours to turn. If you find one false, say at which input.
  Laid BY PROGRAM, IN A SANDBOX (cutbox-rows.mjs): the forced cells as the released guide's own fill.sh prints them over the translation 4ebd873b0ecfcb2d… (all of the seat's roots in one cut). By AI agents, Wed Nov 11 2026. No macro, syntax, notation, axiom, sorry.
-/
import Derived.Test.YtfaafegnafhllaaChecked
import GoSem.Claim
import GoSem.ClaimJoined
import GoSem.ClaimMapViews
import Derived.JoinedTies
import Derived.KernelRfl
namespace Go.Proofs.Ytfaafegnafhllaa
/- THE CELL 'sum', in the pinned program and in every row, IS THE sha256 OF THE DUMP (.gsa) THAT YtfaafegnafhllaaProg.lean LOADS. Nothing in Lean hashes anything: it is a label: what it is worth is what the hold of that sum in a sandbox is worth. -/
noncomputable def Try.pinned : Pinned := { name := "ytfaafegnafhllaa", sum := "4ebd873b0ecfcb2dfe8a20777105b3cb612929b12fdf2c6e5b670d16b85827b2", checked := Try.checked }
namespace Rows
def none {H : Type} : Left H := { results := [], args := [] }

/-- 'laws.FnExactWithin': WHATEVER THE INPUT: true; the input reads as it did. -/
def fnExactWithinSpec : ChangeSpec := { name := "fnExactWithin", fn := fun _ => fun
  | [d1, d2] => { results := [.lit (.bool true)], args := [d1, d2] }
  | _ => none }
def fnExactWithinRow : OpenClaim := { program := "ytfaafegnafhllaa", sum := "4ebd873b0ecfcb2dfe8a20777105b3cb612929b12fdf2c6e5b670d16b85827b2", func := "loop.example/g00500/laws.FnExactWithin", spec := "fnExactWithin", apart := false }
def FnExactWithinSaid : Prop := fnExactWithinRow.holds Try.pinned (OpenSpec.ofChange fnExactWithinSpec)

/-- ITS FALSE NEIGHBOUR: 'it returns false'. Refute it at one input. -/
def fnExactWithinWrong : ChangeSpec := { name := "fnExactWithin", fn := fun _ => fun
  | [d1, d2] => { results := [.lit (.bool false)], args := [d1, d2] }
  | _ => none }
def FnExactWithinWrongFalsely : Prop := fnExactWithinRow.holds Try.pinned (OpenSpec.ofChange fnExactWithinWrong)

/-- 'laws.FnExactFree': WHATEVER THE INPUT: true; the input reads as it did. -/
def fnExactFreeSpec : ChangeSpec := { name := "fnExactFree", fn := fun _ => fun
  | [] => { results := [.lit (.bool true)], args := [] }
  | _ => none }
def fnExactFreeRow : OpenClaim := { program := "ytfaafegnafhllaa", sum := "4ebd873b0ecfcb2dfe8a20777105b3cb612929b12fdf2c6e5b670d16b85827b2", func := "loop.example/g00500/laws.FnExactFree", spec := "fnExactFree", apart := false }
def FnExactFreeSaid : Prop := fnExactFreeRow.holds Try.pinned (OpenSpec.ofChange fnExactFreeSpec)

/-- ITS FALSE NEIGHBOUR: 'it returns false'. Refute it at one input. -/
def fnExactFreeWrong : ChangeSpec := { name := "fnExactFree", fn := fun _ => fun
  | [] => { results := [.lit (.bool false)], args := [] }
  | _ => none }
def FnExactFreeWrongFalsely : Prop := fnExactFreeRow.holds Try.pinned (OpenSpec.ofChange fnExactFreeWrong)

/-- 'laws.FnExactAgrees': WHATEVER THE INPUT: true; the input reads as it did. -/
def fnExactAgreesSpec : ChangeSpec := { name := "fnExactAgrees", fn := fun _ => fun
  | [d1, d2, d3] => { results := [.lit (.bool true)], args := [d1, d2, d3] }
  | _ => none }
def fnExactAgreesRow : OpenClaim := { program := "ytfaafegnafhllaa", sum := "4ebd873b0ecfcb2dfe8a20777105b3cb612929b12fdf2c6e5b670d16b85827b2", func := "loop.example/g00500/laws.FnExactAgrees", spec := "fnExactAgrees", apart := false }
def FnExactAgreesSaid : Prop := fnExactAgreesRow.holds Try.pinned (OpenSpec.ofChange fnExactAgreesSpec)

/-- ITS FALSE NEIGHBOUR: 'it returns false'. Refute it at one input. -/
def fnExactAgreesWrong : ChangeSpec := { name := "fnExactAgrees", fn := fun _ => fun
  | [d1, d2, d3] => { results := [.lit (.bool false)], args := [d1, d2, d3] }
  | _ => none }
def FnExactAgreesWrongFalsely : Prop := fnExactAgreesRow.holds Try.pinned (OpenSpec.ofChange fnExactAgreesWrong)

/-- 'laws.FnExactBoundOk': WHATEVER THE INPUT: true; the input reads as it did. -/
def fnExactBoundOkSpec : ChangeSpec := { name := "fnExactBoundOk", fn := fun _ => fun
  | [d] => { results := [.lit (.bool true)], args := [d] }
  | _ => none }
def fnExactBoundOkRow : OpenClaim := { program := "ytfaafegnafhllaa", sum := "4ebd873b0ecfcb2dfe8a20777105b3cb612929b12fdf2c6e5b670d16b85827b2", func := "loop.example/g00500/laws.FnExactBoundOk", spec := "fnExactBoundOk", apart := false }
def FnExactBoundOkSaid : Prop := fnExactBoundOkRow.holds Try.pinned (OpenSpec.ofChange fnExactBoundOkSpec)

/-- ITS FALSE NEIGHBOUR: 'it returns false'. Refute it at one input. -/
def fnExactBoundOkWrong : ChangeSpec := { name := "fnExactBoundOk", fn := fun _ => fun
  | [d] => { results := [.lit (.bool false)], args := [d] }
  | _ => none }
def FnExactBoundOkWrongFalsely : Prop := fnExactBoundOkRow.holds Try.pinned (OpenSpec.ofChange fnExactBoundOkWrong)

/-- 'laws.FnExactNameOk': WHATEVER THE INPUT: true; the input reads as it did. -/
def fnExactNameOkSpec : ChangeSpec := { name := "fnExactNameOk", fn := fun _ => fun
  | [d] => { results := [.lit (.bool true)], args := [d] }
  | _ => none }
def fnExactNameOkRow : OpenClaim := { program := "ytfaafegnafhllaa", sum := "4ebd873b0ecfcb2dfe8a20777105b3cb612929b12fdf2c6e5b670d16b85827b2", func := "loop.example/g00500/laws.FnExactNameOk", spec := "fnExactNameOk", apart := false }
def FnExactNameOkSaid : Prop := fnExactNameOkRow.holds Try.pinned (OpenSpec.ofChange fnExactNameOkSpec)

/-- ITS FALSE NEIGHBOUR: 'it returns false'. Refute it at one input. -/
def fnExactNameOkWrong : ChangeSpec := { name := "fnExactNameOk", fn := fun _ => fun
  | [d] => { results := [.lit (.bool false)], args := [d] }
  | _ => none }
def FnExactNameOkWrongFalsely : Prop := fnExactNameOkRow.holds Try.pinned (OpenSpec.ofChange fnExactNameOkWrong)

/-- 'laws.FnExactRowsOk': WHATEVER THE INPUT: true; the input reads as it did. -/
def fnExactRowsOkSpec : ChangeSpec := { name := "fnExactRowsOk", fn := fun _ => fun
  | [d1, d2] => { results := [.lit (.bool true)], args := [d1, d2] }
  | _ => none }
def fnExactRowsOkRow : OpenClaim := { program := "ytfaafegnafhllaa", sum := "4ebd873b0ecfcb2dfe8a20777105b3cb612929b12fdf2c6e5b670d16b85827b2", func := "loop.example/g00500/laws.FnExactRowsOk", spec := "fnExactRowsOk", apart := false }
def FnExactRowsOkSaid : Prop := fnExactRowsOkRow.holds Try.pinned (OpenSpec.ofChange fnExactRowsOkSpec)

/-- ITS FALSE NEIGHBOUR: 'it returns false'. Refute it at one input. -/
def fnExactRowsOkWrong : ChangeSpec := { name := "fnExactRowsOk", fn := fun _ => fun
  | [d1, d2] => { results := [.lit (.bool false)], args := [d1, d2] }
  | _ => none }
def FnExactRowsOkWrongFalsely : Prop := fnExactRowsOkRow.holds Try.pinned (OpenSpec.ofChange fnExactRowsOkWrong)

/-- 'laws.FnExactBinOf': WHATEVER THE INPUT: true; the input reads as it did. -/
def fnExactBinOfSpec : ChangeSpec := { name := "fnExactBinOf", fn := fun _ => fun
  | [d1, d2] => { results := [.lit (.bool true)], args := [d1, d2] }
  | _ => none }
def fnExactBinOfRow : OpenClaim := { program := "ytfaafegnafhllaa", sum := "4ebd873b0ecfcb2dfe8a20777105b3cb612929b12fdf2c6e5b670d16b85827b2", func := "loop.example/g00500/laws.FnExactBinOf", spec := "fnExactBinOf", apart := false }
def FnExactBinOfSaid : Prop := fnExactBinOfRow.holds Try.pinned (OpenSpec.ofChange fnExactBinOfSpec)

/-- ITS FALSE NEIGHBOUR: 'it returns false'. Refute it at one input. -/
def fnExactBinOfWrong : ChangeSpec := { name := "fnExactBinOf", fn := fun _ => fun
  | [d1, d2] => { results := [.lit (.bool false)], args := [d1, d2] }
  | _ => none }
def FnExactBinOfWrongFalsely : Prop := fnExactBinOfRow.holds Try.pinned (OpenSpec.ofChange fnExactBinOfWrong)

/-- 'laws.FnSidesHold': WHATEVER THE INPUT: true; the input reads as it did. -/
def fnSidesHoldSpec : ChangeSpec := { name := "fnSidesHold", fn := fun _ => fun
  | [d] => { results := [.lit (.bool true)], args := [d] }
  | _ => none }
def fnSidesHoldRow : OpenClaim := { program := "ytfaafegnafhllaa", sum := "4ebd873b0ecfcb2dfe8a20777105b3cb612929b12fdf2c6e5b670d16b85827b2", func := "loop.example/g00500/laws.FnSidesHold", spec := "fnSidesHold", apart := false }
def FnSidesHoldSaid : Prop := fnSidesHoldRow.holds Try.pinned (OpenSpec.ofChange fnSidesHoldSpec)

/-- ITS FALSE NEIGHBOUR: 'it returns false'. Refute it at one input. -/
def fnSidesHoldWrong : ChangeSpec := { name := "fnSidesHold", fn := fun _ => fun
  | [d] => { results := [.lit (.bool false)], args := [d] }
  | _ => none }
def FnSidesHoldWrongFalsely : Prop := fnSidesHoldRow.holds Try.pinned (OpenSpec.ofChange fnSidesHoldWrong)

/-- 'laws.FnExactAllRows': WHATEVER THE INPUT: true; the input reads as it did. -/
def fnExactAllRowsSpec : ChangeSpec := { name := "fnExactAllRows", fn := fun _ => fun
  | [d] => { results := [.lit (.bool true)], args := [d] }
  | _ => none }
def fnExactAllRowsRow : OpenClaim := { program := "ytfaafegnafhllaa", sum := "4ebd873b0ecfcb2dfe8a20777105b3cb612929b12fdf2c6e5b670d16b85827b2", func := "loop.example/g00500/laws.FnExactAllRows", spec := "fnExactAllRows", apart := false }
def FnExactAllRowsSaid : Prop := fnExactAllRowsRow.holds Try.pinned (OpenSpec.ofChange fnExactAllRowsSpec)

/-- ITS FALSE NEIGHBOUR: 'it returns false'. Refute it at one input. -/
def fnExactAllRowsWrong : ChangeSpec := { name := "fnExactAllRows", fn := fun _ => fun
  | [d] => { results := [.lit (.bool false)], args := [d] }
  | _ => none }
def FnExactAllRowsWrongFalsely : Prop := fnExactAllRowsRow.holds Try.pinned (OpenSpec.ofChange fnExactAllRowsWrong)

/-- 'laws.FnExactCandLess': WHATEVER THE INPUT: true; the input reads as it did. -/
def fnExactCandLessSpec : ChangeSpec := { name := "fnExactCandLess", fn := fun _ => fun
  | [d1, d2] => { results := [.lit (.bool true)], args := [d1, d2] }
  | _ => none }
def fnExactCandLessRow : OpenClaim := { program := "ytfaafegnafhllaa", sum := "4ebd873b0ecfcb2dfe8a20777105b3cb612929b12fdf2c6e5b670d16b85827b2", func := "loop.example/g00500/laws.FnExactCandLess", spec := "fnExactCandLess", apart := false }
def FnExactCandLessSaid : Prop := fnExactCandLessRow.holds Try.pinned (OpenSpec.ofChange fnExactCandLessSpec)

/-- ITS FALSE NEIGHBOUR: 'it returns false'. Refute it at one input. -/
def fnExactCandLessWrong : ChangeSpec := { name := "fnExactCandLess", fn := fun _ => fun
  | [d1, d2] => { results := [.lit (.bool false)], args := [d1, d2] }
  | _ => none }
def FnExactCandLessWrongFalsely : Prop := fnExactCandLessRow.holds Try.pinned (OpenSpec.ofChange fnExactCandLessWrong)

/-- 'laws.FnExactCutsOk': WHATEVER THE INPUT: true; the input reads as it did. -/
def fnExactCutsOkSpec : ChangeSpec := { name := "fnExactCutsOk", fn := fun _ => fun
  | [d] => { results := [.lit (.bool true)], args := [d] }
  | _ => none }
def fnExactCutsOkRow : OpenClaim := { program := "ytfaafegnafhllaa", sum := "4ebd873b0ecfcb2dfe8a20777105b3cb612929b12fdf2c6e5b670d16b85827b2", func := "loop.example/g00500/laws.FnExactCutsOk", spec := "fnExactCutsOk", unfollowed := true, recurses := true, apart := false }
def FnExactCutsOkSaid : Prop := fnExactCutsOkRow.holds Try.pinned (OpenSpec.ofChange fnExactCutsOkSpec)

/-- ITS FALSE NEIGHBOUR: 'it returns false'. Refute it at one input. -/
def fnExactCutsOkWrong : ChangeSpec := { name := "fnExactCutsOk", fn := fun _ => fun
  | [d] => { results := [.lit (.bool false)], args := [d] }
  | _ => none }
def FnExactCutsOkWrongFalsely : Prop := fnExactCutsOkRow.holds Try.pinned (OpenSpec.ofChange fnExactCutsOkWrong)

/-- 'laws.FnAllRows': WHATEVER THE INPUT: true; the input reads as it did. -/
def fnAllRowsSpec : ChangeSpec := { name := "fnAllRows", fn := fun _ => fun
  | [d] => { results := [.lit (.bool true)], args := [d] }
  | _ => none }
def fnAllRowsRow : OpenClaim := { program := "ytfaafegnafhllaa", sum := "4ebd873b0ecfcb2dfe8a20777105b3cb612929b12fdf2c6e5b670d16b85827b2", func := "loop.example/g00500/laws.FnAllRows", spec := "fnAllRows", apart := false }
def FnAllRowsSaid : Prop := fnAllRowsRow.holds Try.pinned (OpenSpec.ofChange fnAllRowsSpec)

/-- ITS FALSE NEIGHBOUR: 'it returns false'. Refute it at one input. -/
def fnAllRowsWrong : ChangeSpec := { name := "fnAllRows", fn := fun _ => fun
  | [d] => { results := [.lit (.bool false)], args := [d] }
  | _ => none }
def FnAllRowsWrongFalsely : Prop := fnAllRowsRow.holds Try.pinned (OpenSpec.ofChange fnAllRowsWrong)

/- THE SECOND FORM. 'bulk': how many values and letters a reading holds, each counted each time it is reached (what is shared counts as often as it is met; a slice's spare places count too). A statement '..UptoSaid' is the law's where the arguments, and the package variables that the reading takes, are together of bulk at most 1048576: NARROWER than '..Said'. Prove '..Said' where nothing that the law and all that it calls make is longer than what came in: it says more and counts as full. Else prove '..UptoSaid'. A law counts once. -/
mutual
def uptoBulk {H : Type} : DataW H → Nat
  | .lit (.string bytes) => bytes.length + 1
  | .lit _ => 1
  | .nil => 1
  | .ptr d => uptoBulk d + 1
  | .slice elems spare => uptoBulkAll elems + uptoBulkAll spare + 1
  | .agg parts => uptoBulkAll parts + 1
  | .iface _ d => uptoBulk d + 1
  | .map entries => uptoBulkEntries entries + 1
  | .held _ => 1
def uptoBulkAll {H : Type} : List (DataW H) → Nat
  | [] => 0
  | d :: r => uptoBulk d + uptoBulkAll r
def uptoBulkEntries {H : Type} : List (Lit × DataW H) → Nat
  | [] => 0
  | x :: r => uptoBulkEntry x + uptoBulkEntries r
def uptoBulkEntry {H : Type} : Lit × DataW H → Nat
  | (.string bytes, d) => bytes.length + uptoBulk d + 1
  | (_, d) => uptoBulk d + 1
 end
def uptoSmall : (H : Type) → List (DataW H) → Bool := fun _ ds => decide (uptoBulkAll ds ≤ 1048576)
def OpenSpec.upto (s : _root_.Go.ChangeSpec) : _root_.Go.OpenSpec := { _root_.Go.OpenSpec.ofChange s with cond := some uptoSmall }

/-- 'laws.FnExactWithin', WHERE WHAT IT READS IS OF BULK AT MOST 1048576: true; the input reads as it did. -/
def fnExactWithinUptoRow : OpenClaim := { program := "ytfaafegnafhllaa", sum := "4ebd873b0ecfcb2dfe8a20777105b3cb612929b12fdf2c6e5b670d16b85827b2", func := "loop.example/g00500/laws.FnExactWithin", spec := "fnExactWithin", apart := false, narrowed := true }
def FnExactWithinUptoSaid : Prop := fnExactWithinUptoRow.holds Try.pinned (OpenSpec.upto fnExactWithinSpec)

/-- 'laws.FnExactFree', WHERE WHAT IT READS IS OF BULK AT MOST 1048576: true; the input reads as it did. -/
def fnExactFreeUptoRow : OpenClaim := { program := "ytfaafegnafhllaa", sum := "4ebd873b0ecfcb2dfe8a20777105b3cb612929b12fdf2c6e5b670d16b85827b2", func := "loop.example/g00500/laws.FnExactFree", spec := "fnExactFree", apart := false, narrowed := true }
def FnExactFreeUptoSaid : Prop := fnExactFreeUptoRow.holds Try.pinned (OpenSpec.upto fnExactFreeSpec)

/-- 'laws.FnExactAgrees', WHERE WHAT IT READS IS OF BULK AT MOST 1048576: true; the input reads as it did. -/
def fnExactAgreesUptoRow : OpenClaim := { program := "ytfaafegnafhllaa", sum := "4ebd873b0ecfcb2dfe8a20777105b3cb612929b12fdf2c6e5b670d16b85827b2", func := "loop.example/g00500/laws.FnExactAgrees", spec := "fnExactAgrees", apart := false, narrowed := true }
def FnExactAgreesUptoSaid : Prop := fnExactAgreesUptoRow.holds Try.pinned (OpenSpec.upto fnExactAgreesSpec)

/-- 'laws.FnExactBoundOk', WHERE WHAT IT READS IS OF BULK AT MOST 1048576: true; the input reads as it did. -/
def fnExactBoundOkUptoRow : OpenClaim := { program := "ytfaafegnafhllaa", sum := "4ebd873b0ecfcb2dfe8a20777105b3cb612929b12fdf2c6e5b670d16b85827b2", func := "loop.example/g00500/laws.FnExactBoundOk", spec := "fnExactBoundOk", apart := false, narrowed := true }
def FnExactBoundOkUptoSaid : Prop := fnExactBoundOkUptoRow.holds Try.pinned (OpenSpec.upto fnExactBoundOkSpec)

/-- 'laws.FnExactNameOk', WHERE WHAT IT READS IS OF BULK AT MOST 1048576: true; the input reads as it did. -/
def fnExactNameOkUptoRow : OpenClaim := { program := "ytfaafegnafhllaa", sum := "4ebd873b0ecfcb2dfe8a20777105b3cb612929b12fdf2c6e5b670d16b85827b2", func := "loop.example/g00500/laws.FnExactNameOk", spec := "fnExactNameOk", apart := false, narrowed := true }
def FnExactNameOkUptoSaid : Prop := fnExactNameOkUptoRow.holds Try.pinned (OpenSpec.upto fnExactNameOkSpec)

/-- 'laws.FnExactRowsOk', WHERE WHAT IT READS IS OF BULK AT MOST 1048576: true; the input reads as it did. -/
def fnExactRowsOkUptoRow : OpenClaim := { program := "ytfaafegnafhllaa", sum := "4ebd873b0ecfcb2dfe8a20777105b3cb612929b12fdf2c6e5b670d16b85827b2", func := "loop.example/g00500/laws.FnExactRowsOk", spec := "fnExactRowsOk", apart := false, narrowed := true }
def FnExactRowsOkUptoSaid : Prop := fnExactRowsOkUptoRow.holds Try.pinned (OpenSpec.upto fnExactRowsOkSpec)

/-- 'laws.FnExactBinOf', WHERE WHAT IT READS IS OF BULK AT MOST 1048576: true; the input reads as it did. -/
def fnExactBinOfUptoRow : OpenClaim := { program := "ytfaafegnafhllaa", sum := "4ebd873b0ecfcb2dfe8a20777105b3cb612929b12fdf2c6e5b670d16b85827b2", func := "loop.example/g00500/laws.FnExactBinOf", spec := "fnExactBinOf", apart := false, narrowed := true }
def FnExactBinOfUptoSaid : Prop := fnExactBinOfUptoRow.holds Try.pinned (OpenSpec.upto fnExactBinOfSpec)

/-- 'laws.FnSidesHold', WHERE WHAT IT READS IS OF BULK AT MOST 1048576: true; the input reads as it did. -/
def fnSidesHoldUptoRow : OpenClaim := { program := "ytfaafegnafhllaa", sum := "4ebd873b0ecfcb2dfe8a20777105b3cb612929b12fdf2c6e5b670d16b85827b2", func := "loop.example/g00500/laws.FnSidesHold", spec := "fnSidesHold", apart := false, narrowed := true }
def FnSidesHoldUptoSaid : Prop := fnSidesHoldUptoRow.holds Try.pinned (OpenSpec.upto fnSidesHoldSpec)

/-- 'laws.FnExactAllRows', WHERE WHAT IT READS IS OF BULK AT MOST 1048576: true; the input reads as it did. -/
def fnExactAllRowsUptoRow : OpenClaim := { program := "ytfaafegnafhllaa", sum := "4ebd873b0ecfcb2dfe8a20777105b3cb612929b12fdf2c6e5b670d16b85827b2", func := "loop.example/g00500/laws.FnExactAllRows", spec := "fnExactAllRows", apart := false, narrowed := true }
def FnExactAllRowsUptoSaid : Prop := fnExactAllRowsUptoRow.holds Try.pinned (OpenSpec.upto fnExactAllRowsSpec)

/-- 'laws.FnExactCandLess', WHERE WHAT IT READS IS OF BULK AT MOST 1048576: true; the input reads as it did. -/
def fnExactCandLessUptoRow : OpenClaim := { program := "ytfaafegnafhllaa", sum := "4ebd873b0ecfcb2dfe8a20777105b3cb612929b12fdf2c6e5b670d16b85827b2", func := "loop.example/g00500/laws.FnExactCandLess", spec := "fnExactCandLess", apart := false, narrowed := true }
def FnExactCandLessUptoSaid : Prop := fnExactCandLessUptoRow.holds Try.pinned (OpenSpec.upto fnExactCandLessSpec)

/-- 'laws.FnExactCutsOk', WHERE WHAT IT READS IS OF BULK AT MOST 1048576: true; the input reads as it did. -/
def fnExactCutsOkUptoRow : OpenClaim := { program := "ytfaafegnafhllaa", sum := "4ebd873b0ecfcb2dfe8a20777105b3cb612929b12fdf2c6e5b670d16b85827b2", func := "loop.example/g00500/laws.FnExactCutsOk", spec := "fnExactCutsOk", unfollowed := true, recurses := true, apart := false, narrowed := true }
def FnExactCutsOkUptoSaid : Prop := fnExactCutsOkUptoRow.holds Try.pinned (OpenSpec.upto fnExactCutsOkSpec)

/-- 'laws.FnAllRows', WHERE WHAT IT READS IS OF BULK AT MOST 1048576: true; the input reads as it did. -/
def fnAllRowsUptoRow : OpenClaim := { program := "ytfaafegnafhllaa", sum := "4ebd873b0ecfcb2dfe8a20777105b3cb612929b12fdf2c6e5b670d16b85827b2", func := "loop.example/g00500/laws.FnAllRows", spec := "fnAllRows", apart := false, narrowed := true }
def FnAllRowsUptoSaid : Prop := fnAllRowsUptoRow.holds Try.pinned (OpenSpec.upto fnAllRowsSpec)

end Rows
end Go.Proofs.Ytfaafegnafhllaa
