/-
  No cell of these rows narrows 'for every input' (looked for: loops, veiled, ifaces, maps, wideKeys, modest, calm, conditions, laid).
  DERIVED. THE GIVEN ROWS OF THIS SEAT. 12 by the template 'for every input the law returns true; each argument reads behind the call as it read before'; 0 by the template 'total and deterministic' (their statements: YtohngimlmcdiiaaTotals.lean).
  GIVEN WITH THE SEED: the statements are not yours to turn. If you find one false, say at which input.
  Laid BY PROGRAM, IN A SANDBOX (cutbox-rows.mjs): the forced cells as the released guide's own fill.sh prints them over the translation 49afc432b138c130… (all of the seat's roots in one cut). By AI agents, Wed Nov 11 2026. No macro, syntax, notation, axiom, sorry.
-/
import Derived.Test.YtohngimlmcdiiaaChecked
import GoSem.Claim
import GoSem.ClaimJoined
import GoSem.ClaimMapViews
import Derived.JoinedTies
import Derived.KernelRfl
namespace Go.Proofs.Ytohngimlmcdiiaa
/- THE CELL 'sum', in the pinned program and in every row, IS THE sha256 OF THE DUMP (.gsa) THAT YtohngimlmcdiiaaProg.lean LOADS. Nothing in Lean hashes anything: it is a label: what it is worth is what the hold of that sum in a sandbox is worth. -/
noncomputable def Try.pinned : Pinned := { name := "ytohngimlmcdiiaa", sum := "49afc432b138c130dbb4116612b01bdbcb90a19bdd5bf95cb78fcc4327e91395", checked := Try.checked }
namespace Rows
def none {H : Type} : Left H := { results := [], args := [] }

/-- 'laws.FnExactPrefix': WHATEVER THE INPUT: true; the input reads as it did. -/
def fnExactPrefixSpec : ChangeSpec := { name := "fnExactPrefix", fn := fun _ => fun
  | [d] => { results := [.lit (.bool true)], args := [d] }
  | _ => none }
def fnExactPrefixRow : OpenClaim := { program := "ytohngimlmcdiiaa", sum := "49afc432b138c130dbb4116612b01bdbcb90a19bdd5bf95cb78fcc4327e91395", func := "loop.example/g00500/laws.FnExactPrefix", spec := "fnExactPrefix", apart := false }
def FnExactPrefixSaid : Prop := fnExactPrefixRow.holds Try.pinned (OpenSpec.ofChange fnExactPrefixSpec)

/-- ITS FALSE NEIGHBOUR: 'it returns false'. Refute it at one input. -/
def fnExactPrefixWrong : ChangeSpec := { name := "fnExactPrefix", fn := fun _ => fun
  | [d] => { results := [.lit (.bool false)], args := [d] }
  | _ => none }
def FnExactPrefixWrongFalsely : Prop := fnExactPrefixRow.holds Try.pinned (OpenSpec.ofChange fnExactPrefixWrong)

/-- 'laws.FnSides': WHATEVER THE INPUT: true; the input reads as it did. -/
def fnSidesSpec : ChangeSpec := { name := "fnSides", fn := fun _ => fun
  | [d] => { results := [.lit (.bool true)], args := [d] }
  | _ => none }
def fnSidesRow : OpenClaim := { program := "ytohngimlmcdiiaa", sum := "49afc432b138c130dbb4116612b01bdbcb90a19bdd5bf95cb78fcc4327e91395", func := "loop.example/g00500/laws.FnSides", spec := "fnSides", apart := false }
def FnSidesSaid : Prop := fnSidesRow.holds Try.pinned (OpenSpec.ofChange fnSidesSpec)

/-- ITS FALSE NEIGHBOUR: 'it returns false'. Refute it at one input. -/
def fnSidesWrong : ChangeSpec := { name := "fnSides", fn := fun _ => fun
  | [d] => { results := [.lit (.bool false)], args := [d] }
  | _ => none }
def FnSidesWrongFalsely : Prop := fnSidesRow.holds Try.pinned (OpenSpec.ofChange fnSidesWrong)

/-- 'laws.FnLeaf': WHATEVER THE INPUT: true; the input reads as it did. -/
def fnLeafSpec : ChangeSpec := { name := "fnLeaf", fn := fun _ => fun
  | [d] => { results := [.lit (.bool true)], args := [d] }
  | _ => none }
def fnLeafRow : OpenClaim := { program := "ytohngimlmcdiiaa", sum := "49afc432b138c130dbb4116612b01bdbcb90a19bdd5bf95cb78fcc4327e91395", func := "loop.example/g00500/laws.FnLeaf", spec := "fnLeaf", apart := false }
def FnLeafSaid : Prop := fnLeafRow.holds Try.pinned (OpenSpec.ofChange fnLeafSpec)

/-- ITS FALSE NEIGHBOUR: 'it returns false'. Refute it at one input. -/
def fnLeafWrong : ChangeSpec := { name := "fnLeaf", fn := fun _ => fun
  | [d] => { results := [.lit (.bool false)], args := [d] }
  | _ => none }
def FnLeafWrongFalsely : Prop := fnLeafRow.holds Try.pinned (OpenSpec.ofChange fnLeafWrong)

/-- 'laws.FnExactHistOf': WHATEVER THE INPUT: true; the input reads as it did. -/
def fnExactHistOfSpec : ChangeSpec := { name := "fnExactHistOf", fn := fun _ => fun
  | [d1, d2, d3, d4] => { results := [.lit (.bool true)], args := [d1, d2, d3, d4] }
  | _ => none }
def fnExactHistOfRow : OpenClaim := { program := "ytohngimlmcdiiaa", sum := "49afc432b138c130dbb4116612b01bdbcb90a19bdd5bf95cb78fcc4327e91395", func := "loop.example/g00500/laws.FnExactHistOf", spec := "fnExactHistOf", apart := false }
def FnExactHistOfSaid : Prop := fnExactHistOfRow.holds Try.pinned (OpenSpec.ofChange fnExactHistOfSpec)

/-- ITS FALSE NEIGHBOUR: 'it returns false'. Refute it at one input. -/
def fnExactHistOfWrong : ChangeSpec := { name := "fnExactHistOf", fn := fun _ => fun
  | [d1, d2, d3, d4] => { results := [.lit (.bool false)], args := [d1, d2, d3, d4] }
  | _ => none }
def FnExactHistOfWrongFalsely : Prop := fnExactHistOfRow.holds Try.pinned (OpenSpec.ofChange fnExactHistOfWrong)

/-- 'laws.FnExactSameGrid': WHATEVER THE INPUT: true; the input reads as it did. -/
def fnExactSameGridSpec : ChangeSpec := { name := "fnExactSameGrid", fn := fun _ => fun
  | [d1, d2] => { results := [.lit (.bool true)], args := [d1, d2] }
  | _ => none }
def fnExactSameGridRow : OpenClaim := { program := "ytohngimlmcdiiaa", sum := "49afc432b138c130dbb4116612b01bdbcb90a19bdd5bf95cb78fcc4327e91395", func := "loop.example/g00500/laws.FnExactSameGrid", spec := "fnExactSameGrid", unfollowed := true, recurses := true, apart := false }
def FnExactSameGridSaid : Prop := fnExactSameGridRow.holds Try.pinned (OpenSpec.ofChange fnExactSameGridSpec)

/-- ITS FALSE NEIGHBOUR: 'it returns false'. Refute it at one input. -/
def fnExactSameGridWrong : ChangeSpec := { name := "fnExactSameGrid", fn := fun _ => fun
  | [d1, d2] => { results := [.lit (.bool false)], args := [d1, d2] }
  | _ => none }
def FnExactSameGridWrongFalsely : Prop := fnExactSameGridRow.holds Try.pinned (OpenSpec.ofChange fnExactSameGridWrong)

/-- 'laws.FnExactGridOk': WHATEVER THE INPUT: true; the input reads as it did. -/
def fnExactGridOkSpec : ChangeSpec := { name := "fnExactGridOk", fn := fun _ => fun
  | [d] => { results := [.lit (.bool true)], args := [d] }
  | _ => none }
def fnExactGridOkRow : OpenClaim := { program := "ytohngimlmcdiiaa", sum := "49afc432b138c130dbb4116612b01bdbcb90a19bdd5bf95cb78fcc4327e91395", func := "loop.example/g00500/laws.FnExactGridOk", spec := "fnExactGridOk", unfollowed := true, recurses := true, apart := false }
def FnExactGridOkSaid : Prop := fnExactGridOkRow.holds Try.pinned (OpenSpec.ofChange fnExactGridOkSpec)

/-- ITS FALSE NEIGHBOUR: 'it returns false'. Refute it at one input. -/
def fnExactGridOkWrong : ChangeSpec := { name := "fnExactGridOk", fn := fun _ => fun
  | [d] => { results := [.lit (.bool false)], args := [d] }
  | _ => none }
def FnExactGridOkWrongFalsely : Prop := fnExactGridOkRow.holds Try.pinned (OpenSpec.ofChange fnExactGridOkWrong)

/-- 'laws.FnExactSideValues': WHATEVER THE INPUT: true; the input reads as it did. -/
def fnExactSideValuesSpec : ChangeSpec := { name := "fnExactSideValues", fn := fun _ => fun
  | [d1, d2, d3] => { results := [.lit (.bool true)], args := [d1, d2, d3] }
  | _ => none }
def fnExactSideValuesRow : OpenClaim := { program := "ytohngimlmcdiiaa", sum := "49afc432b138c130dbb4116612b01bdbcb90a19bdd5bf95cb78fcc4327e91395", func := "loop.example/g00500/laws.FnExactSideValues", spec := "fnExactSideValues", apart := false }
def FnExactSideValuesSaid : Prop := fnExactSideValuesRow.holds Try.pinned (OpenSpec.ofChange fnExactSideValuesSpec)

/-- ITS FALSE NEIGHBOUR: 'it returns false'. Refute it at one input. -/
def fnExactSideValuesWrong : ChangeSpec := { name := "fnExactSideValues", fn := fun _ => fun
  | [d1, d2, d3] => { results := [.lit (.bool false)], args := [d1, d2, d3] }
  | _ => none }
def FnExactSideValuesWrongFalsely : Prop := fnExactSideValuesRow.holds Try.pinned (OpenSpec.ofChange fnExactSideValuesWrong)

/-- 'laws.FnSideValues': WHATEVER THE INPUT: true; the input reads as it did. -/
def fnSideValuesSpec : ChangeSpec := { name := "fnSideValues", fn := fun _ => fun
  | [d] => { results := [.lit (.bool true)], args := [d] }
  | _ => none }
def fnSideValuesRow : OpenClaim := { program := "ytohngimlmcdiiaa", sum := "49afc432b138c130dbb4116612b01bdbcb90a19bdd5bf95cb78fcc4327e91395", func := "loop.example/g00500/laws.FnSideValues", spec := "fnSideValues", apart := false }
def FnSideValuesSaid : Prop := fnSideValuesRow.holds Try.pinned (OpenSpec.ofChange fnSideValuesSpec)

/-- ITS FALSE NEIGHBOUR: 'it returns false'. Refute it at one input. -/
def fnSideValuesWrong : ChangeSpec := { name := "fnSideValues", fn := fun _ => fun
  | [d] => { results := [.lit (.bool false)], args := [d] }
  | _ => none }
def FnSideValuesWrongFalsely : Prop := fnSideValuesRow.holds Try.pinned (OpenSpec.ofChange fnSideValuesWrong)

/-- 'laws.FnColumn': WHATEVER THE INPUT: true; the input reads as it did. -/
def fnColumnSpec : ChangeSpec := { name := "fnColumn", fn := fun _ => fun
  | [d] => { results := [.lit (.bool true)], args := [d] }
  | _ => none }
def fnColumnRow : OpenClaim := { program := "ytohngimlmcdiiaa", sum := "49afc432b138c130dbb4116612b01bdbcb90a19bdd5bf95cb78fcc4327e91395", func := "loop.example/g00500/laws.FnColumn", spec := "fnColumn", apart := false }
def FnColumnSaid : Prop := fnColumnRow.holds Try.pinned (OpenSpec.ofChange fnColumnSpec)

/-- ITS FALSE NEIGHBOUR: 'it returns false'. Refute it at one input. -/
def fnColumnWrong : ChangeSpec := { name := "fnColumn", fn := fun _ => fun
  | [d] => { results := [.lit (.bool false)], args := [d] }
  | _ => none }
def FnColumnWrongFalsely : Prop := fnColumnRow.holds Try.pinned (OpenSpec.ofChange fnColumnWrong)

/-- 'laws.FnExactSameTable': WHATEVER THE INPUT: true; the input reads as it did. -/
def fnExactSameTableSpec : ChangeSpec := { name := "fnExactSameTable", fn := fun _ => fun
  | [d1, d2] => { results := [.lit (.bool true)], args := [d1, d2] }
  | _ => none }
def fnExactSameTableRow : OpenClaim := { program := "ytohngimlmcdiiaa", sum := "49afc432b138c130dbb4116612b01bdbcb90a19bdd5bf95cb78fcc4327e91395", func := "loop.example/g00500/laws.FnExactSameTable", spec := "fnExactSameTable", unfollowed := true, recurses := true, apart := false }
def FnExactSameTableSaid : Prop := fnExactSameTableRow.holds Try.pinned (OpenSpec.ofChange fnExactSameTableSpec)

/-- ITS FALSE NEIGHBOUR: 'it returns false'. Refute it at one input. -/
def fnExactSameTableWrong : ChangeSpec := { name := "fnExactSameTable", fn := fun _ => fun
  | [d1, d2] => { results := [.lit (.bool false)], args := [d1, d2] }
  | _ => none }
def FnExactSameTableWrongFalsely : Prop := fnExactSameTableRow.holds Try.pinned (OpenSpec.ofChange fnExactSameTableWrong)

/-- 'laws.FnExactColumn': WHATEVER THE INPUT: true; the input reads as it did. -/
def fnExactColumnSpec : ChangeSpec := { name := "fnExactColumn", fn := fun _ => fun
  | [d1, d2] => { results := [.lit (.bool true)], args := [d1, d2] }
  | _ => none }
def fnExactColumnRow : OpenClaim := { program := "ytohngimlmcdiiaa", sum := "49afc432b138c130dbb4116612b01bdbcb90a19bdd5bf95cb78fcc4327e91395", func := "loop.example/g00500/laws.FnExactColumn", spec := "fnExactColumn", apart := false }
def FnExactColumnSaid : Prop := fnExactColumnRow.holds Try.pinned (OpenSpec.ofChange fnExactColumnSpec)

/-- ITS FALSE NEIGHBOUR: 'it returns false'. Refute it at one input. -/
def fnExactColumnWrong : ChangeSpec := { name := "fnExactColumn", fn := fun _ => fun
  | [d1, d2] => { results := [.lit (.bool false)], args := [d1, d2] }
  | _ => none }
def FnExactColumnWrongFalsely : Prop := fnExactColumnRow.holds Try.pinned (OpenSpec.ofChange fnExactColumnWrong)

/-- 'laws.FnSiblings': WHATEVER THE INPUT: true; the input reads as it did. -/
def fnSiblingsSpec : ChangeSpec := { name := "fnSiblings", fn := fun _ => fun
  | [d] => { results := [.lit (.bool true)], args := [d] }
  | _ => none }
def fnSiblingsRow : OpenClaim := { program := "ytohngimlmcdiiaa", sum := "49afc432b138c130dbb4116612b01bdbcb90a19bdd5bf95cb78fcc4327e91395", func := "loop.example/g00500/laws.FnSiblings", spec := "fnSiblings", apart := false }
def FnSiblingsSaid : Prop := fnSiblingsRow.holds Try.pinned (OpenSpec.ofChange fnSiblingsSpec)

/-- ITS FALSE NEIGHBOUR: 'it returns false'. Refute it at one input. -/
def fnSiblingsWrong : ChangeSpec := { name := "fnSiblings", fn := fun _ => fun
  | [d] => { results := [.lit (.bool false)], args := [d] }
  | _ => none }
def FnSiblingsWrongFalsely : Prop := fnSiblingsRow.holds Try.pinned (OpenSpec.ofChange fnSiblingsWrong)

/- THE SECOND FORM. 'bulk': how many values and letters a reading holds, each counted each time it is reached (what is shared counts as often as it is met; a slice's spare places count too). A statement '..UptoSaid' is the law's where the arguments, and the package variables that the reading takes, are together of bulk at most 1048576: NARROWER than '..Said'. Prove '..Said' where nothing that the law and all that it calls make is longer than what came in: it says more and counts as full. Else prove '..UptoSaid'. A law counts once. -/
mutual
def uptoBulk {H : Type} : DataW H → Nat
  | .lit (.string bytes) => bytes.length + 1
  | .lit _ => 1
  | .nil => 1
  | .ptr d => uptoBulk d + 1
  | .slice elems spare => uptoBulkAll elems + uptoBulkAll spare + 1
  | .agg parts => uptoBulkAll parts + 1
  | .iface _ d => uptoBulk d + 1
  | .map entries => uptoBulkEntries entries + 1
  | .held _ => 1
def uptoBulkAll {H : Type} : List (DataW H) → Nat
  | [] => 0
  | d :: r => uptoBulk d + uptoBulkAll r
def uptoBulkEntries {H : Type} : List (Lit × DataW H) → Nat
  | [] => 0
  | x :: r => uptoBulkEntry x + uptoBulkEntries r
def uptoBulkEntry {H : Type} : Lit × DataW H → Nat
  | (.string bytes, d) => bytes.length + uptoBulk d + 1
  | (_, d) => uptoBulk d + 1
 end
def uptoSmall : (H : Type) → List (DataW H) → Bool := fun _ ds => decide (uptoBulkAll ds ≤ 1048576)
def OpenSpec.upto (s : _root_.Go.ChangeSpec) : _root_.Go.OpenSpec := { _root_.Go.OpenSpec.ofChange s with cond := some uptoSmall }

/-- 'laws.FnExactPrefix', WHERE WHAT IT READS IS OF BULK AT MOST 1048576: true; the input reads as it did. -/
def fnExactPrefixUptoRow : OpenClaim := { program := "ytohngimlmcdiiaa", sum := "49afc432b138c130dbb4116612b01bdbcb90a19bdd5bf95cb78fcc4327e91395", func := "loop.example/g00500/laws.FnExactPrefix", spec := "fnExactPrefix", apart := false, narrowed := true }
def FnExactPrefixUptoSaid : Prop := fnExactPrefixUptoRow.holds Try.pinned (OpenSpec.upto fnExactPrefixSpec)

/-- 'laws.FnSides', WHERE WHAT IT READS IS OF BULK AT MOST 1048576: true; the input reads as it did. -/
def fnSidesUptoRow : OpenClaim := { program := "ytohngimlmcdiiaa", sum := "49afc432b138c130dbb4116612b01bdbcb90a19bdd5bf95cb78fcc4327e91395", func := "loop.example/g00500/laws.FnSides", spec := "fnSides", apart := false, narrowed := true }
def FnSidesUptoSaid : Prop := fnSidesUptoRow.holds Try.pinned (OpenSpec.upto fnSidesSpec)

/-- 'laws.FnLeaf', WHERE WHAT IT READS IS OF BULK AT MOST 1048576: true; the input reads as it did. -/
def fnLeafUptoRow : OpenClaim := { program := "ytohngimlmcdiiaa", sum := "49afc432b138c130dbb4116612b01bdbcb90a19bdd5bf95cb78fcc4327e91395", func := "loop.example/g00500/laws.FnLeaf", spec := "fnLeaf", apart := false, narrowed := true }
def FnLeafUptoSaid : Prop := fnLeafUptoRow.holds Try.pinned (OpenSpec.upto fnLeafSpec)

/-- 'laws.FnExactHistOf', WHERE WHAT IT READS IS OF BULK AT MOST 1048576: true; the input reads as it did. -/
def fnExactHistOfUptoRow : OpenClaim := { program := "ytohngimlmcdiiaa", sum := "49afc432b138c130dbb4116612b01bdbcb90a19bdd5bf95cb78fcc4327e91395", func := "loop.example/g00500/laws.FnExactHistOf", spec := "fnExactHistOf", apart := false, narrowed := true }
def FnExactHistOfUptoSaid : Prop := fnExactHistOfUptoRow.holds Try.pinned (OpenSpec.upto fnExactHistOfSpec)

/-- 'laws.FnExactSameGrid', WHERE WHAT IT READS IS OF BULK AT MOST 1048576: true; the input reads as it did. -/
def fnExactSameGridUptoRow : OpenClaim := { program := "ytohngimlmcdiiaa", sum := "49afc432b138c130dbb4116612b01bdbcb90a19bdd5bf95cb78fcc4327e91395", func := "loop.example/g00500/laws.FnExactSameGrid", spec := "fnExactSameGrid", unfollowed := true, recurses := true, apart := false, narrowed := true }
def FnExactSameGridUptoSaid : Prop := fnExactSameGridUptoRow.holds Try.pinned (OpenSpec.upto fnExactSameGridSpec)

/-- 'laws.FnExactGridOk', WHERE WHAT IT READS IS OF BULK AT MOST 1048576: true; the input reads as it did. -/
def fnExactGridOkUptoRow : OpenClaim := { program := "ytohngimlmcdiiaa", sum := "49afc432b138c130dbb4116612b01bdbcb90a19bdd5bf95cb78fcc4327e91395", func := "loop.example/g00500/laws.FnExactGridOk", spec := "fnExactGridOk", unfollowed := true, recurses := true, apart := false, narrowed := true }
def FnExactGridOkUptoSaid : Prop := fnExactGridOkUptoRow.holds Try.pinned (OpenSpec.upto fnExactGridOkSpec)

/-- 'laws.FnExactSideValues', WHERE WHAT IT READS IS OF BULK AT MOST 1048576: true; the input reads as it did. -/
def fnExactSideValuesUptoRow : OpenClaim := { program := "ytohngimlmcdiiaa", sum := "49afc432b138c130dbb4116612b01bdbcb90a19bdd5bf95cb78fcc4327e91395", func := "loop.example/g00500/laws.FnExactSideValues", spec := "fnExactSideValues", apart := false, narrowed := true }
def FnExactSideValuesUptoSaid : Prop := fnExactSideValuesUptoRow.holds Try.pinned (OpenSpec.upto fnExactSideValuesSpec)

/-- 'laws.FnSideValues', WHERE WHAT IT READS IS OF BULK AT MOST 1048576: true; the input reads as it did. -/
def fnSideValuesUptoRow : OpenClaim := { program := "ytohngimlmcdiiaa", sum := "49afc432b138c130dbb4116612b01bdbcb90a19bdd5bf95cb78fcc4327e91395", func := "loop.example/g00500/laws.FnSideValues", spec := "fnSideValues", apart := false, narrowed := true }
def FnSideValuesUptoSaid : Prop := fnSideValuesUptoRow.holds Try.pinned (OpenSpec.upto fnSideValuesSpec)

/-- 'laws.FnColumn', WHERE WHAT IT READS IS OF BULK AT MOST 1048576: true; the input reads as it did. -/
def fnColumnUptoRow : OpenClaim := { program := "ytohngimlmcdiiaa", sum := "49afc432b138c130dbb4116612b01bdbcb90a19bdd5bf95cb78fcc4327e91395", func := "loop.example/g00500/laws.FnColumn", spec := "fnColumn", apart := false, narrowed := true }
def FnColumnUptoSaid : Prop := fnColumnUptoRow.holds Try.pinned (OpenSpec.upto fnColumnSpec)

/-- 'laws.FnExactSameTable', WHERE WHAT IT READS IS OF BULK AT MOST 1048576: true; the input reads as it did. -/
def fnExactSameTableUptoRow : OpenClaim := { program := "ytohngimlmcdiiaa", sum := "49afc432b138c130dbb4116612b01bdbcb90a19bdd5bf95cb78fcc4327e91395", func := "loop.example/g00500/laws.FnExactSameTable", spec := "fnExactSameTable", unfollowed := true, recurses := true, apart := false, narrowed := true }
def FnExactSameTableUptoSaid : Prop := fnExactSameTableUptoRow.holds Try.pinned (OpenSpec.upto fnExactSameTableSpec)

/-- 'laws.FnExactColumn', WHERE WHAT IT READS IS OF BULK AT MOST 1048576: true; the input reads as it did. -/
def fnExactColumnUptoRow : OpenClaim := { program := "ytohngimlmcdiiaa", sum := "49afc432b138c130dbb4116612b01bdbcb90a19bdd5bf95cb78fcc4327e91395", func := "loop.example/g00500/laws.FnExactColumn", spec := "fnExactColumn", apart := false, narrowed := true }
def FnExactColumnUptoSaid : Prop := fnExactColumnUptoRow.holds Try.pinned (OpenSpec.upto fnExactColumnSpec)

/-- 'laws.FnSiblings', WHERE WHAT IT READS IS OF BULK AT MOST 1048576: true; the input reads as it did. -/
def fnSiblingsUptoRow : OpenClaim := { program := "ytohngimlmcdiiaa", sum := "49afc432b138c130dbb4116612b01bdbcb90a19bdd5bf95cb78fcc4327e91395", func := "loop.example/g00500/laws.FnSiblings", spec := "fnSiblings", apart := false, narrowed := true }
def FnSiblingsUptoSaid : Prop := fnSiblingsUptoRow.holds Try.pinned (OpenSpec.upto fnSiblingsSpec)

end Rows
end Go.Proofs.Ytohngimlmcdiiaa
