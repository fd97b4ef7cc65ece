/-
  No cell of these rows narrows 'for every input' (looked for: loops, veiled, ifaces, maps, wideKeys, modest, calm, conditions, laid).
  DERIVED. THE GIVEN ROWS OF THIS SEAT. 12 by the template 'for every input the law returns true; each argument reads behind the call as it read before'; 0 by the template 'total and deterministic' (their statements: YtloinhlkkbploaaTotals.lean).
  GIVEN WITH THE SEED: the statements are not yours to turn. If you find one false, say at which input.
  Laid BY PROGRAM, IN A SANDBOX (cutbox-rows.mjs): the forced cells as the released guide's own fill.sh prints them over the translation 0d090c0ee1f1e2af… (all of the seat's roots in one cut). By AI agents, Wed Nov 11 2026. No macro, syntax, notation, axiom, sorry.
-/
import Derived.Test.YtloinhlkkbploaaChecked
import GoSem.Claim
import GoSem.ClaimJoined
import GoSem.ClaimMapViews
import Derived.JoinedTies
import Derived.KernelRfl
namespace Go.Proofs.Ytloinhlkkbploaa
/- THE CELL 'sum', in the pinned program and in every row, IS THE sha256 OF THE DUMP (.gsa) THAT YtloinhlkkbploaaProg.lean LOADS. Nothing in Lean hashes anything: it is a label: what it is worth is what the hold of that sum in a sandbox is worth. -/
noncomputable def Try.pinned : Pinned := { name := "ytloinhlkkbploaa", sum := "0d090c0ee1f1e2af9ee1c2cca6a7731dcb21d1a581be4bec6acddacafe49f090", checked := Try.checked }
namespace Rows
def none {H : Type} : Left H := { results := [], args := [] }

/-- 'laws.FnExactBothOf': WHATEVER THE INPUT: true; the input reads as it did. -/
def fnExactBothOfSpec : ChangeSpec := { name := "fnExactBothOf", fn := fun _ => fun
  | [d] => { results := [.lit (.bool true)], args := [d] }
  | _ => none }
def fnExactBothOfRow : OpenClaim := { program := "ytloinhlkkbploaa", sum := "0d090c0ee1f1e2af9ee1c2cca6a7731dcb21d1a581be4bec6acddacafe49f090", func := "loop.example/g00500/laws.FnExactBothOf", spec := "fnExactBothOf", apart := false }
def FnExactBothOfSaid : Prop := fnExactBothOfRow.holds Try.pinned (OpenSpec.ofChange fnExactBothOfSpec)

/-- ITS FALSE NEIGHBOUR: 'it returns false'. Refute it at one input. -/
def fnExactBothOfWrong : ChangeSpec := { name := "fnExactBothOf", fn := fun _ => fun
  | [d] => { results := [.lit (.bool false)], args := [d] }
  | _ => none }
def FnExactBothOfWrongFalsely : Prop := fnExactBothOfRow.holds Try.pinned (OpenSpec.ofChange fnExactBothOfWrong)

/-- 'laws.FnAgrees': WHATEVER THE INPUT: true; the input reads as it did. -/
def fnAgreesSpec : ChangeSpec := { name := "fnAgrees", fn := fun _ => fun
  | [d] => { results := [.lit (.bool true)], args := [d] }
  | _ => none }
def fnAgreesRow : OpenClaim := { program := "ytloinhlkkbploaa", sum := "0d090c0ee1f1e2af9ee1c2cca6a7731dcb21d1a581be4bec6acddacafe49f090", func := "loop.example/g00500/laws.FnAgrees", spec := "fnAgrees", apart := false }
def FnAgreesSaid : Prop := fnAgreesRow.holds Try.pinned (OpenSpec.ofChange fnAgreesSpec)

/-- ITS FALSE NEIGHBOUR: 'it returns false'. Refute it at one input. -/
def fnAgreesWrong : ChangeSpec := { name := "fnAgrees", fn := fun _ => fun
  | [d] => { results := [.lit (.bool false)], args := [d] }
  | _ => none }
def FnAgreesWrongFalsely : Prop := fnAgreesRow.holds Try.pinned (OpenSpec.ofChange fnAgreesWrong)

/-- 'laws.FnExactSameHist': WHATEVER THE INPUT: true; the input reads as it did. -/
def fnExactSameHistSpec : ChangeSpec := { name := "fnExactSameHist", fn := fun _ => fun
  | [d1, d2] => { results := [.lit (.bool true)], args := [d1, d2] }
  | _ => none }
def fnExactSameHistRow : OpenClaim := { program := "ytloinhlkkbploaa", sum := "0d090c0ee1f1e2af9ee1c2cca6a7731dcb21d1a581be4bec6acddacafe49f090", func := "loop.example/g00500/laws.FnExactSameHist", spec := "fnExactSameHist", apart := false }
def FnExactSameHistSaid : Prop := fnExactSameHistRow.holds Try.pinned (OpenSpec.ofChange fnExactSameHistSpec)

/-- ITS FALSE NEIGHBOUR: 'it returns false'. Refute it at one input. -/
def fnExactSameHistWrong : ChangeSpec := { name := "fnExactSameHist", fn := fun _ => fun
  | [d1, d2] => { results := [.lit (.bool false)], args := [d1, d2] }
  | _ => none }
def FnExactSameHistWrongFalsely : Prop := fnExactSameHistRow.holds Try.pinned (OpenSpec.ofChange fnExactSameHistWrong)

/-- 'laws.FnExactSplitRows': WHATEVER THE INPUT: true; the input reads as it did. -/
def fnExactSplitRowsSpec : ChangeSpec := { name := "fnExactSplitRows", fn := fun _ => fun
  | [d1, d2, d3] => { results := [.lit (.bool true)], args := [d1, d2, d3] }
  | _ => none }
def fnExactSplitRowsRow : OpenClaim := { program := "ytloinhlkkbploaa", sum := "0d090c0ee1f1e2af9ee1c2cca6a7731dcb21d1a581be4bec6acddacafe49f090", func := "loop.example/g00500/laws.FnExactSplitRows", spec := "fnExactSplitRows", apart := false }
def FnExactSplitRowsSaid : Prop := fnExactSplitRowsRow.holds Try.pinned (OpenSpec.ofChange fnExactSplitRowsSpec)

/-- ITS FALSE NEIGHBOUR: 'it returns false'. Refute it at one input. -/
def fnExactSplitRowsWrong : ChangeSpec := { name := "fnExactSplitRows", fn := fun _ => fun
  | [d1, d2, d3] => { results := [.lit (.bool false)], args := [d1, d2, d3] }
  | _ => none }
def FnExactSplitRowsWrongFalsely : Prop := fnExactSplitRowsRow.holds Try.pinned (OpenSpec.ofChange fnExactSplitRowsWrong)

/-- 'laws.FnExactSidesOf': WHATEVER THE INPUT: true; the input reads as it did. -/
def fnExactSidesOfSpec : ChangeSpec := { name := "fnExactSidesOf", fn := fun _ => fun
  | [d1, d2, d3, d4] => { results := [.lit (.bool true)], args := [d1, d2, d3, d4] }
  | _ => none }
def fnExactSidesOfRow : OpenClaim := { program := "ytloinhlkkbploaa", sum := "0d090c0ee1f1e2af9ee1c2cca6a7731dcb21d1a581be4bec6acddacafe49f090", func := "loop.example/g00500/laws.FnExactSidesOf", spec := "fnExactSidesOf", apart := false }
def FnExactSidesOfSaid : Prop := fnExactSidesOfRow.holds Try.pinned (OpenSpec.ofChange fnExactSidesOfSpec)

/-- ITS FALSE NEIGHBOUR: 'it returns false'. Refute it at one input. -/
def fnExactSidesOfWrong : ChangeSpec := { name := "fnExactSidesOf", fn := fun _ => fun
  | [d1, d2, d3, d4] => { results := [.lit (.bool false)], args := [d1, d2, d3, d4] }
  | _ => none }
def FnExactSidesOfWrongFalsely : Prop := fnExactSidesOfRow.holds Try.pinned (OpenSpec.ofChange fnExactSidesOfWrong)

/-- 'laws.FnExactLeafOf': WHATEVER THE INPUT: true; the input reads as it did. -/
def fnExactLeafOfSpec : ChangeSpec := { name := "fnExactLeafOf", fn := fun _ => fun
  | [d1, d2, d3] => { results := [.lit (.bool true)], args := [d1, d2, d3] }
  | _ => none }
def fnExactLeafOfRow : OpenClaim := { program := "ytloinhlkkbploaa", sum := "0d090c0ee1f1e2af9ee1c2cca6a7731dcb21d1a581be4bec6acddacafe49f090", func := "loop.example/g00500/laws.FnExactLeafOf", spec := "fnExactLeafOf", apart := false }
def FnExactLeafOfSaid : Prop := fnExactLeafOfRow.holds Try.pinned (OpenSpec.ofChange fnExactLeafOfSpec)

/-- ITS FALSE NEIGHBOUR: 'it returns false'. Refute it at one input. -/
def fnExactLeafOfWrong : ChangeSpec := { name := "fnExactLeafOf", fn := fun _ => fun
  | [d1, d2, d3] => { results := [.lit (.bool false)], args := [d1, d2, d3] }
  | _ => none }
def FnExactLeafOfWrongFalsely : Prop := fnExactLeafOfRow.holds Try.pinned (OpenSpec.ofChange fnExactLeafOfWrong)

/-- 'laws.FnExactRowsIn': WHATEVER THE INPUT: true; the input reads as it did. -/
def fnExactRowsInSpec : ChangeSpec := { name := "fnExactRowsIn", fn := fun _ => fun
  | [d] => { results := [.lit (.bool true)], args := [d] }
  | _ => none }
def fnExactRowsInRow : OpenClaim := { program := "ytloinhlkkbploaa", sum := "0d090c0ee1f1e2af9ee1c2cca6a7731dcb21d1a581be4bec6acddacafe49f090", func := "loop.example/g00500/laws.FnExactRowsIn", spec := "fnExactRowsIn", apart := false }
def FnExactRowsInSaid : Prop := fnExactRowsInRow.holds Try.pinned (OpenSpec.ofChange fnExactRowsInSpec)

/-- ITS FALSE NEIGHBOUR: 'it returns false'. Refute it at one input. -/
def fnExactRowsInWrong : ChangeSpec := { name := "fnExactRowsIn", fn := fun _ => fun
  | [d] => { results := [.lit (.bool false)], args := [d] }
  | _ => none }
def FnExactRowsInWrongFalsely : Prop := fnExactRowsInRow.holds Try.pinned (OpenSpec.ofChange fnExactRowsInWrong)

/-- 'laws.FnBins': WHATEVER THE INPUT: true; the input reads as it did. -/
def fnBinsSpec : ChangeSpec := { name := "fnBins", fn := fun _ => fun
  | [d] => { results := [.lit (.bool true)], args := [d] }
  | _ => none }
def fnBinsRow : OpenClaim := { program := "ytloinhlkkbploaa", sum := "0d090c0ee1f1e2af9ee1c2cca6a7731dcb21d1a581be4bec6acddacafe49f090", func := "loop.example/g00500/laws.FnBins", spec := "fnBins", apart := false }
def FnBinsSaid : Prop := fnBinsRow.holds Try.pinned (OpenSpec.ofChange fnBinsSpec)

/-- ITS FALSE NEIGHBOUR: 'it returns false'. Refute it at one input. -/
def fnBinsWrong : ChangeSpec := { name := "fnBins", fn := fun _ => fun
  | [d] => { results := [.lit (.bool false)], args := [d] }
  | _ => none }
def FnBinsWrongFalsely : Prop := fnBinsRow.holds Try.pinned (OpenSpec.ofChange fnBinsWrong)

/-- 'laws.FnExactTotalOf': WHATEVER THE INPUT: true; the input reads as it did. -/
def fnExactTotalOfSpec : ChangeSpec := { name := "fnExactTotalOf", fn := fun _ => fun
  | [d] => { results := [.lit (.bool true)], args := [d] }
  | _ => none }
def fnExactTotalOfRow : OpenClaim := { program := "ytloinhlkkbploaa", sum := "0d090c0ee1f1e2af9ee1c2cca6a7731dcb21d1a581be4bec6acddacafe49f090", func := "loop.example/g00500/laws.FnExactTotalOf", spec := "fnExactTotalOf", apart := false }
def FnExactTotalOfSaid : Prop := fnExactTotalOfRow.holds Try.pinned (OpenSpec.ofChange fnExactTotalOfSpec)

/-- ITS FALSE NEIGHBOUR: 'it returns false'. Refute it at one input. -/
def fnExactTotalOfWrong : ChangeSpec := { name := "fnExactTotalOf", fn := fun _ => fun
  | [d] => { results := [.lit (.bool false)], args := [d] }
  | _ => none }
def FnExactTotalOfWrongFalsely : Prop := fnExactTotalOfRow.holds Try.pinned (OpenSpec.ofChange fnExactTotalOfWrong)

/-- 'laws.FnExactPlainGain': WHATEVER THE INPUT: true; the input reads as it did. -/
def fnExactPlainGainSpec : ChangeSpec := { name := "fnExactPlainGain", fn := fun _ => fun
  | [d1, d2] => { results := [.lit (.bool true)], args := [d1, d2] }
  | _ => none }
def fnExactPlainGainRow : OpenClaim := { program := "ytloinhlkkbploaa", sum := "0d090c0ee1f1e2af9ee1c2cca6a7731dcb21d1a581be4bec6acddacafe49f090", func := "loop.example/g00500/laws.FnExactPlainGain", spec := "fnExactPlainGain", apart := false }
def FnExactPlainGainSaid : Prop := fnExactPlainGainRow.holds Try.pinned (OpenSpec.ofChange fnExactPlainGainSpec)

/-- ITS FALSE NEIGHBOUR: 'it returns false'. Refute it at one input. -/
def fnExactPlainGainWrong : ChangeSpec := { name := "fnExactPlainGain", fn := fun _ => fun
  | [d1, d2] => { results := [.lit (.bool false)], args := [d1, d2] }
  | _ => none }
def FnExactPlainGainWrongFalsely : Prop := fnExactPlainGainRow.holds Try.pinned (OpenSpec.ofChange fnExactPlainGainWrong)

/-- 'laws.FnPrefixes': WHATEVER THE INPUT: true; the input reads as it did. -/
def fnPrefixesSpec : ChangeSpec := { name := "fnPrefixes", fn := fun _ => fun
  | [d] => { results := [.lit (.bool true)], args := [d] }
  | _ => none }
def fnPrefixesRow : OpenClaim := { program := "ytloinhlkkbploaa", sum := "0d090c0ee1f1e2af9ee1c2cca6a7731dcb21d1a581be4bec6acddacafe49f090", func := "loop.example/g00500/laws.FnPrefixes", spec := "fnPrefixes", apart := false }
def FnPrefixesSaid : Prop := fnPrefixesRow.holds Try.pinned (OpenSpec.ofChange fnPrefixesSpec)

/-- ITS FALSE NEIGHBOUR: 'it returns false'. Refute it at one input. -/
def fnPrefixesWrong : ChangeSpec := { name := "fnPrefixes", fn := fun _ => fun
  | [d] => { results := [.lit (.bool false)], args := [d] }
  | _ => none }
def FnPrefixesWrongFalsely : Prop := fnPrefixesRow.holds Try.pinned (OpenSpec.ofChange fnPrefixesWrong)

/-- 'laws.FnExactSubHist': WHATEVER THE INPUT: true; the input reads as it did. -/
def fnExactSubHistSpec : ChangeSpec := { name := "fnExactSubHist", fn := fun _ => fun
  | [d1, d2] => { results := [.lit (.bool true)], args := [d1, d2] }
  | _ => none }
def fnExactSubHistRow : OpenClaim := { program := "ytloinhlkkbploaa", sum := "0d090c0ee1f1e2af9ee1c2cca6a7731dcb21d1a581be4bec6acddacafe49f090", func := "loop.example/g00500/laws.FnExactSubHist", spec := "fnExactSubHist", apart := false }
def FnExactSubHistSaid : Prop := fnExactSubHistRow.holds Try.pinned (OpenSpec.ofChange fnExactSubHistSpec)

/-- ITS FALSE NEIGHBOUR: 'it returns false'. Refute it at one input. -/
def fnExactSubHistWrong : ChangeSpec := { name := "fnExactSubHist", fn := fun _ => fun
  | [d1, d2] => { results := [.lit (.bool false)], args := [d1, d2] }
  | _ => none }
def FnExactSubHistWrongFalsely : Prop := fnExactSubHistRow.holds Try.pinned (OpenSpec.ofChange fnExactSubHistWrong)

/- THE SECOND FORM. 'bulk': how many values and letters a reading holds, each counted each time it is reached (what is shared counts as often as it is met; a slice's spare places count too). A statement '..UptoSaid' is the law's where the arguments, and the package variables that the reading takes, are together of bulk at most 1048576: NARROWER than '..Said'. Prove '..Said' where nothing that the law and all that it calls make is longer than what came in: it says more and counts as full. Else prove '..UptoSaid'. A law counts once. -/
mutual
def uptoBulk {H : Type} : DataW H → Nat
  | .lit (.string bytes) => bytes.length + 1
  | .lit _ => 1
  | .nil => 1
  | .ptr d => uptoBulk d + 1
  | .slice elems spare => uptoBulkAll elems + uptoBulkAll spare + 1
  | .agg parts => uptoBulkAll parts + 1
  | .iface _ d => uptoBulk d + 1
  | .map entries => uptoBulkEntries entries + 1
  | .held _ => 1
def uptoBulkAll {H : Type} : List (DataW H) → Nat
  | [] => 0
  | d :: r => uptoBulk d + uptoBulkAll r
def uptoBulkEntries {H : Type} : List (Lit × DataW H) → Nat
  | [] => 0
  | x :: r => uptoBulkEntry x + uptoBulkEntries r
def uptoBulkEntry {H : Type} : Lit × DataW H → Nat
  | (.string bytes, d) => bytes.length + uptoBulk d + 1
  | (_, d) => uptoBulk d + 1
 end
def uptoSmall : (H : Type) → List (DataW H) → Bool := fun _ ds => decide (uptoBulkAll ds ≤ 1048576)
def OpenSpec.upto (s : _root_.Go.ChangeSpec) : _root_.Go.OpenSpec := { _root_.Go.OpenSpec.ofChange s with cond := some uptoSmall }

/-- 'laws.FnExactBothOf', WHERE WHAT IT READS IS OF BULK AT MOST 1048576: true; the input reads as it did. -/
def fnExactBothOfUptoRow : OpenClaim := { program := "ytloinhlkkbploaa", sum := "0d090c0ee1f1e2af9ee1c2cca6a7731dcb21d1a581be4bec6acddacafe49f090", func := "loop.example/g00500/laws.FnExactBothOf", spec := "fnExactBothOf", apart := false, narrowed := true }
def FnExactBothOfUptoSaid : Prop := fnExactBothOfUptoRow.holds Try.pinned (OpenSpec.upto fnExactBothOfSpec)

/-- 'laws.FnAgrees', WHERE WHAT IT READS IS OF BULK AT MOST 1048576: true; the input reads as it did. -/
def fnAgreesUptoRow : OpenClaim := { program := "ytloinhlkkbploaa", sum := "0d090c0ee1f1e2af9ee1c2cca6a7731dcb21d1a581be4bec6acddacafe49f090", func := "loop.example/g00500/laws.FnAgrees", spec := "fnAgrees", apart := false, narrowed := true }
def FnAgreesUptoSaid : Prop := fnAgreesUptoRow.holds Try.pinned (OpenSpec.upto fnAgreesSpec)

/-- 'laws.FnExactSameHist', WHERE WHAT IT READS IS OF BULK AT MOST 1048576: true; the input reads as it did. -/
def fnExactSameHistUptoRow : OpenClaim := { program := "ytloinhlkkbploaa", sum := "0d090c0ee1f1e2af9ee1c2cca6a7731dcb21d1a581be4bec6acddacafe49f090", func := "loop.example/g00500/laws.FnExactSameHist", spec := "fnExactSameHist", apart := false, narrowed := true }
def FnExactSameHistUptoSaid : Prop := fnExactSameHistUptoRow.holds Try.pinned (OpenSpec.upto fnExactSameHistSpec)

/-- 'laws.FnExactSplitRows', WHERE WHAT IT READS IS OF BULK AT MOST 1048576: true; the input reads as it did. -/
def fnExactSplitRowsUptoRow : OpenClaim := { program := "ytloinhlkkbploaa", sum := "0d090c0ee1f1e2af9ee1c2cca6a7731dcb21d1a581be4bec6acddacafe49f090", func := "loop.example/g00500/laws.FnExactSplitRows", spec := "fnExactSplitRows", apart := false, narrowed := true }
def FnExactSplitRowsUptoSaid : Prop := fnExactSplitRowsUptoRow.holds Try.pinned (OpenSpec.upto fnExactSplitRowsSpec)

/-- 'laws.FnExactSidesOf', WHERE WHAT IT READS IS OF BULK AT MOST 1048576: true; the input reads as it did. -/
def fnExactSidesOfUptoRow : OpenClaim := { program := "ytloinhlkkbploaa", sum := "0d090c0ee1f1e2af9ee1c2cca6a7731dcb21d1a581be4bec6acddacafe49f090", func := "loop.example/g00500/laws.FnExactSidesOf", spec := "fnExactSidesOf", apart := false, narrowed := true }
def FnExactSidesOfUptoSaid : Prop := fnExactSidesOfUptoRow.holds Try.pinned (OpenSpec.upto fnExactSidesOfSpec)

/-- 'laws.FnExactLeafOf', WHERE WHAT IT READS IS OF BULK AT MOST 1048576: true; the input reads as it did. -/
def fnExactLeafOfUptoRow : OpenClaim := { program := "ytloinhlkkbploaa", sum := "0d090c0ee1f1e2af9ee1c2cca6a7731dcb21d1a581be4bec6acddacafe49f090", func := "loop.example/g00500/laws.FnExactLeafOf", spec := "fnExactLeafOf", apart := false, narrowed := true }
def FnExactLeafOfUptoSaid : Prop := fnExactLeafOfUptoRow.holds Try.pinned (OpenSpec.upto fnExactLeafOfSpec)

/-- 'laws.FnExactRowsIn', WHERE WHAT IT READS IS OF BULK AT MOST 1048576: true; the input reads as it did. -/
def fnExactRowsInUptoRow : OpenClaim := { program := "ytloinhlkkbploaa", sum := "0d090c0ee1f1e2af9ee1c2cca6a7731dcb21d1a581be4bec6acddacafe49f090", func := "loop.example/g00500/laws.FnExactRowsIn", spec := "fnExactRowsIn", apart := false, narrowed := true }
def FnExactRowsInUptoSaid : Prop := fnExactRowsInUptoRow.holds Try.pinned (OpenSpec.upto fnExactRowsInSpec)

/-- 'laws.FnBins', WHERE WHAT IT READS IS OF BULK AT MOST 1048576: true; the input reads as it did. -/
def fnBinsUptoRow : OpenClaim := { program := "ytloinhlkkbploaa", sum := "0d090c0ee1f1e2af9ee1c2cca6a7731dcb21d1a581be4bec6acddacafe49f090", func := "loop.example/g00500/laws.FnBins", spec := "fnBins", apart := false, narrowed := true }
def FnBinsUptoSaid : Prop := fnBinsUptoRow.holds Try.pinned (OpenSpec.upto fnBinsSpec)

/-- 'laws.FnExactTotalOf', WHERE WHAT IT READS IS OF BULK AT MOST 1048576: true; the input reads as it did. -/
def fnExactTotalOfUptoRow : OpenClaim := { program := "ytloinhlkkbploaa", sum := "0d090c0ee1f1e2af9ee1c2cca6a7731dcb21d1a581be4bec6acddacafe49f090", func := "loop.example/g00500/laws.FnExactTotalOf", spec := "fnExactTotalOf", apart := false, narrowed := true }
def FnExactTotalOfUptoSaid : Prop := fnExactTotalOfUptoRow.holds Try.pinned (OpenSpec.upto fnExactTotalOfSpec)

/-- 'laws.FnExactPlainGain', WHERE WHAT IT READS IS OF BULK AT MOST 1048576: true; the input reads as it did. -/
def fnExactPlainGainUptoRow : OpenClaim := { program := "ytloinhlkkbploaa", sum := "0d090c0ee1f1e2af9ee1c2cca6a7731dcb21d1a581be4bec6acddacafe49f090", func := "loop.example/g00500/laws.FnExactPlainGain", spec := "fnExactPlainGain", apart := false, narrowed := true }
def FnExactPlainGainUptoSaid : Prop := fnExactPlainGainUptoRow.holds Try.pinned (OpenSpec.upto fnExactPlainGainSpec)

/-- 'laws.FnPrefixes', WHERE WHAT IT READS IS OF BULK AT MOST 1048576: true; the input reads as it did. -/
def fnPrefixesUptoRow : OpenClaim := { program := "ytloinhlkkbploaa", sum := "0d090c0ee1f1e2af9ee1c2cca6a7731dcb21d1a581be4bec6acddacafe49f090", func := "loop.example/g00500/laws.FnPrefixes", spec := "fnPrefixes", apart := false, narrowed := true }
def FnPrefixesUptoSaid : Prop := fnPrefixesUptoRow.holds Try.pinned (OpenSpec.upto fnPrefixesSpec)

/-- 'laws.FnExactSubHist', WHERE WHAT IT READS IS OF BULK AT MOST 1048576: true; the input reads as it did. -/
def fnExactSubHistUptoRow : OpenClaim := { program := "ytloinhlkkbploaa", sum := "0d090c0ee1f1e2af9ee1c2cca6a7731dcb21d1a581be4bec6acddacafe49f090", func := "loop.example/g00500/laws.FnExactSubHist", spec := "fnExactSubHist", apart := false, narrowed := true }
def FnExactSubHistUptoSaid : Prop := fnExactSubHistUptoRow.holds Try.pinned (OpenSpec.upto fnExactSubHistSpec)

end Rows
end Go.Proofs.Ytloinhlkkbploaa
