/-
  No cell of these rows narrows 'for every input' (looked for: loops, veiled, ifaces, maps, wideKeys, modest, calm, conditions, laid).
  DERIVED. THE GIVEN ROWS OF THIS SEAT. 12 by the template 'for every input the law returns true; each argument reads behind the call as it read before'; 0 by the template 'total and deterministic' (their statements: YtpcffnhffboccaaTotals.lean).
  GIVEN WITH THE SEED: the statements are not yours to turn. If you find one false, say at which input.
  Laid BY PROGRAM, IN A SANDBOX (cutbox-rows.mjs): the forced cells as the released guide's own fill.sh prints them over the translation a919c418894afc4d… (all of the seat's roots in one cut). By AI agents, Wed Nov 11 2026. No macro, syntax, notation, axiom, sorry.
-/
import Derived.Test.YtpcffnhffboccaaChecked
import GoSem.Claim
import GoSem.ClaimJoined
import GoSem.ClaimMapViews
import Derived.JoinedTies
import Derived.KernelRfl
namespace Go.Proofs.Ytpcffnhffboccaa
/- THE CELL 'sum', in the pinned program and in every row, IS THE sha256 OF THE DUMP (.gsa) THAT YtpcffnhffboccaaProg.lean LOADS. Nothing in Lean hashes anything: it is a label: what it is worth is what the hold of that sum in a sandbox is worth. -/
noncomputable def Try.pinned : Pinned := { name := "ytpcffnhffboccaa", sum := "a919c418894afc4d54d24e6743e3a61cb0f95beed4fb5c67d05188d5ea7b17de", checked := Try.checked }
namespace Rows
def none {H : Type} : Left H := { results := [], args := [] }

/-- 'laws.FnHist': WHATEVER THE INPUT: true; the input reads as it did. -/
def fnHistSpec : ChangeSpec := { name := "fnHist", fn := fun _ => fun
  | [d] => { results := [.lit (.bool true)], args := [d] }
  | _ => none }
def fnHistRow : OpenClaim := { program := "ytpcffnhffboccaa", sum := "a919c418894afc4d54d24e6743e3a61cb0f95beed4fb5c67d05188d5ea7b17de", func := "loop.example/g00500/laws.FnHist", spec := "fnHist", apart := false }
def FnHistSaid : Prop := fnHistRow.holds Try.pinned (OpenSpec.ofChange fnHistSpec)

/-- ITS FALSE NEIGHBOUR: 'it returns false'. Refute it at one input. -/
def fnHistWrong : ChangeSpec := { name := "fnHist", fn := fun _ => fun
  | [d] => { results := [.lit (.bool false)], args := [d] }
  | _ => none }
def FnHistWrongFalsely : Prop := fnHistRow.holds Try.pinned (OpenSpec.ofChange fnHistWrong)

/-- 'laws.FnCands': WHATEVER THE INPUT: true; the input reads as it did. -/
def fnCandsSpec : ChangeSpec := { name := "fnCands", fn := fun _ => fun
  | [d] => { results := [.lit (.bool true)], args := [d] }
  | _ => none }
def fnCandsRow : OpenClaim := { program := "ytpcffnhffboccaa", sum := "a919c418894afc4d54d24e6743e3a61cb0f95beed4fb5c67d05188d5ea7b17de", func := "loop.example/g00500/laws.FnCands", spec := "fnCands", apart := false }
def FnCandsSaid : Prop := fnCandsRow.holds Try.pinned (OpenSpec.ofChange fnCandsSpec)

/-- ITS FALSE NEIGHBOUR: 'it returns false'. Refute it at one input. -/
def fnCandsWrong : ChangeSpec := { name := "fnCands", fn := fun _ => fun
  | [d] => { results := [.lit (.bool false)], args := [d] }
  | _ => none }
def FnCandsWrongFalsely : Prop := fnCandsRow.holds Try.pinned (OpenSpec.ofChange fnCandsWrong)

/-- 'laws.FnExactTableOk': WHATEVER THE INPUT: true; the input reads as it did. -/
def fnExactTableOkSpec : ChangeSpec := { name := "fnExactTableOk", fn := fun _ => fun
  | [d] => { results := [.lit (.bool true)], args := [d] }
  | _ => none }
def fnExactTableOkRow : OpenClaim := { program := "ytpcffnhffboccaa", sum := "a919c418894afc4d54d24e6743e3a61cb0f95beed4fb5c67d05188d5ea7b17de", func := "loop.example/g00500/laws.FnExactTableOk", spec := "fnExactTableOk", unfollowed := true, recurses := true, apart := false }
def FnExactTableOkSaid : Prop := fnExactTableOkRow.holds Try.pinned (OpenSpec.ofChange fnExactTableOkSpec)

/-- ITS FALSE NEIGHBOUR: 'it returns false'. Refute it at one input. -/
def fnExactTableOkWrong : ChangeSpec := { name := "fnExactTableOk", fn := fun _ => fun
  | [d] => { results := [.lit (.bool false)], args := [d] }
  | _ => none }
def FnExactTableOkWrongFalsely : Prop := fnExactTableOkRow.holds Try.pinned (OpenSpec.ofChange fnExactTableOkWrong)

/-- 'laws.FnExactCandsOf': WHATEVER THE INPUT: true; the input reads as it did. -/
def fnExactCandsOfSpec : ChangeSpec := { name := "fnExactCandsOf", fn := fun _ => fun
  | [d1, d2] => { results := [.lit (.bool true)], args := [d1, d2] }
  | _ => none }
def fnExactCandsOfRow : OpenClaim := { program := "ytpcffnhffboccaa", sum := "a919c418894afc4d54d24e6743e3a61cb0f95beed4fb5c67d05188d5ea7b17de", func := "loop.example/g00500/laws.FnExactCandsOf", spec := "fnExactCandsOf", apart := false }
def FnExactCandsOfSaid : Prop := fnExactCandsOfRow.holds Try.pinned (OpenSpec.ofChange fnExactCandsOfSpec)

/-- ITS FALSE NEIGHBOUR: 'it returns false'. Refute it at one input. -/
def fnExactCandsOfWrong : ChangeSpec := { name := "fnExactCandsOf", fn := fun _ => fun
  | [d1, d2] => { results := [.lit (.bool false)], args := [d1, d2] }
  | _ => none }
def FnExactCandsOfWrongFalsely : Prop := fnExactCandsOfRow.holds Try.pinned (OpenSpec.ofChange fnExactCandsOfWrong)

/-- 'laws.FnExactGainOf': WHATEVER THE INPUT: true; the input reads as it did. -/
def fnExactGainOfSpec : ChangeSpec := { name := "fnExactGainOf", fn := fun _ => fun
  | [d1, d2] => { results := [.lit (.bool true)], args := [d1, d2] }
  | _ => none }
def fnExactGainOfRow : OpenClaim := { program := "ytpcffnhffboccaa", sum := "a919c418894afc4d54d24e6743e3a61cb0f95beed4fb5c67d05188d5ea7b17de", func := "loop.example/g00500/laws.FnExactGainOf", spec := "fnExactGainOf", inPlace := ["math/bits.Add64", "math/bits.Sub64"], apart := false }
def FnExactGainOfSaid : Prop := fnExactGainOfRow.holds Try.pinned (OpenSpec.ofChange fnExactGainOfSpec)

/-- ITS FALSE NEIGHBOUR: 'it returns false'. Refute it at one input. -/
def fnExactGainOfWrong : ChangeSpec := { name := "fnExactGainOf", fn := fun _ => fun
  | [d1, d2] => { results := [.lit (.bool false)], args := [d1, d2] }
  | _ => none }
def FnExactGainOfWrongFalsely : Prop := fnExactGainOfRow.holds Try.pinned (OpenSpec.ofChange fnExactGainOfWrong)

/-- 'laws.FnGain': WHATEVER THE INPUT: true; the input reads as it did. -/
def fnGainSpec : ChangeSpec := { name := "fnGain", fn := fun _ => fun
  | [d] => { results := [.lit (.bool true)], args := [d] }
  | _ => none }
def fnGainRow : OpenClaim := { program := "ytpcffnhffboccaa", sum := "a919c418894afc4d54d24e6743e3a61cb0f95beed4fb5c67d05188d5ea7b17de", func := "loop.example/g00500/laws.FnGain", spec := "fnGain", inPlace := ["math/bits.Add64", "math/bits.Sub64"], apart := false }
def FnGainSaid : Prop := fnGainRow.holds Try.pinned (OpenSpec.ofChange fnGainSpec)

/-- ITS FALSE NEIGHBOUR: 'it returns false'. Refute it at one input. -/
def fnGainWrong : ChangeSpec := { name := "fnGain", fn := fun _ => fun
  | [d] => { results := [.lit (.bool false)], args := [d] }
  | _ => none }
def FnGainWrongFalsely : Prop := fnGainRow.holds Try.pinned (OpenSpec.ofChange fnGainWrong)

/-- 'laws.FnExactBetter': WHATEVER THE INPUT: true; the input reads as it did. -/
def fnExactBetterSpec : ChangeSpec := { name := "fnExactBetter", fn := fun _ => fun
  | [d1, d2, d3] => { results := [.lit (.bool true)], args := [d1, d2, d3] }
  | _ => none }
def fnExactBetterRow : OpenClaim := { program := "ytpcffnhffboccaa", sum := "a919c418894afc4d54d24e6743e3a61cb0f95beed4fb5c67d05188d5ea7b17de", func := "loop.example/g00500/laws.FnExactBetter", spec := "fnExactBetter", inPlace := ["math/bits.Add64", "math/bits.Sub64"], apart := false }
def FnExactBetterSaid : Prop := fnExactBetterRow.holds Try.pinned (OpenSpec.ofChange fnExactBetterSpec)

/-- ITS FALSE NEIGHBOUR: 'it returns false'. Refute it at one input. -/
def fnExactBetterWrong : ChangeSpec := { name := "fnExactBetter", fn := fun _ => fun
  | [d1, d2, d3] => { results := [.lit (.bool false)], args := [d1, d2, d3] }
  | _ => none }
def FnExactBetterWrongFalsely : Prop := fnExactBetterRow.holds Try.pinned (OpenSpec.ofChange fnExactBetterWrong)

/-- 'laws.FnExactImproves': WHATEVER THE INPUT: true; the input reads as it did. -/
def fnExactImprovesSpec : ChangeSpec := { name := "fnExactImproves", fn := fun _ => fun
  | [d1, d2] => { results := [.lit (.bool true)], args := [d1, d2] }
  | _ => none }
def fnExactImprovesRow : OpenClaim := { program := "ytpcffnhffboccaa", sum := "a919c418894afc4d54d24e6743e3a61cb0f95beed4fb5c67d05188d5ea7b17de", func := "loop.example/g00500/laws.FnExactImproves", spec := "fnExactImproves", inPlace := ["math/bits.Add64", "math/bits.Sub64"], apart := false }
def FnExactImprovesSaid : Prop := fnExactImprovesRow.holds Try.pinned (OpenSpec.ofChange fnExactImprovesSpec)

/-- ITS FALSE NEIGHBOUR: 'it returns false'. Refute it at one input. -/
def fnExactImprovesWrong : ChangeSpec := { name := "fnExactImproves", fn := fun _ => fun
  | [d1, d2] => { results := [.lit (.bool false)], args := [d1, d2] }
  | _ => none }
def FnExactImprovesWrongFalsely : Prop := fnExactImprovesRow.holds Try.pinned (OpenSpec.ofChange fnExactImprovesWrong)

/-- 'laws.FnExactSortInts': WHATEVER THE INPUT: true; the input reads as it did. -/
def fnExactSortIntsSpec : ChangeSpec := { name := "fnExactSortInts", fn := fun _ => fun
  | [d] => { results := [.lit (.bool true)], args := [d] }
  | _ => none }
def fnExactSortIntsRow : OpenClaim := { program := "ytpcffnhffboccaa", sum := "a919c418894afc4d54d24e6743e3a61cb0f95beed4fb5c67d05188d5ea7b17de", func := "loop.example/g00500/laws.FnExactSortInts", spec := "fnExactSortInts", recurses := true, apart := false }
def FnExactSortIntsSaid : Prop := fnExactSortIntsRow.holds Try.pinned (OpenSpec.ofChange fnExactSortIntsSpec)

/-- ITS FALSE NEIGHBOUR: 'it returns false'. Refute it at one input. -/
def fnExactSortIntsWrong : ChangeSpec := { name := "fnExactSortInts", fn := fun _ => fun
  | [d] => { results := [.lit (.bool false)], args := [d] }
  | _ => none }
def FnExactSortIntsWrongFalsely : Prop := fnExactSortIntsRow.holds Try.pinned (OpenSpec.ofChange fnExactSortIntsWrong)

/-- 'laws.FnExactMergedRows': WHATEVER THE INPUT: true; the input reads as it did. -/
def fnExactMergedRowsSpec : ChangeSpec := { name := "fnExactMergedRows", fn := fun _ => fun
  | [d1, d2] => { results := [.lit (.bool true)], args := [d1, d2] }
  | _ => none }
def fnExactMergedRowsRow : OpenClaim := { program := "ytpcffnhffboccaa", sum := "a919c418894afc4d54d24e6743e3a61cb0f95beed4fb5c67d05188d5ea7b17de", func := "loop.example/g00500/laws.FnExactMergedRows", spec := "fnExactMergedRows", recurses := true, apart := false }
def FnExactMergedRowsSaid : Prop := fnExactMergedRowsRow.holds Try.pinned (OpenSpec.ofChange fnExactMergedRowsSpec)

/-- ITS FALSE NEIGHBOUR: 'it returns false'. Refute it at one input. -/
def fnExactMergedRowsWrong : ChangeSpec := { name := "fnExactMergedRows", fn := fun _ => fun
  | [d1, d2] => { results := [.lit (.bool false)], args := [d1, d2] }
  | _ => none }
def FnExactMergedRowsWrongFalsely : Prop := fnExactMergedRowsRow.holds Try.pinned (OpenSpec.ofChange fnExactMergedRowsWrong)

/-- 'laws.FnExactDistinct': WHATEVER THE INPUT: true; the input reads as it did. -/
def fnExactDistinctSpec : ChangeSpec := { name := "fnExactDistinct", fn := fun _ => fun
  | [d] => { results := [.lit (.bool true)], args := [d] }
  | _ => none }
def fnExactDistinctRow : OpenClaim := { program := "ytpcffnhffboccaa", sum := "a919c418894afc4d54d24e6743e3a61cb0f95beed4fb5c67d05188d5ea7b17de", func := "loop.example/g00500/laws.FnExactDistinct", spec := "fnExactDistinct", recurses := true, apart := false }
def FnExactDistinctSaid : Prop := fnExactDistinctRow.holds Try.pinned (OpenSpec.ofChange fnExactDistinctSpec)

/-- ITS FALSE NEIGHBOUR: 'it returns false'. Refute it at one input. -/
def fnExactDistinctWrong : ChangeSpec := { name := "fnExactDistinct", fn := fun _ => fun
  | [d] => { results := [.lit (.bool false)], args := [d] }
  | _ => none }
def FnExactDistinctWrongFalsely : Prop := fnExactDistinctRow.holds Try.pinned (OpenSpec.ofChange fnExactDistinctWrong)

/-- 'laws.FnImproves': WHATEVER THE INPUT: true; the input reads as it did. -/
def fnImprovesSpec : ChangeSpec := { name := "fnImproves", fn := fun _ => fun
  | [d] => { results := [.lit (.bool true)], args := [d] }
  | _ => none }
def fnImprovesRow : OpenClaim := { program := "ytpcffnhffboccaa", sum := "a919c418894afc4d54d24e6743e3a61cb0f95beed4fb5c67d05188d5ea7b17de", func := "loop.example/g00500/laws.FnImproves", spec := "fnImproves", inPlace := ["math/bits.Add64", "math/bits.Sub64"], apart := false }
def FnImprovesSaid : Prop := fnImprovesRow.holds Try.pinned (OpenSpec.ofChange fnImprovesSpec)

/-- ITS FALSE NEIGHBOUR: 'it returns false'. Refute it at one input. -/
def fnImprovesWrong : ChangeSpec := { name := "fnImproves", fn := fun _ => fun
  | [d] => { results := [.lit (.bool false)], args := [d] }
  | _ => none }
def FnImprovesWrongFalsely : Prop := fnImprovesRow.holds Try.pinned (OpenSpec.ofChange fnImprovesWrong)

/- THE SECOND FORM. 'bulk': how many values and letters a reading holds, each counted each time it is reached (what is shared counts as often as it is met; a slice's spare places count too). A statement '..UptoSaid' is the law's where the arguments, and the package variables that the reading takes, are together of bulk at most 1048576: NARROWER than '..Said'. Prove '..Said' where nothing that the law and all that it calls make is longer than what came in: it says more and counts as full. Else prove '..UptoSaid'. A law counts once. -/
mutual
def uptoBulk {H : Type} : DataW H → Nat
  | .lit (.string bytes) => bytes.length + 1
  | .lit _ => 1
  | .nil => 1
  | .ptr d => uptoBulk d + 1
  | .slice elems spare => uptoBulkAll elems + uptoBulkAll spare + 1
  | .agg parts => uptoBulkAll parts + 1
  | .iface _ d => uptoBulk d + 1
  | .map entries => uptoBulkEntries entries + 1
  | .held _ => 1
def uptoBulkAll {H : Type} : List (DataW H) → Nat
  | [] => 0
  | d :: r => uptoBulk d + uptoBulkAll r
def uptoBulkEntries {H : Type} : List (Lit × DataW H) → Nat
  | [] => 0
  | x :: r => uptoBulkEntry x + uptoBulkEntries r
def uptoBulkEntry {H : Type} : Lit × DataW H → Nat
  | (.string bytes, d) => bytes.length + uptoBulk d + 1
  | (_, d) => uptoBulk d + 1
 end
def uptoSmall : (H : Type) → List (DataW H) → Bool := fun _ ds => decide (uptoBulkAll ds ≤ 1048576)
def OpenSpec.upto (s : _root_.Go.ChangeSpec) : _root_.Go.OpenSpec := { _root_.Go.OpenSpec.ofChange s with cond := some uptoSmall }

/-- 'laws.FnHist', WHERE WHAT IT READS IS OF BULK AT MOST 1048576: true; the input reads as it did. -/
def fnHistUptoRow : OpenClaim := { program := "ytpcffnhffboccaa", sum := "a919c418894afc4d54d24e6743e3a61cb0f95beed4fb5c67d05188d5ea7b17de", func := "loop.example/g00500/laws.FnHist", spec := "fnHist", apart := false, narrowed := true }
def FnHistUptoSaid : Prop := fnHistUptoRow.holds Try.pinned (OpenSpec.upto fnHistSpec)

/-- 'laws.FnCands', WHERE WHAT IT READS IS OF BULK AT MOST 1048576: true; the input reads as it did. -/
def fnCandsUptoRow : OpenClaim := { program := "ytpcffnhffboccaa", sum := "a919c418894afc4d54d24e6743e3a61cb0f95beed4fb5c67d05188d5ea7b17de", func := "loop.example/g00500/laws.FnCands", spec := "fnCands", apart := false, narrowed := true }
def FnCandsUptoSaid : Prop := fnCandsUptoRow.holds Try.pinned (OpenSpec.upto fnCandsSpec)

/-- 'laws.FnExactTableOk', WHERE WHAT IT READS IS OF BULK AT MOST 1048576: true; the input reads as it did. -/
def fnExactTableOkUptoRow : OpenClaim := { program := "ytpcffnhffboccaa", sum := "a919c418894afc4d54d24e6743e3a61cb0f95beed4fb5c67d05188d5ea7b17de", func := "loop.example/g00500/laws.FnExactTableOk", spec := "fnExactTableOk", unfollowed := true, recurses := true, apart := false, narrowed := true }
def FnExactTableOkUptoSaid : Prop := fnExactTableOkUptoRow.holds Try.pinned (OpenSpec.upto fnExactTableOkSpec)

/-- 'laws.FnExactCandsOf', WHERE WHAT IT READS IS OF BULK AT MOST 1048576: true; the input reads as it did. -/
def fnExactCandsOfUptoRow : OpenClaim := { program := "ytpcffnhffboccaa", sum := "a919c418894afc4d54d24e6743e3a61cb0f95beed4fb5c67d05188d5ea7b17de", func := "loop.example/g00500/laws.FnExactCandsOf", spec := "fnExactCandsOf", apart := false, narrowed := true }
def FnExactCandsOfUptoSaid : Prop := fnExactCandsOfUptoRow.holds Try.pinned (OpenSpec.upto fnExactCandsOfSpec)

/-- 'laws.FnExactGainOf', WHERE WHAT IT READS IS OF BULK AT MOST 1048576: true; the input reads as it did. -/
def fnExactGainOfUptoRow : OpenClaim := { program := "ytpcffnhffboccaa", sum := "a919c418894afc4d54d24e6743e3a61cb0f95beed4fb5c67d05188d5ea7b17de", func := "loop.example/g00500/laws.FnExactGainOf", spec := "fnExactGainOf", inPlace := ["math/bits.Add64", "math/bits.Sub64"], apart := false, narrowed := true }
def FnExactGainOfUptoSaid : Prop := fnExactGainOfUptoRow.holds Try.pinned (OpenSpec.upto fnExactGainOfSpec)

/-- 'laws.FnGain', WHERE WHAT IT READS IS OF BULK AT MOST 1048576: true; the input reads as it did. -/
def fnGainUptoRow : OpenClaim := { program := "ytpcffnhffboccaa", sum := "a919c418894afc4d54d24e6743e3a61cb0f95beed4fb5c67d05188d5ea7b17de", func := "loop.example/g00500/laws.FnGain", spec := "fnGain", inPlace := ["math/bits.Add64", "math/bits.Sub64"], apart := false, narrowed := true }
def FnGainUptoSaid : Prop := fnGainUptoRow.holds Try.pinned (OpenSpec.upto fnGainSpec)

/-- 'laws.FnExactBetter', WHERE WHAT IT READS IS OF BULK AT MOST 1048576: true; the input reads as it did. -/
def fnExactBetterUptoRow : OpenClaim := { program := "ytpcffnhffboccaa", sum := "a919c418894afc4d54d24e6743e3a61cb0f95beed4fb5c67d05188d5ea7b17de", func := "loop.example/g00500/laws.FnExactBetter", spec := "fnExactBetter", inPlace := ["math/bits.Add64", "math/bits.Sub64"], apart := false, narrowed := true }
def FnExactBetterUptoSaid : Prop := fnExactBetterUptoRow.holds Try.pinned (OpenSpec.upto fnExactBetterSpec)

/-- 'laws.FnExactImproves', WHERE WHAT IT READS IS OF BULK AT MOST 1048576: true; the input reads as it did. -/
def fnExactImprovesUptoRow : OpenClaim := { program := "ytpcffnhffboccaa", sum := "a919c418894afc4d54d24e6743e3a61cb0f95beed4fb5c67d05188d5ea7b17de", func := "loop.example/g00500/laws.FnExactImproves", spec := "fnExactImproves", inPlace := ["math/bits.Add64", "math/bits.Sub64"], apart := false, narrowed := true }
def FnExactImprovesUptoSaid : Prop := fnExactImprovesUptoRow.holds Try.pinned (OpenSpec.upto fnExactImprovesSpec)

/-- 'laws.FnExactSortInts', WHERE WHAT IT READS IS OF BULK AT MOST 1048576: true; the input reads as it did. -/
def fnExactSortIntsUptoRow : OpenClaim := { program := "ytpcffnhffboccaa", sum := "a919c418894afc4d54d24e6743e3a61cb0f95beed4fb5c67d05188d5ea7b17de", func := "loop.example/g00500/laws.FnExactSortInts", spec := "fnExactSortInts", recurses := true, apart := false, narrowed := true }
def FnExactSortIntsUptoSaid : Prop := fnExactSortIntsUptoRow.holds Try.pinned (OpenSpec.upto fnExactSortIntsSpec)

/-- 'laws.FnExactMergedRows', WHERE WHAT IT READS IS OF BULK AT MOST 1048576: true; the input reads as it did. -/
def fnExactMergedRowsUptoRow : OpenClaim := { program := "ytpcffnhffboccaa", sum := "a919c418894afc4d54d24e6743e3a61cb0f95beed4fb5c67d05188d5ea7b17de", func := "loop.example/g00500/laws.FnExactMergedRows", spec := "fnExactMergedRows", recurses := true, apart := false, narrowed := true }
def FnExactMergedRowsUptoSaid : Prop := fnExactMergedRowsUptoRow.holds Try.pinned (OpenSpec.upto fnExactMergedRowsSpec)

/-- 'laws.FnExactDistinct', WHERE WHAT IT READS IS OF BULK AT MOST 1048576: true; the input reads as it did. -/
def fnExactDistinctUptoRow : OpenClaim := { program := "ytpcffnhffboccaa", sum := "a919c418894afc4d54d24e6743e3a61cb0f95beed4fb5c67d05188d5ea7b17de", func := "loop.example/g00500/laws.FnExactDistinct", spec := "fnExactDistinct", recurses := true, apart := false, narrowed := true }
def FnExactDistinctUptoSaid : Prop := fnExactDistinctUptoRow.holds Try.pinned (OpenSpec.upto fnExactDistinctSpec)

/-- 'laws.FnImproves', WHERE WHAT IT READS IS OF BULK AT MOST 1048576: true; the input reads as it did. -/
def fnImprovesUptoRow : OpenClaim := { program := "ytpcffnhffboccaa", sum := "a919c418894afc4d54d24e6743e3a61cb0f95beed4fb5c67d05188d5ea7b17de", func := "loop.example/g00500/laws.FnImproves", spec := "fnImproves", inPlace := ["math/bits.Add64", "math/bits.Sub64"], apart := false, narrowed := true }
def FnImprovesUptoSaid : Prop := fnImprovesUptoRow.holds Try.pinned (OpenSpec.upto fnImprovesSpec)

end Rows
end Go.Proofs.Ytpcffnhffboccaa
