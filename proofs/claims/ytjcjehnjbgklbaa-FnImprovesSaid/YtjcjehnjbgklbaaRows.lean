/-
  No cell of these rows narrows 'for every input' (looked for: loops, veiled, ifaces, maps, wideKeys, modest, calm, conditions, laid).
  DERIVED. THE GIVEN ROWS OF THIS SEAT. 6 by the template 'for every input the law returns true; each argument reads behind the call as it read before'; 0 by the template 'total and deterministic' (their statements: YtjcjehnjbgklbaaTotals.lean).
  GIVEN WITH THE SEED: the statements are not yours to turn. If you find one false, say at which input.
  Laid BY PROGRAM, IN A SANDBOX (cutbox-rows.mjs): the forced cells as the released guide's own fill.sh prints them over the translation d640d5a39213651d… (all of the seat's roots in one cut). By AI agents, Wed Nov 11 2026. No macro, syntax, notation, axiom, sorry.
-/
import Derived.Test.YtjcjehnjbgklbaaChecked
import GoSem.Claim
import GoSem.ClaimJoined
import GoSem.ClaimMapViews
import Derived.JoinedTies
import Derived.KernelRfl
namespace Go.Proofs.Ytjcjehnjbgklbaa
/- THE CELL 'sum', in the pinned program and in every row, IS THE sha256 OF THE DUMP (.gsa) THAT YtjcjehnjbgklbaaProg.lean LOADS. Nothing in Lean hashes anything: it is a label: what it is worth is what the hold of that sum in a sandbox is worth. -/
noncomputable def Try.pinned : Pinned := { name := "ytjcjehnjbgklbaa", sum := "d640d5a39213651d8f95494a8fafec809b56e5797f0c6b8bc47cec59980bd8fb", checked := Try.checked }
namespace Rows
def none {H : Type} : Left H := { results := [], args := [] }

/-- 'laws.FnExactGainOf': WHATEVER THE INPUT: true; the input reads as it did. -/
def fnExactGainOfSpec : ChangeSpec := { name := "fnExactGainOf", fn := fun _ => fun
  | [d1, d2] => { results := [.lit (.bool true)], args := [d1, d2] }
  | _ => none }
def fnExactGainOfRow : OpenClaim := { program := "ytjcjehnjbgklbaa", sum := "d640d5a39213651d8f95494a8fafec809b56e5797f0c6b8bc47cec59980bd8fb", func := "loop.example/g00500/laws.FnExactGainOf", spec := "fnExactGainOf", inPlace := ["math/bits.Add64", "math/bits.Sub64"], apart := false }
def FnExactGainOfSaid : Prop := fnExactGainOfRow.holds Try.pinned (OpenSpec.ofChange fnExactGainOfSpec)

/-- ITS FALSE NEIGHBOUR: 'it returns false'. Refute it at one input. -/
def fnExactGainOfWrong : ChangeSpec := { name := "fnExactGainOf", fn := fun _ => fun
  | [d1, d2] => { results := [.lit (.bool false)], args := [d1, d2] }
  | _ => none }
def FnExactGainOfWrongFalsely : Prop := fnExactGainOfRow.holds Try.pinned (OpenSpec.ofChange fnExactGainOfWrong)

/-- 'laws.FnGain': WHATEVER THE INPUT: true; the input reads as it did. -/
def fnGainSpec : ChangeSpec := { name := "fnGain", fn := fun _ => fun
  | [d] => { results := [.lit (.bool true)], args := [d] }
  | _ => none }
def fnGainRow : OpenClaim := { program := "ytjcjehnjbgklbaa", sum := "d640d5a39213651d8f95494a8fafec809b56e5797f0c6b8bc47cec59980bd8fb", func := "loop.example/g00500/laws.FnGain", spec := "fnGain", inPlace := ["math/bits.Add64", "math/bits.Sub64"], apart := false }
def FnGainSaid : Prop := fnGainRow.holds Try.pinned (OpenSpec.ofChange fnGainSpec)

/-- ITS FALSE NEIGHBOUR: 'it returns false'. Refute it at one input. -/
def fnGainWrong : ChangeSpec := { name := "fnGain", fn := fun _ => fun
  | [d] => { results := [.lit (.bool false)], args := [d] }
  | _ => none }
def FnGainWrongFalsely : Prop := fnGainRow.holds Try.pinned (OpenSpec.ofChange fnGainWrong)

/-- 'laws.FnExactBetter': WHATEVER THE INPUT: true; the input reads as it did. -/
def fnExactBetterSpec : ChangeSpec := { name := "fnExactBetter", fn := fun _ => fun
  | [d1, d2, d3] => { results := [.lit (.bool true)], args := [d1, d2, d3] }
  | _ => none }
def fnExactBetterRow : OpenClaim := { program := "ytjcjehnjbgklbaa", sum := "d640d5a39213651d8f95494a8fafec809b56e5797f0c6b8bc47cec59980bd8fb", func := "loop.example/g00500/laws.FnExactBetter", spec := "fnExactBetter", inPlace := ["math/bits.Add64", "math/bits.Sub64"], apart := false }
def FnExactBetterSaid : Prop := fnExactBetterRow.holds Try.pinned (OpenSpec.ofChange fnExactBetterSpec)

/-- ITS FALSE NEIGHBOUR: 'it returns false'. Refute it at one input. -/
def fnExactBetterWrong : ChangeSpec := { name := "fnExactBetter", fn := fun _ => fun
  | [d1, d2, d3] => { results := [.lit (.bool false)], args := [d1, d2, d3] }
  | _ => none }
def FnExactBetterWrongFalsely : Prop := fnExactBetterRow.holds Try.pinned (OpenSpec.ofChange fnExactBetterWrong)

/-- 'laws.FnExactImproves': WHATEVER THE INPUT: true; the input reads as it did. -/
def fnExactImprovesSpec : ChangeSpec := { name := "fnExactImproves", fn := fun _ => fun
  | [d1, d2] => { results := [.lit (.bool true)], args := [d1, d2] }
  | _ => none }
def fnExactImprovesRow : OpenClaim := { program := "ytjcjehnjbgklbaa", sum := "d640d5a39213651d8f95494a8fafec809b56e5797f0c6b8bc47cec59980bd8fb", func := "loop.example/g00500/laws.FnExactImproves", spec := "fnExactImproves", inPlace := ["math/bits.Add64", "math/bits.Sub64"], apart := false }
def FnExactImprovesSaid : Prop := fnExactImprovesRow.holds Try.pinned (OpenSpec.ofChange fnExactImprovesSpec)

/-- ITS FALSE NEIGHBOUR: 'it returns false'. Refute it at one input. -/
def fnExactImprovesWrong : ChangeSpec := { name := "fnExactImproves", fn := fun _ => fun
  | [d1, d2] => { results := [.lit (.bool false)], args := [d1, d2] }
  | _ => none }
def FnExactImprovesWrongFalsely : Prop := fnExactImprovesRow.holds Try.pinned (OpenSpec.ofChange fnExactImprovesWrong)

/-- 'laws.FnImproves': WHATEVER THE INPUT: true; the input reads as it did. -/
def fnImprovesSpec : ChangeSpec := { name := "fnImproves", fn := fun _ => fun
  | [d] => { results := [.lit (.bool true)], args := [d] }
  | _ => none }
def fnImprovesRow : OpenClaim := { program := "ytjcjehnjbgklbaa", sum := "d640d5a39213651d8f95494a8fafec809b56e5797f0c6b8bc47cec59980bd8fb", func := "loop.example/g00500/laws.FnImproves", spec := "fnImproves", inPlace := ["math/bits.Add64", "math/bits.Sub64"], apart := false }
def FnImprovesSaid : Prop := fnImprovesRow.holds Try.pinned (OpenSpec.ofChange fnImprovesSpec)

/-- ITS FALSE NEIGHBOUR: 'it returns false'. Refute it at one input. -/
def fnImprovesWrong : ChangeSpec := { name := "fnImproves", fn := fun _ => fun
  | [d] => { results := [.lit (.bool false)], args := [d] }
  | _ => none }
def FnImprovesWrongFalsely : Prop := fnImprovesRow.holds Try.pinned (OpenSpec.ofChange fnImprovesWrong)

/-- 'laws.FnBetter': WHATEVER THE INPUT: true; the input reads as it did. -/
def fnBetterSpec : ChangeSpec := { name := "fnBetter", fn := fun _ => fun
  | [d] => { results := [.lit (.bool true)], args := [d] }
  | _ => none }
def fnBetterRow : OpenClaim := { program := "ytjcjehnjbgklbaa", sum := "d640d5a39213651d8f95494a8fafec809b56e5797f0c6b8bc47cec59980bd8fb", func := "loop.example/g00500/laws.FnBetter", spec := "fnBetter", inPlace := ["math/bits.Add64", "math/bits.Sub64"], apart := false }
def FnBetterSaid : Prop := fnBetterRow.holds Try.pinned (OpenSpec.ofChange fnBetterSpec)

/-- ITS FALSE NEIGHBOUR: 'it returns false'. Refute it at one input. -/
def fnBetterWrong : ChangeSpec := { name := "fnBetter", fn := fun _ => fun
  | [d] => { results := [.lit (.bool false)], args := [d] }
  | _ => none }
def FnBetterWrongFalsely : Prop := fnBetterRow.holds Try.pinned (OpenSpec.ofChange fnBetterWrong)

/- THE SECOND FORM. 'bulk': how many values and letters a reading holds, each counted each time it is reached (what is shared counts as often as it is met; a slice's spare places count too). A statement '..UptoSaid' is the law's where the arguments, and the package variables that the reading takes, are together of bulk at most 1048576: NARROWER than '..Said'. Prove '..Said' where nothing that the law and all that it calls make is longer than what came in: it says more and counts as full. Else prove '..UptoSaid'. A law counts once. -/
mutual
def uptoBulk {H : Type} : DataW H → Nat
  | .lit (.string bytes) => bytes.length + 1
  | .lit _ => 1
  | .nil => 1
  | .ptr d => uptoBulk d + 1
  | .slice elems spare => uptoBulkAll elems + uptoBulkAll spare + 1
  | .agg parts => uptoBulkAll parts + 1
  | .iface _ d => uptoBulk d + 1
  | .map entries => uptoBulkEntries entries + 1
  | .held _ => 1
def uptoBulkAll {H : Type} : List (DataW H) → Nat
  | [] => 0
  | d :: r => uptoBulk d + uptoBulkAll r
def uptoBulkEntries {H : Type} : List (Lit × DataW H) → Nat
  | [] => 0
  | x :: r => uptoBulkEntry x + uptoBulkEntries r
def uptoBulkEntry {H : Type} : Lit × DataW H → Nat
  | (.string bytes, d) => bytes.length + uptoBulk d + 1
  | (_, d) => uptoBulk d + 1
 end
def uptoSmall : (H : Type) → List (DataW H) → Bool := fun _ ds => decide (uptoBulkAll ds ≤ 1048576)
def OpenSpec.upto (s : _root_.Go.ChangeSpec) : _root_.Go.OpenSpec := { _root_.Go.OpenSpec.ofChange s with cond := some uptoSmall }

/-- 'laws.FnExactGainOf', WHERE WHAT IT READS IS OF BULK AT MOST 1048576: true; the input reads as it did. -/
def fnExactGainOfUptoRow : OpenClaim := { program := "ytjcjehnjbgklbaa", sum := "d640d5a39213651d8f95494a8fafec809b56e5797f0c6b8bc47cec59980bd8fb", func := "loop.example/g00500/laws.FnExactGainOf", spec := "fnExactGainOf", inPlace := ["math/bits.Add64", "math/bits.Sub64"], apart := false, narrowed := true }
def FnExactGainOfUptoSaid : Prop := fnExactGainOfUptoRow.holds Try.pinned (OpenSpec.upto fnExactGainOfSpec)

/-- 'laws.FnGain', WHERE WHAT IT READS IS OF BULK AT MOST 1048576: true; the input reads as it did. -/
def fnGainUptoRow : OpenClaim := { program := "ytjcjehnjbgklbaa", sum := "d640d5a39213651d8f95494a8fafec809b56e5797f0c6b8bc47cec59980bd8fb", func := "loop.example/g00500/laws.FnGain", spec := "fnGain", inPlace := ["math/bits.Add64", "math/bits.Sub64"], apart := false, narrowed := true }
def FnGainUptoSaid : Prop := fnGainUptoRow.holds Try.pinned (OpenSpec.upto fnGainSpec)

/-- 'laws.FnExactBetter', WHERE WHAT IT READS IS OF BULK AT MOST 1048576: true; the input reads as it did. -/
def fnExactBetterUptoRow : OpenClaim := { program := "ytjcjehnjbgklbaa", sum := "d640d5a39213651d8f95494a8fafec809b56e5797f0c6b8bc47cec59980bd8fb", func := "loop.example/g00500/laws.FnExactBetter", spec := "fnExactBetter", inPlace := ["math/bits.Add64", "math/bits.Sub64"], apart := false, narrowed := true }
def FnExactBetterUptoSaid : Prop := fnExactBetterUptoRow.holds Try.pinned (OpenSpec.upto fnExactBetterSpec)

/-- 'laws.FnExactImproves', WHERE WHAT IT READS IS OF BULK AT MOST 1048576: true; the input reads as it did. -/
def fnExactImprovesUptoRow : OpenClaim := { program := "ytjcjehnjbgklbaa", sum := "d640d5a39213651d8f95494a8fafec809b56e5797f0c6b8bc47cec59980bd8fb", func := "loop.example/g00500/laws.FnExactImproves", spec := "fnExactImproves", inPlace := ["math/bits.Add64", "math/bits.Sub64"], apart := false, narrowed := true }
def FnExactImprovesUptoSaid : Prop := fnExactImprovesUptoRow.holds Try.pinned (OpenSpec.upto fnExactImprovesSpec)

/-- 'laws.FnImproves', WHERE WHAT IT READS IS OF BULK AT MOST 1048576: true; the input reads as it did. -/
def fnImprovesUptoRow : OpenClaim := { program := "ytjcjehnjbgklbaa", sum := "d640d5a39213651d8f95494a8fafec809b56e5797f0c6b8bc47cec59980bd8fb", func := "loop.example/g00500/laws.FnImproves", spec := "fnImproves", inPlace := ["math/bits.Add64", "math/bits.Sub64"], apart := false, narrowed := true }
def FnImprovesUptoSaid : Prop := fnImprovesUptoRow.holds Try.pinned (OpenSpec.upto fnImprovesSpec)

/-- 'laws.FnBetter', WHERE WHAT IT READS IS OF BULK AT MOST 1048576: true; the input reads as it did. -/
def fnBetterUptoRow : OpenClaim := { program := "ytjcjehnjbgklbaa", sum := "d640d5a39213651d8f95494a8fafec809b56e5797f0c6b8bc47cec59980bd8fb", func := "loop.example/g00500/laws.FnBetter", spec := "fnBetter", inPlace := ["math/bits.Add64", "math/bits.Sub64"], apart := false, narrowed := true }
def FnBetterUptoSaid : Prop := fnBetterUptoRow.holds Try.pinned (OpenSpec.upto fnBetterSpec)

end Rows
end Go.Proofs.Ytjcjehnjbgklbaa
