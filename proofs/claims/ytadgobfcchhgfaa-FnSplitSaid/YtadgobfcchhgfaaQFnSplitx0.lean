/- The machine side of FnSplit: what each Go function that it reaches comes to. Conditions: none. -/
import Derived.Test.YtadgobfcchhgfaaProg
import Derived.Below
import Derived.Deep.Draws
import Derived.Deep.AppendLies
import Derived.Maps.AppendAt
import Derived.OwnWalk
import Derived.Laws.BytesArg
import Derived.Laws.MakeOwn
import Derived.Laws.OwnMore
import Derived.Deep.OwnRows
import Derived.Tactics
import Derived.Lib.ConvBytes
import Derived.Laws.Slices
import Derived.WalkKit
import Derived.KernelRfl
import Derived.RowKit3
import Derived.Deep.LoopGhost
import Derived.Deep.QuietTactic
import Derived.BigQuiet
import Derived.WideLaws
import Derived.Deep.DeepCutAuto
import Derived.Deep.CutBlock
import Derived.Deep.RegionHeld3
import Derived.Laws.Rows
import Derived.Lib.AppendStr
import Derived.ArgAppend
import Derived.Laws.IdiomCopy
import Derived.OrdersHeld
import Derived.Laws.BitsLemmas
import Derived.RowKit
import Derived.Laws.Externs
import Derived.Test.YtadgobfcchhgfaaShelf
import Derived.Test.YtadgobfcchhgfaaShelfG
import Derived.Sort.OwnSortedInts
import Derived.Test.YtadgobfcchhgfaaWWords
import Derived.Test.YtadgobfcchhgfaaWLast
import Derived.Test.YtadgobfcchhgfaaWTab
import Derived.Test.YtadgobfcchhgfaaWFour
import Derived.Test.YtadgobfcchhgfaaWQPut
import Derived.Test.YtadgobfcchhgfaaWApart
import Derived.Test.YtadgobfcchhgfaaWArr
import Derived.Test.YtadgobfcchhgfaaWZeros
import Derived.Test.YtadgobfcchhgfaaWFoot
import Derived.Test.YtadgobfcchhgfaaWKept
import Derived.Test.YtadgobfcchhgfaaWShare
import Derived.Test.YtadgobfcchhgfaaWN
import Derived.Test.YtadgobfcchhgfaaWFootNe
import Derived.Test.YtadgobfcchhgfaaWAt
import Derived.Test.YtadgobfcchhgfaaWEqStruct
import Derived.Test.YtadgobfcchhgfaaWRepsOne
import Derived.Test.YtadgobfcchhgfaaWInv
import Derived.Test.YtadgobfcchhgfaaWInvWords
import Derived.Test.YtadgobfcchhgfaaWGuard
import Derived.Test.YtadgobfcchhgfaaWNEv
import Derived.Test.YtadgobfcchhgfaaWMore
namespace Go.Proofs.Ytadgobfcchhgfaa.QFnSplit
open Go.RowKit Go.Proofs.YtadgobfcchhgfaaW.PrintWords Go.Proofs.YtadgobfcchhgfaaW.PrintLast Go.Proofs.YtadgobfcchhgfaaW.PrintMore
attribute [local go_sem] max2_int min2_int max_two min_two max_three min_three max_four min_four   -- for this text's walks alone
set_option linter.unusedVariables false
set_option linter.unusedSimpArgs false



def errW : Option Int → Value
  | none => .nilIface
  | some c => .iface 0 (.int .i64 c)
theorem errW_none : errW none = .nilIface := rfl
theorem errW_some (c : Int) : errW (some c) = .iface 0 (.int .i64 c) := rfl

theorem info3 : (Try.prog.info? 3).map (fun i => (i.zero, i.size, i.bytes)) = some (some (.int .i64 0), 1, 8) := by kernel_rfl
theorem info22 : (Try.prog.info? 22).map (fun i => (i.zero, i.size, i.bytes)) = some (some (.slice none 0 0), 1, 24) := by kernel_rfl
-- the values' own types
def rd_L1 (xs : List (List Int)) (i : Int) : (List Int) := xs.getD i.toNat ([] : List Int)
theorem at_L1 {w : World} {A : Option Addr} {n : Nat} {xs : List (List Int)} (h : Kd.C (Kd.slice 3 (Kd.int .i64)) w A n xs) (i : Int) (h0 : 0 ≤ i) (h1 : i < n) : ∃ ad A0 c0, A = some ad ∧ w.cell? (ad.add i.toNat) = some (.slice A0 (rd_L1 xs i).length c0) ∧ (rd_L1 xs i).length ≤ c0 ∧ (Kd.int .i64).C w A0 (rd_L1 xs i).length (rd_L1 xs i) := by
  obtain ⟨ad, c, e, _, hK, hc0⟩ := Kd.C_get h ([] : List Int) i h0 h1
  have hc : ∀ j u, c[j]? = some u → w.cell? (ad.add (i.toNat * 1 + j)) = some u := hc0
  obtain ⟨A0, c0, rfl, l0, g0⟩ := hK
  exact ⟨ad, A0, c0, e, by have hq := hc 0 _ rfl; rwa [Nat.mul_one, Nat.add_zero] at hq, l0, g0⟩

end Go.Proofs.Ytadgobfcchhgfaa.QFnSplit
