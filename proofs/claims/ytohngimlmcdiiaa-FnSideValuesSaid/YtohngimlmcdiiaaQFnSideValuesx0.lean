/- The machine side of FnSideValues: what each Go function that it reaches comes to. Conditions: none. -/
import Derived.Test.YtohngimlmcdiiaaProg
import Derived.Below
import Derived.Deep.Draws
import Derived.Deep.AppendLies
import Derived.Maps.AppendAt
import Derived.OwnWalk
import Derived.Laws.BytesArg
import Derived.Laws.MakeOwn
import Derived.Laws.OwnMore
import Derived.Deep.OwnRows
import Derived.Tactics
import Derived.Lib.ConvBytes
import Derived.Laws.Slices
import Derived.WalkKit
import Derived.KernelRfl
import Derived.RowKit3
import Derived.Deep.LoopGhost
import Derived.Deep.QuietTactic
import Derived.BigQuiet
import Derived.WideLaws
import Derived.Deep.DeepCutAuto
import Derived.Deep.CutBlock
import Derived.Deep.RegionHeld3
import Derived.Laws.Rows
import Derived.Lib.AppendStr
import Derived.ArgAppend
import Derived.Laws.IdiomCopy
import Derived.OrdersHeld
import Derived.Laws.BitsLemmas
import Derived.RowKit
import Derived.Test.YtohngimlmcdiiaaWWords
import Derived.Test.YtohngimlmcdiiaaWLast
import Derived.Test.YtohngimlmcdiiaaWTab
import Derived.Test.YtohngimlmcdiiaaWFour
import Derived.Test.YtohngimlmcdiiaaWQPut
import Derived.Test.YtohngimlmcdiiaaWApart
import Derived.Test.YtohngimlmcdiiaaWArr
import Derived.Test.YtohngimlmcdiiaaWZeros
import Derived.Test.YtohngimlmcdiiaaWFoot
import Derived.Test.YtohngimlmcdiiaaWKept
import Derived.Test.YtohngimlmcdiiaaWShare
import Derived.Test.YtohngimlmcdiiaaWN
import Derived.Test.YtohngimlmcdiiaaWFootNe
import Derived.Test.YtohngimlmcdiiaaWAt
import Derived.Test.YtohngimlmcdiiaaWEqStruct
import Derived.Test.YtohngimlmcdiiaaWRepsOne
import Derived.Test.YtohngimlmcdiiaaWInv
import Derived.Test.YtohngimlmcdiiaaWInvWords
import Derived.Test.YtohngimlmcdiiaaWGuard
import Derived.Test.YtohngimlmcdiiaaWNEv
import Derived.Test.YtohngimlmcdiiaaWMore
namespace Go.Proofs.Ytohngimlmcdiiaa.QFnSideValues
open Go.RowKit Go.Proofs.YtohngimlmcdiiaaW.PrintWords Go.Proofs.YtohngimlmcdiiaaW.PrintLast Go.Proofs.YtohngimlmcdiiaaW.PrintMore
attribute [local go_sem] max2_int min2_int max_two min_two max_three min_three max_four min_four   -- for this text's walks alone
set_option linter.unusedVariables false
set_option linter.unusedSimpArgs false



def errW : Option Int → Value
  | none => .nilIface
  | some c => .iface 0 (.int .i64 c)
theorem errW_none : errW none = .nilIface := rfl
theorem errW_some (c : Int) : errW (some c) = .iface 0 (.int .i64 c) := rfl

theorem info3 : (Try.prog.info? 3).map (fun i => (i.zero, i.size, i.bytes)) = some (some (.int .i64 0), 1, 8) := by kernel_rfl
-- the values' own types

theorem bA {w : World} {g : Nat} {o : Obj} (h : w.heap[g]? = some o) (n : Nat) : (w.drewN n).heap[g]? = some o := blk_drewN h n
theorem bB {w : World} {g : Nat} {o : Obj} (h : w.heap[g]? = some o) : w.drew.heap[g]? = some o := blk_drew h
theorem bC {w : World} {g : Nat} {o : Obj} (h : w.heap[g]? = some o) (o' : Obj) : (w.alloc o').heap[g]? = some o := blk_alloc h o'
end Go.Proofs.Ytohngimlmcdiiaa.QFnSideValues
