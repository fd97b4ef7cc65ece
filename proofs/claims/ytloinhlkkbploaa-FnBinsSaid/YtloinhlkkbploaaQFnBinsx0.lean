/- The machine side of FnBins: what each Go function that it reaches comes to. Conditions: none. -/
import Derived.Test.YtloinhlkkbploaaProg
import Derived.Below
import Derived.Deep.Draws
import Derived.Deep.AppendLies
import Derived.Maps.AppendAt
import Derived.OwnWalk
import Derived.Laws.BytesArg
import Derived.Laws.MakeOwn
import Derived.Laws.OwnMore
import Derived.Deep.OwnRows
import Derived.Tactics
import Derived.Lib.ConvBytes
import Derived.Laws.Slices
import Derived.WalkKit
import Derived.KernelRfl
import Derived.RowKit3
import Derived.Deep.LoopGhost
import Derived.Deep.QuietTactic
import Derived.BigQuiet
import Derived.WideLaws
import Derived.Deep.DeepCutAuto
import Derived.Deep.CutBlock
import Derived.Deep.RegionHeld3
import Derived.Laws.Rows
import Derived.Lib.AppendStr
import Derived.ArgAppend
import Derived.Laws.IdiomCopy
import Derived.OrdersHeld
import Derived.Laws.BitsLemmas
import Derived.RowKit
import Derived.Test.YtloinhlkkbploaaWWords
import Derived.Test.YtloinhlkkbploaaWLast
import Derived.Test.YtloinhlkkbploaaWTab
import Derived.Test.YtloinhlkkbploaaWFour
import Derived.Test.YtloinhlkkbploaaWQPut
import Derived.Test.YtloinhlkkbploaaWApart
import Derived.Test.YtloinhlkkbploaaWArr
import Derived.Test.YtloinhlkkbploaaWZeros
import Derived.Test.YtloinhlkkbploaaWFoot
import Derived.Test.YtloinhlkkbploaaWKept
import Derived.Test.YtloinhlkkbploaaWShare
import Derived.Test.YtloinhlkkbploaaWN
import Derived.Test.YtloinhlkkbploaaWFootNe
import Derived.Test.YtloinhlkkbploaaWAt
import Derived.Test.YtloinhlkkbploaaWEqStruct
import Derived.Test.YtloinhlkkbploaaWRepsOne
import Derived.Test.YtloinhlkkbploaaWInv
import Derived.Test.YtloinhlkkbploaaWInvWords
import Derived.Test.YtloinhlkkbploaaWGuard
import Derived.Test.YtloinhlkkbploaaWNEv
import Derived.Test.YtloinhlkkbploaaWMore
namespace Go.Proofs.Ytloinhlkkbploaa.QFnBins
open Go.RowKit Go.Proofs.YtloinhlkkbploaaW.PrintWords Go.Proofs.YtloinhlkkbploaaW.PrintLast Go.Proofs.YtloinhlkkbploaaW.PrintMore
attribute [local go_sem] max2_int min2_int max_two min_two max_three min_three max_four min_four   -- for this text's walks alone
set_option linter.unusedVariables false
set_option linter.unusedSimpArgs false



def errW : Option Int → Value
  | none => .nilIface
  | some c => .iface 0 (.int .i64 c)
theorem errW_none : errW none = .nilIface := rfl
theorem errW_some (c : Int) : errW (some c) = .iface 0 (.int .i64 c) := rfl

theorem info3 : (Try.prog.info? 3).map (fun i => (i.zero, i.size, i.bytes)) = some (some (.int .i64 0), 1, 8) := by kernel_rfl
-- the values' own types

end Go.Proofs.Ytloinhlkkbploaa.QFnBins
