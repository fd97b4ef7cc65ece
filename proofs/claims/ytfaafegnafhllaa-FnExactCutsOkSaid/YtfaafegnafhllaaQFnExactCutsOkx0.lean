/- The machine side of FnExactCutsOk: what each Go function that it reaches comes to. Conditions: none. -/
import Derived.Test.YtfaafegnafhllaaProg
import Derived.Below
import Derived.Deep.Draws
import Derived.Deep.AppendLies
import Derived.Maps.AppendAt
import Derived.OwnWalk
import Derived.Laws.BytesArg
import Derived.Laws.MakeOwn
import Derived.Laws.OwnMore
import Derived.Deep.OwnRows
import Derived.Tactics
import Derived.Lib.ConvBytes
import Derived.Laws.Slices
import Derived.WalkKit
import Derived.KernelRfl
import Derived.RowKit3
import Derived.Deep.LoopGhost
import Derived.Deep.QuietTactic
import Derived.BigQuiet
import Derived.WideLaws
import Derived.Deep.DeepCutAuto
import Derived.Deep.CutBlock
import Derived.Deep.RegionHeld3
import Derived.Laws.Rows
import Derived.Lib.AppendStr
import Derived.ArgAppend
import Derived.Laws.IdiomCopy
import Derived.OrdersHeld
import Derived.Laws.BitsLemmas
import Derived.RowKit
import Derived.Test.YtfaafegnafhllaaWWords
import Derived.Test.YtfaafegnafhllaaWLast
import Derived.Test.YtfaafegnafhllaaWTab
import Derived.Test.YtfaafegnafhllaaWFour
import Derived.Test.YtfaafegnafhllaaWQPut
import Derived.Test.YtfaafegnafhllaaWApart
import Derived.Test.YtfaafegnafhllaaWArr
import Derived.Test.YtfaafegnafhllaaWZeros
import Derived.Test.YtfaafegnafhllaaWFoot
import Derived.Test.YtfaafegnafhllaaWKept
import Derived.Test.YtfaafegnafhllaaWShare
import Derived.Test.YtfaafegnafhllaaWN
import Derived.Test.YtfaafegnafhllaaWFootNe
import Derived.Test.YtfaafegnafhllaaWAt
import Derived.Test.YtfaafegnafhllaaWEqStruct
import Derived.Test.YtfaafegnafhllaaWRepsOne
import Derived.Test.YtfaafegnafhllaaWInv
import Derived.Test.YtfaafegnafhllaaWInvWords
import Derived.Test.YtfaafegnafhllaaWGuard
import Derived.Test.YtfaafegnafhllaaWNEv
import Derived.Test.YtfaafegnafhllaaWMore
namespace Go.Proofs.Ytfaafegnafhllaa.QFnExactCutsOk
open Go.RowKit Go.Proofs.YtfaafegnafhllaaW.PrintWords Go.Proofs.YtfaafegnafhllaaW.PrintLast Go.Proofs.YtfaafegnafhllaaW.PrintMore
attribute [local go_sem] max2_int min2_int max_two min_two max_three min_three max_four min_four   -- for this text's walks alone
set_option linter.unusedVariables false
set_option linter.unusedSimpArgs false



def errW : Option Int → Value
  | none => .nilIface
  | some c => .iface 0 (.int .i64 c)
theorem errW_none : errW none = .nilIface := rfl
theorem errW_some (c : Int) : errW (some c) = .iface 0 (.int .i64 c) := rfl

theorem info3 : (Try.prog.info? 3).map (fun i => (i.zero, i.size, i.bytes)) = some (some (.int .i64 0), 1, 8) := by kernel_rfl
-- the values' own types

end Go.Proofs.Ytfaafegnafhllaa.QFnExactCutsOk
