/- The machine side of FnImproves: what each Go function that it reaches comes to. Conditions: none. -/
import Derived.Test.YtjcjehnjbgklbaaProg
import Derived.Below
import Derived.Deep.Draws
import Derived.Deep.AppendLies
import Derived.Maps.AppendAt
import Derived.OwnWalk
import Derived.Laws.BytesArg
import Derived.Laws.MakeOwn
import Derived.Laws.OwnMore
import Derived.Deep.OwnRows
import Derived.Tactics
import Derived.Lib.ConvBytes
import Derived.Laws.Slices
import Derived.WalkKit
import Derived.KernelRfl
import Derived.RowKit3
import Derived.Deep.LoopGhost
import Derived.Deep.QuietTactic
import Derived.BigQuiet
import Derived.WideLaws
import Derived.Deep.DeepCutAuto
import Derived.Deep.CutBlock
import Derived.Deep.RegionHeld3
import Derived.Laws.Rows
import Derived.Lib.AppendStr
import Derived.ArgAppend
import Derived.Laws.IdiomCopy
import Derived.OrdersHeld
import Derived.Laws.BitsLemmas
import Derived.RowKit
import Derived.Test.YtjcjehnjbgklbaaWWords
import Derived.Test.YtjcjehnjbgklbaaWLast
import Derived.Test.YtjcjehnjbgklbaaWTab
import Derived.Test.YtjcjehnjbgklbaaWFour
import Derived.Test.YtjcjehnjbgklbaaWQPut
import Derived.Test.YtjcjehnjbgklbaaWApart
import Derived.Test.YtjcjehnjbgklbaaWArr
import Derived.Test.YtjcjehnjbgklbaaWZeros
import Derived.Test.YtjcjehnjbgklbaaWFoot
import Derived.Test.YtjcjehnjbgklbaaWKept
import Derived.Test.YtjcjehnjbgklbaaWShare
import Derived.Test.YtjcjehnjbgklbaaWN
import Derived.Test.YtjcjehnjbgklbaaWFootNe
import Derived.Test.YtjcjehnjbgklbaaWAt
import Derived.Test.YtjcjehnjbgklbaaWEqStruct
import Derived.Test.YtjcjehnjbgklbaaWRepsOne
import Derived.Test.YtjcjehnjbgklbaaWInv
import Derived.Test.YtjcjehnjbgklbaaWInvWords
import Derived.Test.YtjcjehnjbgklbaaWGuard
import Derived.Test.YtjcjehnjbgklbaaWNEv
import Derived.Test.YtjcjehnjbgklbaaWMore
namespace Go.Proofs.Ytjcjehnjbgklbaa.QFnImproves
open Go.RowKit Go.Proofs.YtjcjehnjbgklbaaW.PrintWords Go.Proofs.YtjcjehnjbgklbaaW.PrintLast Go.Proofs.YtjcjehnjbgklbaaW.PrintMore
attribute [local go_sem] max2_int min2_int max_two min_two max_three min_three max_four min_four   -- for this text's walks alone
set_option linter.unusedVariables false
set_option linter.unusedSimpArgs false



def errW : Option Int → Value
  | none => .nilIface
  | some c => .iface 0 (.int .i64 c)
theorem errW_none : errW none = .nilIface := rfl
theorem errW_some (c : Int) : errW (some c) = .iface 0 (.int .i64 c) := rfl

theorem info3 : (Try.prog.info? 3).map (fun i => (i.zero, i.size, i.bytes)) = some (some (.int .i64 0), 1, 8) := by kernel_rfl
-- the values' own types

theorem bA {w : World} {g : Nat} {o : Obj} (h : w.heap[g]? = some o) (n : Nat) : (w.drewN n).heap[g]? = some o := blk_drewN h n
theorem bB {w : World} {g : Nat} {o : Obj} (h : w.heap[g]? = some o) : w.drew.heap[g]? = some o := blk_drew h
theorem bC {w : World} {g : Nat} {o : Obj} (h : w.heap[g]? = some o) (o' : Obj) : (w.alloc o').heap[g]? = some o := blk_alloc h o'
theorem bP {p q : Prop} (x : q) (h : q → p := by (intro h_; (with_reducible repeat (first | refine bA ?_ _ | refine bB ?_ | refine bC ?_ _)); exact h_)) : p := h x
theorem jA {a b : Prop} (x : a) (y : b) : Aside0 a ∧ b := ⟨.mk x, y⟩
theorem jB {a b : Prop} (x : a) (y : b) : a ∧ b := ⟨x, y⟩
theorem Z1 {p : Prop} (h : p := by refine bP ?_;refine blk_put (cs := #[.int .i64 t522,.int .i64 t525,.int .i64 t528,.int .i64 t529,.int .i64 t532,.int .i64 0]) ?_ 5 _ rfl;refine bP ?_;refine blk_put (cs := #[.int .i64 t522,.int .i64 t525,.int .i64 t528,.int .i64 t529,.int .i64 0,.int .i64 0]) ?_ 4 _ rfl;refine bP ?_;refine blk_put (cs := #[.int .i64 t522,.int .i64 t525,.int .i64 t528,.int .i64 0,.int .i64 0,.int .i64 0]) ?_ 3 _ rfl;refine bP ?_;refine blk_put (cs := #[.int .i64 t522,.int .i64 t525,.int .i64 0,.int .i64 0,.int .i64 0,.int .i64 0]) ?_ 2 _ rfl;refine bP ?_;refine blk_put (cs := #[.int .i64 t522,.int .i64 0,.int .i64 0,.int .i64 0,.int .i64 0,.int .i64 0]) ?_ 1 _ rfl;refine bP ?_;refine blk_put (cs := #[.int .i64 0,.int .i64 0,.int .i64 0,.int .i64 0,.int .i64 0,.int .i64 0]) ?_ 0 _ rfl;refine bP ?_;exact BK536.out) : p := h
theorem Z2 {p : Prop} (h : p := by refine bP ?_;refine blk_put (cs := #[.int .i64 t522,.int .i64 t525,.int .i64 t528,.int .i64 t529,.int .i64 t532,.int .i64 0]) ?_ 5 _ rfl;refine bP ?_;refine blk_put (cs := #[.int .i64 t522,.int .i64 t525,.int .i64 t528,.int .i64 t529,.int .i64 0,.int .i64 0]) ?_ 4 _ rfl;refine bP ?_;refine blk_put (cs := #[.int .i64 t522,.int .i64 t525,.int .i64 t528,.int .i64 0,.int .i64 0,.int .i64 0]) ?_ 3 _ rfl;refine bP ?_;refine blk_put (cs := #[.int .i64 t522,.int .i64 t525,.int .i64 0,.int .i64 0,.int .i64 0,.int .i64 0]) ?_ 2 _ rfl;refine bP ?_;refine blk_put (cs := #[.int .i64 t522,.int .i64 0,.int .i64 0,.int .i64 0,.int .i64 0,.int .i64 0]) ?_ 1 _ rfl;refine bP ?_;refine blk_put (cs := #[.int .i64 0,.int .i64 0,.int .i64 0,.int .i64 0,.int .i64 0,.int .i64 0]) ?_ 0 _ rfl;refine bP ?_;exact BK521.out) : p := h
theorem Z3 {p : Prop} (h : p := by refine bP ?_;refine blk_put (cs := #[.bool false,.int .u64 0,.int .u64 0,.int .i64 0]) ?_ 3 _ rfl;refine bP ?_;refine blk_put (cs := #[.bool false,.int .u64 0,.int .u64 0,.int .i64 0]) ?_ 2 _ rfl;refine bP ?_;refine blk_put (cs := #[.bool false,.int .u64 0,.int .u64 0,.int .i64 0]) ?_ 1 _ rfl;refine bP ?_;refine blk_put (cs := #[.bool false,.int .u64 0,.int .u64 0,.int .i64 0]) ?_ 0 _ rfl;refine bP ?_;refine blk_far ?_ NB387_399.out _;refine bP ?_;refine blk_far ?_ NB387_399.out _;refine bP ?_;refine blk_far ?_ NB387_399.out _;refine bP ?_;refine blk_far ?_ NB387_399.out _;refine bP ?_;exact BK387.out) : p := h
theorem Z4 {p : Prop} (h : p := by refine bP ?_;refine blk_put (cs := #[.bool false,.int .u64 0,.int .u64 0,.int .i64 0]) ?_ 3 _ rfl;refine bP ?_;refine blk_put (cs := #[.bool false,.int .u64 0,.int .u64 0,.int .i64 0]) ?_ 2 _ rfl;refine bP ?_;refine blk_put (cs := #[.bool false,.int .u64 0,.int .u64 0,.int .i64 0]) ?_ 1 _ rfl;refine bP ?_;refine blk_put (cs := #[.bool false,.int .u64 0,.int .u64 0,.int .i64 0]) ?_ 0 _ rfl;refine bP ?_;refine blk_far ?_ NB194_206.out _;refine bP ?_;refine blk_far ?_ NB194_206.out _;refine bP ?_;refine blk_far ?_ NB194_206.out _;refine bP ?_;refine blk_far ?_ NB194_206.out _;refine bP ?_;exact BK194.out) : p := h
theorem Z5 {p : Prop} (h : p := by refine bP ?_;refine blk_put (cs := #[.bool x169000_85,.int .u64 (IntKind.u64.wrap (x169001_85 - x170001_85)),.int .u64 (IntKind.u64.wrap (x169002_85 - x170002_85))]) ?_ 1 _ rfl;refine bP ?_;refine blk_put (cs := #[.bool x169000_85,.int .u64 (IntKind.u64.wrap (x169001_85 - x170001_85)),.int .u64 0]) ?_ 2 _ rfl;refine bP ?_;refine blk_put (cs := #[.bool x169000_85,.int .u64 0,.int .u64 0]) ?_ 1 _ rfl;refine bP ?_;refine blk_put (cs := #[.bool false,.int .u64 0,.int .u64 0]) ?_ 0 _ rfl;refine bP ?_;exact BK171.out) : p := h
theorem Z6 {p : Prop} (h : p := by refine bP ?_;refine blk_put (cs := #[.bool a0_0,.int .u64 (IntKind.u64.wrap (a0_1 + a1_1)),.int .u64 (IntKind.u64.wrap (a0_2 + a1_2))]) ?_ 1 _ rfl;refine bP ?_;refine blk_put (cs := #[.bool a0_0,.int .u64 (IntKind.u64.wrap (a0_1 + a1_1)),.int .u64 0]) ?_ 2 _ rfl;refine bP ?_;refine blk_put (cs := #[.bool a0_0,.int .u64 0,.int .u64 0]) ?_ 1 _ rfl;refine bP ?_;refine blk_put (cs := #[.bool false,.int .u64 0,.int .u64 0]) ?_ 0 _ rfl;refine bP ?_;exact BK165.out) : p := h
theorem Z7 {p : Prop} (h : p := by refine bP ?_;refine blk_put (cs := #[.bool t410,.int .u64 t411,.int .u64 a1_2]) ?_ 2 _ rfl;refine bP ?_;refine blk_put (cs := #[.bool t410,.int .u64 a1_1,.int .u64 a1_2]) ?_ 1 _ rfl;refine bP ?_;refine blk_put (cs := #[.bool a1_0,.int .u64 a1_1,.int .u64 a1_2]) ?_ 0 _ rfl;refine bP ?_;refine blk_far ?_ NB406_405.out _;refine bP ?_;refine blk_far ?_ NB406_405.out _;refine bP ?_;refine blk_far ?_ NB406_405.out _;refine bP ?_;exact BK406.out) : p := h
theorem Z8 {p : Prop} (h : p := by refine bP ?_;refine blk_put (cs := #[.bool t180,.int .u64 t181,.int .u64 0]) ?_ 2 _ rfl;refine bP ?_;refine blk_put (cs := #[.bool t180,.int .u64 0,.int .u64 0]) ?_ 1 _ rfl;refine bP ?_;refine blk_put (cs := #[.bool false,.int .u64 0,.int .u64 0]) ?_ 0 _ rfl;refine bP ?_;refine blk_far ?_ NB185_184.out _;refine bP ?_;refine blk_far ?_ NB185_184.out _;refine bP ?_;refine blk_far ?_ NB185_184.out _;refine bP ?_;exact BK185.out) : p := h
theorem Z9 {p : Prop} (h : p := by refine bP ?_;refine blk_far ?_ NB184_185.out _;refine bP ?_;refine blk_far ?_ NB184_185.out _;refine bP ?_;refine blk_far ?_ NB184_185.out _;refine bP ?_;refine blk_put (cs := #[.bool t177,.int .u64 t178,.int .u64 0]) ?_ 2 _ rfl;refine bP ?_;refine blk_put (cs := #[.bool t177,.int .u64 0,.int .u64 0]) ?_ 1 _ rfl;refine bP ?_;refine blk_put (cs := #[.bool false,.int .u64 0,.int .u64 0]) ?_ 0 _ rfl;refine bP ?_;exact BK184.out) : p := h
theorem Z10 {p : Prop} (h : p := by refine bP ?_;refine blk_put (cs := #[.bool t370,.int .u64 t371,.int .u64 0]) ?_ 2 _ rfl;refine bP ?_;refine blk_put (cs := #[.bool t370,.int .u64 0,.int .u64 0]) ?_ 1 _ rfl;refine bP ?_;refine blk_put (cs := #[.bool false,.int .u64 0,.int .u64 0]) ?_ 0 _ rfl;refine bP ?_;refine blk_far ?_ NB375_374.out _;refine bP ?_;refine blk_far ?_ NB375_374.out _;refine bP ?_;refine blk_far ?_ NB375_374.out _;refine bP ?_;exact BK375.out) : p := h
theorem Z11 {p : Prop} (h : p := by refine bP ?_;refine blk_put (cs := #[.bool t319,.int .u64 t320,.int .u64 0]) ?_ 2 _ rfl;refine bP ?_;refine blk_put (cs := #[.bool t319,.int .u64 0,.int .u64 0]) ?_ 1 _ rfl;refine bP ?_;refine blk_put (cs := #[.bool false,.int .u64 0,.int .u64 0]) ?_ 0 _ rfl;refine bP ?_;refine blk_far ?_ NB311_310.out _;refine bP ?_;refine blk_far ?_ NB311_310.out _;refine bP ?_;refine blk_far ?_ NB311_310.out _;refine bP ?_;exact BK311.out) : p := h
theorem Z12 {p : Prop} (h : p := by refine bP ?_;refine blk_put (cs := #[.bool t153,.int .u64 t154,.int .u64 0]) ?_ 2 _ rfl;refine bP ?_;refine blk_put (cs := #[.bool t153,.int .u64 0,.int .u64 0]) ?_ 1 _ rfl;refine bP ?_;refine blk_put (cs := #[.bool false,.int .u64 0,.int .u64 0]) ?_ 0 _ rfl;refine bP ?_;refine blk_far ?_ NB145_144.out _;refine bP ?_;refine blk_far ?_ NB145_144.out _;refine bP ?_;refine blk_far ?_ NB145_144.out _;refine bP ?_;exact BK145.out) : p := h
theorem Z13 {p : Prop} (h : p := by refine bP ?_;refine blk_far ?_ NB374_375.out _;refine bP ?_;refine blk_far ?_ NB374_375.out _;refine bP ?_;refine blk_far ?_ NB374_375.out _;refine bP ?_;refine blk_put (cs := #[.bool t367,.int .u64 t368,.int .u64 0]) ?_ 2 _ rfl;refine bP ?_;refine blk_put (cs := #[.bool t367,.int .u64 0,.int .u64 0]) ?_ 1 _ rfl;refine bP ?_;refine blk_put (cs := #[.bool false,.int .u64 0,.int .u64 0]) ?_ 0 _ rfl;refine bP ?_;exact BK374.out) : p := h
theorem Z14 {p : Prop} (h : p := by refine bP ?_;refine blk_far ?_ NB310_311.out _;refine bP ?_;refine blk_far ?_ NB310_311.out _;refine bP ?_;refine blk_far ?_ NB310_311.out _;refine bP ?_;refine blk_put (cs := #[.bool t314,.int .u64 t315,.int .u64 0]) ?_ 2 _ rfl;refine bP ?_;refine blk_put (cs := #[.bool t314,.int .u64 0,.int .u64 0]) ?_ 1 _ rfl;refine bP ?_;refine blk_put (cs := #[.bool false,.int .u64 0,.int .u64 0]) ?_ 0 _ rfl;refine bP ?_;exact BK310.out) : p := h
theorem Z15 {p : Prop} (h : p := by refine bP ?_;refine blk_far ?_ NB144_145.out _;refine bP ?_;refine blk_far ?_ NB144_145.out _;refine bP ?_;refine blk_far ?_ NB144_145.out _;refine bP ?_;refine blk_put (cs := #[.bool t148,.int .u64 t149,.int .u64 0]) ?_ 2 _ rfl;refine bP ?_;refine blk_put (cs := #[.bool t148,.int .u64 0,.int .u64 0]) ?_ 1 _ rfl;refine bP ?_;refine blk_put (cs := #[.bool false,.int .u64 0,.int .u64 0]) ?_ 0 _ rfl;refine bP ?_;exact BK144.out) : p := h
theorem Z16 {p : Prop} (h : p := by refine bP ?_;refine blk_put (cs := #[.bool false,.int .u64 0,.int .u64 0]) ?_ 2 _ rfl;refine bP ?_;refine blk_put (cs := #[.bool false,.int .u64 0,.int .u64 0]) ?_ 1 _ rfl;refine bP ?_;refine blk_put (cs := #[.bool false,.int .u64 0,.int .u64 0]) ?_ 0 _ rfl;refine bP ?_;refine blk_far ?_ NB294_306.out _;refine bP ?_;refine blk_far ?_ NB294_306.out _;refine bP ?_;refine blk_far ?_ NB294_306.out _;refine bP ?_;exact BK294.out) : p := h
theorem Z17 {p : Prop} (h : p := by refine bP ?_;refine blk_put (cs := #[.bool t450,.int .u64 t451,.int .u64 t452,.int .i64 0]) ?_ 3 _ rfl;refine bP ?_;refine blk_put (cs := #[.bool t450,.int .u64 t451,.int .u64 0,.int .i64 0]) ?_ 2 _ rfl;refine bP ?_;refine blk_put (cs := #[.bool t450,.int .u64 0,.int .u64 0,.int .i64 0]) ?_ 1 _ rfl;refine bP ?_;refine blk_put (cs := #[.bool false,.int .u64 0,.int .u64 0,.int .i64 0]) ?_ 0 _ rfl;refine bP ?_;exact BK455.out) : p := h
theorem Z18 {p : Prop} (h : p := by refine bP ?_;refine blk_put (cs := #[.bool t440,.int .u64 t441,.int .u64 t442,.int .i64 0]) ?_ 3 _ rfl;refine bP ?_;refine blk_put (cs := #[.bool t440,.int .u64 t441,.int .u64 0,.int .i64 0]) ?_ 2 _ rfl;refine bP ?_;refine blk_put (cs := #[.bool t440,.int .u64 0,.int .u64 0,.int .i64 0]) ?_ 1 _ rfl;refine bP ?_;refine blk_put (cs := #[.bool false,.int .u64 0,.int .u64 0,.int .i64 0]) ?_ 0 _ rfl;refine bP ?_;exact BK445.out) : p := h
theorem Z19 {p : Prop} (h : p := by refine bP ?_;refine blk_put (cs := #[.bool t247,.int .u64 t248,.int .u64 t249,.int .i64 0]) ?_ 3 _ rfl;refine bP ?_;refine blk_put (cs := #[.bool t247,.int .u64 t248,.int .u64 0,.int .i64 0]) ?_ 2 _ rfl;refine bP ?_;refine blk_put (cs := #[.bool t247,.int .u64 0,.int .u64 0,.int .i64 0]) ?_ 1 _ rfl;refine bP ?_;refine blk_put (cs := #[.bool false,.int .u64 0,.int .u64 0,.int .i64 0]) ?_ 0 _ rfl;refine bP ?_;exact BK252.out) : p := h
theorem Z20 {p : Prop} (h : p := by refine bP ?_;refine blk_put (cs := #[.bool t388,.int .u64 t389,.int .u64 t390,.int .i64 0]) ?_ 3 _ rfl;refine bP ?_;refine blk_put (cs := #[.bool t388,.int .u64 t389,.int .u64 0,.int .i64 0]) ?_ 2 _ rfl;refine bP ?_;refine blk_put (cs := #[.bool t388,.int .u64 0,.int .u64 0,.int .i64 0]) ?_ 1 _ rfl;refine bP ?_;refine blk_put (cs := #[.bool false,.int .u64 0,.int .u64 0,.int .i64 0]) ?_ 0 _ rfl;refine bP ?_;exact BK393.out) : p := h
theorem Z21 {p : Prop} (h : p := by refine bP ?_;refine blk_put (cs := #[.bool t195,.int .u64 t196,.int .u64 t197,.int .i64 0]) ?_ 3 _ rfl;refine bP ?_;refine blk_put (cs := #[.bool t195,.int .u64 t196,.int .u64 0,.int .i64 0]) ?_ 2 _ rfl;refine bP ?_;refine blk_put (cs := #[.bool t195,.int .u64 0,.int .u64 0,.int .i64 0]) ?_ 1 _ rfl;refine bP ?_;refine blk_put (cs := #[.bool false,.int .u64 0,.int .u64 0,.int .i64 0]) ?_ 0 _ rfl;refine bP ?_;exact BK200.out) : p := h
theorem Z22 {p : Prop} (h : p := by refine bP ?_;refine blk_put (cs := #[.bool t253,.int .u64 t254,.int .u64 t255,.int .i64 0]) ?_ 3 _ rfl;refine bP ?_;refine blk_put (cs := #[.bool t253,.int .u64 t254,.int .u64 0,.int .i64 0]) ?_ 2 _ rfl;refine bP ?_;refine blk_put (cs := #[.bool t253,.int .u64 0,.int .u64 0,.int .i64 0]) ?_ 1 _ rfl;refine bP ?_;refine blk_put (cs := #[.bool false,.int .u64 0,.int .u64 0,.int .i64 0]) ?_ 0 _ rfl;refine bP ?_;exact BK258.out) : p := h
theorem Z23 {p : Prop} (h : p := by refine bP ?_;refine blk_put (cs := #[.bool t186,.int .u64 t187,.int .u64 t188,.int .i64 0]) ?_ 3 _ rfl;refine bP ?_;refine blk_put (cs := #[.bool t186,.int .u64 t187,.int .u64 0,.int .i64 0]) ?_ 2 _ rfl;refine bP ?_;refine blk_put (cs := #[.bool t186,.int .u64 0,.int .u64 0,.int .i64 0]) ?_ 1 _ rfl;refine bP ?_;refine blk_put (cs := #[.bool false,.int .u64 0,.int .u64 0,.int .i64 0]) ?_ 0 _ rfl;refine bP ?_;exact BK191.out) : p := h
theorem Z24 {p : Prop} (h : p := by refine bP ?_;refine blk_put (cs := #[.bool t115,.int .u64 t116,.int .u64 t117,.int .i64 0]) ?_ 3 _ rfl;refine bP ?_;refine blk_put (cs := #[.bool t115,.int .u64 t116,.int .u64 0,.int .i64 0]) ?_ 2 _ rfl;refine bP ?_;refine blk_put (cs := #[.bool t115,.int .u64 0,.int .u64 0,.int .i64 0]) ?_ 1 _ rfl;refine bP ?_;refine blk_put (cs := #[.bool false,.int .u64 0,.int .u64 0,.int .i64 0]) ?_ 0 _ rfl;refine bP ?_;exact BK118.out) : p := h
theorem Z25 {p : Prop} (h : p := by refine bP ?_;refine blk_put (cs := #[.bool a0_0,.int .u64 a0_1,.int .u64 a0_2,.int .i64 0]) ?_ 3 _ rfl;refine bP ?_;refine blk_put (cs := #[.bool a0_0,.int .u64 a0_1,.int .u64 0,.int .i64 0]) ?_ 2 _ rfl;refine bP ?_;refine blk_put (cs := #[.bool a0_0,.int .u64 0,.int .u64 0,.int .i64 0]) ?_ 1 _ rfl;refine bP ?_;refine blk_put (cs := #[.bool false,.int .u64 0,.int .u64 0,.int .i64 0]) ?_ 0 _ rfl;refine bP ?_;exact BK265.out) : p := h
theorem Z26 {p : Prop} (h : p := by refine bP ?_;refine blk_put (cs := #[.bool t588,.int .u64 t589,.int .u64 t590,.int .i64 0]) ?_ 3 _ rfl;refine bP ?_;refine blk_put (cs := #[.bool t588,.int .u64 t589,.int .u64 0,.int .i64 0]) ?_ 2 _ rfl;refine bP ?_;refine blk_put (cs := #[.bool t588,.int .u64 0,.int .u64 0,.int .i64 0]) ?_ 1 _ rfl;refine bP ?_;refine blk_put (cs := #[.bool false,.int .u64 0,.int .u64 0,.int .i64 0]) ?_ 0 _ rfl;refine bP ?_;exact BK593.out) : p := h
theorem Z27 {p : Prop} (h : p := by refine bP ?_;refine blk_put (cs := #[.bool false,.int .u64 0,.int .u64 0,.int .i64 0]) ?_ 3 _ rfl;refine bP ?_;refine blk_put (cs := #[.bool false,.int .u64 0,.int .u64 0,.int .i64 0]) ?_ 2 _ rfl;refine bP ?_;refine blk_put (cs := #[.bool false,.int .u64 0,.int .u64 0,.int .i64 0]) ?_ 1 _ rfl;refine bP ?_;refine blk_put (cs := #[.bool false,.int .u64 0,.int .u64 0,.int .i64 0]) ?_ 0 _ rfl;refine bP ?_;exact BK121.out) : p := h
theorem Z28 {p : Prop} (h : p := by rw [hg];exact Nat.ne_of_lt (blk_lt (g := gb190) (o := .cells #[.bool t186,.int .u64 t187,.int .u64 t188] 28 (0,0)) Z407)) : p := h
theorem Z29 {p : Prop} (h : p := by rw [hg];exact Nat.ne_of_gt (blk_lt (g := gb190) (o := .cells #[.bool t186,.int .u64 t187,.int .u64 t188] 28 (0,0)) Z407)) : p := h
theorem Z30 {p : Prop} (h : p := by refine bP ?_;refine blk_put (cs := #[.bool (a0_0 != (decide (a1 < 0))),.int .u64 (IntKind.u64.wrap (t135 + t136)),.int .u64 0]) ?_ 2 _ rfl;refine bP ?_;refine blk_put (cs := #[.bool (a0_0 != (decide (a1 < 0))),.int .u64 0,.int .u64 0]) ?_ 1 _ rfl;refine bP ?_;refine blk_put (cs := #[.bool false,.int .u64 0,.int .u64 0]) ?_ 0 _ rfl;refine bP ?_;exact BK138.out) : p := h
theorem Z31 {p : Prop} (h : p := by rw [hg];exact (below_size Z401)) : p := h
theorem Z32 {p : Prop} (h : p := by repeat (first | (with_reducible first | exact HB.out | apply below_alloc | apply pw_below_drewN | apply below_drew1 | refine below_set ?_ GE174.out | refine below_set ?_ GE175.out | refine below_set ?_ GE176.out | refine below_set ?_ GE184.out | refine below_set ?_ GE185.out | refine below_set ?_ GE190.out | refine below_set ?_ GE191.out) | exact HB.out)) : p := h
theorem Z33 {p : Prop} (h : p := by refine bP ?_;refine blk_put (cs := #[.bool x169000_85,.int .u64 (IntKind.u64.wrap (x169001_85 - x170001_85)),.int .u64 0]) ?_ 2 _ rfl;refine bP ?_;refine blk_put (cs := #[.bool x169000_85,.int .u64 0,.int .u64 0]) ?_ 1 _ rfl;refine bP ?_;refine blk_put (cs := #[.bool false,.int .u64 0,.int .u64 0]) ?_ 0 _ rfl;refine bP ?_;exact BK171.out) : p := h
theorem Z34 {p : Prop} (h : p := by refine bP ?_;refine blk_put (cs := #[.bool false,.int .u64 0,.int .u64 0]) ?_ 2 _ rfl;refine bP ?_;refine blk_put (cs := #[.bool false,.int .u64 0,.int .u64 0]) ?_ 1 _ rfl;refine bP ?_;refine blk_put (cs := #[.bool false,.int .u64 0,.int .u64 0]) ?_ 0 _ rfl;refine bP ?_;refine blk_far ?_ NB131_138.out _;refine bP ?_;exact BK131.out) : p := h
theorem Z35 {p : Prop} (h : p := by repeat (first | (with_reducible first | exact HB.out | apply below_alloc | apply pw_below_drewN | apply below_drew1 | refine below_set ?_ GE160.out | refine below_set ?_ GE161.out | refine below_set ?_ GE162.out | refine below_set ?_ GE168.out | refine below_set ?_ GE169.out | refine below_set ?_ GE171.out) | exact HB.out)) : p := h
theorem Z36 {p : Prop} (h : p := by rw [hg];exact (below_size Z403)) : p := h
theorem Z37 {p : Prop} (h : p := by rw [hg];exact (below_size Z402)) : p := h
theorem Z38 {p : Prop} (h : p := by rw [hg];exact (below_size Z404)) : p := h
theorem Z39 {p : Prop} (h : p := by rw [hg];exact (below_size Z405)) : p := h
theorem Z40 {p : Prop} (h : p := by rw [hg];exact (below_size Z406)) : p := h
theorem Z41 {p : Prop} (h : p := by repeat (first | (with_reducible first | exact HB.out | apply below_alloc | apply pw_below_drewN | apply below_drew1 | refine below_set ?_ GE308.out | refine below_set ?_ GE309.out | refine below_set ?_ GE310.out | refine below_set ?_ GE311.out | refine below_set ?_ GE318.out | refine below_set ?_ GE323.out) | exact HB.out)) : p := h
theorem Z42 {p : Prop} (h : p := by repeat (first | (with_reducible first | exact HB.out | apply below_alloc | apply pw_below_drewN | apply below_drew1 | refine below_set ?_ GE142.out | refine below_set ?_ GE143.out | refine below_set ?_ GE144.out | refine below_set ?_ GE145.out | refine below_set ?_ GE152.out | refine below_set ?_ GE157.out) | exact HB.out)) : p := h
theorem Z43 {p : Prop} (h : p := by repeat (first | (with_reducible first | exact HB.out | apply below_alloc | apply pw_below_drewN | apply below_drew1 | refine below_set ?_ GE364.out | refine below_set ?_ GE365.out | refine below_set ?_ GE366.out | refine below_set ?_ GE374.out | refine below_set ?_ GE375.out | refine below_set ?_ GE380.out) | exact HB.out)) : p := h
theorem Z44 {p : Prop} (h : p := by refine bP ?_;refine blk_put (cs := #[.bool a0_0,.int .u64 (IntKind.u64.wrap (a0_1 + a1_1)),.int .u64 0]) ?_ 2 _ rfl;refine bP ?_;refine blk_put (cs := #[.bool a0_0,.int .u64 0,.int .u64 0]) ?_ 1 _ rfl;refine bP ?_;refine blk_put (cs := #[.bool false,.int .u64 0,.int .u64 0]) ?_ 0 _ rfl;refine bP ?_;exact BK165.out) : p := h
theorem Z45 {p : Prop} (h : p := by refine bP ?_;refine blk_far ?_ NB521_536.out _;refine bP ?_;refine blk_far ?_ NB521_536.out _;refine bP ?_;refine blk_far ?_ NB521_536.out _;refine bP ?_;refine blk_far ?_ NB521_536.out _;refine bP ?_;refine blk_far ?_ NB521_536.out _;refine bP ?_;refine blk_far ?_ NB521_536.out _;refine bP ?_;exact BK521.out) : p := h
theorem Z46 {p : Prop} (h : p := by refine bP ?_;refine blk_far ?_ NB176_185.out _;refine bP ?_;refine blk_far ?_ NB176_185.out _;refine bP ?_;refine blk_far ?_ NB176_185.out _;refine bP ?_;refine blk_far ?_ NB176_184.out _;refine bP ?_;refine blk_far ?_ NB176_184.out _;refine bP ?_;refine blk_far ?_ NB176_184.out _;refine bP ?_;exact BK176.out) : p := h
theorem Z47 {p : Prop} (h : p := by refine bP ?_;refine blk_far ?_ NB175_185.out _;refine bP ?_;refine blk_far ?_ NB175_185.out _;refine bP ?_;refine blk_far ?_ NB175_185.out _;refine bP ?_;refine blk_far ?_ NB175_184.out _;refine bP ?_;refine blk_far ?_ NB175_184.out _;refine bP ?_;refine blk_far ?_ NB175_184.out _;refine bP ?_;exact BK175.out) : p := h
theorem Z48 {p : Prop} (h : p := by refine bP ?_;refine blk_far ?_ NB174_185.out _;refine bP ?_;refine blk_far ?_ NB174_185.out _;refine bP ?_;refine blk_far ?_ NB174_185.out _;refine bP ?_;refine blk_far ?_ NB174_184.out _;refine bP ?_;refine blk_far ?_ NB174_184.out _;refine bP ?_;refine blk_far ?_ NB174_184.out _;refine bP ?_;exact BK174.out) : p := h
theorem Z49 {p : Prop} (h : p := by refine bP ?_;refine blk_far ?_ NB366_375.out _;refine bP ?_;refine blk_far ?_ NB366_375.out _;refine bP ?_;refine blk_far ?_ NB366_375.out _;refine bP ?_;refine blk_far ?_ NB366_374.out _;refine bP ?_;refine blk_far ?_ NB366_374.out _;refine bP ?_;refine blk_far ?_ NB366_374.out _;refine bP ?_;exact BK366.out) : p := h
theorem Z50 {p : Prop} (h : p := by refine bP ?_;refine blk_far ?_ NB365_375.out _;refine bP ?_;refine blk_far ?_ NB365_375.out _;refine bP ?_;refine blk_far ?_ NB365_375.out _;refine bP ?_;refine blk_far ?_ NB365_374.out _;refine bP ?_;refine blk_far ?_ NB365_374.out _;refine bP ?_;refine blk_far ?_ NB365_374.out _;refine bP ?_;exact BK365.out) : p := h
theorem Z51 {p : Prop} (h : p := by refine bP ?_;refine blk_far ?_ NB364_375.out _;refine bP ?_;refine blk_far ?_ NB364_375.out _;refine bP ?_;refine blk_far ?_ NB364_375.out _;refine bP ?_;refine blk_far ?_ NB364_374.out _;refine bP ?_;refine blk_far ?_ NB364_374.out _;refine bP ?_;refine blk_far ?_ NB364_374.out _;refine bP ?_;exact BK364.out) : p := h
theorem Z52 {p : Prop} (h : p := by rw [hg];exact Nat.ne_of_lt (blk_lt (g := gb175) (o := .cells #[.bool a1_0,.int .u64 a1_1,.int .u64 a1_2,.int .i64 a1_3] 30 (0,0)) Z453)) : p := h
theorem Z53 {p : Prop} (h : p := by rw [hg];exact Nat.ne_of_lt (blk_lt (g := gb174) (o := .cells #[.bool a0_0,.int .u64 a0_1,.int .u64 a0_2,.int .i64 a0_3] 30 (0,0)) Z454)) : p := h
theorem Z54 {p : Prop} (h : p := by rw [hg];exact Nat.ne_of_gt (blk_lt (g := gb175) (o := .cells #[.bool a1_0,.int .u64 a1_1,.int .u64 a1_2,.int .i64 a1_3] 30 (0,0)) Z453)) : p := h
theorem Z55 {p : Prop} (h : p := by rw [hg];exact Nat.ne_of_gt (blk_lt (g := gb174) (o := .cells #[.bool a0_0,.int .u64 a0_1,.int .u64 a0_2,.int .i64 a0_3] 30 (0,0)) Z454)) : p := h
theorem Z56 {p : Prop} (h : p := by rw [hg];exact Nat.ne_of_lt (blk_lt (g := gb176) (o := .cells #[.bool false,.int .u64 0,.int .u64 0,.int .i64 0] 30 (0,0)) Z452)) : p := h
theorem Z57 {p : Prop} (h : p := by rw [hg];exact Nat.ne_of_gt (blk_lt (g := gb176) (o := .cells #[.bool false,.int .u64 0,.int .u64 0,.int .i64 0] 30 (0,0)) Z452)) : p := h
theorem Z58 {p : Prop} (h : p := by rw [hg];exact (below_size Z410)) : p := h
theorem Z59 {p : Prop} (h : p := by rw [hg];exact (below_size Z412)) : p := h
theorem Z60 {p : Prop} (h : p := by rw [hg];exact (below_size Z408)) : p := h
theorem Z61 {p : Prop} (h : p := by rw [hg];exact (below_size Z409)) : p := h
theorem Z62 {p : Prop} (h : p := by repeat (first | (with_reducible first | exact HB.out | apply below_alloc | apply pw_below_drewN | apply below_drew1 | refine below_set ?_ GE578.out | refine below_set ?_ GE581.out | refine below_set ?_ GE587.out | refine below_set ?_ GE593.out | refine below_set ?_ GE594.out) | exact HB.out)) : p := h
theorem Z63 {p : Prop} (h : p := by rw [hg];exact (below_size Z411)) : p := h
theorem Z64 {p : Prop} (h : p := by rw [hg];exact (below_size Z413)) : p := h
theorem Z65 {p : Prop} (h : p := by rw [hg];exact Nat.ne_of_lt (blk_lt (g := gb185) (o := .cells #[.bool t180,.int .u64 t181,.int .u64 t182] 28 (0,0)) Z450)) : p := h
theorem Z66 {p : Prop} (h : p := by rw [hg];exact Nat.ne_of_lt (blk_lt (g := gb184) (o := .cells #[.bool t177,.int .u64 t178,.int .u64 t179] 28 (0,0)) Z451)) : p := h
theorem Z67 {p : Prop} (h : p := by rw [hg];exact Nat.ne_of_gt (blk_lt (g := gb185) (o := .cells #[.bool t180,.int .u64 t181,.int .u64 t182] 28 (0,0)) Z450)) : p := h
theorem Z68 {p : Prop} (h : p := by rw [hg];exact Nat.ne_of_gt (blk_lt (g := gb184) (o := .cells #[.bool t177,.int .u64 t178,.int .u64 t179] 28 (0,0)) Z451)) : p := h
theorem Z69 {p : Prop} (h : p := by refine bP ?_;refine blk_put (cs := #[.bool false,.int .u64 t112,.int .u64 0]) ?_ 2 _ rfl;refine bP ?_;refine blk_put (cs := #[.bool false,.int .u64 0,.int .u64 0]) ?_ 1 _ rfl;refine bP ?_;refine blk_put (cs := #[.bool false,.int .u64 0,.int .u64 0]) ?_ 0 _ rfl;refine bP ?_;exact BK109.out) : p := h
theorem Z70 {p : Prop} (h : p := by refine bP ?_;refine blk_put (cs := #[.bool a0_0,.int .u64 a0_1,.int .u64 0]) ?_ 2 _ rfl;refine bP ?_;refine blk_put (cs := #[.bool a0_0,.int .u64 0,.int .u64 0]) ?_ 1 _ rfl;refine bP ?_;refine blk_put (cs := #[.bool false,.int .u64 0,.int .u64 0]) ?_ 0 _ rfl;refine bP ?_;exact BK168.out) : p := h
theorem Z71 {p : Prop} (h : p := by refine bP ?_;refine blk_put (cs := #[.bool t359,.int .u64 t360,.int .u64 0]) ?_ 2 _ rfl;refine bP ?_;refine blk_put (cs := #[.bool t359,.int .u64 0,.int .u64 0]) ?_ 1 _ rfl;refine bP ?_;refine blk_put (cs := #[.bool false,.int .u64 0,.int .u64 0]) ?_ 0 _ rfl;refine bP ?_;exact BK362.out) : p := h
theorem Z72 {p : Prop} (h : p := by refine bP ?_;refine blk_put (cs := #[.bool t314,.int .u64 t315,.int .u64 0]) ?_ 2 _ rfl;refine bP ?_;refine blk_put (cs := #[.bool t314,.int .u64 0,.int .u64 0]) ?_ 1 _ rfl;refine bP ?_;refine blk_put (cs := #[.bool false,.int .u64 0,.int .u64 0]) ?_ 0 _ rfl;refine bP ?_;exact BK318.out) : p := h
theorem Z73 {p : Prop} (h : p := by refine bP ?_;refine blk_put (cs := #[.bool t303,.int .u64 t304,.int .u64 0]) ?_ 2 _ rfl;refine bP ?_;refine blk_put (cs := #[.bool t303,.int .u64 0,.int .u64 0]) ?_ 1 _ rfl;refine bP ?_;refine blk_put (cs := #[.bool false,.int .u64 0,.int .u64 0]) ?_ 0 _ rfl;refine bP ?_;exact BK306.out) : p := h
theorem Z74 {p : Prop} (h : p := by refine bP ?_;refine blk_put (cs := #[.bool t148,.int .u64 t149,.int .u64 0]) ?_ 2 _ rfl;refine bP ?_;refine blk_put (cs := #[.bool t148,.int .u64 0,.int .u64 0]) ?_ 1 _ rfl;refine bP ?_;refine blk_put (cs := #[.bool false,.int .u64 0,.int .u64 0]) ?_ 0 _ rfl;refine bP ?_;exact BK152.out) : p := h
theorem Z75 {p : Prop} (h : p := by refine bP ?_;refine blk_put (cs := #[.bool t319,.int .u64 t320,.int .u64 0]) ?_ 2 _ rfl;refine bP ?_;refine blk_put (cs := #[.bool t319,.int .u64 0,.int .u64 0]) ?_ 1 _ rfl;refine bP ?_;refine blk_put (cs := #[.bool false,.int .u64 0,.int .u64 0]) ?_ 0 _ rfl;refine bP ?_;exact BK323.out) : p := h
theorem Z76 {p : Prop} (h : p := by refine bP ?_;refine blk_put (cs := #[.bool t153,.int .u64 t154,.int .u64 0]) ?_ 2 _ rfl;refine bP ?_;refine blk_put (cs := #[.bool t153,.int .u64 0,.int .u64 0]) ?_ 1 _ rfl;refine bP ?_;refine blk_put (cs := #[.bool false,.int .u64 0,.int .u64 0]) ?_ 0 _ rfl;refine bP ?_;exact BK157.out) : p := h
theorem Z77 {p : Prop} (h : p := by refine bP ?_;refine blk_put (cs := #[.bool false,.int .u64 0,.int .u64 0]) ?_ 2 _ rfl;refine bP ?_;refine blk_put (cs := #[.bool false,.int .u64 0,.int .u64 0]) ?_ 1 _ rfl;refine bP ?_;refine blk_put (cs := #[.bool false,.int .u64 0,.int .u64 0]) ?_ 0 _ rfl;refine bP ?_;exact BK131.out) : p := h
theorem Z78 {p : Prop} (h : p := by refine bP ?_;refine blk_put (cs := #[.bool false,.int .u64 0,.int .u64 0]) ?_ 2 _ rfl;refine bP ?_;refine blk_put (cs := #[.bool false,.int .u64 0,.int .u64 0]) ?_ 1 _ rfl;refine bP ?_;refine blk_put (cs := #[.bool false,.int .u64 0,.int .u64 0]) ?_ 0 _ rfl;refine bP ?_;exact BK162.out) : p := h
theorem Z79 {p : Prop} (h : p := by refine bP ?_;refine blk_put (cs := #[.bool false,.int .u64 0,.int .u64 0]) ?_ 2 _ rfl;refine bP ?_;refine blk_put (cs := #[.bool false,.int .u64 0,.int .u64 0]) ?_ 1 _ rfl;refine bP ?_;refine blk_put (cs := #[.bool false,.int .u64 0,.int .u64 0]) ?_ 0 _ rfl;refine bP ?_;exact BK337.out) : p := h
theorem Z80 {p : Prop} (h : p := by refine bP ?_;refine blk_put (cs := #[.bool false,.int .u64 0,.int .u64 0]) ?_ 2 _ rfl;refine bP ?_;refine blk_put (cs := #[.bool false,.int .u64 0,.int .u64 0]) ?_ 1 _ rfl;refine bP ?_;refine blk_put (cs := #[.bool false,.int .u64 0,.int .u64 0]) ?_ 0 _ rfl;refine bP ?_;exact BK294.out) : p := h
theorem Z81 {p : Prop} (h : p := by repeat (first | (with_reducible first | exact HB.out | apply below_alloc | apply pw_below_drewN | apply below_drew1 | refine below_set ?_ GE439.out | refine below_set ?_ GE445.out | refine below_set ?_ GE449.out | refine below_set ?_ GE455.out) | exact HB.out)) : p := h
theorem Z82 {p : Prop} (h : p := by rw [hg];exact (below_size Z416)) : p := h
theorem Z83 {p : Prop} (h : p := by rw [hg];exact (below_size Z417)) : p := h
theorem Z84 {p : Prop} (h : p := by rw [hg];exact (below_size Z415)) : p := h
theorem Z85 {p : Prop} (h : p := by repeat (first | (with_reducible first | exact HB.out | apply below_alloc | apply pw_below_drewN | apply below_drew1 | refine below_set ?_ GE160.out | refine below_set ?_ GE161.out | refine below_set ?_ GE162.out | refine below_set ?_ GE165.out) | exact HB.out)) : p := h
theorem Z86 {p : Prop} (h : p := by rw [hg];exact (below_size Z418)) : p := h
theorem Z87 {p : Prop} (h : p := by repeat (first | (with_reducible first | exact HB.out | apply below_alloc | apply pw_below_drewN | apply below_drew1 | refine below_set ?_ GE242.out | refine below_set ?_ GE246.out | refine below_set ?_ GE252.out | refine below_set ?_ GE258.out) | exact HB.out)) : p := h
theorem Z88 {p : Prop} (h : p := by rw [hg];exact (below_size Z419)) : p := h
theorem Z89 {p : Prop} (h : p := by rw [hg];exact (below_size Z420)) : p := h
theorem Z90 {p : Prop} (h : p := by rw [hg];exact (below_size Z421)) : p := h
theorem Z91 {p : Prop} (h : p := by repeat (first | (with_reducible first | exact HB.out | apply below_alloc | apply pw_below_drewN | apply below_drew1 | refine below_set ?_ GE335.out | refine below_set ?_ GE336.out | refine below_set ?_ GE337.out | refine below_set ?_ GE362.out) | exact HB.out)) : p := h
theorem Z92 {p : Prop} (h : p := by repeat (first | (with_reducible first | exact HB.out | apply below_alloc | apply pw_below_drewN | apply below_drew1 | refine below_set ?_ GE386.out | refine below_set ?_ GE387.out | refine below_set ?_ GE393.out | refine below_set ?_ GE399.out) | exact HB.out)) : p := h
theorem Z93 {p : Prop} (h : p := by repeat (first | (with_reducible first | exact HB.out | apply below_alloc | apply pw_below_drewN | apply below_drew1 | refine below_set ?_ GE193.out | refine below_set ?_ GE194.out | refine below_set ?_ GE200.out | refine below_set ?_ GE206.out) | exact HB.out)) : p := h
theorem Z94 {p : Prop} (h : p := by rw [hg];exact (below_size Z425)) : p := h
theorem Z95 {p : Prop} (h : p := by rw [hg];exact (below_size Z414)) : p := h
theorem Z96 {p : Prop} (h : p := by rw [hg];exact (below_size Z426)) : p := h
theorem Z97 {p : Prop} (h : p := by repeat (first | (with_reducible first | exact HB.out | apply below_alloc | apply pw_below_drewN | apply below_drew1 | refine below_set ?_ GE415.out | refine below_set ?_ GE416.out | refine below_set ?_ GE424.out | refine below_set ?_ GE425.out) | exact HB.out)) : p := h
theorem Z98 {p : Prop} (h : p := by repeat (first | (with_reducible first | exact HB.out | apply below_alloc | apply pw_below_drewN | apply below_drew1 | refine below_set ?_ GE218.out | refine below_set ?_ GE219.out | refine below_set ?_ GE227.out | refine below_set ?_ GE228.out) | exact HB.out)) : p := h
theorem Z99 {p : Prop} (h : p := by rw [hg];exact (below_size Z424)) : p := h
theorem Z100 {p : Prop} (h : p := by rw [hg];exact (below_size Z427)) : p := h
theorem Z101 {p : Prop} (h : p := by rw [hg];exact (below_size Z428)) : p := h
theorem Z102 {p : Prop} (h : p := by rw [← hq_];exact Z422) : p := h
theorem Z103 {p : Prop} (h : p := by rw [← hq_];exact Z414) : p := h
theorem Z104 {p : Prop} (h : p := by rw [← hq_];exact Z423) : p := h
theorem Z105 {p : Prop} (h : p := by repeat (first | (with_reducible first | exact HI0.out | apply IsS76.alloc | apply IsS76.drewN | apply IsS76.drew | apply IsS76.set_1 | apply IsS76.set_2 | refine IsS76.far ?_ NB0_521.out _ | refine IsS76.far ?_ NB0_536.out _) | exact HI0.out)) : p := h
theorem Z106 {p : Prop} (h : p := by rw [hg];exact (keep_size (w := w) (g := g) (row := none) Z449)) : p := h
theorem Z107 {p : Prop} (h : p := by repeat (first | (with_reducible first | exact HB.out | apply below_alloc | apply pw_below_drewN | apply below_drew1 | refine below_set ?_ (IsS76.ge HI0.out) | refine below_set ?_ GE521.out | refine below_set ?_ GE536.out) | exact HB.out)) : p := h
theorem Z108 {p : Prop} (h : p := by repeat (first | (with_reducible first | exact HB.out | apply below_alloc | apply pw_below_drewN | apply below_drew1 | refine below_set ?_ GE130.out | refine below_set ?_ GE131.out | refine below_set ?_ GE138.out) | exact HB.out)) : p := h
theorem Z109 {p : Prop} (h : p := by rw [hg];exact (below_size Z429)) : p := h
theorem Z110 {p : Prop} (h : p := by rw [hg];exact (below_size Z431)) : p := h
theorem Z111 {p : Prop} (h : p := by rw [hg];exact (below_size Z432)) : p := h
theorem Z112 {p : Prop} (h : p := by rw [hg];exact (below_size Z430)) : p := h
theorem Z113 {p : Prop} (h : p := by rw [hg];exact (below_size Z437)) : p := h
theorem Z114 {p : Prop} (h : p := by repeat (first | (with_reducible first | exact HB.out | apply below_alloc | apply pw_below_drewN | apply below_drew1 | refine below_set ?_ GE293.out | refine below_set ?_ GE294.out | refine below_set ?_ GE306.out) | exact HB.out)) : p := h
theorem Z115 {p : Prop} (h : p := by rw [hg];exact (below_size Z439)) : p := h
theorem Z116 {p : Prop} (h : p := by rw [hg];exact (below_size Z433)) : p := h
theorem Z117 {p : Prop} (h : p := by rw [hg];exact (below_size Z440)) : p := h
theorem Z118 {p : Prop} (h : p := by rw [hg];exact (below_size Z441)) : p := h
theorem Z119 {p : Prop} (h : p := by rw [hg];exact (below_size Z434)) : p := h
theorem Z120 {p : Prop} (h : p := by repeat (first | (with_reducible first | exact HB.out | apply below_alloc | apply pw_below_drewN | apply below_drew1 | refine below_set ?_ GE263.out | refine below_set ?_ GE264.out | refine below_set ?_ GE265.out) | exact HB.out)) : p := h
theorem Z121 {p : Prop} (h : p := by rw [hg];exact (below_size Z435)) : p := h
theorem Z122 {p : Prop} (h : p := by rw [hg];exact (below_size Z444)) : p := h
theorem Z123 {p : Prop} (h : p := by rw [hg];exact (below_size Z436)) : p := h
theorem Z124 {p : Prop} (h : p := by rw [hg];exact (below_size Z443)) : p := h
theorem Z125 {p : Prop} (h : p := by rw [hg];exact (below_size Z445)) : p := h
theorem Z126 {p : Prop} (h : p := by rw [hg];exact (below_size Z446)) : p := h
theorem Z127 {p : Prop} (h : p := by rw [hg];exact (below_size Z447)) : p := h
theorem Z128 {p : Prop} (h : p := by rw [hg];exact (below_size Z448)) : p := h
theorem Z129 {p : Prop} (h : p := by rw [← hq_];exact Z429) : p := h
theorem Z130 {p : Prop} (h : p := by rw [← hq_];exact Z430) : p := h
theorem Z131 {p : Prop} (h : p := by rw [← hq_];exact Z438) : p := h
theorem Z132 {p : Prop} (h : p := by rw [← hq_];exact Z442) : p := h
theorem Z133 {p : Prop} (h : p := by refine bP ?_;refine blk_far ?_ NB449_455.out _;refine bP ?_;refine blk_far ?_ NB449_455.out _;refine bP ?_;refine blk_far ?_ NB449_455.out _;refine bP ?_;refine blk_far ?_ NB449_455.out _;refine bP ?_;exact BK449.out) : p := h
theorem Z134 {p : Prop} (h : p := by refine bP ?_;refine blk_far ?_ NB445_455.out _;refine bP ?_;refine blk_far ?_ NB445_455.out _;refine bP ?_;refine blk_far ?_ NB445_455.out _;refine bP ?_;refine blk_far ?_ NB445_455.out _;refine bP ?_;exact BK445.out) : p := h
theorem Z135 {p : Prop} (h : p := by refine bP ?_;refine blk_far ?_ NB439_455.out _;refine bP ?_;refine blk_far ?_ NB439_455.out _;refine bP ?_;refine blk_far ?_ NB439_455.out _;refine bP ?_;refine blk_far ?_ NB439_455.out _;refine bP ?_;exact BK439.out) : p := h
theorem Z136 {p : Prop} (h : p := by refine bP ?_;refine blk_far ?_ NB439_445.out _;refine bP ?_;refine blk_far ?_ NB439_445.out _;refine bP ?_;refine blk_far ?_ NB439_445.out _;refine bP ?_;refine blk_far ?_ NB439_445.out _;refine bP ?_;exact BK439.out) : p := h
theorem Z137 {p : Prop} (h : p := by refine bP ?_;refine blk_far ?_ NB246_252.out _;refine bP ?_;refine blk_far ?_ NB246_252.out _;refine bP ?_;refine blk_far ?_ NB246_252.out _;refine bP ?_;refine blk_far ?_ NB246_252.out _;refine bP ?_;exact BK246.out) : p := h
theorem Z138 {p : Prop} (h : p := by refine bP ?_;refine blk_far ?_ NB242_252.out _;refine bP ?_;refine blk_far ?_ NB242_252.out _;refine bP ?_;refine blk_far ?_ NB242_252.out _;refine bP ?_;refine blk_far ?_ NB242_252.out _;refine bP ?_;exact BK242.out) : p := h
theorem Z139 {p : Prop} (h : p := by refine bP ?_;refine blk_far ?_ NB387_393.out _;refine bP ?_;refine blk_far ?_ NB387_393.out _;refine bP ?_;refine blk_far ?_ NB387_393.out _;refine bP ?_;refine blk_far ?_ NB387_393.out _;refine bP ?_;exact BK387.out) : p := h
theorem Z140 {p : Prop} (h : p := by refine bP ?_;refine blk_far ?_ NB386_393.out _;refine bP ?_;refine blk_far ?_ NB386_393.out _;refine bP ?_;refine blk_far ?_ NB386_393.out _;refine bP ?_;refine blk_far ?_ NB386_393.out _;refine bP ?_;exact BK386.out) : p := h
theorem Z141 {p : Prop} (h : p := by refine bP ?_;refine blk_far ?_ NB194_200.out _;refine bP ?_;refine blk_far ?_ NB194_200.out _;refine bP ?_;refine blk_far ?_ NB194_200.out _;refine bP ?_;refine blk_far ?_ NB194_200.out _;refine bP ?_;exact BK194.out) : p := h
theorem Z142 {p : Prop} (h : p := by refine bP ?_;refine blk_far ?_ NB193_200.out _;refine bP ?_;refine blk_far ?_ NB193_200.out _;refine bP ?_;refine blk_far ?_ NB193_200.out _;refine bP ?_;refine blk_far ?_ NB193_200.out _;refine bP ?_;exact BK193.out) : p := h
theorem Z143 {p : Prop} (h : p := by refine bP ?_;refine blk_far ?_ NB264_265.out _;refine bP ?_;refine blk_far ?_ NB264_265.out _;refine bP ?_;refine blk_far ?_ NB264_265.out _;refine bP ?_;refine blk_far ?_ NB264_265.out _;refine bP ?_;exact BK264.out) : p := h
theorem Z144 {p : Prop} (h : p := by refine bP ?_;refine blk_far ?_ NB263_265.out _;refine bP ?_;refine blk_far ?_ NB263_265.out _;refine bP ?_;refine blk_far ?_ NB263_265.out _;refine bP ?_;refine blk_far ?_ NB263_265.out _;refine bP ?_;exact BK263.out) : p := h
theorem Z145 {p : Prop} (h : p := by refine bP ?_;refine blk_far ?_ NB252_258.out _;refine bP ?_;refine blk_far ?_ NB252_258.out _;refine bP ?_;refine blk_far ?_ NB252_258.out _;refine bP ?_;refine blk_far ?_ NB252_258.out _;refine bP ?_;exact BK252.out) : p := h
theorem Z146 {p : Prop} (h : p := by refine bP ?_;refine blk_far ?_ NB246_258.out _;refine bP ?_;refine blk_far ?_ NB246_258.out _;refine bP ?_;refine blk_far ?_ NB246_258.out _;refine bP ?_;refine blk_far ?_ NB246_258.out _;refine bP ?_;exact BK246.out) : p := h
theorem Z147 {p : Prop} (h : p := by refine bP ?_;refine blk_far ?_ NB242_258.out _;refine bP ?_;refine blk_far ?_ NB242_258.out _;refine bP ?_;refine blk_far ?_ NB242_258.out _;refine bP ?_;refine blk_far ?_ NB242_258.out _;refine bP ?_;exact BK242.out) : p := h
theorem Z148 {p : Prop} (h : p := by refine bP ?_;refine blk_far ?_ NB190_191.out _;refine bP ?_;refine blk_far ?_ NB190_191.out _;refine bP ?_;refine blk_far ?_ NB190_191.out _;refine bP ?_;refine blk_far ?_ NB190_191.out _;refine bP ?_;exact BK190.out) : p := h
theorem Z149 {p : Prop} (h : p := by refine bP ?_;refine blk_far ?_ NB185_191.out _;refine bP ?_;refine blk_far ?_ NB185_191.out _;refine bP ?_;refine blk_far ?_ NB185_191.out _;refine bP ?_;refine blk_far ?_ NB185_191.out _;refine bP ?_;exact BK185.out) : p := h
theorem Z150 {p : Prop} (h : p := by refine bP ?_;refine blk_far ?_ NB184_191.out _;refine bP ?_;refine blk_far ?_ NB184_191.out _;refine bP ?_;refine blk_far ?_ NB184_191.out _;refine bP ?_;refine blk_far ?_ NB184_191.out _;refine bP ?_;exact BK184.out) : p := h
theorem Z151 {p : Prop} (h : p := by refine bP ?_;refine blk_far ?_ NB176_191.out _;refine bP ?_;refine blk_far ?_ NB176_191.out _;refine bP ?_;refine blk_far ?_ NB176_191.out _;refine bP ?_;refine blk_far ?_ NB176_191.out _;refine bP ?_;exact BK176.out) : p := h
theorem Z152 {p : Prop} (h : p := by refine bP ?_;refine blk_far ?_ NB175_191.out _;refine bP ?_;refine blk_far ?_ NB175_191.out _;refine bP ?_;refine blk_far ?_ NB175_191.out _;refine bP ?_;refine blk_far ?_ NB175_191.out _;refine bP ?_;exact BK175.out) : p := h
theorem Z153 {p : Prop} (h : p := by refine bP ?_;refine blk_far ?_ NB174_191.out _;refine bP ?_;refine blk_far ?_ NB174_191.out _;refine bP ?_;refine blk_far ?_ NB174_191.out _;refine bP ?_;refine blk_far ?_ NB174_191.out _;refine bP ?_;exact BK174.out) : p := h
theorem Z154 {p : Prop} (h : p := by refine bP ?_;refine blk_far ?_ NB169_171.out _;refine bP ?_;refine blk_far ?_ NB169_171.out _;refine bP ?_;refine blk_far ?_ NB169_171.out _;refine bP ?_;refine blk_far ?_ NB169_171.out _;refine bP ?_;exact BK169.out) : p := h
theorem Z155 {p : Prop} (h : p := by refine bP ?_;refine blk_far ?_ NB168_171.out _;refine bP ?_;refine blk_far ?_ NB168_171.out _;refine bP ?_;refine blk_far ?_ NB168_171.out _;refine bP ?_;refine blk_far ?_ NB168_171.out _;refine bP ?_;exact BK168.out) : p := h
theorem Z156 {p : Prop} (h : p := by refine bP ?_;refine blk_far ?_ NB162_171.out _;refine bP ?_;refine blk_far ?_ NB162_171.out _;refine bP ?_;refine blk_far ?_ NB162_171.out _;refine bP ?_;refine blk_far ?_ NB162_171.out _;refine bP ?_;exact BK162.out) : p := h
theorem Z157 {p : Prop} (h : p := by refine bP ?_;refine blk_far ?_ NB162_165.out _;refine bP ?_;refine blk_far ?_ NB162_165.out _;refine bP ?_;refine blk_far ?_ NB162_165.out _;refine bP ?_;refine blk_far ?_ NB162_165.out _;refine bP ?_;exact BK162.out) : p := h
theorem Z158 {p : Prop} (h : p := by refine bP ?_;refine blk_far ?_ NB161_171.out _;refine bP ?_;refine blk_far ?_ NB161_171.out _;refine bP ?_;refine blk_far ?_ NB161_171.out _;refine bP ?_;refine blk_far ?_ NB161_171.out _;refine bP ?_;exact BK161.out) : p := h
theorem Z159 {p : Prop} (h : p := by refine bP ?_;refine blk_far ?_ NB161_165.out _;refine bP ?_;refine blk_far ?_ NB161_165.out _;refine bP ?_;refine blk_far ?_ NB161_165.out _;refine bP ?_;refine blk_far ?_ NB161_165.out _;refine bP ?_;exact BK161.out) : p := h
theorem Z160 {p : Prop} (h : p := by refine bP ?_;refine blk_far ?_ NB160_171.out _;refine bP ?_;refine blk_far ?_ NB160_171.out _;refine bP ?_;refine blk_far ?_ NB160_171.out _;refine bP ?_;refine blk_far ?_ NB160_171.out _;refine bP ?_;exact BK160.out) : p := h
theorem Z161 {p : Prop} (h : p := by refine bP ?_;refine blk_far ?_ NB160_165.out _;refine bP ?_;refine blk_far ?_ NB160_165.out _;refine bP ?_;refine blk_far ?_ NB160_165.out _;refine bP ?_;refine blk_far ?_ NB160_165.out _;refine bP ?_;exact BK160.out) : p := h
theorem Z162 {p : Prop} (h : p := by refine bP ?_;refine blk_far ?_ NB114_118.out _;refine bP ?_;refine blk_far ?_ NB114_118.out _;refine bP ?_;refine blk_far ?_ NB114_118.out _;refine bP ?_;refine blk_far ?_ NB114_118.out _;refine bP ?_;exact BK114.out) : p := h
theorem Z163 {p : Prop} (h : p := by refine bP ?_;refine blk_far ?_ NB587_593.out _;refine bP ?_;refine blk_far ?_ NB587_593.out _;refine bP ?_;refine blk_far ?_ NB587_593.out _;refine bP ?_;refine blk_far ?_ NB587_593.out _;refine bP ?_;exact BK587.out) : p := h
theorem Z164 {p : Prop} (h : p := by refine bP ?_;refine blk_far ?_ NB581_593.out _;refine bP ?_;refine blk_far ?_ NB581_593.out _;refine bP ?_;refine blk_far ?_ NB581_593.out _;refine bP ?_;refine blk_far ?_ NB581_593.out _;refine bP ?_;exact BK581.out) : p := h
theorem Z165 {p : Prop} (h : p := by refine bP ?_;refine blk_far ?_ NB578_593.out _;refine bP ?_;refine blk_far ?_ NB578_593.out _;refine bP ?_;refine blk_far ?_ NB578_593.out _;refine bP ?_;refine blk_far ?_ NB578_593.out _;refine bP ?_;exact BK578.out) : p := h
theorem Z166 {p : Prop} (h : p := by repeat (first | (with_reducible first | exact HK.out | apply KeepBut.set_ | apply keep_drewN | apply keep_drew | apply keep_alloc | refine keep_far ?_ GW521.out _ | refine keep_far ?_ GW536.out _) | exact HK.out)) : p := h
theorem Z167 {p : Prop} (h : p := by repeat (first | (with_reducible first | exact HI547.out | apply IsS76.alloc | apply IsS76.drewN | apply IsS76.drew | apply IsS76.set_1 | apply IsS76.set_2 | refine IsS76.far ?_ NB547_543.out _) | exact HI547.out)) : p := h
theorem Z168 {p : Prop} (h : p := by rw [hg];exact (keep_size (w := w) (g := g) (row := none) Z484)) : p := h
theorem Z169 {p : Prop} (h : p := by repeat (first | (with_reducible first | exact HB.out | apply below_alloc | apply pw_below_drewN | apply below_drew1 | refine below_set ?_ (IsS76.ge HI547.out) | refine below_set ?_ GE543.out) | exact HB.out)) : p := h
theorem Z170 {p : Prop} (h : p := by repeat (first | (with_reducible first | exact HI0.out | apply IsS76.alloc | apply IsS76.drewN | apply IsS76.drew | apply IsS76.set_1 | apply IsS76.set_2 | refine IsS76.far ?_ NB0_521.out _) | exact HI0.out)) : p := h
theorem Z171 {p : Prop} (h : p := by repeat (first | (with_reducible first | exact HI0.out | apply IsS76.alloc | apply IsS76.drewN | apply IsS76.drew | apply IsS76.set_1 | apply IsS76.set_2 | refine IsS76.far ?_ NB0_502.out _) | exact HI0.out)) : p := h
theorem Z172 {p : Prop} (h : p := by repeat (first | (with_reducible first | exact HB.out | apply below_alloc | apply pw_below_drewN | apply below_drew1 | refine below_set ?_ (IsS76.ge HI0.out) | refine below_set ?_ GE521.out) | exact HB.out)) : p := h
theorem Z173 {p : Prop} (h : p := by repeat (first | (with_reducible first | exact HB.out | apply below_alloc | apply pw_below_drewN | apply below_drew1 | refine below_set ?_ (IsS76.ge HI0.out) | refine below_set ?_ GE502.out) | exact HB.out)) : p := h
theorem Z174 {p : Prop} (h : p := by rw [hg];exact Nat.ne_of_lt (blk_lt (g := gb439) (o := .cells #[.int .i64 a0_0,.int .i64 a0_1,.int .i64 a0_2,.int .i64 a0_3,.int .i64 a0_4,.int .i64 a0_5] 35 (0,0)) Z519)) : p := h
theorem Z175 {p : Prop} (h : p := by rw [hg];exact Nat.ne_of_lt (blk_lt (g := gb242) (o := .cells #[.int .i64 a0_0,.int .i64 a0_1,.int .i64 a0_2,.int .i64 a0_3,.int .i64 a0_4,.int .i64 a0_5] 35 (0,0)) Z520)) : p := h
theorem Z176 {p : Prop} (h : p := by rw [hg];exact Nat.ne_of_gt (blk_lt (g := gb439) (o := .cells #[.int .i64 a0_0,.int .i64 a0_1,.int .i64 a0_2,.int .i64 a0_3,.int .i64 a0_4,.int .i64 a0_5] 35 (0,0)) Z519)) : p := h
theorem Z177 {p : Prop} (h : p := by rw [hg];exact Nat.ne_of_gt (blk_lt (g := gb242) (o := .cells #[.int .i64 a0_0,.int .i64 a0_1,.int .i64 a0_2,.int .i64 a0_3,.int .i64 a0_4,.int .i64 a0_5] 35 (0,0)) Z520)) : p := h
theorem Z178 {p : Prop} (h : p := by rw [hg];exact Nat.ne_of_lt (blk_lt (g := gb386) (o := .cells #[.int .i64 a0_0,.int .i64 a0_1,.int .i64 a0_2,.int .i64 a0_3,.int .i64 a0_4,.int .i64 a0_5] 35 (0,0)) Z533)) : p := h
theorem Z179 {p : Prop} (h : p := by rw [hg];exact Nat.ne_of_lt (blk_lt (g := gb193) (o := .cells #[.int .i64 a0_0,.int .i64 a0_1,.int .i64 a0_2,.int .i64 a0_3,.int .i64 a0_4,.int .i64 a0_5] 35 (0,0)) Z534)) : p := h
theorem Z180 {p : Prop} (h : p := by rw [hg];exact Nat.ne_of_gt (blk_lt (g := gb386) (o := .cells #[.int .i64 a0_0,.int .i64 a0_1,.int .i64 a0_2,.int .i64 a0_3,.int .i64 a0_4,.int .i64 a0_5] 35 (0,0)) Z533)) : p := h
theorem Z181 {p : Prop} (h : p := by rw [hg];exact Nat.ne_of_gt (blk_lt (g := gb193) (o := .cells #[.int .i64 a0_0,.int .i64 a0_1,.int .i64 a0_2,.int .i64 a0_3,.int .i64 a0_4,.int .i64 a0_5] 35 (0,0)) Z534)) : p := h
theorem Z182 {p : Prop} (h : p := by rw [hg];exact Nat.ne_of_lt (blk_lt (g := gb578) (o := .cells #[.int .i64 t571,.int .i64 t572,.int .i64 t573,.int .i64 t574,.int .i64 t575,.int .i64 t576] 35 (0,0)) Z550)) : p := h
theorem Z183 {p : Prop} (h : p := by rw [hg];exact Nat.ne_of_gt (blk_lt (g := gb578) (o := .cells #[.int .i64 t571,.int .i64 t572,.int .i64 t573,.int .i64 t574,.int .i64 t575,.int .i64 t576] 35 (0,0)) Z550)) : p := h
theorem Z184 {p : Prop} (h : p := by rw [hg];exact (below_size Z457)) : p := h
theorem Z185 {p : Prop} (h : p := by repeat (first | (with_reducible first | exact HB.out | apply below_alloc | apply pw_below_drewN | apply below_drew1 | refine below_set ?_ GE212.out | refine below_set ?_ GE213.out) | exact HB.out)) : p := h
theorem Z186 {p : Prop} (h : p := by repeat (first | (with_reducible first | exact HB.out | apply below_alloc | apply pw_below_drewN | apply below_drew1 | refine below_set ?_ GE405.out | refine below_set ?_ GE406.out) | exact HB.out)) : p := h
theorem Z187 {p : Prop} (h : p := by rw [hg];exact (below_size Z455)) : p := h
theorem Z188 {p : Prop} (h : p := by rw [hg];exact (below_size Z458)) : p := h
theorem Z189 {p : Prop} (h : p := by rw [hg];exact (below_size Z456)) : p := h
theorem Z190 {p : Prop} (h : p := by rw [hg];exact (below_size Z459)) : p := h
theorem Z191 {p : Prop} (h : p := by repeat (first | (with_reducible first | exact HB.out | apply below_alloc | apply pw_below_drewN | apply below_drew1 | refine below_set ?_ GE158.out | refine below_set ?_ GE159.out) | exact HB.out)) : p := h
theorem Z192 {p : Prop} (h : p := by rw [hg];exact (below_size Z462)) : p := h
theorem Z193 {p : Prop} (h : p := by rw [hg];exact (below_size Z463)) : p := h
theorem Z194 {p : Prop} (h : p := by rw [hg];exact (below_size Z464)) : p := h
theorem Z195 {p : Prop} (h : p := by rw [hg];exact (below_size Z465)) : p := h
theorem Z196 {p : Prop} (h : p := by rw [hg];exact (below_size Z466)) : p := h
theorem Z197 {p : Prop} (h : p := by rw [hg];exact (below_size Z467)) : p := h
theorem Z198 {p : Prop} (h : p := by repeat (first | (with_reducible first | exact HB.out | apply below_alloc | apply pw_below_drewN | apply below_drew1 | refine below_set ?_ GE114.out | refine below_set ?_ GE118.out) | exact HB.out)) : p := h
theorem Z199 {p : Prop} (h : p := by rw [hg];exact (below_size Z469)) : p := h
theorem Z200 {p : Prop} (h : p := by rw [hg];exact (below_size Z470)) : p := h
theorem Z201 {p : Prop} (h : p := by rw [hg];exact (below_size Z471)) : p := h
theorem Z202 {p : Prop} (h : p := by rw [hg];exact (below_size Z472)) : p := h
theorem Z203 {p : Prop} (h : p := by rw [hg];exact (below_size Z460)) : p := h
theorem Z204 {p : Prop} (h : p := by repeat (first | (with_reducible first | exact HB.out | apply below_alloc | apply pw_below_drewN | apply below_drew1 | refine below_set ?_ GE327.out | refine below_set ?_ GE328.out) | exact HB.out)) : p := h
theorem Z205 {p : Prop} (h : p := by repeat (first | (with_reducible first | exact HB.out | apply below_alloc | apply pw_below_drewN | apply below_drew1 | refine below_set ?_ GE434.out | refine below_set ?_ GE435.out) | exact HB.out)) : p := h
theorem Z206 {p : Prop} (h : p := by repeat (first | (with_reducible first | exact HB.out | apply below_alloc | apply pw_below_drewN | apply below_drew1 | refine below_set ?_ GE237.out | refine below_set ?_ GE238.out) | exact HB.out)) : p := h
theorem Z207 {p : Prop} (h : p := by rw [hg];exact (below_size Z461)) : p := h
theorem Z208 {p : Prop} (h : p := by rw [hg];exact (below_size Z474)) : p := h
theorem Z209 {p : Prop} (h : p := by rw [hg];exact (below_size Z475)) : p := h
theorem Z210 {p : Prop} (h : p := by rw [hg];exact (below_size Z476)) : p := h
theorem Z211 {p : Prop} (h : p := by rw [hg];exact (below_size Z477)) : p := h
theorem Z212 {p : Prop} (h : p := by rw [hg];exact (below_size Z478)) : p := h
theorem Z213 {p : Prop} (h : p := by rw [hg];exact (below_size Z479)) : p := h
theorem Z214 {p : Prop} (h : p := by rw [hg];exact (below_size Z480)) : p := h
theorem Z215 {p : Prop} (h : p := by rw [hg];exact (below_size Z481)) : p := h
theorem Z216 {p : Prop} (h : p := by rw [hg];exact (below_size Z482)) : p := h
theorem Z217 {p : Prop} (h : p := by rw [hg];exact (below_size Z483)) : p := h
theorem Z218 {p : Prop} (h : p := by rw [← hq_];exact Z468) : p := h
theorem Z219 {p : Prop} (h : p := by rw [← hq_];exact Z473) : p := h
theorem Z220 {p : Prop} (h : p := by rw [hg];exact Nat.ne_of_lt (blk_lt (g := gb521) (o := .cells #[.int .i64 0,.int .i64 0,.int .i64 0,.int .i64 0,.int .i64 0,.int .i64 0] 35 (0,0)) Z518)) : p := h
theorem Z221 {p : Prop} (h : p := by rw [hg];exact Nat.ne_of_gt (blk_lt (g := gb521) (o := .cells #[.int .i64 0,.int .i64 0,.int .i64 0,.int .i64 0,.int .i64 0,.int .i64 0] 35 (0,0)) Z518)) : p := h
theorem Z222 {p : Prop} (h : p := by repeat (first | (with_reducible first | exact HK.out | apply KeepBut.set_ | apply keep_drewN | apply keep_drew | apply keep_alloc | refine keep_far ?_ GW502.out _) | exact HK.out)) : p := h
theorem Z223 {p : Prop} (h : p := by refine bP ?_;refine blk_put (cs := #[.int .i64 t446,.int .i64 0]) ?_ 1 _ rfl;refine bP ?_;refine blk_put (cs := #[.int .i64 0,.int .i64 0]) ?_ 0 _ rfl;refine bP ?_;exact BK449.out) : p := h
theorem Z224 {p : Prop} (h : p := by refine bP ?_;refine blk_put (cs := #[.int .i64 t243,.int .i64 0]) ?_ 1 _ rfl;refine bP ?_;refine blk_put (cs := #[.int .i64 0,.int .i64 0]) ?_ 0 _ rfl;refine bP ?_;exact BK246.out) : p := h
theorem Z225 {p : Prop} (h : p := by refine bP ?_;refine blk_put (cs := #[.int .i64 0,.int .i64 0]) ?_ 1 _ rfl;refine bP ?_;refine blk_put (cs := #[.int .i64 0,.int .i64 0]) ?_ 0 _ rfl;refine bP ?_;exact BK429.out) : p := h
theorem Z226 {p : Prop} (h : p := by refine bP ?_;refine blk_put (cs := #[.int .i64 0,.int .i64 0]) ?_ 1 _ rfl;refine bP ?_;refine blk_put (cs := #[.int .i64 0,.int .i64 0]) ?_ 0 _ rfl;refine bP ?_;exact BK232.out) : p := h
theorem Z227 {p : Prop} (h : p := by repeat (first | (with_reducible first | exact HB.out | apply below_alloc | apply pw_below_drewN | apply below_drew1 | refine below_set ?_ (IsS76.ge HI0.out)) | exact HB.out)) : p := h
theorem Z228 {p : Prop} (h : p := by repeat (first | (with_reducible first | exact HI0.out | apply IsS76.alloc | apply IsS76.drewN | apply IsS76.drew | apply IsS76.set_1 | apply IsS76.set_2) | exact HI0.out)) : p := h
theorem Z229 {p : Prop} (h : p := by refine bP ?_;refine blk_put (cs := #[.bool (a0_0 != (decide (a1 < 0))),.int .u64 (IntKind.u64.wrap (t135 + t136)),.int .u64 t137]) ?_ 0 _ rfl;refine bP ?_;exact BK138.out) : p := h
theorem Z230 {p : Prop} (h : p := by refine bP ?_;refine blk_far ?_ NB131_138.out _;refine bP ?_;refine blk_far ?_ NB131_138.out _;refine bP ?_;refine blk_far ?_ NB131_138.out _;refine bP ?_;exact BK131.out) : p := h
theorem Z231 {p : Prop} (h : p := by refine bP ?_;refine blk_far ?_ NB130_138.out _;refine bP ?_;refine blk_far ?_ NB130_138.out _;refine bP ?_;refine blk_far ?_ NB130_138.out _;refine bP ?_;exact BK130.out) : p := h
theorem Z232 {p : Prop} (h : p := by refine bP ?_;refine blk_far ?_ NB162_168.out _;refine bP ?_;refine blk_far ?_ NB162_168.out _;refine bP ?_;refine blk_far ?_ NB162_168.out _;refine bP ?_;exact BK162.out) : p := h
theorem Z233 {p : Prop} (h : p := by refine bP ?_;refine blk_far ?_ NB161_168.out _;refine bP ?_;refine blk_far ?_ NB161_168.out _;refine bP ?_;refine blk_far ?_ NB161_168.out _;refine bP ?_;exact BK161.out) : p := h
theorem Z234 {p : Prop} (h : p := by refine bP ?_;refine blk_far ?_ NB160_168.out _;refine bP ?_;refine blk_far ?_ NB160_168.out _;refine bP ?_;refine blk_far ?_ NB160_168.out _;refine bP ?_;exact BK160.out) : p := h
theorem Z235 {p : Prop} (h : p := by refine bP ?_;refine blk_far ?_ NB337_362.out _;refine bP ?_;refine blk_far ?_ NB337_362.out _;refine bP ?_;refine blk_far ?_ NB337_362.out _;refine bP ?_;exact BK337.out) : p := h
theorem Z236 {p : Prop} (h : p := by refine bP ?_;refine blk_far ?_ NB336_362.out _;refine bP ?_;refine blk_far ?_ NB336_362.out _;refine bP ?_;refine blk_far ?_ NB336_362.out _;refine bP ?_;exact BK336.out) : p := h
theorem Z237 {p : Prop} (h : p := by refine bP ?_;refine blk_far ?_ NB335_362.out _;refine bP ?_;refine blk_far ?_ NB335_362.out _;refine bP ?_;refine blk_far ?_ NB335_362.out _;refine bP ?_;exact BK335.out) : p := h
theorem Z238 {p : Prop} (h : p := by refine bP ?_;refine blk_far ?_ NB311_318.out _;refine bP ?_;refine blk_far ?_ NB311_318.out _;refine bP ?_;refine blk_far ?_ NB311_318.out _;refine bP ?_;exact BK311.out) : p := h
theorem Z239 {p : Prop} (h : p := by refine bP ?_;refine blk_far ?_ NB310_318.out _;refine bP ?_;refine blk_far ?_ NB310_318.out _;refine bP ?_;refine blk_far ?_ NB310_318.out _;refine bP ?_;exact BK310.out) : p := h
theorem Z240 {p : Prop} (h : p := by refine bP ?_;refine blk_far ?_ NB309_318.out _;refine bP ?_;refine blk_far ?_ NB309_318.out _;refine bP ?_;refine blk_far ?_ NB309_318.out _;refine bP ?_;exact BK309.out) : p := h
theorem Z241 {p : Prop} (h : p := by refine bP ?_;refine blk_far ?_ NB308_318.out _;refine bP ?_;refine blk_far ?_ NB308_318.out _;refine bP ?_;refine blk_far ?_ NB308_318.out _;refine bP ?_;exact BK308.out) : p := h
theorem Z242 {p : Prop} (h : p := by refine bP ?_;refine blk_far ?_ NB294_306.out _;refine bP ?_;refine blk_far ?_ NB294_306.out _;refine bP ?_;refine blk_far ?_ NB294_306.out _;refine bP ?_;exact BK294.out) : p := h
theorem Z243 {p : Prop} (h : p := by refine bP ?_;refine blk_far ?_ NB293_306.out _;refine bP ?_;refine blk_far ?_ NB293_306.out _;refine bP ?_;refine blk_far ?_ NB293_306.out _;refine bP ?_;exact BK293.out) : p := h
theorem Z244 {p : Prop} (h : p := by refine bP ?_;refine blk_far ?_ NB169_171.out _;refine bP ?_;refine blk_far ?_ NB169_171.out _;refine bP ?_;refine blk_far ?_ NB169_171.out _;refine bP ?_;exact BK169.out) : p := h
theorem Z245 {p : Prop} (h : p := by refine bP ?_;refine blk_far ?_ NB168_171.out _;refine bP ?_;refine blk_far ?_ NB168_171.out _;refine bP ?_;refine blk_far ?_ NB168_171.out _;refine bP ?_;exact BK168.out) : p := h
theorem Z246 {p : Prop} (h : p := by refine bP ?_;refine blk_far ?_ NB162_171.out _;refine bP ?_;refine blk_far ?_ NB162_171.out _;refine bP ?_;refine blk_far ?_ NB162_171.out _;refine bP ?_;exact BK162.out) : p := h
theorem Z247 {p : Prop} (h : p := by refine bP ?_;refine blk_far ?_ NB162_165.out _;refine bP ?_;refine blk_far ?_ NB162_165.out _;refine bP ?_;refine blk_far ?_ NB162_165.out _;refine bP ?_;exact BK162.out) : p := h
theorem Z248 {p : Prop} (h : p := by refine bP ?_;refine blk_far ?_ NB161_171.out _;refine bP ?_;refine blk_far ?_ NB161_171.out _;refine bP ?_;refine blk_far ?_ NB161_171.out _;refine bP ?_;exact BK161.out) : p := h
theorem Z249 {p : Prop} (h : p := by refine bP ?_;refine blk_far ?_ NB161_165.out _;refine bP ?_;refine blk_far ?_ NB161_165.out _;refine bP ?_;refine blk_far ?_ NB161_165.out _;refine bP ?_;exact BK161.out) : p := h
theorem Z250 {p : Prop} (h : p := by refine bP ?_;refine blk_far ?_ NB160_171.out _;refine bP ?_;refine blk_far ?_ NB160_171.out _;refine bP ?_;refine blk_far ?_ NB160_171.out _;refine bP ?_;exact BK160.out) : p := h
theorem Z251 {p : Prop} (h : p := by refine bP ?_;refine blk_far ?_ NB160_165.out _;refine bP ?_;refine blk_far ?_ NB160_165.out _;refine bP ?_;refine blk_far ?_ NB160_165.out _;refine bP ?_;exact BK160.out) : p := h
theorem Z252 {p : Prop} (h : p := by refine bP ?_;refine blk_far ?_ NB145_152.out _;refine bP ?_;refine blk_far ?_ NB145_152.out _;refine bP ?_;refine blk_far ?_ NB145_152.out _;refine bP ?_;exact BK145.out) : p := h
theorem Z253 {p : Prop} (h : p := by refine bP ?_;refine blk_far ?_ NB144_152.out _;refine bP ?_;refine blk_far ?_ NB144_152.out _;refine bP ?_;refine blk_far ?_ NB144_152.out _;refine bP ?_;exact BK144.out) : p := h
theorem Z254 {p : Prop} (h : p := by refine bP ?_;refine blk_far ?_ NB143_152.out _;refine bP ?_;refine blk_far ?_ NB143_152.out _;refine bP ?_;refine blk_far ?_ NB143_152.out _;refine bP ?_;exact BK143.out) : p := h
theorem Z255 {p : Prop} (h : p := by refine bP ?_;refine blk_far ?_ NB142_152.out _;refine bP ?_;refine blk_far ?_ NB142_152.out _;refine bP ?_;refine blk_far ?_ NB142_152.out _;refine bP ?_;exact BK142.out) : p := h
theorem Z256 {p : Prop} (h : p := by refine bP ?_;refine blk_far ?_ NB318_323.out _;refine bP ?_;refine blk_far ?_ NB318_323.out _;refine bP ?_;refine blk_far ?_ NB318_323.out _;refine bP ?_;exact BK318.out) : p := h
theorem Z257 {p : Prop} (h : p := by refine bP ?_;refine blk_far ?_ NB311_323.out _;refine bP ?_;refine blk_far ?_ NB311_323.out _;refine bP ?_;refine blk_far ?_ NB311_323.out _;refine bP ?_;exact BK311.out) : p := h
theorem Z258 {p : Prop} (h : p := by refine bP ?_;refine blk_far ?_ NB310_323.out _;refine bP ?_;refine blk_far ?_ NB310_323.out _;refine bP ?_;refine blk_far ?_ NB310_323.out _;refine bP ?_;exact BK310.out) : p := h
theorem Z259 {p : Prop} (h : p := by refine bP ?_;refine blk_far ?_ NB309_323.out _;refine bP ?_;refine blk_far ?_ NB309_323.out _;refine bP ?_;refine blk_far ?_ NB309_323.out _;refine bP ?_;exact BK309.out) : p := h
theorem Z260 {p : Prop} (h : p := by refine bP ?_;refine blk_far ?_ NB308_323.out _;refine bP ?_;refine blk_far ?_ NB308_323.out _;refine bP ?_;refine blk_far ?_ NB308_323.out _;refine bP ?_;exact BK308.out) : p := h
theorem Z261 {p : Prop} (h : p := by refine bP ?_;refine blk_far ?_ NB152_157.out _;refine bP ?_;refine blk_far ?_ NB152_157.out _;refine bP ?_;refine blk_far ?_ NB152_157.out _;refine bP ?_;exact BK152.out) : p := h
theorem Z262 {p : Prop} (h : p := by refine bP ?_;refine blk_far ?_ NB145_157.out _;refine bP ?_;refine blk_far ?_ NB145_157.out _;refine bP ?_;refine blk_far ?_ NB145_157.out _;refine bP ?_;exact BK145.out) : p := h
theorem Z263 {p : Prop} (h : p := by refine bP ?_;refine blk_far ?_ NB144_157.out _;refine bP ?_;refine blk_far ?_ NB144_157.out _;refine bP ?_;refine blk_far ?_ NB144_157.out _;refine bP ?_;exact BK144.out) : p := h
theorem Z264 {p : Prop} (h : p := by refine bP ?_;refine blk_far ?_ NB143_157.out _;refine bP ?_;refine blk_far ?_ NB143_157.out _;refine bP ?_;refine blk_far ?_ NB143_157.out _;refine bP ?_;exact BK143.out) : p := h
theorem Z265 {p : Prop} (h : p := by refine bP ?_;refine blk_far ?_ NB142_157.out _;refine bP ?_;refine blk_far ?_ NB142_157.out _;refine bP ?_;refine blk_far ?_ NB142_157.out _;refine bP ?_;exact BK142.out) : p := h
theorem Z266 {p : Prop} (h : p := by rw [hg];exact Nat.ne_of_lt (blk_lt (g := gb169) (o := .cells #[.bool x170000_85,.int .u64 x170001_85,.int .u64 x170002_85] 28 (0,0)) Z556)) : p := h
theorem Z267 {p : Prop} (h : p := by rw [hg];exact Nat.ne_of_lt (blk_lt (g := gb168) (o := .cells #[.bool x169000_85,.int .u64 x169001_85,.int .u64 x169002_85] 28 (0,0)) Z557)) : p := h
theorem Z268 {p : Prop} (h : p := by rw [hg];exact Nat.ne_of_gt (blk_lt (g := gb169) (o := .cells #[.bool x170000_85,.int .u64 x170001_85,.int .u64 x170002_85] 28 (0,0)) Z556)) : p := h
theorem Z269 {p : Prop} (h : p := by rw [hg];exact Nat.ne_of_gt (blk_lt (g := gb168) (o := .cells #[.bool x169000_85,.int .u64 x169001_85,.int .u64 x169002_85] 28 (0,0)) Z557)) : p := h
theorem Z270 {p : Prop} (h : p := by rw [hg];exact (below_size Z485)) : p := h
theorem Z271 {p : Prop} (h : p := by rw [hg];exact (below_size Z486)) : p := h
theorem Z272 {p : Prop} (h : p := by rw [hg];exact Nat.ne_of_lt (blk_lt (g := gb174) (o := .cells #[.bool a0_0,.int .u64 a0_1,.int .u64 a0_2,.int .i64 a0_3] 30 (0,0)) Z517)) : p := h
theorem Z273 {p : Prop} (h : p := by rw [hg];exact Nat.ne_of_gt (blk_lt (g := gb174) (o := .cells #[.bool a0_0,.int .u64 a0_1,.int .u64 a0_2,.int .i64 a0_3] 30 (0,0)) Z517)) : p := h
theorem Z274 {p : Prop} (h : p := by rw [hg];exact Nat.ne_of_lt (blk_lt (g := gb175) (o := .cells #[.bool a1_0,.int .u64 a1_1,.int .u64 a1_2,.int .i64 a1_3] 30 (0,0)) Z521)) : p := h
theorem Z275 {p : Prop} (h : p := by rw [hg];exact Nat.ne_of_gt (blk_lt (g := gb175) (o := .cells #[.bool a1_0,.int .u64 a1_1,.int .u64 a1_2,.int .i64 a1_3] 30 (0,0)) Z521)) : p := h
theorem Z276 {p : Prop} (h : p := by rw [hg];exact Nat.ne_of_lt (blk_lt (g := gb364) (o := .cells #[.bool a0_0,.int .u64 a0_1,.int .u64 a0_2,.int .i64 a0_3] 30 (0,0)) Z522)) : p := h
theorem Z277 {p : Prop} (h : p := by rw [hg];exact Nat.ne_of_gt (blk_lt (g := gb364) (o := .cells #[.bool a0_0,.int .u64 a0_1,.int .u64 a0_2,.int .i64 a0_3] 30 (0,0)) Z522)) : p := h
theorem Z278 {p : Prop} (h : p := by rw [hg];exact Nat.ne_of_lt (blk_lt (g := gb365) (o := .cells #[.bool a1_0,.int .u64 a1_1,.int .u64 a1_2,.int .i64 a1_3] 30 (0,0)) Z527)) : p := h
theorem Z279 {p : Prop} (h : p := by rw [hg];exact Nat.ne_of_gt (blk_lt (g := gb365) (o := .cells #[.bool a1_0,.int .u64 a1_1,.int .u64 a1_2,.int .i64 a1_3] 30 (0,0)) Z527)) : p := h
theorem Z280 {p : Prop} (h : p := by rw [hg];exact Nat.ne_of_lt (blk_lt (g := gb445) (o := .cells #[.bool t440,.int .u64 t441,.int .u64 t442,.int .i64 t443] 30 (0,0)) Z540)) : p := h
theorem Z281 {p : Prop} (h : p := by rw [hg];exact Nat.ne_of_gt (blk_lt (g := gb445) (o := .cells #[.bool t440,.int .u64 t441,.int .u64 t442,.int .i64 t443] 30 (0,0)) Z540)) : p := h
theorem Z282 {p : Prop} (h : p := by rw [hg];exact Nat.ne_of_lt (blk_lt (g := gb308) (o := .cells #[.bool a0_0,.int .u64 a0_1,.int .u64 a0_2,.int .i64 a0_3] 30 (0,0)) Z528)) : p := h
theorem Z283 {p : Prop} (h : p := by rw [hg];exact Nat.ne_of_lt (blk_lt (g := gb142) (o := .cells #[.bool a0_0,.int .u64 a0_1,.int .u64 a0_2,.int .i64 a0_3] 30 (0,0)) Z529)) : p := h
theorem Z284 {p : Prop} (h : p := by rw [hg];exact Nat.ne_of_gt (blk_lt (g := gb308) (o := .cells #[.bool a0_0,.int .u64 a0_1,.int .u64 a0_2,.int .i64 a0_3] 30 (0,0)) Z528)) : p := h
theorem Z285 {p : Prop} (h : p := by rw [hg];exact Nat.ne_of_gt (blk_lt (g := gb142) (o := .cells #[.bool a0_0,.int .u64 a0_1,.int .u64 a0_2,.int .i64 a0_3] 30 (0,0)) Z529)) : p := h
theorem Z286 {p : Prop} (h : p := by rw [hg];exact Nat.ne_of_lt (blk_lt (g := gb415) (o := .cells #[.bool a0_0,.int .u64 a0_1,.int .u64 a0_2,.int .i64 a0_3] 30 (0,0)) Z546)) : p := h
theorem Z287 {p : Prop} (h : p := by rw [hg];exact Nat.ne_of_lt (blk_lt (g := gb309) (o := .cells #[.bool a1_0,.int .u64 a1_1,.int .u64 a1_2,.int .i64 a1_3] 30 (0,0)) Z530)) : p := h
theorem Z288 {p : Prop} (h : p := by rw [hg];exact Nat.ne_of_lt (blk_lt (g := gb218) (o := .cells #[.bool a0_0,.int .u64 a0_1,.int .u64 a0_2,.int .i64 a0_3] 30 (0,0)) Z547)) : p := h
theorem Z289 {p : Prop} (h : p := by rw [hg];exact Nat.ne_of_lt (blk_lt (g := gb143) (o := .cells #[.bool a1_0,.int .u64 a1_1,.int .u64 a1_2,.int .i64 a1_3] 30 (0,0)) Z531)) : p := h
theorem Z290 {p : Prop} (h : p := by rw [hg];exact Nat.ne_of_gt (blk_lt (g := gb415) (o := .cells #[.bool a0_0,.int .u64 a0_1,.int .u64 a0_2,.int .i64 a0_3] 30 (0,0)) Z546)) : p := h
theorem Z291 {p : Prop} (h : p := by rw [hg];exact Nat.ne_of_gt (blk_lt (g := gb309) (o := .cells #[.bool a1_0,.int .u64 a1_1,.int .u64 a1_2,.int .i64 a1_3] 30 (0,0)) Z530)) : p := h
theorem Z292 {p : Prop} (h : p := by rw [hg];exact Nat.ne_of_gt (blk_lt (g := gb218) (o := .cells #[.bool a0_0,.int .u64 a0_1,.int .u64 a0_2,.int .i64 a0_3] 30 (0,0)) Z547)) : p := h
theorem Z293 {p : Prop} (h : p := by rw [hg];exact Nat.ne_of_gt (blk_lt (g := gb143) (o := .cells #[.bool a1_0,.int .u64 a1_1,.int .u64 a1_2,.int .i64 a1_3] 30 (0,0)) Z531)) : p := h
theorem Z294 {p : Prop} (h : p := by rw [hg];exact Nat.ne_of_lt (blk_lt (g := gb252) (o := .cells #[.bool t247,.int .u64 t248,.int .u64 t249,.int .i64 t250] 30 (0,0)) Z555)) : p := h
theorem Z295 {p : Prop} (h : p := by rw [hg];exact Nat.ne_of_gt (blk_lt (g := gb252) (o := .cells #[.bool t247,.int .u64 t248,.int .u64 t249,.int .i64 t250] 30 (0,0)) Z555)) : p := h
theorem Z296 {p : Prop} (h : p := by repeat (first | (with_reducible first | exact HB.out | apply below_alloc | apply pw_below_drewN | apply below_drew1 | refine below_set ?_ GE106.out) | exact HB.out)) : p := h
theorem Z297 {p : Prop} (h : p := by repeat (first | (with_reducible first | exact HB.out | apply below_alloc | apply pw_below_drewN | apply below_drew1 | refine below_set ?_ GE102.out) | exact HB.out)) : p := h
theorem Z298 {p : Prop} (h : p := by rw [hg];exact Nat.ne_of_lt (blk_lt (g := gb416) (o := .cells #[.bool a1_0,.int .u64 a1_1,.int .u64 a1_2,.int .i64 a1_3] 30 (0,0)) Z551)) : p := h
theorem Z299 {p : Prop} (h : p := by rw [hg];exact Nat.ne_of_lt (blk_lt (g := gb219) (o := .cells #[.bool a1_0,.int .u64 a1_1,.int .u64 a1_2,.int .i64 a1_3] 30 (0,0)) Z552)) : p := h
theorem Z300 {p : Prop} (h : p := by rw [hg];exact Nat.ne_of_gt (blk_lt (g := gb416) (o := .cells #[.bool a1_0,.int .u64 a1_1,.int .u64 a1_2,.int .i64 a1_3] 30 (0,0)) Z551)) : p := h
theorem Z301 {p : Prop} (h : p := by rw [hg];exact Nat.ne_of_gt (blk_lt (g := gb219) (o := .cells #[.bool a1_0,.int .u64 a1_1,.int .u64 a1_2,.int .i64 a1_3] 30 (0,0)) Z552)) : p := h
theorem Z302 {p : Prop} (h : p := by repeat (first | (with_reducible first | exact HB.out | apply below_alloc | apply pw_below_drewN | apply below_drew1 | refine below_set ?_ GE105.out) | exact HB.out)) : p := h
theorem Z303 {p : Prop} (h : p := by repeat (first | (with_reducible first | exact HB.out | apply below_alloc | apply pw_below_drewN | apply below_drew1 | refine below_set ?_ GE101.out) | exact HB.out)) : p := h
theorem Z304 {p : Prop} (h : p := by repeat (first | (with_reducible first | exact HB.out | apply below_alloc | apply pw_below_drewN | apply below_drew1 | refine below_set ?_ GE276.out) | exact HB.out)) : p := h
theorem Z305 {p : Prop} (h : p := by rw [hg];exact Nat.ne_of_lt (blk_lt (g := gb393) (o := .cells #[.bool t388,.int .u64 t389,.int .u64 t390,.int .i64 t391] 30 (0,0)) Z565)) : p := h
theorem Z306 {p : Prop} (h : p := by rw [hg];exact Nat.ne_of_lt (blk_lt (g := gb200) (o := .cells #[.bool t195,.int .u64 t196,.int .u64 t197,.int .i64 t198] 30 (0,0)) Z566)) : p := h
theorem Z307 {p : Prop} (h : p := by rw [hg];exact Nat.ne_of_gt (blk_lt (g := gb393) (o := .cells #[.bool t388,.int .u64 t389,.int .u64 t390,.int .i64 t391] 30 (0,0)) Z565)) : p := h
theorem Z308 {p : Prop} (h : p := by rw [hg];exact Nat.ne_of_gt (blk_lt (g := gb200) (o := .cells #[.bool t195,.int .u64 t196,.int .u64 t197,.int .i64 t198] 30 (0,0)) Z566)) : p := h
theorem Z309 {p : Prop} (h : p := by repeat (first | (with_reducible first | exact HB.out | apply below_alloc | apply pw_below_drewN | apply below_drew1 | refine below_set ?_ GE267.out) | exact HB.out)) : p := h
theorem Z310 {p : Prop} (h : p := by repeat (first | (with_reducible first | exact HB.out | apply below_alloc | apply pw_below_drewN | apply below_drew1 | refine below_set ?_ GE562.out) | exact HB.out)) : p := h
theorem Z311 {p : Prop} (h : p := by rw [hg];exact Nat.ne_of_lt (blk_lt (g := gb587) (o := .cells #[.bool t582,.int .u64 t583,.int .u64 t584,.int .i64 t585] 30 (0,0)) Z564)) : p := h
theorem Z312 {p : Prop} (h : p := by rw [hg];exact Nat.ne_of_gt (blk_lt (g := gb587) (o := .cells #[.bool t582,.int .u64 t583,.int .u64 t584,.int .i64 t585] 30 (0,0)) Z564)) : p := h
theorem Z313 {p : Prop} (h : p := by repeat (first | (with_reducible first | exact HB.out | apply below_alloc | apply pw_below_drewN | apply below_drew1 | refine below_set ?_ GE129.out) | exact HB.out)) : p := h
theorem Z314 {p : Prop} (h : p := by rw [hg];exact Nat.ne_of_lt (blk_lt (g := gb176) (o := .cells #[.bool false,.int .u64 0,.int .u64 0,.int .i64 0] 30 (0,0)) Z525)) : p := h
theorem Z315 {p : Prop} (h : p := by rw [hg];exact Nat.ne_of_gt (blk_lt (g := gb176) (o := .cells #[.bool false,.int .u64 0,.int .u64 0,.int .i64 0] 30 (0,0)) Z525)) : p := h
theorem Z316 {p : Prop} (h : p := by rw [hg];exact Nat.ne_of_lt (blk_lt (g := gb366) (o := .cells #[.bool false,.int .u64 0,.int .u64 0,.int .i64 0] 30 (0,0)) Z537)) : p := h
theorem Z317 {p : Prop} (h : p := by rw [hg];exact Nat.ne_of_gt (blk_lt (g := gb366) (o := .cells #[.bool false,.int .u64 0,.int .u64 0,.int .i64 0] 30 (0,0)) Z537)) : p := h
theorem Z318 {p : Prop} (h : p := by rw [hg];exact Nat.ne_of_lt (blk_lt (g := gb387) (o := .cells #[.bool false,.int .u64 0,.int .u64 0,.int .i64 0] 30 (0,0)) Z543)) : p := h
theorem Z319 {p : Prop} (h : p := by rw [hg];exact Nat.ne_of_lt (blk_lt (g := gb194) (o := .cells #[.bool false,.int .u64 0,.int .u64 0,.int .i64 0] 30 (0,0)) Z544)) : p := h
theorem Z320 {p : Prop} (h : p := by rw [hg];exact Nat.ne_of_gt (blk_lt (g := gb387) (o := .cells #[.bool false,.int .u64 0,.int .u64 0,.int .i64 0] 30 (0,0)) Z543)) : p := h
theorem Z321 {p : Prop} (h : p := by rw [hg];exact Nat.ne_of_gt (blk_lt (g := gb194) (o := .cells #[.bool false,.int .u64 0,.int .u64 0,.int .i64 0] 30 (0,0)) Z544)) : p := h
theorem Z322 {p : Prop} (h : p := by rw [hg];exact Nat.ne_of_lt (blk_lt (g := gb264) (o := .cells #[.bool false,.int .u64 0,.int .u64 0,.int .i64 0] 30 (0,0)) Z574)) : p := h
theorem Z323 {p : Prop} (h : p := by rw [hg];exact Nat.ne_of_lt (blk_lt (g := gb114) (o := .cells #[.bool false,.int .u64 0,.int .u64 0,.int .i64 0] 30 (0,0)) Z561)) : p := h
theorem Z324 {p : Prop} (h : p := by rw [hg];exact Nat.ne_of_gt (blk_lt (g := gb264) (o := .cells #[.bool false,.int .u64 0,.int .u64 0,.int .i64 0] 30 (0,0)) Z574)) : p := h
theorem Z325 {p : Prop} (h : p := by rw [hg];exact Nat.ne_of_gt (blk_lt (g := gb114) (o := .cells #[.bool false,.int .u64 0,.int .u64 0,.int .i64 0] 30 (0,0)) Z561)) : p := h
theorem Z326 {p : Prop} (h : p := by repeat (first | exact HR0.out | (with_reducible refine Kd.C_alloc ?_ _) | (with_reducible refine Kd.C_drewN ?_ _) | (with_reducible refine Kd.C_drew ?_))) : p := h
theorem Z327 {p : Prop} (h : p := by rw [hg];exact Nat.ne_of_lt (blk_lt (g := gb130) (o := .cells #[.bool a0_0,.int .u64 a0_1,.int .u64 a0_2] 28 (0,0)) Z583)) : p := h
theorem Z328 {p : Prop} (h : p := by rw [hg];exact Nat.ne_of_gt (blk_lt (g := gb130) (o := .cells #[.bool a0_0,.int .u64 a0_1,.int .u64 a0_2] 28 (0,0)) Z583)) : p := h
theorem Z329 {p : Prop} (h : p := by rw [hg];exact Nat.ne_of_lt (blk_lt (g := gb160) (o := .cells #[.bool a0_0,.int .u64 a0_1,.int .u64 a0_2] 28 (0,0)) Z523)) : p := h
theorem Z330 {p : Prop} (h : p := by rw [hg];exact Nat.ne_of_gt (blk_lt (g := gb160) (o := .cells #[.bool a0_0,.int .u64 a0_1,.int .u64 a0_2] 28 (0,0)) Z523)) : p := h
theorem Z331 {p : Prop} (h : p := by rw [hg];exact Nat.ne_of_lt (blk_lt (g := gb161) (o := .cells #[.bool a1_0,.int .u64 a1_1,.int .u64 a1_2] 28 (0,0)) Z524)) : p := h
theorem Z332 {p : Prop} (h : p := by rw [hg];exact Nat.ne_of_gt (blk_lt (g := gb161) (o := .cells #[.bool a1_0,.int .u64 a1_1,.int .u64 a1_2] 28 (0,0)) Z524)) : p := h
theorem Z333 {p : Prop} (h : p := by rw [hg];exact Nat.ne_of_lt (blk_lt (g := gb293) (o := .cells #[.bool a0_0,.int .u64 a0_1,.int .u64 a0_2] 28 (0,0)) Z585)) : p := h
theorem Z334 {p : Prop} (h : p := by rw [hg];exact Nat.ne_of_gt (blk_lt (g := gb293) (o := .cells #[.bool a0_0,.int .u64 a0_1,.int .u64 a0_2] 28 (0,0)) Z585)) : p := h
theorem Z335 {p : Prop} (h : p := by rw [hg];exact Nat.ne_of_lt (blk_lt (g := gb335) (o := .cells #[.bool a0_0,.int .u64 a0_1,.int .u64 a0_2] 28 (0,0)) Z586)) : p := h
theorem Z336 {p : Prop} (h : p := by rw [hg];exact Nat.ne_of_lt (blk_lt (g := gb263) (o := .cells #[.bool a0_0,.int .u64 a0_1,.int .u64 a0_2] 28 (0,0)) Z560)) : p := h
theorem Z337 {p : Prop} (h : p := by rw [hg];exact Nat.ne_of_gt (blk_lt (g := gb335) (o := .cells #[.bool a0_0,.int .u64 a0_1,.int .u64 a0_2] 28 (0,0)) Z586)) : p := h
theorem Z338 {p : Prop} (h : p := by rw [hg];exact Nat.ne_of_gt (blk_lt (g := gb263) (o := .cells #[.bool a0_0,.int .u64 a0_1,.int .u64 a0_2] 28 (0,0)) Z560)) : p := h
theorem Z339 {p : Prop} (h : p := by rw [hg];exact Nat.ne_of_lt (blk_lt (g := gb336) (o := .cells #[.bool a1_0,.int .u64 a1_1,.int .u64 a1_2] 28 (0,0)) Z588)) : p := h
theorem Z340 {p : Prop} (h : p := by rw [hg];exact Nat.ne_of_lt (blk_lt (g := gb185) (o := .cells #[.bool t180,.int .u64 t181,.int .u64 t182] 28 (0,0)) Z567)) : p := h
theorem Z341 {p : Prop} (h : p := by rw [hg];exact Nat.ne_of_lt (blk_lt (g := gb184) (o := .cells #[.bool t177,.int .u64 t178,.int .u64 t179] 28 (0,0)) Z545)) : p := h
theorem Z342 {p : Prop} (h : p := by rw [hg];exact Nat.ne_of_gt (blk_lt (g := gb336) (o := .cells #[.bool a1_0,.int .u64 a1_1,.int .u64 a1_2] 28 (0,0)) Z588)) : p := h
theorem Z343 {p : Prop} (h : p := by rw [hg];exact Nat.ne_of_gt (blk_lt (g := gb185) (o := .cells #[.bool t180,.int .u64 t181,.int .u64 t182] 28 (0,0)) Z567)) : p := h
theorem Z344 {p : Prop} (h : p := by rw [hg];exact Nat.ne_of_gt (blk_lt (g := gb184) (o := .cells #[.bool t177,.int .u64 t178,.int .u64 t179] 28 (0,0)) Z545)) : p := h
theorem Z345 {p : Prop} (h : p := by rw [hg];exact Nat.ne_of_lt (blk_lt (g := gb375) (o := .cells #[.bool t370,.int .u64 t371,.int .u64 t372] 28 (0,0)) Z571)) : p := h
theorem Z346 {p : Prop} (h : p := by rw [hg];exact Nat.ne_of_lt (blk_lt (g := gb374) (o := .cells #[.bool t367,.int .u64 t368,.int .u64 t369] 28 (0,0)) Z548)) : p := h
theorem Z347 {p : Prop} (h : p := by rw [hg];exact Nat.ne_of_lt (blk_lt (g := gb318) (o := .cells #[.bool t314,.int .u64 t315,.int .u64 t316] 28 (0,0)) Z573)) : p := h
theorem Z348 {p : Prop} (h : p := by rw [hg];exact Nat.ne_of_lt (blk_lt (g := gb152) (o := .cells #[.bool t148,.int .u64 t149,.int .u64 t150] 28 (0,0)) Z577)) : p := h
theorem Z349 {p : Prop} (h : p := by rw [hg];exact Nat.ne_of_gt (blk_lt (g := gb375) (o := .cells #[.bool t370,.int .u64 t371,.int .u64 t372] 28 (0,0)) Z571)) : p := h
theorem Z350 {p : Prop} (h : p := by rw [hg];exact Nat.ne_of_gt (blk_lt (g := gb374) (o := .cells #[.bool t367,.int .u64 t368,.int .u64 t369] 28 (0,0)) Z548)) : p := h
theorem Z351 {p : Prop} (h : p := by rw [hg];exact Nat.ne_of_gt (blk_lt (g := gb318) (o := .cells #[.bool t314,.int .u64 t315,.int .u64 t316] 28 (0,0)) Z573)) : p := h
theorem Z352 {p : Prop} (h : p := by rw [hg];exact Nat.ne_of_gt (blk_lt (g := gb152) (o := .cells #[.bool t148,.int .u64 t149,.int .u64 t150] 28 (0,0)) Z577)) : p := h
theorem Z353 {p : Prop} (h : p := by rw [hg];exact Nat.ne_of_lt (blk_lt (g := gb162) (o := .cells #[.bool false,.int .u64 0,.int .u64 0] 28 (0,0)) Z526)) : p := h
theorem Z354 {p : Prop} (h : p := by rw [hg];exact Nat.ne_of_gt (blk_lt (g := gb162) (o := .cells #[.bool false,.int .u64 0,.int .u64 0] 28 (0,0)) Z526)) : p := h
theorem Z355 {p : Prop} (h : p := by rw [hg];exact Nat.ne_of_lt (blk_lt (g := gb131) (o := .cells #[.bool false,.int .u64 0,.int .u64 0] 28 (0,0)) Z584)) : p := h
theorem Z356 {p : Prop} (h : p := by rw [hg];exact Nat.ne_of_gt (blk_lt (g := gb131) (o := .cells #[.bool false,.int .u64 0,.int .u64 0] 28 (0,0)) Z584)) : p := h
theorem Z357 {p : Prop} (h : p := by rw [hg];exact Nat.ne_of_lt (blk_lt (g := gb310) (o := .cells #[.bool false,.int .u64 0,.int .u64 0] 28 (0,0)) Z535)) : p := h
theorem Z358 {p : Prop} (h : p := by rw [hg];exact Nat.ne_of_lt (blk_lt (g := gb144) (o := .cells #[.bool false,.int .u64 0,.int .u64 0] 28 (0,0)) Z536)) : p := h
theorem Z359 {p : Prop} (h : p := by rw [hg];exact Nat.ne_of_gt (blk_lt (g := gb310) (o := .cells #[.bool false,.int .u64 0,.int .u64 0] 28 (0,0)) Z535)) : p := h
theorem Z360 {p : Prop} (h : p := by rw [hg];exact Nat.ne_of_gt (blk_lt (g := gb144) (o := .cells #[.bool false,.int .u64 0,.int .u64 0] 28 (0,0)) Z536)) : p := h
theorem Z361 {p : Prop} (h : p := by rw [hg];exact Nat.ne_of_lt (blk_lt (g := gb311) (o := .cells #[.bool false,.int .u64 0,.int .u64 0] 28 (0,0)) Z538)) : p := h
theorem Z362 {p : Prop} (h : p := by rw [hg];exact Nat.ne_of_lt (blk_lt (g := gb294) (o := .cells #[.bool false,.int .u64 0,.int .u64 0] 28 (0,0)) Z587)) : p := h
theorem Z363 {p : Prop} (h : p := by rw [hg];exact Nat.ne_of_lt (blk_lt (g := gb184) (o := .cells #[.bool false,.int .u64 0,.int .u64 0] 28 (0,0)) Z545)) : p := h
theorem Z364 {p : Prop} (h : p := by rw [hg];exact Nat.ne_of_lt (blk_lt (g := gb145) (o := .cells #[.bool false,.int .u64 0,.int .u64 0] 28 (0,0)) Z539)) : p := h
theorem Z365 {p : Prop} (h : p := by rw [hg];exact Nat.ne_of_gt (blk_lt (g := gb311) (o := .cells #[.bool false,.int .u64 0,.int .u64 0] 28 (0,0)) Z538)) : p := h
theorem Z366 {p : Prop} (h : p := by rw [hg];exact Nat.ne_of_gt (blk_lt (g := gb294) (o := .cells #[.bool false,.int .u64 0,.int .u64 0] 28 (0,0)) Z587)) : p := h
theorem Z367 {p : Prop} (h : p := by rw [hg];exact Nat.ne_of_gt (blk_lt (g := gb184) (o := .cells #[.bool false,.int .u64 0,.int .u64 0] 28 (0,0)) Z545)) : p := h
theorem Z368 {p : Prop} (h : p := by rw [hg];exact Nat.ne_of_gt (blk_lt (g := gb145) (o := .cells #[.bool false,.int .u64 0,.int .u64 0] 28 (0,0)) Z539)) : p := h
theorem Z369 {p : Prop} (h : p := by rw [hg];exact Nat.ne_of_lt (blk_lt (g := gb374) (o := .cells #[.bool false,.int .u64 0,.int .u64 0] 28 (0,0)) Z548)) : p := h
theorem Z370 {p : Prop} (h : p := by rw [hg];exact Nat.ne_of_gt (blk_lt (g := gb374) (o := .cells #[.bool false,.int .u64 0,.int .u64 0] 28 (0,0)) Z548)) : p := h
theorem Z371 {p : Prop} (h : p := by rw [hg];exact Nat.ne_of_lt (blk_lt (g := gb424) (o := .cells #[.bool false,.int .u64 0,.int .u64 0] 28 (0,0)) Z570)) : p := h
theorem Z372 {p : Prop} (h : p := by rw [hg];exact Nat.ne_of_lt (blk_lt (g := gb337) (o := .cells #[.bool false,.int .u64 0,.int .u64 0] 28 (0,0)) Z589)) : p := h
theorem Z373 {p : Prop} (h : p := by rw [hg];exact Nat.ne_of_lt (blk_lt (g := gb227) (o := .cells #[.bool false,.int .u64 0,.int .u64 0] 28 (0,0)) Z576)) : p := h
theorem Z374 {p : Prop} (h : p := by rw [hg];exact Nat.ne_of_gt (blk_lt (g := gb424) (o := .cells #[.bool false,.int .u64 0,.int .u64 0] 28 (0,0)) Z570)) : p := h
theorem Z375 {p : Prop} (h : p := by rw [hg];exact Nat.ne_of_gt (blk_lt (g := gb337) (o := .cells #[.bool false,.int .u64 0,.int .u64 0] 28 (0,0)) Z589)) : p := h
theorem Z376 {p : Prop} (h : p := by rw [hg];exact Nat.ne_of_gt (blk_lt (g := gb227) (o := .cells #[.bool false,.int .u64 0,.int .u64 0] 28 (0,0)) Z576)) : p := h
theorem Z377 {p : Prop} (h : p := by rw [hg];exact Nat.ne_of_lt (blk_lt (g := gb246) (o := .cells #[.int .i64 t243,.int .i64 t244] 33 (0,0)) Z541)) : p := h
theorem Z378 {p : Prop} (h : p := by rw [hg];exact Nat.ne_of_gt (blk_lt (g := gb246) (o := .cells #[.int .i64 t243,.int .i64 t244] 33 (0,0)) Z541)) : p := h
theorem Z379 {p : Prop} (h : p := by rw [hg];exact Nat.ne_of_lt (blk_lt (g := gb427) (o := .cells #[.int .i64 a0_0,.int .i64 a0_1] 33 (0,0)) Z590)) : p := h
theorem Z380 {p : Prop} (h : p := by rw [hg];exact Nat.ne_of_lt (blk_lt (g := gb230) (o := .cells #[.int .i64 a0_0,.int .i64 a0_1] 33 (0,0)) Z591)) : p := h
theorem Z381 {p : Prop} (h : p := by rw [hg];exact Nat.ne_of_gt (blk_lt (g := gb427) (o := .cells #[.int .i64 a0_0,.int .i64 a0_1] 33 (0,0)) Z590)) : p := h
theorem Z382 {p : Prop} (h : p := by rw [hg];exact Nat.ne_of_gt (blk_lt (g := gb230) (o := .cells #[.int .i64 a0_0,.int .i64 a0_1] 33 (0,0)) Z591)) : p := h
theorem Z383 {p : Prop} (h : p := by rw [hg];exact Nat.ne_of_lt (blk_lt (g := gb449) (o := .cells #[.int .i64 t446,.int .i64 t447] 33 (0,0)) Z554)) : p := h
theorem Z384 {p : Prop} (h : p := by rw [hg];exact Nat.ne_of_gt (blk_lt (g := gb449) (o := .cells #[.int .i64 t446,.int .i64 t447] 33 (0,0)) Z554)) : p := h
theorem Z385 {p : Prop} (h : p := by rw [hg];exact Nat.ne_of_lt (blk_lt (g := gb581) (o := .cells #[.int .i64 t573,.int .i64 t574] 33 (0,0)) Z558)) : p := h
theorem Z386 {p : Prop} (h : p := by rw [hg];exact Nat.ne_of_lt (blk_lt (g := gb428) (o := .cells #[.int .i64 a1_0,.int .i64 a1_1] 33 (0,0)) Z593)) : p := h
theorem Z387 {p : Prop} (h : p := by rw [hg];exact Nat.ne_of_lt (blk_lt (g := gb231) (o := .cells #[.int .i64 a1_0,.int .i64 a1_1] 33 (0,0)) Z595)) : p := h
theorem Z388 {p : Prop} (h : p := by rw [hg];exact Nat.ne_of_lt (blk_lt (g := gb120) (o := .cells #[.int .i64 a0_0,.int .i64 a0_1] 33 (0,0)) Z592)) : p := h
theorem Z389 {p : Prop} (h : p := by rw [hg];exact Nat.ne_of_gt (blk_lt (g := gb581) (o := .cells #[.int .i64 t573,.int .i64 t574] 33 (0,0)) Z558)) : p := h
theorem Z390 {p : Prop} (h : p := by rw [hg];exact Nat.ne_of_gt (blk_lt (g := gb428) (o := .cells #[.int .i64 a1_0,.int .i64 a1_1] 33 (0,0)) Z593)) : p := h
theorem Z391 {p : Prop} (h : p := by rw [hg];exact Nat.ne_of_gt (blk_lt (g := gb231) (o := .cells #[.int .i64 a1_0,.int .i64 a1_1] 33 (0,0)) Z595)) : p := h
theorem Z392 {p : Prop} (h : p := by rw [hg];exact Nat.ne_of_gt (blk_lt (g := gb120) (o := .cells #[.int .i64 a0_0,.int .i64 a0_1] 33 (0,0)) Z592)) : p := h
theorem Z393 {p : Prop} (h : p := by rw [hg];exact Nat.ne_of_lt (blk_lt (g := gb285) (o := .cells #[.int .i64 a0_0,.int .i64 a0_1] 33 (0,0)) Z594)) : p := h
theorem Z394 {p : Prop} (h : p := by rw [hg];exact Nat.ne_of_gt (blk_lt (g := gb285) (o := .cells #[.int .i64 a0_0,.int .i64 a0_1] 33 (0,0)) Z594)) : p := h
theorem Z395 {p : Prop} (h : p := by (try simp only [List.map_toArray,List.map_cons,List.map_nil]);first | done | rfl | (simp only [List.length_drop,List.length_take];rfl)) : p := h
theorem Z396 {p : Prop} (h : p := by refine bP ?_;refine blk_far ?_ NB445_449.out _;refine bP ?_;refine blk_far ?_ NB445_449.out _;refine bP ?_;exact BK445.out) : p := h
theorem Z397 {p : Prop} (h : p := by refine bP ?_;refine blk_far ?_ NB439_449.out _;refine bP ?_;refine blk_far ?_ NB439_449.out _;refine bP ?_;exact BK439.out) : p := h
theorem Z398 {p : Prop} (h : p := by refine bP ?_;refine blk_far ?_ NB242_246.out _;refine bP ?_;refine blk_far ?_ NB242_246.out _;refine bP ?_;exact BK242.out) : p := h
theorem Z399 {p : Prop} (h : p := by (with_reducible repeat (first | apply Kd.R_alloc | apply Kd.R_drewN | apply Kd.R_drew));exact HO508.out) : p := h
theorem Z400 {p : Prop} (h : p := by first | rfl | (simp [errW_none,errW_some] <;> rfl) | (simp [*,errW_none,errW_some] <;> rfl)) : p := h
theorem Z401 {p : Prop} (h : p := by repeat (first | (with_reducible first | exact HB.out | apply below_alloc | apply pw_below_drewN | apply below_drew1 | refine below_set ?_ GE174.out | refine below_set ?_ GE175.out | refine below_set ?_ GE176.out | refine below_set ?_ GE184.out | refine below_set ?_ GE185.out | refine below_set ?_ GE190.out) | exact HB.out)) : p := h
theorem Z402 {p : Prop} (h : p := by repeat (first | (with_reducible first | exact HB.out | apply below_alloc | apply pw_below_drewN | apply below_drew1 | refine below_set ?_ GE174.out | refine below_set ?_ GE175.out | refine below_set ?_ GE176.out | refine below_set ?_ GE184.out | refine below_set ?_ GE185.out) | exact HB.out)) : p := h
theorem Z403 {p : Prop} (h : p := by repeat (first | (with_reducible first | exact HB.out | apply below_alloc | apply pw_below_drewN | apply below_drew1 | refine below_set ?_ GE160.out | refine below_set ?_ GE161.out | refine below_set ?_ GE162.out | refine below_set ?_ GE168.out | refine below_set ?_ GE169.out) | exact HB.out)) : p := h
theorem Z404 {p : Prop} (h : p := by repeat (first | (with_reducible first | exact HB.out | apply below_alloc | apply pw_below_drewN | apply below_drew1 | refine below_set ?_ GE364.out | refine below_set ?_ GE365.out | refine below_set ?_ GE366.out | refine below_set ?_ GE374.out | refine below_set ?_ GE375.out) | exact HB.out)) : p := h
theorem Z405 {p : Prop} (h : p := by repeat (first | (with_reducible first | exact HB.out | apply below_alloc | apply pw_below_drewN | apply below_drew1 | refine below_set ?_ GE308.out | refine below_set ?_ GE309.out | refine below_set ?_ GE310.out | refine below_set ?_ GE311.out | refine below_set ?_ GE318.out) | exact HB.out)) : p := h
theorem Z406 {p : Prop} (h : p := by repeat (first | (with_reducible first | exact HB.out | apply below_alloc | apply pw_below_drewN | apply below_drew1 | refine below_set ?_ GE142.out | refine below_set ?_ GE143.out | refine below_set ?_ GE144.out | refine below_set ?_ GE145.out | refine below_set ?_ GE152.out) | exact HB.out)) : p := h
theorem Z407 {p : Prop} (h : p := by refine bP ?_;refine blk_put (cs := #[.bool t186,.int .u64 t187,.int .u64 0]) ?_ 2 _ rfl;refine bP ?_;refine blk_put (cs := #[.bool t186,.int .u64 0,.int .u64 0]) ?_ 1 _ rfl;refine bP ?_;refine blk_put (cs := #[.bool false,.int .u64 0,.int .u64 0]) ?_ 0 _ rfl;refine bP ?_;exact BK190.out) : p := h
theorem Z408 {p : Prop} (h : p := by repeat (first | (with_reducible first | exact HB.out | apply below_alloc | apply pw_below_drewN | apply below_drew1 | refine below_set ?_ GE308.out | refine below_set ?_ GE309.out | refine below_set ?_ GE310.out | refine below_set ?_ GE311.out) | exact HB.out)) : p := h
theorem Z409 {p : Prop} (h : p := by repeat (first | (with_reducible first | exact HB.out | apply below_alloc | apply pw_below_drewN | apply below_drew1 | refine below_set ?_ GE142.out | refine below_set ?_ GE143.out | refine below_set ?_ GE144.out | refine below_set ?_ GE145.out) | exact HB.out)) : p := h
theorem Z410 {p : Prop} (h : p := by repeat (first | (with_reducible first | exact HB.out | apply below_alloc | apply pw_below_drewN | apply below_drew1 | refine below_set ?_ GE174.out | refine below_set ?_ GE175.out | refine below_set ?_ GE176.out | refine below_set ?_ GE184.out) | exact HB.out)) : p := h
theorem Z411 {p : Prop} (h : p := by repeat (first | (with_reducible first | exact HB.out | apply below_alloc | apply pw_below_drewN | apply below_drew1 | refine below_set ?_ GE578.out | refine below_set ?_ GE581.out | refine below_set ?_ GE587.out | refine below_set ?_ GE593.out) | exact HB.out)) : p := h
theorem Z412 {p : Prop} (h : p := by repeat (first | (with_reducible first | exact HB.out | apply below_alloc | apply pw_below_drewN | apply below_drew1 | refine below_set ?_ GE364.out | refine below_set ?_ GE365.out | refine below_set ?_ GE366.out | refine below_set ?_ GE374.out) | exact HB.out)) : p := h
theorem Z413 {p : Prop} (h : p := by repeat (first | (with_reducible first | exact HB.out | apply below_alloc | apply pw_below_drewN | apply below_drew1 | refine below_set ?_ GE160.out | refine below_set ?_ GE161.out | refine below_set ?_ GE162.out | refine below_set ?_ GE168.out) | exact HB.out)) : p := h
theorem Z414 {p : Prop} (h : p := by repeat (first | (with_reducible first | exact HB.out | apply below_alloc | apply pw_below_drewN | apply below_drew1 | refine below_set ?_ GE335.out | refine below_set ?_ GE336.out | refine below_set ?_ GE337.out) | exact HB.out)) : p := h
theorem Z415 {p : Prop} (h : p := by repeat (first | (with_reducible first | exact HB.out | apply below_alloc | apply pw_below_drewN | apply below_drew1 | refine below_set ?_ GE160.out | refine below_set ?_ GE161.out | refine below_set ?_ GE162.out) | exact HB.out)) : p := h
theorem Z416 {p : Prop} (h : p := by repeat (first | (with_reducible first | exact HB.out | apply below_alloc | apply pw_below_drewN | apply below_drew1 | refine below_set ?_ GE439.out | refine below_set ?_ GE445.out | refine below_set ?_ GE449.out) | exact HB.out)) : p := h
theorem Z417 {p : Prop} (h : p := by repeat (first | (with_reducible first | exact HB.out | apply below_alloc | apply pw_below_drewN | apply below_drew1 | refine below_set ?_ GE242.out | refine below_set ?_ GE246.out | refine below_set ?_ GE252.out) | exact HB.out)) : p := h
theorem Z418 {p : Prop} (h : p := by repeat (first | (with_reducible first | exact HB.out | apply below_alloc | apply pw_below_drewN | apply below_drew1 | refine below_set ?_ GE174.out | refine below_set ?_ GE175.out | refine below_set ?_ GE176.out) | exact HB.out)) : p := h
theorem Z419 {p : Prop} (h : p := by repeat (first | (with_reducible first | exact HB.out | apply below_alloc | apply pw_below_drewN | apply below_drew1 | refine below_set ?_ GE386.out | refine below_set ?_ GE387.out | refine below_set ?_ GE393.out) | exact HB.out)) : p := h
theorem Z420 {p : Prop} (h : p := by repeat (first | (with_reducible first | exact HB.out | apply below_alloc | apply pw_below_drewN | apply below_drew1 | refine below_set ?_ GE364.out | refine below_set ?_ GE365.out | refine below_set ?_ GE366.out) | exact HB.out)) : p := h
theorem Z421 {p : Prop} (h : p := by repeat (first | (with_reducible first | exact HB.out | apply below_alloc | apply pw_below_drewN | apply below_drew1 | refine below_set ?_ GE193.out | refine below_set ?_ GE194.out | refine below_set ?_ GE200.out) | exact HB.out)) : p := h
theorem Z422 {p : Prop} (h : p := by repeat (first | (with_reducible first | exact HB.out | apply below_alloc | apply pw_below_drewN | apply below_drew1 | refine below_set ?_ GE427.out | refine below_set ?_ GE428.out | refine below_set ?_ GE429.out) | exact HB.out)) : p := h
theorem Z423 {p : Prop} (h : p := by repeat (first | (with_reducible first | exact HB.out | apply below_alloc | apply pw_below_drewN | apply below_drew1 | refine below_set ?_ GE230.out | refine below_set ?_ GE231.out | refine below_set ?_ GE232.out) | exact HB.out)) : p := h
theorem Z424 {p : Prop} (h : p := by repeat (first | (with_reducible first | exact HB.out | apply below_alloc | apply pw_below_drewN | apply below_drew1 | refine below_set ?_ GE578.out | refine below_set ?_ GE581.out | refine below_set ?_ GE587.out) | exact HB.out)) : p := h
theorem Z425 {p : Prop} (h : p := by repeat (first | (with_reducible first | exact HB.out | apply below_alloc | apply pw_below_drewN | apply below_drew1 | refine below_set ?_ GE415.out | refine below_set ?_ GE416.out | refine below_set ?_ GE424.out) | exact HB.out)) : p := h
theorem Z426 {p : Prop} (h : p := by repeat (first | (with_reducible first | exact HB.out | apply below_alloc | apply pw_below_drewN | apply below_drew1 | refine below_set ?_ GE218.out | refine below_set ?_ GE219.out | refine below_set ?_ GE227.out) | exact HB.out)) : p := h
theorem Z427 {p : Prop} (h : p := by repeat (first | (with_reducible first | exact HB.out | apply below_alloc | apply pw_below_drewN | apply below_drew1 | refine below_set ?_ GE308.out | refine below_set ?_ GE309.out | refine below_set ?_ GE310.out) | exact HB.out)) : p := h
theorem Z428 {p : Prop} (h : p := by repeat (first | (with_reducible first | exact HB.out | apply below_alloc | apply pw_below_drewN | apply below_drew1 | refine below_set ?_ GE142.out | refine below_set ?_ GE143.out | refine below_set ?_ GE144.out) | exact HB.out)) : p := h
theorem Z429 {p : Prop} (h : p := by repeat (first | (with_reducible first | exact HB.out | apply below_alloc | apply pw_below_drewN | apply below_drew1 | refine below_set ?_ GE130.out | refine below_set ?_ GE131.out) | exact HB.out)) : p := h
theorem Z430 {p : Prop} (h : p := by repeat (first | (with_reducible first | exact HB.out | apply below_alloc | apply pw_below_drewN | apply below_drew1 | refine below_set ?_ GE293.out | refine below_set ?_ GE294.out) | exact HB.out)) : p := h
theorem Z431 {p : Prop} (h : p := by repeat (first | (with_reducible first | exact HB.out | apply below_alloc | apply pw_below_drewN | apply below_drew1 | refine below_set ?_ GE439.out | refine below_set ?_ GE445.out) | exact HB.out)) : p := h
theorem Z432 {p : Prop} (h : p := by repeat (first | (with_reducible first | exact HB.out | apply below_alloc | apply pw_below_drewN | apply below_drew1 | refine below_set ?_ GE242.out | refine below_set ?_ GE246.out) | exact HB.out)) : p := h
theorem Z433 {p : Prop} (h : p := by repeat (first | (with_reducible first | exact HB.out | apply below_alloc | apply pw_below_drewN | apply below_drew1 | refine below_set ?_ GE386.out | refine below_set ?_ GE387.out) | exact HB.out)) : p := h
theorem Z434 {p : Prop} (h : p := by repeat (first | (with_reducible first | exact HB.out | apply below_alloc | apply pw_below_drewN | apply below_drew1 | refine below_set ?_ GE193.out | refine below_set ?_ GE194.out) | exact HB.out)) : p := h
theorem Z435 {p : Prop} (h : p := by repeat (first | (with_reducible first | exact HB.out | apply below_alloc | apply pw_below_drewN | apply below_drew1 | refine below_set ?_ GE415.out | refine below_set ?_ GE416.out) | exact HB.out)) : p := h
theorem Z436 {p : Prop} (h : p := by repeat (first | (with_reducible first | exact HB.out | apply below_alloc | apply pw_below_drewN | apply below_drew1 | refine below_set ?_ GE218.out | refine below_set ?_ GE219.out) | exact HB.out)) : p := h
theorem Z437 {p : Prop} (h : p := by repeat (first | (with_reducible first | exact HB.out | apply below_alloc | apply pw_below_drewN | apply below_drew1 | refine below_set ?_ GE174.out | refine below_set ?_ GE175.out) | exact HB.out)) : p := h
theorem Z438 {p : Prop} (h : p := by repeat (first | (with_reducible first | exact HB.out | apply below_alloc | apply pw_below_drewN | apply below_drew1 | refine below_set ?_ GE120.out | refine below_set ?_ GE121.out) | exact HB.out)) : p := h
theorem Z439 {p : Prop} (h : p := by repeat (first | (with_reducible first | exact HB.out | apply below_alloc | apply pw_below_drewN | apply below_drew1 | refine below_set ?_ GE427.out | refine below_set ?_ GE428.out) | exact HB.out)) : p := h
theorem Z440 {p : Prop} (h : p := by repeat (first | (with_reducible first | exact HB.out | apply below_alloc | apply pw_below_drewN | apply below_drew1 | refine below_set ?_ GE364.out | refine below_set ?_ GE365.out) | exact HB.out)) : p := h
theorem Z441 {p : Prop} (h : p := by repeat (first | (with_reducible first | exact HB.out | apply below_alloc | apply pw_below_drewN | apply below_drew1 | refine below_set ?_ GE230.out | refine below_set ?_ GE231.out) | exact HB.out)) : p := h
theorem Z442 {p : Prop} (h : p := by repeat (first | (with_reducible first | exact HB.out | apply below_alloc | apply pw_below_drewN | apply below_drew1 | refine below_set ?_ GE285.out | refine below_set ?_ GE286.out) | exact HB.out)) : p := h
theorem Z443 {p : Prop} (h : p := by repeat (first | (with_reducible first | exact HB.out | apply below_alloc | apply pw_below_drewN | apply below_drew1 | refine below_set ?_ GE578.out | refine below_set ?_ GE581.out) | exact HB.out)) : p := h
theorem Z444 {p : Prop} (h : p := by repeat (first | (with_reducible first | exact HB.out | apply below_alloc | apply pw_below_drewN | apply below_drew1 | refine below_set ?_ GE263.out | refine below_set ?_ GE264.out) | exact HB.out)) : p := h
theorem Z445 {p : Prop} (h : p := by repeat (first | (with_reducible first | exact HB.out | apply below_alloc | apply pw_below_drewN | apply below_drew1 | refine below_set ?_ GE335.out | refine below_set ?_ GE336.out) | exact HB.out)) : p := h
theorem Z446 {p : Prop} (h : p := by repeat (first | (with_reducible first | exact HB.out | apply below_alloc | apply pw_below_drewN | apply below_drew1 | refine below_set ?_ GE308.out | refine below_set ?_ GE309.out) | exact HB.out)) : p := h
theorem Z447 {p : Prop} (h : p := by repeat (first | (with_reducible first | exact HB.out | apply below_alloc | apply pw_below_drewN | apply below_drew1 | refine below_set ?_ GE160.out | refine below_set ?_ GE161.out) | exact HB.out)) : p := h
theorem Z448 {p : Prop} (h : p := by repeat (first | (with_reducible first | exact HB.out | apply below_alloc | apply pw_below_drewN | apply below_drew1 | refine below_set ?_ GE142.out | refine below_set ?_ GE143.out) | exact HB.out)) : p := h
theorem Z449 {p : Prop} (h : p := by repeat (first | (with_reducible first | exact HK.out | apply KeepBut.set_ | apply keep_drewN | apply keep_drew | apply keep_alloc | refine keep_far ?_ GW521.out _) | exact HK.out)) : p := h
theorem Z450 {p : Prop} (h : p := by refine bP ?_;refine blk_far ?_ NB185_190.out _;refine bP ?_;refine blk_far ?_ NB185_190.out _;refine bP ?_;refine blk_far ?_ NB185_190.out _;refine bP ?_;exact BK185.out) : p := h
theorem Z451 {p : Prop} (h : p := by refine bP ?_;refine blk_far ?_ NB184_190.out _;refine bP ?_;refine blk_far ?_ NB184_190.out _;refine bP ?_;refine blk_far ?_ NB184_190.out _;refine bP ?_;exact BK184.out) : p := h
theorem Z452 {p : Prop} (h : p := by refine bP ?_;refine blk_far ?_ NB176_190.out _;refine bP ?_;refine blk_far ?_ NB176_190.out _;refine bP ?_;refine blk_far ?_ NB176_190.out _;refine bP ?_;exact BK176.out) : p := h
theorem Z453 {p : Prop} (h : p := by refine bP ?_;refine blk_far ?_ NB175_190.out _;refine bP ?_;refine blk_far ?_ NB175_190.out _;refine bP ?_;refine blk_far ?_ NB175_190.out _;refine bP ?_;exact BK175.out) : p := h
theorem Z454 {p : Prop} (h : p := by refine bP ?_;refine blk_far ?_ NB174_190.out _;refine bP ?_;refine blk_far ?_ NB174_190.out _;refine bP ?_;refine blk_far ?_ NB174_190.out _;refine bP ?_;exact BK174.out) : p := h
theorem Z455 {p : Prop} (h : p := by repeat (first | (with_reducible first | exact HB.out | apply below_alloc | apply pw_below_drewN | apply below_drew1 | refine below_set ?_ GE439.out) | exact HB.out)) : p := h
theorem Z456 {p : Prop} (h : p := by repeat (first | (with_reducible first | exact HB.out | apply below_alloc | apply pw_below_drewN | apply below_drew1 | refine below_set ?_ GE242.out) | exact HB.out)) : p := h
theorem Z457 {p : Prop} (h : p := by repeat (first | (with_reducible first | exact HB.out | apply below_alloc | apply pw_below_drewN | apply below_drew1 | refine below_set ?_ GE130.out) | exact HB.out)) : p := h
theorem Z458 {p : Prop} (h : p := by repeat (first | (with_reducible first | exact HB.out | apply below_alloc | apply pw_below_drewN | apply below_drew1 | refine below_set ?_ GE293.out) | exact HB.out)) : p := h
theorem Z459 {p : Prop} (h : p := by repeat (first | (with_reducible first | exact HB.out | apply below_alloc | apply pw_below_drewN | apply below_drew1 | refine below_set ?_ GE174.out) | exact HB.out)) : p := h
theorem Z460 {p : Prop} (h : p := by repeat (first | (with_reducible first | exact HB.out | apply below_alloc | apply pw_below_drewN | apply below_drew1 | refine below_set ?_ GE114.out) | exact HB.out)) : p := h
theorem Z461 {p : Prop} (h : p := by repeat (first | (with_reducible first | exact HB.out | apply below_alloc | apply pw_below_drewN | apply below_drew1 | refine below_set ?_ GE578.out) | exact HB.out)) : p := h
theorem Z462 {p : Prop} (h : p := by repeat (first | (with_reducible first | exact HB.out | apply below_alloc | apply pw_below_drewN | apply below_drew1 | refine below_set ?_ GE427.out) | exact HB.out)) : p := h
theorem Z463 {p : Prop} (h : p := by repeat (first | (with_reducible first | exact HB.out | apply below_alloc | apply pw_below_drewN | apply below_drew1 | refine below_set ?_ GE386.out) | exact HB.out)) : p := h
theorem Z464 {p : Prop} (h : p := by repeat (first | (with_reducible first | exact HB.out | apply below_alloc | apply pw_below_drewN | apply below_drew1 | refine below_set ?_ GE364.out) | exact HB.out)) : p := h
theorem Z465 {p : Prop} (h : p := by repeat (first | (with_reducible first | exact HB.out | apply below_alloc | apply pw_below_drewN | apply below_drew1 | refine below_set ?_ GE230.out) | exact HB.out)) : p := h
theorem Z466 {p : Prop} (h : p := by repeat (first | (with_reducible first | exact HB.out | apply below_alloc | apply pw_below_drewN | apply below_drew1 | refine below_set ?_ GE193.out) | exact HB.out)) : p := h
theorem Z467 {p : Prop} (h : p := by repeat (first | (with_reducible first | exact HB.out | apply below_alloc | apply pw_below_drewN | apply below_drew1 | refine below_set ?_ GE120.out) | exact HB.out)) : p := h
theorem Z468 {p : Prop} (h : p := by repeat (first | (with_reducible first | exact HB.out | apply below_alloc | apply pw_below_drewN | apply below_drew1 | refine below_set ?_ GE109.out) | exact HB.out)) : p := h
theorem Z469 {p : Prop} (h : p := by repeat (first | (with_reducible first | exact HB.out | apply below_alloc | apply pw_below_drewN | apply below_drew1 | refine below_set ?_ GE415.out) | exact HB.out)) : p := h
theorem Z470 {p : Prop} (h : p := by repeat (first | (with_reducible first | exact HB.out | apply below_alloc | apply pw_below_drewN | apply below_drew1 | refine below_set ?_ GE285.out) | exact HB.out)) : p := h
theorem Z471 {p : Prop} (h : p := by repeat (first | (with_reducible first | exact HB.out | apply below_alloc | apply pw_below_drewN | apply below_drew1 | refine below_set ?_ GE263.out) | exact HB.out)) : p := h
theorem Z472 {p : Prop} (h : p := by repeat (first | (with_reducible first | exact HB.out | apply below_alloc | apply pw_below_drewN | apply below_drew1 | refine below_set ?_ GE218.out) | exact HB.out)) : p := h
theorem Z473 {p : Prop} (h : p := by repeat (first | (with_reducible first | exact HB.out | apply below_alloc | apply pw_below_drewN | apply below_drew1 | refine below_set ?_ GE268.out) | exact HB.out)) : p := h
theorem Z474 {p : Prop} (h : p := by repeat (first | (with_reducible first | exact HB.out | apply below_alloc | apply pw_below_drewN | apply below_drew1 | refine below_set ?_ GE434.out) | exact HB.out)) : p := h
theorem Z475 {p : Prop} (h : p := by repeat (first | (with_reducible first | exact HB.out | apply below_alloc | apply pw_below_drewN | apply below_drew1 | refine below_set ?_ GE405.out) | exact HB.out)) : p := h
theorem Z476 {p : Prop} (h : p := by repeat (first | (with_reducible first | exact HB.out | apply below_alloc | apply pw_below_drewN | apply below_drew1 | refine below_set ?_ GE335.out) | exact HB.out)) : p := h
theorem Z477 {p : Prop} (h : p := by repeat (first | (with_reducible first | exact HB.out | apply below_alloc | apply pw_below_drewN | apply below_drew1 | refine below_set ?_ GE327.out) | exact HB.out)) : p := h
theorem Z478 {p : Prop} (h : p := by repeat (first | (with_reducible first | exact HB.out | apply below_alloc | apply pw_below_drewN | apply below_drew1 | refine below_set ?_ GE308.out) | exact HB.out)) : p := h
theorem Z479 {p : Prop} (h : p := by repeat (first | (with_reducible first | exact HB.out | apply below_alloc | apply pw_below_drewN | apply below_drew1 | refine below_set ?_ GE237.out) | exact HB.out)) : p := h
theorem Z480 {p : Prop} (h : p := by repeat (first | (with_reducible first | exact HB.out | apply below_alloc | apply pw_below_drewN | apply below_drew1 | refine below_set ?_ GE212.out) | exact HB.out)) : p := h
theorem Z481 {p : Prop} (h : p := by repeat (first | (with_reducible first | exact HB.out | apply below_alloc | apply pw_below_drewN | apply below_drew1 | refine below_set ?_ GE160.out) | exact HB.out)) : p := h
theorem Z482 {p : Prop} (h : p := by repeat (first | (with_reducible first | exact HB.out | apply below_alloc | apply pw_below_drewN | apply below_drew1 | refine below_set ?_ GE158.out) | exact HB.out)) : p := h
theorem Z483 {p : Prop} (h : p := by repeat (first | (with_reducible first | exact HB.out | apply below_alloc | apply pw_below_drewN | apply below_drew1 | refine below_set ?_ GE142.out) | exact HB.out)) : p := h
theorem Z484 {p : Prop} (h : p := by repeat (first | (with_reducible first | exact HK.out | apply KeepBut.set_ | apply keep_drewN | apply keep_drew | apply keep_alloc) | exact HK.out)) : p := h
theorem Z485 {p : Prop} (h : p := by repeat (first | (with_reducible first | exact HBW.out | apply below_alloc | apply pw_below_drewN | apply below_drew1) | exact HBW.out)) : p := h
theorem Z486 {p : Prop} (h : p := by repeat (first | (with_reducible first | exact HB.out | apply below_alloc | apply pw_below_drewN | apply below_drew1) | exact HB.out)) : p := h
theorem Z487 {p : Prop} (h : p := by have := HJ2.out;have := HJ12.out;have := HJ20.out;first | omega | exact Nat.le_refl _) : p := h
theorem Z488 {p : Prop} (h : p := by refine bP ?_;refine blk_far ?_ NB131_138.out _;refine bP ?_;exact BK131.out) : p := h
theorem Z489 {p : Prop} (h : p := by refine bP ?_;refine blk_far ?_ NB130_138.out _;refine bP ?_;exact BK130.out) : p := h
theorem Z490 {p : Prop} (h : p := by have := HJ2.out;have := HJ12.out;first | omega | exact Nat.le_refl _) : p := h
theorem Z491 {p : Prop} (h : p := by repeat (first | exact Drawn0.refl _ | apply Drawn0.step)) : p := h
theorem Z492 {p : Prop} (h : p := by rw [← hq_];exact Z584) : p := h
theorem Z493 {p : Prop} (h : p := by rw [← hq_];exact Z583) : p := h
theorem Z494 {p : Prop} (h : p := by rw [← hq_];exact Z587) : p := h
theorem Z495 {p : Prop} (h : p := by rw [← hq_];exact Z585) : p := h
theorem Z496 {p : Prop} (h : p := by rw [← hq_];exact (by refine bP ?_;exact BK109.out)) : p := h
theorem Z497 {p : Prop} (h : p := by rw [← hq_];exact (by refine bP ?_;exact BK429.out)) : p := h
theorem Z498 {p : Prop} (h : p := by rw [← hq_];exact Z593) : p := h
theorem Z499 {p : Prop} (h : p := by rw [← hq_];exact Z590) : p := h
theorem Z500 {p : Prop} (h : p := by rw [← hq_];exact Z589) : p := h
theorem Z501 {p : Prop} (h : p := by rw [← hq_];exact Z588) : p := h
theorem Z502 {p : Prop} (h : p := by rw [← hq_];exact Z586) : p := h
theorem Z503 {p : Prop} (h : p := by rw [← hq_];exact (by refine bP ?_;exact BK232.out)) : p := h
theorem Z504 {p : Prop} (h : p := by rw [← hq_];exact Z595) : p := h
theorem Z505 {p : Prop} (h : p := by rw [← hq_];exact Z591) : p := h
theorem Z506 {p : Prop} (h : p := by rw [← hq_];exact (by refine bP ?_;exact BK121.out)) : p := h
theorem Z507 {p : Prop} (h : p := by rw [← hq_];exact Z592) : p := h
theorem Z508 {p : Prop} (h : p := by rw [← hq_];exact (by refine bP ?_;exact BK268.out)) : p := h
theorem Z509 {p : Prop} (h : p := by rw [← hq_];exact (by refine bP ?_;exact BK286.out)) : p := h
theorem Z510 {p : Prop} (h : p := by rw [← hq_];exact Z594) : p := h
theorem Z511 {p : Prop} (h : p := by have := HJ2.out;first | omega | exact Nat.le_refl _) : p := h
theorem Z512 {p : Prop} (h : p := by have := HJ4.out;first | omega | exact Nat.le_refl _) : p := h
theorem Z513 {p : Prop} (h : p := by first | (with_reducible assumption) | assumption) : p := h
theorem Z514 {p : Prop} (h : p := by first | rfl | (simp;done) | (simp [*];done)) : p := h
theorem Z515 {p : Prop} (h : p := by first | (go_simp;done) | (go_simp;rfl)) : p := h
theorem Z516 {p : Prop} (h : p := by first | omega | exact Nat.le_refl _) : p := h
theorem Z517 {p : Prop} (h : p := by refine bP ?_;exact BK174.out) : p := h
theorem Z518 {p : Prop} (h : p := by refine bP ?_;exact BK521.out) : p := h
theorem Z519 {p : Prop} (h : p := by refine bP ?_;exact BK439.out) : p := h
theorem Z520 {p : Prop} (h : p := by refine bP ?_;exact BK242.out) : p := h
theorem Z521 {p : Prop} (h : p := by refine bP ?_;exact BK175.out) : p := h
theorem Z522 {p : Prop} (h : p := by refine bP ?_;exact BK364.out) : p := h
theorem Z523 {p : Prop} (h : p := by refine bP ?_;exact BK160.out) : p := h
theorem Z524 {p : Prop} (h : p := by refine bP ?_;exact BK161.out) : p := h
theorem Z525 {p : Prop} (h : p := by refine bP ?_;exact BK176.out) : p := h
theorem Z526 {p : Prop} (h : p := by refine bP ?_;exact BK162.out) : p := h
theorem Z527 {p : Prop} (h : p := by refine bP ?_;exact BK365.out) : p := h
theorem Z528 {p : Prop} (h : p := by refine bP ?_;exact BK308.out) : p := h
theorem Z529 {p : Prop} (h : p := by refine bP ?_;exact BK142.out) : p := h
theorem Z530 {p : Prop} (h : p := by refine bP ?_;exact BK309.out) : p := h
theorem Z531 {p : Prop} (h : p := by refine bP ?_;exact BK143.out) : p := h
theorem Z532 {p : Prop} (h : p := by refine bP ?_;exact BK212.out) : p := h
theorem Z533 {p : Prop} (h : p := by refine bP ?_;exact BK386.out) : p := h
theorem Z534 {p : Prop} (h : p := by refine bP ?_;exact BK193.out) : p := h
theorem Z535 {p : Prop} (h : p := by refine bP ?_;exact BK310.out) : p := h
theorem Z536 {p : Prop} (h : p := by refine bP ?_;exact BK144.out) : p := h
theorem Z537 {p : Prop} (h : p := by refine bP ?_;exact BK366.out) : p := h
theorem Z538 {p : Prop} (h : p := by refine bP ?_;exact BK311.out) : p := h
theorem Z539 {p : Prop} (h : p := by refine bP ?_;exact BK145.out) : p := h
theorem Z540 {p : Prop} (h : p := by refine bP ?_;exact BK445.out) : p := h
theorem Z541 {p : Prop} (h : p := by refine bP ?_;exact BK246.out) : p := h
theorem Z542 {p : Prop} (h : p := by refine bP ?_;exact BK213.out) : p := h
theorem Z543 {p : Prop} (h : p := by refine bP ?_;exact BK387.out) : p := h
theorem Z544 {p : Prop} (h : p := by refine bP ?_;exact BK194.out) : p := h
theorem Z545 {p : Prop} (h : p := by refine bP ?_;exact BK184.out) : p := h
theorem Z546 {p : Prop} (h : p := by refine bP ?_;exact BK415.out) : p := h
theorem Z547 {p : Prop} (h : p := by refine bP ?_;exact BK218.out) : p := h
theorem Z548 {p : Prop} (h : p := by refine bP ?_;exact BK374.out) : p := h
theorem Z549 {p : Prop} (h : p := by refine bP ?_;exact BK405.out) : p := h
theorem Z550 {p : Prop} (h : p := by refine bP ?_;exact BK578.out) : p := h
theorem Z551 {p : Prop} (h : p := by refine bP ?_;exact BK416.out) : p := h
theorem Z552 {p : Prop} (h : p := by refine bP ?_;exact BK219.out) : p := h
theorem Z553 {p : Prop} (h : p := by refine bP ?_;exact BK502.out) : p := h
theorem Z554 {p : Prop} (h : p := by refine bP ?_;exact BK449.out) : p := h
theorem Z555 {p : Prop} (h : p := by refine bP ?_;exact BK252.out) : p := h
theorem Z556 {p : Prop} (h : p := by refine bP ?_;exact BK169.out) : p := h
theorem Z557 {p : Prop} (h : p := by refine bP ?_;exact BK168.out) : p := h
theorem Z558 {p : Prop} (h : p := by refine bP ?_;exact BK581.out) : p := h
theorem Z559 {p : Prop} (h : p := by refine bP ?_;exact BK543.out) : p := h
theorem Z560 {p : Prop} (h : p := by refine bP ?_;exact BK263.out) : p := h
theorem Z561 {p : Prop} (h : p := by refine bP ?_;exact BK114.out) : p := h
theorem Z562 {p : Prop} (h : p := by refine bP ?_;exact BK406.out) : p := h
theorem Z563 {p : Prop} (h : p := by refine bP ?_;exact BK158.out) : p := h
theorem Z564 {p : Prop} (h : p := by refine bP ?_;exact BK587.out) : p := h
theorem Z565 {p : Prop} (h : p := by refine bP ?_;exact BK393.out) : p := h
theorem Z566 {p : Prop} (h : p := by refine bP ?_;exact BK200.out) : p := h
theorem Z567 {p : Prop} (h : p := by refine bP ?_;exact BK185.out) : p := h
theorem Z568 {p : Prop} (h : p := by refine bP ?_;exact BK593.out) : p := h
theorem Z569 {p : Prop} (h : p := by refine bP ?_;exact BK434.out) : p := h
theorem Z570 {p : Prop} (h : p := by refine bP ?_;exact BK424.out) : p := h
theorem Z571 {p : Prop} (h : p := by refine bP ?_;exact BK375.out) : p := h
theorem Z572 {p : Prop} (h : p := by refine bP ?_;exact BK327.out) : p := h
theorem Z573 {p : Prop} (h : p := by refine bP ?_;exact BK318.out) : p := h
theorem Z574 {p : Prop} (h : p := by refine bP ?_;exact BK264.out) : p := h
theorem Z575 {p : Prop} (h : p := by refine bP ?_;exact BK237.out) : p := h
theorem Z576 {p : Prop} (h : p := by refine bP ?_;exact BK227.out) : p := h
theorem Z577 {p : Prop} (h : p := by refine bP ?_;exact BK152.out) : p := h
theorem Z578 {p : Prop} (h : p := by refine bP ?_;exact BK159.out) : p := h
theorem Z579 {p : Prop} (h : p := by simp [go_sem,h0,h1,h2]) : p := h
theorem Z580 {p : Prop} (h : p := by kernel_rfl) : p := h
theorem Z581 {p : Prop} (h : p := by decide) : p := h
theorem Z582 {p : Prop} (h : p := by rfl) : p := h
theorem Z583 {p : Prop} (h : p := by refine bP ?_;exact BK130.out) : p := h
theorem Z584 {p : Prop} (h : p := by refine bP ?_;exact BK131.out) : p := h
theorem Z585 {p : Prop} (h : p := by refine bP ?_;exact BK293.out) : p := h
theorem Z586 {p : Prop} (h : p := by refine bP ?_;exact BK335.out) : p := h
theorem Z587 {p : Prop} (h : p := by refine bP ?_;exact BK294.out) : p := h
theorem Z588 {p : Prop} (h : p := by refine bP ?_;exact BK336.out) : p := h
theorem Z589 {p : Prop} (h : p := by refine bP ?_;exact BK337.out) : p := h
theorem Z590 {p : Prop} (h : p := by refine bP ?_;exact BK427.out) : p := h
theorem Z591 {p : Prop} (h : p := by refine bP ?_;exact BK230.out) : p := h
theorem Z592 {p : Prop} (h : p := by refine bP ?_;exact BK120.out) : p := h
theorem Z593 {p : Prop} (h : p := by refine bP ?_;exact BK428.out) : p := h
theorem Z594 {p : Prop} (h : p := by refine bP ?_;exact BK285.out) : p := h
theorem Z595 {p : Prop} (h : p := by refine bP ?_;exact BK231.out) : p := h
theorem Z596 {p : Prop} (h : p := by simp) : p := h
end Go.Proofs.Ytjcjehnjbgklbaa.QFnImproves
