/- The machine side of FnConfig: what each Go function that it reaches comes to. Conditions: none. -/
import Derived.Test.YtepnbcdbagjmbaeGreatDoorQFnConfigx0
namespace Go.Proofs.YtepnbcdbagjmbaeGreatDoor.QFnConfig
open Go.RowKit Go.Proofs.YtepnbcdbagjmbaeGreatDoorW.PrintWords Go.Proofs.YtepnbcdbagjmbaeGreatDoorW.PrintLast Go.Proofs.YtepnbcdbagjmbaeGreatDoorW.PrintMore
attribute [local go_sem] max2_int min2_int max_two min_two max_three min_three max_four min_four   -- for this text's walks alone
set_option linter.unusedVariables false
set_option linter.unusedSimpArgs false

theorem eqA31 (d : Nat) (w : World) (x0 y0 : Int) (x1 y1 : Int) (x2 y2 : Int) :
  (Op.equalIn (d + 2) 31 (.agg #[.int .i64 x0, .int .i64 x1, .int .i64 x2]) (.agg #[.int .i64 y0, .int .i64 y1, .int .i64 y2])).run Tryz.prog w = .ok (x0 == y0 && (x1 == y1 && (x2 == y2))) w := by
 refine eqA_of Tryz.underlying31 Z190 ?_
 refine eqf_cons Z191 Z189 Z189 (by go_simp) ?_
 refine eqf_cons Z191 Z189 Z189 (by go_simp) ?_
 exact eqf_last Z191 Z189 Z189 (by go_simp)
end Go.Proofs.YtepnbcdbagjmbaeGreatDoor.QFnConfig
