/- Words of the kit's print, cut by this repo's wip/shake.py: only what this claim names is left. Conditions: none. -/
import Derived.Test.YtepnbcdbagjmbacDoorWInv
import Derived.Test.YtepnbcdbagjmbacDoorWFootNe
namespace Go.Proofs.YtepnbcdbagjmbacDoorW.PrintWords
open Go.RowKit
end Go.Proofs.YtepnbcdbagjmbacDoorW.PrintWords
namespace Go.Proofs.YtepnbcdbagjmbacDoorW.PrintLast
section
variable {ops : Array Oper} {a : Act} {o og : Oper} {g : Nat} {t : Tmp} {u : Bool}
end
end Go.Proofs.YtepnbcdbagjmbacDoorW.PrintLast
