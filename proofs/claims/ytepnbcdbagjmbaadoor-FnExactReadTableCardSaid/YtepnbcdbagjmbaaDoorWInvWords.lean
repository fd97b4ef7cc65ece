/- Words of the kit's print, cut by this repo's wip/shake.py: only what this claim names is left. Conditions: none. -/
import Derived.Test.YtepnbcdbagjmbaaDoorWInv
import Derived.Test.YtepnbcdbagjmbaaDoorWFootNe
namespace Go.Proofs.YtepnbcdbagjmbaaDoorW.PrintWords
open Go.RowKit
end Go.Proofs.YtepnbcdbagjmbaaDoorW.PrintWords
namespace Go.Proofs.YtepnbcdbagjmbaaDoorW.PrintLast
section
variable {ops : Array Oper} {a : Act} {o og : Oper} {g : Nat} {t : Tmp} {u : Bool}
end
end Go.Proofs.YtepnbcdbagjmbaaDoorW.PrintLast
