/- Words of the kit's print, cut by this repo's wip/shake.py: only what this claim names is left. Conditions: none. -/
import Derived.Test.YtepnbcdbagjmbadGreatDoorWInv
import Derived.Test.YtepnbcdbagjmbadGreatDoorWFootNe
namespace Go.Proofs.YtepnbcdbagjmbadGreatDoorW.PrintWords
open Go.RowKit
end Go.Proofs.YtepnbcdbagjmbadGreatDoorW.PrintWords
namespace Go.Proofs.YtepnbcdbagjmbadGreatDoorW.PrintLast
section
variable {ops : Array Oper} {a : Act} {o og : Oper} {g : Nat} {t : Tmp} {u : Bool}
end
end Go.Proofs.YtepnbcdbagjmbadGreatDoorW.PrintLast
