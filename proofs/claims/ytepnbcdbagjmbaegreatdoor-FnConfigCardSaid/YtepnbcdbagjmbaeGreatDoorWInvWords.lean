/- Words of the kit's print, cut by this repo's wip/shake.py: only what this claim names is left. Conditions: none. -/
import Derived.Test.YtepnbcdbagjmbaeGreatDoorWInv
import Derived.Test.YtepnbcdbagjmbaeGreatDoorWFootNe
namespace Go.Proofs.YtepnbcdbagjmbaeGreatDoorW.PrintWords
open Go.RowKit
end Go.Proofs.YtepnbcdbagjmbaeGreatDoorW.PrintWords
namespace Go.Proofs.YtepnbcdbagjmbaeGreatDoorW.PrintLast
section
variable {ops : Array Oper} {a : Act} {o og : Oper} {g : Nat} {t : Tmp} {u : Bool}
end
end Go.Proofs.YtepnbcdbagjmbaeGreatDoorW.PrintLast
