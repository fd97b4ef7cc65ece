/- Words of the kit's print, cut by this repo's wip/shake.py: only what this claim names is left. Conditions: none. -/
import Derived.Test.YtpcffnhffboccaaWInv
import Derived.Test.YtpcffnhffboccaaWFootNe
namespace Go.Proofs.YtpcffnhffboccaaW.PrintWords
open Go.RowKit
end Go.Proofs.YtpcffnhffboccaaW.PrintWords
namespace Go.Proofs.YtpcffnhffboccaaW.PrintLast
section
variable {ops : Array Oper} {a : Act} {o og : Oper} {g : Nat} {t : Tmp} {u : Bool}
end
end Go.Proofs.YtpcffnhffboccaaW.PrintLast
