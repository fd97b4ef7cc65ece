/- Words of the kit's print, cut by this repo's wip/shake.py: only what this claim names is left. Conditions: none. -/
import Derived.Test.YtlflcgdcegohjaaWInv
import Derived.Test.YtlflcgdcegohjaaWFootNe
namespace Go.Proofs.YtlflcgdcegohjaaW.PrintWords
open Go.RowKit
end Go.Proofs.YtlflcgdcegohjaaW.PrintWords
namespace Go.Proofs.YtlflcgdcegohjaaW.PrintLast
section
variable {ops : Array Oper} {a : Act} {o og : Oper} {g : Nat} {t : Tmp} {u : Bool}
end
end Go.Proofs.YtlflcgdcegohjaaW.PrintLast
