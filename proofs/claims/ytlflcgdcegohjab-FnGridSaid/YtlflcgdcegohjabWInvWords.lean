/- Words of the kit's print, cut by this repo's wip/shake.py: only what this claim names is left. Conditions: none. -/
import Derived.Test.YtlflcgdcegohjabWInv
import Derived.Test.YtlflcgdcegohjabWFootNe
namespace Go.Proofs.YtlflcgdcegohjabW.PrintWords
open Go.RowKit
end Go.Proofs.YtlflcgdcegohjabW.PrintWords
namespace Go.Proofs.YtlflcgdcegohjabW.PrintLast
section
variable {ops : Array Oper} {a : Act} {o og : Oper} {g : Nat} {t : Tmp} {u : Bool}
end
end Go.Proofs.YtlflcgdcegohjabW.PrintLast
