/- Words of the kit's print, cut by this repo's wip/shake.py: only what this claim names is left. Conditions: none. -/
import Derived.Test.YtjcjehnjbgklbaaWInv
import Derived.Test.YtjcjehnjbgklbaaWFootNe
namespace Go.Proofs.YtjcjehnjbgklbaaW.PrintWords
open Go.RowKit
end Go.Proofs.YtjcjehnjbgklbaaW.PrintWords
namespace Go.Proofs.YtjcjehnjbgklbaaW.PrintLast
section
variable {ops : Array Oper} {a : Act} {o og : Oper} {g : Nat} {t : Tmp} {u : Bool}
end
end Go.Proofs.YtjcjehnjbgklbaaW.PrintLast
