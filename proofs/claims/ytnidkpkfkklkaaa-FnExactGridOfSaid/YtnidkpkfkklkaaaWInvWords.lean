/- Words of the kit's print, cut by this repo's wip/shake.py: only what this claim names is left. Conditions: none. -/
import Derived.Test.YtnidkpkfkklkaaaWInv
import Derived.Test.YtnidkpkfkklkaaaWFootNe
namespace Go.Proofs.YtnidkpkfkklkaaaW.PrintWords
open Go.RowKit
end Go.Proofs.YtnidkpkfkklkaaaW.PrintWords
namespace Go.Proofs.YtnidkpkfkklkaaaW.PrintLast
section
variable {ops : Array Oper} {a : Act} {o og : Oper} {g : Nat} {t : Tmp} {u : Bool}
end
end Go.Proofs.YtnidkpkfkklkaaaW.PrintLast
