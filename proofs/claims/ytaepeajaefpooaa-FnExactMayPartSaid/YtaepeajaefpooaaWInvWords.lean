/- Words of the kit's print, cut by this repo's wip/shake.py: only what this claim names is left. Conditions: none. -/
import Derived.Test.YtaepeajaefpooaaWInv
import Derived.Test.YtaepeajaefpooaaWFootNe
namespace Go.Proofs.YtaepeajaefpooaaW.PrintWords
open Go.RowKit
end Go.Proofs.YtaepeajaefpooaaW.PrintWords
namespace Go.Proofs.YtaepeajaefpooaaW.PrintLast
section
variable {ops : Array Oper} {a : Act} {o og : Oper} {g : Nat} {t : Tmp} {u : Bool}
end
end Go.Proofs.YtaepeajaefpooaaW.PrintLast
