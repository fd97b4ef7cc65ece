/- Words of the kit's print, cut by this repo's wip/shake.py: only what this claim names is left. Conditions: none. -/
import Derived.Test.YtaepeajaefpooaaWWords
import Derived.Laws.StructEq
/-! ### 53. '==' of structs as_ one Bool -/
namespace Go.Proofs.YtaepeajaefpooaaW.PrintWords
open Go.RowKit
section
variable {P : Program} {d : Nat} {xs ys : Array Value} {f : Field} {fs : List Field} {a b : Value} {r s : Bool} {w : World}
end
end Go.Proofs.YtaepeajaefpooaaW.PrintWords
