/- Words of the kit's print, cut by this repo's wip/shake.py: only what this claim names is left. Conditions: none. -/
import Derived.Test.YtaepeajaefpooaaWN
/-! ### 52. A row that stays read whatever happens to a block (a set of blocks) doesn't lie there -/
namespace Go.Proofs.YtaepeajaefpooaaW.PrintWords
open Go.RowKit
namespace Kd
section
variable {α : Type} {d : Kd α} {W : World} {g n : Nat} {S ok : Nat → Prop} {A : Option Addr} {ad : Addr} {xs : List α}
end
end Kd
end Go.Proofs.YtaepeajaefpooaaW.PrintWords
