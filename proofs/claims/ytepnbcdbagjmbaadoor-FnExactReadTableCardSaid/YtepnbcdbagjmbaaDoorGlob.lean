/- What variables of the library's hold, carried to the worlds that come. Conditions: none. -/
import Derived.Test.YtepnbcdbagjmbaaDoorProg
import Derived.Lib.LaidTab
import Derived.Lib.AppendIntMem
import Derived.Lib.AtoiErrMem
import Derived.Below
import Derived.KernelRfl
namespace Go.Proofs.YtepnbcdbagjmbaaDoorW.PrintWords
open Go.RowKit
structure GT (w : World) : Prop where
  maxlen : ∃ m, w.cell? ⟨0, 0, none⟩ = some (.int .i64 m)
theorem GT_below {w w1 : World} (h : GT w) (hb : Below w.heap.size w w1) : GT w1 :=
  ⟨let ⟨m, hm⟩ := h.maxlen; ⟨m, (hb.cell (p := ⟨0, 0, none⟩) (Lib.lt_of_cell hm)).trans hm⟩⟩
end Go.Proofs.YtepnbcdbagjmbaaDoorW.PrintWords
