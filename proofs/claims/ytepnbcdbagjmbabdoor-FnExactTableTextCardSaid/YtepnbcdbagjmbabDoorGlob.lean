/- What a table of the library's holds (internal/strconv.uint64pow10), carried to the worlds that come. Conditions: none. -/
import Derived.Test.YtepnbcdbagjmbabDoorProg
import Derived.Lib.LaidTab
import Derived.Lib.AppendIntMem
import Derived.Below
import Derived.KernelRfl
namespace Go.Proofs.YtepnbcdbagjmbabDoorW.PrintWords
open Go.RowKit
def GT (w : World) : Prop := Lib.TabIs Go.Proofs.Tryd.prog w "internal/strconv.uint64pow10" .u64 Lib.pow10Tab
theorem GT_below {w w1 : World} (h : GT w) (hb : Below w.heap.size w w1) : GT w1 := by
  have hgn : Go.Proofs.Tryd.prog.globalNamed "internal/strconv.uint64pow10" = some 0 := by kernel_rfl
  unfold GT Lib.TabIs World.var? at h ⊢
  rw [hgn] at h ⊢
  simp only [Option.bind_some] at h ⊢
  have hlt : 0 < w.heap.size := by
    rcases Nat.lt_or_ge 0 w.heap.size with h' | h'
    · exact h'
    · rw [Array.getElem?_eq_none h'] at h; cases h
  rw [hb.block 0 hlt]
  exact h
end Go.Proofs.YtepnbcdbagjmbabDoorW.PrintWords
