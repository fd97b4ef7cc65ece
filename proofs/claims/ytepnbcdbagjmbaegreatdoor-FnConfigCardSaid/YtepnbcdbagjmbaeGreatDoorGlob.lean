/- What variables of the library's hold, carried to the worlds that come. Conditions: none. -/
import Derived.Test.YtepnbcdbagjmbaeGreatDoorProg
import Derived.Lib.LaidTab
import Derived.Lib.AppendIntMem
import Derived.Lib.AtoiErrMem
import Derived.Below
import Derived.KernelRfl
namespace Go.Proofs.YtepnbcdbagjmbaeGreatDoorW.PrintWords
open Go.RowKit
def GT10 (w : World) : Prop := Lib.TabIs Go.Proofs.Tryz.prog w "internal/strconv.uint64pow10" .u64 Lib.pow10Tab
theorem GT10_below {w w1 : World} (h : GT10 w) (hb : Below w.heap.size w w1) : GT10 w1 := by
  have hgn : Go.Proofs.Tryz.prog.globalNamed "internal/strconv.uint64pow10" = some 1 := by kernel_rfl
  unfold GT10 Lib.TabIs World.var? at h ⊢
  rw [hgn] at h ⊢
  simp only [Option.bind_some] at h ⊢
  have hlt : 1 < w.heap.size := by
    rcases Nat.lt_or_ge 1 w.heap.size with h' | h'
    · exact h'
    · rw [Array.getElem?_eq_none h'] at h; cases h
  rw [hb.block 1 hlt]
  exact h
structure GT (w : World) : Prop where
  maxlen : ∃ m, w.cell? ⟨0, 0, none⟩ = some (.int .i64 m)
  syn : ∃ t p, w.cell? ⟨4, 0, none⟩ = some (.iface t p)
  rng : ∃ t p, w.cell? ⟨5, 0, none⟩ = some (.iface t p)
  pow10 : GT10 w
theorem GT_below {w w1 : World} (h : GT w) (hb : Below w.heap.size w w1) : GT w1 :=
  ⟨let ⟨m, hm⟩ := h.maxlen; ⟨m, (hb.cell (p := ⟨0, 0, none⟩) (Lib.lt_of_cell hm)).trans hm⟩, let ⟨t, p, hm⟩ := h.syn; ⟨t, p, (hb.cell (p := ⟨4, 0, none⟩) (Lib.lt_of_cell hm)).trans hm⟩, let ⟨t, p, hm⟩ := h.rng; ⟨t, p, (hb.cell (p := ⟨5, 0, none⟩) (Lib.lt_of_cell hm)).trans hm⟩, GT10_below h.pow10 hb⟩
end Go.Proofs.YtepnbcdbagjmbaeGreatDoorW.PrintWords
