/- What variables of the library's hold, carried to the worlds that come. Conditions: none. -/
import Derived.Test.YtkjbbnijhpldhaaGreatDoorProg
import Derived.Lib.LaidTab
import Derived.Lib.AppendIntMem
import Derived.Lib.AtoiErrMem
import Derived.Below
import Derived.KernelRfl
namespace Go.Proofs.YtkjbbnijhpldhaaGreatDoorW.PrintWords
open Go.RowKit
def ais (w:World):Prop:=Lib.TabIs Go.Proofs.Tryz.prog w "internal/strconv.uint64pow10" .u64 Lib.pow10Tab
theorem We {w w1:World} (h:ais w) (hb:Below w.heap.size w w1):ais w1:=by
  have hgn:Go.Proofs.Tryz.prog.globalNamed "internal/strconv.uint64pow10" =some 1:=by kernel_rfl
  unfold ais Lib.TabIs World.var? at h ⊢
  rw[hgn] at h ⊢
  simp only[Option.bind_some] at h ⊢
  have hlt:1<w.heap.size:=by
    rcases Nat.lt_or_ge 1 w.heap.size with h'|h'
    · exact h'
    · rw[Array.getElem?_eq_none h'] at h;cases h
  rw[hb.block 1 hlt]
  exact h
structure GT (w:World):Prop where
  maxlen:∃m,w.cell? ⟨0,0,none⟩=some (.int .i64 m)
  pow10:ais w
theorem oh {w w1:World} (h:GT w) (hb:Below w.heap.size w w1):GT w1:=
  ⟨let ⟨m,hm⟩:=h.maxlen;⟨m,(hb.cell (p:=⟨0,0,none⟩) (Lib.lt_of_cell hm)).trans hm⟩,We h.pow10 hb⟩
end Go.Proofs.YtkjbbnijhpldhaaGreatDoorW.PrintWords
