import Derived.Test.YtffjlpphcjfdgaaDoorProg
import Derived.Lib.LaidTab
import Derived.Lib.ItoaNum
import Derived.Below
import Derived.Lib.AppendIntMem
import Derived.KernelRfl
namespace Go.Proofs.YtffjlpphcjfdgaaDoor
open Go Go.RowKit
theorem gPow : Tryd.prog.globalNamed "internal/strconv.uint64pow10" = some 0 := by kernel_rfl
theorem gPowT : (Tryd.prog.globals[0]?).map (·.type) = some 127 := by kernel_rfl
theorem cPow : Tryd.prog.cellsOf 127 = 20 := by kernel_rfl
theorem cPowE : Tryd.prog.cellsOf 66 = 1 := by kernel_rfl
/-- The table of strconv's. -/
def Tab (w : World) : Prop := Lib.TabIs Tryd.prog w "internal/strconv.uint64pow10" .u64 Lib.pow10Tab
theorem tab_below {w w' : World} (h : Tab w) (hb : Below w.heap.size w w') : Tab w' := by
  unfold Tab Lib.TabIs World.var? at h ⊢
  rw [gPow] at h ⊢
  simp only [Option.bind_some] at h ⊢
  have hlt : 0 < w.heap.size := by
    rcases Nat.lt_or_ge 0 w.heap.size with h' | h'
    · exact h'
    · rw [Array.getElem?_eq_none h'] at h; simp at h
  rw [hb.block _ hlt]
  exact h
theorem tab_lower {w0 w : World} (h : Tab w0) (hb : Below w0.heap.size w0 w) : Tab w := tab_below h hb
end Go.Proofs.YtffjlpphcjfdgaaDoor
