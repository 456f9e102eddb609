import Derived.Test.YtffjlpphcjfdgaaDoorRows
import Derived.Test.YtffjlpphcjfdgaaDoorCards
import Derived.Test.YtffjlpphcjfdgaaDoorTie
import Derived.LaidMore
import Derived.OpenShut
import Derived.Stop.Joined
import Derived.Lib.LaidTab
import Derived.Lib.ItoaNum
import Derived.Lib.LaidU8
import Derived.ProofKit
import Derived.Test.YtffjlpphcjfdgaaDoorXTab
namespace Go.Proofs.YtffjlpphcjfdgaaDoor
open Go.ChangeShapes Go.WideShapes Go.ChangeAt Go.RowKit
def laid3 : List (String × DataW Unit) := [("math/bits.deBruijn32tab", Rows.laid_math_bits_deBruijn32tab), ("math/bits.deBruijn64tab", Rows.laid_math_bits_deBruijn64tab), ("internal/strconv.uint64pow10", Rows.laid_internal_strconv_uint64pow10)]
theorem laid3_plain (w : World) : laidMetH Tryd.prog laid3 w = laidMet Tryd.prog laid3 w := MakeChecks.laidMetH_plain _ _ _ (by kernel_rfl)
/-- The door's own heap meets the condition. -/
theorem door_met (os : Os) (args : Array Value) : laidMetH Tryd.prog laid3 ((World.doorLaid Tryd.prog 400 os).forCall (fun _ _ => 0) ⟨#[], args, []⟩).memory := by
  rw [laid3_plain]
  exact laidMet_of_run' 70 (by kernel_rfl) (by kernel_rfl)
theorem tab_of {w : World} (h : laidMetH Tryd.prog laid3 w) : Tab w := by
  rw [laid3_plain] at h
  obtain ⟨g', t', cs, fuel, p, hg', ht', hvar, hd⟩ := Lib.laidMet.reads h (n := "internal/strconv.uint64pow10") (d := Rows.laid_internal_strconv_uint64pow10) (by simp [laid3])
  obtain rfl := Option.some.inj (gPow.symm.trans hg')
  obtain rfl := Option.some.inj (gPowT.symm.trans ht')
  have hd' : DataW.trod (fun _ => ()) Tryd.prog w 0 (fun _ => true) false fuel 127 cs.toList = some (Lib.tabData .u64 Lib.pow10Tab, p) := hd
  unfold Tab Lib.TabIs
  rw [hvar, ← Lib.cells_of_tab Tryd.underlying127 Tryd.underlying66 cPowE cPow hd']
end Go.Proofs.YtffjlpphcjfdgaaDoor
