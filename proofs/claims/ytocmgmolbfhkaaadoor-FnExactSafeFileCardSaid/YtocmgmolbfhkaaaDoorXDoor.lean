import Derived.Test.YtocmgmolbfhkaaaDoorRows
import Derived.Test.YtocmgmolbfhkaaaDoorCards
import Derived.Test.YtocmgmolbfhkaaaDoorTie
import Derived.LaidMore
import Derived.OpenShut
import Derived.Stop.Joined
import Derived.ProofKit
import Derived.Lay
namespace Go.Proofs.YtocmgmolbfhkaaaDoor
open Go.ChangeShapes Go.WideShapes Go.ChangeAt Go.RowKit
def laid3 : List (String × DataW Unit) := [("unicode/utf8.acceptRanges", Rows.laid_unicode_utf8_acceptRanges), ("unicode/utf8.first", Rows.laid_unicode_utf8_first)]
theorem laid3_plain (w : World) : laidMetH Tryd.prog laid3 w = laidMet Tryd.prog laid3 w := MakeChecks.laidMetH_plain _ _ _ (by kernel_rfl)
theorem laid3_start (os : Os) (args : Array Value) : laidMetH Tryd.prog laid3 ((World.laidAll Tryd.prog os laid3).forCall (fun _ _ => 0) ⟨#[], args, []⟩).memory := by
  rw [laid3_plain]
  exact laidMet_laidAll _ (by kernel_rfl) (by kernel_rfl)
end Go.Proofs.YtocmgmolbfhkaaaDoor
