-- Written by a program of this session out of the translation. Not trusted: Lean checks it.
import Derived.Test.YtffjlpphcjfdgaaDoorProg
import Derived.Test.YtffjlpphcjfdgaaDoorXTab
import Derived.Below
import Derived.Deep.Draws
import Derived.Deep.AppendLies
import Derived.Maps.AppendAt
import Derived.OwnWalk
import Derived.Laws.BytesArg
import Derived.Laws.MakeOwn
import Derived.Laws.OwnMore
import Derived.Deep.OwnRows
import Derived.Tactics
import Derived.Lib.ConvBytes
import Derived.Laws.Slices
import Derived.WalkKit
import Derived.KernelRfl
import Derived.RowKit3
import Derived.Deep.LoopGhost
import Derived.Deep.QuietTactic
import Derived.BigQuiet
import Derived.WideLaws
import Derived.Deep.DeepCutAuto
import Derived.Deep.CutBlock
import Derived.Deep.RegionHeld3
import Derived.Laws.Rows
import Derived.Lib.AppendStr
import Derived.ArgAppend
import Derived.Laws.IdiomCopy
import Derived.OrdersHeld
import Derived.Laws.BitsLemmas
import Derived.RowKit
import Derived.Test.YtffjlpphcjfdgaaDoorXSem
import Derived.Test.YtffjlpphcjfdgaaDoorShelf
import Derived.Test.YtffjlpphcjfdgaaDoorWWords
import Derived.Test.YtffjlpphcjfdgaaDoorWLast
import Derived.Test.YtffjlpphcjfdgaaDoorWTab
import Derived.Test.YtffjlpphcjfdgaaDoorWFour
import Derived.Test.YtffjlpphcjfdgaaDoorWQPut
import Derived.Test.YtffjlpphcjfdgaaDoorWApart
import Derived.Test.YtffjlpphcjfdgaaDoorWArr
import Derived.Test.YtffjlpphcjfdgaaDoorWZeros
import Derived.Test.YtffjlpphcjfdgaaDoorWFoot
import Derived.Test.YtffjlpphcjfdgaaDoorWKept
import Derived.Test.YtffjlpphcjfdgaaDoorWShare
import Derived.Test.YtffjlpphcjfdgaaDoorWN
import Derived.Test.YtffjlpphcjfdgaaDoorWFootNe
import Derived.Test.YtffjlpphcjfdgaaDoorWAt
import Derived.Test.YtffjlpphcjfdgaaDoorWEqStruct
import Derived.Test.YtffjlpphcjfdgaaDoorWRepsOne
import Derived.Test.YtffjlpphcjfdgaaDoorWInv
import Derived.Test.YtffjlpphcjfdgaaDoorWInvWords
import Derived.Test.YtffjlpphcjfdgaaDoorWGuard
import Derived.Test.YtffjlpphcjfdgaaDoorWNEv
import Derived.Test.YtffjlpphcjfdgaaDoorWMore
import Derived.Test.YtffjlpphcjfdgaaDoorXConv
namespace Go.Proofs.YtffjlpphcjfdgaaDoor.MFnExactTowerOf
-- TAB
open Go.Proofs.YtffjlpphcjfdgaaDoor Go.RowKit Go.Proofs.YtffjlpphcjfdgaaDoorW.PrintWords Go.Proofs.YtffjlpphcjfdgaaDoorW.PrintLast Go.Proofs.YtffjlpphcjfdgaaDoorW.PrintMore Go.Proofs.YtffjlpphcjfdgaaDoorX
attribute [local go_sem] max2_int min2_int max_two min_two max_three min_three max_four min_four str_gtr str_leq str_geq cell_twice
set_option linter.unusedVariables false
set_option linter.unusedSimpArgs false



def errW : Option Int → Value
  | none => .nilIface
  | some c => .iface 0 (.int .i64 c)
theorem errW_none : errW none = .nilIface := rfl
theorem errW_some (c : Int) : errW (some c) = .iface 0 (.int .i64 c) := rfl

theorem info5 : (Tryd.prog.info? 5).map (fun i => (i.zero, i.size, i.bytes)) = some (some (.int .u8 0), 1, 1) := by kernel_rfl
theorem info106 : (Tryd.prog.info? 106).map (fun i => (i.zero, i.size, i.bytes)) = some (some (.int .u32 0), 1, 4) := by kernel_rfl
-- the values' own types

end Go.Proofs.YtffjlpphcjfdgaaDoor.MFnExactTowerOf
