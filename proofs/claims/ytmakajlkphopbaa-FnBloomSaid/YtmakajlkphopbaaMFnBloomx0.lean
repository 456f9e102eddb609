-- Written by a program of this session out of the translation. Not trusted: Lean checks it.
import Derived.Test.YtmakajlkphopbaaProg
import Derived.Below
import Derived.Deep.Draws
import Derived.Deep.AppendLies
import Derived.Maps.AppendAt
import Derived.OwnWalk
import Derived.Laws.BytesArg
import Derived.Laws.MakeOwn
import Derived.Laws.OwnMore
import Derived.Deep.OwnRows
import Derived.Tactics
import Derived.Lib.ConvBytes
import Derived.Laws.Slices
import Derived.WalkKit
import Derived.KernelRfl
import Derived.RowKit3
import Derived.Deep.LoopGhost
import Derived.Deep.QuietTactic
import Derived.BigQuiet
import Derived.WideLaws
import Derived.Deep.DeepCutAuto
import Derived.Deep.CutBlock
import Derived.Deep.RegionHeld3
import Derived.Laws.Rows
import Derived.Lib.AppendStr
import Derived.ArgAppend
import Derived.Laws.IdiomCopy
import Derived.OrdersHeld
import Derived.Laws.BitsLemmas
import Derived.RowKit
import Derived.Test.YtmakajlkphopbaaXSem
import Derived.Test.YtmakajlkphopbaaShelf
import Derived.Test.YtmakajlkphopbaaWWords
import Derived.Test.YtmakajlkphopbaaWLast
import Derived.Test.YtmakajlkphopbaaWTab
import Derived.Test.YtmakajlkphopbaaWFour
import Derived.Test.YtmakajlkphopbaaWQPut
import Derived.Test.YtmakajlkphopbaaWApart
import Derived.Test.YtmakajlkphopbaaWArr
import Derived.Test.YtmakajlkphopbaaWZeros
import Derived.Test.YtmakajlkphopbaaWFoot
import Derived.Test.YtmakajlkphopbaaWKept
import Derived.Test.YtmakajlkphopbaaWShare
import Derived.Test.YtmakajlkphopbaaWN
import Derived.Test.YtmakajlkphopbaaWFootNe
import Derived.Test.YtmakajlkphopbaaWAt
import Derived.Test.YtmakajlkphopbaaWEqStruct
import Derived.Test.YtmakajlkphopbaaWRepsOne
import Derived.Test.YtmakajlkphopbaaWInv
import Derived.Test.YtmakajlkphopbaaWInvWords
import Derived.Test.YtmakajlkphopbaaWGuard
import Derived.Test.YtmakajlkphopbaaWNEv
import Derived.Test.YtmakajlkphopbaaWMore
import Derived.Test.YtmakajlkphopbaaXConv
namespace Go.Proofs.Ytmakajlkphopbaa.MFnBloom
open Go.RowKit Go.Proofs.YtmakajlkphopbaaW.PrintWords Go.Proofs.YtmakajlkphopbaaW.PrintLast Go.Proofs.YtmakajlkphopbaaW.PrintMore Go.Proofs.YtmakajlkphopbaaX
attribute [local go_sem] max2_int min2_int max_two min_two max_three min_three max_four min_four str_gtr str_leq str_geq cell_twice
set_option linter.unusedVariables false
set_option linter.unusedSimpArgs false



def errW : Option Int → Value
  | none => .nilIface
  | some c => .iface 0 (.int .i64 c)
theorem errW_none : errW none = .nilIface := rfl
theorem errW_some (c : Int) : errW (some c) = .iface 0 (.int .i64 c) := rfl

theorem info3 : (Try.prog.info? 3).map (fun i => (i.zero, i.size, i.bytes)) = some (some (.int .i64 0), 1, 8) := by kernel_rfl
theorem info5 : (Try.prog.info? 5).map (fun i => (i.zero, i.size, i.bytes)) = some (some (.int .u8 0), 1, 1) := by kernel_rfl
theorem info9 : (Try.prog.info? 9).map (fun i => (i.zero, i.size, i.bytes)) = some (some (.string ⟨#[]⟩), 1, 16) := by kernel_rfl
theorem info80 : (Try.prog.info? 80).map (fun i => (i.zero, i.size, i.bytes)) = some (some (.int .u32 0), 1, 4) := by kernel_rfl
-- the values' own types

end Go.Proofs.Ytmakajlkphopbaa.MFnBloom
