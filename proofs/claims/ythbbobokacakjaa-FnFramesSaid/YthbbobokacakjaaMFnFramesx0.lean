-- Written by a program of this session out of the translation. Not trusted: Lean checks it.
import Derived.Test.YthbbobokacakjaaProg
import Derived.Below
import Derived.Deep.Draws
import Derived.Deep.AppendLies
import Derived.Maps.AppendAt
import Derived.OwnWalk
import Derived.Laws.BytesArg
import Derived.Laws.MakeOwn
import Derived.Laws.OwnMore
import Derived.Deep.OwnRows
import Derived.Tactics
import Derived.Lib.ConvBytes
import Derived.Laws.Slices
import Derived.WalkKit
import Derived.KernelRfl
import Derived.RowKit3
import Derived.Deep.LoopGhost
import Derived.Deep.QuietTactic
import Derived.BigQuiet
import Derived.WideLaws
import Derived.Deep.DeepCutAuto
import Derived.Deep.CutBlock
import Derived.Deep.RegionHeld3
import Derived.Laws.Rows
import Derived.Lib.AppendStr
import Derived.ArgAppend
import Derived.Laws.IdiomCopy
import Derived.OrdersHeld
import Derived.Laws.BitsLemmas
import Derived.RowKit
import Derived.Test.YthbbobokacakjaaXSem
import Derived.Test.YthbbobokacakjaaWWords
import Derived.Test.YthbbobokacakjaaWLast
import Derived.Test.YthbbobokacakjaaWTab
import Derived.Test.YthbbobokacakjaaWFour
import Derived.Test.YthbbobokacakjaaWQPut
import Derived.Test.YthbbobokacakjaaWApart
import Derived.Test.YthbbobokacakjaaWArr
import Derived.Test.YthbbobokacakjaaWZeros
import Derived.Test.YthbbobokacakjaaWFoot
import Derived.Test.YthbbobokacakjaaWKept
import Derived.Test.YthbbobokacakjaaWShare
import Derived.Test.YthbbobokacakjaaWN
import Derived.Test.YthbbobokacakjaaWFootNe
import Derived.Test.YthbbobokacakjaaWAt
import Derived.Test.YthbbobokacakjaaWEqStruct
import Derived.Test.YthbbobokacakjaaWRepsOne
import Derived.Test.YthbbobokacakjaaWInv
import Derived.Test.YthbbobokacakjaaWInvWords
import Derived.Test.YthbbobokacakjaaWGuard
import Derived.Test.YthbbobokacakjaaWNEv
import Derived.Test.YthbbobokacakjaaWMore
import Derived.Test.YthbbobokacakjaaXConv
namespace Go.Proofs.Ythbbobokacakjaa.MFnFrames
open Go.RowKit Go.Proofs.YthbbobokacakjaaW.PrintWords Go.Proofs.YthbbobokacakjaaW.PrintLast Go.Proofs.YthbbobokacakjaaW.PrintMore Go.Proofs.YthbbobokacakjaaX
attribute [local go_sem] max2_int min2_int max_two min_two max_three min_three max_four min_four str_gtr str_leq str_geq cell_twice
set_option linter.unusedVariables false
set_option linter.unusedSimpArgs false



def errW : Option Int → Value
  | none => .nilIface
  | some c => .iface 0 (.int .i64 c)
theorem errW_none : errW none = .nilIface := rfl
theorem errW_some (c : Int) : errW (some c) = .iface 0 (.int .i64 c) := rfl

theorem info5 : (Try.prog.info? 5).map (fun i => (i.zero, i.size, i.bytes)) = some (some (.int .u8 0), 1, 1) := by kernel_rfl
theorem info9 : (Try.prog.info? 9).map (fun i => (i.zero, i.size, i.bytes)) = some (some (.string ⟨#[]⟩), 1, 16) := by kernel_rfl
theorem info22 : (Try.prog.info? 22).map (fun i => (i.zero, i.size, i.bytes)) = some (some (.int .u32 0), 1, 4) := by kernel_rfl
-- the values' own types

end Go.Proofs.Ythbbobokacakjaa.MFnFrames
