/-
  No cell of these rows narrows 'for every input' (looked for: loops, veiled, ifaces, maps, wideKeys, modest, calm, conditions, laid).
  DERIVED. THE GIVEN ROWS OF THIS SEAT. 12 by the template 'for every input the law returns true; each argument reads behind the call as it read before'; 0 by the template 'total and deterministic' (their statements: YthbbobokacakjaaTotals.lean).
  GIVEN WITH THE SEED: the statements are not yours to turn. If you find one false, say at which input.
  Laid BY PROGRAM, IN A SANDBOX (cutbox-rows.mjs): the forced cells as the released guide's own fill.sh prints them over the translation 39785b727127c326… (all of the seat's roots in one cut). By AI agents, Wed Nov 11 2026. No macro, syntax, notation, axiom, sorry.
-/
import Derived.Test.YthbbobokacakjaaChecked
import GoSem.Claim
import GoSem.ClaimJoined
import GoSem.ClaimMapViews
import Derived.JoinedTies
import Derived.KernelRfl
namespace Go.Proofs.Ythbbobokacakjaa
/- THE CELL 'sum', in the pinned program and in every row, IS THE sha256 OF THE DUMP (.gsa) THAT YthbbobokacakjaaProg.lean LOADS. Nothing in Lean hashes anything: it is a label: what it is worth is what the hold of that sum in a sandbox is worth. -/
noncomputable def Try.pinned : Pinned := { name := "ythbbobokacakjaa", sum := "39785b727127c326fd44b84789ba85dfb21841146ee46c390c6700215cd180cf", checked := Try.checked }
namespace Rows
def none {H : Type} : Left H := { results := [], args := [] }

/-- 'laws.FnExactSumOn': WHATEVER THE INPUT: true; the input reads as it did. -/
def fnExactSumOnSpec : ChangeSpec := { name := "fnExactSumOn", fn := fun _ => fun
  | [d1, d2] => { results := [.lit (.bool true)], args := [d1, d2] }
  | _ => none }
def fnExactSumOnRow : OpenClaim := { program := "ythbbobokacakjaa", sum := "39785b727127c326fd44b84789ba85dfb21841146ee46c390c6700215cd180cf", func := "loop.example/g00224/laws.FnExactSumOn", spec := "fnExactSumOn", apart := false }
def FnExactSumOnSaid : Prop := fnExactSumOnRow.holds Try.pinned (OpenSpec.ofChange fnExactSumOnSpec)

/-- ITS FALSE NEIGHBOUR: 'it returns false'. Refute it at one input. -/
def fnExactSumOnWrong : ChangeSpec := { name := "fnExactSumOn", fn := fun _ => fun
  | [d1, d2] => { results := [.lit (.bool false)], args := [d1, d2] }
  | _ => none }
def FnExactSumOnWrongFalsely : Prop := fnExactSumOnRow.holds Try.pinned (OpenSpec.ofChange fnExactSumOnWrong)

/-- 'laws.FnExactSumOf': WHATEVER THE INPUT: true; the input reads as it did. -/
def fnExactSumOfSpec : ChangeSpec := { name := "fnExactSumOf", fn := fun _ => fun
  | [d] => { results := [.lit (.bool true)], args := [d] }
  | _ => none }
def fnExactSumOfRow : OpenClaim := { program := "ythbbobokacakjaa", sum := "39785b727127c326fd44b84789ba85dfb21841146ee46c390c6700215cd180cf", func := "loop.example/g00224/laws.FnExactSumOf", spec := "fnExactSumOf", apart := false }
def FnExactSumOfSaid : Prop := fnExactSumOfRow.holds Try.pinned (OpenSpec.ofChange fnExactSumOfSpec)

/-- ITS FALSE NEIGHBOUR: 'it returns false'. Refute it at one input. -/
def fnExactSumOfWrong : ChangeSpec := { name := "fnExactSumOf", fn := fun _ => fun
  | [d] => { results := [.lit (.bool false)], args := [d] }
  | _ => none }
def FnExactSumOfWrongFalsely : Prop := fnExactSumOfRow.holds Try.pinned (OpenSpec.ofChange fnExactSumOfWrong)

/-- 'laws.FnExactEntryBytes': WHATEVER THE INPUT: true; the input reads as it did. -/
def fnExactEntryBytesSpec : ChangeSpec := { name := "fnExactEntryBytes", fn := fun _ => fun
  | [d1, d2] => { results := [.lit (.bool true)], args := [d1, d2] }
  | _ => none }
def fnExactEntryBytesRow : OpenClaim := { program := "ythbbobokacakjaa", sum := "39785b727127c326fd44b84789ba85dfb21841146ee46c390c6700215cd180cf", func := "loop.example/g00224/laws.FnExactEntryBytes", spec := "fnExactEntryBytes", apart := false }
def FnExactEntryBytesSaid : Prop := fnExactEntryBytesRow.holds Try.pinned (OpenSpec.ofChange fnExactEntryBytesSpec)

/-- ITS FALSE NEIGHBOUR: 'it returns false'. Refute it at one input. -/
def fnExactEntryBytesWrong : ChangeSpec := { name := "fnExactEntryBytes", fn := fun _ => fun
  | [d1, d2] => { results := [.lit (.bool false)], args := [d1, d2] }
  | _ => none }
def FnExactEntryBytesWrongFalsely : Prop := fnExactEntryBytesRow.holds Try.pinned (OpenSpec.ofChange fnExactEntryBytesWrong)

/-- 'laws.FnExactSumTable': WHATEVER THE INPUT: true; the input reads as it did. -/
def fnExactSumTableSpec : ChangeSpec := { name := "fnExactSumTable", fn := fun _ => fun
  | [] => { results := [.lit (.bool true)], args := [] }
  | _ => none }
def fnExactSumTableRow : OpenClaim := { program := "ythbbobokacakjaa", sum := "39785b727127c326fd44b84789ba85dfb21841146ee46c390c6700215cd180cf", func := "loop.example/g00224/laws.FnExactSumTable", spec := "fnExactSumTable", apart := false }
def FnExactSumTableSaid : Prop := fnExactSumTableRow.holds Try.pinned (OpenSpec.ofChange fnExactSumTableSpec)

/-- ITS FALSE NEIGHBOUR: 'it returns false'. Refute it at one input. -/
def fnExactSumTableWrong : ChangeSpec := { name := "fnExactSumTable", fn := fun _ => fun
  | [] => { results := [.lit (.bool false)], args := [] }
  | _ => none }
def FnExactSumTableWrongFalsely : Prop := fnExactSumTableRow.holds Try.pinned (OpenSpec.ofChange fnExactSumTableWrong)

/-- 'laws.FnExactFrameBytes': WHATEVER THE INPUT: true; the input reads as it did. -/
def fnExactFrameBytesSpec : ChangeSpec := { name := "fnExactFrameBytes", fn := fun _ => fun
  | [d] => { results := [.lit (.bool true)], args := [d] }
  | _ => none }
def fnExactFrameBytesRow : OpenClaim := { program := "ythbbobokacakjaa", sum := "39785b727127c326fd44b84789ba85dfb21841146ee46c390c6700215cd180cf", func := "loop.example/g00224/laws.FnExactFrameBytes", spec := "fnExactFrameBytes", apart := false }
def FnExactFrameBytesSaid : Prop := fnExactFrameBytesRow.holds Try.pinned (OpenSpec.ofChange fnExactFrameBytesSpec)

/-- ITS FALSE NEIGHBOUR: 'it returns false'. Refute it at one input. -/
def fnExactFrameBytesWrong : ChangeSpec := { name := "fnExactFrameBytes", fn := fun _ => fun
  | [d] => { results := [.lit (.bool false)], args := [d] }
  | _ => none }
def FnExactFrameBytesWrongFalsely : Prop := fnExactFrameBytesRow.holds Try.pinned (OpenSpec.ofChange fnExactFrameBytesWrong)

/-- 'laws.FnLinear': WHATEVER THE INPUT: true; the input reads as it did. -/
def fnLinearSpec : ChangeSpec := { name := "fnLinear", fn := fun _ => fun
  | [d1, d2] => { results := [.lit (.bool true)], args := [d1, d2] }
  | _ => none }
def fnLinearRow : OpenClaim := { program := "ythbbobokacakjaa", sum := "39785b727127c326fd44b84789ba85dfb21841146ee46c390c6700215cd180cf", func := "loop.example/g00224/laws.FnLinear", spec := "fnLinear", apart := false }
def FnLinearSaid : Prop := fnLinearRow.holds Try.pinned (OpenSpec.ofChange fnLinearSpec)

/-- ITS FALSE NEIGHBOUR: 'it returns false'. Refute it at one input. -/
def fnLinearWrong : ChangeSpec := { name := "fnLinear", fn := fun _ => fun
  | [d1, d2] => { results := [.lit (.bool false)], args := [d1, d2] }
  | _ => none }
def FnLinearWrongFalsely : Prop := fnLinearRow.holds Try.pinned (OpenSpec.ofChange fnLinearWrong)

/-- 'laws.FnBurst': WHATEVER THE INPUT: true; the input reads as it did. -/
def fnBurstSpec : ChangeSpec := { name := "fnBurst", fn := fun _ => fun
  | [d1, d2] => { results := [.lit (.bool true)], args := [d1, d2] }
  | _ => none }
def fnBurstRow : OpenClaim := { program := "ythbbobokacakjaa", sum := "39785b727127c326fd44b84789ba85dfb21841146ee46c390c6700215cd180cf", func := "loop.example/g00224/laws.FnBurst", spec := "fnBurst", apart := false }
def FnBurstSaid : Prop := fnBurstRow.holds Try.pinned (OpenSpec.ofChange fnBurstSpec)

/-- ITS FALSE NEIGHBOUR: 'it returns false'. Refute it at one input. -/
def fnBurstWrong : ChangeSpec := { name := "fnBurst", fn := fun _ => fun
  | [d1, d2] => { results := [.lit (.bool false)], args := [d1, d2] }
  | _ => none }
def FnBurstWrongFalsely : Prop := fnBurstRow.holds Try.pinned (OpenSpec.ofChange fnBurstWrong)

/-- 'laws.FnExactTakeFrame': WHATEVER THE INPUT: true; the input reads as it did. -/
def fnExactTakeFrameSpec : ChangeSpec := { name := "fnExactTakeFrame", fn := fun _ => fun
  | [d] => { results := [.lit (.bool true)], args := [d] }
  | _ => none }
def fnExactTakeFrameRow : OpenClaim := { program := "ythbbobokacakjaa", sum := "39785b727127c326fd44b84789ba85dfb21841146ee46c390c6700215cd180cf", func := "loop.example/g00224/laws.FnExactTakeFrame", spec := "fnExactTakeFrame", apart := false }
def FnExactTakeFrameSaid : Prop := fnExactTakeFrameRow.holds Try.pinned (OpenSpec.ofChange fnExactTakeFrameSpec)

/-- ITS FALSE NEIGHBOUR: 'it returns false'. Refute it at one input. -/
def fnExactTakeFrameWrong : ChangeSpec := { name := "fnExactTakeFrame", fn := fun _ => fun
  | [d] => { results := [.lit (.bool false)], args := [d] }
  | _ => none }
def FnExactTakeFrameWrongFalsely : Prop := fnExactTakeFrameRow.holds Try.pinned (OpenSpec.ofChange fnExactTakeFrameWrong)

/-- 'laws.FnVars': WHATEVER THE INPUT: true; the input reads as it did. -/
def fnVarsSpec : ChangeSpec := { name := "fnVars", fn := fun _ => fun
  | [d1, d2] => { results := [.lit (.bool true)], args := [d1, d2] }
  | _ => none }
def fnVarsRow : OpenClaim := { program := "ythbbobokacakjaa", sum := "39785b727127c326fd44b84789ba85dfb21841146ee46c390c6700215cd180cf", func := "loop.example/g00224/laws.FnVars", spec := "fnVars", apart := false }
def FnVarsSaid : Prop := fnVarsRow.holds Try.pinned (OpenSpec.ofChange fnVarsSpec)

/-- ITS FALSE NEIGHBOUR: 'it returns false'. Refute it at one input. -/
def fnVarsWrong : ChangeSpec := { name := "fnVars", fn := fun _ => fun
  | [d1, d2] => { results := [.lit (.bool false)], args := [d1, d2] }
  | _ => none }
def FnVarsWrongFalsely : Prop := fnVarsRow.holds Try.pinned (OpenSpec.ofChange fnVarsWrong)

/-- 'laws.FnExactFramesBytes': WHATEVER THE INPUT: true; the input reads as it did. -/
def fnExactFramesBytesSpec : ChangeSpec := { name := "fnExactFramesBytes", fn := fun _ => fun
  | [d] => { results := [.lit (.bool true)], args := [d] }
  | _ => none }
def fnExactFramesBytesRow : OpenClaim := { program := "ythbbobokacakjaa", sum := "39785b727127c326fd44b84789ba85dfb21841146ee46c390c6700215cd180cf", func := "loop.example/g00224/laws.FnExactFramesBytes", spec := "fnExactFramesBytes", apart := false }
def FnExactFramesBytesSaid : Prop := fnExactFramesBytesRow.holds Try.pinned (OpenSpec.ofChange fnExactFramesBytesSpec)

/-- ITS FALSE NEIGHBOUR: 'it returns false'. Refute it at one input. -/
def fnExactFramesBytesWrong : ChangeSpec := { name := "fnExactFramesBytes", fn := fun _ => fun
  | [d] => { results := [.lit (.bool false)], args := [d] }
  | _ => none }
def FnExactFramesBytesWrongFalsely : Prop := fnExactFramesBytesRow.holds Try.pinned (OpenSpec.ofChange fnExactFramesBytesWrong)

/-- 'laws.FnExactReadFrames': WHATEVER THE INPUT: true; the input reads as it did. -/
def fnExactReadFramesSpec : ChangeSpec := { name := "fnExactReadFrames", fn := fun _ => fun
  | [d] => { results := [.lit (.bool true)], args := [d] }
  | _ => none }
def fnExactReadFramesRow : OpenClaim := { program := "ythbbobokacakjaa", sum := "39785b727127c326fd44b84789ba85dfb21841146ee46c390c6700215cd180cf", func := "loop.example/g00224/laws.FnExactReadFrames", spec := "fnExactReadFrames", apart := false }
def FnExactReadFramesSaid : Prop := fnExactReadFramesRow.holds Try.pinned (OpenSpec.ofChange fnExactReadFramesSpec)

/-- ITS FALSE NEIGHBOUR: 'it returns false'. Refute it at one input. -/
def fnExactReadFramesWrong : ChangeSpec := { name := "fnExactReadFrames", fn := fun _ => fun
  | [d] => { results := [.lit (.bool false)], args := [d] }
  | _ => none }
def FnExactReadFramesWrongFalsely : Prop := fnExactReadFramesRow.holds Try.pinned (OpenSpec.ofChange fnExactReadFramesWrong)

/-- 'laws.FnFrames': WHATEVER THE INPUT: true; the input reads as it did. -/
def fnFramesSpec : ChangeSpec := { name := "fnFrames", fn := fun _ => fun
  | [d1, d2] => { results := [.lit (.bool true)], args := [d1, d2] }
  | _ => none }
def fnFramesRow : OpenClaim := { program := "ythbbobokacakjaa", sum := "39785b727127c326fd44b84789ba85dfb21841146ee46c390c6700215cd180cf", func := "loop.example/g00224/laws.FnFrames", spec := "fnFrames", apart := false }
def FnFramesSaid : Prop := fnFramesRow.holds Try.pinned (OpenSpec.ofChange fnFramesSpec)

/-- ITS FALSE NEIGHBOUR: 'it returns false'. Refute it at one input. -/
def fnFramesWrong : ChangeSpec := { name := "fnFrames", fn := fun _ => fun
  | [d1, d2] => { results := [.lit (.bool false)], args := [d1, d2] }
  | _ => none }
def FnFramesWrongFalsely : Prop := fnFramesRow.holds Try.pinned (OpenSpec.ofChange fnFramesWrong)

/- THE SECOND FORM. 'bulk': how many values and letters a reading holds, each counted each time it is reached (what is shared counts as often as it is met; a slice's spare places count too). A statement '..UptoSaid' is the law's where the arguments, and the package variables that the reading takes, are together of bulk at most 1048576: NARROWER than '..Said'. Prove '..Said' where nothing that the law and all that it calls make is longer than what came in: it says more and counts as full. Else prove '..UptoSaid'. A law counts once. -/
mutual
def uptoBulk {H : Type} : DataW H → Nat
  | .lit (.string bytes) => bytes.length + 1
  | .lit _ => 1
  | .nil => 1
  | .ptr d => uptoBulk d + 1
  | .slice elems spare => uptoBulkAll elems + uptoBulkAll spare + 1
  | .agg parts => uptoBulkAll parts + 1
  | .iface _ d => uptoBulk d + 1
  | .map entries => uptoBulkEntries entries + 1
  | .held _ => 1
def uptoBulkAll {H : Type} : List (DataW H) → Nat
  | [] => 0
  | d :: r => uptoBulk d + uptoBulkAll r
def uptoBulkEntries {H : Type} : List (Lit × DataW H) → Nat
  | [] => 0
  | x :: r => uptoBulkEntry x + uptoBulkEntries r
def uptoBulkEntry {H : Type} : Lit × DataW H → Nat
  | (.string bytes, d) => bytes.length + uptoBulk d + 1
  | (_, d) => uptoBulk d + 1
 end
def uptoSmall : (H : Type) → List (DataW H) → Bool := fun _ ds => decide (uptoBulkAll ds ≤ 1048576)
def OpenSpec.upto (s : _root_.Go.ChangeSpec) : _root_.Go.OpenSpec := { _root_.Go.OpenSpec.ofChange s with cond := some uptoSmall }

/-- 'laws.FnExactSumOn', WHERE WHAT IT READS IS OF BULK AT MOST 1048576: true; the input reads as it did. -/
def fnExactSumOnUptoRow : OpenClaim := { program := "ythbbobokacakjaa", sum := "39785b727127c326fd44b84789ba85dfb21841146ee46c390c6700215cd180cf", func := "loop.example/g00224/laws.FnExactSumOn", spec := "fnExactSumOn", apart := false, narrowed := true }
def FnExactSumOnUptoSaid : Prop := fnExactSumOnUptoRow.holds Try.pinned (OpenSpec.upto fnExactSumOnSpec)

/-- 'laws.FnExactSumOf', WHERE WHAT IT READS IS OF BULK AT MOST 1048576: true; the input reads as it did. -/
def fnExactSumOfUptoRow : OpenClaim := { program := "ythbbobokacakjaa", sum := "39785b727127c326fd44b84789ba85dfb21841146ee46c390c6700215cd180cf", func := "loop.example/g00224/laws.FnExactSumOf", spec := "fnExactSumOf", apart := false, narrowed := true }
def FnExactSumOfUptoSaid : Prop := fnExactSumOfUptoRow.holds Try.pinned (OpenSpec.upto fnExactSumOfSpec)

/-- 'laws.FnExactEntryBytes', WHERE WHAT IT READS IS OF BULK AT MOST 1048576: true; the input reads as it did. -/
def fnExactEntryBytesUptoRow : OpenClaim := { program := "ythbbobokacakjaa", sum := "39785b727127c326fd44b84789ba85dfb21841146ee46c390c6700215cd180cf", func := "loop.example/g00224/laws.FnExactEntryBytes", spec := "fnExactEntryBytes", apart := false, narrowed := true }
def FnExactEntryBytesUptoSaid : Prop := fnExactEntryBytesUptoRow.holds Try.pinned (OpenSpec.upto fnExactEntryBytesSpec)

/-- 'laws.FnExactSumTable', WHERE WHAT IT READS IS OF BULK AT MOST 1048576: true; the input reads as it did. -/
def fnExactSumTableUptoRow : OpenClaim := { program := "ythbbobokacakjaa", sum := "39785b727127c326fd44b84789ba85dfb21841146ee46c390c6700215cd180cf", func := "loop.example/g00224/laws.FnExactSumTable", spec := "fnExactSumTable", apart := false, narrowed := true }
def FnExactSumTableUptoSaid : Prop := fnExactSumTableUptoRow.holds Try.pinned (OpenSpec.upto fnExactSumTableSpec)

/-- 'laws.FnExactFrameBytes', WHERE WHAT IT READS IS OF BULK AT MOST 1048576: true; the input reads as it did. -/
def fnExactFrameBytesUptoRow : OpenClaim := { program := "ythbbobokacakjaa", sum := "39785b727127c326fd44b84789ba85dfb21841146ee46c390c6700215cd180cf", func := "loop.example/g00224/laws.FnExactFrameBytes", spec := "fnExactFrameBytes", apart := false, narrowed := true }
def FnExactFrameBytesUptoSaid : Prop := fnExactFrameBytesUptoRow.holds Try.pinned (OpenSpec.upto fnExactFrameBytesSpec)

/-- 'laws.FnLinear', WHERE WHAT IT READS IS OF BULK AT MOST 1048576: true; the input reads as it did. -/
def fnLinearUptoRow : OpenClaim := { program := "ythbbobokacakjaa", sum := "39785b727127c326fd44b84789ba85dfb21841146ee46c390c6700215cd180cf", func := "loop.example/g00224/laws.FnLinear", spec := "fnLinear", apart := false, narrowed := true }
def FnLinearUptoSaid : Prop := fnLinearUptoRow.holds Try.pinned (OpenSpec.upto fnLinearSpec)

/-- 'laws.FnBurst', WHERE WHAT IT READS IS OF BULK AT MOST 1048576: true; the input reads as it did. -/
def fnBurstUptoRow : OpenClaim := { program := "ythbbobokacakjaa", sum := "39785b727127c326fd44b84789ba85dfb21841146ee46c390c6700215cd180cf", func := "loop.example/g00224/laws.FnBurst", spec := "fnBurst", apart := false, narrowed := true }
def FnBurstUptoSaid : Prop := fnBurstUptoRow.holds Try.pinned (OpenSpec.upto fnBurstSpec)

/-- 'laws.FnExactTakeFrame', WHERE WHAT IT READS IS OF BULK AT MOST 1048576: true; the input reads as it did. -/
def fnExactTakeFrameUptoRow : OpenClaim := { program := "ythbbobokacakjaa", sum := "39785b727127c326fd44b84789ba85dfb21841146ee46c390c6700215cd180cf", func := "loop.example/g00224/laws.FnExactTakeFrame", spec := "fnExactTakeFrame", apart := false, narrowed := true }
def FnExactTakeFrameUptoSaid : Prop := fnExactTakeFrameUptoRow.holds Try.pinned (OpenSpec.upto fnExactTakeFrameSpec)

/-- 'laws.FnVars', WHERE WHAT IT READS IS OF BULK AT MOST 1048576: true; the input reads as it did. -/
def fnVarsUptoRow : OpenClaim := { program := "ythbbobokacakjaa", sum := "39785b727127c326fd44b84789ba85dfb21841146ee46c390c6700215cd180cf", func := "loop.example/g00224/laws.FnVars", spec := "fnVars", apart := false, narrowed := true }
def FnVarsUptoSaid : Prop := fnVarsUptoRow.holds Try.pinned (OpenSpec.upto fnVarsSpec)

/-- 'laws.FnExactFramesBytes', WHERE WHAT IT READS IS OF BULK AT MOST 1048576: true; the input reads as it did. -/
def fnExactFramesBytesUptoRow : OpenClaim := { program := "ythbbobokacakjaa", sum := "39785b727127c326fd44b84789ba85dfb21841146ee46c390c6700215cd180cf", func := "loop.example/g00224/laws.FnExactFramesBytes", spec := "fnExactFramesBytes", apart := false, narrowed := true }
def FnExactFramesBytesUptoSaid : Prop := fnExactFramesBytesUptoRow.holds Try.pinned (OpenSpec.upto fnExactFramesBytesSpec)

/-- 'laws.FnExactReadFrames', WHERE WHAT IT READS IS OF BULK AT MOST 1048576: true; the input reads as it did. -/
def fnExactReadFramesUptoRow : OpenClaim := { program := "ythbbobokacakjaa", sum := "39785b727127c326fd44b84789ba85dfb21841146ee46c390c6700215cd180cf", func := "loop.example/g00224/laws.FnExactReadFrames", spec := "fnExactReadFrames", apart := false, narrowed := true }
def FnExactReadFramesUptoSaid : Prop := fnExactReadFramesUptoRow.holds Try.pinned (OpenSpec.upto fnExactReadFramesSpec)

/-- 'laws.FnFrames', WHERE WHAT IT READS IS OF BULK AT MOST 1048576: true; the input reads as it did. -/
def fnFramesUptoRow : OpenClaim := { program := "ythbbobokacakjaa", sum := "39785b727127c326fd44b84789ba85dfb21841146ee46c390c6700215cd180cf", func := "loop.example/g00224/laws.FnFrames", spec := "fnFrames", apart := false, narrowed := true }
def FnFramesUptoSaid : Prop := fnFramesUptoRow.holds Try.pinned (OpenSpec.upto fnFramesSpec)

end Rows
end Go.Proofs.Ythbbobokacakjaa
