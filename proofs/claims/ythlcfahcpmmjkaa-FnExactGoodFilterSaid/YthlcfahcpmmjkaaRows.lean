/-
  No cell of these rows narrows 'for every input' (looked for: loops, veiled, ifaces, maps, wideKeys, modest, calm, conditions, laid).
  DERIVED. THE GIVEN ROWS OF THIS SEAT. 6 by the template 'for every input the law returns true; each argument reads behind the call as it read before'; 0 by the template 'total and deterministic' (their statements: YthlcfahcpmmjkaaTotals.lean).
  GIVEN WITH THE SEED: the statements are not yours to turn. If you find one false, say at which input.
  Laid BY PROGRAM, IN A SANDBOX (cutbox-rows.mjs): the forced cells as the released guide's own fill.sh prints them over the translation 6abbd23278d86d12… (all of the seat's roots in one cut). By AI agents, Wed Nov 11 2026. No macro, syntax, notation, axiom, sorry.
-/
import Derived.Test.YthlcfahcpmmjkaaChecked
import GoSem.Claim
import GoSem.ClaimJoined
import GoSem.ClaimMapViews
import Derived.JoinedTies
import Derived.KernelRfl
namespace Go.Proofs.Ythlcfahcpmmjkaa
/- THE CELL 'sum', in the pinned program and in every row, IS THE sha256 OF THE DUMP (.gsa) THAT YthlcfahcpmmjkaaProg.lean LOADS. Nothing in Lean hashes anything: it is a label: what it is worth is what the hold of that sum in a sandbox is worth. -/
noncomputable def Try.pinned : Pinned := { name := "ythlcfahcpmmjkaa", sum := "6abbd23278d86d12829261c6e801f6d933ec9ad77f0ad591f3bd3f8e5f3af457", checked := Try.checked }
namespace Rows
def none {H : Type} : Left H := { results := [], args := [] }

/-- 'laws.FnExactConstants': WHATEVER THE INPUT: true; the input reads as it did. -/
def fnExactConstantsSpec : ChangeSpec := { name := "fnExactConstants", fn := fun _ => fun
  | [] => { results := [.lit (.bool true)], args := [] }
  | _ => none }
def fnExactConstantsRow : OpenClaim := { program := "ythlcfahcpmmjkaa", sum := "6abbd23278d86d12829261c6e801f6d933ec9ad77f0ad591f3bd3f8e5f3af457", func := "loop.example/g00224/laws.FnExactConstants", spec := "fnExactConstants", apart := false }
def FnExactConstantsSaid : Prop := fnExactConstantsRow.holds Try.pinned (OpenSpec.ofChange fnExactConstantsSpec)

/-- ITS FALSE NEIGHBOUR: 'it returns false'. Refute it at one input. -/
def fnExactConstantsWrong : ChangeSpec := { name := "fnExactConstants", fn := fun _ => fun
  | [] => { results := [.lit (.bool false)], args := [] }
  | _ => none }
def FnExactConstantsWrongFalsely : Prop := fnExactConstantsRow.holds Try.pinned (OpenSpec.ofChange fnExactConstantsWrong)

/-- 'laws.FnExactCommonOf': WHATEVER THE INPUT: true; the input reads as it did. -/
def fnExactCommonOfSpec : ChangeSpec := { name := "fnExactCommonOf", fn := fun _ => fun
  | [d1, d2] => { results := [.lit (.bool true)], args := [d1, d2] }
  | _ => none }
def fnExactCommonOfRow : OpenClaim := { program := "ythlcfahcpmmjkaa", sum := "6abbd23278d86d12829261c6e801f6d933ec9ad77f0ad591f3bd3f8e5f3af457", func := "loop.example/g00224/laws.FnExactCommonOf", spec := "fnExactCommonOf", apart := false }
def FnExactCommonOfSaid : Prop := fnExactCommonOfRow.holds Try.pinned (OpenSpec.ofChange fnExactCommonOfSpec)

/-- ITS FALSE NEIGHBOUR: 'it returns false'. Refute it at one input. -/
def fnExactCommonOfWrong : ChangeSpec := { name := "fnExactCommonOf", fn := fun _ => fun
  | [d1, d2] => { results := [.lit (.bool false)], args := [d1, d2] }
  | _ => none }
def FnExactCommonOfWrongFalsely : Prop := fnExactCommonOfRow.holds Try.pinned (OpenSpec.ofChange fnExactCommonOfWrong)

/-- 'laws.FnExactGoodFilter': WHATEVER THE INPUT: true; the input reads as it did. -/
def fnExactGoodFilterSpec : ChangeSpec := { name := "fnExactGoodFilter", fn := fun _ => fun
  | [d] => { results := [.lit (.bool true)], args := [d] }
  | _ => none }
def fnExactGoodFilterRow : OpenClaim := { program := "ythlcfahcpmmjkaa", sum := "6abbd23278d86d12829261c6e801f6d933ec9ad77f0ad591f3bd3f8e5f3af457", func := "loop.example/g00224/laws.FnExactGoodFilter", spec := "fnExactGoodFilter", apart := false }
def FnExactGoodFilterSaid : Prop := fnExactGoodFilterRow.holds Try.pinned (OpenSpec.ofChange fnExactGoodFilterSpec)

/-- ITS FALSE NEIGHBOUR: 'it returns false'. Refute it at one input. -/
def fnExactGoodFilterWrong : ChangeSpec := { name := "fnExactGoodFilter", fn := fun _ => fun
  | [d] => { results := [.lit (.bool false)], args := [d] }
  | _ => none }
def FnExactGoodFilterWrongFalsely : Prop := fnExactGoodFilterRow.holds Try.pinned (OpenSpec.ofChange fnExactGoodFilterWrong)

/-- 'laws.FnExactTakeVar': WHATEVER THE INPUT: true; the input reads as it did. -/
def fnExactTakeVarSpec : ChangeSpec := { name := "fnExactTakeVar", fn := fun _ => fun
  | [d] => { results := [.lit (.bool true)], args := [d] }
  | _ => none }
def fnExactTakeVarRow : OpenClaim := { program := "ythlcfahcpmmjkaa", sum := "6abbd23278d86d12829261c6e801f6d933ec9ad77f0ad591f3bd3f8e5f3af457", func := "loop.example/g00224/laws.FnExactTakeVar", spec := "fnExactTakeVar", apart := false }
def FnExactTakeVarSaid : Prop := fnExactTakeVarRow.holds Try.pinned (OpenSpec.ofChange fnExactTakeVarSpec)

/-- ITS FALSE NEIGHBOUR: 'it returns false'. Refute it at one input. -/
def fnExactTakeVarWrong : ChangeSpec := { name := "fnExactTakeVar", fn := fun _ => fun
  | [d] => { results := [.lit (.bool false)], args := [d] }
  | _ => none }
def FnExactTakeVarWrongFalsely : Prop := fnExactTakeVarRow.holds Try.pinned (OpenSpec.ofChange fnExactTakeVarWrong)

/-- 'laws.FnExactVarBytes': WHATEVER THE INPUT: true; the input reads as it did. -/
def fnExactVarBytesSpec : ChangeSpec := { name := "fnExactVarBytes", fn := fun _ => fun
  | [d] => { results := [.lit (.bool true)], args := [d] }
  | _ => none }
def fnExactVarBytesRow : OpenClaim := { program := "ythlcfahcpmmjkaa", sum := "6abbd23278d86d12829261c6e801f6d933ec9ad77f0ad591f3bd3f8e5f3af457", func := "loop.example/g00224/laws.FnExactVarBytes", spec := "fnExactVarBytes", apart := false }
def FnExactVarBytesSaid : Prop := fnExactVarBytesRow.holds Try.pinned (OpenSpec.ofChange fnExactVarBytesSpec)

/-- ITS FALSE NEIGHBOUR: 'it returns false'. Refute it at one input. -/
def fnExactVarBytesWrong : ChangeSpec := { name := "fnExactVarBytes", fn := fun _ => fun
  | [d] => { results := [.lit (.bool false)], args := [d] }
  | _ => none }
def FnExactVarBytesWrongFalsely : Prop := fnExactVarBytesRow.holds Try.pinned (OpenSpec.ofChange fnExactVarBytesWrong)

/-- 'laws.FnExactGoodItem': WHATEVER THE INPUT: true; the input reads as it did. -/
def fnExactGoodItemSpec : ChangeSpec := { name := "fnExactGoodItem", fn := fun _ => fun
  | [d] => { results := [.lit (.bool true)], args := [d] }
  | _ => none }
def fnExactGoodItemRow : OpenClaim := { program := "ythlcfahcpmmjkaa", sum := "6abbd23278d86d12829261c6e801f6d933ec9ad77f0ad591f3bd3f8e5f3af457", func := "loop.example/g00224/laws.FnExactGoodItem", spec := "fnExactGoodItem", apart := false }
def FnExactGoodItemSaid : Prop := fnExactGoodItemRow.holds Try.pinned (OpenSpec.ofChange fnExactGoodItemSpec)

/-- ITS FALSE NEIGHBOUR: 'it returns false'. Refute it at one input. -/
def fnExactGoodItemWrong : ChangeSpec := { name := "fnExactGoodItem", fn := fun _ => fun
  | [d] => { results := [.lit (.bool false)], args := [d] }
  | _ => none }
def FnExactGoodItemWrongFalsely : Prop := fnExactGoodItemRow.holds Try.pinned (OpenSpec.ofChange fnExactGoodItemWrong)

/- THE SECOND FORM. 'bulk': how many values and letters a reading holds, each counted each time it is reached (what is shared counts as often as it is met; a slice's spare places count too). A statement '..UptoSaid' is the law's where the arguments, and the package variables that the reading takes, are together of bulk at most 1048576: NARROWER than '..Said'. Prove '..Said' where nothing that the law and all that it calls make is longer than what came in: it says more and counts as full. Else prove '..UptoSaid'. A law counts once. -/
mutual
def uptoBulk {H : Type} : DataW H → Nat
  | .lit (.string bytes) => bytes.length + 1
  | .lit _ => 1
  | .nil => 1
  | .ptr d => uptoBulk d + 1
  | .slice elems spare => uptoBulkAll elems + uptoBulkAll spare + 1
  | .agg parts => uptoBulkAll parts + 1
  | .iface _ d => uptoBulk d + 1
  | .map entries => uptoBulkEntries entries + 1
  | .held _ => 1
def uptoBulkAll {H : Type} : List (DataW H) → Nat
  | [] => 0
  | d :: r => uptoBulk d + uptoBulkAll r
def uptoBulkEntries {H : Type} : List (Lit × DataW H) → Nat
  | [] => 0
  | x :: r => uptoBulkEntry x + uptoBulkEntries r
def uptoBulkEntry {H : Type} : Lit × DataW H → Nat
  | (.string bytes, d) => bytes.length + uptoBulk d + 1
  | (_, d) => uptoBulk d + 1
 end
def uptoSmall : (H : Type) → List (DataW H) → Bool := fun _ ds => decide (uptoBulkAll ds ≤ 1048576)
def OpenSpec.upto (s : _root_.Go.ChangeSpec) : _root_.Go.OpenSpec := { _root_.Go.OpenSpec.ofChange s with cond := some uptoSmall }

/-- 'laws.FnExactConstants', WHERE WHAT IT READS IS OF BULK AT MOST 1048576: true; the input reads as it did. -/
def fnExactConstantsUptoRow : OpenClaim := { program := "ythlcfahcpmmjkaa", sum := "6abbd23278d86d12829261c6e801f6d933ec9ad77f0ad591f3bd3f8e5f3af457", func := "loop.example/g00224/laws.FnExactConstants", spec := "fnExactConstants", apart := false, narrowed := true }
def FnExactConstantsUptoSaid : Prop := fnExactConstantsUptoRow.holds Try.pinned (OpenSpec.upto fnExactConstantsSpec)

/-- 'laws.FnExactCommonOf', WHERE WHAT IT READS IS OF BULK AT MOST 1048576: true; the input reads as it did. -/
def fnExactCommonOfUptoRow : OpenClaim := { program := "ythlcfahcpmmjkaa", sum := "6abbd23278d86d12829261c6e801f6d933ec9ad77f0ad591f3bd3f8e5f3af457", func := "loop.example/g00224/laws.FnExactCommonOf", spec := "fnExactCommonOf", apart := false, narrowed := true }
def FnExactCommonOfUptoSaid : Prop := fnExactCommonOfUptoRow.holds Try.pinned (OpenSpec.upto fnExactCommonOfSpec)

/-- 'laws.FnExactGoodFilter', WHERE WHAT IT READS IS OF BULK AT MOST 1048576: true; the input reads as it did. -/
def fnExactGoodFilterUptoRow : OpenClaim := { program := "ythlcfahcpmmjkaa", sum := "6abbd23278d86d12829261c6e801f6d933ec9ad77f0ad591f3bd3f8e5f3af457", func := "loop.example/g00224/laws.FnExactGoodFilter", spec := "fnExactGoodFilter", apart := false, narrowed := true }
def FnExactGoodFilterUptoSaid : Prop := fnExactGoodFilterUptoRow.holds Try.pinned (OpenSpec.upto fnExactGoodFilterSpec)

/-- 'laws.FnExactTakeVar', WHERE WHAT IT READS IS OF BULK AT MOST 1048576: true; the input reads as it did. -/
def fnExactTakeVarUptoRow : OpenClaim := { program := "ythlcfahcpmmjkaa", sum := "6abbd23278d86d12829261c6e801f6d933ec9ad77f0ad591f3bd3f8e5f3af457", func := "loop.example/g00224/laws.FnExactTakeVar", spec := "fnExactTakeVar", apart := false, narrowed := true }
def FnExactTakeVarUptoSaid : Prop := fnExactTakeVarUptoRow.holds Try.pinned (OpenSpec.upto fnExactTakeVarSpec)

/-- 'laws.FnExactVarBytes', WHERE WHAT IT READS IS OF BULK AT MOST 1048576: true; the input reads as it did. -/
def fnExactVarBytesUptoRow : OpenClaim := { program := "ythlcfahcpmmjkaa", sum := "6abbd23278d86d12829261c6e801f6d933ec9ad77f0ad591f3bd3f8e5f3af457", func := "loop.example/g00224/laws.FnExactVarBytes", spec := "fnExactVarBytes", apart := false, narrowed := true }
def FnExactVarBytesUptoSaid : Prop := fnExactVarBytesUptoRow.holds Try.pinned (OpenSpec.upto fnExactVarBytesSpec)

/-- 'laws.FnExactGoodItem', WHERE WHAT IT READS IS OF BULK AT MOST 1048576: true; the input reads as it did. -/
def fnExactGoodItemUptoRow : OpenClaim := { program := "ythlcfahcpmmjkaa", sum := "6abbd23278d86d12829261c6e801f6d933ec9ad77f0ad591f3bd3f8e5f3af457", func := "loop.example/g00224/laws.FnExactGoodItem", spec := "fnExactGoodItem", apart := false, narrowed := true }
def FnExactGoodItemUptoSaid : Prop := fnExactGoodItemUptoRow.holds Try.pinned (OpenSpec.upto fnExactGoodItemSpec)

end Rows
end Go.Proofs.Ythlcfahcpmmjkaa
