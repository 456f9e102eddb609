/-
  No cell of these rows narrows 'for every input' (looked for: loops, veiled, ifaces, maps, wideKeys, modest, calm, conditions, laid).
  DERIVED. THE GIVEN ROWS OF THIS SEAT. 4 by the template 'for every input the law returns true; each argument reads behind the call as it read before'; 0 by the template 'total and deterministic' (their statements: YtadjlanndlbcdaaTotals.lean).
  GIVEN WITH THE SEED: the statements are not yours to turn. If you find one false, say at which input.
  Laid BY PROGRAM, IN A SANDBOX (cutbox-rows.mjs): the forced cells as the released guide's own fill.sh prints them over the translation 0787e02c25822c95… (all of the seat's roots in one cut). By AI agents, Wed Nov 11 2026. No macro, syntax, notation, axiom, sorry.
-/
import Derived.Test.YtadjlanndlbcdaaChecked
import GoSem.Claim
import GoSem.ClaimJoined
import GoSem.ClaimMapViews
import Derived.JoinedTies
import Derived.KernelRfl
namespace Go.Proofs.Ytadjlanndlbcdaa
/- THE CELL 'sum', in the pinned program and in every row, IS THE sha256 OF THE DUMP (.gsa) THAT YtadjlanndlbcdaaProg.lean LOADS. Nothing in Lean hashes anything: it is a label: what it is worth is what the hold of that sum in a sandbox is worth. -/
noncomputable def Try.pinned : Pinned := { name := "ytadjlanndlbcdaa", sum := "0787e02c25822c95c13d7afd1e6201bfbe586548b5dc28ef4785491f2ec4f944", checked := Try.checked }
namespace Rows
def none {H : Type} : Left H := { results := [], args := [] }

/-- 'laws.FnExactGoodWal': WHATEVER THE INPUT: true; the input reads as it did. -/
def fnExactGoodWalSpec : ChangeSpec := { name := "fnExactGoodWal", fn := fun _ => fun
  | [d] => { results := [.lit (.bool true)], args := [d] }
  | _ => none }
def fnExactGoodWalRow : OpenClaim := { program := "ytadjlanndlbcdaa", sum := "0787e02c25822c95c13d7afd1e6201bfbe586548b5dc28ef4785491f2ec4f944", func := "loop.example/g00224/laws.FnExactGoodWal", spec := "fnExactGoodWal", apart := false }
def FnExactGoodWalSaid : Prop := fnExactGoodWalRow.holds Try.pinned (OpenSpec.ofChange fnExactGoodWalSpec)

/-- ITS FALSE NEIGHBOUR: 'it returns false'. Refute it at one input. -/
def fnExactGoodWalWrong : ChangeSpec := { name := "fnExactGoodWal", fn := fun _ => fun
  | [d] => { results := [.lit (.bool false)], args := [d] }
  | _ => none }
def FnExactGoodWalWrongFalsely : Prop := fnExactGoodWalRow.holds Try.pinned (OpenSpec.ofChange fnExactGoodWalWrong)

/-- 'laws.FnExactEntryAt': WHATEVER THE INPUT: true; the input reads as it did. -/
def fnExactEntryAtSpec : ChangeSpec := { name := "fnExactEntryAt", fn := fun _ => fun
  | [d1, d2] => { results := [.lit (.bool true)], args := [d1, d2] }
  | _ => none }
def fnExactEntryAtRow : OpenClaim := { program := "ytadjlanndlbcdaa", sum := "0787e02c25822c95c13d7afd1e6201bfbe586548b5dc28ef4785491f2ec4f944", func := "loop.example/g00224/laws.FnExactEntryAt", spec := "fnExactEntryAt", apart := false }
def FnExactEntryAtSaid : Prop := fnExactEntryAtRow.holds Try.pinned (OpenSpec.ofChange fnExactEntryAtSpec)

/-- ITS FALSE NEIGHBOUR: 'it returns false'. Refute it at one input. -/
def fnExactEntryAtWrong : ChangeSpec := { name := "fnExactEntryAt", fn := fun _ => fun
  | [d1, d2] => { results := [.lit (.bool false)], args := [d1, d2] }
  | _ => none }
def FnExactEntryAtWrongFalsely : Prop := fnExactEntryAtRow.holds Try.pinned (OpenSpec.ofChange fnExactEntryAtWrong)

/-- 'laws.FnExactLastOf': WHATEVER THE INPUT: true; the input reads as it did. -/
def fnExactLastOfSpec : ChangeSpec := { name := "fnExactLastOf", fn := fun _ => fun
  | [d] => { results := [.lit (.bool true)], args := [d] }
  | _ => none }
def fnExactLastOfRow : OpenClaim := { program := "ytadjlanndlbcdaa", sum := "0787e02c25822c95c13d7afd1e6201bfbe586548b5dc28ef4785491f2ec4f944", func := "loop.example/g00224/laws.FnExactLastOf", spec := "fnExactLastOf", apart := false }
def FnExactLastOfSaid : Prop := fnExactLastOfRow.holds Try.pinned (OpenSpec.ofChange fnExactLastOfSpec)

/-- ITS FALSE NEIGHBOUR: 'it returns false'. Refute it at one input. -/
def fnExactLastOfWrong : ChangeSpec := { name := "fnExactLastOf", fn := fun _ => fun
  | [d] => { results := [.lit (.bool false)], args := [d] }
  | _ => none }
def FnExactLastOfWrongFalsely : Prop := fnExactLastOfRow.holds Try.pinned (OpenSpec.ofChange fnExactLastOfWrong)

/-- 'laws.FnExactSegmentsOf': WHATEVER THE INPUT: true; the input reads as it did. -/
def fnExactSegmentsOfSpec : ChangeSpec := { name := "fnExactSegmentsOf", fn := fun _ => fun
  | [d] => { results := [.lit (.bool true)], args := [d] }
  | _ => none }
def fnExactSegmentsOfRow : OpenClaim := { program := "ytadjlanndlbcdaa", sum := "0787e02c25822c95c13d7afd1e6201bfbe586548b5dc28ef4785491f2ec4f944", func := "loop.example/g00224/laws.FnExactSegmentsOf", spec := "fnExactSegmentsOf", apart := false }
def FnExactSegmentsOfSaid : Prop := fnExactSegmentsOfRow.holds Try.pinned (OpenSpec.ofChange fnExactSegmentsOfSpec)

/-- ITS FALSE NEIGHBOUR: 'it returns false'. Refute it at one input. -/
def fnExactSegmentsOfWrong : ChangeSpec := { name := "fnExactSegmentsOf", fn := fun _ => fun
  | [d] => { results := [.lit (.bool false)], args := [d] }
  | _ => none }
def FnExactSegmentsOfWrongFalsely : Prop := fnExactSegmentsOfRow.holds Try.pinned (OpenSpec.ofChange fnExactSegmentsOfWrong)

/- THE SECOND FORM. 'bulk': how many values and letters a reading holds, each counted each time it is reached (what is shared counts as often as it is met; a slice's spare places count too). A statement '..UptoSaid' is the law's where the arguments, and the package variables that the reading takes, are together of bulk at most 1048576: NARROWER than '..Said'. Prove '..Said' where nothing that the law and all that it calls make is longer than what came in: it says more and counts as full. Else prove '..UptoSaid'. A law counts once. -/
mutual
def uptoBulk {H : Type} : DataW H → Nat
  | .lit (.string bytes) => bytes.length + 1
  | .lit _ => 1
  | .nil => 1
  | .ptr d => uptoBulk d + 1
  | .slice elems spare => uptoBulkAll elems + uptoBulkAll spare + 1
  | .agg parts => uptoBulkAll parts + 1
  | .iface _ d => uptoBulk d + 1
  | .map entries => uptoBulkEntries entries + 1
  | .held _ => 1
def uptoBulkAll {H : Type} : List (DataW H) → Nat
  | [] => 0
  | d :: r => uptoBulk d + uptoBulkAll r
def uptoBulkEntries {H : Type} : List (Lit × DataW H) → Nat
  | [] => 0
  | x :: r => uptoBulkEntry x + uptoBulkEntries r
def uptoBulkEntry {H : Type} : Lit × DataW H → Nat
  | (.string bytes, d) => bytes.length + uptoBulk d + 1
  | (_, d) => uptoBulk d + 1
 end
def uptoSmall : (H : Type) → List (DataW H) → Bool := fun _ ds => decide (uptoBulkAll ds ≤ 1048576)
def OpenSpec.upto (s : _root_.Go.ChangeSpec) : _root_.Go.OpenSpec := { _root_.Go.OpenSpec.ofChange s with cond := some uptoSmall }

/-- 'laws.FnExactGoodWal', WHERE WHAT IT READS IS OF BULK AT MOST 1048576: true; the input reads as it did. -/
def fnExactGoodWalUptoRow : OpenClaim := { program := "ytadjlanndlbcdaa", sum := "0787e02c25822c95c13d7afd1e6201bfbe586548b5dc28ef4785491f2ec4f944", func := "loop.example/g00224/laws.FnExactGoodWal", spec := "fnExactGoodWal", apart := false, narrowed := true }
def FnExactGoodWalUptoSaid : Prop := fnExactGoodWalUptoRow.holds Try.pinned (OpenSpec.upto fnExactGoodWalSpec)

/-- 'laws.FnExactEntryAt', WHERE WHAT IT READS IS OF BULK AT MOST 1048576: true; the input reads as it did. -/
def fnExactEntryAtUptoRow : OpenClaim := { program := "ytadjlanndlbcdaa", sum := "0787e02c25822c95c13d7afd1e6201bfbe586548b5dc28ef4785491f2ec4f944", func := "loop.example/g00224/laws.FnExactEntryAt", spec := "fnExactEntryAt", apart := false, narrowed := true }
def FnExactEntryAtUptoSaid : Prop := fnExactEntryAtUptoRow.holds Try.pinned (OpenSpec.upto fnExactEntryAtSpec)

/-- 'laws.FnExactLastOf', WHERE WHAT IT READS IS OF BULK AT MOST 1048576: true; the input reads as it did. -/
def fnExactLastOfUptoRow : OpenClaim := { program := "ytadjlanndlbcdaa", sum := "0787e02c25822c95c13d7afd1e6201bfbe586548b5dc28ef4785491f2ec4f944", func := "loop.example/g00224/laws.FnExactLastOf", spec := "fnExactLastOf", apart := false, narrowed := true }
def FnExactLastOfUptoSaid : Prop := fnExactLastOfUptoRow.holds Try.pinned (OpenSpec.upto fnExactLastOfSpec)

/-- 'laws.FnExactSegmentsOf', WHERE WHAT IT READS IS OF BULK AT MOST 1048576: true; the input reads as it did. -/
def fnExactSegmentsOfUptoRow : OpenClaim := { program := "ytadjlanndlbcdaa", sum := "0787e02c25822c95c13d7afd1e6201bfbe586548b5dc28ef4785491f2ec4f944", func := "loop.example/g00224/laws.FnExactSegmentsOf", spec := "fnExactSegmentsOf", apart := false, narrowed := true }
def FnExactSegmentsOfUptoSaid : Prop := fnExactSegmentsOfUptoRow.holds Try.pinned (OpenSpec.upto fnExactSegmentsOfSpec)

end Rows
end Go.Proofs.Ytadjlanndlbcdaa
