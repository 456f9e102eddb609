/-
  No cell of these rows narrows 'for every input' (looked for: loops, veiled, ifaces, maps, wideKeys, modest, calm, conditions, laid).
  DERIVED. THE GIVEN ROWS OF THIS SEAT. 7 by the template 'for every input the law returns true; each argument reads behind the call as it read before'; 0 by the template 'total and deterministic' (their statements: YtjacppphgccphaaTotals.lean).
  GIVEN WITH THE SEED: the statements are not yours to turn. If you find one false, say at which input.
  Laid BY PROGRAM, IN A SANDBOX (cutbox-rows.mjs): the forced cells as the released guide's own fill.sh prints them over the translation 7b0803a9305d20cd… (all of the seat's roots in one cut). By AI agents, Wed Nov 11 2026. No macro, syntax, notation, axiom, sorry.
-/
import Derived.Test.YtjacppphgccphaaChecked
import GoSem.Claim
import GoSem.ClaimJoined
import GoSem.ClaimMapViews
import Derived.JoinedTies
import Derived.KernelRfl
namespace Go.Proofs.Ytjacppphgccphaa
/- THE CELL 'sum', in the pinned program and in every row, IS THE sha256 OF THE DUMP (.gsa) THAT YtjacppphgccphaaProg.lean LOADS. Nothing in Lean hashes anything: it is a label: what it is worth is what the hold of that sum in a sandbox is worth. -/
noncomputable def Try.pinned : Pinned := { name := "ytjacppphgccphaa", sum := "7b0803a9305d20cd550d72d9da96576f24ce67c36694c4b7a4586afbc4bacb10", checked := Try.checked }
namespace Rows
def none {H : Type} : Left H := { results := [], args := [] }

/-- 'laws.FnExactCompareItem': WHATEVER THE INPUT: true; the input reads as it did. -/
def fnExactCompareItemSpec : ChangeSpec := { name := "fnExactCompareItem", fn := fun _ => fun
  | [d1, d2] => { results := [.lit (.bool true)], args := [d1, d2] }
  | _ => none }
def fnExactCompareItemRow : OpenClaim := { program := "ytjacppphgccphaa", sum := "7b0803a9305d20cd550d72d9da96576f24ce67c36694c4b7a4586afbc4bacb10", func := "loop.example/g00224/laws.FnExactCompareItem", spec := "fnExactCompareItem", apart := false }
def FnExactCompareItemSaid : Prop := fnExactCompareItemRow.holds Try.pinned (OpenSpec.ofChange fnExactCompareItemSpec)

/-- ITS FALSE NEIGHBOUR: 'it returns false'. Refute it at one input. -/
def fnExactCompareItemWrong : ChangeSpec := { name := "fnExactCompareItem", fn := fun _ => fun
  | [d1, d2] => { results := [.lit (.bool false)], args := [d1, d2] }
  | _ => none }
def FnExactCompareItemWrongFalsely : Prop := fnExactCompareItemRow.holds Try.pinned (OpenSpec.ofChange fnExactCompareItemWrong)

/-- 'laws.FnExactGoodRun': WHATEVER THE INPUT: true; the input reads as it did. -/
def fnExactGoodRunSpec : ChangeSpec := { name := "fnExactGoodRun", fn := fun _ => fun
  | [d] => { results := [.lit (.bool true)], args := [d] }
  | _ => none }
def fnExactGoodRunRow : OpenClaim := { program := "ytjacppphgccphaa", sum := "7b0803a9305d20cd550d72d9da96576f24ce67c36694c4b7a4586afbc4bacb10", func := "loop.example/g00224/laws.FnExactGoodRun", spec := "fnExactGoodRun", apart := false }
def FnExactGoodRunSaid : Prop := fnExactGoodRunRow.holds Try.pinned (OpenSpec.ofChange fnExactGoodRunSpec)

/-- ITS FALSE NEIGHBOUR: 'it returns false'. Refute it at one input. -/
def fnExactGoodRunWrong : ChangeSpec := { name := "fnExactGoodRun", fn := fun _ => fun
  | [d] => { results := [.lit (.bool false)], args := [d] }
  | _ => none }
def FnExactGoodRunWrongFalsely : Prop := fnExactGoodRunRow.holds Try.pinned (OpenSpec.ofChange fnExactGoodRunWrong)

/-- 'laws.FnExactSeekRun': WHATEVER THE INPUT: true; the input reads as it did. -/
def fnExactSeekRunSpec : ChangeSpec := { name := "fnExactSeekRun", fn := fun _ => fun
  | [d1, d2, d3] => { results := [.lit (.bool true)], args := [d1, d2, d3] }
  | _ => none }
def fnExactSeekRunRow : OpenClaim := { program := "ytjacppphgccphaa", sum := "7b0803a9305d20cd550d72d9da96576f24ce67c36694c4b7a4586afbc4bacb10", func := "loop.example/g00224/laws.FnExactSeekRun", spec := "fnExactSeekRun", unfollowed := true, recurses := true, apart := false }
def FnExactSeekRunSaid : Prop := fnExactSeekRunRow.holds Try.pinned (OpenSpec.ofChange fnExactSeekRunSpec)

/-- ITS FALSE NEIGHBOUR: 'it returns false'. Refute it at one input. -/
def fnExactSeekRunWrong : ChangeSpec := { name := "fnExactSeekRun", fn := fun _ => fun
  | [d1, d2, d3] => { results := [.lit (.bool false)], args := [d1, d2, d3] }
  | _ => none }
def FnExactSeekRunWrongFalsely : Prop := fnExactSeekRunRow.holds Try.pinned (OpenSpec.ofChange fnExactSeekRunWrong)

/-- 'laws.FnExactNewestOf': WHATEVER THE INPUT: true; the input reads as it did. -/
def fnExactNewestOfSpec : ChangeSpec := { name := "fnExactNewestOf", fn := fun _ => fun
  | [d] => { results := [.lit (.bool true)], args := [d] }
  | _ => none }
def fnExactNewestOfRow : OpenClaim := { program := "ytjacppphgccphaa", sum := "7b0803a9305d20cd550d72d9da96576f24ce67c36694c4b7a4586afbc4bacb10", func := "loop.example/g00224/laws.FnExactNewestOf", spec := "fnExactNewestOf", unfollowed := true, recurses := true, apart := false }
def FnExactNewestOfSaid : Prop := fnExactNewestOfRow.holds Try.pinned (OpenSpec.ofChange fnExactNewestOfSpec)

/-- ITS FALSE NEIGHBOUR: 'it returns false'. Refute it at one input. -/
def fnExactNewestOfWrong : ChangeSpec := { name := "fnExactNewestOf", fn := fun _ => fun
  | [d] => { results := [.lit (.bool false)], args := [d] }
  | _ => none }
def FnExactNewestOfWrongFalsely : Prop := fnExactNewestOfRow.holds Try.pinned (OpenSpec.ofChange fnExactNewestOfWrong)

/-- 'laws.FnSought': WHATEVER THE INPUT: true; the input reads as it did. -/
def fnSoughtSpec : ChangeSpec := { name := "fnSought", fn := fun _ => fun
  | [d1, d2] => { results := [.lit (.bool true)], args := [d1, d2] }
  | _ => none }
def fnSoughtRow : OpenClaim := { program := "ytjacppphgccphaa", sum := "7b0803a9305d20cd550d72d9da96576f24ce67c36694c4b7a4586afbc4bacb10", func := "loop.example/g00224/laws.FnSought", spec := "fnSought", unfollowed := true, recurses := true, apart := false }
def FnSoughtSaid : Prop := fnSoughtRow.holds Try.pinned (OpenSpec.ofChange fnSoughtSpec)

/-- ITS FALSE NEIGHBOUR: 'it returns false'. Refute it at one input. -/
def fnSoughtWrong : ChangeSpec := { name := "fnSought", fn := fun _ => fun
  | [d1, d2] => { results := [.lit (.bool false)], args := [d1, d2] }
  | _ => none }
def FnSoughtWrongFalsely : Prop := fnSoughtRow.holds Try.pinned (OpenSpec.ofChange fnSoughtWrong)

/-- 'laws.FnExactBlockBytes': WHATEVER THE INPUT: true; the input reads as it did. -/
def fnExactBlockBytesSpec : ChangeSpec := { name := "fnExactBlockBytes", fn := fun _ => fun
  | [d] => { results := [.lit (.bool true)], args := [d] }
  | _ => none }
def fnExactBlockBytesRow : OpenClaim := { program := "ytjacppphgccphaa", sum := "7b0803a9305d20cd550d72d9da96576f24ce67c36694c4b7a4586afbc4bacb10", func := "loop.example/g00224/laws.FnExactBlockBytes", spec := "fnExactBlockBytes", apart := false }
def FnExactBlockBytesSaid : Prop := fnExactBlockBytesRow.holds Try.pinned (OpenSpec.ofChange fnExactBlockBytesSpec)

/-- ITS FALSE NEIGHBOUR: 'it returns false'. Refute it at one input. -/
def fnExactBlockBytesWrong : ChangeSpec := { name := "fnExactBlockBytes", fn := fun _ => fun
  | [d] => { results := [.lit (.bool false)], args := [d] }
  | _ => none }
def FnExactBlockBytesWrongFalsely : Prop := fnExactBlockBytesRow.holds Try.pinned (OpenSpec.ofChange fnExactBlockBytesWrong)

/-- 'laws.FnExactTableBytes': WHATEVER THE INPUT: true; the input reads as it did. -/
def fnExactTableBytesSpec : ChangeSpec := { name := "fnExactTableBytes", fn := fun _ => fun
  | [d] => { results := [.lit (.bool true)], args := [d] }
  | _ => none }
def fnExactTableBytesRow : OpenClaim := { program := "ytjacppphgccphaa", sum := "7b0803a9305d20cd550d72d9da96576f24ce67c36694c4b7a4586afbc4bacb10", func := "loop.example/g00224/laws.FnExactTableBytes", spec := "fnExactTableBytes", inPlace := ["internal/abi.NoEscape", "internal/bytealg.MakeNoZero"], apart := false }
def FnExactTableBytesSaid : Prop := fnExactTableBytesRow.holds Try.pinned (OpenSpec.ofChange fnExactTableBytesSpec)

/-- ITS FALSE NEIGHBOUR: 'it returns false'. Refute it at one input. -/
def fnExactTableBytesWrong : ChangeSpec := { name := "fnExactTableBytes", fn := fun _ => fun
  | [d] => { results := [.lit (.bool false)], args := [d] }
  | _ => none }
def FnExactTableBytesWrongFalsely : Prop := fnExactTableBytesRow.holds Try.pinned (OpenSpec.ofChange fnExactTableBytesWrong)

/- THE SECOND FORM. 'bulk': how many values and letters a reading holds, each counted each time it is reached (what is shared counts as often as it is met; a slice's spare places count too). A statement '..UptoSaid' is the law's where the arguments, and the package variables that the reading takes, are together of bulk at most 1048576: NARROWER than '..Said'. Prove '..Said' where nothing that the law and all that it calls make is longer than what came in: it says more and counts as full. Else prove '..UptoSaid'. A law counts once. -/
mutual
def uptoBulk {H : Type} : DataW H → Nat
  | .lit (.string bytes) => bytes.length + 1
  | .lit _ => 1
  | .nil => 1
  | .ptr d => uptoBulk d + 1
  | .slice elems spare => uptoBulkAll elems + uptoBulkAll spare + 1
  | .agg parts => uptoBulkAll parts + 1
  | .iface _ d => uptoBulk d + 1
  | .map entries => uptoBulkEntries entries + 1
  | .held _ => 1
def uptoBulkAll {H : Type} : List (DataW H) → Nat
  | [] => 0
  | d :: r => uptoBulk d + uptoBulkAll r
def uptoBulkEntries {H : Type} : List (Lit × DataW H) → Nat
  | [] => 0
  | x :: r => uptoBulkEntry x + uptoBulkEntries r
def uptoBulkEntry {H : Type} : Lit × DataW H → Nat
  | (.string bytes, d) => bytes.length + uptoBulk d + 1
  | (_, d) => uptoBulk d + 1
 end
def uptoSmall : (H : Type) → List (DataW H) → Bool := fun _ ds => decide (uptoBulkAll ds ≤ 1048576)
def OpenSpec.upto (s : _root_.Go.ChangeSpec) : _root_.Go.OpenSpec := { _root_.Go.OpenSpec.ofChange s with cond := some uptoSmall }

/-- 'laws.FnExactCompareItem', WHERE WHAT IT READS IS OF BULK AT MOST 1048576: true; the input reads as it did. -/
def fnExactCompareItemUptoRow : OpenClaim := { program := "ytjacppphgccphaa", sum := "7b0803a9305d20cd550d72d9da96576f24ce67c36694c4b7a4586afbc4bacb10", func := "loop.example/g00224/laws.FnExactCompareItem", spec := "fnExactCompareItem", apart := false, narrowed := true }
def FnExactCompareItemUptoSaid : Prop := fnExactCompareItemUptoRow.holds Try.pinned (OpenSpec.upto fnExactCompareItemSpec)

/-- 'laws.FnExactGoodRun', WHERE WHAT IT READS IS OF BULK AT MOST 1048576: true; the input reads as it did. -/
def fnExactGoodRunUptoRow : OpenClaim := { program := "ytjacppphgccphaa", sum := "7b0803a9305d20cd550d72d9da96576f24ce67c36694c4b7a4586afbc4bacb10", func := "loop.example/g00224/laws.FnExactGoodRun", spec := "fnExactGoodRun", apart := false, narrowed := true }
def FnExactGoodRunUptoSaid : Prop := fnExactGoodRunUptoRow.holds Try.pinned (OpenSpec.upto fnExactGoodRunSpec)

/-- 'laws.FnExactSeekRun', WHERE WHAT IT READS IS OF BULK AT MOST 1048576: true; the input reads as it did. -/
def fnExactSeekRunUptoRow : OpenClaim := { program := "ytjacppphgccphaa", sum := "7b0803a9305d20cd550d72d9da96576f24ce67c36694c4b7a4586afbc4bacb10", func := "loop.example/g00224/laws.FnExactSeekRun", spec := "fnExactSeekRun", unfollowed := true, recurses := true, apart := false, narrowed := true }
def FnExactSeekRunUptoSaid : Prop := fnExactSeekRunUptoRow.holds Try.pinned (OpenSpec.upto fnExactSeekRunSpec)

/-- 'laws.FnExactNewestOf', WHERE WHAT IT READS IS OF BULK AT MOST 1048576: true; the input reads as it did. -/
def fnExactNewestOfUptoRow : OpenClaim := { program := "ytjacppphgccphaa", sum := "7b0803a9305d20cd550d72d9da96576f24ce67c36694c4b7a4586afbc4bacb10", func := "loop.example/g00224/laws.FnExactNewestOf", spec := "fnExactNewestOf", unfollowed := true, recurses := true, apart := false, narrowed := true }
def FnExactNewestOfUptoSaid : Prop := fnExactNewestOfUptoRow.holds Try.pinned (OpenSpec.upto fnExactNewestOfSpec)

/-- 'laws.FnSought', WHERE WHAT IT READS IS OF BULK AT MOST 1048576: true; the input reads as it did. -/
def fnSoughtUptoRow : OpenClaim := { program := "ytjacppphgccphaa", sum := "7b0803a9305d20cd550d72d9da96576f24ce67c36694c4b7a4586afbc4bacb10", func := "loop.example/g00224/laws.FnSought", spec := "fnSought", unfollowed := true, recurses := true, apart := false, narrowed := true }
def FnSoughtUptoSaid : Prop := fnSoughtUptoRow.holds Try.pinned (OpenSpec.upto fnSoughtSpec)

/-- 'laws.FnExactBlockBytes', WHERE WHAT IT READS IS OF BULK AT MOST 1048576: true; the input reads as it did. -/
def fnExactBlockBytesUptoRow : OpenClaim := { program := "ytjacppphgccphaa", sum := "7b0803a9305d20cd550d72d9da96576f24ce67c36694c4b7a4586afbc4bacb10", func := "loop.example/g00224/laws.FnExactBlockBytes", spec := "fnExactBlockBytes", apart := false, narrowed := true }
def FnExactBlockBytesUptoSaid : Prop := fnExactBlockBytesUptoRow.holds Try.pinned (OpenSpec.upto fnExactBlockBytesSpec)

/-- 'laws.FnExactTableBytes', WHERE WHAT IT READS IS OF BULK AT MOST 1048576: true; the input reads as it did. -/
def fnExactTableBytesUptoRow : OpenClaim := { program := "ytjacppphgccphaa", sum := "7b0803a9305d20cd550d72d9da96576f24ce67c36694c4b7a4586afbc4bacb10", func := "loop.example/g00224/laws.FnExactTableBytes", spec := "fnExactTableBytes", inPlace := ["internal/abi.NoEscape", "internal/bytealg.MakeNoZero"], apart := false, narrowed := true }
def FnExactTableBytesUptoSaid : Prop := fnExactTableBytesUptoRow.holds Try.pinned (OpenSpec.upto fnExactTableBytesSpec)

end Rows
end Go.Proofs.Ytjacppphgccphaa
