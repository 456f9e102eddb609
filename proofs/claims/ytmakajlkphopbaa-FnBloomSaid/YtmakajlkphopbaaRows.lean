/-
  No cell of these rows narrows 'for every input' (looked for: loops, veiled, ifaces, maps, wideKeys, modest, calm, conditions, laid).
  DERIVED. THE GIVEN ROWS OF THIS SEAT. 9 by the template 'for every input the law returns true; each argument reads behind the call as it read before'; 0 by the template 'total and deterministic' (their statements: YtmakajlkphopbaaTotals.lean).
  GIVEN WITH THE SEED: the statements are not yours to turn. If you find one false, say at which input.
  Laid BY PROGRAM, IN A SANDBOX (cutbox-rows.mjs): the forced cells as the released guide's own fill.sh prints them over the translation 4851053477e17be8… (all of the seat's roots in one cut). By AI agents, Wed Nov 11 2026. No macro, syntax, notation, axiom, sorry.
-/
import Derived.Test.YtmakajlkphopbaaChecked
import GoSem.Claim
import GoSem.ClaimJoined
import GoSem.ClaimMapViews
import Derived.JoinedTies
import Derived.KernelRfl
namespace Go.Proofs.Ytmakajlkphopbaa
/- THE CELL 'sum', in the pinned program and in every row, IS THE sha256 OF THE DUMP (.gsa) THAT YtmakajlkphopbaaProg.lean LOADS. Nothing in Lean hashes anything: it is a label: what it is worth is what the hold of that sum in a sandbox is worth. -/
noncomputable def Try.pinned : Pinned := { name := "ytmakajlkphopbaa", sum := "4851053477e17be85e1b1a5ee8807a647e7fe9cbbfa4996544b1b3063b413635", checked := Try.checked }
namespace Rows
def none {H : Type} : Left H := { results := [], args := [] }

/-- 'laws.FnExactOnesIn': WHATEVER THE INPUT: true; the input reads as it did. -/
def fnExactOnesInSpec : ChangeSpec := { name := "fnExactOnesIn", fn := fun _ => fun
  | [d] => { results := [.lit (.bool true)], args := [d] }
  | _ => none }
def fnExactOnesInRow : OpenClaim := { program := "ytmakajlkphopbaa", sum := "4851053477e17be85e1b1a5ee8807a647e7fe9cbbfa4996544b1b3063b413635", func := "loop.example/g00224/laws.FnExactOnesIn", spec := "fnExactOnesIn", apart := false }
def FnExactOnesInSaid : Prop := fnExactOnesInRow.holds Try.pinned (OpenSpec.ofChange fnExactOnesInSpec)

/-- ITS FALSE NEIGHBOUR: 'it returns false'. Refute it at one input. -/
def fnExactOnesInWrong : ChangeSpec := { name := "fnExactOnesIn", fn := fun _ => fun
  | [d] => { results := [.lit (.bool false)], args := [d] }
  | _ => none }
def FnExactOnesInWrongFalsely : Prop := fnExactOnesInRow.holds Try.pinned (OpenSpec.ofChange fnExactOnesInWrong)

/-- 'laws.FnExactJoinFilters': WHATEVER THE INPUT: true; the input reads as it did. -/
def fnExactJoinFiltersSpec : ChangeSpec := { name := "fnExactJoinFilters", fn := fun _ => fun
  | [d1, d2] => { results := [.lit (.bool true)], args := [d1, d2] }
  | _ => none }
def fnExactJoinFiltersRow : OpenClaim := { program := "ytmakajlkphopbaa", sum := "4851053477e17be85e1b1a5ee8807a647e7fe9cbbfa4996544b1b3063b413635", func := "loop.example/g00224/laws.FnExactJoinFilters", spec := "fnExactJoinFilters", apart := false }
def FnExactJoinFiltersSaid : Prop := fnExactJoinFiltersRow.holds Try.pinned (OpenSpec.ofChange fnExactJoinFiltersSpec)

/-- ITS FALSE NEIGHBOUR: 'it returns false'. Refute it at one input. -/
def fnExactJoinFiltersWrong : ChangeSpec := { name := "fnExactJoinFilters", fn := fun _ => fun
  | [d1, d2] => { results := [.lit (.bool false)], args := [d1, d2] }
  | _ => none }
def FnExactJoinFiltersWrongFalsely : Prop := fnExactJoinFiltersRow.holds Try.pinned (OpenSpec.ofChange fnExactJoinFiltersWrong)

/-- 'laws.FnExactPlacesOf': WHATEVER THE INPUT: true; the input reads as it did. -/
def fnExactPlacesOfSpec : ChangeSpec := { name := "fnExactPlacesOf", fn := fun _ => fun
  | [d1, d2] => { results := [.lit (.bool true)], args := [d1, d2] }
  | _ => none }
def fnExactPlacesOfRow : OpenClaim := { program := "ytmakajlkphopbaa", sum := "4851053477e17be85e1b1a5ee8807a647e7fe9cbbfa4996544b1b3063b413635", func := "loop.example/g00224/laws.FnExactPlacesOf", spec := "fnExactPlacesOf", apart := false }
def FnExactPlacesOfSaid : Prop := fnExactPlacesOfRow.holds Try.pinned (OpenSpec.ofChange fnExactPlacesOfSpec)

/-- ITS FALSE NEIGHBOUR: 'it returns false'. Refute it at one input. -/
def fnExactPlacesOfWrong : ChangeSpec := { name := "fnExactPlacesOf", fn := fun _ => fun
  | [d1, d2] => { results := [.lit (.bool false)], args := [d1, d2] }
  | _ => none }
def FnExactPlacesOfWrongFalsely : Prop := fnExactPlacesOfRow.holds Try.pinned (OpenSpec.ofChange fnExactPlacesOfWrong)

/-- 'laws.FnExactMayHave': WHATEVER THE INPUT: true; the input reads as it did. -/
def fnExactMayHaveSpec : ChangeSpec := { name := "fnExactMayHave", fn := fun _ => fun
  | [d1, d2] => { results := [.lit (.bool true)], args := [d1, d2] }
  | _ => none }
def fnExactMayHaveRow : OpenClaim := { program := "ytmakajlkphopbaa", sum := "4851053477e17be85e1b1a5ee8807a647e7fe9cbbfa4996544b1b3063b413635", func := "loop.example/g00224/laws.FnExactMayHave", spec := "fnExactMayHave", unfollowed := true, recurses := true, apart := false }
def FnExactMayHaveSaid : Prop := fnExactMayHaveRow.holds Try.pinned (OpenSpec.ofChange fnExactMayHaveSpec)

/-- ITS FALSE NEIGHBOUR: 'it returns false'. Refute it at one input. -/
def fnExactMayHaveWrong : ChangeSpec := { name := "fnExactMayHave", fn := fun _ => fun
  | [d1, d2] => { results := [.lit (.bool false)], args := [d1, d2] }
  | _ => none }
def FnExactMayHaveWrongFalsely : Prop := fnExactMayHaveRow.holds Try.pinned (OpenSpec.ofChange fnExactMayHaveWrong)

/-- 'laws.FnExactAddKey': WHATEVER THE INPUT: true; the input reads as it did. -/
def fnExactAddKeySpec : ChangeSpec := { name := "fnExactAddKey", fn := fun _ => fun
  | [d1, d2] => { results := [.lit (.bool true)], args := [d1, d2] }
  | _ => none }
def fnExactAddKeyRow : OpenClaim := { program := "ytmakajlkphopbaa", sum := "4851053477e17be85e1b1a5ee8807a647e7fe9cbbfa4996544b1b3063b413635", func := "loop.example/g00224/laws.FnExactAddKey", spec := "fnExactAddKey", apart := false }
def FnExactAddKeySaid : Prop := fnExactAddKeyRow.holds Try.pinned (OpenSpec.ofChange fnExactAddKeySpec)

/-- ITS FALSE NEIGHBOUR: 'it returns false'. Refute it at one input. -/
def fnExactAddKeyWrong : ChangeSpec := { name := "fnExactAddKey", fn := fun _ => fun
  | [d1, d2] => { results := [.lit (.bool false)], args := [d1, d2] }
  | _ => none }
def FnExactAddKeyWrongFalsely : Prop := fnExactAddKeyRow.holds Try.pinned (OpenSpec.ofChange fnExactAddKeyWrong)

/-- 'laws.FnExactNewFilter': WHATEVER THE INPUT: true; the input reads as it did. -/
def fnExactNewFilterSpec : ChangeSpec := { name := "fnExactNewFilter", fn := fun _ => fun
  | [d] => { results := [.lit (.bool true)], args := [d] }
  | _ => none }
def fnExactNewFilterRow : OpenClaim := { program := "ytmakajlkphopbaa", sum := "4851053477e17be85e1b1a5ee8807a647e7fe9cbbfa4996544b1b3063b413635", func := "loop.example/g00224/laws.FnExactNewFilter", spec := "fnExactNewFilter", inPlace := ["internal/abi.NoEscape", "internal/bytealg.MakeNoZero"], apart := false }
def FnExactNewFilterSaid : Prop := fnExactNewFilterRow.holds Try.pinned (OpenSpec.ofChange fnExactNewFilterSpec)

/-- ITS FALSE NEIGHBOUR: 'it returns false'. Refute it at one input. -/
def fnExactNewFilterWrong : ChangeSpec := { name := "fnExactNewFilter", fn := fun _ => fun
  | [d] => { results := [.lit (.bool false)], args := [d] }
  | _ => none }
def FnExactNewFilterWrongFalsely : Prop := fnExactNewFilterRow.holds Try.pinned (OpenSpec.ofChange fnExactNewFilterWrong)

/-- 'laws.FnJoined': WHATEVER THE INPUT: true; the input reads as it did. -/
def fnJoinedSpec : ChangeSpec := { name := "fnJoined", fn := fun _ => fun
  | [d1, d2] => { results := [.lit (.bool true)], args := [d1, d2] }
  | _ => none }
def fnJoinedRow : OpenClaim := { program := "ytmakajlkphopbaa", sum := "4851053477e17be85e1b1a5ee8807a647e7fe9cbbfa4996544b1b3063b413635", func := "loop.example/g00224/laws.FnJoined", spec := "fnJoined", unfollowed := true, recurses := true, apart := false }
def FnJoinedSaid : Prop := fnJoinedRow.holds Try.pinned (OpenSpec.ofChange fnJoinedSpec)

/-- ITS FALSE NEIGHBOUR: 'it returns false'. Refute it at one input. -/
def fnJoinedWrong : ChangeSpec := { name := "fnJoined", fn := fun _ => fun
  | [d1, d2] => { results := [.lit (.bool false)], args := [d1, d2] }
  | _ => none }
def FnJoinedWrongFalsely : Prop := fnJoinedRow.holds Try.pinned (OpenSpec.ofChange fnJoinedWrong)

/-- 'laws.FnExactFilterOf': WHATEVER THE INPUT: true; the input reads as it did. -/
def fnExactFilterOfSpec : ChangeSpec := { name := "fnExactFilterOf", fn := fun _ => fun
  | [d1, d2] => { results := [.lit (.bool true)], args := [d1, d2] }
  | _ => none }
def fnExactFilterOfRow : OpenClaim := { program := "ytmakajlkphopbaa", sum := "4851053477e17be85e1b1a5ee8807a647e7fe9cbbfa4996544b1b3063b413635", func := "loop.example/g00224/laws.FnExactFilterOf", spec := "fnExactFilterOf", inPlace := ["internal/abi.NoEscape", "internal/bytealg.MakeNoZero"], apart := false }
def FnExactFilterOfSaid : Prop := fnExactFilterOfRow.holds Try.pinned (OpenSpec.ofChange fnExactFilterOfSpec)

/-- ITS FALSE NEIGHBOUR: 'it returns false'. Refute it at one input. -/
def fnExactFilterOfWrong : ChangeSpec := { name := "fnExactFilterOf", fn := fun _ => fun
  | [d1, d2] => { results := [.lit (.bool false)], args := [d1, d2] }
  | _ => none }
def FnExactFilterOfWrongFalsely : Prop := fnExactFilterOfRow.holds Try.pinned (OpenSpec.ofChange fnExactFilterOfWrong)

/-- 'laws.FnBloom': WHATEVER THE INPUT: true; the input reads as it did. -/
def fnBloomSpec : ChangeSpec := { name := "fnBloom", fn := fun _ => fun
  | [d1, d2] => { results := [.lit (.bool true)], args := [d1, d2] }
  | _ => none }
def fnBloomRow : OpenClaim := { program := "ytmakajlkphopbaa", sum := "4851053477e17be85e1b1a5ee8807a647e7fe9cbbfa4996544b1b3063b413635", func := "loop.example/g00224/laws.FnBloom", spec := "fnBloom", inPlace := ["internal/abi.NoEscape", "internal/bytealg.MakeNoZero"], unfollowed := true, recurses := true, apart := false }
def FnBloomSaid : Prop := fnBloomRow.holds Try.pinned (OpenSpec.ofChange fnBloomSpec)

/-- ITS FALSE NEIGHBOUR: 'it returns false'. Refute it at one input. -/
def fnBloomWrong : ChangeSpec := { name := "fnBloom", fn := fun _ => fun
  | [d1, d2] => { results := [.lit (.bool false)], args := [d1, d2] }
  | _ => none }
def FnBloomWrongFalsely : Prop := fnBloomRow.holds Try.pinned (OpenSpec.ofChange fnBloomWrong)

/- THE SECOND FORM. 'bulk': how many values and letters a reading holds, each counted each time it is reached (what is shared counts as often as it is met; a slice's spare places count too). A statement '..UptoSaid' is the law's where the arguments, and the package variables that the reading takes, are together of bulk at most 1048576: NARROWER than '..Said'. Prove '..Said' where nothing that the law and all that it calls make is longer than what came in: it says more and counts as full. Else prove '..UptoSaid'. A law counts once. -/
mutual
def uptoBulk {H : Type} : DataW H → Nat
  | .lit (.string bytes) => bytes.length + 1
  | .lit _ => 1
  | .nil => 1
  | .ptr d => uptoBulk d + 1
  | .slice elems spare => uptoBulkAll elems + uptoBulkAll spare + 1
  | .agg parts => uptoBulkAll parts + 1
  | .iface _ d => uptoBulk d + 1
  | .map entries => uptoBulkEntries entries + 1
  | .held _ => 1
def uptoBulkAll {H : Type} : List (DataW H) → Nat
  | [] => 0
  | d :: r => uptoBulk d + uptoBulkAll r
def uptoBulkEntries {H : Type} : List (Lit × DataW H) → Nat
  | [] => 0
  | x :: r => uptoBulkEntry x + uptoBulkEntries r
def uptoBulkEntry {H : Type} : Lit × DataW H → Nat
  | (.string bytes, d) => bytes.length + uptoBulk d + 1
  | (_, d) => uptoBulk d + 1
 end
def uptoSmall : (H : Type) → List (DataW H) → Bool := fun _ ds => decide (uptoBulkAll ds ≤ 1048576)
def OpenSpec.upto (s : _root_.Go.ChangeSpec) : _root_.Go.OpenSpec := { _root_.Go.OpenSpec.ofChange s with cond := some uptoSmall }

/-- 'laws.FnExactOnesIn', WHERE WHAT IT READS IS OF BULK AT MOST 1048576: true; the input reads as it did. -/
def fnExactOnesInUptoRow : OpenClaim := { program := "ytmakajlkphopbaa", sum := "4851053477e17be85e1b1a5ee8807a647e7fe9cbbfa4996544b1b3063b413635", func := "loop.example/g00224/laws.FnExactOnesIn", spec := "fnExactOnesIn", apart := false, narrowed := true }
def FnExactOnesInUptoSaid : Prop := fnExactOnesInUptoRow.holds Try.pinned (OpenSpec.upto fnExactOnesInSpec)

/-- 'laws.FnExactJoinFilters', WHERE WHAT IT READS IS OF BULK AT MOST 1048576: true; the input reads as it did. -/
def fnExactJoinFiltersUptoRow : OpenClaim := { program := "ytmakajlkphopbaa", sum := "4851053477e17be85e1b1a5ee8807a647e7fe9cbbfa4996544b1b3063b413635", func := "loop.example/g00224/laws.FnExactJoinFilters", spec := "fnExactJoinFilters", apart := false, narrowed := true }
def FnExactJoinFiltersUptoSaid : Prop := fnExactJoinFiltersUptoRow.holds Try.pinned (OpenSpec.upto fnExactJoinFiltersSpec)

/-- 'laws.FnExactPlacesOf', WHERE WHAT IT READS IS OF BULK AT MOST 1048576: true; the input reads as it did. -/
def fnExactPlacesOfUptoRow : OpenClaim := { program := "ytmakajlkphopbaa", sum := "4851053477e17be85e1b1a5ee8807a647e7fe9cbbfa4996544b1b3063b413635", func := "loop.example/g00224/laws.FnExactPlacesOf", spec := "fnExactPlacesOf", apart := false, narrowed := true }
def FnExactPlacesOfUptoSaid : Prop := fnExactPlacesOfUptoRow.holds Try.pinned (OpenSpec.upto fnExactPlacesOfSpec)

/-- 'laws.FnExactMayHave', WHERE WHAT IT READS IS OF BULK AT MOST 1048576: true; the input reads as it did. -/
def fnExactMayHaveUptoRow : OpenClaim := { program := "ytmakajlkphopbaa", sum := "4851053477e17be85e1b1a5ee8807a647e7fe9cbbfa4996544b1b3063b413635", func := "loop.example/g00224/laws.FnExactMayHave", spec := "fnExactMayHave", unfollowed := true, recurses := true, apart := false, narrowed := true }
def FnExactMayHaveUptoSaid : Prop := fnExactMayHaveUptoRow.holds Try.pinned (OpenSpec.upto fnExactMayHaveSpec)

/-- 'laws.FnExactAddKey', WHERE WHAT IT READS IS OF BULK AT MOST 1048576: true; the input reads as it did. -/
def fnExactAddKeyUptoRow : OpenClaim := { program := "ytmakajlkphopbaa", sum := "4851053477e17be85e1b1a5ee8807a647e7fe9cbbfa4996544b1b3063b413635", func := "loop.example/g00224/laws.FnExactAddKey", spec := "fnExactAddKey", apart := false, narrowed := true }
def FnExactAddKeyUptoSaid : Prop := fnExactAddKeyUptoRow.holds Try.pinned (OpenSpec.upto fnExactAddKeySpec)

/-- 'laws.FnExactNewFilter', WHERE WHAT IT READS IS OF BULK AT MOST 1048576: true; the input reads as it did. -/
def fnExactNewFilterUptoRow : OpenClaim := { program := "ytmakajlkphopbaa", sum := "4851053477e17be85e1b1a5ee8807a647e7fe9cbbfa4996544b1b3063b413635", func := "loop.example/g00224/laws.FnExactNewFilter", spec := "fnExactNewFilter", inPlace := ["internal/abi.NoEscape", "internal/bytealg.MakeNoZero"], apart := false, narrowed := true }
def FnExactNewFilterUptoSaid : Prop := fnExactNewFilterUptoRow.holds Try.pinned (OpenSpec.upto fnExactNewFilterSpec)

/-- 'laws.FnJoined', WHERE WHAT IT READS IS OF BULK AT MOST 1048576: true; the input reads as it did. -/
def fnJoinedUptoRow : OpenClaim := { program := "ytmakajlkphopbaa", sum := "4851053477e17be85e1b1a5ee8807a647e7fe9cbbfa4996544b1b3063b413635", func := "loop.example/g00224/laws.FnJoined", spec := "fnJoined", unfollowed := true, recurses := true, apart := false, narrowed := true }
def FnJoinedUptoSaid : Prop := fnJoinedUptoRow.holds Try.pinned (OpenSpec.upto fnJoinedSpec)

/-- 'laws.FnExactFilterOf', WHERE WHAT IT READS IS OF BULK AT MOST 1048576: true; the input reads as it did. -/
def fnExactFilterOfUptoRow : OpenClaim := { program := "ytmakajlkphopbaa", sum := "4851053477e17be85e1b1a5ee8807a647e7fe9cbbfa4996544b1b3063b413635", func := "loop.example/g00224/laws.FnExactFilterOf", spec := "fnExactFilterOf", inPlace := ["internal/abi.NoEscape", "internal/bytealg.MakeNoZero"], apart := false, narrowed := true }
def FnExactFilterOfUptoSaid : Prop := fnExactFilterOfUptoRow.holds Try.pinned (OpenSpec.upto fnExactFilterOfSpec)

/-- 'laws.FnBloom', WHERE WHAT IT READS IS OF BULK AT MOST 1048576: true; the input reads as it did. -/
def fnBloomUptoRow : OpenClaim := { program := "ytmakajlkphopbaa", sum := "4851053477e17be85e1b1a5ee8807a647e7fe9cbbfa4996544b1b3063b413635", func := "loop.example/g00224/laws.FnBloom", spec := "fnBloom", inPlace := ["internal/abi.NoEscape", "internal/bytealg.MakeNoZero"], unfollowed := true, recurses := true, apart := false, narrowed := true }
def FnBloomUptoSaid : Prop := fnBloomUptoRow.holds Try.pinned (OpenSpec.upto fnBloomSpec)

end Rows
end Go.Proofs.Ytmakajlkphopbaa
