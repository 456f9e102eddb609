/-
  DERIVED. GIVEN WITH THE SEED: THE CARDS: each row of YtffjlpphcjfdgaaDoorRows.lean that lists a variable, with what it lists TIED to the program's text (the seventh form; the later family's looks); each row that meets fmt, with fmt's text TOLD by the authors' own Lean function (tested against real Go, not proved from fmt's source: count such statements apart). THE CARD IS WHAT COUNTS. Prove the row's statement (the work); the ties are given (YtffjlpphcjfdgaaDoorTie.lean); close each card by the builder's one call (the guide's Derived/Test/ToyasCard.lean, 'card_holds'). Laid BY PROGRAM, IN A SANDBOX (cutbox-door.mjs). By AI agents, Wed Nov 11 2026. No macro, syntax, notation, axiom, sorry.
-/
import Derived.Test.YtffjlpphcjfdgaaDoorRows
import GoSem.ClaimSeven
namespace Go.Proofs.YtffjlpphcjfdgaaDoor
namespace Rows

/-- THE TIED CARD OF 'laws.FnSkip'. -/
def fnSkipCard : Claim7 := { stood := { row := fnSkipRow, standIns := [], harness := (true, "7d6cd63ce808396fb59dbcf1e6d6c9e3711256b8ae7cdf7b3148e993683f5560"), looks := false }, kinds := [], alts := [], laidByText := true, laidKinds := [.data, .data, .data], laidTests := true, laidLooks := .later }
def FnSkipCardSaid : Prop := Claim7.holds Tryd.pinned (.plain (OpenSpec.ofChange fnSkipSpec)) fnSkipCard

/-- THE TIED CARD OF 'laws.FnExactListSkip'. -/
def fnExactListSkipCard : Claim7 := { stood := { row := fnExactListSkipRow, standIns := [], harness := (true, "7d6cd63ce808396fb59dbcf1e6d6c9e3711256b8ae7cdf7b3148e993683f5560"), looks := false }, kinds := [], alts := [], laidByText := true, laidKinds := [.data, .data, .data], laidTests := true, laidLooks := .later }
def FnExactListSkipCardSaid : Prop := Claim7.holds Tryd.pinned (.plain (OpenSpec.ofChange fnExactListSkipSpec)) fnExactListSkipCard

/-- THE TIED CARD OF 'laws.FnExactInsertSkip'. -/
def fnExactInsertSkipCard : Claim7 := { stood := { row := fnExactInsertSkipRow, standIns := [], harness := (true, "7d6cd63ce808396fb59dbcf1e6d6c9e3711256b8ae7cdf7b3148e993683f5560"), looks := false }, kinds := [], alts := [], laidByText := true, laidKinds := [.data, .data, .data], laidTests := true, laidLooks := .later }
def FnExactInsertSkipCardSaid : Prop := Claim7.holds Tryd.pinned (.plain (OpenSpec.ofChange fnExactInsertSkipSpec)) fnExactInsertSkipCard

/-- THE TIED CARD OF 'laws.FnExactTowerOf'. -/
def fnExactTowerOfCard : Claim7 := { stood := { row := fnExactTowerOfRow, standIns := [], harness := (true, "7d6cd63ce808396fb59dbcf1e6d6c9e3711256b8ae7cdf7b3148e993683f5560"), looks := false }, kinds := [], alts := [], laidByText := true, laidKinds := [.data, .data, .data], laidTests := true, laidLooks := .later }
def FnExactTowerOfCardSaid : Prop := Claim7.holds Tryd.pinned (.plain (OpenSpec.ofChange fnExactTowerOfSpec)) fnExactTowerOfCard

/-- THE TIED CARD OF 'laws.FnExactGoodSkip'. -/
def fnExactGoodSkipCard : Claim7 := { stood := { row := fnExactGoodSkipRow, standIns := [], harness := (true, "7d6cd63ce808396fb59dbcf1e6d6c9e3711256b8ae7cdf7b3148e993683f5560"), looks := false }, kinds := [], alts := [], laidByText := true, laidKinds := [.data, .data, .data], laidTests := true, laidLooks := .later }
def FnExactGoodSkipCardSaid : Prop := Claim7.holds Tryd.pinned (.plain (OpenSpec.ofChange fnExactGoodSkipSpec)) fnExactGoodSkipCard

/-- THE TIED CARD OF 'laws.FnExactSeekSkip'. -/
def fnExactSeekSkipCard : Claim7 := { stood := { row := fnExactSeekSkipRow, standIns := [], harness := (true, "7d6cd63ce808396fb59dbcf1e6d6c9e3711256b8ae7cdf7b3148e993683f5560"), looks := false }, kinds := [], alts := [], laidByText := true, laidKinds := [.data, .data, .data], laidTests := true, laidLooks := .later }
def FnExactSeekSkipCardSaid : Prop := Claim7.holds Tryd.pinned (.plain (OpenSpec.ofChange fnExactSeekSkipSpec)) fnExactSeekSkipCard

/-- THE TIED CARD OF 'laws.FnFound'. -/
def fnFoundCard : Claim7 := { stood := { row := fnFoundRow, standIns := [], harness := (true, "7d6cd63ce808396fb59dbcf1e6d6c9e3711256b8ae7cdf7b3148e993683f5560"), looks := false }, kinds := [], alts := [], laidByText := true, laidKinds := [.data, .data, .data], laidTests := true, laidLooks := .later }
def FnFoundCardSaid : Prop := Claim7.holds Tryd.pinned (.plain (OpenSpec.ofChange fnFoundSpec)) fnFoundCard

/-- THE TIED CARD OF 'laws.FnExactFindSkip'. -/
def fnExactFindSkipCard : Claim7 := { stood := { row := fnExactFindSkipRow, standIns := [], harness := (true, "7d6cd63ce808396fb59dbcf1e6d6c9e3711256b8ae7cdf7b3148e993683f5560"), looks := false }, kinds := [], alts := [], laidByText := true, laidKinds := [.data, .data, .data], laidTests := true, laidLooks := .later }
def FnExactFindSkipCardSaid : Prop := Claim7.holds Tryd.pinned (.plain (OpenSpec.ofChange fnExactFindSkipSpec)) fnExactFindSkipCard

/-- THE SECOND FORM's CARD OF 'laws.FnSkip'. -/
def fnSkipUptoCard : Claim7 := { stood := { row := fnSkipUptoRow, standIns := [], harness := (true, "7d6cd63ce808396fb59dbcf1e6d6c9e3711256b8ae7cdf7b3148e993683f5560"), looks := false }, kinds := [], alts := [], laidByText := true, laidKinds := [.data, .data, .data], laidTests := true, laidLooks := .later }
def FnSkipUptoCardSaid : Prop := Claim7.holds Tryd.pinned (.plain (OpenSpec.upto fnSkipSpec)) fnSkipUptoCard

/-- THE SECOND FORM's CARD OF 'laws.FnExactListSkip'. -/
def fnExactListSkipUptoCard : Claim7 := { stood := { row := fnExactListSkipUptoRow, standIns := [], harness := (true, "7d6cd63ce808396fb59dbcf1e6d6c9e3711256b8ae7cdf7b3148e993683f5560"), looks := false }, kinds := [], alts := [], laidByText := true, laidKinds := [.data, .data, .data], laidTests := true, laidLooks := .later }
def FnExactListSkipUptoCardSaid : Prop := Claim7.holds Tryd.pinned (.plain (OpenSpec.upto fnExactListSkipSpec)) fnExactListSkipUptoCard

/-- THE SECOND FORM's CARD OF 'laws.FnExactInsertSkip'. -/
def fnExactInsertSkipUptoCard : Claim7 := { stood := { row := fnExactInsertSkipUptoRow, standIns := [], harness := (true, "7d6cd63ce808396fb59dbcf1e6d6c9e3711256b8ae7cdf7b3148e993683f5560"), looks := false }, kinds := [], alts := [], laidByText := true, laidKinds := [.data, .data, .data], laidTests := true, laidLooks := .later }
def FnExactInsertSkipUptoCardSaid : Prop := Claim7.holds Tryd.pinned (.plain (OpenSpec.upto fnExactInsertSkipSpec)) fnExactInsertSkipUptoCard

/-- THE SECOND FORM's CARD OF 'laws.FnExactTowerOf'. -/
def fnExactTowerOfUptoCard : Claim7 := { stood := { row := fnExactTowerOfUptoRow, standIns := [], harness := (true, "7d6cd63ce808396fb59dbcf1e6d6c9e3711256b8ae7cdf7b3148e993683f5560"), looks := false }, kinds := [], alts := [], laidByText := true, laidKinds := [.data, .data, .data], laidTests := true, laidLooks := .later }
def FnExactTowerOfUptoCardSaid : Prop := Claim7.holds Tryd.pinned (.plain (OpenSpec.upto fnExactTowerOfSpec)) fnExactTowerOfUptoCard

/-- THE SECOND FORM's CARD OF 'laws.FnExactGoodSkip'. -/
def fnExactGoodSkipUptoCard : Claim7 := { stood := { row := fnExactGoodSkipUptoRow, standIns := [], harness := (true, "7d6cd63ce808396fb59dbcf1e6d6c9e3711256b8ae7cdf7b3148e993683f5560"), looks := false }, kinds := [], alts := [], laidByText := true, laidKinds := [.data, .data, .data], laidTests := true, laidLooks := .later }
def FnExactGoodSkipUptoCardSaid : Prop := Claim7.holds Tryd.pinned (.plain (OpenSpec.upto fnExactGoodSkipSpec)) fnExactGoodSkipUptoCard

/-- THE SECOND FORM's CARD OF 'laws.FnExactSeekSkip'. -/
def fnExactSeekSkipUptoCard : Claim7 := { stood := { row := fnExactSeekSkipUptoRow, standIns := [], harness := (true, "7d6cd63ce808396fb59dbcf1e6d6c9e3711256b8ae7cdf7b3148e993683f5560"), looks := false }, kinds := [], alts := [], laidByText := true, laidKinds := [.data, .data, .data], laidTests := true, laidLooks := .later }
def FnExactSeekSkipUptoCardSaid : Prop := Claim7.holds Tryd.pinned (.plain (OpenSpec.upto fnExactSeekSkipSpec)) fnExactSeekSkipUptoCard

/-- THE SECOND FORM's CARD OF 'laws.FnFound'. -/
def fnFoundUptoCard : Claim7 := { stood := { row := fnFoundUptoRow, standIns := [], harness := (true, "7d6cd63ce808396fb59dbcf1e6d6c9e3711256b8ae7cdf7b3148e993683f5560"), looks := false }, kinds := [], alts := [], laidByText := true, laidKinds := [.data, .data, .data], laidTests := true, laidLooks := .later }
def FnFoundUptoCardSaid : Prop := Claim7.holds Tryd.pinned (.plain (OpenSpec.upto fnFoundSpec)) fnFoundUptoCard

/-- THE SECOND FORM's CARD OF 'laws.FnExactFindSkip'. -/
def fnExactFindSkipUptoCard : Claim7 := { stood := { row := fnExactFindSkipUptoRow, standIns := [], harness := (true, "7d6cd63ce808396fb59dbcf1e6d6c9e3711256b8ae7cdf7b3148e993683f5560"), looks := false }, kinds := [], alts := [], laidByText := true, laidKinds := [.data, .data, .data], laidTests := true, laidLooks := .later }
def FnExactFindSkipUptoCardSaid : Prop := Claim7.holds Tryd.pinned (.plain (OpenSpec.upto fnExactFindSkipSpec)) fnExactFindSkipUptoCard
end Rows
end Go.Proofs.YtffjlpphcjfdgaaDoor
