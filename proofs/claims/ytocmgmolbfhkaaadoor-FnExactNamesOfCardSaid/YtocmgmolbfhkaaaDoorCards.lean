/-
  DERIVED. GIVEN WITH THE SEED: THE CARDS: each row of YtocmgmolbfhkaaaDoorRows.lean that lists a variable, with what it lists TIED to the program's text (the seventh form; the later family's looks); each row that meets fmt, with fmt's text TOLD by the authors' own Lean function (tested against real Go, not proved from fmt's source: count such statements apart). THE CARD IS WHAT COUNTS. Prove the row's statement (the work); the ties are given (YtocmgmolbfhkaaaDoorTie.lean); close each card by the builder's one call (the guide's Derived/Test/ToyasCard.lean, 'card_holds'). Laid BY PROGRAM, IN A SANDBOX (cutbox-door.mjs). By AI agents, Wed Nov 11 2026. No macro, syntax, notation, axiom, sorry.
-/
import Derived.Test.YtocmgmolbfhkaaaDoorRows
import GoSem.ClaimSeven
namespace Go.Proofs.YtocmgmolbfhkaaaDoor
namespace Rows

/-- THE TIED CARD OF 'laws.FnExactGoodDisk'. -/
def fnExactGoodDiskCard : Claim7 := { stood := { row := fnExactGoodDiskRow, standIns := [], harness := (true, "e63a8304bb26a0e1a3102e84b0feedb88bc141bbc36edbbe37f09789691169dc"), looks := false }, kinds := [], alts := [], laidByText := true, laidKinds := [.data, .pinned], laidTests := true, laidLooks := .later }
def FnExactGoodDiskCardSaid : Prop := Claim7.holds Tryd.pinned (.plain (OpenSpec.ofChange fnExactGoodDiskSpec)) fnExactGoodDiskCard

/-- THE TIED CARD OF 'laws.FnExactUsedOf'. -/
def fnExactUsedOfCard : Claim7 := { stood := { row := fnExactUsedOfRow, standIns := [], harness := (true, "e63a8304bb26a0e1a3102e84b0feedb88bc141bbc36edbbe37f09789691169dc"), looks := false }, kinds := [], alts := [], laidByText := true, laidKinds := [.data, .pinned], laidTests := true, laidLooks := .later }
def FnExactUsedOfCardSaid : Prop := Claim7.holds Tryd.pinned (.plain (OpenSpec.ofChange fnExactUsedOfSpec)) fnExactUsedOfCard

/-- THE TIED CARD OF 'laws.FnExactReadFile'. -/
def fnExactReadFileCard : Claim7 := { stood := { row := fnExactReadFileRow, standIns := [], harness := (true, "e63a8304bb26a0e1a3102e84b0feedb88bc141bbc36edbbe37f09789691169dc"), looks := false }, kinds := [], alts := [], laidByText := true, laidKinds := [.data, .pinned], laidTests := true, laidLooks := .later }
def FnExactReadFileCardSaid : Prop := Claim7.holds Tryd.pinned (.plain (OpenSpec.ofChange fnExactReadFileSpec)) fnExactReadFileCard

/-- THE TIED CARD OF 'laws.FnExactSafeFile'. -/
def fnExactSafeFileCard : Claim7 := { stood := { row := fnExactSafeFileRow, standIns := [], harness := (true, "e63a8304bb26a0e1a3102e84b0feedb88bc141bbc36edbbe37f09789691169dc"), looks := false }, kinds := [], alts := [], laidByText := true, laidKinds := [.data, .pinned], laidTests := true, laidLooks := .later }
def FnExactSafeFileCardSaid : Prop := Claim7.holds Tryd.pinned (.plain (OpenSpec.ofChange fnExactSafeFileSpec)) fnExactSafeFileCard

/-- THE TIED CARD OF 'laws.FnExactNamesOf'. -/
def fnExactNamesOfCard : Claim7 := { stood := { row := fnExactNamesOfRow, standIns := [], harness := (true, "e63a8304bb26a0e1a3102e84b0feedb88bc141bbc36edbbe37f09789691169dc"), looks := false }, kinds := [], alts := [], laidByText := true, laidKinds := [.data, .pinned], laidTests := true, laidLooks := .later }
def FnExactNamesOfCardSaid : Prop := Claim7.holds Tryd.pinned (.plain (OpenSpec.ofChange fnExactNamesOfSpec)) fnExactNamesOfCard

/-- THE SECOND FORM's CARD OF 'laws.FnExactGoodDisk'. -/
def fnExactGoodDiskUptoCard : Claim7 := { stood := { row := fnExactGoodDiskUptoRow, standIns := [], harness := (true, "e63a8304bb26a0e1a3102e84b0feedb88bc141bbc36edbbe37f09789691169dc"), looks := false }, kinds := [], alts := [], laidByText := true, laidKinds := [.data, .pinned], laidTests := true, laidLooks := .later }
def FnExactGoodDiskUptoCardSaid : Prop := Claim7.holds Tryd.pinned (.plain (OpenSpec.upto fnExactGoodDiskSpec)) fnExactGoodDiskUptoCard

/-- THE SECOND FORM's CARD OF 'laws.FnExactUsedOf'. -/
def fnExactUsedOfUptoCard : Claim7 := { stood := { row := fnExactUsedOfUptoRow, standIns := [], harness := (true, "e63a8304bb26a0e1a3102e84b0feedb88bc141bbc36edbbe37f09789691169dc"), looks := false }, kinds := [], alts := [], laidByText := true, laidKinds := [.data, .pinned], laidTests := true, laidLooks := .later }
def FnExactUsedOfUptoCardSaid : Prop := Claim7.holds Tryd.pinned (.plain (OpenSpec.upto fnExactUsedOfSpec)) fnExactUsedOfUptoCard

/-- THE SECOND FORM's CARD OF 'laws.FnExactReadFile'. -/
def fnExactReadFileUptoCard : Claim7 := { stood := { row := fnExactReadFileUptoRow, standIns := [], harness := (true, "e63a8304bb26a0e1a3102e84b0feedb88bc141bbc36edbbe37f09789691169dc"), looks := false }, kinds := [], alts := [], laidByText := true, laidKinds := [.data, .pinned], laidTests := true, laidLooks := .later }
def FnExactReadFileUptoCardSaid : Prop := Claim7.holds Tryd.pinned (.plain (OpenSpec.upto fnExactReadFileSpec)) fnExactReadFileUptoCard

/-- THE SECOND FORM's CARD OF 'laws.FnExactSafeFile'. -/
def fnExactSafeFileUptoCard : Claim7 := { stood := { row := fnExactSafeFileUptoRow, standIns := [], harness := (true, "e63a8304bb26a0e1a3102e84b0feedb88bc141bbc36edbbe37f09789691169dc"), looks := false }, kinds := [], alts := [], laidByText := true, laidKinds := [.data, .pinned], laidTests := true, laidLooks := .later }
def FnExactSafeFileUptoCardSaid : Prop := Claim7.holds Tryd.pinned (.plain (OpenSpec.upto fnExactSafeFileSpec)) fnExactSafeFileUptoCard

/-- THE SECOND FORM's CARD OF 'laws.FnExactNamesOf'. -/
def fnExactNamesOfUptoCard : Claim7 := { stood := { row := fnExactNamesOfUptoRow, standIns := [], harness := (true, "e63a8304bb26a0e1a3102e84b0feedb88bc141bbc36edbbe37f09789691169dc"), looks := false }, kinds := [], alts := [], laidByText := true, laidKinds := [.data, .pinned], laidTests := true, laidLooks := .later }
def FnExactNamesOfUptoCardSaid : Prop := Claim7.holds Tryd.pinned (.plain (OpenSpec.upto fnExactNamesOfSpec)) fnExactNamesOfUptoCard
end Rows
end Go.Proofs.YtocmgmolbfhkaaaDoor
