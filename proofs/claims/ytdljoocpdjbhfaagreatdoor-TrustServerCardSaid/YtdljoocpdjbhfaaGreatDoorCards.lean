/-
  DERIVED. GIVEN WITH THE SEED: THE CARDS: each row of YtdljoocpdjbhfaaGreatDoorRows.lean that lists a variable, with what it lists TIED to the program's text (the seventh form; the later family's looks); each row that meets fmt, with fmt's text TOLD by the authors' own Lean function (tested against real Go, not proved from fmt's source: count such statements apart). THE CARD IS WHAT COUNTS. Prove the row's statement (the work); the ties are given (YtdljoocpdjbhfaaGreatDoorTie.lean); close each card by the builder's one call (the guide's Derived/Test/ToyasCard.lean, 'card_holds'). Laid BY PROGRAM, IN A SANDBOX (cutbox-door.mjs). By AI agents, Wed Nov 11 2026. No macro, syntax, notation, axiom, sorry.
-/
import Derived.Test.YtdljoocpdjbhfaaGreatDoorRows
import GoSem.ClaimSeven
namespace Go.Proofs.YtdljoocpdjbhfaaGreatDoor
namespace Rows

/-- THE TIED CARD OF 'ddilaw30.TrustSets'. -/
def trustSetsCard : Claim7 := { stood := { row := trustSetsRow, standIns := [], harness := (true, "8de93c54c32c441d897e422b5f8a56ecd2020119a711dd0df5e8b8143e4562f5"), looks := false }, kinds := [], alts := [], laidByText := true, laidKinds := [.data, .pinned], laidTests := true, laidLooks := .later }
def TrustSetsCardSaid : Prop := Claim7.holds Tryz.pinned (.plain (OpenSpec.ofChange trustSetsSpec)) trustSetsCard

/-- THE TIED CARD OF 'ddilaw30.TrustBounds'. -/
def trustBoundsCard : Claim7 := { stood := { row := trustBoundsRow, standIns := [], harness := (true, "8de93c54c32c441d897e422b5f8a56ecd2020119a711dd0df5e8b8143e4562f5"), looks := false }, kinds := [], alts := [], laidByText := true, laidKinds := [.data, .pinned], laidTests := true, laidLooks := .later }
def TrustBoundsCardSaid : Prop := Claim7.holds Tryz.pinned (.plain (OpenSpec.ofChange trustBoundsSpec)) trustBoundsCard

/-- THE TIED CARD OF 'ddilaw30.TrustServer'. -/
def trustServerCard : Claim7 := { stood := { row := trustServerRow, standIns := [], harness := (true, "8de93c54c32c441d897e422b5f8a56ecd2020119a711dd0df5e8b8143e4562f5"), looks := false }, kinds := [], alts := [], laidByText := true, laidKinds := [.data, .pinned], laidTests := true, laidLooks := .later }
def TrustServerCardSaid : Prop := Claim7.holds Tryz.pinned (.plain (OpenSpec.ofChange trustServerSpec)) trustServerCard

/-- THE SECOND FORM's CARD OF 'ddilaw30.TrustSets'. -/
def trustSetsUptoCard : Claim7 := { stood := { row := trustSetsUptoRow, standIns := [], harness := (true, "8de93c54c32c441d897e422b5f8a56ecd2020119a711dd0df5e8b8143e4562f5"), looks := false }, kinds := [], alts := [], laidByText := true, laidKinds := [.data, .pinned], laidTests := true, laidLooks := .later }
def TrustSetsUptoCardSaid : Prop := Claim7.holds Tryz.pinned (.plain (OpenSpec.upto trustSetsSpec)) trustSetsUptoCard

/-- THE SECOND FORM's CARD OF 'ddilaw30.TrustBounds'. -/
def trustBoundsUptoCard : Claim7 := { stood := { row := trustBoundsUptoRow, standIns := [], harness := (true, "8de93c54c32c441d897e422b5f8a56ecd2020119a711dd0df5e8b8143e4562f5"), looks := false }, kinds := [], alts := [], laidByText := true, laidKinds := [.data, .pinned], laidTests := true, laidLooks := .later }
def TrustBoundsUptoCardSaid : Prop := Claim7.holds Tryz.pinned (.plain (OpenSpec.upto trustBoundsSpec)) trustBoundsUptoCard

/-- THE SECOND FORM's CARD OF 'ddilaw30.TrustServer'. -/
def trustServerUptoCard : Claim7 := { stood := { row := trustServerUptoRow, standIns := [], harness := (true, "8de93c54c32c441d897e422b5f8a56ecd2020119a711dd0df5e8b8143e4562f5"), looks := false }, kinds := [], alts := [], laidByText := true, laidKinds := [.data, .pinned], laidTests := true, laidLooks := .later }
def TrustServerUptoCardSaid : Prop := Claim7.holds Tryz.pinned (.plain (OpenSpec.upto trustServerSpec)) trustServerUptoCard
end Rows
end Go.Proofs.YtdljoocpdjbhfaaGreatDoor
