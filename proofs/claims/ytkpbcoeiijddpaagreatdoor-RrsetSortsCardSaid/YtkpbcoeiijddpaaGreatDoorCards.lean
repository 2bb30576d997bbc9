/-
  DERIVED. GIVEN WITH THE SEED: THE CARDS: each row of YtkpbcoeiijddpaaGreatDoorRows.lean that lists a variable, with what it lists TIED to the program's text (the seventh form; the later family's looks); each row that meets fmt, with fmt's text TOLD by the authors' own Lean function (tested against real Go, not proved from fmt's source: count such statements apart). THE CARD IS WHAT COUNTS. Prove the row's statement (the work); the ties are given (YtkpbcoeiijddpaaGreatDoorTie.lean); close each card by the builder's one call (the guide's Derived/Test/ToyasCard.lean, 'card_holds'). Laid BY PROGRAM, IN A SANDBOX (cutbox-door.mjs). By AI agents, Wed Nov 11 2026. No macro, syntax, notation, axiom, sorry.
-/
import Derived.Test.YtkpbcoeiijddpaaGreatDoorRows
import GoSem.ClaimSeven
namespace Go.Proofs.YtkpbcoeiijddpaaGreatDoor
namespace Rows

/-- THE TIED CARD OF 'ddilaw07.RrsetCompares'. -/
def rrsetComparesCard : Claim7 := { stood := { row := rrsetComparesRow, standIns := [], harness := (true, "653c1b8d2ef478930952425e477714fefd504a2b502af4eca953dab83de61dca"), looks := false }, kinds := [], alts := [], laidByText := true, laidKinds := [.data, .pinned], laidTests := true, laidLooks := .later }
def RrsetComparesCardSaid : Prop := Claim7.holds Tryz.pinned (.plain (OpenSpec.ofChange rrsetComparesSpec)) rrsetComparesCard

/-- THE TIED CARD OF 'ddilaw07.RrsetSets'. -/
def rrsetSetsCard : Claim7 := { stood := { row := rrsetSetsRow, standIns := [], harness := (true, "653c1b8d2ef478930952425e477714fefd504a2b502af4eca953dab83de61dca"), looks := false }, kinds := [], alts := [], laidByText := true, laidKinds := [.data, .pinned], laidTests := true, laidLooks := .later }
def RrsetSetsCardSaid : Prop := Claim7.holds Tryz.pinned (.plain (OpenSpec.ofChange rrsetSetsSpec)) rrsetSetsCard

/-- THE TIED CARD OF 'ddilaw07.RrsetPairs'. -/
def rrsetPairsCard : Claim7 := { stood := { row := rrsetPairsRow, standIns := [], harness := (true, "653c1b8d2ef478930952425e477714fefd504a2b502af4eca953dab83de61dca"), looks := false }, kinds := [], alts := [], laidByText := true, laidKinds := [.data, .pinned], laidTests := true, laidLooks := .later }
def RrsetPairsCardSaid : Prop := Claim7.holds Tryz.pinned (.plain (OpenSpec.ofChange rrsetPairsSpec)) rrsetPairsCard

/-- THE TIED CARD OF 'ddilaw07.RrsetSorts'. -/
def rrsetSortsCard : Claim7 := { stood := { row := rrsetSortsRow, standIns := [], harness := (true, "653c1b8d2ef478930952425e477714fefd504a2b502af4eca953dab83de61dca"), looks := false }, kinds := [], alts := [], laidByText := true, laidKinds := [.data, .pinned], laidTests := true, laidLooks := .later }
def RrsetSortsCardSaid : Prop := Claim7.holds Tryz.pinned (.plain (OpenSpec.ofChange rrsetSortsSpec)) rrsetSortsCard

/-- THE SECOND FORM's CARD OF 'ddilaw07.RrsetCompares'. -/
def rrsetComparesUptoCard : Claim7 := { stood := { row := rrsetComparesUptoRow, standIns := [], harness := (true, "653c1b8d2ef478930952425e477714fefd504a2b502af4eca953dab83de61dca"), looks := false }, kinds := [], alts := [], laidByText := true, laidKinds := [.data, .pinned], laidTests := true, laidLooks := .later }
def RrsetComparesUptoCardSaid : Prop := Claim7.holds Tryz.pinned (.plain (OpenSpec.upto rrsetComparesSpec)) rrsetComparesUptoCard

/-- THE SECOND FORM's CARD OF 'ddilaw07.RrsetSets'. -/
def rrsetSetsUptoCard : Claim7 := { stood := { row := rrsetSetsUptoRow, standIns := [], harness := (true, "653c1b8d2ef478930952425e477714fefd504a2b502af4eca953dab83de61dca"), looks := false }, kinds := [], alts := [], laidByText := true, laidKinds := [.data, .pinned], laidTests := true, laidLooks := .later }
def RrsetSetsUptoCardSaid : Prop := Claim7.holds Tryz.pinned (.plain (OpenSpec.upto rrsetSetsSpec)) rrsetSetsUptoCard

/-- THE SECOND FORM's CARD OF 'ddilaw07.RrsetPairs'. -/
def rrsetPairsUptoCard : Claim7 := { stood := { row := rrsetPairsUptoRow, standIns := [], harness := (true, "653c1b8d2ef478930952425e477714fefd504a2b502af4eca953dab83de61dca"), looks := false }, kinds := [], alts := [], laidByText := true, laidKinds := [.data, .pinned], laidTests := true, laidLooks := .later }
def RrsetPairsUptoCardSaid : Prop := Claim7.holds Tryz.pinned (.plain (OpenSpec.upto rrsetPairsSpec)) rrsetPairsUptoCard

/-- THE SECOND FORM's CARD OF 'ddilaw07.RrsetSorts'. -/
def rrsetSortsUptoCard : Claim7 := { stood := { row := rrsetSortsUptoRow, standIns := [], harness := (true, "653c1b8d2ef478930952425e477714fefd504a2b502af4eca953dab83de61dca"), looks := false }, kinds := [], alts := [], laidByText := true, laidKinds := [.data, .pinned], laidTests := true, laidLooks := .later }
def RrsetSortsUptoCardSaid : Prop := Claim7.holds Tryz.pinned (.plain (OpenSpec.upto rrsetSortsSpec)) rrsetSortsUptoCard
end Rows
end Go.Proofs.YtkpbcoeiijddpaaGreatDoor
