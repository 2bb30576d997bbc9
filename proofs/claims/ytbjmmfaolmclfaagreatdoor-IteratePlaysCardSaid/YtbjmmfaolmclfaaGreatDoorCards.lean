/-
  DERIVED. GIVEN WITH THE SEED: THE CARDS: each row of YtbjmmfaolmclfaaGreatDoorRows.lean that lists a variable, with what it lists TIED to the program's text (the seventh form; the later family's looks); each row that meets fmt, with fmt's text TOLD by the authors' own Lean function (tested against real Go, not proved from fmt's source: count such statements apart). THE CARD IS WHAT COUNTS. Prove the row's statement (the work); the ties are given (YtbjmmfaolmclfaaGreatDoorTie.lean); close each card by the builder's one call (the guide's Derived/Test/ToyasCard.lean, 'card_holds'). Laid BY PROGRAM, IN A SANDBOX (cutbox-door.mjs). By AI agents, Wed Nov 11 2026. No macro, syntax, notation, axiom, sorry.
-/
import Derived.Test.YtbjmmfaolmclfaaGreatDoorRows
import GoSem.ClaimSeven
namespace Go.Proofs.YtbjmmfaolmclfaaGreatDoor
namespace Rows

/-- THE TIED CARD OF 'ddilaw33.IteratePlays'. -/
def iteratePlaysCard : Claim7 := { stood := { row := iteratePlaysRow, standIns := [], harness := (true, "2035833048113e3188244ded32187217d3d8d9d45c5a71cd9f6aa65143a4360a"), looks := false }, kinds := [], alts := [], laidByText := true, laidKinds := [.data, .pinned], laidTests := true, laidLooks := .later }
def IteratePlaysCardSaid : Prop := Claim7.holds Tryz.pinned (.plain (OpenSpec.ofChange iteratePlaysSpec)) iteratePlaysCard

/-- THE TIED CARD OF 'ddilaw33.IterateServer'. -/
def iterateServerCard : Claim7 := { stood := { row := iterateServerRow, standIns := [], harness := (true, "2035833048113e3188244ded32187217d3d8d9d45c5a71cd9f6aa65143a4360a"), looks := false }, kinds := [], alts := [], laidByText := true, laidKinds := [.data, .pinned], laidTests := true, laidLooks := .later }
def IterateServerCardSaid : Prop := Claim7.holds Tryz.pinned (.plain (OpenSpec.ofChange iterateServerSpec)) iterateServerCard

/-- THE SECOND FORM's CARD OF 'ddilaw33.IteratePlays'. -/
def iteratePlaysUptoCard : Claim7 := { stood := { row := iteratePlaysUptoRow, standIns := [], harness := (true, "2035833048113e3188244ded32187217d3d8d9d45c5a71cd9f6aa65143a4360a"), looks := false }, kinds := [], alts := [], laidByText := true, laidKinds := [.data, .pinned], laidTests := true, laidLooks := .later }
def IteratePlaysUptoCardSaid : Prop := Claim7.holds Tryz.pinned (.plain (OpenSpec.upto iteratePlaysSpec)) iteratePlaysUptoCard

/-- THE SECOND FORM's CARD OF 'ddilaw33.IterateServer'. -/
def iterateServerUptoCard : Claim7 := { stood := { row := iterateServerUptoRow, standIns := [], harness := (true, "2035833048113e3188244ded32187217d3d8d9d45c5a71cd9f6aa65143a4360a"), looks := false }, kinds := [], alts := [], laidByText := true, laidKinds := [.data, .pinned], laidTests := true, laidLooks := .later }
def IterateServerUptoCardSaid : Prop := Claim7.holds Tryz.pinned (.plain (OpenSpec.upto iterateServerSpec)) iterateServerUptoCard
end Rows
end Go.Proofs.YtbjmmfaolmclfaaGreatDoor
