/-
  DERIVED. GIVEN WITH THE SEED: THE CARDS: each row of YtafdmaddhbcppaaGreatDoorRows.lean that lists a variable, with what it lists TIED to the program's text (the seventh form; the later family's looks); each row that meets fmt, with fmt's text TOLD by the authors' own Lean function (tested against real Go, not proved from fmt's source: count such statements apart). THE CARD IS WHAT COUNTS. Prove the row's statement (the work); the ties are given (YtafdmaddhbcppaaGreatDoorTie.lean); close each card by the builder's one call (the guide's Derived/Test/ToyasCard.lean, 'card_holds'). Laid BY PROGRAM, IN A SANDBOX (cutbox-door.mjs). By AI agents, Wed Nov 11 2026. No macro, syntax, notation, axiom, sorry.
-/
import Derived.Test.YtafdmaddhbcppaaGreatDoorRows
import GoSem.ClaimSeven
namespace Go.Proofs.YtafdmaddhbcppaaGreatDoor
namespace Rows

/-- THE TIED CARD OF 'ddilaw23.ProveDenials'. -/
def proveDenialsCard : Claim7 := { stood := { row := proveDenialsRow, standIns := [], harness := (true, "855808ad42fa41c238b13eb0e42be477f1e05c2898e62f6b2c0a44967f5fb026"), looks := false }, kinds := [], alts := [], laidByText := true, laidKinds := [.data, .pinned], laidTests := true, laidLooks := .later }
def ProveDenialsCardSaid : Prop := Claim7.holds Tryz.pinned (.plain (OpenSpec.ofChange proveDenialsSpec)) proveDenialsCard

/-- THE SECOND FORM's CARD OF 'ddilaw23.ProveDenials'. -/
def proveDenialsUptoCard : Claim7 := { stood := { row := proveDenialsUptoRow, standIns := [], harness := (true, "855808ad42fa41c238b13eb0e42be477f1e05c2898e62f6b2c0a44967f5fb026"), looks := false }, kinds := [], alts := [], laidByText := true, laidKinds := [.data, .pinned], laidTests := true, laidLooks := .later }
def ProveDenialsUptoCardSaid : Prop := Claim7.holds Tryz.pinned (.plain (OpenSpec.upto proveDenialsSpec)) proveDenialsUptoCard
end Rows
end Go.Proofs.YtafdmaddhbcppaaGreatDoor
