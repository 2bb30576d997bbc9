/-
  DERIVED. GIVEN WITH THE SEED: THE CARDS: each row of YtfhbgkahambahaaGreatDoorRows.lean that lists a variable, with what it lists TIED to the program's text (the seventh form; the later family's looks); each row that meets fmt, with fmt's text TOLD by the authors' own Lean function (tested against real Go, not proved from fmt's source: count such statements apart). THE CARD IS WHAT COUNTS. Prove the row's statement (the work); the ties are given (YtfhbgkahambahaaGreatDoorTie.lean); close each card by the builder's one call (the guide's Derived/Test/ToyasCard.lean, 'card_holds'). Laid BY PROGRAM, IN A SANDBOX (cutbox-door.mjs). By AI agents, Wed Nov 11 2026. No macro, syntax, notation, axiom, sorry.
-/
import Derived.Test.YtfhbgkahambahaaGreatDoorRows
import GoSem.ClaimSeven
namespace Go.Proofs.YtfhbgkahambahaaGreatDoor
namespace Rows

/-- THE TIED CARD OF 'ddilaw33.IterateServer'. -/
def iterateServerCard : Claim7 := { stood := { row := iterateServerRow, standIns := [], harness := (true, "da82a6ad057c6f3d4a854a0139086b634c693d2b4301607ddfd3a9e689eb50b2"), looks := false }, kinds := [], alts := [], laidByText := true, laidKinds := [.data, .pinned], laidTests := true, laidLooks := .later }
def IterateServerCardSaid : Prop := Claim7.holds Tryz.pinned (.plain (OpenSpec.ofChange iterateServerSpec)) iterateServerCard

/-- THE SECOND FORM's CARD OF 'ddilaw33.IterateServer'. -/
def iterateServerUptoCard : Claim7 := { stood := { row := iterateServerUptoRow, standIns := [], harness := (true, "da82a6ad057c6f3d4a854a0139086b634c693d2b4301607ddfd3a9e689eb50b2"), looks := false }, kinds := [], alts := [], laidByText := true, laidKinds := [.data, .pinned], laidTests := true, laidLooks := .later }
def IterateServerUptoCardSaid : Prop := Claim7.holds Tryz.pinned (.plain (OpenSpec.upto iterateServerSpec)) iterateServerUptoCard
end Rows
end Go.Proofs.YtfhbgkahambahaaGreatDoor
