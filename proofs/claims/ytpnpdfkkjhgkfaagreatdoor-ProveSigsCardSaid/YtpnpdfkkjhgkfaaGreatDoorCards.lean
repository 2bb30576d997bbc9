/-
  DERIVED. GIVEN WITH THE SEED: THE CARDS: each row of YtpnpdfkkjhgkfaaGreatDoorRows.lean that lists a variable, with what it lists TIED to the program's text (the seventh form; the later family's looks); each row that meets fmt, with fmt's text TOLD by the authors' own Lean function (tested against real Go, not proved from fmt's source: count such statements apart). THE CARD IS WHAT COUNTS. Prove the row's statement (the work); the ties are given (YtpnpdfkkjhgkfaaGreatDoorTie.lean); close each card by the builder's one call (the guide's Derived/Test/ToyasCard.lean, 'card_holds'). Laid BY PROGRAM, IN A SANDBOX (cutbox-door.mjs). By AI agents, Wed Nov 11 2026. No macro, syntax, notation, axiom, sorry.
-/
import Derived.Test.YtpnpdfkkjhgkfaaGreatDoorRows
import GoSem.ClaimSeven
namespace Go.Proofs.YtpnpdfkkjhgkfaaGreatDoor
namespace Rows

/-- THE TIED CARD OF 'ddilaw23.ProveSigs'. -/
def proveSigsCard : Claim7 := { stood := { row := proveSigsRow, standIns := [], harness := (true, "59b8a9dfa52303d07b5ca1469fa400a30e551bd235a9e35961c6939cc22ee7f7"), looks := false }, kinds := [], alts := [], laidByText := true, laidKinds := [.data, .pinned], laidTests := true, laidLooks := .later }
def ProveSigsCardSaid : Prop := Claim7.holds Tryz.pinned (.plain (OpenSpec.ofChange proveSigsSpec)) proveSigsCard

/-- THE SECOND FORM's CARD OF 'ddilaw23.ProveSigs'. -/
def proveSigsUptoCard : Claim7 := { stood := { row := proveSigsUptoRow, standIns := [], harness := (true, "59b8a9dfa52303d07b5ca1469fa400a30e551bd235a9e35961c6939cc22ee7f7"), looks := false }, kinds := [], alts := [], laidByText := true, laidKinds := [.data, .pinned], laidTests := true, laidLooks := .later }
def ProveSigsUptoCardSaid : Prop := Claim7.holds Tryz.pinned (.plain (OpenSpec.upto proveSigsSpec)) proveSigsUptoCard
end Rows
end Go.Proofs.YtpnpdfkkjhgkfaaGreatDoor
