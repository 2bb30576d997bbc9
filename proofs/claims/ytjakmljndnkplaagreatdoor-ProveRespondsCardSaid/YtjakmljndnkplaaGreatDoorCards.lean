/-
  DERIVED. GIVEN WITH THE SEED: THE CARDS: each row of YtjakmljndnkplaaGreatDoorRows.lean that lists a variable, with what it lists TIED to the program's text (the seventh form; the later family's looks); each row that meets fmt, with fmt's text TOLD by the authors' own Lean function (tested against real Go, not proved from fmt's source: count such statements apart). THE CARD IS WHAT COUNTS. Prove the row's statement (the work); the ties are given (YtjakmljndnkplaaGreatDoorTie.lean); close each card by the builder's one call (the guide's Derived/Test/ToyasCard.lean, 'card_holds'). Laid BY PROGRAM, IN A SANDBOX (cutbox-door.mjs). By AI agents, Wed Nov 11 2026. No macro, syntax, notation, axiom, sorry.
-/
import Derived.Test.YtjakmljndnkplaaGreatDoorRows
import GoSem.ClaimSeven
namespace Go.Proofs.YtjakmljndnkplaaGreatDoor
namespace Rows

/-- THE TIED CARD OF 'ddilaw23.ProveResponds'. -/
def proveRespondsCard : Claim7 := { stood := { row := proveRespondsRow, standIns := [], harness := (true, "2d5bd2366d9438d23b616c58a79d61c08c8ed386bdd51ca8f50ca813c1b87d26"), looks := false }, kinds := [], alts := [], laidByText := true, laidKinds := [.data, .pinned], laidTests := true, laidLooks := .later }
def ProveRespondsCardSaid : Prop := Claim7.holds Tryz.pinned (.plain (OpenSpec.ofChange proveRespondsSpec)) proveRespondsCard

/-- THE TIED CARD OF 'ddilaw23.ProvePlain'. -/
def provePlainCard : Claim7 := { stood := { row := provePlainRow, standIns := [], harness := (true, "2d5bd2366d9438d23b616c58a79d61c08c8ed386bdd51ca8f50ca813c1b87d26"), looks := false }, kinds := [], alts := [], laidByText := true, laidKinds := [.data, .pinned], laidTests := true, laidLooks := .later }
def ProvePlainCardSaid : Prop := Claim7.holds Tryz.pinned (.plain (OpenSpec.ofChange provePlainSpec)) provePlainCard

/-- THE TIED CARD OF 'ddilaw23.ProveSigned'. -/
def proveSignedCard : Claim7 := { stood := { row := proveSignedRow, standIns := [], harness := (true, "2d5bd2366d9438d23b616c58a79d61c08c8ed386bdd51ca8f50ca813c1b87d26"), looks := false }, kinds := [], alts := [], laidByText := true, laidKinds := [.data, .pinned], laidTests := true, laidLooks := .later }
def ProveSignedCardSaid : Prop := Claim7.holds Tryz.pinned (.plain (OpenSpec.ofChange proveSignedSpec)) proveSignedCard

/-- THE TIED CARD OF 'ddilaw23.ProveNegative'. -/
def proveNegativeCard : Claim7 := { stood := { row := proveNegativeRow, standIns := [], harness := (true, "2d5bd2366d9438d23b616c58a79d61c08c8ed386bdd51ca8f50ca813c1b87d26"), looks := false }, kinds := [], alts := [], laidByText := true, laidKinds := [.data, .pinned], laidTests := true, laidLooks := .later }
def ProveNegativeCardSaid : Prop := Claim7.holds Tryz.pinned (.plain (OpenSpec.ofChange proveNegativeSpec)) proveNegativeCard

/-- THE SECOND FORM's CARD OF 'ddilaw23.ProveResponds'. -/
def proveRespondsUptoCard : Claim7 := { stood := { row := proveRespondsUptoRow, standIns := [], harness := (true, "2d5bd2366d9438d23b616c58a79d61c08c8ed386bdd51ca8f50ca813c1b87d26"), looks := false }, kinds := [], alts := [], laidByText := true, laidKinds := [.data, .pinned], laidTests := true, laidLooks := .later }
def ProveRespondsUptoCardSaid : Prop := Claim7.holds Tryz.pinned (.plain (OpenSpec.upto proveRespondsSpec)) proveRespondsUptoCard

/-- THE SECOND FORM's CARD OF 'ddilaw23.ProvePlain'. -/
def provePlainUptoCard : Claim7 := { stood := { row := provePlainUptoRow, standIns := [], harness := (true, "2d5bd2366d9438d23b616c58a79d61c08c8ed386bdd51ca8f50ca813c1b87d26"), looks := false }, kinds := [], alts := [], laidByText := true, laidKinds := [.data, .pinned], laidTests := true, laidLooks := .later }
def ProvePlainUptoCardSaid : Prop := Claim7.holds Tryz.pinned (.plain (OpenSpec.upto provePlainSpec)) provePlainUptoCard

/-- THE SECOND FORM's CARD OF 'ddilaw23.ProveSigned'. -/
def proveSignedUptoCard : Claim7 := { stood := { row := proveSignedUptoRow, standIns := [], harness := (true, "2d5bd2366d9438d23b616c58a79d61c08c8ed386bdd51ca8f50ca813c1b87d26"), looks := false }, kinds := [], alts := [], laidByText := true, laidKinds := [.data, .pinned], laidTests := true, laidLooks := .later }
def ProveSignedUptoCardSaid : Prop := Claim7.holds Tryz.pinned (.plain (OpenSpec.upto proveSignedSpec)) proveSignedUptoCard

/-- THE SECOND FORM's CARD OF 'ddilaw23.ProveNegative'. -/
def proveNegativeUptoCard : Claim7 := { stood := { row := proveNegativeUptoRow, standIns := [], harness := (true, "2d5bd2366d9438d23b616c58a79d61c08c8ed386bdd51ca8f50ca813c1b87d26"), looks := false }, kinds := [], alts := [], laidByText := true, laidKinds := [.data, .pinned], laidTests := true, laidLooks := .later }
def ProveNegativeUptoCardSaid : Prop := Claim7.holds Tryz.pinned (.plain (OpenSpec.upto proveNegativeSpec)) proveNegativeUptoCard
end Rows
end Go.Proofs.YtjakmljndnkplaaGreatDoor
