/-
  DERIVED. GIVEN WITH THE SEED: THE CARDS: each row of YtfkfaliipkpcdaaGreatDoorRows.lean that lists a variable, with what it lists TIED to the program's text (the seventh form; the later family's looks); each row that meets fmt, with fmt's text TOLD by the authors' own Lean function (tested against real Go, not proved from fmt's source: count such statements apart). THE CARD IS WHAT COUNTS. Prove the row's statement (the work); the ties are given (YtfkfaliipkpcdaaGreatDoorTie.lean); close each card by the builder's one call (the guide's Derived/Test/ToyasCard.lean, 'card_holds'). Laid BY PROGRAM, IN A SANDBOX (cutbox-door.mjs). By AI agents, Wed Nov 11 2026. No macro, syntax, notation, axiom, sorry.
-/
import Derived.Test.YtfkfaliipkpcdaaGreatDoorRows
import GoSem.ClaimSeven
namespace Go.Proofs.YtfkfaliipkpcdaaGreatDoor
namespace Rows

/-- THE TIED CARD OF 'ddilaw11.LookupFinds'. -/
def lookupFindsCard : Claim7 := { stood := { row := lookupFindsRow, standIns := [], harness := (true, "60a20ea013ea18cd4b7ebd2e23d710f2f7a237f8fdd25f2e2622af0169e06f2e"), looks := false }, kinds := [], alts := [], laidByText := true, laidKinds := [.data, .pinned], laidTests := true, laidLooks := .later }
def LookupFindsCardSaid : Prop := Claim7.holds Tryz.pinned (.plain (OpenSpec.ofChange lookupFindsSpec)) lookupFindsCard

/-- THE TIED CARD OF 'ddilaw11.LookupChases'. -/
def lookupChasesCard : Claim7 := { stood := { row := lookupChasesRow, standIns := [], harness := (true, "60a20ea013ea18cd4b7ebd2e23d710f2f7a237f8fdd25f2e2622af0169e06f2e"), looks := false }, kinds := [], alts := [], laidByText := true, laidKinds := [.data, .pinned], laidTests := true, laidLooks := .later }
def LookupChasesCardSaid : Prop := Claim7.holds Tryz.pinned (.plain (OpenSpec.ofChange lookupChasesSpec)) lookupChasesCard

/-- THE TIED CARD OF 'ddilaw11.LookupResponds'. -/
def lookupRespondsCard : Claim7 := { stood := { row := lookupRespondsRow, standIns := [], harness := (true, "60a20ea013ea18cd4b7ebd2e23d710f2f7a237f8fdd25f2e2622af0169e06f2e"), looks := false }, kinds := [], alts := [], laidByText := true, laidKinds := [.data, .pinned], laidTests := true, laidLooks := .later }
def LookupRespondsCardSaid : Prop := Claim7.holds Tryz.pinned (.plain (OpenSpec.ofChange lookupRespondsSpec)) lookupRespondsCard

/-- THE TIED CARD OF 'ddilaw11.LookupTrue'. -/
def lookupTrueCard : Claim7 := { stood := { row := lookupTrueRow, standIns := [], harness := (true, "60a20ea013ea18cd4b7ebd2e23d710f2f7a237f8fdd25f2e2622af0169e06f2e"), looks := false }, kinds := [], alts := [], laidByText := true, laidKinds := [.data, .pinned], laidTests := true, laidLooks := .later }
def LookupTrueCardSaid : Prop := Claim7.holds Tryz.pinned (.plain (OpenSpec.ofChange lookupTrueSpec)) lookupTrueCard

/-- THE TIED CARD OF 'ddilaw11.LookupNothing'. -/
def lookupNothingCard : Claim7 := { stood := { row := lookupNothingRow, standIns := [], harness := (true, "60a20ea013ea18cd4b7ebd2e23d710f2f7a237f8fdd25f2e2622af0169e06f2e"), looks := false }, kinds := [], alts := [], laidByText := true, laidKinds := [.data, .pinned], laidTests := true, laidLooks := .later }
def LookupNothingCardSaid : Prop := Claim7.holds Tryz.pinned (.plain (OpenSpec.ofChange lookupNothingSpec)) lookupNothingCard

/-- THE TIED CARD OF 'ddilaw11.LookupNegative'. -/
def lookupNegativeCard : Claim7 := { stood := { row := lookupNegativeRow, standIns := [], harness := (true, "60a20ea013ea18cd4b7ebd2e23d710f2f7a237f8fdd25f2e2622af0169e06f2e"), looks := false }, kinds := [], alts := [], laidByText := true, laidKinds := [.data, .pinned], laidTests := true, laidLooks := .later }
def LookupNegativeCardSaid : Prop := Claim7.holds Tryz.pinned (.plain (OpenSpec.ofChange lookupNegativeSpec)) lookupNegativeCard

/-- THE SECOND FORM's CARD OF 'ddilaw11.LookupFinds'. -/
def lookupFindsUptoCard : Claim7 := { stood := { row := lookupFindsUptoRow, standIns := [], harness := (true, "60a20ea013ea18cd4b7ebd2e23d710f2f7a237f8fdd25f2e2622af0169e06f2e"), looks := false }, kinds := [], alts := [], laidByText := true, laidKinds := [.data, .pinned], laidTests := true, laidLooks := .later }
def LookupFindsUptoCardSaid : Prop := Claim7.holds Tryz.pinned (.plain (OpenSpec.upto lookupFindsSpec)) lookupFindsUptoCard

/-- THE SECOND FORM's CARD OF 'ddilaw11.LookupChases'. -/
def lookupChasesUptoCard : Claim7 := { stood := { row := lookupChasesUptoRow, standIns := [], harness := (true, "60a20ea013ea18cd4b7ebd2e23d710f2f7a237f8fdd25f2e2622af0169e06f2e"), looks := false }, kinds := [], alts := [], laidByText := true, laidKinds := [.data, .pinned], laidTests := true, laidLooks := .later }
def LookupChasesUptoCardSaid : Prop := Claim7.holds Tryz.pinned (.plain (OpenSpec.upto lookupChasesSpec)) lookupChasesUptoCard

/-- THE SECOND FORM's CARD OF 'ddilaw11.LookupResponds'. -/
def lookupRespondsUptoCard : Claim7 := { stood := { row := lookupRespondsUptoRow, standIns := [], harness := (true, "60a20ea013ea18cd4b7ebd2e23d710f2f7a237f8fdd25f2e2622af0169e06f2e"), looks := false }, kinds := [], alts := [], laidByText := true, laidKinds := [.data, .pinned], laidTests := true, laidLooks := .later }
def LookupRespondsUptoCardSaid : Prop := Claim7.holds Tryz.pinned (.plain (OpenSpec.upto lookupRespondsSpec)) lookupRespondsUptoCard

/-- THE SECOND FORM's CARD OF 'ddilaw11.LookupTrue'. -/
def lookupTrueUptoCard : Claim7 := { stood := { row := lookupTrueUptoRow, standIns := [], harness := (true, "60a20ea013ea18cd4b7ebd2e23d710f2f7a237f8fdd25f2e2622af0169e06f2e"), looks := false }, kinds := [], alts := [], laidByText := true, laidKinds := [.data, .pinned], laidTests := true, laidLooks := .later }
def LookupTrueUptoCardSaid : Prop := Claim7.holds Tryz.pinned (.plain (OpenSpec.upto lookupTrueSpec)) lookupTrueUptoCard

/-- THE SECOND FORM's CARD OF 'ddilaw11.LookupNothing'. -/
def lookupNothingUptoCard : Claim7 := { stood := { row := lookupNothingUptoRow, standIns := [], harness := (true, "60a20ea013ea18cd4b7ebd2e23d710f2f7a237f8fdd25f2e2622af0169e06f2e"), looks := false }, kinds := [], alts := [], laidByText := true, laidKinds := [.data, .pinned], laidTests := true, laidLooks := .later }
def LookupNothingUptoCardSaid : Prop := Claim7.holds Tryz.pinned (.plain (OpenSpec.upto lookupNothingSpec)) lookupNothingUptoCard

/-- THE SECOND FORM's CARD OF 'ddilaw11.LookupNegative'. -/
def lookupNegativeUptoCard : Claim7 := { stood := { row := lookupNegativeUptoRow, standIns := [], harness := (true, "60a20ea013ea18cd4b7ebd2e23d710f2f7a237f8fdd25f2e2622af0169e06f2e"), looks := false }, kinds := [], alts := [], laidByText := true, laidKinds := [.data, .pinned], laidTests := true, laidLooks := .later }
def LookupNegativeUptoCardSaid : Prop := Claim7.holds Tryz.pinned (.plain (OpenSpec.upto lookupNegativeSpec)) lookupNegativeUptoCard
end Rows
end Go.Proofs.YtfkfaliipkpcdaaGreatDoor
