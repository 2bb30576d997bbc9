/-
  DERIVED. GIVEN WITH THE SEED: THE CARDS: each row of YteiaijjlmnacpaaGreatDoorRows.lean that lists a variable, with what it lists TIED to the program's text (the seventh form; the later family's looks); each row that meets fmt, with fmt's text TOLD by the authors' own Lean function (tested against real Go, not proved from fmt's source: count such statements apart). THE CARD IS WHAT COUNTS. Prove the row's statement (the work); the ties are given (YteiaijjlmnacpaaGreatDoorTie.lean); close each card by the builder's one call (the guide's Derived/Test/ToyasCard.lean, 'card_holds'). Laid BY PROGRAM, IN A SANDBOX (cutbox-door.mjs). By AI agents, Wed Nov 11 2026. No macro, syntax, notation, axiom, sorry.
-/
import Derived.Test.YteiaijjlmnacpaaGreatDoorRows
import GoSem.ClaimSeven
namespace Go.Proofs.YteiaijjlmnacpaaGreatDoor
namespace Rows

/-- THE TIED CARD OF 'ddilaw10.ZoneChecks'. -/
def zoneChecksCard : Claim7 := { stood := { row := zoneChecksRow, standIns := [], harness := (true, "372a61158a703ed715f189538eac44cf25731c5b27ed89fedcb318662475a49b"), looks := false }, kinds := [], alts := [], laidByText := true, laidKinds := [.data, .pinned], laidTests := true, laidLooks := .later }
def ZoneChecksCardSaid : Prop := Claim7.holds Tryz.pinned (.plain (OpenSpec.ofChange zoneChecksSpec)) zoneChecksCard

/-- THE TIED CARD OF 'ddilaw10.ZoneFinds'. -/
def zoneFindsCard : Claim7 := { stood := { row := zoneFindsRow, standIns := [], harness := (true, "372a61158a703ed715f189538eac44cf25731c5b27ed89fedcb318662475a49b"), looks := false }, kinds := [], alts := [], laidByText := true, laidKinds := [.data, .pinned], laidTests := true, laidLooks := .later }
def ZoneFindsCardSaid : Prop := Claim7.holds Tryz.pinned (.plain (OpenSpec.ofChange zoneFindsSpec)) zoneFindsCard

/-- THE TIED CARD OF 'ddilaw10.ZoneCuts'. -/
def zoneCutsCard : Claim7 := { stood := { row := zoneCutsRow, standIns := [], harness := (true, "372a61158a703ed715f189538eac44cf25731c5b27ed89fedcb318662475a49b"), looks := false }, kinds := [], alts := [], laidByText := true, laidKinds := [.data, .pinned], laidTests := true, laidLooks := .later }
def ZoneCutsCardSaid : Prop := Claim7.holds Tryz.pinned (.plain (OpenSpec.ofChange zoneCutsSpec)) zoneCutsCard

/-- THE TIED CARD OF 'ddilaw10.ZoneGlues'. -/
def zoneGluesCard : Claim7 := { stood := { row := zoneGluesRow, standIns := [], harness := (true, "372a61158a703ed715f189538eac44cf25731c5b27ed89fedcb318662475a49b"), looks := false }, kinds := [], alts := [], laidByText := true, laidKinds := [.data, .pinned], laidTests := true, laidLooks := .later }
def ZoneGluesCardSaid : Prop := Claim7.holds Tryz.pinned (.plain (OpenSpec.ofChange zoneGluesSpec)) zoneGluesCard

/-- THE TIED CARD OF 'ddilaw10.ZoneShuffles'. -/
def zoneShufflesCard : Claim7 := { stood := { row := zoneShufflesRow, standIns := [], harness := (true, "372a61158a703ed715f189538eac44cf25731c5b27ed89fedcb318662475a49b"), looks := false }, kinds := [], alts := [], laidByText := true, laidKinds := [.data, .pinned], laidTests := true, laidLooks := .later }
def ZoneShufflesCardSaid : Prop := Claim7.holds Tryz.pinned (.plain (OpenSpec.ofChange zoneShufflesSpec)) zoneShufflesCard

/-- THE TIED CARD OF 'ddilaw10.ZoneExists'. -/
def zoneExistsCard : Claim7 := { stood := { row := zoneExistsRow, standIns := [], harness := (true, "372a61158a703ed715f189538eac44cf25731c5b27ed89fedcb318662475a49b"), looks := false }, kinds := [], alts := [], laidByText := true, laidKinds := [.data, .pinned], laidTests := true, laidLooks := .later }
def ZoneExistsCardSaid : Prop := Claim7.holds Tryz.pinned (.plain (OpenSpec.ofChange zoneExistsSpec)) zoneExistsCard

/-- THE TIED CARD OF 'ddilaw10.ZoneSerials'. -/
def zoneSerialsCard : Claim7 := { stood := { row := zoneSerialsRow, standIns := [], harness := (true, "372a61158a703ed715f189538eac44cf25731c5b27ed89fedcb318662475a49b"), looks := false }, kinds := [], alts := [], laidByText := true, laidKinds := [.data, .pinned], laidTests := true, laidLooks := .later }
def ZoneSerialsCardSaid : Prop := Claim7.holds Tryz.pinned (.plain (OpenSpec.ofChange zoneSerialsSpec)) zoneSerialsCard

/-- THE TIED CARD OF 'ddilaw10.ZoneBreaks'. -/
def zoneBreaksCard : Claim7 := { stood := { row := zoneBreaksRow, standIns := [], harness := (true, "372a61158a703ed715f189538eac44cf25731c5b27ed89fedcb318662475a49b"), looks := false }, kinds := [], alts := [], laidByText := true, laidKinds := [.data, .pinned], laidTests := true, laidLooks := .later }
def ZoneBreaksCardSaid : Prop := Claim7.holds Tryz.pinned (.plain (OpenSpec.ofChange zoneBreaksSpec)) zoneBreaksCard

/-- THE SECOND FORM's CARD OF 'ddilaw10.ZoneChecks'. -/
def zoneChecksUptoCard : Claim7 := { stood := { row := zoneChecksUptoRow, standIns := [], harness := (true, "372a61158a703ed715f189538eac44cf25731c5b27ed89fedcb318662475a49b"), looks := false }, kinds := [], alts := [], laidByText := true, laidKinds := [.data, .pinned], laidTests := true, laidLooks := .later }
def ZoneChecksUptoCardSaid : Prop := Claim7.holds Tryz.pinned (.plain (OpenSpec.upto zoneChecksSpec)) zoneChecksUptoCard

/-- THE SECOND FORM's CARD OF 'ddilaw10.ZoneFinds'. -/
def zoneFindsUptoCard : Claim7 := { stood := { row := zoneFindsUptoRow, standIns := [], harness := (true, "372a61158a703ed715f189538eac44cf25731c5b27ed89fedcb318662475a49b"), looks := false }, kinds := [], alts := [], laidByText := true, laidKinds := [.data, .pinned], laidTests := true, laidLooks := .later }
def ZoneFindsUptoCardSaid : Prop := Claim7.holds Tryz.pinned (.plain (OpenSpec.upto zoneFindsSpec)) zoneFindsUptoCard

/-- THE SECOND FORM's CARD OF 'ddilaw10.ZoneCuts'. -/
def zoneCutsUptoCard : Claim7 := { stood := { row := zoneCutsUptoRow, standIns := [], harness := (true, "372a61158a703ed715f189538eac44cf25731c5b27ed89fedcb318662475a49b"), looks := false }, kinds := [], alts := [], laidByText := true, laidKinds := [.data, .pinned], laidTests := true, laidLooks := .later }
def ZoneCutsUptoCardSaid : Prop := Claim7.holds Tryz.pinned (.plain (OpenSpec.upto zoneCutsSpec)) zoneCutsUptoCard

/-- THE SECOND FORM's CARD OF 'ddilaw10.ZoneGlues'. -/
def zoneGluesUptoCard : Claim7 := { stood := { row := zoneGluesUptoRow, standIns := [], harness := (true, "372a61158a703ed715f189538eac44cf25731c5b27ed89fedcb318662475a49b"), looks := false }, kinds := [], alts := [], laidByText := true, laidKinds := [.data, .pinned], laidTests := true, laidLooks := .later }
def ZoneGluesUptoCardSaid : Prop := Claim7.holds Tryz.pinned (.plain (OpenSpec.upto zoneGluesSpec)) zoneGluesUptoCard

/-- THE SECOND FORM's CARD OF 'ddilaw10.ZoneShuffles'. -/
def zoneShufflesUptoCard : Claim7 := { stood := { row := zoneShufflesUptoRow, standIns := [], harness := (true, "372a61158a703ed715f189538eac44cf25731c5b27ed89fedcb318662475a49b"), looks := false }, kinds := [], alts := [], laidByText := true, laidKinds := [.data, .pinned], laidTests := true, laidLooks := .later }
def ZoneShufflesUptoCardSaid : Prop := Claim7.holds Tryz.pinned (.plain (OpenSpec.upto zoneShufflesSpec)) zoneShufflesUptoCard

/-- THE SECOND FORM's CARD OF 'ddilaw10.ZoneExists'. -/
def zoneExistsUptoCard : Claim7 := { stood := { row := zoneExistsUptoRow, standIns := [], harness := (true, "372a61158a703ed715f189538eac44cf25731c5b27ed89fedcb318662475a49b"), looks := false }, kinds := [], alts := [], laidByText := true, laidKinds := [.data, .pinned], laidTests := true, laidLooks := .later }
def ZoneExistsUptoCardSaid : Prop := Claim7.holds Tryz.pinned (.plain (OpenSpec.upto zoneExistsSpec)) zoneExistsUptoCard

/-- THE SECOND FORM's CARD OF 'ddilaw10.ZoneSerials'. -/
def zoneSerialsUptoCard : Claim7 := { stood := { row := zoneSerialsUptoRow, standIns := [], harness := (true, "372a61158a703ed715f189538eac44cf25731c5b27ed89fedcb318662475a49b"), looks := false }, kinds := [], alts := [], laidByText := true, laidKinds := [.data, .pinned], laidTests := true, laidLooks := .later }
def ZoneSerialsUptoCardSaid : Prop := Claim7.holds Tryz.pinned (.plain (OpenSpec.upto zoneSerialsSpec)) zoneSerialsUptoCard

/-- THE SECOND FORM's CARD OF 'ddilaw10.ZoneBreaks'. -/
def zoneBreaksUptoCard : Claim7 := { stood := { row := zoneBreaksUptoRow, standIns := [], harness := (true, "372a61158a703ed715f189538eac44cf25731c5b27ed89fedcb318662475a49b"), looks := false }, kinds := [], alts := [], laidByText := true, laidKinds := [.data, .pinned], laidTests := true, laidLooks := .later }
def ZoneBreaksUptoCardSaid : Prop := Claim7.holds Tryz.pinned (.plain (OpenSpec.upto zoneBreaksSpec)) zoneBreaksUptoCard
end Rows
end Go.Proofs.YteiaijjlmnacpaaGreatDoor
