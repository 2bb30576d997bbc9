/-
  DERIVED. GIVEN WITH THE SEED: THE CARDS: each row of YtkpbcoeiijddpaaDoorRows.lean that lists a variable, with what it lists TIED to the program's text (the seventh form; the later family's looks); each row that meets fmt, with fmt's text TOLD by the authors' own Lean function (tested against real Go, not proved from fmt's source: count such statements apart). THE CARD IS WHAT COUNTS. Prove the row's statement (the work); the ties are given (YtkpbcoeiijddpaaDoorTie.lean); close each card by the builder's one call (the guide's Derived/Test/ToyasCard.lean, 'card_holds'). Laid BY PROGRAM, IN A SANDBOX (cutbox-door.mjs). By AI agents, Wed Nov 11 2026. No macro, syntax, notation, axiom, sorry.
-/
import Derived.Test.YtkpbcoeiijddpaaDoorRows
import GoSem.ClaimSeven
namespace Go.Proofs.YtkpbcoeiijddpaaDoor
namespace Rows

/-- THE TIED CARD OF 'ddilaw07.RrsetKeeps'. -/
def rrsetKeepsCard : Claim7 := { stood := { row := rrsetKeepsRow, standIns := [], harness := (true, "c153469808e0c9fb03acea2cd462661edd01c4f477aafc9171bf4f80a00f466b"), looks := false }, kinds := [], alts := [], laidByText := true, laidKinds := [.data, .pinned], laidTests := true, laidLooks := .later }
def RrsetKeepsCardSaid : Prop := Claim7.holds Tryd.pinned (.plain (OpenSpec.ofChange rrsetKeepsSpec)) rrsetKeepsCard

/-- THE TIED CARD OF 'ddilaw07.RrsetTotal'. -/
def rrsetTotalCard : Claim7 := { stood := { row := rrsetTotalRow, standIns := [], harness := (true, "c153469808e0c9fb03acea2cd462661edd01c4f477aafc9171bf4f80a00f466b"), looks := false }, kinds := [], alts := [], laidByText := true, laidKinds := [.data, .pinned], laidTests := true, laidLooks := .later }
def RrsetTotalCardSaid : Prop := Claim7.holds Tryd.pinned (.plain (OpenSpec.ofChange rrsetTotalSpec)) rrsetTotalCard

/-- THE TIED CARD OF 'ddilaw07.RrsetUnpacks'. -/
def rrsetUnpacksCard : Claim7 := { stood := { row := rrsetUnpacksRow, standIns := [], harness := (true, "c153469808e0c9fb03acea2cd462661edd01c4f477aafc9171bf4f80a00f466b"), looks := false }, kinds := [], alts := [], laidByText := true, laidKinds := [.data, .pinned], laidTests := true, laidLooks := .later }
def RrsetUnpacksCardSaid : Prop := Claim7.holds Tryd.pinned (.plain (OpenSpec.ofChange rrsetUnpacksSpec)) rrsetUnpacksCard

/-- THE TIED CARD OF 'ddilaw07.RrsetAlgebra'. -/
def rrsetAlgebraCard : Claim7 := { stood := { row := rrsetAlgebraRow, standIns := [], harness := (true, "c153469808e0c9fb03acea2cd462661edd01c4f477aafc9171bf4f80a00f466b"), looks := false }, kinds := [], alts := [], laidByText := true, laidKinds := [.data, .pinned], laidTests := true, laidLooks := .later }
def RrsetAlgebraCardSaid : Prop := Claim7.holds Tryd.pinned (.plain (OpenSpec.ofChange rrsetAlgebraSpec)) rrsetAlgebraCard

/-- THE SECOND FORM's CARD OF 'ddilaw07.RrsetKeeps'. -/
def rrsetKeepsUptoCard : Claim7 := { stood := { row := rrsetKeepsUptoRow, standIns := [], harness := (true, "c153469808e0c9fb03acea2cd462661edd01c4f477aafc9171bf4f80a00f466b"), looks := false }, kinds := [], alts := [], laidByText := true, laidKinds := [.data, .pinned], laidTests := true, laidLooks := .later }
def RrsetKeepsUptoCardSaid : Prop := Claim7.holds Tryd.pinned (.plain (OpenSpec.upto rrsetKeepsSpec)) rrsetKeepsUptoCard

/-- THE SECOND FORM's CARD OF 'ddilaw07.RrsetTotal'. -/
def rrsetTotalUptoCard : Claim7 := { stood := { row := rrsetTotalUptoRow, standIns := [], harness := (true, "c153469808e0c9fb03acea2cd462661edd01c4f477aafc9171bf4f80a00f466b"), looks := false }, kinds := [], alts := [], laidByText := true, laidKinds := [.data, .pinned], laidTests := true, laidLooks := .later }
def RrsetTotalUptoCardSaid : Prop := Claim7.holds Tryd.pinned (.plain (OpenSpec.upto rrsetTotalSpec)) rrsetTotalUptoCard

/-- THE SECOND FORM's CARD OF 'ddilaw07.RrsetUnpacks'. -/
def rrsetUnpacksUptoCard : Claim7 := { stood := { row := rrsetUnpacksUptoRow, standIns := [], harness := (true, "c153469808e0c9fb03acea2cd462661edd01c4f477aafc9171bf4f80a00f466b"), looks := false }, kinds := [], alts := [], laidByText := true, laidKinds := [.data, .pinned], laidTests := true, laidLooks := .later }
def RrsetUnpacksUptoCardSaid : Prop := Claim7.holds Tryd.pinned (.plain (OpenSpec.upto rrsetUnpacksSpec)) rrsetUnpacksUptoCard

/-- THE SECOND FORM's CARD OF 'ddilaw07.RrsetAlgebra'. -/
def rrsetAlgebraUptoCard : Claim7 := { stood := { row := rrsetAlgebraUptoRow, standIns := [], harness := (true, "c153469808e0c9fb03acea2cd462661edd01c4f477aafc9171bf4f80a00f466b"), looks := false }, kinds := [], alts := [], laidByText := true, laidKinds := [.data, .pinned], laidTests := true, laidLooks := .later }
def RrsetAlgebraUptoCardSaid : Prop := Claim7.holds Tryd.pinned (.plain (OpenSpec.upto rrsetAlgebraSpec)) rrsetAlgebraUptoCard
end Rows
end Go.Proofs.YtkpbcoeiijddpaaDoor
