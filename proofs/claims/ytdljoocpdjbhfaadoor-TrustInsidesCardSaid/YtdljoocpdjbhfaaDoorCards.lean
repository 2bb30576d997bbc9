/-
  DERIVED. GIVEN WITH THE SEED: THE CARDS: each row of YtdljoocpdjbhfaaDoorRows.lean that lists a variable, with what it lists TIED to the program's text (the seventh form; the later family's looks); each row that meets fmt, with fmt's text TOLD by the authors' own Lean function (tested against real Go, not proved from fmt's source: count such statements apart). THE CARD IS WHAT COUNTS. Prove the row's statement (the work); the ties are given (YtdljoocpdjbhfaaDoorTie.lean); close each card by the builder's one call (the guide's Derived/Test/ToyasCard.lean, 'card_holds'). Laid BY PROGRAM, IN A SANDBOX (cutbox-door.mjs). By AI agents, Wed Nov 11 2026. No macro, syntax, notation, axiom, sorry.
-/
import Derived.Test.YtdljoocpdjbhfaaDoorRows
import GoSem.ClaimSeven
namespace Go.Proofs.YtdljoocpdjbhfaaDoor
namespace Rows

/-- THE TIED CARD OF 'ddilaw30.TrustInsides'. -/
def trustInsidesCard : Claim7 := { stood := { row := trustInsidesRow, standIns := [], harness := (true, "dd8431b27c017a3438653fec93a8bd94514dbae0b76e65b5ea4dd4ce96b02906"), looks := false }, kinds := [], alts := [], laidByText := true, laidKinds := [.data, .pinned], laidTests := true, laidLooks := .later }
def TrustInsidesCardSaid : Prop := Claim7.holds Tryd.pinned (.plain (OpenSpec.ofChange trustInsidesSpec)) trustInsidesCard

/-- THE TIED CARD OF 'ddilaw30.TrustKinds'. -/
def trustKindsCard : Claim7 := { stood := { row := trustKindsRow, standIns := [], harness := (true, "dd8431b27c017a3438653fec93a8bd94514dbae0b76e65b5ea4dd4ce96b02906"), looks := false }, kinds := [], alts := [], laidByText := true, laidKinds := [.data, .pinned], laidTests := true, laidLooks := .later }
def TrustKindsCardSaid : Prop := Claim7.holds Tryd.pinned (.plain (OpenSpec.ofChange trustKindsSpec)) trustKindsCard

/-- THE TIED CARD OF 'ddilaw30.TrustTwice'. -/
def trustTwiceCard : Claim7 := { stood := { row := trustTwiceRow, standIns := [], harness := (true, "dd8431b27c017a3438653fec93a8bd94514dbae0b76e65b5ea4dd4ce96b02906"), looks := false }, kinds := [], alts := [], laidByText := true, laidKinds := [.data, .pinned], laidTests := true, laidLooks := .later }
def TrustTwiceCardSaid : Prop := Claim7.holds Tryd.pinned (.plain (OpenSpec.ofChange trustTwiceSpec)) trustTwiceCard

/-- THE SECOND FORM's CARD OF 'ddilaw30.TrustInsides'. -/
def trustInsidesUptoCard : Claim7 := { stood := { row := trustInsidesUptoRow, standIns := [], harness := (true, "dd8431b27c017a3438653fec93a8bd94514dbae0b76e65b5ea4dd4ce96b02906"), looks := false }, kinds := [], alts := [], laidByText := true, laidKinds := [.data, .pinned], laidTests := true, laidLooks := .later }
def TrustInsidesUptoCardSaid : Prop := Claim7.holds Tryd.pinned (.plain (OpenSpec.upto trustInsidesSpec)) trustInsidesUptoCard

/-- THE SECOND FORM's CARD OF 'ddilaw30.TrustKinds'. -/
def trustKindsUptoCard : Claim7 := { stood := { row := trustKindsUptoRow, standIns := [], harness := (true, "dd8431b27c017a3438653fec93a8bd94514dbae0b76e65b5ea4dd4ce96b02906"), looks := false }, kinds := [], alts := [], laidByText := true, laidKinds := [.data, .pinned], laidTests := true, laidLooks := .later }
def TrustKindsUptoCardSaid : Prop := Claim7.holds Tryd.pinned (.plain (OpenSpec.upto trustKindsSpec)) trustKindsUptoCard

/-- THE SECOND FORM's CARD OF 'ddilaw30.TrustTwice'. -/
def trustTwiceUptoCard : Claim7 := { stood := { row := trustTwiceUptoRow, standIns := [], harness := (true, "dd8431b27c017a3438653fec93a8bd94514dbae0b76e65b5ea4dd4ce96b02906"), looks := false }, kinds := [], alts := [], laidByText := true, laidKinds := [.data, .pinned], laidTests := true, laidLooks := .later }
def TrustTwiceUptoCardSaid : Prop := Claim7.holds Tryd.pinned (.plain (OpenSpec.upto trustTwiceSpec)) trustTwiceUptoCard
end Rows
end Go.Proofs.YtdljoocpdjbhfaaDoor
