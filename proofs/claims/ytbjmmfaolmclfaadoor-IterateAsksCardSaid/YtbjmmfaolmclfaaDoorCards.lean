/-
  DERIVED. GIVEN WITH THE SEED: THE CARDS: each row of YtbjmmfaolmclfaaDoorRows.lean that lists a variable, with what it lists TIED to the program's text (the seventh form; the later family's looks); each row that meets fmt, with fmt's text TOLD by the authors' own Lean function (tested against real Go, not proved from fmt's source: count such statements apart). THE CARD IS WHAT COUNTS. Prove the row's statement (the work); the ties are given (YtbjmmfaolmclfaaDoorTie.lean); close each card by the builder's one call (the guide's Derived/Test/ToyasCard.lean, 'card_holds'). Laid BY PROGRAM, IN A SANDBOX (cutbox-door.mjs). By AI agents, Wed Nov 11 2026. No macro, syntax, notation, axiom, sorry.
-/
import Derived.Test.YtbjmmfaolmclfaaDoorRows
import GoSem.ClaimSeven
namespace Go.Proofs.YtbjmmfaolmclfaaDoor
namespace Rows

/-- THE TIED CARD OF 'ddilaw33.IterateEnds'. -/
def iterateEndsCard : Claim7 := { stood := { row := iterateEndsRow, standIns := [], harness := (true, "1fb9bfa12873ae18803bb440efc08a306197d365acd5d30770b965988546325e"), looks := false }, kinds := [], alts := [], laidByText := true, laidKinds := [.data, .pinned], laidTests := true, laidLooks := .later }
def IterateEndsCardSaid : Prop := Claim7.holds Tryd.pinned (.plain (OpenSpec.ofChange iterateEndsSpec)) iterateEndsCard

/-- THE TIED CARD OF 'ddilaw33.IterateAsks'. -/
def iterateAsksCard : Claim7 := { stood := { row := iterateAsksRow, standIns := [], harness := (true, "1fb9bfa12873ae18803bb440efc08a306197d365acd5d30770b965988546325e"), looks := false }, kinds := [], alts := [], laidByText := true, laidKinds := [.data, .pinned], laidTests := true, laidLooks := .later }
def IterateAsksCardSaid : Prop := Claim7.holds Tryd.pinned (.plain (OpenSpec.ofChange iterateAsksSpec)) iterateAsksCard

/-- THE SECOND FORM's CARD OF 'ddilaw33.IterateEnds'. -/
def iterateEndsUptoCard : Claim7 := { stood := { row := iterateEndsUptoRow, standIns := [], harness := (true, "1fb9bfa12873ae18803bb440efc08a306197d365acd5d30770b965988546325e"), looks := false }, kinds := [], alts := [], laidByText := true, laidKinds := [.data, .pinned], laidTests := true, laidLooks := .later }
def IterateEndsUptoCardSaid : Prop := Claim7.holds Tryd.pinned (.plain (OpenSpec.upto iterateEndsSpec)) iterateEndsUptoCard

/-- THE SECOND FORM's CARD OF 'ddilaw33.IterateAsks'. -/
def iterateAsksUptoCard : Claim7 := { stood := { row := iterateAsksUptoRow, standIns := [], harness := (true, "1fb9bfa12873ae18803bb440efc08a306197d365acd5d30770b965988546325e"), looks := false }, kinds := [], alts := [], laidByText := true, laidKinds := [.data, .pinned], laidTests := true, laidLooks := .later }
def IterateAsksUptoCardSaid : Prop := Claim7.holds Tryd.pinned (.plain (OpenSpec.upto iterateAsksSpec)) iterateAsksUptoCard
end Rows
end Go.Proofs.YtbjmmfaolmclfaaDoor
