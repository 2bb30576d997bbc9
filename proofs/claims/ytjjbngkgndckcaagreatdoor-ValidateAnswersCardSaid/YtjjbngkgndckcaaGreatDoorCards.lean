/-
  DERIVED. GIVEN WITH THE SEED: THE CARDS: each row of YtjjbngkgndckcaaGreatDoorRows.lean that lists a variable, with what it lists TIED to the program's text (the seventh form; the later family's looks); each row that meets fmt, with fmt's text TOLD by the authors' own Lean function (tested against real Go, not proved from fmt's source: count such statements apart). THE CARD IS WHAT COUNTS. Prove the row's statement (the work); the ties are given (YtjjbngkgndckcaaGreatDoorTie.lean); close each card by the builder's one call (the guide's Derived/Test/ToyasCard.lean, 'card_holds'). Laid BY PROGRAM, IN A SANDBOX (cutbox-door.mjs). By AI agents, Wed Nov 11 2026. No macro, syntax, notation, axiom, sorry.
-/
import Derived.Test.YtjjbngkgndckcaaGreatDoorRows
import GoSem.ClaimSeven
namespace Go.Proofs.YtjjbngkgndckcaaGreatDoor
namespace Rows

/-- THE TIED CARD OF 'ddilaw24.ValidateSets'. -/
def validateSetsCard : Claim7 := { stood := { row := validateSetsRow, standIns := [], harness := (true, "a4cbf14723a23c72c460dae69d4b5594f5d44e548d37125f38a0d1ec30cab9b9"), looks := false }, kinds := [], alts := [], laidByText := true, laidKinds := [.data, .data, .data, .data, .pinned], laidTests := true, laidLooks := .later }
def ValidateSetsCardSaid : Prop := Claim7.holds Tryz.pinned (.plain (OpenSpec.ofChange validateSetsSpec)) validateSetsCard

/-- THE TIED CARD OF 'ddilaw24.ValidateAnswers'. -/
def validateAnswersCard : Claim7 := { stood := { row := validateAnswersRow, standIns := [], harness := (true, "a4cbf14723a23c72c460dae69d4b5594f5d44e548d37125f38a0d1ec30cab9b9"), looks := false }, kinds := [], alts := [], laidByText := true, laidKinds := [.data, .data, .data, .data, .pinned], laidTests := true, laidLooks := .later }
def ValidateAnswersCardSaid : Prop := Claim7.holds Tryz.pinned (.plain (OpenSpec.ofChange validateAnswersSpec)) validateAnswersCard

/-- THE TIED CARD OF 'ddilaw24.ValidateWorst'. -/
def validateWorstCard : Claim7 := { stood := { row := validateWorstRow, standIns := [], harness := (true, "a4cbf14723a23c72c460dae69d4b5594f5d44e548d37125f38a0d1ec30cab9b9"), looks := false }, kinds := [], alts := [], laidByText := true, laidKinds := [.data, .data, .data, .data, .pinned], laidTests := true, laidLooks := .later }
def ValidateWorstCardSaid : Prop := Claim7.holds Tryz.pinned (.plain (OpenSpec.ofChange validateWorstSpec)) validateWorstCard

/-- THE TIED CARD OF 'ddilaw24.ValidateReferrals'. -/
def validateReferralsCard : Claim7 := { stood := { row := validateReferralsRow, standIns := [], harness := (true, "a4cbf14723a23c72c460dae69d4b5594f5d44e548d37125f38a0d1ec30cab9b9"), looks := false }, kinds := [], alts := [], laidByText := true, laidKinds := [.data, .data, .data, .data, .pinned], laidTests := true, laidLooks := .later }
def ValidateReferralsCardSaid : Prop := Claim7.holds Tryz.pinned (.plain (OpenSpec.ofChange validateReferralsSpec)) validateReferralsCard

/-- THE TIED CARD OF 'ddilaw24.ValidateMissing'. -/
def validateMissingCard : Claim7 := { stood := { row := validateMissingRow, standIns := [], harness := (true, "a4cbf14723a23c72c460dae69d4b5594f5d44e548d37125f38a0d1ec30cab9b9"), looks := false }, kinds := [], alts := [], laidByText := true, laidKinds := [.data, .data, .data, .data, .pinned], laidTests := true, laidLooks := .later }
def ValidateMissingCardSaid : Prop := Claim7.holds Tryz.pinned (.plain (OpenSpec.ofChange validateMissingSpec)) validateMissingCard

/-- THE TIED CARD OF 'ddilaw24.ValidateKeys'. -/
def validateKeysCard : Claim7 := { stood := { row := validateKeysRow, standIns := [], harness := (true, "a4cbf14723a23c72c460dae69d4b5594f5d44e548d37125f38a0d1ec30cab9b9"), looks := false }, kinds := [], alts := [], laidByText := true, laidKinds := [.data, .data, .data, .data, .pinned], laidTests := true, laidLooks := .later }
def ValidateKeysCardSaid : Prop := Claim7.holds Tryz.pinned (.plain (OpenSpec.ofChange validateKeysSpec)) validateKeysCard

/-- THE SECOND FORM's CARD OF 'ddilaw24.ValidateSets'. -/
def validateSetsUptoCard : Claim7 := { stood := { row := validateSetsUptoRow, standIns := [], harness := (true, "a4cbf14723a23c72c460dae69d4b5594f5d44e548d37125f38a0d1ec30cab9b9"), looks := false }, kinds := [], alts := [], laidByText := true, laidKinds := [.data, .data, .data, .data, .pinned], laidTests := true, laidLooks := .later }
def ValidateSetsUptoCardSaid : Prop := Claim7.holds Tryz.pinned (.plain (OpenSpec.upto validateSetsSpec)) validateSetsUptoCard

/-- THE SECOND FORM's CARD OF 'ddilaw24.ValidateAnswers'. -/
def validateAnswersUptoCard : Claim7 := { stood := { row := validateAnswersUptoRow, standIns := [], harness := (true, "a4cbf14723a23c72c460dae69d4b5594f5d44e548d37125f38a0d1ec30cab9b9"), looks := false }, kinds := [], alts := [], laidByText := true, laidKinds := [.data, .data, .data, .data, .pinned], laidTests := true, laidLooks := .later }
def ValidateAnswersUptoCardSaid : Prop := Claim7.holds Tryz.pinned (.plain (OpenSpec.upto validateAnswersSpec)) validateAnswersUptoCard

/-- THE SECOND FORM's CARD OF 'ddilaw24.ValidateWorst'. -/
def validateWorstUptoCard : Claim7 := { stood := { row := validateWorstUptoRow, standIns := [], harness := (true, "a4cbf14723a23c72c460dae69d4b5594f5d44e548d37125f38a0d1ec30cab9b9"), looks := false }, kinds := [], alts := [], laidByText := true, laidKinds := [.data, .data, .data, .data, .pinned], laidTests := true, laidLooks := .later }
def ValidateWorstUptoCardSaid : Prop := Claim7.holds Tryz.pinned (.plain (OpenSpec.upto validateWorstSpec)) validateWorstUptoCard

/-- THE SECOND FORM's CARD OF 'ddilaw24.ValidateReferrals'. -/
def validateReferralsUptoCard : Claim7 := { stood := { row := validateReferralsUptoRow, standIns := [], harness := (true, "a4cbf14723a23c72c460dae69d4b5594f5d44e548d37125f38a0d1ec30cab9b9"), looks := false }, kinds := [], alts := [], laidByText := true, laidKinds := [.data, .data, .data, .data, .pinned], laidTests := true, laidLooks := .later }
def ValidateReferralsUptoCardSaid : Prop := Claim7.holds Tryz.pinned (.plain (OpenSpec.upto validateReferralsSpec)) validateReferralsUptoCard

/-- THE SECOND FORM's CARD OF 'ddilaw24.ValidateMissing'. -/
def validateMissingUptoCard : Claim7 := { stood := { row := validateMissingUptoRow, standIns := [], harness := (true, "a4cbf14723a23c72c460dae69d4b5594f5d44e548d37125f38a0d1ec30cab9b9"), looks := false }, kinds := [], alts := [], laidByText := true, laidKinds := [.data, .data, .data, .data, .pinned], laidTests := true, laidLooks := .later }
def ValidateMissingUptoCardSaid : Prop := Claim7.holds Tryz.pinned (.plain (OpenSpec.upto validateMissingSpec)) validateMissingUptoCard

/-- THE SECOND FORM's CARD OF 'ddilaw24.ValidateKeys'. -/
def validateKeysUptoCard : Claim7 := { stood := { row := validateKeysUptoRow, standIns := [], harness := (true, "a4cbf14723a23c72c460dae69d4b5594f5d44e548d37125f38a0d1ec30cab9b9"), looks := false }, kinds := [], alts := [], laidByText := true, laidKinds := [.data, .data, .data, .data, .pinned], laidTests := true, laidLooks := .later }
def ValidateKeysUptoCardSaid : Prop := Claim7.holds Tryz.pinned (.plain (OpenSpec.upto validateKeysSpec)) validateKeysUptoCard
end Rows
end Go.Proofs.YtjjbngkgndckcaaGreatDoor
