/-
  DERIVED. GIVEN WITH THE SEED: THE CARDS: each row of YtfnmphjdknjkmaaGreatDoorRows.lean that lists a variable, with what it lists TIED to the program's text (the seventh form; the later family's looks); each row that meets fmt, with fmt's text TOLD by the authors' own Lean function (tested against real Go, not proved from fmt's source: count such statements apart). THE CARD IS WHAT COUNTS. Prove the row's statement (the work); the ties are given (YtfnmphjdknjkmaaGreatDoorTie.lean); close each card by the builder's one call (the guide's Derived/Test/ToyasCard.lean, 'card_holds'). Laid BY PROGRAM, IN A SANDBOX (cutbox-door.mjs). By AI agents, Wed Nov 11 2026. No macro, syntax, notation, axiom, sorry.
-/
import Derived.Test.YtfnmphjdknjkmaaGreatDoorRows
import GoSem.ClaimSeven
namespace Go.Proofs.YtfnmphjdknjkmaaGreatDoor
namespace Rows

/-- THE TIED CARD OF 'ddilaw20.NsecCovers'. -/
def nsecCoversCard : Claim7 := { stood := { row := nsecCoversRow, standIns := [], harness := (true, "5719ad2ab0698bc57f57a96a12c6dcba05b4eedcff4a1b25c860030201da39c7"), looks := false }, kinds := [], alts := [], laidByText := true, laidKinds := [.data, .pinned], laidTests := true, laidLooks := .later }
def NsecCoversCardSaid : Prop := Claim7.holds Tryz.pinned (.plain (OpenSpec.ofChange nsecCoversSpec)) nsecCoversCard

/-- THE TIED CARD OF 'ddilaw20.NsecAbsent'. -/
def nsecAbsentCard : Claim7 := { stood := { row := nsecAbsentRow, standIns := [], harness := (true, "5719ad2ab0698bc57f57a96a12c6dcba05b4eedcff4a1b25c860030201da39c7"), looks := false }, kinds := [], alts := [], laidByText := true, laidKinds := [.data, .pinned], laidTests := true, laidLooks := .later }
def NsecAbsentCardSaid : Prop := Claim7.holds Tryz.pinned (.plain (OpenSpec.ofChange nsecAbsentSpec)) nsecAbsentCard

/-- THE TIED CARD OF 'ddilaw20.NsecEmpty'. -/
def nsecEmptyCard : Claim7 := { stood := { row := nsecEmptyRow, standIns := [], harness := (true, "5719ad2ab0698bc57f57a96a12c6dcba05b4eedcff4a1b25c860030201da39c7"), looks := false }, kinds := [], alts := [], laidByText := true, laidKinds := [.data, .pinned], laidTests := true, laidLooks := .later }
def NsecEmptyCardSaid : Prop := Claim7.holds Tryz.pinned (.plain (OpenSpec.ofChange nsecEmptySpec)) nsecEmptyCard

/-- THE TIED CARD OF 'ddilaw20.NsecOrder'. -/
def nsecOrderCard : Claim7 := { stood := { row := nsecOrderRow, standIns := [], harness := (true, "5719ad2ab0698bc57f57a96a12c6dcba05b4eedcff4a1b25c860030201da39c7"), looks := false }, kinds := [], alts := [], laidByText := true, laidKinds := [.data, .pinned], laidTests := true, laidLooks := .later }
def NsecOrderCardSaid : Prop := Claim7.holds Tryz.pinned (.plain (OpenSpec.ofChange nsecOrderSpec)) nsecOrderCard

/-- THE TIED CARD OF 'ddilaw20.NsecChains'. -/
def nsecChainsCard : Claim7 := { stood := { row := nsecChainsRow, standIns := [], harness := (true, "5719ad2ab0698bc57f57a96a12c6dcba05b4eedcff4a1b25c860030201da39c7"), looks := false }, kinds := [], alts := [], laidByText := true, laidKinds := [.data, .pinned], laidTests := true, laidLooks := .later }
def NsecChainsCardSaid : Prop := Claim7.holds Tryz.pinned (.plain (OpenSpec.ofChange nsecChainsSpec)) nsecChainsCard

/-- THE TIED CARD OF 'ddilaw20.NsecComplete'. -/
def nsecCompleteCard : Claim7 := { stood := { row := nsecCompleteRow, standIns := [], harness := (true, "5719ad2ab0698bc57f57a96a12c6dcba05b4eedcff4a1b25c860030201da39c7"), looks := false }, kinds := [], alts := [], laidByText := true, laidKinds := [.data, .pinned], laidTests := true, laidLooks := .later }
def NsecCompleteCardSaid : Prop := Claim7.holds Tryz.pinned (.plain (OpenSpec.ofChange nsecCompleteSpec)) nsecCompleteCard

/-- THE TIED CARD OF 'ddilaw20.NsecSound'. -/
def nsecSoundCard : Claim7 := { stood := { row := nsecSoundRow, standIns := [], harness := (true, "5719ad2ab0698bc57f57a96a12c6dcba05b4eedcff4a1b25c860030201da39c7"), looks := false }, kinds := [], alts := [], laidByText := true, laidKinds := [.data, .pinned], laidTests := true, laidLooks := .later }
def NsecSoundCardSaid : Prop := Claim7.holds Tryz.pinned (.plain (OpenSpec.ofChange nsecSoundSpec)) nsecSoundCard

/-- THE SECOND FORM's CARD OF 'ddilaw20.NsecCovers'. -/
def nsecCoversUptoCard : Claim7 := { stood := { row := nsecCoversUptoRow, standIns := [], harness := (true, "5719ad2ab0698bc57f57a96a12c6dcba05b4eedcff4a1b25c860030201da39c7"), looks := false }, kinds := [], alts := [], laidByText := true, laidKinds := [.data, .pinned], laidTests := true, laidLooks := .later }
def NsecCoversUptoCardSaid : Prop := Claim7.holds Tryz.pinned (.plain (OpenSpec.upto nsecCoversSpec)) nsecCoversUptoCard

/-- THE SECOND FORM's CARD OF 'ddilaw20.NsecAbsent'. -/
def nsecAbsentUptoCard : Claim7 := { stood := { row := nsecAbsentUptoRow, standIns := [], harness := (true, "5719ad2ab0698bc57f57a96a12c6dcba05b4eedcff4a1b25c860030201da39c7"), looks := false }, kinds := [], alts := [], laidByText := true, laidKinds := [.data, .pinned], laidTests := true, laidLooks := .later }
def NsecAbsentUptoCardSaid : Prop := Claim7.holds Tryz.pinned (.plain (OpenSpec.upto nsecAbsentSpec)) nsecAbsentUptoCard

/-- THE SECOND FORM's CARD OF 'ddilaw20.NsecEmpty'. -/
def nsecEmptyUptoCard : Claim7 := { stood := { row := nsecEmptyUptoRow, standIns := [], harness := (true, "5719ad2ab0698bc57f57a96a12c6dcba05b4eedcff4a1b25c860030201da39c7"), looks := false }, kinds := [], alts := [], laidByText := true, laidKinds := [.data, .pinned], laidTests := true, laidLooks := .later }
def NsecEmptyUptoCardSaid : Prop := Claim7.holds Tryz.pinned (.plain (OpenSpec.upto nsecEmptySpec)) nsecEmptyUptoCard

/-- THE SECOND FORM's CARD OF 'ddilaw20.NsecOrder'. -/
def nsecOrderUptoCard : Claim7 := { stood := { row := nsecOrderUptoRow, standIns := [], harness := (true, "5719ad2ab0698bc57f57a96a12c6dcba05b4eedcff4a1b25c860030201da39c7"), looks := false }, kinds := [], alts := [], laidByText := true, laidKinds := [.data, .pinned], laidTests := true, laidLooks := .later }
def NsecOrderUptoCardSaid : Prop := Claim7.holds Tryz.pinned (.plain (OpenSpec.upto nsecOrderSpec)) nsecOrderUptoCard

/-- THE SECOND FORM's CARD OF 'ddilaw20.NsecChains'. -/
def nsecChainsUptoCard : Claim7 := { stood := { row := nsecChainsUptoRow, standIns := [], harness := (true, "5719ad2ab0698bc57f57a96a12c6dcba05b4eedcff4a1b25c860030201da39c7"), looks := false }, kinds := [], alts := [], laidByText := true, laidKinds := [.data, .pinned], laidTests := true, laidLooks := .later }
def NsecChainsUptoCardSaid : Prop := Claim7.holds Tryz.pinned (.plain (OpenSpec.upto nsecChainsSpec)) nsecChainsUptoCard

/-- THE SECOND FORM's CARD OF 'ddilaw20.NsecComplete'. -/
def nsecCompleteUptoCard : Claim7 := { stood := { row := nsecCompleteUptoRow, standIns := [], harness := (true, "5719ad2ab0698bc57f57a96a12c6dcba05b4eedcff4a1b25c860030201da39c7"), looks := false }, kinds := [], alts := [], laidByText := true, laidKinds := [.data, .pinned], laidTests := true, laidLooks := .later }
def NsecCompleteUptoCardSaid : Prop := Claim7.holds Tryz.pinned (.plain (OpenSpec.upto nsecCompleteSpec)) nsecCompleteUptoCard

/-- THE SECOND FORM's CARD OF 'ddilaw20.NsecSound'. -/
def nsecSoundUptoCard : Claim7 := { stood := { row := nsecSoundUptoRow, standIns := [], harness := (true, "5719ad2ab0698bc57f57a96a12c6dcba05b4eedcff4a1b25c860030201da39c7"), looks := false }, kinds := [], alts := [], laidByText := true, laidKinds := [.data, .pinned], laidTests := true, laidLooks := .later }
def NsecSoundUptoCardSaid : Prop := Claim7.holds Tryz.pinned (.plain (OpenSpec.upto nsecSoundSpec)) nsecSoundUptoCard
end Rows
end Go.Proofs.YtfnmphjdknjkmaaGreatDoor
