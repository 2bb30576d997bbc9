/-
  NARROWER THAN 'FOR EVERY INPUT', by the rows' own cells (each row's printed sentence says how): ZoneChecks: laid · ZoneFinds: laid · ZoneCuts: laid · ZoneGlues: laid · ZoneShuffles: laid · ZoneExists: laid · ZoneSerials: laid · ZoneBreaks: laid.
  DERIVED. THE GIVEN ROWS OF THIS SEAT. 8 by the template 'for every input the law returns true; each argument reads behind the call as it read before'; 0 by the template 'total and deterministic' (their statements: YteiaijjlmnacpaaGreatDoorTotals.lean).
  GIVEN WITH THE SEED: the statements are not yours to turn. If you find one false, say at which input.
  Laid BY PROGRAM, IN A SANDBOX (cutbox-rows.mjs): the forced cells as the released guide's own fill.sh prints them over the translation 396b2c0a56910855… (all of the seat's roots in one cut). By AI agents, Wed Nov 11 2026. No macro, syntax, notation, axiom, sorry.
-/
import Derived.Test.YteiaijjlmnacpaaGreatDoorChecked
import GoSem.PinnedTables
import GoSem.Claim
import GoSem.ClaimJoined
import GoSem.ClaimMapViews
import Derived.JoinedTies
import Derived.KernelRfl
namespace Go.Proofs.YteiaijjlmnacpaaGreatDoor
/- THE CELL 'sum', in the pinned program and in every row, IS THE sha256 OF THE DUMP (.gsa) THAT YteiaijjlmnacpaaGreatDoorProg.lean LOADS. Nothing in Lean hashes anything: it is a label: what it is worth is what the hold of that sum in a sandbox is worth. -/
noncomputable def Tryz.pinned : Pinned := { name := "yteiaijjlmnacpaagreatdoor", sum := "396b2c0a56910855d24ca20021f2cd1420f3af7bda50d2d468bd4c9b7e987c8c", checked := Tryz.checked }
namespace Rows
def none {H : Type} : Left H := { results := [], args := [] }

/- WHAT THE LISTED PACKAGE-LEVEL VARIABLES READ AS WHEN THE CALL BEGINS. Each datum BY PROGRAM (the guide's laid-datum.mjs) off the statement by which the dump's own 'gosem.cut.vars' lays the variable. In a bare row this is a premise. The card (YteiaijjlmnacpaaGreatDoorCards.lean) ties it to the program's text. -/
def laid_unicode_utf8_acceptRanges {H : Type} : DataW H := .agg [.agg [.lit (.int .u8 128), .lit (.int .u8 191)], .agg [.lit (.int .u8 160), .lit (.int .u8 191)], .agg [.lit (.int .u8 128), .lit (.int .u8 159)], .agg [.lit (.int .u8 144), .lit (.int .u8 191)], .agg [.lit (.int .u8 128), .lit (.int .u8 143)], .agg [.lit (.int .u8 0), .lit (.int .u8 0)], .agg [.lit (.int .u8 0), .lit (.int .u8 0)], .agg [.lit (.int .u8 0), .lit (.int .u8 0)], .agg [.lit (.int .u8 0), .lit (.int .u8 0)], .agg [.lit (.int .u8 0), .lit (.int .u8 0)], .agg [.lit (.int .u8 0), .lit (.int .u8 0)], .agg [.lit (.int .u8 0), .lit (.int .u8 0)], .agg [.lit (.int .u8 0), .lit (.int .u8 0)], .agg [.lit (.int .u8 0), .lit (.int .u8 0)], .agg [.lit (.int .u8 0), .lit (.int .u8 0)], .agg [.lit (.int .u8 0), .lit (.int .u8 0)]]
/-- One of Go's own tables, pinned by name: the form's constant. -/
def laid_unicode_utf8_first : DataW Unit := Go.Pinned.utf8First

/-- 'ddilaw10.ZoneChecks': WHATEVER THE INPUT: true; the input reads as it did. -/
def zoneChecksSpec : ChangeSpec := { name := "zoneChecks", fn := fun _ => fun
  | [d] => { results := [.lit (.bool true)], args := [d] }
  | _ => none }
def zoneChecksRow : OpenClaim := { program := "yteiaijjlmnacpaagreatdoor", sum := "396b2c0a56910855d24ca20021f2cd1420f3af7bda50d2d468bd4c9b7e987c8c", func := "ddi/ddilaw10.ZoneChecks", spec := "zoneChecks", inPlace := ["internal/bytealg.CountString", "internal/bytealg.IndexByteString", "internal/bytealg.IndexString", "internal/bytealg.abigen_runtime_cmpstring"], unfollowed := true, recurses := true, named := ["unicode/utf8.first", "unicode/utf8.acceptRanges", "internal/bytealg.MaxLen"], apart := false, laid := [("unicode/utf8.acceptRanges", laid_unicode_utf8_acceptRanges), ("unicode/utf8.first", laid_unicode_utf8_first)] }
def ZoneChecksSaid : Prop := zoneChecksRow.holds Tryz.pinned (OpenSpec.ofChange zoneChecksSpec)

/-- ITS FALSE NEIGHBOUR: 'it returns false'. Refute it at one input. -/
def zoneChecksWrong : ChangeSpec := { name := "zoneChecks", fn := fun _ => fun
  | [d] => { results := [.lit (.bool false)], args := [d] }
  | _ => none }
def ZoneChecksWrongFalsely : Prop := zoneChecksRow.holds Tryz.pinned (OpenSpec.ofChange zoneChecksWrong)

/-- 'ddilaw10.ZoneFinds': WHATEVER THE INPUT: true; the input reads as it did. -/
def zoneFindsSpec : ChangeSpec := { name := "zoneFinds", fn := fun _ => fun
  | [d1, d2, d3] => { results := [.lit (.bool true)], args := [d1, d2, d3] }
  | _ => none }
def zoneFindsRow : OpenClaim := { program := "yteiaijjlmnacpaagreatdoor", sum := "396b2c0a56910855d24ca20021f2cd1420f3af7bda50d2d468bd4c9b7e987c8c", func := "ddi/ddilaw10.ZoneFinds", spec := "zoneFinds", inPlace := ["internal/bytealg.CountString", "internal/bytealg.IndexByteString", "internal/bytealg.IndexString", "internal/bytealg.abigen_runtime_cmpstring"], unfollowed := true, recurses := true, named := ["unicode/utf8.first", "unicode/utf8.acceptRanges", "internal/bytealg.MaxLen"], apart := false, laid := [("unicode/utf8.acceptRanges", laid_unicode_utf8_acceptRanges), ("unicode/utf8.first", laid_unicode_utf8_first)] }
def ZoneFindsSaid : Prop := zoneFindsRow.holds Tryz.pinned (OpenSpec.ofChange zoneFindsSpec)

/-- ITS FALSE NEIGHBOUR: 'it returns false'. Refute it at one input. -/
def zoneFindsWrong : ChangeSpec := { name := "zoneFinds", fn := fun _ => fun
  | [d1, d2, d3] => { results := [.lit (.bool false)], args := [d1, d2, d3] }
  | _ => none }
def ZoneFindsWrongFalsely : Prop := zoneFindsRow.holds Tryz.pinned (OpenSpec.ofChange zoneFindsWrong)

/-- 'ddilaw10.ZoneCuts': WHATEVER THE INPUT: true; the input reads as it did. -/
def zoneCutsSpec : ChangeSpec := { name := "zoneCuts", fn := fun _ => fun
  | [d1, d2] => { results := [.lit (.bool true)], args := [d1, d2] }
  | _ => none }
def zoneCutsRow : OpenClaim := { program := "yteiaijjlmnacpaagreatdoor", sum := "396b2c0a56910855d24ca20021f2cd1420f3af7bda50d2d468bd4c9b7e987c8c", func := "ddi/ddilaw10.ZoneCuts", spec := "zoneCuts", inPlace := ["internal/bytealg.CountString", "internal/bytealg.IndexByteString", "internal/bytealg.IndexString", "internal/bytealg.abigen_runtime_cmpstring"], unfollowed := true, recurses := true, named := ["unicode/utf8.first", "unicode/utf8.acceptRanges", "internal/bytealg.MaxLen"], apart := false, laid := [("unicode/utf8.acceptRanges", laid_unicode_utf8_acceptRanges), ("unicode/utf8.first", laid_unicode_utf8_first)] }
def ZoneCutsSaid : Prop := zoneCutsRow.holds Tryz.pinned (OpenSpec.ofChange zoneCutsSpec)

/-- ITS FALSE NEIGHBOUR: 'it returns false'. Refute it at one input. -/
def zoneCutsWrong : ChangeSpec := { name := "zoneCuts", fn := fun _ => fun
  | [d1, d2] => { results := [.lit (.bool false)], args := [d1, d2] }
  | _ => none }
def ZoneCutsWrongFalsely : Prop := zoneCutsRow.holds Tryz.pinned (OpenSpec.ofChange zoneCutsWrong)

/-- 'ddilaw10.ZoneGlues': WHATEVER THE INPUT: true; the input reads as it did. -/
def zoneGluesSpec : ChangeSpec := { name := "zoneGlues", fn := fun _ => fun
  | [d1, d2] => { results := [.lit (.bool true)], args := [d1, d2] }
  | _ => none }
def zoneGluesRow : OpenClaim := { program := "yteiaijjlmnacpaagreatdoor", sum := "396b2c0a56910855d24ca20021f2cd1420f3af7bda50d2d468bd4c9b7e987c8c", func := "ddi/ddilaw10.ZoneGlues", spec := "zoneGlues", inPlace := ["internal/bytealg.CountString", "internal/bytealg.IndexByteString", "internal/bytealg.IndexString", "internal/bytealg.abigen_runtime_cmpstring"], unfollowed := true, recurses := true, named := ["unicode/utf8.first", "unicode/utf8.acceptRanges", "internal/bytealg.MaxLen"], apart := false, laid := [("unicode/utf8.acceptRanges", laid_unicode_utf8_acceptRanges), ("unicode/utf8.first", laid_unicode_utf8_first)] }
def ZoneGluesSaid : Prop := zoneGluesRow.holds Tryz.pinned (OpenSpec.ofChange zoneGluesSpec)

/-- ITS FALSE NEIGHBOUR: 'it returns false'. Refute it at one input. -/
def zoneGluesWrong : ChangeSpec := { name := "zoneGlues", fn := fun _ => fun
  | [d1, d2] => { results := [.lit (.bool false)], args := [d1, d2] }
  | _ => none }
def ZoneGluesWrongFalsely : Prop := zoneGluesRow.holds Tryz.pinned (OpenSpec.ofChange zoneGluesWrong)

/-- 'ddilaw10.ZoneShuffles': WHATEVER THE INPUT: true; the input reads as it did. -/
def zoneShufflesSpec : ChangeSpec := { name := "zoneShuffles", fn := fun _ => fun
  | [d1, d2] => { results := [.lit (.bool true)], args := [d1, d2] }
  | _ => none }
def zoneShufflesRow : OpenClaim := { program := "yteiaijjlmnacpaagreatdoor", sum := "396b2c0a56910855d24ca20021f2cd1420f3af7bda50d2d468bd4c9b7e987c8c", func := "ddi/ddilaw10.ZoneShuffles", spec := "zoneShuffles", inPlace := ["internal/bytealg.CountString", "internal/bytealg.IndexByteString", "internal/bytealg.IndexString", "internal/bytealg.abigen_runtime_cmpstring"], unfollowed := true, recurses := true, named := ["unicode/utf8.first", "unicode/utf8.acceptRanges", "internal/bytealg.MaxLen"], apart := false, laid := [("unicode/utf8.acceptRanges", laid_unicode_utf8_acceptRanges), ("unicode/utf8.first", laid_unicode_utf8_first)] }
def ZoneShufflesSaid : Prop := zoneShufflesRow.holds Tryz.pinned (OpenSpec.ofChange zoneShufflesSpec)

/-- ITS FALSE NEIGHBOUR: 'it returns false'. Refute it at one input. -/
def zoneShufflesWrong : ChangeSpec := { name := "zoneShuffles", fn := fun _ => fun
  | [d1, d2] => { results := [.lit (.bool false)], args := [d1, d2] }
  | _ => none }
def ZoneShufflesWrongFalsely : Prop := zoneShufflesRow.holds Tryz.pinned (OpenSpec.ofChange zoneShufflesWrong)

/-- 'ddilaw10.ZoneExists': WHATEVER THE INPUT: true; the input reads as it did. -/
def zoneExistsSpec : ChangeSpec := { name := "zoneExists", fn := fun _ => fun
  | [d1, d2] => { results := [.lit (.bool true)], args := [d1, d2] }
  | _ => none }
def zoneExistsRow : OpenClaim := { program := "yteiaijjlmnacpaagreatdoor", sum := "396b2c0a56910855d24ca20021f2cd1420f3af7bda50d2d468bd4c9b7e987c8c", func := "ddi/ddilaw10.ZoneExists", spec := "zoneExists", inPlace := ["internal/bytealg.CountString", "internal/bytealg.IndexByteString", "internal/bytealg.IndexString", "internal/bytealg.abigen_runtime_cmpstring"], unfollowed := true, recurses := true, named := ["unicode/utf8.first", "unicode/utf8.acceptRanges", "internal/bytealg.MaxLen"], apart := false, laid := [("unicode/utf8.acceptRanges", laid_unicode_utf8_acceptRanges), ("unicode/utf8.first", laid_unicode_utf8_first)] }
def ZoneExistsSaid : Prop := zoneExistsRow.holds Tryz.pinned (OpenSpec.ofChange zoneExistsSpec)

/-- ITS FALSE NEIGHBOUR: 'it returns false'. Refute it at one input. -/
def zoneExistsWrong : ChangeSpec := { name := "zoneExists", fn := fun _ => fun
  | [d1, d2] => { results := [.lit (.bool false)], args := [d1, d2] }
  | _ => none }
def ZoneExistsWrongFalsely : Prop := zoneExistsRow.holds Tryz.pinned (OpenSpec.ofChange zoneExistsWrong)

/-- 'ddilaw10.ZoneSerials': WHATEVER THE INPUT: true; the input reads as it did. -/
def zoneSerialsSpec : ChangeSpec := { name := "zoneSerials", fn := fun _ => fun
  | [d1, d2] => { results := [.lit (.bool true)], args := [d1, d2] }
  | _ => none }
def zoneSerialsRow : OpenClaim := { program := "yteiaijjlmnacpaagreatdoor", sum := "396b2c0a56910855d24ca20021f2cd1420f3af7bda50d2d468bd4c9b7e987c8c", func := "ddi/ddilaw10.ZoneSerials", spec := "zoneSerials", inPlace := ["internal/bytealg.CountString", "internal/bytealg.IndexByteString", "internal/bytealg.IndexString", "internal/bytealg.abigen_runtime_cmpstring"], unfollowed := true, recurses := true, named := ["unicode/utf8.first", "unicode/utf8.acceptRanges", "internal/bytealg.MaxLen"], apart := false, laid := [("unicode/utf8.acceptRanges", laid_unicode_utf8_acceptRanges), ("unicode/utf8.first", laid_unicode_utf8_first)] }
def ZoneSerialsSaid : Prop := zoneSerialsRow.holds Tryz.pinned (OpenSpec.ofChange zoneSerialsSpec)

/-- ITS FALSE NEIGHBOUR: 'it returns false'. Refute it at one input. -/
def zoneSerialsWrong : ChangeSpec := { name := "zoneSerials", fn := fun _ => fun
  | [d1, d2] => { results := [.lit (.bool false)], args := [d1, d2] }
  | _ => none }
def ZoneSerialsWrongFalsely : Prop := zoneSerialsRow.holds Tryz.pinned (OpenSpec.ofChange zoneSerialsWrong)

/-- 'ddilaw10.ZoneBreaks': WHATEVER THE INPUT: true; the input reads as it did. -/
def zoneBreaksSpec : ChangeSpec := { name := "zoneBreaks", fn := fun _ => fun
  | [d1, d2] => { results := [.lit (.bool true)], args := [d1, d2] }
  | _ => none }
def zoneBreaksRow : OpenClaim := { program := "yteiaijjlmnacpaagreatdoor", sum := "396b2c0a56910855d24ca20021f2cd1420f3af7bda50d2d468bd4c9b7e987c8c", func := "ddi/ddilaw10.ZoneBreaks", spec := "zoneBreaks", inPlace := ["internal/bytealg.CountString", "internal/bytealg.IndexByteString", "internal/bytealg.IndexString", "internal/bytealg.abigen_runtime_cmpstring"], unfollowed := true, recurses := true, named := ["unicode/utf8.first", "unicode/utf8.acceptRanges", "internal/bytealg.MaxLen"], apart := false, laid := [("unicode/utf8.acceptRanges", laid_unicode_utf8_acceptRanges), ("unicode/utf8.first", laid_unicode_utf8_first)] }
def ZoneBreaksSaid : Prop := zoneBreaksRow.holds Tryz.pinned (OpenSpec.ofChange zoneBreaksSpec)

/-- ITS FALSE NEIGHBOUR: 'it returns false'. Refute it at one input. -/
def zoneBreaksWrong : ChangeSpec := { name := "zoneBreaks", fn := fun _ => fun
  | [d1, d2] => { results := [.lit (.bool false)], args := [d1, d2] }
  | _ => none }
def ZoneBreaksWrongFalsely : Prop := zoneBreaksRow.holds Tryz.pinned (OpenSpec.ofChange zoneBreaksWrong)

/- THE SECOND FORM. 'bulk': how many values and letters a reading holds, each counted each time it is reached (what is shared counts as often as it is met; a slice's spare places count too). A statement '..UptoSaid' is the law's where the arguments, and the package variables that the reading takes, are together of bulk at most 1048576: NARROWER than '..Said'. Prove '..Said' where nothing that the law and all that it calls make is longer than what came in: it says more and counts as full. Else prove '..UptoSaid'. A law counts once. -/
mutual
def uptoBulk {H : Type} : DataW H → Nat
  | .lit (.string bytes) => bytes.length + 1
  | .lit _ => 1
  | .nil => 1
  | .ptr d => uptoBulk d + 1
  | .slice elems spare => uptoBulkAll elems + uptoBulkAll spare + 1
  | .agg parts => uptoBulkAll parts + 1
  | .iface _ d => uptoBulk d + 1
  | .map entries => uptoBulkEntries entries + 1
  | .held _ => 1
def uptoBulkAll {H : Type} : List (DataW H) → Nat
  | [] => 0
  | d :: r => uptoBulk d + uptoBulkAll r
def uptoBulkEntries {H : Type} : List (Lit × DataW H) → Nat
  | [] => 0
  | x :: r => uptoBulkEntry x + uptoBulkEntries r
def uptoBulkEntry {H : Type} : Lit × DataW H → Nat
  | (.string bytes, d) => bytes.length + uptoBulk d + 1
  | (_, d) => uptoBulk d + 1
 end
def uptoSmall : (H : Type) → List (DataW H) → Bool := fun _ ds => decide (uptoBulkAll ds ≤ 1048576)
def OpenSpec.upto (s : _root_.Go.ChangeSpec) : _root_.Go.OpenSpec := { _root_.Go.OpenSpec.ofChange s with cond := some uptoSmall }

/-- 'ddilaw10.ZoneChecks', WHERE WHAT IT READS IS OF BULK AT MOST 1048576: true; the input reads as it did. -/
def zoneChecksUptoRow : OpenClaim := { program := "yteiaijjlmnacpaagreatdoor", sum := "396b2c0a56910855d24ca20021f2cd1420f3af7bda50d2d468bd4c9b7e987c8c", func := "ddi/ddilaw10.ZoneChecks", spec := "zoneChecks", inPlace := ["internal/bytealg.CountString", "internal/bytealg.IndexByteString", "internal/bytealg.IndexString", "internal/bytealg.abigen_runtime_cmpstring"], unfollowed := true, recurses := true, named := ["unicode/utf8.first", "unicode/utf8.acceptRanges", "internal/bytealg.MaxLen"], apart := false, laid := [("unicode/utf8.acceptRanges", laid_unicode_utf8_acceptRanges), ("unicode/utf8.first", laid_unicode_utf8_first)], narrowed := true }
def ZoneChecksUptoSaid : Prop := zoneChecksUptoRow.holds Tryz.pinned (OpenSpec.upto zoneChecksSpec)

/-- 'ddilaw10.ZoneFinds', WHERE WHAT IT READS IS OF BULK AT MOST 1048576: true; the input reads as it did. -/
def zoneFindsUptoRow : OpenClaim := { program := "yteiaijjlmnacpaagreatdoor", sum := "396b2c0a56910855d24ca20021f2cd1420f3af7bda50d2d468bd4c9b7e987c8c", func := "ddi/ddilaw10.ZoneFinds", spec := "zoneFinds", inPlace := ["internal/bytealg.CountString", "internal/bytealg.IndexByteString", "internal/bytealg.IndexString", "internal/bytealg.abigen_runtime_cmpstring"], unfollowed := true, recurses := true, named := ["unicode/utf8.first", "unicode/utf8.acceptRanges", "internal/bytealg.MaxLen"], apart := false, laid := [("unicode/utf8.acceptRanges", laid_unicode_utf8_acceptRanges), ("unicode/utf8.first", laid_unicode_utf8_first)], narrowed := true }
def ZoneFindsUptoSaid : Prop := zoneFindsUptoRow.holds Tryz.pinned (OpenSpec.upto zoneFindsSpec)

/-- 'ddilaw10.ZoneCuts', WHERE WHAT IT READS IS OF BULK AT MOST 1048576: true; the input reads as it did. -/
def zoneCutsUptoRow : OpenClaim := { program := "yteiaijjlmnacpaagreatdoor", sum := "396b2c0a56910855d24ca20021f2cd1420f3af7bda50d2d468bd4c9b7e987c8c", func := "ddi/ddilaw10.ZoneCuts", spec := "zoneCuts", inPlace := ["internal/bytealg.CountString", "internal/bytealg.IndexByteString", "internal/bytealg.IndexString", "internal/bytealg.abigen_runtime_cmpstring"], unfollowed := true, recurses := true, named := ["unicode/utf8.first", "unicode/utf8.acceptRanges", "internal/bytealg.MaxLen"], apart := false, laid := [("unicode/utf8.acceptRanges", laid_unicode_utf8_acceptRanges), ("unicode/utf8.first", laid_unicode_utf8_first)], narrowed := true }
def ZoneCutsUptoSaid : Prop := zoneCutsUptoRow.holds Tryz.pinned (OpenSpec.upto zoneCutsSpec)

/-- 'ddilaw10.ZoneGlues', WHERE WHAT IT READS IS OF BULK AT MOST 1048576: true; the input reads as it did. -/
def zoneGluesUptoRow : OpenClaim := { program := "yteiaijjlmnacpaagreatdoor", sum := "396b2c0a56910855d24ca20021f2cd1420f3af7bda50d2d468bd4c9b7e987c8c", func := "ddi/ddilaw10.ZoneGlues", spec := "zoneGlues", inPlace := ["internal/bytealg.CountString", "internal/bytealg.IndexByteString", "internal/bytealg.IndexString", "internal/bytealg.abigen_runtime_cmpstring"], unfollowed := true, recurses := true, named := ["unicode/utf8.first", "unicode/utf8.acceptRanges", "internal/bytealg.MaxLen"], apart := false, laid := [("unicode/utf8.acceptRanges", laid_unicode_utf8_acceptRanges), ("unicode/utf8.first", laid_unicode_utf8_first)], narrowed := true }
def ZoneGluesUptoSaid : Prop := zoneGluesUptoRow.holds Tryz.pinned (OpenSpec.upto zoneGluesSpec)

/-- 'ddilaw10.ZoneShuffles', WHERE WHAT IT READS IS OF BULK AT MOST 1048576: true; the input reads as it did. -/
def zoneShufflesUptoRow : OpenClaim := { program := "yteiaijjlmnacpaagreatdoor", sum := "396b2c0a56910855d24ca20021f2cd1420f3af7bda50d2d468bd4c9b7e987c8c", func := "ddi/ddilaw10.ZoneShuffles", spec := "zoneShuffles", inPlace := ["internal/bytealg.CountString", "internal/bytealg.IndexByteString", "internal/bytealg.IndexString", "internal/bytealg.abigen_runtime_cmpstring"], unfollowed := true, recurses := true, named := ["unicode/utf8.first", "unicode/utf8.acceptRanges", "internal/bytealg.MaxLen"], apart := false, laid := [("unicode/utf8.acceptRanges", laid_unicode_utf8_acceptRanges), ("unicode/utf8.first", laid_unicode_utf8_first)], narrowed := true }
def ZoneShufflesUptoSaid : Prop := zoneShufflesUptoRow.holds Tryz.pinned (OpenSpec.upto zoneShufflesSpec)

/-- 'ddilaw10.ZoneExists', WHERE WHAT IT READS IS OF BULK AT MOST 1048576: true; the input reads as it did. -/
def zoneExistsUptoRow : OpenClaim := { program := "yteiaijjlmnacpaagreatdoor", sum := "396b2c0a56910855d24ca20021f2cd1420f3af7bda50d2d468bd4c9b7e987c8c", func := "ddi/ddilaw10.ZoneExists", spec := "zoneExists", inPlace := ["internal/bytealg.CountString", "internal/bytealg.IndexByteString", "internal/bytealg.IndexString", "internal/bytealg.abigen_runtime_cmpstring"], unfollowed := true, recurses := true, named := ["unicode/utf8.first", "unicode/utf8.acceptRanges", "internal/bytealg.MaxLen"], apart := false, laid := [("unicode/utf8.acceptRanges", laid_unicode_utf8_acceptRanges), ("unicode/utf8.first", laid_unicode_utf8_first)], narrowed := true }
def ZoneExistsUptoSaid : Prop := zoneExistsUptoRow.holds Tryz.pinned (OpenSpec.upto zoneExistsSpec)

/-- 'ddilaw10.ZoneSerials', WHERE WHAT IT READS IS OF BULK AT MOST 1048576: true; the input reads as it did. -/
def zoneSerialsUptoRow : OpenClaim := { program := "yteiaijjlmnacpaagreatdoor", sum := "396b2c0a56910855d24ca20021f2cd1420f3af7bda50d2d468bd4c9b7e987c8c", func := "ddi/ddilaw10.ZoneSerials", spec := "zoneSerials", inPlace := ["internal/bytealg.CountString", "internal/bytealg.IndexByteString", "internal/bytealg.IndexString", "internal/bytealg.abigen_runtime_cmpstring"], unfollowed := true, recurses := true, named := ["unicode/utf8.first", "unicode/utf8.acceptRanges", "internal/bytealg.MaxLen"], apart := false, laid := [("unicode/utf8.acceptRanges", laid_unicode_utf8_acceptRanges), ("unicode/utf8.first", laid_unicode_utf8_first)], narrowed := true }
def ZoneSerialsUptoSaid : Prop := zoneSerialsUptoRow.holds Tryz.pinned (OpenSpec.upto zoneSerialsSpec)

/-- 'ddilaw10.ZoneBreaks', WHERE WHAT IT READS IS OF BULK AT MOST 1048576: true; the input reads as it did. -/
def zoneBreaksUptoRow : OpenClaim := { program := "yteiaijjlmnacpaagreatdoor", sum := "396b2c0a56910855d24ca20021f2cd1420f3af7bda50d2d468bd4c9b7e987c8c", func := "ddi/ddilaw10.ZoneBreaks", spec := "zoneBreaks", inPlace := ["internal/bytealg.CountString", "internal/bytealg.IndexByteString", "internal/bytealg.IndexString", "internal/bytealg.abigen_runtime_cmpstring"], unfollowed := true, recurses := true, named := ["unicode/utf8.first", "unicode/utf8.acceptRanges", "internal/bytealg.MaxLen"], apart := false, laid := [("unicode/utf8.acceptRanges", laid_unicode_utf8_acceptRanges), ("unicode/utf8.first", laid_unicode_utf8_first)], narrowed := true }
def ZoneBreaksUptoSaid : Prop := zoneBreaksUptoRow.holds Tryz.pinned (OpenSpec.upto zoneBreaksSpec)

end Rows
end Go.Proofs.YteiaijjlmnacpaaGreatDoor
