/-
  NARROWER THAN 'FOR EVERY INPUT', by the rows' own cells (each row's printed sentence says how): RrsetCompares: laid · RrsetSets: laid · RrsetPairs: laid · RrsetSorts: laid.
  DERIVED. THE GIVEN ROWS OF THIS SEAT. 4 by the template 'for every input the law returns true; each argument reads behind the call as it read before'; 0 by the template 'total and deterministic' (their statements: YtkpbcoeiijddpaaGreatDoorTotals.lean).
  GIVEN WITH THE SEED: the statements are not yours to turn. If you find one false, say at which input.
  Laid BY PROGRAM, IN A SANDBOX (cutbox-rows.mjs): the forced cells as the released guide's own fill.sh prints them over the translation 6697a727264ac9ed… (all of the seat's roots in one cut). By AI agents, Wed Nov 11 2026. No macro, syntax, notation, axiom, sorry.
-/
import Derived.Test.YtkpbcoeiijddpaaGreatDoorChecked
import GoSem.PinnedTables
import GoSem.Claim
import GoSem.ClaimJoined
import GoSem.ClaimMapViews
import Derived.JoinedTies
import Derived.KernelRfl
namespace Go.Proofs.YtkpbcoeiijddpaaGreatDoor
/- THE CELL 'sum', in the pinned program and in every row, IS THE sha256 OF THE DUMP (.gsa) THAT YtkpbcoeiijddpaaGreatDoorProg.lean LOADS. Nothing in Lean hashes anything: it is a label: what it is worth is what the hold of that sum in a sandbox is worth. -/
noncomputable def Tryz.pinned : Pinned := { name := "ytkpbcoeiijddpaagreatdoor", sum := "6697a727264ac9edbc23c5aa1a64b424159db7584bac72a64ac340b276cdf149", checked := Tryz.checked }
namespace Rows
def none {H : Type} : Left H := { results := [], args := [] }

/- WHAT THE LISTED PACKAGE-LEVEL VARIABLES READ AS WHEN THE CALL BEGINS. Each datum BY PROGRAM (the guide's laid-datum.mjs) off the statement by which the dump's own 'gosem.cut.vars' lays the variable. In a bare row this is a premise. The card (YtkpbcoeiijddpaaGreatDoorCards.lean) ties it to the program's text. -/
def laid_unicode_utf8_acceptRanges {H : Type} : DataW H := .agg [.agg [.lit (.int .u8 128), .lit (.int .u8 191)], .agg [.lit (.int .u8 160), .lit (.int .u8 191)], .agg [.lit (.int .u8 128), .lit (.int .u8 159)], .agg [.lit (.int .u8 144), .lit (.int .u8 191)], .agg [.lit (.int .u8 128), .lit (.int .u8 143)], .agg [.lit (.int .u8 0), .lit (.int .u8 0)], .agg [.lit (.int .u8 0), .lit (.int .u8 0)], .agg [.lit (.int .u8 0), .lit (.int .u8 0)], .agg [.lit (.int .u8 0), .lit (.int .u8 0)], .agg [.lit (.int .u8 0), .lit (.int .u8 0)], .agg [.lit (.int .u8 0), .lit (.int .u8 0)], .agg [.lit (.int .u8 0), .lit (.int .u8 0)], .agg [.lit (.int .u8 0), .lit (.int .u8 0)], .agg [.lit (.int .u8 0), .lit (.int .u8 0)], .agg [.lit (.int .u8 0), .lit (.int .u8 0)], .agg [.lit (.int .u8 0), .lit (.int .u8 0)]]
/-- One of Go's own tables, pinned by name: the form's constant. -/
def laid_unicode_utf8_first : DataW Unit := Go.Pinned.utf8First

/-- 'ddilaw07.RrsetCompares': WHATEVER THE INPUT: true; the input reads as it did. -/
def rrsetComparesSpec : ChangeSpec := { name := "rrsetCompares", fn := fun _ => fun
  | [d1, d2] => { results := [.lit (.bool true)], args := [d1, d2] }
  | _ => none }
def rrsetComparesRow : OpenClaim := { program := "ytkpbcoeiijddpaagreatdoor", sum := "6697a727264ac9edbc23c5aa1a64b424159db7584bac72a64ac340b276cdf149", func := "ddi/ddilaw07.RrsetCompares", spec := "rrsetCompares", inPlace := ["internal/bytealg.CountString", "internal/bytealg.IndexByteString", "internal/bytealg.IndexString", "internal/bytealg.abigen_runtime_cmpstring"], unfollowed := true, recurses := true, named := ["unicode/utf8.first", "unicode/utf8.acceptRanges", "internal/bytealg.MaxLen"], apart := false, laid := [("unicode/utf8.acceptRanges", laid_unicode_utf8_acceptRanges), ("unicode/utf8.first", laid_unicode_utf8_first)] }
def RrsetComparesSaid : Prop := rrsetComparesRow.holds Tryz.pinned (OpenSpec.ofChange rrsetComparesSpec)

/-- ITS FALSE NEIGHBOUR: 'it returns false'. Refute it at one input. -/
def rrsetComparesWrong : ChangeSpec := { name := "rrsetCompares", fn := fun _ => fun
  | [d1, d2] => { results := [.lit (.bool false)], args := [d1, d2] }
  | _ => none }
def RrsetComparesWrongFalsely : Prop := rrsetComparesRow.holds Tryz.pinned (OpenSpec.ofChange rrsetComparesWrong)

/-- 'ddilaw07.RrsetSets': WHATEVER THE INPUT: true; the input reads as it did. -/
def rrsetSetsSpec : ChangeSpec := { name := "rrsetSets", fn := fun _ => fun
  | [d1, d2, d3] => { results := [.lit (.bool true)], args := [d1, d2, d3] }
  | _ => none }
def rrsetSetsRow : OpenClaim := { program := "ytkpbcoeiijddpaagreatdoor", sum := "6697a727264ac9edbc23c5aa1a64b424159db7584bac72a64ac340b276cdf149", func := "ddi/ddilaw07.RrsetSets", spec := "rrsetSets", inPlace := ["internal/bytealg.CountString", "internal/bytealg.IndexByteString", "internal/bytealg.IndexString", "internal/bytealg.abigen_runtime_cmpstring"], unfollowed := true, recurses := true, named := ["unicode/utf8.first", "unicode/utf8.acceptRanges", "internal/bytealg.MaxLen"], apart := false, laid := [("unicode/utf8.acceptRanges", laid_unicode_utf8_acceptRanges), ("unicode/utf8.first", laid_unicode_utf8_first)] }
def RrsetSetsSaid : Prop := rrsetSetsRow.holds Tryz.pinned (OpenSpec.ofChange rrsetSetsSpec)

/-- ITS FALSE NEIGHBOUR: 'it returns false'. Refute it at one input. -/
def rrsetSetsWrong : ChangeSpec := { name := "rrsetSets", fn := fun _ => fun
  | [d1, d2, d3] => { results := [.lit (.bool false)], args := [d1, d2, d3] }
  | _ => none }
def RrsetSetsWrongFalsely : Prop := rrsetSetsRow.holds Tryz.pinned (OpenSpec.ofChange rrsetSetsWrong)

/-- 'ddilaw07.RrsetPairs': WHATEVER THE INPUT: true; the input reads as it did. -/
def rrsetPairsSpec : ChangeSpec := { name := "rrsetPairs", fn := fun _ => fun
  | [d1, d2] => { results := [.lit (.bool true)], args := [d1, d2] }
  | _ => none }
def rrsetPairsRow : OpenClaim := { program := "ytkpbcoeiijddpaagreatdoor", sum := "6697a727264ac9edbc23c5aa1a64b424159db7584bac72a64ac340b276cdf149", func := "ddi/ddilaw07.RrsetPairs", spec := "rrsetPairs", inPlace := ["internal/bytealg.CountString", "internal/bytealg.IndexByteString", "internal/bytealg.IndexString", "internal/bytealg.abigen_runtime_cmpstring"], unfollowed := true, recurses := true, named := ["unicode/utf8.first", "unicode/utf8.acceptRanges", "internal/bytealg.MaxLen"], apart := false, laid := [("unicode/utf8.acceptRanges", laid_unicode_utf8_acceptRanges), ("unicode/utf8.first", laid_unicode_utf8_first)] }
def RrsetPairsSaid : Prop := rrsetPairsRow.holds Tryz.pinned (OpenSpec.ofChange rrsetPairsSpec)

/-- ITS FALSE NEIGHBOUR: 'it returns false'. Refute it at one input. -/
def rrsetPairsWrong : ChangeSpec := { name := "rrsetPairs", fn := fun _ => fun
  | [d1, d2] => { results := [.lit (.bool false)], args := [d1, d2] }
  | _ => none }
def RrsetPairsWrongFalsely : Prop := rrsetPairsRow.holds Tryz.pinned (OpenSpec.ofChange rrsetPairsWrong)

/-- 'ddilaw07.RrsetSorts': WHATEVER THE INPUT: true; the input reads as it did. -/
def rrsetSortsSpec : ChangeSpec := { name := "rrsetSorts", fn := fun _ => fun
  | [d] => { results := [.lit (.bool true)], args := [d] }
  | _ => none }
def rrsetSortsRow : OpenClaim := { program := "ytkpbcoeiijddpaagreatdoor", sum := "6697a727264ac9edbc23c5aa1a64b424159db7584bac72a64ac340b276cdf149", func := "ddi/ddilaw07.RrsetSorts", spec := "rrsetSorts", inPlace := ["internal/bytealg.CountString", "internal/bytealg.IndexByteString", "internal/bytealg.IndexString", "internal/bytealg.abigen_runtime_cmpstring"], unfollowed := true, recurses := true, named := ["unicode/utf8.first", "unicode/utf8.acceptRanges", "internal/bytealg.MaxLen"], apart := false, laid := [("unicode/utf8.acceptRanges", laid_unicode_utf8_acceptRanges), ("unicode/utf8.first", laid_unicode_utf8_first)] }
def RrsetSortsSaid : Prop := rrsetSortsRow.holds Tryz.pinned (OpenSpec.ofChange rrsetSortsSpec)

/-- ITS FALSE NEIGHBOUR: 'it returns false'. Refute it at one input. -/
def rrsetSortsWrong : ChangeSpec := { name := "rrsetSorts", fn := fun _ => fun
  | [d] => { results := [.lit (.bool false)], args := [d] }
  | _ => none }
def RrsetSortsWrongFalsely : Prop := rrsetSortsRow.holds Tryz.pinned (OpenSpec.ofChange rrsetSortsWrong)

/- THE SECOND FORM. 'bulk': how many values and letters a reading holds, each counted each time it is reached (what is shared counts as often as it is met; a slice's spare places count too). A statement '..UptoSaid' is the law's where the arguments, and the package variables that the reading takes, are together of bulk at most 1048576: NARROWER than '..Said'. Prove '..Said' where nothing that the law and all that it calls make is longer than what came in: it says more and counts as full. Else prove '..UptoSaid'. A law counts once. -/
mutual
def uptoBulk {H : Type} : DataW H → Nat
  | .lit (.string bytes) => bytes.length + 1
  | .lit _ => 1
  | .nil => 1
  | .ptr d => uptoBulk d + 1
  | .slice elems spare => uptoBulkAll elems + uptoBulkAll spare + 1
  | .agg parts => uptoBulkAll parts + 1
  | .iface _ d => uptoBulk d + 1
  | .map entries => uptoBulkEntries entries + 1
  | .held _ => 1
def uptoBulkAll {H : Type} : List (DataW H) → Nat
  | [] => 0
  | d :: r => uptoBulk d + uptoBulkAll r
def uptoBulkEntries {H : Type} : List (Lit × DataW H) → Nat
  | [] => 0
  | x :: r => uptoBulkEntry x + uptoBulkEntries r
def uptoBulkEntry {H : Type} : Lit × DataW H → Nat
  | (.string bytes, d) => bytes.length + uptoBulk d + 1
  | (_, d) => uptoBulk d + 1
 end
def uptoSmall : (H : Type) → List (DataW H) → Bool := fun _ ds => decide (uptoBulkAll ds ≤ 1048576)
def OpenSpec.upto (s : _root_.Go.ChangeSpec) : _root_.Go.OpenSpec := { _root_.Go.OpenSpec.ofChange s with cond := some uptoSmall }

/-- 'ddilaw07.RrsetCompares', WHERE WHAT IT READS IS OF BULK AT MOST 1048576: true; the input reads as it did. -/
def rrsetComparesUptoRow : OpenClaim := { program := "ytkpbcoeiijddpaagreatdoor", sum := "6697a727264ac9edbc23c5aa1a64b424159db7584bac72a64ac340b276cdf149", func := "ddi/ddilaw07.RrsetCompares", spec := "rrsetCompares", inPlace := ["internal/bytealg.CountString", "internal/bytealg.IndexByteString", "internal/bytealg.IndexString", "internal/bytealg.abigen_runtime_cmpstring"], unfollowed := true, recurses := true, named := ["unicode/utf8.first", "unicode/utf8.acceptRanges", "internal/bytealg.MaxLen"], apart := false, laid := [("unicode/utf8.acceptRanges", laid_unicode_utf8_acceptRanges), ("unicode/utf8.first", laid_unicode_utf8_first)], narrowed := true }
def RrsetComparesUptoSaid : Prop := rrsetComparesUptoRow.holds Tryz.pinned (OpenSpec.upto rrsetComparesSpec)

/-- 'ddilaw07.RrsetSets', WHERE WHAT IT READS IS OF BULK AT MOST 1048576: true; the input reads as it did. -/
def rrsetSetsUptoRow : OpenClaim := { program := "ytkpbcoeiijddpaagreatdoor", sum := "6697a727264ac9edbc23c5aa1a64b424159db7584bac72a64ac340b276cdf149", func := "ddi/ddilaw07.RrsetSets", spec := "rrsetSets", inPlace := ["internal/bytealg.CountString", "internal/bytealg.IndexByteString", "internal/bytealg.IndexString", "internal/bytealg.abigen_runtime_cmpstring"], unfollowed := true, recurses := true, named := ["unicode/utf8.first", "unicode/utf8.acceptRanges", "internal/bytealg.MaxLen"], apart := false, laid := [("unicode/utf8.acceptRanges", laid_unicode_utf8_acceptRanges), ("unicode/utf8.first", laid_unicode_utf8_first)], narrowed := true }
def RrsetSetsUptoSaid : Prop := rrsetSetsUptoRow.holds Tryz.pinned (OpenSpec.upto rrsetSetsSpec)

/-- 'ddilaw07.RrsetPairs', WHERE WHAT IT READS IS OF BULK AT MOST 1048576: true; the input reads as it did. -/
def rrsetPairsUptoRow : OpenClaim := { program := "ytkpbcoeiijddpaagreatdoor", sum := "6697a727264ac9edbc23c5aa1a64b424159db7584bac72a64ac340b276cdf149", func := "ddi/ddilaw07.RrsetPairs", spec := "rrsetPairs", inPlace := ["internal/bytealg.CountString", "internal/bytealg.IndexByteString", "internal/bytealg.IndexString", "internal/bytealg.abigen_runtime_cmpstring"], unfollowed := true, recurses := true, named := ["unicode/utf8.first", "unicode/utf8.acceptRanges", "internal/bytealg.MaxLen"], apart := false, laid := [("unicode/utf8.acceptRanges", laid_unicode_utf8_acceptRanges), ("unicode/utf8.first", laid_unicode_utf8_first)], narrowed := true }
def RrsetPairsUptoSaid : Prop := rrsetPairsUptoRow.holds Tryz.pinned (OpenSpec.upto rrsetPairsSpec)

/-- 'ddilaw07.RrsetSorts', WHERE WHAT IT READS IS OF BULK AT MOST 1048576: true; the input reads as it did. -/
def rrsetSortsUptoRow : OpenClaim := { program := "ytkpbcoeiijddpaagreatdoor", sum := "6697a727264ac9edbc23c5aa1a64b424159db7584bac72a64ac340b276cdf149", func := "ddi/ddilaw07.RrsetSorts", spec := "rrsetSorts", inPlace := ["internal/bytealg.CountString", "internal/bytealg.IndexByteString", "internal/bytealg.IndexString", "internal/bytealg.abigen_runtime_cmpstring"], unfollowed := true, recurses := true, named := ["unicode/utf8.first", "unicode/utf8.acceptRanges", "internal/bytealg.MaxLen"], apart := false, laid := [("unicode/utf8.acceptRanges", laid_unicode_utf8_acceptRanges), ("unicode/utf8.first", laid_unicode_utf8_first)], narrowed := true }
def RrsetSortsUptoSaid : Prop := rrsetSortsUptoRow.holds Tryz.pinned (OpenSpec.upto rrsetSortsSpec)

end Rows
end Go.Proofs.YtkpbcoeiijddpaaGreatDoor
