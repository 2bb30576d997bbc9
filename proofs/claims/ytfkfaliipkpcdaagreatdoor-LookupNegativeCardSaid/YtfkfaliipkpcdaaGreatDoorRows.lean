/-
  NARROWER THAN 'FOR EVERY INPUT', by the rows' own cells (each row's printed sentence says how): LookupFinds: laid · LookupChases: laid · LookupResponds: laid · LookupTrue: laid · LookupNothing: laid · LookupNegative: laid.
  DERIVED. THE GIVEN ROWS OF THIS SEAT. 6 by the template 'for every input the law returns true; each argument reads behind the call as it read before'; 0 by the template 'total and deterministic' (their statements: YtfkfaliipkpcdaaGreatDoorTotals.lean).
  GIVEN WITH THE SEED: the statements are not yours to turn. If you find one false, say at which input.
  Laid BY PROGRAM, IN A SANDBOX (cutbox-rows.mjs): the forced cells as the released guide's own fill.sh prints them over the translation 58ebe5287ab787ed… (all of the seat's roots in one cut). By AI agents, Wed Nov 11 2026. No macro, syntax, notation, axiom, sorry.
-/
import Derived.Test.YtfkfaliipkpcdaaGreatDoorChecked
import GoSem.PinnedTables
import GoSem.Claim
import GoSem.ClaimJoined
import GoSem.ClaimMapViews
import Derived.JoinedTies
import Derived.KernelRfl
namespace Go.Proofs.YtfkfaliipkpcdaaGreatDoor
/- THE CELL 'sum', in the pinned program and in every row, IS THE sha256 OF THE DUMP (.gsa) THAT YtfkfaliipkpcdaaGreatDoorProg.lean LOADS. Nothing in Lean hashes anything: it is a label: what it is worth is what the hold of that sum in a sandbox is worth. -/
noncomputable def Tryz.pinned : Pinned := { name := "ytfkfaliipkpcdaagreatdoor", sum := "58ebe5287ab787ed5e18fdad79eb35325952c3d1f575107dc75c9985056aeee4", checked := Tryz.checked }
namespace Rows
def none {H : Type} : Left H := { results := [], args := [] }

/- WHAT THE LISTED PACKAGE-LEVEL VARIABLES READ AS WHEN THE CALL BEGINS. Each datum BY PROGRAM (the guide's laid-datum.mjs) off the statement by which the dump's own 'gosem.cut.vars' lays the variable. In a bare row this is a premise. The card (YtfkfaliipkpcdaaGreatDoorCards.lean) ties it to the program's text. -/
def laid_unicode_utf8_acceptRanges {H : Type} : DataW H := .agg [.agg [.lit (.int .u8 128), .lit (.int .u8 191)], .agg [.lit (.int .u8 160), .lit (.int .u8 191)], .agg [.lit (.int .u8 128), .lit (.int .u8 159)], .agg [.lit (.int .u8 144), .lit (.int .u8 191)], .agg [.lit (.int .u8 128), .lit (.int .u8 143)], .agg [.lit (.int .u8 0), .lit (.int .u8 0)], .agg [.lit (.int .u8 0), .lit (.int .u8 0)], .agg [.lit (.int .u8 0), .lit (.int .u8 0)], .agg [.lit (.int .u8 0), .lit (.int .u8 0)], .agg [.lit (.int .u8 0), .lit (.int .u8 0)], .agg [.lit (.int .u8 0), .lit (.int .u8 0)], .agg [.lit (.int .u8 0), .lit (.int .u8 0)], .agg [.lit (.int .u8 0), .lit (.int .u8 0)], .agg [.lit (.int .u8 0), .lit (.int .u8 0)], .agg [.lit (.int .u8 0), .lit (.int .u8 0)], .agg [.lit (.int .u8 0), .lit (.int .u8 0)]]
/-- One of Go's own tables, pinned by name: the form's constant. -/
def laid_unicode_utf8_first : DataW Unit := Go.Pinned.utf8First

/-- 'ddilaw11.LookupFinds': WHATEVER THE INPUT: true; the input reads as it did. -/
def lookupFindsSpec : ChangeSpec := { name := "lookupFinds", fn := fun _ => fun
  | [d1, d2] => { results := [.lit (.bool true)], args := [d1, d2] }
  | _ => none }
def lookupFindsRow : OpenClaim := { program := "ytfkfaliipkpcdaagreatdoor", sum := "58ebe5287ab787ed5e18fdad79eb35325952c3d1f575107dc75c9985056aeee4", func := "ddi/ddilaw11.LookupFinds", spec := "lookupFinds", inPlace := ["internal/bytealg.CountString", "internal/bytealg.IndexByteString", "internal/bytealg.IndexString", "internal/bytealg.abigen_runtime_cmpstring"], unfollowed := true, recurses := true, named := ["unicode/utf8.first", "unicode/utf8.acceptRanges", "internal/bytealg.MaxLen"], apart := false, laid := [("unicode/utf8.acceptRanges", laid_unicode_utf8_acceptRanges), ("unicode/utf8.first", laid_unicode_utf8_first)] }
def LookupFindsSaid : Prop := lookupFindsRow.holds Tryz.pinned (OpenSpec.ofChange lookupFindsSpec)

/-- ITS FALSE NEIGHBOUR: 'it returns false'. Refute it at one input. -/
def lookupFindsWrong : ChangeSpec := { name := "lookupFinds", fn := fun _ => fun
  | [d1, d2] => { results := [.lit (.bool false)], args := [d1, d2] }
  | _ => none }
def LookupFindsWrongFalsely : Prop := lookupFindsRow.holds Tryz.pinned (OpenSpec.ofChange lookupFindsWrong)

/-- 'ddilaw11.LookupChases': WHATEVER THE INPUT: true; the input reads as it did. -/
def lookupChasesSpec : ChangeSpec := { name := "lookupChases", fn := fun _ => fun
  | [d1, d2] => { results := [.lit (.bool true)], args := [d1, d2] }
  | _ => none }
def lookupChasesRow : OpenClaim := { program := "ytfkfaliipkpcdaagreatdoor", sum := "58ebe5287ab787ed5e18fdad79eb35325952c3d1f575107dc75c9985056aeee4", func := "ddi/ddilaw11.LookupChases", spec := "lookupChases", inPlace := ["internal/bytealg.CountString", "internal/bytealg.IndexByteString", "internal/bytealg.IndexString", "internal/bytealg.abigen_runtime_cmpstring"], unfollowed := true, recurses := true, named := ["unicode/utf8.first", "unicode/utf8.acceptRanges", "internal/bytealg.MaxLen"], apart := false, laid := [("unicode/utf8.acceptRanges", laid_unicode_utf8_acceptRanges), ("unicode/utf8.first", laid_unicode_utf8_first)] }
def LookupChasesSaid : Prop := lookupChasesRow.holds Tryz.pinned (OpenSpec.ofChange lookupChasesSpec)

/-- ITS FALSE NEIGHBOUR: 'it returns false'. Refute it at one input. -/
def lookupChasesWrong : ChangeSpec := { name := "lookupChases", fn := fun _ => fun
  | [d1, d2] => { results := [.lit (.bool false)], args := [d1, d2] }
  | _ => none }
def LookupChasesWrongFalsely : Prop := lookupChasesRow.holds Tryz.pinned (OpenSpec.ofChange lookupChasesWrong)

/-- 'ddilaw11.LookupResponds': WHATEVER THE INPUT: true; the input reads as it did. -/
def lookupRespondsSpec : ChangeSpec := { name := "lookupResponds", fn := fun _ => fun
  | [d1, d2] => { results := [.lit (.bool true)], args := [d1, d2] }
  | _ => none }
def lookupRespondsRow : OpenClaim := { program := "ytfkfaliipkpcdaagreatdoor", sum := "58ebe5287ab787ed5e18fdad79eb35325952c3d1f575107dc75c9985056aeee4", func := "ddi/ddilaw11.LookupResponds", spec := "lookupResponds", inPlace := ["internal/bytealg.CountString", "internal/bytealg.IndexByteString", "internal/bytealg.IndexString", "internal/bytealg.abigen_runtime_cmpstring"], unfollowed := true, recurses := true, named := ["unicode/utf8.first", "unicode/utf8.acceptRanges", "internal/bytealg.MaxLen"], apart := false, laid := [("unicode/utf8.acceptRanges", laid_unicode_utf8_acceptRanges), ("unicode/utf8.first", laid_unicode_utf8_first)] }
def LookupRespondsSaid : Prop := lookupRespondsRow.holds Tryz.pinned (OpenSpec.ofChange lookupRespondsSpec)

/-- ITS FALSE NEIGHBOUR: 'it returns false'. Refute it at one input. -/
def lookupRespondsWrong : ChangeSpec := { name := "lookupResponds", fn := fun _ => fun
  | [d1, d2] => { results := [.lit (.bool false)], args := [d1, d2] }
  | _ => none }
def LookupRespondsWrongFalsely : Prop := lookupRespondsRow.holds Tryz.pinned (OpenSpec.ofChange lookupRespondsWrong)

/-- 'ddilaw11.LookupTrue': WHATEVER THE INPUT: true; the input reads as it did. -/
def lookupTrueSpec : ChangeSpec := { name := "lookupTrue", fn := fun _ => fun
  | [d1, d2] => { results := [.lit (.bool true)], args := [d1, d2] }
  | _ => none }
def lookupTrueRow : OpenClaim := { program := "ytfkfaliipkpcdaagreatdoor", sum := "58ebe5287ab787ed5e18fdad79eb35325952c3d1f575107dc75c9985056aeee4", func := "ddi/ddilaw11.LookupTrue", spec := "lookupTrue", inPlace := ["internal/bytealg.CountString", "internal/bytealg.IndexByteString", "internal/bytealg.IndexString", "internal/bytealg.abigen_runtime_cmpstring"], unfollowed := true, recurses := true, named := ["unicode/utf8.first", "unicode/utf8.acceptRanges", "internal/bytealg.MaxLen"], apart := false, laid := [("unicode/utf8.acceptRanges", laid_unicode_utf8_acceptRanges), ("unicode/utf8.first", laid_unicode_utf8_first)] }
def LookupTrueSaid : Prop := lookupTrueRow.holds Tryz.pinned (OpenSpec.ofChange lookupTrueSpec)

/-- ITS FALSE NEIGHBOUR: 'it returns false'. Refute it at one input. -/
def lookupTrueWrong : ChangeSpec := { name := "lookupTrue", fn := fun _ => fun
  | [d1, d2] => { results := [.lit (.bool false)], args := [d1, d2] }
  | _ => none }
def LookupTrueWrongFalsely : Prop := lookupTrueRow.holds Tryz.pinned (OpenSpec.ofChange lookupTrueWrong)

/-- 'ddilaw11.LookupNothing': WHATEVER THE INPUT: true; the input reads as it did. -/
def lookupNothingSpec : ChangeSpec := { name := "lookupNothing", fn := fun _ => fun
  | [d1, d2] => { results := [.lit (.bool true)], args := [d1, d2] }
  | _ => none }
def lookupNothingRow : OpenClaim := { program := "ytfkfaliipkpcdaagreatdoor", sum := "58ebe5287ab787ed5e18fdad79eb35325952c3d1f575107dc75c9985056aeee4", func := "ddi/ddilaw11.LookupNothing", spec := "lookupNothing", inPlace := ["internal/bytealg.CountString", "internal/bytealg.IndexByteString", "internal/bytealg.IndexString", "internal/bytealg.abigen_runtime_cmpstring"], unfollowed := true, recurses := true, named := ["unicode/utf8.first", "unicode/utf8.acceptRanges", "internal/bytealg.MaxLen"], apart := false, laid := [("unicode/utf8.acceptRanges", laid_unicode_utf8_acceptRanges), ("unicode/utf8.first", laid_unicode_utf8_first)] }
def LookupNothingSaid : Prop := lookupNothingRow.holds Tryz.pinned (OpenSpec.ofChange lookupNothingSpec)

/-- ITS FALSE NEIGHBOUR: 'it returns false'. Refute it at one input. -/
def lookupNothingWrong : ChangeSpec := { name := "lookupNothing", fn := fun _ => fun
  | [d1, d2] => { results := [.lit (.bool false)], args := [d1, d2] }
  | _ => none }
def LookupNothingWrongFalsely : Prop := lookupNothingRow.holds Tryz.pinned (OpenSpec.ofChange lookupNothingWrong)

/-- 'ddilaw11.LookupNegative': WHATEVER THE INPUT: true; the input reads as it did. -/
def lookupNegativeSpec : ChangeSpec := { name := "lookupNegative", fn := fun _ => fun
  | [d1, d2] => { results := [.lit (.bool true)], args := [d1, d2] }
  | _ => none }
def lookupNegativeRow : OpenClaim := { program := "ytfkfaliipkpcdaagreatdoor", sum := "58ebe5287ab787ed5e18fdad79eb35325952c3d1f575107dc75c9985056aeee4", func := "ddi/ddilaw11.LookupNegative", spec := "lookupNegative", inPlace := ["internal/bytealg.CountString", "internal/bytealg.IndexByteString", "internal/bytealg.IndexString", "internal/bytealg.abigen_runtime_cmpstring"], unfollowed := true, recurses := true, named := ["unicode/utf8.first", "unicode/utf8.acceptRanges", "internal/bytealg.MaxLen"], apart := false, laid := [("unicode/utf8.acceptRanges", laid_unicode_utf8_acceptRanges), ("unicode/utf8.first", laid_unicode_utf8_first)] }
def LookupNegativeSaid : Prop := lookupNegativeRow.holds Tryz.pinned (OpenSpec.ofChange lookupNegativeSpec)

/-- ITS FALSE NEIGHBOUR: 'it returns false'. Refute it at one input. -/
def lookupNegativeWrong : ChangeSpec := { name := "lookupNegative", fn := fun _ => fun
  | [d1, d2] => { results := [.lit (.bool false)], args := [d1, d2] }
  | _ => none }
def LookupNegativeWrongFalsely : Prop := lookupNegativeRow.holds Tryz.pinned (OpenSpec.ofChange lookupNegativeWrong)

/- THE SECOND FORM. 'bulk': how many values and letters a reading holds, each counted each time it is reached (what is shared counts as often as it is met; a slice's spare places count too). A statement '..UptoSaid' is the law's where the arguments, and the package variables that the reading takes, are together of bulk at most 1048576: NARROWER than '..Said'. Prove '..Said' where nothing that the law and all that it calls make is longer than what came in: it says more and counts as full. Else prove '..UptoSaid'. A law counts once. -/
mutual
def uptoBulk {H : Type} : DataW H → Nat
  | .lit (.string bytes) => bytes.length + 1
  | .lit _ => 1
  | .nil => 1
  | .ptr d => uptoBulk d + 1
  | .slice elems spare => uptoBulkAll elems + uptoBulkAll spare + 1
  | .agg parts => uptoBulkAll parts + 1
  | .iface _ d => uptoBulk d + 1
  | .map entries => uptoBulkEntries entries + 1
  | .held _ => 1
def uptoBulkAll {H : Type} : List (DataW H) → Nat
  | [] => 0
  | d :: r => uptoBulk d + uptoBulkAll r
def uptoBulkEntries {H : Type} : List (Lit × DataW H) → Nat
  | [] => 0
  | x :: r => uptoBulkEntry x + uptoBulkEntries r
def uptoBulkEntry {H : Type} : Lit × DataW H → Nat
  | (.string bytes, d) => bytes.length + uptoBulk d + 1
  | (_, d) => uptoBulk d + 1
 end
def uptoSmall : (H : Type) → List (DataW H) → Bool := fun _ ds => decide (uptoBulkAll ds ≤ 1048576)
def OpenSpec.upto (s : _root_.Go.ChangeSpec) : _root_.Go.OpenSpec := { _root_.Go.OpenSpec.ofChange s with cond := some uptoSmall }

/-- 'ddilaw11.LookupFinds', WHERE WHAT IT READS IS OF BULK AT MOST 1048576: true; the input reads as it did. -/
def lookupFindsUptoRow : OpenClaim := { program := "ytfkfaliipkpcdaagreatdoor", sum := "58ebe5287ab787ed5e18fdad79eb35325952c3d1f575107dc75c9985056aeee4", func := "ddi/ddilaw11.LookupFinds", spec := "lookupFinds", inPlace := ["internal/bytealg.CountString", "internal/bytealg.IndexByteString", "internal/bytealg.IndexString", "internal/bytealg.abigen_runtime_cmpstring"], unfollowed := true, recurses := true, named := ["unicode/utf8.first", "unicode/utf8.acceptRanges", "internal/bytealg.MaxLen"], apart := false, laid := [("unicode/utf8.acceptRanges", laid_unicode_utf8_acceptRanges), ("unicode/utf8.first", laid_unicode_utf8_first)], narrowed := true }
def LookupFindsUptoSaid : Prop := lookupFindsUptoRow.holds Tryz.pinned (OpenSpec.upto lookupFindsSpec)

/-- 'ddilaw11.LookupChases', WHERE WHAT IT READS IS OF BULK AT MOST 1048576: true; the input reads as it did. -/
def lookupChasesUptoRow : OpenClaim := { program := "ytfkfaliipkpcdaagreatdoor", sum := "58ebe5287ab787ed5e18fdad79eb35325952c3d1f575107dc75c9985056aeee4", func := "ddi/ddilaw11.LookupChases", spec := "lookupChases", inPlace := ["internal/bytealg.CountString", "internal/bytealg.IndexByteString", "internal/bytealg.IndexString", "internal/bytealg.abigen_runtime_cmpstring"], unfollowed := true, recurses := true, named := ["unicode/utf8.first", "unicode/utf8.acceptRanges", "internal/bytealg.MaxLen"], apart := false, laid := [("unicode/utf8.acceptRanges", laid_unicode_utf8_acceptRanges), ("unicode/utf8.first", laid_unicode_utf8_first)], narrowed := true }
def LookupChasesUptoSaid : Prop := lookupChasesUptoRow.holds Tryz.pinned (OpenSpec.upto lookupChasesSpec)

/-- 'ddilaw11.LookupResponds', WHERE WHAT IT READS IS OF BULK AT MOST 1048576: true; the input reads as it did. -/
def lookupRespondsUptoRow : OpenClaim := { program := "ytfkfaliipkpcdaagreatdoor", sum := "58ebe5287ab787ed5e18fdad79eb35325952c3d1f575107dc75c9985056aeee4", func := "ddi/ddilaw11.LookupResponds", spec := "lookupResponds", inPlace := ["internal/bytealg.CountString", "internal/bytealg.IndexByteString", "internal/bytealg.IndexString", "internal/bytealg.abigen_runtime_cmpstring"], unfollowed := true, recurses := true, named := ["unicode/utf8.first", "unicode/utf8.acceptRanges", "internal/bytealg.MaxLen"], apart := false, laid := [("unicode/utf8.acceptRanges", laid_unicode_utf8_acceptRanges), ("unicode/utf8.first", laid_unicode_utf8_first)], narrowed := true }
def LookupRespondsUptoSaid : Prop := lookupRespondsUptoRow.holds Tryz.pinned (OpenSpec.upto lookupRespondsSpec)

/-- 'ddilaw11.LookupTrue', WHERE WHAT IT READS IS OF BULK AT MOST 1048576: true; the input reads as it did. -/
def lookupTrueUptoRow : OpenClaim := { program := "ytfkfaliipkpcdaagreatdoor", sum := "58ebe5287ab787ed5e18fdad79eb35325952c3d1f575107dc75c9985056aeee4", func := "ddi/ddilaw11.LookupTrue", spec := "lookupTrue", inPlace := ["internal/bytealg.CountString", "internal/bytealg.IndexByteString", "internal/bytealg.IndexString", "internal/bytealg.abigen_runtime_cmpstring"], unfollowed := true, recurses := true, named := ["unicode/utf8.first", "unicode/utf8.acceptRanges", "internal/bytealg.MaxLen"], apart := false, laid := [("unicode/utf8.acceptRanges", laid_unicode_utf8_acceptRanges), ("unicode/utf8.first", laid_unicode_utf8_first)], narrowed := true }
def LookupTrueUptoSaid : Prop := lookupTrueUptoRow.holds Tryz.pinned (OpenSpec.upto lookupTrueSpec)

/-- 'ddilaw11.LookupNothing', WHERE WHAT IT READS IS OF BULK AT MOST 1048576: true; the input reads as it did. -/
def lookupNothingUptoRow : OpenClaim := { program := "ytfkfaliipkpcdaagreatdoor", sum := "58ebe5287ab787ed5e18fdad79eb35325952c3d1f575107dc75c9985056aeee4", func := "ddi/ddilaw11.LookupNothing", spec := "lookupNothing", inPlace := ["internal/bytealg.CountString", "internal/bytealg.IndexByteString", "internal/bytealg.IndexString", "internal/bytealg.abigen_runtime_cmpstring"], unfollowed := true, recurses := true, named := ["unicode/utf8.first", "unicode/utf8.acceptRanges", "internal/bytealg.MaxLen"], apart := false, laid := [("unicode/utf8.acceptRanges", laid_unicode_utf8_acceptRanges), ("unicode/utf8.first", laid_unicode_utf8_first)], narrowed := true }
def LookupNothingUptoSaid : Prop := lookupNothingUptoRow.holds Tryz.pinned (OpenSpec.upto lookupNothingSpec)

/-- 'ddilaw11.LookupNegative', WHERE WHAT IT READS IS OF BULK AT MOST 1048576: true; the input reads as it did. -/
def lookupNegativeUptoRow : OpenClaim := { program := "ytfkfaliipkpcdaagreatdoor", sum := "58ebe5287ab787ed5e18fdad79eb35325952c3d1f575107dc75c9985056aeee4", func := "ddi/ddilaw11.LookupNegative", spec := "lookupNegative", inPlace := ["internal/bytealg.CountString", "internal/bytealg.IndexByteString", "internal/bytealg.IndexString", "internal/bytealg.abigen_runtime_cmpstring"], unfollowed := true, recurses := true, named := ["unicode/utf8.first", "unicode/utf8.acceptRanges", "internal/bytealg.MaxLen"], apart := false, laid := [("unicode/utf8.acceptRanges", laid_unicode_utf8_acceptRanges), ("unicode/utf8.first", laid_unicode_utf8_first)], narrowed := true }
def LookupNegativeUptoSaid : Prop := lookupNegativeUptoRow.holds Tryz.pinned (OpenSpec.upto lookupNegativeSpec)

end Rows
end Go.Proofs.YtfkfaliipkpcdaaGreatDoor
