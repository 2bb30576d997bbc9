/-
  NARROWER THAN 'FOR EVERY INPUT', by the rows' own cells (each row's printed sentence says how): NsecCovers: laid · NsecAbsent: laid · NsecEmpty: laid · NsecOrder: laid · NsecChains: laid · NsecComplete: laid · NsecSound: laid.
  DERIVED. THE GIVEN ROWS OF THIS SEAT. 7 by the template 'for every input the law returns true; each argument reads behind the call as it read before'; 0 by the template 'total and deterministic' (their statements: YtfnmphjdknjkmaaGreatDoorTotals.lean).
  GIVEN WITH THE SEED: the statements are not yours to turn. If you find one false, say at which input.
  Laid BY PROGRAM, IN A SANDBOX (cutbox-rows.mjs): the forced cells as the released guide's own fill.sh prints them over the translation 777a09af50c62c5b… (all of the seat's roots in one cut). By AI agents, Wed Nov 11 2026. No macro, syntax, notation, axiom, sorry.
-/
import Derived.Test.YtfnmphjdknjkmaaGreatDoorChecked
import GoSem.PinnedTables
import GoSem.Claim
import GoSem.ClaimJoined
import GoSem.ClaimMapViews
import Derived.JoinedTies
import Derived.KernelRfl
namespace Go.Proofs.YtfnmphjdknjkmaaGreatDoor
/- THE CELL 'sum', in the pinned program and in every row, IS THE sha256 OF THE DUMP (.gsa) THAT YtfnmphjdknjkmaaGreatDoorProg.lean LOADS. Nothing in Lean hashes anything: it is a label: what it is worth is what the hold of that sum in a sandbox is worth. -/
noncomputable def Tryz.pinned : Pinned := { name := "ytfnmphjdknjkmaagreatdoor", sum := "777a09af50c62c5bc2541c05ff27da6629c738c96720c8e53f90577aed2e0e9b", checked := Tryz.checked }
namespace Rows
def none {H : Type} : Left H := { results := [], args := [] }

/- WHAT THE LISTED PACKAGE-LEVEL VARIABLES READ AS WHEN THE CALL BEGINS. Each datum BY PROGRAM (the guide's laid-datum.mjs) off the statement by which the dump's own 'gosem.cut.vars' lays the variable. In a bare row this is a premise. The card (YtfnmphjdknjkmaaGreatDoorCards.lean) ties it to the program's text. -/
def laid_unicode_utf8_acceptRanges {H : Type} : DataW H := .agg [.agg [.lit (.int .u8 128), .lit (.int .u8 191)], .agg [.lit (.int .u8 160), .lit (.int .u8 191)], .agg [.lit (.int .u8 128), .lit (.int .u8 159)], .agg [.lit (.int .u8 144), .lit (.int .u8 191)], .agg [.lit (.int .u8 128), .lit (.int .u8 143)], .agg [.lit (.int .u8 0), .lit (.int .u8 0)], .agg [.lit (.int .u8 0), .lit (.int .u8 0)], .agg [.lit (.int .u8 0), .lit (.int .u8 0)], .agg [.lit (.int .u8 0), .lit (.int .u8 0)], .agg [.lit (.int .u8 0), .lit (.int .u8 0)], .agg [.lit (.int .u8 0), .lit (.int .u8 0)], .agg [.lit (.int .u8 0), .lit (.int .u8 0)], .agg [.lit (.int .u8 0), .lit (.int .u8 0)], .agg [.lit (.int .u8 0), .lit (.int .u8 0)], .agg [.lit (.int .u8 0), .lit (.int .u8 0)], .agg [.lit (.int .u8 0), .lit (.int .u8 0)]]
/-- One of Go's own tables, pinned by name: the form's constant. -/
def laid_unicode_utf8_first : DataW Unit := Go.Pinned.utf8First

/-- 'ddilaw20.NsecCovers': WHATEVER THE INPUT: true; the input reads as it did. -/
def nsecCoversSpec : ChangeSpec := { name := "nsecCovers", fn := fun _ => fun
  | [d1, d2, d3] => { results := [.lit (.bool true)], args := [d1, d2, d3] }
  | _ => none }
def nsecCoversRow : OpenClaim := { program := "ytfnmphjdknjkmaagreatdoor", sum := "777a09af50c62c5bc2541c05ff27da6629c738c96720c8e53f90577aed2e0e9b", func := "ddi/ddilaw20.NsecCovers", spec := "nsecCovers", inPlace := ["internal/bytealg.CountString", "internal/bytealg.IndexByteString", "internal/bytealg.IndexString", "internal/bytealg.abigen_runtime_cmpstring"], unfollowed := true, recurses := true, named := ["unicode/utf8.first", "unicode/utf8.acceptRanges", "internal/bytealg.MaxLen"], apart := false, laid := [("unicode/utf8.acceptRanges", laid_unicode_utf8_acceptRanges), ("unicode/utf8.first", laid_unicode_utf8_first)] }
def NsecCoversSaid : Prop := nsecCoversRow.holds Tryz.pinned (OpenSpec.ofChange nsecCoversSpec)

/-- ITS FALSE NEIGHBOUR: 'it returns false'. Refute it at one input. -/
def nsecCoversWrong : ChangeSpec := { name := "nsecCovers", fn := fun _ => fun
  | [d1, d2, d3] => { results := [.lit (.bool false)], args := [d1, d2, d3] }
  | _ => none }
def NsecCoversWrongFalsely : Prop := nsecCoversRow.holds Tryz.pinned (OpenSpec.ofChange nsecCoversWrong)

/-- 'ddilaw20.NsecAbsent': WHATEVER THE INPUT: true; the input reads as it did. -/
def nsecAbsentSpec : ChangeSpec := { name := "nsecAbsent", fn := fun _ => fun
  | [d1, d2, d3] => { results := [.lit (.bool true)], args := [d1, d2, d3] }
  | _ => none }
def nsecAbsentRow : OpenClaim := { program := "ytfnmphjdknjkmaagreatdoor", sum := "777a09af50c62c5bc2541c05ff27da6629c738c96720c8e53f90577aed2e0e9b", func := "ddi/ddilaw20.NsecAbsent", spec := "nsecAbsent", inPlace := ["internal/bytealg.CountString", "internal/bytealg.IndexByteString", "internal/bytealg.IndexString", "internal/bytealg.abigen_runtime_cmpstring"], unfollowed := true, recurses := true, named := ["unicode/utf8.first", "unicode/utf8.acceptRanges", "internal/bytealg.MaxLen"], apart := false, laid := [("unicode/utf8.acceptRanges", laid_unicode_utf8_acceptRanges), ("unicode/utf8.first", laid_unicode_utf8_first)] }
def NsecAbsentSaid : Prop := nsecAbsentRow.holds Tryz.pinned (OpenSpec.ofChange nsecAbsentSpec)

/-- ITS FALSE NEIGHBOUR: 'it returns false'. Refute it at one input. -/
def nsecAbsentWrong : ChangeSpec := { name := "nsecAbsent", fn := fun _ => fun
  | [d1, d2, d3] => { results := [.lit (.bool false)], args := [d1, d2, d3] }
  | _ => none }
def NsecAbsentWrongFalsely : Prop := nsecAbsentRow.holds Tryz.pinned (OpenSpec.ofChange nsecAbsentWrong)

/-- 'ddilaw20.NsecEmpty': WHATEVER THE INPUT: true; the input reads as it did. -/
def nsecEmptySpec : ChangeSpec := { name := "nsecEmpty", fn := fun _ => fun
  | [d1, d2, d3] => { results := [.lit (.bool true)], args := [d1, d2, d3] }
  | _ => none }
def nsecEmptyRow : OpenClaim := { program := "ytfnmphjdknjkmaagreatdoor", sum := "777a09af50c62c5bc2541c05ff27da6629c738c96720c8e53f90577aed2e0e9b", func := "ddi/ddilaw20.NsecEmpty", spec := "nsecEmpty", inPlace := ["internal/bytealg.CountString", "internal/bytealg.IndexByteString", "internal/bytealg.IndexString", "internal/bytealg.abigen_runtime_cmpstring"], unfollowed := true, recurses := true, named := ["unicode/utf8.first", "unicode/utf8.acceptRanges", "internal/bytealg.MaxLen"], apart := false, laid := [("unicode/utf8.acceptRanges", laid_unicode_utf8_acceptRanges), ("unicode/utf8.first", laid_unicode_utf8_first)] }
def NsecEmptySaid : Prop := nsecEmptyRow.holds Tryz.pinned (OpenSpec.ofChange nsecEmptySpec)

/-- ITS FALSE NEIGHBOUR: 'it returns false'. Refute it at one input. -/
def nsecEmptyWrong : ChangeSpec := { name := "nsecEmpty", fn := fun _ => fun
  | [d1, d2, d3] => { results := [.lit (.bool false)], args := [d1, d2, d3] }
  | _ => none }
def NsecEmptyWrongFalsely : Prop := nsecEmptyRow.holds Tryz.pinned (OpenSpec.ofChange nsecEmptyWrong)

/-- 'ddilaw20.NsecOrder': WHATEVER THE INPUT: true; the input reads as it did. -/
def nsecOrderSpec : ChangeSpec := { name := "nsecOrder", fn := fun _ => fun
  | [d] => { results := [.lit (.bool true)], args := [d] }
  | _ => none }
def nsecOrderRow : OpenClaim := { program := "ytfnmphjdknjkmaagreatdoor", sum := "777a09af50c62c5bc2541c05ff27da6629c738c96720c8e53f90577aed2e0e9b", func := "ddi/ddilaw20.NsecOrder", spec := "nsecOrder", inPlace := ["internal/bytealg.CountString", "internal/bytealg.IndexByteString", "internal/bytealg.IndexString", "internal/bytealg.abigen_runtime_cmpstring"], unfollowed := true, recurses := true, named := ["unicode/utf8.first", "unicode/utf8.acceptRanges", "internal/bytealg.MaxLen"], apart := false, laid := [("unicode/utf8.acceptRanges", laid_unicode_utf8_acceptRanges), ("unicode/utf8.first", laid_unicode_utf8_first)] }
def NsecOrderSaid : Prop := nsecOrderRow.holds Tryz.pinned (OpenSpec.ofChange nsecOrderSpec)

/-- ITS FALSE NEIGHBOUR: 'it returns false'. Refute it at one input. -/
def nsecOrderWrong : ChangeSpec := { name := "nsecOrder", fn := fun _ => fun
  | [d] => { results := [.lit (.bool false)], args := [d] }
  | _ => none }
def NsecOrderWrongFalsely : Prop := nsecOrderRow.holds Tryz.pinned (OpenSpec.ofChange nsecOrderWrong)

/-- 'ddilaw20.NsecChains': WHATEVER THE INPUT: true; the input reads as it did. -/
def nsecChainsSpec : ChangeSpec := { name := "nsecChains", fn := fun _ => fun
  | [d1, d2] => { results := [.lit (.bool true)], args := [d1, d2] }
  | _ => none }
def nsecChainsRow : OpenClaim := { program := "ytfnmphjdknjkmaagreatdoor", sum := "777a09af50c62c5bc2541c05ff27da6629c738c96720c8e53f90577aed2e0e9b", func := "ddi/ddilaw20.NsecChains", spec := "nsecChains", inPlace := ["internal/bytealg.CountString", "internal/bytealg.IndexByteString", "internal/bytealg.IndexString", "internal/bytealg.abigen_runtime_cmpstring"], unfollowed := true, recurses := true, named := ["unicode/utf8.first", "unicode/utf8.acceptRanges", "internal/bytealg.MaxLen"], apart := false, laid := [("unicode/utf8.acceptRanges", laid_unicode_utf8_acceptRanges), ("unicode/utf8.first", laid_unicode_utf8_first)] }
def NsecChainsSaid : Prop := nsecChainsRow.holds Tryz.pinned (OpenSpec.ofChange nsecChainsSpec)

/-- ITS FALSE NEIGHBOUR: 'it returns false'. Refute it at one input. -/
def nsecChainsWrong : ChangeSpec := { name := "nsecChains", fn := fun _ => fun
  | [d1, d2] => { results := [.lit (.bool false)], args := [d1, d2] }
  | _ => none }
def NsecChainsWrongFalsely : Prop := nsecChainsRow.holds Tryz.pinned (OpenSpec.ofChange nsecChainsWrong)

/-- 'ddilaw20.NsecComplete': WHATEVER THE INPUT: true; the input reads as it did. -/
def nsecCompleteSpec : ChangeSpec := { name := "nsecComplete", fn := fun _ => fun
  | [d1, d2] => { results := [.lit (.bool true)], args := [d1, d2] }
  | _ => none }
def nsecCompleteRow : OpenClaim := { program := "ytfnmphjdknjkmaagreatdoor", sum := "777a09af50c62c5bc2541c05ff27da6629c738c96720c8e53f90577aed2e0e9b", func := "ddi/ddilaw20.NsecComplete", spec := "nsecComplete", inPlace := ["internal/bytealg.CountString", "internal/bytealg.IndexByteString", "internal/bytealg.IndexString", "internal/bytealg.abigen_runtime_cmpstring"], unfollowed := true, recurses := true, named := ["unicode/utf8.first", "unicode/utf8.acceptRanges", "internal/bytealg.MaxLen"], apart := false, laid := [("unicode/utf8.acceptRanges", laid_unicode_utf8_acceptRanges), ("unicode/utf8.first", laid_unicode_utf8_first)] }
def NsecCompleteSaid : Prop := nsecCompleteRow.holds Tryz.pinned (OpenSpec.ofChange nsecCompleteSpec)

/-- ITS FALSE NEIGHBOUR: 'it returns false'. Refute it at one input. -/
def nsecCompleteWrong : ChangeSpec := { name := "nsecComplete", fn := fun _ => fun
  | [d1, d2] => { results := [.lit (.bool false)], args := [d1, d2] }
  | _ => none }
def NsecCompleteWrongFalsely : Prop := nsecCompleteRow.holds Tryz.pinned (OpenSpec.ofChange nsecCompleteWrong)

/-- 'ddilaw20.NsecSound': WHATEVER THE INPUT: true; the input reads as it did. -/
def nsecSoundSpec : ChangeSpec := { name := "nsecSound", fn := fun _ => fun
  | [d1, d2, d3] => { results := [.lit (.bool true)], args := [d1, d2, d3] }
  | _ => none }
def nsecSoundRow : OpenClaim := { program := "ytfnmphjdknjkmaagreatdoor", sum := "777a09af50c62c5bc2541c05ff27da6629c738c96720c8e53f90577aed2e0e9b", func := "ddi/ddilaw20.NsecSound", spec := "nsecSound", inPlace := ["internal/bytealg.CountString", "internal/bytealg.IndexByteString", "internal/bytealg.IndexString", "internal/bytealg.abigen_runtime_cmpstring"], unfollowed := true, recurses := true, named := ["unicode/utf8.first", "unicode/utf8.acceptRanges", "internal/bytealg.MaxLen"], apart := false, laid := [("unicode/utf8.acceptRanges", laid_unicode_utf8_acceptRanges), ("unicode/utf8.first", laid_unicode_utf8_first)] }
def NsecSoundSaid : Prop := nsecSoundRow.holds Tryz.pinned (OpenSpec.ofChange nsecSoundSpec)

/-- ITS FALSE NEIGHBOUR: 'it returns false'. Refute it at one input. -/
def nsecSoundWrong : ChangeSpec := { name := "nsecSound", fn := fun _ => fun
  | [d1, d2, d3] => { results := [.lit (.bool false)], args := [d1, d2, d3] }
  | _ => none }
def NsecSoundWrongFalsely : Prop := nsecSoundRow.holds Tryz.pinned (OpenSpec.ofChange nsecSoundWrong)

/- THE SECOND FORM. 'bulk': how many values and letters a reading holds, each counted each time it is reached (what is shared counts as often as it is met; a slice's spare places count too). A statement '..UptoSaid' is the law's where the arguments, and the package variables that the reading takes, are together of bulk at most 1048576: NARROWER than '..Said'. Prove '..Said' where nothing that the law and all that it calls make is longer than what came in: it says more and counts as full. Else prove '..UptoSaid'. A law counts once. -/
mutual
def uptoBulk {H : Type} : DataW H → Nat
  | .lit (.string bytes) => bytes.length + 1
  | .lit _ => 1
  | .nil => 1
  | .ptr d => uptoBulk d + 1
  | .slice elems spare => uptoBulkAll elems + uptoBulkAll spare + 1
  | .agg parts => uptoBulkAll parts + 1
  | .iface _ d => uptoBulk d + 1
  | .map entries => uptoBulkEntries entries + 1
  | .held _ => 1
def uptoBulkAll {H : Type} : List (DataW H) → Nat
  | [] => 0
  | d :: r => uptoBulk d + uptoBulkAll r
def uptoBulkEntries {H : Type} : List (Lit × DataW H) → Nat
  | [] => 0
  | x :: r => uptoBulkEntry x + uptoBulkEntries r
def uptoBulkEntry {H : Type} : Lit × DataW H → Nat
  | (.string bytes, d) => bytes.length + uptoBulk d + 1
  | (_, d) => uptoBulk d + 1
 end
def uptoSmall : (H : Type) → List (DataW H) → Bool := fun _ ds => decide (uptoBulkAll ds ≤ 1048576)
def OpenSpec.upto (s : _root_.Go.ChangeSpec) : _root_.Go.OpenSpec := { _root_.Go.OpenSpec.ofChange s with cond := some uptoSmall }

/-- 'ddilaw20.NsecCovers', WHERE WHAT IT READS IS OF BULK AT MOST 1048576: true; the input reads as it did. -/
def nsecCoversUptoRow : OpenClaim := { program := "ytfnmphjdknjkmaagreatdoor", sum := "777a09af50c62c5bc2541c05ff27da6629c738c96720c8e53f90577aed2e0e9b", func := "ddi/ddilaw20.NsecCovers", spec := "nsecCovers", inPlace := ["internal/bytealg.CountString", "internal/bytealg.IndexByteString", "internal/bytealg.IndexString", "internal/bytealg.abigen_runtime_cmpstring"], unfollowed := true, recurses := true, named := ["unicode/utf8.first", "unicode/utf8.acceptRanges", "internal/bytealg.MaxLen"], apart := false, laid := [("unicode/utf8.acceptRanges", laid_unicode_utf8_acceptRanges), ("unicode/utf8.first", laid_unicode_utf8_first)], narrowed := true }
def NsecCoversUptoSaid : Prop := nsecCoversUptoRow.holds Tryz.pinned (OpenSpec.upto nsecCoversSpec)

/-- 'ddilaw20.NsecAbsent', WHERE WHAT IT READS IS OF BULK AT MOST 1048576: true; the input reads as it did. -/
def nsecAbsentUptoRow : OpenClaim := { program := "ytfnmphjdknjkmaagreatdoor", sum := "777a09af50c62c5bc2541c05ff27da6629c738c96720c8e53f90577aed2e0e9b", func := "ddi/ddilaw20.NsecAbsent", spec := "nsecAbsent", inPlace := ["internal/bytealg.CountString", "internal/bytealg.IndexByteString", "internal/bytealg.IndexString", "internal/bytealg.abigen_runtime_cmpstring"], unfollowed := true, recurses := true, named := ["unicode/utf8.first", "unicode/utf8.acceptRanges", "internal/bytealg.MaxLen"], apart := false, laid := [("unicode/utf8.acceptRanges", laid_unicode_utf8_acceptRanges), ("unicode/utf8.first", laid_unicode_utf8_first)], narrowed := true }
def NsecAbsentUptoSaid : Prop := nsecAbsentUptoRow.holds Tryz.pinned (OpenSpec.upto nsecAbsentSpec)

/-- 'ddilaw20.NsecEmpty', WHERE WHAT IT READS IS OF BULK AT MOST 1048576: true; the input reads as it did. -/
def nsecEmptyUptoRow : OpenClaim := { program := "ytfnmphjdknjkmaagreatdoor", sum := "777a09af50c62c5bc2541c05ff27da6629c738c96720c8e53f90577aed2e0e9b", func := "ddi/ddilaw20.NsecEmpty", spec := "nsecEmpty", inPlace := ["internal/bytealg.CountString", "internal/bytealg.IndexByteString", "internal/bytealg.IndexString", "internal/bytealg.abigen_runtime_cmpstring"], unfollowed := true, recurses := true, named := ["unicode/utf8.first", "unicode/utf8.acceptRanges", "internal/bytealg.MaxLen"], apart := false, laid := [("unicode/utf8.acceptRanges", laid_unicode_utf8_acceptRanges), ("unicode/utf8.first", laid_unicode_utf8_first)], narrowed := true }
def NsecEmptyUptoSaid : Prop := nsecEmptyUptoRow.holds Tryz.pinned (OpenSpec.upto nsecEmptySpec)

/-- 'ddilaw20.NsecOrder', WHERE WHAT IT READS IS OF BULK AT MOST 1048576: true; the input reads as it did. -/
def nsecOrderUptoRow : OpenClaim := { program := "ytfnmphjdknjkmaagreatdoor", sum := "777a09af50c62c5bc2541c05ff27da6629c738c96720c8e53f90577aed2e0e9b", func := "ddi/ddilaw20.NsecOrder", spec := "nsecOrder", inPlace := ["internal/bytealg.CountString", "internal/bytealg.IndexByteString", "internal/bytealg.IndexString", "internal/bytealg.abigen_runtime_cmpstring"], unfollowed := true, recurses := true, named := ["unicode/utf8.first", "unicode/utf8.acceptRanges", "internal/bytealg.MaxLen"], apart := false, laid := [("unicode/utf8.acceptRanges", laid_unicode_utf8_acceptRanges), ("unicode/utf8.first", laid_unicode_utf8_first)], narrowed := true }
def NsecOrderUptoSaid : Prop := nsecOrderUptoRow.holds Tryz.pinned (OpenSpec.upto nsecOrderSpec)

/-- 'ddilaw20.NsecChains', WHERE WHAT IT READS IS OF BULK AT MOST 1048576: true; the input reads as it did. -/
def nsecChainsUptoRow : OpenClaim := { program := "ytfnmphjdknjkmaagreatdoor", sum := "777a09af50c62c5bc2541c05ff27da6629c738c96720c8e53f90577aed2e0e9b", func := "ddi/ddilaw20.NsecChains", spec := "nsecChains", inPlace := ["internal/bytealg.CountString", "internal/bytealg.IndexByteString", "internal/bytealg.IndexString", "internal/bytealg.abigen_runtime_cmpstring"], unfollowed := true, recurses := true, named := ["unicode/utf8.first", "unicode/utf8.acceptRanges", "internal/bytealg.MaxLen"], apart := false, laid := [("unicode/utf8.acceptRanges", laid_unicode_utf8_acceptRanges), ("unicode/utf8.first", laid_unicode_utf8_first)], narrowed := true }
def NsecChainsUptoSaid : Prop := nsecChainsUptoRow.holds Tryz.pinned (OpenSpec.upto nsecChainsSpec)

/-- 'ddilaw20.NsecComplete', WHERE WHAT IT READS IS OF BULK AT MOST 1048576: true; the input reads as it did. -/
def nsecCompleteUptoRow : OpenClaim := { program := "ytfnmphjdknjkmaagreatdoor", sum := "777a09af50c62c5bc2541c05ff27da6629c738c96720c8e53f90577aed2e0e9b", func := "ddi/ddilaw20.NsecComplete", spec := "nsecComplete", inPlace := ["internal/bytealg.CountString", "internal/bytealg.IndexByteString", "internal/bytealg.IndexString", "internal/bytealg.abigen_runtime_cmpstring"], unfollowed := true, recurses := true, named := ["unicode/utf8.first", "unicode/utf8.acceptRanges", "internal/bytealg.MaxLen"], apart := false, laid := [("unicode/utf8.acceptRanges", laid_unicode_utf8_acceptRanges), ("unicode/utf8.first", laid_unicode_utf8_first)], narrowed := true }
def NsecCompleteUptoSaid : Prop := nsecCompleteUptoRow.holds Tryz.pinned (OpenSpec.upto nsecCompleteSpec)

/-- 'ddilaw20.NsecSound', WHERE WHAT IT READS IS OF BULK AT MOST 1048576: true; the input reads as it did. -/
def nsecSoundUptoRow : OpenClaim := { program := "ytfnmphjdknjkmaagreatdoor", sum := "777a09af50c62c5bc2541c05ff27da6629c738c96720c8e53f90577aed2e0e9b", func := "ddi/ddilaw20.NsecSound", spec := "nsecSound", inPlace := ["internal/bytealg.CountString", "internal/bytealg.IndexByteString", "internal/bytealg.IndexString", "internal/bytealg.abigen_runtime_cmpstring"], unfollowed := true, recurses := true, named := ["unicode/utf8.first", "unicode/utf8.acceptRanges", "internal/bytealg.MaxLen"], apart := false, laid := [("unicode/utf8.acceptRanges", laid_unicode_utf8_acceptRanges), ("unicode/utf8.first", laid_unicode_utf8_first)], narrowed := true }
def NsecSoundUptoSaid : Prop := nsecSoundUptoRow.holds Tryz.pinned (OpenSpec.upto nsecSoundSpec)

end Rows
end Go.Proofs.YtfnmphjdknjkmaaGreatDoor
