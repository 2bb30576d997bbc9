/-
  NARROWER THAN 'FOR EVERY INPUT', by the rows' own cells (each row's printed sentence says how): ProveResponds: laid · ProvePlain: laid · ProveSigned: laid · ProveNegative: laid.
  DERIVED. THE GIVEN ROWS OF THIS SEAT. 4 by the template 'for every input the law returns true; each argument reads behind the call as it read before'; 0 by the template 'total and deterministic' (their statements: YtjakmljndnkplaaGreatDoorTotals.lean).
  GIVEN WITH THE SEED: the statements are not yours to turn. If you find one false, say at which input.
  Laid BY PROGRAM, IN A SANDBOX (cutbox-rows.mjs): the forced cells as the released guide's own fill.sh prints them over the translation f06c5543e97f6d27… (all of the seat's roots in one cut). By AI agents, Wed Nov 11 2026. No macro, syntax, notation, axiom, sorry.
-/
import Derived.Test.YtjakmljndnkplaaGreatDoorChecked
import GoSem.PinnedTables
import GoSem.Claim
import GoSem.ClaimJoined
import GoSem.ClaimMapViews
import Derived.JoinedTies
import Derived.KernelRfl
namespace Go.Proofs.YtjakmljndnkplaaGreatDoor
/- THE CELL 'sum', in the pinned program and in every row, IS THE sha256 OF THE DUMP (.gsa) THAT YtjakmljndnkplaaGreatDoorProg.lean LOADS. Nothing in Lean hashes anything: it is a label: what it is worth is what the hold of that sum in a sandbox is worth. -/
noncomputable def Tryz.pinned : Pinned := { name := "ytjakmljndnkplaagreatdoor", sum := "f06c5543e97f6d279a7be817bc006713c255a9aa61068e52f1b3d16d23ac8459", checked := Tryz.checked }
namespace Rows
def none {H : Type} : Left H := { results := [], args := [] }

/- WHAT THE LISTED PACKAGE-LEVEL VARIABLES READ AS WHEN THE CALL BEGINS. Each datum BY PROGRAM (the guide's laid-datum.mjs) off the statement by which the dump's own 'gosem.cut.vars' lays the variable. In a bare row this is a premise. The card (YtjakmljndnkplaaGreatDoorCards.lean) ties it to the program's text. -/
def laid_unicode_utf8_acceptRanges {H : Type} : DataW H := .agg [.agg [.lit (.int .u8 128), .lit (.int .u8 191)], .agg [.lit (.int .u8 160), .lit (.int .u8 191)], .agg [.lit (.int .u8 128), .lit (.int .u8 159)], .agg [.lit (.int .u8 144), .lit (.int .u8 191)], .agg [.lit (.int .u8 128), .lit (.int .u8 143)], .agg [.lit (.int .u8 0), .lit (.int .u8 0)], .agg [.lit (.int .u8 0), .lit (.int .u8 0)], .agg [.lit (.int .u8 0), .lit (.int .u8 0)], .agg [.lit (.int .u8 0), .lit (.int .u8 0)], .agg [.lit (.int .u8 0), .lit (.int .u8 0)], .agg [.lit (.int .u8 0), .lit (.int .u8 0)], .agg [.lit (.int .u8 0), .lit (.int .u8 0)], .agg [.lit (.int .u8 0), .lit (.int .u8 0)], .agg [.lit (.int .u8 0), .lit (.int .u8 0)], .agg [.lit (.int .u8 0), .lit (.int .u8 0)], .agg [.lit (.int .u8 0), .lit (.int .u8 0)]]
/-- One of Go's own tables, pinned by name: the form's constant. -/
def laid_unicode_utf8_first : DataW Unit := Go.Pinned.utf8First

/-- 'ddilaw23.ProveResponds': WHATEVER THE INPUT: true; the input reads as it did. -/
def proveRespondsSpec : ChangeSpec := { name := "proveResponds", fn := fun _ => fun
  | [d1, d2] => { results := [.lit (.bool true)], args := [d1, d2] }
  | _ => none }
def proveRespondsRow : OpenClaim := { program := "ytjakmljndnkplaagreatdoor", sum := "f06c5543e97f6d279a7be817bc006713c255a9aa61068e52f1b3d16d23ac8459", func := "ddi/ddilaw23.ProveResponds", spec := "proveResponds", inPlace := ["internal/bytealg.CountString", "internal/bytealg.IndexByteString", "internal/bytealg.IndexString", "internal/bytealg.abigen_runtime_cmpstring"], unfollowed := true, recurses := true, named := ["unicode/utf8.first", "unicode/utf8.acceptRanges", "internal/bytealg.MaxLen"], apart := false, laid := [("unicode/utf8.acceptRanges", laid_unicode_utf8_acceptRanges), ("unicode/utf8.first", laid_unicode_utf8_first)] }
def ProveRespondsSaid : Prop := proveRespondsRow.holds Tryz.pinned (OpenSpec.ofChange proveRespondsSpec)

/-- ITS FALSE NEIGHBOUR: 'it returns false'. Refute it at one input. -/
def proveRespondsWrong : ChangeSpec := { name := "proveResponds", fn := fun _ => fun
  | [d1, d2] => { results := [.lit (.bool false)], args := [d1, d2] }
  | _ => none }
def ProveRespondsWrongFalsely : Prop := proveRespondsRow.holds Tryz.pinned (OpenSpec.ofChange proveRespondsWrong)

/-- 'ddilaw23.ProvePlain': WHATEVER THE INPUT: true; the input reads as it did. -/
def provePlainSpec : ChangeSpec := { name := "provePlain", fn := fun _ => fun
  | [d1, d2] => { results := [.lit (.bool true)], args := [d1, d2] }
  | _ => none }
def provePlainRow : OpenClaim := { program := "ytjakmljndnkplaagreatdoor", sum := "f06c5543e97f6d279a7be817bc006713c255a9aa61068e52f1b3d16d23ac8459", func := "ddi/ddilaw23.ProvePlain", spec := "provePlain", inPlace := ["internal/bytealg.CountString", "internal/bytealg.IndexByteString", "internal/bytealg.IndexString", "internal/bytealg.abigen_runtime_cmpstring"], unfollowed := true, recurses := true, named := ["unicode/utf8.first", "unicode/utf8.acceptRanges", "internal/bytealg.MaxLen"], apart := false, laid := [("unicode/utf8.acceptRanges", laid_unicode_utf8_acceptRanges), ("unicode/utf8.first", laid_unicode_utf8_first)] }
def ProvePlainSaid : Prop := provePlainRow.holds Tryz.pinned (OpenSpec.ofChange provePlainSpec)

/-- ITS FALSE NEIGHBOUR: 'it returns false'. Refute it at one input. -/
def provePlainWrong : ChangeSpec := { name := "provePlain", fn := fun _ => fun
  | [d1, d2] => { results := [.lit (.bool false)], args := [d1, d2] }
  | _ => none }
def ProvePlainWrongFalsely : Prop := provePlainRow.holds Tryz.pinned (OpenSpec.ofChange provePlainWrong)

/-- 'ddilaw23.ProveSigned': WHATEVER THE INPUT: true; the input reads as it did. -/
def proveSignedSpec : ChangeSpec := { name := "proveSigned", fn := fun _ => fun
  | [d1, d2] => { results := [.lit (.bool true)], args := [d1, d2] }
  | _ => none }
def proveSignedRow : OpenClaim := { program := "ytjakmljndnkplaagreatdoor", sum := "f06c5543e97f6d279a7be817bc006713c255a9aa61068e52f1b3d16d23ac8459", func := "ddi/ddilaw23.ProveSigned", spec := "proveSigned", inPlace := ["internal/bytealg.CountString", "internal/bytealg.IndexByteString", "internal/bytealg.IndexString", "internal/bytealg.abigen_runtime_cmpstring"], unfollowed := true, recurses := true, named := ["unicode/utf8.first", "unicode/utf8.acceptRanges", "internal/bytealg.MaxLen"], apart := false, laid := [("unicode/utf8.acceptRanges", laid_unicode_utf8_acceptRanges), ("unicode/utf8.first", laid_unicode_utf8_first)] }
def ProveSignedSaid : Prop := proveSignedRow.holds Tryz.pinned (OpenSpec.ofChange proveSignedSpec)

/-- ITS FALSE NEIGHBOUR: 'it returns false'. Refute it at one input. -/
def proveSignedWrong : ChangeSpec := { name := "proveSigned", fn := fun _ => fun
  | [d1, d2] => { results := [.lit (.bool false)], args := [d1, d2] }
  | _ => none }
def ProveSignedWrongFalsely : Prop := proveSignedRow.holds Tryz.pinned (OpenSpec.ofChange proveSignedWrong)

/-- 'ddilaw23.ProveNegative': WHATEVER THE INPUT: true; the input reads as it did. -/
def proveNegativeSpec : ChangeSpec := { name := "proveNegative", fn := fun _ => fun
  | [d1, d2] => { results := [.lit (.bool true)], args := [d1, d2] }
  | _ => none }
def proveNegativeRow : OpenClaim := { program := "ytjakmljndnkplaagreatdoor", sum := "f06c5543e97f6d279a7be817bc006713c255a9aa61068e52f1b3d16d23ac8459", func := "ddi/ddilaw23.ProveNegative", spec := "proveNegative", inPlace := ["internal/bytealg.CountString", "internal/bytealg.IndexByteString", "internal/bytealg.IndexString", "internal/bytealg.abigen_runtime_cmpstring"], unfollowed := true, recurses := true, named := ["unicode/utf8.first", "unicode/utf8.acceptRanges", "internal/bytealg.MaxLen"], apart := false, laid := [("unicode/utf8.acceptRanges", laid_unicode_utf8_acceptRanges), ("unicode/utf8.first", laid_unicode_utf8_first)] }
def ProveNegativeSaid : Prop := proveNegativeRow.holds Tryz.pinned (OpenSpec.ofChange proveNegativeSpec)

/-- ITS FALSE NEIGHBOUR: 'it returns false'. Refute it at one input. -/
def proveNegativeWrong : ChangeSpec := { name := "proveNegative", fn := fun _ => fun
  | [d1, d2] => { results := [.lit (.bool false)], args := [d1, d2] }
  | _ => none }
def ProveNegativeWrongFalsely : Prop := proveNegativeRow.holds Tryz.pinned (OpenSpec.ofChange proveNegativeWrong)

/- THE SECOND FORM. 'bulk': how many values and letters a reading holds, each counted each time it is reached (what is shared counts as often as it is met; a slice's spare places count too). A statement '..UptoSaid' is the law's where the arguments, and the package variables that the reading takes, are together of bulk at most 1048576: NARROWER than '..Said'. Prove '..Said' where nothing that the law and all that it calls make is longer than what came in: it says more and counts as full. Else prove '..UptoSaid'. A law counts once. -/
mutual
def uptoBulk {H : Type} : DataW H → Nat
  | .lit (.string bytes) => bytes.length + 1
  | .lit _ => 1
  | .nil => 1
  | .ptr d => uptoBulk d + 1
  | .slice elems spare => uptoBulkAll elems + uptoBulkAll spare + 1
  | .agg parts => uptoBulkAll parts + 1
  | .iface _ d => uptoBulk d + 1
  | .map entries => uptoBulkEntries entries + 1
  | .held _ => 1
def uptoBulkAll {H : Type} : List (DataW H) → Nat
  | [] => 0
  | d :: r => uptoBulk d + uptoBulkAll r
def uptoBulkEntries {H : Type} : List (Lit × DataW H) → Nat
  | [] => 0
  | x :: r => uptoBulkEntry x + uptoBulkEntries r
def uptoBulkEntry {H : Type} : Lit × DataW H → Nat
  | (.string bytes, d) => bytes.length + uptoBulk d + 1
  | (_, d) => uptoBulk d + 1
 end
def uptoSmall : (H : Type) → List (DataW H) → Bool := fun _ ds => decide (uptoBulkAll ds ≤ 1048576)
def OpenSpec.upto (s : _root_.Go.ChangeSpec) : _root_.Go.OpenSpec := { _root_.Go.OpenSpec.ofChange s with cond := some uptoSmall }

/-- 'ddilaw23.ProveResponds', WHERE WHAT IT READS IS OF BULK AT MOST 1048576: true; the input reads as it did. -/
def proveRespondsUptoRow : OpenClaim := { program := "ytjakmljndnkplaagreatdoor", sum := "f06c5543e97f6d279a7be817bc006713c255a9aa61068e52f1b3d16d23ac8459", func := "ddi/ddilaw23.ProveResponds", spec := "proveResponds", inPlace := ["internal/bytealg.CountString", "internal/bytealg.IndexByteString", "internal/bytealg.IndexString", "internal/bytealg.abigen_runtime_cmpstring"], unfollowed := true, recurses := true, named := ["unicode/utf8.first", "unicode/utf8.acceptRanges", "internal/bytealg.MaxLen"], apart := false, laid := [("unicode/utf8.acceptRanges", laid_unicode_utf8_acceptRanges), ("unicode/utf8.first", laid_unicode_utf8_first)], narrowed := true }
def ProveRespondsUptoSaid : Prop := proveRespondsUptoRow.holds Tryz.pinned (OpenSpec.upto proveRespondsSpec)

/-- 'ddilaw23.ProvePlain', WHERE WHAT IT READS IS OF BULK AT MOST 1048576: true; the input reads as it did. -/
def provePlainUptoRow : OpenClaim := { program := "ytjakmljndnkplaagreatdoor", sum := "f06c5543e97f6d279a7be817bc006713c255a9aa61068e52f1b3d16d23ac8459", func := "ddi/ddilaw23.ProvePlain", spec := "provePlain", inPlace := ["internal/bytealg.CountString", "internal/bytealg.IndexByteString", "internal/bytealg.IndexString", "internal/bytealg.abigen_runtime_cmpstring"], unfollowed := true, recurses := true, named := ["unicode/utf8.first", "unicode/utf8.acceptRanges", "internal/bytealg.MaxLen"], apart := false, laid := [("unicode/utf8.acceptRanges", laid_unicode_utf8_acceptRanges), ("unicode/utf8.first", laid_unicode_utf8_first)], narrowed := true }
def ProvePlainUptoSaid : Prop := provePlainUptoRow.holds Tryz.pinned (OpenSpec.upto provePlainSpec)

/-- 'ddilaw23.ProveSigned', WHERE WHAT IT READS IS OF BULK AT MOST 1048576: true; the input reads as it did. -/
def proveSignedUptoRow : OpenClaim := { program := "ytjakmljndnkplaagreatdoor", sum := "f06c5543e97f6d279a7be817bc006713c255a9aa61068e52f1b3d16d23ac8459", func := "ddi/ddilaw23.ProveSigned", spec := "proveSigned", inPlace := ["internal/bytealg.CountString", "internal/bytealg.IndexByteString", "internal/bytealg.IndexString", "internal/bytealg.abigen_runtime_cmpstring"], unfollowed := true, recurses := true, named := ["unicode/utf8.first", "unicode/utf8.acceptRanges", "internal/bytealg.MaxLen"], apart := false, laid := [("unicode/utf8.acceptRanges", laid_unicode_utf8_acceptRanges), ("unicode/utf8.first", laid_unicode_utf8_first)], narrowed := true }
def ProveSignedUptoSaid : Prop := proveSignedUptoRow.holds Tryz.pinned (OpenSpec.upto proveSignedSpec)

/-- 'ddilaw23.ProveNegative', WHERE WHAT IT READS IS OF BULK AT MOST 1048576: true; the input reads as it did. -/
def proveNegativeUptoRow : OpenClaim := { program := "ytjakmljndnkplaagreatdoor", sum := "f06c5543e97f6d279a7be817bc006713c255a9aa61068e52f1b3d16d23ac8459", func := "ddi/ddilaw23.ProveNegative", spec := "proveNegative", inPlace := ["internal/bytealg.CountString", "internal/bytealg.IndexByteString", "internal/bytealg.IndexString", "internal/bytealg.abigen_runtime_cmpstring"], unfollowed := true, recurses := true, named := ["unicode/utf8.first", "unicode/utf8.acceptRanges", "internal/bytealg.MaxLen"], apart := false, laid := [("unicode/utf8.acceptRanges", laid_unicode_utf8_acceptRanges), ("unicode/utf8.first", laid_unicode_utf8_first)], narrowed := true }
def ProveNegativeUptoSaid : Prop := proveNegativeUptoRow.holds Tryz.pinned (OpenSpec.upto proveNegativeSpec)

end Rows
end Go.Proofs.YtjakmljndnkplaaGreatDoor
