/-
  NARROWER THAN 'FOR EVERY INPUT', by the rows' own cells (each row's printed sentence says how): BookThree: laid · BookCrossed: laid · BookWrite: laid · BookRead: laid · BookWrong: laid · BookBack: laid · BookOrder: laid · BookFewest: laid · BookLeft: laid · BookCopies: laid · BookJoin: laid.
  DERIVED. THE GIVEN ROWS OF THIS SEAT. 11 by the template 'for every input the law returns true; each argument reads behind the call as it read before'; 0 by the template 'total and deterministic' (their statements: YtlmfdmlochpfcaaDoorTotals.lean).
  GIVEN WITH THE SEED: the statements are not yours to turn. If you find one false, say at which input.
  Laid BY PROGRAM, IN A SANDBOX (cutbox-rows.mjs): the forced cells as the released guide's own fill.sh prints them over the translation 96417bafcf638575… (all of the seat's roots in one cut). By AI agents, Wed Nov 11 2026. No macro, syntax, notation, axiom, sorry.
-/
import Derived.Test.YtlmfdmlochpfcaaDoorChecked
import GoSem.PinnedTables
import GoSem.Claim
import GoSem.ClaimJoined
import GoSem.ClaimMapViews
import Derived.JoinedTies
import Derived.KernelRfl
namespace Go.Proofs.YtlmfdmlochpfcaaDoor
/- THE CELL 'sum', in the pinned program and in every row, IS THE sha256 OF THE DUMP (.gsa) THAT YtlmfdmlochpfcaaDoorProg.lean LOADS. Nothing in Lean hashes anything: it is a label: what it is worth is what the hold of that sum in a sandbox is worth. -/
noncomputable def Tryd.pinned : Pinned := { name := "ytlmfdmlochpfcaadoor", sum := "96417bafcf638575f56b959ad8b3b9c470cdf3e12a6ccc090b1045d98b4683dd", checked := Tryd.checked }
namespace Rows
def none {H : Type} : Left H := { results := [], args := [] }

/- WHAT THE LISTED PACKAGE-LEVEL VARIABLES READ AS WHEN THE CALL BEGINS. Each datum BY PROGRAM (the guide's laid-datum.mjs) off the statement by which the dump's own 'gosem.cut.vars' lays the variable. In a bare row this is a premise. The card (YtlmfdmlochpfcaaDoorCards.lean) ties it to the program's text. -/
def laid_unicode_utf8_acceptRanges {H : Type} : DataW H := .agg [.agg [.lit (.int .u8 128), .lit (.int .u8 191)], .agg [.lit (.int .u8 160), .lit (.int .u8 191)], .agg [.lit (.int .u8 128), .lit (.int .u8 159)], .agg [.lit (.int .u8 144), .lit (.int .u8 191)], .agg [.lit (.int .u8 128), .lit (.int .u8 143)], .agg [.lit (.int .u8 0), .lit (.int .u8 0)], .agg [.lit (.int .u8 0), .lit (.int .u8 0)], .agg [.lit (.int .u8 0), .lit (.int .u8 0)], .agg [.lit (.int .u8 0), .lit (.int .u8 0)], .agg [.lit (.int .u8 0), .lit (.int .u8 0)], .agg [.lit (.int .u8 0), .lit (.int .u8 0)], .agg [.lit (.int .u8 0), .lit (.int .u8 0)], .agg [.lit (.int .u8 0), .lit (.int .u8 0)], .agg [.lit (.int .u8 0), .lit (.int .u8 0)], .agg [.lit (.int .u8 0), .lit (.int .u8 0)], .agg [.lit (.int .u8 0), .lit (.int .u8 0)]]
/-- One of Go's own tables, pinned by name: the form's constant. -/
def laid_unicode_utf8_first : DataW Unit := Go.Pinned.utf8First

/-- 'shellaclaw14.BookThree': WHATEVER THE INPUT: true; the input reads as it did. -/
def bookThreeSpec : ChangeSpec := { name := "bookThree", fn := fun _ => fun
  | [d1, d2, d3] => { results := [.lit (.bool true)], args := [d1, d2, d3] }
  | _ => none }
def bookThreeRow : OpenClaim := { program := "ytlmfdmlochpfcaadoor", sum := "96417bafcf638575f56b959ad8b3b9c470cdf3e12a6ccc090b1045d98b4683dd", func := "shellac/shellaclaw14.BookThree", spec := "bookThree", inPlace := ["internal/bytealg.MakeNoZero", "internal/abi.NoEscape", "internal/bytealg.IndexByteString", "internal/bytealg.IndexString"], unfollowed := true, recurses := true, named := ["unicode/utf8.first", "unicode/utf8.acceptRanges", "internal/bytealg.MaxLen"], apart := false, laid := [("unicode/utf8.acceptRanges", laid_unicode_utf8_acceptRanges), ("unicode/utf8.first", laid_unicode_utf8_first)] }
def BookThreeSaid : Prop := bookThreeRow.holds Tryd.pinned (OpenSpec.ofChange bookThreeSpec)

/-- ITS FALSE NEIGHBOUR: 'it returns false'. Refute it at one input. -/
def bookThreeWrong : ChangeSpec := { name := "bookThree", fn := fun _ => fun
  | [d1, d2, d3] => { results := [.lit (.bool false)], args := [d1, d2, d3] }
  | _ => none }
def BookThreeWrongFalsely : Prop := bookThreeRow.holds Tryd.pinned (OpenSpec.ofChange bookThreeWrong)

/-- 'shellaclaw14.BookCrossed': WHATEVER THE INPUT: true; the input reads as it did. -/
def bookCrossedSpec : ChangeSpec := { name := "bookCrossed", fn := fun _ => fun
  | [d1, d2, d3] => { results := [.lit (.bool true)], args := [d1, d2, d3] }
  | _ => none }
def bookCrossedRow : OpenClaim := { program := "ytlmfdmlochpfcaadoor", sum := "96417bafcf638575f56b959ad8b3b9c470cdf3e12a6ccc090b1045d98b4683dd", func := "shellac/shellaclaw14.BookCrossed", spec := "bookCrossed", inPlace := ["internal/bytealg.MakeNoZero", "internal/abi.NoEscape", "internal/bytealg.IndexByteString", "internal/bytealg.IndexString"], unfollowed := true, recurses := true, named := ["unicode/utf8.first", "unicode/utf8.acceptRanges", "internal/bytealg.MaxLen"], apart := false, laid := [("unicode/utf8.acceptRanges", laid_unicode_utf8_acceptRanges), ("unicode/utf8.first", laid_unicode_utf8_first)] }
def BookCrossedSaid : Prop := bookCrossedRow.holds Tryd.pinned (OpenSpec.ofChange bookCrossedSpec)

/-- ITS FALSE NEIGHBOUR: 'it returns false'. Refute it at one input. -/
def bookCrossedWrong : ChangeSpec := { name := "bookCrossed", fn := fun _ => fun
  | [d1, d2, d3] => { results := [.lit (.bool false)], args := [d1, d2, d3] }
  | _ => none }
def BookCrossedWrongFalsely : Prop := bookCrossedRow.holds Tryd.pinned (OpenSpec.ofChange bookCrossedWrong)

/-- 'shellaclaw14.BookWrite': WHATEVER THE INPUT: true; the input reads as it did. -/
def bookWriteSpec : ChangeSpec := { name := "bookWrite", fn := fun _ => fun
  | [d] => { results := [.lit (.bool true)], args := [d] }
  | _ => none }
def bookWriteRow : OpenClaim := { program := "ytlmfdmlochpfcaadoor", sum := "96417bafcf638575f56b959ad8b3b9c470cdf3e12a6ccc090b1045d98b4683dd", func := "shellac/shellaclaw14.BookWrite", spec := "bookWrite", inPlace := ["internal/bytealg.MakeNoZero", "internal/abi.NoEscape", "internal/bytealg.IndexByteString", "internal/bytealg.IndexString"], unfollowed := true, recurses := true, named := ["unicode/utf8.first", "unicode/utf8.acceptRanges", "internal/bytealg.MaxLen"], apart := false, laid := [("unicode/utf8.acceptRanges", laid_unicode_utf8_acceptRanges), ("unicode/utf8.first", laid_unicode_utf8_first)] }
def BookWriteSaid : Prop := bookWriteRow.holds Tryd.pinned (OpenSpec.ofChange bookWriteSpec)

/-- ITS FALSE NEIGHBOUR: 'it returns false'. Refute it at one input. -/
def bookWriteWrong : ChangeSpec := { name := "bookWrite", fn := fun _ => fun
  | [d] => { results := [.lit (.bool false)], args := [d] }
  | _ => none }
def BookWriteWrongFalsely : Prop := bookWriteRow.holds Tryd.pinned (OpenSpec.ofChange bookWriteWrong)

/-- 'shellaclaw14.BookRead': WHATEVER THE INPUT: true; the input reads as it did. -/
def bookReadSpec : ChangeSpec := { name := "bookRead", fn := fun _ => fun
  | [d] => { results := [.lit (.bool true)], args := [d] }
  | _ => none }
def bookReadRow : OpenClaim := { program := "ytlmfdmlochpfcaadoor", sum := "96417bafcf638575f56b959ad8b3b9c470cdf3e12a6ccc090b1045d98b4683dd", func := "shellac/shellaclaw14.BookRead", spec := "bookRead", inPlace := ["internal/bytealg.MakeNoZero", "internal/abi.NoEscape", "internal/bytealg.IndexByteString", "internal/bytealg.IndexString"], unfollowed := true, recurses := true, named := ["unicode/utf8.first", "unicode/utf8.acceptRanges", "internal/bytealg.MaxLen"], apart := false, laid := [("unicode/utf8.acceptRanges", laid_unicode_utf8_acceptRanges), ("unicode/utf8.first", laid_unicode_utf8_first)] }
def BookReadSaid : Prop := bookReadRow.holds Tryd.pinned (OpenSpec.ofChange bookReadSpec)

/-- ITS FALSE NEIGHBOUR: 'it returns false'. Refute it at one input. -/
def bookReadWrong : ChangeSpec := { name := "bookRead", fn := fun _ => fun
  | [d] => { results := [.lit (.bool false)], args := [d] }
  | _ => none }
def BookReadWrongFalsely : Prop := bookReadRow.holds Tryd.pinned (OpenSpec.ofChange bookReadWrong)

/-- 'shellaclaw14.BookWrong': WHATEVER THE INPUT: true; the input reads as it did. -/
def bookWrongSpec : ChangeSpec := { name := "bookWrong", fn := fun _ => fun
  | [d] => { results := [.lit (.bool true)], args := [d] }
  | _ => none }
def bookWrongRow : OpenClaim := { program := "ytlmfdmlochpfcaadoor", sum := "96417bafcf638575f56b959ad8b3b9c470cdf3e12a6ccc090b1045d98b4683dd", func := "shellac/shellaclaw14.BookWrong", spec := "bookWrong", inPlace := ["internal/bytealg.MakeNoZero", "internal/abi.NoEscape", "internal/bytealg.IndexByteString", "internal/bytealg.IndexString"], unfollowed := true, recurses := true, named := ["unicode/utf8.first", "unicode/utf8.acceptRanges", "internal/bytealg.MaxLen"], apart := false, laid := [("unicode/utf8.acceptRanges", laid_unicode_utf8_acceptRanges), ("unicode/utf8.first", laid_unicode_utf8_first)] }
def BookWrongSaid : Prop := bookWrongRow.holds Tryd.pinned (OpenSpec.ofChange bookWrongSpec)

/-- ITS FALSE NEIGHBOUR: 'it returns false'. Refute it at one input. -/
def bookWrongWrong : ChangeSpec := { name := "bookWrong", fn := fun _ => fun
  | [d] => { results := [.lit (.bool false)], args := [d] }
  | _ => none }
def BookWrongWrongFalsely : Prop := bookWrongRow.holds Tryd.pinned (OpenSpec.ofChange bookWrongWrong)

/-- 'shellaclaw14.BookBack': WHATEVER THE INPUT: true; the input reads as it did. -/
def bookBackSpec : ChangeSpec := { name := "bookBack", fn := fun _ => fun
  | [d] => { results := [.lit (.bool true)], args := [d] }
  | _ => none }
def bookBackRow : OpenClaim := { program := "ytlmfdmlochpfcaadoor", sum := "96417bafcf638575f56b959ad8b3b9c470cdf3e12a6ccc090b1045d98b4683dd", func := "shellac/shellaclaw14.BookBack", spec := "bookBack", inPlace := ["internal/bytealg.MakeNoZero", "internal/abi.NoEscape", "internal/bytealg.IndexByteString", "internal/bytealg.IndexString"], unfollowed := true, recurses := true, named := ["unicode/utf8.first", "unicode/utf8.acceptRanges", "internal/bytealg.MaxLen"], apart := false, laid := [("unicode/utf8.acceptRanges", laid_unicode_utf8_acceptRanges), ("unicode/utf8.first", laid_unicode_utf8_first)] }
def BookBackSaid : Prop := bookBackRow.holds Tryd.pinned (OpenSpec.ofChange bookBackSpec)

/-- ITS FALSE NEIGHBOUR: 'it returns false'. Refute it at one input. -/
def bookBackWrong : ChangeSpec := { name := "bookBack", fn := fun _ => fun
  | [d] => { results := [.lit (.bool false)], args := [d] }
  | _ => none }
def BookBackWrongFalsely : Prop := bookBackRow.holds Tryd.pinned (OpenSpec.ofChange bookBackWrong)

/-- 'shellaclaw14.BookOrder': WHATEVER THE INPUT: true; the input reads as it did. -/
def bookOrderSpec : ChangeSpec := { name := "bookOrder", fn := fun _ => fun
  | [d1, d2, d3] => { results := [.lit (.bool true)], args := [d1, d2, d3] }
  | _ => none }
def bookOrderRow : OpenClaim := { program := "ytlmfdmlochpfcaadoor", sum := "96417bafcf638575f56b959ad8b3b9c470cdf3e12a6ccc090b1045d98b4683dd", func := "shellac/shellaclaw14.BookOrder", spec := "bookOrder", inPlace := ["internal/bytealg.MakeNoZero", "internal/abi.NoEscape", "internal/bytealg.IndexByteString", "internal/bytealg.IndexString"], unfollowed := true, recurses := true, named := ["unicode/utf8.first", "unicode/utf8.acceptRanges", "internal/bytealg.MaxLen"], apart := false, laid := [("unicode/utf8.acceptRanges", laid_unicode_utf8_acceptRanges), ("unicode/utf8.first", laid_unicode_utf8_first)] }
def BookOrderSaid : Prop := bookOrderRow.holds Tryd.pinned (OpenSpec.ofChange bookOrderSpec)

/-- ITS FALSE NEIGHBOUR: 'it returns false'. Refute it at one input. -/
def bookOrderWrong : ChangeSpec := { name := "bookOrder", fn := fun _ => fun
  | [d1, d2, d3] => { results := [.lit (.bool false)], args := [d1, d2, d3] }
  | _ => none }
def BookOrderWrongFalsely : Prop := bookOrderRow.holds Tryd.pinned (OpenSpec.ofChange bookOrderWrong)

/-- 'shellaclaw14.BookFewest': WHATEVER THE INPUT: true; the input reads as it did. -/
def bookFewestSpec : ChangeSpec := { name := "bookFewest", fn := fun _ => fun
  | [d1, d2, d3] => { results := [.lit (.bool true)], args := [d1, d2, d3] }
  | _ => none }
def bookFewestRow : OpenClaim := { program := "ytlmfdmlochpfcaadoor", sum := "96417bafcf638575f56b959ad8b3b9c470cdf3e12a6ccc090b1045d98b4683dd", func := "shellac/shellaclaw14.BookFewest", spec := "bookFewest", inPlace := ["internal/bytealg.MakeNoZero", "internal/abi.NoEscape", "internal/bytealg.IndexByteString", "internal/bytealg.IndexString"], unfollowed := true, recurses := true, named := ["unicode/utf8.first", "unicode/utf8.acceptRanges", "internal/bytealg.MaxLen"], apart := false, laid := [("unicode/utf8.acceptRanges", laid_unicode_utf8_acceptRanges), ("unicode/utf8.first", laid_unicode_utf8_first)] }
def BookFewestSaid : Prop := bookFewestRow.holds Tryd.pinned (OpenSpec.ofChange bookFewestSpec)

/-- ITS FALSE NEIGHBOUR: 'it returns false'. Refute it at one input. -/
def bookFewestWrong : ChangeSpec := { name := "bookFewest", fn := fun _ => fun
  | [d1, d2, d3] => { results := [.lit (.bool false)], args := [d1, d2, d3] }
  | _ => none }
def BookFewestWrongFalsely : Prop := bookFewestRow.holds Tryd.pinned (OpenSpec.ofChange bookFewestWrong)

/-- 'shellaclaw14.BookLeft': WHATEVER THE INPUT: true; the input reads as it did. -/
def bookLeftSpec : ChangeSpec := { name := "bookLeft", fn := fun _ => fun
  | [d] => { results := [.lit (.bool true)], args := [d] }
  | _ => none }
def bookLeftRow : OpenClaim := { program := "ytlmfdmlochpfcaadoor", sum := "96417bafcf638575f56b959ad8b3b9c470cdf3e12a6ccc090b1045d98b4683dd", func := "shellac/shellaclaw14.BookLeft", spec := "bookLeft", inPlace := ["internal/bytealg.MakeNoZero", "internal/abi.NoEscape", "internal/bytealg.IndexByteString", "internal/bytealg.IndexString"], unfollowed := true, recurses := true, named := ["unicode/utf8.first", "unicode/utf8.acceptRanges", "internal/bytealg.MaxLen"], apart := false, laid := [("unicode/utf8.acceptRanges", laid_unicode_utf8_acceptRanges), ("unicode/utf8.first", laid_unicode_utf8_first)] }
def BookLeftSaid : Prop := bookLeftRow.holds Tryd.pinned (OpenSpec.ofChange bookLeftSpec)

/-- ITS FALSE NEIGHBOUR: 'it returns false'. Refute it at one input. -/
def bookLeftWrong : ChangeSpec := { name := "bookLeft", fn := fun _ => fun
  | [d] => { results := [.lit (.bool false)], args := [d] }
  | _ => none }
def BookLeftWrongFalsely : Prop := bookLeftRow.holds Tryd.pinned (OpenSpec.ofChange bookLeftWrong)

/-- 'shellaclaw14.BookCopies': WHATEVER THE INPUT: true; the input reads as it did. -/
def bookCopiesSpec : ChangeSpec := { name := "bookCopies", fn := fun _ => fun
  | [d1, d2] => { results := [.lit (.bool true)], args := [d1, d2] }
  | _ => none }
def bookCopiesRow : OpenClaim := { program := "ytlmfdmlochpfcaadoor", sum := "96417bafcf638575f56b959ad8b3b9c470cdf3e12a6ccc090b1045d98b4683dd", func := "shellac/shellaclaw14.BookCopies", spec := "bookCopies", inPlace := ["internal/bytealg.MakeNoZero", "internal/abi.NoEscape", "internal/bytealg.IndexByteString", "internal/bytealg.IndexString"], unfollowed := true, recurses := true, named := ["unicode/utf8.first", "unicode/utf8.acceptRanges", "internal/bytealg.MaxLen"], apart := false, laid := [("unicode/utf8.acceptRanges", laid_unicode_utf8_acceptRanges), ("unicode/utf8.first", laid_unicode_utf8_first)] }
def BookCopiesSaid : Prop := bookCopiesRow.holds Tryd.pinned (OpenSpec.ofChange bookCopiesSpec)

/-- ITS FALSE NEIGHBOUR: 'it returns false'. Refute it at one input. -/
def bookCopiesWrong : ChangeSpec := { name := "bookCopies", fn := fun _ => fun
  | [d1, d2] => { results := [.lit (.bool false)], args := [d1, d2] }
  | _ => none }
def BookCopiesWrongFalsely : Prop := bookCopiesRow.holds Tryd.pinned (OpenSpec.ofChange bookCopiesWrong)

/-- 'shellaclaw14.BookJoin': WHATEVER THE INPUT: true; the input reads as it did. -/
def bookJoinSpec : ChangeSpec := { name := "bookJoin", fn := fun _ => fun
  | [d1, d2] => { results := [.lit (.bool true)], args := [d1, d2] }
  | _ => none }
def bookJoinRow : OpenClaim := { program := "ytlmfdmlochpfcaadoor", sum := "96417bafcf638575f56b959ad8b3b9c470cdf3e12a6ccc090b1045d98b4683dd", func := "shellac/shellaclaw14.BookJoin", spec := "bookJoin", inPlace := ["internal/bytealg.MakeNoZero", "internal/abi.NoEscape", "internal/bytealg.IndexByteString", "internal/bytealg.IndexString"], unfollowed := true, recurses := true, named := ["unicode/utf8.first", "unicode/utf8.acceptRanges", "internal/bytealg.MaxLen"], apart := false, laid := [("unicode/utf8.acceptRanges", laid_unicode_utf8_acceptRanges), ("unicode/utf8.first", laid_unicode_utf8_first)] }
def BookJoinSaid : Prop := bookJoinRow.holds Tryd.pinned (OpenSpec.ofChange bookJoinSpec)

/-- ITS FALSE NEIGHBOUR: 'it returns false'. Refute it at one input. -/
def bookJoinWrong : ChangeSpec := { name := "bookJoin", fn := fun _ => fun
  | [d1, d2] => { results := [.lit (.bool false)], args := [d1, d2] }
  | _ => none }
def BookJoinWrongFalsely : Prop := bookJoinRow.holds Tryd.pinned (OpenSpec.ofChange bookJoinWrong)

/- THE SECOND FORM. 'bulk': how many values and letters a reading holds, each counted each time it is reached (what is shared counts as often as it is met; a slice's spare places count too). A statement '..UptoSaid' is the law's where the arguments, and the package variables that the reading takes, are together of bulk at most 1048576: NARROWER than '..Said'. Prove '..Said' where nothing that the law and all that it calls make is longer than what came in: it says more and counts as full. Else prove '..UptoSaid'. A law counts once. -/
mutual
def uptoBulk {H : Type} : DataW H → Nat
  | .lit (.string bytes) => bytes.length + 1
  | .lit _ => 1
  | .nil => 1
  | .ptr d => uptoBulk d + 1
  | .slice elems spare => uptoBulkAll elems + uptoBulkAll spare + 1
  | .agg parts => uptoBulkAll parts + 1
  | .iface _ d => uptoBulk d + 1
  | .map entries => uptoBulkEntries entries + 1
  | .held _ => 1
def uptoBulkAll {H : Type} : List (DataW H) → Nat
  | [] => 0
  | d :: r => uptoBulk d + uptoBulkAll r
def uptoBulkEntries {H : Type} : List (Lit × DataW H) → Nat
  | [] => 0
  | x :: r => uptoBulkEntry x + uptoBulkEntries r
def uptoBulkEntry {H : Type} : Lit × DataW H → Nat
  | (.string bytes, d) => bytes.length + uptoBulk d + 1
  | (_, d) => uptoBulk d + 1
 end
def uptoSmall : (H : Type) → List (DataW H) → Bool := fun _ ds => decide (uptoBulkAll ds ≤ 1048576)
def OpenSpec.upto (s : _root_.Go.ChangeSpec) : _root_.Go.OpenSpec := { _root_.Go.OpenSpec.ofChange s with cond := some uptoSmall }

/-- 'shellaclaw14.BookThree', WHERE WHAT IT READS IS OF BULK AT MOST 1048576: true; the input reads as it did. -/
def bookThreeUptoRow : OpenClaim := { program := "ytlmfdmlochpfcaadoor", sum := "96417bafcf638575f56b959ad8b3b9c470cdf3e12a6ccc090b1045d98b4683dd", func := "shellac/shellaclaw14.BookThree", spec := "bookThree", inPlace := ["internal/bytealg.MakeNoZero", "internal/abi.NoEscape", "internal/bytealg.IndexByteString", "internal/bytealg.IndexString"], unfollowed := true, recurses := true, named := ["unicode/utf8.first", "unicode/utf8.acceptRanges", "internal/bytealg.MaxLen"], apart := false, laid := [("unicode/utf8.acceptRanges", laid_unicode_utf8_acceptRanges), ("unicode/utf8.first", laid_unicode_utf8_first)], narrowed := true }
def BookThreeUptoSaid : Prop := bookThreeUptoRow.holds Tryd.pinned (OpenSpec.upto bookThreeSpec)

/-- 'shellaclaw14.BookCrossed', WHERE WHAT IT READS IS OF BULK AT MOST 1048576: true; the input reads as it did. -/
def bookCrossedUptoRow : OpenClaim := { program := "ytlmfdmlochpfcaadoor", sum := "96417bafcf638575f56b959ad8b3b9c470cdf3e12a6ccc090b1045d98b4683dd", func := "shellac/shellaclaw14.BookCrossed", spec := "bookCrossed", inPlace := ["internal/bytealg.MakeNoZero", "internal/abi.NoEscape", "internal/bytealg.IndexByteString", "internal/bytealg.IndexString"], unfollowed := true, recurses := true, named := ["unicode/utf8.first", "unicode/utf8.acceptRanges", "internal/bytealg.MaxLen"], apart := false, laid := [("unicode/utf8.acceptRanges", laid_unicode_utf8_acceptRanges), ("unicode/utf8.first", laid_unicode_utf8_first)], narrowed := true }
def BookCrossedUptoSaid : Prop := bookCrossedUptoRow.holds Tryd.pinned (OpenSpec.upto bookCrossedSpec)

/-- 'shellaclaw14.BookWrite', WHERE WHAT IT READS IS OF BULK AT MOST 1048576: true; the input reads as it did. -/
def bookWriteUptoRow : OpenClaim := { program := "ytlmfdmlochpfcaadoor", sum := "96417bafcf638575f56b959ad8b3b9c470cdf3e12a6ccc090b1045d98b4683dd", func := "shellac/shellaclaw14.BookWrite", spec := "bookWrite", inPlace := ["internal/bytealg.MakeNoZero", "internal/abi.NoEscape", "internal/bytealg.IndexByteString", "internal/bytealg.IndexString"], unfollowed := true, recurses := true, named := ["unicode/utf8.first", "unicode/utf8.acceptRanges", "internal/bytealg.MaxLen"], apart := false, laid := [("unicode/utf8.acceptRanges", laid_unicode_utf8_acceptRanges), ("unicode/utf8.first", laid_unicode_utf8_first)], narrowed := true }
def BookWriteUptoSaid : Prop := bookWriteUptoRow.holds Tryd.pinned (OpenSpec.upto bookWriteSpec)

/-- 'shellaclaw14.BookRead', WHERE WHAT IT READS IS OF BULK AT MOST 1048576: true; the input reads as it did. -/
def bookReadUptoRow : OpenClaim := { program := "ytlmfdmlochpfcaadoor", sum := "96417bafcf638575f56b959ad8b3b9c470cdf3e12a6ccc090b1045d98b4683dd", func := "shellac/shellaclaw14.BookRead", spec := "bookRead", inPlace := ["internal/bytealg.MakeNoZero", "internal/abi.NoEscape", "internal/bytealg.IndexByteString", "internal/bytealg.IndexString"], unfollowed := true, recurses := true, named := ["unicode/utf8.first", "unicode/utf8.acceptRanges", "internal/bytealg.MaxLen"], apart := false, laid := [("unicode/utf8.acceptRanges", laid_unicode_utf8_acceptRanges), ("unicode/utf8.first", laid_unicode_utf8_first)], narrowed := true }
def BookReadUptoSaid : Prop := bookReadUptoRow.holds Tryd.pinned (OpenSpec.upto bookReadSpec)

/-- 'shellaclaw14.BookWrong', WHERE WHAT IT READS IS OF BULK AT MOST 1048576: true; the input reads as it did. -/
def bookWrongUptoRow : OpenClaim := { program := "ytlmfdmlochpfcaadoor", sum := "96417bafcf638575f56b959ad8b3b9c470cdf3e12a6ccc090b1045d98b4683dd", func := "shellac/shellaclaw14.BookWrong", spec := "bookWrong", inPlace := ["internal/bytealg.MakeNoZero", "internal/abi.NoEscape", "internal/bytealg.IndexByteString", "internal/bytealg.IndexString"], unfollowed := true, recurses := true, named := ["unicode/utf8.first", "unicode/utf8.acceptRanges", "internal/bytealg.MaxLen"], apart := false, laid := [("unicode/utf8.acceptRanges", laid_unicode_utf8_acceptRanges), ("unicode/utf8.first", laid_unicode_utf8_first)], narrowed := true }
def BookWrongUptoSaid : Prop := bookWrongUptoRow.holds Tryd.pinned (OpenSpec.upto bookWrongSpec)

/-- 'shellaclaw14.BookBack', WHERE WHAT IT READS IS OF BULK AT MOST 1048576: true; the input reads as it did. -/
def bookBackUptoRow : OpenClaim := { program := "ytlmfdmlochpfcaadoor", sum := "96417bafcf638575f56b959ad8b3b9c470cdf3e12a6ccc090b1045d98b4683dd", func := "shellac/shellaclaw14.BookBack", spec := "bookBack", inPlace := ["internal/bytealg.MakeNoZero", "internal/abi.NoEscape", "internal/bytealg.IndexByteString", "internal/bytealg.IndexString"], unfollowed := true, recurses := true, named := ["unicode/utf8.first", "unicode/utf8.acceptRanges", "internal/bytealg.MaxLen"], apart := false, laid := [("unicode/utf8.acceptRanges", laid_unicode_utf8_acceptRanges), ("unicode/utf8.first", laid_unicode_utf8_first)], narrowed := true }
def BookBackUptoSaid : Prop := bookBackUptoRow.holds Tryd.pinned (OpenSpec.upto bookBackSpec)

/-- 'shellaclaw14.BookOrder', WHERE WHAT IT READS IS OF BULK AT MOST 1048576: true; the input reads as it did. -/
def bookOrderUptoRow : OpenClaim := { program := "ytlmfdmlochpfcaadoor", sum := "96417bafcf638575f56b959ad8b3b9c470cdf3e12a6ccc090b1045d98b4683dd", func := "shellac/shellaclaw14.BookOrder", spec := "bookOrder", inPlace := ["internal/bytealg.MakeNoZero", "internal/abi.NoEscape", "internal/bytealg.IndexByteString", "internal/bytealg.IndexString"], unfollowed := true, recurses := true, named := ["unicode/utf8.first", "unicode/utf8.acceptRanges", "internal/bytealg.MaxLen"], apart := false, laid := [("unicode/utf8.acceptRanges", laid_unicode_utf8_acceptRanges), ("unicode/utf8.first", laid_unicode_utf8_first)], narrowed := true }
def BookOrderUptoSaid : Prop := bookOrderUptoRow.holds Tryd.pinned (OpenSpec.upto bookOrderSpec)

/-- 'shellaclaw14.BookFewest', WHERE WHAT IT READS IS OF BULK AT MOST 1048576: true; the input reads as it did. -/
def bookFewestUptoRow : OpenClaim := { program := "ytlmfdmlochpfcaadoor", sum := "96417bafcf638575f56b959ad8b3b9c470cdf3e12a6ccc090b1045d98b4683dd", func := "shellac/shellaclaw14.BookFewest", spec := "bookFewest", inPlace := ["internal/bytealg.MakeNoZero", "internal/abi.NoEscape", "internal/bytealg.IndexByteString", "internal/bytealg.IndexString"], unfollowed := true, recurses := true, named := ["unicode/utf8.first", "unicode/utf8.acceptRanges", "internal/bytealg.MaxLen"], apart := false, laid := [("unicode/utf8.acceptRanges", laid_unicode_utf8_acceptRanges), ("unicode/utf8.first", laid_unicode_utf8_first)], narrowed := true }
def BookFewestUptoSaid : Prop := bookFewestUptoRow.holds Tryd.pinned (OpenSpec.upto bookFewestSpec)

/-- 'shellaclaw14.BookLeft', WHERE WHAT IT READS IS OF BULK AT MOST 1048576: true; the input reads as it did. -/
def bookLeftUptoRow : OpenClaim := { program := "ytlmfdmlochpfcaadoor", sum := "96417bafcf638575f56b959ad8b3b9c470cdf3e12a6ccc090b1045d98b4683dd", func := "shellac/shellaclaw14.BookLeft", spec := "bookLeft", inPlace := ["internal/bytealg.MakeNoZero", "internal/abi.NoEscape", "internal/bytealg.IndexByteString", "internal/bytealg.IndexString"], unfollowed := true, recurses := true, named := ["unicode/utf8.first", "unicode/utf8.acceptRanges", "internal/bytealg.MaxLen"], apart := false, laid := [("unicode/utf8.acceptRanges", laid_unicode_utf8_acceptRanges), ("unicode/utf8.first", laid_unicode_utf8_first)], narrowed := true }
def BookLeftUptoSaid : Prop := bookLeftUptoRow.holds Tryd.pinned (OpenSpec.upto bookLeftSpec)

/-- 'shellaclaw14.BookCopies', WHERE WHAT IT READS IS OF BULK AT MOST 1048576: true; the input reads as it did. -/
def bookCopiesUptoRow : OpenClaim := { program := "ytlmfdmlochpfcaadoor", sum := "96417bafcf638575f56b959ad8b3b9c470cdf3e12a6ccc090b1045d98b4683dd", func := "shellac/shellaclaw14.BookCopies", spec := "bookCopies", inPlace := ["internal/bytealg.MakeNoZero", "internal/abi.NoEscape", "internal/bytealg.IndexByteString", "internal/bytealg.IndexString"], unfollowed := true, recurses := true, named := ["unicode/utf8.first", "unicode/utf8.acceptRanges", "internal/bytealg.MaxLen"], apart := false, laid := [("unicode/utf8.acceptRanges", laid_unicode_utf8_acceptRanges), ("unicode/utf8.first", laid_unicode_utf8_first)], narrowed := true }
def BookCopiesUptoSaid : Prop := bookCopiesUptoRow.holds Tryd.pinned (OpenSpec.upto bookCopiesSpec)

/-- 'shellaclaw14.BookJoin', WHERE WHAT IT READS IS OF BULK AT MOST 1048576: true; the input reads as it did. -/
def bookJoinUptoRow : OpenClaim := { program := "ytlmfdmlochpfcaadoor", sum := "96417bafcf638575f56b959ad8b3b9c470cdf3e12a6ccc090b1045d98b4683dd", func := "shellac/shellaclaw14.BookJoin", spec := "bookJoin", inPlace := ["internal/bytealg.MakeNoZero", "internal/abi.NoEscape", "internal/bytealg.IndexByteString", "internal/bytealg.IndexString"], unfollowed := true, recurses := true, named := ["unicode/utf8.first", "unicode/utf8.acceptRanges", "internal/bytealg.MaxLen"], apart := false, laid := [("unicode/utf8.acceptRanges", laid_unicode_utf8_acceptRanges), ("unicode/utf8.first", laid_unicode_utf8_first)], narrowed := true }
def BookJoinUptoSaid : Prop := bookJoinUptoRow.holds Tryd.pinned (OpenSpec.upto bookJoinSpec)

end Rows
end Go.Proofs.YtlmfdmlochpfcaaDoor
