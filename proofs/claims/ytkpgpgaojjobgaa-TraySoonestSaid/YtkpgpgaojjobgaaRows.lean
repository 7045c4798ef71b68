/-
  No cell of these rows narrows 'for every input' (looked for: loops, veiled, ifaces, maps, wideKeys, modest, calm, conditions, laid).
  DERIVED. THE GIVEN ROWS OF THIS SEAT. 13 by the template 'for every input the law returns true; each argument reads behind the call as it read before'; 0 by the template 'total and deterministic' (their statements: YtkpgpgaojjobgaaTotals.lean).
  GIVEN WITH THE SEED: the statements are not yours to turn. If you find one false, say at which input.
  Laid BY PROGRAM, IN A SANDBOX (cutbox-rows.mjs): the forced cells as the released guide's own fill.sh prints them over the translation 3df95858ee60d8f4… (all of the seat's roots in one cut). By AI agents, Wed Nov 11 2026. No macro, syntax, notation, axiom, sorry.
-/
import Derived.Test.YtkpgpgaojjobgaaChecked
import GoSem.Claim
import GoSem.ClaimJoined
import GoSem.ClaimMapViews
import Derived.JoinedTies
import Derived.KernelRfl
namespace Go.Proofs.Ytkpgpgaojjobgaa
/- THE CELL 'sum', in the pinned program and in every row, IS THE sha256 OF THE DUMP (.gsa) THAT YtkpgpgaojjobgaaProg.lean LOADS. Nothing in Lean hashes anything: it is a label: what it is worth is what the hold of that sum in a sandbox is worth. -/
noncomputable def Try.pinned : Pinned := { name := "ytkpgpgaojjobgaa", sum := "3df95858ee60d8f4fc660d62d93601fb862ce651c2a442b743be3ed4771f0bc3", checked := Try.checked }
namespace Rows
def none {H : Type} : Left H := { results := [], args := [] }

/-- 'shellaclaw02.TrayBefore': WHATEVER THE INPUT: true; the input reads as it did. -/
def trayBeforeSpec : ChangeSpec := { name := "trayBefore", fn := fun _ => fun
  | [d1, d2, d3] => { results := [.lit (.bool true)], args := [d1, d2, d3] }
  | _ => none }
def trayBeforeRow : OpenClaim := { program := "ytkpgpgaojjobgaa", sum := "3df95858ee60d8f4fc660d62d93601fb862ce651c2a442b743be3ed4771f0bc3", func := "shellac/shellaclaw02.TrayBefore", spec := "trayBefore", unfollowed := true, recurses := true, apart := false }
def TrayBeforeSaid : Prop := trayBeforeRow.holds Try.pinned (OpenSpec.ofChange trayBeforeSpec)

/-- ITS FALSE NEIGHBOUR: 'it returns false'. Refute it at one input. -/
def trayBeforeWrong : ChangeSpec := { name := "trayBefore", fn := fun _ => fun
  | [d1, d2, d3] => { results := [.lit (.bool false)], args := [d1, d2, d3] }
  | _ => none }
def TrayBeforeWrongFalsely : Prop := trayBeforeRow.holds Try.pinned (OpenSpec.ofChange trayBeforeWrong)

/-- 'shellaclaw02.TrayShown': WHATEVER THE INPUT: true; the input reads as it did. -/
def trayShownSpec : ChangeSpec := { name := "trayShown", fn := fun _ => fun
  | [d1, d2] => { results := [.lit (.bool true)], args := [d1, d2] }
  | _ => none }
def trayShownRow : OpenClaim := { program := "ytkpgpgaojjobgaa", sum := "3df95858ee60d8f4fc660d62d93601fb862ce651c2a442b743be3ed4771f0bc3", func := "shellac/shellaclaw02.TrayShown", spec := "trayShown", unfollowed := true, recurses := true, apart := false }
def TrayShownSaid : Prop := trayShownRow.holds Try.pinned (OpenSpec.ofChange trayShownSpec)

/-- ITS FALSE NEIGHBOUR: 'it returns false'. Refute it at one input. -/
def trayShownWrong : ChangeSpec := { name := "trayShown", fn := fun _ => fun
  | [d1, d2] => { results := [.lit (.bool false)], args := [d1, d2] }
  | _ => none }
def TrayShownWrongFalsely : Prop := trayShownRow.holds Try.pinned (OpenSpec.ofChange trayShownWrong)

/-- 'shellaclaw02.TrayInTime': WHATEVER THE INPUT: true; the input reads as it did. -/
def trayInTimeSpec : ChangeSpec := { name := "trayInTime", fn := fun _ => fun
  | [d1, d2, d3] => { results := [.lit (.bool true)], args := [d1, d2, d3] }
  | _ => none }
def trayInTimeRow : OpenClaim := { program := "ytkpgpgaojjobgaa", sum := "3df95858ee60d8f4fc660d62d93601fb862ce651c2a442b743be3ed4771f0bc3", func := "shellac/shellaclaw02.TrayInTime", spec := "trayInTime", unfollowed := true, recurses := true, apart := false }
def TrayInTimeSaid : Prop := trayInTimeRow.holds Try.pinned (OpenSpec.ofChange trayInTimeSpec)

/-- ITS FALSE NEIGHBOUR: 'it returns false'. Refute it at one input. -/
def trayInTimeWrong : ChangeSpec := { name := "trayInTime", fn := fun _ => fun
  | [d1, d2, d3] => { results := [.lit (.bool false)], args := [d1, d2, d3] }
  | _ => none }
def TrayInTimeWrongFalsely : Prop := trayInTimeRow.holds Try.pinned (OpenSpec.ofChange trayInTimeWrong)

/-- 'shellaclaw02.TrayStands': WHATEVER THE INPUT: true; the input reads as it did. -/
def trayStandsSpec : ChangeSpec := { name := "trayStands", fn := fun _ => fun
  | [d1, d2] => { results := [.lit (.bool true)], args := [d1, d2] }
  | _ => none }
def trayStandsRow : OpenClaim := { program := "ytkpgpgaojjobgaa", sum := "3df95858ee60d8f4fc660d62d93601fb862ce651c2a442b743be3ed4771f0bc3", func := "shellac/shellaclaw02.TrayStands", spec := "trayStands", unfollowed := true, recurses := true, apart := false }
def TrayStandsSaid : Prop := trayStandsRow.holds Try.pinned (OpenSpec.ofChange trayStandsSpec)

/-- ITS FALSE NEIGHBOUR: 'it returns false'. Refute it at one input. -/
def trayStandsWrong : ChangeSpec := { name := "trayStands", fn := fun _ => fun
  | [d1, d2] => { results := [.lit (.bool false)], args := [d1, d2] }
  | _ => none }
def TrayStandsWrongFalsely : Prop := trayStandsRow.holds Try.pinned (OpenSpec.ofChange trayStandsWrong)

/-- 'shellaclaw02.TrayLatest': WHATEVER THE INPUT: true; the input reads as it did. -/
def trayLatestSpec : ChangeSpec := { name := "trayLatest", fn := fun _ => fun
  | [d1, d2, d3] => { results := [.lit (.bool true)], args := [d1, d2, d3] }
  | _ => none }
def trayLatestRow : OpenClaim := { program := "ytkpgpgaojjobgaa", sum := "3df95858ee60d8f4fc660d62d93601fb862ce651c2a442b743be3ed4771f0bc3", func := "shellac/shellaclaw02.TrayLatest", spec := "trayLatest", unfollowed := true, recurses := true, apart := false }
def TrayLatestSaid : Prop := trayLatestRow.holds Try.pinned (OpenSpec.ofChange trayLatestSpec)

/-- ITS FALSE NEIGHBOUR: 'it returns false'. Refute it at one input. -/
def trayLatestWrong : ChangeSpec := { name := "trayLatest", fn := fun _ => fun
  | [d1, d2, d3] => { results := [.lit (.bool false)], args := [d1, d2, d3] }
  | _ => none }
def TrayLatestWrongFalsely : Prop := trayLatestRow.holds Try.pinned (OpenSpec.ofChange trayLatestWrong)

/-- 'shellaclaw02.TrayTwice': WHATEVER THE INPUT: true; the input reads as it did. -/
def trayTwiceSpec : ChangeSpec := { name := "trayTwice", fn := fun _ => fun
  | [d1, d2, d3] => { results := [.lit (.bool true)], args := [d1, d2, d3] }
  | _ => none }
def trayTwiceRow : OpenClaim := { program := "ytkpgpgaojjobgaa", sum := "3df95858ee60d8f4fc660d62d93601fb862ce651c2a442b743be3ed4771f0bc3", func := "shellac/shellaclaw02.TrayTwice", spec := "trayTwice", unfollowed := true, recurses := true, apart := false }
def TrayTwiceSaid : Prop := trayTwiceRow.holds Try.pinned (OpenSpec.ofChange trayTwiceSpec)

/-- ITS FALSE NEIGHBOUR: 'it returns false'. Refute it at one input. -/
def trayTwiceWrong : ChangeSpec := { name := "trayTwice", fn := fun _ => fun
  | [d1, d2, d3] => { results := [.lit (.bool false)], args := [d1, d2, d3] }
  | _ => none }
def TrayTwiceWrongFalsely : Prop := trayTwiceRow.holds Try.pinned (OpenSpec.ofChange trayTwiceWrong)

/-- 'shellaclaw02.TrayTurned': WHATEVER THE INPUT: true; the input reads as it did. -/
def trayTurnedSpec : ChangeSpec := { name := "trayTurned", fn := fun _ => fun
  | [d1, d2] => { results := [.lit (.bool true)], args := [d1, d2] }
  | _ => none }
def trayTurnedRow : OpenClaim := { program := "ytkpgpgaojjobgaa", sum := "3df95858ee60d8f4fc660d62d93601fb862ce651c2a442b743be3ed4771f0bc3", func := "shellac/shellaclaw02.TrayTurned", spec := "trayTurned", unfollowed := true, recurses := true, apart := false }
def TrayTurnedSaid : Prop := trayTurnedRow.holds Try.pinned (OpenSpec.ofChange trayTurnedSpec)

/-- ITS FALSE NEIGHBOUR: 'it returns false'. Refute it at one input. -/
def trayTurnedWrong : ChangeSpec := { name := "trayTurned", fn := fun _ => fun
  | [d1, d2] => { results := [.lit (.bool false)], args := [d1, d2] }
  | _ => none }
def TrayTurnedWrongFalsely : Prop := trayTurnedRow.holds Try.pinned (OpenSpec.ofChange trayTurnedWrong)

/-- 'shellaclaw02.TrayBest': WHATEVER THE INPUT: true; the input reads as it did. -/
def trayBestSpec : ChangeSpec := { name := "trayBest", fn := fun _ => fun
  | [d1, d2] => { results := [.lit (.bool true)], args := [d1, d2] }
  | _ => none }
def trayBestRow : OpenClaim := { program := "ytkpgpgaojjobgaa", sum := "3df95858ee60d8f4fc660d62d93601fb862ce651c2a442b743be3ed4771f0bc3", func := "shellac/shellaclaw02.TrayBest", spec := "trayBest", unfollowed := true, recurses := true, apart := false }
def TrayBestSaid : Prop := trayBestRow.holds Try.pinned (OpenSpec.ofChange trayBestSpec)

/-- ITS FALSE NEIGHBOUR: 'it returns false'. Refute it at one input. -/
def trayBestWrong : ChangeSpec := { name := "trayBest", fn := fun _ => fun
  | [d1, d2] => { results := [.lit (.bool false)], args := [d1, d2] }
  | _ => none }
def TrayBestWrongFalsely : Prop := trayBestRow.holds Try.pinned (OpenSpec.ofChange trayBestWrong)

/-- 'shellaclaw02.TrayPlays': WHATEVER THE INPUT: true; the input reads as it did. -/
def trayPlaysSpec : ChangeSpec := { name := "trayPlays", fn := fun _ => fun
  | [d] => { results := [.lit (.bool true)], args := [d] }
  | _ => none }
def trayPlaysRow : OpenClaim := { program := "ytkpgpgaojjobgaa", sum := "3df95858ee60d8f4fc660d62d93601fb862ce651c2a442b743be3ed4771f0bc3", func := "shellac/shellaclaw02.TrayPlays", spec := "trayPlays", unfollowed := true, recurses := true, apart := false }
def TrayPlaysSaid : Prop := trayPlaysRow.holds Try.pinned (OpenSpec.ofChange trayPlaysSpec)

/-- ITS FALSE NEIGHBOUR: 'it returns false'. Refute it at one input. -/
def trayPlaysWrong : ChangeSpec := { name := "trayPlays", fn := fun _ => fun
  | [d] => { results := [.lit (.bool false)], args := [d] }
  | _ => none }
def TrayPlaysWrongFalsely : Prop := trayPlaysRow.holds Try.pinned (OpenSpec.ofChange trayPlaysWrong)

/-- 'shellaclaw02.TraySoonest': WHATEVER THE INPUT: true; the input reads as it did. -/
def traySoonestSpec : ChangeSpec := { name := "traySoonest", fn := fun _ => fun
  | [d] => { results := [.lit (.bool true)], args := [d] }
  | _ => none }
def traySoonestRow : OpenClaim := { program := "ytkpgpgaojjobgaa", sum := "3df95858ee60d8f4fc660d62d93601fb862ce651c2a442b743be3ed4771f0bc3", func := "shellac/shellaclaw02.TraySoonest", spec := "traySoonest", unfollowed := true, recurses := true, apart := false }
def TraySoonestSaid : Prop := traySoonestRow.holds Try.pinned (OpenSpec.ofChange traySoonestSpec)

/-- ITS FALSE NEIGHBOUR: 'it returns false'. Refute it at one input. -/
def traySoonestWrong : ChangeSpec := { name := "traySoonest", fn := fun _ => fun
  | [d] => { results := [.lit (.bool false)], args := [d] }
  | _ => none }
def TraySoonestWrongFalsely : Prop := traySoonestRow.holds Try.pinned (OpenSpec.ofChange traySoonestWrong)

/-- 'shellaclaw02.TrayOnce': WHATEVER THE INPUT: true; the input reads as it did. -/
def trayOnceSpec : ChangeSpec := { name := "trayOnce", fn := fun _ => fun
  | [d] => { results := [.lit (.bool true)], args := [d] }
  | _ => none }
def trayOnceRow : OpenClaim := { program := "ytkpgpgaojjobgaa", sum := "3df95858ee60d8f4fc660d62d93601fb862ce651c2a442b743be3ed4771f0bc3", func := "shellac/shellaclaw02.TrayOnce", spec := "trayOnce", unfollowed := true, recurses := true, apart := false }
def TrayOnceSaid : Prop := trayOnceRow.holds Try.pinned (OpenSpec.ofChange trayOnceSpec)

/-- ITS FALSE NEIGHBOUR: 'it returns false'. Refute it at one input. -/
def trayOnceWrong : ChangeSpec := { name := "trayOnce", fn := fun _ => fun
  | [d] => { results := [.lit (.bool false)], args := [d] }
  | _ => none }
def TrayOnceWrongFalsely : Prop := trayOnceRow.holds Try.pinned (OpenSpec.ofChange trayOnceWrong)

/-- 'shellaclaw02.TrayOrder': WHATEVER THE INPUT: true; the input reads as it did. -/
def trayOrderSpec : ChangeSpec := { name := "trayOrder", fn := fun _ => fun
  | [d1, d2, d3] => { results := [.lit (.bool true)], args := [d1, d2, d3] }
  | _ => none }
def trayOrderRow : OpenClaim := { program := "ytkpgpgaojjobgaa", sum := "3df95858ee60d8f4fc660d62d93601fb862ce651c2a442b743be3ed4771f0bc3", func := "shellac/shellaclaw02.TrayOrder", spec := "trayOrder", unfollowed := true, recurses := true, apart := false }
def TrayOrderSaid : Prop := trayOrderRow.holds Try.pinned (OpenSpec.ofChange trayOrderSpec)

/-- ITS FALSE NEIGHBOUR: 'it returns false'. Refute it at one input. -/
def trayOrderWrong : ChangeSpec := { name := "trayOrder", fn := fun _ => fun
  | [d1, d2, d3] => { results := [.lit (.bool false)], args := [d1, d2, d3] }
  | _ => none }
def TrayOrderWrongFalsely : Prop := trayOrderRow.holds Try.pinned (OpenSpec.ofChange trayOrderWrong)

/-- 'shellaclaw02.TrayWaits': WHATEVER THE INPUT: true; the input reads as it did. -/
def trayWaitsSpec : ChangeSpec := { name := "trayWaits", fn := fun _ => fun
  | [d1, d2] => { results := [.lit (.bool true)], args := [d1, d2] }
  | _ => none }
def trayWaitsRow : OpenClaim := { program := "ytkpgpgaojjobgaa", sum := "3df95858ee60d8f4fc660d62d93601fb862ce651c2a442b743be3ed4771f0bc3", func := "shellac/shellaclaw02.TrayWaits", spec := "trayWaits", unfollowed := true, recurses := true, apart := false }
def TrayWaitsSaid : Prop := trayWaitsRow.holds Try.pinned (OpenSpec.ofChange trayWaitsSpec)

/-- ITS FALSE NEIGHBOUR: 'it returns false'. Refute it at one input. -/
def trayWaitsWrong : ChangeSpec := { name := "trayWaits", fn := fun _ => fun
  | [d1, d2] => { results := [.lit (.bool false)], args := [d1, d2] }
  | _ => none }
def TrayWaitsWrongFalsely : Prop := trayWaitsRow.holds Try.pinned (OpenSpec.ofChange trayWaitsWrong)

/- THE SECOND FORM. 'bulk': how many values and letters a reading holds, each counted each time it is reached (what is shared counts as often as it is met; a slice's spare places count too). A statement '..UptoSaid' is the law's where the arguments, and the package variables that the reading takes, are together of bulk at most 1048576: NARROWER than '..Said'. Prove '..Said' where nothing that the law and all that it calls make is longer than what came in: it says more and counts as full. Else prove '..UptoSaid'. A law counts once. -/
mutual
def uptoBulk {H : Type} : DataW H → Nat
  | .lit (.string bytes) => bytes.length + 1
  | .lit _ => 1
  | .nil => 1
  | .ptr d => uptoBulk d + 1
  | .slice elems spare => uptoBulkAll elems + uptoBulkAll spare + 1
  | .agg parts => uptoBulkAll parts + 1
  | .iface _ d => uptoBulk d + 1
  | .map entries => uptoBulkEntries entries + 1
  | .held _ => 1
def uptoBulkAll {H : Type} : List (DataW H) → Nat
  | [] => 0
  | d :: r => uptoBulk d + uptoBulkAll r
def uptoBulkEntries {H : Type} : List (Lit × DataW H) → Nat
  | [] => 0
  | x :: r => uptoBulkEntry x + uptoBulkEntries r
def uptoBulkEntry {H : Type} : Lit × DataW H → Nat
  | (.string bytes, d) => bytes.length + uptoBulk d + 1
  | (_, d) => uptoBulk d + 1
 end
def uptoSmall : (H : Type) → List (DataW H) → Bool := fun _ ds => decide (uptoBulkAll ds ≤ 1048576)
def OpenSpec.upto (s : _root_.Go.ChangeSpec) : _root_.Go.OpenSpec := { _root_.Go.OpenSpec.ofChange s with cond := some uptoSmall }

/-- 'shellaclaw02.TrayBefore', WHERE WHAT IT READS IS OF BULK AT MOST 1048576: true; the input reads as it did. -/
def trayBeforeUptoRow : OpenClaim := { program := "ytkpgpgaojjobgaa", sum := "3df95858ee60d8f4fc660d62d93601fb862ce651c2a442b743be3ed4771f0bc3", func := "shellac/shellaclaw02.TrayBefore", spec := "trayBefore", unfollowed := true, recurses := true, apart := false, narrowed := true }
def TrayBeforeUptoSaid : Prop := trayBeforeUptoRow.holds Try.pinned (OpenSpec.upto trayBeforeSpec)

/-- 'shellaclaw02.TrayShown', WHERE WHAT IT READS IS OF BULK AT MOST 1048576: true; the input reads as it did. -/
def trayShownUptoRow : OpenClaim := { program := "ytkpgpgaojjobgaa", sum := "3df95858ee60d8f4fc660d62d93601fb862ce651c2a442b743be3ed4771f0bc3", func := "shellac/shellaclaw02.TrayShown", spec := "trayShown", unfollowed := true, recurses := true, apart := false, narrowed := true }
def TrayShownUptoSaid : Prop := trayShownUptoRow.holds Try.pinned (OpenSpec.upto trayShownSpec)

/-- 'shellaclaw02.TrayInTime', WHERE WHAT IT READS IS OF BULK AT MOST 1048576: true; the input reads as it did. -/
def trayInTimeUptoRow : OpenClaim := { program := "ytkpgpgaojjobgaa", sum := "3df95858ee60d8f4fc660d62d93601fb862ce651c2a442b743be3ed4771f0bc3", func := "shellac/shellaclaw02.TrayInTime", spec := "trayInTime", unfollowed := true, recurses := true, apart := false, narrowed := true }
def TrayInTimeUptoSaid : Prop := trayInTimeUptoRow.holds Try.pinned (OpenSpec.upto trayInTimeSpec)

/-- 'shellaclaw02.TrayStands', WHERE WHAT IT READS IS OF BULK AT MOST 1048576: true; the input reads as it did. -/
def trayStandsUptoRow : OpenClaim := { program := "ytkpgpgaojjobgaa", sum := "3df95858ee60d8f4fc660d62d93601fb862ce651c2a442b743be3ed4771f0bc3", func := "shellac/shellaclaw02.TrayStands", spec := "trayStands", unfollowed := true, recurses := true, apart := false, narrowed := true }
def TrayStandsUptoSaid : Prop := trayStandsUptoRow.holds Try.pinned (OpenSpec.upto trayStandsSpec)

/-- 'shellaclaw02.TrayLatest', WHERE WHAT IT READS IS OF BULK AT MOST 1048576: true; the input reads as it did. -/
def trayLatestUptoRow : OpenClaim := { program := "ytkpgpgaojjobgaa", sum := "3df95858ee60d8f4fc660d62d93601fb862ce651c2a442b743be3ed4771f0bc3", func := "shellac/shellaclaw02.TrayLatest", spec := "trayLatest", unfollowed := true, recurses := true, apart := false, narrowed := true }
def TrayLatestUptoSaid : Prop := trayLatestUptoRow.holds Try.pinned (OpenSpec.upto trayLatestSpec)

/-- 'shellaclaw02.TrayTwice', WHERE WHAT IT READS IS OF BULK AT MOST 1048576: true; the input reads as it did. -/
def trayTwiceUptoRow : OpenClaim := { program := "ytkpgpgaojjobgaa", sum := "3df95858ee60d8f4fc660d62d93601fb862ce651c2a442b743be3ed4771f0bc3", func := "shellac/shellaclaw02.TrayTwice", spec := "trayTwice", unfollowed := true, recurses := true, apart := false, narrowed := true }
def TrayTwiceUptoSaid : Prop := trayTwiceUptoRow.holds Try.pinned (OpenSpec.upto trayTwiceSpec)

/-- 'shellaclaw02.TrayTurned', WHERE WHAT IT READS IS OF BULK AT MOST 1048576: true; the input reads as it did. -/
def trayTurnedUptoRow : OpenClaim := { program := "ytkpgpgaojjobgaa", sum := "3df95858ee60d8f4fc660d62d93601fb862ce651c2a442b743be3ed4771f0bc3", func := "shellac/shellaclaw02.TrayTurned", spec := "trayTurned", unfollowed := true, recurses := true, apart := false, narrowed := true }
def TrayTurnedUptoSaid : Prop := trayTurnedUptoRow.holds Try.pinned (OpenSpec.upto trayTurnedSpec)

/-- 'shellaclaw02.TrayBest', WHERE WHAT IT READS IS OF BULK AT MOST 1048576: true; the input reads as it did. -/
def trayBestUptoRow : OpenClaim := { program := "ytkpgpgaojjobgaa", sum := "3df95858ee60d8f4fc660d62d93601fb862ce651c2a442b743be3ed4771f0bc3", func := "shellac/shellaclaw02.TrayBest", spec := "trayBest", unfollowed := true, recurses := true, apart := false, narrowed := true }
def TrayBestUptoSaid : Prop := trayBestUptoRow.holds Try.pinned (OpenSpec.upto trayBestSpec)

/-- 'shellaclaw02.TrayPlays', WHERE WHAT IT READS IS OF BULK AT MOST 1048576: true; the input reads as it did. -/
def trayPlaysUptoRow : OpenClaim := { program := "ytkpgpgaojjobgaa", sum := "3df95858ee60d8f4fc660d62d93601fb862ce651c2a442b743be3ed4771f0bc3", func := "shellac/shellaclaw02.TrayPlays", spec := "trayPlays", unfollowed := true, recurses := true, apart := false, narrowed := true }
def TrayPlaysUptoSaid : Prop := trayPlaysUptoRow.holds Try.pinned (OpenSpec.upto trayPlaysSpec)

/-- 'shellaclaw02.TraySoonest', WHERE WHAT IT READS IS OF BULK AT MOST 1048576: true; the input reads as it did. -/
def traySoonestUptoRow : OpenClaim := { program := "ytkpgpgaojjobgaa", sum := "3df95858ee60d8f4fc660d62d93601fb862ce651c2a442b743be3ed4771f0bc3", func := "shellac/shellaclaw02.TraySoonest", spec := "traySoonest", unfollowed := true, recurses := true, apart := false, narrowed := true }
def TraySoonestUptoSaid : Prop := traySoonestUptoRow.holds Try.pinned (OpenSpec.upto traySoonestSpec)

/-- 'shellaclaw02.TrayOnce', WHERE WHAT IT READS IS OF BULK AT MOST 1048576: true; the input reads as it did. -/
def trayOnceUptoRow : OpenClaim := { program := "ytkpgpgaojjobgaa", sum := "3df95858ee60d8f4fc660d62d93601fb862ce651c2a442b743be3ed4771f0bc3", func := "shellac/shellaclaw02.TrayOnce", spec := "trayOnce", unfollowed := true, recurses := true, apart := false, narrowed := true }
def TrayOnceUptoSaid : Prop := trayOnceUptoRow.holds Try.pinned (OpenSpec.upto trayOnceSpec)

/-- 'shellaclaw02.TrayOrder', WHERE WHAT IT READS IS OF BULK AT MOST 1048576: true; the input reads as it did. -/
def trayOrderUptoRow : OpenClaim := { program := "ytkpgpgaojjobgaa", sum := "3df95858ee60d8f4fc660d62d93601fb862ce651c2a442b743be3ed4771f0bc3", func := "shellac/shellaclaw02.TrayOrder", spec := "trayOrder", unfollowed := true, recurses := true, apart := false, narrowed := true }
def TrayOrderUptoSaid : Prop := trayOrderUptoRow.holds Try.pinned (OpenSpec.upto trayOrderSpec)

/-- 'shellaclaw02.TrayWaits', WHERE WHAT IT READS IS OF BULK AT MOST 1048576: true; the input reads as it did. -/
def trayWaitsUptoRow : OpenClaim := { program := "ytkpgpgaojjobgaa", sum := "3df95858ee60d8f4fc660d62d93601fb862ce651c2a442b743be3ed4771f0bc3", func := "shellac/shellaclaw02.TrayWaits", spec := "trayWaits", unfollowed := true, recurses := true, apart := false, narrowed := true }
def TrayWaitsUptoSaid : Prop := trayWaitsUptoRow.holds Try.pinned (OpenSpec.upto trayWaitsSpec)

end Rows
end Go.Proofs.Ytkpgpgaojjobgaa
