/-
  No cell of these rows narrows 'for every input' (looked for: loops, veiled, ifaces, maps, wideKeys, modest, calm, conditions, laid).
  DERIVED. THE GIVEN ROWS OF THIS SEAT. 10 by the template 'for every input the law returns true; each argument reads behind the call as it read before'; 0 by the template 'total and deterministic' (their statements: YtbejgfpaokcnpaaTotals.lean).
  GIVEN WITH THE SEED: the statements are not yours to turn. If you find one false, say at which input.
  Laid BY PROGRAM, IN A SANDBOX (cutbox-rows.mjs): the forced cells as the released guide's own fill.sh prints them over the translation 2d73b129760d1010… (all of the seat's roots in one cut). By AI agents, Wed Nov 11 2026. No macro, syntax, notation, axiom, sorry.
-/
import Derived.Test.YtbejgfpaokcnpaaChecked
import GoSem.Claim
import GoSem.ClaimJoined
import GoSem.ClaimMapViews
import Derived.JoinedTies
import Derived.KernelRfl
namespace Go.Proofs.Ytbejgfpaokcnpaa
/- THE CELL 'sum', in the pinned program and in every row, IS THE sha256 OF THE DUMP (.gsa) THAT YtbejgfpaokcnpaaProg.lean LOADS. Nothing in Lean hashes anything: it is a label: what it is worth is what the hold of that sum in a sandbox is worth. -/
noncomputable def Try.pinned : Pinned := { name := "ytbejgfpaokcnpaa", sum := "2d73b129760d1010a8b6c2b6d0ee71d80c247809255ebb26a0d09524a615cce8", checked := Try.checked }
namespace Rows
def none {H : Type} : Left H := { results := [], args := [] }

/-- 'shellaclaw08.RouteLater': WHATEVER THE INPUT: true; the input reads as it did. -/
def routeLaterSpec : ChangeSpec := { name := "routeLater", fn := fun _ => fun
  | [d1, d2] => { results := [.lit (.bool true)], args := [d1, d2] }
  | _ => none }
def routeLaterRow : OpenClaim := { program := "ytbejgfpaokcnpaa", sum := "2d73b129760d1010a8b6c2b6d0ee71d80c247809255ebb26a0d09524a615cce8", func := "shellac/shellaclaw08.RouteLater", spec := "routeLater", unfollowed := true, recurses := true, apart := false }
def RouteLaterSaid : Prop := routeLaterRow.holds Try.pinned (OpenSpec.ofChange routeLaterSpec)

/-- ITS FALSE NEIGHBOUR: 'it returns false'. Refute it at one input. -/
def routeLaterWrong : ChangeSpec := { name := "routeLater", fn := fun _ => fun
  | [d1, d2] => { results := [.lit (.bool false)], args := [d1, d2] }
  | _ => none }
def RouteLaterWrongFalsely : Prop := routeLaterRow.holds Try.pinned (OpenSpec.ofChange routeLaterWrong)

/-- 'shellaclaw08.RouteShortest': WHATEVER THE INPUT: true; the input reads as it did. -/
def routeShortestSpec : ChangeSpec := { name := "routeShortest", fn := fun _ => fun
  | [d] => { results := [.lit (.bool true)], args := [d] }
  | _ => none }
def routeShortestRow : OpenClaim := { program := "ytbejgfpaokcnpaa", sum := "2d73b129760d1010a8b6c2b6d0ee71d80c247809255ebb26a0d09524a615cce8", func := "shellac/shellaclaw08.RouteShortest", spec := "routeShortest", unfollowed := true, recurses := true, apart := false }
def RouteShortestSaid : Prop := routeShortestRow.holds Try.pinned (OpenSpec.ofChange routeShortestSpec)

/-- ITS FALSE NEIGHBOUR: 'it returns false'. Refute it at one input. -/
def routeShortestWrong : ChangeSpec := { name := "routeShortest", fn := fun _ => fun
  | [d] => { results := [.lit (.bool false)], args := [d] }
  | _ => none }
def RouteShortestWrongFalsely : Prop := routeShortestRow.holds Try.pinned (OpenSpec.ofChange routeShortestWrong)

/-- 'shellaclaw08.RouteTimes': WHATEVER THE INPUT: true; the input reads as it did. -/
def routeTimesSpec : ChangeSpec := { name := "routeTimes", fn := fun _ => fun
  | [d1, d2] => { results := [.lit (.bool true)], args := [d1, d2] }
  | _ => none }
def routeTimesRow : OpenClaim := { program := "ytbejgfpaokcnpaa", sum := "2d73b129760d1010a8b6c2b6d0ee71d80c247809255ebb26a0d09524a615cce8", func := "shellac/shellaclaw08.RouteTimes", spec := "routeTimes", unfollowed := true, recurses := true, apart := false }
def RouteTimesSaid : Prop := routeTimesRow.holds Try.pinned (OpenSpec.ofChange routeTimesSpec)

/-- ITS FALSE NEIGHBOUR: 'it returns false'. Refute it at one input. -/
def routeTimesWrong : ChangeSpec := { name := "routeTimes", fn := fun _ => fun
  | [d1, d2] => { results := [.lit (.bool false)], args := [d1, d2] }
  | _ => none }
def RouteTimesWrongFalsely : Prop := routeTimesRow.holds Try.pinned (OpenSpec.ofChange routeTimesWrong)

/-- 'shellaclaw08.RouteSoonest': WHATEVER THE INPUT: true; the input reads as it did. -/
def routeSoonestSpec : ChangeSpec := { name := "routeSoonest", fn := fun _ => fun
  | [d] => { results := [.lit (.bool true)], args := [d] }
  | _ => none }
def routeSoonestRow : OpenClaim := { program := "ytbejgfpaokcnpaa", sum := "2d73b129760d1010a8b6c2b6d0ee71d80c247809255ebb26a0d09524a615cce8", func := "shellac/shellaclaw08.RouteSoonest", spec := "routeSoonest", unfollowed := true, recurses := true, apart := false }
def RouteSoonestSaid : Prop := routeSoonestRow.holds Try.pinned (OpenSpec.ofChange routeSoonestSpec)

/-- ITS FALSE NEIGHBOUR: 'it returns false'. Refute it at one input. -/
def routeSoonestWrong : ChangeSpec := { name := "routeSoonest", fn := fun _ => fun
  | [d] => { results := [.lit (.bool false)], args := [d] }
  | _ => none }
def RouteSoonestWrongFalsely : Prop := routeSoonestRow.holds Try.pinned (OpenSpec.ofChange routeSoonestWrong)

/-- 'shellaclaw08.RouteEased': WHATEVER THE INPUT: true; the input reads as it did. -/
def routeEasedSpec : ChangeSpec := { name := "routeEased", fn := fun _ => fun
  | [d1, d2, d3] => { results := [.lit (.bool true)], args := [d1, d2, d3] }
  | _ => none }
def routeEasedRow : OpenClaim := { program := "ytbejgfpaokcnpaa", sum := "2d73b129760d1010a8b6c2b6d0ee71d80c247809255ebb26a0d09524a615cce8", func := "shellac/shellaclaw08.RouteEased", spec := "routeEased", unfollowed := true, recurses := true, apart := false }
def RouteEasedSaid : Prop := routeEasedRow.holds Try.pinned (OpenSpec.ofChange routeEasedSpec)

/-- ITS FALSE NEIGHBOUR: 'it returns false'. Refute it at one input. -/
def routeEasedWrong : ChangeSpec := { name := "routeEased", fn := fun _ => fun
  | [d1, d2, d3] => { results := [.lit (.bool false)], args := [d1, d2, d3] }
  | _ => none }
def RouteEasedWrongFalsely : Prop := routeEasedRow.holds Try.pinned (OpenSpec.ofChange routeEasedWrong)

/-- 'shellaclaw08.RouteMost': WHATEVER THE INPUT: true; the input reads as it did. -/
def routeMostSpec : ChangeSpec := { name := "routeMost", fn := fun _ => fun
  | [d] => { results := [.lit (.bool true)], args := [d] }
  | _ => none }
def routeMostRow : OpenClaim := { program := "ytbejgfpaokcnpaa", sum := "2d73b129760d1010a8b6c2b6d0ee71d80c247809255ebb26a0d09524a615cce8", func := "shellac/shellaclaw08.RouteMost", spec := "routeMost", unfollowed := true, recurses := true, apart := false }
def RouteMostSaid : Prop := routeMostRow.holds Try.pinned (OpenSpec.ofChange routeMostSpec)

/-- ITS FALSE NEIGHBOUR: 'it returns false'. Refute it at one input. -/
def routeMostWrong : ChangeSpec := { name := "routeMost", fn := fun _ => fun
  | [d] => { results := [.lit (.bool false)], args := [d] }
  | _ => none }
def RouteMostWrongFalsely : Prop := routeMostRow.holds Try.pinned (OpenSpec.ofChange routeMostWrong)

/-- 'shellaclaw08.RouteEach': WHATEVER THE INPUT: true; the input reads as it did. -/
def routeEachSpec : ChangeSpec := { name := "routeEach", fn := fun _ => fun
  | [d1, d2] => { results := [.lit (.bool true)], args := [d1, d2] }
  | _ => none }
def routeEachRow : OpenClaim := { program := "ytbejgfpaokcnpaa", sum := "2d73b129760d1010a8b6c2b6d0ee71d80c247809255ebb26a0d09524a615cce8", func := "shellac/shellaclaw08.RouteEach", spec := "routeEach", unfollowed := true, recurses := true, apart := false }
def RouteEachSaid : Prop := routeEachRow.holds Try.pinned (OpenSpec.ofChange routeEachSpec)

/-- ITS FALSE NEIGHBOUR: 'it returns false'. Refute it at one input. -/
def routeEachWrong : ChangeSpec := { name := "routeEach", fn := fun _ => fun
  | [d1, d2] => { results := [.lit (.bool false)], args := [d1, d2] }
  | _ => none }
def RouteEachWrongFalsely : Prop := routeEachRow.holds Try.pinned (OpenSpec.ofChange routeEachWrong)

/-- 'shellaclaw08.RouteWhole': WHATEVER THE INPUT: true; the input reads as it did. -/
def routeWholeSpec : ChangeSpec := { name := "routeWhole", fn := fun _ => fun
  | [d] => { results := [.lit (.bool true)], args := [d] }
  | _ => none }
def routeWholeRow : OpenClaim := { program := "ytbejgfpaokcnpaa", sum := "2d73b129760d1010a8b6c2b6d0ee71d80c247809255ebb26a0d09524a615cce8", func := "shellac/shellaclaw08.RouteWhole", spec := "routeWhole", unfollowed := true, recurses := true, apart := false }
def RouteWholeSaid : Prop := routeWholeRow.holds Try.pinned (OpenSpec.ofChange routeWholeSpec)

/-- ITS FALSE NEIGHBOUR: 'it returns false'. Refute it at one input. -/
def routeWholeWrong : ChangeSpec := { name := "routeWhole", fn := fun _ => fun
  | [d] => { results := [.lit (.bool false)], args := [d] }
  | _ => none }
def RouteWholeWrongFalsely : Prop := routeWholeRow.holds Try.pinned (OpenSpec.ofChange routeWholeWrong)

/-- 'shellaclaw08.RouteShifted': WHATEVER THE INPUT: true; the input reads as it did. -/
def routeShiftedSpec : ChangeSpec := { name := "routeShifted", fn := fun _ => fun
  | [d1, d2, d3] => { results := [.lit (.bool true)], args := [d1, d2, d3] }
  | _ => none }
def routeShiftedRow : OpenClaim := { program := "ytbejgfpaokcnpaa", sum := "2d73b129760d1010a8b6c2b6d0ee71d80c247809255ebb26a0d09524a615cce8", func := "shellac/shellaclaw08.RouteShifted", spec := "routeShifted", unfollowed := true, recurses := true, apart := false }
def RouteShiftedSaid : Prop := routeShiftedRow.holds Try.pinned (OpenSpec.ofChange routeShiftedSpec)

/-- ITS FALSE NEIGHBOUR: 'it returns false'. Refute it at one input. -/
def routeShiftedWrong : ChangeSpec := { name := "routeShifted", fn := fun _ => fun
  | [d1, d2, d3] => { results := [.lit (.bool false)], args := [d1, d2, d3] }
  | _ => none }
def RouteShiftedWrongFalsely : Prop := routeShiftedRow.holds Try.pinned (OpenSpec.ofChange routeShiftedWrong)

/-- 'shellaclaw08.RouteOrder': WHATEVER THE INPUT: true; the input reads as it did. -/
def routeOrderSpec : ChangeSpec := { name := "routeOrder", fn := fun _ => fun
  | [d1, d2] => { results := [.lit (.bool true)], args := [d1, d2] }
  | _ => none }
def routeOrderRow : OpenClaim := { program := "ytbejgfpaokcnpaa", sum := "2d73b129760d1010a8b6c2b6d0ee71d80c247809255ebb26a0d09524a615cce8", func := "shellac/shellaclaw08.RouteOrder", spec := "routeOrder", unfollowed := true, recurses := true, apart := false }
def RouteOrderSaid : Prop := routeOrderRow.holds Try.pinned (OpenSpec.ofChange routeOrderSpec)

/-- ITS FALSE NEIGHBOUR: 'it returns false'. Refute it at one input. -/
def routeOrderWrong : ChangeSpec := { name := "routeOrder", fn := fun _ => fun
  | [d1, d2] => { results := [.lit (.bool false)], args := [d1, d2] }
  | _ => none }
def RouteOrderWrongFalsely : Prop := routeOrderRow.holds Try.pinned (OpenSpec.ofChange routeOrderWrong)

/- THE SECOND FORM. 'bulk': how many values and letters a reading holds, each counted each time it is reached (what is shared counts as often as it is met; a slice's spare places count too). A statement '..UptoSaid' is the law's where the arguments, and the package variables that the reading takes, are together of bulk at most 1048576: NARROWER than '..Said'. Prove '..Said' where nothing that the law and all that it calls make is longer than what came in: it says more and counts as full. Else prove '..UptoSaid'. A law counts once. -/
mutual
def uptoBulk {H : Type} : DataW H → Nat
  | .lit (.string bytes) => bytes.length + 1
  | .lit _ => 1
  | .nil => 1
  | .ptr d => uptoBulk d + 1
  | .slice elems spare => uptoBulkAll elems + uptoBulkAll spare + 1
  | .agg parts => uptoBulkAll parts + 1
  | .iface _ d => uptoBulk d + 1
  | .map entries => uptoBulkEntries entries + 1
  | .held _ => 1
def uptoBulkAll {H : Type} : List (DataW H) → Nat
  | [] => 0
  | d :: r => uptoBulk d + uptoBulkAll r
def uptoBulkEntries {H : Type} : List (Lit × DataW H) → Nat
  | [] => 0
  | x :: r => uptoBulkEntry x + uptoBulkEntries r
def uptoBulkEntry {H : Type} : Lit × DataW H → Nat
  | (.string bytes, d) => bytes.length + uptoBulk d + 1
  | (_, d) => uptoBulk d + 1
 end
def uptoSmall : (H : Type) → List (DataW H) → Bool := fun _ ds => decide (uptoBulkAll ds ≤ 1048576)
def OpenSpec.upto (s : _root_.Go.ChangeSpec) : _root_.Go.OpenSpec := { _root_.Go.OpenSpec.ofChange s with cond := some uptoSmall }

/-- 'shellaclaw08.RouteLater', WHERE WHAT IT READS IS OF BULK AT MOST 1048576: true; the input reads as it did. -/
def routeLaterUptoRow : OpenClaim := { program := "ytbejgfpaokcnpaa", sum := "2d73b129760d1010a8b6c2b6d0ee71d80c247809255ebb26a0d09524a615cce8", func := "shellac/shellaclaw08.RouteLater", spec := "routeLater", unfollowed := true, recurses := true, apart := false, narrowed := true }
def RouteLaterUptoSaid : Prop := routeLaterUptoRow.holds Try.pinned (OpenSpec.upto routeLaterSpec)

/-- 'shellaclaw08.RouteShortest', WHERE WHAT IT READS IS OF BULK AT MOST 1048576: true; the input reads as it did. -/
def routeShortestUptoRow : OpenClaim := { program := "ytbejgfpaokcnpaa", sum := "2d73b129760d1010a8b6c2b6d0ee71d80c247809255ebb26a0d09524a615cce8", func := "shellac/shellaclaw08.RouteShortest", spec := "routeShortest", unfollowed := true, recurses := true, apart := false, narrowed := true }
def RouteShortestUptoSaid : Prop := routeShortestUptoRow.holds Try.pinned (OpenSpec.upto routeShortestSpec)

/-- 'shellaclaw08.RouteTimes', WHERE WHAT IT READS IS OF BULK AT MOST 1048576: true; the input reads as it did. -/
def routeTimesUptoRow : OpenClaim := { program := "ytbejgfpaokcnpaa", sum := "2d73b129760d1010a8b6c2b6d0ee71d80c247809255ebb26a0d09524a615cce8", func := "shellac/shellaclaw08.RouteTimes", spec := "routeTimes", unfollowed := true, recurses := true, apart := false, narrowed := true }
def RouteTimesUptoSaid : Prop := routeTimesUptoRow.holds Try.pinned (OpenSpec.upto routeTimesSpec)

/-- 'shellaclaw08.RouteSoonest', WHERE WHAT IT READS IS OF BULK AT MOST 1048576: true; the input reads as it did. -/
def routeSoonestUptoRow : OpenClaim := { program := "ytbejgfpaokcnpaa", sum := "2d73b129760d1010a8b6c2b6d0ee71d80c247809255ebb26a0d09524a615cce8", func := "shellac/shellaclaw08.RouteSoonest", spec := "routeSoonest", unfollowed := true, recurses := true, apart := false, narrowed := true }
def RouteSoonestUptoSaid : Prop := routeSoonestUptoRow.holds Try.pinned (OpenSpec.upto routeSoonestSpec)

/-- 'shellaclaw08.RouteEased', WHERE WHAT IT READS IS OF BULK AT MOST 1048576: true; the input reads as it did. -/
def routeEasedUptoRow : OpenClaim := { program := "ytbejgfpaokcnpaa", sum := "2d73b129760d1010a8b6c2b6d0ee71d80c247809255ebb26a0d09524a615cce8", func := "shellac/shellaclaw08.RouteEased", spec := "routeEased", unfollowed := true, recurses := true, apart := false, narrowed := true }
def RouteEasedUptoSaid : Prop := routeEasedUptoRow.holds Try.pinned (OpenSpec.upto routeEasedSpec)

/-- 'shellaclaw08.RouteMost', WHERE WHAT IT READS IS OF BULK AT MOST 1048576: true; the input reads as it did. -/
def routeMostUptoRow : OpenClaim := { program := "ytbejgfpaokcnpaa", sum := "2d73b129760d1010a8b6c2b6d0ee71d80c247809255ebb26a0d09524a615cce8", func := "shellac/shellaclaw08.RouteMost", spec := "routeMost", unfollowed := true, recurses := true, apart := false, narrowed := true }
def RouteMostUptoSaid : Prop := routeMostUptoRow.holds Try.pinned (OpenSpec.upto routeMostSpec)

/-- 'shellaclaw08.RouteEach', WHERE WHAT IT READS IS OF BULK AT MOST 1048576: true; the input reads as it did. -/
def routeEachUptoRow : OpenClaim := { program := "ytbejgfpaokcnpaa", sum := "2d73b129760d1010a8b6c2b6d0ee71d80c247809255ebb26a0d09524a615cce8", func := "shellac/shellaclaw08.RouteEach", spec := "routeEach", unfollowed := true, recurses := true, apart := false, narrowed := true }
def RouteEachUptoSaid : Prop := routeEachUptoRow.holds Try.pinned (OpenSpec.upto routeEachSpec)

/-- 'shellaclaw08.RouteWhole', WHERE WHAT IT READS IS OF BULK AT MOST 1048576: true; the input reads as it did. -/
def routeWholeUptoRow : OpenClaim := { program := "ytbejgfpaokcnpaa", sum := "2d73b129760d1010a8b6c2b6d0ee71d80c247809255ebb26a0d09524a615cce8", func := "shellac/shellaclaw08.RouteWhole", spec := "routeWhole", unfollowed := true, recurses := true, apart := false, narrowed := true }
def RouteWholeUptoSaid : Prop := routeWholeUptoRow.holds Try.pinned (OpenSpec.upto routeWholeSpec)

/-- 'shellaclaw08.RouteShifted', WHERE WHAT IT READS IS OF BULK AT MOST 1048576: true; the input reads as it did. -/
def routeShiftedUptoRow : OpenClaim := { program := "ytbejgfpaokcnpaa", sum := "2d73b129760d1010a8b6c2b6d0ee71d80c247809255ebb26a0d09524a615cce8", func := "shellac/shellaclaw08.RouteShifted", spec := "routeShifted", unfollowed := true, recurses := true, apart := false, narrowed := true }
def RouteShiftedUptoSaid : Prop := routeShiftedUptoRow.holds Try.pinned (OpenSpec.upto routeShiftedSpec)

/-- 'shellaclaw08.RouteOrder', WHERE WHAT IT READS IS OF BULK AT MOST 1048576: true; the input reads as it did. -/
def routeOrderUptoRow : OpenClaim := { program := "ytbejgfpaokcnpaa", sum := "2d73b129760d1010a8b6c2b6d0ee71d80c247809255ebb26a0d09524a615cce8", func := "shellac/shellaclaw08.RouteOrder", spec := "routeOrder", unfollowed := true, recurses := true, apart := false, narrowed := true }
def RouteOrderUptoSaid : Prop := routeOrderUptoRow.holds Try.pinned (OpenSpec.upto routeOrderSpec)

end Rows
end Go.Proofs.Ytbejgfpaokcnpaa
