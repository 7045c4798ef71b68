/-
  No cell of these rows narrows 'for every input' (looked for: loops, veiled, ifaces, maps, wideKeys, modest, calm, conditions, laid).
  DERIVED. THE GIVEN ROWS OF THIS SEAT. 10 by the template 'for every input the law returns true; each argument reads behind the call as it read before'; 0 by the template 'total and deterministic' (their statements: YtnmchaemhjnkgaaTotals.lean).
  GIVEN WITH THE SEED: the statements are not yours to turn. If you find one false, say at which input.
  Laid BY PROGRAM, IN A SANDBOX (cutbox-rows.mjs): the forced cells as the released guide's own fill.sh prints them over the translation 09d8f07a12fbbb55… (all of the seat's roots in one cut). By AI agents, Wed Nov 11 2026. No macro, syntax, notation, axiom, sorry.
-/
import Derived.Test.YtnmchaemhjnkgaaChecked
import GoSem.Claim
import GoSem.ClaimJoined
import GoSem.ClaimMapViews
import Derived.JoinedTies
import Derived.KernelRfl
namespace Go.Proofs.Ytnmchaemhjnkgaa
/- THE CELL 'sum', in the pinned program and in every row, IS THE sha256 OF THE DUMP (.gsa) THAT YtnmchaemhjnkgaaProg.lean LOADS. Nothing in Lean hashes anything: it is a label: what it is worth is what the hold of that sum in a sandbox is worth. -/
noncomputable def Try.pinned : Pinned := { name := "ytnmchaemhjnkgaa", sum := "09d8f07a12fbbb55a5cf847d9d7e9cee57c46baa496dd85b895c75350756b6c6", checked := Try.checked }
namespace Rows
def none {H : Type} : Left H := { results := [], args := [] }

/-- 'shellaclaw10.RoyaltiesOnce': WHATEVER THE INPUT: true; the input reads as it did. -/
def royaltiesOnceSpec : ChangeSpec := { name := "royaltiesOnce", fn := fun _ => fun
  | [d] => { results := [.lit (.bool true)], args := [d] }
  | _ => none }
def royaltiesOnceRow : OpenClaim := { program := "ytnmchaemhjnkgaa", sum := "09d8f07a12fbbb55a5cf847d9d7e9cee57c46baa496dd85b895c75350756b6c6", func := "shellac/shellaclaw10.RoyaltiesOnce", spec := "royaltiesOnce", unfollowed := true, recurses := true, apart := false }
def RoyaltiesOnceSaid : Prop := royaltiesOnceRow.holds Try.pinned (OpenSpec.ofChange royaltiesOnceSpec)

/-- ITS FALSE NEIGHBOUR: 'it returns false'. Refute it at one input. -/
def royaltiesOnceWrong : ChangeSpec := { name := "royaltiesOnce", fn := fun _ => fun
  | [d] => { results := [.lit (.bool false)], args := [d] }
  | _ => none }
def RoyaltiesOnceWrongFalsely : Prop := royaltiesOnceRow.holds Try.pinned (OpenSpec.ofChange royaltiesOnceWrong)

/-- 'shellaclaw10.RoyaltiesTwo': WHATEVER THE INPUT: true; the input reads as it did. -/
def royaltiesTwoSpec : ChangeSpec := { name := "royaltiesTwo", fn := fun _ => fun
  | [d1, d2, d3] => { results := [.lit (.bool true)], args := [d1, d2, d3] }
  | _ => none }
def royaltiesTwoRow : OpenClaim := { program := "ytnmchaemhjnkgaa", sum := "09d8f07a12fbbb55a5cf847d9d7e9cee57c46baa496dd85b895c75350756b6c6", func := "shellac/shellaclaw10.RoyaltiesTwo", spec := "royaltiesTwo", unfollowed := true, recurses := true, apart := false }
def RoyaltiesTwoSaid : Prop := royaltiesTwoRow.holds Try.pinned (OpenSpec.ofChange royaltiesTwoSpec)

/-- ITS FALSE NEIGHBOUR: 'it returns false'. Refute it at one input. -/
def royaltiesTwoWrong : ChangeSpec := { name := "royaltiesTwo", fn := fun _ => fun
  | [d1, d2, d3] => { results := [.lit (.bool false)], args := [d1, d2, d3] }
  | _ => none }
def RoyaltiesTwoWrongFalsely : Prop := royaltiesTwoRow.holds Try.pinned (OpenSpec.ofChange royaltiesTwoWrong)

/-- 'shellaclaw10.RoyaltiesMore': WHATEVER THE INPUT: true; the input reads as it did. -/
def royaltiesMoreSpec : ChangeSpec := { name := "royaltiesMore", fn := fun _ => fun
  | [d1, d2, d3] => { results := [.lit (.bool true)], args := [d1, d2, d3] }
  | _ => none }
def royaltiesMoreRow : OpenClaim := { program := "ytnmchaemhjnkgaa", sum := "09d8f07a12fbbb55a5cf847d9d7e9cee57c46baa496dd85b895c75350756b6c6", func := "shellac/shellaclaw10.RoyaltiesMore", spec := "royaltiesMore", unfollowed := true, recurses := true, apart := false }
def RoyaltiesMoreSaid : Prop := royaltiesMoreRow.holds Try.pinned (OpenSpec.ofChange royaltiesMoreSpec)

/-- ITS FALSE NEIGHBOUR: 'it returns false'. Refute it at one input. -/
def royaltiesMoreWrong : ChangeSpec := { name := "royaltiesMore", fn := fun _ => fun
  | [d1, d2, d3] => { results := [.lit (.bool false)], args := [d1, d2, d3] }
  | _ => none }
def RoyaltiesMoreWrongFalsely : Prop := royaltiesMoreRow.holds Try.pinned (OpenSpec.ofChange royaltiesMoreWrong)

/-- 'shellaclaw10.RoyaltiesPool': WHATEVER THE INPUT: true; the input reads as it did. -/
def royaltiesPoolSpec : ChangeSpec := { name := "royaltiesPool", fn := fun _ => fun
  | [d1, d2] => { results := [.lit (.bool true)], args := [d1, d2] }
  | _ => none }
def royaltiesPoolRow : OpenClaim := { program := "ytnmchaemhjnkgaa", sum := "09d8f07a12fbbb55a5cf847d9d7e9cee57c46baa496dd85b895c75350756b6c6", func := "shellac/shellaclaw10.RoyaltiesPool", spec := "royaltiesPool", unfollowed := true, recurses := true, apart := false }
def RoyaltiesPoolSaid : Prop := royaltiesPoolRow.holds Try.pinned (OpenSpec.ofChange royaltiesPoolSpec)

/-- ITS FALSE NEIGHBOUR: 'it returns false'. Refute it at one input. -/
def royaltiesPoolWrong : ChangeSpec := { name := "royaltiesPool", fn := fun _ => fun
  | [d1, d2] => { results := [.lit (.bool false)], args := [d1, d2] }
  | _ => none }
def RoyaltiesPoolWrongFalsely : Prop := royaltiesPoolRow.holds Try.pinned (OpenSpec.ofChange royaltiesPoolWrong)

/-- 'shellaclaw10.RoyaltiesShares': WHATEVER THE INPUT: true; the input reads as it did. -/
def royaltiesSharesSpec : ChangeSpec := { name := "royaltiesShares", fn := fun _ => fun
  | [d1, d2] => { results := [.lit (.bool true)], args := [d1, d2] }
  | _ => none }
def royaltiesSharesRow : OpenClaim := { program := "ytnmchaemhjnkgaa", sum := "09d8f07a12fbbb55a5cf847d9d7e9cee57c46baa496dd85b895c75350756b6c6", func := "shellac/shellaclaw10.RoyaltiesShares", spec := "royaltiesShares", unfollowed := true, recurses := true, apart := false }
def RoyaltiesSharesSaid : Prop := royaltiesSharesRow.holds Try.pinned (OpenSpec.ofChange royaltiesSharesSpec)

/-- ITS FALSE NEIGHBOUR: 'it returns false'. Refute it at one input. -/
def royaltiesSharesWrong : ChangeSpec := { name := "royaltiesShares", fn := fun _ => fun
  | [d1, d2] => { results := [.lit (.bool false)], args := [d1, d2] }
  | _ => none }
def RoyaltiesSharesWrongFalsely : Prop := royaltiesSharesRow.holds Try.pinned (OpenSpec.ofChange royaltiesSharesWrong)

/-- 'shellaclaw10.RoyaltiesLeast': WHATEVER THE INPUT: true; the input reads as it did. -/
def royaltiesLeastSpec : ChangeSpec := { name := "royaltiesLeast", fn := fun _ => fun
  | [d1, d2, d3] => { results := [.lit (.bool true)], args := [d1, d2, d3] }
  | _ => none }
def royaltiesLeastRow : OpenClaim := { program := "ytnmchaemhjnkgaa", sum := "09d8f07a12fbbb55a5cf847d9d7e9cee57c46baa496dd85b895c75350756b6c6", func := "shellac/shellaclaw10.RoyaltiesLeast", spec := "royaltiesLeast", unfollowed := true, recurses := true, apart := false }
def RoyaltiesLeastSaid : Prop := royaltiesLeastRow.holds Try.pinned (OpenSpec.ofChange royaltiesLeastSpec)

/-- ITS FALSE NEIGHBOUR: 'it returns false'. Refute it at one input. -/
def royaltiesLeastWrong : ChangeSpec := { name := "royaltiesLeast", fn := fun _ => fun
  | [d1, d2, d3] => { results := [.lit (.bool false)], args := [d1, d2, d3] }
  | _ => none }
def RoyaltiesLeastWrongFalsely : Prop := royaltiesLeastRow.holds Try.pinned (OpenSpec.ofChange royaltiesLeastWrong)

/-- 'shellaclaw10.RoyaltiesOwed': WHATEVER THE INPUT: true; the input reads as it did. -/
def royaltiesOwedSpec : ChangeSpec := { name := "royaltiesOwed", fn := fun _ => fun
  | [d] => { results := [.lit (.bool true)], args := [d] }
  | _ => none }
def royaltiesOwedRow : OpenClaim := { program := "ytnmchaemhjnkgaa", sum := "09d8f07a12fbbb55a5cf847d9d7e9cee57c46baa496dd85b895c75350756b6c6", func := "shellac/shellaclaw10.RoyaltiesOwed", spec := "royaltiesOwed", unfollowed := true, recurses := true, apart := false }
def RoyaltiesOwedSaid : Prop := royaltiesOwedRow.holds Try.pinned (OpenSpec.ofChange royaltiesOwedSpec)

/-- ITS FALSE NEIGHBOUR: 'it returns false'. Refute it at one input. -/
def royaltiesOwedWrong : ChangeSpec := { name := "royaltiesOwed", fn := fun _ => fun
  | [d] => { results := [.lit (.bool false)], args := [d] }
  | _ => none }
def RoyaltiesOwedWrongFalsely : Prop := royaltiesOwedRow.holds Try.pinned (OpenSpec.ofChange royaltiesOwedWrong)

/-- 'shellaclaw10.RoyaltiesCut': WHATEVER THE INPUT: true; the input reads as it did. -/
def royaltiesCutSpec : ChangeSpec := { name := "royaltiesCut", fn := fun _ => fun
  | [d] => { results := [.lit (.bool true)], args := [d] }
  | _ => none }
def royaltiesCutRow : OpenClaim := { program := "ytnmchaemhjnkgaa", sum := "09d8f07a12fbbb55a5cf847d9d7e9cee57c46baa496dd85b895c75350756b6c6", func := "shellac/shellaclaw10.RoyaltiesCut", spec := "royaltiesCut", unfollowed := true, recurses := true, apart := false }
def RoyaltiesCutSaid : Prop := royaltiesCutRow.holds Try.pinned (OpenSpec.ofChange royaltiesCutSpec)

/-- ITS FALSE NEIGHBOUR: 'it returns false'. Refute it at one input. -/
def royaltiesCutWrong : ChangeSpec := { name := "royaltiesCut", fn := fun _ => fun
  | [d] => { results := [.lit (.bool false)], args := [d] }
  | _ => none }
def RoyaltiesCutWrongFalsely : Prop := royaltiesCutRow.holds Try.pinned (OpenSpec.ofChange royaltiesCutWrong)

/-- 'shellaclaw10.RoyaltiesTimes': WHATEVER THE INPUT: true; the input reads as it did. -/
def royaltiesTimesSpec : ChangeSpec := { name := "royaltiesTimes", fn := fun _ => fun
  | [d1, d2] => { results := [.lit (.bool true)], args := [d1, d2] }
  | _ => none }
def royaltiesTimesRow : OpenClaim := { program := "ytnmchaemhjnkgaa", sum := "09d8f07a12fbbb55a5cf847d9d7e9cee57c46baa496dd85b895c75350756b6c6", func := "shellac/shellaclaw10.RoyaltiesTimes", spec := "royaltiesTimes", unfollowed := true, recurses := true, apart := false }
def RoyaltiesTimesSaid : Prop := royaltiesTimesRow.holds Try.pinned (OpenSpec.ofChange royaltiesTimesSpec)

/-- ITS FALSE NEIGHBOUR: 'it returns false'. Refute it at one input. -/
def royaltiesTimesWrong : ChangeSpec := { name := "royaltiesTimes", fn := fun _ => fun
  | [d1, d2] => { results := [.lit (.bool false)], args := [d1, d2] }
  | _ => none }
def RoyaltiesTimesWrongFalsely : Prop := royaltiesTimesRow.holds Try.pinned (OpenSpec.ofChange royaltiesTimesWrong)

/-- 'shellaclaw10.RoyaltiesPaid': WHATEVER THE INPUT: true; the input reads as it did. -/
def royaltiesPaidSpec : ChangeSpec := { name := "royaltiesPaid", fn := fun _ => fun
  | [d] => { results := [.lit (.bool true)], args := [d] }
  | _ => none }
def royaltiesPaidRow : OpenClaim := { program := "ytnmchaemhjnkgaa", sum := "09d8f07a12fbbb55a5cf847d9d7e9cee57c46baa496dd85b895c75350756b6c6", func := "shellac/shellaclaw10.RoyaltiesPaid", spec := "royaltiesPaid", unfollowed := true, recurses := true, apart := false }
def RoyaltiesPaidSaid : Prop := royaltiesPaidRow.holds Try.pinned (OpenSpec.ofChange royaltiesPaidSpec)

/-- ITS FALSE NEIGHBOUR: 'it returns false'. Refute it at one input. -/
def royaltiesPaidWrong : ChangeSpec := { name := "royaltiesPaid", fn := fun _ => fun
  | [d] => { results := [.lit (.bool false)], args := [d] }
  | _ => none }
def RoyaltiesPaidWrongFalsely : Prop := royaltiesPaidRow.holds Try.pinned (OpenSpec.ofChange royaltiesPaidWrong)

/- THE SECOND FORM. 'bulk': how many values and letters a reading holds, each counted each time it is reached (what is shared counts as often as it is met; a slice's spare places count too). A statement '..UptoSaid' is the law's where the arguments, and the package variables that the reading takes, are together of bulk at most 1048576: NARROWER than '..Said'. Prove '..Said' where nothing that the law and all that it calls make is longer than what came in: it says more and counts as full. Else prove '..UptoSaid'. A law counts once. -/
mutual
def uptoBulk {H : Type} : DataW H → Nat
  | .lit (.string bytes) => bytes.length + 1
  | .lit _ => 1
  | .nil => 1
  | .ptr d => uptoBulk d + 1
  | .slice elems spare => uptoBulkAll elems + uptoBulkAll spare + 1
  | .agg parts => uptoBulkAll parts + 1
  | .iface _ d => uptoBulk d + 1
  | .map entries => uptoBulkEntries entries + 1
  | .held _ => 1
def uptoBulkAll {H : Type} : List (DataW H) → Nat
  | [] => 0
  | d :: r => uptoBulk d + uptoBulkAll r
def uptoBulkEntries {H : Type} : List (Lit × DataW H) → Nat
  | [] => 0
  | x :: r => uptoBulkEntry x + uptoBulkEntries r
def uptoBulkEntry {H : Type} : Lit × DataW H → Nat
  | (.string bytes, d) => bytes.length + uptoBulk d + 1
  | (_, d) => uptoBulk d + 1
 end
def uptoSmall : (H : Type) → List (DataW H) → Bool := fun _ ds => decide (uptoBulkAll ds ≤ 1048576)
def OpenSpec.upto (s : _root_.Go.ChangeSpec) : _root_.Go.OpenSpec := { _root_.Go.OpenSpec.ofChange s with cond := some uptoSmall }

/-- 'shellaclaw10.RoyaltiesOnce', WHERE WHAT IT READS IS OF BULK AT MOST 1048576: true; the input reads as it did. -/
def royaltiesOnceUptoRow : OpenClaim := { program := "ytnmchaemhjnkgaa", sum := "09d8f07a12fbbb55a5cf847d9d7e9cee57c46baa496dd85b895c75350756b6c6", func := "shellac/shellaclaw10.RoyaltiesOnce", spec := "royaltiesOnce", unfollowed := true, recurses := true, apart := false, narrowed := true }
def RoyaltiesOnceUptoSaid : Prop := royaltiesOnceUptoRow.holds Try.pinned (OpenSpec.upto royaltiesOnceSpec)

/-- 'shellaclaw10.RoyaltiesTwo', WHERE WHAT IT READS IS OF BULK AT MOST 1048576: true; the input reads as it did. -/
def royaltiesTwoUptoRow : OpenClaim := { program := "ytnmchaemhjnkgaa", sum := "09d8f07a12fbbb55a5cf847d9d7e9cee57c46baa496dd85b895c75350756b6c6", func := "shellac/shellaclaw10.RoyaltiesTwo", spec := "royaltiesTwo", unfollowed := true, recurses := true, apart := false, narrowed := true }
def RoyaltiesTwoUptoSaid : Prop := royaltiesTwoUptoRow.holds Try.pinned (OpenSpec.upto royaltiesTwoSpec)

/-- 'shellaclaw10.RoyaltiesMore', WHERE WHAT IT READS IS OF BULK AT MOST 1048576: true; the input reads as it did. -/
def royaltiesMoreUptoRow : OpenClaim := { program := "ytnmchaemhjnkgaa", sum := "09d8f07a12fbbb55a5cf847d9d7e9cee57c46baa496dd85b895c75350756b6c6", func := "shellac/shellaclaw10.RoyaltiesMore", spec := "royaltiesMore", unfollowed := true, recurses := true, apart := false, narrowed := true }
def RoyaltiesMoreUptoSaid : Prop := royaltiesMoreUptoRow.holds Try.pinned (OpenSpec.upto royaltiesMoreSpec)

/-- 'shellaclaw10.RoyaltiesPool', WHERE WHAT IT READS IS OF BULK AT MOST 1048576: true; the input reads as it did. -/
def royaltiesPoolUptoRow : OpenClaim := { program := "ytnmchaemhjnkgaa", sum := "09d8f07a12fbbb55a5cf847d9d7e9cee57c46baa496dd85b895c75350756b6c6", func := "shellac/shellaclaw10.RoyaltiesPool", spec := "royaltiesPool", unfollowed := true, recurses := true, apart := false, narrowed := true }
def RoyaltiesPoolUptoSaid : Prop := royaltiesPoolUptoRow.holds Try.pinned (OpenSpec.upto royaltiesPoolSpec)

/-- 'shellaclaw10.RoyaltiesShares', WHERE WHAT IT READS IS OF BULK AT MOST 1048576: true; the input reads as it did. -/
def royaltiesSharesUptoRow : OpenClaim := { program := "ytnmchaemhjnkgaa", sum := "09d8f07a12fbbb55a5cf847d9d7e9cee57c46baa496dd85b895c75350756b6c6", func := "shellac/shellaclaw10.RoyaltiesShares", spec := "royaltiesShares", unfollowed := true, recurses := true, apart := false, narrowed := true }
def RoyaltiesSharesUptoSaid : Prop := royaltiesSharesUptoRow.holds Try.pinned (OpenSpec.upto royaltiesSharesSpec)

/-- 'shellaclaw10.RoyaltiesLeast', WHERE WHAT IT READS IS OF BULK AT MOST 1048576: true; the input reads as it did. -/
def royaltiesLeastUptoRow : OpenClaim := { program := "ytnmchaemhjnkgaa", sum := "09d8f07a12fbbb55a5cf847d9d7e9cee57c46baa496dd85b895c75350756b6c6", func := "shellac/shellaclaw10.RoyaltiesLeast", spec := "royaltiesLeast", unfollowed := true, recurses := true, apart := false, narrowed := true }
def RoyaltiesLeastUptoSaid : Prop := royaltiesLeastUptoRow.holds Try.pinned (OpenSpec.upto royaltiesLeastSpec)

/-- 'shellaclaw10.RoyaltiesOwed', WHERE WHAT IT READS IS OF BULK AT MOST 1048576: true; the input reads as it did. -/
def royaltiesOwedUptoRow : OpenClaim := { program := "ytnmchaemhjnkgaa", sum := "09d8f07a12fbbb55a5cf847d9d7e9cee57c46baa496dd85b895c75350756b6c6", func := "shellac/shellaclaw10.RoyaltiesOwed", spec := "royaltiesOwed", unfollowed := true, recurses := true, apart := false, narrowed := true }
def RoyaltiesOwedUptoSaid : Prop := royaltiesOwedUptoRow.holds Try.pinned (OpenSpec.upto royaltiesOwedSpec)

/-- 'shellaclaw10.RoyaltiesCut', WHERE WHAT IT READS IS OF BULK AT MOST 1048576: true; the input reads as it did. -/
def royaltiesCutUptoRow : OpenClaim := { program := "ytnmchaemhjnkgaa", sum := "09d8f07a12fbbb55a5cf847d9d7e9cee57c46baa496dd85b895c75350756b6c6", func := "shellac/shellaclaw10.RoyaltiesCut", spec := "royaltiesCut", unfollowed := true, recurses := true, apart := false, narrowed := true }
def RoyaltiesCutUptoSaid : Prop := royaltiesCutUptoRow.holds Try.pinned (OpenSpec.upto royaltiesCutSpec)

/-- 'shellaclaw10.RoyaltiesTimes', WHERE WHAT IT READS IS OF BULK AT MOST 1048576: true; the input reads as it did. -/
def royaltiesTimesUptoRow : OpenClaim := { program := "ytnmchaemhjnkgaa", sum := "09d8f07a12fbbb55a5cf847d9d7e9cee57c46baa496dd85b895c75350756b6c6", func := "shellac/shellaclaw10.RoyaltiesTimes", spec := "royaltiesTimes", unfollowed := true, recurses := true, apart := false, narrowed := true }
def RoyaltiesTimesUptoSaid : Prop := royaltiesTimesUptoRow.holds Try.pinned (OpenSpec.upto royaltiesTimesSpec)

/-- 'shellaclaw10.RoyaltiesPaid', WHERE WHAT IT READS IS OF BULK AT MOST 1048576: true; the input reads as it did. -/
def royaltiesPaidUptoRow : OpenClaim := { program := "ytnmchaemhjnkgaa", sum := "09d8f07a12fbbb55a5cf847d9d7e9cee57c46baa496dd85b895c75350756b6c6", func := "shellac/shellaclaw10.RoyaltiesPaid", spec := "royaltiesPaid", unfollowed := true, recurses := true, apart := false, narrowed := true }
def RoyaltiesPaidUptoSaid : Prop := royaltiesPaidUptoRow.holds Try.pinned (OpenSpec.upto royaltiesPaidSpec)

end Rows
end Go.Proofs.Ytnmchaemhjnkgaa
