/-
  Contracts of the layer's functions, of the laws' helpers and of the law; conditions: as each theorem states.
-/
import Derived.Test.YtcggfogkfhlmlaaGreatDoorU10
import Derived.Test.YtcggfogkfhlmlaaGreatDoorCards
import Derived.ProofKit
import Derived.Stop.Joined
import Derived.Test.YtcggfogkfhlmlaaGreatDoorU11
set_option linter.unusedVariables false
set_option linter.unusedSimpArgs false
/-
 What the row's list says of the program's text:looked up.
-/
namespace Go.Proofs.YtcggfogkfhlmlaaGreatDoor
open Go Go.V
open Go.ChangeShapes Go.WideShapes Go.ChangeAt Go.RowKit
set_option maxRecDepth 100000
theorem ZAk {a b:Bool} (h1:a=true) (h2:b=true):(a&&b)=true:=by rw[h1,h2];rfl
theorem ZhW:(Rows.clerkCoinRow.inPlace==Tryz.prog.inPlace 10)=true:=by kernel_rfl
theorem ZhX:(Rows.clerkCoinRow.unfollowed==Tryz.prog.unfollowed 10)=true:=by kernel_rfl
theorem ZhY:(Rows.clerkCoinRow.recurses==Tryz.prog.recurses 10)=true:=by kernel_rfl
theorem ZhZ:(Rows.clerkCoinRow.named==Tryz.prog.varsNamed 10)=true:=by kernel_rfl
theorem ZeU:joinedFacts Tryz.prog 10 Tryz.f10 Rows.clerkCoinSpec Rows.clerkCoinRow=true:=by
 unfold joinedFacts;(repeat' (with_reducible refine ZAk ?_ ?_))
 rotate_left 9
 ·exact ZhW
 ·exact ZhX
 ·exact ZhY
 ·exact ZhZ
 all_goals kernel_rfl
end Go.Proofs.YtcggfogkfhlmlaaGreatDoor
