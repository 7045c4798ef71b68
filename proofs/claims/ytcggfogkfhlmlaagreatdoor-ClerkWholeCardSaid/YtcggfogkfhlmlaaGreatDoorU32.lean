
import Derived.Test.YtcggfogkfhlmlaaGreatDoorU22
import Derived.Test.YtcggfogkfhlmlaaGreatDoorCards
import Derived.ProofKit
import Derived.Stop.Joined
import Derived.Test.YtcggfogkfhlmlaaGreatDoorU9
set_option linter.unusedVariables false
set_option linter.defProp false
set_option linter.unusedSimpArgs false
set_option maxRecDepth 100000
set_option maxHeartbeats 8000000
namespace Go.Proofs.YtcggfogkfhlmlaaGreatDoor
open Go Go.V
open Go.ChangeShapes Go.WideShapes Go.ChangeAt Go.RowKit
set_option maxRecDepth 100000
def ZrB{a b:Bool}(h1:a=true)(h2:b=true):(a&&b)=true:=by rw[h1,h2];rfl
def ZkN:(Rows.clerkWholeRow.inPlace==Tryz.prog.inPlace 7)=true:=by kernel_rfl
def ZkO:(Rows.clerkWholeRow.unfollowed==Tryz.prog.unfollowed 7)=true:=by kernel_rfl
def ZkP:(Rows.clerkWholeRow.recurses==Tryz.prog.recurses 7)=true:=by kernel_rfl
def ZkQ:(Rows.clerkWholeRow.named==Tryz.prog.varsNamed 7)=true:=by kernel_rfl
def Zgv:joinedFacts Tryz.prog 7 Tryz.f7 Rows.clerkWholeSpec Rows.clerkWholeRow=true:=by unfold joinedFacts;(repeat'(with_reducible refine ZrB ?_ ?_));rotate_left 9;{exact ZkN};{exact ZkO};{exact ZkP};{exact ZkQ};all_goals kernel_rfl
end Go.Proofs.YtcggfogkfhlmlaaGreatDoor
