
import Derived.Test.YtcggfogkfhlmlaaGreatDoorU22
import Derived.Test.YtcggfogkfhlmlaaGreatDoorCards
import Derived.ProofKit
import Derived.Stop.Joined
import Derived.Test.YtcggfogkfhlmlaaGreatDoorU9
set_option linter.unusedVariables false
set_option linter.defProp false
set_option linter.unusedSimpArgs false
set_option maxRecDepth 100000
set_option maxHeartbeats 8000000
namespace Go.Proofs.YtcggfogkfhlmlaaGreatDoor
open Go Go.V
open Go.ChangeShapes Go.WideShapes Go.ChangeAt Go.RowKit
set_option maxRecDepth 100000
def ZrB{a b:Bool}(h1:a=true)(h2:b=true):(a&&b)=true:=by rw[h1,h2];rfl
def Zl3:(Rows.clerkPaidRow.inPlace==Tryz.prog.inPlace 6)=true:=by kernel_rfl
def Zl4:(Rows.clerkPaidRow.unfollowed==Tryz.prog.unfollowed 6)=true:=by kernel_rfl
def Zl5:(Rows.clerkPaidRow.recurses==Tryz.prog.recurses 6)=true:=by kernel_rfl
def Zl6:(Rows.clerkPaidRow.named==Tryz.prog.varsNamed 6)=true:=by kernel_rfl
def Zhd:joinedFacts Tryz.prog 6 Tryz.f6 Rows.clerkPaidSpec Rows.clerkPaidRow=true:=by unfold joinedFacts;(repeat'(with_reducible refine ZrB ?_ ?_));rotate_left 9;{exact Zl3};{exact Zl4};{exact Zl5};{exact Zl6};all_goals kernel_rfl
end Go.Proofs.YtcggfogkfhlmlaaGreatDoor
