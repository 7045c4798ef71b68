
import Derived.Test.YtcggfogkfhlmlaaGreatDoorU22
import Derived.Test.YtcggfogkfhlmlaaGreatDoorCards
import Derived.ProofKit
import Derived.Stop.Joined
import Derived.Test.YtcggfogkfhlmlaaGreatDoorU9
set_option linter.unusedVariables false
set_option linter.defProp false
set_option linter.unusedSimpArgs false
set_option maxRecDepth 100000
set_option maxHeartbeats 8000000
namespace Go.Proofs.YtcggfogkfhlmlaaGreatDoor
open Go Go.V
open Go.ChangeShapes Go.WideShapes Go.ChangeAt Go.RowKit
set_option maxRecDepth 100000
def ZrB{a b:Bool}(h1:a=true)(h2:b=true):(a&&b)=true:=by rw[h1,h2];rfl
def Zh2:(Rows.clerkEmptiedRow.inPlace==Tryz.prog.inPlace 9)=true:=by kernel_rfl
def Zh3:(Rows.clerkEmptiedRow.unfollowed==Tryz.prog.unfollowed 9)=true:=by kernel_rfl
def Zh4:(Rows.clerkEmptiedRow.recurses==Tryz.prog.recurses 9)=true:=by kernel_rfl
def Zh5:(Rows.clerkEmptiedRow.named==Tryz.prog.varsNamed 9)=true:=by kernel_rfl
def Zff:joinedFacts Tryz.prog 9 Tryz.f9 Rows.clerkEmptiedSpec Rows.clerkEmptiedRow=true:=by unfold joinedFacts;(repeat'(with_reducible refine ZrB ?_ ?_));rotate_left 9;{exact Zh2};{exact Zh3};{exact Zh4};{exact Zh5};all_goals kernel_rfl
end Go.Proofs.YtcggfogkfhlmlaaGreatDoor
