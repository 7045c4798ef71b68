
import Derived.Test.YtcggfogkfhlmlaaGreatDoorU22
import Derived.Test.YtcggfogkfhlmlaaGreatDoorCards
import Derived.ProofKit
import Derived.Stop.Joined
import Derived.Test.YtcggfogkfhlmlaaGreatDoorU9
set_option linter.unusedVariables false
set_option linter.defProp false
set_option linter.unusedSimpArgs false
set_option maxRecDepth 100000
set_option maxHeartbeats 8000000
namespace Go.Proofs.YtcggfogkfhlmlaaGreatDoor
open Go Go.V
open Go.ChangeShapes Go.WideShapes Go.ChangeAt Go.RowKit
set_option maxRecDepth 100000
def ZrB{a b:Bool}(h1:a=true)(h2:b=true):(a&&b)=true:=by rw[h1,h2];rfl
def ZlW:(Rows.clerkLostRow.inPlace==Tryz.prog.inPlace 8)=true:=by kernel_rfl
def ZlX:(Rows.clerkLostRow.unfollowed==Tryz.prog.unfollowed 8)=true:=by kernel_rfl
def ZlY:(Rows.clerkLostRow.recurses==Tryz.prog.recurses 8)=true:=by kernel_rfl
def ZlZ:(Rows.clerkLostRow.named==Tryz.prog.varsNamed 8)=true:=by kernel_rfl
def Zhb:joinedFacts Tryz.prog 8 Tryz.f8 Rows.clerkLostSpec Rows.clerkLostRow=true:=by unfold joinedFacts;(repeat'(with_reducible refine ZrB ?_ ?_));rotate_left 9;{exact ZlW};{exact ZlX};{exact ZlY};{exact ZlZ};all_goals kernel_rfl
end Go.Proofs.YtcggfogkfhlmlaaGreatDoor
