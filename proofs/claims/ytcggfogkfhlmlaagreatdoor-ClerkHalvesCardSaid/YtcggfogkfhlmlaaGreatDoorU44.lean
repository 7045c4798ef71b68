
import Derived.Test.YtcggfogkfhlmlaaGreatDoorU22
import Derived.Test.YtcggfogkfhlmlaaGreatDoorCards
import Derived.ProofKit
import Derived.Stop.Joined
import Derived.Test.YtcggfogkfhlmlaaGreatDoorU9
set_option linter.unusedVariables false
set_option linter.defProp false
set_option linter.unusedSimpArgs false
set_option maxRecDepth 100000
set_option maxHeartbeats 8000000
namespace Go.Proofs.YtcggfogkfhlmlaaGreatDoor
open Go Go.V
open Go.ChangeShapes Go.WideShapes Go.ChangeAt Go.RowKit
set_option maxRecDepth 100000
def ZrB{a b:Bool}(h1:a=true)(h2:b=true):(a&&b)=true:=by rw[h1,h2];rfl
def Zjm:(Rows.clerkHalvesRow.inPlace==Tryz.prog.inPlace 3)=true:=by kernel_rfl
def Zjn:(Rows.clerkHalvesRow.unfollowed==Tryz.prog.unfollowed 3)=true:=by kernel_rfl
def Zjo:(Rows.clerkHalvesRow.recurses==Tryz.prog.recurses 3)=true:=by kernel_rfl
def Zjp:(Rows.clerkHalvesRow.named==Tryz.prog.varsNamed 3)=true:=by kernel_rfl
def ZfM:joinedFacts Tryz.prog 3 Tryz.f3 Rows.clerkHalvesSpec Rows.clerkHalvesRow=true:=by unfold joinedFacts;(repeat'(with_reducible refine ZrB ?_ ?_));rotate_left 9;{exact Zjm};{exact Zjn};{exact Zjo};{exact Zjp};all_goals kernel_rfl
end Go.Proofs.YtcggfogkfhlmlaaGreatDoor
