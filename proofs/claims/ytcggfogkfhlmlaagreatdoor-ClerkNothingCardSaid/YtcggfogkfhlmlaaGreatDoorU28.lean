
import Derived.Test.YtcggfogkfhlmlaaGreatDoorU22
import Derived.Test.YtcggfogkfhlmlaaGreatDoorCards
import Derived.ProofKit
import Derived.Stop.Joined
import Derived.Test.YtcggfogkfhlmlaaGreatDoorU9
set_option linter.unusedVariables false
set_option linter.defProp false
set_option linter.unusedSimpArgs false
set_option maxRecDepth 100000
set_option maxHeartbeats 8000000
namespace Go.Proofs.YtcggfogkfhlmlaaGreatDoor
open Go Go.V
open Go.ChangeShapes Go.WideShapes Go.ChangeAt Go.RowKit
set_option maxRecDepth 100000
def ZrB{a b:Bool}(h1:a=true)(h2:b=true):(a&&b)=true:=by rw[h1,h2];rfl
def Zia:(Rows.clerkNothingRow.inPlace==Tryz.prog.inPlace 4)=true:=by kernel_rfl
def Zib:(Rows.clerkNothingRow.unfollowed==Tryz.prog.unfollowed 4)=true:=by kernel_rfl
def Zic:(Rows.clerkNothingRow.recurses==Tryz.prog.recurses 4)=true:=by kernel_rfl
def Zid:(Rows.clerkNothingRow.named==Tryz.prog.varsNamed 4)=true:=by kernel_rfl
def Zfg:joinedFacts Tryz.prog 4 Tryz.f4 Rows.clerkNothingSpec Rows.clerkNothingRow=true:=by unfold joinedFacts;(repeat'(with_reducible refine ZrB ?_ ?_));rotate_left 9;{exact Zia};{exact Zib};{exact Zic};{exact Zid};all_goals kernel_rfl
end Go.Proofs.YtcggfogkfhlmlaaGreatDoor
