
import Derived.Test.YtcggfogkfhlmlaaGreatDoorU43
import Derived.Test.YtcggfogkfhlmlaaGreatDoorU44
import Derived.Test.YtcggfogkfhlmlaaGreatDoorTie
import Derived.Test.YtcggfogkfhlmlaaGreatDoorCards
import Derived.ProofKit
import Derived.OpenShut
import Derived.LaidMore
import Derived.Lay
import Derived.SevenTiedAt
import Derived.Stop.Joined
import Derived.Test.YtcggfogkfhlmlaaGreatDoorU9
set_option linter.unusedVariables false
set_option linter.defProp false
set_option linter.unusedSimpArgs false
set_option maxRecDepth 100000
set_option maxHeartbeats 8000000
namespace Go.Proofs.YtcggfogkfhlmlaaGreatDoor
open Go Go.V
open Go.ChangeShapes Go.WideShapes Go.ChangeAt Go.RowKit
def Zh8:Rows.ClerkHalvesSaid:=
 OpenClaim.holds_of_wide 3 Tryz.f3 rfl rfl rfl rfl rfl rfl rfl ⟨rfl,rfl,rfl,rfl,rfl⟩ rfl rfl rfl rfl rfl Ka Tryz.func3 ZfM
  (YY Ka) (by unfold Func.isWrapper;rw[Yx (of_decide_eq_false Ka)];exact⟨rfl,rfl⟩)
  (fun os started H enc _=>clerkHalves_lifted os started H enc)
end Go.Proofs.YtcggfogkfhlmlaaGreatDoor
