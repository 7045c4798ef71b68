
import Derived.Test.YtcggfogkfhlmlaaGreatDoorU25
import Derived.Test.YtcggfogkfhlmlaaGreatDoorTie
import Derived.Test.YtcggfogkfhlmlaaGreatDoorCards
import Derived.ProofKit
import Derived.OpenShut
import Derived.LaidMore
import Derived.Lay
import Derived.SevenTiedAt
import Derived.Stop.Joined
import Derived.Test.YtcggfogkfhlmlaaGreatDoorU9
set_option linter.unusedVariables false
set_option linter.defProp false
set_option linter.unusedSimpArgs false
set_option maxRecDepth 100000
set_option maxHeartbeats 8000000
namespace Go.Proofs.YtcggfogkfhlmlaaGreatDoor
open Go Go.V
open Go.ChangeShapes Go.WideShapes Go.ChangeAt Go.RowKit
set_option maxRecDepth 100000
def Zl2:false=Rows.clerkPaidRow.goesBy Tryz.prog:=by kernel_rfl
def Zl7:true=Tryz.prog.looks []:=by kernel_rfl
def Zl8:Rows.clerkPaidRow.wfByText (OpenSpec.ofChange Rows.clerkPaidSpec)=true:=by kernel_rfl
theorem clerkPaid_holds:Rows.ClerkPaidCardSaid:=
 Claim7.holds_tied_plain_at .later [] [.data,.data,.data,.data,.sentinel,.sentinel,.pinned] true (true, "b38b138be826a35a2cfbed1389a5c3651f2d48d9408001c7dbdeb1d6ebbbcbae") true ZkL (fun _ h =>by cases h) Zl8 (fun _ h =>by cases h) clerkPaid_row_tie rfl ⟨rfl,rfl⟩ Ka rfl
  (fun f fn hf hfn =>by
   obtain rfl:f = 6:=YQ ((show Tryz.prog.funcNamed "shellac/shellaclaw12.ClerkPaid" = some 6 by kernel_rfl).symm.trans hf) |>.symm;obtain rfl:fn=Tryz.f6:=(YQ (Tryz.func6.symm.trans hfn)).symm;exact⟨Zl7,fun j t ht =>by
    rw[Tryz.params6]at ht;have hm:t∈[34,35]:=by simpa using Array.mem_of_getElem? ht
    have hall:([34,35].all fun u=> !Tryz.prog.wantsStandIn u)=true:=by kernel_rfl
    exact(show Tryz.prog.wantsStandIn t=false by simpa using Yn.1 hall t hm)⟩)
  Zl2
end Go.Proofs.YtcggfogkfhlmlaaGreatDoor
