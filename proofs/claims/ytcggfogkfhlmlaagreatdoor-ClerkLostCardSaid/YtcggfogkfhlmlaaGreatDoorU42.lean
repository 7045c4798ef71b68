
import Derived.Test.YtcggfogkfhlmlaaGreatDoorU41
import Derived.Test.YtcggfogkfhlmlaaGreatDoorTie
import Derived.Test.YtcggfogkfhlmlaaGreatDoorCards
import Derived.ProofKit
import Derived.OpenShut
import Derived.LaidMore
import Derived.Lay
import Derived.SevenTiedAt
import Derived.Stop.Joined
import Derived.Test.YtcggfogkfhlmlaaGreatDoorU9
set_option linter.unusedVariables false
set_option linter.defProp false
set_option linter.unusedSimpArgs false
set_option maxRecDepth 100000
set_option maxHeartbeats 8000000
namespace Go.Proofs.YtcggfogkfhlmlaaGreatDoor
open Go Go.V
open Go.ChangeShapes Go.WideShapes Go.ChangeAt Go.RowKit
set_option maxRecDepth 100000
def ZlV:false=Rows.clerkLostRow.goesBy Tryz.prog:=by kernel_rfl
def Zl0:true=Tryz.prog.looks []:=by kernel_rfl
def Zl1:Rows.clerkLostRow.wfByText (OpenSpec.ofChange Rows.clerkLostSpec)=true:=by kernel_rfl
theorem clerkLost_holds:Rows.ClerkLostCardSaid:=
 Claim7.holds_tied_plain_at .later [] [.data,.data,.data,.data,.sentinel,.sentinel,.pinned] true (true, "b38b138be826a35a2cfbed1389a5c3651f2d48d9408001c7dbdeb1d6ebbbcbae") true ZkK (fun _ h =>by cases h) Zl1 (fun _ h =>by cases h) clerkLost_row_tie rfl ⟨rfl,rfl⟩ Ka rfl
  (fun f fn hf hfn =>by
   obtain rfl:f = 8:=YQ ((show Tryz.prog.funcNamed "shellac/shellaclaw12.ClerkLost" = some 8 by kernel_rfl).symm.trans hf) |>.symm;obtain rfl:fn=Tryz.f8:=(YQ (Tryz.func8.symm.trans hfn)).symm;exact⟨Zl0,fun j t ht =>by
    rw[Tryz.params8]at ht;have hm:t∈[34,35,3]:=by simpa using Array.mem_of_getElem? ht
    have hall:([34,35,3].all fun u=> !Tryz.prog.wantsStandIn u)=true:=by kernel_rfl
    exact(show Tryz.prog.wantsStandIn t=false by simpa using Yn.1 hall t hm)⟩)
  ZlV
end Go.Proofs.YtcggfogkfhlmlaaGreatDoor
