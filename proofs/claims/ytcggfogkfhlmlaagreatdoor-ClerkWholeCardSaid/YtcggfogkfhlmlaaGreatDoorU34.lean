
import Derived.Test.YtcggfogkfhlmlaaGreatDoorU33
import Derived.Test.YtcggfogkfhlmlaaGreatDoorTie
import Derived.Test.YtcggfogkfhlmlaaGreatDoorCards
import Derived.ProofKit
import Derived.OpenShut
import Derived.LaidMore
import Derived.Lay
import Derived.SevenTiedAt
import Derived.Stop.Joined
import Derived.Test.YtcggfogkfhlmlaaGreatDoorU9
set_option linter.unusedVariables false
set_option linter.defProp false
set_option linter.unusedSimpArgs false
set_option maxRecDepth 100000
set_option maxHeartbeats 8000000
namespace Go.Proofs.YtcggfogkfhlmlaaGreatDoor
open Go Go.V
open Go.ChangeShapes Go.WideShapes Go.ChangeAt Go.RowKit
set_option maxRecDepth 100000
def ZkM:false=Rows.clerkWholeRow.goesBy Tryz.prog:=by kernel_rfl
def ZkR:true=Tryz.prog.looks []:=by kernel_rfl
def ZkS:Rows.clerkWholeRow.wfByText (OpenSpec.ofChange Rows.clerkWholeSpec)=true:=by kernel_rfl
theorem clerkWhole_holds:Rows.ClerkWholeCardSaid:=
 Claim7.holds_tied_plain_at .later [] [.data,.data,.data,.data,.sentinel,.sentinel,.pinned] true (true, "b38b138be826a35a2cfbed1389a5c3651f2d48d9408001c7dbdeb1d6ebbbcbae") true Zjs (fun _ h =>by cases h) ZkS (fun _ h =>by cases h) clerkWhole_row_tie rfl ⟨rfl,rfl⟩ Ka rfl
  (fun f fn hf hfn =>by
   obtain rfl:f = 7:=YQ ((show Tryz.prog.funcNamed "shellac/shellaclaw12.ClerkWhole" = some 7 by kernel_rfl).symm.trans hf) |>.symm;obtain rfl:fn=Tryz.f7:=(YQ (Tryz.func7.symm.trans hfn)).symm;exact⟨ZkR,fun j t ht =>by
    rw[Tryz.params7]at ht;have hm:t∈[34,35]:=by simpa using Array.mem_of_getElem? ht
    have hall:([34,35].all fun u=> !Tryz.prog.wantsStandIn u)=true:=by kernel_rfl
    exact(show Tryz.prog.wantsStandIn t=false by simpa using Yn.1 hall t hm)⟩)
  ZkM
end Go.Proofs.YtcggfogkfhlmlaaGreatDoor
