
import Derived.Test.YtcggfogkfhlmlaaGreatDoorU45
import Derived.Test.YtcggfogkfhlmlaaGreatDoorTie
import Derived.Test.YtcggfogkfhlmlaaGreatDoorCards
import Derived.ProofKit
import Derived.OpenShut
import Derived.LaidMore
import Derived.Lay
import Derived.SevenTiedAt
import Derived.Stop.Joined
import Derived.Test.YtcggfogkfhlmlaaGreatDoorU9
set_option linter.unusedVariables false
set_option linter.defProp false
set_option linter.unusedSimpArgs false
set_option maxRecDepth 100000
set_option maxHeartbeats 8000000
namespace Go.Proofs.YtcggfogkfhlmlaaGreatDoor
open Go Go.V
open Go.ChangeShapes Go.WideShapes Go.ChangeAt Go.RowKit
set_option maxRecDepth 100000
def Zjl:false=Rows.clerkHalvesRow.goesBy Tryz.prog:=by kernel_rfl
def Zjq:true=Tryz.prog.looks []:=by kernel_rfl
def Zjr:Rows.clerkHalvesRow.wfByText (OpenSpec.ofChange Rows.clerkHalvesSpec)=true:=by kernel_rfl
theorem clerkHalves_holds:Rows.ClerkHalvesCardSaid:=
 Claim7.holds_tied_plain_at .later [] [.data,.data,.data,.data,.sentinel,.sentinel,.pinned] true (true, "b38b138be826a35a2cfbed1389a5c3651f2d48d9408001c7dbdeb1d6ebbbcbae") true Zh8 (fun _ h =>by cases h) Zjr (fun _ h =>by cases h) clerkHalves_row_tie rfl ⟨rfl,rfl⟩ Ka rfl
  (fun f fn hf hfn =>by
   obtain rfl:f = 3:=YQ ((show Tryz.prog.funcNamed "shellac/shellaclaw12.ClerkHalves" = some 3 by kernel_rfl).symm.trans hf) |>.symm;obtain rfl:fn=Tryz.f3:=(YQ (Tryz.func3.symm.trans hfn)).symm;exact⟨Zjq,fun j t ht =>by
    rw[Tryz.params3]at ht;have hm:t∈[34,35,3]:=by simpa using Array.mem_of_getElem? ht
    have hall:([34,35,3].all fun u=> !Tryz.prog.wantsStandIn u)=true:=by kernel_rfl
    exact(show Tryz.prog.wantsStandIn t=false by simpa using Yn.1 hall t hm)⟩)
  Zjl
end Go.Proofs.YtcggfogkfhlmlaaGreatDoor
