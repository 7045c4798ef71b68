/-
  Contracts of the layer's functions, of the laws' helpers and of the law; conditions: as each theorem states.
-/
import Derived.Test.YtcggfogkfhlmlaaGreatDoorU13
import Derived.Test.YtcggfogkfhlmlaaGreatDoorTie
import Derived.Test.YtcggfogkfhlmlaaGreatDoorCards
import Derived.ProofKit
import Derived.OpenShut
import Derived.LaidMore
import Derived.Lay
import Derived.SevenTiedAt
import Derived.Stop.Joined
set_option linter.unusedVariables false
set_option linter.unusedSimpArgs false
/-
 The tied card.
-/
namespace Go.Proofs.YtcggfogkfhlmlaaGreatDoor
open Go Go.V
open Go.ChangeShapes Go.WideShapes Go.ChangeAt Go.RowKit
set_option maxRecDepth 100000
theorem ZhV:false=Rows.clerkCoinRow.goesBy Tryz.prog:=by kernel_rfl
theorem Zh0:true=Tryz.prog.looks []:=by kernel_rfl
theorem Zh1:Rows.clerkCoinRow.wfByText (OpenSpec.ofChange Rows.clerkCoinSpec)=true:=by kernel_rfl
theorem clerkCoin_holds:Rows.ClerkCoinCardSaid:=
 Claim7.holds_tied_plain_at .later [] [.data,.data,.data,.data,.sentinel,.sentinel,.pinned] true (true, "b38b138be826a35a2cfbed1389a5c3651f2d48d9408001c7dbdeb1d6ebbbcbae") true Zg5 (fun _ h => by cases h) Zh1 (fun _ h => by cases h) clerkCoin_row_tie rfl ⟨rfl,rfl⟩ (by kernel_rfl) rfl
  (fun f fn hf hfn => by
   obtain rfl:f = 10:=Option.some.inj ((show Tryz.prog.funcNamed "shellac/shellaclaw12.ClerkCoin" = some 10 by kernel_rfl).symm.trans hf) |>.symm;obtain rfl:fn=Tryz.f10:=(Option.some.inj (Tryz.func10.symm.trans hfn)).symm;exact ⟨Zh0,fun j t ht => by
    rw[Tryz.params10] at ht;have hm:t∈[34,3]:=by simpa using Array.mem_of_getElem? ht
    have hall:([34,3].all fun u=> !Tryz.prog.wantsStandIn u)=true:=by kernel_rfl
    exact (show Tryz.prog.wantsStandIn t=false by simpa using List.all_eq_true.1 hall t hm)⟩)
  ZhV
end Go.Proofs.YtcggfogkfhlmlaaGreatDoor
