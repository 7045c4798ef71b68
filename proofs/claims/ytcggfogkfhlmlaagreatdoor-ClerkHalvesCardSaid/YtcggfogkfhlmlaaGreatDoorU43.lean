
import Derived.Test.YtcggfogkfhlmlaaGreatDoorU22
import Derived.Test.YtcggfogkfhlmlaaGreatDoorU21
import Derived.Test.YtcggfogkfhlmlaaGreatDoorTie
import Derived.Test.YtcggfogkfhlmlaaGreatDoorCards
import Derived.ProofKit
import Derived.OpenShut
import Derived.LaidMore
import Derived.Lay
import Derived.SevenTiedAt
import Derived.Stop.Joined
import Derived.Test.YtcggfogkfhlmlaaGreatDoorU9
set_option linter.unusedVariables false
set_option linter.defProp false
set_option linter.unusedSimpArgs false
set_option maxRecDepth 100000
set_option maxHeartbeats 8000000
namespace Go.Proofs.YtcggfogkfhlmlaaGreatDoor
open Go Go.V
open Go.ChangeShapes Go.WideShapes Go.ChangeAt Go.RowKit
def clerkHalves_lifted(os:Os)(started:os.Started)(H:Type)(enc:TypeId×Value->H):
  ReturnsInHanded {} Tryz.checked os 3 .any (fun w args=>(Rows.clerkHalvesSpec.pre enc Tryz.prog Tryz.f3 Rows.clerkHalvesRow.domain false w args/\laidMetH Tryz.prog Zct w)/\sizedMet enc Tryz.prog Tryz.f3 (OpenSpec.ofChange Rows.clerkHalvesSpec) false w args)
   (Rows.clerkHalvesSpec.post enc Tryz.prog Tryz.f3 false true false false):=by
 refine returnsInHanded_of_change_and (C:=Tryz.checked) (X:=fun w _=>laidMetH Tryz.prog Zct w) (fun _ _ _ hh h=>h.of_heap hh) Tryz.own started Ka Tryz.func3
  (ChangeSpec.witness_shaped (enc:=enc) (C:=Tryz.checked) (os:=os) (X:=fun w _ =>laidMetH Tryz.prog Zct w) false (World.laidAll Tryz.prog os Zct) #[.agg #[.int .i64 0,.slice none 0 0,.slice none 0 0,.slice none 0 0,.slice none 0 0,.slice none 0 0,.int .i64 0,.int .i64 0,.int .i64 0,.int .i64 0,.slice none 0 0,.int .i64 0,.int .i64 0,.int .i64 0,.slice none 0 0],.slice none 0 0,.int .i64 0] 8 (World.laidAll_os _ _ _)
   (World.shaped_of_ZipB Ka Ka) Ka Ka Ka
   (by rw[MakeChecks.laidMetH_plain _ _ _ Ka];exact laidMet_laidAll _ Ka Ka)) ?_
 intro W base args ds gs before hval0 hW _ _ hL _;have hval:∀(j:Nat) t v,Tryz.f3.params[j]? =some t->args[j]? =some v->Value.okWide Tryz.prog W .any base t v:=hval0;have hW':=hW;obtain⟨p,q,hA0,hV,rfl,hfz,hnd⟩:=hW;have hA:DataW.TrodAll enc Tryz.prog W 0 (fun _=>true) true Tryz.f3.params.toList args.toList ds p:=hA0;rw[Tryz.params3]at hA hval;obtain⟨v0,v1,v2,d0,d1,d2,p0,p1,p2,rfl,rfl,rfl,h0,h1,h2⟩:=trodAll_three hA;obtain⟨rfl,rfl⟩:=trodVars_none hV;have hlt:∀x∈p0++p1++p2,x.block<W.heap.size:=fun x hx=>by simpa using hW'.lt x (by simpa using hx)
 obtain⟨tb,htb,hw3⟩:=ZeV hL;obtain⟨R0,hR0⟩:=open_bar htb hw3 (hval 0 34 v0 rfl rfl) h0;obtain⟨R1,hR1⟩:=ZdG htb hw3 (hval 1 35 v1 rfl rfl) h1;obtain⟨R2,hR2⟩:=Zpl (hval 2 3 v2 rfl rfl) h2;refine(ZcL (halves3 R0 R1 R2) htb hw3 (vs:=[v0,v1,v2]) (by simp only[RepAs];exact⟨v0,[v1,v2],rfl,hR0,v1,[v2],rfl,hR1,v2,[],rfl,hR2,rfl⟩)).mono fun e W' hh=>?_
 obtain⟨rfl,hb⟩:=hh;simp only[Yas]at hW';have hW2:DataW.Whole enc Tryz.prog Tryz.f3.params.toList Rows.clerkHalvesSpec.vars false W [v0,v1,v2] [d0,d1,d2] [] (p0++p1++p2):=hW';refine⟨_,rfl,ZdH (before:=p0++p1++p2) (ds:=[d0,d1,d2]) Ka rfl hW2 hb rfl rfl rfl fun sp hsp=>?_⟩;rw[Tryz.params3];rw[YO];exact trodAll_mk3 (WideElems.Trod_stays Tryz.laidOut Ka (YY Ka) h0 (fun x hx=>hb.same (hlt x (by simp[hx]))) fun x hx=>hsp x (by simp[hx])) (WideElems.Trod_stays Tryz.laidOut Ka (YY Ka) h1 (fun x hx=>hb.same (hlt x (by simp[hx]))) fun x hx=>hsp x (by simp[hx])) (WideElems.Trod_stays Tryz.laidOut Ka (YY Ka) h2 (fun x hx=>hb.same (hlt x (by simp[hx]))) fun x hx=>hsp x (by simp[hx]))
end Go.Proofs.YtcggfogkfhlmlaaGreatDoor
