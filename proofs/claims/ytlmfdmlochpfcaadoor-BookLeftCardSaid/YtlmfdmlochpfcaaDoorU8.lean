/-
  Contracts of the layer's functions, of the laws' helpers and of the law; conditions: as each theorem states.
-/
import Derived.Test.YtlmfdmlochpfcaaDoorV2
import Derived.ProofKit
import Derived.Test.YtlmfdmlochpfcaaDoorU7
import Derived.Test.YtlmfdmlochpfcaaDoorU4
import Derived.Test.YtlmfdmlochpfcaaDoorRows
import Derived.OpenShut
import Derived.LaidMore
import Derived.Lay
import Derived.Test.YtlmfdmlochpfcaaDoorTie
import Derived.Test.YtlmfdmlochpfcaaDoorCards
import Derived.SevenTiedAt
import Derived.Stop.Joined
set_option linter.unusedVariables false
set_option linter.unusedSimpArgs false
/-
 Arguments that come in,as data.
-/
namespace Go.V
open Go
def M0:Cells:=fun _ _ => False
end Go.V

/-
 What comes in: strings,lists of strings,marks,integers; behind a law's call; what the listed variables hold.
-/
namespace Go.V
open Go
end Go.V
namespace Go.Proofs.YtlmfdmlochpfcaaDoor
open Go Go.V
open Go.ChangeShapes Go.WideShapes Go.ChangeAt Go.RowKit
theorem own0:ownKnob Tryd.prog.godebug = none:=by kernel_rfl
theorem laidOut0:laidOutB Tryd.prog = true:=by kernel_rfl
theorem z5:Tryd.prog.cellsOf 5 = 1:=by kernel_rfl
section
set_option maxRecDepth 100000
variable {H:Type} {enc:TypeId × Value → H} {w:World} {sp:Nat → Bool}
theorem open_str {r:Reach} {b0:Nat} {v:Value} {d:DataW H} {ps:List MemPlace} (hval:Value.okWide Tryd.prog w r b0 9 v) (hd:DataW.Trod enc Tryd.prog w 0 sp true 9 v d ps):∃ l:List UInt8,RepA w M0 (fun _ => undef) (sv l) v:=by
 obtain ⟨s,rfl⟩:=okWide_string Tryd.underlying9 hval
 exact ⟨s.data.toList,by simp only [sv,RepA,RepC]⟩
end
set_option maxRecDepth 100000 in
theorem post_bool {H:Type} {enc:TypeId × Value → H} {f:Func} {s:ChangeSpec} {apart fresh handsOn again:Bool} {W W':World} {args:Array Value} {b:Bool} {ds:List (DataW H)} {before:List MemPlace}
  (hf:f.resultTypes = #[4]) (hv:s.vars = []) (hW:DataW.Whole enc Tryd.prog f.params.toList s.vars apart W args.toList ds [] before) (hb:Below W.heap.size W W')
  (hr:(s.fn H (ds ++ [])).results = [.lit (.bool b)]) (ha:(s.fn H (ds ++ [])).args = ds) (hvs:(s.fn H (ds ++ [])).vars = [])
  (hst:∀ sp:Nat → Bool,(∀ p ∈ before,sp p.block = true) → DataW.TrodAll enc Tryd.prog W' 0 sp true f.params.toList args.toList ds before):s.post enc Tryd.prog f apart fresh handsOn again W args (.bool b) W':=by
 have hlt:∀ p ∈ before,p.block < W.heap.size:=fun p hp => by simpa using hW.lt p hp
 have hres:∀ (n:Nat) (sp:Nat → Bool) (hd:Bool),DataW.TrodAll enc Tryd.prog W' n sp hd f.resultTypes.toList ((Value.bool b).resultList f.resultTypes.size) (s.fn H (ds ++ [])).results []:=by
  intro n sp hd
  rw [hf,hr]
  exact trodAll_mk1 (shut_bool Tryd.underlying4 _)
 have hargs:∀ sp:Nat → Bool,(∀ p ∈ before,sp p.block = true) → DataW.TrodAll enc Tryd.prog W' 0 sp true f.params.toList args.toList (s.fn H (ds ++ [])).args before:=fun sp h => by
  rw [ha]; exact hst sp h
 have hvars:∀ sp:Nat → Bool,DataW.TrodVars enc Tryd.prog W' sp s.vars (s.fn H (ds ++ [])).vars []:=fun sp => by
  rw [hv,hvs]; rfl
 refine ⟨ds,[],before,[],before,[],hW,hres _ _ _,hargs _ fun p hp => by simpa using hlt p hp,hvars _,hb.frame _,fun _ => ?_⟩
 have hz:=hW
 obtain ⟨_,_,_,_,_,hz1,hz2⟩:=hz
 have hall:DataW.TrodAll enc Tryd.prog W' 0 (fun _ => true) true (f.resultTypes.toList ++ f.params.toList) ((Value.bool b).resultList f.resultTypes.size ++ args.toList) ((s.fn H (ds ++ [])).results ++ (s.fn H (ds ++ [])).args) ([] ++ before) :=
  trodAll_append (hargs (fun _ => true) fun _ _ => rfl) (hres 0 (fun _ => true) true)
 rw [List.nil_append] at hall
 refine ⟨ok_one hf rfl (okWide_bool_mk Tryd.underlying4 b),(s.fn H (ds ++ [])).results ++ (s.fn H (ds ++ [])).args,(s.fn H (ds ++ [])).vars,before,⟨before,[],hall,hvars _,by simp,?_,hz2⟩,fun p hp _ => hp⟩
 intro k off hp
 rw [hb.frozen (hlt _ hp)]
 exact hz1 k off hp
end Go.Proofs.YtlmfdmlochpfcaaDoor

/-
 The row of BookLeft,and its tied card: it answers true for whatever it is handed,and leaves it as it was.
-/
namespace Go.Proofs.YtlmfdmlochpfcaaDoor
open Go Go.V
open Go.ChangeShapes Go.WideShapes Go.ChangeAt Go.RowKit
set_option maxRecDepth 100000 in
theorem bookLeft_lifted (os:Os) (started:os.Started) (H:Type) (enc:TypeId × Value → H) :
  ReturnsInHanded {} Tryd.checked os 11 .any (fun w args => (Rows.bookLeftSpec.pre enc Tryd.prog Tryd.f11 Rows.bookLeftRow.domain false w args ∧ laidMetH Tryd.prog [("unicode/utf8.acceptRanges",Rows.laid_unicode_utf8_acceptRanges),("unicode/utf8.first",Rows.laid_unicode_utf8_first)] w) ∧ sizedMet enc Tryd.prog Tryd.f11 (OpenSpec.ofChange Rows.bookLeftSpec) false w args)
   (Rows.bookLeftSpec.post enc Tryd.prog Tryd.f11 false true false false):=by
 refine returnsInHanded_of_change_and (C:=Tryd.checked) (X:=fun w _ => laidMetH Tryd.prog [("unicode/utf8.acceptRanges",Rows.laid_unicode_utf8_acceptRanges),("unicode/utf8.first",Rows.laid_unicode_utf8_first)] w) (fun _ _ _ hh h => h.of_heap hh) own0 started (by kernel_rfl) Tryd.func11
  (ChangeSpec.witness_shaped (enc:=enc) (C:=Tryd.checked) (os:=os) (X:=fun w _ => laidMetH Tryd.prog [("unicode/utf8.acceptRanges",Rows.laid_unicode_utf8_acceptRanges),("unicode/utf8.first",Rows.laid_unicode_utf8_first)] w) false (World.laidAll Tryd.prog os [("unicode/utf8.acceptRanges",Rows.laid_unicode_utf8_acceptRanges),("unicode/utf8.first",Rows.laid_unicode_utf8_first)]) #[.string ⟨#[]⟩] 8 (World.laidAll_os _ _ _)
   (World.shaped_of_ZipB (by kernel_rfl) (by kernel_rfl)) (by kernel_rfl) (by kernel_rfl) (by kernel_rfl)
   (by rw [MakeChecks.laidMetH_plain _ _ _ (by kernel_rfl)]; exact laidMet_laidAll _ (by kernel_rfl) (by kernel_rfl))) ?_
 intro W base args ds gs before hval0 hW _ _ _ _
 have hval:∀ (j:Nat) t v,Tryd.f11.params[j]? = some t → args[j]? = some v → Value.okWide Tryd.prog W .any base t v:=hval0
 have hW':=hW
 obtain ⟨p,q,hA0,hV,rfl,hfz,hnd⟩:=hW
 have hA:DataW.TrodAll enc Tryd.prog W 0 (fun _ => true) true Tryd.f11.params.toList args.toList ds p:=hA0
 rw [Tryd.params11] at hA hval
 obtain ⟨v0,d0,rfl,rfl,h0⟩:=trodAll_one hA
 obtain ⟨rfl,rfl⟩:=trodVars_none hV
 have hlt:∀ x ∈ p,x.block < W.heap.size:=fun x hx => by simpa using hW'.lt x (by simpa using hx)
 obtain ⟨R0,hR0⟩:=open_str (hval 0 9 v0 rfl rfl) h0
 refine ((bookLeft11 R0).2 W M0 [v0] (fun _ _ h => h.elim) (by simp only [RepAs]; exact ⟨v0,[],rfl,hR0,rfl⟩)).mono fun e W' hh => ?_
 obtain ⟨v,rfl,hv,hb⟩:=hh
 have hv:v = .bool true:=by simpa only [bv,RepA,RepC] using hv
 subst hv
 simp only [List.append_nil] at hW'
 have hW2:DataW.Whole enc Tryd.prog Tryd.f11.params.toList Rows.bookLeftSpec.vars false W [v0] [d0] [] (p):=hW'
 refine ⟨_,rfl,post_bool (before:=p) (ds:=[d0]) (by kernel_rfl) rfl hW2 hb rfl rfl rfl fun sp hsp => ?_⟩
 rw [Tryd.params11]
 exact trodAll_mk1 (WideElems.Trod_stays laidOut0 (by kernel_rfl) (of_decide_eq_true (by kernel_rfl)) h0 (fun x hx => hb.same (hlt x hx)) fun x hx => hsp x hx)
theorem bookLeft_row:Rows.BookLeftSaid :=
 OpenClaim.holds_of_wide 11 Tryd.f11 rfl rfl rfl rfl rfl rfl rfl ⟨rfl,rfl,rfl,rfl,rfl⟩ rfl rfl rfl rfl rfl (by kernel_rfl) Tryd.func11 (by kernel_rfl)
  (of_decide_eq_true (by kernel_rfl)) (by unfold Func.isWrapper; rw [if_neg (of_decide_eq_false (by kernel_rfl))]; exact ⟨rfl,rfl⟩)
  (fun os started H enc _ => bookLeft_lifted os started H enc)
theorem bookLeft_holds:Rows.BookLeftCardSaid :=
 Claim7.holds_tied_plain_at .later [] [.data,.pinned] true (true, "2f11f69eca9792850fda878921f73c0649dea776c7c2436db4fe02dd71cbaf64") false bookLeft_row (fun _ h => by cases h) (by kernel_rfl) (fun _ h => by cases h) bookLeft_row_tie rfl ⟨rfl,rfl⟩ (by kernel_rfl) rfl
  (fun f fn hf hfn => by
   obtain rfl:f = 11:=Option.some.inj ((show Tryd.prog.funcNamed "shellac/shellaclaw14.BookLeft" = some 11 by kernel_rfl).symm.trans hf) |>.symm
   obtain rfl:fn = Tryd.f11:=(Option.some.inj (Tryd.func11.symm.trans hfn)).symm
   exact ⟨by kernel_rfl,fun j t ht => by
    rw [Tryd.params11] at ht
    have hm:t ∈ [9]:=by simpa using Array.mem_of_getElem? ht
    have hall:([9].all fun u => !Tryd.prog.wantsStandIn u) = true:=by kernel_rfl
    exact (show Tryd.prog.wantsStandIn t = false by simpa using List.all_eq_true.1 hall t hm)⟩)
  (by kernel_rfl)
end Go.Proofs.YtlmfdmlochpfcaaDoor
