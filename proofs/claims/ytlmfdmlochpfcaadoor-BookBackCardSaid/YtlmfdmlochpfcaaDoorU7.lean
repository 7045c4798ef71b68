/-
  Contracts of the layer's functions, of the laws' helpers and of the law; conditions: as each theorem states.
-/
import Derived.Test.YtlmfdmlochpfcaaDoorV2
import Derived.ProofKit
import Derived.Test.YtlmfdmlochpfcaaDoorU6
import Derived.Test.YtlmfdmlochpfcaaDoorU4
import Derived.Test.YtlmfdmlochpfcaaDoorRows
import Derived.OpenShut
import Derived.LaidMore
import Derived.Lay
import Derived.Test.YtlmfdmlochpfcaaDoorU5
import Derived.Test.YtlmfdmlochpfcaaDoorTie
import Derived.Test.YtlmfdmlochpfcaaDoorCards
import Derived.SevenTiedAt
import Derived.Stop.Joined
set_option linter.unusedVariables false
set_option linter.unusedSimpArgs false
/-
 Arguments that come in,as data.
-/
namespace Go.V
open Go
def M0:Cells:=fun _ _ => False
def RepVs (w:World):List CD → List Value → Prop
 | [],vs => vs = []
 | d :: ds,vs => ∃ v vs',vs = v :: vs' ∧ RepC w M0 d v ∧ RepVs w ds vs'
def Op1 (P:Program) (t:TypeId) (g:CD → Prop):Prop :=
 ∀ (H:Type) (enc:TypeId × Value → H) (w:World) (sp:Nat → Bool) (fuel:Nat) (cs:List Value) (x:DataW H × List MemPlace),DataW.trod enc P w 0 sp true fuel t cs = some x → ∃ d v,cs = [v] ∧ g d ∧ RepC w M0 d v
def OpN (P:Program) (t:TypeId) (G:List CD → Prop):Prop :=
 ∀ (H:Type) (enc:TypeId × Value → H) (w:World) (sp:Nat → Bool) (fuel:Nat) (cs:List Value) (x:DataW H × List MemPlace),DataW.trod enc P w 0 sp true fuel t cs = some x → ∃ ds,G ds ∧ ds.length = cs.length ∧ RepVs w ds cs
theorem OpN_of {P:Program} {t:TypeId} {g:CD → Prop} (h:Op1 P t g):OpN P t fun ds => ∃ d,ds = [d] ∧ g d:=by
 intro H enc w sp fuel cs x hx
 obtain ⟨d,v,rfl,hg,hr⟩:=h H enc w sp fuel cs x hx
 exact ⟨[d],⟨d,rfl,hg⟩,rfl,v,[],rfl,hr,rfl⟩
theorem RepL_of {w:World}:∀ {ds:List CD} {cs:List Value} {ad:Addr},RepVs w ds cs → (∀ j,j < cs.length → w.cell? (ad.add j) = cs[j]?) → RepL w M0 ds ad
 | [],cs,ad,_,_ => by simp only [RepL]
 | d :: ds,cs,ad,h,hc => by
  obtain ⟨v,vs,rfl,h1,h2⟩:=h
  simp only [RepL]
  refine ⟨⟨v,?_,id,h1⟩,RepL_of h2 fun j hj => ?_⟩
  ·have:=hc 0 (by simp)
   simpa [Addr.add] using this
  ·have:=hc (j + 1) (by simpa using hj)
   rw [add_of_add,Nat.add_comm 1 j]
   simpa using this
theorem RepE_of {w:World} {n:Nat}:∀ {es:List (List CD)} {ad:Addr},(∀ i e,es[i]? = some e → e.length = n ∧ RepL w M0 e (ad.add (i * n))) → RepE w M0 n es ad
 | [],ad,_ => by simp only [RepE]
 | e :: es,ad,h => by
  simp only [RepE]
  refine ⟨?_,RepE_of fun i e' hi => ?_⟩
  ·have:=h 0 e rfl
   simpa [Addr.add] using this
  ·have:=h (i + 1) e' (by simpa using hi)
   have e:ad.add ((i + 1) * n) = (ad.add n).add (i * n):=by rw [add_of_add,Nat.add_mul,Nat.one_mul,Nat.add_comm]
   rw [e] at this
   exact this
theorem Op1_slice {P:Program} {t e:TypeId} {G:List CD → Prop} (ht:P.underlying t = some (.slice e)) (h:OpN P e G):Op1 P t fun d => ∃ es,d = .sl (P.cellsOf e) es ∧ ∀ x ∈ es,G x:=by
 intro H enc w sp fuel cs x hx
 rcases DataW.trod_slice ht hx with ⟨rfl,rfl⟩ | ⟨a,len,cap,elems,rest,n,rfl,rfl,rfl,_,hlc,hcm,hel,hE,_,_⟩
 ·refine ⟨.sl (P.cellsOf e) [],_,rfl,⟨[],rfl,by simp⟩,?_⟩
  simp only [RepC]
  exact ⟨none,0,rfl,Nat.le_refl _,Nat.zero_le _,.inl trivial⟩
 ·have each:∀ i,i < len → ∃ ds,G ds ∧ ds.length = P.cellsOf e ∧ RepL w M0 ds (a.add (i * P.cellsOf e)):=by
   intro i hi
   have h1:=hE i hi
   rw [List.getElem?_eq_getElem (by omega),Option.bind_eq_some_iff] at h1
   obtain ⟨cs',hcs,hd⟩:=h1
   obtain ⟨ds,hg,hl,hr⟩:=h H enc w sp n cs' _ hd
   obtain ⟨_,hlen,hcell⟩:=World.cells?_some hcs
   exact ⟨ds,hg,by omega,RepL_of hr fun j hj => hcell j (by omega)⟩
  have hex:∀ m,m ≤ len → ∃ es:List (List CD),es.length = m ∧ ∀ (i:Nat) (e':List CD),es[i]? = some e' → G e' ∧ e'.length = P.cellsOf e ∧ RepL w M0 e' (a.add (i * P.cellsOf e)):=by
   intro m
   induction m with
   | zero => intro _; exact ⟨[],rfl,by simp⟩
   | succ m ih =>
    intro hm
    obtain ⟨es,hes,hh⟩:=ih (by omega)
    obtain ⟨ds,h1,h2,h3⟩:=each m (by omega)
    refine ⟨es ++ [ds],by simp [hes],fun i e' hi => ?_⟩
    rcases Nat.lt_or_ge i es.length with hlt | hge
    ·rw [List.getElem?_append_left hlt] at hi
     exact hh i e' hi
    ·rw [List.getElem?_append_right hge] at hi
     have:i - es.length = 0:=by
      have:=(List.getElem?_eq_some_iff.1 hi).1
      simp at this; omega
     rw [this] at hi
     simp at hi
     subst hi
     have:i = m:=by omega
     subst this
     exact ⟨h1,h2,h3⟩
  obtain ⟨es,hes,hh⟩:=hex len (Nat.le_refl _)
  refine ⟨.sl (P.cellsOf e) es,_,rfl,⟨es,rfl,fun x hx => ?_⟩,?_⟩
  ·obtain ⟨i,hi⟩:=List.getElem?_of_mem hx
   exact (hh i x hi).1
  ·simp only [RepC]
   exact ⟨some a,cap,by rw [hes],by omega,hcm,.inr ⟨a,rfl,RepE_of fun i e' hi => (hh i e' hi).2⟩⟩
end Go.V

/-
 What comes in: strings,lists of strings,marks,integers; behind a law's call; what the listed variables hold.
-/
namespace Go.V
open Go
theorem Op1_string {P:Program} {t:TypeId} (ht:P.underlying t = some .string):Op1 P t fun d => ∃ s,d = .str s:=by
 intro H enc w sp fuel cs x hx
 obtain ⟨s,rfl,_,_⟩:=DataW.trod_string ht hx
 exact ⟨.str s.data.toList,_,rfl,⟨_,rfl⟩,by simp only [RepC]⟩
end Go.V
namespace Go.Proofs.YtlmfdmlochpfcaaDoor
open Go Go.V
open Go.ChangeShapes Go.WideShapes Go.ChangeAt Go.RowKit
theorem own0:ownKnob Tryd.prog.godebug = none:=by kernel_rfl
theorem laidOut0:laidOutB Tryd.prog = true:=by kernel_rfl
theorem z5:Tryd.prog.cellsOf 5 = 1:=by kernel_rfl
theorem z9:Tryd.prog.cellsOf 9 = 1:=by kernel_rfl
theorem map_of {α β:Type} {f:β → α}:∀ {es:List α},(∀ x ∈ es,∃ s,x = f s) → ∃ l:List β,es = l.map f
 | [],_ => ⟨[],rfl⟩
 | e :: es,h => by
  obtain ⟨l,rfl⟩:=map_of (f:=f) fun x hx => h x (List.mem_cons_of_mem _ hx)
  obtain ⟨s,rfl⟩:=h e (by simp)
  exact ⟨s :: l,rfl⟩
section
set_option maxRecDepth 100000
variable {H:Type} {enc:TypeId × Value → H} {w:World} {sp:Nat → Bool}
end
set_option maxRecDepth 100000 in
theorem post_bool {H:Type} {enc:TypeId × Value → H} {f:Func} {s:ChangeSpec} {apart fresh handsOn again:Bool} {W W':World} {args:Array Value} {b:Bool} {ds:List (DataW H)} {before:List MemPlace}
  (hf:f.resultTypes = #[4]) (hv:s.vars = []) (hW:DataW.Whole enc Tryd.prog f.params.toList s.vars apart W args.toList ds [] before) (hb:Below W.heap.size W W')
  (hr:(s.fn H (ds ++ [])).results = [.lit (.bool b)]) (ha:(s.fn H (ds ++ [])).args = ds) (hvs:(s.fn H (ds ++ [])).vars = [])
  (hst:∀ sp:Nat → Bool,(∀ p ∈ before,sp p.block = true) → DataW.TrodAll enc Tryd.prog W' 0 sp true f.params.toList args.toList ds before):s.post enc Tryd.prog f apart fresh handsOn again W args (.bool b) W':=by
 have hlt:∀ p ∈ before,p.block < W.heap.size:=fun p hp => by simpa using hW.lt p hp
 have hres:∀ (n:Nat) (sp:Nat → Bool) (hd:Bool),DataW.TrodAll enc Tryd.prog W' n sp hd f.resultTypes.toList ((Value.bool b).resultList f.resultTypes.size) (s.fn H (ds ++ [])).results []:=by
  intro n sp hd
  rw [hf,hr]
  exact trodAll_mk1 (shut_bool Tryd.underlying4 _)
 have hargs:∀ sp:Nat → Bool,(∀ p ∈ before,sp p.block = true) → DataW.TrodAll enc Tryd.prog W' 0 sp true f.params.toList args.toList (s.fn H (ds ++ [])).args before:=fun sp h => by
  rw [ha]; exact hst sp h
 have hvars:∀ sp:Nat → Bool,DataW.TrodVars enc Tryd.prog W' sp s.vars (s.fn H (ds ++ [])).vars []:=fun sp => by
  rw [hv,hvs]; rfl
 refine ⟨ds,[],before,[],before,[],hW,hres _ _ _,hargs _ fun p hp => by simpa using hlt p hp,hvars _,hb.frame _,fun _ => ?_⟩
 have hz:=hW
 obtain ⟨_,_,_,_,_,hz1,hz2⟩:=hz
 have hall:DataW.TrodAll enc Tryd.prog W' 0 (fun _ => true) true (f.resultTypes.toList ++ f.params.toList) ((Value.bool b).resultList f.resultTypes.size ++ args.toList) ((s.fn H (ds ++ [])).results ++ (s.fn H (ds ++ [])).args) ([] ++ before) :=
  trodAll_append (hargs (fun _ => true) fun _ _ => rfl) (hres 0 (fun _ => true) true)
 rw [List.nil_append] at hall
 refine ⟨ok_one hf rfl (okWide_bool_mk Tryd.underlying4 b),(s.fn H (ds ++ [])).results ++ (s.fn H (ds ++ [])).args,(s.fn H (ds ++ [])).vars,before,⟨before,[],hall,hvars _,by simp,?_,hz2⟩,fun p hp _ => hp⟩
 intro k off hp
 rw [hb.frozen (hlt _ hp)]
 exact hz1 k off hp
end Go.Proofs.YtlmfdmlochpfcaaDoor

/-
 What comes in,more: lists of strings,marks,lists of marks,bytes.
-/
namespace Go.Proofs.YtlmfdmlochpfcaaDoor
open Go Go.V
open Go.ChangeShapes Go.WideShapes Go.ChangeAt Go.RowKit
set_option maxRecDepth 100000
theorem op9:Op1 Tryd.prog 9 fun d => ∃ s,d = .str s:=Op1_string Tryd.underlying9
theorem op22:Op1 Tryd.prog 22 fun d => ∃ l,d = strsV l:=by
 intro H enc w sp fuel cs x hx
 obtain ⟨d,v,rfl,⟨es,rfl,hes⟩,hr⟩:=Op1_slice Tryd.underlying22 (OpN_of op9) H enc w sp fuel cs x hx
 refine ⟨_,v,rfl,?_,hr⟩
 rw [z9]
 obtain ⟨l,hl⟩:=map_of (f:=fun t:List UInt8 => [CD.str t]) (es:=es) fun e he => by
  obtain ⟨d,rfl,s,rfl⟩:=hes e he
  exact ⟨s,rfl⟩
 exact ⟨l,by rw [hl]; rfl⟩
section
variable {H:Type} {enc:TypeId × Value → H} {w:World} {sp:Nat → Bool}
theorem open_strs {r:Reach} {b0:Nat} {v:Value} {d:DataW H} {ps:List MemPlace} (hval:Value.okWide Tryd.prog w r b0 22 v) (hd:DataW.Trod enc Tryd.prog w 0 sp true 22 v d ps):∃ l:List (List UInt8),RepA w M0 (fun _ => undef) (.c (strsV l)) v:=by
 obtain ⟨fuel,hf⟩:=hd
 obtain ⟨d',v',hc,⟨l,rfl⟩,hr⟩:=op22 H enc w sp fuel _ _ hf
 have:v = v':=by
  obtain ⟨a,b,c,rfl⟩:=okWide_slice Tryd.underlying22 hval
  simpa [Value.cells] using hc
 subst this
 exact ⟨l,by simp only [RepA]; exact hr⟩
end
end Go.Proofs.YtlmfdmlochpfcaaDoor

/-
 The row of BookBack,and its tied card: it answers true for whatever it is handed,and leaves it as it was.
-/
namespace Go.Proofs.YtlmfdmlochpfcaaDoor
open Go Go.V
open Go.ChangeShapes Go.WideShapes Go.ChangeAt Go.RowKit
set_option maxRecDepth 100000 in
theorem bookBack_lifted (os:Os) (started:os.Started) (H:Type) (enc:TypeId × Value → H) :
  ReturnsInHanded {} Tryd.checked os 8 .any (fun w args => (Rows.bookBackSpec.pre enc Tryd.prog Tryd.f8 Rows.bookBackRow.domain false w args ∧ laidMetH Tryd.prog [("unicode/utf8.acceptRanges",Rows.laid_unicode_utf8_acceptRanges),("unicode/utf8.first",Rows.laid_unicode_utf8_first)] w) ∧ sizedMet enc Tryd.prog Tryd.f8 (OpenSpec.ofChange Rows.bookBackSpec) false w args)
   (Rows.bookBackSpec.post enc Tryd.prog Tryd.f8 false true false false):=by
 refine returnsInHanded_of_change_and (C:=Tryd.checked) (X:=fun w _ => laidMetH Tryd.prog [("unicode/utf8.acceptRanges",Rows.laid_unicode_utf8_acceptRanges),("unicode/utf8.first",Rows.laid_unicode_utf8_first)] w) (fun _ _ _ hh h => h.of_heap hh) own0 started (by kernel_rfl) Tryd.func8
  (ChangeSpec.witness_shaped (enc:=enc) (C:=Tryd.checked) (os:=os) (X:=fun w _ => laidMetH Tryd.prog [("unicode/utf8.acceptRanges",Rows.laid_unicode_utf8_acceptRanges),("unicode/utf8.first",Rows.laid_unicode_utf8_first)] w) false (World.laidAll Tryd.prog os [("unicode/utf8.acceptRanges",Rows.laid_unicode_utf8_acceptRanges),("unicode/utf8.first",Rows.laid_unicode_utf8_first)]) #[.slice none 0 0] 8 (World.laidAll_os _ _ _)
   (World.shaped_of_ZipB (by kernel_rfl) (by kernel_rfl)) (by kernel_rfl) (by kernel_rfl) (by kernel_rfl)
   (by rw [MakeChecks.laidMetH_plain _ _ _ (by kernel_rfl)]; exact laidMet_laidAll _ (by kernel_rfl) (by kernel_rfl))) ?_
 intro W base args ds gs before hval0 hW _ _ _ _
 have hval:∀ (j:Nat) t v,Tryd.f8.params[j]? = some t → args[j]? = some v → Value.okWide Tryd.prog W .any base t v:=hval0
 have hW':=hW
 obtain ⟨p,q,hA0,hV,rfl,hfz,hnd⟩:=hW
 have hA:DataW.TrodAll enc Tryd.prog W 0 (fun _ => true) true Tryd.f8.params.toList args.toList ds p:=hA0
 rw [Tryd.params8] at hA hval
 obtain ⟨v0,d0,rfl,rfl,h0⟩:=trodAll_one hA
 obtain ⟨rfl,rfl⟩:=trodVars_none hV
 have hlt:∀ x ∈ p,x.block < W.heap.size:=fun x hx => by simpa using hW'.lt x (by simpa using hx)
 obtain ⟨R0,hR0⟩:=open_strs (hval 0 22 v0 rfl rfl) h0
 refine ((bookBack8 R0).2 W M0 [v0] (fun _ _ h => h.elim) (by simp only [RepAs]; exact ⟨v0,[],rfl,hR0,rfl⟩)).mono fun e W' hh => ?_
 obtain ⟨v,rfl,hv,hb⟩:=hh
 have hv:v = .bool true:=by simpa only [bv,RepA,RepC] using hv
 subst hv
 simp only [List.append_nil] at hW'
 have hW2:DataW.Whole enc Tryd.prog Tryd.f8.params.toList Rows.bookBackSpec.vars false W [v0] [d0] [] (p):=hW'
 refine ⟨_,rfl,post_bool (before:=p) (ds:=[d0]) (by kernel_rfl) rfl hW2 hb rfl rfl rfl fun sp hsp => ?_⟩
 rw [Tryd.params8]
 exact trodAll_mk1 (WideElems.Trod_stays laidOut0 (by kernel_rfl) (of_decide_eq_true (by kernel_rfl)) h0 (fun x hx => hb.same (hlt x hx)) fun x hx => hsp x hx)
theorem bookBack_row:Rows.BookBackSaid :=
 OpenClaim.holds_of_wide 8 Tryd.f8 rfl rfl rfl rfl rfl rfl rfl ⟨rfl,rfl,rfl,rfl,rfl⟩ rfl rfl rfl rfl rfl (by kernel_rfl) Tryd.func8 (by kernel_rfl)
  (of_decide_eq_true (by kernel_rfl)) (by unfold Func.isWrapper; rw [if_neg (of_decide_eq_false (by kernel_rfl))]; exact ⟨rfl,rfl⟩)
  (fun os started H enc _ => bookBack_lifted os started H enc)
theorem bookBack_holds:Rows.BookBackCardSaid :=
 Claim7.holds_tied_plain_at .later [] [.data,.pinned] true (true, "2f11f69eca9792850fda878921f73c0649dea776c7c2436db4fe02dd71cbaf64") false bookBack_row (fun _ h => by cases h) (by kernel_rfl) (fun _ h => by cases h) bookBack_row_tie rfl ⟨rfl,rfl⟩ (by kernel_rfl) rfl
  (fun f fn hf hfn => by
   obtain rfl:f = 8:=Option.some.inj ((show Tryd.prog.funcNamed "shellac/shellaclaw14.BookBack" = some 8 by kernel_rfl).symm.trans hf) |>.symm
   obtain rfl:fn = Tryd.f8:=(Option.some.inj (Tryd.func8.symm.trans hfn)).symm
   exact ⟨by kernel_rfl,fun j t ht => by
    rw [Tryd.params8] at ht
    have hm:t ∈ [22]:=by simpa using Array.mem_of_getElem? ht
    have hall:([22].all fun u => !Tryd.prog.wantsStandIn u) = true:=by kernel_rfl
    exact (show Tryd.prog.wantsStandIn t = false by simpa using List.all_eq_true.1 hall t hm)⟩)
  (by kernel_rfl)
end Go.Proofs.YtlmfdmlochpfcaaDoor
