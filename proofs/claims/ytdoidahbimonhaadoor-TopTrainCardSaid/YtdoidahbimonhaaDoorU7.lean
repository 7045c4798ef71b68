/-
  Contracts of the layer's functions, of the laws' helpers and of the law; conditions: as each theorem states.
-/
import Derived.Test.YtdoidahbimonhaaDoorV2
import Derived.ProofKit
import Derived.Test.YtdoidahbimonhaaDoorU6
import Derived.Test.YtdoidahbimonhaaDoorRows
import Derived.OpenShut
import Derived.LaidMore
import Derived.Lay
import Derived.Test.YtdoidahbimonhaaDoorTie
import Derived.Test.YtdoidahbimonhaaDoorCards
import Derived.SevenTiedAt
import Derived.Stop.Joined
set_option linter.unusedVariables false
set_option linter.unusedSimpArgs false
/-
 Arguments that come in,as data.
-/
namespace Go.V
open Go
def M0:Cells:=fun _ _ => False
def RepVs (w:World):List CD → List Value → Prop
 | [],vs => vs = []
 | d :: ds,vs => ∃ v vs',vs = v :: vs' ∧ RepC w M0 d v ∧ RepVs w ds vs'
def Op1 (P:Program) (t:TypeId) (g:CD → Prop):Prop :=
 ∀ (H:Type) (enc:TypeId × Value → H) (w:World) (sp:Nat → Bool) (fuel:Nat) (cs:List Value) (x:DataW H × List MemPlace),DataW.trod enc P w 0 sp true fuel t cs = some x → ∃ d v,cs = [v] ∧ g d ∧ RepC w M0 d v
def OpN (P:Program) (t:TypeId) (G:List CD → Prop):Prop :=
 ∀ (H:Type) (enc:TypeId × Value → H) (w:World) (sp:Nat → Bool) (fuel:Nat) (cs:List Value) (x:DataW H × List MemPlace),DataW.trod enc P w 0 sp true fuel t cs = some x → ∃ ds,G ds ∧ ds.length = cs.length ∧ RepVs w ds cs
theorem OpN_of {P:Program} {t:TypeId} {g:CD → Prop} (h:Op1 P t g):OpN P t fun ds => ∃ d,ds = [d] ∧ g d:=by
 intro H enc w sp fuel cs x hx
 obtain ⟨d,v,rfl,hg,hr⟩:=h H enc w sp fuel cs x hx
 exact ⟨[d],⟨d,rfl,hg⟩,rfl,v,[],rfl,hr,rfl⟩
theorem Op1_int {P:Program} {t:TypeId} {k:IntKind} (ht:P.underlying t = some (.int k)):Op1 P t fun d => ∃ n,d = .int k n:=by
 intro H enc w sp fuel cs x hx
 obtain ⟨n,rfl,_,_⟩:=DataW.trod_int ht hx
 exact ⟨.int k n,_,rfl,⟨n,rfl⟩,by simp only [RepC]⟩
theorem RepL_of {w:World}:∀ {ds:List CD} {cs:List Value} {ad:Addr},RepVs w ds cs → (∀ j,j < cs.length → w.cell? (ad.add j) = cs[j]?) → RepL w M0 ds ad
 | [],cs,ad,_,_ => by simp only [RepL]
 | d :: ds,cs,ad,h,hc => by
  obtain ⟨v,vs,rfl,h1,h2⟩:=h
  simp only [RepL]
  refine ⟨⟨v,?_,id,h1⟩,RepL_of h2 fun j hj => ?_⟩
  ·have:=hc 0 (by simp)
   simpa [Addr.add] using this
  ·have:=hc (j + 1) (by simpa using hj)
   rw [add_of_add,Nat.add_comm 1 j]
   simpa using this
theorem RepE_of {w:World} {n:Nat}:∀ {es:List (List CD)} {ad:Addr},(∀ i e,es[i]? = some e → e.length = n ∧ RepL w M0 e (ad.add (i * n))) → RepE w M0 n es ad
 | [],ad,_ => by simp only [RepE]
 | e :: es,ad,h => by
  simp only [RepE]
  refine ⟨?_,RepE_of fun i e' hi => ?_⟩
  ·have:=h 0 e rfl
   simpa [Addr.add] using this
  ·have:=h (i + 1) e' (by simpa using hi)
   have e:ad.add ((i + 1) * n) = (ad.add n).add (i * n):=by rw [add_of_add,Nat.add_mul,Nat.one_mul,Nat.add_comm]
   rw [e] at this
   exact this
theorem Op1_slice {P:Program} {t e:TypeId} {G:List CD → Prop} (ht:P.underlying t = some (.slice e)) (h:OpN P e G):Op1 P t fun d => ∃ es,d = .sl (P.cellsOf e) es ∧ ∀ x ∈ es,G x:=by
 intro H enc w sp fuel cs x hx
 rcases DataW.trod_slice ht hx with ⟨rfl,rfl⟩ | ⟨a,len,cap,elems,rest,n,rfl,rfl,rfl,_,hlc,hcm,hel,hE,_,_⟩
 ·refine ⟨.sl (P.cellsOf e) [],_,rfl,⟨[],rfl,by simp⟩,?_⟩
  simp only [RepC]
  exact ⟨none,0,rfl,Nat.le_refl _,Nat.zero_le _,.inl trivial⟩
 ·have each:∀ i,i < len → ∃ ds,G ds ∧ ds.length = P.cellsOf e ∧ RepL w M0 ds (a.add (i * P.cellsOf e)):=by
   intro i hi
   have h1:=hE i hi
   rw [List.getElem?_eq_getElem (by omega),Option.bind_eq_some_iff] at h1
   obtain ⟨cs',hcs,hd⟩:=h1
   obtain ⟨ds,hg,hl,hr⟩:=h H enc w sp n cs' _ hd
   obtain ⟨_,hlen,hcell⟩:=World.cells?_some hcs
   exact ⟨ds,hg,by omega,RepL_of hr fun j hj => hcell j (by omega)⟩
  have hex:∀ m,m ≤ len → ∃ es:List (List CD),es.length = m ∧ ∀ (i:Nat) (e':List CD),es[i]? = some e' → G e' ∧ e'.length = P.cellsOf e ∧ RepL w M0 e' (a.add (i * P.cellsOf e)):=by
   intro m
   induction m with
   | zero => intro _; exact ⟨[],rfl,by simp⟩
   | succ m ih =>
    intro hm
    obtain ⟨es,hes,hh⟩:=ih (by omega)
    obtain ⟨ds,h1,h2,h3⟩:=each m (by omega)
    refine ⟨es ++ [ds],by simp [hes],fun i e' hi => ?_⟩
    rcases Nat.lt_or_ge i es.length with hlt | hge
    ·rw [List.getElem?_append_left hlt] at hi
     exact hh i e' hi
    ·rw [List.getElem?_append_right hge] at hi
     have:i - es.length = 0:=by
      have:=(List.getElem?_eq_some_iff.1 hi).1
      simp at this; omega
     rw [this] at hi
     simp at hi
     subst hi
     have:i = m:=by omega
     subst this
     exact ⟨h1,h2,h3⟩
  obtain ⟨es,hes,hh⟩:=hex len (Nat.le_refl _)
  refine ⟨.sl (P.cellsOf e) es,_,rfl,⟨es,rfl,fun x hx => ?_⟩,?_⟩
  ·obtain ⟨i,hi⟩:=List.getElem?_of_mem hx
   exact (hh i x hi).1
  ·simp only [RepC]
   exact ⟨some a,cap,by rw [hes],by omega,hcm,.inr ⟨a,rfl,RepE_of fun i e' hi => (hh i e' hi).2⟩⟩
theorem OpN_struct {P:Program} {t:TypeId} {fs:Array Field} {gs:List (CD → Prop)} (ht:P.underlying t = some (.struct fs)) (hn:P.cellsOf t = fs.size) (hgs:gs.length = fs.size)
  (h:∀ (i:Nat) (f:Field) (g:CD → Prop),fs[i]? = some f → gs[i]? = some g → f.offset = i ∧ P.cellsOf f.type = 1 ∧ Op1 P f.type g):OpN P t fun ds => ds.length = gs.length ∧ ∀ (i:Nat) (d:CD) (g:CD → Prop),ds[i]? = some d → gs[i]? = some g → g d:=by
 intro H enc w sp fuel cs x hx
 obtain ⟨xs,n,rfl,rfl,hl,hxl,hX⟩:=DataW.trod_struct ht hx
 have each:∀ (i:Nat) (v:Value),cs[i]? = some v → ∃ d:CD,RepC w M0 d v ∧ ∀ g:CD → Prop,gs[i]? = some g → g d:=by
  intro i v hv
  have hi:i < fs.size:=by have:=(List.getElem?_eq_some_iff.1 hv).1; omega
  obtain ⟨f,hf⟩ : ∃ f,fs[i]? = some f:=⟨fs[i],by simp [hi]⟩
  obtain ⟨g,hg⟩ : ∃ g,gs[i]? = some g:=⟨gs[i]'(by omega),by simp [hgs,hi]⟩
  obtain ⟨ho,hc,hop⟩:=h i f g hf hg
  have h1:=hX i f hf
  rw [ho,hc,List.getElem?_eq_getElem (by omega)] at h1
  obtain ⟨d,v',hcs,hgd,hr⟩:=hop H enc w sp n _ _ h1
  have:v' = v:=by
   have e:((cs.drop i).take 1)[0]? = some v:=by rw [List.getElem?_take]; simp [hv]
   rw [hcs] at e
   simpa using e
  subst this
  refine ⟨d,hr,fun g' hg' => ?_⟩
  rw [hg] at hg'
  cases hg'
  exact hgd
 have hex:∀ (cs:List Value) (k:Nat),(∀ (i:Nat) (v:Value),cs[i]? = some v → ∃ d:CD,RepC w M0 d v ∧ ∀ g:CD → Prop,gs[k + i]? = some g → g d) → ∃ ds:List CD,ds.length = cs.length ∧ RepVs w ds cs ∧ ∀ (i:Nat) (d:CD) (g:CD → Prop),ds[i]? = some d → gs[k + i]? = some g → g d:=by
  intro cs
  induction cs with
  | nil => intro k _; exact ⟨[],rfl,rfl,by simp⟩
  | cons v vs ih =>
   intro k hh
   obtain ⟨d,h1,h2⟩:=hh 0 v rfl
   obtain ⟨ds,h3,h4,h5⟩:=ih (k + 1) fun i u hu => by
    have:=hh (i + 1) u (by simpa using hu)
    rwa [show k + (i + 1) = k + 1 + i from by omega] at this
   refine ⟨d :: ds,by simp [h3],⟨v,vs,rfl,h1,h4⟩,fun i d' g hi hg => ?_⟩
   cases i with
   | zero => simp at hi; subst hi; exact h2 g (by simpa using hg)
   | succ i => exact h5 i d' g (by simpa using hi) (by rwa [show k + 1 + i = k + (i + 1) from by omega])
 obtain ⟨ds,h1,h2,h3⟩:=hex cs 0 fun i v hv => by simpa using each i v hv
 exact ⟨ds,⟨by omega,fun i d g hi hg => h3 i d g hi (by simpa using hg)⟩,h1,h2⟩
end Go.V

/-
 What comes in: strings,lists of strings,marks,integers; behind a law's call; what the listed variables hold.
-/
namespace Go.Proofs.YtdoidahbimonhaaDoor
open Go Go.V
open Go.ChangeShapes Go.WideShapes Go.ChangeAt Go.RowKit
theorem own0:ownKnob Tryd.prog.godebug = none:=by kernel_rfl
theorem laidOut0:laidOutB Tryd.prog = true:=by kernel_rfl
theorem z3:Tryd.prog.cellsOf 3 = 1:=by kernel_rfl
theorem z22:Tryd.prog.cellsOf 22 = 1:=by kernel_rfl
theorem z24:Tryd.prog.cellsOf 24 = 8:=by kernel_rfl
theorem z63:Tryd.prog.cellsOf 63 = 2:=by kernel_rfl
theorem map_of {α β:Type} {f:β → α}:∀ {es:List α},(∀ x ∈ es,∃ s,x = f s) → ∃ l:List β,es = l.map f
 | [],_ => ⟨[],rfl⟩
 | e :: es,h => by
  obtain ⟨l,rfl⟩:=map_of (f:=f) fun x hx => h x (List.mem_cons_of_mem _ hx)
  obtain ⟨s,rfl⟩:=h e (by simp)
  exact ⟨s :: l,rfl⟩
set_option maxRecDepth 100000 in
theorem post_bool {H:Type} {enc:TypeId × Value → H} {f:Func} {s:ChangeSpec} {apart fresh handsOn again:Bool} {W W':World} {args:Array Value} {b:Bool} {ds:List (DataW H)} {before:List MemPlace}
  (hf:f.resultTypes = #[4]) (hv:s.vars = []) (hW:DataW.Whole enc Tryd.prog f.params.toList s.vars apart W args.toList ds [] before) (hb:Below W.heap.size W W')
  (hr:(s.fn H (ds ++ [])).results = [.lit (.bool b)]) (ha:(s.fn H (ds ++ [])).args = ds) (hvs:(s.fn H (ds ++ [])).vars = [])
  (hst:∀ sp:Nat → Bool,(∀ p ∈ before,sp p.block = true) → DataW.TrodAll enc Tryd.prog W' 0 sp true f.params.toList args.toList ds before):s.post enc Tryd.prog f apart fresh handsOn again W args (.bool b) W':=by
 have hlt:∀ p ∈ before,p.block < W.heap.size:=fun p hp => by simpa using hW.lt p hp
 have hres:∀ (n:Nat) (sp:Nat → Bool) (hd:Bool),DataW.TrodAll enc Tryd.prog W' n sp hd f.resultTypes.toList ((Value.bool b).resultList f.resultTypes.size) (s.fn H (ds ++ [])).results []:=by
  intro n sp hd
  rw [hf,hr]
  exact trodAll_mk1 (shut_bool Tryd.underlying4 _)
 have hargs:∀ sp:Nat → Bool,(∀ p ∈ before,sp p.block = true) → DataW.TrodAll enc Tryd.prog W' 0 sp true f.params.toList args.toList (s.fn H (ds ++ [])).args before:=fun sp h => by
  rw [ha]; exact hst sp h
 have hvars:∀ sp:Nat → Bool,DataW.TrodVars enc Tryd.prog W' sp s.vars (s.fn H (ds ++ [])).vars []:=fun sp => by
  rw [hv,hvs]; rfl
 refine ⟨ds,[],before,[],before,[],hW,hres _ _ _,hargs _ fun p hp => by simpa using hlt p hp,hvars _,hb.frame _,fun _ => ?_⟩
 have hz:=hW
 obtain ⟨_,_,_,_,_,hz1,hz2⟩:=hz
 have hall:DataW.TrodAll enc Tryd.prog W' 0 (fun _ => true) true (f.resultTypes.toList ++ f.params.toList) ((Value.bool b).resultList f.resultTypes.size ++ args.toList) ((s.fn H (ds ++ [])).results ++ (s.fn H (ds ++ [])).args) ([] ++ before) :=
  trodAll_append (hargs (fun _ => true) fun _ _ => rfl) (hres 0 (fun _ => true) true)
 rw [List.nil_append] at hall
 refine ⟨ok_one hf rfl (okWide_bool_mk Tryd.underlying4 b),(s.fn H (ds ++ [])).results ++ (s.fn H (ds ++ [])).args,(s.fn H (ds ++ [])).vars,before,⟨before,[],hall,hvars _,by simp,?_,hz2⟩,fun p hp _ => hp⟩
 intro k off hp
 rw [hb.frozen (hlt _ hp)]
 exact hz1 k off hp
section
set_option maxRecDepth 100000
def isI (d:CD):Prop:=∃ n,d = .int .i64 n
theorem op3:Op1 Tryd.prog 3 isI:=Op1_int Tryd.underlying3
def isL (d:CD):Prop:=∃ l,d = isC l
theorem op22:Op1 Tryd.prog 22 isL:=by
 intro H enc w sp fuel cs x hx
 obtain ⟨d,v,rfl,⟨es,rfl,hes⟩,hr⟩:=Op1_slice Tryd.underlying22 (OpN_of op3) H enc w sp fuel cs x hx
 refine ⟨_,v,rfl,?_,hr⟩
 rw [z3]
 obtain ⟨l,hl⟩:=map_of (f:=fun n:Int => [CD.int .i64 n]) (es:=es) fun e he => by
  obtain ⟨d,rfl,s,rfl⟩:=hes e he
  exact ⟨s,rfl⟩
 exact ⟨l,by rw [hl]; rfl⟩
theorem op63:OpN Tryd.prog 63 fun ds => ∃ m,ds = placeC m:=by
 have h:=OpN_struct (P:=Tryd.prog) (gs:=[isI,isI]) Tryd.underlying63 z63 rfl (fun i f g hf hg => by
  match i with
  | 0 => simp at hf hg; subst hf; subst hg; exact ⟨rfl,z3,op3⟩
  | 1 => simp at hf hg; subst hf; subst hg; exact ⟨rfl,z3,op3⟩
  | i + 2 => simp at hg)
 intro H enc w sp fuel cs x hx
 obtain ⟨ds,⟨hl,hg⟩,h1,h2⟩:=h H enc w sp fuel cs x hx
 refine ⟨ds,?_,h1,h2⟩
 obtain ⟨a,b,rfl⟩ : ∃ a b,ds = [a,b]:=by
  match ds,hl with
  | [a,b],_ => exact ⟨a,b,rfl⟩
 obtain ⟨n0,rfl⟩:=hg 0 a isI rfl rfl
 obtain ⟨n1,rfl⟩:=hg 1 b isI rfl rfl
 exact ⟨(n0,n1),rfl⟩
theorem op25:Op1 Tryd.prog 25 fun d => ∃ l,d = placesC l:=by
 intro H enc w sp fuel cs x hx
 obtain ⟨d,v,rfl,⟨es,rfl,hes⟩,hr⟩:=Op1_slice Tryd.underlying25 op63 H enc w sp fuel cs x hx
 refine ⟨_,v,rfl,?_,hr⟩
 rw [z63]
 obtain ⟨l,hl⟩:=map_of (f:=placeC) (es:=es) fun e he => hes e he
 exact ⟨l,by rw [hl]; rfl⟩
theorem op24:OpN Tryd.prog 24 fun ds => ∃ p:Tr,ds = p.cds:=by
 have h:=OpN_struct (P:=Tryd.prog) (gs:=[isI,isI,isI,isI,isI,isI,isI,isL]) Tryd.underlying24 z24 rfl (fun i f g hf hg => by
  match i with
  | 0 => simp at hf hg; subst hf; subst hg; exact ⟨rfl,z3,op3⟩
  | 1 => simp at hf hg; subst hf; subst hg; exact ⟨rfl,z3,op3⟩
  | 2 => simp at hf hg; subst hf; subst hg; exact ⟨rfl,z3,op3⟩
  | 3 => simp at hf hg; subst hf; subst hg; exact ⟨rfl,z3,op3⟩
  | 4 => simp at hf hg; subst hf; subst hg; exact ⟨rfl,z3,op3⟩
  | 5 => simp at hf hg; subst hf; subst hg; exact ⟨rfl,z3,op3⟩
  | 6 => simp at hf hg; subst hf; subst hg; exact ⟨rfl,z3,op3⟩
  | 7 => simp at hf hg; subst hf; subst hg; exact ⟨rfl,z22,op22⟩
  | i + 8 => simp at hg)
 intro H enc w sp fuel cs x hx
 obtain ⟨ds,⟨hl,hg⟩,h1,h2⟩:=h H enc w sp fuel cs x hx
 refine ⟨ds,?_,h1,h2⟩
 obtain ⟨a,b,c,d,e,f,g,k,rfl⟩ : ∃ a b c d e f g k,ds = [a,b,c,d,e,f,g,k]:=by
  match ds,hl with
  | [a,b,c,d,e,f,g,k],_ => exact ⟨a,b,c,d,e,f,g,k,rfl⟩
 obtain ⟨n0,rfl⟩:=hg 0 a isI rfl rfl
 obtain ⟨n1,rfl⟩:=hg 1 b isI rfl rfl
 obtain ⟨n2,rfl⟩:=hg 2 c isI rfl rfl
 obtain ⟨n3,rfl⟩:=hg 3 d isI rfl rfl
 obtain ⟨n4,rfl⟩:=hg 4 e isI rfl rfl
 obtain ⟨n5,rfl⟩:=hg 5 f isI rfl rfl
 obtain ⟨n6,rfl⟩:=hg 6 g isI rfl rfl
 obtain ⟨l,rfl⟩:=hg 7 k isL rfl rfl
 exact ⟨⟨n0,n1,n2,n3,n4,n5,n6,l⟩,rfl⟩
end
set_option maxRecDepth 100000
theorem RepAs_of {w:World}:∀ {ds:List CD} {vs:List Value},RepVs w ds vs → RepAs w M0 (fun _ => undef) (ds.map .c) vs
 | [],vs,h => by simp only [RepVs] at h; subst h; simp only [List.map_nil,RepAs]
 | d :: ds,vs,h => by
  obtain ⟨v,vs',rfl,h1,h2⟩:=h
  simp only [List.map_cons,RepAs,RepA]
  exact ⟨v,vs',rfl,h1,RepAs_of h2⟩
section
variable {H:Type} {enc:TypeId × Value → H} {w:World} {sp:Nat → Bool}
theorem open_marks {r:Reach} {b0:Nat} {v:Value} {d:DataW H} {ps:List MemPlace} (hval:Value.okWide Tryd.prog w r b0 25 v) (hd:DataW.Trod enc Tryd.prog w 0 sp true 25 v d ps):∃ l:List (Int × Int),RepA w M0 (fun _ => undef) (.c (placesC l)) v:=by
 obtain ⟨fuel,hf⟩:=hd
 obtain ⟨d',v',hc,⟨l,rfl⟩,hr⟩:=op25 H enc w sp fuel _ _ hf
 have:v = v':=by
  obtain ⟨a,b,c,rfl⟩:=okWide_slice Tryd.underlying25 hval
  simpa [Value.cells] using hc
 subst this
 exact ⟨l,by simp only [RepA]; exact hr⟩
theorem open_train {r:Reach} {b0:Nat} {v:Value} {d:DataW H} {ps:List MemPlace} (hval:Value.okWide Tryd.prog w r b0 24 v) (hd:DataW.Trod enc Tryd.prog w 0 sp true 24 v d ps):∃ p:Tr,RepA w M0 (fun _ => undef) (.agg p.avs) v:=by
 unfold Value.okWide at hval
 rw [Tryd.underlying24] at hval
 obtain ⟨cs,rfl,_,_⟩:=hval
 obtain ⟨fuel,hf⟩:=hd
 obtain ⟨ds,⟨p,rfl⟩,_,hr⟩:=op24 H enc w sp fuel _ _ hf
 refine ⟨p,?_⟩
 rw [show p.avs = p.cds.map .c from rfl]
 simp only [RepA]
 exact ⟨cs.toList,by simp,RepAs_of hr⟩
end
end Go.Proofs.YtdoidahbimonhaaDoor

/-
 The row of TopTrain,and its tied card: it answers true for whatever it is handed,and leaves it as it was.
-/
namespace Go.Proofs.YtdoidahbimonhaaDoor
open Go Go.V
open Go.ChangeShapes Go.WideShapes Go.ChangeAt Go.RowKit
set_option maxRecDepth 100000 in
theorem topTrain_lifted (os:Os) (started:os.Started) (H:Type) (enc:TypeId × Value → H) :
  ReturnsInHanded {} Tryd.checked os 3 .any (fun w args => (Rows.topTrainSpec.pre enc Tryd.prog Tryd.f3 Rows.topTrainRow.domain false w args ∧ laidMetH Tryd.prog [("unicode/utf8.acceptRanges",Rows.laid_unicode_utf8_acceptRanges),("unicode/utf8.first",Rows.laid_unicode_utf8_first)] w) ∧ sizedMet enc Tryd.prog Tryd.f3 (OpenSpec.ofChange Rows.topTrainSpec) false w args)
   (Rows.topTrainSpec.post enc Tryd.prog Tryd.f3 false true false false):=by
 refine returnsInHanded_of_change_and (C:=Tryd.checked) (X:=fun w _ => laidMetH Tryd.prog [("unicode/utf8.acceptRanges",Rows.laid_unicode_utf8_acceptRanges),("unicode/utf8.first",Rows.laid_unicode_utf8_first)] w) (fun _ _ _ hh h => h.of_heap hh) own0 started (by kernel_rfl) Tryd.func3
  (ChangeSpec.witness_shaped (enc:=enc) (C:=Tryd.checked) (os:=os) (X:=fun w _ => laidMetH Tryd.prog [("unicode/utf8.acceptRanges",Rows.laid_unicode_utf8_acceptRanges),("unicode/utf8.first",Rows.laid_unicode_utf8_first)] w) false (World.laidAll Tryd.prog os [("unicode/utf8.acceptRanges",Rows.laid_unicode_utf8_acceptRanges),("unicode/utf8.first",Rows.laid_unicode_utf8_first)]) #[.agg #[.int .i64 0,.int .i64 0,.int .i64 0,.int .i64 0,.int .i64 0,.int .i64 0,.int .i64 0,.slice none 0 0],.slice none 0 0] 8 (World.laidAll_os _ _ _)
   (World.shaped_of_ZipB (by kernel_rfl) (by kernel_rfl)) (by kernel_rfl) (by kernel_rfl) (by kernel_rfl)
   (by rw [MakeChecks.laidMetH_plain _ _ _ (by kernel_rfl)]; exact laidMet_laidAll _ (by kernel_rfl) (by kernel_rfl))) ?_
 intro W base args ds gs before hval0 hW _ _ _ _
 have hval:∀ (j:Nat) t v,Tryd.f3.params[j]? = some t → args[j]? = some v → Value.okWide Tryd.prog W .any base t v:=hval0
 have hW':=hW
 obtain ⟨p,q,hA0,hV,rfl,hfz,hnd⟩:=hW
 have hA:DataW.TrodAll enc Tryd.prog W 0 (fun _ => true) true Tryd.f3.params.toList args.toList ds p:=hA0
 rw [Tryd.params3] at hA hval
 obtain ⟨v0,v1,d0,d1,p0,p1,rfl,rfl,rfl,h0,h1⟩:=trodAll_two hA
 obtain ⟨rfl,rfl⟩:=trodVars_none hV
 have hlt:∀ x ∈ p0 ++ p1,x.block < W.heap.size:=fun x hx => by simpa using hW'.lt x (by simpa using hx)
 obtain ⟨R0,hR0⟩:=open_train (hval 0 24 v0 rfl rfl) h0
 obtain ⟨R1,hR1⟩:=open_marks (hval 1 25 v1 rfl rfl) h1
 refine ((topTrain3 R0 R1).2 W M0 [v0,v1] (fun _ _ h => h.elim) (by simp only [RepAs]; exact ⟨v0,[v1],rfl,hR0,v1,[],rfl,hR1,rfl⟩)).mono fun e W' hh => ?_
 obtain ⟨v,rfl,hv,hb⟩:=hh
 have hv:v = .bool true:=by simpa only [bv,RepA,RepC] using hv
 subst hv
 simp only [List.append_nil] at hW'
 have hW2:DataW.Whole enc Tryd.prog Tryd.f3.params.toList Rows.topTrainSpec.vars false W [v0,v1] [d0,d1] [] (p0 ++ p1):=hW'
 refine ⟨_,rfl,post_bool (before:=p0 ++ p1) (ds:=[d0,d1]) (by kernel_rfl) rfl hW2 hb rfl rfl rfl fun sp hsp => ?_⟩
 rw [Tryd.params3]
 exact trodAll_mk2 (WideElems.Trod_stays laidOut0 (by kernel_rfl) (of_decide_eq_true (by kernel_rfl)) h0 (fun x hx => hb.same (hlt x (by simp [hx]))) fun x hx => hsp x (by simp [hx])) (WideElems.Trod_stays laidOut0 (by kernel_rfl) (of_decide_eq_true (by kernel_rfl)) h1 (fun x hx => hb.same (hlt x (by simp [hx]))) fun x hx => hsp x (by simp [hx]))
theorem topTrain_row:Rows.TopTrainSaid :=
 OpenClaim.holds_of_wide 3 Tryd.f3 rfl rfl rfl rfl rfl rfl rfl ⟨rfl,rfl,rfl,rfl,rfl⟩ rfl rfl rfl rfl rfl (by kernel_rfl) Tryd.func3 (by kernel_rfl)
  (of_decide_eq_true (by kernel_rfl)) (by unfold Func.isWrapper; rw [if_neg (of_decide_eq_false (by kernel_rfl))]; exact ⟨rfl,rfl⟩)
  (fun os started H enc _ => topTrain_lifted os started H enc)
theorem topTrain_holds:Rows.TopTrainCardSaid :=
 Claim7.holds_tied_plain_at .later [] [.data,.pinned] true (true, "73bbab3bb95217ecc00d326e3fe30a39e00a0bb96eb5c24493fb415e270987c1") false topTrain_row (fun _ h => by cases h) (by kernel_rfl) (fun _ h => by cases h) topTrain_row_tie rfl ⟨rfl,rfl⟩ (by kernel_rfl) rfl
  (fun f fn hf hfn => by
   obtain rfl:f = 3:=Option.some.inj ((show Tryd.prog.funcNamed "shellac/shellactop.TopTrain" = some 3 by kernel_rfl).symm.trans hf) |>.symm
   obtain rfl:fn = Tryd.f3:=(Option.some.inj (Tryd.func3.symm.trans hfn)).symm
   exact ⟨by kernel_rfl,fun j t ht => by
    rw [Tryd.params3] at ht
    have hm:t ∈ [24,25]:=by simpa using Array.mem_of_getElem? ht
    have hall:([24,25].all fun u => !Tryd.prog.wantsStandIn u) = true:=by kernel_rfl
    exact (show Tryd.prog.wantsStandIn t = false by simpa using List.all_eq_true.1 hall t hm)⟩)
  (by kernel_rfl)
end Go.Proofs.YtdoidahbimonhaaDoor
