/-
  Contracts of the layer's functions, of the laws' helpers and of the law; conditions: as each theorem states.
-/
import Derived.Test.YtbclmfjibpppfaaGreatV2
import Derived.ProofKit
import Derived.Test.YtbclmfjibpppfaaGreatU8
import Derived.Test.YtbclmfjibpppfaaGreatRows
set_option linter.unusedVariables false
set_option linter.unusedSimpArgs false
/-
 Arguments that come in,as data.
-/
namespace Go.V
open Go
def M0:Cells:=fun _ _ => False
def RepVs (w:World):List CD → List Value → Prop
 | [],vs => vs = []
 | d :: ds,vs => ∃ v vs',vs = v :: vs' ∧ RepC w M0 d v ∧ RepVs w ds vs'
def Op1 (P:Program) (t:TypeId) (g:CD → Prop):Prop :=
 ∀ (H:Type) (enc:TypeId × Value → H) (w:World) (sp:Nat → Bool) (fuel:Nat) (cs:List Value) (x:DataW H × List MemPlace),DataW.trod enc P w 0 sp true fuel t cs = some x → ∃ d v,cs = [v] ∧ g d ∧ RepC w M0 d v
def OpN (P:Program) (t:TypeId) (G:List CD → Prop):Prop :=
 ∀ (H:Type) (enc:TypeId × Value → H) (w:World) (sp:Nat → Bool) (fuel:Nat) (cs:List Value) (x:DataW H × List MemPlace),DataW.trod enc P w 0 sp true fuel t cs = some x → ∃ ds,G ds ∧ ds.length = cs.length ∧ RepVs w ds cs
theorem OpN_of {P:Program} {t:TypeId} {g:CD → Prop} (h:Op1 P t g):OpN P t fun ds => ∃ d,ds = [d] ∧ g d:=by
 intro H enc w sp fuel cs x hx
 obtain ⟨d,v,rfl,hg,hr⟩:=h H enc w sp fuel cs x hx
 exact ⟨[d],⟨d,rfl,hg⟩,rfl,v,[],rfl,hr,rfl⟩
theorem Op1_int {P:Program} {t:TypeId} {k:IntKind} (ht:P.underlying t = some (.int k)):Op1 P t fun d => ∃ n,d = .int k n:=by
 intro H enc w sp fuel cs x hx
 obtain ⟨n,rfl,_,_⟩:=DataW.trod_int ht hx
 exact ⟨.int k n,_,rfl,⟨n,rfl⟩,by simp only [RepC]⟩
theorem RepL_of {w:World}:∀ {ds:List CD} {cs:List Value} {ad:Addr},RepVs w ds cs → (∀ j,j < cs.length → w.cell? (ad.add j) = cs[j]?) → RepL w M0 ds ad
 | [],cs,ad,_,_ => by simp only [RepL]
 | d :: ds,cs,ad,h,hc => by
  obtain ⟨v,vs,rfl,h1,h2⟩:=h
  simp only [RepL]
  refine ⟨⟨v,?_,id,h1⟩,RepL_of h2 fun j hj => ?_⟩
  ·have:=hc 0 (by simp)
   simpa [Addr.add] using this
  ·have:=hc (j + 1) (by simpa using hj)
   rw [add_of_add,Nat.add_comm 1 j]
   simpa using this
theorem RepE_of {w:World} {n:Nat}:∀ {es:List (List CD)} {ad:Addr},(∀ i e,es[i]? = some e → e.length = n ∧ RepL w M0 e (ad.add (i * n))) → RepE w M0 n es ad
 | [],ad,_ => by simp only [RepE]
 | e :: es,ad,h => by
  simp only [RepE]
  refine ⟨?_,RepE_of fun i e' hi => ?_⟩
  ·have:=h 0 e rfl
   simpa [Addr.add] using this
  ·have:=h (i + 1) e' (by simpa using hi)
   have e:ad.add ((i + 1) * n) = (ad.add n).add (i * n):=by rw [add_of_add,Nat.add_mul,Nat.one_mul,Nat.add_comm]
   rw [e] at this
   exact this
theorem Op1_slice {P:Program} {t e:TypeId} {G:List CD → Prop} (ht:P.underlying t = some (.slice e)) (h:OpN P e G):Op1 P t fun d => ∃ es,d = .sl (P.cellsOf e) es ∧ ∀ x ∈ es,G x:=by
 intro H enc w sp fuel cs x hx
 rcases DataW.trod_slice ht hx with ⟨rfl,rfl⟩ | ⟨a,len,cap,elems,rest,n,rfl,rfl,rfl,_,hlc,hcm,hel,hE,_,_⟩
 ·refine ⟨.sl (P.cellsOf e) [],_,rfl,⟨[],rfl,by simp⟩,?_⟩
  simp only [RepC]
  exact ⟨none,0,rfl,Nat.le_refl _,Nat.zero_le _,.inl trivial⟩
 ·have each:∀ i,i < len → ∃ ds,G ds ∧ ds.length = P.cellsOf e ∧ RepL w M0 ds (a.add (i * P.cellsOf e)):=by
   intro i hi
   have h1:=hE i hi
   rw [List.getElem?_eq_getElem (by omega),Option.bind_eq_some_iff] at h1
   obtain ⟨cs',hcs,hd⟩:=h1
   obtain ⟨ds,hg,hl,hr⟩:=h H enc w sp n cs' _ hd
   obtain ⟨_,hlen,hcell⟩:=World.cells?_some hcs
   exact ⟨ds,hg,by omega,RepL_of hr fun j hj => hcell j (by omega)⟩
  have hex:∀ m,m ≤ len → ∃ es:List (List CD),es.length = m ∧ ∀ (i:Nat) (e':List CD),es[i]? = some e' → G e' ∧ e'.length = P.cellsOf e ∧ RepL w M0 e' (a.add (i * P.cellsOf e)):=by
   intro m
   induction m with
   | zero => intro _; exact ⟨[],rfl,by simp⟩
   | succ m ih =>
    intro hm
    obtain ⟨es,hes,hh⟩:=ih (by omega)
    obtain ⟨ds,h1,h2,h3⟩:=each m (by omega)
    refine ⟨es ++ [ds],by simp [hes],fun i e' hi => ?_⟩
    rcases Nat.lt_or_ge i es.length with hlt | hge
    ·rw [List.getElem?_append_left hlt] at hi
     exact hh i e' hi
    ·rw [List.getElem?_append_right hge] at hi
     have:i - es.length = 0:=by
      have:=(List.getElem?_eq_some_iff.1 hi).1
      simp at this; omega
     rw [this] at hi
     simp at hi
     subst hi
     have:i = m:=by omega
     subst this
     exact ⟨h1,h2,h3⟩
  obtain ⟨es,hes,hh⟩:=hex len (Nat.le_refl _)
  refine ⟨.sl (P.cellsOf e) es,_,rfl,⟨es,rfl,fun x hx => ?_⟩,?_⟩
  ·obtain ⟨i,hi⟩:=List.getElem?_of_mem hx
   exact (hh i x hi).1
  ·simp only [RepC]
   exact ⟨some a,cap,by rw [hes],by omega,hcm,.inr ⟨a,rfl,RepE_of fun i e' hi => (hh i e' hi).2⟩⟩
theorem OpN_struct {P:Program} {t:TypeId} {fs:Array Field} {gs:List (CD → Prop)} (ht:P.underlying t = some (.struct fs)) (hn:P.cellsOf t = fs.size) (hgs:gs.length = fs.size)
  (h:∀ (i:Nat) (f:Field) (g:CD → Prop),fs[i]? = some f → gs[i]? = some g → f.offset = i ∧ P.cellsOf f.type = 1 ∧ Op1 P f.type g):OpN P t fun ds => ds.length = gs.length ∧ ∀ (i:Nat) (d:CD) (g:CD → Prop),ds[i]? = some d → gs[i]? = some g → g d:=by
 intro H enc w sp fuel cs x hx
 obtain ⟨xs,n,rfl,rfl,hl,hxl,hX⟩:=DataW.trod_struct ht hx
 have each:∀ (i:Nat) (v:Value),cs[i]? = some v → ∃ d:CD,RepC w M0 d v ∧ ∀ g:CD → Prop,gs[i]? = some g → g d:=by
  intro i v hv
  have hi:i < fs.size:=by have:=(List.getElem?_eq_some_iff.1 hv).1; omega
  obtain ⟨f,hf⟩ : ∃ f,fs[i]? = some f:=⟨fs[i],by simp [hi]⟩
  obtain ⟨g,hg⟩ : ∃ g,gs[i]? = some g:=⟨gs[i]'(by omega),by simp [hgs,hi]⟩
  obtain ⟨ho,hc,hop⟩:=h i f g hf hg
  have h1:=hX i f hf
  rw [ho,hc,List.getElem?_eq_getElem (by omega)] at h1
  obtain ⟨d,v',hcs,hgd,hr⟩:=hop H enc w sp n _ _ h1
  have:v' = v:=by
   have e:((cs.drop i).take 1)[0]? = some v:=by rw [List.getElem?_take]; simp [hv]
   rw [hcs] at e
   simpa using e
  subst this
  refine ⟨d,hr,fun g' hg' => ?_⟩
  rw [hg] at hg'
  cases hg'
  exact hgd
 have hex:∀ (cs:List Value) (k:Nat),(∀ (i:Nat) (v:Value),cs[i]? = some v → ∃ d:CD,RepC w M0 d v ∧ ∀ g:CD → Prop,gs[k + i]? = some g → g d) → ∃ ds:List CD,ds.length = cs.length ∧ RepVs w ds cs ∧ ∀ (i:Nat) (d:CD) (g:CD → Prop),ds[i]? = some d → gs[k + i]? = some g → g d:=by
  intro cs
  induction cs with
  | nil => intro k _; exact ⟨[],rfl,rfl,by simp⟩
  | cons v vs ih =>
   intro k hh
   obtain ⟨d,h1,h2⟩:=hh 0 v rfl
   obtain ⟨ds,h3,h4,h5⟩:=ih (k + 1) fun i u hu => by
    have:=hh (i + 1) u (by simpa using hu)
    rwa [show k + (i + 1) = k + 1 + i from by omega] at this
   refine ⟨d :: ds,by simp [h3],⟨v,vs,rfl,h1,h4⟩,fun i d' g hi hg => ?_⟩
   cases i with
   | zero => simp at hi; subst hi; exact h2 g (by simpa using hg)
   | succ i => exact h5 i d' g (by simpa using hi) (by rwa [show k + 1 + i = k + (i + 1) from by omega])
 obtain ⟨ds,h1,h2,h3⟩:=hex cs 0 fun i v hv => by simpa using each i v hv
 exact ⟨ds,⟨by omega,fun i d g hi hg => h3 i d g hi (by simpa using hg)⟩,h1,h2⟩
end Go.V

/-
 Structs that come in,of which fields have more than one cell,as data.
-/
namespace Go.V
open Go
theorem RepVs_append {w:World}:∀ {a b:List CD} {x y:List Value},RepVs w a x → RepVs w b y → RepVs w (a ++ b) (x ++ y)
 | [],b,x,y,h,hb => by simp only [RepVs] at h; subst h; exact hb
 | d :: a,b,x,y,h,hb => by
  obtain ⟨v,vs,rfl,h1,h2⟩:=h
  exact ⟨v,vs ++ y,rfl,h1,RepVs_append h2 hb⟩
def sizesG (gs:List (Nat × (List CD → Prop))):Nat:=(gs.map Prod.fst).sum
theorem OpN_structN {P:Program} {t:TypeId} {fs:Array Field} {gs:List (Nat × (List CD → Prop))} (ht:P.underlying t = some (.struct fs)) (hn:P.cellsOf t = sizesG gs) (hgs:gs.length = fs.size)
  (h:∀ (i:Nat) (f:Field) (g:Nat × (List CD → Prop)),fs[i]? = some f → gs[i]? = some g → f.offset = sizesG (gs.take i) ∧ P.cellsOf f.type = g.1 ∧ OpN P f.type g.2) :
  OpN P t fun ds => ∃ ps:List (List CD),ds = ps.flatten ∧ ps.length = gs.length ∧ ∀ (i:Nat) (p:List CD) (g:Nat × (List CD → Prop)),ps[i]? = some p → gs[i]? = some g → g.2 p:=by
 intro H enc w sp fuel cs x hx
 obtain ⟨xs,n,rfl,rfl,hl,hxl,hX⟩:=DataW.trod_struct ht hx
 have key:∀ (m k:Nat),k + m = gs.length → ∃ ps:List (List CD),ps.length = m ∧ ps.flatten.length = (cs.drop (sizesG (gs.take k))).length ∧ RepVs w ps.flatten (cs.drop (sizesG (gs.take k))) ∧ ∀ (i:Nat) (p:List CD) (g:Nat × (List CD → Prop)),ps[i]? = some p → gs[k + i]? = some g → g.2 p:=by
  intro m
  induction m with
  | zero =>
   intro k hk
   have e:gs.take k = gs:=List.take_of_length_le (by omega)
   have e2:cs.drop (sizesG (gs.take k)) = []:=List.drop_eq_nil_of_le (by rw [e]; omega)
   rw [e2]
   exact ⟨[],rfl,rfl,rfl,by simp⟩
  | succ m ih =>
   intro k hk
   have hkg:k < gs.length:=by omega
   have hkf:k < fs.size:=by omega
   have hf:fs[k]? = some fs[k]:=by simp [hkf]
   have hg:gs[k]? = some gs[k]:=List.getElem?_eq_getElem hkg
   obtain ⟨ho,hc,hop⟩:=h k _ _ hf hg
   have h1:=hX k _ hf
   rw [ho,hc,List.getElem?_eq_getElem (by omega)] at h1
   obtain ⟨ds,hgd,hdl,hr⟩:=hop H enc w sp n _ _ h1
   have es:sizesG (gs.take (k + 1)) = sizesG (gs.take k) + gs[k].1:=by
    unfold sizesG
    rw [List.take_succ_eq_append_getElem hkg,List.map_append,List.sum_append]
    simp
   obtain ⟨ps,p1,p2,p3,p4⟩:=ih (k + 1) (by omega)
   rw [es] at p2 p3
   have ecs:cs.drop (sizesG (gs.take k)) = (cs.drop (sizesG (gs.take k))).take gs[k].1 ++ cs.drop (sizesG (gs.take k) + gs[k].1):=by
    rw [← List.drop_drop,List.take_append_drop]
   refine ⟨ds :: ps,by simp [p1],?_,?_,?_⟩
   ·rw [List.flatten_cons,List.length_append,p2,hdl,← List.length_append,← ecs]
   ·rw [List.flatten_cons,ecs]
    exact RepVs_append hr p3
   ·intro i p g hi hgi
    cases i with
    | zero =>
     simp at hi hgi
     subst hi
     rw [hg] at hgi
     cases hgi
     exact hgd
    | succ i =>
     exact p4 i p g (by simpa using hi) (by rwa [show k + 1 + i = k + (i + 1) from by omega])
 obtain ⟨ps,h1,h2,h3,h4⟩:=key gs.length 0 (by omega)
 have e0:sizesG (gs.take 0) = 0:=rfl
 rw [e0,List.drop_zero] at h2 h3
 exact ⟨ps.flatten,⟨ps,rfl,h1,fun i p g hp hg => h4 i p g hp (by simpa using hg)⟩,h2,h3⟩
end Go.V

/-
 What comes in: trays,boxes.
-/
namespace Go.Proofs.YtbclmfjibpppfaaGreat
open Go Go.V
open Go.ChangeShapes Go.WideShapes Go.ChangeAt Go.RowKit
set_option maxRecDepth 100000
theorem z3:Tryz.prog.cellsOf 3 = 1:=by kernel_rfl
theorem z26:Tryz.prog.cellsOf 26 = 1:=by kernel_rfl
theorem z30:Tryz.prog.cellsOf 30 = 8:=by kernel_rfl
theorem z28:Tryz.prog.cellsOf 28 = 3:=by kernel_rfl
def isI (d:CD):Prop:=∃ n,d = .int .i64 n
theorem op3:Op1 Tryz.prog 3 isI:=Op1_int Tryz.underlying3
theorem op26:Op1 Tryz.prog 26 fun d => ∃ l,d = ints l:=by
 intro H enc w sp fuel cs x hx
 obtain ⟨d,v,rfl,⟨es,rfl,hes⟩,hr⟩:=Op1_slice Tryz.underlying26 (OpN_of op3) H enc w sp fuel cs x hx
 refine ⟨_,v,rfl,?_,hr⟩
 rw [z3]
 clear hr hx
 induction es with
 | nil => exact ⟨[],rfl⟩
 | cons e es ih =>
  obtain ⟨l,hl⟩:=ih fun x hx => hes x (by simp [hx])
  obtain ⟨d,rfl,n,rfl⟩:=hes e (by simp)
  refine ⟨n :: l,?_⟩
  simp only [ints,CD.sl.injEq,true_and] at hl ⊢
  rw [hl]; rfl
def isL (d:CD):Prop:=∃ l,d = ints l
theorem op28:OpN Tryz.prog 28 fun ds => ∃ a b c,ds = [.int .i64 a,ints b,ints c]:=by
 have h:=OpN_struct (P:=Tryz.prog) (gs:=[isI,isL,isL]) Tryz.underlying28 z28 rfl (fun i f g hf hg => by
  match i with
  | 0 => simp at hf hg; subst hf; subst hg; exact ⟨rfl,z3,op3⟩
  | 1 => simp at hf hg; subst hf; subst hg; exact ⟨rfl,z26,op26⟩
  | 2 => simp at hf hg; subst hf; subst hg; exact ⟨rfl,z26,op26⟩
  | i + 3 => simp at hg)
 intro H enc w sp fuel cs x hx
 obtain ⟨ds,⟨hl,hg⟩,h1,h2⟩:=h H enc w sp fuel cs x hx
 refine ⟨ds,?_,h1,h2⟩
 obtain ⟨a,b,c,rfl⟩ : ∃ a b c,ds = [a,b,c]:=by
  match ds,hl with
  | [a,b,c],_ => exact ⟨a,b,c,rfl⟩
 obtain ⟨n0,rfl⟩:=hg 0 a isI rfl rfl
 obtain ⟨l1,rfl⟩:=hg 1 b isL rfl rfl
 obtain ⟨l2,rfl⟩:=hg 2 c isL rfl rfl
 exact ⟨n0,l1,l2,rfl⟩
def isI1 (ds:List CD):Prop:=∃ n,ds = [.int .i64 n]
def isL1 (ds:List CD):Prop:=∃ l,ds = [ints l]
theorem opN3:OpN Tryz.prog 3 isI1:=by
 intro H enc w sp fuel cs x hx
 obtain ⟨ds,⟨d,rfl,n,rfl⟩,h1,h2⟩:=OpN_of op3 H enc w sp fuel cs x hx
 exact ⟨_,⟨n,rfl⟩,h1,h2⟩
theorem opN26:OpN Tryz.prog 26 isL1:=by
 intro H enc w sp fuel cs x hx
 obtain ⟨ds,⟨d,rfl,n,rfl⟩,h1,h2⟩:=OpN_of op26 H enc w sp fuel cs x hx
 exact ⟨_,⟨n,rfl⟩,h1,h2⟩
theorem op30:OpN Tryz.prog 30 fun ds => ∃ b:Bx,ds = b.cds:=by
 have h:=OpN_structN (P:=Tryz.prog) (gs:=[(3,fun ds => ∃ a b c,ds = [.int .i64 a,ints b,ints c]),(1,isL1),(1,isL1),(1,isL1),(1,isI1),(1,isI1)]) Tryz.underlying30 z30 rfl (fun i f g hf hg => by
  match i with
  | 0 => simp at hf hg; subst hf; subst hg; exact ⟨rfl,z28,op28⟩
  | 1 => simp at hf hg; subst hf; subst hg; exact ⟨rfl,z26,opN26⟩
  | 2 => simp at hf hg; subst hf; subst hg; exact ⟨rfl,z26,opN26⟩
  | 3 => simp at hf hg; subst hf; subst hg; exact ⟨rfl,z26,opN26⟩
  | 4 => simp at hf hg; subst hf; subst hg; exact ⟨rfl,z3,opN3⟩
  | 5 => simp at hf hg; subst hf; subst hg; exact ⟨rfl,z3,opN3⟩
  | i + 6 => simp at hg)
 intro H enc w sp fuel cs x hx
 obtain ⟨ds,⟨ps,rfl,hl,hg⟩,h1,h2⟩:=h H enc w sp fuel cs x hx
 refine ⟨_,?_,h1,h2⟩
 obtain ⟨p0,p1,p2,p3,p4,p5,rfl⟩ : ∃ a b c d e f,ps = [a,b,c,d,e,f]:=by
  match ps,hl with
  | [a,b,c,d,e,f],_ => exact ⟨a,b,c,d,e,f,rfl⟩
 obtain ⟨a,b,c,rfl⟩:=hg 0 p0 _ rfl rfl
 obtain ⟨l1,rfl⟩:=hg 1 p1 _ rfl rfl
 obtain ⟨l2,rfl⟩:=hg 2 p2 _ rfl rfl
 obtain ⟨l3,rfl⟩:=hg 3 p3 _ rfl rfl
 obtain ⟨n4,rfl⟩:=hg 4 p4 _ rfl rfl
 obtain ⟨n5,rfl⟩:=hg 5 p5 _ rfl rfl
 exact ⟨⟨⟨a,b,c⟩,l1,l2,l3,n4,n5⟩,rfl⟩
theorem z22:Tryz.prog.cellsOf 22 = 1:=by kernel_rfl
theorem z23:Tryz.prog.cellsOf 23 = 1:=by kernel_rfl
theorem z25:Tryz.prog.cellsOf 25 = 5:=by kernel_rfl
theorem z84:Tryz.prog.cellsOf 84 = 2:=by kernel_rfl
theorem z51:Tryz.prog.cellsOf 51 = 2:=by kernel_rfl
theorem map_of {α β:Type} {f:β → α}:∀ {es:List α},(∀ x ∈ es,∃ s,x = f s) → ∃ l:List β,es = l.map f
 | [],_ => ⟨[],rfl⟩
 | e :: es,h => by
  obtain ⟨l,rfl⟩:=map_of (f:=f) fun x hx => h x (List.mem_cons_of_mem _ hx)
  obtain ⟨s,rfl⟩:=h e (by simp)
  exact ⟨s :: l,rfl⟩
theorem op51:OpN Tryz.prog 51 fun ds => ∃ s:Rec,ds = s.cds:=by
 have h:=OpN_struct (P:=Tryz.prog) (gs:=[isI,isI]) Tryz.underlying51 z51 rfl (fun i f g hf hg => by
  match i with
  | 0 => simp at hf hg; subst hf; subst hg; exact ⟨rfl,z3,op3⟩
  | 1 => simp at hf hg; subst hf; subst hg; exact ⟨rfl,z3,op3⟩
  | i + 2 => simp at hg)
 intro H enc w sp fuel cs x hx
 obtain ⟨ds,⟨hl,hg⟩,h1,h2⟩:=h H enc w sp fuel cs x hx
 refine ⟨ds,?_,h1,h2⟩
 obtain ⟨a,b,rfl⟩ : ∃ a b,ds = [a,b]:=by
  match ds,hl with
  | [a,b],_ => exact ⟨a,b,rfl⟩
 obtain ⟨n0,rfl⟩:=hg 0 a isI rfl rfl
 obtain ⟨n1,rfl⟩:=hg 1 b isI rfl rfl
 exact ⟨⟨n0,n1⟩,rfl⟩
theorem op84:OpN Tryz.prog 84 fun ds => ∃ s:Pr,ds = s.cds:=by
 have h:=OpN_struct (P:=Tryz.prog) (gs:=[isI,isI]) Tryz.underlying84 z84 rfl (fun i f g hf hg => by
  match i with
  | 0 => simp at hf hg; subst hf; subst hg; exact ⟨rfl,z3,op3⟩
  | 1 => simp at hf hg; subst hf; subst hg; exact ⟨rfl,z3,op3⟩
  | i + 2 => simp at hg)
 intro H enc w sp fuel cs x hx
 obtain ⟨ds,⟨hl,hg⟩,h1,h2⟩:=h H enc w sp fuel cs x hx
 refine ⟨ds,?_,h1,h2⟩
 obtain ⟨a,b,rfl⟩ : ∃ a b,ds = [a,b]:=by
  match ds,hl with
  | [a,b],_ => exact ⟨a,b,rfl⟩
 obtain ⟨n0,rfl⟩:=hg 0 a isI rfl rfl
 obtain ⟨n1,rfl⟩:=hg 1 b isI rfl rfl
 exact ⟨⟨n0,n1⟩,rfl⟩
set_option maxRecDepth 100000 in
theorem op22:Op1 Tryz.prog 22 fun d => ∃ l,d = recsC l:=by
 intro H enc w sp fuel cs x hx
 obtain ⟨d,v,rfl,⟨es,rfl,hes⟩,hr⟩:=Op1_slice Tryz.underlying22 op51 H enc w sp fuel cs x hx
 refine ⟨_,v,rfl,?_,hr⟩
 obtain ⟨l,rfl⟩:=map_of (f:=Rec.cds) hes
 exact ⟨l,by rw [z51]; rfl⟩
set_option maxRecDepth 100000 in
theorem op23:Op1 Tryz.prog 23 fun d => ∃ l,d = prsC l:=by
 intro H enc w sp fuel cs x hx
 obtain ⟨d,v,rfl,⟨es,rfl,hes⟩,hr⟩:=Op1_slice Tryz.underlying23 op84 H enc w sp fuel cs x hx
 refine ⟨_,v,rfl,?_,hr⟩
 obtain ⟨l,rfl⟩:=map_of (f:=Pr.cds) hes
 exact ⟨l,by rw [z84]; rfl⟩
set_option maxRecDepth 100000 in
theorem op25:OpN Tryz.prog 25 fun ds => ∃ r:Tray,ds = r.cds:=by
 have h:=OpN_struct (P:=Tryz.prog) (gs:=[(fun d => ∃ l,d = recsC l),isI,isI,isI,(fun d => ∃ l,d = prsC l)]) Tryz.underlying25 z25 rfl (fun i f g hf hg => by
  match i with
  | 0 => simp at hf hg; subst hf; subst hg; exact ⟨rfl,z22,op22⟩
  | 1 => simp at hf hg; subst hf; subst hg; exact ⟨rfl,z3,op3⟩
  | 2 => simp at hf hg; subst hf; subst hg; exact ⟨rfl,z3,op3⟩
  | 3 => simp at hf hg; subst hf; subst hg; exact ⟨rfl,z3,op3⟩
  | 4 => simp at hf hg; subst hf; subst hg; exact ⟨rfl,z23,op23⟩
  | i + 5 => simp at hg)
 intro H enc w sp fuel cs x hx
 obtain ⟨ds,⟨hl,hg⟩,h1,h2⟩:=h H enc w sp fuel cs x hx
 refine ⟨ds,?_,h1,h2⟩
 obtain ⟨a,b,c,d,e,rfl⟩ : ∃ a b c d e,ds = [a,b,c,d,e]:=by
  match ds,hl with
  | [a,b,c,d,e],_ => exact ⟨a,b,c,d,e,rfl⟩
 obtain ⟨l1,rfl⟩:=hg 0 a _ rfl rfl
 obtain ⟨n1,rfl⟩:=hg 1 b isI rfl rfl
 obtain ⟨n2,rfl⟩:=hg 2 c isI rfl rfl
 obtain ⟨n3,rfl⟩:=hg 3 d isI rfl rfl
 obtain ⟨l2,rfl⟩:=hg 4 e _ rfl rfl
 exact ⟨⟨l1,n1,n2,n3,l2⟩,rfl⟩
theorem RepAs_of {w:World}:∀ {ds:List CD} {vs:List Value},RepVs w ds vs → RepAs w M0 (fun _ => undef) (ds.map .c) vs
 | [],vs,h => by simp only [RepVs] at h; subst h; simp only [List.map_nil,RepAs]
 | d :: ds,vs,h => by
  obtain ⟨v,vs',rfl,h1,h2⟩:=h
  simp only [List.map_cons,RepAs,RepA]
  exact ⟨v,vs',rfl,h1,RepAs_of h2⟩
section
variable {H:Type} {enc:TypeId × Value → H} {w:World} {sp:Nat → Bool}
set_option maxRecDepth 100000 in
theorem open_tray {r:Reach} {b0:Nat} {v:Value} {d:DataW H} {ps:List MemPlace} (hval:Value.okWide Tryz.prog w r b0 25 v) (hd:DataW.Trod enc Tryz.prog w 0 sp true 25 v d ps):∃ R:Tray,RepA w M0 (fun _ => undef) R.av v:=by
 unfold Value.okWide at hval
 rw [Tryz.underlying25] at hval
 obtain ⟨cs,rfl,_,_⟩:=hval
 obtain ⟨fuel,hf⟩:=hd
 obtain ⟨ds,⟨R,rfl⟩,_,hr⟩:=op25 H enc w sp fuel _ _ hf
 refine ⟨R,?_⟩
 simp only [Tray.av,RepA]
 exact ⟨cs.toList,by simp,RepAs_of hr⟩
theorem open_box {r:Reach} {b0:Nat} {v:Value} {d:DataW H} {ps:List MemPlace} (hval:Value.okWide Tryz.prog w r b0 30 v) (hd:DataW.Trod enc Tryz.prog w 0 sp true 30 v d ps):∃ R:Bx,RepA w M0 (fun _ => undef) R.av v:=by
 unfold Value.okWide at hval
 rw [Tryz.underlying30] at hval
 obtain ⟨cs,rfl,_,_⟩:=hval
 obtain ⟨fuel,hf⟩:=hd
 obtain ⟨ds,⟨R,rfl⟩,_,hr⟩:=op30 H enc w sp fuel _ _ hf
 refine ⟨R,?_⟩
 simp only [Bx.av,RepA]
 exact ⟨cs.toList,by simp,RepAs_of hr⟩
end
theorem Tryz.own:ownKnob Tryz.prog.godebug = none:=by kernel_rfl
theorem Tryz.laidOut:laidOutB Tryz.prog = true:=by kernel_rfl
theorem post_bool {H:Type} {enc:TypeId × Value → H} {f:Func} {s:ChangeSpec} {apart fresh handsOn again:Bool} {W W':World} {args:Array Value} {b:Bool} {ds:List (DataW H)} {before:List MemPlace}
  (hf:f.resultTypes = #[4]) (hv:s.vars = []) (hW:DataW.Whole enc Tryz.prog f.params.toList s.vars apart W args.toList ds [] before) (hb:Below W.heap.size W W')
  (hr:(s.fn H (ds ++ [])).results = [.lit (.bool b)]) (ha:(s.fn H (ds ++ [])).args = ds) (hvs:(s.fn H (ds ++ [])).vars = [])
  (hst:∀ sp:Nat → Bool,(∀ p ∈ before,sp p.block = true) → DataW.TrodAll enc Tryz.prog W' 0 sp true f.params.toList args.toList ds before):s.post enc Tryz.prog f apart fresh handsOn again W args (.bool b) W':=by
 have hlt:∀ p ∈ before,p.block < W.heap.size:=fun p hp => by simpa using hW.lt p hp
 have hres:∀ (n:Nat) (sp:Nat → Bool) (hd:Bool),DataW.TrodAll enc Tryz.prog W' n sp hd f.resultTypes.toList ((Value.bool b).resultList f.resultTypes.size) (s.fn H (ds ++ [])).results []:=by
  intro n sp hd
  rw [hf,hr]
  exact trodAll_mk1 (shut_bool Tryz.underlying4 _)
 have hargs:∀ sp:Nat → Bool,(∀ p ∈ before,sp p.block = true) → DataW.TrodAll enc Tryz.prog W' 0 sp true f.params.toList args.toList (s.fn H (ds ++ [])).args before:=fun sp h => by
  rw [ha]; exact hst sp h
 have hvars:∀ sp:Nat → Bool,DataW.TrodVars enc Tryz.prog W' sp s.vars (s.fn H (ds ++ [])).vars []:=fun sp => by
  rw [hv,hvs]; rfl
 refine ⟨ds,[],before,[],before,[],hW,hres _ _ _,hargs _ fun p hp => by simpa using hlt p hp,hvars _,hb.frame _,fun _ => ?_⟩
 have hz:=hW
 obtain ⟨_,_,_,_,_,hz1,hz2⟩:=hz
 have hall:DataW.TrodAll enc Tryz.prog W' 0 (fun _ => true) true (f.resultTypes.toList ++ f.params.toList) ((Value.bool b).resultList f.resultTypes.size ++ args.toList) ((s.fn H (ds ++ [])).results ++ (s.fn H (ds ++ [])).args) ([] ++ before) :=
  trodAll_append (hargs (fun _ => true) fun _ _ => rfl) (hres 0 (fun _ => true) true)
 rw [List.nil_append] at hall
 refine ⟨ok_one hf rfl (okWide_bool_mk Tryz.underlying4 b),(s.fn H (ds ++ [])).results ++ (s.fn H (ds ++ [])).args,(s.fn H (ds ++ [])).vars,before,⟨before,[],hall,hvars _,by simp,?_,hz2⟩,fun p hp _ => hp⟩
 intro k off hp
 rw [hb.frozen (hlt _ hp)]
 exact hz1 k off hp
end Go.Proofs.YtbclmfjibpppfaaGreat

/-
 The row of TopBought: it answers true for whatever it is handed,and leaves it as it was.
-/
namespace Go.Proofs.YtbclmfjibpppfaaGreat
open Go Go.V
open Go.ChangeShapes Go.WideShapes Go.ChangeAt Go.RowKit
set_option maxRecDepth 100000 in
theorem topBought_lifted (os:Os) (started:os.Started) (H:Type) (enc:TypeId × Value → H) :
  ReturnsInHanded {} Tryz.checked os 3 .any (Rows.topBoughtSpec.pre6 enc Tryz.prog Tryz.f3 Rows.topBoughtRow.domain false) (Rows.topBoughtSpec.post enc Tryz.prog Tryz.f3 false true false false):=by
 refine returnsInHanded_of_change (C:=Tryz.checked) Tryz.own started (by kernel_rfl) Tryz.func3
  (ChangeSpec.witness6 (enc:=enc) (C:=Tryz.checked) false ⟨#[],#[.agg #[.slice none 0 0,.int .i64 0,.int .i64 0,.int .i64 0,.slice none 0 0],.agg #[.int .i64 0,.slice none 0 0,.slice none 0 0,.slice none 0 0,.slice none 0 0,.slice none 0 0,.int .i64 0,.int .i64 0]],[]⟩ 8 (by kernel_rfl) (by kernel_rfl) (by kernel_rfl) (by kernel_rfl)) ?_
 intro W base args ds gs before hval0 hW _ _
 have hval:∀ (j:Nat) t v,Tryz.f3.params[j]? = some t → args[j]? = some v → Value.okWide Tryz.prog W .any base t v:=hval0
 have hW':=hW
 obtain ⟨p,q,hA0,hV,rfl,hfz,hnd⟩:=hW
 have hA:DataW.TrodAll enc Tryz.prog W 0 (fun _ => true) true Tryz.f3.params.toList args.toList ds p:=hA0
 rw [Tryz.params3] at hA hval
 obtain ⟨v0,v1,d0,d1,p0,p1,rfl,rfl,rfl,h0,h1⟩:=trodAll_two hA
 obtain ⟨rfl,rfl⟩:=trodVars_none hV
 have hlt:∀ x ∈ p0 ++ p1,x.block < W.heap.size:=fun x hx => by simpa using hW'.lt x (by simpa using hx)
 obtain ⟨R0,hR0⟩:=open_tray (hval 0 25 v0 rfl rfl) h0
 obtain ⟨R1,hR1⟩:=open_box (hval 1 30 v1 rfl rfl) h1
 refine ((bought3 R0 R1).2 W M0 [v0,v1] (fun _ _ h => h.elim) (by simp only [RepAs]; exact ⟨v0,[v1],rfl,hR0,v1,[],rfl,hR1,rfl⟩)).mono fun e W' hh => ?_
 obtain ⟨v,rfl,hv,hb⟩:=hh
 have hv:v = .bool true:=by simpa only [RepA,RepC] using hv
 subst hv
 simp only [List.append_nil] at hW'
 have hW2:DataW.Whole enc Tryz.prog Tryz.f3.params.toList Rows.topBoughtSpec.vars false W [v0,v1] [d0,d1] [] (p0 ++ p1):=hW'
 refine ⟨_,rfl,post_bool (before:=p0 ++ p1) (ds:=[d0,d1]) (by kernel_rfl) rfl hW2 hb rfl rfl rfl fun sp hsp => ?_⟩
 rw [Tryz.params3]
 exact trodAll_mk2 (WideElems.Trod_stays Tryz.laidOut (by kernel_rfl) (of_decide_eq_true (by kernel_rfl)) h0 (fun x hx => hb.same (hlt x (by simp [hx]))) fun x hx => hsp x (by simp [hx])) (WideElems.Trod_stays Tryz.laidOut (by kernel_rfl) (of_decide_eq_true (by kernel_rfl)) h1 (fun x hx => hb.same (hlt x (by simp [hx]))) fun x hx => hsp x (by simp [hx]))
theorem topBought_holds:Rows.TopBoughtSaid :=
 OpenClaim.holds_of_wide 3 Tryz.f3 rfl rfl rfl rfl rfl rfl rfl ⟨rfl,rfl,rfl,rfl,rfl⟩ rfl rfl rfl rfl rfl (by kernel_rfl) Tryz.func3 (by kernel_rfl)
  (of_decide_eq_true (by kernel_rfl)) (by unfold Func.isWrapper; rw [if_neg (of_decide_eq_false (by kernel_rfl))]; exact ⟨rfl,rfl⟩)
  (fun os started H enc _ => topBought_lifted os started H enc)
end Go.Proofs.YtbclmfjibpppfaaGreat
