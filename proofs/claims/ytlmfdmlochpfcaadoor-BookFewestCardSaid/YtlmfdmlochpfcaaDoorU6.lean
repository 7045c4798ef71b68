/-
  Contracts of the layer's functions, of the laws' helpers and of the law; conditions: as each theorem states.
-/
import Derived.Test.YtlmfdmlochpfcaaDoorU5
import Derived.Test.YtlmfdmlochpfcaaDoorU4
set_option linter.unusedVariables false
set_option linter.unusedSimpArgs false
namespace Go.Proofs.YtlmfdmlochpfcaaDoor
open Go Go.V
def Lost (n w:Nat) (g:List (List Int)) (p:Nat × Nat):Prop:=p.1 < n ∧ p.2 < w ∧ valAt g p = -1
def Clos (S:Nat × Nat → Prop):Prop:=∀ p,S p → (∃ q,S q ∧ q ≠ p ∧ q.1 = p.1) ∧ (∃ q,S q ∧ q ≠ p ∧ q.2 = p.2)
theorem posL_mem {n w i:Nat} {b:Bool} {p:Nat × Nat}:p ∈ posL n w i b ↔ if b then p.1 = i ∧ p.2 < w else p.2 = i ∧ p.1 < n:=by
 unfold posL
 cases b
 ·simp only [Bool.false_eq_true,if_false,List.mem_map,List.mem_range]
  constructor
  ·rintro ⟨k,hk,rfl⟩; exact ⟨rfl,hk⟩
  ·rintro ⟨rfl,h⟩; exact ⟨p.1,h,rfl⟩
 ·simp only [if_true,List.mem_map,List.mem_range]
  constructor
  ·rintro ⟨k,hk,rfl⟩; exact ⟨rfl,hk⟩
  ·rintro ⟨rfl,h⟩; exact ⟨p.2,h,rfl⟩
theorem posL_row_mem {n w i:Nat} {p:Nat × Nat}:p ∈ posL n w i true ↔ p.1 = i ∧ p.2 < w:=by rw [posL_mem]; simp
theorem posL_col_mem {n w i:Nat} {p:Nat × Nat}:p ∈ posL n w i false ↔ p.2 = i ∧ p.1 < n:=by rw [posL_mem]; simp
theorem allP_mem {n w:Nat} {l:List (Nat × Nat)}:l ∈ allP n w ↔ (∃ i,i < n ∧ l = posL n w i true) ∨ (∃ k,k < w ∧ l = posL n w k false):=by
 simp only [allP,List.mem_append,List.mem_map,List.mem_range]
 constructor
 ·rintro (⟨i,h,rfl⟩ | ⟨i,h,rfl⟩)
  ·exact .inl ⟨i,h,rfl⟩
  ·exact .inr ⟨i,h,rfl⟩
 ·rintro (⟨i,h,rfl⟩ | ⟨i,h,rfl⟩)
  ·exact .inl ⟨i,h,rfl⟩
  ·exact .inr ⟨i,h,rfl⟩
theorem lostL_mem {g:List (List Int)} {l:List (Nat × Nat)} {p:Nat × Nat}:p ∈ lostL g l ↔ p ∈ l ∧ valAt g p = -1:=by simp [lostL]
theorem posL_nodup (n w i:Nat) (b:Bool):(posL n w i b).Nodup:=by
 unfold posL
 cases b
 ·simp only [Bool.false_eq_true,if_false]
  exact List.pairwise_map.2 (List.nodup_range.imp fun h e => h (by simpa using e))
 ·simp only [if_true]
  exact List.pairwise_map.2 (List.nodup_range.imp fun h e => h (by simpa using e))
theorem allP_nodup {n w:Nat} {l:List (Nat × Nat)} (h:l ∈ allP n w):l.Nodup:=by
 rcases allP_mem.1 h with ⟨i,_,rfl⟩ | ⟨i,_,rfl⟩ <;> exact posL_nodup _ _ _ _
theorem step_clos {n w:Nat} {g g':List (List Int)} (h:GOw n w g) (hs:stepG n w g = some g') {S:Nat × Nat → Prop} (hc:Clos S) (hS:∀ p,S p → Lost n w g p):∀ p,S p → Lost n w g' p:=by
 obtain ⟨l,p,hl,_,hlo,hpl,hv,rfl,_,_⟩:=stepG_some h hs
 intro q hq
 obtain ⟨h1,h2,h3⟩:=hS q hq
 refine ⟨h1,h2,?_⟩
 rw [valAt_set]
 split
 ·rename_i he
  obtain ⟨rfl,_,_⟩:=he
  exfalso
  obtain ⟨⟨a,ha,hne,hr⟩,⟨b,hb,hne2,hr2⟩⟩:=hc p hq
  have key:∀ a,S a → a ∈ l → a = p:=fun a ha hal => by
   have:a ∈ lostL g l:=lostL_mem.2 ⟨hal,(hS a ha).2.2⟩
   rw [hlo] at this; simpa using this
  rcases allP_mem.1 hl with ⟨i,hi,rfl⟩ | ⟨k,hk,rfl⟩
  ·have:=posL_row_mem.1 hpl
   exact hne (key a ha (posL_row_mem.2 ⟨hr.trans this.1,(hS a ha).2.1⟩))
  ·have:=posL_col_mem.1 hpl
   exact hne2 (key b hb (posL_col_mem.2 ⟨hr2.trans this.1,(hS b hb).1⟩))
 ·exact h3
theorem two_lost {g:List (List Int)} {l:List (Nat × Nat)} (hnd:l.Nodup) {p:Nat × Nat} (hp:p ∈ l) (hv:valAt g p = -1) (h1:(lostL g l).length ≠ 1):∃ q,q ∈ l ∧ valAt g q = -1 ∧ q ≠ p:=by
 refine Classical.byContradiction fun hq => h1 ?_
 have hnd2:(lostL g l).Nodup:=hnd.filter _
 have hall:∀ q ∈ lostL g l,q = p:=fun q hq' => by
  obtain ⟨a,b⟩:=lostL_mem.1 hq'
  exact Classical.byContradiction fun hne => hq ⟨q,a,b,hne⟩
 have hmem:p ∈ lostL g l:=lostL_mem.2 ⟨hp,hv⟩
 generalize lostL g l = L at hnd2 hall hmem
 match L,hnd2,hall,hmem with
 | [a],_,_,_ => rfl
 | a :: b :: t,hnd2,hall,_ =>
  have h1:=hall a (by simp)
  have h2:=hall b (by simp)
  rw [h1,h2] at hnd2
  simp at hnd2
theorem end_clos {n w:Nat} {g:List (List Int)} (hs:stepG n w g = none):Clos (Lost n w g):=by
 have hn:∀ l ∈ allP n w,(lostL g l).length ≠ 1:=by
  unfold stepG at hs
  split at hs
  ·cases hs
  ·rename_i hf
   intro l hl h1
   have:=List.find?_eq_none.1 hf l hl
   simp [oneL,h1] at this
 rintro p ⟨h1,h2,h3⟩
 constructor
 ·obtain ⟨q,q1,q2,q3⟩:=two_lost (posL_nodup n w p.1 true) (posL_row_mem.2 ⟨rfl,h2⟩) h3 (hn _ (allP_mem.2 (.inl ⟨p.1,h1,rfl⟩)))
  have:=posL_row_mem.1 q1
  exact ⟨q,⟨by omega,this.2,q2⟩,q3,this.1⟩
 ·obtain ⟨q,q1,q2,q3⟩:=two_lost (posL_nodup n w p.2 false) (posL_col_mem.2 ⟨rfl,h1⟩) h3 (hn _ (allP_mem.2 (.inr ⟨p.2,h2,rfl⟩)))
  have:=posL_col_mem.1 q1
  exact ⟨q,⟨this.2,by omega,q2⟩,q3,this.1⟩
theorem restG_ind {n w:Nat} {M:List (List Int) → Prop} (hM:∀ g g',GOw n w g → M g → stepG n w g = some g' → M g'):∀ (k:Nat) (g:List (List Int)),nlost g = k → GOw n w g → M g → M (restG n w g) ∧ stepG n w (restG n w g) = none
 | 0,g,hk,h,hm => by
  cases hs:stepG n w g with
  | none => rw [restG_end hs]; exact ⟨hm,hs⟩
  | some g' => obtain ⟨_,_,_,_,_,_,_,_,_,hn⟩:=stepG_some h hs; omega
 | k + 1,g,hk,h,hm => by
  cases hs:stepG n w g with
  | none => rw [restG_end hs]; exact ⟨hm,hs⟩
  | some g' =>
   obtain ⟨_,_,_,_,_,_,_,_,hg,hn⟩:=stepG_some h hs
   rw [restG_step h hs]
   exact restG_ind hM k g' (by omega) hg (hM g g' h hm hs)
theorem restG_fin {n w:Nat} {g:List (List Int)} (h:GOw n w g):stepG n w (restG n w g) = none:=(restG_ind (M:=fun _ => True) (fun _ _ _ _ _ => trivial) _ g rfl h trivial).2
theorem step_less {n w:Nat} {g g':List (List Int)} (h:GOw n w g) (hs:stepG n w g = some g') {p:Nat × Nat} (hp:Lost n w g' p):Lost n w g p:=by
 obtain ⟨l,q,hl,_,hlo,hpl,hv,rfl,_,_⟩:=stepG_some h hs
 obtain ⟨h1,h2,h3⟩:=hp
 refine ⟨h1,h2,?_⟩
 rw [valAt_set] at h3
 split at h3
 ·have:=lack_rng g l; omega
 ·exact h3
theorem rest_core {n w:Nat} {g:List (List Int)} (h:GOw n w g) (p:Nat × Nat):Lost n w (restG n w g) p ↔ ∃ S,Clos S ∧ (∀ q,S q → Lost n w g q) ∧ S p:=by
 constructor
 ·intro hp
  refine ⟨Lost n w (restG n w g),end_clos (restG_fin h),?_,hp⟩
  exact (restG_ind (M:=fun g' => ∀ q,Lost n w g' q → Lost n w g q) (fun a b ha hm hs q hq => hm q (step_less ha hs hq)) _ g rfl h (fun _ h => h)).1
 ·rintro ⟨S,hc,hS,hp⟩
  exact (restG_ind (M:=fun g' => ∀ q,S q → Lost n w g' q) (fun a b ha hm hs => step_clos ha hs hc hm) _ g rfl h hS).1 p hp
structure Right (n w:Nat) (G:List (List Int)):Prop where
 gow:GOw n w G
 full:∀ i k,i < n → k < w → valAt G (i,k) ≠ -1
 sum:∀ l ∈ allP n w,lackL G l = 0
structure Part (n w:Nat) (G g:List (List Int)):Prop where
 gow:GOw n w g
 val:∀ i k,i < n → k < w → valAt g (i,k) = -1 ∨ valAt g (i,k) = valAt G (i,k)
theorem sumL_app (g:List (List Int)) (a b:List (Nat × Nat)):sumL g (a ++ b) = sumL g a + sumL g b:=by simp [sumL]
theorem sumL_cons (g:List (List Int)) (m:Nat × Nat) (b:List (Nat × Nat)):sumL g (m :: b) = (if valAt g m = -1 then 0 else valAt g m) + sumL g b:=by simp [sumL]
theorem sumL_congr {g G:List (List Int)} {l:List (Nat × Nat)} (h:∀ m ∈ l,valAt g m = valAt G m):sumL g l = sumL G l:=by
 unfold sumL
 congr 1
 exact List.map_congr_left fun m hm => by rw [h m hm]
theorem part_lack {n w:Nat} {G g:List (List Int)} (hG:Right n w G) (hp:Part n w G g) {l:List (Nat × Nat)} (hl:l ∈ allP n w) {p:Nat × Nat} (hlo:lostL g l = [p]):lackL g l = valAt G p:=by
 obtain ⟨A,q,B,e,hA,hB,hq,hlo2⟩:=lost_one (g:=g) (ps:=l) (by rw [hlo]; rfl)
 rw [hlo] at hlo2
 simp only [List.cons.injEq,and_true] at hlo2
 subst hlo2
 have hin:=allP_in hl
 have hin2:∀ m ∈ l,valAt g m ≠ -1 → valAt g m = valAt G m:=fun m hm hv => by
  obtain ⟨h1,h2⟩:=hin m hm
  rcases hp.val m.1 m.2 h1 h2 with h | h
  ·exact (hv h).elim
  ·exact h
 have hA2:sumL g A = sumL G A:=sumL_congr fun m hm => hin2 m (by rw [e]; simp [hm]) (hA m hm)
 have hB2:sumL g B = sumL G B:=sumL_congr fun m hm => hin2 m (by rw [e]; simp [hm]) (hB m hm)
 have hz:=hG.sum l hl
 have hpin:=hin p (by rw [e]; simp)
 have hf:=hG.full p.1 p.2 hpin.1 hpin.2
 have hv:=hG.gow.val p.1 p.2 hpin.1 hpin.2
 have hf':valAt G p ≠ -1:=hf
 have hv':-1 ≤ valAt G p ∧ valAt G p < 94:=hv
 unfold lackL at hz ⊢
 rw [e,sumL_app,sumL_cons] at hz ⊢
 rw [if_pos hq,hA2,hB2]
 rw [if_neg hf'] at hz
 omega
theorem part_step {n w:Nat} {G g g':List (List Int)} (hG:Right n w G) (hp:Part n w G g) (hs:stepG n w g = some g'):Part n w G g':=by
 obtain ⟨l,p,hl,_,hlo,hpl,hv,rfl,hg,_⟩:=stepG_some hp.gow hs
 refine ⟨hg,fun i k hi hk => ?_⟩
 rw [valAt_set]
 split
 ·rename_i he
  obtain ⟨rfl,_,_⟩:=he
  exact .inr (part_lack hG hp hl hlo)
 ·exact hp.val i k hi hk
theorem part_rest {n w:Nat} {G g:List (List Int)} (hG:Right n w G) (hp:Part n w G g):Part n w G (restG n w g) :=
 (restG_ind (M:=Part n w G) (fun _ _ _ hm hs => part_step hG hm hs) _ g rfl hp.gow hp).1
theorem grid_ext {n w:Nat} {g G:List (List Int)} (hg:GOw n w g) (hG:GOw n w G) (h:∀ i k,i < n → k < w → valAt g (i,k) = valAt G (i,k)):g = G:=by
 apply List.ext_getElem
 ·rw [hg.len,hG.len]
 ·intro i h1 h2
  have hi:i < n:=by rw [← hg.len]; exact h1
  have r1:=hg.row i hi
  have r2:=hG.row i hi
  have e1:g.getD i [] = g[i]:=by rw [List.getD_eq_getElem?_getD,List.getElem?_eq_getElem h1]; rfl
  have e2:G.getD i [] = G[i]:=by rw [List.getD_eq_getElem?_getD,List.getElem?_eq_getElem h2]; rfl
  rw [e1] at r1
  rw [e2] at r2
  apply List.ext_getElem
  ·rw [r1,r2]
  ·intro k h3 h4
   have:=h i k hi (by omega)
   unfold valAt at this
   simp only [e1,e2] at this
   rw [List.getD_eq_getElem?_getD,List.getElem?_eq_getElem h3,List.getD_eq_getElem?_getD,List.getElem?_eq_getElem h4] at this
   exact this
theorem rest_right {n w:Nat} {G g:List (List Int)} (hG:Right n w G) (hp:Part n w G g) (h0:∀ S,Clos S → (∀ q,S q → Lost n w g q) → ∀ p,¬ S p):restG n w g = G:=by
 have hr:=part_rest hG hp
 refine grid_ext hr.gow hG.gow fun i k hi hk => ?_
 rcases hr.val i k hi hk with h | h
 ·obtain ⟨S,hc,hS,hp'⟩:=(rest_core hp.gow (i,k)).1 ⟨hi,hk,h⟩
  exact (h0 S hc hS _ hp').elim
 ·exact h
theorem clos_cross {S:Nat × Nat → Prop} (hc:Clos S) (a c:Nat) (hS:∀ p,S p → p.1 = a ∨ p.2 = c):∀ p,¬ S p:=by
 have h1:∀ p,S p → p.1 = a:=fun p hp => by
  rcases hS p hp with h | h
  ·exact h
  ·obtain ⟨⟨q,hq,n1,e1⟩,_⟩:=hc p hp
   rcases hS q hq with h2 | h2
   ·rw [← e1]; exact h2
   ·exact (n1 (Prod.ext e1 (h2.trans h.symm))).elim
 intro p hp
 obtain ⟨_,⟨r,hr,n2,e2⟩⟩:=hc p hp
 exact n2 (Prod.ext ((h1 r hr).trans (h1 p hp).symm) e2)
end Go.Proofs.YtlmfdmlochpfcaaDoor

namespace Go.Proofs.YtlmfdmlochpfcaaDoor
open Go Go.V
def inc (m:Nat × Nat) (v:Int):Prop:=v = m.1 ∨ v = -1 - m.2
inductive Fst:List (Nat × Nat) → Prop
 | nil:Fst []
 | snoc {F:List (Nat × Nat)} {m:Nat × Nat}:Fst F → ¬ Conn F m.1 (-1 - m.2) → Fst (F ++ [m])
def Leaf (S:Nat × Nat → Prop) (v:Int):Prop:=∃ m,S m ∧ inc m v ∧ ∀ m',S m' → inc m' v → m' = m
theorem inc_conn {F:List (Nat × Nat)} {m:Nat × Nat} (hm:m ∈ F) {u v:Int} (hu:inc m u) (hv:inc m v):Conn F u v:=by
 have he:=Conn.edge hm
 rcases hu with rfl | rfl <;> rcases hv with rfl | rfl
 ·exact .refl _
 ·exact he
 ·exact he.symm
 ·exact .refl _
theorem forest_leaves {F:List (Nat × Nat)} (hF:Fst F):∀ (S:Nat × Nat → Prop),(∀ m,S m → m ∈ F) → (∃ m,S m) → ∃ u v,u ≠ v ∧ Leaf S u ∧ Leaf S v:=by
 induction hF with
 | nil => intro S hS ⟨m,hm⟩; exact absurd (hS m hm) (by simp)
 | @snoc F e hF hne ih =>
  intro S hS hex
  by_cases he:S e
  ·by_cases heF:e ∈ F
   ·exact (hne (.edge heF)).elim
   -- one end
   have side:∀ r c:Int,inc e r → inc e c → (∀ v,inc e v → v = r ∨ v = c) → ¬ Conn F r c → ∃ u,Leaf S u ∧ Conn F u r:=by
    intro r c hr hc hrc hnc
    by_cases hex2:∃ m,S m ∧ m ≠ e ∧ ∃ v,inc m v ∧ Conn F v r
    ·obtain ⟨u,v,huv,hu,hv⟩:=ih (fun m => S m ∧ m ≠ e ∧ ∃ v,inc m v ∧ Conn F v r) (fun m hm => by
      have:=hS m hm.1
      simp only [List.mem_append,List.mem_singleton] at this
      exact this.resolve_right hm.2.1) hex2
     have up:∀ x,x ≠ r → Leaf (fun m => S m ∧ m ≠ e ∧ ∃ v,inc m v ∧ Conn F v r) x → Leaf S x ∧ Conn F x r:=by
      intro x hxr hl
      obtain ⟨m,⟨hm,hme,v,hiv,hvr⟩,hmx,huni⟩:=hl
      have hmF:m ∈ F:=by
       have:=hS m hm
       simp only [List.mem_append,List.mem_singleton] at this
       exact this.resolve_right hme
      have hx:Conn F x r:=(inc_conn hmF hmx hiv).trans hvr
      refine ⟨⟨m,hm,hmx,fun m' hm' hi' => ?_⟩,hx⟩
      by_cases h':m' = e
      ·subst h'
       rcases hrc x hi' with h | h
       ·exact (hxr h).elim
       ·subst h; exact (hnc hx.symm).elim
      ·exact huni m' ⟨hm',h',x,hi',hx⟩ hi'
     by_cases hur:u = r
     ·exact ⟨v,up v (fun h => huv (hur.trans h.symm)) hv⟩
     ·exact ⟨u,up u hur hu⟩
    ·refine ⟨r,⟨e,he,hr,fun m' hm' hi' => ?_⟩,.refl _⟩
     refine Classical.byContradiction fun h' => hex2 ⟨m',hm',h',r,hi',.refl _⟩
   obtain ⟨u,hu,hu2⟩:=side e.1 (-1 - e.2) (.inl rfl) (.inr rfl) (fun v h => h) hne
   obtain ⟨v,hv,hv2⟩:=side (-1 - e.2) e.1 (.inr rfl) (.inl rfl) (fun v h => h.symm) (fun h => hne h.symm)
   exact ⟨u,v,fun h => by subst h; exact hne (hu2.symm.trans hv2),hu,hv⟩
  ·refine ih S (fun m hm => ?_) hex
   have:=hS m hm
   simp only [List.mem_append,List.mem_singleton] at this
   refine this.resolve_right fun h => ?_
   subst h; exact he hm
theorem forest_clos {F:List (Nat × Nat)} (hF:Fst F) {S:Nat × Nat → Prop} (hc:Clos S) (hS:∀ m,S m → m ∈ F):∀ p,¬ S p:=by
 intro p hp
 obtain ⟨u,v,_,⟨m,hm,hi,huni⟩,_⟩:=forest_leaves hF S hS ⟨p,hp⟩
 obtain ⟨⟨q,hq,n1,e1⟩,⟨r,hr,n2,e2⟩⟩:=hc m hm
 rcases hi with rfl | rfl
 ·exact n1 (huni q hq (.inl (by rw [e1])))
 ·exact n2 (huni r hr (.inr (by rw [e2])))
open Classical in
noncomputable def treeK (ms:List (Nat × Nat)):Nat → List (Nat × Nat)
 | 0 => []
 | k + 1 => treeK ms k ++ (match ms[k]? with | some m => if Conn (ms.take k) m.1 (-1 - m.2) then [] else [m] | none => [])
theorem take_snoc' {α:Type} {l:List α} {k:Nat} {a:α} (h:l[k]? = some a):l.take (k + 1) = l.take k ++ [a]:=by
 rw [List.take_add_one,h]; rfl
theorem tree_conn (ms:List (Nat × Nat)):∀ k x y,Conn (ms.take k) x y ↔ Conn (treeK ms k) x y
 | 0,x,y => by simp only [List.take_zero,treeK]
 | k + 1,x,y => by
  have ih:=tree_conn ms k
  cases hm:ms[k]? with
  | none => simp only [treeK,hm,List.append_nil,List.take_add_one,Option.toList]; exact ih x y
  | some m =>
   simp only [treeK,hm]
   rw [take_snoc' hm]
   by_cases hc:Conn (ms.take k) m.1 (-1 - m.2)
   ·rw [if_pos hc,List.append_nil,← ih]
    constructor
    ·intro h
     rcases h.snoc with h | ⟨h1,h2⟩ | ⟨h1,h2⟩
     ·exact h
     ·exact h1.trans (hc.trans h2.symm)
     ·exact h1.trans (hc.symm.trans h2.symm)
    ·exact Conn.mono fun m hm => by simp [hm]
   ·rw [if_neg hc]
    constructor
    ·intro h
     rcases h.snoc with h | ⟨h1,h2⟩ | ⟨h1,h2⟩
     ·exact ((ih x y).1 h).mono fun m hm => by simp [hm]
     ·have e:Conn (treeK ms k ++ [m]) m.1 (-1 - m.2):=.edge (by simp)
      exact (((ih _ _).1 h1).mono fun m hm => by simp [hm]).trans (e.trans (((ih _ _).1 h2).mono fun m hm => by simp [hm]).symm)
     ·have e:Conn (treeK ms k ++ [m]) m.1 (-1 - m.2):=.edge (by simp)
      exact (((ih _ _).1 h1).mono fun m hm => by simp [hm]).trans (e.symm.trans (((ih _ _).1 h2).mono fun m hm => by simp [hm]).symm)
    ·intro h
     rcases h.snoc with h | ⟨h1,h2⟩ | ⟨h1,h2⟩
     ·exact ((ih x y).2 h).mono fun m hm => by simp [hm]
     ·have e:Conn (ms.take k ++ [m]) m.1 (-1 - m.2):=.edge (by simp)
      exact (((ih _ _).2 h1).mono fun m hm => by simp [hm]).trans (e.trans (((ih _ _).2 h2).mono fun m hm => by simp [hm]).symm)
     ·have e:Conn (ms.take k ++ [m]) m.1 (-1 - m.2):=.edge (by simp)
      exact (((ih _ _).2 h1).mono fun m hm => by simp [hm]).trans (e.symm.trans (((ih _ _).2 h2).mono fun m hm => by simp [hm]).symm)
theorem tree_fst (ms:List (Nat × Nat)):∀ k,Fst (treeK ms k)
 | 0 => .nil
 | k + 1 => by
  have ih:=tree_fst ms k
  simp only [treeK]
  split
  ·split
   ·rw [List.append_nil]; exact ih
   ·rename_i hc
    exact .snoc ih fun h => hc ((tree_conn ms k _ _).2 h)
  ·rw [List.append_nil]; exact ih
theorem tree_or_circ (ms:List (Nat × Nat)):∀ k,∀ m ∈ ms.take k,m ∈ treeK ms k ∨ m ∈ circK ms k
 | 0,m,h => by simp at h
 | k + 1,m,h => by
  have ih:=tree_or_circ ms k
  cases hk:ms[k]? with
  | none =>
   simp only [List.take_add_one,hk,Option.toList,List.append_nil] at h
   simp only [treeK,circK,hk,List.append_nil]; exact ih m h
  | some x =>
   rw [take_snoc' hk,List.mem_append,List.mem_singleton] at h
   simp only [treeK,circK,hk,List.mem_append]
   rcases h with h | rfl
   ·rcases ih m h with h | h
    ·exact .inl (.inl h)
    ·exact .inr (.inl h)
   ·by_cases hc:Conn (ms.take k) m.1 (-1 - m.2)
    ·right; right; rw [if_pos hc]; simp
    ·left; right; rw [if_neg hc]; simp
theorem tree_sub (ms:List (Nat × Nat)):∀ k,∀ m ∈ treeK ms k,m ∈ ms.take k
 | 0,m,h => by simp [treeK] at h
 | k + 1,m,h => by
  have ih:=tree_sub ms k
  simp only [treeK,List.mem_append] at h
  rcases h with h | h
  ·exact (List.take_subset_take_left ms (Nat.le_succ k)) (ih m h)
  ·split at h
   ·rename_i x hx
    split at h
    ·cases h
    ·simp only [List.mem_singleton] at h
     subst h
     rw [take_snoc' hx]; simp
   ·cases h
theorem circ_sub (ms:List (Nat × Nat)):∀ k,∀ m ∈ circK ms k,m ∈ ms.take k
 | 0,m,h => by simp [circK] at h
 | k + 1,m,h => by
  have ih:=circ_sub ms k
  simp only [circK,List.mem_append] at h
  rcases h with h | h
  ·exact (List.take_subset_take_left ms (Nat.le_succ k)) (ih m h)
  ·split at h
   ·rename_i x hx
    split at h
    ·simp only [List.mem_singleton] at h
     subst h
     rw [take_snoc' hx]; simp
    ·cases h
   ·cases h
theorem circ_conn (ms:List (Nat × Nat)):∀ k,∀ m ∈ circK ms k,Conn (treeK ms k) m.1 (-1 - m.2)
 | 0,m,h => by simp [circK] at h
 | k + 1,m,h => by
  have ih:=circ_conn ms k
  have up:∀ x y,Conn (treeK ms k) x y → Conn (treeK ms (k + 1)) x y:=fun x y hc => hc.mono fun m hm => by simp only [treeK,List.mem_append]; exact .inl hm
  simp only [circK,List.mem_append] at h
  rcases h with h | h
  ·exact up _ _ (ih m h)
  ·split at h
   ·split at h
    ·rename_i hc
     simp only [List.mem_singleton] at h
     subst h
     exact up _ _ ((tree_conn ms k _ _).1 hc)
    ·cases h
   ·cases h
theorem nodup_ne {α:Type} {l:List α} (h:l.Nodup) {i k:Nat} (hi:i < l.length) (hk:k < l.length) (hik:i < k) (he:l[i] = l[k]):False:=(List.pairwise_iff_getElem.1 h) i k hi hk hik he
theorem circ_nodup {ms:List (Nat × Nat)} (h:ms.Nodup):∀ k,(circK ms k).Nodup
 | 0 => by simp [circK]
 | k + 1 => by
  have ih:=circ_nodup h k
  simp only [circK]
  split
  ·rename_i x hx
   split
   ·refine List.nodup_append.2 ⟨ih,by simp,fun a ha b hb => ?_⟩
    simp only [List.mem_singleton] at hb
    subst hb
    rintro rfl
    have h1:=circ_sub ms k a ha
    obtain ⟨i,hi,e⟩:=List.getElem_of_mem h1
    simp only [List.length_take] at hi
    rw [List.getElem_take] at e
    have hk:k < ms.length:=(List.getElem?_eq_some_iff.1 hx).1
    have ek:ms[k] = a:=(List.getElem?_eq_some_iff.1 hx).2
    exact nodup_ne h (i:=i) (k:=k) (by omega) hk (by omega) (by rw [e,ek])
   ·rw [List.append_nil]; exact ih
  ·rw [List.append_nil]; exact ih
theorem tree_circ_disj {ms:List (Nat × Nat)} (h:ms.Nodup):∀ k,∀ m ∈ treeK ms k,m ∉ circK ms k
 | 0,m,hm => by simp [treeK] at hm
 | k + 1,m,hm => by
  have ih:=tree_circ_disj h k
  cases hx:ms[k]? with
  | none => simp only [treeK,circK,hx,List.append_nil] at hm ⊢; exact ih m hm
  | some x =>
   have hk:k < ms.length:=(List.getElem?_eq_some_iff.1 hx).1
   have ek:ms[k] = x:=(List.getElem?_eq_some_iff.1 hx).2
   have hnew:∀ a ∈ ms.take k,a ≠ x:=fun a ha e => by
    obtain ⟨i,hi,e2⟩:=List.getElem_of_mem ha
    simp only [List.length_take] at hi
    rw [List.getElem_take] at e2
    exact nodup_ne h (i:=i) (k:=k) (by omega) hk (by omega) (by rw [e2,e,ek])
   simp only [treeK,circK,hx,List.mem_append] at hm ⊢
   rintro (hc | hc)
   ·rcases hm with hm | hm
    ·exact ih m hm hc
    ·split at hm
     ·cases hm
     ·simp only [List.mem_singleton] at hm
      exact hnew m (circ_sub ms k m hc) hm
   ·rcases hm with hm | hm
    ·split at hc
     ·simp only [List.mem_singleton] at hc
      exact hnew m (tree_sub ms k m hm) hc
     ·cases hc
    ·split at hm <;> split at hc <;> first | (cases hm; done) | (cases hc; done) | (rename_i h1 h2; exact h1 h2) | (rename_i h1 h2; exact h2 h1)
theorem collapse {F:List (Nat × Nat)} {p:Nat × Nat} {v u:Int} (hp:∀ m ∈ F,inc m v → m = p) (hv:inc p v) (hu:inc p u) (huv:u ≠ v) {x y:Int} (h:Conn F x y):Conn (F.filter fun m => m != p) (if x = v then u else x) (if y = v then u else y):=by
 induction h with
 | refl x => exact .refl _
 | @edge m hm =>
  by_cases hmp:m = p
  ·subst hmp
   have:∀ z,inc m z → (if z = v then u else z) = u:=by
    intro z hz
    by_cases hzv:z = v
    ·rw [if_pos hzv]
    ·rw [if_neg hzv]
     rcases hv with rfl | rfl <;> rcases hu with rfl | rfl <;> rcases hz with rfl | rfl <;> first | rfl | exact (huv rfl).elim | exact (hzv rfl).elim
   rw [this _ (.inl rfl),this _ (.inr rfl)]
   exact .refl _
  ·have hn:∀ z,inc m z → (if z = v then u else z) = z:=by
    intro z hz
    rw [if_neg]
    rintro rfl
    exact hmp (hp m hm hz)
   rw [hn _ (.inl rfl),hn _ (.inr rfl)]
   exact .edge (List.mem_filter.2 ⟨hm,by simpa using hmp⟩)
 | symm _ ih => exact ih.symm
 | trans _ _ ih1 ih2 => exact ih1.trans ih2
theorem filter_lt {α:Type} {f:α → Bool}:∀ {l:List α} {a:α},a ∈ l → f a = false → (l.filter f).length < l.length
 | x :: l,a,h,hf => by
  simp only [List.filter_cons,List.length_cons]
  rcases List.mem_cons.1 h with rfl | h
  ·rw [hf]
   have:=List.length_filter_le f l
   simp; omega
  ·have:=filter_lt h hf
   split
   ·simp only [List.length_cons]; omega
   ·omega
theorem circle_clos (e:Nat × Nat):∀ (k:Nat) (F:List (Nat × Nat)),F.length = k → e ∉ F → Conn F e.1 (-1 - e.2) → ∃ S:Nat × Nat → Prop,Clos S ∧ S e ∧ ∀ m,S m → m = e ∨ m ∈ F:=by
 intro k
 induction k using Nat.strongRecOn with
 | _ k ih =>
  intro F hk heF hc
  by_cases hcl:Clos fun m => m = e ∨ m ∈ F
  ·exact ⟨_,hcl,.inl rfl,fun m h => h⟩
  ·have:∃ p,(p = e ∨ p ∈ F) ∧ ∃ v,inc p v ∧ ∀ q,(q = e ∨ q ∈ F) → inc q v → q = p:=by
    refine Classical.byContradiction fun hno => hcl fun p hp => ?_
    constructor
    ·refine Classical.byContradiction fun h1 => hno ⟨p,hp,p.1,.inl rfl,fun q hq hi => ?_⟩
     refine Classical.byContradiction fun h2 => h1 ⟨q,hq,h2,?_⟩
     rcases hi with h | h <;> omega
    ·refine Classical.byContradiction fun h1 => hno ⟨p,hp,-1 - p.2,.inr rfl,fun q hq hi => ?_⟩
     refine Classical.byContradiction fun h2 => h1 ⟨q,hq,h2,?_⟩
     rcases hi with h | h <;> omega
   obtain ⟨p,hp,v,hv,huni⟩:=this
   have lone:∀ x y:Int,Conn F x y → x ≠ y → (∃ m ∈ F,inc m x) ∧ ∃ m ∈ F,inc m y:=by
    intro x y h
    induction h with
    | refl x => intro h; exact (h rfl).elim
    | @edge m hm => intro _; exact ⟨⟨m,hm,.inl rfl⟩,⟨m,hm,.inr rfl⟩⟩
    | symm _ ih => intro hne; exact ⟨(ih (Ne.symm hne)).2,(ih (Ne.symm hne)).1⟩
    | @trans x y z _ _ ih1 ih2 =>
     intro hne
     by_cases hxy:x = y
     ·subst hxy; exact ih2 hne
     ·by_cases hyz:y = z
      ·subst hyz; exact ih1 hxy
      ·exact ⟨(ih1 hxy).1,(ih2 hyz).2⟩
   obtain ⟨⟨m1,hm1,i1⟩,⟨m2,hm2,i2⟩⟩:=lone _ _ hc (by omega)
   have hve:¬ inc e v:=by
    intro h
    have hpe:e = p:=huni e (.inl rfl) h
    rcases h with rfl | rfl
    ·have:=huni m1 (.inr hm1) i1
     rw [this,← hpe] at hm1; exact heF hm1
    ·have:=huni m2 (.inr hm2) i2
     rw [this,← hpe] at hm2; exact heF hm2
   have hpF:p ∈ F:=by
    rcases hp with rfl | hp
    ·exact (hve hv).elim
    ·exact hp
   obtain ⟨u,hu,huv⟩ : ∃ u,inc p u ∧ u ≠ v:=by
    rcases hv with rfl | rfl
    ·exact ⟨_,.inr rfl,by omega⟩
    ·exact ⟨_,.inl rfl,by omega⟩
   have hcol:=collapse (fun m hm hi => huni m (.inr hm) hi) hv hu huv hc
   rw [if_neg (fun h => hve (.inl h.symm)),if_neg (fun h => hve (.inr h.symm))] at hcol
   have hlt:(F.filter fun m => m != p).length < k:=by rw [← hk]; exact filter_lt hpF (by simp)
   obtain ⟨S,s1,s2,s3⟩:=ih _ hlt _ rfl (fun h => heF (List.mem_filter.1 h).1) hcol
   exact ⟨S,s1,s2,fun m hm => (s3 m hm).imp id fun h => (List.mem_filter.1 h).1⟩
end Go.Proofs.YtlmfdmlochpfcaaDoor

namespace Go.Proofs.YtlmfdmlochpfcaaDoor
open Go Go.V
theorem noLost_iff {n w:Nat} {g:List (List Int)}:noLost n w g = true ↔ ∀ i k,i < n → k < w → valAt g (i,k) ≠ -1:=by
 unfold noLost
 rw [List.all_eq_true]
 constructor
 ·intro h i k hi hk hv
  have:=h _ (allP_mem.2 (.inl ⟨i,hi,rfl⟩))
  simp only [beq_iff_eq] at this
  have hm:(i,k) ∈ lostL g (posL n w i true):=lostL_mem.2 ⟨posL_row_mem.2 ⟨rfl,hk⟩,hv⟩
  rw [List.eq_nil_of_length_eq_zero this] at hm
  cases hm
 ·intro h l hl
  simp only [beq_iff_eq]
  rw [List.length_eq_zero_iff,List.eq_nil_iff_forall_not_mem]
  intro p hp
  obtain ⟨h1,h2⟩:=lostL_mem.1 hp
  obtain ⟨k1,k2⟩:=allP_in hl p h1
  exact h p.1 p.2 k1 k2 h2
end Go.Proofs.YtlmfdmlochpfcaaDoor

namespace Go.Proofs.YtlmfdmlochpfcaaDoor
open Go Go.V
theorem nd_len:∀ (l l':List Nat),l.Nodup → (∀ x ∈ l,x ∈ l') → l.length ≤ l'.length
 | [],_,_,_ => Nat.zero_le _
 | a :: l,l',hn,hs => by
  have hn:=List.nodup_cons.1 hn
  have ha:a ∈ l':=hs a (by simp)
  have:=nd_len l (l'.erase a) hn.2 fun x hx => (List.mem_erase_of_ne (fun h:x = a => hn.1 (by rw [← h]; exact hx))).2 (hs x (by simp [hx]))
  rw [List.length_erase_of_mem ha] at this
  have hp:=List.length_pos_of_mem ha
  simp only [List.length_cons]
  omega
theorem nd_less {l:List Nat} (hn:l.Nodup) {a:Nat} (ha:a ∈ l):(l.filter fun x => x != a).length + 1 = l.length:=by
 have h1:(l.filter fun x => x != a).length ≤ (l.erase a).length:=nd_len _ _ (hn.filter _) fun x hx => by
  obtain ⟨h1,h2⟩:=List.mem_filter.1 hx
  exact (List.mem_erase_of_ne (by simpa using h2)).2 h1
 have h2:l.length ≤ (a :: l.filter fun x => x != a).length:=nd_len _ _ hn fun x hx => by
  by_cases h:x = a
  ·rw [h]; simp
  ·exact List.mem_cons_of_mem _ (List.mem_filter.2 ⟨hx,by simpa using h⟩)
 rw [List.length_erase_of_mem ha] at h1
 have hp:=List.length_pos_of_mem ha
 simp only [List.length_cons] at h2
 omega
structure Rep (E:Nat → Nat → Prop) (N:Nat) (f:Nat → Nat):Prop where
 lt:∀ x,x < N → f x < N
 idem:∀ x,x < N → f (f x) = f x
 con:∀ x y,x < N → y < N → (f x = f y ↔ E x y)
def fixL (N:Nat) (f:Nat → Nat):List Nat:=(List.range N).filter fun x => f x == x
theorem fixL_mem {N:Nat} {f:Nat → Nat} {x:Nat}:x ∈ fixL N f ↔ x < N ∧ f x = x:=by simp [fixL]
theorem fixL_nodup (N:Nat) (f:Nat → Nat):(fixL N f).Nodup:=List.nodup_range.filter _
theorem rep_le {E:Nat → Nat → Prop} {N:Nat} {f g:Nat → Nat} (hf:Rep E N f) (hg:Rep E N g):(fixL N f).length ≤ (fixL N g).length:=by
 rw [← List.length_map (f:=g)]
 refine nd_len _ _ ?_ fun x hx => ?_
 ·refine List.pairwise_map.2 ((fixL_nodup N f).imp_of_mem fun {a b} ha hb hab he => hab ?_)
  obtain ⟨a1,a2⟩:=fixL_mem.1 ha
  obtain ⟨b1,b2⟩:=fixL_mem.1 hb
  have:=(hf.con a b a1 b1).2 ((hg.con a b a1 b1).1 he)
  rw [a2,b2] at this
  exact this
 ·obtain ⟨a,ha,rfl⟩:=List.mem_map.1 hx
  obtain ⟨a1,_⟩:=fixL_mem.1 ha
  exact fixL_mem.2 ⟨hg.lt a a1,hg.idem a a1⟩
theorem rep_count {E:Nat → Nat → Prop} {N:Nat} {f g:Nat → Nat} (hf:Rep E N f) (hg:Rep E N g):(fixL N f).length = (fixL N g).length:=Nat.le_antisymm (rep_le hf hg) (rep_le hg hf)
theorem rep_join {E E':Nat → Nat → Prop} {N p q:Nat} {f:Nat → Nat} (hf:Rep E N f) (hp:p < N) (hq:q < N) (hne:¬ E p q)
  (hE:∀ x y,x < N → y < N → (E' x y ↔ E x y ∨ (E x p ∧ E y q) ∨ (E x q ∧ E y p))):∃ g,Rep E' N g ∧ (fixL N g).length + 1 = (fixL N f).length:=by
 have hpq:f p ≠ f q:=fun h => hne ((hf.con p q hp hq).1 h)
 refine ⟨fun x => if f x = f p then f q else f x,⟨fun x hx => ?_,fun x hx => ?_,fun x y hx hy => ?_⟩,?_⟩
 ·split
  ·exact hf.lt q hq
  ·exact hf.lt x hx
 ·by_cases h:f x = f p
  ·rw [if_pos h,hf.idem q hq,if_neg (fun h => hpq h.symm)]
  ·rw [if_neg h,hf.idem x hx,if_neg h]
 ·rw [hE x y hx hy,← hf.con x y hx hy,← hf.con x p hx hp,← hf.con y q hy hq,← hf.con x q hx hq,← hf.con y p hy hp]
  by_cases h1:f x = f p <;> by_cases h2:f y = f p
  ·simp only [if_pos h1,if_pos h2,true_iff]; exact .inl (h1.trans h2.symm)
  ·simp only [if_pos h1,if_neg h2]
   constructor
   ·intro h; exact .inr (.inl ⟨h1,h.symm⟩)
   ·rintro (h | ⟨_,h⟩ | ⟨_,h⟩)
    ·exact (h2 (h ▸ h1)).elim
    ·exact h.symm
    ·exact (h2 h).elim
  ·simp only [if_neg h1,if_pos h2]
   constructor
   ·intro h; exact .inr (.inr ⟨h,h2⟩)
   ·rintro (h | ⟨h,_⟩ | ⟨h,_⟩)
    ·exact (h1 (h.trans h2)).elim
    ·exact (h1 h).elim
    ·exact h
  ·simp only [if_neg h1,if_neg h2]
   constructor
   ·exact .inl
   ·rintro (h | ⟨h,_⟩ | ⟨_,h⟩)
    ·exact h
    ·exact (h1 h).elim
    ·exact (h2 h).elim
 ·have ha:f p ∈ fixL N f:=fixL_mem.2 ⟨hf.lt p hp,hf.idem p hp⟩
  rw [← nd_less (fixL_nodup N f) ha]
  congr 1
  unfold fixL
  rw [List.filter_filter]
  congr 1
  refine List.filter_congr fun x hx => ?_
  have hx:=List.mem_range.1 hx
  rw [Bool.eq_iff_iff]
  simp only [beq_iff_eq,Bool.and_eq_true,bne_iff_ne,ne_eq]
  by_cases h1:f x = f p
  ·rw [if_pos h1]
   constructor
   ·intro h; exact (hpq (by rw [← h1,← h,hf.idem q hq])).elim
   ·rintro ⟨h,h'⟩; exact (h (h'.symm.trans h1)).elim
  ·rw [if_neg h1]
   constructor
   ·intro h; refine ⟨fun h' => h1 ?_,h⟩
    rw [h',hf.idem p hp]
   ·exact fun h => h.2
def pt (x:Nat):Int:=if x < 41 then x else -1 - ((x - 41:Nat):Int)
theorem pt_row {x:Nat} (h:x < 41):pt x = x:=by unfold pt; rw [if_pos h]
theorem pt_col (x:Nat):pt (41 + x) = -1 - (x:Int):=by unfold pt; rw [if_neg (by omega)]; congr 2; omega
theorem pt_inj {x y:Nat} (h:pt x = pt y):x = y:=by
 unfold pt at h
 split at h <;> split at h <;> omega
theorem Conn.invT {T:Type} {ms:List (Nat × Nat)} (f:Int → T) (h:∀ m ∈ ms,f m.1 = f (-1 - m.2)) {x y:Int} (hc:Conn ms x y):f x = f y:=by
 induction hc with
 | refl x => rfl
 | edge hm => exact h _ hm
 | symm _ ih => exact ih.symm
 | trans _ _ ih1 ih2 => exact ih1.trans ih2
def InB (ms:List (Nat × Nat)):Prop:=∀ m ∈ ms,m.1 < 41 ∧ m.2 < 99
theorem fix_id (N:Nat):(fixL N fun x => x).length = N:=by
 have:fixL N (fun x => x) = List.range N:=by unfold fixL; rw [List.filter_eq_self]; simp
 rw [this,List.length_range]
theorem circ_count {ms:List (Nat × Nat)} (h:InB ms):∀ k,k ≤ ms.length → ∃ f,Rep (fun x y => Conn (ms.take k) (pt x) (pt y)) 140 f ∧ (fixL 140 f).length + k = 140 + (circK ms k).length
 | 0,_ => by
  refine ⟨fun x => x,⟨fun x hx => hx,fun x _ => rfl,fun x y _ _ => ⟨fun h => h ▸ .refl _,fun h => pt_inj (h.invT id fun m hm => by simp at hm)⟩⟩,?_⟩
  rw [fix_id]; simp [circK]
 | k + 1,hk => by
  obtain ⟨f,hf,hc⟩:=circ_count h k (by omega)
  have hk2:k < ms.length:=by omega
  have hin:=h _ (List.getElem_mem hk2)
  have hts:=List.take_succ_eq_append_getElem hk2
  rw [circK_snoc (List.getElem?_eq_getElem hk2),hts]
  generalize ms[k] = m at hin hts
  have e1:=pt_row hin.1
  have e2:=pt_col m.2
  have hmono:∀ {x y},Conn (ms.take k) x y → Conn (ms.take k ++ [m]) x y:=fun hc => hc.mono fun _ hm => List.mem_append_left _ hm
  have hedge:Conn (ms.take k ++ [m]) m.1 (-1 - m.2):=.edge (by simp)
  by_cases hm:Conn (ms.take k) m.1 (-1 - m.2)
  ·rw [if_pos hm]
   refine ⟨f,⟨hf.lt,hf.idem,fun x y hx hy => ?_⟩,by simp only [List.length_append,List.length_cons,List.length_nil]; omega⟩
   rw [hf.con x y hx hy]
   refine ⟨hmono,fun h => ?_⟩
   rcases h.snoc with h | ⟨h1,h2⟩ | ⟨h1,h2⟩
   ·exact h
   ·exact h1.trans (hm.trans h2.symm)
   ·exact h1.trans (hm.symm.trans h2.symm)
  ·rw [if_neg hm]
   obtain ⟨g,hg,hl⟩:=rep_join (E':=fun x y => Conn (ms.take k ++ [m]) (pt x) (pt y)) hf (p:=m.1) (q:=41 + m.2) (by omega) (by omega) (by rw [e1,e2]; exact hm) fun x y hx hy => by
    rw [e1,e2]
    refine ⟨fun h => h.snoc,?_⟩
    rintro (h | ⟨h1,h2⟩ | ⟨h1,h2⟩)
    ·exact hmono h
    ·exact (hmono h1).trans (hedge.trans (hmono h2).symm)
    ·exact (hmono h1).trans (hedge.symm.trans (hmono h2).symm)
   exact ⟨g,hg,by simp only [List.append_nil]; omega⟩
def touch (ms:List (Nat × Nat)) (x:Nat):Prop:=∃ m ∈ ms,x = m.1 ∨ x = 41 + m.2
structure Lab (ms:List (Nat × Nat)) (L:List Int):Prop where
 len:L.length = 140
 non:∀ x,x < 140 → ¬ touch ms x → L.getD x 0 = 0
 some:∀ x,x < 140 → touch ms x → ∃ y:Nat,y < 140 ∧ L.getD x 0 = 1 + (y:Int) ∧ Conn ms (pt x) (pt y)
def repL (L:List Int) (x:Nat):Nat:=if L.getD x 0 = 0 then x else (L.getD x 0 - 1).toNat
def atL (L:List Int) (u:Int):Int:=if 0 ≤ u then L.getD u.toNat 0 else L.getD (41 + (-1 - u).toNat) 0
theorem atL_pt (L:List Int) (x:Nat):atL L (pt x) = L.getD x 0:=by
 unfold atL pt
 by_cases h:x < 41
 ·rw [if_pos h,if_pos (by omega),Int.toNat_natCast]
 ·rw [if_neg h,if_neg (by omega)]
  congr 1; omega
theorem touch_no {ms:List (Nat × Nat)} (h:InB ms) {x y:Nat} (hx:¬ touch ms x) (hc:Conn ms (pt x) (pt y)):x = y:=by
 have:=hc.invT (fun u => u = pt x) fun m hm => by
  have:=h m hm
  refine propext ⟨fun e => ?_,fun e => ?_⟩
  ·rw [← pt_row this.1] at e
   exact (hx ⟨m,hm,.inl (pt_inj e).symm⟩).elim
  ·rw [← pt_col] at e
   exact (hx ⟨m,hm,.inr (pt_inj e).symm⟩).elim
 exact (pt_inj (this.mp rfl)).symm
theorem lab_rep {ms:List (Nat × Nat)} (h:InB ms) {L:List Int} (hL:Lab ms L) (he:∀ m ∈ ms,L.getD m.1 0 = L.getD (41 + m.2) 0):Rep (fun x y => Conn ms (pt x) (pt y)) 140 (repL L):=by
 have hcl:∀ x y,Conn ms (pt x) (pt y) → L.getD x 0 = L.getD y 0:=fun x y hc => by
  have:=hc.invT (atL L) fun m hm => by
   have hi:=h m hm
   rw [← pt_row hi.1,← pt_col,atL_pt,atL_pt]
   exact he m hm
  rwa [atL_pt,atL_pt] at this
 have key:∀ x,x < 140 → (touch ms x ∧ L.getD x 0 ≠ 0 ∧ repL L x < 140 ∧ L.getD x 0 = 1 + (repL L x:Int) ∧ Conn ms (pt x) (pt (repL L x))) ∨ (¬ touch ms x ∧ L.getD x 0 = 0 ∧ repL L x = x):=fun x hx => by
  by_cases ht:touch ms x
  ·obtain ⟨y,y1,y2,y3⟩:=hL.some x hx ht
   have:repL L x = y:=by unfold repL; rw [if_neg (by omega)]; omega
   rw [this]
   exact .inl ⟨ht,by omega,y1,y2,y3⟩
  ·have h0:=hL.non x hx ht
   exact .inr ⟨ht,h0,by unfold repL; rw [if_pos h0]⟩
 refine ⟨fun x hx => ?_,fun x hx => ?_,fun x y hx hy => ?_⟩
 ·rcases key x hx with ⟨_,_,h1,_⟩ | ⟨_,_,h1⟩
  ·exact h1
  ·omega
 ·rcases key x hx with ⟨_,h0,h1,h2,h3⟩ | ⟨_,_,h1⟩
  ·have:=hcl _ _ h3
   rcases key _ h1 with ⟨_,_,_,k2,_⟩ | ⟨_,k0,_⟩
   ·omega
   ·omega
  ·rw [h1,h1]
 ·rcases key x hx with ⟨x1,x2,x3,x4,x5⟩ | ⟨x1,x2,x3⟩ <;> rcases key y hy with ⟨y1,y2,y3,y4,y5⟩ | ⟨y1,y2,y3⟩
  ·constructor
   ·intro e; rw [e] at x5; exact x5.trans y5.symm
   ·intro hc; have:=hcl x y hc; omega
  ·constructor
   ·intro e
    have:=hcl _ _ x5
    rw [e,y3] at this
    omega
   ·intro hc
    have:=hcl x y hc
    omega
  ·constructor
   ·intro e
    have:=hcl _ _ y5
    rw [← e,x3] at this
    omega
   ·intro hc
    have:=hcl x y hc
    omega
  ·rw [x3,y3]
   constructor
   ·rintro rfl; exact .refl _
   ·exact touch_no h x1
theorem flt1 {f:Nat → Bool} {k:Nat} (h:f k = true):([k].filter f).length = 1:=by rw [List.filter_cons,if_pos h]; rfl
theorem flt0 {f:Nat → Bool} {k:Nat} (h:f k = false):([k].filter f).length = 0:=by rw [List.filter_cons,if_neg (by rw [h]; decide)]; rfl
def linesL (L:List Int) (k:Nat):Nat:=((List.range k).filter fun i => decide (L.getD i 0 > 0)).length
def groupsL (L:List Int) (k:Nat):Nat:=((List.range k).filter fun i => L.getD i 0 == 1 + (i:Int)).length
theorem linesL_succ (L:List Int) (k:Nat):linesL L (k + 1) = linesL L k + (if L.getD k 0 > 0 then 1 else 0):=by
 unfold linesL
 rw [List.range_succ,List.filter_append,List.length_append]
 by_cases h:L.getD k 0 > 0
 ·rw [if_pos h,flt1 (decide_eq_true h)]
 ·rw [if_neg h,flt0 (decide_eq_false h)]
theorem groupsL_succ (L:List Int) (k:Nat):groupsL L (k + 1) = groupsL L k + (if L.getD k 0 = 1 + (k:Int) then 1 else 0):=by
 unfold groupsL
 rw [List.range_succ,List.filter_append,List.length_append]
 by_cases h:L.getD k 0 = 1 + (k:Int)
 ·rw [if_pos h,flt1 (by rw [h]; exact beq_self_eq_true _)]
 ·rw [if_neg h,flt0 (by rw [beq_eq_false_iff_ne]; exact h)]
theorem fix_lab {L:List Int} (h0:∀ x,x < 140 → 0 ≤ L.getD x 0):∀ k,k ≤ 140 → (fixL k (repL L)).length + linesL L k = k + groupsL L k
 | 0,_ => rfl
 | k + 1,hk => by
  have ih:=fix_lab h0 k (by omega)
  rw [linesL_succ,groupsL_succ]
  have hs:(fixL (k + 1) (repL L)).length = (fixL k (repL L)).length + (if repL L k = k then 1 else 0):=by
   unfold fixL
   rw [List.range_succ,List.filter_append,List.length_append]
   by_cases h:repL L k = k
   ·rw [if_pos h,flt1 (by rw [h]; exact beq_self_eq_true _)]
   ·rw [if_neg h,flt0 (by rw [beq_eq_false_iff_ne]; exact h)]
  rw [hs]
  have hn:=h0 k (by omega)
  rw [show repL L k = if L.getD k 0 = 0 then k else (L.getD k 0 - 1).toNat from rfl]
  generalize L.getD k 0 = v at hn
  by_cases hz:v = 0
  ·subst hz
   rw [if_pos rfl,if_pos rfl,if_neg (by decide),if_neg (by omega)]; omega
  ·rw [if_neg hz,if_pos (by omega:v > 0)]
   by_cases hv:v = 1 + (k:Int)
   ·rw [if_pos hv,if_pos (by omega)]; omega
   ·rw [if_neg hv,if_neg (by omega)]; omega
theorem circ_lab {ms:List (Nat × Nat)} (h:InB ms) {L:List Int} (hL:Lab ms L) (he:∀ m ∈ ms,L.getD m.1 0 = L.getD (41 + m.2) 0):(circ ms).length + linesL L 140 = ms.length + groupsL L 140:=by
 obtain ⟨f,hf,hc⟩:=circ_count h ms.length (Nat.le_refl _)
 rw [List.take_length] at hf
 have:=rep_count hf (lab_rep h hL he)
 have h2:=fix_lab (L:=L) (fun x hx => by
  by_cases ht:touch ms x
  ·obtain ⟨y,_,y2,_⟩:=hL.some x hx ht; omega
  ·rw [hL.non x hx ht]; exact Int.le_refl _) 140 (Nat.le_refl _)
 unfold circ
 omega
theorem setD (l:List Int) (i:Nat) (v:Int) (k:Nat) (hi:i < l.length):(l.set i v).getD k 0 = if k = i then v else l.getD k 0:=by
 rw [List.getD_eq_getElem?_getD,List.getElem?_set]
 by_cases h:i = k
 ·subst h; rw [if_pos rfl,if_pos hi,if_pos rfl]; rfl
 ·rw [if_neg h,if_neg (fun e => h e.symm),List.getD_eq_getElem?_getD]
def lab0 (ms:List (Nat × Nat)):List Int:=ms.foldl (fun L m => (L.set m.1 (1 + (m.1:Int))).set (41 + m.2) (42 + (m.2:Int))) (List.replicate 140 0)
theorem lab0_snoc (ms:List (Nat × Nat)) (m:Nat × Nat):lab0 (ms ++ [m]) = ((lab0 ms).set m.1 (1 + (m.1:Int))).set (41 + m.2) (42 + (m.2:Int)):=by
 unfold lab0; rw [List.foldl_append]; rfl
theorem lab0_len (ms:List (Nat × Nat)):(lab0 ms).length = 140:=by
 unfold lab0
 suffices ∀ L:List Int,L.length = 140 → (ms.foldl (fun L m => (L.set m.1 (1 + (m.1:Int))).set (41 + m.2) (42 + (m.2:Int))) L).length = 140 from this _ (by simp)
 intro L hL
 induction ms generalizing L with
 | nil => exact hL
 | cons m ms ih => exact ih _ (by simp [hL])
theorem lab0_at {ms:List (Nat × Nat)} (h:InB ms):∀ k,k ≤ ms.length → ∀ x,x < 140 → (touch (ms.take k) x → (lab0 (ms.take k)).getD x 0 = 1 + (x:Int)) ∧ (¬ touch (ms.take k) x → (lab0 (ms.take k)).getD x 0 = 0)
 | 0,_,x,hx => by
  refine ⟨fun ⟨m,hm,_⟩ => by simp at hm,fun _ => ?_⟩
  simp only [List.take_zero,lab0,List.foldl_nil]
  rw [List.getD_eq_getElem?_getD,List.getElem?_replicate,if_pos hx]; rfl
 | k + 1,hk,x,hx => by
  have hk2:k < ms.length:=by omega
  obtain ⟨i1,i2⟩:=lab0_at h k (by omega) x hx
  have hin:=h _ (List.getElem_mem hk2)
  rw [List.take_succ_eq_append_getElem hk2,lab0_snoc]
  generalize ms[k] = m at hin
  have hl:=lab0_len (ms.take k)
  rw [setD _ _ _ _ (by rw [List.length_set,hl]; omega),setD _ _ _ _ (by rw [hl]; omega)]
  have ht:touch (ms.take k ++ [m]) x ↔ touch (ms.take k) x ∨ x = m.1 ∨ x = 41 + m.2:=by
   unfold touch
   constructor
   ·rintro ⟨a,ha,hx⟩
    rcases List.mem_append.1 ha with ha | ha
    ·exact .inl ⟨a,ha,hx⟩
    ·simp only [List.mem_singleton] at ha; subst ha; exact .inr hx
   ·rintro (⟨a,ha,hx⟩ | hx)
    ·exact ⟨a,List.mem_append_left _ ha,hx⟩
    ·exact ⟨m,by simp,hx⟩
  rw [ht]
  by_cases h1:x = 41 + m.2
  ·rw [if_pos h1]; exact ⟨fun _ => by omega,fun hn => (hn (.inr (.inr h1))).elim⟩
  ·rw [if_neg h1]
   by_cases h2:x = m.1
   ·rw [if_pos h2]; exact ⟨fun _ => by omega,fun hn => (hn (.inr (.inl h2))).elim⟩
   ·rw [if_neg h2]
    refine ⟨fun h => i1 (h.resolve_right fun h => h.elim h2 h1),fun hn => i2 fun h => hn (.inl h)⟩
theorem lab0_ok {ms:List (Nat × Nat)} (h:InB ms):Lab ms (lab0 ms):=by
 have:=lab0_at h ms.length (Nat.le_refl _)
 rw [List.take_length] at this
 exact ⟨lab0_len ms,fun x hx ht => (this x hx).2 ht,fun x hx ht => ⟨x,hx,(this x hx).1 ht,.refl _⟩⟩
theorem touch_row {ms:List (Nat × Nat)} {m:Nat × Nat} (hm:m ∈ ms):touch ms m.1:=⟨m,hm,.inl rfl⟩
theorem touch_col {ms:List (Nat × Nat)} {m:Nat × Nat} (hm:m ∈ ms):touch ms (41 + m.2):=⟨m,hm,.inr rfl⟩
def sumK (f:Nat → Int):Nat → Int
 | 0 => 0
 | k + 1 => sumK f k + f k
def sumZ (L:List Int):Int:=sumK (fun i => L.getD i 0) 140
theorem sumK_set2 (f:Nat → Int) (i j:Nat) (v:Int) (hij:i ≠ j):∀ k,sumK (fun x => if x = j then v else if x = i then v else f x) k = sumK f k + (if i < k then v - f i else 0) + (if j < k then v - f j else 0)
 | 0 => by simp [sumK]
 | k + 1 => by
  simp only [sumK]
  rw [sumK_set2 f i j v hij k]
  by_cases h1:k = j
  ·subst h1
   rw [if_pos rfl,if_neg (Nat.lt_irrefl k),if_pos (Nat.lt_succ_self k)]
   by_cases h2:i < k
   ·rw [if_pos h2,if_pos (by omega)]; omega
   ·rw [if_neg h2,if_neg (by omega)]; omega
  ·rw [if_neg h1]
   by_cases h2:k = i
   ·subst h2
    rw [if_pos rfl,if_neg (Nat.lt_irrefl k),if_pos (Nat.lt_succ_self k)]
    by_cases h3:j < k
    ·rw [if_pos h3,if_pos (by omega)]; omega
    ·rw [if_neg h3,if_neg (by omega)]; omega
   ·rw [if_neg h2]
    by_cases h3:j < k <;> by_cases h4:i < k
    ·rw [if_pos h3,if_pos h4,if_pos (show i < k + 1 by omega),if_pos (show j < k + 1 by omega)]; omega
    ·rw [if_pos h3,if_neg h4,if_neg (show ¬ i < k + 1 by omega),if_pos (show j < k + 1 by omega)]; omega
    ·rw [if_neg h3,if_pos h4,if_pos (show i < k + 1 by omega),if_neg (show ¬ j < k + 1 by omega)]; omega
    ·rw [if_neg h3,if_neg h4,if_neg (show ¬ i < k + 1 by omega),if_neg (show ¬ j < k + 1 by omega)]; omega
theorem lab_step {ms:List (Nat × Nat)} (h:InB ms) {L:List Int} (hL:Lab ms L) {m:Nat × Nat} (hm:m ∈ ms) (hne:L.getD m.1 0 ≠ L.getD (41 + m.2) 0) :
  Lab ms ((L.set m.1 (min (L.getD m.1 0) (L.getD (41 + m.2) 0))).set (41 + m.2) (min (L.getD m.1 0) (L.getD (41 + m.2) 0))) ∧ sumZ ((L.set m.1 (min (L.getD m.1 0) (L.getD (41 + m.2) 0))).set (41 + m.2) (min (L.getD m.1 0) (L.getD (41 + m.2) 0))) < sumZ L:=by
 obtain ⟨r1,r2⟩:=h m hm
 obtain ⟨a,a1,a2,a3⟩:=hL.some m.1 (by omega) (touch_row hm)
 obtain ⟨b,b1,b2,b3⟩:=hL.some (41 + m.2) (by omega) (touch_col hm)
 have hed:Conn ms (pt m.1) (pt (41 + m.2)):=by rw [pt_row r1,pt_col]; exact .edge hm
 have hl:=hL.len
 have hg:∀ x,((L.set m.1 (min (L.getD m.1 0) (L.getD (41 + m.2) 0))).set (41 + m.2) (min (L.getD m.1 0) (L.getD (41 + m.2) 0))).getD x 0 = if x = 41 + m.2 then min (L.getD m.1 0) (L.getD (41 + m.2) 0) else if x = m.1 then min (L.getD m.1 0) (L.getD (41 + m.2) 0) else L.getD x 0:=fun x => by
  rw [setD _ _ _ _ (by rw [List.length_set,hl]; omega),setD _ _ _ _ (by omega)]
 have hmin:∃ c:Nat,c < 140 ∧ min (L.getD m.1 0) (L.getD (41 + m.2) 0) = 1 + (c:Int) ∧ Conn ms (pt m.1) (pt c):=by
  rcases Int.le_total (L.getD m.1 0) (L.getD (41 + m.2) 0) with hle | hle
  ·exact ⟨a,a1,by rw [Int.min_eq_left hle,a2],a3⟩
  ·exact ⟨b,b1,by rw [Int.min_eq_right hle,b2],hed.trans b3⟩
 obtain ⟨c,c1,c2,c3⟩:=hmin
 refine ⟨⟨by simp [hl],fun x hx ht => ?_,fun x hx ht => ?_⟩,?_⟩
 ·rw [hg,if_neg (fun e => ht (by rw [e]; exact touch_col hm)),if_neg (fun e => ht (by rw [e]; exact touch_row hm))]
  exact hL.non x hx ht
 ·rw [hg]
  by_cases e1:x = 41 + m.2
  ·rw [if_pos e1]
   exact ⟨c,c1,c2,by rw [e1]; exact hed.symm.trans c3⟩
  ·rw [if_neg e1]
   by_cases e2:x = m.1
   ·rw [if_pos e2]
    exact ⟨c,c1,c2,by rw [e2]; exact c3⟩
   ·rw [if_neg e2]
    exact hL.some x hx ht
 ·unfold sumZ
  rw [show (fun i => ((L.set m.1 (min (L.getD m.1 0) (L.getD (41 + m.2) 0))).set (41 + m.2) (min (L.getD m.1 0) (L.getD (41 + m.2) 0))).getD i 0) = fun x => if x = 41 + m.2 then min (L.getD m.1 0) (L.getD (41 + m.2) 0) else if x = m.1 then min (L.getD m.1 0) (L.getD (41 + m.2) 0) else L.getD x 0 from funext hg]
  rw [sumK_set2 _ _ _ _ (by omega),if_pos (by omega),if_pos (by omega)]
  omega
theorem sumK_nn {f:Nat → Int}:∀ {k:Nat},(∀ i,i < k → 0 ≤ f i) → 0 ≤ sumK f k
 | 0,_ => Int.le_refl _
 | k + 1,h => by
  have h1:=sumK_nn (k:=k) fun i hi => h i (by omega)
  have h2:=h k (by omega)
  simp only [sumK]
  omega
theorem lab_nn {ms:List (Nat × Nat)} {L:List Int} (hL:Lab ms L) (x:Nat):0 ≤ L.getD x 0 ∧ L.getD x 0 ≤ 140:=by
 by_cases hx:x < 140
 ·by_cases ht:touch ms x
  ·obtain ⟨y,y1,y2,_⟩:=hL.some x hx ht; omega
  ·rw [hL.non x hx ht]; omega
 ·rw [List.getD_eq_getElem?_getD,List.getElem?_eq_none (by rw [hL.len]; omega)]; exact ⟨by decide,by decide⟩
theorem lab_sum {ms:List (Nat × Nat)} {L:List Int} (hL:Lab ms L):0 ≤ sumZ L:=sumK_nn fun i _ => (lab_nn hL i).1
end Go.Proofs.YtlmfdmlochpfcaaDoor

namespace Go.Proofs.YtlmfdmlochpfcaaDoor
open Go Go.V
theorem marks_mem {n:Nat} {g:List (List Int)} {p:Nat × Nat}:p ∈ marksG g n ↔ p.1 < n ∧ p.2 < wid g ∧ valAt g p = -1:=by
 unfold marksG
 rw [List.mem_flatMap]
 constructor
 ·rintro ⟨i,hi,hp⟩
  obtain ⟨h1,h2⟩:=lostL_mem.1 hp
  have h1:=posL_row_mem.1 h1
  exact ⟨by rw [h1.1]; exact List.mem_range.1 hi,h1.2,h2⟩
 ·rintro ⟨h1,h2,h3⟩
  exact ⟨p.1,List.mem_range.2 h1,lostL_mem.2 ⟨posL_row_mem.2 ⟨rfl,h2⟩,h3⟩⟩
theorem lostI_marks (g:List (List Int)) (w n:Nat) (hw:wid g = w):lostI g w n = marksG g n:=by
 subst hw; rfl
theorem lost_marks {n w:Nat} {g:List (List Int)} (hw:wid g = w) {p:Nat × Nat}:p ∈ marksG g n ↔ Lost n w g p:=by
 rw [marks_mem,hw]; exact Iff.rfl
theorem circ_free {ms:List (Nat × Nat)} {S:Nat × Nat → Prop} (hc:Clos S) (h1:∀ p,S p → p ∈ ms) (h2:∀ p,S p → p ∉ circ ms):∀ p,¬ S p:=by
 refine forest_clos (tree_fst ms ms.length) hc fun p hp => ?_
 rcases tree_or_circ ms ms.length p (by rw [List.take_length]; exact h1 p hp) with h | h
 ·exact h
 ·exact (h2 p hp h).elim
theorem circ_mem {ms:List (Nat × Nat)} {p:Nat × Nat} (h:p ∈ circ ms):p ∈ ms:=by
 have:=circ_sub ms ms.length p h
 rwa [List.take_length] at this
theorem told_free {n w:Nat} {g g':List (List Int)} (h:GOw n w g) {ms ws:List (Nat × Nat)} (hg:∀ q,Lost n w g' q → Lost n w g q ∧ q ∉ ws) (hm:∀ p,Lost n w (restG n w g) p → p ∈ ms) (hw:∀ p ∈ circ ms,p ∈ ws):∀ S,Clos S → (∀ q,S q → Lost n w g' q) → ∀ p,¬ S p:=by
 intro S hc hS
 have hS2:∀ q,S q → Lost n w g q ∧ q ∉ ws:=fun q hq => hg q (hS q hq)
 exact circ_free (ms:=ms) hc (fun p hp => hm p ((rest_core h p).2 ⟨S,hc,fun q hq => (hS2 q hq).1,hp⟩)) fun p hp hcp => (hS2 p hp).2 (hw p hcp)
end Go.Proofs.YtlmfdmlochpfcaaDoor

namespace Go.Proofs.YtlmfdmlochpfcaaDoor
open Go Go.V
end Go.Proofs.YtlmfdmlochpfcaaDoor

namespace Go.Proofs.YtlmfdmlochpfcaaDoor
open Go Go.V
def tot (g:List (List Int)) (l:List (Nat × Nat)):Int:=(l.map (valAt g)).sum
theorem sumL_tot {g:List (List Int)} {l:List (Nat × Nat)} (h:∀ m ∈ l,valAt g m ≠ -1):sumL g l = tot g l:=by
 unfold sumL tot
 congr 1
 exact List.map_congr_left fun m hm => by rw [if_neg (h m hm)]
theorem lack_tot {g:List (List Int)} {l:List (Nat × Nat)} (h:∀ m ∈ l,valAt g m ≠ -1):lackL g l = 0 ↔ tot g l % 94 = 0:=by
 unfold lackL
 rw [sumL_tot h]
 omega
theorem tot_congr {g G:List (List Int)} {l:List (Nat × Nat)} (h:∀ m ∈ l,valAt g m = valAt G m):tot g l = tot G l:=by
 unfold tot
 congr 1
 exact List.map_congr_left h
theorem tot_cons (g:List (List Int)) (m:Nat × Nat) (l:List (Nat × Nat)):tot g (m :: l) = valAt g m + tot g l:=by simp [tot]
theorem tot_not {g:List (List Int)} {p:Nat × Nat} {v:Int} {l:List (Nat × Nat)} (h:p ∉ l):tot (setG g p v) l = tot g l:=tot_congr fun m hm => by
 rw [valAt_set,if_neg]
 rintro ⟨rfl,_⟩
 exact h hm
theorem tot_set {n w:Nat} {g:List (List Int)} (hg:GOw n w g) {p:Nat × Nat} (h1:p.1 < n) (h2:p.2 < w) {v:Int}:∀ {l:List (Nat × Nat)},l.Nodup → p ∈ l → tot (setG g p v) l = tot g l - valAt g p + v
 | [],_,hm => by cases hm
 | m :: l,hn,hm => by
  rw [List.nodup_cons] at hn
  rw [tot_cons,tot_cons,valAt_set]
  by_cases he:p = m
  ·subst he
   rw [tot_not hn.1,if_pos ⟨rfl,by rw [hg.len]; exact h1,by rw [hg.row _ h1]; exact h2⟩]
   omega
  ·have hm2:p ∈ l:=by
    rcases List.mem_cons.1 hm with h | h
    ·exact (he h).elim
    ·exact h
   rw [tot_set hg h1 h2 hn.2 hm2,if_neg (fun h => he h.1)]
   omega
structure NN (n w:Nat) (g:List (List Int)):Prop where
 gow:GOw n w g
 nn:∀ i k,i < n → k < w → 0 ≤ valAt g (i,k)
theorem NN.set {n w:Nat} {g:List (List Int)} (h:NN n w g) (p:Nat × Nat) {v:Int} (hv:0 ≤ v ∧ v < 94):NN n w (setG g p v):=by
 refine ⟨setG_ok h.gow p (by omega),fun i k hi hk => ?_⟩
 rw [valAt_set]
 split
 ·exact hv.1
 ·exact h.nn i k hi hk
theorem NN.ne {n w:Nat} {g:List (List Int)} (h:NN n w g) {l:List (Nat × Nat)} (hl:l ∈ allP n w):∀ m ∈ l,valAt g m ≠ -1:=fun m hm => by
 obtain ⟨h1,h2⟩:=allP_in hl m hm
 have:=h.nn m.1 m.2 h1 h2
 have e:valAt g m = valAt g (m.1,m.2):=rfl
 omega
theorem NN.line {n w:Nat} {g:List (List Int)} (h:NN n w g) (h0:0 < n) (i:Nat) (b:Bool):lineP g i b = posL n w i b:=by
 rw [line_pos,h.gow.len]
 have:wid g = w:=by unfold wid; exact h.gow.row 0 h0
 rw [this]
theorem tot_lack {n w:Nat} {g:List (List Int)} (h:NN n w g) {l:List (Nat × Nat)} (hl:l ∈ allP n w) {p:Nat × Nat} (hp:p ∈ l) (hz:valAt g p = 0):tot (setG g p (lackL g l)) l % 94 = 0:=by
 obtain ⟨h1,h2⟩:=allP_in hl p hp
 rw [tot_set h.gow h1 h2 (allP_nodup hl) hp,hz]
 unfold lackL
 rw [sumL_tot (h.ne hl)]
 omega
def rowsF (w k:Nat) (g:List (List Int)):List (List Int):=(List.range k).foldl (fun g i => setG g (i,w) (lackL g (lineP g i true))) g
theorem rowsF_succ (w k:Nat) (g:List (List Int)):rowsF w (k + 1) g = setG (rowsF w k g) (k,w) (lackL (rowsF w k g) (lineP (rowsF w k g) k true)):=by
 unfold rowsF
 rw [List.range_succ,List.foldl_append]; rfl
def colsF (n k:Nat) (g:List (List Int)):List (List Int):=(List.range k).foldl (fun g c => setG g (n,c) (lackL g (lineP g c false))) g
theorem colsF_succ (n k:Nat) (g:List (List Int)):colsF n (k + 1) g = setG (colsF n k g) (n,k) (lackL (colsF n k g) (lineP (colsF n k g) k false)):=by
 unfold colsF
 rw [List.range_succ,List.foldl_append]; rfl
theorem rowsF_inv {N w:Nat} {g:List (List Int)} (h:NN N (w + 1) g) (hz:∀ i,i < N → valAt g (i,w) = 0) (h0:0 < N):∀ k,k ≤ N → NN N (w + 1) (rowsF w k g) ∧ (∀ i,i < k → tot (rowsF w k g) (posL N (w + 1) i true) % 94 = 0) ∧ ∀ i c,(k ≤ i ∨ c ≠ w) → valAt (rowsF w k g) (i,c) = valAt g (i,c)
 | 0,_ => ⟨h,fun i hi => by omega,fun _ _ _ => rfl⟩
 | k + 1,hk => by
  obtain ⟨h1,h2,h3⟩:=rowsF_inv h hz h0 k (by omega)
  rw [rowsF_succ,h1.line h0]
  have hl:posL N (w + 1) k true ∈ allP N (w + 1):=allP_mem.2 (.inl ⟨k,by omega,rfl⟩)
  refine ⟨h1.set _ (lack_rng _ _),fun i hi => ?_,fun i c hic => ?_⟩
  ·by_cases hik:i = k
   ·subst hik
    exact tot_lack h1 hl (posL_row_mem.2 ⟨rfl,Nat.lt_succ_self w⟩) (by rw [h3 _ _ (.inl (Nat.le_refl _))]; exact hz _ (by omega))
   ·rw [tot_not]
    ·exact h2 i (by omega)
    ·intro hm
     have:=(posL_row_mem.1 hm).1
     simp only at this
     omega
  ·rw [valAt_set,if_neg,h3 i c (by omega)]
   rintro ⟨he,_⟩
   obtain ⟨rfl,rfl⟩:=Prod.mk.inj he
   omega
theorem colsF_inv {n W:Nat} {g:List (List Int)} (h:NN (n + 1) W g) (hz:∀ c,c < W → valAt g (n,c) = 0):∀ k,k ≤ W → NN (n + 1) W (colsF n k g) ∧ (∀ c,c < k → tot (colsF n k g) (posL (n + 1) W c false) % 94 = 0) ∧ ∀ i c,(i ≠ n ∨ k ≤ c) → valAt (colsF n k g) (i,c) = valAt g (i,c)
 | 0,_ => ⟨h,fun i hi => by omega,fun _ _ _ => rfl⟩
 | k + 1,hk => by
  obtain ⟨h1,h2,h3⟩:=colsF_inv h hz k (by omega)
  rw [colsF_succ,h1.line (Nat.succ_pos n)]
  have hl:posL (n + 1) W k false ∈ allP (n + 1) W:=allP_mem.2 (.inr ⟨k,by omega,rfl⟩)
  refine ⟨h1.set _ (lack_rng _ _),fun c hc => ?_,fun i c hic => ?_⟩
  ·by_cases hik:c = k
   ·subst hik
    exact tot_lack h1 hl (posL_col_mem.2 ⟨rfl,Nat.lt_succ_self n⟩) (by rw [h3 _ _ (.inr (Nat.le_refl _))]; exact hz _ (by omega))
   ·rw [tot_not]
    ·exact h2 c (by omega)
    ·intro hm
     have:=(posL_col_mem.1 hm).1
     simp only at this
     omega
  ·rw [valAt_set,if_neg,h3 i c (by omega)]
   rintro ⟨he,_⟩
   obtain ⟨rfl,rfl⟩:=Prod.mk.inj he
   omega
def sumR (f:Nat → Int):Nat → Int
 | 0 => 0
 | k + 1 => sumR f k + f k
theorem sumR_zero (k:Nat):sumR (fun _ => 0) k = 0:=by
 induction k with
 | zero => rfl
 | succ k ih => simp [sumR,ih]
theorem sumR_add (f h:Nat → Int) (k:Nat):sumR (fun c => f c + h c) k = sumR f k + sumR h k:=by
 induction k with
 | zero => rfl
 | succ k ih => simp only [sumR,ih]; omega
theorem sumR_swap (f:Nat → Nat → Int) (w:Nat):∀ n,sumR (fun i => sumR (f i) w) n = sumR (fun c => sumR (fun i => f i c) n) w
 | 0 => by simp only [sumR]; exact (sumR_zero w).symm
 | n + 1 => by
  simp only [sumR]
  rw [sumR_swap f w n,← sumR_add]
theorem sumR_mod {f:Nat → Int}:∀ {k:Nat},(∀ i,i < k → f i % 94 = 0) → sumR f k % 94 = 0
 | 0,_ => rfl
 | k + 1,h => by
  have h1:=sumR_mod (k:=k) fun i hi => h i (by omega)
  have h2:=h k (by omega)
  simp only [sumR]
  omega
theorem sumR_range (f:Nat → Int) (k:Nat):((List.range k).map f).sum = sumR f k:=by
 induction k with
 | zero => rfl
 | succ k ih => rw [List.range_succ,List.map_append,List.sum_append,ih]; simp [sumR]
theorem tot_row (g:List (List Int)) (n w i:Nat):tot g (posL n w i true) = sumR (fun c => valAt g (i,c)) w:=by
 unfold tot posL
 rw [if_pos rfl,List.map_map,← sumR_range]; rfl
theorem tot_col (g:List (List Int)) (n w c:Nat):tot g (posL n w c false) = sumR (fun i => valAt g (i,c)) n:=by
 unfold tot posL
 rw [if_neg (by decide),List.map_map,← sumR_range]; rfl
theorem fill_right {n w:Nat} {g:List (List Int)} (h:NN (n + 1) (w + 1) g) (hz:∀ i,i < n + 1 → valAt g (i,w) = 0) (hl:∀ c,c < w + 1 → valAt g (n,c) = 0) :
  Right (n + 1) (w + 1) (colsF n (w + 1) (rowsF w n g)) ∧ ∀ i c,i < n → c < w → valAt (colsF n (w + 1) (rowsF w n g)) (i,c) = valAt g (i,c):=by
 obtain ⟨a1,a2,a3⟩:=rowsF_inv h hz (Nat.succ_pos n) n (by omega)
 obtain ⟨b1,b2,b3⟩:=colsF_inv a1 (fun c hc => by rw [a3 n c (.inl (Nat.le_refl _))]; exact hl c hc) (w + 1) (Nat.le_refl _)
 refine ⟨⟨b1.gow,fun i k hi hk => by have:=b1.nn i k hi hk; omega,fun l hm => ?_⟩,fun i c hi hc => by rw [b3 i c (.inl (by omega)),a3 i c (.inr (by omega))]⟩
 rw [lack_tot (b1.ne hm)]
 have hrow:∀ i,i < n → tot (colsF n (w + 1) (rowsF w n g)) (posL (n + 1) (w + 1) i true) % 94 = 0:=fun i hi => by
  rw [← a2 i hi]
  congr 1
  exact tot_congr fun m hm => by
   have:=(posL_row_mem.1 hm).1
   have e:=b3 m.1 m.2 (.inl (by omega))
   exact e
 rcases allP_mem.1 hm with ⟨i,hi,rfl⟩ | ⟨c,hc,rfl⟩
 ·by_cases hin:i = n
  ·subst hin
   have hsw:=sumR_swap (fun i' c => valAt (colsF i (w + 1) (rowsF w i g)) (i',c)) (w + 1) (i + 1)
   have hr:=sumR_mod (f:=fun c => sumR (fun i' => valAt (colsF i (w + 1) (rowsF w i g)) (i',c)) (i + 1)) (k:=w + 1) fun c hc => by
    have:=b2 c hc
    rwa [tot_col] at this
   rw [← hsw] at hr
   have hr2:=sumR_mod (f:=fun i' => sumR (fun c => valAt (colsF i (w + 1) (rowsF w i g)) (i',c)) (w + 1)) (k:=i) fun i' hi' => by
    have:=hrow i' hi'
    rwa [tot_row] at this
   rw [tot_row]
   simp only [sumR] at hr
   simp only [sumR] at hr2 ⊢
   omega
  ·exact hrow i (by omega)
 ·exact b2 c hc
def rowZ (w:Nat) (s:List UInt8):List Int:=(rowB w s).map vq ++ [0]
def grid0 (ts:List (List UInt8)):List (List Int):=ts.map (rowZ (maxW ts)) ++ [List.replicate (maxW ts + 1) 0]
def gridR (ts:List (List UInt8)):List (List Int):=colsF ts.length (maxW ts + 1) (rowsF (maxW ts) ts.length (grid0 ts))
theorem getD_snoc {α β:Type} (f:α → β) (l:List α) (b d:β) (i:Nat):(l.map f ++ [b]).getD i d = if h:i < l.length then f l[i] else if i = l.length then b else d:=by
 rw [List.getD_eq_getElem?_getD]
 by_cases h:i < l.length
 ·rw [dif_pos h,List.getElem?_append_left (by simpa using h),List.getElem?_map,List.getElem?_eq_getElem h]; rfl
 ·rw [dif_neg h,List.getElem?_append_right (by simp; omega)]
  by_cases h2:i = l.length
  ·rw [if_pos h2,h2]; simp
  ·rw [if_neg h2,List.getElem?_eq_none (by simp; omega)]; rfl
theorem rowB_len {w:Nat} {s:List UInt8} (h:s.length + 1 ≤ w):(rowB w s).length = w:=by simp [rowB]; omega
theorem valB_vq {b:UInt8} (h:0 ≤ valB b):vq b = valB b:=by
 unfold vq
 split
 ·rename_i h63
  have:b = 63:=UInt8.toNat_inj.1 h63
  subst this
  exact absurd h (by decide)
 ·rfl
theorem rowB_nn {w:Nat} {s:List UInt8} (h:isTx s = true):∀ b ∈ rowB w s,0 ≤ vq b ∧ vq b < 94:=by
 intro b hb
 have hok:BOk b:=rowW_ok (w:=w) h b (by unfold rowW; simp [hb])
 refine ⟨?_,(vq_rng hok).2⟩
 unfold rowB at hb
 simp only [List.mem_append,List.mem_cons,List.mem_replicate] at hb
 rcases hb with hb | rfl | ⟨_,rfl⟩
 ·unfold isTx at h
  simp only [Bool.and_eq_true] at h
  have:=List.all_eq_true.1 h.1 b hb
  simp only [decide_eq_true_eq] at this
  rw [valB_vq this]; exact this
 ·decide
 ·decide
theorem grid0_row {ts:List (List UInt8)} {i:Nat}:(grid0 ts).getD i [] = if h:i < ts.length then rowZ (maxW ts) ts[i] else if i = ts.length then List.replicate (maxW ts + 1) 0 else []:=getD_snoc _ _ _ _ _
theorem rowsV_row {ts:List (List UInt8)} {i:Nat}:(valsG (rowsW ts)).getD i [] = if h:i < ts.length then (rowB (maxW ts) ts[i]).map vq ++ [-1] else if i = ts.length then List.replicate (maxW ts + 1) (-1) else []:=by
 have e:valsG (rowsW ts) = ts.map (fun s => (rowB (maxW ts) s).map vq ++ [-1]) ++ [List.replicate (maxW ts + 1) (-1)]:=by
  unfold valsG rowsW
  rw [List.map_append,List.map_map]
  congr 1
  ·refine List.map_congr_left fun s _ => ?_
   simp only [Function.comp,rowW,List.map_append,List.map_cons,List.map_nil]
   rfl
  ·simp only [List.map_cons,List.map_nil,List.map_replicate]
   rfl
 rw [e]
 exact getD_snoc _ _ _ _ _
theorem tail_get (l:List Int) (x:Int) (k:Nat):(l ++ [x]).getD k 0 = if k < l.length then l.getD k 0 else if k = l.length then x else 0:=by
 rw [List.getD_eq_getElem?_getD]
 by_cases h:k < l.length
 ·rw [if_pos h,List.getElem?_append_left h,List.getD_eq_getElem?_getD]
 ·rw [if_neg h,List.getElem?_append_right (by omega)]
  by_cases h2:k = l.length
  ·rw [if_pos h2,h2]; simp
  ·rw [if_neg h2,List.getElem?_eq_none (by simp; omega)]; rfl
theorem rep_get (n k:Nat) (x:Int) (h:k < n):(List.replicate n x).getD k 0 = x:=by
 rw [List.getD_eq_getElem?_getD,List.getElem?_replicate,if_pos h]; rfl
theorem grid0_nn {ts:List (List UInt8)} (h:ts.all isTx = true):NN (ts.length + 1) (maxW ts + 1) (grid0 ts):=by
 have hw:=(maxW_ge ts).2
 have hv:∀ i k,i < ts.length + 1 → k < maxW ts + 1 → 0 ≤ valAt (grid0 ts) (i,k) ∧ valAt (grid0 ts) (i,k) < 94:=by
  intro i k hi hk
  unfold valAt
  simp only [grid0_row]
  by_cases hin:i < ts.length
  ·rw [dif_pos hin]
   unfold rowZ
   rw [tail_get]
   have hl:=rowB_len (hw _ (List.getElem_mem hin))
   by_cases hkw:k < maxW ts
   ·rw [if_pos (by rw [List.length_map,hl]; exact hkw),map_getD (by rw [hl]; exact hkw)]
    exact rowB_nn (List.all_eq_true.1 h _ (List.getElem_mem hin)) _ (List.getElem_mem _)
   ·rw [if_neg (by rw [List.length_map,hl]; exact hkw)]
    split <;> omega
  ·rw [dif_neg hin,if_pos (by omega),rep_get _ _ _ hk]; omega
 refine ⟨⟨by simp [grid0],fun i hi => ?_,fun i k hi hk => by have:=hv i k hi hk; omega⟩,fun i k hi hk => (hv i k hi hk).1⟩
 rw [grid0_row]
 by_cases hin:i < ts.length
 ·rw [dif_pos hin]
  unfold rowZ
  rw [List.length_append,List.length_map,rowB_len (hw _ (List.getElem_mem hin))]; rfl
 ·rw [dif_neg hin,if_pos (by omega)]; simp
theorem grid0_zero {ts:List (List UInt8)}:(∀ i,i < ts.length + 1 → valAt (grid0 ts) (i,maxW ts) = 0) ∧ ∀ c,c < maxW ts + 1 → valAt (grid0 ts) (ts.length,c) = 0:=by
 have hw:=(maxW_ge ts).2
 constructor
 ·intro i hi
  unfold valAt
  simp only [grid0_row]
  by_cases hin:i < ts.length
  ·rw [dif_pos hin]
   unfold rowZ
   rw [tail_get,List.length_map,rowB_len (hw _ (List.getElem_mem hin)),if_neg (by omega),if_pos rfl]
  ·rw [dif_neg hin,if_pos (by omega),rep_get _ _ _ (by omega)]
 ·intro c hc
  unfold valAt
  simp only [grid0_row]
  rw [dif_neg (by omega),if_pos (by simp),rep_get _ _ _ hc]
theorem rowsV_at {ts:List (List UInt8)} {i c:Nat} (hi:i < ts.length + 1) (hc:c < maxW ts + 1):valAt (valsG (rowsW ts)) (i,c) = if i < ts.length ∧ c < maxW ts then valAt (grid0 ts) (i,c) else -1:=by
 have hw:=(maxW_ge ts).2
 unfold valAt
 simp only [grid0_row,rowsV_row]
 by_cases hin:i < ts.length
 ·rw [dif_pos hin,dif_pos hin]
  unfold rowZ
  rw [tail_get,tail_get,List.length_map,rowB_len (hw _ (List.getElem_mem hin))]
  by_cases hcw:c < maxW ts
  ·rw [if_pos hcw,if_pos hcw,if_pos ⟨hin,hcw⟩]
  ·rw [if_neg hcw,if_pos (by omega),if_neg (fun h => hcw h.2)]
 ·rw [dif_neg hin,dif_neg hin,if_pos (by omega),if_neg (fun h => hin h.1),rep_get _ _ _ hc]
theorem gridR_right {ts:List (List UInt8)} (h:ts.all isTx = true):Right (ts.length + 1) (maxW ts + 1) (gridR ts) ∧ ∀ i c,i < ts.length → c < maxW ts → valAt (gridR ts) (i,c) = valAt (grid0 ts) (i,c):=by
 obtain ⟨z1,z2⟩:=grid0_zero (ts:=ts)
 exact fill_right (grid0_nn h) z1 z2
theorem rowsV_rest {ts:List (List UInt8)} (h:ts.all isTx = true) (h40:¬ 40 < ts.length):restG (ts.length + 1) (maxW ts + 1) (valsG (rowsW ts)) = gridR ts:=by
 obtain ⟨hr,hv⟩:=gridR_right h
 have hgo:=vals_gow (rowsW_sok h h40)
 rw [rowsW_len] at hgo
 refine rest_right hr ⟨hgo,fun i c hi hc => ?_⟩ fun S hS hL => clos_cross hS ts.length (maxW ts) fun p hp => ?_
 ·rw [rowsV_at hi hc]
  split
  ·rename_i hh
   exact .inr (hv i c hh.1 hh.2).symm
  ·exact .inl rfl
 ·obtain ⟨h1,h2,h3⟩:=hL p hp
  have e:valAt (valsG (rowsW ts)) (p.1,p.2) = -1:=h3
  rw [rowsV_at h1 h2] at e
  by_cases hh:p.1 < ts.length ∧ p.2 < maxW ts
  ·exfalso
   rw [if_pos hh] at e
   have:=(grid0_nn h).nn p.1 p.2 h1 h2
   omega
  ·omega
def writeR (ts:List (List UInt8)):List UInt8 × Int :=
 if 40 < ts.length then ([],2) else if ts.all isTx then (textG (bytesG (gridR ts)),0) else ([],1)
theorem write_eq (ts:List (List UInt8)):writeG ts = writeR ts:=by
 unfold writeG writeR
 split
 ·rfl
 ·rename_i h40
  split
  ·rename_i h
   rw [rowsV_rest h h40]
  ·rfl
end Go.Proofs.YtlmfdmlochpfcaaDoor

namespace Go.Proofs.YtlmfdmlochpfcaaDoor
open Go Go.V
def byAt (g:List (List UInt8)) (p:Nat × Nat):UInt8:=(g.getD p.1 []).getD p.2 0
def upRow (f:Nat → UInt8) (i:Nat) (ms:List (Int × Int)) (row:List UInt8):List UInt8:=ms.foldl (fun r m => if m.1 = (i:Int) ∧ 0 ≤ m.2 ∧ m.2 < (r.length:Int) then r.set m.2.toNat (f m.2.toNat) else r) row
theorem upRow_snoc (f:Nat → UInt8) (i:Nat) (ms:List (Int × Int)) (m:Int × Int) (row:List UInt8):upRow f i (ms ++ [m]) row = if m.1 = (i:Int) ∧ 0 ≤ m.2 ∧ m.2 < ((upRow f i ms row).length:Int) then (upRow f i ms row).set m.2.toNat (f m.2.toNat) else upRow f i ms row:=by
 unfold upRow; rw [List.foldl_append]; rfl
theorem upRow_len (f:Nat → UInt8) (i:Nat) (ms:List (Int × Int)):∀ (row:List UInt8),(upRow f i ms row).length = row.length:=by
 induction ms with
 | nil => intro row; rfl
 | cons m ms ih =>
  intro row
  show (upRow f i ms (if m.1 = (i:Int) ∧ 0 ≤ m.2 ∧ m.2 < (row.length:Int) then row.set m.2.toNat (f m.2.toNat) else row)).length = _
  rw [ih]
  split
  ·rw [List.length_set]
  ·rfl
theorem setB (l:List UInt8) (i:Nat) (v:UInt8) (k:Nat) (hi:i < l.length):(l.set i v).getD k 0 = if k = i then v else l.getD k 0:=by
 rw [List.getD_eq_getElem?_getD,List.getElem?_set]
 by_cases h:i = k
 ·subst h; rw [if_pos rfl,if_pos hi,if_pos rfl]; rfl
 ·rw [if_neg h,if_neg (fun e => h e.symm),List.getD_eq_getElem?_getD]
theorem upRow_at (f:Nat → UInt8) (i:Nat) (ms:List (Int × Int)) {k:Nat}:∀ (row:List UInt8),k < row.length → (((i:Int),(k:Int)) ∈ ms → (upRow f i ms row).getD k 0 = f k) ∧ (((i:Int),(k:Int)) ∉ ms → (upRow f i ms row).getD k 0 = row.getD k 0):=by
 induction ms with
 | nil => intro row hk; exact ⟨fun h => (by cases h),fun _ => rfl⟩
 | cons m ms ih =>
  intro row hk
  have e:upRow f i (m :: ms) row = upRow f i ms (if m.1 = (i:Int) ∧ 0 ≤ m.2 ∧ m.2 < (row.length:Int) then row.set m.2.toNat (f m.2.toNat) else row):=rfl
  rw [e]
  have hl:k < (if m.1 = (i:Int) ∧ 0 ≤ m.2 ∧ m.2 < (row.length:Int) then row.set m.2.toNat (f m.2.toNat) else row).length:=by
   split
   ·rw [List.length_set]; exact hk
   ·exact hk
  obtain ⟨i1,i2⟩:=ih _ hl
  constructor
  ·intro hm
   by_cases hw:((i:Int),(k:Int)) ∈ ms
   ·exact i1 hw
   ·have hme:m = ((i:Int),(k:Int)):=((List.mem_cons.1 hm).resolve_right hw).symm
    rw [i2 hw,hme,if_pos ⟨rfl,Int.natCast_nonneg _,by simp only; omega⟩]
    rw [setB _ _ _ _ (by simp only; omega)]
    simp
  ·intro hm
   have hw:((i:Int),(k:Int)) ∉ ms:=fun h => hm (List.mem_cons_of_mem _ h)
   rw [i2 hw]
   split
   ·rename_i hc
    obtain ⟨c1,c2,c3⟩:=hc
    rw [setB _ _ _ _ (by omega),if_neg]
    intro hk2
    refine hm (List.mem_cons.2 (.inl (Prod.ext c1.symm ?_)))
    simp only; omega
   ·rfl
def upR (f:Nat → Nat → UInt8) (rows:List (List UInt8)) (ms:List (Int × Int)):List (List UInt8):=(List.range rows.length).map fun i => upRow (f i) i ms (rows.getD i [])
theorem upR_len (f:Nat → Nat → UInt8) (rows:List (List UInt8)) (ms:List (Int × Int)):(upR f rows ms).length = rows.length:=by simp [upR]
theorem upR_get {f:Nat → Nat → UInt8} {rows:List (List UInt8)} {ms:List (Int × Int)} {i:Nat} (h:i < rows.length):(upR f rows ms).getD i [] = upRow (f i) i ms (rows.getD i []):=by
 unfold upR
 rw [List.getD_eq_getElem?_getD,List.getElem?_map,List.getElem?_range h]; rfl
theorem getD_mem {α:Type} {l:List α} {i:Nat} (d:α) (h:i < l.length):l.getD i d ∈ l:=by
 rw [List.getD_eq_getElem?_getD,List.getElem?_eq_getElem h]; exact List.getElem_mem h
theorem sok_of {rows:List (List UInt8)} {n w:Nat} (hn:rows.length = n) (h0:0 < n) (h41:n ≤ 41) (h2:2 ≤ w) (h32:w ≤ 32) (hr:∀ i,i < n → (rows.getD i []).length = w) (hb:∀ i k,i < n → k < w → BOk (byAt rows (i,k))):SOk rows w:=by
 subst hn
 have hg:∀ i (hi:i < rows.length),rows.getD i [] = rows[i]:=fun i hi => by rw [List.getD_eq_getElem?_getD,List.getElem?_eq_getElem hi]; rfl
 refine ⟨h0,h41,h2,h32,fun l hl => ?_,fun l hl b hb' => ?_⟩
 ·obtain ⟨i,hi,rfl⟩:=List.getElem_of_mem hl
  rw [← hg i hi]; exact hr i hi
 ·obtain ⟨i,hi,rfl⟩:=List.getElem_of_mem hl
  obtain ⟨k,hk,rfl⟩:=List.getElem_of_mem hb'
  have hw:=hr i hi
  rw [hg i hi] at hw
  have:=hb i k hi (by omega)
  unfold byAt at this
  simp only [hg i hi] at this
  rwa [List.getD_eq_getElem?_getD,List.getElem?_eq_getElem hk] at this
theorem SOk.at {rows:List (List UInt8)} {w:Nat} (h:SOk rows w) {i k:Nat} (hi:i < rows.length) (hk:k < w):(rows.getD i []).length = w ∧ BOk (byAt rows (i,k)) ∧ valAt (valsG rows) (i,k) = vq (byAt rows (i,k)):=by
 have hg:rows.getD i [] = rows[i]:=by rw [List.getD_eq_getElem?_getD,List.getElem?_eq_getElem hi]; rfl
 have hl:=h.row _ (List.getElem_mem hi)
 have hk2:k < (rows[i]).length:=by omega
 refine ⟨by rw [hg,hl],?_,?_⟩
 ·unfold byAt
  simp only [hg]
  rw [List.getD_eq_getElem?_getD,List.getElem?_eq_getElem hk2]
  exact h.byte _ (List.getElem_mem hi) _ (List.getElem_mem hk2)
 ·unfold byAt valAt valsG
  simp only
  rw [map_getD hi,map_getD hk2,hg,List.getD_eq_getElem?_getD,List.getElem?_eq_getElem hk2]; rfl
theorem upR_at {f:Nat → Nat → UInt8} {rows:List (List UInt8)} {ms:List (Int × Int)} {w i k:Nat} (h:SOk rows w) (hi:i < rows.length) (hk:k < w):(((i:Int),(k:Int)) ∈ ms → byAt (upR f rows ms) (i,k) = f i k) ∧ (((i:Int),(k:Int)) ∉ ms → byAt (upR f rows ms) (i,k) = byAt rows (i,k)):=by
 unfold byAt
 simp only
 rw [upR_get hi]
 exact upRow_at (f i) i ms _ (by rw [(h.at hi hk).1]; exact hk)
theorem upR_sok {f:Nat → Nat → UInt8} {rows:List (List UInt8)} {ms:List (Int × Int)} {w:Nat} (h:SOk rows w) (hf:∀ i k,i < rows.length → k < w → ((i:Int),(k:Int)) ∈ ms → BOk (f i k)):SOk (upR f rows ms) w:=by
 refine sok_of (upR_len _ _ _) h.pos h.len h.w2 h.w32 (fun i hi => ?_) fun i k hi hk => ?_
 ·rw [upR_get hi,upRow_len]
  have:=h.w2
  exact (h.at (k:=0) hi (by omega)).1
 ·obtain ⟨a1,a2⟩:=upR_at (f:=f) (ms:=ms) h hi hk
  by_cases hm:((i:Int),(k:Int)) ∈ ms
  ·rw [a1 hm]; exact hf i k hi hk hm
  ·rw [a2 hm]; exact (h.at hi hk).2.1
theorem upR_val {f:Nat → Nat → UInt8} {rows:List (List UInt8)} {ms:List (Int × Int)} {w i k:Nat} (h:SOk rows w) (hf:∀ i k,i < rows.length → k < w → ((i:Int),(k:Int)) ∈ ms → BOk (f i k)) (hi:i < rows.length) (hk:k < w):(((i:Int),(k:Int)) ∈ ms → valAt (valsG (upR f rows ms)) (i,k) = vq (f i k)) ∧ (((i:Int),(k:Int)) ∉ ms → valAt (valsG (upR f rows ms)) (i,k) = valAt (valsG rows) (i,k)):=by
 obtain ⟨a1,a2⟩:=upR_at (f:=f) (ms:=ms) h hi hk
 have h2:=(upR_sok h hf).at (i:=i) (k:=k) (by rw [upR_len]; exact hi) hk
 constructor
 ·intro hm; rw [h2.2.2,a1 hm]
 ·intro hm; rw [h2.2.2,a2 hm,(h.at hi hk).2.2]
theorem upR_nil (f:Nat → Nat → UInt8) (rows:List (List UInt8)):upR f rows [] = rows:=by
 unfold upR
 apply List.ext_getElem
 ·simp
 ·intro i h1 h2
  rw [List.getElem_map,List.getElem_range]
  show rows.getD i [] = _
  rw [List.getD_eq_getElem?_getD,List.getElem?_eq_getElem h2]; rfl
section
variable {rows:List (List UInt8)} {w:Nat}
theorem sheet_rest (h:SOk rows w):sheetG rows = restG rows.length w (valsG rows):=by unfold sheetG; rw [h.hd]
theorem left_of (h:SOk rows w):leftG (textG rows) = (marksG (sheetG rows) rows.length,0):=by
 unfold leftG
 rw [parse_text h]
 simp only
 rw [h.hd,lostI_marks]
 have:=(sheet_gow h h.hd).gok h.pos h.len h.w32
 exact this.2.1
theorem sheet_wid (h:SOk rows w):wid (sheetG rows) = w:=((sheet_gow h h.hd).gok h.pos h.len h.w32).2.1
theorem whole_right (h:SOk rows w) {G:List (List Int)} (hG:Right rows.length w G) (hr:restG rows.length w (valsG rows) = G):wholeG (textG rows) = (G,0):=by
 unfold wholeG
 rw [parse_text h]
 simp only
 rw [h.hd,sheet_rest h,hr,if_pos (noLost_iff.2 hG.full),if_pos]
 unfold noLack
 rw [List.all_eq_true]
 intro l hl
 rw [hG.sum l hl]; rfl
theorem mend_right (h:SOk rows w) {G:List (List Int)} (hG:Right rows.length w G) (hr:restG rows.length w (valsG rows) = G):mendG (textG rows) = (textG (bytesG G),0):=by
 unfold mendG
 rw [whole_right h hG hr,if_pos rfl]
theorem mend_lost (h:SOk rows w) {p:Nat × Nat} (hp:Lost rows.length w (restG rows.length w (valsG rows)) p):mendG (textG rows) = ([],141):=by
 have:wholeG (textG rows) = ([],141):=by
  unfold wholeG
  rw [parse_text h]
  simp only
  rw [h.hd,sheet_rest h,if_neg]
  intro hc
  exact noLost_iff.1 hc p.1 p.2 hp.1 hp.2.1 hp.2.2
 unfold mendG
 rw [this,if_neg (by simp)]
end
def bookB (ts:List (List UInt8)):List (List UInt8):=bytesG (gridR ts)
structure BookOk (ts:List (List UInt8)):Prop where
 tx:ts.all isTx = true
 le:¬ 40 < ts.length
theorem vals_bytes {n w:Nat} {G:List (List Int)} (h:Right n w G):valsG (bytesG G) = G:=by
 unfold valsG bytesG
 rw [List.map_map]
 conv => rhs; rw [← List.map_id G]
 refine List.map_congr_left fun l hl => ?_
 simp only [Function.comp,List.map_map,id]
 conv => rhs; rw [← List.map_id l]
 refine List.map_congr_left fun v hv => ?_
 obtain ⟨i,hi,rfl⟩:=List.getElem_of_mem hl
 obtain ⟨k,hk,rfl⟩:=List.getElem_of_mem hv
 have hi2:i < n:=by rw [← h.gow.len]; exact hi
 have hg:G.getD i [] = G[i]:=by rw [List.getD_eq_getElem?_getD,List.getElem?_eq_getElem hi]; rfl
 have hw:=h.gow.row i hi2
 rw [hg] at hw
 have h1:=h.gow.val i k hi2 (by omega)
 have h2:=h.full i k hi2 (by omega)
 have e:valAt G (i,k) = (G[i])[k]:=by
  unfold valAt
  simp only [hg]
  rw [List.getD_eq_getElem?_getD,List.getElem?_eq_getElem hk]; rfl
 rw [e] at h1 h2
 exact (sgn_ok ⟨by omega,h1.2⟩).2
section
variable {ts:List (List UInt8)}
theorem BookOk.right (h:BookOk ts):Right (ts.length + 1) (maxW ts + 1) (gridR ts):=(gridR_right h.tx).1
theorem bookB_len (h:BookOk ts):(bookB ts).length = ts.length + 1:=by
 unfold bookB
 rw [bytesG_len,h.right.gow.len]
theorem BookOk.wid (h:BookOk ts):1 ≤ maxW ts ∧ maxW ts ≤ 31:=by
 refine ⟨(maxW_ge ts).1,maxW_le (by omega) fun s hs => ?_⟩
 have:=isTx_len (List.all_eq_true.1 h.tx s hs)
 omega
theorem BookOk.vals (h:BookOk ts):valsG (bookB ts) = gridR ts:=vals_bytes h.right
theorem bookB_at (h:BookOk ts) {i k:Nat} (hi:i < ts.length + 1) (hk:k < maxW ts + 1):byAt (bookB ts) (i,k) = sgn (valAt (gridR ts) (i,k)):=by
 have hg:=h.right.gow
 have hi2:i < (gridR ts).length:=by rw [hg.len]; exact hi
 have hr:(gridR ts).getD i [] = (gridR ts)[i]:=by rw [List.getD_eq_getElem?_getD,List.getElem?_eq_getElem hi2]; rfl
 have hw:=hg.row i hi
 rw [hr] at hw
 have hk2:k < ((gridR ts)[i]).length:=by omega
 unfold byAt bookB bytesG valAt
 simp only
 rw [map_getD hi2,map_getD hk2,hr,List.getD_eq_getElem?_getD,List.getElem?_eq_getElem hk2]; rfl
theorem BookOk.sok (h:BookOk ts):SOk (bookB ts) (maxW ts + 1):=by
 have hw:=h.wid
 have hle:=h.le
 refine sok_of (bookB_len h) (by omega) (by omega) (by omega) (by omega) (fun i hi => ?_) fun i k hi hk => ?_
 ·have:=h.right.gow.bytes _ (getD_mem (l:=bookB ts) [] (by rw [bookB_len h]; exact hi))
  exact this
 ·rw [bookB_at h hi hk]
  have h1:=h.right.gow.val i k hi hk
  have h2:=h.right.full i k hi hk
  exact (sgn_ok ⟨by omega,h1.2⟩).1
theorem write_book (h:BookOk ts):writeG ts = (textG (bookB ts),0):=by
 rw [write_eq]
 unfold writeR
 rw [if_neg h.le,if_pos h.tx]; rfl
theorem book_row (h:BookOk ts) {i:Nat} (hi:i < ts.length):∃ c,(bookB ts).getD i [] = rowB (maxW ts) ts[i] ++ [c]:=by
 have hs:=h.sok
 have hbl:=bookB_len h
 have hw:=h.wid
 have hrl:=(hs.at (i:=i) (k:=0) (by omega) (by omega)).1
 have htx:=List.all_eq_true.1 h.tx _ (List.getElem_mem hi)
 have hsl:=(maxW_ge ts).2 _ (List.getElem_mem hi)
 have hbl2:=rowB_len hsl
 refine ⟨((bookB ts).getD i []).getD (maxW ts) 0,?_⟩
 apply List.ext_getElem
 ·rw [hrl,List.length_append,hbl2]; rfl
 ·intro k h1 h2
  rw [hrl] at h1
  by_cases hk:k < maxW ts
  ·rw [List.getElem_append_left (by omega)]
   have e:=bookB_at h (i:=i) (k:=k) (by omega) h1
   have e2:=(gridR_right h.tx).2 i k hi hk
   rw [e2] at e
   unfold byAt at e
   simp only at e
   rw [List.getD_eq_getElem?_getD (i:=k),List.getElem?_eq_getElem (by rw [hrl]; exact h1)] at e
   rw [show ((bookB ts).getD i [])[k] = _ from e]
   unfold valAt
   simp only [grid0_row]
   rw [dif_pos hi]
   unfold rowZ
   rw [tail_get,if_pos (show k < ((rowB (maxW ts) ts[i]).map vq).length by rw [List.length_map,hbl2]; exact hk),map_getD (show k < (rowB (maxW ts) ts[i]).length by rw [hbl2]; exact hk)]
   have hok:BOk (rowB (maxW ts) ts[i])[k]:=rowW_ok (w:=maxW ts) htx _ (by unfold rowW; exact List.mem_append_left _ (List.getElem_mem _))
   exact sgn_vq hok
  ·have hk:k = maxW ts:=by omega
   subst hk
   rw [List.getElem_append_right (by omega)]
   simp only [hbl2,Nat.sub_self,List.getElem_cons_zero]
   rw [List.getD_eq_getElem?_getD (i:=maxW ts),List.getElem?_eq_getElem (by rw [hrl]; exact h1)]; rfl
theorem trim_row (s:List UInt8) (j:Nat):trimR 32 (s ++ 124 :: List.replicate j 32) = s ++ [124]:=by
 induction j with
 | zero => rw [List.replicate_zero,trimR_snoc,if_neg (by decide)]
 | succ j ih =>
  rw [List.replicate_succ',← List.cons_append,← List.append_assoc,trimR_snoc,if_pos rfl,ih]
theorem read_book (h:BookOk ts) {rows:List (List UInt8)} (hr:SOk rows (maxW ts + 1)) (hl:rows.length = ts.length + 1) (hg:restG (ts.length + 1) (maxW ts + 1) (valsG rows) = gridR ts):readG (textG rows) = (ts,0) ∧ mendG (textG rows) = (textG (bookB ts),0):=by
 have hR:=h.right
 rw [← hl] at hR hg
 refine ⟨?_,mend_right hr hR hg⟩
 have hbl:=bookB_len h
 have hrow:∀ i (hi:i < ts.length),txtR ((bookB ts).getD i []) = ts[i] ∧ isTxR ((bookB ts).getD i []) = true:=fun i hi => by
  obtain ⟨c,hc⟩:=book_row h hi
  have hT:rowT ((bookB ts).getD i []) = ts[i] ++ [124]:=by
   unfold rowT
   rw [hc,List.dropLast_concat]
   exact trim_row _ _
  have he:endsB (ts[i] ++ [124]) 124 = true:=by unfold endsB; simp
  refine ⟨?_,by unfold isTxR; rw [hT]; exact he⟩
  unfold txtR cutB
  rw [hT,if_pos he,List.dropLast_concat]
 have hdl:(bookB ts).dropLast.length = ts.length:=by rw [List.length_dropLast,hbl]; rfl
 have hdg:∀ i (hi:i < (bookB ts).dropLast.length),(bookB ts).dropLast[i] = (bookB ts).getD i []:=fun i hi => by
  rw [List.getElem_dropLast,List.getD_eq_getElem?_getD,List.getElem?_eq_getElem (by omega)]; rfl
 unfold readG
 rw [whole_right hr hR hg,if_pos rfl]
 show (if (bookB ts).dropLast.all isTxR = true then ((bookB ts).dropLast.map txtR,(0:Int)) else ([],143)) = (ts,0)
 rw [if_pos]
 ·refine Prod.ext ?_ rfl
  apply List.ext_getElem
  ·simp only [List.length_map]; exact hdl
  ·intro i h1 h2
   simp only [List.getElem_map]
   rw [hdg]
   exact (hrow i h2).1
 ·rw [List.all_eq_true]
  intro l hm
  obtain ⟨i,hi,rfl⟩:=List.getElem_of_mem hm
  rw [hdg]
  exact (hrow i (by omega)).2
def spo (ts:List (List UInt8)) (ms:List (Int × Int)):List (List UInt8):=upR (fun _ _ => 63) (bookB ts) ms
theorem bok63:BOk 63:=by unfold BOk; decide
theorem spo_sok (h:BookOk ts) (ms:List (Int × Int)):SOk (spo ts ms) (maxW ts + 1):=upR_sok h.sok fun _ _ _ _ _ => bok63
theorem spo_len (h:BookOk ts) (ms:List (Int × Int)):(spo ts ms).length = ts.length + 1:=by unfold spo; rw [upR_len,bookB_len h]
theorem spo_val (h:BookOk ts) (ms:List (Int × Int)) {i k:Nat} (hi:i < ts.length + 1) (hk:k < maxW ts + 1):(((i:Int),(k:Int)) ∈ ms → valAt (valsG (spo ts ms)) (i,k) = -1) ∧ (((i:Int),(k:Int)) ∉ ms → valAt (valsG (spo ts ms)) (i,k) = valAt (gridR ts) (i,k)):=by
 have:=upR_val (f:=fun _ _ => 63) (ms:=ms) h.sok (fun _ _ _ _ _ => bok63) (i:=i) (k:=k) (by rw [bookB_len h]; exact hi) hk
 rw [h.vals] at this
 exact this
theorem spo_part (h:BookOk ts) (ms:List (Int × Int)):Part (ts.length + 1) (maxW ts + 1) (gridR ts) (valsG (spo ts ms)):=by
 have:=vals_gow (spo_sok h ms)
 rw [spo_len h] at this
 refine ⟨this,fun i k hi hk => ?_⟩
 obtain ⟨a1,a2⟩:=spo_val h ms hi hk
 by_cases hm:((i:Int),(k:Int)) ∈ ms
 ·exact .inl (a1 hm)
 ·exact .inr (a2 hm)
theorem spo_lost (h:BookOk ts) (ms:List (Int × Int)) {p:Nat × Nat} (hp:Lost (ts.length + 1) (maxW ts + 1) (valsG (spo ts ms)) p):((p.1:Int),(p.2:Int)) ∈ ms:=by
 obtain ⟨h1,h2,h3⟩:=hp
 refine Classical.byContradiction fun hm => ?_
 have:=(spo_val h ms h1 h2).2 hm
 rw [this] at h3
 exact h.right.full p.1 p.2 h1 h2 h3
end
end Go.Proofs.YtlmfdmlochpfcaaDoor

namespace Go.Proofs.YtlmfdmlochpfcaaDoor
open Go Go.V
abbrev o32_0:List Ins:=[⟨some 3,.box 2 (.t 1),none,true⟩,
 ⟨some 4,.mv (.k (.c (.bool false))),none,true⟩]
abbrev o32_1:List Ins:=[⟨some 5,.mv (.k (.c (.int .i64 0))),none,true⟩]
abbrev o32_2:List Ins:=[⟨some 6,.mv (.t 5),none,true⟩,
 ⟨some 7,.mv (.t 0),none,true⟩,
 ⟨some 8,.len (.t 7),none,true⟩,
 ⟨some 9,.bin .lss (.t 6) (.t 8),none,true⟩]
abbrev v32_3:VC:=(.cond (.t 9) .skip (.exit 0))
abbrev o32_4:List Ins:=[⟨some 12,.mv (.t 0),none,false⟩,
 ⟨some 13,.mv (.t 5),none,false⟩,
 ⟨some 14,.ia 2 (.t 12) (.t 13),none,false⟩,
 ⟨some 15,.ld false 2 (.t 14),none,false⟩,
 ⟨some 16,.ld false 2 (.t 3),none,false⟩,
 ⟨some 17,.seq false [(0,true),(1,true)] (.t 15) (.t 16),none,true⟩]
abbrev o32_5:List Ins:=[⟨some 4,.mv (.k (.c (.bool true))),none,true⟩]
abbrev v32_6:VC:=(.seq (.ops o32_5) .ret)
abbrev v32_7:VC:=(.cond (.t 17) v32_6 .skip)
abbrev v32_8:VC:=(.seq (.dops o32_4) v32_7)
abbrev o32_9:List Ins:=[⟨some 10,.mv (.t 5),none,true⟩,
 ⟨some 11,.bin .add (.t 10) (.k (.c (.int .i64 1))),none,true⟩,
 ⟨some 5,.mv (.t 11),none,true⟩]
abbrev v32_10:VC:=(.seq (.block 1 v32_8) (.ops o32_9))
abbrev v32_11:VC:=(.seq (.seq (.ops o32_2) v32_3) v32_10)
-- K32_1: changed and kept: [5]
abbrev K32_1:List Nat:=[0,3]
abbrev v32_12:VC:=(.loop v32_11)
abbrev v32_13:VC:=(.block 0 v32_12)
abbrev o32_14:List Ins:=[⟨some 4,.mv (.k (.c (.bool false))),none,true⟩]
abbrev v32_15:VC:=(.seq (.ops o32_14) .ret)
abbrev v32_16:VC:=(.seq (.seq (.ops o32_1) v32_13) v32_15)
def ir32:FC:=⟨2,18,[.t 4],(.seq (.ops o32_0) v32_16)⟩
theorem c32:compM Tryd.prog [] 32 = some ir32:=by kernel_rfl
attribute [local go_sem] Nat.reduceEqDiff Nat.reduceAdd Nat.reduceMul reduceIte Nat.reduceLeDiff Nat.reduceLT Nat.reduceBEq reduceCtorEq
def placeC (m:Int × Int):List CD:=[.int .i64 m.1,.int .i64 m.2]
def placesC (l:List (Int × Int)):CD:=.sl 2 (l.map placeC)
def icst (p:Nat × Nat):Int × Int:=((p.1:Int),(p.2:Int))
theorem icst_inj {p q:Nat × Nat} (h:icst p = icst q):p = q:=by
 unfold icst at h
 have h1:=(Prod.mk.inj h).1
 have h2:=(Prod.mk.inj h).2
 exact Prod.ext (by omega) (by omega)
theorem marksC_places (l:List (Nat × Nat)):marksC l = placesC (l.map icst):=by
 unfold marksC placesC
 rw [List.map_map]; rfl
theorem places_two (l:List (Int × Int)):((l.map placeC).all fun e => e.length == 2) = true:=by
 rw [List.all_eq_true]; intro e he; obtain ⟨n,_,rfl⟩:=List.mem_map.1 he; rfl
theorem pr_eq (a b:Int × Int):(a.1 == b.1 && (a.2 == b.2 && true)) = decide (a = b):=by
 rw [Bool.and_true,Bool.eq_iff_iff]
 simp only [Bool.and_eq_true,beq_iff_eq,decide_eq_true_eq]
 exact ⟨fun h => Prod.ext h.1 h.2,fun h => h ▸ ⟨rfl,rfl⟩⟩
theorem has32 (l:List (Int × Int)) (m:Int × Int) (hl:l.length ≤ 1000000000):FSpec Tryd.prog 32 [.c (placesC l),.agg ((placeC m).map .c)] (bv (l.contains m)):=by
 have hmax:maxLen = 9223372036854775807:=rfl
 refine FSpec_of c32 (Nat.le_refl _) (by decide) fun C hP hN hC hL => ?_; rw [init_st]
 simp only [ir32,placesC,placeC,List.map_cons,List.map_nil]
 (repeat ((first | refine Va ?_ | refine Vb ?_ | refine Vc ?_ | refine Vd ?_ | refine Ve ?_ | refine Vf ?_); (try simp only [go_sem,hP]); (repeat refine qJ ?_)))
 refine WV_loopK K32_1 [] (fun k:Nat => k ≤ l.length ∧ (l.take k).contains m = false) (fun k => l.length - k) (fun k => [(5,iv k)]) (fun _ => []) 0 ⟨Nat.zero_le _,rfl⟩ ?_ ?_
 ·exact Sub_au
 ·intro k ⟨hk0,hc⟩
  simp only [go_sem]
  (repeat ((first | refine Va ?_ | refine Vb ?_ | refine Vc ?_ | refine Vd ?_ | refine Ve ?_ | refine Vf ?_); (try simp only [go_sem,hP,List.length_map]); (repeat refine qJ ?_)))
  (refine WV_cond rfl (fun h => ?_) (fun h => ?_))
  ·have hk:k < l.length:=by simpa using h
   have hw2:=w64 (n:=(k:Int) + 1) (by omega) (by omega)
   have hg:(l.map placeC).getD k [] = placeC l[k]:=map_getD hk
   (refine WV_skip ?_; simp only [go_sem])
   refine WV_seq_ (WV_block (WV_seq_ ?_))
   (refine WV_op ?_; simp only [go_sem,hP,hg,placeC,pr_eq,List.length_map,Int.toNat_natCast,Int.ofNat_lt,hk,Int.natCast_nonneg]; (repeat refine qJ ?_))
   have hts:=List.take_succ_eq_append_getElem hk
   by_cases he:l[k] = m
   ·have hct:l.contains m = true:=by
     rw [List.contains_iff_mem,← he]; exact List.getElem_mem hk
    rw [hct]
    (refine WV_cond rfl (fun h => ?_) (fun h => ?_))
    ·(repeat ((first | refine Va ?_ | refine Vb ?_ | refine Vc ?_ | refine Vd ?_ | refine Ve ?_ | refine Vf ?_); (try simp only [go_sem,hP]); (repeat refine qJ ?_)))
     (refine WV_ret ?_; simp only [thenQ,inQ,RetQ,RetOk,resAll,resA]; simp only [go_sem,tupA,AV.port,AV.portL,exists_eq_left']; (first | exact AVle.of rfl | refine AVle.of ?_ | skip))
    ·simp [he] at h
   ·(refine WV_cond rfl (fun h => ?_) (fun h => ?_))
    ·simp at h; exact (he (Prod.ext h.1 h.2)).elim
    ·(repeat ((first | refine Va ?_ | refine Vb ?_ | refine Vc ?_ | refine Vd ?_ | refine Ve ?_ | refine Vf ?_); (try simp only [go_sem,hP,hw2]); (repeat refine qJ ?_)))
     refine ⟨k + 1,⟨by omega,?_⟩,by omega,?_⟩
     ·rw [hts,List.contains_eq_mem,decide_eq_false_iff_not]
      rw [List.contains_eq_mem,decide_eq_false_iff_not] at hc
      intro hm
      rcases List.mem_append.1 hm with hm | hm
      ·exact hc hm
      ·exact he (List.mem_singleton.1 hm).symm
     ·exact Sub_au
  ·have hk:k = l.length:=by simp at h; omega
   subst hk
   rw [List.take_length] at hc
   rw [hc]
   (repeat ((first | refine Va ?_ | refine Vb ?_ | refine Vc ?_ | refine Vd ?_ | refine Ve ?_ | refine Vf ?_); (try simp only [go_sem,hP]); (repeat refine qJ ?_)))
   (refine WV_ret ?_; simp only [thenQ,inQ,RetQ,RetOk,resAll,resA]; simp only [go_sem,tupA,AV.port,AV.portL,exists_eq_left']; (first | exact AVle.of rfl | refine AVle.of ?_ | skip))
end Go.Proofs.YtlmfdmlochpfcaaDoor

namespace Go.Proofs.YtlmfdmlochpfcaaDoor
open Go Go.V
section
variable {ts:List (List UInt8)}
def tld (ts:List (List UInt8)) (ms ws:List (Int × Int)):List (List UInt8):=upR (fun i k => byAt (bookB ts) (i,k)) (spo ts ms) ws
theorem tld_f (h:BookOk ts) (ms ws:List (Int × Int)):∀ i k,i < (spo ts ms).length → k < maxW ts + 1 → ((i:Int),(k:Int)) ∈ ws → BOk (byAt (bookB ts) (i,k)):=by
 intro i k hi hk _
 rw [spo_len h] at hi
 exact (h.sok.at (by rw [bookB_len h]; exact hi) hk).2.1
theorem tld_sok (h:BookOk ts) (ms ws:List (Int × Int)):SOk (tld ts ms ws) (maxW ts + 1):=upR_sok (spo_sok h ms) (tld_f h ms ws)
theorem tld_len (h:BookOk ts) (ms ws:List (Int × Int)):(tld ts ms ws).length = ts.length + 1:=by unfold tld; rw [upR_len,spo_len h]
theorem tld_val (h:BookOk ts) (ms ws:List (Int × Int)) {i k:Nat} (hi:i < ts.length + 1) (hk:k < maxW ts + 1):(((i:Int),(k:Int)) ∈ ws → valAt (valsG (tld ts ms ws)) (i,k) = valAt (gridR ts) (i,k)) ∧ (((i:Int),(k:Int)) ∉ ws → valAt (valsG (tld ts ms ws)) (i,k) = valAt (valsG (spo ts ms)) (i,k)):=by
 obtain ⟨a1,a2⟩:=upR_val (f:=fun i k => byAt (bookB ts) (i,k)) (ms:=ws) (spo_sok h ms) (tld_f h ms ws) (i:=i) (k:=k) (by rw [spo_len h]; exact hi) hk
 refine ⟨fun hm => ?_,a2⟩
 have:=(h.sok.at (i:=i) (k:=k) (by rw [bookB_len h]; exact hi) hk).2.2
 rw [h.vals] at this
 rw [this]
 exact a1 hm
theorem tld_part (h:BookOk ts) (ms ws:List (Int × Int)):Part (ts.length + 1) (maxW ts + 1) (gridR ts) (valsG (tld ts ms ws)):=by
 have:=vals_gow (tld_sok h ms ws)
 rw [tld_len h] at this
 refine ⟨this,fun i k hi hk => ?_⟩
 obtain ⟨a1,a2⟩:=tld_val h ms ws hi hk
 by_cases hm:((i:Int),(k:Int)) ∈ ws
 ·exact .inr (a1 hm)
 ·rw [a2 hm]; exact (spo_part h ms).val i k hi hk
theorem tld_lost (h:BookOk ts) (ms ws:List (Int × Int)) (p:Nat × Nat):Lost (ts.length + 1) (maxW ts + 1) (valsG (tld ts ms ws)) p ↔ Lost (ts.length + 1) (maxW ts + 1) (valsG (spo ts ms)) p ∧ icst p ∉ ws:=by
 constructor
 ·rintro ⟨h1,h2,h3⟩
  obtain ⟨a1,a2⟩:=tld_val h ms ws h1 h2
  have hn:icst p ∉ ws:=fun hm => by
   have:=a1 hm
   rw [show ((p.1,p.2):Nat × Nat) = p from rfl,h3] at this
   exact h.right.full p.1 p.2 h1 h2 this.symm
  exact ⟨⟨h1,h2,(a2 hn).symm.trans h3⟩,hn⟩
 ·rintro ⟨⟨h1,h2,h3⟩,hn⟩
  exact ⟨h1,h2,((tld_val h ms ws h1 h2).2 hn).trans h3⟩
def lftG (ts:List (List UInt8)) (rows:List (List UInt8)):List (Nat × Nat):=marksG (restG (ts.length + 1) (maxW ts + 1) (valsG rows)) (ts.length + 1)
theorem lft_wid {rows:List (List UInt8)} (hs:SOk rows (maxW ts + 1)) (hl:rows.length = ts.length + 1):wid (restG (ts.length + 1) (maxW ts + 1) (valsG rows)) = maxW ts + 1:=by
 have:=sheet_wid hs
 rwa [sheet_rest hs,hl] at this
theorem lft_mem {rows:List (List UInt8)} (hs:SOk rows (maxW ts + 1)) (hl:rows.length = ts.length + 1) (p:Nat × Nat):p ∈ lftG ts rows ↔ Lost (ts.length + 1) (maxW ts + 1) (restG (ts.length + 1) (maxW ts + 1) (valsG rows)) p:=lost_marks (lft_wid hs hl)
theorem lft_eq {rows:List (List UInt8)} (hs:SOk rows (maxW ts + 1)) (hl:rows.length = ts.length + 1):leftG (textG rows) = (lftG ts rows,0):=by
 rw [left_of hs,sheet_rest hs,hl]; rfl
theorem lft_nodup (rows:List (List UInt8)):(lftG ts rows).Nodup:=by
 unfold lftG marksG
 generalize restG (ts.length + 1) (maxW ts + 1) (valsG rows) = g
 generalize ts.length + 1 = n
 induction n with
 | zero => simp
 | succ n ih =>
  rw [List.range_succ,List.flatMap_append,List.nodup_append]
  refine ⟨ih,?_,fun a ha b hb => ?_⟩
  ·simp only [List.flatMap_cons,List.flatMap_nil,List.append_nil]
   exact (posL_nodup _ _ _ _).filter _
  ·rintro rfl
   rw [List.mem_flatMap] at ha
   obtain ⟨i,hi,ha⟩:=ha
   have hi:=List.mem_range.1 hi
   simp only [List.flatMap_cons,List.flatMap_nil,List.append_nil] at hb
   have e1:=(posL_row_mem.1 (lostL_mem.1 ha).1).1
   have e2:=(posL_row_mem.1 (lostL_mem.1 hb).1).1
   omega
theorem left_book (h:BookOk ts) (ms:List (Int × Int)) {p:Nat × Nat} (hp:p ∈ lftG ts (spo ts ms)):p.1 < ts.length + 1 ∧ p.2 < maxW ts + 1 ∧ icst p ∈ ms ∧ (∃ q ∈ lftG ts (spo ts ms),q ≠ p ∧ q.1 = p.1) ∧ ∃ q ∈ lftG ts (spo ts ms),q ≠ p ∧ q.2 = p.2:=by
 have s1:=spo_sok h ms
 have l1:=spo_len h ms
 have g1:=(spo_part h ms).gow
 have hm:=lft_mem s1 l1
 have hp:=(hm p).1 hp
 obtain ⟨⟨q,q1,q2,q3⟩,⟨r,r1,r2,r3⟩⟩:=end_clos (restG_fin g1) p hp
 refine ⟨hp.1,hp.2.1,?_,⟨q,(hm q).2 q1,q2,q3⟩,⟨r,(hm r).2 r1,r2,r3⟩⟩
 obtain ⟨S,c1,c2,c3⟩:=(rest_core g1 p).1 hp
 exact spo_lost h ms (c2 p c3)
theorem enough_book (h:BookOk ts) (ms:List (Int × Int)):mendG (textG (tld ts ms ((circ (lftG ts (spo ts ms))).map icst))) = (textG (bookB ts),0):=by
 have s1:=spo_sok h ms
 have l1:=spo_len h ms
 have s2:=tld_sok h ms ((circ (lftG ts (spo ts ms))).map icst)
 have l2:=tld_len h ms ((circ (lftG ts (spo ts ms))).map icst)
 refine (read_book h s2 l2 (rest_right h.right (tld_part h ms _) (told_free (spo_part h ms).gow (ms:=lftG ts (spo ts ms)) (ws:=circ (lftG ts (spo ts ms))) (fun q hq => ?_) (fun p hp => (lft_mem s1 l1 p).2 hp) fun p hp => hp))).2
 obtain ⟨a,b⟩:=(tld_lost h ms _ q).1 hq
 exact ⟨a,fun hc => b (List.mem_map_of_mem hc)⟩
theorem less_book (h:BookOk ts) (ms:List (Int × Int)) {o:Nat} (ho:o < (circ (lftG ts (spo ts ms))).length) {ws:List (Int × Int)} (hw:ws = ((circ (lftG ts (spo ts ms))).take o ++ (circ (lftG ts (spo ts ms))).drop (o + 1)).map icst):mendG (textG (tld ts ms ws)) = ([],141):=by
 subst hw
 have s1:=spo_sok h ms
 have l1:=spo_len h ms
 have g1:=(spo_part h ms).gow
 have hm:=lft_mem s1 l1
 have hnd:=lft_nodup (ts:=ts) (spo ts ms)
 generalize lftG ts (spo ts ms) = L at *
 have s2:=tld_sok h ms (((circ L).take o ++ (circ L).drop (o + 1)).map icst)
 have l2:=tld_len h ms (((circ L).take o ++ (circ L).drop (o + 1)).map icst)
 have g2:=(tld_part h ms (((circ L).take o ++ (circ L).drop (o + 1)).map icst)).gow
 have hcn:=circ_nodup hnd L.length
 have he:(circ L)[o] ∈ circK L L.length:=List.getElem_mem ho
 have hnot:(circ L)[o] ∉ (circ L).take o ++ (circ L).drop (o + 1):=by
  intro hin
  rcases List.mem_append.1 hin with hin | hin
  ·obtain ⟨i,hi,hie⟩:=List.getElem_of_mem hin
   have hi2:i < o:=by rw [List.length_take] at hi; omega
   rw [List.getElem_take] at hie
   exact nodup_ne hcn (show i < (circ L).length by omega) ho hi2 hie
  ·obtain ⟨i,hi,hie⟩:=List.getElem_of_mem hin
   have hi2:o + 1 + i < (circ L).length:=by rw [List.length_drop] at hi; omega
   rw [List.getElem_drop] at hie
   exact nodup_ne hcn ho hi2 (by omega) hie.symm
 have htn:(circ L)[o] ∉ treeK L L.length:=fun hc => tree_circ_disj hnd L.length _ hc he
 obtain ⟨S,c1,c2,c3⟩:=circle_clos (circ L)[o] _ (treeK L L.length) rfl htn (circ_conn L L.length _ he)
 have hlost:Lost (ts.length + 1) (maxW ts + 1) (restG (ts.length + 1) (maxW ts + 1) (valsG (tld ts ms (((circ L).take o ++ (circ L).drop (o + 1)).map icst)))) (circ L)[o]:=by
  refine (rest_core g2 _).2 ⟨S,c1,fun q hq => (tld_lost h ms _ q).2 ?_,c2⟩
  have hin:∀ q ∈ L,Lost (ts.length + 1) (maxW ts + 1) (valsG (spo ts ms)) q:=fun q hq => by
   obtain ⟨T,d1,d2,d3⟩:=(rest_core g1 q).1 ((hm q).1 hq)
   exact d2 q d3
  rcases c3 q hq with rfl | hq
  ·refine ⟨hin _ (circ_mem (List.getElem_mem ho)),fun hc => ?_⟩
   obtain ⟨r,hr,e⟩:=List.mem_map.1 hc
   exact hnot (icst_inj e ▸ hr)
  ·have:=tree_sub L L.length q hq
   rw [List.take_length] at this
   refine ⟨hin q this,fun hc => ?_⟩
   obtain ⟨r,hr,e⟩:=List.mem_map.1 hc
   have hr:q ∈ (circ L).take o ++ (circ L).drop (o + 1):=icst_inj e ▸ hr
   refine tree_circ_disj hnd L.length q hq ?_
   rcases List.mem_append.1 hr with hr | hr
   ·exact List.mem_of_mem_take hr
   ·exact List.mem_of_mem_drop hr
 rw [← l2] at hlost
 exact mend_lost s2 hlost
end
end Go.Proofs.YtlmfdmlochpfcaaDoor

namespace Go.Proofs.YtlmfdmlochpfcaaDoor
open Go Go.V
abbrev o19_0:List Ins:=[⟨some 6,.mv (.k (.c (.str []))),none,true⟩]
abbrev o19_1:List Ins:=[⟨some 7,.mv (.k (.c (.str []))),none,true⟩]
abbrev o19_2:List Ins:=[⟨some 8,.mv (.k (.c (.int .i64 0))),none,true⟩]
abbrev o19_3:List Ins:=[⟨some 11,.mv (.t 8),none,true⟩,
 ⟨some 12,.mv (.t 0),none,true⟩,
 ⟨some 13,.len (.t 12),none,true⟩,
 ⟨some 14,.bin .lss (.t 11) (.t 13),none,true⟩]
abbrev v19_4:VC:=(.cond (.t 14) .skip (.exit 0))
abbrev o19_5:List Ins:=[⟨some 17,.mv (.t 0),none,true⟩,
 ⟨some 18,.mv (.t 8),none,true⟩,
 ⟨some 19,.ia 1 (.t 17) (.t 18),none,true⟩,
 ⟨some 20,.ld true 1 (.t 19),none,true⟩,
 ⟨some 21,.raw (.convert 9 68 (.tmp 20)),none,true⟩,
 ⟨some 9,.mv (.t 21),none,true⟩]
abbrev o19_6:List Ins:=[⟨some 10,.mv (.k (.c (.int .i64 0))),none,true⟩]
abbrev o19_7:List Ins:=[⟨some 22,.mv (.t 10),none,true⟩,
 ⟨some 23,.mv (.t 1),none,true⟩,
 ⟨some 24,.len (.t 23),none,true⟩,
 ⟨some 25,.bin .lss (.t 22) (.t 24),none,true⟩]
abbrev v19_8:VC:=(.cond (.t 25) .skip (.exit 2))
abbrev o19_9:List Ins:=[⟨some 28,.mv (.t 1),none,true⟩,
 ⟨some 29,.mv (.t 10),none,true⟩,
 ⟨some 30,.ia 2 (.t 28) (.t 29),none,true⟩,
 ⟨some 31,.fa 0 (.t 30),none,true⟩,
 ⟨some 32,.ld true 1 (.t 31),none,true⟩,
 ⟨some 33,.mv (.t 8),none,true⟩,
 ⟨some 34,.bin .eql (.t 32) (.t 33),none,true⟩,
 ⟨some 35,.mv (.t 34),none,true⟩,
 ⟨some 36,.mv (.t 1),(some (35,true)),true⟩,
 ⟨some 37,.mv (.t 10),(some (35,true)),true⟩,
 ⟨some 38,.ia 2 (.t 36) (.t 37),(some (35,true)),true⟩,
 ⟨some 39,.fa 1 (.t 38),(some (35,true)),true⟩,
 ⟨some 40,.ld true 1 (.t 39),(some (35,true)),true⟩,
 ⟨some 41,.bin .geq (.t 40) (.k (.c (.int .i64 0))),(some (35,true)),true⟩,
 ⟨some 42,.pick (.t 35) (.t 41) (.k (.c (.bool false))),none,true⟩,
 ⟨some 43,.mv (.t 42),none,true⟩,
 ⟨some 44,.mv (.t 1),(some (43,true)),true⟩,
 ⟨some 45,.mv (.t 10),(some (43,true)),true⟩,
 ⟨some 46,.ia 2 (.t 44) (.t 45),(some (43,true)),true⟩,
 ⟨some 47,.fa 1 (.t 46),(some (43,true)),true⟩,
 ⟨some 48,.ld true 1 (.t 47),(some (43,true)),true⟩,
 ⟨some 49,.mv (.t 9),(some (43,true)),true⟩,
 ⟨some 50,.len (.t 49),(some (43,true)),true⟩,
 ⟨some 51,.bin .lss (.t 48) (.t 50),(some (43,true)),true⟩,
 ⟨some 52,.pick (.t 43) (.t 51) (.k (.c (.bool false))),none,true⟩]
abbrev o19_10:List Ins:=[⟨some 53,.mv (.t 9),none,true⟩,
 ⟨some 54,.mv (.t 1),none,true⟩,
 ⟨some 55,.mv (.t 10),none,true⟩,
 ⟨some 56,.ia 2 (.t 54) (.t 55),none,true⟩,
 ⟨some 57,.fa 1 (.t 56),none,true⟩,
 ⟨some 58,.ld true 1 (.t 57),none,true⟩,
 ⟨some 59,.mv (.t 2),none,true⟩,
 ⟨some 60,.ia 1 (.t 53) (.t 58),none,true⟩,
 ⟨none,.st 1 (.t 60) (.t 59),none,true⟩]
abbrev v19_11:VC:=(.cond (.t 52) (.ops o19_10) .skip)
abbrev v19_12:VC:=(.seq (.ops o19_9) v19_11)
abbrev o19_13:List Ins:=[⟨some 26,.mv (.t 10),none,true⟩,
 ⟨some 27,.bin .add (.t 26) (.k (.c (.int .i64 1))),none,true⟩,
 ⟨some 10,.mv (.t 27),none,true⟩]
abbrev v19_14:VC:=(.seq (.block 3 v19_12) (.ops o19_13))
abbrev v19_15:VC:=(.seq (.seq (.ops o19_7) v19_8) v19_14)
-- K19_2: changed and kept: [10]
abbrev v19_16:VC:=(.loop v19_15)
abbrev v19_17:VC:=(.block 2 v19_16)
abbrev o19_18:List Ins:=[⟨some 61,.mv (.t 7),none,true⟩,
 ⟨some 62,.mv (.t 9),none,true⟩,
 ⟨some 63,.raw (.convert 68 9 (.tmp 62)),none,true⟩,
 ⟨some 64,.prim (.sbin .add) [(.t 63),(.k (.c (.str [10])))],none,true⟩,
 ⟨some 65,.prim (.sbin .add) [(.t 61),(.t 64)],none,true⟩,
 ⟨some 7,.mv (.t 65),none,true⟩]
abbrev v19_19:VC:=(.seq (.seq (.ops o19_6) v19_17) (.ops o19_18))
abbrev v19_20:VC:=(.seq (.ops o19_5) v19_19)
abbrev o19_21:List Ins:=[⟨some 15,.mv (.t 8),none,true⟩,
 ⟨some 16,.bin .add (.t 15) (.k (.c (.int .i64 1))),none,true⟩,
 ⟨some 8,.mv (.t 16),none,true⟩]
abbrev v19_22:VC:=(.seq (.block 1 v19_20) (.ops o19_21))
abbrev v19_23:VC:=(.seq (.seq (.ops o19_3) v19_4) v19_22)
-- K19_1: changed and kept: [8,7]
abbrev v19_24:VC:=(.loop v19_23)
abbrev v19_25:VC:=(.block 0 v19_24)
abbrev o19_26:List Ins:=[⟨some 66,.mv (.t 7),none,true⟩,
 ⟨some 6,.mv (.t 66),none,true⟩]
abbrev v19_27:VC:=(.seq (.ops o19_26) .ret)
abbrev v19_28:VC:=(.seq (.seq (.ops o19_2) v19_25) v19_27)
abbrev v19_29:VC:=(.seq (.ops o19_1) v19_28)
def ir19:FC:=⟨3,67,[.t 6],(.seq (.ops o19_0) v19_29)⟩
abbrev o33_0:List Ins:=[⟨some 6,.mv (.k (.c (.raw (.slice none 0 0)))),none,true⟩]
abbrev o33_1:List Ins:=[⟨some 7,.mv (.k (.c (.raw (.slice none 0 0)))),none,true⟩]
abbrev o33_2:List Ins:=[⟨some 8,.mv (.k (.c (.int .i64 0))),none,true⟩]
abbrev o33_3:List Ins:=[⟨some 11,.mv (.t 8),none,true⟩,
 ⟨some 12,.mv (.t 0),none,true⟩,
 ⟨some 13,.len (.t 12),none,true⟩,
 ⟨some 14,.bin .lss (.t 11) (.t 13),none,true⟩]
abbrev v33_4:VC:=(.cond (.t 14) .skip (.exit 0))
abbrev o33_5:List Ins:=[⟨some 17,.mv (.t 0),none,true⟩,
 ⟨some 18,.mv (.t 8),none,true⟩,
 ⟨some 19,.ia 1 (.t 17) (.t 18),none,true⟩,
 ⟨some 20,.ld true 1 (.t 19),none,true⟩,
 ⟨some 21,.raw (.convert 9 68 (.tmp 20)),none,true⟩,
 ⟨some 9,.mv (.t 21),none,true⟩]
abbrev o33_6:List Ins:=[⟨some 10,.mv (.k (.c (.int .i64 0))),none,true⟩]
abbrev o33_7:List Ins:=[⟨some 22,.mv (.t 10),none,true⟩,
 ⟨some 23,.mv (.t 2),none,true⟩,
 ⟨some 24,.len (.t 23),none,true⟩,
 ⟨some 25,.bin .lss (.t 22) (.t 24),none,true⟩]
abbrev v33_8:VC:=(.cond (.t 25) .skip (.exit 2))
abbrev o33_9:List Ins:=[⟨some 28,.mv (.t 2),none,true⟩,
 ⟨some 29,.mv (.t 10),none,true⟩,
 ⟨some 30,.ia 2 (.t 28) (.t 29),none,true⟩,
 ⟨some 31,.fa 0 (.t 30),none,true⟩,
 ⟨some 32,.ld true 1 (.t 31),none,true⟩,
 ⟨some 33,.mv (.t 8),none,true⟩,
 ⟨some 34,.bin .eql (.t 32) (.t 33),none,true⟩,
 ⟨some 35,.mv (.t 34),none,true⟩,
 ⟨some 36,.mv (.t 2),(some (35,true)),true⟩,
 ⟨some 37,.mv (.t 10),(some (35,true)),true⟩,
 ⟨some 38,.ia 2 (.t 36) (.t 37),(some (35,true)),true⟩,
 ⟨some 39,.fa 1 (.t 38),(some (35,true)),true⟩,
 ⟨some 40,.ld true 1 (.t 39),(some (35,true)),true⟩,
 ⟨some 41,.bin .geq (.t 40) (.k (.c (.int .i64 0))),(some (35,true)),true⟩,
 ⟨some 42,.pick (.t 35) (.t 41) (.k (.c (.bool false))),none,true⟩,
 ⟨some 43,.mv (.t 42),none,true⟩,
 ⟨some 44,.mv (.t 2),(some (43,true)),true⟩,
 ⟨some 45,.mv (.t 10),(some (43,true)),true⟩,
 ⟨some 46,.ia 2 (.t 44) (.t 45),(some (43,true)),true⟩,
 ⟨some 47,.fa 1 (.t 46),(some (43,true)),true⟩,
 ⟨some 48,.ld true 1 (.t 47),(some (43,true)),true⟩,
 ⟨some 49,.mv (.t 9),(some (43,true)),true⟩,
 ⟨some 50,.len (.t 49),(some (43,true)),true⟩,
 ⟨some 51,.bin .lss (.t 48) (.t 50),(some (43,true)),true⟩,
 ⟨some 52,.pick (.t 43) (.t 51) (.k (.c (.bool false))),none,true⟩]
abbrev o33_10:List Ins:=[⟨some 53,.mv (.t 9),none,false⟩,
 ⟨some 54,.mv (.t 2),none,false⟩,
 ⟨some 55,.mv (.t 10),none,false⟩,
 ⟨some 56,.ia 2 (.t 54) (.t 55),none,false⟩,
 ⟨some 57,.fa 1 (.t 56),none,false⟩,
 ⟨some 58,.ld true 1 (.t 57),none,false⟩,
 ⟨some 59,.mv (.t 1),none,false⟩,
 ⟨some 60,.mv (.t 8),none,false⟩,
 ⟨some 61,.ia 1 (.t 59) (.t 60),none,false⟩,
 ⟨some 62,.ld true 1 (.t 61),none,false⟩,
 ⟨some 63,.mv (.t 2),none,false⟩,
 ⟨some 64,.mv (.t 10),none,false⟩,
 ⟨some 65,.ia 2 (.t 63) (.t 64),none,false⟩,
 ⟨some 66,.fa 1 (.t 65),none,false⟩,
 ⟨some 67,.ld true 1 (.t 66),none,false⟩,
 ⟨some 68,.prim .sidx [(.t 62),(.t 67)],none,false⟩,
 ⟨some 69,.ia 1 (.t 53) (.t 58),none,true⟩,
 ⟨none,.st 1 (.t 69) (.t 68),none,true⟩]
abbrev v33_11:VC:=(.cond (.t 52) (.dops o33_10) .skip)
abbrev v33_12:VC:=(.seq (.ops o33_9) v33_11)
abbrev o33_13:List Ins:=[⟨some 26,.mv (.t 10),none,true⟩,
 ⟨some 27,.bin .add (.t 26) (.k (.c (.int .i64 1))),none,true⟩,
 ⟨some 10,.mv (.t 27),none,true⟩]
abbrev v33_14:VC:=(.seq (.block 3 v33_12) (.ops o33_13))
abbrev v33_15:VC:=(.seq (.seq (.ops o33_7) v33_8) v33_14)
-- K33_2: changed and kept: [10]
abbrev v33_16:VC:=(.loop v33_15)
abbrev v33_17:VC:=(.block 2 v33_16)
abbrev o33_18:List Ins:=[⟨some 70,.mv (.t 7),none,true⟩,
 ⟨some 71,.mv (.t 9),none,true⟩,
 ⟨some 72,.raw (.convert 68 9 (.tmp 71)),none,true⟩,
 ⟨some 73,.bsl 9 1 [(.t 72)],none,true⟩,
 ⟨some 74,.app 9 1 16 (.t 70) (.t 73),none,true⟩,
 ⟨some 7,.mv (.t 74),none,true⟩]
abbrev v33_19:VC:=(.seq (.seq (.ops o33_6) v33_17) (.ops o33_18))
abbrev v33_20:VC:=(.seq (.ops o33_5) v33_19)
abbrev o33_21:List Ins:=[⟨some 15,.mv (.t 8),none,true⟩,
 ⟨some 16,.bin .add (.t 15) (.k (.c (.int .i64 1))),none,true⟩,
 ⟨some 8,.mv (.t 16),none,true⟩]
abbrev v33_22:VC:=(.seq (.block 1 v33_20) (.ops o33_21))
abbrev v33_23:VC:=(.seq (.seq (.ops o33_3) v33_4) v33_22)
-- K33_1: changed and kept: [8,7]
abbrev v33_24:VC:=(.loop v33_23)
abbrev v33_25:VC:=(.block 0 v33_24)
abbrev o33_26:List Ins:=[⟨some 75,.mv (.t 7),none,true⟩,
 ⟨some 6,.mv (.t 75),none,true⟩]
abbrev v33_27:VC:=(.seq (.ops o33_26) .ret)
abbrev v33_28:VC:=(.seq (.seq (.ops o33_2) v33_25) v33_27)
abbrev v33_29:VC:=(.seq (.ops o33_1) v33_28)
def ir33:FC:=⟨3,76,[.t 6],(.seq (.ops o33_0) v33_29)⟩
theorem c19:compM Tryd.prog [] 19 = some ir19:=by kernel_rfl
theorem c33:compM Tryd.prog [] 33 = some ir33:=by kernel_rfl
attribute [local go_sem] Nat.reduceEqDiff Nat.reduceAdd Nat.reduceMul reduceIte Nat.reduceLeDiff Nat.reduceLT Nat.reduceBEq reduceCtorEq
theorem upR_take {f:Nat → Nat → UInt8} {rows:List (List UInt8)} {ms:List (Int × Int)} {k:Nat} (h:k < rows.length):(upR f rows ms).take (k + 1) = (upR f rows ms).take k ++ [upRow (f k) k ms rows[k]]:=by
 have hl:k < (upR f rows ms).length:=by rw [upR_len]; exact h
 rw [List.take_succ_eq_append_getElem hl]
 congr 2
 have:=upR_get (f:=f) (ms:=ms) h
 rw [List.getD_eq_getElem?_getD,List.getElem?_eq_getElem hl,List.getD_eq_getElem?_getD,List.getElem?_eq_getElem h] at this
 exact this
theorem textG_app (a:List (List UInt8)) (l:List UInt8):textG (a ++ [l]) = textG a ++ (l ++ [10]):=by
 unfold textG; rw [List.flatMap_append]; simp
theorem upR_rows {f:Nat → Nat → UInt8} {rows:List (List UInt8)} {ms:List (Int × Int)} {b:Nat} (h:∀ l ∈ rows,l.length ≤ b):∀ l ∈ upR f rows ms,l.length ≤ b:=by
 intro l hl
 unfold upR at hl
 obtain ⟨i,hi,rfl⟩:=List.mem_map.1 hl
 have hi:=List.mem_range.1 hi
 rw [upRow_len]
 exact h _ (getD_mem [] hi)
theorem bcells_set {l:List UInt8} {k:Nat} (h:k < l.length) (j:Nat) (v:UInt8):(cellsG bcd l j).set k (.c (.int .u8 (v.toNat:Int))) = cellsG bcd (l.set k v) j:=by
 have hcs:=cellsG_set (cds:=bcd) bcd_one (l:=l) (k:=k) h j 0 (by decide) (.int .u8 v.toNat) v rfl
 rwa [Nat.mul_one,Nat.add_zero] at hcs
set_option maxRecDepth 20000 in
set_option maxHeartbeats 16000000 in
theorem spoilt19 (rows:List (List UInt8)) (ms:List (Int × Int)) (b:UInt8) (hr:rows.length ≤ 100) (hrl:∀ l ∈ rows,l.length ≤ 100) (hm:ms.length ≤ 1000000):FSpec Tryd.prog 19 [.c (strsV rows),.c (placesC ms),.c (.int .u8 (b.toNat:Int))] (sv (textG (upR (fun _ _ => b) rows ms))):=by
 have hmax:maxLen = 9223372036854775807:=rfl
 have hul:=upR_rows (f:=fun _ _ => b) (ms:=ms) hrl
 have hlu:=upR_len (fun _ _ => b) rows ms
 have hsn:=@upR_take (fun _ _ => b) rows ms
 refine FSpec_of c19 (Nat.le_refl _) (by decide) fun C hP hN hC hL => ?_; rw [init_st]
 simp only [ir19,strsV]
 (repeat ((first | refine Va ?_ | refine Vb ?_ | refine Vc ?_ | refine Vd ?_ | refine Ve ?_ | refine Vf ?_); (try simp only [go_sem,hP]); (repeat refine qJ ?_)))
 refine WV_loopS (fun k:Nat => ⟨upd (upd (upd (upd (upd e0 0 (.c (.sl 1 (rows.map fun t => [CD.str t])))) 1 (.c (placesC ms))) 2 (.c (.int .u8 b.toNat))) 8 (iv k)) 7 (sv (textG ((upR (fun _ _ => b) rows ms).take k))),o0⟩) (fun k => k ≤ rows.length) (fun k => rows.length - k) 0 (Nat.zero_le _) ?_ ?_
 ·(refine Sub_of (by simp only [go_sem]; ((repeat' (first | exact EnvLe_e0 _ _ | refine EnvLe_upd ?_ ?_)) <;> ((try simp only [upd_app,e0_app,o0_app,Nat.reduceEqDiff,reduceIte]); first | exact AWk.refl _ _ | exact AWk.int (by omega) | exact AWk.int (by rw [w64 (by omega) (by omega)]; omega) | exact AWk.grow rfl | exact AWk.nil _ | exact AWk.of (by simp [textG])))) (by simp only [go_sem]; exact ObjLe_au))
 ·intro k hk0
  have htl:=textG_len (rows:=upR (fun _ _ => b) rows ms) 100 hul k
  have htl2:k * 101 ≤ 100 * 101:=Nat.mul_le_mul (by omega) (Nat.le_refl _)
  (repeat ((first | refine Va ?_ | refine Vb ?_ | refine Vc ?_ | refine Vd ?_ | refine Ve ?_ | refine Vf ?_); (try simp only [go_sem,hP,List.length_map]); (repeat refine qJ ?_)))
  (refine WV_cond rfl (fun h => ?_) (fun h => ?_))
  ·have hk:k < rows.length:=by simpa using h
   have hw2:=w64 (n:=(k:Int) + 1) (by omega) (by omega)
   have hs:=hsn hk
   have hrk:=hrl _ (List.getElem_mem hk)
   generalize hT:textG ((upR (fun _ _ => b) rows ms).take k) = T at htl
   have hT2:textG ((upR (fun _ _ => b) rows ms).take (k + 1)) = T ++ (upRow (fun _ => b) k ms rows[k] ++ [10]):=by rw [hs,textG_app,hT]
   generalize hrow:rows[k] = row at hrk hT2
   (refine WV_skip ?_; simp only [go_sem])
   refine WV_seq_ (WV_block (WV_seq_ ?_))
   (refine WV_op ?_; simp only [go_sem,hP,map_getD hk,hrow,Int.toNat_natCast,Int.ofNat_lt,hk,Int.natCast_nonneg,List.length_map]; (repeat refine qJ ?_))
   refine raw_sb (s:=row) (x':=.t 20) (e:=5) (by kernel_rfl) (by kernel_rfl) (by kernel_rfl) rfl rfl rfl rfl (by omega) ?_
   intro cap j k1 k2 k3
   simp only [go_sem]
   (repeat ((first | refine Va ?_ | refine Vb ?_ | refine Vc ?_ | refine Vd ?_ | refine Ve ?_ | refine Vf ?_); (try simp only [go_sem,hP]); (repeat refine qJ ?_)))
   refine WV_loopS (fun i:Nat => ⟨upd (upd (upd (upd (upd (upd (upd e0 0 (.c (.sl 1 (rows.map fun t => [CD.str t])))) 1 (.c (placesC ms))) 2 (.c (.int .u8 b.toNat))) 8 (iv k)) 7 (sv T)) 9 (.vw 1 21 0 row.length cap)) 10 (iv i),upd o0 21 (.box (cellsG bcd (upRow (fun _ => b) k (ms.take i) row) j))⟩) (fun i => i ≤ ms.length) (fun i => ms.length - i) 0 (Nat.zero_le _) ?_ ?_
   ·(refine Sub_of (by simp only [go_sem]; ((repeat' (first | exact EnvLe_e0 _ _ | refine EnvLe_upd ?_ ?_)) <;> ((try simp only [upd_app,e0_app,o0_app,Nat.reduceEqDiff,reduceIte]); first | exact AWk.refl _ _ | exact AWk.int (by omega) | exact AWk.int (by rw [w64 (by omega) (by omega)]; omega) | exact AWk.grow rfl | exact AWk.nil _ | exact AWk.of (by simp [upRow])))) (by simp only [go_sem]; exact ObjLe_au))
   ·intro i hi0
    have hur:=upRow_len (fun _ => b) k (ms.take i) row
    (repeat ((first | refine Va ?_ | refine Vb ?_ | refine Vc ?_ | refine Vd ?_ | refine Ve ?_ | refine Vf ?_); (try simp only [go_sem,hP,placesC,List.length_map]); (repeat refine qJ ?_)))
    (refine WV_cond rfl (fun h => ?_) (fun h => ?_))
    ·have hi:i < ms.length:=by simpa using h
     have hw3:=w64 (n:=(i:Int) + 1) (by omega) (by omega)
     have hgd:(ms.map placeC).getD i [] = placeC ms[i]:=map_getD hi
     have hus:=upRow_snoc (fun _ => b) k (ms.take i) ms[i] row
     rw [← List.take_succ_eq_append_getElem hi,hur] at hus
     generalize ms[i] = m at hgd hus
     (refine WV_skip ?_; simp only [go_sem])
     refine WV_seq_ (WV_block (WV_seq_ ?_))
     (refine WV_op ?_; simp only [go_sem,hP,hgd,placesC,placeC,Int.toNat_natCast,Int.ofNat_lt,hi,Int.natCast_nonneg,List.length_map]; (repeat refine qJ ?_))
     by_cases hc:m.1 = (k:Int) ∧ 0 ≤ m.2 ∧ m.2 < (row.length:Int)
     ·rw [if_pos hc] at hus
      obtain ⟨c1,c2,c3⟩:=hc
      have hmt:m.2.toNat < row.length:=by omega
      have hset:=bcells_set (l:=upRow (fun _ => b) k (ms.take i) row) (k:=m.2.toNat) (by omega) j b
      have hcl:m.2.toNat < (cellsG bcd (upRow (fun _ => b) k (ms.take i) row) j).length:=by rw [cellsG_len bcd_one]; omega
      rw [← hus] at hset
      (refine WV_cond rfl (fun h => ?_) (fun h => ?_))
      ·(repeat ((first | refine Va ?_ | refine Vb ?_ | refine Vc ?_ | refine Vd ?_ | refine Ve ?_ | refine Vf ?_); (try simp only [go_sem,hP,hgd,placesC,placeC,Int.toNat_natCast,Int.ofNat_lt,hi,Int.natCast_nonneg,List.length_map,c2,c3,hmt,hcl,Nat.mul_one,Nat.zero_add,Nat.add_zero,hset,hw3]); (repeat refine qJ ?_)))
       refine ⟨i + 1,by omega,by omega,?_⟩
       (refine Sub_of (by simp only [go_sem]; ((repeat' (first | exact EnvLe_e0 _ _ | refine EnvLe_upd ?_ ?_)) <;> ((try simp only [upd_app,e0_app,o0_app,Nat.reduceEqDiff,reduceIte]); first | exact AWk.refl _ _ | exact AWk.int (by omega) | exact AWk.int (by rw [w64 (by omega) (by omega)]; omega) | exact AWk.grow rfl | exact AWk.nil _ | exact AWk.of (by simp [placesC])))) (by simp only [go_sem]; exact ObjLe_au))
      ·simp [c1,c2,c3] at h
     ·rw [if_neg hc] at hus
      (refine WV_cond rfl (fun h => ?_) (fun h => ?_))
      ·simp at h; exact (hc ⟨h.1.1,h.1.2,h.2⟩).elim
      ·(repeat ((first | refine Va ?_ | refine Vb ?_ | refine Vc ?_ | refine Vd ?_ | refine Ve ?_ | refine Vf ?_); (try simp only [go_sem,hP,hw3]); (repeat refine qJ ?_)))
       refine ⟨i + 1,by omega,by omega,?_⟩
       rw [hus]
       (refine Sub_of (by simp only [go_sem]; ((repeat' (first | exact EnvLe_e0 _ _ | refine EnvLe_upd ?_ ?_)) <;> ((try simp only [upd_app,e0_app,o0_app,Nat.reduceEqDiff,reduceIte]); first | exact AWk.refl _ _ | exact AWk.int (by omega) | exact AWk.int (by rw [w64 (by omega) (by omega)]; omega) | exact AWk.grow rfl | exact AWk.nil _ | exact AWk.of (by simp [placesC])))) (by simp only [go_sem]; exact ObjLe_au))
    ·have hi:i = ms.length:=by simp at h; omega
     subst hi
     rw [List.take_length] at hur ⊢
     refine WV_exit ?_
     simp only [thenQ,inQ,reduceIte,beq_self_eq_true]
     (refine WV_op ?_; simp only [go_sem,hP]; (repeat refine qJ ?_))
     refine raw_bs (s:=upRow (fun _ => b) k ms row) (x':=.t 62) (e:=5) (by kernel_rfl) (by kernel_rfl) (by kernel_rfl) rfl rfl ?_ ?_
     ·show AV.vport _ (.vw 1 21 0 row.length cap) = _
      unfold AV.vport
      rw [← hur,elemsV_cellsG bcd_one _ 21 (upRow (fun _ => b) k ms row) j cap (by rfl)]
      rfl
     have hlt:(T ++ (upRow (fun _ => b) k ms row ++ [10])).length ≤ 2000000:=by simp; omega
     have hlt2:(upRow (fun _ => b) k ms row ++ [(10:UInt8)]).length ≤ 2000000:=by simp; omega
     simp only [go_sem,List.length_cons,List.length_nil]
     (repeat refine qJ ?_)
     (repeat ((first | refine Va ?_ | refine Vb ?_ | refine Vc ?_ | refine Vd ?_ | refine Ve ?_ | refine Vf ?_); (try simp only [go_sem,hP,hw2]); (repeat refine qJ ?_)))
     refine ⟨k + 1,by omega,by omega,?_⟩
     rw [hT2]
     (refine Sub_of (by simp only [go_sem]; ((repeat' (first | exact EnvLe_e0 _ _ | refine EnvLe_upd ?_ ?_)) <;> ((try simp only [upd_app,e0_app,o0_app,Nat.reduceEqDiff,reduceIte]); first | exact AWk.refl _ _ | exact AWk.int (by omega) | exact AWk.int (by rw [w64 (by omega) (by omega)]; omega) | exact AWk.grow rfl | exact AWk.nil _ | exact AWk.of (by simp [placesC])))) (by simp only [go_sem]; exact ObjLe_au))
  ·have hk:k = rows.length:=by simp at h; omega
   subst hk
   rw [List.take_of_length_le (by rw [hlu]; exact Nat.le_refl _)]
   (repeat ((first | refine Va ?_ | refine Vb ?_ | refine Vc ?_ | refine Vd ?_ | refine Ve ?_ | refine Vf ?_); (try simp only [go_sem,hP]); (repeat refine qJ ?_)))
   (refine WV_ret ?_; simp only [thenQ,inQ,RetQ,RetOk,resAll,resA]; simp only [go_sem,tupA,AV.port,AV.portL,exists_eq_left']; (first | exact AVle.of rfl | refine AVle.of ?_ | skip))
set_option maxRecDepth 20000 in
set_option maxHeartbeats 16000000 in
theorem told33 (rows right:List (List UInt8)) (ms:List (Int × Int)) (hr:rows.length ≤ 100) (hrl:∀ l ∈ rows,l.length ≤ 100) (hm:ms.length ≤ 1000000) (hri:right.length = rows.length) (hrr:∀ i,i < rows.length → (right.getD i []).length = (rows.getD i []).length):FSpec Tryd.prog 33 [.c (strsV rows),.c (strsV right),.c (placesC ms)] (.c (strsV (upR (fun i k => byAt right (i,k)) rows ms))):=by
 have hmax:maxLen = 9223372036854775807:=rfl
 obtain ⟨f,hf⟩ : ∃ f:Nat → Nat → UInt8,f = fun i k => byAt right (i,k):=⟨_,rfl⟩
 rw [← hf]
 have hlu:=upR_len f rows ms
 have hsn:=@upR_take f rows ms
 refine FSpec_of c33 (Nat.le_refl _) (by decide) fun C hP hN hC hL => ?_; rw [init_st]
 simp only [ir33,strsV]
 (repeat ((first | refine Va ?_ | refine Vb ?_ | refine Vc ?_ | refine Vd ?_ | refine Ve ?_ | refine Vf ?_); (try simp only [go_sem,hP]); (repeat refine qJ ?_)))
 refine WV_nilslot 7 74 9 1 (by decide) (by decide) rfl rfl ?_
 simp only [go_sem]
 refine WV_loopS (fun k:Nat => ⟨upd (upd (upd (upd (upd e0 0 (.c (.sl 1 (rows.map fun t => [CD.str t])))) 1 (.c (.sl 1 (right.map fun t => [CD.str t])))) 2 (.c (placesC ms))) 8 (iv k)) 7 (.gr 74),upd o0 74 (.grow 9 1 (((upR f rows ms).take k).map fun t => [CD.str t]))⟩) (fun k => k ≤ rows.length) (fun k => rows.length - k) 0 (Nat.zero_le _) ?_ ?_
 ·exact Sub_au
 ·intro k hk0
  (repeat ((first | refine Va ?_ | refine Vb ?_ | refine Vc ?_ | refine Vd ?_ | refine Ve ?_ | refine Vf ?_); (try simp only [go_sem,hP,List.length_map]); (repeat refine qJ ?_)))
  (refine WV_cond rfl (fun h => ?_) (fun h => ?_))
  ·have hk:k < rows.length:=by simpa using h
   have hk2:k < right.length:=by omega
   have hw2:=w64 (n:=(k:Int) + 1) (by omega) (by omega)
   have hs:=hsn hk
   have hrk:=hrl _ (List.getElem_mem hk)
   have hrr2:=hrr k hk
   rw [List.getD_eq_getElem?_getD,List.getD_eq_getElem?_getD,List.getElem?_eq_getElem hk,List.getElem?_eq_getElem hk2] at hrr2
   have hrr2:(right[k]).length = (rows[k]).length:=hrr2
   have hfk:∀ c,c < (right[k]).length → f k c = (right[k]).getD c 0:=fun c hc => by
    rw [hf]
    show (right.getD k []).getD c 0 = _
    rw [List.getD_eq_getElem?_getD (l:=right),List.getElem?_eq_getElem hk2]; rfl
   have n1:=strs_one ((upR f rows ms).take k)
   have n2:(((upR f rows ms).take k).map fun t => [CD.str t]).length = k:=by rw [List.length_map,List.length_take]; omega
   have hs2:((upR f rows ms).take (k + 1)).map (fun t => [CD.str t]) = ((upR f rows ms).take k).map (fun t => [CD.str t]) ++ [[CD.str (upRow (f k) k ms rows[k])]]:=by rw [hs,List.map_append]; rfl
   generalize (((upR f rows ms).take k).map fun t => [CD.str t]) = TX at n1 n2 hs2
   generalize hrow:rows[k] = row at hrk hs2 hrr2
   generalize hrgt:right[k] = rgt at hrr2 hfk
   (refine WV_skip ?_; simp only [go_sem])
   refine WV_seq_ (WV_block (WV_seq_ ?_))
   (refine WV_op ?_; simp only [go_sem,hP,map_getD hk,hrow,Int.toNat_natCast,Int.ofNat_lt,hk,Int.natCast_nonneg,List.length_map]; (repeat refine qJ ?_))
   refine raw_sb (s:=row) (x':=.t 20) (e:=5) (by kernel_rfl) (by kernel_rfl) (by kernel_rfl) rfl rfl rfl rfl (by omega) ?_
   intro cap j k1 k2 k3
   simp only [go_sem]
   (repeat ((first | refine Va ?_ | refine Vb ?_ | refine Vc ?_ | refine Vd ?_ | refine Ve ?_ | refine Vf ?_); (try simp only [go_sem,hP]); (repeat refine qJ ?_)))
   refine WV_loopS (fun i:Nat => ⟨upd (upd (upd (upd (upd (upd (upd e0 0 (.c (.sl 1 (rows.map fun t => [CD.str t])))) 1 (.c (.sl 1 (right.map fun t => [CD.str t])))) 2 (.c (placesC ms))) 8 (iv k)) 7 (.gr 74)) 9 (.vw 1 21 0 row.length cap)) 10 (iv i),upd (upd o0 74 (.grow 9 1 TX)) 21 (.box (cellsG bcd (upRow (f k) k (ms.take i) row) j))⟩) (fun i => i ≤ ms.length) (fun i => ms.length - i) 0 (Nat.zero_le _) ?_ ?_
   ·(refine Sub_of (by simp only [go_sem]; ((repeat' (first | exact EnvLe_e0 _ _ | refine EnvLe_upd ?_ ?_)) <;> ((try simp only [upd_app,e0_app,o0_app,Nat.reduceEqDiff,reduceIte]); first | exact AWk.refl _ _ | exact AWk.int (by omega) | exact AWk.int (by rw [w64 (by omega) (by omega)]; omega) | exact AWk.grow rfl | exact AWk.nil _ | exact AWk.of (by simp [upRow])))) (by simp only [go_sem]; exact ObjLe_au))
   ·intro i hi0
    have hur:=upRow_len (f k) k (ms.take i) row
    (repeat ((first | refine Va ?_ | refine Vb ?_ | refine Vc ?_ | refine Vd ?_ | refine Ve ?_ | refine Vf ?_); (try simp only [go_sem,hP,placesC,List.length_map]); (repeat refine qJ ?_)))
    (refine WV_cond rfl (fun h => ?_) (fun h => ?_))
    ·have hi:i < ms.length:=by simpa using h
     have hw3:=w64 (n:=(i:Int) + 1) (by omega) (by omega)
     have hgd:(ms.map placeC).getD i [] = placeC ms[i]:=map_getD hi
     have hus:=upRow_snoc (f k) k (ms.take i) ms[i] row
     rw [← List.take_succ_eq_append_getElem hi,hur] at hus
     generalize ms[i] = m at hgd hus
     (refine WV_skip ?_; simp only [go_sem])
     refine WV_seq_ (WV_block (WV_seq_ ?_))
     (refine WV_op ?_; simp only [go_sem,hP,hgd,placesC,placeC,Int.toNat_natCast,Int.ofNat_lt,hi,Int.natCast_nonneg,List.length_map]; (repeat refine qJ ?_))
     by_cases hc:m.1 = (k:Int) ∧ 0 ≤ m.2 ∧ m.2 < (row.length:Int)
     ·rw [if_pos hc] at hus
      obtain ⟨c1,c2,c3⟩:=hc
      have hmt:m.2.toNat < row.length:=by omega
      have hmr:m.2.toNat < rgt.length:=by omega
      have hset:=bcells_set (l:=upRow (f k) k (ms.take i) row) (k:=m.2.toNat) (by omega) j (f k m.2.toNat)
      have hcl:m.2.toNat < (cellsG bcd (upRow (f k) k (ms.take i) row) j).length:=by rw [cellsG_len bcd_one]; omega
      rw [← hus] at hset
      have hfm:=hfk _ hmr
      (refine WV_cond rfl (fun h => ?_) (fun h => ?_))
      ·(repeat ((first | refine Va ?_ | refine Vb ?_ | refine Vc ?_ | refine Vd ?_ | refine Ve ?_ | refine Vf ?_); (try simp only [go_sem,hP,hgd,placesC,placeC,Int.toNat_natCast,Int.ofNat_lt,hi,hk2,hrgt,map_getD hk2,hmr,← hfm,Int.natCast_nonneg,List.length_map,c2,c3,hmt,hcl,Nat.mul_one,Nat.zero_add,Nat.add_zero,hset,hw3]); (repeat refine qJ ?_)))
       refine ⟨i + 1,by omega,by omega,?_⟩
       (refine Sub_of (by simp only [go_sem]; ((repeat' (first | exact EnvLe_e0 _ _ | refine EnvLe_upd ?_ ?_)) <;> ((try simp only [upd_app,e0_app,o0_app,Nat.reduceEqDiff,reduceIte]); first | exact AWk.refl _ _ | exact AWk.int (by omega) | exact AWk.int (by rw [w64 (by omega) (by omega)]; omega) | exact AWk.grow rfl | exact AWk.nil _ | exact AWk.of (by simp [placesC])))) (by simp only [go_sem]; exact ObjLe_au))
      ·simp [c1,c2,c3] at h
     ·rw [if_neg hc] at hus
      (refine WV_cond rfl (fun h => ?_) (fun h => ?_))
      ·simp at h; exact (hc ⟨h.1.1,h.1.2,h.2⟩).elim
      ·(repeat ((first | refine Va ?_ | refine Vb ?_ | refine Vc ?_ | refine Vd ?_ | refine Ve ?_ | refine Vf ?_); (try simp only [go_sem,hP,hw3]); (repeat refine qJ ?_)))
       refine ⟨i + 1,by omega,by omega,?_⟩
       rw [hus]
       (refine Sub_of (by simp only [go_sem]; ((repeat' (first | exact EnvLe_e0 _ _ | refine EnvLe_upd ?_ ?_)) <;> ((try simp only [upd_app,e0_app,o0_app,Nat.reduceEqDiff,reduceIte]); first | exact AWk.refl _ _ | exact AWk.int (by omega) | exact AWk.int (by rw [w64 (by omega) (by omega)]; omega) | exact AWk.grow rfl | exact AWk.nil _ | exact AWk.of (by simp [placesC])))) (by simp only [go_sem]; exact ObjLe_au))
    ·have hi:i = ms.length:=by simp at h; omega
     subst hi
     rw [List.take_length] at hur ⊢
     refine WV_exit ?_
     simp only [thenQ,inQ,reduceIte,beq_self_eq_true]
     (refine WV_op ?_; simp only [go_sem,hP,n1,n2]; (repeat refine qJ ?_))
     refine raw_bs (s:=upRow (f k) k ms row) (x':=.t 71) (e:=5) (by kernel_rfl) (by kernel_rfl) (by kernel_rfl) rfl rfl ?_ ?_
     ·show AV.vport _ (.vw 1 21 0 row.length cap) = _
      unfold AV.vport
      rw [← hur,elemsV_cellsG bcd_one _ 21 (upRow (f k) k ms row) j cap (by rfl)]
      rfl
     simp only [go_sem,n1,n2,List.length_cons,List.length_nil]
     (repeat refine qJ ?_)
     (repeat ((first | refine Va ?_ | refine Vb ?_ | refine Vc ?_ | refine Vd ?_ | refine Ve ?_ | refine Vf ?_); (try simp only [go_sem,hP,hw2,n1,n2]); (repeat refine qJ ?_)))
     refine ⟨k + 1,by omega,by omega,?_⟩
     rw [hs2]
     (refine Sub_of (by simp only [go_sem]; ((repeat' (first | exact EnvLe_e0 _ _ | refine EnvLe_upd ?_ ?_)) <;> ((try simp only [upd_app,e0_app,o0_app,Nat.reduceEqDiff,reduceIte]); first | exact AWk.refl _ _ | exact AWk.int (by omega) | exact AWk.int (by rw [w64 (by omega) (by omega)]; omega) | exact AWk.grow rfl | exact AWk.nil _ | exact AWk.of (by simp [placesC])))) (by simp only [go_sem]; exact ObjLe_au))
  ·have hk:k = rows.length:=by simp at h; omega
   subst hk
   rw [List.take_of_length_le (by rw [hlu]; exact Nat.le_refl _)]
   (repeat ((first | refine Va ?_ | refine Vb ?_ | refine Vc ?_ | refine Vd ?_ | refine Ve ?_ | refine Vf ?_); (try simp only [go_sem,hP]); (repeat refine qJ ?_)))
   (refine WV_ret ?_; simp only [thenQ,inQ,RetQ,RetOk,resAll,resA]; simp only [go_sem,tupA,AV.port,AV.portL,exists_eq_left']; (first | exact AVle.of rfl | refine AVle.of ?_ | skip))
end Go.Proofs.YtlmfdmlochpfcaaDoor

namespace Go.Proofs.YtlmfdmlochpfcaaDoor
open Go Go.V
abbrev o34_0:List Ins:=[⟨some 2,.mv (.k (.c (.raw (.slice none 0 0)))),none,true⟩]
abbrev o34_1:List Ins:=[⟨some 3,.mv (.k (.c (.raw (.slice none 0 0)))),none,true⟩]
abbrev o34_2:List Ins:=[⟨some 4,.mv (.k (.c (.int .i64 0))),none,true⟩]
abbrev o34_3:List Ins:=[⟨some 5,.mv (.k (.c (.int .i64 0))),none,true⟩]
abbrev o34_4:List Ins:=[⟨some 6,.mv (.t 5),none,true⟩,
 ⟨some 7,.mv (.t 0),none,true⟩,
 ⟨some 8,.prim .slen [(.t 7)],none,true⟩,
 ⟨some 9,.bin .lss (.t 6) (.t 8),none,true⟩]
abbrev v34_5:VC:=(.cond (.t 9) .skip (.exit 0))
abbrev o34_6:List Ins:=[⟨some 12,.mv (.t 0),none,true⟩,
 ⟨some 13,.mv (.t 5),none,true⟩,
 ⟨some 14,.prim .sidx [(.t 12),(.t 13)],none,true⟩,
 ⟨some 15,.bin .eql (.t 14) (.k (.c (.int .u8 10))),none,true⟩]
abbrev o34_7:List Ins:=[⟨some 16,.mv (.t 3),none,true⟩,
 ⟨some 17,.mv (.t 0),none,true⟩,
 ⟨some 18,.mv (.t 4),none,true⟩,
 ⟨some 19,.mv (.t 5),none,true⟩,
 ⟨some 20,.prim (.sslc true true) [(.t 17),(.t 18),(.t 19)],none,true⟩,
 ⟨some 21,.bsl 9 1 [(.t 20)],none,true⟩,
 ⟨some 22,.app 9 1 16 (.t 16) (.t 21),none,true⟩,
 ⟨some 3,.mv (.t 22),none,true⟩]
abbrev o34_8:List Ins:=[⟨some 23,.mv (.t 5),none,true⟩,
 ⟨some 24,.bin .add (.t 23) (.k (.c (.int .i64 1))),none,true⟩,
 ⟨some 4,.mv (.t 24),none,true⟩]
abbrev v34_9:VC:=(.seq (.ops o34_7) (.ops o34_8))
abbrev v34_10:VC:=(.cond (.t 15) v34_9 .skip)
abbrev v34_11:VC:=(.seq (.ops o34_6) v34_10)
abbrev o34_12:List Ins:=[⟨some 10,.mv (.t 5),none,true⟩,
 ⟨some 11,.bin .add (.t 10) (.k (.c (.int .i64 1))),none,true⟩,
 ⟨some 5,.mv (.t 11),none,true⟩]
abbrev v34_13:VC:=(.seq (.block 1 v34_11) (.ops o34_12))
abbrev v34_14:VC:=(.seq (.seq (.ops o34_4) v34_5) v34_13)
-- K34_1: changed and kept: [5,3,4]
abbrev K34_1:List Nat:=[0]
abbrev v34_15:VC:=(.loop v34_14)
abbrev v34_16:VC:=(.block 0 v34_15)
abbrev o34_17:List Ins:=[⟨some 25,.mv (.t 3),none,true⟩,
 ⟨some 2,.mv (.t 25),none,true⟩]
abbrev v34_18:VC:=(.seq (.ops o34_17) .ret)
abbrev v34_19:VC:=(.seq (.seq (.ops o34_3) v34_16) v34_18)
abbrev v34_20:VC:=(.seq (.ops o34_2) v34_19)
abbrev v34_21:VC:=(.seq (.ops o34_1) v34_20)
def ir34:FC:=⟨1,26,[.t 2],(.seq (.ops o34_0) v34_21)⟩
abbrev o17_0:List Ins:=[⟨some 2,.mv (.k (.c (.str []))),none,true⟩,
 ⟨some 3,.mv (.k (.c (.raw (.slice none 0 0)))),none,true⟩,
 ⟨some 4,.mv (.k (.c (.bool false))),none,true⟩]
abbrev o17_1:List Ins:=[⟨some 11,.mv (.t 0),none,true⟩,
 ⟨some 12,.call (.k (.fn 24 [])) [(.t 11)],none,true⟩,
 ⟨some 10,.mv (.t 12),none,true⟩,
 ⟨some 13,.ext (.t 10) 0,none,true⟩,
 ⟨some 14,.ext (.t 10) 1,none,true⟩,
 ⟨some 5,.mv (.t 13),none,true⟩,
 ⟨some 6,.mv (.t 14),none,true⟩]
abbrev o17_2:List Ins:=[⟨some 15,.mv (.t 6),none,true⟩,
 ⟨some 16,.bin .neq (.t 15) (.k (.c (.int .i64 0))),none,true⟩,
 ⟨some 17,.mv (.t 16),none,true⟩,
 ⟨some 18,.mv (.t 5),(some (17,false)),true⟩,
 ⟨some 19,.call (.k (.fn 26 [])) [(.t 18)],(some (17,false)),true⟩,
 ⟨some 20,.pick (.t 17) (.k (.c (.bool true))) (.t 19),none,true⟩]
abbrev o17_3:List Ins:=[⟨some 2,.mv (.k (.c (.str []))),none,true⟩,
 ⟨some 3,.mv (.k (.c (.raw (.slice none 0 0)))),none,true⟩,
 ⟨some 4,.mv (.k (.c (.bool false))),none,true⟩]
abbrev v17_4:VC:=(.seq (.ops o17_3) .ret)
abbrev v17_5:VC:=(.cond (.t 20) v17_4 .skip)
abbrev o17_6:List Ins:=[⟨some 7,.mv (.k (.c (.int .i64 0))),none,true⟩]
abbrev o17_7:List Ins:=[⟨some 8,.mv (.k (.c (.int .i64 0))),none,true⟩]
abbrev o17_8:List Ins:=[⟨some 21,.mv (.t 8),none,true⟩,
 ⟨some 22,.mv (.t 5),none,true⟩,
 ⟨some 23,.prim .slen [(.t 22)],none,true⟩,
 ⟨some 24,.bin .lss (.t 21) (.t 23),none,true⟩]
abbrev v17_9:VC:=(.cond (.t 24) .skip (.exit 0))
abbrev o17_10:List Ins:=[⟨some 27,.mv (.t 5),none,true⟩,
 ⟨some 28,.mv (.t 8),none,true⟩,
 ⟨some 29,.prim .sidx [(.t 27),(.t 28)],none,true⟩,
 ⟨some 30,.bin .eql (.t 29) (.k (.c (.int .u8 10))),none,true⟩]
abbrev o17_11:List Ins:=[⟨some 31,.mv (.t 3),none,true⟩,
 ⟨some 32,.mv (.t 5),none,true⟩,
 ⟨some 33,.mv (.t 7),none,true⟩,
 ⟨some 34,.mv (.t 8),none,true⟩,
 ⟨some 35,.prim (.sslc true true) [(.t 32),(.t 33),(.t 34)],none,true⟩,
 ⟨some 36,.bsl 9 1 [(.t 35)],none,true⟩,
 ⟨some 37,.app 9 1 16 (.t 31) (.t 36),none,true⟩,
 ⟨some 3,.mv (.t 37),none,true⟩]
abbrev o17_12:List Ins:=[⟨some 38,.mv (.t 8),none,true⟩,
 ⟨some 39,.bin .add (.t 38) (.k (.c (.int .i64 1))),none,true⟩,
 ⟨some 7,.mv (.t 39),none,true⟩]
abbrev v17_13:VC:=(.seq (.ops o17_11) (.ops o17_12))
abbrev v17_14:VC:=(.cond (.t 30) v17_13 .skip)
abbrev v17_15:VC:=(.seq (.ops o17_10) v17_14)
abbrev o17_16:List Ins:=[⟨some 25,.mv (.t 8),none,true⟩,
 ⟨some 26,.bin .add (.t 25) (.k (.c (.int .i64 1))),none,true⟩,
 ⟨some 8,.mv (.t 26),none,true⟩]
abbrev v17_17:VC:=(.seq (.block 1 v17_15) (.ops o17_16))
abbrev v17_18:VC:=(.seq (.seq (.ops o17_8) v17_9) v17_17)
-- K17_1: changed and kept: [8,3,7]
abbrev v17_19:VC:=(.loop v17_18)
abbrev v17_20:VC:=(.block 0 v17_19)
abbrev o17_21:List Ins:=[⟨some 40,.mv (.t 7),none,true⟩,
 ⟨some 41,.mv (.t 5),none,true⟩,
 ⟨some 42,.prim .slen [(.t 41)],none,true⟩,
 ⟨some 43,.bin .neq (.t 40) (.t 42),none,true⟩,
 ⟨some 44,.mv (.t 43),none,true⟩,
 ⟨some 45,.mv (.t 3),(some (44,false)),true⟩,
 ⟨some 46,.len (.t 45),(some (44,false)),true⟩,
 ⟨some 47,.mv (.t 0),(some (44,false)),true⟩,
 ⟨some 48,.len (.t 47),(some (44,false)),true⟩,
 ⟨some 49,.bin .add (.t 48) (.k (.c (.int .i64 1))),(some (44,false)),true⟩,
 ⟨some 50,.bin .neq (.t 46) (.t 49),(some (44,false)),true⟩,
 ⟨some 51,.pick (.t 44) (.k (.c (.bool true))) (.t 50),none,true⟩]
abbrev o17_22:List Ins:=[⟨some 2,.mv (.k (.c (.str []))),none,true⟩,
 ⟨some 3,.mv (.k (.c (.raw (.slice none 0 0)))),none,true⟩,
 ⟨some 4,.mv (.k (.c (.bool false))),none,true⟩]
abbrev v17_23:VC:=(.seq (.ops o17_22) .ret)
abbrev v17_24:VC:=(.cond (.t 51) v17_23 .skip)
abbrev o17_25:List Ins:=[⟨some 9,.mv (.k (.c (.int .i64 0))),none,true⟩]
abbrev o17_26:List Ins:=[⟨some 52,.mv (.t 9),none,true⟩,
 ⟨some 53,.mv (.t 3),none,true⟩,
 ⟨some 54,.len (.t 53),none,true⟩,
 ⟨some 55,.bin .lss (.t 52) (.t 54),none,true⟩]
abbrev v17_27:VC:=(.cond (.t 55) .skip (.exit 2))
abbrev o17_28:List Ins:=[⟨some 58,.mv (.t 3),none,false⟩,
 ⟨some 59,.mv (.t 9),none,false⟩,
 ⟨some 60,.ia 1 (.t 58) (.t 59),none,false⟩,
 ⟨some 61,.ld true 1 (.t 60),none,false⟩,
 ⟨some 62,.prim .slen [(.t 61)],none,false⟩,
 ⟨some 63,.mv (.t 3),none,false⟩,
 ⟨some 64,.ia 1 (.t 63) (.k (.c (.int .i64 0))),none,false⟩,
 ⟨some 65,.ld true 1 (.t 64),none,false⟩,
 ⟨some 66,.prim .slen [(.t 65)],none,false⟩,
 ⟨some 67,.bin .neq (.t 62) (.t 66),none,true⟩,
 ⟨some 68,.mv (.t 67),none,true⟩,
 ⟨some 69,.mv (.t 3),(some (68,false)),false⟩,
 ⟨some 70,.mv (.t 9),(some (68,false)),false⟩,
 ⟨some 71,.ia 1 (.t 69) (.t 70),(some (68,false)),true⟩,
 ⟨some 72,.ld true 1 (.t 71),(some (68,false)),true⟩,
 ⟨some 73,.prim .slen [(.t 72)],(some (68,false)),true⟩,
 ⟨some 74,.bin .lss (.t 73) (.k (.c (.int .i64 2))),(some (68,false)),true⟩,
 ⟨some 75,.pick (.t 68) (.k (.c (.bool true))) (.t 74),none,true⟩]
abbrev o17_29:List Ins:=[⟨some 2,.mv (.k (.c (.str []))),none,true⟩,
 ⟨some 3,.mv (.k (.c (.raw (.slice none 0 0)))),none,true⟩,
 ⟨some 4,.mv (.k (.c (.bool false))),none,true⟩]
abbrev v17_30:VC:=(.seq (.ops o17_29) .ret)
abbrev v17_31:VC:=(.cond (.t 75) v17_30 .skip)
abbrev v17_32:VC:=(.seq (.dops o17_28) v17_31)
abbrev o17_33:List Ins:=[⟨some 56,.mv (.t 9),none,true⟩,
 ⟨some 57,.bin .add (.t 56) (.k (.c (.int .i64 1))),none,true⟩,
 ⟨some 9,.mv (.t 57),none,true⟩]
abbrev v17_34:VC:=(.seq (.block 3 v17_32) (.ops o17_33))
abbrev v17_35:VC:=(.seq (.seq (.ops o17_26) v17_27) v17_34)
-- K17_2: changed and kept: [9,3]
abbrev v17_36:VC:=(.loop v17_35)
abbrev v17_37:VC:=(.block 2 v17_36)
abbrev o17_38:List Ins:=[⟨some 76,.mv (.t 5),none,true⟩,
 ⟨some 77,.mv (.t 3),none,true⟩,
 ⟨some 2,.mv (.t 76),none,true⟩,
 ⟨some 3,.mv (.t 77),none,true⟩,
 ⟨some 4,.mv (.k (.c (.bool true))),none,true⟩]
abbrev v17_39:VC:=(.seq (.ops o17_38) .ret)
abbrev v17_40:VC:=(.seq (.seq (.ops o17_25) v17_37) v17_39)
abbrev v17_41:VC:=(.seq (.seq (.ops o17_21) v17_24) v17_40)
abbrev v17_42:VC:=(.seq (.seq (.ops o17_7) v17_20) v17_41)
abbrev v17_43:VC:=(.seq (.ops o17_6) v17_42)
abbrev v17_44:VC:=(.seq (.seq (.ops o17_2) v17_5) v17_43)
abbrev v17_45:VC:=(.seq (.ops o17_1) v17_44)
def ir17:FC:=⟨1,78,[.t 2,.t 3,.t 4],(.seq (.ops o17_0) v17_45)⟩
theorem c34:compM Tryd.prog [] 34 = some ir34:=by kernel_rfl
theorem c17:compM Tryd.prog [] 17 = some ir17:=by kernel_rfl
attribute [local go_sem] Nat.reduceEqDiff Nat.reduceAdd Nat.reduceMul reduceIte Nat.reduceLeDiff Nat.reduceLT Nat.reduceBEq reduceCtorEq
def lnK (s:List UInt8):Nat → List (List UInt8) × Nat
 | 0 => ([],0)
 | i + 1 => if s.getD i 0 = 10 then ((lnK s i).1 ++ [(s.take i).drop (lnK s i).2],i + 1) else lnK s i
theorem lnK_le (s:List UInt8):∀ i,(lnK s i).2 ≤ i ∧ (lnK s i).1.length ≤ i
 | 0 => ⟨Nat.le_refl _,Nat.le_refl _⟩
 | i + 1 => by
  have:=lnK_le s i
  unfold lnK
  split
  ·simp only [List.length_append,List.length_cons,List.length_nil]; omega
  ·omega
theorem lnK_pre (a c:List UInt8):∀ i,i ≤ a.length → lnK (a ++ c) i = lnK a i
 | 0,_ => rfl
 | i + 1,h => by
  have ih:=lnK_pre a c i (by omega)
  unfold lnK
  rw [ih,List.getD_eq_getElem?_getD,List.getElem?_append_left (by omega),← List.getD_eq_getElem?_getD,List.take_append_of_le_length (by omega)]
theorem lnK_line {T l c:List UInt8} {p:List (List UInt8) × Nat} (h:lnK T T.length = p) (hl:(10:UInt8) ∉ l):∀ i,i ≤ l.length → lnK (T ++ (l ++ c)) (T.length + i) = p
 | 0,_ => by rw [Nat.add_zero,lnK_pre _ _ _ (Nat.le_refl _),h]
 | i + 1,hi => by
  have ih:=lnK_line (c:=c) h hl i (by omega)
  rw [← Nat.add_assoc]
  unfold lnK
  rw [if_neg,ih]
  rw [List.getD_eq_getElem?_getD,List.getElem?_append_right (by omega),Nat.add_sub_cancel_left,List.getElem?_append_left (by omega),List.getElem?_eq_getElem (by omega)]
  exact fun e => hl (e ▸ List.getElem_mem _)
theorem lnK_snoc {T l:List UInt8} {rows:List (List UInt8)} (h:lnK T T.length = (rows,T.length)) (hl:(10:UInt8) ∉ l):lnK (T ++ (l ++ [10])) (T ++ (l ++ [10])).length = (rows ++ [l],(T ++ (l ++ [10])).length):=by
 have h1:=lnK_line (c:=[10]) h hl l.length (Nat.le_refl _)
 have e:(T ++ (l ++ [(10:UInt8)])).length = (T.length + l.length) + 1:=by simp; omega
 rw [e]
 unfold lnK
 rw [if_pos,h1]
 ·refine Prod.ext ?_ rfl
  simp only
  congr 2
  rw [← List.append_assoc,List.take_append_of_le_length (by simp),List.take_of_length_le (by simp),List.drop_append_of_le_length (by simp),List.drop_of_length_le (by simp),List.nil_append]
 ·rw [List.getD_eq_getElem?_getD,List.getElem?_append_right (by omega),Nat.add_sub_cancel_left,List.getElem?_append_right (by omega),Nat.sub_self]; rfl
theorem lnK_text:∀ (k:Nat) (rows:List (List UInt8)),rows.length = k → (∀ l ∈ rows,(10:UInt8) ∉ l) → lnK (textG rows) (textG rows).length = (rows,(textG rows).length)
 | 0,rows,hk,_ => by
  have:=List.eq_nil_of_length_eq_zero hk
  subst this; rfl
 | k + 1,rows,hk,h => by
  have hne:rows ≠ []:=fun e => by rw [e] at hk; simp at hk
  have hd:=List.dropLast_concat_getLast hne
  have ih:=lnK_text k rows.dropLast (by rw [List.length_dropLast,hk]; rfl) fun l hl => h l ((List.dropLast_sublist rows).subset hl)
  have hl:=h _ (List.getLast_mem hne)
  generalize rows.getLast hne = l at hd hl
  generalize rows.dropLast = R at hd ih
  subst hd
  have e:textG (R ++ [l]) = textG R ++ (l ++ [10]):=by unfold textG; rw [List.flatMap_append]; simp
  rw [e]
  exact lnK_snoc ih hl
theorem SOk.no10 {rows:List (List UInt8)} {w:Nat} (h:SOk rows w):∀ l ∈ rows,(10:UInt8) ∉ l:=by
 intro l hl hc
 have:=h.byte l hl 10 hc
 unfold BOk at this
 revert this; decide
theorem lines_sok {rows:List (List UInt8)} {w:Nat} (h:SOk rows w):lnK (textG rows) (textG rows).length = (rows,(textG rows).length):=lnK_text _ rows rfl h.no10
theorem lnK_succ {s:List UInt8} {i:Nat} (h:i < s.length):lnK s (i + 1) = if s[i] = 10 then ((lnK s i).1 ++ [(s.take i).drop (lnK s i).2],i + 1) else lnK s i:=by
 conv => lhs; unfold lnK
 rw [str_at h]
set_option maxRecDepth 20000 in
set_option maxHeartbeats 16000000 in
theorem lines34 (s:List UInt8) (hs:s.length ≤ 100000):FSpec Tryd.prog 34 [sv s] (.c (strsV (lnK s s.length).1)):=by
 have hmax:maxLen = 9223372036854775807:=rfl
 refine FSpec_of c34 (Nat.le_refl _) (by decide) fun C hP hN hC hL => ?_; rw [init_st]
 simp only [ir34]
 (repeat ((first | refine Va ?_ | refine Vb ?_ | refine Vc ?_ | refine Vd ?_ | refine Ve ?_ | refine Vf ?_); (try simp only [go_sem,hP]); (repeat refine qJ ?_)))
 refine WV_nilslot 3 22 9 1 (by decide) (by decide) rfl rfl ?_
 simp only [go_sem]
 refine WV_loopK K34_1 [22] (fun k:Nat => k ≤ s.length) (fun k => s.length - k) (fun k => [(5,iv k),(4,iv (lnK s k).2),(3,.gr 22)]) (fun k => [(22,.grow 9 1 ((lnK s k).1.map fun r => [CD.str r]))]) 0 (Nat.zero_le _) ?_ ?_
 ·(refine Sub_of (by simp only [go_sem]; ((repeat' (first | exact EnvLe_e0 _ _ | refine EnvLe_upd ?_ ?_)) <;> ((try simp only [upd_app,e0_app,o0_app,Nat.reduceEqDiff,reduceIte]); first | exact AWk.refl _ _ | exact AWk.int (by omega) | exact AWk.int (by rw [w64 (by omega) (by omega)]; omega) | exact AWk.grow rfl | exact AWk.nil _ | exact AWk.of (by simp [lnK])))) (by simp only [go_sem]; exact ObjLe_au))
 ·intro k hk0
  simp only [go_sem]
  (repeat ((first | refine Va ?_ | refine Vb ?_ | refine Vc ?_ | refine Vd ?_ | refine Ve ?_ | refine Vf ?_); (try simp only [go_sem,hP]); (repeat refine qJ ?_)))
  (refine WV_cond rfl (fun h => ?_) (fun h => ?_))
  ·have hk:k < s.length:=by simpa using h
   have hst:=str_at hk
   have hsn:=lnK_succ hk
   have hw2:=w64 (n:=(k:Int) + 1) (by omega) (by omega)
   obtain ⟨q1,q2⟩:=lnK_le s k
   have n1:=strs_one (lnK s k).1
   generalize lnK s k = p at hsn q1 q2 n1
   generalize s[k] = c at hst hsn
   (refine WV_skip ?_; simp only [go_sem])
   refine WV_seq_ (WV_block (WV_seq_ ?_))
   (refine WV_op ?_; simp only [go_sem,hP,hst,Int.toNat_natCast,Int.ofNat_lt,hk,Int.natCast_nonneg]; (repeat refine qJ ?_))
   by_cases hc:c = 10
   ·subst hc
    rw [if_pos rfl,List.drop_take] at hsn
    (refine WV_cond rfl (fun h => ?_) (fun h => ?_))
    ·(repeat ((first | refine Va ?_ | refine Vb ?_ | refine Vc ?_ | refine Vd ?_ | refine Ve ?_ | refine Vf ?_); (try simp only [go_sem,hP,Int.toNat_natCast,n1,List.length_map,hw2]); (repeat refine qJ ?_)))
     refine ⟨k + 1,by omega,by omega,?_⟩
     rw [hsn]
     exact Sub_au
    ·simp at h
   ·have hcb:((c.toNat:Int) == 10) = false:=by
     rw [beq_eq_false_iff_ne]
     exact fun e => hc (UInt8.toNat_inj.1 (by show _ = 10; omega))
    rw [if_neg hc] at hsn
    (refine WV_cond rfl (fun h => ?_) (fun h => ?_))
    ·rw [hcb] at h; simp at h
    ·(repeat ((first | refine Va ?_ | refine Vb ?_ | refine Vc ?_ | refine Vd ?_ | refine Ve ?_ | refine Vf ?_); (try simp only [go_sem,hP,hw2]); (repeat refine qJ ?_)))
     refine ⟨k + 1,by omega,by omega,?_⟩
     rw [hsn]
     exact Sub_au
  ·have hk:k = s.length:=by simp at h; omega
   subst hk
   (repeat ((first | refine Va ?_ | refine Vb ?_ | refine Vc ?_ | refine Vd ?_ | refine Ve ?_ | refine Vf ?_); (try simp only [go_sem,hP]); (repeat refine qJ ?_)))
   (refine WV_ret ?_; simp only [thenQ,inQ,RetQ,RetOk,resAll,resA]; simp only [go_sem,tupA,AV.port,AV.portL,exists_eq_left']; (first | exact AVle.of rfl | refine AVle.of ?_ | skip))
set_option maxRecDepth 20000 in
set_option maxHeartbeats 16000000 in
theorem good17 {ts:List (List UInt8)} (hts:∀ s ∈ ts,s.length ≤ 1000000) (htl:ts.length ≤ 1000000) {rows:List (List UInt8)} {w:Nat} (hok:SOk rows w) (hrl:rows.length = ts.length + 1) (hwr:FSpec Tryd.prog 24 [.c (strsV ts)] (.tup [.c (.str (textG rows)),iv 0])):FSpec Tryd.prog 17 [.c (strsV ts)] (.tup [sv (textG rows),.c (strsV rows),bv true]):=by
 have hmax:maxLen = 9223372036854775807:=rfl
 have hln:=lines_sok hok
 have h41:=hok.len
 have h32:=hok.w32
 have h2:=hok.w2
 have htl2:=textG_length rows w hok.row
 have htl3:rows.length * (w + 1) ≤ 41 * 33:=Nat.mul_le_mul h41 (by omega)
 have hrow:=hok.row
 generalize hS:textG rows = s at hln htl2 hwr ⊢
 have hs2:s.length ≤ 1353:=by omega
 have hlg:=large26 s
 refine FSpec_ofP c17 (Nat.le_refl _) (by decide) fun C hP hN hC hpin hL => ?_; rw [init_st]
 simp only [ir17,strsV]
 (repeat ((first | refine Va ?_ | refine Vb ?_ | refine Vc ?_ | refine Vd ?_ | refine Ve ?_ | refine Vf ?_); (try simp only [go_sem,hP]); (repeat refine qJ ?_)))
 have hwr':FSpec Tryd.prog 24 [.c (.sl 1 (ts.map fun t => [CD.str t]))] (.tup [.c (.str s),iv 0]):=hwr
 (refine AS_pu (hwr') ?_; simp only [go_sem,hP]; (repeat refine qJ ?_); (repeat ((first | refine Va ?_ | refine Vb ?_ | refine Vc ?_ | refine Vd ?_ | refine Ve ?_ | refine Vf ?_); (try simp only [go_sem,hP]); (repeat refine qJ ?_))))
 (refine AG_pu (fun hG => hlg) ?_; simp only [go_sem,hP]; (repeat refine qJ ?_); (repeat ((first | refine Va ?_ | refine Vb ?_ | refine Vc ?_ | refine Vd ?_ | refine Ve ?_ | refine Vf ?_); (try simp only [go_sem,hP]); (repeat refine qJ ?_))))
 (refine WV_cond rfl (fun h => ?_) (fun h => ?_))
 ·simp at h; omega
 (repeat ((first | refine Va ?_ | refine Vb ?_ | refine Vc ?_ | refine Vd ?_ | refine Ve ?_ | refine Vf ?_); (try simp only [go_sem,hP]); (repeat refine qJ ?_)))
 refine WV_nilslot 3 37 9 1 (by decide) (by decide) rfl rfl ?_
 simp only [go_sem]
 refine WV_loopS (fun k:Nat => ⟨upd (upd (upd (upd (upd e0 0 (.c (.sl 1 (ts.map fun t => [CD.str t])))) 5 (sv s)) 8 (iv k)) 7 (iv (lnK s k).2)) 3 (.gr 37),upd o0 37 (.grow 9 1 ((lnK s k).1.map fun r => [CD.str r]))⟩) (fun k => k ≤ s.length) (fun k => s.length - k) 0 (Nat.zero_le _) ?_ ?_
 ·(refine Sub_of (by simp only [go_sem]; ((repeat' (first | exact EnvLe_e0 _ _ | refine EnvLe_upd ?_ ?_)) <;> ((try simp only [upd_app,e0_app,o0_app,Nat.reduceEqDiff,reduceIte]); first | exact AWk.refl _ _ | exact AWk.int (by omega) | exact AWk.int (by rw [w64 (by omega) (by omega)]; omega) | exact AWk.grow rfl | exact AWk.nil _ | exact AWk.of (by simp [lnK])))) (by simp only [go_sem]; exact ObjLe_au))
 intro k hk0
 (repeat ((first | refine Va ?_ | refine Vb ?_ | refine Vc ?_ | refine Vd ?_ | refine Ve ?_ | refine Vf ?_); (try simp only [go_sem,hP]); (repeat refine qJ ?_)))
 (refine WV_cond rfl (fun h => ?_) (fun h => ?_))
 ·have hk:k < s.length:=by simpa using h
  have hst:=str_at hk
  have hsn:=lnK_succ hk
  have hw2:=w64 (n:=(k:Int) + 1) (by omega) (by omega)
  obtain ⟨q1,q2⟩:=lnK_le s k
  have n1:=strs_one (lnK s k).1
  generalize lnK s k = p at hsn q1 q2 n1
  generalize s[k] = c at hst hsn
  (refine WV_skip ?_; simp only [go_sem])
  refine WV_seq_ (WV_block (WV_seq_ ?_))
  (refine WV_op ?_; simp only [go_sem,hP,hst,Int.toNat_natCast,Int.ofNat_lt,hk,Int.natCast_nonneg]; (repeat refine qJ ?_))
  by_cases hc:c = 10
  ·subst hc
   rw [if_pos rfl,List.drop_take] at hsn
   (refine WV_cond rfl (fun h => ?_) (fun h => ?_))
   ·(repeat ((first | refine Va ?_ | refine Vb ?_ | refine Vc ?_ | refine Vd ?_ | refine Ve ?_ | refine Vf ?_); (try simp only [go_sem,hP,Int.toNat_natCast,n1,List.length_map,hw2]); (repeat refine qJ ?_)))
    refine ⟨k + 1,by omega,by omega,?_⟩
    rw [hsn]
    exact Sub_au
   ·simp at h
  ·have hcb:((c.toNat:Int) == 10) = false:=by
    rw [beq_eq_false_iff_ne]
    exact fun e => hc (UInt8.toNat_inj.1 (by show _ = 10; omega))
   rw [if_neg hc] at hsn
   (refine WV_cond rfl (fun h => ?_) (fun h => ?_))
   ·rw [hcb] at h; simp at h
   ·(repeat ((first | refine Va ?_ | refine Vb ?_ | refine Vc ?_ | refine Vd ?_ | refine Ve ?_ | refine Vf ?_); (try simp only [go_sem,hP,hw2]); (repeat refine qJ ?_)))
    refine ⟨k + 1,by omega,by omega,?_⟩
    rw [hsn]
    exact Sub_au
 have hk:k = s.length:=by simp at h; omega
 subst hk
 rw [hln]
 have hw3:=w64 (n:=(ts.length:Int) + 1) (by omega) (by omega)
 have hrr:((rows.length:Int) != (ts.length:Int) + 1) = false:=by rw [hrl]; simp
 refine WV_exit ?_
 simp only [thenQ,inQ,reduceIte,beq_self_eq_true]
 (repeat ((first | refine Va ?_ | refine Vb ?_ | refine Vc ?_ | refine Vd ?_ | refine Ve ?_ | refine Vf ?_); (try simp only [go_sem,hP,List.length_map,hw3,hrr]); (repeat refine qJ ?_)))
 (refine WV_cond rfl (fun h => ?_) (fun h => ?_))
 ·simp at h
 (repeat ((first | refine Va ?_ | refine Vb ?_ | refine Vc ?_ | refine Vd ?_ | refine Ve ?_ | refine Vf ?_); (try simp only [go_sem,hP]); (repeat refine qJ ?_)))
 refine WV_loopS (fun k:Nat => ⟨upd (upd (upd e0 5 (sv s)) 9 (iv k)) 3 (.gr 37),upd o0 37 (.grow 9 1 (rows.map fun r => [CD.str r]))⟩) (fun k => k ≤ rows.length) (fun k => rows.length - k) 0 (Nat.zero_le _) ?_ ?_
 ·exact Sub_au
 intro k hk0
 (repeat ((first | refine Va ?_ | refine Vb ?_ | refine Vc ?_ | refine Vd ?_ | refine Ve ?_ | refine Vf ?_); (try simp only [go_sem,hP,List.length_map]); (repeat refine qJ ?_)))
 (refine WV_cond rfl (fun h => ?_) (fun h => ?_))
 ·have hk:k < rows.length:=by simpa using h
  have h0:0 < rows.length:=by omega
  have hw2:=w64 (n:=(k:Int) + 1) (by omega) (by omega)
  have hl1:=hrow _ (List.getElem_mem hk)
  have hl2:=hrow _ (List.getElem_mem h0)
  have g1:(rows.map fun r => [CD.str r]).getD k [] = [CD.str rows[k]]:=map_getD hk
  have g2:(rows.map fun r => [CD.str r]).getD (Int.toNat 0) [] = [CD.str rows[0]]:=map_getD h0
  generalize rows[k] = a at g1 hl1
  generalize rows[0] = b at g2 hl2
  (refine WV_skip ?_; simp only [go_sem])
  refine WV_seq_ (WV_block (WV_seq_ ?_))
  (refine WV_op ?_; simp only [go_sem,hP,g1,g2,Int.toNat_natCast,Int.ofNat_lt,hk,h0,Int.natCast_nonneg,List.length_map,hl1,hl2]; (repeat refine qJ ?_))
  (refine WV_cond rfl (fun h => ?_) (fun h => ?_))
  ·simp at h; omega
  ·(repeat ((first | refine Va ?_ | refine Vb ?_ | refine Vc ?_ | refine Vd ?_ | refine Ve ?_ | refine Vf ?_); (try simp only [go_sem,hP,hw2]); (repeat refine qJ ?_)))
   refine ⟨k + 1,by omega,by omega,?_⟩
   exact Sub_au
 ·have hk:k = rows.length:=by simp at h; omega
  subst hk
  (repeat ((first | refine Va ?_ | refine Vb ?_ | refine Vc ?_ | refine Vd ?_ | refine Ve ?_ | refine Vf ?_); (try simp only [go_sem,hP]); (repeat refine qJ ?_)))
  (refine WV_ret ?_; simp only [thenQ,inQ,RetQ,RetOk,resAll,resA]; simp only [go_sem,tupA,AV.port,AV.portL,exists_eq_left']; (first | exact AVle.of rfl | refine AVle.of ?_ | skip))
end Go.Proofs.YtlmfdmlochpfcaaDoor

namespace Go.Proofs.YtlmfdmlochpfcaaDoor
open Go Go.V
abbrev o21_0:List Ins:=[⟨some 4,.mv (.k (.c (.bool false))),none,true⟩]
abbrev o21_1:List Ins:=[⟨some 6,.mv (.t 0),none,true⟩,
 ⟨some 7,.len (.t 6),none,true⟩,
 ⟨some 8,.mv (.t 1),none,true⟩,
 ⟨some 9,.len (.t 8),none,true⟩,
 ⟨some 10,.bin .neq (.t 7) (.t 9),none,true⟩]
abbrev o21_2:List Ins:=[⟨some 4,.mv (.k (.c (.bool false))),none,true⟩]
abbrev v21_3:VC:=(.seq (.ops o21_2) .ret)
abbrev v21_4:VC:=(.cond (.t 10) v21_3 .skip)
abbrev o21_5:List Ins:=[⟨some 5,.mv (.k (.c (.int .i64 0))),none,true⟩]
abbrev o21_6:List Ins:=[⟨some 11,.mv (.t 5),none,true⟩,
 ⟨some 12,.mv (.t 0),none,true⟩,
 ⟨some 13,.len (.t 12),none,true⟩,
 ⟨some 14,.bin .lss (.t 11) (.t 13),none,true⟩]
abbrev v21_7:VC:=(.cond (.t 14) .skip (.exit 0))
abbrev o21_8:List Ins:=[⟨some 17,.mv (.t 0),none,false⟩,
 ⟨some 18,.mv (.t 5),none,false⟩,
 ⟨some 19,.ia 1 (.t 17) (.t 18),none,false⟩,
 ⟨some 20,.ld true 1 (.t 19),none,false⟩,
 ⟨some 21,.mv (.t 1),none,false⟩,
 ⟨some 22,.mv (.t 5),none,false⟩,
 ⟨some 23,.ia 1 (.t 21) (.t 22),none,false⟩,
 ⟨some 24,.ld true 1 (.t 23),none,false⟩,
 ⟨some 25,.prim (.sbin .neq) [(.t 20),(.t 24)],none,true⟩]
abbrev o21_9:List Ins:=[⟨some 4,.mv (.k (.c (.bool false))),none,true⟩]
abbrev v21_10:VC:=(.seq (.ops o21_9) .ret)
abbrev v21_11:VC:=(.cond (.t 25) v21_10 .skip)
abbrev v21_12:VC:=(.seq (.dops o21_8) v21_11)
abbrev o21_13:List Ins:=[⟨some 15,.mv (.t 5),none,true⟩,
 ⟨some 16,.bin .add (.t 15) (.k (.c (.int .i64 1))),none,true⟩,
 ⟨some 5,.mv (.t 16),none,true⟩]
abbrev v21_14:VC:=(.seq (.block 1 v21_12) (.ops o21_13))
abbrev v21_15:VC:=(.seq (.seq (.ops o21_6) v21_7) v21_14)
-- K21_1: changed and kept: [5]
abbrev K21_1:List Nat:=[0,1]
abbrev v21_16:VC:=(.loop v21_15)
abbrev v21_17:VC:=(.block 0 v21_16)
abbrev o21_18:List Ins:=[⟨some 4,.mv (.k (.c (.bool true))),none,true⟩]
abbrev v21_19:VC:=(.seq (.ops o21_18) .ret)
abbrev v21_20:VC:=(.seq (.seq (.ops o21_5) v21_17) v21_19)
abbrev v21_21:VC:=(.seq (.seq (.ops o21_1) v21_4) v21_20)
def ir21:FC:=⟨2,26,[.t 4],(.seq (.ops o21_0) v21_21)⟩
abbrev o16_0:List Ins:=[⟨some 0,.mv (.k (.c (.bool false))),none,true⟩]
abbrev o16_1:List Ins:=[⟨some 13,.bsl 9 1 [(.k (.c (.str [97,98]))),(.k (.c (.str [99])))],none,true⟩,
 ⟨some 14,.call (.k (.fn 24 [])) [(.t 13)],none,true⟩,
 ⟨some 12,.mv (.t 14),none,true⟩,
 ⟨some 15,.ext (.t 12) 0,none,true⟩,
 ⟨some 16,.ext (.t 12) 1,none,true⟩,
 ⟨some 1,.mv (.t 15),none,true⟩,
 ⟨some 2,.mv (.t 16),none,true⟩]
abbrev o16_2:List Ins:=[⟨some 18,.call (.k (.fn 18 [])) [(.k (.c (.str [97,63,63,95,10,99,124,32,64,10,91,65,63,33,10])))],none,true⟩,
 ⟨some 17,.mv (.t 18),none,true⟩,
 ⟨some 19,.ext (.t 17) 0,none,true⟩,
 ⟨some 20,.ext (.t 17) 1,none,true⟩,
 ⟨some 3,.mv (.t 19),none,true⟩,
 ⟨some 4,.mv (.t 20),none,true⟩]
abbrev o16_3:List Ins:=[⟨some 22,.call (.k (.fn 20 [])) [(.k (.c (.str [97,98,124,95,10,99,124,32,64,10,91,65,35,33,10])))],none,true⟩,
 ⟨some 21,.mv (.t 22),none,true⟩,
 ⟨some 23,.ext (.t 21) 0,none,true⟩,
 ⟨some 24,.ext (.t 21) 1,none,true⟩,
 ⟨some 5,.mv (.t 23),none,true⟩,
 ⟨some 6,.mv (.t 24),none,true⟩]
abbrev o16_4:List Ins:=[⟨some 26,.call (.k (.fn 31 [])) [(.k (.c (.str [63,63,124,95,10,63,63,32,64,10,91,65,35,33,10])))],none,true⟩,
 ⟨some 25,.mv (.t 26),none,true⟩,
 ⟨some 27,.ext (.t 25) 0,none,true⟩,
 ⟨some 28,.ext (.t 25) 1,none,true⟩,
 ⟨some 7,.mv (.t 27),none,true⟩,
 ⟨some 8,.mv (.t 28),none,true⟩]
abbrev o16_5:List Ins:=[⟨some 30,.call (.k (.fn 23 [])) [(.k (.c (.str [97,98,124,95,10,100,124,32,64,10,91,65,35,33,10])))],none,true⟩,
 ⟨some 29,.mv (.t 30),none,true⟩,
 ⟨some 31,.ext (.t 29) 0,none,true⟩,
 ⟨some 32,.ext (.t 29) 1,none,true⟩,
 ⟨some 33,.ext (.t 29) 2,none,true⟩,
 ⟨some 9,.alloc [(.c (.int .i64 0)),(.c (.int .i64 0))],none,true⟩,
 ⟨none,.st 2 (.t 9) (.t 31),none,true⟩,
 ⟨some 10,.mv (.t 32),none,true⟩,
 ⟨some 11,.mv (.t 33),none,true⟩]
abbrev o16_6:List Ins:=[⟨some 34,.mv (.t 2),none,true⟩,
 ⟨some 35,.bin .eql (.t 34) (.k (.c (.int .i64 0))),none,true⟩,
 ⟨some 36,.mv (.t 35),none,true⟩,
 ⟨some 37,.mv (.t 4),(some (36,true)),true⟩,
 ⟨some 38,.bin .eql (.t 37) (.k (.c (.int .i64 0))),(some (36,true)),true⟩,
 ⟨some 39,.pick (.t 36) (.t 38) (.k (.c (.bool false))),none,true⟩,
 ⟨some 40,.mv (.t 39),none,true⟩,
 ⟨some 41,.mv (.t 6),(some (40,true)),true⟩,
 ⟨some 42,.bin .eql (.t 41) (.k (.c (.int .i64 0))),(some (40,true)),true⟩,
 ⟨some 43,.pick (.t 40) (.t 42) (.k (.c (.bool false))),none,true⟩,
 ⟨some 44,.mv (.t 43),none,true⟩,
 ⟨some 45,.mv (.t 8),(some (44,true)),true⟩,
 ⟨some 46,.bin .eql (.t 45) (.k (.c (.int .i64 0))),(some (44,true)),true⟩,
 ⟨some 47,.pick (.t 44) (.t 46) (.k (.c (.bool false))),none,true⟩,
 ⟨some 48,.mv (.t 47),none,true⟩,
 ⟨some 49,.mv (.t 11),(some (48,true)),true⟩,
 ⟨some 50,.bin .eql (.t 49) (.k (.c (.int .i64 0))),(some (48,true)),true⟩,
 ⟨some 51,.pick (.t 48) (.t 50) (.k (.c (.bool false))),none,true⟩,
 ⟨some 52,.mv (.t 51),none,true⟩,
 ⟨some 53,.mv (.t 1),(some (52,true)),true⟩,
 ⟨some 54,.prim (.sbin .eql) [(.t 53),(.k (.c (.str [97,98,124,95,10,99,124,32,64,10,91,65,35,33,10])))],(some (52,true)),true⟩,
 ⟨some 55,.pick (.t 52) (.t 54) (.k (.c (.bool false))),none,true⟩,
 ⟨some 56,.mv (.t 55),none,true⟩,
 ⟨some 57,.mv (.t 3),(some (56,true)),true⟩,
 ⟨some 58,.prim (.sbin .eql) [(.t 57),(.k (.c (.str [97,98,124,95,10,99,124,32,64,10,91,65,35,33,10])))],(some (56,true)),true⟩,
 ⟨some 59,.pick (.t 56) (.t 58) (.k (.c (.bool false))),none,true⟩,
 ⟨some 60,.mv (.t 59),none,true⟩,
 ⟨some 61,.mv (.t 5),(some (60,true)),true⟩,
 ⟨some 62,.bsl 9 1 [(.k (.c (.str [97,98]))),(.k (.c (.str [99])))],(some (60,true)),true⟩,
 ⟨some 63,.call (.k (.fn 21 [])) [(.t 61),(.t 62)],(some (60,true)),true⟩,
 ⟨some 64,.pick (.t 60) (.t 63) (.k (.c (.bool false))),none,true⟩,
 ⟨some 65,.mv (.t 64),none,true⟩,
 ⟨some 66,.mv (.t 7),(some (65,true)),true⟩,
 ⟨some 67,.bin .eql (.t 66) (.k (.c (.int .i64 1))),(some (65,true)),true⟩,
 ⟨some 68,.pick (.t 65) (.t 67) (.k (.c (.bool false))),none,true⟩,
 ⟨some 69,.mv (.t 68),none,true⟩,
 ⟨some 70,.ld false 2 (.t 9),(some (69,true)),true⟩,
 ⟨some 71,.bld [(.c (.int .i64 0)),(.c (.int .i64 0))] [(0,1,(.k (.c (.int .i64 1))))],(some (69,true)),true⟩,
 ⟨some 72,.seq false [(0,true),(1,true)] (.t 70) (.t 71),(some (69,true)),true⟩,
 ⟨some 73,.pick (.t 69) (.t 72) (.k (.c (.bool false))),none,true⟩,
 ⟨some 74,.mv (.t 73),none,true⟩,
 ⟨some 75,.mv (.t 10),(some (74,true)),true⟩,
 ⟨some 76,.prim (.sbin .eql) [(.t 75),(.k (.c (.str [97,98,124,95,10,99,124,32,64,10,91,65,35,33,10])))],(some (74,true)),true⟩,
 ⟨some 77,.pick (.t 74) (.t 76) (.k (.c (.bool false))),none,true⟩,
 ⟨some 0,.mv (.t 77),none,true⟩]
abbrev v16_7:VC:=(.seq (.ops o16_6) .ret)
abbrev v16_8:VC:=(.seq (.ops o16_5) v16_7)
abbrev v16_9:VC:=(.seq (.ops o16_4) v16_8)
abbrev v16_10:VC:=(.seq (.ops o16_3) v16_9)
abbrev v16_11:VC:=(.seq (.ops o16_2) v16_10)
abbrev v16_12:VC:=(.seq (.ops o16_1) v16_11)
def ir16:FC:=⟨0,78,[.t 0],(.seq (.ops o16_0) v16_12)⟩
theorem c21:compM Tryd.prog [] 21 = some ir21:=by kernel_rfl
theorem c16:compM Tryd.prog [] 16 = some ir16:=by kernel_rfl
attribute [local go_sem] Nat.reduceEqDiff Nat.reduceAdd Nat.reduceMul reduceIte Nat.reduceLeDiff Nat.reduceLT Nat.reduceBEq reduceCtorEq
theorem same21 (a b:List (List UInt8)) (ha:a.length ≤ 1000000):FSpec Tryd.prog 21 [.c (strsV a),.c (strsV b)] (bv (a == b)):=by
 have hmax:maxLen = 9223372036854775807:=rfl
 refine FSpec_of c21 (Nat.le_refl _) (by decide) fun C hP hN hC hL => ?_; rw [init_st]
 simp only [ir21,strsV]
 (repeat ((first | refine Va ?_ | refine Vb ?_ | refine Vc ?_ | refine Vd ?_ | refine Ve ?_ | refine Vf ?_); (try simp only [go_sem,hP,List.length_map]); (repeat refine qJ ?_)))
 by_cases hl:a.length = b.length
 ·(refine WV_cond rfl (fun h => ?_) (fun h => ?_))
  ·simp [hl] at h
  (repeat ((first | refine Va ?_ | refine Vb ?_ | refine Vc ?_ | refine Vd ?_ | refine Ve ?_ | refine Vf ?_); (try simp only [go_sem,hP]); (repeat refine qJ ?_)))
  refine WV_loopK K21_1 [] (fun k:Nat => k ≤ a.length ∧ ∀ m (hm:m < a.length) (hm2:m < b.length),m < k → a[m] = b[m]) (fun k => a.length - k) (fun k => [(5,iv k)]) (fun _ => []) 0 ⟨Nat.zero_le _,fun m _ _ h => by omega⟩ ?_ ?_
  ·exact Sub_au
  ·intro k ⟨hk0,hke⟩
   simp only [go_sem]
   (repeat ((first | refine Va ?_ | refine Vb ?_ | refine Vc ?_ | refine Vd ?_ | refine Ve ?_ | refine Vf ?_); (try simp only [go_sem,hP,List.length_map]); (repeat refine qJ ?_)))
   (refine WV_cond rfl (fun h => ?_) (fun h => ?_))
   ·have hk:k < a.length:=by simpa using h
    have hkb:k < b.length:=by omega
    have hw2:=w64 (n:=(k:Int) + 1) (by omega) (by omega)
    (refine WV_skip ?_; simp only [go_sem])
    refine WV_seq_ (WV_block (WV_seq_ ?_))
    (refine WV_op ?_; simp only [go_sem,hP,map_getD hk,map_getD hkb,List.length_map,Int.toNat_natCast,Int.ofNat_lt,hk,hkb,Int.natCast_nonneg]; (repeat refine qJ ?_))
    by_cases he:a[k] = b[k]
    ·(refine WV_cond rfl (fun h => ?_) (fun h => ?_))
     ·simp [he] at h
     ·(repeat ((first | refine Va ?_ | refine Vb ?_ | refine Vc ?_ | refine Vd ?_ | refine Ve ?_ | refine Vf ?_); (try simp only [go_sem,hP,hw2]); (repeat refine qJ ?_)))
      refine ⟨k + 1,⟨by omega,fun m hm hm2 hmk => ?_⟩,by omega,?_⟩
      ·by_cases e2:m = k
       ·subst e2; exact he
       ·exact hke m hm hm2 (by omega)
      ·exact Sub_au
    ·have hne:(a == b) = false:=by
      rw [beq_eq_false_iff_ne]
      rintro rfl
      exact he rfl
     rw [hne]
     (refine WV_cond rfl (fun h => ?_) (fun h => ?_))
     ·(repeat ((first | refine Va ?_ | refine Vb ?_ | refine Vc ?_ | refine Vd ?_ | refine Ve ?_ | refine Vf ?_); (try simp only [go_sem,hP]); (repeat refine qJ ?_)))
      (refine WV_ret ?_; simp only [thenQ,inQ,RetQ,RetOk,resAll,resA]; simp only [go_sem,tupA,AV.port,AV.portL,exists_eq_left']; (first | exact AVle.of rfl | refine AVle.of ?_ | skip))
     ·simp [he] at h
   ·have hk:k = a.length:=by simp at h; omega
    subst hk
    have heq:(a == b) = true:=by
     rw [beq_iff_eq]
     exact List.ext_getElem hl fun m h1 h2 => hke m h1 h2 h1
    rw [heq]
    (repeat ((first | refine Va ?_ | refine Vb ?_ | refine Vc ?_ | refine Vd ?_ | refine Ve ?_ | refine Vf ?_); (try simp only [go_sem,hP]); (repeat refine qJ ?_)))
    (refine WV_ret ?_; simp only [thenQ,inQ,RetQ,RetOk,resAll,resA]; simp only [go_sem,tupA,AV.port,AV.portL,exists_eq_left']; (first | exact AVle.of rfl | refine AVle.of ?_ | skip))
 ·have hne:(a == b) = false:=by
   rw [beq_eq_false_iff_ne]
   rintro rfl
   exact hl rfl
  rw [hne]
  (refine WV_cond rfl (fun h => ?_) (fun h => ?_))
  ·(repeat ((first | refine Va ?_ | refine Vb ?_ | refine Vc ?_ | refine Vd ?_ | refine Ve ?_ | refine Vf ?_); (try simp only [go_sem,hP]); (repeat refine qJ ?_)))
   (refine WV_ret ?_; simp only [thenQ,inQ,RetQ,RetOk,resAll,resA]; simp only [go_sem,tupA,AV.port,AV.portL,exists_eq_left']; (first | exact AVle.of rfl | refine AVle.of ?_ | skip))
  ·simp at h; omega
def ex1:List UInt8:=[97,98,124,95,10,99,124,32,64,10,91,65,35,33,10]
theorem ex_write:writeG [[97,98],[99]] = (ex1,0):=by kernel_rfl
theorem ex_mend:mendG [97,63,63,95,10,99,124,32,64,10,91,65,63,33,10] = (ex1,0):=by kernel_rfl
theorem ex_read:readG ex1 = ([[97,98],[99]],0):=by kernel_rfl
theorem ex_left:leftG [63,63,124,95,10,63,63,32,64,10,91,65,35,33,10] = ([(0,0),(0,1),(1,0),(1,1)],0):=by kernel_rfl
theorem ex_wrong:wrongG [97,98,124,95,10,100,124,32,64,10,91,65,35,33,10] = ((1,0),ex1,0):=by kernel_rfl
theorem Conn.inv {ms:List (Nat × Nat)} (f:Int → Bool) (h:∀ m ∈ ms,f m.1 = f (-1 - m.2)) {x y:Int} (hc:Conn ms x y):f x = f y:=by
 induction hc with
 | refl x => rfl
 | edge hm => exact h _ hm
 | symm _ ih => exact ih.symm
 | trans _ _ ih1 ih2 => exact ih1.trans ih2
theorem ex_circ:(circ [(0,0),(0,1),(1,0),(1,1)]).length = 1:=by
 have h0:¬ Conn ([(0,0),(0,1),(1,0),(1,1)].take 0) ((0:Nat):Int) (-1 - ((0:Nat):Int)):=fun h => by
  have:=h.inv (fun x => decide (x = 0)) (by decide)
  revert this; decide
 have h1:¬ Conn ([(0,0),(0,1),(1,0),(1,1)].take 1) ((0:Nat):Int) (-1 - ((1:Nat):Int)):=fun h => by
  have:=h.inv (fun x => decide (x = 0 ∨ x = -1)) (by decide)
  revert this; decide
 have h2:¬ Conn ([(0,0),(0,1),(1,0),(1,1)].take 2) ((1:Nat):Int) (-1 - ((0:Nat):Int)):=fun h => by
  have:=h.inv (fun x => decide (x = 1)) (by decide)
  revert this; decide
 have h3:Conn ([(0,0),(0,1),(1,0),(1,1)].take 3) ((1:Nat):Int) (-1 - ((1:Nat):Int)):=by
  have e0:Conn ([(0,0),(0,1),(1,0),(1,1)].take 3) ((0:Nat):Int) (-1 - ((0:Nat):Int)):=.edge (m:=(0,0)) (by simp)
  have e1:Conn ([(0,0),(0,1),(1,0),(1,1)].take 3) ((0:Nat):Int) (-1 - ((1:Nat):Int)):=.edge (m:=(0,1)) (by simp)
  have e2:Conn ([(0,0),(0,1),(1,0),(1,1)].take 3) ((1:Nat):Int) (-1 - ((0:Nat):Int)):=.edge (m:=(1,0)) (by simp)
  exact e2.trans (e0.symm.trans e1)
 unfold circ
 show (circK _ 4).length = 1
 rw [circK_snoc (k:=3) (m:=(1,1)) rfl,circK_snoc (k:=2) (m:=(1,0)) rfl,circK_snoc (k:=1) (m:=(0,1)) rfl,circK_snoc (k:=0) (m:=(0,0)) rfl,if_pos h3,if_neg h2,if_neg h1,if_neg h0]
 rfl
set_option maxRecDepth 20000 in
set_option maxHeartbeats 8000000 in
theorem works16:FSpec Tryd.prog 16 [] (bv true):=by
 have hmax:maxLen = 9223372036854775807:=rfl
 have h1:=write24 [[97,98],[99]] (by simp) (by simp)
 have h2:=mend18 [97,63,63,95,10,99,124,32,64,10,91,65,63,33,10] (by simp)
 have h3:=read20 ex1 (by decide)
 have h4:=fewest31 [63,63,124,95,10,63,63,32,64,10,91,65,35,33,10] (by simp)
 have h5:=wrong23 [97,98,124,95,10,100,124,32,64,10,91,65,35,33,10] (by simp)
 have h6:=same21 [[97,98],[99]] [[97,98],[99]] (by simp)
 rw [ex_write] at h1
 rw [ex_mend] at h2
 rw [ex_read] at h3
 rw [ex_left,ex_circ] at h4
 rw [ex_wrong] at h5
 have h6':FSpec Tryd.prog 21 [.c (.sl 1 [[.str [97,98]],[.str [99]]]),.c (.sl 1 [[.str [97,98]],[.str [99]]])] (bv true):=h6
 have h1':FSpec Tryd.prog 24 [.c (.sl 1 [[.str [97,98]],[.str [99]]])] (.tup [.c (.str ex1),iv 0]):=h1
 unfold ex1 at h1' h2 h3 h5
 clear h1 h6
 refine FSpec_of c16 (Nat.le_refl _) (by decide) fun C hP hN hC hL => ?_; rw [init_st]
 simp only [ir16]
 (repeat ((first | refine Va ?_ | refine Vb ?_ | refine Vc ?_ | refine Vd ?_ | refine Ve ?_ | refine Vf ?_); (try simp only [go_sem,hP]); (repeat refine qJ ?_)))
 (refine AS_pu (h1') ?_; simp only [go_sem,hP]; (repeat refine qJ ?_); (repeat ((first | refine Va ?_ | refine Vb ?_ | refine Vc ?_ | refine Vd ?_ | refine Ve ?_ | refine Vf ?_); (try simp only [go_sem,hP]); (repeat refine qJ ?_))))
 (refine AS_pu (h2) ?_; simp only [go_sem,hP]; (repeat refine qJ ?_); (repeat ((first | refine Va ?_ | refine Vb ?_ | refine Vc ?_ | refine Vd ?_ | refine Ve ?_ | refine Vf ?_); (try simp only [go_sem,hP]); (repeat refine qJ ?_))))
 (refine AS_pu (h3) ?_; simp only [go_sem,hP]; (repeat refine qJ ?_); (repeat ((first | refine Va ?_ | refine Vb ?_ | refine Vc ?_ | refine Vd ?_ | refine Ve ?_ | refine Vf ?_); (try simp only [go_sem,hP]); (repeat refine qJ ?_))))
 (refine AS_pu (h4) ?_; simp only [go_sem,hP]; (repeat refine qJ ?_); (repeat ((first | refine Va ?_ | refine Vb ?_ | refine Vc ?_ | refine Vd ?_ | refine Ve ?_ | refine Vf ?_); (try simp only [go_sem,hP]); (repeat refine qJ ?_))))
 (refine AS_pu (h5) ?_; simp only [go_sem,hP,beq_self_eq_true,Bool.and_self,Bool.true_and,true_implies,Bool.true_eq_false,false_implies,and_true]; (repeat refine qJ ?_); (repeat ((first | refine Va ?_ | refine Vb ?_ | refine Vc ?_ | refine Vd ?_ | refine Ve ?_ | refine Vf ?_); (try simp only [go_sem,hP,beq_self_eq_true,Bool.and_self,Bool.true_and,true_implies,Bool.true_eq_false,false_implies,and_true]); (repeat refine qJ ?_))))
 (refine AG_pu (fun hG => h6') ?_; simp only [go_sem,hP,beq_self_eq_true,Bool.and_self,Bool.true_and,true_implies,Bool.true_eq_false,false_implies,and_true]; (repeat refine qJ ?_); (repeat ((first | refine Va ?_ | refine Vb ?_ | refine Vc ?_ | refine Vd ?_ | refine Ve ?_ | refine Vf ?_); (try simp only [go_sem,hP,beq_self_eq_true,Bool.and_self,Bool.true_and,true_implies,Bool.true_eq_false,false_implies,and_true]); (repeat refine qJ ?_))))
 (refine WV_ret ?_; simp only [thenQ,inQ,RetQ,RetOk,resAll,resA]; simp only [go_sem,tupA,AV.port,AV.portL,exists_eq_left'])
 exact AVle.of rfl
end Go.Proofs.YtlmfdmlochpfcaaDoor

namespace Go.Proofs.YtlmfdmlochpfcaaDoor
open Go Go.V
theorem can_len {ts:List (List UInt8)} (h:canT ts = true):ts.length ≤ 60 ∧ ∀ s ∈ ts,s.length ≤ 200:=by
 unfold canT at h
 simp only [Bool.and_eq_true,decide_eq_true_eq,List.all_eq_true] at h
 exact h
theorem book_of {ts:List (List UInt8)} (h:errT ts = 0):BookOk ts:=by
 unfold errT at h
 split at h
 ·cases h
 ·split at h
  ·exact ⟨by assumption,by assumption⟩
  ·cases h
section
variable {ts:List (List UInt8)}
theorem good_book (h:BookOk ts) (hc:canT ts = true):FSpec Tryd.prog 17 [.c (strsV ts)] (.tup [sv (textG (bookB ts)),.c (strsV (bookB ts)),bv true]):=by
 obtain ⟨h1,h2⟩:=can_len hc
 have hw:=write24 ts (fun s hs => by have:=h2 s hs; omega) (by omega)
 rw [write_book h] at hw
 exact good17 (fun s hs => by have:=h2 s hs; omega) (by omega) h.sok (bookB_len h) hw
theorem text_len {rows:List (List UInt8)} {w:Nat} (h:SOk rows w):(textG rows).length ≤ 1353:=by
 have h1:=textG_length rows w h.row
 have h2:rows.length * (w + 1) ≤ 41 * 33:=Nat.mul_le_mul h.len (by have:=h.w32; omega)
 omega
theorem rows_le {rows:List (List UInt8)} {w:Nat} (h:SOk rows w):rows.length ≤ 100 ∧ ∀ l ∈ rows,l.length ≤ 100:=by
 have:=h.len
 have:=h.w32
 exact ⟨by omega,fun l hl => by have:=h.row l hl; omega⟩
theorem spoilt_book (h:BookOk ts) (ms:List (Int × Int)) (hm:ms.length ≤ 1000000):FSpec Tryd.prog 19 [.c (strsV (bookB ts)),.c (placesC ms),.c (.int .u8 63)] (sv (textG (spo ts ms))):=by
 obtain ⟨h1,h2⟩:=rows_le h.sok
 exact spoilt19 (bookB ts) ms 63 h1 h2 hm
theorem plain19 {rows:List (List UInt8)} {w:Nat} (h:SOk rows w):FSpec Tryd.prog 19 [.c (strsV rows),.c (placesC []),.c (.int .u8 63)] (sv (textG rows)):=by
 obtain ⟨h1,h2⟩:=rows_le h
 have:=spoilt19 rows [] 63 h1 h2 (by simp)
 rwa [upR_nil] at this
theorem plain19' {rows:List (List UInt8)} {w:Nat} (h:SOk rows w):FSpec Tryd.prog 19 [.c (strsV rows),.c (.raw (.slice none 0 0)),.c (.int .u8 63)] (sv (textG rows)) :=
 (plain19 h).le (AVles.cons (AVle.refl _) (AVles.cons (AVle.nil 2) (AVles.refl _))) (AVle.refl _)
theorem lines_book {rows:List (List UInt8)} {w:Nat} (h:SOk rows w):FSpec Tryd.prog 34 [sv (textG rows)] (.c (strsV rows)):=by
 have:=lines34 (textG rows) (by have:=text_len h; omega)
 rwa [lines_sok h] at this
theorem told_book (h:BookOk ts) (ms ws:List (Int × Int)) (hm:ws.length ≤ 1000000):FSpec Tryd.prog 33 [.c (strsV (spo ts ms)),.c (strsV (bookB ts)),.c (placesC ws)] (.c (strsV (tld ts ms ws))):=by
 have hs:=spo_sok h ms
 obtain ⟨h1,h2⟩:=rows_le hs
 have hw:=h.wid
 refine told33 (spo ts ms) (bookB ts) ws h1 h2 hm ((bookB_len h).trans (spo_len h ms).symm) fun i hi => ?_
 rw [(hs.at (k:=0) hi (by omega)).1,(h.sok.at (k:=0) (by rw [spo_len h] at hi; rw [bookB_len h]; exact hi) (by omega)).1]
end
end Go.Proofs.YtlmfdmlochpfcaaDoor

namespace Go.Proofs.YtlmfdmlochpfcaaDoor
open Go Go.V
abbrev o37_0:List Ins:=[⟨some 2,.mv (.k (.c (.int .i64 0))),none,true⟩,
 ⟨some 3,.mv (.k (.c (.int .i64 0))),none,true⟩]
abbrev o37_1:List Ins:=[⟨some 12,.mks 3 1 8 [(.c (.int .i64 0))] (.k (.c (.int .i64 140))) (.k (.c (.int .i64 140))),none,true⟩,
 ⟨some 4,.mv (.t 12),none,true⟩]
abbrev o37_2:List Ins:=[⟨some 5,.mv (.k (.c (.int .i64 41))),none,true⟩]
abbrev o37_3:List Ins:=[⟨some 6,.mv (.k (.c (.int .i64 0))),none,true⟩]
abbrev o37_4:List Ins:=[⟨some 13,.mv (.t 6),none,true⟩,
 ⟨some 14,.mv (.t 0),none,true⟩,
 ⟨some 15,.len (.t 14),none,true⟩,
 ⟨some 16,.bin .lss (.t 13) (.t 15),none,true⟩]
abbrev v37_5:VC:=(.cond (.t 16) .skip (.exit 0))
abbrev o37_6:List Ins:=[⟨some 19,.mv (.t 4),none,false⟩,
 ⟨some 20,.mv (.t 0),none,false⟩,
 ⟨some 21,.mv (.t 6),none,false⟩,
 ⟨some 22,.ia 2 (.t 20) (.t 21),none,false⟩,
 ⟨some 23,.fa 0 (.t 22),none,false⟩,
 ⟨some 24,.ld true 1 (.t 23),none,false⟩,
 ⟨some 25,.mv (.t 4),none,false⟩,
 ⟨some 26,.mv (.t 5),none,false⟩,
 ⟨some 27,.mv (.t 0),none,false⟩,
 ⟨some 28,.mv (.t 6),none,false⟩,
 ⟨some 29,.ia 2 (.t 27) (.t 28),none,false⟩,
 ⟨some 30,.fa 1 (.t 29),none,false⟩,
 ⟨some 31,.ld true 1 (.t 30),none,false⟩,
 ⟨some 32,.bin .add (.t 26) (.t 31),none,false⟩,
 ⟨some 33,.mv (.t 0),none,false⟩,
 ⟨some 34,.mv (.t 6),none,false⟩,
 ⟨some 35,.ia 2 (.t 33) (.t 34),none,false⟩,
 ⟨some 36,.fa 0 (.t 35),none,false⟩,
 ⟨some 37,.ld true 1 (.t 36),none,false⟩,
 ⟨some 38,.bin .add (.k (.c (.int .i64 1))) (.t 37),none,false⟩,
 ⟨some 39,.mv (.t 5),none,false⟩,
 ⟨some 40,.bin .add (.k (.c (.int .i64 1))) (.t 39),none,false⟩,
 ⟨some 41,.mv (.t 0),none,false⟩,
 ⟨some 42,.mv (.t 6),none,false⟩,
 ⟨some 43,.ia 2 (.t 41) (.t 42),none,false⟩,
 ⟨some 44,.fa 1 (.t 43),none,false⟩,
 ⟨some 45,.ld true 1 (.t 44),none,false⟩,
 ⟨some 46,.bin .add (.t 40) (.t 45),none,false⟩,
 ⟨some 47,.ia 1 (.t 19) (.t 24),none,false⟩,
 ⟨none,.st 1 (.t 47) (.t 38),none,false⟩,
 ⟨some 48,.ia 1 (.t 25) (.t 32),none,true⟩,
 ⟨none,.st 1 (.t 48) (.t 46),none,true⟩]
abbrev o37_7:List Ins:=[⟨some 17,.mv (.t 6),none,true⟩,
 ⟨some 18,.bin .add (.t 17) (.k (.c (.int .i64 1))),none,true⟩,
 ⟨some 6,.mv (.t 18),none,true⟩]
abbrev v37_8:VC:=(.seq (.block 1 (.dops o37_6)) (.ops o37_7))
abbrev v37_9:VC:=(.seq (.seq (.ops o37_4) v37_5) v37_8)
-- K37_1: changed and kept: [6]
abbrev v37_10:VC:=(.loop v37_9)
abbrev v37_11:VC:=(.block 0 v37_10)
abbrev o37_12:List Ins:=[⟨some 7,.mv (.k (.c (.bool true))),none,true⟩]
abbrev o37_13:List Ins:=[⟨some 49,.mv (.t 7),none,true⟩]
abbrev v37_14:VC:=(.cond (.t 49) .skip (.exit 2))
abbrev o37_15:List Ins:=[⟨some 7,.mv (.k (.c (.bool false))),none,true⟩]
abbrev o37_16:List Ins:=[⟨some 8,.mv (.k (.c (.int .i64 0))),none,true⟩]
abbrev o37_17:List Ins:=[⟨some 50,.mv (.t 8),none,true⟩,
 ⟨some 51,.mv (.t 0),none,true⟩,
 ⟨some 52,.len (.t 51),none,true⟩,
 ⟨some 53,.bin .lss (.t 50) (.t 52),none,true⟩]
abbrev v37_18:VC:=(.cond (.t 53) .skip (.exit 4))
abbrev o37_19:List Ins:=[⟨some 56,.mv (.t 4),none,false⟩,
 ⟨some 57,.mv (.t 0),none,false⟩,
 ⟨some 58,.mv (.t 8),none,false⟩,
 ⟨some 59,.ia 2 (.t 57) (.t 58),none,false⟩,
 ⟨some 60,.fa 0 (.t 59),none,false⟩,
 ⟨some 61,.ld true 1 (.t 60),none,false⟩,
 ⟨some 62,.ia 1 (.t 56) (.t 61),none,false⟩,
 ⟨some 63,.ld true 1 (.t 62),none,false⟩,
 ⟨some 64,.mv (.t 4),none,false⟩,
 ⟨some 65,.mv (.t 5),none,false⟩,
 ⟨some 66,.mv (.t 0),none,false⟩,
 ⟨some 67,.mv (.t 8),none,false⟩,
 ⟨some 68,.ia 2 (.t 66) (.t 67),none,false⟩,
 ⟨some 69,.fa 1 (.t 68),none,false⟩,
 ⟨some 70,.ld true 1 (.t 69),none,false⟩,
 ⟨some 71,.bin .add (.t 65) (.t 70),none,false⟩,
 ⟨some 72,.ia 1 (.t 64) (.t 71),none,false⟩,
 ⟨some 73,.ld true 1 (.t 72),none,false⟩,
 ⟨some 9,.mv (.t 63),none,false⟩,
 ⟨some 10,.mv (.t 73),none,true⟩]
abbrev o37_20:List Ins:=[⟨some 74,.mv (.t 9),none,true⟩,
 ⟨some 75,.mv (.t 10),none,true⟩,
 ⟨some 76,.bin .neq (.t 74) (.t 75),none,true⟩]
abbrev o37_21:List Ins:=[⟨some 77,.mv (.t 4),none,false⟩,
 ⟨some 78,.mv (.t 0),none,false⟩,
 ⟨some 79,.mv (.t 8),none,false⟩,
 ⟨some 80,.ia 2 (.t 78) (.t 79),none,false⟩,
 ⟨some 81,.fa 0 (.t 80),none,false⟩,
 ⟨some 82,.ld true 1 (.t 81),none,false⟩,
 ⟨some 83,.mv (.t 4),none,false⟩,
 ⟨some 84,.mv (.t 5),none,false⟩,
 ⟨some 85,.mv (.t 0),none,false⟩,
 ⟨some 86,.mv (.t 8),none,false⟩,
 ⟨some 87,.ia 2 (.t 85) (.t 86),none,false⟩,
 ⟨some 88,.fa 1 (.t 87),none,false⟩,
 ⟨some 89,.ld true 1 (.t 88),none,false⟩,
 ⟨some 90,.bin .add (.t 84) (.t 89),none,false⟩,
 ⟨some 91,.mv (.t 9),none,false⟩,
 ⟨some 92,.mv (.t 10),none,false⟩,
 ⟨some 93,.mm false (.t 91) (.t 92),none,false⟩,
 ⟨some 94,.mv (.t 9),none,false⟩,
 ⟨some 95,.mv (.t 10),none,false⟩,
 ⟨some 96,.mm false (.t 94) (.t 95),none,false⟩,
 ⟨some 97,.ia 1 (.t 77) (.t 82),none,false⟩,
 ⟨none,.st 1 (.t 97) (.t 93),none,false⟩,
 ⟨some 98,.ia 1 (.t 83) (.t 90),none,true⟩,
 ⟨none,.st 1 (.t 98) (.t 96),none,true⟩]
abbrev o37_22:List Ins:=[⟨some 7,.mv (.k (.c (.bool true))),none,true⟩]
abbrev v37_23:VC:=(.seq (.dops o37_21) (.ops o37_22))
abbrev v37_24:VC:=(.cond (.t 76) v37_23 .skip)
abbrev v37_25:VC:=(.seq (.ops o37_20) v37_24)
abbrev v37_26:VC:=(.seq (.dops o37_19) v37_25)
abbrev o37_27:List Ins:=[⟨some 54,.mv (.t 8),none,true⟩,
 ⟨some 55,.bin .add (.t 54) (.k (.c (.int .i64 1))),none,true⟩,
 ⟨some 8,.mv (.t 55),none,true⟩]
abbrev v37_28:VC:=(.seq (.block 5 v37_26) (.ops o37_27))
abbrev v37_29:VC:=(.seq (.seq (.ops o37_17) v37_18) v37_28)
-- K37_3: changed and kept: [8,7]
abbrev v37_30:VC:=(.loop v37_29)
abbrev v37_31:VC:=(.block 4 v37_30)
abbrev v37_32:VC:=(.seq (.ops o37_16) v37_31)
abbrev v37_33:VC:=(.seq (.ops o37_15) v37_32)
abbrev v37_34:VC:=(.block 3 v37_33)
abbrev v37_35:VC:=(.seq (.seq (.ops o37_13) v37_14) v37_34)
-- K37_2: changed and kept: [7]
abbrev v37_36:VC:=(.loop v37_35)
abbrev v37_37:VC:=(.block 2 v37_36)
abbrev o37_38:List Ins:=[⟨some 11,.mv (.k (.c (.int .i64 0))),none,true⟩]
abbrev o37_39:List Ins:=[⟨some 99,.mv (.t 11),none,true⟩,
 ⟨some 100,.mv (.t 4),none,true⟩,
 ⟨some 101,.len (.t 100),none,true⟩,
 ⟨some 102,.bin .lss (.t 99) (.t 101),none,true⟩]
abbrev v37_40:VC:=(.cond (.t 102) .skip (.exit 6))
abbrev o37_41:List Ins:=[⟨some 105,.mv (.t 4),none,true⟩,
 ⟨some 106,.mv (.t 11),none,true⟩,
 ⟨some 107,.ia 1 (.t 105) (.t 106),none,true⟩,
 ⟨some 108,.ld true 1 (.t 107),none,true⟩,
 ⟨some 109,.bin .gtr (.t 108) (.k (.c (.int .i64 0))),none,true⟩]
abbrev o37_42:List Ins:=[⟨some 110,.mv (.t 2),none,true⟩,
 ⟨some 111,.bin .add (.t 110) (.k (.c (.int .i64 1))),none,true⟩,
 ⟨some 2,.mv (.t 111),none,true⟩]
abbrev v37_43:VC:=(.cond (.t 109) (.ops o37_42) .skip)
abbrev o37_44:List Ins:=[⟨some 112,.mv (.t 4),none,true⟩,
 ⟨some 113,.mv (.t 11),none,true⟩,
 ⟨some 114,.ia 1 (.t 112) (.t 113),none,true⟩,
 ⟨some 115,.ld true 1 (.t 114),none,true⟩,
 ⟨some 116,.mv (.t 11),none,true⟩,
 ⟨some 117,.bin .add (.k (.c (.int .i64 1))) (.t 116),none,true⟩,
 ⟨some 118,.bin .eql (.t 115) (.t 117),none,true⟩]
abbrev o37_45:List Ins:=[⟨some 119,.mv (.t 3),none,true⟩,
 ⟨some 120,.bin .add (.t 119) (.k (.c (.int .i64 1))),none,true⟩,
 ⟨some 3,.mv (.t 120),none,true⟩]
abbrev v37_46:VC:=(.cond (.t 118) (.ops o37_45) .skip)
abbrev v37_47:VC:=(.seq (.ops o37_44) v37_46)
abbrev v37_48:VC:=(.seq (.seq (.ops o37_41) v37_43) v37_47)
abbrev o37_49:List Ins:=[⟨some 103,.mv (.t 11),none,true⟩,
 ⟨some 104,.bin .add (.t 103) (.k (.c (.int .i64 1))),none,true⟩,
 ⟨some 11,.mv (.t 104),none,true⟩]
abbrev v37_50:VC:=(.seq (.block 7 v37_48) (.ops o37_49))
abbrev v37_51:VC:=(.seq (.seq (.ops o37_39) v37_40) v37_50)
-- K37_4: changed and kept: [11,2,3]
abbrev v37_52:VC:=(.loop v37_51)
abbrev v37_53:VC:=(.block 6 v37_52)
abbrev o37_54:List Ins:=[⟨some 121,.mv (.t 2),none,true⟩,
 ⟨some 122,.mv (.t 3),none,true⟩,
 ⟨some 2,.mv (.t 121),none,true⟩,
 ⟨some 3,.mv (.t 122),none,true⟩]
abbrev v37_55:VC:=(.seq (.ops o37_54) .ret)
abbrev v37_56:VC:=(.seq (.seq (.ops o37_38) v37_53) v37_55)
abbrev v37_57:VC:=(.seq (.seq (.ops o37_12) v37_37) v37_56)
abbrev v37_58:VC:=(.seq (.seq (.ops o37_3) v37_11) v37_57)
abbrev v37_59:VC:=(.seq (.ops o37_2) v37_58)
abbrev v37_60:VC:=(.seq (.ops o37_1) v37_59)
def ir37:FC:=⟨1,123,[.t 2,.t 3],(.seq (.ops o37_0) v37_60)⟩
theorem c37:compM Tryd.prog [] 37 = some ir37:=by kernel_rfl
attribute [local go_sem] Nat.reduceEqDiff Nat.reduceAdd Nat.reduceMul reduceIte Nat.reduceLeDiff Nat.reduceLT Nat.reduceBEq reduceCtorEq
theorem mks_zero' (n:Nat):(List.replicate n [AV.c (CD.int .i64 0)]).flatten = cellsG icds (List.replicate n 0) 0:=by
 induction n with
 | zero => rfl
 | succ n ih => rw [List.replicate_succ,List.flatten_cons,ih,List.replicate_succ]; rfl
def linesN (ms:List (Nat × Nat)):Nat:=linesL (lab0 ms) 140
noncomputable def groupsN (ms:List (Nat × Nat)):Int:=((circ ms).length:Int) + (linesN ms:Int) - (ms.length:Int)
theorem lab_lines {ms:List (Nat × Nat)} {L L':List Int} (h:Lab ms L) (h':Lab ms L'):linesL L 140 = linesL L' 140:=by
 unfold linesL
 congr 1
 refine List.filter_congr fun x hx => ?_
 have hx:=List.mem_range.1 hx
 by_cases ht:touch ms x
 ·obtain ⟨y,_,y2,_⟩:=h.some x hx ht
  obtain ⟨z,_,z2,_⟩:=h'.some x hx ht
  rw [decide_eq_true (by omega),decide_eq_true (by omega)]
 ·rw [h.non x hx ht,h'.non x hx ht]
theorem groups_end {ms:List (Nat × Nat)} (h:InB ms) {L:List Int} (hL:Lab ms L) (he:∀ m ∈ ms,L.getD m.1 0 = L.getD (41 + m.2) 0):linesL L 140 = linesN ms ∧ (groupsL L 140:Int) = groupsN ms:=by
 have h1:=lab_lines hL (lab0_ok h)
 have h2:=circ_lab h hL he
 refine ⟨h1,?_⟩
 unfold groupsN linesN
 omega
theorem linesL_le (L:List Int) (k:Nat):linesL L k ≤ k:=by
 have:=List.length_filter_le (fun i => decide (L.getD i 0 > 0)) (List.range k)
 rwa [List.length_range] at this
theorem groupsL_le (L:List Int) (k:Nat):groupsL L k ≤ k:=by
 have:=List.length_filter_le (fun i => L.getD i 0 == 1 + (i:Int)) (List.range k)
 rwa [List.length_range] at this
theorem lcells_get {L:List Int} {k:Nat} (h:k < L.length) (x:AV):(cellsG icds L 0).getD k x = iv (L.getD k 0):=by
 rw [icell h,List.getD_eq_getElem?_getD,List.getElem?_eq_getElem h]; rfl
theorem lcells_set {L:List Int} {k:Nat} (h:k < L.length) (v:Int):(cellsG icds L 0).set k (iv v) = cellsG icds (L.set k v) 0:=by
 have hcs:=cellsG_set (cds:=icds) icds_one (l:=L) (k:=k) h 0 0 (by decide) (.int .i64 v) v rfl
 rwa [Nat.mul_one,Nat.add_zero] at hcs
theorem lcells_len {L:List Int}:(cellsG icds L 0).length = L.length:=by rw [cellsG_len icds_one]; omega
set_option maxRecDepth 20000 in
set_option maxHeartbeats 16000000 in
theorem groups37 (ms:List (Nat × Nat)) (hin:InB ms) (hl:ms.length ≤ 2000):FSpec Tryd.prog 37 [.c (marksC ms)] (.tup [iv (linesN ms),iv (groupsN ms)]):=by
 have hmax:maxLen = 9223372036854775807:=rfl
 refine FSpec_of c37 (Nat.le_refl _) (by decide) fun C hP hN hC hL => ?_; rw [init_st]
 simp only [ir37,marksC]
 refine WV_seq_ ?_
 (refine WV_op ?_; simp only [go_sem,hP]; (repeat refine qJ ?_))
 refine WV_seq_ ?_
 (refine WV_op ?_; simp only [go_sem,hP,mks_zero']; (repeat refine qJ ?_))
 rw [show Int.toNat 140 = 140 from rfl,show List.replicate 140 (0:Int) = lab0 [] from rfl]
 have hrg:∀ {L:List Int},Lab ms L → ∀ x:Nat,0 ≤ L.getD x 0 ∧ L.getD x 0 ≤ 140:=fun hL x => lab_nn hL x
 have hwc:∀ m:Nat × Nat,m ∈ ms → Go.IntKind.wrap .i64 ((41:Int) + (m.2:Int)) = (41:Int) + (m.2:Int):=fun m hm => w64 (by have:=hin m hm; omega) (by have:=hin m hm; omega)
 (repeat ((first | refine Va ?_ | refine Vb ?_ | refine Vc ?_ | refine Vd ?_ | refine Ve ?_ | refine Vf ?_); (try simp only [go_sem,hP]); (repeat refine qJ ?_)))
 refine WV_loopS (fun k:Nat => ⟨upd (upd (upd (upd (upd (upd e0 0 (.c (.sl 2 (ms.map mcd)))) 2 (iv 0)) 3 (iv 0)) 4 (.vw 1 12 0 140 140)) 5 (iv 41)) 6 (iv k),upd o0 12 (.box (cellsG icds (lab0 (ms.take k)) 0))⟩) (fun k => k ≤ ms.length) (fun k => ms.length - k) 0 (Nat.zero_le _) ?_ ?_
 ·exact Sub_au
 ·intro k hk0
  (repeat ((first | refine Va ?_ | refine Vb ?_ | refine Vc ?_ | refine Vd ?_ | refine Ve ?_ | refine Vf ?_); (try simp only [go_sem,hP,List.length_map]); (repeat refine qJ ?_)))
  (refine WV_cond rfl (fun h => ?_) (fun h => ?_))
  ·have hk:k < ms.length:=by simpa using h
   have hw2:=w64 (n:=(k:Int) + 1) (by omega) (by omega)
   have hm:=hin _ (List.getElem_mem hk)
   have hgd:(List.map mcd ms).getD k [] = mcd ms[k]:=map_getD hk
   have hsn:=lab0_snoc (ms.take k) ms[k]
   rw [← List.take_succ_eq_append_getElem hk] at hsn
   generalize ms[k] = m at hm hgd hsn
   have hl0:=lab0_len (ms.take k)
   generalize lab0 (ms.take k) = L at hsn hl0
   have h1:m.1 < (cellsG icds L 0).length:=by rw [lcells_len,hl0]; omega
   have h1b:m.1 < 140:=by omega
   have hL1:(L.set m.1 (1 + (m.1:Int))).length = 140:=by rw [List.length_set,hl0]
   have h2:41 + m.2 < (cellsG icds (L.set m.1 (1 + (m.1:Int))) 0).length:=by rw [lcells_len,hL1]; omega
   have h2b:41 + m.2 < 140:=by omega
   have hct:((41:Int) + (m.2:Int)).toNat = 41 + m.2:=by omega
   have hw3:=w64 (n:=(41:Int) + (m.2:Int)) (by omega) (by omega)
   have hw4:=w64 (n:=(1:Int) + (m.1:Int)) (by omega) (by omega)
   have hw5:=w64 (n:=(42:Int) + (m.2:Int)) (by omega) (by omega)
   have e1:=lcells_set (L:=L) (k:=m.1) (by omega) (1 + (m.1:Int))
   have e2:=lcells_set (L:=L.set m.1 (1 + (m.1:Int))) (k:=41 + m.2) (by omega) (42 + (m.2:Int))
   (refine WV_skip ?_; simp only [go_sem])
   refine WV_seq_ (WV_block ?_)
   have hw6:Go.IntKind.wrap .i64 (1 + 41) = 42:=by decide
   (refine WV_op ?_; simp only [go_sem,hP,hgd,mcd,List.length_map,Int.toNat_natCast,Int.ofNat_lt,hk,Int.natCast_nonneg,hw3,hw4,hw5,hw6,hct,Nat.mul_one,Nat.zero_add,Nat.add_zero,h1,h1b,h2,h2b,e1,e2]; (repeat refine qJ ?_))
   (repeat ((first | refine Va ?_ | refine Vb ?_ | refine Vc ?_ | refine Vd ?_ | refine Ve ?_ | refine Vf ?_); (try simp only [go_sem,hP,hw2]); (repeat refine qJ ?_)))
   refine ⟨k + 1,by omega,by omega,?_⟩
   rw [hsn]
   exact Sub_au
  ·have hk:k = ms.length:=by simp at h; omega
   subst hk
   rw [List.take_length]
   refine WV_exit ?_
   simp only [thenQ,inQ,reduceIte,beq_self_eq_true]
   have hlab:=lab0_ok hin
   generalize lab0 ms = L0 at hlab
   (repeat ((first | refine Va ?_ | refine Vb ?_ | refine Vc ?_ | refine Vd ?_ | refine Ve ?_ | refine Vf ?_); (try simp only [go_sem,hP]); (repeat refine qJ ?_)))
   refine WV_loopS (fun p:List Int × Bool => ⟨upd (upd (upd (upd (upd (upd e0 0 (.c (.sl 2 (ms.map mcd)))) 2 (iv 0)) 3 (iv 0)) 4 (.vw 1 12 0 140 140)) 5 (iv 41)) 7 (bv p.2),upd o0 12 (.box (cellsG icds p.1 0))⟩) (fun p => Lab ms p.1 ∧ (p.2 = false → ∀ m ∈ ms,p.1.getD m.1 0 = p.1.getD (41 + m.2) 0)) (fun p => 2 * (sumZ p.1).toNat + p.2.toNat) (L0,true) ⟨hlab,fun h => by cases h⟩ ?_ ?_
   ·exact Sub_au
   clear hlab
   clear L0
   rintro ⟨L,a⟩ ⟨hL,ha⟩
   simp only at hL ha ⊢
   (repeat ((first | refine Va ?_ | refine Vb ?_ | refine Vc ?_ | refine Vd ?_ | refine Ve ?_ | refine Vf ?_); (try simp only [go_sem,hP]); (repeat refine qJ ?_)))
   cases a
   ·(refine WV_cond rfl (fun h => ?_) (fun h => ?_))
    ·simp at h
    have he:=groups_end hin hL (ha rfl)
    refine WV_exit ?_
    simp only [thenQ,inQ,reduceIte,beq_self_eq_true]
    (repeat ((first | refine Va ?_ | refine Vb ?_ | refine Vc ?_ | refine Vd ?_ | refine Ve ?_ | refine Vf ?_); (try simp only [go_sem,hP]); (repeat refine qJ ?_)))
    refine WV_loopS (fun k:Nat => ⟨upd (upd (upd (upd e0 4 (.vw 1 12 0 140 140)) 11 (iv k)) 2 (iv (linesL L k))) 3 (iv (groupsL L k)),upd o0 12 (.box (cellsG icds L 0))⟩) (fun k => k ≤ 140) (fun k => 140 - k) 0 (Nat.zero_le _) ?_ ?_
    ·(refine Sub_of (by simp only [go_sem]; ((repeat' (first | exact EnvLe_e0 _ _ | refine EnvLe_upd ?_ ?_)) <;> ((try simp only [upd_app,e0_app,o0_app,Nat.reduceEqDiff,reduceIte]); first | exact AWk.refl _ _ | exact AWk.int (by omega) | exact AWk.int (by rw [w64 (by omega) (by omega)]; omega) | exact AWk.grow rfl | exact AWk.nil _ | exact AWk.of (by simp [linesL,groupsL])))) (by simp only [go_sem]; exact ObjLe_au))
    intro k hk0
    have hll:=linesL_le L k
    have hgl:=groupsL_le L k
    have hlk:=linesL_succ L k
    have hgk:=groupsL_succ L k
    (repeat ((first | refine Va ?_ | refine Vb ?_ | refine Vc ?_ | refine Vd ?_ | refine Ve ?_ | refine Vf ?_); (try simp only [go_sem,hP]); (repeat refine qJ ?_)))
    (refine WV_cond rfl (fun h => ?_) (fun h => ?_))
    ·have hk:k < 140:=by simp at h; omega
     have hw2:=w64 (n:=(k:Int) + 1) (by omega) (by omega)
     have hw3:=w64 (n:=(linesL L k:Int) + 1) (by omega) (by omega)
     have hw4:=w64 (n:=(groupsL L k:Int) + 1) (by omega) (by omega)
     have hw5:=w64 (n:=(1:Int) + (k:Int)) (by omega) (by omega)
     have hkl:k < (cellsG icds L 0).length:=by rw [lcells_len,hL.len]; exact hk
     have hge:=fun x => lcells_get (L:=L) (k:=k) (by rw [hL.len]; exact hk) x
     generalize linesL L k = A at *
     generalize groupsL L k = B at *
     generalize hA':linesL L (k + 1) = A' at *
     generalize hB':groupsL L (k + 1) = B' at *
     generalize L.getD k 0 = v at *
     (refine WV_skip ?_; simp only [go_sem])
     refine WV_seq_ (WV_block (WV_mid ⟨upd (upd (upd (upd e0 4 (.vw 1 12 0 140 140)) 11 (iv k)) 2 (iv A')) 3 (iv B),upd o0 12 (.box (cellsG icds L 0))⟩ ?_ ?_))
     ·refine WV_seq_ ?_
      (refine WV_op ?_; simp only [go_sem,hP,Int.toNat_natCast,Int.ofNat_lt,hk,Int.natCast_nonneg,Nat.mul_one,Nat.zero_add,Nat.add_zero,hkl,hge]; (repeat refine qJ ?_))
      by_cases hv:v > 0
      ·rw [if_pos hv] at hlk
       subst hlk
       (refine WV_cond rfl (fun h => ?_) (fun h => ?_))
       ·(repeat ((first | refine Va ?_ | refine Vb ?_ | refine Vc ?_ | refine Vd ?_ | refine Ve ?_ | refine Vf ?_); (try simp only [go_sem,hP,hw3]); (repeat refine qJ ?_)))
        exact Sub_au
       ·simp at h; omega
      ·rw [if_neg hv,Nat.add_zero] at hlk
       subst hlk
       (refine WV_cond rfl (fun h => ?_) (fun h => ?_))
       ·simp at h; omega
       ·(refine WV_skip ?_; simp only [go_sem])
        exact Sub_au
     refine WV_seq_ ?_
     (refine WV_op ?_; simp only [go_sem,hP,Int.toNat_natCast,Int.ofNat_lt,hk,Int.natCast_nonneg,Nat.mul_one,Nat.zero_add,Nat.add_zero,hkl,hge,hw5]; (repeat refine qJ ?_))
     by_cases hv:v = 1 + (k:Int)
     ·rw [if_pos hv] at hgk
      subst hgk
      (refine WV_cond rfl (fun h => ?_) (fun h => ?_))
      ·(repeat ((first | refine Va ?_ | refine Vb ?_ | refine Vc ?_ | refine Vd ?_ | refine Ve ?_ | refine Vf ?_); (try simp only [go_sem,hP,hw4,hw2]); (repeat refine qJ ?_)))
       refine ⟨k + 1,by omega,by omega,?_⟩
       rw [hA',hB']
       exact Sub_au
      ·simp at h; exact (h hv).elim
     ·rw [if_neg hv,Nat.add_zero] at hgk
      subst hgk
      (refine WV_cond rfl (fun h => ?_) (fun h => ?_))
      ·simp at h; exact (hv h).elim
      ·(repeat ((first | refine Va ?_ | refine Vb ?_ | refine Vc ?_ | refine Vd ?_ | refine Ve ?_ | refine Vf ?_); (try simp only [go_sem,hP,hw2]); (repeat refine qJ ?_)))
       refine ⟨k + 1,by omega,by omega,?_⟩
       rw [hA',hB']
       exact Sub_au
    ·have hk:k = 140:=by simp at h; omega
     subst hk
     rw [he.1,he.2]
     (repeat ((first | refine Va ?_ | refine Vb ?_ | refine Vc ?_ | refine Vd ?_ | refine Ve ?_ | refine Vf ?_); (try simp only [go_sem,hP]); (repeat refine qJ ?_)))
     (refine WV_ret ?_; simp only [thenQ,inQ,RetQ,RetOk,resAll,resA]; simp only [go_sem,tupA,AV.port,AV.portL,exists_eq_left']; (first | exact AVle.of rfl | refine AVle.of ?_ | skip))
   ·(refine WV_cond rfl (fun h => ?_) (fun h => ?_))
    case refine_2 => simp at h
    (refine WV_skip ?_; simp only [go_sem])
    (repeat ((first | refine Va ?_ | refine Vb ?_ | refine Vc ?_ | refine Vd ?_ | refine Ve ?_ | refine Vf ?_); (try simp only [go_sem,hP]); (repeat refine qJ ?_)))
    refine WV_loopS (fun p:Nat × List Int × Bool => ⟨upd (upd (upd (upd (upd (upd (upd e0 0 (.c (.sl 2 (ms.map mcd)))) 2 (iv 0)) 3 (iv 0)) 4 (.vw 1 12 0 140 140)) 5 (iv 41)) 7 (bv p.2.2)) 8 (iv p.1),upd o0 12 (.box (cellsG icds p.2.1 0))⟩) (fun p => p.1 ≤ ms.length ∧ Lab ms p.2.1 ∧ (p.2.2 = false → p.2.1 = L ∧ ∀ m ∈ ms.take p.1,L.getD m.1 0 = L.getD (41 + m.2) 0) ∧ (p.2.2 = true → sumZ p.2.1 < sumZ L)) (fun p => ms.length - p.1) (0,L,false) ⟨Nat.zero_le _,hL,fun _ => ⟨rfl,fun m hm => by cases hm⟩,fun h => by cases h⟩ ?_ ?_
    ·exact Sub_au
    rintro ⟨k,L',b⟩ ⟨hk0,hL',hb1,hb2⟩
    simp only at hk0 hL' hb1 hb2 ⊢
    (repeat ((first | refine Va ?_ | refine Vb ?_ | refine Vc ?_ | refine Vd ?_ | refine Ve ?_ | refine Vf ?_); (try simp only [go_sem,hP,List.length_map]); (repeat refine qJ ?_)))
    (refine WV_cond rfl (fun h => ?_) (fun h => ?_))
    ·have hk:k < ms.length:=by simpa using h
     have hw2:=w64 (n:=(k:Int) + 1) (by omega) (by omega)
     have hm:=hin _ (List.getElem_mem hk)
     have hmm:=List.getElem_mem hk
     have hgd:(List.map mcd ms).getD k [] = mcd ms[k]:=map_getD hk
     have hts:=List.take_succ_eq_append_getElem hk
     generalize ms[k] = m at hm hgd hmm hts
     have hl0:=hL'.len
     have h1:m.1 < (cellsG icds L' 0).length:=by rw [lcells_len,hl0]; omega
     have h1b:m.1 < 140:=by omega
     have h2:41 + m.2 < (cellsG icds L' 0).length:=by rw [lcells_len,hl0]; omega
     have h2b:41 + m.2 < 140:=by omega
     have hct:((41:Int) + (m.2:Int)).toNat = 41 + m.2:=by omega
     have hw3:=w64 (n:=(41:Int) + (m.2:Int)) (by omega) (by omega)
     have q1:=fun x => lcells_get (L:=L') (k:=m.1) (by omega) x
     have q2:=fun x => lcells_get (L:=L') (k:=41 + m.2) (by omega) x
     have hstep:=lab_step hin hL' hmm
     generalize hA:L'.getD m.1 0 = A at *
     generalize hB:L'.getD (41 + m.2) 0 = B at *
     (refine WV_skip ?_; simp only [go_sem])
     refine WV_seq_ (WV_block (WV_seq_ ?_))
     (refine WV_op ?_; simp only [go_sem,hP,hgd,mcd,List.length_map,Int.toNat_natCast,Int.ofNat_lt,hk,Int.natCast_nonneg,hw3,hct,Nat.mul_one,Nat.zero_add,Nat.add_zero,h1,h1b,h2,h2b,q1,q2]; (repeat refine qJ ?_))
     refine WV_seq_ ?_
     (refine WV_op ?_; simp only [go_sem,hP]; (repeat refine qJ ?_))
     by_cases hab:A = B
     ·(refine WV_cond rfl (fun h => ?_) (fun h => ?_))
      ·simp [hab] at h
      ·(refine WV_skip ?_; simp only [go_sem])
       (repeat ((first | refine Va ?_ | refine Vb ?_ | refine Vc ?_ | refine Vd ?_ | refine Ve ?_ | refine Vf ?_); (try simp only [go_sem,hP,hw2]); (repeat refine qJ ?_)))
       refine ⟨(k + 1,L',b),⟨by simp only; omega,hL',fun h => ?_,hb2⟩,by simp only; omega,?_⟩
       ·obtain ⟨rfl,e⟩:=hb1 h
        refine ⟨rfl,fun x hx => ?_⟩
        rw [hts] at hx
        rcases List.mem_append.1 hx with hx | hx
        ·exact e x hx
        ·simp only [List.mem_singleton] at hx
         subst hx
         rw [hA,hB,hab]
       ·exact Sub_au
     ·obtain ⟨s1,s2⟩:=hstep hab
      generalize hmn:min A B = M at *
      have hL1:(L'.set m.1 M).length = 140:=by rw [List.length_set,hl0]
      have h3:41 + m.2 < (cellsG icds (L'.set m.1 M) 0).length:=by rw [lcells_len,hL1]; omega
      have e1:=lcells_set (L:=L') (k:=m.1) (by omega) M
      have e2:=lcells_set (L:=L'.set m.1 M) (k:=41 + m.2) (by omega) M
      (refine WV_cond rfl (fun h => ?_) (fun h => ?_))
      ·refine WV_seq_ ?_
       (refine WV_op ?_; simp only [go_sem,hP,hgd,mcd,List.length_map,Int.toNat_natCast,Int.ofNat_lt,hk,Int.natCast_nonneg,hw3,hct,Nat.mul_one,Nat.zero_add,Nat.add_zero,h1,h1b,h2,h2b,h3,e1,e2,hmn]; (repeat refine qJ ?_))
       (repeat ((first | refine Va ?_ | refine Vb ?_ | refine Vc ?_ | refine Vd ?_ | refine Ve ?_ | refine Vf ?_); (try simp only [go_sem,hP,hw2]); (repeat refine qJ ?_)))
       refine ⟨(k + 1,(L'.set m.1 M).set (41 + m.2) M,true),⟨by simp only; omega,s1,fun h => (by cases h),fun _ => ?_⟩,by simp only; omega,?_⟩
       ·cases b
        ·rw [(hb1 rfl).1] at s2; rw [(hb1 rfl).1]; exact s2
        ·have:=hb2 rfl
         simp only; omega
       ·exact Sub_au
      ·simp at h; exact (hab h).elim
    ·have hk:k = ms.length:=by simp at h; omega
     subst hk
     rw [List.take_length] at hb1
     refine WV_exit ?_
     simp only [thenQ,inQ,reduceIte,beq_self_eq_true]
     have hs1:=lab_sum hL
     have hs2:=lab_sum hL'
     refine ⟨(L',b),⟨hL',fun h => ?_⟩,?_,?_⟩
     ·obtain ⟨rfl,e⟩:=hb1 h
      exact e
     ·cases b
      ·rw [(hb1 rfl).1]; simp
      ·have:=hb2 rfl
       simp only
       omega
     ·exact Sub_au
end Go.Proofs.YtlmfdmlochpfcaaDoor

namespace Go.Proofs.YtlmfdmlochpfcaaDoor
open Go Go.V
namespace W
end W
attribute [local go_sem] Nat.reduceEqDiff Nat.reduceAdd Nat.reduceMul reduceIte Nat.reduceLeDiff Nat.reduceLT Nat.reduceBEq reduceCtorEq
end Go.Proofs.YtlmfdmlochpfcaaDoor

namespace Go.Proofs.YtlmfdmlochpfcaaDoor
open Go Go.V
attribute [local go_sem] Nat.reduceEqDiff Nat.reduceAdd Nat.reduceMul reduceIte Nat.reduceLeDiff Nat.reduceLT Nat.reduceBEq reduceCtorEq
end Go.Proofs.YtlmfdmlochpfcaaDoor

namespace Go.Proofs.YtlmfdmlochpfcaaDoor
open Go Go.V
attribute [local go_sem] Nat.reduceEqDiff Nat.reduceAdd Nat.reduceMul reduceIte Nat.reduceLeDiff Nat.reduceLT Nat.reduceBEq reduceCtorEq
end Go.Proofs.YtlmfdmlochpfcaaDoor

namespace Go.Proofs.YtlmfdmlochpfcaaDoor
open Go Go.V
attribute [local go_sem] Nat.reduceEqDiff Nat.reduceAdd Nat.reduceMul reduceIte Nat.reduceLeDiff Nat.reduceLT Nat.reduceBEq reduceCtorEq
theorem linesN_le (ms:List (Nat × Nat)):linesN ms ≤ 140:=linesL_le _ _
theorem circ_len (ms:List (Nat × Nat)):(circ ms).length ≤ ms.length:=circK_len ms ms.length
end Go.Proofs.YtlmfdmlochpfcaaDoor
