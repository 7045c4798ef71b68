/-
  Contracts of the layer's functions, of the laws' helpers and of the law; conditions: as each theorem states.
-/
import Derived.Test.YtlmfdmlochpfcaaDoorU5
import Derived.Test.YtlmfdmlochpfcaaDoorU4
set_option linter.unusedVariables false
set_option linter.unusedSimpArgs false
namespace Go.Proofs.YtlmfdmlochpfcaaDoor
open Go Go.V
def Lost (n w:Nat) (g:List (List Int)) (p:Nat × Nat):Prop:=p.1 < n ∧ p.2 < w ∧ valAt g p = -1
def Clos (S:Nat × Nat → Prop):Prop:=∀ p,S p → (∃ q,S q ∧ q ≠ p ∧ q.1 = p.1) ∧ (∃ q,S q ∧ q ≠ p ∧ q.2 = p.2)
theorem posL_mem {n w i:Nat} {b:Bool} {p:Nat × Nat}:p ∈ posL n w i b ↔ if b then p.1 = i ∧ p.2 < w else p.2 = i ∧ p.1 < n:=by
 unfold posL
 cases b
 ·simp only [Bool.false_eq_true,if_false,List.mem_map,List.mem_range]
  constructor
  ·rintro ⟨k,hk,rfl⟩; exact ⟨rfl,hk⟩
  ·rintro ⟨rfl,h⟩; exact ⟨p.1,h,rfl⟩
 ·simp only [if_true,List.mem_map,List.mem_range]
  constructor
  ·rintro ⟨k,hk,rfl⟩; exact ⟨rfl,hk⟩
  ·rintro ⟨rfl,h⟩; exact ⟨p.2,h,rfl⟩
theorem posL_row_mem {n w i:Nat} {p:Nat × Nat}:p ∈ posL n w i true ↔ p.1 = i ∧ p.2 < w:=by rw [posL_mem]; simp
theorem posL_col_mem {n w i:Nat} {p:Nat × Nat}:p ∈ posL n w i false ↔ p.2 = i ∧ p.1 < n:=by rw [posL_mem]; simp
theorem allP_mem {n w:Nat} {l:List (Nat × Nat)}:l ∈ allP n w ↔ (∃ i,i < n ∧ l = posL n w i true) ∨ (∃ k,k < w ∧ l = posL n w k false):=by
 simp only [allP,List.mem_append,List.mem_map,List.mem_range]
 constructor
 ·rintro (⟨i,h,rfl⟩ | ⟨i,h,rfl⟩)
  ·exact .inl ⟨i,h,rfl⟩
  ·exact .inr ⟨i,h,rfl⟩
 ·rintro (⟨i,h,rfl⟩ | ⟨i,h,rfl⟩)
  ·exact .inl ⟨i,h,rfl⟩
  ·exact .inr ⟨i,h,rfl⟩
theorem lostL_mem {g:List (List Int)} {l:List (Nat × Nat)} {p:Nat × Nat}:p ∈ lostL g l ↔ p ∈ l ∧ valAt g p = -1:=by simp [lostL]
theorem posL_nodup (n w i:Nat) (b:Bool):(posL n w i b).Nodup:=by
 unfold posL
 cases b
 ·simp only [Bool.false_eq_true,if_false]
  exact List.pairwise_map.2 (List.nodup_range.imp fun h e => h (by simpa using e))
 ·simp only [if_true]
  exact List.pairwise_map.2 (List.nodup_range.imp fun h e => h (by simpa using e))
theorem allP_nodup {n w:Nat} {l:List (Nat × Nat)} (h:l ∈ allP n w):l.Nodup:=by
 rcases allP_mem.1 h with ⟨i,_,rfl⟩ | ⟨i,_,rfl⟩ <;> exact posL_nodup _ _ _ _
theorem step_clos {n w:Nat} {g g':List (List Int)} (h:GOw n w g) (hs:stepG n w g = some g') {S:Nat × Nat → Prop} (hc:Clos S) (hS:∀ p,S p → Lost n w g p):∀ p,S p → Lost n w g' p:=by
 obtain ⟨l,p,hl,_,hlo,hpl,hv,rfl,_,_⟩:=stepG_some h hs
 intro q hq
 obtain ⟨h1,h2,h3⟩:=hS q hq
 refine ⟨h1,h2,?_⟩
 rw [valAt_set]
 split
 ·rename_i he
  obtain ⟨rfl,_,_⟩:=he
  exfalso
  obtain ⟨⟨a,ha,hne,hr⟩,⟨b,hb,hne2,hr2⟩⟩:=hc p hq
  have key:∀ a,S a → a ∈ l → a = p:=fun a ha hal => by
   have:a ∈ lostL g l:=lostL_mem.2 ⟨hal,(hS a ha).2.2⟩
   rw [hlo] at this; simpa using this
  rcases allP_mem.1 hl with ⟨i,hi,rfl⟩ | ⟨k,hk,rfl⟩
  ·have:=posL_row_mem.1 hpl
   exact hne (key a ha (posL_row_mem.2 ⟨hr.trans this.1,(hS a ha).2.1⟩))
  ·have:=posL_col_mem.1 hpl
   exact hne2 (key b hb (posL_col_mem.2 ⟨hr2.trans this.1,(hS b hb).1⟩))
 ·exact h3
theorem two_lost {g:List (List Int)} {l:List (Nat × Nat)} (hnd:l.Nodup) {p:Nat × Nat} (hp:p ∈ l) (hv:valAt g p = -1) (h1:(lostL g l).length ≠ 1):∃ q,q ∈ l ∧ valAt g q = -1 ∧ q ≠ p:=by
 refine Classical.byContradiction fun hq => h1 ?_
 have hnd2:(lostL g l).Nodup:=hnd.filter _
 have hall:∀ q ∈ lostL g l,q = p:=fun q hq' => by
  obtain ⟨a,b⟩:=lostL_mem.1 hq'
  exact Classical.byContradiction fun hne => hq ⟨q,a,b,hne⟩
 have hmem:p ∈ lostL g l:=lostL_mem.2 ⟨hp,hv⟩
 generalize lostL g l = L at hnd2 hall hmem
 match L,hnd2,hall,hmem with
 | [a],_,_,_ => rfl
 | a :: b :: t,hnd2,hall,_ =>
  have h1:=hall a (by simp)
  have h2:=hall b (by simp)
  rw [h1,h2] at hnd2
  simp at hnd2
theorem end_clos {n w:Nat} {g:List (List Int)} (hs:stepG n w g = none):Clos (Lost n w g):=by
 have hn:∀ l ∈ allP n w,(lostL g l).length ≠ 1:=by
  unfold stepG at hs
  split at hs
  ·cases hs
  ·rename_i hf
   intro l hl h1
   have:=List.find?_eq_none.1 hf l hl
   simp [oneL,h1] at this
 rintro p ⟨h1,h2,h3⟩
 constructor
 ·obtain ⟨q,q1,q2,q3⟩:=two_lost (posL_nodup n w p.1 true) (posL_row_mem.2 ⟨rfl,h2⟩) h3 (hn _ (allP_mem.2 (.inl ⟨p.1,h1,rfl⟩)))
  have:=posL_row_mem.1 q1
  exact ⟨q,⟨by omega,this.2,q2⟩,q3,this.1⟩
 ·obtain ⟨q,q1,q2,q3⟩:=two_lost (posL_nodup n w p.2 false) (posL_col_mem.2 ⟨rfl,h1⟩) h3 (hn _ (allP_mem.2 (.inr ⟨p.2,h2,rfl⟩)))
  have:=posL_col_mem.1 q1
  exact ⟨q,⟨this.2,by omega,q2⟩,q3,this.1⟩
theorem restG_ind {n w:Nat} {M:List (List Int) → Prop} (hM:∀ g g',GOw n w g → M g → stepG n w g = some g' → M g'):∀ (k:Nat) (g:List (List Int)),nlost g = k → GOw n w g → M g → M (restG n w g) ∧ stepG n w (restG n w g) = none
 | 0,g,hk,h,hm => by
  cases hs:stepG n w g with
  | none => rw [restG_end hs]; exact ⟨hm,hs⟩
  | some g' => obtain ⟨_,_,_,_,_,_,_,_,_,hn⟩:=stepG_some h hs; omega
 | k + 1,g,hk,h,hm => by
  cases hs:stepG n w g with
  | none => rw [restG_end hs]; exact ⟨hm,hs⟩
  | some g' =>
   obtain ⟨_,_,_,_,_,_,_,_,hg,hn⟩:=stepG_some h hs
   rw [restG_step h hs]
   exact restG_ind hM k g' (by omega) hg (hM g g' h hm hs)
theorem restG_fin {n w:Nat} {g:List (List Int)} (h:GOw n w g):stepG n w (restG n w g) = none:=(restG_ind (M:=fun _ => True) (fun _ _ _ _ _ => trivial) _ g rfl h trivial).2
theorem step_less {n w:Nat} {g g':List (List Int)} (h:GOw n w g) (hs:stepG n w g = some g') {p:Nat × Nat} (hp:Lost n w g' p):Lost n w g p:=by
 obtain ⟨l,q,hl,_,hlo,hpl,hv,rfl,_,_⟩:=stepG_some h hs
 obtain ⟨h1,h2,h3⟩:=hp
 refine ⟨h1,h2,?_⟩
 rw [valAt_set] at h3
 split at h3
 ·have:=lack_rng g l; omega
 ·exact h3
theorem rest_core {n w:Nat} {g:List (List Int)} (h:GOw n w g) (p:Nat × Nat):Lost n w (restG n w g) p ↔ ∃ S,Clos S ∧ (∀ q,S q → Lost n w g q) ∧ S p:=by
 constructor
 ·intro hp
  refine ⟨Lost n w (restG n w g),end_clos (restG_fin h),?_,hp⟩
  exact (restG_ind (M:=fun g' => ∀ q,Lost n w g' q → Lost n w g q) (fun a b ha hm hs q hq => hm q (step_less ha hs hq)) _ g rfl h (fun _ h => h)).1
 ·rintro ⟨S,hc,hS,hp⟩
  exact (restG_ind (M:=fun g' => ∀ q,S q → Lost n w g' q) (fun a b ha hm hs => step_clos ha hs hc hm) _ g rfl h hS).1 p hp
structure Right (n w:Nat) (G:List (List Int)):Prop where
 gow:GOw n w G
 full:∀ i k,i < n → k < w → valAt G (i,k) ≠ -1
 sum:∀ l ∈ allP n w,lackL G l = 0
structure Part (n w:Nat) (G g:List (List Int)):Prop where
 gow:GOw n w g
 val:∀ i k,i < n → k < w → valAt g (i,k) = -1 ∨ valAt g (i,k) = valAt G (i,k)
theorem sumL_app (g:List (List Int)) (a b:List (Nat × Nat)):sumL g (a ++ b) = sumL g a + sumL g b:=by simp [sumL]
theorem sumL_cons (g:List (List Int)) (m:Nat × Nat) (b:List (Nat × Nat)):sumL g (m :: b) = (if valAt g m = -1 then 0 else valAt g m) + sumL g b:=by simp [sumL]
theorem sumL_congr {g G:List (List Int)} {l:List (Nat × Nat)} (h:∀ m ∈ l,valAt g m = valAt G m):sumL g l = sumL G l:=by
 unfold sumL
 congr 1
 exact List.map_congr_left fun m hm => by rw [h m hm]
theorem part_lack {n w:Nat} {G g:List (List Int)} (hG:Right n w G) (hp:Part n w G g) {l:List (Nat × Nat)} (hl:l ∈ allP n w) {p:Nat × Nat} (hlo:lostL g l = [p]):lackL g l = valAt G p:=by
 obtain ⟨A,q,B,e,hA,hB,hq,hlo2⟩:=lost_one (g:=g) (ps:=l) (by rw [hlo]; rfl)
 rw [hlo] at hlo2
 simp only [List.cons.injEq,and_true] at hlo2
 subst hlo2
 have hin:=allP_in hl
 have hin2:∀ m ∈ l,valAt g m ≠ -1 → valAt g m = valAt G m:=fun m hm hv => by
  obtain ⟨h1,h2⟩:=hin m hm
  rcases hp.val m.1 m.2 h1 h2 with h | h
  ·exact (hv h).elim
  ·exact h
 have hA2:sumL g A = sumL G A:=sumL_congr fun m hm => hin2 m (by rw [e]; simp [hm]) (hA m hm)
 have hB2:sumL g B = sumL G B:=sumL_congr fun m hm => hin2 m (by rw [e]; simp [hm]) (hB m hm)
 have hz:=hG.sum l hl
 have hpin:=hin p (by rw [e]; simp)
 have hf:=hG.full p.1 p.2 hpin.1 hpin.2
 have hv:=hG.gow.val p.1 p.2 hpin.1 hpin.2
 have hf':valAt G p ≠ -1:=hf
 have hv':-1 ≤ valAt G p ∧ valAt G p < 94:=hv
 unfold lackL at hz ⊢
 rw [e,sumL_app,sumL_cons] at hz ⊢
 rw [if_pos hq,hA2,hB2]
 rw [if_neg hf'] at hz
 omega
theorem part_step {n w:Nat} {G g g':List (List Int)} (hG:Right n w G) (hp:Part n w G g) (hs:stepG n w g = some g'):Part n w G g':=by
 obtain ⟨l,p,hl,_,hlo,hpl,hv,rfl,hg,_⟩:=stepG_some hp.gow hs
 refine ⟨hg,fun i k hi hk => ?_⟩
 rw [valAt_set]
 split
 ·rename_i he
  obtain ⟨rfl,_,_⟩:=he
  exact .inr (part_lack hG hp hl hlo)
 ·exact hp.val i k hi hk
theorem part_rest {n w:Nat} {G g:List (List Int)} (hG:Right n w G) (hp:Part n w G g):Part n w G (restG n w g) :=
 (restG_ind (M:=Part n w G) (fun _ _ _ hm hs => part_step hG hm hs) _ g rfl hp.gow hp).1
theorem grid_ext {n w:Nat} {g G:List (List Int)} (hg:GOw n w g) (hG:GOw n w G) (h:∀ i k,i < n → k < w → valAt g (i,k) = valAt G (i,k)):g = G:=by
 apply List.ext_getElem
 ·rw [hg.len,hG.len]
 ·intro i h1 h2
  have hi:i < n:=by rw [← hg.len]; exact h1
  have r1:=hg.row i hi
  have r2:=hG.row i hi
  have e1:g.getD i [] = g[i]:=by rw [List.getD_eq_getElem?_getD,List.getElem?_eq_getElem h1]; rfl
  have e2:G.getD i [] = G[i]:=by rw [List.getD_eq_getElem?_getD,List.getElem?_eq_getElem h2]; rfl
  rw [e1] at r1
  rw [e2] at r2
  apply List.ext_getElem
  ·rw [r1,r2]
  ·intro k h3 h4
   have:=h i k hi (by omega)
   unfold valAt at this
   simp only [e1,e2] at this
   rw [List.getD_eq_getElem?_getD,List.getElem?_eq_getElem h3,List.getD_eq_getElem?_getD,List.getElem?_eq_getElem h4] at this
   exact this
theorem rest_right {n w:Nat} {G g:List (List Int)} (hG:Right n w G) (hp:Part n w G g) (h0:∀ S,Clos S → (∀ q,S q → Lost n w g q) → ∀ p,¬ S p):restG n w g = G:=by
 have hr:=part_rest hG hp
 refine grid_ext hr.gow hG.gow fun i k hi hk => ?_
 rcases hr.val i k hi hk with h | h
 ·obtain ⟨S,hc,hS,hp'⟩:=(rest_core hp.gow (i,k)).1 ⟨hi,hk,h⟩
  exact (h0 S hc hS _ hp').elim
 ·exact h
theorem clos_cross {S:Nat × Nat → Prop} (hc:Clos S) (a c:Nat) (hS:∀ p,S p → p.1 = a ∨ p.2 = c):∀ p,¬ S p:=by
 have h1:∀ p,S p → p.1 = a:=fun p hp => by
  rcases hS p hp with h | h
  ·exact h
  ·obtain ⟨⟨q,hq,n1,e1⟩,_⟩:=hc p hp
   rcases hS q hq with h2 | h2
   ·rw [← e1]; exact h2
   ·exact (n1 (Prod.ext e1 (h2.trans h.symm))).elim
 intro p hp
 obtain ⟨_,⟨r,hr,n2,e2⟩⟩:=hc p hp
 exact n2 (Prod.ext ((h1 r hr).trans (h1 p hp).symm) e2)
end Go.Proofs.YtlmfdmlochpfcaaDoor

namespace Go.Proofs.YtlmfdmlochpfcaaDoor
open Go Go.V
end Go.Proofs.YtlmfdmlochpfcaaDoor

namespace Go.Proofs.YtlmfdmlochpfcaaDoor
open Go Go.V
theorem noLost_iff {n w:Nat} {g:List (List Int)}:noLost n w g = true ↔ ∀ i k,i < n → k < w → valAt g (i,k) ≠ -1:=by
 unfold noLost
 rw [List.all_eq_true]
 constructor
 ·intro h i k hi hk hv
  have:=h _ (allP_mem.2 (.inl ⟨i,hi,rfl⟩))
  simp only [beq_iff_eq] at this
  have hm:(i,k) ∈ lostL g (posL n w i true):=lostL_mem.2 ⟨posL_row_mem.2 ⟨rfl,hk⟩,hv⟩
  rw [List.eq_nil_of_length_eq_zero this] at hm
  cases hm
 ·intro h l hl
  simp only [beq_iff_eq]
  rw [List.length_eq_zero_iff,List.eq_nil_iff_forall_not_mem]
  intro p hp
  obtain ⟨h1,h2⟩:=lostL_mem.1 hp
  obtain ⟨k1,k2⟩:=allP_in hl p h1
  exact h p.1 p.2 k1 k2 h2
theorem marks_iff {n:Nat} {g:List (List Int)}:(marksG g n).length = 0 ↔ ∀ i k,i < n → k < wid g → valAt g (i,k) ≠ -1:=by
 rw [List.length_eq_zero_iff,List.eq_nil_iff_forall_not_mem]
 unfold marksG
 constructor
 ·intro h i k hi hk hv
  refine h (i,k) ?_
  rw [List.mem_flatMap]
  exact ⟨i,List.mem_range.2 hi,lostL_mem.2 ⟨posL_row_mem.2 ⟨rfl,hk⟩,hv⟩⟩
 ·intro h p hp
  rw [List.mem_flatMap] at hp
  obtain ⟨i,hi,hp⟩:=hp
  obtain ⟨h1,h2⟩:=lostL_mem.1 hp
  have h1:=posL_row_mem.1 h1
  have:=h i p.2 (List.mem_range.1 hi) h1.2
  rw [← h1.1] at this
  exact this h2
end Go.Proofs.YtlmfdmlochpfcaaDoor

namespace Go.Proofs.YtlmfdmlochpfcaaDoor
open Go Go.V
def pt (x:Nat):Int:=if x < 41 then x else -1 - ((x - 41:Nat):Int)
theorem setD (l:List Int) (i:Nat) (v:Int) (k:Nat) (hi:i < l.length):(l.set i v).getD k 0 = if k = i then v else l.getD k 0:=by
 rw [List.getD_eq_getElem?_getD,List.getElem?_set]
 by_cases h:i = k
 ·subst h; rw [if_pos rfl,if_pos hi,if_pos rfl]; rfl
 ·rw [if_neg h,if_neg (fun e => h e.symm),List.getD_eq_getElem?_getD]
end Go.Proofs.YtlmfdmlochpfcaaDoor

namespace Go.Proofs.YtlmfdmlochpfcaaDoor
open Go Go.V
theorem lostI_marks (g:List (List Int)) (w n:Nat) (hw:wid g = w):lostI g w n = marksG g n:=by
 subst hw; rfl
end Go.Proofs.YtlmfdmlochpfcaaDoor

namespace Go.Proofs.YtlmfdmlochpfcaaDoor
open Go Go.V
theorem range_map_get {α:Type} (f:Nat → α) (n i:Nat) (d:α) (h:i < n):((List.range n).map f).getD i d = f i:=by
 rw [List.getD_eq_getElem?_getD,List.getElem?_map,List.getElem?_range h]; rfl
theorem wrongB_bad {n w:Nat} {g:List (List Int)} (hn:g.length = n) (hw:wid g = w) (b:Bool):wrongB n w g b = badL g b (manyL g b):=by
 have key:∀ (f:Nat → List (Nat × Nat)) (k:Nat),(∀ i,i < k → f i = lineP g i b) → wrngL g ((List.range k).map f) k = badL g b k:=by
  intro f k hf
  unfold wrngL badL
  refine List.filter_congr fun i hi => ?_
  have hi:=List.mem_range.1 hi
  rw [range_map_get _ _ _ _ hi,hf i hi]
  have:=(lack_rng g (lineP g i b)).1
  rw [Bool.eq_iff_iff]
  simp only [decide_eq_true_eq,Bool.not_eq_true',beq_eq_false_iff_ne,ne_eq]
  omega
 have hl:∀ i,posL n w i b = lineP g i b:=fun i => by rw [line_pos,hn,hw]
 unfold wrongB manyL allP
 cases b
 ·rw [if_neg (by decide),if_neg (by decide)]
  have e:((List.range n).map (fun i => posL n w i true) ++ (List.range w).map fun k => posL n w k false).drop n = (List.range w).map fun k => posL n w k false:=by
   rw [List.drop_append_of_le_length (by simp),List.drop_of_length_le (by simp),List.nil_append]
  rw [e,hw,List.length_map,List.length_range]
  exact key _ _ fun i _ => hl i
 ·rw [if_pos rfl,if_pos rfl]
  have e:((List.range n).map (fun i => posL n w i true) ++ (List.range w).map fun k => posL n w k false).take n = (List.range n).map fun k => posL n w k true:=by
   rw [List.take_append_of_le_length (by simp),List.take_of_length_le (by simp)]
  rw [e,hn,List.length_map,List.length_range]
  exact key _ _ fun i _ => hl i
end Go.Proofs.YtlmfdmlochpfcaaDoor

namespace Go.Proofs.YtlmfdmlochpfcaaDoor
open Go Go.V
def tot (g:List (List Int)) (l:List (Nat × Nat)):Int:=(l.map (valAt g)).sum
theorem sumL_tot {g:List (List Int)} {l:List (Nat × Nat)} (h:∀ m ∈ l,valAt g m ≠ -1):sumL g l = tot g l:=by
 unfold sumL tot
 congr 1
 exact List.map_congr_left fun m hm => by rw [if_neg (h m hm)]
theorem lack_tot {g:List (List Int)} {l:List (Nat × Nat)} (h:∀ m ∈ l,valAt g m ≠ -1):lackL g l = 0 ↔ tot g l % 94 = 0:=by
 unfold lackL
 rw [sumL_tot h]
 omega
theorem tot_congr {g G:List (List Int)} {l:List (Nat × Nat)} (h:∀ m ∈ l,valAt g m = valAt G m):tot g l = tot G l:=by
 unfold tot
 congr 1
 exact List.map_congr_left h
theorem tot_cons (g:List (List Int)) (m:Nat × Nat) (l:List (Nat × Nat)):tot g (m :: l) = valAt g m + tot g l:=by simp [tot]
theorem tot_not {g:List (List Int)} {p:Nat × Nat} {v:Int} {l:List (Nat × Nat)} (h:p ∉ l):tot (setG g p v) l = tot g l:=tot_congr fun m hm => by
 rw [valAt_set,if_neg]
 rintro ⟨rfl,_⟩
 exact h hm
theorem tot_set {n w:Nat} {g:List (List Int)} (hg:GOw n w g) {p:Nat × Nat} (h1:p.1 < n) (h2:p.2 < w) {v:Int}:∀ {l:List (Nat × Nat)},l.Nodup → p ∈ l → tot (setG g p v) l = tot g l - valAt g p + v
 | [],_,hm => by cases hm
 | m :: l,hn,hm => by
  rw [List.nodup_cons] at hn
  rw [tot_cons,tot_cons,valAt_set]
  by_cases he:p = m
  ·subst he
   rw [tot_not hn.1,if_pos ⟨rfl,by rw [hg.len]; exact h1,by rw [hg.row _ h1]; exact h2⟩]
   omega
  ·have hm2:p ∈ l:=by
    rcases List.mem_cons.1 hm with h | h
    ·exact (he h).elim
    ·exact h
   rw [tot_set hg h1 h2 hn.2 hm2,if_neg (fun h => he h.1)]
   omega
structure NN (n w:Nat) (g:List (List Int)):Prop where
 gow:GOw n w g
 nn:∀ i k,i < n → k < w → 0 ≤ valAt g (i,k)
theorem NN.set {n w:Nat} {g:List (List Int)} (h:NN n w g) (p:Nat × Nat) {v:Int} (hv:0 ≤ v ∧ v < 94):NN n w (setG g p v):=by
 refine ⟨setG_ok h.gow p (by omega),fun i k hi hk => ?_⟩
 rw [valAt_set]
 split
 ·exact hv.1
 ·exact h.nn i k hi hk
theorem NN.ne {n w:Nat} {g:List (List Int)} (h:NN n w g) {l:List (Nat × Nat)} (hl:l ∈ allP n w):∀ m ∈ l,valAt g m ≠ -1:=fun m hm => by
 obtain ⟨h1,h2⟩:=allP_in hl m hm
 have:=h.nn m.1 m.2 h1 h2
 have e:valAt g m = valAt g (m.1,m.2):=rfl
 omega
theorem NN.line {n w:Nat} {g:List (List Int)} (h:NN n w g) (h0:0 < n) (i:Nat) (b:Bool):lineP g i b = posL n w i b:=by
 rw [line_pos,h.gow.len]
 have:wid g = w:=by unfold wid; exact h.gow.row 0 h0
 rw [this]
theorem tot_lack {n w:Nat} {g:List (List Int)} (h:NN n w g) {l:List (Nat × Nat)} (hl:l ∈ allP n w) {p:Nat × Nat} (hp:p ∈ l) (hz:valAt g p = 0):tot (setG g p (lackL g l)) l % 94 = 0:=by
 obtain ⟨h1,h2⟩:=allP_in hl p hp
 rw [tot_set h.gow h1 h2 (allP_nodup hl) hp,hz]
 unfold lackL
 rw [sumL_tot (h.ne hl)]
 omega
def rowsF (w k:Nat) (g:List (List Int)):List (List Int):=(List.range k).foldl (fun g i => setG g (i,w) (lackL g (lineP g i true))) g
theorem rowsF_succ (w k:Nat) (g:List (List Int)):rowsF w (k + 1) g = setG (rowsF w k g) (k,w) (lackL (rowsF w k g) (lineP (rowsF w k g) k true)):=by
 unfold rowsF
 rw [List.range_succ,List.foldl_append]; rfl
def colsF (n k:Nat) (g:List (List Int)):List (List Int):=(List.range k).foldl (fun g c => setG g (n,c) (lackL g (lineP g c false))) g
theorem colsF_succ (n k:Nat) (g:List (List Int)):colsF n (k + 1) g = setG (colsF n k g) (n,k) (lackL (colsF n k g) (lineP (colsF n k g) k false)):=by
 unfold colsF
 rw [List.range_succ,List.foldl_append]; rfl
theorem rowsF_inv {N w:Nat} {g:List (List Int)} (h:NN N (w + 1) g) (hz:∀ i,i < N → valAt g (i,w) = 0) (h0:0 < N):∀ k,k ≤ N → NN N (w + 1) (rowsF w k g) ∧ (∀ i,i < k → tot (rowsF w k g) (posL N (w + 1) i true) % 94 = 0) ∧ ∀ i c,(k ≤ i ∨ c ≠ w) → valAt (rowsF w k g) (i,c) = valAt g (i,c)
 | 0,_ => ⟨h,fun i hi => by omega,fun _ _ _ => rfl⟩
 | k + 1,hk => by
  obtain ⟨h1,h2,h3⟩:=rowsF_inv h hz h0 k (by omega)
  rw [rowsF_succ,h1.line h0]
  have hl:posL N (w + 1) k true ∈ allP N (w + 1):=allP_mem.2 (.inl ⟨k,by omega,rfl⟩)
  refine ⟨h1.set _ (lack_rng _ _),fun i hi => ?_,fun i c hic => ?_⟩
  ·by_cases hik:i = k
   ·subst hik
    exact tot_lack h1 hl (posL_row_mem.2 ⟨rfl,Nat.lt_succ_self w⟩) (by rw [h3 _ _ (.inl (Nat.le_refl _))]; exact hz _ (by omega))
   ·rw [tot_not]
    ·exact h2 i (by omega)
    ·intro hm
     have:=(posL_row_mem.1 hm).1
     simp only at this
     omega
  ·rw [valAt_set,if_neg,h3 i c (by omega)]
   rintro ⟨he,_⟩
   obtain ⟨rfl,rfl⟩:=Prod.mk.inj he
   omega
theorem colsF_inv {n W:Nat} {g:List (List Int)} (h:NN (n + 1) W g) (hz:∀ c,c < W → valAt g (n,c) = 0):∀ k,k ≤ W → NN (n + 1) W (colsF n k g) ∧ (∀ c,c < k → tot (colsF n k g) (posL (n + 1) W c false) % 94 = 0) ∧ ∀ i c,(i ≠ n ∨ k ≤ c) → valAt (colsF n k g) (i,c) = valAt g (i,c)
 | 0,_ => ⟨h,fun i hi => by omega,fun _ _ _ => rfl⟩
 | k + 1,hk => by
  obtain ⟨h1,h2,h3⟩:=colsF_inv h hz k (by omega)
  rw [colsF_succ,h1.line (Nat.succ_pos n)]
  have hl:posL (n + 1) W k false ∈ allP (n + 1) W:=allP_mem.2 (.inr ⟨k,by omega,rfl⟩)
  refine ⟨h1.set _ (lack_rng _ _),fun c hc => ?_,fun i c hic => ?_⟩
  ·by_cases hik:c = k
   ·subst hik
    exact tot_lack h1 hl (posL_col_mem.2 ⟨rfl,Nat.lt_succ_self n⟩) (by rw [h3 _ _ (.inr (Nat.le_refl _))]; exact hz _ (by omega))
   ·rw [tot_not]
    ·exact h2 c (by omega)
    ·intro hm
     have:=(posL_col_mem.1 hm).1
     simp only at this
     omega
  ·rw [valAt_set,if_neg,h3 i c (by omega)]
   rintro ⟨he,_⟩
   obtain ⟨rfl,rfl⟩:=Prod.mk.inj he
   omega
def sumR (f:Nat → Int):Nat → Int
 | 0 => 0
 | k + 1 => sumR f k + f k
theorem sumR_zero (k:Nat):sumR (fun _ => 0) k = 0:=by
 induction k with
 | zero => rfl
 | succ k ih => simp [sumR,ih]
theorem sumR_add (f h:Nat → Int) (k:Nat):sumR (fun c => f c + h c) k = sumR f k + sumR h k:=by
 induction k with
 | zero => rfl
 | succ k ih => simp only [sumR,ih]; omega
theorem sumR_swap (f:Nat → Nat → Int) (w:Nat):∀ n,sumR (fun i => sumR (f i) w) n = sumR (fun c => sumR (fun i => f i c) n) w
 | 0 => by simp only [sumR]; exact (sumR_zero w).symm
 | n + 1 => by
  simp only [sumR]
  rw [sumR_swap f w n,← sumR_add]
theorem sumR_mod {f:Nat → Int}:∀ {k:Nat},(∀ i,i < k → f i % 94 = 0) → sumR f k % 94 = 0
 | 0,_ => rfl
 | k + 1,h => by
  have h1:=sumR_mod (k:=k) fun i hi => h i (by omega)
  have h2:=h k (by omega)
  simp only [sumR]
  omega
theorem sumR_range (f:Nat → Int) (k:Nat):((List.range k).map f).sum = sumR f k:=by
 induction k with
 | zero => rfl
 | succ k ih => rw [List.range_succ,List.map_append,List.sum_append,ih]; simp [sumR]
theorem tot_row (g:List (List Int)) (n w i:Nat):tot g (posL n w i true) = sumR (fun c => valAt g (i,c)) w:=by
 unfold tot posL
 rw [if_pos rfl,List.map_map,← sumR_range]; rfl
theorem tot_col (g:List (List Int)) (n w c:Nat):tot g (posL n w c false) = sumR (fun i => valAt g (i,c)) n:=by
 unfold tot posL
 rw [if_neg (by decide),List.map_map,← sumR_range]; rfl
theorem fill_right {n w:Nat} {g:List (List Int)} (h:NN (n + 1) (w + 1) g) (hz:∀ i,i < n + 1 → valAt g (i,w) = 0) (hl:∀ c,c < w + 1 → valAt g (n,c) = 0) :
  Right (n + 1) (w + 1) (colsF n (w + 1) (rowsF w n g)) ∧ ∀ i c,i < n → c < w → valAt (colsF n (w + 1) (rowsF w n g)) (i,c) = valAt g (i,c):=by
 obtain ⟨a1,a2,a3⟩:=rowsF_inv h hz (Nat.succ_pos n) n (by omega)
 obtain ⟨b1,b2,b3⟩:=colsF_inv a1 (fun c hc => by rw [a3 n c (.inl (Nat.le_refl _))]; exact hl c hc) (w + 1) (Nat.le_refl _)
 refine ⟨⟨b1.gow,fun i k hi hk => by have:=b1.nn i k hi hk; omega,fun l hm => ?_⟩,fun i c hi hc => by rw [b3 i c (.inl (by omega)),a3 i c (.inr (by omega))]⟩
 rw [lack_tot (b1.ne hm)]
 have hrow:∀ i,i < n → tot (colsF n (w + 1) (rowsF w n g)) (posL (n + 1) (w + 1) i true) % 94 = 0:=fun i hi => by
  rw [← a2 i hi]
  congr 1
  exact tot_congr fun m hm => by
   have:=(posL_row_mem.1 hm).1
   have e:=b3 m.1 m.2 (.inl (by omega))
   exact e
 rcases allP_mem.1 hm with ⟨i,hi,rfl⟩ | ⟨c,hc,rfl⟩
 ·by_cases hin:i = n
  ·subst hin
   have hsw:=sumR_swap (fun i' c => valAt (colsF i (w + 1) (rowsF w i g)) (i',c)) (w + 1) (i + 1)
   have hr:=sumR_mod (f:=fun c => sumR (fun i' => valAt (colsF i (w + 1) (rowsF w i g)) (i',c)) (i + 1)) (k:=w + 1) fun c hc => by
    have:=b2 c hc
    rwa [tot_col] at this
   rw [← hsw] at hr
   have hr2:=sumR_mod (f:=fun i' => sumR (fun c => valAt (colsF i (w + 1) (rowsF w i g)) (i',c)) (w + 1)) (k:=i) fun i' hi' => by
    have:=hrow i' hi'
    rwa [tot_row] at this
   rw [tot_row]
   simp only [sumR] at hr
   simp only [sumR] at hr2 ⊢
   omega
  ·exact hrow i (by omega)
 ·exact b2 c hc
def rowZ (w:Nat) (s:List UInt8):List Int:=(rowB w s).map vq ++ [0]
def grid0 (ts:List (List UInt8)):List (List Int):=ts.map (rowZ (maxW ts)) ++ [List.replicate (maxW ts + 1) 0]
def gridR (ts:List (List UInt8)):List (List Int):=colsF ts.length (maxW ts + 1) (rowsF (maxW ts) ts.length (grid0 ts))
theorem getD_snoc {α β:Type} (f:α → β) (l:List α) (b d:β) (i:Nat):(l.map f ++ [b]).getD i d = if h:i < l.length then f l[i] else if i = l.length then b else d:=by
 rw [List.getD_eq_getElem?_getD]
 by_cases h:i < l.length
 ·rw [dif_pos h,List.getElem?_append_left (by simpa using h),List.getElem?_map,List.getElem?_eq_getElem h]; rfl
 ·rw [dif_neg h,List.getElem?_append_right (by simp; omega)]
  by_cases h2:i = l.length
  ·rw [if_pos h2,h2]; simp
  ·rw [if_neg h2,List.getElem?_eq_none (by simp; omega)]; rfl
theorem rowB_len {w:Nat} {s:List UInt8} (h:s.length + 1 ≤ w):(rowB w s).length = w:=by simp [rowB]; omega
theorem valB_vq {b:UInt8} (h:0 ≤ valB b):vq b = valB b:=by
 unfold vq
 split
 ·rename_i h63
  have:b = 63:=UInt8.toNat_inj.1 h63
  subst this
  exact absurd h (by decide)
 ·rfl
theorem rowB_nn {w:Nat} {s:List UInt8} (h:isTx s = true):∀ b ∈ rowB w s,0 ≤ vq b ∧ vq b < 94:=by
 intro b hb
 have hok:BOk b:=rowW_ok (w:=w) h b (by unfold rowW; simp [hb])
 refine ⟨?_,(vq_rng hok).2⟩
 unfold rowB at hb
 simp only [List.mem_append,List.mem_cons,List.mem_replicate] at hb
 rcases hb with hb | rfl | ⟨_,rfl⟩
 ·unfold isTx at h
  simp only [Bool.and_eq_true] at h
  have:=List.all_eq_true.1 h.1 b hb
  simp only [decide_eq_true_eq] at this
  rw [valB_vq this]; exact this
 ·decide
 ·decide
theorem grid0_row {ts:List (List UInt8)} {i:Nat}:(grid0 ts).getD i [] = if h:i < ts.length then rowZ (maxW ts) ts[i] else if i = ts.length then List.replicate (maxW ts + 1) 0 else []:=getD_snoc _ _ _ _ _
theorem rowsV_row {ts:List (List UInt8)} {i:Nat}:(valsG (rowsW ts)).getD i [] = if h:i < ts.length then (rowB (maxW ts) ts[i]).map vq ++ [-1] else if i = ts.length then List.replicate (maxW ts + 1) (-1) else []:=by
 have e:valsG (rowsW ts) = ts.map (fun s => (rowB (maxW ts) s).map vq ++ [-1]) ++ [List.replicate (maxW ts + 1) (-1)]:=by
  unfold valsG rowsW
  rw [List.map_append,List.map_map]
  congr 1
  ·refine List.map_congr_left fun s _ => ?_
   simp only [Function.comp,rowW,List.map_append,List.map_cons,List.map_nil]
   rfl
  ·simp only [List.map_cons,List.map_nil,List.map_replicate]
   rfl
 rw [e]
 exact getD_snoc _ _ _ _ _
theorem tail_get (l:List Int) (x:Int) (k:Nat):(l ++ [x]).getD k 0 = if k < l.length then l.getD k 0 else if k = l.length then x else 0:=by
 rw [List.getD_eq_getElem?_getD]
 by_cases h:k < l.length
 ·rw [if_pos h,List.getElem?_append_left h,List.getD_eq_getElem?_getD]
 ·rw [if_neg h,List.getElem?_append_right (by omega)]
  by_cases h2:k = l.length
  ·rw [if_pos h2,h2]; simp
  ·rw [if_neg h2,List.getElem?_eq_none (by simp; omega)]; rfl
theorem rep_get (n k:Nat) (x:Int) (h:k < n):(List.replicate n x).getD k 0 = x:=by
 rw [List.getD_eq_getElem?_getD,List.getElem?_replicate,if_pos h]; rfl
theorem grid0_nn {ts:List (List UInt8)} (h:ts.all isTx = true):NN (ts.length + 1) (maxW ts + 1) (grid0 ts):=by
 have hw:=(maxW_ge ts).2
 have hv:∀ i k,i < ts.length + 1 → k < maxW ts + 1 → 0 ≤ valAt (grid0 ts) (i,k) ∧ valAt (grid0 ts) (i,k) < 94:=by
  intro i k hi hk
  unfold valAt
  simp only [grid0_row]
  by_cases hin:i < ts.length
  ·rw [dif_pos hin]
   unfold rowZ
   rw [tail_get]
   have hl:=rowB_len (hw _ (List.getElem_mem hin))
   by_cases hkw:k < maxW ts
   ·rw [if_pos (by rw [List.length_map,hl]; exact hkw),map_getD (by rw [hl]; exact hkw)]
    exact rowB_nn (List.all_eq_true.1 h _ (List.getElem_mem hin)) _ (List.getElem_mem _)
   ·rw [if_neg (by rw [List.length_map,hl]; exact hkw)]
    split <;> omega
  ·rw [dif_neg hin,if_pos (by omega),rep_get _ _ _ hk]; omega
 refine ⟨⟨by simp [grid0],fun i hi => ?_,fun i k hi hk => by have:=hv i k hi hk; omega⟩,fun i k hi hk => (hv i k hi hk).1⟩
 rw [grid0_row]
 by_cases hin:i < ts.length
 ·rw [dif_pos hin]
  unfold rowZ
  rw [List.length_append,List.length_map,rowB_len (hw _ (List.getElem_mem hin))]; rfl
 ·rw [dif_neg hin,if_pos (by omega)]; simp
theorem grid0_zero {ts:List (List UInt8)}:(∀ i,i < ts.length + 1 → valAt (grid0 ts) (i,maxW ts) = 0) ∧ ∀ c,c < maxW ts + 1 → valAt (grid0 ts) (ts.length,c) = 0:=by
 have hw:=(maxW_ge ts).2
 constructor
 ·intro i hi
  unfold valAt
  simp only [grid0_row]
  by_cases hin:i < ts.length
  ·rw [dif_pos hin]
   unfold rowZ
   rw [tail_get,List.length_map,rowB_len (hw _ (List.getElem_mem hin)),if_neg (by omega),if_pos rfl]
  ·rw [dif_neg hin,if_pos (by omega),rep_get _ _ _ (by omega)]
 ·intro c hc
  unfold valAt
  simp only [grid0_row]
  rw [dif_neg (by omega),if_pos (by simp),rep_get _ _ _ hc]
theorem rowsV_at {ts:List (List UInt8)} {i c:Nat} (hi:i < ts.length + 1) (hc:c < maxW ts + 1):valAt (valsG (rowsW ts)) (i,c) = if i < ts.length ∧ c < maxW ts then valAt (grid0 ts) (i,c) else -1:=by
 have hw:=(maxW_ge ts).2
 unfold valAt
 simp only [grid0_row,rowsV_row]
 by_cases hin:i < ts.length
 ·rw [dif_pos hin,dif_pos hin]
  unfold rowZ
  rw [tail_get,tail_get,List.length_map,rowB_len (hw _ (List.getElem_mem hin))]
  by_cases hcw:c < maxW ts
  ·rw [if_pos hcw,if_pos hcw,if_pos ⟨hin,hcw⟩]
  ·rw [if_neg hcw,if_pos (by omega),if_neg (fun h => hcw h.2)]
 ·rw [dif_neg hin,dif_neg hin,if_pos (by omega),if_neg (fun h => hin h.1),rep_get _ _ _ hc]
theorem gridR_right {ts:List (List UInt8)} (h:ts.all isTx = true):Right (ts.length + 1) (maxW ts + 1) (gridR ts) ∧ ∀ i c,i < ts.length → c < maxW ts → valAt (gridR ts) (i,c) = valAt (grid0 ts) (i,c):=by
 obtain ⟨z1,z2⟩:=grid0_zero (ts:=ts)
 exact fill_right (grid0_nn h) z1 z2
theorem rowsV_rest {ts:List (List UInt8)} (h:ts.all isTx = true) (h40:¬ 40 < ts.length):restG (ts.length + 1) (maxW ts + 1) (valsG (rowsW ts)) = gridR ts:=by
 obtain ⟨hr,hv⟩:=gridR_right h
 have hgo:=vals_gow (rowsW_sok h h40)
 rw [rowsW_len] at hgo
 refine rest_right hr ⟨hgo,fun i c hi hc => ?_⟩ fun S hS hL => clos_cross hS ts.length (maxW ts) fun p hp => ?_
 ·rw [rowsV_at hi hc]
  split
  ·rename_i hh
   exact .inr (hv i c hh.1 hh.2).symm
  ·exact .inl rfl
 ·obtain ⟨h1,h2,h3⟩:=hL p hp
  have e:valAt (valsG (rowsW ts)) (p.1,p.2) = -1:=h3
  rw [rowsV_at h1 h2] at e
  by_cases hh:p.1 < ts.length ∧ p.2 < maxW ts
  ·exfalso
   rw [if_pos hh] at e
   have:=(grid0_nn h).nn p.1 p.2 h1 h2
   omega
  ·omega
def writeR (ts:List (List UInt8)):List UInt8 × Int :=
 if 40 < ts.length then ([],2) else if ts.all isTx then (textG (bytesG (gridR ts)),0) else ([],1)
theorem write_eq (ts:List (List UInt8)):writeG ts = writeR ts:=by
 unfold writeG writeR
 split
 ·rfl
 ·rename_i h40
  split
  ·rename_i h
   rw [rowsV_rest h h40]
  ·rfl
end Go.Proofs.YtlmfdmlochpfcaaDoor

namespace Go.Proofs.YtlmfdmlochpfcaaDoor
open Go Go.V
def byAt (g:List (List UInt8)) (p:Nat × Nat):UInt8:=(g.getD p.1 []).getD p.2 0
theorem getD_mem {α:Type} {l:List α} {i:Nat} (d:α) (h:i < l.length):l.getD i d ∈ l:=by
 rw [List.getD_eq_getElem?_getD,List.getElem?_eq_getElem h]; exact List.getElem_mem h
theorem sok_of {rows:List (List UInt8)} {n w:Nat} (hn:rows.length = n) (h0:0 < n) (h41:n ≤ 41) (h2:2 ≤ w) (h32:w ≤ 32) (hr:∀ i,i < n → (rows.getD i []).length = w) (hb:∀ i k,i < n → k < w → BOk (byAt rows (i,k))):SOk rows w:=by
 subst hn
 have hg:∀ i (hi:i < rows.length),rows.getD i [] = rows[i]:=fun i hi => by rw [List.getD_eq_getElem?_getD,List.getElem?_eq_getElem hi]; rfl
 refine ⟨h0,h41,h2,h32,fun l hl => ?_,fun l hl b hb' => ?_⟩
 ·obtain ⟨i,hi,rfl⟩:=List.getElem_of_mem hl
  rw [← hg i hi]; exact hr i hi
 ·obtain ⟨i,hi,rfl⟩:=List.getElem_of_mem hl
  obtain ⟨k,hk,rfl⟩:=List.getElem_of_mem hb'
  have hw:=hr i hi
  rw [hg i hi] at hw
  have:=hb i k hi (by omega)
  unfold byAt at this
  simp only [hg i hi] at this
  rwa [List.getD_eq_getElem?_getD,List.getElem?_eq_getElem hk] at this
theorem SOk.at {rows:List (List UInt8)} {w:Nat} (h:SOk rows w) {i k:Nat} (hi:i < rows.length) (hk:k < w):(rows.getD i []).length = w ∧ BOk (byAt rows (i,k)) ∧ valAt (valsG rows) (i,k) = vq (byAt rows (i,k)):=by
 have hg:rows.getD i [] = rows[i]:=by rw [List.getD_eq_getElem?_getD,List.getElem?_eq_getElem hi]; rfl
 have hl:=h.row _ (List.getElem_mem hi)
 have hk2:k < (rows[i]).length:=by omega
 refine ⟨by rw [hg,hl],?_,?_⟩
 ·unfold byAt
  simp only [hg]
  rw [List.getD_eq_getElem?_getD,List.getElem?_eq_getElem hk2]
  exact h.byte _ (List.getElem_mem hi) _ (List.getElem_mem hk2)
 ·unfold byAt valAt valsG
  simp only
  rw [map_getD hi,map_getD hk2,hg,List.getD_eq_getElem?_getD,List.getElem?_eq_getElem hk2]; rfl
section
variable {rows:List (List UInt8)} {w:Nat}
theorem sheet_rest (h:SOk rows w):sheetG rows = restG rows.length w (valsG rows):=by unfold sheetG; rw [h.hd]
theorem left_of (h:SOk rows w):leftG (textG rows) = (marksG (sheetG rows) rows.length,0):=by
 unfold leftG
 rw [parse_text h]
 simp only
 rw [h.hd,lostI_marks]
 have:=(sheet_gow h h.hd).gok h.pos h.len h.w32
 exact this.2.1
theorem whole_right (h:SOk rows w) {G:List (List Int)} (hG:Right rows.length w G) (hr:restG rows.length w (valsG rows) = G):wholeG (textG rows) = (G,0):=by
 unfold wholeG
 rw [parse_text h]
 simp only
 rw [h.hd,sheet_rest h,hr,if_pos (noLost_iff.2 hG.full),if_pos]
 unfold noLack
 rw [List.all_eq_true]
 intro l hl
 rw [hG.sum l hl]; rfl
theorem mend_right (h:SOk rows w) {G:List (List Int)} (hG:Right rows.length w G) (hr:restG rows.length w (valsG rows) = G):mendG (textG rows) = (textG (bytesG G),0):=by
 unfold mendG
 rw [whole_right h hG hr,if_pos rfl]
end
def bookB (ts:List (List UInt8)):List (List UInt8):=bytesG (gridR ts)
structure BookOk (ts:List (List UInt8)):Prop where
 tx:ts.all isTx = true
 le:¬ 40 < ts.length
theorem vals_bytes {n w:Nat} {G:List (List Int)} (h:Right n w G):valsG (bytesG G) = G:=by
 unfold valsG bytesG
 rw [List.map_map]
 conv => rhs; rw [← List.map_id G]
 refine List.map_congr_left fun l hl => ?_
 simp only [Function.comp,List.map_map,id]
 conv => rhs; rw [← List.map_id l]
 refine List.map_congr_left fun v hv => ?_
 obtain ⟨i,hi,rfl⟩:=List.getElem_of_mem hl
 obtain ⟨k,hk,rfl⟩:=List.getElem_of_mem hv
 have hi2:i < n:=by rw [← h.gow.len]; exact hi
 have hg:G.getD i [] = G[i]:=by rw [List.getD_eq_getElem?_getD,List.getElem?_eq_getElem hi]; rfl
 have hw:=h.gow.row i hi2
 rw [hg] at hw
 have h1:=h.gow.val i k hi2 (by omega)
 have h2:=h.full i k hi2 (by omega)
 have e:valAt G (i,k) = (G[i])[k]:=by
  unfold valAt
  simp only [hg]
  rw [List.getD_eq_getElem?_getD,List.getElem?_eq_getElem hk]; rfl
 rw [e] at h1 h2
 exact (sgn_ok ⟨by omega,h1.2⟩).2
section
variable {ts:List (List UInt8)}
theorem BookOk.right (h:BookOk ts):Right (ts.length + 1) (maxW ts + 1) (gridR ts):=(gridR_right h.tx).1
theorem bookB_len (h:BookOk ts):(bookB ts).length = ts.length + 1:=by
 unfold bookB
 rw [bytesG_len,h.right.gow.len]
theorem BookOk.wid (h:BookOk ts):1 ≤ maxW ts ∧ maxW ts ≤ 31:=by
 refine ⟨(maxW_ge ts).1,maxW_le (by omega) fun s hs => ?_⟩
 have:=isTx_len (List.all_eq_true.1 h.tx s hs)
 omega
theorem BookOk.vals (h:BookOk ts):valsG (bookB ts) = gridR ts:=vals_bytes h.right
theorem bookB_at (h:BookOk ts) {i k:Nat} (hi:i < ts.length + 1) (hk:k < maxW ts + 1):byAt (bookB ts) (i,k) = sgn (valAt (gridR ts) (i,k)):=by
 have hg:=h.right.gow
 have hi2:i < (gridR ts).length:=by rw [hg.len]; exact hi
 have hr:(gridR ts).getD i [] = (gridR ts)[i]:=by rw [List.getD_eq_getElem?_getD,List.getElem?_eq_getElem hi2]; rfl
 have hw:=hg.row i hi
 rw [hr] at hw
 have hk2:k < ((gridR ts)[i]).length:=by omega
 unfold byAt bookB bytesG valAt
 simp only
 rw [map_getD hi2,map_getD hk2,hr,List.getD_eq_getElem?_getD,List.getElem?_eq_getElem hk2]; rfl
theorem BookOk.sok (h:BookOk ts):SOk (bookB ts) (maxW ts + 1):=by
 have hw:=h.wid
 have hle:=h.le
 refine sok_of (bookB_len h) (by omega) (by omega) (by omega) (by omega) (fun i hi => ?_) fun i k hi hk => ?_
 ·have:=h.right.gow.bytes _ (getD_mem (l:=bookB ts) [] (by rw [bookB_len h]; exact hi))
  exact this
 ·rw [bookB_at h hi hk]
  have h1:=h.right.gow.val i k hi hk
  have h2:=h.right.full i k hi hk
  exact (sgn_ok ⟨by omega,h1.2⟩).1
theorem write_book (h:BookOk ts):writeG ts = (textG (bookB ts),0):=by
 rw [write_eq]
 unfold writeR
 rw [if_neg h.le,if_pos h.tx]; rfl
theorem book_row (h:BookOk ts) {i:Nat} (hi:i < ts.length):∃ c,(bookB ts).getD i [] = rowB (maxW ts) ts[i] ++ [c]:=by
 have hs:=h.sok
 have hbl:=bookB_len h
 have hw:=h.wid
 have hrl:=(hs.at (i:=i) (k:=0) (by omega) (by omega)).1
 have htx:=List.all_eq_true.1 h.tx _ (List.getElem_mem hi)
 have hsl:=(maxW_ge ts).2 _ (List.getElem_mem hi)
 have hbl2:=rowB_len hsl
 refine ⟨((bookB ts).getD i []).getD (maxW ts) 0,?_⟩
 apply List.ext_getElem
 ·rw [hrl,List.length_append,hbl2]; rfl
 ·intro k h1 h2
  rw [hrl] at h1
  by_cases hk:k < maxW ts
  ·rw [List.getElem_append_left (by omega)]
   have e:=bookB_at h (i:=i) (k:=k) (by omega) h1
   have e2:=(gridR_right h.tx).2 i k hi hk
   rw [e2] at e
   unfold byAt at e
   simp only at e
   rw [List.getD_eq_getElem?_getD (i:=k),List.getElem?_eq_getElem (by rw [hrl]; exact h1)] at e
   rw [show ((bookB ts).getD i [])[k] = _ from e]
   unfold valAt
   simp only [grid0_row]
   rw [dif_pos hi]
   unfold rowZ
   rw [tail_get,if_pos (show k < ((rowB (maxW ts) ts[i]).map vq).length by rw [List.length_map,hbl2]; exact hk),map_getD (show k < (rowB (maxW ts) ts[i]).length by rw [hbl2]; exact hk)]
   have hok:BOk (rowB (maxW ts) ts[i])[k]:=rowW_ok (w:=maxW ts) htx _ (by unfold rowW; exact List.mem_append_left _ (List.getElem_mem _))
   exact sgn_vq hok
  ·have hk:k = maxW ts:=by omega
   subst hk
   rw [List.getElem_append_right (by omega)]
   simp only [hbl2,Nat.sub_self,List.getElem_cons_zero]
   rw [List.getD_eq_getElem?_getD (i:=maxW ts),List.getElem?_eq_getElem (by rw [hrl]; exact h1)]; rfl
theorem trim_row (s:List UInt8) (j:Nat):trimR 32 (s ++ 124 :: List.replicate j 32) = s ++ [124]:=by
 induction j with
 | zero => rw [List.replicate_zero,trimR_snoc,if_neg (by decide)]
 | succ j ih =>
  rw [List.replicate_succ',← List.cons_append,← List.append_assoc,trimR_snoc,if_pos rfl,ih]
theorem read_book (h:BookOk ts) {rows:List (List UInt8)} (hr:SOk rows (maxW ts + 1)) (hl:rows.length = ts.length + 1) (hg:restG (ts.length + 1) (maxW ts + 1) (valsG rows) = gridR ts):readG (textG rows) = (ts,0) ∧ mendG (textG rows) = (textG (bookB ts),0):=by
 have hR:=h.right
 rw [← hl] at hR hg
 refine ⟨?_,mend_right hr hR hg⟩
 have hbl:=bookB_len h
 have hrow:∀ i (hi:i < ts.length),txtR ((bookB ts).getD i []) = ts[i] ∧ isTxR ((bookB ts).getD i []) = true:=fun i hi => by
  obtain ⟨c,hc⟩:=book_row h hi
  have hT:rowT ((bookB ts).getD i []) = ts[i] ++ [124]:=by
   unfold rowT
   rw [hc,List.dropLast_concat]
   exact trim_row _ _
  have he:endsB (ts[i] ++ [124]) 124 = true:=by unfold endsB; simp
  refine ⟨?_,by unfold isTxR; rw [hT]; exact he⟩
  unfold txtR cutB
  rw [hT,if_pos he,List.dropLast_concat]
 have hdl:(bookB ts).dropLast.length = ts.length:=by rw [List.length_dropLast,hbl]; rfl
 have hdg:∀ i (hi:i < (bookB ts).dropLast.length),(bookB ts).dropLast[i] = (bookB ts).getD i []:=fun i hi => by
  rw [List.getElem_dropLast,List.getD_eq_getElem?_getD,List.getElem?_eq_getElem (by omega)]; rfl
 unfold readG
 rw [whole_right hr hR hg,if_pos rfl]
 show (if (bookB ts).dropLast.all isTxR = true then ((bookB ts).dropLast.map txtR,(0:Int)) else ([],143)) = (ts,0)
 rw [if_pos]
 ·refine Prod.ext ?_ rfl
  apply List.ext_getElem
  ·simp only [List.length_map]; exact hdl
  ·intro i h1 h2
   simp only [List.getElem_map]
   rw [hdg]
   exact (hrow i h2).1
 ·rw [List.all_eq_true]
  intro l hm
  obtain ⟨i,hi,rfl⟩:=List.getElem_of_mem hm
  rw [hdg]
  exact (hrow i (by omega)).2
end
end Go.Proofs.YtlmfdmlochpfcaaDoor

namespace Go.Proofs.YtlmfdmlochpfcaaDoor
open Go Go.V
attribute [local go_sem] Nat.reduceEqDiff Nat.reduceAdd Nat.reduceMul reduceIte Nat.reduceLeDiff Nat.reduceLT Nat.reduceBEq reduceCtorEq
end Go.Proofs.YtlmfdmlochpfcaaDoor

namespace Go.Proofs.YtlmfdmlochpfcaaDoor
open Go Go.V
section
variable {ts:List (List UInt8)}
def lftG (ts:List (List UInt8)) (rows:List (List UInt8)):List (Nat × Nat):=marksG (restG (ts.length + 1) (maxW ts + 1) (valsG rows)) (ts.length + 1)
theorem lft_eq {rows:List (List UInt8)} (hs:SOk rows (maxW ts + 1)) (hl:rows.length = ts.length + 1):leftG (textG rows) = (lftG ts rows,0):=by
 rw [left_of hs,sheet_rest hs,hl]; rfl
end
end Go.Proofs.YtlmfdmlochpfcaaDoor

namespace Go.Proofs.YtlmfdmlochpfcaaDoor
open Go Go.V
attribute [local go_sem] Nat.reduceEqDiff Nat.reduceAdd Nat.reduceMul reduceIte Nat.reduceLeDiff Nat.reduceLT Nat.reduceBEq reduceCtorEq
end Go.Proofs.YtlmfdmlochpfcaaDoor

namespace Go.Proofs.YtlmfdmlochpfcaaDoor
open Go Go.V
abbrev o17_0:List Ins:=[⟨some 2,.mv (.k (.c (.str []))),none,true⟩,
 ⟨some 3,.mv (.k (.c (.raw (.slice none 0 0)))),none,true⟩,
 ⟨some 4,.mv (.k (.c (.bool false))),none,true⟩]
abbrev o17_1:List Ins:=[⟨some 11,.mv (.t 0),none,true⟩,
 ⟨some 12,.call (.k (.fn 24 [])) [(.t 11)],none,true⟩,
 ⟨some 10,.mv (.t 12),none,true⟩,
 ⟨some 13,.ext (.t 10) 0,none,true⟩,
 ⟨some 14,.ext (.t 10) 1,none,true⟩,
 ⟨some 5,.mv (.t 13),none,true⟩,
 ⟨some 6,.mv (.t 14),none,true⟩]
abbrev o17_2:List Ins:=[⟨some 15,.mv (.t 6),none,true⟩,
 ⟨some 16,.bin .neq (.t 15) (.k (.c (.int .i64 0))),none,true⟩,
 ⟨some 17,.mv (.t 16),none,true⟩,
 ⟨some 18,.mv (.t 5),(some (17,false)),true⟩,
 ⟨some 19,.call (.k (.fn 26 [])) [(.t 18)],(some (17,false)),true⟩,
 ⟨some 20,.pick (.t 17) (.k (.c (.bool true))) (.t 19),none,true⟩]
abbrev o17_3:List Ins:=[⟨some 2,.mv (.k (.c (.str []))),none,true⟩,
 ⟨some 3,.mv (.k (.c (.raw (.slice none 0 0)))),none,true⟩,
 ⟨some 4,.mv (.k (.c (.bool false))),none,true⟩]
abbrev v17_4:VC:=(.seq (.ops o17_3) .ret)
abbrev v17_5:VC:=(.cond (.t 20) v17_4 .skip)
abbrev o17_6:List Ins:=[⟨some 7,.mv (.k (.c (.int .i64 0))),none,true⟩]
abbrev o17_7:List Ins:=[⟨some 8,.mv (.k (.c (.int .i64 0))),none,true⟩]
abbrev o17_8:List Ins:=[⟨some 21,.mv (.t 8),none,true⟩,
 ⟨some 22,.mv (.t 5),none,true⟩,
 ⟨some 23,.prim .slen [(.t 22)],none,true⟩,
 ⟨some 24,.bin .lss (.t 21) (.t 23),none,true⟩]
abbrev v17_9:VC:=(.cond (.t 24) .skip (.exit 0))
abbrev o17_10:List Ins:=[⟨some 27,.mv (.t 5),none,true⟩,
 ⟨some 28,.mv (.t 8),none,true⟩,
 ⟨some 29,.prim .sidx [(.t 27),(.t 28)],none,true⟩,
 ⟨some 30,.bin .eql (.t 29) (.k (.c (.int .u8 10))),none,true⟩]
abbrev o17_11:List Ins:=[⟨some 31,.mv (.t 3),none,true⟩,
 ⟨some 32,.mv (.t 5),none,true⟩,
 ⟨some 33,.mv (.t 7),none,true⟩,
 ⟨some 34,.mv (.t 8),none,true⟩,
 ⟨some 35,.prim (.sslc true true) [(.t 32),(.t 33),(.t 34)],none,true⟩,
 ⟨some 36,.bsl 9 1 [(.t 35)],none,true⟩,
 ⟨some 37,.app 9 1 16 (.t 31) (.t 36),none,true⟩,
 ⟨some 3,.mv (.t 37),none,true⟩]
abbrev o17_12:List Ins:=[⟨some 38,.mv (.t 8),none,true⟩,
 ⟨some 39,.bin .add (.t 38) (.k (.c (.int .i64 1))),none,true⟩,
 ⟨some 7,.mv (.t 39),none,true⟩]
abbrev v17_13:VC:=(.seq (.ops o17_11) (.ops o17_12))
abbrev v17_14:VC:=(.cond (.t 30) v17_13 .skip)
abbrev v17_15:VC:=(.seq (.ops o17_10) v17_14)
abbrev o17_16:List Ins:=[⟨some 25,.mv (.t 8),none,true⟩,
 ⟨some 26,.bin .add (.t 25) (.k (.c (.int .i64 1))),none,true⟩,
 ⟨some 8,.mv (.t 26),none,true⟩]
abbrev v17_17:VC:=(.seq (.block 1 v17_15) (.ops o17_16))
abbrev v17_18:VC:=(.seq (.seq (.ops o17_8) v17_9) v17_17)
-- K17_1: changed and kept: [8,3,7]
abbrev v17_19:VC:=(.loop v17_18)
abbrev v17_20:VC:=(.block 0 v17_19)
abbrev o17_21:List Ins:=[⟨some 40,.mv (.t 7),none,true⟩,
 ⟨some 41,.mv (.t 5),none,true⟩,
 ⟨some 42,.prim .slen [(.t 41)],none,true⟩,
 ⟨some 43,.bin .neq (.t 40) (.t 42),none,true⟩,
 ⟨some 44,.mv (.t 43),none,true⟩,
 ⟨some 45,.mv (.t 3),(some (44,false)),true⟩,
 ⟨some 46,.len (.t 45),(some (44,false)),true⟩,
 ⟨some 47,.mv (.t 0),(some (44,false)),true⟩,
 ⟨some 48,.len (.t 47),(some (44,false)),true⟩,
 ⟨some 49,.bin .add (.t 48) (.k (.c (.int .i64 1))),(some (44,false)),true⟩,
 ⟨some 50,.bin .neq (.t 46) (.t 49),(some (44,false)),true⟩,
 ⟨some 51,.pick (.t 44) (.k (.c (.bool true))) (.t 50),none,true⟩]
abbrev o17_22:List Ins:=[⟨some 2,.mv (.k (.c (.str []))),none,true⟩,
 ⟨some 3,.mv (.k (.c (.raw (.slice none 0 0)))),none,true⟩,
 ⟨some 4,.mv (.k (.c (.bool false))),none,true⟩]
abbrev v17_23:VC:=(.seq (.ops o17_22) .ret)
abbrev v17_24:VC:=(.cond (.t 51) v17_23 .skip)
abbrev o17_25:List Ins:=[⟨some 9,.mv (.k (.c (.int .i64 0))),none,true⟩]
abbrev o17_26:List Ins:=[⟨some 52,.mv (.t 9),none,true⟩,
 ⟨some 53,.mv (.t 3),none,true⟩,
 ⟨some 54,.len (.t 53),none,true⟩,
 ⟨some 55,.bin .lss (.t 52) (.t 54),none,true⟩]
abbrev v17_27:VC:=(.cond (.t 55) .skip (.exit 2))
abbrev o17_28:List Ins:=[⟨some 58,.mv (.t 3),none,false⟩,
 ⟨some 59,.mv (.t 9),none,false⟩,
 ⟨some 60,.ia 1 (.t 58) (.t 59),none,false⟩,
 ⟨some 61,.ld true 1 (.t 60),none,false⟩,
 ⟨some 62,.prim .slen [(.t 61)],none,false⟩,
 ⟨some 63,.mv (.t 3),none,false⟩,
 ⟨some 64,.ia 1 (.t 63) (.k (.c (.int .i64 0))),none,false⟩,
 ⟨some 65,.ld true 1 (.t 64),none,false⟩,
 ⟨some 66,.prim .slen [(.t 65)],none,false⟩,
 ⟨some 67,.bin .neq (.t 62) (.t 66),none,true⟩,
 ⟨some 68,.mv (.t 67),none,true⟩,
 ⟨some 69,.mv (.t 3),(some (68,false)),false⟩,
 ⟨some 70,.mv (.t 9),(some (68,false)),false⟩,
 ⟨some 71,.ia 1 (.t 69) (.t 70),(some (68,false)),true⟩,
 ⟨some 72,.ld true 1 (.t 71),(some (68,false)),true⟩,
 ⟨some 73,.prim .slen [(.t 72)],(some (68,false)),true⟩,
 ⟨some 74,.bin .lss (.t 73) (.k (.c (.int .i64 2))),(some (68,false)),true⟩,
 ⟨some 75,.pick (.t 68) (.k (.c (.bool true))) (.t 74),none,true⟩]
abbrev o17_29:List Ins:=[⟨some 2,.mv (.k (.c (.str []))),none,true⟩,
 ⟨some 3,.mv (.k (.c (.raw (.slice none 0 0)))),none,true⟩,
 ⟨some 4,.mv (.k (.c (.bool false))),none,true⟩]
abbrev v17_30:VC:=(.seq (.ops o17_29) .ret)
abbrev v17_31:VC:=(.cond (.t 75) v17_30 .skip)
abbrev v17_32:VC:=(.seq (.dops o17_28) v17_31)
abbrev o17_33:List Ins:=[⟨some 56,.mv (.t 9),none,true⟩,
 ⟨some 57,.bin .add (.t 56) (.k (.c (.int .i64 1))),none,true⟩,
 ⟨some 9,.mv (.t 57),none,true⟩]
abbrev v17_34:VC:=(.seq (.block 3 v17_32) (.ops o17_33))
abbrev v17_35:VC:=(.seq (.seq (.ops o17_26) v17_27) v17_34)
-- K17_2: changed and kept: [9,3]
abbrev v17_36:VC:=(.loop v17_35)
abbrev v17_37:VC:=(.block 2 v17_36)
abbrev o17_38:List Ins:=[⟨some 76,.mv (.t 5),none,true⟩,
 ⟨some 77,.mv (.t 3),none,true⟩,
 ⟨some 2,.mv (.t 76),none,true⟩,
 ⟨some 3,.mv (.t 77),none,true⟩,
 ⟨some 4,.mv (.k (.c (.bool true))),none,true⟩]
abbrev v17_39:VC:=(.seq (.ops o17_38) .ret)
abbrev v17_40:VC:=(.seq (.seq (.ops o17_25) v17_37) v17_39)
abbrev v17_41:VC:=(.seq (.seq (.ops o17_21) v17_24) v17_40)
abbrev v17_42:VC:=(.seq (.seq (.ops o17_7) v17_20) v17_41)
abbrev v17_43:VC:=(.seq (.ops o17_6) v17_42)
abbrev v17_44:VC:=(.seq (.seq (.ops o17_2) v17_5) v17_43)
abbrev v17_45:VC:=(.seq (.ops o17_1) v17_44)
def ir17:FC:=⟨1,78,[.t 2,.t 3,.t 4],(.seq (.ops o17_0) v17_45)⟩
theorem c17:compM Tryd.prog [] 17 = some ir17:=by kernel_rfl
attribute [local go_sem] Nat.reduceEqDiff Nat.reduceAdd Nat.reduceMul reduceIte Nat.reduceLeDiff Nat.reduceLT Nat.reduceBEq reduceCtorEq
def lnK (s:List UInt8):Nat → List (List UInt8) × Nat
 | 0 => ([],0)
 | i + 1 => if s.getD i 0 = 10 then ((lnK s i).1 ++ [(s.take i).drop (lnK s i).2],i + 1) else lnK s i
theorem lnK_le (s:List UInt8):∀ i,(lnK s i).2 ≤ i ∧ (lnK s i).1.length ≤ i
 | 0 => ⟨Nat.le_refl _,Nat.le_refl _⟩
 | i + 1 => by
  have:=lnK_le s i
  unfold lnK
  split
  ·simp only [List.length_append,List.length_cons,List.length_nil]; omega
  ·omega
theorem lnK_pre (a c:List UInt8):∀ i,i ≤ a.length → lnK (a ++ c) i = lnK a i
 | 0,_ => rfl
 | i + 1,h => by
  have ih:=lnK_pre a c i (by omega)
  unfold lnK
  rw [ih,List.getD_eq_getElem?_getD,List.getElem?_append_left (by omega),← List.getD_eq_getElem?_getD,List.take_append_of_le_length (by omega)]
theorem lnK_line {T l c:List UInt8} {p:List (List UInt8) × Nat} (h:lnK T T.length = p) (hl:(10:UInt8) ∉ l):∀ i,i ≤ l.length → lnK (T ++ (l ++ c)) (T.length + i) = p
 | 0,_ => by rw [Nat.add_zero,lnK_pre _ _ _ (Nat.le_refl _),h]
 | i + 1,hi => by
  have ih:=lnK_line (c:=c) h hl i (by omega)
  rw [← Nat.add_assoc]
  unfold lnK
  rw [if_neg,ih]
  rw [List.getD_eq_getElem?_getD,List.getElem?_append_right (by omega),Nat.add_sub_cancel_left,List.getElem?_append_left (by omega),List.getElem?_eq_getElem (by omega)]
  exact fun e => hl (e ▸ List.getElem_mem _)
theorem lnK_snoc {T l:List UInt8} {rows:List (List UInt8)} (h:lnK T T.length = (rows,T.length)) (hl:(10:UInt8) ∉ l):lnK (T ++ (l ++ [10])) (T ++ (l ++ [10])).length = (rows ++ [l],(T ++ (l ++ [10])).length):=by
 have h1:=lnK_line (c:=[10]) h hl l.length (Nat.le_refl _)
 have e:(T ++ (l ++ [(10:UInt8)])).length = (T.length + l.length) + 1:=by simp; omega
 rw [e]
 unfold lnK
 rw [if_pos,h1]
 ·refine Prod.ext ?_ rfl
  simp only
  congr 2
  rw [← List.append_assoc,List.take_append_of_le_length (by simp),List.take_of_length_le (by simp),List.drop_append_of_le_length (by simp),List.drop_of_length_le (by simp),List.nil_append]
 ·rw [List.getD_eq_getElem?_getD,List.getElem?_append_right (by omega),Nat.add_sub_cancel_left,List.getElem?_append_right (by omega),Nat.sub_self]; rfl
theorem lnK_text:∀ (k:Nat) (rows:List (List UInt8)),rows.length = k → (∀ l ∈ rows,(10:UInt8) ∉ l) → lnK (textG rows) (textG rows).length = (rows,(textG rows).length)
 | 0,rows,hk,_ => by
  have:=List.eq_nil_of_length_eq_zero hk
  subst this; rfl
 | k + 1,rows,hk,h => by
  have hne:rows ≠ []:=fun e => by rw [e] at hk; simp at hk
  have hd:=List.dropLast_concat_getLast hne
  have ih:=lnK_text k rows.dropLast (by rw [List.length_dropLast,hk]; rfl) fun l hl => h l ((List.dropLast_sublist rows).subset hl)
  have hl:=h _ (List.getLast_mem hne)
  generalize rows.getLast hne = l at hd hl
  generalize rows.dropLast = R at hd ih
  subst hd
  have e:textG (R ++ [l]) = textG R ++ (l ++ [10]):=by unfold textG; rw [List.flatMap_append]; simp
  rw [e]
  exact lnK_snoc ih hl
theorem SOk.no10 {rows:List (List UInt8)} {w:Nat} (h:SOk rows w):∀ l ∈ rows,(10:UInt8) ∉ l:=by
 intro l hl hc
 have:=h.byte l hl 10 hc
 unfold BOk at this
 revert this; decide
theorem lines_sok {rows:List (List UInt8)} {w:Nat} (h:SOk rows w):lnK (textG rows) (textG rows).length = (rows,(textG rows).length):=lnK_text _ rows rfl h.no10
theorem lnK_succ {s:List UInt8} {i:Nat} (h:i < s.length):lnK s (i + 1) = if s[i] = 10 then ((lnK s i).1 ++ [(s.take i).drop (lnK s i).2],i + 1) else lnK s i:=by
 conv => lhs; unfold lnK
 rw [str_at h]
set_option maxRecDepth 20000 in
set_option maxHeartbeats 16000000 in
theorem good17 {ts:List (List UInt8)} (hts:∀ s ∈ ts,s.length ≤ 1000000) (htl:ts.length ≤ 1000000) {rows:List (List UInt8)} {w:Nat} (hok:SOk rows w) (hrl:rows.length = ts.length + 1) (hwr:FSpec Tryd.prog 24 [.c (strsV ts)] (.tup [.c (.str (textG rows)),iv 0])):FSpec Tryd.prog 17 [.c (strsV ts)] (.tup [sv (textG rows),.c (strsV rows),bv true]):=by
 have hmax:maxLen = 9223372036854775807:=rfl
 have hln:=lines_sok hok
 have h41:=hok.len
 have h32:=hok.w32
 have h2:=hok.w2
 have htl2:=textG_length rows w hok.row
 have htl3:rows.length * (w + 1) ≤ 41 * 33:=Nat.mul_le_mul h41 (by omega)
 have hrow:=hok.row
 generalize hS:textG rows = s at hln htl2 hwr ⊢
 have hs2:s.length ≤ 1353:=by omega
 have hlg:=large26 s
 refine FSpec_ofP c17 (Nat.le_refl _) (by decide) fun C hP hN hC hpin hL => ?_; rw [init_st]
 simp only [ir17,strsV]
 (repeat ((first | refine Va ?_ | refine Vb ?_ | refine Vc ?_ | refine Vd ?_ | refine Ve ?_ | refine Vf ?_); (try simp only [go_sem,hP]); (repeat refine qJ ?_)))
 have hwr':FSpec Tryd.prog 24 [.c (.sl 1 (ts.map fun t => [CD.str t]))] (.tup [.c (.str s),iv 0]):=hwr
 (refine AS_pu (hwr') ?_; simp only [go_sem,hP]; (repeat refine qJ ?_); (repeat ((first | refine Va ?_ | refine Vb ?_ | refine Vc ?_ | refine Vd ?_ | refine Ve ?_ | refine Vf ?_); (try simp only [go_sem,hP]); (repeat refine qJ ?_))))
 (refine AG_pu (fun hG => hlg) ?_; simp only [go_sem,hP]; (repeat refine qJ ?_); (repeat ((first | refine Va ?_ | refine Vb ?_ | refine Vc ?_ | refine Vd ?_ | refine Ve ?_ | refine Vf ?_); (try simp only [go_sem,hP]); (repeat refine qJ ?_))))
 (refine WV_cond rfl (fun h => ?_) (fun h => ?_))
 ·simp at h; omega
 (repeat ((first | refine Va ?_ | refine Vb ?_ | refine Vc ?_ | refine Vd ?_ | refine Ve ?_ | refine Vf ?_); (try simp only [go_sem,hP]); (repeat refine qJ ?_)))
 refine WV_nilslot 3 37 9 1 (by decide) (by decide) rfl rfl ?_
 simp only [go_sem]
 refine WV_loopS (fun k:Nat => ⟨upd (upd (upd (upd (upd e0 0 (.c (.sl 1 (ts.map fun t => [CD.str t])))) 5 (sv s)) 8 (iv k)) 7 (iv (lnK s k).2)) 3 (.gr 37),upd o0 37 (.grow 9 1 ((lnK s k).1.map fun r => [CD.str r]))⟩) (fun k => k ≤ s.length) (fun k => s.length - k) 0 (Nat.zero_le _) ?_ ?_
 ·(refine Sub_of (by simp only [go_sem]; ((repeat' (first | exact EnvLe_e0 _ _ | refine EnvLe_upd ?_ ?_)) <;> ((try simp only [upd_app,e0_app,o0_app,Nat.reduceEqDiff,reduceIte]); first | exact AWk.refl _ _ | exact AWk.int (by omega) | exact AWk.int (by rw [w64 (by omega) (by omega)]; omega) | exact AWk.grow rfl | exact AWk.nil _ | exact AWk.of (by simp [lnK])))) (by simp only [go_sem]; exact ObjLe_au))
 intro k hk0
 (repeat ((first | refine Va ?_ | refine Vb ?_ | refine Vc ?_ | refine Vd ?_ | refine Ve ?_ | refine Vf ?_); (try simp only [go_sem,hP]); (repeat refine qJ ?_)))
 (refine WV_cond rfl (fun h => ?_) (fun h => ?_))
 ·have hk:k < s.length:=by simpa using h
  have hst:=str_at hk
  have hsn:=lnK_succ hk
  have hw2:=w64 (n:=(k:Int) + 1) (by omega) (by omega)
  obtain ⟨q1,q2⟩:=lnK_le s k
  have n1:=strs_one (lnK s k).1
  generalize lnK s k = p at hsn q1 q2 n1
  generalize s[k] = c at hst hsn
  (refine WV_skip ?_; simp only [go_sem])
  refine WV_seq_ (WV_block (WV_seq_ ?_))
  (refine WV_op ?_; simp only [go_sem,hP,hst,Int.toNat_natCast,Int.ofNat_lt,hk,Int.natCast_nonneg]; (repeat refine qJ ?_))
  by_cases hc:c = 10
  ·subst hc
   rw [if_pos rfl,List.drop_take] at hsn
   (refine WV_cond rfl (fun h => ?_) (fun h => ?_))
   ·(repeat ((first | refine Va ?_ | refine Vb ?_ | refine Vc ?_ | refine Vd ?_ | refine Ve ?_ | refine Vf ?_); (try simp only [go_sem,hP,Int.toNat_natCast,n1,List.length_map,hw2]); (repeat refine qJ ?_)))
    refine ⟨k + 1,by omega,by omega,?_⟩
    rw [hsn]
    exact Sub_au
   ·simp at h
  ·have hcb:((c.toNat:Int) == 10) = false:=by
    rw [beq_eq_false_iff_ne]
    exact fun e => hc (UInt8.toNat_inj.1 (by show _ = 10; omega))
   rw [if_neg hc] at hsn
   (refine WV_cond rfl (fun h => ?_) (fun h => ?_))
   ·rw [hcb] at h; simp at h
   ·(repeat ((first | refine Va ?_ | refine Vb ?_ | refine Vc ?_ | refine Vd ?_ | refine Ve ?_ | refine Vf ?_); (try simp only [go_sem,hP,hw2]); (repeat refine qJ ?_)))
    refine ⟨k + 1,by omega,by omega,?_⟩
    rw [hsn]
    exact Sub_au
 have hk:k = s.length:=by simp at h; omega
 subst hk
 rw [hln]
 have hw3:=w64 (n:=(ts.length:Int) + 1) (by omega) (by omega)
 have hrr:((rows.length:Int) != (ts.length:Int) + 1) = false:=by rw [hrl]; simp
 refine WV_exit ?_
 simp only [thenQ,inQ,reduceIte,beq_self_eq_true]
 (repeat ((first | refine Va ?_ | refine Vb ?_ | refine Vc ?_ | refine Vd ?_ | refine Ve ?_ | refine Vf ?_); (try simp only [go_sem,hP,List.length_map,hw3,hrr]); (repeat refine qJ ?_)))
 (refine WV_cond rfl (fun h => ?_) (fun h => ?_))
 ·simp at h
 (repeat ((first | refine Va ?_ | refine Vb ?_ | refine Vc ?_ | refine Vd ?_ | refine Ve ?_ | refine Vf ?_); (try simp only [go_sem,hP]); (repeat refine qJ ?_)))
 refine WV_loopS (fun k:Nat => ⟨upd (upd (upd e0 5 (sv s)) 9 (iv k)) 3 (.gr 37),upd o0 37 (.grow 9 1 (rows.map fun r => [CD.str r]))⟩) (fun k => k ≤ rows.length) (fun k => rows.length - k) 0 (Nat.zero_le _) ?_ ?_
 ·exact Sub_au
 intro k hk0
 (repeat ((first | refine Va ?_ | refine Vb ?_ | refine Vc ?_ | refine Vd ?_ | refine Ve ?_ | refine Vf ?_); (try simp only [go_sem,hP,List.length_map]); (repeat refine qJ ?_)))
 (refine WV_cond rfl (fun h => ?_) (fun h => ?_))
 ·have hk:k < rows.length:=by simpa using h
  have h0:0 < rows.length:=by omega
  have hw2:=w64 (n:=(k:Int) + 1) (by omega) (by omega)
  have hl1:=hrow _ (List.getElem_mem hk)
  have hl2:=hrow _ (List.getElem_mem h0)
  have g1:(rows.map fun r => [CD.str r]).getD k [] = [CD.str rows[k]]:=map_getD hk
  have g2:(rows.map fun r => [CD.str r]).getD (Int.toNat 0) [] = [CD.str rows[0]]:=map_getD h0
  generalize rows[k] = a at g1 hl1
  generalize rows[0] = b at g2 hl2
  (refine WV_skip ?_; simp only [go_sem])
  refine WV_seq_ (WV_block (WV_seq_ ?_))
  (refine WV_op ?_; simp only [go_sem,hP,g1,g2,Int.toNat_natCast,Int.ofNat_lt,hk,h0,Int.natCast_nonneg,List.length_map,hl1,hl2]; (repeat refine qJ ?_))
  (refine WV_cond rfl (fun h => ?_) (fun h => ?_))
  ·simp at h; omega
  ·(repeat ((first | refine Va ?_ | refine Vb ?_ | refine Vc ?_ | refine Vd ?_ | refine Ve ?_ | refine Vf ?_); (try simp only [go_sem,hP,hw2]); (repeat refine qJ ?_)))
   refine ⟨k + 1,by omega,by omega,?_⟩
   exact Sub_au
 ·have hk:k = rows.length:=by simp at h; omega
  subst hk
  (repeat ((first | refine Va ?_ | refine Vb ?_ | refine Vc ?_ | refine Vd ?_ | refine Ve ?_ | refine Vf ?_); (try simp only [go_sem,hP]); (repeat refine qJ ?_)))
  (refine WV_ret ?_; simp only [thenQ,inQ,RetQ,RetOk,resAll,resA]; simp only [go_sem,tupA,AV.port,AV.portL,exists_eq_left']; (first | exact AVle.of rfl | refine AVle.of ?_ | skip))
end Go.Proofs.YtlmfdmlochpfcaaDoor

namespace Go.Proofs.YtlmfdmlochpfcaaDoor
open Go Go.V
abbrev o21_0:List Ins:=[⟨some 4,.mv (.k (.c (.bool false))),none,true⟩]
abbrev o21_1:List Ins:=[⟨some 6,.mv (.t 0),none,true⟩,
 ⟨some 7,.len (.t 6),none,true⟩,
 ⟨some 8,.mv (.t 1),none,true⟩,
 ⟨some 9,.len (.t 8),none,true⟩,
 ⟨some 10,.bin .neq (.t 7) (.t 9),none,true⟩]
abbrev o21_2:List Ins:=[⟨some 4,.mv (.k (.c (.bool false))),none,true⟩]
abbrev v21_3:VC:=(.seq (.ops o21_2) .ret)
abbrev v21_4:VC:=(.cond (.t 10) v21_3 .skip)
abbrev o21_5:List Ins:=[⟨some 5,.mv (.k (.c (.int .i64 0))),none,true⟩]
abbrev o21_6:List Ins:=[⟨some 11,.mv (.t 5),none,true⟩,
 ⟨some 12,.mv (.t 0),none,true⟩,
 ⟨some 13,.len (.t 12),none,true⟩,
 ⟨some 14,.bin .lss (.t 11) (.t 13),none,true⟩]
abbrev v21_7:VC:=(.cond (.t 14) .skip (.exit 0))
abbrev o21_8:List Ins:=[⟨some 17,.mv (.t 0),none,false⟩,
 ⟨some 18,.mv (.t 5),none,false⟩,
 ⟨some 19,.ia 1 (.t 17) (.t 18),none,false⟩,
 ⟨some 20,.ld true 1 (.t 19),none,false⟩,
 ⟨some 21,.mv (.t 1),none,false⟩,
 ⟨some 22,.mv (.t 5),none,false⟩,
 ⟨some 23,.ia 1 (.t 21) (.t 22),none,false⟩,
 ⟨some 24,.ld true 1 (.t 23),none,false⟩,
 ⟨some 25,.prim (.sbin .neq) [(.t 20),(.t 24)],none,true⟩]
abbrev o21_9:List Ins:=[⟨some 4,.mv (.k (.c (.bool false))),none,true⟩]
abbrev v21_10:VC:=(.seq (.ops o21_9) .ret)
abbrev v21_11:VC:=(.cond (.t 25) v21_10 .skip)
abbrev v21_12:VC:=(.seq (.dops o21_8) v21_11)
abbrev o21_13:List Ins:=[⟨some 15,.mv (.t 5),none,true⟩,
 ⟨some 16,.bin .add (.t 15) (.k (.c (.int .i64 1))),none,true⟩,
 ⟨some 5,.mv (.t 16),none,true⟩]
abbrev v21_14:VC:=(.seq (.block 1 v21_12) (.ops o21_13))
abbrev v21_15:VC:=(.seq (.seq (.ops o21_6) v21_7) v21_14)
-- K21_1: changed and kept: [5]
abbrev K21_1:List Nat:=[0,1]
abbrev v21_16:VC:=(.loop v21_15)
abbrev v21_17:VC:=(.block 0 v21_16)
abbrev o21_18:List Ins:=[⟨some 4,.mv (.k (.c (.bool true))),none,true⟩]
abbrev v21_19:VC:=(.seq (.ops o21_18) .ret)
abbrev v21_20:VC:=(.seq (.seq (.ops o21_5) v21_17) v21_19)
abbrev v21_21:VC:=(.seq (.seq (.ops o21_1) v21_4) v21_20)
def ir21:FC:=⟨2,26,[.t 4],(.seq (.ops o21_0) v21_21)⟩
abbrev o16_0:List Ins:=[⟨some 0,.mv (.k (.c (.bool false))),none,true⟩]
abbrev o16_1:List Ins:=[⟨some 13,.bsl 9 1 [(.k (.c (.str [97,98]))),(.k (.c (.str [99])))],none,true⟩,
 ⟨some 14,.call (.k (.fn 24 [])) [(.t 13)],none,true⟩,
 ⟨some 12,.mv (.t 14),none,true⟩,
 ⟨some 15,.ext (.t 12) 0,none,true⟩,
 ⟨some 16,.ext (.t 12) 1,none,true⟩,
 ⟨some 1,.mv (.t 15),none,true⟩,
 ⟨some 2,.mv (.t 16),none,true⟩]
abbrev o16_2:List Ins:=[⟨some 18,.call (.k (.fn 18 [])) [(.k (.c (.str [97,63,63,95,10,99,124,32,64,10,91,65,63,33,10])))],none,true⟩,
 ⟨some 17,.mv (.t 18),none,true⟩,
 ⟨some 19,.ext (.t 17) 0,none,true⟩,
 ⟨some 20,.ext (.t 17) 1,none,true⟩,
 ⟨some 3,.mv (.t 19),none,true⟩,
 ⟨some 4,.mv (.t 20),none,true⟩]
abbrev o16_3:List Ins:=[⟨some 22,.call (.k (.fn 20 [])) [(.k (.c (.str [97,98,124,95,10,99,124,32,64,10,91,65,35,33,10])))],none,true⟩,
 ⟨some 21,.mv (.t 22),none,true⟩,
 ⟨some 23,.ext (.t 21) 0,none,true⟩,
 ⟨some 24,.ext (.t 21) 1,none,true⟩,
 ⟨some 5,.mv (.t 23),none,true⟩,
 ⟨some 6,.mv (.t 24),none,true⟩]
abbrev o16_4:List Ins:=[⟨some 26,.call (.k (.fn 31 [])) [(.k (.c (.str [63,63,124,95,10,63,63,32,64,10,91,65,35,33,10])))],none,true⟩,
 ⟨some 25,.mv (.t 26),none,true⟩,
 ⟨some 27,.ext (.t 25) 0,none,true⟩,
 ⟨some 28,.ext (.t 25) 1,none,true⟩,
 ⟨some 7,.mv (.t 27),none,true⟩,
 ⟨some 8,.mv (.t 28),none,true⟩]
abbrev o16_5:List Ins:=[⟨some 30,.call (.k (.fn 23 [])) [(.k (.c (.str [97,98,124,95,10,100,124,32,64,10,91,65,35,33,10])))],none,true⟩,
 ⟨some 29,.mv (.t 30),none,true⟩,
 ⟨some 31,.ext (.t 29) 0,none,true⟩,
 ⟨some 32,.ext (.t 29) 1,none,true⟩,
 ⟨some 33,.ext (.t 29) 2,none,true⟩,
 ⟨some 9,.alloc [(.c (.int .i64 0)),(.c (.int .i64 0))],none,true⟩,
 ⟨none,.st 2 (.t 9) (.t 31),none,true⟩,
 ⟨some 10,.mv (.t 32),none,true⟩,
 ⟨some 11,.mv (.t 33),none,true⟩]
abbrev o16_6:List Ins:=[⟨some 34,.mv (.t 2),none,true⟩,
 ⟨some 35,.bin .eql (.t 34) (.k (.c (.int .i64 0))),none,true⟩,
 ⟨some 36,.mv (.t 35),none,true⟩,
 ⟨some 37,.mv (.t 4),(some (36,true)),true⟩,
 ⟨some 38,.bin .eql (.t 37) (.k (.c (.int .i64 0))),(some (36,true)),true⟩,
 ⟨some 39,.pick (.t 36) (.t 38) (.k (.c (.bool false))),none,true⟩,
 ⟨some 40,.mv (.t 39),none,true⟩,
 ⟨some 41,.mv (.t 6),(some (40,true)),true⟩,
 ⟨some 42,.bin .eql (.t 41) (.k (.c (.int .i64 0))),(some (40,true)),true⟩,
 ⟨some 43,.pick (.t 40) (.t 42) (.k (.c (.bool false))),none,true⟩,
 ⟨some 44,.mv (.t 43),none,true⟩,
 ⟨some 45,.mv (.t 8),(some (44,true)),true⟩,
 ⟨some 46,.bin .eql (.t 45) (.k (.c (.int .i64 0))),(some (44,true)),true⟩,
 ⟨some 47,.pick (.t 44) (.t 46) (.k (.c (.bool false))),none,true⟩,
 ⟨some 48,.mv (.t 47),none,true⟩,
 ⟨some 49,.mv (.t 11),(some (48,true)),true⟩,
 ⟨some 50,.bin .eql (.t 49) (.k (.c (.int .i64 0))),(some (48,true)),true⟩,
 ⟨some 51,.pick (.t 48) (.t 50) (.k (.c (.bool false))),none,true⟩,
 ⟨some 52,.mv (.t 51),none,true⟩,
 ⟨some 53,.mv (.t 1),(some (52,true)),true⟩,
 ⟨some 54,.prim (.sbin .eql) [(.t 53),(.k (.c (.str [97,98,124,95,10,99,124,32,64,10,91,65,35,33,10])))],(some (52,true)),true⟩,
 ⟨some 55,.pick (.t 52) (.t 54) (.k (.c (.bool false))),none,true⟩,
 ⟨some 56,.mv (.t 55),none,true⟩,
 ⟨some 57,.mv (.t 3),(some (56,true)),true⟩,
 ⟨some 58,.prim (.sbin .eql) [(.t 57),(.k (.c (.str [97,98,124,95,10,99,124,32,64,10,91,65,35,33,10])))],(some (56,true)),true⟩,
 ⟨some 59,.pick (.t 56) (.t 58) (.k (.c (.bool false))),none,true⟩,
 ⟨some 60,.mv (.t 59),none,true⟩,
 ⟨some 61,.mv (.t 5),(some (60,true)),true⟩,
 ⟨some 62,.bsl 9 1 [(.k (.c (.str [97,98]))),(.k (.c (.str [99])))],(some (60,true)),true⟩,
 ⟨some 63,.call (.k (.fn 21 [])) [(.t 61),(.t 62)],(some (60,true)),true⟩,
 ⟨some 64,.pick (.t 60) (.t 63) (.k (.c (.bool false))),none,true⟩,
 ⟨some 65,.mv (.t 64),none,true⟩,
 ⟨some 66,.mv (.t 7),(some (65,true)),true⟩,
 ⟨some 67,.bin .eql (.t 66) (.k (.c (.int .i64 1))),(some (65,true)),true⟩,
 ⟨some 68,.pick (.t 65) (.t 67) (.k (.c (.bool false))),none,true⟩,
 ⟨some 69,.mv (.t 68),none,true⟩,
 ⟨some 70,.ld false 2 (.t 9),(some (69,true)),true⟩,
 ⟨some 71,.bld [(.c (.int .i64 0)),(.c (.int .i64 0))] [(0,1,(.k (.c (.int .i64 1))))],(some (69,true)),true⟩,
 ⟨some 72,.seq false [(0,true),(1,true)] (.t 70) (.t 71),(some (69,true)),true⟩,
 ⟨some 73,.pick (.t 69) (.t 72) (.k (.c (.bool false))),none,true⟩,
 ⟨some 74,.mv (.t 73),none,true⟩,
 ⟨some 75,.mv (.t 10),(some (74,true)),true⟩,
 ⟨some 76,.prim (.sbin .eql) [(.t 75),(.k (.c (.str [97,98,124,95,10,99,124,32,64,10,91,65,35,33,10])))],(some (74,true)),true⟩,
 ⟨some 77,.pick (.t 74) (.t 76) (.k (.c (.bool false))),none,true⟩,
 ⟨some 0,.mv (.t 77),none,true⟩]
abbrev v16_7:VC:=(.seq (.ops o16_6) .ret)
abbrev v16_8:VC:=(.seq (.ops o16_5) v16_7)
abbrev v16_9:VC:=(.seq (.ops o16_4) v16_8)
abbrev v16_10:VC:=(.seq (.ops o16_3) v16_9)
abbrev v16_11:VC:=(.seq (.ops o16_2) v16_10)
abbrev v16_12:VC:=(.seq (.ops o16_1) v16_11)
def ir16:FC:=⟨0,78,[.t 0],(.seq (.ops o16_0) v16_12)⟩
theorem c21:compM Tryd.prog [] 21 = some ir21:=by kernel_rfl
theorem c16:compM Tryd.prog [] 16 = some ir16:=by kernel_rfl
attribute [local go_sem] Nat.reduceEqDiff Nat.reduceAdd Nat.reduceMul reduceIte Nat.reduceLeDiff Nat.reduceLT Nat.reduceBEq reduceCtorEq
theorem same21 (a b:List (List UInt8)) (ha:a.length ≤ 1000000):FSpec Tryd.prog 21 [.c (strsV a),.c (strsV b)] (bv (a == b)):=by
 have hmax:maxLen = 9223372036854775807:=rfl
 refine FSpec_of c21 (Nat.le_refl _) (by decide) fun C hP hN hC hL => ?_; rw [init_st]
 simp only [ir21,strsV]
 (repeat ((first | refine Va ?_ | refine Vb ?_ | refine Vc ?_ | refine Vd ?_ | refine Ve ?_ | refine Vf ?_); (try simp only [go_sem,hP,List.length_map]); (repeat refine qJ ?_)))
 by_cases hl:a.length = b.length
 ·(refine WV_cond rfl (fun h => ?_) (fun h => ?_))
  ·simp [hl] at h
  (repeat ((first | refine Va ?_ | refine Vb ?_ | refine Vc ?_ | refine Vd ?_ | refine Ve ?_ | refine Vf ?_); (try simp only [go_sem,hP]); (repeat refine qJ ?_)))
  refine WV_loopK K21_1 [] (fun k:Nat => k ≤ a.length ∧ ∀ m (hm:m < a.length) (hm2:m < b.length),m < k → a[m] = b[m]) (fun k => a.length - k) (fun k => [(5,iv k)]) (fun _ => []) 0 ⟨Nat.zero_le _,fun m _ _ h => by omega⟩ ?_ ?_
  ·exact Sub_au
  ·intro k ⟨hk0,hke⟩
   simp only [go_sem]
   (repeat ((first | refine Va ?_ | refine Vb ?_ | refine Vc ?_ | refine Vd ?_ | refine Ve ?_ | refine Vf ?_); (try simp only [go_sem,hP,List.length_map]); (repeat refine qJ ?_)))
   (refine WV_cond rfl (fun h => ?_) (fun h => ?_))
   ·have hk:k < a.length:=by simpa using h
    have hkb:k < b.length:=by omega
    have hw2:=w64 (n:=(k:Int) + 1) (by omega) (by omega)
    (refine WV_skip ?_; simp only [go_sem])
    refine WV_seq_ (WV_block (WV_seq_ ?_))
    (refine WV_op ?_; simp only [go_sem,hP,map_getD hk,map_getD hkb,List.length_map,Int.toNat_natCast,Int.ofNat_lt,hk,hkb,Int.natCast_nonneg]; (repeat refine qJ ?_))
    by_cases he:a[k] = b[k]
    ·(refine WV_cond rfl (fun h => ?_) (fun h => ?_))
     ·simp [he] at h
     ·(repeat ((first | refine Va ?_ | refine Vb ?_ | refine Vc ?_ | refine Vd ?_ | refine Ve ?_ | refine Vf ?_); (try simp only [go_sem,hP,hw2]); (repeat refine qJ ?_)))
      refine ⟨k + 1,⟨by omega,fun m hm hm2 hmk => ?_⟩,by omega,?_⟩
      ·by_cases e2:m = k
       ·subst e2; exact he
       ·exact hke m hm hm2 (by omega)
      ·exact Sub_au
    ·have hne:(a == b) = false:=by
      rw [beq_eq_false_iff_ne]
      rintro rfl
      exact he rfl
     rw [hne]
     (refine WV_cond rfl (fun h => ?_) (fun h => ?_))
     ·(repeat ((first | refine Va ?_ | refine Vb ?_ | refine Vc ?_ | refine Vd ?_ | refine Ve ?_ | refine Vf ?_); (try simp only [go_sem,hP]); (repeat refine qJ ?_)))
      (refine WV_ret ?_; simp only [thenQ,inQ,RetQ,RetOk,resAll,resA]; simp only [go_sem,tupA,AV.port,AV.portL,exists_eq_left']; (first | exact AVle.of rfl | refine AVle.of ?_ | skip))
     ·simp [he] at h
   ·have hk:k = a.length:=by simp at h; omega
    subst hk
    have heq:(a == b) = true:=by
     rw [beq_iff_eq]
     exact List.ext_getElem hl fun m h1 h2 => hke m h1 h2 h1
    rw [heq]
    (repeat ((first | refine Va ?_ | refine Vb ?_ | refine Vc ?_ | refine Vd ?_ | refine Ve ?_ | refine Vf ?_); (try simp only [go_sem,hP]); (repeat refine qJ ?_)))
    (refine WV_ret ?_; simp only [thenQ,inQ,RetQ,RetOk,resAll,resA]; simp only [go_sem,tupA,AV.port,AV.portL,exists_eq_left']; (first | exact AVle.of rfl | refine AVle.of ?_ | skip))
 ·have hne:(a == b) = false:=by
   rw [beq_eq_false_iff_ne]
   rintro rfl
   exact hl rfl
  rw [hne]
  (refine WV_cond rfl (fun h => ?_) (fun h => ?_))
  ·(repeat ((first | refine Va ?_ | refine Vb ?_ | refine Vc ?_ | refine Vd ?_ | refine Ve ?_ | refine Vf ?_); (try simp only [go_sem,hP]); (repeat refine qJ ?_)))
   (refine WV_ret ?_; simp only [thenQ,inQ,RetQ,RetOk,resAll,resA]; simp only [go_sem,tupA,AV.port,AV.portL,exists_eq_left']; (first | exact AVle.of rfl | refine AVle.of ?_ | skip))
  ·simp at h; omega
def ex1:List UInt8:=[97,98,124,95,10,99,124,32,64,10,91,65,35,33,10]
theorem ex_write:writeG [[97,98],[99]] = (ex1,0):=by kernel_rfl
theorem ex_mend:mendG [97,63,63,95,10,99,124,32,64,10,91,65,63,33,10] = (ex1,0):=by kernel_rfl
theorem ex_read:readG ex1 = ([[97,98],[99]],0):=by kernel_rfl
theorem ex_left:leftG [63,63,124,95,10,63,63,32,64,10,91,65,35,33,10] = ([(0,0),(0,1),(1,0),(1,1)],0):=by kernel_rfl
theorem ex_wrong:wrongG [97,98,124,95,10,100,124,32,64,10,91,65,35,33,10] = ((1,0),ex1,0):=by kernel_rfl
theorem Conn.inv {ms:List (Nat × Nat)} (f:Int → Bool) (h:∀ m ∈ ms,f m.1 = f (-1 - m.2)) {x y:Int} (hc:Conn ms x y):f x = f y:=by
 induction hc with
 | refl x => rfl
 | edge hm => exact h _ hm
 | symm _ ih => exact ih.symm
 | trans _ _ ih1 ih2 => exact ih1.trans ih2
theorem ex_circ:(circ [(0,0),(0,1),(1,0),(1,1)]).length = 1:=by
 have h0:¬ Conn ([(0,0),(0,1),(1,0),(1,1)].take 0) ((0:Nat):Int) (-1 - ((0:Nat):Int)):=fun h => by
  have:=h.inv (fun x => decide (x = 0)) (by decide)
  revert this; decide
 have h1:¬ Conn ([(0,0),(0,1),(1,0),(1,1)].take 1) ((0:Nat):Int) (-1 - ((1:Nat):Int)):=fun h => by
  have:=h.inv (fun x => decide (x = 0 ∨ x = -1)) (by decide)
  revert this; decide
 have h2:¬ Conn ([(0,0),(0,1),(1,0),(1,1)].take 2) ((1:Nat):Int) (-1 - ((0:Nat):Int)):=fun h => by
  have:=h.inv (fun x => decide (x = 1)) (by decide)
  revert this; decide
 have h3:Conn ([(0,0),(0,1),(1,0),(1,1)].take 3) ((1:Nat):Int) (-1 - ((1:Nat):Int)):=by
  have e0:Conn ([(0,0),(0,1),(1,0),(1,1)].take 3) ((0:Nat):Int) (-1 - ((0:Nat):Int)):=.edge (m:=(0,0)) (by simp)
  have e1:Conn ([(0,0),(0,1),(1,0),(1,1)].take 3) ((0:Nat):Int) (-1 - ((1:Nat):Int)):=.edge (m:=(0,1)) (by simp)
  have e2:Conn ([(0,0),(0,1),(1,0),(1,1)].take 3) ((1:Nat):Int) (-1 - ((0:Nat):Int)):=.edge (m:=(1,0)) (by simp)
  exact e2.trans (e0.symm.trans e1)
 unfold circ
 show (circK _ 4).length = 1
 rw [circK_snoc (k:=3) (m:=(1,1)) rfl,circK_snoc (k:=2) (m:=(1,0)) rfl,circK_snoc (k:=1) (m:=(0,1)) rfl,circK_snoc (k:=0) (m:=(0,0)) rfl,if_pos h3,if_neg h2,if_neg h1,if_neg h0]
 rfl
set_option maxRecDepth 20000 in
set_option maxHeartbeats 8000000 in
theorem works16:FSpec Tryd.prog 16 [] (bv true):=by
 have hmax:maxLen = 9223372036854775807:=rfl
 have h1:=write24 [[97,98],[99]] (by simp) (by simp)
 have h2:=mend18 [97,63,63,95,10,99,124,32,64,10,91,65,63,33,10] (by simp)
 have h3:=read20 ex1 (by decide)
 have h4:=fewest31 [63,63,124,95,10,63,63,32,64,10,91,65,35,33,10] (by simp)
 have h5:=wrong23 [97,98,124,95,10,100,124,32,64,10,91,65,35,33,10] (by simp)
 have h6:=same21 [[97,98],[99]] [[97,98],[99]] (by simp)
 rw [ex_write] at h1
 rw [ex_mend] at h2
 rw [ex_read] at h3
 rw [ex_left,ex_circ] at h4
 rw [ex_wrong] at h5
 have h6':FSpec Tryd.prog 21 [.c (.sl 1 [[.str [97,98]],[.str [99]]]),.c (.sl 1 [[.str [97,98]],[.str [99]]])] (bv true):=h6
 have h1':FSpec Tryd.prog 24 [.c (.sl 1 [[.str [97,98]],[.str [99]]])] (.tup [.c (.str ex1),iv 0]):=h1
 unfold ex1 at h1' h2 h3 h5
 clear h1 h6
 refine FSpec_of c16 (Nat.le_refl _) (by decide) fun C hP hN hC hL => ?_; rw [init_st]
 simp only [ir16]
 (repeat ((first | refine Va ?_ | refine Vb ?_ | refine Vc ?_ | refine Vd ?_ | refine Ve ?_ | refine Vf ?_); (try simp only [go_sem,hP]); (repeat refine qJ ?_)))
 (refine AS_pu (h1') ?_; simp only [go_sem,hP]; (repeat refine qJ ?_); (repeat ((first | refine Va ?_ | refine Vb ?_ | refine Vc ?_ | refine Vd ?_ | refine Ve ?_ | refine Vf ?_); (try simp only [go_sem,hP]); (repeat refine qJ ?_))))
 (refine AS_pu (h2) ?_; simp only [go_sem,hP]; (repeat refine qJ ?_); (repeat ((first | refine Va ?_ | refine Vb ?_ | refine Vc ?_ | refine Vd ?_ | refine Ve ?_ | refine Vf ?_); (try simp only [go_sem,hP]); (repeat refine qJ ?_))))
 (refine AS_pu (h3) ?_; simp only [go_sem,hP]; (repeat refine qJ ?_); (repeat ((first | refine Va ?_ | refine Vb ?_ | refine Vc ?_ | refine Vd ?_ | refine Ve ?_ | refine Vf ?_); (try simp only [go_sem,hP]); (repeat refine qJ ?_))))
 (refine AS_pu (h4) ?_; simp only [go_sem,hP]; (repeat refine qJ ?_); (repeat ((first | refine Va ?_ | refine Vb ?_ | refine Vc ?_ | refine Vd ?_ | refine Ve ?_ | refine Vf ?_); (try simp only [go_sem,hP]); (repeat refine qJ ?_))))
 (refine AS_pu (h5) ?_; simp only [go_sem,hP,beq_self_eq_true,Bool.and_self,Bool.true_and,true_implies,Bool.true_eq_false,false_implies,and_true]; (repeat refine qJ ?_); (repeat ((first | refine Va ?_ | refine Vb ?_ | refine Vc ?_ | refine Vd ?_ | refine Ve ?_ | refine Vf ?_); (try simp only [go_sem,hP,beq_self_eq_true,Bool.and_self,Bool.true_and,true_implies,Bool.true_eq_false,false_implies,and_true]); (repeat refine qJ ?_))))
 (refine AG_pu (fun hG => h6') ?_; simp only [go_sem,hP,beq_self_eq_true,Bool.and_self,Bool.true_and,true_implies,Bool.true_eq_false,false_implies,and_true]; (repeat refine qJ ?_); (repeat ((first | refine Va ?_ | refine Vb ?_ | refine Vc ?_ | refine Vd ?_ | refine Ve ?_ | refine Vf ?_); (try simp only [go_sem,hP,beq_self_eq_true,Bool.and_self,Bool.true_and,true_implies,Bool.true_eq_false,false_implies,and_true]); (repeat refine qJ ?_))))
 (refine WV_ret ?_; simp only [thenQ,inQ,RetQ,RetOk,resAll,resA]; simp only [go_sem,tupA,AV.port,AV.portL,exists_eq_left'])
 exact AVle.of rfl
end Go.Proofs.YtlmfdmlochpfcaaDoor

namespace Go.Proofs.YtlmfdmlochpfcaaDoor
open Go Go.V
theorem can_len {ts:List (List UInt8)} (h:canT ts = true):ts.length ≤ 60 ∧ ∀ s ∈ ts,s.length ≤ 200:=by
 unfold canT at h
 simp only [Bool.and_eq_true,decide_eq_true_eq,List.all_eq_true] at h
 exact h
theorem book_of {ts:List (List UInt8)} (h:errT ts = 0):BookOk ts:=by
 unfold errT at h
 split at h
 ·cases h
 ·split at h
  ·exact ⟨by assumption,by assumption⟩
  ·cases h
theorem strs_same (ts:List (List UInt8)) (h:ts.length ≤ 1000000):FSpec Tryd.prog 21 [.c (strsV ts),.c (strsV ts)] (bv true):=by
 have:=same21 ts ts h
 rwa [show (ts == ts) = true from beq_self_eq_true _] at this
section
variable {ts:List (List UInt8)}
theorem good_book (h:BookOk ts) (hc:canT ts = true):FSpec Tryd.prog 17 [.c (strsV ts)] (.tup [sv (textG (bookB ts)),.c (strsV (bookB ts)),bv true]):=by
 obtain ⟨h1,h2⟩:=can_len hc
 have hw:=write24 ts (fun s hs => by have:=h2 s hs; omega) (by omega)
 rw [write_book h] at hw
 exact good17 (fun s hs => by have:=h2 s hs; omega) (by omega) h.sok (bookB_len h) hw
theorem text_len {rows:List (List UInt8)} {w:Nat} (h:SOk rows w):(textG rows).length ≤ 1353:=by
 have h1:=textG_length rows w h.row
 have h2:rows.length * (w + 1) ≤ 41 * 33:=Nat.mul_le_mul h.len (by have:=h.w32; omega)
 omega
end
end Go.Proofs.YtlmfdmlochpfcaaDoor

namespace Go.Proofs.YtlmfdmlochpfcaaDoor
open Go Go.V
theorem rest_full {n w:Nat} {g:List (List Int)} (h:NN n w g):restG n w g = g:=by
 cases hs:stepG n w g with
 | none => exact restG_end hs
 | some g' =>
  obtain ⟨l,p,hl,_,_,hp,hv,_⟩:=stepG_some h.gow hs
  exact (h.ne hl p hp hv).elim
theorem Right.nn {n w:Nat} {G:List (List Int)} (h:Right n w G):NN n w G:=⟨h.gow,fun i k hi hk => by
 have h1:=h.full i k hi hk
 have h2:=h.gow.val i k hi hk
 omega⟩
section
variable {n w:Nat} {G:List (List Int)} {q:Nat × Nat} {v:Int}
end
section
variable {ts:List (List UInt8)}
theorem no63 {rows:List (List UInt8)} (h:∀ l ∈ rows,(63:UInt8) ∉ l):(textG rows).contains 63 = false:=by
 rw [List.contains_eq_mem,decide_eq_false_iff_not]
 unfold textG
 rw [List.mem_flatMap]
 rintro ⟨l,hl,hm⟩
 rcases List.mem_append.1 hm with hm | hm
 ·exact h l hl hm
 ·simp at hm
theorem nn_no63 {rows:List (List UInt8)} {w:Nat} (h:SOk rows w) (hn:NN rows.length w (valsG rows)):(textG rows).contains 63 = false:=by
 refine no63 fun l hl hm => ?_
 obtain ⟨i,hi,rfl⟩:=List.getElem_of_mem hl
 obtain ⟨k,hk,he⟩:=List.getElem_of_mem hm
 have hw:=h.row _ (List.getElem_mem hi)
 have h1:=(h.at (i:=i) (k:=k) hi (by omega)).2.2
 have h2:=hn.nn i k hi (by omega)
 have h3:byAt rows (i,k) = 63:=by
  unfold byAt
  simp only
  rw [List.getD_eq_getElem?_getD (l:=rows),List.getElem?_eq_getElem hi]
  show (rows[i]).getD k 0 = 63
  rw [List.getD_eq_getElem?_getD,List.getElem?_eq_getElem hk]; exact he
 rw [h3] at h1
 rw [h1] at h2
 revert h2; decide
theorem wrong_book (h:BookOk ts):(wrongG (textG (bookB ts))).2.2 = 3:=by
 have hs:=h.sok
 have hl:=bookB_len h
 have hR:=h.right
 have hN:=hR.nn
 have hN2:=hN
 rw [← hl,← h.vals] at hN2
 have hwr:wrongN (ts.length + 1) (maxW ts + 1) (gridR ts) = ((0,0),[],3):=by
  have hb:∀ b,wrongB (ts.length + 1) (maxW ts + 1) (gridR ts) b = []:=by
   intro b
   have hw:wid (gridR ts) = maxW ts + 1:=by unfold wid; exact hR.gow.row 0 (Nat.succ_pos _)
   rw [wrongB_bad hR.gow.len hw]
   unfold badL manyL
   rw [hR.gow.len,hw,List.filter_eq_nil_iff]
   intro i hi
   have hi:=List.mem_range.1 hi
   rw [hN.line (Nat.succ_pos _),hR.sum _ (by
    cases b
    ·exact allP_mem.2 (.inr ⟨i,by simpa using hi,rfl⟩)
    ·exact allP_mem.2 (.inl ⟨i,by simpa using hi,rfl⟩))]
   decide
  unfold wrongN
  rw [hb,hb,if_pos (by rfl)]
 unfold wrongG
 rw [parse_text hs]
 simp only
 rw [nn_no63 hs hN2,if_neg (by decide),hs.hd,hl,h.vals,hwr]
end
end Go.Proofs.YtlmfdmlochpfcaaDoor

namespace Go.Proofs.YtlmfdmlochpfcaaDoor
open Go Go.V
attribute [local go_sem] Nat.reduceEqDiff Nat.reduceAdd Nat.reduceMul reduceIte Nat.reduceLeDiff Nat.reduceLT Nat.reduceBEq reduceCtorEq
theorem mks_zero' (n:Nat):(List.replicate n [AV.c (CD.int .i64 0)]).flatten = cellsG icds (List.replicate n 0) 0:=by
 induction n with
 | zero => rfl
 | succ n ih => rw [List.replicate_succ,List.flatten_cons,ih,List.replicate_succ]; rfl
theorem lcells_get {L:List Int} {k:Nat} (h:k < L.length) (x:AV):(cellsG icds L 0).getD k x = iv (L.getD k 0):=by
 rw [icell h,List.getD_eq_getElem?_getD,List.getElem?_eq_getElem h]; rfl
theorem lcells_set {L:List Int} {k:Nat} (h:k < L.length) (v:Int):(cellsG icds L 0).set k (iv v) = cellsG icds (L.set k v) 0:=by
 have hcs:=cellsG_set (cds:=icds) icds_one (l:=L) (k:=k) h 0 0 (by decide) (.int .i64 v) v rfl
 rwa [Nat.mul_one,Nat.add_zero] at hcs
theorem lcells_len {L:List Int}:(cellsG icds L 0).length = L.length:=by rw [cellsG_len icds_one]; omega
end Go.Proofs.YtlmfdmlochpfcaaDoor

namespace Go.Proofs.YtlmfdmlochpfcaaDoor
open Go Go.V
abbrev o8_0:List Ins:=[⟨some 2,.mv (.k (.c (.bool false))),none,true⟩]
abbrev o8_1:List Ins:=[⟨some 24,.mv (.t 0),none,true⟩,
 ⟨some 25,.call (.k (.fn 14 [])) [(.t 24)],none,true⟩,
 ⟨some 26,.un .not (.t 25),none,true⟩,
 ⟨some 27,.mv (.t 26),none,true⟩,
 ⟨some 28,.mv (.t 0),(some (27,false)),true⟩,
 ⟨some 29,.call (.k (.fn 15 [])) [(.t 28)],(some (27,false)),true⟩,
 ⟨some 30,.bin .neq (.t 29) (.k (.c (.int .i64 0))),(some (27,false)),true⟩,
 ⟨some 31,.pick (.t 27) (.k (.c (.bool true))) (.t 30),none,true⟩]
abbrev o8_2:List Ins:=[⟨some 32,.call (.k (.fn 16 [])) [],none,true⟩,
 ⟨some 2,.mv (.t 32),none,true⟩]
abbrev v8_3:VC:=(.seq (.ops o8_2) .ret)
abbrev v8_4:VC:=(.cond (.t 31) v8_3 .skip)
abbrev o8_5:List Ins:=[⟨some 34,.mv (.t 0),none,true⟩,
 ⟨some 35,.call (.k (.fn 17 [])) [(.t 34)],none,true⟩,
 ⟨some 33,.mv (.t 35),none,true⟩,
 ⟨some 36,.ext (.t 33) 0,none,true⟩,
 ⟨some 37,.ext (.t 33) 1,none,true⟩,
 ⟨some 38,.ext (.t 33) 2,none,true⟩,
 ⟨some 3,.mv (.t 36),none,true⟩,
 ⟨some 4,.mv (.t 37),none,true⟩,
 ⟨some 5,.mv (.t 38),none,true⟩]
abbrev o8_6:List Ins:=[⟨some 39,.mv (.t 5),none,true⟩,
 ⟨some 40,.un .not (.t 39),none,true⟩]
abbrev o8_7:List Ins:=[⟨some 2,.mv (.k (.c (.bool false))),none,true⟩]
abbrev v8_8:VC:=(.seq (.ops o8_7) .ret)
abbrev v8_9:VC:=(.cond (.t 40) v8_8 .skip)
abbrev o8_10:List Ins:=[⟨some 42,.mv (.t 3),none,true⟩,
 ⟨some 43,.call (.k (.fn 20 [])) [(.t 42)],none,true⟩,
 ⟨some 41,.mv (.t 43),none,true⟩,
 ⟨some 44,.ext (.t 41) 0,none,true⟩,
 ⟨some 45,.ext (.t 41) 1,none,true⟩,
 ⟨some 6,.mv (.t 44),none,true⟩,
 ⟨some 7,.mv (.t 45),none,true⟩]
abbrev o8_11:List Ins:=[⟨some 47,.mv (.t 3),none,true⟩,
 ⟨some 48,.call (.k (.fn 18 [])) [(.t 47)],none,true⟩,
 ⟨some 46,.mv (.t 48),none,true⟩,
 ⟨some 49,.ext (.t 46) 0,none,true⟩,
 ⟨some 50,.ext (.t 46) 1,none,true⟩,
 ⟨some 8,.mv (.t 49),none,true⟩,
 ⟨some 9,.mv (.t 50),none,true⟩]
abbrev o8_12:List Ins:=[⟨some 52,.mv (.t 3),none,true⟩,
 ⟨some 53,.call (.k (.fn 30 [])) [(.t 52)],none,true⟩,
 ⟨some 51,.mv (.t 53),none,true⟩,
 ⟨some 54,.ext (.t 51) 0,none,true⟩,
 ⟨some 55,.ext (.t 51) 1,none,true⟩,
 ⟨some 10,.mv (.t 54),none,true⟩,
 ⟨some 11,.mv (.t 55),none,true⟩]
abbrev o8_13:List Ins:=[⟨some 57,.mv (.t 3),none,true⟩,
 ⟨some 58,.call (.k (.fn 31 [])) [(.t 57)],none,true⟩,
 ⟨some 56,.mv (.t 58),none,true⟩,
 ⟨some 59,.ext (.t 56) 0,none,true⟩,
 ⟨some 60,.ext (.t 56) 1,none,true⟩,
 ⟨some 12,.mv (.t 59),none,true⟩,
 ⟨some 13,.mv (.t 60),none,true⟩]
abbrev o8_14:List Ins:=[⟨some 62,.mv (.t 3),none,true⟩,
 ⟨some 63,.call (.k (.fn 23 [])) [(.t 62)],none,true⟩,
 ⟨some 61,.mv (.t 63),none,true⟩,
 ⟨some 64,.ext (.t 61) 0,none,true⟩,
 ⟨some 65,.ext (.t 61) 1,none,true⟩,
 ⟨some 66,.ext (.t 61) 2,none,true⟩,
 ⟨some 14,.alloc [(.c (.int .i64 0)),(.c (.int .i64 0))],none,true⟩,
 ⟨none,.st 2 (.t 14) (.t 64),none,true⟩,
 ⟨some 15,.mv (.t 65),none,true⟩,
 ⟨some 16,.mv (.t 66),none,true⟩]
abbrev o8_15:List Ins:=[⟨some 67,.mv (.t 7),none,true⟩,
 ⟨some 68,.bin .neq (.t 67) (.k (.c (.int .i64 0))),none,true⟩,
 ⟨some 69,.mv (.t 68),none,true⟩,
 ⟨some 70,.mv (.t 9),(some (69,false)),true⟩,
 ⟨some 71,.bin .neq (.t 70) (.k (.c (.int .i64 0))),(some (69,false)),true⟩,
 ⟨some 72,.pick (.t 69) (.k (.c (.bool true))) (.t 71),none,true⟩,
 ⟨some 73,.mv (.t 72),none,true⟩,
 ⟨some 74,.mv (.t 11),(some (73,false)),true⟩,
 ⟨some 75,.bin .neq (.t 74) (.k (.c (.int .i64 0))),(some (73,false)),true⟩,
 ⟨some 76,.pick (.t 73) (.k (.c (.bool true))) (.t 75),none,true⟩,
 ⟨some 77,.mv (.t 76),none,true⟩,
 ⟨some 78,.mv (.t 13),(some (77,false)),true⟩,
 ⟨some 79,.bin .neq (.t 78) (.k (.c (.int .i64 0))),(some (77,false)),true⟩,
 ⟨some 80,.pick (.t 77) (.k (.c (.bool true))) (.t 79),none,true⟩,
 ⟨some 81,.mv (.t 80),none,true⟩,
 ⟨some 82,.mv (.t 16),(some (81,false)),true⟩,
 ⟨some 83,.bin .neq (.t 82) (.k (.c (.int .i64 3))),(some (81,false)),true⟩,
 ⟨some 84,.pick (.t 81) (.k (.c (.bool true))) (.t 83),none,true⟩,
 ⟨some 85,.mv (.t 84),none,true⟩,
 ⟨some 86,.mv (.t 6),(some (85,false)),true⟩,
 ⟨some 87,.mv (.t 0),(some (85,false)),true⟩,
 ⟨some 88,.call (.k (.fn 21 [])) [(.t 86),(.t 87)],(some (85,false)),true⟩,
 ⟨some 89,.un .not (.t 88),(some (85,false)),true⟩,
 ⟨some 90,.pick (.t 85) (.k (.c (.bool true))) (.t 89),none,true⟩,
 ⟨some 91,.mv (.t 90),none,true⟩,
 ⟨some 92,.mv (.t 8),(some (91,false)),true⟩,
 ⟨some 93,.mv (.t 3),(some (91,false)),true⟩,
 ⟨some 94,.prim (.sbin .neq) [(.t 92),(.t 93)],(some (91,false)),true⟩,
 ⟨some 95,.pick (.t 91) (.k (.c (.bool true))) (.t 94),none,true⟩,
 ⟨some 96,.mv (.t 95),none,true⟩,
 ⟨some 97,.mv (.t 10),(some (96,false)),true⟩,
 ⟨some 98,.len (.t 97),(some (96,false)),true⟩,
 ⟨some 99,.bin .gtr (.t 98) (.k (.c (.int .i64 0))),(some (96,false)),true⟩,
 ⟨some 100,.pick (.t 96) (.k (.c (.bool true))) (.t 99),none,true⟩,
 ⟨some 101,.mv (.t 100),none,true⟩,
 ⟨some 102,.mv (.t 12),(some (101,false)),true⟩,
 ⟨some 103,.bin .neq (.t 102) (.k (.c (.int .i64 0))),(some (101,false)),true⟩,
 ⟨some 104,.pick (.t 101) (.k (.c (.bool true))) (.t 103),none,true⟩]
abbrev o8_16:List Ins:=[⟨some 2,.mv (.k (.c (.bool false))),none,true⟩]
abbrev v8_17:VC:=(.seq (.ops o8_16) .ret)
abbrev v8_18:VC:=(.cond (.t 104) v8_17 .skip)
abbrev o8_19:List Ins:=[⟨some 105,.mv (.t 4),none,true⟩,
 ⟨some 106,.ia 1 (.t 105) (.k (.c (.int .i64 0))),none,true⟩,
 ⟨some 107,.ld true 1 (.t 106),none,true⟩,
 ⟨some 108,.prim .slen [(.t 107)],none,true⟩,
 ⟨some 109,.mks 3 1 8 [(.c (.int .i64 0))] (.t 108) (.t 108),none,true⟩,
 ⟨some 17,.mv (.t 109),none,true⟩]
abbrev o8_20:List Ins:=[⟨some 18,.mv (.k (.c (.int .i64 0))),none,true⟩]
abbrev o8_21:List Ins:=[⟨some 110,.mv (.t 18),none,true⟩,
 ⟨some 111,.mv (.t 4),none,true⟩,
 ⟨some 112,.len (.t 111),none,true⟩,
 ⟨some 113,.bin .lss (.t 110) (.t 112),none,true⟩]
abbrev v8_22:VC:=(.cond (.t 113) .skip (.exit 0))
abbrev o8_23:List Ins:=[⟨some 19,.mv (.k (.c (.int .i64 0))),none,true⟩]
abbrev o8_24:List Ins:=[⟨some 20,.mv (.k (.c (.int .i64 0))),none,true⟩]
abbrev o8_25:List Ins:=[⟨some 116,.mv (.t 20),none,true⟩,
 ⟨some 117,.mv (.t 4),none,true⟩,
 ⟨some 118,.mv (.t 18),none,true⟩,
 ⟨some 119,.ia 1 (.t 117) (.t 118),none,true⟩,
 ⟨some 120,.ld true 1 (.t 119),none,true⟩,
 ⟨some 121,.prim .slen [(.t 120)],none,true⟩,
 ⟨some 122,.bin .lss (.t 116) (.t 121),none,true⟩]
abbrev v8_26:VC:=(.cond (.t 122) .skip (.exit 2))
abbrev o8_27:List Ins:=[⟨some 126,.mv (.t 4),none,true⟩,
 ⟨some 127,.mv (.t 18),none,true⟩,
 ⟨some 128,.ia 1 (.t 126) (.t 127),none,true⟩,
 ⟨some 129,.ld true 1 (.t 128),none,true⟩,
 ⟨some 130,.mv (.t 20),none,true⟩,
 ⟨some 131,.prim .sidx [(.t 129),(.t 130)],none,true⟩,
 ⟨some 132,.call (.k (.fn 22 [])) [(.t 131)],none,true⟩,
 ⟨some 125,.mv (.t 132),none,true⟩,
 ⟨some 133,.ext (.t 125) 0,none,true⟩,
 ⟨some 134,.ext (.t 125) 1,none,true⟩,
 ⟨some 21,.mv (.t 133),none,true⟩,
 ⟨some 22,.mv (.t 134),none,true⟩]
abbrev o8_28:List Ins:=[⟨some 135,.mv (.t 22),none,true⟩,
 ⟨some 136,.un .not (.t 135),none,true⟩,
 ⟨some 137,.mv (.t 136),none,true⟩,
 ⟨some 138,.mv (.t 21),(some (137,false)),true⟩,
 ⟨some 139,.bin .lss (.t 138) (.k (.c (.int .i64 0))),(some (137,false)),true⟩,
 ⟨some 140,.pick (.t 137) (.k (.c (.bool true))) (.t 139),none,true⟩]
abbrev o8_29:List Ins:=[⟨some 2,.mv (.k (.c (.bool false))),none,true⟩]
abbrev v8_30:VC:=(.seq (.ops o8_29) .ret)
abbrev v8_31:VC:=(.cond (.t 140) v8_30 .skip)
abbrev o8_32:List Ins:=[⟨some 141,.mv (.t 17),none,false⟩,
 ⟨some 142,.mv (.t 20),none,false⟩,
 ⟨some 143,.mv (.t 19),none,false⟩,
 ⟨some 144,.mv (.t 21),none,false⟩,
 ⟨some 145,.bin .add (.t 143) (.t 144),none,false⟩,
 ⟨some 146,.mv (.t 17),none,false⟩,
 ⟨some 147,.mv (.t 20),none,false⟩,
 ⟨some 148,.ia 1 (.t 146) (.t 147),none,false⟩,
 ⟨some 149,.ld true 1 (.t 148),none,false⟩,
 ⟨some 150,.mv (.t 21),none,false⟩,
 ⟨some 151,.bin .add (.t 149) (.t 150),none,false⟩,
 ⟨some 19,.mv (.t 145),none,false⟩,
 ⟨some 152,.ia 1 (.t 141) (.t 142),none,true⟩,
 ⟨none,.st 1 (.t 152) (.t 151),none,true⟩]
abbrev v8_33:VC:=(.seq (.seq (.ops o8_28) v8_31) (.dops o8_32))
abbrev v8_34:VC:=(.seq (.ops o8_27) v8_33)
abbrev o8_35:List Ins:=[⟨some 123,.mv (.t 20),none,true⟩,
 ⟨some 124,.bin .add (.t 123) (.k (.c (.int .i64 1))),none,true⟩,
 ⟨some 20,.mv (.t 124),none,true⟩]
abbrev v8_36:VC:=(.seq (.block 3 v8_34) (.ops o8_35))
abbrev v8_37:VC:=(.seq (.seq (.ops o8_25) v8_26) v8_36)
-- K8_2: changed and kept: [20,19]
abbrev v8_38:VC:=(.loop v8_37)
abbrev v8_39:VC:=(.block 2 v8_38)
abbrev o8_40:List Ins:=[⟨some 153,.mv (.t 19),none,true⟩,
 ⟨some 154,.bin .rem (.t 153) (.k (.c (.int .i64 94))),none,true⟩,
 ⟨some 155,.bin .neq (.t 154) (.k (.c (.int .i64 0))),none,true⟩,
 ⟨some 156,.mv (.t 155),none,true⟩,
 ⟨some 157,.mv (.t 18),(some (156,false)),false⟩,
 ⟨some 158,.mv (.t 0),(some (156,false)),false⟩,
 ⟨some 159,.len (.t 158),(some (156,false)),false⟩,
 ⟨some 160,.bin .lss (.t 157) (.t 159),(some (156,false)),true⟩,
 ⟨some 161,.mv (.t 160),(some (156,false)),true⟩,
 ⟨some 162,.mv (.t 4),(some (161,true)),false⟩,
 ⟨some 163,.mv (.t 18),(some (161,true)),false⟩,
 ⟨some 164,.ia 1 (.t 162) (.t 163),(some (161,true)),false⟩,
 ⟨some 165,.ld true 1 (.t 164),(some (161,true)),false⟩,
 ⟨some 166,.prim .slen [(.t 165)],(some (161,true)),false⟩,
 ⟨some 167,.mv (.t 0),(some (161,true)),false⟩,
 ⟨some 168,.mv (.t 18),(some (161,true)),false⟩,
 ⟨some 169,.ia 1 (.t 167) (.t 168),(some (161,true)),false⟩,
 ⟨some 170,.ld true 1 (.t 169),(some (161,true)),false⟩,
 ⟨some 171,.prim .slen [(.t 170)],(some (161,true)),false⟩,
 ⟨some 172,.bin .add (.t 171) (.k (.c (.int .i64 2))),(some (161,true)),false⟩,
 ⟨some 173,.bin .lss (.t 166) (.t 172),(some (161,true)),true⟩,
 ⟨some 174,.mv (.t 173),(some (161,true)),true⟩,
 ⟨some 175,.mv (.t 4),(some (174,false)),false⟩,
 ⟨some 176,.mv (.t 18),(some (174,false)),false⟩,
 ⟨some 177,.ia 1 (.t 175) (.t 176),(some (174,false)),false⟩,
 ⟨some 178,.ld true 1 (.t 177),(some (174,false)),false⟩,
 ⟨some 179,.mv (.t 0),(some (174,false)),false⟩,
 ⟨some 180,.mv (.t 18),(some (174,false)),false⟩,
 ⟨some 181,.ia 1 (.t 179) (.t 180),(some (174,false)),false⟩,
 ⟨some 182,.ld true 1 (.t 181),(some (174,false)),false⟩,
 ⟨some 183,.prim .slen [(.t 182)],(some (174,false)),false⟩,
 ⟨some 184,.bin .add (.t 183) (.k (.c (.int .i64 1))),(some (174,false)),false⟩,
 ⟨some 185,.prim (.sslc false true) [(.t 178),(.t 184)],(some (174,false)),false⟩,
 ⟨some 186,.mv (.t 0),(some (174,false)),false⟩,
 ⟨some 187,.mv (.t 18),(some (174,false)),false⟩,
 ⟨some 188,.ia 1 (.t 186) (.t 187),(some (174,false)),false⟩,
 ⟨some 189,.ld true 1 (.t 188),(some (174,false)),false⟩,
 ⟨some 190,.prim (.sbin .add) [(.t 189),(.k (.c (.str [124])))],(some (174,false)),false⟩,
 ⟨some 191,.prim (.sbin .neq) [(.t 185),(.t 190)],(some (174,false)),true⟩,
 ⟨some 192,.pick (.t 174) (.k (.c (.bool true))) (.t 191),(some (161,true)),true⟩,
 ⟨some 193,.pick (.t 161) (.t 192) (.k (.c (.bool false))),(some (156,false)),true⟩,
 ⟨some 194,.pick (.t 156) (.k (.c (.bool true))) (.t 193),none,true⟩]
abbrev o8_41:List Ins:=[⟨some 2,.mv (.k (.c (.bool false))),none,true⟩]
abbrev v8_42:VC:=(.seq (.ops o8_41) .ret)
abbrev v8_43:VC:=(.cond (.t 194) v8_42 .skip)
abbrev v8_44:VC:=(.seq (.dops o8_40) v8_43)
abbrev v8_45:VC:=(.seq (.seq (.ops o8_24) v8_39) v8_44)
abbrev v8_46:VC:=(.seq (.ops o8_23) v8_45)
abbrev o8_47:List Ins:=[⟨some 114,.mv (.t 18),none,true⟩,
 ⟨some 115,.bin .add (.t 114) (.k (.c (.int .i64 1))),none,true⟩,
 ⟨some 18,.mv (.t 115),none,true⟩]
abbrev v8_48:VC:=(.seq (.block 1 v8_46) (.ops o8_47))
abbrev v8_49:VC:=(.seq (.seq (.ops o8_21) v8_22) v8_48)
-- K8_1: changed and kept: [18]
abbrev v8_50:VC:=(.loop v8_49)
abbrev v8_51:VC:=(.block 0 v8_50)
abbrev o8_52:List Ins:=[⟨some 23,.mv (.k (.c (.int .i64 0))),none,true⟩]
abbrev o8_53:List Ins:=[⟨some 195,.mv (.t 23),none,true⟩,
 ⟨some 196,.mv (.t 17),none,true⟩,
 ⟨some 197,.len (.t 196),none,true⟩,
 ⟨some 198,.bin .lss (.t 195) (.t 197),none,true⟩]
abbrev v8_54:VC:=(.cond (.t 198) .skip (.exit 4))
abbrev o8_55:List Ins:=[⟨some 201,.mv (.t 17),none,true⟩,
 ⟨some 202,.mv (.t 23),none,true⟩,
 ⟨some 203,.ia 1 (.t 201) (.t 202),none,true⟩,
 ⟨some 204,.ld true 1 (.t 203),none,true⟩,
 ⟨some 205,.bin .rem (.t 204) (.k (.c (.int .i64 94))),none,true⟩,
 ⟨some 206,.bin .neq (.t 205) (.k (.c (.int .i64 0))),none,true⟩]
abbrev o8_56:List Ins:=[⟨some 2,.mv (.k (.c (.bool false))),none,true⟩]
abbrev v8_57:VC:=(.seq (.ops o8_56) .ret)
abbrev v8_58:VC:=(.cond (.t 206) v8_57 .skip)
abbrev v8_59:VC:=(.seq (.ops o8_55) v8_58)
abbrev o8_60:List Ins:=[⟨some 199,.mv (.t 23),none,true⟩,
 ⟨some 200,.bin .add (.t 199) (.k (.c (.int .i64 1))),none,true⟩,
 ⟨some 23,.mv (.t 200),none,true⟩]
abbrev v8_61:VC:=(.seq (.block 5 v8_59) (.ops o8_60))
abbrev v8_62:VC:=(.seq (.seq (.ops o8_53) v8_54) v8_61)
-- K8_3: changed and kept: [23]
abbrev v8_63:VC:=(.loop v8_62)
abbrev v8_64:VC:=(.block 4 v8_63)
abbrev o8_65:List Ins:=[⟨some 207,.call (.k (.fn 16 [])) [],none,true⟩,
 ⟨some 2,.mv (.t 207),none,true⟩]
abbrev v8_66:VC:=(.seq (.ops o8_65) .ret)
abbrev v8_67:VC:=(.seq (.seq (.ops o8_52) v8_64) v8_66)
abbrev v8_68:VC:=(.seq (.seq (.ops o8_20) v8_51) v8_67)
abbrev v8_69:VC:=(.seq (.ops o8_19) v8_68)
abbrev v8_70:VC:=(.seq (.seq (.ops o8_15) v8_18) v8_69)
abbrev v8_71:VC:=(.seq (.ops o8_14) v8_70)
abbrev v8_72:VC:=(.seq (.ops o8_13) v8_71)
abbrev v8_73:VC:=(.seq (.ops o8_12) v8_72)
abbrev v8_74:VC:=(.seq (.ops o8_11) v8_73)
abbrev v8_75:VC:=(.seq (.ops o8_10) v8_74)
abbrev v8_76:VC:=(.seq (.seq (.ops o8_6) v8_9) v8_75)
abbrev v8_77:VC:=(.seq (.ops o8_5) v8_76)
abbrev v8_78:VC:=(.seq (.seq (.ops o8_1) v8_4) v8_77)
def ir8:FC:=⟨1,208,[.t 2],(.seq (.ops o8_0) v8_78)⟩
theorem c8:compM Tryd.prog [] 8 = some ir8:=by kernel_rfl
attribute [local go_sem] Nat.reduceEqDiff Nat.reduceAdd Nat.reduceMul reduceIte Nat.reduceLeDiff Nat.reduceLT Nat.reduceBEq reduceCtorEq
section
variable {ts:List (List UInt8)}
theorem left_none (h:BookOk ts):leftG (textG (bookB ts)) = ([],0):=by
 rw [lft_eq h.sok (bookB_len h)]
 refine Prod.ext ?_ rfl
 simp only
 unfold lftG
 rw [h.vals,rest_full h.right.nn]
 have hw:wid (gridR ts) = maxW ts + 1:=by unfold wid; exact h.right.gow.row 0 (Nat.succ_pos _)
 exact List.eq_nil_of_length_eq_zero (marks_iff.2 fun i k hi hk => h.right.full i k hi (by rwa [hw] at hk))
def colS (G:List (List Int)) (w i:Nat):List Int:=(List.range w).map fun c => sumR (fun r => valAt G (r,c)) i
theorem colS_len (G:List (List Int)) (w i:Nat):(colS G w i).length = w:=by simp [colS]
theorem colS_at {G:List (List Int)} {w i c:Nat} (h:c < w):(colS G w i).getD c 0 = sumR (fun r => valAt G (r,c)) i:=by
 unfold colS
 rw [List.getD_eq_getElem?_getD,List.getElem?_map,List.getElem?_range h]; rfl
def colT (G:List (List Int)) (w i k:Nat):List Int:=(List.range w).map fun c => if c < k then sumR (fun r => valAt G (r,c)) (i + 1) else sumR (fun r => valAt G (r,c)) i
theorem colT_zero (G:List (List Int)) (w i:Nat):colT G w i 0 = colS G w i:=by
 unfold colT colS
 exact List.map_congr_left fun c _ => by rw [if_neg (Nat.not_lt_zero c)]
theorem colT_end (G:List (List Int)) (w i:Nat):colT G w i w = colS G w (i + 1):=by
 unfold colT colS
 exact List.map_congr_left fun c hc => by rw [if_pos (List.mem_range.1 hc)]
theorem colT_len (G:List (List Int)) (w i k:Nat):(colT G w i k).length = w:=by simp [colT]
theorem colT_at {G:List (List Int)} {w i k c:Nat} (h:c < w):(colT G w i k).getD c 0 = if c < k then sumR (fun r => valAt G (r,c)) (i + 1) else sumR (fun r => valAt G (r,c)) i:=by
 unfold colT
 rw [List.getD_eq_getElem?_getD,List.getElem?_map,List.getElem?_range h]; rfl
theorem colT_succ {G:List (List Int)} {w i k:Nat} (h:k < w):(colT G w i k).set k ((colT G w i k).getD k 0 + valAt G (i,k)) = colT G w i (k + 1):=by
 have hl:=colT_len G w i k
 have hv:=colT_at (G:=G) (i:=i) (k:=k) h
 rw [if_neg (Nat.lt_irrefl k)] at hv
 rw [hv]
 generalize hX:(colT G w i k).set k (sumR (fun r => valAt G (r,k)) i + valAt G (i,k)) = X
 have hXl:X.length = w:=by rw [← hX,List.length_set,hl]
 apply List.ext_getElem
 ·rw [hXl,colT_len]
 ·intro c h1 h2
  have hc0:c < w:=by omega
  have e1:X[c] = X.getD c 0:=by rw [List.getD_eq_getElem?_getD,List.getElem?_eq_getElem h1]; rfl
  have e2:(colT G w i (k + 1))[c] = (colT G w i (k + 1)).getD c 0:=by
   rw [List.getD_eq_getElem?_getD,List.getElem?_eq_getElem h2]; rfl
  rw [e1,e2,← hX,setD _ _ _ _ (by rw [hl]; exact h),colT_at hc0,colT_at hc0]
  by_cases hc:c = k
  ·subst hc
   rw [if_pos rfl,if_pos (Nat.lt_succ_self c)]; rfl
  ·rw [if_neg hc]
   by_cases hck:c < k
   ·rw [if_pos hck,if_pos (by omega)]
   ·rw [if_neg hck,if_neg (by omega)]
theorem colS_zero (G:List (List Int)) (w:Nat):List.replicate w 0 = colS G w 0:=by
 unfold colS
 apply List.ext_getElem
 ·simp
 ·intro i h1 h2
  rw [List.getElem_replicate,List.getElem_map]; rfl
theorem book_take (h:BookOk ts) {i:Nat} (hi:i < ts.length):((bookB ts).getD i []).take (ts[i].length + 1) = ts[i] ++ [124]:=by
 obtain ⟨c,hc⟩:=book_row h hi
 rw [hc]
 unfold rowB
 rw [show (ts[i] ++ 124 :: List.replicate (maxW ts - (ts[i].length + 1)) 32) ++ [c] = (ts[i] ++ [124]) ++ (List.replicate (maxW ts - (ts[i].length + 1)) 32 ++ [c]) by simp]
 rw [List.take_append_of_le_length (by simp),List.take_of_length_le (by simp)]
theorem sumR_bnd {f:Nat → Int} {b:Int} (hb:0 ≤ b):∀ {k:Nat},(∀ i,i < k → 0 ≤ f i ∧ f i ≤ b) → 0 ≤ sumR f k ∧ sumR f k ≤ b * k
 | 0,_ => ⟨Int.le_refl _,by simp [sumR]⟩
 | k + 1,h => by
  obtain ⟨h1,h2⟩:=sumR_bnd hb (k:=k) fun i hi => h i (by omega)
  have h3:=h k (by omega)
  simp only [sumR]
  have:b * ((k + 1:Nat):Int) = b * k + b:=by rw [Int.natCast_add,Int.mul_add]; simp
  omega
end
set_option maxRecDepth 20000 in
set_option maxHeartbeats 16000000 in
theorem bookBack8 (ts:List (List UInt8)):FSpec Tryd.prog 8 [.c (strsV ts)] (bv true):=by
 have hmax:maxLen = 9223372036854775807:=rfl
 have hwk:=works16
 have hcan:=can14 ts
 refine FSpec_of c8 (Nat.le_refl _) (by decide) fun C hP hN hC hL => ?_; rw [init_st]
 simp only [ir8]
 (repeat ((first | refine Va ?_ | refine Vb ?_ | refine Vc ?_ | refine Vd ?_ | refine Ve ?_ | refine Vf ?_); (try simp only [go_sem,hP]); (repeat refine qJ ?_)))
 (refine AS_pu (hcan) ?_; simp only [go_sem,hP]; (repeat refine qJ ?_); (repeat ((first | refine Va ?_ | refine Vb ?_ | refine Vc ?_ | refine Vd ?_ | refine Ve ?_ | refine Vf ?_); (try simp only [go_sem,hP]); (repeat refine qJ ?_))))
 by_cases hc:canT ts = true
 case neg =>
  have hc:canT ts = false:=by simpa using hc
  rw [hc]
  (refine AG_skip ?_; simp only [go_sem,hP]; (repeat refine qJ ?_); (repeat ((first | refine Va ?_ | refine Vb ?_ | refine Vc ?_ | refine Vd ?_ | refine Ve ?_ | refine Vf ?_); (try simp only [go_sem,hP]); (repeat refine qJ ?_))))
  (refine WV_cond rfl (fun h => ?_) (fun h => ?_))
  ·(repeat ((first | refine Va ?_ | refine Vb ?_ | refine Vc ?_ | refine Vd ?_ | refine Ve ?_ | refine Vf ?_); (try simp only [go_sem,hP]); (repeat refine qJ ?_)))
   (refine AS_pu (hwk) ?_; simp only [go_sem,hP]; (repeat refine qJ ?_); (repeat ((first | refine Va ?_ | refine Vb ?_ | refine Vc ?_ | refine Vd ?_ | refine Ve ?_ | refine Vf ?_); (try simp only [go_sem,hP]); (repeat refine qJ ?_))))
   (refine WV_ret ?_; simp only [thenQ,inQ,RetQ,RetOk,resAll,resA]; simp only [go_sem,tupA,AV.port,AV.portL,exists_eq_left']; (first | exact AVle.of rfl | refine AVle.of ?_ | skip))
  ·simp at h
 obtain ⟨hl1,hl2⟩:=can_len hc
 have har:=aretexts15 ts fun s hs => by have:=hl2 s hs; omega
 rw [hc]
 (refine AG_pu (fun hG => har) ?_; simp only [go_sem,hP]; (repeat refine qJ ?_); (repeat ((first | refine Va ?_ | refine Vb ?_ | refine Vc ?_ | refine Vd ?_ | refine Ve ?_ | refine Vf ?_); (try simp only [go_sem,hP]); (repeat refine qJ ?_))))
 (refine WV_cond rfl (fun h => ?_) (fun h => ?_))
 ·(repeat ((first | refine Va ?_ | refine Vb ?_ | refine Vc ?_ | refine Vd ?_ | refine Ve ?_ | refine Vf ?_); (try simp only [go_sem,hP]); (repeat refine qJ ?_)))
  (refine AS_pu (hwk) ?_; simp only [go_sem,hP]; (repeat refine qJ ?_); (repeat ((first | refine Va ?_ | refine Vb ?_ | refine Vc ?_ | refine Vd ?_ | refine Ve ?_ | refine Vf ?_); (try simp only [go_sem,hP]); (repeat refine qJ ?_))))
  (refine WV_ret ?_; simp only [thenQ,inQ,RetQ,RetOk,resAll,resA]; simp only [go_sem,tupA,AV.port,AV.portL,exists_eq_left']; (first | exact AVle.of rfl | refine AVle.of ?_ | skip))
 have he:errT ts = 0:=by simpa using h
 clear h
 have hb:=book_of he
 have hgd:=good_book hb hc
 have hS:=hb.sok
 have hBl:=bookB_len hb
 have hwid:=hb.wid
 have hle:=hb.le
 have htl:=text_len hS
 have hBw:∀ k (hk:k < (bookB ts).length),((bookB ts)[k]).length = maxW ts + 1:=fun k hk => hS.row _ (List.getElem_mem hk)
 have hrs:restG (ts.length + 1) (maxW ts + 1) (valsG (bookB ts)) = gridR ts:=by rw [hb.vals,rest_full hb.right.nn]
 obtain ⟨hrd,hmd⟩:=read_book hb hS hBl hrs
 have h20:=read20 (textG (bookB ts)) (by omega)
 have h18:=mend18 (textG (bookB ts)) (by omega)
 have h30:=left30 (textG (bookB ts)) (by omega)
 have h31:=fewest31 (textG (bookB ts)) (by omega)
 have h23:=wrong23 (textG (bookB ts)) (by omega)
 have hsm:=strs_same ts (by omega)
 rw [hrd] at h20
 rw [hmd] at h18
 rw [left_none hb] at h30 h31
 rw [wrong_book hb] at h23
 have h31':FSpec Tryd.prog 31 [sv (textG (bookB ts))] (.tup [iv 0,iv 0]):=h31
 have h30':FSpec Tryd.prog 30 [sv (textG (bookB ts))] (.tup [.c (.sl 2 []),iv 0]):=h30
 clear h30 h31
 (refine WV_skip ?_; simp only [go_sem])
 refine WV_keep [0] ?_
 simp only [go_sem]
 (repeat ((first | refine Va ?_ | refine Vb ?_ | refine Vc ?_ | refine Vd ?_ | refine Ve ?_ | refine Vf ?_); (try simp only [go_sem,hP]); (repeat refine qJ ?_)))
 (refine AS_pu (hgd) ?_; simp only [go_sem,hP]; (repeat refine qJ ?_); (repeat ((first | refine Va ?_ | refine Vb ?_ | refine Vc ?_ | refine Vd ?_ | refine Ve ?_ | refine Vf ?_); (try simp only [go_sem,hP]); (repeat refine qJ ?_))))
 (refine WV_cond rfl (fun h => ?_) (fun h => ?_))
 ·simp at h
 (repeat ((first | refine Va ?_ | refine Vb ?_ | refine Vc ?_ | refine Vd ?_ | refine Ve ?_ | refine Vf ?_); (try simp only [go_sem,hP]); (repeat refine qJ ?_)))
 (refine AS_pu (h20) ?_; simp only [go_sem,hP]; (repeat refine qJ ?_); (repeat ((first | refine Va ?_ | refine Vb ?_ | refine Vc ?_ | refine Vd ?_ | refine Ve ?_ | refine Vf ?_); (try simp only [go_sem,hP]); (repeat refine qJ ?_))))
 (refine AS_pu (h18) ?_; simp only [go_sem,hP]; (repeat refine qJ ?_); (repeat ((first | refine Va ?_ | refine Vb ?_ | refine Vc ?_ | refine Vd ?_ | refine Ve ?_ | refine Vf ?_); (try simp only [go_sem,hP]); (repeat refine qJ ?_))))
 (refine AS_pu (h30') ?_; simp only [go_sem,hP]; (repeat refine qJ ?_); (repeat ((first | refine Va ?_ | refine Vb ?_ | refine Vc ?_ | refine Vd ?_ | refine Ve ?_ | refine Vf ?_); (try simp only [go_sem,hP]); (repeat refine qJ ?_))))
 (refine AS_pu (h31') ?_; simp only [go_sem,hP]; (repeat refine qJ ?_); (repeat ((first | refine Va ?_ | refine Vb ?_ | refine Vc ?_ | refine Vd ?_ | refine Ve ?_ | refine Vf ?_); (try simp only [go_sem,hP]); (repeat refine qJ ?_))))
 (refine AS_pu (h23) ?_; simp only [go_sem,hP]; (repeat refine qJ ?_); (repeat ((first | refine Va ?_ | refine Vb ?_ | refine Vc ?_ | refine Vd ?_ | refine Ve ?_ | refine Vf ?_); (try simp only [go_sem,hP]); (repeat refine qJ ?_))))
 (refine AG_pu (fun hG => hsm) ?_; simp only [go_sem,hP,beq_self_eq_true,bne_self_eq_false,Bool.not_true,Bool.or_false]; (repeat refine qJ ?_); (repeat ((first | refine Va ?_ | refine Vb ?_ | refine Vc ?_ | refine Vd ?_ | refine Ve ?_ | refine Vf ?_); (try simp only [go_sem,hP,beq_self_eq_true,bne_self_eq_false,Bool.not_true,Bool.or_false]); (repeat refine qJ ?_))))
 (refine WV_cond rfl (fun h => ?_) (fun h => ?_))
 ·simp at h
 have hN:=hb.right.nn
 have hval:=hb.right.gow.val
 have hrow:∀ i,i < ts.length + 1 → (sumR (fun c => valAt (gridR ts) (i,c)) (maxW ts + 1)) % 94 = 0:=fun i hi => by
  have:=(lack_tot (hN.ne (allP_mem.2 (.inl ⟨i,hi,rfl⟩)))).1 (hb.right.sum _ (allP_mem.2 (.inl ⟨i,hi,rfl⟩)))
  rwa [tot_row] at this
 have hcol:∀ c,c < maxW ts + 1 → (sumR (fun r => valAt (gridR ts) (r,c)) (ts.length + 1)) % 94 = 0:=fun c hc => by
  have:=(lack_tot (hN.ne (allP_mem.2 (.inr ⟨c,hc,rfl⟩)))).1 (hb.right.sum _ (allP_mem.2 (.inr ⟨c,hc,rfl⟩)))
  rwa [tot_col] at this
 have hbr:∀ i,i < ts.length + 1 → ∀ k,k ≤ maxW ts + 1 → 0 ≤ sumR (fun c => valAt (gridR ts) (i,c)) k ∧ sumR (fun c => valAt (gridR ts) (i,c)) k ≤ 94 * k:=fun i hi k hk => sumR_bnd (by decide) fun c hc => by
  have h1:=hN.nn i c hi (by omega)
  have h2:=hval i c hi (by omega)
  omega
 have hbc:∀ c,c < maxW ts + 1 → ∀ k,k ≤ ts.length + 1 → 0 ≤ sumR (fun r => valAt (gridR ts) (r,c)) k ∧ sumR (fun r => valAt (gridR ts) (r,c)) k ≤ 94 * k:=fun c hc k hk => sumR_bnd (by decide) fun r hr => by
  have h1:=hN.nn r c (by omega) hc
  have h2:=hval r c (by omega) hc
  omega
 have hby:∀ i k,i < ts.length + 1 → k < maxW ts + 1 → valR (byAt (bookB ts) (i,k)) = (valAt (gridR ts) (i,k),true):=fun i k hi hk => by
  have h1:=(hS.at (i:=i) (k:=k) (by rw [hBl]; exact hi) hk).2
  rw [hb.vals] at h1
  rw [vq_R h1.1,h1.2]
 have htk:=fun i (hi:i < ts.length) => book_take hb hi
 have hsw:=fun i (hi:i < ts.length) => (maxW_ge ts).2 _ (List.getElem_mem hi)
 have hz:=colS_zero (gridR ts) (maxW ts + 1)
 have hB0:0 < (bookB ts).length:=by omega
 have hgb:((bookB ts).map fun t => [CD.str t]).getD (Int.toNat 0) [] = [CD.str (bookB ts)[0]]:=map_getD hB0
 have hbw0:=hBw 0 hB0
 generalize (bookB ts)[0] = r0 at hgb hbw0
 generalize hG:gridR ts = G at *
 refine WV_skip ?_
 refine WV_keep [0,4] ?_
 simp only [go_sem,strsV]
 refine WV_seq_ ?_
 (refine WV_op ?_; simp only [go_sem,hP,hgb,hbw0,hB0,mks_zero',Int.toNat_natCast,List.length_map]; (repeat refine qJ ?_))
 rw [hz]
 clear hrs hz
 generalize hW:maxW ts + 1 = W at *
 generalize hn:ts.length + 1 = n at *
 have hn41:n ≤ 41:=by omega
 have hW32:W ≤ 32:=by omega
 clear hrd hmd h20 h18 h23 hsm h31' h30' hgd har hcan hL
 (repeat ((first | refine Va ?_ | refine Vb ?_ | refine Vc ?_ | refine Vd ?_ | refine Ve ?_ | refine Vf ?_); (try simp only [go_sem,hP]); (repeat refine qJ ?_)))
 refine WV_loopS (fun i:Nat => ⟨upd (upd (upd (upd e0 0 (.c (.sl 1 (ts.map fun t => [CD.str t])))) 4 (.c (.sl 1 ((bookB ts).map fun t => [CD.str t])))) 17 (.vw 1 109 0 W W)) 18 (iv i),upd o0 109 (.box (cellsG icds (colS G W i) 0))⟩) (fun i => i ≤ n) (fun i => n - i) 0 (Nat.zero_le _) ?_ ?_
 ·exact Sub_au
 intro i hi0
 (repeat ((first | refine Va ?_ | refine Vb ?_ | refine Vc ?_ | refine Vd ?_ | refine Ve ?_ | refine Vf ?_); (try simp only [go_sem,hP,List.length_map,hBl]); (repeat refine qJ ?_)))
 (refine WV_cond rfl (fun h => ?_) (fun h => ?_))
 ·have hi:i < n:=by simp at h; omega
  have hw2:=w64 (n:=(i:Int) + 1) (by omega) (by omega)
  have hib:i < (bookB ts).length:=by omega
  have hgr:((bookB ts).map fun t => [CD.str t]).getD i [] = [CD.str (bookB ts)[i]]:=map_getD hib
  have hbw:=hBw i hib
  have hbyi:=hby i
  have hrowe:(bookB ts).getD i [] = (bookB ts)[i]:=by rw [List.getD_eq_getElem?_getD,List.getElem?_eq_getElem hib]; rfl
  have hbyr:∀ k,byAt (bookB ts) (i,k) = ((bookB ts)[i]).getD k 0:=fun k => by unfold byAt; simp only [hrowe]
  have htki:=htk i
  rw [hrowe] at htki
  have hbri:=hbr i hi
  have hrowi:=hrow i hi
  generalize (bookB ts)[i] = r at hgr hbw hbyr htki
  (refine WV_skip ?_; simp only [go_sem])
  (repeat ((first | refine Va ?_ | refine Vb ?_ | refine Vc ?_ | refine Vd ?_ | refine Ve ?_ | refine Vf ?_); (try simp only [go_sem,hP]); (repeat refine qJ ?_)))
  refine WV_loopS (fun k:Nat => ⟨upd (upd (upd (upd (upd (upd e0 0 (.c (.sl 1 (ts.map fun t => [CD.str t])))) 4 (.c (.sl 1 ((bookB ts).map fun t => [CD.str t])))) 17 (.vw 1 109 0 W W)) 18 (iv i)) 19 (iv (sumR (fun c => valAt G (i,c)) k))) 20 (iv k),upd o0 109 (.box (cellsG icds (colT G W i k) 0))⟩) (fun k => k ≤ W) (fun k => W - k) 0 (Nat.zero_le _) ?_ ?_
  ·rw [colT_zero]
   (refine Sub_of (by simp only [go_sem]; ((repeat' (first | exact EnvLe_e0 _ _ | refine EnvLe_upd ?_ ?_)) <;> ((try simp only [upd_app,e0_app,o0_app,Nat.reduceEqDiff,reduceIte]); first | exact AWk.refl _ _ | exact AWk.int (by omega) | exact AWk.int (by rw [w64 (by omega) (by omega)]; omega) | exact AWk.grow rfl | exact AWk.nil _ | exact AWk.of (by simp [sumR])))) (by simp only [go_sem]; exact ObjLe_au))
  intro k hk0
  (repeat ((first | refine Va ?_ | refine Vb ?_ | refine Vc ?_ | refine Vd ?_ | refine Ve ?_ | refine Vf ?_); (try simp only [go_sem,hP,List.length_map,hgr,Int.toNat_natCast,Int.ofNat_lt,hib,Int.natCast_nonneg,hbw]); (repeat refine qJ ?_)))
  (refine WV_cond rfl (fun h => ?_) (fun h => ?_))
  ·have hk:k < W:=by simpa using h
   have hw3:=w64 (n:=(k:Int) + 1) (by omega) (by omega)
   have hkr:k < r.length:=by omega
   have hva:=value22 (byAt (bookB ts) (i,k))
   rw [hbyi k hi hk] at hva
   have hst:r.getD k 0 = byAt (bookB ts) (i,k):=(hbyr k).symm
   have hnn:=hN.nn i k hi hk
   have hv94:=(hval i k hi hk).2
   have hcs:=colT_succ (G:=G) (i:=i) hk
   have hca:=colT_at (G:=G) (i:=i) (k:=k) hk
   rw [if_neg (Nat.lt_irrefl k)] at hca
   rw [hca] at hcs
   have hcl:=colT_len G W i k
   have hbb:=hbc k hk i hi0
   have hrb:=hbri k hk0
   have hs1:sumR (fun c => valAt G (i,c)) (k + 1) = sumR (fun c => valAt G (i,c)) k + valAt G (i,k):=rfl
   generalize hS':sumR (fun c => valAt G (i,c)) (k + 1) = S' at hs1
   generalize sumR (fun c => valAt G (i,c)) k = S at hs1 hrb
   generalize valAt G (i,k) = v at *
   generalize sumR (fun r => valAt G (r,k)) i = Z at *
   generalize byAt (bookB ts) (i,k) = b at hva hst
   have hw4:=w64 (n:=S + v) (by omega) (by omega)
   have hw5:=w64 (n:=Z + v) (by omega) (by omega)
   have hge:=fun x => lcells_get (L:=colT G W i k) (k:=k) (by omega) x
   rw [hca] at hge
   have hse:=lcells_set (L:=colT G W i k) (k:=k) (by omega) (Z + v)
   rw [hcs] at hse
   have hll:k < (cellsG icds (colT G W i k) 0).length:=by rw [lcells_len,hcl]; exact hk
   (refine WV_skip ?_; simp only [go_sem])
   refine WV_seq_ (WV_block (WV_seq_ ?_))
   (refine WV_op ?_; simp only [go_sem,hP,hgr,hst,hkr,Int.toNat_natCast,Int.ofNat_lt,hib,Int.natCast_nonneg,List.length_map]; (repeat refine qJ ?_))
   refine AS_pu hva ?_
   simp only [go_sem]
   (repeat refine qJ ?_)
   (repeat ((first | refine Va ?_ | refine Vb ?_ | refine Vc ?_ | refine Vd ?_ | refine Ve ?_ | refine Vf ?_); (try simp only [go_sem,hP]); (repeat refine qJ ?_)))
   (refine WV_cond rfl (fun h => ?_) (fun h => ?_))
   ·simp at h; omega
   (repeat ((first | refine Va ?_ | refine Vb ?_ | refine Vc ?_ | refine Vd ?_ | refine Ve ?_ | refine Vf ?_); (try simp only [go_sem,hP,Int.toNat_natCast,Int.ofNat_lt,Int.natCast_nonneg,Nat.mul_one,Nat.zero_add,Nat.add_zero,hk,hll,hge,hse,hw4,hw5,hw3]); (repeat refine qJ ?_)))
   refine ⟨k + 1,by omega,by omega,?_⟩
   rw [hS',hs1]
   exact Sub_au
  ·have hk:k = W:=by simp at h; omega
   subst hk
   rw [colT_end]
   refine WV_exit ?_
   simp only [thenQ,inQ,reduceIte,beq_self_eq_true]
   have hrb:=hbri k (Nat.le_refl _)
   generalize sumR (fun c => valAt G (i,c)) k = S at hrowi hrb
   have htm:(S.tmod 94 != 0) = false:=by
    rw [Int.tmod_eq_emod_of_nonneg hrb.1,hrowi]; rfl
   refine WV_seq_ ?_
   by_cases hin:i < ts.length
   ·have hgt:(ts.map fun t => [CD.str t]).getD i [] = [CD.str ts[i]]:=map_getD hin
    have hsl:=hl2 _ (List.getElem_mem hin)
    have hswi:=hsw i hin
    have htk2:=htki hin
    generalize ts[i] = s at hgt hsl hswi htk2
    have hw5:=w64 (n:=(s.length:Int) + 2) (by omega) (by omega)
    have hw6:=w64 (n:=(s.length:Int) + 1) (by omega) (by omega)
    have hd1:decide ((k:Int) < (s.length:Int) + 2) = false:=by rw [decide_eq_false_iff_not]; omega
    have hn1:((s.length:Int) + 1).toNat = s.length + 1:=by omega
    have hin2:decide ((i:Int) < (ts.length:Int)) = true:=by rw [decide_eq_true_eq]; omega
    (refine WV_op ?_; simp only [go_sem,hP,htm,hgr,hgt,Int.toNat_natCast,Int.ofNat_lt,hib,hin,hin2,Int.natCast_nonneg,List.length_map,hbw,hw5,hw6,hd1,hn1,htk2,beq_self_eq_true,Bool.not_true,Bool.false_or,Bool.or_self,Bool.and_false]; (repeat refine qJ ?_))
    (refine WV_cond rfl (fun h => ?_) (fun h => ?_))
    ·simp at h
    ·(repeat ((first | refine Va ?_ | refine Vb ?_ | refine Vc ?_ | refine Vd ?_ | refine Ve ?_ | refine Vf ?_); (try simp only [go_sem,hP,hw2]); (repeat refine qJ ?_)))
     refine ⟨i + 1,by omega,by omega,?_⟩
     exact Sub_au
   ·have hin2:decide ((i:Int) < (ts.length:Int)) = false:=by rw [decide_eq_false_iff_not]; omega
    have hgt0:(ts.map fun t => [CD.str t]).getD i [] = []:=by rw [List.getD_eq_getElem?_getD,List.getElem?_eq_none (by rw [List.length_map]; omega)]; rfl
    have p0:([]:List CD).getD 0 default = .sl 1 []:=rfl
    have p1:Prim.ev .slen [.sl 1 []] = none:=rfl
    have p2:primD .slen = some (False,.c (.int .i64 0)):=rfl
    have p4:∀ s:List UInt8,Prim.ev (.sbin .add) [.sl 1 [],.str s] = none:=fun _ => rfl
    have p5:primD (.sbin .add) = some (False,.c (.str [])):=rfl
    (refine WV_op ?_; simp only [go_sem,hP,htm,hgr,hgt0,p0,p1,p2,p4,p5,Int.toNat_natCast,Int.ofNat_lt,hib,hin2,Int.natCast_nonneg,List.length_map,hbw]; (repeat refine qJ ?_))
    (refine WV_cond rfl (fun h => ?_) (fun h => ?_))
    ·simp at h; exact (hin h.1).elim
    ·(repeat ((first | refine Va ?_ | refine Vb ?_ | refine Vc ?_ | refine Vd ?_ | refine Ve ?_ | refine Vf ?_); (try simp only [go_sem,hP,hw2]); (repeat refine qJ ?_)))
     refine ⟨i + 1,by omega,by omega,?_⟩
     exact Sub_au
 ·have hi:i = n:=by simp at h; omega
  subst hi
  refine WV_exit ?_
  simp only [thenQ,inQ,reduceIte,beq_self_eq_true]
  have hcl:=colS_len G W i
  have hca:=fun c (h:c < W) => colS_at (G:=G) (w:=W) (i:=i) h
  generalize colS G W i = L at hcl hca
  (repeat ((first | refine Va ?_ | refine Vb ?_ | refine Vc ?_ | refine Vd ?_ | refine Ve ?_ | refine Vf ?_); (try simp only [go_sem,hP]); (repeat refine qJ ?_)))
  refine WV_loopS (fun c:Nat => ⟨upd (upd e0 17 (.vw 1 109 0 W W)) 23 (iv c),upd o0 109 (.box (cellsG icds L 0))⟩) (fun c => c ≤ W) (fun c => W - c) 0 (Nat.zero_le _) ?_ ?_
  ·exact Sub_au
  intro c hc0
  (repeat ((first | refine Va ?_ | refine Vb ?_ | refine Vc ?_ | refine Vd ?_ | refine Ve ?_ | refine Vf ?_); (try simp only [go_sem,hP]); (repeat refine qJ ?_)))
  (refine WV_cond rfl (fun h => ?_) (fun h => ?_))
  ·have hcw:c < W:=by simp at h; omega
   have hw2:=w64 (n:=(c:Int) + 1) (by omega) (by omega)
   have hge:=fun x => lcells_get (L:=L) (k:=c) (by omega) x
   rw [hca c hcw] at hge
   have hll:c < (cellsG icds L 0).length:=by rw [lcells_len,hcl]; exact hcw
   have hcc:=hcol c hcw
   have hbb:=hbc c hcw i (Nat.le_refl _)
   generalize sumR (fun r => valAt G (r,c)) i = S at hge hcc hbb
   have htm:(S.tmod 94 != 0) = false:=by
    rw [Int.tmod_eq_emod_of_nonneg hbb.1,hcc]; rfl
   (refine WV_skip ?_; simp only [go_sem])
   refine WV_seq_ (WV_block (WV_seq_ ?_))
   (refine WV_op ?_; simp only [go_sem,hP,Int.toNat_natCast,Int.ofNat_lt,Int.natCast_nonneg,Nat.mul_one,Nat.zero_add,Nat.add_zero,hcw,hll,hge,htm]; (repeat refine qJ ?_))
   (refine WV_cond rfl (fun h => ?_) (fun h => ?_))
   ·simp at h
   ·(repeat ((first | refine Va ?_ | refine Vb ?_ | refine Vc ?_ | refine Vd ?_ | refine Ve ?_ | refine Vf ?_); (try simp only [go_sem,hP,hw2]); (repeat refine qJ ?_)))
    refine ⟨c + 1,by omega,by omega,?_⟩
    exact Sub_au
  ·have hc:c = W:=by simp at h; omega
   subst hc
   (repeat ((first | refine Va ?_ | refine Vb ?_ | refine Vc ?_ | refine Vd ?_ | refine Ve ?_ | refine Vf ?_); (try simp only [go_sem,hP]); (repeat refine qJ ?_)))
   (refine AS_pu (hwk) ?_; simp only [go_sem,hP]; (repeat refine qJ ?_); (repeat ((first | refine Va ?_ | refine Vb ?_ | refine Vc ?_ | refine Vd ?_ | refine Ve ?_ | refine Vf ?_); (try simp only [go_sem,hP]); (repeat refine qJ ?_))))
   (refine WV_ret ?_; simp only [thenQ,inQ,RetQ,RetOk,resAll,resA]; simp only [go_sem,tupA,AV.port,AV.portL,exists_eq_left']; (first | exact AVle.of rfl | refine AVle.of ?_ | skip))
end Go.Proofs.YtlmfdmlochpfcaaDoor
