/-
  Contracts of the layer's functions, of the laws' helpers and of the law; conditions: as each theorem states.
-/
import Derived.Test.YtlmfdmlochpfcaaDoorU5
import Derived.Test.YtlmfdmlochpfcaaDoorU4
set_option linter.unusedVariables false
set_option linter.unusedSimpArgs false
namespace Go.Proofs.YtlmfdmlochpfcaaDoor
open Go Go.V
def Lost (n w:Nat) (g:List (List Int)) (p:Nat × Nat):Prop:=p.1 < n ∧ p.2 < w ∧ valAt g p = -1
def Clos (S:Nat × Nat → Prop):Prop:=∀ p,S p → (∃ q,S q ∧ q ≠ p ∧ q.1 = p.1) ∧ (∃ q,S q ∧ q ≠ p ∧ q.2 = p.2)
theorem posL_mem {n w i:Nat} {b:Bool} {p:Nat × Nat}:p ∈ posL n w i b ↔ if b then p.1 = i ∧ p.2 < w else p.2 = i ∧ p.1 < n:=by
 unfold posL
 cases b
 ·simp only [Bool.false_eq_true,if_false,List.mem_map,List.mem_range]
  constructor
  ·rintro ⟨k,hk,rfl⟩; exact ⟨rfl,hk⟩
  ·rintro ⟨rfl,h⟩; exact ⟨p.1,h,rfl⟩
 ·simp only [if_true,List.mem_map,List.mem_range]
  constructor
  ·rintro ⟨k,hk,rfl⟩; exact ⟨rfl,hk⟩
  ·rintro ⟨rfl,h⟩; exact ⟨p.2,h,rfl⟩
theorem posL_row_mem {n w i:Nat} {p:Nat × Nat}:p ∈ posL n w i true ↔ p.1 = i ∧ p.2 < w:=by rw [posL_mem]; simp
theorem posL_col_mem {n w i:Nat} {p:Nat × Nat}:p ∈ posL n w i false ↔ p.2 = i ∧ p.1 < n:=by rw [posL_mem]; simp
theorem allP_mem {n w:Nat} {l:List (Nat × Nat)}:l ∈ allP n w ↔ (∃ i,i < n ∧ l = posL n w i true) ∨ (∃ k,k < w ∧ l = posL n w k false):=by
 simp only [allP,List.mem_append,List.mem_map,List.mem_range]
 constructor
 ·rintro (⟨i,h,rfl⟩ | ⟨i,h,rfl⟩)
  ·exact .inl ⟨i,h,rfl⟩
  ·exact .inr ⟨i,h,rfl⟩
 ·rintro (⟨i,h,rfl⟩ | ⟨i,h,rfl⟩)
  ·exact .inl ⟨i,h,rfl⟩
  ·exact .inr ⟨i,h,rfl⟩
theorem lostL_mem {g:List (List Int)} {l:List (Nat × Nat)} {p:Nat × Nat}:p ∈ lostL g l ↔ p ∈ l ∧ valAt g p = -1:=by simp [lostL]
theorem posL_nodup (n w i:Nat) (b:Bool):(posL n w i b).Nodup:=by
 unfold posL
 cases b
 ·simp only [Bool.false_eq_true,if_false]
  exact List.pairwise_map.2 (List.nodup_range.imp fun h e => h (by simpa using e))
 ·simp only [if_true]
  exact List.pairwise_map.2 (List.nodup_range.imp fun h e => h (by simpa using e))
theorem allP_nodup {n w:Nat} {l:List (Nat × Nat)} (h:l ∈ allP n w):l.Nodup:=by
 rcases allP_mem.1 h with ⟨i,_,rfl⟩ | ⟨i,_,rfl⟩ <;> exact posL_nodup _ _ _ _
theorem step_clos {n w:Nat} {g g':List (List Int)} (h:GOw n w g) (hs:stepG n w g = some g') {S:Nat × Nat → Prop} (hc:Clos S) (hS:∀ p,S p → Lost n w g p):∀ p,S p → Lost n w g' p:=by
 obtain ⟨l,p,hl,_,hlo,hpl,hv,rfl,_,_⟩:=stepG_some h hs
 intro q hq
 obtain ⟨h1,h2,h3⟩:=hS q hq
 refine ⟨h1,h2,?_⟩
 rw [valAt_set]
 split
 ·rename_i he
  obtain ⟨rfl,_,_⟩:=he
  exfalso
  obtain ⟨⟨a,ha,hne,hr⟩,⟨b,hb,hne2,hr2⟩⟩:=hc p hq
  have key:∀ a,S a → a ∈ l → a = p:=fun a ha hal => by
   have:a ∈ lostL g l:=lostL_mem.2 ⟨hal,(hS a ha).2.2⟩
   rw [hlo] at this; simpa using this
  rcases allP_mem.1 hl with ⟨i,hi,rfl⟩ | ⟨k,hk,rfl⟩
  ·have:=posL_row_mem.1 hpl
   exact hne (key a ha (posL_row_mem.2 ⟨hr.trans this.1,(hS a ha).2.1⟩))
  ·have:=posL_col_mem.1 hpl
   exact hne2 (key b hb (posL_col_mem.2 ⟨hr2.trans this.1,(hS b hb).1⟩))
 ·exact h3
theorem two_lost {g:List (List Int)} {l:List (Nat × Nat)} (hnd:l.Nodup) {p:Nat × Nat} (hp:p ∈ l) (hv:valAt g p = -1) (h1:(lostL g l).length ≠ 1):∃ q,q ∈ l ∧ valAt g q = -1 ∧ q ≠ p:=by
 refine Classical.byContradiction fun hq => h1 ?_
 have hnd2:(lostL g l).Nodup:=hnd.filter _
 have hall:∀ q ∈ lostL g l,q = p:=fun q hq' => by
  obtain ⟨a,b⟩:=lostL_mem.1 hq'
  exact Classical.byContradiction fun hne => hq ⟨q,a,b,hne⟩
 have hmem:p ∈ lostL g l:=lostL_mem.2 ⟨hp,hv⟩
 generalize lostL g l = L at hnd2 hall hmem
 match L,hnd2,hall,hmem with
 | [a],_,_,_ => rfl
 | a :: b :: t,hnd2,hall,_ =>
  have h1:=hall a (by simp)
  have h2:=hall b (by simp)
  rw [h1,h2] at hnd2
  simp at hnd2
theorem end_clos {n w:Nat} {g:List (List Int)} (hs:stepG n w g = none):Clos (Lost n w g):=by
 have hn:∀ l ∈ allP n w,(lostL g l).length ≠ 1:=by
  unfold stepG at hs
  split at hs
  ·cases hs
  ·rename_i hf
   intro l hl h1
   have:=List.find?_eq_none.1 hf l hl
   simp [oneL,h1] at this
 rintro p ⟨h1,h2,h3⟩
 constructor
 ·obtain ⟨q,q1,q2,q3⟩:=two_lost (posL_nodup n w p.1 true) (posL_row_mem.2 ⟨rfl,h2⟩) h3 (hn _ (allP_mem.2 (.inl ⟨p.1,h1,rfl⟩)))
  have:=posL_row_mem.1 q1
  exact ⟨q,⟨by omega,this.2,q2⟩,q3,this.1⟩
 ·obtain ⟨q,q1,q2,q3⟩:=two_lost (posL_nodup n w p.2 false) (posL_col_mem.2 ⟨rfl,h1⟩) h3 (hn _ (allP_mem.2 (.inr ⟨p.2,h2,rfl⟩)))
  have:=posL_col_mem.1 q1
  exact ⟨q,⟨this.2,by omega,q2⟩,q3,this.1⟩
theorem restG_ind {n w:Nat} {M:List (List Int) → Prop} (hM:∀ g g',GOw n w g → M g → stepG n w g = some g' → M g'):∀ (k:Nat) (g:List (List Int)),nlost g = k → GOw n w g → M g → M (restG n w g) ∧ stepG n w (restG n w g) = none
 | 0,g,hk,h,hm => by
  cases hs:stepG n w g with
  | none => rw [restG_end hs]; exact ⟨hm,hs⟩
  | some g' => obtain ⟨_,_,_,_,_,_,_,_,_,hn⟩:=stepG_some h hs; omega
 | k + 1,g,hk,h,hm => by
  cases hs:stepG n w g with
  | none => rw [restG_end hs]; exact ⟨hm,hs⟩
  | some g' =>
   obtain ⟨_,_,_,_,_,_,_,_,hg,hn⟩:=stepG_some h hs
   rw [restG_step h hs]
   exact restG_ind hM k g' (by omega) hg (hM g g' h hm hs)
theorem restG_fin {n w:Nat} {g:List (List Int)} (h:GOw n w g):stepG n w (restG n w g) = none:=(restG_ind (M:=fun _ => True) (fun _ _ _ _ _ => trivial) _ g rfl h trivial).2
theorem step_less {n w:Nat} {g g':List (List Int)} (h:GOw n w g) (hs:stepG n w g = some g') {p:Nat × Nat} (hp:Lost n w g' p):Lost n w g p:=by
 obtain ⟨l,q,hl,_,hlo,hpl,hv,rfl,_,_⟩:=stepG_some h hs
 obtain ⟨h1,h2,h3⟩:=hp
 refine ⟨h1,h2,?_⟩
 rw [valAt_set] at h3
 split at h3
 ·have:=lack_rng g l; omega
 ·exact h3
theorem rest_core {n w:Nat} {g:List (List Int)} (h:GOw n w g) (p:Nat × Nat):Lost n w (restG n w g) p ↔ ∃ S,Clos S ∧ (∀ q,S q → Lost n w g q) ∧ S p:=by
 constructor
 ·intro hp
  refine ⟨Lost n w (restG n w g),end_clos (restG_fin h),?_,hp⟩
  exact (restG_ind (M:=fun g' => ∀ q,Lost n w g' q → Lost n w g q) (fun a b ha hm hs q hq => hm q (step_less ha hs hq)) _ g rfl h (fun _ h => h)).1
 ·rintro ⟨S,hc,hS,hp⟩
  exact (restG_ind (M:=fun g' => ∀ q,S q → Lost n w g' q) (fun a b ha hm hs => step_clos ha hs hc hm) _ g rfl h hS).1 p hp
structure Right (n w:Nat) (G:List (List Int)):Prop where
 gow:GOw n w G
 full:∀ i k,i < n → k < w → valAt G (i,k) ≠ -1
 sum:∀ l ∈ allP n w,lackL G l = 0
structure Part (n w:Nat) (G g:List (List Int)):Prop where
 gow:GOw n w g
 val:∀ i k,i < n → k < w → valAt g (i,k) = -1 ∨ valAt g (i,k) = valAt G (i,k)
theorem sumL_app (g:List (List Int)) (a b:List (Nat × Nat)):sumL g (a ++ b) = sumL g a + sumL g b:=by simp [sumL]
theorem sumL_cons (g:List (List Int)) (m:Nat × Nat) (b:List (Nat × Nat)):sumL g (m :: b) = (if valAt g m = -1 then 0 else valAt g m) + sumL g b:=by simp [sumL]
theorem sumL_congr {g G:List (List Int)} {l:List (Nat × Nat)} (h:∀ m ∈ l,valAt g m = valAt G m):sumL g l = sumL G l:=by
 unfold sumL
 congr 1
 exact List.map_congr_left fun m hm => by rw [h m hm]
theorem part_lack {n w:Nat} {G g:List (List Int)} (hG:Right n w G) (hp:Part n w G g) {l:List (Nat × Nat)} (hl:l ∈ allP n w) {p:Nat × Nat} (hlo:lostL g l = [p]):lackL g l = valAt G p:=by
 obtain ⟨A,q,B,e,hA,hB,hq,hlo2⟩:=lost_one (g:=g) (ps:=l) (by rw [hlo]; rfl)
 rw [hlo] at hlo2
 simp only [List.cons.injEq,and_true] at hlo2
 subst hlo2
 have hin:=allP_in hl
 have hin2:∀ m ∈ l,valAt g m ≠ -1 → valAt g m = valAt G m:=fun m hm hv => by
  obtain ⟨h1,h2⟩:=hin m hm
  rcases hp.val m.1 m.2 h1 h2 with h | h
  ·exact (hv h).elim
  ·exact h
 have hA2:sumL g A = sumL G A:=sumL_congr fun m hm => hin2 m (by rw [e]; simp [hm]) (hA m hm)
 have hB2:sumL g B = sumL G B:=sumL_congr fun m hm => hin2 m (by rw [e]; simp [hm]) (hB m hm)
 have hz:=hG.sum l hl
 have hpin:=hin p (by rw [e]; simp)
 have hf:=hG.full p.1 p.2 hpin.1 hpin.2
 have hv:=hG.gow.val p.1 p.2 hpin.1 hpin.2
 have hf':valAt G p ≠ -1:=hf
 have hv':-1 ≤ valAt G p ∧ valAt G p < 94:=hv
 unfold lackL at hz ⊢
 rw [e,sumL_app,sumL_cons] at hz ⊢
 rw [if_pos hq,hA2,hB2]
 rw [if_neg hf'] at hz
 omega
theorem part_step {n w:Nat} {G g g':List (List Int)} (hG:Right n w G) (hp:Part n w G g) (hs:stepG n w g = some g'):Part n w G g':=by
 obtain ⟨l,p,hl,_,hlo,hpl,hv,rfl,hg,_⟩:=stepG_some hp.gow hs
 refine ⟨hg,fun i k hi hk => ?_⟩
 rw [valAt_set]
 split
 ·rename_i he
  obtain ⟨rfl,_,_⟩:=he
  exact .inr (part_lack hG hp hl hlo)
 ·exact hp.val i k hi hk
theorem part_rest {n w:Nat} {G g:List (List Int)} (hG:Right n w G) (hp:Part n w G g):Part n w G (restG n w g) :=
 (restG_ind (M:=Part n w G) (fun _ _ _ hm hs => part_step hG hm hs) _ g rfl hp.gow hp).1
theorem grid_ext {n w:Nat} {g G:List (List Int)} (hg:GOw n w g) (hG:GOw n w G) (h:∀ i k,i < n → k < w → valAt g (i,k) = valAt G (i,k)):g = G:=by
 apply List.ext_getElem
 ·rw [hg.len,hG.len]
 ·intro i h1 h2
  have hi:i < n:=by rw [← hg.len]; exact h1
  have r1:=hg.row i hi
  have r2:=hG.row i hi
  have e1:g.getD i [] = g[i]:=by rw [List.getD_eq_getElem?_getD,List.getElem?_eq_getElem h1]; rfl
  have e2:G.getD i [] = G[i]:=by rw [List.getD_eq_getElem?_getD,List.getElem?_eq_getElem h2]; rfl
  rw [e1] at r1
  rw [e2] at r2
  apply List.ext_getElem
  ·rw [r1,r2]
  ·intro k h3 h4
   have:=h i k hi (by omega)
   unfold valAt at this
   simp only [e1,e2] at this
   rw [List.getD_eq_getElem?_getD,List.getElem?_eq_getElem h3,List.getD_eq_getElem?_getD,List.getElem?_eq_getElem h4] at this
   exact this
theorem rest_right {n w:Nat} {G g:List (List Int)} (hG:Right n w G) (hp:Part n w G g) (h0:∀ S,Clos S → (∀ q,S q → Lost n w g q) → ∀ p,¬ S p):restG n w g = G:=by
 have hr:=part_rest hG hp
 refine grid_ext hr.gow hG.gow fun i k hi hk => ?_
 rcases hr.val i k hi hk with h | h
 ·obtain ⟨S,hc,hS,hp'⟩:=(rest_core hp.gow (i,k)).1 ⟨hi,hk,h⟩
  exact (h0 S hc hS _ hp').elim
 ·exact h
theorem clos_cross {S:Nat × Nat → Prop} (hc:Clos S) (a c:Nat) (hS:∀ p,S p → p.1 = a ∨ p.2 = c):∀ p,¬ S p:=by
 have h1:∀ p,S p → p.1 = a:=fun p hp => by
  rcases hS p hp with h | h
  ·exact h
  ·obtain ⟨⟨q,hq,n1,e1⟩,_⟩:=hc p hp
   rcases hS q hq with h2 | h2
   ·rw [← e1]; exact h2
   ·exact (n1 (Prod.ext e1 (h2.trans h.symm))).elim
 intro p hp
 obtain ⟨_,⟨r,hr,n2,e2⟩⟩:=hc p hp
 exact n2 (Prod.ext ((h1 r hr).trans (h1 p hp).symm) e2)
end Go.Proofs.YtlmfdmlochpfcaaDoor

namespace Go.Proofs.YtlmfdmlochpfcaaDoor
open Go Go.V
end Go.Proofs.YtlmfdmlochpfcaaDoor

namespace Go.Proofs.YtlmfdmlochpfcaaDoor
open Go Go.V
end Go.Proofs.YtlmfdmlochpfcaaDoor

namespace Go.Proofs.YtlmfdmlochpfcaaDoor
open Go Go.V
def pt (x:Nat):Int:=if x < 41 then x else -1 - ((x - 41:Nat):Int)
end Go.Proofs.YtlmfdmlochpfcaaDoor

namespace Go.Proofs.YtlmfdmlochpfcaaDoor
open Go Go.V
theorem marks_mem {n:Nat} {g:List (List Int)} {p:Nat × Nat}:p ∈ marksG g n ↔ p.1 < n ∧ p.2 < wid g ∧ valAt g p = -1:=by
 unfold marksG
 rw [List.mem_flatMap]
 constructor
 ·rintro ⟨i,hi,hp⟩
  obtain ⟨h1,h2⟩:=lostL_mem.1 hp
  have h1:=posL_row_mem.1 h1
  exact ⟨by rw [h1.1]; exact List.mem_range.1 hi,h1.2,h2⟩
 ·rintro ⟨h1,h2,h3⟩
  exact ⟨p.1,List.mem_range.2 h1,lostL_mem.2 ⟨posL_row_mem.2 ⟨rfl,h2⟩,h3⟩⟩
theorem lostI_marks (g:List (List Int)) (w n:Nat) (hw:wid g = w):lostI g w n = marksG g n:=by
 subst hw; rfl
theorem lost_marks {n w:Nat} {g:List (List Int)} (hw:wid g = w) {p:Nat × Nat}:p ∈ marksG g n ↔ Lost n w g p:=by
 rw [marks_mem,hw]; exact Iff.rfl
end Go.Proofs.YtlmfdmlochpfcaaDoor

namespace Go.Proofs.YtlmfdmlochpfcaaDoor
open Go Go.V
end Go.Proofs.YtlmfdmlochpfcaaDoor

namespace Go.Proofs.YtlmfdmlochpfcaaDoor
open Go Go.V
def tot (g:List (List Int)) (l:List (Nat × Nat)):Int:=(l.map (valAt g)).sum
theorem sumL_tot {g:List (List Int)} {l:List (Nat × Nat)} (h:∀ m ∈ l,valAt g m ≠ -1):sumL g l = tot g l:=by
 unfold sumL tot
 congr 1
 exact List.map_congr_left fun m hm => by rw [if_neg (h m hm)]
theorem lack_tot {g:List (List Int)} {l:List (Nat × Nat)} (h:∀ m ∈ l,valAt g m ≠ -1):lackL g l = 0 ↔ tot g l % 94 = 0:=by
 unfold lackL
 rw [sumL_tot h]
 omega
theorem tot_congr {g G:List (List Int)} {l:List (Nat × Nat)} (h:∀ m ∈ l,valAt g m = valAt G m):tot g l = tot G l:=by
 unfold tot
 congr 1
 exact List.map_congr_left h
theorem tot_cons (g:List (List Int)) (m:Nat × Nat) (l:List (Nat × Nat)):tot g (m :: l) = valAt g m + tot g l:=by simp [tot]
theorem tot_not {g:List (List Int)} {p:Nat × Nat} {v:Int} {l:List (Nat × Nat)} (h:p ∉ l):tot (setG g p v) l = tot g l:=tot_congr fun m hm => by
 rw [valAt_set,if_neg]
 rintro ⟨rfl,_⟩
 exact h hm
theorem tot_set {n w:Nat} {g:List (List Int)} (hg:GOw n w g) {p:Nat × Nat} (h1:p.1 < n) (h2:p.2 < w) {v:Int}:∀ {l:List (Nat × Nat)},l.Nodup → p ∈ l → tot (setG g p v) l = tot g l - valAt g p + v
 | [],_,hm => by cases hm
 | m :: l,hn,hm => by
  rw [List.nodup_cons] at hn
  rw [tot_cons,tot_cons,valAt_set]
  by_cases he:p = m
  ·subst he
   rw [tot_not hn.1,if_pos ⟨rfl,by rw [hg.len]; exact h1,by rw [hg.row _ h1]; exact h2⟩]
   omega
  ·have hm2:p ∈ l:=by
    rcases List.mem_cons.1 hm with h | h
    ·exact (he h).elim
    ·exact h
   rw [tot_set hg h1 h2 hn.2 hm2,if_neg (fun h => he h.1)]
   omega
structure NN (n w:Nat) (g:List (List Int)):Prop where
 gow:GOw n w g
 nn:∀ i k,i < n → k < w → 0 ≤ valAt g (i,k)
theorem NN.set {n w:Nat} {g:List (List Int)} (h:NN n w g) (p:Nat × Nat) {v:Int} (hv:0 ≤ v ∧ v < 94):NN n w (setG g p v):=by
 refine ⟨setG_ok h.gow p (by omega),fun i k hi hk => ?_⟩
 rw [valAt_set]
 split
 ·exact hv.1
 ·exact h.nn i k hi hk
theorem NN.ne {n w:Nat} {g:List (List Int)} (h:NN n w g) {l:List (Nat × Nat)} (hl:l ∈ allP n w):∀ m ∈ l,valAt g m ≠ -1:=fun m hm => by
 obtain ⟨h1,h2⟩:=allP_in hl m hm
 have:=h.nn m.1 m.2 h1 h2
 have e:valAt g m = valAt g (m.1,m.2):=rfl
 omega
theorem NN.line {n w:Nat} {g:List (List Int)} (h:NN n w g) (h0:0 < n) (i:Nat) (b:Bool):lineP g i b = posL n w i b:=by
 rw [line_pos,h.gow.len]
 have:wid g = w:=by unfold wid; exact h.gow.row 0 h0
 rw [this]
theorem tot_lack {n w:Nat} {g:List (List Int)} (h:NN n w g) {l:List (Nat × Nat)} (hl:l ∈ allP n w) {p:Nat × Nat} (hp:p ∈ l) (hz:valAt g p = 0):tot (setG g p (lackL g l)) l % 94 = 0:=by
 obtain ⟨h1,h2⟩:=allP_in hl p hp
 rw [tot_set h.gow h1 h2 (allP_nodup hl) hp,hz]
 unfold lackL
 rw [sumL_tot (h.ne hl)]
 omega
def rowsF (w k:Nat) (g:List (List Int)):List (List Int):=(List.range k).foldl (fun g i => setG g (i,w) (lackL g (lineP g i true))) g
theorem rowsF_succ (w k:Nat) (g:List (List Int)):rowsF w (k + 1) g = setG (rowsF w k g) (k,w) (lackL (rowsF w k g) (lineP (rowsF w k g) k true)):=by
 unfold rowsF
 rw [List.range_succ,List.foldl_append]; rfl
def colsF (n k:Nat) (g:List (List Int)):List (List Int):=(List.range k).foldl (fun g c => setG g (n,c) (lackL g (lineP g c false))) g
theorem colsF_succ (n k:Nat) (g:List (List Int)):colsF n (k + 1) g = setG (colsF n k g) (n,k) (lackL (colsF n k g) (lineP (colsF n k g) k false)):=by
 unfold colsF
 rw [List.range_succ,List.foldl_append]; rfl
theorem rowsF_inv {N w:Nat} {g:List (List Int)} (h:NN N (w + 1) g) (hz:∀ i,i < N → valAt g (i,w) = 0) (h0:0 < N):∀ k,k ≤ N → NN N (w + 1) (rowsF w k g) ∧ (∀ i,i < k → tot (rowsF w k g) (posL N (w + 1) i true) % 94 = 0) ∧ ∀ i c,(k ≤ i ∨ c ≠ w) → valAt (rowsF w k g) (i,c) = valAt g (i,c)
 | 0,_ => ⟨h,fun i hi => by omega,fun _ _ _ => rfl⟩
 | k + 1,hk => by
  obtain ⟨h1,h2,h3⟩:=rowsF_inv h hz h0 k (by omega)
  rw [rowsF_succ,h1.line h0]
  have hl:posL N (w + 1) k true ∈ allP N (w + 1):=allP_mem.2 (.inl ⟨k,by omega,rfl⟩)
  refine ⟨h1.set _ (lack_rng _ _),fun i hi => ?_,fun i c hic => ?_⟩
  ·by_cases hik:i = k
   ·subst hik
    exact tot_lack h1 hl (posL_row_mem.2 ⟨rfl,Nat.lt_succ_self w⟩) (by rw [h3 _ _ (.inl (Nat.le_refl _))]; exact hz _ (by omega))
   ·rw [tot_not]
    ·exact h2 i (by omega)
    ·intro hm
     have:=(posL_row_mem.1 hm).1
     simp only at this
     omega
  ·rw [valAt_set,if_neg,h3 i c (by omega)]
   rintro ⟨he,_⟩
   obtain ⟨rfl,rfl⟩:=Prod.mk.inj he
   omega
theorem colsF_inv {n W:Nat} {g:List (List Int)} (h:NN (n + 1) W g) (hz:∀ c,c < W → valAt g (n,c) = 0):∀ k,k ≤ W → NN (n + 1) W (colsF n k g) ∧ (∀ c,c < k → tot (colsF n k g) (posL (n + 1) W c false) % 94 = 0) ∧ ∀ i c,(i ≠ n ∨ k ≤ c) → valAt (colsF n k g) (i,c) = valAt g (i,c)
 | 0,_ => ⟨h,fun i hi => by omega,fun _ _ _ => rfl⟩
 | k + 1,hk => by
  obtain ⟨h1,h2,h3⟩:=colsF_inv h hz k (by omega)
  rw [colsF_succ,h1.line (Nat.succ_pos n)]
  have hl:posL (n + 1) W k false ∈ allP (n + 1) W:=allP_mem.2 (.inr ⟨k,by omega,rfl⟩)
  refine ⟨h1.set _ (lack_rng _ _),fun c hc => ?_,fun i c hic => ?_⟩
  ·by_cases hik:c = k
   ·subst hik
    exact tot_lack h1 hl (posL_col_mem.2 ⟨rfl,Nat.lt_succ_self n⟩) (by rw [h3 _ _ (.inr (Nat.le_refl _))]; exact hz _ (by omega))
   ·rw [tot_not]
    ·exact h2 c (by omega)
    ·intro hm
     have:=(posL_col_mem.1 hm).1
     simp only at this
     omega
  ·rw [valAt_set,if_neg,h3 i c (by omega)]
   rintro ⟨he,_⟩
   obtain ⟨rfl,rfl⟩:=Prod.mk.inj he
   omega
def sumR (f:Nat → Int):Nat → Int
 | 0 => 0
 | k + 1 => sumR f k + f k
theorem sumR_zero (k:Nat):sumR (fun _ => 0) k = 0:=by
 induction k with
 | zero => rfl
 | succ k ih => simp [sumR,ih]
theorem sumR_add (f h:Nat → Int) (k:Nat):sumR (fun c => f c + h c) k = sumR f k + sumR h k:=by
 induction k with
 | zero => rfl
 | succ k ih => simp only [sumR,ih]; omega
theorem sumR_swap (f:Nat → Nat → Int) (w:Nat):∀ n,sumR (fun i => sumR (f i) w) n = sumR (fun c => sumR (fun i => f i c) n) w
 | 0 => by simp only [sumR]; exact (sumR_zero w).symm
 | n + 1 => by
  simp only [sumR]
  rw [sumR_swap f w n,← sumR_add]
theorem sumR_mod {f:Nat → Int}:∀ {k:Nat},(∀ i,i < k → f i % 94 = 0) → sumR f k % 94 = 0
 | 0,_ => rfl
 | k + 1,h => by
  have h1:=sumR_mod (k:=k) fun i hi => h i (by omega)
  have h2:=h k (by omega)
  simp only [sumR]
  omega
theorem sumR_range (f:Nat → Int) (k:Nat):((List.range k).map f).sum = sumR f k:=by
 induction k with
 | zero => rfl
 | succ k ih => rw [List.range_succ,List.map_append,List.sum_append,ih]; simp [sumR]
theorem tot_row (g:List (List Int)) (n w i:Nat):tot g (posL n w i true) = sumR (fun c => valAt g (i,c)) w:=by
 unfold tot posL
 rw [if_pos rfl,List.map_map,← sumR_range]; rfl
theorem tot_col (g:List (List Int)) (n w c:Nat):tot g (posL n w c false) = sumR (fun i => valAt g (i,c)) n:=by
 unfold tot posL
 rw [if_neg (by decide),List.map_map,← sumR_range]; rfl
theorem fill_right {n w:Nat} {g:List (List Int)} (h:NN (n + 1) (w + 1) g) (hz:∀ i,i < n + 1 → valAt g (i,w) = 0) (hl:∀ c,c < w + 1 → valAt g (n,c) = 0) :
  Right (n + 1) (w + 1) (colsF n (w + 1) (rowsF w n g)) ∧ ∀ i c,i < n → c < w → valAt (colsF n (w + 1) (rowsF w n g)) (i,c) = valAt g (i,c):=by
 obtain ⟨a1,a2,a3⟩:=rowsF_inv h hz (Nat.succ_pos n) n (by omega)
 obtain ⟨b1,b2,b3⟩:=colsF_inv a1 (fun c hc => by rw [a3 n c (.inl (Nat.le_refl _))]; exact hl c hc) (w + 1) (Nat.le_refl _)
 refine ⟨⟨b1.gow,fun i k hi hk => by have:=b1.nn i k hi hk; omega,fun l hm => ?_⟩,fun i c hi hc => by rw [b3 i c (.inl (by omega)),a3 i c (.inr (by omega))]⟩
 rw [lack_tot (b1.ne hm)]
 have hrow:∀ i,i < n → tot (colsF n (w + 1) (rowsF w n g)) (posL (n + 1) (w + 1) i true) % 94 = 0:=fun i hi => by
  rw [← a2 i hi]
  congr 1
  exact tot_congr fun m hm => by
   have:=(posL_row_mem.1 hm).1
   have e:=b3 m.1 m.2 (.inl (by omega))
   exact e
 rcases allP_mem.1 hm with ⟨i,hi,rfl⟩ | ⟨c,hc,rfl⟩
 ·by_cases hin:i = n
  ·subst hin
   have hsw:=sumR_swap (fun i' c => valAt (colsF i (w + 1) (rowsF w i g)) (i',c)) (w + 1) (i + 1)
   have hr:=sumR_mod (f:=fun c => sumR (fun i' => valAt (colsF i (w + 1) (rowsF w i g)) (i',c)) (i + 1)) (k:=w + 1) fun c hc => by
    have:=b2 c hc
    rwa [tot_col] at this
   rw [← hsw] at hr
   have hr2:=sumR_mod (f:=fun i' => sumR (fun c => valAt (colsF i (w + 1) (rowsF w i g)) (i',c)) (w + 1)) (k:=i) fun i' hi' => by
    have:=hrow i' hi'
    rwa [tot_row] at this
   rw [tot_row]
   simp only [sumR] at hr
   simp only [sumR] at hr2 ⊢
   omega
  ·exact hrow i (by omega)
 ·exact b2 c hc
def rowZ (w:Nat) (s:List UInt8):List Int:=(rowB w s).map vq ++ [0]
def grid0 (ts:List (List UInt8)):List (List Int):=ts.map (rowZ (maxW ts)) ++ [List.replicate (maxW ts + 1) 0]
def gridR (ts:List (List UInt8)):List (List Int):=colsF ts.length (maxW ts + 1) (rowsF (maxW ts) ts.length (grid0 ts))
theorem getD_snoc {α β:Type} (f:α → β) (l:List α) (b d:β) (i:Nat):(l.map f ++ [b]).getD i d = if h:i < l.length then f l[i] else if i = l.length then b else d:=by
 rw [List.getD_eq_getElem?_getD]
 by_cases h:i < l.length
 ·rw [dif_pos h,List.getElem?_append_left (by simpa using h),List.getElem?_map,List.getElem?_eq_getElem h]; rfl
 ·rw [dif_neg h,List.getElem?_append_right (by simp; omega)]
  by_cases h2:i = l.length
  ·rw [if_pos h2,h2]; simp
  ·rw [if_neg h2,List.getElem?_eq_none (by simp; omega)]; rfl
theorem rowB_len {w:Nat} {s:List UInt8} (h:s.length + 1 ≤ w):(rowB w s).length = w:=by simp [rowB]; omega
theorem valB_vq {b:UInt8} (h:0 ≤ valB b):vq b = valB b:=by
 unfold vq
 split
 ·rename_i h63
  have:b = 63:=UInt8.toNat_inj.1 h63
  subst this
  exact absurd h (by decide)
 ·rfl
theorem rowB_nn {w:Nat} {s:List UInt8} (h:isTx s = true):∀ b ∈ rowB w s,0 ≤ vq b ∧ vq b < 94:=by
 intro b hb
 have hok:BOk b:=rowW_ok (w:=w) h b (by unfold rowW; simp [hb])
 refine ⟨?_,(vq_rng hok).2⟩
 unfold rowB at hb
 simp only [List.mem_append,List.mem_cons,List.mem_replicate] at hb
 rcases hb with hb | rfl | ⟨_,rfl⟩
 ·unfold isTx at h
  simp only [Bool.and_eq_true] at h
  have:=List.all_eq_true.1 h.1 b hb
  simp only [decide_eq_true_eq] at this
  rw [valB_vq this]; exact this
 ·decide
 ·decide
theorem grid0_row {ts:List (List UInt8)} {i:Nat}:(grid0 ts).getD i [] = if h:i < ts.length then rowZ (maxW ts) ts[i] else if i = ts.length then List.replicate (maxW ts + 1) 0 else []:=getD_snoc _ _ _ _ _
theorem rowsV_row {ts:List (List UInt8)} {i:Nat}:(valsG (rowsW ts)).getD i [] = if h:i < ts.length then (rowB (maxW ts) ts[i]).map vq ++ [-1] else if i = ts.length then List.replicate (maxW ts + 1) (-1) else []:=by
 have e:valsG (rowsW ts) = ts.map (fun s => (rowB (maxW ts) s).map vq ++ [-1]) ++ [List.replicate (maxW ts + 1) (-1)]:=by
  unfold valsG rowsW
  rw [List.map_append,List.map_map]
  congr 1
  ·refine List.map_congr_left fun s _ => ?_
   simp only [Function.comp,rowW,List.map_append,List.map_cons,List.map_nil]
   rfl
  ·simp only [List.map_cons,List.map_nil,List.map_replicate]
   rfl
 rw [e]
 exact getD_snoc _ _ _ _ _
theorem tail_get (l:List Int) (x:Int) (k:Nat):(l ++ [x]).getD k 0 = if k < l.length then l.getD k 0 else if k = l.length then x else 0:=by
 rw [List.getD_eq_getElem?_getD]
 by_cases h:k < l.length
 ·rw [if_pos h,List.getElem?_append_left h,List.getD_eq_getElem?_getD]
 ·rw [if_neg h,List.getElem?_append_right (by omega)]
  by_cases h2:k = l.length
  ·rw [if_pos h2,h2]; simp
  ·rw [if_neg h2,List.getElem?_eq_none (by simp; omega)]; rfl
theorem rep_get (n k:Nat) (x:Int) (h:k < n):(List.replicate n x).getD k 0 = x:=by
 rw [List.getD_eq_getElem?_getD,List.getElem?_replicate,if_pos h]; rfl
theorem grid0_nn {ts:List (List UInt8)} (h:ts.all isTx = true):NN (ts.length + 1) (maxW ts + 1) (grid0 ts):=by
 have hw:=(maxW_ge ts).2
 have hv:∀ i k,i < ts.length + 1 → k < maxW ts + 1 → 0 ≤ valAt (grid0 ts) (i,k) ∧ valAt (grid0 ts) (i,k) < 94:=by
  intro i k hi hk
  unfold valAt
  simp only [grid0_row]
  by_cases hin:i < ts.length
  ·rw [dif_pos hin]
   unfold rowZ
   rw [tail_get]
   have hl:=rowB_len (hw _ (List.getElem_mem hin))
   by_cases hkw:k < maxW ts
   ·rw [if_pos (by rw [List.length_map,hl]; exact hkw),map_getD (by rw [hl]; exact hkw)]
    exact rowB_nn (List.all_eq_true.1 h _ (List.getElem_mem hin)) _ (List.getElem_mem _)
   ·rw [if_neg (by rw [List.length_map,hl]; exact hkw)]
    split <;> omega
  ·rw [dif_neg hin,if_pos (by omega),rep_get _ _ _ hk]; omega
 refine ⟨⟨by simp [grid0],fun i hi => ?_,fun i k hi hk => by have:=hv i k hi hk; omega⟩,fun i k hi hk => (hv i k hi hk).1⟩
 rw [grid0_row]
 by_cases hin:i < ts.length
 ·rw [dif_pos hin]
  unfold rowZ
  rw [List.length_append,List.length_map,rowB_len (hw _ (List.getElem_mem hin))]; rfl
 ·rw [dif_neg hin,if_pos (by omega)]; simp
theorem grid0_zero {ts:List (List UInt8)}:(∀ i,i < ts.length + 1 → valAt (grid0 ts) (i,maxW ts) = 0) ∧ ∀ c,c < maxW ts + 1 → valAt (grid0 ts) (ts.length,c) = 0:=by
 have hw:=(maxW_ge ts).2
 constructor
 ·intro i hi
  unfold valAt
  simp only [grid0_row]
  by_cases hin:i < ts.length
  ·rw [dif_pos hin]
   unfold rowZ
   rw [tail_get,List.length_map,rowB_len (hw _ (List.getElem_mem hin)),if_neg (by omega),if_pos rfl]
  ·rw [dif_neg hin,if_pos (by omega),rep_get _ _ _ (by omega)]
 ·intro c hc
  unfold valAt
  simp only [grid0_row]
  rw [dif_neg (by omega),if_pos (by simp),rep_get _ _ _ hc]
theorem rowsV_at {ts:List (List UInt8)} {i c:Nat} (hi:i < ts.length + 1) (hc:c < maxW ts + 1):valAt (valsG (rowsW ts)) (i,c) = if i < ts.length ∧ c < maxW ts then valAt (grid0 ts) (i,c) else -1:=by
 have hw:=(maxW_ge ts).2
 unfold valAt
 simp only [grid0_row,rowsV_row]
 by_cases hin:i < ts.length
 ·rw [dif_pos hin,dif_pos hin]
  unfold rowZ
  rw [tail_get,tail_get,List.length_map,rowB_len (hw _ (List.getElem_mem hin))]
  by_cases hcw:c < maxW ts
  ·rw [if_pos hcw,if_pos hcw,if_pos ⟨hin,hcw⟩]
  ·rw [if_neg hcw,if_pos (by omega),if_neg (fun h => hcw h.2)]
 ·rw [dif_neg hin,dif_neg hin,if_pos (by omega),if_neg (fun h => hin h.1),rep_get _ _ _ hc]
theorem gridR_right {ts:List (List UInt8)} (h:ts.all isTx = true):Right (ts.length + 1) (maxW ts + 1) (gridR ts) ∧ ∀ i c,i < ts.length → c < maxW ts → valAt (gridR ts) (i,c) = valAt (grid0 ts) (i,c):=by
 obtain ⟨z1,z2⟩:=grid0_zero (ts:=ts)
 exact fill_right (grid0_nn h) z1 z2
theorem rowsV_rest {ts:List (List UInt8)} (h:ts.all isTx = true) (h40:¬ 40 < ts.length):restG (ts.length + 1) (maxW ts + 1) (valsG (rowsW ts)) = gridR ts:=by
 obtain ⟨hr,hv⟩:=gridR_right h
 have hgo:=vals_gow (rowsW_sok h h40)
 rw [rowsW_len] at hgo
 refine rest_right hr ⟨hgo,fun i c hi hc => ?_⟩ fun S hS hL => clos_cross hS ts.length (maxW ts) fun p hp => ?_
 ·rw [rowsV_at hi hc]
  split
  ·rename_i hh
   exact .inr (hv i c hh.1 hh.2).symm
  ·exact .inl rfl
 ·obtain ⟨h1,h2,h3⟩:=hL p hp
  have e:valAt (valsG (rowsW ts)) (p.1,p.2) = -1:=h3
  rw [rowsV_at h1 h2] at e
  by_cases hh:p.1 < ts.length ∧ p.2 < maxW ts
  ·exfalso
   rw [if_pos hh] at e
   have:=(grid0_nn h).nn p.1 p.2 h1 h2
   omega
  ·omega
def writeR (ts:List (List UInt8)):List UInt8 × Int :=
 if 40 < ts.length then ([],2) else if ts.all isTx then (textG (bytesG (gridR ts)),0) else ([],1)
theorem write_eq (ts:List (List UInt8)):writeG ts = writeR ts:=by
 unfold writeG writeR
 split
 ·rfl
 ·rename_i h40
  split
  ·rename_i h
   rw [rowsV_rest h h40]
  ·rfl
end Go.Proofs.YtlmfdmlochpfcaaDoor

namespace Go.Proofs.YtlmfdmlochpfcaaDoor
open Go Go.V
def byAt (g:List (List UInt8)) (p:Nat × Nat):UInt8:=(g.getD p.1 []).getD p.2 0
def upRow (f:Nat → UInt8) (i:Nat) (ms:List (Int × Int)) (row:List UInt8):List UInt8:=ms.foldl (fun r m => if m.1 = (i:Int) ∧ 0 ≤ m.2 ∧ m.2 < (r.length:Int) then r.set m.2.toNat (f m.2.toNat) else r) row
theorem upRow_snoc (f:Nat → UInt8) (i:Nat) (ms:List (Int × Int)) (m:Int × Int) (row:List UInt8):upRow f i (ms ++ [m]) row = if m.1 = (i:Int) ∧ 0 ≤ m.2 ∧ m.2 < ((upRow f i ms row).length:Int) then (upRow f i ms row).set m.2.toNat (f m.2.toNat) else upRow f i ms row:=by
 unfold upRow; rw [List.foldl_append]; rfl
theorem upRow_len (f:Nat → UInt8) (i:Nat) (ms:List (Int × Int)):∀ (row:List UInt8),(upRow f i ms row).length = row.length:=by
 induction ms with
 | nil => intro row; rfl
 | cons m ms ih =>
  intro row
  show (upRow f i ms (if m.1 = (i:Int) ∧ 0 ≤ m.2 ∧ m.2 < (row.length:Int) then row.set m.2.toNat (f m.2.toNat) else row)).length = _
  rw [ih]
  split
  ·rw [List.length_set]
  ·rfl
theorem setB (l:List UInt8) (i:Nat) (v:UInt8) (k:Nat) (hi:i < l.length):(l.set i v).getD k 0 = if k = i then v else l.getD k 0:=by
 rw [List.getD_eq_getElem?_getD,List.getElem?_set]
 by_cases h:i = k
 ·subst h; rw [if_pos rfl,if_pos hi,if_pos rfl]; rfl
 ·rw [if_neg h,if_neg (fun e => h e.symm),List.getD_eq_getElem?_getD]
theorem upRow_at (f:Nat → UInt8) (i:Nat) (ms:List (Int × Int)) {k:Nat}:∀ (row:List UInt8),k < row.length → (((i:Int),(k:Int)) ∈ ms → (upRow f i ms row).getD k 0 = f k) ∧ (((i:Int),(k:Int)) ∉ ms → (upRow f i ms row).getD k 0 = row.getD k 0):=by
 induction ms with
 | nil => intro row hk; exact ⟨fun h => (by cases h),fun _ => rfl⟩
 | cons m ms ih =>
  intro row hk
  have e:upRow f i (m :: ms) row = upRow f i ms (if m.1 = (i:Int) ∧ 0 ≤ m.2 ∧ m.2 < (row.length:Int) then row.set m.2.toNat (f m.2.toNat) else row):=rfl
  rw [e]
  have hl:k < (if m.1 = (i:Int) ∧ 0 ≤ m.2 ∧ m.2 < (row.length:Int) then row.set m.2.toNat (f m.2.toNat) else row).length:=by
   split
   ·rw [List.length_set]; exact hk
   ·exact hk
  obtain ⟨i1,i2⟩:=ih _ hl
  constructor
  ·intro hm
   by_cases hw:((i:Int),(k:Int)) ∈ ms
   ·exact i1 hw
   ·have hme:m = ((i:Int),(k:Int)):=((List.mem_cons.1 hm).resolve_right hw).symm
    rw [i2 hw,hme,if_pos ⟨rfl,Int.natCast_nonneg _,by simp only; omega⟩]
    rw [setB _ _ _ _ (by simp only; omega)]
    simp
  ·intro hm
   have hw:((i:Int),(k:Int)) ∉ ms:=fun h => hm (List.mem_cons_of_mem _ h)
   rw [i2 hw]
   split
   ·rename_i hc
    obtain ⟨c1,c2,c3⟩:=hc
    rw [setB _ _ _ _ (by omega),if_neg]
    intro hk2
    refine hm (List.mem_cons.2 (.inl (Prod.ext c1.symm ?_)))
    simp only; omega
   ·rfl
def upR (f:Nat → Nat → UInt8) (rows:List (List UInt8)) (ms:List (Int × Int)):List (List UInt8):=(List.range rows.length).map fun i => upRow (f i) i ms (rows.getD i [])
theorem upR_len (f:Nat → Nat → UInt8) (rows:List (List UInt8)) (ms:List (Int × Int)):(upR f rows ms).length = rows.length:=by simp [upR]
theorem upR_get {f:Nat → Nat → UInt8} {rows:List (List UInt8)} {ms:List (Int × Int)} {i:Nat} (h:i < rows.length):(upR f rows ms).getD i [] = upRow (f i) i ms (rows.getD i []):=by
 unfold upR
 rw [List.getD_eq_getElem?_getD,List.getElem?_map,List.getElem?_range h]; rfl
theorem getD_mem {α:Type} {l:List α} {i:Nat} (d:α) (h:i < l.length):l.getD i d ∈ l:=by
 rw [List.getD_eq_getElem?_getD,List.getElem?_eq_getElem h]; exact List.getElem_mem h
theorem sok_of {rows:List (List UInt8)} {n w:Nat} (hn:rows.length = n) (h0:0 < n) (h41:n ≤ 41) (h2:2 ≤ w) (h32:w ≤ 32) (hr:∀ i,i < n → (rows.getD i []).length = w) (hb:∀ i k,i < n → k < w → BOk (byAt rows (i,k))):SOk rows w:=by
 subst hn
 have hg:∀ i (hi:i < rows.length),rows.getD i [] = rows[i]:=fun i hi => by rw [List.getD_eq_getElem?_getD,List.getElem?_eq_getElem hi]; rfl
 refine ⟨h0,h41,h2,h32,fun l hl => ?_,fun l hl b hb' => ?_⟩
 ·obtain ⟨i,hi,rfl⟩:=List.getElem_of_mem hl
  rw [← hg i hi]; exact hr i hi
 ·obtain ⟨i,hi,rfl⟩:=List.getElem_of_mem hl
  obtain ⟨k,hk,rfl⟩:=List.getElem_of_mem hb'
  have hw:=hr i hi
  rw [hg i hi] at hw
  have:=hb i k hi (by omega)
  unfold byAt at this
  simp only [hg i hi] at this
  rwa [List.getD_eq_getElem?_getD,List.getElem?_eq_getElem hk] at this
theorem SOk.at {rows:List (List UInt8)} {w:Nat} (h:SOk rows w) {i k:Nat} (hi:i < rows.length) (hk:k < w):(rows.getD i []).length = w ∧ BOk (byAt rows (i,k)) ∧ valAt (valsG rows) (i,k) = vq (byAt rows (i,k)):=by
 have hg:rows.getD i [] = rows[i]:=by rw [List.getD_eq_getElem?_getD,List.getElem?_eq_getElem hi]; rfl
 have hl:=h.row _ (List.getElem_mem hi)
 have hk2:k < (rows[i]).length:=by omega
 refine ⟨by rw [hg,hl],?_,?_⟩
 ·unfold byAt
  simp only [hg]
  rw [List.getD_eq_getElem?_getD,List.getElem?_eq_getElem hk2]
  exact h.byte _ (List.getElem_mem hi) _ (List.getElem_mem hk2)
 ·unfold byAt valAt valsG
  simp only
  rw [map_getD hi,map_getD hk2,hg,List.getD_eq_getElem?_getD,List.getElem?_eq_getElem hk2]; rfl
theorem upR_at {f:Nat → Nat → UInt8} {rows:List (List UInt8)} {ms:List (Int × Int)} {w i k:Nat} (h:SOk rows w) (hi:i < rows.length) (hk:k < w):(((i:Int),(k:Int)) ∈ ms → byAt (upR f rows ms) (i,k) = f i k) ∧ (((i:Int),(k:Int)) ∉ ms → byAt (upR f rows ms) (i,k) = byAt rows (i,k)):=by
 unfold byAt
 simp only
 rw [upR_get hi]
 exact upRow_at (f i) i ms _ (by rw [(h.at hi hk).1]; exact hk)
theorem upR_sok {f:Nat → Nat → UInt8} {rows:List (List UInt8)} {ms:List (Int × Int)} {w:Nat} (h:SOk rows w) (hf:∀ i k,i < rows.length → k < w → ((i:Int),(k:Int)) ∈ ms → BOk (f i k)):SOk (upR f rows ms) w:=by
 refine sok_of (upR_len _ _ _) h.pos h.len h.w2 h.w32 (fun i hi => ?_) fun i k hi hk => ?_
 ·rw [upR_get hi,upRow_len]
  have:=h.w2
  exact (h.at (k:=0) hi (by omega)).1
 ·obtain ⟨a1,a2⟩:=upR_at (f:=f) (ms:=ms) h hi hk
  by_cases hm:((i:Int),(k:Int)) ∈ ms
  ·rw [a1 hm]; exact hf i k hi hk hm
  ·rw [a2 hm]; exact (h.at hi hk).2.1
theorem upR_val {f:Nat → Nat → UInt8} {rows:List (List UInt8)} {ms:List (Int × Int)} {w i k:Nat} (h:SOk rows w) (hf:∀ i k,i < rows.length → k < w → ((i:Int),(k:Int)) ∈ ms → BOk (f i k)) (hi:i < rows.length) (hk:k < w):(((i:Int),(k:Int)) ∈ ms → valAt (valsG (upR f rows ms)) (i,k) = vq (f i k)) ∧ (((i:Int),(k:Int)) ∉ ms → valAt (valsG (upR f rows ms)) (i,k) = valAt (valsG rows) (i,k)):=by
 obtain ⟨a1,a2⟩:=upR_at (f:=f) (ms:=ms) h hi hk
 have h2:=(upR_sok h hf).at (i:=i) (k:=k) (by rw [upR_len]; exact hi) hk
 constructor
 ·intro hm; rw [h2.2.2,a1 hm]
 ·intro hm; rw [h2.2.2,a2 hm,(h.at hi hk).2.2]
theorem upR_nil (f:Nat → Nat → UInt8) (rows:List (List UInt8)):upR f rows [] = rows:=by
 unfold upR
 apply List.ext_getElem
 ·simp
 ·intro i h1 h2
  rw [List.getElem_map,List.getElem_range]
  show rows.getD i [] = _
  rw [List.getD_eq_getElem?_getD,List.getElem?_eq_getElem h2]; rfl
section
variable {rows:List (List UInt8)} {w:Nat}
theorem sheet_rest (h:SOk rows w):sheetG rows = restG rows.length w (valsG rows):=by unfold sheetG; rw [h.hd]
theorem left_of (h:SOk rows w):leftG (textG rows) = (marksG (sheetG rows) rows.length,0):=by
 unfold leftG
 rw [parse_text h]
 simp only
 rw [h.hd,lostI_marks]
 have:=(sheet_gow h h.hd).gok h.pos h.len h.w32
 exact this.2.1
theorem sheet_wid (h:SOk rows w):wid (sheetG rows) = w:=((sheet_gow h h.hd).gok h.pos h.len h.w32).2.1
end
def bookB (ts:List (List UInt8)):List (List UInt8):=bytesG (gridR ts)
structure BookOk (ts:List (List UInt8)):Prop where
 tx:ts.all isTx = true
 le:¬ 40 < ts.length
theorem vals_bytes {n w:Nat} {G:List (List Int)} (h:Right n w G):valsG (bytesG G) = G:=by
 unfold valsG bytesG
 rw [List.map_map]
 conv => rhs; rw [← List.map_id G]
 refine List.map_congr_left fun l hl => ?_
 simp only [Function.comp,List.map_map,id]
 conv => rhs; rw [← List.map_id l]
 refine List.map_congr_left fun v hv => ?_
 obtain ⟨i,hi,rfl⟩:=List.getElem_of_mem hl
 obtain ⟨k,hk,rfl⟩:=List.getElem_of_mem hv
 have hi2:i < n:=by rw [← h.gow.len]; exact hi
 have hg:G.getD i [] = G[i]:=by rw [List.getD_eq_getElem?_getD,List.getElem?_eq_getElem hi]; rfl
 have hw:=h.gow.row i hi2
 rw [hg] at hw
 have h1:=h.gow.val i k hi2 (by omega)
 have h2:=h.full i k hi2 (by omega)
 have e:valAt G (i,k) = (G[i])[k]:=by
  unfold valAt
  simp only [hg]
  rw [List.getD_eq_getElem?_getD,List.getElem?_eq_getElem hk]; rfl
 rw [e] at h1 h2
 exact (sgn_ok ⟨by omega,h1.2⟩).2
section
variable {ts:List (List UInt8)}
theorem BookOk.right (h:BookOk ts):Right (ts.length + 1) (maxW ts + 1) (gridR ts):=(gridR_right h.tx).1
theorem bookB_len (h:BookOk ts):(bookB ts).length = ts.length + 1:=by
 unfold bookB
 rw [bytesG_len,h.right.gow.len]
theorem BookOk.wid (h:BookOk ts):1 ≤ maxW ts ∧ maxW ts ≤ 31:=by
 refine ⟨(maxW_ge ts).1,maxW_le (by omega) fun s hs => ?_⟩
 have:=isTx_len (List.all_eq_true.1 h.tx s hs)
 omega
theorem BookOk.vals (h:BookOk ts):valsG (bookB ts) = gridR ts:=vals_bytes h.right
theorem bookB_at (h:BookOk ts) {i k:Nat} (hi:i < ts.length + 1) (hk:k < maxW ts + 1):byAt (bookB ts) (i,k) = sgn (valAt (gridR ts) (i,k)):=by
 have hg:=h.right.gow
 have hi2:i < (gridR ts).length:=by rw [hg.len]; exact hi
 have hr:(gridR ts).getD i [] = (gridR ts)[i]:=by rw [List.getD_eq_getElem?_getD,List.getElem?_eq_getElem hi2]; rfl
 have hw:=hg.row i hi
 rw [hr] at hw
 have hk2:k < ((gridR ts)[i]).length:=by omega
 unfold byAt bookB bytesG valAt
 simp only
 rw [map_getD hi2,map_getD hk2,hr,List.getD_eq_getElem?_getD,List.getElem?_eq_getElem hk2]; rfl
theorem BookOk.sok (h:BookOk ts):SOk (bookB ts) (maxW ts + 1):=by
 have hw:=h.wid
 have hle:=h.le
 refine sok_of (bookB_len h) (by omega) (by omega) (by omega) (by omega) (fun i hi => ?_) fun i k hi hk => ?_
 ·have:=h.right.gow.bytes _ (getD_mem (l:=bookB ts) [] (by rw [bookB_len h]; exact hi))
  exact this
 ·rw [bookB_at h hi hk]
  have h1:=h.right.gow.val i k hi hk
  have h2:=h.right.full i k hi hk
  exact (sgn_ok ⟨by omega,h1.2⟩).1
theorem write_book (h:BookOk ts):writeG ts = (textG (bookB ts),0):=by
 rw [write_eq]
 unfold writeR
 rw [if_neg h.le,if_pos h.tx]; rfl
def spo (ts:List (List UInt8)) (ms:List (Int × Int)):List (List UInt8):=upR (fun _ _ => 63) (bookB ts) ms
theorem bok63:BOk 63:=by unfold BOk; decide
theorem spo_sok (h:BookOk ts) (ms:List (Int × Int)):SOk (spo ts ms) (maxW ts + 1):=upR_sok h.sok fun _ _ _ _ _ => bok63
theorem spo_len (h:BookOk ts) (ms:List (Int × Int)):(spo ts ms).length = ts.length + 1:=by unfold spo; rw [upR_len,bookB_len h]
theorem spo_val (h:BookOk ts) (ms:List (Int × Int)) {i k:Nat} (hi:i < ts.length + 1) (hk:k < maxW ts + 1):(((i:Int),(k:Int)) ∈ ms → valAt (valsG (spo ts ms)) (i,k) = -1) ∧ (((i:Int),(k:Int)) ∉ ms → valAt (valsG (spo ts ms)) (i,k) = valAt (gridR ts) (i,k)):=by
 have:=upR_val (f:=fun _ _ => 63) (ms:=ms) h.sok (fun _ _ _ _ _ => bok63) (i:=i) (k:=k) (by rw [bookB_len h]; exact hi) hk
 rw [h.vals] at this
 exact this
theorem spo_part (h:BookOk ts) (ms:List (Int × Int)):Part (ts.length + 1) (maxW ts + 1) (gridR ts) (valsG (spo ts ms)):=by
 have:=vals_gow (spo_sok h ms)
 rw [spo_len h] at this
 refine ⟨this,fun i k hi hk => ?_⟩
 obtain ⟨a1,a2⟩:=spo_val h ms hi hk
 by_cases hm:((i:Int),(k:Int)) ∈ ms
 ·exact .inl (a1 hm)
 ·exact .inr (a2 hm)
theorem spo_lost (h:BookOk ts) (ms:List (Int × Int)) {p:Nat × Nat} (hp:Lost (ts.length + 1) (maxW ts + 1) (valsG (spo ts ms)) p):((p.1:Int),(p.2:Int)) ∈ ms:=by
 obtain ⟨h1,h2,h3⟩:=hp
 refine Classical.byContradiction fun hm => ?_
 have:=(spo_val h ms h1 h2).2 hm
 rw [this] at h3
 exact h.right.full p.1 p.2 h1 h2 h3
end
end Go.Proofs.YtlmfdmlochpfcaaDoor

namespace Go.Proofs.YtlmfdmlochpfcaaDoor
open Go Go.V
abbrev o35_0:List Ins:=[⟨some 4,.mv (.k (.c (.bool false))),none,true⟩]
abbrev o35_1:List Ins:=[⟨some 6,.mv (.t 0),none,true⟩,
 ⟨some 7,.len (.t 6),none,true⟩,
 ⟨some 8,.mv (.t 1),none,true⟩,
 ⟨some 9,.len (.t 8),none,true⟩,
 ⟨some 10,.bin .neq (.t 7) (.t 9),none,true⟩]
abbrev o35_2:List Ins:=[⟨some 4,.mv (.k (.c (.bool false))),none,true⟩]
abbrev v35_3:VC:=(.seq (.ops o35_2) .ret)
abbrev v35_4:VC:=(.cond (.t 10) v35_3 .skip)
abbrev o35_5:List Ins:=[⟨some 5,.mv (.k (.c (.int .i64 0))),none,true⟩]
abbrev o35_6:List Ins:=[⟨some 11,.mv (.t 5),none,true⟩,
 ⟨some 12,.mv (.t 0),none,true⟩,
 ⟨some 13,.len (.t 12),none,true⟩,
 ⟨some 14,.bin .lss (.t 11) (.t 13),none,true⟩]
abbrev v35_7:VC:=(.cond (.t 14) .skip (.exit 0))
abbrev o35_8:List Ins:=[⟨some 17,.mv (.t 0),none,false⟩,
 ⟨some 18,.mv (.t 5),none,false⟩,
 ⟨some 19,.ia 2 (.t 17) (.t 18),none,false⟩,
 ⟨some 20,.ld false 2 (.t 19),none,false⟩,
 ⟨some 21,.mv (.t 1),none,false⟩,
 ⟨some 22,.mv (.t 5),none,false⟩,
 ⟨some 23,.ia 2 (.t 21) (.t 22),none,false⟩,
 ⟨some 24,.ld false 2 (.t 23),none,false⟩,
 ⟨some 25,.seq true [(0,true),(1,true)] (.t 20) (.t 24),none,true⟩]
abbrev o35_9:List Ins:=[⟨some 4,.mv (.k (.c (.bool false))),none,true⟩]
abbrev v35_10:VC:=(.seq (.ops o35_9) .ret)
abbrev v35_11:VC:=(.cond (.t 25) v35_10 .skip)
abbrev v35_12:VC:=(.seq (.dops o35_8) v35_11)
abbrev o35_13:List Ins:=[⟨some 15,.mv (.t 5),none,true⟩,
 ⟨some 16,.bin .add (.t 15) (.k (.c (.int .i64 1))),none,true⟩,
 ⟨some 5,.mv (.t 16),none,true⟩]
abbrev v35_14:VC:=(.seq (.block 1 v35_12) (.ops o35_13))
abbrev v35_15:VC:=(.seq (.seq (.ops o35_6) v35_7) v35_14)
-- K35_1: changed and kept: [5]
abbrev K35_1:List Nat:=[0,1]
abbrev v35_16:VC:=(.loop v35_15)
abbrev v35_17:VC:=(.block 0 v35_16)
abbrev o35_18:List Ins:=[⟨some 4,.mv (.k (.c (.bool true))),none,true⟩]
abbrev v35_19:VC:=(.seq (.ops o35_18) .ret)
abbrev v35_20:VC:=(.seq (.seq (.ops o35_5) v35_17) v35_19)
abbrev v35_21:VC:=(.seq (.seq (.ops o35_1) v35_4) v35_20)
def ir35:FC:=⟨2,26,[.t 4],(.seq (.ops o35_0) v35_21)⟩
abbrev o32_0:List Ins:=[⟨some 3,.box 2 (.t 1),none,true⟩,
 ⟨some 4,.mv (.k (.c (.bool false))),none,true⟩]
abbrev o32_1:List Ins:=[⟨some 5,.mv (.k (.c (.int .i64 0))),none,true⟩]
abbrev o32_2:List Ins:=[⟨some 6,.mv (.t 5),none,true⟩,
 ⟨some 7,.mv (.t 0),none,true⟩,
 ⟨some 8,.len (.t 7),none,true⟩,
 ⟨some 9,.bin .lss (.t 6) (.t 8),none,true⟩]
abbrev v32_3:VC:=(.cond (.t 9) .skip (.exit 0))
abbrev o32_4:List Ins:=[⟨some 12,.mv (.t 0),none,false⟩,
 ⟨some 13,.mv (.t 5),none,false⟩,
 ⟨some 14,.ia 2 (.t 12) (.t 13),none,false⟩,
 ⟨some 15,.ld false 2 (.t 14),none,false⟩,
 ⟨some 16,.ld false 2 (.t 3),none,false⟩,
 ⟨some 17,.seq false [(0,true),(1,true)] (.t 15) (.t 16),none,true⟩]
abbrev o32_5:List Ins:=[⟨some 4,.mv (.k (.c (.bool true))),none,true⟩]
abbrev v32_6:VC:=(.seq (.ops o32_5) .ret)
abbrev v32_7:VC:=(.cond (.t 17) v32_6 .skip)
abbrev v32_8:VC:=(.seq (.dops o32_4) v32_7)
abbrev o32_9:List Ins:=[⟨some 10,.mv (.t 5),none,true⟩,
 ⟨some 11,.bin .add (.t 10) (.k (.c (.int .i64 1))),none,true⟩,
 ⟨some 5,.mv (.t 11),none,true⟩]
abbrev v32_10:VC:=(.seq (.block 1 v32_8) (.ops o32_9))
abbrev v32_11:VC:=(.seq (.seq (.ops o32_2) v32_3) v32_10)
-- K32_1: changed and kept: [5]
abbrev K32_1:List Nat:=[0,3]
abbrev v32_12:VC:=(.loop v32_11)
abbrev v32_13:VC:=(.block 0 v32_12)
abbrev o32_14:List Ins:=[⟨some 4,.mv (.k (.c (.bool false))),none,true⟩]
abbrev v32_15:VC:=(.seq (.ops o32_14) .ret)
abbrev v32_16:VC:=(.seq (.seq (.ops o32_1) v32_13) v32_15)
def ir32:FC:=⟨2,18,[.t 4],(.seq (.ops o32_0) v32_16)⟩
theorem c35:compM Tryd.prog [] 35 = some ir35:=by kernel_rfl
theorem c32:compM Tryd.prog [] 32 = some ir32:=by kernel_rfl
attribute [local go_sem] Nat.reduceEqDiff Nat.reduceAdd Nat.reduceMul reduceIte Nat.reduceLeDiff Nat.reduceLT Nat.reduceBEq reduceCtorEq
def placeC (m:Int × Int):List CD:=[.int .i64 m.1,.int .i64 m.2]
def placesC (l:List (Int × Int)):CD:=.sl 2 (l.map placeC)
def icst (p:Nat × Nat):Int × Int:=((p.1:Int),(p.2:Int))
theorem icst_inj {p q:Nat × Nat} (h:icst p = icst q):p = q:=by
 unfold icst at h
 have h1:=(Prod.mk.inj h).1
 have h2:=(Prod.mk.inj h).2
 exact Prod.ext (by omega) (by omega)
theorem marksC_places (l:List (Nat × Nat)):marksC l = placesC (l.map icst):=by
 unfold marksC placesC
 rw [List.map_map]; rfl
theorem places_two (l:List (Int × Int)):((l.map placeC).all fun e => e.length == 2) = true:=by
 rw [List.all_eq_true]; intro e he; obtain ⟨n,_,rfl⟩:=List.mem_map.1 he; rfl
theorem pr_eq (a b:Int × Int):(a.1 == b.1 && (a.2 == b.2 && true)) = decide (a = b):=by
 rw [Bool.and_true,Bool.eq_iff_iff]
 simp only [Bool.and_eq_true,beq_iff_eq,decide_eq_true_eq]
 exact ⟨fun h => Prod.ext h.1 h.2,fun h => h ▸ ⟨rfl,rfl⟩⟩
theorem has32 (l:List (Int × Int)) (m:Int × Int) (hl:l.length ≤ 1000000000):FSpec Tryd.prog 32 [.c (placesC l),.agg ((placeC m).map .c)] (bv (l.contains m)):=by
 have hmax:maxLen = 9223372036854775807:=rfl
 refine FSpec_of c32 (Nat.le_refl _) (by decide) fun C hP hN hC hL => ?_; rw [init_st]
 simp only [ir32,placesC,placeC,List.map_cons,List.map_nil]
 (repeat ((first | refine Va ?_ | refine Vb ?_ | refine Vc ?_ | refine Vd ?_ | refine Ve ?_ | refine Vf ?_); (try simp only [go_sem,hP]); (repeat refine qJ ?_)))
 refine WV_loopK K32_1 [] (fun k:Nat => k ≤ l.length ∧ (l.take k).contains m = false) (fun k => l.length - k) (fun k => [(5,iv k)]) (fun _ => []) 0 ⟨Nat.zero_le _,rfl⟩ ?_ ?_
 ·exact Sub_au
 ·intro k ⟨hk0,hc⟩
  simp only [go_sem]
  (repeat ((first | refine Va ?_ | refine Vb ?_ | refine Vc ?_ | refine Vd ?_ | refine Ve ?_ | refine Vf ?_); (try simp only [go_sem,hP,List.length_map]); (repeat refine qJ ?_)))
  (refine WV_cond rfl (fun h => ?_) (fun h => ?_))
  ·have hk:k < l.length:=by simpa using h
   have hw2:=w64 (n:=(k:Int) + 1) (by omega) (by omega)
   have hg:(l.map placeC).getD k [] = placeC l[k]:=map_getD hk
   (refine WV_skip ?_; simp only [go_sem])
   refine WV_seq_ (WV_block (WV_seq_ ?_))
   (refine WV_op ?_; simp only [go_sem,hP,hg,placeC,pr_eq,List.length_map,Int.toNat_natCast,Int.ofNat_lt,hk,Int.natCast_nonneg]; (repeat refine qJ ?_))
   have hts:=List.take_succ_eq_append_getElem hk
   by_cases he:l[k] = m
   ·have hct:l.contains m = true:=by
     rw [List.contains_iff_mem,← he]; exact List.getElem_mem hk
    rw [hct]
    (refine WV_cond rfl (fun h => ?_) (fun h => ?_))
    ·(repeat ((first | refine Va ?_ | refine Vb ?_ | refine Vc ?_ | refine Vd ?_ | refine Ve ?_ | refine Vf ?_); (try simp only [go_sem,hP]); (repeat refine qJ ?_)))
     (refine WV_ret ?_; simp only [thenQ,inQ,RetQ,RetOk,resAll,resA]; simp only [go_sem,tupA,AV.port,AV.portL,exists_eq_left']; (first | exact AVle.of rfl | refine AVle.of ?_ | skip))
    ·simp [he] at h
   ·(refine WV_cond rfl (fun h => ?_) (fun h => ?_))
    ·simp at h; exact (he (Prod.ext h.1 h.2)).elim
    ·(repeat ((first | refine Va ?_ | refine Vb ?_ | refine Vc ?_ | refine Vd ?_ | refine Ve ?_ | refine Vf ?_); (try simp only [go_sem,hP,hw2]); (repeat refine qJ ?_)))
     refine ⟨k + 1,⟨by omega,?_⟩,by omega,?_⟩
     ·rw [hts,List.contains_eq_mem,decide_eq_false_iff_not]
      rw [List.contains_eq_mem,decide_eq_false_iff_not] at hc
      intro hm
      rcases List.mem_append.1 hm with hm | hm
      ·exact hc hm
      ·exact he (List.mem_singleton.1 hm).symm
     ·exact Sub_au
  ·have hk:k = l.length:=by simp at h; omega
   subst hk
   rw [List.take_length] at hc
   rw [hc]
   (repeat ((first | refine Va ?_ | refine Vb ?_ | refine Vc ?_ | refine Vd ?_ | refine Ve ?_ | refine Vf ?_); (try simp only [go_sem,hP]); (repeat refine qJ ?_)))
   (refine WV_ret ?_; simp only [thenQ,inQ,RetQ,RetOk,resAll,resA]; simp only [go_sem,tupA,AV.port,AV.portL,exists_eq_left']; (first | exact AVle.of rfl | refine AVle.of ?_ | skip))
theorem same35 (a b:List (Int × Int)) (hl:a.length ≤ 1000000000):FSpec Tryd.prog 35 [.c (placesC a),.c (placesC b)] (bv (a == b)):=by
 have hmax:maxLen = 9223372036854775807:=rfl
 refine FSpec_of c35 (Nat.le_refl _) (by decide) fun C hP hN hC hL => ?_; rw [init_st]
 simp only [ir35,placesC]
 (repeat ((first | refine Va ?_ | refine Vb ?_ | refine Vc ?_ | refine Vd ?_ | refine Ve ?_ | refine Vf ?_); (try simp only [go_sem,hP,List.length_map]); (repeat refine qJ ?_)))
 by_cases hlen:a.length = b.length
 ·(refine WV_cond rfl (fun h => ?_) (fun h => ?_))
  ·simp [hlen] at h
  (repeat ((first | refine Va ?_ | refine Vb ?_ | refine Vc ?_ | refine Vd ?_ | refine Ve ?_ | refine Vf ?_); (try simp only [go_sem,hP]); (repeat refine qJ ?_)))
  refine WV_loopK K35_1 [] (fun k:Nat => k ≤ a.length ∧ ∀ m (hm:m < a.length) (hm2:m < b.length),m < k → a[m] = b[m]) (fun k => a.length - k) (fun k => [(5,iv k)]) (fun _ => []) 0 ⟨Nat.zero_le _,fun m _ _ h => by omega⟩ ?_ ?_
  ·exact Sub_au
  ·intro k ⟨hk0,hke⟩
   simp only [go_sem]
   (repeat ((first | refine Va ?_ | refine Vb ?_ | refine Vc ?_ | refine Vd ?_ | refine Ve ?_ | refine Vf ?_); (try simp only [go_sem,hP,List.length_map]); (repeat refine qJ ?_)))
   (refine WV_cond rfl (fun h => ?_) (fun h => ?_))
   ·have hk:k < a.length:=by simpa using h
    have hkb:k < b.length:=by omega
    have hw2:=w64 (n:=(k:Int) + 1) (by omega) (by omega)
    have hg:(a.map placeC).getD k [] = placeC a[k]:=map_getD hk
    have hg2:(b.map placeC).getD k [] = placeC b[k]:=map_getD hkb
    (refine WV_skip ?_; simp only [go_sem])
    refine WV_seq_ (WV_block (WV_seq_ ?_))
    (refine WV_op ?_; simp only [go_sem,hP,hg,hg2,placeC,pr_eq,List.length_map,Int.toNat_natCast,Int.ofNat_lt,hk,hkb,Int.natCast_nonneg]; (repeat refine qJ ?_))
    by_cases he:a[k] = b[k]
    ·(refine WV_cond rfl (fun h => ?_) (fun h => ?_))
     ·simp [he] at h
     ·(repeat ((first | refine Va ?_ | refine Vb ?_ | refine Vc ?_ | refine Vd ?_ | refine Ve ?_ | refine Vf ?_); (try simp only [go_sem,hP,hw2]); (repeat refine qJ ?_)))
      refine ⟨k + 1,⟨by omega,fun m hm hm2 hmk => ?_⟩,by omega,?_⟩
      ·by_cases e2:m = k
       ·subst e2; exact he
       ·exact hke m hm hm2 (by omega)
      ·exact Sub_au
    ·have hne:(a == b) = false:=by
      rw [beq_eq_false_iff_ne]
      rintro rfl
      exact he rfl
     rw [hne]
     (refine WV_cond rfl (fun h => ?_) (fun h => ?_))
     ·(repeat ((first | refine Va ?_ | refine Vb ?_ | refine Vc ?_ | refine Vd ?_ | refine Ve ?_ | refine Vf ?_); (try simp only [go_sem,hP]); (repeat refine qJ ?_)))
      (refine WV_ret ?_; simp only [thenQ,inQ,RetQ,RetOk,resAll,resA]; simp only [go_sem,tupA,AV.port,AV.portL,exists_eq_left']; (first | exact AVle.of rfl | refine AVle.of ?_ | skip))
     ·simp at h; exact (he (Prod.ext h.1 h.2)).elim
   ·have hk:k = a.length:=by simp at h; omega
    subst hk
    have heq:(a == b) = true:=by
     rw [beq_iff_eq]
     exact List.ext_getElem hlen fun m h1 h2 => hke m h1 h2 h1
    rw [heq]
    (repeat ((first | refine Va ?_ | refine Vb ?_ | refine Vc ?_ | refine Vd ?_ | refine Ve ?_ | refine Vf ?_); (try simp only [go_sem,hP]); (repeat refine qJ ?_)))
    (refine WV_ret ?_; simp only [thenQ,inQ,RetQ,RetOk,resAll,resA]; simp only [go_sem,tupA,AV.port,AV.portL,exists_eq_left']; (first | exact AVle.of rfl | refine AVle.of ?_ | skip))
 ·have hne:(a == b) = false:=by
   rw [beq_eq_false_iff_ne]
   rintro rfl
   exact hlen rfl
  rw [hne]
  (refine WV_cond rfl (fun h => ?_) (fun h => ?_))
  ·(repeat ((first | refine Va ?_ | refine Vb ?_ | refine Vc ?_ | refine Vd ?_ | refine Ve ?_ | refine Vf ?_); (try simp only [go_sem,hP]); (repeat refine qJ ?_)))
   (refine WV_ret ?_; simp only [thenQ,inQ,RetQ,RetOk,resAll,resA]; simp only [go_sem,tupA,AV.port,AV.portL,exists_eq_left']; (first | exact AVle.of rfl | refine AVle.of ?_ | skip))
  ·simp at h; omega
end Go.Proofs.YtlmfdmlochpfcaaDoor

namespace Go.Proofs.YtlmfdmlochpfcaaDoor
open Go Go.V
section
variable {ts:List (List UInt8)}
def tld (ts:List (List UInt8)) (ms ws:List (Int × Int)):List (List UInt8):=upR (fun i k => byAt (bookB ts) (i,k)) (spo ts ms) ws
theorem tld_f (h:BookOk ts) (ms ws:List (Int × Int)):∀ i k,i < (spo ts ms).length → k < maxW ts + 1 → ((i:Int),(k:Int)) ∈ ws → BOk (byAt (bookB ts) (i,k)):=by
 intro i k hi hk _
 rw [spo_len h] at hi
 exact (h.sok.at (by rw [bookB_len h]; exact hi) hk).2.1
theorem tld_sok (h:BookOk ts) (ms ws:List (Int × Int)):SOk (tld ts ms ws) (maxW ts + 1):=upR_sok (spo_sok h ms) (tld_f h ms ws)
theorem tld_len (h:BookOk ts) (ms ws:List (Int × Int)):(tld ts ms ws).length = ts.length + 1:=by unfold tld; rw [upR_len,spo_len h]
theorem tld_val (h:BookOk ts) (ms ws:List (Int × Int)) {i k:Nat} (hi:i < ts.length + 1) (hk:k < maxW ts + 1):(((i:Int),(k:Int)) ∈ ws → valAt (valsG (tld ts ms ws)) (i,k) = valAt (gridR ts) (i,k)) ∧ (((i:Int),(k:Int)) ∉ ws → valAt (valsG (tld ts ms ws)) (i,k) = valAt (valsG (spo ts ms)) (i,k)):=by
 obtain ⟨a1,a2⟩:=upR_val (f:=fun i k => byAt (bookB ts) (i,k)) (ms:=ws) (spo_sok h ms) (tld_f h ms ws) (i:=i) (k:=k) (by rw [spo_len h]; exact hi) hk
 refine ⟨fun hm => ?_,a2⟩
 have:=(h.sok.at (i:=i) (k:=k) (by rw [bookB_len h]; exact hi) hk).2.2
 rw [h.vals] at this
 rw [this]
 exact a1 hm
theorem tld_part (h:BookOk ts) (ms ws:List (Int × Int)):Part (ts.length + 1) (maxW ts + 1) (gridR ts) (valsG (tld ts ms ws)):=by
 have:=vals_gow (tld_sok h ms ws)
 rw [tld_len h] at this
 refine ⟨this,fun i k hi hk => ?_⟩
 obtain ⟨a1,a2⟩:=tld_val h ms ws hi hk
 by_cases hm:((i:Int),(k:Int)) ∈ ws
 ·exact .inr (a1 hm)
 ·rw [a2 hm]; exact (spo_part h ms).val i k hi hk
theorem tld_lost (h:BookOk ts) (ms ws:List (Int × Int)) (p:Nat × Nat):Lost (ts.length + 1) (maxW ts + 1) (valsG (tld ts ms ws)) p ↔ Lost (ts.length + 1) (maxW ts + 1) (valsG (spo ts ms)) p ∧ icst p ∉ ws:=by
 constructor
 ·rintro ⟨h1,h2,h3⟩
  obtain ⟨a1,a2⟩:=tld_val h ms ws h1 h2
  have hn:icst p ∉ ws:=fun hm => by
   have:=a1 hm
   rw [show ((p.1,p.2):Nat × Nat) = p from rfl,h3] at this
   exact h.right.full p.1 p.2 h1 h2 this.symm
  exact ⟨⟨h1,h2,(a2 hn).symm.trans h3⟩,hn⟩
 ·rintro ⟨⟨h1,h2,h3⟩,hn⟩
  exact ⟨h1,h2,((tld_val h ms ws h1 h2).2 hn).trans h3⟩
def lftG (ts:List (List UInt8)) (rows:List (List UInt8)):List (Nat × Nat):=marksG (restG (ts.length + 1) (maxW ts + 1) (valsG rows)) (ts.length + 1)
theorem lft_wid {rows:List (List UInt8)} (hs:SOk rows (maxW ts + 1)) (hl:rows.length = ts.length + 1):wid (restG (ts.length + 1) (maxW ts + 1) (valsG rows)) = maxW ts + 1:=by
 have:=sheet_wid hs
 rwa [sheet_rest hs,hl] at this
theorem lft_mem {rows:List (List UInt8)} (hs:SOk rows (maxW ts + 1)) (hl:rows.length = ts.length + 1) (p:Nat × Nat):p ∈ lftG ts rows ↔ Lost (ts.length + 1) (maxW ts + 1) (restG (ts.length + 1) (maxW ts + 1) (valsG rows)) p:=lost_marks (lft_wid hs hl)
theorem lft_eq {rows:List (List UInt8)} (hs:SOk rows (maxW ts + 1)) (hl:rows.length = ts.length + 1):leftG (textG rows) = (lftG ts rows,0):=by
 rw [left_of hs,sheet_rest hs,hl]; rfl
theorem marks_congr {n:Nat} {g g':List (List Int)} (hw:wid g = wid g') (h:∀ i k,i < n → k < wid g → (valAt g (i,k) = -1 ↔ valAt g' (i,k) = -1)):marksG g n = marksG g' n:=by
 unfold marksG
 rw [List.flatMap_eq_foldl,List.flatMap_eq_foldl]
 rw [← List.flatMap_eq_foldl,← List.flatMap_eq_foldl]
 have key:∀ i ∈ List.range n,lostL g (lineP g i true) = lostL g' (lineP g' i true):=by
  intro i hi
  have hi:=List.mem_range.1 hi
  unfold lostL lineP
  rw [if_pos rfl,if_pos rfl,← hw]
  refine List.filter_congr fun p hp => ?_
  obtain ⟨k,hk,rfl⟩:=List.mem_map.1 hp
  have:=h i k hi (List.mem_range.1 hk)
  rw [Bool.eq_iff_iff,beq_iff_eq,beq_iff_eq]; exact this
 rw [List.flatMap_def,List.flatMap_def,List.map_congr_left key]
theorem order_book (h:BookOk ts) (ms ws:List (Int × Int)) (hw:∀ p ∈ lftG ts (spo ts ms),icst p ∉ ws):lftG ts (tld ts ms ws) = lftG ts (spo ts ms):=by
 have s1:=spo_sok h ms
 have l1:=spo_len h ms
 have s2:=tld_sok h ms ws
 have l2:=tld_len h ms ws
 have g1:=(spo_part h ms).gow
 have g2:=(tld_part h ms ws).gow
 unfold lftG
 refine marks_congr ((lft_wid s2 l2).trans (lft_wid s1 l1).symm) fun i k hi hk => ?_
 rw [lft_wid s2 l2] at hk
 have key:Lost (ts.length + 1) (maxW ts + 1) (restG (ts.length + 1) (maxW ts + 1) (valsG (tld ts ms ws))) (i,k) ↔ Lost (ts.length + 1) (maxW ts + 1) (restG (ts.length + 1) (maxW ts + 1) (valsG (spo ts ms))) (i,k):=by
  constructor
  ·intro hp
   obtain ⟨S,c1,c2,c3⟩:=(rest_core g2 _).1 hp
   exact (rest_core g1 _).2 ⟨S,c1,fun q hq => ((tld_lost h ms ws q).1 (c2 q hq)).1,c3⟩
  ·intro hp
   refine (rest_core g2 _).2 ⟨_,end_clos (restG_fin g1),fun q hq => (tld_lost h ms ws q).2 ⟨?_,hw q ((lft_mem s1 l1 q).2 hq)⟩,hp⟩
   obtain ⟨S,c1,c2,c3⟩:=(rest_core g1 q).1 hq
   exact c2 q c3
 exact ⟨fun e => (key.1 ⟨hi,hk,e⟩).2.2,fun e => (key.2 ⟨hi,hk,e⟩).2.2⟩
theorem left_book (h:BookOk ts) (ms:List (Int × Int)) {p:Nat × Nat} (hp:p ∈ lftG ts (spo ts ms)):p.1 < ts.length + 1 ∧ p.2 < maxW ts + 1 ∧ icst p ∈ ms ∧ (∃ q ∈ lftG ts (spo ts ms),q ≠ p ∧ q.1 = p.1) ∧ ∃ q ∈ lftG ts (spo ts ms),q ≠ p ∧ q.2 = p.2:=by
 have s1:=spo_sok h ms
 have l1:=spo_len h ms
 have g1:=(spo_part h ms).gow
 have hm:=lft_mem s1 l1
 have hp:=(hm p).1 hp
 obtain ⟨⟨q,q1,q2,q3⟩,⟨r,r1,r2,r3⟩⟩:=end_clos (restG_fin g1) p hp
 refine ⟨hp.1,hp.2.1,?_,⟨q,(hm q).2 q1,q2,q3⟩,⟨r,(hm r).2 r1,r2,r3⟩⟩
 obtain ⟨S,c1,c2,c3⟩:=(rest_core g1 p).1 hp
 exact spo_lost h ms (c2 p c3)
end
end Go.Proofs.YtlmfdmlochpfcaaDoor

namespace Go.Proofs.YtlmfdmlochpfcaaDoor
open Go Go.V
abbrev o19_0:List Ins:=[⟨some 6,.mv (.k (.c (.str []))),none,true⟩]
abbrev o19_1:List Ins:=[⟨some 7,.mv (.k (.c (.str []))),none,true⟩]
abbrev o19_2:List Ins:=[⟨some 8,.mv (.k (.c (.int .i64 0))),none,true⟩]
abbrev o19_3:List Ins:=[⟨some 11,.mv (.t 8),none,true⟩,
 ⟨some 12,.mv (.t 0),none,true⟩,
 ⟨some 13,.len (.t 12),none,true⟩,
 ⟨some 14,.bin .lss (.t 11) (.t 13),none,true⟩]
abbrev v19_4:VC:=(.cond (.t 14) .skip (.exit 0))
abbrev o19_5:List Ins:=[⟨some 17,.mv (.t 0),none,true⟩,
 ⟨some 18,.mv (.t 8),none,true⟩,
 ⟨some 19,.ia 1 (.t 17) (.t 18),none,true⟩,
 ⟨some 20,.ld true 1 (.t 19),none,true⟩,
 ⟨some 21,.raw (.convert 9 68 (.tmp 20)),none,true⟩,
 ⟨some 9,.mv (.t 21),none,true⟩]
abbrev o19_6:List Ins:=[⟨some 10,.mv (.k (.c (.int .i64 0))),none,true⟩]
abbrev o19_7:List Ins:=[⟨some 22,.mv (.t 10),none,true⟩,
 ⟨some 23,.mv (.t 1),none,true⟩,
 ⟨some 24,.len (.t 23),none,true⟩,
 ⟨some 25,.bin .lss (.t 22) (.t 24),none,true⟩]
abbrev v19_8:VC:=(.cond (.t 25) .skip (.exit 2))
abbrev o19_9:List Ins:=[⟨some 28,.mv (.t 1),none,true⟩,
 ⟨some 29,.mv (.t 10),none,true⟩,
 ⟨some 30,.ia 2 (.t 28) (.t 29),none,true⟩,
 ⟨some 31,.fa 0 (.t 30),none,true⟩,
 ⟨some 32,.ld true 1 (.t 31),none,true⟩,
 ⟨some 33,.mv (.t 8),none,true⟩,
 ⟨some 34,.bin .eql (.t 32) (.t 33),none,true⟩,
 ⟨some 35,.mv (.t 34),none,true⟩,
 ⟨some 36,.mv (.t 1),(some (35,true)),true⟩,
 ⟨some 37,.mv (.t 10),(some (35,true)),true⟩,
 ⟨some 38,.ia 2 (.t 36) (.t 37),(some (35,true)),true⟩,
 ⟨some 39,.fa 1 (.t 38),(some (35,true)),true⟩,
 ⟨some 40,.ld true 1 (.t 39),(some (35,true)),true⟩,
 ⟨some 41,.bin .geq (.t 40) (.k (.c (.int .i64 0))),(some (35,true)),true⟩,
 ⟨some 42,.pick (.t 35) (.t 41) (.k (.c (.bool false))),none,true⟩,
 ⟨some 43,.mv (.t 42),none,true⟩,
 ⟨some 44,.mv (.t 1),(some (43,true)),true⟩,
 ⟨some 45,.mv (.t 10),(some (43,true)),true⟩,
 ⟨some 46,.ia 2 (.t 44) (.t 45),(some (43,true)),true⟩,
 ⟨some 47,.fa 1 (.t 46),(some (43,true)),true⟩,
 ⟨some 48,.ld true 1 (.t 47),(some (43,true)),true⟩,
 ⟨some 49,.mv (.t 9),(some (43,true)),true⟩,
 ⟨some 50,.len (.t 49),(some (43,true)),true⟩,
 ⟨some 51,.bin .lss (.t 48) (.t 50),(some (43,true)),true⟩,
 ⟨some 52,.pick (.t 43) (.t 51) (.k (.c (.bool false))),none,true⟩]
abbrev o19_10:List Ins:=[⟨some 53,.mv (.t 9),none,true⟩,
 ⟨some 54,.mv (.t 1),none,true⟩,
 ⟨some 55,.mv (.t 10),none,true⟩,
 ⟨some 56,.ia 2 (.t 54) (.t 55),none,true⟩,
 ⟨some 57,.fa 1 (.t 56),none,true⟩,
 ⟨some 58,.ld true 1 (.t 57),none,true⟩,
 ⟨some 59,.mv (.t 2),none,true⟩,
 ⟨some 60,.ia 1 (.t 53) (.t 58),none,true⟩,
 ⟨none,.st 1 (.t 60) (.t 59),none,true⟩]
abbrev v19_11:VC:=(.cond (.t 52) (.ops o19_10) .skip)
abbrev v19_12:VC:=(.seq (.ops o19_9) v19_11)
abbrev o19_13:List Ins:=[⟨some 26,.mv (.t 10),none,true⟩,
 ⟨some 27,.bin .add (.t 26) (.k (.c (.int .i64 1))),none,true⟩,
 ⟨some 10,.mv (.t 27),none,true⟩]
abbrev v19_14:VC:=(.seq (.block 3 v19_12) (.ops o19_13))
abbrev v19_15:VC:=(.seq (.seq (.ops o19_7) v19_8) v19_14)
-- K19_2: changed and kept: [10]
abbrev v19_16:VC:=(.loop v19_15)
abbrev v19_17:VC:=(.block 2 v19_16)
abbrev o19_18:List Ins:=[⟨some 61,.mv (.t 7),none,true⟩,
 ⟨some 62,.mv (.t 9),none,true⟩,
 ⟨some 63,.raw (.convert 68 9 (.tmp 62)),none,true⟩,
 ⟨some 64,.prim (.sbin .add) [(.t 63),(.k (.c (.str [10])))],none,true⟩,
 ⟨some 65,.prim (.sbin .add) [(.t 61),(.t 64)],none,true⟩,
 ⟨some 7,.mv (.t 65),none,true⟩]
abbrev v19_19:VC:=(.seq (.seq (.ops o19_6) v19_17) (.ops o19_18))
abbrev v19_20:VC:=(.seq (.ops o19_5) v19_19)
abbrev o19_21:List Ins:=[⟨some 15,.mv (.t 8),none,true⟩,
 ⟨some 16,.bin .add (.t 15) (.k (.c (.int .i64 1))),none,true⟩,
 ⟨some 8,.mv (.t 16),none,true⟩]
abbrev v19_22:VC:=(.seq (.block 1 v19_20) (.ops o19_21))
abbrev v19_23:VC:=(.seq (.seq (.ops o19_3) v19_4) v19_22)
-- K19_1: changed and kept: [8,7]
abbrev v19_24:VC:=(.loop v19_23)
abbrev v19_25:VC:=(.block 0 v19_24)
abbrev o19_26:List Ins:=[⟨some 66,.mv (.t 7),none,true⟩,
 ⟨some 6,.mv (.t 66),none,true⟩]
abbrev v19_27:VC:=(.seq (.ops o19_26) .ret)
abbrev v19_28:VC:=(.seq (.seq (.ops o19_2) v19_25) v19_27)
abbrev v19_29:VC:=(.seq (.ops o19_1) v19_28)
def ir19:FC:=⟨3,67,[.t 6],(.seq (.ops o19_0) v19_29)⟩
abbrev o33_0:List Ins:=[⟨some 6,.mv (.k (.c (.raw (.slice none 0 0)))),none,true⟩]
abbrev o33_1:List Ins:=[⟨some 7,.mv (.k (.c (.raw (.slice none 0 0)))),none,true⟩]
abbrev o33_2:List Ins:=[⟨some 8,.mv (.k (.c (.int .i64 0))),none,true⟩]
abbrev o33_3:List Ins:=[⟨some 11,.mv (.t 8),none,true⟩,
 ⟨some 12,.mv (.t 0),none,true⟩,
 ⟨some 13,.len (.t 12),none,true⟩,
 ⟨some 14,.bin .lss (.t 11) (.t 13),none,true⟩]
abbrev v33_4:VC:=(.cond (.t 14) .skip (.exit 0))
abbrev o33_5:List Ins:=[⟨some 17,.mv (.t 0),none,true⟩,
 ⟨some 18,.mv (.t 8),none,true⟩,
 ⟨some 19,.ia 1 (.t 17) (.t 18),none,true⟩,
 ⟨some 20,.ld true 1 (.t 19),none,true⟩,
 ⟨some 21,.raw (.convert 9 68 (.tmp 20)),none,true⟩,
 ⟨some 9,.mv (.t 21),none,true⟩]
abbrev o33_6:List Ins:=[⟨some 10,.mv (.k (.c (.int .i64 0))),none,true⟩]
abbrev o33_7:List Ins:=[⟨some 22,.mv (.t 10),none,true⟩,
 ⟨some 23,.mv (.t 2),none,true⟩,
 ⟨some 24,.len (.t 23),none,true⟩,
 ⟨some 25,.bin .lss (.t 22) (.t 24),none,true⟩]
abbrev v33_8:VC:=(.cond (.t 25) .skip (.exit 2))
abbrev o33_9:List Ins:=[⟨some 28,.mv (.t 2),none,true⟩,
 ⟨some 29,.mv (.t 10),none,true⟩,
 ⟨some 30,.ia 2 (.t 28) (.t 29),none,true⟩,
 ⟨some 31,.fa 0 (.t 30),none,true⟩,
 ⟨some 32,.ld true 1 (.t 31),none,true⟩,
 ⟨some 33,.mv (.t 8),none,true⟩,
 ⟨some 34,.bin .eql (.t 32) (.t 33),none,true⟩,
 ⟨some 35,.mv (.t 34),none,true⟩,
 ⟨some 36,.mv (.t 2),(some (35,true)),true⟩,
 ⟨some 37,.mv (.t 10),(some (35,true)),true⟩,
 ⟨some 38,.ia 2 (.t 36) (.t 37),(some (35,true)),true⟩,
 ⟨some 39,.fa 1 (.t 38),(some (35,true)),true⟩,
 ⟨some 40,.ld true 1 (.t 39),(some (35,true)),true⟩,
 ⟨some 41,.bin .geq (.t 40) (.k (.c (.int .i64 0))),(some (35,true)),true⟩,
 ⟨some 42,.pick (.t 35) (.t 41) (.k (.c (.bool false))),none,true⟩,
 ⟨some 43,.mv (.t 42),none,true⟩,
 ⟨some 44,.mv (.t 2),(some (43,true)),true⟩,
 ⟨some 45,.mv (.t 10),(some (43,true)),true⟩,
 ⟨some 46,.ia 2 (.t 44) (.t 45),(some (43,true)),true⟩,
 ⟨some 47,.fa 1 (.t 46),(some (43,true)),true⟩,
 ⟨some 48,.ld true 1 (.t 47),(some (43,true)),true⟩,
 ⟨some 49,.mv (.t 9),(some (43,true)),true⟩,
 ⟨some 50,.len (.t 49),(some (43,true)),true⟩,
 ⟨some 51,.bin .lss (.t 48) (.t 50),(some (43,true)),true⟩,
 ⟨some 52,.pick (.t 43) (.t 51) (.k (.c (.bool false))),none,true⟩]
abbrev o33_10:List Ins:=[⟨some 53,.mv (.t 9),none,false⟩,
 ⟨some 54,.mv (.t 2),none,false⟩,
 ⟨some 55,.mv (.t 10),none,false⟩,
 ⟨some 56,.ia 2 (.t 54) (.t 55),none,false⟩,
 ⟨some 57,.fa 1 (.t 56),none,false⟩,
 ⟨some 58,.ld true 1 (.t 57),none,false⟩,
 ⟨some 59,.mv (.t 1),none,false⟩,
 ⟨some 60,.mv (.t 8),none,false⟩,
 ⟨some 61,.ia 1 (.t 59) (.t 60),none,false⟩,
 ⟨some 62,.ld true 1 (.t 61),none,false⟩,
 ⟨some 63,.mv (.t 2),none,false⟩,
 ⟨some 64,.mv (.t 10),none,false⟩,
 ⟨some 65,.ia 2 (.t 63) (.t 64),none,false⟩,
 ⟨some 66,.fa 1 (.t 65),none,false⟩,
 ⟨some 67,.ld true 1 (.t 66),none,false⟩,
 ⟨some 68,.prim .sidx [(.t 62),(.t 67)],none,false⟩,
 ⟨some 69,.ia 1 (.t 53) (.t 58),none,true⟩,
 ⟨none,.st 1 (.t 69) (.t 68),none,true⟩]
abbrev v33_11:VC:=(.cond (.t 52) (.dops o33_10) .skip)
abbrev v33_12:VC:=(.seq (.ops o33_9) v33_11)
abbrev o33_13:List Ins:=[⟨some 26,.mv (.t 10),none,true⟩,
 ⟨some 27,.bin .add (.t 26) (.k (.c (.int .i64 1))),none,true⟩,
 ⟨some 10,.mv (.t 27),none,true⟩]
abbrev v33_14:VC:=(.seq (.block 3 v33_12) (.ops o33_13))
abbrev v33_15:VC:=(.seq (.seq (.ops o33_7) v33_8) v33_14)
-- K33_2: changed and kept: [10]
abbrev v33_16:VC:=(.loop v33_15)
abbrev v33_17:VC:=(.block 2 v33_16)
abbrev o33_18:List Ins:=[⟨some 70,.mv (.t 7),none,true⟩,
 ⟨some 71,.mv (.t 9),none,true⟩,
 ⟨some 72,.raw (.convert 68 9 (.tmp 71)),none,true⟩,
 ⟨some 73,.bsl 9 1 [(.t 72)],none,true⟩,
 ⟨some 74,.app 9 1 16 (.t 70) (.t 73),none,true⟩,
 ⟨some 7,.mv (.t 74),none,true⟩]
abbrev v33_19:VC:=(.seq (.seq (.ops o33_6) v33_17) (.ops o33_18))
abbrev v33_20:VC:=(.seq (.ops o33_5) v33_19)
abbrev o33_21:List Ins:=[⟨some 15,.mv (.t 8),none,true⟩,
 ⟨some 16,.bin .add (.t 15) (.k (.c (.int .i64 1))),none,true⟩,
 ⟨some 8,.mv (.t 16),none,true⟩]
abbrev v33_22:VC:=(.seq (.block 1 v33_20) (.ops o33_21))
abbrev v33_23:VC:=(.seq (.seq (.ops o33_3) v33_4) v33_22)
-- K33_1: changed and kept: [8,7]
abbrev v33_24:VC:=(.loop v33_23)
abbrev v33_25:VC:=(.block 0 v33_24)
abbrev o33_26:List Ins:=[⟨some 75,.mv (.t 7),none,true⟩,
 ⟨some 6,.mv (.t 75),none,true⟩]
abbrev v33_27:VC:=(.seq (.ops o33_26) .ret)
abbrev v33_28:VC:=(.seq (.seq (.ops o33_2) v33_25) v33_27)
abbrev v33_29:VC:=(.seq (.ops o33_1) v33_28)
def ir33:FC:=⟨3,76,[.t 6],(.seq (.ops o33_0) v33_29)⟩
theorem c19:compM Tryd.prog [] 19 = some ir19:=by kernel_rfl
theorem c33:compM Tryd.prog [] 33 = some ir33:=by kernel_rfl
attribute [local go_sem] Nat.reduceEqDiff Nat.reduceAdd Nat.reduceMul reduceIte Nat.reduceLeDiff Nat.reduceLT Nat.reduceBEq reduceCtorEq
theorem upR_take {f:Nat → Nat → UInt8} {rows:List (List UInt8)} {ms:List (Int × Int)} {k:Nat} (h:k < rows.length):(upR f rows ms).take (k + 1) = (upR f rows ms).take k ++ [upRow (f k) k ms rows[k]]:=by
 have hl:k < (upR f rows ms).length:=by rw [upR_len]; exact h
 rw [List.take_succ_eq_append_getElem hl]
 congr 2
 have:=upR_get (f:=f) (ms:=ms) h
 rw [List.getD_eq_getElem?_getD,List.getElem?_eq_getElem hl,List.getD_eq_getElem?_getD,List.getElem?_eq_getElem h] at this
 exact this
theorem textG_app (a:List (List UInt8)) (l:List UInt8):textG (a ++ [l]) = textG a ++ (l ++ [10]):=by
 unfold textG; rw [List.flatMap_append]; simp
theorem upR_rows {f:Nat → Nat → UInt8} {rows:List (List UInt8)} {ms:List (Int × Int)} {b:Nat} (h:∀ l ∈ rows,l.length ≤ b):∀ l ∈ upR f rows ms,l.length ≤ b:=by
 intro l hl
 unfold upR at hl
 obtain ⟨i,hi,rfl⟩:=List.mem_map.1 hl
 have hi:=List.mem_range.1 hi
 rw [upRow_len]
 exact h _ (getD_mem [] hi)
theorem bcells_set {l:List UInt8} {k:Nat} (h:k < l.length) (j:Nat) (v:UInt8):(cellsG bcd l j).set k (.c (.int .u8 (v.toNat:Int))) = cellsG bcd (l.set k v) j:=by
 have hcs:=cellsG_set (cds:=bcd) bcd_one (l:=l) (k:=k) h j 0 (by decide) (.int .u8 v.toNat) v rfl
 rwa [Nat.mul_one,Nat.add_zero] at hcs
set_option maxRecDepth 20000 in
set_option maxHeartbeats 16000000 in
theorem spoilt19 (rows:List (List UInt8)) (ms:List (Int × Int)) (b:UInt8) (hr:rows.length ≤ 100) (hrl:∀ l ∈ rows,l.length ≤ 100) (hm:ms.length ≤ 1000000):FSpec Tryd.prog 19 [.c (strsV rows),.c (placesC ms),.c (.int .u8 (b.toNat:Int))] (sv (textG (upR (fun _ _ => b) rows ms))):=by
 have hmax:maxLen = 9223372036854775807:=rfl
 have hul:=upR_rows (f:=fun _ _ => b) (ms:=ms) hrl
 have hlu:=upR_len (fun _ _ => b) rows ms
 have hsn:=@upR_take (fun _ _ => b) rows ms
 refine FSpec_of c19 (Nat.le_refl _) (by decide) fun C hP hN hC hL => ?_; rw [init_st]
 simp only [ir19,strsV]
 (repeat ((first | refine Va ?_ | refine Vb ?_ | refine Vc ?_ | refine Vd ?_ | refine Ve ?_ | refine Vf ?_); (try simp only [go_sem,hP]); (repeat refine qJ ?_)))
 refine WV_loopS (fun k:Nat => ⟨upd (upd (upd (upd (upd e0 0 (.c (.sl 1 (rows.map fun t => [CD.str t])))) 1 (.c (placesC ms))) 2 (.c (.int .u8 b.toNat))) 8 (iv k)) 7 (sv (textG ((upR (fun _ _ => b) rows ms).take k))),o0⟩) (fun k => k ≤ rows.length) (fun k => rows.length - k) 0 (Nat.zero_le _) ?_ ?_
 ·(refine Sub_of (by simp only [go_sem]; ((repeat' (first | exact EnvLe_e0 _ _ | refine EnvLe_upd ?_ ?_)) <;> ((try simp only [upd_app,e0_app,o0_app,Nat.reduceEqDiff,reduceIte]); first | exact AWk.refl _ _ | exact AWk.int (by omega) | exact AWk.int (by rw [w64 (by omega) (by omega)]; omega) | exact AWk.grow rfl | exact AWk.nil _ | exact AWk.of (by simp [textG])))) (by simp only [go_sem]; exact ObjLe_au))
 ·intro k hk0
  have htl:=textG_len (rows:=upR (fun _ _ => b) rows ms) 100 hul k
  have htl2:k * 101 ≤ 100 * 101:=Nat.mul_le_mul (by omega) (Nat.le_refl _)
  (repeat ((first | refine Va ?_ | refine Vb ?_ | refine Vc ?_ | refine Vd ?_ | refine Ve ?_ | refine Vf ?_); (try simp only [go_sem,hP,List.length_map]); (repeat refine qJ ?_)))
  (refine WV_cond rfl (fun h => ?_) (fun h => ?_))
  ·have hk:k < rows.length:=by simpa using h
   have hw2:=w64 (n:=(k:Int) + 1) (by omega) (by omega)
   have hs:=hsn hk
   have hrk:=hrl _ (List.getElem_mem hk)
   generalize hT:textG ((upR (fun _ _ => b) rows ms).take k) = T at htl
   have hT2:textG ((upR (fun _ _ => b) rows ms).take (k + 1)) = T ++ (upRow (fun _ => b) k ms rows[k] ++ [10]):=by rw [hs,textG_app,hT]
   generalize hrow:rows[k] = row at hrk hT2
   (refine WV_skip ?_; simp only [go_sem])
   refine WV_seq_ (WV_block (WV_seq_ ?_))
   (refine WV_op ?_; simp only [go_sem,hP,map_getD hk,hrow,Int.toNat_natCast,Int.ofNat_lt,hk,Int.natCast_nonneg,List.length_map]; (repeat refine qJ ?_))
   refine raw_sb (s:=row) (x':=.t 20) (e:=5) (by kernel_rfl) (by kernel_rfl) (by kernel_rfl) rfl rfl rfl rfl (by omega) ?_
   intro cap j k1 k2 k3
   simp only [go_sem]
   (repeat ((first | refine Va ?_ | refine Vb ?_ | refine Vc ?_ | refine Vd ?_ | refine Ve ?_ | refine Vf ?_); (try simp only [go_sem,hP]); (repeat refine qJ ?_)))
   refine WV_loopS (fun i:Nat => ⟨upd (upd (upd (upd (upd (upd (upd e0 0 (.c (.sl 1 (rows.map fun t => [CD.str t])))) 1 (.c (placesC ms))) 2 (.c (.int .u8 b.toNat))) 8 (iv k)) 7 (sv T)) 9 (.vw 1 21 0 row.length cap)) 10 (iv i),upd o0 21 (.box (cellsG bcd (upRow (fun _ => b) k (ms.take i) row) j))⟩) (fun i => i ≤ ms.length) (fun i => ms.length - i) 0 (Nat.zero_le _) ?_ ?_
   ·(refine Sub_of (by simp only [go_sem]; ((repeat' (first | exact EnvLe_e0 _ _ | refine EnvLe_upd ?_ ?_)) <;> ((try simp only [upd_app,e0_app,o0_app,Nat.reduceEqDiff,reduceIte]); first | exact AWk.refl _ _ | exact AWk.int (by omega) | exact AWk.int (by rw [w64 (by omega) (by omega)]; omega) | exact AWk.grow rfl | exact AWk.nil _ | exact AWk.of (by simp [upRow])))) (by simp only [go_sem]; exact ObjLe_au))
   ·intro i hi0
    have hur:=upRow_len (fun _ => b) k (ms.take i) row
    (repeat ((first | refine Va ?_ | refine Vb ?_ | refine Vc ?_ | refine Vd ?_ | refine Ve ?_ | refine Vf ?_); (try simp only [go_sem,hP,placesC,List.length_map]); (repeat refine qJ ?_)))
    (refine WV_cond rfl (fun h => ?_) (fun h => ?_))
    ·have hi:i < ms.length:=by simpa using h
     have hw3:=w64 (n:=(i:Int) + 1) (by omega) (by omega)
     have hgd:(ms.map placeC).getD i [] = placeC ms[i]:=map_getD hi
     have hus:=upRow_snoc (fun _ => b) k (ms.take i) ms[i] row
     rw [← List.take_succ_eq_append_getElem hi,hur] at hus
     generalize ms[i] = m at hgd hus
     (refine WV_skip ?_; simp only [go_sem])
     refine WV_seq_ (WV_block (WV_seq_ ?_))
     (refine WV_op ?_; simp only [go_sem,hP,hgd,placesC,placeC,Int.toNat_natCast,Int.ofNat_lt,hi,Int.natCast_nonneg,List.length_map]; (repeat refine qJ ?_))
     by_cases hc:m.1 = (k:Int) ∧ 0 ≤ m.2 ∧ m.2 < (row.length:Int)
     ·rw [if_pos hc] at hus
      obtain ⟨c1,c2,c3⟩:=hc
      have hmt:m.2.toNat < row.length:=by omega
      have hset:=bcells_set (l:=upRow (fun _ => b) k (ms.take i) row) (k:=m.2.toNat) (by omega) j b
      have hcl:m.2.toNat < (cellsG bcd (upRow (fun _ => b) k (ms.take i) row) j).length:=by rw [cellsG_len bcd_one]; omega
      rw [← hus] at hset
      (refine WV_cond rfl (fun h => ?_) (fun h => ?_))
      ·(repeat ((first | refine Va ?_ | refine Vb ?_ | refine Vc ?_ | refine Vd ?_ | refine Ve ?_ | refine Vf ?_); (try simp only [go_sem,hP,hgd,placesC,placeC,Int.toNat_natCast,Int.ofNat_lt,hi,Int.natCast_nonneg,List.length_map,c2,c3,hmt,hcl,Nat.mul_one,Nat.zero_add,Nat.add_zero,hset,hw3]); (repeat refine qJ ?_)))
       refine ⟨i + 1,by omega,by omega,?_⟩
       (refine Sub_of (by simp only [go_sem]; ((repeat' (first | exact EnvLe_e0 _ _ | refine EnvLe_upd ?_ ?_)) <;> ((try simp only [upd_app,e0_app,o0_app,Nat.reduceEqDiff,reduceIte]); first | exact AWk.refl _ _ | exact AWk.int (by omega) | exact AWk.int (by rw [w64 (by omega) (by omega)]; omega) | exact AWk.grow rfl | exact AWk.nil _ | exact AWk.of (by simp [placesC])))) (by simp only [go_sem]; exact ObjLe_au))
      ·simp [c1,c2,c3] at h
     ·rw [if_neg hc] at hus
      (refine WV_cond rfl (fun h => ?_) (fun h => ?_))
      ·simp at h; exact (hc ⟨h.1.1,h.1.2,h.2⟩).elim
      ·(repeat ((first | refine Va ?_ | refine Vb ?_ | refine Vc ?_ | refine Vd ?_ | refine Ve ?_ | refine Vf ?_); (try simp only [go_sem,hP,hw3]); (repeat refine qJ ?_)))
       refine ⟨i + 1,by omega,by omega,?_⟩
       rw [hus]
       (refine Sub_of (by simp only [go_sem]; ((repeat' (first | exact EnvLe_e0 _ _ | refine EnvLe_upd ?_ ?_)) <;> ((try simp only [upd_app,e0_app,o0_app,Nat.reduceEqDiff,reduceIte]); first | exact AWk.refl _ _ | exact AWk.int (by omega) | exact AWk.int (by rw [w64 (by omega) (by omega)]; omega) | exact AWk.grow rfl | exact AWk.nil _ | exact AWk.of (by simp [placesC])))) (by simp only [go_sem]; exact ObjLe_au))
    ·have hi:i = ms.length:=by simp at h; omega
     subst hi
     rw [List.take_length] at hur ⊢
     refine WV_exit ?_
     simp only [thenQ,inQ,reduceIte,beq_self_eq_true]
     (refine WV_op ?_; simp only [go_sem,hP]; (repeat refine qJ ?_))
     refine raw_bs (s:=upRow (fun _ => b) k ms row) (x':=.t 62) (e:=5) (by kernel_rfl) (by kernel_rfl) (by kernel_rfl) rfl rfl ?_ ?_
     ·show AV.vport _ (.vw 1 21 0 row.length cap) = _
      unfold AV.vport
      rw [← hur,elemsV_cellsG bcd_one _ 21 (upRow (fun _ => b) k ms row) j cap (by rfl)]
      rfl
     have hlt:(T ++ (upRow (fun _ => b) k ms row ++ [10])).length ≤ 2000000:=by simp; omega
     have hlt2:(upRow (fun _ => b) k ms row ++ [(10:UInt8)]).length ≤ 2000000:=by simp; omega
     simp only [go_sem,List.length_cons,List.length_nil]
     (repeat refine qJ ?_)
     (repeat ((first | refine Va ?_ | refine Vb ?_ | refine Vc ?_ | refine Vd ?_ | refine Ve ?_ | refine Vf ?_); (try simp only [go_sem,hP,hw2]); (repeat refine qJ ?_)))
     refine ⟨k + 1,by omega,by omega,?_⟩
     rw [hT2]
     (refine Sub_of (by simp only [go_sem]; ((repeat' (first | exact EnvLe_e0 _ _ | refine EnvLe_upd ?_ ?_)) <;> ((try simp only [upd_app,e0_app,o0_app,Nat.reduceEqDiff,reduceIte]); first | exact AWk.refl _ _ | exact AWk.int (by omega) | exact AWk.int (by rw [w64 (by omega) (by omega)]; omega) | exact AWk.grow rfl | exact AWk.nil _ | exact AWk.of (by simp [placesC])))) (by simp only [go_sem]; exact ObjLe_au))
  ·have hk:k = rows.length:=by simp at h; omega
   subst hk
   rw [List.take_of_length_le (by rw [hlu]; exact Nat.le_refl _)]
   (repeat ((first | refine Va ?_ | refine Vb ?_ | refine Vc ?_ | refine Vd ?_ | refine Ve ?_ | refine Vf ?_); (try simp only [go_sem,hP]); (repeat refine qJ ?_)))
   (refine WV_ret ?_; simp only [thenQ,inQ,RetQ,RetOk,resAll,resA]; simp only [go_sem,tupA,AV.port,AV.portL,exists_eq_left']; (first | exact AVle.of rfl | refine AVle.of ?_ | skip))
set_option maxRecDepth 20000 in
set_option maxHeartbeats 16000000 in
theorem told33 (rows right:List (List UInt8)) (ms:List (Int × Int)) (hr:rows.length ≤ 100) (hrl:∀ l ∈ rows,l.length ≤ 100) (hm:ms.length ≤ 1000000) (hri:right.length = rows.length) (hrr:∀ i,i < rows.length → (right.getD i []).length = (rows.getD i []).length):FSpec Tryd.prog 33 [.c (strsV rows),.c (strsV right),.c (placesC ms)] (.c (strsV (upR (fun i k => byAt right (i,k)) rows ms))):=by
 have hmax:maxLen = 9223372036854775807:=rfl
 obtain ⟨f,hf⟩ : ∃ f:Nat → Nat → UInt8,f = fun i k => byAt right (i,k):=⟨_,rfl⟩
 rw [← hf]
 have hlu:=upR_len f rows ms
 have hsn:=@upR_take f rows ms
 refine FSpec_of c33 (Nat.le_refl _) (by decide) fun C hP hN hC hL => ?_; rw [init_st]
 simp only [ir33,strsV]
 (repeat ((first | refine Va ?_ | refine Vb ?_ | refine Vc ?_ | refine Vd ?_ | refine Ve ?_ | refine Vf ?_); (try simp only [go_sem,hP]); (repeat refine qJ ?_)))
 refine WV_nilslot 7 74 9 1 (by decide) (by decide) rfl rfl ?_
 simp only [go_sem]
 refine WV_loopS (fun k:Nat => ⟨upd (upd (upd (upd (upd e0 0 (.c (.sl 1 (rows.map fun t => [CD.str t])))) 1 (.c (.sl 1 (right.map fun t => [CD.str t])))) 2 (.c (placesC ms))) 8 (iv k)) 7 (.gr 74),upd o0 74 (.grow 9 1 (((upR f rows ms).take k).map fun t => [CD.str t]))⟩) (fun k => k ≤ rows.length) (fun k => rows.length - k) 0 (Nat.zero_le _) ?_ ?_
 ·exact Sub_au
 ·intro k hk0
  (repeat ((first | refine Va ?_ | refine Vb ?_ | refine Vc ?_ | refine Vd ?_ | refine Ve ?_ | refine Vf ?_); (try simp only [go_sem,hP,List.length_map]); (repeat refine qJ ?_)))
  (refine WV_cond rfl (fun h => ?_) (fun h => ?_))
  ·have hk:k < rows.length:=by simpa using h
   have hk2:k < right.length:=by omega
   have hw2:=w64 (n:=(k:Int) + 1) (by omega) (by omega)
   have hs:=hsn hk
   have hrk:=hrl _ (List.getElem_mem hk)
   have hrr2:=hrr k hk
   rw [List.getD_eq_getElem?_getD,List.getD_eq_getElem?_getD,List.getElem?_eq_getElem hk,List.getElem?_eq_getElem hk2] at hrr2
   have hrr2:(right[k]).length = (rows[k]).length:=hrr2
   have hfk:∀ c,c < (right[k]).length → f k c = (right[k]).getD c 0:=fun c hc => by
    rw [hf]
    show (right.getD k []).getD c 0 = _
    rw [List.getD_eq_getElem?_getD (l:=right),List.getElem?_eq_getElem hk2]; rfl
   have n1:=strs_one ((upR f rows ms).take k)
   have n2:(((upR f rows ms).take k).map fun t => [CD.str t]).length = k:=by rw [List.length_map,List.length_take]; omega
   have hs2:((upR f rows ms).take (k + 1)).map (fun t => [CD.str t]) = ((upR f rows ms).take k).map (fun t => [CD.str t]) ++ [[CD.str (upRow (f k) k ms rows[k])]]:=by rw [hs,List.map_append]; rfl
   generalize (((upR f rows ms).take k).map fun t => [CD.str t]) = TX at n1 n2 hs2
   generalize hrow:rows[k] = row at hrk hs2 hrr2
   generalize hrgt:right[k] = rgt at hrr2 hfk
   (refine WV_skip ?_; simp only [go_sem])
   refine WV_seq_ (WV_block (WV_seq_ ?_))
   (refine WV_op ?_; simp only [go_sem,hP,map_getD hk,hrow,Int.toNat_natCast,Int.ofNat_lt,hk,Int.natCast_nonneg,List.length_map]; (repeat refine qJ ?_))
   refine raw_sb (s:=row) (x':=.t 20) (e:=5) (by kernel_rfl) (by kernel_rfl) (by kernel_rfl) rfl rfl rfl rfl (by omega) ?_
   intro cap j k1 k2 k3
   simp only [go_sem]
   (repeat ((first | refine Va ?_ | refine Vb ?_ | refine Vc ?_ | refine Vd ?_ | refine Ve ?_ | refine Vf ?_); (try simp only [go_sem,hP]); (repeat refine qJ ?_)))
   refine WV_loopS (fun i:Nat => ⟨upd (upd (upd (upd (upd (upd (upd e0 0 (.c (.sl 1 (rows.map fun t => [CD.str t])))) 1 (.c (.sl 1 (right.map fun t => [CD.str t])))) 2 (.c (placesC ms))) 8 (iv k)) 7 (.gr 74)) 9 (.vw 1 21 0 row.length cap)) 10 (iv i),upd (upd o0 74 (.grow 9 1 TX)) 21 (.box (cellsG bcd (upRow (f k) k (ms.take i) row) j))⟩) (fun i => i ≤ ms.length) (fun i => ms.length - i) 0 (Nat.zero_le _) ?_ ?_
   ·(refine Sub_of (by simp only [go_sem]; ((repeat' (first | exact EnvLe_e0 _ _ | refine EnvLe_upd ?_ ?_)) <;> ((try simp only [upd_app,e0_app,o0_app,Nat.reduceEqDiff,reduceIte]); first | exact AWk.refl _ _ | exact AWk.int (by omega) | exact AWk.int (by rw [w64 (by omega) (by omega)]; omega) | exact AWk.grow rfl | exact AWk.nil _ | exact AWk.of (by simp [upRow])))) (by simp only [go_sem]; exact ObjLe_au))
   ·intro i hi0
    have hur:=upRow_len (f k) k (ms.take i) row
    (repeat ((first | refine Va ?_ | refine Vb ?_ | refine Vc ?_ | refine Vd ?_ | refine Ve ?_ | refine Vf ?_); (try simp only [go_sem,hP,placesC,List.length_map]); (repeat refine qJ ?_)))
    (refine WV_cond rfl (fun h => ?_) (fun h => ?_))
    ·have hi:i < ms.length:=by simpa using h
     have hw3:=w64 (n:=(i:Int) + 1) (by omega) (by omega)
     have hgd:(ms.map placeC).getD i [] = placeC ms[i]:=map_getD hi
     have hus:=upRow_snoc (f k) k (ms.take i) ms[i] row
     rw [← List.take_succ_eq_append_getElem hi,hur] at hus
     generalize ms[i] = m at hgd hus
     (refine WV_skip ?_; simp only [go_sem])
     refine WV_seq_ (WV_block (WV_seq_ ?_))
     (refine WV_op ?_; simp only [go_sem,hP,hgd,placesC,placeC,Int.toNat_natCast,Int.ofNat_lt,hi,Int.natCast_nonneg,List.length_map]; (repeat refine qJ ?_))
     by_cases hc:m.1 = (k:Int) ∧ 0 ≤ m.2 ∧ m.2 < (row.length:Int)
     ·rw [if_pos hc] at hus
      obtain ⟨c1,c2,c3⟩:=hc
      have hmt:m.2.toNat < row.length:=by omega
      have hmr:m.2.toNat < rgt.length:=by omega
      have hset:=bcells_set (l:=upRow (f k) k (ms.take i) row) (k:=m.2.toNat) (by omega) j (f k m.2.toNat)
      have hcl:m.2.toNat < (cellsG bcd (upRow (f k) k (ms.take i) row) j).length:=by rw [cellsG_len bcd_one]; omega
      rw [← hus] at hset
      have hfm:=hfk _ hmr
      (refine WV_cond rfl (fun h => ?_) (fun h => ?_))
      ·(repeat ((first | refine Va ?_ | refine Vb ?_ | refine Vc ?_ | refine Vd ?_ | refine Ve ?_ | refine Vf ?_); (try simp only [go_sem,hP,hgd,placesC,placeC,Int.toNat_natCast,Int.ofNat_lt,hi,hk2,hrgt,map_getD hk2,hmr,← hfm,Int.natCast_nonneg,List.length_map,c2,c3,hmt,hcl,Nat.mul_one,Nat.zero_add,Nat.add_zero,hset,hw3]); (repeat refine qJ ?_)))
       refine ⟨i + 1,by omega,by omega,?_⟩
       (refine Sub_of (by simp only [go_sem]; ((repeat' (first | exact EnvLe_e0 _ _ | refine EnvLe_upd ?_ ?_)) <;> ((try simp only [upd_app,e0_app,o0_app,Nat.reduceEqDiff,reduceIte]); first | exact AWk.refl _ _ | exact AWk.int (by omega) | exact AWk.int (by rw [w64 (by omega) (by omega)]; omega) | exact AWk.grow rfl | exact AWk.nil _ | exact AWk.of (by simp [placesC])))) (by simp only [go_sem]; exact ObjLe_au))
      ·simp [c1,c2,c3] at h
     ·rw [if_neg hc] at hus
      (refine WV_cond rfl (fun h => ?_) (fun h => ?_))
      ·simp at h; exact (hc ⟨h.1.1,h.1.2,h.2⟩).elim
      ·(repeat ((first | refine Va ?_ | refine Vb ?_ | refine Vc ?_ | refine Vd ?_ | refine Ve ?_ | refine Vf ?_); (try simp only [go_sem,hP,hw3]); (repeat refine qJ ?_)))
       refine ⟨i + 1,by omega,by omega,?_⟩
       rw [hus]
       (refine Sub_of (by simp only [go_sem]; ((repeat' (first | exact EnvLe_e0 _ _ | refine EnvLe_upd ?_ ?_)) <;> ((try simp only [upd_app,e0_app,o0_app,Nat.reduceEqDiff,reduceIte]); first | exact AWk.refl _ _ | exact AWk.int (by omega) | exact AWk.int (by rw [w64 (by omega) (by omega)]; omega) | exact AWk.grow rfl | exact AWk.nil _ | exact AWk.of (by simp [placesC])))) (by simp only [go_sem]; exact ObjLe_au))
    ·have hi:i = ms.length:=by simp at h; omega
     subst hi
     rw [List.take_length] at hur ⊢
     refine WV_exit ?_
     simp only [thenQ,inQ,reduceIte,beq_self_eq_true]
     (refine WV_op ?_; simp only [go_sem,hP,n1,n2]; (repeat refine qJ ?_))
     refine raw_bs (s:=upRow (f k) k ms row) (x':=.t 71) (e:=5) (by kernel_rfl) (by kernel_rfl) (by kernel_rfl) rfl rfl ?_ ?_
     ·show AV.vport _ (.vw 1 21 0 row.length cap) = _
      unfold AV.vport
      rw [← hur,elemsV_cellsG bcd_one _ 21 (upRow (f k) k ms row) j cap (by rfl)]
      rfl
     simp only [go_sem,n1,n2,List.length_cons,List.length_nil]
     (repeat refine qJ ?_)
     (repeat ((first | refine Va ?_ | refine Vb ?_ | refine Vc ?_ | refine Vd ?_ | refine Ve ?_ | refine Vf ?_); (try simp only [go_sem,hP,hw2,n1,n2]); (repeat refine qJ ?_)))
     refine ⟨k + 1,by omega,by omega,?_⟩
     rw [hs2]
     (refine Sub_of (by simp only [go_sem]; ((repeat' (first | exact EnvLe_e0 _ _ | refine EnvLe_upd ?_ ?_)) <;> ((try simp only [upd_app,e0_app,o0_app,Nat.reduceEqDiff,reduceIte]); first | exact AWk.refl _ _ | exact AWk.int (by omega) | exact AWk.int (by rw [w64 (by omega) (by omega)]; omega) | exact AWk.grow rfl | exact AWk.nil _ | exact AWk.of (by simp [placesC])))) (by simp only [go_sem]; exact ObjLe_au))
  ·have hk:k = rows.length:=by simp at h; omega
   subst hk
   rw [List.take_of_length_le (by rw [hlu]; exact Nat.le_refl _)]
   (repeat ((first | refine Va ?_ | refine Vb ?_ | refine Vc ?_ | refine Vd ?_ | refine Ve ?_ | refine Vf ?_); (try simp only [go_sem,hP]); (repeat refine qJ ?_)))
   (refine WV_ret ?_; simp only [thenQ,inQ,RetQ,RetOk,resAll,resA]; simp only [go_sem,tupA,AV.port,AV.portL,exists_eq_left']; (first | exact AVle.of rfl | refine AVle.of ?_ | skip))
end Go.Proofs.YtlmfdmlochpfcaaDoor

namespace Go.Proofs.YtlmfdmlochpfcaaDoor
open Go Go.V
abbrev o34_0:List Ins:=[⟨some 2,.mv (.k (.c (.raw (.slice none 0 0)))),none,true⟩]
abbrev o34_1:List Ins:=[⟨some 3,.mv (.k (.c (.raw (.slice none 0 0)))),none,true⟩]
abbrev o34_2:List Ins:=[⟨some 4,.mv (.k (.c (.int .i64 0))),none,true⟩]
abbrev o34_3:List Ins:=[⟨some 5,.mv (.k (.c (.int .i64 0))),none,true⟩]
abbrev o34_4:List Ins:=[⟨some 6,.mv (.t 5),none,true⟩,
 ⟨some 7,.mv (.t 0),none,true⟩,
 ⟨some 8,.prim .slen [(.t 7)],none,true⟩,
 ⟨some 9,.bin .lss (.t 6) (.t 8),none,true⟩]
abbrev v34_5:VC:=(.cond (.t 9) .skip (.exit 0))
abbrev o34_6:List Ins:=[⟨some 12,.mv (.t 0),none,true⟩,
 ⟨some 13,.mv (.t 5),none,true⟩,
 ⟨some 14,.prim .sidx [(.t 12),(.t 13)],none,true⟩,
 ⟨some 15,.bin .eql (.t 14) (.k (.c (.int .u8 10))),none,true⟩]
abbrev o34_7:List Ins:=[⟨some 16,.mv (.t 3),none,true⟩,
 ⟨some 17,.mv (.t 0),none,true⟩,
 ⟨some 18,.mv (.t 4),none,true⟩,
 ⟨some 19,.mv (.t 5),none,true⟩,
 ⟨some 20,.prim (.sslc true true) [(.t 17),(.t 18),(.t 19)],none,true⟩,
 ⟨some 21,.bsl 9 1 [(.t 20)],none,true⟩,
 ⟨some 22,.app 9 1 16 (.t 16) (.t 21),none,true⟩,
 ⟨some 3,.mv (.t 22),none,true⟩]
abbrev o34_8:List Ins:=[⟨some 23,.mv (.t 5),none,true⟩,
 ⟨some 24,.bin .add (.t 23) (.k (.c (.int .i64 1))),none,true⟩,
 ⟨some 4,.mv (.t 24),none,true⟩]
abbrev v34_9:VC:=(.seq (.ops o34_7) (.ops o34_8))
abbrev v34_10:VC:=(.cond (.t 15) v34_9 .skip)
abbrev v34_11:VC:=(.seq (.ops o34_6) v34_10)
abbrev o34_12:List Ins:=[⟨some 10,.mv (.t 5),none,true⟩,
 ⟨some 11,.bin .add (.t 10) (.k (.c (.int .i64 1))),none,true⟩,
 ⟨some 5,.mv (.t 11),none,true⟩]
abbrev v34_13:VC:=(.seq (.block 1 v34_11) (.ops o34_12))
abbrev v34_14:VC:=(.seq (.seq (.ops o34_4) v34_5) v34_13)
-- K34_1: changed and kept: [5,3,4]
abbrev K34_1:List Nat:=[0]
abbrev v34_15:VC:=(.loop v34_14)
abbrev v34_16:VC:=(.block 0 v34_15)
abbrev o34_17:List Ins:=[⟨some 25,.mv (.t 3),none,true⟩,
 ⟨some 2,.mv (.t 25),none,true⟩]
abbrev v34_18:VC:=(.seq (.ops o34_17) .ret)
abbrev v34_19:VC:=(.seq (.seq (.ops o34_3) v34_16) v34_18)
abbrev v34_20:VC:=(.seq (.ops o34_2) v34_19)
abbrev v34_21:VC:=(.seq (.ops o34_1) v34_20)
def ir34:FC:=⟨1,26,[.t 2],(.seq (.ops o34_0) v34_21)⟩
abbrev o17_0:List Ins:=[⟨some 2,.mv (.k (.c (.str []))),none,true⟩,
 ⟨some 3,.mv (.k (.c (.raw (.slice none 0 0)))),none,true⟩,
 ⟨some 4,.mv (.k (.c (.bool false))),none,true⟩]
abbrev o17_1:List Ins:=[⟨some 11,.mv (.t 0),none,true⟩,
 ⟨some 12,.call (.k (.fn 24 [])) [(.t 11)],none,true⟩,
 ⟨some 10,.mv (.t 12),none,true⟩,
 ⟨some 13,.ext (.t 10) 0,none,true⟩,
 ⟨some 14,.ext (.t 10) 1,none,true⟩,
 ⟨some 5,.mv (.t 13),none,true⟩,
 ⟨some 6,.mv (.t 14),none,true⟩]
abbrev o17_2:List Ins:=[⟨some 15,.mv (.t 6),none,true⟩,
 ⟨some 16,.bin .neq (.t 15) (.k (.c (.int .i64 0))),none,true⟩,
 ⟨some 17,.mv (.t 16),none,true⟩,
 ⟨some 18,.mv (.t 5),(some (17,false)),true⟩,
 ⟨some 19,.call (.k (.fn 26 [])) [(.t 18)],(some (17,false)),true⟩,
 ⟨some 20,.pick (.t 17) (.k (.c (.bool true))) (.t 19),none,true⟩]
abbrev o17_3:List Ins:=[⟨some 2,.mv (.k (.c (.str []))),none,true⟩,
 ⟨some 3,.mv (.k (.c (.raw (.slice none 0 0)))),none,true⟩,
 ⟨some 4,.mv (.k (.c (.bool false))),none,true⟩]
abbrev v17_4:VC:=(.seq (.ops o17_3) .ret)
abbrev v17_5:VC:=(.cond (.t 20) v17_4 .skip)
abbrev o17_6:List Ins:=[⟨some 7,.mv (.k (.c (.int .i64 0))),none,true⟩]
abbrev o17_7:List Ins:=[⟨some 8,.mv (.k (.c (.int .i64 0))),none,true⟩]
abbrev o17_8:List Ins:=[⟨some 21,.mv (.t 8),none,true⟩,
 ⟨some 22,.mv (.t 5),none,true⟩,
 ⟨some 23,.prim .slen [(.t 22)],none,true⟩,
 ⟨some 24,.bin .lss (.t 21) (.t 23),none,true⟩]
abbrev v17_9:VC:=(.cond (.t 24) .skip (.exit 0))
abbrev o17_10:List Ins:=[⟨some 27,.mv (.t 5),none,true⟩,
 ⟨some 28,.mv (.t 8),none,true⟩,
 ⟨some 29,.prim .sidx [(.t 27),(.t 28)],none,true⟩,
 ⟨some 30,.bin .eql (.t 29) (.k (.c (.int .u8 10))),none,true⟩]
abbrev o17_11:List Ins:=[⟨some 31,.mv (.t 3),none,true⟩,
 ⟨some 32,.mv (.t 5),none,true⟩,
 ⟨some 33,.mv (.t 7),none,true⟩,
 ⟨some 34,.mv (.t 8),none,true⟩,
 ⟨some 35,.prim (.sslc true true) [(.t 32),(.t 33),(.t 34)],none,true⟩,
 ⟨some 36,.bsl 9 1 [(.t 35)],none,true⟩,
 ⟨some 37,.app 9 1 16 (.t 31) (.t 36),none,true⟩,
 ⟨some 3,.mv (.t 37),none,true⟩]
abbrev o17_12:List Ins:=[⟨some 38,.mv (.t 8),none,true⟩,
 ⟨some 39,.bin .add (.t 38) (.k (.c (.int .i64 1))),none,true⟩,
 ⟨some 7,.mv (.t 39),none,true⟩]
abbrev v17_13:VC:=(.seq (.ops o17_11) (.ops o17_12))
abbrev v17_14:VC:=(.cond (.t 30) v17_13 .skip)
abbrev v17_15:VC:=(.seq (.ops o17_10) v17_14)
abbrev o17_16:List Ins:=[⟨some 25,.mv (.t 8),none,true⟩,
 ⟨some 26,.bin .add (.t 25) (.k (.c (.int .i64 1))),none,true⟩,
 ⟨some 8,.mv (.t 26),none,true⟩]
abbrev v17_17:VC:=(.seq (.block 1 v17_15) (.ops o17_16))
abbrev v17_18:VC:=(.seq (.seq (.ops o17_8) v17_9) v17_17)
-- K17_1: changed and kept: [8,3,7]
abbrev v17_19:VC:=(.loop v17_18)
abbrev v17_20:VC:=(.block 0 v17_19)
abbrev o17_21:List Ins:=[⟨some 40,.mv (.t 7),none,true⟩,
 ⟨some 41,.mv (.t 5),none,true⟩,
 ⟨some 42,.prim .slen [(.t 41)],none,true⟩,
 ⟨some 43,.bin .neq (.t 40) (.t 42),none,true⟩,
 ⟨some 44,.mv (.t 43),none,true⟩,
 ⟨some 45,.mv (.t 3),(some (44,false)),true⟩,
 ⟨some 46,.len (.t 45),(some (44,false)),true⟩,
 ⟨some 47,.mv (.t 0),(some (44,false)),true⟩,
 ⟨some 48,.len (.t 47),(some (44,false)),true⟩,
 ⟨some 49,.bin .add (.t 48) (.k (.c (.int .i64 1))),(some (44,false)),true⟩,
 ⟨some 50,.bin .neq (.t 46) (.t 49),(some (44,false)),true⟩,
 ⟨some 51,.pick (.t 44) (.k (.c (.bool true))) (.t 50),none,true⟩]
abbrev o17_22:List Ins:=[⟨some 2,.mv (.k (.c (.str []))),none,true⟩,
 ⟨some 3,.mv (.k (.c (.raw (.slice none 0 0)))),none,true⟩,
 ⟨some 4,.mv (.k (.c (.bool false))),none,true⟩]
abbrev v17_23:VC:=(.seq (.ops o17_22) .ret)
abbrev v17_24:VC:=(.cond (.t 51) v17_23 .skip)
abbrev o17_25:List Ins:=[⟨some 9,.mv (.k (.c (.int .i64 0))),none,true⟩]
abbrev o17_26:List Ins:=[⟨some 52,.mv (.t 9),none,true⟩,
 ⟨some 53,.mv (.t 3),none,true⟩,
 ⟨some 54,.len (.t 53),none,true⟩,
 ⟨some 55,.bin .lss (.t 52) (.t 54),none,true⟩]
abbrev v17_27:VC:=(.cond (.t 55) .skip (.exit 2))
abbrev o17_28:List Ins:=[⟨some 58,.mv (.t 3),none,false⟩,
 ⟨some 59,.mv (.t 9),none,false⟩,
 ⟨some 60,.ia 1 (.t 58) (.t 59),none,false⟩,
 ⟨some 61,.ld true 1 (.t 60),none,false⟩,
 ⟨some 62,.prim .slen [(.t 61)],none,false⟩,
 ⟨some 63,.mv (.t 3),none,false⟩,
 ⟨some 64,.ia 1 (.t 63) (.k (.c (.int .i64 0))),none,false⟩,
 ⟨some 65,.ld true 1 (.t 64),none,false⟩,
 ⟨some 66,.prim .slen [(.t 65)],none,false⟩,
 ⟨some 67,.bin .neq (.t 62) (.t 66),none,true⟩,
 ⟨some 68,.mv (.t 67),none,true⟩,
 ⟨some 69,.mv (.t 3),(some (68,false)),false⟩,
 ⟨some 70,.mv (.t 9),(some (68,false)),false⟩,
 ⟨some 71,.ia 1 (.t 69) (.t 70),(some (68,false)),true⟩,
 ⟨some 72,.ld true 1 (.t 71),(some (68,false)),true⟩,
 ⟨some 73,.prim .slen [(.t 72)],(some (68,false)),true⟩,
 ⟨some 74,.bin .lss (.t 73) (.k (.c (.int .i64 2))),(some (68,false)),true⟩,
 ⟨some 75,.pick (.t 68) (.k (.c (.bool true))) (.t 74),none,true⟩]
abbrev o17_29:List Ins:=[⟨some 2,.mv (.k (.c (.str []))),none,true⟩,
 ⟨some 3,.mv (.k (.c (.raw (.slice none 0 0)))),none,true⟩,
 ⟨some 4,.mv (.k (.c (.bool false))),none,true⟩]
abbrev v17_30:VC:=(.seq (.ops o17_29) .ret)
abbrev v17_31:VC:=(.cond (.t 75) v17_30 .skip)
abbrev v17_32:VC:=(.seq (.dops o17_28) v17_31)
abbrev o17_33:List Ins:=[⟨some 56,.mv (.t 9),none,true⟩,
 ⟨some 57,.bin .add (.t 56) (.k (.c (.int .i64 1))),none,true⟩,
 ⟨some 9,.mv (.t 57),none,true⟩]
abbrev v17_34:VC:=(.seq (.block 3 v17_32) (.ops o17_33))
abbrev v17_35:VC:=(.seq (.seq (.ops o17_26) v17_27) v17_34)
-- K17_2: changed and kept: [9,3]
abbrev v17_36:VC:=(.loop v17_35)
abbrev v17_37:VC:=(.block 2 v17_36)
abbrev o17_38:List Ins:=[⟨some 76,.mv (.t 5),none,true⟩,
 ⟨some 77,.mv (.t 3),none,true⟩,
 ⟨some 2,.mv (.t 76),none,true⟩,
 ⟨some 3,.mv (.t 77),none,true⟩,
 ⟨some 4,.mv (.k (.c (.bool true))),none,true⟩]
abbrev v17_39:VC:=(.seq (.ops o17_38) .ret)
abbrev v17_40:VC:=(.seq (.seq (.ops o17_25) v17_37) v17_39)
abbrev v17_41:VC:=(.seq (.seq (.ops o17_21) v17_24) v17_40)
abbrev v17_42:VC:=(.seq (.seq (.ops o17_7) v17_20) v17_41)
abbrev v17_43:VC:=(.seq (.ops o17_6) v17_42)
abbrev v17_44:VC:=(.seq (.seq (.ops o17_2) v17_5) v17_43)
abbrev v17_45:VC:=(.seq (.ops o17_1) v17_44)
def ir17:FC:=⟨1,78,[.t 2,.t 3,.t 4],(.seq (.ops o17_0) v17_45)⟩
theorem c34:compM Tryd.prog [] 34 = some ir34:=by kernel_rfl
theorem c17:compM Tryd.prog [] 17 = some ir17:=by kernel_rfl
attribute [local go_sem] Nat.reduceEqDiff Nat.reduceAdd Nat.reduceMul reduceIte Nat.reduceLeDiff Nat.reduceLT Nat.reduceBEq reduceCtorEq
def lnK (s:List UInt8):Nat → List (List UInt8) × Nat
 | 0 => ([],0)
 | i + 1 => if s.getD i 0 = 10 then ((lnK s i).1 ++ [(s.take i).drop (lnK s i).2],i + 1) else lnK s i
theorem lnK_le (s:List UInt8):∀ i,(lnK s i).2 ≤ i ∧ (lnK s i).1.length ≤ i
 | 0 => ⟨Nat.le_refl _,Nat.le_refl _⟩
 | i + 1 => by
  have:=lnK_le s i
  unfold lnK
  split
  ·simp only [List.length_append,List.length_cons,List.length_nil]; omega
  ·omega
theorem lnK_pre (a c:List UInt8):∀ i,i ≤ a.length → lnK (a ++ c) i = lnK a i
 | 0,_ => rfl
 | i + 1,h => by
  have ih:=lnK_pre a c i (by omega)
  unfold lnK
  rw [ih,List.getD_eq_getElem?_getD,List.getElem?_append_left (by omega),← List.getD_eq_getElem?_getD,List.take_append_of_le_length (by omega)]
theorem lnK_line {T l c:List UInt8} {p:List (List UInt8) × Nat} (h:lnK T T.length = p) (hl:(10:UInt8) ∉ l):∀ i,i ≤ l.length → lnK (T ++ (l ++ c)) (T.length + i) = p
 | 0,_ => by rw [Nat.add_zero,lnK_pre _ _ _ (Nat.le_refl _),h]
 | i + 1,hi => by
  have ih:=lnK_line (c:=c) h hl i (by omega)
  rw [← Nat.add_assoc]
  unfold lnK
  rw [if_neg,ih]
  rw [List.getD_eq_getElem?_getD,List.getElem?_append_right (by omega),Nat.add_sub_cancel_left,List.getElem?_append_left (by omega),List.getElem?_eq_getElem (by omega)]
  exact fun e => hl (e ▸ List.getElem_mem _)
theorem lnK_snoc {T l:List UInt8} {rows:List (List UInt8)} (h:lnK T T.length = (rows,T.length)) (hl:(10:UInt8) ∉ l):lnK (T ++ (l ++ [10])) (T ++ (l ++ [10])).length = (rows ++ [l],(T ++ (l ++ [10])).length):=by
 have h1:=lnK_line (c:=[10]) h hl l.length (Nat.le_refl _)
 have e:(T ++ (l ++ [(10:UInt8)])).length = (T.length + l.length) + 1:=by simp; omega
 rw [e]
 unfold lnK
 rw [if_pos,h1]
 ·refine Prod.ext ?_ rfl
  simp only
  congr 2
  rw [← List.append_assoc,List.take_append_of_le_length (by simp),List.take_of_length_le (by simp),List.drop_append_of_le_length (by simp),List.drop_of_length_le (by simp),List.nil_append]
 ·rw [List.getD_eq_getElem?_getD,List.getElem?_append_right (by omega),Nat.add_sub_cancel_left,List.getElem?_append_right (by omega),Nat.sub_self]; rfl
theorem lnK_text:∀ (k:Nat) (rows:List (List UInt8)),rows.length = k → (∀ l ∈ rows,(10:UInt8) ∉ l) → lnK (textG rows) (textG rows).length = (rows,(textG rows).length)
 | 0,rows,hk,_ => by
  have:=List.eq_nil_of_length_eq_zero hk
  subst this; rfl
 | k + 1,rows,hk,h => by
  have hne:rows ≠ []:=fun e => by rw [e] at hk; simp at hk
  have hd:=List.dropLast_concat_getLast hne
  have ih:=lnK_text k rows.dropLast (by rw [List.length_dropLast,hk]; rfl) fun l hl => h l ((List.dropLast_sublist rows).subset hl)
  have hl:=h _ (List.getLast_mem hne)
  generalize rows.getLast hne = l at hd hl
  generalize rows.dropLast = R at hd ih
  subst hd
  have e:textG (R ++ [l]) = textG R ++ (l ++ [10]):=by unfold textG; rw [List.flatMap_append]; simp
  rw [e]
  exact lnK_snoc ih hl
theorem SOk.no10 {rows:List (List UInt8)} {w:Nat} (h:SOk rows w):∀ l ∈ rows,(10:UInt8) ∉ l:=by
 intro l hl hc
 have:=h.byte l hl 10 hc
 unfold BOk at this
 revert this; decide
theorem lines_sok {rows:List (List UInt8)} {w:Nat} (h:SOk rows w):lnK (textG rows) (textG rows).length = (rows,(textG rows).length):=lnK_text _ rows rfl h.no10
theorem lnK_succ {s:List UInt8} {i:Nat} (h:i < s.length):lnK s (i + 1) = if s[i] = 10 then ((lnK s i).1 ++ [(s.take i).drop (lnK s i).2],i + 1) else lnK s i:=by
 conv => lhs; unfold lnK
 rw [str_at h]
set_option maxRecDepth 20000 in
set_option maxHeartbeats 16000000 in
theorem lines34 (s:List UInt8) (hs:s.length ≤ 100000):FSpec Tryd.prog 34 [sv s] (.c (strsV (lnK s s.length).1)):=by
 have hmax:maxLen = 9223372036854775807:=rfl
 refine FSpec_of c34 (Nat.le_refl _) (by decide) fun C hP hN hC hL => ?_; rw [init_st]
 simp only [ir34]
 (repeat ((first | refine Va ?_ | refine Vb ?_ | refine Vc ?_ | refine Vd ?_ | refine Ve ?_ | refine Vf ?_); (try simp only [go_sem,hP]); (repeat refine qJ ?_)))
 refine WV_nilslot 3 22 9 1 (by decide) (by decide) rfl rfl ?_
 simp only [go_sem]
 refine WV_loopK K34_1 [22] (fun k:Nat => k ≤ s.length) (fun k => s.length - k) (fun k => [(5,iv k),(4,iv (lnK s k).2),(3,.gr 22)]) (fun k => [(22,.grow 9 1 ((lnK s k).1.map fun r => [CD.str r]))]) 0 (Nat.zero_le _) ?_ ?_
 ·(refine Sub_of (by simp only [go_sem]; ((repeat' (first | exact EnvLe_e0 _ _ | refine EnvLe_upd ?_ ?_)) <;> ((try simp only [upd_app,e0_app,o0_app,Nat.reduceEqDiff,reduceIte]); first | exact AWk.refl _ _ | exact AWk.int (by omega) | exact AWk.int (by rw [w64 (by omega) (by omega)]; omega) | exact AWk.grow rfl | exact AWk.nil _ | exact AWk.of (by simp [lnK])))) (by simp only [go_sem]; exact ObjLe_au))
 ·intro k hk0
  simp only [go_sem]
  (repeat ((first | refine Va ?_ | refine Vb ?_ | refine Vc ?_ | refine Vd ?_ | refine Ve ?_ | refine Vf ?_); (try simp only [go_sem,hP]); (repeat refine qJ ?_)))
  (refine WV_cond rfl (fun h => ?_) (fun h => ?_))
  ·have hk:k < s.length:=by simpa using h
   have hst:=str_at hk
   have hsn:=lnK_succ hk
   have hw2:=w64 (n:=(k:Int) + 1) (by omega) (by omega)
   obtain ⟨q1,q2⟩:=lnK_le s k
   have n1:=strs_one (lnK s k).1
   generalize lnK s k = p at hsn q1 q2 n1
   generalize s[k] = c at hst hsn
   (refine WV_skip ?_; simp only [go_sem])
   refine WV_seq_ (WV_block (WV_seq_ ?_))
   (refine WV_op ?_; simp only [go_sem,hP,hst,Int.toNat_natCast,Int.ofNat_lt,hk,Int.natCast_nonneg]; (repeat refine qJ ?_))
   by_cases hc:c = 10
   ·subst hc
    rw [if_pos rfl,List.drop_take] at hsn
    (refine WV_cond rfl (fun h => ?_) (fun h => ?_))
    ·(repeat ((first | refine Va ?_ | refine Vb ?_ | refine Vc ?_ | refine Vd ?_ | refine Ve ?_ | refine Vf ?_); (try simp only [go_sem,hP,Int.toNat_natCast,n1,List.length_map,hw2]); (repeat refine qJ ?_)))
     refine ⟨k + 1,by omega,by omega,?_⟩
     rw [hsn]
     exact Sub_au
    ·simp at h
   ·have hcb:((c.toNat:Int) == 10) = false:=by
     rw [beq_eq_false_iff_ne]
     exact fun e => hc (UInt8.toNat_inj.1 (by show _ = 10; omega))
    rw [if_neg hc] at hsn
    (refine WV_cond rfl (fun h => ?_) (fun h => ?_))
    ·rw [hcb] at h; simp at h
    ·(repeat ((first | refine Va ?_ | refine Vb ?_ | refine Vc ?_ | refine Vd ?_ | refine Ve ?_ | refine Vf ?_); (try simp only [go_sem,hP,hw2]); (repeat refine qJ ?_)))
     refine ⟨k + 1,by omega,by omega,?_⟩
     rw [hsn]
     exact Sub_au
  ·have hk:k = s.length:=by simp at h; omega
   subst hk
   (repeat ((first | refine Va ?_ | refine Vb ?_ | refine Vc ?_ | refine Vd ?_ | refine Ve ?_ | refine Vf ?_); (try simp only [go_sem,hP]); (repeat refine qJ ?_)))
   (refine WV_ret ?_; simp only [thenQ,inQ,RetQ,RetOk,resAll,resA]; simp only [go_sem,tupA,AV.port,AV.portL,exists_eq_left']; (first | exact AVle.of rfl | refine AVle.of ?_ | skip))
set_option maxRecDepth 20000 in
set_option maxHeartbeats 16000000 in
theorem good17 {ts:List (List UInt8)} (hts:∀ s ∈ ts,s.length ≤ 1000000) (htl:ts.length ≤ 1000000) {rows:List (List UInt8)} {w:Nat} (hok:SOk rows w) (hrl:rows.length = ts.length + 1) (hwr:FSpec Tryd.prog 24 [.c (strsV ts)] (.tup [.c (.str (textG rows)),iv 0])):FSpec Tryd.prog 17 [.c (strsV ts)] (.tup [sv (textG rows),.c (strsV rows),bv true]):=by
 have hmax:maxLen = 9223372036854775807:=rfl
 have hln:=lines_sok hok
 have h41:=hok.len
 have h32:=hok.w32
 have h2:=hok.w2
 have htl2:=textG_length rows w hok.row
 have htl3:rows.length * (w + 1) ≤ 41 * 33:=Nat.mul_le_mul h41 (by omega)
 have hrow:=hok.row
 generalize hS:textG rows = s at hln htl2 hwr ⊢
 have hs2:s.length ≤ 1353:=by omega
 have hlg:=large26 s
 refine FSpec_ofP c17 (Nat.le_refl _) (by decide) fun C hP hN hC hpin hL => ?_; rw [init_st]
 simp only [ir17,strsV]
 (repeat ((first | refine Va ?_ | refine Vb ?_ | refine Vc ?_ | refine Vd ?_ | refine Ve ?_ | refine Vf ?_); (try simp only [go_sem,hP]); (repeat refine qJ ?_)))
 have hwr':FSpec Tryd.prog 24 [.c (.sl 1 (ts.map fun t => [CD.str t]))] (.tup [.c (.str s),iv 0]):=hwr
 (refine AS_pu (hwr') ?_; simp only [go_sem,hP]; (repeat refine qJ ?_); (repeat ((first | refine Va ?_ | refine Vb ?_ | refine Vc ?_ | refine Vd ?_ | refine Ve ?_ | refine Vf ?_); (try simp only [go_sem,hP]); (repeat refine qJ ?_))))
 (refine AG_pu (fun hG => hlg) ?_; simp only [go_sem,hP]; (repeat refine qJ ?_); (repeat ((first | refine Va ?_ | refine Vb ?_ | refine Vc ?_ | refine Vd ?_ | refine Ve ?_ | refine Vf ?_); (try simp only [go_sem,hP]); (repeat refine qJ ?_))))
 (refine WV_cond rfl (fun h => ?_) (fun h => ?_))
 ·simp at h; omega
 (repeat ((first | refine Va ?_ | refine Vb ?_ | refine Vc ?_ | refine Vd ?_ | refine Ve ?_ | refine Vf ?_); (try simp only [go_sem,hP]); (repeat refine qJ ?_)))
 refine WV_nilslot 3 37 9 1 (by decide) (by decide) rfl rfl ?_
 simp only [go_sem]
 refine WV_loopS (fun k:Nat => ⟨upd (upd (upd (upd (upd e0 0 (.c (.sl 1 (ts.map fun t => [CD.str t])))) 5 (sv s)) 8 (iv k)) 7 (iv (lnK s k).2)) 3 (.gr 37),upd o0 37 (.grow 9 1 ((lnK s k).1.map fun r => [CD.str r]))⟩) (fun k => k ≤ s.length) (fun k => s.length - k) 0 (Nat.zero_le _) ?_ ?_
 ·(refine Sub_of (by simp only [go_sem]; ((repeat' (first | exact EnvLe_e0 _ _ | refine EnvLe_upd ?_ ?_)) <;> ((try simp only [upd_app,e0_app,o0_app,Nat.reduceEqDiff,reduceIte]); first | exact AWk.refl _ _ | exact AWk.int (by omega) | exact AWk.int (by rw [w64 (by omega) (by omega)]; omega) | exact AWk.grow rfl | exact AWk.nil _ | exact AWk.of (by simp [lnK])))) (by simp only [go_sem]; exact ObjLe_au))
 intro k hk0
 (repeat ((first | refine Va ?_ | refine Vb ?_ | refine Vc ?_ | refine Vd ?_ | refine Ve ?_ | refine Vf ?_); (try simp only [go_sem,hP]); (repeat refine qJ ?_)))
 (refine WV_cond rfl (fun h => ?_) (fun h => ?_))
 ·have hk:k < s.length:=by simpa using h
  have hst:=str_at hk
  have hsn:=lnK_succ hk
  have hw2:=w64 (n:=(k:Int) + 1) (by omega) (by omega)
  obtain ⟨q1,q2⟩:=lnK_le s k
  have n1:=strs_one (lnK s k).1
  generalize lnK s k = p at hsn q1 q2 n1
  generalize s[k] = c at hst hsn
  (refine WV_skip ?_; simp only [go_sem])
  refine WV_seq_ (WV_block (WV_seq_ ?_))
  (refine WV_op ?_; simp only [go_sem,hP,hst,Int.toNat_natCast,Int.ofNat_lt,hk,Int.natCast_nonneg]; (repeat refine qJ ?_))
  by_cases hc:c = 10
  ·subst hc
   rw [if_pos rfl,List.drop_take] at hsn
   (refine WV_cond rfl (fun h => ?_) (fun h => ?_))
   ·(repeat ((first | refine Va ?_ | refine Vb ?_ | refine Vc ?_ | refine Vd ?_ | refine Ve ?_ | refine Vf ?_); (try simp only [go_sem,hP,Int.toNat_natCast,n1,List.length_map,hw2]); (repeat refine qJ ?_)))
    refine ⟨k + 1,by omega,by omega,?_⟩
    rw [hsn]
    exact Sub_au
   ·simp at h
  ·have hcb:((c.toNat:Int) == 10) = false:=by
    rw [beq_eq_false_iff_ne]
    exact fun e => hc (UInt8.toNat_inj.1 (by show _ = 10; omega))
   rw [if_neg hc] at hsn
   (refine WV_cond rfl (fun h => ?_) (fun h => ?_))
   ·rw [hcb] at h; simp at h
   ·(repeat ((first | refine Va ?_ | refine Vb ?_ | refine Vc ?_ | refine Vd ?_ | refine Ve ?_ | refine Vf ?_); (try simp only [go_sem,hP,hw2]); (repeat refine qJ ?_)))
    refine ⟨k + 1,by omega,by omega,?_⟩
    rw [hsn]
    exact Sub_au
 have hk:k = s.length:=by simp at h; omega
 subst hk
 rw [hln]
 have hw3:=w64 (n:=(ts.length:Int) + 1) (by omega) (by omega)
 have hrr:((rows.length:Int) != (ts.length:Int) + 1) = false:=by rw [hrl]; simp
 refine WV_exit ?_
 simp only [thenQ,inQ,reduceIte,beq_self_eq_true]
 (repeat ((first | refine Va ?_ | refine Vb ?_ | refine Vc ?_ | refine Vd ?_ | refine Ve ?_ | refine Vf ?_); (try simp only [go_sem,hP,List.length_map,hw3,hrr]); (repeat refine qJ ?_)))
 (refine WV_cond rfl (fun h => ?_) (fun h => ?_))
 ·simp at h
 (repeat ((first | refine Va ?_ | refine Vb ?_ | refine Vc ?_ | refine Vd ?_ | refine Ve ?_ | refine Vf ?_); (try simp only [go_sem,hP]); (repeat refine qJ ?_)))
 refine WV_loopS (fun k:Nat => ⟨upd (upd (upd e0 5 (sv s)) 9 (iv k)) 3 (.gr 37),upd o0 37 (.grow 9 1 (rows.map fun r => [CD.str r]))⟩) (fun k => k ≤ rows.length) (fun k => rows.length - k) 0 (Nat.zero_le _) ?_ ?_
 ·exact Sub_au
 intro k hk0
 (repeat ((first | refine Va ?_ | refine Vb ?_ | refine Vc ?_ | refine Vd ?_ | refine Ve ?_ | refine Vf ?_); (try simp only [go_sem,hP,List.length_map]); (repeat refine qJ ?_)))
 (refine WV_cond rfl (fun h => ?_) (fun h => ?_))
 ·have hk:k < rows.length:=by simpa using h
  have h0:0 < rows.length:=by omega
  have hw2:=w64 (n:=(k:Int) + 1) (by omega) (by omega)
  have hl1:=hrow _ (List.getElem_mem hk)
  have hl2:=hrow _ (List.getElem_mem h0)
  have g1:(rows.map fun r => [CD.str r]).getD k [] = [CD.str rows[k]]:=map_getD hk
  have g2:(rows.map fun r => [CD.str r]).getD (Int.toNat 0) [] = [CD.str rows[0]]:=map_getD h0
  generalize rows[k] = a at g1 hl1
  generalize rows[0] = b at g2 hl2
  (refine WV_skip ?_; simp only [go_sem])
  refine WV_seq_ (WV_block (WV_seq_ ?_))
  (refine WV_op ?_; simp only [go_sem,hP,g1,g2,Int.toNat_natCast,Int.ofNat_lt,hk,h0,Int.natCast_nonneg,List.length_map,hl1,hl2]; (repeat refine qJ ?_))
  (refine WV_cond rfl (fun h => ?_) (fun h => ?_))
  ·simp at h; omega
  ·(repeat ((first | refine Va ?_ | refine Vb ?_ | refine Vc ?_ | refine Vd ?_ | refine Ve ?_ | refine Vf ?_); (try simp only [go_sem,hP,hw2]); (repeat refine qJ ?_)))
   refine ⟨k + 1,by omega,by omega,?_⟩
   exact Sub_au
 ·have hk:k = rows.length:=by simp at h; omega
  subst hk
  (repeat ((first | refine Va ?_ | refine Vb ?_ | refine Vc ?_ | refine Vd ?_ | refine Ve ?_ | refine Vf ?_); (try simp only [go_sem,hP]); (repeat refine qJ ?_)))
  (refine WV_ret ?_; simp only [thenQ,inQ,RetQ,RetOk,resAll,resA]; simp only [go_sem,tupA,AV.port,AV.portL,exists_eq_left']; (first | exact AVle.of rfl | refine AVle.of ?_ | skip))
end Go.Proofs.YtlmfdmlochpfcaaDoor

namespace Go.Proofs.YtlmfdmlochpfcaaDoor
open Go Go.V
abbrev o21_0:List Ins:=[⟨some 4,.mv (.k (.c (.bool false))),none,true⟩]
abbrev o21_1:List Ins:=[⟨some 6,.mv (.t 0),none,true⟩,
 ⟨some 7,.len (.t 6),none,true⟩,
 ⟨some 8,.mv (.t 1),none,true⟩,
 ⟨some 9,.len (.t 8),none,true⟩,
 ⟨some 10,.bin .neq (.t 7) (.t 9),none,true⟩]
abbrev o21_2:List Ins:=[⟨some 4,.mv (.k (.c (.bool false))),none,true⟩]
abbrev v21_3:VC:=(.seq (.ops o21_2) .ret)
abbrev v21_4:VC:=(.cond (.t 10) v21_3 .skip)
abbrev o21_5:List Ins:=[⟨some 5,.mv (.k (.c (.int .i64 0))),none,true⟩]
abbrev o21_6:List Ins:=[⟨some 11,.mv (.t 5),none,true⟩,
 ⟨some 12,.mv (.t 0),none,true⟩,
 ⟨some 13,.len (.t 12),none,true⟩,
 ⟨some 14,.bin .lss (.t 11) (.t 13),none,true⟩]
abbrev v21_7:VC:=(.cond (.t 14) .skip (.exit 0))
abbrev o21_8:List Ins:=[⟨some 17,.mv (.t 0),none,false⟩,
 ⟨some 18,.mv (.t 5),none,false⟩,
 ⟨some 19,.ia 1 (.t 17) (.t 18),none,false⟩,
 ⟨some 20,.ld true 1 (.t 19),none,false⟩,
 ⟨some 21,.mv (.t 1),none,false⟩,
 ⟨some 22,.mv (.t 5),none,false⟩,
 ⟨some 23,.ia 1 (.t 21) (.t 22),none,false⟩,
 ⟨some 24,.ld true 1 (.t 23),none,false⟩,
 ⟨some 25,.prim (.sbin .neq) [(.t 20),(.t 24)],none,true⟩]
abbrev o21_9:List Ins:=[⟨some 4,.mv (.k (.c (.bool false))),none,true⟩]
abbrev v21_10:VC:=(.seq (.ops o21_9) .ret)
abbrev v21_11:VC:=(.cond (.t 25) v21_10 .skip)
abbrev v21_12:VC:=(.seq (.dops o21_8) v21_11)
abbrev o21_13:List Ins:=[⟨some 15,.mv (.t 5),none,true⟩,
 ⟨some 16,.bin .add (.t 15) (.k (.c (.int .i64 1))),none,true⟩,
 ⟨some 5,.mv (.t 16),none,true⟩]
abbrev v21_14:VC:=(.seq (.block 1 v21_12) (.ops o21_13))
abbrev v21_15:VC:=(.seq (.seq (.ops o21_6) v21_7) v21_14)
-- K21_1: changed and kept: [5]
abbrev K21_1:List Nat:=[0,1]
abbrev v21_16:VC:=(.loop v21_15)
abbrev v21_17:VC:=(.block 0 v21_16)
abbrev o21_18:List Ins:=[⟨some 4,.mv (.k (.c (.bool true))),none,true⟩]
abbrev v21_19:VC:=(.seq (.ops o21_18) .ret)
abbrev v21_20:VC:=(.seq (.seq (.ops o21_5) v21_17) v21_19)
abbrev v21_21:VC:=(.seq (.seq (.ops o21_1) v21_4) v21_20)
def ir21:FC:=⟨2,26,[.t 4],(.seq (.ops o21_0) v21_21)⟩
abbrev o16_0:List Ins:=[⟨some 0,.mv (.k (.c (.bool false))),none,true⟩]
abbrev o16_1:List Ins:=[⟨some 13,.bsl 9 1 [(.k (.c (.str [97,98]))),(.k (.c (.str [99])))],none,true⟩,
 ⟨some 14,.call (.k (.fn 24 [])) [(.t 13)],none,true⟩,
 ⟨some 12,.mv (.t 14),none,true⟩,
 ⟨some 15,.ext (.t 12) 0,none,true⟩,
 ⟨some 16,.ext (.t 12) 1,none,true⟩,
 ⟨some 1,.mv (.t 15),none,true⟩,
 ⟨some 2,.mv (.t 16),none,true⟩]
abbrev o16_2:List Ins:=[⟨some 18,.call (.k (.fn 18 [])) [(.k (.c (.str [97,63,63,95,10,99,124,32,64,10,91,65,63,33,10])))],none,true⟩,
 ⟨some 17,.mv (.t 18),none,true⟩,
 ⟨some 19,.ext (.t 17) 0,none,true⟩,
 ⟨some 20,.ext (.t 17) 1,none,true⟩,
 ⟨some 3,.mv (.t 19),none,true⟩,
 ⟨some 4,.mv (.t 20),none,true⟩]
abbrev o16_3:List Ins:=[⟨some 22,.call (.k (.fn 20 [])) [(.k (.c (.str [97,98,124,95,10,99,124,32,64,10,91,65,35,33,10])))],none,true⟩,
 ⟨some 21,.mv (.t 22),none,true⟩,
 ⟨some 23,.ext (.t 21) 0,none,true⟩,
 ⟨some 24,.ext (.t 21) 1,none,true⟩,
 ⟨some 5,.mv (.t 23),none,true⟩,
 ⟨some 6,.mv (.t 24),none,true⟩]
abbrev o16_4:List Ins:=[⟨some 26,.call (.k (.fn 31 [])) [(.k (.c (.str [63,63,124,95,10,63,63,32,64,10,91,65,35,33,10])))],none,true⟩,
 ⟨some 25,.mv (.t 26),none,true⟩,
 ⟨some 27,.ext (.t 25) 0,none,true⟩,
 ⟨some 28,.ext (.t 25) 1,none,true⟩,
 ⟨some 7,.mv (.t 27),none,true⟩,
 ⟨some 8,.mv (.t 28),none,true⟩]
abbrev o16_5:List Ins:=[⟨some 30,.call (.k (.fn 23 [])) [(.k (.c (.str [97,98,124,95,10,100,124,32,64,10,91,65,35,33,10])))],none,true⟩,
 ⟨some 29,.mv (.t 30),none,true⟩,
 ⟨some 31,.ext (.t 29) 0,none,true⟩,
 ⟨some 32,.ext (.t 29) 1,none,true⟩,
 ⟨some 33,.ext (.t 29) 2,none,true⟩,
 ⟨some 9,.alloc [(.c (.int .i64 0)),(.c (.int .i64 0))],none,true⟩,
 ⟨none,.st 2 (.t 9) (.t 31),none,true⟩,
 ⟨some 10,.mv (.t 32),none,true⟩,
 ⟨some 11,.mv (.t 33),none,true⟩]
abbrev o16_6:List Ins:=[⟨some 34,.mv (.t 2),none,true⟩,
 ⟨some 35,.bin .eql (.t 34) (.k (.c (.int .i64 0))),none,true⟩,
 ⟨some 36,.mv (.t 35),none,true⟩,
 ⟨some 37,.mv (.t 4),(some (36,true)),true⟩,
 ⟨some 38,.bin .eql (.t 37) (.k (.c (.int .i64 0))),(some (36,true)),true⟩,
 ⟨some 39,.pick (.t 36) (.t 38) (.k (.c (.bool false))),none,true⟩,
 ⟨some 40,.mv (.t 39),none,true⟩,
 ⟨some 41,.mv (.t 6),(some (40,true)),true⟩,
 ⟨some 42,.bin .eql (.t 41) (.k (.c (.int .i64 0))),(some (40,true)),true⟩,
 ⟨some 43,.pick (.t 40) (.t 42) (.k (.c (.bool false))),none,true⟩,
 ⟨some 44,.mv (.t 43),none,true⟩,
 ⟨some 45,.mv (.t 8),(some (44,true)),true⟩,
 ⟨some 46,.bin .eql (.t 45) (.k (.c (.int .i64 0))),(some (44,true)),true⟩,
 ⟨some 47,.pick (.t 44) (.t 46) (.k (.c (.bool false))),none,true⟩,
 ⟨some 48,.mv (.t 47),none,true⟩,
 ⟨some 49,.mv (.t 11),(some (48,true)),true⟩,
 ⟨some 50,.bin .eql (.t 49) (.k (.c (.int .i64 0))),(some (48,true)),true⟩,
 ⟨some 51,.pick (.t 48) (.t 50) (.k (.c (.bool false))),none,true⟩,
 ⟨some 52,.mv (.t 51),none,true⟩,
 ⟨some 53,.mv (.t 1),(some (52,true)),true⟩,
 ⟨some 54,.prim (.sbin .eql) [(.t 53),(.k (.c (.str [97,98,124,95,10,99,124,32,64,10,91,65,35,33,10])))],(some (52,true)),true⟩,
 ⟨some 55,.pick (.t 52) (.t 54) (.k (.c (.bool false))),none,true⟩,
 ⟨some 56,.mv (.t 55),none,true⟩,
 ⟨some 57,.mv (.t 3),(some (56,true)),true⟩,
 ⟨some 58,.prim (.sbin .eql) [(.t 57),(.k (.c (.str [97,98,124,95,10,99,124,32,64,10,91,65,35,33,10])))],(some (56,true)),true⟩,
 ⟨some 59,.pick (.t 56) (.t 58) (.k (.c (.bool false))),none,true⟩,
 ⟨some 60,.mv (.t 59),none,true⟩,
 ⟨some 61,.mv (.t 5),(some (60,true)),true⟩,
 ⟨some 62,.bsl 9 1 [(.k (.c (.str [97,98]))),(.k (.c (.str [99])))],(some (60,true)),true⟩,
 ⟨some 63,.call (.k (.fn 21 [])) [(.t 61),(.t 62)],(some (60,true)),true⟩,
 ⟨some 64,.pick (.t 60) (.t 63) (.k (.c (.bool false))),none,true⟩,
 ⟨some 65,.mv (.t 64),none,true⟩,
 ⟨some 66,.mv (.t 7),(some (65,true)),true⟩,
 ⟨some 67,.bin .eql (.t 66) (.k (.c (.int .i64 1))),(some (65,true)),true⟩,
 ⟨some 68,.pick (.t 65) (.t 67) (.k (.c (.bool false))),none,true⟩,
 ⟨some 69,.mv (.t 68),none,true⟩,
 ⟨some 70,.ld false 2 (.t 9),(some (69,true)),true⟩,
 ⟨some 71,.bld [(.c (.int .i64 0)),(.c (.int .i64 0))] [(0,1,(.k (.c (.int .i64 1))))],(some (69,true)),true⟩,
 ⟨some 72,.seq false [(0,true),(1,true)] (.t 70) (.t 71),(some (69,true)),true⟩,
 ⟨some 73,.pick (.t 69) (.t 72) (.k (.c (.bool false))),none,true⟩,
 ⟨some 74,.mv (.t 73),none,true⟩,
 ⟨some 75,.mv (.t 10),(some (74,true)),true⟩,
 ⟨some 76,.prim (.sbin .eql) [(.t 75),(.k (.c (.str [97,98,124,95,10,99,124,32,64,10,91,65,35,33,10])))],(some (74,true)),true⟩,
 ⟨some 77,.pick (.t 74) (.t 76) (.k (.c (.bool false))),none,true⟩,
 ⟨some 0,.mv (.t 77),none,true⟩]
abbrev v16_7:VC:=(.seq (.ops o16_6) .ret)
abbrev v16_8:VC:=(.seq (.ops o16_5) v16_7)
abbrev v16_9:VC:=(.seq (.ops o16_4) v16_8)
abbrev v16_10:VC:=(.seq (.ops o16_3) v16_9)
abbrev v16_11:VC:=(.seq (.ops o16_2) v16_10)
abbrev v16_12:VC:=(.seq (.ops o16_1) v16_11)
def ir16:FC:=⟨0,78,[.t 0],(.seq (.ops o16_0) v16_12)⟩
theorem c21:compM Tryd.prog [] 21 = some ir21:=by kernel_rfl
theorem c16:compM Tryd.prog [] 16 = some ir16:=by kernel_rfl
attribute [local go_sem] Nat.reduceEqDiff Nat.reduceAdd Nat.reduceMul reduceIte Nat.reduceLeDiff Nat.reduceLT Nat.reduceBEq reduceCtorEq
theorem same21 (a b:List (List UInt8)) (ha:a.length ≤ 1000000):FSpec Tryd.prog 21 [.c (strsV a),.c (strsV b)] (bv (a == b)):=by
 have hmax:maxLen = 9223372036854775807:=rfl
 refine FSpec_of c21 (Nat.le_refl _) (by decide) fun C hP hN hC hL => ?_; rw [init_st]
 simp only [ir21,strsV]
 (repeat ((first | refine Va ?_ | refine Vb ?_ | refine Vc ?_ | refine Vd ?_ | refine Ve ?_ | refine Vf ?_); (try simp only [go_sem,hP,List.length_map]); (repeat refine qJ ?_)))
 by_cases hl:a.length = b.length
 ·(refine WV_cond rfl (fun h => ?_) (fun h => ?_))
  ·simp [hl] at h
  (repeat ((first | refine Va ?_ | refine Vb ?_ | refine Vc ?_ | refine Vd ?_ | refine Ve ?_ | refine Vf ?_); (try simp only [go_sem,hP]); (repeat refine qJ ?_)))
  refine WV_loopK K21_1 [] (fun k:Nat => k ≤ a.length ∧ ∀ m (hm:m < a.length) (hm2:m < b.length),m < k → a[m] = b[m]) (fun k => a.length - k) (fun k => [(5,iv k)]) (fun _ => []) 0 ⟨Nat.zero_le _,fun m _ _ h => by omega⟩ ?_ ?_
  ·exact Sub_au
  ·intro k ⟨hk0,hke⟩
   simp only [go_sem]
   (repeat ((first | refine Va ?_ | refine Vb ?_ | refine Vc ?_ | refine Vd ?_ | refine Ve ?_ | refine Vf ?_); (try simp only [go_sem,hP,List.length_map]); (repeat refine qJ ?_)))
   (refine WV_cond rfl (fun h => ?_) (fun h => ?_))
   ·have hk:k < a.length:=by simpa using h
    have hkb:k < b.length:=by omega
    have hw2:=w64 (n:=(k:Int) + 1) (by omega) (by omega)
    (refine WV_skip ?_; simp only [go_sem])
    refine WV_seq_ (WV_block (WV_seq_ ?_))
    (refine WV_op ?_; simp only [go_sem,hP,map_getD hk,map_getD hkb,List.length_map,Int.toNat_natCast,Int.ofNat_lt,hk,hkb,Int.natCast_nonneg]; (repeat refine qJ ?_))
    by_cases he:a[k] = b[k]
    ·(refine WV_cond rfl (fun h => ?_) (fun h => ?_))
     ·simp [he] at h
     ·(repeat ((first | refine Va ?_ | refine Vb ?_ | refine Vc ?_ | refine Vd ?_ | refine Ve ?_ | refine Vf ?_); (try simp only [go_sem,hP,hw2]); (repeat refine qJ ?_)))
      refine ⟨k + 1,⟨by omega,fun m hm hm2 hmk => ?_⟩,by omega,?_⟩
      ·by_cases e2:m = k
       ·subst e2; exact he
       ·exact hke m hm hm2 (by omega)
      ·exact Sub_au
    ·have hne:(a == b) = false:=by
      rw [beq_eq_false_iff_ne]
      rintro rfl
      exact he rfl
     rw [hne]
     (refine WV_cond rfl (fun h => ?_) (fun h => ?_))
     ·(repeat ((first | refine Va ?_ | refine Vb ?_ | refine Vc ?_ | refine Vd ?_ | refine Ve ?_ | refine Vf ?_); (try simp only [go_sem,hP]); (repeat refine qJ ?_)))
      (refine WV_ret ?_; simp only [thenQ,inQ,RetQ,RetOk,resAll,resA]; simp only [go_sem,tupA,AV.port,AV.portL,exists_eq_left']; (first | exact AVle.of rfl | refine AVle.of ?_ | skip))
     ·simp [he] at h
   ·have hk:k = a.length:=by simp at h; omega
    subst hk
    have heq:(a == b) = true:=by
     rw [beq_iff_eq]
     exact List.ext_getElem hl fun m h1 h2 => hke m h1 h2 h1
    rw [heq]
    (repeat ((first | refine Va ?_ | refine Vb ?_ | refine Vc ?_ | refine Vd ?_ | refine Ve ?_ | refine Vf ?_); (try simp only [go_sem,hP]); (repeat refine qJ ?_)))
    (refine WV_ret ?_; simp only [thenQ,inQ,RetQ,RetOk,resAll,resA]; simp only [go_sem,tupA,AV.port,AV.portL,exists_eq_left']; (first | exact AVle.of rfl | refine AVle.of ?_ | skip))
 ·have hne:(a == b) = false:=by
   rw [beq_eq_false_iff_ne]
   rintro rfl
   exact hl rfl
  rw [hne]
  (refine WV_cond rfl (fun h => ?_) (fun h => ?_))
  ·(repeat ((first | refine Va ?_ | refine Vb ?_ | refine Vc ?_ | refine Vd ?_ | refine Ve ?_ | refine Vf ?_); (try simp only [go_sem,hP]); (repeat refine qJ ?_)))
   (refine WV_ret ?_; simp only [thenQ,inQ,RetQ,RetOk,resAll,resA]; simp only [go_sem,tupA,AV.port,AV.portL,exists_eq_left']; (first | exact AVle.of rfl | refine AVle.of ?_ | skip))
  ·simp at h; omega
def ex1:List UInt8:=[97,98,124,95,10,99,124,32,64,10,91,65,35,33,10]
theorem ex_write:writeG [[97,98],[99]] = (ex1,0):=by kernel_rfl
theorem ex_mend:mendG [97,63,63,95,10,99,124,32,64,10,91,65,63,33,10] = (ex1,0):=by kernel_rfl
theorem ex_read:readG ex1 = ([[97,98],[99]],0):=by kernel_rfl
theorem ex_left:leftG [63,63,124,95,10,63,63,32,64,10,91,65,35,33,10] = ([(0,0),(0,1),(1,0),(1,1)],0):=by kernel_rfl
theorem ex_wrong:wrongG [97,98,124,95,10,100,124,32,64,10,91,65,35,33,10] = ((1,0),ex1,0):=by kernel_rfl
theorem Conn.inv {ms:List (Nat × Nat)} (f:Int → Bool) (h:∀ m ∈ ms,f m.1 = f (-1 - m.2)) {x y:Int} (hc:Conn ms x y):f x = f y:=by
 induction hc with
 | refl x => rfl
 | edge hm => exact h _ hm
 | symm _ ih => exact ih.symm
 | trans _ _ ih1 ih2 => exact ih1.trans ih2
theorem ex_circ:(circ [(0,0),(0,1),(1,0),(1,1)]).length = 1:=by
 have h0:¬ Conn ([(0,0),(0,1),(1,0),(1,1)].take 0) ((0:Nat):Int) (-1 - ((0:Nat):Int)):=fun h => by
  have:=h.inv (fun x => decide (x = 0)) (by decide)
  revert this; decide
 have h1:¬ Conn ([(0,0),(0,1),(1,0),(1,1)].take 1) ((0:Nat):Int) (-1 - ((1:Nat):Int)):=fun h => by
  have:=h.inv (fun x => decide (x = 0 ∨ x = -1)) (by decide)
  revert this; decide
 have h2:¬ Conn ([(0,0),(0,1),(1,0),(1,1)].take 2) ((1:Nat):Int) (-1 - ((0:Nat):Int)):=fun h => by
  have:=h.inv (fun x => decide (x = 1)) (by decide)
  revert this; decide
 have h3:Conn ([(0,0),(0,1),(1,0),(1,1)].take 3) ((1:Nat):Int) (-1 - ((1:Nat):Int)):=by
  have e0:Conn ([(0,0),(0,1),(1,0),(1,1)].take 3) ((0:Nat):Int) (-1 - ((0:Nat):Int)):=.edge (m:=(0,0)) (by simp)
  have e1:Conn ([(0,0),(0,1),(1,0),(1,1)].take 3) ((0:Nat):Int) (-1 - ((1:Nat):Int)):=.edge (m:=(0,1)) (by simp)
  have e2:Conn ([(0,0),(0,1),(1,0),(1,1)].take 3) ((1:Nat):Int) (-1 - ((0:Nat):Int)):=.edge (m:=(1,0)) (by simp)
  exact e2.trans (e0.symm.trans e1)
 unfold circ
 show (circK _ 4).length = 1
 rw [circK_snoc (k:=3) (m:=(1,1)) rfl,circK_snoc (k:=2) (m:=(1,0)) rfl,circK_snoc (k:=1) (m:=(0,1)) rfl,circK_snoc (k:=0) (m:=(0,0)) rfl,if_pos h3,if_neg h2,if_neg h1,if_neg h0]
 rfl
set_option maxRecDepth 20000 in
set_option maxHeartbeats 8000000 in
theorem works16:FSpec Tryd.prog 16 [] (bv true):=by
 have hmax:maxLen = 9223372036854775807:=rfl
 have h1:=write24 [[97,98],[99]] (by simp) (by simp)
 have h2:=mend18 [97,63,63,95,10,99,124,32,64,10,91,65,63,33,10] (by simp)
 have h3:=read20 ex1 (by decide)
 have h4:=fewest31 [63,63,124,95,10,63,63,32,64,10,91,65,35,33,10] (by simp)
 have h5:=wrong23 [97,98,124,95,10,100,124,32,64,10,91,65,35,33,10] (by simp)
 have h6:=same21 [[97,98],[99]] [[97,98],[99]] (by simp)
 rw [ex_write] at h1
 rw [ex_mend] at h2
 rw [ex_read] at h3
 rw [ex_left,ex_circ] at h4
 rw [ex_wrong] at h5
 have h6':FSpec Tryd.prog 21 [.c (.sl 1 [[.str [97,98]],[.str [99]]]),.c (.sl 1 [[.str [97,98]],[.str [99]]])] (bv true):=h6
 have h1':FSpec Tryd.prog 24 [.c (.sl 1 [[.str [97,98]],[.str [99]]])] (.tup [.c (.str ex1),iv 0]):=h1
 unfold ex1 at h1' h2 h3 h5
 clear h1 h6
 refine FSpec_of c16 (Nat.le_refl _) (by decide) fun C hP hN hC hL => ?_; rw [init_st]
 simp only [ir16]
 (repeat ((first | refine Va ?_ | refine Vb ?_ | refine Vc ?_ | refine Vd ?_ | refine Ve ?_ | refine Vf ?_); (try simp only [go_sem,hP]); (repeat refine qJ ?_)))
 (refine AS_pu (h1') ?_; simp only [go_sem,hP]; (repeat refine qJ ?_); (repeat ((first | refine Va ?_ | refine Vb ?_ | refine Vc ?_ | refine Vd ?_ | refine Ve ?_ | refine Vf ?_); (try simp only [go_sem,hP]); (repeat refine qJ ?_))))
 (refine AS_pu (h2) ?_; simp only [go_sem,hP]; (repeat refine qJ ?_); (repeat ((first | refine Va ?_ | refine Vb ?_ | refine Vc ?_ | refine Vd ?_ | refine Ve ?_ | refine Vf ?_); (try simp only [go_sem,hP]); (repeat refine qJ ?_))))
 (refine AS_pu (h3) ?_; simp only [go_sem,hP]; (repeat refine qJ ?_); (repeat ((first | refine Va ?_ | refine Vb ?_ | refine Vc ?_ | refine Vd ?_ | refine Ve ?_ | refine Vf ?_); (try simp only [go_sem,hP]); (repeat refine qJ ?_))))
 (refine AS_pu (h4) ?_; simp only [go_sem,hP]; (repeat refine qJ ?_); (repeat ((first | refine Va ?_ | refine Vb ?_ | refine Vc ?_ | refine Vd ?_ | refine Ve ?_ | refine Vf ?_); (try simp only [go_sem,hP]); (repeat refine qJ ?_))))
 (refine AS_pu (h5) ?_; simp only [go_sem,hP,beq_self_eq_true,Bool.and_self,Bool.true_and,true_implies,Bool.true_eq_false,false_implies,and_true]; (repeat refine qJ ?_); (repeat ((first | refine Va ?_ | refine Vb ?_ | refine Vc ?_ | refine Vd ?_ | refine Ve ?_ | refine Vf ?_); (try simp only [go_sem,hP,beq_self_eq_true,Bool.and_self,Bool.true_and,true_implies,Bool.true_eq_false,false_implies,and_true]); (repeat refine qJ ?_))))
 (refine AG_pu (fun hG => h6') ?_; simp only [go_sem,hP,beq_self_eq_true,Bool.and_self,Bool.true_and,true_implies,Bool.true_eq_false,false_implies,and_true]; (repeat refine qJ ?_); (repeat ((first | refine Va ?_ | refine Vb ?_ | refine Vc ?_ | refine Vd ?_ | refine Ve ?_ | refine Vf ?_); (try simp only [go_sem,hP,beq_self_eq_true,Bool.and_self,Bool.true_and,true_implies,Bool.true_eq_false,false_implies,and_true]); (repeat refine qJ ?_))))
 (refine WV_ret ?_; simp only [thenQ,inQ,RetQ,RetOk,resAll,resA]; simp only [go_sem,tupA,AV.port,AV.portL,exists_eq_left'])
 exact AVle.of rfl
end Go.Proofs.YtlmfdmlochpfcaaDoor

namespace Go.Proofs.YtlmfdmlochpfcaaDoor
open Go Go.V
theorem can_len {ts:List (List UInt8)} (h:canT ts = true):ts.length ≤ 60 ∧ ∀ s ∈ ts,s.length ≤ 200:=by
 unfold canT at h
 simp only [Bool.and_eq_true,decide_eq_true_eq,List.all_eq_true] at h
 exact h
theorem book_of {ts:List (List UInt8)} (h:errT ts = 0):BookOk ts:=by
 unfold errT at h
 split at h
 ·cases h
 ·split at h
  ·exact ⟨by assumption,by assumption⟩
  ·cases h
section
variable {ts:List (List UInt8)}
theorem good_book (h:BookOk ts) (hc:canT ts = true):FSpec Tryd.prog 17 [.c (strsV ts)] (.tup [sv (textG (bookB ts)),.c (strsV (bookB ts)),bv true]):=by
 obtain ⟨h1,h2⟩:=can_len hc
 have hw:=write24 ts (fun s hs => by have:=h2 s hs; omega) (by omega)
 rw [write_book h] at hw
 exact good17 (fun s hs => by have:=h2 s hs; omega) (by omega) h.sok (bookB_len h) hw
theorem text_len {rows:List (List UInt8)} {w:Nat} (h:SOk rows w):(textG rows).length ≤ 1353:=by
 have h1:=textG_length rows w h.row
 have h2:rows.length * (w + 1) ≤ 41 * 33:=Nat.mul_le_mul h.len (by have:=h.w32; omega)
 omega
theorem rows_le {rows:List (List UInt8)} {w:Nat} (h:SOk rows w):rows.length ≤ 100 ∧ ∀ l ∈ rows,l.length ≤ 100:=by
 have:=h.len
 have:=h.w32
 exact ⟨by omega,fun l hl => by have:=h.row l hl; omega⟩
theorem spoilt_book (h:BookOk ts) (ms:List (Int × Int)) (hm:ms.length ≤ 1000000):FSpec Tryd.prog 19 [.c (strsV (bookB ts)),.c (placesC ms),.c (.int .u8 63)] (sv (textG (spo ts ms))):=by
 obtain ⟨h1,h2⟩:=rows_le h.sok
 exact spoilt19 (bookB ts) ms 63 h1 h2 hm
theorem plain19 {rows:List (List UInt8)} {w:Nat} (h:SOk rows w):FSpec Tryd.prog 19 [.c (strsV rows),.c (placesC []),.c (.int .u8 63)] (sv (textG rows)):=by
 obtain ⟨h1,h2⟩:=rows_le h
 have:=spoilt19 rows [] 63 h1 h2 (by simp)
 rwa [upR_nil] at this
theorem plain19' {rows:List (List UInt8)} {w:Nat} (h:SOk rows w):FSpec Tryd.prog 19 [.c (strsV rows),.c (.raw (.slice none 0 0)),.c (.int .u8 63)] (sv (textG rows)) :=
 (plain19 h).le (AVles.cons (AVle.refl _) (AVles.cons (AVle.nil 2) (AVles.refl _))) (AVle.refl _)
theorem lines_book {rows:List (List UInt8)} {w:Nat} (h:SOk rows w):FSpec Tryd.prog 34 [sv (textG rows)] (.c (strsV rows)):=by
 have:=lines34 (textG rows) (by have:=text_len h; omega)
 rwa [lines_sok h] at this
theorem told_book (h:BookOk ts) (ms ws:List (Int × Int)) (hm:ws.length ≤ 1000000):FSpec Tryd.prog 33 [.c (strsV (spo ts ms)),.c (strsV (bookB ts)),.c (placesC ws)] (.c (strsV (tld ts ms ws))):=by
 have hs:=spo_sok h ms
 obtain ⟨h1,h2⟩:=rows_le hs
 have hw:=h.wid
 refine told33 (spo ts ms) (bookB ts) ws h1 h2 hm ((bookB_len h).trans (spo_len h ms).symm) fun i hi => ?_
 rw [(hs.at (k:=0) hi (by omega)).1,(h.sok.at (k:=0) (by rw [spo_len h] at hi; rw [bookB_len h]; exact hi) (by omega)).1]
end
end Go.Proofs.YtlmfdmlochpfcaaDoor

namespace Go.Proofs.YtlmfdmlochpfcaaDoor
open Go Go.V
abbrev o9_0:List Ins:=[⟨some 6,.mv (.k (.c (.bool false))),none,true⟩]
abbrev o9_1:List Ins:=[⟨some 21,.mv (.t 0),none,true⟩,
 ⟨some 22,.call (.k (.fn 14 [])) [(.t 21)],none,true⟩,
 ⟨some 23,.un .not (.t 22),none,true⟩,
 ⟨some 24,.mv (.t 23),none,true⟩,
 ⟨some 25,.mv (.t 0),(some (24,false)),true⟩,
 ⟨some 26,.call (.k (.fn 15 [])) [(.t 25)],(some (24,false)),true⟩,
 ⟨some 27,.bin .neq (.t 26) (.k (.c (.int .i64 0))),(some (24,false)),true⟩,
 ⟨some 28,.pick (.t 24) (.k (.c (.bool true))) (.t 27),none,true⟩,
 ⟨some 29,.mv (.t 28),none,true⟩,
 ⟨some 30,.mv (.t 1),(some (29,false)),true⟩,
 ⟨some 31,.len (.t 30),(some (29,false)),true⟩,
 ⟨some 32,.bin .gtr (.t 31) (.k (.c (.int .i64 200))),(some (29,false)),true⟩,
 ⟨some 33,.pick (.t 29) (.k (.c (.bool true))) (.t 32),none,true⟩,
 ⟨some 34,.mv (.t 33),none,true⟩,
 ⟨some 35,.mv (.t 2),(some (34,false)),true⟩,
 ⟨some 36,.len (.t 35),(some (34,false)),true⟩,
 ⟨some 37,.bin .gtr (.t 36) (.k (.c (.int .i64 200))),(some (34,false)),true⟩,
 ⟨some 38,.pick (.t 34) (.k (.c (.bool true))) (.t 37),none,true⟩]
abbrev o9_2:List Ins:=[⟨some 39,.call (.k (.fn 16 [])) [],none,true⟩,
 ⟨some 6,.mv (.t 39),none,true⟩]
abbrev v9_3:VC:=(.seq (.ops o9_2) .ret)
abbrev v9_4:VC:=(.cond (.t 38) v9_3 .skip)
abbrev o9_5:List Ins:=[⟨some 41,.mv (.t 0),none,true⟩,
 ⟨some 42,.call (.k (.fn 17 [])) [(.t 41)],none,true⟩,
 ⟨some 40,.mv (.t 42),none,true⟩,
 ⟨some 43,.ext (.t 40) 0,none,true⟩,
 ⟨some 44,.ext (.t 40) 1,none,true⟩,
 ⟨some 45,.ext (.t 40) 2,none,true⟩,
 ⟨some 7,.mv (.t 43),none,true⟩,
 ⟨some 8,.mv (.t 44),none,true⟩,
 ⟨some 9,.mv (.t 45),none,true⟩]
abbrev o9_6:List Ins:=[⟨some 46,.mv (.t 9),none,true⟩,
 ⟨some 47,.un .not (.t 46),none,true⟩]
abbrev o9_7:List Ins:=[⟨some 6,.mv (.k (.c (.bool false))),none,true⟩]
abbrev v9_8:VC:=(.seq (.ops o9_7) .ret)
abbrev v9_9:VC:=(.cond (.t 47) v9_8 .skip)
abbrev o9_10:List Ins:=[⟨some 48,.mv (.t 8),none,true⟩,
 ⟨some 49,.mv (.t 1),none,true⟩,
 ⟨some 50,.call (.k (.fn 19 [])) [(.t 48),(.t 49),(.k (.c (.int .u8 63)))],none,true⟩,
 ⟨some 10,.mv (.t 50),none,true⟩]
abbrev o9_11:List Ins:=[⟨some 52,.mv (.t 10),none,true⟩,
 ⟨some 53,.call (.k (.fn 30 [])) [(.t 52)],none,true⟩,
 ⟨some 51,.mv (.t 53),none,true⟩,
 ⟨some 54,.ext (.t 51) 0,none,true⟩,
 ⟨some 55,.ext (.t 51) 1,none,true⟩,
 ⟨some 11,.mv (.t 54),none,true⟩,
 ⟨some 12,.mv (.t 55),none,true⟩]
abbrev o9_12:List Ins:=[⟨some 56,.mv (.t 12),none,true⟩,
 ⟨some 57,.bin .neq (.t 56) (.k (.c (.int .i64 0))),none,true⟩,
 ⟨some 58,.mv (.t 57),none,true⟩,
 ⟨some 59,.mv (.t 11),(some (58,false)),true⟩,
 ⟨some 60,.len (.t 59),(some (58,false)),true⟩,
 ⟨some 61,.bin .gtr (.t 60) (.k (.c (.int .i64 2000))),(some (58,false)),true⟩,
 ⟨some 62,.pick (.t 58) (.k (.c (.bool true))) (.t 61),none,true⟩]
abbrev o9_13:List Ins:=[⟨some 6,.mv (.k (.c (.bool false))),none,true⟩]
abbrev v9_14:VC:=(.seq (.ops o9_13) .ret)
abbrev v9_15:VC:=(.cond (.t 62) v9_14 .skip)
abbrev o9_16:List Ins:=[⟨some 13,.mv (.k (.c (.raw (.slice none 0 0)))),none,true⟩]
abbrev o9_17:List Ins:=[⟨some 14,.mv (.k (.c (.int .i64 0))),none,true⟩]
abbrev o9_18:List Ins:=[⟨some 63,.mv (.t 14),none,true⟩,
 ⟨some 64,.mv (.t 2),none,true⟩,
 ⟨some 65,.len (.t 64),none,true⟩,
 ⟨some 66,.bin .lss (.t 63) (.t 65),none,true⟩]
abbrev v9_19:VC:=(.cond (.t 66) .skip (.exit 0))
abbrev o9_20:List Ins:=[⟨some 69,.mv (.t 11),none,true⟩,
 ⟨some 70,.mv (.t 2),none,true⟩,
 ⟨some 71,.mv (.t 14),none,true⟩,
 ⟨some 72,.ia 2 (.t 70) (.t 71),none,true⟩,
 ⟨some 73,.ld false 2 (.t 72),none,true⟩,
 ⟨some 74,.call (.k (.fn 32 [])) [(.t 69),(.t 73)],none,true⟩,
 ⟨some 75,.un .not (.t 74),none,true⟩]
abbrev o9_21:List Ins:=[⟨some 76,.mv (.t 13),none,true⟩,
 ⟨some 77,.mv (.t 2),none,true⟩,
 ⟨some 78,.mv (.t 14),none,true⟩,
 ⟨some 79,.ia 2 (.t 77) (.t 78),none,true⟩,
 ⟨some 80,.ld false 2 (.t 79),none,true⟩,
 ⟨some 81,.bsl 31 2 [(.t 80)],none,true⟩,
 ⟨some 82,.app 31 2 16 (.t 76) (.t 81),none,true⟩,
 ⟨some 13,.mv (.t 82),none,true⟩]
abbrev v9_22:VC:=(.cond (.t 75) (.ops o9_21) .skip)
abbrev v9_23:VC:=(.seq (.ops o9_20) v9_22)
abbrev o9_24:List Ins:=[⟨some 67,.mv (.t 14),none,true⟩,
 ⟨some 68,.bin .add (.t 67) (.k (.c (.int .i64 1))),none,true⟩,
 ⟨some 14,.mv (.t 68),none,true⟩]
abbrev v9_25:VC:=(.seq (.block 1 v9_23) (.ops o9_24))
abbrev v9_26:VC:=(.seq (.seq (.ops o9_18) v9_19) v9_25)
-- K9_1: changed and kept: [14,13]
abbrev v9_27:VC:=(.loop v9_26)
abbrev v9_28:VC:=(.block 0 v9_27)
abbrev o9_29:List Ins:=[⟨some 84,.mv (.t 10),none,true⟩,
 ⟨some 85,.call (.k (.fn 34 [])) [(.t 84)],none,true⟩,
 ⟨some 86,.mv (.t 8),none,true⟩,
 ⟨some 87,.mv (.t 13),none,true⟩,
 ⟨some 88,.call (.k (.fn 33 [])) [(.t 85),(.t 86),(.t 87)],none,true⟩,
 ⟨some 89,.call (.k (.fn 19 [])) [(.t 88),(.k (.c (.raw (.slice none 0 0)))),(.k (.c (.int .u8 63)))],none,true⟩,
 ⟨some 90,.call (.k (.fn 30 [])) [(.t 89)],none,true⟩,
 ⟨some 83,.mv (.t 90),none,true⟩,
 ⟨some 91,.ext (.t 83) 0,none,true⟩,
 ⟨some 92,.ext (.t 83) 1,none,true⟩,
 ⟨some 15,.mv (.t 91),none,true⟩,
 ⟨some 16,.mv (.t 92),none,true⟩]
abbrev o9_30:List Ins:=[⟨some 93,.mv (.t 16),none,true⟩,
 ⟨some 94,.bin .neq (.t 93) (.k (.c (.int .i64 0))),none,true⟩,
 ⟨some 95,.mv (.t 94),none,true⟩,
 ⟨some 96,.mv (.t 11),(some (95,false)),true⟩,
 ⟨some 97,.mv (.t 15),(some (95,false)),true⟩,
 ⟨some 98,.call (.k (.fn 35 [])) [(.t 96),(.t 97)],(some (95,false)),true⟩,
 ⟨some 99,.un .not (.t 98),(some (95,false)),true⟩,
 ⟨some 100,.pick (.t 95) (.k (.c (.bool true))) (.t 99),none,true⟩]
abbrev o9_31:List Ins:=[⟨some 6,.mv (.k (.c (.bool false))),none,true⟩]
abbrev v9_32:VC:=(.seq (.ops o9_31) .ret)
abbrev v9_33:VC:=(.cond (.t 100) v9_32 .skip)
abbrev o9_34:List Ins:=[⟨some 17,.mv (.k (.c (.int .i64 0))),none,true⟩]
abbrev o9_35:List Ins:=[⟨some 101,.mv (.t 17),none,true⟩,
 ⟨some 102,.mv (.t 11),none,true⟩,
 ⟨some 103,.len (.t 102),none,true⟩,
 ⟨some 104,.bin .lss (.t 101) (.t 103),none,true⟩]
abbrev v9_36:VC:=(.cond (.t 104) .skip (.exit 2))
abbrev o9_37:List Ins:=[⟨some 18,.mv (.k (.c (.bool false))),none,true⟩,
 ⟨some 19,.mv (.k (.c (.bool false))),none,true⟩]
abbrev o9_38:List Ins:=[⟨some 20,.mv (.k (.c (.int .i64 0))),none,true⟩]
abbrev o9_39:List Ins:=[⟨some 107,.mv (.t 20),none,true⟩,
 ⟨some 108,.mv (.t 11),none,true⟩,
 ⟨some 109,.len (.t 108),none,true⟩,
 ⟨some 110,.bin .lss (.t 107) (.t 109),none,true⟩]
abbrev v9_40:VC:=(.cond (.t 110) .skip (.exit 4))
abbrev o9_41:List Ins:=[⟨some 113,.mv (.t 18),none,true⟩,
 ⟨some 114,.mv (.t 113),none,true⟩,
 ⟨some 115,.mv (.t 20),(some (114,false)),false⟩,
 ⟨some 116,.mv (.t 17),(some (114,false)),false⟩,
 ⟨some 117,.bin .neq (.t 115) (.t 116),(some (114,false)),true⟩,
 ⟨some 118,.mv (.t 117),(some (114,false)),true⟩,
 ⟨some 119,.mv (.t 11),(some (118,true)),false⟩,
 ⟨some 120,.mv (.t 20),(some (118,true)),false⟩,
 ⟨some 121,.ia 2 (.t 119) (.t 120),(some (118,true)),false⟩,
 ⟨some 122,.fa 0 (.t 121),(some (118,true)),false⟩,
 ⟨some 123,.ld true 1 (.t 122),(some (118,true)),false⟩,
 ⟨some 124,.mv (.t 11),(some (118,true)),false⟩,
 ⟨some 125,.mv (.t 17),(some (118,true)),false⟩,
 ⟨some 126,.ia 2 (.t 124) (.t 125),(some (118,true)),false⟩,
 ⟨some 127,.fa 0 (.t 126),(some (118,true)),false⟩,
 ⟨some 128,.ld true 1 (.t 127),(some (118,true)),false⟩,
 ⟨some 129,.bin .eql (.t 123) (.t 128),(some (118,true)),true⟩,
 ⟨some 130,.pick (.t 118) (.t 129) (.k (.c (.bool false))),(some (114,false)),true⟩,
 ⟨some 131,.pick (.t 114) (.k (.c (.bool true))) (.t 130),none,true⟩,
 ⟨some 18,.mv (.t 131),none,true⟩]
abbrev o9_42:List Ins:=[⟨some 132,.mv (.t 19),none,true⟩,
 ⟨some 133,.mv (.t 132),none,true⟩,
 ⟨some 134,.mv (.t 20),(some (133,false)),false⟩,
 ⟨some 135,.mv (.t 17),(some (133,false)),false⟩,
 ⟨some 136,.bin .neq (.t 134) (.t 135),(some (133,false)),true⟩,
 ⟨some 137,.mv (.t 136),(some (133,false)),true⟩,
 ⟨some 138,.mv (.t 11),(some (137,true)),false⟩,
 ⟨some 139,.mv (.t 20),(some (137,true)),false⟩,
 ⟨some 140,.ia 2 (.t 138) (.t 139),(some (137,true)),false⟩,
 ⟨some 141,.fa 1 (.t 140),(some (137,true)),false⟩,
 ⟨some 142,.ld true 1 (.t 141),(some (137,true)),false⟩,
 ⟨some 143,.mv (.t 11),(some (137,true)),false⟩,
 ⟨some 144,.mv (.t 17),(some (137,true)),false⟩,
 ⟨some 145,.ia 2 (.t 143) (.t 144),(some (137,true)),false⟩,
 ⟨some 146,.fa 1 (.t 145),(some (137,true)),false⟩,
 ⟨some 147,.ld true 1 (.t 146),(some (137,true)),false⟩,
 ⟨some 148,.bin .eql (.t 142) (.t 147),(some (137,true)),true⟩,
 ⟨some 149,.pick (.t 137) (.t 148) (.k (.c (.bool false))),(some (133,false)),true⟩,
 ⟨some 150,.pick (.t 133) (.k (.c (.bool true))) (.t 149),none,true⟩,
 ⟨some 19,.mv (.t 150),none,true⟩]
abbrev v9_43:VC:=(.seq (.dops o9_41) (.dops o9_42))
abbrev o9_44:List Ins:=[⟨some 111,.mv (.t 20),none,true⟩,
 ⟨some 112,.bin .add (.t 111) (.k (.c (.int .i64 1))),none,true⟩,
 ⟨some 20,.mv (.t 112),none,true⟩]
abbrev v9_45:VC:=(.seq (.block 5 v9_43) (.ops o9_44))
abbrev v9_46:VC:=(.seq (.seq (.ops o9_39) v9_40) v9_45)
-- K9_3: changed and kept: [20,18,19]
abbrev v9_47:VC:=(.loop v9_46)
abbrev v9_48:VC:=(.block 4 v9_47)
abbrev o9_49:List Ins:=[⟨some 151,.mv (.t 18),none,true⟩,
 ⟨some 152,.un .not (.t 151),none,true⟩,
 ⟨some 153,.mv (.t 152),none,true⟩,
 ⟨some 154,.mv (.t 19),(some (153,false)),true⟩,
 ⟨some 155,.un .not (.t 154),(some (153,false)),true⟩,
 ⟨some 156,.pick (.t 153) (.k (.c (.bool true))) (.t 155),none,true⟩,
 ⟨some 157,.mv (.t 156),none,true⟩,
 ⟨some 158,.mv (.t 1),(some (157,false)),true⟩,
 ⟨some 159,.mv (.t 11),(some (157,false)),true⟩,
 ⟨some 160,.mv (.t 17),(some (157,false)),true⟩,
 ⟨some 161,.ia 2 (.t 159) (.t 160),(some (157,false)),true⟩,
 ⟨some 162,.ld false 2 (.t 161),(some (157,false)),true⟩,
 ⟨some 163,.call (.k (.fn 32 [])) [(.t 158),(.t 162)],(some (157,false)),true⟩,
 ⟨some 164,.un .not (.t 163),(some (157,false)),true⟩,
 ⟨some 165,.pick (.t 157) (.k (.c (.bool true))) (.t 164),none,true⟩]
abbrev o9_50:List Ins:=[⟨some 6,.mv (.k (.c (.bool false))),none,true⟩]
abbrev v9_51:VC:=(.seq (.ops o9_50) .ret)
abbrev v9_52:VC:=(.cond (.t 165) v9_51 .skip)
abbrev v9_53:VC:=(.seq (.ops o9_49) v9_52)
abbrev v9_54:VC:=(.seq (.seq (.ops o9_38) v9_48) v9_53)
abbrev v9_55:VC:=(.seq (.ops o9_37) v9_54)
abbrev o9_56:List Ins:=[⟨some 105,.mv (.t 17),none,true⟩,
 ⟨some 106,.bin .add (.t 105) (.k (.c (.int .i64 1))),none,true⟩,
 ⟨some 17,.mv (.t 106),none,true⟩]
abbrev v9_57:VC:=(.seq (.block 3 v9_55) (.ops o9_56))
abbrev v9_58:VC:=(.seq (.seq (.ops o9_35) v9_36) v9_57)
-- K9_2: changed and kept: [17]
abbrev v9_59:VC:=(.loop v9_58)
abbrev v9_60:VC:=(.block 2 v9_59)
abbrev o9_61:List Ins:=[⟨some 166,.call (.k (.fn 16 [])) [],none,true⟩,
 ⟨some 6,.mv (.t 166),none,true⟩]
abbrev v9_62:VC:=(.seq (.ops o9_61) .ret)
abbrev v9_63:VC:=(.seq (.seq (.ops o9_34) v9_60) v9_62)
abbrev v9_64:VC:=(.seq (.seq (.ops o9_30) v9_33) v9_63)
abbrev v9_65:VC:=(.seq (.ops o9_29) v9_64)
abbrev v9_66:VC:=(.seq (.seq (.ops o9_17) v9_28) v9_65)
abbrev v9_67:VC:=(.seq (.ops o9_16) v9_66)
abbrev v9_68:VC:=(.seq (.seq (.ops o9_12) v9_15) v9_67)
abbrev v9_69:VC:=(.seq (.ops o9_11) v9_68)
abbrev v9_70:VC:=(.seq (.ops o9_10) v9_69)
abbrev v9_71:VC:=(.seq (.seq (.ops o9_6) v9_9) v9_70)
abbrev v9_72:VC:=(.seq (.ops o9_5) v9_71)
abbrev v9_73:VC:=(.seq (.seq (.ops o9_1) v9_4) v9_72)
def ir9:FC:=⟨3,167,[.t 6],(.seq (.ops o9_0) v9_73)⟩
theorem c9:compM Tryd.prog [] 9 = some ir9:=by kernel_rfl
attribute [local go_sem] Nat.reduceEqDiff Nat.reduceAdd Nat.reduceMul reduceIte Nat.reduceLeDiff Nat.reduceLT Nat.reduceBEq reduceCtorEq
def freeL (X tell:List (Int × Int)):List (Int × Int):=tell.filter fun t => !(X.contains t)
theorem freeL_succ (X:List (Int × Int)) {tell:List (Int × Int)} {k:Nat} (h:k < tell.length):freeL X (tell.take (k + 1)) = freeL X (tell.take k) ++ (if X.contains tell[k] = true then [] else [tell[k]]):=by
 unfold freeL
 rw [List.take_succ_eq_append_getElem h,List.filter_append,List.filter_cons,List.filter_nil]
 by_cases hc:X.contains tell[k] = true
 ·rw [hc,if_pos rfl]; rfl
 ·have hc:X.contains tell[k] = false:=by simpa using hc
  rw [hc,if_pos (by decide),if_neg (by decide)]
theorem freeL_len (X tell:List (Int × Int)):(freeL X tell).length ≤ tell.length:=List.length_filter_le _ _
def othL (f:Int × Int → Int) (X:List (Int × Int)) (i k:Nat):Bool:=(List.range k).any fun j => ((j:Int) != (i:Int)) && f (X.getD j (0,0)) == f (X.getD i (0,0))
theorem othL_succ (f:Int × Int → Int) (X:List (Int × Int)) (i k:Nat):othL f X i (k + 1) = (othL f X i k || (((k:Int) != (i:Int)) && f (X.getD k (0,0)) == f (X.getD i (0,0)))):=by
 unfold othL
 rw [List.range_succ,List.any_append]; simp
theorem othL_true {f:Int × Int → Int} {X:List (Int × Int)} {i:Nat} (hi:i < X.length) (h:∃ q ∈ X,q ≠ X[i] ∧ f q = f X[i]):othL f X i X.length = true:=by
 obtain ⟨q,hq,hne,he⟩:=h
 obtain ⟨j,hj,rfl⟩:=List.getElem_of_mem hq
 unfold othL
 rw [List.any_eq_true]
 refine ⟨j,List.mem_range.2 hj,?_⟩
 have g1:X.getD j (0,0) = X[j]:=by rw [List.getD_eq_getElem?_getD,List.getElem?_eq_getElem hj]; rfl
 have g2:X.getD i (0,0) = X[i]:=by rw [List.getD_eq_getElem?_getD,List.getElem?_eq_getElem hi]; rfl
 rw [g1,g2,Bool.and_eq_true,bne_iff_ne,beq_iff_eq]
 refine ⟨fun e => hne ?_,he⟩
 have:j = i:=by omega
 subst this; rfl
set_option maxRecDepth 20000 in
set_option maxHeartbeats 16000000 in
theorem bookOrder9 (ts:List (List UInt8)) (ms tell:List (Int × Int)):FSpec Tryd.prog 9 [.c (strsV ts),.c (placesC ms),.c (placesC tell)] (bv true):=by
 have hmax:maxLen = 9223372036854775807:=rfl
 have hwk:=works16
 have hcan:=can14 ts
 refine FSpec_of c9 (Nat.le_refl _) (by decide) fun C hP hN hC hL => ?_; rw [init_st]
 simp only [ir9]
 (repeat ((first | refine Va ?_ | refine Vb ?_ | refine Vc ?_ | refine Vd ?_ | refine Ve ?_ | refine Vf ?_); (try simp only [go_sem,hP]); (repeat refine qJ ?_)))
 (refine AS_pu (hcan) ?_; simp only [go_sem,hP]; (repeat refine qJ ?_); (repeat ((first | refine Va ?_ | refine Vb ?_ | refine Vc ?_ | refine Vd ?_ | refine Ve ?_ | refine Vf ?_); (try simp only [go_sem,hP]); (repeat refine qJ ?_))))
 by_cases hc:canT ts = true
 case neg =>
  have hc:canT ts = false:=by simpa using hc
  rw [hc]
  (refine AG_skip ?_; simp only [go_sem,hP,placesC,List.length_map]; (repeat refine qJ ?_); (repeat ((first | refine Va ?_ | refine Vb ?_ | refine Vc ?_ | refine Vd ?_ | refine Ve ?_ | refine Vf ?_); (try simp only [go_sem,hP,placesC,List.length_map]); (repeat refine qJ ?_))))
  (refine WV_cond rfl (fun h => ?_) (fun h => ?_))
  ·(repeat ((first | refine Va ?_ | refine Vb ?_ | refine Vc ?_ | refine Vd ?_ | refine Ve ?_ | refine Vf ?_); (try simp only [go_sem,hP]); (repeat refine qJ ?_)))
   (refine AS_pu (hwk) ?_; simp only [go_sem,hP]; (repeat refine qJ ?_); (repeat ((first | refine Va ?_ | refine Vb ?_ | refine Vc ?_ | refine Vd ?_ | refine Ve ?_ | refine Vf ?_); (try simp only [go_sem,hP]); (repeat refine qJ ?_))))
   (refine WV_ret ?_; simp only [thenQ,inQ,RetQ,RetOk,resAll,resA]; simp only [go_sem,tupA,AV.port,AV.portL,exists_eq_left']; (first | exact AVle.of rfl | refine AVle.of ?_ | skip))
  ·simp at h
 obtain ⟨hl1,hl2⟩:=can_len hc
 have har:=aretexts15 ts fun s hs => by have:=hl2 s hs; omega
 rw [hc]
 (refine AG_pu (fun hG => har) ?_; simp only [go_sem,hP,placesC,List.length_map]; (repeat refine qJ ?_); (repeat ((first | refine Va ?_ | refine Vb ?_ | refine Vc ?_ | refine Vd ?_ | refine Ve ?_ | refine Vf ?_); (try simp only [go_sem,hP,placesC,List.length_map]); (repeat refine qJ ?_))))
 (refine WV_cond rfl (fun h => ?_) (fun h => ?_))
 ·(repeat ((first | refine Va ?_ | refine Vb ?_ | refine Vc ?_ | refine Vd ?_ | refine Ve ?_ | refine Vf ?_); (try simp only [go_sem,hP]); (repeat refine qJ ?_)))
  (refine AS_pu (hwk) ?_; simp only [go_sem,hP]; (repeat refine qJ ?_); (repeat ((first | refine Va ?_ | refine Vb ?_ | refine Vc ?_ | refine Vd ?_ | refine Ve ?_ | refine Vf ?_); (try simp only [go_sem,hP]); (repeat refine qJ ?_))))
  (refine WV_ret ?_; simp only [thenQ,inQ,RetQ,RetOk,resAll,resA]; simp only [go_sem,tupA,AV.port,AV.portL,exists_eq_left']; (first | exact AVle.of rfl | refine AVle.of ?_ | skip))
 have h':errT ts = 0 ∧ ms.length ≤ 200 ∧ tell.length ≤ 200:=by
  simp at h
  exact ⟨h.1.1,by omega,by omega⟩
 obtain ⟨he,hm200,ht200⟩:=h'
 clear h
 have hb:=book_of he
 have hgd:=good_book hb hc
 have hS:=hb.sok
 have h19:=spoilt_book hb ms (by omega)
 have hss:=spo_sok hb ms
 have hsl:=spo_len hb ms
 have htl:=text_len hss
 have h30:=left30 (textG (spo ts ms)) (by omega)
 have hlk:=leftG_ok (textG (spo ts ms))
 rw [lft_eq hss hsl] at h30 hlk
 have hlb:=fun p hp => left_book hb ms (p:=p) hp
 have h34:=lines_book hss
 have h33:=fun ws h => told_book hb ms ws h
 have hsk:=fun ws => tld_sok hb ms ws
 have hord:=fun ws h => order_book hb ms ws h
 have hlq:=fun ws => lft_eq (hsk ws) (tld_len hb ms ws)
 obtain ⟨L,hLd⟩ : ∃ L,L = lftG ts (spo ts ms):=⟨_,rfl⟩
 rw [← hLd] at h30 hlb hlk
 obtain ⟨X,hX⟩ : ∃ X,X = L.map icst:=⟨_,rfl⟩
 have h30':FSpec Tryd.prog 30 [sv (textG (spo ts ms))] (.tup [.c (.sl 2 (X.map placeC)),iv 0]):=by
  have:FSpec Tryd.prog 30 [sv (textG (spo ts ms))] (.tup [.c (marksC L),iv 0]):=h30
  rwa [marksC_places,← hX] at this
 have hXl:X.length ≤ 2000:=by rw [hX,List.length_map]; exact hlk.1
 have hoth:∀ i (hi:i < X.length),ms.contains X[i] = true ∧ othL Prod.fst X i X.length = true ∧ othL Prod.snd X i X.length = true:=by
  intro i hi
  have hxm:=List.getElem_mem hi
  have hLm:∀ q ∈ X,∃ p ∈ L,icst p = q:=fun q hq => by rw [hX] at hq; exact List.mem_map.1 hq
  obtain ⟨p,hp,hpe⟩:=hLm _ hxm
  obtain ⟨_,_,a1,⟨q,q1,q2,q3⟩,⟨r,r1,r2,r3⟩⟩:=hlb p hp
  refine ⟨by rw [List.contains_iff_mem,← hpe]; exact a1,othL_true hi ⟨icst q,by rw [hX]; exact List.mem_map_of_mem q1,fun e => q2 (icst_inj (e.trans hpe.symm)),?_⟩,othL_true hi ⟨icst r,by rw [hX]; exact List.mem_map_of_mem r1,fun e => r2 (icst_inj (e.trans hpe.symm)),?_⟩⟩
  ·rw [← hpe]; unfold icst; simp only; rw [q3]
  ·rw [← hpe]; unfold icst; simp only; rw [r3]
 (refine WV_skip ?_; simp only [go_sem])
 refine WV_keep [0,1,2] ?_
 simp only [go_sem]
 (repeat ((first | refine Va ?_ | refine Vb ?_ | refine Vc ?_ | refine Vd ?_ | refine Ve ?_ | refine Vf ?_); (try simp only [go_sem,hP]); (repeat refine qJ ?_)))
 (refine AS_pu (hgd) ?_; simp only [go_sem,hP]; (repeat refine qJ ?_); (repeat ((first | refine Va ?_ | refine Vb ?_ | refine Vc ?_ | refine Vd ?_ | refine Ve ?_ | refine Vf ?_); (try simp only [go_sem,hP]); (repeat refine qJ ?_))))
 (refine WV_cond rfl (fun h => ?_) (fun h => ?_))
 ·simp at h
 (repeat ((first | refine Va ?_ | refine Vb ?_ | refine Vc ?_ | refine Vd ?_ | refine Ve ?_ | refine Vf ?_); (try simp only [go_sem,hP]); (repeat refine qJ ?_)))
 (refine AS_pu (h19) ?_; simp only [go_sem,hP]; (repeat refine qJ ?_); (repeat ((first | refine Va ?_ | refine Vb ?_ | refine Vc ?_ | refine Vd ?_ | refine Ve ?_ | refine Vf ?_); (try simp only [go_sem,hP]); (repeat refine qJ ?_))))
 (refine AS_pu (h30') ?_; simp only [go_sem,hP,List.length_map]; (repeat refine qJ ?_); (repeat ((first | refine Va ?_ | refine Vb ?_ | refine Vc ?_ | refine Vd ?_ | refine Ve ?_ | refine Vf ?_); (try simp only [go_sem,hP,List.length_map]); (repeat refine qJ ?_))))
 (refine WV_cond rfl (fun h => ?_) (fun h => ?_))
 ·simp at h; omega
 (repeat ((first | refine Va ?_ | refine Vb ?_ | refine Vc ?_ | refine Vd ?_ | refine Ve ?_ | refine Vf ?_); (try simp only [go_sem,hP]); (repeat refine qJ ?_)))
 refine WV_nilslot 13 82 31 2 (by decide) (by decide) rfl rfl ?_
 simp only [go_sem]
 refine WV_loopS (fun k:Nat => ⟨upd (upd (upd (upd (upd (upd (upd e0 1 (.c (.sl 2 (ms.map placeC)))) 2 (.c (.sl 2 (tell.map placeC)))) 8 (.c (strsV (bookB ts)))) 10 (sv (textG (spo ts ms)))) 11 (.c (.sl 2 (X.map placeC)))) 14 (iv k)) 13 (.gr 82),upd o0 82 (.grow 31 2 ((freeL X (tell.take k)).map placeC))⟩) (fun k => k ≤ tell.length) (fun k => tell.length - k) 0 (Nat.zero_le _) ?_ ?_
 ·(refine Sub_of (by simp only [go_sem]; ((repeat' (first | exact EnvLe_e0 _ _ | refine EnvLe_upd ?_ ?_)) <;> ((try simp only [upd_app,e0_app,o0_app,Nat.reduceEqDiff,reduceIte]); first | exact AWk.refl _ _ | exact AWk.int (by omega) | exact AWk.int (by rw [w64 (by omega) (by omega)]; omega) | exact AWk.grow rfl | exact AWk.nil _ | exact AWk.of (by simp [freeL])))) (by simp only [go_sem]; exact ObjLe_au))
 intro k hk0
 (repeat ((first | refine Va ?_ | refine Vb ?_ | refine Vc ?_ | refine Vd ?_ | refine Ve ?_ | refine Vf ?_); (try simp only [go_sem,hP,List.length_map]); (repeat refine qJ ?_)))
 (refine WV_cond rfl (fun h => ?_) (fun h => ?_))
 ·have hk:k < tell.length:=by simpa using h
  have hw2:=w64 (n:=(k:Int) + 1) (by omega) (by omega)
  have hgt:(tell.map placeC).getD k [] = placeC tell[k]:=map_getD hk
  have hsn:=freeL_succ X hk
  have hfl:=freeL_len X (tell.take k)
  rw [List.length_take] at hfl
  generalize tell[k] = t at hgt hsn
  have hhas:=has32 X t (by omega)
  have hhas':FSpec Tryd.prog 32 [.c (.sl 2 (X.map placeC)),.agg [.c (.int .i64 t.1),.c (.int .i64 t.2)]] (bv (X.contains t)):=hhas
  have n1:=places_two (freeL X (tell.take k))
  generalize freeL X (tell.take k) = F at hsn hfl n1
  (refine WV_skip ?_; simp only [go_sem])
  refine WV_seq_ (WV_block (WV_seq_ ?_))
  (refine WV_op ?_; simp only [go_sem,hP,hgt,placeC,Int.toNat_natCast,Int.ofNat_lt,hk,Int.natCast_nonneg,List.length_map]; (repeat refine qJ ?_))
  refine AS_pu hhas' ?_
  simp only [go_sem]
  (repeat refine qJ ?_)
  by_cases hxc:X.contains t = true
  ·rw [if_pos hxc,List.append_nil] at hsn
   rw [hxc]
   (refine WV_cond rfl (fun h => ?_) (fun h => ?_))
   ·simp at h
   ·(repeat ((first | refine Va ?_ | refine Vb ?_ | refine Vc ?_ | refine Vd ?_ | refine Ve ?_ | refine Vf ?_); (try simp only [go_sem,hP,hw2]); (repeat refine qJ ?_)))
    refine ⟨k + 1,by omega,by omega,?_⟩
    rw [hsn]
    exact Sub_au
  ·rw [if_neg hxc] at hsn
   have hxc:X.contains t = false:=by simpa using hxc
   rw [hxc]
   (refine WV_cond rfl (fun h => ?_) (fun h => ?_))
   ·have hsn2:(freeL X (tell.take (k + 1))).map placeC = F.map placeC ++ [[.int .i64 t.1,.int .i64 t.2]]:=by rw [hsn,List.map_append]; rfl
    (repeat ((first | refine Va ?_ | refine Vb ?_ | refine Vc ?_ | refine Vd ?_ | refine Ve ?_ | refine Vf ?_); (try simp only [go_sem,hP,hgt,placeC,Int.toNat_natCast,Int.ofNat_lt,hk,Int.natCast_nonneg,List.length_map,n1,hw2]); (repeat refine qJ ?_)))
    refine ⟨k + 1,by omega,by omega,?_⟩
    rw [hsn2]
    exact Sub_au
   ·simp at h
 have hk:k = tell.length:=by simp at h; omega
 subst hk
 rw [List.take_length]
 have hfl:=freeL_len X tell
 have hfr:∀ p ∈ L,icst p ∉ freeL X tell:=fun p hp hc => by
  unfold freeL at hc
  have:=(List.mem_filter.1 hc).2
  rw [Bool.not_eq_true',List.contains_eq_mem,decide_eq_false_iff_not] at this
  exact this (by rw [hX]; exact List.mem_map_of_mem hp)
 generalize freeL X tell = F at hfl hfr
 have k33:=h33 F (by omega)
 have k19:=plain19' (hsk F)
 have ktl:=text_len (hsk F)
 have k30:=left30 (textG (tld ts ms F)) (by omega)
 rw [hlq F,hord F (by rw [← hLd]; exact hfr),← hLd] at k30
 have k30':FSpec Tryd.prog 30 [sv (textG (tld ts ms F))] (.tup [.c (.sl 2 (X.map placeC)),iv 0]):=by
  have:FSpec Tryd.prog 30 [sv (textG (tld ts ms F))] (.tup [.c (marksC L),iv 0]):=k30
  rwa [marksC_places,← hX] at this
 have h35:=same35 X X (by omega)
 rw [show (X == X) = true from beq_self_eq_true _] at h35
 have h35':FSpec Tryd.prog 35 [.c (.sl 2 (X.map placeC)),.c (.sl 2 (X.map placeC))] (bv true):=h35
 have k33':FSpec Tryd.prog 33 [.c (strsV (spo ts ms)),.c (strsV (bookB ts)),.c (.sl 2 (F.map placeC))] (.c (strsV (tld ts ms F))):=k33
 refine WV_exit ?_
 simp only [thenQ,inQ,reduceIte,beq_self_eq_true]
 (repeat ((first | refine Va ?_ | refine Vb ?_ | refine Vc ?_ | refine Vd ?_ | refine Ve ?_ | refine Vf ?_); (try simp only [go_sem,hP]); (repeat refine qJ ?_)))
 (refine AS_pu (h34) ?_; simp only [go_sem,hP]; (repeat refine qJ ?_); (repeat ((first | refine Va ?_ | refine Vb ?_ | refine Vc ?_ | refine Vd ?_ | refine Ve ?_ | refine Vf ?_); (try simp only [go_sem,hP]); (repeat refine qJ ?_))))
 (refine AS_pu (k33') ?_; simp only [go_sem,hP]; (repeat refine qJ ?_); (repeat ((first | refine Va ?_ | refine Vb ?_ | refine Vc ?_ | refine Vd ?_ | refine Ve ?_ | refine Vf ?_); (try simp only [go_sem,hP]); (repeat refine qJ ?_))))
 (refine AS_pu (k19) ?_; simp only [go_sem,hP]; (repeat refine qJ ?_); (repeat ((first | refine Va ?_ | refine Vb ?_ | refine Vc ?_ | refine Vd ?_ | refine Ve ?_ | refine Vf ?_); (try simp only [go_sem,hP]); (repeat refine qJ ?_))))
 (refine AS_pu (k30') ?_; simp only [go_sem,hP]; (repeat refine qJ ?_); (repeat ((first | refine Va ?_ | refine Vb ?_ | refine Vc ?_ | refine Vd ?_ | refine Ve ?_ | refine Vf ?_); (try simp only [go_sem,hP]); (repeat refine qJ ?_))))
 (refine AG_pu (fun hG => h35') ?_; simp only [go_sem,hP]; (repeat refine qJ ?_); (repeat ((first | refine Va ?_ | refine Vb ?_ | refine Vc ?_ | refine Vd ?_ | refine Ve ?_ | refine Vf ?_); (try simp only [go_sem,hP]); (repeat refine qJ ?_))))
 (refine WV_cond rfl (fun h => ?_) (fun h => ?_))
 ·simp at h
 (repeat ((first | refine Va ?_ | refine Vb ?_ | refine Vc ?_ | refine Vd ?_ | refine Ve ?_ | refine Vf ?_); (try simp only [go_sem,hP]); (repeat refine qJ ?_)))
 refine WV_loopS (fun i:Nat => ⟨upd (upd (upd e0 1 (.c (.sl 2 (ms.map placeC)))) 11 (.c (.sl 2 (X.map placeC)))) 17 (iv i),o0⟩) (fun i => i ≤ X.length) (fun i => X.length - i) 0 (Nat.zero_le _) ?_ ?_
 ·exact Sub_au
 intro i hi0
 (repeat ((first | refine Va ?_ | refine Vb ?_ | refine Vc ?_ | refine Vd ?_ | refine Ve ?_ | refine Vf ?_); (try simp only [go_sem,hP,List.length_map]); (repeat refine qJ ?_)))
 (refine WV_cond rfl (fun h => ?_) (fun h => ?_))
 ·have hi:i < X.length:=by simpa using h
  have hw2:=w64 (n:=(i:Int) + 1) (by omega) (by omega)
  have hgi:(X.map placeC).getD i [] = placeC X[i]:=map_getD hi
  have hxi:X.getD i (0,0) = X[i]:=by rw [List.getD_eq_getElem?_getD,List.getElem?_eq_getElem hi]; rfl
  obtain ⟨o1,o2,o3⟩:=hoth i hi
  have s1:=othL_succ Prod.fst X i
  have s2:=othL_succ Prod.snd X i
  rw [hxi] at s1 s2
  have hhas:=has32 ms X[i] (by omega)
  rw [o1] at hhas
  generalize X[i] = x at hgi s1 s2 hhas
  have hhas':FSpec Tryd.prog 32 [.c (.sl 2 (ms.map placeC)),.agg [.c (.int .i64 x.1),.c (.int .i64 x.2)]] (bv true):=hhas
  (refine WV_skip ?_; simp only [go_sem])
  (repeat ((first | refine Va ?_ | refine Vb ?_ | refine Vc ?_ | refine Vd ?_ | refine Ve ?_ | refine Vf ?_); (try simp only [go_sem,hP]); (repeat refine qJ ?_)))
  refine WV_loopS (fun k:Nat => ⟨upd (upd (upd (upd (upd (upd e0 1 (.c (.sl 2 (ms.map placeC)))) 11 (.c (.sl 2 (X.map placeC)))) 17 (iv i)) 20 (iv k)) 18 (bv (othL Prod.fst X i k))) 19 (bv (othL Prod.snd X i k)),o0⟩) (fun k => k ≤ X.length) (fun k => X.length - k) 0 (Nat.zero_le _) ?_ ?_
  ·(refine Sub_of (by simp only [go_sem]; ((repeat' (first | exact EnvLe_e0 _ _ | refine EnvLe_upd ?_ ?_)) <;> ((try simp only [upd_app,e0_app,o0_app,Nat.reduceEqDiff,reduceIte]); first | exact AWk.refl _ _ | exact AWk.int (by omega) | exact AWk.int (by rw [w64 (by omega) (by omega)]; omega) | exact AWk.grow rfl | exact AWk.nil _ | exact AWk.of (by simp [othL])))) (by simp only [go_sem]; exact ObjLe_au))
  intro k hk0
  (repeat ((first | refine Va ?_ | refine Vb ?_ | refine Vc ?_ | refine Vd ?_ | refine Ve ?_ | refine Vf ?_); (try simp only [go_sem,hP,List.length_map]); (repeat refine qJ ?_)))
  (refine WV_cond rfl (fun h => ?_) (fun h => ?_))
  ·have hk:k < X.length:=by simpa using h
   have hw3:=w64 (n:=(k:Int) + 1) (by omega) (by omega)
   have hgk:(X.map placeC).getD k [] = placeC X[k]:=map_getD hk
   have hxk:X.getD k (0,0) = X[k]:=by rw [List.getD_eq_getElem?_getD,List.getElem?_eq_getElem hk]; rfl
   have t1:=s1 k
   have t2:=s2 k
   rw [hxk] at t1 t2
   generalize X[k] = y at hgk t1 t2
   generalize othL Prod.fst X i k = A at t1
   generalize othL Prod.snd X i k = B at t2
   (refine WV_skip ?_; simp only [go_sem])
   refine WV_seq_ (WV_block ?_)
   refine WV_seq_ ?_
   (refine WV_op ?_; simp only [go_sem,hP,hgi,hgk,placeC,List.length_map,Int.toNat_natCast,Int.ofNat_lt,hi,hk,Int.natCast_nonneg]; (repeat refine qJ ?_))
   (refine WV_op ?_; simp only [go_sem,hP,hgi,hgk,placeC,List.length_map,Int.toNat_natCast,Int.ofNat_lt,hi,hk,Int.natCast_nonneg]; (repeat refine qJ ?_))
   (repeat ((first | refine Va ?_ | refine Vb ?_ | refine Vc ?_ | refine Vd ?_ | refine Ve ?_ | refine Vf ?_); (try simp only [go_sem,hP,hw3]); (repeat refine qJ ?_)))
   refine ⟨k + 1,by omega,by omega,?_⟩
   rw [t1,t2]
   exact Sub_au
  ·have hk:k = X.length:=by simp at h; omega
   subst hk
   rw [o2,o3]
   refine WV_exit ?_
   simp only [thenQ,inQ,reduceIte,beq_self_eq_true]
   (repeat ((first | refine Va ?_ | refine Vb ?_ | refine Vc ?_ | refine Vd ?_ | refine Ve ?_ | refine Vf ?_); (try simp only [go_sem,hP,hgi,placeC,List.length_map,Int.toNat_natCast,Int.ofNat_lt,hi,Int.natCast_nonneg]); (repeat refine qJ ?_)))
   (refine AG_pu (fun hG => hhas') ?_; simp only [go_sem,hP]; (repeat refine qJ ?_); (repeat ((first | refine Va ?_ | refine Vb ?_ | refine Vc ?_ | refine Vd ?_ | refine Ve ?_ | refine Vf ?_); (try simp only [go_sem,hP]); (repeat refine qJ ?_))))
   (refine WV_cond rfl (fun h => ?_) (fun h => ?_))
   ·simp at h
   ·(repeat ((first | refine Va ?_ | refine Vb ?_ | refine Vc ?_ | refine Vd ?_ | refine Ve ?_ | refine Vf ?_); (try simp only [go_sem,hP,hw2]); (repeat refine qJ ?_)))
    refine ⟨i + 1,by omega,by omega,?_⟩
    exact Sub_au
 ·have hi:i = X.length:=by simp at h; omega
  subst hi
  refine WV_exit ?_
  simp only [thenQ,inQ,reduceIte,beq_self_eq_true]
  (repeat ((first | refine Va ?_ | refine Vb ?_ | refine Vc ?_ | refine Vd ?_ | refine Ve ?_ | refine Vf ?_); (try simp only [go_sem,hP]); (repeat refine qJ ?_)))
  (refine AS_pu (hwk) ?_; simp only [go_sem,hP]; (repeat refine qJ ?_); (repeat ((first | refine Va ?_ | refine Vb ?_ | refine Vc ?_ | refine Vd ?_ | refine Ve ?_ | refine Vf ?_); (try simp only [go_sem,hP]); (repeat refine qJ ?_))))
  (refine WV_ret ?_; simp only [thenQ,inQ,RetQ,RetOk,resAll,resA]; simp only [go_sem,tupA,AV.port,AV.portL,exists_eq_left']; (first | exact AVle.of rfl | refine AVle.of ?_ | skip))
end Go.Proofs.YtlmfdmlochpfcaaDoor
