/-
  Contracts of the layer's functions, of the laws' helpers and of the law; conditions: as each theorem states.
-/
import Derived.Test.YtlmfdmlochpfcaaDoorU5
import Derived.Test.YtlmfdmlochpfcaaDoorV3
set_option linter.unusedVariables false
set_option linter.unusedSimpArgs false
namespace Go.Proofs.YtlmfdmlochpfcaaDoor
open Go Go.V
attribute [local go_sem] Nat.reduceEqDiff Nat.reduceAdd Nat.reduceMul reduceIte Nat.reduceLeDiff Nat.reduceLT Nat.reduceBEq reduceCtorEq
def putI (R : List IRow) (p : Nat × Nat) (v : Int) : List IRow := if h : p.1 < R.length then R.set p.1 ⟨(R[p.1]).l.set p.2 v, (R[p.1]).j, (R[p.1]).cap⟩ else R
theorem putI_eq {R : List IRow} {p : Nat × Nat} (v : Int) (h : p.1 < R.length) : putI R p v = R.set p.1 ⟨(R[p.1]).l.set p.2 v, (R[p.1]).j, (R[p.1]).cap⟩ := dif_pos h
theorem putI_len (R : List IRow) (p : Nat × Nat) (v : Int) : (putI R p v).length = R.length := by unfold putI; split <;> simp
theorem putI_refs (R : List IRow) (p : Nat × Nat) (v : Int) : refs 1001 1 0 (putI R p v) = refs 1001 1 0 R := by
 unfold putI
 split
 ·rename_i h
  exact refs_set h _ (by simp) rfl
 ·rfl
theorem putI_gi {R : List IRow} {p : Nat × Nat} {v : Int} (h : p.1 < R.length) : gi (putI R p v) = setG (gi R) p v := by
 unfold setG
 rw [gi_row h, putI_eq v h]
 unfold gi
 rw [List.map_set]
theorem gown_putI {R : List IRow} {p : Nat × Nat} {v : Int} (h : p.1 < R.length) (hk : p.2 < (R[p.1]).l.length) (j : Nat) (o : Nat → Ob) : upd (gown icds 1 R j o) (p.1 + 1001) (.box ((cellsG icds (R[p.1]).l (R[p.1]).j).set p.2 (iv v))) = gown icds 1 (putI R p v) j o := by
 have := cellsG_set (cds := icds) icds_one hk (R[p.1]).j 0 (by decide) (.int .i64 v) v rfl
 rw [Nat.mul_one, Nat.add_zero] at this
 rw [this]
 have e : gridOb 1 (putI R p v) j = gridOb 1 R j := by unfold gridOb; rw [putI_refs]
 unfold gown
 rw [e, putI_eq v h]
 exact fam_set h ⟨(R[p.1]).l.set p.2 v, (R[p.1]).j, (R[p.1]).cap⟩
theorem GOk.gow {g : List (List Int)} (h : GOk g) : GOw g.length (wid g) g := ⟨rfl, h.row, h.val⟩
theorem GOw.gok {n w : Nat} {g : List (List Int)} (h : GOw n w g) (hn : 0 < n) (hn2 : n ≤ 41) (hw : w ≤ 32) : GOk g ∧ wid g = w ∧ g.length = n := by
 have hw1 : wid g = w := by unfold wid; exact h.row 0 hn
 refine ⟨⟨by rw [h.len]; exact hn, by rw [h.len]; exact hn2, by rw [hw1]; exact hw, fun i hi => by rw [hw1]; exact h.row i (by rw [← h.len]; exact hi), fun i k hi hk => h.val i k (by rw [← h.len]; exact hi) (by rw [← hw1]; exact hk)⟩, hw1, h.len⟩
theorem line_pos (g : List (List Int)) (i : Nat) (b : Bool) : lineP g i b = posL g.length (wid g) i b := rfl
end Go.Proofs.YtlmfdmlochpfcaaDoor

namespace Go.Proofs.YtlmfdmlochpfcaaDoor
open Go Go.V
attribute [local go_sem] Nat.reduceEqDiff Nat.reduceAdd Nat.reduceMul reduceIte Nat.reduceLeDiff Nat.reduceLT Nat.reduceBEq reduceCtorEq
end Go.Proofs.YtlmfdmlochpfcaaDoor

namespace Go.Proofs.YtlmfdmlochpfcaaDoor
open Go Go.V
theorem BOk.ne10 {b : UInt8} (h : BOk b) : b ≠ 10 := by
 rintro rfl
 unfold BOk at h
 simp at h
theorem SOk.nl {rows : List (List UInt8)} {w : Nat} (h : SOk rows w) : ∀ l ∈ rows, (10 : UInt8) ∉ l := fun l hl hm => (h.byte l hl 10 hm).ne10 rfl
end Go.Proofs.YtlmfdmlochpfcaaDoor

namespace Go.Proofs.YtlmfdmlochpfcaaDoor
open Go Go.V
attribute [local go_sem] Nat.reduceEqDiff Nat.reduceAdd Nat.reduceMul reduceIte Nat.reduceLeDiff Nat.reduceLT Nat.reduceBEq reduceCtorEq
end Go.Proofs.YtlmfdmlochpfcaaDoor

namespace Go.Proofs.YtlmfdmlochpfcaaDoor
open Go Go.V
attribute [local go_sem] Nat.reduceEqDiff Nat.reduceAdd Nat.reduceMul reduceIte Nat.reduceLeDiff Nat.reduceLT Nat.reduceBEq reduceCtorEq
end Go.Proofs.YtlmfdmlochpfcaaDoor

namespace Go.Proofs.YtlmfdmlochpfcaaDoor
open Go Go.V
namespace W
end W
attribute [local go_sem] Nat.reduceEqDiff Nat.reduceAdd Nat.reduceMul reduceIte Nat.reduceLeDiff Nat.reduceLT Nat.reduceBEq reduceCtorEq
end Go.Proofs.YtlmfdmlochpfcaaDoor

namespace Go.Proofs.YtlmfdmlochpfcaaDoor
open Go Go.V
abbrev o59_0 : List Ins := [⟨(some 2), .mv (.k (.c (.str []))), none, true⟩]
abbrev o59_1 : List Ins := [⟨(some 3), .mv (.k (.c (.str []))), none, true⟩]
abbrev o59_2 : List Ins := [⟨(some 4), .mv (.k (.c (.int .i64 0))), none, true⟩]
abbrev o59_3 : List Ins := [⟨(some 6), .mv (.t 4), none, true⟩,
 ⟨(some 7), .mv (.t 0), none, true⟩,
 ⟨(some 8), .len (.t 7), none, true⟩,
 ⟨(some 9), .bin .lss (.t 6) (.t 8), none, true⟩]
abbrev v59_4 : VC := (.cond (.t 9) .skip (.exit 0))
abbrev o59_5 : List Ins := [⟨(some 5), .mv (.k (.c (.int .i64 0))), none, true⟩]
abbrev o59_6 : List Ins := [⟨(some 12), .mv (.t 5), none, true⟩,
 ⟨(some 13), .mv (.t 0), none, true⟩,
 ⟨(some 14), .mv (.t 4), none, true⟩,
 ⟨(some 15), .ia 1 (.t 13) (.t 14), none, true⟩,
 ⟨(some 16), .ld true 1 (.t 15), none, true⟩,
 ⟨(some 17), .len (.t 16), none, true⟩,
 ⟨(some 18), .bin .lss (.t 12) (.t 17), none, true⟩]
abbrev v59_7 : VC := (.cond (.t 18) .skip (.exit 2))
abbrev o59_8 : List Ins := [⟨(some 21), .mv (.t 3), none, true⟩,
 ⟨(some 22), .mv (.t 0), none, true⟩,
 ⟨(some 23), .mv (.t 4), none, true⟩,
 ⟨(some 24), .ia 1 (.t 22) (.t 23), none, true⟩,
 ⟨(some 25), .ld true 1 (.t 24), none, true⟩,
 ⟨(some 26), .mv (.t 5), none, true⟩,
 ⟨(some 27), .ia 1 (.t 25) (.t 26), none, true⟩,
 ⟨(some 28), .ld true 1 (.t 27), none, true⟩,
 ⟨(some 29), .call (.k (.fn 86 [])) [(.t 28)], none, true⟩,
 ⟨(some 30), .bsl 5 1 [(.t 29)], none, true⟩,
 ⟨(some 31), .raw (.convert 68 9 (.tmp 30)), none, true⟩,
 ⟨(some 32), .prim (.sbin .add) [(.t 21), (.t 31)], none, true⟩,
 ⟨(some 3), .mv (.t 32), none, true⟩]
abbrev o59_9 : List Ins := [⟨(some 19), .mv (.t 5), none, true⟩,
 ⟨(some 20), .bin .add (.t 19) (.k (.c (.int .i64 1))), none, true⟩,
 ⟨(some 5), .mv (.t 20), none, true⟩]
abbrev v59_10 : VC := (.seq (.block 3 (.ops o59_8)) (.ops o59_9))
abbrev v59_11 : VC := (.seq (.seq (.ops o59_6) v59_7) v59_10)
-- K59_2: changed and kept: [5, 3]
abbrev K59_2 : List Nat := [0, 4]
abbrev v59_12 : VC := (.loop v59_11)
abbrev v59_13 : VC := (.block 2 v59_12)
abbrev o59_14 : List Ins := [⟨(some 33), .mv (.t 3), none, true⟩,
 ⟨(some 34), .prim (.sbin .add) [(.t 33), (.k (.c (.str [10])))], none, true⟩,
 ⟨(some 3), .mv (.t 34), none, true⟩]
abbrev v59_15 : VC := (.seq (.seq (.ops o59_5) v59_13) (.ops o59_14))
abbrev o59_16 : List Ins := [⟨(some 10), .mv (.t 4), none, true⟩,
 ⟨(some 11), .bin .add (.t 10) (.k (.c (.int .i64 1))), none, true⟩,
 ⟨(some 4), .mv (.t 11), none, true⟩]
abbrev v59_17 : VC := (.seq (.block 1 v59_15) (.ops o59_16))
abbrev v59_18 : VC := (.seq (.seq (.ops o59_3) v59_4) v59_17)
-- K59_1: changed and kept: [4, 3]
abbrev K59_1 : List Nat := [0]
abbrev v59_19 : VC := (.loop v59_18)
abbrev v59_20 : VC := (.block 0 v59_19)
abbrev o59_21 : List Ins := [⟨(some 35), .mv (.t 3), none, true⟩,
 ⟨(some 2), .mv (.t 35), none, true⟩]
abbrev v59_22 : VC := (.seq (.ops o59_21) .ret)
abbrev v59_23 : VC := (.seq (.seq (.ops o59_2) v59_20) v59_22)
abbrev v59_24 : VC := (.seq (.ops o59_1) v59_23)
def ir59 : FC := ⟨1, 36, [.t 2], (.seq (.ops o59_0) v59_24)⟩
theorem c59 : compM Tryd.prog [] 59 = some ir59 := by kernel_rfl
attribute [local go_sem] Nat.reduceEqDiff Nat.reduceAdd Nat.reduceMul reduceIte Nat.reduceLeDiff Nat.reduceLT Nat.reduceBEq reduceCtorEq
def ValsOk (g : List (List Int)) : Prop := ∀ l ∈ g, l.length ≤ 1000 ∧ ∀ n ∈ l, -1 ≤ n ∧ n < 94
theorem GOw.valsOk {n w : Nat} {g : List (List Int)} (h : GOw n w g) (hw : w ≤ 1000) : ValsOk g := by
 intro l hl
 obtain ⟨i, hi, rfl⟩ := List.getElem_of_mem hl
 have hi2 : i < n := by rw [← h.len]; exact hi
 have e : g.getD i [] = g[i] := by rw [List.getD_eq_getElem?_getD, List.getElem?_eq_getElem hi]; rfl
 have hr := h.row i hi2
 rw [e] at hr
 refine ⟨by omega, fun m hm => ?_⟩
 obtain ⟨k, hk, rfl⟩ := List.getElem_of_mem hm
 have := h.val i k hi2 (by omega)
 unfold valAt at this
 simp only [e] at this
 rwa [List.getD_eq_getElem?_getD, List.getElem?_eq_getElem hk] at this
theorem bytesG_snoc {g : List (List Int)} {k : Nat} (h : k < g.length) : textG (bytesG (g.take (k + 1))) = textG (bytesG (g.take k)) ++ ((g[k]).map sgn ++ [10]) := by
 unfold textG bytesG
 rw [List.take_succ_eq_append_getElem h, List.map_append, List.flatMap_append]
 simp
theorem take_map_snoc {l : List Int} {k : Nat} (h : k < l.length) : (l.take (k + 1)).map sgn = (l.take k).map sgn ++ [sgn l[k]] := by
 rw [List.take_succ_eq_append_getElem h, List.map_append]; rfl
theorem textB_len (g : List (List Int)) (h : ValsOk g) : ∀ k, k ≤ g.length → (textG (bytesG (g.take k))).length ≤ k * 1001
 | 0, _ => by simp [textG, bytesG]
 | k + 1, hk => by
  have ih := textB_len g h k (by omega)
  rw [bytesG_snoc (by omega)]
  have := (h _ (List.getElem_mem (show k < g.length by omega))).1
  simp
  omega
set_option maxRecDepth 20000 in
set_option maxHeartbeats 8000000 in
theorem text59 {g : List (List Int)} (h : ValsOk g) (hg : g.length ≤ 1000) : FSpec Tryd.prog 59 [.c (gridC g)] (sv (textG (bytesG g))) := by
 have hmax : maxLen = 9223372036854775807 := rfl
 refine FSpec_ofP c59 (Nat.le_refl _) (by decide) fun C hP hN hC hpin hL => ?_; rw [init_st]
 simp only [ir59]
 (repeat ((first | refine Va ?_ | refine Vb ?_ | refine Vc ?_ | refine Vd ?_ | refine Ve ?_ | refine Vf ?_); (try simp only [go_sem, hP]); (repeat refine qJ ?_)))
 refine WV_loopK K59_1 [] (fun k : Nat => k ≤ g.length) (fun k => g.length - k) (fun k => [(4, iv k), (3, sv (textG (bytesG (g.take k))))]) (fun _ => []) 0 (Nat.zero_le _) ?_ ?_
 ·(refine Sub_of (by simp only [go_sem]; ((repeat' (first | exact EnvLe_e0 _ _ | refine EnvLe_upd ?_ ?_)) <;> ((try simp only [upd_app, e0_app, o0_app, Nat.reduceEqDiff, reduceIte]); first | exact AWk.refl _ _ | exact AWk.int (by omega) | exact AWk.int (by rw [w64 (by omega) (by omega)]; omega) | exact AWk.grow rfl | exact AWk.nil _ | exact AWk.of (by simp [textG, bytesG])))) (by simp only [go_sem]; exact ObjLe_au))
 ·intro k hk0
  simp only [go_sem]
  (repeat ((first | refine Va ?_ | refine Vb ?_ | refine Vc ?_ | refine Vd ?_ | refine Ve ?_ | refine Vf ?_); (try simp only [go_sem, hP, gridC, List.length_map]); (repeat refine qJ ?_)))
  (refine WV_cond rfl (fun h => ?_) (fun h => ?_))
  ·have hk : k < g.length := by simpa using h
   have hw2 := w64 (n := (k : Int) + 1) (by omega) (by omega)
   have hv := ‹ValsOk g› _ (List.getElem_mem hk)
   have htl := textB_len g (by assumption) k (by omega)
   have htl2 : k * 1001 ≤ 1000 * 1001 := Nat.mul_le_mul (by omega) (Nat.le_refl _)
   have hsn := bytesG_snoc hk
   generalize textG (bytesG (g.take k)) = T at htl hsn
   generalize hrow : g[k] = row at hv hsn
   have hgr : (g.map fun l => [rowC l]).getD k [] = [.sl 1 (row.map fun n => [CD.int .i64 n])] := by rw [map_getD hk, hrow]; rfl
   (refine WV_skip ?_; simp only [go_sem])
   refine WV_seq_ (WV_block (WV_seq_ (WV_seq_ ?_)))
   (refine WV_op ?_; simp only [go_sem, hP]; (repeat refine qJ ?_))
   refine WV_block ?_
   refine WV_loopK K59_2 [] (fun i : Nat => i ≤ row.length) (fun i => row.length - i) (fun i => [(5, iv i), (3, sv (T ++ (row.take i).map sgn))]) (fun _ => []) 0 (Nat.zero_le _) ?_ ?_
   ·exact Sub_au
   ·intro i hi0
    simp only [go_sem]
    (repeat ((first | refine Va ?_ | refine Vb ?_ | refine Vc ?_ | refine Vd ?_ | refine Ve ?_ | refine Vf ?_); (try simp only [go_sem, hP, gridC, hgr, List.length_map, Int.toNat_natCast, Int.ofNat_lt, hk, Int.natCast_nonneg]); (repeat refine qJ ?_)))
    (refine WV_cond rfl (fun h => ?_) (fun h => ?_))
    ·have hi : i < row.length := by simpa using h
     have hw3 := w64 (n := (i : Int) + 1) (by omega) (by omega)
     have hvi := hv.2 _ (List.getElem_mem hi)
     have hir : (row.map fun n => [CD.int .i64 n]).getD i [] = [.int .i64 row[i]] := map_getD hi
     have hts := take_map_snoc hi
     (refine WV_skip ?_; simp only [go_sem])
     refine WV_seq_ (WV_block ?_)
     have hlt : (T ++ (row.take i).map sgn).length + 1 ≤ 2000000 := by simp; omega
     (refine WV_op ?_; simp only [go_sem, hP, hgr, hir, List.length_map, Int.toNat_natCast, Int.ofNat_lt, hk, hi, Int.natCast_nonneg]; (repeat refine qJ ?_))
     refine AS_pure (byte86 hvi) rfl rfl rfl rfl rfl ?_
     simp only [go_sem]
     refine raw_bs (s := [sgn row[i]]) (e := 5) (x' := .t 30) (by kernel_rfl) (by kernel_rfl) (by kernel_rfl) rfl rfl rfl ?_
     simp only [go_sem, List.length_cons, List.length_nil]
     (repeat refine qJ ?_)
     (repeat ((first | refine Va ?_ | refine Vb ?_ | refine Vc ?_ | refine Vd ?_ | refine Ve ?_ | refine Vf ?_); (try simp only [go_sem, hP, hw3]); (repeat refine qJ ?_)))
     refine ⟨i + 1, by omega, by omega, ?_⟩
     rw [hts, ← List.append_assoc]
     exact Sub_au
    ·have hi : i = row.length := by simp at h; omega
     subst hi
     rw [List.take_length]
     refine WV_exit ?_
     simp only [thenQ, inQ, reduceIte, beq_self_eq_true]
     have hlt : (T ++ row.map sgn).length + 1 ≤ 2000000 := by simp; omega
     (repeat ((first | refine Va ?_ | refine Vb ?_ | refine Vc ?_ | refine Vd ?_ | refine Ve ?_ | refine Vf ?_); (try simp only [go_sem, hP, hw2, List.length_cons, List.length_nil]); (repeat refine qJ ?_)))
     refine ⟨k + 1, by omega, by omega, ?_⟩
     rw [hsn, ← List.append_assoc]
     exact Sub_au
  ·have hk : k = g.length := by simp at h; omega
   subst hk
   rw [List.take_length]
   (repeat ((first | refine Va ?_ | refine Vb ?_ | refine Vc ?_ | refine Vd ?_ | refine Ve ?_ | refine Vf ?_); (try simp only [go_sem, hP]); (repeat refine qJ ?_)))
   (refine WV_ret ?_; simp only [thenQ, inQ, RetQ, RetOk, resAll, resA]; simp only [go_sem, tupA, AV.port, AV.portL, exists_eq_left']; (first | exact AVle.of rfl | refine AVle.of ?_ | skip))
end Go.Proofs.YtlmfdmlochpfcaaDoor

namespace Go.Proofs.YtlmfdmlochpfcaaDoor
open Go Go.V
attribute [local go_sem] Nat.reduceEqDiff Nat.reduceAdd Nat.reduceMul reduceIte Nat.reduceLeDiff Nat.reduceLT Nat.reduceBEq reduceCtorEq
end Go.Proofs.YtlmfdmlochpfcaaDoor

namespace Go.Proofs.YtlmfdmlochpfcaaDoor
open Go Go.V
def Lost (n w : Nat) (g : List (List Int)) (p : Nat × Nat) : Prop := p.1 < n ∧ p.2 < w ∧ valAt g p = -1
def Clos (S : Nat × Nat → Prop) : Prop := ∀ p, S p → (∃ q, S q ∧ q ≠ p ∧ q.1 = p.1) ∧ (∃ q, S q ∧ q ≠ p ∧ q.2 = p.2)
theorem posL_mem {n w i : Nat} {b : Bool} {p : Nat × Nat} : p ∈ posL n w i b ↔ if b then p.1 = i ∧ p.2 < w else p.2 = i ∧ p.1 < n := by
 unfold posL
 cases b
 ·simp only [Bool.false_eq_true, if_false, List.mem_map, List.mem_range]
  constructor
  ·rintro ⟨k, hk, rfl⟩; exact ⟨rfl, hk⟩
  ·rintro ⟨rfl, h⟩; exact ⟨p.1, h, rfl⟩
 ·simp only [if_true, List.mem_map, List.mem_range]
  constructor
  ·rintro ⟨k, hk, rfl⟩; exact ⟨rfl, hk⟩
  ·rintro ⟨rfl, h⟩; exact ⟨p.2, h, rfl⟩
theorem posL_row_mem {n w i : Nat} {p : Nat × Nat} : p ∈ posL n w i true ↔ p.1 = i ∧ p.2 < w := by rw [posL_mem]; simp
theorem posL_col_mem {n w i : Nat} {p : Nat × Nat} : p ∈ posL n w i false ↔ p.2 = i ∧ p.1 < n := by rw [posL_mem]; simp
theorem allP_mem {n w : Nat} {l : List (Nat × Nat)} : l ∈ allP n w ↔ (∃ i, i < n ∧ l = posL n w i true) ∨ (∃ k, k < w ∧ l = posL n w k false) := by
 simp only [allP, List.mem_append, List.mem_map, List.mem_range]
 constructor
 ·rintro (⟨i, h, rfl⟩ | ⟨i, h, rfl⟩)
  ·exact .inl ⟨i, h, rfl⟩
  ·exact .inr ⟨i, h, rfl⟩
 ·rintro (⟨i, h, rfl⟩ | ⟨i, h, rfl⟩)
  ·exact .inl ⟨i, h, rfl⟩
  ·exact .inr ⟨i, h, rfl⟩
theorem lostL_mem {g : List (List Int)} {l : List (Nat × Nat)} {p : Nat × Nat} : p ∈ lostL g l ↔ p ∈ l ∧ valAt g p = -1 := by simp [lostL]
theorem posL_nodup (n w i : Nat) (b : Bool) : (posL n w i b).Nodup := by
 unfold posL
 cases b
 ·simp only [Bool.false_eq_true, if_false]
  exact List.pairwise_map.2 (List.nodup_range.imp fun h e => h (by simpa using e))
 ·simp only [if_true]
  exact List.pairwise_map.2 (List.nodup_range.imp fun h e => h (by simpa using e))
theorem allP_nodup {n w : Nat} {l : List (Nat × Nat)} (h : l ∈ allP n w) : l.Nodup := by
 rcases allP_mem.1 h with ⟨i, _, rfl⟩ | ⟨i, _, rfl⟩ <;> exact posL_nodup _ _ _ _
theorem step_clos {n w : Nat} {g g' : List (List Int)} (h : GOw n w g) (hs : stepG n w g = some g') {S : Nat × Nat → Prop} (hc : Clos S) (hS : ∀ p, S p → Lost n w g p) : ∀ p, S p → Lost n w g' p := by
 obtain ⟨l, p, hl, _, hlo, hpl, hv, rfl, _, _⟩ := stepG_some h hs
 intro q hq
 obtain ⟨h1, h2, h3⟩ := hS q hq
 refine ⟨h1, h2, ?_⟩
 rw [valAt_set]
 split
 ·rename_i he
  obtain ⟨rfl, _, _⟩ := he
  exfalso
  obtain ⟨⟨a, ha, hne, hr⟩, ⟨b, hb, hne2, hr2⟩⟩ := hc p hq
  have key : ∀ a, S a → a ∈ l → a = p := fun a ha hal => by
   have : a ∈ lostL g l := lostL_mem.2 ⟨hal, (hS a ha).2.2⟩
   rw [hlo] at this; simpa using this
  rcases allP_mem.1 hl with ⟨i, hi, rfl⟩ | ⟨k, hk, rfl⟩
  ·have := posL_row_mem.1 hpl
   exact hne (key a ha (posL_row_mem.2 ⟨hr.trans this.1, (hS a ha).2.1⟩))
  ·have := posL_col_mem.1 hpl
   exact hne2 (key b hb (posL_col_mem.2 ⟨hr2.trans this.1, (hS b hb).1⟩))
 ·exact h3
theorem two_lost {g : List (List Int)} {l : List (Nat × Nat)} (hnd : l.Nodup) {p : Nat × Nat} (hp : p ∈ l) (hv : valAt g p = -1) (h1 : (lostL g l).length ≠ 1) : ∃ q, q ∈ l ∧ valAt g q = -1 ∧ q ≠ p := by
 refine Classical.byContradiction fun hq => h1 ?_
 have hnd2 : (lostL g l).Nodup := hnd.filter _
 have hall : ∀ q ∈ lostL g l, q = p := fun q hq' => by
  obtain ⟨a, b⟩ := lostL_mem.1 hq'
  exact Classical.byContradiction fun hne => hq ⟨q, a, b, hne⟩
 have hmem : p ∈ lostL g l := lostL_mem.2 ⟨hp, hv⟩
 generalize lostL g l = L at hnd2 hall hmem
 match L, hnd2, hall, hmem with
 | [a], _, _, _ => rfl
 | a :: b :: t, hnd2, hall, _ =>
  have h1 := hall a (by simp)
  have h2 := hall b (by simp)
  rw [h1, h2] at hnd2
  simp at hnd2
theorem end_clos {n w : Nat} {g : List (List Int)} (hs : stepG n w g = none) : Clos (Lost n w g) := by
 have hn : ∀ l ∈ allP n w, (lostL g l).length ≠ 1 := by
  unfold stepG at hs
  split at hs
  ·cases hs
  ·rename_i hf
   intro l hl h1
   have := List.find?_eq_none.1 hf l hl
   simp [oneL, h1] at this
 rintro p ⟨h1, h2, h3⟩
 constructor
 ·obtain ⟨q, q1, q2, q3⟩ := two_lost (posL_nodup n w p.1 true) (posL_row_mem.2 ⟨rfl, h2⟩) h3 (hn _ (allP_mem.2 (.inl ⟨p.1, h1, rfl⟩)))
  have := posL_row_mem.1 q1
  exact ⟨q, ⟨by omega, this.2, q2⟩, q3, this.1⟩
 ·obtain ⟨q, q1, q2, q3⟩ := two_lost (posL_nodup n w p.2 false) (posL_col_mem.2 ⟨rfl, h1⟩) h3 (hn _ (allP_mem.2 (.inr ⟨p.2, h2, rfl⟩)))
  have := posL_col_mem.1 q1
  exact ⟨q, ⟨this.2, by omega, q2⟩, q3, this.1⟩
theorem restG_ind {n w : Nat} {M : List (List Int) → Prop} (hM : ∀ g g', GOw n w g → M g → stepG n w g = some g' → M g') : ∀ (k : Nat) (g : List (List Int)), nlost g = k → GOw n w g → M g → M (restG n w g) ∧ stepG n w (restG n w g) = none
 | 0, g, hk, h, hm => by
  cases hs : stepG n w g with
  | none => rw [restG_end hs]; exact ⟨hm, hs⟩
  | some g' => obtain ⟨_, _, _, _, _, _, _, _, _, hn⟩ := stepG_some h hs; omega
 | k + 1, g, hk, h, hm => by
  cases hs : stepG n w g with
  | none => rw [restG_end hs]; exact ⟨hm, hs⟩
  | some g' =>
   obtain ⟨_, _, _, _, _, _, _, _, hg, hn⟩ := stepG_some h hs
   rw [restG_step h hs]
   exact restG_ind hM k g' (by omega) hg (hM g g' h hm hs)
theorem restG_fin {n w : Nat} {g : List (List Int)} (h : GOw n w g) : stepG n w (restG n w g) = none := (restG_ind (M := fun _ => True) (fun _ _ _ _ _ => trivial) _ g rfl h trivial).2
theorem step_less {n w : Nat} {g g' : List (List Int)} (h : GOw n w g) (hs : stepG n w g = some g') {p : Nat × Nat} (hp : Lost n w g' p) : Lost n w g p := by
 obtain ⟨l, q, hl, _, hlo, hpl, hv, rfl, _, _⟩ := stepG_some h hs
 obtain ⟨h1, h2, h3⟩ := hp
 refine ⟨h1, h2, ?_⟩
 rw [valAt_set] at h3
 split at h3
 ·have := lack_rng g l; omega
 ·exact h3
theorem rest_core {n w : Nat} {g : List (List Int)} (h : GOw n w g) (p : Nat × Nat) : Lost n w (restG n w g) p ↔ ∃ S, Clos S ∧ (∀ q, S q → Lost n w g q) ∧ S p := by
 constructor
 ·intro hp
  refine ⟨Lost n w (restG n w g), end_clos (restG_fin h), ?_, hp⟩
  exact (restG_ind (M := fun g' => ∀ q, Lost n w g' q → Lost n w g q) (fun a b ha hm hs q hq => hm q (step_less ha hs hq)) _ g rfl h (fun _ h => h)).1
 ·rintro ⟨S, hc, hS, hp⟩
  exact (restG_ind (M := fun g' => ∀ q, S q → Lost n w g' q) (fun a b ha hm hs => step_clos ha hs hc hm) _ g rfl h hS).1 p hp
structure Right (n w : Nat) (G : List (List Int)) : Prop where
 gow : GOw n w G
 full : ∀ i k, i < n → k < w → valAt G (i, k) ≠ -1
 sum : ∀ l ∈ allP n w, lackL G l = 0
structure Part (n w : Nat) (G g : List (List Int)) : Prop where
 gow : GOw n w g
 val : ∀ i k, i < n → k < w → valAt g (i, k) = -1 ∨ valAt g (i, k) = valAt G (i, k)
theorem sumL_app (g : List (List Int)) (a b : List (Nat × Nat)) : sumL g (a ++ b) = sumL g a + sumL g b := by simp [sumL]
theorem sumL_cons (g : List (List Int)) (m : Nat × Nat) (b : List (Nat × Nat)) : sumL g (m :: b) = (if valAt g m = -1 then 0 else valAt g m) + sumL g b := by simp [sumL]
theorem sumL_congr {g G : List (List Int)} {l : List (Nat × Nat)} (h : ∀ m ∈ l, valAt g m = valAt G m) : sumL g l = sumL G l := by
 unfold sumL
 congr 1
 exact List.map_congr_left fun m hm => by rw [h m hm]
theorem part_lack {n w : Nat} {G g : List (List Int)} (hG : Right n w G) (hp : Part n w G g) {l : List (Nat × Nat)} (hl : l ∈ allP n w) {p : Nat × Nat} (hlo : lostL g l = [p]) : lackL g l = valAt G p := by
 obtain ⟨A, q, B, e, hA, hB, hq, hlo2⟩ := lost_one (g := g) (ps := l) (by rw [hlo]; rfl)
 rw [hlo] at hlo2
 simp only [List.cons.injEq, and_true] at hlo2
 subst hlo2
 have hin := allP_in hl
 have hin2 : ∀ m ∈ l, valAt g m ≠ -1 → valAt g m = valAt G m := fun m hm hv => by
  obtain ⟨h1, h2⟩ := hin m hm
  rcases hp.val m.1 m.2 h1 h2 with h | h
  ·exact (hv h).elim
  ·exact h
 have hA2 : sumL g A = sumL G A := sumL_congr fun m hm => hin2 m (by rw [e]; simp [hm]) (hA m hm)
 have hB2 : sumL g B = sumL G B := sumL_congr fun m hm => hin2 m (by rw [e]; simp [hm]) (hB m hm)
 have hz := hG.sum l hl
 have hpin := hin p (by rw [e]; simp)
 have hf := hG.full p.1 p.2 hpin.1 hpin.2
 have hv := hG.gow.val p.1 p.2 hpin.1 hpin.2
 have hf' : valAt G p ≠ -1 := hf
 have hv' : -1 ≤ valAt G p ∧ valAt G p < 94 := hv
 unfold lackL at hz ⊢
 rw [e, sumL_app, sumL_cons] at hz ⊢
 rw [if_pos hq, hA2, hB2]
 rw [if_neg hf'] at hz
 omega
theorem part_step {n w : Nat} {G g g' : List (List Int)} (hG : Right n w G) (hp : Part n w G g) (hs : stepG n w g = some g') : Part n w G g' := by
 obtain ⟨l, p, hl, _, hlo, hpl, hv, rfl, hg, _⟩ := stepG_some hp.gow hs
 refine ⟨hg, fun i k hi hk => ?_⟩
 rw [valAt_set]
 split
 ·rename_i he
  obtain ⟨rfl, _, _⟩ := he
  exact .inr (part_lack hG hp hl hlo)
 ·exact hp.val i k hi hk
theorem part_rest {n w : Nat} {G g : List (List Int)} (hG : Right n w G) (hp : Part n w G g) : Part n w G (restG n w g) :=
 (restG_ind (M := Part n w G) (fun _ _ _ hm hs => part_step hG hm hs) _ g rfl hp.gow hp).1
theorem grid_ext {n w : Nat} {g G : List (List Int)} (hg : GOw n w g) (hG : GOw n w G) (h : ∀ i k, i < n → k < w → valAt g (i, k) = valAt G (i, k)) : g = G := by
 apply List.ext_getElem
 ·rw [hg.len, hG.len]
 ·intro i h1 h2
  have hi : i < n := by rw [← hg.len]; exact h1
  have r1 := hg.row i hi
  have r2 := hG.row i hi
  have e1 : g.getD i [] = g[i] := by rw [List.getD_eq_getElem?_getD, List.getElem?_eq_getElem h1]; rfl
  have e2 : G.getD i [] = G[i] := by rw [List.getD_eq_getElem?_getD, List.getElem?_eq_getElem h2]; rfl
  rw [e1] at r1
  rw [e2] at r2
  apply List.ext_getElem
  ·rw [r1, r2]
  ·intro k h3 h4
   have := h i k hi (by omega)
   unfold valAt at this
   simp only [e1, e2] at this
   rw [List.getD_eq_getElem?_getD, List.getElem?_eq_getElem h3, List.getD_eq_getElem?_getD, List.getElem?_eq_getElem h4] at this
   exact this
theorem rest_right {n w : Nat} {G g : List (List Int)} (hG : Right n w G) (hp : Part n w G g) (h0 : ∀ S, Clos S → (∀ q, S q → Lost n w g q) → ∀ p, ¬ S p) : restG n w g = G := by
 have hr := part_rest hG hp
 refine grid_ext hr.gow hG.gow fun i k hi hk => ?_
 rcases hr.val i k hi hk with h | h
 ·obtain ⟨S, hc, hS, hp'⟩ := (rest_core hp.gow (i, k)).1 ⟨hi, hk, h⟩
  exact (h0 S hc hS _ hp').elim
 ·exact h
theorem clos_cross {S : Nat × Nat → Prop} (hc : Clos S) (a c : Nat) (hS : ∀ p, S p → p.1 = a ∨ p.2 = c) : ∀ p, ¬ S p := by
 have h1 : ∀ p, S p → p.1 = a := fun p hp => by
  rcases hS p hp with h | h
  ·exact h
  ·obtain ⟨⟨q, hq, n1, e1⟩, _⟩ := hc p hp
   rcases hS q hq with h2 | h2
   ·rw [← e1]; exact h2
   ·exact (n1 (Prod.ext e1 (h2.trans h.symm))).elim
 intro p hp
 obtain ⟨_, ⟨r, hr, n2, e2⟩⟩ := hc p hp
 exact n2 (Prod.ext ((h1 r hr).trans (h1 p hp).symm) e2)
end Go.Proofs.YtlmfdmlochpfcaaDoor

namespace Go.Proofs.YtlmfdmlochpfcaaDoor
open Go Go.V
end Go.Proofs.YtlmfdmlochpfcaaDoor

namespace Go.Proofs.YtlmfdmlochpfcaaDoor
open Go Go.V
end Go.Proofs.YtlmfdmlochpfcaaDoor

namespace Go.Proofs.YtlmfdmlochpfcaaDoor
open Go Go.V
abbrev o21_0 : List Ins := [⟨(some 4), .mv (.k (.c (.bool false))), none, true⟩]
abbrev o21_1 : List Ins := [⟨(some 6), .mv (.t 0), none, true⟩,
 ⟨(some 7), .len (.t 6), none, true⟩,
 ⟨(some 8), .mv (.t 1), none, true⟩,
 ⟨(some 9), .len (.t 8), none, true⟩,
 ⟨(some 10), .bin .neq (.t 7) (.t 9), none, true⟩]
abbrev o21_2 : List Ins := [⟨(some 4), .mv (.k (.c (.bool false))), none, true⟩]
abbrev v21_3 : VC := (.seq (.ops o21_2) .ret)
abbrev v21_4 : VC := (.cond (.t 10) v21_3 .skip)
abbrev o21_5 : List Ins := [⟨(some 5), .mv (.k (.c (.int .i64 0))), none, true⟩]
abbrev o21_6 : List Ins := [⟨(some 11), .mv (.t 5), none, true⟩,
 ⟨(some 12), .mv (.t 0), none, true⟩,
 ⟨(some 13), .len (.t 12), none, true⟩,
 ⟨(some 14), .bin .lss (.t 11) (.t 13), none, true⟩]
abbrev v21_7 : VC := (.cond (.t 14) .skip (.exit 0))
abbrev o21_8 : List Ins := [⟨(some 17), .mv (.t 0), none, false⟩,
 ⟨(some 18), .mv (.t 5), none, false⟩,
 ⟨(some 19), .ia 1 (.t 17) (.t 18), none, false⟩,
 ⟨(some 20), .ld true 1 (.t 19), none, false⟩,
 ⟨(some 21), .mv (.t 1), none, false⟩,
 ⟨(some 22), .mv (.t 5), none, false⟩,
 ⟨(some 23), .ia 1 (.t 21) (.t 22), none, false⟩,
 ⟨(some 24), .ld true 1 (.t 23), none, false⟩,
 ⟨(some 25), .prim (.sbin .neq) [(.t 20), (.t 24)], none, true⟩]
abbrev o21_9 : List Ins := [⟨(some 4), .mv (.k (.c (.bool false))), none, true⟩]
abbrev v21_10 : VC := (.seq (.ops o21_9) .ret)
abbrev v21_11 : VC := (.cond (.t 25) v21_10 .skip)
abbrev v21_12 : VC := (.seq (.dops o21_8) v21_11)
abbrev o21_13 : List Ins := [⟨(some 15), .mv (.t 5), none, true⟩,
 ⟨(some 16), .bin .add (.t 15) (.k (.c (.int .i64 1))), none, true⟩,
 ⟨(some 5), .mv (.t 16), none, true⟩]
abbrev v21_14 : VC := (.seq (.block 1 v21_12) (.ops o21_13))
abbrev v21_15 : VC := (.seq (.seq (.ops o21_6) v21_7) v21_14)
-- K21_1: changed and kept: [5]
abbrev K21_1 : List Nat := [0, 1]
abbrev v21_16 : VC := (.loop v21_15)
abbrev v21_17 : VC := (.block 0 v21_16)
abbrev o21_18 : List Ins := [⟨(some 4), .mv (.k (.c (.bool true))), none, true⟩]
abbrev v21_19 : VC := (.seq (.ops o21_18) .ret)
abbrev v21_20 : VC := (.seq (.seq (.ops o21_5) v21_17) v21_19)
abbrev v21_21 : VC := (.seq (.seq (.ops o21_1) v21_4) v21_20)
def ir21 : FC := ⟨2, 26, [.t 4], (.seq (.ops o21_0) v21_21)⟩
abbrev o16_0 : List Ins := [⟨(some 0), .mv (.k (.c (.bool false))), none, true⟩]
abbrev o16_1 : List Ins := [⟨(some 13), .bsl 9 1 [(.k (.c (.str [97, 98]))), (.k (.c (.str [99])))], none, true⟩,
 ⟨(some 14), .call (.k (.fn 24 [])) [(.t 13)], none, true⟩,
 ⟨(some 12), .mv (.t 14), none, true⟩,
 ⟨(some 15), .ext (.t 12) 0, none, true⟩,
 ⟨(some 16), .ext (.t 12) 1, none, true⟩,
 ⟨(some 1), .mv (.t 15), none, true⟩,
 ⟨(some 2), .mv (.t 16), none, true⟩]
abbrev o16_2 : List Ins := [⟨(some 18), .call (.k (.fn 18 [])) [(.k (.c (.str [97, 63, 63, 95, 10, 99, 124, 32, 64, 10, 91, 65, 63, 33, 10])))], none, true⟩,
 ⟨(some 17), .mv (.t 18), none, true⟩,
 ⟨(some 19), .ext (.t 17) 0, none, true⟩,
 ⟨(some 20), .ext (.t 17) 1, none, true⟩,
 ⟨(some 3), .mv (.t 19), none, true⟩,
 ⟨(some 4), .mv (.t 20), none, true⟩]
abbrev o16_3 : List Ins := [⟨(some 22), .call (.k (.fn 20 [])) [(.k (.c (.str [97, 98, 124, 95, 10, 99, 124, 32, 64, 10, 91, 65, 35, 33, 10])))], none, true⟩,
 ⟨(some 21), .mv (.t 22), none, true⟩,
 ⟨(some 23), .ext (.t 21) 0, none, true⟩,
 ⟨(some 24), .ext (.t 21) 1, none, true⟩,
 ⟨(some 5), .mv (.t 23), none, true⟩,
 ⟨(some 6), .mv (.t 24), none, true⟩]
abbrev o16_4 : List Ins := [⟨(some 26), .call (.k (.fn 31 [])) [(.k (.c (.str [63, 63, 124, 95, 10, 63, 63, 32, 64, 10, 91, 65, 35, 33, 10])))], none, true⟩,
 ⟨(some 25), .mv (.t 26), none, true⟩,
 ⟨(some 27), .ext (.t 25) 0, none, true⟩,
 ⟨(some 28), .ext (.t 25) 1, none, true⟩,
 ⟨(some 7), .mv (.t 27), none, true⟩,
 ⟨(some 8), .mv (.t 28), none, true⟩]
abbrev o16_5 : List Ins := [⟨(some 30), .call (.k (.fn 23 [])) [(.k (.c (.str [97, 98, 124, 95, 10, 100, 124, 32, 64, 10, 91, 65, 35, 33, 10])))], none, true⟩,
 ⟨(some 29), .mv (.t 30), none, true⟩,
 ⟨(some 31), .ext (.t 29) 0, none, true⟩,
 ⟨(some 32), .ext (.t 29) 1, none, true⟩,
 ⟨(some 33), .ext (.t 29) 2, none, true⟩,
 ⟨(some 9), .alloc [(.c (.int .i64 0)), (.c (.int .i64 0))], none, true⟩,
 ⟨none, .st 2 (.t 9) (.t 31), none, true⟩,
 ⟨(some 10), .mv (.t 32), none, true⟩,
 ⟨(some 11), .mv (.t 33), none, true⟩]
abbrev o16_6 : List Ins := [⟨(some 34), .mv (.t 2), none, true⟩,
 ⟨(some 35), .bin .eql (.t 34) (.k (.c (.int .i64 0))), none, true⟩,
 ⟨(some 36), .mv (.t 35), none, true⟩,
 ⟨(some 37), .mv (.t 4), (some (36, true)), true⟩,
 ⟨(some 38), .bin .eql (.t 37) (.k (.c (.int .i64 0))), (some (36, true)), true⟩,
 ⟨(some 39), .pick (.t 36) (.t 38) (.k (.c (.bool false))), none, true⟩,
 ⟨(some 40), .mv (.t 39), none, true⟩,
 ⟨(some 41), .mv (.t 6), (some (40, true)), true⟩,
 ⟨(some 42), .bin .eql (.t 41) (.k (.c (.int .i64 0))), (some (40, true)), true⟩,
 ⟨(some 43), .pick (.t 40) (.t 42) (.k (.c (.bool false))), none, true⟩,
 ⟨(some 44), .mv (.t 43), none, true⟩,
 ⟨(some 45), .mv (.t 8), (some (44, true)), true⟩,
 ⟨(some 46), .bin .eql (.t 45) (.k (.c (.int .i64 0))), (some (44, true)), true⟩,
 ⟨(some 47), .pick (.t 44) (.t 46) (.k (.c (.bool false))), none, true⟩,
 ⟨(some 48), .mv (.t 47), none, true⟩,
 ⟨(some 49), .mv (.t 11), (some (48, true)), true⟩,
 ⟨(some 50), .bin .eql (.t 49) (.k (.c (.int .i64 0))), (some (48, true)), true⟩,
 ⟨(some 51), .pick (.t 48) (.t 50) (.k (.c (.bool false))), none, true⟩,
 ⟨(some 52), .mv (.t 51), none, true⟩,
 ⟨(some 53), .mv (.t 1), (some (52, true)), true⟩,
 ⟨(some 54), .prim (.sbin .eql) [(.t 53), (.k (.c (.str [97, 98, 124, 95, 10, 99, 124, 32, 64, 10, 91, 65, 35, 33, 10])))], (some (52, true)), true⟩,
 ⟨(some 55), .pick (.t 52) (.t 54) (.k (.c (.bool false))), none, true⟩,
 ⟨(some 56), .mv (.t 55), none, true⟩,
 ⟨(some 57), .mv (.t 3), (some (56, true)), true⟩,
 ⟨(some 58), .prim (.sbin .eql) [(.t 57), (.k (.c (.str [97, 98, 124, 95, 10, 99, 124, 32, 64, 10, 91, 65, 35, 33, 10])))], (some (56, true)), true⟩,
 ⟨(some 59), .pick (.t 56) (.t 58) (.k (.c (.bool false))), none, true⟩,
 ⟨(some 60), .mv (.t 59), none, true⟩,
 ⟨(some 61), .mv (.t 5), (some (60, true)), true⟩,
 ⟨(some 62), .bsl 9 1 [(.k (.c (.str [97, 98]))), (.k (.c (.str [99])))], (some (60, true)), true⟩,
 ⟨(some 63), .call (.k (.fn 21 [])) [(.t 61), (.t 62)], (some (60, true)), true⟩,
 ⟨(some 64), .pick (.t 60) (.t 63) (.k (.c (.bool false))), none, true⟩,
 ⟨(some 65), .mv (.t 64), none, true⟩,
 ⟨(some 66), .mv (.t 7), (some (65, true)), true⟩,
 ⟨(some 67), .bin .eql (.t 66) (.k (.c (.int .i64 1))), (some (65, true)), true⟩,
 ⟨(some 68), .pick (.t 65) (.t 67) (.k (.c (.bool false))), none, true⟩,
 ⟨(some 69), .mv (.t 68), none, true⟩,
 ⟨(some 70), .ld false 2 (.t 9), (some (69, true)), true⟩,
 ⟨(some 71), .bld [(.c (.int .i64 0)), (.c (.int .i64 0))] [(0, 1, (.k (.c (.int .i64 1))))], (some (69, true)), true⟩,
 ⟨(some 72), .seq false [(0, true), (1, true)] (.t 70) (.t 71), (some (69, true)), true⟩,
 ⟨(some 73), .pick (.t 69) (.t 72) (.k (.c (.bool false))), none, true⟩,
 ⟨(some 74), .mv (.t 73), none, true⟩,
 ⟨(some 75), .mv (.t 10), (some (74, true)), true⟩,
 ⟨(some 76), .prim (.sbin .eql) [(.t 75), (.k (.c (.str [97, 98, 124, 95, 10, 99, 124, 32, 64, 10, 91, 65, 35, 33, 10])))], (some (74, true)), true⟩,
 ⟨(some 77), .pick (.t 74) (.t 76) (.k (.c (.bool false))), none, true⟩,
 ⟨(some 0), .mv (.t 77), none, true⟩]
abbrev v16_7 : VC := (.seq (.ops o16_6) .ret)
abbrev v16_8 : VC := (.seq (.ops o16_5) v16_7)
abbrev v16_9 : VC := (.seq (.ops o16_4) v16_8)
abbrev v16_10 : VC := (.seq (.ops o16_3) v16_9)
abbrev v16_11 : VC := (.seq (.ops o16_2) v16_10)
abbrev v16_12 : VC := (.seq (.ops o16_1) v16_11)
def ir16 : FC := ⟨0, 78, [.t 0], (.seq (.ops o16_0) v16_12)⟩
theorem c21 : compM Tryd.prog [] 21 = some ir21 := by kernel_rfl
theorem c16 : compM Tryd.prog [] 16 = some ir16 := by kernel_rfl
attribute [local go_sem] Nat.reduceEqDiff Nat.reduceAdd Nat.reduceMul reduceIte Nat.reduceLeDiff Nat.reduceLT Nat.reduceBEq reduceCtorEq
theorem same21 (a b : List (List UInt8)) (ha : a.length ≤ 1000000) : FSpec Tryd.prog 21 [.c (strsV a), .c (strsV b)] (bv (a == b)) := by
 have hmax : maxLen = 9223372036854775807 := rfl
 refine FSpec_of c21 (Nat.le_refl _) (by decide) fun C hP hN hC hL => ?_; rw [init_st]
 simp only [ir21, strsV]
 (repeat ((first | refine Va ?_ | refine Vb ?_ | refine Vc ?_ | refine Vd ?_ | refine Ve ?_ | refine Vf ?_); (try simp only [go_sem, hP, List.length_map]); (repeat refine qJ ?_)))
 by_cases hl : a.length = b.length
 ·(refine WV_cond rfl (fun h => ?_) (fun h => ?_))
  ·simp [hl] at h
  (repeat ((first | refine Va ?_ | refine Vb ?_ | refine Vc ?_ | refine Vd ?_ | refine Ve ?_ | refine Vf ?_); (try simp only [go_sem, hP]); (repeat refine qJ ?_)))
  refine WV_loopK K21_1 [] (fun k : Nat => k ≤ a.length ∧ ∀ m (hm : m < a.length) (hm2 : m < b.length), m < k → a[m] = b[m]) (fun k => a.length - k) (fun k => [(5, iv k)]) (fun _ => []) 0 ⟨Nat.zero_le _, fun m _ _ h => by omega⟩ ?_ ?_
  ·exact Sub_au
  ·intro k ⟨hk0, hke⟩
   simp only [go_sem]
   (repeat ((first | refine Va ?_ | refine Vb ?_ | refine Vc ?_ | refine Vd ?_ | refine Ve ?_ | refine Vf ?_); (try simp only [go_sem, hP, List.length_map]); (repeat refine qJ ?_)))
   (refine WV_cond rfl (fun h => ?_) (fun h => ?_))
   ·have hk : k < a.length := by simpa using h
    have hkb : k < b.length := by omega
    have hw2 := w64 (n := (k : Int) + 1) (by omega) (by omega)
    (refine WV_skip ?_; simp only [go_sem])
    refine WV_seq_ (WV_block (WV_seq_ ?_))
    (refine WV_op ?_; simp only [go_sem, hP, map_getD hk, map_getD hkb, List.length_map, Int.toNat_natCast, Int.ofNat_lt, hk, hkb, Int.natCast_nonneg]; (repeat refine qJ ?_))
    by_cases he : a[k] = b[k]
    ·(refine WV_cond rfl (fun h => ?_) (fun h => ?_))
     ·simp [he] at h
     ·(repeat ((first | refine Va ?_ | refine Vb ?_ | refine Vc ?_ | refine Vd ?_ | refine Ve ?_ | refine Vf ?_); (try simp only [go_sem, hP, hw2]); (repeat refine qJ ?_)))
      refine ⟨k + 1, ⟨by omega, fun m hm hm2 hmk => ?_⟩, by omega, ?_⟩
      ·by_cases e2 : m = k
       ·subst e2; exact he
       ·exact hke m hm hm2 (by omega)
      ·exact Sub_au
    ·have hne : (a == b) = false := by
      rw [beq_eq_false_iff_ne]
      rintro rfl
      exact he rfl
     rw [hne]
     (refine WV_cond rfl (fun h => ?_) (fun h => ?_))
     ·(repeat ((first | refine Va ?_ | refine Vb ?_ | refine Vc ?_ | refine Vd ?_ | refine Ve ?_ | refine Vf ?_); (try simp only [go_sem, hP]); (repeat refine qJ ?_)))
      (refine WV_ret ?_; simp only [thenQ, inQ, RetQ, RetOk, resAll, resA]; simp only [go_sem, tupA, AV.port, AV.portL, exists_eq_left']; (first | exact AVle.of rfl | refine AVle.of ?_ | skip))
     ·simp [he] at h
   ·have hk : k = a.length := by simp at h; omega
    subst hk
    have heq : (a == b) = true := by
     rw [beq_iff_eq]
     exact List.ext_getElem hl fun m h1 h2 => hke m h1 h2 h1
    rw [heq]
    (repeat ((first | refine Va ?_ | refine Vb ?_ | refine Vc ?_ | refine Vd ?_ | refine Ve ?_ | refine Vf ?_); (try simp only [go_sem, hP]); (repeat refine qJ ?_)))
    (refine WV_ret ?_; simp only [thenQ, inQ, RetQ, RetOk, resAll, resA]; simp only [go_sem, tupA, AV.port, AV.portL, exists_eq_left']; (first | exact AVle.of rfl | refine AVle.of ?_ | skip))
 ·have hne : (a == b) = false := by
   rw [beq_eq_false_iff_ne]
   rintro rfl
   exact hl rfl
  rw [hne]
  (refine WV_cond rfl (fun h => ?_) (fun h => ?_))
  ·(repeat ((first | refine Va ?_ | refine Vb ?_ | refine Vc ?_ | refine Vd ?_ | refine Ve ?_ | refine Vf ?_); (try simp only [go_sem, hP]); (repeat refine qJ ?_)))
   (refine WV_ret ?_; simp only [thenQ, inQ, RetQ, RetOk, resAll, resA]; simp only [go_sem, tupA, AV.port, AV.portL, exists_eq_left']; (first | exact AVle.of rfl | refine AVle.of ?_ | skip))
  ·simp at h; omega
def ex1 : List UInt8 := [97, 98, 124, 95, 10, 99, 124, 32, 64, 10, 91, 65, 35, 33, 10]
theorem ex_write : writeG [[97, 98], [99]] = (ex1, 0) := by kernel_rfl
theorem ex_mend : mendG [97, 63, 63, 95, 10, 99, 124, 32, 64, 10, 91, 65, 63, 33, 10] = (ex1, 0) := by kernel_rfl
theorem ex_read : readG ex1 = ([[97, 98], [99]], 0) := by kernel_rfl
theorem ex_left : leftG [63, 63, 124, 95, 10, 63, 63, 32, 64, 10, 91, 65, 35, 33, 10] = ([(0, 0), (0, 1), (1, 0), (1, 1)], 0) := by kernel_rfl
theorem ex_wrong : wrongG [97, 98, 124, 95, 10, 100, 124, 32, 64, 10, 91, 65, 35, 33, 10] = ((1, 0), ex1, 0) := by kernel_rfl
theorem Conn.inv {ms : List (Nat × Nat)} (f : Int → Bool) (h : ∀ m ∈ ms, f m.1 = f (-1 - m.2)) {x y : Int} (hc : Conn ms x y) : f x = f y := by
 induction hc with
 | refl x => rfl
 | edge hm => exact h _ hm
 | symm _ ih => exact ih.symm
 | trans _ _ ih1 ih2 => exact ih1.trans ih2
theorem ex_circ : (circ [(0, 0), (0, 1), (1, 0), (1, 1)]).length = 1 := by
 have h0 : ¬ Conn ([(0, 0), (0, 1), (1, 0), (1, 1)].take 0) ((0 : Nat) : Int) (-1 - ((0 : Nat) : Int)) := fun h => by
  have := h.inv (fun x => decide (x = 0)) (by decide)
  revert this; decide
 have h1 : ¬ Conn ([(0, 0), (0, 1), (1, 0), (1, 1)].take 1) ((0 : Nat) : Int) (-1 - ((1 : Nat) : Int)) := fun h => by
  have := h.inv (fun x => decide (x = 0 ∨ x = -1)) (by decide)
  revert this; decide
 have h2 : ¬ Conn ([(0, 0), (0, 1), (1, 0), (1, 1)].take 2) ((1 : Nat) : Int) (-1 - ((0 : Nat) : Int)) := fun h => by
  have := h.inv (fun x => decide (x = 1)) (by decide)
  revert this; decide
 have h3 : Conn ([(0, 0), (0, 1), (1, 0), (1, 1)].take 3) ((1 : Nat) : Int) (-1 - ((1 : Nat) : Int)) := by
  have e0 : Conn ([(0, 0), (0, 1), (1, 0), (1, 1)].take 3) ((0 : Nat) : Int) (-1 - ((0 : Nat) : Int)) := .edge (m := (0, 0)) (by simp)
  have e1 : Conn ([(0, 0), (0, 1), (1, 0), (1, 1)].take 3) ((0 : Nat) : Int) (-1 - ((1 : Nat) : Int)) := .edge (m := (0, 1)) (by simp)
  have e2 : Conn ([(0, 0), (0, 1), (1, 0), (1, 1)].take 3) ((1 : Nat) : Int) (-1 - ((0 : Nat) : Int)) := .edge (m := (1, 0)) (by simp)
  exact e2.trans (e0.symm.trans e1)
 unfold circ
 show (circK _ 4).length = 1
 rw [circK_snoc (k := 3) (m := (1, 1)) rfl, circK_snoc (k := 2) (m := (1, 0)) rfl, circK_snoc (k := 1) (m := (0, 1)) rfl, circK_snoc (k := 0) (m := (0, 0)) rfl, if_pos h3, if_neg h2, if_neg h1, if_neg h0]
 rfl
set_option maxRecDepth 20000 in
set_option maxHeartbeats 8000000 in
theorem works16 : FSpec Tryd.prog 16 [] (bv true) := by
 have hmax : maxLen = 9223372036854775807 := rfl
 have h1 := write24 [[97, 98], [99]] (by simp) (by simp)
 have h2 := mend18 [97, 63, 63, 95, 10, 99, 124, 32, 64, 10, 91, 65, 63, 33, 10] (by simp)
 have h3 := read20 ex1 (by decide)
 have h4 := fewest31 [63, 63, 124, 95, 10, 63, 63, 32, 64, 10, 91, 65, 35, 33, 10] (by simp)
 have h5 := wrong23 [97, 98, 124, 95, 10, 100, 124, 32, 64, 10, 91, 65, 35, 33, 10] (by simp)
 have h6 := same21 [[97, 98], [99]] [[97, 98], [99]] (by simp)
 rw [ex_write] at h1
 rw [ex_mend] at h2
 rw [ex_read] at h3
 rw [ex_left, ex_circ] at h4
 rw [ex_wrong] at h5
 have h6' : FSpec Tryd.prog 21 [.c (.sl 1 [[.str [97, 98]], [.str [99]]]), .c (.sl 1 [[.str [97, 98]], [.str [99]]])] (bv true) := h6
 have h1' : FSpec Tryd.prog 24 [.c (.sl 1 [[.str [97, 98]], [.str [99]]])] (.tup [.c (.str ex1), iv 0]) := h1
 unfold ex1 at h1' h2 h3 h5
 clear h1 h6
 refine FSpec_of c16 (Nat.le_refl _) (by decide) fun C hP hN hC hL => ?_; rw [init_st]
 simp only [ir16]
 (repeat ((first | refine Va ?_ | refine Vb ?_ | refine Vc ?_ | refine Vd ?_ | refine Ve ?_ | refine Vf ?_); (try simp only [go_sem, hP]); (repeat refine qJ ?_)))
 (refine AS_pu (h1') ?_; simp only [go_sem, hP]; (repeat refine qJ ?_); (repeat ((first | refine Va ?_ | refine Vb ?_ | refine Vc ?_ | refine Vd ?_ | refine Ve ?_ | refine Vf ?_); (try simp only [go_sem, hP]); (repeat refine qJ ?_))))
 (refine AS_pu (h2) ?_; simp only [go_sem, hP]; (repeat refine qJ ?_); (repeat ((first | refine Va ?_ | refine Vb ?_ | refine Vc ?_ | refine Vd ?_ | refine Ve ?_ | refine Vf ?_); (try simp only [go_sem, hP]); (repeat refine qJ ?_))))
 (refine AS_pu (h3) ?_; simp only [go_sem, hP]; (repeat refine qJ ?_); (repeat ((first | refine Va ?_ | refine Vb ?_ | refine Vc ?_ | refine Vd ?_ | refine Ve ?_ | refine Vf ?_); (try simp only [go_sem, hP]); (repeat refine qJ ?_))))
 (refine AS_pu (h4) ?_; simp only [go_sem, hP]; (repeat refine qJ ?_); (repeat ((first | refine Va ?_ | refine Vb ?_ | refine Vc ?_ | refine Vd ?_ | refine Ve ?_ | refine Vf ?_); (try simp only [go_sem, hP]); (repeat refine qJ ?_))))
 (refine AS_pu (h5) ?_; simp only [go_sem, hP, beq_self_eq_true, Bool.and_self, Bool.true_and, true_implies, Bool.true_eq_false, false_implies, and_true]; (repeat refine qJ ?_); (repeat ((first | refine Va ?_ | refine Vb ?_ | refine Vc ?_ | refine Vd ?_ | refine Ve ?_ | refine Vf ?_); (try simp only [go_sem, hP, beq_self_eq_true, Bool.and_self, Bool.true_and, true_implies, Bool.true_eq_false, false_implies, and_true]); (repeat refine qJ ?_))))
 (refine AG_pu (fun hG => h6') ?_; simp only [go_sem, hP, beq_self_eq_true, Bool.and_self, Bool.true_and, true_implies, Bool.true_eq_false, false_implies, and_true]; (repeat refine qJ ?_); (repeat ((first | refine Va ?_ | refine Vb ?_ | refine Vc ?_ | refine Vd ?_ | refine Ve ?_ | refine Vf ?_); (try simp only [go_sem, hP, beq_self_eq_true, Bool.and_self, Bool.true_and, true_implies, Bool.true_eq_false, false_implies, and_true]); (repeat refine qJ ?_))))
 (refine WV_ret ?_; simp only [thenQ, inQ, RetQ, RetOk, resAll, resA]; simp only [go_sem, tupA, AV.port, AV.portL, exists_eq_left'])
 exact AVle.of rfl
end Go.Proofs.YtlmfdmlochpfcaaDoor

namespace Go.Proofs.YtlmfdmlochpfcaaDoor
open Go Go.V
namespace W
end W
attribute [local go_sem] Nat.reduceEqDiff Nat.reduceAdd Nat.reduceMul reduceIte Nat.reduceLeDiff Nat.reduceLT Nat.reduceBEq reduceCtorEq
end Go.Proofs.YtlmfdmlochpfcaaDoor

namespace Go.Proofs.YtlmfdmlochpfcaaDoor
open Go Go.V
end Go.Proofs.YtlmfdmlochpfcaaDoor

namespace Go.Proofs.YtlmfdmlochpfcaaDoor
open Go Go.V
def tot (g : List (List Int)) (l : List (Nat × Nat)) : Int := (l.map (valAt g)).sum
theorem sumL_tot {g : List (List Int)} {l : List (Nat × Nat)} (h : ∀ m ∈ l, valAt g m ≠ -1) : sumL g l = tot g l := by
 unfold sumL tot
 congr 1
 exact List.map_congr_left fun m hm => by rw [if_neg (h m hm)]
theorem lack_tot {g : List (List Int)} {l : List (Nat × Nat)} (h : ∀ m ∈ l, valAt g m ≠ -1) : lackL g l = 0 ↔ tot g l % 94 = 0 := by
 unfold lackL
 rw [sumL_tot h]
 omega
theorem tot_congr {g G : List (List Int)} {l : List (Nat × Nat)} (h : ∀ m ∈ l, valAt g m = valAt G m) : tot g l = tot G l := by
 unfold tot
 congr 1
 exact List.map_congr_left h
theorem tot_cons (g : List (List Int)) (m : Nat × Nat) (l : List (Nat × Nat)) : tot g (m :: l) = valAt g m + tot g l := by simp [tot]
theorem tot_not {g : List (List Int)} {p : Nat × Nat} {v : Int} {l : List (Nat × Nat)} (h : p ∉ l) : tot (setG g p v) l = tot g l := tot_congr fun m hm => by
 rw [valAt_set, if_neg]
 rintro ⟨rfl, _⟩
 exact h hm
theorem tot_set {n w : Nat} {g : List (List Int)} (hg : GOw n w g) {p : Nat × Nat} (h1 : p.1 < n) (h2 : p.2 < w) {v : Int} : ∀ {l : List (Nat × Nat)}, l.Nodup → p ∈ l → tot (setG g p v) l = tot g l - valAt g p + v
 | [], _, hm => by cases hm
 | m :: l, hn, hm => by
  rw [List.nodup_cons] at hn
  rw [tot_cons, tot_cons, valAt_set]
  by_cases he : p = m
  ·subst he
   rw [tot_not hn.1, if_pos ⟨rfl, by rw [hg.len]; exact h1, by rw [hg.row _ h1]; exact h2⟩]
   omega
  ·have hm2 : p ∈ l := by
    rcases List.mem_cons.1 hm with h | h
    ·exact (he h).elim
    ·exact h
   rw [tot_set hg h1 h2 hn.2 hm2, if_neg (fun h => he h.1)]
   omega
structure NN (n w : Nat) (g : List (List Int)) : Prop where
 gow : GOw n w g
 nn : ∀ i k, i < n → k < w → 0 ≤ valAt g (i, k)
theorem NN.set {n w : Nat} {g : List (List Int)} (h : NN n w g) (p : Nat × Nat) {v : Int} (hv : 0 ≤ v ∧ v < 94) : NN n w (setG g p v) := by
 refine ⟨setG_ok h.gow p (by omega), fun i k hi hk => ?_⟩
 rw [valAt_set]
 split
 ·exact hv.1
 ·exact h.nn i k hi hk
theorem NN.ne {n w : Nat} {g : List (List Int)} (h : NN n w g) {l : List (Nat × Nat)} (hl : l ∈ allP n w) : ∀ m ∈ l, valAt g m ≠ -1 := fun m hm => by
 obtain ⟨h1, h2⟩ := allP_in hl m hm
 have := h.nn m.1 m.2 h1 h2
 have e : valAt g m = valAt g (m.1, m.2) := rfl
 omega
theorem NN.line {n w : Nat} {g : List (List Int)} (h : NN n w g) (h0 : 0 < n) (i : Nat) (b : Bool) : lineP g i b = posL n w i b := by
 rw [line_pos, h.gow.len]
 have : wid g = w := by unfold wid; exact h.gow.row 0 h0
 rw [this]
theorem tot_lack {n w : Nat} {g : List (List Int)} (h : NN n w g) {l : List (Nat × Nat)} (hl : l ∈ allP n w) {p : Nat × Nat} (hp : p ∈ l) (hz : valAt g p = 0) : tot (setG g p (lackL g l)) l % 94 = 0 := by
 obtain ⟨h1, h2⟩ := allP_in hl p hp
 rw [tot_set h.gow h1 h2 (allP_nodup hl) hp, hz]
 unfold lackL
 rw [sumL_tot (h.ne hl)]
 omega
def rowsF (w k : Nat) (g : List (List Int)) : List (List Int) := (List.range k).foldl (fun g i => setG g (i, w) (lackL g (lineP g i true))) g
theorem rowsF_succ (w k : Nat) (g : List (List Int)) : rowsF w (k + 1) g = setG (rowsF w k g) (k, w) (lackL (rowsF w k g) (lineP (rowsF w k g) k true)) := by
 unfold rowsF
 rw [List.range_succ, List.foldl_append]; rfl
def colsF (n k : Nat) (g : List (List Int)) : List (List Int) := (List.range k).foldl (fun g c => setG g (n, c) (lackL g (lineP g c false))) g
theorem colsF_succ (n k : Nat) (g : List (List Int)) : colsF n (k + 1) g = setG (colsF n k g) (n, k) (lackL (colsF n k g) (lineP (colsF n k g) k false)) := by
 unfold colsF
 rw [List.range_succ, List.foldl_append]; rfl
theorem rowsF_inv {N w : Nat} {g : List (List Int)} (h : NN N (w + 1) g) (hz : ∀ i, i < N → valAt g (i, w) = 0) (h0 : 0 < N) : ∀ k, k ≤ N → NN N (w + 1) (rowsF w k g) ∧ (∀ i, i < k → tot (rowsF w k g) (posL N (w + 1) i true) % 94 = 0) ∧ ∀ i c, (k ≤ i ∨ c ≠ w) → valAt (rowsF w k g) (i, c) = valAt g (i, c)
 | 0, _ => ⟨h, fun i hi => by omega, fun _ _ _ => rfl⟩
 | k + 1, hk => by
  obtain ⟨h1, h2, h3⟩ := rowsF_inv h hz h0 k (by omega)
  rw [rowsF_succ, h1.line h0]
  have hl : posL N (w + 1) k true ∈ allP N (w + 1) := allP_mem.2 (.inl ⟨k, by omega, rfl⟩)
  refine ⟨h1.set _ (lack_rng _ _), fun i hi => ?_, fun i c hic => ?_⟩
  ·by_cases hik : i = k
   ·subst hik
    exact tot_lack h1 hl (posL_row_mem.2 ⟨rfl, Nat.lt_succ_self w⟩) (by rw [h3 _ _ (.inl (Nat.le_refl _))]; exact hz _ (by omega))
   ·rw [tot_not]
    ·exact h2 i (by omega)
    ·intro hm
     have := (posL_row_mem.1 hm).1
     simp only at this
     omega
  ·rw [valAt_set, if_neg, h3 i c (by omega)]
   rintro ⟨he, _⟩
   obtain ⟨rfl, rfl⟩ := Prod.mk.inj he
   omega
theorem colsF_inv {n W : Nat} {g : List (List Int)} (h : NN (n + 1) W g) (hz : ∀ c, c < W → valAt g (n, c) = 0) : ∀ k, k ≤ W → NN (n + 1) W (colsF n k g) ∧ (∀ c, c < k → tot (colsF n k g) (posL (n + 1) W c false) % 94 = 0) ∧ ∀ i c, (i ≠ n ∨ k ≤ c) → valAt (colsF n k g) (i, c) = valAt g (i, c)
 | 0, _ => ⟨h, fun i hi => by omega, fun _ _ _ => rfl⟩
 | k + 1, hk => by
  obtain ⟨h1, h2, h3⟩ := colsF_inv h hz k (by omega)
  rw [colsF_succ, h1.line (Nat.succ_pos n)]
  have hl : posL (n + 1) W k false ∈ allP (n + 1) W := allP_mem.2 (.inr ⟨k, by omega, rfl⟩)
  refine ⟨h1.set _ (lack_rng _ _), fun c hc => ?_, fun i c hic => ?_⟩
  ·by_cases hik : c = k
   ·subst hik
    exact tot_lack h1 hl (posL_col_mem.2 ⟨rfl, Nat.lt_succ_self n⟩) (by rw [h3 _ _ (.inr (Nat.le_refl _))]; exact hz _ (by omega))
   ·rw [tot_not]
    ·exact h2 c (by omega)
    ·intro hm
     have := (posL_col_mem.1 hm).1
     simp only at this
     omega
  ·rw [valAt_set, if_neg, h3 i c (by omega)]
   rintro ⟨he, _⟩
   obtain ⟨rfl, rfl⟩ := Prod.mk.inj he
   omega
def sumR (f : Nat → Int) : Nat → Int
 | 0 => 0
 | k + 1 => sumR f k + f k
theorem sumR_zero (k : Nat) : sumR (fun _ => 0) k = 0 := by
 induction k with
 | zero => rfl
 | succ k ih => simp [sumR, ih]
theorem sumR_add (f h : Nat → Int) (k : Nat) : sumR (fun c => f c + h c) k = sumR f k + sumR h k := by
 induction k with
 | zero => rfl
 | succ k ih => simp only [sumR, ih]; omega
theorem sumR_swap (f : Nat → Nat → Int) (w : Nat) : ∀ n, sumR (fun i => sumR (f i) w) n = sumR (fun c => sumR (fun i => f i c) n) w
 | 0 => by simp only [sumR]; exact (sumR_zero w).symm
 | n + 1 => by
  simp only [sumR]
  rw [sumR_swap f w n, ← sumR_add]
theorem sumR_mod {f : Nat → Int} : ∀ {k : Nat}, (∀ i, i < k → f i % 94 = 0) → sumR f k % 94 = 0
 | 0, _ => rfl
 | k + 1, h => by
  have h1 := sumR_mod (k := k) fun i hi => h i (by omega)
  have h2 := h k (by omega)
  simp only [sumR]
  omega
theorem sumR_range (f : Nat → Int) (k : Nat) : ((List.range k).map f).sum = sumR f k := by
 induction k with
 | zero => rfl
 | succ k ih => rw [List.range_succ, List.map_append, List.sum_append, ih]; simp [sumR]
theorem tot_row (g : List (List Int)) (n w i : Nat) : tot g (posL n w i true) = sumR (fun c => valAt g (i, c)) w := by
 unfold tot posL
 rw [if_pos rfl, List.map_map, ← sumR_range]; rfl
theorem tot_col (g : List (List Int)) (n w c : Nat) : tot g (posL n w c false) = sumR (fun i => valAt g (i, c)) n := by
 unfold tot posL
 rw [if_neg (by decide), List.map_map, ← sumR_range]; rfl
theorem fill_right {n w : Nat} {g : List (List Int)} (h : NN (n + 1) (w + 1) g) (hz : ∀ i, i < n + 1 → valAt g (i, w) = 0) (hl : ∀ c, c < w + 1 → valAt g (n, c) = 0) :
  Right (n + 1) (w + 1) (colsF n (w + 1) (rowsF w n g)) ∧ ∀ i c, i < n → c < w → valAt (colsF n (w + 1) (rowsF w n g)) (i, c) = valAt g (i, c) := by
 obtain ⟨a1, a2, a3⟩ := rowsF_inv h hz (Nat.succ_pos n) n (by omega)
 obtain ⟨b1, b2, b3⟩ := colsF_inv a1 (fun c hc => by rw [a3 n c (.inl (Nat.le_refl _))]; exact hl c hc) (w + 1) (Nat.le_refl _)
 refine ⟨⟨b1.gow, fun i k hi hk => by have := b1.nn i k hi hk; omega, fun l hm => ?_⟩, fun i c hi hc => by rw [b3 i c (.inl (by omega)), a3 i c (.inr (by omega))]⟩
 rw [lack_tot (b1.ne hm)]
 have hrow : ∀ i, i < n → tot (colsF n (w + 1) (rowsF w n g)) (posL (n + 1) (w + 1) i true) % 94 = 0 := fun i hi => by
  rw [← a2 i hi]
  congr 1
  exact tot_congr fun m hm => by
   have := (posL_row_mem.1 hm).1
   have e := b3 m.1 m.2 (.inl (by omega))
   exact e
 rcases allP_mem.1 hm with ⟨i, hi, rfl⟩ | ⟨c, hc, rfl⟩
 ·by_cases hin : i = n
  ·subst hin
   have hsw := sumR_swap (fun i' c => valAt (colsF i (w + 1) (rowsF w i g)) (i', c)) (w + 1) (i + 1)
   have hr := sumR_mod (f := fun c => sumR (fun i' => valAt (colsF i (w + 1) (rowsF w i g)) (i', c)) (i + 1)) (k := w + 1) fun c hc => by
    have := b2 c hc
    rwa [tot_col] at this
   rw [← hsw] at hr
   have hr2 := sumR_mod (f := fun i' => sumR (fun c => valAt (colsF i (w + 1) (rowsF w i g)) (i', c)) (w + 1)) (k := i) fun i' hi' => by
    have := hrow i' hi'
    rwa [tot_row] at this
   rw [tot_row]
   simp only [sumR] at hr
   simp only [sumR] at hr2 ⊢
   omega
  ·exact hrow i (by omega)
 ·exact b2 c hc
def rowZ (w : Nat) (s : List UInt8) : List Int := (rowB w s).map vq ++ [0]
def grid0 (ts : List (List UInt8)) : List (List Int) := ts.map (rowZ (maxW ts)) ++ [List.replicate (maxW ts + 1) 0]
def gridR (ts : List (List UInt8)) : List (List Int) := colsF ts.length (maxW ts + 1) (rowsF (maxW ts) ts.length (grid0 ts))
theorem getD_snoc {α β : Type} (f : α → β) (l : List α) (b d : β) (i : Nat) : (l.map f ++ [b]).getD i d = if h : i < l.length then f l[i] else if i = l.length then b else d := by
 rw [List.getD_eq_getElem?_getD]
 by_cases h : i < l.length
 ·rw [dif_pos h, List.getElem?_append_left (by simpa using h), List.getElem?_map, List.getElem?_eq_getElem h]; rfl
 ·rw [dif_neg h, List.getElem?_append_right (by simp; omega)]
  by_cases h2 : i = l.length
  ·rw [if_pos h2, h2]; simp
  ·rw [if_neg h2, List.getElem?_eq_none (by simp; omega)]; rfl
theorem rowB_len {w : Nat} {s : List UInt8} (h : s.length + 1 ≤ w) : (rowB w s).length = w := by simp [rowB]; omega
theorem valB_vq {b : UInt8} (h : 0 ≤ valB b) : vq b = valB b := by
 unfold vq
 split
 ·rename_i h63
  have : b = 63 := UInt8.toNat_inj.1 h63
  subst this
  exact absurd h (by decide)
 ·rfl
theorem rowB_nn {w : Nat} {s : List UInt8} (h : isTx s = true) : ∀ b ∈ rowB w s, 0 ≤ vq b ∧ vq b < 94 := by
 intro b hb
 have hok : BOk b := rowW_ok (w := w) h b (by unfold rowW; simp [hb])
 refine ⟨?_, (vq_rng hok).2⟩
 unfold rowB at hb
 simp only [List.mem_append, List.mem_cons, List.mem_replicate] at hb
 rcases hb with hb | rfl | ⟨_, rfl⟩
 ·unfold isTx at h
  simp only [Bool.and_eq_true] at h
  have := List.all_eq_true.1 h.1 b hb
  simp only [decide_eq_true_eq] at this
  rw [valB_vq this]; exact this
 ·decide
 ·decide
theorem grid0_row {ts : List (List UInt8)} {i : Nat} : (grid0 ts).getD i [] = if h : i < ts.length then rowZ (maxW ts) ts[i] else if i = ts.length then List.replicate (maxW ts + 1) 0 else [] := getD_snoc _ _ _ _ _
theorem rowsV_row {ts : List (List UInt8)} {i : Nat} : (valsG (rowsW ts)).getD i [] = if h : i < ts.length then (rowB (maxW ts) ts[i]).map vq ++ [-1] else if i = ts.length then List.replicate (maxW ts + 1) (-1) else [] := by
 have e : valsG (rowsW ts) = ts.map (fun s => (rowB (maxW ts) s).map vq ++ [-1]) ++ [List.replicate (maxW ts + 1) (-1)] := by
  unfold valsG rowsW
  rw [List.map_append, List.map_map]
  congr 1
  ·refine List.map_congr_left fun s _ => ?_
   simp only [Function.comp, rowW, List.map_append, List.map_cons, List.map_nil]
   rfl
  ·simp only [List.map_cons, List.map_nil, List.map_replicate]
   rfl
 rw [e]
 exact getD_snoc _ _ _ _ _
theorem tail_get (l : List Int) (x : Int) (k : Nat) : (l ++ [x]).getD k 0 = if k < l.length then l.getD k 0 else if k = l.length then x else 0 := by
 rw [List.getD_eq_getElem?_getD]
 by_cases h : k < l.length
 ·rw [if_pos h, List.getElem?_append_left h, List.getD_eq_getElem?_getD]
 ·rw [if_neg h, List.getElem?_append_right (by omega)]
  by_cases h2 : k = l.length
  ·rw [if_pos h2, h2]; simp
  ·rw [if_neg h2, List.getElem?_eq_none (by simp; omega)]; rfl
theorem rep_get (n k : Nat) (x : Int) (h : k < n) : (List.replicate n x).getD k 0 = x := by
 rw [List.getD_eq_getElem?_getD, List.getElem?_replicate, if_pos h]; rfl
theorem grid0_nn {ts : List (List UInt8)} (h : ts.all isTx = true) : NN (ts.length + 1) (maxW ts + 1) (grid0 ts) := by
 have hw := (maxW_ge ts).2
 have hv : ∀ i k, i < ts.length + 1 → k < maxW ts + 1 → 0 ≤ valAt (grid0 ts) (i, k) ∧ valAt (grid0 ts) (i, k) < 94 := by
  intro i k hi hk
  unfold valAt
  simp only [grid0_row]
  by_cases hin : i < ts.length
  ·rw [dif_pos hin]
   unfold rowZ
   rw [tail_get]
   have hl := rowB_len (hw _ (List.getElem_mem hin))
   by_cases hkw : k < maxW ts
   ·rw [if_pos (by rw [List.length_map, hl]; exact hkw), map_getD (by rw [hl]; exact hkw)]
    exact rowB_nn (List.all_eq_true.1 h _ (List.getElem_mem hin)) _ (List.getElem_mem _)
   ·rw [if_neg (by rw [List.length_map, hl]; exact hkw)]
    split <;> omega
  ·rw [dif_neg hin, if_pos (by omega), rep_get _ _ _ hk]; omega
 refine ⟨⟨by simp [grid0], fun i hi => ?_, fun i k hi hk => by have := hv i k hi hk; omega⟩, fun i k hi hk => (hv i k hi hk).1⟩
 rw [grid0_row]
 by_cases hin : i < ts.length
 ·rw [dif_pos hin]
  unfold rowZ
  rw [List.length_append, List.length_map, rowB_len (hw _ (List.getElem_mem hin))]; rfl
 ·rw [dif_neg hin, if_pos (by omega)]; simp
theorem grid0_zero {ts : List (List UInt8)} : (∀ i, i < ts.length + 1 → valAt (grid0 ts) (i, maxW ts) = 0) ∧ ∀ c, c < maxW ts + 1 → valAt (grid0 ts) (ts.length, c) = 0 := by
 have hw := (maxW_ge ts).2
 constructor
 ·intro i hi
  unfold valAt
  simp only [grid0_row]
  by_cases hin : i < ts.length
  ·rw [dif_pos hin]
   unfold rowZ
   rw [tail_get, List.length_map, rowB_len (hw _ (List.getElem_mem hin)), if_neg (by omega), if_pos rfl]
  ·rw [dif_neg hin, if_pos (by omega), rep_get _ _ _ (by omega)]
 ·intro c hc
  unfold valAt
  simp only [grid0_row]
  rw [dif_neg (by omega), if_pos (by simp), rep_get _ _ _ hc]
theorem rowsV_at {ts : List (List UInt8)} {i c : Nat} (hi : i < ts.length + 1) (hc : c < maxW ts + 1) : valAt (valsG (rowsW ts)) (i, c) = if i < ts.length ∧ c < maxW ts then valAt (grid0 ts) (i, c) else -1 := by
 have hw := (maxW_ge ts).2
 unfold valAt
 simp only [grid0_row, rowsV_row]
 by_cases hin : i < ts.length
 ·rw [dif_pos hin, dif_pos hin]
  unfold rowZ
  rw [tail_get, tail_get, List.length_map, rowB_len (hw _ (List.getElem_mem hin))]
  by_cases hcw : c < maxW ts
  ·rw [if_pos hcw, if_pos hcw, if_pos ⟨hin, hcw⟩]
  ·rw [if_neg hcw, if_pos (by omega), if_neg (fun h => hcw h.2)]
 ·rw [dif_neg hin, dif_neg hin, if_pos (by omega), if_neg (fun h => hin h.1), rep_get _ _ _ hc]
theorem gridR_right {ts : List (List UInt8)} (h : ts.all isTx = true) : Right (ts.length + 1) (maxW ts + 1) (gridR ts) ∧ ∀ i c, i < ts.length → c < maxW ts → valAt (gridR ts) (i, c) = valAt (grid0 ts) (i, c) := by
 obtain ⟨z1, z2⟩ := grid0_zero (ts := ts)
 exact fill_right (grid0_nn h) z1 z2
theorem rowsV_rest {ts : List (List UInt8)} (h : ts.all isTx = true) (h40 : ¬ 40 < ts.length) : restG (ts.length + 1) (maxW ts + 1) (valsG (rowsW ts)) = gridR ts := by
 obtain ⟨hr, hv⟩ := gridR_right h
 have hgo := vals_gow (rowsW_sok h h40)
 rw [rowsW_len] at hgo
 refine rest_right hr ⟨hgo, fun i c hi hc => ?_⟩ fun S hS hL => clos_cross hS ts.length (maxW ts) fun p hp => ?_
 ·rw [rowsV_at hi hc]
  split
  ·rename_i hh
   exact .inr (hv i c hh.1 hh.2).symm
  ·exact .inl rfl
 ·obtain ⟨h1, h2, h3⟩ := hL p hp
  have e : valAt (valsG (rowsW ts)) (p.1, p.2) = -1 := h3
  rw [rowsV_at h1 h2] at e
  by_cases hh : p.1 < ts.length ∧ p.2 < maxW ts
  ·exfalso
   rw [if_pos hh] at e
   have := (grid0_nn h).nn p.1 p.2 h1 h2
   omega
  ·omega
def writeR (ts : List (List UInt8)) : List UInt8 × Int :=
 if 40 < ts.length then ([], 2) else if ts.all isTx then (textG (bytesG (gridR ts)), 0) else ([], 1)
theorem write_eq (ts : List (List UInt8)) : writeG ts = writeR ts := by
 unfold writeG writeR
 split
 ·rfl
 ·rename_i h40
  split
  ·rename_i h
   rw [rowsV_rest h h40]
  ·rfl
end Go.Proofs.YtlmfdmlochpfcaaDoor

namespace Go.Proofs.YtlmfdmlochpfcaaDoor
open Go Go.V
abbrev o25_0 : List Ins := [⟨(some 2), .mv (.k (.c (.str []))), none, true⟩,
 ⟨(some 3), .mv (.k (.c (.int .i64 0))), none, true⟩]
abbrev o25_1 : List Ins := [⟨(some 18), .mv (.t 0), none, true⟩,
 ⟨(some 19), .call (.k (.fn 15 [])) [(.t 18)], none, true⟩,
 ⟨(some 4), .mv (.t 19), none, true⟩]
abbrev o25_2 : List Ins := [⟨(some 20), .mv (.t 4), none, true⟩,
 ⟨(some 21), .bin .neq (.t 20) (.k (.c (.int .i64 0))), none, true⟩]
abbrev o25_3 : List Ins := [⟨(some 22), .mv (.t 4), none, true⟩,
 ⟨(some 2), .mv (.k (.c (.str []))), none, true⟩,
 ⟨(some 3), .mv (.t 22), none, true⟩]
abbrev v25_4 : VC := (.seq (.ops o25_3) .ret)
abbrev v25_5 : VC := (.cond (.t 21) v25_4 .skip)
abbrev v25_6 : VC := (.seq (.ops o25_2) v25_5)
abbrev o25_7 : List Ins := [⟨(some 5), .mv (.k (.c (.int .i64 1))), none, true⟩]
abbrev o25_8 : List Ins := [⟨(some 6), .mv (.k (.c (.int .i64 0))), none, true⟩]
abbrev o25_9 : List Ins := [⟨(some 23), .mv (.t 6), none, true⟩,
 ⟨(some 24), .mv (.t 0), none, true⟩,
 ⟨(some 25), .len (.t 24), none, true⟩,
 ⟨(some 26), .bin .lss (.t 23) (.t 25), none, true⟩]
abbrev v25_10 : VC := (.cond (.t 26) .skip (.exit 0))
abbrev o25_11 : List Ins := [⟨(some 29), .mv (.t 5), none, true⟩,
 ⟨(some 30), .mv (.t 0), none, true⟩,
 ⟨(some 31), .mv (.t 6), none, true⟩,
 ⟨(some 32), .ia 1 (.t 30) (.t 31), none, true⟩,
 ⟨(some 33), .ld true 1 (.t 32), none, true⟩,
 ⟨(some 34), .prim .slen [(.t 33)], none, true⟩,
 ⟨(some 35), .bin .add (.t 34) (.k (.c (.int .i64 1))), none, true⟩,
 ⟨(some 36), .mm true (.t 29) (.t 35), none, true⟩,
 ⟨(some 5), .mv (.t 36), none, true⟩]
abbrev o25_12 : List Ins := [⟨(some 27), .mv (.t 6), none, true⟩,
 ⟨(some 28), .bin .add (.t 27) (.k (.c (.int .i64 1))), none, true⟩,
 ⟨(some 6), .mv (.t 28), none, true⟩]
abbrev v25_13 : VC := (.seq (.block 1 (.ops o25_11)) (.ops o25_12))
abbrev v25_14 : VC := (.seq (.seq (.ops o25_9) v25_10) v25_13)
-- K25_1: changed and kept: [6, 5]
abbrev K25_1 : List Nat := [0]
abbrev v25_15 : VC := (.loop v25_14)
abbrev v25_16 : VC := (.block 0 v25_15)
abbrev o25_17 : List Ins := [⟨(some 7), .mv (.k (.c (.raw (.slice none 0 0)))), none, true⟩]
abbrev o25_18 : List Ins := [⟨(some 8), .mv (.k (.c (.int .i64 0))), none, true⟩]
abbrev o25_19 : List Ins := [⟨(some 37), .mv (.t 8), none, true⟩,
 ⟨(some 38), .mv (.t 0), none, true⟩,
 ⟨(some 39), .len (.t 38), none, true⟩,
 ⟨(some 40), .bin .leq (.t 37) (.t 39), none, true⟩]
abbrev v25_20 : VC := (.cond (.t 40) .skip (.exit 2))
abbrev o25_21 : List Ins := [⟨(some 43), .mv (.t 5), none, true⟩,
 ⟨(some 44), .bin .add (.t 43) (.k (.c (.int .i64 1))), none, true⟩,
 ⟨(some 45), .mks 3 1 8 [(.c (.int .i64 0))] (.t 44) (.t 44), none, true⟩,
 ⟨(some 9), .mv (.t 45), none, true⟩]
abbrev o25_22 : List Ins := [⟨(some 46), .mv (.t 8), none, true⟩,
 ⟨(some 47), .mv (.t 0), none, true⟩,
 ⟨(some 48), .len (.t 47), none, true⟩,
 ⟨(some 49), .bin .lss (.t 46) (.t 48), none, true⟩]
abbrev o25_23 : List Ins := [⟨(some 50), .mv (.t 0), none, true⟩,
 ⟨(some 51), .mv (.t 8), none, true⟩,
 ⟨(some 52), .ia 1 (.t 50) (.t 51), none, true⟩,
 ⟨(some 53), .ld true 1 (.t 52), none, true⟩,
 ⟨(some 54), .prim (.sbin .add) [(.t 53), (.k (.c (.str [124])))], none, true⟩,
 ⟨(some 10), .mv (.t 54), none, true⟩]
abbrev o25_24 : List Ins := [⟨(some 11), .mv (.k (.c (.int .i64 0))), none, true⟩]
abbrev o25_25 : List Ins := [⟨(some 55), .mv (.t 11), none, true⟩,
 ⟨(some 56), .mv (.t 10), none, true⟩,
 ⟨(some 57), .prim .slen [(.t 56)], none, true⟩,
 ⟨(some 58), .bin .lss (.t 55) (.t 57), none, true⟩]
abbrev v25_26 : VC := (.cond (.t 58) .skip (.exit 4))
abbrev o25_27 : List Ins := [⟨(some 62), .mv (.t 9), none, true⟩,
 ⟨(some 63), .mv (.t 11), none, true⟩,
 ⟨(some 64), .mv (.t 10), none, true⟩,
 ⟨(some 65), .mv (.t 11), none, true⟩,
 ⟨(some 66), .prim .sidx [(.t 64), (.t 65)], none, true⟩,
 ⟨(some 67), .call (.k (.fn 22 [])) [(.t 66)], none, true⟩,
 ⟨(some 61), .mv (.t 67), none, true⟩,
 ⟨(some 68), .ext (.t 61) 0, none, true⟩,
 ⟨(some 69), .ext (.t 61) 1, none, true⟩,
 ⟨(some 70), .ia 1 (.t 62) (.t 63), none, true⟩,
 ⟨none, .st 1 (.t 70) (.t 68), none, true⟩]
abbrev o25_28 : List Ins := [⟨(some 59), .mv (.t 11), none, true⟩,
 ⟨(some 60), .bin .add (.t 59) (.k (.c (.int .i64 1))), none, true⟩,
 ⟨(some 11), .mv (.t 60), none, true⟩]
abbrev v25_29 : VC := (.seq (.block 5 (.ops o25_27)) (.ops o25_28))
abbrev v25_30 : VC := (.seq (.seq (.ops o25_25) v25_26) v25_29)
-- K25_3: changed and kept: [11]
abbrev v25_31 : VC := (.loop v25_30)
abbrev v25_32 : VC := (.block 4 v25_31)
abbrev v25_33 : VC := (.seq (.ops o25_24) v25_32)
abbrev v25_34 : VC := (.seq (.ops o25_23) v25_33)
abbrev v25_35 : VC := (.cond (.t 49) v25_34 .skip)
abbrev o25_36 : List Ins := [⟨(some 71), .mv (.t 7), none, true⟩,
 ⟨(some 72), .mv (.t 9), none, true⟩,
 ⟨(some 73), .bslv 50 1 [(.t 72)], none, true⟩,
 ⟨(some 74), .appv 50 1 24 (.t 71) (.t 73), none, true⟩,
 ⟨(some 7), .mv (.t 74), none, true⟩]
abbrev v25_37 : VC := (.seq (.seq (.ops o25_22) v25_35) (.ops o25_36))
abbrev v25_38 : VC := (.seq (.ops o25_21) v25_37)
abbrev o25_39 : List Ins := [⟨(some 41), .mv (.t 8), none, true⟩,
 ⟨(some 42), .bin .add (.t 41) (.k (.c (.int .i64 1))), none, true⟩,
 ⟨(some 8), .mv (.t 42), none, true⟩]
abbrev v25_40 : VC := (.seq (.block 3 v25_38) (.ops o25_39))
abbrev v25_41 : VC := (.seq (.seq (.ops o25_19) v25_20) v25_40)
-- K25_2: changed and kept: [8, 7]
abbrev v25_42 : VC := (.loop v25_41)
abbrev v25_43 : VC := (.block 2 v25_42)
abbrev o25_44 : List Ins := [⟨(some 12), .mv (.k (.c (.int .i64 0))), none, true⟩]
abbrev o25_45 : List Ins := [⟨(some 75), .mv (.t 12), none, true⟩,
 ⟨(some 76), .mv (.t 0), none, true⟩,
 ⟨(some 77), .len (.t 76), none, true⟩,
 ⟨(some 78), .bin .lss (.t 75) (.t 77), none, true⟩]
abbrev v25_46 : VC := (.cond (.t 78) .skip (.exit 6))
abbrev o25_47 : List Ins := [⟨(some 82), .mv (.t 7), none, true⟩,
 ⟨(some 83), .mv (.t 7), none, true⟩,
 ⟨(some 84), .mv (.t 12), none, true⟩,
 ⟨(some 85), .call (.k (.fn 58 [])) [(.t 83), (.t 84), (.k (.c (.bool true)))], none, true⟩,
 ⟨(some 86), .call (.k (.fn 57 [])) [(.t 82), (.t 85)], none, true⟩,
 ⟨(some 81), .mv (.t 86), none, true⟩,
 ⟨(some 87), .ext (.t 81) 0, none, true⟩,
 ⟨(some 88), .ext (.t 81) 1, none, true⟩,
 ⟨(some 13), .mv (.t 87), none, true⟩,
 ⟨(some 14), .mv (.t 88), none, true⟩]
abbrev o25_48 : List Ins := [⟨(some 89), .mv (.t 7), none, true⟩,
 ⟨(some 90), .mv (.t 12), none, true⟩,
 ⟨(some 91), .ia 1 (.t 89) (.t 90), none, true⟩,
 ⟨(some 92), .ld true 1 (.t 91), none, true⟩,
 ⟨(some 93), .mv (.t 5), none, true⟩,
 ⟨(some 94), .mv (.t 13), none, true⟩,
 ⟨(some 95), .ia 1 (.t 92) (.t 93), none, true⟩,
 ⟨none, .st 1 (.t 95) (.t 94), none, true⟩]
abbrev v25_49 : VC := (.seq (.ops o25_47) (.ops o25_48))
abbrev o25_50 : List Ins := [⟨(some 79), .mv (.t 12), none, true⟩,
 ⟨(some 80), .bin .add (.t 79) (.k (.c (.int .i64 1))), none, true⟩,
 ⟨(some 12), .mv (.t 80), none, true⟩]
abbrev v25_51 : VC := (.seq (.block 7 v25_49) (.ops o25_50))
abbrev v25_52 : VC := (.seq (.seq (.ops o25_45) v25_46) v25_51)
-- K25_4: changed and kept: [12]
abbrev v25_53 : VC := (.loop v25_52)
abbrev v25_54 : VC := (.block 6 v25_53)
abbrev o25_55 : List Ins := [⟨(some 15), .mv (.k (.c (.int .i64 0))), none, true⟩]
abbrev o25_56 : List Ins := [⟨(some 96), .mv (.t 15), none, true⟩,
 ⟨(some 97), .mv (.t 5), none, true⟩,
 ⟨(some 98), .bin .leq (.t 96) (.t 97), none, true⟩]
abbrev v25_57 : VC := (.cond (.t 98) .skip (.exit 8))
abbrev o25_58 : List Ins := [⟨(some 102), .mv (.t 7), none, true⟩,
 ⟨(some 103), .mv (.t 7), none, true⟩,
 ⟨(some 104), .mv (.t 15), none, true⟩,
 ⟨(some 105), .call (.k (.fn 58 [])) [(.t 103), (.t 104), (.k (.c (.bool false)))], none, true⟩,
 ⟨(some 106), .call (.k (.fn 57 [])) [(.t 102), (.t 105)], none, true⟩,
 ⟨(some 101), .mv (.t 106), none, true⟩,
 ⟨(some 107), .ext (.t 101) 0, none, true⟩,
 ⟨(some 108), .ext (.t 101) 1, none, true⟩,
 ⟨(some 16), .mv (.t 107), none, true⟩,
 ⟨(some 17), .mv (.t 108), none, true⟩]
abbrev o25_59 : List Ins := [⟨(some 109), .mv (.t 7), none, true⟩,
 ⟨(some 110), .mv (.t 0), none, true⟩,
 ⟨(some 111), .len (.t 110), none, true⟩,
 ⟨(some 112), .ia 1 (.t 109) (.t 111), none, true⟩,
 ⟨(some 113), .ld true 1 (.t 112), none, true⟩,
 ⟨(some 114), .mv (.t 15), none, true⟩,
 ⟨(some 115), .mv (.t 16), none, true⟩,
 ⟨(some 116), .ia 1 (.t 113) (.t 114), none, true⟩,
 ⟨none, .st 1 (.t 116) (.t 115), none, true⟩]
abbrev v25_60 : VC := (.seq (.ops o25_58) (.ops o25_59))
abbrev o25_61 : List Ins := [⟨(some 99), .mv (.t 15), none, true⟩,
 ⟨(some 100), .bin .add (.t 99) (.k (.c (.int .i64 1))), none, true⟩,
 ⟨(some 15), .mv (.t 100), none, true⟩]
abbrev v25_62 : VC := (.seq (.block 9 v25_60) (.ops o25_61))
abbrev v25_63 : VC := (.seq (.seq (.ops o25_56) v25_57) v25_62)
-- K25_5: changed and kept: [15]
abbrev v25_64 : VC := (.loop v25_63)
abbrev v25_65 : VC := (.block 8 v25_64)
abbrev o25_66 : List Ins := [⟨(some 117), .mv (.t 7), none, true⟩,
 ⟨(some 118), .call (.k (.fn 59 [])) [(.t 117)], none, true⟩,
 ⟨(some 2), .mv (.t 118), none, true⟩,
 ⟨(some 3), .mv (.k (.c (.int .i64 0))), none, true⟩]
abbrev v25_67 : VC := (.seq (.ops o25_66) .ret)
abbrev v25_68 : VC := (.seq (.seq (.ops o25_55) v25_65) v25_67)
abbrev v25_69 : VC := (.seq (.seq (.ops o25_44) v25_54) v25_68)
abbrev v25_70 : VC := (.seq (.seq (.ops o25_18) v25_43) v25_69)
abbrev v25_71 : VC := (.seq (.ops o25_17) v25_70)
abbrev v25_72 : VC := (.seq (.seq (.ops o25_8) v25_16) v25_71)
abbrev v25_73 : VC := (.seq (.ops o25_7) v25_72)
abbrev v25_74 : VC := (.seq (.seq (.ops o25_1) v25_6) v25_73)
def ir25 : FC := ⟨1, 119, [.t 2, .t 3], (.seq (.ops o25_0) v25_74)⟩
theorem c25 : compM Tryd.prog [100073,100074] 25 = some ir25 := by kernel_rfl
attribute [local go_sem] Nat.reduceEqDiff Nat.reduceAdd Nat.reduceMul reduceIte Nat.reduceLeDiff Nat.reduceLT Nat.reduceBEq reduceCtorEq
theorem mks_zero (n : Nat) : (List.replicate n [AV.c (CD.int .i64 0)]).flatten = cellsG icds (List.replicate n 0) 0 := by
 induction n with
 | zero => rfl
 | succ n ih => rw [List.replicate_succ, List.flatten_cons, ih, List.replicate_succ]; rfl
def rowK (w : Nat) (s : List UInt8) (k : Nat) : List Int := (s.take k).map vq ++ List.replicate (w + 1 - k) 0
theorem rowK_len {w k : Nat} {s : List UInt8} (hk : k ≤ s.length) (hs : s.length ≤ w) : (rowK w s k).length = w + 1 := by
 unfold rowK
 rw [List.length_append, List.length_map, List.length_take, List.length_replicate]; omega
theorem rowK_succ {w k : Nat} {s : List UInt8} (hk : k < s.length) (hs : s.length ≤ w) : (rowK w s k).set k (vq s[k]) = rowK w s (k + 1) := by
 unfold rowK
 have hl : ((s.take k).map vq).length = k := by rw [List.length_map, List.length_take]; omega
 rw [List.set_append_right _ _ (by omega), hl, Nat.sub_self, show w + 1 - k = (w + 1 - (k + 1)) + 1 by omega, List.replicate_succ, List.set_cons_zero, List.take_succ_eq_append_getElem hk, List.map_append, List.append_assoc]
 rfl
theorem rowK_zero (w : Nat) (s : List UInt8) : rowK w s 0 = List.replicate (w + 1) 0 := by simp [rowK]
theorem rowK_end {w : Nat} {s : List UInt8} (hs : s.length + 1 ≤ w) : rowK w (s ++ [124]) (s.length + 1) = rowZ w s := by
 unfold rowK rowZ rowB
 rw [List.take_of_length_le (by simp), show w + 1 - (s.length + 1) = (w - (s.length + 1)) + 1 by omega, List.replicate_succ']
 simp [List.map_append, List.map_replicate, show vq 32 = 0 by decide]
theorem grid0_len (ts : List (List UInt8)) : (grid0 ts).length = ts.length + 1 := by simp [grid0]
theorem grid0_get {ts : List (List UInt8)} {k : Nat} (h : k < (grid0 ts).length) : (grid0 ts)[k] = if h : k < ts.length then rowZ (maxW ts) ts[k] else List.replicate (maxW ts + 1) 0 := by
 have e : (grid0 ts).getD k [] = (grid0 ts)[k] := by rw [List.getD_eq_getElem?_getD, List.getElem?_eq_getElem h]; rfl
 rw [← e, grid0_row]
 rw [grid0_len] at h
 by_cases hk : k < ts.length
 ·rw [dif_pos hk, dif_pos hk]
 ·rw [dif_neg hk, dif_neg hk, if_pos (by omega)]
theorem txB {s : List UInt8} (h : isTx s = true) : ∀ b ∈ s ++ [124], valR b = (vq b, true) := by
 intro b hb
 refine vq_R ?_
 rcases List.mem_append.1 hb with hb | hb
 ·exact rowW_ok (w := 0) h b (by unfold rowW rowB; simp [hb])
 ·simp only [List.mem_singleton] at hb
  subst hb; unfold BOk; decide
set_option maxRecDepth 20000 in
set_option maxHeartbeats 16000000 in
theorem write25 (ts : List (List UInt8)) (hts : ∀ s ∈ ts, s.length ≤ 1000000) (htl : ts.length ≤ 1000000) : FSpec Tryd.prog 25 [.c (strsV ts)] (.tup [.c (.str (writeR ts).1), iv (writeR ts).2]) := by
 have hmax : maxLen = 9223372036854775807 := rfl
 have har := aretexts15 ts fun s hs => by have := hts s hs; omega
 refine FSpec_ofP c25 (Nat.le_refl _) (by decide) fun C hP hN hC hpin hL => ?_; rw [init_st]
 simp only [ir25, strsV]
 (repeat ((first | refine Va ?_ | refine Vb ?_ | refine Vc ?_ | refine Vd ?_ | refine Ve ?_ | refine Vf ?_); (try simp only [go_sem, hP]); (repeat refine qJ ?_)))
 (refine AS_pu (har) ?_; simp only [go_sem, hP]; (repeat refine qJ ?_); (repeat ((first | refine Va ?_ | refine Vb ?_ | refine Vc ?_ | refine Vd ?_ | refine Ve ?_ | refine Vf ?_); (try simp only [go_sem, hP]); (repeat refine qJ ?_))))
 by_cases h40 : 40 < ts.length
 ·have hwr : writeR ts = ([], 2) := by unfold writeR; rw [if_pos h40]
  have her : errT ts = 2 := by unfold errT; rw [if_pos h40]
  rw [hwr, her]
  (refine WV_cond rfl (fun h => ?_) (fun h => ?_))
  ·(repeat ((first | refine Va ?_ | refine Vb ?_ | refine Vc ?_ | refine Vd ?_ | refine Ve ?_ | refine Vf ?_); (try simp only [go_sem, hP]); (repeat refine qJ ?_)))
   (refine WV_ret ?_; simp only [thenQ, inQ, RetQ, RetOk, resAll, resA]; simp only [go_sem, tupA, AV.port, AV.portL, exists_eq_left'])
   exact AVle.refl _
  ·simp at h
 by_cases hall : ts.all isTx = true
 case neg =>
  have hwr : writeR ts = ([], 1) := by unfold writeR; rw [if_neg h40, if_neg hall]
  have her : errT ts = 1 := by unfold errT; rw [if_neg h40, if_neg hall]
  rw [hwr, her]
  (refine WV_cond rfl (fun h => ?_) (fun h => ?_))
  ·(repeat ((first | refine Va ?_ | refine Vb ?_ | refine Vc ?_ | refine Vd ?_ | refine Ve ?_ | refine Vf ?_); (try simp only [go_sem, hP]); (repeat refine qJ ?_)))
   (refine WV_ret ?_; simp only [thenQ, inQ, RetQ, RetOk, resAll, resA]; simp only [go_sem, tupA, AV.port, AV.portL, exists_eq_left'])
   exact AVle.refl _
  ·simp at h
 have hwr : writeR ts = (textG (bytesG (gridR ts)), 0) := by unfold writeR; rw [if_neg h40, if_pos hall]
 have her : errT ts = 0 := by unfold errT; rw [if_neg h40, if_pos hall]
 rw [hwr, her]
 clear hwr har her
 have hlen : ∀ s ∈ ts, s.length ≤ 30 := fun s hs => isTx_len (List.all_eq_true.1 hall s hs)
 have hmw := maxW_le (ts := ts) (b := 31) (by omega) fun s hs => by have := hlen s hs; omega
 have hmg := maxW_ge ts
 (refine WV_cond rfl (fun h => ?_) (fun h => ?_))
 ·simp at h
 (repeat ((first | refine Va ?_ | refine Vb ?_ | refine Vc ?_ | refine Vd ?_ | refine Ve ?_ | refine Vf ?_); (try simp only [go_sem, hP]); (repeat refine qJ ?_)))
 refine WV_loopK K25_1 [] (fun k : Nat => k ≤ ts.length) (fun k => ts.length - k) (fun k => [(6, iv k), (5, iv (maxW (ts.take k)))]) (fun _ => []) 0 (Nat.zero_le _) ?_ ?_
 ·(refine Sub_of (by simp only [go_sem]; ((repeat' (first | exact EnvLe_e0 _ _ | refine EnvLe_upd ?_ ?_)) <;> ((try simp only [upd_app, e0_app, o0_app, Nat.reduceEqDiff, reduceIte]); first | exact AWk.refl _ _ | exact AWk.int (by omega) | exact AWk.int (by rw [w64 (by omega) (by omega)]; omega) | exact AWk.grow rfl | exact AWk.nil _ | exact AWk.of (by simp [maxW])))) (by simp only [go_sem]; exact ObjLe_au))
 intro k hk0
 simp only [go_sem]
 (repeat ((first | refine Va ?_ | refine Vb ?_ | refine Vc ?_ | refine Vd ?_ | refine Ve ?_ | refine Vf ?_); (try simp only [go_sem, hP, List.length_map]); (repeat refine qJ ?_)))
 (refine WV_cond rfl (fun h => ?_) (fun h => ?_))
 ·have hk : k < ts.length := by simpa using h
  have hsn := maxW_snoc hk
  have hlk := hlen _ (List.getElem_mem hk)
  have hw0 := maxW_ge (ts.take k)
  have hw2 := w64 (n := (k : Int) + 1) (by omega) (by omega)
  have hw3 := w64 (n := ((ts[k]).length : Int) + 1) (by omega) (by omega)
  (repeat ((first | refine Va ?_ | refine Vb ?_ | refine Vc ?_ | refine Vd ?_ | refine Ve ?_ | refine Vf ?_); (try simp only [go_sem, hP, map_getD hk, Int.toNat_natCast, Int.ofNat_lt, hk, Int.natCast_nonneg, List.length_map, hw2, hw3]); (repeat refine qJ ?_)))
  refine ⟨k + 1, by omega, by omega, ?_⟩
  rw [hsn]
  (refine Sub_of (by simp only [go_sem]; ((repeat' (first | exact EnvLe_e0 _ _ | refine EnvLe_upd ?_ ?_)) <;> ((try simp only [upd_app, e0_app, o0_app, Nat.reduceEqDiff, reduceIte]); first | exact AWk.refl _ _ | exact AWk.int (by omega) | exact AWk.int (by rw [w64 (by omega) (by omega)]; omega) | exact AWk.grow rfl | exact AWk.nil _ | exact AWk.of (by simp; omega)))) (by simp only [go_sem]; exact ObjLe_au))
 have hk : k = ts.length := by simp at h; omega
 subst hk
 rw [List.take_length]
 obtain ⟨w, hw⟩ : ∃ w, w = maxW ts := ⟨_, rfl⟩
 rw [← hw] at hmw hmg ⊢
 have hwi := w64 (n := (w : Int) + 1) (by omega) (by omega)
 have hwn : ((w : Int) + 1).toNat = w + 1 := by omega
 have hN0 := grid0_nn hall
 rw [← hw] at hN0
 (repeat ((first | refine Va ?_ | refine Vb ?_ | refine Vc ?_ | refine Vd ?_ | refine Ve ?_ | refine Vf ?_); (try simp only [go_sem, hP, List.length_map]); (repeat refine qJ ?_)))
 refine WV_loopS (fun p : List IRow × AV × Ob => ⟨upd (upd (upd (upd e0 0 (.c (.sl 1 (List.map (fun t => [CD.str t]) ts)))) 5 (iv w)) 8 (iv p.1.length)) 7 p.2.1, fam 1001 icds p.1 (upd o0 74 p.2.2)⟩) (fun p => p.1.length ≤ ts.length + 1 ∧ gi p.1 = (grid0 ts).take p.1.length ∧ GrowG 1001 74 p.1 p.2.1 p.2.2) (fun p => ts.length + 1 - p.1.length) ([], .c (.raw (.slice none 0 0)), .none) ⟨Nat.zero_le _, rfl, GrowG.nil _ _⟩ ?_ ?_
 ·refine Sub_of (by exact EnvLe_au) ?_
  rw [fam_nil]
  exact ObjLe_au
 rintro ⟨R, y, x⟩ ⟨hr0, hrl, hg⟩
 simp only at hr0 hrl hg ⊢
 (repeat ((first | refine Va ?_ | refine Vb ?_ | refine Vc ?_ | refine Vd ?_ | refine Ve ?_ | refine Vf ?_); (try simp only [go_sem, hP, List.length_map]); (repeat refine qJ ?_)))
 have hyd := hg.dg.1
 have hyv := hg.dg.2
 obtain ⟨o1, ho1⟩ : ∃ o1, o1 = upd o0 74 x := ⟨_, rfl⟩
 have gp : ∀ d, d ≠ 74 → d < 1001 → AV.prg d y = y ∧ Ob.prg d x = x := fun d h1 h2 => hg.prg h1 h2
 have gq : ∀ d, d ≠ 74 → d < 1001 → prgO d o1 = o1 := fun d h1 h2 => by rw [ho1, prgO_upd, prgO_o0, (gp d h1 h2).2]
 have gz : ∀ d, d ≠ 74 → o1 d = .none := fun d h1 => by rw [ho1, upd_app, if_neg h1]; rfl
 have p45 := gp 45 (by decide) (by decide)
 have q45 := gq 45 (by decide) (by decide)
 have z45 := gz 45 (by decide)
 rw [← ho1]
 (refine WV_cond rfl (fun h => ?_) (fun h => ?_))
 ·have hk : R.length < ts.length + 1 := by simp at h; omega
  have hw2 := w64 (n := (R.length : Int) + 1) (by omega) (by omega)
  have hg0l : R.length < (grid0 ts).length := by rw [grid0_len]; exact hk
  have hrow := grid0_get hg0l
  rw [← hw] at hrow
  have hrowl : ((grid0 ts)[R.length]).length = w + 1 := by
   have := hN0.gow.row R.length hk
   rwa [List.getD_eq_getElem?_getD, List.getElem?_eq_getElem hg0l] at this
  (refine WV_skip ?_; simp only [go_sem])
  refine WV_seq_ (WV_block (WV_seq_ ?_))
  (refine WV_op ?_; simp only [go_sem, hP, hwi, hwn, fam_lo, fam_upd, prgO_fam, p45, q45, z45, hyd, hyv, mks_zero]; (repeat refine qJ ?_))
  refine WV_mid ⟨upd (upd (upd (upd (upd e0 0 (.c (.sl 1 (List.map (fun t => [CD.str t]) ts)))) 5 (iv w)) 8 (iv R.length)) 7 y) 9 (.vw 1 45 0 (w + 1) (w + 1)), fam 1001 icds R (upd o1 45 (.box (cellsG icds (grid0 ts)[R.length] 0)))⟩ ?_ ?_
  ·refine WV_seq_ ?_
   (refine WV_op ?_; simp only [go_sem, hP, List.length_map]; (repeat refine qJ ?_))
   by_cases hin : R.length < ts.length
   ·rw [dif_pos hin] at hrow
    have hs30 := hlen _ (List.getElem_mem hin)
    have hsw := hmg.2 _ (List.getElem_mem hin)
    have htx := txB (List.all_eq_true.1 hall _ (List.getElem_mem hin))
    generalize hs : ts[R.length] = s at hs30 hsw htx hrow
    (refine WV_cond rfl (fun h => ?_) (fun h => ?_))
    ·refine WV_seq_ ?_
     (refine WV_op ?_; simp only [go_sem, hP, map_getD hin, Int.toNat_natCast, Int.ofNat_lt, hin, Int.natCast_nonneg, List.length_map, hs]; (repeat refine qJ ?_))
     (repeat ((first | refine Va ?_ | refine Vb ?_ | refine Vc ?_ | refine Vd ?_ | refine Ve ?_ | refine Vf ?_); (try simp only [go_sem, hP]); (repeat refine qJ ?_)))
     have hsl : (s ++ [124]).length = s.length + 1 := by simp
     refine WV_loopS (fun k : Nat => ⟨upd (upd (upd (upd (upd (upd (upd e0 0 (.c (.sl 1 (List.map (fun t => [CD.str t]) ts)))) 5 (iv w)) 8 (iv R.length)) 7 y) 9 (.vw 1 45 0 (w + 1) (w + 1))) 10 (sv (s ++ [124]))) 11 (iv k), fam 1001 icds R (upd o1 45 (.box (cellsG icds (rowK w (s ++ [124]) k) 0)))⟩) (fun k => k ≤ s.length + 1) (fun k => s.length + 1 - k) 0 (Nat.zero_le _) ?_ ?_
     ·rw [rowK_zero]
      exact Sub_of (by exact EnvLe_au) (ObjLe.rfl' _)
     ·intro k hk0
      (repeat ((first | refine Va ?_ | refine Vb ?_ | refine Vc ?_ | refine Vd ?_ | refine Ve ?_ | refine Vf ?_); (try simp only [go_sem, hP, hsl]); (repeat refine qJ ?_)))
      (refine WV_cond rfl (fun h => ?_) (fun h => ?_))
      ·have hks : k < (s ++ [124]).length := by rw [hsl]; simp at h; omega
       have hkw : k < w + 1 := by omega
       have hlen2 := rowK_len (w := w) (s := s ++ [124]) (k := k) (by omega) (by omega)
       have hset := rowK_succ (w := w) hks (by omega)
       have hv := htx _ (List.getElem_mem hks)
       have hva := value22 (s ++ [124])[k]
       have hst := str_at hks
       rw [hv] at hva
       generalize (s ++ [124])[k] = b at hset hva hst
       have hcs := cellsG_set (cds := icds) icds_one (l := rowK w (s ++ [124]) k) (k := k) (by omega) 0 0 (by decide) (.int .i64 (vq b)) (vq b) rfl
       rw [Nat.mul_one, Nat.add_zero, hset] at hcs
       have hcl : k < (cellsG icds (rowK w (s ++ [124]) k) 0).length := icell_lt (by omega) 0
       have hw4 := w64 (n := (k : Int) + 1) (by omega) (by omega)
       (refine WV_skip ?_; simp only [go_sem])
       refine WV_seq_ (WV_block ?_)
       (refine WV_op ?_; simp only [go_sem, hP, hst, hks, Int.toNat_natCast, Int.ofNat_lt, Int.natCast_nonneg]; (repeat refine qJ ?_))
       refine AS_pu hva ?_
       simp only [go_sem, hP, Int.toNat_natCast, Int.ofNat_lt, Int.natCast_nonneg, Nat.mul_one, Nat.zero_add, Nat.add_zero, hkw, fam_lo, fam_upd, hcl, hcs]
       (repeat refine qJ ?_)
       (repeat ((first | refine Va ?_ | refine Vb ?_ | refine Vc ?_ | refine Vd ?_ | refine Ve ?_ | refine Vf ?_); (try simp only [go_sem, hP, hw4]); (repeat refine qJ ?_)))
       refine ⟨k + 1, by omega, by omega, ?_⟩
       refine Sub_of ?_ (ObjLe_fam ?_)
       ·exact EnvLe_au
       ·intro n
        by_cases e45 : n = 45
        ·subst e45; left; simp [upd_app]
        left; simp [upd_app, e45]
      ·have hks : k = s.length + 1 := by simp at h; omega
       subst hks
       rw [rowK_end hsw, ← hrow]
       refine WV_exit ?_
       simp only [thenQ, inQ, reduceIte, beq_self_eq_true]
       exact Sub_of (by exact EnvLe_au) (ObjLe.rfl' _)
    ·simp at h; omega
   ·rw [dif_neg hin] at hrow
    (refine WV_cond rfl (fun h => ?_) (fun h => ?_))
    ·simp at h; omega
    ·refine WV_skip ?_
     rw [hrow]
     exact Sub_of (by exact EnvLe_au) (ObjLe.rfl' _)
  (refine WV_split 2 ?_; simp only [List.take_succ_cons, List.take_zero, List.take_nil, List.drop_succ_cons, List.drop_zero, List.drop_nil]; simp only [go_sem, hP, hyd, hyv]; (repeat refine qJ ?_))
  refine ⟨hyd, ?_⟩
  refine SOps_addrow (cds := icds) (b := 1001) (D := 74) (E := 45) (B := 73) (tr := 72) (tg := 71) (R := R) (l := (grid0 ts)[R.length]) (j := 0) (cap := w + 1) (y := y) (x := x) [0, 5, 8] hpin (by decide) (by decide) (by decide) (by decide) (by decide) (by decide) (by rw [hrowl]; rfl) (by first | exact hyv | rfl) (by decide) hg ?_ (by omega) (by decide) (by rfl) hg.any ?_
  ·rw [ho1]
   exact ObjLe.rfl' _
  intro c4 j4 v1 v2 v3
  refine SOps_ops ?_
  simp only [go_sem, keepE]
  (repeat ((first | refine Va ?_ | refine Vb ?_ | refine Vc ?_ | refine Vd ?_ | refine Ve ?_ | refine Vf ?_); (try simp only [go_sem, hP, hw2]); (repeat refine qJ ?_)))
  have hrl2 : (R ++ [(⟨(grid0 ts)[R.length], 0, w + 1⟩ : IRow)]).length = R.length + 1 := by simp
  refine ⟨(R ++ [⟨(grid0 ts)[R.length], 0, w + 1⟩], .vw 1 74 0 (R.length + 1) c4, .box (refs 1001 1 0 (R ++ [⟨(grid0 ts)[R.length], 0, w + 1⟩]) ++ List.replicate j4 .non)), ⟨by simp only [hrl2]; omega, ?_, ?_⟩, by simp only [hrl2]; omega, ?_⟩
  ·simp only [hrl2]
   unfold gi at hrl ⊢
   rw [List.map_append, hrl, List.take_succ_eq_append_getElem hg0l]; rfl
  ·rw [← hrl2]
   exact GrowG.some (by simp) (by rw [hrl2]; exact v1) v2 (by rw [hrl2]; omega)
  ·simp only [hrl2]
   refine Sub_of ?_ (ObjLe.rfl' _)
   exact EnvLe_au
 have hk : R.length = ts.length + 1 := by simp at h; omega
 rw [hk, List.take_of_length_le (by rw [grid0_len]; exact Nat.le_refl _)] at hrl
 obtain ⟨cap, j, c1, c2, c3, rfl, rfl⟩ : ∃ cap j, R.length ≤ cap ∧ cap ≤ maxLen ∧ cap ≤ R.length + j ∧ y = .vw 1 74 0 R.length cap ∧ x = .box (refs 1001 1 0 R ++ List.replicate j .non) := by
  rcases hg with ⟨rfl, _, _⟩ | ⟨_, h⟩
  ·simp at hk
  ·exact h
 refine WV_exit ?_
 simp only [thenQ, inQ, reduceIte, beq_self_eq_true]
 rw [ho1]
 refine WV_grown (t := 7) [0, 5] (by decide) hpin rfl rfl ?_
 simp only [go_sem, keepE]
 clear gp gq gz p45 q45 z45 hyd hyv ho1 o1
 obtain ⟨z1, z2⟩ := grid0_zero (ts := ts)
 rw [← hw] at z1 z2
 have hkR : ∀ k, k < ts.length + 1 → k < R.length := fun k hk' => by omega
 (repeat ((first | refine Va ?_ | refine Vb ?_ | refine Vc ?_ | refine Vd ?_ | refine Ve ?_ | refine Vf ?_); (try simp only [go_sem, hP]); (repeat refine qJ ?_)))
 refine WV_loopS (fun p : Nat × List IRow => ⟨upd (upd (upd (upd e0 0 (.c (.sl 1 (List.map (fun t => [CD.str t]) ts)))) 5 (iv w)) 7 (.vw 1 1000 0 R.length cap)) 12 (iv p.1), gown icds 1 p.2 j o0⟩) (fun p => p.1 ≤ ts.length ∧ p.2.length = R.length ∧ gi p.2 = rowsF w p.1 (grid0 ts)) (fun p => ts.length - p.1) (0, R) ⟨Nat.zero_le _, rfl, hrl⟩ ?_ ?_
 ·exact Sub_of (by exact EnvLe_au) (ObLe_gown (by exact ObjLe_au))
 rintro ⟨k, S⟩ ⟨hk0, hSl, hSg⟩
 simp only at hk0 hSl hSg ⊢
 obtain ⟨n1, n2, n3⟩ := rowsF_inv hN0 z1 (Nat.succ_pos _) k (by omega)
 have n1s := n1
 rw [← hSg] at n1s
 obtain ⟨g1, g2, g3⟩ := n1s.gow.gok (Nat.succ_pos _) (by omega) (by omega)
 (repeat ((first | refine Va ?_ | refine Vb ?_ | refine Vc ?_ | refine Vd ?_ | refine Ve ?_ | refine Vf ?_); (try simp only [go_sem, hP, List.length_map]); (repeat refine qJ ?_)))
 (refine WV_cond rfl (fun h => ?_) (fun h => ?_))
 ·have hkt : k < ts.length := by simpa using h
  have hkS : k < S.length := by omega
  have hkr := hkR k (by omega)
  have hw2 := w64 (n := (k : Int) + 1) (by omega) (by omega)
  have hrowk : (S[k]).l.length = w + 1 := by have := n1s.gow.row k (by omega); rwa [gi_row hkS] at this
  have hwl : w < (S[k]).l.length := by omega
  have hww : w < w + 1 := Nat.lt_succ_self w
  have hput : ∀ v o, upd (gown icds 1 S j o) (k + 1001) (.box ((cellsG icds (S[k]).l (S[k]).j).set w (iv v))) = gown icds 1 (putI S (k, w) v) j o := fun v o => gown_putI (p := (k, w)) hkS hwl j o
  have hcl := icell_lt hwl (S[k]).j
  have hl58 := line58L (R := S) (j := j) (cap := cap) g1 k true
  have hl57 := lacksLL (R := S) (j := j) (cap := cap) (n := k) (b := true) g1 (by unfold manyL; rw [if_pos rfl, g3]; omega)
  rw [hSl] at hl58 hl57
  (refine WV_skip ?_; simp only [go_sem])
  refine WV_seq_ (WV_block (WV_seq_ ?_))
  (refine WV_op ?_; simp only [go_sem, hP]; (repeat refine qJ ?_))
  (refine AS_grid (hl58) rfl rfl rfl (by simp only [List.map_cons, List.map_nil, List.append_nil]; simp only [go_sem, AV.lendL, lend_grid, AV.lend]) ?_; rintro r l' ⟨rfl, rfl⟩; refine ⟨S, rfl, rfl, rfl, ?_⟩; simp only [go_sem, hP]; (repeat refine qJ ?_); (repeat ((first | refine Va ?_ | refine Vb ?_ | refine Vc ?_ | refine Vd ?_ | refine Ve ?_ | refine Vf ?_); (try simp only [go_sem, hP]); (repeat refine qJ ?_))))
  (refine AS_grid (hl57) rfl rfl rfl (by simp only [List.map_cons, List.map_nil, List.append_nil]; simp only [go_sem, AV.lendL, lend_grid, AV.lend]) ?_; rintro r l' ⟨rfl, rfl⟩; refine ⟨S, rfl, rfl, rfl, ?_⟩; simp only [go_sem, hP, gown_lo, gown_upd, gown_grid, gown_row hkS, Row.ob_box, gridOb, Ob.isBox, refs_get hkS, irefs_glen, hrowk, Int.toNat_natCast, Nat.mul_one, Nat.zero_add, Nat.add_zero, Int.ofNat_lt, Int.natCast_nonneg, List.length_map, hkS, hkr, hww, hcl, hput, hw2]; (repeat refine qJ ?_); (repeat ((first | refine Va ?_ | refine Vb ?_ | refine Vc ?_ | refine Vd ?_ | refine Ve ?_ | refine Vf ?_); (try simp only [go_sem, hP, gown_lo, gown_upd, gown_grid, gown_row hkS, Row.ob_box, gridOb, Ob.isBox, refs_get hkS, irefs_glen, hrowk, Int.toNat_natCast, Nat.mul_one, Nat.zero_add, Nat.add_zero, Int.ofNat_lt, Int.natCast_nonneg, List.length_map, hkS, hkr, hww, hcl, hput, hw2]); (repeat refine qJ ?_))))
  refine ⟨(k + 1, putI S (k, w) (lackL (gi S) (lineP (gi S) k true))), ⟨by simp only; omega, by simp only [putI_len]; exact hSl, ?_⟩, by simp only; omega, ?_⟩
  ·simp only
   rw [putI_gi hkS, rowsF_succ, ← hSg]
  ·exact Sub_of (by exact EnvLe_au) (ObLe_gown (by exact ObjLe_au))
 have hkt : k = ts.length := by simp at h; omega
 subst hkt
 (repeat ((first | refine Va ?_ | refine Vb ?_ | refine Vc ?_ | refine Vd ?_ | refine Ve ?_ | refine Vf ?_); (try simp only [go_sem, hP]); (repeat refine qJ ?_)))
 refine WV_loopS (fun p : Nat × List IRow => ⟨upd (upd (upd (upd e0 0 (.c (.sl 1 (List.map (fun t => [CD.str t]) ts)))) 5 (iv w)) 7 (.vw 1 1000 0 R.length cap)) 15 (iv p.1), gown icds 1 p.2 j o0⟩) (fun p => p.1 ≤ w + 1 ∧ p.2.length = R.length ∧ gi p.2 = colsF ts.length p.1 (rowsF w ts.length (grid0 ts))) (fun p => w + 1 - p.1) (0, S) ⟨Nat.zero_le _, hSl, hSg⟩ ?_ ?_
 ·exact Sub_of (by exact EnvLe_au) (ObLe_gown (by exact ObjLe_au))
 clear hSl hSg n1s g1 g2 g3
 clear S
 rintro ⟨k, S⟩ ⟨hk0, hSl, hSg⟩
 simp only at hk0 hSl hSg ⊢
 obtain ⟨m1, m2, m3⟩ := colsF_inv n1 (fun c hc => by rw [n3 ts.length c (.inl (Nat.le_refl _))]; exact z2 c hc) k (by omega)
 rw [← hSg] at m1
 obtain ⟨g1, g2, g3⟩ := m1.gow.gok (Nat.succ_pos _) (by omega) (by omega)
 (repeat ((first | refine Va ?_ | refine Vb ?_ | refine Vc ?_ | refine Vd ?_ | refine Ve ?_ | refine Vf ?_); (try simp only [go_sem, hP, List.length_map]); (repeat refine qJ ?_)))
 (refine WV_cond rfl (fun h => ?_) (fun h => ?_))
 ·have hkt : k < w + 1 := by simp at h; omega
  have hnS : ts.length < S.length := by omega
  have hnr := hkR ts.length (by omega)
  have hw2 := w64 (n := (k : Int) + 1) (by omega) (by omega)
  have hrowk : (S[ts.length]).l.length = w + 1 := by have := m1.gow.row ts.length (by omega); rwa [gi_row hnS] at this
  have hwl : k < (S[ts.length]).l.length := by omega
  have hput : ∀ v o, upd (gown icds 1 S j o) (ts.length + 1001) (.box ((cellsG icds (S[ts.length]).l (S[ts.length]).j).set k (iv v))) = gown icds 1 (putI S (ts.length, k) v) j o := fun v o => gown_putI (p := (ts.length, k)) hnS hwl j o
  have hcl := icell_lt hwl (S[ts.length]).j
  have hl58 := line58L (R := S) (j := j) (cap := cap) g1 k false
  have hl57 := lacksLL (R := S) (j := j) (cap := cap) (n := k) (b := false) g1 (by unfold manyL; rw [if_neg (by decide), g2]; omega)
  rw [hSl] at hl58 hl57
  (refine WV_skip ?_; simp only [go_sem])
  refine WV_seq_ (WV_block (WV_seq_ ?_))
  (refine WV_op ?_; simp only [go_sem, hP]; (repeat refine qJ ?_))
  (refine AS_grid (hl58) rfl rfl rfl (by simp only [List.map_cons, List.map_nil, List.append_nil]; simp only [go_sem, AV.lendL, lend_grid, AV.lend]) ?_; rintro r l' ⟨rfl, rfl⟩; refine ⟨S, rfl, rfl, rfl, ?_⟩; simp only [go_sem, hP]; (repeat refine qJ ?_); (repeat ((first | refine Va ?_ | refine Vb ?_ | refine Vc ?_ | refine Vd ?_ | refine Ve ?_ | refine Vf ?_); (try simp only [go_sem, hP]); (repeat refine qJ ?_))))
  (refine AS_grid (hl57) rfl rfl rfl (by simp only [List.map_cons, List.map_nil, List.append_nil]; simp only [go_sem, AV.lendL, lend_grid, AV.lend]) ?_; rintro r l' ⟨rfl, rfl⟩; refine ⟨S, rfl, rfl, rfl, ?_⟩; simp only [go_sem, hP, gown_lo, gown_upd, gown_grid, gown_row hnS, Row.ob_box, gridOb, Ob.isBox, refs_get hnS, irefs_glen, hrowk, Int.toNat_natCast, Nat.mul_one, Nat.zero_add, Nat.add_zero, Int.ofNat_lt, Int.natCast_nonneg, List.length_map, hnS, hnr, hkt, hcl, hput, hw2]; (repeat refine qJ ?_); (repeat ((first | refine Va ?_ | refine Vb ?_ | refine Vc ?_ | refine Vd ?_ | refine Ve ?_ | refine Vf ?_); (try simp only [go_sem, hP, gown_lo, gown_upd, gown_grid, gown_row hnS, Row.ob_box, gridOb, Ob.isBox, refs_get hnS, irefs_glen, hrowk, Int.toNat_natCast, Nat.mul_one, Nat.zero_add, Nat.add_zero, Int.ofNat_lt, Int.natCast_nonneg, List.length_map, hnS, hnr, hkt, hcl, hput, hw2]); (repeat refine qJ ?_))))
  refine ⟨(k + 1, putI S (ts.length, k) (lackL (gi S) (lineP (gi S) k false))), ⟨by simp only; omega, by simp only [putI_len]; exact hSl, ?_⟩, by simp only; omega, ?_⟩
  ·simp only
   rw [putI_gi hnS, colsF_succ, ← hSg]
  ·exact Sub_of (by exact EnvLe_au) (ObLe_gown (by exact ObjLe_au))
 have hkt : k = w + 1 := by simp at h; omega
 subst hkt
 have hgr : gridR ts = gi S := by unfold gridR; rw [← hw, hSg]
 rw [hgr]
 have hst := text59 (g := gi S) (m1.gow.valsOk (by omega)) (by rw [g3]; omega)
 have hgc : CD.sl 1 (S.map fun r => [CD.sl 1 (r.l.map icds)]) = gridC (gi S) := by unfold gridC gi rowC icds; rw [List.map_map]; rfl
 refine WV_exit ?_
 simp only [thenQ, inQ, reduceIte, beq_self_eq_true]
 rw [← hSl]
 refine WV_keep [7] ?_
 simp only [go_sem]
 refine WV_frzGridG icds_one (fun n ds hn => ?_) (fun n ds hn => frzO_o0 _ _) ?_
 ·have hn3 : ¬ (1000 : Nat) = n := by omega
  simp only [go_sem, AV.frz]
  simp only [hn3, if_false]
 simp only [frzE_upd, frzE_e0, frz_gridG]
 rw [hgc]
 (repeat ((first | refine Va ?_ | refine Vb ?_ | refine Vc ?_ | refine Vd ?_ | refine Ve ?_ | refine Vf ?_); (try simp only [go_sem, hP]); (repeat refine qJ ?_)))
 (refine AS_pu (hst) ?_; simp only [go_sem, hP]; (repeat refine qJ ?_); (repeat ((first | refine Va ?_ | refine Vb ?_ | refine Vc ?_ | refine Vd ?_ | refine Ve ?_ | refine Vf ?_); (try simp only [go_sem, hP]); (repeat refine qJ ?_))))
 (refine WV_ret ?_; simp only [thenQ, inQ, RetQ, RetOk, resAll, resA]; simp only [go_sem, tupA, AV.port, AV.portL, exists_eq_left'])
 exact AVle.refl _
end Go.Proofs.YtlmfdmlochpfcaaDoor

namespace Go.Proofs.YtlmfdmlochpfcaaDoor
open Go Go.V
abbrev o5_0 : List Ins := [⟨(some 2), .mv (.k (.c (.bool false))), none, true⟩]
abbrev o5_1 : List Ins := [⟨(some 8), .mv (.t 0), none, true⟩,
 ⟨(some 9), .call (.k (.fn 14 [])) [(.t 8)], none, true⟩,
 ⟨(some 10), .un .not (.t 9), none, true⟩]
abbrev o5_2 : List Ins := [⟨(some 11), .call (.k (.fn 16 [])) [], none, true⟩,
 ⟨(some 2), .mv (.t 11), none, true⟩]
abbrev v5_3 : VC := (.seq (.ops o5_2) .ret)
abbrev v5_4 : VC := (.cond (.t 10) v5_3 .skip)
abbrev o5_5 : List Ins := [⟨(some 12), .bsl 9 1 [], none, true⟩,
 ⟨(some 13), .mv (.t 0), none, true⟩,
 ⟨(some 14), .app 9 1 16 (.t 12) (.t 13), none, true⟩,
 ⟨(some 3), .mv (.t 14), none, true⟩]
abbrev o5_6 : List Ins := [⟨(some 16), .mv (.t 3), none, true⟩,
 ⟨(some 17), .call (.k (.fn 24 [])) [(.t 16)], none, true⟩,
 ⟨(some 15), .mv (.t 17), none, true⟩,
 ⟨(some 18), .ext (.t 15) 0, none, true⟩,
 ⟨(some 19), .ext (.t 15) 1, none, true⟩,
 ⟨(some 4), .mv (.t 18), none, true⟩,
 ⟨(some 5), .mv (.t 19), none, true⟩]
abbrev o5_7 : List Ins := [⟨(some 21), .mv (.t 0), none, true⟩,
 ⟨(some 22), .call (.k (.fn 25 [])) [(.t 21)], none, true⟩,
 ⟨(some 20), .mv (.t 22), none, true⟩,
 ⟨(some 23), .ext (.t 20) 0, none, true⟩,
 ⟨(some 24), .ext (.t 20) 1, none, true⟩,
 ⟨(some 6), .mv (.t 23), none, true⟩,
 ⟨(some 7), .mv (.t 24), none, true⟩]
abbrev o5_8 : List Ins := [⟨(some 25), .mv (.t 4), none, true⟩,
 ⟨(some 26), .mv (.t 6), none, true⟩,
 ⟨(some 27), .prim (.sbin .eql) [(.t 25), (.t 26)], none, true⟩,
 ⟨(some 28), .mv (.t 27), none, true⟩,
 ⟨(some 29), .mv (.t 5), (some (28, true)), true⟩,
 ⟨(some 30), .mv (.t 7), (some (28, true)), true⟩,
 ⟨(some 31), .bin .eql (.t 29) (.t 30), (some (28, true)), true⟩,
 ⟨(some 32), .pick (.t 28) (.t 31) (.k (.c (.bool false))), none, true⟩,
 ⟨(some 33), .mv (.t 32), none, true⟩,
 ⟨(some 34), .mv (.t 3), (some (33, true)), true⟩,
 ⟨(some 35), .mv (.t 0), (some (33, true)), true⟩,
 ⟨(some 36), .call (.k (.fn 21 [])) [(.t 34), (.t 35)], (some (33, true)), true⟩,
 ⟨(some 37), .pick (.t 33) (.t 36) (.k (.c (.bool false))), none, true⟩,
 ⟨(some 38), .mv (.t 37), none, true⟩,
 ⟨(some 39), .call (.k (.fn 16 [])) [], (some (38, true)), true⟩,
 ⟨(some 40), .pick (.t 38) (.t 39) (.k (.c (.bool false))), none, true⟩,
 ⟨(some 2), .mv (.t 40), none, true⟩]
abbrev v5_9 : VC := (.seq (.ops o5_8) .ret)
abbrev v5_10 : VC := (.seq (.ops o5_7) v5_9)
abbrev v5_11 : VC := (.seq (.ops o5_6) v5_10)
abbrev v5_12 : VC := (.seq (.ops o5_5) v5_11)
abbrev v5_13 : VC := (.seq (.seq (.ops o5_1) v5_4) v5_12)
def ir5 : FC := ⟨1, 41, [.t 2], (.seq (.ops o5_0) v5_13)⟩
theorem c5 : compM Tryd.prog [] 5 = some ir5 := by kernel_rfl
attribute [local go_sem] Nat.reduceEqDiff Nat.reduceAdd Nat.reduceMul reduceIte Nat.reduceLeDiff Nat.reduceLT Nat.reduceBEq reduceCtorEq
set_option maxRecDepth 20000 in
set_option maxHeartbeats 8000000 in
theorem bookWrite5 (ts : List (List UInt8)) : FSpec Tryd.prog 5 [.c (strsV ts)] (bv true) := by
 have hmax : maxLen = 9223372036854775807 := rfl
 have hwk := works16
 have hcan := can14 ts
 refine FSpec_of c5 (Nat.le_refl _) (by decide) fun C hP hN hC hL => ?_; rw [init_st]
 simp only [ir5]
 (repeat ((first | refine Va ?_ | refine Vb ?_ | refine Vc ?_ | refine Vd ?_ | refine Ve ?_ | refine Vf ?_); (try simp only [go_sem, hP]); (repeat refine qJ ?_)))
 (refine AS_pu (hcan) ?_; simp only [go_sem, hP]; (repeat refine qJ ?_); (repeat ((first | refine Va ?_ | refine Vb ?_ | refine Vc ?_ | refine Vd ?_ | refine Ve ?_ | refine Vf ?_); (try simp only [go_sem, hP]); (repeat refine qJ ?_))))
 by_cases hc : canT ts = true
 ·have hl : ts.length ≤ 60 ∧ ∀ s ∈ ts, s.length ≤ 200 := by
   unfold canT at hc
   simp only [Bool.and_eq_true, decide_eq_true_eq, List.all_eq_true] at hc
   exact hc
  have hs1 : ((ts.map fun t => [CD.str t]).all fun e => e.length == 1) = true := by
   rw [List.all_eq_true]; intro e he; obtain ⟨n, _, rfl⟩ := List.mem_map.1 he; rfl
  have h1 := write24 ts (fun s hs => by have := hl.2 s hs; omega) (by omega)
  have h2 := write25 ts (fun s hs => by have := hl.2 s hs; omega) (by omega)
  have h3 := same21 ts ts (by omega)
  rw [write_eq] at h1
  rw [show (ts == ts) = true from beq_self_eq_true _] at h3
  generalize writeR ts = p at h1 h2
  rw [hc]
  (refine WV_cond rfl (fun h => ?_) (fun h => ?_))
  ·simp at h
  (repeat ((first | refine Va ?_ | refine Vb ?_ | refine Vc ?_ | refine Vd ?_ | refine Ve ?_ | refine Vf ?_); (try simp only [go_sem, hP, strsV, List.length_map, hs1]); (repeat refine qJ ?_)))
  (refine AS_pu (h1) ?_; simp only [go_sem, hP]; (repeat refine qJ ?_); (repeat ((first | refine Va ?_ | refine Vb ?_ | refine Vc ?_ | refine Vd ?_ | refine Ve ?_ | refine Vf ?_); (try simp only [go_sem, hP]); (repeat refine qJ ?_))))
  (refine AS_pu (h2) ?_; simp only [go_sem, hP, beq_self_eq_true, Bool.and_self, Bool.true_and, true_implies, Bool.true_eq_false, false_implies, and_true]; (repeat refine qJ ?_); (repeat ((first | refine Va ?_ | refine Vb ?_ | refine Vc ?_ | refine Vd ?_ | refine Ve ?_ | refine Vf ?_); (try simp only [go_sem, hP, beq_self_eq_true, Bool.and_self, Bool.true_and, true_implies, Bool.true_eq_false, false_implies, and_true]); (repeat refine qJ ?_))))
  (refine AG_pu (fun hG => h3) ?_; simp only [go_sem, hP, beq_self_eq_true, Bool.and_self, Bool.true_and, true_implies, Bool.true_eq_false, false_implies, and_true]; (repeat refine qJ ?_); (repeat ((first | refine Va ?_ | refine Vb ?_ | refine Vc ?_ | refine Vd ?_ | refine Ve ?_ | refine Vf ?_); (try simp only [go_sem, hP, beq_self_eq_true, Bool.and_self, Bool.true_and, true_implies, Bool.true_eq_false, false_implies, and_true]); (repeat refine qJ ?_))))
  (refine AG_pu (fun hG => hwk) ?_; simp only [go_sem, hP, beq_self_eq_true, Bool.and_self, Bool.true_and, true_implies, Bool.true_eq_false, false_implies, and_true]; (repeat refine qJ ?_); (repeat ((first | refine Va ?_ | refine Vb ?_ | refine Vc ?_ | refine Vd ?_ | refine Ve ?_ | refine Vf ?_); (try simp only [go_sem, hP, beq_self_eq_true, Bool.and_self, Bool.true_and, true_implies, Bool.true_eq_false, false_implies, and_true]); (repeat refine qJ ?_))))
  (refine WV_ret ?_; simp only [thenQ, inQ, RetQ, RetOk, resAll, resA]; simp only [go_sem, tupA, AV.port, AV.portL, exists_eq_left']; (first | exact AVle.of rfl | refine AVle.of ?_ | skip))
 ·have hc : canT ts = false := by simpa using hc
  rw [hc]
  (refine WV_cond rfl (fun h => ?_) (fun h => ?_))
  ·(repeat ((first | refine Va ?_ | refine Vb ?_ | refine Vc ?_ | refine Vd ?_ | refine Ve ?_ | refine Vf ?_); (try simp only [go_sem, hP]); (repeat refine qJ ?_)))
   (refine AS_pu (hwk) ?_; simp only [go_sem, hP]; (repeat refine qJ ?_); (repeat ((first | refine Va ?_ | refine Vb ?_ | refine Vc ?_ | refine Vd ?_ | refine Ve ?_ | refine Vf ?_); (try simp only [go_sem, hP]); (repeat refine qJ ?_))))
   (refine WV_ret ?_; simp only [thenQ, inQ, RetQ, RetOk, resAll, resA]; simp only [go_sem, tupA, AV.port, AV.portL, exists_eq_left']; (first | exact AVle.of rfl | refine AVle.of ?_ | skip))
  ·simp at h
end Go.Proofs.YtlmfdmlochpfcaaDoor
