/-
  Contracts of the layer's functions, of the laws' helpers and of the law; conditions: as each theorem states.
-/
import Derived.Test.YtlmfdmlochpfcaaDoorU5
import Derived.Test.YtlmfdmlochpfcaaDoorU4
import Derived.Test.YtlmfdmlochpfcaaDoorV3
set_option linter.unusedVariables false
set_option linter.unusedSimpArgs false
namespace Go.Proofs.YtlmfdmlochpfcaaDoor
open Go Go.V
attribute [local go_sem] Nat.reduceEqDiff Nat.reduceAdd Nat.reduceMul reduceIte Nat.reduceLeDiff Nat.reduceLT Nat.reduceBEq reduceCtorEq
abbrev IRow := Row Int
def icds (n : Int) : List CD := [.int .i64 n]
theorem icds_one (n : Int) : (icds n).length = 1 := rfl
theorem irefs_glen (R : List IRow) (j : Nat) : (refs 1001 1 0 R ++ List.replicate j AV.non).length = R.length + j := by simp [refs_len]
theorem icell {l : List Int} {k : Nat} (h : k < l.length) (j : Nat) (x : AV) : (cellsG icds l j).getD k x = iv l[k] := by
 have := cellsG_get (cds := icds) icds_one h j 0 (d := .int .i64 l[k]) rfl x
 simpa using this
theorem icell_lt {l : List Int} {k : Nat} (h : k < l.length) (j : Nat) : k < (cellsG icds l j).length := by rw [cellsG_len icds_one]; omega
def gi (R : List IRow) : List (List Int) := R.map Row.l
theorem gi_len (R : List IRow) : (gi R).length = R.length := by simp [gi]
theorem gi_row {R : List IRow} {i : Nat} (h : i < R.length) : (gi R).getD i [] = (R[i]).l := by unfold gi; exact map_getD h
theorem gi_wid {R : List IRow} (h : 0 < R.length) : wid (gi R) = (R[0]).l.length := by unfold wid; rw [gi_row h]
theorem gi_at {R : List IRow} {i k : Nat} (h : i < R.length) (hk : k < (R[i]).l.length) : valAt (gi R) (i, k) = (R[i]).l[k] := by
 unfold valAt
 simp only
 rw [gi_row h, List.getD_eq_getElem?_getD, List.getElem?_eq_getElem hk]; rfl
theorem enterG {P : Program} {m : List Nat} {f : FuncId} {fc : FC} (hc : compM P m f = some fc) {R : List IRow} {j : Nat} {args : List AV} {Post : AV → List Ob → Prop} (hl : R.length ≤ 999) (hn : args.length ≤ fc.np) (hnp : fc.np ≤ fc.N) (hN : fc.N ≤ 1000)
  (h : ∀ C : Ctx, C.P = P → C.N = fc.N → C.Ok → AV.lensL args → WV C fc.body (RetQL fc.rs (gridL icds 1 R j) [] Post) ⟨fun t => args.getD t .non, gown icds 1 R j o0⟩) : FSpecL P f args (gridL icds 1 R j) [] Post := by
 refine FSpecL_of hc (by rw [gridL_len]; omega) hn hnp hN fun C h1 h2 h3 h4 => ?_
 rw [ownW_grid (by omega)]
 exact h C h1 h2 h3 h4
set_option maxHeartbeats 4000000 in
theorem line58R {R : List IRow} (h : GOk (gi R)) (n : Nat) {j cap : Nat} : FSpecL Tryd.prog 58 [.vw 1 1000 0 R.length cap, iv n, bv true] (gridL icds 1 R j) [] (fun r l' => r = .c (marksC (lineP (gi R) n true)) ∧ l' = gridL icds 1 R j) := by
 have hmax : maxLen = 9223372036854775807 := rfl
 have hn : 0 < R.length := by have := h.pos; rwa [gi_len] at this
 have hl := h.len
 rw [gi_len] at hl
 have hw := h.wd
 have hw0 := gi_wid hn
 refine enterG c58 (by omega) (Nat.le_refl _) (by decide) (by decide) fun C hP hN hC hL => ?_; rw [init_env']; simp only [ir58, updL, Nat.reduceAdd]
 (repeat ((first | refine Va ?_ | refine Vb ?_ | refine Vc ?_ | refine Vd ?_ | refine Ve ?_ | refine Vf ?_); (try simp only [go_sem, hP]); (repeat refine qJ ?_)))
 refine WV_nilslot 7 26 31 2 (by decide) (by decide) (by rw [gown_lo (by decide)]; rfl) rfl ?_
 rw [prgO_gown (by decide), gown_upd (by decide)]
 simp only [go_sem]
 refine WV_loopS (fun k : Nat => ⟨upd (upd (upd (upd (upd e0 0 (.vw 1 1000 0 R.length cap)) 1 (iv n)) 2 (bv true)) 8 (iv k)) 7 (.gr 26), gown icds 1 R j (upd o0 26 (.grow 31 2 (((List.range k).map fun i => (n, i)).map mcd)))⟩) (fun k => k ≤ wid (gi R)) (fun k => wid (gi R) - k) 0 (Nat.zero_le _) ?_ ?_
 ·exact Sub_of (by exact EnvLe_au) (ObLe_gown (by exact ObjLe_au))
 ·intro k hk
  (repeat ((first | refine Va ?_ | refine Vb ?_ | refine Vc ?_ | refine Vd ?_ | refine Ve ?_ | refine Vf ?_); (try simp only [go_sem, hP, gown_grid, gown_row hn, Row.ob_box, gridOb, Ob.isBox, refs_get hn, irefs_glen, Int.toNat_zero, Nat.mul_one, Nat.zero_add, Nat.zero_mul, Nat.add_zero, hn, Int.ofNat_lt, Int.natCast_nonneg, ← hw0]); (repeat refine qJ ?_)))
  (refine WV_cond rfl (fun h => ?_) (fun h => ?_))
  ·have h : k < wid (gi R) := by simpa using h
   have hw2 := w64 (n := (k : Int) + 1) (by omega) (by omega)
   have hlen : (((List.range k).map fun i => (n, i)).map mcd).length = k := by simp
   have hsn : ((List.range (k + 1)).map fun i => (n, i)).map mcd = ((List.range k).map fun i => (n, i)).map mcd ++ [[.int .i64 n, .int .i64 k]] := by
    rw [List.range_succ, List.map_append, List.map_append]; rfl
   have h2 := mcd_two ((List.range k).map fun i => (n, i))
   generalize ((List.range k).map fun i => (n, i)).map mcd = M at hlen hsn h2 ⊢
   (repeat ((first | refine Va ?_ | refine Vb ?_ | refine Vc ?_ | refine Vd ?_ | refine Ve ?_ | refine Vf ?_); (try simp only [go_sem, hP, hw2, hlen, h2, gown_lo, gown_upd, prgO_gown]); (repeat refine qJ ?_)))
   refine ⟨k + 1, by omega, by omega, ?_⟩
   rw [hsn]
   exact Sub_of (by exact EnvLe_au) (ObLe_gown (by exact ObjLe_au))
  ·have h : k = wid (gi R) := by simp at h; omega
   subst h
   refine WV_exit ?_
   simp only [thenQ, inQ, if_true, beq_self_eq_true]
   refine WV_seq_ (WV_seq_ ?_)
   (refine WV_op ?_; simp only [go_sem, hP]; (repeat refine qJ ?_))
   refine WV_block ?_
   refine WV_loopS (fun k : Nat => ⟨upd (upd (upd (upd (upd e0 0 (.vw 1 1000 0 R.length cap)) 1 (iv n)) 2 (bv true)) 9 (iv k)) 7 (.gr 26), gown icds 1 R j (upd o0 26 (.grow 31 2 (((List.range (wid (gi R))).map fun i => (n, i)).map mcd)))⟩) (fun k => k = 0) (fun k => k) 0 rfl ?_ ?_
   ·exact Sub_of (by exact EnvLe_au) (ObLe_gown (by exact ObjLe_au))
   ·rintro k rfl
    (repeat ((first | refine Va ?_ | refine Vb ?_ | refine Vc ?_ | refine Vd ?_ | refine Ve ?_ | refine Vf ?_); (try simp only [go_sem, hP]); (repeat refine qJ ?_)))
    (refine WV_cond rfl (fun h => ?_) (fun h => ?_))
    ·simp at h
    ·(repeat ((first | refine Va ?_ | refine Vb ?_ | refine Vc ?_ | refine Vd ?_ | refine Ve ?_ | refine Vf ?_); (try simp only [go_sem, hP, gown_lo]); (repeat refine qJ ?_)))
     (refine WV_ret ?_; simp only [thenQ, inQ, RetQL, RetOkL, resAll, resA]; simp only [go_sem, tupA, AV.keepP, AV.keepPL, gown_lo]; refine ⟨_, gridL icds 1 R j, rfl, KeepL_grid rfl (by omega), ?_⟩)
     exact ⟨by simp [marksC, lineP], rfl⟩
set_option maxHeartbeats 4000000 in
theorem line58C {R : List IRow} (h : GOk (gi R)) (n : Nat) {j cap : Nat} : FSpecL Tryd.prog 58 [.vw 1 1000 0 R.length cap, iv n, bv false] (gridL icds 1 R j) [] (fun r l' => r = .c (marksC (lineP (gi R) n false)) ∧ l' = gridL icds 1 R j) := by
 have hmax : maxLen = 9223372036854775807 := rfl
 have hn : 0 < R.length := by have := h.pos; rwa [gi_len] at this
 have hl := h.len
 rw [gi_len] at hl
 have hw := h.wd
 have hw0 := gi_wid hn
 refine enterG c58 (by omega) (Nat.le_refl _) (by decide) (by decide) fun C hP hN hC hL => ?_; rw [init_env']; simp only [ir58, updL, Nat.reduceAdd]
 (repeat ((first | refine Va ?_ | refine Vb ?_ | refine Vc ?_ | refine Vd ?_ | refine Ve ?_ | refine Vf ?_); (try simp only [go_sem, hP]); (repeat refine qJ ?_)))
 refine WV_loopS (fun k : Nat => ⟨upd (upd (upd (upd (upd e0 0 (.vw 1 1000 0 R.length cap)) 1 (iv n)) 2 (bv false)) 8 (iv k)) 7 (.c (.raw (.slice none 0 0))), gown icds 1 R j o0⟩) (fun k => k = 0) (fun k => k) 0 rfl ?_ ?_
 ·exact Sub_of (by exact EnvLe_au) (ObLe_gown (by exact ObjLe_au))
 rintro k rfl
 (repeat ((first | refine Va ?_ | refine Vb ?_ | refine Vc ?_ | refine Vd ?_ | refine Ve ?_ | refine Vf ?_); (try simp only [go_sem, hP, gown_grid, gown_row hn, Row.ob_box, gridOb, Ob.isBox, refs_get hn, irefs_glen, Int.toNat_zero, Nat.mul_one, Nat.zero_add, Nat.zero_mul, Nat.add_zero, hn, Int.ofNat_lt, Int.natCast_nonneg, ← hw0]); (repeat refine qJ ?_)))
 (refine WV_cond rfl (fun h => ?_) (fun h => ?_))
 ·simp at h
 refine WV_exit ?_
 simp only [thenQ, inQ, if_true, beq_self_eq_true]
 refine WV_seq_ (WV_seq_ ?_)
 (refine WV_op ?_; simp only [go_sem, hP]; (repeat refine qJ ?_))
 refine WV_nilslot 7 42 31 2 (by decide) (by decide) (by rw [gown_lo (by decide)]; rfl) rfl ?_
 rw [prgO_gown (by decide), gown_upd (by decide)]
 simp only [go_sem]
 refine WV_block ?_
 refine WV_loopS (fun k : Nat => ⟨upd (upd (upd (upd (upd e0 0 (.vw 1 1000 0 R.length cap)) 1 (iv n)) 2 (bv false)) 9 (iv k)) 7 (.gr 42), gown icds 1 R j (upd o0 42 (.grow 31 2 (((List.range k).map fun i => (i, n)).map mcd)))⟩) (fun k => k ≤ R.length) (fun k => R.length - k) 0 (Nat.zero_le _) ?_ ?_
 ·exact Sub_of (by exact EnvLe_au) (ObLe_gown (by exact ObjLe_au))
 ·intro k hk
  (repeat ((first | refine Va ?_ | refine Vb ?_ | refine Vc ?_ | refine Vd ?_ | refine Ve ?_ | refine Vf ?_); (try simp only [go_sem, hP]); (repeat refine qJ ?_)))
  (refine WV_cond rfl (fun h => ?_) (fun h => ?_))
  ·have h : k < R.length := by simpa using h
   have hw2 := w64 (n := (k : Int) + 1) (by omega) (by omega)
   have hlen : (((List.range k).map fun i => (i, n)).map mcd).length = k := by simp
   have hsn : ((List.range (k + 1)).map fun i => (i, n)).map mcd = ((List.range k).map fun i => (i, n)).map mcd ++ [[.int .i64 k, .int .i64 n]] := by
    rw [List.range_succ, List.map_append, List.map_append]; rfl
   have h2 := mcd_two ((List.range k).map fun i => (i, n))
   generalize ((List.range k).map fun i => (i, n)).map mcd = M at hlen hsn h2 ⊢
   (repeat ((first | refine Va ?_ | refine Vb ?_ | refine Vc ?_ | refine Vd ?_ | refine Ve ?_ | refine Vf ?_); (try simp only [go_sem, hP, hw2, hlen, h2, gown_lo, gown_upd, prgO_gown]); (repeat refine qJ ?_)))
   refine ⟨k + 1, by omega, by omega, ?_⟩
   rw [hsn]
   exact Sub_of (by exact EnvLe_au) (ObLe_gown (by exact ObjLe_au))
  ·have h : k = R.length := by simp at h; omega
   subst h
   (repeat ((first | refine Va ?_ | refine Vb ?_ | refine Vc ?_ | refine Vd ?_ | refine Ve ?_ | refine Vf ?_); (try simp only [go_sem, hP, gown_lo]); (repeat refine qJ ?_)))
   (refine WV_ret ?_; simp only [thenQ, inQ, RetQL, RetOkL, resAll, resA]; simp only [go_sem, tupA, AV.keepP, AV.keepPL, gown_lo]; refine ⟨_, gridL icds 1 R j, rfl, KeepL_grid rfl (by omega), ?_⟩)
   exact ⟨by simp [marksC, lineP, gi_len], rfl⟩
theorem line58L {R : List IRow} (h : GOk (gi R)) (n : Nat) (b : Bool) {j cap : Nat} : FSpecL Tryd.prog 58 [.vw 1 1000 0 R.length cap, iv n, bv b] (gridL icds 1 R j) [] (fun r l' => r = .c (marksC (lineP (gi R) n b)) ∧ l' = gridL icds 1 R j) := by
 cases b
 ·exact line58C h n
 ·exact line58R h n
set_option maxHeartbeats 4000000 in
theorem lacks57L {R : List IRow} (hR : GOk (gi R)) (l : List (Nat × Nat)) (hl : l.length ≤ 1000) (hin : ∀ m ∈ l, inG (gi R) m) {j cap : Nat} : FSpecL Tryd.prog 57 [.vw 1 1000 0 R.length cap, .c (marksC l)] (gridL icds 1 R j) [] (fun r l' => r = .tup [iv (lackL (gi R) l), .c (marksC (lostL (gi R) l))] ∧ l' = gridL icds 1 R j) := by
 have hmax : maxLen = 9223372036854775807 := rfl
 have hRl := hR.len
 rw [gi_len] at hRl
 refine enterG c57 (by omega) (Nat.le_refl _) (by decide) (by decide) fun C hP hN hC hL => ?_; rw [init_env']; simp only [ir57, updL, Nat.reduceAdd]
 (repeat ((first | refine Va ?_ | refine Vb ?_ | refine Vc ?_ | refine Vd ?_ | refine Ve ?_ | refine Vf ?_); (try simp only [go_sem, hP, marksC]); (repeat refine qJ ?_)))
 refine WV_nilslot 7 39 31 2 (by decide) (by decide) (by rw [gown_lo (by decide)]; rfl) rfl ?_
 rw [prgO_gown (by decide), gown_upd (by decide)]
 simp only [go_sem]
 refine WV_loopS (fun k : Nat => ⟨upd (upd (upd (upd (upd e0 0 (.vw 1 1000 0 R.length cap)) 1 (.c (.sl 2 (l.map mcd)))) 8 (iv k)) 7 (.gr 39)) 6 (iv (sumL (gi R) (l.take k))), gown icds 1 R j (upd o0 39 (.grow 31 2 ((lostL (gi R) (l.take k)).map mcd)))⟩) (fun k => k ≤ l.length) (fun k => l.length - k) 0 (Nat.zero_le _) ?_ ?_
 ·exact Sub_of (by ((repeat' (first | exact EnvLe_e0 _ _ | refine EnvLe_upd ?_ ?_)) <;> ((try simp only [upd_app, e0_app, o0_app, Nat.reduceEqDiff, reduceIte]); first | exact AWk.refl _ _ | exact AWk.int (by omega) | exact AWk.int (by rw [w64 (by omega) (by omega)]; omega) | exact AWk.grow rfl | exact AWk.nil _ | exact AWk.of (by simp [sumL, lostL])))) (ObLe_gown (by exact ObjLe_au))
 ·intro k hk
  (repeat ((first | refine Va ?_ | refine Vb ?_ | refine Vc ?_ | refine Vd ?_ | refine Ve ?_ | refine Vf ?_); (try simp only [go_sem, hP, List.length_map]); (repeat refine qJ ?_)))
  (refine WV_cond rfl (fun h => ?_) (fun h => ?_))
  ·have h : k < l.length := by simpa using h
   have hw2 := w64 (n := (k : Int) + 1) (by omega) (by omega)
   obtain ⟨i1, i2, i3, i4⟩ := hin _ (List.getElem_mem h)
   have hs0 := sumL_ok (g := gi R) (l := l.take k) fun m hm => hin m (List.mem_of_mem_take hm)
   have htl : (l.take k).length ≤ 1000 := by rw [List.length_take]; omega
   rw [gi_len] at i1
   rw [gi_row i1] at i2
   have hval : ((R[(l[k]).1]).l)[(l[k]).2] = valAt (gi R) l[k] := (gi_at i1 i2).symm
   have hsn := sumL_snoc (gi R) (l.take k) l[k]
   have hln := lostL_snoc (gi R) (l.take k) l[k]
   rw [← List.take_succ_eq_append_getElem h] at hsn hln
   (repeat ((first | refine Va ?_ | refine Vb ?_ | refine Vc ?_ | refine Vd ?_ | refine Ve ?_ | refine Vf ?_); (try simp only [go_sem, hP, gown_grid, gown_row i1, Row.ob_box, gridOb, Ob.isBox, refs_get i1, irefs_glen, Nat.mul_one, Nat.zero_add, Nat.add_zero, Int.toNat_natCast, map_getD h, Int.ofNat_lt, h, Int.natCast_nonneg, mcd, i1, i2, icell i2, icell_lt i2, hval, List.length_map]); (repeat refine qJ ?_)))
   have hll : (lostL (gi R) (l.take k)).length ≤ 1000 := Nat.le_trans (List.length_filter_le _ _) htl
   have h2 := mcd_two (lostL (gi R) (l.take k))
   (refine WV_cond rfl (fun h => ?_) (fun h => ?_))
   ·have hv : valAt (gi R) l[k] = -1 := by simpa using h
    rw [if_pos hv] at hsn hln
    (repeat ((first | refine Va ?_ | refine Vb ?_ | refine Vc ?_ | refine Vd ?_ | refine Ve ?_ | refine Vf ?_); (try simp only [go_sem, hP, gown_lo, gown_upd, prgO_gown, Int.toNat_natCast, map_getD (show k < l.length by assumption), Int.ofNat_lt, (show k < l.length by assumption), Int.natCast_nonneg, mcd, List.length_map, h2, hw2]); (repeat refine qJ ?_)))
    refine ⟨k + 1, by omega, by omega, ?_⟩
    rw [hsn, hln, List.map_append, Int.add_zero]
    exact Sub_of (by exact EnvLe_au) (ObLe_gown (by exact ObjLe_au))
   ·have hv : ¬ valAt (gi R) l[k] = -1 := by simpa using h
    rw [if_neg hv] at hsn hln
    have hw3 := w64 (n := sumL (gi R) (l.take k) + valAt (gi R) l[k]) (by omega) (by omega)
    (repeat ((first | refine Va ?_ | refine Vb ?_ | refine Vc ?_ | refine Vd ?_ | refine Ve ?_ | refine Vf ?_); (try simp only [go_sem, hP, hw2, hw3]); (repeat refine qJ ?_)))
    refine ⟨k + 1, by omega, by omega, ?_⟩
    rw [hsn, hln, List.append_nil]
    exact Sub_of (by exact EnvLe_au) (ObLe_gown (by exact ObjLe_au))
  ·have h : k = l.length := by simp at h; omega
   subst h
   have hs0 := sumL_ok hin
   rw [List.take_length]
   have e : (94 - (sumL (gi R) l).tmod 94).tmod 94 = lackL (gi R) l := by
    unfold lackL
    rw [Int.tmod_eq_emod_of_nonneg hs0.1, Int.tmod_eq_emod_of_nonneg (by omega)]
   have hw3 := w64 (n := 94 - (sumL (gi R) l).tmod 94) (by rw [Int.tmod_eq_emod_of_nonneg hs0.1]; omega) (by rw [Int.tmod_eq_emod_of_nonneg hs0.1]; omega)
   (repeat ((first | refine Va ?_ | refine Vb ?_ | refine Vc ?_ | refine Vd ?_ | refine Ve ?_ | refine Vf ?_); (try simp only [go_sem, hP, hw3, e, gown_lo]); (repeat refine qJ ?_)))
   (refine WV_ret ?_; simp only [thenQ, inQ, RetQL, RetOkL, resAll, resA]; simp only [go_sem, tupA, AV.keepP, AV.keepPL, gown_lo]; refine ⟨_, gridL icds 1 R j, rfl, KeepL_grid rfl (by omega), ?_⟩)
   exact ⟨rfl, rfl⟩
theorem lacksLL {R : List IRow} (h : GOk (gi R)) {n : Nat} {b : Bool} (hn : n < manyL (gi R) b) {j cap : Nat} : FSpecL Tryd.prog 57 [.vw 1 1000 0 R.length cap, .c (marksC (lineP (gi R) n b))] (gridL icds 1 R j) [] (fun r l' => r = .tup [iv (lackL (gi R) (lineP (gi R) n b)), .c (marksC (lostL (gi R) (lineP (gi R) n b)))] ∧ l' = gridL icds 1 R j) := by
 have h1 := h.wd
 have h2 := h.len
 refine lacks57L h _ ?_ (h.inL hn)
 rw [line_len]; split <;> omega
end Go.Proofs.YtlmfdmlochpfcaaDoor

namespace Go.Proofs.YtlmfdmlochpfcaaDoor
open Go Go.V
abbrev o89_0 : List Ins := [⟨(some 2), .mv (.k (.c (.bool false))), none, true⟩]
abbrev o89_1 : List Ins := [⟨(some 3), .mv (.k (.c (.int .i64 0))), none, true⟩]
abbrev o89_2 : List Ins := [⟨(some 7), .mv (.t 3), none, true⟩,
 ⟨(some 8), .mv (.t 0), none, true⟩,
 ⟨(some 9), .len (.t 8), none, true⟩,
 ⟨(some 10), .mv (.t 0), none, true⟩,
 ⟨(some 11), .ia 1 (.t 10) (.k (.c (.int .i64 0))), none, true⟩,
 ⟨(some 12), .ld true 1 (.t 11), none, true⟩,
 ⟨(some 13), .len (.t 12), none, true⟩,
 ⟨(some 14), .bin .add (.t 9) (.t 13), none, true⟩,
 ⟨(some 15), .bin .lss (.t 7) (.t 14), none, true⟩]
abbrev v89_3 : VC := (.cond (.t 15) .skip (.exit 0))
abbrev o89_4 : List Ins := [⟨(some 18), .mv (.t 0), none, true⟩,
 ⟨(some 19), .mv (.t 3), none, true⟩,
 ⟨(some 20), .call (.k (.fn 58 [])) [(.t 18), (.t 19), (.k (.c (.bool true)))], none, true⟩,
 ⟨(some 4), .mv (.t 20), none, true⟩]
abbrev o89_5 : List Ins := [⟨(some 21), .mv (.t 3), none, true⟩,
 ⟨(some 22), .mv (.t 0), none, true⟩,
 ⟨(some 23), .len (.t 22), none, true⟩,
 ⟨(some 24), .bin .geq (.t 21) (.t 23), none, true⟩]
abbrev o89_6 : List Ins := [⟨(some 25), .mv (.t 0), none, true⟩,
 ⟨(some 26), .mv (.t 3), none, true⟩,
 ⟨(some 27), .mv (.t 0), none, true⟩,
 ⟨(some 28), .len (.t 27), none, true⟩,
 ⟨(some 29), .bin .sub (.t 26) (.t 28), none, true⟩,
 ⟨(some 30), .call (.k (.fn 58 [])) [(.t 25), (.t 29), (.k (.c (.bool false)))], none, true⟩,
 ⟨(some 4), .mv (.t 30), none, true⟩]
abbrev v89_7 : VC := (.cond (.t 24) (.ops o89_6) .skip)
abbrev o89_8 : List Ins := [⟨(some 32), .mv (.t 0), none, true⟩,
 ⟨(some 33), .mv (.t 4), none, true⟩,
 ⟨(some 34), .call (.k (.fn 57 [])) [(.t 32), (.t 33)], none, true⟩,
 ⟨(some 31), .mv (.t 34), none, true⟩,
 ⟨(some 35), .ext (.t 31) 0, none, true⟩,
 ⟨(some 36), .ext (.t 31) 1, none, true⟩,
 ⟨(some 5), .mv (.t 35), none, true⟩,
 ⟨(some 6), .mv (.t 36), none, true⟩]
abbrev o89_9 : List Ins := [⟨(some 37), .mv (.t 6), none, true⟩,
 ⟨(some 38), .len (.t 37), none, true⟩,
 ⟨(some 39), .bin .eql (.t 38) (.k (.c (.int .i64 1))), none, true⟩]
abbrev o89_10 : List Ins := [⟨(some 40), .mv (.t 0), none, false⟩,
 ⟨(some 41), .mv (.t 6), none, false⟩,
 ⟨(some 42), .ia 2 (.t 41) (.k (.c (.int .i64 0))), none, false⟩,
 ⟨(some 43), .fa 0 (.t 42), none, false⟩,
 ⟨(some 44), .ld true 1 (.t 43), none, false⟩,
 ⟨(some 45), .ia 1 (.t 40) (.t 44), none, false⟩,
 ⟨(some 46), .ld true 1 (.t 45), none, false⟩,
 ⟨(some 47), .mv (.t 6), none, false⟩,
 ⟨(some 48), .ia 2 (.t 47) (.k (.c (.int .i64 0))), none, false⟩,
 ⟨(some 49), .fa 1 (.t 48), none, false⟩,
 ⟨(some 50), .ld true 1 (.t 49), none, false⟩,
 ⟨(some 51), .mv (.t 5), none, false⟩,
 ⟨(some 52), .ia 1 (.t 46) (.t 50), none, true⟩,
 ⟨none, .st 1 (.t 52) (.t 51), none, true⟩]
abbrev o89_11 : List Ins := [⟨(some 2), .mv (.k (.c (.bool true))), none, true⟩]
abbrev v89_12 : VC := (.seq (.ops o89_11) .ret)
abbrev v89_13 : VC := (.seq (.dops o89_10) v89_12)
abbrev v89_14 : VC := (.cond (.t 39) v89_13 .skip)
abbrev v89_15 : VC := (.seq (.ops o89_9) v89_14)
abbrev v89_16 : VC := (.seq (.ops o89_8) v89_15)
abbrev v89_17 : VC := (.seq (.seq (.ops o89_5) v89_7) v89_16)
abbrev v89_18 : VC := (.seq (.ops o89_4) v89_17)
abbrev o89_19 : List Ins := [⟨(some 16), .mv (.t 3), none, true⟩,
 ⟨(some 17), .bin .add (.t 16) (.k (.c (.int .i64 1))), none, true⟩,
 ⟨(some 3), .mv (.t 17), none, true⟩]
abbrev v89_20 : VC := (.seq (.block 1 v89_18) (.ops o89_19))
abbrev v89_21 : VC := (.seq (.seq (.ops o89_2) v89_3) v89_20)
-- K89_1: changed and kept: [3]
abbrev v89_22 : VC := (.loop v89_21)
abbrev v89_23 : VC := (.block 0 v89_22)
abbrev o89_24 : List Ins := [⟨(some 2), .mv (.k (.c (.bool false))), none, true⟩]
abbrev v89_25 : VC := (.seq (.ops o89_24) .ret)
abbrev v89_26 : VC := (.seq (.seq (.ops o89_1) v89_23) v89_25)
def ir89 : FC := ⟨1, 53, [.t 2], (.seq (.ops o89_0) v89_26)⟩
theorem c89 : compM Tryd.prog [] 89 = some ir89 := by kernel_rfl
attribute [local go_sem] Nat.reduceEqDiff Nat.reduceAdd Nat.reduceMul reduceIte Nat.reduceLeDiff Nat.reduceLT Nat.reduceBEq reduceCtorEq
def putI (R : List IRow) (p : Nat × Nat) (v : Int) : List IRow := if h : p.1 < R.length then R.set p.1 ⟨(R[p.1]).l.set p.2 v, (R[p.1]).j, (R[p.1]).cap⟩ else R
theorem putI_eq {R : List IRow} {p : Nat × Nat} (v : Int) (h : p.1 < R.length) : putI R p v = R.set p.1 ⟨(R[p.1]).l.set p.2 v, (R[p.1]).j, (R[p.1]).cap⟩ := dif_pos h
theorem putI_len (R : List IRow) (p : Nat × Nat) (v : Int) : (putI R p v).length = R.length := by unfold putI; split <;> simp
theorem putI_refs (R : List IRow) (p : Nat × Nat) (v : Int) : refs 1001 1 0 (putI R p v) = refs 1001 1 0 R := by
 unfold putI
 split
 ·rename_i h
  exact refs_set h _ (by simp) rfl
 ·rfl
theorem putI_gi {R : List IRow} {p : Nat × Nat} {v : Int} (h : p.1 < R.length) : gi (putI R p v) = setG (gi R) p v := by
 unfold setG
 rw [gi_row h, putI_eq v h]
 unfold gi
 rw [List.map_set]
theorem gown_putI {R : List IRow} {p : Nat × Nat} {v : Int} (h : p.1 < R.length) (hk : p.2 < (R[p.1]).l.length) (j : Nat) (o : Nat → Ob) : upd (gown icds 1 R j o) (p.1 + 1001) (.box ((cellsG icds (R[p.1]).l (R[p.1]).j).set p.2 (iv v))) = gown icds 1 (putI R p v) j o := by
 have := cellsG_set (cds := icds) icds_one hk (R[p.1]).j 0 (by decide) (.int .i64 v) v rfl
 rw [Nat.mul_one, Nat.add_zero] at this
 rw [this]
 have e : gridOb 1 (putI R p v) j = gridOb 1 R j := by unfold gridOb; rw [putI_refs]
 unfold gown
 rw [e, putI_eq v h]
 exact fam_set h ⟨(R[p.1]).l.set p.2 v, (R[p.1]).j, (R[p.1]).cap⟩
theorem GOk.gow {g : List (List Int)} (h : GOk g) : GOw g.length (wid g) g := ⟨rfl, h.row, h.val⟩
theorem GOw.gok {n w : Nat} {g : List (List Int)} (h : GOw n w g) (hn : 0 < n) (hn2 : n ≤ 41) (hw : w ≤ 32) : GOk g ∧ wid g = w ∧ g.length = n := by
 have hw1 : wid g = w := by unfold wid; exact h.row 0 hn
 refine ⟨⟨by rw [h.len]; exact hn, by rw [h.len]; exact hn2, by rw [hw1]; exact hw, fun i hi => by rw [hw1]; exact h.row i (by rw [← h.len]; exact hi), fun i k hi hk => h.val i k (by rw [← h.len]; exact hi) (by rw [← hw1]; exact hk)⟩, hw1, h.len⟩
theorem allP_get (n w i : Nat) (h : i < (allP n w).length) : (allP n w)[i] = if i < n then posL n w i true else posL n w (i - n) false := by
 by_cases hi : i < n
 ·rw [if_pos hi]
  simp [allP, List.getElem_append, hi]
 ·rw [if_neg hi]
  simp [allP, List.getElem_append, hi]
theorem line_pos (g : List (List Int)) (i : Nat) (b : Bool) : lineP g i b = posL g.length (wid g) i b := rfl
def StepR (R : List IRow) (r : AV) (R' : List IRow) : Prop := R'.length = R.length ∧ match stepG R.length (wid (gi R)) (gi R) with
 | some g' => r = bv true ∧ gi R' = g'
 | none => r = bv false ∧ R' = R
theorem find_none_take {α : Type} {p : α → Bool} {l : List α} (h : ∀ k (hk : k < l.length), p l[k] = false) : l.find? p = none := by
 rw [List.find?_eq_none]
 intro x hx
 obtain ⟨k, hk, rfl⟩ := List.getElem_of_mem hx
 rw [h k hk]; simp
theorem find_at {α : Type} {p : α → Bool} : ∀ {l : List α} {i : Nat} (hi : i < l.length), (∀ k (hk : k < l.length), k < i → p l[k] = false) → p l[i] = true → l.find? p = some l[i]
 | x :: l, 0, _, _, hp => by simp only [List.getElem_cons_zero] at hp ⊢; simp [hp]
 | x :: l, i + 1, hi, hno, hp => by
  have h0 := hno 0 (by simp) (by omega)
  simp only [List.getElem_cons_zero] at h0
  simp only [List.getElem_cons_succ] at hp ⊢
  rw [List.find?_cons_of_neg (by rw [h0]; simp)]
  exact find_at (by simpa using hi) (fun k hk hki => by have := hno (k + 1) (by simpa using hk) (by omega); simpa using this) hp
set_option maxRecDepth 20000 in
set_option maxHeartbeats 8000000 in
theorem step89 {R : List IRow} (h : GOk (gi R)) {j cap : Nat} : FSpecL Tryd.prog 89 [.vw 1 1000 0 R.length cap] (gridL icds 1 R j) [] (fun r l' => ∃ R', StepR R r R' ∧ l' = gridL icds 1 R' j) := by
 have hmax : maxLen = 9223372036854775807 := rfl
 have hn : 0 < R.length := by have := h.pos; rwa [gi_len] at this
 have hl := h.len
 rw [gi_len] at hl
 have hw := h.wd
 have hw0 := gi_wid hn
 have hlp : ∀ i b, lineP (gi R) i b = posL R.length (wid (gi R)) i b := fun i b => by rw [line_pos, gi_len]
 have hal := allP_len R.length (wid (gi R))
 have hal2 : (allP R.length (wid (gi R))).length = R.length + wid (gi R) := hal
 refine enterG c89 (by omega) (Nat.le_refl _) (by decide) (by decide) fun C hP hN hC hL => ?_; rw [init_env']; simp only [ir89, updL, Nat.reduceAdd]
 (repeat ((first | refine Va ?_ | refine Vb ?_ | refine Vc ?_ | refine Vd ?_ | refine Ve ?_ | refine Vf ?_); (try simp only [go_sem, hP]); (repeat refine qJ ?_)))
 refine WV_loopS (fun i : Nat => ⟨upd (upd e0 0 (.vw 1 1000 0 R.length cap)) 3 (iv i), gown icds 1 R j o0⟩) (fun i => i ≤ R.length + wid (gi R) ∧ ∀ k (hk : k < (allP R.length (wid (gi R))).length), k < i → oneL (gi R) (allP R.length (wid (gi R)))[k] = false) (fun i => R.length + wid (gi R) - i) 0 ⟨Nat.zero_le _, fun k _ hk => by omega⟩ ?_ ?_
 ·exact Sub_of (by exact EnvLe_au) (ObLe_gown (by exact ObjLe_au))
 ·intro i ⟨hi0, hno⟩
  have hws := w64 (n := ((R.length : Nat) : Int) + ((wid (gi R) : Nat) : Int)) (by omega) (by omega)
  (repeat ((first | refine Va ?_ | refine Vb ?_ | refine Vc ?_ | refine Vd ?_ | refine Ve ?_ | refine Vf ?_); (try simp only [go_sem, hP, gown_grid, gown_row hn, Row.ob_box, gridOb, Ob.isBox, refs_get hn, irefs_glen, Int.toNat_zero, Nat.mul_one, Nat.zero_add, Nat.zero_mul, Nat.add_zero, hn, Int.ofNat_lt, Int.natCast_nonneg, ← hw0, hws]); (repeat refine qJ ?_)))
  (refine WV_cond rfl (fun h => ?_) (fun h => ?_))
  ·have hi : i < R.length + wid (gi R) := by simp at h; omega
   have hw2 := w64 (n := (i : Int) + 1) (by omega) (by omega)
   have hget := allP_get R.length (wid (gi R)) i (by omega)
   have hG : GOk (gi R) := by assumption
   -- behind the choice of the line
   have tail : ∀ (b : Bool) (m : Nat), (allP R.length (wid (gi R)))[i]'(by omega) = lineP (gi R) m b → m < manyL (gi R) b →
     WV C v89_16 (inQ 1 (thenQ (WV C (.ops o89_19) (thenQ (fun σ' => ∃ i', (i' ≤ R.length + wid (gi R) ∧ ∀ k (hk : k < (allP R.length (wid (gi R))).length), k < i' → oneL (gi R) (allP R.length (wid (gi R)))[k] = false) ∧ R.length + wid (gi R) - i' < R.length + wid (gi R) - i ∧ Sub σ' ⟨upd (upd e0 0 (.vw 1 1000 0 R.length cap)) 3 (iv i'), gown icds 1 R j o0⟩) (inQ 0 (thenQ (WV C v89_25 (RetQL [.t 2] (gridL icds 1 R j) [] (fun r l' => ∃ R', StepR R r R' ∧ l' = gridL icds 1 R' j))) (RetQL [.t 2] (gridL icds 1 R j) [] (fun r l' => ∃ R', StepR R r R' ∧ l' = gridL icds 1 R' j))))))
      (thenQ (fun σ' => ∃ i', (i' ≤ R.length + wid (gi R) ∧ ∀ k (hk : k < (allP R.length (wid (gi R))).length), k < i' → oneL (gi R) (allP R.length (wid (gi R)))[k] = false) ∧ R.length + wid (gi R) - i' < R.length + wid (gi R) - i ∧ Sub σ' ⟨upd (upd e0 0 (.vw 1 1000 0 R.length cap)) 3 (iv i'), gown icds 1 R j o0⟩) (inQ 0 (thenQ (WV C v89_25 (RetQL [.t 2] (gridL icds 1 R j) [] (fun r l' => ∃ R', StepR R r R' ∧ l' = gridL icds 1 R' j))) (RetQL [.t 2] (gridL icds 1 R j) [] (fun r l' => ∃ R', StepR R r R' ∧ l' = gridL icds 1 R' j)))))))
      (⟨upd (upd (upd e0 0 (.vw 1 1000 0 R.length cap)) 3 (iv i)) 4 (.c (marksC (lineP (gi R) m b))), gown icds 1 R j o0⟩ : V.St) := by
    intro b m hlm hm
    (repeat ((first | refine Va ?_ | refine Vb ?_ | refine Vc ?_ | refine Vd ?_ | refine Ve ?_ | refine Vf ?_); (try simp only [go_sem, hP]); (repeat refine qJ ?_)))
    (refine AS_grid (lacksLL (j := j) (cap := cap) hG hm) rfl rfl rfl (by simp only [List.map_cons, List.map_nil, List.append_nil]; simp only [go_sem, AV.lendL, lend_grid, AV.lend]) ?_; rintro r l' ⟨rfl, rfl⟩; refine ⟨R, rfl, rfl, rfl, ?_⟩; simp only [go_sem, hP, marksC, List.length_map]; (repeat refine qJ ?_); (repeat ((first | refine Va ?_ | refine Vb ?_ | refine Vc ?_ | refine Vd ?_ | refine Ve ?_ | refine Vf ?_); (try simp only [go_sem, hP, marksC, List.length_map]); (repeat refine qJ ?_))))
    have hii : i < (allP R.length (wid (gi R))).length := by omega
    by_cases h1 : oneL (gi R) (lineP (gi R) m b) = true
    ·have hfd := find_at (p := oneL (gi R)) hii hno (by rw [hlm]; exact h1)
     obtain ⟨A, p, B, e, _, _, hp, hlo⟩ := lost_one (g := gi R) (ps := lineP (gi R) m b) (by unfold oneL at h1; simpa using h1)
     have hpin := hG.inL hm p (by rw [e]; simp)
     obtain ⟨p1, p2, _, _⟩ := hpin
     rw [gi_len] at p1
     rw [gi_row p1] at p2
     have hst : stepG R.length (wid (gi R)) (gi R) = some (setG (gi R) p (lackL (gi R) (lineP (gi R) m b))) := by
      unfold stepG
      rw [hfd, hlm]
      simp only [hlo]; rfl
     have hput : ∀ o, upd (gown icds 1 R j o) (p.1 + 1001) (.box ((cellsG icds (R[p.1]).l (R[p.1]).j).set p.2 (iv (lackL (gi R) (lineP (gi R) m b))))) = gown icds 1 (putI R p (lackL (gi R) (lineP (gi R) m b))) j o := fun o => gown_putI p1 p2 j o
     have hcl := icell_lt p2 (R[p.1]).j
     rw [hlo]
     (refine WV_cond rfl (fun h => ?_) (fun h => ?_))
     ·refine WV_seq_ ?_
      (refine WV_op ?_; simp only [go_sem, hP, gown_grid, gown_row p1, Row.ob_box, gridOb, Ob.isBox, refs_get p1, irefs_glen, Nat.mul_one, Nat.zero_add, Nat.add_zero, Int.toNat_natCast, Int.toNat_zero, Int.ofNat_lt, Int.natCast_nonneg, mcd, p1, p2, hcl, hput, List.length_map, List.map_cons, List.map_nil, List.getD_cons_zero, List.length_cons, List.length_nil]; (repeat refine qJ ?_))
      (repeat ((first | refine Va ?_ | refine Vb ?_ | refine Vc ?_ | refine Vd ?_ | refine Ve ?_ | refine Vf ?_); (try simp only [go_sem, hP, gown_lo]); (repeat refine qJ ?_)))
      refine WV_ret ?_
      simp only [thenQ, inQ, RetQL, RetOkL, resAll, resA]
      simp only [go_sem, tupA, AV.keepP, AV.keepPL, gown_lo]
      refine ⟨_, gridL icds 1 (putI R p (lackL (gi R) (lineP (gi R) m b))) j, rfl, KeepL_grid (putI_len _ _ _) (by omega), putI R p (lackL (gi R) (lineP (gi R) m b)), ⟨putI_len _ _ _, ?_⟩, rfl⟩
      rw [hst]
      exact ⟨rfl, putI_gi p1⟩
     ·simp at h
    ·have h1' : oneL (gi R) (lineP (gi R) m b) = false := by simpa using h1
     have hlne : (lostL (gi R) (lineP (gi R) m b)).length ≠ 1 := by unfold oneL at h1'; simpa using h1'
     (refine WV_cond rfl (fun h => ?_) (fun h => ?_))
     ·simp at h; omega
     ·(repeat ((first | refine Va ?_ | refine Vb ?_ | refine Vc ?_ | refine Vd ?_ | refine Ve ?_ | refine Vf ?_); (try simp only [go_sem, hP, hw2]); (repeat refine qJ ?_)))
      refine ⟨i + 1, ⟨by omega, fun k hk hki => ?_⟩, by omega, ?_⟩
      ·by_cases hk2 : k = i
       ·subst hk2; rw [hlm]; exact h1'
       ·exact hno k hk (by omega)
      ·exact Sub_of (by exact EnvLe_au) (ObLe_gown (by exact ObjLe_au))
   (refine WV_skip ?_; simp only [go_sem])
   refine WV_seq_ (WV_block (WV_seq_ ?_))
   (refine WV_op ?_; simp only [go_sem, hP]; (repeat refine qJ ?_))
   refine AS_grid (line58L (j := j) (cap := cap) hG i true) rfl rfl rfl (by simp only [List.map_cons, List.map_nil, List.append_nil]; simp only [go_sem, AV.lendL, lend_grid, AV.lend]) ?_
   rintro r l' ⟨rfl, rfl⟩
   refine ⟨R, rfl, rfl, rfl, ?_⟩
   simp only [go_sem]
   refine WV_seq_ (WV_seq_ ?_)
   (refine WV_op ?_; simp only [go_sem, hP]; (repeat refine qJ ?_))
   by_cases hin : i < R.length
   ·rw [if_pos hin] at hget
    (refine WV_cond rfl (fun h => ?_) (fun h => ?_))
    ·simp at h; omega
    ·refine WV_skip ?_
     refine WV_sub ?_ (tail true i (by rw [hget, hlp]) (by unfold manyL; rw [if_pos rfl, gi_len]; exact hin))
     exact Sub_of (by simp only [go_sem]; exact EnvLe_au) (ObLe_gown (by exact ObjLe_au))
   ·rw [if_neg hin] at hget
    have hws3 : IntKind.i64.wrap ((i : Int) - (R.length : Int)) = ((i - R.length : Nat) : Int) := by rw [w64 (by omega) (by omega)]; omega
    (refine WV_cond rfl (fun h => ?_) (fun h => ?_))
    ·(refine WV_op ?_; simp only [go_sem, hP, hws3]; (repeat refine qJ ?_))
     refine AS_grid (line58L (j := j) (cap := cap) hG (i - R.length) false) rfl rfl rfl (by simp only [List.map_cons, List.map_nil, List.append_nil]; simp only [go_sem, AV.lendL, lend_grid, AV.lend, hws3]) ?_
     rintro r l' ⟨rfl, rfl⟩
     refine ⟨R, rfl, rfl, rfl, ?_⟩
     simp only [go_sem]
     refine WV_sub ?_ (tail false (i - R.length) (by rw [hget, hlp]) (by unfold manyL; rw [if_neg (by decide)]; omega))
     exact Sub_of (by simp only [go_sem]; exact EnvLe_au) (ObLe_gown (by exact ObjLe_au))
    ·simp at h; omega
  ·have hi : i = R.length + wid (gi R) := by simp at h; omega
   subst hi
   have hst : stepG R.length (wid (gi R)) (gi R) = none := by
    unfold stepG
    rw [find_none_take fun k hk => hno k hk (by omega)]
   (repeat ((first | refine Va ?_ | refine Vb ?_ | refine Vc ?_ | refine Vd ?_ | refine Ve ?_ | refine Vf ?_); (try simp only [go_sem, hP, gown_lo]); (repeat refine qJ ?_)))
   refine WV_ret ?_
   simp only [thenQ, inQ, RetQL, RetOkL, resAll, resA]
   simp only [go_sem, tupA, AV.keepP, AV.keepPL, gown_lo]
   refine ⟨_, gridL icds 1 R j, rfl, KeepL_grid rfl (by omega), R, ⟨rfl, ?_⟩, rfl⟩
   rw [hst]
   exact ⟨rfl, rfl⟩
end Go.Proofs.YtlmfdmlochpfcaaDoor

namespace Go.Proofs.YtlmfdmlochpfcaaDoor
open Go Go.V
abbrev o88_0 : List Ins := [⟨(some 2), .mv (.k (.c (.raw (.slice none 0 0)))), none, true⟩]
abbrev o88_1 : List Ins := [⟨(some 3), .mv (.k (.c (.raw (.slice none 0 0)))), none, true⟩]
abbrev o88_2 : List Ins := [⟨(some 4), .mv (.k (.c (.int .i64 0))), none, true⟩]
abbrev o88_3 : List Ins := [⟨(some 5), .mv (.t 4), none, true⟩,
 ⟨(some 6), .mv (.t 0), none, true⟩,
 ⟨(some 7), .len (.t 6), none, true⟩,
 ⟨(some 8), .bin .lss (.t 5) (.t 7), none, true⟩]
abbrev v88_4 : VC := (.cond (.t 8) .skip (.exit 0))
abbrev o88_5 : List Ins := [⟨(some 11), .mv (.t 3), none, true⟩,
 ⟨(some 12), .bsl 3 1 [], none, true⟩,
 ⟨(some 13), .mv (.t 0), none, true⟩,
 ⟨(some 14), .mv (.t 4), none, true⟩,
 ⟨(some 15), .ia 1 (.t 13) (.t 14), none, true⟩,
 ⟨(some 16), .ld true 1 (.t 15), none, true⟩,
 ⟨(some 17), .appv 3 1 8 (.t 12) (.t 16), none, true⟩,
 ⟨(some 18), .bslv 50 1 [(.t 17)], none, true⟩,
 ⟨(some 19), .appv 50 1 24 (.t 11) (.t 18), none, true⟩,
 ⟨(some 3), .mv (.t 19), none, true⟩]
abbrev o88_6 : List Ins := [⟨(some 9), .mv (.t 4), none, true⟩,
 ⟨(some 10), .bin .add (.t 9) (.k (.c (.int .i64 1))), none, true⟩,
 ⟨(some 4), .mv (.t 10), none, true⟩]
abbrev v88_7 : VC := (.seq (.block 1 (.ops o88_5)) (.ops o88_6))
abbrev v88_8 : VC := (.seq (.seq (.ops o88_3) v88_4) v88_7)
-- K88_1: changed and kept: [4, 3]
abbrev v88_9 : VC := (.loop v88_8)
abbrev v88_10 : VC := (.block 0 v88_9)
abbrev o88_11 : List Ins := [⟨(some 20), .mv (.t 3), none, true⟩,
 ⟨(some 2), .mv (.t 20), none, true⟩]
abbrev v88_12 : VC := (.seq (.ops o88_11) .ret)
abbrev v88_13 : VC := (.seq (.seq (.ops o88_2) v88_10) v88_12)
abbrev v88_14 : VC := (.seq (.ops o88_1) v88_13)
def ir88 : FC := ⟨1, 21, [.t 2], (.seq (.ops o88_0) v88_14)⟩
theorem c88 : compM Tryd.prog [100017,100018,100019] 88 = some ir88 := by kernel_rfl
abbrev o66_0 : List Ins := [⟨(some 2), .mv (.k (.c (.raw (.slice none 0 0)))), none, true⟩]
abbrev o66_1 : List Ins := [⟨(some 4), .mv (.t 0), none, true⟩,
 ⟨(some 5), .call (.k (.fn 88 [])) [(.t 4)], none, true⟩,
 ⟨(some 3), .mv (.t 5), none, true⟩]
abbrev o66_2 : List Ins := [⟨(some 6), .mv (.t 3), none, true⟩,
 ⟨(some 7), .call (.k (.fn 89 [])) [(.t 6)], none, true⟩]
abbrev v66_3 : VC := (.cond (.t 7) .skip (.exit 0))
abbrev v66_4 : VC := (.block 1 .skip)
abbrev v66_5 : VC := (.seq (.seq (.ops o66_2) v66_3) v66_4)
-- K66_1: changed and kept: []
abbrev v66_6 : VC := (.loop v66_5)
abbrev o66_7 : List Ins := [⟨(some 8), .mv (.t 3), none, true⟩,
 ⟨(some 2), .mv (.t 8), none, true⟩]
abbrev v66_8 : VC := (.seq (.ops o66_7) .ret)
abbrev v66_9 : VC := (.seq (.block 0 v66_6) v66_8)
abbrev v66_10 : VC := (.seq (.ops o66_1) v66_9)
def ir66 : FC := ⟨1, 9, [.t 2], (.seq (.ops o66_0) v66_10)⟩
theorem c66 : compM Tryd.prog [] 66 = some ir66 := by kernel_rfl
attribute [local go_sem] Nat.reduceEqDiff Nat.reduceAdd Nat.reduceMul reduceIte Nat.reduceLeDiff Nat.reduceLT Nat.reduceBEq reduceCtorEq
def CopyP (g : List (List Int)) (r : AV) (os : List Ob) : Prop := ∃ (R : List IRow) (j cap : Nat), gi R = g ∧ R.length ≤ cap ∧ cap ≤ maxLen ∧ r = .vw 1 1000 0 R.length cap ∧ os = gridL icds 1 R j
theorem icells_map (l : List Int) (j : Nat) : (l.map fun n => [CD.int .i64 n]).flatten.map AV.c ++ List.replicate j .non = cellsG icds l j := rfl
theorem ints_all (l : List Int) : ((l.map fun n => [CD.int .i64 n]).all fun e => e.length == 1) = true := by
 rw [List.all_eq_true]; intro e he; obtain ⟨n, _, rfl⟩ := List.mem_map.1 he; rfl
set_option maxRecDepth 20000 in
set_option maxHeartbeats 8000000 in
theorem copied88 {g : List (List Int)} (h : GOk g) (hw : 0 < wid g) : FSpecN Tryd.prog 88 [.c (gridC g)] (CopyP g) := by
 have hmax : maxLen = 9223372036854775807 := rfl
 have hl := h.len
 have hwd := h.wd
 have hpos := h.pos
 refine FSpecN_ofP c88 (Nat.le_refl _) (by decide) fun C hP hN hC hpin hL => ?_; rw [init_st]
 simp only [ir88, gridC]
 (repeat ((first | refine Va ?_ | refine Vb ?_ | refine Vc ?_ | refine Vd ?_ | refine Ve ?_ | refine Vf ?_); (try simp only [go_sem, hP]); (repeat refine qJ ?_)))
 refine WV_loopS (fun p : List IRow × AV × Ob => ⟨upd (upd (upd e0 0 (.c (.sl 1 (g.map fun l => [rowC l])))) 4 (iv p.1.length)) 3 p.2.1, fam 1001 icds p.1 (upd o0 19 p.2.2)⟩) (fun p => p.1.length ≤ g.length ∧ gi p.1 = g.take p.1.length ∧ GrowG 1001 19 p.1 p.2.1 p.2.2) (fun p => g.length - p.1.length) ([], .c (.raw (.slice none 0 0)), .none) ⟨Nat.zero_le _, rfl, GrowG.nil _ _⟩ ?_ ?_
 ·refine Sub_of (by exact EnvLe_au) ?_
  rw [fam_nil]
  exact ObjLe_au
 ·rintro ⟨R, y, x⟩ ⟨hr0, hrl, hg⟩
  simp only at hr0 hrl hg ⊢
  (repeat ((first | refine Va ?_ | refine Vb ?_ | refine Vc ?_ | refine Vd ?_ | refine Ve ?_ | refine Vf ?_); (try simp only [go_sem, hP, List.length_map]); (repeat refine qJ ?_)))
  have hyd := hg.dg.1
  have hyv := hg.dg.2
  obtain ⟨o1, ho1⟩ : ∃ o1, o1 = upd o0 19 x := ⟨_, rfl⟩
  have gp : ∀ d, d ≠ 19 → d < 1001 → AV.prg d y = y ∧ Ob.prg d x = x := fun d h1 h2 => hg.prg h1 h2
  have gq : ∀ d, d ≠ 19 → d < 1001 → prgO d o1 = o1 := fun d h1 h2 => by rw [ho1, prgO_upd, prgO_o0, (gp d h1 h2).2]
  have gz : ∀ d, d ≠ 19 → o1 d = .none := fun d h1 => by rw [ho1, upd_app, if_neg h1]; rfl
  have p12 := gp 12 (by decide) (by decide)
  have q12 := gq 12 (by decide) (by decide)
  have z12 := gz 12 (by decide)
  have p17 := gp 17 (by decide) (by decide)
  have q17 := gq 17 (by decide) (by decide)
  have z17 := gz 17 (by decide)
  rw [← ho1]
  (refine WV_cond rfl (fun h => ?_) (fun h => ?_))
  ·have hk : R.length < g.length := by simpa using h
   have hw2 := w64 (n := (R.length : Int) + 1) (by omega) (by omega)
   have hgl : (g[R.length]).length = wid g := by
    have := GOk.row (by assumption) R.length hk
    rw [List.getD_eq_getElem?_getD, List.getElem?_eq_getElem hk] at this
    exact this
   have hk0 : ((g[R.length]).length = 0) = False := by simp only [eq_iff_iff, iff_false]; omega
   have hia := ints_all g[R.length]
   (refine WV_skip ?_; simp only [go_sem])
   refine WV_seq_ (WV_block ?_)
   (refine WV_split 7 ?_; simp only [List.take_succ_cons, List.take_zero, List.take_nil, List.drop_succ_cons, List.drop_zero, List.drop_nil]; simp only [go_sem, hP, map_getD hk, Int.toNat_natCast, Int.ofNat_lt, hk, Int.natCast_nonneg, List.length_map, fam_lo, fam_upd, prgO_fam, p12, q12, z12, p17, q17, z17, hyd, hyv, rowC, hk0, hia]; (repeat refine qJ ?_))
   refine ⟨hyd, by omega, by omega, ?_⟩
   intro cap j q1 q2 q3
   rw [icells_map, prg_cellsG]
   refine SOps_addrow (cds := icds) (b := 1001) (D := 19) (E := 17) (B := 18) (tr := 17) (tg := 11) (R := R) (l := g[R.length]) (j := j) (cap := cap) (y := y) (x := x) [0, 4] hpin (by decide) (by decide) (by decide) (by decide) (by decide) (by decide) rfl (by show AV.prg 17 (AV.prg 12 y.dv) = y; rw [hyv, p12.1, p17.1]) (by decide) hg ?_ (by omega) (by decide) (by rfl) hg.any ?_
   ·rw [ho1]
    refine ObjLe_fam fun n => ?_
    by_cases e17 : n = 17
    ·subst e17; left; simp [upd_app]
    by_cases e19 : n = 19
    ·subst e19; left; simp [upd_app]
    right; simp [upd_app, e17, e19, o0_app]
   intro c4 j4 v1 v2 v3
   refine SOps_ops ?_
   simp only [go_sem, keepE]
   (repeat ((first | refine Va ?_ | refine Vb ?_ | refine Vc ?_ | refine Vd ?_ | refine Ve ?_ | refine Vf ?_); (try simp only [go_sem, hP, hw2]); (repeat refine qJ ?_)))
   have hrl2 : (R ++ [(⟨g[R.length], j, cap⟩ : IRow)]).length = R.length + 1 := by simp
   refine ⟨(R ++ [⟨g[R.length], j, cap⟩], .vw 1 19 0 (R.length + 1) c4, .box (refs 1001 1 0 (R ++ [⟨g[R.length], j, cap⟩]) ++ List.replicate j4 .non)), ⟨by simp only [hrl2]; omega, ?_, ?_⟩, by simp only [hrl2]; omega, ?_⟩
   ·simp only [hrl2]
    unfold gi at hrl ⊢
    rw [List.map_append, hrl, List.take_succ_eq_append_getElem hk]; rfl
   ·rw [← hrl2]
    exact GrowG.some (by simp) (by rw [hrl2]; exact v1) v2 (by rw [hrl2]; omega)
   ·simp only [hrl2]
    refine Sub_of ?_ (ObjLe.rfl' _)
    exact EnvLe_au
  ·have hk : R.length = g.length := by simp at h; omega
   rw [hk, List.take_length] at hrl
   obtain ⟨cap, j, c1, c2, c3, rfl, rfl⟩ : ∃ cap j, R.length ≤ cap ∧ cap ≤ maxLen ∧ cap ≤ R.length + j ∧ y = .vw 1 19 0 R.length cap ∧ x = .box (refs 1001 1 0 R ++ List.replicate j .non) := by
    rcases hg with ⟨rfl, _, _⟩ | ⟨_, h⟩
    ·simp at hk; omega
    ·exact h
   refine WV_exit ?_
   simp only [thenQ, inQ, reduceIte, beq_self_eq_true]
   rw [ho1]
   refine WV_grown (t := 3) [0] (by decide) hpin rfl rfl ?_
   simp only [go_sem, keepE]
   (repeat ((first | refine Va ?_ | refine Vb ?_ | refine Vc ?_ | refine Vd ?_ | refine Ve ?_ | refine Vf ?_); (try simp only [go_sem, hP]); (repeat refine qJ ?_)))
   refine WV_ret ?_
   simp only [thenQ, inQ, RetQN]
   refine retG_ok (R := R) (j := j) (q := True) (vs := [.vw 1 1000 0 R.length cap]) (r := .vw 1 1000 0 R.length cap) (by omega) ?_ trivial ?_ ?_
   ·simp only [resAll, resA]
    simp only [go_sem]
   ·simp only [tupA]
    exact lend_grid
   ·exact ⟨R, j, cap, hrl, c1, c2, rfl, rfl⟩
set_option maxRecDepth 20000 in
set_option maxHeartbeats 8000000 in
theorem restored66 {g : List (List Int)} (h : GOk g) (hw : 0 < wid g) : FSpec Tryd.prog 66 [.c (gridC g)] (.c (gridC (restG g.length (wid g) g))) := by
 have hmax : maxLen = 9223372036854775807 := rfl
 have hl := h.len
 have hwd := h.wd
 have hpos := h.pos
 have hcp := copied88 h hw
 refine FSpec_ofP c66 (Nat.le_refl _) (by decide) fun C hP hN hC hpin hL => ?_; rw [init_st]
 simp only [ir66]
 refine WV_seq_ ?_
 (refine WV_op ?_; simp only [go_sem, hP]; (repeat refine qJ ?_))
 refine WV_seq_ ?_
 (refine WV_split 1 ?_; simp only [List.take_succ_cons, List.take_zero, List.take_nil, List.drop_succ_cons, List.drop_zero, List.drop_nil]; simp only [go_sem, hP]; (repeat refine qJ ?_))
 rw [← hP] at hcp
 refine SOps_newG (cds := icds) hcp hpin rfl rfl rfl rfl (fun n hn => ?_) (fun n hn => ?_) (fun r os hp => .inr ?_)
 ·obtain ⟨k, rfl⟩ : ∃ k, n = k + 1000 := ⟨n - 1000, by omega⟩
  simp only [prgE_upd', prgE_e0, AV.prg]
 ·exact ⟨prgO_o0 _, rfl⟩
 obtain ⟨R, j, cap, hR, c1, c2, rfl, rfl⟩ := hp
 refine ⟨R, j, _, rfl, back_vw, ?_⟩
 (refine SOps_ops ?_; simp only [go_sem, hP]; (repeat refine qJ ?_))
 have hRl : R.length = g.length := by rw [← hR, gi_len]
 rw [← hR] at h hw
 have hgw := h.gow
 have hw32 := h.wd
 have h0 := gi_wid (R := R) (by omega)
 rw [gi_len] at hgw
 have hres : restG g.length (wid g) g = restG R.length (wid (gi R)) (gi R) := by rw [← hR, gi_len]
 rw [hres]
 generalize wid (gi R) = w at hgw hw hw32
 refine WV_seq_ (WV_block ?_)
 refine WV_loopS (fun S : List IRow => ⟨upd e0 3 (.vw 1 1000 0 R.length cap), gown icds 1 S j o0⟩) (fun S => S.length = R.length ∧ GOw R.length w (gi S) ∧ restG R.length w (gi S) = restG R.length w (gi R)) (fun S => nlost (gi S)) R ⟨rfl, hgw, rfl⟩ ?_ ?_
 ·exact Sub_of (by exact EnvLe_au) (ObLe_gown (by exact ObjLe_au))
 ·rintro S ⟨s1, s2, s3⟩
  obtain ⟨g1, g2, g3⟩ := s2.gok (by omega) (by omega) hw32
  have hst := step89 g1 (j := j) (cap := cap)
  rw [s1] at hst
  refine WV_seq_ (WV_seq_ ?_)
  (refine WV_op ?_; simp only [go_sem, hP]; (repeat refine qJ ?_))
  refine AS_grid hst rfl rfl rfl (by simp only [List.map_cons, List.map_nil, List.append_nil]; simp only [go_sem, AV.lendL, lend_grid, AV.lend]) ?_
  rintro r l' ⟨S', ⟨t1, t2⟩, rfl⟩
  rw [g2, s1] at t2
  cases hsg : stepG R.length w (gi S) with
  | some g' =>
   rw [hsg] at t2
   obtain ⟨rfl, t3⟩ := t2
   obtain ⟨_, _, _, _, _, _, _, _, u1, u2⟩ := stepG_some s2 hsg
   refine ⟨S', t1, rfl, rfl, ?_⟩
   simp only [go_sem]
   (refine WV_cond rfl (fun h => ?_) (fun h => ?_))
   ·(repeat ((first | refine Va ?_ | refine Vb ?_ | refine Vc ?_ | refine Vd ?_ | refine Ve ?_ | refine Vf ?_); (try simp only [go_sem, hP]); (repeat refine qJ ?_)))
    refine ⟨S', ⟨t1.trans s1, by rw [t3]; exact u1, by rw [t3, ← s3, restG_step s2 hsg]⟩, by rw [t3]; omega, ?_⟩
    exact Sub_of (by exact EnvLe_au) (ObLe_gown (by exact ObjLe_au))
   ·simp at h
  | none =>
   rw [hsg] at t2
   obtain ⟨rfl, t2⟩ := t2
   subst t2
   refine ⟨_, rfl, rfl, rfl, ?_⟩
   simp only [go_sem]
   (refine WV_cond rfl (fun h => ?_) (fun h => ?_))
   ·simp at h
   ·refine WV_exit ?_
    simp only [thenQ, inQ, reduceIte, beq_self_eq_true]
    rw [← s3, restG_end hsg]
    rw [← s1]
    refine WV_keep [3] ?_
    simp only [go_sem]
    refine WV_frzGridG icds_one (fun n ds hn => ?_) (fun n ds hn => frzO_o0 _ _) ?_
    ·have hn3 : ¬ (1000 : Nat) = n := by omega
     simp only [go_sem, AV.frz]
     simp only [hn3, if_false]
    simp only [frzE_upd, frzE_e0, frz_gridG]
    (repeat ((first | refine Va ?_ | refine Vb ?_ | refine Vc ?_ | refine Vd ?_ | refine Ve ?_ | refine Vf ?_); (try simp only [go_sem, hP]); (repeat refine qJ ?_)))
    (refine WV_ret ?_; simp only [thenQ, inQ, RetQ, RetOk, resAll, resA]; simp only [go_sem, tupA, AV.port, AV.portL, exists_eq_left'])
    refine AVle.of ?_
    unfold gridC gi rowC icds
    rw [List.map_map]; rfl
end Go.Proofs.YtlmfdmlochpfcaaDoor

namespace Go.Proofs.YtlmfdmlochpfcaaDoor
open Go Go.V
theorem okB_iff {b : UInt8} : okB b = true ↔ BOk b := by
 refine ⟨okB_ok, fun h => ?_⟩
 unfold BOk at h
 unfold okB valB
 simp only [Bool.or_eq_true, decide_eq_true_eq]
 by_cases h63 : b.toNat = 63
 ·exact .inl h63
 ·right
  rw [if_neg (by omega)]
  split <;> omega
theorem valR_iff {b : UInt8} : (valR b).2 = true ↔ BOk b := by
 constructor
 ·intro h
  unfold valR at h
  unfold BOk
  split at h
  ·cases h
  ·omega
 ·intro h
  rw [vq_R h]
theorem segB_nl (b : UInt8) : ∀ (s : List UInt8), ∀ l ∈ segB b s, b ∉ l
 | [], l, hl => by
  simp only [segB, List.mem_singleton] at hl
  subst hl; simp
 | y :: s, l, hl => by
  have ih := segB_nl b s
  unfold segB at hl
  split at hl
  ·rcases List.mem_cons.1 hl with rfl | hl
   ·simp
   ·exact ih l hl
  ·rename_i hyb
   split at hl
   ·rename_i h t he
    rw [he] at ih
    rcases List.mem_cons.1 hl with rfl | hl
    ·intro hm
     rcases List.mem_cons.1 hm with rfl | hm
     ·simp at hyb
     ·exact ih h (by simp) hm
    ·exact ih l (by simp [hl])
   ·simp only [List.mem_singleton] at hl
    subst hl
    intro hm
    simp only [List.mem_singleton] at hm
    subst hm; simp at hyb
theorem textG_cons (l : List UInt8) (t : List (List UInt8)) : textG (l :: t) = l ++ 10 :: textG t := by simp [textG]
theorem seg_text : ∀ (s : List UInt8), textG (segB 10 s) = s ++ [10]
 | [] => rfl
 | y :: s => by
  have ih := seg_text s
  unfold segB
  split
  ·rename_i h
   have hy : y = 10 := by simpa using h
   subst hy
   rw [textG_cons, ih]; rfl
  ·split
   ·rename_i h t he
    rw [he, textG_cons] at ih
    rw [textG_cons, List.cons_append, ih]; rfl
   ·rename_i he
    exact (segB_ne _ _ he).elim
theorem ends_split {s : List UInt8} {b : UInt8} (h : endsB s b = true) : s = s.dropLast ++ [b] := by
 unfold endsB at h
 have h1 : s.getLast? = some b := by simpa using h
 have hne : s ≠ [] := by rintro rfl; cases h1
 rw [List.getLast?_eq_some_getLast hne, Option.some.injEq] at h1
 rw [← h1, List.dropLast_concat_getLast]
theorem seg_text' {s : List UInt8} (h : endsB s 10 = true) : textG (segB 10 s.dropLast) = s := by
 rw [seg_text]
 exact (ends_split h).symm
theorem segB_append (b : UInt8) : ∀ (l t : List UInt8), b ∉ l → segB b (l ++ b :: t) = l :: segB b t
 | [], t, _ => by simp [segB]
 | y :: l, t, h => by
  have hy : y ≠ b := fun e => h (by simp [e])
  have ih := segB_append b l t fun e => h (by simp [e])
  have e : segB b (y :: (l ++ b :: t)) = match segB b (l ++ b :: t) with | h :: t => (y :: h) :: t | [] => [[y]] := by
   rw [segB, if_neg hy]; rfl
  rw [List.cons_append, e, ih]
theorem segB_last (b : UInt8) : ∀ (l : List UInt8), b ∉ l → segB b l = [l]
 | [], _ => rfl
 | y :: l, h => by
  have hy : y ≠ b := fun e => h (by simp [e])
  have ih := segB_last b l fun e => h (by simp [e])
  unfold segB
  rw [if_neg (by simpa using hy), ih]
theorem text_seg : ∀ (rows : List (List UInt8)), rows ≠ [] → (∀ l ∈ rows, (10 : UInt8) ∉ l) → endsB (textG rows) 10 = true ∧ segB 10 (textG rows).dropLast = rows
 | [], h, _ => (h rfl).elim
 | [l], _, h => by
  have e : textG [l] = l ++ [10] := by simp [textG]
  rw [e]
  refine ⟨by simp [endsB], ?_⟩
  rw [List.dropLast_concat]
  exact segB_last 10 l (h l (by simp))
 | l :: m :: t, _, h => by
  obtain ⟨h1, h2⟩ := text_seg (m :: t) (by simp) fun x hx => h x (by simp [hx])
  have hne : textG (m :: t) ≠ [] := by rw [textG_cons]; simp
  have e : textG (l :: m :: t) = l ++ 10 :: textG (m :: t) := textG_cons l (m :: t)
  rw [e]
  constructor
  ·have h3 := ends_split h1
   unfold endsB
   rw [h3, ← List.cons_append, ← List.append_assoc, List.getLast?_concat]
   simp
  ·have e2 : (l ++ 10 :: textG (m :: t)).dropLast = l ++ 10 :: (textG (m :: t)).dropLast := by
    rw [List.dropLast_append_of_ne_nil (by simp), List.dropLast_cons_of_ne_nil hne]
   rw [e2, segB_append 10 l _ (h l (by simp)), h2]
theorem textG_length (rows : List (List UInt8)) (w : Nat) (h : ∀ l ∈ rows, l.length = w) : (textG rows).length = rows.length * (w + 1) := by
 induction rows with
 | nil => simp [textG]
 | cons l t ih =>
  rw [textG_cons, List.length_append, List.length_cons, ih (fun x hx => h x (by simp [hx])), h l (by simp), List.length_cons, Nat.succ_mul]
  omega
theorem BOk.ne10 {b : UInt8} (h : BOk b) : b ≠ 10 := by
 rintro rfl
 unfold BOk at h
 simp at h
theorem SOk.nl {rows : List (List UInt8)} {w : Nat} (h : SOk rows w) : ∀ l ∈ rows, (10 : UInt8) ∉ l := fun l hl hm => (h.byte l hl 10 hm).ne10 rfl
theorem allOk_of {w : Nat} : ∀ (k : Nat) (t : List (List UInt8)), (∀ l ∈ t, 2 ≤ l.length ∧ l.length ≤ 32 ∧ l.length = w ∧ ∀ b ∈ l, BOk b) → k + t.length ≤ 41 → allOk w k t = true
 | k, [], _, _ => rfl
 | k, l :: t, h, hk => by
  simp only [List.length_cons] at hk
  simp only [allOk, Bool.and_eq_true]
  refine ⟨?_, allOk_of (k + 1) t (fun x hx => h x (by simp [hx])) (by omega)⟩
  obtain ⟨h1, h2, h3, h4⟩ := h l (by simp)
  unfold okSeg
  simp only [Bool.and_eq_true, decide_eq_true_eq]
  exact ⟨⟨⟨⟨h1, h2⟩, h3⟩, by omega⟩, List.all_eq_true.2 fun b hb => okB_iff.2 (h4 b hb)⟩
theorem parse_is {s : List UInt8} {rows : List (List UInt8)} (h : parseP s = some rows) : textG rows = s ∧ SOk rows (rows.headD []).length := by
 refine ⟨?_, parse_ok h⟩
 unfold parseP at h
 split at h
 ·rename_i he
  split at h
  ·simp only [Option.some.injEq] at h
   subst h
   exact seg_text' he
  ·cases h
 ·cases h
def stp (p : List (List Int) × List Int) (c : UInt8) : List (List Int) × List Int := if c = 10 then (p.1 ++ [p.2], []) else (p.1, p.2 ++ [(valR c).1])
def stR (s : List UInt8) : List (List Int) × List Int := s.foldl stp ([], [])
theorem stR_snoc {s : List UInt8} {k : Nat} (h : k < s.length) : stR (s.take (k + 1)) = stp (stR (s.take k)) s[k] := by
 unfold stR
 rw [List.take_succ_eq_append_getElem h, List.foldl_append]; rfl
def rowR (l : List UInt8) : List Int := l.map fun b => (valR b).1
theorem fold_line (l : List UInt8) (h : (10 : UInt8) ∉ l) : ∀ p : List (List Int) × List Int, l.foldl stp p = (p.1, p.2 ++ rowR l) := by
 induction l with
 | nil => intro p; simp [rowR]
 | cons y l ih =>
  intro p
  have hy : y ≠ 10 := fun e => h (by simp [e])
  rw [List.foldl_cons, ih (fun e => h (by simp [e]))]
  unfold stp
  rw [if_neg hy]
  simp [rowR]
theorem fold_rows (rows : List (List UInt8)) (h : ∀ l ∈ rows, (10 : UInt8) ∉ l) : ∀ g : List (List Int), (textG rows).foldl stp (g, []) = (g ++ rows.map rowR, []) := by
 induction rows with
 | nil => intro g; simp [textG]
 | cons l t ih =>
  intro g
  rw [textG_cons, List.foldl_append, fold_line l (h l (by simp)), List.foldl_cons]
  have e : stp (g, ([] : List Int) ++ rowR l) 10 = (g ++ [rowR l], []) := by unfold stp; rw [if_pos rfl]; simp
  rw [e, ih (fun x hx => h x (by simp [hx]))]
  simp
theorem stR_end {s : List UInt8} (h : endsB s 10 = true) : stR s = ((segB 10 s.dropLast).map rowR, []) := by
 have := fold_rows (segB 10 s.dropLast) (segB_nl 10 _) []
 rw [seg_text' h] at this
 simpa [stR] using this
theorem rowR_vq {l : List UInt8} (h : ∀ b ∈ l, BOk b) : rowR l = l.map vq := List.map_congr_left fun b hb => by rw [vq_R (h b hb)]
end Go.Proofs.YtlmfdmlochpfcaaDoor

namespace Go.Proofs.YtlmfdmlochpfcaaDoor
open Go Go.V
abbrev o61_0 : List Ins := [⟨(some 2), .mv (.k (.c (.raw (.slice none 0 0)))), none, true⟩,
 ⟨(some 3), .mv (.k (.c (.bool false))), none, true⟩]
abbrev o61_1 : List Ins := [⟨(some 10), .mv (.t 0), none, true⟩,
 ⟨(some 11), .prim .slen [(.t 10)], none, true⟩,
 ⟨(some 12), .bin .eql (.t 11) (.k (.c (.int .i64 0))), none, true⟩,
 ⟨(some 13), .mv (.t 12), none, true⟩,
 ⟨(some 14), .mv (.t 0), (some (13, false)), true⟩,
 ⟨(some 15), .prim .slen [(.t 14)], (some (13, false)), true⟩,
 ⟨(some 16), .bin .gtr (.t 15) (.k (.c (.int .i64 1353))), (some (13, false)), true⟩,
 ⟨(some 17), .pick (.t 13) (.k (.c (.bool true))) (.t 16), none, true⟩,
 ⟨(some 18), .mv (.t 17), none, true⟩,
 ⟨(some 19), .mv (.t 0), (some (18, false)), true⟩,
 ⟨(some 20), .mv (.t 0), (some (18, false)), true⟩,
 ⟨(some 21), .prim .slen [(.t 20)], (some (18, false)), true⟩,
 ⟨(some 22), .bin .sub (.t 21) (.k (.c (.int .i64 1))), (some (18, false)), true⟩,
 ⟨(some 23), .prim .sidx [(.t 19), (.t 22)], (some (18, false)), true⟩,
 ⟨(some 24), .bin .neq (.t 23) (.k (.c (.int .u8 10))), (some (18, false)), true⟩,
 ⟨(some 25), .pick (.t 18) (.k (.c (.bool true))) (.t 24), none, true⟩]
abbrev o61_2 : List Ins := [⟨(some 2), .mv (.k (.c (.raw (.slice none 0 0)))), none, true⟩,
 ⟨(some 3), .mv (.k (.c (.bool false))), none, true⟩]
abbrev v61_3 : VC := (.seq (.ops o61_2) .ret)
abbrev v61_4 : VC := (.cond (.t 25) v61_3 .skip)
abbrev o61_5 : List Ins := [⟨(some 4), .mv (.k (.c (.raw (.slice none 0 0)))), none, true⟩]
abbrev o61_6 : List Ins := [⟨(some 5), .mv (.k (.c (.raw (.slice none 0 0)))), none, true⟩]
abbrev o61_7 : List Ins := [⟨(some 6), .mv (.k (.c (.int .i64 0))), none, true⟩]
abbrev o61_8 : List Ins := [⟨(some 26), .mv (.t 6), none, true⟩,
 ⟨(some 27), .mv (.t 0), none, true⟩,
 ⟨(some 28), .prim .slen [(.t 27)], none, true⟩,
 ⟨(some 29), .bin .lss (.t 26) (.t 28), none, true⟩]
abbrev v61_9 : VC := (.cond (.t 29) .skip (.exit 0))
abbrev o61_10 : List Ins := [⟨(some 32), .mv (.t 0), none, true⟩,
 ⟨(some 33), .mv (.t 6), none, true⟩,
 ⟨(some 34), .prim .sidx [(.t 32), (.t 33)], none, true⟩,
 ⟨(some 35), .bin .eql (.t 34) (.k (.c (.int .u8 10))), none, true⟩]
abbrev o61_11 : List Ins := [⟨(some 36), .mv (.t 4), none, true⟩,
 ⟨(some 37), .mv (.t 5), none, true⟩,
 ⟨(some 38), .bsl 50 1 [(.t 37)], none, true⟩,
 ⟨(some 39), .app 50 1 24 (.t 36) (.t 38), none, true⟩,
 ⟨(some 4), .mv (.t 39), none, true⟩,
 ⟨(some 5), .mv (.k (.c (.raw (.slice none 0 0)))), none, true⟩]
abbrev v61_12 : VC := (.seq (.ops o61_11) (.exit 1))
abbrev v61_13 : VC := (.cond (.t 35) v61_12 .skip)
abbrev o61_14 : List Ins := [⟨(some 41), .mv (.t 0), none, true⟩,
 ⟨(some 42), .mv (.t 6), none, true⟩,
 ⟨(some 43), .prim .sidx [(.t 41), (.t 42)], none, true⟩,
 ⟨(some 44), .call (.k (.fn 22 [])) [(.t 43)], none, true⟩,
 ⟨(some 40), .mv (.t 44), none, true⟩,
 ⟨(some 45), .ext (.t 40) 0, none, true⟩,
 ⟨(some 46), .ext (.t 40) 1, none, true⟩,
 ⟨(some 7), .mv (.t 45), none, true⟩,
 ⟨(some 8), .mv (.t 46), none, true⟩]
abbrev o61_15 : List Ins := [⟨(some 47), .mv (.t 8), none, true⟩,
 ⟨(some 48), .un .not (.t 47), none, true⟩]
abbrev o61_16 : List Ins := [⟨(some 2), .mv (.k (.c (.raw (.slice none 0 0)))), none, true⟩,
 ⟨(some 3), .mv (.k (.c (.bool false))), none, true⟩]
abbrev v61_17 : VC := (.seq (.ops o61_16) .ret)
abbrev v61_18 : VC := (.cond (.t 48) v61_17 .skip)
abbrev o61_19 : List Ins := [⟨(some 49), .mv (.t 5), none, true⟩,
 ⟨(some 50), .mv (.t 7), none, true⟩,
 ⟨(some 51), .bsl 3 1 [(.t 50)], none, true⟩,
 ⟨(some 52), .app 3 1 8 (.t 49) (.t 51), none, true⟩,
 ⟨(some 5), .mv (.t 52), none, true⟩]
abbrev v61_20 : VC := (.seq (.seq (.ops o61_15) v61_18) (.ops o61_19))
abbrev v61_21 : VC := (.seq (.ops o61_14) v61_20)
abbrev v61_22 : VC := (.seq (.seq (.ops o61_10) v61_13) v61_21)
abbrev o61_23 : List Ins := [⟨(some 30), .mv (.t 6), none, true⟩,
 ⟨(some 31), .bin .add (.t 30) (.k (.c (.int .i64 1))), none, true⟩,
 ⟨(some 6), .mv (.t 31), none, true⟩]
abbrev v61_24 : VC := (.seq (.block 1 v61_22) (.ops o61_23))
abbrev v61_25 : VC := (.seq (.seq (.ops o61_8) v61_9) v61_24)
-- K61_1: changed and kept: [6, 4, 5]
abbrev K61_1 : List Nat := [0]
abbrev v61_26 : VC := (.loop v61_25)
abbrev v61_27 : VC := (.block 0 v61_26)
abbrev o61_28 : List Ins := [⟨(some 9), .mv (.k (.c (.int .i64 0))), none, true⟩]
abbrev o61_29 : List Ins := [⟨(some 53), .mv (.t 9), none, true⟩,
 ⟨(some 54), .mv (.t 4), none, true⟩,
 ⟨(some 55), .len (.t 54), none, true⟩,
 ⟨(some 56), .bin .lss (.t 53) (.t 55), none, true⟩]
abbrev v61_30 : VC := (.cond (.t 56) .skip (.exit 2))
abbrev o61_31 : List Ins := [⟨(some 59), .mv (.t 4), none, false⟩,
 ⟨(some 60), .mv (.t 9), none, false⟩,
 ⟨(some 61), .ia 1 (.t 59) (.t 60), none, false⟩,
 ⟨(some 62), .ld true 1 (.t 61), none, false⟩,
 ⟨(some 63), .len (.t 62), none, false⟩,
 ⟨(some 64), .mv (.t 4), none, false⟩,
 ⟨(some 65), .ia 1 (.t 64) (.k (.c (.int .i64 0))), none, false⟩,
 ⟨(some 66), .ld true 1 (.t 65), none, false⟩,
 ⟨(some 67), .len (.t 66), none, false⟩,
 ⟨(some 68), .bin .neq (.t 63) (.t 67), none, true⟩]
abbrev o61_32 : List Ins := [⟨(some 2), .mv (.k (.c (.raw (.slice none 0 0)))), none, true⟩,
 ⟨(some 3), .mv (.k (.c (.bool false))), none, true⟩]
abbrev v61_33 : VC := (.seq (.ops o61_32) .ret)
abbrev v61_34 : VC := (.cond (.t 68) v61_33 .skip)
abbrev v61_35 : VC := (.seq (.dops o61_31) v61_34)
abbrev o61_36 : List Ins := [⟨(some 57), .mv (.t 9), none, true⟩,
 ⟨(some 58), .bin .add (.t 57) (.k (.c (.int .i64 1))), none, true⟩,
 ⟨(some 9), .mv (.t 58), none, true⟩]
abbrev v61_37 : VC := (.seq (.block 3 v61_35) (.ops o61_36))
abbrev v61_38 : VC := (.seq (.seq (.ops o61_29) v61_30) v61_37)
-- K61_2: changed and kept: [9]
abbrev K61_2 : List Nat := [4]
abbrev v61_39 : VC := (.loop v61_38)
abbrev v61_40 : VC := (.block 2 v61_39)
abbrev o61_41 : List Ins := [⟨(some 69), .mv (.t 4), none, true⟩,
 ⟨(some 70), .mv (.t 4), none, true⟩,
 ⟨(some 71), .len (.t 70), none, true⟩,
 ⟨(some 72), .bin .leq (.t 71) (.k (.c (.int .i64 41))), none, true⟩,
 ⟨(some 73), .mv (.t 72), none, true⟩,
 ⟨(some 74), .mv (.t 4), (some (73, true)), true⟩,
 ⟨(some 75), .ia 1 (.t 74) (.k (.c (.int .i64 0))), (some (73, true)), true⟩,
 ⟨(some 76), .ld true 1 (.t 75), (some (73, true)), true⟩,
 ⟨(some 77), .len (.t 76), (some (73, true)), true⟩,
 ⟨(some 78), .call (.k (.fn 67 [])) [(.t 77), (.k (.c (.int .i64 2))), (.k (.c (.int .i64 32)))], (some (73, true)), true⟩,
 ⟨(some 79), .pick (.t 73) (.t 78) (.k (.c (.bool false))), none, true⟩,
 ⟨(some 2), .mv (.t 69), none, true⟩,
 ⟨(some 3), .mv (.t 79), none, true⟩]
abbrev v61_42 : VC := (.seq (.ops o61_41) .ret)
abbrev v61_43 : VC := (.seq (.seq (.ops o61_28) v61_40) v61_42)
abbrev v61_44 : VC := (.seq (.seq (.ops o61_7) v61_27) v61_43)
abbrev v61_45 : VC := (.seq (.ops o61_6) v61_44)
abbrev v61_46 : VC := (.seq (.ops o61_5) v61_45)
abbrev v61_47 : VC := (.seq (.seq (.ops o61_1) v61_4) v61_46)
def ir61 : FC := ⟨1, 80, [.t 2, .t 3], (.seq (.ops o61_0) v61_47)⟩
theorem c61 : compM Tryd.prog [] 61 = some ir61 := by kernel_rfl
attribute [local go_sem] Nat.reduceEqDiff Nat.reduceAdd Nat.reduceMul reduceIte Nat.reduceLeDiff Nat.reduceLT Nat.reduceBEq reduceCtorEq
def badByte (s : List UInt8) : Bool := s.any fun c => !(c == 10 || (valR c).2)
def eqLen (g : List (List Int)) : Bool := g.all fun l => decide (l.length = wid g)
def retR (s : List UInt8) : List (List Int) × Bool :=
 if s.length = 0 ∨ 1353 < s.length ∨ endsB s 10 = false then ([], false)
 else if badByte s then ([], false)
 else if eqLen (stR s).1 then ((stR s).1, decide ((stR s).1.length ≤ 41) && (decide (2 ≤ wid (stR s).1) && decide (wid (stR s).1 ≤ 32)))
 else ([], false)
theorem bad_take {s : List UInt8} {k : Nat} (h : k < s.length) (hb : s[k] ≠ 10) (hv : (valR s[k]).2 = false) : badByte s = true := by
 unfold badByte
 rw [List.any_eq_true]
 exact ⟨s[k], List.getElem_mem h, by simp [hb, hv]⟩
theorem bad_not {s : List UInt8} (h : ∀ k (hk : k < s.length), s[k] = 10 ∨ (valR s[k]).2 = true) : badByte s = false := by
 unfold badByte
 rw [Bool.eq_false_iff]
 intro hc
 rw [List.any_eq_true] at hc
 obtain ⟨c, hc, hn⟩ := hc
 obtain ⟨k, hk, rfl⟩ := List.getElem_of_mem hc
 rcases h k hk with h | h <;> simp [h] at hn
theorem stR_ne {s : List UInt8} (h : endsB s 10 = true) : 0 < (stR s).1.length := by
 rw [stR_end h]
 simp only [List.length_map]
 have := segB_ne 10 s.dropLast
 exact List.length_pos_iff.2 this
theorem stR_len : ∀ (s : List UInt8), (stR s).1.length ≤ s.length ∧ (stR s).2.length ≤ s.length := by
 intro s
 have key : ∀ (k : Nat), k ≤ s.length → (stR (s.take k)).1.length ≤ k ∧ (stR (s.take k)).2.length ≤ k := by
  intro k
  induction k with
  | zero => intro _; simp [stR]
  | succ k ih =>
   intro hk
   have := ih (by omega)
   rw [stR_snoc (by omega)]
   unfold stp
   split
   ·simp; omega
   ·simp; omega
 have := key s.length (Nat.le_refl _)
 rwa [List.take_length] at this
def rw1 (l : List Int) : List CD := [rowC l]
def nw1 (n : Int) : List CD := [.int .i64 n]
theorem rw1_one (g : List (List Int)) : ((g.map rw1).all fun e => e.length == 1) = true := by
 rw [List.all_eq_true]; intro e he; obtain ⟨n, _, rfl⟩ := List.mem_map.1 he; rfl
theorem nw1_one (g : List Int) : ((g.map nw1).all fun e => e.length == 1) = true := by
 rw [List.all_eq_true]; intro e he; obtain ⟨n, _, rfl⟩ := List.mem_map.1 he; rfl
theorem last_at {s : List UInt8} (h : 0 < s.length) : (endsB s 10 = true ↔ s[s.length - 1] = 10) := by
 unfold endsB
 rw [List.getLast?_eq_getElem?, List.getElem?_eq_getElem (by omega)]
 simp
theorem beq10 (b : UInt8) : ((b.toNat : Int) == 10) = decide (b = 10) := by
 rw [Bool.eq_iff_iff]
 simp only [beq_iff_eq, decide_eq_true_eq]
 constructor
 ·intro h; exact UInt8.toNat_inj.1 (by show b.toNat = 10; omega)
 ·rintro rfl; rfl
set_option maxRecDepth 20000 in
set_option maxHeartbeats 8000000 in
theorem parse61D (s : List UInt8) (hs : s.length ≤ 100000) : FSpec Tryd.prog 61 [sv s] (.tup [.c (gridC (retR s).1), bv (retR s).2]) := by
 have hmax : maxLen = 9223372036854775807 := rfl
 refine FSpec_ofP c61 (Nat.le_refl _) (by decide) fun C hP hN hC hpin hL => ?_; rw [init_st]
 simp only [ir61]
 refine WV_seq_ ?_
 (refine WV_op ?_; simp only [go_sem, hP]; (repeat refine qJ ?_))
 refine WV_seq_ (WV_seq_ ?_)
 by_cases h0 : s.length = 0
 ·have hr : retR s = ([], false) := by unfold retR; rw [if_pos (.inl h0)]
  have hs0 : s = [] := List.eq_nil_of_length_eq_zero h0
  subst hs0
  rw [hr]
  (refine WV_op ?_; simp only [go_sem, hP, List.length_nil]; (repeat refine qJ ?_))
  (refine WV_cond rfl (fun h => ?_) (fun h => ?_))
  ·(repeat ((first | refine Va ?_ | refine Vb ?_ | refine Vc ?_ | refine Vd ?_ | refine Ve ?_ | refine Vf ?_); (try simp only [go_sem, hP]); (repeat refine qJ ?_)))
   (refine WV_ret ?_; simp only [thenQ, inQ, RetQ, RetOk, resAll, resA]; simp only [go_sem, tupA, AV.port, AV.portL, exists_eq_left'])
   exact AVle.tup ⟨_, _, rfl, AVle.nil 1, _, _, rfl, AVle.refl _, rfl⟩
  ·simp at h
 by_cases h1 : 1353 < s.length
 ·have hr : retR s = ([], false) := by unfold retR; rw [if_pos (.inr (.inl h1))]
  have hw0 := w64 (n := (s.length : Int) - 1) (by omega) (by omega)
  have hln : ((s.length : Int) - 1).toNat = s.length - 1 := by omega
  rw [hr]
  (refine WV_op ?_; simp only [go_sem, hP, hw0, hln, str_at (show s.length - 1 < s.length by omega)]; (repeat refine qJ ?_))
  (refine WV_cond rfl (fun h => ?_) (fun h => ?_))
  ·(repeat ((first | refine Va ?_ | refine Vb ?_ | refine Vc ?_ | refine Vd ?_ | refine Ve ?_ | refine Vf ?_); (try simp only [go_sem, hP]); (repeat refine qJ ?_)))
   (refine WV_ret ?_; simp only [thenQ, inQ, RetQ, RetOk, resAll, resA]; simp only [go_sem, tupA, AV.port, AV.portL, exists_eq_left'])
   exact AVle.tup ⟨_, _, rfl, AVle.nil 1, _, _, rfl, AVle.refl _, rfl⟩
  ·simp at h; omega
 have hw0 := w64 (n := (s.length : Int) - 1) (by omega) (by omega)
 have hln : ((s.length : Int) - 1).toNat = s.length - 1 := by omega
 have hlast := last_at (s := s) (by omega)
 have h10 := beq10 (s[s.length - 1]'(by omega))
 by_cases h2 : endsB s 10 = true
 ·have h2' := hlast.1 h2
  have hr : retR s = if badByte s then ([], false) else if eqLen (stR s).1 then ((stR s).1, decide ((stR s).1.length ≤ 41) && (decide (2 ≤ wid (stR s).1) && decide (wid (stR s).1 ≤ 32))) else ([], false) := by
   unfold retR
   rw [if_neg (by rintro (h | h | h); exact h0 h; exact h1 h; rw [h2] at h; cases h)]
  rw [h2'] at h10
  (refine WV_op ?_; simp only [go_sem, hP, hw0, hln, str_at (show s.length - 1 < s.length by omega), h2']; (repeat refine qJ ?_))
  (refine WV_cond rfl (fun h => ?_) (fun h => ?_))
  ·exfalso
   have hs0 : s ≠ [] := fun e => h0 (by rw [e]; rfl)
   simp [hs0] at h; omega
  (refine WV_skip ?_; simp only [go_sem])
  refine WV_keep [0] ?_
  simp only [go_sem]
  (repeat ((first | refine Va ?_ | refine Vb ?_ | refine Vc ?_ | refine Vd ?_ | refine Ve ?_ | refine Vf ?_); (try simp only [go_sem, hP]); (repeat refine qJ ?_)))
  refine WV_nilslot 4 39 50 1 (by decide) (by decide) rfl rfl ?_
  simp only [go_sem]
  refine WV_nilslot 5 52 3 1 (by decide) (by decide) rfl rfl ?_
  simp only [go_sem]
  refine WV_loopK K61_1 [39, 52] (fun i : Nat => i ≤ s.length ∧ ∀ k (hk : k < s.length), k < i → s[k] = 10 ∨ (valR s[k]).2 = true) (fun i => s.length - i) (fun i => [(6, iv i), (4, .gr 39), (5, .gr 52)]) (fun i => [(39, .grow 50 1 ((stR (s.take i)).1.map rw1)), (52, .grow 3 1 ((stR (s.take i)).2.map nw1))]) 0 ⟨Nat.zero_le _, fun k _ hk => by omega⟩ ?_ ?_
  ·(refine Sub_of (by simp only [go_sem]; ((repeat' (first | exact EnvLe_e0 _ _ | refine EnvLe_upd ?_ ?_)) <;> ((try simp only [upd_app, e0_app, o0_app, Nat.reduceEqDiff, reduceIte]); first | exact AWk.refl _ _ | exact AWk.int (by omega) | exact AWk.int (by rw [w64 (by omega) (by omega)]; omega) | exact AWk.grow rfl | exact AWk.nil _ | exact AWk.of (by simp [stR])))) (by simp only [go_sem]; exact ObjLe_au))
  ·intro i ⟨hi0, hno⟩
   simp only [go_sem]
   (repeat ((first | refine Va ?_ | refine Vb ?_ | refine Vc ?_ | refine Vd ?_ | refine Ve ?_ | refine Vf ?_); (try simp only [go_sem, hP]); (repeat refine qJ ?_)))
   (refine WV_cond rfl (fun h => ?_) (fun h => ?_))
   ·have hi : i < s.length := by simpa using h
    have hw2 := w64 (n := (i : Int) + 1) (by omega) (by omega)
    have hsn := stR_snoc hi
    have hl1 := stR_len (s.take i)
    have htl : (s.take i).length = i := by rw [List.length_take]; omega
    rw [htl] at hl1
    (repeat ((first | refine Va ?_ | refine Vb ?_ | refine Vc ?_ | refine Vd ?_ | refine Ve ?_ | refine Vf ?_); (try simp only [go_sem, hP, Int.toNat_natCast, Int.ofNat_lt, hi, Int.natCast_nonneg, str_at hi, beq10]); (repeat refine qJ ?_)))
    generalize stR (s.take i) = st at hsn hl1
    obtain ⟨g, row⟩ := st
    simp only at hl1 ⊢
    have n1 := rw1_one g
    have n2 := nw1_one row
    by_cases hc : s[i] = 10
    ·unfold stp at hsn
     rw [if_pos hc] at hsn
     have hl52 : ∀ own : Nat → Ob, AWk (upd own 52 (.grow 3 1 (row.map nw1))) (.gr 52) (.c (rowC row)) := fun own => .inr (.inr (.inl ⟨52, 3, 1, _, rfl, by rw [upd_app, if_pos rfl]; rfl, rfl⟩))
     (refine WV_cond rfl (fun h => ?_) (fun h => ?_))
     ·refine WV_seq_ ?_
      refine WV_sub (σ' := ⟨upd (upd (upd (upd e0 0 (.c (.str s))) 6 (iv i)) 4 (.gr 39)) 5 (.c (rowC row)), upd o0 39 (.grow 50 1 (g.map rw1))⟩) (Sub_of ?_ ?_) ?_
      ·refine EnvLe_upd (hl52 _) ?_
       exact EnvLe_au
      ·exact ObjLe_au
      (refine WV_op ?_; simp only [go_sem, hP, rowC, n1, List.length_map]; (repeat refine qJ ?_))
      (refine WV_exit ?_; simp only [go_sem])
      refine WV_nilslot 5 52 3 1 (by decide) (by decide) rfl rfl ?_
      simp only [go_sem]
      (repeat ((first | refine Va ?_ | refine Vb ?_ | refine Vc ?_ | refine Vd ?_ | refine Ve ?_ | refine Vf ?_); (try simp only [go_sem, hP, hw2]); (repeat refine qJ ?_)))
      refine ⟨i + 1, ⟨by omega, fun k hk hki => ?_⟩, by omega, ?_⟩
      ·by_cases hk2 : k = i
       ·subst hk2; exact .inl hc
       ·exact hno k hk (by omega)
      ·rw [hsn]
       simp only [List.map_append, List.map_cons, List.map_nil]
       exact Sub_au
     ·simp [hc] at h
    ·unfold stp at hsn
     rw [if_neg hc] at hsn
     (refine WV_cond rfl (fun h => ?_) (fun h => ?_))
     ·simp [hc] at h
     ·(refine WV_skip ?_; simp only [go_sem])
      refine WV_seq_ ?_
      (refine WV_op ?_; simp only [go_sem, hP, Int.toNat_natCast, Int.ofNat_lt, hi, Int.natCast_nonneg, str_at hi]; (repeat refine qJ ?_))
      (refine AS_pu (value22 s[i]) ?_; simp only [go_sem, hP]; (repeat refine qJ ?_); (repeat ((first | refine Va ?_ | refine Vb ?_ | refine Vc ?_ | refine Vd ?_ | refine Ve ?_ | refine Vf ?_); (try simp only [go_sem, hP]); (repeat refine qJ ?_))))
      by_cases hv : (valR s[i]).2 = true
      ·rw [hv]
       (refine WV_cond rfl (fun h => ?_) (fun h => ?_))
       ·simp at h
       (repeat ((first | refine Va ?_ | refine Vb ?_ | refine Vc ?_ | refine Vd ?_ | refine Ve ?_ | refine Vf ?_); (try simp only [go_sem, hP, n2, hw2, List.length_map]); (repeat refine qJ ?_)))
       refine ⟨i + 1, ⟨by omega, fun k hk hki => ?_⟩, by omega, ?_⟩
       ·by_cases hk2 : k = i
        ·subst hk2; exact .inr hv
        ·exact hno k hk (by omega)
       ·rw [hsn]
        simp only [List.map_append, List.map_cons, List.map_nil]
        (refine Sub_of (by simp only [go_sem]; ((repeat' (first | exact EnvLe_e0 _ _ | refine EnvLe_upd ?_ ?_)) <;> ((try simp only [upd_app, e0_app, o0_app, Nat.reduceEqDiff, reduceIte]); first | exact AWk.refl _ _ | exact AWk.int (by omega) | exact AWk.int (by rw [w64 (by omega) (by omega)]; omega) | exact AWk.grow rfl | exact AWk.nil _ | exact AWk.of (by simp [nw1])))) (by simp only [go_sem]; exact ObjLe_au))
      ·have hbad := bad_take hi hc (by simpa using hv)
       have hr2 : retR s = ([], false) := by rw [hr, if_pos hbad]
       rw [hr2]
       rw [show (valR s[i]).2 = false from by simpa using hv]
       (refine WV_cond rfl (fun h => ?_) (fun h => ?_))
       ·(repeat ((first | refine Va ?_ | refine Vb ?_ | refine Vc ?_ | refine Vd ?_ | refine Ve ?_ | refine Vf ?_); (try simp only [go_sem, hP]); (repeat refine qJ ?_)))
        (refine WV_ret ?_; simp only [thenQ, inQ, RetQ, RetOk, resAll, resA]; simp only [go_sem, tupA, AV.port, AV.portL, exists_eq_left'])
        exact AVle.tup ⟨_, _, rfl, AVle.nil 1, _, _, rfl, AVle.refl _, rfl⟩
       ·simp at h
   ·have hi : i = s.length := by simp at h; omega
    subst hi
    rw [List.take_length]
    have hr2 := hr
    rw [if_neg (by rw [bad_not fun k hk => hno k hk hk]; simp)] at hr2
    have hl1 := (stR_len s).1
    have hp1 := stR_ne h2
    generalize (stR s).1 = g at hr2 hl1 hp1 ⊢
    refine WV_exit ?_
    simp only [thenQ, inQ, reduceIte, beq_self_eq_true]
    refine WV_sub (σ' := ⟨upd e0 4 (.c (gridC g)), o0⟩) (Sub_of ?_ ?_) ?_
    ·refine EnvLe_upd ?_ (EnvLe_e0 _ _)
     exact .inr (.inr (.inl ⟨39, 50, 1, _, rfl, rfl, rfl⟩))
    ·exact ObjLe_o0 _
    (repeat ((first | refine Va ?_ | refine Vb ?_ | refine Vc ?_ | refine Vd ?_ | refine Ve ?_ | refine Vf ?_); (try simp only [go_sem, hP]); (repeat refine qJ ?_)))
    have hw00 := wid_at hp1
    refine WV_loopK K61_2 [] (fun k : Nat => k ≤ g.length ∧ ∀ m (hm : m < g.length), m < k → g[m].length = wid g) (fun k => g.length - k) (fun k => [(9, iv k)]) (fun _ => []) 0 ⟨Nat.zero_le _, fun m _ h => by omega⟩ ?_ ?_
    ·exact Sub_au
    ·intro k ⟨hk0, hke⟩
     simp only [go_sem]
     (repeat ((first | refine Va ?_ | refine Vb ?_ | refine Vc ?_ | refine Vd ?_ | refine Ve ?_ | refine Vf ?_); (try simp only [go_sem, hP, gridC, List.length_map]); (repeat refine qJ ?_)))
     (refine WV_cond rfl (fun h => ?_) (fun h => ?_))
     ·have hk : k < g.length := by simpa using h
      have hw2 := w64 (n := (k : Int) + 1) (by omega) (by omega)
      (refine WV_skip ?_; simp only [go_sem])
      refine WV_seq_ (WV_block (WV_seq_ ?_))
      (refine WV_op ?_; simp only [go_sem, hP, gridC, rowC, map_getD hk, map_getD hp1, List.length_map, Int.toNat_natCast, Int.toNat_zero, Int.ofNat_lt, hk, hp1, Int.natCast_nonneg, hw00]; (repeat refine qJ ?_))
      by_cases he : g[k].length = wid g
      ·(refine WV_cond rfl (fun h => ?_) (fun h => ?_))
       ·simp [he] at h
       ·(repeat ((first | refine Va ?_ | refine Vb ?_ | refine Vc ?_ | refine Vd ?_ | refine Ve ?_ | refine Vf ?_); (try simp only [go_sem, hP, hw2]); (repeat refine qJ ?_)))
        refine ⟨k + 1, ⟨by omega, fun m hm hmk => ?_⟩, by omega, ?_⟩
        ·by_cases e2 : m = k
         ·subst e2; exact he
         ·exact hke m hm (by omega)
        ·(refine Sub_of (by simp only [go_sem]; ((repeat' (first | exact EnvLe_e0 _ _ | refine EnvLe_upd ?_ ?_)) <;> ((try simp only [upd_app, e0_app, o0_app, Nat.reduceEqDiff, reduceIte]); first | exact AWk.refl _ _ | exact AWk.int (by omega) | exact AWk.int (by rw [w64 (by omega) (by omega)]; omega) | exact AWk.grow rfl | exact AWk.nil _ | exact AWk.of (by simp [gridC])))) (by simp only [go_sem]; exact ObjLe_au))
      ·have hne : eqLen g = false := by
        unfold eqLen
        rw [Bool.eq_false_iff]
        intro hc
        exact he (by simpa using List.all_eq_true.1 hc g[k] (List.getElem_mem hk))
       rw [hne, if_neg (by simp)] at hr2
       rw [hr2]
       (refine WV_cond rfl (fun h => ?_) (fun h => ?_))
       ·(repeat ((first | refine Va ?_ | refine Vb ?_ | refine Vc ?_ | refine Vd ?_ | refine Ve ?_ | refine Vf ?_); (try simp only [go_sem, hP]); (repeat refine qJ ?_)))
        (refine WV_ret ?_; simp only [thenQ, inQ, RetQ, RetOk, resAll, resA]; simp only [go_sem, tupA, AV.port, AV.portL, exists_eq_left'])
        exact AVle.tup ⟨_, _, rfl, AVle.nil 1, _, _, rfl, AVle.refl _, rfl⟩
       ·simp at h; omega
     ·have hk : k = g.length := by simp at h; omega
      subst hk
      have heq : eqLen g = true := by
       unfold eqLen
       rw [List.all_eq_true]
       intro l hl
       obtain ⟨m, hm, rfl⟩ := List.getElem_of_mem hl
       simpa using hke m hm hm
      rw [heq, if_pos rfl] at hr2
      rw [hr2]
      refine WV_exit ?_
      simp only [thenQ, inQ, reduceIte, beq_self_eq_true]
      have hwi := within67 (wid g) 2 32
      refine WV_seq_ ?_
      (refine WV_op ?_; simp only [go_sem, hP, gridC, rowC, map_getD hp1, List.length_map, Int.toNat_zero, Int.ofNat_lt, hp1, Int.natCast_nonneg, hw00]; (repeat refine qJ ?_))
      (refine AG_pu (fun hG => hwi) ?_; simp only [go_sem, hP]; (repeat refine qJ ?_); (repeat ((first | refine Va ?_ | refine Vb ?_ | refine Vc ?_ | refine Vd ?_ | refine Ve ?_ | refine Vf ?_); (try simp only [go_sem, hP]); (repeat refine qJ ?_))))
      (refine WV_ret ?_; simp only [thenQ, inQ, RetQ, RetOk, resAll, resA]; simp only [go_sem, tupA, AV.port, AV.portL, exists_eq_left'])
      have hcast : decide ((g.length : Int) ≤ 41) = decide (g.length ≤ 41) := by rw [Bool.eq_iff_iff]; simp; omega
      have hc2 : decide ((2 : Int) ≤ (wid g : Int)) = decide (2 ≤ wid g) := by rw [Bool.eq_iff_iff]; simp; omega
      have hc3 : decide ((wid g : Int) ≤ 32) = decide (wid g ≤ 32) := by rw [Bool.eq_iff_iff]; simp; omega
      rw [hcast, hc2, hc3]
      exact AVle.refl _
 ·have hr : retR s = ([], false) := by unfold retR; rw [if_pos (.inr (.inr (by simpa using h2)))]
  have h2' : s[s.length - 1]'(by omega) ≠ 10 := fun h => h2 (hlast.2 h)
  rw [hr]
  (refine WV_op ?_; simp only [go_sem, hP, hw0, hln, str_at (show s.length - 1 < s.length by omega), bne, h10]; (repeat refine qJ ?_))
  (refine WV_cond rfl (fun h => ?_) (fun h => ?_))
  ·(repeat ((first | refine Va ?_ | refine Vb ?_ | refine Vc ?_ | refine Vd ?_ | refine Ve ?_ | refine Vf ?_); (try simp only [go_sem, hP]); (repeat refine qJ ?_)))
   (refine WV_ret ?_; simp only [thenQ, inQ, RetQ, RetOk, resAll, resA]; simp only [go_sem, tupA, AV.port, AV.portL, exists_eq_left'])
   exact AVle.tup ⟨_, _, rfl, AVle.nil 1, _, _, rfl, AVle.refl _, rfl⟩
  ·exfalso
   simp at h
   first | exact h2' h.2.2 | exact h2' h.2
end Go.Proofs.YtlmfdmlochpfcaaDoor

namespace Go.Proofs.YtlmfdmlochpfcaaDoor
open Go Go.V
attribute [local go_sem] Nat.reduceEqDiff Nat.reduceAdd Nat.reduceMul reduceIte Nat.reduceLeDiff Nat.reduceLT Nat.reduceBEq reduceCtorEq
theorem text_mem : ∀ {rows : List (List UInt8)} {c : UInt8}, c ∈ textG rows → c = 10 ∨ ∃ l ∈ rows, c ∈ l
 | [], c, h => by simp [textG] at h
 | l :: t, c, h => by
  rw [textG_cons, List.mem_append, List.mem_cons] at h
  rcases h with h | h | h
  ·exact .inr ⟨l, by simp, h⟩
  ·exact .inl h
  ·rcases text_mem h with h | ⟨m, hm, h⟩
   ·exact .inl h
   ·exact .inr ⟨m, by simp [hm], h⟩
theorem rowsR_vals {rows : List (List UInt8)} (h : ∀ l ∈ rows, ∀ b ∈ l, BOk b) : rows.map rowR = valsG rows := List.map_congr_left fun l hl => rowR_vq (h l hl)
theorem vals_wid {rows : List (List UInt8)} {w : Nat} (h : SOk rows w) : wid (valsG rows) = w := by
 have hp := h.pos
 unfold wid valsG
 rw [map_getD (d := []) hp, List.length_map]
 exact h.row _ (List.getElem_mem hp)
theorem vals_len (rows : List (List UInt8)) : (valsG rows).length = rows.length := by simp [valsG]
theorem vals_gok {rows : List (List UInt8)} {w : Nat} (h : SOk rows w) : GOk (valsG rows) := by
 have := (vals_gow h).gok h.pos h.len h.w32
 exact this.1
theorem stR_rows {rows : List (List UInt8)} {w : Nat} (h : SOk rows w) : stR (textG rows) = (valsG rows, []) := by
 have hne : rows ≠ [] := by rintro rfl; exact absurd h.pos (by simp)
 obtain ⟨h1, h2⟩ := text_seg rows hne h.nl
 rw [stR_end h1, h2, rowsR_vals h.byte]
theorem retR_some {s : List UInt8} {rows : List (List UInt8)} (h : parseP s = some rows) : retR s = (valsG rows, true) := by
 obtain ⟨rfl, hok⟩ := parse_is h
 generalize (rows.headD []).length = w at hok
 have hne : rows ≠ [] := by rintro rfl; exact absurd hok.pos (by simp)
 obtain ⟨h1, h2⟩ := text_seg rows hne hok.nl
 have hl := textG_length rows w hok.row
 have hb : rows.length * (w + 1) ≤ 41 * 33 := Nat.mul_le_mul hok.len (by have := hok.w32; omega)
 have hb2 : 1 * 1 ≤ rows.length * (w + 1) := Nat.mul_le_mul hok.pos (by omega)
 unfold retR
 rw [if_neg (by rw [h1]; rintro (h | h | h); omega; omega; cases h), stR_rows hok]
 rw [if_neg]
 ·have he : eqLen (valsG rows) = true := by
   unfold eqLen
   rw [List.all_eq_true]
   intro l hl
   rw [vals_wid hok]
   simp only [valsG, List.mem_map] at hl
   obtain ⟨x, hx, rfl⟩ := hl
   simpa using hok.row x hx
  rw [if_pos he, vals_wid hok, vals_len]
  have h3 := hok.len
  have h4 := hok.w2
  have h5 := hok.w32
  simp [h3, h4, h5]
 ·rw [bad_not]
  ·simp
  ·intro k hk
   rcases text_mem (List.getElem_mem hk) with h | ⟨l, hl, hc⟩
   ·exact .inl h
   ·exact .inr (valR_iff.2 (hok.byte l hl _ hc))
theorem seg_sub {s : List UInt8} (h : endsB s 10 = true) {l : List UInt8} (hl : l ∈ segB 10 s.dropLast) {b : UInt8} (hb : b ∈ l) : b ∈ s := by
 rw [← seg_text' h]
 unfold textG
 rw [List.mem_flatMap]
 exact ⟨l, hl, by simp [hb]⟩
theorem retR_none {s : List UInt8} (h : parseP s = none) : (retR s).2 = false := by
 rw [Bool.eq_false_iff]
 intro hc
 unfold retR at hc
 split at hc
 ·cases hc
 ·rename_i h0
  have h10 : endsB s 10 = true := by
   cases he : endsB s 10
   ·exact (h0 (.inr (.inr he))).elim
   ·rfl
  split at hc
  ·cases hc
  ·rename_i hbad
   split at hc
   ·rename_i heq
    simp only [Bool.and_eq_true, decide_eq_true_eq] at hc
    rw [stR_end h10] at hc heq
    simp only [List.length_map] at hc
    obtain ⟨c1, c2, c3⟩ := hc
    have hbytes : ∀ l ∈ segB 10 s.dropLast, ∀ b ∈ l, BOk b := by
     intro l hl b hb
     have hbs := seg_sub h10 hl hb
     have hn : b ≠ 10 := fun e => segB_nl 10 _ l hl (e ▸ hb)
     refine valR_iff.1 ?_
     cases hv : (valR b).2
     ·exfalso
      apply hbad
      unfold badByte
      rw [List.any_eq_true]
      exact ⟨b, hbs, by simp [hn, hv]⟩
     ·rfl
    have hlens : ∀ l ∈ segB 10 s.dropLast, l.length = wid ((segB 10 s.dropLast).map rowR) := by
     intro l hl
     have := List.all_eq_true.1 heq (rowR l) (List.mem_map_of_mem hl)
     simpa [rowR] using this
    have hhead : ((segB 10 s.dropLast).headD []).length = wid ((segB 10 s.dropLast).map rowR) := by
     cases hsg : segB 10 s.dropLast with
     | nil => exact (segB_ne _ _ hsg).elim
     | cons x t => rw [hsg] at hlens; exact hlens x (by simp)
    have hal := allOk_of (w := wid ((segB 10 s.dropLast).map rowR)) 0 (segB 10 s.dropLast) (fun l hl => ⟨by rw [hlens l hl]; exact c2, by rw [hlens l hl]; exact c3, hlens l hl, hbytes l hl⟩) (by omega)
    unfold parseP at h
    rw [if_pos h10, hhead, if_pos hal] at h
    cases h
   ·cases hc
end Go.Proofs.YtlmfdmlochpfcaaDoor

namespace Go.Proofs.YtlmfdmlochpfcaaDoor
open Go Go.V
namespace W
abbrev o61_0 : List Ins := [⟨(some 2), .mv (.k (.c (.raw (.slice none 0 0)))), none, true⟩,
 ⟨(some 3), .mv (.k (.c (.bool false))), none, true⟩]
abbrev o61_1 : List Ins := [⟨(some 10), .mv (.t 0), none, true⟩,
 ⟨(some 11), .prim .slen [(.t 10)], none, true⟩,
 ⟨(some 12), .bin .eql (.t 11) (.k (.c (.int .i64 0))), none, true⟩,
 ⟨(some 13), .mv (.t 12), none, true⟩,
 ⟨(some 14), .mv (.t 0), (some (13, false)), true⟩,
 ⟨(some 15), .prim .slen [(.t 14)], (some (13, false)), true⟩,
 ⟨(some 16), .bin .gtr (.t 15) (.k (.c (.int .i64 1353))), (some (13, false)), true⟩,
 ⟨(some 17), .pick (.t 13) (.k (.c (.bool true))) (.t 16), none, true⟩,
 ⟨(some 18), .mv (.t 17), none, true⟩,
 ⟨(some 19), .mv (.t 0), (some (18, false)), true⟩,
 ⟨(some 20), .mv (.t 0), (some (18, false)), true⟩,
 ⟨(some 21), .prim .slen [(.t 20)], (some (18, false)), true⟩,
 ⟨(some 22), .bin .sub (.t 21) (.k (.c (.int .i64 1))), (some (18, false)), true⟩,
 ⟨(some 23), .prim .sidx [(.t 19), (.t 22)], (some (18, false)), true⟩,
 ⟨(some 24), .bin .neq (.t 23) (.k (.c (.int .u8 10))), (some (18, false)), true⟩,
 ⟨(some 25), .pick (.t 18) (.k (.c (.bool true))) (.t 24), none, true⟩]
abbrev o61_2 : List Ins := [⟨(some 2), .mv (.k (.c (.raw (.slice none 0 0)))), none, true⟩,
 ⟨(some 3), .mv (.k (.c (.bool false))), none, true⟩]
abbrev v61_3 : VC := (.seq (.ops o61_2) .ret)
abbrev v61_4 : VC := (.cond (.t 25) v61_3 .skip)
abbrev o61_5 : List Ins := [⟨(some 4), .mv (.k (.c (.raw (.slice none 0 0)))), none, true⟩]
abbrev o61_6 : List Ins := [⟨(some 5), .mv (.k (.c (.raw (.slice none 0 0)))), none, true⟩]
abbrev o61_7 : List Ins := [⟨(some 6), .mv (.k (.c (.int .i64 0))), none, true⟩]
abbrev o61_8 : List Ins := [⟨(some 26), .mv (.t 6), none, true⟩,
 ⟨(some 27), .mv (.t 0), none, true⟩,
 ⟨(some 28), .prim .slen [(.t 27)], none, true⟩,
 ⟨(some 29), .bin .lss (.t 26) (.t 28), none, true⟩]
abbrev v61_9 : VC := (.cond (.t 29) .skip (.exit 0))
abbrev o61_10 : List Ins := [⟨(some 32), .mv (.t 0), none, true⟩,
 ⟨(some 33), .mv (.t 6), none, true⟩,
 ⟨(some 34), .prim .sidx [(.t 32), (.t 33)], none, true⟩,
 ⟨(some 35), .bin .eql (.t 34) (.k (.c (.int .u8 10))), none, true⟩]
abbrev o61_11 : List Ins := [⟨(some 36), .mv (.t 4), none, true⟩,
 ⟨(some 37), .mv (.t 5), none, true⟩,
 ⟨(some 38), .bslv 50 1 [(.t 37)], none, true⟩,
 ⟨(some 39), .appv 50 1 24 (.t 36) (.t 38), none, true⟩,
 ⟨(some 4), .mv (.t 39), none, true⟩,
 ⟨(some 5), .mv (.k (.c (.raw (.slice none 0 0)))), none, true⟩]
abbrev v61_12 : VC := (.seq (.ops o61_11) (.exit 1))
abbrev v61_13 : VC := (.cond (.t 35) v61_12 .skip)
abbrev o61_14 : List Ins := [⟨(some 41), .mv (.t 0), none, true⟩,
 ⟨(some 42), .mv (.t 6), none, true⟩,
 ⟨(some 43), .prim .sidx [(.t 41), (.t 42)], none, true⟩,
 ⟨(some 44), .call (.k (.fn 22 [])) [(.t 43)], none, true⟩,
 ⟨(some 40), .mv (.t 44), none, true⟩,
 ⟨(some 45), .ext (.t 40) 0, none, true⟩,
 ⟨(some 46), .ext (.t 40) 1, none, true⟩,
 ⟨(some 7), .mv (.t 45), none, true⟩,
 ⟨(some 8), .mv (.t 46), none, true⟩]
abbrev o61_15 : List Ins := [⟨(some 47), .mv (.t 8), none, true⟩,
 ⟨(some 48), .un .not (.t 47), none, true⟩]
abbrev o61_16 : List Ins := [⟨(some 2), .mv (.k (.c (.raw (.slice none 0 0)))), none, true⟩,
 ⟨(some 3), .mv (.k (.c (.bool false))), none, true⟩]
abbrev v61_17 : VC := (.seq (.ops o61_16) .ret)
abbrev v61_18 : VC := (.cond (.t 48) v61_17 .skip)
abbrev o61_19 : List Ins := [⟨(some 49), .mv (.t 5), none, true⟩,
 ⟨(some 50), .mv (.t 7), none, true⟩,
 ⟨(some 51), .bsl 3 1 [(.t 50)], none, true⟩,
 ⟨(some 52), .appv 3 1 8 (.t 49) (.t 51), none, true⟩,
 ⟨(some 5), .mv (.t 52), none, true⟩]
abbrev v61_20 : VC := (.seq (.seq (.ops o61_15) v61_18) (.ops o61_19))
abbrev v61_21 : VC := (.seq (.ops o61_14) v61_20)
abbrev v61_22 : VC := (.seq (.seq (.ops o61_10) v61_13) v61_21)
abbrev o61_23 : List Ins := [⟨(some 30), .mv (.t 6), none, true⟩,
 ⟨(some 31), .bin .add (.t 30) (.k (.c (.int .i64 1))), none, true⟩,
 ⟨(some 6), .mv (.t 31), none, true⟩]
abbrev v61_24 : VC := (.seq (.block 1 v61_22) (.ops o61_23))
abbrev v61_25 : VC := (.seq (.seq (.ops o61_8) v61_9) v61_24)
-- K61_1: changed and kept: [6, 4, 5]
abbrev K61_1 : List Nat := [0]
abbrev v61_26 : VC := (.loop v61_25)
abbrev v61_27 : VC := (.block 0 v61_26)
abbrev o61_28 : List Ins := [⟨(some 9), .mv (.k (.c (.int .i64 0))), none, true⟩]
abbrev o61_29 : List Ins := [⟨(some 53), .mv (.t 9), none, true⟩,
 ⟨(some 54), .mv (.t 4), none, true⟩,
 ⟨(some 55), .len (.t 54), none, true⟩,
 ⟨(some 56), .bin .lss (.t 53) (.t 55), none, true⟩]
abbrev v61_30 : VC := (.cond (.t 56) .skip (.exit 2))
abbrev o61_31 : List Ins := [⟨(some 59), .mv (.t 4), none, false⟩,
 ⟨(some 60), .mv (.t 9), none, false⟩,
 ⟨(some 61), .ia 1 (.t 59) (.t 60), none, false⟩,
 ⟨(some 62), .ld true 1 (.t 61), none, false⟩,
 ⟨(some 63), .len (.t 62), none, false⟩,
 ⟨(some 64), .mv (.t 4), none, false⟩,
 ⟨(some 65), .ia 1 (.t 64) (.k (.c (.int .i64 0))), none, false⟩,
 ⟨(some 66), .ld true 1 (.t 65), none, false⟩,
 ⟨(some 67), .len (.t 66), none, false⟩,
 ⟨(some 68), .bin .neq (.t 63) (.t 67), none, true⟩]
abbrev o61_32 : List Ins := [⟨(some 2), .mv (.k (.c (.raw (.slice none 0 0)))), none, true⟩,
 ⟨(some 3), .mv (.k (.c (.bool false))), none, true⟩]
abbrev v61_33 : VC := (.seq (.ops o61_32) .ret)
abbrev v61_34 : VC := (.cond (.t 68) v61_33 .skip)
abbrev v61_35 : VC := (.seq (.dops o61_31) v61_34)
abbrev o61_36 : List Ins := [⟨(some 57), .mv (.t 9), none, true⟩,
 ⟨(some 58), .bin .add (.t 57) (.k (.c (.int .i64 1))), none, true⟩,
 ⟨(some 9), .mv (.t 58), none, true⟩]
abbrev v61_37 : VC := (.seq (.block 3 v61_35) (.ops o61_36))
abbrev v61_38 : VC := (.seq (.seq (.ops o61_29) v61_30) v61_37)
-- K61_2: changed and kept: [9]
abbrev K61_2 : List Nat := [4]
abbrev v61_39 : VC := (.loop v61_38)
abbrev v61_40 : VC := (.block 2 v61_39)
abbrev o61_41 : List Ins := [⟨(some 69), .mv (.t 4), none, true⟩,
 ⟨(some 70), .mv (.t 4), none, true⟩,
 ⟨(some 71), .len (.t 70), none, true⟩,
 ⟨(some 72), .bin .leq (.t 71) (.k (.c (.int .i64 41))), none, true⟩,
 ⟨(some 73), .mv (.t 72), none, true⟩,
 ⟨(some 74), .mv (.t 4), (some (73, true)), true⟩,
 ⟨(some 75), .ia 1 (.t 74) (.k (.c (.int .i64 0))), (some (73, true)), true⟩,
 ⟨(some 76), .ld true 1 (.t 75), (some (73, true)), true⟩,
 ⟨(some 77), .len (.t 76), (some (73, true)), true⟩,
 ⟨(some 78), .call (.k (.fn 67 [])) [(.t 77), (.k (.c (.int .i64 2))), (.k (.c (.int .i64 32)))], (some (73, true)), true⟩,
 ⟨(some 79), .pick (.t 73) (.t 78) (.k (.c (.bool false))), none, true⟩,
 ⟨(some 2), .mv (.t 69), none, true⟩,
 ⟨(some 3), .mv (.t 79), none, true⟩]
abbrev v61_42 : VC := (.seq (.ops o61_41) .ret)
abbrev v61_43 : VC := (.seq (.seq (.ops o61_28) v61_40) v61_42)
abbrev v61_44 : VC := (.seq (.seq (.ops o61_7) v61_27) v61_43)
abbrev v61_45 : VC := (.seq (.ops o61_6) v61_44)
abbrev v61_46 : VC := (.seq (.ops o61_5) v61_45)
abbrev v61_47 : VC := (.seq (.seq (.ops o61_1) v61_4) v61_46)
def ir61 : FC := ⟨1, 80, [.t 2, .t 3], (.seq (.ops o61_0) v61_47)⟩
theorem c61 : compM Tryd.prog [100038,100039,100052] 61 = some ir61 := by kernel_rfl
end W
attribute [local go_sem] Nat.reduceEqDiff Nat.reduceAdd Nat.reduceMul reduceIte Nat.reduceLeDiff Nat.reduceLT Nat.reduceBEq reduceCtorEq
end Go.Proofs.YtlmfdmlochpfcaaDoor

namespace Go.Proofs.YtlmfdmlochpfcaaDoor
open Go Go.V
abbrev o59_0 : List Ins := [⟨(some 2), .mv (.k (.c (.str []))), none, true⟩]
abbrev o59_1 : List Ins := [⟨(some 3), .mv (.k (.c (.str []))), none, true⟩]
abbrev o59_2 : List Ins := [⟨(some 4), .mv (.k (.c (.int .i64 0))), none, true⟩]
abbrev o59_3 : List Ins := [⟨(some 6), .mv (.t 4), none, true⟩,
 ⟨(some 7), .mv (.t 0), none, true⟩,
 ⟨(some 8), .len (.t 7), none, true⟩,
 ⟨(some 9), .bin .lss (.t 6) (.t 8), none, true⟩]
abbrev v59_4 : VC := (.cond (.t 9) .skip (.exit 0))
abbrev o59_5 : List Ins := [⟨(some 5), .mv (.k (.c (.int .i64 0))), none, true⟩]
abbrev o59_6 : List Ins := [⟨(some 12), .mv (.t 5), none, true⟩,
 ⟨(some 13), .mv (.t 0), none, true⟩,
 ⟨(some 14), .mv (.t 4), none, true⟩,
 ⟨(some 15), .ia 1 (.t 13) (.t 14), none, true⟩,
 ⟨(some 16), .ld true 1 (.t 15), none, true⟩,
 ⟨(some 17), .len (.t 16), none, true⟩,
 ⟨(some 18), .bin .lss (.t 12) (.t 17), none, true⟩]
abbrev v59_7 : VC := (.cond (.t 18) .skip (.exit 2))
abbrev o59_8 : List Ins := [⟨(some 21), .mv (.t 3), none, true⟩,
 ⟨(some 22), .mv (.t 0), none, true⟩,
 ⟨(some 23), .mv (.t 4), none, true⟩,
 ⟨(some 24), .ia 1 (.t 22) (.t 23), none, true⟩,
 ⟨(some 25), .ld true 1 (.t 24), none, true⟩,
 ⟨(some 26), .mv (.t 5), none, true⟩,
 ⟨(some 27), .ia 1 (.t 25) (.t 26), none, true⟩,
 ⟨(some 28), .ld true 1 (.t 27), none, true⟩,
 ⟨(some 29), .call (.k (.fn 86 [])) [(.t 28)], none, true⟩,
 ⟨(some 30), .bsl 5 1 [(.t 29)], none, true⟩,
 ⟨(some 31), .raw (.convert 68 9 (.tmp 30)), none, true⟩,
 ⟨(some 32), .prim (.sbin .add) [(.t 21), (.t 31)], none, true⟩,
 ⟨(some 3), .mv (.t 32), none, true⟩]
abbrev o59_9 : List Ins := [⟨(some 19), .mv (.t 5), none, true⟩,
 ⟨(some 20), .bin .add (.t 19) (.k (.c (.int .i64 1))), none, true⟩,
 ⟨(some 5), .mv (.t 20), none, true⟩]
abbrev v59_10 : VC := (.seq (.block 3 (.ops o59_8)) (.ops o59_9))
abbrev v59_11 : VC := (.seq (.seq (.ops o59_6) v59_7) v59_10)
-- K59_2: changed and kept: [5, 3]
abbrev K59_2 : List Nat := [0, 4]
abbrev v59_12 : VC := (.loop v59_11)
abbrev v59_13 : VC := (.block 2 v59_12)
abbrev o59_14 : List Ins := [⟨(some 33), .mv (.t 3), none, true⟩,
 ⟨(some 34), .prim (.sbin .add) [(.t 33), (.k (.c (.str [10])))], none, true⟩,
 ⟨(some 3), .mv (.t 34), none, true⟩]
abbrev v59_15 : VC := (.seq (.seq (.ops o59_5) v59_13) (.ops o59_14))
abbrev o59_16 : List Ins := [⟨(some 10), .mv (.t 4), none, true⟩,
 ⟨(some 11), .bin .add (.t 10) (.k (.c (.int .i64 1))), none, true⟩,
 ⟨(some 4), .mv (.t 11), none, true⟩]
abbrev v59_17 : VC := (.seq (.block 1 v59_15) (.ops o59_16))
abbrev v59_18 : VC := (.seq (.seq (.ops o59_3) v59_4) v59_17)
-- K59_1: changed and kept: [4, 3]
abbrev K59_1 : List Nat := [0]
abbrev v59_19 : VC := (.loop v59_18)
abbrev v59_20 : VC := (.block 0 v59_19)
abbrev o59_21 : List Ins := [⟨(some 35), .mv (.t 3), none, true⟩,
 ⟨(some 2), .mv (.t 35), none, true⟩]
abbrev v59_22 : VC := (.seq (.ops o59_21) .ret)
abbrev v59_23 : VC := (.seq (.seq (.ops o59_2) v59_20) v59_22)
abbrev v59_24 : VC := (.seq (.ops o59_1) v59_23)
def ir59 : FC := ⟨1, 36, [.t 2], (.seq (.ops o59_0) v59_24)⟩
abbrev o60_0 : List Ins := [⟨(some 2), .mv (.k (.c (.raw (.slice none 0 0)))), none, true⟩,
 ⟨(some 3), .mv (.k (.c (.int .i64 0))), none, true⟩]
abbrev o60_1 : List Ins := [⟨(some 7), .mv (.t 0), none, true⟩,
 ⟨(some 8), .call (.k (.fn 61 [])) [(.t 7)], none, true⟩,
 ⟨(some 6), .mv (.t 8), none, true⟩,
 ⟨(some 9), .ext (.t 6) 0, none, true⟩,
 ⟨(some 10), .ext (.t 6) 1, none, true⟩,
 ⟨(some 4), .mv (.t 9), none, true⟩,
 ⟨(some 5), .mv (.t 10), none, true⟩]
abbrev o60_2 : List Ins := [⟨(some 11), .mv (.t 5), none, true⟩,
 ⟨(some 12), .un .not (.t 11), none, true⟩]
abbrev o60_3 : List Ins := [⟨(some 2), .mv (.k (.c (.raw (.slice none 0 0)))), none, true⟩,
 ⟨(some 3), .mv (.k (.c (.int .i64 140))), none, true⟩]
abbrev v60_4 : VC := (.seq (.ops o60_3) .ret)
abbrev v60_5 : VC := (.cond (.t 12) v60_4 .skip)
abbrev o60_6 : List Ins := [⟨(some 13), .mv (.t 4), none, true⟩,
 ⟨(some 14), .call (.k (.fn 66 [])) [(.t 13)], none, true⟩,
 ⟨(some 4), .mv (.t 14), none, true⟩]
abbrev o60_7 : List Ins := [⟨(some 15), .mv (.t 4), none, true⟩,
 ⟨(some 16), .call (.k (.fn 62 [])) [(.t 15)], none, true⟩,
 ⟨(some 17), .len (.t 16), none, true⟩,
 ⟨(some 18), .bin .gtr (.t 17) (.k (.c (.int .i64 0))), none, true⟩]
abbrev o60_8 : List Ins := [⟨(some 2), .mv (.k (.c (.raw (.slice none 0 0)))), none, true⟩,
 ⟨(some 3), .mv (.k (.c (.int .i64 141))), none, true⟩]
abbrev v60_9 : VC := (.seq (.ops o60_8) .ret)
abbrev v60_10 : VC := (.cond (.t 18) v60_9 .skip)
abbrev o60_11 : List Ins := [⟨(some 19), .mv (.t 4), none, true⟩,
 ⟨(some 20), .call (.k (.fn 63 [])) [(.t 19), (.k (.c (.bool true)))], none, true⟩,
 ⟨(some 21), .len (.t 20), none, true⟩,
 ⟨(some 22), .mv (.t 4), none, true⟩,
 ⟨(some 23), .call (.k (.fn 63 [])) [(.t 22), (.k (.c (.bool false)))], none, true⟩,
 ⟨(some 24), .len (.t 23), none, true⟩,
 ⟨(some 25), .bin .add (.t 21) (.t 24), none, true⟩,
 ⟨(some 26), .bin .gtr (.t 25) (.k (.c (.int .i64 0))), none, true⟩]
abbrev o60_12 : List Ins := [⟨(some 2), .mv (.k (.c (.raw (.slice none 0 0)))), none, true⟩,
 ⟨(some 3), .mv (.k (.c (.int .i64 142))), none, true⟩]
abbrev v60_13 : VC := (.seq (.ops o60_12) .ret)
abbrev v60_14 : VC := (.cond (.t 26) v60_13 .skip)
abbrev o60_15 : List Ins := [⟨(some 27), .mv (.t 4), none, true⟩,
 ⟨(some 2), .mv (.t 27), none, true⟩,
 ⟨(some 3), .mv (.k (.c (.int .i64 0))), none, true⟩]
abbrev v60_16 : VC := (.seq (.ops o60_15) .ret)
abbrev v60_17 : VC := (.seq (.seq (.ops o60_11) v60_14) v60_16)
abbrev v60_18 : VC := (.seq (.seq (.ops o60_7) v60_10) v60_17)
abbrev v60_19 : VC := (.seq (.ops o60_6) v60_18)
abbrev v60_20 : VC := (.seq (.seq (.ops o60_2) v60_5) v60_19)
abbrev v60_21 : VC := (.seq (.ops o60_1) v60_20)
def ir60 : FC := ⟨1, 28, [.t 2, .t 3], (.seq (.ops o60_0) v60_21)⟩
abbrev o28_0 : List Ins := [⟨(some 2), .mv (.k (.c (.str []))), none, true⟩,
 ⟨(some 3), .mv (.k (.c (.int .i64 0))), none, true⟩]
abbrev o28_1 : List Ins := [⟨(some 7), .mv (.t 0), none, true⟩,
 ⟨(some 8), .call (.k (.fn 60 [])) [(.t 7)], none, true⟩,
 ⟨(some 6), .mv (.t 8), none, true⟩,
 ⟨(some 9), .ext (.t 6) 0, none, true⟩,
 ⟨(some 10), .ext (.t 6) 1, none, true⟩,
 ⟨(some 4), .mv (.t 9), none, true⟩,
 ⟨(some 5), .mv (.t 10), none, true⟩]
abbrev o28_2 : List Ins := [⟨(some 11), .mv (.t 4), none, true⟩,
 ⟨(some 12), .call (.k (.fn 59 [])) [(.t 11)], none, true⟩,
 ⟨(some 13), .mv (.t 5), none, true⟩,
 ⟨(some 2), .mv (.t 12), none, true⟩,
 ⟨(some 3), .mv (.t 13), none, true⟩]
abbrev v28_3 : VC := (.seq (.ops o28_2) .ret)
abbrev v28_4 : VC := (.seq (.ops o28_1) v28_3)
def ir28 : FC := ⟨1, 14, [.t 2, .t 3], (.seq (.ops o28_0) v28_4)⟩
theorem c59 : compM Tryd.prog [] 59 = some ir59 := by kernel_rfl
theorem c60 : compM Tryd.prog [] 60 = some ir60 := by kernel_rfl
theorem c28 : compM Tryd.prog [] 28 = some ir28 := by kernel_rfl
attribute [local go_sem] Nat.reduceEqDiff Nat.reduceAdd Nat.reduceMul reduceIte Nat.reduceLeDiff Nat.reduceLT Nat.reduceBEq reduceCtorEq
def ValsOk (g : List (List Int)) : Prop := ∀ l ∈ g, l.length ≤ 1000 ∧ ∀ n ∈ l, -1 ≤ n ∧ n < 94
theorem GOw.valsOk {n w : Nat} {g : List (List Int)} (h : GOw n w g) (hw : w ≤ 1000) : ValsOk g := by
 intro l hl
 obtain ⟨i, hi, rfl⟩ := List.getElem_of_mem hl
 have hi2 : i < n := by rw [← h.len]; exact hi
 have e : g.getD i [] = g[i] := by rw [List.getD_eq_getElem?_getD, List.getElem?_eq_getElem hi]; rfl
 have hr := h.row i hi2
 rw [e] at hr
 refine ⟨by omega, fun m hm => ?_⟩
 obtain ⟨k, hk, rfl⟩ := List.getElem_of_mem hm
 have := h.val i k hi2 (by omega)
 unfold valAt at this
 simp only [e] at this
 rwa [List.getD_eq_getElem?_getD, List.getElem?_eq_getElem hk] at this
theorem bytesG_snoc {g : List (List Int)} {k : Nat} (h : k < g.length) : textG (bytesG (g.take (k + 1))) = textG (bytesG (g.take k)) ++ ((g[k]).map sgn ++ [10]) := by
 unfold textG bytesG
 rw [List.take_succ_eq_append_getElem h, List.map_append, List.flatMap_append]
 simp
theorem take_map_snoc {l : List Int} {k : Nat} (h : k < l.length) : (l.take (k + 1)).map sgn = (l.take k).map sgn ++ [sgn l[k]] := by
 rw [List.take_succ_eq_append_getElem h, List.map_append]; rfl
theorem textB_len (g : List (List Int)) (h : ValsOk g) : ∀ k, k ≤ g.length → (textG (bytesG (g.take k))).length ≤ k * 1001
 | 0, _ => by simp [textG, bytesG]
 | k + 1, hk => by
  have ih := textB_len g h k (by omega)
  rw [bytesG_snoc (by omega)]
  have := (h _ (List.getElem_mem (show k < g.length by omega))).1
  simp
  omega
set_option maxRecDepth 20000 in
set_option maxHeartbeats 8000000 in
theorem text59 {g : List (List Int)} (h : ValsOk g) (hg : g.length ≤ 1000) : FSpec Tryd.prog 59 [.c (gridC g)] (sv (textG (bytesG g))) := by
 have hmax : maxLen = 9223372036854775807 := rfl
 refine FSpec_ofP c59 (Nat.le_refl _) (by decide) fun C hP hN hC hpin hL => ?_; rw [init_st]
 simp only [ir59]
 (repeat ((first | refine Va ?_ | refine Vb ?_ | refine Vc ?_ | refine Vd ?_ | refine Ve ?_ | refine Vf ?_); (try simp only [go_sem, hP]); (repeat refine qJ ?_)))
 refine WV_loopK K59_1 [] (fun k : Nat => k ≤ g.length) (fun k => g.length - k) (fun k => [(4, iv k), (3, sv (textG (bytesG (g.take k))))]) (fun _ => []) 0 (Nat.zero_le _) ?_ ?_
 ·(refine Sub_of (by simp only [go_sem]; ((repeat' (first | exact EnvLe_e0 _ _ | refine EnvLe_upd ?_ ?_)) <;> ((try simp only [upd_app, e0_app, o0_app, Nat.reduceEqDiff, reduceIte]); first | exact AWk.refl _ _ | exact AWk.int (by omega) | exact AWk.int (by rw [w64 (by omega) (by omega)]; omega) | exact AWk.grow rfl | exact AWk.nil _ | exact AWk.of (by simp [textG, bytesG])))) (by simp only [go_sem]; exact ObjLe_au))
 ·intro k hk0
  simp only [go_sem]
  (repeat ((first | refine Va ?_ | refine Vb ?_ | refine Vc ?_ | refine Vd ?_ | refine Ve ?_ | refine Vf ?_); (try simp only [go_sem, hP, gridC, List.length_map]); (repeat refine qJ ?_)))
  (refine WV_cond rfl (fun h => ?_) (fun h => ?_))
  ·have hk : k < g.length := by simpa using h
   have hw2 := w64 (n := (k : Int) + 1) (by omega) (by omega)
   have hv := ‹ValsOk g› _ (List.getElem_mem hk)
   have htl := textB_len g (by assumption) k (by omega)
   have htl2 : k * 1001 ≤ 1000 * 1001 := Nat.mul_le_mul (by omega) (Nat.le_refl _)
   have hsn := bytesG_snoc hk
   generalize textG (bytesG (g.take k)) = T at htl hsn
   generalize hrow : g[k] = row at hv hsn
   have hgr : (g.map fun l => [rowC l]).getD k [] = [.sl 1 (row.map fun n => [CD.int .i64 n])] := by rw [map_getD hk, hrow]; rfl
   (refine WV_skip ?_; simp only [go_sem])
   refine WV_seq_ (WV_block (WV_seq_ (WV_seq_ ?_)))
   (refine WV_op ?_; simp only [go_sem, hP]; (repeat refine qJ ?_))
   refine WV_block ?_
   refine WV_loopK K59_2 [] (fun i : Nat => i ≤ row.length) (fun i => row.length - i) (fun i => [(5, iv i), (3, sv (T ++ (row.take i).map sgn))]) (fun _ => []) 0 (Nat.zero_le _) ?_ ?_
   ·exact Sub_au
   ·intro i hi0
    simp only [go_sem]
    (repeat ((first | refine Va ?_ | refine Vb ?_ | refine Vc ?_ | refine Vd ?_ | refine Ve ?_ | refine Vf ?_); (try simp only [go_sem, hP, gridC, hgr, List.length_map, Int.toNat_natCast, Int.ofNat_lt, hk, Int.natCast_nonneg]); (repeat refine qJ ?_)))
    (refine WV_cond rfl (fun h => ?_) (fun h => ?_))
    ·have hi : i < row.length := by simpa using h
     have hw3 := w64 (n := (i : Int) + 1) (by omega) (by omega)
     have hvi := hv.2 _ (List.getElem_mem hi)
     have hir : (row.map fun n => [CD.int .i64 n]).getD i [] = [.int .i64 row[i]] := map_getD hi
     have hts := take_map_snoc hi
     (refine WV_skip ?_; simp only [go_sem])
     refine WV_seq_ (WV_block ?_)
     have hlt : (T ++ (row.take i).map sgn).length + 1 ≤ 2000000 := by simp; omega
     (refine WV_op ?_; simp only [go_sem, hP, hgr, hir, List.length_map, Int.toNat_natCast, Int.ofNat_lt, hk, hi, Int.natCast_nonneg]; (repeat refine qJ ?_))
     refine AS_pure (byte86 hvi) rfl rfl rfl rfl rfl ?_
     simp only [go_sem]
     refine raw_bs (s := [sgn row[i]]) (e := 5) (x' := .t 30) (by kernel_rfl) (by kernel_rfl) (by kernel_rfl) rfl rfl rfl ?_
     simp only [go_sem, List.length_cons, List.length_nil]
     (repeat refine qJ ?_)
     (repeat ((first | refine Va ?_ | refine Vb ?_ | refine Vc ?_ | refine Vd ?_ | refine Ve ?_ | refine Vf ?_); (try simp only [go_sem, hP, hw3]); (repeat refine qJ ?_)))
     refine ⟨i + 1, by omega, by omega, ?_⟩
     rw [hts, ← List.append_assoc]
     exact Sub_au
    ·have hi : i = row.length := by simp at h; omega
     subst hi
     rw [List.take_length]
     refine WV_exit ?_
     simp only [thenQ, inQ, reduceIte, beq_self_eq_true]
     have hlt : (T ++ row.map sgn).length + 1 ≤ 2000000 := by simp; omega
     (repeat ((first | refine Va ?_ | refine Vb ?_ | refine Vc ?_ | refine Vd ?_ | refine Ve ?_ | refine Vf ?_); (try simp only [go_sem, hP, hw2, List.length_cons, List.length_nil]); (repeat refine qJ ?_)))
     refine ⟨k + 1, by omega, by omega, ?_⟩
     rw [hsn, ← List.append_assoc]
     exact Sub_au
  ·have hk : k = g.length := by simp at h; omega
   subst hk
   rw [List.take_length]
   (repeat ((first | refine Va ?_ | refine Vb ?_ | refine Vc ?_ | refine Vd ?_ | refine Ve ?_ | refine Vf ?_); (try simp only [go_sem, hP]); (repeat refine qJ ?_)))
   (refine WV_ret ?_; simp only [thenQ, inQ, RetQ, RetOk, resAll, resA]; simp only [go_sem, tupA, AV.port, AV.portL, exists_eq_left']; (first | exact AVle.of rfl | refine AVle.of ?_ | skip))
def restoredG (s : List UInt8) : List (List Int) × Int := match parseP s with
 | none => ([], 140)
 | some rows => if (marksG (sheetG rows) rows.length).length ≠ 0 then ([], 141)
  else if (badL (sheetG rows) true (manyL (sheetG rows) true)).length + (badL (sheetG rows) false (manyL (sheetG rows) false)).length ≠ 0 then ([], 142) else (sheetG rows, 0)
theorem sheet_is {s : List UInt8} {rows : List (List UInt8)} (h : parseP s = some rows) : GOk (valsG rows) ∧ 0 < wid (valsG rows) ∧ restG (valsG rows).length (wid (valsG rows)) (valsG rows) = sheetG rows ∧ GOk (sheetG rows) ∧ (sheetG rows).length = rows.length ∧ GOw rows.length (rows.headD []).length (sheetG rows) ∧ 2 ≤ (rows.headD []).length ∧ (rows.headD []).length ≤ 32 ∧ rows.length ≤ 41 ∧ wid (sheetG rows) = (rows.headD []).length := by
 have hok := (parse_is h).2
 have h1 := vals_gok hok
 have h2 := vals_wid hok
 have h3 := hok.w2
 have h4 := sheet_gow hok rfl
 have h5 := h4.gok hok.pos hok.len hok.w32
 refine ⟨h1, by omega, ?_, h5.1, h5.2.2, h4, h3, hok.w32, hok.len, h5.2.1⟩
 unfold sheetG
 rw [vals_len, h2]
theorem ncd_len (l : List Nat) : (l.map ncd).length = l.length := List.length_map _
set_option maxRecDepth 20000 in
set_option maxHeartbeats 8000000 in
theorem restored60 (s : List UInt8) (hs : s.length ≤ 100000) : FSpec Tryd.prog 60 [sv s] (.tup [.c (gridC (restoredG s).1), iv (restoredG s).2]) := by
 have hmax : maxLen = 9223372036854775807 := rfl
 have hp := parse61D s hs
 refine FSpec_ofP c60 (Nat.le_refl _) (by decide) fun C hP hN hC hpin hL => ?_; rw [init_st]
 simp only [ir60]
 (repeat ((first | refine Va ?_ | refine Vb ?_ | refine Vc ?_ | refine Vd ?_ | refine Ve ?_ | refine Vf ?_); (try simp only [go_sem, hP]); (repeat refine qJ ?_)))
 (refine AS_pu (hp) ?_; simp only [go_sem, hP]; (repeat refine qJ ?_); (repeat ((first | refine Va ?_ | refine Vb ?_ | refine Vc ?_ | refine Vd ?_ | refine Ve ?_ | refine Vf ?_); (try simp only [go_sem, hP]); (repeat refine qJ ?_))))
 cases hq : parseP s with
 | none =>
  have hr : restoredG s = ([], 140) := by unfold restoredG; rw [hq]
  rw [hr, retR_none hq]
  (refine WV_cond rfl (fun h => ?_) (fun h => ?_))
  ·(repeat ((first | refine Va ?_ | refine Vb ?_ | refine Vc ?_ | refine Vd ?_ | refine Ve ?_ | refine Vf ?_); (try simp only [go_sem, hP]); (repeat refine qJ ?_)))
   (refine WV_ret ?_; simp only [thenQ, inQ, RetQ, RetOk, resAll, resA]; simp only [go_sem, tupA, AV.port, AV.portL, exists_eq_left'])
   exact AVle.tup ⟨_, _, rfl, AVle.nil 1, _, _, rfl, AVle.refl _, rfl⟩
  ·simp at h
 | some rows =>
  obtain ⟨g1, g2, g3, g4, g5, g6, g7, g8, g9, g10⟩ := sheet_is hq
  have hr : restoredG s = if (marksG (sheetG rows) rows.length).length ≠ 0 then ([], 141)
   else if (badL (sheetG rows) true (manyL (sheetG rows) true)).length + (badL (sheetG rows) false (manyL (sheetG rows) false)).length ≠ 0 then ([], 142) else (sheetG rows, 0) := by unfold restoredG; rw [hq]
  have hre := restored66 g1 g2
  rw [g3] at hre
  have hmk := marks62 g4
  have hb1 := bad63 g4 true
  have hb2 := bad63 g4 false
  rw [g5] at hmk
  have l1 := badL_len (sheetG rows) true (manyL (sheetG rows) true)
  have l2 := badL_len (sheetG rows) false (manyL (sheetG rows) false)
  have hm1 : manyL (sheetG rows) true ≤ 41 := by unfold manyL; rw [if_pos rfl]; omega
  have hm2 : manyL (sheetG rows) false ≤ 32 := by unfold manyL; rw [if_neg (by decide)]; omega
  rw [hr, retR_some hq]
  generalize marksG (sheetG rows) rows.length = M at hmk ⊢
  generalize badL (sheetG rows) true (manyL (sheetG rows) true) = B1 at hb1 l1 ⊢
  generalize badL (sheetG rows) false (manyL (sheetG rows) false) = B2 at hb2 l2 ⊢
  (refine WV_cond rfl (fun h => ?_) (fun h => ?_))
  ·simp at h
  (repeat ((first | refine Va ?_ | refine Vb ?_ | refine Vc ?_ | refine Vd ?_ | refine Ve ?_ | refine Vf ?_); (try simp only [go_sem, hP]); (repeat refine qJ ?_)))
  (refine AS_pu (hre) ?_; simp only [go_sem, hP]; (repeat refine qJ ?_); (repeat ((first | refine Va ?_ | refine Vb ?_ | refine Vc ?_ | refine Vd ?_ | refine Ve ?_ | refine Vf ?_); (try simp only [go_sem, hP]); (repeat refine qJ ?_))))
  (refine AS_pu (hmk) ?_; simp only [go_sem, hP, marksC, List.length_map]; (repeat refine qJ ?_); (repeat ((first | refine Va ?_ | refine Vb ?_ | refine Vc ?_ | refine Vd ?_ | refine Ve ?_ | refine Vf ?_); (try simp only [go_sem, hP, marksC, List.length_map]); (repeat refine qJ ?_))))
  by_cases hM : M.length = 0
  ·rw [if_neg (by simp; exact List.eq_nil_of_length_eq_zero hM)]
   have hw3 := w64 (n := (B1.length : Int) + (B2.length : Int)) (by omega) (by omega)
   (refine WV_cond rfl (fun h => ?_) (fun h => ?_))
   ·simp at h; omega
   (repeat ((first | refine Va ?_ | refine Vb ?_ | refine Vc ?_ | refine Vd ?_ | refine Ve ?_ | refine Vf ?_); (try simp only [go_sem, hP]); (repeat refine qJ ?_)))
   (refine AS_pu (hb1) ?_; simp only [go_sem, hP, natsC, ncd_len]; (repeat refine qJ ?_); (repeat ((first | refine Va ?_ | refine Vb ?_ | refine Vc ?_ | refine Vd ?_ | refine Ve ?_ | refine Vf ?_); (try simp only [go_sem, hP, natsC, ncd_len]); (repeat refine qJ ?_))))
   (refine AS_pu (hb2) ?_; simp only [go_sem, hP, natsC, ncd_len, hw3]; (repeat refine qJ ?_); (repeat ((first | refine Va ?_ | refine Vb ?_ | refine Vc ?_ | refine Vd ?_ | refine Ve ?_ | refine Vf ?_); (try simp only [go_sem, hP, natsC, ncd_len, hw3]); (repeat refine qJ ?_))))
   by_cases hB : B1.length + B2.length = 0
   ·rw [if_neg (by omega)]
    (refine WV_cond rfl (fun h => ?_) (fun h => ?_))
    ·simp at h; omega
    (repeat ((first | refine Va ?_ | refine Vb ?_ | refine Vc ?_ | refine Vd ?_ | refine Ve ?_ | refine Vf ?_); (try simp only [go_sem, hP]); (repeat refine qJ ?_)))
    (refine WV_ret ?_; simp only [thenQ, inQ, RetQ, RetOk, resAll, resA]; simp only [go_sem, tupA, AV.port, AV.portL, exists_eq_left'])
    exact AVle.refl _
   ·rw [if_pos hB]
    (refine WV_cond rfl (fun h => ?_) (fun h => ?_))
    ·(repeat ((first | refine Va ?_ | refine Vb ?_ | refine Vc ?_ | refine Vd ?_ | refine Ve ?_ | refine Vf ?_); (try simp only [go_sem, hP]); (repeat refine qJ ?_)))
     (refine WV_ret ?_; simp only [thenQ, inQ, RetQ, RetOk, resAll, resA]; simp only [go_sem, tupA, AV.port, AV.portL, exists_eq_left'])
     exact AVle.tup ⟨_, _, rfl, AVle.nil 1, _, _, rfl, AVle.refl _, rfl⟩
    ·simp at h; omega
  ·rw [if_pos hM]
   (refine WV_cond rfl (fun h => ?_) (fun h => ?_))
   ·(repeat ((first | refine Va ?_ | refine Vb ?_ | refine Vc ?_ | refine Vd ?_ | refine Ve ?_ | refine Vf ?_); (try simp only [go_sem, hP]); (repeat refine qJ ?_)))
    (refine WV_ret ?_; simp only [thenQ, inQ, RetQ, RetOk, resAll, resA]; simp only [go_sem, tupA, AV.port, AV.portL, exists_eq_left'])
    exact AVle.tup ⟨_, _, rfl, AVle.nil 1, _, _, rfl, AVle.refl _, rfl⟩
   ·simp at h; exact (hM (by rw [h]; rfl)).elim
theorem restoredG_ok {s : List UInt8} : ValsOk (restoredG s).1 ∧ (restoredG s).1.length ≤ 1000 := by
 unfold restoredG
 cases hq : parseP s with
 | none => exact ⟨fun l hl => (by cases hl), (by simp)⟩
 | some rows =>
  obtain ⟨g1, g2, g3, g4, g5, g6, g7, g8, g9, g10⟩ := sheet_is hq
  simp only
  split
  ·exact ⟨fun l hl => (by cases hl), (by simp)⟩
  ·split
   ·exact ⟨fun l hl => (by cases hl), (by simp)⟩
   ·exact ⟨g6.valsOk (by omega), by simp only; omega⟩
theorem mend28 (s : List UInt8) (hs : s.length ≤ 100000) : FSpec Tryd.prog 28 [sv s] (.tup [sv (textG (bytesG (restoredG s).1)), iv (restoredG s).2]) := by
 have hp := restored60 s hs
 have ht := text59 (restoredG_ok (s := s)).1 (restoredG_ok (s := s)).2
 refine FSpec_ofP c28 (Nat.le_refl _) (by decide) fun C hP hN hC hpin hL => ?_; rw [init_st]
 simp only [ir28]
 (repeat ((first | refine Va ?_ | refine Vb ?_ | refine Vc ?_ | refine Vd ?_ | refine Ve ?_ | refine Vf ?_); (try simp only [go_sem, hP]); (repeat refine qJ ?_)))
 (refine AS_pu (hp) ?_; simp only [go_sem, hP]; (repeat refine qJ ?_); (repeat ((first | refine Va ?_ | refine Vb ?_ | refine Vc ?_ | refine Vd ?_ | refine Ve ?_ | refine Vf ?_); (try simp only [go_sem, hP]); (repeat refine qJ ?_))))
 (refine AS_pu (ht) ?_; simp only [go_sem, hP]; (repeat refine qJ ?_); (repeat ((first | refine Va ?_ | refine Vb ?_ | refine Vc ?_ | refine Vd ?_ | refine Ve ?_ | refine Vf ?_); (try simp only [go_sem, hP]); (repeat refine qJ ?_))))
 (refine WV_ret ?_; simp only [thenQ, inQ, RetQ, RetOk, resAll, resA]; simp only [go_sem, tupA, AV.port, AV.portL, exists_eq_left'])
 exact AVle.refl _
end Go.Proofs.YtlmfdmlochpfcaaDoor

namespace Go.Proofs.YtlmfdmlochpfcaaDoor
open Go Go.V
abbrev o27_0 : List Ins := [⟨(some 2), .mv (.k (.c (.raw (.slice none 0 0)))), none, true⟩,
 ⟨(some 3), .mv (.k (.c (.int .i64 0))), none, true⟩]
abbrev o27_1 : List Ins := [⟨(some 11), .mv (.t 0), none, true⟩,
 ⟨(some 12), .call (.k (.fn 60 [])) [(.t 11)], none, true⟩,
 ⟨(some 10), .mv (.t 12), none, true⟩,
 ⟨(some 13), .ext (.t 10) 0, none, true⟩,
 ⟨(some 14), .ext (.t 10) 1, none, true⟩,
 ⟨(some 4), .mv (.t 13), none, true⟩,
 ⟨(some 5), .mv (.t 14), none, true⟩]
abbrev o27_2 : List Ins := [⟨(some 15), .mv (.t 5), none, true⟩,
 ⟨(some 16), .bin .neq (.t 15) (.k (.c (.int .i64 0))), none, true⟩]
abbrev o27_3 : List Ins := [⟨(some 17), .mv (.t 5), none, true⟩,
 ⟨(some 2), .mv (.k (.c (.raw (.slice none 0 0)))), none, true⟩,
 ⟨(some 3), .mv (.t 17), none, true⟩]
abbrev v27_4 : VC := (.seq (.ops o27_3) .ret)
abbrev v27_5 : VC := (.cond (.t 16) v27_4 .skip)
abbrev o27_6 : List Ins := [⟨(some 6), .mv (.k (.c (.raw (.slice none 0 0)))), none, true⟩]
abbrev o27_7 : List Ins := [⟨(some 7), .mv (.k (.c (.int .i64 0))), none, true⟩]
abbrev o27_8 : List Ins := [⟨(some 18), .mv (.t 7), none, true⟩,
 ⟨(some 19), .bin .add (.t 18) (.k (.c (.int .i64 1))), none, true⟩,
 ⟨(some 20), .mv (.t 4), none, true⟩,
 ⟨(some 21), .len (.t 20), none, true⟩,
 ⟨(some 22), .bin .lss (.t 19) (.t 21), none, true⟩]
abbrev v27_9 : VC := (.cond (.t 22) .skip (.exit 0))
abbrev o27_10 : List Ins := [⟨(some 25), .mv (.t 4), none, true⟩,
 ⟨(some 26), .mv (.t 7), none, true⟩,
 ⟨(some 27), .ia 1 (.t 25) (.t 26), none, true⟩,
 ⟨(some 28), .ld true 1 (.t 27), none, true⟩,
 ⟨(some 29), .bsl 50 1 [(.t 28)], none, true⟩,
 ⟨(some 30), .call (.k (.fn 59 [])) [(.t 29)], none, true⟩,
 ⟨(some 8), .mv (.t 30), none, true⟩]
abbrev o27_11 : List Ins := [⟨(some 31), .mv (.t 8), none, true⟩,
 ⟨(some 32), .prim .slen [(.t 31)], none, true⟩,
 ⟨(some 33), .bin .sub (.t 32) (.k (.c (.int .i64 3))), none, true⟩,
 ⟨(some 9), .mv (.t 33), none, true⟩]
abbrev o27_12 : List Ins := [⟨(some 34), .mv (.t 9), none, true⟩,
 ⟨(some 35), .bin .geq (.t 34) (.k (.c (.int .i64 0))), none, true⟩,
 ⟨(some 36), .mv (.t 35), none, true⟩,
 ⟨(some 37), .mv (.t 8), (some (36, true)), true⟩,
 ⟨(some 38), .mv (.t 9), (some (36, true)), true⟩,
 ⟨(some 39), .prim .sidx [(.t 37), (.t 38)], (some (36, true)), true⟩,
 ⟨(some 40), .bin .eql (.t 39) (.k (.c (.int .u8 32))), (some (36, true)), true⟩,
 ⟨(some 41), .pick (.t 36) (.t 40) (.k (.c (.bool false))), none, true⟩]
abbrev v27_13 : VC := (.cond (.t 41) .skip (.exit 2))
abbrev o27_14 : List Ins := [⟨(some 42), .mv (.t 9), none, true⟩,
 ⟨(some 43), .bin .sub (.t 42) (.k (.c (.int .i64 1))), none, true⟩,
 ⟨(some 9), .mv (.t 43), none, true⟩]
abbrev v27_15 : VC := (.block 3 (.ops o27_14))
abbrev v27_16 : VC := (.seq (.seq (.ops o27_12) v27_13) v27_15)
-- K27_2: changed and kept: [9]
abbrev K27_2 : List Nat := [4, 6, 7, 8]
abbrev v27_17 : VC := (.loop v27_16)
abbrev o27_18 : List Ins := [⟨(some 44), .mv (.t 9), none, true⟩,
 ⟨(some 45), .bin .lss (.t 44) (.k (.c (.int .i64 0))), none, true⟩,
 ⟨(some 46), .mv (.t 45), none, true⟩,
 ⟨(some 47), .mv (.t 8), (some (46, false)), true⟩,
 ⟨(some 48), .mv (.t 9), (some (46, false)), true⟩,
 ⟨(some 49), .prim .sidx [(.t 47), (.t 48)], (some (46, false)), true⟩,
 ⟨(some 50), .bin .neq (.t 49) (.k (.c (.int .u8 124))), (some (46, false)), true⟩,
 ⟨(some 51), .pick (.t 46) (.k (.c (.bool true))) (.t 50), none, true⟩]
abbrev o27_19 : List Ins := [⟨(some 2), .mv (.k (.c (.raw (.slice none 0 0)))), none, true⟩,
 ⟨(some 3), .mv (.k (.c (.int .i64 143))), none, true⟩]
abbrev v27_20 : VC := (.seq (.ops o27_19) .ret)
abbrev v27_21 : VC := (.cond (.t 51) v27_20 .skip)
abbrev o27_22 : List Ins := [⟨(some 52), .mv (.t 6), none, true⟩,
 ⟨(some 53), .mv (.t 8), none, true⟩,
 ⟨(some 54), .mv (.t 9), none, true⟩,
 ⟨(some 55), .prim (.sslc false true) [(.t 53), (.t 54)], none, true⟩,
 ⟨(some 56), .bsl 9 1 [(.t 55)], none, true⟩,
 ⟨(some 57), .app 9 1 16 (.t 52) (.t 56), none, true⟩,
 ⟨(some 6), .mv (.t 57), none, true⟩]
abbrev v27_23 : VC := (.seq (.seq (.ops o27_18) v27_21) (.ops o27_22))
abbrev v27_24 : VC := (.seq (.block 2 v27_17) v27_23)
abbrev v27_25 : VC := (.seq (.ops o27_11) v27_24)
abbrev v27_26 : VC := (.seq (.ops o27_10) v27_25)
abbrev o27_27 : List Ins := [⟨(some 23), .mv (.t 7), none, true⟩,
 ⟨(some 24), .bin .add (.t 23) (.k (.c (.int .i64 1))), none, true⟩,
 ⟨(some 7), .mv (.t 24), none, true⟩]
abbrev v27_28 : VC := (.seq (.block 1 v27_26) (.ops o27_27))
abbrev v27_29 : VC := (.seq (.seq (.ops o27_8) v27_9) v27_28)
-- K27_1: changed and kept: [7, 6]
abbrev K27_1 : List Nat := [4]
abbrev v27_30 : VC := (.loop v27_29)
abbrev v27_31 : VC := (.block 0 v27_30)
abbrev o27_32 : List Ins := [⟨(some 58), .mv (.t 6), none, true⟩,
 ⟨(some 2), .mv (.t 58), none, true⟩,
 ⟨(some 3), .mv (.k (.c (.int .i64 0))), none, true⟩]
abbrev v27_33 : VC := (.seq (.ops o27_32) .ret)
abbrev v27_34 : VC := (.seq (.seq (.ops o27_7) v27_31) v27_33)
abbrev v27_35 : VC := (.seq (.ops o27_6) v27_34)
abbrev v27_36 : VC := (.seq (.seq (.ops o27_2) v27_5) v27_35)
abbrev v27_37 : VC := (.seq (.ops o27_1) v27_36)
def ir27 : FC := ⟨1, 59, [.t 2, .t 3], (.seq (.ops o27_0) v27_37)⟩
theorem c27 : compM Tryd.prog [] 27 = some ir27 := by kernel_rfl
attribute [local go_sem] Nat.reduceEqDiff Nat.reduceAdd Nat.reduceMul reduceIte Nat.reduceLeDiff Nat.reduceLT Nat.reduceBEq reduceCtorEq
def readR (s : List UInt8) : List (List UInt8) × Int := if (restoredG s).2 = 0 then (if (bytesG (restoredG s).1).dropLast.all isTxR then ((bytesG (restoredG s).1).dropLast.map txtR, 0) else ([], 143)) else ([], (restoredG s).2)
theorem trim_take {r : List UInt8} {m : Nat} (h : m < r.length) : trimR 32 (r.take (m + 1)) = if r[m] = 32 then trimR 32 (r.take m) else r.take (m + 1) := by
 rw [List.take_succ_eq_append_getElem h, trimR_snoc]
theorem take_map_snoc' {l : List (List UInt8)} {k : Nat} (f : List UInt8 → List UInt8) (h : k < l.length) : (l.take (k + 1)).map (fun r => [CD.str (f r)]) = (l.take k).map (fun r => [CD.str (f r)]) ++ [[CD.str (f l[k])]] := by
 rw [List.take_succ_eq_append_getElem h, List.map_append]; rfl
theorem restored_some {s : List UInt8} (h : (restoredG s).2 = 0) : ∃ rows, parseP s = some rows ∧ (restoredG s).1 = sheetG rows := by
 unfold restoredG at h ⊢
 cases hq : parseP s with
 | none => rw [hq] at h; cases h
 | some rows =>
  rw [hq] at h
  simp only at h ⊢
  refine ⟨rows, rfl, ?_⟩
  split at h
  ·cases h
  ·split at h
   ·cases h
   ·rename_i h1 h2
    rw [if_neg h1, if_neg h2]
set_option maxRecDepth 20000 in
set_option maxHeartbeats 16000000 in
theorem read27 (s : List UInt8) (hs : s.length ≤ 100000) : FSpec Tryd.prog 27 [sv s] (.tup [.c (strsV (readR s).1), iv (readR s).2]) := by
 have hmax : maxLen = 9223372036854775807 := rfl
 have hp := restored60 s hs
 refine FSpec_ofP c27 (Nat.le_refl _) (by decide) fun C hP hN hC hpin hL => ?_; rw [init_st]
 simp only [ir27]
 (repeat ((first | refine Va ?_ | refine Vb ?_ | refine Vc ?_ | refine Vd ?_ | refine Ve ?_ | refine Vf ?_); (try simp only [go_sem, hP]); (repeat refine qJ ?_)))
 (refine AS_pu (hp) ?_; simp only [go_sem, hP]; (repeat refine qJ ?_); (repeat ((first | refine Va ?_ | refine Vb ?_ | refine Vc ?_ | refine Vd ?_ | refine Ve ?_ | refine Vf ?_); (try simp only [go_sem, hP]); (repeat refine qJ ?_))))
 by_cases h0 : (restoredG s).2 = 0
 ·obtain ⟨rows, hq, hg⟩ := restored_some h0
  obtain ⟨g1, g2, g3, g4, g5, g6, g7, g8, g9, g10⟩ := sheet_is hq
  have hr : readR s = if (bytesG (sheetG rows)).dropLast.all isTxR then ((bytesG (sheetG rows)).dropLast.map txtR, 0) else ([], 143) := by unfold readR; rw [if_pos h0, hg]
  rw [hr, h0, hg]
  generalize hG : sheetG rows = g at g4 g5 g6 g10 ⊢
  generalize (rows.headD []).length = w at g6 g7 g8 g10
  have hn : g.length = rows.length := g5
  have hbl := bytesG_len g
  have hpos : 0 < g.length := g4.pos
  have hrow : ∀ k (hk : k < g.length), (g[k]).length = w := fun k hk => by
   have := g6.row k (by omega)
   rwa [List.getD_eq_getElem?_getD, List.getElem?_eq_getElem hk] at this
  have hvo := g6.valsOk (by omega)
  (refine WV_cond rfl (fun h => ?_) (fun h => ?_))
  ·simp at h
  (repeat ((first | refine Va ?_ | refine Vb ?_ | refine Vc ?_ | refine Vd ?_ | refine Ve ?_ | refine Vf ?_); (try simp only [go_sem, hP]); (repeat refine qJ ?_)))
  refine WV_nilslot 6 57 9 1 (by decide) (by decide) rfl rfl ?_
  simp only [go_sem]
  refine WV_loopK K27_1 [57] (fun k : Nat => k + 1 ≤ g.length ∧ ((bytesG g).dropLast.take k).all isTxR = true) (fun k => g.length - k) (fun k => [(7, iv k), (6, .gr 57)]) (fun k => [(57, .grow 9 1 (((bytesG g).dropLast.take k).map fun r => [CD.str (txtR r)]))]) 0 ⟨by omega, rfl⟩ ?_ ?_
  ·exact Sub_au
  ·intro k ⟨hk0, hal⟩
   simp only [go_sem]
   have hw1 := w64 (n := (k : Int) + 1) (by omega) (by omega)
   (repeat ((first | refine Va ?_ | refine Vb ?_ | refine Vc ?_ | refine Vd ?_ | refine Ve ?_ | refine Vf ?_); (try simp only [go_sem, hP, gridC, List.length_map, hw1]); (repeat refine qJ ?_)))
   (refine WV_cond rfl (fun h => ?_) (fun h => ?_))
   ·have hk1 : k + 1 < g.length := by simp at h; omega
    have hk : k < g.length := by omega
    have hkd : k < (bytesG g).dropLast.length := by rw [List.length_dropLast, hbl]; omega
    have hgr : (g.map fun l => [rowC l]).getD k [] = [rowC g[k]] := map_getD hk
    have htx := text59 (g := [g[k]]) (fun l hl => by simp only [List.mem_singleton] at hl; subst hl; exact hvo _ (List.getElem_mem hk)) (by simp)
    have htt : textG (bytesG [g[k]]) = (g[k]).map sgn ++ [10] := by simp [textG, bytesG]
    have hrd : (bytesG g).dropLast[k] = (g[k]).map sgn := by rw [List.getElem_dropLast]; simp [bytesG]
    have hrl : ((g[k]).map sgn).length = w := by rw [List.length_map, hrow k hk]
    rw [htt] at htx
    have hsn := take_map_snoc' txtR hkd
    have hall := all_snoc isTxR hkd
    have hbad := all_take_false isTxR hkd
    rw [hrd] at hsn hall hbad
    generalize (g[k]).map sgn = r at htx hrl hsn hall hbad
    have hrt : rowT r = trimR 32 (r.take (w - 1)) := by unfold rowT; rw [List.dropLast_eq_take, hrl]
    (refine WV_skip ?_; simp only [go_sem])
    refine WV_seq_ (WV_block (WV_seq_ ?_))
    (refine WV_op ?_; simp only [go_sem, hP, gridC, hgr, List.length_map, Int.toNat_natCast, Int.ofNat_lt, hk, Int.natCast_nonneg]; (repeat refine qJ ?_))
    have htx2 : FSpec Tryd.prog 59 [.c (.sl 1 [[rowC g[k]]])] (sv (r ++ [10])) := htx
    refine AS_pure htx2 rfl rfl rfl rfl rfl ?_
    simp only [go_sem]
    have hlr : (r ++ [(10 : UInt8)]).length = w + 1 := by simp [hrl]
    have hw3 := w64 (n := (((w + 1 : Nat) : Int)) - 3) (by omega) (by omega)
    have hg0 : ∀ m, m < w → (r ++ [(10 : UInt8)]).getD m 0 = r.getD m 0 := fun m hm => by
     rw [List.getD_eq_getElem?_getD, List.getElem?_append_left (by omega), ← List.getD_eq_getElem?_getD]
    have nd1 : ∀ l : List (List UInt8), ((l.map fun r => [CD.str (txtR r)]).all fun e => e.length == 1) = true := by
     intro l; rw [List.all_eq_true]; intro e he; obtain ⟨n, _, rfl⟩ := List.mem_map.1 he; rfl
    have nd2 := nd1 ((bytesG g).dropLast.take k)
    have nd3 : (((bytesG g).dropLast.take k).map fun r => [CD.str (txtR r)]).length = k := by rw [List.length_map, List.length_take]; omega
    generalize (((bytesG g).dropLast.take k).map fun r => [CD.str (txtR r)]) = TX at nd2 nd3 hsn
    refine WV_seq_ ?_
    (refine WV_op ?_; simp only [go_sem, hP, hlr, hw3]; (repeat refine qJ ?_))
    refine WV_seq_ (WV_block ?_)
    refine WV_loopK K27_2 [] (fun m : Nat => m ≤ w - 1 ∧ trimR 32 (r.take (w - 1)) = trimR 32 (r.take m)) (fun m => m) (fun m => [(9, iv ((m : Int) - 1))]) (fun _ => []) (w - 1) ⟨Nat.le_refl _, rfl⟩ ?_ ?_
    ·(refine Sub_of (by simp only [go_sem]; ((repeat' (first | exact EnvLe_e0 _ _ | refine EnvLe_upd ?_ ?_)) <;> ((try simp only [upd_app, e0_app, o0_app, Nat.reduceEqDiff, reduceIte]); first | exact AWk.refl _ _ | exact AWk.int (by omega) | exact AWk.int (by rw [w64 (by omega) (by omega)]; omega) | exact AWk.grow rfl | exact AWk.nil _ | exact AWk.of (by omega)))) (by simp only [go_sem]; exact ObjLe_au))
    ·intro m ⟨hm0, hm1⟩
     simp only [go_sem]
     have hw4 := w64 (n := (m : Int) - 1 - 1) (by omega) (by omega)
     by_cases hmz : m = 0
     ·subst hmz
      have hnb : isTxR r = false := by
       unfold isTxR
       rw [hrt, hm1]
       rfl
      rw [hbad hnb, if_neg (by simp)]
      (repeat ((first | refine Va ?_ | refine Vb ?_ | refine Vc ?_ | refine Vd ?_ | refine Ve ?_ | refine Vf ?_); (try simp only [go_sem, hP, hlr]); (repeat refine qJ ?_)))
      (refine WV_cond rfl (fun h => ?_) (fun h => ?_))
      ·simp at h
      refine WV_exit ?_
      simp only [thenQ, inQ, reduceIte, beq_self_eq_true]
      (repeat ((first | refine Va ?_ | refine Vb ?_ | refine Vc ?_ | refine Vd ?_ | refine Ve ?_ | refine Vf ?_); (try simp only [go_sem, hP, hlr]); (repeat refine qJ ?_)))
      (refine WV_cond rfl (fun h => ?_) (fun h => ?_))
      ·(repeat ((first | refine Va ?_ | refine Vb ?_ | refine Vc ?_ | refine Vd ?_ | refine Ve ?_ | refine Vf ?_); (try simp only [go_sem, hP]); (repeat refine qJ ?_)))
       (refine WV_ret ?_; simp only [thenQ, inQ, RetQ, RetOk, resAll, resA]; simp only [go_sem, tupA, AV.port, AV.portL, exists_eq_left'])
       exact AVle.tup ⟨_, _, rfl, AVle.nil 1, _, _, rfl, AVle.refl _, rfl⟩
      ·simp at h
     ·have hm2 : m - 1 < r.length := by omega
      have hmi : ((m : Int) - 1).toNat = m - 1 := by omega
      have hgm : (r ++ [(10 : UInt8)]).getD (m - 1) 0 = r[m - 1] := by rw [hg0 _ (by omega), str_at hm2]
      have htt2 := trim_take hm2
      rw [show m - 1 + 1 = m by omega] at htt2
      (repeat ((first | refine Va ?_ | refine Vb ?_ | refine Vc ?_ | refine Vd ?_ | refine Ve ?_ | refine Vf ?_); (try simp only [go_sem, hP, hlr, hmi, hgm]); (repeat refine qJ ?_)))
      by_cases h32 : r[m - 1] = 32
      ·rw [if_pos h32] at htt2
       rw [h32]
       (refine WV_cond rfl (fun h => ?_) (fun h => ?_))
       ·(refine WV_skip ?_; simp only [go_sem])
        refine WV_block ?_
        (refine WV_op ?_; simp only [go_sem, hP, hw4]; (repeat refine qJ ?_))
        refine ⟨m - 1, ⟨by omega, hm1.trans htt2⟩, by omega, ?_⟩
        (refine Sub_of (by simp only [go_sem]; ((repeat' (first | exact EnvLe_e0 _ _ | refine EnvLe_upd ?_ ?_)) <;> ((try simp only [upd_app, e0_app, o0_app, Nat.reduceEqDiff, reduceIte]); first | exact AWk.refl _ _ | exact AWk.int (by omega) | exact AWk.int (by rw [w64 (by omega) (by omega)]; omega) | exact AWk.grow rfl | exact AWk.nil _ | exact AWk.of (by omega)))) (by simp only [go_sem]; exact ObjLe_au))
       ·simp at h; omega
      ·rw [if_neg h32] at htt2
       have hb32 : ((r[m - 1].toNat : Int) == 32) = false := by
        rw [beq_eq_false_iff_ne]
        exact fun e => h32 (UInt8.toNat_inj.1 (by show _ = 32; omega))
       (refine WV_cond rfl (fun h => ?_) (fun h => ?_))
       ·rw [hb32] at h; simp at h
       refine WV_exit ?_
       simp only [thenQ, inQ, reduceIte, beq_self_eq_true]
       have hrm : rowT r = r.take m := by rw [hrt, hm1, htt2]
       have hlast2 : (r.take m).getLast? = some r[m - 1] := by
        rw [List.getLast?_eq_getElem?, List.length_take, show min m r.length - 1 = m - 1 by omega, List.getElem?_take, if_pos (by omega), List.getElem?_eq_getElem hm2]
       (repeat ((first | refine Va ?_ | refine Vb ?_ | refine Vc ?_ | refine Vd ?_ | refine Ve ?_ | refine Vf ?_); (try simp only [go_sem, hP, hlr, hmi, hgm]); (repeat refine qJ ?_)))
       by_cases h124 : r[m - 1] = 124
       ·have htx1 : isTxR r = true := by
         unfold isTxR endsB
         rw [hrm, hlast2, h124]; rfl
        have htx2 : txtR r = r.take (m - 1) := by
         unfold txtR cutB
         have he : endsB (rowT r) 124 = true := htx1
         rw [if_pos he, hrm, List.dropLast_eq_take, List.length_take, List.take_take]
         congr 1; omega
        rw [hal, htx1] at hall
        rw [htx2] at hsn
        have hsl : (r ++ [(10 : UInt8)]).take (m - 1) = r.take (m - 1) := by rw [List.take_append_of_le_length (by omega)]
        rw [h124]
        (refine WV_cond rfl (fun h => ?_) (fun h => ?_))
        ·simp at h; omega
        (refine WV_skip ?_; simp only [go_sem])
        (refine WV_op ?_; simp only [go_sem, hP, hlr, hmi, hsl, nd2, nd3]; (repeat refine qJ ?_))
        (repeat ((first | refine Va ?_ | refine Vb ?_ | refine Vc ?_ | refine Vd ?_ | refine Ve ?_ | refine Vf ?_); (try simp only [go_sem, hP, hw1]); (repeat refine qJ ?_)))
        refine ⟨k + 1, ⟨by omega, hall⟩, by omega, ?_⟩
        rw [hsn]
        exact Sub_au
       ·have hb124 : ((r[m - 1].toNat : Int) == 124) = false := by
         rw [beq_eq_false_iff_ne]
         exact fun e => h124 (UInt8.toNat_inj.1 (by show _ = 124; omega))
        have hnb : isTxR r = false := by
         unfold isTxR endsB
         rw [hrm, hlast2]
         simpa using h124
        rw [hbad hnb, if_neg (by simp)]
        (refine WV_cond rfl (fun h => ?_) (fun h => ?_))
        ·(repeat ((first | refine Va ?_ | refine Vb ?_ | refine Vc ?_ | refine Vd ?_ | refine Ve ?_ | refine Vf ?_); (try simp only [go_sem, hP]); (repeat refine qJ ?_)))
         (refine WV_ret ?_; simp only [thenQ, inQ, RetQ, RetOk, resAll, resA]; simp only [go_sem, tupA, AV.port, AV.portL, exists_eq_left'])
         exact AVle.tup ⟨_, _, rfl, AVle.nil 1, _, _, rfl, AVle.refl _, rfl⟩
        ·simp [bne, hb124] at h
   ·have hk1 : k + 1 = g.length := by simp at h; omega
    have htk : (bytesG g).dropLast.take k = (bytesG g).dropLast := List.take_of_length_le (by rw [List.length_dropLast, hbl]; omega)
    rw [htk] at hal ⊢
    rw [hal, if_pos rfl]
    (repeat ((first | refine Va ?_ | refine Vb ?_ | refine Vc ?_ | refine Vd ?_ | refine Ve ?_ | refine Vf ?_); (try simp only [go_sem, hP]); (repeat refine qJ ?_)))
    (refine WV_ret ?_; simp only [thenQ, inQ, RetQ, RetOk, resAll, resA]; simp only [go_sem, tupA, AV.port, AV.portL, exists_eq_left']; (first | exact AVle.of rfl | refine AVle.of ?_ | skip))
    simp [strsV, List.map_map]; rfl
 ·have hr : readR s = ([], (restoredG s).2) := by unfold readR; rw [if_neg h0]
  rw [hr]
  (refine WV_cond rfl (fun h => ?_) (fun h => ?_))
  ·(repeat ((first | refine Va ?_ | refine Vb ?_ | refine Vc ?_ | refine Vd ?_ | refine Ve ?_ | refine Vf ?_); (try simp only [go_sem, hP]); (repeat refine qJ ?_)))
   (refine WV_ret ?_; simp only [thenQ, inQ, RetQ, RetOk, resAll, resA]; simp only [go_sem, tupA, AV.port, AV.portL, exists_eq_left'])
   exact AVle.tup ⟨_, _, rfl, AVle.nil 1, _, _, rfl, AVle.refl _, rfl⟩
  ·simp at h; exact (h0 h).elim
end Go.Proofs.YtlmfdmlochpfcaaDoor

namespace Go.Proofs.YtlmfdmlochpfcaaDoor
open Go Go.V
theorem posL_mem {n w i : Nat} {b : Bool} {p : Nat × Nat} : p ∈ posL n w i b ↔ if b then p.1 = i ∧ p.2 < w else p.2 = i ∧ p.1 < n := by
 unfold posL
 cases b
 ·simp only [Bool.false_eq_true, if_false, List.mem_map, List.mem_range]
  constructor
  ·rintro ⟨k, hk, rfl⟩; exact ⟨rfl, hk⟩
  ·rintro ⟨rfl, h⟩; exact ⟨p.1, h, rfl⟩
 ·simp only [if_true, List.mem_map, List.mem_range]
  constructor
  ·rintro ⟨k, hk, rfl⟩; exact ⟨rfl, hk⟩
  ·rintro ⟨rfl, h⟩; exact ⟨p.2, h, rfl⟩
theorem posL_row_mem {n w i : Nat} {p : Nat × Nat} : p ∈ posL n w i true ↔ p.1 = i ∧ p.2 < w := by rw [posL_mem]; simp
theorem allP_mem {n w : Nat} {l : List (Nat × Nat)} : l ∈ allP n w ↔ (∃ i, i < n ∧ l = posL n w i true) ∨ (∃ k, k < w ∧ l = posL n w k false) := by
 simp only [allP, List.mem_append, List.mem_map, List.mem_range]
 constructor
 ·rintro (⟨i, h, rfl⟩ | ⟨i, h, rfl⟩)
  ·exact .inl ⟨i, h, rfl⟩
  ·exact .inr ⟨i, h, rfl⟩
 ·rintro (⟨i, h, rfl⟩ | ⟨i, h, rfl⟩)
  ·exact .inl ⟨i, h, rfl⟩
  ·exact .inr ⟨i, h, rfl⟩
theorem lostL_mem {g : List (List Int)} {l : List (Nat × Nat)} {p : Nat × Nat} : p ∈ lostL g l ↔ p ∈ l ∧ valAt g p = -1 := by simp [lostL]
end Go.Proofs.YtlmfdmlochpfcaaDoor

namespace Go.Proofs.YtlmfdmlochpfcaaDoor
open Go Go.V
end Go.Proofs.YtlmfdmlochpfcaaDoor

namespace Go.Proofs.YtlmfdmlochpfcaaDoor
open Go Go.V
theorem noLost_iff {n w : Nat} {g : List (List Int)} : noLost n w g = true ↔ ∀ i k, i < n → k < w → valAt g (i, k) ≠ -1 := by
 unfold noLost
 rw [List.all_eq_true]
 constructor
 ·intro h i k hi hk hv
  have := h _ (allP_mem.2 (.inl ⟨i, hi, rfl⟩))
  simp only [beq_iff_eq] at this
  have hm : (i, k) ∈ lostL g (posL n w i true) := lostL_mem.2 ⟨posL_row_mem.2 ⟨rfl, hk⟩, hv⟩
  rw [List.eq_nil_of_length_eq_zero this] at hm
  cases hm
 ·intro h l hl
  simp only [beq_iff_eq]
  rw [List.length_eq_zero_iff, List.eq_nil_iff_forall_not_mem]
  intro p hp
  obtain ⟨h1, h2⟩ := lostL_mem.1 hp
  obtain ⟨k1, k2⟩ := allP_in hl p h1
  exact h p.1 p.2 k1 k2 h2
theorem marks_iff {n : Nat} {g : List (List Int)} : (marksG g n).length = 0 ↔ ∀ i k, i < n → k < wid g → valAt g (i, k) ≠ -1 := by
 rw [List.length_eq_zero_iff, List.eq_nil_iff_forall_not_mem]
 unfold marksG
 constructor
 ·intro h i k hi hk hv
  refine h (i, k) ?_
  rw [List.mem_flatMap]
  exact ⟨i, List.mem_range.2 hi, lostL_mem.2 ⟨posL_row_mem.2 ⟨rfl, hk⟩, hv⟩⟩
 ·intro h p hp
  rw [List.mem_flatMap] at hp
  obtain ⟨i, hi, hp⟩ := hp
  obtain ⟨h1, h2⟩ := lostL_mem.1 hp
  have h1 := posL_row_mem.1 h1
  have := h i p.2 (List.mem_range.1 hi) h1.2
  rw [← h1.1] at this
  exact this h2
theorem noLack_iff {n w : Nat} {g : List (List Int)} (hn : g.length = n) (hw : wid g = w) : noLack n w g = true ↔ (badL g true (manyL g true)).length + (badL g false (manyL g false)).length = 0 := by
 have hb : ∀ b k, (badL g b k).length = 0 ↔ ∀ i, i < k → lackL g (posL n w i b) = 0 := by
  intro b k
  rw [List.length_eq_zero_iff]
  unfold badL
  rw [List.filter_eq_nil_iff]
  constructor
  ·intro h i hi
   have := h i (List.mem_range.2 hi)
   rw [line_pos, hn, hw] at this
   simpa using this
  ·intro h i hi
   rw [line_pos, hn, hw, h i (List.mem_range.1 hi)]
   simp
 have h1 := hb true (manyL g true)
 have h2 := hb false (manyL g false)
 unfold manyL at h1 h2 ⊢
 simp only [if_true, Bool.false_eq_true, if_false] at h1 h2 ⊢
 rw [hn] at h1 ⊢
 rw [hw] at h2 ⊢
 unfold noLack
 rw [List.all_eq_true]
 constructor
 ·intro h
  have e1 := h1.2 fun i hi => by have := h _ (allP_mem.2 (.inl ⟨i, hi, rfl⟩)); simpa using this
  have e2 := h2.2 fun i hi => by have := h _ (allP_mem.2 (.inr ⟨i, hi, rfl⟩)); simpa using this
  omega
 ·intro h l hl
  rcases allP_mem.1 hl with ⟨i, hi, rfl⟩ | ⟨i, hi, rfl⟩
  ·simpa using h1.1 (by omega) i hi
  ·simpa using h2.1 (by omega) i hi
theorem whole_eq (s : List UInt8) : (wholeG s).2 = (restoredG s).2 ∧ ((wholeG s).2 = 0 → (wholeG s).1 = (restoredG s).1) ∧ ((restoredG s).2 ≠ 0 → (restoredG s).1 = []) := by
 cases hq : parseP s with
 | none =>
  have e1 : wholeG s = ([], 140) := by unfold wholeG; rw [hq]
  have e2 : restoredG s = ([], 140) := by unfold restoredG; rw [hq]
  rw [e1, e2]
  exact ⟨rfl, fun h => (by cases h), fun _ => rfl⟩
 | some rows =>
  obtain ⟨g1, g2, g3, g4, g5, g6, g7, g8, g9, g10⟩ := sheet_is hq
  have e1 : wholeG s = if noLost rows.length (rows.headD []).length (sheetG rows) then (sheetG rows, if noLack rows.length (rows.headD []).length (sheetG rows) then 0 else 142) else ([], 141) := by unfold wholeG; rw [hq]
  have e2 : restoredG s = if (marksG (sheetG rows) rows.length).length ≠ 0 then ([], 141)
   else if (badL (sheetG rows) true (manyL (sheetG rows) true)).length + (badL (sheetG rows) false (manyL (sheetG rows) false)).length ≠ 0 then ([], 142) else (sheetG rows, 0) := by unfold restoredG; rw [hq]
  have h1 := noLost_iff (n := rows.length) (w := (rows.headD []).length) (g := sheetG rows)
  have h2 := marks_iff (n := rows.length) (g := sheetG rows)
  have h3 := noLack_iff (g := sheetG rows) g5 g10
  rw [g10] at h2
  rw [← h2] at h1
  by_cases hl : noLost rows.length (rows.headD []).length (sheetG rows) = true
  ·rw [if_pos hl] at e1
   rw [if_neg (by rw [h1.1 hl]; simp)] at e2
   by_cases hk : noLack rows.length (rows.headD []).length (sheetG rows) = true
   ·rw [if_pos hk] at e1
    rw [if_neg (by rw [h3.1 hk]; simp)] at e2
    rw [e1, e2]
    exact ⟨rfl, fun _ => rfl, fun h => (h rfl).elim⟩
   ·rw [if_neg hk] at e1
    rw [if_pos fun h => hk (h3.2 h)] at e2
    rw [e1, e2]
    exact ⟨rfl, fun h => (by cases h), fun _ => rfl⟩
  ·rw [if_neg hl] at e1
   rw [if_pos fun h => hl (h1.2 h)] at e2
   rw [e1, e2]
   exact ⟨rfl, fun h => (by cases h), fun _ => rfl⟩
theorem read_eq (s : List UInt8) : readG s = readR s := by
 obtain ⟨h1, h2, h3⟩ := whole_eq s
 unfold readG readR
 rw [h1] at h2 ⊢
 by_cases h : (restoredG s).2 = 0
 ·rw [if_pos h, if_pos h, h2 h]
 ·rw [if_neg h, if_neg h]
theorem mend_eq (s : List UInt8) : mendG s = (textG (bytesG (restoredG s).1), (restoredG s).2) := by
 obtain ⟨h1, h2, h3⟩ := whole_eq s
 unfold mendG
 rw [h1] at h2 ⊢
 by_cases h : (restoredG s).2 = 0
 ·rw [if_pos h, h2 h, h]
 ·rw [if_neg h, h3 h]; rfl
end Go.Proofs.YtlmfdmlochpfcaaDoor

namespace Go.Proofs.YtlmfdmlochpfcaaDoor
open Go Go.V
abbrev o21_0 : List Ins := [⟨(some 4), .mv (.k (.c (.bool false))), none, true⟩]
abbrev o21_1 : List Ins := [⟨(some 6), .mv (.t 0), none, true⟩,
 ⟨(some 7), .len (.t 6), none, true⟩,
 ⟨(some 8), .mv (.t 1), none, true⟩,
 ⟨(some 9), .len (.t 8), none, true⟩,
 ⟨(some 10), .bin .neq (.t 7) (.t 9), none, true⟩]
abbrev o21_2 : List Ins := [⟨(some 4), .mv (.k (.c (.bool false))), none, true⟩]
abbrev v21_3 : VC := (.seq (.ops o21_2) .ret)
abbrev v21_4 : VC := (.cond (.t 10) v21_3 .skip)
abbrev o21_5 : List Ins := [⟨(some 5), .mv (.k (.c (.int .i64 0))), none, true⟩]
abbrev o21_6 : List Ins := [⟨(some 11), .mv (.t 5), none, true⟩,
 ⟨(some 12), .mv (.t 0), none, true⟩,
 ⟨(some 13), .len (.t 12), none, true⟩,
 ⟨(some 14), .bin .lss (.t 11) (.t 13), none, true⟩]
abbrev v21_7 : VC := (.cond (.t 14) .skip (.exit 0))
abbrev o21_8 : List Ins := [⟨(some 17), .mv (.t 0), none, false⟩,
 ⟨(some 18), .mv (.t 5), none, false⟩,
 ⟨(some 19), .ia 1 (.t 17) (.t 18), none, false⟩,
 ⟨(some 20), .ld true 1 (.t 19), none, false⟩,
 ⟨(some 21), .mv (.t 1), none, false⟩,
 ⟨(some 22), .mv (.t 5), none, false⟩,
 ⟨(some 23), .ia 1 (.t 21) (.t 22), none, false⟩,
 ⟨(some 24), .ld true 1 (.t 23), none, false⟩,
 ⟨(some 25), .prim (.sbin .neq) [(.t 20), (.t 24)], none, true⟩]
abbrev o21_9 : List Ins := [⟨(some 4), .mv (.k (.c (.bool false))), none, true⟩]
abbrev v21_10 : VC := (.seq (.ops o21_9) .ret)
abbrev v21_11 : VC := (.cond (.t 25) v21_10 .skip)
abbrev v21_12 : VC := (.seq (.dops o21_8) v21_11)
abbrev o21_13 : List Ins := [⟨(some 15), .mv (.t 5), none, true⟩,
 ⟨(some 16), .bin .add (.t 15) (.k (.c (.int .i64 1))), none, true⟩,
 ⟨(some 5), .mv (.t 16), none, true⟩]
abbrev v21_14 : VC := (.seq (.block 1 v21_12) (.ops o21_13))
abbrev v21_15 : VC := (.seq (.seq (.ops o21_6) v21_7) v21_14)
-- K21_1: changed and kept: [5]
abbrev K21_1 : List Nat := [0, 1]
abbrev v21_16 : VC := (.loop v21_15)
abbrev v21_17 : VC := (.block 0 v21_16)
abbrev o21_18 : List Ins := [⟨(some 4), .mv (.k (.c (.bool true))), none, true⟩]
abbrev v21_19 : VC := (.seq (.ops o21_18) .ret)
abbrev v21_20 : VC := (.seq (.seq (.ops o21_5) v21_17) v21_19)
abbrev v21_21 : VC := (.seq (.seq (.ops o21_1) v21_4) v21_20)
def ir21 : FC := ⟨2, 26, [.t 4], (.seq (.ops o21_0) v21_21)⟩
abbrev o16_0 : List Ins := [⟨(some 0), .mv (.k (.c (.bool false))), none, true⟩]
abbrev o16_1 : List Ins := [⟨(some 13), .bsl 9 1 [(.k (.c (.str [97, 98]))), (.k (.c (.str [99])))], none, true⟩,
 ⟨(some 14), .call (.k (.fn 24 [])) [(.t 13)], none, true⟩,
 ⟨(some 12), .mv (.t 14), none, true⟩,
 ⟨(some 15), .ext (.t 12) 0, none, true⟩,
 ⟨(some 16), .ext (.t 12) 1, none, true⟩,
 ⟨(some 1), .mv (.t 15), none, true⟩,
 ⟨(some 2), .mv (.t 16), none, true⟩]
abbrev o16_2 : List Ins := [⟨(some 18), .call (.k (.fn 18 [])) [(.k (.c (.str [97, 63, 63, 95, 10, 99, 124, 32, 64, 10, 91, 65, 63, 33, 10])))], none, true⟩,
 ⟨(some 17), .mv (.t 18), none, true⟩,
 ⟨(some 19), .ext (.t 17) 0, none, true⟩,
 ⟨(some 20), .ext (.t 17) 1, none, true⟩,
 ⟨(some 3), .mv (.t 19), none, true⟩,
 ⟨(some 4), .mv (.t 20), none, true⟩]
abbrev o16_3 : List Ins := [⟨(some 22), .call (.k (.fn 20 [])) [(.k (.c (.str [97, 98, 124, 95, 10, 99, 124, 32, 64, 10, 91, 65, 35, 33, 10])))], none, true⟩,
 ⟨(some 21), .mv (.t 22), none, true⟩,
 ⟨(some 23), .ext (.t 21) 0, none, true⟩,
 ⟨(some 24), .ext (.t 21) 1, none, true⟩,
 ⟨(some 5), .mv (.t 23), none, true⟩,
 ⟨(some 6), .mv (.t 24), none, true⟩]
abbrev o16_4 : List Ins := [⟨(some 26), .call (.k (.fn 31 [])) [(.k (.c (.str [63, 63, 124, 95, 10, 63, 63, 32, 64, 10, 91, 65, 35, 33, 10])))], none, true⟩,
 ⟨(some 25), .mv (.t 26), none, true⟩,
 ⟨(some 27), .ext (.t 25) 0, none, true⟩,
 ⟨(some 28), .ext (.t 25) 1, none, true⟩,
 ⟨(some 7), .mv (.t 27), none, true⟩,
 ⟨(some 8), .mv (.t 28), none, true⟩]
abbrev o16_5 : List Ins := [⟨(some 30), .call (.k (.fn 23 [])) [(.k (.c (.str [97, 98, 124, 95, 10, 100, 124, 32, 64, 10, 91, 65, 35, 33, 10])))], none, true⟩,
 ⟨(some 29), .mv (.t 30), none, true⟩,
 ⟨(some 31), .ext (.t 29) 0, none, true⟩,
 ⟨(some 32), .ext (.t 29) 1, none, true⟩,
 ⟨(some 33), .ext (.t 29) 2, none, true⟩,
 ⟨(some 9), .alloc [(.c (.int .i64 0)), (.c (.int .i64 0))], none, true⟩,
 ⟨none, .st 2 (.t 9) (.t 31), none, true⟩,
 ⟨(some 10), .mv (.t 32), none, true⟩,
 ⟨(some 11), .mv (.t 33), none, true⟩]
abbrev o16_6 : List Ins := [⟨(some 34), .mv (.t 2), none, true⟩,
 ⟨(some 35), .bin .eql (.t 34) (.k (.c (.int .i64 0))), none, true⟩,
 ⟨(some 36), .mv (.t 35), none, true⟩,
 ⟨(some 37), .mv (.t 4), (some (36, true)), true⟩,
 ⟨(some 38), .bin .eql (.t 37) (.k (.c (.int .i64 0))), (some (36, true)), true⟩,
 ⟨(some 39), .pick (.t 36) (.t 38) (.k (.c (.bool false))), none, true⟩,
 ⟨(some 40), .mv (.t 39), none, true⟩,
 ⟨(some 41), .mv (.t 6), (some (40, true)), true⟩,
 ⟨(some 42), .bin .eql (.t 41) (.k (.c (.int .i64 0))), (some (40, true)), true⟩,
 ⟨(some 43), .pick (.t 40) (.t 42) (.k (.c (.bool false))), none, true⟩,
 ⟨(some 44), .mv (.t 43), none, true⟩,
 ⟨(some 45), .mv (.t 8), (some (44, true)), true⟩,
 ⟨(some 46), .bin .eql (.t 45) (.k (.c (.int .i64 0))), (some (44, true)), true⟩,
 ⟨(some 47), .pick (.t 44) (.t 46) (.k (.c (.bool false))), none, true⟩,
 ⟨(some 48), .mv (.t 47), none, true⟩,
 ⟨(some 49), .mv (.t 11), (some (48, true)), true⟩,
 ⟨(some 50), .bin .eql (.t 49) (.k (.c (.int .i64 0))), (some (48, true)), true⟩,
 ⟨(some 51), .pick (.t 48) (.t 50) (.k (.c (.bool false))), none, true⟩,
 ⟨(some 52), .mv (.t 51), none, true⟩,
 ⟨(some 53), .mv (.t 1), (some (52, true)), true⟩,
 ⟨(some 54), .prim (.sbin .eql) [(.t 53), (.k (.c (.str [97, 98, 124, 95, 10, 99, 124, 32, 64, 10, 91, 65, 35, 33, 10])))], (some (52, true)), true⟩,
 ⟨(some 55), .pick (.t 52) (.t 54) (.k (.c (.bool false))), none, true⟩,
 ⟨(some 56), .mv (.t 55), none, true⟩,
 ⟨(some 57), .mv (.t 3), (some (56, true)), true⟩,
 ⟨(some 58), .prim (.sbin .eql) [(.t 57), (.k (.c (.str [97, 98, 124, 95, 10, 99, 124, 32, 64, 10, 91, 65, 35, 33, 10])))], (some (56, true)), true⟩,
 ⟨(some 59), .pick (.t 56) (.t 58) (.k (.c (.bool false))), none, true⟩,
 ⟨(some 60), .mv (.t 59), none, true⟩,
 ⟨(some 61), .mv (.t 5), (some (60, true)), true⟩,
 ⟨(some 62), .bsl 9 1 [(.k (.c (.str [97, 98]))), (.k (.c (.str [99])))], (some (60, true)), true⟩,
 ⟨(some 63), .call (.k (.fn 21 [])) [(.t 61), (.t 62)], (some (60, true)), true⟩,
 ⟨(some 64), .pick (.t 60) (.t 63) (.k (.c (.bool false))), none, true⟩,
 ⟨(some 65), .mv (.t 64), none, true⟩,
 ⟨(some 66), .mv (.t 7), (some (65, true)), true⟩,
 ⟨(some 67), .bin .eql (.t 66) (.k (.c (.int .i64 1))), (some (65, true)), true⟩,
 ⟨(some 68), .pick (.t 65) (.t 67) (.k (.c (.bool false))), none, true⟩,
 ⟨(some 69), .mv (.t 68), none, true⟩,
 ⟨(some 70), .ld false 2 (.t 9), (some (69, true)), true⟩,
 ⟨(some 71), .bld [(.c (.int .i64 0)), (.c (.int .i64 0))] [(0, 1, (.k (.c (.int .i64 1))))], (some (69, true)), true⟩,
 ⟨(some 72), .seq false [(0, true), (1, true)] (.t 70) (.t 71), (some (69, true)), true⟩,
 ⟨(some 73), .pick (.t 69) (.t 72) (.k (.c (.bool false))), none, true⟩,
 ⟨(some 74), .mv (.t 73), none, true⟩,
 ⟨(some 75), .mv (.t 10), (some (74, true)), true⟩,
 ⟨(some 76), .prim (.sbin .eql) [(.t 75), (.k (.c (.str [97, 98, 124, 95, 10, 99, 124, 32, 64, 10, 91, 65, 35, 33, 10])))], (some (74, true)), true⟩,
 ⟨(some 77), .pick (.t 74) (.t 76) (.k (.c (.bool false))), none, true⟩,
 ⟨(some 0), .mv (.t 77), none, true⟩]
abbrev v16_7 : VC := (.seq (.ops o16_6) .ret)
abbrev v16_8 : VC := (.seq (.ops o16_5) v16_7)
abbrev v16_9 : VC := (.seq (.ops o16_4) v16_8)
abbrev v16_10 : VC := (.seq (.ops o16_3) v16_9)
abbrev v16_11 : VC := (.seq (.ops o16_2) v16_10)
abbrev v16_12 : VC := (.seq (.ops o16_1) v16_11)
def ir16 : FC := ⟨0, 78, [.t 0], (.seq (.ops o16_0) v16_12)⟩
theorem c21 : compM Tryd.prog [] 21 = some ir21 := by kernel_rfl
theorem c16 : compM Tryd.prog [] 16 = some ir16 := by kernel_rfl
attribute [local go_sem] Nat.reduceEqDiff Nat.reduceAdd Nat.reduceMul reduceIte Nat.reduceLeDiff Nat.reduceLT Nat.reduceBEq reduceCtorEq
theorem same21 (a b : List (List UInt8)) (ha : a.length ≤ 1000000) : FSpec Tryd.prog 21 [.c (strsV a), .c (strsV b)] (bv (a == b)) := by
 have hmax : maxLen = 9223372036854775807 := rfl
 refine FSpec_of c21 (Nat.le_refl _) (by decide) fun C hP hN hC hL => ?_; rw [init_st]
 simp only [ir21, strsV]
 (repeat ((first | refine Va ?_ | refine Vb ?_ | refine Vc ?_ | refine Vd ?_ | refine Ve ?_ | refine Vf ?_); (try simp only [go_sem, hP, List.length_map]); (repeat refine qJ ?_)))
 by_cases hl : a.length = b.length
 ·(refine WV_cond rfl (fun h => ?_) (fun h => ?_))
  ·simp [hl] at h
  (repeat ((first | refine Va ?_ | refine Vb ?_ | refine Vc ?_ | refine Vd ?_ | refine Ve ?_ | refine Vf ?_); (try simp only [go_sem, hP]); (repeat refine qJ ?_)))
  refine WV_loopK K21_1 [] (fun k : Nat => k ≤ a.length ∧ ∀ m (hm : m < a.length) (hm2 : m < b.length), m < k → a[m] = b[m]) (fun k => a.length - k) (fun k => [(5, iv k)]) (fun _ => []) 0 ⟨Nat.zero_le _, fun m _ _ h => by omega⟩ ?_ ?_
  ·exact Sub_au
  ·intro k ⟨hk0, hke⟩
   simp only [go_sem]
   (repeat ((first | refine Va ?_ | refine Vb ?_ | refine Vc ?_ | refine Vd ?_ | refine Ve ?_ | refine Vf ?_); (try simp only [go_sem, hP, List.length_map]); (repeat refine qJ ?_)))
   (refine WV_cond rfl (fun h => ?_) (fun h => ?_))
   ·have hk : k < a.length := by simpa using h
    have hkb : k < b.length := by omega
    have hw2 := w64 (n := (k : Int) + 1) (by omega) (by omega)
    (refine WV_skip ?_; simp only [go_sem])
    refine WV_seq_ (WV_block (WV_seq_ ?_))
    (refine WV_op ?_; simp only [go_sem, hP, map_getD hk, map_getD hkb, List.length_map, Int.toNat_natCast, Int.ofNat_lt, hk, hkb, Int.natCast_nonneg]; (repeat refine qJ ?_))
    by_cases he : a[k] = b[k]
    ·(refine WV_cond rfl (fun h => ?_) (fun h => ?_))
     ·simp [he] at h
     ·(repeat ((first | refine Va ?_ | refine Vb ?_ | refine Vc ?_ | refine Vd ?_ | refine Ve ?_ | refine Vf ?_); (try simp only [go_sem, hP, hw2]); (repeat refine qJ ?_)))
      refine ⟨k + 1, ⟨by omega, fun m hm hm2 hmk => ?_⟩, by omega, ?_⟩
      ·by_cases e2 : m = k
       ·subst e2; exact he
       ·exact hke m hm hm2 (by omega)
      ·exact Sub_au
    ·have hne : (a == b) = false := by
      rw [beq_eq_false_iff_ne]
      rintro rfl
      exact he rfl
     rw [hne]
     (refine WV_cond rfl (fun h => ?_) (fun h => ?_))
     ·(repeat ((first | refine Va ?_ | refine Vb ?_ | refine Vc ?_ | refine Vd ?_ | refine Ve ?_ | refine Vf ?_); (try simp only [go_sem, hP]); (repeat refine qJ ?_)))
      (refine WV_ret ?_; simp only [thenQ, inQ, RetQ, RetOk, resAll, resA]; simp only [go_sem, tupA, AV.port, AV.portL, exists_eq_left']; (first | exact AVle.of rfl | refine AVle.of ?_ | skip))
     ·simp [he] at h
   ·have hk : k = a.length := by simp at h; omega
    subst hk
    have heq : (a == b) = true := by
     rw [beq_iff_eq]
     exact List.ext_getElem hl fun m h1 h2 => hke m h1 h2 h1
    rw [heq]
    (repeat ((first | refine Va ?_ | refine Vb ?_ | refine Vc ?_ | refine Vd ?_ | refine Ve ?_ | refine Vf ?_); (try simp only [go_sem, hP]); (repeat refine qJ ?_)))
    (refine WV_ret ?_; simp only [thenQ, inQ, RetQ, RetOk, resAll, resA]; simp only [go_sem, tupA, AV.port, AV.portL, exists_eq_left']; (first | exact AVle.of rfl | refine AVle.of ?_ | skip))
 ·have hne : (a == b) = false := by
   rw [beq_eq_false_iff_ne]
   rintro rfl
   exact hl rfl
  rw [hne]
  (refine WV_cond rfl (fun h => ?_) (fun h => ?_))
  ·(repeat ((first | refine Va ?_ | refine Vb ?_ | refine Vc ?_ | refine Vd ?_ | refine Ve ?_ | refine Vf ?_); (try simp only [go_sem, hP]); (repeat refine qJ ?_)))
   (refine WV_ret ?_; simp only [thenQ, inQ, RetQ, RetOk, resAll, resA]; simp only [go_sem, tupA, AV.port, AV.portL, exists_eq_left']; (first | exact AVle.of rfl | refine AVle.of ?_ | skip))
  ·simp at h; omega
def ex1 : List UInt8 := [97, 98, 124, 95, 10, 99, 124, 32, 64, 10, 91, 65, 35, 33, 10]
theorem ex_write : writeG [[97, 98], [99]] = (ex1, 0) := by kernel_rfl
theorem ex_mend : mendG [97, 63, 63, 95, 10, 99, 124, 32, 64, 10, 91, 65, 63, 33, 10] = (ex1, 0) := by kernel_rfl
theorem ex_read : readG ex1 = ([[97, 98], [99]], 0) := by kernel_rfl
theorem ex_left : leftG [63, 63, 124, 95, 10, 63, 63, 32, 64, 10, 91, 65, 35, 33, 10] = ([(0, 0), (0, 1), (1, 0), (1, 1)], 0) := by kernel_rfl
theorem ex_wrong : wrongG [97, 98, 124, 95, 10, 100, 124, 32, 64, 10, 91, 65, 35, 33, 10] = ((1, 0), ex1, 0) := by kernel_rfl
theorem Conn.inv {ms : List (Nat × Nat)} (f : Int → Bool) (h : ∀ m ∈ ms, f m.1 = f (-1 - m.2)) {x y : Int} (hc : Conn ms x y) : f x = f y := by
 induction hc with
 | refl x => rfl
 | edge hm => exact h _ hm
 | symm _ ih => exact ih.symm
 | trans _ _ ih1 ih2 => exact ih1.trans ih2
theorem ex_circ : (circ [(0, 0), (0, 1), (1, 0), (1, 1)]).length = 1 := by
 have h0 : ¬ Conn ([(0, 0), (0, 1), (1, 0), (1, 1)].take 0) ((0 : Nat) : Int) (-1 - ((0 : Nat) : Int)) := fun h => by
  have := h.inv (fun x => decide (x = 0)) (by decide)
  revert this; decide
 have h1 : ¬ Conn ([(0, 0), (0, 1), (1, 0), (1, 1)].take 1) ((0 : Nat) : Int) (-1 - ((1 : Nat) : Int)) := fun h => by
  have := h.inv (fun x => decide (x = 0 ∨ x = -1)) (by decide)
  revert this; decide
 have h2 : ¬ Conn ([(0, 0), (0, 1), (1, 0), (1, 1)].take 2) ((1 : Nat) : Int) (-1 - ((0 : Nat) : Int)) := fun h => by
  have := h.inv (fun x => decide (x = 1)) (by decide)
  revert this; decide
 have h3 : Conn ([(0, 0), (0, 1), (1, 0), (1, 1)].take 3) ((1 : Nat) : Int) (-1 - ((1 : Nat) : Int)) := by
  have e0 : Conn ([(0, 0), (0, 1), (1, 0), (1, 1)].take 3) ((0 : Nat) : Int) (-1 - ((0 : Nat) : Int)) := .edge (m := (0, 0)) (by simp)
  have e1 : Conn ([(0, 0), (0, 1), (1, 0), (1, 1)].take 3) ((0 : Nat) : Int) (-1 - ((1 : Nat) : Int)) := .edge (m := (0, 1)) (by simp)
  have e2 : Conn ([(0, 0), (0, 1), (1, 0), (1, 1)].take 3) ((1 : Nat) : Int) (-1 - ((0 : Nat) : Int)) := .edge (m := (1, 0)) (by simp)
  exact e2.trans (e0.symm.trans e1)
 unfold circ
 show (circK _ 4).length = 1
 rw [circK_snoc (k := 3) (m := (1, 1)) rfl, circK_snoc (k := 2) (m := (1, 0)) rfl, circK_snoc (k := 1) (m := (0, 1)) rfl, circK_snoc (k := 0) (m := (0, 0)) rfl, if_pos h3, if_neg h2, if_neg h1, if_neg h0]
 rfl
set_option maxRecDepth 20000 in
set_option maxHeartbeats 8000000 in
theorem works16 : FSpec Tryd.prog 16 [] (bv true) := by
 have hmax : maxLen = 9223372036854775807 := rfl
 have h1 := write24 [[97, 98], [99]] (by simp) (by simp)
 have h2 := mend18 [97, 63, 63, 95, 10, 99, 124, 32, 64, 10, 91, 65, 63, 33, 10] (by simp)
 have h3 := read20 ex1 (by decide)
 have h4 := fewest31 [63, 63, 124, 95, 10, 63, 63, 32, 64, 10, 91, 65, 35, 33, 10] (by simp)
 have h5 := wrong23 [97, 98, 124, 95, 10, 100, 124, 32, 64, 10, 91, 65, 35, 33, 10] (by simp)
 have h6 := same21 [[97, 98], [99]] [[97, 98], [99]] (by simp)
 rw [ex_write] at h1
 rw [ex_mend] at h2
 rw [ex_read] at h3
 rw [ex_left, ex_circ] at h4
 rw [ex_wrong] at h5
 have h6' : FSpec Tryd.prog 21 [.c (.sl 1 [[.str [97, 98]], [.str [99]]]), .c (.sl 1 [[.str [97, 98]], [.str [99]]])] (bv true) := h6
 have h1' : FSpec Tryd.prog 24 [.c (.sl 1 [[.str [97, 98]], [.str [99]]])] (.tup [.c (.str ex1), iv 0]) := h1
 unfold ex1 at h1' h2 h3 h5
 clear h1 h6
 refine FSpec_of c16 (Nat.le_refl _) (by decide) fun C hP hN hC hL => ?_; rw [init_st]
 simp only [ir16]
 (repeat ((first | refine Va ?_ | refine Vb ?_ | refine Vc ?_ | refine Vd ?_ | refine Ve ?_ | refine Vf ?_); (try simp only [go_sem, hP]); (repeat refine qJ ?_)))
 (refine AS_pu (h1') ?_; simp only [go_sem, hP]; (repeat refine qJ ?_); (repeat ((first | refine Va ?_ | refine Vb ?_ | refine Vc ?_ | refine Vd ?_ | refine Ve ?_ | refine Vf ?_); (try simp only [go_sem, hP]); (repeat refine qJ ?_))))
 (refine AS_pu (h2) ?_; simp only [go_sem, hP]; (repeat refine qJ ?_); (repeat ((first | refine Va ?_ | refine Vb ?_ | refine Vc ?_ | refine Vd ?_ | refine Ve ?_ | refine Vf ?_); (try simp only [go_sem, hP]); (repeat refine qJ ?_))))
 (refine AS_pu (h3) ?_; simp only [go_sem, hP]; (repeat refine qJ ?_); (repeat ((first | refine Va ?_ | refine Vb ?_ | refine Vc ?_ | refine Vd ?_ | refine Ve ?_ | refine Vf ?_); (try simp only [go_sem, hP]); (repeat refine qJ ?_))))
 (refine AS_pu (h4) ?_; simp only [go_sem, hP]; (repeat refine qJ ?_); (repeat ((first | refine Va ?_ | refine Vb ?_ | refine Vc ?_ | refine Vd ?_ | refine Ve ?_ | refine Vf ?_); (try simp only [go_sem, hP]); (repeat refine qJ ?_))))
 (refine AS_pu (h5) ?_; simp only [go_sem, hP, beq_self_eq_true, Bool.and_self, Bool.true_and, true_implies, Bool.true_eq_false, false_implies, and_true]; (repeat refine qJ ?_); (repeat ((first | refine Va ?_ | refine Vb ?_ | refine Vc ?_ | refine Vd ?_ | refine Ve ?_ | refine Vf ?_); (try simp only [go_sem, hP, beq_self_eq_true, Bool.and_self, Bool.true_and, true_implies, Bool.true_eq_false, false_implies, and_true]); (repeat refine qJ ?_))))
 (refine AG_pu (fun hG => h6') ?_; simp only [go_sem, hP, beq_self_eq_true, Bool.and_self, Bool.true_and, true_implies, Bool.true_eq_false, false_implies, and_true]; (repeat refine qJ ?_); (repeat ((first | refine Va ?_ | refine Vb ?_ | refine Vc ?_ | refine Vd ?_ | refine Ve ?_ | refine Vf ?_); (try simp only [go_sem, hP, beq_self_eq_true, Bool.and_self, Bool.true_and, true_implies, Bool.true_eq_false, false_implies, and_true]); (repeat refine qJ ?_))))
 (refine WV_ret ?_; simp only [thenQ, inQ, RetQ, RetOk, resAll, resA]; simp only [go_sem, tupA, AV.port, AV.portL, exists_eq_left'])
 exact AVle.of rfl
end Go.Proofs.YtlmfdmlochpfcaaDoor

namespace Go.Proofs.YtlmfdmlochpfcaaDoor
open Go Go.V
abbrev o6_0 : List Ins := [⟨(some 2), .mv (.k (.c (.bool false))), none, true⟩]
abbrev o6_1 : List Ins := [⟨(some 11), .mv (.t 0), none, true⟩,
 ⟨(some 12), .call (.k (.fn 26 [])) [(.t 11)], none, true⟩]
abbrev o6_2 : List Ins := [⟨(some 13), .call (.k (.fn 16 [])) [], none, true⟩,
 ⟨(some 2), .mv (.t 13), none, true⟩]
abbrev v6_3 : VC := (.seq (.ops o6_2) .ret)
abbrev v6_4 : VC := (.cond (.t 12) v6_3 .skip)
abbrev o6_5 : List Ins := [⟨(some 15), .mv (.t 0), none, true⟩,
 ⟨(some 16), .call (.k (.fn 20 [])) [(.t 15)], none, true⟩,
 ⟨(some 14), .mv (.t 16), none, true⟩,
 ⟨(some 17), .ext (.t 14) 0, none, true⟩,
 ⟨(some 18), .ext (.t 14) 1, none, true⟩,
 ⟨(some 3), .mv (.t 17), none, true⟩,
 ⟨(some 4), .mv (.t 18), none, true⟩]
abbrev o6_6 : List Ins := [⟨(some 20), .mv (.t 0), none, true⟩,
 ⟨(some 21), .call (.k (.fn 27 [])) [(.t 20)], none, true⟩,
 ⟨(some 19), .mv (.t 21), none, true⟩,
 ⟨(some 22), .ext (.t 19) 0, none, true⟩,
 ⟨(some 23), .ext (.t 19) 1, none, true⟩,
 ⟨(some 5), .mv (.t 22), none, true⟩,
 ⟨(some 6), .mv (.t 23), none, true⟩]
abbrev o6_7 : List Ins := [⟨(some 25), .mv (.t 0), none, true⟩,
 ⟨(some 26), .call (.k (.fn 18 [])) [(.t 25)], none, true⟩,
 ⟨(some 24), .mv (.t 26), none, true⟩,
 ⟨(some 27), .ext (.t 24) 0, none, true⟩,
 ⟨(some 28), .ext (.t 24) 1, none, true⟩,
 ⟨(some 7), .mv (.t 27), none, true⟩,
 ⟨(some 8), .mv (.t 28), none, true⟩]
abbrev o6_8 : List Ins := [⟨(some 30), .mv (.t 0), none, true⟩,
 ⟨(some 31), .call (.k (.fn 28 [])) [(.t 30)], none, true⟩,
 ⟨(some 29), .mv (.t 31), none, true⟩,
 ⟨(some 32), .ext (.t 29) 0, none, true⟩,
 ⟨(some 33), .ext (.t 29) 1, none, true⟩,
 ⟨(some 9), .mv (.t 32), none, true⟩,
 ⟨(some 10), .mv (.t 33), none, true⟩]
abbrev o6_9 : List Ins := [⟨(some 34), .mv (.t 3), none, true⟩,
 ⟨(some 35), .mv (.t 5), none, true⟩,
 ⟨(some 36), .call (.k (.fn 21 [])) [(.t 34), (.t 35)], none, true⟩,
 ⟨(some 37), .mv (.t 36), none, true⟩,
 ⟨(some 38), .mv (.t 4), (some (37, true)), true⟩,
 ⟨(some 39), .mv (.t 6), (some (37, true)), true⟩,
 ⟨(some 40), .bin .eql (.t 38) (.t 39), (some (37, true)), true⟩,
 ⟨(some 41), .pick (.t 37) (.t 40) (.k (.c (.bool false))), none, true⟩,
 ⟨(some 42), .mv (.t 41), none, true⟩,
 ⟨(some 43), .mv (.t 7), (some (42, true)), true⟩,
 ⟨(some 44), .mv (.t 9), (some (42, true)), true⟩,
 ⟨(some 45), .prim (.sbin .eql) [(.t 43), (.t 44)], (some (42, true)), true⟩,
 ⟨(some 46), .pick (.t 42) (.t 45) (.k (.c (.bool false))), none, true⟩,
 ⟨(some 47), .mv (.t 46), none, true⟩,
 ⟨(some 48), .mv (.t 8), (some (47, true)), true⟩,
 ⟨(some 49), .mv (.t 10), (some (47, true)), true⟩,
 ⟨(some 50), .bin .eql (.t 48) (.t 49), (some (47, true)), true⟩,
 ⟨(some 51), .pick (.t 47) (.t 50) (.k (.c (.bool false))), none, true⟩,
 ⟨(some 52), .mv (.t 51), none, true⟩,
 ⟨(some 53), .call (.k (.fn 16 [])) [], (some (52, true)), true⟩,
 ⟨(some 54), .pick (.t 52) (.t 53) (.k (.c (.bool false))), none, true⟩,
 ⟨(some 2), .mv (.t 54), none, true⟩]
abbrev v6_10 : VC := (.seq (.ops o6_9) .ret)
abbrev v6_11 : VC := (.seq (.ops o6_8) v6_10)
abbrev v6_12 : VC := (.seq (.ops o6_7) v6_11)
abbrev v6_13 : VC := (.seq (.ops o6_6) v6_12)
abbrev v6_14 : VC := (.seq (.ops o6_5) v6_13)
abbrev v6_15 : VC := (.seq (.seq (.ops o6_1) v6_4) v6_14)
def ir6 : FC := ⟨1, 55, [.t 2], (.seq (.ops o6_0) v6_15)⟩
theorem c6 : compM Tryd.prog [] 6 = some ir6 := by kernel_rfl
attribute [local go_sem] Nat.reduceEqDiff Nat.reduceAdd Nat.reduceMul reduceIte Nat.reduceLeDiff Nat.reduceLT Nat.reduceBEq reduceCtorEq
theorem readG_len (s : List UInt8) (hs : s.length ≤ 2000) : (readG s).1.length ≤ 1000000 := by
 unfold readG
 split
 ·split
  ·rename_i h0 _
   obtain ⟨rows, w, h1, h2, h3, h4, h5, _⟩ := whole_some h0
   rw [h4]
   have := h2.len
   simp only [List.length_map, List.length_dropLast, bytesG_len, h5.len]
   omega
  ·simp
 ·simp
set_option maxRecDepth 20000 in
set_option maxHeartbeats 8000000 in
theorem bookRead6 (s : List UInt8) : FSpec Tryd.prog 6 [sv s] (bv true) := by
 have hmax : maxLen = 9223372036854775807 := rfl
 have hwk := works16
 refine FSpec_of c6 (Nat.le_refl _) (by decide) fun C hP hN hC hL => ?_; rw [init_st]
 simp only [ir6]
 (repeat ((first | refine Va ?_ | refine Vb ?_ | refine Vc ?_ | refine Vd ?_ | refine Ve ?_ | refine Vf ?_); (try simp only [go_sem, hP]); (repeat refine qJ ?_)))
 (refine AS_pu (large26 s) ?_; simp only [go_sem, hP]; (repeat refine qJ ?_); (repeat ((first | refine Va ?_ | refine Vb ?_ | refine Vc ?_ | refine Vd ?_ | refine Ve ?_ | refine Vf ?_); (try simp only [go_sem, hP]); (repeat refine qJ ?_))))
 by_cases hl : 2000 < s.length
 ·(refine WV_cond rfl (fun h => ?_) (fun h => ?_))
  ·(repeat ((first | refine Va ?_ | refine Vb ?_ | refine Vc ?_ | refine Vd ?_ | refine Ve ?_ | refine Vf ?_); (try simp only [go_sem, hP]); (repeat refine qJ ?_)))
   (refine AS_pu (hwk) ?_; simp only [go_sem, hP]; (repeat refine qJ ?_); (repeat ((first | refine Va ?_ | refine Vb ?_ | refine Vc ?_ | refine Vd ?_ | refine Ve ?_ | refine Vf ?_); (try simp only [go_sem, hP]); (repeat refine qJ ?_))))
   (refine WV_ret ?_; simp only [thenQ, inQ, RetQ, RetOk, resAll, resA]; simp only [go_sem, tupA, AV.port, AV.portL, exists_eq_left']; (first | exact AVle.of rfl | refine AVle.of ?_ | skip))
  ·simp at h; omega
 ·have h1 := read20 s (by omega)
  have h2 := read27 s (by omega)
  have h3 := mend18 s (by omega)
  have h4 := mend28 s (by omega)
  have h5 := same21 (readG s).1 (readR s).1 (readG_len s (by omega))
  rw [read_eq] at h1 h5
  rw [mend_eq] at h3
  rw [show ((readR s).1 == (readR s).1) = true from beq_self_eq_true _] at h5
  (refine WV_cond rfl (fun h => ?_) (fun h => ?_))
  ·simp at h; omega
  (repeat ((first | refine Va ?_ | refine Vb ?_ | refine Vc ?_ | refine Vd ?_ | refine Ve ?_ | refine Vf ?_); (try simp only [go_sem, hP]); (repeat refine qJ ?_)))
  (refine AS_pu (h1) ?_; simp only [go_sem, hP]; (repeat refine qJ ?_); (repeat ((first | refine Va ?_ | refine Vb ?_ | refine Vc ?_ | refine Vd ?_ | refine Ve ?_ | refine Vf ?_); (try simp only [go_sem, hP]); (repeat refine qJ ?_))))
  (refine AS_pu (h2) ?_; simp only [go_sem, hP]; (repeat refine qJ ?_); (repeat ((first | refine Va ?_ | refine Vb ?_ | refine Vc ?_ | refine Vd ?_ | refine Ve ?_ | refine Vf ?_); (try simp only [go_sem, hP]); (repeat refine qJ ?_))))
  (refine AS_pu (h3) ?_; simp only [go_sem, hP]; (repeat refine qJ ?_); (repeat ((first | refine Va ?_ | refine Vb ?_ | refine Vc ?_ | refine Vd ?_ | refine Ve ?_ | refine Vf ?_); (try simp only [go_sem, hP]); (repeat refine qJ ?_))))
  (refine AS_pu (h4) ?_; simp only [go_sem, hP]; (repeat refine qJ ?_); (repeat ((first | refine Va ?_ | refine Vb ?_ | refine Vc ?_ | refine Vd ?_ | refine Ve ?_ | refine Vf ?_); (try simp only [go_sem, hP]); (repeat refine qJ ?_))))
  (refine AS_pu (h5) ?_; simp only [go_sem, hP, beq_self_eq_true, Bool.and_self, Bool.true_and, true_implies, Bool.true_eq_false, false_implies, and_true]; (repeat refine qJ ?_); (repeat ((first | refine Va ?_ | refine Vb ?_ | refine Vc ?_ | refine Vd ?_ | refine Ve ?_ | refine Vf ?_); (try simp only [go_sem, hP, beq_self_eq_true, Bool.and_self, Bool.true_and, true_implies, Bool.true_eq_false, false_implies, and_true]); (repeat refine qJ ?_))))
  (refine AG_pu (fun hG => hwk) ?_; simp only [go_sem, hP, beq_self_eq_true, Bool.and_self, Bool.true_and, true_implies, Bool.true_eq_false, false_implies, and_true]; (repeat refine qJ ?_); (repeat ((first | refine Va ?_ | refine Vb ?_ | refine Vc ?_ | refine Vd ?_ | refine Ve ?_ | refine Vf ?_); (try simp only [go_sem, hP, beq_self_eq_true, Bool.and_self, Bool.true_and, true_implies, Bool.true_eq_false, false_implies, and_true]); (repeat refine qJ ?_))))
  (refine WV_ret ?_; simp only [thenQ, inQ, RetQ, RetOk, resAll, resA]; simp only [go_sem, tupA, AV.port, AV.portL, exists_eq_left']; (first | exact AVle.of rfl | refine AVle.of ?_ | skip))
end Go.Proofs.YtlmfdmlochpfcaaDoor
