/-
  Contracts of the layer's functions, of the laws' helpers and of the law; conditions: as each theorem states.
-/
import Derived.Test.YtkpgpgaojjobgaaU4
set_option linter.unusedVariables false
set_option linter.unusedSimpArgs false
namespace Go.Proofs.Ytkpgpgaojjobgaa
open Go Go.V
@[reducible] def o86_0 : List Ins := [⟨(some 4), .mv (.k (.c (.int .i64 0))), none, true⟩]
@[reducible] def o86_1 : List Ins := [⟨(some 6), .mv (.t 0), none, true⟩,
  ⟨(some 7), .len (.t 6), none, true⟩,
  ⟨(some 8), .mv (.k (.c (.int .i64 0))), none, true⟩]
@[reducible] def o86_2 : List Ins := [⟨(some 9), .bin .lss (.t 8) (.t 7), none, true⟩]
@[reducible] def o86_3 : List Ins := [⟨(some 10), .mv (.t 8), none, true⟩,
  ⟨(some 5), .mv (.t 10), none, true⟩]
@[reducible] def o86_4 : List Ins := [⟨(some 11), .mv (.t 1), none, true⟩,
  ⟨(some 12), .mv (.t 0), none, true⟩,
  ⟨(some 13), .mv (.t 5), none, true⟩,
  ⟨(some 14), .ia 1 (.t 12) (.t 13), none, true⟩,
  ⟨(some 15), .ld true 1 (.t 14), none, true⟩,
  ⟨(some 16), .bin .eql (.t 11) (.t 15), none, true⟩]
@[reducible] def o86_5 : List Ins := [⟨(some 17), .mv (.t 5), none, true⟩,
  ⟨(some 4), .mv (.t 17), none, true⟩]
@[reducible] def v86_6 : VC := (.seq (.ops o86_5) .ret)
@[reducible] def v86_7 : VC := (.cond (.t 16) v86_6 .skip)
@[reducible] def v86_8 : VC := (.seq (.ops o86_4) v86_7)
@[reducible] def v86_9 : VC := (.seq (.ops o86_3) v86_8)
@[reducible] def o86_10 : List Ins := [⟨(some 18), .bin .add (.t 8) (.k (.c (.int .i64 1))), none, true⟩,
  ⟨(some 8), .mv (.t 18), none, true⟩]
@[reducible] def v86_11 : VC := (.seq (.block 1 v86_9) (.ops o86_10))
@[reducible] def v86_12 : VC := (.seq (.cond (.t 9) .skip (.exit 0)) v86_11)
@[reducible] def v86_13 : VC := (.seq (.ops o86_2) v86_12)
-- K86_1: changed and kept: [8]
@[reducible] def K86_1 : List Nat := [0, 1, 7]
@[reducible] def v86_14 : VC := (.loop v86_13)
@[reducible] def v86_15 : VC := (.block 0 v86_14)
@[reducible] def o86_16 : List Ins := [⟨(some 4), .mv (.k (.c (.int .i64 (-1)))), none, true⟩]
@[reducible] def v86_17 : VC := (.seq (.ops o86_16) .ret)
@[reducible] def v86_18 : VC := (.seq (.seq (.ops o86_1) v86_15) v86_17)
def ir86 : FC := ⟨2, 19, [.t 4], (.seq (.ops o86_0) v86_18)⟩
@[reducible] def o79_0 : List Ins := [⟨(some 2), .mv (.k (.c (.raw (.slice none 0 0)))), none, true⟩]
@[reducible] def o79_1 : List Ins := [⟨(some 3), .mv (.t 0), none, true⟩,
  ⟨(some 4), .nils false (.t 3), none, true⟩]
@[reducible] def o79_2 : List Ins := [⟨(some 2), .mv (.k (.c (.raw (.slice none 0 0)))), none, true⟩]
@[reducible] def v79_3 : VC := (.seq (.ops o79_2) .ret)
@[reducible] def v79_4 : VC := (.cond (.t 4) v79_3 .skip)
@[reducible] def o79_5 : List Ins := [⟨(some 5), .bsl 3 1 [], none, true⟩,
  ⟨(some 6), .mv (.t 0), none, true⟩,
  ⟨(some 7), .app 3 1 8 (.t 5) (.t 6), none, true⟩,
  ⟨(some 2), .mv (.t 7), none, true⟩]
@[reducible] def v79_6 : VC := (.seq (.ops o79_5) .ret)
@[reducible] def v79_7 : VC := (.seq (.seq (.ops o79_1) v79_4) v79_6)
def ir79 : FC := ⟨1, 8, [.t 2], (.seq (.ops o79_0) v79_7)⟩
@[reducible] def o78_0 : List Ins := [⟨(some 2), .box 5 (.t 0), none, true⟩,
  ⟨(some 4), .alloc [(.c (.raw (.slice none 0 0))), (.c (.int .i64 0)), (.c (.int .i64 0)), (.c (.int .i64 0)), (.c (.raw (.slice none 0 0)))], none, true⟩]
@[reducible] def o78_1 : List Ins := [⟨(some 10), .ld false 5 (.t 2), none, true⟩,
  ⟨(some 5), .alloc [(.c (.raw (.slice none 0 0))), (.c (.int .i64 0)), (.c (.int .i64 0)), (.c (.int .i64 0)), (.c (.raw (.slice none 0 0)))], none, true⟩,
  ⟨none, .st 5 (.t 5) (.t 10), none, true⟩]
@[reducible] def o78_2 : List Ins := [⟨(some 11), .fa 4 (.t 2), none, true⟩,
  ⟨(some 12), .ld true 1 (.t 11), none, true⟩,
  ⟨(some 13), .call (.k (.fn 56 [])) [(.t 12)], none, true⟩,
  ⟨(some 14), .fa 0 (.t 5), none, true⟩,
  ⟨none, .st 1 (.t 14) (.k (.c (.raw (.slice none 0 0)))), none, true⟩,
  ⟨(some 15), .fa 4 (.t 5), none, true⟩,
  ⟨none, .st 1 (.t 15) (.t 13), none, true⟩]
@[reducible] def o78_3 : List Ins := [⟨(some 16), .mv (.t 1), none, true⟩,
  ⟨(some 17), .len (.t 16), none, true⟩,
  ⟨(some 18), .mv (.k (.c (.int .i64 0))), none, true⟩]
@[reducible] def o78_4 : List Ins := [⟨(some 19), .bin .lss (.t 18) (.t 17), none, true⟩]
@[reducible] def o78_5 : List Ins := [⟨(some 20), .ia 1 (.t 16) (.t 18), none, true⟩,
  ⟨(some 21), .ld true 1 (.t 20), none, true⟩,
  ⟨(some 7), .mv (.t 21), none, true⟩]
@[reducible] def o78_6 : List Ins := [⟨(some 22), .fa 0 (.t 5), none, false⟩,
  ⟨(some 23), .ld true 1 (.t 22), none, false⟩,
  ⟨(some 24), .fa 0 (.t 2), none, false⟩,
  ⟨(some 25), .ld true 1 (.t 24), none, false⟩,
  ⟨(some 26), .mv (.t 7), none, false⟩,
  ⟨(some 27), .ia 2 (.t 25) (.t 26), none, false⟩,
  ⟨(some 28), .ld false 2 (.t 27), none, false⟩,
  ⟨(some 29), .bsl 56 2 [(.t 28)], none, false⟩,
  ⟨(some 30), .app 56 2 16 (.t 23) (.t 29), none, true⟩,
  ⟨(some 31), .fa 0 (.t 5), none, true⟩,
  ⟨none, .st 1 (.t 31) (.t 30), none, true⟩]
@[reducible] def v78_7 : VC := (.seq (.ops o78_5) (.ops o78_6))
@[reducible] def o78_8 : List Ins := [⟨(some 32), .bin .add (.t 18) (.k (.c (.int .i64 1))), none, true⟩,
  ⟨(some 18), .mv (.t 32), none, true⟩]
@[reducible] def v78_9 : VC := (.seq (.block 1 v78_7) (.ops o78_8))
@[reducible] def v78_10 : VC := (.seq (.cond (.t 19) .skip (.exit 0)) v78_9)
@[reducible] def v78_11 : VC := (.seq (.ops o78_4) v78_10)
-- K78_1: changed and kept: [18]
@[reducible] def K78_1 : List Nat := [1, 2, 4, 5, 16, 17]
@[reducible] def v78_12 : VC := (.loop v78_11)
@[reducible] def v78_13 : VC := (.block 0 v78_12)
@[reducible] def o78_14 : List Ins := [⟨(some 33), .fa 4 (.t 5), none, true⟩,
  ⟨(some 34), .ld true 1 (.t 33), none, true⟩,
  ⟨(some 35), .len (.t 34), none, true⟩,
  ⟨(some 36), .mv (.k (.c (.int .i64 0))), none, true⟩]
@[reducible] def o78_15 : List Ins := [⟨(some 37), .bin .lss (.t 36) (.t 35), none, true⟩]
@[reducible] def o78_16 : List Ins := [⟨(some 38), .mv (.t 36), none, true⟩,
  ⟨(some 39), .ia 2 (.t 34) (.t 36), none, true⟩,
  ⟨(some 40), .ld false 2 (.t 39), none, true⟩,
  ⟨(some 9), .alloc [(.c (.int .i64 0)), (.c (.int .i64 0))], none, true⟩,
  ⟨(some 8), .mv (.t 38), none, true⟩,
  ⟨none, .st 2 (.t 9) (.t 40), none, true⟩]
@[reducible] def o78_17 : List Ins := [⟨(some 41), .fa 4 (.t 5), none, false⟩,
  ⟨(some 42), .ld true 1 (.t 41), none, false⟩,
  ⟨(some 43), .mv (.t 8), none, false⟩,
  ⟨(some 44), .mv (.t 1), none, false⟩,
  ⟨(some 45), .fa 0 (.t 9), none, false⟩,
  ⟨(some 46), .ld true 1 (.t 45), none, false⟩,
  ⟨(some 47), .bin .quo (.t 46) (.k (.c (.int .i64 2))), none, false⟩,
  ⟨(some 48), .call (.k (.fn 86 [])) [(.t 44), (.t 47)], none, false⟩,
  ⟨(some 49), .bin .mul (.k (.c (.int .i64 2))) (.t 48), none, false⟩,
  ⟨(some 50), .fa 0 (.t 9), none, false⟩,
  ⟨(some 51), .ld true 1 (.t 50), none, false⟩,
  ⟨(some 52), .bin .rem (.t 51) (.k (.c (.int .i64 2))), none, false⟩,
  ⟨(some 53), .bin .add (.t 49) (.t 52), none, false⟩,
  ⟨(some 54), .ia 2 (.t 42) (.t 43), none, true⟩,
  ⟨(some 55), .fa 0 (.t 54), none, true⟩,
  ⟨none, .st 1 (.t 55) (.t 53), none, true⟩]
@[reducible] def v78_18 : VC := (.seq (.ops o78_16) (.ops o78_17))
@[reducible] def o78_19 : List Ins := [⟨(some 56), .bin .add (.t 36) (.k (.c (.int .i64 1))), none, true⟩,
  ⟨(some 36), .mv (.t 56), none, true⟩]
@[reducible] def v78_20 : VC := (.seq (.block 3 v78_18) (.ops o78_19))
@[reducible] def v78_21 : VC := (.seq (.cond (.t 37) .skip (.exit 2)) v78_20)
@[reducible] def v78_22 : VC := (.seq (.ops o78_15) v78_21)
-- K78_2: changed and kept: [36]
@[reducible] def K78_2 : List Nat := [1, 4, 5, 34, 35]
@[reducible] def v78_23 : VC := (.loop v78_22)
@[reducible] def v78_24 : VC := (.block 2 v78_23)
@[reducible] def o78_25 : List Ins := [⟨(some 57), .ld false 5 (.t 5), none, true⟩,
  ⟨none, .st 5 (.t 4) (.t 57), none, true⟩]
@[reducible] def v78_26 : VC := (.seq (.ops o78_25) .ret)
@[reducible] def v78_27 : VC := (.seq (.seq (.ops o78_14) v78_24) v78_26)
@[reducible] def v78_28 : VC := (.seq (.seq (.ops o78_3) v78_13) v78_27)
@[reducible] def v78_29 : VC := (.seq (.ops o78_2) v78_28)
@[reducible] def v78_30 : VC := (.seq (.ops o78_1) v78_29)
def ir78 : FC := ⟨2, 58, [.cell 4 false 5], (.seq (.ops o78_0) v78_30)⟩
theorem c86 : compM Try.prog [] 86 = some ir86 := by kernel_rfl
theorem c79 : compM Try.prog [] 79 = some ir79 := by kernel_rfl
theorem c78 : compM Try.prog [] 78 = some ir78 := by kernel_rfl



/-! ### Records in another order: plain -/
def IsOrd (n : Nat) (o : List Nat) : Prop := o.Perm (List.range n)
theorem IsOrd.len {n : Nat} {o : List Nat} (h : IsOrd n o) : o.length = n := by have := h.length_eq; simpa using this
theorem IsOrd.lt {n : Nat} {o : List Nat} (h : IsOrd n o) {k : Nat} (hk : k ∈ o) : k < n := List.mem_range.1 (h.mem_iff.1 hk)
theorem IsOrd.mem {n : Nat} {o : List Nat} (h : IsOrd n o) {k : Nat} (hk : k < n) : k ∈ o := h.mem_iff.2 (List.mem_range.2 hk)
/-- A press, when the records stand in another order. -/
def arrP (o : List Nat) (p : Pr) : Pr := ⟨2 * (o.idxOf (p.side.toNat / 2) : Int) + p.side % 2, p.time⟩
def arrT (t : Tray) (o : List Nat) : Tray := { t with recs := o.map t.rc, pres := t.pres.map (arrP o) }
theorem arrP_side {t : Tray} {o : List Nat} (ho : IsOrd t.n o) {p : Pr} (hp : 0 ≤ p.side ∧ p.side < 2 * (t.n : Int)) : o.idxOf (p.side.toNat / 2) < t.n ∧ p.side.toNat / 2 < t.n := by
  have h : p.side.toNat / 2 < t.n := by omega
  have := List.idxOf_lt_length_of_mem (ho.mem h)
  rw [ho.len] at this
  exact ⟨this, h⟩
theorem arr_ok {t : Tray} (ht : TrayOk t) {o : List Nat} (ho : IsOrd t.n o) : TrayOk (arrT t o) := by
  have hn : (arrT t o).n = t.n := by show (o.map t.rc).length = _; rw [List.length_map, ho.len]
  refine ⟨by rw [hn]; exact ht.n1, by rw [hn]; exact ht.n6, by rw [hn]; exact ht.at_, ht.way, ht.step, fun r hr => ?_, fun p hp => ?_, by show (t.pres.map _).length ≤ 13; rw [List.length_map]; exact ht.p13⟩
  · obtain ⟨k, hk, rfl⟩ := List.mem_map.1 hr
    exact rec_ok ht (ho.lt hk)
  · obtain ⟨q, hq, rfl⟩ := List.mem_map.1 hp
    have h1 := ht.pres q hq
    have h2 := arrP_side ho h1.1
    rw [hn]
    refine ⟨?_, h1.2⟩
    simp only [arrP]
    omega
theorem idx_step {o : List Nat} {m k : Nat} (h : k < o.length) : (o.drop k).idxOf m = if o[k] = m then 0 else (o.drop (k + 1)).idxOf m + 1 := by
  rw [List.drop_eq_getElem_cons h, List.idxOf_cons]
  by_cases e : o[k] = m
  · simp [e]
  · have : (o[k] == m) = false := by simpa using e
    rw [if_neg e, this]; rfl

set_option maxHeartbeats 4000000 in
theorem index86 (o : List Nat) (m : Nat) (ho : o.length ≤ 1000) (hm : m ∈ o) : FSpec Try.prog 86 [.c (natsC o), iv m] (iv (o.idxOf m)) := by
  refine FSpec_of c86 (Nat.le_refl _) (by decide) fun C hP hN hC hL => ?_
  simp only [ir86]
  (repeat ((first | refine WV_seq_ ?_ | refine WV_block ?_ | refine WV_ops ?_ | refine WV_skip ?_ | refine WV_exit ?_); (try simp only [go_sem, init_env', Nat.reduceEqDiff, Nat.reduceAdd, Nat.reduceMul, reduceIte, Nat.reduceLeDiff, Nat.reduceLT, Nat.reduceBEq, reduceCtorEq, hP, natsC, List.length_map]); (repeat (refine And.intro (by first | omega | (intros; simp_all; done) | (intros; simp_all; omega)) ?_))))
  (refine WV_loopK K86_1 [] (fun k : Nat => k ≤ o.length ∧ (o.idxOf m = k + (o.drop k).idxOf m ∧ m ∈ o.drop k)) (fun k => o.length - k) (fun k => [(8, iv k)]) (fun _ => []) 0 ⟨Nat.zero_le _, ⟨by simp, by simpa using hm⟩⟩ ?_ ?_)
  · (refine Sub_of (by simp only [go_sem, init_env', Nat.reduceEqDiff, Nat.reduceAdd, Nat.reduceMul, reduceIte, Nat.reduceLeDiff, Nat.reduceLT, Nat.reduceBEq, reduceCtorEq]; ((repeat' (first | exact EnvLe_e0 _ _ | refine EnvLe_upd ?_ ?_)) <;> ((try simp only [upd_app, e0_app, o0_app, Nat.reduceEqDiff, reduceIte]); first | exact AWk.refl _ _ | exact AWk.int (by omega) | exact AWk.int (by rw [w64 (by omega) (by omega)]; omega) | exact AWk.grow rfl | exact AWk.nil _ | exact AWk.of (by simp)))) (by simp only [go_sem, init_env', Nat.reduceEqDiff, Nat.reduceAdd, Nat.reduceMul, reduceIte, Nat.reduceLeDiff, Nat.reduceLT, Nat.reduceBEq, reduceCtorEq]; ((repeat' (first | exact ObjLe_o0 _ | exact ObjLe.rfl' _ | refine ObjLe_same ?_ | refine ObjLe_upd ?_ ?_ | refine ObjLe_new rfl ?_)) <;> rfl)))
  · intro k ⟨hk, hx, hmm⟩
    simp only [go_sem, init_env', Nat.reduceEqDiff, Nat.reduceAdd, Nat.reduceMul, reduceIte, Nat.reduceLeDiff, Nat.reduceLT, Nat.reduceBEq, reduceCtorEq]
    (repeat ((first | refine WV_seq_ ?_ | refine WV_block ?_ | refine WV_ops ?_ | refine WV_skip ?_ | refine WV_exit ?_); (try simp only [go_sem, init_env', Nat.reduceEqDiff, Nat.reduceAdd, Nat.reduceMul, reduceIte, Nat.reduceLeDiff, Nat.reduceLT, Nat.reduceBEq, reduceCtorEq, hP, ]); (repeat (refine And.intro (by first | omega | (intros; simp_all; done) | (intros; simp_all; omega)) ?_))))
    (refine WV_cond rfl (fun h => ?_) (fun h => ?_))
    · have h : k < o.length := by simpa using h
      have hI : (k : Int) < (o.length : Int) := by omega
      have hw2 := w64 (n := (k : Int) + 1) (by omega) (by omega)
      rw [idx_step h] at hx
      rw [List.drop_eq_getElem_cons h] at hmm
      (repeat ((first | refine WV_seq_ ?_ | refine WV_block ?_ | refine WV_ops ?_ | refine WV_skip ?_ | refine WV_exit ?_); (try simp only [go_sem, init_env', Nat.reduceEqDiff, Nat.reduceAdd, Nat.reduceMul, reduceIte, Nat.reduceLeDiff, Nat.reduceLT, Nat.reduceBEq, reduceCtorEq, hP, map_getD h, hI, List.length_map, ncd, Int.natCast_nonneg]); (repeat (refine And.intro (by first | omega | (intros; simp_all; done) | (intros; simp_all; omega)) ?_))))
      have hbe : ((m : Int) == ((o[k] : Nat) : Int)) = decide (o[k] = m) := by rw [Bool.eq_iff_iff]; simp; omega
      rw [hbe]
      by_cases hb : o[k] = m
      · rw [if_pos hb] at hx
        rw [decide_eq_true hb]
        (refine WV_cond rfl (fun h => ?_) (fun h => ?_))
        · (repeat ((first | refine WV_seq_ ?_ | refine WV_block ?_ | refine WV_ops ?_ | refine WV_skip ?_ | refine WV_exit ?_); (try simp only [go_sem, init_env', Nat.reduceEqDiff, Nat.reduceAdd, Nat.reduceMul, reduceIte, Nat.reduceLeDiff, Nat.reduceLT, Nat.reduceBEq, reduceCtorEq, hP, ]); (repeat (refine And.intro (by first | omega | (intros; simp_all; done) | (intros; simp_all; omega)) ?_))))
          (refine WV_ret ?_; simp only [thenQ, inQ, RetQ, RetOk, resAll, resA]; simp only [go_sem, init_env', Nat.reduceEqDiff, Nat.reduceAdd, Nat.reduceMul, reduceIte, Nat.reduceLeDiff, Nat.reduceLT, Nat.reduceBEq, reduceCtorEq, tupA, AV.port, AV.portL, exists_eq_left', ]; (first | exact AVle.of rfl | refine AVle.of ?_ | skip))
          rw [hx]; rfl
        · simp at h
      · rw [if_neg hb] at hx
        rw [decide_eq_false hb]
        (refine WV_cond rfl (fun h => ?_) (fun h => ?_))
        · simp at h
        · (repeat ((first | refine WV_seq_ ?_ | refine WV_block ?_ | refine WV_ops ?_ | refine WV_skip ?_ | refine WV_exit ?_); (try simp only [go_sem, init_env', Nat.reduceEqDiff, Nat.reduceAdd, Nat.reduceMul, reduceIte, Nat.reduceLeDiff, Nat.reduceLT, Nat.reduceBEq, reduceCtorEq, hP, hw2]); (repeat (refine And.intro (by first | omega | (intros; simp_all; done) | (intros; simp_all; omega)) ?_))))
          refine ⟨k + 1, ⟨by omega, by omega, ?_⟩, by omega, ?_⟩
          · rcases List.mem_cons.1 hmm with hmm | hmm
            · exact absurd hmm.symm hb
            · exact hmm
          · (refine Sub_of (by simp only [go_sem, init_env', Nat.reduceEqDiff, Nat.reduceAdd, Nat.reduceMul, reduceIte, Nat.reduceLeDiff, Nat.reduceLT, Nat.reduceBEq, reduceCtorEq]; ((repeat' (first | exact EnvLe_e0 _ _ | refine EnvLe_upd ?_ ?_)) <;> ((try simp only [upd_app, e0_app, o0_app, Nat.reduceEqDiff, reduceIte]); first | exact AWk.refl _ _ | exact AWk.int (by omega) | exact AWk.int (by rw [w64 (by omega) (by omega)]; omega) | exact AWk.grow rfl | exact AWk.nil _ | exact AWk.of (by simp)))) (by simp only [go_sem, init_env', Nat.reduceEqDiff, Nat.reduceAdd, Nat.reduceMul, reduceIte, Nat.reduceLeDiff, Nat.reduceLT, Nat.reduceBEq, reduceCtorEq]; ((repeat' (first | exact ObjLe_o0 _ | exact ObjLe.rfl' _ | refine ObjLe_same ?_ | refine ObjLe_upd ?_ ?_ | refine ObjLe_new rfl ?_)) <;> rfl)))
    · have h : k = o.length := by simp at h; omega
      subst h
      rw [List.drop_length] at hmm
      cases hmm

theorem ncd_scal (l : List Nat) : ((l.map ncd).all fun e => e.all CD.scal) = true := by
  rw [List.all_eq_true]; intro e he; obtain ⟨n, _, rfl⟩ := List.mem_map.1 he; rfl
theorem ncds_one (l : List Nat) : ((l.map ncd).all fun e => e.length == 1) = true := by
  rw [List.all_eq_true]; intro e he; obtain ⟨n, _, rfl⟩ := List.mem_map.1 he; rfl
theorem recs_scal (l : List Rec) : ((l.map Rec.cds).all fun e => e.all CD.scal) = true := by
  rw [List.all_eq_true]; intro e he; obtain ⟨n, _, rfl⟩ := List.mem_map.1 he; rfl
theorem prs_scal (l : List Pr) : ((l.map Pr.cds).all fun e => e.all CD.scal) = true := by
  rw [List.all_eq_true]; intro e he; obtain ⟨n, _, rfl⟩ := List.mem_map.1 he; rfl
theorem cloneI79 (l : List Nat) (hlen : l.length ≤ 1000) : FSpecF Try.prog 79 [.c (natsC l)] (.c (natsC l)) := by
  refine FSpecF_of c79 (Nat.le_refl _) (by decide) fun C hP hN hC hL => ?_
  have hmax : maxLen = 9223372036854775807 := rfl
  simp only [ir79, natsC]
  cases l with
  | nil =>
    (repeat ((first | refine WV_seq_ ?_ | refine WV_block ?_ | refine WV_ops ?_ | refine WV_skip ?_ | refine WV_exit ?_); (try simp only [go_sem, init_env', Nat.reduceEqDiff, Nat.reduceAdd, Nat.reduceMul, reduceIte, Nat.reduceLeDiff, Nat.reduceLT, Nat.reduceBEq, reduceCtorEq, hP, ]); (repeat (refine And.intro (by first | omega | (intros; simp_all; done) | (intros; simp_all; omega)) ?_))))
    intro b
    (repeat ((first | refine WV_seq_ ?_ | refine WV_block ?_ | refine WV_ops ?_ | refine WV_skip ?_ | refine WV_exit ?_); (try simp only [go_sem, init_env', Nat.reduceEqDiff, Nat.reduceAdd, Nat.reduceMul, reduceIte, Nat.reduceLeDiff, Nat.reduceLT, Nat.reduceBEq, reduceCtorEq, hP, ]); (repeat (refine And.intro (by first | omega | (intros; simp_all; done) | (intros; simp_all; omega)) ?_))))
    (refine WV_cond rfl (fun h => ?_) (fun h => ?_))
    · (repeat ((first | refine WV_seq_ ?_ | refine WV_block ?_ | refine WV_ops ?_ | refine WV_skip ?_ | refine WV_exit ?_); (try simp only [go_sem, init_env', Nat.reduceEqDiff, Nat.reduceAdd, Nat.reduceMul, reduceIte, Nat.reduceLeDiff, Nat.reduceLT, Nat.reduceBEq, reduceCtorEq, hP, ]); (repeat (refine And.intro (by first | omega | (intros; simp_all; done) | (intros; simp_all; omega)) ?_))))
      (refine WV_ret ?_; simp only [thenQ, inQ, RetQF, RetOkF, resAll, resA]; simp only [go_sem, init_env', Nat.reduceEqDiff, Nat.reduceAdd, Nat.reduceMul, reduceIte, Nat.reduceLeDiff, Nat.reduceLT, Nat.reduceBEq, reduceCtorEq, tupA, AV.fport, AV.fportL, CD.scal, exists_eq_left', ]; refine And.intro (by ((repeat' (first | exact NoWin_o0 | refine NoWin_upd (fun cs h => by cases h) ?_)))) ?_)
      exact AVle.nil 1
    · (repeat ((first | refine WV_seq_ ?_ | refine WV_block ?_ | refine WV_ops ?_ | refine WV_skip ?_ | refine WV_exit ?_); (try simp only [go_sem, init_env', Nat.reduceEqDiff, Nat.reduceAdd, Nat.reduceMul, reduceIte, Nat.reduceLeDiff, Nat.reduceLT, Nat.reduceBEq, reduceCtorEq, hP, ]); (repeat (refine And.intro (by first | omega | (intros; simp_all; done) | (intros; simp_all; omega)) ?_))))
      (refine WV_ret ?_; simp only [thenQ, inQ, RetQF, RetOkF, resAll, resA]; simp only [go_sem, init_env', Nat.reduceEqDiff, Nat.reduceAdd, Nat.reduceMul, reduceIte, Nat.reduceLeDiff, Nat.reduceLT, Nat.reduceBEq, reduceCtorEq, tupA, AV.fport, AV.fportL, CD.scal, exists_eq_left', ]; refine And.intro (by ((repeat' (first | exact NoWin_o0 | refine NoWin_upd (fun cs h => by cases h) ?_)))) ?_; (first | exact AVle.of rfl | refine AVle.of ?_ | skip))
  | cons a l =>
    simp only [List.length_cons] at hlen
    have hp := ncds_one (a :: l)
    have hs := ncd_scal (a :: l)
    simp only [List.map_cons] at hp hs
    (repeat ((first | refine WV_seq_ ?_ | refine WV_block ?_ | refine WV_ops ?_ | refine WV_skip ?_ | refine WV_exit ?_); (try simp only [go_sem, init_env', Nat.reduceEqDiff, Nat.reduceAdd, Nat.reduceMul, reduceIte, Nat.reduceLeDiff, Nat.reduceLT, Nat.reduceBEq, reduceCtorEq, hP, ]); (repeat (refine And.intro (by first | omega | (intros; simp_all; done) | (intros; simp_all; omega)) ?_))))
    (refine WV_cond rfl (fun h => ?_) (fun h => ?_))
    · cases h
    · (repeat ((first | refine WV_seq_ ?_ | refine WV_block ?_ | refine WV_ops ?_ | refine WV_skip ?_ | refine WV_exit ?_); (try simp only [go_sem, init_env', Nat.reduceEqDiff, Nat.reduceAdd, Nat.reduceMul, reduceIte, Nat.reduceLeDiff, Nat.reduceLT, Nat.reduceBEq, reduceCtorEq, hP, hp, List.length_cons]); (repeat (refine And.intro (by first | omega | (intros; simp_all; done) | (intros; simp_all; omega)) ?_))))
      (refine WV_ret ?_; simp only [thenQ, inQ, RetQF, RetOkF, resAll, resA]; simp only [go_sem, init_env', Nat.reduceEqDiff, Nat.reduceAdd, Nat.reduceMul, reduceIte, Nat.reduceLeDiff, Nat.reduceLT, Nat.reduceBEq, reduceCtorEq, tupA, AV.fport, AV.fportL, CD.scal, exists_eq_left', hs]; refine And.intro (by ((repeat' (first | exact NoWin_o0 | refine NoWin_upd (fun cs h => by cases h) ?_)))) ?_)
      exact AVle.refl _

/-- The first k ones are other ones. -/
def mapK {α : Type} (g : α → α) (l : List α) (k : Nat) : List α := (l.take k).map g ++ l.drop k
theorem mapK_len {α : Type} (g : α → α) (l : List α) (k : Nat) : (mapK g l k).length = l.length := by simp [mapK]; omega
theorem mapK_zero {α : Type} (g : α → α) (l : List α) : mapK g l 0 = l := by simp [mapK]
theorem mapK_all {α : Type} (g : α → α) (l : List α) : mapK g l l.length = l.map g := by simp [mapK]
theorem mapK_get {α : Type} {g : α → α} {l : List α} {k : Nat} (h : k < l.length) (h' : k < (mapK g l k).length) : (mapK g l k)[k] = l[k] := by
  have hl : ((l.take k).map g).length = k := by simp; omega
  have h2 : (mapK g l k)[k]? = some l[k] := by
    unfold mapK
    rw [List.getElem?_append_right (by rw [hl]; exact Nat.le_refl _), hl, Nat.sub_self, List.getElem?_drop, Nat.add_zero, List.getElem?_eq_getElem h]
  exact (List.getElem?_eq_some_iff.1 h2).2
theorem mapK_set {α : Type} {g : α → α} {l : List α} {k : Nat} (h : k < l.length) : (mapK g l k).set k (g l[k]) = mapK g l (k + 1) := by
  have hl : ((l.take k).map g).length = k := by simp; omega
  unfold mapK
  rw [List.set_append_right _ _ (by rw [hl]; exact Nat.le_refl _), hl, Nat.sub_self, List.drop_eq_getElem_cons h, List.set_cons_zero, List.take_succ_eq_append_getElem h, List.map_append]
  simp
def recsT (t : Tray) (o : List Nat) (k : Nat) : List Rec := (o.take k).map t.rc
theorem recsT_succ (t : Tray) {o : List Nat} {k : Nat} (h : k < o.length) : recsT t o (k + 1) = recsT t o k ++ [t.rc o[k]] := by
  unfold recsT; rw [List.take_succ_eq_append_getElem h, List.map_append]; rfl
theorem recsT_all (t : Tray) (o : List Nat) : recsT t o o.length = o.map t.rc := by unfold recsT; rw [List.take_length]
theorem recsT_len (t : Tray) (o : List Nat) (k : Nat) : (recsT t o k).length ≤ k := by unfold recsT; rw [List.length_map, List.length_take]; omega

set_option maxRecDepth 20000 in
set_option maxHeartbeats 8000000 in
theorem arranged78 {t : Tray} (ht : TrayOk t) {o : List Nat} (ho : IsOrd t.n o) : FSpecF Try.prog 78 [t.av, .c (natsC o)] (arrT t o).av := by
  have hmax : maxLen = 9223372036854775807 := rfl
  have hn6 := ht.n6
  have hol := ho.len
  have h13 := ht.p13
  refine FSpecF_of c78 (Nat.le_refl _) (by decide) fun C hP hN hC hL => ?_
  simp only [ir78, Tray.av]
  (repeat ((first | refine WV_seq_ ?_ | refine WV_block ?_ | refine WV_ops ?_ | refine WV_skip ?_ | refine WV_exit ?_); (try simp only [go_sem, init_env', Nat.reduceEqDiff, Nat.reduceAdd, Nat.reduceMul, reduceIte, Nat.reduceLeDiff, Nat.reduceLT, Nat.reduceBEq, reduceCtorEq, hP, ]); (repeat (refine And.intro (by first | omega | (intros; simp_all; done) | (intros; simp_all; omega)) ?_))))
  by_cases hpn : t.pres = []
  · refine AS_new (cloneG56 t.pres (by omega)) rfl rfl rfl rfl ?_
    rintro res os (⟨rfl, rfl⟩ | ⟨-, rfl, rfl⟩)
    · refine ⟨[900], .gr 900, [.grow 27 2 (t.pres.map Pr.cds)], by decide, rfl, by simp only [go_sem, init_env', Nat.reduceEqDiff, Nat.reduceAdd, Nat.reduceMul, reduceIte, Nat.reduceLeDiff, Nat.reduceLT, Nat.reduceBEq, reduceCtorEq, decide_true], rfl, rfl, ?_⟩
      rw [hpn]
      simp only [go_sem, init_env', Nat.reduceEqDiff, Nat.reduceAdd, Nat.reduceMul, reduceIte, Nat.reduceLeDiff, Nat.reduceLT, Nat.reduceBEq, reduceCtorEq, hP, ownBack, List.map_nil]
      (repeat (refine And.intro (by first | omega | (intros; simp_all; done) | (intros; simp_all; omega)) ?_))
      refine WV_nilbox 5 0 30 56 2 (by decide) (by decide) (by decide) rfl rfl rfl ?_
      simp only [go_sem, init_env', Nat.reduceEqDiff, Nat.reduceAdd, Nat.reduceMul, reduceIte, Nat.reduceLeDiff, Nat.reduceLT, Nat.reduceBEq, reduceCtorEq]
      (repeat ((first | refine WV_seq_ ?_ | refine WV_block ?_ | refine WV_ops ?_ | refine WV_skip ?_ | refine WV_exit ?_); (try simp only [go_sem, init_env', Nat.reduceEqDiff, Nat.reduceAdd, Nat.reduceMul, reduceIte, Nat.reduceLeDiff, Nat.reduceLT, Nat.reduceBEq, reduceCtorEq, hP, natsC, List.length_map]); (repeat (refine And.intro (by first | omega | (intros; simp_all; done) | (intros; simp_all; omega)) ?_))))
      refine WV_loopK K78_1 [5, 29, 30] (fun k : Nat => k ≤ o.length) (fun k => o.length - k) (fun k => [(18, iv k)]) (fun k => [(5, .box [.gr 30, iv t.at_, iv t.way, iv t.step, .gr 900]), (30, .grow 56 2 ((recsT t o k).map Rec.cds))]) 0 (Nat.zero_le _) ?_ ?_
      · (refine Sub_of (by simp only [go_sem, init_env', Nat.reduceEqDiff, Nat.reduceAdd, Nat.reduceMul, reduceIte, Nat.reduceLeDiff, Nat.reduceLT, Nat.reduceBEq, reduceCtorEq]; ((repeat' (first | exact EnvLe_e0 _ _ | refine EnvLe_upd ?_ ?_)) <;> ((try simp only [upd_app, e0_app, o0_app, Nat.reduceEqDiff, reduceIte]); first | exact AWk.refl _ _ | exact AWk.int (by omega) | exact AWk.int (by rw [w64 (by omega) (by omega)]; omega) | exact AWk.grow rfl | exact AWk.nil _ | exact AWk.of (by simp)))) (by simp only [go_sem, init_env', Nat.reduceEqDiff, Nat.reduceAdd, Nat.reduceMul, reduceIte, Nat.reduceLeDiff, Nat.reduceLT, Nat.reduceBEq, reduceCtorEq]; ((repeat' (first | exact ObjLe_o0 _ | exact ObjLe.rfl' _ | refine ObjLe_same ?_ | refine ObjLe_upd ?_ ?_ | refine ObjLe_new rfl ?_)) <;> rfl)))
      · intro k hk
        simp only [go_sem, init_env', Nat.reduceEqDiff, Nat.reduceAdd, Nat.reduceMul, reduceIte, Nat.reduceLeDiff, Nat.reduceLT, Nat.reduceBEq, reduceCtorEq]
        (repeat ((first | refine WV_seq_ ?_ | refine WV_block ?_ | refine WV_ops ?_ | refine WV_skip ?_ | refine WV_exit ?_); (try simp only [go_sem, init_env', Nat.reduceEqDiff, Nat.reduceAdd, Nat.reduceMul, reduceIte, Nat.reduceLeDiff, Nat.reduceLT, Nat.reduceBEq, reduceCtorEq, hP, ]); (repeat (refine And.intro (by first | omega | (intros; simp_all; done) | (intros; simp_all; omega)) ?_))))
        (refine WV_cond rfl (fun h => ?_) (fun h => ?_))
        · have hkl : k < o.length := by simpa using h
          have hI : (k : Int) < (o.length : Int) := by omega
          have hw := w64 (n := (k : Int) + 1) (by omega) (by omega)
          have hlt := ho.lt (List.getElem_mem hkl)
          have hlt' : o[k] < t.recs.length := hlt
          have hI2 : ((o[k] : Nat) : Int) < (t.recs.length : Int) := by omega
          have hrc : t.rc o[k] = t.recs[o[k]] := by unfold Tray.rc; simp [hlt']
          have hsu := recsT_succ t hkl
          have hrl := recsT_len t o k
          have e9 : (recsT t o k).map Rec.cds ++ [[CD.int .i64 t.recs[o[k]].front, CD.int .i64 t.recs[o[k]].back]] = (recsT t o (k + 1)).map Rec.cds := by rw [hsu, hrc, List.map_append]; rfl
          (repeat ((first | refine WV_seq_ ?_ | refine WV_block ?_ | refine WV_ops ?_ | refine WV_skip ?_ | refine WV_exit ?_); (try simp only [go_sem, init_env', Nat.reduceEqDiff, Nat.reduceAdd, Nat.reduceMul, reduceIte, Nat.reduceLeDiff, Nat.reduceLT, Nat.reduceBEq, reduceCtorEq, hP, map_getD hkl, hI, Int.natCast_nonneg, ncd, recsC, List.length_map, map_getD hlt', hI2, Rec.cds, recs_two, hw, e9]); (repeat (refine And.intro (by first | omega | (intros; simp_all; done) | (intros; simp_all; omega)) ?_))))
          refine ⟨k + 1, by omega, by omega, ?_⟩
          (refine Sub_of (by simp only [go_sem, init_env', Nat.reduceEqDiff, Nat.reduceAdd, Nat.reduceMul, reduceIte, Nat.reduceLeDiff, Nat.reduceLT, Nat.reduceBEq, reduceCtorEq]; ((repeat' (first | exact EnvLe_e0 _ _ | refine EnvLe_upd ?_ ?_)) <;> ((try simp only [upd_app, e0_app, o0_app, Nat.reduceEqDiff, reduceIte]); first | exact AWk.refl _ _ | exact AWk.int (by omega) | exact AWk.int (by rw [w64 (by omega) (by omega)]; omega) | exact AWk.grow rfl | exact AWk.nil _ | exact AWk.of (by simp)))) (by simp only [go_sem, init_env', Nat.reduceEqDiff, Nat.reduceAdd, Nat.reduceMul, reduceIte, Nat.reduceLeDiff, Nat.reduceLT, Nat.reduceBEq, reduceCtorEq]; ((repeat' (first | exact ObjLe_o0 _ | exact ObjLe.rfl' _ | refine ObjLe_same ?_ | refine ObjLe_upd ?_ ?_ | refine ObjLe_new rfl ?_)) <;> rfl)))
        · have h : k = o.length := by simp at h; omega
          subst h
          rw [recsT_all]
          (refine WV_exit ?_; simp only [go_sem, init_env', Nat.reduceEqDiff, Nat.reduceAdd, Nat.reduceMul, reduceIte, Nat.reduceLeDiff, Nat.reduceLT, Nat.reduceBEq, reduceCtorEq])
          (repeat ((first | refine WV_seq_ ?_ | refine WV_block ?_ | refine WV_ops ?_ | refine WV_skip ?_ | refine WV_exit ?_); (try simp only [go_sem, init_env', Nat.reduceEqDiff, Nat.reduceAdd, Nat.reduceMul, reduceIte, Nat.reduceLeDiff, Nat.reduceLT, Nat.reduceBEq, reduceCtorEq, hP, List.length_nil, Int.natCast_zero]); (repeat (refine And.intro (by first | omega | (intros; simp_all; done) | (intros; simp_all; omega)) ?_))))
          refine WV_loopK K78_2 [] (fun _ : Unit => True) (fun _ => 0) (fun _ => [(36, iv 0)]) (fun _ => []) () trivial ?_ ?_
          · (refine Sub_of (by simp only [go_sem, init_env', Nat.reduceEqDiff, Nat.reduceAdd, Nat.reduceMul, reduceIte, Nat.reduceLeDiff, Nat.reduceLT, Nat.reduceBEq, reduceCtorEq]; ((repeat' (first | exact EnvLe_e0 _ _ | refine EnvLe_upd ?_ ?_)) <;> ((try simp only [upd_app, e0_app, o0_app, Nat.reduceEqDiff, reduceIte]); first | exact AWk.refl _ _ | exact AWk.int (by omega) | exact AWk.int (by rw [w64 (by omega) (by omega)]; omega) | exact AWk.grow rfl | exact AWk.nil _ | exact AWk.of (by simp)))) (by simp only [go_sem, init_env', Nat.reduceEqDiff, Nat.reduceAdd, Nat.reduceMul, reduceIte, Nat.reduceLeDiff, Nat.reduceLT, Nat.reduceBEq, reduceCtorEq]; ((repeat' (first | exact ObjLe_o0 _ | exact ObjLe.rfl' _ | refine ObjLe_same ?_ | refine ObjLe_upd ?_ ?_ | refine ObjLe_new rfl ?_)) <;> rfl)))
          · rintro - -
            simp only [go_sem, init_env', Nat.reduceEqDiff, Nat.reduceAdd, Nat.reduceMul, reduceIte, Nat.reduceLeDiff, Nat.reduceLT, Nat.reduceBEq, reduceCtorEq]
            (repeat ((first | refine WV_seq_ ?_ | refine WV_block ?_ | refine WV_ops ?_ | refine WV_skip ?_ | refine WV_exit ?_); (try simp only [go_sem, init_env', Nat.reduceEqDiff, Nat.reduceAdd, Nat.reduceMul, reduceIte, Nat.reduceLeDiff, Nat.reduceLT, Nat.reduceBEq, reduceCtorEq, hP, ]); (repeat (refine And.intro (by first | omega | (intros; simp_all; done) | (intros; simp_all; omega)) ?_))))
            (refine WV_cond rfl (fun h => ?_) (fun h => ?_))
            · simp at h
            · (refine WV_exit ?_; simp only [go_sem, init_env', Nat.reduceEqDiff, Nat.reduceAdd, Nat.reduceMul, reduceIte, Nat.reduceLeDiff, Nat.reduceLT, Nat.reduceBEq, reduceCtorEq])
              (repeat ((first | refine WV_seq_ ?_ | refine WV_block ?_ | refine WV_ops ?_ | refine WV_skip ?_ | refine WV_exit ?_); (try simp only [go_sem, init_env', Nat.reduceEqDiff, Nat.reduceAdd, Nat.reduceMul, reduceIte, Nat.reduceLeDiff, Nat.reduceLT, Nat.reduceBEq, reduceCtorEq, hP, ]); (repeat (refine And.intro (by first | omega | (intros; simp_all; done) | (intros; simp_all; omega)) ?_))))
              have hrs := recs_scal (o.map t.rc)
              have hav : (arrT t o).av = .agg [.c (.sl 2 ((o.map t.rc).map Rec.cds)), iv t.at_, iv t.way, iv t.step, .c (.sl 2 [])] := by simp [Tray.av, arrT, hpn, recsC, prsC]
              (refine WV_ret ?_; simp only [thenQ, inQ, RetQF, RetOkF, resAll, resA]; simp only [go_sem, init_env', Nat.reduceEqDiff, Nat.reduceAdd, Nat.reduceMul, reduceIte, Nat.reduceLeDiff, Nat.reduceLT, Nat.reduceBEq, reduceCtorEq, tupA, AV.fport, AV.fportL, CD.scal, exists_eq_left', hrs]; refine And.intro (by ((repeat' (first | exact NoWin_o0 | refine NoWin_upd (fun cs h => by cases h) ?_)))) ?_)
              exact AVle.agg (AVles.cons (AVle.refl _) (AVles.cons (AVle.refl _) (AVles.cons (AVle.refl _) (AVles.cons (AVle.refl _) (AVles.cons (AVle.of (by simp [arrT, hpn, prsC])) (AVles.refl _))))))
    · refine ⟨[], .c (.raw (.slice none 0 0)), [], by decide, rfl, by simp only [go_sem, init_env', Nat.reduceEqDiff, Nat.reduceAdd, Nat.reduceMul, reduceIte, Nat.reduceLeDiff, Nat.reduceLT, Nat.reduceBEq, reduceCtorEq, decide_true], rfl, rfl, ?_⟩
      simp only [go_sem, init_env', Nat.reduceEqDiff, Nat.reduceAdd, Nat.reduceMul, reduceIte, Nat.reduceLeDiff, Nat.reduceLT, Nat.reduceBEq, reduceCtorEq, hP, ownBack]
      (repeat (refine And.intro (by first | omega | (intros; simp_all; done) | (intros; simp_all; omega)) ?_))
      refine WV_nilbox 5 0 30 56 2 (by decide) (by decide) (by decide) rfl rfl rfl ?_
      simp only [go_sem, init_env', Nat.reduceEqDiff, Nat.reduceAdd, Nat.reduceMul, reduceIte, Nat.reduceLeDiff, Nat.reduceLT, Nat.reduceBEq, reduceCtorEq]
      (repeat ((first | refine WV_seq_ ?_ | refine WV_block ?_ | refine WV_ops ?_ | refine WV_skip ?_ | refine WV_exit ?_); (try simp only [go_sem, init_env', Nat.reduceEqDiff, Nat.reduceAdd, Nat.reduceMul, reduceIte, Nat.reduceLeDiff, Nat.reduceLT, Nat.reduceBEq, reduceCtorEq, hP, natsC, List.length_map]); (repeat (refine And.intro (by first | omega | (intros; simp_all; done) | (intros; simp_all; omega)) ?_))))
      refine WV_loopK K78_1 [5, 29, 30] (fun k : Nat => k ≤ o.length) (fun k => o.length - k) (fun k => [(18, iv k)]) (fun k => [(5, .box [.gr 30, iv t.at_, iv t.way, iv t.step, .c (.raw (.slice none 0 0))]), (30, .grow 56 2 ((recsT t o k).map Rec.cds))]) 0 (Nat.zero_le _) ?_ ?_
      · (refine Sub_of (by simp only [go_sem, init_env', Nat.reduceEqDiff, Nat.reduceAdd, Nat.reduceMul, reduceIte, Nat.reduceLeDiff, Nat.reduceLT, Nat.reduceBEq, reduceCtorEq]; ((repeat' (first | exact EnvLe_e0 _ _ | refine EnvLe_upd ?_ ?_)) <;> ((try simp only [upd_app, e0_app, o0_app, Nat.reduceEqDiff, reduceIte]); first | exact AWk.refl _ _ | exact AWk.int (by omega) | exact AWk.int (by rw [w64 (by omega) (by omega)]; omega) | exact AWk.grow rfl | exact AWk.nil _ | exact AWk.of (by simp)))) (by simp only [go_sem, init_env', Nat.reduceEqDiff, Nat.reduceAdd, Nat.reduceMul, reduceIte, Nat.reduceLeDiff, Nat.reduceLT, Nat.reduceBEq, reduceCtorEq]; ((repeat' (first | exact ObjLe_o0 _ | exact ObjLe.rfl' _ | refine ObjLe_same ?_ | refine ObjLe_upd ?_ ?_ | refine ObjLe_new rfl ?_)) <;> rfl)))
      · intro k hk
        simp only [go_sem, init_env', Nat.reduceEqDiff, Nat.reduceAdd, Nat.reduceMul, reduceIte, Nat.reduceLeDiff, Nat.reduceLT, Nat.reduceBEq, reduceCtorEq]
        (repeat ((first | refine WV_seq_ ?_ | refine WV_block ?_ | refine WV_ops ?_ | refine WV_skip ?_ | refine WV_exit ?_); (try simp only [go_sem, init_env', Nat.reduceEqDiff, Nat.reduceAdd, Nat.reduceMul, reduceIte, Nat.reduceLeDiff, Nat.reduceLT, Nat.reduceBEq, reduceCtorEq, hP, ]); (repeat (refine And.intro (by first | omega | (intros; simp_all; done) | (intros; simp_all; omega)) ?_))))
        (refine WV_cond rfl (fun h => ?_) (fun h => ?_))
        · have hkl : k < o.length := by simpa using h
          have hI : (k : Int) < (o.length : Int) := by omega
          have hw := w64 (n := (k : Int) + 1) (by omega) (by omega)
          have hlt := ho.lt (List.getElem_mem hkl)
          have hlt' : o[k] < t.recs.length := hlt
          have hI2 : ((o[k] : Nat) : Int) < (t.recs.length : Int) := by omega
          have hrc : t.rc o[k] = t.recs[o[k]] := by unfold Tray.rc; simp [hlt']
          have hsu := recsT_succ t hkl
          have hrl := recsT_len t o k
          have e9 : (recsT t o k).map Rec.cds ++ [[CD.int .i64 t.recs[o[k]].front, CD.int .i64 t.recs[o[k]].back]] = (recsT t o (k + 1)).map Rec.cds := by rw [hsu, hrc, List.map_append]; rfl
          (repeat ((first | refine WV_seq_ ?_ | refine WV_block ?_ | refine WV_ops ?_ | refine WV_skip ?_ | refine WV_exit ?_); (try simp only [go_sem, init_env', Nat.reduceEqDiff, Nat.reduceAdd, Nat.reduceMul, reduceIte, Nat.reduceLeDiff, Nat.reduceLT, Nat.reduceBEq, reduceCtorEq, hP, map_getD hkl, hI, Int.natCast_nonneg, ncd, recsC, List.length_map, map_getD hlt', hI2, Rec.cds, recs_two, hw, e9]); (repeat (refine And.intro (by first | omega | (intros; simp_all; done) | (intros; simp_all; omega)) ?_))))
          refine ⟨k + 1, by omega, by omega, ?_⟩
          (refine Sub_of (by simp only [go_sem, init_env', Nat.reduceEqDiff, Nat.reduceAdd, Nat.reduceMul, reduceIte, Nat.reduceLeDiff, Nat.reduceLT, Nat.reduceBEq, reduceCtorEq]; ((repeat' (first | exact EnvLe_e0 _ _ | refine EnvLe_upd ?_ ?_)) <;> ((try simp only [upd_app, e0_app, o0_app, Nat.reduceEqDiff, reduceIte]); first | exact AWk.refl _ _ | exact AWk.int (by omega) | exact AWk.int (by rw [w64 (by omega) (by omega)]; omega) | exact AWk.grow rfl | exact AWk.nil _ | exact AWk.of (by simp)))) (by simp only [go_sem, init_env', Nat.reduceEqDiff, Nat.reduceAdd, Nat.reduceMul, reduceIte, Nat.reduceLeDiff, Nat.reduceLT, Nat.reduceBEq, reduceCtorEq]; ((repeat' (first | exact ObjLe_o0 _ | exact ObjLe.rfl' _ | refine ObjLe_same ?_ | refine ObjLe_upd ?_ ?_ | refine ObjLe_new rfl ?_)) <;> rfl)))
        · have h : k = o.length := by simp at h; omega
          subst h
          rw [recsT_all]
          (refine WV_exit ?_; simp only [go_sem, init_env', Nat.reduceEqDiff, Nat.reduceAdd, Nat.reduceMul, reduceIte, Nat.reduceLeDiff, Nat.reduceLT, Nat.reduceBEq, reduceCtorEq])
          (repeat ((first | refine WV_seq_ ?_ | refine WV_block ?_ | refine WV_ops ?_ | refine WV_skip ?_ | refine WV_exit ?_); (try simp only [go_sem, init_env', Nat.reduceEqDiff, Nat.reduceAdd, Nat.reduceMul, reduceIte, Nat.reduceLeDiff, Nat.reduceLT, Nat.reduceBEq, reduceCtorEq, hP, List.length_nil, Int.natCast_zero]); (repeat (refine And.intro (by first | omega | (intros; simp_all; done) | (intros; simp_all; omega)) ?_))))
          refine WV_loopK K78_2 [] (fun _ : Unit => True) (fun _ => 0) (fun _ => [(36, iv 0)]) (fun _ => []) () trivial ?_ ?_
          · (refine Sub_of (by simp only [go_sem, init_env', Nat.reduceEqDiff, Nat.reduceAdd, Nat.reduceMul, reduceIte, Nat.reduceLeDiff, Nat.reduceLT, Nat.reduceBEq, reduceCtorEq]; ((repeat' (first | exact EnvLe_e0 _ _ | refine EnvLe_upd ?_ ?_)) <;> ((try simp only [upd_app, e0_app, o0_app, Nat.reduceEqDiff, reduceIte]); first | exact AWk.refl _ _ | exact AWk.int (by omega) | exact AWk.int (by rw [w64 (by omega) (by omega)]; omega) | exact AWk.grow rfl | exact AWk.nil _ | exact AWk.of (by simp)))) (by simp only [go_sem, init_env', Nat.reduceEqDiff, Nat.reduceAdd, Nat.reduceMul, reduceIte, Nat.reduceLeDiff, Nat.reduceLT, Nat.reduceBEq, reduceCtorEq]; ((repeat' (first | exact ObjLe_o0 _ | exact ObjLe.rfl' _ | refine ObjLe_same ?_ | refine ObjLe_upd ?_ ?_ | refine ObjLe_new rfl ?_)) <;> rfl)))
          · rintro - -
            simp only [go_sem, init_env', Nat.reduceEqDiff, Nat.reduceAdd, Nat.reduceMul, reduceIte, Nat.reduceLeDiff, Nat.reduceLT, Nat.reduceBEq, reduceCtorEq]
            (repeat ((first | refine WV_seq_ ?_ | refine WV_block ?_ | refine WV_ops ?_ | refine WV_skip ?_ | refine WV_exit ?_); (try simp only [go_sem, init_env', Nat.reduceEqDiff, Nat.reduceAdd, Nat.reduceMul, reduceIte, Nat.reduceLeDiff, Nat.reduceLT, Nat.reduceBEq, reduceCtorEq, hP, ]); (repeat (refine And.intro (by first | omega | (intros; simp_all; done) | (intros; simp_all; omega)) ?_))))
            (refine WV_cond rfl (fun h => ?_) (fun h => ?_))
            · simp at h
            · (refine WV_exit ?_; simp only [go_sem, init_env', Nat.reduceEqDiff, Nat.reduceAdd, Nat.reduceMul, reduceIte, Nat.reduceLeDiff, Nat.reduceLT, Nat.reduceBEq, reduceCtorEq])
              (repeat ((first | refine WV_seq_ ?_ | refine WV_block ?_ | refine WV_ops ?_ | refine WV_skip ?_ | refine WV_exit ?_); (try simp only [go_sem, init_env', Nat.reduceEqDiff, Nat.reduceAdd, Nat.reduceMul, reduceIte, Nat.reduceLeDiff, Nat.reduceLT, Nat.reduceBEq, reduceCtorEq, hP, ]); (repeat (refine And.intro (by first | omega | (intros; simp_all; done) | (intros; simp_all; omega)) ?_))))
              have hrs := recs_scal (o.map t.rc)
              have hav : (arrT t o).av = .agg [.c (.sl 2 ((o.map t.rc).map Rec.cds)), iv t.at_, iv t.way, iv t.step, .c (.sl 2 [])] := by simp [Tray.av, arrT, hpn, recsC, prsC]
              (refine WV_ret ?_; simp only [thenQ, inQ, RetQF, RetOkF, resAll, resA]; simp only [go_sem, init_env', Nat.reduceEqDiff, Nat.reduceAdd, Nat.reduceMul, reduceIte, Nat.reduceLeDiff, Nat.reduceLT, Nat.reduceBEq, reduceCtorEq, tupA, AV.fport, AV.fportL, CD.scal, exists_eq_left', hrs]; refine And.intro (by ((repeat' (first | exact NoWin_o0 | refine NoWin_upd (fun cs h => by cases h) ?_)))) ?_)
              exact AVle.agg (AVles.cons (AVle.refl _) (AVles.cons (AVle.refl _) (AVles.cons (AVle.refl _) (AVles.cons (AVle.refl _) (AVles.cons (by rw [show (arrT t o).pres = [] by simp [arrT, hpn]]; exact AVle.nil 2) (AVles.refl _))))))
  · refine AS_new (cloneN56 t.pres (by omega) hpn) rfl rfl rfl rfl ?_
    rintro res os ⟨cap, J, h1, h2, h3, rfl, rfl⟩
    refine ⟨[900], .vw 2 900 0 t.pres.length cap, [.box (cellsG Pr.cds t.pres J)], by decide, rfl, by simp only [go_sem, init_env', Nat.reduceEqDiff, Nat.reduceAdd, Nat.reduceMul, reduceIte, Nat.reduceLeDiff, Nat.reduceLT, Nat.reduceBEq, reduceCtorEq, decide_true], rfl, (by simp only [obsBack, Ob.back, back_cellsG]; rfl), ?_⟩
    simp only [go_sem, init_env', Nat.reduceEqDiff, Nat.reduceAdd, Nat.reduceMul, reduceIte, Nat.reduceLeDiff, Nat.reduceLT, Nat.reduceBEq, reduceCtorEq, hP, ownBack]
    (repeat (refine And.intro (by first | omega | (intros; simp_all; done) | (intros; simp_all; omega)) ?_))
    refine WV_nilbox 5 0 30 56 2 (by decide) (by decide) (by decide) rfl rfl rfl ?_
    simp only [go_sem, init_env', Nat.reduceEqDiff, Nat.reduceAdd, Nat.reduceMul, reduceIte, Nat.reduceLeDiff, Nat.reduceLT, Nat.reduceBEq, reduceCtorEq]
    (repeat ((first | refine WV_seq_ ?_ | refine WV_block ?_ | refine WV_ops ?_ | refine WV_skip ?_ | refine WV_exit ?_); (try simp only [go_sem, init_env', Nat.reduceEqDiff, Nat.reduceAdd, Nat.reduceMul, reduceIte, Nat.reduceLeDiff, Nat.reduceLT, Nat.reduceBEq, reduceCtorEq, hP, natsC, List.length_map]); (repeat (refine And.intro (by first | omega | (intros; simp_all; done) | (intros; simp_all; omega)) ?_))))
    refine WV_loopK K78_1 [5, 29, 30] (fun k : Nat => k ≤ o.length) (fun k => o.length - k) (fun k => [(18, iv k)]) (fun k => [(5, .box [.gr 30, iv t.at_, iv t.way, iv t.step, .vw 2 900 0 t.pres.length cap]), (30, .grow 56 2 ((recsT t o k).map Rec.cds))]) 0 (Nat.zero_le _) ?_ ?_
    · (refine Sub_of (by simp only [go_sem, init_env', Nat.reduceEqDiff, Nat.reduceAdd, Nat.reduceMul, reduceIte, Nat.reduceLeDiff, Nat.reduceLT, Nat.reduceBEq, reduceCtorEq]; ((repeat' (first | exact EnvLe_e0 _ _ | refine EnvLe_upd ?_ ?_)) <;> ((try simp only [upd_app, e0_app, o0_app, Nat.reduceEqDiff, reduceIte]); first | exact AWk.refl _ _ | exact AWk.int (by omega) | exact AWk.int (by rw [w64 (by omega) (by omega)]; omega) | exact AWk.grow rfl | exact AWk.nil _ | exact AWk.of (by simp)))) (by simp only [go_sem, init_env', Nat.reduceEqDiff, Nat.reduceAdd, Nat.reduceMul, reduceIte, Nat.reduceLeDiff, Nat.reduceLT, Nat.reduceBEq, reduceCtorEq]; ((repeat' (first | exact ObjLe_o0 _ | exact ObjLe.rfl' _ | refine ObjLe_same ?_ | refine ObjLe_upd ?_ ?_ | refine ObjLe_new rfl ?_)) <;> rfl)))
    · intro k hk
      simp only [go_sem, init_env', Nat.reduceEqDiff, Nat.reduceAdd, Nat.reduceMul, reduceIte, Nat.reduceLeDiff, Nat.reduceLT, Nat.reduceBEq, reduceCtorEq]
      (repeat ((first | refine WV_seq_ ?_ | refine WV_block ?_ | refine WV_ops ?_ | refine WV_skip ?_ | refine WV_exit ?_); (try simp only [go_sem, init_env', Nat.reduceEqDiff, Nat.reduceAdd, Nat.reduceMul, reduceIte, Nat.reduceLeDiff, Nat.reduceLT, Nat.reduceBEq, reduceCtorEq, hP, ]); (repeat (refine And.intro (by first | omega | (intros; simp_all; done) | (intros; simp_all; omega)) ?_))))
      (refine WV_cond rfl (fun h => ?_) (fun h => ?_))
      · have hkl : k < o.length := by simpa using h
        have hI : (k : Int) < (o.length : Int) := by omega
        have hw := w64 (n := (k : Int) + 1) (by omega) (by omega)
        have hlt := ho.lt (List.getElem_mem hkl)
        have hlt' : o[k] < t.recs.length := hlt
        have hI2 : ((o[k] : Nat) : Int) < (t.recs.length : Int) := by omega
        have hrc : t.rc o[k] = t.recs[o[k]] := by unfold Tray.rc; simp [hlt']
        have hsu := recsT_succ t hkl
        have hrl := recsT_len t o k
        have e9 : (recsT t o k).map Rec.cds ++ [[CD.int .i64 t.recs[o[k]].front, CD.int .i64 t.recs[o[k]].back]] = (recsT t o (k + 1)).map Rec.cds := by rw [hsu, hrc, List.map_append]; rfl
        (repeat ((first | refine WV_seq_ ?_ | refine WV_block ?_ | refine WV_ops ?_ | refine WV_skip ?_ | refine WV_exit ?_); (try simp only [go_sem, init_env', Nat.reduceEqDiff, Nat.reduceAdd, Nat.reduceMul, reduceIte, Nat.reduceLeDiff, Nat.reduceLT, Nat.reduceBEq, reduceCtorEq, hP, map_getD hkl, hI, Int.natCast_nonneg, ncd, recsC, List.length_map, map_getD hlt', hI2, Rec.cds, recs_two, hw, e9]); (repeat (refine And.intro (by first | omega | (intros; simp_all; done) | (intros; simp_all; omega)) ?_))))
        refine ⟨k + 1, by omega, by omega, ?_⟩
        (refine Sub_of (by simp only [go_sem, init_env', Nat.reduceEqDiff, Nat.reduceAdd, Nat.reduceMul, reduceIte, Nat.reduceLeDiff, Nat.reduceLT, Nat.reduceBEq, reduceCtorEq]; ((repeat' (first | exact EnvLe_e0 _ _ | refine EnvLe_upd ?_ ?_)) <;> ((try simp only [upd_app, e0_app, o0_app, Nat.reduceEqDiff, reduceIte]); first | exact AWk.refl _ _ | exact AWk.int (by omega) | exact AWk.int (by rw [w64 (by omega) (by omega)]; omega) | exact AWk.grow rfl | exact AWk.nil _ | exact AWk.of (by simp)))) (by simp only [go_sem, init_env', Nat.reduceEqDiff, Nat.reduceAdd, Nat.reduceMul, reduceIte, Nat.reduceLeDiff, Nat.reduceLT, Nat.reduceBEq, reduceCtorEq]; ((repeat' (first | exact ObjLe_o0 _ | exact ObjLe.rfl' _ | refine ObjLe_same ?_ | refine ObjLe_upd ?_ ?_ | refine ObjLe_new rfl ?_)) <;> rfl)))
      · have h : k = o.length := by simp at h; omega
        subst h
        rw [recsT_all]
        (refine WV_exit ?_; simp only [go_sem, init_env', Nat.reduceEqDiff, Nat.reduceAdd, Nat.reduceMul, reduceIte, Nat.reduceLeDiff, Nat.reduceLT, Nat.reduceBEq, reduceCtorEq])
        (repeat ((first | refine WV_seq_ ?_ | refine WV_block ?_ | refine WV_ops ?_ | refine WV_skip ?_ | refine WV_exit ?_); (try simp only [go_sem, init_env', Nat.reduceEqDiff, Nat.reduceAdd, Nat.reduceMul, reduceIte, Nat.reduceLeDiff, Nat.reduceLT, Nat.reduceBEq, reduceCtorEq, hP, ]); (repeat (refine And.intro (by first | omega | (intros; simp_all; done) | (intros; simp_all; omega)) ?_))))
        refine WV_loopK K78_2 [5, 9, 900] (fun k : Nat => k ≤ t.pres.length) (fun k => t.pres.length - k) (fun k => [(36, iv k)]) (fun k => [(5, .box [.gr 30, iv t.at_, iv t.way, iv t.step, .vw 2 900 0 t.pres.length cap]), (900, .box (cellsG Pr.cds (mapK (arrP o) t.pres k) J))]) 0 (Nat.zero_le _) ?_ ?_
        · rw [mapK_zero]
          (refine Sub_of (by simp only [go_sem, init_env', Nat.reduceEqDiff, Nat.reduceAdd, Nat.reduceMul, reduceIte, Nat.reduceLeDiff, Nat.reduceLT, Nat.reduceBEq, reduceCtorEq]; ((repeat' (first | exact EnvLe_e0 _ _ | refine EnvLe_upd ?_ ?_)) <;> ((try simp only [upd_app, e0_app, o0_app, Nat.reduceEqDiff, reduceIte]); first | exact AWk.refl _ _ | exact AWk.int (by omega) | exact AWk.int (by rw [w64 (by omega) (by omega)]; omega) | exact AWk.grow rfl | exact AWk.nil _ | exact AWk.of (by simp)))) (by simp only [go_sem, init_env', Nat.reduceEqDiff, Nat.reduceAdd, Nat.reduceMul, reduceIte, Nat.reduceLeDiff, Nat.reduceLT, Nat.reduceBEq, reduceCtorEq]; ((repeat' (first | exact ObjLe_o0 _ | exact ObjLe.rfl' _ | refine ObjLe_same ?_ | refine ObjLe_upd ?_ ?_ | refine ObjLe_new rfl ?_)) <;> rfl)))
        · intro k hk
          have hml := mapK_len (arrP o) t.pres k
          simp only [go_sem, init_env', Nat.reduceEqDiff, Nat.reduceAdd, Nat.reduceMul, reduceIte, Nat.reduceLeDiff, Nat.reduceLT, Nat.reduceBEq, reduceCtorEq]
          (repeat ((first | refine WV_seq_ ?_ | refine WV_block ?_ | refine WV_ops ?_ | refine WV_skip ?_ | refine WV_exit ?_); (try simp only [go_sem, init_env', Nat.reduceEqDiff, Nat.reduceAdd, Nat.reduceMul, reduceIte, Nat.reduceLeDiff, Nat.reduceLT, Nat.reduceBEq, reduceCtorEq, hP, ]); (repeat (refine And.intro (by first | omega | (intros; simp_all; done) | (intros; simp_all; omega)) ?_))))
          (refine WV_cond rfl (fun h => ?_) (fun h => ?_))
          · have hkl : k < t.pres.length := by simpa using h
            have hI : (k : Int) < (t.pres.length : Int) := by omega
            have hw := w64 (n := (k : Int) + 1) (by omega) (by omega)
            have hlk : k < (mapK (arrP o) t.pres k).length := by omega
            have hge := cellsG_elem pr_two hlk J
            rw [mapK_get hkl hlk] at hge
            have hps := (ht.pres _ (List.getElem_mem hkl))
            have hidx := arrP_side ho hps.1
            have hix := index86 o (t.pres[k].side.toNat / 2) (by omega) (ho.mem hidx.2)
            have hset := cellsG_set pr_two hlk J 0 (by decide) (.int .i64 (2 * (o.idxOf (t.pres[k].side.toNat / 2) : Int) + t.pres[k].side % 2)) (arrP o t.pres[k]) (by rw [mapK_get hkl hlk]; rfl)
            rw [Nat.add_zero, mapK_set hkl] at hset
            have hcl : (cellsG Pr.cds (mapK (arrP o) t.pres k) J).length = t.pres.length * 2 + J := by rw [cellsG_len pr_two, hml]
            have hc1 : k * 2 < (cellsG Pr.cds (mapK (arrP o) t.pres k) J).length := by rw [hcl]; omega
            have hc2 : k * 2 + 1 ≤ (cellsG Pr.cds (mapK (arrP o) t.pres k) J).length := by rw [hcl]; omega
            have hc3 : k * 2 + 2 ≤ (cellsG Pr.cds (mapK (arrP o) t.pres k) J).length := by rw [hcl]; omega
            have hq1 : t.pres[k].side.tdiv 2 = ((t.pres[k].side.toNat / 2 : Nat) : Int) := by rw [Int.tdiv_eq_ediv_of_nonneg hps.1.1]; omega
            have hq2 : t.pres[k].side.tmod 2 = t.pres[k].side % 2 := Int.tmod_eq_emod_of_nonneg hps.1.1
            have hw1 := w64 (n := ((t.pres[k].side.toNat / 2 : Nat) : Int)) (by omega) (by omega)
            have hw2 := w64 (n := t.pres[k].side % 2) (by omega) (by omega)
            have hw3 := w64 (n := 2 * (o.idxOf (t.pres[k].side.toNat / 2) : Int)) (by omega) (by omega)
            have hw4 := w64 (n := 2 * (o.idxOf (t.pres[k].side.toNat / 2) : Int) + t.pres[k].side % 2) (by omega) (by omega)
            clear hidx
            generalize t.pres[k] = p at *
            generalize mapK (arrP o) t.pres k = M1 at *
            generalize hM2 : mapK (arrP o) t.pres (k + 1) = M2 at *
            generalize o.idxOf (p.side.toNat / 2) = I at *
            generalize p.side.toNat / 2 = m at *
            (repeat ((first | refine WV_seq_ ?_ | refine WV_block ?_ | refine WV_ops ?_ | refine WV_skip ?_ | refine WV_exit ?_); (try simp only [go_sem, init_env', Nat.reduceEqDiff, Nat.reduceAdd, Nat.reduceMul, reduceIte, Nat.reduceLeDiff, Nat.reduceLT, Nat.reduceBEq, reduceCtorEq, hP, hI, Int.natCast_nonneg, hge, hc3, Pr.cds, List.map_cons, List.map_nil, hq1, hw1]); (repeat (refine And.intro (by first | omega | (intros; simp_all; done) | (intros; simp_all; omega)) ?_))))
            refine ACall_of hix rfl rfl rfl rfl rfl ?_
            simp only [go_sem, init_env', Nat.reduceEqDiff, Nat.reduceAdd, Nat.reduceMul, reduceIte, Nat.reduceLeDiff, Nat.reduceLT, Nat.reduceBEq, reduceCtorEq, hP, hw3, hq2, hw2, hw4, hset, hc1, hc2, hI, Int.natCast_nonneg]
            (repeat (refine And.intro (by first | omega | (intros; simp_all; done) | (intros; simp_all; omega)) ?_))
            (repeat ((first | refine WV_seq_ ?_ | refine WV_block ?_ | refine WV_ops ?_ | refine WV_skip ?_ | refine WV_exit ?_); (try simp only [go_sem, init_env', Nat.reduceEqDiff, Nat.reduceAdd, Nat.reduceMul, reduceIte, Nat.reduceLeDiff, Nat.reduceLT, Nat.reduceBEq, reduceCtorEq, hP, hw]); (repeat (refine And.intro (by first | omega | (intros; simp_all; done) | (intros; simp_all; omega)) ?_))))
            refine ⟨k + 1, by omega, by omega, ?_⟩
            rw [hM2]
            (refine Sub_of (by simp only [go_sem, init_env', Nat.reduceEqDiff, Nat.reduceAdd, Nat.reduceMul, reduceIte, Nat.reduceLeDiff, Nat.reduceLT, Nat.reduceBEq, reduceCtorEq]; ((repeat' (first | exact EnvLe_e0 _ _ | refine EnvLe_upd ?_ ?_)) <;> ((try simp only [upd_app, e0_app, o0_app, Nat.reduceEqDiff, reduceIte]); first | exact AWk.refl _ _ | exact AWk.int (by omega) | exact AWk.int (by rw [w64 (by omega) (by omega)]; omega) | exact AWk.grow rfl | exact AWk.nil _ | exact AWk.of (by simp)))) (by simp only [go_sem, init_env', Nat.reduceEqDiff, Nat.reduceAdd, Nat.reduceMul, reduceIte, Nat.reduceLeDiff, Nat.reduceLT, Nat.reduceBEq, reduceCtorEq]; ((repeat' (first | exact ObjLe_o0 _ | exact ObjLe.rfl' _ | refine ObjLe_same ?_ | refine ObjLe_upd ?_ ?_ | refine ObjLe_new rfl ?_)) <;> rfl)))
          · have h : k = t.pres.length := by simp at h; omega
            subst h
            rw [mapK_all]
            (refine WV_exit ?_; simp only [go_sem, init_env', Nat.reduceEqDiff, Nat.reduceAdd, Nat.reduceMul, reduceIte, Nat.reduceLeDiff, Nat.reduceLT, Nat.reduceBEq, reduceCtorEq])
            (repeat ((first | refine WV_seq_ ?_ | refine WV_block ?_ | refine WV_ops ?_ | refine WV_skip ?_ | refine WV_exit ?_); (try simp only [go_sem, init_env', Nat.reduceEqDiff, Nat.reduceAdd, Nat.reduceMul, reduceIte, Nat.reduceLeDiff, Nat.reduceLT, Nat.reduceBEq, reduceCtorEq, hP, ]); (repeat (refine And.intro (by first | omega | (intros; simp_all; done) | (intros; simp_all; omega)) ?_))))
            have hrs := recs_scal (o.map t.rc)
            have hps := prs_scal (t.pres.map (arrP o))
            have hel : ∀ own : Nat → Ob, own 900 = .box (cellsG Pr.cds (t.pres.map (arrP o)) J) → AV.elemsV own (.vw 2 900 0 t.pres.length cap) = some (2, (t.pres.map (arrP o)).map Pr.cds) := fun own h => by
              have := elemsV_cellsG pr_two own 900 (t.pres.map (arrP o)) J cap h
              rwa [List.length_map] at this
            (refine WV_ret ?_; simp only [thenQ, inQ, RetQF, RetOkF, resAll, resA]; simp only [go_sem, init_env', Nat.reduceEqDiff, Nat.reduceAdd, Nat.reduceMul, reduceIte, Nat.reduceLeDiff, Nat.reduceLT, Nat.reduceBEq, reduceCtorEq, tupA, AV.fport, AV.fportL, CD.scal, exists_eq_left', hrs, hel, hps]; refine And.intro (by ((repeat' (first | exact NoWin_o0 | refine NoWin_upd (fun cs h => by cases h) ?_)))) ?_)
            exact AVle.of rfl
end Go.Proofs.Ytkpgpgaojjobgaa

namespace Go.Proofs.Ytkpgpgaojjobgaa
open Go Go.V
@[reducible] def o77_0 : List Ins := [⟨(some 6), .ld false 5 (.t 1), none, true⟩,
  ⟨(some 7), .mv (.t 0), none, true⟩,
  ⟨(some 8), .call (.k (.fn 78 [])) [(.t 6), (.t 7)], none, true⟩,
  ⟨(some 9), .call (.k (.fn 54 [])) [(.t 8)], none, true⟩,
  ⟨(some 10), .fld true 1 3 (.t 9), none, true⟩,
  ⟨(some 5), .mv (.t 10), none, true⟩]
@[reducible] def o77_1 : List Ins := [⟨(some 11), .ld true 1 (.t 2), none, true⟩,
  ⟨(some 12), .bin .lss (.t 11) (.k (.c (.int .i64 0))), none, true⟩,
  ⟨(some 13), .mv (.t 12), none, true⟩,
  ⟨(some 14), .mv (.t 5), (some (13, false)), true⟩,
  ⟨(some 15), .ld true 1 (.t 2), (some (13, false)), true⟩,
  ⟨(some 16), .bin .lss (.t 14) (.t 15), (some (13, false)), true⟩,
  ⟨(some 17), .pick (.t 13) (.k (.c (.bool true))) (.t 16), none, true⟩]
@[reducible] def o77_2 : List Ins := [⟨(some 18), .mv (.t 0), none, true⟩,
  ⟨(some 19), .call (.k (.fn 79 [])) [(.t 18)], none, true⟩,
  ⟨(some 20), .mv (.t 5), none, true⟩,
  ⟨none, .st 1 (.t 3) (.t 19), none, true⟩,
  ⟨none, .st 1 (.t 2) (.t 20), none, true⟩]
@[reducible] def v77_3 : VC := (.cond (.t 17) (.ops o77_2) .skip)
@[reducible] def v77_4 : VC := (.seq (.ops o77_1) v77_3)
def ir77 : FC := ⟨4, 21, [], (.seq (.ops o77_0) v77_4)⟩
@[reducible] def o63_0 : List Ins := [⟨(some 1), .box 5 (.t 0), none, true⟩,
  ⟨(some 2), .alloc [(.c (.raw (.slice none 0 0)))], none, true⟩,
  ⟨(some 3), .alloc [(.c (.int .i64 0))], none, true⟩]
@[reducible] def o63_1 : List Ins := [⟨none, .st 1 (.t 3) (.k (.c (.int .i64 (-1)))), none, true⟩]
@[reducible] def o63_2 : List Ins := [⟨(some 4), .fa 0 (.t 1), none, true⟩,
  ⟨(some 5), .ld true 1 (.t 4), none, true⟩,
  ⟨(some 6), .len (.t 5), none, true⟩,
  ⟨(some 7), .mkfn 77 [(.t 1), (.t 3), (.t 2)], none, true⟩,
  ⟨(some 8), .call (.k (.fn 76 [])) [(.t 6), (.t 7)], none, true⟩]
@[reducible] def t63_3 : OT := (.cons ⟨(some 9), .ld true 1 (.t 2), none, false⟩
  (.br [(.cons ⟨(some 10), .ld true 1 (.t 3), none, false⟩
    (.cons ⟨none, .st 1 (.t 2) (.t 9), none, false⟩
    (.cons ⟨none, .st 1 (.t 3) (.t 10), none, true⟩
    .nil))), (.cons ⟨none, .st 1 (.t 2) (.t 9), none, false⟩
    (.cons ⟨(some 10), .ld true 1 (.t 3), none, false⟩
    (.cons ⟨none, .st 1 (.t 3) (.t 10), none, true⟩
    .nil)))]))
@[reducible] def v63_4 : VC := (.seq (.drw t63_3) .ret)
@[reducible] def v63_5 : VC := (.seq (.ops o63_2) v63_4)
@[reducible] def v63_6 : VC := (.seq (.ops o63_1) v63_5)
def ir63 : FC := ⟨1, 11, [.cell 2 true 1, .cell 3 true 1], (.seq (.ops o63_0) v63_6)⟩
@[reducible] def o37_0 : List Ins := [⟨(some 1), .box 5 (.t 0), none, true⟩,
  ⟨(some 2), .mv (.k (.c (.int .i64 0))), none, true⟩,
  ⟨(some 3), .mv (.k (.c (.int .i64 0))), none, true⟩]
@[reducible] def o37_1 : List Ins := [⟨(some 7), .ld false 5 (.t 1), none, true⟩,
  ⟨(some 8), .call (.k (.fn 62 [])) [(.t 7)], none, true⟩,
  ⟨(some 4), .mv (.t 8), none, true⟩]
@[reducible] def o37_2 : List Ins := [⟨(some 9), .mv (.t 4), none, true⟩,
  ⟨(some 10), .bin .neq (.t 9) (.k (.c (.int .i64 0))), none, true⟩]
@[reducible] def o37_3 : List Ins := [⟨(some 11), .mv (.t 4), none, true⟩,
  ⟨(some 2), .mv (.k (.c (.int .i64 0))), none, true⟩,
  ⟨(some 3), .mv (.t 11), none, true⟩]
@[reducible] def v37_4 : VC := (.seq (.ops o37_3) .ret)
@[reducible] def v37_5 : VC := (.cond (.t 10) v37_4 .skip)
@[reducible] def v37_6 : VC := (.seq (.ops o37_2) v37_5)
@[reducible] def o37_7 : List Ins := [⟨(some 13), .ld false 5 (.t 1), none, true⟩,
  ⟨(some 14), .call (.k (.fn 63 [])) [(.t 13)], none, true⟩,
  ⟨(some 12), .mv (.t 14), none, true⟩,
  ⟨(some 15), .ext (.t 12) 0, none, true⟩,
  ⟨(some 16), .ext (.t 12) 1, none, true⟩,
  ⟨(some 5), .mv (.t 15), none, true⟩,
  ⟨(some 6), .mv (.t 16), none, true⟩]
@[reducible] def o37_8 : List Ins := [⟨(some 17), .mv (.t 6), none, true⟩,
  ⟨(some 2), .mv (.t 17), none, true⟩,
  ⟨(some 3), .mv (.k (.c (.int .i64 0))), none, true⟩]
@[reducible] def v37_9 : VC := (.seq (.ops o37_8) .ret)
@[reducible] def v37_10 : VC := (.seq (.ops o37_7) v37_9)
@[reducible] def v37_11 : VC := (.seq (.seq (.ops o37_1) v37_6) v37_10)
def ir37 : FC := ⟨1, 18, [.t 2, .t 3], (.seq (.ops o37_0) v37_11)⟩
theorem c77 : compM Try.prog [] 77 = some ir77 := by kernel_rfl
theorem c63 : compM Try.prog [] 63 = some ir63 := by kernel_rfl
theorem c37 : compM Try.prog [] 37 = some ir37 := by kernel_rfl
theorem elemsV_winG {α : Type} {cds : α → List CD} {m : Nat} (hm : ∀ a, (cds a).length = m) (own : Nat → Ob) (n : Nat) (l : List α) (j cap : Nat) (h : own n = .win (cellsG cds l j)) : AV.elemsV own (.vw m n 0 l.length cap) = some (m, l.map cds) := by
  have h2 : (cellsG cds l j).take (l.length * m) = (flatG cds l).map .c := by rw [cellsG_take hm]; simp [cellsG]
  have h3 : ((flatG cds l).map AV.c).mapM (AV.toCD own) = some (flatG cds l) := by
    induction flatG cds l with
    | nil => rfl
    | cons a t ih => simp only [List.map_cons, List.mapM_cons, AV.toCD, Option.pure_def, Option.bind_eq_bind, Option.bind_some, ih]
  simp only [AV.elemsV, h, Ob.cellsR, Nat.zero_add, List.drop_zero, h2, h3, Option.map_some]
  rw [if_pos (by rw [cellsG_len hm]; omega)]
  have := grp_cellsG hm l
  rw [List.take_of_length_le (by rw [flatG_len hm]; exact Nat.le_refl _)] at this
  rw [this]
/-- When the last side has ended, with the records in another order. -/
def endO (t : Tray) (o : List Nat) : Int := (goesS (arrT t o)).end_
def bestStep (t : Tray) (s : Int × Option (List Nat)) (o : List Nat) : Int × Option (List Nat) := if s.1 < 0 ∨ endO t o < s.1 then (endO t o, some o) else s
def bestG (t : Tray) (l : List (List Nat)) : Int × Option (List Nat) := l.foldl (bestStep t) (-1, none)
theorem bestG_snoc (t : Tray) (l : List (List Nat)) (o : List Nat) : bestG t (l ++ [o]) = bestStep t (bestG t l) o := by unfold bestG; rw [List.foldl_append]; rfl
def ordA : Option (List Nat) → AV
  | none => .c (.raw (.slice none 0 0))
  | some o => .c (natsC o)
def bestO (s : Int × Option (List Nat)) : List Ob := [.box [iv s.1], .box [ordA s.2]]

set_option maxRecDepth 20000 in
set_option maxHeartbeats 8000000 in
theorem best77 {t : Tray} (ht : TrayOk t) {o : List Nat} (ho : IsOrd t.n o) (s : Int × Option (List Nat)) :
    FSpecL Try.prog 77 [.vw 1 2000 0 o.length o.length, .c (.pt t.cds), .bp 1000 0, .bp 1001 0] (bestO s) [cellsG ncd o 0] (fun res l' => res = .tup [] ∧ l' = bestO (bestStep t s o)) := by
  have hn6 := ht.n6
  have hol := ho.len
  have har := arranged78 ht ho
  have hgo := goes54 (arr_ok ht ho)
  have hend : (goesS (arrT t o)).end_ = endO t o := rfl
  obtain ⟨m, so⟩ := s
  generalize hA : ordA so = A
  simp only [bestO, hA]
  refine FSpecL_of c77 (by first | simp | exact Nat.le_of_ble_eq_true rfl) (Nat.le_refl _) (by decide) (by decide) fun C hP hN hC hL => ?_; rw [init_env', ownW_upd (by first | simp | exact Nat.le_of_ble_eq_true rfl)]; simp only [ir77, updL, updLo, List.map_nil, List.map_cons, Nat.reduceAdd, ]
  (repeat ((first | refine WV_seq_ ?_ | refine WV_block ?_ | refine WV_ops ?_ | refine WV_skip ?_ | refine WV_exit ?_); (try simp only [go_sem, init_env', Nat.reduceEqDiff, Nat.reduceAdd, Nat.reduceMul, reduceIte, Nat.reduceLeDiff, Nat.reduceLT, Nat.reduceBEq, reduceCtorEq, hP, Tray.cds, List.length_cons, List.length_nil, List.map_cons, List.map_nil]); (repeat (refine And.intro (by first | omega | (intros; simp_all; done) | (intros; simp_all; omega)) ?_))))
  refine AS_fresh har rfl rfl rfl ?_ rfl ?_
  · simp only [go_sem, init_env', Nat.reduceEqDiff, Nat.reduceAdd, Nat.reduceMul, reduceIte, Nat.reduceLeDiff, Nat.reduceLT, Nat.reduceBEq, reduceCtorEq, AV.vportL, AV.vport, List.take_succ_cons, List.take_zero]
    rw [elemsV_winG ncd_one _ 2000 o 0 o.length rfl]
    rfl
  simp only [go_sem, init_env', Nat.reduceEqDiff, Nat.reduceAdd, Nat.reduceMul, reduceIte, Nat.reduceLeDiff, Nat.reduceLT, Nat.reduceBEq, reduceCtorEq, hP]
  (repeat ((first | refine WV_seq_ ?_ | refine WV_block ?_ | refine WV_ops ?_ | refine WV_skip ?_ | refine WV_exit ?_); (try simp only [go_sem, init_env', Nat.reduceEqDiff, Nat.reduceAdd, Nat.reduceMul, reduceIte, Nat.reduceLeDiff, Nat.reduceLT, Nat.reduceBEq, reduceCtorEq, hP, ]); (repeat (refine And.intro (by first | omega | (intros; simp_all; done) | (intros; simp_all; omega)) ?_))))
  (refine AS_pure (hgo) rfl rfl rfl rfl rfl ?_; simp only [go_sem, init_env', Nat.reduceEqDiff, Nat.reduceAdd, Nat.reduceMul, reduceIte, Nat.reduceLeDiff, Nat.reduceLT, Nat.reduceBEq, reduceCtorEq, hP, Cs.run, hend]; (repeat (refine And.intro (by first | omega | (intros; simp_all; done) | (intros; simp_all; omega)) ?_)); (repeat ((first | refine WV_seq_ ?_ | refine WV_block ?_ | refine WV_ops ?_ | refine WV_skip ?_ | refine WV_exit ?_); (try simp only [go_sem, init_env', Nat.reduceEqDiff, Nat.reduceAdd, Nat.reduceMul, reduceIte, Nat.reduceLeDiff, Nat.reduceLT, Nat.reduceBEq, reduceCtorEq, hP, Cs.run, hend]); (repeat (refine And.intro (by first | omega | (intros; simp_all; done) | (intros; simp_all; omega)) ?_)))))
  by_cases hc : m < 0 ∨ endO t o < m
  · have hst : bestStep t (m, so) o = (endO t o, some o) := by unfold bestStep; rw [if_pos hc]
    have hb : (decide (m < 0) || decide (endO t o < m)) = true := by simpa using hc
    rw [hb, hst]
    (refine WV_cond rfl (fun h => ?_) (fun h => ?_))
    rotate_left
    · simp at h
    (repeat ((first | refine WV_seq_ ?_ | refine WV_block ?_ | refine WV_ops ?_ | refine WV_skip ?_ | refine WV_exit ?_); (try simp only [go_sem, init_env', Nat.reduceEqDiff, Nat.reduceAdd, Nat.reduceMul, reduceIte, Nat.reduceLeDiff, Nat.reduceLT, Nat.reduceBEq, reduceCtorEq, hP, ]); (repeat (refine And.intro (by first | omega | (intros; simp_all; done) | (intros; simp_all; omega)) ?_))))
    refine AS_fresh (cloneI79 o (by omega)) rfl rfl rfl ?_ rfl ?_
    · simp only [go_sem, init_env', Nat.reduceEqDiff, Nat.reduceAdd, Nat.reduceMul, reduceIte, Nat.reduceLeDiff, Nat.reduceLT, Nat.reduceBEq, reduceCtorEq, AV.vportL, AV.vport]
      rw [elemsV_winG ncd_one _ 2000 o 0 o.length rfl]
      rfl
    simp only [go_sem, init_env', Nat.reduceEqDiff, Nat.reduceAdd, Nat.reduceMul, reduceIte, Nat.reduceLeDiff, Nat.reduceLT, Nat.reduceBEq, reduceCtorEq, hP]
    (repeat ((first | refine WV_seq_ ?_ | refine WV_block ?_ | refine WV_ops ?_ | refine WV_skip ?_ | refine WV_exit ?_); (try simp only [go_sem, init_env', Nat.reduceEqDiff, Nat.reduceAdd, Nat.reduceMul, reduceIte, Nat.reduceLeDiff, Nat.reduceLT, Nat.reduceBEq, reduceCtorEq, hP, ]); (repeat (refine And.intro (by first | omega | (intros; simp_all; done) | (intros; simp_all; omega)) ?_))))
    ((try simp only [thenQ, inQ, RetQL, RetOkL, resAll, resA]); (try simp only [go_sem, init_env', Nat.reduceEqDiff, Nat.reduceAdd, Nat.reduceMul, reduceIte, Nat.reduceLeDiff, Nat.reduceLT, Nat.reduceBEq, reduceCtorEq, tupA, AV.keepP, AV.keepPL]); refine ⟨_, [.box [iv (endO t o)], .box [.c (natsC o)]], rfl, KeepL_mk rfl rfl ?_ ?_ rfl, ?_⟩)
    · simp only [go_sem, init_env', Nat.reduceEqDiff, Nat.reduceAdd, Nat.reduceMul, reduceIte, Nat.reduceLeDiff, Nat.reduceLT, Nat.reduceBEq, reduceCtorEq, keepAll, Ob.keepP, AV.keepP, AV.keepPL]
    · simp only [go_sem, init_env', Nat.reduceEqDiff, Nat.reduceAdd, Nat.reduceMul, reduceIte, Nat.reduceLeDiff, Nat.reduceLT, Nat.reduceBEq, reduceCtorEq, winAll]
    · exact ⟨rfl, rfl⟩
  · have hst : bestStep t (m, so) o = (m, so) := by
      unfold bestStep; rw [if_neg hc]
    have hb : (decide (m < 0) || decide (endO t o < m)) = false := by simpa using hc
    rw [hb, hst]
    (refine WV_cond rfl (fun h => ?_) (fun h => ?_))
    · simp at h
    refine WV_skip ?_
    ((try simp only [thenQ, inQ, RetQL, RetOkL, resAll, resA]); (try simp only [go_sem, init_env', Nat.reduceEqDiff, Nat.reduceAdd, Nat.reduceMul, reduceIte, Nat.reduceLeDiff, Nat.reduceLT, Nat.reduceBEq, reduceCtorEq, tupA, AV.keepP, AV.keepPL]); refine ⟨_, [.box [iv m], .box [A]], rfl, KeepL_mk rfl rfl ?_ ?_ rfl, ?_⟩)
    · rw [← hA]
      cases so <;> simp only [go_sem, init_env', Nat.reduceEqDiff, Nat.reduceAdd, Nat.reduceMul, reduceIte, Nat.reduceLeDiff, Nat.reduceLT, Nat.reduceBEq, reduceCtorEq, keepAll, Ob.keepP, AV.keepP, AV.keepPL, ordA]
    · simp only [go_sem, init_env', Nat.reduceEqDiff, Nat.reduceAdd, Nat.reduceMul, reduceIte, Nat.reduceLeDiff, Nat.reduceLT, Nat.reduceBEq, reduceCtorEq, winAll]
    · refine ⟨rfl, ?_⟩
      rw [← hA]

/-- All orders are orders. -/
theorem swap_ord {n : Nat} {o : List Nat} (h : IsOrd n o) {i j : Nat} (hi : i < n) (hj : j < n) : IsOrd n (swapL o i j) := by
  have hl := h.len
  have hi' : i < o.length := by omega
  have hj' : j < o.length := by omega
  have e : swapL o i j = (o.set i o[j]).set j o[i] := by unfold swapL; simp [hi', hj']
  rw [e]
  exact (List.set_set_perm hi' hj').trans h
theorem perms_ord {n : Nat} : ∀ (f : Nat) (o : List Nat), f ≤ n → IsOrd n o → ∀ x ∈ permsF n f o, IsOrd n x
  | 0, o, _, h, x, hx => by simp only [permsF, List.mem_singleton] at hx; subst hx; exact h
  | f + 1, o, hf, h, x, hx => by
    simp only [permsF] at hx
    obtain ⟨j, hj, hx⟩ := List.mem_flatMap.1 hx
    have hj := List.mem_range.1 hj
    exact perms_ord f _ (by omega) (swap_ord h (by omega) (by omega)) x hx
theorem permsS_ord {n : Nat} {o : List Nat} (h : o ∈ permsS n) : IsOrd n o := perms_ord n _ (Nat.le_refl _) (List.Perm.refl _) o h
def bestS (t : Tray) : Int × Option (List Nat) := bestG t (permsS t.n)
def cdOrd : Option (List Nat) → AV
  | none => .c (natsC [])
  | some o => .c (natsC o)
set_option maxRecDepth 20000 in
set_option maxHeartbeats 8000000 in
theorem best63 {t : Tray} (ht : TrayOk t) : FSpec Try.prog 63 [t.av] (.tup [cdOrd (bestS t).2, iv (bestS t).1]) := by
  have hn6 := ht.n6
  refine FSpec_of c63 (Nat.le_refl _) (by decide) fun C hP hN hC hL => ?_
  simp only [ir63, Tray.av]
  (refine WV_seq_ (WV_ops ?_); simp only [go_sem, init_env', Nat.reduceEqDiff, Nat.reduceAdd, Nat.reduceMul, reduceIte, Nat.reduceLeDiff, Nat.reduceLT, Nat.reduceBEq, reduceCtorEq, hP, ]; (repeat (refine And.intro (by first | omega | (intros; simp_all; done) | (intros; simp_all; omega)) ?_)))
  refine WV_freeze 1 (ds := t.cds) rfl rfl ?_
  simp only [go_sem, init_env', Nat.reduceEqDiff, Nat.reduceAdd, Nat.reduceMul, reduceIte, Nat.reduceLeDiff, Nat.reduceLT, Nat.reduceBEq, reduceCtorEq, List.drop_zero]
  refine WV_seq_ (WV_ops ?_)
  simp only [go_sem, init_env', Nat.reduceEqDiff, Nat.reduceAdd, Nat.reduceMul, reduceIte, Nat.reduceLeDiff, Nat.reduceLT, Nat.reduceBEq, reduceCtorEq, hP]
  refine WV_seq_ (WV_ops ?_)
  simp only [go_sem, init_env', Nat.reduceEqDiff, Nat.reduceAdd, Nat.reduceMul, reduceIte, Nat.reduceLeDiff, Nat.reduceLT, Nat.reduceBEq, reduceCtorEq, hP, Tray.cds, recsC, List.length_map]
  have hnl : t.recs.length = t.n := rfl
  have hid : IsOrd t.n (List.range t.n) := List.Perm.refl _
  refine AS_clos [3, 2] [iv t.n] [] (l := bestO (bestG t [])) (lf := bestO (bestG t (permsS t.n))) (rem := (permsS t.n).map entO) (r := .tup []) (fun g => orders76 t.n (by omega) g) rfl rfl rfl (by decide) (by decide) rfl (by simp only [go_sem, init_env', Nat.reduceEqDiff, Nat.reduceAdd, Nat.reduceMul, reduceIte, Nat.reduceLeDiff, Nat.reduceLT, Nat.reduceBEq, reduceCtorEq, AV.lendL, AV.lend]; rfl) rfl rfl (by simp only [go_sem, init_env', Nat.reduceEqDiff, Nat.reduceAdd, Nat.reduceMul, reduceIte, Nat.reduceLeDiff, Nat.reduceLT, Nat.reduceBEq, reduceCtorEq, obsLend, Ob.lend, AV.lend, AV.lendL]; rfl) (best77 ht hid (0, none)).1 ?_ rfl ?_
  · refine Run_pre entO (fun pre => bestO (bestG t pre)) (permsS t.n) (fun pre => ?_) (fun o _ => rfl) (fun pre o post hts => ?_) (permsS t.n) [] rfl
    · cases h : (bestG t pre).2 <;> simp [bestO, ordA, h, Ob.solid] <;> exact ⟨rfl, rfl⟩
    · have ho : IsOrd t.n o := permsS_ord (by rw [hts]; simp)
      have := best77 ht ho (bestG t pre)
      simp only [bestG_snoc]
      exact this
  · refine ⟨[.box [iv (bestS t).1], .box [ordA (bestS t).2]], ?_, rfl, ?_⟩
    · show obsBack [3, 2] (bestO (bestS t)) = _
      generalize bestS t = S
      obtain ⟨m, so⟩ := S
      cases so <;> rfl
    · generalize bestS t = S
      obtain ⟨m, so⟩ := S
      cases so with
      | none =>
        simp only [go_sem, init_env', Nat.reduceEqDiff, Nat.reduceAdd, Nat.reduceMul, reduceIte, Nat.reduceLeDiff, Nat.reduceLT, Nat.reduceBEq, reduceCtorEq, hP, ownBack, ordA]
        (repeat ((first | refine WV_seq_ ?_ | refine WV_block ?_ | refine WV_ops ?_ | refine WV_skip ?_ | refine WV_exit ?_); (try simp only [go_sem, init_env', Nat.reduceEqDiff, Nat.reduceAdd, Nat.reduceMul, reduceIte, Nat.reduceLeDiff, Nat.reduceLT, Nat.reduceBEq, reduceCtorEq, hP, ]); (repeat (refine And.intro (by first | omega | (intros; simp_all; done) | (intros; simp_all; omega)) ?_))))
        (refine WV_drw ?_; simp only [go_sem, init_env', Nat.reduceEqDiff, Nat.reduceAdd, Nat.reduceMul, reduceIte, Nat.reduceLeDiff, Nat.reduceLT, Nat.reduceBEq, reduceCtorEq, hP, ]; (repeat' (refine And.intro ?_ ?_)))
        all_goals
          (repeat ((first | refine WV_seq_ ?_ | refine WV_block ?_ | refine WV_ops ?_ | refine WV_skip ?_ | refine WV_exit ?_); (try simp only [go_sem, init_env', Nat.reduceEqDiff, Nat.reduceAdd, Nat.reduceMul, reduceIte, Nat.reduceLeDiff, Nat.reduceLT, Nat.reduceBEq, reduceCtorEq, hP, ]); (repeat (refine And.intro (by first | omega | (intros; simp_all; done) | (intros; simp_all; omega)) ?_))))
          (refine WV_ret ?_; simp only [thenQ, inQ, RetQ, RetOk, resAll, resA]; simp only [go_sem, init_env', Nat.reduceEqDiff, Nat.reduceAdd, Nat.reduceMul, reduceIte, Nat.reduceLeDiff, Nat.reduceLT, Nat.reduceBEq, reduceCtorEq, tupA, AV.port, AV.portL, exists_eq_left', ])
          exact AVle.tup (AVles.cons (AVle.nil 1) (AVles.refl _))
      | some o =>
        simp only [go_sem, init_env', Nat.reduceEqDiff, Nat.reduceAdd, Nat.reduceMul, reduceIte, Nat.reduceLeDiff, Nat.reduceLT, Nat.reduceBEq, reduceCtorEq, hP, ownBack, ordA]
        (repeat ((first | refine WV_seq_ ?_ | refine WV_block ?_ | refine WV_ops ?_ | refine WV_skip ?_ | refine WV_exit ?_); (try simp only [go_sem, init_env', Nat.reduceEqDiff, Nat.reduceAdd, Nat.reduceMul, reduceIte, Nat.reduceLeDiff, Nat.reduceLT, Nat.reduceBEq, reduceCtorEq, hP, ]); (repeat (refine And.intro (by first | omega | (intros; simp_all; done) | (intros; simp_all; omega)) ?_))))
        (refine WV_drw ?_; simp only [go_sem, init_env', Nat.reduceEqDiff, Nat.reduceAdd, Nat.reduceMul, reduceIte, Nat.reduceLeDiff, Nat.reduceLT, Nat.reduceBEq, reduceCtorEq, hP, ]; (repeat' (refine And.intro ?_ ?_)))
        all_goals
          (repeat ((first | refine WV_seq_ ?_ | refine WV_block ?_ | refine WV_ops ?_ | refine WV_skip ?_ | refine WV_exit ?_); (try simp only [go_sem, init_env', Nat.reduceEqDiff, Nat.reduceAdd, Nat.reduceMul, reduceIte, Nat.reduceLeDiff, Nat.reduceLT, Nat.reduceBEq, reduceCtorEq, hP, ]); (repeat (refine And.intro (by first | omega | (intros; simp_all; done) | (intros; simp_all; omega)) ?_))))
          (refine WV_ret ?_; simp only [thenQ, inQ, RetQ, RetOk, resAll, resA]; simp only [go_sem, init_env', Nat.reduceEqDiff, Nat.reduceAdd, Nat.reduceMul, reduceIte, Nat.reduceLeDiff, Nat.reduceLT, Nat.reduceBEq, reduceCtorEq, tupA, AV.port, AV.portL, exists_eq_left', ]; (first | exact AVle.of rfl | refine AVle.of ?_ | skip))

def soonR (t : Tray) : Int × Int := if pressedE t = 0 then ((bestS t).1, 0) else (0, pressedE t)
theorem soonest37 (t : Tray) : FSpec Try.prog 37 [t.av] (.tup [iv (soonR t).1, iv (soonR t).2]) := by
  have hck := pressed62 t
  unfold soonR
  by_cases h0 : pressedE t = 0
  · rw [if_pos h0]
    rw [h0] at hck
    have hgo := best63 (Tray.ok_spec (pressed_zero h0).1).1
    generalize bestS t = S at *
    obtain ⟨m, so⟩ := S
    cases so <;>
    · simp only [cdOrd] at hgo
      refine FSpec_of c37 (Nat.le_refl _) (by decide) fun C hP hN hC hL => ?_
      simp only [ir37, Tray.av]
      (repeat ((first | refine WV_seq_ ?_ | refine WV_block ?_ | refine WV_ops ?_ | refine WV_skip ?_ | refine WV_exit ?_); (try simp only [go_sem, init_env', Nat.reduceEqDiff, Nat.reduceAdd, Nat.reduceMul, reduceIte, Nat.reduceLeDiff, Nat.reduceLT, Nat.reduceBEq, reduceCtorEq, hP, ]); (repeat (refine And.intro (by first | omega | (intros; simp_all; done) | (intros; simp_all; omega)) ?_))))
      (refine AS_pure (hck) rfl rfl rfl rfl rfl ?_; simp only [go_sem, init_env', Nat.reduceEqDiff, Nat.reduceAdd, Nat.reduceMul, reduceIte, Nat.reduceLeDiff, Nat.reduceLT, Nat.reduceBEq, reduceCtorEq, hP, Tray.av]; (repeat (refine And.intro (by first | omega | (intros; simp_all; done) | (intros; simp_all; omega)) ?_)); (repeat ((first | refine WV_seq_ ?_ | refine WV_block ?_ | refine WV_ops ?_ | refine WV_skip ?_ | refine WV_exit ?_); (try simp only [go_sem, init_env', Nat.reduceEqDiff, Nat.reduceAdd, Nat.reduceMul, reduceIte, Nat.reduceLeDiff, Nat.reduceLT, Nat.reduceBEq, reduceCtorEq, hP, Tray.av]); (repeat (refine And.intro (by first | omega | (intros; simp_all; done) | (intros; simp_all; omega)) ?_)))))
      (refine WV_cond rfl (fun h => ?_) (fun h => ?_))
      · simp at h
      · (repeat ((first | refine WV_seq_ ?_ | refine WV_block ?_ | refine WV_ops ?_ | refine WV_skip ?_ | refine WV_exit ?_); (try simp only [go_sem, init_env', Nat.reduceEqDiff, Nat.reduceAdd, Nat.reduceMul, reduceIte, Nat.reduceLeDiff, Nat.reduceLT, Nat.reduceBEq, reduceCtorEq, hP, ]); (repeat (refine And.intro (by first | omega | (intros; simp_all; done) | (intros; simp_all; omega)) ?_))))
        (refine AS_pure (hgo) rfl rfl rfl rfl rfl ?_; simp only [go_sem, init_env', Nat.reduceEqDiff, Nat.reduceAdd, Nat.reduceMul, reduceIte, Nat.reduceLeDiff, Nat.reduceLT, Nat.reduceBEq, reduceCtorEq, hP, Tray.av]; (repeat (refine And.intro (by first | omega | (intros; simp_all; done) | (intros; simp_all; omega)) ?_)); (repeat ((first | refine WV_seq_ ?_ | refine WV_block ?_ | refine WV_ops ?_ | refine WV_skip ?_ | refine WV_exit ?_); (try simp only [go_sem, init_env', Nat.reduceEqDiff, Nat.reduceAdd, Nat.reduceMul, reduceIte, Nat.reduceLeDiff, Nat.reduceLT, Nat.reduceBEq, reduceCtorEq, hP, Tray.av]); (repeat (refine And.intro (by first | omega | (intros; simp_all; done) | (intros; simp_all; omega)) ?_)))))
        (refine WV_ret ?_; simp only [thenQ, inQ, RetQ, RetOk, resAll, resA]; simp only [go_sem, init_env', Nat.reduceEqDiff, Nat.reduceAdd, Nat.reduceMul, reduceIte, Nat.reduceLeDiff, Nat.reduceLT, Nat.reduceBEq, reduceCtorEq, tupA, AV.port, AV.portL, exists_eq_left', ]; (first | exact AVle.of rfl | refine AVle.of ?_ | skip))
  · rw [if_neg h0]
    have hb : (pressedE t != 0) = true := by simpa using h0
    refine FSpec_of c37 (Nat.le_refl _) (by decide) fun C hP hN hC hL => ?_
    simp only [ir37, Tray.av]
    (repeat ((first | refine WV_seq_ ?_ | refine WV_block ?_ | refine WV_ops ?_ | refine WV_skip ?_ | refine WV_exit ?_); (try simp only [go_sem, init_env', Nat.reduceEqDiff, Nat.reduceAdd, Nat.reduceMul, reduceIte, Nat.reduceLeDiff, Nat.reduceLT, Nat.reduceBEq, reduceCtorEq, hP, ]); (repeat (refine And.intro (by first | omega | (intros; simp_all; done) | (intros; simp_all; omega)) ?_))))
    (refine AS_pure (hck) rfl rfl rfl rfl rfl ?_; simp only [go_sem, init_env', Nat.reduceEqDiff, Nat.reduceAdd, Nat.reduceMul, reduceIte, Nat.reduceLeDiff, Nat.reduceLT, Nat.reduceBEq, reduceCtorEq, hP, Tray.av, hb]; (repeat (refine And.intro (by first | omega | (intros; simp_all; done) | (intros; simp_all; omega)) ?_)); (repeat ((first | refine WV_seq_ ?_ | refine WV_block ?_ | refine WV_ops ?_ | refine WV_skip ?_ | refine WV_exit ?_); (try simp only [go_sem, init_env', Nat.reduceEqDiff, Nat.reduceAdd, Nat.reduceMul, reduceIte, Nat.reduceLeDiff, Nat.reduceLT, Nat.reduceBEq, reduceCtorEq, hP, Tray.av, hb]); (repeat (refine And.intro (by first | omega | (intros; simp_all; done) | (intros; simp_all; omega)) ?_)))))
    (refine WV_cond rfl (fun h => ?_) (fun h => ?_))
    · (repeat ((first | refine WV_seq_ ?_ | refine WV_block ?_ | refine WV_ops ?_ | refine WV_skip ?_ | refine WV_exit ?_); (try simp only [go_sem, init_env', Nat.reduceEqDiff, Nat.reduceAdd, Nat.reduceMul, reduceIte, Nat.reduceLeDiff, Nat.reduceLT, Nat.reduceBEq, reduceCtorEq, hP, ]); (repeat (refine And.intro (by first | omega | (intros; simp_all; done) | (intros; simp_all; omega)) ?_))))
      (refine WV_ret ?_; simp only [thenQ, inQ, RetQ, RetOk, resAll, resA]; simp only [go_sem, init_env', Nat.reduceEqDiff, Nat.reduceAdd, Nat.reduceMul, reduceIte, Nat.reduceLeDiff, Nat.reduceLT, Nat.reduceBEq, reduceCtorEq, tupA, AV.port, AV.portL, exists_eq_left', ]; (first | exact AVle.of rfl | refine AVle.of ?_ | skip))
    · simp at h
end Go.Proofs.Ytkpgpgaojjobgaa

namespace Go.Proofs.Ytkpgpgaojjobgaa
open Go Go.V
@[reducible] def o52_0 : List Ins := [⟨(some 0), .alloc [(.c (.raw (.slice none 0 0))), (.c (.int .i64 0)), (.c (.int .i64 0)), (.c (.int .i64 0)), (.c (.raw (.slice none 0 0)))], none, true⟩,
  ⟨(some 1), .alloc [(.c (.raw (.slice none 0 0))), (.c (.int .i64 0)), (.c (.int .i64 0)), (.c (.int .i64 0)), (.c (.raw (.slice none 0 0)))], none, true⟩]
@[reducible] def o52_1 : List Ins := [⟨(some 2), .bld [(.c (.int .i64 0)), (.c (.int .i64 0))] [(0, 1, (.k (.c (.int .i64 100)))), (1, 1, (.k (.c (.int .i64 90))))], none, true⟩,
  ⟨(some 3), .bld [(.c (.int .i64 0)), (.c (.int .i64 0))] [(0, 1, (.k (.c (.int .i64 120)))), (1, 1, (.k (.c (.int .i64 80))))], none, true⟩,
  ⟨(some 4), .bld [(.c (.int .i64 0)), (.c (.int .i64 0))] [(0, 1, (.k (.c (.int .i64 60)))), (1, 1, (.k (.c (.int .i64 70))))], none, true⟩,
  ⟨(some 5), .bsl 56 2 [(.t 2), (.t 3), (.t 4)], none, true⟩,
  ⟨(some 6), .bld [(.c (.int .i64 0)), (.c (.int .i64 0))] [(0, 1, (.k (.c (.int .i64 3))))], none, true⟩,
  ⟨(some 7), .bld [(.c (.int .i64 0)), (.c (.int .i64 0))] [(0, 1, (.k (.c (.int .i64 4)))), (1, 1, (.k (.c (.int .i64 10))))], none, true⟩,
  ⟨(some 8), .bld [(.c (.int .i64 0)), (.c (.int .i64 0))] [(1, 1, (.k (.c (.int .i64 12))))], none, true⟩,
  ⟨(some 9), .bld [(.c (.int .i64 0)), (.c (.int .i64 0))] [(0, 1, (.k (.c (.int .i64 3)))), (1, 1, (.k (.c (.int .i64 50))))], none, true⟩,
  ⟨(some 10), .bld [(.c (.int .i64 0)), (.c (.int .i64 0))] [(1, 1, (.k (.c (.int .i64 300))))], none, true⟩,
  ⟨(some 11), .bsl 27 2 [(.t 6), (.t 7), (.t 8), (.t 9), (.t 10)], none, true⟩,
  ⟨(some 12), .bld [(.c (.raw (.slice none 0 0))), (.c (.int .i64 0)), (.c (.int .i64 0)), (.c (.int .i64 0)), (.c (.raw (.slice none 0 0)))] [(0, 1, (.t 5)), (2, 1, (.k (.c (.int .i64 1)))), (3, 1, (.k (.c (.int .i64 5)))), (4, 1, (.t 11))], none, true⟩,
  ⟨none, .st 5 (.t 0) (.t 12), none, true⟩]
@[reducible] def o52_2 : List Ins := [⟨(some 13), .bld [(.c (.int .i64 0)), (.c (.int .i64 0))] [(0, 1, (.k (.c (.int .i64 10)))), (1, 1, (.k (.c (.int .i64 20))))], none, true⟩,
  ⟨(some 14), .bld [(.c (.int .i64 0)), (.c (.int .i64 0))] [(0, 1, (.k (.c (.int .i64 30)))), (1, 1, (.k (.c (.int .i64 40))))], none, true⟩,
  ⟨(some 15), .bsl 56 2 [(.t 13), (.t 14)], none, true⟩,
  ⟨(some 16), .bld [(.c (.int .i64 0)), (.c (.int .i64 0))] [(0, 1, (.k (.c (.int .i64 3))))], none, true⟩,
  ⟨(some 17), .bsl 27 2 [(.t 16)], none, true⟩,
  ⟨(some 18), .bld [(.c (.raw (.slice none 0 0))), (.c (.int .i64 0)), (.c (.int .i64 0)), (.c (.int .i64 0)), (.c (.raw (.slice none 0 0)))] [(0, 1, (.t 15)), (2, 1, (.k (.c (.int .i64 (-1))))), (3, 1, (.k (.c (.int .i64 60)))), (4, 1, (.t 17))], none, true⟩,
  ⟨none, .st 5 (.t 1) (.t 18), none, true⟩]
@[reducible] def t52_3 : OT := (.cons ⟨(some 19), .ld false 5 (.t 0), none, false⟩
  (.br [(.cons ⟨(some 20), .ld false 5 (.t 1), none, false⟩
    (.cons ⟨none, .st 5 (.t 0) (.t 19), none, false⟩
    (.cons ⟨none, .st 5 (.t 1) (.t 20), none, true⟩
    .nil))), (.cons ⟨none, .st 5 (.t 0) (.t 19), none, false⟩
    (.cons ⟨(some 20), .ld false 5 (.t 1), none, false⟩
    (.cons ⟨none, .st 5 (.t 1) (.t 20), none, true⟩
    .nil)))]))
@[reducible] def v52_4 : VC := (.seq (.drw t52_3) .ret)
@[reducible] def v52_5 : VC := (.seq (.ops o52_2) v52_4)
@[reducible] def v52_6 : VC := (.seq (.ops o52_1) v52_5)
def ir52 : FC := ⟨0, 21, [.cell 0 false 5, .cell 1 false 5], (.seq (.ops o52_0) v52_6)⟩
@[reducible] def o19_0 : List Ins := [⟨(some 0), .mv (.k (.c (.bool false))), none, true⟩]
@[reducible] def o19_1 : List Ins := [⟨(some 14), .call (.k (.fn 52 [])) [], none, true⟩,
  ⟨(some 13), .mv (.t 14), none, true⟩,
  ⟨(some 15), .ext (.t 13) 0, none, true⟩,
  ⟨(some 16), .ext (.t 13) 1, none, true⟩,
  ⟨(some 1), .alloc [(.c (.raw (.slice none 0 0))), (.c (.int .i64 0)), (.c (.int .i64 0)), (.c (.int .i64 0)), (.c (.raw (.slice none 0 0)))], none, true⟩,
  ⟨(some 2), .alloc [(.c (.raw (.slice none 0 0))), (.c (.int .i64 0)), (.c (.int .i64 0)), (.c (.int .i64 0)), (.c (.raw (.slice none 0 0)))], none, true⟩,
  ⟨none, .st 5 (.t 1) (.t 15), none, true⟩,
  ⟨none, .st 5 (.t 2) (.t 16), none, true⟩]
@[reducible] def o19_2 : List Ins := [⟨(some 18), .ld false 5 (.t 1), none, true⟩,
  ⟨(some 19), .call (.k (.fn 22 [])) [(.t 18)], none, true⟩,
  ⟨(some 17), .mv (.t 19), none, true⟩,
  ⟨(some 20), .ext (.t 17) 0, none, true⟩,
  ⟨(some 21), .ext (.t 17) 1, none, true⟩,
  ⟨(some 3), .mv (.t 20), none, true⟩,
  ⟨(some 4), .mv (.t 21), none, true⟩]
@[reducible] def o19_3 : List Ins := [⟨(some 23), .ld false 5 (.t 1), none, true⟩,
  ⟨(some 24), .call (.k (.fn 27 [])) [(.t 23), (.k (.c (.int .i64 2)))], none, true⟩,
  ⟨(some 22), .mv (.t 24), none, true⟩,
  ⟨(some 25), .ext (.t 22) 0, none, true⟩,
  ⟨(some 26), .ext (.t 22) 1, none, true⟩,
  ⟨(some 5), .mv (.t 25), none, true⟩,
  ⟨(some 6), .mv (.t 26), none, true⟩]
@[reducible] def o19_4 : List Ins := [⟨(some 28), .ld false 5 (.t 1), none, true⟩,
  ⟨(some 29), .call (.k (.fn 21 [])) [(.t 28), (.k (.c (.int .i64 100)))], none, true⟩,
  ⟨(some 27), .mv (.t 29), none, true⟩,
  ⟨(some 30), .ext (.t 27) 0, none, true⟩,
  ⟨(some 31), .ext (.t 27) 1, none, true⟩,
  ⟨(some 7), .alloc [(.c (.int .i64 0)), (.c (.int .i64 0)), (.c (.int .i64 0))], none, true⟩,
  ⟨none, .st 3 (.t 7) (.t 30), none, true⟩,
  ⟨(some 8), .mv (.t 31), none, true⟩]
@[reducible] def o19_5 : List Ins := [⟨(some 33), .ld false 5 (.t 1), none, true⟩,
  ⟨(some 34), .call (.k (.fn 26 [])) [(.t 33), (.k (.c (.int .i64 2))), (.k (.c (.int .i64 20)))], none, true⟩,
  ⟨(some 32), .mv (.t 34), none, true⟩,
  ⟨(some 35), .ext (.t 32) 0, none, true⟩,
  ⟨(some 36), .ext (.t 32) 1, none, true⟩,
  ⟨(some 9), .mv (.t 35), none, true⟩,
  ⟨(some 10), .mv (.t 36), none, true⟩]
@[reducible] def o19_6 : List Ins := [⟨(some 38), .ld false 5 (.t 2), none, true⟩,
  ⟨(some 39), .call (.k (.fn 37 [])) [(.t 38)], none, true⟩,
  ⟨(some 37), .mv (.t 39), none, true⟩,
  ⟨(some 40), .ext (.t 37) 0, none, true⟩,
  ⟨(some 41), .ext (.t 37) 1, none, true⟩,
  ⟨(some 11), .mv (.t 40), none, true⟩,
  ⟨(some 12), .mv (.t 41), none, true⟩]
@[reducible] def o19_7 : List Ins := [⟨(some 42), .mv (.t 4), none, true⟩,
  ⟨(some 43), .bin .eql (.t 42) (.k (.c (.int .i64 0))), none, true⟩,
  ⟨(some 44), .mv (.t 43), none, true⟩,
  ⟨(some 45), .mv (.t 6), (some (44, true)), true⟩,
  ⟨(some 46), .bin .eql (.t 45) (.k (.c (.int .i64 0))), (some (44, true)), true⟩,
  ⟨(some 47), .pick (.t 44) (.t 46) (.k (.c (.bool false))), none, true⟩,
  ⟨(some 48), .mv (.t 47), none, true⟩,
  ⟨(some 49), .mv (.t 8), (some (48, true)), true⟩,
  ⟨(some 50), .bin .eql (.t 49) (.k (.c (.int .i64 0))), (some (48, true)), true⟩,
  ⟨(some 51), .pick (.t 48) (.t 50) (.k (.c (.bool false))), none, true⟩,
  ⟨(some 52), .mv (.t 51), none, true⟩,
  ⟨(some 53), .mv (.t 10), (some (52, true)), true⟩,
  ⟨(some 54), .bin .eql (.t 53) (.k (.c (.int .i64 0))), (some (52, true)), true⟩,
  ⟨(some 55), .pick (.t 52) (.t 54) (.k (.c (.bool false))), none, true⟩,
  ⟨(some 56), .mv (.t 55), none, true⟩,
  ⟨(some 57), .mv (.t 12), (some (56, true)), true⟩,
  ⟨(some 58), .bin .eql (.t 57) (.k (.c (.int .i64 0))), (some (56, true)), true⟩,
  ⟨(some 59), .pick (.t 56) (.t 58) (.k (.c (.bool false))), none, true⟩,
  ⟨(some 60), .mv (.t 59), none, true⟩,
  ⟨(some 61), .mv (.t 3), (some (60, true)), true⟩,
  ⟨(some 62), .len (.t 61), (some (60, true)), true⟩,
  ⟨(some 63), .bin .eql (.t 62) (.k (.c (.int .i64 4))), (some (60, true)), true⟩,
  ⟨(some 64), .pick (.t 60) (.t 63) (.k (.c (.bool false))), none, true⟩,
  ⟨(some 65), .mv (.t 64), none, true⟩,
  ⟨(some 66), .mv (.t 3), (some (65, true)), true⟩,
  ⟨(some 67), .ia 2 (.t 66) (.k (.c (.int .i64 3))), (some (65, true)), true⟩,
  ⟨(some 68), .ld false 2 (.t 67), (some (65, true)), true⟩,
  ⟨(some 69), .bld [(.c (.int .i64 0)), (.c (.int .i64 0))] [(1, 1, (.k (.c (.int .i64 315))))], (some (65, true)), true⟩,
  ⟨(some 70), .seq false [(0, true), (1, true)] (.t 68) (.t 69), (some (65, true)), true⟩,
  ⟨(some 71), .pick (.t 65) (.t 70) (.k (.c (.bool false))), none, true⟩,
  ⟨(some 72), .mv (.t 71), none, true⟩,
  ⟨(some 73), .mv (.t 5), (some (72, true)), true⟩,
  ⟨(some 74), .bin .eql (.t 73) (.k (.c (.int .i64 148))), (some (72, true)), true⟩,
  ⟨(some 75), .pick (.t 72) (.t 74) (.k (.c (.bool false))), none, true⟩,
  ⟨(some 76), .mv (.t 75), none, true⟩,
  ⟨(some 77), .ld false 3 (.t 7), (some (76, true)), true⟩,
  ⟨(some 78), .bld [(.c (.int .i64 0)), (.c (.int .i64 0)), (.c (.int .i64 0))] [(0, 1, (.k (.c (.int .i64 1)))), (1, 1, (.k (.c (.int .i64 (-1))))), (2, 1, (.k (.c (.int .i64 3))))], (some (76, true)), true⟩,
  ⟨(some 79), .seq false [(0, true), (1, true), (2, true)] (.t 77) (.t 78), (some (76, true)), true⟩,
  ⟨(some 80), .pick (.t 76) (.t 79) (.k (.c (.bool false))), none, true⟩,
  ⟨(some 81), .mv (.t 80), none, true⟩,
  ⟨(some 82), .mv (.t 9), (some (81, true)), true⟩,
  ⟨(some 83), .bin .eql (.t 82) (.k (.c (.int .i64 5))), (some (81, true)), true⟩,
  ⟨(some 84), .pick (.t 81) (.t 83) (.k (.c (.bool false))), none, true⟩,
  ⟨(some 85), .mv (.t 84), none, true⟩,
  ⟨(some 86), .mv (.t 11), (some (85, true)), true⟩,
  ⟨(some 87), .bin .eql (.t 86) (.k (.c (.int .i64 40))), (some (85, true)), true⟩,
  ⟨(some 88), .pick (.t 85) (.t 87) (.k (.c (.bool false))), none, true⟩,
  ⟨(some 0), .mv (.t 88), none, true⟩]
@[reducible] def v19_8 : VC := (.seq (.ops o19_7) .ret)
@[reducible] def v19_9 : VC := (.seq (.ops o19_6) v19_8)
@[reducible] def v19_10 : VC := (.seq (.ops o19_5) v19_9)
@[reducible] def v19_11 : VC := (.seq (.ops o19_4) v19_10)
@[reducible] def v19_12 : VC := (.seq (.ops o19_3) v19_11)
@[reducible] def v19_13 : VC := (.seq (.ops o19_2) v19_12)
@[reducible] def v19_14 : VC := (.seq (.ops o19_1) v19_13)
def ir19 : FC := ⟨0, 89, [.t 0], (.seq (.ops o19_0) v19_14)⟩
theorem c52 : compM Try.prog [] 52 = some ir52 := by kernel_rfl
theorem c19 : compM Try.prog [] 19 = some ir19 := by kernel_rfl



def exT : Tray := ⟨[⟨100, 90⟩, ⟨120, 80⟩, ⟨60, 70⟩], 0, 1, 5, [⟨3, 0⟩, ⟨4, 10⟩, ⟨0, 12⟩, ⟨3, 50⟩, ⟨0, 300⟩]⟩
def exU : Tray := ⟨[⟨10, 20⟩, ⟨30, 40⟩], 0, -1, 60, [⟨3, 0⟩]⟩
theorem example52 : FSpec Try.prog 52 [] (.tup [exT.av, exU.av]) := by
  refine FSpec_of c52 (Nat.le_refl _) (by decide) fun C hP hN hC hL => ?_
  simp only [ir52]
  (repeat ((first | refine WV_seq_ ?_ | refine WV_block ?_ | refine WV_ops ?_ | refine WV_skip ?_ | refine WV_exit ?_); (try simp only [go_sem, init_env', Nat.reduceEqDiff, Nat.reduceAdd, Nat.reduceMul, reduceIte, Nat.reduceLeDiff, Nat.reduceLT, Nat.reduceBEq, reduceCtorEq, hP, ]); (repeat (refine And.intro (by first | omega | (intros; simp_all; done) | (intros; simp_all; omega)) ?_))))
  (refine WV_drw ?_; simp only [go_sem, init_env', Nat.reduceEqDiff, Nat.reduceAdd, Nat.reduceMul, reduceIte, Nat.reduceLeDiff, Nat.reduceLT, Nat.reduceBEq, reduceCtorEq, hP, ]; (repeat' (refine And.intro ?_ ?_)))
  all_goals
    (repeat ((first | refine WV_seq_ ?_ | refine WV_block ?_ | refine WV_ops ?_ | refine WV_skip ?_ | refine WV_exit ?_); (try simp only [go_sem, init_env', Nat.reduceEqDiff, Nat.reduceAdd, Nat.reduceMul, reduceIte, Nat.reduceLeDiff, Nat.reduceLT, Nat.reduceBEq, reduceCtorEq, hP, ]); (repeat (refine And.intro (by first | omega | (intros; simp_all; done) | (intros; simp_all; omega)) ?_))))
    (refine WV_ret ?_; simp only [thenQ, inQ, RetQ, RetOk, resAll, resA]; simp only [go_sem, init_env', Nat.reduceEqDiff, Nat.reduceAdd, Nat.reduceMul, reduceIte, Nat.reduceLeDiff, Nat.reduceLT, Nat.reduceBEq, reduceCtorEq, tupA, AV.port, AV.portL, exists_eq_left', ]; (first | exact AVle.of rfl | refine AVle.of ?_ | skip))
theorem exPlays : playsR exT = ([⟨4, 10⟩, ⟨3, 75⟩, ⟨0, 160⟩, ⟨0, 315⟩], 0) := by kernel_rfl
theorem exWait : waitR exT 2 = (148, 0) := by kernel_rfl
theorem exStand : (standR exT 100).2 = 0 ∧ (standR exT 100).1.at_ = 1 ∧ (standR exT 100).1.way = -1 ∧ (standR exT 100).1.side = 3 := ⟨by kernel_rfl, by kernel_rfl, by kernel_rfl, by kernel_rfl⟩
theorem exLatest : latestR exT 2 20 = (5, 0) := by kernel_rfl
theorem exSoon : soonR exU = (40, 0) := by kernel_rfl
set_option maxRecDepth 20000 in
set_option maxHeartbeats 4000000 in
theorem works19 : FSpec Try.prog 19 [] (.c (.bool true)) := by
  have c1 := plays22 exT
  rw [exPlays] at c1
  have c2 := wait27 exT 2
  rw [exWait] at c2
  have c3 := stand21 exT 100
  obtain ⟨s1, s2, s3, s4⟩ := exStand
  simp only [spAv, s1, s2, s3, s4] at c3
  have c4 := latest26 exT 2 20
  rw [exLatest] at c4
  have c5 := soonest37 exU
  rw [exSoon] at c5
  have z3 : ((3 : Int)).toNat = 3 := rfl
  generalize hE : exT = E at *
  generalize hU : exU = U at *
  have hex := example52
  rw [hE, hU] at hex
  refine FSpec_of c19 (Nat.le_refl _) (by decide) fun C hP hN hC hL => ?_
  simp only [ir19]
  (repeat ((first | refine WV_seq_ ?_ | refine WV_block ?_ | refine WV_ops ?_ | refine WV_skip ?_ | refine WV_exit ?_); (try simp only [go_sem, init_env', Nat.reduceEqDiff, Nat.reduceAdd, Nat.reduceMul, reduceIte, Nat.reduceLeDiff, Nat.reduceLT, Nat.reduceBEq, reduceCtorEq, hP, ]); (repeat (refine And.intro (by first | omega | (intros; simp_all; done) | (intros; simp_all; omega)) ?_))))
  (refine AS_pure (hex) rfl rfl rfl rfl rfl ?_; simp only [go_sem, init_env', Nat.reduceEqDiff, Nat.reduceAdd, Nat.reduceMul, reduceIte, Nat.reduceLeDiff, Nat.reduceLT, Nat.reduceBEq, reduceCtorEq, hP, Tray.av]; (repeat (refine And.intro (by first | omega | (intros; simp_all; done) | (intros; simp_all; omega)) ?_)); (repeat ((first | refine WV_seq_ ?_ | refine WV_block ?_ | refine WV_ops ?_ | refine WV_skip ?_ | refine WV_exit ?_); (try simp only [go_sem, init_env', Nat.reduceEqDiff, Nat.reduceAdd, Nat.reduceMul, reduceIte, Nat.reduceLeDiff, Nat.reduceLT, Nat.reduceBEq, reduceCtorEq, hP, Tray.av]); (repeat (refine And.intro (by first | omega | (intros; simp_all; done) | (intros; simp_all; omega)) ?_)))))
  (refine AS_pure (c1) rfl rfl rfl rfl rfl ?_; simp only [go_sem, init_env', Nat.reduceEqDiff, Nat.reduceAdd, Nat.reduceMul, reduceIte, Nat.reduceLeDiff, Nat.reduceLT, Nat.reduceBEq, reduceCtorEq, hP, Tray.av]; (repeat (refine And.intro (by first | omega | (intros; simp_all; done) | (intros; simp_all; omega)) ?_)); (repeat ((first | refine WV_seq_ ?_ | refine WV_block ?_ | refine WV_ops ?_ | refine WV_skip ?_ | refine WV_exit ?_); (try simp only [go_sem, init_env', Nat.reduceEqDiff, Nat.reduceAdd, Nat.reduceMul, reduceIte, Nat.reduceLeDiff, Nat.reduceLT, Nat.reduceBEq, reduceCtorEq, hP, Tray.av]); (repeat (refine And.intro (by first | omega | (intros; simp_all; done) | (intros; simp_all; omega)) ?_)))))
  (refine AS_pure (c2) rfl rfl rfl rfl rfl ?_; simp only [go_sem, init_env', Nat.reduceEqDiff, Nat.reduceAdd, Nat.reduceMul, reduceIte, Nat.reduceLeDiff, Nat.reduceLT, Nat.reduceBEq, reduceCtorEq, hP, Tray.av]; (repeat (refine And.intro (by first | omega | (intros; simp_all; done) | (intros; simp_all; omega)) ?_)); (repeat ((first | refine WV_seq_ ?_ | refine WV_block ?_ | refine WV_ops ?_ | refine WV_skip ?_ | refine WV_exit ?_); (try simp only [go_sem, init_env', Nat.reduceEqDiff, Nat.reduceAdd, Nat.reduceMul, reduceIte, Nat.reduceLeDiff, Nat.reduceLT, Nat.reduceBEq, reduceCtorEq, hP, Tray.av]); (repeat (refine And.intro (by first | omega | (intros; simp_all; done) | (intros; simp_all; omega)) ?_)))))
  (refine AS_pure (c3) rfl rfl rfl rfl rfl ?_; simp only [go_sem, init_env', Nat.reduceEqDiff, Nat.reduceAdd, Nat.reduceMul, reduceIte, Nat.reduceLeDiff, Nat.reduceLT, Nat.reduceBEq, reduceCtorEq, hP, Tray.av]; (repeat (refine And.intro (by first | omega | (intros; simp_all; done) | (intros; simp_all; omega)) ?_)); (repeat ((first | refine WV_seq_ ?_ | refine WV_block ?_ | refine WV_ops ?_ | refine WV_skip ?_ | refine WV_exit ?_); (try simp only [go_sem, init_env', Nat.reduceEqDiff, Nat.reduceAdd, Nat.reduceMul, reduceIte, Nat.reduceLeDiff, Nat.reduceLT, Nat.reduceBEq, reduceCtorEq, hP, Tray.av]); (repeat (refine And.intro (by first | omega | (intros; simp_all; done) | (intros; simp_all; omega)) ?_)))))
  (refine AS_pure (c4) rfl rfl rfl rfl rfl ?_; simp only [go_sem, init_env', Nat.reduceEqDiff, Nat.reduceAdd, Nat.reduceMul, reduceIte, Nat.reduceLeDiff, Nat.reduceLT, Nat.reduceBEq, reduceCtorEq, hP, Tray.av]; (repeat (refine And.intro (by first | omega | (intros; simp_all; done) | (intros; simp_all; omega)) ?_)); (repeat ((first | refine WV_seq_ ?_ | refine WV_block ?_ | refine WV_ops ?_ | refine WV_skip ?_ | refine WV_exit ?_); (try simp only [go_sem, init_env', Nat.reduceEqDiff, Nat.reduceAdd, Nat.reduceMul, reduceIte, Nat.reduceLeDiff, Nat.reduceLT, Nat.reduceBEq, reduceCtorEq, hP, Tray.av]); (repeat (refine And.intro (by first | omega | (intros; simp_all; done) | (intros; simp_all; omega)) ?_)))))
  (refine AS_pure (c5) rfl rfl rfl rfl rfl ?_; simp only [go_sem, init_env', Nat.reduceEqDiff, Nat.reduceAdd, Nat.reduceMul, reduceIte, Nat.reduceLeDiff, Nat.reduceLT, Nat.reduceBEq, reduceCtorEq, hP, Tray.av, beq_self_eq_true, prsC, List.map_cons, List.map_nil, List.length_cons, List.length_nil, Pr.cds, z3, List.getD_cons_succ, List.getD_cons_zero, seqGo]; (repeat (refine And.intro (by first | omega | (intros; simp_all; done) | (intros; simp_all; omega)) ?_)); (repeat ((first | refine WV_seq_ ?_ | refine WV_block ?_ | refine WV_ops ?_ | refine WV_skip ?_ | refine WV_exit ?_); (try simp only [go_sem, init_env', Nat.reduceEqDiff, Nat.reduceAdd, Nat.reduceMul, reduceIte, Nat.reduceLeDiff, Nat.reduceLT, Nat.reduceBEq, reduceCtorEq, hP, Tray.av, beq_self_eq_true, prsC, List.map_cons, List.map_nil, List.length_cons, List.length_nil, Pr.cds, z3, List.getD_cons_succ, List.getD_cons_zero, seqGo]); (repeat (refine And.intro (by first | omega | (intros; simp_all; done) | (intros; simp_all; omega)) ?_)))))
  (refine WV_ret ?_; simp only [thenQ, inQ, RetQ, RetOk, resAll, resA]; simp only [go_sem, init_env', Nat.reduceEqDiff, Nat.reduceAdd, Nat.reduceMul, reduceIte, Nat.reduceLeDiff, Nat.reduceLT, Nat.reduceBEq, reduceCtorEq, tupA, AV.port, AV.portL, exists_eq_left', ]; (first | exact AVle.of rfl | refine AVle.of ?_ | skip))
end Go.Proofs.Ytkpgpgaojjobgaa

namespace Go.Proofs.Ytkpgpgaojjobgaa
open Go Go.V
@[reducible] def o24_0 : List Ins := [⟨(some 2), .box 5 (.t 0), none, true⟩,
  ⟨(some 4), .mv (.k (.c (.int .i64 0))), none, true⟩]
@[reducible] def o24_1 : List Ins := [⟨(some 5), .mv (.t 1), none, true⟩,
  ⟨(some 6), .bin .rem (.t 5) (.k (.c (.int .i64 2))), none, true⟩,
  ⟨(some 7), .bin .eql (.t 6) (.k (.c (.int .i64 1))), none, true⟩]
@[reducible] def o24_2 : List Ins := [⟨(some 8), .fa 0 (.t 2), none, true⟩,
  ⟨(some 9), .ld true 1 (.t 8), none, true⟩,
  ⟨(some 10), .mv (.t 1), none, true⟩,
  ⟨(some 11), .bin .quo (.t 10) (.k (.c (.int .i64 2))), none, true⟩,
  ⟨(some 12), .ia 2 (.t 9) (.t 11), none, true⟩,
  ⟨(some 13), .fa 1 (.t 12), none, true⟩,
  ⟨(some 14), .ld true 1 (.t 13), none, true⟩,
  ⟨(some 4), .mv (.t 14), none, true⟩]
@[reducible] def v24_3 : VC := (.seq (.ops o24_2) .ret)
@[reducible] def v24_4 : VC := (.cond (.t 7) v24_3 .skip)
@[reducible] def o24_5 : List Ins := [⟨(some 15), .fa 0 (.t 2), none, true⟩,
  ⟨(some 16), .ld true 1 (.t 15), none, true⟩,
  ⟨(some 17), .mv (.t 1), none, true⟩,
  ⟨(some 18), .bin .quo (.t 17) (.k (.c (.int .i64 2))), none, true⟩,
  ⟨(some 19), .ia 2 (.t 16) (.t 18), none, true⟩,
  ⟨(some 20), .fa 0 (.t 19), none, true⟩,
  ⟨(some 21), .ld true 1 (.t 20), none, true⟩,
  ⟨(some 4), .mv (.t 21), none, true⟩]
@[reducible] def v24_6 : VC := (.seq (.ops o24_5) .ret)
@[reducible] def v24_7 : VC := (.seq (.seq (.ops o24_1) v24_4) v24_6)
def ir24 : FC := ⟨2, 22, [.t 4], (.seq (.ops o24_0) v24_7)⟩
@[reducible] def o25_0 : List Ins := [⟨(some 4), .mv (.k (.c (.int .i64 0))), none, true⟩]
@[reducible] def o25_1 : List Ins := [⟨(some 5), .mv (.t 1), none, true⟩,
  ⟨(some 6), .bin .lss (.t 5) (.k (.c (.int .i64 0))), none, true⟩]
@[reducible] def o25_2 : List Ins := [⟨(some 7), .mv (.t 0), none, true⟩,
  ⟨(some 8), .bin .mul (.k (.c (.int .i64 2))) (.t 7), none, true⟩,
  ⟨(some 9), .bin .add (.t 8) (.k (.c (.int .i64 1))), none, true⟩,
  ⟨(some 4), .mv (.t 9), none, true⟩]
@[reducible] def v25_3 : VC := (.seq (.ops o25_2) .ret)
@[reducible] def v25_4 : VC := (.cond (.t 6) v25_3 .skip)
@[reducible] def o25_5 : List Ins := [⟨(some 10), .mv (.t 0), none, true⟩,
  ⟨(some 11), .bin .mul (.k (.c (.int .i64 2))) (.t 10), none, true⟩,
  ⟨(some 4), .mv (.t 11), none, true⟩]
@[reducible] def v25_6 : VC := (.seq (.ops o25_5) .ret)
@[reducible] def v25_7 : VC := (.seq (.seq (.ops o25_1) v25_4) v25_6)
def ir25 : FC := ⟨2, 12, [.t 4], (.seq (.ops o25_0) v25_7)⟩
@[reducible] def o23_0 : List Ins := [⟨(some 2), .box 5 (.t 0), none, true⟩,
  ⟨(some 4), .mv (.k (.c (.bool false))), none, true⟩]
@[reducible] def o23_1 : List Ins := [⟨(some 6), .mv (.t 1), none, true⟩,
  ⟨(some 7), .len (.t 6), none, true⟩,
  ⟨(some 8), .fa 4 (.t 2), none, true⟩,
  ⟨(some 9), .ld true 1 (.t 8), none, true⟩,
  ⟨(some 10), .len (.t 9), none, true⟩,
  ⟨(some 11), .bin .gtr (.t 7) (.t 10), none, true⟩]
@[reducible] def o23_2 : List Ins := [⟨(some 4), .mv (.k (.c (.bool false))), none, true⟩]
@[reducible] def v23_3 : VC := (.seq (.ops o23_2) .ret)
@[reducible] def v23_4 : VC := (.cond (.t 11) v23_3 .skip)
@[reducible] def o23_5 : List Ins := [⟨(some 5), .mv (.k (.c (.int .i64 0))), none, true⟩]
@[reducible] def o23_6 : List Ins := [⟨(some 12), .mv (.t 5), none, true⟩,
  ⟨(some 13), .mv (.t 1), none, true⟩,
  ⟨(some 14), .len (.t 13), none, true⟩,
  ⟨(some 15), .bin .lss (.t 12) (.t 14), none, true⟩]
@[reducible] def v23_7 : VC := (.cond (.t 15) .skip (.exit 0))
@[reducible] def o23_8 : List Ins := [⟨(some 18), .ld false 5 (.t 2), none, false⟩,
  ⟨(some 19), .mv (.t 1), none, false⟩,
  ⟨(some 20), .mv (.t 5), none, false⟩,
  ⟨(some 21), .ia 2 (.t 19) (.t 20), none, false⟩,
  ⟨(some 22), .fa 0 (.t 21), none, false⟩,
  ⟨(some 23), .ld true 1 (.t 22), none, false⟩,
  ⟨(some 24), .call (.k (.fn 17 [])) [(.t 18), (.t 23)], none, true⟩,
  ⟨(some 25), .un .not (.t 24), none, true⟩,
  ⟨(some 26), .mv (.t 25), none, true⟩,
  ⟨(some 27), .mv (.t 1), (some (26, false)), false⟩,
  ⟨(some 28), .mv (.t 5), (some (26, false)), false⟩,
  ⟨(some 29), .ia 2 (.t 27) (.t 28), (some (26, false)), true⟩,
  ⟨(some 30), .fa 1 (.t 29), (some (26, false)), true⟩,
  ⟨(some 31), .ld true 1 (.t 30), (some (26, false)), true⟩,
  ⟨(some 32), .bin .lss (.t 31) (.k (.c (.int .i64 0))), (some (26, false)), true⟩,
  ⟨(some 33), .pick (.t 26) (.k (.c (.bool true))) (.t 32), none, true⟩,
  ⟨(some 34), .mv (.t 33), none, true⟩,
  ⟨(some 35), .mv (.t 1), (some (34, false)), false⟩,
  ⟨(some 36), .mv (.t 5), (some (34, false)), false⟩,
  ⟨(some 37), .ia 2 (.t 35) (.t 36), (some (34, false)), true⟩,
  ⟨(some 38), .fa 1 (.t 37), (some (34, false)), true⟩,
  ⟨(some 39), .ld true 1 (.t 38), (some (34, false)), true⟩,
  ⟨(some 40), .bin .gtr (.t 39) (.k (.c (.int .i64 1000000))), (some (34, false)), true⟩,
  ⟨(some 41), .pick (.t 34) (.k (.c (.bool true))) (.t 40), none, true⟩,
  ⟨(some 42), .mv (.t 41), none, true⟩,
  ⟨(some 43), .mv (.t 5), (some (42, false)), true⟩,
  ⟨(some 44), .bin .gtr (.t 43) (.k (.c (.int .i64 0))), (some (42, false)), true⟩,
  ⟨(some 45), .mv (.t 44), (some (42, false)), true⟩,
  ⟨(some 46), .mv (.t 1), (some (45, true)), false⟩,
  ⟨(some 47), .mv (.t 5), (some (45, true)), false⟩,
  ⟨(some 48), .ia 2 (.t 46) (.t 47), (some (45, true)), false⟩,
  ⟨(some 49), .fa 1 (.t 48), (some (45, true)), false⟩,
  ⟨(some 50), .ld true 1 (.t 49), (some (45, true)), false⟩,
  ⟨(some 51), .mv (.t 1), (some (45, true)), false⟩,
  ⟨(some 52), .mv (.t 5), (some (45, true)), false⟩,
  ⟨(some 53), .bin .sub (.t 52) (.k (.c (.int .i64 1))), (some (45, true)), false⟩,
  ⟨(some 54), .ia 2 (.t 51) (.t 53), (some (45, true)), false⟩,
  ⟨(some 55), .fa 1 (.t 54), (some (45, true)), false⟩,
  ⟨(some 56), .ld true 1 (.t 55), (some (45, true)), false⟩,
  ⟨(some 57), .ld false 5 (.t 2), (some (45, true)), false⟩,
  ⟨(some 58), .mv (.t 1), (some (45, true)), false⟩,
  ⟨(some 59), .mv (.t 5), (some (45, true)), false⟩,
  ⟨(some 60), .bin .sub (.t 59) (.k (.c (.int .i64 1))), (some (45, true)), false⟩,
  ⟨(some 61), .ia 2 (.t 58) (.t 60), (some (45, true)), false⟩,
  ⟨(some 62), .fa 0 (.t 61), (some (45, true)), false⟩,
  ⟨(some 63), .ld true 1 (.t 62), (some (45, true)), false⟩,
  ⟨(some 64), .call (.k (.fn 24 [])) [(.t 57), (.t 63)], (some (45, true)), false⟩,
  ⟨(some 65), .bin .add (.t 56) (.t 64), (some (45, true)), false⟩,
  ⟨(some 66), .bin .lss (.t 50) (.t 65), (some (45, true)), true⟩,
  ⟨(some 67), .pick (.t 45) (.t 66) (.k (.c (.bool false))), (some (42, false)), true⟩,
  ⟨(some 68), .pick (.t 42) (.k (.c (.bool true))) (.t 67), none, true⟩]
@[reducible] def o23_9 : List Ins := [⟨(some 4), .mv (.k (.c (.bool false))), none, true⟩]
@[reducible] def v23_10 : VC := (.seq (.ops o23_9) .ret)
@[reducible] def v23_11 : VC := (.cond (.t 68) v23_10 .skip)
@[reducible] def v23_12 : VC := (.seq (.ops o23_8) v23_11)
@[reducible] def o23_13 : List Ins := [⟨(some 16), .mv (.t 5), none, true⟩,
  ⟨(some 17), .bin .add (.t 16) (.k (.c (.int .i64 1))), none, true⟩,
  ⟨(some 5), .mv (.t 17), none, true⟩]
@[reducible] def v23_14 : VC := (.seq (.block 1 v23_12) (.ops o23_13))
@[reducible] def v23_15 : VC := (.seq (.seq (.ops o23_6) v23_7) v23_14)
-- K23_1: changed and kept: [5]
@[reducible] def K23_1 : List Nat := [1, 2]
@[reducible] def v23_16 : VC := (.loop v23_15)
@[reducible] def v23_17 : VC := (.block 0 v23_16)
@[reducible] def o23_18 : List Ins := [⟨(some 4), .mv (.k (.c (.bool true))), none, true⟩]
@[reducible] def v23_19 : VC := (.seq (.ops o23_18) .ret)
@[reducible] def v23_20 : VC := (.seq (.seq (.ops o23_5) v23_17) v23_19)
@[reducible] def v23_21 : VC := (.seq (.seq (.ops o23_1) v23_4) v23_20)
def ir23 : FC := ⟨2, 69, [.t 4], (.seq (.ops o23_0) v23_21)⟩
theorem c24 : compM Try.prog [] 24 = some ir24 := by kernel_rfl
theorem c25 : compM Try.prog [] 25 = some ir25 := by kernel_rfl
theorem c23 : compM Try.prog [] 23 = some ir23 := by kernel_rfl



theorem secs24 (t : Tray) (s : Nat) (hs : s < 2 * t.n) (hn : t.n ≤ 1000) : FSpec Try.prog 24 [t.av, iv s] (iv (secs t s)) := by
  have e1 : ((s : Int)).tmod 2 = ((s % 2 : Nat) : Int) := by rw [Int.tmod_eq_emod_of_nonneg (by omega)]; omega
  have e2 : ((s : Int)).tdiv 2 = ((s / 2 : Nat) : Int) := by rw [Int.tdiv_eq_ediv_of_nonneg (by omega)]; omega
  have hk : s / 2 < t.recs.length := by show s / 2 < t.n; omega
  have hI : ((s / 2 : Nat) : Int) < (t.recs.length : Int) := by omega
  have w1 := w64 (n := ((s / 2 : Nat) : Int)) (by omega) (by omega)
  have w2 := w64 (n := ((s % 2 : Nat) : Int)) (by omega) (by omega)
  have hrc : t.rc (s / 2) = t.recs[s / 2] := by unfold Tray.rc; simp [hk]
  have hb : ((((s % 2 : Nat) : Int)) == 1) = decide (s % 2 = 1) := by rw [Bool.eq_iff_iff]; simp; omega
  refine FSpec_of c24 (Nat.le_refl _) (by decide) fun C hP hN hC hL => ?_
  simp only [ir24, Tray.av]
  (repeat ((first | refine WV_seq_ ?_ | refine WV_block ?_ | refine WV_ops ?_ | refine WV_skip ?_ | refine WV_exit ?_); (try simp only [go_sem, init_env', Nat.reduceEqDiff, Nat.reduceAdd, Nat.reduceMul, reduceIte, Nat.reduceLeDiff, Nat.reduceLT, Nat.reduceBEq, reduceCtorEq, hP, e1, w2, hb]); (repeat (refine And.intro (by first | omega | (intros; simp_all; done) | (intros; simp_all; omega)) ?_))))
  by_cases hc : s % 2 = 1
  · rw [decide_eq_true hc]
    (refine WV_cond rfl (fun h => ?_) (fun h => ?_))
    · (repeat ((first | refine WV_seq_ ?_ | refine WV_block ?_ | refine WV_ops ?_ | refine WV_skip ?_ | refine WV_exit ?_); (try simp only [go_sem, init_env', Nat.reduceEqDiff, Nat.reduceAdd, Nat.reduceMul, reduceIte, Nat.reduceLeDiff, Nat.reduceLT, Nat.reduceBEq, reduceCtorEq, hP, e2, w1, recsC, List.length_map, hI, map_getD hk, Rec.cds, Int.natCast_nonneg]); (repeat (refine And.intro (by first | omega | (intros; simp_all; done) | (intros; simp_all; omega)) ?_))))
      (refine WV_ret ?_; simp only [thenQ, inQ, RetQ, RetOk, resAll, resA]; simp only [go_sem, init_env', Nat.reduceEqDiff, Nat.reduceAdd, Nat.reduceMul, reduceIte, Nat.reduceLeDiff, Nat.reduceLT, Nat.reduceBEq, reduceCtorEq, tupA, AV.port, AV.portL, exists_eq_left', ]; (first | exact AVle.of rfl | refine AVle.of ?_ | skip))
      rw [secs, if_neg (by omega), hrc]
    · simp at h
  · rw [decide_eq_false hc]
    (refine WV_cond rfl (fun h => ?_) (fun h => ?_))
    · simp at h
    · (repeat ((first | refine WV_seq_ ?_ | refine WV_block ?_ | refine WV_ops ?_ | refine WV_skip ?_ | refine WV_exit ?_); (try simp only [go_sem, init_env', Nat.reduceEqDiff, Nat.reduceAdd, Nat.reduceMul, reduceIte, Nat.reduceLeDiff, Nat.reduceLT, Nat.reduceBEq, reduceCtorEq, hP, e2, w1, recsC, List.length_map, hI, map_getD hk, Rec.cds, Int.natCast_nonneg]); (repeat (refine And.intro (by first | omega | (intros; simp_all; done) | (intros; simp_all; omega)) ?_))))
      (refine WV_ret ?_; simp only [thenQ, inQ, RetQ, RetOk, resAll, resA]; simp only [go_sem, init_env', Nat.reduceEqDiff, Nat.reduceAdd, Nat.reduceMul, reduceIte, Nat.reduceLeDiff, Nat.reduceLT, Nat.reduceBEq, reduceCtorEq, tupA, AV.port, AV.portL, exists_eq_left', ]; (first | exact AVle.of rfl | refine AVle.of ?_ | skip))
      rw [secs, if_pos (by omega), hrc]
theorem sideat25 (k : Nat) (up : Bool) (hk : k ≤ 1000) : FSpec Try.prog 25 [iv k, iv (wayI up)] (iv (sideAt k up)) := by
  have w1 := w64 (n := 2 * (k : Int)) (by omega) (by omega)
  have w2 := w64 (n := 2 * (k : Int) + 1) (by omega) (by omega)
  refine FSpec_of c25 (Nat.le_refl _) (by decide) fun C hP hN hC hL => ?_
  simp only [ir25]
  cases up
  · simp only [wayI, Bool.false_eq_true, if_false]
    (repeat ((first | refine WV_seq_ ?_ | refine WV_block ?_ | refine WV_ops ?_ | refine WV_skip ?_ | refine WV_exit ?_); (try simp only [go_sem, init_env', Nat.reduceEqDiff, Nat.reduceAdd, Nat.reduceMul, reduceIte, Nat.reduceLeDiff, Nat.reduceLT, Nat.reduceBEq, reduceCtorEq, hP, ]); (repeat (refine And.intro (by first | omega | (intros; simp_all; done) | (intros; simp_all; omega)) ?_))))
    (refine WV_cond rfl (fun h => ?_) (fun h => ?_))
    · (repeat ((first | refine WV_seq_ ?_ | refine WV_block ?_ | refine WV_ops ?_ | refine WV_skip ?_ | refine WV_exit ?_); (try simp only [go_sem, init_env', Nat.reduceEqDiff, Nat.reduceAdd, Nat.reduceMul, reduceIte, Nat.reduceLeDiff, Nat.reduceLT, Nat.reduceBEq, reduceCtorEq, hP, w1, w2]); (repeat (refine And.intro (by first | omega | (intros; simp_all; done) | (intros; simp_all; omega)) ?_))))
      (refine WV_ret ?_; simp only [thenQ, inQ, RetQ, RetOk, resAll, resA]; simp only [go_sem, init_env', Nat.reduceEqDiff, Nat.reduceAdd, Nat.reduceMul, reduceIte, Nat.reduceLeDiff, Nat.reduceLT, Nat.reduceBEq, reduceCtorEq, tupA, AV.port, AV.portL, exists_eq_left', ]; (first | exact AVle.of rfl | refine AVle.of ?_ | skip))
    · simp at h
  · simp only [wayI, if_true]
    (repeat ((first | refine WV_seq_ ?_ | refine WV_block ?_ | refine WV_ops ?_ | refine WV_skip ?_ | refine WV_exit ?_); (try simp only [go_sem, init_env', Nat.reduceEqDiff, Nat.reduceAdd, Nat.reduceMul, reduceIte, Nat.reduceLeDiff, Nat.reduceLT, Nat.reduceBEq, reduceCtorEq, hP, ]); (repeat (refine And.intro (by first | omega | (intros; simp_all; done) | (intros; simp_all; omega)) ?_))))
    (refine WV_cond rfl (fun h => ?_) (fun h => ?_))
    · simp at h
    · (repeat ((first | refine WV_seq_ ?_ | refine WV_block ?_ | refine WV_ops ?_ | refine WV_skip ?_ | refine WV_exit ?_); (try simp only [go_sem, init_env', Nat.reduceEqDiff, Nat.reduceAdd, Nat.reduceMul, reduceIte, Nat.reduceLeDiff, Nat.reduceLT, Nat.reduceBEq, reduceCtorEq, hP, w1]); (repeat (refine And.intro (by first | omega | (intros; simp_all; done) | (intros; simp_all; omega)) ?_))))
      (refine WV_ret ?_; simp only [thenQ, inQ, RetQ, RetOk, resAll, resA]; simp only [go_sem, init_env', Nat.reduceEqDiff, Nat.reduceAdd, Nat.reduceMul, reduceIte, Nat.reduceLeDiff, Nat.reduceLT, Nat.reduceBEq, reduceCtorEq, tupA, AV.port, AV.portL, exists_eq_left', ]; (first | exact AVle.of rfl | refine AVle.of ?_ | skip))
/-- Plays that are sane. -/
structure SaneOk (t : Tray) (l : List Pr) : Prop where
  len : l.length ≤ t.pres.length
  side : ∀ x ∈ l, 0 ≤ x.side ∧ x.side < 2 * (t.n : Int)
  time : ∀ x ∈ l, 0 ≤ x.time ∧ x.time ≤ 300000
  spc : ∀ i (h : i + 1 < l.length), (l[i]'(by omega)).time + secsI t (l[i]'(by omega)).side ≤ l[i + 1].time
theorem run_sane {t : Tray} (ht : TrayOk t) {s : Cs} (h : RunOk t s) : SaneOk t s.plays := by
  have hc := h.inv.cnt
  refine ⟨by omega, fun x hx => ?_, fun x hx => ?_, fun i hi => ?_⟩
  · have := h.inv.ply x hx; omega
  · have h1 := h.inv.ply x hx
    have h2 := h.now
    have h3 := secs_ok ht (s := x.side.toNat) (by omega)
    unfold secsI at h1
    omega
  · exact List.pairwise_iff_getElem.1 h.inv.spc i (i + 1) (by omega) hi (by omega)
set_option maxRecDepth 20000 in
set_option maxHeartbeats 8000000 in
theorem sane23 {t : Tray} (ht : TrayOk t) {l : List Pr} (hs : SaneOk t l) : FSpec Try.prog 23 [t.av, .c (prsC l)] (.c (.bool true)) := by
  have h13 := ht.p13
  have hn6 := ht.n6
  have hlen := hs.len
  have hd : decide ((t.pres.length : Int) < (l.length : Int)) = false := by simp; omega
  refine FSpec_of c23 (Nat.le_refl _) (by decide) fun C hP hN hC hL => ?_
  simp only [ir23, Tray.av]
  (repeat ((first | refine WV_seq_ ?_ | refine WV_block ?_ | refine WV_ops ?_ | refine WV_skip ?_ | refine WV_exit ?_); (try simp only [go_sem, init_env', Nat.reduceEqDiff, Nat.reduceAdd, Nat.reduceMul, reduceIte, Nat.reduceLeDiff, Nat.reduceLT, Nat.reduceBEq, reduceCtorEq, hP, prsC, List.length_map, hd]); (repeat (refine And.intro (by first | omega | (intros; simp_all; done) | (intros; simp_all; omega)) ?_))))
  (refine WV_cond rfl (fun h => ?_) (fun h => ?_))
  · simp at h
  (repeat ((first | refine WV_seq_ ?_ | refine WV_block ?_ | refine WV_ops ?_ | refine WV_skip ?_ | refine WV_exit ?_); (try simp only [go_sem, init_env', Nat.reduceEqDiff, Nat.reduceAdd, Nat.reduceMul, reduceIte, Nat.reduceLeDiff, Nat.reduceLT, Nat.reduceBEq, reduceCtorEq, hP, ]); (repeat (refine And.intro (by first | omega | (intros; simp_all; done) | (intros; simp_all; omega)) ?_))))
  refine WV_loopK K23_1 [] (fun k : Nat => k ≤ l.length) (fun k => l.length - k) (fun k => [(5, iv k)]) (fun _ => []) 0 (Nat.zero_le _) ?_ ?_
  · (refine Sub_of (by simp only [go_sem, init_env', Nat.reduceEqDiff, Nat.reduceAdd, Nat.reduceMul, reduceIte, Nat.reduceLeDiff, Nat.reduceLT, Nat.reduceBEq, reduceCtorEq]; ((repeat' (first | exact EnvLe_e0 _ _ | refine EnvLe_upd ?_ ?_)) <;> ((try simp only [upd_app, e0_app, o0_app, Nat.reduceEqDiff, reduceIte]); first | exact AWk.refl _ _ | exact AWk.int (by omega) | exact AWk.int (by rw [w64 (by omega) (by omega)]; omega) | exact AWk.grow rfl | exact AWk.nil _ | exact AWk.of (by simp)))) (by simp only [go_sem, init_env', Nat.reduceEqDiff, Nat.reduceAdd, Nat.reduceMul, reduceIte, Nat.reduceLeDiff, Nat.reduceLT, Nat.reduceBEq, reduceCtorEq]; ((repeat' (first | exact ObjLe_o0 _ | exact ObjLe.rfl' _ | refine ObjLe_same ?_ | refine ObjLe_upd ?_ ?_ | refine ObjLe_new rfl ?_)) <;> rfl)))
  · intro k hk
    simp only [go_sem, init_env', Nat.reduceEqDiff, Nat.reduceAdd, Nat.reduceMul, reduceIte, Nat.reduceLeDiff, Nat.reduceLT, Nat.reduceBEq, reduceCtorEq]
    (repeat ((first | refine WV_seq_ ?_ | refine WV_block ?_ | refine WV_ops ?_ | refine WV_skip ?_ | refine WV_exit ?_); (try simp only [go_sem, init_env', Nat.reduceEqDiff, Nat.reduceAdd, Nat.reduceMul, reduceIte, Nat.reduceLeDiff, Nat.reduceLT, Nat.reduceBEq, reduceCtorEq, hP, List.length_map]); (repeat (refine And.intro (by first | omega | (intros; simp_all; done) | (intros; simp_all; omega)) ?_))))
    (refine WV_cond rfl (fun h => ?_) (fun h => ?_))
    · have hkl : k < l.length := by simpa using h
      have hI : (k : Int) < (l.length : Int) := by omega
      have hw2 := w64 (n := (k : Int) + 1) (by omega) (by omega)
      have h1 := hs.side _ (List.getElem_mem hkl)
      have h2 := hs.time _ (List.getElem_mem hkl)
      have hsd := risside17 t l[k].side (by omega)
      rw [show isSide t.n l[k].side = true by simp [isSide, within]; omega] at hsd
      have f1 : decide (l[k].time < 0) = false := by simp; omega
      have f2 : decide (1000000 < l[k].time) = false := by simp; omega
      cases k with
      | zero =>
        have z0 : ((0 : Int)).toNat = 0 := rfl
        have z1 : IntKind.i64.wrap (0 - 1) = -1 := by decide
        have z2 : ((-1 : Int)).toNat = 0 := rfl
        have hI0 : (0 : Int) < (l.length : Int) := by omega
        have f4 : decide ((0 : Int) < 0) = false := by decide
        have g1 : (l.map Pr.cds).getD 0 [] = [.int .i64 l[0].side, .int .i64 l[0].time] := map_getD hkl
        generalize l[0].side = S1 at *
        generalize l[0].time = T1 at *
        (repeat ((first | refine WV_seq_ ?_ | refine WV_block ?_ | refine WV_ops ?_ | refine WV_skip ?_ | refine WV_exit ?_); (try simp only [go_sem, init_env', Nat.reduceEqDiff, Nat.reduceAdd, Nat.reduceMul, reduceIte, Nat.reduceLeDiff, Nat.reduceLT, Nat.reduceBEq, reduceCtorEq, hP, g1, hI, hI0, List.length_map, z0, Int.natCast_zero]); (repeat (refine And.intro (by first | omega | (intros; simp_all; done) | (intros; simp_all; omega)) ?_))))
        (refine AS_pure (hsd) rfl rfl rfl rfl rfl ?_; simp only [go_sem, init_env', Nat.reduceEqDiff, Nat.reduceAdd, Nat.reduceMul, reduceIte, Nat.reduceLeDiff, Nat.reduceLT, Nat.reduceBEq, reduceCtorEq, hP, Tray.av, f1, f2, f4, z0, z1, z2, g1, hI0, List.length_map, prsC, Int.natCast_zero]; (repeat (refine And.intro (by first | omega | (intros; simp_all; done) | (intros; simp_all; omega)) ?_)); (repeat ((first | refine WV_seq_ ?_ | refine WV_block ?_ | refine WV_ops ?_ | refine WV_skip ?_ | refine WV_exit ?_); (try simp only [go_sem, init_env', Nat.reduceEqDiff, Nat.reduceAdd, Nat.reduceMul, reduceIte, Nat.reduceLeDiff, Nat.reduceLT, Nat.reduceBEq, reduceCtorEq, hP, Tray.av, f1, f2, f4, z0, z1, z2, g1, hI0, List.length_map, prsC, Int.natCast_zero]); (repeat (refine And.intro (by first | omega | (intros; simp_all; done) | (intros; simp_all; omega)) ?_)))))
        refine ACallG_skip (iv 0) rfl ?_
        simp only [go_sem, init_env', Nat.reduceEqDiff, Nat.reduceAdd, Nat.reduceMul, reduceIte, Nat.reduceLeDiff, Nat.reduceLT, Nat.reduceBEq, reduceCtorEq, hP]
        (repeat (refine And.intro (by first | omega | (intros; simp_all; done) | (intros; simp_all; omega)) ?_))
        (repeat ((first | refine WV_seq_ ?_ | refine WV_block ?_ | refine WV_ops ?_ | refine WV_skip ?_ | refine WV_exit ?_); (try simp only [go_sem, init_env', Nat.reduceEqDiff, Nat.reduceAdd, Nat.reduceMul, reduceIte, Nat.reduceLeDiff, Nat.reduceLT, Nat.reduceBEq, reduceCtorEq, hP, ]); (repeat (refine And.intro (by first | omega | (intros; simp_all; done) | (intros; simp_all; omega)) ?_))))
        (refine WV_cond rfl (fun h => ?_) (fun h => ?_))
        · simp at h
        · (repeat ((first | refine WV_seq_ ?_ | refine WV_block ?_ | refine WV_ops ?_ | refine WV_skip ?_ | refine WV_exit ?_); (try simp only [go_sem, init_env', Nat.reduceEqDiff, Nat.reduceAdd, Nat.reduceMul, reduceIte, Nat.reduceLeDiff, Nat.reduceLT, Nat.reduceBEq, reduceCtorEq, hP, hw2]); (repeat (refine And.intro (by first | omega | (intros; simp_all; done) | (intros; simp_all; omega)) ?_))))
          refine ⟨1, by omega, by omega, ?_⟩
          (refine Sub_of (by simp only [go_sem, init_env', Nat.reduceEqDiff, Nat.reduceAdd, Nat.reduceMul, reduceIte, Nat.reduceLeDiff, Nat.reduceLT, Nat.reduceBEq, reduceCtorEq]; ((repeat' (first | exact EnvLe_e0 _ _ | refine EnvLe_upd ?_ ?_)) <;> ((try simp only [upd_app, e0_app, o0_app, Nat.reduceEqDiff, reduceIte]); first | exact AWk.refl _ _ | exact AWk.int (by omega) | exact AWk.int (by rw [w64 (by omega) (by omega)]; omega) | exact AWk.grow rfl | exact AWk.nil _ | exact AWk.of (by simp)))) (by simp only [go_sem, init_env', Nat.reduceEqDiff, Nat.reduceAdd, Nat.reduceMul, reduceIte, Nat.reduceLeDiff, Nat.reduceLT, Nat.reduceBEq, reduceCtorEq]; ((repeat' (first | exact ObjLe_o0 _ | exact ObjLe.rfl' _ | refine ObjLe_same ?_ | refine ObjLe_upd ?_ ?_ | refine ObjLe_new rfl ?_)) <;> rfl)))
      | succ k =>
        have hk1 : k < l.length := by omega
        have h3 := hs.side _ (List.getElem_mem hk1)
        have h4 := hs.time _ (List.getElem_mem hk1)
        have h5 := hs.spc k hkl
        obtain ⟨sn, hsn⟩ := Int.eq_ofNat_of_zero_le h3.1
        have hse := secs24 t sn (by omega) (by omega)
        have hso := secs_ok ht (s := sn) (by omega)
        have hsec : secsI t l[k].side = secs t sn := by unfold secsI; rw [hsn, Int.toNat_natCast]
        rw [hsec] at h5
        have ek : ((k + 1 : Nat) : Int) - 1 = (k : Int) := by omega
        have hw3 := w64 (n := (k : Int)) (by omega) (by omega)
        have hw4 := w64 (n := l[k].time + secs t sn) (by omega) (by omega)
        have hI1 : (k : Int) < (l.length : Int) := by omega
        have f3 : decide (l[k + 1].time < l[k].time + secs t sn) = false := by simp; omega
        have f4 : decide (0 < ((k + 1 : Nat) : Int)) = true := by simp
        have f5 : (((k + 1 : Nat) : Int)).toNat = k + 1 := rfl
        have g1 : (l.map Pr.cds).getD (k + 1) [] = [.int .i64 l[k + 1].side, .int .i64 l[k + 1].time] := map_getD hkl
        have g2 : (l.map Pr.cds).getD k [] = [.int .i64 sn, .int .i64 l[k].time] := by rw [map_getD hk1, Pr.cds, hsn]
        generalize l[k + 1].side = S1 at *
        generalize l[k + 1].time = T1 at *
        generalize l[k].time = T0 at *
        generalize secs t sn = SC at *
        (repeat ((first | refine WV_seq_ ?_ | refine WV_block ?_ | refine WV_ops ?_ | refine WV_skip ?_ | refine WV_exit ?_); (try simp only [go_sem, init_env', Nat.reduceEqDiff, Nat.reduceAdd, Nat.reduceMul, reduceIte, Nat.reduceLeDiff, Nat.reduceLT, Nat.reduceBEq, reduceCtorEq, hP, g1, hI, List.length_map, f5, Int.natCast_nonneg]); (repeat (refine And.intro (by first | omega | (intros; simp_all; done) | (intros; simp_all; omega)) ?_))))
        (refine AS_pure (hsd) rfl rfl rfl rfl rfl ?_; simp only [go_sem, init_env', Nat.reduceEqDiff, Nat.reduceAdd, Nat.reduceMul, reduceIte, Nat.reduceLeDiff, Nat.reduceLT, Nat.reduceBEq, reduceCtorEq, hP, Tray.av, f1, f2, f4, f5, ek, hw3, g1, g2, hI, hI1, Int.natCast_nonneg, List.length_map, prsC]; (repeat (refine And.intro (by first | omega | (intros; simp_all; done) | (intros; simp_all; omega)) ?_)); (repeat ((first | refine WV_seq_ ?_ | refine WV_block ?_ | refine WV_ops ?_ | refine WV_skip ?_ | refine WV_exit ?_); (try simp only [go_sem, init_env', Nat.reduceEqDiff, Nat.reduceAdd, Nat.reduceMul, reduceIte, Nat.reduceLeDiff, Nat.reduceLT, Nat.reduceBEq, reduceCtorEq, hP, Tray.av, f1, f2, f4, f5, ek, hw3, g1, g2, hI, hI1, Int.natCast_nonneg, List.length_map, prsC]); (repeat (refine And.intro (by first | omega | (intros; simp_all; done) | (intros; simp_all; omega)) ?_)))))
        refine ACallG_of (fun _ => hse) rfl (fun hG => by first | rfl | simp only [go_sem, init_env', Nat.reduceEqDiff, Nat.reduceAdd, Nat.reduceMul, reduceIte, Nat.reduceLeDiff, Nat.reduceLT, Nat.reduceBEq, reduceCtorEq, hG]) rfl rfl rfl ?_
        simp only [go_sem, init_env', Nat.reduceEqDiff, Nat.reduceAdd, Nat.reduceMul, reduceIte, Nat.reduceLeDiff, Nat.reduceLT, Nat.reduceBEq, reduceCtorEq, hP, hw4, f3]
        (repeat (refine And.intro (by first | omega | (intros; simp_all; done) | (intros; simp_all; omega)) ?_))
        (repeat ((first | refine WV_seq_ ?_ | refine WV_block ?_ | refine WV_ops ?_ | refine WV_skip ?_ | refine WV_exit ?_); (try simp only [go_sem, init_env', Nat.reduceEqDiff, Nat.reduceAdd, Nat.reduceMul, reduceIte, Nat.reduceLeDiff, Nat.reduceLT, Nat.reduceBEq, reduceCtorEq, hP, ]); (repeat (refine And.intro (by first | omega | (intros; simp_all; done) | (intros; simp_all; omega)) ?_))))
        (refine WV_cond rfl (fun h => ?_) (fun h => ?_))
        · simp at h
        · (repeat ((first | refine WV_seq_ ?_ | refine WV_block ?_ | refine WV_ops ?_ | refine WV_skip ?_ | refine WV_exit ?_); (try simp only [go_sem, init_env', Nat.reduceEqDiff, Nat.reduceAdd, Nat.reduceMul, reduceIte, Nat.reduceLeDiff, Nat.reduceLT, Nat.reduceBEq, reduceCtorEq, hP, hw2]); (repeat (refine And.intro (by first | omega | (intros; simp_all; done) | (intros; simp_all; omega)) ?_))))
          refine ⟨k + 1 + 1, by omega, by omega, ?_⟩
          (refine Sub_of (by simp only [go_sem, init_env', Nat.reduceEqDiff, Nat.reduceAdd, Nat.reduceMul, reduceIte, Nat.reduceLeDiff, Nat.reduceLT, Nat.reduceBEq, reduceCtorEq]; ((repeat' (first | exact EnvLe_e0 _ _ | refine EnvLe_upd ?_ ?_)) <;> ((try simp only [upd_app, e0_app, o0_app, Nat.reduceEqDiff, reduceIte]); first | exact AWk.refl _ _ | exact AWk.int (by omega) | exact AWk.int (by rw [w64 (by omega) (by omega)]; omega) | exact AWk.grow rfl | exact AWk.nil _ | exact AWk.of (by simp)))) (by simp only [go_sem, init_env', Nat.reduceEqDiff, Nat.reduceAdd, Nat.reduceMul, reduceIte, Nat.reduceLeDiff, Nat.reduceLT, Nat.reduceBEq, reduceCtorEq]; ((repeat' (first | exact ObjLe_o0 _ | exact ObjLe.rfl' _ | refine ObjLe_same ?_ | refine ObjLe_upd ?_ ?_ | refine ObjLe_new rfl ?_)) <;> rfl)))
    · (repeat ((first | refine WV_seq_ ?_ | refine WV_block ?_ | refine WV_ops ?_ | refine WV_skip ?_ | refine WV_exit ?_); (try simp only [go_sem, init_env', Nat.reduceEqDiff, Nat.reduceAdd, Nat.reduceMul, reduceIte, Nat.reduceLeDiff, Nat.reduceLT, Nat.reduceBEq, reduceCtorEq, hP, ]); (repeat (refine And.intro (by first | omega | (intros; simp_all; done) | (intros; simp_all; omega)) ?_))))
      (refine WV_ret ?_; simp only [thenQ, inQ, RetQ, RetOk, resAll, resA]; simp only [go_sem, init_env', Nat.reduceEqDiff, Nat.reduceAdd, Nat.reduceMul, reduceIte, Nat.reduceLeDiff, Nat.reduceLT, Nat.reduceBEq, reduceCtorEq, tupA, AV.port, AV.portL, exists_eq_left', ]; (first | exact AVle.of rfl | refine AVle.of ?_ | skip))
end Go.Proofs.Ytkpgpgaojjobgaa

/-
  While a side plays, the carriage stands at its place: plain.
-/
namespace Go.Proofs.Ytkpgpgaojjobgaa
open Go Go.V

theorem standG_later {x : Int} {a : Sp} (h : x < a.from_) : ∀ (l : List Sp) (o : Sp), standG x o (l ++ [a]) = standG x o l
  | [], o => by simp [standG, h]
  | s :: l, o => by
    simp only [List.cons_append, standG]
    split
    · rfl
    · exact standG_later h l s
theorem standG_now {x : Int} {a : Sp} (h : a.from_ ≤ x) : ∀ (l : List Sp) (o : Sp), (∀ e ∈ l, e.from_ ≤ x) → standG x o (l ++ [a]) = a
  | [], o, _ => by simp only [List.nil_append, standG]; rw [if_neg (by omega)]
  | s :: l, o, hl => by
    simp only [List.cons_append, standG]
    rw [if_neg (by have := hl s (by simp); omega)]
    exact standG_now h l s fun e he => hl e (by simp [he])
/-- The side that plays at a time; -1: none. -/
def playing (t : Tray) (l : List Pr) (x : Int) : Int := l.foldl (fun w p => if p.time ≤ x ∧ x < p.time + secsI t p.side then p.side else w) (-1)
theorem playing_snoc (t : Tray) (l : List Pr) (p : Pr) (x : Int) : playing t (l ++ [p]) x = if p.time ≤ x ∧ x < p.time + secsI t p.side then p.side else playing t l x := by
  unfold playing; rw [List.foldl_append]; rfl
theorem playing_none {t : Tray} {l : List Pr} {x : Int} (h : ∀ p ∈ l, p.time + secsI t p.side ≤ x) : playing t l x = -1 := by
  unfold playing
  generalize hw : (-1 : Int) = w
  clear hw
  induction l generalizing w with
  | nil => rfl
  | cons p l ih =>
    rw [List.foldl_cons, if_neg (by have := h p (by simp); omega)]
    exact ih (fun q hq => h q (by simp [hq])) w
structure Shows (t : Tray) (s : Cs) (x : Int) (e : Sp) : Prop where
  at_ : ∃ (k : Nat) (up : Bool), k < t.n ∧ e.at_ = (k : Int) ∧ e.way = wayI up ∧ (e.side = -1 ∨ e.side = (sideAt k up : Int))
  before : x < s.now → e.side = playing t s.plays x
  now : s.now ≤ x → e.side = -1 ∧ e.at_ = (s.at_ : Int) ∧ e.way = wayI s.up
structure Stands (t : Tray) (s : Cs) : Prop where
  inv : Inv t s
  le : ∀ e ∈ s.spells, e.from_ ≤ s.now
  shows : ∀ (o : Sp) (x : Int), 0 ≤ x → Shows t s x (standG x o s.spells)
theorem Stands.next {t : Tray} {s : Cs} (ht : TrayOk t) (hs : s.at_ < t.n) (hp : ∀ p ∈ s.plays, p.time + secsI t p.side ≤ s.now) (h1 : ∀ e ∈ s.spells, e.from_ ≤ s.now) (h : ∀ (o : Sp) (x : Int), 0 ≤ x → Shows t s x (standG x o s.spells)) :
    (∀ e ∈ (s.next t).spells, e.from_ ≤ (s.next t).now) ∧ ∀ (o : Sp) (x : Int), 0 ≤ x → Shows t (s.next t) x (standG x o (s.next t).spells) := by
  obtain ⟨m1, m2, m3, m4, m5⟩ := move_q t s
  obtain ⟨n1, n2, n3, n4⟩ := move_now ht.step.1 s
  have hat := (move_c (t := t) hs).2
  have es : (s.next t).spells = s.spells ++ [⟨((s.move t).at_ : Int), wayI (s.move t).up, -1, (s.move t).now⟩] := by
    show (s.move t).spells ++ _ = _
    rw [m4]
  have en : (s.next t).now = (s.move t).now := rfl
  have ep : (s.next t).plays = s.plays := m3
  rw [es, en]
  refine ⟨fun e he => ?_, fun o x hx => ?_⟩
  · rcases List.mem_append.1 he with he | he
    · have := h1 e he; omega
    · simp only [List.mem_singleton] at he
      subst he; exact Int.le_refl _
  · by_cases hc : x < (s.move t).now
    · rw [standG_later (by exact hc)]
      have hh := h o x hx
      refine ⟨hh.at_, fun _ => ?_, fun hc2 => by rw [en] at hc2; omega⟩
      rw [ep]
      by_cases hc2 : x < s.now
      · exact hh.before hc2
      · rw [(hh.now (by omega)).1, playing_none fun p hpm => by have := hp p hpm; omega]
    · rw [standG_now (by simp only; omega) _ _ fun e he => by have := h1 e he; omega]
      exact ⟨⟨(s.move t).at_, (s.move t).up, hat, rfl, rfl, .inl rfl⟩, fun hc2 => by rw [en] at hc2; omega, fun _ => ⟨rfl, rfl, rfl⟩⟩
theorem Stands.act1 {t : Tray} (ht : TrayOk t) {s s' : Cs} (hs : CsOk t s) (hpr : Pressed s) (h : Stands t s) (e : s.act1 t = some s') : Stands t s' := by
  have hi := h.inv.act1 ht hs hpr e
  have hpl := fun p hp => (h.inv.ply p hp).2.2.2
  rcases act1_cases e with ⟨p, q, hq, hpins, rfl⟩ | ⟨hpins, rfl⟩
  · have hnow := hpr p (by rw [hq]; simp)
    refine ⟨hi, fun e he => by have := h.le e he; simp only; omega, fun o x hx => ?_⟩
    have hh := h.shows o x hx
    refine ⟨hh.at_, fun hc => ?_, fun hc => hh.now (by simp only at hc; omega)⟩
    by_cases hc2 : x < s.now
    · exact hh.before hc2
    · show (standG x o s.spells).side = playing t s.plays x
      rw [(hh.now (by omega)).1, playing_none fun p hpm => by have := hpl p hpm; omega]
  · by_cases hp : s.pins.getD s.pos false = true
    · have hpos := pos_lt hs
      have hsec := secs_ok ht hpos
      have hnow := hs.now
      have hsI : secsI t ((s.pos : Nat) : Int) = secs t s.pos := by unfold secsI; rw [Int.toNat_natCast]
      have ep : s.play t = (s.play1).play2 t := by unfold Cs.play; rw [if_pos hp]
      obtain ⟨p1, p2, p3, p4, p5, p6⟩ := play_yes (t := t) hp
      have ea : (s.play t).at_ = s.at_ ∧ (s.play t).up = s.up := ⟨(play_pins t s).2.2.1, (play_pins t s).2.2.2⟩
      have es : (s.play t).spells = s.spells ++ [⟨s.at_, wayI s.up, s.pos, s.now⟩] ++ [⟨s.at_, wayI s.up, -1, s.now + secs t s.pos⟩] := by rw [ep]; rfl
      have hk := Stands.next (s := s.play t) ht (by rw [ea.1]; exact hs.at_) (fun x hx => by
        rw [p3] at hx; rw [p4]
        rcases List.mem_append.1 hx with hx | hx
        · have := hpl x hx; omega
        · simp only [List.mem_singleton] at hx
          subst hx; simp only [hsI]; omega) (fun e he => by
        rw [es] at he; rw [p4]
        rcases List.mem_append.1 he with he | he
        · rcases List.mem_append.1 he with he | he
          · have := h.le e he; omega
          · simp only [List.mem_singleton] at he; subst he; simp only; omega
        · simp only [List.mem_singleton] at he; subst he; simp only; omega) (fun o x hx => by
        rw [es]
        by_cases hc : x < s.now + secs t s.pos
        · rw [standG_later (by exact hc)]
          by_cases hc2 : x < s.now
          · rw [standG_later (by exact hc2)]
            have hh := h.shows o x hx
            refine ⟨hh.at_, fun _ => ?_, fun hc3 => by rw [p4] at hc3; omega⟩
            rw [p3, playing_snoc, if_neg (by simp only; omega)]
            exact hh.before hc2
          · rw [standG_now (by simp only; omega) _ _ fun e he => by have := h.le e he; omega]
            refine ⟨⟨s.at_, s.up, hs.at_, rfl, rfl, .inr rfl⟩, fun _ => ?_, fun hc3 => by rw [p4] at hc3; omega⟩
            rw [p3, playing_snoc, if_pos (by simp only [hsI]; omega)]
        · rw [standG_now (by simp only; omega) _ _ fun e he => by
            rcases List.mem_append.1 he with he | he
            · have := h.le e he; omega
            · simp only [List.mem_singleton] at he; subst he; simp only; omega]
          exact ⟨⟨s.at_, s.up, hs.at_, rfl, rfl, .inl rfl⟩, fun hc3 => by rw [p4] at hc3; omega, fun _ => ⟨rfl, by rw [ea.1], by rw [ea.2]⟩⟩)
      exact ⟨hi, hk.1, hk.2⟩
    · rw [play_no hp] at hi ⊢
      have hk := Stands.next (s := s) ht hs.at_ hpl h.le h.shows
      exact ⟨hi, hk.1, hk.2⟩
theorem stands {t : Tray} (ht : TrayOk t) {q : List Pr} (hq : q.Perm t.pres) (hqs : q.Pairwise fun a b => a.time ≤ b.time) : Stands t (goesWith t q) := by
  obtain ⟨k, _, h, _, _, _⟩ := goes_inv ht hq hqs (fun _ s => Stands t s) (by
    refine ⟨Inv.start hq, fun e he => ?_, fun o x hx => ?_⟩
    · have he : e ∈ [(⟨t.at_.toNat, wayI (t.way == 1), -1, 0⟩ : Sp)] := he
      simp only [List.mem_singleton] at he
      subst he; exact Int.le_refl _
    · have es : ((start t q).mark (-1)).spells = [⟨t.at_.toNat, wayI (t.way == 1), -1, 0⟩] := rfl
      have hat := ht.at_
      rw [es]
      have : standG x o [(⟨t.at_.toNat, wayI (t.way == 1), -1, 0⟩ : Sp)] = ⟨t.at_.toNat, wayI (t.way == 1), -1, 0⟩ := by simp only [standG]; rw [if_neg (by omega)]
      rw [this]
      exact ⟨⟨t.at_.toNat, t.way == 1, by omega, rfl, rfl, .inl rfl⟩, fun hc => by have : x < 0 := hc; omega, fun _ => ⟨rfl, rfl, rfl⟩⟩)
    (fun k s hs h => ⟨h.inv.press ht hs, h.le, fun o x hx => ⟨(h.shows o x hx).at_, (h.shows o x hx).before, (h.shows o x hx).now⟩⟩)
    (fun k s s' hs hpr h e => h.act1 ht hs hpr e)
  exact h
/-- What Stand says. -/
theorem stand_shows {t : Tray} (ht : TrayOk t) {x : Int} (hx : 0 ≤ x) : (∃ (k : Nat) (up : Bool), k < t.n ∧ (standV t x).at_ = (k : Int) ∧ (standV t x).way = wayI up ∧ (playing t (playsS t) x = -1 ∨ playing t (playsS t) x = (sideAt k up : Int))) ∧ (standV t x).side = playing t (playsS t) x := by
  have h := stands ht (sortT_perm t.pres) (sortT_sorted t.pres)
  have hh := h.shows ((goesS t).spells.headD default) x hx
  have he : (standV t x).side = playing t (playsS t) x := by
    by_cases hc : x < (goesS t).now
    · exact hh.before hc
    · rw [show playing t (playsS t) x = -1 from playing_none fun p hp => by have := (h.inv.ply p hp).2.2.2; have hc : ¬ x < (goesWith t (sortT t.pres)).now := hc; omega]
      exact (hh.now (by have hc : ¬ x < (goesWith t (sortT t.pres)).now := hc; omega)).1
  obtain ⟨k, up, h1, h2, h3, h4⟩ := hh.at_
  refine ⟨⟨k, up, h1, h2, h3, ?_⟩, he⟩
  rw [← he]; exact h4
end Go.Proofs.Ytkpgpgaojjobgaa

namespace Go.Proofs.Ytkpgpgaojjobgaa
open Go Go.V
@[reducible] def o4_0 : List Ins := [⟨(some 2), .box 5 (.t 0), none, true⟩,
  ⟨(some 4), .mv (.k (.c (.bool false))), none, true⟩]
@[reducible] def o4_1 : List Ins := [⟨(some 11), .ld false 5 (.t 2), none, true⟩,
  ⟨(some 12), .call (.k (.fn 16 [])) [(.t 11)], none, true⟩,
  ⟨(some 13), .un .not (.t 12), none, true⟩,
  ⟨(some 14), .mv (.t 13), none, true⟩,
  ⟨(some 15), .mv (.t 1), (some (14, false)), true⟩,
  ⟨(some 16), .call (.k (.fn 18 [])) [(.t 15)], (some (14, false)), true⟩,
  ⟨(some 17), .un .not (.t 16), (some (14, false)), true⟩,
  ⟨(some 18), .pick (.t 14) (.k (.c (.bool true))) (.t 17), none, true⟩]
@[reducible] def o4_2 : List Ins := [⟨(some 19), .call (.k (.fn 19 [])) [], none, true⟩,
  ⟨(some 4), .mv (.t 19), none, true⟩]
@[reducible] def v4_3 : VC := (.seq (.ops o4_2) .ret)
@[reducible] def v4_4 : VC := (.cond (.t 18) v4_3 .skip)
@[reducible] def o4_5 : List Ins := [⟨(some 21), .ld false 5 (.t 2), none, true⟩,
  ⟨(some 22), .mv (.t 1), none, true⟩,
  ⟨(some 23), .call (.k (.fn 21 [])) [(.t 21), (.t 22)], none, true⟩,
  ⟨(some 20), .mv (.t 23), none, true⟩,
  ⟨(some 24), .ext (.t 20) 0, none, true⟩,
  ⟨(some 25), .ext (.t 20) 1, none, true⟩,
  ⟨(some 5), .alloc [(.c (.int .i64 0)), (.c (.int .i64 0)), (.c (.int .i64 0))], none, true⟩,
  ⟨none, .st 3 (.t 5) (.t 24), none, true⟩,
  ⟨(some 6), .mv (.t 25), none, true⟩]
@[reducible] def o4_6 : List Ins := [⟨(some 27), .ld false 5 (.t 2), none, true⟩,
  ⟨(some 28), .call (.k (.fn 22 [])) [(.t 27)], none, true⟩,
  ⟨(some 26), .mv (.t 28), none, true⟩,
  ⟨(some 29), .ext (.t 26) 0, none, true⟩,
  ⟨(some 30), .ext (.t 26) 1, none, true⟩,
  ⟨(some 7), .mv (.t 29), none, true⟩,
  ⟨(some 8), .mv (.t 30), none, true⟩]
@[reducible] def o4_7 : List Ins := [⟨(some 31), .mv (.t 6), none, true⟩,
  ⟨(some 32), .bin .neq (.t 31) (.k (.c (.int .i64 0))), none, true⟩,
  ⟨(some 33), .mv (.t 32), none, true⟩,
  ⟨(some 34), .mv (.t 8), (some (33, false)), true⟩,
  ⟨(some 35), .bin .neq (.t 34) (.k (.c (.int .i64 0))), (some (33, false)), true⟩,
  ⟨(some 36), .pick (.t 33) (.k (.c (.bool true))) (.t 35), none, true⟩,
  ⟨(some 37), .mv (.t 36), none, true⟩,
  ⟨(some 38), .ld false 5 (.t 2), (some (37, false)), true⟩,
  ⟨(some 39), .mv (.t 7), (some (37, false)), true⟩,
  ⟨(some 40), .call (.k (.fn 23 [])) [(.t 38), (.t 39)], (some (37, false)), true⟩,
  ⟨(some 41), .un .not (.t 40), (some (37, false)), true⟩,
  ⟨(some 42), .pick (.t 37) (.k (.c (.bool true))) (.t 41), none, true⟩,
  ⟨(some 43), .mv (.t 42), none, true⟩,
  ⟨(some 44), .fa 0 (.t 5), (some (43, false)), true⟩,
  ⟨(some 45), .ld true 1 (.t 44), (some (43, false)), true⟩,
  ⟨(some 46), .bin .lss (.t 45) (.k (.c (.int .i64 0))), (some (43, false)), true⟩,
  ⟨(some 47), .pick (.t 43) (.k (.c (.bool true))) (.t 46), none, true⟩,
  ⟨(some 48), .mv (.t 47), none, true⟩,
  ⟨(some 49), .fa 0 (.t 5), (some (48, false)), true⟩,
  ⟨(some 50), .ld true 1 (.t 49), (some (48, false)), true⟩,
  ⟨(some 51), .fa 0 (.t 2), (some (48, false)), true⟩,
  ⟨(some 52), .ld true 1 (.t 51), (some (48, false)), true⟩,
  ⟨(some 53), .len (.t 52), (some (48, false)), true⟩,
  ⟨(some 54), .bin .geq (.t 50) (.t 53), (some (48, false)), true⟩,
  ⟨(some 55), .pick (.t 48) (.k (.c (.bool true))) (.t 54), none, true⟩,
  ⟨(some 56), .mv (.t 55), none, true⟩,
  ⟨(some 57), .fa 1 (.t 5), (some (56, false)), true⟩,
  ⟨(some 58), .ld true 1 (.t 57), (some (56, false)), true⟩,
  ⟨(some 59), .bin .neq (.t 58) (.k (.c (.int .i64 1))), (some (56, false)), true⟩,
  ⟨(some 60), .mv (.t 59), (some (56, false)), true⟩,
  ⟨(some 61), .fa 1 (.t 5), (some (60, true)), true⟩,
  ⟨(some 62), .ld true 1 (.t 61), (some (60, true)), true⟩,
  ⟨(some 63), .bin .neq (.t 62) (.k (.c (.int .i64 (-1)))), (some (60, true)), true⟩,
  ⟨(some 64), .pick (.t 60) (.t 63) (.k (.c (.bool false))), (some (56, false)), true⟩,
  ⟨(some 65), .pick (.t 56) (.k (.c (.bool true))) (.t 64), none, true⟩]
@[reducible] def o4_8 : List Ins := [⟨(some 4), .mv (.k (.c (.bool false))), none, true⟩]
@[reducible] def v4_9 : VC := (.seq (.ops o4_8) .ret)
@[reducible] def v4_10 : VC := (.cond (.t 65) v4_9 .skip)
@[reducible] def o4_11 : List Ins := [⟨(some 9), .mv (.k (.c (.int .i64 (-1)))), none, true⟩]
@[reducible] def o4_12 : List Ins := [⟨(some 10), .mv (.k (.c (.int .i64 0))), none, true⟩]
@[reducible] def o4_13 : List Ins := [⟨(some 66), .mv (.t 10), none, true⟩,
  ⟨(some 67), .mv (.t 7), none, true⟩,
  ⟨(some 68), .len (.t 67), none, true⟩,
  ⟨(some 69), .bin .lss (.t 66) (.t 68), none, true⟩]
@[reducible] def v4_14 : VC := (.cond (.t 69) .skip (.exit 0))
@[reducible] def o4_15 : List Ins := [⟨(some 72), .mv (.t 7), none, false⟩,
  ⟨(some 73), .mv (.t 10), none, false⟩,
  ⟨(some 74), .ia 2 (.t 72) (.t 73), none, false⟩,
  ⟨(some 75), .fa 1 (.t 74), none, false⟩,
  ⟨(some 76), .ld true 1 (.t 75), none, false⟩,
  ⟨(some 77), .mv (.t 1), none, false⟩,
  ⟨(some 78), .bin .leq (.t 76) (.t 77), none, true⟩,
  ⟨(some 79), .mv (.t 78), none, true⟩,
  ⟨(some 80), .mv (.t 1), (some (79, true)), false⟩,
  ⟨(some 81), .mv (.t 7), (some (79, true)), false⟩,
  ⟨(some 82), .mv (.t 10), (some (79, true)), false⟩,
  ⟨(some 83), .ia 2 (.t 81) (.t 82), (some (79, true)), false⟩,
  ⟨(some 84), .fa 1 (.t 83), (some (79, true)), false⟩,
  ⟨(some 85), .ld true 1 (.t 84), (some (79, true)), false⟩,
  ⟨(some 86), .ld false 5 (.t 2), (some (79, true)), false⟩,
  ⟨(some 87), .mv (.t 7), (some (79, true)), false⟩,
  ⟨(some 88), .mv (.t 10), (some (79, true)), false⟩,
  ⟨(some 89), .ia 2 (.t 87) (.t 88), (some (79, true)), false⟩,
  ⟨(some 90), .fa 0 (.t 89), (some (79, true)), false⟩,
  ⟨(some 91), .ld true 1 (.t 90), (some (79, true)), false⟩,
  ⟨(some 92), .call (.k (.fn 24 [])) [(.t 86), (.t 91)], (some (79, true)), false⟩,
  ⟨(some 93), .bin .add (.t 85) (.t 92), (some (79, true)), false⟩,
  ⟨(some 94), .bin .lss (.t 80) (.t 93), (some (79, true)), true⟩,
  ⟨(some 95), .pick (.t 79) (.t 94) (.k (.c (.bool false))), none, true⟩]
@[reducible] def o4_16 : List Ins := [⟨(some 96), .mv (.t 7), none, true⟩,
  ⟨(some 97), .mv (.t 10), none, true⟩,
  ⟨(some 98), .ia 2 (.t 96) (.t 97), none, true⟩,
  ⟨(some 99), .fa 0 (.t 98), none, true⟩,
  ⟨(some 100), .ld true 1 (.t 99), none, true⟩,
  ⟨(some 9), .mv (.t 100), none, true⟩]
@[reducible] def v4_17 : VC := (.cond (.t 95) (.ops o4_16) .skip)
@[reducible] def v4_18 : VC := (.seq (.ops o4_15) v4_17)
@[reducible] def o4_19 : List Ins := [⟨(some 70), .mv (.t 10), none, true⟩,
  ⟨(some 71), .bin .add (.t 70) (.k (.c (.int .i64 1))), none, true⟩,
  ⟨(some 10), .mv (.t 71), none, true⟩]
@[reducible] def v4_20 : VC := (.seq (.block 1 v4_18) (.ops o4_19))
@[reducible] def v4_21 : VC := (.seq (.seq (.ops o4_13) v4_14) v4_20)
-- K4_1: changed and kept: [10, 9]
@[reducible] def K4_1 : List Nat := [1, 2, 5, 7]
@[reducible] def v4_22 : VC := (.loop v4_21)
@[reducible] def v4_23 : VC := (.block 0 v4_22)
@[reducible] def o4_24 : List Ins := [⟨(some 101), .fa 2 (.t 5), none, true⟩,
  ⟨(some 102), .ld true 1 (.t 101), none, true⟩,
  ⟨(some 103), .mv (.t 9), none, true⟩,
  ⟨(some 104), .bin .eql (.t 102) (.t 103), none, true⟩,
  ⟨(some 105), .mv (.t 104), none, true⟩,
  ⟨(some 106), .mv (.t 9), (some (105, true)), true⟩,
  ⟨(some 107), .bin .lss (.t 106) (.k (.c (.int .i64 0))), (some (105, true)), true⟩,
  ⟨(some 108), .mv (.t 107), (some (105, true)), true⟩,
  ⟨(some 109), .fa 0 (.t 5), (some (108, false)), true⟩,
  ⟨(some 110), .ld true 1 (.t 109), (some (108, false)), true⟩,
  ⟨(some 111), .fa 1 (.t 5), (some (108, false)), true⟩,
  ⟨(some 112), .ld true 1 (.t 111), (some (108, false)), true⟩,
  ⟨(some 113), .call (.k (.fn 25 [])) [(.t 110), (.t 112)], (some (108, false)), true⟩,
  ⟨(some 114), .mv (.t 9), (some (108, false)), true⟩,
  ⟨(some 115), .bin .eql (.t 113) (.t 114), (some (108, false)), true⟩,
  ⟨(some 116), .pick (.t 108) (.k (.c (.bool true))) (.t 115), (some (105, true)), true⟩,
  ⟨(some 117), .pick (.t 105) (.t 116) (.k (.c (.bool false))), none, true⟩,
  ⟨(some 118), .mv (.t 117), none, true⟩,
  ⟨(some 119), .call (.k (.fn 19 [])) [], (some (118, true)), true⟩,
  ⟨(some 120), .pick (.t 118) (.t 119) (.k (.c (.bool false))), none, true⟩,
  ⟨(some 4), .mv (.t 120), none, true⟩]
@[reducible] def v4_25 : VC := (.seq (.ops o4_24) .ret)
@[reducible] def v4_26 : VC := (.seq (.seq (.ops o4_12) v4_23) v4_25)
@[reducible] def v4_27 : VC := (.seq (.ops o4_11) v4_26)
@[reducible] def v4_28 : VC := (.seq (.seq (.ops o4_7) v4_10) v4_27)
@[reducible] def v4_29 : VC := (.seq (.ops o4_6) v4_28)
@[reducible] def v4_30 : VC := (.seq (.ops o4_5) v4_29)
@[reducible] def v4_31 : VC := (.seq (.seq (.ops o4_1) v4_4) v4_30)
def ir4 : FC := ⟨2, 121, [.t 4], (.seq (.ops o4_0) v4_31)⟩
theorem c4 : compM Try.prog [] 4 = some ir4 := by kernel_rfl



theorem wayI_1 (up : Bool) : ((wayI up != 1) && (wayI up != -1)) = false := by cases up <;> rfl
theorem playing_take {t : Tray} {l : List Pr} {x : Int} {k : Nat} (h : k < l.length) : playing t (l.take (k + 1)) x = if l[k].time ≤ x ∧ x < l[k].time + secsI t l[k].side then l[k].side else playing t (l.take k) x := by
  rw [List.take_succ_eq_append_getElem h, playing_snoc]
set_option maxRecDepth 20000 in
set_option maxHeartbeats 8000000 in
theorem law4 (t : Tray) (x : Int) : FSpec Try.prog 4 [t.av, iv x] (.c (.bool true)) := by
  have hready := ready16 t
  have htime := ristime18 x
  by_cases hgo : t.ok = true ∧ isTime x = true
  rotate_left
  · have hb : (!t.ok || !isTime x) = true := by
      cases h1 : t.ok
      · rfl
      · cases h2 : isTime x
        · rfl
        · exact absurd ⟨h1, h2⟩ hgo
    refine FSpec_of c4 (Nat.le_refl _) (by decide) fun C hP hN hC hL => ?_
    simp only [ir4, Tray.av]
    (repeat ((first | refine WV_seq_ ?_ | refine WV_block ?_ | refine WV_ops ?_ | refine WV_skip ?_ | refine WV_exit ?_); (try simp only [go_sem, init_env', Nat.reduceEqDiff, Nat.reduceAdd, Nat.reduceMul, reduceIte, Nat.reduceLeDiff, Nat.reduceLT, Nat.reduceBEq, reduceCtorEq, hP, ]); (repeat (refine And.intro (by first | omega | (intros; simp_all; done) | (intros; simp_all; omega)) ?_))))
    (refine AS_pure (hready) rfl rfl rfl rfl rfl ?_; simp only [go_sem, init_env', Nat.reduceEqDiff, Nat.reduceAdd, Nat.reduceMul, reduceIte, Nat.reduceLeDiff, Nat.reduceLT, Nat.reduceBEq, reduceCtorEq, hP, Tray.av]; (repeat (refine And.intro (by first | omega | (intros; simp_all; done) | (intros; simp_all; omega)) ?_)); (repeat ((first | refine WV_seq_ ?_ | refine WV_block ?_ | refine WV_ops ?_ | refine WV_skip ?_ | refine WV_exit ?_); (try simp only [go_sem, init_env', Nat.reduceEqDiff, Nat.reduceAdd, Nat.reduceMul, reduceIte, Nat.reduceLeDiff, Nat.reduceLT, Nat.reduceBEq, reduceCtorEq, hP, Tray.av]); (repeat (refine And.intro (by first | omega | (intros; simp_all; done) | (intros; simp_all; omega)) ?_)))))
    (refine AG_pure (fun hG => htime) rfl (fun hG => by first | (simp only [go_sem, init_env', Nat.reduceEqDiff, Nat.reduceAdd, Nat.reduceMul, reduceIte, Nat.reduceLeDiff, Nat.reduceLT, Nat.reduceBEq, reduceCtorEq, hG]; done) | (simp only [go_sem, init_env', Nat.reduceEqDiff, Nat.reduceAdd, Nat.reduceMul, reduceIte, Nat.reduceLeDiff, Nat.reduceLT, Nat.reduceBEq, reduceCtorEq]; revert hG; simp; done) | (simp only [go_sem, init_env', Nat.reduceEqDiff, Nat.reduceAdd, Nat.reduceMul, reduceIte, Nat.reduceLeDiff, Nat.reduceLT, Nat.reduceBEq, reduceCtorEq, hG]; simp_all; done) | (revert hG; simp; done) | simp_all) rfl rfl rfl ?_; simp only [go_sem, init_env', Nat.reduceEqDiff, Nat.reduceAdd, Nat.reduceMul, reduceIte, Nat.reduceLeDiff, Nat.reduceLT, Nat.reduceBEq, reduceCtorEq, hP, hb]; (repeat (refine And.intro (by first | omega | (intros; simp_all; done) | (intros; simp_all; omega)) ?_)); (repeat ((first | refine WV_seq_ ?_ | refine WV_block ?_ | refine WV_ops ?_ | refine WV_skip ?_ | refine WV_exit ?_); (try simp only [go_sem, init_env', Nat.reduceEqDiff, Nat.reduceAdd, Nat.reduceMul, reduceIte, Nat.reduceLeDiff, Nat.reduceLT, Nat.reduceBEq, reduceCtorEq, hP, hb]); (repeat (refine And.intro (by first | omega | (intros; simp_all; done) | (intros; simp_all; omega)) ?_)))))
    (refine WV_cond rfl (fun h => ?_) (fun h => ?_))
    · (repeat ((first | refine WV_seq_ ?_ | refine WV_block ?_ | refine WV_ops ?_ | refine WV_skip ?_ | refine WV_exit ?_); (try simp only [go_sem, init_env', Nat.reduceEqDiff, Nat.reduceAdd, Nat.reduceMul, reduceIte, Nat.reduceLeDiff, Nat.reduceLT, Nat.reduceBEq, reduceCtorEq, hP, ]); (repeat (refine And.intro (by first | omega | (intros; simp_all; done) | (intros; simp_all; omega)) ?_))))
      (refine AS_pure (works19) rfl rfl rfl rfl rfl ?_; simp only [go_sem, init_env', Nat.reduceEqDiff, Nat.reduceAdd, Nat.reduceMul, reduceIte, Nat.reduceLeDiff, Nat.reduceLT, Nat.reduceBEq, reduceCtorEq, hP, ]; (repeat (refine And.intro (by first | omega | (intros; simp_all; done) | (intros; simp_all; omega)) ?_)); (repeat ((first | refine WV_seq_ ?_ | refine WV_block ?_ | refine WV_ops ?_ | refine WV_skip ?_ | refine WV_exit ?_); (try simp only [go_sem, init_env', Nat.reduceEqDiff, Nat.reduceAdd, Nat.reduceMul, reduceIte, Nat.reduceLeDiff, Nat.reduceLT, Nat.reduceBEq, reduceCtorEq, hP, ]); (repeat (refine And.intro (by first | omega | (intros; simp_all; done) | (intros; simp_all; omega)) ?_)))))
      (refine WV_ret ?_; simp only [thenQ, inQ, RetQ, RetOk, resAll, resA]; simp only [go_sem, init_env', Nat.reduceEqDiff, Nat.reduceAdd, Nat.reduceMul, reduceIte, Nat.reduceLeDiff, Nat.reduceLT, Nat.reduceBEq, reduceCtorEq, tupA, AV.port, AV.portL, exists_eq_left', ]; (first | exact AVle.of rfl | refine AVle.of ?_ | skip))
    · simp at h
  obtain ⟨hok, htm⟩ := hgo
  have ht := (Tray.ok_spec hok).1
  have hn6 := ht.n6
  have h13 := ht.p13
  have hx : 0 ≤ x ∧ x ≤ 9999 := by simpa [isTime, within] using htm
  rw [hok] at hready
  rw [htm] at htime
  have c1 := stand21 t x
  rw [show standR t x = (standV t x, 0) by unfold standR; rw [hok, htm]; rfl] at c1
  have c2 := plays22 t
  rw [show playsR t = (playsS t, 0) by unfold playsR; rw [hok]; rfl] at c2
  have hsane := run_sane ht (goes_ok ht)
  have c3 := sane23 ht (l := playsS t) hsane
  have hside : ∀ p ∈ playsS t, 0 ≤ p.side ∧ p.side < 2 * (t.n : Int) := hsane.side
  have htm2 : ∀ p ∈ playsS t, 0 ≤ p.time ∧ p.time ≤ 300000 := hsane.time
  have hlen : (playsS t).length ≤ 13 := plays_len ht
  obtain ⟨⟨k, up, hk, e1, e2, e3⟩, e4⟩ := stand_shows ht hx.1
  have cs4 := sideat25 k up (by omega)
  have hnl : t.recs.length = t.n := rfl
  generalize playsS t = L at *
  generalize standV t x = S at *
  obtain ⟨sa, sw, ss, sf⟩ := S
  simp only at e1 e2 e4
  subst e1 e2 e4
  simp only [spAv] at c1
  have d1 : decide ((k : Int) < 0) = false := by simp
  have d2 : decide ((t.n : Int) ≤ (k : Int)) = false := by simp; omega
  have d3 := wayI_1 up
  generalize hW : wayI up = W at *
  clear hsane
  refine FSpec_of c4 (Nat.le_refl _) (by decide) fun C hP hN hC hL => ?_
  simp only [ir4, Tray.av]
  (repeat ((first | refine WV_seq_ ?_ | refine WV_block ?_ | refine WV_ops ?_ | refine WV_skip ?_ | refine WV_exit ?_); (try simp only [go_sem, init_env', Nat.reduceEqDiff, Nat.reduceAdd, Nat.reduceMul, reduceIte, Nat.reduceLeDiff, Nat.reduceLT, Nat.reduceBEq, reduceCtorEq, hP, ]); (repeat (refine And.intro (by first | omega | (intros; simp_all; done) | (intros; simp_all; omega)) ?_))))
  (refine AS_pure (hready) rfl rfl rfl rfl rfl ?_; simp only [go_sem, init_env', Nat.reduceEqDiff, Nat.reduceAdd, Nat.reduceMul, reduceIte, Nat.reduceLeDiff, Nat.reduceLT, Nat.reduceBEq, reduceCtorEq, hP, Tray.av]; (repeat (refine And.intro (by first | omega | (intros; simp_all; done) | (intros; simp_all; omega)) ?_)); (repeat ((first | refine WV_seq_ ?_ | refine WV_block ?_ | refine WV_ops ?_ | refine WV_skip ?_ | refine WV_exit ?_); (try simp only [go_sem, init_env', Nat.reduceEqDiff, Nat.reduceAdd, Nat.reduceMul, reduceIte, Nat.reduceLeDiff, Nat.reduceLT, Nat.reduceBEq, reduceCtorEq, hP, Tray.av]); (repeat (refine And.intro (by first | omega | (intros; simp_all; done) | (intros; simp_all; omega)) ?_)))))
  (refine AG_pure (fun hG => htime) rfl (fun hG => by first | (simp only [go_sem, init_env', Nat.reduceEqDiff, Nat.reduceAdd, Nat.reduceMul, reduceIte, Nat.reduceLeDiff, Nat.reduceLT, Nat.reduceBEq, reduceCtorEq, hG]; done) | (simp only [go_sem, init_env', Nat.reduceEqDiff, Nat.reduceAdd, Nat.reduceMul, reduceIte, Nat.reduceLeDiff, Nat.reduceLT, Nat.reduceBEq, reduceCtorEq]; revert hG; simp; done) | (simp only [go_sem, init_env', Nat.reduceEqDiff, Nat.reduceAdd, Nat.reduceMul, reduceIte, Nat.reduceLeDiff, Nat.reduceLT, Nat.reduceBEq, reduceCtorEq, hG]; simp_all; done) | (revert hG; simp; done) | simp_all) rfl rfl rfl ?_; simp only [go_sem, init_env', Nat.reduceEqDiff, Nat.reduceAdd, Nat.reduceMul, reduceIte, Nat.reduceLeDiff, Nat.reduceLT, Nat.reduceBEq, reduceCtorEq, hP, ]; (repeat (refine And.intro (by first | omega | (intros; simp_all; done) | (intros; simp_all; omega)) ?_)); (repeat ((first | refine WV_seq_ ?_ | refine WV_block ?_ | refine WV_ops ?_ | refine WV_skip ?_ | refine WV_exit ?_); (try simp only [go_sem, init_env', Nat.reduceEqDiff, Nat.reduceAdd, Nat.reduceMul, reduceIte, Nat.reduceLeDiff, Nat.reduceLT, Nat.reduceBEq, reduceCtorEq, hP, ]); (repeat (refine And.intro (by first | omega | (intros; simp_all; done) | (intros; simp_all; omega)) ?_)))))
  (refine WV_cond rfl (fun h => ?_) (fun h => ?_))
  · simp at h
  (repeat ((first | refine WV_seq_ ?_ | refine WV_block ?_ | refine WV_ops ?_ | refine WV_skip ?_ | refine WV_exit ?_); (try simp only [go_sem, init_env', Nat.reduceEqDiff, Nat.reduceAdd, Nat.reduceMul, reduceIte, Nat.reduceLeDiff, Nat.reduceLT, Nat.reduceBEq, reduceCtorEq, hP, ]); (repeat (refine And.intro (by first | omega | (intros; simp_all; done) | (intros; simp_all; omega)) ?_))))
  (refine AS_pure (c1) rfl rfl rfl rfl rfl ?_; simp only [go_sem, init_env', Nat.reduceEqDiff, Nat.reduceAdd, Nat.reduceMul, reduceIte, Nat.reduceLeDiff, Nat.reduceLT, Nat.reduceBEq, reduceCtorEq, hP, Tray.av]; (repeat (refine And.intro (by first | omega | (intros; simp_all; done) | (intros; simp_all; omega)) ?_)); (repeat ((first | refine WV_seq_ ?_ | refine WV_block ?_ | refine WV_ops ?_ | refine WV_skip ?_ | refine WV_exit ?_); (try simp only [go_sem, init_env', Nat.reduceEqDiff, Nat.reduceAdd, Nat.reduceMul, reduceIte, Nat.reduceLeDiff, Nat.reduceLT, Nat.reduceBEq, reduceCtorEq, hP, Tray.av]); (repeat (refine And.intro (by first | omega | (intros; simp_all; done) | (intros; simp_all; omega)) ?_)))))
  (refine AS_pure (c2) rfl rfl rfl rfl rfl ?_; simp only [go_sem, init_env', Nat.reduceEqDiff, Nat.reduceAdd, Nat.reduceMul, reduceIte, Nat.reduceLeDiff, Nat.reduceLT, Nat.reduceBEq, reduceCtorEq, hP, Tray.av, bne_self_eq_false]; (repeat (refine And.intro (by first | omega | (intros; simp_all; done) | (intros; simp_all; omega)) ?_)); (repeat ((first | refine WV_seq_ ?_ | refine WV_block ?_ | refine WV_ops ?_ | refine WV_skip ?_ | refine WV_exit ?_); (try simp only [go_sem, init_env', Nat.reduceEqDiff, Nat.reduceAdd, Nat.reduceMul, reduceIte, Nat.reduceLeDiff, Nat.reduceLT, Nat.reduceBEq, reduceCtorEq, hP, Tray.av, bne_self_eq_false]); (repeat (refine And.intro (by first | omega | (intros; simp_all; done) | (intros; simp_all; omega)) ?_)))))
  (refine AG_pure (fun hG => c3) rfl (fun hG => by first | (simp only [go_sem, init_env', Nat.reduceEqDiff, Nat.reduceAdd, Nat.reduceMul, reduceIte, Nat.reduceLeDiff, Nat.reduceLT, Nat.reduceBEq, reduceCtorEq, hG]; done) | (simp only [go_sem, init_env', Nat.reduceEqDiff, Nat.reduceAdd, Nat.reduceMul, reduceIte, Nat.reduceLeDiff, Nat.reduceLT, Nat.reduceBEq, reduceCtorEq]; revert hG; simp; done) | (simp only [go_sem, init_env', Nat.reduceEqDiff, Nat.reduceAdd, Nat.reduceMul, reduceIte, Nat.reduceLeDiff, Nat.reduceLT, Nat.reduceBEq, reduceCtorEq, hG]; simp_all; done) | (revert hG; simp; done) | simp_all) rfl rfl rfl ?_; simp only [go_sem, init_env', Nat.reduceEqDiff, Nat.reduceAdd, Nat.reduceMul, reduceIte, Nat.reduceLeDiff, Nat.reduceLT, Nat.reduceBEq, reduceCtorEq, hP, Tray.av, recsC, List.length_map, hnl, d1, d2, d3]; (repeat (refine And.intro (by first | omega | (intros; simp_all; done) | (intros; simp_all; omega)) ?_)); (repeat ((first | refine WV_seq_ ?_ | refine WV_block ?_ | refine WV_ops ?_ | refine WV_skip ?_ | refine WV_exit ?_); (try simp only [go_sem, init_env', Nat.reduceEqDiff, Nat.reduceAdd, Nat.reduceMul, reduceIte, Nat.reduceLeDiff, Nat.reduceLT, Nat.reduceBEq, reduceCtorEq, hP, Tray.av, recsC, List.length_map, hnl, d1, d2, d3]); (repeat (refine And.intro (by first | omega | (intros; simp_all; done) | (intros; simp_all; omega)) ?_)))))
  (refine WV_cond rfl (fun h => ?_) (fun h => ?_))
  · simp at h
  (repeat ((first | refine WV_seq_ ?_ | refine WV_block ?_ | refine WV_ops ?_ | refine WV_skip ?_ | refine WV_exit ?_); (try simp only [go_sem, init_env', Nat.reduceEqDiff, Nat.reduceAdd, Nat.reduceMul, reduceIte, Nat.reduceLeDiff, Nat.reduceLT, Nat.reduceBEq, reduceCtorEq, hP, ]); (repeat (refine And.intro (by first | omega | (intros; simp_all; done) | (intros; simp_all; omega)) ?_))))
  refine WV_loopK K4_1 [] (fun k : Nat => k ≤ L.length) (fun k => L.length - k) (fun k => [(10, iv k), (9, iv (playing t (L.take k) x))]) (fun _ => []) 0 (Nat.zero_le _) ?_ ?_
  · (refine Sub_of (by simp only [go_sem, init_env', Nat.reduceEqDiff, Nat.reduceAdd, Nat.reduceMul, reduceIte, Nat.reduceLeDiff, Nat.reduceLT, Nat.reduceBEq, reduceCtorEq]; ((repeat' (first | exact EnvLe_e0 _ _ | refine EnvLe_upd ?_ ?_)) <;> ((try simp only [upd_app, e0_app, o0_app, Nat.reduceEqDiff, reduceIte]); first | exact AWk.refl _ _ | exact AWk.int (by omega) | exact AWk.int (by rw [w64 (by omega) (by omega)]; omega) | exact AWk.grow rfl | exact AWk.nil _ | exact AWk.of (by simp [playing])))) (by simp only [go_sem, init_env', Nat.reduceEqDiff, Nat.reduceAdd, Nat.reduceMul, reduceIte, Nat.reduceLeDiff, Nat.reduceLT, Nat.reduceBEq, reduceCtorEq]; ((repeat' (first | exact ObjLe_o0 _ | exact ObjLe.rfl' _ | refine ObjLe_same ?_ | refine ObjLe_upd ?_ ?_ | refine ObjLe_new rfl ?_)) <;> rfl)))
  · intro i hi
    simp only [go_sem, init_env', Nat.reduceEqDiff, Nat.reduceAdd, Nat.reduceMul, reduceIte, Nat.reduceLeDiff, Nat.reduceLT, Nat.reduceBEq, reduceCtorEq]
    (repeat ((first | refine WV_seq_ ?_ | refine WV_block ?_ | refine WV_ops ?_ | refine WV_skip ?_ | refine WV_exit ?_); (try simp only [go_sem, init_env', Nat.reduceEqDiff, Nat.reduceAdd, Nat.reduceMul, reduceIte, Nat.reduceLeDiff, Nat.reduceLT, Nat.reduceBEq, reduceCtorEq, hP, prsC, List.length_map]); (repeat (refine And.intro (by first | omega | (intros; simp_all; done) | (intros; simp_all; omega)) ?_))))
    (refine WV_cond rfl (fun h => ?_) (fun h => ?_))
    · have hil : i < L.length := by simpa using h
      have hI : (i : Int) < (L.length : Int) := by omega
      have hw2 := w64 (n := (i : Int) + 1) (by omega) (by omega)
      have h1 := hside _ (List.getElem_mem hil)
      have h2 := htm2 _ (List.getElem_mem hil)
      have hpt := playing_take (t := t) (x := x) hil
      obtain ⟨sn, hsn⟩ := Int.eq_ofNat_of_zero_le h1.1
      have hse := secs24 t sn (by omega) (by omega)
      have hso := secs_ok ht (s := sn) (by omega)
      rw [show secsI t L[i].side = secs t sn by unfold secsI; rw [hsn, Int.toNat_natCast]] at hpt
      have hw3 := w64 (n := L[i].time + secs t sn) (by omega) (by omega)
      have g1 : (L.map Pr.cds).getD i [] = [.int .i64 sn, .int .i64 L[i].time] := by rw [map_getD hil, Pr.cds, hsn]
      rw [hsn] at hpt
      generalize L[i].time = T0 at *
      generalize secs t sn = SC at *
      generalize hP1 : playing t (L.take (i + 1)) x = P1 at *
      generalize playing t (L.take i) x = P0 at *
      (repeat ((first | refine WV_seq_ ?_ | refine WV_block ?_ | refine WV_ops ?_ | refine WV_skip ?_ | refine WV_exit ?_); (try simp only [go_sem, init_env', Nat.reduceEqDiff, Nat.reduceAdd, Nat.reduceMul, reduceIte, Nat.reduceLeDiff, Nat.reduceLT, Nat.reduceBEq, reduceCtorEq, hP, prsC, g1, hI, List.length_map, Int.natCast_nonneg]); (repeat (refine And.intro (by first | omega | (intros; simp_all; done) | (intros; simp_all; omega)) ?_))))
      refine ACallG_of (fun _ => hse) rfl (fun hG => by first | rfl | simp only [go_sem, init_env', Nat.reduceEqDiff, Nat.reduceAdd, Nat.reduceMul, reduceIte, Nat.reduceLeDiff, Nat.reduceLT, Nat.reduceBEq, reduceCtorEq, hG]) rfl rfl rfl ?_
      simp only [go_sem, init_env', Nat.reduceEqDiff, Nat.reduceAdd, Nat.reduceMul, reduceIte, Nat.reduceLeDiff, Nat.reduceLT, Nat.reduceBEq, reduceCtorEq, hP, hw3, prsC, g1, hI, List.length_map, Int.natCast_nonneg]
      (repeat (refine And.intro (by first | omega | (intros; simp_all; done) | (intros; simp_all; omega)) ?_))
      (repeat ((first | refine WV_seq_ ?_ | refine WV_block ?_ | refine WV_ops ?_ | refine WV_skip ?_ | refine WV_exit ?_); (try simp only [go_sem, init_env', Nat.reduceEqDiff, Nat.reduceAdd, Nat.reduceMul, reduceIte, Nat.reduceLeDiff, Nat.reduceLT, Nat.reduceBEq, reduceCtorEq, hP, ]); (repeat (refine And.intro (by first | omega | (intros; simp_all; done) | (intros; simp_all; omega)) ?_))))
      by_cases hc : T0 ≤ x ∧ x < T0 + SC
      · rw [if_pos hc] at hpt
        have hb : (decide (T0 ≤ x) && decide (x < T0 + SC)) = true := by simpa using hc
        rw [hb]
        (refine WV_cond rfl (fun h => ?_) (fun h => ?_))
        · (repeat ((first | refine WV_seq_ ?_ | refine WV_block ?_ | refine WV_ops ?_ | refine WV_skip ?_ | refine WV_exit ?_); (try simp only [go_sem, init_env', Nat.reduceEqDiff, Nat.reduceAdd, Nat.reduceMul, reduceIte, Nat.reduceLeDiff, Nat.reduceLT, Nat.reduceBEq, reduceCtorEq, hP, prsC, g1, hI, List.length_map, Int.natCast_nonneg, hw2]); (repeat (refine And.intro (by first | omega | (intros; simp_all; done) | (intros; simp_all; omega)) ?_))))
          refine ⟨i + 1, by omega, by omega, ?_⟩
          rw [hP1, hpt]
          (refine Sub_of (by simp only [go_sem, init_env', Nat.reduceEqDiff, Nat.reduceAdd, Nat.reduceMul, reduceIte, Nat.reduceLeDiff, Nat.reduceLT, Nat.reduceBEq, reduceCtorEq]; ((repeat' (first | exact EnvLe_e0 _ _ | refine EnvLe_upd ?_ ?_)) <;> ((try simp only [upd_app, e0_app, o0_app, Nat.reduceEqDiff, reduceIte]); first | exact AWk.refl _ _ | exact AWk.int (by omega) | exact AWk.int (by rw [w64 (by omega) (by omega)]; omega) | exact AWk.grow rfl | exact AWk.nil _ | exact AWk.of (by simp)))) (by simp only [go_sem, init_env', Nat.reduceEqDiff, Nat.reduceAdd, Nat.reduceMul, reduceIte, Nat.reduceLeDiff, Nat.reduceLT, Nat.reduceBEq, reduceCtorEq]; ((repeat' (first | exact ObjLe_o0 _ | exact ObjLe.rfl' _ | refine ObjLe_same ?_ | refine ObjLe_upd ?_ ?_ | refine ObjLe_new rfl ?_)) <;> rfl)))
        · simp at h
      · rw [if_neg hc] at hpt
        have hb : (decide (T0 ≤ x) && decide (x < T0 + SC)) = false := by simpa using hc
        rw [hb]
        (refine WV_cond rfl (fun h => ?_) (fun h => ?_))
        · simp at h
        · (repeat ((first | refine WV_seq_ ?_ | refine WV_block ?_ | refine WV_ops ?_ | refine WV_skip ?_ | refine WV_exit ?_); (try simp only [go_sem, init_env', Nat.reduceEqDiff, Nat.reduceAdd, Nat.reduceMul, reduceIte, Nat.reduceLeDiff, Nat.reduceLT, Nat.reduceBEq, reduceCtorEq, hP, hw2]); (repeat (refine And.intro (by first | omega | (intros; simp_all; done) | (intros; simp_all; omega)) ?_))))
          refine ⟨i + 1, by omega, by omega, ?_⟩
          rw [hP1, hpt]
          (refine Sub_of (by simp only [go_sem, init_env', Nat.reduceEqDiff, Nat.reduceAdd, Nat.reduceMul, reduceIte, Nat.reduceLeDiff, Nat.reduceLT, Nat.reduceBEq, reduceCtorEq]; ((repeat' (first | exact EnvLe_e0 _ _ | refine EnvLe_upd ?_ ?_)) <;> ((try simp only [upd_app, e0_app, o0_app, Nat.reduceEqDiff, reduceIte]); first | exact AWk.refl _ _ | exact AWk.int (by omega) | exact AWk.int (by rw [w64 (by omega) (by omega)]; omega) | exact AWk.grow rfl | exact AWk.nil _ | exact AWk.of (by simp)))) (by simp only [go_sem, init_env', Nat.reduceEqDiff, Nat.reduceAdd, Nat.reduceMul, reduceIte, Nat.reduceLeDiff, Nat.reduceLT, Nat.reduceBEq, reduceCtorEq]; ((repeat' (first | exact ObjLe_o0 _ | exact ObjLe.rfl' _ | refine ObjLe_same ?_ | refine ObjLe_upd ?_ ?_ | refine ObjLe_new rfl ?_)) <;> rfl)))
    · have h : i = L.length := by simp at h; omega
      subst h
      rw [List.take_length]
      (refine WV_exit ?_; simp only [go_sem, init_env', Nat.reduceEqDiff, Nat.reduceAdd, Nat.reduceMul, reduceIte, Nat.reduceLeDiff, Nat.reduceLT, Nat.reduceBEq, reduceCtorEq])
      rcases e3 with e3 | e3
      · rw [e3] at c1 ⊢
        have d4 : decide ((-1 : Int) < 0) = true := by decide
        (repeat ((first | refine WV_seq_ ?_ | refine WV_block ?_ | refine WV_ops ?_ | refine WV_skip ?_ | refine WV_exit ?_); (try simp only [go_sem, init_env', Nat.reduceEqDiff, Nat.reduceAdd, Nat.reduceMul, reduceIte, Nat.reduceLeDiff, Nat.reduceLT, Nat.reduceBEq, reduceCtorEq, hP, beq_self_eq_true, d4, Bool.not_true]); (repeat (refine And.intro (by first | omega | (intros; simp_all; done) | (intros; simp_all; omega)) ?_))))
        (refine AG_skip ?_; simp only [go_sem, init_env', Nat.reduceEqDiff, Nat.reduceAdd, Nat.reduceMul, reduceIte, Nat.reduceLeDiff, Nat.reduceLT, Nat.reduceBEq, reduceCtorEq, hP, ]; (repeat (refine And.intro (by first | omega | (intros; simp_all; done) | (intros; simp_all; omega)) ?_)); (repeat ((first | refine WV_seq_ ?_ | refine WV_block ?_ | refine WV_ops ?_ | refine WV_skip ?_ | refine WV_exit ?_); (try simp only [go_sem, init_env', Nat.reduceEqDiff, Nat.reduceAdd, Nat.reduceMul, reduceIte, Nat.reduceLeDiff, Nat.reduceLT, Nat.reduceBEq, reduceCtorEq, hP, ]); (repeat (refine And.intro (by first | omega | (intros; simp_all; done) | (intros; simp_all; omega)) ?_)))))
        (refine AG_pure (fun hG => works19) rfl (fun hG => by first | (simp only [go_sem, init_env', Nat.reduceEqDiff, Nat.reduceAdd, Nat.reduceMul, reduceIte, Nat.reduceLeDiff, Nat.reduceLT, Nat.reduceBEq, reduceCtorEq, hG]; done) | (simp only [go_sem, init_env', Nat.reduceEqDiff, Nat.reduceAdd, Nat.reduceMul, reduceIte, Nat.reduceLeDiff, Nat.reduceLT, Nat.reduceBEq, reduceCtorEq]; revert hG; simp; done) | (simp only [go_sem, init_env', Nat.reduceEqDiff, Nat.reduceAdd, Nat.reduceMul, reduceIte, Nat.reduceLeDiff, Nat.reduceLT, Nat.reduceBEq, reduceCtorEq, hG]; simp_all; done) | (revert hG; simp; done) | simp_all) rfl rfl rfl ?_; simp only [go_sem, init_env', Nat.reduceEqDiff, Nat.reduceAdd, Nat.reduceMul, reduceIte, Nat.reduceLeDiff, Nat.reduceLT, Nat.reduceBEq, reduceCtorEq, hP, ]; (repeat (refine And.intro (by first | omega | (intros; simp_all; done) | (intros; simp_all; omega)) ?_)); (repeat ((first | refine WV_seq_ ?_ | refine WV_block ?_ | refine WV_ops ?_ | refine WV_skip ?_ | refine WV_exit ?_); (try simp only [go_sem, init_env', Nat.reduceEqDiff, Nat.reduceAdd, Nat.reduceMul, reduceIte, Nat.reduceLeDiff, Nat.reduceLT, Nat.reduceBEq, reduceCtorEq, hP, ]); (repeat (refine And.intro (by first | omega | (intros; simp_all; done) | (intros; simp_all; omega)) ?_)))))
        (refine WV_ret ?_; simp only [thenQ, inQ, RetQ, RetOk, resAll, resA]; simp only [go_sem, init_env', Nat.reduceEqDiff, Nat.reduceAdd, Nat.reduceMul, reduceIte, Nat.reduceLeDiff, Nat.reduceLT, Nat.reduceBEq, reduceCtorEq, tupA, AV.port, AV.portL, exists_eq_left', ]; (first | exact AVle.of rfl | refine AVle.of ?_ | skip))
      · rw [e3] at c1 ⊢
        have d4 : decide (((sideAt k up : Nat) : Int) < 0) = false := by simp
        (repeat ((first | refine WV_seq_ ?_ | refine WV_block ?_ | refine WV_ops ?_ | refine WV_skip ?_ | refine WV_exit ?_); (try simp only [go_sem, init_env', Nat.reduceEqDiff, Nat.reduceAdd, Nat.reduceMul, reduceIte, Nat.reduceLeDiff, Nat.reduceLT, Nat.reduceBEq, reduceCtorEq, hP, beq_self_eq_true, d4]); (repeat (refine And.intro (by first | omega | (intros; simp_all; done) | (intros; simp_all; omega)) ?_))))
        (refine AG_pure (fun hG => cs4) rfl (fun hG => by first | (simp only [go_sem, init_env', Nat.reduceEqDiff, Nat.reduceAdd, Nat.reduceMul, reduceIte, Nat.reduceLeDiff, Nat.reduceLT, Nat.reduceBEq, reduceCtorEq, hG]; done) | (simp only [go_sem, init_env', Nat.reduceEqDiff, Nat.reduceAdd, Nat.reduceMul, reduceIte, Nat.reduceLeDiff, Nat.reduceLT, Nat.reduceBEq, reduceCtorEq]; revert hG; simp; done) | (simp only [go_sem, init_env', Nat.reduceEqDiff, Nat.reduceAdd, Nat.reduceMul, reduceIte, Nat.reduceLeDiff, Nat.reduceLT, Nat.reduceBEq, reduceCtorEq, hG]; simp_all; done) | (revert hG; simp; done) | simp_all) rfl rfl rfl ?_; simp only [go_sem, init_env', Nat.reduceEqDiff, Nat.reduceAdd, Nat.reduceMul, reduceIte, Nat.reduceLeDiff, Nat.reduceLT, Nat.reduceBEq, reduceCtorEq, hP, beq_self_eq_true]; (repeat (refine And.intro (by first | omega | (intros; simp_all; done) | (intros; simp_all; omega)) ?_)); (repeat ((first | refine WV_seq_ ?_ | refine WV_block ?_ | refine WV_ops ?_ | refine WV_skip ?_ | refine WV_exit ?_); (try simp only [go_sem, init_env', Nat.reduceEqDiff, Nat.reduceAdd, Nat.reduceMul, reduceIte, Nat.reduceLeDiff, Nat.reduceLT, Nat.reduceBEq, reduceCtorEq, hP, beq_self_eq_true]); (repeat (refine And.intro (by first | omega | (intros; simp_all; done) | (intros; simp_all; omega)) ?_)))))
        (refine AG_pure (fun hG => works19) rfl (fun hG => by first | (simp only [go_sem, init_env', Nat.reduceEqDiff, Nat.reduceAdd, Nat.reduceMul, reduceIte, Nat.reduceLeDiff, Nat.reduceLT, Nat.reduceBEq, reduceCtorEq, hG]; done) | (simp only [go_sem, init_env', Nat.reduceEqDiff, Nat.reduceAdd, Nat.reduceMul, reduceIte, Nat.reduceLeDiff, Nat.reduceLT, Nat.reduceBEq, reduceCtorEq]; revert hG; simp; done) | (simp only [go_sem, init_env', Nat.reduceEqDiff, Nat.reduceAdd, Nat.reduceMul, reduceIte, Nat.reduceLeDiff, Nat.reduceLT, Nat.reduceBEq, reduceCtorEq, hG]; simp_all; done) | (revert hG; simp; done) | simp_all) rfl rfl rfl ?_; simp only [go_sem, init_env', Nat.reduceEqDiff, Nat.reduceAdd, Nat.reduceMul, reduceIte, Nat.reduceLeDiff, Nat.reduceLT, Nat.reduceBEq, reduceCtorEq, hP, ]; (repeat (refine And.intro (by first | omega | (intros; simp_all; done) | (intros; simp_all; omega)) ?_)); (repeat ((first | refine WV_seq_ ?_ | refine WV_block ?_ | refine WV_ops ?_ | refine WV_skip ?_ | refine WV_exit ?_); (try simp only [go_sem, init_env', Nat.reduceEqDiff, Nat.reduceAdd, Nat.reduceMul, reduceIte, Nat.reduceLeDiff, Nat.reduceLT, Nat.reduceBEq, reduceCtorEq, hP, ]); (repeat (refine And.intro (by first | omega | (intros; simp_all; done) | (intros; simp_all; omega)) ?_)))))
        (refine WV_ret ?_; simp only [thenQ, inQ, RetQ, RetOk, resAll, resA]; simp only [go_sem, init_env', Nat.reduceEqDiff, Nat.reduceAdd, Nat.reduceMul, reduceIte, Nat.reduceLeDiff, Nat.reduceLT, Nat.reduceBEq, reduceCtorEq, tupA, AV.port, AV.portL, exists_eq_left', ]; (first | exact AVle.of rfl | refine AVle.of ?_ | skip))
end Go.Proofs.Ytkpgpgaojjobgaa
