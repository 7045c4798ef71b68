/-
  Contracts of the layer's functions, of the laws' helpers and of the law; conditions: as each theorem states.
-/
import Derived.Test.YtkpgpgaojjobgaaU4
set_option linter.unusedVariables false
set_option linter.unusedSimpArgs false
namespace Go.Proofs.Ytkpgpgaojjobgaa
open Go Go.V
@[reducible] def o86_0 : List Ins := [⟨(some 4), .mv (.k (.c (.int .i64 0))), none, true⟩]
@[reducible] def o86_1 : List Ins := [⟨(some 6), .mv (.t 0), none, true⟩,
  ⟨(some 7), .len (.t 6), none, true⟩,
  ⟨(some 8), .mv (.k (.c (.int .i64 0))), none, true⟩]
@[reducible] def o86_2 : List Ins := [⟨(some 9), .bin .lss (.t 8) (.t 7), none, true⟩]
@[reducible] def o86_3 : List Ins := [⟨(some 10), .mv (.t 8), none, true⟩,
  ⟨(some 5), .mv (.t 10), none, true⟩]
@[reducible] def o86_4 : List Ins := [⟨(some 11), .mv (.t 1), none, true⟩,
  ⟨(some 12), .mv (.t 0), none, true⟩,
  ⟨(some 13), .mv (.t 5), none, true⟩,
  ⟨(some 14), .ia 1 (.t 12) (.t 13), none, true⟩,
  ⟨(some 15), .ld true 1 (.t 14), none, true⟩,
  ⟨(some 16), .bin .eql (.t 11) (.t 15), none, true⟩]
@[reducible] def o86_5 : List Ins := [⟨(some 17), .mv (.t 5), none, true⟩,
  ⟨(some 4), .mv (.t 17), none, true⟩]
@[reducible] def v86_6 : VC := (.seq (.ops o86_5) .ret)
@[reducible] def v86_7 : VC := (.cond (.t 16) v86_6 .skip)
@[reducible] def v86_8 : VC := (.seq (.ops o86_4) v86_7)
@[reducible] def v86_9 : VC := (.seq (.ops o86_3) v86_8)
@[reducible] def o86_10 : List Ins := [⟨(some 18), .bin .add (.t 8) (.k (.c (.int .i64 1))), none, true⟩,
  ⟨(some 8), .mv (.t 18), none, true⟩]
@[reducible] def v86_11 : VC := (.seq (.block 1 v86_9) (.ops o86_10))
@[reducible] def v86_12 : VC := (.seq (.cond (.t 9) .skip (.exit 0)) v86_11)
@[reducible] def v86_13 : VC := (.seq (.ops o86_2) v86_12)
-- K86_1: changed and kept: [8]
@[reducible] def K86_1 : List Nat := [0, 1, 7]
@[reducible] def v86_14 : VC := (.loop v86_13)
@[reducible] def v86_15 : VC := (.block 0 v86_14)
@[reducible] def o86_16 : List Ins := [⟨(some 4), .mv (.k (.c (.int .i64 (-1)))), none, true⟩]
@[reducible] def v86_17 : VC := (.seq (.ops o86_16) .ret)
@[reducible] def v86_18 : VC := (.seq (.seq (.ops o86_1) v86_15) v86_17)
def ir86 : FC := ⟨2, 19, [.t 4], (.seq (.ops o86_0) v86_18)⟩
@[reducible] def o79_0 : List Ins := [⟨(some 2), .mv (.k (.c (.raw (.slice none 0 0)))), none, true⟩]
@[reducible] def o79_1 : List Ins := [⟨(some 3), .mv (.t 0), none, true⟩,
  ⟨(some 4), .nils false (.t 3), none, true⟩]
@[reducible] def o79_2 : List Ins := [⟨(some 2), .mv (.k (.c (.raw (.slice none 0 0)))), none, true⟩]
@[reducible] def v79_3 : VC := (.seq (.ops o79_2) .ret)
@[reducible] def v79_4 : VC := (.cond (.t 4) v79_3 .skip)
@[reducible] def o79_5 : List Ins := [⟨(some 5), .bsl 3 1 [], none, true⟩,
  ⟨(some 6), .mv (.t 0), none, true⟩,
  ⟨(some 7), .app 3 1 8 (.t 5) (.t 6), none, true⟩,
  ⟨(some 2), .mv (.t 7), none, true⟩]
@[reducible] def v79_6 : VC := (.seq (.ops o79_5) .ret)
@[reducible] def v79_7 : VC := (.seq (.seq (.ops o79_1) v79_4) v79_6)
def ir79 : FC := ⟨1, 8, [.t 2], (.seq (.ops o79_0) v79_7)⟩
@[reducible] def o78_0 : List Ins := [⟨(some 2), .box 5 (.t 0), none, true⟩,
  ⟨(some 4), .alloc [(.c (.raw (.slice none 0 0))), (.c (.int .i64 0)), (.c (.int .i64 0)), (.c (.int .i64 0)), (.c (.raw (.slice none 0 0)))], none, true⟩]
@[reducible] def o78_1 : List Ins := [⟨(some 10), .ld false 5 (.t 2), none, true⟩,
  ⟨(some 5), .alloc [(.c (.raw (.slice none 0 0))), (.c (.int .i64 0)), (.c (.int .i64 0)), (.c (.int .i64 0)), (.c (.raw (.slice none 0 0)))], none, true⟩,
  ⟨none, .st 5 (.t 5) (.t 10), none, true⟩]
@[reducible] def o78_2 : List Ins := [⟨(some 11), .fa 4 (.t 2), none, true⟩,
  ⟨(some 12), .ld true 1 (.t 11), none, true⟩,
  ⟨(some 13), .call (.k (.fn 56 [])) [(.t 12)], none, true⟩,
  ⟨(some 14), .fa 0 (.t 5), none, true⟩,
  ⟨none, .st 1 (.t 14) (.k (.c (.raw (.slice none 0 0)))), none, true⟩,
  ⟨(some 15), .fa 4 (.t 5), none, true⟩,
  ⟨none, .st 1 (.t 15) (.t 13), none, true⟩]
@[reducible] def o78_3 : List Ins := [⟨(some 16), .mv (.t 1), none, true⟩,
  ⟨(some 17), .len (.t 16), none, true⟩,
  ⟨(some 18), .mv (.k (.c (.int .i64 0))), none, true⟩]
@[reducible] def o78_4 : List Ins := [⟨(some 19), .bin .lss (.t 18) (.t 17), none, true⟩]
@[reducible] def o78_5 : List Ins := [⟨(some 20), .ia 1 (.t 16) (.t 18), none, true⟩,
  ⟨(some 21), .ld true 1 (.t 20), none, true⟩,
  ⟨(some 7), .mv (.t 21), none, true⟩]
@[reducible] def o78_6 : List Ins := [⟨(some 22), .fa 0 (.t 5), none, false⟩,
  ⟨(some 23), .ld true 1 (.t 22), none, false⟩,
  ⟨(some 24), .fa 0 (.t 2), none, false⟩,
  ⟨(some 25), .ld true 1 (.t 24), none, false⟩,
  ⟨(some 26), .mv (.t 7), none, false⟩,
  ⟨(some 27), .ia 2 (.t 25) (.t 26), none, false⟩,
  ⟨(some 28), .ld false 2 (.t 27), none, false⟩,
  ⟨(some 29), .bsl 56 2 [(.t 28)], none, false⟩,
  ⟨(some 30), .app 56 2 16 (.t 23) (.t 29), none, true⟩,
  ⟨(some 31), .fa 0 (.t 5), none, true⟩,
  ⟨none, .st 1 (.t 31) (.t 30), none, true⟩]
@[reducible] def v78_7 : VC := (.seq (.ops o78_5) (.ops o78_6))
@[reducible] def o78_8 : List Ins := [⟨(some 32), .bin .add (.t 18) (.k (.c (.int .i64 1))), none, true⟩,
  ⟨(some 18), .mv (.t 32), none, true⟩]
@[reducible] def v78_9 : VC := (.seq (.block 1 v78_7) (.ops o78_8))
@[reducible] def v78_10 : VC := (.seq (.cond (.t 19) .skip (.exit 0)) v78_9)
@[reducible] def v78_11 : VC := (.seq (.ops o78_4) v78_10)
-- K78_1: changed and kept: [18]
@[reducible] def K78_1 : List Nat := [1, 2, 4, 5, 16, 17]
@[reducible] def v78_12 : VC := (.loop v78_11)
@[reducible] def v78_13 : VC := (.block 0 v78_12)
@[reducible] def o78_14 : List Ins := [⟨(some 33), .fa 4 (.t 5), none, true⟩,
  ⟨(some 34), .ld true 1 (.t 33), none, true⟩,
  ⟨(some 35), .len (.t 34), none, true⟩,
  ⟨(some 36), .mv (.k (.c (.int .i64 0))), none, true⟩]
@[reducible] def o78_15 : List Ins := [⟨(some 37), .bin .lss (.t 36) (.t 35), none, true⟩]
@[reducible] def o78_16 : List Ins := [⟨(some 38), .mv (.t 36), none, true⟩,
  ⟨(some 39), .ia 2 (.t 34) (.t 36), none, true⟩,
  ⟨(some 40), .ld false 2 (.t 39), none, true⟩,
  ⟨(some 9), .alloc [(.c (.int .i64 0)), (.c (.int .i64 0))], none, true⟩,
  ⟨(some 8), .mv (.t 38), none, true⟩,
  ⟨none, .st 2 (.t 9) (.t 40), none, true⟩]
@[reducible] def o78_17 : List Ins := [⟨(some 41), .fa 4 (.t 5), none, false⟩,
  ⟨(some 42), .ld true 1 (.t 41), none, false⟩,
  ⟨(some 43), .mv (.t 8), none, false⟩,
  ⟨(some 44), .mv (.t 1), none, false⟩,
  ⟨(some 45), .fa 0 (.t 9), none, false⟩,
  ⟨(some 46), .ld true 1 (.t 45), none, false⟩,
  ⟨(some 47), .bin .quo (.t 46) (.k (.c (.int .i64 2))), none, false⟩,
  ⟨(some 48), .call (.k (.fn 86 [])) [(.t 44), (.t 47)], none, false⟩,
  ⟨(some 49), .bin .mul (.k (.c (.int .i64 2))) (.t 48), none, false⟩,
  ⟨(some 50), .fa 0 (.t 9), none, false⟩,
  ⟨(some 51), .ld true 1 (.t 50), none, false⟩,
  ⟨(some 52), .bin .rem (.t 51) (.k (.c (.int .i64 2))), none, false⟩,
  ⟨(some 53), .bin .add (.t 49) (.t 52), none, false⟩,
  ⟨(some 54), .ia 2 (.t 42) (.t 43), none, true⟩,
  ⟨(some 55), .fa 0 (.t 54), none, true⟩,
  ⟨none, .st 1 (.t 55) (.t 53), none, true⟩]
@[reducible] def v78_18 : VC := (.seq (.ops o78_16) (.ops o78_17))
@[reducible] def o78_19 : List Ins := [⟨(some 56), .bin .add (.t 36) (.k (.c (.int .i64 1))), none, true⟩,
  ⟨(some 36), .mv (.t 56), none, true⟩]
@[reducible] def v78_20 : VC := (.seq (.block 3 v78_18) (.ops o78_19))
@[reducible] def v78_21 : VC := (.seq (.cond (.t 37) .skip (.exit 2)) v78_20)
@[reducible] def v78_22 : VC := (.seq (.ops o78_15) v78_21)
-- K78_2: changed and kept: [36]
@[reducible] def K78_2 : List Nat := [1, 4, 5, 34, 35]
@[reducible] def v78_23 : VC := (.loop v78_22)
@[reducible] def v78_24 : VC := (.block 2 v78_23)
@[reducible] def o78_25 : List Ins := [⟨(some 57), .ld false 5 (.t 5), none, true⟩,
  ⟨none, .st 5 (.t 4) (.t 57), none, true⟩]
@[reducible] def v78_26 : VC := (.seq (.ops o78_25) .ret)
@[reducible] def v78_27 : VC := (.seq (.seq (.ops o78_14) v78_24) v78_26)
@[reducible] def v78_28 : VC := (.seq (.seq (.ops o78_3) v78_13) v78_27)
@[reducible] def v78_29 : VC := (.seq (.ops o78_2) v78_28)
@[reducible] def v78_30 : VC := (.seq (.ops o78_1) v78_29)
def ir78 : FC := ⟨2, 58, [.cell 4 false 5], (.seq (.ops o78_0) v78_30)⟩
theorem c86 : compM Try.prog [] 86 = some ir86 := by kernel_rfl
theorem c79 : compM Try.prog [] 79 = some ir79 := by kernel_rfl
theorem c78 : compM Try.prog [] 78 = some ir78 := by kernel_rfl



/-! ### Records in another order: plain -/
def IsOrd (n : Nat) (o : List Nat) : Prop := o.Perm (List.range n)
theorem IsOrd.len {n : Nat} {o : List Nat} (h : IsOrd n o) : o.length = n := by have := h.length_eq; simpa using this
theorem IsOrd.lt {n : Nat} {o : List Nat} (h : IsOrd n o) {k : Nat} (hk : k ∈ o) : k < n := List.mem_range.1 (h.mem_iff.1 hk)
theorem IsOrd.mem {n : Nat} {o : List Nat} (h : IsOrd n o) {k : Nat} (hk : k < n) : k ∈ o := h.mem_iff.2 (List.mem_range.2 hk)
/-- A press, when the records stand in another order. -/
def arrP (o : List Nat) (p : Pr) : Pr := ⟨2 * (o.idxOf (p.side.toNat / 2) : Int) + p.side % 2, p.time⟩
def arrT (t : Tray) (o : List Nat) : Tray := { t with recs := o.map t.rc, pres := t.pres.map (arrP o) }
theorem arrP_side {t : Tray} {o : List Nat} (ho : IsOrd t.n o) {p : Pr} (hp : 0 ≤ p.side ∧ p.side < 2 * (t.n : Int)) : o.idxOf (p.side.toNat / 2) < t.n ∧ p.side.toNat / 2 < t.n := by
  have h : p.side.toNat / 2 < t.n := by omega
  have := List.idxOf_lt_length_of_mem (ho.mem h)
  rw [ho.len] at this
  exact ⟨this, h⟩
theorem arr_ok {t : Tray} (ht : TrayOk t) {o : List Nat} (ho : IsOrd t.n o) : TrayOk (arrT t o) := by
  have hn : (arrT t o).n = t.n := by show (o.map t.rc).length = _; rw [List.length_map, ho.len]
  refine ⟨by rw [hn]; exact ht.n1, by rw [hn]; exact ht.n6, by rw [hn]; exact ht.at_, ht.way, ht.step, fun r hr => ?_, fun p hp => ?_, by show (t.pres.map _).length ≤ 13; rw [List.length_map]; exact ht.p13⟩
  · obtain ⟨k, hk, rfl⟩ := List.mem_map.1 hr
    exact rec_ok ht (ho.lt hk)
  · obtain ⟨q, hq, rfl⟩ := List.mem_map.1 hp
    have h1 := ht.pres q hq
    have h2 := arrP_side ho h1.1
    rw [hn]
    refine ⟨?_, h1.2⟩
    simp only [arrP]
    omega
theorem idx_step {o : List Nat} {m k : Nat} (h : k < o.length) : (o.drop k).idxOf m = if o[k] = m then 0 else (o.drop (k + 1)).idxOf m + 1 := by
  rw [List.drop_eq_getElem_cons h, List.idxOf_cons]
  by_cases e : o[k] = m
  · simp [e]
  · have : (o[k] == m) = false := by simpa using e
    rw [if_neg e, this]; rfl

set_option maxHeartbeats 4000000 in
theorem index86 (o : List Nat) (m : Nat) (ho : o.length ≤ 1000) (hm : m ∈ o) : FSpec Try.prog 86 [.c (natsC o), iv m] (iv (o.idxOf m)) := by
  refine FSpec_of c86 (Nat.le_refl _) (by decide) fun C hP hN hC hL => ?_
  simp only [ir86]
  (repeat ((first | refine WV_seq_ ?_ | refine WV_block ?_ | refine WV_ops ?_ | refine WV_skip ?_ | refine WV_exit ?_); (try simp only [go_sem, init_env', Nat.reduceEqDiff, Nat.reduceAdd, Nat.reduceMul, reduceIte, Nat.reduceLeDiff, Nat.reduceLT, Nat.reduceBEq, reduceCtorEq, hP, natsC, List.length_map]); (repeat (refine And.intro (by first | omega | (intros; simp_all; done) | (intros; simp_all; omega)) ?_))))
  (refine WV_loopK K86_1 [] (fun k : Nat => k ≤ o.length ∧ (o.idxOf m = k + (o.drop k).idxOf m ∧ m ∈ o.drop k)) (fun k => o.length - k) (fun k => [(8, iv k)]) (fun _ => []) 0 ⟨Nat.zero_le _, ⟨by simp, by simpa using hm⟩⟩ ?_ ?_)
  · (refine Sub_of (by simp only [go_sem, init_env', Nat.reduceEqDiff, Nat.reduceAdd, Nat.reduceMul, reduceIte, Nat.reduceLeDiff, Nat.reduceLT, Nat.reduceBEq, reduceCtorEq]; ((repeat' (first | exact EnvLe_e0 _ _ | refine EnvLe_upd ?_ ?_)) <;> ((try simp only [upd_app, e0_app, o0_app, Nat.reduceEqDiff, reduceIte]); first | exact AWk.refl _ _ | exact AWk.int (by omega) | exact AWk.int (by rw [w64 (by omega) (by omega)]; omega) | exact AWk.grow rfl | exact AWk.nil _ | exact AWk.of (by simp)))) (by simp only [go_sem, init_env', Nat.reduceEqDiff, Nat.reduceAdd, Nat.reduceMul, reduceIte, Nat.reduceLeDiff, Nat.reduceLT, Nat.reduceBEq, reduceCtorEq]; ((repeat' (first | exact ObjLe_o0 _ | exact ObjLe.rfl' _ | refine ObjLe_same ?_ | refine ObjLe_upd ?_ ?_ | refine ObjLe_new rfl ?_)) <;> rfl)))
  · intro k ⟨hk, hx, hmm⟩
    simp only [go_sem, init_env', Nat.reduceEqDiff, Nat.reduceAdd, Nat.reduceMul, reduceIte, Nat.reduceLeDiff, Nat.reduceLT, Nat.reduceBEq, reduceCtorEq]
    (repeat ((first | refine WV_seq_ ?_ | refine WV_block ?_ | refine WV_ops ?_ | refine WV_skip ?_ | refine WV_exit ?_); (try simp only [go_sem, init_env', Nat.reduceEqDiff, Nat.reduceAdd, Nat.reduceMul, reduceIte, Nat.reduceLeDiff, Nat.reduceLT, Nat.reduceBEq, reduceCtorEq, hP, ]); (repeat (refine And.intro (by first | omega | (intros; simp_all; done) | (intros; simp_all; omega)) ?_))))
    (refine WV_cond rfl (fun h => ?_) (fun h => ?_))
    · have h : k < o.length := by simpa using h
      have hI : (k : Int) < (o.length : Int) := by omega
      have hw2 := w64 (n := (k : Int) + 1) (by omega) (by omega)
      rw [idx_step h] at hx
      rw [List.drop_eq_getElem_cons h] at hmm
      (repeat ((first | refine WV_seq_ ?_ | refine WV_block ?_ | refine WV_ops ?_ | refine WV_skip ?_ | refine WV_exit ?_); (try simp only [go_sem, init_env', Nat.reduceEqDiff, Nat.reduceAdd, Nat.reduceMul, reduceIte, Nat.reduceLeDiff, Nat.reduceLT, Nat.reduceBEq, reduceCtorEq, hP, map_getD h, hI, List.length_map, ncd, Int.natCast_nonneg]); (repeat (refine And.intro (by first | omega | (intros; simp_all; done) | (intros; simp_all; omega)) ?_))))
      have hbe : ((m : Int) == ((o[k] : Nat) : Int)) = decide (o[k] = m) := by rw [Bool.eq_iff_iff]; simp; omega
      rw [hbe]
      by_cases hb : o[k] = m
      · rw [if_pos hb] at hx
        rw [decide_eq_true hb]
        (refine WV_cond rfl (fun h => ?_) (fun h => ?_))
        · (repeat ((first | refine WV_seq_ ?_ | refine WV_block ?_ | refine WV_ops ?_ | refine WV_skip ?_ | refine WV_exit ?_); (try simp only [go_sem, init_env', Nat.reduceEqDiff, Nat.reduceAdd, Nat.reduceMul, reduceIte, Nat.reduceLeDiff, Nat.reduceLT, Nat.reduceBEq, reduceCtorEq, hP, ]); (repeat (refine And.intro (by first | omega | (intros; simp_all; done) | (intros; simp_all; omega)) ?_))))
          (refine WV_ret ?_; simp only [thenQ, inQ, RetQ, RetOk, resAll, resA]; simp only [go_sem, init_env', Nat.reduceEqDiff, Nat.reduceAdd, Nat.reduceMul, reduceIte, Nat.reduceLeDiff, Nat.reduceLT, Nat.reduceBEq, reduceCtorEq, tupA, AV.port, AV.portL, exists_eq_left', ]; (first | exact AVle.of rfl | refine AVle.of ?_ | skip))
          rw [hx]; rfl
        · simp at h
      · rw [if_neg hb] at hx
        rw [decide_eq_false hb]
        (refine WV_cond rfl (fun h => ?_) (fun h => ?_))
        · simp at h
        · (repeat ((first | refine WV_seq_ ?_ | refine WV_block ?_ | refine WV_ops ?_ | refine WV_skip ?_ | refine WV_exit ?_); (try simp only [go_sem, init_env', Nat.reduceEqDiff, Nat.reduceAdd, Nat.reduceMul, reduceIte, Nat.reduceLeDiff, Nat.reduceLT, Nat.reduceBEq, reduceCtorEq, hP, hw2]); (repeat (refine And.intro (by first | omega | (intros; simp_all; done) | (intros; simp_all; omega)) ?_))))
          refine ⟨k + 1, ⟨by omega, by omega, ?_⟩, by omega, ?_⟩
          · rcases List.mem_cons.1 hmm with hmm | hmm
            · exact absurd hmm.symm hb
            · exact hmm
          · (refine Sub_of (by simp only [go_sem, init_env', Nat.reduceEqDiff, Nat.reduceAdd, Nat.reduceMul, reduceIte, Nat.reduceLeDiff, Nat.reduceLT, Nat.reduceBEq, reduceCtorEq]; ((repeat' (first | exact EnvLe_e0 _ _ | refine EnvLe_upd ?_ ?_)) <;> ((try simp only [upd_app, e0_app, o0_app, Nat.reduceEqDiff, reduceIte]); first | exact AWk.refl _ _ | exact AWk.int (by omega) | exact AWk.int (by rw [w64 (by omega) (by omega)]; omega) | exact AWk.grow rfl | exact AWk.nil _ | exact AWk.of (by simp)))) (by simp only [go_sem, init_env', Nat.reduceEqDiff, Nat.reduceAdd, Nat.reduceMul, reduceIte, Nat.reduceLeDiff, Nat.reduceLT, Nat.reduceBEq, reduceCtorEq]; ((repeat' (first | exact ObjLe_o0 _ | exact ObjLe.rfl' _ | refine ObjLe_same ?_ | refine ObjLe_upd ?_ ?_ | refine ObjLe_new rfl ?_)) <;> rfl)))
    · have h : k = o.length := by simp at h; omega
      subst h
      rw [List.drop_length] at hmm
      cases hmm

theorem ncd_scal (l : List Nat) : ((l.map ncd).all fun e => e.all CD.scal) = true := by
  rw [List.all_eq_true]; intro e he; obtain ⟨n, _, rfl⟩ := List.mem_map.1 he; rfl
theorem ncds_one (l : List Nat) : ((l.map ncd).all fun e => e.length == 1) = true := by
  rw [List.all_eq_true]; intro e he; obtain ⟨n, _, rfl⟩ := List.mem_map.1 he; rfl
theorem recs_scal (l : List Rec) : ((l.map Rec.cds).all fun e => e.all CD.scal) = true := by
  rw [List.all_eq_true]; intro e he; obtain ⟨n, _, rfl⟩ := List.mem_map.1 he; rfl
theorem prs_scal (l : List Pr) : ((l.map Pr.cds).all fun e => e.all CD.scal) = true := by
  rw [List.all_eq_true]; intro e he; obtain ⟨n, _, rfl⟩ := List.mem_map.1 he; rfl
theorem cloneI79 (l : List Nat) (hlen : l.length ≤ 1000) : FSpecF Try.prog 79 [.c (natsC l)] (.c (natsC l)) := by
  refine FSpecF_of c79 (Nat.le_refl _) (by decide) fun C hP hN hC hL => ?_
  have hmax : maxLen = 9223372036854775807 := rfl
  simp only [ir79, natsC]
  cases l with
  | nil =>
    (repeat ((first | refine WV_seq_ ?_ | refine WV_block ?_ | refine WV_ops ?_ | refine WV_skip ?_ | refine WV_exit ?_); (try simp only [go_sem, init_env', Nat.reduceEqDiff, Nat.reduceAdd, Nat.reduceMul, reduceIte, Nat.reduceLeDiff, Nat.reduceLT, Nat.reduceBEq, reduceCtorEq, hP, ]); (repeat (refine And.intro (by first | omega | (intros; simp_all; done) | (intros; simp_all; omega)) ?_))))
    intro b
    (repeat ((first | refine WV_seq_ ?_ | refine WV_block ?_ | refine WV_ops ?_ | refine WV_skip ?_ | refine WV_exit ?_); (try simp only [go_sem, init_env', Nat.reduceEqDiff, Nat.reduceAdd, Nat.reduceMul, reduceIte, Nat.reduceLeDiff, Nat.reduceLT, Nat.reduceBEq, reduceCtorEq, hP, ]); (repeat (refine And.intro (by first | omega | (intros; simp_all; done) | (intros; simp_all; omega)) ?_))))
    (refine WV_cond rfl (fun h => ?_) (fun h => ?_))
    · (repeat ((first | refine WV_seq_ ?_ | refine WV_block ?_ | refine WV_ops ?_ | refine WV_skip ?_ | refine WV_exit ?_); (try simp only [go_sem, init_env', Nat.reduceEqDiff, Nat.reduceAdd, Nat.reduceMul, reduceIte, Nat.reduceLeDiff, Nat.reduceLT, Nat.reduceBEq, reduceCtorEq, hP, ]); (repeat (refine And.intro (by first | omega | (intros; simp_all; done) | (intros; simp_all; omega)) ?_))))
      (refine WV_ret ?_; simp only [thenQ, inQ, RetQF, RetOkF, resAll, resA]; simp only [go_sem, init_env', Nat.reduceEqDiff, Nat.reduceAdd, Nat.reduceMul, reduceIte, Nat.reduceLeDiff, Nat.reduceLT, Nat.reduceBEq, reduceCtorEq, tupA, AV.fport, AV.fportL, CD.scal, exists_eq_left', ]; refine And.intro (by ((repeat' (first | exact NoWin_o0 | refine NoWin_upd (fun cs h => by cases h) ?_)))) ?_)
      exact AVle.nil 1
    · (repeat ((first | refine WV_seq_ ?_ | refine WV_block ?_ | refine WV_ops ?_ | refine WV_skip ?_ | refine WV_exit ?_); (try simp only [go_sem, init_env', Nat.reduceEqDiff, Nat.reduceAdd, Nat.reduceMul, reduceIte, Nat.reduceLeDiff, Nat.reduceLT, Nat.reduceBEq, reduceCtorEq, hP, ]); (repeat (refine And.intro (by first | omega | (intros; simp_all; done) | (intros; simp_all; omega)) ?_))))
      (refine WV_ret ?_; simp only [thenQ, inQ, RetQF, RetOkF, resAll, resA]; simp only [go_sem, init_env', Nat.reduceEqDiff, Nat.reduceAdd, Nat.reduceMul, reduceIte, Nat.reduceLeDiff, Nat.reduceLT, Nat.reduceBEq, reduceCtorEq, tupA, AV.fport, AV.fportL, CD.scal, exists_eq_left', ]; refine And.intro (by ((repeat' (first | exact NoWin_o0 | refine NoWin_upd (fun cs h => by cases h) ?_)))) ?_; (first | exact AVle.of rfl | refine AVle.of ?_ | skip))
  | cons a l =>
    simp only [List.length_cons] at hlen
    have hp := ncds_one (a :: l)
    have hs := ncd_scal (a :: l)
    simp only [List.map_cons] at hp hs
    (repeat ((first | refine WV_seq_ ?_ | refine WV_block ?_ | refine WV_ops ?_ | refine WV_skip ?_ | refine WV_exit ?_); (try simp only [go_sem, init_env', Nat.reduceEqDiff, Nat.reduceAdd, Nat.reduceMul, reduceIte, Nat.reduceLeDiff, Nat.reduceLT, Nat.reduceBEq, reduceCtorEq, hP, ]); (repeat (refine And.intro (by first | omega | (intros; simp_all; done) | (intros; simp_all; omega)) ?_))))
    (refine WV_cond rfl (fun h => ?_) (fun h => ?_))
    · cases h
    · (repeat ((first | refine WV_seq_ ?_ | refine WV_block ?_ | refine WV_ops ?_ | refine WV_skip ?_ | refine WV_exit ?_); (try simp only [go_sem, init_env', Nat.reduceEqDiff, Nat.reduceAdd, Nat.reduceMul, reduceIte, Nat.reduceLeDiff, Nat.reduceLT, Nat.reduceBEq, reduceCtorEq, hP, hp, List.length_cons]); (repeat (refine And.intro (by first | omega | (intros; simp_all; done) | (intros; simp_all; omega)) ?_))))
      (refine WV_ret ?_; simp only [thenQ, inQ, RetQF, RetOkF, resAll, resA]; simp only [go_sem, init_env', Nat.reduceEqDiff, Nat.reduceAdd, Nat.reduceMul, reduceIte, Nat.reduceLeDiff, Nat.reduceLT, Nat.reduceBEq, reduceCtorEq, tupA, AV.fport, AV.fportL, CD.scal, exists_eq_left', hs]; refine And.intro (by ((repeat' (first | exact NoWin_o0 | refine NoWin_upd (fun cs h => by cases h) ?_)))) ?_)
      exact AVle.refl _

/-- The first k ones are other ones. -/
def mapK {α : Type} (g : α → α) (l : List α) (k : Nat) : List α := (l.take k).map g ++ l.drop k
theorem mapK_len {α : Type} (g : α → α) (l : List α) (k : Nat) : (mapK g l k).length = l.length := by simp [mapK]; omega
theorem mapK_zero {α : Type} (g : α → α) (l : List α) : mapK g l 0 = l := by simp [mapK]
theorem mapK_all {α : Type} (g : α → α) (l : List α) : mapK g l l.length = l.map g := by simp [mapK]
theorem mapK_get {α : Type} {g : α → α} {l : List α} {k : Nat} (h : k < l.length) (h' : k < (mapK g l k).length) : (mapK g l k)[k] = l[k] := by
  have hl : ((l.take k).map g).length = k := by simp; omega
  have h2 : (mapK g l k)[k]? = some l[k] := by
    unfold mapK
    rw [List.getElem?_append_right (by rw [hl]; exact Nat.le_refl _), hl, Nat.sub_self, List.getElem?_drop, Nat.add_zero, List.getElem?_eq_getElem h]
  exact (List.getElem?_eq_some_iff.1 h2).2
theorem mapK_set {α : Type} {g : α → α} {l : List α} {k : Nat} (h : k < l.length) : (mapK g l k).set k (g l[k]) = mapK g l (k + 1) := by
  have hl : ((l.take k).map g).length = k := by simp; omega
  unfold mapK
  rw [List.set_append_right _ _ (by rw [hl]; exact Nat.le_refl _), hl, Nat.sub_self, List.drop_eq_getElem_cons h, List.set_cons_zero, List.take_succ_eq_append_getElem h, List.map_append]
  simp
def recsT (t : Tray) (o : List Nat) (k : Nat) : List Rec := (o.take k).map t.rc
theorem recsT_succ (t : Tray) {o : List Nat} {k : Nat} (h : k < o.length) : recsT t o (k + 1) = recsT t o k ++ [t.rc o[k]] := by
  unfold recsT; rw [List.take_succ_eq_append_getElem h, List.map_append]; rfl
theorem recsT_all (t : Tray) (o : List Nat) : recsT t o o.length = o.map t.rc := by unfold recsT; rw [List.take_length]
theorem recsT_len (t : Tray) (o : List Nat) (k : Nat) : (recsT t o k).length ≤ k := by unfold recsT; rw [List.length_map, List.length_take]; omega

set_option maxRecDepth 20000 in
set_option maxHeartbeats 8000000 in
theorem arranged78 {t : Tray} (ht : TrayOk t) {o : List Nat} (ho : IsOrd t.n o) : FSpecF Try.prog 78 [t.av, .c (natsC o)] (arrT t o).av := by
  have hmax : maxLen = 9223372036854775807 := rfl
  have hn6 := ht.n6
  have hol := ho.len
  have h13 := ht.p13
  refine FSpecF_of c78 (Nat.le_refl _) (by decide) fun C hP hN hC hL => ?_
  simp only [ir78, Tray.av]
  (repeat ((first | refine WV_seq_ ?_ | refine WV_block ?_ | refine WV_ops ?_ | refine WV_skip ?_ | refine WV_exit ?_); (try simp only [go_sem, init_env', Nat.reduceEqDiff, Nat.reduceAdd, Nat.reduceMul, reduceIte, Nat.reduceLeDiff, Nat.reduceLT, Nat.reduceBEq, reduceCtorEq, hP, ]); (repeat (refine And.intro (by first | omega | (intros; simp_all; done) | (intros; simp_all; omega)) ?_))))
  by_cases hpn : t.pres = []
  · refine AS_new (cloneG56 t.pres (by omega)) rfl rfl rfl rfl ?_
    rintro res os (⟨rfl, rfl⟩ | ⟨-, rfl, rfl⟩)
    · refine ⟨[900], .gr 900, [.grow 27 2 (t.pres.map Pr.cds)], by decide, rfl, by simp only [go_sem, init_env', Nat.reduceEqDiff, Nat.reduceAdd, Nat.reduceMul, reduceIte, Nat.reduceLeDiff, Nat.reduceLT, Nat.reduceBEq, reduceCtorEq, decide_true], rfl, rfl, ?_⟩
      rw [hpn]
      simp only [go_sem, init_env', Nat.reduceEqDiff, Nat.reduceAdd, Nat.reduceMul, reduceIte, Nat.reduceLeDiff, Nat.reduceLT, Nat.reduceBEq, reduceCtorEq, hP, ownBack, List.map_nil]
      (repeat (refine And.intro (by first | omega | (intros; simp_all; done) | (intros; simp_all; omega)) ?_))
      refine WV_nilbox 5 0 30 56 2 (by decide) (by decide) (by decide) rfl rfl rfl ?_
      simp only [go_sem, init_env', Nat.reduceEqDiff, Nat.reduceAdd, Nat.reduceMul, reduceIte, Nat.reduceLeDiff, Nat.reduceLT, Nat.reduceBEq, reduceCtorEq]
      (repeat ((first | refine WV_seq_ ?_ | refine WV_block ?_ | refine WV_ops ?_ | refine WV_skip ?_ | refine WV_exit ?_); (try simp only [go_sem, init_env', Nat.reduceEqDiff, Nat.reduceAdd, Nat.reduceMul, reduceIte, Nat.reduceLeDiff, Nat.reduceLT, Nat.reduceBEq, reduceCtorEq, hP, natsC, List.length_map]); (repeat (refine And.intro (by first | omega | (intros; simp_all; done) | (intros; simp_all; omega)) ?_))))
      refine WV_loopK K78_1 [5, 29, 30] (fun k : Nat => k ≤ o.length) (fun k => o.length - k) (fun k => [(18, iv k)]) (fun k => [(5, .box [.gr 30, iv t.at_, iv t.way, iv t.step, .gr 900]), (30, .grow 56 2 ((recsT t o k).map Rec.cds))]) 0 (Nat.zero_le _) ?_ ?_
      · (refine Sub_of (by simp only [go_sem, init_env', Nat.reduceEqDiff, Nat.reduceAdd, Nat.reduceMul, reduceIte, Nat.reduceLeDiff, Nat.reduceLT, Nat.reduceBEq, reduceCtorEq]; ((repeat' (first | exact EnvLe_e0 _ _ | refine EnvLe_upd ?_ ?_)) <;> ((try simp only [upd_app, e0_app, o0_app, Nat.reduceEqDiff, reduceIte]); first | exact AWk.refl _ _ | exact AWk.int (by omega) | exact AWk.int (by rw [w64 (by omega) (by omega)]; omega) | exact AWk.grow rfl | exact AWk.nil _ | exact AWk.of (by simp)))) (by simp only [go_sem, init_env', Nat.reduceEqDiff, Nat.reduceAdd, Nat.reduceMul, reduceIte, Nat.reduceLeDiff, Nat.reduceLT, Nat.reduceBEq, reduceCtorEq]; ((repeat' (first | exact ObjLe_o0 _ | exact ObjLe.rfl' _ | refine ObjLe_same ?_ | refine ObjLe_upd ?_ ?_ | refine ObjLe_new rfl ?_)) <;> rfl)))
      · intro k hk
        simp only [go_sem, init_env', Nat.reduceEqDiff, Nat.reduceAdd, Nat.reduceMul, reduceIte, Nat.reduceLeDiff, Nat.reduceLT, Nat.reduceBEq, reduceCtorEq]
        (repeat ((first | refine WV_seq_ ?_ | refine WV_block ?_ | refine WV_ops ?_ | refine WV_skip ?_ | refine WV_exit ?_); (try simp only [go_sem, init_env', Nat.reduceEqDiff, Nat.reduceAdd, Nat.reduceMul, reduceIte, Nat.reduceLeDiff, Nat.reduceLT, Nat.reduceBEq, reduceCtorEq, hP, ]); (repeat (refine And.intro (by first | omega | (intros; simp_all; done) | (intros; simp_all; omega)) ?_))))
        (refine WV_cond rfl (fun h => ?_) (fun h => ?_))
        · have hkl : k < o.length := by simpa using h
          have hI : (k : Int) < (o.length : Int) := by omega
          have hw := w64 (n := (k : Int) + 1) (by omega) (by omega)
          have hlt := ho.lt (List.getElem_mem hkl)
          have hlt' : o[k] < t.recs.length := hlt
          have hI2 : ((o[k] : Nat) : Int) < (t.recs.length : Int) := by omega
          have hrc : t.rc o[k] = t.recs[o[k]] := by unfold Tray.rc; simp [hlt']
          have hsu := recsT_succ t hkl
          have hrl := recsT_len t o k
          have e9 : (recsT t o k).map Rec.cds ++ [[CD.int .i64 t.recs[o[k]].front, CD.int .i64 t.recs[o[k]].back]] = (recsT t o (k + 1)).map Rec.cds := by rw [hsu, hrc, List.map_append]; rfl
          (repeat ((first | refine WV_seq_ ?_ | refine WV_block ?_ | refine WV_ops ?_ | refine WV_skip ?_ | refine WV_exit ?_); (try simp only [go_sem, init_env', Nat.reduceEqDiff, Nat.reduceAdd, Nat.reduceMul, reduceIte, Nat.reduceLeDiff, Nat.reduceLT, Nat.reduceBEq, reduceCtorEq, hP, map_getD hkl, hI, Int.natCast_nonneg, ncd, recsC, List.length_map, map_getD hlt', hI2, Rec.cds, recs_two, hw, e9]); (repeat (refine And.intro (by first | omega | (intros; simp_all; done) | (intros; simp_all; omega)) ?_))))
          refine ⟨k + 1, by omega, by omega, ?_⟩
          (refine Sub_of (by simp only [go_sem, init_env', Nat.reduceEqDiff, Nat.reduceAdd, Nat.reduceMul, reduceIte, Nat.reduceLeDiff, Nat.reduceLT, Nat.reduceBEq, reduceCtorEq]; ((repeat' (first | exact EnvLe_e0 _ _ | refine EnvLe_upd ?_ ?_)) <;> ((try simp only [upd_app, e0_app, o0_app, Nat.reduceEqDiff, reduceIte]); first | exact AWk.refl _ _ | exact AWk.int (by omega) | exact AWk.int (by rw [w64 (by omega) (by omega)]; omega) | exact AWk.grow rfl | exact AWk.nil _ | exact AWk.of (by simp)))) (by simp only [go_sem, init_env', Nat.reduceEqDiff, Nat.reduceAdd, Nat.reduceMul, reduceIte, Nat.reduceLeDiff, Nat.reduceLT, Nat.reduceBEq, reduceCtorEq]; ((repeat' (first | exact ObjLe_o0 _ | exact ObjLe.rfl' _ | refine ObjLe_same ?_ | refine ObjLe_upd ?_ ?_ | refine ObjLe_new rfl ?_)) <;> rfl)))
        · have h : k = o.length := by simp at h; omega
          subst h
          rw [recsT_all]
          (refine WV_exit ?_; simp only [go_sem, init_env', Nat.reduceEqDiff, Nat.reduceAdd, Nat.reduceMul, reduceIte, Nat.reduceLeDiff, Nat.reduceLT, Nat.reduceBEq, reduceCtorEq])
          (repeat ((first | refine WV_seq_ ?_ | refine WV_block ?_ | refine WV_ops ?_ | refine WV_skip ?_ | refine WV_exit ?_); (try simp only [go_sem, init_env', Nat.reduceEqDiff, Nat.reduceAdd, Nat.reduceMul, reduceIte, Nat.reduceLeDiff, Nat.reduceLT, Nat.reduceBEq, reduceCtorEq, hP, List.length_nil, Int.natCast_zero]); (repeat (refine And.intro (by first | omega | (intros; simp_all; done) | (intros; simp_all; omega)) ?_))))
          refine WV_loopK K78_2 [] (fun _ : Unit => True) (fun _ => 0) (fun _ => [(36, iv 0)]) (fun _ => []) () trivial ?_ ?_
          · (refine Sub_of (by simp only [go_sem, init_env', Nat.reduceEqDiff, Nat.reduceAdd, Nat.reduceMul, reduceIte, Nat.reduceLeDiff, Nat.reduceLT, Nat.reduceBEq, reduceCtorEq]; ((repeat' (first | exact EnvLe_e0 _ _ | refine EnvLe_upd ?_ ?_)) <;> ((try simp only [upd_app, e0_app, o0_app, Nat.reduceEqDiff, reduceIte]); first | exact AWk.refl _ _ | exact AWk.int (by omega) | exact AWk.int (by rw [w64 (by omega) (by omega)]; omega) | exact AWk.grow rfl | exact AWk.nil _ | exact AWk.of (by simp)))) (by simp only [go_sem, init_env', Nat.reduceEqDiff, Nat.reduceAdd, Nat.reduceMul, reduceIte, Nat.reduceLeDiff, Nat.reduceLT, Nat.reduceBEq, reduceCtorEq]; ((repeat' (first | exact ObjLe_o0 _ | exact ObjLe.rfl' _ | refine ObjLe_same ?_ | refine ObjLe_upd ?_ ?_ | refine ObjLe_new rfl ?_)) <;> rfl)))
          · rintro - -
            simp only [go_sem, init_env', Nat.reduceEqDiff, Nat.reduceAdd, Nat.reduceMul, reduceIte, Nat.reduceLeDiff, Nat.reduceLT, Nat.reduceBEq, reduceCtorEq]
            (repeat ((first | refine WV_seq_ ?_ | refine WV_block ?_ | refine WV_ops ?_ | refine WV_skip ?_ | refine WV_exit ?_); (try simp only [go_sem, init_env', Nat.reduceEqDiff, Nat.reduceAdd, Nat.reduceMul, reduceIte, Nat.reduceLeDiff, Nat.reduceLT, Nat.reduceBEq, reduceCtorEq, hP, ]); (repeat (refine And.intro (by first | omega | (intros; simp_all; done) | (intros; simp_all; omega)) ?_))))
            (refine WV_cond rfl (fun h => ?_) (fun h => ?_))
            · simp at h
            · (refine WV_exit ?_; simp only [go_sem, init_env', Nat.reduceEqDiff, Nat.reduceAdd, Nat.reduceMul, reduceIte, Nat.reduceLeDiff, Nat.reduceLT, Nat.reduceBEq, reduceCtorEq])
              (repeat ((first | refine WV_seq_ ?_ | refine WV_block ?_ | refine WV_ops ?_ | refine WV_skip ?_ | refine WV_exit ?_); (try simp only [go_sem, init_env', Nat.reduceEqDiff, Nat.reduceAdd, Nat.reduceMul, reduceIte, Nat.reduceLeDiff, Nat.reduceLT, Nat.reduceBEq, reduceCtorEq, hP, ]); (repeat (refine And.intro (by first | omega | (intros; simp_all; done) | (intros; simp_all; omega)) ?_))))
              have hrs := recs_scal (o.map t.rc)
              have hav : (arrT t o).av = .agg [.c (.sl 2 ((o.map t.rc).map Rec.cds)), iv t.at_, iv t.way, iv t.step, .c (.sl 2 [])] := by simp [Tray.av, arrT, hpn, recsC, prsC]
              (refine WV_ret ?_; simp only [thenQ, inQ, RetQF, RetOkF, resAll, resA]; simp only [go_sem, init_env', Nat.reduceEqDiff, Nat.reduceAdd, Nat.reduceMul, reduceIte, Nat.reduceLeDiff, Nat.reduceLT, Nat.reduceBEq, reduceCtorEq, tupA, AV.fport, AV.fportL, CD.scal, exists_eq_left', hrs]; refine And.intro (by ((repeat' (first | exact NoWin_o0 | refine NoWin_upd (fun cs h => by cases h) ?_)))) ?_)
              exact AVle.agg (AVles.cons (AVle.refl _) (AVles.cons (AVle.refl _) (AVles.cons (AVle.refl _) (AVles.cons (AVle.refl _) (AVles.cons (AVle.of (by simp [arrT, hpn, prsC])) (AVles.refl _))))))
    · refine ⟨[], .c (.raw (.slice none 0 0)), [], by decide, rfl, by simp only [go_sem, init_env', Nat.reduceEqDiff, Nat.reduceAdd, Nat.reduceMul, reduceIte, Nat.reduceLeDiff, Nat.reduceLT, Nat.reduceBEq, reduceCtorEq, decide_true], rfl, rfl, ?_⟩
      simp only [go_sem, init_env', Nat.reduceEqDiff, Nat.reduceAdd, Nat.reduceMul, reduceIte, Nat.reduceLeDiff, Nat.reduceLT, Nat.reduceBEq, reduceCtorEq, hP, ownBack]
      (repeat (refine And.intro (by first | omega | (intros; simp_all; done) | (intros; simp_all; omega)) ?_))
      refine WV_nilbox 5 0 30 56 2 (by decide) (by decide) (by decide) rfl rfl rfl ?_
      simp only [go_sem, init_env', Nat.reduceEqDiff, Nat.reduceAdd, Nat.reduceMul, reduceIte, Nat.reduceLeDiff, Nat.reduceLT, Nat.reduceBEq, reduceCtorEq]
      (repeat ((first | refine WV_seq_ ?_ | refine WV_block ?_ | refine WV_ops ?_ | refine WV_skip ?_ | refine WV_exit ?_); (try simp only [go_sem, init_env', Nat.reduceEqDiff, Nat.reduceAdd, Nat.reduceMul, reduceIte, Nat.reduceLeDiff, Nat.reduceLT, Nat.reduceBEq, reduceCtorEq, hP, natsC, List.length_map]); (repeat (refine And.intro (by first | omega | (intros; simp_all; done) | (intros; simp_all; omega)) ?_))))
      refine WV_loopK K78_1 [5, 29, 30] (fun k : Nat => k ≤ o.length) (fun k => o.length - k) (fun k => [(18, iv k)]) (fun k => [(5, .box [.gr 30, iv t.at_, iv t.way, iv t.step, .c (.raw (.slice none 0 0))]), (30, .grow 56 2 ((recsT t o k).map Rec.cds))]) 0 (Nat.zero_le _) ?_ ?_
      · (refine Sub_of (by simp only [go_sem, init_env', Nat.reduceEqDiff, Nat.reduceAdd, Nat.reduceMul, reduceIte, Nat.reduceLeDiff, Nat.reduceLT, Nat.reduceBEq, reduceCtorEq]; ((repeat' (first | exact EnvLe_e0 _ _ | refine EnvLe_upd ?_ ?_)) <;> ((try simp only [upd_app, e0_app, o0_app, Nat.reduceEqDiff, reduceIte]); first | exact AWk.refl _ _ | exact AWk.int (by omega) | exact AWk.int (by rw [w64 (by omega) (by omega)]; omega) | exact AWk.grow rfl | exact AWk.nil _ | exact AWk.of (by simp)))) (by simp only [go_sem, init_env', Nat.reduceEqDiff, Nat.reduceAdd, Nat.reduceMul, reduceIte, Nat.reduceLeDiff, Nat.reduceLT, Nat.reduceBEq, reduceCtorEq]; ((repeat' (first | exact ObjLe_o0 _ | exact ObjLe.rfl' _ | refine ObjLe_same ?_ | refine ObjLe_upd ?_ ?_ | refine ObjLe_new rfl ?_)) <;> rfl)))
      · intro k hk
        simp only [go_sem, init_env', Nat.reduceEqDiff, Nat.reduceAdd, Nat.reduceMul, reduceIte, Nat.reduceLeDiff, Nat.reduceLT, Nat.reduceBEq, reduceCtorEq]
        (repeat ((first | refine WV_seq_ ?_ | refine WV_block ?_ | refine WV_ops ?_ | refine WV_skip ?_ | refine WV_exit ?_); (try simp only [go_sem, init_env', Nat.reduceEqDiff, Nat.reduceAdd, Nat.reduceMul, reduceIte, Nat.reduceLeDiff, Nat.reduceLT, Nat.reduceBEq, reduceCtorEq, hP, ]); (repeat (refine And.intro (by first | omega | (intros; simp_all; done) | (intros; simp_all; omega)) ?_))))
        (refine WV_cond rfl (fun h => ?_) (fun h => ?_))
        · have hkl : k < o.length := by simpa using h
          have hI : (k : Int) < (o.length : Int) := by omega
          have hw := w64 (n := (k : Int) + 1) (by omega) (by omega)
          have hlt := ho.lt (List.getElem_mem hkl)
          have hlt' : o[k] < t.recs.length := hlt
          have hI2 : ((o[k] : Nat) : Int) < (t.recs.length : Int) := by omega
          have hrc : t.rc o[k] = t.recs[o[k]] := by unfold Tray.rc; simp [hlt']
          have hsu := recsT_succ t hkl
          have hrl := recsT_len t o k
          have e9 : (recsT t o k).map Rec.cds ++ [[CD.int .i64 t.recs[o[k]].front, CD.int .i64 t.recs[o[k]].back]] = (recsT t o (k + 1)).map Rec.cds := by rw [hsu, hrc, List.map_append]; rfl
          (repeat ((first | refine WV_seq_ ?_ | refine WV_block ?_ | refine WV_ops ?_ | refine WV_skip ?_ | refine WV_exit ?_); (try simp only [go_sem, init_env', Nat.reduceEqDiff, Nat.reduceAdd, Nat.reduceMul, reduceIte, Nat.reduceLeDiff, Nat.reduceLT, Nat.reduceBEq, reduceCtorEq, hP, map_getD hkl, hI, Int.natCast_nonneg, ncd, recsC, List.length_map, map_getD hlt', hI2, Rec.cds, recs_two, hw, e9]); (repeat (refine And.intro (by first | omega | (intros; simp_all; done) | (intros; simp_all; omega)) ?_))))
          refine ⟨k + 1, by omega, by omega, ?_⟩
          (refine Sub_of (by simp only [go_sem, init_env', Nat.reduceEqDiff, Nat.reduceAdd, Nat.reduceMul, reduceIte, Nat.reduceLeDiff, Nat.reduceLT, Nat.reduceBEq, reduceCtorEq]; ((repeat' (first | exact EnvLe_e0 _ _ | refine EnvLe_upd ?_ ?_)) <;> ((try simp only [upd_app, e0_app, o0_app, Nat.reduceEqDiff, reduceIte]); first | exact AWk.refl _ _ | exact AWk.int (by omega) | exact AWk.int (by rw [w64 (by omega) (by omega)]; omega) | exact AWk.grow rfl | exact AWk.nil _ | exact AWk.of (by simp)))) (by simp only [go_sem, init_env', Nat.reduceEqDiff, Nat.reduceAdd, Nat.reduceMul, reduceIte, Nat.reduceLeDiff, Nat.reduceLT, Nat.reduceBEq, reduceCtorEq]; ((repeat' (first | exact ObjLe_o0 _ | exact ObjLe.rfl' _ | refine ObjLe_same ?_ | refine ObjLe_upd ?_ ?_ | refine ObjLe_new rfl ?_)) <;> rfl)))
        · have h : k = o.length := by simp at h; omega
          subst h
          rw [recsT_all]
          (refine WV_exit ?_; simp only [go_sem, init_env', Nat.reduceEqDiff, Nat.reduceAdd, Nat.reduceMul, reduceIte, Nat.reduceLeDiff, Nat.reduceLT, Nat.reduceBEq, reduceCtorEq])
          (repeat ((first | refine WV_seq_ ?_ | refine WV_block ?_ | refine WV_ops ?_ | refine WV_skip ?_ | refine WV_exit ?_); (try simp only [go_sem, init_env', Nat.reduceEqDiff, Nat.reduceAdd, Nat.reduceMul, reduceIte, Nat.reduceLeDiff, Nat.reduceLT, Nat.reduceBEq, reduceCtorEq, hP, List.length_nil, Int.natCast_zero]); (repeat (refine And.intro (by first | omega | (intros; simp_all; done) | (intros; simp_all; omega)) ?_))))
          refine WV_loopK K78_2 [] (fun _ : Unit => True) (fun _ => 0) (fun _ => [(36, iv 0)]) (fun _ => []) () trivial ?_ ?_
          · (refine Sub_of (by simp only [go_sem, init_env', Nat.reduceEqDiff, Nat.reduceAdd, Nat.reduceMul, reduceIte, Nat.reduceLeDiff, Nat.reduceLT, Nat.reduceBEq, reduceCtorEq]; ((repeat' (first | exact EnvLe_e0 _ _ | refine EnvLe_upd ?_ ?_)) <;> ((try simp only [upd_app, e0_app, o0_app, Nat.reduceEqDiff, reduceIte]); first | exact AWk.refl _ _ | exact AWk.int (by omega) | exact AWk.int (by rw [w64 (by omega) (by omega)]; omega) | exact AWk.grow rfl | exact AWk.nil _ | exact AWk.of (by simp)))) (by simp only [go_sem, init_env', Nat.reduceEqDiff, Nat.reduceAdd, Nat.reduceMul, reduceIte, Nat.reduceLeDiff, Nat.reduceLT, Nat.reduceBEq, reduceCtorEq]; ((repeat' (first | exact ObjLe_o0 _ | exact ObjLe.rfl' _ | refine ObjLe_same ?_ | refine ObjLe_upd ?_ ?_ | refine ObjLe_new rfl ?_)) <;> rfl)))
          · rintro - -
            simp only [go_sem, init_env', Nat.reduceEqDiff, Nat.reduceAdd, Nat.reduceMul, reduceIte, Nat.reduceLeDiff, Nat.reduceLT, Nat.reduceBEq, reduceCtorEq]
            (repeat ((first | refine WV_seq_ ?_ | refine WV_block ?_ | refine WV_ops ?_ | refine WV_skip ?_ | refine WV_exit ?_); (try simp only [go_sem, init_env', Nat.reduceEqDiff, Nat.reduceAdd, Nat.reduceMul, reduceIte, Nat.reduceLeDiff, Nat.reduceLT, Nat.reduceBEq, reduceCtorEq, hP, ]); (repeat (refine And.intro (by first | omega | (intros; simp_all; done) | (intros; simp_all; omega)) ?_))))
            (refine WV_cond rfl (fun h => ?_) (fun h => ?_))
            · simp at h
            · (refine WV_exit ?_; simp only [go_sem, init_env', Nat.reduceEqDiff, Nat.reduceAdd, Nat.reduceMul, reduceIte, Nat.reduceLeDiff, Nat.reduceLT, Nat.reduceBEq, reduceCtorEq])
              (repeat ((first | refine WV_seq_ ?_ | refine WV_block ?_ | refine WV_ops ?_ | refine WV_skip ?_ | refine WV_exit ?_); (try simp only [go_sem, init_env', Nat.reduceEqDiff, Nat.reduceAdd, Nat.reduceMul, reduceIte, Nat.reduceLeDiff, Nat.reduceLT, Nat.reduceBEq, reduceCtorEq, hP, ]); (repeat (refine And.intro (by first | omega | (intros; simp_all; done) | (intros; simp_all; omega)) ?_))))
              have hrs := recs_scal (o.map t.rc)
              have hav : (arrT t o).av = .agg [.c (.sl 2 ((o.map t.rc).map Rec.cds)), iv t.at_, iv t.way, iv t.step, .c (.sl 2 [])] := by simp [Tray.av, arrT, hpn, recsC, prsC]
              (refine WV_ret ?_; simp only [thenQ, inQ, RetQF, RetOkF, resAll, resA]; simp only [go_sem, init_env', Nat.reduceEqDiff, Nat.reduceAdd, Nat.reduceMul, reduceIte, Nat.reduceLeDiff, Nat.reduceLT, Nat.reduceBEq, reduceCtorEq, tupA, AV.fport, AV.fportL, CD.scal, exists_eq_left', hrs]; refine And.intro (by ((repeat' (first | exact NoWin_o0 | refine NoWin_upd (fun cs h => by cases h) ?_)))) ?_)
              exact AVle.agg (AVles.cons (AVle.refl _) (AVles.cons (AVle.refl _) (AVles.cons (AVle.refl _) (AVles.cons (AVle.refl _) (AVles.cons (by rw [show (arrT t o).pres = [] by simp [arrT, hpn]]; exact AVle.nil 2) (AVles.refl _))))))
  · refine AS_new (cloneN56 t.pres (by omega) hpn) rfl rfl rfl rfl ?_
    rintro res os ⟨cap, J, h1, h2, h3, rfl, rfl⟩
    refine ⟨[900], .vw 2 900 0 t.pres.length cap, [.box (cellsG Pr.cds t.pres J)], by decide, rfl, by simp only [go_sem, init_env', Nat.reduceEqDiff, Nat.reduceAdd, Nat.reduceMul, reduceIte, Nat.reduceLeDiff, Nat.reduceLT, Nat.reduceBEq, reduceCtorEq, decide_true], rfl, (by simp only [obsBack, Ob.back, back_cellsG]; rfl), ?_⟩
    simp only [go_sem, init_env', Nat.reduceEqDiff, Nat.reduceAdd, Nat.reduceMul, reduceIte, Nat.reduceLeDiff, Nat.reduceLT, Nat.reduceBEq, reduceCtorEq, hP, ownBack]
    (repeat (refine And.intro (by first | omega | (intros; simp_all; done) | (intros; simp_all; omega)) ?_))
    refine WV_nilbox 5 0 30 56 2 (by decide) (by decide) (by decide) rfl rfl rfl ?_
    simp only [go_sem, init_env', Nat.reduceEqDiff, Nat.reduceAdd, Nat.reduceMul, reduceIte, Nat.reduceLeDiff, Nat.reduceLT, Nat.reduceBEq, reduceCtorEq]
    (repeat ((first | refine WV_seq_ ?_ | refine WV_block ?_ | refine WV_ops ?_ | refine WV_skip ?_ | refine WV_exit ?_); (try simp only [go_sem, init_env', Nat.reduceEqDiff, Nat.reduceAdd, Nat.reduceMul, reduceIte, Nat.reduceLeDiff, Nat.reduceLT, Nat.reduceBEq, reduceCtorEq, hP, natsC, List.length_map]); (repeat (refine And.intro (by first | omega | (intros; simp_all; done) | (intros; simp_all; omega)) ?_))))
    refine WV_loopK K78_1 [5, 29, 30] (fun k : Nat => k ≤ o.length) (fun k => o.length - k) (fun k => [(18, iv k)]) (fun k => [(5, .box [.gr 30, iv t.at_, iv t.way, iv t.step, .vw 2 900 0 t.pres.length cap]), (30, .grow 56 2 ((recsT t o k).map Rec.cds))]) 0 (Nat.zero_le _) ?_ ?_
    · (refine Sub_of (by simp only [go_sem, init_env', Nat.reduceEqDiff, Nat.reduceAdd, Nat.reduceMul, reduceIte, Nat.reduceLeDiff, Nat.reduceLT, Nat.reduceBEq, reduceCtorEq]; ((repeat' (first | exact EnvLe_e0 _ _ | refine EnvLe_upd ?_ ?_)) <;> ((try simp only [upd_app, e0_app, o0_app, Nat.reduceEqDiff, reduceIte]); first | exact AWk.refl _ _ | exact AWk.int (by omega) | exact AWk.int (by rw [w64 (by omega) (by omega)]; omega) | exact AWk.grow rfl | exact AWk.nil _ | exact AWk.of (by simp)))) (by simp only [go_sem, init_env', Nat.reduceEqDiff, Nat.reduceAdd, Nat.reduceMul, reduceIte, Nat.reduceLeDiff, Nat.reduceLT, Nat.reduceBEq, reduceCtorEq]; ((repeat' (first | exact ObjLe_o0 _ | exact ObjLe.rfl' _ | refine ObjLe_same ?_ | refine ObjLe_upd ?_ ?_ | refine ObjLe_new rfl ?_)) <;> rfl)))
    · intro k hk
      simp only [go_sem, init_env', Nat.reduceEqDiff, Nat.reduceAdd, Nat.reduceMul, reduceIte, Nat.reduceLeDiff, Nat.reduceLT, Nat.reduceBEq, reduceCtorEq]
      (repeat ((first | refine WV_seq_ ?_ | refine WV_block ?_ | refine WV_ops ?_ | refine WV_skip ?_ | refine WV_exit ?_); (try simp only [go_sem, init_env', Nat.reduceEqDiff, Nat.reduceAdd, Nat.reduceMul, reduceIte, Nat.reduceLeDiff, Nat.reduceLT, Nat.reduceBEq, reduceCtorEq, hP, ]); (repeat (refine And.intro (by first | omega | (intros; simp_all; done) | (intros; simp_all; omega)) ?_))))
      (refine WV_cond rfl (fun h => ?_) (fun h => ?_))
      · have hkl : k < o.length := by simpa using h
        have hI : (k : Int) < (o.length : Int) := by omega
        have hw := w64 (n := (k : Int) + 1) (by omega) (by omega)
        have hlt := ho.lt (List.getElem_mem hkl)
        have hlt' : o[k] < t.recs.length := hlt
        have hI2 : ((o[k] : Nat) : Int) < (t.recs.length : Int) := by omega
        have hrc : t.rc o[k] = t.recs[o[k]] := by unfold Tray.rc; simp [hlt']
        have hsu := recsT_succ t hkl
        have hrl := recsT_len t o k
        have e9 : (recsT t o k).map Rec.cds ++ [[CD.int .i64 t.recs[o[k]].front, CD.int .i64 t.recs[o[k]].back]] = (recsT t o (k + 1)).map Rec.cds := by rw [hsu, hrc, List.map_append]; rfl
        (repeat ((first | refine WV_seq_ ?_ | refine WV_block ?_ | refine WV_ops ?_ | refine WV_skip ?_ | refine WV_exit ?_); (try simp only [go_sem, init_env', Nat.reduceEqDiff, Nat.reduceAdd, Nat.reduceMul, reduceIte, Nat.reduceLeDiff, Nat.reduceLT, Nat.reduceBEq, reduceCtorEq, hP, map_getD hkl, hI, Int.natCast_nonneg, ncd, recsC, List.length_map, map_getD hlt', hI2, Rec.cds, recs_two, hw, e9]); (repeat (refine And.intro (by first | omega | (intros; simp_all; done) | (intros; simp_all; omega)) ?_))))
        refine ⟨k + 1, by omega, by omega, ?_⟩
        (refine Sub_of (by simp only [go_sem, init_env', Nat.reduceEqDiff, Nat.reduceAdd, Nat.reduceMul, reduceIte, Nat.reduceLeDiff, Nat.reduceLT, Nat.reduceBEq, reduceCtorEq]; ((repeat' (first | exact EnvLe_e0 _ _ | refine EnvLe_upd ?_ ?_)) <;> ((try simp only [upd_app, e0_app, o0_app, Nat.reduceEqDiff, reduceIte]); first | exact AWk.refl _ _ | exact AWk.int (by omega) | exact AWk.int (by rw [w64 (by omega) (by omega)]; omega) | exact AWk.grow rfl | exact AWk.nil _ | exact AWk.of (by simp)))) (by simp only [go_sem, init_env', Nat.reduceEqDiff, Nat.reduceAdd, Nat.reduceMul, reduceIte, Nat.reduceLeDiff, Nat.reduceLT, Nat.reduceBEq, reduceCtorEq]; ((repeat' (first | exact ObjLe_o0 _ | exact ObjLe.rfl' _ | refine ObjLe_same ?_ | refine ObjLe_upd ?_ ?_ | refine ObjLe_new rfl ?_)) <;> rfl)))
      · have h : k = o.length := by simp at h; omega
        subst h
        rw [recsT_all]
        (refine WV_exit ?_; simp only [go_sem, init_env', Nat.reduceEqDiff, Nat.reduceAdd, Nat.reduceMul, reduceIte, Nat.reduceLeDiff, Nat.reduceLT, Nat.reduceBEq, reduceCtorEq])
        (repeat ((first | refine WV_seq_ ?_ | refine WV_block ?_ | refine WV_ops ?_ | refine WV_skip ?_ | refine WV_exit ?_); (try simp only [go_sem, init_env', Nat.reduceEqDiff, Nat.reduceAdd, Nat.reduceMul, reduceIte, Nat.reduceLeDiff, Nat.reduceLT, Nat.reduceBEq, reduceCtorEq, hP, ]); (repeat (refine And.intro (by first | omega | (intros; simp_all; done) | (intros; simp_all; omega)) ?_))))
        refine WV_loopK K78_2 [5, 9, 900] (fun k : Nat => k ≤ t.pres.length) (fun k => t.pres.length - k) (fun k => [(36, iv k)]) (fun k => [(5, .box [.gr 30, iv t.at_, iv t.way, iv t.step, .vw 2 900 0 t.pres.length cap]), (900, .box (cellsG Pr.cds (mapK (arrP o) t.pres k) J))]) 0 (Nat.zero_le _) ?_ ?_
        · rw [mapK_zero]
          (refine Sub_of (by simp only [go_sem, init_env', Nat.reduceEqDiff, Nat.reduceAdd, Nat.reduceMul, reduceIte, Nat.reduceLeDiff, Nat.reduceLT, Nat.reduceBEq, reduceCtorEq]; ((repeat' (first | exact EnvLe_e0 _ _ | refine EnvLe_upd ?_ ?_)) <;> ((try simp only [upd_app, e0_app, o0_app, Nat.reduceEqDiff, reduceIte]); first | exact AWk.refl _ _ | exact AWk.int (by omega) | exact AWk.int (by rw [w64 (by omega) (by omega)]; omega) | exact AWk.grow rfl | exact AWk.nil _ | exact AWk.of (by simp)))) (by simp only [go_sem, init_env', Nat.reduceEqDiff, Nat.reduceAdd, Nat.reduceMul, reduceIte, Nat.reduceLeDiff, Nat.reduceLT, Nat.reduceBEq, reduceCtorEq]; ((repeat' (first | exact ObjLe_o0 _ | exact ObjLe.rfl' _ | refine ObjLe_same ?_ | refine ObjLe_upd ?_ ?_ | refine ObjLe_new rfl ?_)) <;> rfl)))
        · intro k hk
          have hml := mapK_len (arrP o) t.pres k
          simp only [go_sem, init_env', Nat.reduceEqDiff, Nat.reduceAdd, Nat.reduceMul, reduceIte, Nat.reduceLeDiff, Nat.reduceLT, Nat.reduceBEq, reduceCtorEq]
          (repeat ((first | refine WV_seq_ ?_ | refine WV_block ?_ | refine WV_ops ?_ | refine WV_skip ?_ | refine WV_exit ?_); (try simp only [go_sem, init_env', Nat.reduceEqDiff, Nat.reduceAdd, Nat.reduceMul, reduceIte, Nat.reduceLeDiff, Nat.reduceLT, Nat.reduceBEq, reduceCtorEq, hP, ]); (repeat (refine And.intro (by first | omega | (intros; simp_all; done) | (intros; simp_all; omega)) ?_))))
          (refine WV_cond rfl (fun h => ?_) (fun h => ?_))
          · have hkl : k < t.pres.length := by simpa using h
            have hI : (k : Int) < (t.pres.length : Int) := by omega
            have hw := w64 (n := (k : Int) + 1) (by omega) (by omega)
            have hlk : k < (mapK (arrP o) t.pres k).length := by omega
            have hge := cellsG_elem pr_two hlk J
            rw [mapK_get hkl hlk] at hge
            have hps := (ht.pres _ (List.getElem_mem hkl))
            have hidx := arrP_side ho hps.1
            have hix := index86 o (t.pres[k].side.toNat / 2) (by omega) (ho.mem hidx.2)
            have hset := cellsG_set pr_two hlk J 0 (by decide) (.int .i64 (2 * (o.idxOf (t.pres[k].side.toNat / 2) : Int) + t.pres[k].side % 2)) (arrP o t.pres[k]) (by rw [mapK_get hkl hlk]; rfl)
            rw [Nat.add_zero, mapK_set hkl] at hset
            have hcl : (cellsG Pr.cds (mapK (arrP o) t.pres k) J).length = t.pres.length * 2 + J := by rw [cellsG_len pr_two, hml]
            have hc1 : k * 2 < (cellsG Pr.cds (mapK (arrP o) t.pres k) J).length := by rw [hcl]; omega
            have hc2 : k * 2 + 1 ≤ (cellsG Pr.cds (mapK (arrP o) t.pres k) J).length := by rw [hcl]; omega
            have hc3 : k * 2 + 2 ≤ (cellsG Pr.cds (mapK (arrP o) t.pres k) J).length := by rw [hcl]; omega
            have hq1 : t.pres[k].side.tdiv 2 = ((t.pres[k].side.toNat / 2 : Nat) : Int) := by rw [Int.tdiv_eq_ediv_of_nonneg hps.1.1]; omega
            have hq2 : t.pres[k].side.tmod 2 = t.pres[k].side % 2 := Int.tmod_eq_emod_of_nonneg hps.1.1
            have hw1 := w64 (n := ((t.pres[k].side.toNat / 2 : Nat) : Int)) (by omega) (by omega)
            have hw2 := w64 (n := t.pres[k].side % 2) (by omega) (by omega)
            have hw3 := w64 (n := 2 * (o.idxOf (t.pres[k].side.toNat / 2) : Int)) (by omega) (by omega)
            have hw4 := w64 (n := 2 * (o.idxOf (t.pres[k].side.toNat / 2) : Int) + t.pres[k].side % 2) (by omega) (by omega)
            clear hidx
            generalize t.pres[k] = p at *
            generalize mapK (arrP o) t.pres k = M1 at *
            generalize hM2 : mapK (arrP o) t.pres (k + 1) = M2 at *
            generalize o.idxOf (p.side.toNat / 2) = I at *
            generalize p.side.toNat / 2 = m at *
            (repeat ((first | refine WV_seq_ ?_ | refine WV_block ?_ | refine WV_ops ?_ | refine WV_skip ?_ | refine WV_exit ?_); (try simp only [go_sem, init_env', Nat.reduceEqDiff, Nat.reduceAdd, Nat.reduceMul, reduceIte, Nat.reduceLeDiff, Nat.reduceLT, Nat.reduceBEq, reduceCtorEq, hP, hI, Int.natCast_nonneg, hge, hc3, Pr.cds, List.map_cons, List.map_nil, hq1, hw1]); (repeat (refine And.intro (by first | omega | (intros; simp_all; done) | (intros; simp_all; omega)) ?_))))
            refine ACall_of hix rfl rfl rfl rfl rfl ?_
            simp only [go_sem, init_env', Nat.reduceEqDiff, Nat.reduceAdd, Nat.reduceMul, reduceIte, Nat.reduceLeDiff, Nat.reduceLT, Nat.reduceBEq, reduceCtorEq, hP, hw3, hq2, hw2, hw4, hset, hc1, hc2, hI, Int.natCast_nonneg]
            (repeat (refine And.intro (by first | omega | (intros; simp_all; done) | (intros; simp_all; omega)) ?_))
            (repeat ((first | refine WV_seq_ ?_ | refine WV_block ?_ | refine WV_ops ?_ | refine WV_skip ?_ | refine WV_exit ?_); (try simp only [go_sem, init_env', Nat.reduceEqDiff, Nat.reduceAdd, Nat.reduceMul, reduceIte, Nat.reduceLeDiff, Nat.reduceLT, Nat.reduceBEq, reduceCtorEq, hP, hw]); (repeat (refine And.intro (by first | omega | (intros; simp_all; done) | (intros; simp_all; omega)) ?_))))
            refine ⟨k + 1, by omega, by omega, ?_⟩
            rw [hM2]
            (refine Sub_of (by simp only [go_sem, init_env', Nat.reduceEqDiff, Nat.reduceAdd, Nat.reduceMul, reduceIte, Nat.reduceLeDiff, Nat.reduceLT, Nat.reduceBEq, reduceCtorEq]; ((repeat' (first | exact EnvLe_e0 _ _ | refine EnvLe_upd ?_ ?_)) <;> ((try simp only [upd_app, e0_app, o0_app, Nat.reduceEqDiff, reduceIte]); first | exact AWk.refl _ _ | exact AWk.int (by omega) | exact AWk.int (by rw [w64 (by omega) (by omega)]; omega) | exact AWk.grow rfl | exact AWk.nil _ | exact AWk.of (by simp)))) (by simp only [go_sem, init_env', Nat.reduceEqDiff, Nat.reduceAdd, Nat.reduceMul, reduceIte, Nat.reduceLeDiff, Nat.reduceLT, Nat.reduceBEq, reduceCtorEq]; ((repeat' (first | exact ObjLe_o0 _ | exact ObjLe.rfl' _ | refine ObjLe_same ?_ | refine ObjLe_upd ?_ ?_ | refine ObjLe_new rfl ?_)) <;> rfl)))
          · have h : k = t.pres.length := by simp at h; omega
            subst h
            rw [mapK_all]
            (refine WV_exit ?_; simp only [go_sem, init_env', Nat.reduceEqDiff, Nat.reduceAdd, Nat.reduceMul, reduceIte, Nat.reduceLeDiff, Nat.reduceLT, Nat.reduceBEq, reduceCtorEq])
            (repeat ((first | refine WV_seq_ ?_ | refine WV_block ?_ | refine WV_ops ?_ | refine WV_skip ?_ | refine WV_exit ?_); (try simp only [go_sem, init_env', Nat.reduceEqDiff, Nat.reduceAdd, Nat.reduceMul, reduceIte, Nat.reduceLeDiff, Nat.reduceLT, Nat.reduceBEq, reduceCtorEq, hP, ]); (repeat (refine And.intro (by first | omega | (intros; simp_all; done) | (intros; simp_all; omega)) ?_))))
            have hrs := recs_scal (o.map t.rc)
            have hps := prs_scal (t.pres.map (arrP o))
            have hel : ∀ own : Nat → Ob, own 900 = .box (cellsG Pr.cds (t.pres.map (arrP o)) J) → AV.elemsV own (.vw 2 900 0 t.pres.length cap) = some (2, (t.pres.map (arrP o)).map Pr.cds) := fun own h => by
              have := elemsV_cellsG pr_two own 900 (t.pres.map (arrP o)) J cap h
              rwa [List.length_map] at this
            (refine WV_ret ?_; simp only [thenQ, inQ, RetQF, RetOkF, resAll, resA]; simp only [go_sem, init_env', Nat.reduceEqDiff, Nat.reduceAdd, Nat.reduceMul, reduceIte, Nat.reduceLeDiff, Nat.reduceLT, Nat.reduceBEq, reduceCtorEq, tupA, AV.fport, AV.fportL, CD.scal, exists_eq_left', hrs, hel, hps]; refine And.intro (by ((repeat' (first | exact NoWin_o0 | refine NoWin_upd (fun cs h => by cases h) ?_)))) ?_)
            exact AVle.of rfl
end Go.Proofs.Ytkpgpgaojjobgaa

namespace Go.Proofs.Ytkpgpgaojjobgaa
open Go Go.V
@[reducible] def o77_0 : List Ins := [⟨(some 6), .ld false 5 (.t 1), none, true⟩,
  ⟨(some 7), .mv (.t 0), none, true⟩,
  ⟨(some 8), .call (.k (.fn 78 [])) [(.t 6), (.t 7)], none, true⟩,
  ⟨(some 9), .call (.k (.fn 54 [])) [(.t 8)], none, true⟩,
  ⟨(some 10), .fld true 1 3 (.t 9), none, true⟩,
  ⟨(some 5), .mv (.t 10), none, true⟩]
@[reducible] def o77_1 : List Ins := [⟨(some 11), .ld true 1 (.t 2), none, true⟩,
  ⟨(some 12), .bin .lss (.t 11) (.k (.c (.int .i64 0))), none, true⟩,
  ⟨(some 13), .mv (.t 12), none, true⟩,
  ⟨(some 14), .mv (.t 5), (some (13, false)), true⟩,
  ⟨(some 15), .ld true 1 (.t 2), (some (13, false)), true⟩,
  ⟨(some 16), .bin .lss (.t 14) (.t 15), (some (13, false)), true⟩,
  ⟨(some 17), .pick (.t 13) (.k (.c (.bool true))) (.t 16), none, true⟩]
@[reducible] def o77_2 : List Ins := [⟨(some 18), .mv (.t 0), none, true⟩,
  ⟨(some 19), .call (.k (.fn 79 [])) [(.t 18)], none, true⟩,
  ⟨(some 20), .mv (.t 5), none, true⟩,
  ⟨none, .st 1 (.t 3) (.t 19), none, true⟩,
  ⟨none, .st 1 (.t 2) (.t 20), none, true⟩]
@[reducible] def v77_3 : VC := (.cond (.t 17) (.ops o77_2) .skip)
@[reducible] def v77_4 : VC := (.seq (.ops o77_1) v77_3)
def ir77 : FC := ⟨4, 21, [], (.seq (.ops o77_0) v77_4)⟩
@[reducible] def o63_0 : List Ins := [⟨(some 1), .box 5 (.t 0), none, true⟩,
  ⟨(some 2), .alloc [(.c (.raw (.slice none 0 0)))], none, true⟩,
  ⟨(some 3), .alloc [(.c (.int .i64 0))], none, true⟩]
@[reducible] def o63_1 : List Ins := [⟨none, .st 1 (.t 3) (.k (.c (.int .i64 (-1)))), none, true⟩]
@[reducible] def o63_2 : List Ins := [⟨(some 4), .fa 0 (.t 1), none, true⟩,
  ⟨(some 5), .ld true 1 (.t 4), none, true⟩,
  ⟨(some 6), .len (.t 5), none, true⟩,
  ⟨(some 7), .mkfn 77 [(.t 1), (.t 3), (.t 2)], none, true⟩,
  ⟨(some 8), .call (.k (.fn 76 [])) [(.t 6), (.t 7)], none, true⟩]
@[reducible] def t63_3 : OT := (.cons ⟨(some 9), .ld true 1 (.t 2), none, false⟩
  (.br [(.cons ⟨(some 10), .ld true 1 (.t 3), none, false⟩
    (.cons ⟨none, .st 1 (.t 2) (.t 9), none, false⟩
    (.cons ⟨none, .st 1 (.t 3) (.t 10), none, true⟩
    .nil))), (.cons ⟨none, .st 1 (.t 2) (.t 9), none, false⟩
    (.cons ⟨(some 10), .ld true 1 (.t 3), none, false⟩
    (.cons ⟨none, .st 1 (.t 3) (.t 10), none, true⟩
    .nil)))]))
@[reducible] def v63_4 : VC := (.seq (.drw t63_3) .ret)
@[reducible] def v63_5 : VC := (.seq (.ops o63_2) v63_4)
@[reducible] def v63_6 : VC := (.seq (.ops o63_1) v63_5)
def ir63 : FC := ⟨1, 11, [.cell 2 true 1, .cell 3 true 1], (.seq (.ops o63_0) v63_6)⟩
@[reducible] def o37_0 : List Ins := [⟨(some 1), .box 5 (.t 0), none, true⟩,
  ⟨(some 2), .mv (.k (.c (.int .i64 0))), none, true⟩,
  ⟨(some 3), .mv (.k (.c (.int .i64 0))), none, true⟩]
@[reducible] def o37_1 : List Ins := [⟨(some 7), .ld false 5 (.t 1), none, true⟩,
  ⟨(some 8), .call (.k (.fn 62 [])) [(.t 7)], none, true⟩,
  ⟨(some 4), .mv (.t 8), none, true⟩]
@[reducible] def o37_2 : List Ins := [⟨(some 9), .mv (.t 4), none, true⟩,
  ⟨(some 10), .bin .neq (.t 9) (.k (.c (.int .i64 0))), none, true⟩]
@[reducible] def o37_3 : List Ins := [⟨(some 11), .mv (.t 4), none, true⟩,
  ⟨(some 2), .mv (.k (.c (.int .i64 0))), none, true⟩,
  ⟨(some 3), .mv (.t 11), none, true⟩]
@[reducible] def v37_4 : VC := (.seq (.ops o37_3) .ret)
@[reducible] def v37_5 : VC := (.cond (.t 10) v37_4 .skip)
@[reducible] def v37_6 : VC := (.seq (.ops o37_2) v37_5)
@[reducible] def o37_7 : List Ins := [⟨(some 13), .ld false 5 (.t 1), none, true⟩,
  ⟨(some 14), .call (.k (.fn 63 [])) [(.t 13)], none, true⟩,
  ⟨(some 12), .mv (.t 14), none, true⟩,
  ⟨(some 15), .ext (.t 12) 0, none, true⟩,
  ⟨(some 16), .ext (.t 12) 1, none, true⟩,
  ⟨(some 5), .mv (.t 15), none, true⟩,
  ⟨(some 6), .mv (.t 16), none, true⟩]
@[reducible] def o37_8 : List Ins := [⟨(some 17), .mv (.t 6), none, true⟩,
  ⟨(some 2), .mv (.t 17), none, true⟩,
  ⟨(some 3), .mv (.k (.c (.int .i64 0))), none, true⟩]
@[reducible] def v37_9 : VC := (.seq (.ops o37_8) .ret)
@[reducible] def v37_10 : VC := (.seq (.ops o37_7) v37_9)
@[reducible] def v37_11 : VC := (.seq (.seq (.ops o37_1) v37_6) v37_10)
def ir37 : FC := ⟨1, 18, [.t 2, .t 3], (.seq (.ops o37_0) v37_11)⟩
theorem c77 : compM Try.prog [] 77 = some ir77 := by kernel_rfl
theorem c63 : compM Try.prog [] 63 = some ir63 := by kernel_rfl
theorem c37 : compM Try.prog [] 37 = some ir37 := by kernel_rfl
theorem elemsV_winG {α : Type} {cds : α → List CD} {m : Nat} (hm : ∀ a, (cds a).length = m) (own : Nat → Ob) (n : Nat) (l : List α) (j cap : Nat) (h : own n = .win (cellsG cds l j)) : AV.elemsV own (.vw m n 0 l.length cap) = some (m, l.map cds) := by
  have h2 : (cellsG cds l j).take (l.length * m) = (flatG cds l).map .c := by rw [cellsG_take hm]; simp [cellsG]
  have h3 : ((flatG cds l).map AV.c).mapM (AV.toCD own) = some (flatG cds l) := by
    induction flatG cds l with
    | nil => rfl
    | cons a t ih => simp only [List.map_cons, List.mapM_cons, AV.toCD, Option.pure_def, Option.bind_eq_bind, Option.bind_some, ih]
  simp only [AV.elemsV, h, Ob.cellsR, Nat.zero_add, List.drop_zero, h2, h3, Option.map_some]
  rw [if_pos (by rw [cellsG_len hm]; omega)]
  have := grp_cellsG hm l
  rw [List.take_of_length_le (by rw [flatG_len hm]; exact Nat.le_refl _)] at this
  rw [this]
/-- When the last side has ended, with the records in another order. -/
def endO (t : Tray) (o : List Nat) : Int := (goesS (arrT t o)).end_
def bestStep (t : Tray) (s : Int × Option (List Nat)) (o : List Nat) : Int × Option (List Nat) := if s.1 < 0 ∨ endO t o < s.1 then (endO t o, some o) else s
def bestG (t : Tray) (l : List (List Nat)) : Int × Option (List Nat) := l.foldl (bestStep t) (-1, none)
theorem bestG_snoc (t : Tray) (l : List (List Nat)) (o : List Nat) : bestG t (l ++ [o]) = bestStep t (bestG t l) o := by unfold bestG; rw [List.foldl_append]; rfl
def ordA : Option (List Nat) → AV
  | none => .c (.raw (.slice none 0 0))
  | some o => .c (natsC o)
def bestO (s : Int × Option (List Nat)) : List Ob := [.box [iv s.1], .box [ordA s.2]]

set_option maxRecDepth 20000 in
set_option maxHeartbeats 8000000 in
theorem best77 {t : Tray} (ht : TrayOk t) {o : List Nat} (ho : IsOrd t.n o) (s : Int × Option (List Nat)) :
    FSpecL Try.prog 77 [.vw 1 2000 0 o.length o.length, .c (.pt t.cds), .bp 1000 0, .bp 1001 0] (bestO s) [cellsG ncd o 0] (fun res l' => res = .tup [] ∧ l' = bestO (bestStep t s o)) := by
  have hn6 := ht.n6
  have hol := ho.len
  have har := arranged78 ht ho
  have hgo := goes54 (arr_ok ht ho)
  have hend : (goesS (arrT t o)).end_ = endO t o := rfl
  obtain ⟨m, so⟩ := s
  generalize hA : ordA so = A
  simp only [bestO, hA]
  refine FSpecL_of c77 (by first | simp | exact Nat.le_of_ble_eq_true rfl) (Nat.le_refl _) (by decide) (by decide) fun C hP hN hC hL => ?_; rw [init_env', ownW_upd (by first | simp | exact Nat.le_of_ble_eq_true rfl)]; simp only [ir77, updL, updLo, List.map_nil, List.map_cons, Nat.reduceAdd, ]
  (repeat ((first | refine WV_seq_ ?_ | refine WV_block ?_ | refine WV_ops ?_ | refine WV_skip ?_ | refine WV_exit ?_); (try simp only [go_sem, init_env', Nat.reduceEqDiff, Nat.reduceAdd, Nat.reduceMul, reduceIte, Nat.reduceLeDiff, Nat.reduceLT, Nat.reduceBEq, reduceCtorEq, hP, Tray.cds, List.length_cons, List.length_nil, List.map_cons, List.map_nil]); (repeat (refine And.intro (by first | omega | (intros; simp_all; done) | (intros; simp_all; omega)) ?_))))
  refine AS_fresh har rfl rfl rfl ?_ rfl ?_
  · simp only [go_sem, init_env', Nat.reduceEqDiff, Nat.reduceAdd, Nat.reduceMul, reduceIte, Nat.reduceLeDiff, Nat.reduceLT, Nat.reduceBEq, reduceCtorEq, AV.vportL, AV.vport, List.take_succ_cons, List.take_zero]
    rw [elemsV_winG ncd_one _ 2000 o 0 o.length rfl]
    rfl
  simp only [go_sem, init_env', Nat.reduceEqDiff, Nat.reduceAdd, Nat.reduceMul, reduceIte, Nat.reduceLeDiff, Nat.reduceLT, Nat.reduceBEq, reduceCtorEq, hP]
  (repeat ((first | refine WV_seq_ ?_ | refine WV_block ?_ | refine WV_ops ?_ | refine WV_skip ?_ | refine WV_exit ?_); (try simp only [go_sem, init_env', Nat.reduceEqDiff, Nat.reduceAdd, Nat.reduceMul, reduceIte, Nat.reduceLeDiff, Nat.reduceLT, Nat.reduceBEq, reduceCtorEq, hP, ]); (repeat (refine And.intro (by first | omega | (intros; simp_all; done) | (intros; simp_all; omega)) ?_))))
  (refine AS_pure (hgo) rfl rfl rfl rfl rfl ?_; simp only [go_sem, init_env', Nat.reduceEqDiff, Nat.reduceAdd, Nat.reduceMul, reduceIte, Nat.reduceLeDiff, Nat.reduceLT, Nat.reduceBEq, reduceCtorEq, hP, Cs.run, hend]; (repeat (refine And.intro (by first | omega | (intros; simp_all; done) | (intros; simp_all; omega)) ?_)); (repeat ((first | refine WV_seq_ ?_ | refine WV_block ?_ | refine WV_ops ?_ | refine WV_skip ?_ | refine WV_exit ?_); (try simp only [go_sem, init_env', Nat.reduceEqDiff, Nat.reduceAdd, Nat.reduceMul, reduceIte, Nat.reduceLeDiff, Nat.reduceLT, Nat.reduceBEq, reduceCtorEq, hP, Cs.run, hend]); (repeat (refine And.intro (by first | omega | (intros; simp_all; done) | (intros; simp_all; omega)) ?_)))))
  by_cases hc : m < 0 ∨ endO t o < m
  · have hst : bestStep t (m, so) o = (endO t o, some o) := by unfold bestStep; rw [if_pos hc]
    have hb : (decide (m < 0) || decide (endO t o < m)) = true := by simpa using hc
    rw [hb, hst]
    (refine WV_cond rfl (fun h => ?_) (fun h => ?_))
    rotate_left
    · simp at h
    (repeat ((first | refine WV_seq_ ?_ | refine WV_block ?_ | refine WV_ops ?_ | refine WV_skip ?_ | refine WV_exit ?_); (try simp only [go_sem, init_env', Nat.reduceEqDiff, Nat.reduceAdd, Nat.reduceMul, reduceIte, Nat.reduceLeDiff, Nat.reduceLT, Nat.reduceBEq, reduceCtorEq, hP, ]); (repeat (refine And.intro (by first | omega | (intros; simp_all; done) | (intros; simp_all; omega)) ?_))))
    refine AS_fresh (cloneI79 o (by omega)) rfl rfl rfl ?_ rfl ?_
    · simp only [go_sem, init_env', Nat.reduceEqDiff, Nat.reduceAdd, Nat.reduceMul, reduceIte, Nat.reduceLeDiff, Nat.reduceLT, Nat.reduceBEq, reduceCtorEq, AV.vportL, AV.vport]
      rw [elemsV_winG ncd_one _ 2000 o 0 o.length rfl]
      rfl
    simp only [go_sem, init_env', Nat.reduceEqDiff, Nat.reduceAdd, Nat.reduceMul, reduceIte, Nat.reduceLeDiff, Nat.reduceLT, Nat.reduceBEq, reduceCtorEq, hP]
    (repeat ((first | refine WV_seq_ ?_ | refine WV_block ?_ | refine WV_ops ?_ | refine WV_skip ?_ | refine WV_exit ?_); (try simp only [go_sem, init_env', Nat.reduceEqDiff, Nat.reduceAdd, Nat.reduceMul, reduceIte, Nat.reduceLeDiff, Nat.reduceLT, Nat.reduceBEq, reduceCtorEq, hP, ]); (repeat (refine And.intro (by first | omega | (intros; simp_all; done) | (intros; simp_all; omega)) ?_))))
    ((try simp only [thenQ, inQ, RetQL, RetOkL, resAll, resA]); (try simp only [go_sem, init_env', Nat.reduceEqDiff, Nat.reduceAdd, Nat.reduceMul, reduceIte, Nat.reduceLeDiff, Nat.reduceLT, Nat.reduceBEq, reduceCtorEq, tupA, AV.keepP, AV.keepPL]); refine ⟨_, [.box [iv (endO t o)], .box [.c (natsC o)]], rfl, KeepL_mk rfl rfl ?_ ?_ rfl, ?_⟩)
    · simp only [go_sem, init_env', Nat.reduceEqDiff, Nat.reduceAdd, Nat.reduceMul, reduceIte, Nat.reduceLeDiff, Nat.reduceLT, Nat.reduceBEq, reduceCtorEq, keepAll, Ob.keepP, AV.keepP, AV.keepPL]
    · simp only [go_sem, init_env', Nat.reduceEqDiff, Nat.reduceAdd, Nat.reduceMul, reduceIte, Nat.reduceLeDiff, Nat.reduceLT, Nat.reduceBEq, reduceCtorEq, winAll]
    · exact ⟨rfl, rfl⟩
  · have hst : bestStep t (m, so) o = (m, so) := by
      unfold bestStep; rw [if_neg hc]
    have hb : (decide (m < 0) || decide (endO t o < m)) = false := by simpa using hc
    rw [hb, hst]
    (refine WV_cond rfl (fun h => ?_) (fun h => ?_))
    · simp at h
    refine WV_skip ?_
    ((try simp only [thenQ, inQ, RetQL, RetOkL, resAll, resA]); (try simp only [go_sem, init_env', Nat.reduceEqDiff, Nat.reduceAdd, Nat.reduceMul, reduceIte, Nat.reduceLeDiff, Nat.reduceLT, Nat.reduceBEq, reduceCtorEq, tupA, AV.keepP, AV.keepPL]); refine ⟨_, [.box [iv m], .box [A]], rfl, KeepL_mk rfl rfl ?_ ?_ rfl, ?_⟩)
    · rw [← hA]
      cases so <;> simp only [go_sem, init_env', Nat.reduceEqDiff, Nat.reduceAdd, Nat.reduceMul, reduceIte, Nat.reduceLeDiff, Nat.reduceLT, Nat.reduceBEq, reduceCtorEq, keepAll, Ob.keepP, AV.keepP, AV.keepPL, ordA]
    · simp only [go_sem, init_env', Nat.reduceEqDiff, Nat.reduceAdd, Nat.reduceMul, reduceIte, Nat.reduceLeDiff, Nat.reduceLT, Nat.reduceBEq, reduceCtorEq, winAll]
    · refine ⟨rfl, ?_⟩
      rw [← hA]

/-- All orders are orders. -/
theorem swap_ord {n : Nat} {o : List Nat} (h : IsOrd n o) {i j : Nat} (hi : i < n) (hj : j < n) : IsOrd n (swapL o i j) := by
  have hl := h.len
  have hi' : i < o.length := by omega
  have hj' : j < o.length := by omega
  have e : swapL o i j = (o.set i o[j]).set j o[i] := by unfold swapL; simp [hi', hj']
  rw [e]
  exact (List.set_set_perm hi' hj').trans h
theorem perms_ord {n : Nat} : ∀ (f : Nat) (o : List Nat), f ≤ n → IsOrd n o → ∀ x ∈ permsF n f o, IsOrd n x
  | 0, o, _, h, x, hx => by simp only [permsF, List.mem_singleton] at hx; subst hx; exact h
  | f + 1, o, hf, h, x, hx => by
    simp only [permsF] at hx
    obtain ⟨j, hj, hx⟩ := List.mem_flatMap.1 hx
    have hj := List.mem_range.1 hj
    exact perms_ord f _ (by omega) (swap_ord h (by omega) (by omega)) x hx
theorem permsS_ord {n : Nat} {o : List Nat} (h : o ∈ permsS n) : IsOrd n o := perms_ord n _ (Nat.le_refl _) (List.Perm.refl _) o h
def bestS (t : Tray) : Int × Option (List Nat) := bestG t (permsS t.n)
def cdOrd : Option (List Nat) → AV
  | none => .c (natsC [])
  | some o => .c (natsC o)
set_option maxRecDepth 20000 in
set_option maxHeartbeats 8000000 in
theorem best63 {t : Tray} (ht : TrayOk t) : FSpec Try.prog 63 [t.av] (.tup [cdOrd (bestS t).2, iv (bestS t).1]) := by
  have hn6 := ht.n6
  refine FSpec_of c63 (Nat.le_refl _) (by decide) fun C hP hN hC hL => ?_
  simp only [ir63, Tray.av]
  (refine WV_seq_ (WV_ops ?_); simp only [go_sem, init_env', Nat.reduceEqDiff, Nat.reduceAdd, Nat.reduceMul, reduceIte, Nat.reduceLeDiff, Nat.reduceLT, Nat.reduceBEq, reduceCtorEq, hP, ]; (repeat (refine And.intro (by first | omega | (intros; simp_all; done) | (intros; simp_all; omega)) ?_)))
  refine WV_freeze 1 (ds := t.cds) rfl rfl ?_
  simp only [go_sem, init_env', Nat.reduceEqDiff, Nat.reduceAdd, Nat.reduceMul, reduceIte, Nat.reduceLeDiff, Nat.reduceLT, Nat.reduceBEq, reduceCtorEq, List.drop_zero]
  refine WV_seq_ (WV_ops ?_)
  simp only [go_sem, init_env', Nat.reduceEqDiff, Nat.reduceAdd, Nat.reduceMul, reduceIte, Nat.reduceLeDiff, Nat.reduceLT, Nat.reduceBEq, reduceCtorEq, hP]
  refine WV_seq_ (WV_ops ?_)
  simp only [go_sem, init_env', Nat.reduceEqDiff, Nat.reduceAdd, Nat.reduceMul, reduceIte, Nat.reduceLeDiff, Nat.reduceLT, Nat.reduceBEq, reduceCtorEq, hP, Tray.cds, recsC, List.length_map]
  have hnl : t.recs.length = t.n := rfl
  have hid : IsOrd t.n (List.range t.n) := List.Perm.refl _
  refine AS_clos [3, 2] [iv t.n] [] (l := bestO (bestG t [])) (lf := bestO (bestG t (permsS t.n))) (rem := (permsS t.n).map entO) (r := .tup []) (fun g => orders76 t.n (by omega) g) rfl rfl rfl (by decide) (by decide) rfl (by simp only [go_sem, init_env', Nat.reduceEqDiff, Nat.reduceAdd, Nat.reduceMul, reduceIte, Nat.reduceLeDiff, Nat.reduceLT, Nat.reduceBEq, reduceCtorEq, AV.lendL, AV.lend]; rfl) rfl rfl (by simp only [go_sem, init_env', Nat.reduceEqDiff, Nat.reduceAdd, Nat.reduceMul, reduceIte, Nat.reduceLeDiff, Nat.reduceLT, Nat.reduceBEq, reduceCtorEq, obsLend, Ob.lend, AV.lend, AV.lendL]; rfl) (best77 ht hid (0, none)).1 ?_ rfl ?_
  · refine Run_pre entO (fun pre => bestO (bestG t pre)) (permsS t.n) (fun pre => ?_) (fun o _ => rfl) (fun pre o post hts => ?_) (permsS t.n) [] rfl
    · cases h : (bestG t pre).2 <;> simp [bestO, ordA, h, Ob.solid] <;> exact ⟨rfl, rfl⟩
    · have ho : IsOrd t.n o := permsS_ord (by rw [hts]; simp)
      have := best77 ht ho (bestG t pre)
      simp only [bestG_snoc]
      exact this
  · refine ⟨[.box [iv (bestS t).1], .box [ordA (bestS t).2]], ?_, rfl, ?_⟩
    · show obsBack [3, 2] (bestO (bestS t)) = _
      generalize bestS t = S
      obtain ⟨m, so⟩ := S
      cases so <;> rfl
    · generalize bestS t = S
      obtain ⟨m, so⟩ := S
      cases so with
      | none =>
        simp only [go_sem, init_env', Nat.reduceEqDiff, Nat.reduceAdd, Nat.reduceMul, reduceIte, Nat.reduceLeDiff, Nat.reduceLT, Nat.reduceBEq, reduceCtorEq, hP, ownBack, ordA]
        (repeat ((first | refine WV_seq_ ?_ | refine WV_block ?_ | refine WV_ops ?_ | refine WV_skip ?_ | refine WV_exit ?_); (try simp only [go_sem, init_env', Nat.reduceEqDiff, Nat.reduceAdd, Nat.reduceMul, reduceIte, Nat.reduceLeDiff, Nat.reduceLT, Nat.reduceBEq, reduceCtorEq, hP, ]); (repeat (refine And.intro (by first | omega | (intros; simp_all; done) | (intros; simp_all; omega)) ?_))))
        (refine WV_drw ?_; simp only [go_sem, init_env', Nat.reduceEqDiff, Nat.reduceAdd, Nat.reduceMul, reduceIte, Nat.reduceLeDiff, Nat.reduceLT, Nat.reduceBEq, reduceCtorEq, hP, ]; (repeat' (refine And.intro ?_ ?_)))
        all_goals
          (repeat ((first | refine WV_seq_ ?_ | refine WV_block ?_ | refine WV_ops ?_ | refine WV_skip ?_ | refine WV_exit ?_); (try simp only [go_sem, init_env', Nat.reduceEqDiff, Nat.reduceAdd, Nat.reduceMul, reduceIte, Nat.reduceLeDiff, Nat.reduceLT, Nat.reduceBEq, reduceCtorEq, hP, ]); (repeat (refine And.intro (by first | omega | (intros; simp_all; done) | (intros; simp_all; omega)) ?_))))
          (refine WV_ret ?_; simp only [thenQ, inQ, RetQ, RetOk, resAll, resA]; simp only [go_sem, init_env', Nat.reduceEqDiff, Nat.reduceAdd, Nat.reduceMul, reduceIte, Nat.reduceLeDiff, Nat.reduceLT, Nat.reduceBEq, reduceCtorEq, tupA, AV.port, AV.portL, exists_eq_left', ])
          exact AVle.tup (AVles.cons (AVle.nil 1) (AVles.refl _))
      | some o =>
        simp only [go_sem, init_env', Nat.reduceEqDiff, Nat.reduceAdd, Nat.reduceMul, reduceIte, Nat.reduceLeDiff, Nat.reduceLT, Nat.reduceBEq, reduceCtorEq, hP, ownBack, ordA]
        (repeat ((first | refine WV_seq_ ?_ | refine WV_block ?_ | refine WV_ops ?_ | refine WV_skip ?_ | refine WV_exit ?_); (try simp only [go_sem, init_env', Nat.reduceEqDiff, Nat.reduceAdd, Nat.reduceMul, reduceIte, Nat.reduceLeDiff, Nat.reduceLT, Nat.reduceBEq, reduceCtorEq, hP, ]); (repeat (refine And.intro (by first | omega | (intros; simp_all; done) | (intros; simp_all; omega)) ?_))))
        (refine WV_drw ?_; simp only [go_sem, init_env', Nat.reduceEqDiff, Nat.reduceAdd, Nat.reduceMul, reduceIte, Nat.reduceLeDiff, Nat.reduceLT, Nat.reduceBEq, reduceCtorEq, hP, ]; (repeat' (refine And.intro ?_ ?_)))
        all_goals
          (repeat ((first | refine WV_seq_ ?_ | refine WV_block ?_ | refine WV_ops ?_ | refine WV_skip ?_ | refine WV_exit ?_); (try simp only [go_sem, init_env', Nat.reduceEqDiff, Nat.reduceAdd, Nat.reduceMul, reduceIte, Nat.reduceLeDiff, Nat.reduceLT, Nat.reduceBEq, reduceCtorEq, hP, ]); (repeat (refine And.intro (by first | omega | (intros; simp_all; done) | (intros; simp_all; omega)) ?_))))
          (refine WV_ret ?_; simp only [thenQ, inQ, RetQ, RetOk, resAll, resA]; simp only [go_sem, init_env', Nat.reduceEqDiff, Nat.reduceAdd, Nat.reduceMul, reduceIte, Nat.reduceLeDiff, Nat.reduceLT, Nat.reduceBEq, reduceCtorEq, tupA, AV.port, AV.portL, exists_eq_left', ]; (first | exact AVle.of rfl | refine AVle.of ?_ | skip))

def soonR (t : Tray) : Int × Int := if pressedE t = 0 then ((bestS t).1, 0) else (0, pressedE t)
theorem soonest37 (t : Tray) : FSpec Try.prog 37 [t.av] (.tup [iv (soonR t).1, iv (soonR t).2]) := by
  have hck := pressed62 t
  unfold soonR
  by_cases h0 : pressedE t = 0
  · rw [if_pos h0]
    rw [h0] at hck
    have hgo := best63 (Tray.ok_spec (pressed_zero h0).1).1
    generalize bestS t = S at *
    obtain ⟨m, so⟩ := S
    cases so <;>
    · simp only [cdOrd] at hgo
      refine FSpec_of c37 (Nat.le_refl _) (by decide) fun C hP hN hC hL => ?_
      simp only [ir37, Tray.av]
      (repeat ((first | refine WV_seq_ ?_ | refine WV_block ?_ | refine WV_ops ?_ | refine WV_skip ?_ | refine WV_exit ?_); (try simp only [go_sem, init_env', Nat.reduceEqDiff, Nat.reduceAdd, Nat.reduceMul, reduceIte, Nat.reduceLeDiff, Nat.reduceLT, Nat.reduceBEq, reduceCtorEq, hP, ]); (repeat (refine And.intro (by first | omega | (intros; simp_all; done) | (intros; simp_all; omega)) ?_))))
      (refine AS_pure (hck) rfl rfl rfl rfl rfl ?_; simp only [go_sem, init_env', Nat.reduceEqDiff, Nat.reduceAdd, Nat.reduceMul, reduceIte, Nat.reduceLeDiff, Nat.reduceLT, Nat.reduceBEq, reduceCtorEq, hP, Tray.av]; (repeat (refine And.intro (by first | omega | (intros; simp_all; done) | (intros; simp_all; omega)) ?_)); (repeat ((first | refine WV_seq_ ?_ | refine WV_block ?_ | refine WV_ops ?_ | refine WV_skip ?_ | refine WV_exit ?_); (try simp only [go_sem, init_env', Nat.reduceEqDiff, Nat.reduceAdd, Nat.reduceMul, reduceIte, Nat.reduceLeDiff, Nat.reduceLT, Nat.reduceBEq, reduceCtorEq, hP, Tray.av]); (repeat (refine And.intro (by first | omega | (intros; simp_all; done) | (intros; simp_all; omega)) ?_)))))
      (refine WV_cond rfl (fun h => ?_) (fun h => ?_))
      · simp at h
      · (repeat ((first | refine WV_seq_ ?_ | refine WV_block ?_ | refine WV_ops ?_ | refine WV_skip ?_ | refine WV_exit ?_); (try simp only [go_sem, init_env', Nat.reduceEqDiff, Nat.reduceAdd, Nat.reduceMul, reduceIte, Nat.reduceLeDiff, Nat.reduceLT, Nat.reduceBEq, reduceCtorEq, hP, ]); (repeat (refine And.intro (by first | omega | (intros; simp_all; done) | (intros; simp_all; omega)) ?_))))
        (refine AS_pure (hgo) rfl rfl rfl rfl rfl ?_; simp only [go_sem, init_env', Nat.reduceEqDiff, Nat.reduceAdd, Nat.reduceMul, reduceIte, Nat.reduceLeDiff, Nat.reduceLT, Nat.reduceBEq, reduceCtorEq, hP, Tray.av]; (repeat (refine And.intro (by first | omega | (intros; simp_all; done) | (intros; simp_all; omega)) ?_)); (repeat ((first | refine WV_seq_ ?_ | refine WV_block ?_ | refine WV_ops ?_ | refine WV_skip ?_ | refine WV_exit ?_); (try simp only [go_sem, init_env', Nat.reduceEqDiff, Nat.reduceAdd, Nat.reduceMul, reduceIte, Nat.reduceLeDiff, Nat.reduceLT, Nat.reduceBEq, reduceCtorEq, hP, Tray.av]); (repeat (refine And.intro (by first | omega | (intros; simp_all; done) | (intros; simp_all; omega)) ?_)))))
        (refine WV_ret ?_; simp only [thenQ, inQ, RetQ, RetOk, resAll, resA]; simp only [go_sem, init_env', Nat.reduceEqDiff, Nat.reduceAdd, Nat.reduceMul, reduceIte, Nat.reduceLeDiff, Nat.reduceLT, Nat.reduceBEq, reduceCtorEq, tupA, AV.port, AV.portL, exists_eq_left', ]; (first | exact AVle.of rfl | refine AVle.of ?_ | skip))
  · rw [if_neg h0]
    have hb : (pressedE t != 0) = true := by simpa using h0
    refine FSpec_of c37 (Nat.le_refl _) (by decide) fun C hP hN hC hL => ?_
    simp only [ir37, Tray.av]
    (repeat ((first | refine WV_seq_ ?_ | refine WV_block ?_ | refine WV_ops ?_ | refine WV_skip ?_ | refine WV_exit ?_); (try simp only [go_sem, init_env', Nat.reduceEqDiff, Nat.reduceAdd, Nat.reduceMul, reduceIte, Nat.reduceLeDiff, Nat.reduceLT, Nat.reduceBEq, reduceCtorEq, hP, ]); (repeat (refine And.intro (by first | omega | (intros; simp_all; done) | (intros; simp_all; omega)) ?_))))
    (refine AS_pure (hck) rfl rfl rfl rfl rfl ?_; simp only [go_sem, init_env', Nat.reduceEqDiff, Nat.reduceAdd, Nat.reduceMul, reduceIte, Nat.reduceLeDiff, Nat.reduceLT, Nat.reduceBEq, reduceCtorEq, hP, Tray.av, hb]; (repeat (refine And.intro (by first | omega | (intros; simp_all; done) | (intros; simp_all; omega)) ?_)); (repeat ((first | refine WV_seq_ ?_ | refine WV_block ?_ | refine WV_ops ?_ | refine WV_skip ?_ | refine WV_exit ?_); (try simp only [go_sem, init_env', Nat.reduceEqDiff, Nat.reduceAdd, Nat.reduceMul, reduceIte, Nat.reduceLeDiff, Nat.reduceLT, Nat.reduceBEq, reduceCtorEq, hP, Tray.av, hb]); (repeat (refine And.intro (by first | omega | (intros; simp_all; done) | (intros; simp_all; omega)) ?_)))))
    (refine WV_cond rfl (fun h => ?_) (fun h => ?_))
    · (repeat ((first | refine WV_seq_ ?_ | refine WV_block ?_ | refine WV_ops ?_ | refine WV_skip ?_ | refine WV_exit ?_); (try simp only [go_sem, init_env', Nat.reduceEqDiff, Nat.reduceAdd, Nat.reduceMul, reduceIte, Nat.reduceLeDiff, Nat.reduceLT, Nat.reduceBEq, reduceCtorEq, hP, ]); (repeat (refine And.intro (by first | omega | (intros; simp_all; done) | (intros; simp_all; omega)) ?_))))
      (refine WV_ret ?_; simp only [thenQ, inQ, RetQ, RetOk, resAll, resA]; simp only [go_sem, init_env', Nat.reduceEqDiff, Nat.reduceAdd, Nat.reduceMul, reduceIte, Nat.reduceLeDiff, Nat.reduceLT, Nat.reduceBEq, reduceCtorEq, tupA, AV.port, AV.portL, exists_eq_left', ]; (first | exact AVle.of rfl | refine AVle.of ?_ | skip))
    · simp at h
end Go.Proofs.Ytkpgpgaojjobgaa

namespace Go.Proofs.Ytkpgpgaojjobgaa
open Go Go.V
@[reducible] def o52_0 : List Ins := [⟨(some 0), .alloc [(.c (.raw (.slice none 0 0))), (.c (.int .i64 0)), (.c (.int .i64 0)), (.c (.int .i64 0)), (.c (.raw (.slice none 0 0)))], none, true⟩,
  ⟨(some 1), .alloc [(.c (.raw (.slice none 0 0))), (.c (.int .i64 0)), (.c (.int .i64 0)), (.c (.int .i64 0)), (.c (.raw (.slice none 0 0)))], none, true⟩]
@[reducible] def o52_1 : List Ins := [⟨(some 2), .bld [(.c (.int .i64 0)), (.c (.int .i64 0))] [(0, 1, (.k (.c (.int .i64 100)))), (1, 1, (.k (.c (.int .i64 90))))], none, true⟩,
  ⟨(some 3), .bld [(.c (.int .i64 0)), (.c (.int .i64 0))] [(0, 1, (.k (.c (.int .i64 120)))), (1, 1, (.k (.c (.int .i64 80))))], none, true⟩,
  ⟨(some 4), .bld [(.c (.int .i64 0)), (.c (.int .i64 0))] [(0, 1, (.k (.c (.int .i64 60)))), (1, 1, (.k (.c (.int .i64 70))))], none, true⟩,
  ⟨(some 5), .bsl 56 2 [(.t 2), (.t 3), (.t 4)], none, true⟩,
  ⟨(some 6), .bld [(.c (.int .i64 0)), (.c (.int .i64 0))] [(0, 1, (.k (.c (.int .i64 3))))], none, true⟩,
  ⟨(some 7), .bld [(.c (.int .i64 0)), (.c (.int .i64 0))] [(0, 1, (.k (.c (.int .i64 4)))), (1, 1, (.k (.c (.int .i64 10))))], none, true⟩,
  ⟨(some 8), .bld [(.c (.int .i64 0)), (.c (.int .i64 0))] [(1, 1, (.k (.c (.int .i64 12))))], none, true⟩,
  ⟨(some 9), .bld [(.c (.int .i64 0)), (.c (.int .i64 0))] [(0, 1, (.k (.c (.int .i64 3)))), (1, 1, (.k (.c (.int .i64 50))))], none, true⟩,
  ⟨(some 10), .bld [(.c (.int .i64 0)), (.c (.int .i64 0))] [(1, 1, (.k (.c (.int .i64 300))))], none, true⟩,
  ⟨(some 11), .bsl 27 2 [(.t 6), (.t 7), (.t 8), (.t 9), (.t 10)], none, true⟩,
  ⟨(some 12), .bld [(.c (.raw (.slice none 0 0))), (.c (.int .i64 0)), (.c (.int .i64 0)), (.c (.int .i64 0)), (.c (.raw (.slice none 0 0)))] [(0, 1, (.t 5)), (2, 1, (.k (.c (.int .i64 1)))), (3, 1, (.k (.c (.int .i64 5)))), (4, 1, (.t 11))], none, true⟩,
  ⟨none, .st 5 (.t 0) (.t 12), none, true⟩]
@[reducible] def o52_2 : List Ins := [⟨(some 13), .bld [(.c (.int .i64 0)), (.c (.int .i64 0))] [(0, 1, (.k (.c (.int .i64 10)))), (1, 1, (.k (.c (.int .i64 20))))], none, true⟩,
  ⟨(some 14), .bld [(.c (.int .i64 0)), (.c (.int .i64 0))] [(0, 1, (.k (.c (.int .i64 30)))), (1, 1, (.k (.c (.int .i64 40))))], none, true⟩,
  ⟨(some 15), .bsl 56 2 [(.t 13), (.t 14)], none, true⟩,
  ⟨(some 16), .bld [(.c (.int .i64 0)), (.c (.int .i64 0))] [(0, 1, (.k (.c (.int .i64 3))))], none, true⟩,
  ⟨(some 17), .bsl 27 2 [(.t 16)], none, true⟩,
  ⟨(some 18), .bld [(.c (.raw (.slice none 0 0))), (.c (.int .i64 0)), (.c (.int .i64 0)), (.c (.int .i64 0)), (.c (.raw (.slice none 0 0)))] [(0, 1, (.t 15)), (2, 1, (.k (.c (.int .i64 (-1))))), (3, 1, (.k (.c (.int .i64 60)))), (4, 1, (.t 17))], none, true⟩,
  ⟨none, .st 5 (.t 1) (.t 18), none, true⟩]
@[reducible] def t52_3 : OT := (.cons ⟨(some 19), .ld false 5 (.t 0), none, false⟩
  (.br [(.cons ⟨(some 20), .ld false 5 (.t 1), none, false⟩
    (.cons ⟨none, .st 5 (.t 0) (.t 19), none, false⟩
    (.cons ⟨none, .st 5 (.t 1) (.t 20), none, true⟩
    .nil))), (.cons ⟨none, .st 5 (.t 0) (.t 19), none, false⟩
    (.cons ⟨(some 20), .ld false 5 (.t 1), none, false⟩
    (.cons ⟨none, .st 5 (.t 1) (.t 20), none, true⟩
    .nil)))]))
@[reducible] def v52_4 : VC := (.seq (.drw t52_3) .ret)
@[reducible] def v52_5 : VC := (.seq (.ops o52_2) v52_4)
@[reducible] def v52_6 : VC := (.seq (.ops o52_1) v52_5)
def ir52 : FC := ⟨0, 21, [.cell 0 false 5, .cell 1 false 5], (.seq (.ops o52_0) v52_6)⟩
@[reducible] def o19_0 : List Ins := [⟨(some 0), .mv (.k (.c (.bool false))), none, true⟩]
@[reducible] def o19_1 : List Ins := [⟨(some 14), .call (.k (.fn 52 [])) [], none, true⟩,
  ⟨(some 13), .mv (.t 14), none, true⟩,
  ⟨(some 15), .ext (.t 13) 0, none, true⟩,
  ⟨(some 16), .ext (.t 13) 1, none, true⟩,
  ⟨(some 1), .alloc [(.c (.raw (.slice none 0 0))), (.c (.int .i64 0)), (.c (.int .i64 0)), (.c (.int .i64 0)), (.c (.raw (.slice none 0 0)))], none, true⟩,
  ⟨(some 2), .alloc [(.c (.raw (.slice none 0 0))), (.c (.int .i64 0)), (.c (.int .i64 0)), (.c (.int .i64 0)), (.c (.raw (.slice none 0 0)))], none, true⟩,
  ⟨none, .st 5 (.t 1) (.t 15), none, true⟩,
  ⟨none, .st 5 (.t 2) (.t 16), none, true⟩]
@[reducible] def o19_2 : List Ins := [⟨(some 18), .ld false 5 (.t 1), none, true⟩,
  ⟨(some 19), .call (.k (.fn 22 [])) [(.t 18)], none, true⟩,
  ⟨(some 17), .mv (.t 19), none, true⟩,
  ⟨(some 20), .ext (.t 17) 0, none, true⟩,
  ⟨(some 21), .ext (.t 17) 1, none, true⟩,
  ⟨(some 3), .mv (.t 20), none, true⟩,
  ⟨(some 4), .mv (.t 21), none, true⟩]
@[reducible] def o19_3 : List Ins := [⟨(some 23), .ld false 5 (.t 1), none, true⟩,
  ⟨(some 24), .call (.k (.fn 27 [])) [(.t 23), (.k (.c (.int .i64 2)))], none, true⟩,
  ⟨(some 22), .mv (.t 24), none, true⟩,
  ⟨(some 25), .ext (.t 22) 0, none, true⟩,
  ⟨(some 26), .ext (.t 22) 1, none, true⟩,
  ⟨(some 5), .mv (.t 25), none, true⟩,
  ⟨(some 6), .mv (.t 26), none, true⟩]
@[reducible] def o19_4 : List Ins := [⟨(some 28), .ld false 5 (.t 1), none, true⟩,
  ⟨(some 29), .call (.k (.fn 21 [])) [(.t 28), (.k (.c (.int .i64 100)))], none, true⟩,
  ⟨(some 27), .mv (.t 29), none, true⟩,
  ⟨(some 30), .ext (.t 27) 0, none, true⟩,
  ⟨(some 31), .ext (.t 27) 1, none, true⟩,
  ⟨(some 7), .alloc [(.c (.int .i64 0)), (.c (.int .i64 0)), (.c (.int .i64 0))], none, true⟩,
  ⟨none, .st 3 (.t 7) (.t 30), none, true⟩,
  ⟨(some 8), .mv (.t 31), none, true⟩]
@[reducible] def o19_5 : List Ins := [⟨(some 33), .ld false 5 (.t 1), none, true⟩,
  ⟨(some 34), .call (.k (.fn 26 [])) [(.t 33), (.k (.c (.int .i64 2))), (.k (.c (.int .i64 20)))], none, true⟩,
  ⟨(some 32), .mv (.t 34), none, true⟩,
  ⟨(some 35), .ext (.t 32) 0, none, true⟩,
  ⟨(some 36), .ext (.t 32) 1, none, true⟩,
  ⟨(some 9), .mv (.t 35), none, true⟩,
  ⟨(some 10), .mv (.t 36), none, true⟩]
@[reducible] def o19_6 : List Ins := [⟨(some 38), .ld false 5 (.t 2), none, true⟩,
  ⟨(some 39), .call (.k (.fn 37 [])) [(.t 38)], none, true⟩,
  ⟨(some 37), .mv (.t 39), none, true⟩,
  ⟨(some 40), .ext (.t 37) 0, none, true⟩,
  ⟨(some 41), .ext (.t 37) 1, none, true⟩,
  ⟨(some 11), .mv (.t 40), none, true⟩,
  ⟨(some 12), .mv (.t 41), none, true⟩]
@[reducible] def o19_7 : List Ins := [⟨(some 42), .mv (.t 4), none, true⟩,
  ⟨(some 43), .bin .eql (.t 42) (.k (.c (.int .i64 0))), none, true⟩,
  ⟨(some 44), .mv (.t 43), none, true⟩,
  ⟨(some 45), .mv (.t 6), (some (44, true)), true⟩,
  ⟨(some 46), .bin .eql (.t 45) (.k (.c (.int .i64 0))), (some (44, true)), true⟩,
  ⟨(some 47), .pick (.t 44) (.t 46) (.k (.c (.bool false))), none, true⟩,
  ⟨(some 48), .mv (.t 47), none, true⟩,
  ⟨(some 49), .mv (.t 8), (some (48, true)), true⟩,
  ⟨(some 50), .bin .eql (.t 49) (.k (.c (.int .i64 0))), (some (48, true)), true⟩,
  ⟨(some 51), .pick (.t 48) (.t 50) (.k (.c (.bool false))), none, true⟩,
  ⟨(some 52), .mv (.t 51), none, true⟩,
  ⟨(some 53), .mv (.t 10), (some (52, true)), true⟩,
  ⟨(some 54), .bin .eql (.t 53) (.k (.c (.int .i64 0))), (some (52, true)), true⟩,
  ⟨(some 55), .pick (.t 52) (.t 54) (.k (.c (.bool false))), none, true⟩,
  ⟨(some 56), .mv (.t 55), none, true⟩,
  ⟨(some 57), .mv (.t 12), (some (56, true)), true⟩,
  ⟨(some 58), .bin .eql (.t 57) (.k (.c (.int .i64 0))), (some (56, true)), true⟩,
  ⟨(some 59), .pick (.t 56) (.t 58) (.k (.c (.bool false))), none, true⟩,
  ⟨(some 60), .mv (.t 59), none, true⟩,
  ⟨(some 61), .mv (.t 3), (some (60, true)), true⟩,
  ⟨(some 62), .len (.t 61), (some (60, true)), true⟩,
  ⟨(some 63), .bin .eql (.t 62) (.k (.c (.int .i64 4))), (some (60, true)), true⟩,
  ⟨(some 64), .pick (.t 60) (.t 63) (.k (.c (.bool false))), none, true⟩,
  ⟨(some 65), .mv (.t 64), none, true⟩,
  ⟨(some 66), .mv (.t 3), (some (65, true)), true⟩,
  ⟨(some 67), .ia 2 (.t 66) (.k (.c (.int .i64 3))), (some (65, true)), true⟩,
  ⟨(some 68), .ld false 2 (.t 67), (some (65, true)), true⟩,
  ⟨(some 69), .bld [(.c (.int .i64 0)), (.c (.int .i64 0))] [(1, 1, (.k (.c (.int .i64 315))))], (some (65, true)), true⟩,
  ⟨(some 70), .seq false [(0, true), (1, true)] (.t 68) (.t 69), (some (65, true)), true⟩,
  ⟨(some 71), .pick (.t 65) (.t 70) (.k (.c (.bool false))), none, true⟩,
  ⟨(some 72), .mv (.t 71), none, true⟩,
  ⟨(some 73), .mv (.t 5), (some (72, true)), true⟩,
  ⟨(some 74), .bin .eql (.t 73) (.k (.c (.int .i64 148))), (some (72, true)), true⟩,
  ⟨(some 75), .pick (.t 72) (.t 74) (.k (.c (.bool false))), none, true⟩,
  ⟨(some 76), .mv (.t 75), none, true⟩,
  ⟨(some 77), .ld false 3 (.t 7), (some (76, true)), true⟩,
  ⟨(some 78), .bld [(.c (.int .i64 0)), (.c (.int .i64 0)), (.c (.int .i64 0))] [(0, 1, (.k (.c (.int .i64 1)))), (1, 1, (.k (.c (.int .i64 (-1))))), (2, 1, (.k (.c (.int .i64 3))))], (some (76, true)), true⟩,
  ⟨(some 79), .seq false [(0, true), (1, true), (2, true)] (.t 77) (.t 78), (some (76, true)), true⟩,
  ⟨(some 80), .pick (.t 76) (.t 79) (.k (.c (.bool false))), none, true⟩,
  ⟨(some 81), .mv (.t 80), none, true⟩,
  ⟨(some 82), .mv (.t 9), (some (81, true)), true⟩,
  ⟨(some 83), .bin .eql (.t 82) (.k (.c (.int .i64 5))), (some (81, true)), true⟩,
  ⟨(some 84), .pick (.t 81) (.t 83) (.k (.c (.bool false))), none, true⟩,
  ⟨(some 85), .mv (.t 84), none, true⟩,
  ⟨(some 86), .mv (.t 11), (some (85, true)), true⟩,
  ⟨(some 87), .bin .eql (.t 86) (.k (.c (.int .i64 40))), (some (85, true)), true⟩,
  ⟨(some 88), .pick (.t 85) (.t 87) (.k (.c (.bool false))), none, true⟩,
  ⟨(some 0), .mv (.t 88), none, true⟩]
@[reducible] def v19_8 : VC := (.seq (.ops o19_7) .ret)
@[reducible] def v19_9 : VC := (.seq (.ops o19_6) v19_8)
@[reducible] def v19_10 : VC := (.seq (.ops o19_5) v19_9)
@[reducible] def v19_11 : VC := (.seq (.ops o19_4) v19_10)
@[reducible] def v19_12 : VC := (.seq (.ops o19_3) v19_11)
@[reducible] def v19_13 : VC := (.seq (.ops o19_2) v19_12)
@[reducible] def v19_14 : VC := (.seq (.ops o19_1) v19_13)
def ir19 : FC := ⟨0, 89, [.t 0], (.seq (.ops o19_0) v19_14)⟩
theorem c52 : compM Try.prog [] 52 = some ir52 := by kernel_rfl
theorem c19 : compM Try.prog [] 19 = some ir19 := by kernel_rfl



def exT : Tray := ⟨[⟨100, 90⟩, ⟨120, 80⟩, ⟨60, 70⟩], 0, 1, 5, [⟨3, 0⟩, ⟨4, 10⟩, ⟨0, 12⟩, ⟨3, 50⟩, ⟨0, 300⟩]⟩
def exU : Tray := ⟨[⟨10, 20⟩, ⟨30, 40⟩], 0, -1, 60, [⟨3, 0⟩]⟩
theorem example52 : FSpec Try.prog 52 [] (.tup [exT.av, exU.av]) := by
  refine FSpec_of c52 (Nat.le_refl _) (by decide) fun C hP hN hC hL => ?_
  simp only [ir52]
  (repeat ((first | refine WV_seq_ ?_ | refine WV_block ?_ | refine WV_ops ?_ | refine WV_skip ?_ | refine WV_exit ?_); (try simp only [go_sem, init_env', Nat.reduceEqDiff, Nat.reduceAdd, Nat.reduceMul, reduceIte, Nat.reduceLeDiff, Nat.reduceLT, Nat.reduceBEq, reduceCtorEq, hP, ]); (repeat (refine And.intro (by first | omega | (intros; simp_all; done) | (intros; simp_all; omega)) ?_))))
  (refine WV_drw ?_; simp only [go_sem, init_env', Nat.reduceEqDiff, Nat.reduceAdd, Nat.reduceMul, reduceIte, Nat.reduceLeDiff, Nat.reduceLT, Nat.reduceBEq, reduceCtorEq, hP, ]; (repeat' (refine And.intro ?_ ?_)))
  all_goals
    (repeat ((first | refine WV_seq_ ?_ | refine WV_block ?_ | refine WV_ops ?_ | refine WV_skip ?_ | refine WV_exit ?_); (try simp only [go_sem, init_env', Nat.reduceEqDiff, Nat.reduceAdd, Nat.reduceMul, reduceIte, Nat.reduceLeDiff, Nat.reduceLT, Nat.reduceBEq, reduceCtorEq, hP, ]); (repeat (refine And.intro (by first | omega | (intros; simp_all; done) | (intros; simp_all; omega)) ?_))))
    (refine WV_ret ?_; simp only [thenQ, inQ, RetQ, RetOk, resAll, resA]; simp only [go_sem, init_env', Nat.reduceEqDiff, Nat.reduceAdd, Nat.reduceMul, reduceIte, Nat.reduceLeDiff, Nat.reduceLT, Nat.reduceBEq, reduceCtorEq, tupA, AV.port, AV.portL, exists_eq_left', ]; (first | exact AVle.of rfl | refine AVle.of ?_ | skip))
theorem exPlays : playsR exT = ([⟨4, 10⟩, ⟨3, 75⟩, ⟨0, 160⟩, ⟨0, 315⟩], 0) := by kernel_rfl
theorem exWait : waitR exT 2 = (148, 0) := by kernel_rfl
theorem exStand : (standR exT 100).2 = 0 ∧ (standR exT 100).1.at_ = 1 ∧ (standR exT 100).1.way = -1 ∧ (standR exT 100).1.side = 3 := ⟨by kernel_rfl, by kernel_rfl, by kernel_rfl, by kernel_rfl⟩
theorem exLatest : latestR exT 2 20 = (5, 0) := by kernel_rfl
theorem exSoon : soonR exU = (40, 0) := by kernel_rfl
set_option maxRecDepth 20000 in
set_option maxHeartbeats 4000000 in
theorem works19 : FSpec Try.prog 19 [] (.c (.bool true)) := by
  have c1 := plays22 exT
  rw [exPlays] at c1
  have c2 := wait27 exT 2
  rw [exWait] at c2
  have c3 := stand21 exT 100
  obtain ⟨s1, s2, s3, s4⟩ := exStand
  simp only [spAv, s1, s2, s3, s4] at c3
  have c4 := latest26 exT 2 20
  rw [exLatest] at c4
  have c5 := soonest37 exU
  rw [exSoon] at c5
  have z3 : ((3 : Int)).toNat = 3 := rfl
  generalize hE : exT = E at *
  generalize hU : exU = U at *
  have hex := example52
  rw [hE, hU] at hex
  refine FSpec_of c19 (Nat.le_refl _) (by decide) fun C hP hN hC hL => ?_
  simp only [ir19]
  (repeat ((first | refine WV_seq_ ?_ | refine WV_block ?_ | refine WV_ops ?_ | refine WV_skip ?_ | refine WV_exit ?_); (try simp only [go_sem, init_env', Nat.reduceEqDiff, Nat.reduceAdd, Nat.reduceMul, reduceIte, Nat.reduceLeDiff, Nat.reduceLT, Nat.reduceBEq, reduceCtorEq, hP, ]); (repeat (refine And.intro (by first | omega | (intros; simp_all; done) | (intros; simp_all; omega)) ?_))))
  (refine AS_pure (hex) rfl rfl rfl rfl rfl ?_; simp only [go_sem, init_env', Nat.reduceEqDiff, Nat.reduceAdd, Nat.reduceMul, reduceIte, Nat.reduceLeDiff, Nat.reduceLT, Nat.reduceBEq, reduceCtorEq, hP, Tray.av]; (repeat (refine And.intro (by first | omega | (intros; simp_all; done) | (intros; simp_all; omega)) ?_)); (repeat ((first | refine WV_seq_ ?_ | refine WV_block ?_ | refine WV_ops ?_ | refine WV_skip ?_ | refine WV_exit ?_); (try simp only [go_sem, init_env', Nat.reduceEqDiff, Nat.reduceAdd, Nat.reduceMul, reduceIte, Nat.reduceLeDiff, Nat.reduceLT, Nat.reduceBEq, reduceCtorEq, hP, Tray.av]); (repeat (refine And.intro (by first | omega | (intros; simp_all; done) | (intros; simp_all; omega)) ?_)))))
  (refine AS_pure (c1) rfl rfl rfl rfl rfl ?_; simp only [go_sem, init_env', Nat.reduceEqDiff, Nat.reduceAdd, Nat.reduceMul, reduceIte, Nat.reduceLeDiff, Nat.reduceLT, Nat.reduceBEq, reduceCtorEq, hP, Tray.av]; (repeat (refine And.intro (by first | omega | (intros; simp_all; done) | (intros; simp_all; omega)) ?_)); (repeat ((first | refine WV_seq_ ?_ | refine WV_block ?_ | refine WV_ops ?_ | refine WV_skip ?_ | refine WV_exit ?_); (try simp only [go_sem, init_env', Nat.reduceEqDiff, Nat.reduceAdd, Nat.reduceMul, reduceIte, Nat.reduceLeDiff, Nat.reduceLT, Nat.reduceBEq, reduceCtorEq, hP, Tray.av]); (repeat (refine And.intro (by first | omega | (intros; simp_all; done) | (intros; simp_all; omega)) ?_)))))
  (refine AS_pure (c2) rfl rfl rfl rfl rfl ?_; simp only [go_sem, init_env', Nat.reduceEqDiff, Nat.reduceAdd, Nat.reduceMul, reduceIte, Nat.reduceLeDiff, Nat.reduceLT, Nat.reduceBEq, reduceCtorEq, hP, Tray.av]; (repeat (refine And.intro (by first | omega | (intros; simp_all; done) | (intros; simp_all; omega)) ?_)); (repeat ((first | refine WV_seq_ ?_ | refine WV_block ?_ | refine WV_ops ?_ | refine WV_skip ?_ | refine WV_exit ?_); (try simp only [go_sem, init_env', Nat.reduceEqDiff, Nat.reduceAdd, Nat.reduceMul, reduceIte, Nat.reduceLeDiff, Nat.reduceLT, Nat.reduceBEq, reduceCtorEq, hP, Tray.av]); (repeat (refine And.intro (by first | omega | (intros; simp_all; done) | (intros; simp_all; omega)) ?_)))))
  (refine AS_pure (c3) rfl rfl rfl rfl rfl ?_; simp only [go_sem, init_env', Nat.reduceEqDiff, Nat.reduceAdd, Nat.reduceMul, reduceIte, Nat.reduceLeDiff, Nat.reduceLT, Nat.reduceBEq, reduceCtorEq, hP, Tray.av]; (repeat (refine And.intro (by first | omega | (intros; simp_all; done) | (intros; simp_all; omega)) ?_)); (repeat ((first | refine WV_seq_ ?_ | refine WV_block ?_ | refine WV_ops ?_ | refine WV_skip ?_ | refine WV_exit ?_); (try simp only [go_sem, init_env', Nat.reduceEqDiff, Nat.reduceAdd, Nat.reduceMul, reduceIte, Nat.reduceLeDiff, Nat.reduceLT, Nat.reduceBEq, reduceCtorEq, hP, Tray.av]); (repeat (refine And.intro (by first | omega | (intros; simp_all; done) | (intros; simp_all; omega)) ?_)))))
  (refine AS_pure (c4) rfl rfl rfl rfl rfl ?_; simp only [go_sem, init_env', Nat.reduceEqDiff, Nat.reduceAdd, Nat.reduceMul, reduceIte, Nat.reduceLeDiff, Nat.reduceLT, Nat.reduceBEq, reduceCtorEq, hP, Tray.av]; (repeat (refine And.intro (by first | omega | (intros; simp_all; done) | (intros; simp_all; omega)) ?_)); (repeat ((first | refine WV_seq_ ?_ | refine WV_block ?_ | refine WV_ops ?_ | refine WV_skip ?_ | refine WV_exit ?_); (try simp only [go_sem, init_env', Nat.reduceEqDiff, Nat.reduceAdd, Nat.reduceMul, reduceIte, Nat.reduceLeDiff, Nat.reduceLT, Nat.reduceBEq, reduceCtorEq, hP, Tray.av]); (repeat (refine And.intro (by first | omega | (intros; simp_all; done) | (intros; simp_all; omega)) ?_)))))
  (refine AS_pure (c5) rfl rfl rfl rfl rfl ?_; simp only [go_sem, init_env', Nat.reduceEqDiff, Nat.reduceAdd, Nat.reduceMul, reduceIte, Nat.reduceLeDiff, Nat.reduceLT, Nat.reduceBEq, reduceCtorEq, hP, Tray.av, beq_self_eq_true, prsC, List.map_cons, List.map_nil, List.length_cons, List.length_nil, Pr.cds, z3, List.getD_cons_succ, List.getD_cons_zero, seqGo]; (repeat (refine And.intro (by first | omega | (intros; simp_all; done) | (intros; simp_all; omega)) ?_)); (repeat ((first | refine WV_seq_ ?_ | refine WV_block ?_ | refine WV_ops ?_ | refine WV_skip ?_ | refine WV_exit ?_); (try simp only [go_sem, init_env', Nat.reduceEqDiff, Nat.reduceAdd, Nat.reduceMul, reduceIte, Nat.reduceLeDiff, Nat.reduceLT, Nat.reduceBEq, reduceCtorEq, hP, Tray.av, beq_self_eq_true, prsC, List.map_cons, List.map_nil, List.length_cons, List.length_nil, Pr.cds, z3, List.getD_cons_succ, List.getD_cons_zero, seqGo]); (repeat (refine And.intro (by first | omega | (intros; simp_all; done) | (intros; simp_all; omega)) ?_)))))
  (refine WV_ret ?_; simp only [thenQ, inQ, RetQ, RetOk, resAll, resA]; simp only [go_sem, init_env', Nat.reduceEqDiff, Nat.reduceAdd, Nat.reduceMul, reduceIte, Nat.reduceLeDiff, Nat.reduceLT, Nat.reduceBEq, reduceCtorEq, tupA, AV.port, AV.portL, exists_eq_left', ]; (first | exact AVle.of rfl | refine AVle.of ?_ | skip))
end Go.Proofs.Ytkpgpgaojjobgaa

namespace Go.Proofs.Ytkpgpgaojjobgaa
open Go Go.V
@[reducible] def o24_0 : List Ins := [⟨(some 2), .box 5 (.t 0), none, true⟩,
  ⟨(some 4), .mv (.k (.c (.int .i64 0))), none, true⟩]
@[reducible] def o24_1 : List Ins := [⟨(some 5), .mv (.t 1), none, true⟩,
  ⟨(some 6), .bin .rem (.t 5) (.k (.c (.int .i64 2))), none, true⟩,
  ⟨(some 7), .bin .eql (.t 6) (.k (.c (.int .i64 1))), none, true⟩]
@[reducible] def o24_2 : List Ins := [⟨(some 8), .fa 0 (.t 2), none, true⟩,
  ⟨(some 9), .ld true 1 (.t 8), none, true⟩,
  ⟨(some 10), .mv (.t 1), none, true⟩,
  ⟨(some 11), .bin .quo (.t 10) (.k (.c (.int .i64 2))), none, true⟩,
  ⟨(some 12), .ia 2 (.t 9) (.t 11), none, true⟩,
  ⟨(some 13), .fa 1 (.t 12), none, true⟩,
  ⟨(some 14), .ld true 1 (.t 13), none, true⟩,
  ⟨(some 4), .mv (.t 14), none, true⟩]
@[reducible] def v24_3 : VC := (.seq (.ops o24_2) .ret)
@[reducible] def v24_4 : VC := (.cond (.t 7) v24_3 .skip)
@[reducible] def o24_5 : List Ins := [⟨(some 15), .fa 0 (.t 2), none, true⟩,
  ⟨(some 16), .ld true 1 (.t 15), none, true⟩,
  ⟨(some 17), .mv (.t 1), none, true⟩,
  ⟨(some 18), .bin .quo (.t 17) (.k (.c (.int .i64 2))), none, true⟩,
  ⟨(some 19), .ia 2 (.t 16) (.t 18), none, true⟩,
  ⟨(some 20), .fa 0 (.t 19), none, true⟩,
  ⟨(some 21), .ld true 1 (.t 20), none, true⟩,
  ⟨(some 4), .mv (.t 21), none, true⟩]
@[reducible] def v24_6 : VC := (.seq (.ops o24_5) .ret)
@[reducible] def v24_7 : VC := (.seq (.seq (.ops o24_1) v24_4) v24_6)
def ir24 : FC := ⟨2, 22, [.t 4], (.seq (.ops o24_0) v24_7)⟩
@[reducible] def o23_0 : List Ins := [⟨(some 2), .box 5 (.t 0), none, true⟩,
  ⟨(some 4), .mv (.k (.c (.bool false))), none, true⟩]
@[reducible] def o23_1 : List Ins := [⟨(some 6), .mv (.t 1), none, true⟩,
  ⟨(some 7), .len (.t 6), none, true⟩,
  ⟨(some 8), .fa 4 (.t 2), none, true⟩,
  ⟨(some 9), .ld true 1 (.t 8), none, true⟩,
  ⟨(some 10), .len (.t 9), none, true⟩,
  ⟨(some 11), .bin .gtr (.t 7) (.t 10), none, true⟩]
@[reducible] def o23_2 : List Ins := [⟨(some 4), .mv (.k (.c (.bool false))), none, true⟩]
@[reducible] def v23_3 : VC := (.seq (.ops o23_2) .ret)
@[reducible] def v23_4 : VC := (.cond (.t 11) v23_3 .skip)
@[reducible] def o23_5 : List Ins := [⟨(some 5), .mv (.k (.c (.int .i64 0))), none, true⟩]
@[reducible] def o23_6 : List Ins := [⟨(some 12), .mv (.t 5), none, true⟩,
  ⟨(some 13), .mv (.t 1), none, true⟩,
  ⟨(some 14), .len (.t 13), none, true⟩,
  ⟨(some 15), .bin .lss (.t 12) (.t 14), none, true⟩]
@[reducible] def v23_7 : VC := (.cond (.t 15) .skip (.exit 0))
@[reducible] def o23_8 : List Ins := [⟨(some 18), .ld false 5 (.t 2), none, false⟩,
  ⟨(some 19), .mv (.t 1), none, false⟩,
  ⟨(some 20), .mv (.t 5), none, false⟩,
  ⟨(some 21), .ia 2 (.t 19) (.t 20), none, false⟩,
  ⟨(some 22), .fa 0 (.t 21), none, false⟩,
  ⟨(some 23), .ld true 1 (.t 22), none, false⟩,
  ⟨(some 24), .call (.k (.fn 17 [])) [(.t 18), (.t 23)], none, true⟩,
  ⟨(some 25), .un .not (.t 24), none, true⟩,
  ⟨(some 26), .mv (.t 25), none, true⟩,
  ⟨(some 27), .mv (.t 1), (some (26, false)), false⟩,
  ⟨(some 28), .mv (.t 5), (some (26, false)), false⟩,
  ⟨(some 29), .ia 2 (.t 27) (.t 28), (some (26, false)), true⟩,
  ⟨(some 30), .fa 1 (.t 29), (some (26, false)), true⟩,
  ⟨(some 31), .ld true 1 (.t 30), (some (26, false)), true⟩,
  ⟨(some 32), .bin .lss (.t 31) (.k (.c (.int .i64 0))), (some (26, false)), true⟩,
  ⟨(some 33), .pick (.t 26) (.k (.c (.bool true))) (.t 32), none, true⟩,
  ⟨(some 34), .mv (.t 33), none, true⟩,
  ⟨(some 35), .mv (.t 1), (some (34, false)), false⟩,
  ⟨(some 36), .mv (.t 5), (some (34, false)), false⟩,
  ⟨(some 37), .ia 2 (.t 35) (.t 36), (some (34, false)), true⟩,
  ⟨(some 38), .fa 1 (.t 37), (some (34, false)), true⟩,
  ⟨(some 39), .ld true 1 (.t 38), (some (34, false)), true⟩,
  ⟨(some 40), .bin .gtr (.t 39) (.k (.c (.int .i64 1000000))), (some (34, false)), true⟩,
  ⟨(some 41), .pick (.t 34) (.k (.c (.bool true))) (.t 40), none, true⟩,
  ⟨(some 42), .mv (.t 41), none, true⟩,
  ⟨(some 43), .mv (.t 5), (some (42, false)), true⟩,
  ⟨(some 44), .bin .gtr (.t 43) (.k (.c (.int .i64 0))), (some (42, false)), true⟩,
  ⟨(some 45), .mv (.t 44), (some (42, false)), true⟩,
  ⟨(some 46), .mv (.t 1), (some (45, true)), false⟩,
  ⟨(some 47), .mv (.t 5), (some (45, true)), false⟩,
  ⟨(some 48), .ia 2 (.t 46) (.t 47), (some (45, true)), false⟩,
  ⟨(some 49), .fa 1 (.t 48), (some (45, true)), false⟩,
  ⟨(some 50), .ld true 1 (.t 49), (some (45, true)), false⟩,
  ⟨(some 51), .mv (.t 1), (some (45, true)), false⟩,
  ⟨(some 52), .mv (.t 5), (some (45, true)), false⟩,
  ⟨(some 53), .bin .sub (.t 52) (.k (.c (.int .i64 1))), (some (45, true)), false⟩,
  ⟨(some 54), .ia 2 (.t 51) (.t 53), (some (45, true)), false⟩,
  ⟨(some 55), .fa 1 (.t 54), (some (45, true)), false⟩,
  ⟨(some 56), .ld true 1 (.t 55), (some (45, true)), false⟩,
  ⟨(some 57), .ld false 5 (.t 2), (some (45, true)), false⟩,
  ⟨(some 58), .mv (.t 1), (some (45, true)), false⟩,
  ⟨(some 59), .mv (.t 5), (some (45, true)), false⟩,
  ⟨(some 60), .bin .sub (.t 59) (.k (.c (.int .i64 1))), (some (45, true)), false⟩,
  ⟨(some 61), .ia 2 (.t 58) (.t 60), (some (45, true)), false⟩,
  ⟨(some 62), .fa 0 (.t 61), (some (45, true)), false⟩,
  ⟨(some 63), .ld true 1 (.t 62), (some (45, true)), false⟩,
  ⟨(some 64), .call (.k (.fn 24 [])) [(.t 57), (.t 63)], (some (45, true)), false⟩,
  ⟨(some 65), .bin .add (.t 56) (.t 64), (some (45, true)), false⟩,
  ⟨(some 66), .bin .lss (.t 50) (.t 65), (some (45, true)), true⟩,
  ⟨(some 67), .pick (.t 45) (.t 66) (.k (.c (.bool false))), (some (42, false)), true⟩,
  ⟨(some 68), .pick (.t 42) (.k (.c (.bool true))) (.t 67), none, true⟩]
@[reducible] def o23_9 : List Ins := [⟨(some 4), .mv (.k (.c (.bool false))), none, true⟩]
@[reducible] def v23_10 : VC := (.seq (.ops o23_9) .ret)
@[reducible] def v23_11 : VC := (.cond (.t 68) v23_10 .skip)
@[reducible] def v23_12 : VC := (.seq (.ops o23_8) v23_11)
@[reducible] def o23_13 : List Ins := [⟨(some 16), .mv (.t 5), none, true⟩,
  ⟨(some 17), .bin .add (.t 16) (.k (.c (.int .i64 1))), none, true⟩,
  ⟨(some 5), .mv (.t 17), none, true⟩]
@[reducible] def v23_14 : VC := (.seq (.block 1 v23_12) (.ops o23_13))
@[reducible] def v23_15 : VC := (.seq (.seq (.ops o23_6) v23_7) v23_14)
-- K23_1: changed and kept: [5]
@[reducible] def K23_1 : List Nat := [1, 2]
@[reducible] def v23_16 : VC := (.loop v23_15)
@[reducible] def v23_17 : VC := (.block 0 v23_16)
@[reducible] def o23_18 : List Ins := [⟨(some 4), .mv (.k (.c (.bool true))), none, true⟩]
@[reducible] def v23_19 : VC := (.seq (.ops o23_18) .ret)
@[reducible] def v23_20 : VC := (.seq (.seq (.ops o23_5) v23_17) v23_19)
@[reducible] def v23_21 : VC := (.seq (.seq (.ops o23_1) v23_4) v23_20)
def ir23 : FC := ⟨2, 69, [.t 4], (.seq (.ops o23_0) v23_21)⟩
theorem c24 : compM Try.prog [] 24 = some ir24 := by kernel_rfl
theorem c23 : compM Try.prog [] 23 = some ir23 := by kernel_rfl



theorem secs24 (t : Tray) (s : Nat) (hs : s < 2 * t.n) (hn : t.n ≤ 1000) : FSpec Try.prog 24 [t.av, iv s] (iv (secs t s)) := by
  have e1 : ((s : Int)).tmod 2 = ((s % 2 : Nat) : Int) := by rw [Int.tmod_eq_emod_of_nonneg (by omega)]; omega
  have e2 : ((s : Int)).tdiv 2 = ((s / 2 : Nat) : Int) := by rw [Int.tdiv_eq_ediv_of_nonneg (by omega)]; omega
  have hk : s / 2 < t.recs.length := by show s / 2 < t.n; omega
  have hI : ((s / 2 : Nat) : Int) < (t.recs.length : Int) := by omega
  have w1 := w64 (n := ((s / 2 : Nat) : Int)) (by omega) (by omega)
  have w2 := w64 (n := ((s % 2 : Nat) : Int)) (by omega) (by omega)
  have hrc : t.rc (s / 2) = t.recs[s / 2] := by unfold Tray.rc; simp [hk]
  have hb : ((((s % 2 : Nat) : Int)) == 1) = decide (s % 2 = 1) := by rw [Bool.eq_iff_iff]; simp; omega
  refine FSpec_of c24 (Nat.le_refl _) (by decide) fun C hP hN hC hL => ?_
  simp only [ir24, Tray.av]
  (repeat ((first | refine WV_seq_ ?_ | refine WV_block ?_ | refine WV_ops ?_ | refine WV_skip ?_ | refine WV_exit ?_); (try simp only [go_sem, init_env', Nat.reduceEqDiff, Nat.reduceAdd, Nat.reduceMul, reduceIte, Nat.reduceLeDiff, Nat.reduceLT, Nat.reduceBEq, reduceCtorEq, hP, e1, w2, hb]); (repeat (refine And.intro (by first | omega | (intros; simp_all; done) | (intros; simp_all; omega)) ?_))))
  by_cases hc : s % 2 = 1
  · rw [decide_eq_true hc]
    (refine WV_cond rfl (fun h => ?_) (fun h => ?_))
    · (repeat ((first | refine WV_seq_ ?_ | refine WV_block ?_ | refine WV_ops ?_ | refine WV_skip ?_ | refine WV_exit ?_); (try simp only [go_sem, init_env', Nat.reduceEqDiff, Nat.reduceAdd, Nat.reduceMul, reduceIte, Nat.reduceLeDiff, Nat.reduceLT, Nat.reduceBEq, reduceCtorEq, hP, e2, w1, recsC, List.length_map, hI, map_getD hk, Rec.cds, Int.natCast_nonneg]); (repeat (refine And.intro (by first | omega | (intros; simp_all; done) | (intros; simp_all; omega)) ?_))))
      (refine WV_ret ?_; simp only [thenQ, inQ, RetQ, RetOk, resAll, resA]; simp only [go_sem, init_env', Nat.reduceEqDiff, Nat.reduceAdd, Nat.reduceMul, reduceIte, Nat.reduceLeDiff, Nat.reduceLT, Nat.reduceBEq, reduceCtorEq, tupA, AV.port, AV.portL, exists_eq_left', ]; (first | exact AVle.of rfl | refine AVle.of ?_ | skip))
      rw [secs, if_neg (by omega), hrc]
    · simp at h
  · rw [decide_eq_false hc]
    (refine WV_cond rfl (fun h => ?_) (fun h => ?_))
    · simp at h
    · (repeat ((first | refine WV_seq_ ?_ | refine WV_block ?_ | refine WV_ops ?_ | refine WV_skip ?_ | refine WV_exit ?_); (try simp only [go_sem, init_env', Nat.reduceEqDiff, Nat.reduceAdd, Nat.reduceMul, reduceIte, Nat.reduceLeDiff, Nat.reduceLT, Nat.reduceBEq, reduceCtorEq, hP, e2, w1, recsC, List.length_map, hI, map_getD hk, Rec.cds, Int.natCast_nonneg]); (repeat (refine And.intro (by first | omega | (intros; simp_all; done) | (intros; simp_all; omega)) ?_))))
      (refine WV_ret ?_; simp only [thenQ, inQ, RetQ, RetOk, resAll, resA]; simp only [go_sem, init_env', Nat.reduceEqDiff, Nat.reduceAdd, Nat.reduceMul, reduceIte, Nat.reduceLeDiff, Nat.reduceLT, Nat.reduceBEq, reduceCtorEq, tupA, AV.port, AV.portL, exists_eq_left', ]; (first | exact AVle.of rfl | refine AVle.of ?_ | skip))
      rw [secs, if_pos (by omega), hrc]
/-- Plays that are sane. -/
structure SaneOk (t : Tray) (l : List Pr) : Prop where
  len : l.length ≤ t.pres.length
  side : ∀ x ∈ l, 0 ≤ x.side ∧ x.side < 2 * (t.n : Int)
  time : ∀ x ∈ l, 0 ≤ x.time ∧ x.time ≤ 300000
  spc : ∀ i (h : i + 1 < l.length), (l[i]'(by omega)).time + secsI t (l[i]'(by omega)).side ≤ l[i + 1].time
theorem run_sane {t : Tray} (ht : TrayOk t) {s : Cs} (h : RunOk t s) : SaneOk t s.plays := by
  have hc := h.inv.cnt
  refine ⟨by omega, fun x hx => ?_, fun x hx => ?_, fun i hi => ?_⟩
  · have := h.inv.ply x hx; omega
  · have h1 := h.inv.ply x hx
    have h2 := h.now
    have h3 := secs_ok ht (s := x.side.toNat) (by omega)
    unfold secsI at h1
    omega
  · exact List.pairwise_iff_getElem.1 h.inv.spc i (i + 1) (by omega) hi (by omega)
set_option maxRecDepth 20000 in
set_option maxHeartbeats 8000000 in
theorem sane23 {t : Tray} (ht : TrayOk t) {l : List Pr} (hs : SaneOk t l) : FSpec Try.prog 23 [t.av, .c (prsC l)] (.c (.bool true)) := by
  have h13 := ht.p13
  have hn6 := ht.n6
  have hlen := hs.len
  have hd : decide ((t.pres.length : Int) < (l.length : Int)) = false := by simp; omega
  refine FSpec_of c23 (Nat.le_refl _) (by decide) fun C hP hN hC hL => ?_
  simp only [ir23, Tray.av]
  (repeat ((first | refine WV_seq_ ?_ | refine WV_block ?_ | refine WV_ops ?_ | refine WV_skip ?_ | refine WV_exit ?_); (try simp only [go_sem, init_env', Nat.reduceEqDiff, Nat.reduceAdd, Nat.reduceMul, reduceIte, Nat.reduceLeDiff, Nat.reduceLT, Nat.reduceBEq, reduceCtorEq, hP, prsC, List.length_map, hd]); (repeat (refine And.intro (by first | omega | (intros; simp_all; done) | (intros; simp_all; omega)) ?_))))
  (refine WV_cond rfl (fun h => ?_) (fun h => ?_))
  · simp at h
  (repeat ((first | refine WV_seq_ ?_ | refine WV_block ?_ | refine WV_ops ?_ | refine WV_skip ?_ | refine WV_exit ?_); (try simp only [go_sem, init_env', Nat.reduceEqDiff, Nat.reduceAdd, Nat.reduceMul, reduceIte, Nat.reduceLeDiff, Nat.reduceLT, Nat.reduceBEq, reduceCtorEq, hP, ]); (repeat (refine And.intro (by first | omega | (intros; simp_all; done) | (intros; simp_all; omega)) ?_))))
  refine WV_loopK K23_1 [] (fun k : Nat => k ≤ l.length) (fun k => l.length - k) (fun k => [(5, iv k)]) (fun _ => []) 0 (Nat.zero_le _) ?_ ?_
  · (refine Sub_of (by simp only [go_sem, init_env', Nat.reduceEqDiff, Nat.reduceAdd, Nat.reduceMul, reduceIte, Nat.reduceLeDiff, Nat.reduceLT, Nat.reduceBEq, reduceCtorEq]; ((repeat' (first | exact EnvLe_e0 _ _ | refine EnvLe_upd ?_ ?_)) <;> ((try simp only [upd_app, e0_app, o0_app, Nat.reduceEqDiff, reduceIte]); first | exact AWk.refl _ _ | exact AWk.int (by omega) | exact AWk.int (by rw [w64 (by omega) (by omega)]; omega) | exact AWk.grow rfl | exact AWk.nil _ | exact AWk.of (by simp)))) (by simp only [go_sem, init_env', Nat.reduceEqDiff, Nat.reduceAdd, Nat.reduceMul, reduceIte, Nat.reduceLeDiff, Nat.reduceLT, Nat.reduceBEq, reduceCtorEq]; ((repeat' (first | exact ObjLe_o0 _ | exact ObjLe.rfl' _ | refine ObjLe_same ?_ | refine ObjLe_upd ?_ ?_ | refine ObjLe_new rfl ?_)) <;> rfl)))
  · intro k hk
    simp only [go_sem, init_env', Nat.reduceEqDiff, Nat.reduceAdd, Nat.reduceMul, reduceIte, Nat.reduceLeDiff, Nat.reduceLT, Nat.reduceBEq, reduceCtorEq]
    (repeat ((first | refine WV_seq_ ?_ | refine WV_block ?_ | refine WV_ops ?_ | refine WV_skip ?_ | refine WV_exit ?_); (try simp only [go_sem, init_env', Nat.reduceEqDiff, Nat.reduceAdd, Nat.reduceMul, reduceIte, Nat.reduceLeDiff, Nat.reduceLT, Nat.reduceBEq, reduceCtorEq, hP, List.length_map]); (repeat (refine And.intro (by first | omega | (intros; simp_all; done) | (intros; simp_all; omega)) ?_))))
    (refine WV_cond rfl (fun h => ?_) (fun h => ?_))
    · have hkl : k < l.length := by simpa using h
      have hI : (k : Int) < (l.length : Int) := by omega
      have hw2 := w64 (n := (k : Int) + 1) (by omega) (by omega)
      have h1 := hs.side _ (List.getElem_mem hkl)
      have h2 := hs.time _ (List.getElem_mem hkl)
      have hsd := risside17 t l[k].side (by omega)
      rw [show isSide t.n l[k].side = true by simp [isSide, within]; omega] at hsd
      have f1 : decide (l[k].time < 0) = false := by simp; omega
      have f2 : decide (1000000 < l[k].time) = false := by simp; omega
      cases k with
      | zero =>
        have z0 : ((0 : Int)).toNat = 0 := rfl
        have z1 : IntKind.i64.wrap (0 - 1) = -1 := by decide
        have z2 : ((-1 : Int)).toNat = 0 := rfl
        have hI0 : (0 : Int) < (l.length : Int) := by omega
        have f4 : decide ((0 : Int) < 0) = false := by decide
        have g1 : (l.map Pr.cds).getD 0 [] = [.int .i64 l[0].side, .int .i64 l[0].time] := map_getD hkl
        generalize l[0].side = S1 at *
        generalize l[0].time = T1 at *
        (repeat ((first | refine WV_seq_ ?_ | refine WV_block ?_ | refine WV_ops ?_ | refine WV_skip ?_ | refine WV_exit ?_); (try simp only [go_sem, init_env', Nat.reduceEqDiff, Nat.reduceAdd, Nat.reduceMul, reduceIte, Nat.reduceLeDiff, Nat.reduceLT, Nat.reduceBEq, reduceCtorEq, hP, g1, hI, hI0, List.length_map, z0, Int.natCast_zero]); (repeat (refine And.intro (by first | omega | (intros; simp_all; done) | (intros; simp_all; omega)) ?_))))
        (refine AS_pure (hsd) rfl rfl rfl rfl rfl ?_; simp only [go_sem, init_env', Nat.reduceEqDiff, Nat.reduceAdd, Nat.reduceMul, reduceIte, Nat.reduceLeDiff, Nat.reduceLT, Nat.reduceBEq, reduceCtorEq, hP, Tray.av, f1, f2, f4, z0, z1, z2, g1, hI0, List.length_map, prsC, Int.natCast_zero]; (repeat (refine And.intro (by first | omega | (intros; simp_all; done) | (intros; simp_all; omega)) ?_)); (repeat ((first | refine WV_seq_ ?_ | refine WV_block ?_ | refine WV_ops ?_ | refine WV_skip ?_ | refine WV_exit ?_); (try simp only [go_sem, init_env', Nat.reduceEqDiff, Nat.reduceAdd, Nat.reduceMul, reduceIte, Nat.reduceLeDiff, Nat.reduceLT, Nat.reduceBEq, reduceCtorEq, hP, Tray.av, f1, f2, f4, z0, z1, z2, g1, hI0, List.length_map, prsC, Int.natCast_zero]); (repeat (refine And.intro (by first | omega | (intros; simp_all; done) | (intros; simp_all; omega)) ?_)))))
        refine ACallG_skip (iv 0) rfl ?_
        simp only [go_sem, init_env', Nat.reduceEqDiff, Nat.reduceAdd, Nat.reduceMul, reduceIte, Nat.reduceLeDiff, Nat.reduceLT, Nat.reduceBEq, reduceCtorEq, hP]
        (repeat (refine And.intro (by first | omega | (intros; simp_all; done) | (intros; simp_all; omega)) ?_))
        (repeat ((first | refine WV_seq_ ?_ | refine WV_block ?_ | refine WV_ops ?_ | refine WV_skip ?_ | refine WV_exit ?_); (try simp only [go_sem, init_env', Nat.reduceEqDiff, Nat.reduceAdd, Nat.reduceMul, reduceIte, Nat.reduceLeDiff, Nat.reduceLT, Nat.reduceBEq, reduceCtorEq, hP, ]); (repeat (refine And.intro (by first | omega | (intros; simp_all; done) | (intros; simp_all; omega)) ?_))))
        (refine WV_cond rfl (fun h => ?_) (fun h => ?_))
        · simp at h
        · (repeat ((first | refine WV_seq_ ?_ | refine WV_block ?_ | refine WV_ops ?_ | refine WV_skip ?_ | refine WV_exit ?_); (try simp only [go_sem, init_env', Nat.reduceEqDiff, Nat.reduceAdd, Nat.reduceMul, reduceIte, Nat.reduceLeDiff, Nat.reduceLT, Nat.reduceBEq, reduceCtorEq, hP, hw2]); (repeat (refine And.intro (by first | omega | (intros; simp_all; done) | (intros; simp_all; omega)) ?_))))
          refine ⟨1, by omega, by omega, ?_⟩
          (refine Sub_of (by simp only [go_sem, init_env', Nat.reduceEqDiff, Nat.reduceAdd, Nat.reduceMul, reduceIte, Nat.reduceLeDiff, Nat.reduceLT, Nat.reduceBEq, reduceCtorEq]; ((repeat' (first | exact EnvLe_e0 _ _ | refine EnvLe_upd ?_ ?_)) <;> ((try simp only [upd_app, e0_app, o0_app, Nat.reduceEqDiff, reduceIte]); first | exact AWk.refl _ _ | exact AWk.int (by omega) | exact AWk.int (by rw [w64 (by omega) (by omega)]; omega) | exact AWk.grow rfl | exact AWk.nil _ | exact AWk.of (by simp)))) (by simp only [go_sem, init_env', Nat.reduceEqDiff, Nat.reduceAdd, Nat.reduceMul, reduceIte, Nat.reduceLeDiff, Nat.reduceLT, Nat.reduceBEq, reduceCtorEq]; ((repeat' (first | exact ObjLe_o0 _ | exact ObjLe.rfl' _ | refine ObjLe_same ?_ | refine ObjLe_upd ?_ ?_ | refine ObjLe_new rfl ?_)) <;> rfl)))
      | succ k =>
        have hk1 : k < l.length := by omega
        have h3 := hs.side _ (List.getElem_mem hk1)
        have h4 := hs.time _ (List.getElem_mem hk1)
        have h5 := hs.spc k hkl
        obtain ⟨sn, hsn⟩ := Int.eq_ofNat_of_zero_le h3.1
        have hse := secs24 t sn (by omega) (by omega)
        have hso := secs_ok ht (s := sn) (by omega)
        have hsec : secsI t l[k].side = secs t sn := by unfold secsI; rw [hsn, Int.toNat_natCast]
        rw [hsec] at h5
        have ek : ((k + 1 : Nat) : Int) - 1 = (k : Int) := by omega
        have hw3 := w64 (n := (k : Int)) (by omega) (by omega)
        have hw4 := w64 (n := l[k].time + secs t sn) (by omega) (by omega)
        have hI1 : (k : Int) < (l.length : Int) := by omega
        have f3 : decide (l[k + 1].time < l[k].time + secs t sn) = false := by simp; omega
        have f4 : decide (0 < ((k + 1 : Nat) : Int)) = true := by simp
        have f5 : (((k + 1 : Nat) : Int)).toNat = k + 1 := rfl
        have g1 : (l.map Pr.cds).getD (k + 1) [] = [.int .i64 l[k + 1].side, .int .i64 l[k + 1].time] := map_getD hkl
        have g2 : (l.map Pr.cds).getD k [] = [.int .i64 sn, .int .i64 l[k].time] := by rw [map_getD hk1, Pr.cds, hsn]
        generalize l[k + 1].side = S1 at *
        generalize l[k + 1].time = T1 at *
        generalize l[k].time = T0 at *
        generalize secs t sn = SC at *
        (repeat ((first | refine WV_seq_ ?_ | refine WV_block ?_ | refine WV_ops ?_ | refine WV_skip ?_ | refine WV_exit ?_); (try simp only [go_sem, init_env', Nat.reduceEqDiff, Nat.reduceAdd, Nat.reduceMul, reduceIte, Nat.reduceLeDiff, Nat.reduceLT, Nat.reduceBEq, reduceCtorEq, hP, g1, hI, List.length_map, f5, Int.natCast_nonneg]); (repeat (refine And.intro (by first | omega | (intros; simp_all; done) | (intros; simp_all; omega)) ?_))))
        (refine AS_pure (hsd) rfl rfl rfl rfl rfl ?_; simp only [go_sem, init_env', Nat.reduceEqDiff, Nat.reduceAdd, Nat.reduceMul, reduceIte, Nat.reduceLeDiff, Nat.reduceLT, Nat.reduceBEq, reduceCtorEq, hP, Tray.av, f1, f2, f4, f5, ek, hw3, g1, g2, hI, hI1, Int.natCast_nonneg, List.length_map, prsC]; (repeat (refine And.intro (by first | omega | (intros; simp_all; done) | (intros; simp_all; omega)) ?_)); (repeat ((first | refine WV_seq_ ?_ | refine WV_block ?_ | refine WV_ops ?_ | refine WV_skip ?_ | refine WV_exit ?_); (try simp only [go_sem, init_env', Nat.reduceEqDiff, Nat.reduceAdd, Nat.reduceMul, reduceIte, Nat.reduceLeDiff, Nat.reduceLT, Nat.reduceBEq, reduceCtorEq, hP, Tray.av, f1, f2, f4, f5, ek, hw3, g1, g2, hI, hI1, Int.natCast_nonneg, List.length_map, prsC]); (repeat (refine And.intro (by first | omega | (intros; simp_all; done) | (intros; simp_all; omega)) ?_)))))
        refine ACallG_of (fun _ => hse) rfl (fun hG => by first | rfl | simp only [go_sem, init_env', Nat.reduceEqDiff, Nat.reduceAdd, Nat.reduceMul, reduceIte, Nat.reduceLeDiff, Nat.reduceLT, Nat.reduceBEq, reduceCtorEq, hG]) rfl rfl rfl ?_
        simp only [go_sem, init_env', Nat.reduceEqDiff, Nat.reduceAdd, Nat.reduceMul, reduceIte, Nat.reduceLeDiff, Nat.reduceLT, Nat.reduceBEq, reduceCtorEq, hP, hw4, f3]
        (repeat (refine And.intro (by first | omega | (intros; simp_all; done) | (intros; simp_all; omega)) ?_))
        (repeat ((first | refine WV_seq_ ?_ | refine WV_block ?_ | refine WV_ops ?_ | refine WV_skip ?_ | refine WV_exit ?_); (try simp only [go_sem, init_env', Nat.reduceEqDiff, Nat.reduceAdd, Nat.reduceMul, reduceIte, Nat.reduceLeDiff, Nat.reduceLT, Nat.reduceBEq, reduceCtorEq, hP, ]); (repeat (refine And.intro (by first | omega | (intros; simp_all; done) | (intros; simp_all; omega)) ?_))))
        (refine WV_cond rfl (fun h => ?_) (fun h => ?_))
        · simp at h
        · (repeat ((first | refine WV_seq_ ?_ | refine WV_block ?_ | refine WV_ops ?_ | refine WV_skip ?_ | refine WV_exit ?_); (try simp only [go_sem, init_env', Nat.reduceEqDiff, Nat.reduceAdd, Nat.reduceMul, reduceIte, Nat.reduceLeDiff, Nat.reduceLT, Nat.reduceBEq, reduceCtorEq, hP, hw2]); (repeat (refine And.intro (by first | omega | (intros; simp_all; done) | (intros; simp_all; omega)) ?_))))
          refine ⟨k + 1 + 1, by omega, by omega, ?_⟩
          (refine Sub_of (by simp only [go_sem, init_env', Nat.reduceEqDiff, Nat.reduceAdd, Nat.reduceMul, reduceIte, Nat.reduceLeDiff, Nat.reduceLT, Nat.reduceBEq, reduceCtorEq]; ((repeat' (first | exact EnvLe_e0 _ _ | refine EnvLe_upd ?_ ?_)) <;> ((try simp only [upd_app, e0_app, o0_app, Nat.reduceEqDiff, reduceIte]); first | exact AWk.refl _ _ | exact AWk.int (by omega) | exact AWk.int (by rw [w64 (by omega) (by omega)]; omega) | exact AWk.grow rfl | exact AWk.nil _ | exact AWk.of (by simp)))) (by simp only [go_sem, init_env', Nat.reduceEqDiff, Nat.reduceAdd, Nat.reduceMul, reduceIte, Nat.reduceLeDiff, Nat.reduceLT, Nat.reduceBEq, reduceCtorEq]; ((repeat' (first | exact ObjLe_o0 _ | exact ObjLe.rfl' _ | refine ObjLe_same ?_ | refine ObjLe_upd ?_ ?_ | refine ObjLe_new rfl ?_)) <;> rfl)))
    · (repeat ((first | refine WV_seq_ ?_ | refine WV_block ?_ | refine WV_ops ?_ | refine WV_skip ?_ | refine WV_exit ?_); (try simp only [go_sem, init_env', Nat.reduceEqDiff, Nat.reduceAdd, Nat.reduceMul, reduceIte, Nat.reduceLeDiff, Nat.reduceLT, Nat.reduceBEq, reduceCtorEq, hP, ]); (repeat (refine And.intro (by first | omega | (intros; simp_all; done) | (intros; simp_all; omega)) ?_))))
      (refine WV_ret ?_; simp only [thenQ, inQ, RetQ, RetOk, resAll, resA]; simp only [go_sem, init_env', Nat.reduceEqDiff, Nat.reduceAdd, Nat.reduceMul, reduceIte, Nat.reduceLeDiff, Nat.reduceLT, Nat.reduceBEq, reduceCtorEq, tupA, AV.port, AV.portL, exists_eq_left', ]; (first | exact AVle.of rfl | refine AVle.of ?_ | skip))
end Go.Proofs.Ytkpgpgaojjobgaa

/-
  While a side plays, the carriage stands at its place: plain.
-/
namespace Go.Proofs.Ytkpgpgaojjobgaa
open Go Go.V

theorem standG_later {x : Int} {a : Sp} (h : x < a.from_) : ∀ (l : List Sp) (o : Sp), standG x o (l ++ [a]) = standG x o l
  | [], o => by simp [standG, h]
  | s :: l, o => by
    simp only [List.cons_append, standG]
    split
    · rfl
    · exact standG_later h l s
theorem standG_now {x : Int} {a : Sp} (h : a.from_ ≤ x) : ∀ (l : List Sp) (o : Sp), (∀ e ∈ l, e.from_ ≤ x) → standG x o (l ++ [a]) = a
  | [], o, _ => by simp only [List.nil_append, standG]; rw [if_neg (by omega)]
  | s :: l, o, hl => by
    simp only [List.cons_append, standG]
    rw [if_neg (by have := hl s (by simp); omega)]
    exact standG_now h l s fun e he => hl e (by simp [he])
/-- The side that plays at a time; -1: none. -/
def playing (t : Tray) (l : List Pr) (x : Int) : Int := l.foldl (fun w p => if p.time ≤ x ∧ x < p.time + secsI t p.side then p.side else w) (-1)
theorem playing_snoc (t : Tray) (l : List Pr) (p : Pr) (x : Int) : playing t (l ++ [p]) x = if p.time ≤ x ∧ x < p.time + secsI t p.side then p.side else playing t l x := by
  unfold playing; rw [List.foldl_append]; rfl
theorem playing_none {t : Tray} {l : List Pr} {x : Int} (h : ∀ p ∈ l, p.time + secsI t p.side ≤ x) : playing t l x = -1 := by
  unfold playing
  generalize hw : (-1 : Int) = w
  clear hw
  induction l generalizing w with
  | nil => rfl
  | cons p l ih =>
    rw [List.foldl_cons, if_neg (by have := h p (by simp); omega)]
    exact ih (fun q hq => h q (by simp [hq])) w
structure Shows (t : Tray) (s : Cs) (x : Int) (e : Sp) : Prop where
  at_ : ∃ (k : Nat) (up : Bool), k < t.n ∧ e.at_ = (k : Int) ∧ e.way = wayI up ∧ (e.side = -1 ∨ e.side = (sideAt k up : Int))
  before : x < s.now → e.side = playing t s.plays x
  now : s.now ≤ x → e.side = -1 ∧ e.at_ = (s.at_ : Int) ∧ e.way = wayI s.up
structure Stands (t : Tray) (s : Cs) : Prop where
  inv : Inv t s
  le : ∀ e ∈ s.spells, e.from_ ≤ s.now
  shows : ∀ (o : Sp) (x : Int), 0 ≤ x → Shows t s x (standG x o s.spells)
theorem Stands.next {t : Tray} {s : Cs} (ht : TrayOk t) (hs : s.at_ < t.n) (hp : ∀ p ∈ s.plays, p.time + secsI t p.side ≤ s.now) (h1 : ∀ e ∈ s.spells, e.from_ ≤ s.now) (h : ∀ (o : Sp) (x : Int), 0 ≤ x → Shows t s x (standG x o s.spells)) :
    (∀ e ∈ (s.next t).spells, e.from_ ≤ (s.next t).now) ∧ ∀ (o : Sp) (x : Int), 0 ≤ x → Shows t (s.next t) x (standG x o (s.next t).spells) := by
  obtain ⟨m1, m2, m3, m4, m5⟩ := move_q t s
  obtain ⟨n1, n2, n3, n4⟩ := move_now ht.step.1 s
  have hat := (move_c (t := t) hs).2
  have es : (s.next t).spells = s.spells ++ [⟨((s.move t).at_ : Int), wayI (s.move t).up, -1, (s.move t).now⟩] := by
    show (s.move t).spells ++ _ = _
    rw [m4]
  have en : (s.next t).now = (s.move t).now := rfl
  have ep : (s.next t).plays = s.plays := m3
  rw [es, en]
  refine ⟨fun e he => ?_, fun o x hx => ?_⟩
  · rcases List.mem_append.1 he with he | he
    · have := h1 e he; omega
    · simp only [List.mem_singleton] at he
      subst he; exact Int.le_refl _
  · by_cases hc : x < (s.move t).now
    · rw [standG_later (by exact hc)]
      have hh := h o x hx
      refine ⟨hh.at_, fun _ => ?_, fun hc2 => by rw [en] at hc2; omega⟩
      rw [ep]
      by_cases hc2 : x < s.now
      · exact hh.before hc2
      · rw [(hh.now (by omega)).1, playing_none fun p hpm => by have := hp p hpm; omega]
    · rw [standG_now (by simp only; omega) _ _ fun e he => by have := h1 e he; omega]
      exact ⟨⟨(s.move t).at_, (s.move t).up, hat, rfl, rfl, .inl rfl⟩, fun hc2 => by rw [en] at hc2; omega, fun _ => ⟨rfl, rfl, rfl⟩⟩
theorem Stands.act1 {t : Tray} (ht : TrayOk t) {s s' : Cs} (hs : CsOk t s) (hpr : Pressed s) (h : Stands t s) (e : s.act1 t = some s') : Stands t s' := by
  have hi := h.inv.act1 ht hs hpr e
  have hpl := fun p hp => (h.inv.ply p hp).2.2.2
  rcases act1_cases e with ⟨p, q, hq, hpins, rfl⟩ | ⟨hpins, rfl⟩
  · have hnow := hpr p (by rw [hq]; simp)
    refine ⟨hi, fun e he => by have := h.le e he; simp only; omega, fun o x hx => ?_⟩
    have hh := h.shows o x hx
    refine ⟨hh.at_, fun hc => ?_, fun hc => hh.now (by simp only at hc; omega)⟩
    by_cases hc2 : x < s.now
    · exact hh.before hc2
    · show (standG x o s.spells).side = playing t s.plays x
      rw [(hh.now (by omega)).1, playing_none fun p hpm => by have := hpl p hpm; omega]
  · by_cases hp : s.pins.getD s.pos false = true
    · have hpos := pos_lt hs
      have hsec := secs_ok ht hpos
      have hnow := hs.now
      have hsI : secsI t ((s.pos : Nat) : Int) = secs t s.pos := by unfold secsI; rw [Int.toNat_natCast]
      have ep : s.play t = (s.play1).play2 t := by unfold Cs.play; rw [if_pos hp]
      obtain ⟨p1, p2, p3, p4, p5, p6⟩ := play_yes (t := t) hp
      have ea : (s.play t).at_ = s.at_ ∧ (s.play t).up = s.up := ⟨(play_pins t s).2.2.1, (play_pins t s).2.2.2⟩
      have es : (s.play t).spells = s.spells ++ [⟨s.at_, wayI s.up, s.pos, s.now⟩] ++ [⟨s.at_, wayI s.up, -1, s.now + secs t s.pos⟩] := by rw [ep]; rfl
      have hk := Stands.next (s := s.play t) ht (by rw [ea.1]; exact hs.at_) (fun x hx => by
        rw [p3] at hx; rw [p4]
        rcases List.mem_append.1 hx with hx | hx
        · have := hpl x hx; omega
        · simp only [List.mem_singleton] at hx
          subst hx; simp only [hsI]; omega) (fun e he => by
        rw [es] at he; rw [p4]
        rcases List.mem_append.1 he with he | he
        · rcases List.mem_append.1 he with he | he
          · have := h.le e he; omega
          · simp only [List.mem_singleton] at he; subst he; simp only; omega
        · simp only [List.mem_singleton] at he; subst he; simp only; omega) (fun o x hx => by
        rw [es]
        by_cases hc : x < s.now + secs t s.pos
        · rw [standG_later (by exact hc)]
          by_cases hc2 : x < s.now
          · rw [standG_later (by exact hc2)]
            have hh := h.shows o x hx
            refine ⟨hh.at_, fun _ => ?_, fun hc3 => by rw [p4] at hc3; omega⟩
            rw [p3, playing_snoc, if_neg (by simp only; omega)]
            exact hh.before hc2
          · rw [standG_now (by simp only; omega) _ _ fun e he => by have := h.le e he; omega]
            refine ⟨⟨s.at_, s.up, hs.at_, rfl, rfl, .inr rfl⟩, fun _ => ?_, fun hc3 => by rw [p4] at hc3; omega⟩
            rw [p3, playing_snoc, if_pos (by simp only [hsI]; omega)]
        · rw [standG_now (by simp only; omega) _ _ fun e he => by
            rcases List.mem_append.1 he with he | he
            · have := h.le e he; omega
            · simp only [List.mem_singleton] at he; subst he; simp only; omega]
          exact ⟨⟨s.at_, s.up, hs.at_, rfl, rfl, .inl rfl⟩, fun hc3 => by rw [p4] at hc3; omega, fun _ => ⟨rfl, by rw [ea.1], by rw [ea.2]⟩⟩)
      exact ⟨hi, hk.1, hk.2⟩
    · rw [play_no hp] at hi ⊢
      have hk := Stands.next (s := s) ht hs.at_ hpl h.le h.shows
      exact ⟨hi, hk.1, hk.2⟩
theorem stands {t : Tray} (ht : TrayOk t) {q : List Pr} (hq : q.Perm t.pres) (hqs : q.Pairwise fun a b => a.time ≤ b.time) : Stands t (goesWith t q) := by
  obtain ⟨k, _, h, _, _, _⟩ := goes_inv ht hq hqs (fun _ s => Stands t s) (by
    refine ⟨Inv.start hq, fun e he => ?_, fun o x hx => ?_⟩
    · have he : e ∈ [(⟨t.at_.toNat, wayI (t.way == 1), -1, 0⟩ : Sp)] := he
      simp only [List.mem_singleton] at he
      subst he; exact Int.le_refl _
    · have es : ((start t q).mark (-1)).spells = [⟨t.at_.toNat, wayI (t.way == 1), -1, 0⟩] := rfl
      have hat := ht.at_
      rw [es]
      have : standG x o [(⟨t.at_.toNat, wayI (t.way == 1), -1, 0⟩ : Sp)] = ⟨t.at_.toNat, wayI (t.way == 1), -1, 0⟩ := by simp only [standG]; rw [if_neg (by omega)]
      rw [this]
      exact ⟨⟨t.at_.toNat, t.way == 1, by omega, rfl, rfl, .inl rfl⟩, fun hc => by have : x < 0 := hc; omega, fun _ => ⟨rfl, rfl, rfl⟩⟩)
    (fun k s hs h => ⟨h.inv.press ht hs, h.le, fun o x hx => ⟨(h.shows o x hx).at_, (h.shows o x hx).before, (h.shows o x hx).now⟩⟩)
    (fun k s s' hs hpr h e => h.act1 ht hs hpr e)
  exact h
/-- What Stand says. -/
theorem stand_shows {t : Tray} (ht : TrayOk t) {x : Int} (hx : 0 ≤ x) : (∃ (k : Nat) (up : Bool), k < t.n ∧ (standV t x).at_ = (k : Int) ∧ (standV t x).way = wayI up ∧ (playing t (playsS t) x = -1 ∨ playing t (playsS t) x = (sideAt k up : Int))) ∧ (standV t x).side = playing t (playsS t) x := by
  have h := stands ht (sortT_perm t.pres) (sortT_sorted t.pres)
  have hh := h.shows ((goesS t).spells.headD default) x hx
  have he : (standV t x).side = playing t (playsS t) x := by
    by_cases hc : x < (goesS t).now
    · exact hh.before hc
    · rw [show playing t (playsS t) x = -1 from playing_none fun p hp => by have := (h.inv.ply p hp).2.2.2; have hc : ¬ x < (goesWith t (sortT t.pres)).now := hc; omega]
      exact (hh.now (by have hc : ¬ x < (goesWith t (sortT t.pres)).now := hc; omega)).1
  obtain ⟨k, up, h1, h2, h3, h4⟩ := hh.at_
  refine ⟨⟨k, up, h1, h2, h3, ?_⟩, he⟩
  rw [← he]; exact h4
end Go.Proofs.Ytkpgpgaojjobgaa

namespace Go.Proofs.Ytkpgpgaojjobgaa
open Go Go.V
@[reducible] def o20_0 : List Ins := [⟨(some 1), .box 5 (.t 0), none, true⟩,
  ⟨(some 2), .alloc [(.c (.raw (.slice none 0 0))), (.c (.int .i64 0)), (.c (.int .i64 0)), (.c (.int .i64 0)), (.c (.raw (.slice none 0 0)))], none, true⟩]
@[reducible] def o20_1 : List Ins := [⟨(some 4), .ld false 5 (.t 1), none, true⟩,
  ⟨(some 3), .alloc [(.c (.raw (.slice none 0 0))), (.c (.int .i64 0)), (.c (.int .i64 0)), (.c (.int .i64 0)), (.c (.raw (.slice none 0 0)))], none, true⟩,
  ⟨none, .st 5 (.t 3) (.t 4), none, true⟩]
@[reducible] def t20_2 : OT := (.cons ⟨(some 6), .fa 0 (.t 1), none, false⟩
  (.cons ⟨(some 7), .ld true 1 (.t 6), none, false⟩
  (.cons ⟨(some 10), .fa 4 (.t 1), none, false⟩
  (.cons ⟨(some 11), .ld true 1 (.t 10), none, false⟩
  (.br [(.cons ⟨(some 5), .bsl 56 2 [], none, false⟩
    (.br [(.cons ⟨(some 8), .app 56 2 16 (.t 5) (.t 7), none, false⟩
      (.cons ⟨(some 9), .bsl 27 2 [], none, false⟩
      (.cons ⟨(some 12), .app 27 2 16 (.t 9) (.t 11), none, false⟩
      (.cons ⟨(some 13), .fa 0 (.t 3), none, false⟩
      (.cons ⟨none, .st 1 (.t 13) (.t 8), none, true⟩
      (.cons ⟨(some 14), .fa 4 (.t 3), none, true⟩
      (.cons ⟨none, .st 1 (.t 14) (.t 12), none, true⟩
      .nil))))))), (.cons ⟨(some 9), .bsl 27 2 [], none, false⟩
      (.cons ⟨(some 8), .app 56 2 16 (.t 5) (.t 7), none, false⟩
      (.cons ⟨(some 12), .app 27 2 16 (.t 9) (.t 11), none, false⟩
      (.cons ⟨(some 13), .fa 0 (.t 3), none, false⟩
      (.cons ⟨none, .st 1 (.t 13) (.t 8), none, true⟩
      (.cons ⟨(some 14), .fa 4 (.t 3), none, true⟩
      (.cons ⟨none, .st 1 (.t 14) (.t 12), none, true⟩
      .nil)))))))])), (.cons ⟨(some 9), .bsl 27 2 [], none, false⟩
    (.cons ⟨(some 5), .bsl 56 2 [], none, false⟩
    (.cons ⟨(some 8), .app 56 2 16 (.t 5) (.t 7), none, false⟩
    (.cons ⟨(some 12), .app 27 2 16 (.t 9) (.t 11), none, false⟩
    (.cons ⟨(some 13), .fa 0 (.t 3), none, false⟩
    (.cons ⟨none, .st 1 (.t 13) (.t 8), none, true⟩
    (.cons ⟨(some 14), .fa 4 (.t 3), none, true⟩
    (.cons ⟨none, .st 1 (.t 14) (.t 12), none, true⟩
    .nil))))))))])))))
@[reducible] def o20_3 : List Ins := [⟨(some 15), .ld false 5 (.t 3), none, true⟩,
  ⟨none, .st 5 (.t 2) (.t 15), none, true⟩]
@[reducible] def v20_4 : VC := (.seq (.ops o20_3) .ret)
@[reducible] def v20_5 : VC := (.seq (.drw t20_2) v20_4)
@[reducible] def v20_6 : VC := (.seq (.ops o20_1) v20_5)
def ir20 : FC := ⟨1, 16, [.cell 2 false 5], (.seq (.ops o20_0) v20_6)⟩
theorem c20 : compM Try.prog [] 20 = some ir20 := by kernel_rfl



end Go.Proofs.Ytkpgpgaojjobgaa

namespace Go.Proofs.Ytkpgpgaojjobgaa
open Go Go.V
namespace W
@[reducible] def o20_0 : List Ins := [⟨(some 1), .box 5 (.t 0), none, true⟩,
  ⟨(some 2), .alloc [(.c (.raw (.slice none 0 0))), (.c (.int .i64 0)), (.c (.int .i64 0)), (.c (.int .i64 0)), (.c (.raw (.slice none 0 0)))], none, true⟩]
@[reducible] def o20_1 : List Ins := [⟨(some 4), .ld false 5 (.t 1), none, true⟩,
  ⟨(some 3), .alloc [(.c (.raw (.slice none 0 0))), (.c (.int .i64 0)), (.c (.int .i64 0)), (.c (.int .i64 0)), (.c (.raw (.slice none 0 0)))], none, true⟩,
  ⟨none, .st 5 (.t 3) (.t 4), none, true⟩]
@[reducible] def t20_2 : OT := (.cons ⟨(some 6), .fa 0 (.t 1), none, false⟩
  (.cons ⟨(some 7), .ld true 1 (.t 6), none, false⟩
  (.br [(.cons ⟨(some 5), .bsl 56 2 [], none, false⟩
    (.br [(.cons ⟨(some 8), .appv 56 2 16 (.t 5) (.t 7), none, true⟩
      (.cons ⟨(some 9), .bsl 27 2 [], none, false⟩
      (.cons ⟨(some 10), .fa 4 (.t 1), none, false⟩
      (.cons ⟨(some 11), .ld true 1 (.t 10), none, false⟩
      (.br [(.cons ⟨(some 12), .appv 27 2 16 (.t 9) (.t 11), none, true⟩
        (.cons ⟨(some 13), .fa 0 (.t 3), none, false⟩
        (.cons ⟨none, .st 1 (.t 13) (.t 8), none, true⟩
        (.cons ⟨(some 14), .fa 4 (.t 3), none, true⟩
        (.cons ⟨none, .st 1 (.t 14) (.t 12), none, true⟩
        .nil))))), (.cons ⟨(some 13), .fa 0 (.t 3), none, false⟩
        (.cons ⟨(some 12), .appv 27 2 16 (.t 9) (.t 11), none, true⟩
        (.cons ⟨none, .st 1 (.t 13) (.t 8), none, true⟩
        (.cons ⟨(some 14), .fa 4 (.t 3), none, true⟩
        (.cons ⟨none, .st 1 (.t 14) (.t 12), none, true⟩
        .nil)))))]))))), (.cons ⟨(some 9), .bsl 27 2 [], none, false⟩
      (.br [(.cons ⟨(some 8), .appv 56 2 16 (.t 5) (.t 7), none, true⟩
        (.cons ⟨(some 10), .fa 4 (.t 1), none, false⟩
        (.cons ⟨(some 11), .ld true 1 (.t 10), none, false⟩
        (.br [(.cons ⟨(some 12), .appv 27 2 16 (.t 9) (.t 11), none, true⟩
          (.cons ⟨(some 13), .fa 0 (.t 3), none, false⟩
          (.cons ⟨none, .st 1 (.t 13) (.t 8), none, true⟩
          (.cons ⟨(some 14), .fa 4 (.t 3), none, true⟩
          (.cons ⟨none, .st 1 (.t 14) (.t 12), none, true⟩
          .nil))))), (.cons ⟨(some 13), .fa 0 (.t 3), none, false⟩
          (.cons ⟨(some 12), .appv 27 2 16 (.t 9) (.t 11), none, true⟩
          (.cons ⟨none, .st 1 (.t 13) (.t 8), none, true⟩
          (.cons ⟨(some 14), .fa 4 (.t 3), none, true⟩
          (.cons ⟨none, .st 1 (.t 14) (.t 12), none, true⟩
          .nil)))))])))), (.cons ⟨(some 10), .fa 4 (.t 1), none, false⟩
        (.br [(.cons ⟨(some 8), .appv 56 2 16 (.t 5) (.t 7), none, true⟩
          (.cons ⟨(some 11), .ld true 1 (.t 10), none, false⟩
          (.br [(.cons ⟨(some 12), .appv 27 2 16 (.t 9) (.t 11), none, true⟩
            (.cons ⟨(some 13), .fa 0 (.t 3), none, false⟩
            (.cons ⟨none, .st 1 (.t 13) (.t 8), none, true⟩
            (.cons ⟨(some 14), .fa 4 (.t 3), none, true⟩
            (.cons ⟨none, .st 1 (.t 14) (.t 12), none, true⟩
            .nil))))), (.cons ⟨(some 13), .fa 0 (.t 3), none, false⟩
            (.cons ⟨(some 12), .appv 27 2 16 (.t 9) (.t 11), none, true⟩
            (.cons ⟨none, .st 1 (.t 13) (.t 8), none, true⟩
            (.cons ⟨(some 14), .fa 4 (.t 3), none, true⟩
            (.cons ⟨none, .st 1 (.t 14) (.t 12), none, true⟩
            .nil)))))]))), (.cons ⟨(some 11), .ld true 1 (.t 10), none, false⟩
          (.cons ⟨(some 8), .appv 56 2 16 (.t 5) (.t 7), none, true⟩
          (.br [(.cons ⟨(some 12), .appv 27 2 16 (.t 9) (.t 11), none, true⟩
            (.cons ⟨(some 13), .fa 0 (.t 3), none, false⟩
            (.cons ⟨none, .st 1 (.t 13) (.t 8), none, true⟩
            (.cons ⟨(some 14), .fa 4 (.t 3), none, true⟩
            (.cons ⟨none, .st 1 (.t 14) (.t 12), none, true⟩
            .nil))))), (.cons ⟨(some 13), .fa 0 (.t 3), none, false⟩
            (.cons ⟨(some 12), .appv 27 2 16 (.t 9) (.t 11), none, true⟩
            (.cons ⟨none, .st 1 (.t 13) (.t 8), none, true⟩
            (.cons ⟨(some 14), .fa 4 (.t 3), none, true⟩
            (.cons ⟨none, .st 1 (.t 14) (.t 12), none, true⟩
            .nil)))))])))]))])), (.cons ⟨(some 10), .fa 4 (.t 1), none, false⟩
      (.br [(.cons ⟨(some 8), .appv 56 2 16 (.t 5) (.t 7), none, true⟩
        (.cons ⟨(some 9), .bsl 27 2 [], none, false⟩
        (.cons ⟨(some 11), .ld true 1 (.t 10), none, false⟩
        (.br [(.cons ⟨(some 12), .appv 27 2 16 (.t 9) (.t 11), none, true⟩
          (.cons ⟨(some 13), .fa 0 (.t 3), none, false⟩
          (.cons ⟨none, .st 1 (.t 13) (.t 8), none, true⟩
          (.cons ⟨(some 14), .fa 4 (.t 3), none, true⟩
          (.cons ⟨none, .st 1 (.t 14) (.t 12), none, true⟩
          .nil))))), (.cons ⟨(some 13), .fa 0 (.t 3), none, false⟩
          (.cons ⟨(some 12), .appv 27 2 16 (.t 9) (.t 11), none, true⟩
          (.cons ⟨none, .st 1 (.t 13) (.t 8), none, true⟩
          (.cons ⟨(some 14), .fa 4 (.t 3), none, true⟩
          (.cons ⟨none, .st 1 (.t 14) (.t 12), none, true⟩
          .nil)))))])))), (.cons ⟨(some 9), .bsl 27 2 [], none, false⟩
        (.br [(.cons ⟨(some 8), .appv 56 2 16 (.t 5) (.t 7), none, true⟩
          (.cons ⟨(some 11), .ld true 1 (.t 10), none, false⟩
          (.br [(.cons ⟨(some 12), .appv 27 2 16 (.t 9) (.t 11), none, true⟩
            (.cons ⟨(some 13), .fa 0 (.t 3), none, false⟩
            (.cons ⟨none, .st 1 (.t 13) (.t 8), none, true⟩
            (.cons ⟨(some 14), .fa 4 (.t 3), none, true⟩
            (.cons ⟨none, .st 1 (.t 14) (.t 12), none, true⟩
            .nil))))), (.cons ⟨(some 13), .fa 0 (.t 3), none, false⟩
            (.cons ⟨(some 12), .appv 27 2 16 (.t 9) (.t 11), none, true⟩
            (.cons ⟨none, .st 1 (.t 13) (.t 8), none, true⟩
            (.cons ⟨(some 14), .fa 4 (.t 3), none, true⟩
            (.cons ⟨none, .st 1 (.t 14) (.t 12), none, true⟩
            .nil)))))]))), (.cons ⟨(some 11), .ld true 1 (.t 10), none, false⟩
          (.cons ⟨(some 8), .appv 56 2 16 (.t 5) (.t 7), none, true⟩
          (.br [(.cons ⟨(some 12), .appv 27 2 16 (.t 9) (.t 11), none, true⟩
            (.cons ⟨(some 13), .fa 0 (.t 3), none, false⟩
            (.cons ⟨none, .st 1 (.t 13) (.t 8), none, true⟩
            (.cons ⟨(some 14), .fa 4 (.t 3), none, true⟩
            (.cons ⟨none, .st 1 (.t 14) (.t 12), none, true⟩
            .nil))))), (.cons ⟨(some 13), .fa 0 (.t 3), none, false⟩
            (.cons ⟨(some 12), .appv 27 2 16 (.t 9) (.t 11), none, true⟩
            (.cons ⟨none, .st 1 (.t 13) (.t 8), none, true⟩
            (.cons ⟨(some 14), .fa 4 (.t 3), none, true⟩
            (.cons ⟨none, .st 1 (.t 14) (.t 12), none, true⟩
            .nil)))))])))])), (.cons ⟨(some 11), .ld true 1 (.t 10), none, false⟩
        (.br [(.cons ⟨(some 8), .appv 56 2 16 (.t 5) (.t 7), none, true⟩
          (.cons ⟨(some 9), .bsl 27 2 [], none, false⟩
          (.br [(.cons ⟨(some 12), .appv 27 2 16 (.t 9) (.t 11), none, true⟩
            (.cons ⟨(some 13), .fa 0 (.t 3), none, false⟩
            (.cons ⟨none, .st 1 (.t 13) (.t 8), none, true⟩
            (.cons ⟨(some 14), .fa 4 (.t 3), none, true⟩
            (.cons ⟨none, .st 1 (.t 14) (.t 12), none, true⟩
            .nil))))), (.cons ⟨(some 13), .fa 0 (.t 3), none, false⟩
            (.cons ⟨(some 12), .appv 27 2 16 (.t 9) (.t 11), none, true⟩
            (.cons ⟨none, .st 1 (.t 13) (.t 8), none, true⟩
            (.cons ⟨(some 14), .fa 4 (.t 3), none, true⟩
            (.cons ⟨none, .st 1 (.t 14) (.t 12), none, true⟩
            .nil)))))]))), (.cons ⟨(some 9), .bsl 27 2 [], none, false⟩
          (.cons ⟨(some 8), .appv 56 2 16 (.t 5) (.t 7), none, true⟩
          (.br [(.cons ⟨(some 12), .appv 27 2 16 (.t 9) (.t 11), none, true⟩
            (.cons ⟨(some 13), .fa 0 (.t 3), none, false⟩
            (.cons ⟨none, .st 1 (.t 13) (.t 8), none, true⟩
            (.cons ⟨(some 14), .fa 4 (.t 3), none, true⟩
            (.cons ⟨none, .st 1 (.t 14) (.t 12), none, true⟩
            .nil))))), (.cons ⟨(some 13), .fa 0 (.t 3), none, false⟩
            (.cons ⟨(some 12), .appv 27 2 16 (.t 9) (.t 11), none, true⟩
            (.cons ⟨none, .st 1 (.t 13) (.t 8), none, true⟩
            (.cons ⟨(some 14), .fa 4 (.t 3), none, true⟩
            (.cons ⟨none, .st 1 (.t 14) (.t 12), none, true⟩
            .nil)))))])))]))]))])), (.cons ⟨(some 9), .bsl 27 2 [], none, false⟩
    (.cons ⟨(some 5), .bsl 56 2 [], none, false⟩
    (.br [(.cons ⟨(some 8), .appv 56 2 16 (.t 5) (.t 7), none, true⟩
      (.cons ⟨(some 10), .fa 4 (.t 1), none, false⟩
      (.cons ⟨(some 11), .ld true 1 (.t 10), none, false⟩
      (.br [(.cons ⟨(some 12), .appv 27 2 16 (.t 9) (.t 11), none, true⟩
        (.cons ⟨(some 13), .fa 0 (.t 3), none, false⟩
        (.cons ⟨none, .st 1 (.t 13) (.t 8), none, true⟩
        (.cons ⟨(some 14), .fa 4 (.t 3), none, true⟩
        (.cons ⟨none, .st 1 (.t 14) (.t 12), none, true⟩
        .nil))))), (.cons ⟨(some 13), .fa 0 (.t 3), none, false⟩
        (.cons ⟨(some 12), .appv 27 2 16 (.t 9) (.t 11), none, true⟩
        (.cons ⟨none, .st 1 (.t 13) (.t 8), none, true⟩
        (.cons ⟨(some 14), .fa 4 (.t 3), none, true⟩
        (.cons ⟨none, .st 1 (.t 14) (.t 12), none, true⟩
        .nil)))))])))), (.cons ⟨(some 10), .fa 4 (.t 1), none, false⟩
      (.br [(.cons ⟨(some 8), .appv 56 2 16 (.t 5) (.t 7), none, true⟩
        (.cons ⟨(some 11), .ld true 1 (.t 10), none, false⟩
        (.br [(.cons ⟨(some 12), .appv 27 2 16 (.t 9) (.t 11), none, true⟩
          (.cons ⟨(some 13), .fa 0 (.t 3), none, false⟩
          (.cons ⟨none, .st 1 (.t 13) (.t 8), none, true⟩
          (.cons ⟨(some 14), .fa 4 (.t 3), none, true⟩
          (.cons ⟨none, .st 1 (.t 14) (.t 12), none, true⟩
          .nil))))), (.cons ⟨(some 13), .fa 0 (.t 3), none, false⟩
          (.cons ⟨(some 12), .appv 27 2 16 (.t 9) (.t 11), none, true⟩
          (.cons ⟨none, .st 1 (.t 13) (.t 8), none, true⟩
          (.cons ⟨(some 14), .fa 4 (.t 3), none, true⟩
          (.cons ⟨none, .st 1 (.t 14) (.t 12), none, true⟩
          .nil)))))]))), (.cons ⟨(some 11), .ld true 1 (.t 10), none, false⟩
        (.cons ⟨(some 8), .appv 56 2 16 (.t 5) (.t 7), none, true⟩
        (.br [(.cons ⟨(some 12), .appv 27 2 16 (.t 9) (.t 11), none, true⟩
          (.cons ⟨(some 13), .fa 0 (.t 3), none, false⟩
          (.cons ⟨none, .st 1 (.t 13) (.t 8), none, true⟩
          (.cons ⟨(some 14), .fa 4 (.t 3), none, true⟩
          (.cons ⟨none, .st 1 (.t 14) (.t 12), none, true⟩
          .nil))))), (.cons ⟨(some 13), .fa 0 (.t 3), none, false⟩
          (.cons ⟨(some 12), .appv 27 2 16 (.t 9) (.t 11), none, true⟩
          (.cons ⟨none, .st 1 (.t 13) (.t 8), none, true⟩
          (.cons ⟨(some 14), .fa 4 (.t 3), none, true⟩
          (.cons ⟨none, .st 1 (.t 14) (.t 12), none, true⟩
          .nil)))))])))]))]))), (.cons ⟨(some 10), .fa 4 (.t 1), none, false⟩
    (.br [(.cons ⟨(some 5), .bsl 56 2 [], none, false⟩
      (.br [(.cons ⟨(some 8), .appv 56 2 16 (.t 5) (.t 7), none, true⟩
        (.cons ⟨(some 9), .bsl 27 2 [], none, false⟩
        (.cons ⟨(some 11), .ld true 1 (.t 10), none, false⟩
        (.br [(.cons ⟨(some 12), .appv 27 2 16 (.t 9) (.t 11), none, true⟩
          (.cons ⟨(some 13), .fa 0 (.t 3), none, false⟩
          (.cons ⟨none, .st 1 (.t 13) (.t 8), none, true⟩
          (.cons ⟨(some 14), .fa 4 (.t 3), none, true⟩
          (.cons ⟨none, .st 1 (.t 14) (.t 12), none, true⟩
          .nil))))), (.cons ⟨(some 13), .fa 0 (.t 3), none, false⟩
          (.cons ⟨(some 12), .appv 27 2 16 (.t 9) (.t 11), none, true⟩
          (.cons ⟨none, .st 1 (.t 13) (.t 8), none, true⟩
          (.cons ⟨(some 14), .fa 4 (.t 3), none, true⟩
          (.cons ⟨none, .st 1 (.t 14) (.t 12), none, true⟩
          .nil)))))])))), (.cons ⟨(some 9), .bsl 27 2 [], none, false⟩
        (.br [(.cons ⟨(some 8), .appv 56 2 16 (.t 5) (.t 7), none, true⟩
          (.cons ⟨(some 11), .ld true 1 (.t 10), none, false⟩
          (.br [(.cons ⟨(some 12), .appv 27 2 16 (.t 9) (.t 11), none, true⟩
            (.cons ⟨(some 13), .fa 0 (.t 3), none, false⟩
            (.cons ⟨none, .st 1 (.t 13) (.t 8), none, true⟩
            (.cons ⟨(some 14), .fa 4 (.t 3), none, true⟩
            (.cons ⟨none, .st 1 (.t 14) (.t 12), none, true⟩
            .nil))))), (.cons ⟨(some 13), .fa 0 (.t 3), none, false⟩
            (.cons ⟨(some 12), .appv 27 2 16 (.t 9) (.t 11), none, true⟩
            (.cons ⟨none, .st 1 (.t 13) (.t 8), none, true⟩
            (.cons ⟨(some 14), .fa 4 (.t 3), none, true⟩
            (.cons ⟨none, .st 1 (.t 14) (.t 12), none, true⟩
            .nil)))))]))), (.cons ⟨(some 11), .ld true 1 (.t 10), none, false⟩
          (.cons ⟨(some 8), .appv 56 2 16 (.t 5) (.t 7), none, true⟩
          (.br [(.cons ⟨(some 12), .appv 27 2 16 (.t 9) (.t 11), none, true⟩
            (.cons ⟨(some 13), .fa 0 (.t 3), none, false⟩
            (.cons ⟨none, .st 1 (.t 13) (.t 8), none, true⟩
            (.cons ⟨(some 14), .fa 4 (.t 3), none, true⟩
            (.cons ⟨none, .st 1 (.t 14) (.t 12), none, true⟩
            .nil))))), (.cons ⟨(some 13), .fa 0 (.t 3), none, false⟩
            (.cons ⟨(some 12), .appv 27 2 16 (.t 9) (.t 11), none, true⟩
            (.cons ⟨none, .st 1 (.t 13) (.t 8), none, true⟩
            (.cons ⟨(some 14), .fa 4 (.t 3), none, true⟩
            (.cons ⟨none, .st 1 (.t 14) (.t 12), none, true⟩
            .nil)))))])))])), (.cons ⟨(some 11), .ld true 1 (.t 10), none, false⟩
        (.br [(.cons ⟨(some 8), .appv 56 2 16 (.t 5) (.t 7), none, true⟩
          (.cons ⟨(some 9), .bsl 27 2 [], none, false⟩
          (.br [(.cons ⟨(some 12), .appv 27 2 16 (.t 9) (.t 11), none, true⟩
            (.cons ⟨(some 13), .fa 0 (.t 3), none, false⟩
            (.cons ⟨none, .st 1 (.t 13) (.t 8), none, true⟩
            (.cons ⟨(some 14), .fa 4 (.t 3), none, true⟩
            (.cons ⟨none, .st 1 (.t 14) (.t 12), none, true⟩
            .nil))))), (.cons ⟨(some 13), .fa 0 (.t 3), none, false⟩
            (.cons ⟨(some 12), .appv 27 2 16 (.t 9) (.t 11), none, true⟩
            (.cons ⟨none, .st 1 (.t 13) (.t 8), none, true⟩
            (.cons ⟨(some 14), .fa 4 (.t 3), none, true⟩
            (.cons ⟨none, .st 1 (.t 14) (.t 12), none, true⟩
            .nil)))))]))), (.cons ⟨(some 9), .bsl 27 2 [], none, false⟩
          (.cons ⟨(some 8), .appv 56 2 16 (.t 5) (.t 7), none, true⟩
          (.br [(.cons ⟨(some 12), .appv 27 2 16 (.t 9) (.t 11), none, true⟩
            (.cons ⟨(some 13), .fa 0 (.t 3), none, false⟩
            (.cons ⟨none, .st 1 (.t 13) (.t 8), none, true⟩
            (.cons ⟨(some 14), .fa 4 (.t 3), none, true⟩
            (.cons ⟨none, .st 1 (.t 14) (.t 12), none, true⟩
            .nil))))), (.cons ⟨(some 13), .fa 0 (.t 3), none, false⟩
            (.cons ⟨(some 12), .appv 27 2 16 (.t 9) (.t 11), none, true⟩
            (.cons ⟨none, .st 1 (.t 13) (.t 8), none, true⟩
            (.cons ⟨(some 14), .fa 4 (.t 3), none, true⟩
            (.cons ⟨none, .st 1 (.t 14) (.t 12), none, true⟩
            .nil)))))])))]))])), (.cons ⟨(some 9), .bsl 27 2 [], none, false⟩
      (.cons ⟨(some 5), .bsl 56 2 [], none, false⟩
      (.br [(.cons ⟨(some 8), .appv 56 2 16 (.t 5) (.t 7), none, true⟩
        (.cons ⟨(some 11), .ld true 1 (.t 10), none, false⟩
        (.br [(.cons ⟨(some 12), .appv 27 2 16 (.t 9) (.t 11), none, true⟩
          (.cons ⟨(some 13), .fa 0 (.t 3), none, false⟩
          (.cons ⟨none, .st 1 (.t 13) (.t 8), none, true⟩
          (.cons ⟨(some 14), .fa 4 (.t 3), none, true⟩
          (.cons ⟨none, .st 1 (.t 14) (.t 12), none, true⟩
          .nil))))), (.cons ⟨(some 13), .fa 0 (.t 3), none, false⟩
          (.cons ⟨(some 12), .appv 27 2 16 (.t 9) (.t 11), none, true⟩
          (.cons ⟨none, .st 1 (.t 13) (.t 8), none, true⟩
          (.cons ⟨(some 14), .fa 4 (.t 3), none, true⟩
          (.cons ⟨none, .st 1 (.t 14) (.t 12), none, true⟩
          .nil)))))]))), (.cons ⟨(some 11), .ld true 1 (.t 10), none, false⟩
        (.cons ⟨(some 8), .appv 56 2 16 (.t 5) (.t 7), none, true⟩
        (.br [(.cons ⟨(some 12), .appv 27 2 16 (.t 9) (.t 11), none, true⟩
          (.cons ⟨(some 13), .fa 0 (.t 3), none, false⟩
          (.cons ⟨none, .st 1 (.t 13) (.t 8), none, true⟩
          (.cons ⟨(some 14), .fa 4 (.t 3), none, true⟩
          (.cons ⟨none, .st 1 (.t 14) (.t 12), none, true⟩
          .nil))))), (.cons ⟨(some 13), .fa 0 (.t 3), none, false⟩
          (.cons ⟨(some 12), .appv 27 2 16 (.t 9) (.t 11), none, true⟩
          (.cons ⟨none, .st 1 (.t 13) (.t 8), none, true⟩
          (.cons ⟨(some 14), .fa 4 (.t 3), none, true⟩
          (.cons ⟨none, .st 1 (.t 14) (.t 12), none, true⟩
          .nil)))))])))]))), (.cons ⟨(some 11), .ld true 1 (.t 10), none, false⟩
      (.br [(.cons ⟨(some 5), .bsl 56 2 [], none, false⟩
        (.br [(.cons ⟨(some 8), .appv 56 2 16 (.t 5) (.t 7), none, true⟩
          (.cons ⟨(some 9), .bsl 27 2 [], none, false⟩
          (.br [(.cons ⟨(some 12), .appv 27 2 16 (.t 9) (.t 11), none, true⟩
            (.cons ⟨(some 13), .fa 0 (.t 3), none, false⟩
            (.cons ⟨none, .st 1 (.t 13) (.t 8), none, true⟩
            (.cons ⟨(some 14), .fa 4 (.t 3), none, true⟩
            (.cons ⟨none, .st 1 (.t 14) (.t 12), none, true⟩
            .nil))))), (.cons ⟨(some 13), .fa 0 (.t 3), none, false⟩
            (.cons ⟨(some 12), .appv 27 2 16 (.t 9) (.t 11), none, true⟩
            (.cons ⟨none, .st 1 (.t 13) (.t 8), none, true⟩
            (.cons ⟨(some 14), .fa 4 (.t 3), none, true⟩
            (.cons ⟨none, .st 1 (.t 14) (.t 12), none, true⟩
            .nil)))))]))), (.cons ⟨(some 9), .bsl 27 2 [], none, false⟩
          (.cons ⟨(some 8), .appv 56 2 16 (.t 5) (.t 7), none, true⟩
          (.br [(.cons ⟨(some 12), .appv 27 2 16 (.t 9) (.t 11), none, true⟩
            (.cons ⟨(some 13), .fa 0 (.t 3), none, false⟩
            (.cons ⟨none, .st 1 (.t 13) (.t 8), none, true⟩
            (.cons ⟨(some 14), .fa 4 (.t 3), none, true⟩
            (.cons ⟨none, .st 1 (.t 14) (.t 12), none, true⟩
            .nil))))), (.cons ⟨(some 13), .fa 0 (.t 3), none, false⟩
            (.cons ⟨(some 12), .appv 27 2 16 (.t 9) (.t 11), none, true⟩
            (.cons ⟨none, .st 1 (.t 13) (.t 8), none, true⟩
            (.cons ⟨(some 14), .fa 4 (.t 3), none, true⟩
            (.cons ⟨none, .st 1 (.t 14) (.t 12), none, true⟩
            .nil)))))])))])), (.cons ⟨(some 9), .bsl 27 2 [], none, false⟩
        (.cons ⟨(some 5), .bsl 56 2 [], none, false⟩
        (.cons ⟨(some 8), .appv 56 2 16 (.t 5) (.t 7), none, true⟩
        (.br [(.cons ⟨(some 12), .appv 27 2 16 (.t 9) (.t 11), none, true⟩
          (.cons ⟨(some 13), .fa 0 (.t 3), none, false⟩
          (.cons ⟨none, .st 1 (.t 13) (.t 8), none, true⟩
          (.cons ⟨(some 14), .fa 4 (.t 3), none, true⟩
          (.cons ⟨none, .st 1 (.t 14) (.t 12), none, true⟩
          .nil))))), (.cons ⟨(some 13), .fa 0 (.t 3), none, false⟩
          (.cons ⟨(some 12), .appv 27 2 16 (.t 9) (.t 11), none, true⟩
          (.cons ⟨none, .st 1 (.t 13) (.t 8), none, true⟩
          (.cons ⟨(some 14), .fa 4 (.t 3), none, true⟩
          (.cons ⟨none, .st 1 (.t 14) (.t 12), none, true⟩
          .nil)))))]))))]))]))])))
@[reducible] def o20_3 : List Ins := [⟨(some 15), .ld false 5 (.t 3), none, true⟩,
  ⟨none, .st 5 (.t 2) (.t 15), none, true⟩]
@[reducible] def v20_4 : VC := (.seq (.ops o20_3) .ret)
@[reducible] def v20_5 : VC := (.seq (.drw t20_2) v20_4)
@[reducible] def v20_6 : VC := (.seq (.ops o20_1) v20_5)
def ir20 : FC := ⟨1, 16, [.cell 2 false 5], (.seq (.ops o20_0) v20_6)⟩
theorem c20 : compM Try.prog [100008,100012] 20 = some ir20 := by kernel_rfl

end W
namespace W8
@[reducible] def o20_0 : List Ins := [⟨(some 1), .box 5 (.t 0), none, true⟩,
  ⟨(some 2), .alloc [(.c (.raw (.slice none 0 0))), (.c (.int .i64 0)), (.c (.int .i64 0)), (.c (.int .i64 0)), (.c (.raw (.slice none 0 0)))], none, true⟩]
@[reducible] def o20_1 : List Ins := [⟨(some 4), .ld false 5 (.t 1), none, true⟩,
  ⟨(some 3), .alloc [(.c (.raw (.slice none 0 0))), (.c (.int .i64 0)), (.c (.int .i64 0)), (.c (.int .i64 0)), (.c (.raw (.slice none 0 0)))], none, true⟩,
  ⟨none, .st 5 (.t 3) (.t 4), none, true⟩]
@[reducible] def t20_2 : OT := (.cons ⟨(some 6), .fa 0 (.t 1), none, false⟩
  (.cons ⟨(some 7), .ld true 1 (.t 6), none, false⟩
  (.br [(.cons ⟨(some 5), .bsl 56 2 [], none, false⟩
    (.br [(.cons ⟨(some 8), .appv 56 2 16 (.t 5) (.t 7), none, true⟩
      (.cons ⟨(some 9), .bsl 27 2 [], none, false⟩
      (.cons ⟨(some 10), .fa 4 (.t 1), none, false⟩
      (.cons ⟨(some 11), .ld true 1 (.t 10), none, false⟩
      (.cons ⟨(some 12), .app 27 2 16 (.t 9) (.t 11), none, false⟩
      (.cons ⟨(some 13), .fa 0 (.t 3), none, false⟩
      (.cons ⟨none, .st 1 (.t 13) (.t 8), none, true⟩
      (.cons ⟨(some 14), .fa 4 (.t 3), none, true⟩
      (.cons ⟨none, .st 1 (.t 14) (.t 12), none, true⟩
      .nil))))))))), (.cons ⟨(some 9), .bsl 27 2 [], none, false⟩
      (.br [(.cons ⟨(some 8), .appv 56 2 16 (.t 5) (.t 7), none, true⟩
        (.cons ⟨(some 10), .fa 4 (.t 1), none, false⟩
        (.cons ⟨(some 11), .ld true 1 (.t 10), none, false⟩
        (.cons ⟨(some 12), .app 27 2 16 (.t 9) (.t 11), none, false⟩
        (.cons ⟨(some 13), .fa 0 (.t 3), none, false⟩
        (.cons ⟨none, .st 1 (.t 13) (.t 8), none, true⟩
        (.cons ⟨(some 14), .fa 4 (.t 3), none, true⟩
        (.cons ⟨none, .st 1 (.t 14) (.t 12), none, true⟩
        .nil)))))))), (.cons ⟨(some 10), .fa 4 (.t 1), none, false⟩
        (.br [(.cons ⟨(some 8), .appv 56 2 16 (.t 5) (.t 7), none, true⟩
          (.cons ⟨(some 11), .ld true 1 (.t 10), none, false⟩
          (.cons ⟨(some 12), .app 27 2 16 (.t 9) (.t 11), none, false⟩
          (.cons ⟨(some 13), .fa 0 (.t 3), none, false⟩
          (.cons ⟨none, .st 1 (.t 13) (.t 8), none, true⟩
          (.cons ⟨(some 14), .fa 4 (.t 3), none, true⟩
          (.cons ⟨none, .st 1 (.t 14) (.t 12), none, true⟩
          .nil))))))), (.cons ⟨(some 11), .ld true 1 (.t 10), none, false⟩
          (.cons ⟨(some 8), .appv 56 2 16 (.t 5) (.t 7), none, true⟩
          (.cons ⟨(some 12), .app 27 2 16 (.t 9) (.t 11), none, false⟩
          (.cons ⟨(some 13), .fa 0 (.t 3), none, false⟩
          (.cons ⟨none, .st 1 (.t 13) (.t 8), none, true⟩
          (.cons ⟨(some 14), .fa 4 (.t 3), none, true⟩
          (.cons ⟨none, .st 1 (.t 14) (.t 12), none, true⟩
          .nil)))))))]))])), (.cons ⟨(some 10), .fa 4 (.t 1), none, false⟩
      (.br [(.cons ⟨(some 8), .appv 56 2 16 (.t 5) (.t 7), none, true⟩
        (.cons ⟨(some 9), .bsl 27 2 [], none, false⟩
        (.cons ⟨(some 11), .ld true 1 (.t 10), none, false⟩
        (.cons ⟨(some 12), .app 27 2 16 (.t 9) (.t 11), none, false⟩
        (.cons ⟨(some 13), .fa 0 (.t 3), none, false⟩
        (.cons ⟨none, .st 1 (.t 13) (.t 8), none, true⟩
        (.cons ⟨(some 14), .fa 4 (.t 3), none, true⟩
        (.cons ⟨none, .st 1 (.t 14) (.t 12), none, true⟩
        .nil)))))))), (.cons ⟨(some 9), .bsl 27 2 [], none, false⟩
        (.br [(.cons ⟨(some 8), .appv 56 2 16 (.t 5) (.t 7), none, true⟩
          (.cons ⟨(some 11), .ld true 1 (.t 10), none, false⟩
          (.cons ⟨(some 12), .app 27 2 16 (.t 9) (.t 11), none, false⟩
          (.cons ⟨(some 13), .fa 0 (.t 3), none, false⟩
          (.cons ⟨none, .st 1 (.t 13) (.t 8), none, true⟩
          (.cons ⟨(some 14), .fa 4 (.t 3), none, true⟩
          (.cons ⟨none, .st 1 (.t 14) (.t 12), none, true⟩
          .nil))))))), (.cons ⟨(some 11), .ld true 1 (.t 10), none, false⟩
          (.cons ⟨(some 8), .appv 56 2 16 (.t 5) (.t 7), none, true⟩
          (.cons ⟨(some 12), .app 27 2 16 (.t 9) (.t 11), none, false⟩
          (.cons ⟨(some 13), .fa 0 (.t 3), none, false⟩
          (.cons ⟨none, .st 1 (.t 13) (.t 8), none, true⟩
          (.cons ⟨(some 14), .fa 4 (.t 3), none, true⟩
          (.cons ⟨none, .st 1 (.t 14) (.t 12), none, true⟩
          .nil)))))))])), (.cons ⟨(some 11), .ld true 1 (.t 10), none, false⟩
        (.br [(.cons ⟨(some 8), .appv 56 2 16 (.t 5) (.t 7), none, true⟩
          (.cons ⟨(some 9), .bsl 27 2 [], none, false⟩
          (.cons ⟨(some 12), .app 27 2 16 (.t 9) (.t 11), none, false⟩
          (.cons ⟨(some 13), .fa 0 (.t 3), none, false⟩
          (.cons ⟨none, .st 1 (.t 13) (.t 8), none, true⟩
          (.cons ⟨(some 14), .fa 4 (.t 3), none, true⟩
          (.cons ⟨none, .st 1 (.t 14) (.t 12), none, true⟩
          .nil))))))), (.cons ⟨(some 9), .bsl 27 2 [], none, false⟩
          (.cons ⟨(some 8), .appv 56 2 16 (.t 5) (.t 7), none, true⟩
          (.cons ⟨(some 12), .app 27 2 16 (.t 9) (.t 11), none, false⟩
          (.cons ⟨(some 13), .fa 0 (.t 3), none, false⟩
          (.cons ⟨none, .st 1 (.t 13) (.t 8), none, true⟩
          (.cons ⟨(some 14), .fa 4 (.t 3), none, true⟩
          (.cons ⟨none, .st 1 (.t 14) (.t 12), none, true⟩
          .nil)))))))]))]))])), (.cons ⟨(some 9), .bsl 27 2 [], none, false⟩
    (.cons ⟨(some 5), .bsl 56 2 [], none, false⟩
    (.br [(.cons ⟨(some 8), .appv 56 2 16 (.t 5) (.t 7), none, true⟩
      (.cons ⟨(some 10), .fa 4 (.t 1), none, false⟩
      (.cons ⟨(some 11), .ld true 1 (.t 10), none, false⟩
      (.cons ⟨(some 12), .app 27 2 16 (.t 9) (.t 11), none, false⟩
      (.cons ⟨(some 13), .fa 0 (.t 3), none, false⟩
      (.cons ⟨none, .st 1 (.t 13) (.t 8), none, true⟩
      (.cons ⟨(some 14), .fa 4 (.t 3), none, true⟩
      (.cons ⟨none, .st 1 (.t 14) (.t 12), none, true⟩
      .nil)))))))), (.cons ⟨(some 10), .fa 4 (.t 1), none, false⟩
      (.br [(.cons ⟨(some 8), .appv 56 2 16 (.t 5) (.t 7), none, true⟩
        (.cons ⟨(some 11), .ld true 1 (.t 10), none, false⟩
        (.cons ⟨(some 12), .app 27 2 16 (.t 9) (.t 11), none, false⟩
        (.cons ⟨(some 13), .fa 0 (.t 3), none, false⟩
        (.cons ⟨none, .st 1 (.t 13) (.t 8), none, true⟩
        (.cons ⟨(some 14), .fa 4 (.t 3), none, true⟩
        (.cons ⟨none, .st 1 (.t 14) (.t 12), none, true⟩
        .nil))))))), (.cons ⟨(some 11), .ld true 1 (.t 10), none, false⟩
        (.cons ⟨(some 8), .appv 56 2 16 (.t 5) (.t 7), none, true⟩
        (.cons ⟨(some 12), .app 27 2 16 (.t 9) (.t 11), none, false⟩
        (.cons ⟨(some 13), .fa 0 (.t 3), none, false⟩
        (.cons ⟨none, .st 1 (.t 13) (.t 8), none, true⟩
        (.cons ⟨(some 14), .fa 4 (.t 3), none, true⟩
        (.cons ⟨none, .st 1 (.t 14) (.t 12), none, true⟩
        .nil)))))))]))]))), (.cons ⟨(some 10), .fa 4 (.t 1), none, false⟩
    (.br [(.cons ⟨(some 5), .bsl 56 2 [], none, false⟩
      (.br [(.cons ⟨(some 8), .appv 56 2 16 (.t 5) (.t 7), none, true⟩
        (.cons ⟨(some 9), .bsl 27 2 [], none, false⟩
        (.cons ⟨(some 11), .ld true 1 (.t 10), none, false⟩
        (.cons ⟨(some 12), .app 27 2 16 (.t 9) (.t 11), none, false⟩
        (.cons ⟨(some 13), .fa 0 (.t 3), none, false⟩
        (.cons ⟨none, .st 1 (.t 13) (.t 8), none, true⟩
        (.cons ⟨(some 14), .fa 4 (.t 3), none, true⟩
        (.cons ⟨none, .st 1 (.t 14) (.t 12), none, true⟩
        .nil)))))))), (.cons ⟨(some 9), .bsl 27 2 [], none, false⟩
        (.br [(.cons ⟨(some 8), .appv 56 2 16 (.t 5) (.t 7), none, true⟩
          (.cons ⟨(some 11), .ld true 1 (.t 10), none, false⟩
          (.cons ⟨(some 12), .app 27 2 16 (.t 9) (.t 11), none, false⟩
          (.cons ⟨(some 13), .fa 0 (.t 3), none, false⟩
          (.cons ⟨none, .st 1 (.t 13) (.t 8), none, true⟩
          (.cons ⟨(some 14), .fa 4 (.t 3), none, true⟩
          (.cons ⟨none, .st 1 (.t 14) (.t 12), none, true⟩
          .nil))))))), (.cons ⟨(some 11), .ld true 1 (.t 10), none, false⟩
          (.cons ⟨(some 8), .appv 56 2 16 (.t 5) (.t 7), none, true⟩
          (.cons ⟨(some 12), .app 27 2 16 (.t 9) (.t 11), none, false⟩
          (.cons ⟨(some 13), .fa 0 (.t 3), none, false⟩
          (.cons ⟨none, .st 1 (.t 13) (.t 8), none, true⟩
          (.cons ⟨(some 14), .fa 4 (.t 3), none, true⟩
          (.cons ⟨none, .st 1 (.t 14) (.t 12), none, true⟩
          .nil)))))))])), (.cons ⟨(some 11), .ld true 1 (.t 10), none, false⟩
        (.br [(.cons ⟨(some 8), .appv 56 2 16 (.t 5) (.t 7), none, true⟩
          (.cons ⟨(some 9), .bsl 27 2 [], none, false⟩
          (.cons ⟨(some 12), .app 27 2 16 (.t 9) (.t 11), none, false⟩
          (.cons ⟨(some 13), .fa 0 (.t 3), none, false⟩
          (.cons ⟨none, .st 1 (.t 13) (.t 8), none, true⟩
          (.cons ⟨(some 14), .fa 4 (.t 3), none, true⟩
          (.cons ⟨none, .st 1 (.t 14) (.t 12), none, true⟩
          .nil))))))), (.cons ⟨(some 9), .bsl 27 2 [], none, false⟩
          (.cons ⟨(some 8), .appv 56 2 16 (.t 5) (.t 7), none, true⟩
          (.cons ⟨(some 12), .app 27 2 16 (.t 9) (.t 11), none, false⟩
          (.cons ⟨(some 13), .fa 0 (.t 3), none, false⟩
          (.cons ⟨none, .st 1 (.t 13) (.t 8), none, true⟩
          (.cons ⟨(some 14), .fa 4 (.t 3), none, true⟩
          (.cons ⟨none, .st 1 (.t 14) (.t 12), none, true⟩
          .nil)))))))]))])), (.cons ⟨(some 9), .bsl 27 2 [], none, false⟩
      (.cons ⟨(some 5), .bsl 56 2 [], none, false⟩
      (.br [(.cons ⟨(some 8), .appv 56 2 16 (.t 5) (.t 7), none, true⟩
        (.cons ⟨(some 11), .ld true 1 (.t 10), none, false⟩
        (.cons ⟨(some 12), .app 27 2 16 (.t 9) (.t 11), none, false⟩
        (.cons ⟨(some 13), .fa 0 (.t 3), none, false⟩
        (.cons ⟨none, .st 1 (.t 13) (.t 8), none, true⟩
        (.cons ⟨(some 14), .fa 4 (.t 3), none, true⟩
        (.cons ⟨none, .st 1 (.t 14) (.t 12), none, true⟩
        .nil))))))), (.cons ⟨(some 11), .ld true 1 (.t 10), none, false⟩
        (.cons ⟨(some 8), .appv 56 2 16 (.t 5) (.t 7), none, true⟩
        (.cons ⟨(some 12), .app 27 2 16 (.t 9) (.t 11), none, false⟩
        (.cons ⟨(some 13), .fa 0 (.t 3), none, false⟩
        (.cons ⟨none, .st 1 (.t 13) (.t 8), none, true⟩
        (.cons ⟨(some 14), .fa 4 (.t 3), none, true⟩
        (.cons ⟨none, .st 1 (.t 14) (.t 12), none, true⟩
        .nil)))))))]))), (.cons ⟨(some 11), .ld true 1 (.t 10), none, false⟩
      (.br [(.cons ⟨(some 5), .bsl 56 2 [], none, false⟩
        (.br [(.cons ⟨(some 8), .appv 56 2 16 (.t 5) (.t 7), none, true⟩
          (.cons ⟨(some 9), .bsl 27 2 [], none, false⟩
          (.cons ⟨(some 12), .app 27 2 16 (.t 9) (.t 11), none, false⟩
          (.cons ⟨(some 13), .fa 0 (.t 3), none, false⟩
          (.cons ⟨none, .st 1 (.t 13) (.t 8), none, true⟩
          (.cons ⟨(some 14), .fa 4 (.t 3), none, true⟩
          (.cons ⟨none, .st 1 (.t 14) (.t 12), none, true⟩
          .nil))))))), (.cons ⟨(some 9), .bsl 27 2 [], none, false⟩
          (.cons ⟨(some 8), .appv 56 2 16 (.t 5) (.t 7), none, true⟩
          (.cons ⟨(some 12), .app 27 2 16 (.t 9) (.t 11), none, false⟩
          (.cons ⟨(some 13), .fa 0 (.t 3), none, false⟩
          (.cons ⟨none, .st 1 (.t 13) (.t 8), none, true⟩
          (.cons ⟨(some 14), .fa 4 (.t 3), none, true⟩
          (.cons ⟨none, .st 1 (.t 14) (.t 12), none, true⟩
          .nil)))))))])), (.cons ⟨(some 9), .bsl 27 2 [], none, false⟩
        (.cons ⟨(some 5), .bsl 56 2 [], none, false⟩
        (.cons ⟨(some 8), .appv 56 2 16 (.t 5) (.t 7), none, true⟩
        (.cons ⟨(some 12), .app 27 2 16 (.t 9) (.t 11), none, false⟩
        (.cons ⟨(some 13), .fa 0 (.t 3), none, false⟩
        (.cons ⟨none, .st 1 (.t 13) (.t 8), none, true⟩
        (.cons ⟨(some 14), .fa 4 (.t 3), none, true⟩
        (.cons ⟨none, .st 1 (.t 14) (.t 12), none, true⟩
        .nil))))))))]))]))])))
@[reducible] def o20_3 : List Ins := [⟨(some 15), .ld false 5 (.t 3), none, true⟩,
  ⟨none, .st 5 (.t 2) (.t 15), none, true⟩]
@[reducible] def v20_4 : VC := (.seq (.ops o20_3) .ret)
@[reducible] def v20_5 : VC := (.seq (.drw t20_2) v20_4)
@[reducible] def v20_6 : VC := (.seq (.ops o20_1) v20_5)
def ir20 : FC := ⟨1, 16, [.cell 2 false 5], (.seq (.ops o20_0) v20_6)⟩
theorem c20 : compM Try.prog [100008] 20 = some ir20 := by kernel_rfl

end W8


/-- A copy whose records and presses may be written. -/
def copyB (t : Tray) (res : AV) (os : List Ob) : Prop := ∃ cap j y o, t.recs.length ≤ cap ∧ cap ≤ maxLen ∧ cap * 2 ≤ t.recs.length * 2 + j ∧ res = .agg [.vw 2 1000 0 t.recs.length cap, iv t.at_, iv t.way, iv t.step, y] ∧ os = [.box (cellsG Rec.cds t.recs j), o] ∧
  ((t.pres = [] ∧ y = .gr 1001 ∧ o = .grow 27 2 []) ∨ (t.pres ≠ [] ∧ ∃ cap2 j2, t.pres.length ≤ cap2 ∧ cap2 ≤ maxLen ∧ cap2 * 2 ≤ t.pres.length * 2 + j2 ∧ y = .vw 2 1001 0 t.pres.length cap2 ∧ o = .box (cellsG Pr.cds t.pres j2)))
theorem recs_cells (l : List Rec) (j : Nat) : List.map AV.c (List.map Rec.cds l).flatten ++ List.replicate j AV.non = cellsG Rec.cds l j := rfl
theorem prs_cells (l : List Pr) (j : Nat) : List.map AV.c (List.map Pr.cds l).flatten ++ List.replicate j AV.non = cellsG Pr.cds l j := rfl
set_option maxRecDepth 20000 in
set_option maxHeartbeats 8000000 in
theorem copyE (t : Tray) (h0 : t.recs ≠ []) (hn : t.recs.length ≤ 1000) (hp : t.pres = []) : FSpecN Try.prog 20 [t.av] (copyB t) := by
  have hmax : maxLen = 9223372036854775807 := rfl
  have hl0 : (t.recs.length = 0) = False := by simpa using h0
  refine FSpecN_of W8.c20 (Nat.le_refl _) (by decide) fun C hP hN hC hL => ?_
  simp only [W8.ir20, Tray.av, hp]
  (repeat ((first | refine WV_seq_ ?_ | refine WV_block ?_ | refine WV_ops ?_ | refine WV_skip ?_ | refine WV_exit ?_); (try simp only [go_sem, init_env', Nat.reduceEqDiff, Nat.reduceAdd, Nat.reduceMul, reduceIte, Nat.reduceLeDiff, Nat.reduceLT, Nat.reduceBEq, reduceCtorEq, hP, ]); (repeat (refine And.intro (by first | omega | (intros; simp_all; done) | (intros; simp_all; omega)) ?_))))
  (refine WV_drw ?_; simp only [go_sem, init_env', Nat.reduceEqDiff, Nat.reduceAdd, Nat.reduceMul, reduceIte, Nat.reduceLeDiff, Nat.reduceLT, Nat.reduceBEq, reduceCtorEq, hP, recsC, prsC, recs_two, prs_two, List.nil_append, List.length_nil, List.length_map, List.map_nil, List.all_nil, hl0]; (repeat' (refine And.intro ?_ ?_)))
  all_goals try omega
  all_goals
    intro cap j q1 q2 q3
    (repeat ((first | refine WV_seq_ ?_ | refine WV_block ?_ | refine WV_ops ?_ | refine WV_skip ?_ | refine WV_exit ?_); (try simp only [go_sem, init_env', Nat.reduceEqDiff, Nat.reduceAdd, Nat.reduceMul, reduceIte, Nat.reduceLeDiff, Nat.reduceLT, Nat.reduceBEq, reduceCtorEq, hP, recsC, prsC, recs_two, prs_two, List.nil_append, List.length_nil, List.length_map, List.map_nil, List.all_nil]); (repeat (refine And.intro (by first | omega | (intros; simp_all; done) | (intros; simp_all; omega)) ?_))))
    (refine WV_ret ?_; simp only [thenQ, inQ, RetQN, RetOkN, resAll, resA]; simp only [go_sem, init_env', Nat.reduceEqDiff, Nat.reduceAdd, Nat.reduceMul, reduceIte, Nat.reduceLeDiff, Nat.reduceLT, Nat.reduceBEq, reduceCtorEq, tupA, ])
    refine ⟨[8, 12], .agg [.vw 2 1000 0 t.recs.length cap, iv t.at_, iv t.way, iv t.step, .gr 1001], _, [.box (cellsG Rec.cds t.recs j), .grow 27 2 []], by decide, by decide, rfl, AVle.of rfl, ?_, cap, j, _, _, q1, q2, q3, rfl, rfl, .inl ⟨hp, rfl, rfl⟩⟩
    simp only [go_sem, init_env', Nat.reduceEqDiff, Nat.reduceAdd, Nat.reduceMul, reduceIte, Nat.reduceLeDiff, Nat.reduceLT, Nat.reduceBEq, reduceCtorEq, obsLend, Ob.lend, recs_cells, prs_cells, prg_cellsG, lend_cellsG]
set_option maxRecDepth 20000 in
set_option maxHeartbeats 8000000 in
theorem copyV (t : Tray) (h0 : t.recs ≠ []) (hn : t.recs.length ≤ 1000) (hp : t.pres.length ≤ 1000) : FSpecN Try.prog 20 [t.av] (copyB t) := by
  have hmax : maxLen = 9223372036854775807 := rfl
  by_cases hpn : t.pres = []
  · exact copyE t h0 hn hpn
  have hl0 : (t.recs.length = 0) = False := by simpa using h0
  have hl1 : (t.pres.length = 0) = False := by simpa using hpn
  refine FSpecN_of W.c20 (Nat.le_refl _) (by decide) fun C hP hN hC hL => ?_
  simp only [W.ir20, Tray.av]
  (repeat ((first | refine WV_seq_ ?_ | refine WV_block ?_ | refine WV_ops ?_ | refine WV_skip ?_ | refine WV_exit ?_); (try simp only [go_sem, init_env', Nat.reduceEqDiff, Nat.reduceAdd, Nat.reduceMul, reduceIte, Nat.reduceLeDiff, Nat.reduceLT, Nat.reduceBEq, reduceCtorEq, hP, ]); (repeat (refine And.intro (by first | omega | (intros; simp_all; done) | (intros; simp_all; omega)) ?_))))
  (refine WV_drw ?_; simp only [go_sem, init_env', Nat.reduceEqDiff, Nat.reduceAdd, Nat.reduceMul, reduceIte, Nat.reduceLeDiff, Nat.reduceLT, Nat.reduceBEq, reduceCtorEq, hP, recsC, prsC, recs_two, prs_two, List.nil_append, List.length_nil, List.length_map, hl0, hl1]; (repeat' (refine And.intro ?_ ?_)))
  all_goals try omega
  all_goals
    intro cap j q1 q2 q3
    (repeat' (refine And.intro ?_ ?_))
  all_goals try omega
  all_goals
    intro cap2 j2 r1 r2 r3
    (repeat ((first | refine WV_seq_ ?_ | refine WV_block ?_ | refine WV_ops ?_ | refine WV_skip ?_ | refine WV_exit ?_); (try simp only [go_sem, init_env', Nat.reduceEqDiff, Nat.reduceAdd, Nat.reduceMul, reduceIte, Nat.reduceLeDiff, Nat.reduceLT, Nat.reduceBEq, reduceCtorEq, hP, recsC, prsC, recs_two, prs_two, List.nil_append, List.length_nil, List.length_map]); (repeat (refine And.intro (by first | omega | (intros; simp_all; done) | (intros; simp_all; omega)) ?_))))
    (refine WV_ret ?_; simp only [thenQ, inQ, RetQN, RetOkN, resAll, resA]; simp only [go_sem, init_env', Nat.reduceEqDiff, Nat.reduceAdd, Nat.reduceMul, reduceIte, Nat.reduceLeDiff, Nat.reduceLT, Nat.reduceBEq, reduceCtorEq, tupA, ])
    refine ⟨[8, 12], .agg [.vw 2 1000 0 t.recs.length cap, iv t.at_, iv t.way, iv t.step, .vw 2 1001 0 t.pres.length cap2], _, [.box (cellsG Rec.cds t.recs j), .box (cellsG Pr.cds t.pres j2)], by decide, by decide, rfl, AVle.of rfl, ?_, cap, j, _, _, q1, q2, q3, rfl, rfl, .inr ⟨hpn, cap2, j2, r1, r2, r3, rfl, rfl⟩⟩
    simp only [go_sem, init_env', Nat.reduceEqDiff, Nat.reduceAdd, Nat.reduceMul, reduceIte, Nat.reduceLeDiff, Nat.reduceLT, Nat.reduceBEq, reduceCtorEq, obsLend, Ob.lend, recs_cells, prs_cells, prg_cellsG, lend_cellsG]
end Go.Proofs.Ytkpgpgaojjobgaa

namespace Go.Proofs.Ytkpgpgaojjobgaa
open Go Go.V
namespace W5
@[reducible] def o5_0 : List Ins := [⟨(some 3), .box 5 (.t 0), none, true⟩,
  ⟨(some 5), .box 2 (.t 2), none, true⟩,
  ⟨(some 6), .mv (.k (.c (.bool false))), none, true⟩]
@[reducible] def o5_1 : List Ins := [⟨(some 14), .fa 0 (.t 5), none, false⟩,
  ⟨(some 15), .ld true 1 (.t 14), none, false⟩,
  ⟨(some 16), .fa 1 (.t 5), none, false⟩,
  ⟨(some 17), .ld true 1 (.t 16), none, false⟩,
  ⟨(some 7), .mv (.t 15), none, false⟩,
  ⟨(some 8), .mv (.t 17), none, true⟩]
@[reducible] def o5_2 : List Ins := [⟨(some 18), .ld false 5 (.t 3), none, true⟩,
  ⟨(some 19), .call (.k (.fn 16 [])) [(.t 18)], none, true⟩,
  ⟨(some 20), .un .not (.t 19), none, true⟩,
  ⟨(some 21), .mv (.t 20), none, true⟩,
  ⟨(some 22), .fa 4 (.t 3), (some (21, false)), true⟩,
  ⟨(some 23), .ld true 1 (.t 22), (some (21, false)), true⟩,
  ⟨(some 24), .len (.t 23), (some (21, false)), true⟩,
  ⟨(some 25), .bin .geq (.t 24) (.k (.c (.int .i64 12))), (some (21, false)), true⟩,
  ⟨(some 26), .pick (.t 21) (.k (.c (.bool true))) (.t 25), none, true⟩,
  ⟨(some 27), .mv (.t 26), none, true⟩,
  ⟨(some 28), .ld false 5 (.t 3), (some (27, false)), true⟩,
  ⟨(some 29), .mv (.t 1), (some (27, false)), true⟩,
  ⟨(some 30), .call (.k (.fn 17 [])) [(.t 28), (.t 29)], (some (27, false)), true⟩,
  ⟨(some 31), .un .not (.t 30), (some (27, false)), true⟩,
  ⟨(some 32), .pick (.t 27) (.k (.c (.bool true))) (.t 31), none, true⟩,
  ⟨(some 33), .mv (.t 32), none, true⟩,
  ⟨(some 34), .mv (.t 7), (some (33, false)), true⟩,
  ⟨(some 35), .bin .lss (.t 34) (.k (.c (.int .i64 0))), (some (33, false)), true⟩,
  ⟨(some 36), .pick (.t 33) (.k (.c (.bool true))) (.t 35), none, true⟩,
  ⟨(some 37), .mv (.t 36), none, true⟩,
  ⟨(some 38), .mv (.t 7), (some (37, false)), true⟩,
  ⟨(some 39), .bin .gtr (.t 38) (.k (.c (.int .i64 400))), (some (37, false)), true⟩,
  ⟨(some 40), .pick (.t 37) (.k (.c (.bool true))) (.t 39), none, true⟩,
  ⟨(some 41), .mv (.t 40), none, true⟩,
  ⟨(some 42), .mv (.t 8), (some (41, false)), true⟩,
  ⟨(some 43), .bin .lss (.t 42) (.k (.c (.int .i64 0))), (some (41, false)), true⟩,
  ⟨(some 44), .pick (.t 41) (.k (.c (.bool true))) (.t 43), none, true⟩,
  ⟨(some 45), .mv (.t 44), none, true⟩,
  ⟨(some 46), .mv (.t 8), (some (45, false)), true⟩,
  ⟨(some 47), .mv (.t 7), (some (45, false)), true⟩,
  ⟨(some 48), .bin .gtr (.t 46) (.t 47), (some (45, false)), true⟩,
  ⟨(some 49), .pick (.t 45) (.k (.c (.bool true))) (.t 48), none, true⟩]
@[reducible] def o5_3 : List Ins := [⟨(some 50), .call (.k (.fn 19 [])) [], none, true⟩,
  ⟨(some 6), .mv (.t 50), none, true⟩]
@[reducible] def v5_4 : VC := (.seq (.ops o5_3) .ret)
@[reducible] def v5_5 : VC := (.cond (.t 49) v5_4 .skip)
@[reducible] def o5_6 : List Ins := [⟨(some 52), .ld false 5 (.t 3), none, true⟩,
  ⟨(some 53), .mv (.t 1), none, true⟩,
  ⟨(some 54), .mv (.t 7), none, true⟩,
  ⟨(some 55), .call (.k (.fn 26 [])) [(.t 52), (.t 53), (.t 54)], none, true⟩,
  ⟨(some 51), .mv (.t 55), none, true⟩,
  ⟨(some 56), .ext (.t 51) 0, none, true⟩,
  ⟨(some 57), .ext (.t 51) 1, none, true⟩,
  ⟨(some 9), .mv (.t 56), none, true⟩,
  ⟨(some 10), .mv (.t 57), none, true⟩]
@[reducible] def o5_7 : List Ins := [⟨(some 58), .mv (.t 10), none, true⟩,
  ⟨(some 59), .bin .neq (.t 58) (.k (.c (.int .i64 0))), none, true⟩,
  ⟨(some 60), .mv (.t 59), none, true⟩,
  ⟨(some 61), .mv (.t 10), (some (60, true)), true⟩,
  ⟨(some 62), .bin .neq (.t 61) (.k (.c (.int .i64 3))), (some (60, true)), true⟩,
  ⟨(some 63), .pick (.t 60) (.t 62) (.k (.c (.bool false))), none, true⟩,
  ⟨(some 64), .mv (.t 63), none, true⟩,
  ⟨(some 65), .mv (.t 10), (some (64, false)), true⟩,
  ⟨(some 66), .bin .eql (.t 65) (.k (.c (.int .i64 0))), (some (64, false)), true⟩,
  ⟨(some 67), .mv (.t 66), (some (64, false)), true⟩,
  ⟨(some 68), .mv (.t 9), (some (67, true)), true⟩,
  ⟨(some 69), .bin .lss (.t 68) (.k (.c (.int .i64 0))), (some (67, true)), true⟩,
  ⟨(some 70), .mv (.t 69), (some (67, true)), true⟩,
  ⟨(some 71), .mv (.t 9), (some (70, false)), true⟩,
  ⟨(some 72), .mv (.t 7), (some (70, false)), true⟩,
  ⟨(some 73), .bin .gtr (.t 71) (.t 72), (some (70, false)), true⟩,
  ⟨(some 74), .pick (.t 70) (.k (.c (.bool true))) (.t 73), (some (67, true)), true⟩,
  ⟨(some 75), .pick (.t 67) (.t 74) (.k (.c (.bool false))), (some (64, false)), true⟩,
  ⟨(some 76), .pick (.t 64) (.k (.c (.bool true))) (.t 75), none, true⟩]
@[reducible] def o5_8 : List Ins := [⟨(some 6), .mv (.k (.c (.bool false))), none, true⟩]
@[reducible] def v5_9 : VC := (.seq (.ops o5_8) .ret)
@[reducible] def v5_10 : VC := (.cond (.t 76) v5_9 .skip)
@[reducible] def o5_11 : List Ins := [⟨(some 77), .ld false 5 (.t 3), none, true⟩,
  ⟨(some 78), .call (.k (.fn 20 [])) [(.t 77)], none, true⟩,
  ⟨(some 11), .alloc [(.c (.raw (.slice none 0 0))), (.c (.int .i64 0)), (.c (.int .i64 0)), (.c (.int .i64 0)), (.c (.raw (.slice none 0 0)))], none, true⟩,
  ⟨none, .st 5 (.t 11) (.t 78), none, true⟩]
@[reducible] def o5_12 : List Ins := [⟨(some 79), .fa 4 (.t 11), none, true⟩,
  ⟨(some 80), .ld true 1 (.t 79), none, true⟩,
  ⟨(some 81), .mv (.t 1), none, true⟩,
  ⟨(some 82), .mv (.t 8), none, true⟩,
  ⟨(some 83), .bld [(.c (.int .i64 0)), (.c (.int .i64 0))] [(0, 1, (.t 81)), (1, 1, (.t 82))], none, true⟩,
  ⟨(some 84), .bsl 27 2 [(.t 83)], none, true⟩,
  ⟨(some 85), .appv 27 2 16 (.t 80) (.t 84), none, true⟩,
  ⟨(some 86), .fa 4 (.t 11), none, true⟩,
  ⟨none, .st 1 (.t 86) (.t 85), none, true⟩]
@[reducible] def o5_13 : List Ins := [⟨(some 88), .ld false 5 (.t 11), none, true⟩,
  ⟨(some 89), .fa 4 (.t 3), none, true⟩,
  ⟨(some 90), .ld true 1 (.t 89), none, true⟩,
  ⟨(some 91), .len (.t 90), none, true⟩,
  ⟨(some 92), .call (.k (.fn 27 [])) [(.t 88), (.t 91)], none, true⟩,
  ⟨(some 87), .mv (.t 92), none, true⟩,
  ⟨(some 93), .ext (.t 87) 0, none, true⟩,
  ⟨(some 94), .ext (.t 87) 1, none, true⟩,
  ⟨(some 12), .mv (.t 93), none, true⟩,
  ⟨(some 13), .mv (.t 94), none, true⟩]
@[reducible] def o5_14 : List Ins := [⟨(some 95), .mv (.t 13), none, true⟩,
  ⟨(some 96), .bin .neq (.t 95) (.k (.c (.int .i64 0))), none, true⟩,
  ⟨(some 97), .mv (.t 96), none, true⟩,
  ⟨(some 98), .mv (.t 12), (some (97, false)), true⟩,
  ⟨(some 99), .bin .lss (.t 98) (.k (.c (.int .i64 0))), (some (97, false)), true⟩,
  ⟨(some 100), .pick (.t 97) (.k (.c (.bool true))) (.t 99), none, true⟩,
  ⟨(some 101), .mv (.t 100), none, true⟩,
  ⟨(some 102), .mv (.t 10), (some (101, false)), true⟩,
  ⟨(some 103), .bin .neq (.t 102) (.k (.c (.int .i64 0))), (some (101, false)), true⟩,
  ⟨(some 104), .mv (.t 103), (some (101, false)), true⟩,
  ⟨(some 105), .mv (.t 8), (some (104, false)), true⟩,
  ⟨(some 106), .mv (.t 9), (some (104, false)), true⟩,
  ⟨(some 107), .bin .gtr (.t 105) (.t 106), (some (104, false)), true⟩,
  ⟨(some 108), .pick (.t 104) (.k (.c (.bool true))) (.t 107), (some (101, false)), true⟩,
  ⟨(some 109), .mv (.t 108), (some (101, false)), true⟩,
  ⟨(some 110), .mv (.t 8), (some (109, true)), true⟩,
  ⟨(some 111), .mv (.t 12), (some (109, true)), true⟩,
  ⟨(some 112), .bin .add (.t 110) (.t 111), (some (109, true)), true⟩,
  ⟨(some 113), .mv (.t 7), (some (109, true)), true⟩,
  ⟨(some 114), .bin .leq (.t 112) (.t 113), (some (109, true)), true⟩,
  ⟨(some 115), .pick (.t 109) (.t 114) (.k (.c (.bool false))), (some (101, false)), true⟩,
  ⟨(some 116), .pick (.t 101) (.k (.c (.bool true))) (.t 115), none, true⟩]
@[reducible] def o5_15 : List Ins := [⟨(some 6), .mv (.k (.c (.bool false))), none, true⟩]
@[reducible] def v5_16 : VC := (.seq (.ops o5_15) .ret)
@[reducible] def v5_17 : VC := (.cond (.t 116) v5_16 .skip)
@[reducible] def o5_18 : List Ins := [⟨(some 117), .mv (.t 10), none, true⟩,
  ⟨(some 118), .bin .neq (.t 117) (.k (.c (.int .i64 0))), none, true⟩]
@[reducible] def o5_19 : List Ins := [⟨(some 119), .call (.k (.fn 19 [])) [], none, true⟩,
  ⟨(some 6), .mv (.t 119), none, true⟩]
@[reducible] def v5_20 : VC := (.seq (.ops o5_19) .ret)
@[reducible] def v5_21 : VC := (.cond (.t 118) v5_20 .skip)
@[reducible] def o5_22 : List Ins := [⟨(some 120), .fa 4 (.t 11), none, true⟩,
  ⟨(some 121), .ld true 1 (.t 120), none, true⟩,
  ⟨(some 122), .fa 4 (.t 3), none, true⟩,
  ⟨(some 123), .ld true 1 (.t 122), none, true⟩,
  ⟨(some 124), .len (.t 123), none, true⟩,
  ⟨(some 125), .mv (.t 9), none, true⟩,
  ⟨(some 126), .ia 2 (.t 121) (.t 124), none, true⟩,
  ⟨(some 127), .fa 1 (.t 126), none, true⟩,
  ⟨none, .st 1 (.t 127) (.t 125), none, true⟩]
@[reducible] def o5_23 : List Ins := [⟨(some 129), .ld false 5 (.t 11), none, true⟩,
  ⟨(some 130), .fa 4 (.t 3), none, true⟩,
  ⟨(some 131), .ld true 1 (.t 130), none, true⟩,
  ⟨(some 132), .len (.t 131), none, true⟩,
  ⟨(some 133), .call (.k (.fn 27 [])) [(.t 129), (.t 132)], none, true⟩,
  ⟨(some 128), .mv (.t 133), none, true⟩,
  ⟨(some 134), .ext (.t 128) 0, none, true⟩,
  ⟨(some 135), .ext (.t 128) 1, none, true⟩,
  ⟨(some 12), .mv (.t 134), none, true⟩,
  ⟨(some 13), .mv (.t 135), none, true⟩]
@[reducible] def o5_24 : List Ins := [⟨(some 136), .mv (.t 13), none, true⟩,
  ⟨(some 137), .bin .eql (.t 136) (.k (.c (.int .i64 0))), none, true⟩,
  ⟨(some 138), .mv (.t 137), none, true⟩,
  ⟨(some 139), .mv (.t 12), (some (138, true)), true⟩,
  ⟨(some 140), .bin .geq (.t 139) (.k (.c (.int .i64 0))), (some (138, true)), true⟩,
  ⟨(some 141), .pick (.t 138) (.t 140) (.k (.c (.bool false))), none, true⟩,
  ⟨(some 142), .mv (.t 141), none, true⟩,
  ⟨(some 143), .mv (.t 9), (some (142, true)), true⟩,
  ⟨(some 144), .mv (.t 12), (some (142, true)), true⟩,
  ⟨(some 145), .bin .add (.t 143) (.t 144), (some (142, true)), true⟩,
  ⟨(some 146), .mv (.t 7), (some (142, true)), true⟩,
  ⟨(some 147), .bin .leq (.t 145) (.t 146), (some (142, true)), true⟩,
  ⟨(some 148), .pick (.t 142) (.t 147) (.k (.c (.bool false))), none, true⟩,
  ⟨(some 149), .mv (.t 148), none, true⟩,
  ⟨(some 150), .call (.k (.fn 19 [])) [], (some (149, true)), true⟩,
  ⟨(some 151), .pick (.t 149) (.t 150) (.k (.c (.bool false))), none, true⟩,
  ⟨(some 6), .mv (.t 151), none, true⟩]
@[reducible] def v5_25 : VC := (.seq (.ops o5_24) .ret)
@[reducible] def v5_26 : VC := (.seq (.ops o5_23) v5_25)
@[reducible] def v5_27 : VC := (.seq (.ops o5_22) v5_26)
@[reducible] def v5_28 : VC := (.seq (.seq (.ops o5_18) v5_21) v5_27)
@[reducible] def v5_29 : VC := (.seq (.seq (.ops o5_14) v5_17) v5_28)
@[reducible] def v5_30 : VC := (.seq (.ops o5_13) v5_29)
@[reducible] def v5_31 : VC := (.seq (.ops o5_12) v5_30)
@[reducible] def v5_32 : VC := (.seq (.ops o5_11) v5_31)
@[reducible] def v5_33 : VC := (.seq (.seq (.ops o5_7) v5_10) v5_32)
@[reducible] def v5_34 : VC := (.seq (.ops o5_6) v5_33)
@[reducible] def v5_35 : VC := (.seq (.seq (.ops o5_2) v5_5) v5_34)
@[reducible] def v5_36 : VC := (.seq (.ops o5_1) v5_35)
def ir5 : FC := ⟨3, 152, [.t 6], (.seq (.ops o5_0) v5_36)⟩
theorem c5 : compM Try.prog [100085] 5 = some ir5 := by kernel_rfl

end W5
@[reducible] def o5_0 : List Ins := [⟨(some 3), .box 5 (.t 0), none, true⟩,
  ⟨(some 5), .box 2 (.t 2), none, true⟩,
  ⟨(some 6), .mv (.k (.c (.bool false))), none, true⟩]
@[reducible] def o5_1 : List Ins := [⟨(some 14), .fa 0 (.t 5), none, false⟩,
  ⟨(some 15), .ld true 1 (.t 14), none, false⟩,
  ⟨(some 16), .fa 1 (.t 5), none, false⟩,
  ⟨(some 17), .ld true 1 (.t 16), none, false⟩,
  ⟨(some 7), .mv (.t 15), none, false⟩,
  ⟨(some 8), .mv (.t 17), none, true⟩]
@[reducible] def o5_2 : List Ins := [⟨(some 18), .ld false 5 (.t 3), none, true⟩,
  ⟨(some 19), .call (.k (.fn 16 [])) [(.t 18)], none, true⟩,
  ⟨(some 20), .un .not (.t 19), none, true⟩,
  ⟨(some 21), .mv (.t 20), none, true⟩,
  ⟨(some 22), .fa 4 (.t 3), (some (21, false)), true⟩,
  ⟨(some 23), .ld true 1 (.t 22), (some (21, false)), true⟩,
  ⟨(some 24), .len (.t 23), (some (21, false)), true⟩,
  ⟨(some 25), .bin .geq (.t 24) (.k (.c (.int .i64 12))), (some (21, false)), true⟩,
  ⟨(some 26), .pick (.t 21) (.k (.c (.bool true))) (.t 25), none, true⟩,
  ⟨(some 27), .mv (.t 26), none, true⟩,
  ⟨(some 28), .ld false 5 (.t 3), (some (27, false)), true⟩,
  ⟨(some 29), .mv (.t 1), (some (27, false)), true⟩,
  ⟨(some 30), .call (.k (.fn 17 [])) [(.t 28), (.t 29)], (some (27, false)), true⟩,
  ⟨(some 31), .un .not (.t 30), (some (27, false)), true⟩,
  ⟨(some 32), .pick (.t 27) (.k (.c (.bool true))) (.t 31), none, true⟩,
  ⟨(some 33), .mv (.t 32), none, true⟩,
  ⟨(some 34), .mv (.t 7), (some (33, false)), true⟩,
  ⟨(some 35), .bin .lss (.t 34) (.k (.c (.int .i64 0))), (some (33, false)), true⟩,
  ⟨(some 36), .pick (.t 33) (.k (.c (.bool true))) (.t 35), none, true⟩,
  ⟨(some 37), .mv (.t 36), none, true⟩,
  ⟨(some 38), .mv (.t 7), (some (37, false)), true⟩,
  ⟨(some 39), .bin .gtr (.t 38) (.k (.c (.int .i64 400))), (some (37, false)), true⟩,
  ⟨(some 40), .pick (.t 37) (.k (.c (.bool true))) (.t 39), none, true⟩,
  ⟨(some 41), .mv (.t 40), none, true⟩,
  ⟨(some 42), .mv (.t 8), (some (41, false)), true⟩,
  ⟨(some 43), .bin .lss (.t 42) (.k (.c (.int .i64 0))), (some (41, false)), true⟩,
  ⟨(some 44), .pick (.t 41) (.k (.c (.bool true))) (.t 43), none, true⟩,
  ⟨(some 45), .mv (.t 44), none, true⟩,
  ⟨(some 46), .mv (.t 8), (some (45, false)), true⟩,
  ⟨(some 47), .mv (.t 7), (some (45, false)), true⟩,
  ⟨(some 48), .bin .gtr (.t 46) (.t 47), (some (45, false)), true⟩,
  ⟨(some 49), .pick (.t 45) (.k (.c (.bool true))) (.t 48), none, true⟩]
@[reducible] def o5_3 : List Ins := [⟨(some 50), .call (.k (.fn 19 [])) [], none, true⟩,
  ⟨(some 6), .mv (.t 50), none, true⟩]
@[reducible] def v5_4 : VC := (.seq (.ops o5_3) .ret)
@[reducible] def v5_5 : VC := (.cond (.t 49) v5_4 .skip)
@[reducible] def o5_6 : List Ins := [⟨(some 52), .ld false 5 (.t 3), none, true⟩,
  ⟨(some 53), .mv (.t 1), none, true⟩,
  ⟨(some 54), .mv (.t 7), none, true⟩,
  ⟨(some 55), .call (.k (.fn 26 [])) [(.t 52), (.t 53), (.t 54)], none, true⟩,
  ⟨(some 51), .mv (.t 55), none, true⟩,
  ⟨(some 56), .ext (.t 51) 0, none, true⟩,
  ⟨(some 57), .ext (.t 51) 1, none, true⟩,
  ⟨(some 9), .mv (.t 56), none, true⟩,
  ⟨(some 10), .mv (.t 57), none, true⟩]
@[reducible] def o5_7 : List Ins := [⟨(some 58), .mv (.t 10), none, true⟩,
  ⟨(some 59), .bin .neq (.t 58) (.k (.c (.int .i64 0))), none, true⟩,
  ⟨(some 60), .mv (.t 59), none, true⟩,
  ⟨(some 61), .mv (.t 10), (some (60, true)), true⟩,
  ⟨(some 62), .bin .neq (.t 61) (.k (.c (.int .i64 3))), (some (60, true)), true⟩,
  ⟨(some 63), .pick (.t 60) (.t 62) (.k (.c (.bool false))), none, true⟩,
  ⟨(some 64), .mv (.t 63), none, true⟩,
  ⟨(some 65), .mv (.t 10), (some (64, false)), true⟩,
  ⟨(some 66), .bin .eql (.t 65) (.k (.c (.int .i64 0))), (some (64, false)), true⟩,
  ⟨(some 67), .mv (.t 66), (some (64, false)), true⟩,
  ⟨(some 68), .mv (.t 9), (some (67, true)), true⟩,
  ⟨(some 69), .bin .lss (.t 68) (.k (.c (.int .i64 0))), (some (67, true)), true⟩,
  ⟨(some 70), .mv (.t 69), (some (67, true)), true⟩,
  ⟨(some 71), .mv (.t 9), (some (70, false)), true⟩,
  ⟨(some 72), .mv (.t 7), (some (70, false)), true⟩,
  ⟨(some 73), .bin .gtr (.t 71) (.t 72), (some (70, false)), true⟩,
  ⟨(some 74), .pick (.t 70) (.k (.c (.bool true))) (.t 73), (some (67, true)), true⟩,
  ⟨(some 75), .pick (.t 67) (.t 74) (.k (.c (.bool false))), (some (64, false)), true⟩,
  ⟨(some 76), .pick (.t 64) (.k (.c (.bool true))) (.t 75), none, true⟩]
@[reducible] def o5_8 : List Ins := [⟨(some 6), .mv (.k (.c (.bool false))), none, true⟩]
@[reducible] def v5_9 : VC := (.seq (.ops o5_8) .ret)
@[reducible] def v5_10 : VC := (.cond (.t 76) v5_9 .skip)
@[reducible] def o5_11 : List Ins := [⟨(some 77), .ld false 5 (.t 3), none, true⟩,
  ⟨(some 78), .call (.k (.fn 20 [])) [(.t 77)], none, true⟩,
  ⟨(some 11), .alloc [(.c (.raw (.slice none 0 0))), (.c (.int .i64 0)), (.c (.int .i64 0)), (.c (.int .i64 0)), (.c (.raw (.slice none 0 0)))], none, true⟩,
  ⟨none, .st 5 (.t 11) (.t 78), none, true⟩]
@[reducible] def o5_12 : List Ins := [⟨(some 79), .fa 4 (.t 11), none, true⟩,
  ⟨(some 80), .ld true 1 (.t 79), none, true⟩,
  ⟨(some 81), .mv (.t 1), none, true⟩,
  ⟨(some 82), .mv (.t 8), none, true⟩,
  ⟨(some 83), .bld [(.c (.int .i64 0)), (.c (.int .i64 0))] [(0, 1, (.t 81)), (1, 1, (.t 82))], none, true⟩,
  ⟨(some 84), .bsl 27 2 [(.t 83)], none, true⟩,
  ⟨(some 85), .app 27 2 16 (.t 80) (.t 84), none, true⟩,
  ⟨(some 86), .fa 4 (.t 11), none, true⟩,
  ⟨none, .st 1 (.t 86) (.t 85), none, true⟩]
@[reducible] def o5_13 : List Ins := [⟨(some 88), .ld false 5 (.t 11), none, true⟩,
  ⟨(some 89), .fa 4 (.t 3), none, true⟩,
  ⟨(some 90), .ld true 1 (.t 89), none, true⟩,
  ⟨(some 91), .len (.t 90), none, true⟩,
  ⟨(some 92), .call (.k (.fn 27 [])) [(.t 88), (.t 91)], none, true⟩,
  ⟨(some 87), .mv (.t 92), none, true⟩,
  ⟨(some 93), .ext (.t 87) 0, none, true⟩,
  ⟨(some 94), .ext (.t 87) 1, none, true⟩,
  ⟨(some 12), .mv (.t 93), none, true⟩,
  ⟨(some 13), .mv (.t 94), none, true⟩]
@[reducible] def o5_14 : List Ins := [⟨(some 95), .mv (.t 13), none, true⟩,
  ⟨(some 96), .bin .neq (.t 95) (.k (.c (.int .i64 0))), none, true⟩,
  ⟨(some 97), .mv (.t 96), none, true⟩,
  ⟨(some 98), .mv (.t 12), (some (97, false)), true⟩,
  ⟨(some 99), .bin .lss (.t 98) (.k (.c (.int .i64 0))), (some (97, false)), true⟩,
  ⟨(some 100), .pick (.t 97) (.k (.c (.bool true))) (.t 99), none, true⟩,
  ⟨(some 101), .mv (.t 100), none, true⟩,
  ⟨(some 102), .mv (.t 10), (some (101, false)), true⟩,
  ⟨(some 103), .bin .neq (.t 102) (.k (.c (.int .i64 0))), (some (101, false)), true⟩,
  ⟨(some 104), .mv (.t 103), (some (101, false)), true⟩,
  ⟨(some 105), .mv (.t 8), (some (104, false)), true⟩,
  ⟨(some 106), .mv (.t 9), (some (104, false)), true⟩,
  ⟨(some 107), .bin .gtr (.t 105) (.t 106), (some (104, false)), true⟩,
  ⟨(some 108), .pick (.t 104) (.k (.c (.bool true))) (.t 107), (some (101, false)), true⟩,
  ⟨(some 109), .mv (.t 108), (some (101, false)), true⟩,
  ⟨(some 110), .mv (.t 8), (some (109, true)), true⟩,
  ⟨(some 111), .mv (.t 12), (some (109, true)), true⟩,
  ⟨(some 112), .bin .add (.t 110) (.t 111), (some (109, true)), true⟩,
  ⟨(some 113), .mv (.t 7), (some (109, true)), true⟩,
  ⟨(some 114), .bin .leq (.t 112) (.t 113), (some (109, true)), true⟩,
  ⟨(some 115), .pick (.t 109) (.t 114) (.k (.c (.bool false))), (some (101, false)), true⟩,
  ⟨(some 116), .pick (.t 101) (.k (.c (.bool true))) (.t 115), none, true⟩]
@[reducible] def o5_15 : List Ins := [⟨(some 6), .mv (.k (.c (.bool false))), none, true⟩]
@[reducible] def v5_16 : VC := (.seq (.ops o5_15) .ret)
@[reducible] def v5_17 : VC := (.cond (.t 116) v5_16 .skip)
@[reducible] def o5_18 : List Ins := [⟨(some 117), .mv (.t 10), none, true⟩,
  ⟨(some 118), .bin .neq (.t 117) (.k (.c (.int .i64 0))), none, true⟩]
@[reducible] def o5_19 : List Ins := [⟨(some 119), .call (.k (.fn 19 [])) [], none, true⟩,
  ⟨(some 6), .mv (.t 119), none, true⟩]
@[reducible] def v5_20 : VC := (.seq (.ops o5_19) .ret)
@[reducible] def v5_21 : VC := (.cond (.t 118) v5_20 .skip)
@[reducible] def o5_22 : List Ins := [⟨(some 120), .fa 4 (.t 11), none, true⟩,
  ⟨(some 121), .ld true 1 (.t 120), none, true⟩,
  ⟨(some 122), .fa 4 (.t 3), none, true⟩,
  ⟨(some 123), .ld true 1 (.t 122), none, true⟩,
  ⟨(some 124), .len (.t 123), none, true⟩,
  ⟨(some 125), .mv (.t 9), none, true⟩,
  ⟨(some 126), .ia 2 (.t 121) (.t 124), none, true⟩,
  ⟨(some 127), .fa 1 (.t 126), none, true⟩,
  ⟨none, .st 1 (.t 127) (.t 125), none, true⟩]
@[reducible] def o5_23 : List Ins := [⟨(some 129), .ld false 5 (.t 11), none, true⟩,
  ⟨(some 130), .fa 4 (.t 3), none, true⟩,
  ⟨(some 131), .ld true 1 (.t 130), none, true⟩,
  ⟨(some 132), .len (.t 131), none, true⟩,
  ⟨(some 133), .call (.k (.fn 27 [])) [(.t 129), (.t 132)], none, true⟩,
  ⟨(some 128), .mv (.t 133), none, true⟩,
  ⟨(some 134), .ext (.t 128) 0, none, true⟩,
  ⟨(some 135), .ext (.t 128) 1, none, true⟩,
  ⟨(some 12), .mv (.t 134), none, true⟩,
  ⟨(some 13), .mv (.t 135), none, true⟩]
@[reducible] def o5_24 : List Ins := [⟨(some 136), .mv (.t 13), none, true⟩,
  ⟨(some 137), .bin .eql (.t 136) (.k (.c (.int .i64 0))), none, true⟩,
  ⟨(some 138), .mv (.t 137), none, true⟩,
  ⟨(some 139), .mv (.t 12), (some (138, true)), true⟩,
  ⟨(some 140), .bin .geq (.t 139) (.k (.c (.int .i64 0))), (some (138, true)), true⟩,
  ⟨(some 141), .pick (.t 138) (.t 140) (.k (.c (.bool false))), none, true⟩,
  ⟨(some 142), .mv (.t 141), none, true⟩,
  ⟨(some 143), .mv (.t 9), (some (142, true)), true⟩,
  ⟨(some 144), .mv (.t 12), (some (142, true)), true⟩,
  ⟨(some 145), .bin .add (.t 143) (.t 144), (some (142, true)), true⟩,
  ⟨(some 146), .mv (.t 7), (some (142, true)), true⟩,
  ⟨(some 147), .bin .leq (.t 145) (.t 146), (some (142, true)), true⟩,
  ⟨(some 148), .pick (.t 142) (.t 147) (.k (.c (.bool false))), none, true⟩,
  ⟨(some 149), .mv (.t 148), none, true⟩,
  ⟨(some 150), .call (.k (.fn 19 [])) [], (some (149, true)), true⟩,
  ⟨(some 151), .pick (.t 149) (.t 150) (.k (.c (.bool false))), none, true⟩,
  ⟨(some 6), .mv (.t 151), none, true⟩]
@[reducible] def v5_25 : VC := (.seq (.ops o5_24) .ret)
@[reducible] def v5_26 : VC := (.seq (.ops o5_23) v5_25)
@[reducible] def v5_27 : VC := (.seq (.ops o5_22) v5_26)
@[reducible] def v5_28 : VC := (.seq (.seq (.ops o5_18) v5_21) v5_27)
@[reducible] def v5_29 : VC := (.seq (.seq (.ops o5_14) v5_17) v5_28)
@[reducible] def v5_30 : VC := (.seq (.ops o5_13) v5_29)
@[reducible] def v5_31 : VC := (.seq (.ops o5_12) v5_30)
@[reducible] def v5_32 : VC := (.seq (.ops o5_11) v5_31)
@[reducible] def v5_33 : VC := (.seq (.seq (.ops o5_7) v5_10) v5_32)
@[reducible] def v5_34 : VC := (.seq (.ops o5_6) v5_33)
@[reducible] def v5_35 : VC := (.seq (.seq (.ops o5_2) v5_5) v5_34)
@[reducible] def v5_36 : VC := (.seq (.ops o5_1) v5_35)
def ir5 : FC := ⟨3, 152, [.t 6], (.seq (.ops o5_0) v5_36)⟩
theorem c5 : compM Try.prog [] 5 = some ir5 := by kernel_rfl



theorem recs_grp (l : List Rec) : grp 2 l.length ((flatG Rec.cds l).take (l.length * 2)) = l.map Rec.cds := grp_cellsG rec_two l
theorem recs_fit (l : List Rec) : (l.length * 2 ≤ (flatG Rec.cds l).length) = True := by rw [flatG_len rec_two]; simp
end Go.Proofs.Ytkpgpgaojjobgaa

/-
  Runs of two trays side by side: another order of the presses, one more press: plain.
-/
namespace Go.Proofs.Ytkpgpgaojjobgaa
open Go Go.V

/-! ### A run looks at the records and the step only -/
/-! ### Another order of the presses -/
/-- Two states that differ in the order of presses only. -/
structure Like (s s' : Cs) : Prop where
  q : s.q.Perm s'.q
  eq : { s' with q := s.q } = s
theorem sides_set (l : List Int) : ∀ pins : List Bool, ∀ k, (l.foldl (fun b x => b.set x.toNat true) pins).getD k false = (pins.getD k false || (decide (k < pins.length) && l.any fun x => x.toNat == k)) := by
  induction l with
  | nil => intro pins k; simp
  | cons a l ih =>
    intro pins k
    rw [List.foldl_cons, ih, List.length_set, List.any_cons]
    have e : (pins.set a.toNat true).getD k false = (pins.getD k false || (decide (k < pins.length) && (a.toNat == k))) := by
      rw [List.getD_eq_getElem?_getD, List.getElem?_set, List.getD_eq_getElem?_getD]
      by_cases h1 : a.toNat = k
      · subst h1
        by_cases h2 : a.toNat < pins.length
        · simp [h2]
        · simp [h2]
      · have : (a.toNat == k) = false := by simpa using h1
        rw [if_neg h1, this]; simp
    rw [e]
    cases pins.getD k false <;> cases decide (k < pins.length) <;> cases (a.toNat == k) <;> cases (l.any fun x => x.toNat == k) <;> rfl
theorem ext_pins {l m : List Bool} (hl : l.length = m.length) (h : ∀ k, l.getD k false = m.getD k false) : l = m := by
  apply List.ext_getElem hl
  intro i h1 h2
  have := h i
  simpa [h1, h2] using this
/-- What presses that are sorted come to: those that are over, and those to come. -/
theorem pressQ_eq (now : Int) : ∀ (q : List Pr) (pins : List Bool), q.Pairwise (fun a b => a.time ≤ b.time) →
    pressQ now q pins = (q.filter fun p => decide (now < p.time), ((q.filter fun p => decide (p.time ≤ now)).map Pr.side).foldl (fun b x => b.set x.toNat true) pins)
  | [], pins, _ => rfl
  | p :: q, pins, hs => by
    have hs := List.pairwise_cons.1 hs
    simp only [pressQ]
    by_cases h : p.time ≤ now
    · rw [if_pos h, pressQ_eq now q _ hs.2]
      simp only [List.filter_cons]
      rw [if_neg (by simp; omega), if_pos (by simpa using h), List.map_cons, List.foldl_cons]
    · rw [if_neg h]
      have h1 : (p :: q).filter (fun p => decide (now < p.time)) = p :: q := List.filter_eq_self.2 fun a ha => by
        rcases List.mem_cons.1 ha with rfl | ha
        · simp; omega
        · have := hs.1 a ha; simp; omega
      have h2 : (p :: q).filter (fun p => decide (p.time ≤ now)) = [] := List.filter_eq_nil_iff.2 fun a ha => by
        rcases List.mem_cons.1 ha with rfl | ha
        · simpa using h
        · have := hs.1 a ha; simp; omega
      rw [h1, h2]; rfl
theorem foldl_len (l : List Int) : ∀ pins : List Bool, (l.foldl (fun b x => b.set x.toNat true) pins).length = pins.length := by
  induction l with
  | nil => intro _; rfl
  | cons a l ih => intro pins; rw [List.foldl_cons, ih, List.length_set]
theorem perm_any {l m : List Int} (h : l.Perm m) (f : Int → Bool) : l.any f = m.any f := by
  rw [Bool.eq_iff_iff, List.any_eq_true, List.any_eq_true]
  exact ⟨fun ⟨x, hx, hf⟩ => ⟨x, h.mem_iff.1 hx, hf⟩, fun ⟨x, hx, hf⟩ => ⟨x, h.mem_iff.2 hx, hf⟩⟩
theorem pressQ_perm {now : Int} {q q' : List Pr} {pins : List Bool} (h : q.Perm q') (hs : q.Pairwise fun a b => a.time ≤ b.time) (hs' : q'.Pairwise fun a b => a.time ≤ b.time) :
    (pressQ now q pins).1.Perm (pressQ now q' pins).1 ∧ (pressQ now q pins).2 = (pressQ now q' pins).2 := by
  rw [pressQ_eq _ _ _ hs, pressQ_eq _ _ _ hs']
  refine ⟨h.filter _, ext_pins (by simp only [foldl_len]) fun k => ?_⟩
  simp only [sides_set]
  rw [perm_any ((h.filter _).map _)]
theorem Like.press {t : Tray} {s s' : Cs} (h : Like s s') (hs : CsOk t s) (hs' : CsOk t s') : Like s.press s'.press := by
  obtain ⟨hq, he⟩ := h
  obtain ⟨q, pins, now, a, u, sd, sp, pl, st, en⟩ := s
  obtain ⟨q', pins', now', a', u', sd', sp', pl', st', en'⟩ := s'
  simp only [Cs.mk.injEq, true_and] at he
  obtain ⟨rfl, rfl, rfl, rfl, rfl, rfl, rfl, rfl, rfl⟩ := he
  obtain ⟨h1, h2⟩ := pressQ_perm (now := now') (pins := pins') hq hs.sorted hs'.sorted
  refine ⟨h1, ?_⟩
  simp only [Cs.press, Cs.mk.injEq, true_and]
  exact ⟨h2.symm, trivial⟩
theorem head_time {q q' : List Pr} (h : q.Perm q') (hs : q.Pairwise fun a b => a.time ≤ b.time) (hs' : q'.Pairwise fun a b => a.time ≤ b.time) {p : Pr} {l : List Pr} (hq : q = p :: l) : ∃ p' l', q' = p' :: l' ∧ p'.time = p.time := by
  cases q' with
  | nil => rw [hq] at h; exact absurd h.length_eq (by simp)
  | cons p' l' =>
    subst hq
    refine ⟨p', l', rfl, ?_⟩
    have h1 : p' ∈ p :: l := h.mem_iff.2 (by simp)
    have h2 : p ∈ p' :: l' := h.mem_iff.1 (by simp)
    have e1 : p.time ≤ p'.time := by
      rcases List.mem_cons.1 h1 with rfl | h1
      · exact Int.le_refl _
      · exact (List.pairwise_cons.1 hs).1 _ h1
    have e2 : p'.time ≤ p.time := by
      rcases List.mem_cons.1 h2 with rfl | h2
      · exact Int.le_refl _
      · exact (List.pairwise_cons.1 hs').1 _ h2
    omega
theorem play_q (t : Tray) (s : Cs) (q : List Pr) : ({ s with q := q } : Cs).play t = { s.play t with q := q } := by
  unfold Cs.play
  by_cases h : s.pins.getD s.pos false = true
  · have h' : ({ s with q := q } : Cs).pins.getD ({ s with q := q } : Cs).pos false = true := h
    rw [if_pos h, if_pos h']; rfl
  · have h' : ¬ ({ s with q := q } : Cs).pins.getD ({ s with q := q } : Cs).pos false = true := h
    rw [if_neg h, if_neg h']
theorem next_q (t : Tray) (s : Cs) (q : List Pr) : ({ s with q := q } : Cs).next t = { s.next t with q := q } := by
  obtain ⟨q', pins, now, a, up, sd, sp, pl, st, en⟩ := s
  cases up
  · by_cases h : 0 < a <;> simp [Cs.next, Cs.move, Cs.mark, h]
  · by_cases h : a + 1 < t.n <;> simp [Cs.next, Cs.move, Cs.mark, h]
theorem step_q (t : Tray) (s : Cs) (q : List Pr) : (({ s with q := q } : Cs).play t).next t = { (s.play t).next t with q := q } := by rw [play_q, next_q]
/-- One act of both. -/
theorem Like.act1 {t : Tray} {s s' : Cs} (h : Like s s') (hs : CsOk t s) (hs' : CsOk t s') : (s.act1 t = none ∧ s'.act1 t = none) ∨ ∃ u u', s.act1 t = some u ∧ s'.act1 t = some u' ∧ Like u u' := by
  obtain ⟨hq, he⟩ := h
  obtain ⟨q, pins, now, a, up, sd, sp, pl, st, en⟩ := s
  obtain ⟨q', pins', now', a', up', sd', sp', pl', st', en'⟩ := s'
  simp only [Cs.mk.injEq, true_and] at he
  obtain ⟨rfl, rfl, rfl, rfl, rfl, rfl, rfl, rfl, rfl⟩ := he
  simp only at hq
  unfold Cs.act1
  simp only
  by_cases hp : pins'.all (!·) = true
  · rw [if_pos hp]
    cases q with
    | nil =>
      cases q' with
      | nil => left; simp [hp]
      | cons a b => exact absurd hq.length_eq (by simp)
    | cons p l =>
      obtain ⟨p', l', rfl, ht⟩ := head_time hq hs.sorted hs'.sorted rfl
      right
      refine ⟨_, _, rfl, by simp only [hp, if_true]; rfl, hq, ?_⟩
      simp only [Cs.mk.injEq, true_and, and_true]
      exact ht
  · rw [if_neg hp]
    right
    refine ⟨_, _, rfl, by rw [if_neg hp], ?_, ?_⟩
    · have e1 : ∀ (q : List Pr), (((⟨q, pins', now', a', up', sd', sp', pl', st', en'⟩ : Cs).play t).next t).q = q := fun q => by
        rw [(next_keeps t _).1, (play_pins t _).2.1]
      rw [e1, e1]; exact hq
    · have e1 := step_q t ⟨q', pins', now', a', up', sd', sp', pl', st', en'⟩ q
      have e2 : (((⟨q, pins', now', a', up', sd', sp', pl', st', en'⟩ : Cs).play t).next t).q = q := by
        rw [(next_keeps t _).1, (play_pins t _).2.1]
      rw [e2]
      exact e1.symm
theorem iter_like {t : Tray} (ht : TrayOk t) : ∀ (k : Nat) (s s' : Cs), CsOk t s → CsOk t s' → Like s s' → Like (iter t k s) (iter t k s')
  | 0, s, s', _, _, h => h
  | k + 1, s, s', hs, hs', h => by
    have hp := h.press hs hs'
    simp only [iter]
    rcases hp.act1 hs.press hs'.press with ⟨h1, h2⟩ | ⟨u, u', h1, h2, h3⟩
    · have e1 : s.act t = none := h1
      have e2 : s'.act t = none := h2
      rw [e1, e2]
      exact hp
    · have e1 : s.act t = some u := h1
      have e2 : s'.act t = some u' := h2
      rw [e1, e2]
      exact iter_like ht k u u' (act_ok ht hs e1) (act_ok ht hs' e2) h3
/-- In whichever order presses come: it is the same run. -/
theorem goes_perm {t : Tray} (ht : TrayOk t) {q q' : List Pr} (hq : q.Perm t.pres) (hs : q.Pairwise fun a b => a.time ≤ b.time) (hq' : q'.Perm t.pres) (hs' : q'.Pairwise fun a b => a.time ≤ b.time) : goesWith t q = goesWith t q' := by
  have h := iter_like ht 250 _ _ (start_ok ht hq hs) (start_ok ht hq' hs') ⟨hq.trans hq'.symm, rfl⟩
  have h1 := run_ok ht hq hs
  have h2 := run_ok ht hq' hs'
  have e1 : (goesWith t q).q = [] := h1.q
  have e2 : (goesWith t q').q = [] := h2.q
  have he : { goesWith t q' with q := (goesWith t q).q } = goesWith t q := h.eq
  rw [e1, ← e2] at he
  exact he.symm
end Go.Proofs.Ytkpgpgaojjobgaa

/-
  The turned tray: plain.
-/
namespace Go.Proofs.Ytkpgpgaojjobgaa
open Go Go.V

def turnP (n : Nat) (p : Pr) : Pr := ⟨2 * (n : Int) - 1 - p.side, p.time⟩
def turnR (r : Rec) : Rec := ⟨r.back, r.front⟩
def turnI (n : Nat) (s : Int) : Int := if s < 0 then -1 else 2 * (n : Int) - 1 - s
def turnSp (n : Nat) (s : Sp) : Sp := ⟨(n : Int) - 1 - s.at_, -s.way, turnI n s.side, s.from_⟩
def turnT (t : Tray) : Tray := ⟨t.recs.reverse.map turnR, (t.n : Int) - 1 - t.at_, -t.way, t.step, t.pres.map (turnP t.n)⟩
theorem turnT_n (t : Tray) : (turnT t).n = t.n := by simp [turnT, Tray.n]
theorem turnT_ok {t : Tray} (h : t.ok = true) : (turnT t).ok = true := by
  have hn := turnT_n t
  have h1 := h
  simp only [Tray.ok, Tray.okHead, Bool.and_eq_true, Bool.or_eq_true, beq_iff_eq, decide_eq_true_eq, List.all_eq_true, within] at h ⊢
  obtain ⟨⟨⟨⟨⟨⟨a1, a2⟩, a3⟩, a4⟩, a5⟩, a6⟩, a7⟩ := h
  rw [hn]
  have e1 : (turnT t).at_ = (t.n : Int) - 1 - t.at_ := rfl
  have e2 : (turnT t).way = -t.way := rfl
  have e3 : (turnT t).step = t.step := rfl
  have e4 : (turnT t).pres = t.pres.map (turnP t.n) := rfl
  have e5 : (turnT t).recs = t.recs.reverse.map turnR := rfl
  rw [e1, e2, e3, e4, e5]
  refine ⟨⟨⟨⟨⟨⟨a1, by omega⟩, by omega⟩, a4⟩, fun r hr => ?_⟩, by simpa using a6⟩, fun p hp => ?_⟩
  · obtain ⟨r, hr2, rfl⟩ := List.mem_map.1 hr
    have := a5 r (List.mem_reverse.1 hr2)
    simp only [okRec, turnR, Bool.and_eq_true] at this ⊢
    exact ⟨this.2, this.1⟩
  · obtain ⟨p, hp2, rfl⟩ := List.mem_map.1 hp
    have := a7 p hp2
    have e6 : (turnP t.n p).side = 2 * (t.n : Int) - 1 - p.side := rfl
    have e7 : (turnP t.n p).time = p.time := rfl
    generalize turnP t.n p = P at *
    simp only [okPr, isSide, isTime, within, Bool.and_eq_true, decide_eq_true_eq] at this ⊢
    omega
theorem turn_rc {t : Tray} {k : Nat} (h : k < t.n) : (turnT t).rc (t.n - 1 - k) = turnR (t.rc k) := by
  unfold Tray.rc
  show (t.recs.reverse.map turnR).getD _ _ = _
  have hl : t.recs.length = t.n := rfl
  rw [List.getD_eq_getElem?_getD, List.getD_eq_getElem?_getD, List.getElem?_map, List.getElem?_reverse (by omega), List.getElem?_eq_getElem (by omega), List.getElem?_eq_getElem (by omega)]
  simp only [Option.map_some, Option.getD_some]
  congr 2
  omega
theorem turn_secs {t : Tray} {s : Nat} (h : s < 2 * t.n) : secs (turnT t) (2 * t.n - 1 - s) = secs t s := by
  unfold secs
  by_cases h2 : s % 2 = 0
  · rw [if_pos h2, if_neg (by omega), show (2 * t.n - 1 - s) / 2 = t.n - 1 - s / 2 from by omega, turn_rc (by omega)]; rfl
  · rw [if_neg h2, if_pos (by omega), show (2 * t.n - 1 - s) / 2 = t.n - 1 - s / 2 from by omega, turn_rc (by omega)]; rfl
def turnS (n : Nat) (s : Cs) : Cs := ⟨s.q.map (turnP n), s.pins.reverse, s.now, n - 1 - s.at_, !s.up, turnI n s.side, s.spells.map (turnSp n), s.plays.map (turnP n), s.steps, s.end_⟩
theorem rev_set {l : List Bool} {k : Nat} (h : k < l.length) (b : Bool) : l.reverse.set (l.length - 1 - k) b = (l.set k b).reverse := by
  refine List.ext_getElem (by simp) fun i h1 h2 => ?_
  simp only [List.length_set, List.length_reverse] at h1
  rw [List.getElem_set, List.getElem_reverse, List.getElem_reverse, List.getElem_set]
  simp only [List.length_set]
  by_cases e : l.length - 1 - k = i
  · rw [if_pos e, if_pos (by omega)]
  · rw [if_neg e, if_neg (by omega)]
theorem rev_getD {l : List Bool} {k : Nat} (h : k < l.length) : l.reverse.getD (l.length - 1 - k) false = l.getD k false := by
  rw [List.getD_eq_getElem?_getD, List.getD_eq_getElem?_getD, List.getElem?_reverse (by omega), show l.length - 1 - (l.length - 1 - k) = k from by omega]
theorem turn_press {n : Nat} (now : Int) : ∀ (q : List Pr) (pins : List Bool), pins.length = 2 * n → (∀ p ∈ q, 0 ≤ p.side ∧ p.side < 2 * (n : Int)) → pressQ now (q.map (turnP n)) pins.reverse = ((pressQ now q pins).1.map (turnP n), (pressQ now q pins).2.reverse)
  | [], pins, _, _ => rfl
  | p :: q, pins, hl, h => by
    have hp := h p (by simp)
    simp only [List.map_cons, pressQ]
    have e1 : (turnP n p).time = p.time := rfl
    rw [e1]
    by_cases hc : p.time ≤ now
    · rw [if_pos hc, if_pos hc]
      have e2 : (turnP n p).side.toNat = pins.length - 1 - p.side.toNat := by show (2 * (n : Int) - 1 - p.side).toNat = _; omega
      rw [e2, rev_set (by omega)]
      exact turn_press now q _ (by rw [List.length_set]; exact hl) fun x hx => h x (by simp [hx])
    · rw [if_neg hc, if_neg hc]; rfl
theorem Cs.press_turn {t : Tray} {s : Cs} (hs : CsOk t s) : (turnS t.n s).press = turnS t.n s.press := by
  have h := turn_press s.now s.q s.pins hs.pins fun p hp => (hs.q p hp).1
  unfold Cs.press turnS
  simp only [h]
theorem pos_turn {t : Tray} {s : Cs} (hs : CsOk t s) : (turnS t.n s).pos = 2 * t.n - 1 - s.pos := by
  have := hs.at_
  show sideAt (t.n - 1 - s.at_) (!s.up) = 2 * t.n - 1 - sideAt s.at_ s.up
  unfold sideAt
  cases s.up
  · simp only [Bool.not_false, if_true, Bool.false_eq_true, if_false]; omega
  · simp only [Bool.not_true, if_true, Bool.false_eq_true, if_false]; omega
theorem wayI_turn (b : Bool) : wayI (!b) = -wayI b := by cases b <;> rfl
theorem mark_turn {n : Nat} {s : Cs} (h : s.at_ < n) {x : Int} : (turnS n s).mark (turnI n x) = turnS n (s.mark x) := by
  unfold Cs.mark turnS
  simp only [List.map_append, List.map_cons, List.map_nil, turnSp, wayI_turn]
  congr 4
  show ((n - 1 - s.at_ : Nat) : Int) = (n : Int) - 1 - s.at_
  omega
theorem turnI_neg (n : Nat) : turnI n (-1) = -1 := rfl
theorem turnI_nat {n k : Nat} (h : k < 2 * n) : turnI n (k : Int) = ((2 * n - 1 - k : Nat) : Int) := by unfold turnI; rw [if_neg (by omega)]; omega
theorem play_turn {t : Tray} {s : Cs} (hs : CsOk t s) : (turnS t.n s).play (turnT t) = turnS t.n (s.play t) := by
  have hp := pos_lt hs
  have hpos := pos_turn hs
  have hl := hs.pins
  have hpin : (turnS t.n s).pins.getD (turnS t.n s).pos false = s.pins.getD s.pos false := by
    rw [hpos]
    show s.pins.reverse.getD _ _ = _
    rw [show 2 * t.n - 1 - s.pos = s.pins.length - 1 - s.pos from by omega, rev_getD (by omega)]
  unfold Cs.play
  rw [hpin]
  by_cases hc : s.pins.getD s.pos false = true
  · rw [if_pos hc, if_pos hc]
    have h1 : (turnS t.n s).play1 = turnS t.n s.play1 := by
      unfold Cs.play1
      rw [hpos, ← turnI_nat hp, ← mark_turn (n := t.n) (s := ({ s with pins := s.pins.set s.pos false, plays := s.plays ++ [⟨s.pos, s.now⟩] } : Cs)) hs.at_]
      congr 1
      unfold turnS
      simp only [List.map_append, List.map_cons, List.map_nil, Cs.mk.injEq, true_and, and_true]
      refine ⟨?_, ?_⟩
      · rw [← rev_set (by omega), hl]
      · congr 2
    rw [h1]
    have ha : s.play1.at_ = s.at_ := rfl
    have hu : s.play1.up = s.up := rfl
    have hpp : s.play1.pos = s.pos := rfl
    have hpp2 : (turnS t.n s.play1).pos = 2 * t.n - 1 - s.pos := by rw [← hpos]; rfl
    unfold Cs.play2
    rw [hpp2, turn_secs hp, hpp, ← turnI_neg t.n, ← mark_turn (n := t.n) (s := ({ s.play1 with now := s.play1.now + secs t s.pos, end_ := s.play1.now + secs t s.pos } : Cs)) hs.at_]
    rfl
  · rw [if_neg hc, if_neg hc]
theorem move_turn {t : Tray} {s : Cs} (h : s.at_ < t.n) : (turnS t.n s).move (turnT t) = turnS t.n (s.move t) := by
  unfold Cs.move
  have hn := turnT_n t
  have e1 : (turnS t.n s).up = !s.up := rfl
  have e2 : (turnS t.n s).at_ = t.n - 1 - s.at_ := rfl
  have e3 : (turnT t).step = t.step := rfl
  rw [e1, e2, hn, e3]
  cases hu : s.up
  · simp only [Bool.not_false, if_true, Bool.false_eq_true, if_false]
    by_cases h0 : 0 < s.at_
    · rw [if_pos h0, if_pos (by omega)]
      unfold turnS
      simp only [hu, Bool.not_false, Bool.not_true, Cs.mk.injEq, true_and, and_true]
      omega
    · rw [if_neg h0, if_neg (by omega)]
      unfold turnS
      simp only [Cs.mk.injEq, true_and, and_true]
      rfl
  · simp only [Bool.not_true, if_true, Bool.false_eq_true, if_false]
    by_cases h0 : s.at_ + 1 < t.n
    · rw [if_pos h0, if_pos (by omega)]
      unfold turnS
      simp only [hu, Bool.not_false, Bool.not_true, Cs.mk.injEq, true_and, and_true]
      omega
    · rw [if_neg h0, if_neg (by omega)]
      unfold turnS
      simp only [Cs.mk.injEq, true_and, and_true]
      rfl
theorem next_turn {t : Tray} {s : Cs} (h : s.at_ < t.n) : (turnS t.n s).next (turnT t) = turnS t.n (s.next t) := by
  unfold Cs.next
  rw [move_turn h]
  exact mark_turn (x := -1) (move_c (t := t) h).2
theorem act1_turn {t : Tray} {s : Cs} (hs : CsOk t s) : (turnS t.n s).act1 (turnT t) = (s.act1 t).map (turnS t.n) := by
  unfold Cs.act1
  have e1 : (turnS t.n s).pins.all (!·) = s.pins.all (!·) := by
    show s.pins.reverse.all _ = _
    rw [List.all_reverse]
  rw [e1]
  by_cases hp : s.pins.all (!·) = true
  · rw [if_pos hp, if_pos hp]
    have e2 : (turnS t.n s).q = s.q.map (turnP t.n) := rfl
    rw [e2]
    cases hq : s.q with
    | nil => rfl
    | cons p q =>
      simp only [List.map_cons, Option.map_some]
      rfl
  · rw [if_neg hp, if_neg hp, Option.map_some, play_turn hs, next_turn (by rw [(play_pins t s).2.2.1]; exact hs.at_)]
theorem iter_turn {t : Tray} (ht : TrayOk t) : ∀ (k : Nat) (s : Cs), CsOk t s → iter (turnT t) k (turnS t.n s) = turnS t.n (iter t k s)
  | 0, s, _ => rfl
  | k + 1, s, hs => by
    have e : (turnS t.n s).act (turnT t) = (s.act t).map (turnS t.n) := by
      unfold Cs.act
      rw [Cs.press_turn hs, act1_turn hs.press]
    simp only [iter, e]
    cases h : s.act t with
    | none => simp only [Option.map_none]; exact Cs.press_turn hs
    | some s' =>
      simp only [Option.map_some]
      exact iter_turn ht k s' (act_ok ht hs h)
theorem start_turn {t : Tray} (ht : TrayOk t) (q : List Pr) : (start (turnT t) (q.map (turnP t.n))).mark (-1) = turnS t.n ((start t q).mark (-1)) := by
  have hat := ht.at_
  rw [← turnI_neg t.n, ← mark_turn (n := t.n) (s := start t q) (by show t.at_.toNat < _; omega)]
  rw [turnI_neg]
  congr 1
  unfold start turnS
  have e1 : (turnT t).at_.toNat = t.n - 1 - t.at_.toNat := by show ((t.n : Int) - 1 - t.at_).toNat = _; omega
  have e2 : ((turnT t).way == 1) = !(t.way == 1) := by
    show (-t.way == 1) = _
    rcases ht.way with h | h <;> rw [h] <;> rfl
  rw [e1, e2, turnT_n]
  simp only [List.reverse_replicate, List.map_nil]
  rfl
theorem turn_goes {t : Tray} (ht : TrayOk t) (ht' : TrayOk (turnT t)) : goesS (turnT t) = turnS t.n (goesS t) := by
  have h1 := sortT_perm t.pres
  have h2 := sortT_sorted t.pres
  have h3 : ((sortT t.pres).map (turnP t.n)).Pairwise fun a b => a.time ≤ b.time := List.pairwise_map.2 h2
  have e : goesS (turnT t) = goesWith (turnT t) ((sortT t.pres).map (turnP t.n)) := goes_perm ht' (sortT_perm _) (sortT_sorted _) (h1.map _) h3
  rw [e]
  unfold goesS goesWith
  rw [start_turn ht, iter_turn ht _ _ (start_ok ht h1 h2)]
theorem standG_turn (n : Nat) (x : Int) : ∀ (l : List Sp) (o : Sp), standG x (turnSp n o) (l.map (turnSp n)) = turnSp n (standG x o l)
  | [], o => rfl
  | s :: l, o => by
    simp only [List.map_cons, standG]
    have e : (turnSp n s).from_ = s.from_ := rfl
    rw [e]
    split
    · rfl
    · exact standG_turn n x l s
theorem turn_stand {t : Tray} (ht : TrayOk t) (ht' : TrayOk (turnT t)) (x : Int) : standV (turnT t) x = turnSp t.n (standV t x) := by
  unfold standV
  rw [turn_goes ht ht']
  have e1 : (turnS t.n (goesS t)).spells = (goesS t).spells.map (turnSp t.n) := rfl
  obtain ⟨l, hl⟩ := spells_ne ht (sortT_perm t.pres) (sortT_sorted t.pres)
  have hl : (goesS t).spells = _ := hl
  rw [e1, ← standG_turn, hl]
  rfl
theorem turn_plays {t : Tray} (ht : TrayOk t) (ht' : TrayOk (turnT t)) : playsS (turnT t) = (playsS t).map (turnP t.n) ∧ (goesS (turnT t)).steps = (goesS t).steps := by
  unfold playsS
  rw [turn_goes ht ht']
  exact ⟨rfl, rfl⟩
end Go.Proofs.Ytkpgpgaojjobgaa
