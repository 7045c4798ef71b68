/-
  Contracts of the layer's functions, of the laws' helpers and of the law; conditions: as each theorem states.
-/
import Derived.Test.YtkpgpgaojjobgaaU5
set_option linter.unusedVariables false
set_option linter.unusedSimpArgs false
namespace Go.Proofs.Ytkpgpgaojjobgaa
open Go Go.V
@[reducible] def o86_0 : List Ins := [⟨(some 4), .mv (.k (.c (.int .i64 0))), none, true⟩]
@[reducible] def o86_1 : List Ins := [⟨(some 6), .mv (.t 0), none, true⟩,
  ⟨(some 7), .len (.t 6), none, true⟩,
  ⟨(some 8), .mv (.k (.c (.int .i64 0))), none, true⟩]
@[reducible] def o86_2 : List Ins := [⟨(some 9), .bin .lss (.t 8) (.t 7), none, true⟩]
@[reducible] def o86_3 : List Ins := [⟨(some 10), .mv (.t 8), none, true⟩,
  ⟨(some 5), .mv (.t 10), none, true⟩]
@[reducible] def o86_4 : List Ins := [⟨(some 11), .mv (.t 1), none, true⟩,
  ⟨(some 12), .mv (.t 0), none, true⟩,
  ⟨(some 13), .mv (.t 5), none, true⟩,
  ⟨(some 14), .ia 1 (.t 12) (.t 13), none, true⟩,
  ⟨(some 15), .ld true 1 (.t 14), none, true⟩,
  ⟨(some 16), .bin .eql (.t 11) (.t 15), none, true⟩]
@[reducible] def o86_5 : List Ins := [⟨(some 17), .mv (.t 5), none, true⟩,
  ⟨(some 4), .mv (.t 17), none, true⟩]
@[reducible] def v86_6 : VC := (.seq (.ops o86_5) .ret)
@[reducible] def v86_7 : VC := (.cond (.t 16) v86_6 .skip)
@[reducible] def v86_8 : VC := (.seq (.ops o86_4) v86_7)
@[reducible] def v86_9 : VC := (.seq (.ops o86_3) v86_8)
@[reducible] def o86_10 : List Ins := [⟨(some 18), .bin .add (.t 8) (.k (.c (.int .i64 1))), none, true⟩,
  ⟨(some 8), .mv (.t 18), none, true⟩]
@[reducible] def v86_11 : VC := (.seq (.block 1 v86_9) (.ops o86_10))
@[reducible] def v86_12 : VC := (.seq (.cond (.t 9) .skip (.exit 0)) v86_11)
@[reducible] def v86_13 : VC := (.seq (.ops o86_2) v86_12)
-- K86_1: changed and kept: [8]
@[reducible] def K86_1 : List Nat := [0, 1, 7]
@[reducible] def v86_14 : VC := (.loop v86_13)
@[reducible] def v86_15 : VC := (.block 0 v86_14)
@[reducible] def o86_16 : List Ins := [⟨(some 4), .mv (.k (.c (.int .i64 (-1)))), none, true⟩]
@[reducible] def v86_17 : VC := (.seq (.ops o86_16) .ret)
@[reducible] def v86_18 : VC := (.seq (.seq (.ops o86_1) v86_15) v86_17)
def ir86 : FC := ⟨2, 19, [.t 4], (.seq (.ops o86_0) v86_18)⟩
@[reducible] def o79_0 : List Ins := [⟨(some 2), .mv (.k (.c (.raw (.slice none 0 0)))), none, true⟩]
@[reducible] def o79_1 : List Ins := [⟨(some 3), .mv (.t 0), none, true⟩,
  ⟨(some 4), .nils false (.t 3), none, true⟩]
@[reducible] def o79_2 : List Ins := [⟨(some 2), .mv (.k (.c (.raw (.slice none 0 0)))), none, true⟩]
@[reducible] def v79_3 : VC := (.seq (.ops o79_2) .ret)
@[reducible] def v79_4 : VC := (.cond (.t 4) v79_3 .skip)
@[reducible] def o79_5 : List Ins := [⟨(some 5), .bsl 3 1 [], none, true⟩,
  ⟨(some 6), .mv (.t 0), none, true⟩,
  ⟨(some 7), .app 3 1 8 (.t 5) (.t 6), none, true⟩,
  ⟨(some 2), .mv (.t 7), none, true⟩]
@[reducible] def v79_6 : VC := (.seq (.ops o79_5) .ret)
@[reducible] def v79_7 : VC := (.seq (.seq (.ops o79_1) v79_4) v79_6)
def ir79 : FC := ⟨1, 8, [.t 2], (.seq (.ops o79_0) v79_7)⟩
@[reducible] def o78_0 : List Ins := [⟨(some 2), .box 5 (.t 0), none, true⟩,
  ⟨(some 4), .alloc [(.c (.raw (.slice none 0 0))), (.c (.int .i64 0)), (.c (.int .i64 0)), (.c (.int .i64 0)), (.c (.raw (.slice none 0 0)))], none, true⟩]
@[reducible] def o78_1 : List Ins := [⟨(some 10), .ld false 5 (.t 2), none, true⟩,
  ⟨(some 5), .alloc [(.c (.raw (.slice none 0 0))), (.c (.int .i64 0)), (.c (.int .i64 0)), (.c (.int .i64 0)), (.c (.raw (.slice none 0 0)))], none, true⟩,
  ⟨none, .st 5 (.t 5) (.t 10), none, true⟩]
@[reducible] def o78_2 : List Ins := [⟨(some 11), .fa 4 (.t 2), none, true⟩,
  ⟨(some 12), .ld true 1 (.t 11), none, true⟩,
  ⟨(some 13), .call (.k (.fn 56 [])) [(.t 12)], none, true⟩,
  ⟨(some 14), .fa 0 (.t 5), none, true⟩,
  ⟨none, .st 1 (.t 14) (.k (.c (.raw (.slice none 0 0)))), none, true⟩,
  ⟨(some 15), .fa 4 (.t 5), none, true⟩,
  ⟨none, .st 1 (.t 15) (.t 13), none, true⟩]
@[reducible] def o78_3 : List Ins := [⟨(some 16), .mv (.t 1), none, true⟩,
  ⟨(some 17), .len (.t 16), none, true⟩,
  ⟨(some 18), .mv (.k (.c (.int .i64 0))), none, true⟩]
@[reducible] def o78_4 : List Ins := [⟨(some 19), .bin .lss (.t 18) (.t 17), none, true⟩]
@[reducible] def o78_5 : List Ins := [⟨(some 20), .ia 1 (.t 16) (.t 18), none, true⟩,
  ⟨(some 21), .ld true 1 (.t 20), none, true⟩,
  ⟨(some 7), .mv (.t 21), none, true⟩]
@[reducible] def o78_6 : List Ins := [⟨(some 22), .fa 0 (.t 5), none, false⟩,
  ⟨(some 23), .ld true 1 (.t 22), none, false⟩,
  ⟨(some 24), .fa 0 (.t 2), none, false⟩,
  ⟨(some 25), .ld true 1 (.t 24), none, false⟩,
  ⟨(some 26), .mv (.t 7), none, false⟩,
  ⟨(some 27), .ia 2 (.t 25) (.t 26), none, false⟩,
  ⟨(some 28), .ld false 2 (.t 27), none, false⟩,
  ⟨(some 29), .bsl 56 2 [(.t 28)], none, false⟩,
  ⟨(some 30), .app 56 2 16 (.t 23) (.t 29), none, true⟩,
  ⟨(some 31), .fa 0 (.t 5), none, true⟩,
  ⟨none, .st 1 (.t 31) (.t 30), none, true⟩]
@[reducible] def v78_7 : VC := (.seq (.ops o78_5) (.ops o78_6))
@[reducible] def o78_8 : List Ins := [⟨(some 32), .bin .add (.t 18) (.k (.c (.int .i64 1))), none, true⟩,
  ⟨(some 18), .mv (.t 32), none, true⟩]
@[reducible] def v78_9 : VC := (.seq (.block 1 v78_7) (.ops o78_8))
@[reducible] def v78_10 : VC := (.seq (.cond (.t 19) .skip (.exit 0)) v78_9)
@[reducible] def v78_11 : VC := (.seq (.ops o78_4) v78_10)
-- K78_1: changed and kept: [18]
@[reducible] def K78_1 : List Nat := [1, 2, 4, 5, 16, 17]
@[reducible] def v78_12 : VC := (.loop v78_11)
@[reducible] def v78_13 : VC := (.block 0 v78_12)
@[reducible] def o78_14 : List Ins := [⟨(some 33), .fa 4 (.t 5), none, true⟩,
  ⟨(some 34), .ld true 1 (.t 33), none, true⟩,
  ⟨(some 35), .len (.t 34), none, true⟩,
  ⟨(some 36), .mv (.k (.c (.int .i64 0))), none, true⟩]
@[reducible] def o78_15 : List Ins := [⟨(some 37), .bin .lss (.t 36) (.t 35), none, true⟩]
@[reducible] def o78_16 : List Ins := [⟨(some 38), .mv (.t 36), none, true⟩,
  ⟨(some 39), .ia 2 (.t 34) (.t 36), none, true⟩,
  ⟨(some 40), .ld false 2 (.t 39), none, true⟩,
  ⟨(some 9), .alloc [(.c (.int .i64 0)), (.c (.int .i64 0))], none, true⟩,
  ⟨(some 8), .mv (.t 38), none, true⟩,
  ⟨none, .st 2 (.t 9) (.t 40), none, true⟩]
@[reducible] def o78_17 : List Ins := [⟨(some 41), .fa 4 (.t 5), none, false⟩,
  ⟨(some 42), .ld true 1 (.t 41), none, false⟩,
  ⟨(some 43), .mv (.t 8), none, false⟩,
  ⟨(some 44), .mv (.t 1), none, false⟩,
  ⟨(some 45), .fa 0 (.t 9), none, false⟩,
  ⟨(some 46), .ld true 1 (.t 45), none, false⟩,
  ⟨(some 47), .bin .quo (.t 46) (.k (.c (.int .i64 2))), none, false⟩,
  ⟨(some 48), .call (.k (.fn 86 [])) [(.t 44), (.t 47)], none, false⟩,
  ⟨(some 49), .bin .mul (.k (.c (.int .i64 2))) (.t 48), none, false⟩,
  ⟨(some 50), .fa 0 (.t 9), none, false⟩,
  ⟨(some 51), .ld true 1 (.t 50), none, false⟩,
  ⟨(some 52), .bin .rem (.t 51) (.k (.c (.int .i64 2))), none, false⟩,
  ⟨(some 53), .bin .add (.t 49) (.t 52), none, false⟩,
  ⟨(some 54), .ia 2 (.t 42) (.t 43), none, true⟩,
  ⟨(some 55), .fa 0 (.t 54), none, true⟩,
  ⟨none, .st 1 (.t 55) (.t 53), none, true⟩]
@[reducible] def v78_18 : VC := (.seq (.ops o78_16) (.ops o78_17))
@[reducible] def o78_19 : List Ins := [⟨(some 56), .bin .add (.t 36) (.k (.c (.int .i64 1))), none, true⟩,
  ⟨(some 36), .mv (.t 56), none, true⟩]
@[reducible] def v78_20 : VC := (.seq (.block 3 v78_18) (.ops o78_19))
@[reducible] def v78_21 : VC := (.seq (.cond (.t 37) .skip (.exit 2)) v78_20)
@[reducible] def v78_22 : VC := (.seq (.ops o78_15) v78_21)
-- K78_2: changed and kept: [36]
@[reducible] def K78_2 : List Nat := [1, 4, 5, 34, 35]
@[reducible] def v78_23 : VC := (.loop v78_22)
@[reducible] def v78_24 : VC := (.block 2 v78_23)
@[reducible] def o78_25 : List Ins := [⟨(some 57), .ld false 5 (.t 5), none, true⟩,
  ⟨none, .st 5 (.t 4) (.t 57), none, true⟩]
@[reducible] def v78_26 : VC := (.seq (.ops o78_25) .ret)
@[reducible] def v78_27 : VC := (.seq (.seq (.ops o78_14) v78_24) v78_26)
@[reducible] def v78_28 : VC := (.seq (.seq (.ops o78_3) v78_13) v78_27)
@[reducible] def v78_29 : VC := (.seq (.ops o78_2) v78_28)
@[reducible] def v78_30 : VC := (.seq (.ops o78_1) v78_29)
def ir78 : FC := ⟨2, 58, [.cell 4 false 5], (.seq (.ops o78_0) v78_30)⟩
theorem c86 : compM Try.prog [] 86 = some ir86 := by kernel_rfl
theorem c79 : compM Try.prog [] 79 = some ir79 := by kernel_rfl
theorem c78 : compM Try.prog [] 78 = some ir78 := by kernel_rfl



/-! ### Records in another order: plain -/
def IsOrd (n : Nat) (o : List Nat) : Prop := o.Perm (List.range n)
theorem IsOrd.len {n : Nat} {o : List Nat} (h : IsOrd n o) : o.length = n := by have := h.length_eq; simpa using this
theorem IsOrd.lt {n : Nat} {o : List Nat} (h : IsOrd n o) {k : Nat} (hk : k ∈ o) : k < n := List.mem_range.1 (h.mem_iff.1 hk)
theorem IsOrd.mem {n : Nat} {o : List Nat} (h : IsOrd n o) {k : Nat} (hk : k < n) : k ∈ o := h.mem_iff.2 (List.mem_range.2 hk)
/-- A press, when the records stand in another order. -/
def arrP (o : List Nat) (p : Pr) : Pr := ⟨2 * (o.idxOf (p.side.toNat / 2) : Int) + p.side % 2, p.time⟩
def arrT (t : Tray) (o : List Nat) : Tray := { t with recs := o.map t.rc, pres := t.pres.map (arrP o) }
theorem arrP_side {t : Tray} {o : List Nat} (ho : IsOrd t.n o) {p : Pr} (hp : 0 ≤ p.side ∧ p.side < 2 * (t.n : Int)) : o.idxOf (p.side.toNat / 2) < t.n ∧ p.side.toNat / 2 < t.n := by
  have h : p.side.toNat / 2 < t.n := by omega
  have := List.idxOf_lt_length_of_mem (ho.mem h)
  rw [ho.len] at this
  exact ⟨this, h⟩
theorem arr_ok {t : Tray} (ht : TrayOk t) {o : List Nat} (ho : IsOrd t.n o) : TrayOk (arrT t o) := by
  have hn : (arrT t o).n = t.n := by show (o.map t.rc).length = _; rw [List.length_map, ho.len]
  refine ⟨by rw [hn]; exact ht.n1, by rw [hn]; exact ht.n6, by rw [hn]; exact ht.at_, ht.way, ht.step, fun r hr => ?_, fun p hp => ?_, by show (t.pres.map _).length ≤ 13; rw [List.length_map]; exact ht.p13⟩
  · obtain ⟨k, hk, rfl⟩ := List.mem_map.1 hr
    exact rec_ok ht (ho.lt hk)
  · obtain ⟨q, hq, rfl⟩ := List.mem_map.1 hp
    have h1 := ht.pres q hq
    have h2 := arrP_side ho h1.1
    rw [hn]
    refine ⟨?_, h1.2⟩
    simp only [arrP]
    omega
theorem idx_step {o : List Nat} {m k : Nat} (h : k < o.length) : (o.drop k).idxOf m = if o[k] = m then 0 else (o.drop (k + 1)).idxOf m + 1 := by
  rw [List.drop_eq_getElem_cons h, List.idxOf_cons]
  by_cases e : o[k] = m
  · simp [e]
  · have : (o[k] == m) = false := by simpa using e
    rw [if_neg e, this]; rfl

set_option maxHeartbeats 4000000 in
theorem index86 (o : List Nat) (m : Nat) (ho : o.length ≤ 1000) (hm : m ∈ o) : FSpec Try.prog 86 [.c (natsC o), iv m] (iv (o.idxOf m)) := by
  refine FSpec_of c86 (Nat.le_refl _) (by decide) fun C hP hN hC hL => ?_
  simp only [ir86]
  (repeat ((first | refine WV_seq_ ?_ | refine WV_block ?_ | refine WV_ops ?_ | refine WV_skip ?_ | refine WV_exit ?_); (try simp only [go_sem, init_env', Nat.reduceEqDiff, Nat.reduceAdd, Nat.reduceMul, reduceIte, Nat.reduceLeDiff, Nat.reduceLT, Nat.reduceBEq, reduceCtorEq, hP, natsC, List.length_map]); (repeat (refine And.intro (by first | omega | (intros; simp_all; done) | (intros; simp_all; omega)) ?_))))
  (refine WV_loopK K86_1 [] (fun k : Nat => k ≤ o.length ∧ (o.idxOf m = k + (o.drop k).idxOf m ∧ m ∈ o.drop k)) (fun k => o.length - k) (fun k => [(8, iv k)]) (fun _ => []) 0 ⟨Nat.zero_le _, ⟨by simp, by simpa using hm⟩⟩ ?_ ?_)
  · (refine Sub_of (by simp only [go_sem, init_env', Nat.reduceEqDiff, Nat.reduceAdd, Nat.reduceMul, reduceIte, Nat.reduceLeDiff, Nat.reduceLT, Nat.reduceBEq, reduceCtorEq]; ((repeat' (first | exact EnvLe_e0 _ _ | refine EnvLe_upd ?_ ?_)) <;> ((try simp only [upd_app, e0_app, o0_app, Nat.reduceEqDiff, reduceIte]); first | exact AWk.refl _ _ | exact AWk.int (by omega) | exact AWk.int (by rw [w64 (by omega) (by omega)]; omega) | exact AWk.grow rfl | exact AWk.nil _ | exact AWk.of (by simp)))) (by simp only [go_sem, init_env', Nat.reduceEqDiff, Nat.reduceAdd, Nat.reduceMul, reduceIte, Nat.reduceLeDiff, Nat.reduceLT, Nat.reduceBEq, reduceCtorEq]; ((repeat' (first | exact ObjLe_o0 _ | exact ObjLe.rfl' _ | refine ObjLe_same ?_ | refine ObjLe_upd ?_ ?_ | refine ObjLe_new rfl ?_)) <;> rfl)))
  · intro k ⟨hk, hx, hmm⟩
    simp only [go_sem, init_env', Nat.reduceEqDiff, Nat.reduceAdd, Nat.reduceMul, reduceIte, Nat.reduceLeDiff, Nat.reduceLT, Nat.reduceBEq, reduceCtorEq]
    (repeat ((first | refine WV_seq_ ?_ | refine WV_block ?_ | refine WV_ops ?_ | refine WV_skip ?_ | refine WV_exit ?_); (try simp only [go_sem, init_env', Nat.reduceEqDiff, Nat.reduceAdd, Nat.reduceMul, reduceIte, Nat.reduceLeDiff, Nat.reduceLT, Nat.reduceBEq, reduceCtorEq, hP, ]); (repeat (refine And.intro (by first | omega | (intros; simp_all; done) | (intros; simp_all; omega)) ?_))))
    (refine WV_cond rfl (fun h => ?_) (fun h => ?_))
    · have h : k < o.length := by simpa using h
      have hI : (k : Int) < (o.length : Int) := by omega
      have hw2 := w64 (n := (k : Int) + 1) (by omega) (by omega)
      rw [idx_step h] at hx
      rw [List.drop_eq_getElem_cons h] at hmm
      (repeat ((first | refine WV_seq_ ?_ | refine WV_block ?_ | refine WV_ops ?_ | refine WV_skip ?_ | refine WV_exit ?_); (try simp only [go_sem, init_env', Nat.reduceEqDiff, Nat.reduceAdd, Nat.reduceMul, reduceIte, Nat.reduceLeDiff, Nat.reduceLT, Nat.reduceBEq, reduceCtorEq, hP, map_getD h, hI, List.length_map, ncd, Int.natCast_nonneg]); (repeat (refine And.intro (by first | omega | (intros; simp_all; done) | (intros; simp_all; omega)) ?_))))
      have hbe : ((m : Int) == ((o[k] : Nat) : Int)) = decide (o[k] = m) := by rw [Bool.eq_iff_iff]; simp; omega
      rw [hbe]
      by_cases hb : o[k] = m
      · rw [if_pos hb] at hx
        rw [decide_eq_true hb]
        (refine WV_cond rfl (fun h => ?_) (fun h => ?_))
        · (repeat ((first | refine WV_seq_ ?_ | refine WV_block ?_ | refine WV_ops ?_ | refine WV_skip ?_ | refine WV_exit ?_); (try simp only [go_sem, init_env', Nat.reduceEqDiff, Nat.reduceAdd, Nat.reduceMul, reduceIte, Nat.reduceLeDiff, Nat.reduceLT, Nat.reduceBEq, reduceCtorEq, hP, ]); (repeat (refine And.intro (by first | omega | (intros; simp_all; done) | (intros; simp_all; omega)) ?_))))
          (refine WV_ret ?_; simp only [thenQ, inQ, RetQ, RetOk, resAll, resA]; simp only [go_sem, init_env', Nat.reduceEqDiff, Nat.reduceAdd, Nat.reduceMul, reduceIte, Nat.reduceLeDiff, Nat.reduceLT, Nat.reduceBEq, reduceCtorEq, tupA, AV.port, AV.portL, exists_eq_left', ]; (first | exact AVle.of rfl | refine AVle.of ?_ | skip))
          rw [hx]; rfl
        · simp at h
      · rw [if_neg hb] at hx
        rw [decide_eq_false hb]
        (refine WV_cond rfl (fun h => ?_) (fun h => ?_))
        · simp at h
        · (repeat ((first | refine WV_seq_ ?_ | refine WV_block ?_ | refine WV_ops ?_ | refine WV_skip ?_ | refine WV_exit ?_); (try simp only [go_sem, init_env', Nat.reduceEqDiff, Nat.reduceAdd, Nat.reduceMul, reduceIte, Nat.reduceLeDiff, Nat.reduceLT, Nat.reduceBEq, reduceCtorEq, hP, hw2]); (repeat (refine And.intro (by first | omega | (intros; simp_all; done) | (intros; simp_all; omega)) ?_))))
          refine ⟨k + 1, ⟨by omega, by omega, ?_⟩, by omega, ?_⟩
          · rcases List.mem_cons.1 hmm with hmm | hmm
            · exact absurd hmm.symm hb
            · exact hmm
          · (refine Sub_of (by simp only [go_sem, init_env', Nat.reduceEqDiff, Nat.reduceAdd, Nat.reduceMul, reduceIte, Nat.reduceLeDiff, Nat.reduceLT, Nat.reduceBEq, reduceCtorEq]; ((repeat' (first | exact EnvLe_e0 _ _ | refine EnvLe_upd ?_ ?_)) <;> ((try simp only [upd_app, e0_app, o0_app, Nat.reduceEqDiff, reduceIte]); first | exact AWk.refl _ _ | exact AWk.int (by omega) | exact AWk.int (by rw [w64 (by omega) (by omega)]; omega) | exact AWk.grow rfl | exact AWk.nil _ | exact AWk.of (by simp)))) (by simp only [go_sem, init_env', Nat.reduceEqDiff, Nat.reduceAdd, Nat.reduceMul, reduceIte, Nat.reduceLeDiff, Nat.reduceLT, Nat.reduceBEq, reduceCtorEq]; ((repeat' (first | exact ObjLe_o0 _ | exact ObjLe.rfl' _ | refine ObjLe_same ?_ | refine ObjLe_upd ?_ ?_ | refine ObjLe_new rfl ?_)) <;> rfl)))
    · have h : k = o.length := by simp at h; omega
      subst h
      rw [List.drop_length] at hmm
      cases hmm

theorem ncd_scal (l : List Nat) : ((l.map ncd).all fun e => e.all CD.scal) = true := by
  rw [List.all_eq_true]; intro e he; obtain ⟨n, _, rfl⟩ := List.mem_map.1 he; rfl
theorem ncds_one (l : List Nat) : ((l.map ncd).all fun e => e.length == 1) = true := by
  rw [List.all_eq_true]; intro e he; obtain ⟨n, _, rfl⟩ := List.mem_map.1 he; rfl
theorem recs_scal (l : List Rec) : ((l.map Rec.cds).all fun e => e.all CD.scal) = true := by
  rw [List.all_eq_true]; intro e he; obtain ⟨n, _, rfl⟩ := List.mem_map.1 he; rfl
theorem prs_scal (l : List Pr) : ((l.map Pr.cds).all fun e => e.all CD.scal) = true := by
  rw [List.all_eq_true]; intro e he; obtain ⟨n, _, rfl⟩ := List.mem_map.1 he; rfl
theorem cloneI79 (l : List Nat) (hlen : l.length ≤ 1000) : FSpecF Try.prog 79 [.c (natsC l)] (.c (natsC l)) := by
  refine FSpecF_of c79 (Nat.le_refl _) (by decide) fun C hP hN hC hL => ?_
  have hmax : maxLen = 9223372036854775807 := rfl
  simp only [ir79, natsC]
  cases l with
  | nil =>
    (repeat ((first | refine WV_seq_ ?_ | refine WV_block ?_ | refine WV_ops ?_ | refine WV_skip ?_ | refine WV_exit ?_); (try simp only [go_sem, init_env', Nat.reduceEqDiff, Nat.reduceAdd, Nat.reduceMul, reduceIte, Nat.reduceLeDiff, Nat.reduceLT, Nat.reduceBEq, reduceCtorEq, hP, ]); (repeat (refine And.intro (by first | omega | (intros; simp_all; done) | (intros; simp_all; omega)) ?_))))
    intro b
    (repeat ((first | refine WV_seq_ ?_ | refine WV_block ?_ | refine WV_ops ?_ | refine WV_skip ?_ | refine WV_exit ?_); (try simp only [go_sem, init_env', Nat.reduceEqDiff, Nat.reduceAdd, Nat.reduceMul, reduceIte, Nat.reduceLeDiff, Nat.reduceLT, Nat.reduceBEq, reduceCtorEq, hP, ]); (repeat (refine And.intro (by first | omega | (intros; simp_all; done) | (intros; simp_all; omega)) ?_))))
    (refine WV_cond rfl (fun h => ?_) (fun h => ?_))
    · (repeat ((first | refine WV_seq_ ?_ | refine WV_block ?_ | refine WV_ops ?_ | refine WV_skip ?_ | refine WV_exit ?_); (try simp only [go_sem, init_env', Nat.reduceEqDiff, Nat.reduceAdd, Nat.reduceMul, reduceIte, Nat.reduceLeDiff, Nat.reduceLT, Nat.reduceBEq, reduceCtorEq, hP, ]); (repeat (refine And.intro (by first | omega | (intros; simp_all; done) | (intros; simp_all; omega)) ?_))))
      (refine WV_ret ?_; simp only [thenQ, inQ, RetQF, RetOkF, resAll, resA]; simp only [go_sem, init_env', Nat.reduceEqDiff, Nat.reduceAdd, Nat.reduceMul, reduceIte, Nat.reduceLeDiff, Nat.reduceLT, Nat.reduceBEq, reduceCtorEq, tupA, AV.fport, AV.fportL, CD.scal, exists_eq_left', ]; refine And.intro (by ((repeat' (first | exact NoWin_o0 | refine NoWin_upd (fun cs h => by cases h) ?_)))) ?_)
      exact AVle.nil 1
    · (repeat ((first | refine WV_seq_ ?_ | refine WV_block ?_ | refine WV_ops ?_ | refine WV_skip ?_ | refine WV_exit ?_); (try simp only [go_sem, init_env', Nat.reduceEqDiff, Nat.reduceAdd, Nat.reduceMul, reduceIte, Nat.reduceLeDiff, Nat.reduceLT, Nat.reduceBEq, reduceCtorEq, hP, ]); (repeat (refine And.intro (by first | omega | (intros; simp_all; done) | (intros; simp_all; omega)) ?_))))
      (refine WV_ret ?_; simp only [thenQ, inQ, RetQF, RetOkF, resAll, resA]; simp only [go_sem, init_env', Nat.reduceEqDiff, Nat.reduceAdd, Nat.reduceMul, reduceIte, Nat.reduceLeDiff, Nat.reduceLT, Nat.reduceBEq, reduceCtorEq, tupA, AV.fport, AV.fportL, CD.scal, exists_eq_left', ]; refine And.intro (by ((repeat' (first | exact NoWin_o0 | refine NoWin_upd (fun cs h => by cases h) ?_)))) ?_; (first | exact AVle.of rfl | refine AVle.of ?_ | skip))
  | cons a l =>
    simp only [List.length_cons] at hlen
    have hp := ncds_one (a :: l)
    have hs := ncd_scal (a :: l)
    simp only [List.map_cons] at hp hs
    (repeat ((first | refine WV_seq_ ?_ | refine WV_block ?_ | refine WV_ops ?_ | refine WV_skip ?_ | refine WV_exit ?_); (try simp only [go_sem, init_env', Nat.reduceEqDiff, Nat.reduceAdd, Nat.reduceMul, reduceIte, Nat.reduceLeDiff, Nat.reduceLT, Nat.reduceBEq, reduceCtorEq, hP, ]); (repeat (refine And.intro (by first | omega | (intros; simp_all; done) | (intros; simp_all; omega)) ?_))))
    (refine WV_cond rfl (fun h => ?_) (fun h => ?_))
    · cases h
    · (repeat ((first | refine WV_seq_ ?_ | refine WV_block ?_ | refine WV_ops ?_ | refine WV_skip ?_ | refine WV_exit ?_); (try simp only [go_sem, init_env', Nat.reduceEqDiff, Nat.reduceAdd, Nat.reduceMul, reduceIte, Nat.reduceLeDiff, Nat.reduceLT, Nat.reduceBEq, reduceCtorEq, hP, hp, List.length_cons]); (repeat (refine And.intro (by first | omega | (intros; simp_all; done) | (intros; simp_all; omega)) ?_))))
      (refine WV_ret ?_; simp only [thenQ, inQ, RetQF, RetOkF, resAll, resA]; simp only [go_sem, init_env', Nat.reduceEqDiff, Nat.reduceAdd, Nat.reduceMul, reduceIte, Nat.reduceLeDiff, Nat.reduceLT, Nat.reduceBEq, reduceCtorEq, tupA, AV.fport, AV.fportL, CD.scal, exists_eq_left', hs]; refine And.intro (by ((repeat' (first | exact NoWin_o0 | refine NoWin_upd (fun cs h => by cases h) ?_)))) ?_)
      exact AVle.refl _

/-- The first k ones are other ones. -/
def mapK {α : Type} (g : α → α) (l : List α) (k : Nat) : List α := (l.take k).map g ++ l.drop k
theorem mapK_len {α : Type} (g : α → α) (l : List α) (k : Nat) : (mapK g l k).length = l.length := by simp [mapK]; omega
theorem mapK_zero {α : Type} (g : α → α) (l : List α) : mapK g l 0 = l := by simp [mapK]
theorem mapK_all {α : Type} (g : α → α) (l : List α) : mapK g l l.length = l.map g := by simp [mapK]
theorem mapK_get {α : Type} {g : α → α} {l : List α} {k : Nat} (h : k < l.length) (h' : k < (mapK g l k).length) : (mapK g l k)[k] = l[k] := by
  have hl : ((l.take k).map g).length = k := by simp; omega
  have h2 : (mapK g l k)[k]? = some l[k] := by
    unfold mapK
    rw [List.getElem?_append_right (by rw [hl]; exact Nat.le_refl _), hl, Nat.sub_self, List.getElem?_drop, Nat.add_zero, List.getElem?_eq_getElem h]
  exact (List.getElem?_eq_some_iff.1 h2).2
theorem mapK_set {α : Type} {g : α → α} {l : List α} {k : Nat} (h : k < l.length) : (mapK g l k).set k (g l[k]) = mapK g l (k + 1) := by
  have hl : ((l.take k).map g).length = k := by simp; omega
  unfold mapK
  rw [List.set_append_right _ _ (by rw [hl]; exact Nat.le_refl _), hl, Nat.sub_self, List.drop_eq_getElem_cons h, List.set_cons_zero, List.take_succ_eq_append_getElem h, List.map_append]
  simp
def recsT (t : Tray) (o : List Nat) (k : Nat) : List Rec := (o.take k).map t.rc
theorem recsT_succ (t : Tray) {o : List Nat} {k : Nat} (h : k < o.length) : recsT t o (k + 1) = recsT t o k ++ [t.rc o[k]] := by
  unfold recsT; rw [List.take_succ_eq_append_getElem h, List.map_append]; rfl
theorem recsT_all (t : Tray) (o : List Nat) : recsT t o o.length = o.map t.rc := by unfold recsT; rw [List.take_length]
theorem recsT_len (t : Tray) (o : List Nat) (k : Nat) : (recsT t o k).length ≤ k := by unfold recsT; rw [List.length_map, List.length_take]; omega

set_option maxRecDepth 20000 in
set_option maxHeartbeats 8000000 in
theorem arranged78 {t : Tray} (ht : TrayOk t) {o : List Nat} (ho : IsOrd t.n o) : FSpecF Try.prog 78 [t.av, .c (natsC o)] (arrT t o).av := by
  have hmax : maxLen = 9223372036854775807 := rfl
  have hn6 := ht.n6
  have hol := ho.len
  have h13 := ht.p13
  refine FSpecF_of c78 (Nat.le_refl _) (by decide) fun C hP hN hC hL => ?_
  simp only [ir78, Tray.av]
  (repeat ((first | refine WV_seq_ ?_ | refine WV_block ?_ | refine WV_ops ?_ | refine WV_skip ?_ | refine WV_exit ?_); (try simp only [go_sem, init_env', Nat.reduceEqDiff, Nat.reduceAdd, Nat.reduceMul, reduceIte, Nat.reduceLeDiff, Nat.reduceLT, Nat.reduceBEq, reduceCtorEq, hP, ]); (repeat (refine And.intro (by first | omega | (intros; simp_all; done) | (intros; simp_all; omega)) ?_))))
  by_cases hpn : t.pres = []
  · refine AS_new (cloneG56 t.pres (by omega)) rfl rfl rfl rfl ?_
    rintro res os (⟨rfl, rfl⟩ | ⟨-, rfl, rfl⟩)
    · refine ⟨[900], .gr 900, [.grow 27 2 (t.pres.map Pr.cds)], by decide, rfl, by simp only [go_sem, init_env', Nat.reduceEqDiff, Nat.reduceAdd, Nat.reduceMul, reduceIte, Nat.reduceLeDiff, Nat.reduceLT, Nat.reduceBEq, reduceCtorEq, decide_true], rfl, rfl, ?_⟩
      rw [hpn]
      simp only [go_sem, init_env', Nat.reduceEqDiff, Nat.reduceAdd, Nat.reduceMul, reduceIte, Nat.reduceLeDiff, Nat.reduceLT, Nat.reduceBEq, reduceCtorEq, hP, ownBack, List.map_nil]
      (repeat (refine And.intro (by first | omega | (intros; simp_all; done) | (intros; simp_all; omega)) ?_))
      refine WV_nilbox 5 0 30 56 2 (by decide) (by decide) (by decide) rfl rfl rfl ?_
      simp only [go_sem, init_env', Nat.reduceEqDiff, Nat.reduceAdd, Nat.reduceMul, reduceIte, Nat.reduceLeDiff, Nat.reduceLT, Nat.reduceBEq, reduceCtorEq]
      (repeat ((first | refine WV_seq_ ?_ | refine WV_block ?_ | refine WV_ops ?_ | refine WV_skip ?_ | refine WV_exit ?_); (try simp only [go_sem, init_env', Nat.reduceEqDiff, Nat.reduceAdd, Nat.reduceMul, reduceIte, Nat.reduceLeDiff, Nat.reduceLT, Nat.reduceBEq, reduceCtorEq, hP, natsC, List.length_map]); (repeat (refine And.intro (by first | omega | (intros; simp_all; done) | (intros; simp_all; omega)) ?_))))
      refine WV_loopK K78_1 [5, 29, 30] (fun k : Nat => k ≤ o.length) (fun k => o.length - k) (fun k => [(18, iv k)]) (fun k => [(5, .box [.gr 30, iv t.at_, iv t.way, iv t.step, .gr 900]), (30, .grow 56 2 ((recsT t o k).map Rec.cds))]) 0 (Nat.zero_le _) ?_ ?_
      · (refine Sub_of (by simp only [go_sem, init_env', Nat.reduceEqDiff, Nat.reduceAdd, Nat.reduceMul, reduceIte, Nat.reduceLeDiff, Nat.reduceLT, Nat.reduceBEq, reduceCtorEq]; ((repeat' (first | exact EnvLe_e0 _ _ | refine EnvLe_upd ?_ ?_)) <;> ((try simp only [upd_app, e0_app, o0_app, Nat.reduceEqDiff, reduceIte]); first | exact AWk.refl _ _ | exact AWk.int (by omega) | exact AWk.int (by rw [w64 (by omega) (by omega)]; omega) | exact AWk.grow rfl | exact AWk.nil _ | exact AWk.of (by simp)))) (by simp only [go_sem, init_env', Nat.reduceEqDiff, Nat.reduceAdd, Nat.reduceMul, reduceIte, Nat.reduceLeDiff, Nat.reduceLT, Nat.reduceBEq, reduceCtorEq]; ((repeat' (first | exact ObjLe_o0 _ | exact ObjLe.rfl' _ | refine ObjLe_same ?_ | refine ObjLe_upd ?_ ?_ | refine ObjLe_new rfl ?_)) <;> rfl)))
      · intro k hk
        simp only [go_sem, init_env', Nat.reduceEqDiff, Nat.reduceAdd, Nat.reduceMul, reduceIte, Nat.reduceLeDiff, Nat.reduceLT, Nat.reduceBEq, reduceCtorEq]
        (repeat ((first | refine WV_seq_ ?_ | refine WV_block ?_ | refine WV_ops ?_ | refine WV_skip ?_ | refine WV_exit ?_); (try simp only [go_sem, init_env', Nat.reduceEqDiff, Nat.reduceAdd, Nat.reduceMul, reduceIte, Nat.reduceLeDiff, Nat.reduceLT, Nat.reduceBEq, reduceCtorEq, hP, ]); (repeat (refine And.intro (by first | omega | (intros; simp_all; done) | (intros; simp_all; omega)) ?_))))
        (refine WV_cond rfl (fun h => ?_) (fun h => ?_))
        · have hkl : k < o.length := by simpa using h
          have hI : (k : Int) < (o.length : Int) := by omega
          have hw := w64 (n := (k : Int) + 1) (by omega) (by omega)
          have hlt := ho.lt (List.getElem_mem hkl)
          have hlt' : o[k] < t.recs.length := hlt
          have hI2 : ((o[k] : Nat) : Int) < (t.recs.length : Int) := by omega
          have hrc : t.rc o[k] = t.recs[o[k]] := by unfold Tray.rc; simp [hlt']
          have hsu := recsT_succ t hkl
          have hrl := recsT_len t o k
          have e9 : (recsT t o k).map Rec.cds ++ [[CD.int .i64 t.recs[o[k]].front, CD.int .i64 t.recs[o[k]].back]] = (recsT t o (k + 1)).map Rec.cds := by rw [hsu, hrc, List.map_append]; rfl
          (repeat ((first | refine WV_seq_ ?_ | refine WV_block ?_ | refine WV_ops ?_ | refine WV_skip ?_ | refine WV_exit ?_); (try simp only [go_sem, init_env', Nat.reduceEqDiff, Nat.reduceAdd, Nat.reduceMul, reduceIte, Nat.reduceLeDiff, Nat.reduceLT, Nat.reduceBEq, reduceCtorEq, hP, map_getD hkl, hI, Int.natCast_nonneg, ncd, recsC, List.length_map, map_getD hlt', hI2, Rec.cds, recs_two, hw, e9]); (repeat (refine And.intro (by first | omega | (intros; simp_all; done) | (intros; simp_all; omega)) ?_))))
          refine ⟨k + 1, by omega, by omega, ?_⟩
          (refine Sub_of (by simp only [go_sem, init_env', Nat.reduceEqDiff, Nat.reduceAdd, Nat.reduceMul, reduceIte, Nat.reduceLeDiff, Nat.reduceLT, Nat.reduceBEq, reduceCtorEq]; ((repeat' (first | exact EnvLe_e0 _ _ | refine EnvLe_upd ?_ ?_)) <;> ((try simp only [upd_app, e0_app, o0_app, Nat.reduceEqDiff, reduceIte]); first | exact AWk.refl _ _ | exact AWk.int (by omega) | exact AWk.int (by rw [w64 (by omega) (by omega)]; omega) | exact AWk.grow rfl | exact AWk.nil _ | exact AWk.of (by simp)))) (by simp only [go_sem, init_env', Nat.reduceEqDiff, Nat.reduceAdd, Nat.reduceMul, reduceIte, Nat.reduceLeDiff, Nat.reduceLT, Nat.reduceBEq, reduceCtorEq]; ((repeat' (first | exact ObjLe_o0 _ | exact ObjLe.rfl' _ | refine ObjLe_same ?_ | refine ObjLe_upd ?_ ?_ | refine ObjLe_new rfl ?_)) <;> rfl)))
        · have h : k = o.length := by simp at h; omega
          subst h
          rw [recsT_all]
          (refine WV_exit ?_; simp only [go_sem, init_env', Nat.reduceEqDiff, Nat.reduceAdd, Nat.reduceMul, reduceIte, Nat.reduceLeDiff, Nat.reduceLT, Nat.reduceBEq, reduceCtorEq])
          (repeat ((first | refine WV_seq_ ?_ | refine WV_block ?_ | refine WV_ops ?_ | refine WV_skip ?_ | refine WV_exit ?_); (try simp only [go_sem, init_env', Nat.reduceEqDiff, Nat.reduceAdd, Nat.reduceMul, reduceIte, Nat.reduceLeDiff, Nat.reduceLT, Nat.reduceBEq, reduceCtorEq, hP, List.length_nil, Int.natCast_zero]); (repeat (refine And.intro (by first | omega | (intros; simp_all; done) | (intros; simp_all; omega)) ?_))))
          refine WV_loopK K78_2 [] (fun _ : Unit => True) (fun _ => 0) (fun _ => [(36, iv 0)]) (fun _ => []) () trivial ?_ ?_
          · (refine Sub_of (by simp only [go_sem, init_env', Nat.reduceEqDiff, Nat.reduceAdd, Nat.reduceMul, reduceIte, Nat.reduceLeDiff, Nat.reduceLT, Nat.reduceBEq, reduceCtorEq]; ((repeat' (first | exact EnvLe_e0 _ _ | refine EnvLe_upd ?_ ?_)) <;> ((try simp only [upd_app, e0_app, o0_app, Nat.reduceEqDiff, reduceIte]); first | exact AWk.refl _ _ | exact AWk.int (by omega) | exact AWk.int (by rw [w64 (by omega) (by omega)]; omega) | exact AWk.grow rfl | exact AWk.nil _ | exact AWk.of (by simp)))) (by simp only [go_sem, init_env', Nat.reduceEqDiff, Nat.reduceAdd, Nat.reduceMul, reduceIte, Nat.reduceLeDiff, Nat.reduceLT, Nat.reduceBEq, reduceCtorEq]; ((repeat' (first | exact ObjLe_o0 _ | exact ObjLe.rfl' _ | refine ObjLe_same ?_ | refine ObjLe_upd ?_ ?_ | refine ObjLe_new rfl ?_)) <;> rfl)))
          · rintro - -
            simp only [go_sem, init_env', Nat.reduceEqDiff, Nat.reduceAdd, Nat.reduceMul, reduceIte, Nat.reduceLeDiff, Nat.reduceLT, Nat.reduceBEq, reduceCtorEq]
            (repeat ((first | refine WV_seq_ ?_ | refine WV_block ?_ | refine WV_ops ?_ | refine WV_skip ?_ | refine WV_exit ?_); (try simp only [go_sem, init_env', Nat.reduceEqDiff, Nat.reduceAdd, Nat.reduceMul, reduceIte, Nat.reduceLeDiff, Nat.reduceLT, Nat.reduceBEq, reduceCtorEq, hP, ]); (repeat (refine And.intro (by first | omega | (intros; simp_all; done) | (intros; simp_all; omega)) ?_))))
            (refine WV_cond rfl (fun h => ?_) (fun h => ?_))
            · simp at h
            · (refine WV_exit ?_; simp only [go_sem, init_env', Nat.reduceEqDiff, Nat.reduceAdd, Nat.reduceMul, reduceIte, Nat.reduceLeDiff, Nat.reduceLT, Nat.reduceBEq, reduceCtorEq])
              (repeat ((first | refine WV_seq_ ?_ | refine WV_block ?_ | refine WV_ops ?_ | refine WV_skip ?_ | refine WV_exit ?_); (try simp only [go_sem, init_env', Nat.reduceEqDiff, Nat.reduceAdd, Nat.reduceMul, reduceIte, Nat.reduceLeDiff, Nat.reduceLT, Nat.reduceBEq, reduceCtorEq, hP, ]); (repeat (refine And.intro (by first | omega | (intros; simp_all; done) | (intros; simp_all; omega)) ?_))))
              have hrs := recs_scal (o.map t.rc)
              have hav : (arrT t o).av = .agg [.c (.sl 2 ((o.map t.rc).map Rec.cds)), iv t.at_, iv t.way, iv t.step, .c (.sl 2 [])] := by simp [Tray.av, arrT, hpn, recsC, prsC]
              (refine WV_ret ?_; simp only [thenQ, inQ, RetQF, RetOkF, resAll, resA]; simp only [go_sem, init_env', Nat.reduceEqDiff, Nat.reduceAdd, Nat.reduceMul, reduceIte, Nat.reduceLeDiff, Nat.reduceLT, Nat.reduceBEq, reduceCtorEq, tupA, AV.fport, AV.fportL, CD.scal, exists_eq_left', hrs]; refine And.intro (by ((repeat' (first | exact NoWin_o0 | refine NoWin_upd (fun cs h => by cases h) ?_)))) ?_)
              exact AVle.agg (AVles.cons (AVle.refl _) (AVles.cons (AVle.refl _) (AVles.cons (AVle.refl _) (AVles.cons (AVle.refl _) (AVles.cons (AVle.of (by simp [arrT, hpn, prsC])) (AVles.refl _))))))
    · refine ⟨[], .c (.raw (.slice none 0 0)), [], by decide, rfl, by simp only [go_sem, init_env', Nat.reduceEqDiff, Nat.reduceAdd, Nat.reduceMul, reduceIte, Nat.reduceLeDiff, Nat.reduceLT, Nat.reduceBEq, reduceCtorEq, decide_true], rfl, rfl, ?_⟩
      simp only [go_sem, init_env', Nat.reduceEqDiff, Nat.reduceAdd, Nat.reduceMul, reduceIte, Nat.reduceLeDiff, Nat.reduceLT, Nat.reduceBEq, reduceCtorEq, hP, ownBack]
      (repeat (refine And.intro (by first | omega | (intros; simp_all; done) | (intros; simp_all; omega)) ?_))
      refine WV_nilbox 5 0 30 56 2 (by decide) (by decide) (by decide) rfl rfl rfl ?_
      simp only [go_sem, init_env', Nat.reduceEqDiff, Nat.reduceAdd, Nat.reduceMul, reduceIte, Nat.reduceLeDiff, Nat.reduceLT, Nat.reduceBEq, reduceCtorEq]
      (repeat ((first | refine WV_seq_ ?_ | refine WV_block ?_ | refine WV_ops ?_ | refine WV_skip ?_ | refine WV_exit ?_); (try simp only [go_sem, init_env', Nat.reduceEqDiff, Nat.reduceAdd, Nat.reduceMul, reduceIte, Nat.reduceLeDiff, Nat.reduceLT, Nat.reduceBEq, reduceCtorEq, hP, natsC, List.length_map]); (repeat (refine And.intro (by first | omega | (intros; simp_all; done) | (intros; simp_all; omega)) ?_))))
      refine WV_loopK K78_1 [5, 29, 30] (fun k : Nat => k ≤ o.length) (fun k => o.length - k) (fun k => [(18, iv k)]) (fun k => [(5, .box [.gr 30, iv t.at_, iv t.way, iv t.step, .c (.raw (.slice none 0 0))]), (30, .grow 56 2 ((recsT t o k).map Rec.cds))]) 0 (Nat.zero_le _) ?_ ?_
      · (refine Sub_of (by simp only [go_sem, init_env', Nat.reduceEqDiff, Nat.reduceAdd, Nat.reduceMul, reduceIte, Nat.reduceLeDiff, Nat.reduceLT, Nat.reduceBEq, reduceCtorEq]; ((repeat' (first | exact EnvLe_e0 _ _ | refine EnvLe_upd ?_ ?_)) <;> ((try simp only [upd_app, e0_app, o0_app, Nat.reduceEqDiff, reduceIte]); first | exact AWk.refl _ _ | exact AWk.int (by omega) | exact AWk.int (by rw [w64 (by omega) (by omega)]; omega) | exact AWk.grow rfl | exact AWk.nil _ | exact AWk.of (by simp)))) (by simp only [go_sem, init_env', Nat.reduceEqDiff, Nat.reduceAdd, Nat.reduceMul, reduceIte, Nat.reduceLeDiff, Nat.reduceLT, Nat.reduceBEq, reduceCtorEq]; ((repeat' (first | exact ObjLe_o0 _ | exact ObjLe.rfl' _ | refine ObjLe_same ?_ | refine ObjLe_upd ?_ ?_ | refine ObjLe_new rfl ?_)) <;> rfl)))
      · intro k hk
        simp only [go_sem, init_env', Nat.reduceEqDiff, Nat.reduceAdd, Nat.reduceMul, reduceIte, Nat.reduceLeDiff, Nat.reduceLT, Nat.reduceBEq, reduceCtorEq]
        (repeat ((first | refine WV_seq_ ?_ | refine WV_block ?_ | refine WV_ops ?_ | refine WV_skip ?_ | refine WV_exit ?_); (try simp only [go_sem, init_env', Nat.reduceEqDiff, Nat.reduceAdd, Nat.reduceMul, reduceIte, Nat.reduceLeDiff, Nat.reduceLT, Nat.reduceBEq, reduceCtorEq, hP, ]); (repeat (refine And.intro (by first | omega | (intros; simp_all; done) | (intros; simp_all; omega)) ?_))))
        (refine WV_cond rfl (fun h => ?_) (fun h => ?_))
        · have hkl : k < o.length := by simpa using h
          have hI : (k : Int) < (o.length : Int) := by omega
          have hw := w64 (n := (k : Int) + 1) (by omega) (by omega)
          have hlt := ho.lt (List.getElem_mem hkl)
          have hlt' : o[k] < t.recs.length := hlt
          have hI2 : ((o[k] : Nat) : Int) < (t.recs.length : Int) := by omega
          have hrc : t.rc o[k] = t.recs[o[k]] := by unfold Tray.rc; simp [hlt']
          have hsu := recsT_succ t hkl
          have hrl := recsT_len t o k
          have e9 : (recsT t o k).map Rec.cds ++ [[CD.int .i64 t.recs[o[k]].front, CD.int .i64 t.recs[o[k]].back]] = (recsT t o (k + 1)).map Rec.cds := by rw [hsu, hrc, List.map_append]; rfl
          (repeat ((first | refine WV_seq_ ?_ | refine WV_block ?_ | refine WV_ops ?_ | refine WV_skip ?_ | refine WV_exit ?_); (try simp only [go_sem, init_env', Nat.reduceEqDiff, Nat.reduceAdd, Nat.reduceMul, reduceIte, Nat.reduceLeDiff, Nat.reduceLT, Nat.reduceBEq, reduceCtorEq, hP, map_getD hkl, hI, Int.natCast_nonneg, ncd, recsC, List.length_map, map_getD hlt', hI2, Rec.cds, recs_two, hw, e9]); (repeat (refine And.intro (by first | omega | (intros; simp_all; done) | (intros; simp_all; omega)) ?_))))
          refine ⟨k + 1, by omega, by omega, ?_⟩
          (refine Sub_of (by simp only [go_sem, init_env', Nat.reduceEqDiff, Nat.reduceAdd, Nat.reduceMul, reduceIte, Nat.reduceLeDiff, Nat.reduceLT, Nat.reduceBEq, reduceCtorEq]; ((repeat' (first | exact EnvLe_e0 _ _ | refine EnvLe_upd ?_ ?_)) <;> ((try simp only [upd_app, e0_app, o0_app, Nat.reduceEqDiff, reduceIte]); first | exact AWk.refl _ _ | exact AWk.int (by omega) | exact AWk.int (by rw [w64 (by omega) (by omega)]; omega) | exact AWk.grow rfl | exact AWk.nil _ | exact AWk.of (by simp)))) (by simp only [go_sem, init_env', Nat.reduceEqDiff, Nat.reduceAdd, Nat.reduceMul, reduceIte, Nat.reduceLeDiff, Nat.reduceLT, Nat.reduceBEq, reduceCtorEq]; ((repeat' (first | exact ObjLe_o0 _ | exact ObjLe.rfl' _ | refine ObjLe_same ?_ | refine ObjLe_upd ?_ ?_ | refine ObjLe_new rfl ?_)) <;> rfl)))
        · have h : k = o.length := by simp at h; omega
          subst h
          rw [recsT_all]
          (refine WV_exit ?_; simp only [go_sem, init_env', Nat.reduceEqDiff, Nat.reduceAdd, Nat.reduceMul, reduceIte, Nat.reduceLeDiff, Nat.reduceLT, Nat.reduceBEq, reduceCtorEq])
          (repeat ((first | refine WV_seq_ ?_ | refine WV_block ?_ | refine WV_ops ?_ | refine WV_skip ?_ | refine WV_exit ?_); (try simp only [go_sem, init_env', Nat.reduceEqDiff, Nat.reduceAdd, Nat.reduceMul, reduceIte, Nat.reduceLeDiff, Nat.reduceLT, Nat.reduceBEq, reduceCtorEq, hP, List.length_nil, Int.natCast_zero]); (repeat (refine And.intro (by first | omega | (intros; simp_all; done) | (intros; simp_all; omega)) ?_))))
          refine WV_loopK K78_2 [] (fun _ : Unit => True) (fun _ => 0) (fun _ => [(36, iv 0)]) (fun _ => []) () trivial ?_ ?_
          · (refine Sub_of (by simp only [go_sem, init_env', Nat.reduceEqDiff, Nat.reduceAdd, Nat.reduceMul, reduceIte, Nat.reduceLeDiff, Nat.reduceLT, Nat.reduceBEq, reduceCtorEq]; ((repeat' (first | exact EnvLe_e0 _ _ | refine EnvLe_upd ?_ ?_)) <;> ((try simp only [upd_app, e0_app, o0_app, Nat.reduceEqDiff, reduceIte]); first | exact AWk.refl _ _ | exact AWk.int (by omega) | exact AWk.int (by rw [w64 (by omega) (by omega)]; omega) | exact AWk.grow rfl | exact AWk.nil _ | exact AWk.of (by simp)))) (by simp only [go_sem, init_env', Nat.reduceEqDiff, Nat.reduceAdd, Nat.reduceMul, reduceIte, Nat.reduceLeDiff, Nat.reduceLT, Nat.reduceBEq, reduceCtorEq]; ((repeat' (first | exact ObjLe_o0 _ | exact ObjLe.rfl' _ | refine ObjLe_same ?_ | refine ObjLe_upd ?_ ?_ | refine ObjLe_new rfl ?_)) <;> rfl)))
          · rintro - -
            simp only [go_sem, init_env', Nat.reduceEqDiff, Nat.reduceAdd, Nat.reduceMul, reduceIte, Nat.reduceLeDiff, Nat.reduceLT, Nat.reduceBEq, reduceCtorEq]
            (repeat ((first | refine WV_seq_ ?_ | refine WV_block ?_ | refine WV_ops ?_ | refine WV_skip ?_ | refine WV_exit ?_); (try simp only [go_sem, init_env', Nat.reduceEqDiff, Nat.reduceAdd, Nat.reduceMul, reduceIte, Nat.reduceLeDiff, Nat.reduceLT, Nat.reduceBEq, reduceCtorEq, hP, ]); (repeat (refine And.intro (by first | omega | (intros; simp_all; done) | (intros; simp_all; omega)) ?_))))
            (refine WV_cond rfl (fun h => ?_) (fun h => ?_))
            · simp at h
            · (refine WV_exit ?_; simp only [go_sem, init_env', Nat.reduceEqDiff, Nat.reduceAdd, Nat.reduceMul, reduceIte, Nat.reduceLeDiff, Nat.reduceLT, Nat.reduceBEq, reduceCtorEq])
              (repeat ((first | refine WV_seq_ ?_ | refine WV_block ?_ | refine WV_ops ?_ | refine WV_skip ?_ | refine WV_exit ?_); (try simp only [go_sem, init_env', Nat.reduceEqDiff, Nat.reduceAdd, Nat.reduceMul, reduceIte, Nat.reduceLeDiff, Nat.reduceLT, Nat.reduceBEq, reduceCtorEq, hP, ]); (repeat (refine And.intro (by first | omega | (intros; simp_all; done) | (intros; simp_all; omega)) ?_))))
              have hrs := recs_scal (o.map t.rc)
              have hav : (arrT t o).av = .agg [.c (.sl 2 ((o.map t.rc).map Rec.cds)), iv t.at_, iv t.way, iv t.step, .c (.sl 2 [])] := by simp [Tray.av, arrT, hpn, recsC, prsC]
              (refine WV_ret ?_; simp only [thenQ, inQ, RetQF, RetOkF, resAll, resA]; simp only [go_sem, init_env', Nat.reduceEqDiff, Nat.reduceAdd, Nat.reduceMul, reduceIte, Nat.reduceLeDiff, Nat.reduceLT, Nat.reduceBEq, reduceCtorEq, tupA, AV.fport, AV.fportL, CD.scal, exists_eq_left', hrs]; refine And.intro (by ((repeat' (first | exact NoWin_o0 | refine NoWin_upd (fun cs h => by cases h) ?_)))) ?_)
              exact AVle.agg (AVles.cons (AVle.refl _) (AVles.cons (AVle.refl _) (AVles.cons (AVle.refl _) (AVles.cons (AVle.refl _) (AVles.cons (by rw [show (arrT t o).pres = [] by simp [arrT, hpn]]; exact AVle.nil 2) (AVles.refl _))))))
  · refine AS_new (cloneN56 t.pres (by omega) hpn) rfl rfl rfl rfl ?_
    rintro res os ⟨cap, J, h1, h2, h3, rfl, rfl⟩
    refine ⟨[900], .vw 2 900 0 t.pres.length cap, [.box (cellsG Pr.cds t.pres J)], by decide, rfl, by simp only [go_sem, init_env', Nat.reduceEqDiff, Nat.reduceAdd, Nat.reduceMul, reduceIte, Nat.reduceLeDiff, Nat.reduceLT, Nat.reduceBEq, reduceCtorEq, decide_true], rfl, (by simp only [obsBack, Ob.back, back_cellsG]; rfl), ?_⟩
    simp only [go_sem, init_env', Nat.reduceEqDiff, Nat.reduceAdd, Nat.reduceMul, reduceIte, Nat.reduceLeDiff, Nat.reduceLT, Nat.reduceBEq, reduceCtorEq, hP, ownBack]
    (repeat (refine And.intro (by first | omega | (intros; simp_all; done) | (intros; simp_all; omega)) ?_))
    refine WV_nilbox 5 0 30 56 2 (by decide) (by decide) (by decide) rfl rfl rfl ?_
    simp only [go_sem, init_env', Nat.reduceEqDiff, Nat.reduceAdd, Nat.reduceMul, reduceIte, Nat.reduceLeDiff, Nat.reduceLT, Nat.reduceBEq, reduceCtorEq]
    (repeat ((first | refine WV_seq_ ?_ | refine WV_block ?_ | refine WV_ops ?_ | refine WV_skip ?_ | refine WV_exit ?_); (try simp only [go_sem, init_env', Nat.reduceEqDiff, Nat.reduceAdd, Nat.reduceMul, reduceIte, Nat.reduceLeDiff, Nat.reduceLT, Nat.reduceBEq, reduceCtorEq, hP, natsC, List.length_map]); (repeat (refine And.intro (by first | omega | (intros; simp_all; done) | (intros; simp_all; omega)) ?_))))
    refine WV_loopK K78_1 [5, 29, 30] (fun k : Nat => k ≤ o.length) (fun k => o.length - k) (fun k => [(18, iv k)]) (fun k => [(5, .box [.gr 30, iv t.at_, iv t.way, iv t.step, .vw 2 900 0 t.pres.length cap]), (30, .grow 56 2 ((recsT t o k).map Rec.cds))]) 0 (Nat.zero_le _) ?_ ?_
    · (refine Sub_of (by simp only [go_sem, init_env', Nat.reduceEqDiff, Nat.reduceAdd, Nat.reduceMul, reduceIte, Nat.reduceLeDiff, Nat.reduceLT, Nat.reduceBEq, reduceCtorEq]; ((repeat' (first | exact EnvLe_e0 _ _ | refine EnvLe_upd ?_ ?_)) <;> ((try simp only [upd_app, e0_app, o0_app, Nat.reduceEqDiff, reduceIte]); first | exact AWk.refl _ _ | exact AWk.int (by omega) | exact AWk.int (by rw [w64 (by omega) (by omega)]; omega) | exact AWk.grow rfl | exact AWk.nil _ | exact AWk.of (by simp)))) (by simp only [go_sem, init_env', Nat.reduceEqDiff, Nat.reduceAdd, Nat.reduceMul, reduceIte, Nat.reduceLeDiff, Nat.reduceLT, Nat.reduceBEq, reduceCtorEq]; ((repeat' (first | exact ObjLe_o0 _ | exact ObjLe.rfl' _ | refine ObjLe_same ?_ | refine ObjLe_upd ?_ ?_ | refine ObjLe_new rfl ?_)) <;> rfl)))
    · intro k hk
      simp only [go_sem, init_env', Nat.reduceEqDiff, Nat.reduceAdd, Nat.reduceMul, reduceIte, Nat.reduceLeDiff, Nat.reduceLT, Nat.reduceBEq, reduceCtorEq]
      (repeat ((first | refine WV_seq_ ?_ | refine WV_block ?_ | refine WV_ops ?_ | refine WV_skip ?_ | refine WV_exit ?_); (try simp only [go_sem, init_env', Nat.reduceEqDiff, Nat.reduceAdd, Nat.reduceMul, reduceIte, Nat.reduceLeDiff, Nat.reduceLT, Nat.reduceBEq, reduceCtorEq, hP, ]); (repeat (refine And.intro (by first | omega | (intros; simp_all; done) | (intros; simp_all; omega)) ?_))))
      (refine WV_cond rfl (fun h => ?_) (fun h => ?_))
      · have hkl : k < o.length := by simpa using h
        have hI : (k : Int) < (o.length : Int) := by omega
        have hw := w64 (n := (k : Int) + 1) (by omega) (by omega)
        have hlt := ho.lt (List.getElem_mem hkl)
        have hlt' : o[k] < t.recs.length := hlt
        have hI2 : ((o[k] : Nat) : Int) < (t.recs.length : Int) := by omega
        have hrc : t.rc o[k] = t.recs[o[k]] := by unfold Tray.rc; simp [hlt']
        have hsu := recsT_succ t hkl
        have hrl := recsT_len t o k
        have e9 : (recsT t o k).map Rec.cds ++ [[CD.int .i64 t.recs[o[k]].front, CD.int .i64 t.recs[o[k]].back]] = (recsT t o (k + 1)).map Rec.cds := by rw [hsu, hrc, List.map_append]; rfl
        (repeat ((first | refine WV_seq_ ?_ | refine WV_block ?_ | refine WV_ops ?_ | refine WV_skip ?_ | refine WV_exit ?_); (try simp only [go_sem, init_env', Nat.reduceEqDiff, Nat.reduceAdd, Nat.reduceMul, reduceIte, Nat.reduceLeDiff, Nat.reduceLT, Nat.reduceBEq, reduceCtorEq, hP, map_getD hkl, hI, Int.natCast_nonneg, ncd, recsC, List.length_map, map_getD hlt', hI2, Rec.cds, recs_two, hw, e9]); (repeat (refine And.intro (by first | omega | (intros; simp_all; done) | (intros; simp_all; omega)) ?_))))
        refine ⟨k + 1, by omega, by omega, ?_⟩
        (refine Sub_of (by simp only [go_sem, init_env', Nat.reduceEqDiff, Nat.reduceAdd, Nat.reduceMul, reduceIte, Nat.reduceLeDiff, Nat.reduceLT, Nat.reduceBEq, reduceCtorEq]; ((repeat' (first | exact EnvLe_e0 _ _ | refine EnvLe_upd ?_ ?_)) <;> ((try simp only [upd_app, e0_app, o0_app, Nat.reduceEqDiff, reduceIte]); first | exact AWk.refl _ _ | exact AWk.int (by omega) | exact AWk.int (by rw [w64 (by omega) (by omega)]; omega) | exact AWk.grow rfl | exact AWk.nil _ | exact AWk.of (by simp)))) (by simp only [go_sem, init_env', Nat.reduceEqDiff, Nat.reduceAdd, Nat.reduceMul, reduceIte, Nat.reduceLeDiff, Nat.reduceLT, Nat.reduceBEq, reduceCtorEq]; ((repeat' (first | exact ObjLe_o0 _ | exact ObjLe.rfl' _ | refine ObjLe_same ?_ | refine ObjLe_upd ?_ ?_ | refine ObjLe_new rfl ?_)) <;> rfl)))
      · have h : k = o.length := by simp at h; omega
        subst h
        rw [recsT_all]
        (refine WV_exit ?_; simp only [go_sem, init_env', Nat.reduceEqDiff, Nat.reduceAdd, Nat.reduceMul, reduceIte, Nat.reduceLeDiff, Nat.reduceLT, Nat.reduceBEq, reduceCtorEq])
        (repeat ((first | refine WV_seq_ ?_ | refine WV_block ?_ | refine WV_ops ?_ | refine WV_skip ?_ | refine WV_exit ?_); (try simp only [go_sem, init_env', Nat.reduceEqDiff, Nat.reduceAdd, Nat.reduceMul, reduceIte, Nat.reduceLeDiff, Nat.reduceLT, Nat.reduceBEq, reduceCtorEq, hP, ]); (repeat (refine And.intro (by first | omega | (intros; simp_all; done) | (intros; simp_all; omega)) ?_))))
        refine WV_loopK K78_2 [5, 9, 900] (fun k : Nat => k ≤ t.pres.length) (fun k => t.pres.length - k) (fun k => [(36, iv k)]) (fun k => [(5, .box [.gr 30, iv t.at_, iv t.way, iv t.step, .vw 2 900 0 t.pres.length cap]), (900, .box (cellsG Pr.cds (mapK (arrP o) t.pres k) J))]) 0 (Nat.zero_le _) ?_ ?_
        · rw [mapK_zero]
          (refine Sub_of (by simp only [go_sem, init_env', Nat.reduceEqDiff, Nat.reduceAdd, Nat.reduceMul, reduceIte, Nat.reduceLeDiff, Nat.reduceLT, Nat.reduceBEq, reduceCtorEq]; ((repeat' (first | exact EnvLe_e0 _ _ | refine EnvLe_upd ?_ ?_)) <;> ((try simp only [upd_app, e0_app, o0_app, Nat.reduceEqDiff, reduceIte]); first | exact AWk.refl _ _ | exact AWk.int (by omega) | exact AWk.int (by rw [w64 (by omega) (by omega)]; omega) | exact AWk.grow rfl | exact AWk.nil _ | exact AWk.of (by simp)))) (by simp only [go_sem, init_env', Nat.reduceEqDiff, Nat.reduceAdd, Nat.reduceMul, reduceIte, Nat.reduceLeDiff, Nat.reduceLT, Nat.reduceBEq, reduceCtorEq]; ((repeat' (first | exact ObjLe_o0 _ | exact ObjLe.rfl' _ | refine ObjLe_same ?_ | refine ObjLe_upd ?_ ?_ | refine ObjLe_new rfl ?_)) <;> rfl)))
        · intro k hk
          have hml := mapK_len (arrP o) t.pres k
          simp only [go_sem, init_env', Nat.reduceEqDiff, Nat.reduceAdd, Nat.reduceMul, reduceIte, Nat.reduceLeDiff, Nat.reduceLT, Nat.reduceBEq, reduceCtorEq]
          (repeat ((first | refine WV_seq_ ?_ | refine WV_block ?_ | refine WV_ops ?_ | refine WV_skip ?_ | refine WV_exit ?_); (try simp only [go_sem, init_env', Nat.reduceEqDiff, Nat.reduceAdd, Nat.reduceMul, reduceIte, Nat.reduceLeDiff, Nat.reduceLT, Nat.reduceBEq, reduceCtorEq, hP, ]); (repeat (refine And.intro (by first | omega | (intros; simp_all; done) | (intros; simp_all; omega)) ?_))))
          (refine WV_cond rfl (fun h => ?_) (fun h => ?_))
          · have hkl : k < t.pres.length := by simpa using h
            have hI : (k : Int) < (t.pres.length : Int) := by omega
            have hw := w64 (n := (k : Int) + 1) (by omega) (by omega)
            have hlk : k < (mapK (arrP o) t.pres k).length := by omega
            have hge := cellsG_elem pr_two hlk J
            rw [mapK_get hkl hlk] at hge
            have hps := (ht.pres _ (List.getElem_mem hkl))
            have hidx := arrP_side ho hps.1
            have hix := index86 o (t.pres[k].side.toNat / 2) (by omega) (ho.mem hidx.2)
            have hset := cellsG_set pr_two hlk J 0 (by decide) (.int .i64 (2 * (o.idxOf (t.pres[k].side.toNat / 2) : Int) + t.pres[k].side % 2)) (arrP o t.pres[k]) (by rw [mapK_get hkl hlk]; rfl)
            rw [Nat.add_zero, mapK_set hkl] at hset
            have hcl : (cellsG Pr.cds (mapK (arrP o) t.pres k) J).length = t.pres.length * 2 + J := by rw [cellsG_len pr_two, hml]
            have hc1 : k * 2 < (cellsG Pr.cds (mapK (arrP o) t.pres k) J).length := by rw [hcl]; omega
            have hc2 : k * 2 + 1 ≤ (cellsG Pr.cds (mapK (arrP o) t.pres k) J).length := by rw [hcl]; omega
            have hc3 : k * 2 + 2 ≤ (cellsG Pr.cds (mapK (arrP o) t.pres k) J).length := by rw [hcl]; omega
            have hq1 : t.pres[k].side.tdiv 2 = ((t.pres[k].side.toNat / 2 : Nat) : Int) := by rw [Int.tdiv_eq_ediv_of_nonneg hps.1.1]; omega
            have hq2 : t.pres[k].side.tmod 2 = t.pres[k].side % 2 := Int.tmod_eq_emod_of_nonneg hps.1.1
            have hw1 := w64 (n := ((t.pres[k].side.toNat / 2 : Nat) : Int)) (by omega) (by omega)
            have hw2 := w64 (n := t.pres[k].side % 2) (by omega) (by omega)
            have hw3 := w64 (n := 2 * (o.idxOf (t.pres[k].side.toNat / 2) : Int)) (by omega) (by omega)
            have hw4 := w64 (n := 2 * (o.idxOf (t.pres[k].side.toNat / 2) : Int) + t.pres[k].side % 2) (by omega) (by omega)
            clear hidx
            generalize t.pres[k] = p at *
            generalize mapK (arrP o) t.pres k = M1 at *
            generalize hM2 : mapK (arrP o) t.pres (k + 1) = M2 at *
            generalize o.idxOf (p.side.toNat / 2) = I at *
            generalize p.side.toNat / 2 = m at *
            (repeat ((first | refine WV_seq_ ?_ | refine WV_block ?_ | refine WV_ops ?_ | refine WV_skip ?_ | refine WV_exit ?_); (try simp only [go_sem, init_env', Nat.reduceEqDiff, Nat.reduceAdd, Nat.reduceMul, reduceIte, Nat.reduceLeDiff, Nat.reduceLT, Nat.reduceBEq, reduceCtorEq, hP, hI, Int.natCast_nonneg, hge, hc3, Pr.cds, List.map_cons, List.map_nil, hq1, hw1]); (repeat (refine And.intro (by first | omega | (intros; simp_all; done) | (intros; simp_all; omega)) ?_))))
            refine ACall_of hix rfl rfl rfl rfl rfl ?_
            simp only [go_sem, init_env', Nat.reduceEqDiff, Nat.reduceAdd, Nat.reduceMul, reduceIte, Nat.reduceLeDiff, Nat.reduceLT, Nat.reduceBEq, reduceCtorEq, hP, hw3, hq2, hw2, hw4, hset, hc1, hc2, hI, Int.natCast_nonneg]
            (repeat (refine And.intro (by first | omega | (intros; simp_all; done) | (intros; simp_all; omega)) ?_))
            (repeat ((first | refine WV_seq_ ?_ | refine WV_block ?_ | refine WV_ops ?_ | refine WV_skip ?_ | refine WV_exit ?_); (try simp only [go_sem, init_env', Nat.reduceEqDiff, Nat.reduceAdd, Nat.reduceMul, reduceIte, Nat.reduceLeDiff, Nat.reduceLT, Nat.reduceBEq, reduceCtorEq, hP, hw]); (repeat (refine And.intro (by first | omega | (intros; simp_all; done) | (intros; simp_all; omega)) ?_))))
            refine ⟨k + 1, by omega, by omega, ?_⟩
            rw [hM2]
            (refine Sub_of (by simp only [go_sem, init_env', Nat.reduceEqDiff, Nat.reduceAdd, Nat.reduceMul, reduceIte, Nat.reduceLeDiff, Nat.reduceLT, Nat.reduceBEq, reduceCtorEq]; ((repeat' (first | exact EnvLe_e0 _ _ | refine EnvLe_upd ?_ ?_)) <;> ((try simp only [upd_app, e0_app, o0_app, Nat.reduceEqDiff, reduceIte]); first | exact AWk.refl _ _ | exact AWk.int (by omega) | exact AWk.int (by rw [w64 (by omega) (by omega)]; omega) | exact AWk.grow rfl | exact AWk.nil _ | exact AWk.of (by simp)))) (by simp only [go_sem, init_env', Nat.reduceEqDiff, Nat.reduceAdd, Nat.reduceMul, reduceIte, Nat.reduceLeDiff, Nat.reduceLT, Nat.reduceBEq, reduceCtorEq]; ((repeat' (first | exact ObjLe_o0 _ | exact ObjLe.rfl' _ | refine ObjLe_same ?_ | refine ObjLe_upd ?_ ?_ | refine ObjLe_new rfl ?_)) <;> rfl)))
          · have h : k = t.pres.length := by simp at h; omega
            subst h
            rw [mapK_all]
            (refine WV_exit ?_; simp only [go_sem, init_env', Nat.reduceEqDiff, Nat.reduceAdd, Nat.reduceMul, reduceIte, Nat.reduceLeDiff, Nat.reduceLT, Nat.reduceBEq, reduceCtorEq])
            (repeat ((first | refine WV_seq_ ?_ | refine WV_block ?_ | refine WV_ops ?_ | refine WV_skip ?_ | refine WV_exit ?_); (try simp only [go_sem, init_env', Nat.reduceEqDiff, Nat.reduceAdd, Nat.reduceMul, reduceIte, Nat.reduceLeDiff, Nat.reduceLT, Nat.reduceBEq, reduceCtorEq, hP, ]); (repeat (refine And.intro (by first | omega | (intros; simp_all; done) | (intros; simp_all; omega)) ?_))))
            have hrs := recs_scal (o.map t.rc)
            have hps := prs_scal (t.pres.map (arrP o))
            have hel : ∀ own : Nat → Ob, own 900 = .box (cellsG Pr.cds (t.pres.map (arrP o)) J) → AV.elemsV own (.vw 2 900 0 t.pres.length cap) = some (2, (t.pres.map (arrP o)).map Pr.cds) := fun own h => by
              have := elemsV_cellsG pr_two own 900 (t.pres.map (arrP o)) J cap h
              rwa [List.length_map] at this
            (refine WV_ret ?_; simp only [thenQ, inQ, RetQF, RetOkF, resAll, resA]; simp only [go_sem, init_env', Nat.reduceEqDiff, Nat.reduceAdd, Nat.reduceMul, reduceIte, Nat.reduceLeDiff, Nat.reduceLT, Nat.reduceBEq, reduceCtorEq, tupA, AV.fport, AV.fportL, CD.scal, exists_eq_left', hrs, hel, hps]; refine And.intro (by ((repeat' (first | exact NoWin_o0 | refine NoWin_upd (fun cs h => by cases h) ?_)))) ?_)
            exact AVle.of rfl
end Go.Proofs.Ytkpgpgaojjobgaa

namespace Go.Proofs.Ytkpgpgaojjobgaa
open Go Go.V
@[reducible] def o77_0 : List Ins := [⟨(some 6), .ld false 5 (.t 1), none, true⟩,
  ⟨(some 7), .mv (.t 0), none, true⟩,
  ⟨(some 8), .call (.k (.fn 78 [])) [(.t 6), (.t 7)], none, true⟩,
  ⟨(some 9), .call (.k (.fn 54 [])) [(.t 8)], none, true⟩,
  ⟨(some 10), .fld true 1 3 (.t 9), none, true⟩,
  ⟨(some 5), .mv (.t 10), none, true⟩]
@[reducible] def o77_1 : List Ins := [⟨(some 11), .ld true 1 (.t 2), none, true⟩,
  ⟨(some 12), .bin .lss (.t 11) (.k (.c (.int .i64 0))), none, true⟩,
  ⟨(some 13), .mv (.t 12), none, true⟩,
  ⟨(some 14), .mv (.t 5), (some (13, false)), true⟩,
  ⟨(some 15), .ld true 1 (.t 2), (some (13, false)), true⟩,
  ⟨(some 16), .bin .lss (.t 14) (.t 15), (some (13, false)), true⟩,
  ⟨(some 17), .pick (.t 13) (.k (.c (.bool true))) (.t 16), none, true⟩]
@[reducible] def o77_2 : List Ins := [⟨(some 18), .mv (.t 0), none, true⟩,
  ⟨(some 19), .call (.k (.fn 79 [])) [(.t 18)], none, true⟩,
  ⟨(some 20), .mv (.t 5), none, true⟩,
  ⟨none, .st 1 (.t 3) (.t 19), none, true⟩,
  ⟨none, .st 1 (.t 2) (.t 20), none, true⟩]
@[reducible] def v77_3 : VC := (.cond (.t 17) (.ops o77_2) .skip)
@[reducible] def v77_4 : VC := (.seq (.ops o77_1) v77_3)
def ir77 : FC := ⟨4, 21, [], (.seq (.ops o77_0) v77_4)⟩
@[reducible] def o63_0 : List Ins := [⟨(some 1), .box 5 (.t 0), none, true⟩,
  ⟨(some 2), .alloc [(.c (.raw (.slice none 0 0)))], none, true⟩,
  ⟨(some 3), .alloc [(.c (.int .i64 0))], none, true⟩]
@[reducible] def o63_1 : List Ins := [⟨none, .st 1 (.t 3) (.k (.c (.int .i64 (-1)))), none, true⟩]
@[reducible] def o63_2 : List Ins := [⟨(some 4), .fa 0 (.t 1), none, true⟩,
  ⟨(some 5), .ld true 1 (.t 4), none, true⟩,
  ⟨(some 6), .len (.t 5), none, true⟩,
  ⟨(some 7), .mkfn 77 [(.t 1), (.t 3), (.t 2)], none, true⟩,
  ⟨(some 8), .call (.k (.fn 76 [])) [(.t 6), (.t 7)], none, true⟩]
@[reducible] def t63_3 : OT := (.cons ⟨(some 9), .ld true 1 (.t 2), none, false⟩
  (.br [(.cons ⟨(some 10), .ld true 1 (.t 3), none, false⟩
    (.cons ⟨none, .st 1 (.t 2) (.t 9), none, false⟩
    (.cons ⟨none, .st 1 (.t 3) (.t 10), none, true⟩
    .nil))), (.cons ⟨none, .st 1 (.t 2) (.t 9), none, false⟩
    (.cons ⟨(some 10), .ld true 1 (.t 3), none, false⟩
    (.cons ⟨none, .st 1 (.t 3) (.t 10), none, true⟩
    .nil)))]))
@[reducible] def v63_4 : VC := (.seq (.drw t63_3) .ret)
@[reducible] def v63_5 : VC := (.seq (.ops o63_2) v63_4)
@[reducible] def v63_6 : VC := (.seq (.ops o63_1) v63_5)
def ir63 : FC := ⟨1, 11, [.cell 2 true 1, .cell 3 true 1], (.seq (.ops o63_0) v63_6)⟩
@[reducible] def o37_0 : List Ins := [⟨(some 1), .box 5 (.t 0), none, true⟩,
  ⟨(some 2), .mv (.k (.c (.int .i64 0))), none, true⟩,
  ⟨(some 3), .mv (.k (.c (.int .i64 0))), none, true⟩]
@[reducible] def o37_1 : List Ins := [⟨(some 7), .ld false 5 (.t 1), none, true⟩,
  ⟨(some 8), .call (.k (.fn 62 [])) [(.t 7)], none, true⟩,
  ⟨(some 4), .mv (.t 8), none, true⟩]
@[reducible] def o37_2 : List Ins := [⟨(some 9), .mv (.t 4), none, true⟩,
  ⟨(some 10), .bin .neq (.t 9) (.k (.c (.int .i64 0))), none, true⟩]
@[reducible] def o37_3 : List Ins := [⟨(some 11), .mv (.t 4), none, true⟩,
  ⟨(some 2), .mv (.k (.c (.int .i64 0))), none, true⟩,
  ⟨(some 3), .mv (.t 11), none, true⟩]
@[reducible] def v37_4 : VC := (.seq (.ops o37_3) .ret)
@[reducible] def v37_5 : VC := (.cond (.t 10) v37_4 .skip)
@[reducible] def v37_6 : VC := (.seq (.ops o37_2) v37_5)
@[reducible] def o37_7 : List Ins := [⟨(some 13), .ld false 5 (.t 1), none, true⟩,
  ⟨(some 14), .call (.k (.fn 63 [])) [(.t 13)], none, true⟩,
  ⟨(some 12), .mv (.t 14), none, true⟩,
  ⟨(some 15), .ext (.t 12) 0, none, true⟩,
  ⟨(some 16), .ext (.t 12) 1, none, true⟩,
  ⟨(some 5), .mv (.t 15), none, true⟩,
  ⟨(some 6), .mv (.t 16), none, true⟩]
@[reducible] def o37_8 : List Ins := [⟨(some 17), .mv (.t 6), none, true⟩,
  ⟨(some 2), .mv (.t 17), none, true⟩,
  ⟨(some 3), .mv (.k (.c (.int .i64 0))), none, true⟩]
@[reducible] def v37_9 : VC := (.seq (.ops o37_8) .ret)
@[reducible] def v37_10 : VC := (.seq (.ops o37_7) v37_9)
@[reducible] def v37_11 : VC := (.seq (.seq (.ops o37_1) v37_6) v37_10)
def ir37 : FC := ⟨1, 18, [.t 2, .t 3], (.seq (.ops o37_0) v37_11)⟩
theorem c77 : compM Try.prog [] 77 = some ir77 := by kernel_rfl
theorem c63 : compM Try.prog [] 63 = some ir63 := by kernel_rfl
theorem c37 : compM Try.prog [] 37 = some ir37 := by kernel_rfl
theorem elemsV_winG {α : Type} {cds : α → List CD} {m : Nat} (hm : ∀ a, (cds a).length = m) (own : Nat → Ob) (n : Nat) (l : List α) (j cap : Nat) (h : own n = .win (cellsG cds l j)) : AV.elemsV own (.vw m n 0 l.length cap) = some (m, l.map cds) := by
  have h2 : (cellsG cds l j).take (l.length * m) = (flatG cds l).map .c := by rw [cellsG_take hm]; simp [cellsG]
  have h3 : ((flatG cds l).map AV.c).mapM (AV.toCD own) = some (flatG cds l) := by
    induction flatG cds l with
    | nil => rfl
    | cons a t ih => simp only [List.map_cons, List.mapM_cons, AV.toCD, Option.pure_def, Option.bind_eq_bind, Option.bind_some, ih]
  simp only [AV.elemsV, h, Ob.cellsR, Nat.zero_add, List.drop_zero, h2, h3, Option.map_some]
  rw [if_pos (by rw [cellsG_len hm]; omega)]
  have := grp_cellsG hm l
  rw [List.take_of_length_le (by rw [flatG_len hm]; exact Nat.le_refl _)] at this
  rw [this]
/-- When the last side has ended, with the records in another order. -/
def endO (t : Tray) (o : List Nat) : Int := (goesS (arrT t o)).end_
def bestStep (t : Tray) (s : Int × Option (List Nat)) (o : List Nat) : Int × Option (List Nat) := if s.1 < 0 ∨ endO t o < s.1 then (endO t o, some o) else s
def bestG (t : Tray) (l : List (List Nat)) : Int × Option (List Nat) := l.foldl (bestStep t) (-1, none)
theorem bestG_snoc (t : Tray) (l : List (List Nat)) (o : List Nat) : bestG t (l ++ [o]) = bestStep t (bestG t l) o := by unfold bestG; rw [List.foldl_append]; rfl
def ordA : Option (List Nat) → AV
  | none => .c (.raw (.slice none 0 0))
  | some o => .c (natsC o)
def bestO (s : Int × Option (List Nat)) : List Ob := [.box [iv s.1], .box [ordA s.2]]

set_option maxRecDepth 20000 in
set_option maxHeartbeats 8000000 in
theorem best77 {t : Tray} (ht : TrayOk t) {o : List Nat} (ho : IsOrd t.n o) (s : Int × Option (List Nat)) :
    FSpecL Try.prog 77 [.vw 1 2000 0 o.length o.length, .c (.pt t.cds), .bp 1000 0, .bp 1001 0] (bestO s) [cellsG ncd o 0] (fun res l' => res = .tup [] ∧ l' = bestO (bestStep t s o)) := by
  have hn6 := ht.n6
  have hol := ho.len
  have har := arranged78 ht ho
  have hgo := goes54 (arr_ok ht ho)
  have hend : (goesS (arrT t o)).end_ = endO t o := rfl
  obtain ⟨m, so⟩ := s
  generalize hA : ordA so = A
  simp only [bestO, hA]
  refine FSpecL_of c77 (by first | simp | exact Nat.le_of_ble_eq_true rfl) (Nat.le_refl _) (by decide) (by decide) fun C hP hN hC hL => ?_; rw [init_env', ownW_upd (by first | simp | exact Nat.le_of_ble_eq_true rfl)]; simp only [ir77, updL, updLo, List.map_nil, List.map_cons, Nat.reduceAdd, ]
  (repeat ((first | refine WV_seq_ ?_ | refine WV_block ?_ | refine WV_ops ?_ | refine WV_skip ?_ | refine WV_exit ?_); (try simp only [go_sem, init_env', Nat.reduceEqDiff, Nat.reduceAdd, Nat.reduceMul, reduceIte, Nat.reduceLeDiff, Nat.reduceLT, Nat.reduceBEq, reduceCtorEq, hP, Tray.cds, List.length_cons, List.length_nil, List.map_cons, List.map_nil]); (repeat (refine And.intro (by first | omega | (intros; simp_all; done) | (intros; simp_all; omega)) ?_))))
  refine AS_fresh har rfl rfl rfl ?_ rfl ?_
  · simp only [go_sem, init_env', Nat.reduceEqDiff, Nat.reduceAdd, Nat.reduceMul, reduceIte, Nat.reduceLeDiff, Nat.reduceLT, Nat.reduceBEq, reduceCtorEq, AV.vportL, AV.vport, List.take_succ_cons, List.take_zero]
    rw [elemsV_winG ncd_one _ 2000 o 0 o.length rfl]
    rfl
  simp only [go_sem, init_env', Nat.reduceEqDiff, Nat.reduceAdd, Nat.reduceMul, reduceIte, Nat.reduceLeDiff, Nat.reduceLT, Nat.reduceBEq, reduceCtorEq, hP]
  (repeat ((first | refine WV_seq_ ?_ | refine WV_block ?_ | refine WV_ops ?_ | refine WV_skip ?_ | refine WV_exit ?_); (try simp only [go_sem, init_env', Nat.reduceEqDiff, Nat.reduceAdd, Nat.reduceMul, reduceIte, Nat.reduceLeDiff, Nat.reduceLT, Nat.reduceBEq, reduceCtorEq, hP, ]); (repeat (refine And.intro (by first | omega | (intros; simp_all; done) | (intros; simp_all; omega)) ?_))))
  (refine AS_pure (hgo) rfl rfl rfl rfl rfl ?_; simp only [go_sem, init_env', Nat.reduceEqDiff, Nat.reduceAdd, Nat.reduceMul, reduceIte, Nat.reduceLeDiff, Nat.reduceLT, Nat.reduceBEq, reduceCtorEq, hP, Cs.run, hend]; (repeat (refine And.intro (by first | omega | (intros; simp_all; done) | (intros; simp_all; omega)) ?_)); (repeat ((first | refine WV_seq_ ?_ | refine WV_block ?_ | refine WV_ops ?_ | refine WV_skip ?_ | refine WV_exit ?_); (try simp only [go_sem, init_env', Nat.reduceEqDiff, Nat.reduceAdd, Nat.reduceMul, reduceIte, Nat.reduceLeDiff, Nat.reduceLT, Nat.reduceBEq, reduceCtorEq, hP, Cs.run, hend]); (repeat (refine And.intro (by first | omega | (intros; simp_all; done) | (intros; simp_all; omega)) ?_)))))
  by_cases hc : m < 0 ∨ endO t o < m
  · have hst : bestStep t (m, so) o = (endO t o, some o) := by unfold bestStep; rw [if_pos hc]
    have hb : (decide (m < 0) || decide (endO t o < m)) = true := by simpa using hc
    rw [hb, hst]
    (refine WV_cond rfl (fun h => ?_) (fun h => ?_))
    rotate_left
    · simp at h
    (repeat ((first | refine WV_seq_ ?_ | refine WV_block ?_ | refine WV_ops ?_ | refine WV_skip ?_ | refine WV_exit ?_); (try simp only [go_sem, init_env', Nat.reduceEqDiff, Nat.reduceAdd, Nat.reduceMul, reduceIte, Nat.reduceLeDiff, Nat.reduceLT, Nat.reduceBEq, reduceCtorEq, hP, ]); (repeat (refine And.intro (by first | omega | (intros; simp_all; done) | (intros; simp_all; omega)) ?_))))
    refine AS_fresh (cloneI79 o (by omega)) rfl rfl rfl ?_ rfl ?_
    · simp only [go_sem, init_env', Nat.reduceEqDiff, Nat.reduceAdd, Nat.reduceMul, reduceIte, Nat.reduceLeDiff, Nat.reduceLT, Nat.reduceBEq, reduceCtorEq, AV.vportL, AV.vport]
      rw [elemsV_winG ncd_one _ 2000 o 0 o.length rfl]
      rfl
    simp only [go_sem, init_env', Nat.reduceEqDiff, Nat.reduceAdd, Nat.reduceMul, reduceIte, Nat.reduceLeDiff, Nat.reduceLT, Nat.reduceBEq, reduceCtorEq, hP]
    (repeat ((first | refine WV_seq_ ?_ | refine WV_block ?_ | refine WV_ops ?_ | refine WV_skip ?_ | refine WV_exit ?_); (try simp only [go_sem, init_env', Nat.reduceEqDiff, Nat.reduceAdd, Nat.reduceMul, reduceIte, Nat.reduceLeDiff, Nat.reduceLT, Nat.reduceBEq, reduceCtorEq, hP, ]); (repeat (refine And.intro (by first | omega | (intros; simp_all; done) | (intros; simp_all; omega)) ?_))))
    ((try simp only [thenQ, inQ, RetQL, RetOkL, resAll, resA]); (try simp only [go_sem, init_env', Nat.reduceEqDiff, Nat.reduceAdd, Nat.reduceMul, reduceIte, Nat.reduceLeDiff, Nat.reduceLT, Nat.reduceBEq, reduceCtorEq, tupA, AV.keepP, AV.keepPL]); refine ⟨_, [.box [iv (endO t o)], .box [.c (natsC o)]], rfl, KeepL_mk rfl rfl ?_ ?_ rfl, ?_⟩)
    · simp only [go_sem, init_env', Nat.reduceEqDiff, Nat.reduceAdd, Nat.reduceMul, reduceIte, Nat.reduceLeDiff, Nat.reduceLT, Nat.reduceBEq, reduceCtorEq, keepAll, Ob.keepP, AV.keepP, AV.keepPL]
    · simp only [go_sem, init_env', Nat.reduceEqDiff, Nat.reduceAdd, Nat.reduceMul, reduceIte, Nat.reduceLeDiff, Nat.reduceLT, Nat.reduceBEq, reduceCtorEq, winAll]
    · exact ⟨rfl, rfl⟩
  · have hst : bestStep t (m, so) o = (m, so) := by
      unfold bestStep; rw [if_neg hc]
    have hb : (decide (m < 0) || decide (endO t o < m)) = false := by simpa using hc
    rw [hb, hst]
    (refine WV_cond rfl (fun h => ?_) (fun h => ?_))
    · simp at h
    refine WV_skip ?_
    ((try simp only [thenQ, inQ, RetQL, RetOkL, resAll, resA]); (try simp only [go_sem, init_env', Nat.reduceEqDiff, Nat.reduceAdd, Nat.reduceMul, reduceIte, Nat.reduceLeDiff, Nat.reduceLT, Nat.reduceBEq, reduceCtorEq, tupA, AV.keepP, AV.keepPL]); refine ⟨_, [.box [iv m], .box [A]], rfl, KeepL_mk rfl rfl ?_ ?_ rfl, ?_⟩)
    · rw [← hA]
      cases so <;> simp only [go_sem, init_env', Nat.reduceEqDiff, Nat.reduceAdd, Nat.reduceMul, reduceIte, Nat.reduceLeDiff, Nat.reduceLT, Nat.reduceBEq, reduceCtorEq, keepAll, Ob.keepP, AV.keepP, AV.keepPL, ordA]
    · simp only [go_sem, init_env', Nat.reduceEqDiff, Nat.reduceAdd, Nat.reduceMul, reduceIte, Nat.reduceLeDiff, Nat.reduceLT, Nat.reduceBEq, reduceCtorEq, winAll]
    · refine ⟨rfl, ?_⟩
      rw [← hA]

/-- All orders are orders. -/
theorem swap_ord {n : Nat} {o : List Nat} (h : IsOrd n o) {i j : Nat} (hi : i < n) (hj : j < n) : IsOrd n (swapL o i j) := by
  have hl := h.len
  have hi' : i < o.length := by omega
  have hj' : j < o.length := by omega
  have e : swapL o i j = (o.set i o[j]).set j o[i] := by unfold swapL; simp [hi', hj']
  rw [e]
  exact (List.set_set_perm hi' hj').trans h
theorem perms_ord {n : Nat} : ∀ (f : Nat) (o : List Nat), f ≤ n → IsOrd n o → ∀ x ∈ permsF n f o, IsOrd n x
  | 0, o, _, h, x, hx => by simp only [permsF, List.mem_singleton] at hx; subst hx; exact h
  | f + 1, o, hf, h, x, hx => by
    simp only [permsF] at hx
    obtain ⟨j, hj, hx⟩ := List.mem_flatMap.1 hx
    have hj := List.mem_range.1 hj
    exact perms_ord f _ (by omega) (swap_ord h (by omega) (by omega)) x hx
theorem permsS_ord {n : Nat} {o : List Nat} (h : o ∈ permsS n) : IsOrd n o := perms_ord n _ (Nat.le_refl _) (List.Perm.refl _) o h
def bestS (t : Tray) : Int × Option (List Nat) := bestG t (permsS t.n)
def cdOrd : Option (List Nat) → AV
  | none => .c (natsC [])
  | some o => .c (natsC o)
set_option maxRecDepth 20000 in
set_option maxHeartbeats 8000000 in
theorem best63 {t : Tray} (ht : TrayOk t) : FSpec Try.prog 63 [t.av] (.tup [cdOrd (bestS t).2, iv (bestS t).1]) := by
  have hn6 := ht.n6
  refine FSpec_of c63 (Nat.le_refl _) (by decide) fun C hP hN hC hL => ?_
  simp only [ir63, Tray.av]
  (refine WV_seq_ (WV_ops ?_); simp only [go_sem, init_env', Nat.reduceEqDiff, Nat.reduceAdd, Nat.reduceMul, reduceIte, Nat.reduceLeDiff, Nat.reduceLT, Nat.reduceBEq, reduceCtorEq, hP, ]; (repeat (refine And.intro (by first | omega | (intros; simp_all; done) | (intros; simp_all; omega)) ?_)))
  refine WV_freeze 1 (ds := t.cds) rfl rfl ?_
  simp only [go_sem, init_env', Nat.reduceEqDiff, Nat.reduceAdd, Nat.reduceMul, reduceIte, Nat.reduceLeDiff, Nat.reduceLT, Nat.reduceBEq, reduceCtorEq, List.drop_zero]
  refine WV_seq_ (WV_ops ?_)
  simp only [go_sem, init_env', Nat.reduceEqDiff, Nat.reduceAdd, Nat.reduceMul, reduceIte, Nat.reduceLeDiff, Nat.reduceLT, Nat.reduceBEq, reduceCtorEq, hP]
  refine WV_seq_ (WV_ops ?_)
  simp only [go_sem, init_env', Nat.reduceEqDiff, Nat.reduceAdd, Nat.reduceMul, reduceIte, Nat.reduceLeDiff, Nat.reduceLT, Nat.reduceBEq, reduceCtorEq, hP, Tray.cds, recsC, List.length_map]
  have hnl : t.recs.length = t.n := rfl
  have hid : IsOrd t.n (List.range t.n) := List.Perm.refl _
  refine AS_clos [3, 2] [iv t.n] [] (l := bestO (bestG t [])) (lf := bestO (bestG t (permsS t.n))) (rem := (permsS t.n).map entO) (r := .tup []) (fun g => orders76 t.n (by omega) g) rfl rfl rfl (by decide) (by decide) rfl (by simp only [go_sem, init_env', Nat.reduceEqDiff, Nat.reduceAdd, Nat.reduceMul, reduceIte, Nat.reduceLeDiff, Nat.reduceLT, Nat.reduceBEq, reduceCtorEq, AV.lendL, AV.lend]; rfl) rfl rfl (by simp only [go_sem, init_env', Nat.reduceEqDiff, Nat.reduceAdd, Nat.reduceMul, reduceIte, Nat.reduceLeDiff, Nat.reduceLT, Nat.reduceBEq, reduceCtorEq, obsLend, Ob.lend, AV.lend, AV.lendL]; rfl) (best77 ht hid (0, none)).1 ?_ rfl ?_
  · refine Run_pre entO (fun pre => bestO (bestG t pre)) (permsS t.n) (fun pre => ?_) (fun o _ => rfl) (fun pre o post hts => ?_) (permsS t.n) [] rfl
    · cases h : (bestG t pre).2 <;> simp [bestO, ordA, h, Ob.solid] <;> exact ⟨rfl, rfl⟩
    · have ho : IsOrd t.n o := permsS_ord (by rw [hts]; simp)
      have := best77 ht ho (bestG t pre)
      simp only [bestG_snoc]
      exact this
  · refine ⟨[.box [iv (bestS t).1], .box [ordA (bestS t).2]], ?_, rfl, ?_⟩
    · show obsBack [3, 2] (bestO (bestS t)) = _
      generalize bestS t = S
      obtain ⟨m, so⟩ := S
      cases so <;> rfl
    · generalize bestS t = S
      obtain ⟨m, so⟩ := S
      cases so with
      | none =>
        simp only [go_sem, init_env', Nat.reduceEqDiff, Nat.reduceAdd, Nat.reduceMul, reduceIte, Nat.reduceLeDiff, Nat.reduceLT, Nat.reduceBEq, reduceCtorEq, hP, ownBack, ordA]
        (repeat ((first | refine WV_seq_ ?_ | refine WV_block ?_ | refine WV_ops ?_ | refine WV_skip ?_ | refine WV_exit ?_); (try simp only [go_sem, init_env', Nat.reduceEqDiff, Nat.reduceAdd, Nat.reduceMul, reduceIte, Nat.reduceLeDiff, Nat.reduceLT, Nat.reduceBEq, reduceCtorEq, hP, ]); (repeat (refine And.intro (by first | omega | (intros; simp_all; done) | (intros; simp_all; omega)) ?_))))
        (refine WV_drw ?_; simp only [go_sem, init_env', Nat.reduceEqDiff, Nat.reduceAdd, Nat.reduceMul, reduceIte, Nat.reduceLeDiff, Nat.reduceLT, Nat.reduceBEq, reduceCtorEq, hP, ]; (repeat' (refine And.intro ?_ ?_)))
        all_goals
          (repeat ((first | refine WV_seq_ ?_ | refine WV_block ?_ | refine WV_ops ?_ | refine WV_skip ?_ | refine WV_exit ?_); (try simp only [go_sem, init_env', Nat.reduceEqDiff, Nat.reduceAdd, Nat.reduceMul, reduceIte, Nat.reduceLeDiff, Nat.reduceLT, Nat.reduceBEq, reduceCtorEq, hP, ]); (repeat (refine And.intro (by first | omega | (intros; simp_all; done) | (intros; simp_all; omega)) ?_))))
          (refine WV_ret ?_; simp only [thenQ, inQ, RetQ, RetOk, resAll, resA]; simp only [go_sem, init_env', Nat.reduceEqDiff, Nat.reduceAdd, Nat.reduceMul, reduceIte, Nat.reduceLeDiff, Nat.reduceLT, Nat.reduceBEq, reduceCtorEq, tupA, AV.port, AV.portL, exists_eq_left', ])
          exact AVle.tup (AVles.cons (AVle.nil 1) (AVles.refl _))
      | some o =>
        simp only [go_sem, init_env', Nat.reduceEqDiff, Nat.reduceAdd, Nat.reduceMul, reduceIte, Nat.reduceLeDiff, Nat.reduceLT, Nat.reduceBEq, reduceCtorEq, hP, ownBack, ordA]
        (repeat ((first | refine WV_seq_ ?_ | refine WV_block ?_ | refine WV_ops ?_ | refine WV_skip ?_ | refine WV_exit ?_); (try simp only [go_sem, init_env', Nat.reduceEqDiff, Nat.reduceAdd, Nat.reduceMul, reduceIte, Nat.reduceLeDiff, Nat.reduceLT, Nat.reduceBEq, reduceCtorEq, hP, ]); (repeat (refine And.intro (by first | omega | (intros; simp_all; done) | (intros; simp_all; omega)) ?_))))
        (refine WV_drw ?_; simp only [go_sem, init_env', Nat.reduceEqDiff, Nat.reduceAdd, Nat.reduceMul, reduceIte, Nat.reduceLeDiff, Nat.reduceLT, Nat.reduceBEq, reduceCtorEq, hP, ]; (repeat' (refine And.intro ?_ ?_)))
        all_goals
          (repeat ((first | refine WV_seq_ ?_ | refine WV_block ?_ | refine WV_ops ?_ | refine WV_skip ?_ | refine WV_exit ?_); (try simp only [go_sem, init_env', Nat.reduceEqDiff, Nat.reduceAdd, Nat.reduceMul, reduceIte, Nat.reduceLeDiff, Nat.reduceLT, Nat.reduceBEq, reduceCtorEq, hP, ]); (repeat (refine And.intro (by first | omega | (intros; simp_all; done) | (intros; simp_all; omega)) ?_))))
          (refine WV_ret ?_; simp only [thenQ, inQ, RetQ, RetOk, resAll, resA]; simp only [go_sem, init_env', Nat.reduceEqDiff, Nat.reduceAdd, Nat.reduceMul, reduceIte, Nat.reduceLeDiff, Nat.reduceLT, Nat.reduceBEq, reduceCtorEq, tupA, AV.port, AV.portL, exists_eq_left', ]; (first | exact AVle.of rfl | refine AVle.of ?_ | skip))

def soonR (t : Tray) : Int × Int := if pressedE t = 0 then ((bestS t).1, 0) else (0, pressedE t)
theorem soonest37 (t : Tray) : FSpec Try.prog 37 [t.av] (.tup [iv (soonR t).1, iv (soonR t).2]) := by
  have hck := pressed62 t
  unfold soonR
  by_cases h0 : pressedE t = 0
  · rw [if_pos h0]
    rw [h0] at hck
    have hgo := best63 (Tray.ok_spec (pressed_zero h0).1).1
    generalize bestS t = S at *
    obtain ⟨m, so⟩ := S
    cases so <;>
    · simp only [cdOrd] at hgo
      refine FSpec_of c37 (Nat.le_refl _) (by decide) fun C hP hN hC hL => ?_
      simp only [ir37, Tray.av]
      (repeat ((first | refine WV_seq_ ?_ | refine WV_block ?_ | refine WV_ops ?_ | refine WV_skip ?_ | refine WV_exit ?_); (try simp only [go_sem, init_env', Nat.reduceEqDiff, Nat.reduceAdd, Nat.reduceMul, reduceIte, Nat.reduceLeDiff, Nat.reduceLT, Nat.reduceBEq, reduceCtorEq, hP, ]); (repeat (refine And.intro (by first | omega | (intros; simp_all; done) | (intros; simp_all; omega)) ?_))))
      (refine AS_pure (hck) rfl rfl rfl rfl rfl ?_; simp only [go_sem, init_env', Nat.reduceEqDiff, Nat.reduceAdd, Nat.reduceMul, reduceIte, Nat.reduceLeDiff, Nat.reduceLT, Nat.reduceBEq, reduceCtorEq, hP, Tray.av]; (repeat (refine And.intro (by first | omega | (intros; simp_all; done) | (intros; simp_all; omega)) ?_)); (repeat ((first | refine WV_seq_ ?_ | refine WV_block ?_ | refine WV_ops ?_ | refine WV_skip ?_ | refine WV_exit ?_); (try simp only [go_sem, init_env', Nat.reduceEqDiff, Nat.reduceAdd, Nat.reduceMul, reduceIte, Nat.reduceLeDiff, Nat.reduceLT, Nat.reduceBEq, reduceCtorEq, hP, Tray.av]); (repeat (refine And.intro (by first | omega | (intros; simp_all; done) | (intros; simp_all; omega)) ?_)))))
      (refine WV_cond rfl (fun h => ?_) (fun h => ?_))
      · simp at h
      · (repeat ((first | refine WV_seq_ ?_ | refine WV_block ?_ | refine WV_ops ?_ | refine WV_skip ?_ | refine WV_exit ?_); (try simp only [go_sem, init_env', Nat.reduceEqDiff, Nat.reduceAdd, Nat.reduceMul, reduceIte, Nat.reduceLeDiff, Nat.reduceLT, Nat.reduceBEq, reduceCtorEq, hP, ]); (repeat (refine And.intro (by first | omega | (intros; simp_all; done) | (intros; simp_all; omega)) ?_))))
        (refine AS_pure (hgo) rfl rfl rfl rfl rfl ?_; simp only [go_sem, init_env', Nat.reduceEqDiff, Nat.reduceAdd, Nat.reduceMul, reduceIte, Nat.reduceLeDiff, Nat.reduceLT, Nat.reduceBEq, reduceCtorEq, hP, Tray.av]; (repeat (refine And.intro (by first | omega | (intros; simp_all; done) | (intros; simp_all; omega)) ?_)); (repeat ((first | refine WV_seq_ ?_ | refine WV_block ?_ | refine WV_ops ?_ | refine WV_skip ?_ | refine WV_exit ?_); (try simp only [go_sem, init_env', Nat.reduceEqDiff, Nat.reduceAdd, Nat.reduceMul, reduceIte, Nat.reduceLeDiff, Nat.reduceLT, Nat.reduceBEq, reduceCtorEq, hP, Tray.av]); (repeat (refine And.intro (by first | omega | (intros; simp_all; done) | (intros; simp_all; omega)) ?_)))))
        (refine WV_ret ?_; simp only [thenQ, inQ, RetQ, RetOk, resAll, resA]; simp only [go_sem, init_env', Nat.reduceEqDiff, Nat.reduceAdd, Nat.reduceMul, reduceIte, Nat.reduceLeDiff, Nat.reduceLT, Nat.reduceBEq, reduceCtorEq, tupA, AV.port, AV.portL, exists_eq_left', ]; (first | exact AVle.of rfl | refine AVle.of ?_ | skip))
  · rw [if_neg h0]
    have hb : (pressedE t != 0) = true := by simpa using h0
    refine FSpec_of c37 (Nat.le_refl _) (by decide) fun C hP hN hC hL => ?_
    simp only [ir37, Tray.av]
    (repeat ((first | refine WV_seq_ ?_ | refine WV_block ?_ | refine WV_ops ?_ | refine WV_skip ?_ | refine WV_exit ?_); (try simp only [go_sem, init_env', Nat.reduceEqDiff, Nat.reduceAdd, Nat.reduceMul, reduceIte, Nat.reduceLeDiff, Nat.reduceLT, Nat.reduceBEq, reduceCtorEq, hP, ]); (repeat (refine And.intro (by first | omega | (intros; simp_all; done) | (intros; simp_all; omega)) ?_))))
    (refine AS_pure (hck) rfl rfl rfl rfl rfl ?_; simp only [go_sem, init_env', Nat.reduceEqDiff, Nat.reduceAdd, Nat.reduceMul, reduceIte, Nat.reduceLeDiff, Nat.reduceLT, Nat.reduceBEq, reduceCtorEq, hP, Tray.av, hb]; (repeat (refine And.intro (by first | omega | (intros; simp_all; done) | (intros; simp_all; omega)) ?_)); (repeat ((first | refine WV_seq_ ?_ | refine WV_block ?_ | refine WV_ops ?_ | refine WV_skip ?_ | refine WV_exit ?_); (try simp only [go_sem, init_env', Nat.reduceEqDiff, Nat.reduceAdd, Nat.reduceMul, reduceIte, Nat.reduceLeDiff, Nat.reduceLT, Nat.reduceBEq, reduceCtorEq, hP, Tray.av, hb]); (repeat (refine And.intro (by first | omega | (intros; simp_all; done) | (intros; simp_all; omega)) ?_)))))
    (refine WV_cond rfl (fun h => ?_) (fun h => ?_))
    · (repeat ((first | refine WV_seq_ ?_ | refine WV_block ?_ | refine WV_ops ?_ | refine WV_skip ?_ | refine WV_exit ?_); (try simp only [go_sem, init_env', Nat.reduceEqDiff, Nat.reduceAdd, Nat.reduceMul, reduceIte, Nat.reduceLeDiff, Nat.reduceLT, Nat.reduceBEq, reduceCtorEq, hP, ]); (repeat (refine And.intro (by first | omega | (intros; simp_all; done) | (intros; simp_all; omega)) ?_))))
      (refine WV_ret ?_; simp only [thenQ, inQ, RetQ, RetOk, resAll, resA]; simp only [go_sem, init_env', Nat.reduceEqDiff, Nat.reduceAdd, Nat.reduceMul, reduceIte, Nat.reduceLeDiff, Nat.reduceLT, Nat.reduceBEq, reduceCtorEq, tupA, AV.port, AV.portL, exists_eq_left', ]; (first | exact AVle.of rfl | refine AVle.of ?_ | skip))
    · simp at h
end Go.Proofs.Ytkpgpgaojjobgaa

namespace Go.Proofs.Ytkpgpgaojjobgaa
open Go Go.V
@[reducible] def o52_0 : List Ins := [⟨(some 0), .alloc [(.c (.raw (.slice none 0 0))), (.c (.int .i64 0)), (.c (.int .i64 0)), (.c (.int .i64 0)), (.c (.raw (.slice none 0 0)))], none, true⟩,
  ⟨(some 1), .alloc [(.c (.raw (.slice none 0 0))), (.c (.int .i64 0)), (.c (.int .i64 0)), (.c (.int .i64 0)), (.c (.raw (.slice none 0 0)))], none, true⟩]
@[reducible] def o52_1 : List Ins := [⟨(some 2), .bld [(.c (.int .i64 0)), (.c (.int .i64 0))] [(0, 1, (.k (.c (.int .i64 100)))), (1, 1, (.k (.c (.int .i64 90))))], none, true⟩,
  ⟨(some 3), .bld [(.c (.int .i64 0)), (.c (.int .i64 0))] [(0, 1, (.k (.c (.int .i64 120)))), (1, 1, (.k (.c (.int .i64 80))))], none, true⟩,
  ⟨(some 4), .bld [(.c (.int .i64 0)), (.c (.int .i64 0))] [(0, 1, (.k (.c (.int .i64 60)))), (1, 1, (.k (.c (.int .i64 70))))], none, true⟩,
  ⟨(some 5), .bsl 56 2 [(.t 2), (.t 3), (.t 4)], none, true⟩,
  ⟨(some 6), .bld [(.c (.int .i64 0)), (.c (.int .i64 0))] [(0, 1, (.k (.c (.int .i64 3))))], none, true⟩,
  ⟨(some 7), .bld [(.c (.int .i64 0)), (.c (.int .i64 0))] [(0, 1, (.k (.c (.int .i64 4)))), (1, 1, (.k (.c (.int .i64 10))))], none, true⟩,
  ⟨(some 8), .bld [(.c (.int .i64 0)), (.c (.int .i64 0))] [(1, 1, (.k (.c (.int .i64 12))))], none, true⟩,
  ⟨(some 9), .bld [(.c (.int .i64 0)), (.c (.int .i64 0))] [(0, 1, (.k (.c (.int .i64 3)))), (1, 1, (.k (.c (.int .i64 50))))], none, true⟩,
  ⟨(some 10), .bld [(.c (.int .i64 0)), (.c (.int .i64 0))] [(1, 1, (.k (.c (.int .i64 300))))], none, true⟩,
  ⟨(some 11), .bsl 27 2 [(.t 6), (.t 7), (.t 8), (.t 9), (.t 10)], none, true⟩,
  ⟨(some 12), .bld [(.c (.raw (.slice none 0 0))), (.c (.int .i64 0)), (.c (.int .i64 0)), (.c (.int .i64 0)), (.c (.raw (.slice none 0 0)))] [(0, 1, (.t 5)), (2, 1, (.k (.c (.int .i64 1)))), (3, 1, (.k (.c (.int .i64 5)))), (4, 1, (.t 11))], none, true⟩,
  ⟨none, .st 5 (.t 0) (.t 12), none, true⟩]
@[reducible] def o52_2 : List Ins := [⟨(some 13), .bld [(.c (.int .i64 0)), (.c (.int .i64 0))] [(0, 1, (.k (.c (.int .i64 10)))), (1, 1, (.k (.c (.int .i64 20))))], none, true⟩,
  ⟨(some 14), .bld [(.c (.int .i64 0)), (.c (.int .i64 0))] [(0, 1, (.k (.c (.int .i64 30)))), (1, 1, (.k (.c (.int .i64 40))))], none, true⟩,
  ⟨(some 15), .bsl 56 2 [(.t 13), (.t 14)], none, true⟩,
  ⟨(some 16), .bld [(.c (.int .i64 0)), (.c (.int .i64 0))] [(0, 1, (.k (.c (.int .i64 3))))], none, true⟩,
  ⟨(some 17), .bsl 27 2 [(.t 16)], none, true⟩,
  ⟨(some 18), .bld [(.c (.raw (.slice none 0 0))), (.c (.int .i64 0)), (.c (.int .i64 0)), (.c (.int .i64 0)), (.c (.raw (.slice none 0 0)))] [(0, 1, (.t 15)), (2, 1, (.k (.c (.int .i64 (-1))))), (3, 1, (.k (.c (.int .i64 60)))), (4, 1, (.t 17))], none, true⟩,
  ⟨none, .st 5 (.t 1) (.t 18), none, true⟩]
@[reducible] def t52_3 : OT := (.cons ⟨(some 19), .ld false 5 (.t 0), none, false⟩
  (.br [(.cons ⟨(some 20), .ld false 5 (.t 1), none, false⟩
    (.cons ⟨none, .st 5 (.t 0) (.t 19), none, false⟩
    (.cons ⟨none, .st 5 (.t 1) (.t 20), none, true⟩
    .nil))), (.cons ⟨none, .st 5 (.t 0) (.t 19), none, false⟩
    (.cons ⟨(some 20), .ld false 5 (.t 1), none, false⟩
    (.cons ⟨none, .st 5 (.t 1) (.t 20), none, true⟩
    .nil)))]))
@[reducible] def v52_4 : VC := (.seq (.drw t52_3) .ret)
@[reducible] def v52_5 : VC := (.seq (.ops o52_2) v52_4)
@[reducible] def v52_6 : VC := (.seq (.ops o52_1) v52_5)
def ir52 : FC := ⟨0, 21, [.cell 0 false 5, .cell 1 false 5], (.seq (.ops o52_0) v52_6)⟩
@[reducible] def o19_0 : List Ins := [⟨(some 0), .mv (.k (.c (.bool false))), none, true⟩]
@[reducible] def o19_1 : List Ins := [⟨(some 14), .call (.k (.fn 52 [])) [], none, true⟩,
  ⟨(some 13), .mv (.t 14), none, true⟩,
  ⟨(some 15), .ext (.t 13) 0, none, true⟩,
  ⟨(some 16), .ext (.t 13) 1, none, true⟩,
  ⟨(some 1), .alloc [(.c (.raw (.slice none 0 0))), (.c (.int .i64 0)), (.c (.int .i64 0)), (.c (.int .i64 0)), (.c (.raw (.slice none 0 0)))], none, true⟩,
  ⟨(some 2), .alloc [(.c (.raw (.slice none 0 0))), (.c (.int .i64 0)), (.c (.int .i64 0)), (.c (.int .i64 0)), (.c (.raw (.slice none 0 0)))], none, true⟩,
  ⟨none, .st 5 (.t 1) (.t 15), none, true⟩,
  ⟨none, .st 5 (.t 2) (.t 16), none, true⟩]
@[reducible] def o19_2 : List Ins := [⟨(some 18), .ld false 5 (.t 1), none, true⟩,
  ⟨(some 19), .call (.k (.fn 22 [])) [(.t 18)], none, true⟩,
  ⟨(some 17), .mv (.t 19), none, true⟩,
  ⟨(some 20), .ext (.t 17) 0, none, true⟩,
  ⟨(some 21), .ext (.t 17) 1, none, true⟩,
  ⟨(some 3), .mv (.t 20), none, true⟩,
  ⟨(some 4), .mv (.t 21), none, true⟩]
@[reducible] def o19_3 : List Ins := [⟨(some 23), .ld false 5 (.t 1), none, true⟩,
  ⟨(some 24), .call (.k (.fn 27 [])) [(.t 23), (.k (.c (.int .i64 2)))], none, true⟩,
  ⟨(some 22), .mv (.t 24), none, true⟩,
  ⟨(some 25), .ext (.t 22) 0, none, true⟩,
  ⟨(some 26), .ext (.t 22) 1, none, true⟩,
  ⟨(some 5), .mv (.t 25), none, true⟩,
  ⟨(some 6), .mv (.t 26), none, true⟩]
@[reducible] def o19_4 : List Ins := [⟨(some 28), .ld false 5 (.t 1), none, true⟩,
  ⟨(some 29), .call (.k (.fn 21 [])) [(.t 28), (.k (.c (.int .i64 100)))], none, true⟩,
  ⟨(some 27), .mv (.t 29), none, true⟩,
  ⟨(some 30), .ext (.t 27) 0, none, true⟩,
  ⟨(some 31), .ext (.t 27) 1, none, true⟩,
  ⟨(some 7), .alloc [(.c (.int .i64 0)), (.c (.int .i64 0)), (.c (.int .i64 0))], none, true⟩,
  ⟨none, .st 3 (.t 7) (.t 30), none, true⟩,
  ⟨(some 8), .mv (.t 31), none, true⟩]
@[reducible] def o19_5 : List Ins := [⟨(some 33), .ld false 5 (.t 1), none, true⟩,
  ⟨(some 34), .call (.k (.fn 26 [])) [(.t 33), (.k (.c (.int .i64 2))), (.k (.c (.int .i64 20)))], none, true⟩,
  ⟨(some 32), .mv (.t 34), none, true⟩,
  ⟨(some 35), .ext (.t 32) 0, none, true⟩,
  ⟨(some 36), .ext (.t 32) 1, none, true⟩,
  ⟨(some 9), .mv (.t 35), none, true⟩,
  ⟨(some 10), .mv (.t 36), none, true⟩]
@[reducible] def o19_6 : List Ins := [⟨(some 38), .ld false 5 (.t 2), none, true⟩,
  ⟨(some 39), .call (.k (.fn 37 [])) [(.t 38)], none, true⟩,
  ⟨(some 37), .mv (.t 39), none, true⟩,
  ⟨(some 40), .ext (.t 37) 0, none, true⟩,
  ⟨(some 41), .ext (.t 37) 1, none, true⟩,
  ⟨(some 11), .mv (.t 40), none, true⟩,
  ⟨(some 12), .mv (.t 41), none, true⟩]
@[reducible] def o19_7 : List Ins := [⟨(some 42), .mv (.t 4), none, true⟩,
  ⟨(some 43), .bin .eql (.t 42) (.k (.c (.int .i64 0))), none, true⟩,
  ⟨(some 44), .mv (.t 43), none, true⟩,
  ⟨(some 45), .mv (.t 6), (some (44, true)), true⟩,
  ⟨(some 46), .bin .eql (.t 45) (.k (.c (.int .i64 0))), (some (44, true)), true⟩,
  ⟨(some 47), .pick (.t 44) (.t 46) (.k (.c (.bool false))), none, true⟩,
  ⟨(some 48), .mv (.t 47), none, true⟩,
  ⟨(some 49), .mv (.t 8), (some (48, true)), true⟩,
  ⟨(some 50), .bin .eql (.t 49) (.k (.c (.int .i64 0))), (some (48, true)), true⟩,
  ⟨(some 51), .pick (.t 48) (.t 50) (.k (.c (.bool false))), none, true⟩,
  ⟨(some 52), .mv (.t 51), none, true⟩,
  ⟨(some 53), .mv (.t 10), (some (52, true)), true⟩,
  ⟨(some 54), .bin .eql (.t 53) (.k (.c (.int .i64 0))), (some (52, true)), true⟩,
  ⟨(some 55), .pick (.t 52) (.t 54) (.k (.c (.bool false))), none, true⟩,
  ⟨(some 56), .mv (.t 55), none, true⟩,
  ⟨(some 57), .mv (.t 12), (some (56, true)), true⟩,
  ⟨(some 58), .bin .eql (.t 57) (.k (.c (.int .i64 0))), (some (56, true)), true⟩,
  ⟨(some 59), .pick (.t 56) (.t 58) (.k (.c (.bool false))), none, true⟩,
  ⟨(some 60), .mv (.t 59), none, true⟩,
  ⟨(some 61), .mv (.t 3), (some (60, true)), true⟩,
  ⟨(some 62), .len (.t 61), (some (60, true)), true⟩,
  ⟨(some 63), .bin .eql (.t 62) (.k (.c (.int .i64 4))), (some (60, true)), true⟩,
  ⟨(some 64), .pick (.t 60) (.t 63) (.k (.c (.bool false))), none, true⟩,
  ⟨(some 65), .mv (.t 64), none, true⟩,
  ⟨(some 66), .mv (.t 3), (some (65, true)), true⟩,
  ⟨(some 67), .ia 2 (.t 66) (.k (.c (.int .i64 3))), (some (65, true)), true⟩,
  ⟨(some 68), .ld false 2 (.t 67), (some (65, true)), true⟩,
  ⟨(some 69), .bld [(.c (.int .i64 0)), (.c (.int .i64 0))] [(1, 1, (.k (.c (.int .i64 315))))], (some (65, true)), true⟩,
  ⟨(some 70), .seq false [(0, true), (1, true)] (.t 68) (.t 69), (some (65, true)), true⟩,
  ⟨(some 71), .pick (.t 65) (.t 70) (.k (.c (.bool false))), none, true⟩,
  ⟨(some 72), .mv (.t 71), none, true⟩,
  ⟨(some 73), .mv (.t 5), (some (72, true)), true⟩,
  ⟨(some 74), .bin .eql (.t 73) (.k (.c (.int .i64 148))), (some (72, true)), true⟩,
  ⟨(some 75), .pick (.t 72) (.t 74) (.k (.c (.bool false))), none, true⟩,
  ⟨(some 76), .mv (.t 75), none, true⟩,
  ⟨(some 77), .ld false 3 (.t 7), (some (76, true)), true⟩,
  ⟨(some 78), .bld [(.c (.int .i64 0)), (.c (.int .i64 0)), (.c (.int .i64 0))] [(0, 1, (.k (.c (.int .i64 1)))), (1, 1, (.k (.c (.int .i64 (-1))))), (2, 1, (.k (.c (.int .i64 3))))], (some (76, true)), true⟩,
  ⟨(some 79), .seq false [(0, true), (1, true), (2, true)] (.t 77) (.t 78), (some (76, true)), true⟩,
  ⟨(some 80), .pick (.t 76) (.t 79) (.k (.c (.bool false))), none, true⟩,
  ⟨(some 81), .mv (.t 80), none, true⟩,
  ⟨(some 82), .mv (.t 9), (some (81, true)), true⟩,
  ⟨(some 83), .bin .eql (.t 82) (.k (.c (.int .i64 5))), (some (81, true)), true⟩,
  ⟨(some 84), .pick (.t 81) (.t 83) (.k (.c (.bool false))), none, true⟩,
  ⟨(some 85), .mv (.t 84), none, true⟩,
  ⟨(some 86), .mv (.t 11), (some (85, true)), true⟩,
  ⟨(some 87), .bin .eql (.t 86) (.k (.c (.int .i64 40))), (some (85, true)), true⟩,
  ⟨(some 88), .pick (.t 85) (.t 87) (.k (.c (.bool false))), none, true⟩,
  ⟨(some 0), .mv (.t 88), none, true⟩]
@[reducible] def v19_8 : VC := (.seq (.ops o19_7) .ret)
@[reducible] def v19_9 : VC := (.seq (.ops o19_6) v19_8)
@[reducible] def v19_10 : VC := (.seq (.ops o19_5) v19_9)
@[reducible] def v19_11 : VC := (.seq (.ops o19_4) v19_10)
@[reducible] def v19_12 : VC := (.seq (.ops o19_3) v19_11)
@[reducible] def v19_13 : VC := (.seq (.ops o19_2) v19_12)
@[reducible] def v19_14 : VC := (.seq (.ops o19_1) v19_13)
def ir19 : FC := ⟨0, 89, [.t 0], (.seq (.ops o19_0) v19_14)⟩
theorem c52 : compM Try.prog [] 52 = some ir52 := by kernel_rfl
theorem c19 : compM Try.prog [] 19 = some ir19 := by kernel_rfl



def exT : Tray := ⟨[⟨100, 90⟩, ⟨120, 80⟩, ⟨60, 70⟩], 0, 1, 5, [⟨3, 0⟩, ⟨4, 10⟩, ⟨0, 12⟩, ⟨3, 50⟩, ⟨0, 300⟩]⟩
def exU : Tray := ⟨[⟨10, 20⟩, ⟨30, 40⟩], 0, -1, 60, [⟨3, 0⟩]⟩
theorem example52 : FSpec Try.prog 52 [] (.tup [exT.av, exU.av]) := by
  refine FSpec_of c52 (Nat.le_refl _) (by decide) fun C hP hN hC hL => ?_
  simp only [ir52]
  (repeat ((first | refine WV_seq_ ?_ | refine WV_block ?_ | refine WV_ops ?_ | refine WV_skip ?_ | refine WV_exit ?_); (try simp only [go_sem, init_env', Nat.reduceEqDiff, Nat.reduceAdd, Nat.reduceMul, reduceIte, Nat.reduceLeDiff, Nat.reduceLT, Nat.reduceBEq, reduceCtorEq, hP, ]); (repeat (refine And.intro (by first | omega | (intros; simp_all; done) | (intros; simp_all; omega)) ?_))))
  (refine WV_drw ?_; simp only [go_sem, init_env', Nat.reduceEqDiff, Nat.reduceAdd, Nat.reduceMul, reduceIte, Nat.reduceLeDiff, Nat.reduceLT, Nat.reduceBEq, reduceCtorEq, hP, ]; (repeat' (refine And.intro ?_ ?_)))
  all_goals
    (repeat ((first | refine WV_seq_ ?_ | refine WV_block ?_ | refine WV_ops ?_ | refine WV_skip ?_ | refine WV_exit ?_); (try simp only [go_sem, init_env', Nat.reduceEqDiff, Nat.reduceAdd, Nat.reduceMul, reduceIte, Nat.reduceLeDiff, Nat.reduceLT, Nat.reduceBEq, reduceCtorEq, hP, ]); (repeat (refine And.intro (by first | omega | (intros; simp_all; done) | (intros; simp_all; omega)) ?_))))
    (refine WV_ret ?_; simp only [thenQ, inQ, RetQ, RetOk, resAll, resA]; simp only [go_sem, init_env', Nat.reduceEqDiff, Nat.reduceAdd, Nat.reduceMul, reduceIte, Nat.reduceLeDiff, Nat.reduceLT, Nat.reduceBEq, reduceCtorEq, tupA, AV.port, AV.portL, exists_eq_left', ]; (first | exact AVle.of rfl | refine AVle.of ?_ | skip))
theorem exPlays : playsR exT = ([⟨4, 10⟩, ⟨3, 75⟩, ⟨0, 160⟩, ⟨0, 315⟩], 0) := by kernel_rfl
theorem exWait : waitR exT 2 = (148, 0) := by kernel_rfl
theorem exStand : (standR exT 100).2 = 0 ∧ (standR exT 100).1.at_ = 1 ∧ (standR exT 100).1.way = -1 ∧ (standR exT 100).1.side = 3 := ⟨by kernel_rfl, by kernel_rfl, by kernel_rfl, by kernel_rfl⟩
theorem exLatest : latestR exT 2 20 = (5, 0) := by kernel_rfl
theorem exSoon : soonR exU = (40, 0) := by kernel_rfl
set_option maxRecDepth 20000 in
set_option maxHeartbeats 4000000 in
theorem works19 : FSpec Try.prog 19 [] (.c (.bool true)) := by
  have c1 := plays22 exT
  rw [exPlays] at c1
  have c2 := wait27 exT 2
  rw [exWait] at c2
  have c3 := stand21 exT 100
  obtain ⟨s1, s2, s3, s4⟩ := exStand
  simp only [spAv, s1, s2, s3, s4] at c3
  have c4 := latest26 exT 2 20
  rw [exLatest] at c4
  have c5 := soonest37 exU
  rw [exSoon] at c5
  have z3 : ((3 : Int)).toNat = 3 := rfl
  generalize hE : exT = E at *
  generalize hU : exU = U at *
  have hex := example52
  rw [hE, hU] at hex
  refine FSpec_of c19 (Nat.le_refl _) (by decide) fun C hP hN hC hL => ?_
  simp only [ir19]
  (repeat ((first | refine WV_seq_ ?_ | refine WV_block ?_ | refine WV_ops ?_ | refine WV_skip ?_ | refine WV_exit ?_); (try simp only [go_sem, init_env', Nat.reduceEqDiff, Nat.reduceAdd, Nat.reduceMul, reduceIte, Nat.reduceLeDiff, Nat.reduceLT, Nat.reduceBEq, reduceCtorEq, hP, ]); (repeat (refine And.intro (by first | omega | (intros; simp_all; done) | (intros; simp_all; omega)) ?_))))
  (refine AS_pure (hex) rfl rfl rfl rfl rfl ?_; simp only [go_sem, init_env', Nat.reduceEqDiff, Nat.reduceAdd, Nat.reduceMul, reduceIte, Nat.reduceLeDiff, Nat.reduceLT, Nat.reduceBEq, reduceCtorEq, hP, Tray.av]; (repeat (refine And.intro (by first | omega | (intros; simp_all; done) | (intros; simp_all; omega)) ?_)); (repeat ((first | refine WV_seq_ ?_ | refine WV_block ?_ | refine WV_ops ?_ | refine WV_skip ?_ | refine WV_exit ?_); (try simp only [go_sem, init_env', Nat.reduceEqDiff, Nat.reduceAdd, Nat.reduceMul, reduceIte, Nat.reduceLeDiff, Nat.reduceLT, Nat.reduceBEq, reduceCtorEq, hP, Tray.av]); (repeat (refine And.intro (by first | omega | (intros; simp_all; done) | (intros; simp_all; omega)) ?_)))))
  (refine AS_pure (c1) rfl rfl rfl rfl rfl ?_; simp only [go_sem, init_env', Nat.reduceEqDiff, Nat.reduceAdd, Nat.reduceMul, reduceIte, Nat.reduceLeDiff, Nat.reduceLT, Nat.reduceBEq, reduceCtorEq, hP, Tray.av]; (repeat (refine And.intro (by first | omega | (intros; simp_all; done) | (intros; simp_all; omega)) ?_)); (repeat ((first | refine WV_seq_ ?_ | refine WV_block ?_ | refine WV_ops ?_ | refine WV_skip ?_ | refine WV_exit ?_); (try simp only [go_sem, init_env', Nat.reduceEqDiff, Nat.reduceAdd, Nat.reduceMul, reduceIte, Nat.reduceLeDiff, Nat.reduceLT, Nat.reduceBEq, reduceCtorEq, hP, Tray.av]); (repeat (refine And.intro (by first | omega | (intros; simp_all; done) | (intros; simp_all; omega)) ?_)))))
  (refine AS_pure (c2) rfl rfl rfl rfl rfl ?_; simp only [go_sem, init_env', Nat.reduceEqDiff, Nat.reduceAdd, Nat.reduceMul, reduceIte, Nat.reduceLeDiff, Nat.reduceLT, Nat.reduceBEq, reduceCtorEq, hP, Tray.av]; (repeat (refine And.intro (by first | omega | (intros; simp_all; done) | (intros; simp_all; omega)) ?_)); (repeat ((first | refine WV_seq_ ?_ | refine WV_block ?_ | refine WV_ops ?_ | refine WV_skip ?_ | refine WV_exit ?_); (try simp only [go_sem, init_env', Nat.reduceEqDiff, Nat.reduceAdd, Nat.reduceMul, reduceIte, Nat.reduceLeDiff, Nat.reduceLT, Nat.reduceBEq, reduceCtorEq, hP, Tray.av]); (repeat (refine And.intro (by first | omega | (intros; simp_all; done) | (intros; simp_all; omega)) ?_)))))
  (refine AS_pure (c3) rfl rfl rfl rfl rfl ?_; simp only [go_sem, init_env', Nat.reduceEqDiff, Nat.reduceAdd, Nat.reduceMul, reduceIte, Nat.reduceLeDiff, Nat.reduceLT, Nat.reduceBEq, reduceCtorEq, hP, Tray.av]; (repeat (refine And.intro (by first | omega | (intros; simp_all; done) | (intros; simp_all; omega)) ?_)); (repeat ((first | refine WV_seq_ ?_ | refine WV_block ?_ | refine WV_ops ?_ | refine WV_skip ?_ | refine WV_exit ?_); (try simp only [go_sem, init_env', Nat.reduceEqDiff, Nat.reduceAdd, Nat.reduceMul, reduceIte, Nat.reduceLeDiff, Nat.reduceLT, Nat.reduceBEq, reduceCtorEq, hP, Tray.av]); (repeat (refine And.intro (by first | omega | (intros; simp_all; done) | (intros; simp_all; omega)) ?_)))))
  (refine AS_pure (c4) rfl rfl rfl rfl rfl ?_; simp only [go_sem, init_env', Nat.reduceEqDiff, Nat.reduceAdd, Nat.reduceMul, reduceIte, Nat.reduceLeDiff, Nat.reduceLT, Nat.reduceBEq, reduceCtorEq, hP, Tray.av]; (repeat (refine And.intro (by first | omega | (intros; simp_all; done) | (intros; simp_all; omega)) ?_)); (repeat ((first | refine WV_seq_ ?_ | refine WV_block ?_ | refine WV_ops ?_ | refine WV_skip ?_ | refine WV_exit ?_); (try simp only [go_sem, init_env', Nat.reduceEqDiff, Nat.reduceAdd, Nat.reduceMul, reduceIte, Nat.reduceLeDiff, Nat.reduceLT, Nat.reduceBEq, reduceCtorEq, hP, Tray.av]); (repeat (refine And.intro (by first | omega | (intros; simp_all; done) | (intros; simp_all; omega)) ?_)))))
  (refine AS_pure (c5) rfl rfl rfl rfl rfl ?_; simp only [go_sem, init_env', Nat.reduceEqDiff, Nat.reduceAdd, Nat.reduceMul, reduceIte, Nat.reduceLeDiff, Nat.reduceLT, Nat.reduceBEq, reduceCtorEq, hP, Tray.av, beq_self_eq_true, prsC, List.map_cons, List.map_nil, List.length_cons, List.length_nil, Pr.cds, z3, List.getD_cons_succ, List.getD_cons_zero, seqGo]; (repeat (refine And.intro (by first | omega | (intros; simp_all; done) | (intros; simp_all; omega)) ?_)); (repeat ((first | refine WV_seq_ ?_ | refine WV_block ?_ | refine WV_ops ?_ | refine WV_skip ?_ | refine WV_exit ?_); (try simp only [go_sem, init_env', Nat.reduceEqDiff, Nat.reduceAdd, Nat.reduceMul, reduceIte, Nat.reduceLeDiff, Nat.reduceLT, Nat.reduceBEq, reduceCtorEq, hP, Tray.av, beq_self_eq_true, prsC, List.map_cons, List.map_nil, List.length_cons, List.length_nil, Pr.cds, z3, List.getD_cons_succ, List.getD_cons_zero, seqGo]); (repeat (refine And.intro (by first | omega | (intros; simp_all; done) | (intros; simp_all; omega)) ?_)))))
  (refine WV_ret ?_; simp only [thenQ, inQ, RetQ, RetOk, resAll, resA]; simp only [go_sem, init_env', Nat.reduceEqDiff, Nat.reduceAdd, Nat.reduceMul, reduceIte, Nat.reduceLeDiff, Nat.reduceLT, Nat.reduceBEq, reduceCtorEq, tupA, AV.port, AV.portL, exists_eq_left', ]; (first | exact AVle.of rfl | refine AVle.of ?_ | skip))
end Go.Proofs.Ytkpgpgaojjobgaa

namespace Go.Proofs.Ytkpgpgaojjobgaa
open Go Go.V
@[reducible] def o24_0 : List Ins := [⟨(some 2), .box 5 (.t 0), none, true⟩,
  ⟨(some 4), .mv (.k (.c (.int .i64 0))), none, true⟩]
@[reducible] def o24_1 : List Ins := [⟨(some 5), .mv (.t 1), none, true⟩,
  ⟨(some 6), .bin .rem (.t 5) (.k (.c (.int .i64 2))), none, true⟩,
  ⟨(some 7), .bin .eql (.t 6) (.k (.c (.int .i64 1))), none, true⟩]
@[reducible] def o24_2 : List Ins := [⟨(some 8), .fa 0 (.t 2), none, true⟩,
  ⟨(some 9), .ld true 1 (.t 8), none, true⟩,
  ⟨(some 10), .mv (.t 1), none, true⟩,
  ⟨(some 11), .bin .quo (.t 10) (.k (.c (.int .i64 2))), none, true⟩,
  ⟨(some 12), .ia 2 (.t 9) (.t 11), none, true⟩,
  ⟨(some 13), .fa 1 (.t 12), none, true⟩,
  ⟨(some 14), .ld true 1 (.t 13), none, true⟩,
  ⟨(some 4), .mv (.t 14), none, true⟩]
@[reducible] def v24_3 : VC := (.seq (.ops o24_2) .ret)
@[reducible] def v24_4 : VC := (.cond (.t 7) v24_3 .skip)
@[reducible] def o24_5 : List Ins := [⟨(some 15), .fa 0 (.t 2), none, true⟩,
  ⟨(some 16), .ld true 1 (.t 15), none, true⟩,
  ⟨(some 17), .mv (.t 1), none, true⟩,
  ⟨(some 18), .bin .quo (.t 17) (.k (.c (.int .i64 2))), none, true⟩,
  ⟨(some 19), .ia 2 (.t 16) (.t 18), none, true⟩,
  ⟨(some 20), .fa 0 (.t 19), none, true⟩,
  ⟨(some 21), .ld true 1 (.t 20), none, true⟩,
  ⟨(some 4), .mv (.t 21), none, true⟩]
@[reducible] def v24_6 : VC := (.seq (.ops o24_5) .ret)
@[reducible] def v24_7 : VC := (.seq (.seq (.ops o24_1) v24_4) v24_6)
def ir24 : FC := ⟨2, 22, [.t 4], (.seq (.ops o24_0) v24_7)⟩
@[reducible] def o23_0 : List Ins := [⟨(some 2), .box 5 (.t 0), none, true⟩,
  ⟨(some 4), .mv (.k (.c (.bool false))), none, true⟩]
@[reducible] def o23_1 : List Ins := [⟨(some 6), .mv (.t 1), none, true⟩,
  ⟨(some 7), .len (.t 6), none, true⟩,
  ⟨(some 8), .fa 4 (.t 2), none, true⟩,
  ⟨(some 9), .ld true 1 (.t 8), none, true⟩,
  ⟨(some 10), .len (.t 9), none, true⟩,
  ⟨(some 11), .bin .gtr (.t 7) (.t 10), none, true⟩]
@[reducible] def o23_2 : List Ins := [⟨(some 4), .mv (.k (.c (.bool false))), none, true⟩]
@[reducible] def v23_3 : VC := (.seq (.ops o23_2) .ret)
@[reducible] def v23_4 : VC := (.cond (.t 11) v23_3 .skip)
@[reducible] def o23_5 : List Ins := [⟨(some 5), .mv (.k (.c (.int .i64 0))), none, true⟩]
@[reducible] def o23_6 : List Ins := [⟨(some 12), .mv (.t 5), none, true⟩,
  ⟨(some 13), .mv (.t 1), none, true⟩,
  ⟨(some 14), .len (.t 13), none, true⟩,
  ⟨(some 15), .bin .lss (.t 12) (.t 14), none, true⟩]
@[reducible] def v23_7 : VC := (.cond (.t 15) .skip (.exit 0))
@[reducible] def o23_8 : List Ins := [⟨(some 18), .ld false 5 (.t 2), none, false⟩,
  ⟨(some 19), .mv (.t 1), none, false⟩,
  ⟨(some 20), .mv (.t 5), none, false⟩,
  ⟨(some 21), .ia 2 (.t 19) (.t 20), none, false⟩,
  ⟨(some 22), .fa 0 (.t 21), none, false⟩,
  ⟨(some 23), .ld true 1 (.t 22), none, false⟩,
  ⟨(some 24), .call (.k (.fn 17 [])) [(.t 18), (.t 23)], none, true⟩,
  ⟨(some 25), .un .not (.t 24), none, true⟩,
  ⟨(some 26), .mv (.t 25), none, true⟩,
  ⟨(some 27), .mv (.t 1), (some (26, false)), false⟩,
  ⟨(some 28), .mv (.t 5), (some (26, false)), false⟩,
  ⟨(some 29), .ia 2 (.t 27) (.t 28), (some (26, false)), true⟩,
  ⟨(some 30), .fa 1 (.t 29), (some (26, false)), true⟩,
  ⟨(some 31), .ld true 1 (.t 30), (some (26, false)), true⟩,
  ⟨(some 32), .bin .lss (.t 31) (.k (.c (.int .i64 0))), (some (26, false)), true⟩,
  ⟨(some 33), .pick (.t 26) (.k (.c (.bool true))) (.t 32), none, true⟩,
  ⟨(some 34), .mv (.t 33), none, true⟩,
  ⟨(some 35), .mv (.t 1), (some (34, false)), false⟩,
  ⟨(some 36), .mv (.t 5), (some (34, false)), false⟩,
  ⟨(some 37), .ia 2 (.t 35) (.t 36), (some (34, false)), true⟩,
  ⟨(some 38), .fa 1 (.t 37), (some (34, false)), true⟩,
  ⟨(some 39), .ld true 1 (.t 38), (some (34, false)), true⟩,
  ⟨(some 40), .bin .gtr (.t 39) (.k (.c (.int .i64 1000000))), (some (34, false)), true⟩,
  ⟨(some 41), .pick (.t 34) (.k (.c (.bool true))) (.t 40), none, true⟩,
  ⟨(some 42), .mv (.t 41), none, true⟩,
  ⟨(some 43), .mv (.t 5), (some (42, false)), true⟩,
  ⟨(some 44), .bin .gtr (.t 43) (.k (.c (.int .i64 0))), (some (42, false)), true⟩,
  ⟨(some 45), .mv (.t 44), (some (42, false)), true⟩,
  ⟨(some 46), .mv (.t 1), (some (45, true)), false⟩,
  ⟨(some 47), .mv (.t 5), (some (45, true)), false⟩,
  ⟨(some 48), .ia 2 (.t 46) (.t 47), (some (45, true)), false⟩,
  ⟨(some 49), .fa 1 (.t 48), (some (45, true)), false⟩,
  ⟨(some 50), .ld true 1 (.t 49), (some (45, true)), false⟩,
  ⟨(some 51), .mv (.t 1), (some (45, true)), false⟩,
  ⟨(some 52), .mv (.t 5), (some (45, true)), false⟩,
  ⟨(some 53), .bin .sub (.t 52) (.k (.c (.int .i64 1))), (some (45, true)), false⟩,
  ⟨(some 54), .ia 2 (.t 51) (.t 53), (some (45, true)), false⟩,
  ⟨(some 55), .fa 1 (.t 54), (some (45, true)), false⟩,
  ⟨(some 56), .ld true 1 (.t 55), (some (45, true)), false⟩,
  ⟨(some 57), .ld false 5 (.t 2), (some (45, true)), false⟩,
  ⟨(some 58), .mv (.t 1), (some (45, true)), false⟩,
  ⟨(some 59), .mv (.t 5), (some (45, true)), false⟩,
  ⟨(some 60), .bin .sub (.t 59) (.k (.c (.int .i64 1))), (some (45, true)), false⟩,
  ⟨(some 61), .ia 2 (.t 58) (.t 60), (some (45, true)), false⟩,
  ⟨(some 62), .fa 0 (.t 61), (some (45, true)), false⟩,
  ⟨(some 63), .ld true 1 (.t 62), (some (45, true)), false⟩,
  ⟨(some 64), .call (.k (.fn 24 [])) [(.t 57), (.t 63)], (some (45, true)), false⟩,
  ⟨(some 65), .bin .add (.t 56) (.t 64), (some (45, true)), false⟩,
  ⟨(some 66), .bin .lss (.t 50) (.t 65), (some (45, true)), true⟩,
  ⟨(some 67), .pick (.t 45) (.t 66) (.k (.c (.bool false))), (some (42, false)), true⟩,
  ⟨(some 68), .pick (.t 42) (.k (.c (.bool true))) (.t 67), none, true⟩]
@[reducible] def o23_9 : List Ins := [⟨(some 4), .mv (.k (.c (.bool false))), none, true⟩]
@[reducible] def v23_10 : VC := (.seq (.ops o23_9) .ret)
@[reducible] def v23_11 : VC := (.cond (.t 68) v23_10 .skip)
@[reducible] def v23_12 : VC := (.seq (.ops o23_8) v23_11)
@[reducible] def o23_13 : List Ins := [⟨(some 16), .mv (.t 5), none, true⟩,
  ⟨(some 17), .bin .add (.t 16) (.k (.c (.int .i64 1))), none, true⟩,
  ⟨(some 5), .mv (.t 17), none, true⟩]
@[reducible] def v23_14 : VC := (.seq (.block 1 v23_12) (.ops o23_13))
@[reducible] def v23_15 : VC := (.seq (.seq (.ops o23_6) v23_7) v23_14)
-- K23_1: changed and kept: [5]
@[reducible] def K23_1 : List Nat := [1, 2]
@[reducible] def v23_16 : VC := (.loop v23_15)
@[reducible] def v23_17 : VC := (.block 0 v23_16)
@[reducible] def o23_18 : List Ins := [⟨(some 4), .mv (.k (.c (.bool true))), none, true⟩]
@[reducible] def v23_19 : VC := (.seq (.ops o23_18) .ret)
@[reducible] def v23_20 : VC := (.seq (.seq (.ops o23_5) v23_17) v23_19)
@[reducible] def v23_21 : VC := (.seq (.seq (.ops o23_1) v23_4) v23_20)
def ir23 : FC := ⟨2, 69, [.t 4], (.seq (.ops o23_0) v23_21)⟩
theorem c24 : compM Try.prog [] 24 = some ir24 := by kernel_rfl
theorem c23 : compM Try.prog [] 23 = some ir23 := by kernel_rfl



theorem secs24 (t : Tray) (s : Nat) (hs : s < 2 * t.n) (hn : t.n ≤ 1000) : FSpec Try.prog 24 [t.av, iv s] (iv (secs t s)) := by
  have e1 : ((s : Int)).tmod 2 = ((s % 2 : Nat) : Int) := by rw [Int.tmod_eq_emod_of_nonneg (by omega)]; omega
  have e2 : ((s : Int)).tdiv 2 = ((s / 2 : Nat) : Int) := by rw [Int.tdiv_eq_ediv_of_nonneg (by omega)]; omega
  have hk : s / 2 < t.recs.length := by show s / 2 < t.n; omega
  have hI : ((s / 2 : Nat) : Int) < (t.recs.length : Int) := by omega
  have w1 := w64 (n := ((s / 2 : Nat) : Int)) (by omega) (by omega)
  have w2 := w64 (n := ((s % 2 : Nat) : Int)) (by omega) (by omega)
  have hrc : t.rc (s / 2) = t.recs[s / 2] := by unfold Tray.rc; simp [hk]
  have hb : ((((s % 2 : Nat) : Int)) == 1) = decide (s % 2 = 1) := by rw [Bool.eq_iff_iff]; simp; omega
  refine FSpec_of c24 (Nat.le_refl _) (by decide) fun C hP hN hC hL => ?_
  simp only [ir24, Tray.av]
  (repeat ((first | refine WV_seq_ ?_ | refine WV_block ?_ | refine WV_ops ?_ | refine WV_skip ?_ | refine WV_exit ?_); (try simp only [go_sem, init_env', Nat.reduceEqDiff, Nat.reduceAdd, Nat.reduceMul, reduceIte, Nat.reduceLeDiff, Nat.reduceLT, Nat.reduceBEq, reduceCtorEq, hP, e1, w2, hb]); (repeat (refine And.intro (by first | omega | (intros; simp_all; done) | (intros; simp_all; omega)) ?_))))
  by_cases hc : s % 2 = 1
  · rw [decide_eq_true hc]
    (refine WV_cond rfl (fun h => ?_) (fun h => ?_))
    · (repeat ((first | refine WV_seq_ ?_ | refine WV_block ?_ | refine WV_ops ?_ | refine WV_skip ?_ | refine WV_exit ?_); (try simp only [go_sem, init_env', Nat.reduceEqDiff, Nat.reduceAdd, Nat.reduceMul, reduceIte, Nat.reduceLeDiff, Nat.reduceLT, Nat.reduceBEq, reduceCtorEq, hP, e2, w1, recsC, List.length_map, hI, map_getD hk, Rec.cds, Int.natCast_nonneg]); (repeat (refine And.intro (by first | omega | (intros; simp_all; done) | (intros; simp_all; omega)) ?_))))
      (refine WV_ret ?_; simp only [thenQ, inQ, RetQ, RetOk, resAll, resA]; simp only [go_sem, init_env', Nat.reduceEqDiff, Nat.reduceAdd, Nat.reduceMul, reduceIte, Nat.reduceLeDiff, Nat.reduceLT, Nat.reduceBEq, reduceCtorEq, tupA, AV.port, AV.portL, exists_eq_left', ]; (first | exact AVle.of rfl | refine AVle.of ?_ | skip))
      rw [secs, if_neg (by omega), hrc]
    · simp at h
  · rw [decide_eq_false hc]
    (refine WV_cond rfl (fun h => ?_) (fun h => ?_))
    · simp at h
    · (repeat ((first | refine WV_seq_ ?_ | refine WV_block ?_ | refine WV_ops ?_ | refine WV_skip ?_ | refine WV_exit ?_); (try simp only [go_sem, init_env', Nat.reduceEqDiff, Nat.reduceAdd, Nat.reduceMul, reduceIte, Nat.reduceLeDiff, Nat.reduceLT, Nat.reduceBEq, reduceCtorEq, hP, e2, w1, recsC, List.length_map, hI, map_getD hk, Rec.cds, Int.natCast_nonneg]); (repeat (refine And.intro (by first | omega | (intros; simp_all; done) | (intros; simp_all; omega)) ?_))))
      (refine WV_ret ?_; simp only [thenQ, inQ, RetQ, RetOk, resAll, resA]; simp only [go_sem, init_env', Nat.reduceEqDiff, Nat.reduceAdd, Nat.reduceMul, reduceIte, Nat.reduceLeDiff, Nat.reduceLT, Nat.reduceBEq, reduceCtorEq, tupA, AV.port, AV.portL, exists_eq_left', ]; (first | exact AVle.of rfl | refine AVle.of ?_ | skip))
      rw [secs, if_pos (by omega), hrc]
/-- Plays that are sane. -/
structure SaneOk (t : Tray) (l : List Pr) : Prop where
  len : l.length ≤ t.pres.length
  side : ∀ x ∈ l, 0 ≤ x.side ∧ x.side < 2 * (t.n : Int)
  time : ∀ x ∈ l, 0 ≤ x.time ∧ x.time ≤ 300000
  spc : ∀ i (h : i + 1 < l.length), (l[i]'(by omega)).time + secsI t (l[i]'(by omega)).side ≤ l[i + 1].time
theorem run_sane {t : Tray} (ht : TrayOk t) {s : Cs} (h : RunOk t s) : SaneOk t s.plays := by
  have hc := h.inv.cnt
  refine ⟨by omega, fun x hx => ?_, fun x hx => ?_, fun i hi => ?_⟩
  · have := h.inv.ply x hx; omega
  · have h1 := h.inv.ply x hx
    have h2 := h.now
    have h3 := secs_ok ht (s := x.side.toNat) (by omega)
    unfold secsI at h1
    omega
  · exact List.pairwise_iff_getElem.1 h.inv.spc i (i + 1) (by omega) hi (by omega)
set_option maxRecDepth 20000 in
set_option maxHeartbeats 8000000 in
theorem sane23 {t : Tray} (ht : TrayOk t) {l : List Pr} (hs : SaneOk t l) : FSpec Try.prog 23 [t.av, .c (prsC l)] (.c (.bool true)) := by
  have h13 := ht.p13
  have hn6 := ht.n6
  have hlen := hs.len
  have hd : decide ((t.pres.length : Int) < (l.length : Int)) = false := by simp; omega
  refine FSpec_of c23 (Nat.le_refl _) (by decide) fun C hP hN hC hL => ?_
  simp only [ir23, Tray.av]
  (repeat ((first | refine WV_seq_ ?_ | refine WV_block ?_ | refine WV_ops ?_ | refine WV_skip ?_ | refine WV_exit ?_); (try simp only [go_sem, init_env', Nat.reduceEqDiff, Nat.reduceAdd, Nat.reduceMul, reduceIte, Nat.reduceLeDiff, Nat.reduceLT, Nat.reduceBEq, reduceCtorEq, hP, prsC, List.length_map, hd]); (repeat (refine And.intro (by first | omega | (intros; simp_all; done) | (intros; simp_all; omega)) ?_))))
  (refine WV_cond rfl (fun h => ?_) (fun h => ?_))
  · simp at h
  (repeat ((first | refine WV_seq_ ?_ | refine WV_block ?_ | refine WV_ops ?_ | refine WV_skip ?_ | refine WV_exit ?_); (try simp only [go_sem, init_env', Nat.reduceEqDiff, Nat.reduceAdd, Nat.reduceMul, reduceIte, Nat.reduceLeDiff, Nat.reduceLT, Nat.reduceBEq, reduceCtorEq, hP, ]); (repeat (refine And.intro (by first | omega | (intros; simp_all; done) | (intros; simp_all; omega)) ?_))))
  refine WV_loopK K23_1 [] (fun k : Nat => k ≤ l.length) (fun k => l.length - k) (fun k => [(5, iv k)]) (fun _ => []) 0 (Nat.zero_le _) ?_ ?_
  · (refine Sub_of (by simp only [go_sem, init_env', Nat.reduceEqDiff, Nat.reduceAdd, Nat.reduceMul, reduceIte, Nat.reduceLeDiff, Nat.reduceLT, Nat.reduceBEq, reduceCtorEq]; ((repeat' (first | exact EnvLe_e0 _ _ | refine EnvLe_upd ?_ ?_)) <;> ((try simp only [upd_app, e0_app, o0_app, Nat.reduceEqDiff, reduceIte]); first | exact AWk.refl _ _ | exact AWk.int (by omega) | exact AWk.int (by rw [w64 (by omega) (by omega)]; omega) | exact AWk.grow rfl | exact AWk.nil _ | exact AWk.of (by simp)))) (by simp only [go_sem, init_env', Nat.reduceEqDiff, Nat.reduceAdd, Nat.reduceMul, reduceIte, Nat.reduceLeDiff, Nat.reduceLT, Nat.reduceBEq, reduceCtorEq]; ((repeat' (first | exact ObjLe_o0 _ | exact ObjLe.rfl' _ | refine ObjLe_same ?_ | refine ObjLe_upd ?_ ?_ | refine ObjLe_new rfl ?_)) <;> rfl)))
  · intro k hk
    simp only [go_sem, init_env', Nat.reduceEqDiff, Nat.reduceAdd, Nat.reduceMul, reduceIte, Nat.reduceLeDiff, Nat.reduceLT, Nat.reduceBEq, reduceCtorEq]
    (repeat ((first | refine WV_seq_ ?_ | refine WV_block ?_ | refine WV_ops ?_ | refine WV_skip ?_ | refine WV_exit ?_); (try simp only [go_sem, init_env', Nat.reduceEqDiff, Nat.reduceAdd, Nat.reduceMul, reduceIte, Nat.reduceLeDiff, Nat.reduceLT, Nat.reduceBEq, reduceCtorEq, hP, List.length_map]); (repeat (refine And.intro (by first | omega | (intros; simp_all; done) | (intros; simp_all; omega)) ?_))))
    (refine WV_cond rfl (fun h => ?_) (fun h => ?_))
    · have hkl : k < l.length := by simpa using h
      have hI : (k : Int) < (l.length : Int) := by omega
      have hw2 := w64 (n := (k : Int) + 1) (by omega) (by omega)
      have h1 := hs.side _ (List.getElem_mem hkl)
      have h2 := hs.time _ (List.getElem_mem hkl)
      have hsd := risside17 t l[k].side (by omega)
      rw [show isSide t.n l[k].side = true by simp [isSide, within]; omega] at hsd
      have f1 : decide (l[k].time < 0) = false := by simp; omega
      have f2 : decide (1000000 < l[k].time) = false := by simp; omega
      cases k with
      | zero =>
        have z0 : ((0 : Int)).toNat = 0 := rfl
        have z1 : IntKind.i64.wrap (0 - 1) = -1 := by decide
        have z2 : ((-1 : Int)).toNat = 0 := rfl
        have hI0 : (0 : Int) < (l.length : Int) := by omega
        have f4 : decide ((0 : Int) < 0) = false := by decide
        have g1 : (l.map Pr.cds).getD 0 [] = [.int .i64 l[0].side, .int .i64 l[0].time] := map_getD hkl
        generalize l[0].side = S1 at *
        generalize l[0].time = T1 at *
        (repeat ((first | refine WV_seq_ ?_ | refine WV_block ?_ | refine WV_ops ?_ | refine WV_skip ?_ | refine WV_exit ?_); (try simp only [go_sem, init_env', Nat.reduceEqDiff, Nat.reduceAdd, Nat.reduceMul, reduceIte, Nat.reduceLeDiff, Nat.reduceLT, Nat.reduceBEq, reduceCtorEq, hP, g1, hI, hI0, List.length_map, z0, Int.natCast_zero]); (repeat (refine And.intro (by first | omega | (intros; simp_all; done) | (intros; simp_all; omega)) ?_))))
        (refine AS_pure (hsd) rfl rfl rfl rfl rfl ?_; simp only [go_sem, init_env', Nat.reduceEqDiff, Nat.reduceAdd, Nat.reduceMul, reduceIte, Nat.reduceLeDiff, Nat.reduceLT, Nat.reduceBEq, reduceCtorEq, hP, Tray.av, f1, f2, f4, z0, z1, z2, g1, hI0, List.length_map, prsC, Int.natCast_zero]; (repeat (refine And.intro (by first | omega | (intros; simp_all; done) | (intros; simp_all; omega)) ?_)); (repeat ((first | refine WV_seq_ ?_ | refine WV_block ?_ | refine WV_ops ?_ | refine WV_skip ?_ | refine WV_exit ?_); (try simp only [go_sem, init_env', Nat.reduceEqDiff, Nat.reduceAdd, Nat.reduceMul, reduceIte, Nat.reduceLeDiff, Nat.reduceLT, Nat.reduceBEq, reduceCtorEq, hP, Tray.av, f1, f2, f4, z0, z1, z2, g1, hI0, List.length_map, prsC, Int.natCast_zero]); (repeat (refine And.intro (by first | omega | (intros; simp_all; done) | (intros; simp_all; omega)) ?_)))))
        refine ACallG_skip (iv 0) rfl ?_
        simp only [go_sem, init_env', Nat.reduceEqDiff, Nat.reduceAdd, Nat.reduceMul, reduceIte, Nat.reduceLeDiff, Nat.reduceLT, Nat.reduceBEq, reduceCtorEq, hP]
        (repeat (refine And.intro (by first | omega | (intros; simp_all; done) | (intros; simp_all; omega)) ?_))
        (repeat ((first | refine WV_seq_ ?_ | refine WV_block ?_ | refine WV_ops ?_ | refine WV_skip ?_ | refine WV_exit ?_); (try simp only [go_sem, init_env', Nat.reduceEqDiff, Nat.reduceAdd, Nat.reduceMul, reduceIte, Nat.reduceLeDiff, Nat.reduceLT, Nat.reduceBEq, reduceCtorEq, hP, ]); (repeat (refine And.intro (by first | omega | (intros; simp_all; done) | (intros; simp_all; omega)) ?_))))
        (refine WV_cond rfl (fun h => ?_) (fun h => ?_))
        · simp at h
        · (repeat ((first | refine WV_seq_ ?_ | refine WV_block ?_ | refine WV_ops ?_ | refine WV_skip ?_ | refine WV_exit ?_); (try simp only [go_sem, init_env', Nat.reduceEqDiff, Nat.reduceAdd, Nat.reduceMul, reduceIte, Nat.reduceLeDiff, Nat.reduceLT, Nat.reduceBEq, reduceCtorEq, hP, hw2]); (repeat (refine And.intro (by first | omega | (intros; simp_all; done) | (intros; simp_all; omega)) ?_))))
          refine ⟨1, by omega, by omega, ?_⟩
          (refine Sub_of (by simp only [go_sem, init_env', Nat.reduceEqDiff, Nat.reduceAdd, Nat.reduceMul, reduceIte, Nat.reduceLeDiff, Nat.reduceLT, Nat.reduceBEq, reduceCtorEq]; ((repeat' (first | exact EnvLe_e0 _ _ | refine EnvLe_upd ?_ ?_)) <;> ((try simp only [upd_app, e0_app, o0_app, Nat.reduceEqDiff, reduceIte]); first | exact AWk.refl _ _ | exact AWk.int (by omega) | exact AWk.int (by rw [w64 (by omega) (by omega)]; omega) | exact AWk.grow rfl | exact AWk.nil _ | exact AWk.of (by simp)))) (by simp only [go_sem, init_env', Nat.reduceEqDiff, Nat.reduceAdd, Nat.reduceMul, reduceIte, Nat.reduceLeDiff, Nat.reduceLT, Nat.reduceBEq, reduceCtorEq]; ((repeat' (first | exact ObjLe_o0 _ | exact ObjLe.rfl' _ | refine ObjLe_same ?_ | refine ObjLe_upd ?_ ?_ | refine ObjLe_new rfl ?_)) <;> rfl)))
      | succ k =>
        have hk1 : k < l.length := by omega
        have h3 := hs.side _ (List.getElem_mem hk1)
        have h4 := hs.time _ (List.getElem_mem hk1)
        have h5 := hs.spc k hkl
        obtain ⟨sn, hsn⟩ := Int.eq_ofNat_of_zero_le h3.1
        have hse := secs24 t sn (by omega) (by omega)
        have hso := secs_ok ht (s := sn) (by omega)
        have hsec : secsI t l[k].side = secs t sn := by unfold secsI; rw [hsn, Int.toNat_natCast]
        rw [hsec] at h5
        have ek : ((k + 1 : Nat) : Int) - 1 = (k : Int) := by omega
        have hw3 := w64 (n := (k : Int)) (by omega) (by omega)
        have hw4 := w64 (n := l[k].time + secs t sn) (by omega) (by omega)
        have hI1 : (k : Int) < (l.length : Int) := by omega
        have f3 : decide (l[k + 1].time < l[k].time + secs t sn) = false := by simp; omega
        have f4 : decide (0 < ((k + 1 : Nat) : Int)) = true := by simp
        have f5 : (((k + 1 : Nat) : Int)).toNat = k + 1 := rfl
        have g1 : (l.map Pr.cds).getD (k + 1) [] = [.int .i64 l[k + 1].side, .int .i64 l[k + 1].time] := map_getD hkl
        have g2 : (l.map Pr.cds).getD k [] = [.int .i64 sn, .int .i64 l[k].time] := by rw [map_getD hk1, Pr.cds, hsn]
        generalize l[k + 1].side = S1 at *
        generalize l[k + 1].time = T1 at *
        generalize l[k].time = T0 at *
        generalize secs t sn = SC at *
        (repeat ((first | refine WV_seq_ ?_ | refine WV_block ?_ | refine WV_ops ?_ | refine WV_skip ?_ | refine WV_exit ?_); (try simp only [go_sem, init_env', Nat.reduceEqDiff, Nat.reduceAdd, Nat.reduceMul, reduceIte, Nat.reduceLeDiff, Nat.reduceLT, Nat.reduceBEq, reduceCtorEq, hP, g1, hI, List.length_map, f5, Int.natCast_nonneg]); (repeat (refine And.intro (by first | omega | (intros; simp_all; done) | (intros; simp_all; omega)) ?_))))
        (refine AS_pure (hsd) rfl rfl rfl rfl rfl ?_; simp only [go_sem, init_env', Nat.reduceEqDiff, Nat.reduceAdd, Nat.reduceMul, reduceIte, Nat.reduceLeDiff, Nat.reduceLT, Nat.reduceBEq, reduceCtorEq, hP, Tray.av, f1, f2, f4, f5, ek, hw3, g1, g2, hI, hI1, Int.natCast_nonneg, List.length_map, prsC]; (repeat (refine And.intro (by first | omega | (intros; simp_all; done) | (intros; simp_all; omega)) ?_)); (repeat ((first | refine WV_seq_ ?_ | refine WV_block ?_ | refine WV_ops ?_ | refine WV_skip ?_ | refine WV_exit ?_); (try simp only [go_sem, init_env', Nat.reduceEqDiff, Nat.reduceAdd, Nat.reduceMul, reduceIte, Nat.reduceLeDiff, Nat.reduceLT, Nat.reduceBEq, reduceCtorEq, hP, Tray.av, f1, f2, f4, f5, ek, hw3, g1, g2, hI, hI1, Int.natCast_nonneg, List.length_map, prsC]); (repeat (refine And.intro (by first | omega | (intros; simp_all; done) | (intros; simp_all; omega)) ?_)))))
        refine ACallG_of (fun _ => hse) rfl (fun hG => by first | rfl | simp only [go_sem, init_env', Nat.reduceEqDiff, Nat.reduceAdd, Nat.reduceMul, reduceIte, Nat.reduceLeDiff, Nat.reduceLT, Nat.reduceBEq, reduceCtorEq, hG]) rfl rfl rfl ?_
        simp only [go_sem, init_env', Nat.reduceEqDiff, Nat.reduceAdd, Nat.reduceMul, reduceIte, Nat.reduceLeDiff, Nat.reduceLT, Nat.reduceBEq, reduceCtorEq, hP, hw4, f3]
        (repeat (refine And.intro (by first | omega | (intros; simp_all; done) | (intros; simp_all; omega)) ?_))
        (repeat ((first | refine WV_seq_ ?_ | refine WV_block ?_ | refine WV_ops ?_ | refine WV_skip ?_ | refine WV_exit ?_); (try simp only [go_sem, init_env', Nat.reduceEqDiff, Nat.reduceAdd, Nat.reduceMul, reduceIte, Nat.reduceLeDiff, Nat.reduceLT, Nat.reduceBEq, reduceCtorEq, hP, ]); (repeat (refine And.intro (by first | omega | (intros; simp_all; done) | (intros; simp_all; omega)) ?_))))
        (refine WV_cond rfl (fun h => ?_) (fun h => ?_))
        · simp at h
        · (repeat ((first | refine WV_seq_ ?_ | refine WV_block ?_ | refine WV_ops ?_ | refine WV_skip ?_ | refine WV_exit ?_); (try simp only [go_sem, init_env', Nat.reduceEqDiff, Nat.reduceAdd, Nat.reduceMul, reduceIte, Nat.reduceLeDiff, Nat.reduceLT, Nat.reduceBEq, reduceCtorEq, hP, hw2]); (repeat (refine And.intro (by first | omega | (intros; simp_all; done) | (intros; simp_all; omega)) ?_))))
          refine ⟨k + 1 + 1, by omega, by omega, ?_⟩
          (refine Sub_of (by simp only [go_sem, init_env', Nat.reduceEqDiff, Nat.reduceAdd, Nat.reduceMul, reduceIte, Nat.reduceLeDiff, Nat.reduceLT, Nat.reduceBEq, reduceCtorEq]; ((repeat' (first | exact EnvLe_e0 _ _ | refine EnvLe_upd ?_ ?_)) <;> ((try simp only [upd_app, e0_app, o0_app, Nat.reduceEqDiff, reduceIte]); first | exact AWk.refl _ _ | exact AWk.int (by omega) | exact AWk.int (by rw [w64 (by omega) (by omega)]; omega) | exact AWk.grow rfl | exact AWk.nil _ | exact AWk.of (by simp)))) (by simp only [go_sem, init_env', Nat.reduceEqDiff, Nat.reduceAdd, Nat.reduceMul, reduceIte, Nat.reduceLeDiff, Nat.reduceLT, Nat.reduceBEq, reduceCtorEq]; ((repeat' (first | exact ObjLe_o0 _ | exact ObjLe.rfl' _ | refine ObjLe_same ?_ | refine ObjLe_upd ?_ ?_ | refine ObjLe_new rfl ?_)) <;> rfl)))
    · (repeat ((first | refine WV_seq_ ?_ | refine WV_block ?_ | refine WV_ops ?_ | refine WV_skip ?_ | refine WV_exit ?_); (try simp only [go_sem, init_env', Nat.reduceEqDiff, Nat.reduceAdd, Nat.reduceMul, reduceIte, Nat.reduceLeDiff, Nat.reduceLT, Nat.reduceBEq, reduceCtorEq, hP, ]); (repeat (refine And.intro (by first | omega | (intros; simp_all; done) | (intros; simp_all; omega)) ?_))))
      (refine WV_ret ?_; simp only [thenQ, inQ, RetQ, RetOk, resAll, resA]; simp only [go_sem, init_env', Nat.reduceEqDiff, Nat.reduceAdd, Nat.reduceMul, reduceIte, Nat.reduceLeDiff, Nat.reduceLT, Nat.reduceBEq, reduceCtorEq, tupA, AV.port, AV.portL, exists_eq_left', ]; (first | exact AVle.of rfl | refine AVle.of ?_ | skip))
end Go.Proofs.Ytkpgpgaojjobgaa

/-
  One way up and down: no press waits longer than a whole round, and each play serves a press: plain.
-/
namespace Go.Proofs.Ytkpgpgaojjobgaa
open Go Go.V

/-- The side at a place of the round. -/
def sideC (n c : Nat) : Nat := if c < n then 2 * c else 2 * (2 * n - 1 - c) + 1
theorem sideC_cyc {n k : Nat} (up : Bool) (h : k < n) : sideC n (cyc n k up) = sideAt k up := by
  unfold sideC cyc sideAt
  cases up
  · simp only [Bool.false_eq_true, if_false]; split <;> omega
  · simp only [if_true]; split <;> omega
def goC (t : Tray) (c : Nat) : Int := if c + 1 = t.n ∨ c + 1 = 2 * t.n then 0 else t.step
def costC (t : Tray) (c : Nat) : Int := secs t (sideC t.n c) + goC t c
def preC (t : Tray) : Nat → Int
  | 0 => 0
  | k + 1 => preC t k + costC t k
/-- A whole round. -/
def roundC (t : Tray) : Int := preC t (2 * t.n)
/-- From one place of the round to another one, if all sides are played. -/
def timeC (t : Tray) (c d : Nat) : Int := if c ≤ d then preC t d - preC t c else roundC t - preC t c + preC t d
theorem sideC_lt {n c : Nat} (h : c < 2 * n) : sideC n c < 2 * n := by unfold sideC; split <;> omega
theorem costC_nonneg {t : Tray} (ht : TrayOk t) {c : Nat} (h : c < 2 * t.n) : 0 ≤ costC t c := by
  have h1 := secs_ok ht (sideC_lt h)
  have h2 := ht.step
  unfold costC goC; split <;> omega
theorem preC_mono {t : Tray} (ht : TrayOk t) {a : Nat} : ∀ (k : Nat), a + k ≤ 2 * t.n → preC t a ≤ preC t (a + k)
  | 0, _ => Int.le_refl _
  | k + 1, h => by
    have h1 := preC_mono ht (a := a) k (by omega)
    have h2 := costC_nonneg ht (c := a + k) (by omega)
    rw [← Nat.add_assoc]
    show _ ≤ preC t (a + k) + costC t (a + k)
    omega
theorem preC_le {t : Tray} (ht : TrayOk t) {a b : Nat} (h : a ≤ b) (hb : b ≤ 2 * t.n) : preC t a ≤ preC t b := by
  have := preC_mono ht (a := a) (b - a) (by omega)
  rwa [show a + (b - a) = b from by omega] at this
theorem preC_nonneg {t : Tray} (ht : TrayOk t) {a : Nat} (h : a ≤ 2 * t.n) : 0 ≤ preC t a := preC_le ht (Nat.zero_le a) h
theorem timeC_le {t : Tray} (ht : TrayOk t) {c d : Nat} (hc : c < 2 * t.n) (hd : d < 2 * t.n) : timeC t c d ≤ roundC t := by
  have h1 := preC_le ht (a := d) (b := 2 * t.n) (by omega) (by omega)
  have h2 := preC_nonneg ht (a := c) (by omega)
  unfold timeC roundC at *
  split
  · omega
  · have := preC_le ht (a := d) (b := c) (by omega) (by omega); omega
theorem timeC_self (t : Tray) (c : Nat) : timeC t c c = 0 := by unfold timeC; rw [if_pos (Nat.le_refl _)]; omega
theorem timeC_next {t : Tray} (ht : TrayOk t) {c d : Nat} (hc : c < 2 * t.n) (hd : d < 2 * t.n) : timeC t (cycNext t.n c) d + costC t c ≤ roundC t ∧ (c ≠ d → timeC t (cycNext t.n c) d + costC t c = timeC t c d) := by
  have hs : preC t (c + 1) = preC t c + costC t c := rfl
  have h0 : preC t 0 = 0 := rfl
  have h1 := preC_nonneg ht (a := c) (by omega)
  unfold cycNext
  by_cases e : c + 1 = 2 * t.n
  · rw [if_pos e]
    have h2 := preC_le ht (a := d) (b := c) (by omega) (by omega)
    have h3 : roundC t = preC t (c + 1) := by unfold roundC; rw [e]
    have h4 : timeC t 0 d = preC t d := by unfold timeC; rw [if_pos (Nat.zero_le _)]; omega
    refine ⟨by omega, fun hne => ?_⟩
    rw [h4]; unfold timeC; rw [if_neg (by omega)]; omega
  · rw [if_neg e]
    by_cases hcd : c + 1 ≤ d
    · have h2 := preC_le ht (a := d) (b := 2 * t.n) (by omega) (by omega)
      have h4 : timeC t (c + 1) d = preC t d - preC t (c + 1) := by unfold timeC; rw [if_pos hcd]
      refine ⟨by unfold roundC; omega, fun hne => ?_⟩
      rw [h4]; unfold timeC; rw [if_pos (by omega)]; omega
    · have h2 := preC_le ht (a := d) (b := c) (by omega) (by omega)
      have h4 : timeC t (c + 1) d = roundC t - preC t (c + 1) + preC t d := by unfold timeC; rw [if_neg hcd]
      refine ⟨by omega, fun hne => ?_⟩
      rw [h4]; unfold timeC; rw [if_neg (by omega)]; omega
theorem move_time {t : Tray} {s : Cs} (h : s.at_ < t.n) : (s.move t).now = s.now + goC t (s.c t) := by
  unfold Cs.move Cs.c cyc goC
  cases s.up
  · simp only [Bool.false_eq_true, if_false]
    by_cases h0 : 0 < s.at_
    · rw [if_pos h0, if_neg (by omega)]
    · rw [if_neg h0, if_pos (by omega)]; simp
  · simp only [if_true]
    by_cases h0 : s.at_ + 1 < t.n
    · rw [if_pos h0, if_neg (by omega)]
    · rw [if_neg h0, if_pos (by omega)]; simp
/-- Pins that are set behind the presses were set, or are those of presses. -/
theorem pressQ_from (now : Int) : ∀ (q : List Pr) (pins : List Bool) (k : Nat), (pressQ now q pins).2.getD k false = true → pins.getD k false = true ∨ ∃ p ∈ q, p.side.toNat = k ∧ p.time ≤ now
  | [], pins, k, h => .inl h
  | a :: q, pins, k, h => by
    simp only [pressQ] at h
    split at h
    · rename_i hle
      rcases pressQ_from now q _ k h with h1 | ⟨p, hp, h1⟩
      · by_cases e : a.side.toNat = k
        · exact .inr ⟨a, by simp, e, hle⟩
        · left
          rw [List.getD_eq_getElem?_getD, List.getElem?_set, if_neg e, ← List.getD_eq_getElem?_getD] at h1
          exact h1
      · exact .inr ⟨p, by simp [hp], h1⟩
    · exact .inl h
theorem pressQ_sub (now : Int) (q : List Pr) (pins : List Bool) : ∀ p ∈ (pressQ now q pins).1, p ∈ q := by
  obtain ⟨k, hk⟩ := pressQ_suffix now q pins
  intro p hp
  rw [hk] at hp
  exact List.mem_of_mem_drop hp

/-- Each of these plays serves a press. -/
def PlyOk (t : Tray) (l : List Pr) : Prop := ∀ i (h : i < l.length), ∃ p ∈ t.pres, p.side = l[i].side ∧ p.time ≤ l[i].time ∧ ∀ j (hj : j < i), (l[j]'(by omega)).side = p.side → (l[j]'(by omega)).time < p.time
structure Due (t : Tray) (s : Cs) : Prop where
  due : ∀ p ∈ t.pres, ((p ∈ s.q ∨ (p.time ≤ s.now ∧ s.pins.getD p.side.toNat false = true)) ∧ s.now + timeC t (s.c t) (cycOf t.n p.side.toNat) ≤ p.time + roundC t) ∨ ∃ x ∈ s.plays, x.side = p.side ∧ p.time ≤ x.time ∧ x.time ≤ p.time + roundC t
  sub : ∀ p ∈ s.q, p ∈ t.pres
  late : ∀ p ∈ s.q, ∀ y ∈ s.plays, y.time < p.time
  pin : ∀ k, s.pins.getD k false = true → ∃ p ∈ t.pres, p.side = (k : Int) ∧ p.time ≤ s.now ∧ ∀ y ∈ s.plays, y.side = p.side → y.time < p.time
  ply : PlyOk t s.plays
theorem Due.press {t : Tray} (ht : TrayOk t) {s : Cs} (hs : CsOk t s) (h : Due t s) : Due t s.press := by
  have hl : ∀ p ∈ s.q, 0 ≤ p.side ∧ p.side < (s.pins.length : Int) := fun p hp => by have := (hs.q p hp).1; have := hs.pins; omega
  obtain ⟨h1, h2⟩ := pressQ_pins s.now s.q s.pins hl
  refine ⟨fun p hp => ?_, fun p hp => h.sub p (pressQ_sub _ _ _ p hp), fun p hp => h.late p (pressQ_sub _ _ _ p hp), fun k hk => ?_, h.ply⟩
  · rcases h.due p hp with ⟨h3, h4⟩ | h3
    · refine .inl ⟨?_, h4⟩
      rcases h3 with h3 | ⟨h3, h5⟩
      · rcases h2 p h3 with h5 | ⟨h5, h6⟩
        · exact .inl h5
        · exact .inr ⟨h5, h6⟩
      · exact .inr ⟨h3, h1 _ h5⟩
    · exact .inr h3
  · rcases pressQ_from s.now s.q s.pins k hk with h3 | ⟨p, hp, h3, h4⟩
    · exact h.pin k h3
    · refine ⟨p, h.sub p hp, ?_, h4, fun y hy _ => h.late p hp y hy⟩
      have := (hl p hp).1; omega
theorem Due.act1 {t : Tray} (ht : TrayOk t) {s s' : Cs} (hs : CsOk t s) (hpr : Pressed s) (h : Due t s) (e : s.act1 t = some s') : Due t s' := by
  have hc : s.c t < 2 * t.n := Cs.c_lt hs
  have hdl : ∀ p ∈ t.pres, cycOf t.n p.side.toNat < 2 * t.n := fun p hp => cycOf_lt (by have := (ht.pres p hp).1; omega)
  rcases act1_cases e with ⟨p, q, hq, hpins, rfl⟩ | ⟨hpins, rfl⟩
  · have hnow := hpr p (by rw [hq]; simp)
    have hall : ∀ k, ¬ s.pins.getD k false = true := fun k hk => by
      have hkl : k < s.pins.length := by
        rcases Nat.lt_or_ge k s.pins.length with h | h
        · exact h
        · rw [List.getD_eq_getElem?_getD, List.getElem?_eq_none h] at hk; simp at hk
      rw [List.getD_eq_getElem?_getD, List.getElem?_eq_getElem hkl] at hk
      have := List.all_eq_true.1 hpins _ (List.getElem_mem hkl)
      simp at hk
      rw [hk] at this; cases this
    refine ⟨fun x hx => ?_, h.sub, h.late, fun k hk => absurd hk (hall k), h.ply⟩
    rcases h.due x hx with ⟨h3, h4⟩ | h3
    · rcases h3 with h3 | ⟨_, h3⟩
      · refine .inl ⟨.inl h3, ?_⟩
        have h5 := timeC_le ht hc (hdl x hx)
        have h6 : p.time ≤ x.time := by
          have hso := hs.sorted
          rw [hq] at h3 hso
          rcases List.mem_cons.1 h3 with rfl | h3
          · exact Int.le_refl _
          · exact (List.pairwise_cons.1 hso).1 x h3
        show p.time + timeC t (s.c t) _ ≤ _
        omega
      · exact absurd h3 (hall _)
    · exact .inr h3
  · obtain ⟨n1, n2, n3, n4⟩ := next_keeps t (s.play t)
    have hpos := pos_lt hs
    have hsec := secs_ok ht hpos
    have ea : (s.play t).at_ = s.at_ ∧ (s.play t).up = s.up := ⟨(play_pins t s).2.2.1, (play_pins t s).2.2.2⟩
    have hat : (s.play t).at_ < t.n := by rw [ea.1]; exact hs.at_
    have ec : (s.play t).c t = s.c t := by unfold Cs.c; rw [ea.1, ea.2]
    have hmv : ((s.play t).next t).now = (s.play t).now + goC t (s.c t) := by rw [← ec]; exact move_time hat
    have hcn : ((s.play t).next t).c t = cycNext t.n (s.c t) := by rw [← ec]; exact (move_c (t := t) hat).1
    have hps : sideC t.n (s.c t) = s.pos := sideC_cyc s.up hs.at_
    have hcost : costC t (s.c t) = secs t s.pos + goC t (s.c t) := by unfold costC; rw [hps]
    have hcp : cycOf t.n s.pos = s.c t := cyc_pos t s
    have hgo : 0 ≤ goC t (s.c t) := by have := ht.step; unfold goC; split <;> omega
    by_cases hp : s.pins.getD s.pos false = true
    · obtain ⟨p1, p2, p3, p4, p5, p6⟩ := play_yes (t := t) hp
      refine ⟨fun x hx => ?_, fun x hx => ?_, fun x hx y hy => ?_, fun k hk => ?_, ?_⟩
      · rw [n1, n2, n3, p1, p2, p3, hmv, hcn, p4]
        have hx1 := (ht.pres x hx).1
        obtain ⟨t1, t2⟩ := timeC_next ht hc (hdl x hx)
        rcases h.due x hx with ⟨h3, h4⟩ | ⟨y, hy, hy2⟩
        · rcases h3 with h3 | ⟨h3, h5⟩
          · have := hpr x h3
            exact .inl ⟨.inl h3, by omega⟩
          · by_cases es : s.pos = x.side.toNat
            · refine .inr ⟨⟨s.pos, s.now⟩, by simp, by simp only; omega, h3, ?_⟩
              rw [← es, hcp, timeC_self] at h4
              simp only; omega
            · have hne : s.c t ≠ cycOf t.n x.side.toNat := fun e => es (cycOf_inj hpos (by omega) (by rw [hcp, e]))
              have t3 := t2 hne
              refine .inl ⟨.inr ⟨by omega, ?_⟩, by omega⟩
              rw [List.getD_eq_getElem?_getD, List.getElem?_set, if_neg es, ← List.getD_eq_getElem?_getD]
              exact h5
        · exact .inr ⟨y, by simp [hy], hy2⟩
      · rw [n1, p1] at hx; exact h.sub x hx
      · rw [n1, p1] at hx
        rw [n3, p3] at hy
        rcases List.mem_append.1 hy with hy | hy
        · exact h.late x hx y hy
        · simp only [List.mem_singleton] at hy
          subst hy; exact hpr x hx
      · rw [n2, p2] at hk
        have hne : s.pos ≠ k := by
          rintro rfl
          rw [List.getD_eq_getElem?_getD, List.getElem?_set, if_pos rfl] at hk
          split at hk <;> simp at hk
        rw [List.getD_eq_getElem?_getD, List.getElem?_set, if_neg hne, ← List.getD_eq_getElem?_getD] at hk
        obtain ⟨p, hp1, hp2, hp3, hp4⟩ := h.pin k hk
        refine ⟨p, hp1, hp2, by rw [hmv, p4]; omega, fun y hy hy2 => ?_⟩
        rw [n3, p3] at hy
        rcases List.mem_append.1 hy with hy | hy
        · exact hp4 y hy hy2
        · simp only [List.mem_singleton] at hy
          subst hy
          simp only at hy2; omega
      · rw [n3, p3]
        intro i hi
        by_cases hil : i < s.plays.length
        · obtain ⟨p, h1, h2, h3, h4⟩ := h.ply i hil
          refine ⟨p, h1, by rw [List.getElem_append_left hil]; exact h2, by rw [List.getElem_append_left hil]; exact h3, fun j hj => ?_⟩
          rw [List.getElem_append_left (by omega)]
          exact h4 j hj
        · have hii : i = s.plays.length := by simp at hi; omega
          subst hii
          obtain ⟨p, hp1, hp2, hp3, hp4⟩ := h.pin s.pos hp
          refine ⟨p, hp1, by simp [hp2], by simp; exact hp3, fun j hj => ?_⟩
          rw [List.getElem_append_left hj]
          exact hp4 _ (List.getElem_mem hj)
    · rw [play_no hp] at n1 n2 n3 n4 hmv hcn ⊢
      refine ⟨fun x hx => ?_, fun x hx => ?_, fun x hx y hy => ?_, fun k hk => ?_, ?_⟩
      · rw [n1, n2, n3, hmv, hcn]
        have hx1 := (ht.pres x hx).1
        obtain ⟨t1, t2⟩ := timeC_next ht hc (hdl x hx)
        rcases h.due x hx with ⟨h3, h4⟩ | h3
        · rcases h3 with h3 | ⟨h3, h5⟩
          · have := hpr x h3
            exact .inl ⟨.inl h3, by omega⟩
          · have es : ¬ s.pos = x.side.toNat := fun e => by rw [← e] at h5; exact hp h5
            have hne : s.c t ≠ cycOf t.n x.side.toNat := fun e => es (cycOf_inj hpos (by omega) (by rw [hcp, e]))
            have t3 := t2 hne
            exact .inl ⟨.inr ⟨by omega, h5⟩, by omega⟩
        · exact .inr h3
      · rw [n1] at hx; exact h.sub x hx
      · rw [n1] at hx
        rw [n3] at hy
        exact h.late x hx y hy
      · rw [n2] at hk
        obtain ⟨p, hp1, hp2, hp3, hp4⟩ := h.pin k hk
        exact ⟨p, hp1, hp2, by rw [hmv]; omega, fun y hy hy2 => hp4 y (by rwa [n3] at hy) hy2⟩
      · rw [n3]; exact h.ply
theorem due {t : Tray} (ht : TrayOk t) {q : List Pr} (hq : q.Perm t.pres) (hqs : q.Pairwise fun a b => a.time ≤ b.time) : Due t (goesWith t q) := by
  have h0 := start_ok ht hq hqs
  obtain ⟨k, _, h, _, _, _⟩ := goes_inv ht hq hqs (fun _ s => Due t s) (by
    refine ⟨fun p hp => .inl ⟨.inl (hq.mem_iff.2 hp), ?_⟩, fun p hp => hq.mem_iff.1 hp, fun p hp y hy => (by cases hy), fun k hk => ?_, fun i hi => absurd hi (Nat.not_lt_zero i)⟩
    · have h1 := timeC_le ht (Cs.c_lt h0) (cycOf_lt (n := t.n) (s := p.side.toNat) (by have := (ht.pres p hp).1; omega))
      have h2 := (ht.pres p hp).2
      show (0 : Int) + _ ≤ _
      omega
    · have hk : (List.replicate (2 * t.n) false).getD k false = true := hk
      rw [List.getD_eq_getElem?_getD, List.getElem?_replicate] at hk
      split at hk <;> simp at hk)
    (fun k s hs h => h.press ht hs) (fun k s s' hs hpr h e => h.act1 ht hs hpr e)
  exact h
/-- No press waits longer than a round. -/
theorem wait_round {t : Tray} (ht : TrayOk t) {k : Int} (hk : inR t k = true) : waitV t k ≤ roundC t := by
  have hd := due ht (sortT_perm t.pres) (sortT_sorted t.pres)
  have hr := goes_ok ht
  obtain ⟨j, hj, h1, h2, h3, h4, _⟩ := served_get ht hk
  have hkk := inR_spec hk
  have hp : t.pr k ∈ t.pres := by
    unfold Tray.pr
    rw [List.getD_eq_getElem?_getD, List.getElem?_eq_getElem (by omega)]
    exact List.getElem_mem _
  obtain ⟨j', hj', h1', h2', h3'⟩ := served_ok hr hp
  have ejj : j' = j := by
    have : servesI (playsS t) (t.pr k) 0 = (j' : Int) := h1'
    omega
  subst ejj
  rcases hd.due _ hp with ⟨h5, _⟩ | ⟨x, hx, hx1, hx2, hx3⟩
  · exfalso
    have hq : (goesWith t (sortT t.pres)).q = [] := hr.q
    have hpn : (goesWith t (sortT t.pres)).pins.all (!·) = true := hr.pins
    rcases h5 with h5 | ⟨_, h5⟩
    · rw [hq] at h5; cases h5
    · generalize (goesWith t (sortT t.pres)).pins = P at *
      generalize (t.pr k).side.toNat = i at *
      have hkl : i < P.length := by
        rcases Nat.lt_or_ge i P.length with h | h
        · exact h
        · rw [List.getD_eq_getElem?_getD, List.getElem?_eq_none h] at h5; simp at h5
      rw [List.getD_eq_getElem?_getD, List.getElem?_eq_getElem hkl] at h5
      have := List.all_eq_true.1 hpn _ (List.getElem_mem hkl)
      simp at h5
      rw [h5] at this; cases this
  · obtain ⟨i, hi, rfl⟩ := List.getElem_of_mem hx
    have hi : i < (playsS t).length := hi
    have hij : j' ≤ i := by
      rcases Nat.lt_or_ge i j' with h | h
      · exact absurd ⟨hx1, hx2⟩ (h3' i h)
      · exact h
    have hle : (playsS t)[j'].time ≤ (playsS t)[i].time := by
      rcases Nat.lt_or_ge j' i with h | h
      · have h6 := List.pairwise_iff_getElem.1 hr.inv.spc j' i hj hi h
        have h7 := hr.inv.ply _ (List.getElem_mem hj)
        have h8 := secs_ok ht (s := (playsS t)[j'].side.toNat) (by have h7 : 0 ≤ (playsS t)[j'].side ∧ (playsS t)[j'].side < 2 * (t.n : Int) ∧ _ := h7; omega)
        have h6 : (playsS t)[j'].time + secsI t (playsS t)[j'].side ≤ (playsS t)[i].time := h6
        unfold secsI at h6
        omega
      · have : j' = i := by omega
        subst this; exact Int.le_refl _
    have hx3 : (playsS t)[i].time ≤ _ := hx3
    omega
/-- Each play serves a press. -/
theorem play_serves {t : Tray} (ht : TrayOk t) {i : Nat} (hi : i < (playsS t).length) : ∃ k, k < t.pres.length ∧ servesI (playsS t) (t.pr (k : Int)) 0 = (i : Int) := by
  have hd := due ht (sortT_perm t.pres) (sortT_sorted t.pres)
  obtain ⟨p, hp, h1, h2, h3⟩ := hd.ply i hi
  have h1 : p.side = (playsS t)[i].side := h1
  have h2 : p.time ≤ (playsS t)[i].time := h2
  obtain ⟨k, hk, rfl⟩ := List.getElem_of_mem hp
  have e : t.pr (k : Int) = t.pres[k] := by unfold Tray.pr; rw [Int.toNat_natCast, List.getD_eq_getElem?_getD, List.getElem?_eq_getElem hk]; rfl
  refine ⟨k, hk, ?_⟩
  rw [e]
  rcases servesI_spec t.pres[k] (playsS t) 0 with ⟨_, h4⟩ | ⟨j, hj, h4, h5, h6⟩
  · exact absurd ⟨h1.symm, h2⟩ (h4 _ (List.getElem_mem hi))
  · rw [h4]
    rcases Nat.lt_trichotomy j i with h | h | h
    · have h7 := h3 j h h5.1
      have h7 : (playsS t)[j].time < _ := h7
      omega
    · omega
    · exact absurd ⟨h1.symm, h2⟩ (h6 i h)
/-- How long all sides last. -/
def sumT (t : Tray) : Nat → Int
  | 0 => 0
  | k + 1 => sumT t k + ((t.rc k).front + (t.rc k).back)
theorem round_sum {t : Tray} (ht : TrayOk t) : roundC t = 2 * t.step * ((t.n : Int) - 1) + sumT t t.n := by
  have h6 := ht.n6
  have h1 := ht.n1
  unfold roundC
  generalize hn : t.n = n at *
  rcases (by omega : n = 1 ∨ n = 2 ∨ n = 3 ∨ n = 4 ∨ n = 5 ∨ n = 6) with rfl | rfl | rfl | rfl | rfl | rfl <;>
    simp [preC, costC, goC, sideC, hn, secs, sumT] <;> omega
end Go.Proofs.Ytkpgpgaojjobgaa

namespace Go.Proofs.Ytkpgpgaojjobgaa
open Go Go.V
@[reducible] def o13_0 : List Ins := [⟨(some 1), .box 5 (.t 0), none, true⟩,
  ⟨(some 2), .mv (.k (.c (.bool false))), none, true⟩]
@[reducible] def o13_1 : List Ins := [⟨(some 17), .ld false 5 (.t 1), none, true⟩,
  ⟨(some 18), .call (.k (.fn 16 [])) [(.t 17)], none, true⟩,
  ⟨(some 19), .un .not (.t 18), none, true⟩]
@[reducible] def o13_2 : List Ins := [⟨(some 20), .call (.k (.fn 19 [])) [], none, true⟩,
  ⟨(some 2), .mv (.t 20), none, true⟩]
@[reducible] def v13_3 : VC := (.seq (.ops o13_2) .ret)
@[reducible] def v13_4 : VC := (.cond (.t 19) v13_3 .skip)
@[reducible] def o13_5 : List Ins := [⟨(some 22), .ld false 5 (.t 1), none, true⟩,
  ⟨(some 23), .call (.k (.fn 22 [])) [(.t 22)], none, true⟩,
  ⟨(some 21), .mv (.t 23), none, true⟩,
  ⟨(some 24), .ext (.t 21) 0, none, true⟩,
  ⟨(some 25), .ext (.t 21) 1, none, true⟩,
  ⟨(some 3), .mv (.t 24), none, true⟩,
  ⟨(some 4), .mv (.t 25), none, true⟩]
@[reducible] def o13_6 : List Ins := [⟨(some 26), .mv (.t 4), none, true⟩,
  ⟨(some 27), .bin .neq (.t 26) (.k (.c (.int .i64 0))), none, true⟩,
  ⟨(some 28), .mv (.t 27), none, true⟩,
  ⟨(some 29), .ld false 5 (.t 1), (some (28, false)), true⟩,
  ⟨(some 30), .mv (.t 3), (some (28, false)), true⟩,
  ⟨(some 31), .call (.k (.fn 23 [])) [(.t 29), (.t 30)], (some (28, false)), true⟩,
  ⟨(some 32), .un .not (.t 31), (some (28, false)), true⟩,
  ⟨(some 33), .pick (.t 28) (.k (.c (.bool true))) (.t 32), none, true⟩]
@[reducible] def o13_7 : List Ins := [⟨(some 2), .mv (.k (.c (.bool false))), none, true⟩]
@[reducible] def v13_8 : VC := (.seq (.ops o13_7) .ret)
@[reducible] def v13_9 : VC := (.cond (.t 33) v13_8 .skip)
@[reducible] def o13_10 : List Ins := [⟨(some 34), .fa 3 (.t 1), none, true⟩,
  ⟨(some 35), .ld true 1 (.t 34), none, true⟩,
  ⟨(some 36), .bin .mul (.k (.c (.int .i64 2))) (.t 35), none, true⟩,
  ⟨(some 37), .fa 0 (.t 1), none, true⟩,
  ⟨(some 38), .ld true 1 (.t 37), none, true⟩,
  ⟨(some 39), .len (.t 38), none, true⟩,
  ⟨(some 40), .bin .sub (.t 39) (.k (.c (.int .i64 1))), none, true⟩,
  ⟨(some 41), .bin .mul (.t 36) (.t 40), none, true⟩,
  ⟨(some 5), .mv (.t 41), none, true⟩]
@[reducible] def o13_11 : List Ins := [⟨(some 6), .mv (.k (.c (.int .i64 0))), none, true⟩]
@[reducible] def o13_12 : List Ins := [⟨(some 42), .mv (.t 6), none, true⟩,
  ⟨(some 43), .fa 0 (.t 1), none, true⟩,
  ⟨(some 44), .ld true 1 (.t 43), none, true⟩,
  ⟨(some 45), .len (.t 44), none, true⟩,
  ⟨(some 46), .bin .lss (.t 42) (.t 45), none, true⟩]
@[reducible] def v13_13 : VC := (.cond (.t 46) .skip (.exit 0))
@[reducible] def o13_14 : List Ins := [⟨(some 49), .mv (.t 5), none, false⟩,
  ⟨(some 50), .fa 0 (.t 1), none, false⟩,
  ⟨(some 51), .ld true 1 (.t 50), none, false⟩,
  ⟨(some 52), .mv (.t 6), none, false⟩,
  ⟨(some 53), .ia 2 (.t 51) (.t 52), none, false⟩,
  ⟨(some 54), .fa 0 (.t 53), none, false⟩,
  ⟨(some 55), .ld true 1 (.t 54), none, false⟩,
  ⟨(some 56), .fa 0 (.t 1), none, false⟩,
  ⟨(some 57), .ld true 1 (.t 56), none, false⟩,
  ⟨(some 58), .mv (.t 6), none, false⟩,
  ⟨(some 59), .ia 2 (.t 57) (.t 58), none, false⟩,
  ⟨(some 60), .fa 1 (.t 59), none, false⟩,
  ⟨(some 61), .ld true 1 (.t 60), none, false⟩,
  ⟨(some 62), .bin .add (.t 55) (.t 61), none, false⟩,
  ⟨(some 63), .bin .add (.t 49) (.t 62), none, true⟩,
  ⟨(some 5), .mv (.t 63), none, true⟩]
@[reducible] def o13_15 : List Ins := [⟨(some 47), .mv (.t 6), none, true⟩,
  ⟨(some 48), .bin .add (.t 47) (.k (.c (.int .i64 1))), none, true⟩,
  ⟨(some 6), .mv (.t 48), none, true⟩]
@[reducible] def v13_16 : VC := (.seq (.block 1 (.ops o13_14)) (.ops o13_15))
@[reducible] def v13_17 : VC := (.seq (.seq (.ops o13_12) v13_13) v13_16)
-- K13_1: changed and kept: [6, 5]
@[reducible] def K13_1 : List Nat := [1, 3]
@[reducible] def v13_18 : VC := (.loop v13_17)
@[reducible] def v13_19 : VC := (.block 0 v13_18)
@[reducible] def o13_20 : List Ins := [⟨(some 64), .mv (.t 3), none, true⟩,
  ⟨(some 65), .len (.t 64), none, true⟩,
  ⟨(some 66), .mks 3 1 8 [(.c (.int .i64 0))] (.t 65) (.t 65), none, true⟩,
  ⟨(some 7), .mv (.t 66), none, true⟩]
@[reducible] def o13_21 : List Ins := [⟨(some 8), .mv (.k (.c (.int .i64 0))), none, true⟩]
@[reducible] def o13_22 : List Ins := [⟨(some 67), .mv (.t 8), none, true⟩,
  ⟨(some 68), .fa 4 (.t 1), none, true⟩,
  ⟨(some 69), .ld true 1 (.t 68), none, true⟩,
  ⟨(some 70), .len (.t 69), none, true⟩,
  ⟨(some 71), .bin .lss (.t 67) (.t 70), none, true⟩]
@[reducible] def v13_23 : VC := (.cond (.t 71) .skip (.exit 2))
@[reducible] def o13_24 : List Ins := [⟨(some 75), .ld false 5 (.t 1), none, true⟩,
  ⟨(some 76), .mv (.t 8), none, true⟩,
  ⟨(some 77), .call (.k (.fn 33 [])) [(.t 75), (.t 76)], none, true⟩,
  ⟨(some 74), .mv (.t 77), none, true⟩,
  ⟨(some 78), .ext (.t 74) 0, none, true⟩,
  ⟨(some 79), .ext (.t 74) 1, none, true⟩,
  ⟨(some 9), .mv (.t 78), none, true⟩,
  ⟨(some 10), .mv (.t 79), none, true⟩]
@[reducible] def o13_25 : List Ins := [⟨(some 81), .ld false 5 (.t 1), none, true⟩,
  ⟨(some 82), .mv (.t 8), none, true⟩,
  ⟨(some 83), .call (.k (.fn 27 [])) [(.t 81), (.t 82)], none, true⟩,
  ⟨(some 80), .mv (.t 83), none, true⟩,
  ⟨(some 84), .ext (.t 80) 0, none, true⟩,
  ⟨(some 85), .ext (.t 80) 1, none, true⟩,
  ⟨(some 11), .mv (.t 84), none, true⟩,
  ⟨(some 12), .mv (.t 85), none, true⟩]
@[reducible] def o13_26 : List Ins := [⟨(some 86), .mv (.t 10), none, true⟩,
  ⟨(some 87), .bin .neq (.t 86) (.k (.c (.int .i64 0))), none, true⟩,
  ⟨(some 88), .mv (.t 87), none, true⟩,
  ⟨(some 89), .mv (.t 12), (some (88, false)), true⟩,
  ⟨(some 90), .bin .neq (.t 89) (.k (.c (.int .i64 0))), (some (88, false)), true⟩,
  ⟨(some 91), .pick (.t 88) (.k (.c (.bool true))) (.t 90), none, true⟩,
  ⟨(some 92), .mv (.t 91), none, true⟩,
  ⟨(some 93), .mv (.t 9), (some (92, false)), true⟩,
  ⟨(some 94), .bin .lss (.t 93) (.k (.c (.int .i64 0))), (some (92, false)), true⟩,
  ⟨(some 95), .pick (.t 92) (.k (.c (.bool true))) (.t 94), none, true⟩,
  ⟨(some 96), .mv (.t 95), none, true⟩,
  ⟨(some 97), .mv (.t 9), (some (96, false)), false⟩,
  ⟨(some 98), .mv (.t 3), (some (96, false)), false⟩,
  ⟨(some 99), .len (.t 98), (some (96, false)), false⟩,
  ⟨(some 100), .bin .geq (.t 97) (.t 99), (some (96, false)), true⟩,
  ⟨(some 101), .pick (.t 96) (.k (.c (.bool true))) (.t 100), none, true⟩,
  ⟨(some 102), .mv (.t 101), none, true⟩,
  ⟨(some 103), .mv (.t 11), (some (102, false)), true⟩,
  ⟨(some 104), .bin .lss (.t 103) (.k (.c (.int .i64 0))), (some (102, false)), true⟩,
  ⟨(some 105), .pick (.t 102) (.k (.c (.bool true))) (.t 104), none, true⟩,
  ⟨(some 106), .mv (.t 105), none, true⟩,
  ⟨(some 107), .mv (.t 11), (some (106, false)), false⟩,
  ⟨(some 108), .mv (.t 5), (some (106, false)), false⟩,
  ⟨(some 109), .bin .gtr (.t 107) (.t 108), (some (106, false)), true⟩,
  ⟨(some 110), .pick (.t 106) (.k (.c (.bool true))) (.t 109), none, true⟩,
  ⟨(some 111), .mv (.t 110), none, true⟩,
  ⟨(some 112), .mv (.t 3), (some (111, false)), false⟩,
  ⟨(some 113), .mv (.t 9), (some (111, false)), false⟩,
  ⟨(some 114), .ia 2 (.t 112) (.t 113), (some (111, false)), false⟩,
  ⟨(some 115), .fa 0 (.t 114), (some (111, false)), false⟩,
  ⟨(some 116), .ld true 1 (.t 115), (some (111, false)), false⟩,
  ⟨(some 117), .fa 4 (.t 1), (some (111, false)), false⟩,
  ⟨(some 118), .ld true 1 (.t 117), (some (111, false)), false⟩,
  ⟨(some 119), .mv (.t 8), (some (111, false)), false⟩,
  ⟨(some 120), .ia 2 (.t 118) (.t 119), (some (111, false)), false⟩,
  ⟨(some 121), .fa 0 (.t 120), (some (111, false)), false⟩,
  ⟨(some 122), .ld true 1 (.t 121), (some (111, false)), false⟩,
  ⟨(some 123), .bin .neq (.t 116) (.t 122), (some (111, false)), true⟩,
  ⟨(some 124), .pick (.t 111) (.k (.c (.bool true))) (.t 123), none, true⟩,
  ⟨(some 125), .mv (.t 124), none, true⟩,
  ⟨(some 126), .mv (.t 3), (some (125, false)), false⟩,
  ⟨(some 127), .mv (.t 9), (some (125, false)), false⟩,
  ⟨(some 128), .ia 2 (.t 126) (.t 127), (some (125, false)), false⟩,
  ⟨(some 129), .fa 1 (.t 128), (some (125, false)), false⟩,
  ⟨(some 130), .ld true 1 (.t 129), (some (125, false)), false⟩,
  ⟨(some 131), .fa 4 (.t 1), (some (125, false)), false⟩,
  ⟨(some 132), .ld true 1 (.t 131), (some (125, false)), false⟩,
  ⟨(some 133), .mv (.t 8), (some (125, false)), false⟩,
  ⟨(some 134), .ia 2 (.t 132) (.t 133), (some (125, false)), false⟩,
  ⟨(some 135), .fa 1 (.t 134), (some (125, false)), false⟩,
  ⟨(some 136), .ld true 1 (.t 135), (some (125, false)), false⟩,
  ⟨(some 137), .mv (.t 11), (some (125, false)), false⟩,
  ⟨(some 138), .bin .add (.t 136) (.t 137), (some (125, false)), false⟩,
  ⟨(some 139), .bin .neq (.t 130) (.t 138), (some (125, false)), true⟩,
  ⟨(some 140), .pick (.t 125) (.k (.c (.bool true))) (.t 139), none, true⟩]
@[reducible] def o13_27 : List Ins := [⟨(some 2), .mv (.k (.c (.bool false))), none, true⟩]
@[reducible] def v13_28 : VC := (.seq (.ops o13_27) .ret)
@[reducible] def v13_29 : VC := (.cond (.t 140) v13_28 .skip)
@[reducible] def o13_30 : List Ins := [⟨(some 141), .mv (.t 7), none, true⟩,
  ⟨(some 142), .mv (.t 9), none, true⟩,
  ⟨(some 143), .ia 1 (.t 141) (.t 142), none, true⟩,
  ⟨(some 144), .ld true 1 (.t 143), none, true⟩,
  ⟨(some 145), .bin .add (.t 144) (.k (.c (.int .i64 1))), none, true⟩,
  ⟨(some 146), .ia 1 (.t 141) (.t 142), none, true⟩,
  ⟨none, .st 1 (.t 146) (.t 145), none, true⟩]
@[reducible] def v13_31 : VC := (.seq (.seq (.ops o13_26) v13_29) (.ops o13_30))
@[reducible] def v13_32 : VC := (.seq (.ops o13_25) v13_31)
@[reducible] def v13_33 : VC := (.seq (.ops o13_24) v13_32)
@[reducible] def o13_34 : List Ins := [⟨(some 72), .mv (.t 8), none, true⟩,
  ⟨(some 73), .bin .add (.t 72) (.k (.c (.int .i64 1))), none, true⟩,
  ⟨(some 8), .mv (.t 73), none, true⟩]
@[reducible] def v13_35 : VC := (.seq (.block 3 v13_33) (.ops o13_34))
@[reducible] def v13_36 : VC := (.seq (.seq (.ops o13_22) v13_23) v13_35)
-- K13_2: changed and kept: [8]
@[reducible] def K13_2 : List Nat := [1, 3, 5, 7]
@[reducible] def v13_37 : VC := (.loop v13_36)
@[reducible] def v13_38 : VC := (.block 2 v13_37)
@[reducible] def o13_39 : List Ins := [⟨(some 13), .mv (.k (.c (.int .i64 0))), none, true⟩]
@[reducible] def o13_40 : List Ins := [⟨(some 147), .mv (.t 13), none, true⟩,
  ⟨(some 148), .mv (.t 3), none, true⟩,
  ⟨(some 149), .len (.t 148), none, true⟩,
  ⟨(some 150), .bin .lss (.t 147) (.t 149), none, true⟩]
@[reducible] def v13_41 : VC := (.cond (.t 150) .skip (.exit 4))
@[reducible] def o13_42 : List Ins := [⟨(some 153), .mv (.t 7), none, true⟩,
  ⟨(some 154), .mv (.t 13), none, true⟩,
  ⟨(some 155), .ia 1 (.t 153) (.t 154), none, true⟩,
  ⟨(some 156), .ld true 1 (.t 155), none, true⟩,
  ⟨(some 157), .bin .eql (.t 156) (.k (.c (.int .i64 0))), none, true⟩]
@[reducible] def o13_43 : List Ins := [⟨(some 2), .mv (.k (.c (.bool false))), none, true⟩]
@[reducible] def v13_44 : VC := (.seq (.ops o13_43) .ret)
@[reducible] def v13_45 : VC := (.cond (.t 157) v13_44 .skip)
@[reducible] def v13_46 : VC := (.seq (.ops o13_42) v13_45)
@[reducible] def o13_47 : List Ins := [⟨(some 151), .mv (.t 13), none, true⟩,
  ⟨(some 152), .bin .add (.t 151) (.k (.c (.int .i64 1))), none, true⟩,
  ⟨(some 13), .mv (.t 152), none, true⟩]
@[reducible] def v13_48 : VC := (.seq (.block 5 v13_46) (.ops o13_47))
@[reducible] def v13_49 : VC := (.seq (.seq (.ops o13_40) v13_41) v13_48)
-- K13_3: changed and kept: [13]
@[reducible] def K13_3 : List Nat := [1, 3, 7]
@[reducible] def v13_50 : VC := (.loop v13_49)
@[reducible] def v13_51 : VC := (.block 4 v13_50)
@[reducible] def o13_52 : List Ins := [⟨(some 159), .ld false 5 (.t 1), none, true⟩,
  ⟨(some 160), .call (.k (.fn 38 [])) [(.t 159)], none, true⟩,
  ⟨(some 158), .mv (.t 160), none, true⟩,
  ⟨(some 161), .ext (.t 158) 0, none, true⟩,
  ⟨(some 162), .ext (.t 158) 1, none, true⟩,
  ⟨(some 14), .mv (.t 161), none, true⟩,
  ⟨(some 15), .mv (.t 162), none, true⟩]
@[reducible] def o13_53 : List Ins := [⟨(some 163), .mv (.t 3), none, true⟩,
  ⟨(some 164), .len (.t 163), none, true⟩,
  ⟨(some 165), .bin .eql (.t 164) (.k (.c (.int .i64 0))), none, true⟩]
@[reducible] def o13_54 : List Ins := [⟨(some 166), .mv (.t 15), none, true⟩,
  ⟨(some 167), .bin .eql (.t 166) (.k (.c (.int .i64 3))), none, true⟩,
  ⟨(some 168), .mv (.t 167), none, true⟩,
  ⟨(some 169), .fa 4 (.t 1), (some (168, true)), true⟩,
  ⟨(some 170), .ld true 1 (.t 169), (some (168, true)), true⟩,
  ⟨(some 171), .len (.t 170), (some (168, true)), true⟩,
  ⟨(some 172), .bin .eql (.t 171) (.k (.c (.int .i64 0))), (some (168, true)), true⟩,
  ⟨(some 173), .pick (.t 168) (.t 172) (.k (.c (.bool false))), none, true⟩,
  ⟨(some 174), .mv (.t 173), none, true⟩,
  ⟨(some 175), .call (.k (.fn 19 [])) [], (some (174, true)), true⟩,
  ⟨(some 176), .pick (.t 174) (.t 175) (.k (.c (.bool false))), none, true⟩,
  ⟨(some 2), .mv (.t 176), none, true⟩]
@[reducible] def v13_55 : VC := (.seq (.ops o13_54) .ret)
@[reducible] def v13_56 : VC := (.cond (.t 165) v13_55 .skip)
@[reducible] def o13_57 : List Ins := [⟨(some 177), .mv (.t 3), none, true⟩,
  ⟨(some 178), .mv (.t 3), none, true⟩,
  ⟨(some 179), .len (.t 178), none, true⟩,
  ⟨(some 180), .bin .sub (.t 179) (.k (.c (.int .i64 1))), none, true⟩,
  ⟨(some 181), .ia 2 (.t 177) (.t 180), none, true⟩,
  ⟨(some 182), .ld false 2 (.t 181), none, true⟩,
  ⟨(some 16), .alloc [(.c (.int .i64 0)), (.c (.int .i64 0))], none, true⟩,
  ⟨none, .st 2 (.t 16) (.t 182), none, true⟩]
@[reducible] def o13_58 : List Ins := [⟨(some 183), .mv (.t 15), none, true⟩,
  ⟨(some 184), .bin .eql (.t 183) (.k (.c (.int .i64 0))), none, true⟩,
  ⟨(some 185), .mv (.t 184), none, true⟩,
  ⟨(some 186), .mv (.t 14), (some (185, true)), false⟩,
  ⟨(some 187), .fa 1 (.t 16), (some (185, true)), false⟩,
  ⟨(some 188), .ld true 1 (.t 187), (some (185, true)), false⟩,
  ⟨(some 189), .ld false 5 (.t 1), (some (185, true)), false⟩,
  ⟨(some 190), .fa 0 (.t 16), (some (185, true)), false⟩,
  ⟨(some 191), .ld true 1 (.t 190), (some (185, true)), false⟩,
  ⟨(some 192), .call (.k (.fn 24 [])) [(.t 189), (.t 191)], (some (185, true)), false⟩,
  ⟨(some 193), .bin .add (.t 188) (.t 192), (some (185, true)), false⟩,
  ⟨(some 194), .bin .eql (.t 186) (.t 193), (some (185, true)), true⟩,
  ⟨(some 195), .pick (.t 185) (.t 194) (.k (.c (.bool false))), none, true⟩,
  ⟨(some 196), .mv (.t 195), none, true⟩,
  ⟨(some 197), .call (.k (.fn 19 [])) [], (some (196, true)), true⟩,
  ⟨(some 198), .pick (.t 196) (.t 197) (.k (.c (.bool false))), none, true⟩,
  ⟨(some 2), .mv (.t 198), none, true⟩]
@[reducible] def v13_59 : VC := (.seq (.ops o13_58) .ret)
@[reducible] def v13_60 : VC := (.seq (.ops o13_57) v13_59)
@[reducible] def v13_61 : VC := (.seq (.seq (.ops o13_53) v13_56) v13_60)
@[reducible] def v13_62 : VC := (.seq (.ops o13_52) v13_61)
@[reducible] def v13_63 : VC := (.seq (.seq (.ops o13_39) v13_51) v13_62)
@[reducible] def v13_64 : VC := (.seq (.seq (.ops o13_21) v13_38) v13_63)
@[reducible] def v13_65 : VC := (.seq (.ops o13_20) v13_64)
@[reducible] def v13_66 : VC := (.seq (.seq (.ops o13_11) v13_19) v13_65)
@[reducible] def v13_67 : VC := (.seq (.ops o13_10) v13_66)
@[reducible] def v13_68 : VC := (.seq (.seq (.ops o13_6) v13_9) v13_67)
@[reducible] def v13_69 : VC := (.seq (.ops o13_5) v13_68)
@[reducible] def v13_70 : VC := (.seq (.seq (.ops o13_1) v13_4) v13_69)
def ir13 : FC := ⟨1, 199, [.t 2], (.seq (.ops o13_0) v13_70)⟩
theorem c13 : compM Try.prog [] 13 = some ir13 := by kernel_rfl



/-- How many of the first presses each play serves. -/
def cntS (f : Nat → Nat) (n k : Nat) : List Nat := (List.range n).map fun i => (List.range k).countP fun j => f j == i
theorem cntS_len (f : Nat → Nat) (n k : Nat) : (cntS f n k).length = n := by simp [cntS]
theorem cntS_get (f : Nat → Nat) {n k i : Nat} (h : i < n) (h' : i < (cntS f n k).length) : (cntS f n k)[i] = (List.range k).countP fun j => f j == i := by simp [cntS]
theorem cntS_zero (f : Nat → Nat) (n : Nat) : cntS f n 0 = List.replicate n 0 := by
  unfold cntS
  refine List.ext_getElem (by simp) fun i h1 h2 => ?_
  simp
theorem cntS_step (f : Nat → Nat) {n k : Nat} : (cntS f n k).set (f k) ((List.range k).countP (fun j => f j == f k) + 1) = cntS f n (k + 1) := by
  refine List.ext_getElem (by simp [cntS_len]) fun i h1 h2 => ?_
  rw [cntS_len] at h2
  rw [List.getElem_set, cntS_get f (k := k + 1) h2, List.range_succ, List.countP_append]
  by_cases e : f k = i
  · rw [if_pos e, e]; simp [e]
  · rw [if_neg e, cntS_get f h2]; simp [e]
theorem countP_le_range (g : Nat → Bool) (k : Nat) : (List.range k).countP g ≤ k := by
  have := List.countP_le_length (p := g) (l := List.range k)
  simpa using this
theorem countP_pos_range {g : Nat → Bool} {k i : Nat} (h : i < k) (hg : g i = true) : 0 < (List.range k).countP g := List.countP_pos_iff.2 ⟨i, List.mem_range.2 h, hg⟩
theorem zeros_cells (n : Nat) : (List.replicate n [AV.c (.int .i64 0)]).flatten = cellsG ncd (List.replicate n 0) 0 := by
  have : ∀ n, (List.replicate n [AV.c (.int .i64 0)]).flatten = (flatG ncd (List.replicate n 0)).map .c := by
    intro n
    induction n with
    | zero => rfl
    | succ n ih => rw [List.replicate_succ, List.flatten_cons, ih, List.replicate_succ, flatG_cons]; rfl
  rw [this]; simp [cellsG]
theorem sumT_le {t : Tray} (ht : TrayOk t) : ∀ k, k ≤ t.n → 0 ≤ sumT t k ∧ sumT t k ≤ 1998 * (k : Int)
  | 0, _ => ⟨Int.le_refl _, Int.le_refl _⟩
  | k + 1, h => by
    have h1 := sumT_le ht k (by omega)
    have h2 := rec_ok ht (k := k) (by omega)
    simp only [sumT]; omega
theorem step_le {t : Tray} (ht : TrayOk t) : 0 ≤ 2 * t.step * ((t.n : Int) - 1) ∧ 2 * t.step * ((t.n : Int) - 1) ≤ 600 := by
  have h6 := ht.n6
  have h1 := ht.n1
  have hs := ht.step
  generalize t.n = n at *
  generalize t.step = s at *
  rcases (by omega : n = 1 ∨ n = 2 ∨ n = 3 ∨ n = 4 ∨ n = 5 ∨ n = 6) with rfl | rfl | rfl | rfl | rfl | rfl <;> omega
def srvN (t : Tray) (k : Nat) : Nat := (servesI (playsS t) (t.pr (k : Int)) 0).toNat
structure OnceK (t : Tray) (k : Nat) : Prop where
  lt : srvN t k < (playsS t).length
  eq : servesI (playsS t) (t.pr (k : Int)) 0 = (srvN t k : Int)
  side : ((playsS t).getD (srvN t k) default).side = (t.pres.getD k default).side
  time : ((playsS t).getD (srvN t k) default).time = (t.pres.getD k default).time + waitV t k
  w : 0 ≤ waitV t k ∧ waitV t k ≤ roundC t
  b : 0 ≤ (t.pres.getD k default).time ∧ (t.pres.getD k default).time ≤ 9999 ∧ (t.pres.getD k default).time + waitV t k ≤ 300000
theorem onceK {t : Tray} (ht : TrayOk t) {k : Nat} (hk : k < t.pres.length) : OnceK t k := by
  have hin : inR t (k : Int) = true := inR_nat hk
  obtain ⟨j, hj, h1, h2, h3, h4, h5, h6, h7, h8⟩ := served_get ht hin
  have e : srvN t k = j := by unfold srvN; rw [h1]; rfl
  have ep : t.pr (k : Int) = t.pres.getD k default := by unfold Tray.pr; rw [Int.toNat_natCast]
  have eg : (playsS t).getD j default = (playsS t)[j] := by rw [List.getD_eq_getElem?_getD, List.getElem?_eq_getElem hj]; rfl
  have hw := wait_round ht hin
  rw [ep] at h2 h3 h4 h7 h8
  refine ⟨by rw [e]; exact hj, by rw [e]; exact h1, by rw [e, eg]; exact h2, by rw [e, eg]; omega, by omega, by omega⟩
theorem map_getD' {l : List Pr} {k : Nat} (h : k < l.length) : (l.map Pr.cds).getD k [] = [.int .i64 (l.getD k default).side, .int .i64 (l.getD k default).time] := by
  rw [map_getD h, List.getD_eq_getElem?_getD, List.getElem?_eq_getElem h]; rfl
theorem last_end {t : Tray} (ht : TrayOk t) {n : Nat} (hn : (playsS t).length = n + 1) : (goesS t).end_ = ((playsS t).getD n default).time + secsI t ((playsS t).getD n default).side := by
  have h := (goes_ok ht).inv.end_
  have e : (goesS t).plays.getLast? = some ((playsS t).getD n default) := by
    show (playsS t).getLast? = _
    rw [List.getLast?_eq_getElem?, hn, List.getD_eq_getElem?_getD]
    rw [Nat.add_sub_cancel, List.getElem?_eq_getElem (by omega)]; rfl
  rw [e] at h
  exact h
set_option maxRecDepth 20000 in
set_option maxHeartbeats 8000000 in
theorem law13 (t : Tray) : FSpec Try.prog 13 [t.av] (.c (.bool true)) := by
  have hready := ready16 t
  have hmax : maxLen = 9223372036854775807 := rfl
  by_cases hok : t.ok = true
  rotate_left
  · have hok : t.ok = false := by simpa using hok
    rw [hok] at hready
    refine FSpec_of c13 (Nat.le_refl _) (by decide) fun C hP hN hC hL => ?_
    simp only [ir13, Tray.av]
    (repeat ((first | refine WV_seq_ ?_ | refine WV_block ?_ | refine WV_ops ?_ | refine WV_skip ?_ | refine WV_exit ?_); (try simp only [go_sem, init_env', Nat.reduceEqDiff, Nat.reduceAdd, Nat.reduceMul, reduceIte, Nat.reduceLeDiff, Nat.reduceLT, Nat.reduceBEq, reduceCtorEq, hP, ]); (repeat (refine And.intro (by first | omega | (intros; simp_all; done) | (intros; simp_all; omega)) ?_))))
    (refine AS_pure (hready) rfl rfl rfl rfl rfl ?_; simp only [go_sem, init_env', Nat.reduceEqDiff, Nat.reduceAdd, Nat.reduceMul, reduceIte, Nat.reduceLeDiff, Nat.reduceLT, Nat.reduceBEq, reduceCtorEq, hP, Tray.av]; (repeat (refine And.intro (by first | omega | (intros; simp_all; done) | (intros; simp_all; omega)) ?_)); (repeat ((first | refine WV_seq_ ?_ | refine WV_block ?_ | refine WV_ops ?_ | refine WV_skip ?_ | refine WV_exit ?_); (try simp only [go_sem, init_env', Nat.reduceEqDiff, Nat.reduceAdd, Nat.reduceMul, reduceIte, Nat.reduceLeDiff, Nat.reduceLT, Nat.reduceBEq, reduceCtorEq, hP, Tray.av]); (repeat (refine And.intro (by first | omega | (intros; simp_all; done) | (intros; simp_all; omega)) ?_)))))
    (refine WV_cond rfl (fun h => ?_) (fun h => ?_))
    · (repeat ((first | refine WV_seq_ ?_ | refine WV_block ?_ | refine WV_ops ?_ | refine WV_skip ?_ | refine WV_exit ?_); (try simp only [go_sem, init_env', Nat.reduceEqDiff, Nat.reduceAdd, Nat.reduceMul, reduceIte, Nat.reduceLeDiff, Nat.reduceLT, Nat.reduceBEq, reduceCtorEq, hP, ]); (repeat (refine And.intro (by first | omega | (intros; simp_all; done) | (intros; simp_all; omega)) ?_))))
      (refine AS_pure (works19) rfl rfl rfl rfl rfl ?_; simp only [go_sem, init_env', Nat.reduceEqDiff, Nat.reduceAdd, Nat.reduceMul, reduceIte, Nat.reduceLeDiff, Nat.reduceLT, Nat.reduceBEq, reduceCtorEq, hP, ]; (repeat (refine And.intro (by first | omega | (intros; simp_all; done) | (intros; simp_all; omega)) ?_)); (repeat ((first | refine WV_seq_ ?_ | refine WV_block ?_ | refine WV_ops ?_ | refine WV_skip ?_ | refine WV_exit ?_); (try simp only [go_sem, init_env', Nat.reduceEqDiff, Nat.reduceAdd, Nat.reduceMul, reduceIte, Nat.reduceLeDiff, Nat.reduceLT, Nat.reduceBEq, reduceCtorEq, hP, ]); (repeat (refine And.intro (by first | omega | (intros; simp_all; done) | (intros; simp_all; omega)) ?_)))))
      (refine WV_ret ?_; simp only [thenQ, inQ, RetQ, RetOk, resAll, resA]; simp only [go_sem, init_env', Nat.reduceEqDiff, Nat.reduceAdd, Nat.reduceMul, reduceIte, Nat.reduceLeDiff, Nat.reduceLT, Nat.reduceBEq, reduceCtorEq, tupA, AV.port, AV.portL, exists_eq_left', ]; (first | exact AVle.of rfl | refine AVle.of ?_ | skip))
    · simp at h
  rw [hok] at hready
  obtain ⟨ht, h12⟩ := Tray.ok_spec hok
  have hn6 := ht.n6
  have hn1 := ht.n1
  have hrl : t.recs.length = t.n := rfl
  have b2 := plays22 t
  rw [show playsR t = (playsS t, 0) by unfold playsR; rw [hok]; rfl] at b2
  have hsane := run_sane ht (goes_ok ht)
  have b3 := sane23 ht (l := playsS t) hsane
  have hside : ∀ p ∈ playsS t, 0 ≤ p.side ∧ p.side < 2 * (t.n : Int) := hsane.side
  have htm2 : ∀ p ∈ playsS t, 0 ≤ p.time ∧ p.time ≤ 300000 := hsane.time
  have hlen : (playsS t).length ≤ 13 := plays_len ht
  have hser := fun i (hi : i < (playsS t).length) => play_serves ht hi
  have honce := fun k (hk : k < t.pres.length) => onceK ht hk
  have hrs := round_sum ht
  have hM := step_le ht
  have hst := ht.step
  have bs := fun k : Nat => served33 t (k : Int)
  have bw := fun k : Nat => wait27 t (k : Int)
  have hsr : ∀ k : Nat, k < t.pres.length → servedR t (k : Int) = (servesI (playsS t) (t.pr (k : Int)) 0, playsS t, 0) := fun k hk => by unfold servedR; rw [hok, inR_nat hk]; rfl
  have hwr : ∀ k : Nat, k < t.pres.length → waitR t (k : Int) = (waitV t (k : Int), 0) := fun k hk => by unfold waitR; rw [hsr k hk]; rfl
  have be := end38 t
  have hlast := fun n hn => last_end (n := n) ht hn
  have w1 := w64 (n := 2 * t.step) (by omega) (by omega)
  have w2 := w64 (n := (t.n : Int) - 1) (by omega) (by omega)
  have w3 := w64 (n := 2 * t.step * ((t.n : Int) - 1)) (by omega) (by omega)
  generalize hM0 : 2 * t.step * ((t.n : Int) - 1) = M0 at *
  refine FSpec_of c13 (Nat.le_refl _) (by decide) fun C hP hN hC hL => ?_
  simp only [ir13, Tray.av]
  (repeat ((first | refine WV_seq_ ?_ | refine WV_block ?_ | refine WV_ops ?_ | refine WV_skip ?_ | refine WV_exit ?_); (try simp only [go_sem, init_env', Nat.reduceEqDiff, Nat.reduceAdd, Nat.reduceMul, reduceIte, Nat.reduceLeDiff, Nat.reduceLT, Nat.reduceBEq, reduceCtorEq, hP, ]); (repeat (refine And.intro (by first | omega | (intros; simp_all; done) | (intros; simp_all; omega)) ?_))))
  (refine AS_pure (hready) rfl rfl rfl rfl rfl ?_; simp only [go_sem, init_env', Nat.reduceEqDiff, Nat.reduceAdd, Nat.reduceMul, reduceIte, Nat.reduceLeDiff, Nat.reduceLT, Nat.reduceBEq, reduceCtorEq, hP, Tray.av]; (repeat (refine And.intro (by first | omega | (intros; simp_all; done) | (intros; simp_all; omega)) ?_)); (repeat ((first | refine WV_seq_ ?_ | refine WV_block ?_ | refine WV_ops ?_ | refine WV_skip ?_ | refine WV_exit ?_); (try simp only [go_sem, init_env', Nat.reduceEqDiff, Nat.reduceAdd, Nat.reduceMul, reduceIte, Nat.reduceLeDiff, Nat.reduceLT, Nat.reduceBEq, reduceCtorEq, hP, Tray.av]); (repeat (refine And.intro (by first | omega | (intros; simp_all; done) | (intros; simp_all; omega)) ?_)))))
  (refine WV_cond rfl (fun h => ?_) (fun h => ?_))
  · simp at h
  (repeat ((first | refine WV_seq_ ?_ | refine WV_block ?_ | refine WV_ops ?_ | refine WV_skip ?_ | refine WV_exit ?_); (try simp only [go_sem, init_env', Nat.reduceEqDiff, Nat.reduceAdd, Nat.reduceMul, reduceIte, Nat.reduceLeDiff, Nat.reduceLT, Nat.reduceBEq, reduceCtorEq, hP, ]); (repeat (refine And.intro (by first | omega | (intros; simp_all; done) | (intros; simp_all; omega)) ?_))))
  (refine AS_pure (b2) rfl rfl rfl rfl rfl ?_; simp only [go_sem, init_env', Nat.reduceEqDiff, Nat.reduceAdd, Nat.reduceMul, reduceIte, Nat.reduceLeDiff, Nat.reduceLT, Nat.reduceBEq, reduceCtorEq, hP, Tray.av]; (repeat (refine And.intro (by first | omega | (intros; simp_all; done) | (intros; simp_all; omega)) ?_)); (repeat ((first | refine WV_seq_ ?_ | refine WV_block ?_ | refine WV_ops ?_ | refine WV_skip ?_ | refine WV_exit ?_); (try simp only [go_sem, init_env', Nat.reduceEqDiff, Nat.reduceAdd, Nat.reduceMul, reduceIte, Nat.reduceLeDiff, Nat.reduceLT, Nat.reduceBEq, reduceCtorEq, hP, Tray.av]); (repeat (refine And.intro (by first | omega | (intros; simp_all; done) | (intros; simp_all; omega)) ?_)))))
  (refine AG_pure (fun hG => b3) rfl (fun hG => by first | (simp only [go_sem, init_env', Nat.reduceEqDiff, Nat.reduceAdd, Nat.reduceMul, reduceIte, Nat.reduceLeDiff, Nat.reduceLT, Nat.reduceBEq, reduceCtorEq, hG]; done) | (simp only [go_sem, init_env', Nat.reduceEqDiff, Nat.reduceAdd, Nat.reduceMul, reduceIte, Nat.reduceLeDiff, Nat.reduceLT, Nat.reduceBEq, reduceCtorEq]; revert hG; simp; done) | (simp only [go_sem, init_env', Nat.reduceEqDiff, Nat.reduceAdd, Nat.reduceMul, reduceIte, Nat.reduceLeDiff, Nat.reduceLT, Nat.reduceBEq, reduceCtorEq, hG]; simp_all; done) | (revert hG; simp; done) | simp_all) rfl rfl rfl ?_; simp only [go_sem, init_env', Nat.reduceEqDiff, Nat.reduceAdd, Nat.reduceMul, reduceIte, Nat.reduceLeDiff, Nat.reduceLT, Nat.reduceBEq, reduceCtorEq, hP, Tray.av, bne_self_eq_false]; (repeat (refine And.intro (by first | omega | (intros; simp_all; done) | (intros; simp_all; omega)) ?_)); (repeat ((first | refine WV_seq_ ?_ | refine WV_block ?_ | refine WV_ops ?_ | refine WV_skip ?_ | refine WV_exit ?_); (try simp only [go_sem, init_env', Nat.reduceEqDiff, Nat.reduceAdd, Nat.reduceMul, reduceIte, Nat.reduceLeDiff, Nat.reduceLT, Nat.reduceBEq, reduceCtorEq, hP, Tray.av, bne_self_eq_false]); (repeat (refine And.intro (by first | omega | (intros; simp_all; done) | (intros; simp_all; omega)) ?_)))))
  (refine WV_cond rfl (fun h => ?_) (fun h => ?_))
  · simp at h
  (repeat ((first | refine WV_seq_ ?_ | refine WV_block ?_ | refine WV_ops ?_ | refine WV_skip ?_ | refine WV_exit ?_); (try simp only [go_sem, init_env', Nat.reduceEqDiff, Nat.reduceAdd, Nat.reduceMul, reduceIte, Nat.reduceLeDiff, Nat.reduceLT, Nat.reduceBEq, reduceCtorEq, hP, recsC, List.length_map, hrl, w1, w2, hM0, w3]); (repeat (refine And.intro (by first | omega | (intros; simp_all; done) | (intros; simp_all; omega)) ?_))))
  refine WV_loopK K13_1 [] (fun k : Nat => k ≤ t.n) (fun k => t.n - k) (fun k => [(6, iv k), (5, iv (M0 + sumT t k))]) (fun _ => []) 0 (Nat.zero_le _) ?_ ?_
  · (refine Sub_of (by simp only [go_sem, init_env', Nat.reduceEqDiff, Nat.reduceAdd, Nat.reduceMul, reduceIte, Nat.reduceLeDiff, Nat.reduceLT, Nat.reduceBEq, reduceCtorEq]; ((repeat' (first | exact EnvLe_e0 _ _ | refine EnvLe_upd ?_ ?_)) <;> ((try simp only [upd_app, e0_app, o0_app, Nat.reduceEqDiff, reduceIte]); first | exact AWk.refl _ _ | exact AWk.int (by omega) | exact AWk.int (by rw [w64 (by omega) (by omega)]; omega) | exact AWk.grow rfl | exact AWk.nil _ | exact AWk.of (by simp [sumT])))) (by simp only [go_sem, init_env', Nat.reduceEqDiff, Nat.reduceAdd, Nat.reduceMul, reduceIte, Nat.reduceLeDiff, Nat.reduceLT, Nat.reduceBEq, reduceCtorEq]; ((repeat' (first | exact ObjLe_o0 _ | exact ObjLe.rfl' _ | refine ObjLe_same ?_ | refine ObjLe_upd ?_ ?_ | refine ObjLe_new rfl ?_)) <;> rfl)))
  · intro k hk
    simp only [go_sem, init_env', Nat.reduceEqDiff, Nat.reduceAdd, Nat.reduceMul, reduceIte, Nat.reduceLeDiff, Nat.reduceLT, Nat.reduceBEq, reduceCtorEq]
    (repeat ((first | refine WV_seq_ ?_ | refine WV_block ?_ | refine WV_ops ?_ | refine WV_skip ?_ | refine WV_exit ?_); (try simp only [go_sem, init_env', Nat.reduceEqDiff, Nat.reduceAdd, Nat.reduceMul, reduceIte, Nat.reduceLeDiff, Nat.reduceLT, Nat.reduceBEq, reduceCtorEq, hP, recsC, List.length_map, hrl]); (repeat (refine And.intro (by first | omega | (intros; simp_all; done) | (intros; simp_all; omega)) ?_))))
    (refine WV_cond rfl (fun h => ?_) (fun h => ?_))
    · have hkl : k < t.n := by simpa using h
      have hI : (k : Int) < (t.n : Int) := by omega
      have hw2 := w64 (n := (k : Int) + 1) (by omega) (by omega)
      have hro := rec_ok ht hkl
      have hsu := sumT_le ht k hk
      have hw3 := w64 (n := (t.rc k).front + (t.rc k).back) (by omega) (by omega)
      have hw4 := w64 (n := M0 + sumT t k + ((t.rc k).front + (t.rc k).back)) (by omega) (by omega)
      have g1 : (t.recs.map Rec.cds).getD k [] = [.int .i64 (t.rc k).front, .int .i64 (t.rc k).back] := by
        rw [map_getD (by rw [hrl]; exact hkl)]
        unfold Tray.rc; rw [List.getD_eq_getElem?_getD, List.getElem?_eq_getElem (by rw [hrl]; exact hkl)]; rfl
      have hsucc : M0 + sumT t k + ((t.rc k).front + (t.rc k).back) = M0 + sumT t (k + 1) := by simp only [sumT]; omega
      rw [hsucc] at hw4
      (repeat ((first | refine WV_seq_ ?_ | refine WV_block ?_ | refine WV_ops ?_ | refine WV_skip ?_ | refine WV_exit ?_); (try simp only [go_sem, init_env', Nat.reduceEqDiff, Nat.reduceAdd, Nat.reduceMul, reduceIte, Nat.reduceLeDiff, Nat.reduceLT, Nat.reduceBEq, reduceCtorEq, hP, recsC, g1, hI, List.length_map, hrl, Int.natCast_nonneg, hw3, hsucc, hw4, hw2]); (repeat (refine And.intro (by first | omega | (intros; simp_all; done) | (intros; simp_all; omega)) ?_))))
      refine ⟨k + 1, by omega, by omega, ?_⟩
      (refine Sub_of (by simp only [go_sem, init_env', Nat.reduceEqDiff, Nat.reduceAdd, Nat.reduceMul, reduceIte, Nat.reduceLeDiff, Nat.reduceLT, Nat.reduceBEq, reduceCtorEq]; ((repeat' (first | exact EnvLe_e0 _ _ | refine EnvLe_upd ?_ ?_)) <;> ((try simp only [upd_app, e0_app, o0_app, Nat.reduceEqDiff, reduceIte]); first | exact AWk.refl _ _ | exact AWk.int (by omega) | exact AWk.int (by rw [w64 (by omega) (by omega)]; omega) | exact AWk.grow rfl | exact AWk.nil _ | exact AWk.of (by simp)))) (by simp only [go_sem, init_env', Nat.reduceEqDiff, Nat.reduceAdd, Nat.reduceMul, reduceIte, Nat.reduceLeDiff, Nat.reduceLT, Nat.reduceBEq, reduceCtorEq]; ((repeat' (first | exact ObjLe_o0 _ | exact ObjLe.rfl' _ | refine ObjLe_same ?_ | refine ObjLe_upd ?_ ?_ | refine ObjLe_new rfl ?_)) <;> rfl)))
    · have h : k = t.n := by simp at h; omega
      subst h
      rw [← hrs]
      (refine WV_exit ?_; simp only [go_sem, init_env', Nat.reduceEqDiff, Nat.reduceAdd, Nat.reduceMul, reduceIte, Nat.reduceLeDiff, Nat.reduceLT, Nat.reduceBEq, reduceCtorEq])
      have hz := zeros_cells (playsS t).length
      (repeat ((first | refine WV_seq_ ?_ | refine WV_block ?_ | refine WV_ops ?_ | refine WV_skip ?_ | refine WV_exit ?_); (try simp only [go_sem, init_env', Nat.reduceEqDiff, Nat.reduceAdd, Nat.reduceMul, reduceIte, Nat.reduceLeDiff, Nat.reduceLT, Nat.reduceBEq, reduceCtorEq, hP, prsC, List.length_map, Int.toNat_natCast, hz]); (repeat (refine And.intro (by first | omega | (intros; simp_all; done) | (intros; simp_all; omega)) ?_))))
      rw [← cntS_zero (srvN t)]
      refine WV_loopK K13_2 [66] (fun k : Nat => k ≤ t.pres.length) (fun k => t.pres.length - k) (fun k => [(8, iv k)]) (fun k => [(66, .box (cellsG ncd (cntS (srvN t) (playsS t).length k) 0))]) 0 (Nat.zero_le _) ?_ ?_
      · (refine Sub_of (by simp only [go_sem, init_env', Nat.reduceEqDiff, Nat.reduceAdd, Nat.reduceMul, reduceIte, Nat.reduceLeDiff, Nat.reduceLT, Nat.reduceBEq, reduceCtorEq]; ((repeat' (first | exact EnvLe_e0 _ _ | refine EnvLe_upd ?_ ?_)) <;> ((try simp only [upd_app, e0_app, o0_app, Nat.reduceEqDiff, reduceIte]); first | exact AWk.refl _ _ | exact AWk.int (by omega) | exact AWk.int (by rw [w64 (by omega) (by omega)]; omega) | exact AWk.grow rfl | exact AWk.nil _ | exact AWk.of (by simp)))) (by simp only [go_sem, init_env', Nat.reduceEqDiff, Nat.reduceAdd, Nat.reduceMul, reduceIte, Nat.reduceLeDiff, Nat.reduceLT, Nat.reduceBEq, reduceCtorEq]; ((repeat' (first | exact ObjLe_o0 _ | exact ObjLe.rfl' _ | refine ObjLe_same ?_ | refine ObjLe_upd ?_ ?_ | refine ObjLe_new rfl ?_)) <;> rfl)))
      · intro k hk
        simp only [go_sem, init_env', Nat.reduceEqDiff, Nat.reduceAdd, Nat.reduceMul, reduceIte, Nat.reduceLeDiff, Nat.reduceLT, Nat.reduceBEq, reduceCtorEq]
        (repeat ((first | refine WV_seq_ ?_ | refine WV_block ?_ | refine WV_ops ?_ | refine WV_skip ?_ | refine WV_exit ?_); (try simp only [go_sem, init_env', Nat.reduceEqDiff, Nat.reduceAdd, Nat.reduceMul, reduceIte, Nat.reduceLeDiff, Nat.reduceLT, Nat.reduceBEq, reduceCtorEq, hP, prsC, List.length_map]); (repeat (refine And.intro (by first | omega | (intros; simp_all; done) | (intros; simp_all; omega)) ?_))))
        (refine WV_cond rfl (fun h => ?_) (fun h => ?_))
        · have hkl : k < t.pres.length := by simpa using h
          have hI : (k : Int) < (t.pres.length : Int) := by omega
          have hw2 := w64 (n := (k : Int) + 1) (by omega) (by omega)
          have ho := honce k hkl
          have b5 := bs k
          have b6 := bw k
          rw [hsr k hkl, ho.eq] at b5
          rw [hwr k hkl] at b6
          have o1 := ho.lt
          have o2 := ho.side
          have o3 := ho.time
          have o4 := ho.w
          have o5 := ho.b
          have g1 := map_getD' o1
          have g2 := map_getD' hkl
          have g3 := cntS_step (srvN t) (n := (playsS t).length) (k := k)
          have g4 := cellsG_get ncd_one (l := cntS (srvN t) (playsS t).length k) (k := srvN t k) (by rw [cntS_len]; exact o1) 0 0 (d := .int .i64 (((List.range k).countP (fun j => srvN t j == srvN t k) : Nat) : Int)) (by rw [cntS_get _ o1]; rfl) .non
          have g5 := cellsG_set ncd_one (l := cntS (srvN t) (playsS t).length k) (k := srvN t k) (by rw [cntS_len]; exact o1) 0 0 (by decide) (.int .i64 (((List.range k).countP (fun j => srvN t j == srvN t k) + 1 : Nat) : Int)) ((List.range k).countP (fun j => srvN t j == srvN t k) + 1) (by rw [cntS_get _ o1]; rfl)
          rw [g3] at g5
          have hcp := countP_le_range (fun j => srvN t j == srvN t k) k
          have hcl : (cellsG ncd (cntS (srvN t) (playsS t).length k) 0).length = (playsS t).length := by rw [cellsG_len ncd_one, cntS_len]; omega
          simp only [Nat.mul_one, Nat.add_zero] at g4 g5
          rw [o2, o3] at g1
          generalize (List.range k).countP (fun j => srvN t j == srvN t k) = c at *
          generalize srvN t k = j at *
          generalize waitV t (k : Int) = w at *
          generalize (t.pres.getD k default).time = T at *
          generalize (t.pres.getD k default).side = S at *
          generalize roundC t = R at *
          have hw5 := w64 (n := T + w) (by omega) (by omega)
          have hw6 := w64 (n := ((c + 1 : Nat) : Int)) (by omega) (by omega)
          have hJ : (j : Int) < ((playsS t).length : Int) := by omega
          have d1 : decide ((j : Int) < 0) = false := by simp
          have d2 : decide (((playsS t).length : Int) ≤ (j : Int)) = false := by simp; omega
          have d3 : decide (w < 0) = false := by simp; omega
          have d4 : decide (R < w) = false := by simp; omega
          have g5' : ((c : Int) + 1) = ((c + 1 : Nat) : Int) := by omega
          have hJ2 : j < (cellsG ncd (cntS (srvN t) (playsS t).length k) 0).length := by rw [hcl]; exact o1
          (repeat ((first | refine WV_seq_ ?_ | refine WV_block ?_ | refine WV_ops ?_ | refine WV_skip ?_ | refine WV_exit ?_); (try simp only [go_sem, init_env', Nat.reduceEqDiff, Nat.reduceAdd, Nat.reduceMul, reduceIte, Nat.reduceLeDiff, Nat.reduceLT, Nat.reduceBEq, reduceCtorEq, hP, prsC, List.length_map]); (repeat (refine And.intro (by first | omega | (intros; simp_all; done) | (intros; simp_all; omega)) ?_))))
          (refine AS_pure (b5) rfl rfl rfl rfl rfl ?_; simp only [go_sem, init_env', Nat.reduceEqDiff, Nat.reduceAdd, Nat.reduceMul, reduceIte, Nat.reduceLeDiff, Nat.reduceLT, Nat.reduceBEq, reduceCtorEq, hP, Tray.av, recsC, prsC]; (repeat (refine And.intro (by first | omega | (intros; simp_all; done) | (intros; simp_all; omega)) ?_)); (repeat ((first | refine WV_seq_ ?_ | refine WV_block ?_ | refine WV_ops ?_ | refine WV_skip ?_ | refine WV_exit ?_); (try simp only [go_sem, init_env', Nat.reduceEqDiff, Nat.reduceAdd, Nat.reduceMul, reduceIte, Nat.reduceLeDiff, Nat.reduceLT, Nat.reduceBEq, reduceCtorEq, hP, Tray.av, recsC, prsC]); (repeat (refine And.intro (by first | omega | (intros; simp_all; done) | (intros; simp_all; omega)) ?_)))))
          (refine AS_pure (b6) rfl rfl rfl rfl rfl ?_; simp only [go_sem, init_env', Nat.reduceEqDiff, Nat.reduceAdd, Nat.reduceMul, reduceIte, Nat.reduceLeDiff, Nat.reduceLT, Nat.reduceBEq, reduceCtorEq, hP, Tray.av, recsC, prsC, bne_self_eq_false, d1, d2, d3, d4, g1, g2, List.length_map, hI, hJ, Int.natCast_nonneg, hw5]; (repeat (refine And.intro (by first | omega | (intros; simp_all; done) | (intros; simp_all; omega)) ?_)); (repeat ((first | refine WV_seq_ ?_ | refine WV_block ?_ | refine WV_ops ?_ | refine WV_skip ?_ | refine WV_exit ?_); (try simp only [go_sem, init_env', Nat.reduceEqDiff, Nat.reduceAdd, Nat.reduceMul, reduceIte, Nat.reduceLeDiff, Nat.reduceLT, Nat.reduceBEq, reduceCtorEq, hP, Tray.av, recsC, prsC, bne_self_eq_false, d1, d2, d3, d4, g1, g2, List.length_map, hI, hJ, Int.natCast_nonneg, hw5]); (repeat (refine And.intro (by first | omega | (intros; simp_all; done) | (intros; simp_all; omega)) ?_)))))
          (refine WV_cond rfl (fun h => ?_) (fun h => ?_))
          · simp at h
          (repeat ((first | refine WV_seq_ ?_ | refine WV_block ?_ | refine WV_ops ?_ | refine WV_skip ?_ | refine WV_exit ?_); (try simp only [go_sem, init_env', Nat.reduceEqDiff, Nat.reduceAdd, Nat.reduceMul, reduceIte, Nat.reduceLeDiff, Nat.reduceLT, Nat.reduceBEq, reduceCtorEq, hP, hJ, g4, hJ2, Int.natCast_nonneg, hw6, g5', g5, hw2]); (repeat (refine And.intro (by first | omega | (intros; simp_all; done) | (intros; simp_all; omega)) ?_))))
          refine ⟨k + 1, by omega, by omega, ?_⟩
          (refine Sub_of (by simp only [go_sem, init_env', Nat.reduceEqDiff, Nat.reduceAdd, Nat.reduceMul, reduceIte, Nat.reduceLeDiff, Nat.reduceLT, Nat.reduceBEq, reduceCtorEq]; ((repeat' (first | exact EnvLe_e0 _ _ | refine EnvLe_upd ?_ ?_)) <;> ((try simp only [upd_app, e0_app, o0_app, Nat.reduceEqDiff, reduceIte]); first | exact AWk.refl _ _ | exact AWk.int (by omega) | exact AWk.int (by rw [w64 (by omega) (by omega)]; omega) | exact AWk.grow rfl | exact AWk.nil _ | exact AWk.of (by simp)))) (by simp only [go_sem, init_env', Nat.reduceEqDiff, Nat.reduceAdd, Nat.reduceMul, reduceIte, Nat.reduceLeDiff, Nat.reduceLT, Nat.reduceBEq, reduceCtorEq]; ((repeat' (first | exact ObjLe_o0 _ | exact ObjLe.rfl' _ | refine ObjLe_same ?_ | refine ObjLe_upd ?_ ?_ | refine ObjLe_new rfl ?_)) <;> rfl)))
        · have h : k = t.pres.length := by simp at h; omega
          subst h
          (refine WV_exit ?_; simp only [go_sem, init_env', Nat.reduceEqDiff, Nat.reduceAdd, Nat.reduceMul, reduceIte, Nat.reduceLeDiff, Nat.reduceLT, Nat.reduceBEq, reduceCtorEq])
          (repeat ((first | refine WV_seq_ ?_ | refine WV_block ?_ | refine WV_ops ?_ | refine WV_skip ?_ | refine WV_exit ?_); (try simp only [go_sem, init_env', Nat.reduceEqDiff, Nat.reduceAdd, Nat.reduceMul, reduceIte, Nat.reduceLeDiff, Nat.reduceLT, Nat.reduceBEq, reduceCtorEq, hP, ]); (repeat (refine And.intro (by first | omega | (intros; simp_all; done) | (intros; simp_all; omega)) ?_))))
          refine WV_loopK K13_3 [] (fun k : Nat => k ≤ (playsS t).length) (fun k => (playsS t).length - k) (fun k => [(13, iv k)]) (fun k => []) 0 (Nat.zero_le _) ?_ ?_
          · (refine Sub_of (by simp only [go_sem, init_env', Nat.reduceEqDiff, Nat.reduceAdd, Nat.reduceMul, reduceIte, Nat.reduceLeDiff, Nat.reduceLT, Nat.reduceBEq, reduceCtorEq]; ((repeat' (first | exact EnvLe_e0 _ _ | refine EnvLe_upd ?_ ?_)) <;> ((try simp only [upd_app, e0_app, o0_app, Nat.reduceEqDiff, reduceIte]); first | exact AWk.refl _ _ | exact AWk.int (by omega) | exact AWk.int (by rw [w64 (by omega) (by omega)]; omega) | exact AWk.grow rfl | exact AWk.nil _ | exact AWk.of (by simp)))) (by simp only [go_sem, init_env', Nat.reduceEqDiff, Nat.reduceAdd, Nat.reduceMul, reduceIte, Nat.reduceLeDiff, Nat.reduceLT, Nat.reduceBEq, reduceCtorEq]; ((repeat' (first | exact ObjLe_o0 _ | exact ObjLe.rfl' _ | refine ObjLe_same ?_ | refine ObjLe_upd ?_ ?_ | refine ObjLe_new rfl ?_)) <;> rfl)))
          · intro k hk
            simp only [go_sem, init_env', Nat.reduceEqDiff, Nat.reduceAdd, Nat.reduceMul, reduceIte, Nat.reduceLeDiff, Nat.reduceLT, Nat.reduceBEq, reduceCtorEq]
            (repeat ((first | refine WV_seq_ ?_ | refine WV_block ?_ | refine WV_ops ?_ | refine WV_skip ?_ | refine WV_exit ?_); (try simp only [go_sem, init_env', Nat.reduceEqDiff, Nat.reduceAdd, Nat.reduceMul, reduceIte, Nat.reduceLeDiff, Nat.reduceLT, Nat.reduceBEq, reduceCtorEq, hP, prsC, List.length_map]); (repeat (refine And.intro (by first | omega | (intros; simp_all; done) | (intros; simp_all; omega)) ?_))))
            (refine WV_cond rfl (fun h => ?_) (fun h => ?_))
            · have hkl : k < (playsS t).length := by simpa using h
              have hI : (k : Int) < ((playsS t).length : Int) := by omega
              have hw2 := w64 (n := (k : Int) + 1) (by omega) (by omega)
              obtain ⟨i, hi1, hi2⟩ := hser k hkl
              have hpos := countP_pos_range (g := fun j => srvN t j == k) hi1 (by show (srvN t i == k) = true; unfold srvN; rw [hi2]; simp)
              have g4 := cellsG_get ncd_one (l := cntS (srvN t) (playsS t).length t.pres.length) (k := k) (by rw [cntS_len]; exact hkl) 0 0 (d := .int .i64 (((List.range t.pres.length).countP (fun j => srvN t j == k) : Nat) : Int)) (by rw [cntS_get _ hkl]; rfl) .non
              simp only [Nat.mul_one, Nat.add_zero] at g4
              have hcl : (cellsG ncd (cntS (srvN t) (playsS t).length t.pres.length) 0).length = (playsS t).length := by rw [cellsG_len ncd_one, cntS_len]; omega
              have hJ2 : k < (cellsG ncd (cntS (srvN t) (playsS t).length t.pres.length) 0).length := by rw [hcl]; exact hkl
              generalize (List.range t.pres.length).countP (fun j => srvN t j == k) = c at *
              have d1 : ((c : Int) == 0) = false := by simp; omega
              (repeat ((first | refine WV_seq_ ?_ | refine WV_block ?_ | refine WV_ops ?_ | refine WV_skip ?_ | refine WV_exit ?_); (try simp only [go_sem, init_env', Nat.reduceEqDiff, Nat.reduceAdd, Nat.reduceMul, reduceIte, Nat.reduceLeDiff, Nat.reduceLT, Nat.reduceBEq, reduceCtorEq, hP, hI, g4, hJ2, Int.natCast_nonneg, d1]); (repeat (refine And.intro (by first | omega | (intros; simp_all; done) | (intros; simp_all; omega)) ?_))))
              (refine WV_cond rfl (fun h => ?_) (fun h => ?_))
              · simp at h
              (repeat ((first | refine WV_seq_ ?_ | refine WV_block ?_ | refine WV_ops ?_ | refine WV_skip ?_ | refine WV_exit ?_); (try simp only [go_sem, init_env', Nat.reduceEqDiff, Nat.reduceAdd, Nat.reduceMul, reduceIte, Nat.reduceLeDiff, Nat.reduceLT, Nat.reduceBEq, reduceCtorEq, hP, hw2]); (repeat (refine And.intro (by first | omega | (intros; simp_all; done) | (intros; simp_all; omega)) ?_))))
              refine ⟨k + 1, by omega, by omega, ?_⟩
              (refine Sub_of (by simp only [go_sem, init_env', Nat.reduceEqDiff, Nat.reduceAdd, Nat.reduceMul, reduceIte, Nat.reduceLeDiff, Nat.reduceLT, Nat.reduceBEq, reduceCtorEq]; ((repeat' (first | exact EnvLe_e0 _ _ | refine EnvLe_upd ?_ ?_)) <;> ((try simp only [upd_app, e0_app, o0_app, Nat.reduceEqDiff, reduceIte]); first | exact AWk.refl _ _ | exact AWk.int (by omega) | exact AWk.int (by rw [w64 (by omega) (by omega)]; omega) | exact AWk.grow rfl | exact AWk.nil _ | exact AWk.of (by simp)))) (by simp only [go_sem, init_env', Nat.reduceEqDiff, Nat.reduceAdd, Nat.reduceMul, reduceIte, Nat.reduceLeDiff, Nat.reduceLT, Nat.reduceBEq, reduceCtorEq]; ((repeat' (first | exact ObjLe_o0 _ | exact ObjLe.rfl' _ | refine ObjLe_same ?_ | refine ObjLe_upd ?_ ?_ | refine ObjLe_new rfl ?_)) <;> rfl)))
            · (refine WV_exit ?_; simp only [go_sem, init_env', Nat.reduceEqDiff, Nat.reduceAdd, Nat.reduceMul, reduceIte, Nat.reduceLeDiff, Nat.reduceLT, Nat.reduceBEq, reduceCtorEq])
              (repeat ((first | refine WV_seq_ ?_ | refine WV_block ?_ | refine WV_ops ?_ | refine WV_skip ?_ | refine WV_exit ?_); (try simp only [go_sem, init_env', Nat.reduceEqDiff, Nat.reduceAdd, Nat.reduceMul, reduceIte, Nat.reduceLeDiff, Nat.reduceLT, Nat.reduceBEq, reduceCtorEq, hP, ]); (repeat (refine And.intro (by first | omega | (intros; simp_all; done) | (intros; simp_all; omega)) ?_))))
              by_cases hp0 : t.pres.length = 0
              · have hl0 : (playsS t).length = 0 := by have := hsane.len; have : (playsS t).length ≤ t.pres.length := this; omega
                rw [show endR t = (0, 3) by unfold endR pressedE; rw [hok, hp0]; rfl] at be
                (refine AS_pure (be) rfl rfl rfl rfl rfl ?_; simp only [go_sem, init_env', Nat.reduceEqDiff, Nat.reduceAdd, Nat.reduceMul, reduceIte, Nat.reduceLeDiff, Nat.reduceLT, Nat.reduceBEq, reduceCtorEq, hP, Tray.av, recsC, prsC, List.length_map, hl0, Int.natCast_zero, beq_self_eq_true]; (repeat (refine And.intro (by first | omega | (intros; simp_all; done) | (intros; simp_all; omega)) ?_)); (repeat ((first | refine WV_seq_ ?_ | refine WV_block ?_ | refine WV_ops ?_ | refine WV_skip ?_ | refine WV_exit ?_); (try simp only [go_sem, init_env', Nat.reduceEqDiff, Nat.reduceAdd, Nat.reduceMul, reduceIte, Nat.reduceLeDiff, Nat.reduceLT, Nat.reduceBEq, reduceCtorEq, hP, Tray.av, recsC, prsC, List.length_map, hl0, Int.natCast_zero, beq_self_eq_true]); (repeat (refine And.intro (by first | omega | (intros; simp_all; done) | (intros; simp_all; omega)) ?_)))))
                (refine WV_cond rfl (fun h => ?_) (fun h => ?_))
                · (repeat ((first | refine WV_seq_ ?_ | refine WV_block ?_ | refine WV_ops ?_ | refine WV_skip ?_ | refine WV_exit ?_); (try simp only [go_sem, init_env', Nat.reduceEqDiff, Nat.reduceAdd, Nat.reduceMul, reduceIte, Nat.reduceLeDiff, Nat.reduceLT, Nat.reduceBEq, reduceCtorEq, hP, prsC, List.length_map, hp0, Int.natCast_zero, beq_self_eq_true]); (repeat (refine And.intro (by first | omega | (intros; simp_all; done) | (intros; simp_all; omega)) ?_))))
                  (refine AG_pure (fun hG => works19) rfl (fun hG => by first | (simp only [go_sem, init_env', Nat.reduceEqDiff, Nat.reduceAdd, Nat.reduceMul, reduceIte, Nat.reduceLeDiff, Nat.reduceLT, Nat.reduceBEq, reduceCtorEq, hG]; done) | (simp only [go_sem, init_env', Nat.reduceEqDiff, Nat.reduceAdd, Nat.reduceMul, reduceIte, Nat.reduceLeDiff, Nat.reduceLT, Nat.reduceBEq, reduceCtorEq]; revert hG; simp; done) | (simp only [go_sem, init_env', Nat.reduceEqDiff, Nat.reduceAdd, Nat.reduceMul, reduceIte, Nat.reduceLeDiff, Nat.reduceLT, Nat.reduceBEq, reduceCtorEq, hG]; simp_all; done) | (revert hG; simp; done) | simp_all) rfl rfl rfl ?_; simp only [go_sem, init_env', Nat.reduceEqDiff, Nat.reduceAdd, Nat.reduceMul, reduceIte, Nat.reduceLeDiff, Nat.reduceLT, Nat.reduceBEq, reduceCtorEq, hP, ]; (repeat (refine And.intro (by first | omega | (intros; simp_all; done) | (intros; simp_all; omega)) ?_)); (repeat ((first | refine WV_seq_ ?_ | refine WV_block ?_ | refine WV_ops ?_ | refine WV_skip ?_ | refine WV_exit ?_); (try simp only [go_sem, init_env', Nat.reduceEqDiff, Nat.reduceAdd, Nat.reduceMul, reduceIte, Nat.reduceLeDiff, Nat.reduceLT, Nat.reduceBEq, reduceCtorEq, hP, ]); (repeat (refine And.intro (by first | omega | (intros; simp_all; done) | (intros; simp_all; omega)) ?_)))))
                  (refine WV_ret ?_; simp only [thenQ, inQ, RetQ, RetOk, resAll, resA]; simp only [go_sem, init_env', Nat.reduceEqDiff, Nat.reduceAdd, Nat.reduceMul, reduceIte, Nat.reduceLeDiff, Nat.reduceLT, Nat.reduceBEq, reduceCtorEq, tupA, AV.port, AV.portL, exists_eq_left', ]; (first | exact AVle.of rfl | refine AVle.of ?_ | skip))
                · simp at h
              · have hpz : pressedE t = 0 := by unfold pressedE; rw [hok, if_pos rfl, if_neg hp0]
                have hl0 : (playsS t).length ≠ 0 := by have := (honce 0 (by omega)).lt; omega
                obtain ⟨n, hn⟩ : ∃ n, (playsS t).length = n + 1 := ⟨(playsS t).length - 1, by omega⟩
                have hla := hlast n hn
                rw [show endR t = ((goesS t).end_, 0) by unfold endR; rw [if_pos hpz], hla] at be
                have hnl : n < (playsS t).length := by omega
                have g1 := map_getD' hnl
                have hmem : (playsS t).getD n default ∈ playsS t := by rw [List.getD_eq_getElem?_getD, List.getElem?_eq_getElem hnl]; exact List.getElem_mem _
                have o1 := hside _ hmem
                have o2 := htm2 _ hmem
                obtain ⟨sn, hsn⟩ := Int.eq_ofNat_of_zero_le o1.1
                have hse := secs24 t sn (by omega) (by omega)
                have hso := secs_ok ht (s := sn) (by omega)
                have hsI : secsI t ((playsS t).getD n default).side = secs t sn := by unfold secsI; rw [hsn, Int.toNat_natCast]
                rw [hsI] at be
                rw [hsn] at g1
                have hw7 := w64 (n := (n : Int)) (by omega) (by omega)
                have hw8 := w64 (n := ((playsS t).getD n default).time + secs t sn) (by omega) (by omega)
                generalize ((playsS t).getD n default).time = T at *
                generalize secs t sn = SC at *
                have e1 : (((n + 1 : Nat) : Int) == 0) = false := by simp; omega
                have e2 : ((n + 1 : Nat) : Int) - 1 = (n : Int) := by omega
                have e3 : ((n : Int)) < ((n + 1 : Nat) : Int) := by omega
                (refine AS_pure (be) rfl rfl rfl rfl rfl ?_; simp only [go_sem, init_env', Nat.reduceEqDiff, Nat.reduceAdd, Nat.reduceMul, reduceIte, Nat.reduceLeDiff, Nat.reduceLT, Nat.reduceBEq, reduceCtorEq, hP, Tray.av, recsC, prsC, List.length_map, hn, e1]; (repeat (refine And.intro (by first | omega | (intros; simp_all; done) | (intros; simp_all; omega)) ?_)); (repeat ((first | refine WV_seq_ ?_ | refine WV_block ?_ | refine WV_ops ?_ | refine WV_skip ?_ | refine WV_exit ?_); (try simp only [go_sem, init_env', Nat.reduceEqDiff, Nat.reduceAdd, Nat.reduceMul, reduceIte, Nat.reduceLeDiff, Nat.reduceLT, Nat.reduceBEq, reduceCtorEq, hP, Tray.av, recsC, prsC, List.length_map, hn, e1]); (repeat (refine And.intro (by first | omega | (intros; simp_all; done) | (intros; simp_all; omega)) ?_)))))
                (refine WV_cond rfl (fun h => ?_) (fun h => ?_))
                · simp at h
                (repeat ((first | refine WV_seq_ ?_ | refine WV_block ?_ | refine WV_ops ?_ | refine WV_skip ?_ | refine WV_exit ?_); (try simp only [go_sem, init_env', Nat.reduceEqDiff, Nat.reduceAdd, Nat.reduceMul, reduceIte, Nat.reduceLeDiff, Nat.reduceLT, Nat.reduceBEq, reduceCtorEq, hP, prsC, List.length_map, hn, e2, hw7, e3, Int.natCast_nonneg, g1, beq_self_eq_true]); (repeat (refine And.intro (by first | omega | (intros; simp_all; done) | (intros; simp_all; omega)) ?_))))
                (refine ACallG_of (fun hG => hse) rfl (fun hG => by simp only [go_sem, init_env', Nat.reduceEqDiff, Nat.reduceAdd, Nat.reduceMul, reduceIte, Nat.reduceLeDiff, Nat.reduceLT, Nat.reduceBEq, reduceCtorEq, hG]) rfl rfl rfl ?_; simp only [go_sem, init_env', Nat.reduceEqDiff, Nat.reduceAdd, Nat.reduceMul, reduceIte, Nat.reduceLeDiff, Nat.reduceLT, Nat.reduceBEq, reduceCtorEq, hP, Tray.av, recsC, prsC, hw8, beq_self_eq_true]; (repeat (refine And.intro (by first | omega | (intros; simp_all; done) | (intros; simp_all; omega)) ?_)); (repeat ((first | refine WV_seq_ ?_ | refine WV_block ?_ | refine WV_ops ?_ | refine WV_skip ?_ | refine WV_exit ?_); (try simp only [go_sem, init_env', Nat.reduceEqDiff, Nat.reduceAdd, Nat.reduceMul, reduceIte, Nat.reduceLeDiff, Nat.reduceLT, Nat.reduceBEq, reduceCtorEq, hP, Tray.av, recsC, prsC, hw8, beq_self_eq_true]); (repeat (refine And.intro (by first | omega | (intros; simp_all; done) | (intros; simp_all; omega)) ?_)))))
                (refine AG_pure (fun hG => works19) rfl (fun hG => by first | (simp only [go_sem, init_env', Nat.reduceEqDiff, Nat.reduceAdd, Nat.reduceMul, reduceIte, Nat.reduceLeDiff, Nat.reduceLT, Nat.reduceBEq, reduceCtorEq, hG]; done) | (simp only [go_sem, init_env', Nat.reduceEqDiff, Nat.reduceAdd, Nat.reduceMul, reduceIte, Nat.reduceLeDiff, Nat.reduceLT, Nat.reduceBEq, reduceCtorEq]; revert hG; simp; done) | (simp only [go_sem, init_env', Nat.reduceEqDiff, Nat.reduceAdd, Nat.reduceMul, reduceIte, Nat.reduceLeDiff, Nat.reduceLT, Nat.reduceBEq, reduceCtorEq, hG]; simp_all; done) | (revert hG; simp; done) | simp_all) rfl rfl rfl ?_; simp only [go_sem, init_env', Nat.reduceEqDiff, Nat.reduceAdd, Nat.reduceMul, reduceIte, Nat.reduceLeDiff, Nat.reduceLT, Nat.reduceBEq, reduceCtorEq, hP, ]; (repeat (refine And.intro (by first | omega | (intros; simp_all; done) | (intros; simp_all; omega)) ?_)); (repeat ((first | refine WV_seq_ ?_ | refine WV_block ?_ | refine WV_ops ?_ | refine WV_skip ?_ | refine WV_exit ?_); (try simp only [go_sem, init_env', Nat.reduceEqDiff, Nat.reduceAdd, Nat.reduceMul, reduceIte, Nat.reduceLeDiff, Nat.reduceLT, Nat.reduceBEq, reduceCtorEq, hP, ]); (repeat (refine And.intro (by first | omega | (intros; simp_all; done) | (intros; simp_all; omega)) ?_)))))
                (refine WV_ret ?_; simp only [thenQ, inQ, RetQ, RetOk, resAll, resA]; simp only [go_sem, init_env', Nat.reduceEqDiff, Nat.reduceAdd, Nat.reduceMul, reduceIte, Nat.reduceLeDiff, Nat.reduceLT, Nat.reduceBEq, reduceCtorEq, tupA, AV.port, AV.portL, exists_eq_left', ]; (first | exact AVle.of rfl | refine AVle.of ?_ | skip))
end Go.Proofs.Ytkpgpgaojjobgaa
