/-
  Contracts of the layer's functions, of the laws' helpers and of the law; conditions: as each theorem states.
-/
import Derived.Test.YtkpgpgaojjobgaaU4
import Derived.Test.YtkpgpgaojjobgaaV2
set_option linter.unusedVariables false
set_option linter.unusedSimpArgs false
namespace Go.Proofs.Ytkpgpgaojjobgaa
open Go Go.V
@[reducible] def o86_0 : List Ins := [⟨(some 4), .mv (.k (.c (.int .i64 0))), none, true⟩]
@[reducible] def o86_1 : List Ins := [⟨(some 6), .mv (.t 0), none, true⟩,
  ⟨(some 7), .len (.t 6), none, true⟩,
  ⟨(some 8), .mv (.k (.c (.int .i64 0))), none, true⟩]
@[reducible] def o86_2 : List Ins := [⟨(some 9), .bin .lss (.t 8) (.t 7), none, true⟩]
@[reducible] def o86_3 : List Ins := [⟨(some 10), .mv (.t 8), none, true⟩,
  ⟨(some 5), .mv (.t 10), none, true⟩]
@[reducible] def o86_4 : List Ins := [⟨(some 11), .mv (.t 1), none, true⟩,
  ⟨(some 12), .mv (.t 0), none, true⟩,
  ⟨(some 13), .mv (.t 5), none, true⟩,
  ⟨(some 14), .ia 1 (.t 12) (.t 13), none, true⟩,
  ⟨(some 15), .ld true 1 (.t 14), none, true⟩,
  ⟨(some 16), .bin .eql (.t 11) (.t 15), none, true⟩]
@[reducible] def o86_5 : List Ins := [⟨(some 17), .mv (.t 5), none, true⟩,
  ⟨(some 4), .mv (.t 17), none, true⟩]
@[reducible] def v86_6 : VC := (.seq (.ops o86_5) .ret)
@[reducible] def v86_7 : VC := (.cond (.t 16) v86_6 .skip)
@[reducible] def v86_8 : VC := (.seq (.ops o86_4) v86_7)
@[reducible] def v86_9 : VC := (.seq (.ops o86_3) v86_8)
@[reducible] def o86_10 : List Ins := [⟨(some 18), .bin .add (.t 8) (.k (.c (.int .i64 1))), none, true⟩,
  ⟨(some 8), .mv (.t 18), none, true⟩]
@[reducible] def v86_11 : VC := (.seq (.block 1 v86_9) (.ops o86_10))
@[reducible] def v86_12 : VC := (.seq (.cond (.t 9) .skip (.exit 0)) v86_11)
@[reducible] def v86_13 : VC := (.seq (.ops o86_2) v86_12)
-- K86_1: changed and kept: [8]
@[reducible] def K86_1 : List Nat := [0, 1, 7]
@[reducible] def v86_14 : VC := (.loop v86_13)
@[reducible] def v86_15 : VC := (.block 0 v86_14)
@[reducible] def o86_16 : List Ins := [⟨(some 4), .mv (.k (.c (.int .i64 (-1)))), none, true⟩]
@[reducible] def v86_17 : VC := (.seq (.ops o86_16) .ret)
@[reducible] def v86_18 : VC := (.seq (.seq (.ops o86_1) v86_15) v86_17)
def ir86 : FC := ⟨2, 19, [.t 4], (.seq (.ops o86_0) v86_18)⟩
@[reducible] def o79_0 : List Ins := [⟨(some 2), .mv (.k (.c (.raw (.slice none 0 0)))), none, true⟩]
@[reducible] def o79_1 : List Ins := [⟨(some 3), .mv (.t 0), none, true⟩,
  ⟨(some 4), .nils false (.t 3), none, true⟩]
@[reducible] def o79_2 : List Ins := [⟨(some 2), .mv (.k (.c (.raw (.slice none 0 0)))), none, true⟩]
@[reducible] def v79_3 : VC := (.seq (.ops o79_2) .ret)
@[reducible] def v79_4 : VC := (.cond (.t 4) v79_3 .skip)
@[reducible] def o79_5 : List Ins := [⟨(some 5), .bsl 3 1 [], none, true⟩,
  ⟨(some 6), .mv (.t 0), none, true⟩,
  ⟨(some 7), .app 3 1 8 (.t 5) (.t 6), none, true⟩,
  ⟨(some 2), .mv (.t 7), none, true⟩]
@[reducible] def v79_6 : VC := (.seq (.ops o79_5) .ret)
@[reducible] def v79_7 : VC := (.seq (.seq (.ops o79_1) v79_4) v79_6)
def ir79 : FC := ⟨1, 8, [.t 2], (.seq (.ops o79_0) v79_7)⟩
@[reducible] def o78_0 : List Ins := [⟨(some 2), .box 5 (.t 0), none, true⟩,
  ⟨(some 4), .alloc [(.c (.raw (.slice none 0 0))), (.c (.int .i64 0)), (.c (.int .i64 0)), (.c (.int .i64 0)), (.c (.raw (.slice none 0 0)))], none, true⟩]
@[reducible] def o78_1 : List Ins := [⟨(some 10), .ld false 5 (.t 2), none, true⟩,
  ⟨(some 5), .alloc [(.c (.raw (.slice none 0 0))), (.c (.int .i64 0)), (.c (.int .i64 0)), (.c (.int .i64 0)), (.c (.raw (.slice none 0 0)))], none, true⟩,
  ⟨none, .st 5 (.t 5) (.t 10), none, true⟩]
@[reducible] def o78_2 : List Ins := [⟨(some 11), .fa 4 (.t 2), none, true⟩,
  ⟨(some 12), .ld true 1 (.t 11), none, true⟩,
  ⟨(some 13), .call (.k (.fn 56 [])) [(.t 12)], none, true⟩,
  ⟨(some 14), .fa 0 (.t 5), none, true⟩,
  ⟨none, .st 1 (.t 14) (.k (.c (.raw (.slice none 0 0)))), none, true⟩,
  ⟨(some 15), .fa 4 (.t 5), none, true⟩,
  ⟨none, .st 1 (.t 15) (.t 13), none, true⟩]
@[reducible] def o78_3 : List Ins := [⟨(some 16), .mv (.t 1), none, true⟩,
  ⟨(some 17), .len (.t 16), none, true⟩,
  ⟨(some 18), .mv (.k (.c (.int .i64 0))), none, true⟩]
@[reducible] def o78_4 : List Ins := [⟨(some 19), .bin .lss (.t 18) (.t 17), none, true⟩]
@[reducible] def o78_5 : List Ins := [⟨(some 20), .ia 1 (.t 16) (.t 18), none, true⟩,
  ⟨(some 21), .ld true 1 (.t 20), none, true⟩,
  ⟨(some 7), .mv (.t 21), none, true⟩]
@[reducible] def o78_6 : List Ins := [⟨(some 22), .fa 0 (.t 5), none, false⟩,
  ⟨(some 23), .ld true 1 (.t 22), none, false⟩,
  ⟨(some 24), .fa 0 (.t 2), none, false⟩,
  ⟨(some 25), .ld true 1 (.t 24), none, false⟩,
  ⟨(some 26), .mv (.t 7), none, false⟩,
  ⟨(some 27), .ia 2 (.t 25) (.t 26), none, false⟩,
  ⟨(some 28), .ld false 2 (.t 27), none, false⟩,
  ⟨(some 29), .bsl 56 2 [(.t 28)], none, false⟩,
  ⟨(some 30), .app 56 2 16 (.t 23) (.t 29), none, true⟩,
  ⟨(some 31), .fa 0 (.t 5), none, true⟩,
  ⟨none, .st 1 (.t 31) (.t 30), none, true⟩]
@[reducible] def v78_7 : VC := (.seq (.ops o78_5) (.ops o78_6))
@[reducible] def o78_8 : List Ins := [⟨(some 32), .bin .add (.t 18) (.k (.c (.int .i64 1))), none, true⟩,
  ⟨(some 18), .mv (.t 32), none, true⟩]
@[reducible] def v78_9 : VC := (.seq (.block 1 v78_7) (.ops o78_8))
@[reducible] def v78_10 : VC := (.seq (.cond (.t 19) .skip (.exit 0)) v78_9)
@[reducible] def v78_11 : VC := (.seq (.ops o78_4) v78_10)
-- K78_1: changed and kept: [18]
@[reducible] def K78_1 : List Nat := [1, 2, 4, 5, 16, 17]
@[reducible] def v78_12 : VC := (.loop v78_11)
@[reducible] def v78_13 : VC := (.block 0 v78_12)
@[reducible] def o78_14 : List Ins := [⟨(some 33), .fa 4 (.t 5), none, true⟩,
  ⟨(some 34), .ld true 1 (.t 33), none, true⟩,
  ⟨(some 35), .len (.t 34), none, true⟩,
  ⟨(some 36), .mv (.k (.c (.int .i64 0))), none, true⟩]
@[reducible] def o78_15 : List Ins := [⟨(some 37), .bin .lss (.t 36) (.t 35), none, true⟩]
@[reducible] def o78_16 : List Ins := [⟨(some 38), .mv (.t 36), none, true⟩,
  ⟨(some 39), .ia 2 (.t 34) (.t 36), none, true⟩,
  ⟨(some 40), .ld false 2 (.t 39), none, true⟩,
  ⟨(some 9), .alloc [(.c (.int .i64 0)), (.c (.int .i64 0))], none, true⟩,
  ⟨(some 8), .mv (.t 38), none, true⟩,
  ⟨none, .st 2 (.t 9) (.t 40), none, true⟩]
@[reducible] def o78_17 : List Ins := [⟨(some 41), .fa 4 (.t 5), none, false⟩,
  ⟨(some 42), .ld true 1 (.t 41), none, false⟩,
  ⟨(some 43), .mv (.t 8), none, false⟩,
  ⟨(some 44), .mv (.t 1), none, false⟩,
  ⟨(some 45), .fa 0 (.t 9), none, false⟩,
  ⟨(some 46), .ld true 1 (.t 45), none, false⟩,
  ⟨(some 47), .bin .quo (.t 46) (.k (.c (.int .i64 2))), none, false⟩,
  ⟨(some 48), .call (.k (.fn 86 [])) [(.t 44), (.t 47)], none, false⟩,
  ⟨(some 49), .bin .mul (.k (.c (.int .i64 2))) (.t 48), none, false⟩,
  ⟨(some 50), .fa 0 (.t 9), none, false⟩,
  ⟨(some 51), .ld true 1 (.t 50), none, false⟩,
  ⟨(some 52), .bin .rem (.t 51) (.k (.c (.int .i64 2))), none, false⟩,
  ⟨(some 53), .bin .add (.t 49) (.t 52), none, false⟩,
  ⟨(some 54), .ia 2 (.t 42) (.t 43), none, true⟩,
  ⟨(some 55), .fa 0 (.t 54), none, true⟩,
  ⟨none, .st 1 (.t 55) (.t 53), none, true⟩]
@[reducible] def v78_18 : VC := (.seq (.ops o78_16) (.ops o78_17))
@[reducible] def o78_19 : List Ins := [⟨(some 56), .bin .add (.t 36) (.k (.c (.int .i64 1))), none, true⟩,
  ⟨(some 36), .mv (.t 56), none, true⟩]
@[reducible] def v78_20 : VC := (.seq (.block 3 v78_18) (.ops o78_19))
@[reducible] def v78_21 : VC := (.seq (.cond (.t 37) .skip (.exit 2)) v78_20)
@[reducible] def v78_22 : VC := (.seq (.ops o78_15) v78_21)
-- K78_2: changed and kept: [36]
@[reducible] def K78_2 : List Nat := [1, 4, 5, 34, 35]
@[reducible] def v78_23 : VC := (.loop v78_22)
@[reducible] def v78_24 : VC := (.block 2 v78_23)
@[reducible] def o78_25 : List Ins := [⟨(some 57), .ld false 5 (.t 5), none, true⟩,
  ⟨none, .st 5 (.t 4) (.t 57), none, true⟩]
@[reducible] def v78_26 : VC := (.seq (.ops o78_25) .ret)
@[reducible] def v78_27 : VC := (.seq (.seq (.ops o78_14) v78_24) v78_26)
@[reducible] def v78_28 : VC := (.seq (.seq (.ops o78_3) v78_13) v78_27)
@[reducible] def v78_29 : VC := (.seq (.ops o78_2) v78_28)
@[reducible] def v78_30 : VC := (.seq (.ops o78_1) v78_29)
def ir78 : FC := ⟨2, 58, [.cell 4 false 5], (.seq (.ops o78_0) v78_30)⟩
theorem c86 : compM Try.prog [] 86 = some ir86 := by kernel_rfl
theorem c79 : compM Try.prog [] 79 = some ir79 := by kernel_rfl
theorem c78 : compM Try.prog [] 78 = some ir78 := by kernel_rfl



/-! ### Records in another order: plain -/
def IsOrd (n : Nat) (o : List Nat) : Prop := o.Perm (List.range n)
theorem IsOrd.len {n : Nat} {o : List Nat} (h : IsOrd n o) : o.length = n := by have := h.length_eq; simpa using this
theorem IsOrd.lt {n : Nat} {o : List Nat} (h : IsOrd n o) {k : Nat} (hk : k ∈ o) : k < n := List.mem_range.1 (h.mem_iff.1 hk)
theorem IsOrd.mem {n : Nat} {o : List Nat} (h : IsOrd n o) {k : Nat} (hk : k < n) : k ∈ o := h.mem_iff.2 (List.mem_range.2 hk)
/-- A press, when the records stand in another order. -/
def arrP (o : List Nat) (p : Pr) : Pr := ⟨2 * (o.idxOf (p.side.toNat / 2) : Int) + p.side % 2, p.time⟩
def arrT (t : Tray) (o : List Nat) : Tray := { t with recs := o.map t.rc, pres := t.pres.map (arrP o) }
theorem arrP_side {t : Tray} {o : List Nat} (ho : IsOrd t.n o) {p : Pr} (hp : 0 ≤ p.side ∧ p.side < 2 * (t.n : Int)) : o.idxOf (p.side.toNat / 2) < t.n ∧ p.side.toNat / 2 < t.n := by
  have h : p.side.toNat / 2 < t.n := by omega
  have := List.idxOf_lt_length_of_mem (ho.mem h)
  rw [ho.len] at this
  exact ⟨this, h⟩
theorem arr_ok {t : Tray} (ht : TrayOk t) {o : List Nat} (ho : IsOrd t.n o) : TrayOk (arrT t o) := by
  have hn : (arrT t o).n = t.n := by show (o.map t.rc).length = _; rw [List.length_map, ho.len]
  refine ⟨by rw [hn]; exact ht.n1, by rw [hn]; exact ht.n6, by rw [hn]; exact ht.at_, ht.way, ht.step, fun r hr => ?_, fun p hp => ?_, by show (t.pres.map _).length ≤ 13; rw [List.length_map]; exact ht.p13⟩
  · obtain ⟨k, hk, rfl⟩ := List.mem_map.1 hr
    exact rec_ok ht (ho.lt hk)
  · obtain ⟨q, hq, rfl⟩ := List.mem_map.1 hp
    have h1 := ht.pres q hq
    have h2 := arrP_side ho h1.1
    rw [hn]
    refine ⟨?_, h1.2⟩
    simp only [arrP]
    omega
theorem idx_step {o : List Nat} {m k : Nat} (h : k < o.length) : (o.drop k).idxOf m = if o[k] = m then 0 else (o.drop (k + 1)).idxOf m + 1 := by
  rw [List.drop_eq_getElem_cons h, List.idxOf_cons]
  by_cases e : o[k] = m
  · simp [e]
  · have : (o[k] == m) = false := by simpa using e
    rw [if_neg e, this]; rfl

set_option maxHeartbeats 4000000 in
theorem index86 (o : List Nat) (m : Nat) (ho : o.length ≤ 1000) (hm : m ∈ o) : FSpec Try.prog 86 [.c (natsC o), iv m] (iv (o.idxOf m)) := by
  refine FSpec_of c86 (Nat.le_refl _) (by decide) fun C hP hN hC hL => ?_
  simp only [ir86]
  (repeat ((first | refine WV_seq_ ?_ | refine WV_block ?_ | refine WV_ops ?_ | refine WV_skip ?_ | refine WV_exit ?_); (try simp only [go_sem, init_env', Nat.reduceEqDiff, Nat.reduceAdd, Nat.reduceMul, reduceIte, Nat.reduceLeDiff, Nat.reduceLT, Nat.reduceBEq, reduceCtorEq, hP, natsC, List.length_map]); (repeat (refine And.intro (by first | omega | (intros; simp_all; done) | (intros; simp_all; omega)) ?_))))
  (refine WV_loopK K86_1 [] (fun k : Nat => k ≤ o.length ∧ (o.idxOf m = k + (o.drop k).idxOf m ∧ m ∈ o.drop k)) (fun k => o.length - k) (fun k => [(8, iv k)]) (fun _ => []) 0 ⟨Nat.zero_le _, ⟨by simp, by simpa using hm⟩⟩ ?_ ?_)
  · (refine Sub_of (by simp only [go_sem, init_env', Nat.reduceEqDiff, Nat.reduceAdd, Nat.reduceMul, reduceIte, Nat.reduceLeDiff, Nat.reduceLT, Nat.reduceBEq, reduceCtorEq]; ((repeat' (first | exact EnvLe_e0 _ _ | refine EnvLe_upd ?_ ?_)) <;> ((try simp only [upd_app, e0_app, o0_app, Nat.reduceEqDiff, reduceIte]); first | exact AWk.refl _ _ | exact AWk.int (by omega) | exact AWk.int (by rw [w64 (by omega) (by omega)]; omega) | exact AWk.grow rfl | exact AWk.nil _ | exact AWk.of (by simp)))) (by simp only [go_sem, init_env', Nat.reduceEqDiff, Nat.reduceAdd, Nat.reduceMul, reduceIte, Nat.reduceLeDiff, Nat.reduceLT, Nat.reduceBEq, reduceCtorEq]; ((repeat' (first | exact ObjLe_o0 _ | exact ObjLe.rfl' _ | refine ObjLe_same ?_ | refine ObjLe_upd ?_ ?_ | refine ObjLe_new rfl ?_)) <;> rfl)))
  · intro k ⟨hk, hx, hmm⟩
    simp only [go_sem, init_env', Nat.reduceEqDiff, Nat.reduceAdd, Nat.reduceMul, reduceIte, Nat.reduceLeDiff, Nat.reduceLT, Nat.reduceBEq, reduceCtorEq]
    (repeat ((first | refine WV_seq_ ?_ | refine WV_block ?_ | refine WV_ops ?_ | refine WV_skip ?_ | refine WV_exit ?_); (try simp only [go_sem, init_env', Nat.reduceEqDiff, Nat.reduceAdd, Nat.reduceMul, reduceIte, Nat.reduceLeDiff, Nat.reduceLT, Nat.reduceBEq, reduceCtorEq, hP, ]); (repeat (refine And.intro (by first | omega | (intros; simp_all; done) | (intros; simp_all; omega)) ?_))))
    (refine WV_cond rfl (fun h => ?_) (fun h => ?_))
    · have h : k < o.length := by simpa using h
      have hI : (k : Int) < (o.length : Int) := by omega
      have hw2 := w64 (n := (k : Int) + 1) (by omega) (by omega)
      rw [idx_step h] at hx
      rw [List.drop_eq_getElem_cons h] at hmm
      (repeat ((first | refine WV_seq_ ?_ | refine WV_block ?_ | refine WV_ops ?_ | refine WV_skip ?_ | refine WV_exit ?_); (try simp only [go_sem, init_env', Nat.reduceEqDiff, Nat.reduceAdd, Nat.reduceMul, reduceIte, Nat.reduceLeDiff, Nat.reduceLT, Nat.reduceBEq, reduceCtorEq, hP, map_getD h, hI, List.length_map, ncd, Int.natCast_nonneg]); (repeat (refine And.intro (by first | omega | (intros; simp_all; done) | (intros; simp_all; omega)) ?_))))
      have hbe : ((m : Int) == ((o[k] : Nat) : Int)) = decide (o[k] = m) := by rw [Bool.eq_iff_iff]; simp; omega
      rw [hbe]
      by_cases hb : o[k] = m
      · rw [if_pos hb] at hx
        rw [decide_eq_true hb]
        (refine WV_cond rfl (fun h => ?_) (fun h => ?_))
        · (repeat ((first | refine WV_seq_ ?_ | refine WV_block ?_ | refine WV_ops ?_ | refine WV_skip ?_ | refine WV_exit ?_); (try simp only [go_sem, init_env', Nat.reduceEqDiff, Nat.reduceAdd, Nat.reduceMul, reduceIte, Nat.reduceLeDiff, Nat.reduceLT, Nat.reduceBEq, reduceCtorEq, hP, ]); (repeat (refine And.intro (by first | omega | (intros; simp_all; done) | (intros; simp_all; omega)) ?_))))
          (refine WV_ret ?_; simp only [thenQ, inQ, RetQ, RetOk, resAll, resA]; simp only [go_sem, init_env', Nat.reduceEqDiff, Nat.reduceAdd, Nat.reduceMul, reduceIte, Nat.reduceLeDiff, Nat.reduceLT, Nat.reduceBEq, reduceCtorEq, tupA, AV.port, AV.portL, exists_eq_left', ]; (first | exact AVle.of rfl | refine AVle.of ?_ | skip))
          rw [hx]; rfl
        · simp at h
      · rw [if_neg hb] at hx
        rw [decide_eq_false hb]
        (refine WV_cond rfl (fun h => ?_) (fun h => ?_))
        · simp at h
        · (repeat ((first | refine WV_seq_ ?_ | refine WV_block ?_ | refine WV_ops ?_ | refine WV_skip ?_ | refine WV_exit ?_); (try simp only [go_sem, init_env', Nat.reduceEqDiff, Nat.reduceAdd, Nat.reduceMul, reduceIte, Nat.reduceLeDiff, Nat.reduceLT, Nat.reduceBEq, reduceCtorEq, hP, hw2]); (repeat (refine And.intro (by first | omega | (intros; simp_all; done) | (intros; simp_all; omega)) ?_))))
          refine ⟨k + 1, ⟨by omega, by omega, ?_⟩, by omega, ?_⟩
          · rcases List.mem_cons.1 hmm with hmm | hmm
            · exact absurd hmm.symm hb
            · exact hmm
          · (refine Sub_of (by simp only [go_sem, init_env', Nat.reduceEqDiff, Nat.reduceAdd, Nat.reduceMul, reduceIte, Nat.reduceLeDiff, Nat.reduceLT, Nat.reduceBEq, reduceCtorEq]; ((repeat' (first | exact EnvLe_e0 _ _ | refine EnvLe_upd ?_ ?_)) <;> ((try simp only [upd_app, e0_app, o0_app, Nat.reduceEqDiff, reduceIte]); first | exact AWk.refl _ _ | exact AWk.int (by omega) | exact AWk.int (by rw [w64 (by omega) (by omega)]; omega) | exact AWk.grow rfl | exact AWk.nil _ | exact AWk.of (by simp)))) (by simp only [go_sem, init_env', Nat.reduceEqDiff, Nat.reduceAdd, Nat.reduceMul, reduceIte, Nat.reduceLeDiff, Nat.reduceLT, Nat.reduceBEq, reduceCtorEq]; ((repeat' (first | exact ObjLe_o0 _ | exact ObjLe.rfl' _ | refine ObjLe_same ?_ | refine ObjLe_upd ?_ ?_ | refine ObjLe_new rfl ?_)) <;> rfl)))
    · have h : k = o.length := by simp at h; omega
      subst h
      rw [List.drop_length] at hmm
      cases hmm

theorem ncd_scal (l : List Nat) : ((l.map ncd).all fun e => e.all CD.scal) = true := by
  rw [List.all_eq_true]; intro e he; obtain ⟨n, _, rfl⟩ := List.mem_map.1 he; rfl
theorem ncds_one (l : List Nat) : ((l.map ncd).all fun e => e.length == 1) = true := by
  rw [List.all_eq_true]; intro e he; obtain ⟨n, _, rfl⟩ := List.mem_map.1 he; rfl
theorem recs_scal (l : List Rec) : ((l.map Rec.cds).all fun e => e.all CD.scal) = true := by
  rw [List.all_eq_true]; intro e he; obtain ⟨n, _, rfl⟩ := List.mem_map.1 he; rfl
theorem prs_scal (l : List Pr) : ((l.map Pr.cds).all fun e => e.all CD.scal) = true := by
  rw [List.all_eq_true]; intro e he; obtain ⟨n, _, rfl⟩ := List.mem_map.1 he; rfl
theorem cloneI79 (l : List Nat) (hlen : l.length ≤ 1000) : FSpecF Try.prog 79 [.c (natsC l)] (.c (natsC l)) := by
  refine FSpecF_of c79 (Nat.le_refl _) (by decide) fun C hP hN hC hL => ?_
  have hmax : maxLen = 9223372036854775807 := rfl
  simp only [ir79, natsC]
  cases l with
  | nil =>
    (repeat ((first | refine WV_seq_ ?_ | refine WV_block ?_ | refine WV_ops ?_ | refine WV_skip ?_ | refine WV_exit ?_); (try simp only [go_sem, init_env', Nat.reduceEqDiff, Nat.reduceAdd, Nat.reduceMul, reduceIte, Nat.reduceLeDiff, Nat.reduceLT, Nat.reduceBEq, reduceCtorEq, hP, ]); (repeat (refine And.intro (by first | omega | (intros; simp_all; done) | (intros; simp_all; omega)) ?_))))
    intro b
    (repeat ((first | refine WV_seq_ ?_ | refine WV_block ?_ | refine WV_ops ?_ | refine WV_skip ?_ | refine WV_exit ?_); (try simp only [go_sem, init_env', Nat.reduceEqDiff, Nat.reduceAdd, Nat.reduceMul, reduceIte, Nat.reduceLeDiff, Nat.reduceLT, Nat.reduceBEq, reduceCtorEq, hP, ]); (repeat (refine And.intro (by first | omega | (intros; simp_all; done) | (intros; simp_all; omega)) ?_))))
    (refine WV_cond rfl (fun h => ?_) (fun h => ?_))
    · (repeat ((first | refine WV_seq_ ?_ | refine WV_block ?_ | refine WV_ops ?_ | refine WV_skip ?_ | refine WV_exit ?_); (try simp only [go_sem, init_env', Nat.reduceEqDiff, Nat.reduceAdd, Nat.reduceMul, reduceIte, Nat.reduceLeDiff, Nat.reduceLT, Nat.reduceBEq, reduceCtorEq, hP, ]); (repeat (refine And.intro (by first | omega | (intros; simp_all; done) | (intros; simp_all; omega)) ?_))))
      (refine WV_ret ?_; simp only [thenQ, inQ, RetQF, RetOkF, resAll, resA]; simp only [go_sem, init_env', Nat.reduceEqDiff, Nat.reduceAdd, Nat.reduceMul, reduceIte, Nat.reduceLeDiff, Nat.reduceLT, Nat.reduceBEq, reduceCtorEq, tupA, AV.fport, AV.fportL, CD.scal, exists_eq_left', ]; refine And.intro (by ((repeat' (first | exact NoWin_o0 | refine NoWin_upd (fun cs h => by cases h) ?_)))) ?_)
      exact AVle.nil 1
    · (repeat ((first | refine WV_seq_ ?_ | refine WV_block ?_ | refine WV_ops ?_ | refine WV_skip ?_ | refine WV_exit ?_); (try simp only [go_sem, init_env', Nat.reduceEqDiff, Nat.reduceAdd, Nat.reduceMul, reduceIte, Nat.reduceLeDiff, Nat.reduceLT, Nat.reduceBEq, reduceCtorEq, hP, ]); (repeat (refine And.intro (by first | omega | (intros; simp_all; done) | (intros; simp_all; omega)) ?_))))
      (refine WV_ret ?_; simp only [thenQ, inQ, RetQF, RetOkF, resAll, resA]; simp only [go_sem, init_env', Nat.reduceEqDiff, Nat.reduceAdd, Nat.reduceMul, reduceIte, Nat.reduceLeDiff, Nat.reduceLT, Nat.reduceBEq, reduceCtorEq, tupA, AV.fport, AV.fportL, CD.scal, exists_eq_left', ]; refine And.intro (by ((repeat' (first | exact NoWin_o0 | refine NoWin_upd (fun cs h => by cases h) ?_)))) ?_; (first | exact AVle.of rfl | refine AVle.of ?_ | skip))
  | cons a l =>
    simp only [List.length_cons] at hlen
    have hp := ncds_one (a :: l)
    have hs := ncd_scal (a :: l)
    simp only [List.map_cons] at hp hs
    (repeat ((first | refine WV_seq_ ?_ | refine WV_block ?_ | refine WV_ops ?_ | refine WV_skip ?_ | refine WV_exit ?_); (try simp only [go_sem, init_env', Nat.reduceEqDiff, Nat.reduceAdd, Nat.reduceMul, reduceIte, Nat.reduceLeDiff, Nat.reduceLT, Nat.reduceBEq, reduceCtorEq, hP, ]); (repeat (refine And.intro (by first | omega | (intros; simp_all; done) | (intros; simp_all; omega)) ?_))))
    (refine WV_cond rfl (fun h => ?_) (fun h => ?_))
    · cases h
    · (repeat ((first | refine WV_seq_ ?_ | refine WV_block ?_ | refine WV_ops ?_ | refine WV_skip ?_ | refine WV_exit ?_); (try simp only [go_sem, init_env', Nat.reduceEqDiff, Nat.reduceAdd, Nat.reduceMul, reduceIte, Nat.reduceLeDiff, Nat.reduceLT, Nat.reduceBEq, reduceCtorEq, hP, hp, List.length_cons]); (repeat (refine And.intro (by first | omega | (intros; simp_all; done) | (intros; simp_all; omega)) ?_))))
      (refine WV_ret ?_; simp only [thenQ, inQ, RetQF, RetOkF, resAll, resA]; simp only [go_sem, init_env', Nat.reduceEqDiff, Nat.reduceAdd, Nat.reduceMul, reduceIte, Nat.reduceLeDiff, Nat.reduceLT, Nat.reduceBEq, reduceCtorEq, tupA, AV.fport, AV.fportL, CD.scal, exists_eq_left', hs]; refine And.intro (by ((repeat' (first | exact NoWin_o0 | refine NoWin_upd (fun cs h => by cases h) ?_)))) ?_)
      exact AVle.refl _

/-- The first k ones are other ones. -/
def mapK {α : Type} (g : α → α) (l : List α) (k : Nat) : List α := (l.take k).map g ++ l.drop k
theorem mapK_len {α : Type} (g : α → α) (l : List α) (k : Nat) : (mapK g l k).length = l.length := by simp [mapK]; omega
theorem mapK_zero {α : Type} (g : α → α) (l : List α) : mapK g l 0 = l := by simp [mapK]
theorem mapK_all {α : Type} (g : α → α) (l : List α) : mapK g l l.length = l.map g := by simp [mapK]
theorem mapK_get {α : Type} {g : α → α} {l : List α} {k : Nat} (h : k < l.length) (h' : k < (mapK g l k).length) : (mapK g l k)[k] = l[k] := by
  have hl : ((l.take k).map g).length = k := by simp; omega
  have h2 : (mapK g l k)[k]? = some l[k] := by
    unfold mapK
    rw [List.getElem?_append_right (by rw [hl]; exact Nat.le_refl _), hl, Nat.sub_self, List.getElem?_drop, Nat.add_zero, List.getElem?_eq_getElem h]
  exact (List.getElem?_eq_some_iff.1 h2).2
theorem mapK_set {α : Type} {g : α → α} {l : List α} {k : Nat} (h : k < l.length) : (mapK g l k).set k (g l[k]) = mapK g l (k + 1) := by
  have hl : ((l.take k).map g).length = k := by simp; omega
  unfold mapK
  rw [List.set_append_right _ _ (by rw [hl]; exact Nat.le_refl _), hl, Nat.sub_self, List.drop_eq_getElem_cons h, List.set_cons_zero, List.take_succ_eq_append_getElem h, List.map_append]
  simp
def recsT (t : Tray) (o : List Nat) (k : Nat) : List Rec := (o.take k).map t.rc
theorem recsT_succ (t : Tray) {o : List Nat} {k : Nat} (h : k < o.length) : recsT t o (k + 1) = recsT t o k ++ [t.rc o[k]] := by
  unfold recsT; rw [List.take_succ_eq_append_getElem h, List.map_append]; rfl
theorem recsT_all (t : Tray) (o : List Nat) : recsT t o o.length = o.map t.rc := by unfold recsT; rw [List.take_length]
theorem recsT_len (t : Tray) (o : List Nat) (k : Nat) : (recsT t o k).length ≤ k := by unfold recsT; rw [List.length_map, List.length_take]; omega

set_option maxRecDepth 20000 in
set_option maxHeartbeats 8000000 in
theorem arranged78 {t : Tray} (ht : TrayOk t) {o : List Nat} (ho : IsOrd t.n o) : FSpecF Try.prog 78 [t.av, .c (natsC o)] (arrT t o).av := by
  have hmax : maxLen = 9223372036854775807 := rfl
  have hn6 := ht.n6
  have hol := ho.len
  have h13 := ht.p13
  refine FSpecF_of c78 (Nat.le_refl _) (by decide) fun C hP hN hC hL => ?_
  simp only [ir78, Tray.av]
  (repeat ((first | refine WV_seq_ ?_ | refine WV_block ?_ | refine WV_ops ?_ | refine WV_skip ?_ | refine WV_exit ?_); (try simp only [go_sem, init_env', Nat.reduceEqDiff, Nat.reduceAdd, Nat.reduceMul, reduceIte, Nat.reduceLeDiff, Nat.reduceLT, Nat.reduceBEq, reduceCtorEq, hP, ]); (repeat (refine And.intro (by first | omega | (intros; simp_all; done) | (intros; simp_all; omega)) ?_))))
  by_cases hpn : t.pres = []
  · refine AS_new (cloneG56 t.pres (by omega)) rfl rfl rfl rfl ?_
    rintro res os (⟨rfl, rfl⟩ | ⟨-, rfl, rfl⟩)
    · refine ⟨[900], .gr 900, [.grow 27 2 (t.pres.map Pr.cds)], by decide, rfl, by simp only [go_sem, init_env', Nat.reduceEqDiff, Nat.reduceAdd, Nat.reduceMul, reduceIte, Nat.reduceLeDiff, Nat.reduceLT, Nat.reduceBEq, reduceCtorEq, decide_true], rfl, rfl, ?_⟩
      rw [hpn]
      simp only [go_sem, init_env', Nat.reduceEqDiff, Nat.reduceAdd, Nat.reduceMul, reduceIte, Nat.reduceLeDiff, Nat.reduceLT, Nat.reduceBEq, reduceCtorEq, hP, ownBack, List.map_nil]
      (repeat (refine And.intro (by first | omega | (intros; simp_all; done) | (intros; simp_all; omega)) ?_))
      refine WV_nilbox 5 0 30 56 2 (by decide) (by decide) (by decide) rfl rfl rfl ?_
      simp only [go_sem, init_env', Nat.reduceEqDiff, Nat.reduceAdd, Nat.reduceMul, reduceIte, Nat.reduceLeDiff, Nat.reduceLT, Nat.reduceBEq, reduceCtorEq]
      (repeat ((first | refine WV_seq_ ?_ | refine WV_block ?_ | refine WV_ops ?_ | refine WV_skip ?_ | refine WV_exit ?_); (try simp only [go_sem, init_env', Nat.reduceEqDiff, Nat.reduceAdd, Nat.reduceMul, reduceIte, Nat.reduceLeDiff, Nat.reduceLT, Nat.reduceBEq, reduceCtorEq, hP, natsC, List.length_map]); (repeat (refine And.intro (by first | omega | (intros; simp_all; done) | (intros; simp_all; omega)) ?_))))
      refine WV_loopK K78_1 [5, 29, 30] (fun k : Nat => k ≤ o.length) (fun k => o.length - k) (fun k => [(18, iv k)]) (fun k => [(5, .box [.gr 30, iv t.at_, iv t.way, iv t.step, .gr 900]), (30, .grow 56 2 ((recsT t o k).map Rec.cds))]) 0 (Nat.zero_le _) ?_ ?_
      · (refine Sub_of (by simp only [go_sem, init_env', Nat.reduceEqDiff, Nat.reduceAdd, Nat.reduceMul, reduceIte, Nat.reduceLeDiff, Nat.reduceLT, Nat.reduceBEq, reduceCtorEq]; ((repeat' (first | exact EnvLe_e0 _ _ | refine EnvLe_upd ?_ ?_)) <;> ((try simp only [upd_app, e0_app, o0_app, Nat.reduceEqDiff, reduceIte]); first | exact AWk.refl _ _ | exact AWk.int (by omega) | exact AWk.int (by rw [w64 (by omega) (by omega)]; omega) | exact AWk.grow rfl | exact AWk.nil _ | exact AWk.of (by simp)))) (by simp only [go_sem, init_env', Nat.reduceEqDiff, Nat.reduceAdd, Nat.reduceMul, reduceIte, Nat.reduceLeDiff, Nat.reduceLT, Nat.reduceBEq, reduceCtorEq]; ((repeat' (first | exact ObjLe_o0 _ | exact ObjLe.rfl' _ | refine ObjLe_same ?_ | refine ObjLe_upd ?_ ?_ | refine ObjLe_new rfl ?_)) <;> rfl)))
      · intro k hk
        simp only [go_sem, init_env', Nat.reduceEqDiff, Nat.reduceAdd, Nat.reduceMul, reduceIte, Nat.reduceLeDiff, Nat.reduceLT, Nat.reduceBEq, reduceCtorEq]
        (repeat ((first | refine WV_seq_ ?_ | refine WV_block ?_ | refine WV_ops ?_ | refine WV_skip ?_ | refine WV_exit ?_); (try simp only [go_sem, init_env', Nat.reduceEqDiff, Nat.reduceAdd, Nat.reduceMul, reduceIte, Nat.reduceLeDiff, Nat.reduceLT, Nat.reduceBEq, reduceCtorEq, hP, ]); (repeat (refine And.intro (by first | omega | (intros; simp_all; done) | (intros; simp_all; omega)) ?_))))
        (refine WV_cond rfl (fun h => ?_) (fun h => ?_))
        · have hkl : k < o.length := by simpa using h
          have hI : (k : Int) < (o.length : Int) := by omega
          have hw := w64 (n := (k : Int) + 1) (by omega) (by omega)
          have hlt := ho.lt (List.getElem_mem hkl)
          have hlt' : o[k] < t.recs.length := hlt
          have hI2 : ((o[k] : Nat) : Int) < (t.recs.length : Int) := by omega
          have hrc : t.rc o[k] = t.recs[o[k]] := by unfold Tray.rc; simp [hlt']
          have hsu := recsT_succ t hkl
          have hrl := recsT_len t o k
          have e9 : (recsT t o k).map Rec.cds ++ [[CD.int .i64 t.recs[o[k]].front, CD.int .i64 t.recs[o[k]].back]] = (recsT t o (k + 1)).map Rec.cds := by rw [hsu, hrc, List.map_append]; rfl
          (repeat ((first | refine WV_seq_ ?_ | refine WV_block ?_ | refine WV_ops ?_ | refine WV_skip ?_ | refine WV_exit ?_); (try simp only [go_sem, init_env', Nat.reduceEqDiff, Nat.reduceAdd, Nat.reduceMul, reduceIte, Nat.reduceLeDiff, Nat.reduceLT, Nat.reduceBEq, reduceCtorEq, hP, map_getD hkl, hI, Int.natCast_nonneg, ncd, recsC, List.length_map, map_getD hlt', hI2, Rec.cds, recs_two, hw, e9]); (repeat (refine And.intro (by first | omega | (intros; simp_all; done) | (intros; simp_all; omega)) ?_))))
          refine ⟨k + 1, by omega, by omega, ?_⟩
          (refine Sub_of (by simp only [go_sem, init_env', Nat.reduceEqDiff, Nat.reduceAdd, Nat.reduceMul, reduceIte, Nat.reduceLeDiff, Nat.reduceLT, Nat.reduceBEq, reduceCtorEq]; ((repeat' (first | exact EnvLe_e0 _ _ | refine EnvLe_upd ?_ ?_)) <;> ((try simp only [upd_app, e0_app, o0_app, Nat.reduceEqDiff, reduceIte]); first | exact AWk.refl _ _ | exact AWk.int (by omega) | exact AWk.int (by rw [w64 (by omega) (by omega)]; omega) | exact AWk.grow rfl | exact AWk.nil _ | exact AWk.of (by simp)))) (by simp only [go_sem, init_env', Nat.reduceEqDiff, Nat.reduceAdd, Nat.reduceMul, reduceIte, Nat.reduceLeDiff, Nat.reduceLT, Nat.reduceBEq, reduceCtorEq]; ((repeat' (first | exact ObjLe_o0 _ | exact ObjLe.rfl' _ | refine ObjLe_same ?_ | refine ObjLe_upd ?_ ?_ | refine ObjLe_new rfl ?_)) <;> rfl)))
        · have h : k = o.length := by simp at h; omega
          subst h
          rw [recsT_all]
          (refine WV_exit ?_; simp only [go_sem, init_env', Nat.reduceEqDiff, Nat.reduceAdd, Nat.reduceMul, reduceIte, Nat.reduceLeDiff, Nat.reduceLT, Nat.reduceBEq, reduceCtorEq])
          (repeat ((first | refine WV_seq_ ?_ | refine WV_block ?_ | refine WV_ops ?_ | refine WV_skip ?_ | refine WV_exit ?_); (try simp only [go_sem, init_env', Nat.reduceEqDiff, Nat.reduceAdd, Nat.reduceMul, reduceIte, Nat.reduceLeDiff, Nat.reduceLT, Nat.reduceBEq, reduceCtorEq, hP, List.length_nil, Int.natCast_zero]); (repeat (refine And.intro (by first | omega | (intros; simp_all; done) | (intros; simp_all; omega)) ?_))))
          refine WV_loopK K78_2 [] (fun _ : Unit => True) (fun _ => 0) (fun _ => [(36, iv 0)]) (fun _ => []) () trivial ?_ ?_
          · (refine Sub_of (by simp only [go_sem, init_env', Nat.reduceEqDiff, Nat.reduceAdd, Nat.reduceMul, reduceIte, Nat.reduceLeDiff, Nat.reduceLT, Nat.reduceBEq, reduceCtorEq]; ((repeat' (first | exact EnvLe_e0 _ _ | refine EnvLe_upd ?_ ?_)) <;> ((try simp only [upd_app, e0_app, o0_app, Nat.reduceEqDiff, reduceIte]); first | exact AWk.refl _ _ | exact AWk.int (by omega) | exact AWk.int (by rw [w64 (by omega) (by omega)]; omega) | exact AWk.grow rfl | exact AWk.nil _ | exact AWk.of (by simp)))) (by simp only [go_sem, init_env', Nat.reduceEqDiff, Nat.reduceAdd, Nat.reduceMul, reduceIte, Nat.reduceLeDiff, Nat.reduceLT, Nat.reduceBEq, reduceCtorEq]; ((repeat' (first | exact ObjLe_o0 _ | exact ObjLe.rfl' _ | refine ObjLe_same ?_ | refine ObjLe_upd ?_ ?_ | refine ObjLe_new rfl ?_)) <;> rfl)))
          · rintro - -
            simp only [go_sem, init_env', Nat.reduceEqDiff, Nat.reduceAdd, Nat.reduceMul, reduceIte, Nat.reduceLeDiff, Nat.reduceLT, Nat.reduceBEq, reduceCtorEq]
            (repeat ((first | refine WV_seq_ ?_ | refine WV_block ?_ | refine WV_ops ?_ | refine WV_skip ?_ | refine WV_exit ?_); (try simp only [go_sem, init_env', Nat.reduceEqDiff, Nat.reduceAdd, Nat.reduceMul, reduceIte, Nat.reduceLeDiff, Nat.reduceLT, Nat.reduceBEq, reduceCtorEq, hP, ]); (repeat (refine And.intro (by first | omega | (intros; simp_all; done) | (intros; simp_all; omega)) ?_))))
            (refine WV_cond rfl (fun h => ?_) (fun h => ?_))
            · simp at h
            · (refine WV_exit ?_; simp only [go_sem, init_env', Nat.reduceEqDiff, Nat.reduceAdd, Nat.reduceMul, reduceIte, Nat.reduceLeDiff, Nat.reduceLT, Nat.reduceBEq, reduceCtorEq])
              (repeat ((first | refine WV_seq_ ?_ | refine WV_block ?_ | refine WV_ops ?_ | refine WV_skip ?_ | refine WV_exit ?_); (try simp only [go_sem, init_env', Nat.reduceEqDiff, Nat.reduceAdd, Nat.reduceMul, reduceIte, Nat.reduceLeDiff, Nat.reduceLT, Nat.reduceBEq, reduceCtorEq, hP, ]); (repeat (refine And.intro (by first | omega | (intros; simp_all; done) | (intros; simp_all; omega)) ?_))))
              have hrs := recs_scal (o.map t.rc)
              have hav : (arrT t o).av = .agg [.c (.sl 2 ((o.map t.rc).map Rec.cds)), iv t.at_, iv t.way, iv t.step, .c (.sl 2 [])] := by simp [Tray.av, arrT, hpn, recsC, prsC]
              (refine WV_ret ?_; simp only [thenQ, inQ, RetQF, RetOkF, resAll, resA]; simp only [go_sem, init_env', Nat.reduceEqDiff, Nat.reduceAdd, Nat.reduceMul, reduceIte, Nat.reduceLeDiff, Nat.reduceLT, Nat.reduceBEq, reduceCtorEq, tupA, AV.fport, AV.fportL, CD.scal, exists_eq_left', hrs]; refine And.intro (by ((repeat' (first | exact NoWin_o0 | refine NoWin_upd (fun cs h => by cases h) ?_)))) ?_)
              exact AVle.agg (AVles.cons (AVle.refl _) (AVles.cons (AVle.refl _) (AVles.cons (AVle.refl _) (AVles.cons (AVle.refl _) (AVles.cons (AVle.of (by simp [arrT, hpn, prsC])) (AVles.refl _))))))
    · refine ⟨[], .c (.raw (.slice none 0 0)), [], by decide, rfl, by simp only [go_sem, init_env', Nat.reduceEqDiff, Nat.reduceAdd, Nat.reduceMul, reduceIte, Nat.reduceLeDiff, Nat.reduceLT, Nat.reduceBEq, reduceCtorEq, decide_true], rfl, rfl, ?_⟩
      simp only [go_sem, init_env', Nat.reduceEqDiff, Nat.reduceAdd, Nat.reduceMul, reduceIte, Nat.reduceLeDiff, Nat.reduceLT, Nat.reduceBEq, reduceCtorEq, hP, ownBack]
      (repeat (refine And.intro (by first | omega | (intros; simp_all; done) | (intros; simp_all; omega)) ?_))
      refine WV_nilbox 5 0 30 56 2 (by decide) (by decide) (by decide) rfl rfl rfl ?_
      simp only [go_sem, init_env', Nat.reduceEqDiff, Nat.reduceAdd, Nat.reduceMul, reduceIte, Nat.reduceLeDiff, Nat.reduceLT, Nat.reduceBEq, reduceCtorEq]
      (repeat ((first | refine WV_seq_ ?_ | refine WV_block ?_ | refine WV_ops ?_ | refine WV_skip ?_ | refine WV_exit ?_); (try simp only [go_sem, init_env', Nat.reduceEqDiff, Nat.reduceAdd, Nat.reduceMul, reduceIte, Nat.reduceLeDiff, Nat.reduceLT, Nat.reduceBEq, reduceCtorEq, hP, natsC, List.length_map]); (repeat (refine And.intro (by first | omega | (intros; simp_all; done) | (intros; simp_all; omega)) ?_))))
      refine WV_loopK K78_1 [5, 29, 30] (fun k : Nat => k ≤ o.length) (fun k => o.length - k) (fun k => [(18, iv k)]) (fun k => [(5, .box [.gr 30, iv t.at_, iv t.way, iv t.step, .c (.raw (.slice none 0 0))]), (30, .grow 56 2 ((recsT t o k).map Rec.cds))]) 0 (Nat.zero_le _) ?_ ?_
      · (refine Sub_of (by simp only [go_sem, init_env', Nat.reduceEqDiff, Nat.reduceAdd, Nat.reduceMul, reduceIte, Nat.reduceLeDiff, Nat.reduceLT, Nat.reduceBEq, reduceCtorEq]; ((repeat' (first | exact EnvLe_e0 _ _ | refine EnvLe_upd ?_ ?_)) <;> ((try simp only [upd_app, e0_app, o0_app, Nat.reduceEqDiff, reduceIte]); first | exact AWk.refl _ _ | exact AWk.int (by omega) | exact AWk.int (by rw [w64 (by omega) (by omega)]; omega) | exact AWk.grow rfl | exact AWk.nil _ | exact AWk.of (by simp)))) (by simp only [go_sem, init_env', Nat.reduceEqDiff, Nat.reduceAdd, Nat.reduceMul, reduceIte, Nat.reduceLeDiff, Nat.reduceLT, Nat.reduceBEq, reduceCtorEq]; ((repeat' (first | exact ObjLe_o0 _ | exact ObjLe.rfl' _ | refine ObjLe_same ?_ | refine ObjLe_upd ?_ ?_ | refine ObjLe_new rfl ?_)) <;> rfl)))
      · intro k hk
        simp only [go_sem, init_env', Nat.reduceEqDiff, Nat.reduceAdd, Nat.reduceMul, reduceIte, Nat.reduceLeDiff, Nat.reduceLT, Nat.reduceBEq, reduceCtorEq]
        (repeat ((first | refine WV_seq_ ?_ | refine WV_block ?_ | refine WV_ops ?_ | refine WV_skip ?_ | refine WV_exit ?_); (try simp only [go_sem, init_env', Nat.reduceEqDiff, Nat.reduceAdd, Nat.reduceMul, reduceIte, Nat.reduceLeDiff, Nat.reduceLT, Nat.reduceBEq, reduceCtorEq, hP, ]); (repeat (refine And.intro (by first | omega | (intros; simp_all; done) | (intros; simp_all; omega)) ?_))))
        (refine WV_cond rfl (fun h => ?_) (fun h => ?_))
        · have hkl : k < o.length := by simpa using h
          have hI : (k : Int) < (o.length : Int) := by omega
          have hw := w64 (n := (k : Int) + 1) (by omega) (by omega)
          have hlt := ho.lt (List.getElem_mem hkl)
          have hlt' : o[k] < t.recs.length := hlt
          have hI2 : ((o[k] : Nat) : Int) < (t.recs.length : Int) := by omega
          have hrc : t.rc o[k] = t.recs[o[k]] := by unfold Tray.rc; simp [hlt']
          have hsu := recsT_succ t hkl
          have hrl := recsT_len t o k
          have e9 : (recsT t o k).map Rec.cds ++ [[CD.int .i64 t.recs[o[k]].front, CD.int .i64 t.recs[o[k]].back]] = (recsT t o (k + 1)).map Rec.cds := by rw [hsu, hrc, List.map_append]; rfl
          (repeat ((first | refine WV_seq_ ?_ | refine WV_block ?_ | refine WV_ops ?_ | refine WV_skip ?_ | refine WV_exit ?_); (try simp only [go_sem, init_env', Nat.reduceEqDiff, Nat.reduceAdd, Nat.reduceMul, reduceIte, Nat.reduceLeDiff, Nat.reduceLT, Nat.reduceBEq, reduceCtorEq, hP, map_getD hkl, hI, Int.natCast_nonneg, ncd, recsC, List.length_map, map_getD hlt', hI2, Rec.cds, recs_two, hw, e9]); (repeat (refine And.intro (by first | omega | (intros; simp_all; done) | (intros; simp_all; omega)) ?_))))
          refine ⟨k + 1, by omega, by omega, ?_⟩
          (refine Sub_of (by simp only [go_sem, init_env', Nat.reduceEqDiff, Nat.reduceAdd, Nat.reduceMul, reduceIte, Nat.reduceLeDiff, Nat.reduceLT, Nat.reduceBEq, reduceCtorEq]; ((repeat' (first | exact EnvLe_e0 _ _ | refine EnvLe_upd ?_ ?_)) <;> ((try simp only [upd_app, e0_app, o0_app, Nat.reduceEqDiff, reduceIte]); first | exact AWk.refl _ _ | exact AWk.int (by omega) | exact AWk.int (by rw [w64 (by omega) (by omega)]; omega) | exact AWk.grow rfl | exact AWk.nil _ | exact AWk.of (by simp)))) (by simp only [go_sem, init_env', Nat.reduceEqDiff, Nat.reduceAdd, Nat.reduceMul, reduceIte, Nat.reduceLeDiff, Nat.reduceLT, Nat.reduceBEq, reduceCtorEq]; ((repeat' (first | exact ObjLe_o0 _ | exact ObjLe.rfl' _ | refine ObjLe_same ?_ | refine ObjLe_upd ?_ ?_ | refine ObjLe_new rfl ?_)) <;> rfl)))
        · have h : k = o.length := by simp at h; omega
          subst h
          rw [recsT_all]
          (refine WV_exit ?_; simp only [go_sem, init_env', Nat.reduceEqDiff, Nat.reduceAdd, Nat.reduceMul, reduceIte, Nat.reduceLeDiff, Nat.reduceLT, Nat.reduceBEq, reduceCtorEq])
          (repeat ((first | refine WV_seq_ ?_ | refine WV_block ?_ | refine WV_ops ?_ | refine WV_skip ?_ | refine WV_exit ?_); (try simp only [go_sem, init_env', Nat.reduceEqDiff, Nat.reduceAdd, Nat.reduceMul, reduceIte, Nat.reduceLeDiff, Nat.reduceLT, Nat.reduceBEq, reduceCtorEq, hP, List.length_nil, Int.natCast_zero]); (repeat (refine And.intro (by first | omega | (intros; simp_all; done) | (intros; simp_all; omega)) ?_))))
          refine WV_loopK K78_2 [] (fun _ : Unit => True) (fun _ => 0) (fun _ => [(36, iv 0)]) (fun _ => []) () trivial ?_ ?_
          · (refine Sub_of (by simp only [go_sem, init_env', Nat.reduceEqDiff, Nat.reduceAdd, Nat.reduceMul, reduceIte, Nat.reduceLeDiff, Nat.reduceLT, Nat.reduceBEq, reduceCtorEq]; ((repeat' (first | exact EnvLe_e0 _ _ | refine EnvLe_upd ?_ ?_)) <;> ((try simp only [upd_app, e0_app, o0_app, Nat.reduceEqDiff, reduceIte]); first | exact AWk.refl _ _ | exact AWk.int (by omega) | exact AWk.int (by rw [w64 (by omega) (by omega)]; omega) | exact AWk.grow rfl | exact AWk.nil _ | exact AWk.of (by simp)))) (by simp only [go_sem, init_env', Nat.reduceEqDiff, Nat.reduceAdd, Nat.reduceMul, reduceIte, Nat.reduceLeDiff, Nat.reduceLT, Nat.reduceBEq, reduceCtorEq]; ((repeat' (first | exact ObjLe_o0 _ | exact ObjLe.rfl' _ | refine ObjLe_same ?_ | refine ObjLe_upd ?_ ?_ | refine ObjLe_new rfl ?_)) <;> rfl)))
          · rintro - -
            simp only [go_sem, init_env', Nat.reduceEqDiff, Nat.reduceAdd, Nat.reduceMul, reduceIte, Nat.reduceLeDiff, Nat.reduceLT, Nat.reduceBEq, reduceCtorEq]
            (repeat ((first | refine WV_seq_ ?_ | refine WV_block ?_ | refine WV_ops ?_ | refine WV_skip ?_ | refine WV_exit ?_); (try simp only [go_sem, init_env', Nat.reduceEqDiff, Nat.reduceAdd, Nat.reduceMul, reduceIte, Nat.reduceLeDiff, Nat.reduceLT, Nat.reduceBEq, reduceCtorEq, hP, ]); (repeat (refine And.intro (by first | omega | (intros; simp_all; done) | (intros; simp_all; omega)) ?_))))
            (refine WV_cond rfl (fun h => ?_) (fun h => ?_))
            · simp at h
            · (refine WV_exit ?_; simp only [go_sem, init_env', Nat.reduceEqDiff, Nat.reduceAdd, Nat.reduceMul, reduceIte, Nat.reduceLeDiff, Nat.reduceLT, Nat.reduceBEq, reduceCtorEq])
              (repeat ((first | refine WV_seq_ ?_ | refine WV_block ?_ | refine WV_ops ?_ | refine WV_skip ?_ | refine WV_exit ?_); (try simp only [go_sem, init_env', Nat.reduceEqDiff, Nat.reduceAdd, Nat.reduceMul, reduceIte, Nat.reduceLeDiff, Nat.reduceLT, Nat.reduceBEq, reduceCtorEq, hP, ]); (repeat (refine And.intro (by first | omega | (intros; simp_all; done) | (intros; simp_all; omega)) ?_))))
              have hrs := recs_scal (o.map t.rc)
              have hav : (arrT t o).av = .agg [.c (.sl 2 ((o.map t.rc).map Rec.cds)), iv t.at_, iv t.way, iv t.step, .c (.sl 2 [])] := by simp [Tray.av, arrT, hpn, recsC, prsC]
              (refine WV_ret ?_; simp only [thenQ, inQ, RetQF, RetOkF, resAll, resA]; simp only [go_sem, init_env', Nat.reduceEqDiff, Nat.reduceAdd, Nat.reduceMul, reduceIte, Nat.reduceLeDiff, Nat.reduceLT, Nat.reduceBEq, reduceCtorEq, tupA, AV.fport, AV.fportL, CD.scal, exists_eq_left', hrs]; refine And.intro (by ((repeat' (first | exact NoWin_o0 | refine NoWin_upd (fun cs h => by cases h) ?_)))) ?_)
              exact AVle.agg (AVles.cons (AVle.refl _) (AVles.cons (AVle.refl _) (AVles.cons (AVle.refl _) (AVles.cons (AVle.refl _) (AVles.cons (by rw [show (arrT t o).pres = [] by simp [arrT, hpn]]; exact AVle.nil 2) (AVles.refl _))))))
  · refine AS_new (cloneN56 t.pres (by omega) hpn) rfl rfl rfl rfl ?_
    rintro res os ⟨cap, J, h1, h2, h3, rfl, rfl⟩
    refine ⟨[900], .vw 2 900 0 t.pres.length cap, [.box (cellsG Pr.cds t.pres J)], by decide, rfl, by simp only [go_sem, init_env', Nat.reduceEqDiff, Nat.reduceAdd, Nat.reduceMul, reduceIte, Nat.reduceLeDiff, Nat.reduceLT, Nat.reduceBEq, reduceCtorEq, decide_true], rfl, (by simp only [obsBack, Ob.back, back_cellsG]; rfl), ?_⟩
    simp only [go_sem, init_env', Nat.reduceEqDiff, Nat.reduceAdd, Nat.reduceMul, reduceIte, Nat.reduceLeDiff, Nat.reduceLT, Nat.reduceBEq, reduceCtorEq, hP, ownBack]
    (repeat (refine And.intro (by first | omega | (intros; simp_all; done) | (intros; simp_all; omega)) ?_))
    refine WV_nilbox 5 0 30 56 2 (by decide) (by decide) (by decide) rfl rfl rfl ?_
    simp only [go_sem, init_env', Nat.reduceEqDiff, Nat.reduceAdd, Nat.reduceMul, reduceIte, Nat.reduceLeDiff, Nat.reduceLT, Nat.reduceBEq, reduceCtorEq]
    (repeat ((first | refine WV_seq_ ?_ | refine WV_block ?_ | refine WV_ops ?_ | refine WV_skip ?_ | refine WV_exit ?_); (try simp only [go_sem, init_env', Nat.reduceEqDiff, Nat.reduceAdd, Nat.reduceMul, reduceIte, Nat.reduceLeDiff, Nat.reduceLT, Nat.reduceBEq, reduceCtorEq, hP, natsC, List.length_map]); (repeat (refine And.intro (by first | omega | (intros; simp_all; done) | (intros; simp_all; omega)) ?_))))
    refine WV_loopK K78_1 [5, 29, 30] (fun k : Nat => k ≤ o.length) (fun k => o.length - k) (fun k => [(18, iv k)]) (fun k => [(5, .box [.gr 30, iv t.at_, iv t.way, iv t.step, .vw 2 900 0 t.pres.length cap]), (30, .grow 56 2 ((recsT t o k).map Rec.cds))]) 0 (Nat.zero_le _) ?_ ?_
    · (refine Sub_of (by simp only [go_sem, init_env', Nat.reduceEqDiff, Nat.reduceAdd, Nat.reduceMul, reduceIte, Nat.reduceLeDiff, Nat.reduceLT, Nat.reduceBEq, reduceCtorEq]; ((repeat' (first | exact EnvLe_e0 _ _ | refine EnvLe_upd ?_ ?_)) <;> ((try simp only [upd_app, e0_app, o0_app, Nat.reduceEqDiff, reduceIte]); first | exact AWk.refl _ _ | exact AWk.int (by omega) | exact AWk.int (by rw [w64 (by omega) (by omega)]; omega) | exact AWk.grow rfl | exact AWk.nil _ | exact AWk.of (by simp)))) (by simp only [go_sem, init_env', Nat.reduceEqDiff, Nat.reduceAdd, Nat.reduceMul, reduceIte, Nat.reduceLeDiff, Nat.reduceLT, Nat.reduceBEq, reduceCtorEq]; ((repeat' (first | exact ObjLe_o0 _ | exact ObjLe.rfl' _ | refine ObjLe_same ?_ | refine ObjLe_upd ?_ ?_ | refine ObjLe_new rfl ?_)) <;> rfl)))
    · intro k hk
      simp only [go_sem, init_env', Nat.reduceEqDiff, Nat.reduceAdd, Nat.reduceMul, reduceIte, Nat.reduceLeDiff, Nat.reduceLT, Nat.reduceBEq, reduceCtorEq]
      (repeat ((first | refine WV_seq_ ?_ | refine WV_block ?_ | refine WV_ops ?_ | refine WV_skip ?_ | refine WV_exit ?_); (try simp only [go_sem, init_env', Nat.reduceEqDiff, Nat.reduceAdd, Nat.reduceMul, reduceIte, Nat.reduceLeDiff, Nat.reduceLT, Nat.reduceBEq, reduceCtorEq, hP, ]); (repeat (refine And.intro (by first | omega | (intros; simp_all; done) | (intros; simp_all; omega)) ?_))))
      (refine WV_cond rfl (fun h => ?_) (fun h => ?_))
      · have hkl : k < o.length := by simpa using h
        have hI : (k : Int) < (o.length : Int) := by omega
        have hw := w64 (n := (k : Int) + 1) (by omega) (by omega)
        have hlt := ho.lt (List.getElem_mem hkl)
        have hlt' : o[k] < t.recs.length := hlt
        have hI2 : ((o[k] : Nat) : Int) < (t.recs.length : Int) := by omega
        have hrc : t.rc o[k] = t.recs[o[k]] := by unfold Tray.rc; simp [hlt']
        have hsu := recsT_succ t hkl
        have hrl := recsT_len t o k
        have e9 : (recsT t o k).map Rec.cds ++ [[CD.int .i64 t.recs[o[k]].front, CD.int .i64 t.recs[o[k]].back]] = (recsT t o (k + 1)).map Rec.cds := by rw [hsu, hrc, List.map_append]; rfl
        (repeat ((first | refine WV_seq_ ?_ | refine WV_block ?_ | refine WV_ops ?_ | refine WV_skip ?_ | refine WV_exit ?_); (try simp only [go_sem, init_env', Nat.reduceEqDiff, Nat.reduceAdd, Nat.reduceMul, reduceIte, Nat.reduceLeDiff, Nat.reduceLT, Nat.reduceBEq, reduceCtorEq, hP, map_getD hkl, hI, Int.natCast_nonneg, ncd, recsC, List.length_map, map_getD hlt', hI2, Rec.cds, recs_two, hw, e9]); (repeat (refine And.intro (by first | omega | (intros; simp_all; done) | (intros; simp_all; omega)) ?_))))
        refine ⟨k + 1, by omega, by omega, ?_⟩
        (refine Sub_of (by simp only [go_sem, init_env', Nat.reduceEqDiff, Nat.reduceAdd, Nat.reduceMul, reduceIte, Nat.reduceLeDiff, Nat.reduceLT, Nat.reduceBEq, reduceCtorEq]; ((repeat' (first | exact EnvLe_e0 _ _ | refine EnvLe_upd ?_ ?_)) <;> ((try simp only [upd_app, e0_app, o0_app, Nat.reduceEqDiff, reduceIte]); first | exact AWk.refl _ _ | exact AWk.int (by omega) | exact AWk.int (by rw [w64 (by omega) (by omega)]; omega) | exact AWk.grow rfl | exact AWk.nil _ | exact AWk.of (by simp)))) (by simp only [go_sem, init_env', Nat.reduceEqDiff, Nat.reduceAdd, Nat.reduceMul, reduceIte, Nat.reduceLeDiff, Nat.reduceLT, Nat.reduceBEq, reduceCtorEq]; ((repeat' (first | exact ObjLe_o0 _ | exact ObjLe.rfl' _ | refine ObjLe_same ?_ | refine ObjLe_upd ?_ ?_ | refine ObjLe_new rfl ?_)) <;> rfl)))
      · have h : k = o.length := by simp at h; omega
        subst h
        rw [recsT_all]
        (refine WV_exit ?_; simp only [go_sem, init_env', Nat.reduceEqDiff, Nat.reduceAdd, Nat.reduceMul, reduceIte, Nat.reduceLeDiff, Nat.reduceLT, Nat.reduceBEq, reduceCtorEq])
        (repeat ((first | refine WV_seq_ ?_ | refine WV_block ?_ | refine WV_ops ?_ | refine WV_skip ?_ | refine WV_exit ?_); (try simp only [go_sem, init_env', Nat.reduceEqDiff, Nat.reduceAdd, Nat.reduceMul, reduceIte, Nat.reduceLeDiff, Nat.reduceLT, Nat.reduceBEq, reduceCtorEq, hP, ]); (repeat (refine And.intro (by first | omega | (intros; simp_all; done) | (intros; simp_all; omega)) ?_))))
        refine WV_loopK K78_2 [5, 9, 900] (fun k : Nat => k ≤ t.pres.length) (fun k => t.pres.length - k) (fun k => [(36, iv k)]) (fun k => [(5, .box [.gr 30, iv t.at_, iv t.way, iv t.step, .vw 2 900 0 t.pres.length cap]), (900, .box (cellsG Pr.cds (mapK (arrP o) t.pres k) J))]) 0 (Nat.zero_le _) ?_ ?_
        · rw [mapK_zero]
          (refine Sub_of (by simp only [go_sem, init_env', Nat.reduceEqDiff, Nat.reduceAdd, Nat.reduceMul, reduceIte, Nat.reduceLeDiff, Nat.reduceLT, Nat.reduceBEq, reduceCtorEq]; ((repeat' (first | exact EnvLe_e0 _ _ | refine EnvLe_upd ?_ ?_)) <;> ((try simp only [upd_app, e0_app, o0_app, Nat.reduceEqDiff, reduceIte]); first | exact AWk.refl _ _ | exact AWk.int (by omega) | exact AWk.int (by rw [w64 (by omega) (by omega)]; omega) | exact AWk.grow rfl | exact AWk.nil _ | exact AWk.of (by simp)))) (by simp only [go_sem, init_env', Nat.reduceEqDiff, Nat.reduceAdd, Nat.reduceMul, reduceIte, Nat.reduceLeDiff, Nat.reduceLT, Nat.reduceBEq, reduceCtorEq]; ((repeat' (first | exact ObjLe_o0 _ | exact ObjLe.rfl' _ | refine ObjLe_same ?_ | refine ObjLe_upd ?_ ?_ | refine ObjLe_new rfl ?_)) <;> rfl)))
        · intro k hk
          have hml := mapK_len (arrP o) t.pres k
          simp only [go_sem, init_env', Nat.reduceEqDiff, Nat.reduceAdd, Nat.reduceMul, reduceIte, Nat.reduceLeDiff, Nat.reduceLT, Nat.reduceBEq, reduceCtorEq]
          (repeat ((first | refine WV_seq_ ?_ | refine WV_block ?_ | refine WV_ops ?_ | refine WV_skip ?_ | refine WV_exit ?_); (try simp only [go_sem, init_env', Nat.reduceEqDiff, Nat.reduceAdd, Nat.reduceMul, reduceIte, Nat.reduceLeDiff, Nat.reduceLT, Nat.reduceBEq, reduceCtorEq, hP, ]); (repeat (refine And.intro (by first | omega | (intros; simp_all; done) | (intros; simp_all; omega)) ?_))))
          (refine WV_cond rfl (fun h => ?_) (fun h => ?_))
          · have hkl : k < t.pres.length := by simpa using h
            have hI : (k : Int) < (t.pres.length : Int) := by omega
            have hw := w64 (n := (k : Int) + 1) (by omega) (by omega)
            have hlk : k < (mapK (arrP o) t.pres k).length := by omega
            have hge := cellsG_elem pr_two hlk J
            rw [mapK_get hkl hlk] at hge
            have hps := (ht.pres _ (List.getElem_mem hkl))
            have hidx := arrP_side ho hps.1
            have hix := index86 o (t.pres[k].side.toNat / 2) (by omega) (ho.mem hidx.2)
            have hset := cellsG_set pr_two hlk J 0 (by decide) (.int .i64 (2 * (o.idxOf (t.pres[k].side.toNat / 2) : Int) + t.pres[k].side % 2)) (arrP o t.pres[k]) (by rw [mapK_get hkl hlk]; rfl)
            rw [Nat.add_zero, mapK_set hkl] at hset
            have hcl : (cellsG Pr.cds (mapK (arrP o) t.pres k) J).length = t.pres.length * 2 + J := by rw [cellsG_len pr_two, hml]
            have hc1 : k * 2 < (cellsG Pr.cds (mapK (arrP o) t.pres k) J).length := by rw [hcl]; omega
            have hc2 : k * 2 + 1 ≤ (cellsG Pr.cds (mapK (arrP o) t.pres k) J).length := by rw [hcl]; omega
            have hc3 : k * 2 + 2 ≤ (cellsG Pr.cds (mapK (arrP o) t.pres k) J).length := by rw [hcl]; omega
            have hq1 : t.pres[k].side.tdiv 2 = ((t.pres[k].side.toNat / 2 : Nat) : Int) := by rw [Int.tdiv_eq_ediv_of_nonneg hps.1.1]; omega
            have hq2 : t.pres[k].side.tmod 2 = t.pres[k].side % 2 := Int.tmod_eq_emod_of_nonneg hps.1.1
            have hw1 := w64 (n := ((t.pres[k].side.toNat / 2 : Nat) : Int)) (by omega) (by omega)
            have hw2 := w64 (n := t.pres[k].side % 2) (by omega) (by omega)
            have hw3 := w64 (n := 2 * (o.idxOf (t.pres[k].side.toNat / 2) : Int)) (by omega) (by omega)
            have hw4 := w64 (n := 2 * (o.idxOf (t.pres[k].side.toNat / 2) : Int) + t.pres[k].side % 2) (by omega) (by omega)
            clear hidx
            generalize t.pres[k] = p at *
            generalize mapK (arrP o) t.pres k = M1 at *
            generalize hM2 : mapK (arrP o) t.pres (k + 1) = M2 at *
            generalize o.idxOf (p.side.toNat / 2) = I at *
            generalize p.side.toNat / 2 = m at *
            (repeat ((first | refine WV_seq_ ?_ | refine WV_block ?_ | refine WV_ops ?_ | refine WV_skip ?_ | refine WV_exit ?_); (try simp only [go_sem, init_env', Nat.reduceEqDiff, Nat.reduceAdd, Nat.reduceMul, reduceIte, Nat.reduceLeDiff, Nat.reduceLT, Nat.reduceBEq, reduceCtorEq, hP, hI, Int.natCast_nonneg, hge, hc3, Pr.cds, List.map_cons, List.map_nil, hq1, hw1]); (repeat (refine And.intro (by first | omega | (intros; simp_all; done) | (intros; simp_all; omega)) ?_))))
            refine ACall_of hix rfl rfl rfl rfl rfl ?_
            simp only [go_sem, init_env', Nat.reduceEqDiff, Nat.reduceAdd, Nat.reduceMul, reduceIte, Nat.reduceLeDiff, Nat.reduceLT, Nat.reduceBEq, reduceCtorEq, hP, hw3, hq2, hw2, hw4, hset, hc1, hc2, hI, Int.natCast_nonneg]
            (repeat (refine And.intro (by first | omega | (intros; simp_all; done) | (intros; simp_all; omega)) ?_))
            (repeat ((first | refine WV_seq_ ?_ | refine WV_block ?_ | refine WV_ops ?_ | refine WV_skip ?_ | refine WV_exit ?_); (try simp only [go_sem, init_env', Nat.reduceEqDiff, Nat.reduceAdd, Nat.reduceMul, reduceIte, Nat.reduceLeDiff, Nat.reduceLT, Nat.reduceBEq, reduceCtorEq, hP, hw]); (repeat (refine And.intro (by first | omega | (intros; simp_all; done) | (intros; simp_all; omega)) ?_))))
            refine ⟨k + 1, by omega, by omega, ?_⟩
            rw [hM2]
            (refine Sub_of (by simp only [go_sem, init_env', Nat.reduceEqDiff, Nat.reduceAdd, Nat.reduceMul, reduceIte, Nat.reduceLeDiff, Nat.reduceLT, Nat.reduceBEq, reduceCtorEq]; ((repeat' (first | exact EnvLe_e0 _ _ | refine EnvLe_upd ?_ ?_)) <;> ((try simp only [upd_app, e0_app, o0_app, Nat.reduceEqDiff, reduceIte]); first | exact AWk.refl _ _ | exact AWk.int (by omega) | exact AWk.int (by rw [w64 (by omega) (by omega)]; omega) | exact AWk.grow rfl | exact AWk.nil _ | exact AWk.of (by simp)))) (by simp only [go_sem, init_env', Nat.reduceEqDiff, Nat.reduceAdd, Nat.reduceMul, reduceIte, Nat.reduceLeDiff, Nat.reduceLT, Nat.reduceBEq, reduceCtorEq]; ((repeat' (first | exact ObjLe_o0 _ | exact ObjLe.rfl' _ | refine ObjLe_same ?_ | refine ObjLe_upd ?_ ?_ | refine ObjLe_new rfl ?_)) <;> rfl)))
          · have h : k = t.pres.length := by simp at h; omega
            subst h
            rw [mapK_all]
            (refine WV_exit ?_; simp only [go_sem, init_env', Nat.reduceEqDiff, Nat.reduceAdd, Nat.reduceMul, reduceIte, Nat.reduceLeDiff, Nat.reduceLT, Nat.reduceBEq, reduceCtorEq])
            (repeat ((first | refine WV_seq_ ?_ | refine WV_block ?_ | refine WV_ops ?_ | refine WV_skip ?_ | refine WV_exit ?_); (try simp only [go_sem, init_env', Nat.reduceEqDiff, Nat.reduceAdd, Nat.reduceMul, reduceIte, Nat.reduceLeDiff, Nat.reduceLT, Nat.reduceBEq, reduceCtorEq, hP, ]); (repeat (refine And.intro (by first | omega | (intros; simp_all; done) | (intros; simp_all; omega)) ?_))))
            have hrs := recs_scal (o.map t.rc)
            have hps := prs_scal (t.pres.map (arrP o))
            have hel : ∀ own : Nat → Ob, own 900 = .box (cellsG Pr.cds (t.pres.map (arrP o)) J) → AV.elemsV own (.vw 2 900 0 t.pres.length cap) = some (2, (t.pres.map (arrP o)).map Pr.cds) := fun own h => by
              have := elemsV_cellsG pr_two own 900 (t.pres.map (arrP o)) J cap h
              rwa [List.length_map] at this
            (refine WV_ret ?_; simp only [thenQ, inQ, RetQF, RetOkF, resAll, resA]; simp only [go_sem, init_env', Nat.reduceEqDiff, Nat.reduceAdd, Nat.reduceMul, reduceIte, Nat.reduceLeDiff, Nat.reduceLT, Nat.reduceBEq, reduceCtorEq, tupA, AV.fport, AV.fportL, CD.scal, exists_eq_left', hrs, hel, hps]; refine And.intro (by ((repeat' (first | exact NoWin_o0 | refine NoWin_upd (fun cs h => by cases h) ?_)))) ?_)
            exact AVle.of rfl
end Go.Proofs.Ytkpgpgaojjobgaa

namespace Go.Proofs.Ytkpgpgaojjobgaa
open Go Go.V
@[reducible] def o77_0 : List Ins := [⟨(some 6), .ld false 5 (.t 1), none, true⟩,
  ⟨(some 7), .mv (.t 0), none, true⟩,
  ⟨(some 8), .call (.k (.fn 78 [])) [(.t 6), (.t 7)], none, true⟩,
  ⟨(some 9), .call (.k (.fn 54 [])) [(.t 8)], none, true⟩,
  ⟨(some 10), .fld true 1 3 (.t 9), none, true⟩,
  ⟨(some 5), .mv (.t 10), none, true⟩]
@[reducible] def o77_1 : List Ins := [⟨(some 11), .ld true 1 (.t 2), none, true⟩,
  ⟨(some 12), .bin .lss (.t 11) (.k (.c (.int .i64 0))), none, true⟩,
  ⟨(some 13), .mv (.t 12), none, true⟩,
  ⟨(some 14), .mv (.t 5), (some (13, false)), true⟩,
  ⟨(some 15), .ld true 1 (.t 2), (some (13, false)), true⟩,
  ⟨(some 16), .bin .lss (.t 14) (.t 15), (some (13, false)), true⟩,
  ⟨(some 17), .pick (.t 13) (.k (.c (.bool true))) (.t 16), none, true⟩]
@[reducible] def o77_2 : List Ins := [⟨(some 18), .mv (.t 0), none, true⟩,
  ⟨(some 19), .call (.k (.fn 79 [])) [(.t 18)], none, true⟩,
  ⟨(some 20), .mv (.t 5), none, true⟩,
  ⟨none, .st 1 (.t 3) (.t 19), none, true⟩,
  ⟨none, .st 1 (.t 2) (.t 20), none, true⟩]
@[reducible] def v77_3 : VC := (.cond (.t 17) (.ops o77_2) .skip)
@[reducible] def v77_4 : VC := (.seq (.ops o77_1) v77_3)
def ir77 : FC := ⟨4, 21, [], (.seq (.ops o77_0) v77_4)⟩
@[reducible] def o63_0 : List Ins := [⟨(some 1), .box 5 (.t 0), none, true⟩,
  ⟨(some 2), .alloc [(.c (.raw (.slice none 0 0)))], none, true⟩,
  ⟨(some 3), .alloc [(.c (.int .i64 0))], none, true⟩]
@[reducible] def o63_1 : List Ins := [⟨none, .st 1 (.t 3) (.k (.c (.int .i64 (-1)))), none, true⟩]
@[reducible] def o63_2 : List Ins := [⟨(some 4), .fa 0 (.t 1), none, true⟩,
  ⟨(some 5), .ld true 1 (.t 4), none, true⟩,
  ⟨(some 6), .len (.t 5), none, true⟩,
  ⟨(some 7), .mkfn 77 [(.t 1), (.t 3), (.t 2)], none, true⟩,
  ⟨(some 8), .call (.k (.fn 76 [])) [(.t 6), (.t 7)], none, true⟩]
@[reducible] def t63_3 : OT := (.cons ⟨(some 9), .ld true 1 (.t 2), none, false⟩
  (.br [(.cons ⟨(some 10), .ld true 1 (.t 3), none, false⟩
    (.cons ⟨none, .st 1 (.t 2) (.t 9), none, false⟩
    (.cons ⟨none, .st 1 (.t 3) (.t 10), none, true⟩
    .nil))), (.cons ⟨none, .st 1 (.t 2) (.t 9), none, false⟩
    (.cons ⟨(some 10), .ld true 1 (.t 3), none, false⟩
    (.cons ⟨none, .st 1 (.t 3) (.t 10), none, true⟩
    .nil)))]))
@[reducible] def v63_4 : VC := (.seq (.drw t63_3) .ret)
@[reducible] def v63_5 : VC := (.seq (.ops o63_2) v63_4)
@[reducible] def v63_6 : VC := (.seq (.ops o63_1) v63_5)
def ir63 : FC := ⟨1, 11, [.cell 2 true 1, .cell 3 true 1], (.seq (.ops o63_0) v63_6)⟩
@[reducible] def o37_0 : List Ins := [⟨(some 1), .box 5 (.t 0), none, true⟩,
  ⟨(some 2), .mv (.k (.c (.int .i64 0))), none, true⟩,
  ⟨(some 3), .mv (.k (.c (.int .i64 0))), none, true⟩]
@[reducible] def o37_1 : List Ins := [⟨(some 7), .ld false 5 (.t 1), none, true⟩,
  ⟨(some 8), .call (.k (.fn 62 [])) [(.t 7)], none, true⟩,
  ⟨(some 4), .mv (.t 8), none, true⟩]
@[reducible] def o37_2 : List Ins := [⟨(some 9), .mv (.t 4), none, true⟩,
  ⟨(some 10), .bin .neq (.t 9) (.k (.c (.int .i64 0))), none, true⟩]
@[reducible] def o37_3 : List Ins := [⟨(some 11), .mv (.t 4), none, true⟩,
  ⟨(some 2), .mv (.k (.c (.int .i64 0))), none, true⟩,
  ⟨(some 3), .mv (.t 11), none, true⟩]
@[reducible] def v37_4 : VC := (.seq (.ops o37_3) .ret)
@[reducible] def v37_5 : VC := (.cond (.t 10) v37_4 .skip)
@[reducible] def v37_6 : VC := (.seq (.ops o37_2) v37_5)
@[reducible] def o37_7 : List Ins := [⟨(some 13), .ld false 5 (.t 1), none, true⟩,
  ⟨(some 14), .call (.k (.fn 63 [])) [(.t 13)], none, true⟩,
  ⟨(some 12), .mv (.t 14), none, true⟩,
  ⟨(some 15), .ext (.t 12) 0, none, true⟩,
  ⟨(some 16), .ext (.t 12) 1, none, true⟩,
  ⟨(some 5), .mv (.t 15), none, true⟩,
  ⟨(some 6), .mv (.t 16), none, true⟩]
@[reducible] def o37_8 : List Ins := [⟨(some 17), .mv (.t 6), none, true⟩,
  ⟨(some 2), .mv (.t 17), none, true⟩,
  ⟨(some 3), .mv (.k (.c (.int .i64 0))), none, true⟩]
@[reducible] def v37_9 : VC := (.seq (.ops o37_8) .ret)
@[reducible] def v37_10 : VC := (.seq (.ops o37_7) v37_9)
@[reducible] def v37_11 : VC := (.seq (.seq (.ops o37_1) v37_6) v37_10)
def ir37 : FC := ⟨1, 18, [.t 2, .t 3], (.seq (.ops o37_0) v37_11)⟩
theorem c77 : compM Try.prog [] 77 = some ir77 := by kernel_rfl
theorem c63 : compM Try.prog [] 63 = some ir63 := by kernel_rfl
theorem c37 : compM Try.prog [] 37 = some ir37 := by kernel_rfl
theorem elemsV_winG {α : Type} {cds : α → List CD} {m : Nat} (hm : ∀ a, (cds a).length = m) (own : Nat → Ob) (n : Nat) (l : List α) (j cap : Nat) (h : own n = .win (cellsG cds l j)) : AV.elemsV own (.vw m n 0 l.length cap) = some (m, l.map cds) := by
  have h2 : (cellsG cds l j).take (l.length * m) = (flatG cds l).map .c := by rw [cellsG_take hm]; simp [cellsG]
  have h3 : ((flatG cds l).map AV.c).mapM (AV.toCD own) = some (flatG cds l) := by
    induction flatG cds l with
    | nil => rfl
    | cons a t ih => simp only [List.map_cons, List.mapM_cons, AV.toCD, Option.pure_def, Option.bind_eq_bind, Option.bind_some, ih]
  simp only [AV.elemsV, h, Ob.cellsR, Nat.zero_add, List.drop_zero, h2, h3, Option.map_some]
  rw [if_pos (by rw [cellsG_len hm]; omega)]
  have := grp_cellsG hm l
  rw [List.take_of_length_le (by rw [flatG_len hm]; exact Nat.le_refl _)] at this
  rw [this]
/-- When the last side has ended, with the records in another order. -/
def endO (t : Tray) (o : List Nat) : Int := (goesS (arrT t o)).end_
def bestStep (t : Tray) (s : Int × Option (List Nat)) (o : List Nat) : Int × Option (List Nat) := if s.1 < 0 ∨ endO t o < s.1 then (endO t o, some o) else s
def bestG (t : Tray) (l : List (List Nat)) : Int × Option (List Nat) := l.foldl (bestStep t) (-1, none)
theorem bestG_snoc (t : Tray) (l : List (List Nat)) (o : List Nat) : bestG t (l ++ [o]) = bestStep t (bestG t l) o := by unfold bestG; rw [List.foldl_append]; rfl
def ordA : Option (List Nat) → AV
  | none => .c (.raw (.slice none 0 0))
  | some o => .c (natsC o)
def bestO (s : Int × Option (List Nat)) : List Ob := [.box [iv s.1], .box [ordA s.2]]

set_option maxRecDepth 20000 in
set_option maxHeartbeats 8000000 in
theorem best77 {t : Tray} (ht : TrayOk t) {o : List Nat} (ho : IsOrd t.n o) (s : Int × Option (List Nat)) :
    FSpecL Try.prog 77 [.vw 1 2000 0 o.length o.length, .c (.pt t.cds), .bp 1000 0, .bp 1001 0] (bestO s) [cellsG ncd o 0] (fun res l' => res = .tup [] ∧ l' = bestO (bestStep t s o)) := by
  have hn6 := ht.n6
  have hol := ho.len
  have har := arranged78 ht ho
  have hgo := goes54 (arr_ok ht ho)
  have hend : (goesS (arrT t o)).end_ = endO t o := rfl
  obtain ⟨m, so⟩ := s
  generalize hA : ordA so = A
  simp only [bestO, hA]
  refine FSpecL_of c77 (by first | simp | exact Nat.le_of_ble_eq_true rfl) (Nat.le_refl _) (by decide) (by decide) fun C hP hN hC hL => ?_; rw [init_env', ownW_upd (by first | simp | exact Nat.le_of_ble_eq_true rfl)]; simp only [ir77, updL, updLo, List.map_nil, List.map_cons, Nat.reduceAdd, ]
  (repeat ((first | refine WV_seq_ ?_ | refine WV_block ?_ | refine WV_ops ?_ | refine WV_skip ?_ | refine WV_exit ?_); (try simp only [go_sem, init_env', Nat.reduceEqDiff, Nat.reduceAdd, Nat.reduceMul, reduceIte, Nat.reduceLeDiff, Nat.reduceLT, Nat.reduceBEq, reduceCtorEq, hP, Tray.cds, List.length_cons, List.length_nil, List.map_cons, List.map_nil]); (repeat (refine And.intro (by first | omega | (intros; simp_all; done) | (intros; simp_all; omega)) ?_))))
  refine AS_fresh har rfl rfl rfl ?_ rfl ?_
  · simp only [go_sem, init_env', Nat.reduceEqDiff, Nat.reduceAdd, Nat.reduceMul, reduceIte, Nat.reduceLeDiff, Nat.reduceLT, Nat.reduceBEq, reduceCtorEq, AV.vportL, AV.vport, List.take_succ_cons, List.take_zero]
    rw [elemsV_winG ncd_one _ 2000 o 0 o.length rfl]
    rfl
  simp only [go_sem, init_env', Nat.reduceEqDiff, Nat.reduceAdd, Nat.reduceMul, reduceIte, Nat.reduceLeDiff, Nat.reduceLT, Nat.reduceBEq, reduceCtorEq, hP]
  (repeat ((first | refine WV_seq_ ?_ | refine WV_block ?_ | refine WV_ops ?_ | refine WV_skip ?_ | refine WV_exit ?_); (try simp only [go_sem, init_env', Nat.reduceEqDiff, Nat.reduceAdd, Nat.reduceMul, reduceIte, Nat.reduceLeDiff, Nat.reduceLT, Nat.reduceBEq, reduceCtorEq, hP, ]); (repeat (refine And.intro (by first | omega | (intros; simp_all; done) | (intros; simp_all; omega)) ?_))))
  (refine AS_pure (hgo) rfl rfl rfl rfl rfl ?_; simp only [go_sem, init_env', Nat.reduceEqDiff, Nat.reduceAdd, Nat.reduceMul, reduceIte, Nat.reduceLeDiff, Nat.reduceLT, Nat.reduceBEq, reduceCtorEq, hP, Cs.run, hend]; (repeat (refine And.intro (by first | omega | (intros; simp_all; done) | (intros; simp_all; omega)) ?_)); (repeat ((first | refine WV_seq_ ?_ | refine WV_block ?_ | refine WV_ops ?_ | refine WV_skip ?_ | refine WV_exit ?_); (try simp only [go_sem, init_env', Nat.reduceEqDiff, Nat.reduceAdd, Nat.reduceMul, reduceIte, Nat.reduceLeDiff, Nat.reduceLT, Nat.reduceBEq, reduceCtorEq, hP, Cs.run, hend]); (repeat (refine And.intro (by first | omega | (intros; simp_all; done) | (intros; simp_all; omega)) ?_)))))
  by_cases hc : m < 0 ∨ endO t o < m
  · have hst : bestStep t (m, so) o = (endO t o, some o) := by unfold bestStep; rw [if_pos hc]
    have hb : (decide (m < 0) || decide (endO t o < m)) = true := by simpa using hc
    rw [hb, hst]
    (refine WV_cond rfl (fun h => ?_) (fun h => ?_))
    rotate_left
    · simp at h
    (repeat ((first | refine WV_seq_ ?_ | refine WV_block ?_ | refine WV_ops ?_ | refine WV_skip ?_ | refine WV_exit ?_); (try simp only [go_sem, init_env', Nat.reduceEqDiff, Nat.reduceAdd, Nat.reduceMul, reduceIte, Nat.reduceLeDiff, Nat.reduceLT, Nat.reduceBEq, reduceCtorEq, hP, ]); (repeat (refine And.intro (by first | omega | (intros; simp_all; done) | (intros; simp_all; omega)) ?_))))
    refine AS_fresh (cloneI79 o (by omega)) rfl rfl rfl ?_ rfl ?_
    · simp only [go_sem, init_env', Nat.reduceEqDiff, Nat.reduceAdd, Nat.reduceMul, reduceIte, Nat.reduceLeDiff, Nat.reduceLT, Nat.reduceBEq, reduceCtorEq, AV.vportL, AV.vport]
      rw [elemsV_winG ncd_one _ 2000 o 0 o.length rfl]
      rfl
    simp only [go_sem, init_env', Nat.reduceEqDiff, Nat.reduceAdd, Nat.reduceMul, reduceIte, Nat.reduceLeDiff, Nat.reduceLT, Nat.reduceBEq, reduceCtorEq, hP]
    (repeat ((first | refine WV_seq_ ?_ | refine WV_block ?_ | refine WV_ops ?_ | refine WV_skip ?_ | refine WV_exit ?_); (try simp only [go_sem, init_env', Nat.reduceEqDiff, Nat.reduceAdd, Nat.reduceMul, reduceIte, Nat.reduceLeDiff, Nat.reduceLT, Nat.reduceBEq, reduceCtorEq, hP, ]); (repeat (refine And.intro (by first | omega | (intros; simp_all; done) | (intros; simp_all; omega)) ?_))))
    ((try simp only [thenQ, inQ, RetQL, RetOkL, resAll, resA]); (try simp only [go_sem, init_env', Nat.reduceEqDiff, Nat.reduceAdd, Nat.reduceMul, reduceIte, Nat.reduceLeDiff, Nat.reduceLT, Nat.reduceBEq, reduceCtorEq, tupA, AV.keepP, AV.keepPL]); refine ⟨_, [.box [iv (endO t o)], .box [.c (natsC o)]], rfl, KeepL_mk rfl rfl ?_ ?_ rfl, ?_⟩)
    · simp only [go_sem, init_env', Nat.reduceEqDiff, Nat.reduceAdd, Nat.reduceMul, reduceIte, Nat.reduceLeDiff, Nat.reduceLT, Nat.reduceBEq, reduceCtorEq, keepAll, Ob.keepP, AV.keepP, AV.keepPL]
    · simp only [go_sem, init_env', Nat.reduceEqDiff, Nat.reduceAdd, Nat.reduceMul, reduceIte, Nat.reduceLeDiff, Nat.reduceLT, Nat.reduceBEq, reduceCtorEq, winAll]
    · exact ⟨rfl, rfl⟩
  · have hst : bestStep t (m, so) o = (m, so) := by
      unfold bestStep; rw [if_neg hc]
    have hb : (decide (m < 0) || decide (endO t o < m)) = false := by simpa using hc
    rw [hb, hst]
    (refine WV_cond rfl (fun h => ?_) (fun h => ?_))
    · simp at h
    refine WV_skip ?_
    ((try simp only [thenQ, inQ, RetQL, RetOkL, resAll, resA]); (try simp only [go_sem, init_env', Nat.reduceEqDiff, Nat.reduceAdd, Nat.reduceMul, reduceIte, Nat.reduceLeDiff, Nat.reduceLT, Nat.reduceBEq, reduceCtorEq, tupA, AV.keepP, AV.keepPL]); refine ⟨_, [.box [iv m], .box [A]], rfl, KeepL_mk rfl rfl ?_ ?_ rfl, ?_⟩)
    · rw [← hA]
      cases so <;> simp only [go_sem, init_env', Nat.reduceEqDiff, Nat.reduceAdd, Nat.reduceMul, reduceIte, Nat.reduceLeDiff, Nat.reduceLT, Nat.reduceBEq, reduceCtorEq, keepAll, Ob.keepP, AV.keepP, AV.keepPL, ordA]
    · simp only [go_sem, init_env', Nat.reduceEqDiff, Nat.reduceAdd, Nat.reduceMul, reduceIte, Nat.reduceLeDiff, Nat.reduceLT, Nat.reduceBEq, reduceCtorEq, winAll]
    · refine ⟨rfl, ?_⟩
      rw [← hA]

/-- All orders are orders. -/
theorem swap_ord {n : Nat} {o : List Nat} (h : IsOrd n o) {i j : Nat} (hi : i < n) (hj : j < n) : IsOrd n (swapL o i j) := by
  have hl := h.len
  have hi' : i < o.length := by omega
  have hj' : j < o.length := by omega
  have e : swapL o i j = (o.set i o[j]).set j o[i] := by unfold swapL; simp [hi', hj']
  rw [e]
  exact (List.set_set_perm hi' hj').trans h
theorem perms_ord {n : Nat} : ∀ (f : Nat) (o : List Nat), f ≤ n → IsOrd n o → ∀ x ∈ permsF n f o, IsOrd n x
  | 0, o, _, h, x, hx => by simp only [permsF, List.mem_singleton] at hx; subst hx; exact h
  | f + 1, o, hf, h, x, hx => by
    simp only [permsF] at hx
    obtain ⟨j, hj, hx⟩ := List.mem_flatMap.1 hx
    have hj := List.mem_range.1 hj
    exact perms_ord f _ (by omega) (swap_ord h (by omega) (by omega)) x hx
theorem permsS_ord {n : Nat} {o : List Nat} (h : o ∈ permsS n) : IsOrd n o := perms_ord n _ (Nat.le_refl _) (List.Perm.refl _) o h
theorem permsF_ne (n : Nat) : ∀ (f : Nat) (o : List Nat), permsF n f o ≠ []
  | 0, o => by simp [permsF]
  | f + 1, o => by
    simp only [permsF]
    rw [List.range_succ_eq_map, List.flatMap_cons]
    intro h
    exact permsF_ne n f _ (List.append_eq_nil_iff.1 h).1
theorem bestG_cases (t : Tray) (l : List (List Nat)) : (bestG t l = (-1, none)) ∨ ∃ o, bestG t l = (endO t o, some o) ∧ o ∈ l := by
  suffices h : ∀ (m pre : List (List Nat)), l = pre ++ m → ((bestG t pre = (-1, none)) ∨ ∃ o, bestG t pre = (endO t o, some o) ∧ o ∈ l) → (bestG t l = (-1, none)) ∨ ∃ o, bestG t l = (endO t o, some o) ∧ o ∈ l from h l [] rfl (.inl rfl)
  intro m
  induction m with
  | nil => intro pre hp hh; rw [hp, List.append_nil] at *; exact hh
  | cons a m ih =>
    intro pre hp hh
    refine ih (pre ++ [a]) (by rw [hp]; simp) ?_
    rw [bestG_snoc]
    unfold bestStep
    split
    · exact .inr ⟨a, rfl, by rw [hp]; simp⟩
    · exact hh
def bestS (t : Tray) : Int × Option (List Nat) := bestG t (permsS t.n)
def cdOrd : Option (List Nat) → AV
  | none => .c (natsC [])
  | some o => .c (natsC o)
set_option maxRecDepth 20000 in
set_option maxHeartbeats 8000000 in
theorem best63 {t : Tray} (ht : TrayOk t) : FSpec Try.prog 63 [t.av] (.tup [cdOrd (bestS t).2, iv (bestS t).1]) := by
  have hn6 := ht.n6
  refine FSpec_of c63 (Nat.le_refl _) (by decide) fun C hP hN hC hL => ?_
  simp only [ir63, Tray.av]
  (refine WV_seq_ (WV_ops ?_); simp only [go_sem, init_env', Nat.reduceEqDiff, Nat.reduceAdd, Nat.reduceMul, reduceIte, Nat.reduceLeDiff, Nat.reduceLT, Nat.reduceBEq, reduceCtorEq, hP, ]; (repeat (refine And.intro (by first | omega | (intros; simp_all; done) | (intros; simp_all; omega)) ?_)))
  refine WV_freeze 1 (ds := t.cds) rfl rfl ?_
  simp only [go_sem, init_env', Nat.reduceEqDiff, Nat.reduceAdd, Nat.reduceMul, reduceIte, Nat.reduceLeDiff, Nat.reduceLT, Nat.reduceBEq, reduceCtorEq, List.drop_zero]
  refine WV_seq_ (WV_ops ?_)
  simp only [go_sem, init_env', Nat.reduceEqDiff, Nat.reduceAdd, Nat.reduceMul, reduceIte, Nat.reduceLeDiff, Nat.reduceLT, Nat.reduceBEq, reduceCtorEq, hP]
  refine WV_seq_ (WV_ops ?_)
  simp only [go_sem, init_env', Nat.reduceEqDiff, Nat.reduceAdd, Nat.reduceMul, reduceIte, Nat.reduceLeDiff, Nat.reduceLT, Nat.reduceBEq, reduceCtorEq, hP, Tray.cds, recsC, List.length_map]
  have hnl : t.recs.length = t.n := rfl
  have hid : IsOrd t.n (List.range t.n) := List.Perm.refl _
  refine AS_clos [3, 2] [iv t.n] [] (l := bestO (bestG t [])) (lf := bestO (bestG t (permsS t.n))) (rem := (permsS t.n).map entO) (r := .tup []) (fun g => orders76 t.n (by omega) g) rfl rfl rfl (by decide) (by decide) rfl (by simp only [go_sem, init_env', Nat.reduceEqDiff, Nat.reduceAdd, Nat.reduceMul, reduceIte, Nat.reduceLeDiff, Nat.reduceLT, Nat.reduceBEq, reduceCtorEq, AV.lendL, AV.lend]; rfl) rfl rfl (by simp only [go_sem, init_env', Nat.reduceEqDiff, Nat.reduceAdd, Nat.reduceMul, reduceIte, Nat.reduceLeDiff, Nat.reduceLT, Nat.reduceBEq, reduceCtorEq, obsLend, Ob.lend, AV.lend, AV.lendL]; rfl) (best77 ht hid (0, none)).1 ?_ rfl ?_
  · refine Run_pre entO (fun pre => bestO (bestG t pre)) (permsS t.n) (fun pre => ?_) (fun o _ => rfl) (fun pre o post hts => ?_) (permsS t.n) [] rfl
    · cases h : (bestG t pre).2 <;> simp [bestO, ordA, h, Ob.solid] <;> exact ⟨rfl, rfl⟩
    · have ho : IsOrd t.n o := permsS_ord (by rw [hts]; simp)
      have := best77 ht ho (bestG t pre)
      simp only [bestG_snoc]
      exact this
  · refine ⟨[.box [iv (bestS t).1], .box [ordA (bestS t).2]], ?_, rfl, ?_⟩
    · show obsBack [3, 2] (bestO (bestS t)) = _
      generalize bestS t = S
      obtain ⟨m, so⟩ := S
      cases so <;> rfl
    · generalize bestS t = S
      obtain ⟨m, so⟩ := S
      cases so with
      | none =>
        simp only [go_sem, init_env', Nat.reduceEqDiff, Nat.reduceAdd, Nat.reduceMul, reduceIte, Nat.reduceLeDiff, Nat.reduceLT, Nat.reduceBEq, reduceCtorEq, hP, ownBack, ordA]
        (repeat ((first | refine WV_seq_ ?_ | refine WV_block ?_ | refine WV_ops ?_ | refine WV_skip ?_ | refine WV_exit ?_); (try simp only [go_sem, init_env', Nat.reduceEqDiff, Nat.reduceAdd, Nat.reduceMul, reduceIte, Nat.reduceLeDiff, Nat.reduceLT, Nat.reduceBEq, reduceCtorEq, hP, ]); (repeat (refine And.intro (by first | omega | (intros; simp_all; done) | (intros; simp_all; omega)) ?_))))
        (refine WV_drw ?_; simp only [go_sem, init_env', Nat.reduceEqDiff, Nat.reduceAdd, Nat.reduceMul, reduceIte, Nat.reduceLeDiff, Nat.reduceLT, Nat.reduceBEq, reduceCtorEq, hP, ]; (repeat' (refine And.intro ?_ ?_)))
        all_goals
          (repeat ((first | refine WV_seq_ ?_ | refine WV_block ?_ | refine WV_ops ?_ | refine WV_skip ?_ | refine WV_exit ?_); (try simp only [go_sem, init_env', Nat.reduceEqDiff, Nat.reduceAdd, Nat.reduceMul, reduceIte, Nat.reduceLeDiff, Nat.reduceLT, Nat.reduceBEq, reduceCtorEq, hP, ]); (repeat (refine And.intro (by first | omega | (intros; simp_all; done) | (intros; simp_all; omega)) ?_))))
          (refine WV_ret ?_; simp only [thenQ, inQ, RetQ, RetOk, resAll, resA]; simp only [go_sem, init_env', Nat.reduceEqDiff, Nat.reduceAdd, Nat.reduceMul, reduceIte, Nat.reduceLeDiff, Nat.reduceLT, Nat.reduceBEq, reduceCtorEq, tupA, AV.port, AV.portL, exists_eq_left', ])
          exact AVle.tup (AVles.cons (AVle.nil 1) (AVles.refl _))
      | some o =>
        simp only [go_sem, init_env', Nat.reduceEqDiff, Nat.reduceAdd, Nat.reduceMul, reduceIte, Nat.reduceLeDiff, Nat.reduceLT, Nat.reduceBEq, reduceCtorEq, hP, ownBack, ordA]
        (repeat ((first | refine WV_seq_ ?_ | refine WV_block ?_ | refine WV_ops ?_ | refine WV_skip ?_ | refine WV_exit ?_); (try simp only [go_sem, init_env', Nat.reduceEqDiff, Nat.reduceAdd, Nat.reduceMul, reduceIte, Nat.reduceLeDiff, Nat.reduceLT, Nat.reduceBEq, reduceCtorEq, hP, ]); (repeat (refine And.intro (by first | omega | (intros; simp_all; done) | (intros; simp_all; omega)) ?_))))
        (refine WV_drw ?_; simp only [go_sem, init_env', Nat.reduceEqDiff, Nat.reduceAdd, Nat.reduceMul, reduceIte, Nat.reduceLeDiff, Nat.reduceLT, Nat.reduceBEq, reduceCtorEq, hP, ]; (repeat' (refine And.intro ?_ ?_)))
        all_goals
          (repeat ((first | refine WV_seq_ ?_ | refine WV_block ?_ | refine WV_ops ?_ | refine WV_skip ?_ | refine WV_exit ?_); (try simp only [go_sem, init_env', Nat.reduceEqDiff, Nat.reduceAdd, Nat.reduceMul, reduceIte, Nat.reduceLeDiff, Nat.reduceLT, Nat.reduceBEq, reduceCtorEq, hP, ]); (repeat (refine And.intro (by first | omega | (intros; simp_all; done) | (intros; simp_all; omega)) ?_))))
          (refine WV_ret ?_; simp only [thenQ, inQ, RetQ, RetOk, resAll, resA]; simp only [go_sem, init_env', Nat.reduceEqDiff, Nat.reduceAdd, Nat.reduceMul, reduceIte, Nat.reduceLeDiff, Nat.reduceLT, Nat.reduceBEq, reduceCtorEq, tupA, AV.port, AV.portL, exists_eq_left', ]; (first | exact AVle.of rfl | refine AVle.of ?_ | skip))

def soonR (t : Tray) : Int × Int := if pressedE t = 0 then ((bestS t).1, 0) else (0, pressedE t)
theorem soonest37 (t : Tray) : FSpec Try.prog 37 [t.av] (.tup [iv (soonR t).1, iv (soonR t).2]) := by
  have hck := pressed62 t
  unfold soonR
  by_cases h0 : pressedE t = 0
  · rw [if_pos h0]
    rw [h0] at hck
    have hgo := best63 (Tray.ok_spec (pressed_zero h0).1).1
    generalize bestS t = S at *
    obtain ⟨m, so⟩ := S
    cases so <;>
    · simp only [cdOrd] at hgo
      refine FSpec_of c37 (Nat.le_refl _) (by decide) fun C hP hN hC hL => ?_
      simp only [ir37, Tray.av]
      (repeat ((first | refine WV_seq_ ?_ | refine WV_block ?_ | refine WV_ops ?_ | refine WV_skip ?_ | refine WV_exit ?_); (try simp only [go_sem, init_env', Nat.reduceEqDiff, Nat.reduceAdd, Nat.reduceMul, reduceIte, Nat.reduceLeDiff, Nat.reduceLT, Nat.reduceBEq, reduceCtorEq, hP, ]); (repeat (refine And.intro (by first | omega | (intros; simp_all; done) | (intros; simp_all; omega)) ?_))))
      (refine AS_pure (hck) rfl rfl rfl rfl rfl ?_; simp only [go_sem, init_env', Nat.reduceEqDiff, Nat.reduceAdd, Nat.reduceMul, reduceIte, Nat.reduceLeDiff, Nat.reduceLT, Nat.reduceBEq, reduceCtorEq, hP, Tray.av]; (repeat (refine And.intro (by first | omega | (intros; simp_all; done) | (intros; simp_all; omega)) ?_)); (repeat ((first | refine WV_seq_ ?_ | refine WV_block ?_ | refine WV_ops ?_ | refine WV_skip ?_ | refine WV_exit ?_); (try simp only [go_sem, init_env', Nat.reduceEqDiff, Nat.reduceAdd, Nat.reduceMul, reduceIte, Nat.reduceLeDiff, Nat.reduceLT, Nat.reduceBEq, reduceCtorEq, hP, Tray.av]); (repeat (refine And.intro (by first | omega | (intros; simp_all; done) | (intros; simp_all; omega)) ?_)))))
      (refine WV_cond rfl (fun h => ?_) (fun h => ?_))
      · simp at h
      · (repeat ((first | refine WV_seq_ ?_ | refine WV_block ?_ | refine WV_ops ?_ | refine WV_skip ?_ | refine WV_exit ?_); (try simp only [go_sem, init_env', Nat.reduceEqDiff, Nat.reduceAdd, Nat.reduceMul, reduceIte, Nat.reduceLeDiff, Nat.reduceLT, Nat.reduceBEq, reduceCtorEq, hP, ]); (repeat (refine And.intro (by first | omega | (intros; simp_all; done) | (intros; simp_all; omega)) ?_))))
        (refine AS_pure (hgo) rfl rfl rfl rfl rfl ?_; simp only [go_sem, init_env', Nat.reduceEqDiff, Nat.reduceAdd, Nat.reduceMul, reduceIte, Nat.reduceLeDiff, Nat.reduceLT, Nat.reduceBEq, reduceCtorEq, hP, Tray.av]; (repeat (refine And.intro (by first | omega | (intros; simp_all; done) | (intros; simp_all; omega)) ?_)); (repeat ((first | refine WV_seq_ ?_ | refine WV_block ?_ | refine WV_ops ?_ | refine WV_skip ?_ | refine WV_exit ?_); (try simp only [go_sem, init_env', Nat.reduceEqDiff, Nat.reduceAdd, Nat.reduceMul, reduceIte, Nat.reduceLeDiff, Nat.reduceLT, Nat.reduceBEq, reduceCtorEq, hP, Tray.av]); (repeat (refine And.intro (by first | omega | (intros; simp_all; done) | (intros; simp_all; omega)) ?_)))))
        (refine WV_ret ?_; simp only [thenQ, inQ, RetQ, RetOk, resAll, resA]; simp only [go_sem, init_env', Nat.reduceEqDiff, Nat.reduceAdd, Nat.reduceMul, reduceIte, Nat.reduceLeDiff, Nat.reduceLT, Nat.reduceBEq, reduceCtorEq, tupA, AV.port, AV.portL, exists_eq_left', ]; (first | exact AVle.of rfl | refine AVle.of ?_ | skip))
  · rw [if_neg h0]
    have hb : (pressedE t != 0) = true := by simpa using h0
    refine FSpec_of c37 (Nat.le_refl _) (by decide) fun C hP hN hC hL => ?_
    simp only [ir37, Tray.av]
    (repeat ((first | refine WV_seq_ ?_ | refine WV_block ?_ | refine WV_ops ?_ | refine WV_skip ?_ | refine WV_exit ?_); (try simp only [go_sem, init_env', Nat.reduceEqDiff, Nat.reduceAdd, Nat.reduceMul, reduceIte, Nat.reduceLeDiff, Nat.reduceLT, Nat.reduceBEq, reduceCtorEq, hP, ]); (repeat (refine And.intro (by first | omega | (intros; simp_all; done) | (intros; simp_all; omega)) ?_))))
    (refine AS_pure (hck) rfl rfl rfl rfl rfl ?_; simp only [go_sem, init_env', Nat.reduceEqDiff, Nat.reduceAdd, Nat.reduceMul, reduceIte, Nat.reduceLeDiff, Nat.reduceLT, Nat.reduceBEq, reduceCtorEq, hP, Tray.av, hb]; (repeat (refine And.intro (by first | omega | (intros; simp_all; done) | (intros; simp_all; omega)) ?_)); (repeat ((first | refine WV_seq_ ?_ | refine WV_block ?_ | refine WV_ops ?_ | refine WV_skip ?_ | refine WV_exit ?_); (try simp only [go_sem, init_env', Nat.reduceEqDiff, Nat.reduceAdd, Nat.reduceMul, reduceIte, Nat.reduceLeDiff, Nat.reduceLT, Nat.reduceBEq, reduceCtorEq, hP, Tray.av, hb]); (repeat (refine And.intro (by first | omega | (intros; simp_all; done) | (intros; simp_all; omega)) ?_)))))
    (refine WV_cond rfl (fun h => ?_) (fun h => ?_))
    · (repeat ((first | refine WV_seq_ ?_ | refine WV_block ?_ | refine WV_ops ?_ | refine WV_skip ?_ | refine WV_exit ?_); (try simp only [go_sem, init_env', Nat.reduceEqDiff, Nat.reduceAdd, Nat.reduceMul, reduceIte, Nat.reduceLeDiff, Nat.reduceLT, Nat.reduceBEq, reduceCtorEq, hP, ]); (repeat (refine And.intro (by first | omega | (intros; simp_all; done) | (intros; simp_all; omega)) ?_))))
      (refine WV_ret ?_; simp only [thenQ, inQ, RetQ, RetOk, resAll, resA]; simp only [go_sem, init_env', Nat.reduceEqDiff, Nat.reduceAdd, Nat.reduceMul, reduceIte, Nat.reduceLeDiff, Nat.reduceLT, Nat.reduceBEq, reduceCtorEq, tupA, AV.port, AV.portL, exists_eq_left', ]; (first | exact AVle.of rfl | refine AVle.of ?_ | skip))
    · simp at h
end Go.Proofs.Ytkpgpgaojjobgaa

namespace Go.Proofs.Ytkpgpgaojjobgaa
open Go Go.V
@[reducible] def o52_0 : List Ins := [⟨(some 0), .alloc [(.c (.raw (.slice none 0 0))), (.c (.int .i64 0)), (.c (.int .i64 0)), (.c (.int .i64 0)), (.c (.raw (.slice none 0 0)))], none, true⟩,
  ⟨(some 1), .alloc [(.c (.raw (.slice none 0 0))), (.c (.int .i64 0)), (.c (.int .i64 0)), (.c (.int .i64 0)), (.c (.raw (.slice none 0 0)))], none, true⟩]
@[reducible] def o52_1 : List Ins := [⟨(some 2), .bld [(.c (.int .i64 0)), (.c (.int .i64 0))] [(0, 1, (.k (.c (.int .i64 100)))), (1, 1, (.k (.c (.int .i64 90))))], none, true⟩,
  ⟨(some 3), .bld [(.c (.int .i64 0)), (.c (.int .i64 0))] [(0, 1, (.k (.c (.int .i64 120)))), (1, 1, (.k (.c (.int .i64 80))))], none, true⟩,
  ⟨(some 4), .bld [(.c (.int .i64 0)), (.c (.int .i64 0))] [(0, 1, (.k (.c (.int .i64 60)))), (1, 1, (.k (.c (.int .i64 70))))], none, true⟩,
  ⟨(some 5), .bsl 56 2 [(.t 2), (.t 3), (.t 4)], none, true⟩,
  ⟨(some 6), .bld [(.c (.int .i64 0)), (.c (.int .i64 0))] [(0, 1, (.k (.c (.int .i64 3))))], none, true⟩,
  ⟨(some 7), .bld [(.c (.int .i64 0)), (.c (.int .i64 0))] [(0, 1, (.k (.c (.int .i64 4)))), (1, 1, (.k (.c (.int .i64 10))))], none, true⟩,
  ⟨(some 8), .bld [(.c (.int .i64 0)), (.c (.int .i64 0))] [(1, 1, (.k (.c (.int .i64 12))))], none, true⟩,
  ⟨(some 9), .bld [(.c (.int .i64 0)), (.c (.int .i64 0))] [(0, 1, (.k (.c (.int .i64 3)))), (1, 1, (.k (.c (.int .i64 50))))], none, true⟩,
  ⟨(some 10), .bld [(.c (.int .i64 0)), (.c (.int .i64 0))] [(1, 1, (.k (.c (.int .i64 300))))], none, true⟩,
  ⟨(some 11), .bsl 27 2 [(.t 6), (.t 7), (.t 8), (.t 9), (.t 10)], none, true⟩,
  ⟨(some 12), .bld [(.c (.raw (.slice none 0 0))), (.c (.int .i64 0)), (.c (.int .i64 0)), (.c (.int .i64 0)), (.c (.raw (.slice none 0 0)))] [(0, 1, (.t 5)), (2, 1, (.k (.c (.int .i64 1)))), (3, 1, (.k (.c (.int .i64 5)))), (4, 1, (.t 11))], none, true⟩,
  ⟨none, .st 5 (.t 0) (.t 12), none, true⟩]
@[reducible] def o52_2 : List Ins := [⟨(some 13), .bld [(.c (.int .i64 0)), (.c (.int .i64 0))] [(0, 1, (.k (.c (.int .i64 10)))), (1, 1, (.k (.c (.int .i64 20))))], none, true⟩,
  ⟨(some 14), .bld [(.c (.int .i64 0)), (.c (.int .i64 0))] [(0, 1, (.k (.c (.int .i64 30)))), (1, 1, (.k (.c (.int .i64 40))))], none, true⟩,
  ⟨(some 15), .bsl 56 2 [(.t 13), (.t 14)], none, true⟩,
  ⟨(some 16), .bld [(.c (.int .i64 0)), (.c (.int .i64 0))] [(0, 1, (.k (.c (.int .i64 3))))], none, true⟩,
  ⟨(some 17), .bsl 27 2 [(.t 16)], none, true⟩,
  ⟨(some 18), .bld [(.c (.raw (.slice none 0 0))), (.c (.int .i64 0)), (.c (.int .i64 0)), (.c (.int .i64 0)), (.c (.raw (.slice none 0 0)))] [(0, 1, (.t 15)), (2, 1, (.k (.c (.int .i64 (-1))))), (3, 1, (.k (.c (.int .i64 60)))), (4, 1, (.t 17))], none, true⟩,
  ⟨none, .st 5 (.t 1) (.t 18), none, true⟩]
@[reducible] def t52_3 : OT := (.cons ⟨(some 19), .ld false 5 (.t 0), none, false⟩
  (.br [(.cons ⟨(some 20), .ld false 5 (.t 1), none, false⟩
    (.cons ⟨none, .st 5 (.t 0) (.t 19), none, false⟩
    (.cons ⟨none, .st 5 (.t 1) (.t 20), none, true⟩
    .nil))), (.cons ⟨none, .st 5 (.t 0) (.t 19), none, false⟩
    (.cons ⟨(some 20), .ld false 5 (.t 1), none, false⟩
    (.cons ⟨none, .st 5 (.t 1) (.t 20), none, true⟩
    .nil)))]))
@[reducible] def v52_4 : VC := (.seq (.drw t52_3) .ret)
@[reducible] def v52_5 : VC := (.seq (.ops o52_2) v52_4)
@[reducible] def v52_6 : VC := (.seq (.ops o52_1) v52_5)
def ir52 : FC := ⟨0, 21, [.cell 0 false 5, .cell 1 false 5], (.seq (.ops o52_0) v52_6)⟩
@[reducible] def o19_0 : List Ins := [⟨(some 0), .mv (.k (.c (.bool false))), none, true⟩]
@[reducible] def o19_1 : List Ins := [⟨(some 14), .call (.k (.fn 52 [])) [], none, true⟩,
  ⟨(some 13), .mv (.t 14), none, true⟩,
  ⟨(some 15), .ext (.t 13) 0, none, true⟩,
  ⟨(some 16), .ext (.t 13) 1, none, true⟩,
  ⟨(some 1), .alloc [(.c (.raw (.slice none 0 0))), (.c (.int .i64 0)), (.c (.int .i64 0)), (.c (.int .i64 0)), (.c (.raw (.slice none 0 0)))], none, true⟩,
  ⟨(some 2), .alloc [(.c (.raw (.slice none 0 0))), (.c (.int .i64 0)), (.c (.int .i64 0)), (.c (.int .i64 0)), (.c (.raw (.slice none 0 0)))], none, true⟩,
  ⟨none, .st 5 (.t 1) (.t 15), none, true⟩,
  ⟨none, .st 5 (.t 2) (.t 16), none, true⟩]
@[reducible] def o19_2 : List Ins := [⟨(some 18), .ld false 5 (.t 1), none, true⟩,
  ⟨(some 19), .call (.k (.fn 22 [])) [(.t 18)], none, true⟩,
  ⟨(some 17), .mv (.t 19), none, true⟩,
  ⟨(some 20), .ext (.t 17) 0, none, true⟩,
  ⟨(some 21), .ext (.t 17) 1, none, true⟩,
  ⟨(some 3), .mv (.t 20), none, true⟩,
  ⟨(some 4), .mv (.t 21), none, true⟩]
@[reducible] def o19_3 : List Ins := [⟨(some 23), .ld false 5 (.t 1), none, true⟩,
  ⟨(some 24), .call (.k (.fn 27 [])) [(.t 23), (.k (.c (.int .i64 2)))], none, true⟩,
  ⟨(some 22), .mv (.t 24), none, true⟩,
  ⟨(some 25), .ext (.t 22) 0, none, true⟩,
  ⟨(some 26), .ext (.t 22) 1, none, true⟩,
  ⟨(some 5), .mv (.t 25), none, true⟩,
  ⟨(some 6), .mv (.t 26), none, true⟩]
@[reducible] def o19_4 : List Ins := [⟨(some 28), .ld false 5 (.t 1), none, true⟩,
  ⟨(some 29), .call (.k (.fn 21 [])) [(.t 28), (.k (.c (.int .i64 100)))], none, true⟩,
  ⟨(some 27), .mv (.t 29), none, true⟩,
  ⟨(some 30), .ext (.t 27) 0, none, true⟩,
  ⟨(some 31), .ext (.t 27) 1, none, true⟩,
  ⟨(some 7), .alloc [(.c (.int .i64 0)), (.c (.int .i64 0)), (.c (.int .i64 0))], none, true⟩,
  ⟨none, .st 3 (.t 7) (.t 30), none, true⟩,
  ⟨(some 8), .mv (.t 31), none, true⟩]
@[reducible] def o19_5 : List Ins := [⟨(some 33), .ld false 5 (.t 1), none, true⟩,
  ⟨(some 34), .call (.k (.fn 26 [])) [(.t 33), (.k (.c (.int .i64 2))), (.k (.c (.int .i64 20)))], none, true⟩,
  ⟨(some 32), .mv (.t 34), none, true⟩,
  ⟨(some 35), .ext (.t 32) 0, none, true⟩,
  ⟨(some 36), .ext (.t 32) 1, none, true⟩,
  ⟨(some 9), .mv (.t 35), none, true⟩,
  ⟨(some 10), .mv (.t 36), none, true⟩]
@[reducible] def o19_6 : List Ins := [⟨(some 38), .ld false 5 (.t 2), none, true⟩,
  ⟨(some 39), .call (.k (.fn 37 [])) [(.t 38)], none, true⟩,
  ⟨(some 37), .mv (.t 39), none, true⟩,
  ⟨(some 40), .ext (.t 37) 0, none, true⟩,
  ⟨(some 41), .ext (.t 37) 1, none, true⟩,
  ⟨(some 11), .mv (.t 40), none, true⟩,
  ⟨(some 12), .mv (.t 41), none, true⟩]
@[reducible] def o19_7 : List Ins := [⟨(some 42), .mv (.t 4), none, true⟩,
  ⟨(some 43), .bin .eql (.t 42) (.k (.c (.int .i64 0))), none, true⟩,
  ⟨(some 44), .mv (.t 43), none, true⟩,
  ⟨(some 45), .mv (.t 6), (some (44, true)), true⟩,
  ⟨(some 46), .bin .eql (.t 45) (.k (.c (.int .i64 0))), (some (44, true)), true⟩,
  ⟨(some 47), .pick (.t 44) (.t 46) (.k (.c (.bool false))), none, true⟩,
  ⟨(some 48), .mv (.t 47), none, true⟩,
  ⟨(some 49), .mv (.t 8), (some (48, true)), true⟩,
  ⟨(some 50), .bin .eql (.t 49) (.k (.c (.int .i64 0))), (some (48, true)), true⟩,
  ⟨(some 51), .pick (.t 48) (.t 50) (.k (.c (.bool false))), none, true⟩,
  ⟨(some 52), .mv (.t 51), none, true⟩,
  ⟨(some 53), .mv (.t 10), (some (52, true)), true⟩,
  ⟨(some 54), .bin .eql (.t 53) (.k (.c (.int .i64 0))), (some (52, true)), true⟩,
  ⟨(some 55), .pick (.t 52) (.t 54) (.k (.c (.bool false))), none, true⟩,
  ⟨(some 56), .mv (.t 55), none, true⟩,
  ⟨(some 57), .mv (.t 12), (some (56, true)), true⟩,
  ⟨(some 58), .bin .eql (.t 57) (.k (.c (.int .i64 0))), (some (56, true)), true⟩,
  ⟨(some 59), .pick (.t 56) (.t 58) (.k (.c (.bool false))), none, true⟩,
  ⟨(some 60), .mv (.t 59), none, true⟩,
  ⟨(some 61), .mv (.t 3), (some (60, true)), true⟩,
  ⟨(some 62), .len (.t 61), (some (60, true)), true⟩,
  ⟨(some 63), .bin .eql (.t 62) (.k (.c (.int .i64 4))), (some (60, true)), true⟩,
  ⟨(some 64), .pick (.t 60) (.t 63) (.k (.c (.bool false))), none, true⟩,
  ⟨(some 65), .mv (.t 64), none, true⟩,
  ⟨(some 66), .mv (.t 3), (some (65, true)), true⟩,
  ⟨(some 67), .ia 2 (.t 66) (.k (.c (.int .i64 3))), (some (65, true)), true⟩,
  ⟨(some 68), .ld false 2 (.t 67), (some (65, true)), true⟩,
  ⟨(some 69), .bld [(.c (.int .i64 0)), (.c (.int .i64 0))] [(1, 1, (.k (.c (.int .i64 315))))], (some (65, true)), true⟩,
  ⟨(some 70), .seq false [(0, true), (1, true)] (.t 68) (.t 69), (some (65, true)), true⟩,
  ⟨(some 71), .pick (.t 65) (.t 70) (.k (.c (.bool false))), none, true⟩,
  ⟨(some 72), .mv (.t 71), none, true⟩,
  ⟨(some 73), .mv (.t 5), (some (72, true)), true⟩,
  ⟨(some 74), .bin .eql (.t 73) (.k (.c (.int .i64 148))), (some (72, true)), true⟩,
  ⟨(some 75), .pick (.t 72) (.t 74) (.k (.c (.bool false))), none, true⟩,
  ⟨(some 76), .mv (.t 75), none, true⟩,
  ⟨(some 77), .ld false 3 (.t 7), (some (76, true)), true⟩,
  ⟨(some 78), .bld [(.c (.int .i64 0)), (.c (.int .i64 0)), (.c (.int .i64 0))] [(0, 1, (.k (.c (.int .i64 1)))), (1, 1, (.k (.c (.int .i64 (-1))))), (2, 1, (.k (.c (.int .i64 3))))], (some (76, true)), true⟩,
  ⟨(some 79), .seq false [(0, true), (1, true), (2, true)] (.t 77) (.t 78), (some (76, true)), true⟩,
  ⟨(some 80), .pick (.t 76) (.t 79) (.k (.c (.bool false))), none, true⟩,
  ⟨(some 81), .mv (.t 80), none, true⟩,
  ⟨(some 82), .mv (.t 9), (some (81, true)), true⟩,
  ⟨(some 83), .bin .eql (.t 82) (.k (.c (.int .i64 5))), (some (81, true)), true⟩,
  ⟨(some 84), .pick (.t 81) (.t 83) (.k (.c (.bool false))), none, true⟩,
  ⟨(some 85), .mv (.t 84), none, true⟩,
  ⟨(some 86), .mv (.t 11), (some (85, true)), true⟩,
  ⟨(some 87), .bin .eql (.t 86) (.k (.c (.int .i64 40))), (some (85, true)), true⟩,
  ⟨(some 88), .pick (.t 85) (.t 87) (.k (.c (.bool false))), none, true⟩,
  ⟨(some 0), .mv (.t 88), none, true⟩]
@[reducible] def v19_8 : VC := (.seq (.ops o19_7) .ret)
@[reducible] def v19_9 : VC := (.seq (.ops o19_6) v19_8)
@[reducible] def v19_10 : VC := (.seq (.ops o19_5) v19_9)
@[reducible] def v19_11 : VC := (.seq (.ops o19_4) v19_10)
@[reducible] def v19_12 : VC := (.seq (.ops o19_3) v19_11)
@[reducible] def v19_13 : VC := (.seq (.ops o19_2) v19_12)
@[reducible] def v19_14 : VC := (.seq (.ops o19_1) v19_13)
def ir19 : FC := ⟨0, 89, [.t 0], (.seq (.ops o19_0) v19_14)⟩
theorem c52 : compM Try.prog [] 52 = some ir52 := by kernel_rfl
theorem c19 : compM Try.prog [] 19 = some ir19 := by kernel_rfl



def exT : Tray := ⟨[⟨100, 90⟩, ⟨120, 80⟩, ⟨60, 70⟩], 0, 1, 5, [⟨3, 0⟩, ⟨4, 10⟩, ⟨0, 12⟩, ⟨3, 50⟩, ⟨0, 300⟩]⟩
def exU : Tray := ⟨[⟨10, 20⟩, ⟨30, 40⟩], 0, -1, 60, [⟨3, 0⟩]⟩
theorem example52 : FSpec Try.prog 52 [] (.tup [exT.av, exU.av]) := by
  refine FSpec_of c52 (Nat.le_refl _) (by decide) fun C hP hN hC hL => ?_
  simp only [ir52]
  (repeat ((first | refine WV_seq_ ?_ | refine WV_block ?_ | refine WV_ops ?_ | refine WV_skip ?_ | refine WV_exit ?_); (try simp only [go_sem, init_env', Nat.reduceEqDiff, Nat.reduceAdd, Nat.reduceMul, reduceIte, Nat.reduceLeDiff, Nat.reduceLT, Nat.reduceBEq, reduceCtorEq, hP, ]); (repeat (refine And.intro (by first | omega | (intros; simp_all; done) | (intros; simp_all; omega)) ?_))))
  (refine WV_drw ?_; simp only [go_sem, init_env', Nat.reduceEqDiff, Nat.reduceAdd, Nat.reduceMul, reduceIte, Nat.reduceLeDiff, Nat.reduceLT, Nat.reduceBEq, reduceCtorEq, hP, ]; (repeat' (refine And.intro ?_ ?_)))
  all_goals
    (repeat ((first | refine WV_seq_ ?_ | refine WV_block ?_ | refine WV_ops ?_ | refine WV_skip ?_ | refine WV_exit ?_); (try simp only [go_sem, init_env', Nat.reduceEqDiff, Nat.reduceAdd, Nat.reduceMul, reduceIte, Nat.reduceLeDiff, Nat.reduceLT, Nat.reduceBEq, reduceCtorEq, hP, ]); (repeat (refine And.intro (by first | omega | (intros; simp_all; done) | (intros; simp_all; omega)) ?_))))
    (refine WV_ret ?_; simp only [thenQ, inQ, RetQ, RetOk, resAll, resA]; simp only [go_sem, init_env', Nat.reduceEqDiff, Nat.reduceAdd, Nat.reduceMul, reduceIte, Nat.reduceLeDiff, Nat.reduceLT, Nat.reduceBEq, reduceCtorEq, tupA, AV.port, AV.portL, exists_eq_left', ]; (first | exact AVle.of rfl | refine AVle.of ?_ | skip))
theorem exPlays : playsR exT = ([⟨4, 10⟩, ⟨3, 75⟩, ⟨0, 160⟩, ⟨0, 315⟩], 0) := by kernel_rfl
theorem exWait : waitR exT 2 = (148, 0) := by kernel_rfl
theorem exStand : (standR exT 100).2 = 0 ∧ (standR exT 100).1.at_ = 1 ∧ (standR exT 100).1.way = -1 ∧ (standR exT 100).1.side = 3 := ⟨by kernel_rfl, by kernel_rfl, by kernel_rfl, by kernel_rfl⟩
theorem exLatest : latestR exT 2 20 = (5, 0) := by kernel_rfl
theorem exSoon : soonR exU = (40, 0) := by kernel_rfl
set_option maxRecDepth 20000 in
set_option maxHeartbeats 4000000 in
theorem works19 : FSpec Try.prog 19 [] (.c (.bool true)) := by
  have c1 := plays22 exT
  rw [exPlays] at c1
  have c2 := wait27 exT 2
  rw [exWait] at c2
  have c3 := stand21 exT 100
  obtain ⟨s1, s2, s3, s4⟩ := exStand
  simp only [spAv, s1, s2, s3, s4] at c3
  have c4 := latest26 exT 2 20
  rw [exLatest] at c4
  have c5 := soonest37 exU
  rw [exSoon] at c5
  have z3 : ((3 : Int)).toNat = 3 := rfl
  generalize hE : exT = E at *
  generalize hU : exU = U at *
  have hex := example52
  rw [hE, hU] at hex
  refine FSpec_of c19 (Nat.le_refl _) (by decide) fun C hP hN hC hL => ?_
  simp only [ir19]
  (repeat ((first | refine WV_seq_ ?_ | refine WV_block ?_ | refine WV_ops ?_ | refine WV_skip ?_ | refine WV_exit ?_); (try simp only [go_sem, init_env', Nat.reduceEqDiff, Nat.reduceAdd, Nat.reduceMul, reduceIte, Nat.reduceLeDiff, Nat.reduceLT, Nat.reduceBEq, reduceCtorEq, hP, ]); (repeat (refine And.intro (by first | omega | (intros; simp_all; done) | (intros; simp_all; omega)) ?_))))
  (refine AS_pure (hex) rfl rfl rfl rfl rfl ?_; simp only [go_sem, init_env', Nat.reduceEqDiff, Nat.reduceAdd, Nat.reduceMul, reduceIte, Nat.reduceLeDiff, Nat.reduceLT, Nat.reduceBEq, reduceCtorEq, hP, Tray.av]; (repeat (refine And.intro (by first | omega | (intros; simp_all; done) | (intros; simp_all; omega)) ?_)); (repeat ((first | refine WV_seq_ ?_ | refine WV_block ?_ | refine WV_ops ?_ | refine WV_skip ?_ | refine WV_exit ?_); (try simp only [go_sem, init_env', Nat.reduceEqDiff, Nat.reduceAdd, Nat.reduceMul, reduceIte, Nat.reduceLeDiff, Nat.reduceLT, Nat.reduceBEq, reduceCtorEq, hP, Tray.av]); (repeat (refine And.intro (by first | omega | (intros; simp_all; done) | (intros; simp_all; omega)) ?_)))))
  (refine AS_pure (c1) rfl rfl rfl rfl rfl ?_; simp only [go_sem, init_env', Nat.reduceEqDiff, Nat.reduceAdd, Nat.reduceMul, reduceIte, Nat.reduceLeDiff, Nat.reduceLT, Nat.reduceBEq, reduceCtorEq, hP, Tray.av]; (repeat (refine And.intro (by first | omega | (intros; simp_all; done) | (intros; simp_all; omega)) ?_)); (repeat ((first | refine WV_seq_ ?_ | refine WV_block ?_ | refine WV_ops ?_ | refine WV_skip ?_ | refine WV_exit ?_); (try simp only [go_sem, init_env', Nat.reduceEqDiff, Nat.reduceAdd, Nat.reduceMul, reduceIte, Nat.reduceLeDiff, Nat.reduceLT, Nat.reduceBEq, reduceCtorEq, hP, Tray.av]); (repeat (refine And.intro (by first | omega | (intros; simp_all; done) | (intros; simp_all; omega)) ?_)))))
  (refine AS_pure (c2) rfl rfl rfl rfl rfl ?_; simp only [go_sem, init_env', Nat.reduceEqDiff, Nat.reduceAdd, Nat.reduceMul, reduceIte, Nat.reduceLeDiff, Nat.reduceLT, Nat.reduceBEq, reduceCtorEq, hP, Tray.av]; (repeat (refine And.intro (by first | omega | (intros; simp_all; done) | (intros; simp_all; omega)) ?_)); (repeat ((first | refine WV_seq_ ?_ | refine WV_block ?_ | refine WV_ops ?_ | refine WV_skip ?_ | refine WV_exit ?_); (try simp only [go_sem, init_env', Nat.reduceEqDiff, Nat.reduceAdd, Nat.reduceMul, reduceIte, Nat.reduceLeDiff, Nat.reduceLT, Nat.reduceBEq, reduceCtorEq, hP, Tray.av]); (repeat (refine And.intro (by first | omega | (intros; simp_all; done) | (intros; simp_all; omega)) ?_)))))
  (refine AS_pure (c3) rfl rfl rfl rfl rfl ?_; simp only [go_sem, init_env', Nat.reduceEqDiff, Nat.reduceAdd, Nat.reduceMul, reduceIte, Nat.reduceLeDiff, Nat.reduceLT, Nat.reduceBEq, reduceCtorEq, hP, Tray.av]; (repeat (refine And.intro (by first | omega | (intros; simp_all; done) | (intros; simp_all; omega)) ?_)); (repeat ((first | refine WV_seq_ ?_ | refine WV_block ?_ | refine WV_ops ?_ | refine WV_skip ?_ | refine WV_exit ?_); (try simp only [go_sem, init_env', Nat.reduceEqDiff, Nat.reduceAdd, Nat.reduceMul, reduceIte, Nat.reduceLeDiff, Nat.reduceLT, Nat.reduceBEq, reduceCtorEq, hP, Tray.av]); (repeat (refine And.intro (by first | omega | (intros; simp_all; done) | (intros; simp_all; omega)) ?_)))))
  (refine AS_pure (c4) rfl rfl rfl rfl rfl ?_; simp only [go_sem, init_env', Nat.reduceEqDiff, Nat.reduceAdd, Nat.reduceMul, reduceIte, Nat.reduceLeDiff, Nat.reduceLT, Nat.reduceBEq, reduceCtorEq, hP, Tray.av]; (repeat (refine And.intro (by first | omega | (intros; simp_all; done) | (intros; simp_all; omega)) ?_)); (repeat ((first | refine WV_seq_ ?_ | refine WV_block ?_ | refine WV_ops ?_ | refine WV_skip ?_ | refine WV_exit ?_); (try simp only [go_sem, init_env', Nat.reduceEqDiff, Nat.reduceAdd, Nat.reduceMul, reduceIte, Nat.reduceLeDiff, Nat.reduceLT, Nat.reduceBEq, reduceCtorEq, hP, Tray.av]); (repeat (refine And.intro (by first | omega | (intros; simp_all; done) | (intros; simp_all; omega)) ?_)))))
  (refine AS_pure (c5) rfl rfl rfl rfl rfl ?_; simp only [go_sem, init_env', Nat.reduceEqDiff, Nat.reduceAdd, Nat.reduceMul, reduceIte, Nat.reduceLeDiff, Nat.reduceLT, Nat.reduceBEq, reduceCtorEq, hP, Tray.av, beq_self_eq_true, prsC, List.map_cons, List.map_nil, List.length_cons, List.length_nil, Pr.cds, z3, List.getD_cons_succ, List.getD_cons_zero, seqGo]; (repeat (refine And.intro (by first | omega | (intros; simp_all; done) | (intros; simp_all; omega)) ?_)); (repeat ((first | refine WV_seq_ ?_ | refine WV_block ?_ | refine WV_ops ?_ | refine WV_skip ?_ | refine WV_exit ?_); (try simp only [go_sem, init_env', Nat.reduceEqDiff, Nat.reduceAdd, Nat.reduceMul, reduceIte, Nat.reduceLeDiff, Nat.reduceLT, Nat.reduceBEq, reduceCtorEq, hP, Tray.av, beq_self_eq_true, prsC, List.map_cons, List.map_nil, List.length_cons, List.length_nil, Pr.cds, z3, List.getD_cons_succ, List.getD_cons_zero, seqGo]); (repeat (refine And.intro (by first | omega | (intros; simp_all; done) | (intros; simp_all; omega)) ?_)))))
  (refine WV_ret ?_; simp only [thenQ, inQ, RetQ, RetOk, resAll, resA]; simp only [go_sem, init_env', Nat.reduceEqDiff, Nat.reduceAdd, Nat.reduceMul, reduceIte, Nat.reduceLeDiff, Nat.reduceLT, Nat.reduceBEq, reduceCtorEq, tupA, AV.port, AV.portL, exists_eq_left', ]; (first | exact AVle.of rfl | refine AVle.of ?_ | skip))
end Go.Proofs.Ytkpgpgaojjobgaa

namespace Go.Proofs.Ytkpgpgaojjobgaa
open Go Go.V
end Go.Proofs.Ytkpgpgaojjobgaa

/-
  Runs of two trays side by side: another order of the presses, one more press: plain.
-/
namespace Go.Proofs.Ytkpgpgaojjobgaa
open Go Go.V

/-! ### A run looks at the records and the step only -/
/-! ### Another order of the presses -/
/-- Two states that differ in the order of presses only. -/
structure Like (s s' : Cs) : Prop where
  q : s.q.Perm s'.q
  eq : { s' with q := s.q } = s
theorem sides_set (l : List Int) : ∀ pins : List Bool, ∀ k, (l.foldl (fun b x => b.set x.toNat true) pins).getD k false = (pins.getD k false || (decide (k < pins.length) && l.any fun x => x.toNat == k)) := by
  induction l with
  | nil => intro pins k; simp
  | cons a l ih =>
    intro pins k
    rw [List.foldl_cons, ih, List.length_set, List.any_cons]
    have e : (pins.set a.toNat true).getD k false = (pins.getD k false || (decide (k < pins.length) && (a.toNat == k))) := by
      rw [List.getD_eq_getElem?_getD, List.getElem?_set, List.getD_eq_getElem?_getD]
      by_cases h1 : a.toNat = k
      · subst h1
        by_cases h2 : a.toNat < pins.length
        · simp [h2]
        · simp [h2]
      · have : (a.toNat == k) = false := by simpa using h1
        rw [if_neg h1, this]; simp
    rw [e]
    cases pins.getD k false <;> cases decide (k < pins.length) <;> cases (a.toNat == k) <;> cases (l.any fun x => x.toNat == k) <;> rfl
theorem ext_pins {l m : List Bool} (hl : l.length = m.length) (h : ∀ k, l.getD k false = m.getD k false) : l = m := by
  apply List.ext_getElem hl
  intro i h1 h2
  have := h i
  simpa [h1, h2] using this
/-- What presses that are sorted come to: those that are over, and those to come. -/
theorem pressQ_eq (now : Int) : ∀ (q : List Pr) (pins : List Bool), q.Pairwise (fun a b => a.time ≤ b.time) →
    pressQ now q pins = (q.filter fun p => decide (now < p.time), ((q.filter fun p => decide (p.time ≤ now)).map Pr.side).foldl (fun b x => b.set x.toNat true) pins)
  | [], pins, _ => rfl
  | p :: q, pins, hs => by
    have hs := List.pairwise_cons.1 hs
    simp only [pressQ]
    by_cases h : p.time ≤ now
    · rw [if_pos h, pressQ_eq now q _ hs.2]
      simp only [List.filter_cons]
      rw [if_neg (by simp; omega), if_pos (by simpa using h), List.map_cons, List.foldl_cons]
    · rw [if_neg h]
      have h1 : (p :: q).filter (fun p => decide (now < p.time)) = p :: q := List.filter_eq_self.2 fun a ha => by
        rcases List.mem_cons.1 ha with rfl | ha
        · simp; omega
        · have := hs.1 a ha; simp; omega
      have h2 : (p :: q).filter (fun p => decide (p.time ≤ now)) = [] := List.filter_eq_nil_iff.2 fun a ha => by
        rcases List.mem_cons.1 ha with rfl | ha
        · simpa using h
        · have := hs.1 a ha; simp; omega
      rw [h1, h2]; rfl
theorem foldl_len (l : List Int) : ∀ pins : List Bool, (l.foldl (fun b x => b.set x.toNat true) pins).length = pins.length := by
  induction l with
  | nil => intro _; rfl
  | cons a l ih => intro pins; rw [List.foldl_cons, ih, List.length_set]
theorem perm_any {l m : List Int} (h : l.Perm m) (f : Int → Bool) : l.any f = m.any f := by
  rw [Bool.eq_iff_iff, List.any_eq_true, List.any_eq_true]
  exact ⟨fun ⟨x, hx, hf⟩ => ⟨x, h.mem_iff.1 hx, hf⟩, fun ⟨x, hx, hf⟩ => ⟨x, h.mem_iff.2 hx, hf⟩⟩
theorem pressQ_perm {now : Int} {q q' : List Pr} {pins : List Bool} (h : q.Perm q') (hs : q.Pairwise fun a b => a.time ≤ b.time) (hs' : q'.Pairwise fun a b => a.time ≤ b.time) :
    (pressQ now q pins).1.Perm (pressQ now q' pins).1 ∧ (pressQ now q pins).2 = (pressQ now q' pins).2 := by
  rw [pressQ_eq _ _ _ hs, pressQ_eq _ _ _ hs']
  refine ⟨h.filter _, ext_pins (by simp only [foldl_len]) fun k => ?_⟩
  simp only [sides_set]
  rw [perm_any ((h.filter _).map _)]
theorem Like.press {t : Tray} {s s' : Cs} (h : Like s s') (hs : CsOk t s) (hs' : CsOk t s') : Like s.press s'.press := by
  obtain ⟨hq, he⟩ := h
  obtain ⟨q, pins, now, a, u, sd, sp, pl, st, en⟩ := s
  obtain ⟨q', pins', now', a', u', sd', sp', pl', st', en'⟩ := s'
  simp only [Cs.mk.injEq, true_and] at he
  obtain ⟨rfl, rfl, rfl, rfl, rfl, rfl, rfl, rfl, rfl⟩ := he
  obtain ⟨h1, h2⟩ := pressQ_perm (now := now') (pins := pins') hq hs.sorted hs'.sorted
  refine ⟨h1, ?_⟩
  simp only [Cs.press, Cs.mk.injEq, true_and]
  exact ⟨h2.symm, trivial⟩
theorem head_time {q q' : List Pr} (h : q.Perm q') (hs : q.Pairwise fun a b => a.time ≤ b.time) (hs' : q'.Pairwise fun a b => a.time ≤ b.time) {p : Pr} {l : List Pr} (hq : q = p :: l) : ∃ p' l', q' = p' :: l' ∧ p'.time = p.time := by
  cases q' with
  | nil => rw [hq] at h; exact absurd h.length_eq (by simp)
  | cons p' l' =>
    subst hq
    refine ⟨p', l', rfl, ?_⟩
    have h1 : p' ∈ p :: l := h.mem_iff.2 (by simp)
    have h2 : p ∈ p' :: l' := h.mem_iff.1 (by simp)
    have e1 : p.time ≤ p'.time := by
      rcases List.mem_cons.1 h1 with rfl | h1
      · exact Int.le_refl _
      · exact (List.pairwise_cons.1 hs).1 _ h1
    have e2 : p'.time ≤ p.time := by
      rcases List.mem_cons.1 h2 with rfl | h2
      · exact Int.le_refl _
      · exact (List.pairwise_cons.1 hs').1 _ h2
    omega
theorem play_q (t : Tray) (s : Cs) (q : List Pr) : ({ s with q := q } : Cs).play t = { s.play t with q := q } := by
  unfold Cs.play
  by_cases h : s.pins.getD s.pos false = true
  · have h' : ({ s with q := q } : Cs).pins.getD ({ s with q := q } : Cs).pos false = true := h
    rw [if_pos h, if_pos h']; rfl
  · have h' : ¬ ({ s with q := q } : Cs).pins.getD ({ s with q := q } : Cs).pos false = true := h
    rw [if_neg h, if_neg h']
theorem next_q (t : Tray) (s : Cs) (q : List Pr) : ({ s with q := q } : Cs).next t = { s.next t with q := q } := by
  obtain ⟨q', pins, now, a, up, sd, sp, pl, st, en⟩ := s
  cases up
  · by_cases h : 0 < a <;> simp [Cs.next, Cs.move, Cs.mark, h]
  · by_cases h : a + 1 < t.n <;> simp [Cs.next, Cs.move, Cs.mark, h]
theorem step_q (t : Tray) (s : Cs) (q : List Pr) : (({ s with q := q } : Cs).play t).next t = { (s.play t).next t with q := q } := by rw [play_q, next_q]
/-- One act of both. -/
theorem Like.act1 {t : Tray} {s s' : Cs} (h : Like s s') (hs : CsOk t s) (hs' : CsOk t s') : (s.act1 t = none ∧ s'.act1 t = none) ∨ ∃ u u', s.act1 t = some u ∧ s'.act1 t = some u' ∧ Like u u' := by
  obtain ⟨hq, he⟩ := h
  obtain ⟨q, pins, now, a, up, sd, sp, pl, st, en⟩ := s
  obtain ⟨q', pins', now', a', up', sd', sp', pl', st', en'⟩ := s'
  simp only [Cs.mk.injEq, true_and] at he
  obtain ⟨rfl, rfl, rfl, rfl, rfl, rfl, rfl, rfl, rfl⟩ := he
  simp only at hq
  unfold Cs.act1
  simp only
  by_cases hp : pins'.all (!·) = true
  · rw [if_pos hp]
    cases q with
    | nil =>
      cases q' with
      | nil => left; simp [hp]
      | cons a b => exact absurd hq.length_eq (by simp)
    | cons p l =>
      obtain ⟨p', l', rfl, ht⟩ := head_time hq hs.sorted hs'.sorted rfl
      right
      refine ⟨_, _, rfl, by simp only [hp, if_true]; rfl, hq, ?_⟩
      simp only [Cs.mk.injEq, true_and, and_true]
      exact ht
  · rw [if_neg hp]
    right
    refine ⟨_, _, rfl, by rw [if_neg hp], ?_, ?_⟩
    · have e1 : ∀ (q : List Pr), (((⟨q, pins', now', a', up', sd', sp', pl', st', en'⟩ : Cs).play t).next t).q = q := fun q => by
        rw [(next_keeps t _).1, (play_pins t _).2.1]
      rw [e1, e1]; exact hq
    · have e1 := step_q t ⟨q', pins', now', a', up', sd', sp', pl', st', en'⟩ q
      have e2 : (((⟨q, pins', now', a', up', sd', sp', pl', st', en'⟩ : Cs).play t).next t).q = q := by
        rw [(next_keeps t _).1, (play_pins t _).2.1]
      rw [e2]
      exact e1.symm
end Go.Proofs.Ytkpgpgaojjobgaa

/-
  One more press: plain.
-/
namespace Go.Proofs.Ytkpgpgaojjobgaa
open Go Go.V

/-- What an act adds comes later. -/
structure Adds (s u : Cs) : Prop where
  now : s.now ≤ u.now
  sp : ∃ a, u.spells = s.spells ++ a ∧ ∀ e ∈ a, s.now ≤ e.from_
  pl : ∃ b, u.plays = s.plays ++ b ∧ ∀ x ∈ b, s.now ≤ x.time
theorem Adds.refl (s : Cs) : Adds s s := ⟨Int.le_refl _, ⟨[], by simp, by simp⟩, ⟨[], by simp, by simp⟩⟩
theorem Adds.trans {s u v : Cs} (h : Adds s u) (k : Adds u v) : Adds s v := by
  obtain ⟨a, ha, ha2⟩ := h.sp
  obtain ⟨b, hb, hb2⟩ := k.sp
  obtain ⟨c, hc, hc2⟩ := h.pl
  obtain ⟨d, hd, hd2⟩ := k.pl
  have h1 := h.now
  have h2 := k.now
  refine ⟨by omega, ⟨a ++ b, by rw [hb, ha, List.append_assoc], fun e he => ?_⟩, ⟨c ++ d, by rw [hd, hc, List.append_assoc], fun e he => ?_⟩⟩
  · rcases List.mem_append.1 he with he | he
    · exact ha2 e he
    · have := hb2 e he; omega
  · rcases List.mem_append.1 he with he | he
    · exact hc2 e he
    · have := hd2 e he; omega
/-- The second one has one more press to come. -/
structure More (p : Pr) (s s' : Cs) : Prop where
  q : s'.q.Perm (p :: s.q)
  eq : { s' with q := s.q } = s
theorem pressQ_more {now : Int} {p : Pr} {q q' : List Pr} {pins : List Bool} (h : q'.Perm (p :: q)) (hs : q.Pairwise fun a b => a.time ≤ b.time) (hs' : q'.Pairwise fun a b => a.time ≤ b.time) (hlt : now < p.time) :
    (pressQ now q' pins).1.Perm (p :: (pressQ now q pins).1) ∧ (pressQ now q pins).2 = (pressQ now q' pins).2 := by
  rw [pressQ_eq _ _ _ hs, pressQ_eq _ _ _ hs']
  have f1 := h.filter (fun p => decide (now < p.time))
  have f2 := h.filter (fun p => decide (p.time ≤ now))
  rw [List.filter_cons, if_pos (by simpa using hlt)] at f1
  rw [List.filter_cons, if_neg (by simp; omega)] at f2
  refine ⟨f1, ext_pins (by simp only [foldl_len]) fun k => ?_⟩
  simp only [sides_set]
  rw [perm_any (f2.map Pr.side)]
/-- The press is set, too. -/
theorem pressQ_set {now : Int} {p : Pr} {q q' : List Pr} {pins : List Bool} (h : q'.Perm (p :: q)) (hs : q.Pairwise fun a b => a.time ≤ b.time) (hs' : q'.Pairwise fun a b => a.time ≤ b.time) (hle : p.time ≤ now) (hpin : (pressQ now q pins).2.getD p.side.toNat false = true) :
    (pressQ now q pins).1.Perm (pressQ now q' pins).1 ∧ (pressQ now q pins).2 = (pressQ now q' pins).2 := by
  rw [pressQ_eq _ _ _ hs] at hpin ⊢
  rw [pressQ_eq _ _ _ hs']
  have f1 := h.filter (fun p => decide (now < p.time))
  have f2 := h.filter (fun p => decide (p.time ≤ now))
  rw [List.filter_cons, if_neg (by simp; omega)] at f1
  rw [List.filter_cons, if_pos (by simpa using hle)] at f2
  refine ⟨f1.symm, ext_pins (by simp only [foldl_len]) fun k => ?_⟩
  simp only [sides_set] at hpin ⊢
  rw [perm_any (f2.map Pr.side), List.map_cons, List.any_cons]
  by_cases hk : p.side.toNat = k
  · subst hk
    rw [hpin]
    by_cases hl : p.side.toNat < pins.length
    · simp [hl]
    · have : pins.getD p.side.toNat false = false := by rw [List.getD_eq_getElem?_getD, List.getElem?_eq_none (by omega)]; rfl
      rw [this] at hpin
      simp [hl] at hpin
  · have : (p.side.toNat == k) = false := by simpa using hk
    rw [this, Bool.false_or]
theorem More.press {t : Tray} {p : Pr} {s s' : Cs} (h : More p s s') (hs : CsOk t s) (hs' : CsOk t s') (hlt : s.now < p.time) : More p s.press s'.press := by
  obtain ⟨hq, he⟩ := h
  obtain ⟨q, pins, now, a, u, sd, sp, pl, st, en⟩ := s
  obtain ⟨q', pins', now', a', u', sd', sp', pl', st', en'⟩ := s'
  simp only [Cs.mk.injEq, true_and] at he
  obtain ⟨rfl, rfl, rfl, rfl, rfl, rfl, rfl, rfl, rfl⟩ := he
  obtain ⟨h1, h2⟩ := pressQ_more (now := now') (pins := pins') hq hs.sorted hs'.sorted hlt
  refine ⟨h1, ?_⟩
  simp only [Cs.press, Cs.mk.injEq, true_and]
  exact ⟨h2.symm, trivial⟩
theorem More.set {t : Tray} {p : Pr} {s s' : Cs} (h : More p s s') (hs : CsOk t s) (hs' : CsOk t s') (hle : p.time ≤ s.now) (hpin : s.press.pins.getD p.side.toNat false = true) : Like s.press s'.press := by
  obtain ⟨hq, he⟩ := h
  obtain ⟨q, pins, now, a, u, sd, sp, pl, st, en⟩ := s
  obtain ⟨q', pins', now', a', u', sd', sp', pl', st', en'⟩ := s'
  simp only [Cs.mk.injEq, true_and] at he
  obtain ⟨rfl, rfl, rfl, rfl, rfl, rfl, rfl, rfl, rfl⟩ := he
  obtain ⟨h1, h2⟩ := pressQ_set (now := now') (pins := pins') hq hs.sorted hs'.sorted hle hpin
  refine ⟨h1, ?_⟩
  simp only [Cs.press, Cs.mk.injEq, true_and]
  exact ⟨h2.symm, trivial⟩
/-- Both do the same, as long as something is asked for. -/
theorem More.step {t : Tray} {p : Pr} {s s' : Cs} (h : More p s s') : More p ((s.play t).next t) ((s'.play t).next t) := by
  have e1 : ∀ x : Cs, ((x.play t).next t).q = x.q := fun x => by rw [(next_keeps t _).1, (play_pins t x).2.1]
  refine ⟨by rw [e1, e1]; exact h.q, ?_⟩
  have := step_q t s' s.q
  rw [h.eq] at this
  rw [e1]
  exact this.symm
theorem More.pins {p : Pr} {s s' : Cs} (h : More p s s') : s'.pins = s.pins ∧ s'.now = s.now ∧ s'.spells = s.spells ∧ s'.plays = s.plays := by
  have e := h.eq
  rw [← e]; exact ⟨rfl, rfl, rfl, rfl⟩
/-! ### What was before -/
end Go.Proofs.Ytkpgpgaojjobgaa

/-
  While a side plays, the carriage stands at its place: plain.
-/
namespace Go.Proofs.Ytkpgpgaojjobgaa
open Go Go.V

theorem standG_later {x : Int} {a : Sp} (h : x < a.from_) : ∀ (l : List Sp) (o : Sp), standG x o (l ++ [a]) = standG x o l
  | [], o => by simp [standG, h]
  | s :: l, o => by
    simp only [List.cons_append, standG]
    split
    · rfl
    · exact standG_later h l s
theorem standG_now {x : Int} {a : Sp} (h : a.from_ ≤ x) : ∀ (l : List Sp) (o : Sp), (∀ e ∈ l, e.from_ ≤ x) → standG x o (l ++ [a]) = a
  | [], o, _ => by simp only [List.nil_append, standG]; rw [if_neg (by omega)]
  | s :: l, o, hl => by
    simp only [List.cons_append, standG]
    rw [if_neg (by have := hl s (by simp); omega)]
    exact standG_now h l s fun e he => hl e (by simp [he])
/-- The side that plays at a time; -1: none. -/
def playing (t : Tray) (l : List Pr) (x : Int) : Int := l.foldl (fun w p => if p.time ≤ x ∧ x < p.time + secsI t p.side then p.side else w) (-1)
theorem playing_snoc (t : Tray) (l : List Pr) (p : Pr) (x : Int) : playing t (l ++ [p]) x = if p.time ≤ x ∧ x < p.time + secsI t p.side then p.side else playing t l x := by
  unfold playing; rw [List.foldl_append]; rfl
theorem playing_none {t : Tray} {l : List Pr} {x : Int} (h : ∀ p ∈ l, p.time + secsI t p.side ≤ x) : playing t l x = -1 := by
  unfold playing
  generalize hw : (-1 : Int) = w
  clear hw
  induction l generalizing w with
  | nil => rfl
  | cons p l ih =>
    rw [List.foldl_cons, if_neg (by have := h p (by simp); omega)]
    exact ih (fun q hq => h q (by simp [hq])) w
structure Shows (t : Tray) (s : Cs) (x : Int) (e : Sp) : Prop where
  at_ : ∃ (k : Nat) (up : Bool), k < t.n ∧ e.at_ = (k : Int) ∧ e.way = wayI up ∧ (e.side = -1 ∨ e.side = (sideAt k up : Int))
  before : x < s.now → e.side = playing t s.plays x
  now : s.now ≤ x → e.side = -1 ∧ e.at_ = (s.at_ : Int) ∧ e.way = wayI s.up
structure Stands (t : Tray) (s : Cs) : Prop where
  inv : Inv t s
  le : ∀ e ∈ s.spells, e.from_ ≤ s.now
  shows : ∀ (o : Sp) (x : Int), 0 ≤ x → Shows t s x (standG x o s.spells)
theorem Stands.next {t : Tray} {s : Cs} (ht : TrayOk t) (hs : s.at_ < t.n) (hp : ∀ p ∈ s.plays, p.time + secsI t p.side ≤ s.now) (h1 : ∀ e ∈ s.spells, e.from_ ≤ s.now) (h : ∀ (o : Sp) (x : Int), 0 ≤ x → Shows t s x (standG x o s.spells)) :
    (∀ e ∈ (s.next t).spells, e.from_ ≤ (s.next t).now) ∧ ∀ (o : Sp) (x : Int), 0 ≤ x → Shows t (s.next t) x (standG x o (s.next t).spells) := by
  obtain ⟨m1, m2, m3, m4, m5⟩ := move_q t s
  obtain ⟨n1, n2, n3, n4⟩ := move_now ht.step.1 s
  have hat := (move_c (t := t) hs).2
  have es : (s.next t).spells = s.spells ++ [⟨((s.move t).at_ : Int), wayI (s.move t).up, -1, (s.move t).now⟩] := by
    show (s.move t).spells ++ _ = _
    rw [m4]
  have en : (s.next t).now = (s.move t).now := rfl
  have ep : (s.next t).plays = s.plays := m3
  rw [es, en]
  refine ⟨fun e he => ?_, fun o x hx => ?_⟩
  · rcases List.mem_append.1 he with he | he
    · have := h1 e he; omega
    · simp only [List.mem_singleton] at he
      subst he; exact Int.le_refl _
  · by_cases hc : x < (s.move t).now
    · rw [standG_later (by exact hc)]
      have hh := h o x hx
      refine ⟨hh.at_, fun _ => ?_, fun hc2 => by rw [en] at hc2; omega⟩
      rw [ep]
      by_cases hc2 : x < s.now
      · exact hh.before hc2
      · rw [(hh.now (by omega)).1, playing_none fun p hpm => by have := hp p hpm; omega]
    · rw [standG_now (by simp only; omega) _ _ fun e he => by have := h1 e he; omega]
      exact ⟨⟨(s.move t).at_, (s.move t).up, hat, rfl, rfl, .inl rfl⟩, fun hc2 => by rw [en] at hc2; omega, fun _ => ⟨rfl, rfl, rfl⟩⟩
theorem Stands.act1 {t : Tray} (ht : TrayOk t) {s s' : Cs} (hs : CsOk t s) (hpr : Pressed s) (h : Stands t s) (e : s.act1 t = some s') : Stands t s' := by
  have hi := h.inv.act1 ht hs hpr e
  have hpl := fun p hp => (h.inv.ply p hp).2.2.2
  rcases act1_cases e with ⟨p, q, hq, hpins, rfl⟩ | ⟨hpins, rfl⟩
  · have hnow := hpr p (by rw [hq]; simp)
    refine ⟨hi, fun e he => by have := h.le e he; simp only; omega, fun o x hx => ?_⟩
    have hh := h.shows o x hx
    refine ⟨hh.at_, fun hc => ?_, fun hc => hh.now (by simp only at hc; omega)⟩
    by_cases hc2 : x < s.now
    · exact hh.before hc2
    · show (standG x o s.spells).side = playing t s.plays x
      rw [(hh.now (by omega)).1, playing_none fun p hpm => by have := hpl p hpm; omega]
  · by_cases hp : s.pins.getD s.pos false = true
    · have hpos := pos_lt hs
      have hsec := secs_ok ht hpos
      have hnow := hs.now
      have hsI : secsI t ((s.pos : Nat) : Int) = secs t s.pos := by unfold secsI; rw [Int.toNat_natCast]
      have ep : s.play t = (s.play1).play2 t := by unfold Cs.play; rw [if_pos hp]
      obtain ⟨p1, p2, p3, p4, p5, p6⟩ := play_yes (t := t) hp
      have ea : (s.play t).at_ = s.at_ ∧ (s.play t).up = s.up := ⟨(play_pins t s).2.2.1, (play_pins t s).2.2.2⟩
      have es : (s.play t).spells = s.spells ++ [⟨s.at_, wayI s.up, s.pos, s.now⟩] ++ [⟨s.at_, wayI s.up, -1, s.now + secs t s.pos⟩] := by rw [ep]; rfl
      have hk := Stands.next (s := s.play t) ht (by rw [ea.1]; exact hs.at_) (fun x hx => by
        rw [p3] at hx; rw [p4]
        rcases List.mem_append.1 hx with hx | hx
        · have := hpl x hx; omega
        · simp only [List.mem_singleton] at hx
          subst hx; simp only [hsI]; omega) (fun e he => by
        rw [es] at he; rw [p4]
        rcases List.mem_append.1 he with he | he
        · rcases List.mem_append.1 he with he | he
          · have := h.le e he; omega
          · simp only [List.mem_singleton] at he; subst he; simp only; omega
        · simp only [List.mem_singleton] at he; subst he; simp only; omega) (fun o x hx => by
        rw [es]
        by_cases hc : x < s.now + secs t s.pos
        · rw [standG_later (by exact hc)]
          by_cases hc2 : x < s.now
          · rw [standG_later (by exact hc2)]
            have hh := h.shows o x hx
            refine ⟨hh.at_, fun _ => ?_, fun hc3 => by rw [p4] at hc3; omega⟩
            rw [p3, playing_snoc, if_neg (by simp only; omega)]
            exact hh.before hc2
          · rw [standG_now (by simp only; omega) _ _ fun e he => by have := h.le e he; omega]
            refine ⟨⟨s.at_, s.up, hs.at_, rfl, rfl, .inr rfl⟩, fun _ => ?_, fun hc3 => by rw [p4] at hc3; omega⟩
            rw [p3, playing_snoc, if_pos (by simp only [hsI]; omega)]
        · rw [standG_now (by simp only; omega) _ _ fun e he => by
            rcases List.mem_append.1 he with he | he
            · have := h.le e he; omega
            · simp only [List.mem_singleton] at he; subst he; simp only; omega]
          exact ⟨⟨s.at_, s.up, hs.at_, rfl, rfl, .inl rfl⟩, fun hc3 => by rw [p4] at hc3; omega, fun _ => ⟨rfl, by rw [ea.1], by rw [ea.2]⟩⟩)
      exact ⟨hi, hk.1, hk.2⟩
    · rw [play_no hp] at hi ⊢
      have hk := Stands.next (s := s) ht hs.at_ hpl h.le h.shows
      exact ⟨hi, hk.1, hk.2⟩
end Go.Proofs.Ytkpgpgaojjobgaa

namespace Go.Proofs.Ytkpgpgaojjobgaa
open Go Go.V
@[reducible] def o20_0 : List Ins := [⟨(some 1), .box 5 (.t 0), none, true⟩,
  ⟨(some 2), .alloc [(.c (.raw (.slice none 0 0))), (.c (.int .i64 0)), (.c (.int .i64 0)), (.c (.int .i64 0)), (.c (.raw (.slice none 0 0)))], none, true⟩]
@[reducible] def o20_1 : List Ins := [⟨(some 4), .ld false 5 (.t 1), none, true⟩,
  ⟨(some 3), .alloc [(.c (.raw (.slice none 0 0))), (.c (.int .i64 0)), (.c (.int .i64 0)), (.c (.int .i64 0)), (.c (.raw (.slice none 0 0)))], none, true⟩,
  ⟨none, .st 5 (.t 3) (.t 4), none, true⟩]
@[reducible] def t20_2 : OT := (.cons ⟨(some 6), .fa 0 (.t 1), none, false⟩
  (.cons ⟨(some 7), .ld true 1 (.t 6), none, false⟩
  (.cons ⟨(some 10), .fa 4 (.t 1), none, false⟩
  (.cons ⟨(some 11), .ld true 1 (.t 10), none, false⟩
  (.br [(.cons ⟨(some 5), .bsl 56 2 [], none, false⟩
    (.br [(.cons ⟨(some 8), .app 56 2 16 (.t 5) (.t 7), none, false⟩
      (.cons ⟨(some 9), .bsl 27 2 [], none, false⟩
      (.cons ⟨(some 12), .app 27 2 16 (.t 9) (.t 11), none, false⟩
      (.cons ⟨(some 13), .fa 0 (.t 3), none, false⟩
      (.cons ⟨none, .st 1 (.t 13) (.t 8), none, true⟩
      (.cons ⟨(some 14), .fa 4 (.t 3), none, true⟩
      (.cons ⟨none, .st 1 (.t 14) (.t 12), none, true⟩
      .nil))))))), (.cons ⟨(some 9), .bsl 27 2 [], none, false⟩
      (.cons ⟨(some 8), .app 56 2 16 (.t 5) (.t 7), none, false⟩
      (.cons ⟨(some 12), .app 27 2 16 (.t 9) (.t 11), none, false⟩
      (.cons ⟨(some 13), .fa 0 (.t 3), none, false⟩
      (.cons ⟨none, .st 1 (.t 13) (.t 8), none, true⟩
      (.cons ⟨(some 14), .fa 4 (.t 3), none, true⟩
      (.cons ⟨none, .st 1 (.t 14) (.t 12), none, true⟩
      .nil)))))))])), (.cons ⟨(some 9), .bsl 27 2 [], none, false⟩
    (.cons ⟨(some 5), .bsl 56 2 [], none, false⟩
    (.cons ⟨(some 8), .app 56 2 16 (.t 5) (.t 7), none, false⟩
    (.cons ⟨(some 12), .app 27 2 16 (.t 9) (.t 11), none, false⟩
    (.cons ⟨(some 13), .fa 0 (.t 3), none, false⟩
    (.cons ⟨none, .st 1 (.t 13) (.t 8), none, true⟩
    (.cons ⟨(some 14), .fa 4 (.t 3), none, true⟩
    (.cons ⟨none, .st 1 (.t 14) (.t 12), none, true⟩
    .nil))))))))])))))
@[reducible] def o20_3 : List Ins := [⟨(some 15), .ld false 5 (.t 3), none, true⟩,
  ⟨none, .st 5 (.t 2) (.t 15), none, true⟩]
@[reducible] def v20_4 : VC := (.seq (.ops o20_3) .ret)
@[reducible] def v20_5 : VC := (.seq (.drw t20_2) v20_4)
@[reducible] def v20_6 : VC := (.seq (.ops o20_1) v20_5)
def ir20 : FC := ⟨1, 16, [.cell 2 false 5], (.seq (.ops o20_0) v20_6)⟩
theorem c20 : compM Try.prog [] 20 = some ir20 := by kernel_rfl



end Go.Proofs.Ytkpgpgaojjobgaa

namespace Go.Proofs.Ytkpgpgaojjobgaa
open Go Go.V
namespace W
@[reducible] def o20_0 : List Ins := [⟨(some 1), .box 5 (.t 0), none, true⟩,
  ⟨(some 2), .alloc [(.c (.raw (.slice none 0 0))), (.c (.int .i64 0)), (.c (.int .i64 0)), (.c (.int .i64 0)), (.c (.raw (.slice none 0 0)))], none, true⟩]
@[reducible] def o20_1 : List Ins := [⟨(some 4), .ld false 5 (.t 1), none, true⟩,
  ⟨(some 3), .alloc [(.c (.raw (.slice none 0 0))), (.c (.int .i64 0)), (.c (.int .i64 0)), (.c (.int .i64 0)), (.c (.raw (.slice none 0 0)))], none, true⟩,
  ⟨none, .st 5 (.t 3) (.t 4), none, true⟩]
@[reducible] def t20_2 : OT := (.cons ⟨(some 6), .fa 0 (.t 1), none, false⟩
  (.cons ⟨(some 7), .ld true 1 (.t 6), none, false⟩
  (.br [(.cons ⟨(some 5), .bsl 56 2 [], none, false⟩
    (.br [(.cons ⟨(some 8), .appv 56 2 16 (.t 5) (.t 7), none, true⟩
      (.cons ⟨(some 9), .bsl 27 2 [], none, false⟩
      (.cons ⟨(some 10), .fa 4 (.t 1), none, false⟩
      (.cons ⟨(some 11), .ld true 1 (.t 10), none, false⟩
      (.br [(.cons ⟨(some 12), .appv 27 2 16 (.t 9) (.t 11), none, true⟩
        (.cons ⟨(some 13), .fa 0 (.t 3), none, false⟩
        (.cons ⟨none, .st 1 (.t 13) (.t 8), none, true⟩
        (.cons ⟨(some 14), .fa 4 (.t 3), none, true⟩
        (.cons ⟨none, .st 1 (.t 14) (.t 12), none, true⟩
        .nil))))), (.cons ⟨(some 13), .fa 0 (.t 3), none, false⟩
        (.cons ⟨(some 12), .appv 27 2 16 (.t 9) (.t 11), none, true⟩
        (.cons ⟨none, .st 1 (.t 13) (.t 8), none, true⟩
        (.cons ⟨(some 14), .fa 4 (.t 3), none, true⟩
        (.cons ⟨none, .st 1 (.t 14) (.t 12), none, true⟩
        .nil)))))]))))), (.cons ⟨(some 9), .bsl 27 2 [], none, false⟩
      (.br [(.cons ⟨(some 8), .appv 56 2 16 (.t 5) (.t 7), none, true⟩
        (.cons ⟨(some 10), .fa 4 (.t 1), none, false⟩
        (.cons ⟨(some 11), .ld true 1 (.t 10), none, false⟩
        (.br [(.cons ⟨(some 12), .appv 27 2 16 (.t 9) (.t 11), none, true⟩
          (.cons ⟨(some 13), .fa 0 (.t 3), none, false⟩
          (.cons ⟨none, .st 1 (.t 13) (.t 8), none, true⟩
          (.cons ⟨(some 14), .fa 4 (.t 3), none, true⟩
          (.cons ⟨none, .st 1 (.t 14) (.t 12), none, true⟩
          .nil))))), (.cons ⟨(some 13), .fa 0 (.t 3), none, false⟩
          (.cons ⟨(some 12), .appv 27 2 16 (.t 9) (.t 11), none, true⟩
          (.cons ⟨none, .st 1 (.t 13) (.t 8), none, true⟩
          (.cons ⟨(some 14), .fa 4 (.t 3), none, true⟩
          (.cons ⟨none, .st 1 (.t 14) (.t 12), none, true⟩
          .nil)))))])))), (.cons ⟨(some 10), .fa 4 (.t 1), none, false⟩
        (.br [(.cons ⟨(some 8), .appv 56 2 16 (.t 5) (.t 7), none, true⟩
          (.cons ⟨(some 11), .ld true 1 (.t 10), none, false⟩
          (.br [(.cons ⟨(some 12), .appv 27 2 16 (.t 9) (.t 11), none, true⟩
            (.cons ⟨(some 13), .fa 0 (.t 3), none, false⟩
            (.cons ⟨none, .st 1 (.t 13) (.t 8), none, true⟩
            (.cons ⟨(some 14), .fa 4 (.t 3), none, true⟩
            (.cons ⟨none, .st 1 (.t 14) (.t 12), none, true⟩
            .nil))))), (.cons ⟨(some 13), .fa 0 (.t 3), none, false⟩
            (.cons ⟨(some 12), .appv 27 2 16 (.t 9) (.t 11), none, true⟩
            (.cons ⟨none, .st 1 (.t 13) (.t 8), none, true⟩
            (.cons ⟨(some 14), .fa 4 (.t 3), none, true⟩
            (.cons ⟨none, .st 1 (.t 14) (.t 12), none, true⟩
            .nil)))))]))), (.cons ⟨(some 11), .ld true 1 (.t 10), none, false⟩
          (.cons ⟨(some 8), .appv 56 2 16 (.t 5) (.t 7), none, true⟩
          (.br [(.cons ⟨(some 12), .appv 27 2 16 (.t 9) (.t 11), none, true⟩
            (.cons ⟨(some 13), .fa 0 (.t 3), none, false⟩
            (.cons ⟨none, .st 1 (.t 13) (.t 8), none, true⟩
            (.cons ⟨(some 14), .fa 4 (.t 3), none, true⟩
            (.cons ⟨none, .st 1 (.t 14) (.t 12), none, true⟩
            .nil))))), (.cons ⟨(some 13), .fa 0 (.t 3), none, false⟩
            (.cons ⟨(some 12), .appv 27 2 16 (.t 9) (.t 11), none, true⟩
            (.cons ⟨none, .st 1 (.t 13) (.t 8), none, true⟩
            (.cons ⟨(some 14), .fa 4 (.t 3), none, true⟩
            (.cons ⟨none, .st 1 (.t 14) (.t 12), none, true⟩
            .nil)))))])))]))])), (.cons ⟨(some 10), .fa 4 (.t 1), none, false⟩
      (.br [(.cons ⟨(some 8), .appv 56 2 16 (.t 5) (.t 7), none, true⟩
        (.cons ⟨(some 9), .bsl 27 2 [], none, false⟩
        (.cons ⟨(some 11), .ld true 1 (.t 10), none, false⟩
        (.br [(.cons ⟨(some 12), .appv 27 2 16 (.t 9) (.t 11), none, true⟩
          (.cons ⟨(some 13), .fa 0 (.t 3), none, false⟩
          (.cons ⟨none, .st 1 (.t 13) (.t 8), none, true⟩
          (.cons ⟨(some 14), .fa 4 (.t 3), none, true⟩
          (.cons ⟨none, .st 1 (.t 14) (.t 12), none, true⟩
          .nil))))), (.cons ⟨(some 13), .fa 0 (.t 3), none, false⟩
          (.cons ⟨(some 12), .appv 27 2 16 (.t 9) (.t 11), none, true⟩
          (.cons ⟨none, .st 1 (.t 13) (.t 8), none, true⟩
          (.cons ⟨(some 14), .fa 4 (.t 3), none, true⟩
          (.cons ⟨none, .st 1 (.t 14) (.t 12), none, true⟩
          .nil)))))])))), (.cons ⟨(some 9), .bsl 27 2 [], none, false⟩
        (.br [(.cons ⟨(some 8), .appv 56 2 16 (.t 5) (.t 7), none, true⟩
          (.cons ⟨(some 11), .ld true 1 (.t 10), none, false⟩
          (.br [(.cons ⟨(some 12), .appv 27 2 16 (.t 9) (.t 11), none, true⟩
            (.cons ⟨(some 13), .fa 0 (.t 3), none, false⟩
            (.cons ⟨none, .st 1 (.t 13) (.t 8), none, true⟩
            (.cons ⟨(some 14), .fa 4 (.t 3), none, true⟩
            (.cons ⟨none, .st 1 (.t 14) (.t 12), none, true⟩
            .nil))))), (.cons ⟨(some 13), .fa 0 (.t 3), none, false⟩
            (.cons ⟨(some 12), .appv 27 2 16 (.t 9) (.t 11), none, true⟩
            (.cons ⟨none, .st 1 (.t 13) (.t 8), none, true⟩
            (.cons ⟨(some 14), .fa 4 (.t 3), none, true⟩
            (.cons ⟨none, .st 1 (.t 14) (.t 12), none, true⟩
            .nil)))))]))), (.cons ⟨(some 11), .ld true 1 (.t 10), none, false⟩
          (.cons ⟨(some 8), .appv 56 2 16 (.t 5) (.t 7), none, true⟩
          (.br [(.cons ⟨(some 12), .appv 27 2 16 (.t 9) (.t 11), none, true⟩
            (.cons ⟨(some 13), .fa 0 (.t 3), none, false⟩
            (.cons ⟨none, .st 1 (.t 13) (.t 8), none, true⟩
            (.cons ⟨(some 14), .fa 4 (.t 3), none, true⟩
            (.cons ⟨none, .st 1 (.t 14) (.t 12), none, true⟩
            .nil))))), (.cons ⟨(some 13), .fa 0 (.t 3), none, false⟩
            (.cons ⟨(some 12), .appv 27 2 16 (.t 9) (.t 11), none, true⟩
            (.cons ⟨none, .st 1 (.t 13) (.t 8), none, true⟩
            (.cons ⟨(some 14), .fa 4 (.t 3), none, true⟩
            (.cons ⟨none, .st 1 (.t 14) (.t 12), none, true⟩
            .nil)))))])))])), (.cons ⟨(some 11), .ld true 1 (.t 10), none, false⟩
        (.br [(.cons ⟨(some 8), .appv 56 2 16 (.t 5) (.t 7), none, true⟩
          (.cons ⟨(some 9), .bsl 27 2 [], none, false⟩
          (.br [(.cons ⟨(some 12), .appv 27 2 16 (.t 9) (.t 11), none, true⟩
            (.cons ⟨(some 13), .fa 0 (.t 3), none, false⟩
            (.cons ⟨none, .st 1 (.t 13) (.t 8), none, true⟩
            (.cons ⟨(some 14), .fa 4 (.t 3), none, true⟩
            (.cons ⟨none, .st 1 (.t 14) (.t 12), none, true⟩
            .nil))))), (.cons ⟨(some 13), .fa 0 (.t 3), none, false⟩
            (.cons ⟨(some 12), .appv 27 2 16 (.t 9) (.t 11), none, true⟩
            (.cons ⟨none, .st 1 (.t 13) (.t 8), none, true⟩
            (.cons ⟨(some 14), .fa 4 (.t 3), none, true⟩
            (.cons ⟨none, .st 1 (.t 14) (.t 12), none, true⟩
            .nil)))))]))), (.cons ⟨(some 9), .bsl 27 2 [], none, false⟩
          (.cons ⟨(some 8), .appv 56 2 16 (.t 5) (.t 7), none, true⟩
          (.br [(.cons ⟨(some 12), .appv 27 2 16 (.t 9) (.t 11), none, true⟩
            (.cons ⟨(some 13), .fa 0 (.t 3), none, false⟩
            (.cons ⟨none, .st 1 (.t 13) (.t 8), none, true⟩
            (.cons ⟨(some 14), .fa 4 (.t 3), none, true⟩
            (.cons ⟨none, .st 1 (.t 14) (.t 12), none, true⟩
            .nil))))), (.cons ⟨(some 13), .fa 0 (.t 3), none, false⟩
            (.cons ⟨(some 12), .appv 27 2 16 (.t 9) (.t 11), none, true⟩
            (.cons ⟨none, .st 1 (.t 13) (.t 8), none, true⟩
            (.cons ⟨(some 14), .fa 4 (.t 3), none, true⟩
            (.cons ⟨none, .st 1 (.t 14) (.t 12), none, true⟩
            .nil)))))])))]))]))])), (.cons ⟨(some 9), .bsl 27 2 [], none, false⟩
    (.cons ⟨(some 5), .bsl 56 2 [], none, false⟩
    (.br [(.cons ⟨(some 8), .appv 56 2 16 (.t 5) (.t 7), none, true⟩
      (.cons ⟨(some 10), .fa 4 (.t 1), none, false⟩
      (.cons ⟨(some 11), .ld true 1 (.t 10), none, false⟩
      (.br [(.cons ⟨(some 12), .appv 27 2 16 (.t 9) (.t 11), none, true⟩
        (.cons ⟨(some 13), .fa 0 (.t 3), none, false⟩
        (.cons ⟨none, .st 1 (.t 13) (.t 8), none, true⟩
        (.cons ⟨(some 14), .fa 4 (.t 3), none, true⟩
        (.cons ⟨none, .st 1 (.t 14) (.t 12), none, true⟩
        .nil))))), (.cons ⟨(some 13), .fa 0 (.t 3), none, false⟩
        (.cons ⟨(some 12), .appv 27 2 16 (.t 9) (.t 11), none, true⟩
        (.cons ⟨none, .st 1 (.t 13) (.t 8), none, true⟩
        (.cons ⟨(some 14), .fa 4 (.t 3), none, true⟩
        (.cons ⟨none, .st 1 (.t 14) (.t 12), none, true⟩
        .nil)))))])))), (.cons ⟨(some 10), .fa 4 (.t 1), none, false⟩
      (.br [(.cons ⟨(some 8), .appv 56 2 16 (.t 5) (.t 7), none, true⟩
        (.cons ⟨(some 11), .ld true 1 (.t 10), none, false⟩
        (.br [(.cons ⟨(some 12), .appv 27 2 16 (.t 9) (.t 11), none, true⟩
          (.cons ⟨(some 13), .fa 0 (.t 3), none, false⟩
          (.cons ⟨none, .st 1 (.t 13) (.t 8), none, true⟩
          (.cons ⟨(some 14), .fa 4 (.t 3), none, true⟩
          (.cons ⟨none, .st 1 (.t 14) (.t 12), none, true⟩
          .nil))))), (.cons ⟨(some 13), .fa 0 (.t 3), none, false⟩
          (.cons ⟨(some 12), .appv 27 2 16 (.t 9) (.t 11), none, true⟩
          (.cons ⟨none, .st 1 (.t 13) (.t 8), none, true⟩
          (.cons ⟨(some 14), .fa 4 (.t 3), none, true⟩
          (.cons ⟨none, .st 1 (.t 14) (.t 12), none, true⟩
          .nil)))))]))), (.cons ⟨(some 11), .ld true 1 (.t 10), none, false⟩
        (.cons ⟨(some 8), .appv 56 2 16 (.t 5) (.t 7), none, true⟩
        (.br [(.cons ⟨(some 12), .appv 27 2 16 (.t 9) (.t 11), none, true⟩
          (.cons ⟨(some 13), .fa 0 (.t 3), none, false⟩
          (.cons ⟨none, .st 1 (.t 13) (.t 8), none, true⟩
          (.cons ⟨(some 14), .fa 4 (.t 3), none, true⟩
          (.cons ⟨none, .st 1 (.t 14) (.t 12), none, true⟩
          .nil))))), (.cons ⟨(some 13), .fa 0 (.t 3), none, false⟩
          (.cons ⟨(some 12), .appv 27 2 16 (.t 9) (.t 11), none, true⟩
          (.cons ⟨none, .st 1 (.t 13) (.t 8), none, true⟩
          (.cons ⟨(some 14), .fa 4 (.t 3), none, true⟩
          (.cons ⟨none, .st 1 (.t 14) (.t 12), none, true⟩
          .nil)))))])))]))]))), (.cons ⟨(some 10), .fa 4 (.t 1), none, false⟩
    (.br [(.cons ⟨(some 5), .bsl 56 2 [], none, false⟩
      (.br [(.cons ⟨(some 8), .appv 56 2 16 (.t 5) (.t 7), none, true⟩
        (.cons ⟨(some 9), .bsl 27 2 [], none, false⟩
        (.cons ⟨(some 11), .ld true 1 (.t 10), none, false⟩
        (.br [(.cons ⟨(some 12), .appv 27 2 16 (.t 9) (.t 11), none, true⟩
          (.cons ⟨(some 13), .fa 0 (.t 3), none, false⟩
          (.cons ⟨none, .st 1 (.t 13) (.t 8), none, true⟩
          (.cons ⟨(some 14), .fa 4 (.t 3), none, true⟩
          (.cons ⟨none, .st 1 (.t 14) (.t 12), none, true⟩
          .nil))))), (.cons ⟨(some 13), .fa 0 (.t 3), none, false⟩
          (.cons ⟨(some 12), .appv 27 2 16 (.t 9) (.t 11), none, true⟩
          (.cons ⟨none, .st 1 (.t 13) (.t 8), none, true⟩
          (.cons ⟨(some 14), .fa 4 (.t 3), none, true⟩
          (.cons ⟨none, .st 1 (.t 14) (.t 12), none, true⟩
          .nil)))))])))), (.cons ⟨(some 9), .bsl 27 2 [], none, false⟩
        (.br [(.cons ⟨(some 8), .appv 56 2 16 (.t 5) (.t 7), none, true⟩
          (.cons ⟨(some 11), .ld true 1 (.t 10), none, false⟩
          (.br [(.cons ⟨(some 12), .appv 27 2 16 (.t 9) (.t 11), none, true⟩
            (.cons ⟨(some 13), .fa 0 (.t 3), none, false⟩
            (.cons ⟨none, .st 1 (.t 13) (.t 8), none, true⟩
            (.cons ⟨(some 14), .fa 4 (.t 3), none, true⟩
            (.cons ⟨none, .st 1 (.t 14) (.t 12), none, true⟩
            .nil))))), (.cons ⟨(some 13), .fa 0 (.t 3), none, false⟩
            (.cons ⟨(some 12), .appv 27 2 16 (.t 9) (.t 11), none, true⟩
            (.cons ⟨none, .st 1 (.t 13) (.t 8), none, true⟩
            (.cons ⟨(some 14), .fa 4 (.t 3), none, true⟩
            (.cons ⟨none, .st 1 (.t 14) (.t 12), none, true⟩
            .nil)))))]))), (.cons ⟨(some 11), .ld true 1 (.t 10), none, false⟩
          (.cons ⟨(some 8), .appv 56 2 16 (.t 5) (.t 7), none, true⟩
          (.br [(.cons ⟨(some 12), .appv 27 2 16 (.t 9) (.t 11), none, true⟩
            (.cons ⟨(some 13), .fa 0 (.t 3), none, false⟩
            (.cons ⟨none, .st 1 (.t 13) (.t 8), none, true⟩
            (.cons ⟨(some 14), .fa 4 (.t 3), none, true⟩
            (.cons ⟨none, .st 1 (.t 14) (.t 12), none, true⟩
            .nil))))), (.cons ⟨(some 13), .fa 0 (.t 3), none, false⟩
            (.cons ⟨(some 12), .appv 27 2 16 (.t 9) (.t 11), none, true⟩
            (.cons ⟨none, .st 1 (.t 13) (.t 8), none, true⟩
            (.cons ⟨(some 14), .fa 4 (.t 3), none, true⟩
            (.cons ⟨none, .st 1 (.t 14) (.t 12), none, true⟩
            .nil)))))])))])), (.cons ⟨(some 11), .ld true 1 (.t 10), none, false⟩
        (.br [(.cons ⟨(some 8), .appv 56 2 16 (.t 5) (.t 7), none, true⟩
          (.cons ⟨(some 9), .bsl 27 2 [], none, false⟩
          (.br [(.cons ⟨(some 12), .appv 27 2 16 (.t 9) (.t 11), none, true⟩
            (.cons ⟨(some 13), .fa 0 (.t 3), none, false⟩
            (.cons ⟨none, .st 1 (.t 13) (.t 8), none, true⟩
            (.cons ⟨(some 14), .fa 4 (.t 3), none, true⟩
            (.cons ⟨none, .st 1 (.t 14) (.t 12), none, true⟩
            .nil))))), (.cons ⟨(some 13), .fa 0 (.t 3), none, false⟩
            (.cons ⟨(some 12), .appv 27 2 16 (.t 9) (.t 11), none, true⟩
            (.cons ⟨none, .st 1 (.t 13) (.t 8), none, true⟩
            (.cons ⟨(some 14), .fa 4 (.t 3), none, true⟩
            (.cons ⟨none, .st 1 (.t 14) (.t 12), none, true⟩
            .nil)))))]))), (.cons ⟨(some 9), .bsl 27 2 [], none, false⟩
          (.cons ⟨(some 8), .appv 56 2 16 (.t 5) (.t 7), none, true⟩
          (.br [(.cons ⟨(some 12), .appv 27 2 16 (.t 9) (.t 11), none, true⟩
            (.cons ⟨(some 13), .fa 0 (.t 3), none, false⟩
            (.cons ⟨none, .st 1 (.t 13) (.t 8), none, true⟩
            (.cons ⟨(some 14), .fa 4 (.t 3), none, true⟩
            (.cons ⟨none, .st 1 (.t 14) (.t 12), none, true⟩
            .nil))))), (.cons ⟨(some 13), .fa 0 (.t 3), none, false⟩
            (.cons ⟨(some 12), .appv 27 2 16 (.t 9) (.t 11), none, true⟩
            (.cons ⟨none, .st 1 (.t 13) (.t 8), none, true⟩
            (.cons ⟨(some 14), .fa 4 (.t 3), none, true⟩
            (.cons ⟨none, .st 1 (.t 14) (.t 12), none, true⟩
            .nil)))))])))]))])), (.cons ⟨(some 9), .bsl 27 2 [], none, false⟩
      (.cons ⟨(some 5), .bsl 56 2 [], none, false⟩
      (.br [(.cons ⟨(some 8), .appv 56 2 16 (.t 5) (.t 7), none, true⟩
        (.cons ⟨(some 11), .ld true 1 (.t 10), none, false⟩
        (.br [(.cons ⟨(some 12), .appv 27 2 16 (.t 9) (.t 11), none, true⟩
          (.cons ⟨(some 13), .fa 0 (.t 3), none, false⟩
          (.cons ⟨none, .st 1 (.t 13) (.t 8), none, true⟩
          (.cons ⟨(some 14), .fa 4 (.t 3), none, true⟩
          (.cons ⟨none, .st 1 (.t 14) (.t 12), none, true⟩
          .nil))))), (.cons ⟨(some 13), .fa 0 (.t 3), none, false⟩
          (.cons ⟨(some 12), .appv 27 2 16 (.t 9) (.t 11), none, true⟩
          (.cons ⟨none, .st 1 (.t 13) (.t 8), none, true⟩
          (.cons ⟨(some 14), .fa 4 (.t 3), none, true⟩
          (.cons ⟨none, .st 1 (.t 14) (.t 12), none, true⟩
          .nil)))))]))), (.cons ⟨(some 11), .ld true 1 (.t 10), none, false⟩
        (.cons ⟨(some 8), .appv 56 2 16 (.t 5) (.t 7), none, true⟩
        (.br [(.cons ⟨(some 12), .appv 27 2 16 (.t 9) (.t 11), none, true⟩
          (.cons ⟨(some 13), .fa 0 (.t 3), none, false⟩
          (.cons ⟨none, .st 1 (.t 13) (.t 8), none, true⟩
          (.cons ⟨(some 14), .fa 4 (.t 3), none, true⟩
          (.cons ⟨none, .st 1 (.t 14) (.t 12), none, true⟩
          .nil))))), (.cons ⟨(some 13), .fa 0 (.t 3), none, false⟩
          (.cons ⟨(some 12), .appv 27 2 16 (.t 9) (.t 11), none, true⟩
          (.cons ⟨none, .st 1 (.t 13) (.t 8), none, true⟩
          (.cons ⟨(some 14), .fa 4 (.t 3), none, true⟩
          (.cons ⟨none, .st 1 (.t 14) (.t 12), none, true⟩
          .nil)))))])))]))), (.cons ⟨(some 11), .ld true 1 (.t 10), none, false⟩
      (.br [(.cons ⟨(some 5), .bsl 56 2 [], none, false⟩
        (.br [(.cons ⟨(some 8), .appv 56 2 16 (.t 5) (.t 7), none, true⟩
          (.cons ⟨(some 9), .bsl 27 2 [], none, false⟩
          (.br [(.cons ⟨(some 12), .appv 27 2 16 (.t 9) (.t 11), none, true⟩
            (.cons ⟨(some 13), .fa 0 (.t 3), none, false⟩
            (.cons ⟨none, .st 1 (.t 13) (.t 8), none, true⟩
            (.cons ⟨(some 14), .fa 4 (.t 3), none, true⟩
            (.cons ⟨none, .st 1 (.t 14) (.t 12), none, true⟩
            .nil))))), (.cons ⟨(some 13), .fa 0 (.t 3), none, false⟩
            (.cons ⟨(some 12), .appv 27 2 16 (.t 9) (.t 11), none, true⟩
            (.cons ⟨none, .st 1 (.t 13) (.t 8), none, true⟩
            (.cons ⟨(some 14), .fa 4 (.t 3), none, true⟩
            (.cons ⟨none, .st 1 (.t 14) (.t 12), none, true⟩
            .nil)))))]))), (.cons ⟨(some 9), .bsl 27 2 [], none, false⟩
          (.cons ⟨(some 8), .appv 56 2 16 (.t 5) (.t 7), none, true⟩
          (.br [(.cons ⟨(some 12), .appv 27 2 16 (.t 9) (.t 11), none, true⟩
            (.cons ⟨(some 13), .fa 0 (.t 3), none, false⟩
            (.cons ⟨none, .st 1 (.t 13) (.t 8), none, true⟩
            (.cons ⟨(some 14), .fa 4 (.t 3), none, true⟩
            (.cons ⟨none, .st 1 (.t 14) (.t 12), none, true⟩
            .nil))))), (.cons ⟨(some 13), .fa 0 (.t 3), none, false⟩
            (.cons ⟨(some 12), .appv 27 2 16 (.t 9) (.t 11), none, true⟩
            (.cons ⟨none, .st 1 (.t 13) (.t 8), none, true⟩
            (.cons ⟨(some 14), .fa 4 (.t 3), none, true⟩
            (.cons ⟨none, .st 1 (.t 14) (.t 12), none, true⟩
            .nil)))))])))])), (.cons ⟨(some 9), .bsl 27 2 [], none, false⟩
        (.cons ⟨(some 5), .bsl 56 2 [], none, false⟩
        (.cons ⟨(some 8), .appv 56 2 16 (.t 5) (.t 7), none, true⟩
        (.br [(.cons ⟨(some 12), .appv 27 2 16 (.t 9) (.t 11), none, true⟩
          (.cons ⟨(some 13), .fa 0 (.t 3), none, false⟩
          (.cons ⟨none, .st 1 (.t 13) (.t 8), none, true⟩
          (.cons ⟨(some 14), .fa 4 (.t 3), none, true⟩
          (.cons ⟨none, .st 1 (.t 14) (.t 12), none, true⟩
          .nil))))), (.cons ⟨(some 13), .fa 0 (.t 3), none, false⟩
          (.cons ⟨(some 12), .appv 27 2 16 (.t 9) (.t 11), none, true⟩
          (.cons ⟨none, .st 1 (.t 13) (.t 8), none, true⟩
          (.cons ⟨(some 14), .fa 4 (.t 3), none, true⟩
          (.cons ⟨none, .st 1 (.t 14) (.t 12), none, true⟩
          .nil)))))]))))]))]))])))
@[reducible] def o20_3 : List Ins := [⟨(some 15), .ld false 5 (.t 3), none, true⟩,
  ⟨none, .st 5 (.t 2) (.t 15), none, true⟩]
@[reducible] def v20_4 : VC := (.seq (.ops o20_3) .ret)
@[reducible] def v20_5 : VC := (.seq (.drw t20_2) v20_4)
@[reducible] def v20_6 : VC := (.seq (.ops o20_1) v20_5)
def ir20 : FC := ⟨1, 16, [.cell 2 false 5], (.seq (.ops o20_0) v20_6)⟩
theorem c20 : compM Try.prog [100008,100012] 20 = some ir20 := by kernel_rfl

end W
namespace W8
@[reducible] def o20_0 : List Ins := [⟨(some 1), .box 5 (.t 0), none, true⟩,
  ⟨(some 2), .alloc [(.c (.raw (.slice none 0 0))), (.c (.int .i64 0)), (.c (.int .i64 0)), (.c (.int .i64 0)), (.c (.raw (.slice none 0 0)))], none, true⟩]
@[reducible] def o20_1 : List Ins := [⟨(some 4), .ld false 5 (.t 1), none, true⟩,
  ⟨(some 3), .alloc [(.c (.raw (.slice none 0 0))), (.c (.int .i64 0)), (.c (.int .i64 0)), (.c (.int .i64 0)), (.c (.raw (.slice none 0 0)))], none, true⟩,
  ⟨none, .st 5 (.t 3) (.t 4), none, true⟩]
@[reducible] def t20_2 : OT := (.cons ⟨(some 6), .fa 0 (.t 1), none, false⟩
  (.cons ⟨(some 7), .ld true 1 (.t 6), none, false⟩
  (.br [(.cons ⟨(some 5), .bsl 56 2 [], none, false⟩
    (.br [(.cons ⟨(some 8), .appv 56 2 16 (.t 5) (.t 7), none, true⟩
      (.cons ⟨(some 9), .bsl 27 2 [], none, false⟩
      (.cons ⟨(some 10), .fa 4 (.t 1), none, false⟩
      (.cons ⟨(some 11), .ld true 1 (.t 10), none, false⟩
      (.cons ⟨(some 12), .app 27 2 16 (.t 9) (.t 11), none, false⟩
      (.cons ⟨(some 13), .fa 0 (.t 3), none, false⟩
      (.cons ⟨none, .st 1 (.t 13) (.t 8), none, true⟩
      (.cons ⟨(some 14), .fa 4 (.t 3), none, true⟩
      (.cons ⟨none, .st 1 (.t 14) (.t 12), none, true⟩
      .nil))))))))), (.cons ⟨(some 9), .bsl 27 2 [], none, false⟩
      (.br [(.cons ⟨(some 8), .appv 56 2 16 (.t 5) (.t 7), none, true⟩
        (.cons ⟨(some 10), .fa 4 (.t 1), none, false⟩
        (.cons ⟨(some 11), .ld true 1 (.t 10), none, false⟩
        (.cons ⟨(some 12), .app 27 2 16 (.t 9) (.t 11), none, false⟩
        (.cons ⟨(some 13), .fa 0 (.t 3), none, false⟩
        (.cons ⟨none, .st 1 (.t 13) (.t 8), none, true⟩
        (.cons ⟨(some 14), .fa 4 (.t 3), none, true⟩
        (.cons ⟨none, .st 1 (.t 14) (.t 12), none, true⟩
        .nil)))))))), (.cons ⟨(some 10), .fa 4 (.t 1), none, false⟩
        (.br [(.cons ⟨(some 8), .appv 56 2 16 (.t 5) (.t 7), none, true⟩
          (.cons ⟨(some 11), .ld true 1 (.t 10), none, false⟩
          (.cons ⟨(some 12), .app 27 2 16 (.t 9) (.t 11), none, false⟩
          (.cons ⟨(some 13), .fa 0 (.t 3), none, false⟩
          (.cons ⟨none, .st 1 (.t 13) (.t 8), none, true⟩
          (.cons ⟨(some 14), .fa 4 (.t 3), none, true⟩
          (.cons ⟨none, .st 1 (.t 14) (.t 12), none, true⟩
          .nil))))))), (.cons ⟨(some 11), .ld true 1 (.t 10), none, false⟩
          (.cons ⟨(some 8), .appv 56 2 16 (.t 5) (.t 7), none, true⟩
          (.cons ⟨(some 12), .app 27 2 16 (.t 9) (.t 11), none, false⟩
          (.cons ⟨(some 13), .fa 0 (.t 3), none, false⟩
          (.cons ⟨none, .st 1 (.t 13) (.t 8), none, true⟩
          (.cons ⟨(some 14), .fa 4 (.t 3), none, true⟩
          (.cons ⟨none, .st 1 (.t 14) (.t 12), none, true⟩
          .nil)))))))]))])), (.cons ⟨(some 10), .fa 4 (.t 1), none, false⟩
      (.br [(.cons ⟨(some 8), .appv 56 2 16 (.t 5) (.t 7), none, true⟩
        (.cons ⟨(some 9), .bsl 27 2 [], none, false⟩
        (.cons ⟨(some 11), .ld true 1 (.t 10), none, false⟩
        (.cons ⟨(some 12), .app 27 2 16 (.t 9) (.t 11), none, false⟩
        (.cons ⟨(some 13), .fa 0 (.t 3), none, false⟩
        (.cons ⟨none, .st 1 (.t 13) (.t 8), none, true⟩
        (.cons ⟨(some 14), .fa 4 (.t 3), none, true⟩
        (.cons ⟨none, .st 1 (.t 14) (.t 12), none, true⟩
        .nil)))))))), (.cons ⟨(some 9), .bsl 27 2 [], none, false⟩
        (.br [(.cons ⟨(some 8), .appv 56 2 16 (.t 5) (.t 7), none, true⟩
          (.cons ⟨(some 11), .ld true 1 (.t 10), none, false⟩
          (.cons ⟨(some 12), .app 27 2 16 (.t 9) (.t 11), none, false⟩
          (.cons ⟨(some 13), .fa 0 (.t 3), none, false⟩
          (.cons ⟨none, .st 1 (.t 13) (.t 8), none, true⟩
          (.cons ⟨(some 14), .fa 4 (.t 3), none, true⟩
          (.cons ⟨none, .st 1 (.t 14) (.t 12), none, true⟩
          .nil))))))), (.cons ⟨(some 11), .ld true 1 (.t 10), none, false⟩
          (.cons ⟨(some 8), .appv 56 2 16 (.t 5) (.t 7), none, true⟩
          (.cons ⟨(some 12), .app 27 2 16 (.t 9) (.t 11), none, false⟩
          (.cons ⟨(some 13), .fa 0 (.t 3), none, false⟩
          (.cons ⟨none, .st 1 (.t 13) (.t 8), none, true⟩
          (.cons ⟨(some 14), .fa 4 (.t 3), none, true⟩
          (.cons ⟨none, .st 1 (.t 14) (.t 12), none, true⟩
          .nil)))))))])), (.cons ⟨(some 11), .ld true 1 (.t 10), none, false⟩
        (.br [(.cons ⟨(some 8), .appv 56 2 16 (.t 5) (.t 7), none, true⟩
          (.cons ⟨(some 9), .bsl 27 2 [], none, false⟩
          (.cons ⟨(some 12), .app 27 2 16 (.t 9) (.t 11), none, false⟩
          (.cons ⟨(some 13), .fa 0 (.t 3), none, false⟩
          (.cons ⟨none, .st 1 (.t 13) (.t 8), none, true⟩
          (.cons ⟨(some 14), .fa 4 (.t 3), none, true⟩
          (.cons ⟨none, .st 1 (.t 14) (.t 12), none, true⟩
          .nil))))))), (.cons ⟨(some 9), .bsl 27 2 [], none, false⟩
          (.cons ⟨(some 8), .appv 56 2 16 (.t 5) (.t 7), none, true⟩
          (.cons ⟨(some 12), .app 27 2 16 (.t 9) (.t 11), none, false⟩
          (.cons ⟨(some 13), .fa 0 (.t 3), none, false⟩
          (.cons ⟨none, .st 1 (.t 13) (.t 8), none, true⟩
          (.cons ⟨(some 14), .fa 4 (.t 3), none, true⟩
          (.cons ⟨none, .st 1 (.t 14) (.t 12), none, true⟩
          .nil)))))))]))]))])), (.cons ⟨(some 9), .bsl 27 2 [], none, false⟩
    (.cons ⟨(some 5), .bsl 56 2 [], none, false⟩
    (.br [(.cons ⟨(some 8), .appv 56 2 16 (.t 5) (.t 7), none, true⟩
      (.cons ⟨(some 10), .fa 4 (.t 1), none, false⟩
      (.cons ⟨(some 11), .ld true 1 (.t 10), none, false⟩
      (.cons ⟨(some 12), .app 27 2 16 (.t 9) (.t 11), none, false⟩
      (.cons ⟨(some 13), .fa 0 (.t 3), none, false⟩
      (.cons ⟨none, .st 1 (.t 13) (.t 8), none, true⟩
      (.cons ⟨(some 14), .fa 4 (.t 3), none, true⟩
      (.cons ⟨none, .st 1 (.t 14) (.t 12), none, true⟩
      .nil)))))))), (.cons ⟨(some 10), .fa 4 (.t 1), none, false⟩
      (.br [(.cons ⟨(some 8), .appv 56 2 16 (.t 5) (.t 7), none, true⟩
        (.cons ⟨(some 11), .ld true 1 (.t 10), none, false⟩
        (.cons ⟨(some 12), .app 27 2 16 (.t 9) (.t 11), none, false⟩
        (.cons ⟨(some 13), .fa 0 (.t 3), none, false⟩
        (.cons ⟨none, .st 1 (.t 13) (.t 8), none, true⟩
        (.cons ⟨(some 14), .fa 4 (.t 3), none, true⟩
        (.cons ⟨none, .st 1 (.t 14) (.t 12), none, true⟩
        .nil))))))), (.cons ⟨(some 11), .ld true 1 (.t 10), none, false⟩
        (.cons ⟨(some 8), .appv 56 2 16 (.t 5) (.t 7), none, true⟩
        (.cons ⟨(some 12), .app 27 2 16 (.t 9) (.t 11), none, false⟩
        (.cons ⟨(some 13), .fa 0 (.t 3), none, false⟩
        (.cons ⟨none, .st 1 (.t 13) (.t 8), none, true⟩
        (.cons ⟨(some 14), .fa 4 (.t 3), none, true⟩
        (.cons ⟨none, .st 1 (.t 14) (.t 12), none, true⟩
        .nil)))))))]))]))), (.cons ⟨(some 10), .fa 4 (.t 1), none, false⟩
    (.br [(.cons ⟨(some 5), .bsl 56 2 [], none, false⟩
      (.br [(.cons ⟨(some 8), .appv 56 2 16 (.t 5) (.t 7), none, true⟩
        (.cons ⟨(some 9), .bsl 27 2 [], none, false⟩
        (.cons ⟨(some 11), .ld true 1 (.t 10), none, false⟩
        (.cons ⟨(some 12), .app 27 2 16 (.t 9) (.t 11), none, false⟩
        (.cons ⟨(some 13), .fa 0 (.t 3), none, false⟩
        (.cons ⟨none, .st 1 (.t 13) (.t 8), none, true⟩
        (.cons ⟨(some 14), .fa 4 (.t 3), none, true⟩
        (.cons ⟨none, .st 1 (.t 14) (.t 12), none, true⟩
        .nil)))))))), (.cons ⟨(some 9), .bsl 27 2 [], none, false⟩
        (.br [(.cons ⟨(some 8), .appv 56 2 16 (.t 5) (.t 7), none, true⟩
          (.cons ⟨(some 11), .ld true 1 (.t 10), none, false⟩
          (.cons ⟨(some 12), .app 27 2 16 (.t 9) (.t 11), none, false⟩
          (.cons ⟨(some 13), .fa 0 (.t 3), none, false⟩
          (.cons ⟨none, .st 1 (.t 13) (.t 8), none, true⟩
          (.cons ⟨(some 14), .fa 4 (.t 3), none, true⟩
          (.cons ⟨none, .st 1 (.t 14) (.t 12), none, true⟩
          .nil))))))), (.cons ⟨(some 11), .ld true 1 (.t 10), none, false⟩
          (.cons ⟨(some 8), .appv 56 2 16 (.t 5) (.t 7), none, true⟩
          (.cons ⟨(some 12), .app 27 2 16 (.t 9) (.t 11), none, false⟩
          (.cons ⟨(some 13), .fa 0 (.t 3), none, false⟩
          (.cons ⟨none, .st 1 (.t 13) (.t 8), none, true⟩
          (.cons ⟨(some 14), .fa 4 (.t 3), none, true⟩
          (.cons ⟨none, .st 1 (.t 14) (.t 12), none, true⟩
          .nil)))))))])), (.cons ⟨(some 11), .ld true 1 (.t 10), none, false⟩
        (.br [(.cons ⟨(some 8), .appv 56 2 16 (.t 5) (.t 7), none, true⟩
          (.cons ⟨(some 9), .bsl 27 2 [], none, false⟩
          (.cons ⟨(some 12), .app 27 2 16 (.t 9) (.t 11), none, false⟩
          (.cons ⟨(some 13), .fa 0 (.t 3), none, false⟩
          (.cons ⟨none, .st 1 (.t 13) (.t 8), none, true⟩
          (.cons ⟨(some 14), .fa 4 (.t 3), none, true⟩
          (.cons ⟨none, .st 1 (.t 14) (.t 12), none, true⟩
          .nil))))))), (.cons ⟨(some 9), .bsl 27 2 [], none, false⟩
          (.cons ⟨(some 8), .appv 56 2 16 (.t 5) (.t 7), none, true⟩
          (.cons ⟨(some 12), .app 27 2 16 (.t 9) (.t 11), none, false⟩
          (.cons ⟨(some 13), .fa 0 (.t 3), none, false⟩
          (.cons ⟨none, .st 1 (.t 13) (.t 8), none, true⟩
          (.cons ⟨(some 14), .fa 4 (.t 3), none, true⟩
          (.cons ⟨none, .st 1 (.t 14) (.t 12), none, true⟩
          .nil)))))))]))])), (.cons ⟨(some 9), .bsl 27 2 [], none, false⟩
      (.cons ⟨(some 5), .bsl 56 2 [], none, false⟩
      (.br [(.cons ⟨(some 8), .appv 56 2 16 (.t 5) (.t 7), none, true⟩
        (.cons ⟨(some 11), .ld true 1 (.t 10), none, false⟩
        (.cons ⟨(some 12), .app 27 2 16 (.t 9) (.t 11), none, false⟩
        (.cons ⟨(some 13), .fa 0 (.t 3), none, false⟩
        (.cons ⟨none, .st 1 (.t 13) (.t 8), none, true⟩
        (.cons ⟨(some 14), .fa 4 (.t 3), none, true⟩
        (.cons ⟨none, .st 1 (.t 14) (.t 12), none, true⟩
        .nil))))))), (.cons ⟨(some 11), .ld true 1 (.t 10), none, false⟩
        (.cons ⟨(some 8), .appv 56 2 16 (.t 5) (.t 7), none, true⟩
        (.cons ⟨(some 12), .app 27 2 16 (.t 9) (.t 11), none, false⟩
        (.cons ⟨(some 13), .fa 0 (.t 3), none, false⟩
        (.cons ⟨none, .st 1 (.t 13) (.t 8), none, true⟩
        (.cons ⟨(some 14), .fa 4 (.t 3), none, true⟩
        (.cons ⟨none, .st 1 (.t 14) (.t 12), none, true⟩
        .nil)))))))]))), (.cons ⟨(some 11), .ld true 1 (.t 10), none, false⟩
      (.br [(.cons ⟨(some 5), .bsl 56 2 [], none, false⟩
        (.br [(.cons ⟨(some 8), .appv 56 2 16 (.t 5) (.t 7), none, true⟩
          (.cons ⟨(some 9), .bsl 27 2 [], none, false⟩
          (.cons ⟨(some 12), .app 27 2 16 (.t 9) (.t 11), none, false⟩
          (.cons ⟨(some 13), .fa 0 (.t 3), none, false⟩
          (.cons ⟨none, .st 1 (.t 13) (.t 8), none, true⟩
          (.cons ⟨(some 14), .fa 4 (.t 3), none, true⟩
          (.cons ⟨none, .st 1 (.t 14) (.t 12), none, true⟩
          .nil))))))), (.cons ⟨(some 9), .bsl 27 2 [], none, false⟩
          (.cons ⟨(some 8), .appv 56 2 16 (.t 5) (.t 7), none, true⟩
          (.cons ⟨(some 12), .app 27 2 16 (.t 9) (.t 11), none, false⟩
          (.cons ⟨(some 13), .fa 0 (.t 3), none, false⟩
          (.cons ⟨none, .st 1 (.t 13) (.t 8), none, true⟩
          (.cons ⟨(some 14), .fa 4 (.t 3), none, true⟩
          (.cons ⟨none, .st 1 (.t 14) (.t 12), none, true⟩
          .nil)))))))])), (.cons ⟨(some 9), .bsl 27 2 [], none, false⟩
        (.cons ⟨(some 5), .bsl 56 2 [], none, false⟩
        (.cons ⟨(some 8), .appv 56 2 16 (.t 5) (.t 7), none, true⟩
        (.cons ⟨(some 12), .app 27 2 16 (.t 9) (.t 11), none, false⟩
        (.cons ⟨(some 13), .fa 0 (.t 3), none, false⟩
        (.cons ⟨none, .st 1 (.t 13) (.t 8), none, true⟩
        (.cons ⟨(some 14), .fa 4 (.t 3), none, true⟩
        (.cons ⟨none, .st 1 (.t 14) (.t 12), none, true⟩
        .nil))))))))]))]))])))
@[reducible] def o20_3 : List Ins := [⟨(some 15), .ld false 5 (.t 3), none, true⟩,
  ⟨none, .st 5 (.t 2) (.t 15), none, true⟩]
@[reducible] def v20_4 : VC := (.seq (.ops o20_3) .ret)
@[reducible] def v20_5 : VC := (.seq (.drw t20_2) v20_4)
@[reducible] def v20_6 : VC := (.seq (.ops o20_1) v20_5)
def ir20 : FC := ⟨1, 16, [.cell 2 false 5], (.seq (.ops o20_0) v20_6)⟩
theorem c20 : compM Try.prog [100008] 20 = some ir20 := by kernel_rfl

end W8


/-- A copy whose records and presses may be written. -/
def copyB (t : Tray) (res : AV) (os : List Ob) : Prop := ∃ cap j y o, t.recs.length ≤ cap ∧ cap ≤ maxLen ∧ cap * 2 ≤ t.recs.length * 2 + j ∧ res = .agg [.vw 2 1000 0 t.recs.length cap, iv t.at_, iv t.way, iv t.step, y] ∧ os = [.box (cellsG Rec.cds t.recs j), o] ∧
  ((t.pres = [] ∧ y = .gr 1001 ∧ o = .grow 27 2 []) ∨ (t.pres ≠ [] ∧ ∃ cap2 j2, t.pres.length ≤ cap2 ∧ cap2 ≤ maxLen ∧ cap2 * 2 ≤ t.pres.length * 2 + j2 ∧ y = .vw 2 1001 0 t.pres.length cap2 ∧ o = .box (cellsG Pr.cds t.pres j2)))
theorem recs_cells (l : List Rec) (j : Nat) : List.map AV.c (List.map Rec.cds l).flatten ++ List.replicate j AV.non = cellsG Rec.cds l j := rfl
theorem prs_cells (l : List Pr) (j : Nat) : List.map AV.c (List.map Pr.cds l).flatten ++ List.replicate j AV.non = cellsG Pr.cds l j := rfl
set_option maxRecDepth 20000 in
set_option maxHeartbeats 8000000 in
theorem copyE (t : Tray) (h0 : t.recs ≠ []) (hn : t.recs.length ≤ 1000) (hp : t.pres = []) : FSpecN Try.prog 20 [t.av] (copyB t) := by
  have hmax : maxLen = 9223372036854775807 := rfl
  have hl0 : (t.recs.length = 0) = False := by simpa using h0
  refine FSpecN_of W8.c20 (Nat.le_refl _) (by decide) fun C hP hN hC hL => ?_
  simp only [W8.ir20, Tray.av, hp]
  (repeat ((first | refine WV_seq_ ?_ | refine WV_block ?_ | refine WV_ops ?_ | refine WV_skip ?_ | refine WV_exit ?_); (try simp only [go_sem, init_env', Nat.reduceEqDiff, Nat.reduceAdd, Nat.reduceMul, reduceIte, Nat.reduceLeDiff, Nat.reduceLT, Nat.reduceBEq, reduceCtorEq, hP, ]); (repeat (refine And.intro (by first | omega | (intros; simp_all; done) | (intros; simp_all; omega)) ?_))))
  (refine WV_drw ?_; simp only [go_sem, init_env', Nat.reduceEqDiff, Nat.reduceAdd, Nat.reduceMul, reduceIte, Nat.reduceLeDiff, Nat.reduceLT, Nat.reduceBEq, reduceCtorEq, hP, recsC, prsC, recs_two, prs_two, List.nil_append, List.length_nil, List.length_map, List.map_nil, List.all_nil, hl0]; (repeat' (refine And.intro ?_ ?_)))
  all_goals try omega
  all_goals
    intro cap j q1 q2 q3
    (repeat ((first | refine WV_seq_ ?_ | refine WV_block ?_ | refine WV_ops ?_ | refine WV_skip ?_ | refine WV_exit ?_); (try simp only [go_sem, init_env', Nat.reduceEqDiff, Nat.reduceAdd, Nat.reduceMul, reduceIte, Nat.reduceLeDiff, Nat.reduceLT, Nat.reduceBEq, reduceCtorEq, hP, recsC, prsC, recs_two, prs_two, List.nil_append, List.length_nil, List.length_map, List.map_nil, List.all_nil]); (repeat (refine And.intro (by first | omega | (intros; simp_all; done) | (intros; simp_all; omega)) ?_))))
    (refine WV_ret ?_; simp only [thenQ, inQ, RetQN, RetOkN, resAll, resA]; simp only [go_sem, init_env', Nat.reduceEqDiff, Nat.reduceAdd, Nat.reduceMul, reduceIte, Nat.reduceLeDiff, Nat.reduceLT, Nat.reduceBEq, reduceCtorEq, tupA, ])
    refine ⟨[8, 12], .agg [.vw 2 1000 0 t.recs.length cap, iv t.at_, iv t.way, iv t.step, .gr 1001], _, [.box (cellsG Rec.cds t.recs j), .grow 27 2 []], by decide, by decide, rfl, AVle.of rfl, ?_, cap, j, _, _, q1, q2, q3, rfl, rfl, .inl ⟨hp, rfl, rfl⟩⟩
    simp only [go_sem, init_env', Nat.reduceEqDiff, Nat.reduceAdd, Nat.reduceMul, reduceIte, Nat.reduceLeDiff, Nat.reduceLT, Nat.reduceBEq, reduceCtorEq, obsLend, Ob.lend, recs_cells, prs_cells, prg_cellsG, lend_cellsG]
set_option maxRecDepth 20000 in
set_option maxHeartbeats 8000000 in
theorem copyV (t : Tray) (h0 : t.recs ≠ []) (hn : t.recs.length ≤ 1000) (hp : t.pres.length ≤ 1000) : FSpecN Try.prog 20 [t.av] (copyB t) := by
  have hmax : maxLen = 9223372036854775807 := rfl
  by_cases hpn : t.pres = []
  · exact copyE t h0 hn hpn
  have hl0 : (t.recs.length = 0) = False := by simpa using h0
  have hl1 : (t.pres.length = 0) = False := by simpa using hpn
  refine FSpecN_of W.c20 (Nat.le_refl _) (by decide) fun C hP hN hC hL => ?_
  simp only [W.ir20, Tray.av]
  (repeat ((first | refine WV_seq_ ?_ | refine WV_block ?_ | refine WV_ops ?_ | refine WV_skip ?_ | refine WV_exit ?_); (try simp only [go_sem, init_env', Nat.reduceEqDiff, Nat.reduceAdd, Nat.reduceMul, reduceIte, Nat.reduceLeDiff, Nat.reduceLT, Nat.reduceBEq, reduceCtorEq, hP, ]); (repeat (refine And.intro (by first | omega | (intros; simp_all; done) | (intros; simp_all; omega)) ?_))))
  (refine WV_drw ?_; simp only [go_sem, init_env', Nat.reduceEqDiff, Nat.reduceAdd, Nat.reduceMul, reduceIte, Nat.reduceLeDiff, Nat.reduceLT, Nat.reduceBEq, reduceCtorEq, hP, recsC, prsC, recs_two, prs_two, List.nil_append, List.length_nil, List.length_map, hl0, hl1]; (repeat' (refine And.intro ?_ ?_)))
  all_goals try omega
  all_goals
    intro cap j q1 q2 q3
    (repeat' (refine And.intro ?_ ?_))
  all_goals try omega
  all_goals
    intro cap2 j2 r1 r2 r3
    (repeat ((first | refine WV_seq_ ?_ | refine WV_block ?_ | refine WV_ops ?_ | refine WV_skip ?_ | refine WV_exit ?_); (try simp only [go_sem, init_env', Nat.reduceEqDiff, Nat.reduceAdd, Nat.reduceMul, reduceIte, Nat.reduceLeDiff, Nat.reduceLT, Nat.reduceBEq, reduceCtorEq, hP, recsC, prsC, recs_two, prs_two, List.nil_append, List.length_nil, List.length_map]); (repeat (refine And.intro (by first | omega | (intros; simp_all; done) | (intros; simp_all; omega)) ?_))))
    (refine WV_ret ?_; simp only [thenQ, inQ, RetQN, RetOkN, resAll, resA]; simp only [go_sem, init_env', Nat.reduceEqDiff, Nat.reduceAdd, Nat.reduceMul, reduceIte, Nat.reduceLeDiff, Nat.reduceLT, Nat.reduceBEq, reduceCtorEq, tupA, ])
    refine ⟨[8, 12], .agg [.vw 2 1000 0 t.recs.length cap, iv t.at_, iv t.way, iv t.step, .vw 2 1001 0 t.pres.length cap2], _, [.box (cellsG Rec.cds t.recs j), .box (cellsG Pr.cds t.pres j2)], by decide, by decide, rfl, AVle.of rfl, ?_, cap, j, _, _, q1, q2, q3, rfl, rfl, .inr ⟨hpn, cap2, j2, r1, r2, r3, rfl, rfl⟩⟩
    simp only [go_sem, init_env', Nat.reduceEqDiff, Nat.reduceAdd, Nat.reduceMul, reduceIte, Nat.reduceLeDiff, Nat.reduceLT, Nat.reduceBEq, reduceCtorEq, obsLend, Ob.lend, recs_cells, prs_cells, prg_cellsG, lend_cellsG]
end Go.Proofs.Ytkpgpgaojjobgaa

/-
  The turned tray: plain.
-/
namespace Go.Proofs.Ytkpgpgaojjobgaa
open Go Go.V

end Go.Proofs.Ytkpgpgaojjobgaa

/-
  The specification's run, by its events: plain.
-/
namespace Go.Proofs.Ytkpgpgaojjobgaa
open Go Go.V

structure Ev where
  from_ : Int
  to_ : Int
  at_ : Int
  way : Int
  side : Int
  deriving DecidableEq, Inhabited
def Ev.cds (e : Ev) : List CD := [.int .i64 e.from_, .int .i64 e.to_, .int .i64 e.at_, .int .i64 e.way, .int .i64 e.side]
/-! ### The presses that set their pins -/
def Tray.prN (t : Tray) (k : Nat) : Pr := t.pres.getD k default
theorem getD_set_ne {l : List Bool} {i k : Nat} (h : i ≠ k) (b : Bool) : (l.set i b).getD k false = l.getD k false := by
  rw [List.getD_eq_getElem?_getD, List.getElem?_set, if_neg h, ← List.getD_eq_getElem?_getD]
theorem getD_set_eq {l : List Bool} {k : Nat} (h : k < l.length) (b : Bool) : (l.set k b).getD k false = b := by
  rw [List.getD_eq_getElem?_getD, List.getElem?_set, if_pos rfl, if_pos h]; rfl
/-- The presses that have not set their pins. -/
def uns (t : Tray) (S : List Bool) : List Pr := ((List.range t.pres.length).filter fun i => !S.getD i false).map t.prN
structure RelR (t : Tray) (s : Cs) (S : List Bool) (P : List Int) : Prop where
  len : S.length = t.pres.length
  q : s.q.Perm (uns t S)
  pins : ∀ k : Nat, s.pins.getD k false = P.contains (k : Int)
  rng : ∀ x ∈ P, 0 ≤ x ∧ x < 2 * (t.n : Int)
  cnt : P.length + S.countP (!·) ≤ t.pres.length
theorem RelR.play {t : Tray} {s : Cs} (hs : CsOk t s) {S : List Bool} {P : List Int} (h : RelR t s S P) : RelR t ((s.play t).next t) S (P.filter fun x => x != (s.pos : Int)) := by
  obtain ⟨c1, c2, _, _⟩ := play_pins t s
  obtain ⟨n1, n2, _, _⟩ := next_keeps t (s.play t)
  refine ⟨h.len, by rw [n1, c2]; exact h.q, fun k => ?_, fun x hx => h.rng x (List.mem_filter.1 hx).1, ?_⟩
  · rw [n2, c1]
    by_cases e : s.pos = k
    · subst e
      rw [getD_set_eq (by have := pos_lt hs; have := hs.pins; omega)]
      symm
      rw [Bool.eq_false_iff]
      intro hc
      have := (List.mem_filter.1 (List.contains_iff_mem.1 hc)).2
      simp at this
    · rw [getD_set_ne e, h.pins]
      rw [Bool.eq_iff_iff, List.contains_iff_mem, List.contains_iff_mem, List.mem_filter]
      have : ((k : Int) != (s.pos : Int)) = true := by simp; omega
      simp [this]
  · have := List.length_filter_le (fun x => x != (s.pos : Int)) P
    have := h.cnt
    omega
theorem RelR.same {t : Tray} {s : Cs} {S : List Bool} {P : List Int} (h : RelR t s S P) (hp : ¬ P.contains (s.pos : Int) = true) : P.filter (fun x => x != (s.pos : Int)) = P := by
  rw [List.filter_eq_self]
  intro x hx
  simp only [bne_iff_ne, ne_eq]
  rintro rfl
  exact hp (List.contains_iff_mem.2 hx)
theorem RelR.start {t : Tray} {q : List Pr} (hq : q.Perm t.pres) : RelR t ((start t q).mark (-1)) (List.replicate t.pres.length false) [] := by
  refine ⟨by simp, ?_, fun k => ?_, fun x hx => (by cases hx), ?_⟩
  · show q.Perm _
    have e : uns t (List.replicate t.pres.length false) = t.pres := by
      unfold uns
      rw [List.filter_eq_self.2 fun i hi => by
        have hi := List.mem_range.1 hi
        rw [List.getD_eq_getElem?_getD, List.getElem?_replicate, if_pos hi]; rfl]
      refine List.ext_getElem (by simp) fun i h1 h2 => ?_
      simp [Tray.prN, h2]
    rw [e]; exact hq
  · show (List.replicate (2 * t.n) false).getD k false = _
    rw [List.getD_eq_getElem?_getD, List.getElem?_replicate]
    split <;> rfl
  · show 0 + _ ≤ _
    rw [Nat.zero_add]
    have := List.countP_le_length (p := fun b : Bool => !b) (l := List.replicate t.pres.length false)
    simpa using this
end Go.Proofs.Ytkpgpgaojjobgaa

namespace Go.Proofs.Ytkpgpgaojjobgaa
open Go Go.V
@[reducible] def o61_0 : List Ins := [⟨(some 4), .mv (.k (.c (.bool false))), none, true⟩]
@[reducible] def o61_1 : List Ins := [⟨(some 5), .mv (.k (.c (.int .i64 0))), none, true⟩]
@[reducible] def o61_2 : List Ins := [⟨(some 6), .mv (.t 5), none, true⟩,
  ⟨(some 7), .mv (.t 0), none, true⟩,
  ⟨(some 8), .len (.t 7), none, true⟩,
  ⟨(some 9), .bin .lss (.t 6) (.t 8), none, true⟩]
@[reducible] def v61_3 : VC := (.cond (.t 9) .skip (.exit 0))
@[reducible] def o61_4 : List Ins := [⟨(some 12), .mv (.t 0), none, true⟩,
  ⟨(some 13), .mv (.t 5), none, true⟩,
  ⟨(some 14), .ia 1 (.t 12) (.t 13), none, true⟩,
  ⟨(some 15), .ld true 1 (.t 14), none, true⟩,
  ⟨(some 16), .mv (.t 1), none, true⟩,
  ⟨(some 17), .bin .eql (.t 15) (.t 16), none, true⟩]
@[reducible] def o61_5 : List Ins := [⟨(some 4), .mv (.k (.c (.bool true))), none, true⟩]
@[reducible] def v61_6 : VC := (.seq (.ops o61_5) .ret)
@[reducible] def v61_7 : VC := (.cond (.t 17) v61_6 .skip)
@[reducible] def v61_8 : VC := (.seq (.ops o61_4) v61_7)
@[reducible] def o61_9 : List Ins := [⟨(some 10), .mv (.t 5), none, true⟩,
  ⟨(some 11), .bin .add (.t 10) (.k (.c (.int .i64 1))), none, true⟩,
  ⟨(some 5), .mv (.t 11), none, true⟩]
@[reducible] def v61_10 : VC := (.seq (.block 1 v61_8) (.ops o61_9))
@[reducible] def v61_11 : VC := (.seq (.seq (.ops o61_2) v61_3) v61_10)
-- K61_1: changed and kept: [5]
@[reducible] def K61_1 : List Nat := [0, 1]
@[reducible] def v61_12 : VC := (.loop v61_11)
@[reducible] def v61_13 : VC := (.block 0 v61_12)
@[reducible] def o61_14 : List Ins := [⟨(some 4), .mv (.k (.c (.bool false))), none, true⟩]
@[reducible] def v61_15 : VC := (.seq (.ops o61_14) .ret)
@[reducible] def v61_16 : VC := (.seq (.seq (.ops o61_1) v61_13) v61_15)
def ir61 : FC := ⟨2, 18, [.t 4], (.seq (.ops o61_0) v61_16)⟩
theorem c61 : compM Try.prog [] 61 = some ir61 := by kernel_rfl
def icd (n : Int) : List CD := [.int .i64 n]
theorem in61 (l : List Int) (x : Int) (hl : l.length ≤ 1000000) : FSpec Try.prog 61 [.c (.sl 1 (l.map icd)), iv x] (bv (l.contains x)) := by
  refine FSpec_of c61 (Nat.le_refl _) (by decide) fun C hP hN hC hL => ?_
  simp only [ir61]
  (repeat ((first | refine WV_seq_ ?_ | refine WV_block ?_ | refine WV_ops ?_ | refine WV_skip ?_ | refine WV_exit ?_); (try simp only [go_sem, init_env', Nat.reduceEqDiff, Nat.reduceAdd, Nat.reduceMul, reduceIte, Nat.reduceLeDiff, Nat.reduceLT, Nat.reduceBEq, reduceCtorEq, hP, ]); (repeat (refine And.intro (by first | omega | (intros; simp_all; done) | (intros; simp_all; omega)) ?_))))
  refine WV_loopK K61_1 [] (fun k : Nat => k ≤ l.length ∧ l.contains x = (l.drop k).contains x) (fun k => l.length - k) (fun k => [(5, iv k)]) (fun _ => []) 0 ⟨Nat.zero_le _, rfl⟩ ?_ ?_
  · (refine Sub_of (by simp only [go_sem, init_env', Nat.reduceEqDiff, Nat.reduceAdd, Nat.reduceMul, reduceIte, Nat.reduceLeDiff, Nat.reduceLT, Nat.reduceBEq, reduceCtorEq]; ((repeat' (first | exact EnvLe_e0 _ _ | refine EnvLe_upd ?_ ?_)) <;> ((try simp only [upd_app, e0_app, o0_app, Nat.reduceEqDiff, reduceIte]); first | exact AWk.refl _ _ | exact AWk.int (by omega) | exact AWk.int (by rw [w64 (by omega) (by omega)]; omega) | exact AWk.grow rfl | exact AWk.nil _ | exact AWk.of (by simp)))) (by simp only [go_sem, init_env', Nat.reduceEqDiff, Nat.reduceAdd, Nat.reduceMul, reduceIte, Nat.reduceLeDiff, Nat.reduceLT, Nat.reduceBEq, reduceCtorEq]; (first | ((repeat' (first | exact ObjLe_o0 _ | exact ObjLe.rfl' _ | refine ObjLe_same ?_ | refine ObjLe_upd ?_ ?_ | refine ObjLe_new rfl ?_)) <;> rfl) | (refine ObjLe_X ?_; (repeat' (first | exact ObjLeX_o0 _ _ | refine ObjLeX_skip rfl ?_ | refine ObjLeX_upd ?_ ?_)) <;> rfl))))
  · rintro k ⟨hk, hx⟩
    simp only [go_sem, init_env', Nat.reduceEqDiff, Nat.reduceAdd, Nat.reduceMul, reduceIte, Nat.reduceLeDiff, Nat.reduceLT, Nat.reduceBEq, reduceCtorEq]
    (repeat ((first | refine WV_seq_ ?_ | refine WV_block ?_ | refine WV_ops ?_ | refine WV_skip ?_ | refine WV_exit ?_); (try simp only [go_sem, init_env', Nat.reduceEqDiff, Nat.reduceAdd, Nat.reduceMul, reduceIte, Nat.reduceLeDiff, Nat.reduceLT, Nat.reduceBEq, reduceCtorEq, hP, List.length_map]); (repeat (refine And.intro (by first | omega | (intros; simp_all; done) | (intros; simp_all; omega)) ?_))))
    (refine WV_cond rfl (fun h => ?_) (fun h => ?_))
    · have hkl : k < l.length := by simpa using h
      have hI : (k : Int) < (l.length : Int) := by omega
      have hw2 := w64 (n := (k : Int) + 1) (by omega) (by omega)
      have g1 : (l.map icd).getD k [] = [.int .i64 l[k]] := map_getD hkl
      rw [List.drop_eq_getElem_cons hkl, List.contains_cons] at hx
      generalize l[k] = y at *
      (repeat ((first | refine WV_seq_ ?_ | refine WV_block ?_ | refine WV_ops ?_ | refine WV_skip ?_ | refine WV_exit ?_); (try simp only [go_sem, init_env', Nat.reduceEqDiff, Nat.reduceAdd, Nat.reduceMul, reduceIte, Nat.reduceLeDiff, Nat.reduceLT, Nat.reduceBEq, reduceCtorEq, hP, g1, hI, List.length_map, Int.natCast_nonneg]); (repeat (refine And.intro (by first | omega | (intros; simp_all; done) | (intros; simp_all; omega)) ?_))))
      cases hyx : y == x
      · have : (x == y) = false := by rw [BEq.comm]; exact hyx
        rw [this, Bool.false_or] at hx
        (refine WV_cond rfl (fun h => ?_) (fun h => ?_))
        · simp at h
        · (repeat ((first | refine WV_seq_ ?_ | refine WV_block ?_ | refine WV_ops ?_ | refine WV_skip ?_ | refine WV_exit ?_); (try simp only [go_sem, init_env', Nat.reduceEqDiff, Nat.reduceAdd, Nat.reduceMul, reduceIte, Nat.reduceLeDiff, Nat.reduceLT, Nat.reduceBEq, reduceCtorEq, hP, hw2]); (repeat (refine And.intro (by first | omega | (intros; simp_all; done) | (intros; simp_all; omega)) ?_))))
          refine ⟨k + 1, ⟨by omega, hx⟩, by omega, ?_⟩
          (refine Sub_of (by simp only [go_sem, init_env', Nat.reduceEqDiff, Nat.reduceAdd, Nat.reduceMul, reduceIte, Nat.reduceLeDiff, Nat.reduceLT, Nat.reduceBEq, reduceCtorEq]; ((repeat' (first | exact EnvLe_e0 _ _ | refine EnvLe_upd ?_ ?_)) <;> ((try simp only [upd_app, e0_app, o0_app, Nat.reduceEqDiff, reduceIte]); first | exact AWk.refl _ _ | exact AWk.int (by omega) | exact AWk.int (by rw [w64 (by omega) (by omega)]; omega) | exact AWk.grow rfl | exact AWk.nil _ | exact AWk.of (by simp)))) (by simp only [go_sem, init_env', Nat.reduceEqDiff, Nat.reduceAdd, Nat.reduceMul, reduceIte, Nat.reduceLeDiff, Nat.reduceLT, Nat.reduceBEq, reduceCtorEq]; (first | ((repeat' (first | exact ObjLe_o0 _ | exact ObjLe.rfl' _ | refine ObjLe_same ?_ | refine ObjLe_upd ?_ ?_ | refine ObjLe_new rfl ?_)) <;> rfl) | (refine ObjLe_X ?_; (repeat' (first | exact ObjLeX_o0 _ _ | refine ObjLeX_skip rfl ?_ | refine ObjLeX_upd ?_ ?_)) <;> rfl))))
      · have : (x == y) = true := by rw [BEq.comm]; exact hyx
        rw [this, Bool.true_or] at hx
        (refine WV_cond rfl (fun h => ?_) (fun h => ?_))
        · (repeat ((first | refine WV_seq_ ?_ | refine WV_block ?_ | refine WV_ops ?_ | refine WV_skip ?_ | refine WV_exit ?_); (try simp only [go_sem, init_env', Nat.reduceEqDiff, Nat.reduceAdd, Nat.reduceMul, reduceIte, Nat.reduceLeDiff, Nat.reduceLT, Nat.reduceBEq, reduceCtorEq, hP, ]); (repeat (refine And.intro (by first | omega | (intros; simp_all; done) | (intros; simp_all; omega)) ?_))))
          (refine WV_ret ?_; simp only [thenQ, inQ, RetQ, RetOk, resAll, resA]; simp only [go_sem, init_env', Nat.reduceEqDiff, Nat.reduceAdd, Nat.reduceMul, reduceIte, Nat.reduceLeDiff, Nat.reduceLT, Nat.reduceBEq, reduceCtorEq, tupA, AV.port, AV.portL, exists_eq_left', ]; (first | exact AVle.of rfl | refine AVle.of ?_ | skip))
          rw [hx]
        · simp at h
    · have h : k = l.length := by simp at h; omega
      subst h
      rw [List.drop_length] at hx
      (refine WV_exit ?_; simp only [go_sem, init_env', Nat.reduceEqDiff, Nat.reduceAdd, Nat.reduceMul, reduceIte, Nat.reduceLeDiff, Nat.reduceLT, Nat.reduceBEq, reduceCtorEq])
      (repeat ((first | refine WV_seq_ ?_ | refine WV_block ?_ | refine WV_ops ?_ | refine WV_skip ?_ | refine WV_exit ?_); (try simp only [go_sem, init_env', Nat.reduceEqDiff, Nat.reduceAdd, Nat.reduceMul, reduceIte, Nat.reduceLeDiff, Nat.reduceLT, Nat.reduceBEq, reduceCtorEq, hP, ]); (repeat (refine And.intro (by first | omega | (intros; simp_all; done) | (intros; simp_all; omega)) ?_))))
      (refine WV_ret ?_; simp only [thenQ, inQ, RetQ, RetOk, resAll, resA]; simp only [go_sem, init_env', Nat.reduceEqDiff, Nat.reduceAdd, Nat.reduceMul, reduceIte, Nat.reduceLeDiff, Nat.reduceLT, Nat.reduceBEq, reduceCtorEq, tupA, AV.port, AV.portL, exists_eq_left', ]; (first | exact AVle.of rfl | refine AVle.of ?_ | skip))
      rw [hx]; rfl

end Go.Proofs.Ytkpgpgaojjobgaa

/-
  The specification's events say what the carriage does: plain.
-/
namespace Go.Proofs.Ytkpgpgaojjobgaa
open Go Go.V

/-! ### Where it stands -/
end Go.Proofs.Ytkpgpgaojjobgaa

namespace Go.Proofs.Ytkpgpgaojjobgaa
open Go Go.V
end Go.Proofs.Ytkpgpgaojjobgaa

namespace Go.Proofs.Ytkpgpgaojjobgaa
open Go Go.V
@[reducible] def o6_0 : List Ins := [⟨(some 2), .box 5 (.t 0), none, true⟩,
  ⟨(some 4), .mv (.k (.c (.bool false))), none, true⟩]
@[reducible] def o6_1 : List Ins := [⟨(some 10), .ld false 5 (.t 2), none, true⟩,
  ⟨(some 11), .call (.k (.fn 28 [])) [(.t 10)], none, true⟩]
@[reducible] def o6_2 : List Ins := [⟨(some 12), .call (.k (.fn 19 [])) [], none, true⟩,
  ⟨(some 4), .mv (.t 12), none, true⟩]
@[reducible] def v6_3 : VC := (.seq (.ops o6_2) .ret)
@[reducible] def v6_4 : VC := (.cond (.t 11) v6_3 .skip)
@[reducible] def o6_5 : List Ins := [⟨(some 13), .ld false 5 (.t 2), none, true⟩,
  ⟨(some 14), .call (.k (.fn 20 [])) [(.t 13)], none, true⟩,
  ⟨(some 5), .alloc [(.c (.raw (.slice none 0 0))), (.c (.int .i64 0)), (.c (.int .i64 0)), (.c (.int .i64 0)), (.c (.raw (.slice none 0 0)))], none, true⟩,
  ⟨none, .st 5 (.t 5) (.t 14), none, true⟩]
@[reducible] def o6_6 : List Ins := [⟨(some 16), .ld false 5 (.t 5), none, true⟩,
  ⟨(some 17), .mv (.t 1), none, true⟩,
  ⟨(some 18), .call (.k (.fn 21 [])) [(.t 16), (.t 17)], none, true⟩,
  ⟨(some 15), .mv (.t 18), none, true⟩,
  ⟨(some 19), .ext (.t 15) 0, none, true⟩,
  ⟨(some 20), .ext (.t 15) 1, none, true⟩,
  ⟨(some 6), .alloc [(.c (.int .i64 0)), (.c (.int .i64 0)), (.c (.int .i64 0))], none, true⟩,
  ⟨none, .st 3 (.t 6) (.t 19), none, true⟩,
  ⟨(some 7), .mv (.t 20), none, true⟩]
@[reducible] def o6_7 : List Ins := [⟨(some 22), .ld false 5 (.t 2), none, true⟩,
  ⟨(some 23), .mv (.t 1), none, true⟩,
  ⟨(some 24), .call (.k (.fn 29 [])) [(.t 22), (.t 23)], none, true⟩,
  ⟨(some 21), .mv (.t 24), none, true⟩,
  ⟨(some 25), .ext (.t 21) 0, none, true⟩,
  ⟨(some 26), .ext (.t 21) 1, none, true⟩,
  ⟨(some 8), .alloc [(.c (.int .i64 0)), (.c (.int .i64 0)), (.c (.int .i64 0))], none, true⟩,
  ⟨none, .st 3 (.t 8) (.t 25), none, true⟩,
  ⟨(some 9), .mv (.t 26), none, true⟩]
@[reducible] def o6_8 : List Ins := [⟨(some 27), .ld false 3 (.t 6), none, true⟩,
  ⟨(some 28), .ld false 3 (.t 8), none, true⟩,
  ⟨(some 29), .seq false [(0, true), (1, true), (2, true)] (.t 27) (.t 28), none, true⟩,
  ⟨(some 30), .mv (.t 29), none, true⟩,
  ⟨(some 31), .mv (.t 7), (some (30, true)), true⟩,
  ⟨(some 32), .mv (.t 9), (some (30, true)), true⟩,
  ⟨(some 33), .bin .eql (.t 31) (.t 32), (some (30, true)), true⟩,
  ⟨(some 34), .pick (.t 30) (.t 33) (.k (.c (.bool false))), none, true⟩,
  ⟨(some 35), .mv (.t 34), none, true⟩,
  ⟨(some 36), .ld false 5 (.t 5), (some (35, true)), true⟩,
  ⟨(some 37), .ld false 5 (.t 2), (some (35, true)), true⟩,
  ⟨(some 38), .call (.k (.fn 30 [])) [(.t 36), (.t 37)], (some (35, true)), true⟩,
  ⟨(some 39), .pick (.t 35) (.t 38) (.k (.c (.bool false))), none, true⟩,
  ⟨(some 40), .mv (.t 39), none, true⟩,
  ⟨(some 41), .call (.k (.fn 19 [])) [], (some (40, true)), true⟩,
  ⟨(some 42), .pick (.t 40) (.t 41) (.k (.c (.bool false))), none, true⟩,
  ⟨(some 4), .mv (.t 42), none, true⟩]
@[reducible] def v6_9 : VC := (.seq (.ops o6_8) .ret)
@[reducible] def v6_10 : VC := (.seq (.ops o6_7) v6_9)
@[reducible] def v6_11 : VC := (.seq (.ops o6_6) v6_10)
@[reducible] def v6_12 : VC := (.seq (.ops o6_5) v6_11)
@[reducible] def v6_13 : VC := (.seq (.seq (.ops o6_1) v6_4) v6_12)
def ir6 : FC := ⟨2, 43, [.t 4], (.seq (.ops o6_0) v6_13)⟩
@[reducible] def o7_0 : List Ins := [⟨(some 3), .box 5 (.t 0), none, true⟩,
  ⟨(some 6), .mv (.k (.c (.bool false))), none, true⟩]
@[reducible] def o7_1 : List Ins := [⟨(some 12), .ld false 5 (.t 3), none, true⟩,
  ⟨(some 13), .call (.k (.fn 28 [])) [(.t 12)], none, true⟩,
  ⟨(some 14), .mv (.t 13), none, true⟩,
  ⟨(some 15), .mv (.t 2), (some (14, false)), true⟩,
  ⟨(some 16), .bin .gtr (.t 15) (.k (.c (.int .i64 400))), (some (14, false)), true⟩,
  ⟨(some 17), .mv (.t 16), (some (14, false)), true⟩,
  ⟨(some 18), .mv (.t 2), (some (17, true)), true⟩,
  ⟨(some 19), .bin .leq (.t 18) (.k (.c (.int .i64 9999))), (some (17, true)), true⟩,
  ⟨(some 20), .pick (.t 17) (.t 19) (.k (.c (.bool false))), (some (14, false)), true⟩,
  ⟨(some 21), .pick (.t 14) (.k (.c (.bool true))) (.t 20), none, true⟩]
@[reducible] def o7_2 : List Ins := [⟨(some 22), .call (.k (.fn 19 [])) [], none, true⟩,
  ⟨(some 6), .mv (.t 22), none, true⟩]
@[reducible] def v7_3 : VC := (.seq (.ops o7_2) .ret)
@[reducible] def v7_4 : VC := (.cond (.t 21) v7_3 .skip)
@[reducible] def o7_5 : List Ins := [⟨(some 23), .ld false 5 (.t 3), none, true⟩,
  ⟨(some 24), .call (.k (.fn 20 [])) [(.t 23)], none, true⟩,
  ⟨(some 7), .alloc [(.c (.raw (.slice none 0 0))), (.c (.int .i64 0)), (.c (.int .i64 0)), (.c (.int .i64 0)), (.c (.raw (.slice none 0 0)))], none, true⟩,
  ⟨none, .st 5 (.t 7) (.t 24), none, true⟩]
@[reducible] def o7_6 : List Ins := [⟨(some 26), .ld false 5 (.t 7), none, true⟩,
  ⟨(some 27), .mv (.t 1), none, true⟩,
  ⟨(some 28), .mv (.t 2), none, true⟩,
  ⟨(some 29), .call (.k (.fn 26 [])) [(.t 26), (.t 27), (.t 28)], none, true⟩,
  ⟨(some 25), .mv (.t 29), none, true⟩,
  ⟨(some 30), .ext (.t 25) 0, none, true⟩,
  ⟨(some 31), .ext (.t 25) 1, none, true⟩,
  ⟨(some 8), .mv (.t 30), none, true⟩,
  ⟨(some 9), .mv (.t 31), none, true⟩]
@[reducible] def o7_7 : List Ins := [⟨(some 33), .ld false 5 (.t 3), none, true⟩,
  ⟨(some 34), .mv (.t 1), none, true⟩,
  ⟨(some 35), .mv (.t 2), none, true⟩,
  ⟨(some 36), .call (.k (.fn 31 [])) [(.t 33), (.t 34), (.t 35)], none, true⟩,
  ⟨(some 32), .mv (.t 36), none, true⟩,
  ⟨(some 37), .ext (.t 32) 0, none, true⟩,
  ⟨(some 38), .ext (.t 32) 1, none, true⟩,
  ⟨(some 10), .mv (.t 37), none, true⟩,
  ⟨(some 11), .mv (.t 38), none, true⟩]
@[reducible] def o7_8 : List Ins := [⟨(some 39), .mv (.t 8), none, true⟩,
  ⟨(some 40), .mv (.t 10), none, true⟩,
  ⟨(some 41), .bin .eql (.t 39) (.t 40), none, true⟩,
  ⟨(some 42), .mv (.t 41), none, true⟩,
  ⟨(some 43), .mv (.t 9), (some (42, true)), true⟩,
  ⟨(some 44), .mv (.t 11), (some (42, true)), true⟩,
  ⟨(some 45), .bin .eql (.t 43) (.t 44), (some (42, true)), true⟩,
  ⟨(some 46), .pick (.t 42) (.t 45) (.k (.c (.bool false))), none, true⟩,
  ⟨(some 47), .mv (.t 46), none, true⟩,
  ⟨(some 48), .ld false 5 (.t 7), (some (47, true)), true⟩,
  ⟨(some 49), .ld false 5 (.t 3), (some (47, true)), true⟩,
  ⟨(some 50), .call (.k (.fn 30 [])) [(.t 48), (.t 49)], (some (47, true)), true⟩,
  ⟨(some 51), .pick (.t 47) (.t 50) (.k (.c (.bool false))), none, true⟩,
  ⟨(some 52), .mv (.t 51), none, true⟩,
  ⟨(some 53), .call (.k (.fn 19 [])) [], (some (52, true)), true⟩,
  ⟨(some 54), .pick (.t 52) (.t 53) (.k (.c (.bool false))), none, true⟩,
  ⟨(some 6), .mv (.t 54), none, true⟩]
@[reducible] def v7_9 : VC := (.seq (.ops o7_8) .ret)
@[reducible] def v7_10 : VC := (.seq (.ops o7_7) v7_9)
@[reducible] def v7_11 : VC := (.seq (.ops o7_6) v7_10)
@[reducible] def v7_12 : VC := (.seq (.ops o7_5) v7_11)
@[reducible] def v7_13 : VC := (.seq (.seq (.ops o7_1) v7_4) v7_12)
def ir7 : FC := ⟨3, 55, [.t 6], (.seq (.ops o7_0) v7_13)⟩
theorem c6 : compM Try.prog [] 6 = some ir6 := by kernel_rfl
theorem c7 : compM Try.prog [] 7 = some ir7 := by kernel_rfl



/-! ### The latest press -/
end Go.Proofs.Ytkpgpgaojjobgaa

namespace Go.Proofs.Ytkpgpgaojjobgaa
open Go Go.V
@[reducible] def o36_0 : List Ins := [⟨(some 2), .box 5 (.t 0), none, true⟩,
  ⟨(some 4), .mv (.k (.c (.bool false))), none, true⟩]
@[reducible] def o36_1 : List Ins := [⟨(some 5), .mv (.k (.c (.int .i64 0))), none, true⟩]
@[reducible] def o36_2 : List Ins := [⟨(some 6), .mv (.t 5), none, true⟩,
  ⟨(some 7), .fa 0 (.t 2), none, true⟩,
  ⟨(some 8), .ld true 1 (.t 7), none, true⟩,
  ⟨(some 9), .len (.t 8), none, true⟩,
  ⟨(some 10), .bin .lss (.t 6) (.t 9), none, true⟩]
@[reducible] def v36_3 : VC := (.cond (.t 10) .skip (.exit 0))
@[reducible] def o36_4 : List Ins := [⟨(some 13), .mv (.t 1), none, true⟩,
  ⟨(some 14), .mv (.t 5), none, true⟩,
  ⟨(some 15), .call (.k (.fn 61 [])) [(.t 13), (.t 14)], none, true⟩,
  ⟨(some 16), .un .not (.t 15), none, true⟩]
@[reducible] def o36_5 : List Ins := [⟨(some 4), .mv (.k (.c (.bool false))), none, true⟩]
@[reducible] def v36_6 : VC := (.seq (.ops o36_5) .ret)
@[reducible] def v36_7 : VC := (.cond (.t 16) v36_6 .skip)
@[reducible] def v36_8 : VC := (.seq (.ops o36_4) v36_7)
@[reducible] def o36_9 : List Ins := [⟨(some 11), .mv (.t 5), none, true⟩,
  ⟨(some 12), .bin .add (.t 11) (.k (.c (.int .i64 1))), none, true⟩,
  ⟨(some 5), .mv (.t 12), none, true⟩]
@[reducible] def v36_10 : VC := (.seq (.block 1 v36_8) (.ops o36_9))
@[reducible] def v36_11 : VC := (.seq (.seq (.ops o36_2) v36_3) v36_10)
-- K36_1: changed and kept: [5]
@[reducible] def K36_1 : List Nat := [1, 2]
@[reducible] def v36_12 : VC := (.loop v36_11)
@[reducible] def v36_13 : VC := (.block 0 v36_12)
@[reducible] def o36_14 : List Ins := [⟨(some 17), .mv (.t 1), none, true⟩,
  ⟨(some 18), .len (.t 17), none, true⟩,
  ⟨(some 19), .fa 0 (.t 2), none, true⟩,
  ⟨(some 20), .ld true 1 (.t 19), none, true⟩,
  ⟨(some 21), .len (.t 20), none, true⟩,
  ⟨(some 22), .bin .eql (.t 18) (.t 21), none, true⟩,
  ⟨(some 4), .mv (.t 22), none, true⟩]
@[reducible] def v36_15 : VC := (.seq (.ops o36_14) .ret)
@[reducible] def v36_16 : VC := (.seq (.seq (.ops o36_1) v36_13) v36_15)
def ir36 : FC := ⟨2, 23, [.t 4], (.seq (.ops o36_0) v36_16)⟩
@[reducible] def o39_0 : List Ins := [⟨(some 2), .box 5 (.t 0), none, true⟩,
  ⟨(some 4), .alloc [(.c (.raw (.slice none 0 0))), (.c (.int .i64 0)), (.c (.int .i64 0)), (.c (.int .i64 0)), (.c (.raw (.slice none 0 0)))], none, true⟩]
@[reducible] def o39_1 : List Ins := [⟨(some 8), .ld false 5 (.t 2), none, true⟩,
  ⟨(some 9), .call (.k (.fn 20 [])) [(.t 8)], none, true⟩,
  ⟨(some 5), .alloc [(.c (.raw (.slice none 0 0))), (.c (.int .i64 0)), (.c (.int .i64 0)), (.c (.int .i64 0)), (.c (.raw (.slice none 0 0)))], none, true⟩,
  ⟨none, .st 5 (.t 5) (.t 9), none, true⟩]
@[reducible] def o39_2 : List Ins := [⟨(some 6), .mv (.k (.c (.int .i64 0))), none, true⟩]
@[reducible] def o39_3 : List Ins := [⟨(some 10), .mv (.t 6), none, true⟩,
  ⟨(some 11), .mv (.t 1), none, true⟩,
  ⟨(some 12), .len (.t 11), none, true⟩,
  ⟨(some 13), .bin .lss (.t 10) (.t 12), none, true⟩]
@[reducible] def v39_4 : VC := (.cond (.t 13) .skip (.exit 0))
@[reducible] def o39_5 : List Ins := [⟨(some 16), .fa 0 (.t 5), none, false⟩,
  ⟨(some 17), .ld true 1 (.t 16), none, false⟩,
  ⟨(some 18), .mv (.t 6), none, false⟩,
  ⟨(some 19), .fa 0 (.t 2), none, false⟩,
  ⟨(some 20), .ld true 1 (.t 19), none, false⟩,
  ⟨(some 21), .mv (.t 1), none, false⟩,
  ⟨(some 22), .mv (.t 6), none, false⟩,
  ⟨(some 23), .ia 1 (.t 21) (.t 22), none, false⟩,
  ⟨(some 24), .ld true 1 (.t 23), none, false⟩,
  ⟨(some 25), .ia 2 (.t 20) (.t 24), none, false⟩,
  ⟨(some 26), .ld false 2 (.t 25), none, false⟩,
  ⟨(some 27), .ia 2 (.t 17) (.t 18), none, true⟩,
  ⟨none, .st 2 (.t 27) (.t 26), none, true⟩]
@[reducible] def o39_6 : List Ins := [⟨(some 7), .mv (.k (.c (.int .i64 0))), none, true⟩]
@[reducible] def o39_7 : List Ins := [⟨(some 28), .mv (.t 7), none, true⟩,
  ⟨(some 29), .fa 4 (.t 2), none, true⟩,
  ⟨(some 30), .ld true 1 (.t 29), none, true⟩,
  ⟨(some 31), .len (.t 30), none, true⟩,
  ⟨(some 32), .bin .lss (.t 28) (.t 31), none, true⟩]
@[reducible] def v39_8 : VC := (.cond (.t 32) .skip (.exit 2))
@[reducible] def o39_9 : List Ins := [⟨(some 35), .fa 4 (.t 2), none, false⟩,
  ⟨(some 36), .ld true 1 (.t 35), none, false⟩,
  ⟨(some 37), .mv (.t 7), none, false⟩,
  ⟨(some 38), .ia 2 (.t 36) (.t 37), none, false⟩,
  ⟨(some 39), .fa 0 (.t 38), none, false⟩,
  ⟨(some 40), .ld true 1 (.t 39), none, false⟩,
  ⟨(some 41), .bin .quo (.t 40) (.k (.c (.int .i64 2))), none, false⟩,
  ⟨(some 42), .mv (.t 1), none, false⟩,
  ⟨(some 43), .mv (.t 6), none, false⟩,
  ⟨(some 44), .ia 1 (.t 42) (.t 43), none, false⟩,
  ⟨(some 45), .ld true 1 (.t 44), none, false⟩,
  ⟨(some 46), .bin .eql (.t 41) (.t 45), none, true⟩]
@[reducible] def o39_10 : List Ins := [⟨(some 47), .fa 4 (.t 5), none, false⟩,
  ⟨(some 48), .ld true 1 (.t 47), none, false⟩,
  ⟨(some 49), .mv (.t 7), none, false⟩,
  ⟨(some 50), .mv (.t 6), none, false⟩,
  ⟨(some 51), .bin .mul (.k (.c (.int .i64 2))) (.t 50), none, false⟩,
  ⟨(some 52), .fa 4 (.t 2), none, false⟩,
  ⟨(some 53), .ld true 1 (.t 52), none, false⟩,
  ⟨(some 54), .mv (.t 7), none, false⟩,
  ⟨(some 55), .ia 2 (.t 53) (.t 54), none, false⟩,
  ⟨(some 56), .fa 0 (.t 55), none, false⟩,
  ⟨(some 57), .ld true 1 (.t 56), none, false⟩,
  ⟨(some 58), .bin .rem (.t 57) (.k (.c (.int .i64 2))), none, false⟩,
  ⟨(some 59), .bin .add (.t 51) (.t 58), none, false⟩,
  ⟨(some 60), .ia 2 (.t 48) (.t 49), none, true⟩,
  ⟨(some 61), .fa 0 (.t 60), none, true⟩,
  ⟨none, .st 1 (.t 61) (.t 59), none, true⟩]
@[reducible] def v39_11 : VC := (.cond (.t 46) (.ops o39_10) .skip)
@[reducible] def v39_12 : VC := (.seq (.ops o39_9) v39_11)
@[reducible] def o39_13 : List Ins := [⟨(some 33), .mv (.t 7), none, true⟩,
  ⟨(some 34), .bin .add (.t 33) (.k (.c (.int .i64 1))), none, true⟩,
  ⟨(some 7), .mv (.t 34), none, true⟩]
@[reducible] def v39_14 : VC := (.seq (.block 3 v39_12) (.ops o39_13))
@[reducible] def v39_15 : VC := (.seq (.seq (.ops o39_7) v39_8) v39_14)
-- K39_2: changed and kept: [7]
@[reducible] def K39_2 : List Nat := [1, 2, 4, 5, 6]
@[reducible] def v39_16 : VC := (.loop v39_15)
@[reducible] def v39_17 : VC := (.block 2 v39_16)
@[reducible] def v39_18 : VC := (.seq (.ops o39_6) v39_17)
@[reducible] def v39_19 : VC := (.seq (.ops o39_5) v39_18)
@[reducible] def o39_20 : List Ins := [⟨(some 14), .mv (.t 6), none, true⟩,
  ⟨(some 15), .bin .add (.t 14) (.k (.c (.int .i64 1))), none, true⟩,
  ⟨(some 6), .mv (.t 15), none, true⟩]
@[reducible] def v39_21 : VC := (.seq (.block 1 v39_19) (.ops o39_20))
@[reducible] def v39_22 : VC := (.seq (.seq (.ops o39_3) v39_4) v39_21)
-- K39_1: changed and kept: [6]
@[reducible] def K39_1 : List Nat := [1, 2, 4, 5]
@[reducible] def v39_23 : VC := (.loop v39_22)
@[reducible] def v39_24 : VC := (.block 0 v39_23)
@[reducible] def o39_25 : List Ins := [⟨(some 62), .ld false 5 (.t 5), none, true⟩,
  ⟨none, .st 5 (.t 4) (.t 62), none, true⟩]
@[reducible] def v39_26 : VC := (.seq (.ops o39_25) .ret)
@[reducible] def v39_27 : VC := (.seq (.seq (.ops o39_2) v39_24) v39_26)
@[reducible] def v39_28 : VC := (.seq (.ops o39_1) v39_27)
def ir39 : FC := ⟨2, 63, [.cell 4 false 5], (.seq (.ops o39_0) v39_28)⟩
theorem c36 : compM Try.prog [] 36 = some ir36 := by kernel_rfl
theorem c39 : compM Try.prog [] 39 = some ir39 := by kernel_rfl



theorem perm_of_nodup {l1 : List Int} : ∀ {l2 : List Int}, l1.Nodup → (∀ x ∈ l1, x ∈ l2) → l2.length ≤ l1.length → l2.Perm l1 := by
  induction l1 with
  | nil => intro l2 _ _ h; rw [List.length_eq_zero_iff.1 (Nat.le_zero.1 h)]
  | cons x l1 ih =>
    intro l2 hn hs hl
    have hx := hs x (by simp)
    refine (List.perm_cons_erase hx).trans (List.Perm.cons x (ih (List.nodup_cons.1 hn).2 (fun y hy => ?_) ?_))
    · have hne : y ≠ x := by rintro rfl; exact (List.nodup_cons.1 hn).1 hy
      exact (List.mem_erase_of_ne hne).2 (hs y (by simp [hy]))
    · have h1 := List.length_erase_of_mem hx
      rw [List.length_cons] at hl
      omega
def isOrdB (n : Nat) (o : List Int) : Bool := (List.range n).all (fun i => o.contains (i : Int)) && decide (o.length = n)
theorem natsC_ints (l : List Nat) : natsC l = ints (l.map fun k : Nat => (k : Int)) := by unfold natsC ints; rw [List.map_map]; rfl
theorem isOrd_spec {n : Nat} {o : List Int} (h : isOrdB n o = true) : ∃ π : List Nat, IsOrd n π ∧ o = π.map fun k : Nat => (k : Int) := by
  unfold isOrdB at h
  simp only [Bool.and_eq_true, List.all_eq_true, decide_eq_true_eq] at h
  obtain ⟨h1, h2⟩ := h
  have hp : o.Perm ((List.range n).map fun k : Nat => (k : Int)) := by
    refine perm_of_nodup ?_ (fun x hx => ?_) (by simp [h2])
    · exact List.Pairwise.map _ (fun a b (h : a ≠ b) => by show (a : Int) ≠ (b : Int); omega) List.nodup_range
    · obtain ⟨i, hi, rfl⟩ := List.mem_map.1 hx
      exact List.contains_iff_mem.1 (h1 i hi)
  have h0 : ∀ x ∈ o, 0 ≤ x := fun x hx => by
    obtain ⟨i, _, rfl⟩ := List.mem_map.1 (hp.mem_iff.1 hx); omega
  refine ⟨o.map Int.toNat, ?_, ?_⟩
  · have := hp.map Int.toNat
    rw [List.map_map] at this
    have e : (List.range n).map (Int.toNat ∘ fun k : Nat => (k : Int)) = List.range n := by
      rw [List.map_congr_left (g := id) fun a _ => by simp]; simp
    rw [e] at this
    exact this
  · rw [List.map_map]
    symm
    rw [List.map_congr_left (g := id) fun a ha => by have := h0 a ha; simp only [Function.comp, id]; omega]; simp
theorem isorder36 (t : Tray) (o : List Int) (hn : t.n ≤ 1000) (hl : o.length ≤ 1000000) : FSpec Try.prog 36 [t.av, .c (.sl 1 (o.map icd))] (.c (.bool (isOrdB t.n o))) := by
  have hrl : t.recs.length = t.n := rfl
  unfold isOrdB
  refine FSpec_of c36 (Nat.le_refl _) (by decide) fun C hP hN hC hL => ?_
  simp only [ir36, Tray.av]
  (repeat ((first | refine WV_seq_ ?_ | refine WV_block ?_ | refine WV_ops ?_ | refine WV_skip ?_ | refine WV_exit ?_); (try simp only [go_sem, init_env', Nat.reduceEqDiff, Nat.reduceAdd, Nat.reduceMul, reduceIte, Nat.reduceLeDiff, Nat.reduceLT, Nat.reduceBEq, reduceCtorEq, hP, ]); (repeat (refine And.intro (by first | omega | (intros; simp_all; done) | (intros; simp_all; omega)) ?_))))
  refine WV_loopK K36_1 [] (fun k : Nat => k ≤ t.n ∧ (List.range t.n).all (fun i => o.contains (i : Int)) = ((List.range t.n).drop k).all (fun i => o.contains (i : Int))) (fun k => t.n - k) (fun k => [(5, iv k)]) (fun _ => []) 0 ⟨Nat.zero_le _, rfl⟩ ?_ ?_
  · (refine Sub_of (by simp only [go_sem, init_env', Nat.reduceEqDiff, Nat.reduceAdd, Nat.reduceMul, reduceIte, Nat.reduceLeDiff, Nat.reduceLT, Nat.reduceBEq, reduceCtorEq]; ((repeat' (first | exact EnvLe_e0 _ _ | refine EnvLe_upd ?_ ?_)) <;> ((try simp only [upd_app, e0_app, o0_app, Nat.reduceEqDiff, reduceIte]); first | exact AWk.refl _ _ | exact AWk.int (by omega) | exact AWk.int (by rw [w64 (by omega) (by omega)]; omega) | exact AWk.grow rfl | exact AWk.nil _ | exact AWk.of (by simp)))) (by simp only [go_sem, init_env', Nat.reduceEqDiff, Nat.reduceAdd, Nat.reduceMul, reduceIte, Nat.reduceLeDiff, Nat.reduceLT, Nat.reduceBEq, reduceCtorEq]; (first | ((repeat' (first | exact ObjLe_o0 _ | exact ObjLe.rfl' _ | refine ObjLe_same ?_ | refine ObjLe_upd ?_ ?_ | refine ObjLe_new rfl ?_)) <;> rfl) | (refine ObjLe_X ?_; (repeat' (first | exact ObjLeX_o0 _ _ | refine ObjLeX_skip rfl ?_ | refine ObjLeX_upd ?_ ?_)) <;> rfl))))
  rintro k ⟨hk, hx⟩
  simp only [go_sem, init_env', Nat.reduceEqDiff, Nat.reduceAdd, Nat.reduceMul, reduceIte, Nat.reduceLeDiff, Nat.reduceLT, Nat.reduceBEq, reduceCtorEq]
  (repeat ((first | refine WV_seq_ ?_ | refine WV_block ?_ | refine WV_ops ?_ | refine WV_skip ?_ | refine WV_exit ?_); (try simp only [go_sem, init_env', Nat.reduceEqDiff, Nat.reduceAdd, Nat.reduceMul, reduceIte, Nat.reduceLeDiff, Nat.reduceLT, Nat.reduceBEq, reduceCtorEq, hP, recsC, List.length_map, hrl]); (repeat (refine And.intro (by first | omega | (intros; simp_all; done) | (intros; simp_all; omega)) ?_))))
  (refine WV_cond rfl (fun h => ?_) (fun h => ?_))
  · have hkl : k < t.n := by simpa using h
    have hw2 := w64 (n := (k : Int) + 1) (by omega) (by omega)
    have hin := in61 o k hl
    have hd : (List.range t.n).drop k = k :: (List.range t.n).drop (k + 1) := by
      rw [List.drop_eq_getElem_cons (by simpa using hkl)]; simp
    rw [hd, List.all_cons] at hx
    (repeat ((first | refine WV_seq_ ?_ | refine WV_block ?_ | refine WV_ops ?_ | refine WV_skip ?_ | refine WV_exit ?_); (try simp only [go_sem, init_env', Nat.reduceEqDiff, Nat.reduceAdd, Nat.reduceMul, reduceIte, Nat.reduceLeDiff, Nat.reduceLT, Nat.reduceBEq, reduceCtorEq, hP, ]); (repeat (refine And.intro (by first | omega | (intros; simp_all; done) | (intros; simp_all; omega)) ?_))))
    (refine AS_pure (hin) rfl rfl rfl rfl rfl ?_; simp only [go_sem, init_env', Nat.reduceEqDiff, Nat.reduceAdd, Nat.reduceMul, reduceIte, Nat.reduceLeDiff, Nat.reduceLT, Nat.reduceBEq, reduceCtorEq, hP, ]; (repeat (refine And.intro (by first | omega | (intros; simp_all; done) | (intros; simp_all; omega)) ?_)); (repeat ((first | refine WV_seq_ ?_ | refine WV_block ?_ | refine WV_ops ?_ | refine WV_skip ?_ | refine WV_exit ?_); (try simp only [go_sem, init_env', Nat.reduceEqDiff, Nat.reduceAdd, Nat.reduceMul, reduceIte, Nat.reduceLeDiff, Nat.reduceLT, Nat.reduceBEq, reduceCtorEq, hP, ]); (repeat (refine And.intro (by first | omega | (intros; simp_all; done) | (intros; simp_all; omega)) ?_)))))
    cases hc : o.contains (k : Int)
    · rw [hc, Bool.false_and] at hx
      (refine WV_cond rfl (fun h => ?_) (fun h => ?_))
      · (repeat ((first | refine WV_seq_ ?_ | refine WV_block ?_ | refine WV_ops ?_ | refine WV_skip ?_ | refine WV_exit ?_); (try simp only [go_sem, init_env', Nat.reduceEqDiff, Nat.reduceAdd, Nat.reduceMul, reduceIte, Nat.reduceLeDiff, Nat.reduceLT, Nat.reduceBEq, reduceCtorEq, hP, ]); (repeat (refine And.intro (by first | omega | (intros; simp_all; done) | (intros; simp_all; omega)) ?_))))
        (refine WV_ret ?_; simp only [thenQ, inQ, RetQ, RetOk, resAll, resA]; simp only [go_sem, init_env', Nat.reduceEqDiff, Nat.reduceAdd, Nat.reduceMul, reduceIte, Nat.reduceLeDiff, Nat.reduceLT, Nat.reduceBEq, reduceCtorEq, tupA, AV.port, AV.portL, exists_eq_left', ]; (first | exact AVle.of rfl | refine AVle.of ?_ | skip))
        rw [hx]; rfl
      · simp at h
    · rw [hc, Bool.true_and] at hx
      (refine WV_cond rfl (fun h => ?_) (fun h => ?_))
      · simp at h
      · (repeat ((first | refine WV_seq_ ?_ | refine WV_block ?_ | refine WV_ops ?_ | refine WV_skip ?_ | refine WV_exit ?_); (try simp only [go_sem, init_env', Nat.reduceEqDiff, Nat.reduceAdd, Nat.reduceMul, reduceIte, Nat.reduceLeDiff, Nat.reduceLT, Nat.reduceBEq, reduceCtorEq, hP, hw2]); (repeat (refine And.intro (by first | omega | (intros; simp_all; done) | (intros; simp_all; omega)) ?_))))
        refine ⟨k + 1, ⟨by omega, hx⟩, by omega, ?_⟩
        (refine Sub_of (by simp only [go_sem, init_env', Nat.reduceEqDiff, Nat.reduceAdd, Nat.reduceMul, reduceIte, Nat.reduceLeDiff, Nat.reduceLT, Nat.reduceBEq, reduceCtorEq]; ((repeat' (first | exact EnvLe_e0 _ _ | refine EnvLe_upd ?_ ?_)) <;> ((try simp only [upd_app, e0_app, o0_app, Nat.reduceEqDiff, reduceIte]); first | exact AWk.refl _ _ | exact AWk.int (by omega) | exact AWk.int (by rw [w64 (by omega) (by omega)]; omega) | exact AWk.grow rfl | exact AWk.nil _ | exact AWk.of (by simp)))) (by simp only [go_sem, init_env', Nat.reduceEqDiff, Nat.reduceAdd, Nat.reduceMul, reduceIte, Nat.reduceLeDiff, Nat.reduceLT, Nat.reduceBEq, reduceCtorEq]; (first | ((repeat' (first | exact ObjLe_o0 _ | exact ObjLe.rfl' _ | refine ObjLe_same ?_ | refine ObjLe_upd ?_ ?_ | refine ObjLe_new rfl ?_)) <;> rfl) | (refine ObjLe_X ?_; (repeat' (first | exact ObjLeX_o0 _ _ | refine ObjLeX_skip rfl ?_ | refine ObjLeX_upd ?_ ?_)) <;> rfl))))
  · have h : k = t.n := by simp at h; omega
    subst h
    rw [List.drop_of_length_le (by simp)] at hx
    have hxx : (List.range t.n).all (fun i => o.contains (i : Int)) = true := hx
    have hll : ((o.length : Int) == (t.n : Int)) = decide (o.length = t.n) := by rw [Bool.eq_iff_iff]; simp; omega
    rw [hxx, Bool.true_and]
    (refine WV_exit ?_; simp only [go_sem, init_env', Nat.reduceEqDiff, Nat.reduceAdd, Nat.reduceMul, reduceIte, Nat.reduceLeDiff, Nat.reduceLT, Nat.reduceBEq, reduceCtorEq])
    (repeat ((first | refine WV_seq_ ?_ | refine WV_block ?_ | refine WV_ops ?_ | refine WV_skip ?_ | refine WV_exit ?_); (try simp only [go_sem, init_env', Nat.reduceEqDiff, Nat.reduceAdd, Nat.reduceMul, reduceIte, Nat.reduceLeDiff, Nat.reduceLT, Nat.reduceBEq, reduceCtorEq, hP, recsC, List.length_map, hrl, hll]); (repeat (refine And.intro (by first | omega | (intros; simp_all; done) | (intros; simp_all; omega)) ?_))))
    (refine WV_ret ?_; simp only [thenQ, inQ, RetQ, RetOk, resAll, resA]; simp only [go_sem, init_env', Nat.reduceEqDiff, Nat.reduceAdd, Nat.reduceMul, reduceIte, Nat.reduceLeDiff, Nat.reduceLT, Nat.reduceBEq, reduceCtorEq, tupA, AV.port, AV.portL, exists_eq_left', ]; (first | exact AVle.of rfl | refine AVle.of ?_ | skip))

/-! ### The specification's arranged tray -/
def recsO (t : Tray) (o : List Nat) (k : Nat) : List Rec := (List.range t.n).map fun j => if j < k then t.rc (o.getD j 0) else t.rc j
theorem recsO_len (t : Tray) (o : List Nat) (k : Nat) : (recsO t o k).length = t.n := by simp [recsO]
theorem recsO_zero (t : Tray) (o : List Nat) : recsO t o 0 = t.recs := by
  have hl : t.recs.length = t.n := rfl
  refine List.ext_getElem (by simp [recsO, hl]) fun i h1 h2 => ?_
  simp [recsO, Tray.rc, h2]
theorem recsO_step (t : Tray) (o : List Nat) {k : Nat} (h : k < t.n) : (recsO t o k).set k (t.rc (o.getD k 0)) = recsO t o (k + 1) := by
  refine List.ext_getElem (by simp [recsO]) fun i h1 h2 => ?_
  rw [recsO_len] at h2
  rw [List.getElem_set]
  by_cases e : k = i
  · subst e; rw [if_pos rfl]; simp [recsO]
  · rw [if_neg e]
    simp only [recsO, List.getElem_map, List.getElem_range]
    by_cases hk : i < k
    · rw [if_pos hk, if_pos (by omega)]
    · rw [if_neg hk, if_neg (by omega)]
theorem recsO_all (t : Tray) {o : List Nat} (h : IsOrd t.n o) : recsO t o t.n = o.map t.rc := by
  refine List.ext_getElem (by rw [recsO_len, List.length_map, h.len]) fun i h1 h2 => ?_
  rw [recsO_len] at h1
  simp only [List.length_map] at h2
  simp [recsO, h1, h2]
def doneB (o : List Nat) (k i j : Nat) (p : Pr) : Bool := decide (o.idxOf (p.side.toNat / 2) < k) || (decide (o.idxOf (p.side.toNat / 2) = k) && decide (j < i))
def prsO (l : List Pr) (o : List Nat) (k i : Nat) : List Pr := (List.range l.length).map fun j => if doneB o k i j (l.getD j default) then arrP o (l.getD j default) else l.getD j default
theorem prsO_len (l : List Pr) (o : List Nat) (k i : Nat) : (prsO l o k i).length = l.length := by simp [prsO]
theorem prsO_zero (l : List Pr) (o : List Nat) : prsO l o 0 0 = l := by
  refine List.ext_getElem (by simp [prsO]) fun i h1 h2 => ?_
  simp [prsO, doneB, h2]
theorem prsO_next (l : List Pr) (o : List Nat) (k : Nat) : prsO l o k l.length = prsO l o (k + 1) 0 := by
  unfold prsO
  refine List.map_congr_left fun j hj => ?_
  have hj := List.mem_range.1 hj
  have e : ∀ m : Nat, (decide (m < k) || (decide (m = k) && decide (j < l.length))) = (decide (m < k + 1) || (decide (m = k + 1) && decide (j < 0))) := fun m => by
    rw [Bool.eq_iff_iff]; simp [hj]; omega
  unfold doneB
  rw [e]
theorem prsO_all {l : List Pr} {o : List Nat} {n : Nat} (h : ∀ p ∈ l, o.idxOf (p.side.toNat / 2) < n) : prsO l o n 0 = l.map (arrP o) := by
  refine List.ext_getElem (by simp [prsO]) fun i h1 h2 => ?_
  rw [prsO_len] at h1
  have h3 := h _ (List.getElem_mem h1)
  simp [prsO, doneB, h1, h3]
theorem prsO_get {l : List Pr} {o : List Nat} {k i : Nat} (h : i < l.length) (h' : i < (prsO l o k i).length) : (prsO l o k i)[i] = if o.idxOf ((l.getD i default).side.toNat / 2) < k then arrP o (l.getD i default) else l.getD i default := by
  simp [prsO, doneB]
theorem prsO_set {l : List Pr} {o : List Nat} {k i : Nat} (h : i < l.length) (hk : o.idxOf ((l.getD i default).side.toNat / 2) = k) : (prsO l o k i).set i (arrP o (l.getD i default)) = prsO l o k (i + 1) := by
  refine List.ext_getElem (by simp [prsO]) fun j h1 h2 => ?_
  rw [prsO_len] at h2
  rw [List.getElem_set]
  by_cases e : i = j
  · subst e
    rw [if_pos rfl]
    simp only [prsO, doneB, List.getElem_map, List.getElem_range, hk]
    simp
  · rw [if_neg e]
    simp only [prsO, doneB, List.getElem_map, List.getElem_range]
    have e2 : decide (j < i) = decide (j < i + 1) := by rw [Bool.eq_iff_iff]; simp; omega
    rw [e2]
theorem prsO_skip {l : List Pr} {o : List Nat} {k i : Nat} (h : i < l.length) (hk : o.idxOf ((l.getD i default).side.toNat / 2) ≠ k) : prsO l o k (i + 1) = prsO l o k i := by
  unfold prsO
  refine List.map_congr_left fun j hj => ?_
  by_cases e : i = j
  · subst e
    unfold doneB
    rw [decide_eq_false hk]; simp
  · have e2 : decide (j < i + 1) = decide (j < i) := by rw [Bool.eq_iff_iff]; simp; omega
    unfold doneB
    rw [e2]
theorem recs_grpO {l : List Rec} {n : Nat} (h : l.length = n) : grp 2 n ((flatG Rec.cds l).take (n * 2)) = l.map Rec.cds := by
  rw [← h]; exact grp_cellsG rec_two l
theorem recs_fitO {l : List Rec} {n : Nat} (h : l.length = n) : (n * 2 ≤ (flatG Rec.cds l).length) = True := by rw [flatG_len rec_two, h]; simp
theorem prs_grpO {l : List Pr} {n : Nat} (h : l.length = n) : grp 2 n ((flatG Pr.cds l).take (n * 2)) = l.map Pr.cds := by
  rw [← h]; exact grp_cellsG pr_two l
theorem prs_fitO {l : List Pr} {n : Nat} (h : l.length = n) : (n * 2 ≤ (flatG Pr.cds l).length) = True := by rw [flatG_len pr_two, h]; simp
theorem map_rcO {t : Tray} {k : Nat} (h : k < t.n) : (t.recs.map Rec.cds).getD k [] = [.int .i64 (t.rc k).front, .int .i64 (t.rc k).back] := by
  have hl : t.recs.length = t.n := rfl
  rw [map_getD (by rw [hl]; exact h)]
  unfold Tray.rc; rw [List.getD_eq_getElem?_getD, List.getElem?_eq_getElem (by rw [hl]; exact h)]; rfl
theorem map_prO {l : List Pr} {k : Nat} (h : k < l.length) : (l.map Pr.cds).getD k [] = [.int .i64 (l.getD k default).side, .int .i64 (l.getD k default).time] := by
  rw [map_getD h, List.getD_eq_getElem?_getD, List.getElem?_eq_getElem h]; rfl
set_option maxRecDepth 20000 in
set_option maxHeartbeats 16000000 in
theorem arranged39 {t : Tray} (ht : TrayOk t) {o : List Nat} (ho : IsOrd t.n o) : FSpec Try.prog 39 [t.av, .c (natsC o)] (arrT t o).av := by
  have hmax : maxLen = 9223372036854775807 := rfl
  have hn6 := ht.n6
  have hn1 := ht.n1
  have h13 := ht.p13
  have hrl : t.recs.length = t.n := rfl
  have hol := ho.len
  have hne : t.recs ≠ [] := by intro h; unfold Tray.n at hn1; rw [h] at hn1; simp at hn1
  have hcop := copyV t hne (by omega) (by omega)
  have hidx : ∀ p ∈ t.pres, o.idxOf (p.side.toNat / 2) < t.n := fun p hp => (arrP_side ho (ht.pres p hp).1).1
  have hav : (arrT t o).av = .agg [.c (.sl 2 ((recsO t o t.n).map Rec.cds)), iv t.at_, iv t.way, iv t.step, .c (.sl 2 ((prsO t.pres o t.n 0).map Pr.cds))] := by rw [recsO_all t ho, prsO_all hidx]; rfl
  rw [hav]
  have hrg := recs_grpO (recsO_len t o t.n)
  have hrf := recs_fitO (recsO_len t o t.n)
  have hpg := prs_grpO (prsO_len t.pres o t.n 0)
  have hpf := prs_fitO (prsO_len t.pres o t.n 0)
  have hz : ∀ j, cellsG Rec.cds t.recs j = cellsG Rec.cds (recsO t o 0) j := fun j => by rw [recsO_zero]
  have hzp : ∀ j, cellsG Pr.cds t.pres j = cellsG Pr.cds (prsO t.pres o 0 0) j := fun j => by rw [prsO_zero]
  refine FSpec_of c39 (Nat.le_refl _) (by decide) fun C hP hN hC hL => ?_
  simp only [ir39, Tray.av]
  (repeat ((first | refine WV_seq_ ?_ | refine WV_block ?_ | refine WV_ops ?_ | refine WV_skip ?_ | refine WV_exit ?_); (try simp only [go_sem, init_env', Nat.reduceEqDiff, Nat.reduceAdd, Nat.reduceMul, reduceIte, Nat.reduceLeDiff, Nat.reduceLT, Nat.reduceBEq, reduceCtorEq, hP, ]); (repeat (refine And.intro (by first | omega | (intros; simp_all; done) | (intros; simp_all; omega)) ?_))))
  refine AS_new hcop rfl rfl rfl rfl ?_
  rintro res os ⟨cap, j, y, oo, q1, q2, q3, rfl, rfl, hy⟩
  rcases hy with ⟨hpn, rfl, rfl⟩ | ⟨hpn, cap2, j2, r1, r2, r3, rfl, rfl⟩
  · refine ⟨[900, 901], .agg [.vw 2 900 0 t.recs.length cap, iv t.at_, iv t.way, iv t.step, .gr 901], [.box (cellsG Rec.cds t.recs j), .grow 27 2 []], by decide, rfl, by simp only [go_sem, init_env', Nat.reduceEqDiff, Nat.reduceAdd, Nat.reduceMul, reduceIte, Nat.reduceLeDiff, Nat.reduceLT, Nat.reduceBEq, reduceCtorEq, decide_true], rfl, (by simp only [obsBack, Ob.back, back_cellsG]; rfl), ?_⟩
    simp only [go_sem, init_env', Nat.reduceEqDiff, Nat.reduceAdd, Nat.reduceMul, reduceIte, Nat.reduceLeDiff, Nat.reduceLT, Nat.reduceBEq, reduceCtorEq, hP, ownBack]
    (repeat (refine And.intro (by first | omega | (intros; simp_all; done) | (intros; simp_all; omega)) ?_))
    have hpe : prsO t.pres o t.n 0 = [] := by rw [hpn]; rfl
    rw [hz, hpe]
    (repeat ((first | refine WV_seq_ ?_ | refine WV_block ?_ | refine WV_ops ?_ | refine WV_skip ?_ | refine WV_exit ?_); (try simp only [go_sem, init_env', Nat.reduceEqDiff, Nat.reduceAdd, Nat.reduceMul, reduceIte, Nat.reduceLeDiff, Nat.reduceLT, Nat.reduceBEq, reduceCtorEq, hP, ]); (repeat (refine And.intro (by first | omega | (intros; simp_all; done) | (intros; simp_all; omega)) ?_))))
    refine WV_loopK K39_1 [5, 900] (fun k : Nat => k ≤ t.n) (fun k => t.n - k) (fun k => [(6, iv k)]) (fun k => [(5, .box [.vw 2 900 0 t.n cap, iv t.at_, iv t.way, iv t.step, .gr 901]), (900, .box (cellsG Rec.cds (recsO t o k) j))]) 0 (Nat.zero_le _) ?_ ?_
    · rw [hrl]
      (refine Sub_of (by simp only [go_sem, init_env', Nat.reduceEqDiff, Nat.reduceAdd, Nat.reduceMul, reduceIte, Nat.reduceLeDiff, Nat.reduceLT, Nat.reduceBEq, reduceCtorEq]; ((repeat' (first | exact EnvLe_e0 _ _ | refine EnvLe_upd ?_ ?_)) <;> ((try simp only [upd_app, e0_app, o0_app, Nat.reduceEqDiff, reduceIte]); first | exact AWk.refl _ _ | exact AWk.int (by omega) | exact AWk.int (by rw [w64 (by omega) (by omega)]; omega) | exact AWk.grow rfl | exact AWk.nil _ | exact AWk.of (by simp)))) (by simp only [go_sem, init_env', Nat.reduceEqDiff, Nat.reduceAdd, Nat.reduceMul, reduceIte, Nat.reduceLeDiff, Nat.reduceLT, Nat.reduceBEq, reduceCtorEq]; (first | ((repeat' (first | exact ObjLe_o0 _ | exact ObjLe.rfl' _ | refine ObjLe_same ?_ | refine ObjLe_upd ?_ ?_ | refine ObjLe_new rfl ?_)) <;> rfl) | (refine ObjLe_X ?_; (repeat' (first | exact ObjLeX_o0 _ _ | refine ObjLeX_skip rfl ?_ | refine ObjLeX_upd ?_ ?_)) <;> rfl))))
    intro k hk
    simp only [go_sem, init_env', Nat.reduceEqDiff, Nat.reduceAdd, Nat.reduceMul, reduceIte, Nat.reduceLeDiff, Nat.reduceLT, Nat.reduceBEq, reduceCtorEq]
    (repeat ((first | refine WV_seq_ ?_ | refine WV_block ?_ | refine WV_ops ?_ | refine WV_skip ?_ | refine WV_exit ?_); (try simp only [go_sem, init_env', Nat.reduceEqDiff, Nat.reduceAdd, Nat.reduceMul, reduceIte, Nat.reduceLeDiff, Nat.reduceLT, Nat.reduceBEq, reduceCtorEq, hP, natsC, List.length_map, hol]); (repeat (refine And.intro (by first | omega | (intros; simp_all; done) | (intros; simp_all; omega)) ?_))))
    (refine WV_cond rfl (fun h => ?_) (fun h => ?_))
    · have hkl : k < t.n := by simpa using h
      have hI : (k : Int) < (t.n : Int) := by omega
      have hw8 := w64 (n := (k : Int) + 1) (by omega) (by omega)
      have hkl2 : k < o.length := by omega
      have g0 : (o.map ncd).getD k [] = [.int .i64 ((o.getD k 0 : Nat) : Int)] := by
        rw [map_getD hkl2, List.getD_eq_getElem?_getD, List.getElem?_eq_getElem hkl2]; rfl
      have hlt : o.getD k 0 < t.n := by
        rw [List.getD_eq_getElem?_getD, List.getElem?_eq_getElem hkl2]; exact ho.lt (List.getElem_mem hkl2)
      have g1 := map_rcO hlt
      have hst := recsO_step t o hkl
      have hlk : k < (recsO t o k).length := by rw [recsO_len]; exact hkl
      have hsp := put2 rec_two hlk j (t.rc (o.getD k 0)) (x := .int .i64 (t.rc (o.getD k 0)).front) (y := .int .i64 (t.rc (o.getD k 0)).back) rfl
      rw [hst] at hsp
      have hcl : k * 2 + 2 ≤ (cellsG Rec.cds (recsO t o k) j).length := by rw [cellsG_len rec_two, recsO_len]; omega
      generalize t.rc (o.getD k 0) = X at *
      generalize o.getD k 0 = m at *
      have hI2 : (m : Int) < (t.n : Int) := by omega
      (repeat ((first | refine WV_seq_ ?_ | refine WV_block ?_ | refine WV_ops ?_ | refine WV_skip ?_ | refine WV_exit ?_); (try simp only [go_sem, init_env', Nat.reduceEqDiff, Nat.reduceAdd, Nat.reduceMul, reduceIte, Nat.reduceLeDiff, Nat.reduceLT, Nat.reduceBEq, reduceCtorEq, hP, natsC, g0, recsC, g1, hI2, hI, hkl, hol, List.length_map, hrl, Int.natCast_nonneg, hsp, hcl]); (repeat (refine And.intro (by first | omega | (intros; simp_all; done) | (intros; simp_all; omega)) ?_))))
      refine WV_loopK K39_2 [] (fun i : Nat => i ≤ 0) (fun i => 0) (fun i => [(7, iv i)]) (fun i => []) 0 (Nat.zero_le _) ?_ ?_
      · (refine Sub_of (by simp only [go_sem, init_env', Nat.reduceEqDiff, Nat.reduceAdd, Nat.reduceMul, reduceIte, Nat.reduceLeDiff, Nat.reduceLT, Nat.reduceBEq, reduceCtorEq]; ((repeat' (first | exact EnvLe_e0 _ _ | refine EnvLe_upd ?_ ?_)) <;> ((try simp only [upd_app, e0_app, o0_app, Nat.reduceEqDiff, reduceIte]); first | exact AWk.refl _ _ | exact AWk.int (by omega) | exact AWk.int (by rw [w64 (by omega) (by omega)]; omega) | exact AWk.grow rfl | exact AWk.nil _ | exact AWk.of (by simp)))) (by simp only [go_sem, init_env', Nat.reduceEqDiff, Nat.reduceAdd, Nat.reduceMul, reduceIte, Nat.reduceLeDiff, Nat.reduceLT, Nat.reduceBEq, reduceCtorEq]; (first | ((repeat' (first | exact ObjLe_o0 _ | exact ObjLe.rfl' _ | refine ObjLe_same ?_ | refine ObjLe_upd ?_ ?_ | refine ObjLe_new rfl ?_)) <;> rfl) | (refine ObjLe_X ?_; (repeat' (first | exact ObjLeX_o0 _ _ | refine ObjLeX_skip rfl ?_ | refine ObjLeX_upd ?_ ?_)) <;> rfl))))
      intro i hi
      have hi0 : i = 0 := by omega
      subst hi0
      have hz0 : t.pres.length = 0 := by rw [hpn]; rfl
      simp only [go_sem, init_env', Nat.reduceEqDiff, Nat.reduceAdd, Nat.reduceMul, reduceIte, Nat.reduceLeDiff, Nat.reduceLT, Nat.reduceBEq, reduceCtorEq]
      (repeat ((first | refine WV_seq_ ?_ | refine WV_block ?_ | refine WV_ops ?_ | refine WV_skip ?_ | refine WV_exit ?_); (try simp only [go_sem, init_env', Nat.reduceEqDiff, Nat.reduceAdd, Nat.reduceMul, reduceIte, Nat.reduceLeDiff, Nat.reduceLT, Nat.reduceBEq, reduceCtorEq, hP, prsC, List.length_map, hz0, Int.natCast_zero]); (repeat (refine And.intro (by first | omega | (intros; simp_all; done) | (intros; simp_all; omega)) ?_))))
      (refine WV_cond rfl (fun h => ?_) (fun h => ?_))
      · simp at h
      (refine WV_exit ?_; simp only [go_sem, init_env', Nat.reduceEqDiff, Nat.reduceAdd, Nat.reduceMul, reduceIte, Nat.reduceLeDiff, Nat.reduceLT, Nat.reduceBEq, reduceCtorEq])
      (repeat ((first | refine WV_seq_ ?_ | refine WV_block ?_ | refine WV_ops ?_ | refine WV_skip ?_ | refine WV_exit ?_); (try simp only [go_sem, init_env', Nat.reduceEqDiff, Nat.reduceAdd, Nat.reduceMul, reduceIte, Nat.reduceLeDiff, Nat.reduceLT, Nat.reduceBEq, reduceCtorEq, hP, hw8]); (repeat (refine And.intro (by first | omega | (intros; simp_all; done) | (intros; simp_all; omega)) ?_))))
      refine ⟨k + 1, by omega, by omega, ?_⟩
      (refine Sub_of (by simp only [go_sem, init_env', Nat.reduceEqDiff, Nat.reduceAdd, Nat.reduceMul, reduceIte, Nat.reduceLeDiff, Nat.reduceLT, Nat.reduceBEq, reduceCtorEq]; ((repeat' (first | exact EnvLe_e0 _ _ | refine EnvLe_upd ?_ ?_)) <;> ((try simp only [upd_app, e0_app, o0_app, Nat.reduceEqDiff, reduceIte]); first | exact AWk.refl _ _ | exact AWk.int (by omega) | exact AWk.int (by rw [w64 (by omega) (by omega)]; omega) | exact AWk.grow rfl | exact AWk.nil _ | exact AWk.of (by simp)))) (by simp only [go_sem, init_env', Nat.reduceEqDiff, Nat.reduceAdd, Nat.reduceMul, reduceIte, Nat.reduceLeDiff, Nat.reduceLT, Nat.reduceBEq, reduceCtorEq]; (first | ((repeat' (first | exact ObjLe_o0 _ | exact ObjLe.rfl' _ | refine ObjLe_same ?_ | refine ObjLe_upd ?_ ?_ | refine ObjLe_new rfl ?_)) <;> rfl) | (refine ObjLe_X ?_; (repeat' (first | exact ObjLeX_o0 _ _ | refine ObjLeX_skip rfl ?_ | refine ObjLeX_upd ?_ ?_)) <;> rfl))))
    have h : k = t.n := by simp at h; omega
    subst h
    (refine WV_exit ?_; simp only [go_sem, init_env', Nat.reduceEqDiff, Nat.reduceAdd, Nat.reduceMul, reduceIte, Nat.reduceLeDiff, Nat.reduceLT, Nat.reduceBEq, reduceCtorEq])
    refine WV_freezeJ 900 (ds := flatG Rec.cds (recsO t o t.n)) (junk := List.replicate j .non) rfl ?_
    simp only [go_sem, init_env', Nat.reduceEqDiff, Nat.reduceAdd, Nat.reduceMul, reduceIte, Nat.reduceLeDiff, Nat.reduceLT, Nat.reduceBEq, reduceCtorEq, hrg, hrf, frz_cellsG]
    (repeat ((first | refine WV_seq_ ?_ | refine WV_block ?_ | refine WV_ops ?_ | refine WV_skip ?_ | refine WV_exit ?_); (try simp only [go_sem, init_env', Nat.reduceEqDiff, Nat.reduceAdd, Nat.reduceMul, reduceIte, Nat.reduceLeDiff, Nat.reduceLT, Nat.reduceBEq, reduceCtorEq, hP, ]); (repeat (refine And.intro (by first | omega | (intros; simp_all; done) | (intros; simp_all; omega)) ?_))))
    (refine WV_ret ?_; simp only [thenQ, inQ, RetQ, RetOk, resAll, resA]; simp only [go_sem, init_env', Nat.reduceEqDiff, Nat.reduceAdd, Nat.reduceMul, reduceIte, Nat.reduceLeDiff, Nat.reduceLT, Nat.reduceBEq, reduceCtorEq, tupA, AV.port, AV.portL, exists_eq_left', ]; (first | exact AVle.of rfl | refine AVle.of ?_ | skip))
  · refine ⟨[900, 901], .agg [.vw 2 900 0 t.recs.length cap, iv t.at_, iv t.way, iv t.step, .vw 2 901 0 t.pres.length cap2], [.box (cellsG Rec.cds t.recs j), .box (cellsG Pr.cds t.pres j2)], by decide, rfl, by simp only [go_sem, init_env', Nat.reduceEqDiff, Nat.reduceAdd, Nat.reduceMul, reduceIte, Nat.reduceLeDiff, Nat.reduceLT, Nat.reduceBEq, reduceCtorEq, decide_true], rfl, (by simp only [obsBack, Ob.back, back_cellsG]; rfl), ?_⟩
    simp only [go_sem, init_env', Nat.reduceEqDiff, Nat.reduceAdd, Nat.reduceMul, reduceIte, Nat.reduceLeDiff, Nat.reduceLT, Nat.reduceBEq, reduceCtorEq, hP, ownBack]
    (repeat (refine And.intro (by first | omega | (intros; simp_all; done) | (intros; simp_all; omega)) ?_))
    rw [hz, hzp]
    (repeat ((first | refine WV_seq_ ?_ | refine WV_block ?_ | refine WV_ops ?_ | refine WV_skip ?_ | refine WV_exit ?_); (try simp only [go_sem, init_env', Nat.reduceEqDiff, Nat.reduceAdd, Nat.reduceMul, reduceIte, Nat.reduceLeDiff, Nat.reduceLT, Nat.reduceBEq, reduceCtorEq, hP, ]); (repeat (refine And.intro (by first | omega | (intros; simp_all; done) | (intros; simp_all; omega)) ?_))))
    refine WV_loopK K39_1 [5, 900, 901] (fun k : Nat => k ≤ t.n) (fun k => t.n - k) (fun k => [(6, iv k)]) (fun k => [(5, .box [.vw 2 900 0 t.n cap, iv t.at_, iv t.way, iv t.step, .vw 2 901 0 t.pres.length cap2]), (900, .box (cellsG Rec.cds (recsO t o k) j)), (901, .box (cellsG Pr.cds (prsO t.pres o k 0) j2))]) 0 (Nat.zero_le _) ?_ ?_
    · rw [hrl]
      (refine Sub_of (by simp only [go_sem, init_env', Nat.reduceEqDiff, Nat.reduceAdd, Nat.reduceMul, reduceIte, Nat.reduceLeDiff, Nat.reduceLT, Nat.reduceBEq, reduceCtorEq]; ((repeat' (first | exact EnvLe_e0 _ _ | refine EnvLe_upd ?_ ?_)) <;> ((try simp only [upd_app, e0_app, o0_app, Nat.reduceEqDiff, reduceIte]); first | exact AWk.refl _ _ | exact AWk.int (by omega) | exact AWk.int (by rw [w64 (by omega) (by omega)]; omega) | exact AWk.grow rfl | exact AWk.nil _ | exact AWk.of (by simp)))) (by simp only [go_sem, init_env', Nat.reduceEqDiff, Nat.reduceAdd, Nat.reduceMul, reduceIte, Nat.reduceLeDiff, Nat.reduceLT, Nat.reduceBEq, reduceCtorEq]; (first | ((repeat' (first | exact ObjLe_o0 _ | exact ObjLe.rfl' _ | refine ObjLe_same ?_ | refine ObjLe_upd ?_ ?_ | refine ObjLe_new rfl ?_)) <;> rfl) | (refine ObjLe_X ?_; (repeat' (first | exact ObjLeX_o0 _ _ | refine ObjLeX_skip rfl ?_ | refine ObjLeX_upd ?_ ?_)) <;> rfl))))
    intro k hk
    simp only [go_sem, init_env', Nat.reduceEqDiff, Nat.reduceAdd, Nat.reduceMul, reduceIte, Nat.reduceLeDiff, Nat.reduceLT, Nat.reduceBEq, reduceCtorEq]
    (repeat ((first | refine WV_seq_ ?_ | refine WV_block ?_ | refine WV_ops ?_ | refine WV_skip ?_ | refine WV_exit ?_); (try simp only [go_sem, init_env', Nat.reduceEqDiff, Nat.reduceAdd, Nat.reduceMul, reduceIte, Nat.reduceLeDiff, Nat.reduceLT, Nat.reduceBEq, reduceCtorEq, hP, natsC, List.length_map, hol]); (repeat (refine And.intro (by first | omega | (intros; simp_all; done) | (intros; simp_all; omega)) ?_))))
    (refine WV_cond rfl (fun h => ?_) (fun h => ?_))
    · have hkl : k < t.n := by simpa using h
      have hI : (k : Int) < (t.n : Int) := by omega
      have hw8 := w64 (n := (k : Int) + 1) (by omega) (by omega)
      have hkl2 : k < o.length := by omega
      have g0 : (o.map ncd).getD k [] = [.int .i64 ((o.getD k 0 : Nat) : Int)] := by
        rw [map_getD hkl2, List.getD_eq_getElem?_getD, List.getElem?_eq_getElem hkl2]; rfl
      have hlt : o.getD k 0 < t.n := by
        rw [List.getD_eq_getElem?_getD, List.getElem?_eq_getElem hkl2]; exact ho.lt (List.getElem_mem hkl2)
      have hgk : o.idxOf (o.getD k 0) = k := by
        rw [List.getD_eq_getElem?_getD, List.getElem?_eq_getElem hkl2]
        exact (ho.nodup_iff.2 List.nodup_range).idxOf_getElem k hkl2
      have hmem : o.getD k 0 ∈ o := by rw [List.getD_eq_getElem?_getD, List.getElem?_eq_getElem hkl2]; exact List.getElem_mem hkl2
      have g1 := map_rcO hlt
      have hst := recsO_step t o hkl
      have hlk : k < (recsO t o k).length := by rw [recsO_len]; exact hkl
      have hsp := put2 rec_two hlk j (t.rc (o.getD k 0)) (x := .int .i64 (t.rc (o.getD k 0)).front) (y := .int .i64 (t.rc (o.getD k 0)).back) rfl
      rw [hst] at hsp
      have hcl : k * 2 + 2 ≤ (cellsG Rec.cds (recsO t o k) j).length := by rw [cellsG_len rec_two, recsO_len]; omega
      generalize t.rc (o.getD k 0) = X at *
      generalize o.getD k 0 = m at *
      have hI2 : (m : Int) < (t.n : Int) := by omega
      (repeat ((first | refine WV_seq_ ?_ | refine WV_block ?_ | refine WV_ops ?_ | refine WV_skip ?_ | refine WV_exit ?_); (try simp only [go_sem, init_env', Nat.reduceEqDiff, Nat.reduceAdd, Nat.reduceMul, reduceIte, Nat.reduceLeDiff, Nat.reduceLT, Nat.reduceBEq, reduceCtorEq, hP, natsC, g0, recsC, g1, hI2, hI, hkl, hol, List.length_map, hrl, Int.natCast_nonneg, hsp, hcl]); (repeat (refine And.intro (by first | omega | (intros; simp_all; done) | (intros; simp_all; omega)) ?_))))
      refine WV_loopK K39_2 [901] (fun i : Nat => i ≤ t.pres.length) (fun i => t.pres.length - i) (fun i => [(7, iv i)]) (fun i => [(901, .box (cellsG Pr.cds (prsO t.pres o k i) j2))]) 0 (Nat.zero_le _) ?_ ?_
      · (refine Sub_of (by simp only [go_sem, init_env', Nat.reduceEqDiff, Nat.reduceAdd, Nat.reduceMul, reduceIte, Nat.reduceLeDiff, Nat.reduceLT, Nat.reduceBEq, reduceCtorEq]; ((repeat' (first | exact EnvLe_e0 _ _ | refine EnvLe_upd ?_ ?_)) <;> ((try simp only [upd_app, e0_app, o0_app, Nat.reduceEqDiff, reduceIte]); first | exact AWk.refl _ _ | exact AWk.int (by omega) | exact AWk.int (by rw [w64 (by omega) (by omega)]; omega) | exact AWk.grow rfl | exact AWk.nil _ | exact AWk.of (by simp)))) (by simp only [go_sem, init_env', Nat.reduceEqDiff, Nat.reduceAdd, Nat.reduceMul, reduceIte, Nat.reduceLeDiff, Nat.reduceLT, Nat.reduceBEq, reduceCtorEq]; (first | ((repeat' (first | exact ObjLe_o0 _ | exact ObjLe.rfl' _ | refine ObjLe_same ?_ | refine ObjLe_upd ?_ ?_ | refine ObjLe_new rfl ?_)) <;> rfl) | (refine ObjLe_X ?_; (repeat' (first | exact ObjLeX_o0 _ _ | refine ObjLeX_skip rfl ?_ | refine ObjLeX_upd ?_ ?_)) <;> rfl))))
      intro i hi
      simp only [go_sem, init_env', Nat.reduceEqDiff, Nat.reduceAdd, Nat.reduceMul, reduceIte, Nat.reduceLeDiff, Nat.reduceLT, Nat.reduceBEq, reduceCtorEq]
      (repeat ((first | refine WV_seq_ ?_ | refine WV_block ?_ | refine WV_ops ?_ | refine WV_skip ?_ | refine WV_exit ?_); (try simp only [go_sem, init_env', Nat.reduceEqDiff, Nat.reduceAdd, Nat.reduceMul, reduceIte, Nat.reduceLeDiff, Nat.reduceLT, Nat.reduceBEq, reduceCtorEq, hP, prsC, List.length_map]); (repeat (refine And.intro (by first | omega | (intros; simp_all; done) | (intros; simp_all; omega)) ?_))))
      (refine WV_cond rfl (fun h => ?_) (fun h => ?_))
      · have hil : i < t.pres.length := by simpa using h
        have hI3 : (i : Int) < (t.pres.length : Int) := by omega
        have hw9 := w64 (n := (i : Int) + 1) (by omega) (by omega)
        have hps : 0 ≤ (t.pres.getD i default).side ∧ (t.pres.getD i default).side < 2 * (t.n : Int) := by
          rw [List.getD_eq_getElem?_getD, List.getElem?_eq_getElem hil]; exact (ht.pres _ (List.getElem_mem hil)).1
        have g2 := map_prO hil
        have hset := prsO_set (o := o) (k := k) hil
        have hskip := prsO_skip (o := o) (k := k) hil
        have hget := prsO_get (o := o) (k := k) hil (by rw [prsO_len]; exact hil)
        have hlk2 : i < (prsO t.pres o k i).length := by rw [prsO_len]; exact hil
        have hmem2 := (arrP_side ho hps)
        have harr : arrP o (t.pres.getD i default) = ⟨2 * (o.idxOf ((t.pres.getD i default).side.toNat / 2) : Int) + (t.pres.getD i default).side % 2, (t.pres.getD i default).time⟩ := rfl
        have hcl2 : i * 2 < (cellsG Pr.cds (prsO t.pres o k i) j2).length := by rw [cellsG_len pr_two, prsO_len]; omega
        generalize t.pres.getD i default = p at *
        obtain ⟨S0, T0⟩ := p
        simp only at hps g2 hset hskip hget hmem2 harr
        obtain ⟨s0, rfl⟩ := Int.eq_ofNat_of_zero_le hps.1
        rw [Int.toNat_natCast] at hset hskip hget hmem2 harr
        have e1 : ((s0 : Int)).tdiv 2 = ((s0 / 2 : Nat) : Int) := by rw [Int.tdiv_eq_ediv_of_nonneg (by omega)]; omega
        have e2 : ((s0 : Int)).tmod 2 = ((s0 % 2 : Nat) : Int) := by rw [Int.tmod_eq_emod_of_nonneg (by omega)]; omega
        have w1 := w64 (n := ((s0 / 2 : Nat) : Int)) (by omega) (by omega)
        have w2 := w64 (n := ((s0 % 2 : Nat) : Int)) (by omega) (by omega)
        have w3 := w64 (n := 2 * (k : Int)) (by omega) (by omega)
        have w4 := w64 (n := 2 * (k : Int) + ((s0 % 2 : Nat) : Int)) (by omega) (by omega)
        have hb : (((s0 / 2 : Nat) : Int) == (m : Int)) = decide (s0 / 2 = m) := by rw [Bool.eq_iff_iff]; simp; omega
        (repeat ((first | refine WV_seq_ ?_ | refine WV_block ?_ | refine WV_ops ?_ | refine WV_skip ?_ | refine WV_exit ?_); (try simp only [go_sem, init_env', Nat.reduceEqDiff, Nat.reduceAdd, Nat.reduceMul, reduceIte, Nat.reduceLeDiff, Nat.reduceLT, Nat.reduceBEq, reduceCtorEq, hP, prsC, natsC, g0, g2, hI3, hil, hI, hkl, hol, List.length_map, Int.natCast_nonneg, e1, w1, hb]); (repeat (refine And.intro (by first | omega | (intros; simp_all; done) | (intros; simp_all; omega)) ?_))))
        by_cases hc : s0 / 2 = m
        · have hix : o.idxOf (s0 / 2) = k := by rw [hc]; exact hgk
          have hset := hset hix
          rw [hix, if_neg (by omega)] at hget
          rw [hix] at harr
          have hcs := cellsG_set pr_two hlk2 j2 0 (by decide) (.int .i64 (2 * (k : Int) + ((s0 % 2 : Nat) : Int))) (arrP o ⟨(s0 : Int), T0⟩) (by
            rw [hget, harr]
            show [CD.int .i64 (2 * (k : Int) + (s0 : Int) % 2), CD.int .i64 T0] = _
            rw [show 2 * (k : Int) + (s0 : Int) % 2 = 2 * (k : Int) + ((s0 % 2 : Nat) : Int) from by omega]
            rfl)
          rw [hset] at hcs
          simp only [Nat.add_zero] at hcs
          rw [decide_eq_true hc]
          (refine WV_cond rfl (fun h => ?_) (fun h => ?_))
          rotate_left
          · simp at h
          (repeat ((first | refine WV_seq_ ?_ | refine WV_block ?_ | refine WV_ops ?_ | refine WV_skip ?_ | refine WV_exit ?_); (try simp only [go_sem, init_env', Nat.reduceEqDiff, Nat.reduceAdd, Nat.reduceMul, reduceIte, Nat.reduceLeDiff, Nat.reduceLT, Nat.reduceBEq, reduceCtorEq, hP, prsC, g2, hI3, hil, List.length_map, Int.natCast_nonneg, e2, w2, w3, w4, hcs, hcl2, hw9]); (repeat (refine And.intro (by first | omega | (intros; simp_all; done) | (intros; simp_all; omega)) ?_))))
          refine ⟨i + 1, by omega, by omega, ?_⟩
          (refine Sub_of (by simp only [go_sem, init_env', Nat.reduceEqDiff, Nat.reduceAdd, Nat.reduceMul, reduceIte, Nat.reduceLeDiff, Nat.reduceLT, Nat.reduceBEq, reduceCtorEq]; ((repeat' (first | exact EnvLe_e0 _ _ | refine EnvLe_upd ?_ ?_)) <;> ((try simp only [upd_app, e0_app, o0_app, Nat.reduceEqDiff, reduceIte]); first | exact AWk.refl _ _ | exact AWk.int (by omega) | exact AWk.int (by rw [w64 (by omega) (by omega)]; omega) | exact AWk.grow rfl | exact AWk.nil _ | exact AWk.of (by simp)))) (by simp only [go_sem, init_env', Nat.reduceEqDiff, Nat.reduceAdd, Nat.reduceMul, reduceIte, Nat.reduceLeDiff, Nat.reduceLT, Nat.reduceBEq, reduceCtorEq]; (first | ((repeat' (first | exact ObjLe_o0 _ | exact ObjLe.rfl' _ | refine ObjLe_same ?_ | refine ObjLe_upd ?_ ?_ | refine ObjLe_new rfl ?_)) <;> rfl) | (refine ObjLe_X ?_; (repeat' (first | exact ObjLeX_o0 _ _ | refine ObjLeX_skip rfl ?_ | refine ObjLeX_upd ?_ ?_)) <;> rfl))))
        · have hix : o.idxOf (s0 / 2) ≠ k := by
            intro he
            apply hc
            have h1 := List.getElem_idxOf (x := s0 / 2) (xs := o) (by rw [he]; exact hkl2)
            have h2 := List.getElem_idxOf (x := m) (xs := o) (by rw [hgk]; exact hkl2)
            simp only [he] at h1
            simp only [hgk] at h2
            rw [← h1, h2]
          have hskip := hskip hix
          rw [decide_eq_false hc]
          (refine WV_cond rfl (fun h => ?_) (fun h => ?_))
          · simp at h
          (repeat ((first | refine WV_seq_ ?_ | refine WV_block ?_ | refine WV_ops ?_ | refine WV_skip ?_ | refine WV_exit ?_); (try simp only [go_sem, init_env', Nat.reduceEqDiff, Nat.reduceAdd, Nat.reduceMul, reduceIte, Nat.reduceLeDiff, Nat.reduceLT, Nat.reduceBEq, reduceCtorEq, hP, hw9]); (repeat (refine And.intro (by first | omega | (intros; simp_all; done) | (intros; simp_all; omega)) ?_))))
          refine ⟨i + 1, by omega, by omega, ?_⟩
          rw [hskip]
          (refine Sub_of (by simp only [go_sem, init_env', Nat.reduceEqDiff, Nat.reduceAdd, Nat.reduceMul, reduceIte, Nat.reduceLeDiff, Nat.reduceLT, Nat.reduceBEq, reduceCtorEq]; ((repeat' (first | exact EnvLe_e0 _ _ | refine EnvLe_upd ?_ ?_)) <;> ((try simp only [upd_app, e0_app, o0_app, Nat.reduceEqDiff, reduceIte]); first | exact AWk.refl _ _ | exact AWk.int (by omega) | exact AWk.int (by rw [w64 (by omega) (by omega)]; omega) | exact AWk.grow rfl | exact AWk.nil _ | exact AWk.of (by simp)))) (by simp only [go_sem, init_env', Nat.reduceEqDiff, Nat.reduceAdd, Nat.reduceMul, reduceIte, Nat.reduceLeDiff, Nat.reduceLT, Nat.reduceBEq, reduceCtorEq]; (first | ((repeat' (first | exact ObjLe_o0 _ | exact ObjLe.rfl' _ | refine ObjLe_same ?_ | refine ObjLe_upd ?_ ?_ | refine ObjLe_new rfl ?_)) <;> rfl) | (refine ObjLe_X ?_; (repeat' (first | exact ObjLeX_o0 _ _ | refine ObjLeX_skip rfl ?_ | refine ObjLeX_upd ?_ ?_)) <;> rfl))))
      · have h : i = t.pres.length := by simp at h; omega
        subst h
        rw [prsO_next]
        (refine WV_exit ?_; simp only [go_sem, init_env', Nat.reduceEqDiff, Nat.reduceAdd, Nat.reduceMul, reduceIte, Nat.reduceLeDiff, Nat.reduceLT, Nat.reduceBEq, reduceCtorEq])
        (repeat ((first | refine WV_seq_ ?_ | refine WV_block ?_ | refine WV_ops ?_ | refine WV_skip ?_ | refine WV_exit ?_); (try simp only [go_sem, init_env', Nat.reduceEqDiff, Nat.reduceAdd, Nat.reduceMul, reduceIte, Nat.reduceLeDiff, Nat.reduceLT, Nat.reduceBEq, reduceCtorEq, hP, hw8]); (repeat (refine And.intro (by first | omega | (intros; simp_all; done) | (intros; simp_all; omega)) ?_))))
        refine ⟨k + 1, by omega, by omega, ?_⟩
        (refine Sub_of (by simp only [go_sem, init_env', Nat.reduceEqDiff, Nat.reduceAdd, Nat.reduceMul, reduceIte, Nat.reduceLeDiff, Nat.reduceLT, Nat.reduceBEq, reduceCtorEq]; ((repeat' (first | exact EnvLe_e0 _ _ | refine EnvLe_upd ?_ ?_)) <;> ((try simp only [upd_app, e0_app, o0_app, Nat.reduceEqDiff, reduceIte]); first | exact AWk.refl _ _ | exact AWk.int (by omega) | exact AWk.int (by rw [w64 (by omega) (by omega)]; omega) | exact AWk.grow rfl | exact AWk.nil _ | exact AWk.of (by simp)))) (by simp only [go_sem, init_env', Nat.reduceEqDiff, Nat.reduceAdd, Nat.reduceMul, reduceIte, Nat.reduceLeDiff, Nat.reduceLT, Nat.reduceBEq, reduceCtorEq]; (first | ((repeat' (first | exact ObjLe_o0 _ | exact ObjLe.rfl' _ | refine ObjLe_same ?_ | refine ObjLe_upd ?_ ?_ | refine ObjLe_new rfl ?_)) <;> rfl) | (refine ObjLe_X ?_; (repeat' (first | exact ObjLeX_o0 _ _ | refine ObjLeX_skip rfl ?_ | refine ObjLeX_upd ?_ ?_)) <;> rfl))))
    have h : k = t.n := by simp at h; omega
    subst h
    (refine WV_exit ?_; simp only [go_sem, init_env', Nat.reduceEqDiff, Nat.reduceAdd, Nat.reduceMul, reduceIte, Nat.reduceLeDiff, Nat.reduceLT, Nat.reduceBEq, reduceCtorEq])
    refine WV_freezeJ 900 (ds := flatG Rec.cds (recsO t o t.n)) (junk := List.replicate j .non) rfl ?_
    simp only [go_sem, init_env', Nat.reduceEqDiff, Nat.reduceAdd, Nat.reduceMul, reduceIte, Nat.reduceLeDiff, Nat.reduceLT, Nat.reduceBEq, reduceCtorEq, hrg, hrf, frz_cellsG]
    refine WV_freezeJ 901 (ds := flatG Pr.cds (prsO t.pres o t.n 0)) (junk := List.replicate j2 .non) rfl ?_
    simp only [go_sem, init_env', Nat.reduceEqDiff, Nat.reduceAdd, Nat.reduceMul, reduceIte, Nat.reduceLeDiff, Nat.reduceLT, Nat.reduceBEq, reduceCtorEq, hpg, hpf, frz_cellsG]
    (repeat ((first | refine WV_seq_ ?_ | refine WV_block ?_ | refine WV_ops ?_ | refine WV_skip ?_ | refine WV_exit ?_); (try simp only [go_sem, init_env', Nat.reduceEqDiff, Nat.reduceAdd, Nat.reduceMul, reduceIte, Nat.reduceLeDiff, Nat.reduceLT, Nat.reduceBEq, reduceCtorEq, hP, ]); (repeat (refine And.intro (by first | omega | (intros; simp_all; done) | (intros; simp_all; omega)) ?_))))
    (refine WV_ret ?_; simp only [thenQ, inQ, RetQ, RetOk, resAll, resA]; simp only [go_sem, init_env', Nat.reduceEqDiff, Nat.reduceAdd, Nat.reduceMul, reduceIte, Nat.reduceLeDiff, Nat.reduceLT, Nat.reduceBEq, reduceCtorEq, tupA, AV.port, AV.portL, exists_eq_left', ]; (first | exact AVle.of rfl | refine AVle.of ?_ | skip))
end Go.Proofs.Ytkpgpgaojjobgaa
