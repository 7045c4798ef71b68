/-
  Contracts of the layer's functions, of the laws' helpers and of the law; conditions: as each theorem states.
-/
import Derived.Test.YtkpgpgaojjobgaaU5
import Derived.Test.YtkpgpgaojjobgaaU4
set_option linter.unusedVariables false
set_option linter.unusedSimpArgs false
namespace Go.Proofs.Ytkpgpgaojjobgaa
open Go Go.V
@[reducible] def o65_0 : List Ins := [⟨(some 1), .box 5 (.t 0), none, true⟩,
  ⟨(some 2), .mv (.k (.c (.raw (.slice none 0 0)))), none, true⟩]
@[reducible] def o65_1 : List Ins := [⟨(some 3), .mv (.k (.c (.raw (.slice none 0 0)))), none, true⟩]
@[reducible] def o65_2 : List Ins := [⟨(some 6), .ld false 5 (.t 1), none, true⟩,
  ⟨(some 7), .call (.k (.fn 59 [])) [(.t 6)], none, true⟩,
  ⟨(some 4), .mv (.t 7), none, true⟩]
@[reducible] def o65_3 : List Ins := [⟨(some 5), .mv (.k (.c (.int .i64 0))), none, true⟩]
@[reducible] def o65_4 : List Ins := [⟨(some 8), .mv (.t 5), none, true⟩,
  ⟨(some 9), .mv (.t 4), none, true⟩,
  ⟨(some 10), .len (.t 9), none, true⟩,
  ⟨(some 11), .bin .lss (.t 8) (.t 10), none, true⟩]
@[reducible] def v65_5 : VC := (.cond (.t 11) .skip (.exit 0))
@[reducible] def o65_6 : List Ins := [⟨(some 14), .mv (.t 4), none, true⟩,
  ⟨(some 15), .mv (.t 5), none, true⟩,
  ⟨(some 16), .ia 5 (.t 14) (.t 15), none, true⟩,
  ⟨(some 17), .fa 4 (.t 16), none, true⟩,
  ⟨(some 18), .ld true 1 (.t 17), none, true⟩,
  ⟨(some 19), .bin .geq (.t 18) (.k (.c (.int .i64 0))), none, true⟩]
@[reducible] def o65_7 : List Ins := [⟨(some 20), .mv (.t 3), none, false⟩,
  ⟨(some 21), .mv (.t 4), none, false⟩,
  ⟨(some 22), .mv (.t 5), none, false⟩,
  ⟨(some 23), .ia 5 (.t 21) (.t 22), none, false⟩,
  ⟨(some 24), .fa 4 (.t 23), none, false⟩,
  ⟨(some 25), .ld true 1 (.t 24), none, false⟩,
  ⟨(some 26), .mv (.t 4), none, false⟩,
  ⟨(some 27), .mv (.t 5), none, false⟩,
  ⟨(some 28), .ia 5 (.t 26) (.t 27), none, false⟩,
  ⟨(some 29), .fa 0 (.t 28), none, false⟩,
  ⟨(some 30), .ld true 1 (.t 29), none, false⟩,
  ⟨(some 31), .bld [(.c (.int .i64 0)), (.c (.int .i64 0))] [(0, 1, (.t 25)), (1, 1, (.t 30))], none, false⟩,
  ⟨(some 32), .bsl 41 2 [(.t 31)], none, false⟩,
  ⟨(some 33), .app 41 2 16 (.t 20) (.t 32), none, true⟩,
  ⟨(some 3), .mv (.t 33), none, true⟩]
@[reducible] def v65_8 : VC := (.cond (.t 19) (.ops o65_7) .skip)
@[reducible] def v65_9 : VC := (.seq (.ops o65_6) v65_8)
@[reducible] def o65_10 : List Ins := [⟨(some 12), .mv (.t 5), none, true⟩,
  ⟨(some 13), .bin .add (.t 12) (.k (.c (.int .i64 1))), none, true⟩,
  ⟨(some 5), .mv (.t 13), none, true⟩]
@[reducible] def v65_11 : VC := (.seq (.block 1 v65_9) (.ops o65_10))
@[reducible] def v65_12 : VC := (.seq (.seq (.ops o65_4) v65_5) v65_11)
-- K65_1: changed and kept: [5, 3]
@[reducible] def K65_1 : List Nat := [4]
@[reducible] def v65_13 : VC := (.loop v65_12)
@[reducible] def v65_14 : VC := (.block 0 v65_13)
@[reducible] def o65_15 : List Ins := [⟨(some 34), .mv (.t 3), none, true⟩,
  ⟨(some 2), .mv (.t 34), none, true⟩]
@[reducible] def v65_16 : VC := (.seq (.ops o65_15) .ret)
@[reducible] def v65_17 : VC := (.seq (.seq (.ops o65_3) v65_14) v65_16)
@[reducible] def v65_18 : VC := (.seq (.ops o65_2) v65_17)
@[reducible] def v65_19 : VC := (.seq (.ops o65_1) v65_18)
def ir65 : FC := ⟨1, 35, [.t 2], (.seq (.ops o65_0) v65_19)⟩
@[reducible] def o68_0 : List Ins := [⟨(some 3), .box 2 (.t 1), none, true⟩,
  ⟨(some 4), .mv (.k (.c (.int .i64 0))), none, true⟩]
@[reducible] def o68_1 : List Ins := [⟨(some 5), .mv (.k (.c (.int .i64 0))), none, true⟩]
@[reducible] def o68_2 : List Ins := [⟨(some 6), .mv (.t 5), none, true⟩,
  ⟨(some 7), .mv (.t 0), none, true⟩,
  ⟨(some 8), .len (.t 7), none, true⟩,
  ⟨(some 9), .bin .lss (.t 6) (.t 8), none, true⟩]
@[reducible] def v68_3 : VC := (.cond (.t 9) .skip (.exit 0))
@[reducible] def o68_4 : List Ins := [⟨(some 12), .mv (.t 0), none, false⟩,
  ⟨(some 13), .mv (.t 5), none, false⟩,
  ⟨(some 14), .ia 2 (.t 12) (.t 13), none, false⟩,
  ⟨(some 15), .fa 0 (.t 14), none, false⟩,
  ⟨(some 16), .ld true 1 (.t 15), none, false⟩,
  ⟨(some 17), .fa 0 (.t 3), none, false⟩,
  ⟨(some 18), .ld true 1 (.t 17), none, false⟩,
  ⟨(some 19), .bin .eql (.t 16) (.t 18), none, true⟩,
  ⟨(some 20), .mv (.t 19), none, true⟩,
  ⟨(some 21), .mv (.t 0), (some (20, true)), false⟩,
  ⟨(some 22), .mv (.t 5), (some (20, true)), false⟩,
  ⟨(some 23), .ia 2 (.t 21) (.t 22), (some (20, true)), false⟩,
  ⟨(some 24), .fa 1 (.t 23), (some (20, true)), false⟩,
  ⟨(some 25), .ld true 1 (.t 24), (some (20, true)), false⟩,
  ⟨(some 26), .fa 1 (.t 3), (some (20, true)), false⟩,
  ⟨(some 27), .ld true 1 (.t 26), (some (20, true)), false⟩,
  ⟨(some 28), .bin .geq (.t 25) (.t 27), (some (20, true)), true⟩,
  ⟨(some 29), .pick (.t 20) (.t 28) (.k (.c (.bool false))), none, true⟩]
@[reducible] def o68_5 : List Ins := [⟨(some 30), .mv (.t 5), none, true⟩,
  ⟨(some 4), .mv (.t 30), none, true⟩]
@[reducible] def v68_6 : VC := (.seq (.ops o68_5) .ret)
@[reducible] def v68_7 : VC := (.cond (.t 29) v68_6 .skip)
@[reducible] def v68_8 : VC := (.seq (.ops o68_4) v68_7)
@[reducible] def o68_9 : List Ins := [⟨(some 10), .mv (.t 5), none, true⟩,
  ⟨(some 11), .bin .add (.t 10) (.k (.c (.int .i64 1))), none, true⟩,
  ⟨(some 5), .mv (.t 11), none, true⟩]
@[reducible] def v68_10 : VC := (.seq (.block 1 v68_8) (.ops o68_9))
@[reducible] def v68_11 : VC := (.seq (.seq (.ops o68_2) v68_3) v68_10)
-- K68_1: changed and kept: [5]
@[reducible] def K68_1 : List Nat := [0, 3]
@[reducible] def v68_12 : VC := (.loop v68_11)
@[reducible] def v68_13 : VC := (.block 0 v68_12)
@[reducible] def o68_14 : List Ins := [⟨(some 4), .mv (.k (.c (.int .i64 (-1)))), none, true⟩]
@[reducible] def v68_15 : VC := (.seq (.ops o68_14) .ret)
@[reducible] def v68_16 : VC := (.seq (.seq (.ops o68_1) v68_13) v68_15)
def ir68 : FC := ⟨2, 31, [.t 4], (.seq (.ops o68_0) v68_16)⟩
theorem c65 : compM Try.prog [] 65 = some ir65 := by kernel_rfl
theorem c68 : compM Try.prog [] 68 = some ir68 := by kernel_rfl
theorem emit_len (t : Tray) (s : Cs) : (emit1 t s).length ≤ 2 := by
  have h1 : (playE t s).length ≤ 1 := by unfold playE; split <;> simp
  have h2 : (goE t (s.play t)).length ≤ 1 := by unfold goE; split <;> simp
  unfold emit1
  split
  · simp
  · rw [List.length_append]; omega
theorem evR_len (t : Tray) : ∀ (k : Nat) (s : Cs), (evR t k s).length ≤ 2 * k
  | 0, s => Nat.le_refl _
  | k + 1, s => by
    have h1 := emit_len t s.press
    cases h : s.act t with
    | none => rw [evR_none h]; omega
    | some s' => rw [evR_some h, List.length_append]; have := evR_len t k s'; omega
theorem evS_len (t : Tray) : (evS t).length ≤ 500 := evR_len t 250 _
theorem playsE_take {l : List Ev} {k : Nat} (h : k < l.length) : playsE (l.take (k + 1)) = playsE (l.take k) ++ playOf l[k] := by
  rw [List.take_succ_eq_append_getElem h, playsE_app]; simp [playsE]
theorem playsE_len (l : List Ev) : (playsE l).length ≤ l.length := by
  induction l with
  | nil => exact Nat.le_refl _
  | cons e l ih =>
    have : (playOf e).length ≤ 1 := by unfold playOf; split <;> simp
    show (playOf e ++ playsE l).length ≤ _
    rw [List.length_append, List.length_cons]; omega
set_option maxHeartbeats 8000000 in
theorem plays65 {t : Tray} (ht : TrayOk t) : FSpec Try.prog 65 [t.av] (.c (prsC (playsS t))) := by
  have hmax : maxLen = 9223372036854775807 := rfl
  have hrun := run59 ht
  have hlen := evS_len t
  rw [← (ev_goes ht).1]
  generalize evS t = E at *
  refine FSpec_of c65 (Nat.le_refl _) (by decide) fun C hP hN hC hL => ?_
  simp only [ir65, Tray.av]
  (repeat ((first | refine WV_seq_ ?_ | refine WV_block ?_ | refine WV_ops ?_ | refine WV_skip ?_ | refine WV_exit ?_); (try simp only [go_sem, init_env', Nat.reduceEqDiff, Nat.reduceAdd, Nat.reduceMul, reduceIte, Nat.reduceLeDiff, Nat.reduceLT, Nat.reduceBEq, reduceCtorEq, hP, ]); (repeat (refine And.intro (by first | omega | (intros; simp_all; done) | (intros; simp_all; omega)) ?_))))
  (refine AS_pure (hrun) rfl rfl rfl rfl rfl ?_; simp only [go_sem, init_env', Nat.reduceEqDiff, Nat.reduceAdd, Nat.reduceMul, reduceIte, Nat.reduceLeDiff, Nat.reduceLT, Nat.reduceBEq, reduceCtorEq, hP, Tray.av]; (repeat (refine And.intro (by first | omega | (intros; simp_all; done) | (intros; simp_all; omega)) ?_)); (repeat ((first | refine WV_seq_ ?_ | refine WV_block ?_ | refine WV_ops ?_ | refine WV_skip ?_ | refine WV_exit ?_); (try simp only [go_sem, init_env', Nat.reduceEqDiff, Nat.reduceAdd, Nat.reduceMul, reduceIte, Nat.reduceLeDiff, Nat.reduceLT, Nat.reduceBEq, reduceCtorEq, hP, Tray.av]); (repeat (refine And.intro (by first | omega | (intros; simp_all; done) | (intros; simp_all; omega)) ?_)))))
  refine WV_nilslot 3 903 41 2 (by decide) (by decide) rfl rfl ?_
  simp only [go_sem, init_env', Nat.reduceEqDiff, Nat.reduceAdd, Nat.reduceMul, reduceIte, Nat.reduceLeDiff, Nat.reduceLT, Nat.reduceBEq, reduceCtorEq]
  refine WV_loopK K65_1 [32, 33, 903] (fun k : Nat => k ≤ E.length) (fun k => E.length - k) (fun k => [(5, iv k), (3, .gr 903)]) (fun k => [(903, .grow 41 2 ((playsE (E.take k)).map Pr.cds))]) 0 (Nat.zero_le _) ?_ ?_
  · (refine Sub_of (by simp only [go_sem, init_env', Nat.reduceEqDiff, Nat.reduceAdd, Nat.reduceMul, reduceIte, Nat.reduceLeDiff, Nat.reduceLT, Nat.reduceBEq, reduceCtorEq]; ((repeat' (first | exact EnvLe_e0 _ _ | refine EnvLe_upd ?_ ?_)) <;> ((try simp only [upd_app, e0_app, o0_app, Nat.reduceEqDiff, reduceIte]); first | exact AWk.refl _ _ | exact AWk.int (by omega) | exact AWk.int (by rw [w64 (by omega) (by omega)]; omega) | exact AWk.grow rfl | exact AWk.nil _ | exact AWk.of (by simp [playsE])))) (by simp only [go_sem, init_env', Nat.reduceEqDiff, Nat.reduceAdd, Nat.reduceMul, reduceIte, Nat.reduceLeDiff, Nat.reduceLT, Nat.reduceBEq, reduceCtorEq]; (first | ((repeat' (first | exact ObjLe_o0 _ | exact ObjLe.rfl' _ | refine ObjLe_same ?_ | refine ObjLe_upd ?_ ?_ | refine ObjLe_new rfl ?_)) <;> rfl) | (refine ObjLe_X ?_; (repeat' (first | exact ObjLeX_o0 _ _ | refine ObjLeX_skip rfl ?_ | refine ObjLeX_upd ?_ ?_)) <;> rfl))))
  intro k hk
  simp only [go_sem, init_env', Nat.reduceEqDiff, Nat.reduceAdd, Nat.reduceMul, reduceIte, Nat.reduceLeDiff, Nat.reduceLT, Nat.reduceBEq, reduceCtorEq]
  (repeat ((first | refine WV_seq_ ?_ | refine WV_block ?_ | refine WV_ops ?_ | refine WV_skip ?_ | refine WV_exit ?_); (try simp only [go_sem, init_env', Nat.reduceEqDiff, Nat.reduceAdd, Nat.reduceMul, reduceIte, Nat.reduceLeDiff, Nat.reduceLT, Nat.reduceBEq, reduceCtorEq, hP, evsC, List.length_map]); (repeat (refine And.intro (by first | omega | (intros; simp_all; done) | (intros; simp_all; omega)) ?_))))
  (refine WV_cond rfl (fun h => ?_) (fun h => ?_))
  · have hkl : k < E.length := by simpa using h
    have hI : (k : Int) < (E.length : Int) := by omega
    have hw2 := w64 (n := (k : Int) + 1) (by omega) (by omega)
    have hst := playsE_take hkl
    have hpl := playsE_len (E.take k)
    have htl := List.length_take_le k E
    have g1 : (E.map Ev.cds).getD k [] = _ := map_getD hkl
    simp only [Ev.cds] at g1
    unfold playOf at hst
    generalize E[k] = e at *
    generalize playsE (E.take k) = L at *
    (repeat ((first | refine WV_seq_ ?_ | refine WV_block ?_ | refine WV_ops ?_ | refine WV_skip ?_ | refine WV_exit ?_); (try simp only [go_sem, init_env', Nat.reduceEqDiff, Nat.reduceAdd, Nat.reduceMul, reduceIte, Nat.reduceLeDiff, Nat.reduceLT, Nat.reduceBEq, reduceCtorEq, hP, evsC, g1, hI, List.length_map, Int.natCast_nonneg]); (repeat (refine And.intro (by first | omega | (intros; simp_all; done) | (intros; simp_all; omega)) ?_))))
    by_cases hc : 0 ≤ e.side
    · rw [if_pos hc] at hst
      rw [decide_eq_true hc]
      (refine WV_cond rfl (fun h => ?_) (fun h => ?_))
      rotate_left
      · simp at h
      (refine WV_ops ?_; simp only [go_sem, init_env', Nat.reduceEqDiff, Nat.reduceAdd, Nat.reduceMul, reduceIte, Nat.reduceLeDiff, Nat.reduceLT, Nat.reduceBEq, reduceCtorEq, hP, evsC, g1, hI, List.length_map, Int.natCast_nonneg, prs_two]; (repeat (refine And.intro (by first | omega | (intros; simp_all; done) | (intros; simp_all; omega)) ?_)))
      refine WV_move' 33 903 (by decide) (by decide) rfl ?_
      simp only [go_sem, init_env', Nat.reduceEqDiff, Nat.reduceAdd, Nat.reduceMul, reduceIte, Nat.reduceLeDiff, Nat.reduceLT, Nat.reduceBEq, reduceCtorEq]
      have e9 : L.map Pr.cds ++ [[CD.int .i64 e.side, CD.int .i64 e.from_]] = (L ++ [(⟨e.side, e.from_⟩ : Pr)]).map Pr.cds := by simp [Pr.cds]
      rw [e9, ← hst]
      (repeat ((first | refine WV_seq_ ?_ | refine WV_block ?_ | refine WV_ops ?_ | refine WV_skip ?_ | refine WV_exit ?_); (try simp only [go_sem, init_env', Nat.reduceEqDiff, Nat.reduceAdd, Nat.reduceMul, reduceIte, Nat.reduceLeDiff, Nat.reduceLT, Nat.reduceBEq, reduceCtorEq, hP, hw2]); (repeat (refine And.intro (by first | omega | (intros; simp_all; done) | (intros; simp_all; omega)) ?_))))
      refine ⟨k + 1, by omega, by omega, ?_⟩
      (refine Sub_of (by simp only [go_sem, init_env', Nat.reduceEqDiff, Nat.reduceAdd, Nat.reduceMul, reduceIte, Nat.reduceLeDiff, Nat.reduceLT, Nat.reduceBEq, reduceCtorEq]; ((repeat' (first | exact EnvLe_e0 _ _ | refine EnvLe_upd ?_ ?_)) <;> ((try simp only [upd_app, e0_app, o0_app, Nat.reduceEqDiff, reduceIte]); first | exact AWk.refl _ _ | exact AWk.int (by omega) | exact AWk.int (by rw [w64 (by omega) (by omega)]; omega) | exact AWk.grow rfl | exact AWk.nil _ | exact AWk.of (by simp)))) (by simp only [go_sem, init_env', Nat.reduceEqDiff, Nat.reduceAdd, Nat.reduceMul, reduceIte, Nat.reduceLeDiff, Nat.reduceLT, Nat.reduceBEq, reduceCtorEq]; (first | ((repeat' (first | exact ObjLe_o0 _ | exact ObjLe.rfl' _ | refine ObjLe_same ?_ | refine ObjLe_upd ?_ ?_ | refine ObjLe_new rfl ?_)) <;> rfl) | (refine ObjLe_X ?_; (repeat' (first | exact ObjLeX_o0 _ _ | refine ObjLeX_skip rfl ?_ | refine ObjLeX_upd ?_ ?_)) <;> rfl))))
    · rw [if_neg hc, List.append_nil] at hst
      rw [decide_eq_false hc]
      (refine WV_cond rfl (fun h => ?_) (fun h => ?_))
      · simp at h
      (repeat ((first | refine WV_seq_ ?_ | refine WV_block ?_ | refine WV_ops ?_ | refine WV_skip ?_ | refine WV_exit ?_); (try simp only [go_sem, init_env', Nat.reduceEqDiff, Nat.reduceAdd, Nat.reduceMul, reduceIte, Nat.reduceLeDiff, Nat.reduceLT, Nat.reduceBEq, reduceCtorEq, hP, hw2]); (repeat (refine And.intro (by first | omega | (intros; simp_all; done) | (intros; simp_all; omega)) ?_))))
      refine ⟨k + 1, by omega, by omega, ?_⟩
      rw [hst]
      (refine Sub_of (by simp only [go_sem, init_env', Nat.reduceEqDiff, Nat.reduceAdd, Nat.reduceMul, reduceIte, Nat.reduceLeDiff, Nat.reduceLT, Nat.reduceBEq, reduceCtorEq]; ((repeat' (first | exact EnvLe_e0 _ _ | refine EnvLe_upd ?_ ?_)) <;> ((try simp only [upd_app, e0_app, o0_app, Nat.reduceEqDiff, reduceIte]); first | exact AWk.refl _ _ | exact AWk.int (by omega) | exact AWk.int (by rw [w64 (by omega) (by omega)]; omega) | exact AWk.grow rfl | exact AWk.nil _ | exact AWk.of (by simp)))) (by simp only [go_sem, init_env', Nat.reduceEqDiff, Nat.reduceAdd, Nat.reduceMul, reduceIte, Nat.reduceLeDiff, Nat.reduceLT, Nat.reduceBEq, reduceCtorEq]; (first | ((repeat' (first | exact ObjLe_o0 _ | exact ObjLe.rfl' _ | refine ObjLe_same ?_ | refine ObjLe_upd ?_ ?_ | refine ObjLe_new rfl ?_)) <;> rfl) | (refine ObjLe_X ?_; (repeat' (first | exact ObjLeX_o0 _ _ | refine ObjLeX_skip rfl ?_ | refine ObjLeX_upd ?_ ?_)) <;> rfl))))
  · have h : k = E.length := by simp at h; omega
    subst h
    rw [List.take_length]
    (refine WV_exit ?_; simp only [go_sem, init_env', Nat.reduceEqDiff, Nat.reduceAdd, Nat.reduceMul, reduceIte, Nat.reduceLeDiff, Nat.reduceLT, Nat.reduceBEq, reduceCtorEq])
    (repeat ((first | refine WV_seq_ ?_ | refine WV_block ?_ | refine WV_ops ?_ | refine WV_skip ?_ | refine WV_exit ?_); (try simp only [go_sem, init_env', Nat.reduceEqDiff, Nat.reduceAdd, Nat.reduceMul, reduceIte, Nat.reduceLeDiff, Nat.reduceLT, Nat.reduceBEq, reduceCtorEq, hP, ]); (repeat (refine And.intro (by first | omega | (intros; simp_all; done) | (intros; simp_all; omega)) ?_))))
    (refine WV_ret ?_; simp only [thenQ, inQ, RetQ, RetOk, resAll, resA]; simp only [go_sem, init_env', Nat.reduceEqDiff, Nat.reduceAdd, Nat.reduceMul, reduceIte, Nat.reduceLeDiff, Nat.reduceLT, Nat.reduceBEq, reduceCtorEq, tupA, AV.port, AV.portL, exists_eq_left', prsC]; (first | exact AVle.of rfl | refine AVle.of ?_ | skip))
theorem servesE_step (p : Pr) {l : List Pr} {k : Nat} (h : k < l.length) : servesI (l.drop k) p (k : Int) = if l[k].side = p.side ∧ p.time ≤ l[k].time then (k : Int) else servesI (l.drop (k + 1)) p ((k + 1 : Nat) : Int) := by
  rw [List.drop_eq_getElem_cons h]
  simp only [servesI]
  split
  · rfl
  · rw [show (k : Int) + 1 = ((k + 1 : Nat) : Int) from by omega]
theorem served68 (l : List Pr) (p : Pr) (hl : l.length ≤ 100000) : FSpec Try.prog 68 [.c (prsC l), prAv p] (iv (servesI l p 0)) := by
  refine FSpec_of c68 (Nat.le_refl _) (by decide) fun C hP hN hC hL => ?_
  simp only [ir68, prAv, prsC]
  (repeat ((first | refine WV_seq_ ?_ | refine WV_block ?_ | refine WV_ops ?_ | refine WV_skip ?_ | refine WV_exit ?_); (try simp only [go_sem, init_env', Nat.reduceEqDiff, Nat.reduceAdd, Nat.reduceMul, reduceIte, Nat.reduceLeDiff, Nat.reduceLT, Nat.reduceBEq, reduceCtorEq, hP, ]); (repeat (refine And.intro (by first | omega | (intros; simp_all; done) | (intros; simp_all; omega)) ?_))))
  refine WV_loopK K68_1 [] (fun k : Nat => k ≤ l.length ∧ servesI l p 0 = servesI (l.drop k) p (k : Int)) (fun k => l.length - k) (fun k => [(5, iv k)]) (fun _ => []) 0 ⟨Nat.zero_le _, rfl⟩ ?_ ?_
  · (refine Sub_of (by simp only [go_sem, init_env', Nat.reduceEqDiff, Nat.reduceAdd, Nat.reduceMul, reduceIte, Nat.reduceLeDiff, Nat.reduceLT, Nat.reduceBEq, reduceCtorEq]; ((repeat' (first | exact EnvLe_e0 _ _ | refine EnvLe_upd ?_ ?_)) <;> ((try simp only [upd_app, e0_app, o0_app, Nat.reduceEqDiff, reduceIte]); first | exact AWk.refl _ _ | exact AWk.int (by omega) | exact AWk.int (by rw [w64 (by omega) (by omega)]; omega) | exact AWk.grow rfl | exact AWk.nil _ | exact AWk.of (by simp)))) (by simp only [go_sem, init_env', Nat.reduceEqDiff, Nat.reduceAdd, Nat.reduceMul, reduceIte, Nat.reduceLeDiff, Nat.reduceLT, Nat.reduceBEq, reduceCtorEq]; (first | ((repeat' (first | exact ObjLe_o0 _ | exact ObjLe.rfl' _ | refine ObjLe_same ?_ | refine ObjLe_upd ?_ ?_ | refine ObjLe_new rfl ?_)) <;> rfl) | (refine ObjLe_X ?_; (repeat' (first | exact ObjLeX_o0 _ _ | refine ObjLeX_skip rfl ?_ | refine ObjLeX_upd ?_ ?_)) <;> rfl))))
  · rintro k ⟨hk, hx⟩
    simp only [go_sem, init_env', Nat.reduceEqDiff, Nat.reduceAdd, Nat.reduceMul, reduceIte, Nat.reduceLeDiff, Nat.reduceLT, Nat.reduceBEq, reduceCtorEq]
    (repeat ((first | refine WV_seq_ ?_ | refine WV_block ?_ | refine WV_ops ?_ | refine WV_skip ?_ | refine WV_exit ?_); (try simp only [go_sem, init_env', Nat.reduceEqDiff, Nat.reduceAdd, Nat.reduceMul, reduceIte, Nat.reduceLeDiff, Nat.reduceLT, Nat.reduceBEq, reduceCtorEq, hP, List.length_map]); (repeat (refine And.intro (by first | omega | (intros; simp_all; done) | (intros; simp_all; omega)) ?_))))
    (refine WV_cond rfl (fun h => ?_) (fun h => ?_))
    · have hkl : k < l.length := by simpa using h
      have hI : (k : Int) < (l.length : Int) := by omega
      have hw2 := w64 (n := (k : Int) + 1) (by omega) (by omega)
      rw [servesE_step p hkl] at hx
      have g1 : (l.map Pr.cds).getD k [] = [.int .i64 l[k].side, .int .i64 l[k].time] := map_getD hkl
      generalize l[k].side = S0 at *
      generalize l[k].time = T0 at *
      (repeat ((first | refine WV_seq_ ?_ | refine WV_block ?_ | refine WV_ops ?_ | refine WV_skip ?_ | refine WV_exit ?_); (try simp only [go_sem, init_env', Nat.reduceEqDiff, Nat.reduceAdd, Nat.reduceMul, reduceIte, Nat.reduceLeDiff, Nat.reduceLT, Nat.reduceBEq, reduceCtorEq, hP, g1, hI, List.length_map, Int.natCast_nonneg]); (repeat (refine And.intro (by first | omega | (intros; simp_all; done) | (intros; simp_all; omega)) ?_))))
      have hh : (S0 == p.side && decide (p.time ≤ T0)) = decide (S0 = p.side ∧ p.time ≤ T0) := by rw [Bool.eq_iff_iff]; simp
      rw [hh]
      by_cases hc : S0 = p.side ∧ p.time ≤ T0
      · rw [if_pos hc] at hx
        rw [decide_eq_true hc]
        (refine WV_cond rfl (fun h => ?_) (fun h => ?_))
        · (repeat ((first | refine WV_seq_ ?_ | refine WV_block ?_ | refine WV_ops ?_ | refine WV_skip ?_ | refine WV_exit ?_); (try simp only [go_sem, init_env', Nat.reduceEqDiff, Nat.reduceAdd, Nat.reduceMul, reduceIte, Nat.reduceLeDiff, Nat.reduceLT, Nat.reduceBEq, reduceCtorEq, hP, ]); (repeat (refine And.intro (by first | omega | (intros; simp_all; done) | (intros; simp_all; omega)) ?_))))
          (refine WV_ret ?_; simp only [thenQ, inQ, RetQ, RetOk, resAll, resA]; simp only [go_sem, init_env', Nat.reduceEqDiff, Nat.reduceAdd, Nat.reduceMul, reduceIte, Nat.reduceLeDiff, Nat.reduceLT, Nat.reduceBEq, reduceCtorEq, tupA, AV.port, AV.portL, exists_eq_left', ]; (first | exact AVle.of rfl | refine AVle.of ?_ | skip))
          rw [hx]
        · simp at h
      · rw [if_neg hc] at hx
        rw [decide_eq_false hc]
        (refine WV_cond rfl (fun h => ?_) (fun h => ?_))
        · simp at h
        · (repeat ((first | refine WV_seq_ ?_ | refine WV_block ?_ | refine WV_ops ?_ | refine WV_skip ?_ | refine WV_exit ?_); (try simp only [go_sem, init_env', Nat.reduceEqDiff, Nat.reduceAdd, Nat.reduceMul, reduceIte, Nat.reduceLeDiff, Nat.reduceLT, Nat.reduceBEq, reduceCtorEq, hP, hw2]); (repeat (refine And.intro (by first | omega | (intros; simp_all; done) | (intros; simp_all; omega)) ?_))))
          refine ⟨k + 1, ⟨by omega, hx⟩, by omega, ?_⟩
          (refine Sub_of (by simp only [go_sem, init_env', Nat.reduceEqDiff, Nat.reduceAdd, Nat.reduceMul, reduceIte, Nat.reduceLeDiff, Nat.reduceLT, Nat.reduceBEq, reduceCtorEq]; ((repeat' (first | exact EnvLe_e0 _ _ | refine EnvLe_upd ?_ ?_)) <;> ((try simp only [upd_app, e0_app, o0_app, Nat.reduceEqDiff, reduceIte]); first | exact AWk.refl _ _ | exact AWk.int (by omega) | exact AWk.int (by rw [w64 (by omega) (by omega)]; omega) | exact AWk.grow rfl | exact AWk.nil _ | exact AWk.of (by simp)))) (by simp only [go_sem, init_env', Nat.reduceEqDiff, Nat.reduceAdd, Nat.reduceMul, reduceIte, Nat.reduceLeDiff, Nat.reduceLT, Nat.reduceBEq, reduceCtorEq]; (first | ((repeat' (first | exact ObjLe_o0 _ | exact ObjLe.rfl' _ | refine ObjLe_same ?_ | refine ObjLe_upd ?_ ?_ | refine ObjLe_new rfl ?_)) <;> rfl) | (refine ObjLe_X ?_; (repeat' (first | exact ObjLeX_o0 _ _ | refine ObjLeX_skip rfl ?_ | refine ObjLeX_upd ?_ ?_)) <;> rfl))))
    · have h : k = l.length := by simp at h; omega
      subst h
      rw [List.drop_length] at hx
      (refine WV_exit ?_; simp only [go_sem, init_env', Nat.reduceEqDiff, Nat.reduceAdd, Nat.reduceMul, reduceIte, Nat.reduceLeDiff, Nat.reduceLT, Nat.reduceBEq, reduceCtorEq])
      (repeat ((first | refine WV_seq_ ?_ | refine WV_block ?_ | refine WV_ops ?_ | refine WV_skip ?_ | refine WV_exit ?_); (try simp only [go_sem, init_env', Nat.reduceEqDiff, Nat.reduceAdd, Nat.reduceMul, reduceIte, Nat.reduceLeDiff, Nat.reduceLT, Nat.reduceBEq, reduceCtorEq, hP, ]); (repeat (refine And.intro (by first | omega | (intros; simp_all; done) | (intros; simp_all; omega)) ?_))))
      (refine WV_ret ?_; simp only [thenQ, inQ, RetQ, RetOk, resAll, resA]; simp only [go_sem, init_env', Nat.reduceEqDiff, Nat.reduceAdd, Nat.reduceMul, reduceIte, Nat.reduceLeDiff, Nat.reduceLT, Nat.reduceBEq, reduceCtorEq, tupA, AV.port, AV.portL, exists_eq_left', ]; (first | exact AVle.of rfl | refine AVle.of ?_ | skip))
      rw [hx]; rfl
end Go.Proofs.Ytkpgpgaojjobgaa

namespace Go.Proofs.Ytkpgpgaojjobgaa
open Go Go.V
@[reducible] def o30_0 : List Ins := [⟨(some 2), .box 5 (.t 0), none, true⟩,
  ⟨(some 3), .box 5 (.t 1), none, true⟩,
  ⟨(some 4), .mv (.k (.c (.bool false))), none, true⟩]
@[reducible] def o30_1 : List Ins := [⟨(some 7), .fa 1 (.t 2), none, true⟩,
  ⟨(some 8), .ld true 1 (.t 7), none, true⟩,
  ⟨(some 9), .fa 1 (.t 3), none, true⟩,
  ⟨(some 10), .ld true 1 (.t 9), none, true⟩,
  ⟨(some 11), .bin .neq (.t 8) (.t 10), none, true⟩,
  ⟨(some 12), .mv (.t 11), none, true⟩,
  ⟨(some 13), .fa 2 (.t 2), (some (12, false)), true⟩,
  ⟨(some 14), .ld true 1 (.t 13), (some (12, false)), true⟩,
  ⟨(some 15), .fa 2 (.t 3), (some (12, false)), true⟩,
  ⟨(some 16), .ld true 1 (.t 15), (some (12, false)), true⟩,
  ⟨(some 17), .bin .neq (.t 14) (.t 16), (some (12, false)), true⟩,
  ⟨(some 18), .pick (.t 12) (.k (.c (.bool true))) (.t 17), none, true⟩,
  ⟨(some 19), .mv (.t 18), none, true⟩,
  ⟨(some 20), .fa 3 (.t 2), (some (19, false)), true⟩,
  ⟨(some 21), .ld true 1 (.t 20), (some (19, false)), true⟩,
  ⟨(some 22), .fa 3 (.t 3), (some (19, false)), true⟩,
  ⟨(some 23), .ld true 1 (.t 22), (some (19, false)), true⟩,
  ⟨(some 24), .bin .neq (.t 21) (.t 23), (some (19, false)), true⟩,
  ⟨(some 25), .pick (.t 19) (.k (.c (.bool true))) (.t 24), none, true⟩,
  ⟨(some 26), .mv (.t 25), none, true⟩,
  ⟨(some 27), .fa 0 (.t 2), (some (26, false)), true⟩,
  ⟨(some 28), .ld true 1 (.t 27), (some (26, false)), true⟩,
  ⟨(some 29), .len (.t 28), (some (26, false)), true⟩,
  ⟨(some 30), .fa 0 (.t 3), (some (26, false)), true⟩,
  ⟨(some 31), .ld true 1 (.t 30), (some (26, false)), true⟩,
  ⟨(some 32), .len (.t 31), (some (26, false)), true⟩,
  ⟨(some 33), .bin .neq (.t 29) (.t 32), (some (26, false)), true⟩,
  ⟨(some 34), .pick (.t 26) (.k (.c (.bool true))) (.t 33), none, true⟩,
  ⟨(some 35), .mv (.t 34), none, true⟩,
  ⟨(some 36), .fa 4 (.t 2), (some (35, false)), true⟩,
  ⟨(some 37), .ld true 1 (.t 36), (some (35, false)), true⟩,
  ⟨(some 38), .len (.t 37), (some (35, false)), true⟩,
  ⟨(some 39), .fa 4 (.t 3), (some (35, false)), true⟩,
  ⟨(some 40), .ld true 1 (.t 39), (some (35, false)), true⟩,
  ⟨(some 41), .len (.t 40), (some (35, false)), true⟩,
  ⟨(some 42), .bin .neq (.t 38) (.t 41), (some (35, false)), true⟩,
  ⟨(some 43), .pick (.t 35) (.k (.c (.bool true))) (.t 42), none, true⟩]
@[reducible] def o30_2 : List Ins := [⟨(some 4), .mv (.k (.c (.bool false))), none, true⟩]
@[reducible] def v30_3 : VC := (.seq (.ops o30_2) .ret)
@[reducible] def v30_4 : VC := (.cond (.t 43) v30_3 .skip)
@[reducible] def o30_5 : List Ins := [⟨(some 5), .mv (.k (.c (.int .i64 0))), none, true⟩]
@[reducible] def o30_6 : List Ins := [⟨(some 44), .mv (.t 5), none, true⟩,
  ⟨(some 45), .fa 0 (.t 2), none, true⟩,
  ⟨(some 46), .ld true 1 (.t 45), none, true⟩,
  ⟨(some 47), .len (.t 46), none, true⟩,
  ⟨(some 48), .bin .lss (.t 44) (.t 47), none, true⟩]
@[reducible] def v30_7 : VC := (.cond (.t 48) .skip (.exit 0))
@[reducible] def o30_8 : List Ins := [⟨(some 51), .fa 0 (.t 2), none, false⟩,
  ⟨(some 52), .ld true 1 (.t 51), none, false⟩,
  ⟨(some 53), .mv (.t 5), none, false⟩,
  ⟨(some 54), .ia 2 (.t 52) (.t 53), none, false⟩,
  ⟨(some 55), .ld false 2 (.t 54), none, false⟩,
  ⟨(some 56), .fa 0 (.t 3), none, false⟩,
  ⟨(some 57), .ld true 1 (.t 56), none, false⟩,
  ⟨(some 58), .mv (.t 5), none, false⟩,
  ⟨(some 59), .ia 2 (.t 57) (.t 58), none, false⟩,
  ⟨(some 60), .ld false 2 (.t 59), none, false⟩,
  ⟨(some 61), .seq true [(0, true), (1, true)] (.t 55) (.t 60), none, true⟩]
@[reducible] def o30_9 : List Ins := [⟨(some 4), .mv (.k (.c (.bool false))), none, true⟩]
@[reducible] def v30_10 : VC := (.seq (.ops o30_9) .ret)
@[reducible] def v30_11 : VC := (.cond (.t 61) v30_10 .skip)
@[reducible] def v30_12 : VC := (.seq (.ops o30_8) v30_11)
@[reducible] def o30_13 : List Ins := [⟨(some 49), .mv (.t 5), none, true⟩,
  ⟨(some 50), .bin .add (.t 49) (.k (.c (.int .i64 1))), none, true⟩,
  ⟨(some 5), .mv (.t 50), none, true⟩]
@[reducible] def v30_14 : VC := (.seq (.block 1 v30_12) (.ops o30_13))
@[reducible] def v30_15 : VC := (.seq (.seq (.ops o30_6) v30_7) v30_14)
-- K30_1: changed and kept: [5]
@[reducible] def K30_1 : List Nat := [2, 3]
@[reducible] def v30_16 : VC := (.loop v30_15)
@[reducible] def v30_17 : VC := (.block 0 v30_16)
@[reducible] def o30_18 : List Ins := [⟨(some 6), .mv (.k (.c (.int .i64 0))), none, true⟩]
@[reducible] def o30_19 : List Ins := [⟨(some 62), .mv (.t 6), none, true⟩,
  ⟨(some 63), .fa 4 (.t 2), none, true⟩,
  ⟨(some 64), .ld true 1 (.t 63), none, true⟩,
  ⟨(some 65), .len (.t 64), none, true⟩,
  ⟨(some 66), .bin .lss (.t 62) (.t 65), none, true⟩]
@[reducible] def v30_20 : VC := (.cond (.t 66) .skip (.exit 2))
@[reducible] def o30_21 : List Ins := [⟨(some 69), .fa 4 (.t 2), none, false⟩,
  ⟨(some 70), .ld true 1 (.t 69), none, false⟩,
  ⟨(some 71), .mv (.t 6), none, false⟩,
  ⟨(some 72), .ia 2 (.t 70) (.t 71), none, false⟩,
  ⟨(some 73), .ld false 2 (.t 72), none, false⟩,
  ⟨(some 74), .fa 4 (.t 3), none, false⟩,
  ⟨(some 75), .ld true 1 (.t 74), none, false⟩,
  ⟨(some 76), .mv (.t 6), none, false⟩,
  ⟨(some 77), .ia 2 (.t 75) (.t 76), none, false⟩,
  ⟨(some 78), .ld false 2 (.t 77), none, false⟩,
  ⟨(some 79), .seq true [(0, true), (1, true)] (.t 73) (.t 78), none, true⟩]
@[reducible] def o30_22 : List Ins := [⟨(some 4), .mv (.k (.c (.bool false))), none, true⟩]
@[reducible] def v30_23 : VC := (.seq (.ops o30_22) .ret)
@[reducible] def v30_24 : VC := (.cond (.t 79) v30_23 .skip)
@[reducible] def v30_25 : VC := (.seq (.ops o30_21) v30_24)
@[reducible] def o30_26 : List Ins := [⟨(some 67), .mv (.t 6), none, true⟩,
  ⟨(some 68), .bin .add (.t 67) (.k (.c (.int .i64 1))), none, true⟩,
  ⟨(some 6), .mv (.t 68), none, true⟩]
@[reducible] def v30_27 : VC := (.seq (.block 3 v30_25) (.ops o30_26))
@[reducible] def v30_28 : VC := (.seq (.seq (.ops o30_19) v30_20) v30_27)
-- K30_2: changed and kept: [6]
@[reducible] def K30_2 : List Nat := [2, 3]
@[reducible] def v30_29 : VC := (.loop v30_28)
@[reducible] def v30_30 : VC := (.block 2 v30_29)
@[reducible] def o30_31 : List Ins := [⟨(some 4), .mv (.k (.c (.bool true))), none, true⟩]
@[reducible] def v30_32 : VC := (.seq (.ops o30_31) .ret)
@[reducible] def v30_33 : VC := (.seq (.seq (.ops o30_18) v30_30) v30_32)
@[reducible] def v30_34 : VC := (.seq (.seq (.ops o30_5) v30_17) v30_33)
@[reducible] def v30_35 : VC := (.seq (.seq (.ops o30_1) v30_4) v30_34)
def ir30 : FC := ⟨2, 80, [.t 4], (.seq (.ops o30_0) v30_35)⟩
@[reducible] def o75_0 : List Ins := [⟨(some 3), .box 5 (.t 0), none, true⟩,
  ⟨(some 6), .alloc [(.c (.raw (.slice none 0 0))), (.c (.int .i64 0)), (.c (.int .i64 0)), (.c (.int .i64 0)), (.c (.raw (.slice none 0 0)))], none, true⟩]
@[reducible] def o75_1 : List Ins := [⟨(some 8), .ld false 5 (.t 3), none, true⟩,
  ⟨(some 7), .alloc [(.c (.raw (.slice none 0 0))), (.c (.int .i64 0)), (.c (.int .i64 0)), (.c (.int .i64 0)), (.c (.raw (.slice none 0 0)))], none, true⟩,
  ⟨none, .st 5 (.t 7) (.t 8), none, true⟩]
@[reducible] def o75_2 : List Ins := [⟨(some 9), .bsl 27 2 [], none, true⟩,
  ⟨(some 10), .fa 4 (.t 3), none, true⟩,
  ⟨(some 11), .ld true 1 (.t 10), none, true⟩,
  ⟨(some 12), .app 27 2 16 (.t 9) (.t 11), none, true⟩,
  ⟨(some 13), .mv (.t 1), none, true⟩,
  ⟨(some 14), .mv (.t 2), none, true⟩,
  ⟨(some 15), .bld [(.c (.int .i64 0)), (.c (.int .i64 0))] [(0, 1, (.t 13)), (1, 1, (.t 14))], none, true⟩,
  ⟨(some 16), .bsl 27 2 [(.t 15)], none, true⟩,
  ⟨(some 17), .app 27 2 16 (.t 12) (.t 16), none, true⟩,
  ⟨(some 18), .fa 4 (.t 7), none, true⟩,
  ⟨none, .st 1 (.t 18) (.t 17), none, true⟩]
@[reducible] def o75_3 : List Ins := [⟨(some 19), .ld false 5 (.t 7), none, true⟩,
  ⟨none, .st 5 (.t 6) (.t 19), none, true⟩]
@[reducible] def v75_4 : VC := (.seq (.ops o75_3) .ret)
@[reducible] def v75_5 : VC := (.seq (.ops o75_2) v75_4)
@[reducible] def v75_6 : VC := (.seq (.ops o75_1) v75_5)
def ir75 : FC := ⟨3, 20, [.cell 6 false 5], (.seq (.ops o75_0) v75_6)⟩
@[reducible] def o60_0 : List Ins := [⟨(some 4), .box 5 (.t 0), none, true⟩,
  ⟨(some 8), .mv (.k (.c (.bool false))), none, true⟩]
@[reducible] def o60_1 : List Ins := [⟨(some 10), .ld false 5 (.t 4), none, true⟩,
  ⟨(some 11), .mv (.t 1), none, true⟩,
  ⟨(some 12), .mv (.t 2), none, true⟩,
  ⟨(some 13), .call (.k (.fn 75 [])) [(.t 10), (.t 11), (.t 12)], none, true⟩,
  ⟨(some 14), .call (.k (.fn 65 [])) [(.t 13)], none, true⟩,
  ⟨(some 9), .mv (.t 14), none, true⟩]
@[reducible] def o60_2 : List Ins := [⟨(some 15), .mv (.t 9), none, true⟩,
  ⟨(some 16), .mv (.t 9), none, true⟩,
  ⟨(some 17), .mv (.t 1), none, true⟩,
  ⟨(some 18), .mv (.t 2), none, true⟩,
  ⟨(some 19), .bld [(.c (.int .i64 0)), (.c (.int .i64 0))] [(0, 1, (.t 17)), (1, 1, (.t 18))], none, true⟩,
  ⟨(some 20), .call (.k (.fn 68 [])) [(.t 16), (.t 19)], none, true⟩,
  ⟨(some 21), .ia 2 (.t 15) (.t 20), none, true⟩,
  ⟨(some 22), .fa 1 (.t 21), none, true⟩,
  ⟨(some 23), .ld true 1 (.t 22), none, true⟩,
  ⟨(some 24), .mv (.t 3), none, true⟩,
  ⟨(some 25), .bin .leq (.t 23) (.t 24), none, true⟩,
  ⟨(some 8), .mv (.t 25), none, true⟩]
@[reducible] def v60_3 : VC := (.seq (.ops o60_2) .ret)
@[reducible] def v60_4 : VC := (.seq (.ops o60_1) v60_3)
def ir60 : FC := ⟨4, 26, [.t 8], (.seq (.ops o60_0) v60_4)⟩
@[reducible] def o31_0 : List Ins := [⟨(some 3), .box 5 (.t 0), none, true⟩,
  ⟨(some 6), .mv (.k (.c (.int .i64 0))), none, true⟩,
  ⟨(some 7), .mv (.k (.c (.int .i64 0))), none, true⟩]
@[reducible] def o31_1 : List Ins := [⟨(some 10), .ld false 5 (.t 3), none, true⟩,
  ⟨(some 11), .call (.k (.fn 41 [])) [(.t 10)], none, true⟩,
  ⟨(some 8), .mv (.t 11), none, true⟩]
@[reducible] def o31_2 : List Ins := [⟨(some 12), .mv (.t 8), none, true⟩,
  ⟨(some 13), .bin .neq (.t 12) (.k (.c (.int .i64 0))), none, true⟩]
@[reducible] def o31_3 : List Ins := [⟨(some 14), .mv (.t 8), none, true⟩,
  ⟨(some 6), .mv (.k (.c (.int .i64 0))), none, true⟩,
  ⟨(some 7), .mv (.t 14), none, true⟩]
@[reducible] def v31_4 : VC := (.seq (.ops o31_3) .ret)
@[reducible] def v31_5 : VC := (.cond (.t 13) v31_4 .skip)
@[reducible] def v31_6 : VC := (.seq (.ops o31_2) v31_5)
@[reducible] def o31_7 : List Ins := [⟨(some 15), .ld false 5 (.t 3), none, true⟩,
  ⟨(some 16), .mv (.t 1), none, true⟩,
  ⟨(some 17), .call (.k (.fn 17 [])) [(.t 15), (.t 16)], none, true⟩,
  ⟨(some 18), .un .not (.t 17), none, true⟩,
  ⟨(some 19), .mv (.t 18), none, true⟩,
  ⟨(some 20), .mv (.t 2), (some (19, false)), true⟩,
  ⟨(some 21), .call (.k (.fn 18 [])) [(.t 20)], (some (19, false)), true⟩,
  ⟨(some 22), .un .not (.t 21), (some (19, false)), true⟩,
  ⟨(some 23), .pick (.t 19) (.k (.c (.bool true))) (.t 22), none, true⟩]
@[reducible] def o31_8 : List Ins := [⟨(some 6), .mv (.k (.c (.int .i64 0))), none, true⟩,
  ⟨(some 7), .mv (.k (.c (.int .i64 1))), none, true⟩]
@[reducible] def v31_9 : VC := (.seq (.ops o31_8) .ret)
@[reducible] def v31_10 : VC := (.cond (.t 23) v31_9 .skip)
@[reducible] def o31_11 : List Ins := [⟨(some 24), .mv (.t 2), none, true⟩,
  ⟨(some 9), .mv (.t 24), none, true⟩]
@[reducible] def o31_12 : List Ins := [⟨(some 25), .mv (.t 9), none, true⟩,
  ⟨(some 26), .bin .geq (.t 25) (.k (.c (.int .i64 0))), none, true⟩]
@[reducible] def v31_13 : VC := (.cond (.t 26) .skip (.exit 0))
@[reducible] def o31_14 : List Ins := [⟨(some 29), .ld false 5 (.t 3), none, true⟩,
  ⟨(some 30), .mv (.t 1), none, true⟩,
  ⟨(some 31), .mv (.t 9), none, true⟩,
  ⟨(some 32), .mv (.t 2), none, true⟩,
  ⟨(some 33), .call (.k (.fn 60 [])) [(.t 29), (.t 30), (.t 31), (.t 32)], none, true⟩]
@[reducible] def o31_15 : List Ins := [⟨(some 34), .mv (.t 9), none, true⟩,
  ⟨(some 6), .mv (.t 34), none, true⟩,
  ⟨(some 7), .mv (.k (.c (.int .i64 0))), none, true⟩]
@[reducible] def v31_16 : VC := (.seq (.ops o31_15) .ret)
@[reducible] def v31_17 : VC := (.cond (.t 33) v31_16 .skip)
@[reducible] def v31_18 : VC := (.seq (.ops o31_14) v31_17)
@[reducible] def o31_19 : List Ins := [⟨(some 27), .mv (.t 9), none, true⟩,
  ⟨(some 28), .bin .sub (.t 27) (.k (.c (.int .i64 1))), none, true⟩,
  ⟨(some 9), .mv (.t 28), none, true⟩]
@[reducible] def v31_20 : VC := (.seq (.block 1 v31_18) (.ops o31_19))
@[reducible] def v31_21 : VC := (.seq (.seq (.ops o31_12) v31_13) v31_20)
-- K31_1: changed and kept: [9]
@[reducible] def K31_1 : List Nat := [1, 2, 3]
@[reducible] def v31_22 : VC := (.loop v31_21)
@[reducible] def v31_23 : VC := (.block 0 v31_22)
@[reducible] def o31_24 : List Ins := [⟨(some 6), .mv (.k (.c (.int .i64 0))), none, true⟩,
  ⟨(some 7), .mv (.k (.c (.int .i64 3))), none, true⟩]
@[reducible] def v31_25 : VC := (.seq (.ops o31_24) .ret)
@[reducible] def v31_26 : VC := (.seq (.seq (.ops o31_11) v31_23) v31_25)
@[reducible] def v31_27 : VC := (.seq (.seq (.ops o31_7) v31_10) v31_26)
@[reducible] def v31_28 : VC := (.seq (.seq (.ops o31_1) v31_6) v31_27)
def ir31 : FC := ⟨3, 35, [.t 6, .t 7], (.seq (.ops o31_0) v31_28)⟩
@[reducible] def o6_0 : List Ins := [⟨(some 2), .box 5 (.t 0), none, true⟩,
  ⟨(some 4), .mv (.k (.c (.bool false))), none, true⟩]
@[reducible] def o6_1 : List Ins := [⟨(some 10), .ld false 5 (.t 2), none, true⟩,
  ⟨(some 11), .call (.k (.fn 28 [])) [(.t 10)], none, true⟩]
@[reducible] def o6_2 : List Ins := [⟨(some 12), .call (.k (.fn 19 [])) [], none, true⟩,
  ⟨(some 4), .mv (.t 12), none, true⟩]
@[reducible] def v6_3 : VC := (.seq (.ops o6_2) .ret)
@[reducible] def v6_4 : VC := (.cond (.t 11) v6_3 .skip)
@[reducible] def o6_5 : List Ins := [⟨(some 13), .ld false 5 (.t 2), none, true⟩,
  ⟨(some 14), .call (.k (.fn 20 [])) [(.t 13)], none, true⟩,
  ⟨(some 5), .alloc [(.c (.raw (.slice none 0 0))), (.c (.int .i64 0)), (.c (.int .i64 0)), (.c (.int .i64 0)), (.c (.raw (.slice none 0 0)))], none, true⟩,
  ⟨none, .st 5 (.t 5) (.t 14), none, true⟩]
@[reducible] def o6_6 : List Ins := [⟨(some 16), .ld false 5 (.t 5), none, true⟩,
  ⟨(some 17), .mv (.t 1), none, true⟩,
  ⟨(some 18), .call (.k (.fn 21 [])) [(.t 16), (.t 17)], none, true⟩,
  ⟨(some 15), .mv (.t 18), none, true⟩,
  ⟨(some 19), .ext (.t 15) 0, none, true⟩,
  ⟨(some 20), .ext (.t 15) 1, none, true⟩,
  ⟨(some 6), .alloc [(.c (.int .i64 0)), (.c (.int .i64 0)), (.c (.int .i64 0))], none, true⟩,
  ⟨none, .st 3 (.t 6) (.t 19), none, true⟩,
  ⟨(some 7), .mv (.t 20), none, true⟩]
@[reducible] def o6_7 : List Ins := [⟨(some 22), .ld false 5 (.t 2), none, true⟩,
  ⟨(some 23), .mv (.t 1), none, true⟩,
  ⟨(some 24), .call (.k (.fn 29 [])) [(.t 22), (.t 23)], none, true⟩,
  ⟨(some 21), .mv (.t 24), none, true⟩,
  ⟨(some 25), .ext (.t 21) 0, none, true⟩,
  ⟨(some 26), .ext (.t 21) 1, none, true⟩,
  ⟨(some 8), .alloc [(.c (.int .i64 0)), (.c (.int .i64 0)), (.c (.int .i64 0))], none, true⟩,
  ⟨none, .st 3 (.t 8) (.t 25), none, true⟩,
  ⟨(some 9), .mv (.t 26), none, true⟩]
@[reducible] def o6_8 : List Ins := [⟨(some 27), .ld false 3 (.t 6), none, true⟩,
  ⟨(some 28), .ld false 3 (.t 8), none, true⟩,
  ⟨(some 29), .seq false [(0, true), (1, true), (2, true)] (.t 27) (.t 28), none, true⟩,
  ⟨(some 30), .mv (.t 29), none, true⟩,
  ⟨(some 31), .mv (.t 7), (some (30, true)), true⟩,
  ⟨(some 32), .mv (.t 9), (some (30, true)), true⟩,
  ⟨(some 33), .bin .eql (.t 31) (.t 32), (some (30, true)), true⟩,
  ⟨(some 34), .pick (.t 30) (.t 33) (.k (.c (.bool false))), none, true⟩,
  ⟨(some 35), .mv (.t 34), none, true⟩,
  ⟨(some 36), .ld false 5 (.t 5), (some (35, true)), true⟩,
  ⟨(some 37), .ld false 5 (.t 2), (some (35, true)), true⟩,
  ⟨(some 38), .call (.k (.fn 30 [])) [(.t 36), (.t 37)], (some (35, true)), true⟩,
  ⟨(some 39), .pick (.t 35) (.t 38) (.k (.c (.bool false))), none, true⟩,
  ⟨(some 40), .mv (.t 39), none, true⟩,
  ⟨(some 41), .call (.k (.fn 19 [])) [], (some (40, true)), true⟩,
  ⟨(some 42), .pick (.t 40) (.t 41) (.k (.c (.bool false))), none, true⟩,
  ⟨(some 4), .mv (.t 42), none, true⟩]
@[reducible] def v6_9 : VC := (.seq (.ops o6_8) .ret)
@[reducible] def v6_10 : VC := (.seq (.ops o6_7) v6_9)
@[reducible] def v6_11 : VC := (.seq (.ops o6_6) v6_10)
@[reducible] def v6_12 : VC := (.seq (.ops o6_5) v6_11)
@[reducible] def v6_13 : VC := (.seq (.seq (.ops o6_1) v6_4) v6_12)
def ir6 : FC := ⟨2, 43, [.t 4], (.seq (.ops o6_0) v6_13)⟩
@[reducible] def o7_0 : List Ins := [⟨(some 3), .box 5 (.t 0), none, true⟩,
  ⟨(some 6), .mv (.k (.c (.bool false))), none, true⟩]
@[reducible] def o7_1 : List Ins := [⟨(some 12), .ld false 5 (.t 3), none, true⟩,
  ⟨(some 13), .call (.k (.fn 28 [])) [(.t 12)], none, true⟩,
  ⟨(some 14), .mv (.t 13), none, true⟩,
  ⟨(some 15), .mv (.t 2), (some (14, false)), true⟩,
  ⟨(some 16), .bin .gtr (.t 15) (.k (.c (.int .i64 400))), (some (14, false)), true⟩,
  ⟨(some 17), .mv (.t 16), (some (14, false)), true⟩,
  ⟨(some 18), .mv (.t 2), (some (17, true)), true⟩,
  ⟨(some 19), .bin .leq (.t 18) (.k (.c (.int .i64 9999))), (some (17, true)), true⟩,
  ⟨(some 20), .pick (.t 17) (.t 19) (.k (.c (.bool false))), (some (14, false)), true⟩,
  ⟨(some 21), .pick (.t 14) (.k (.c (.bool true))) (.t 20), none, true⟩]
@[reducible] def o7_2 : List Ins := [⟨(some 22), .call (.k (.fn 19 [])) [], none, true⟩,
  ⟨(some 6), .mv (.t 22), none, true⟩]
@[reducible] def v7_3 : VC := (.seq (.ops o7_2) .ret)
@[reducible] def v7_4 : VC := (.cond (.t 21) v7_3 .skip)
@[reducible] def o7_5 : List Ins := [⟨(some 23), .ld false 5 (.t 3), none, true⟩,
  ⟨(some 24), .call (.k (.fn 20 [])) [(.t 23)], none, true⟩,
  ⟨(some 7), .alloc [(.c (.raw (.slice none 0 0))), (.c (.int .i64 0)), (.c (.int .i64 0)), (.c (.int .i64 0)), (.c (.raw (.slice none 0 0)))], none, true⟩,
  ⟨none, .st 5 (.t 7) (.t 24), none, true⟩]
@[reducible] def o7_6 : List Ins := [⟨(some 26), .ld false 5 (.t 7), none, true⟩,
  ⟨(some 27), .mv (.t 1), none, true⟩,
  ⟨(some 28), .mv (.t 2), none, true⟩,
  ⟨(some 29), .call (.k (.fn 26 [])) [(.t 26), (.t 27), (.t 28)], none, true⟩,
  ⟨(some 25), .mv (.t 29), none, true⟩,
  ⟨(some 30), .ext (.t 25) 0, none, true⟩,
  ⟨(some 31), .ext (.t 25) 1, none, true⟩,
  ⟨(some 8), .mv (.t 30), none, true⟩,
  ⟨(some 9), .mv (.t 31), none, true⟩]
@[reducible] def o7_7 : List Ins := [⟨(some 33), .ld false 5 (.t 3), none, true⟩,
  ⟨(some 34), .mv (.t 1), none, true⟩,
  ⟨(some 35), .mv (.t 2), none, true⟩,
  ⟨(some 36), .call (.k (.fn 31 [])) [(.t 33), (.t 34), (.t 35)], none, true⟩,
  ⟨(some 32), .mv (.t 36), none, true⟩,
  ⟨(some 37), .ext (.t 32) 0, none, true⟩,
  ⟨(some 38), .ext (.t 32) 1, none, true⟩,
  ⟨(some 10), .mv (.t 37), none, true⟩,
  ⟨(some 11), .mv (.t 38), none, true⟩]
@[reducible] def o7_8 : List Ins := [⟨(some 39), .mv (.t 8), none, true⟩,
  ⟨(some 40), .mv (.t 10), none, true⟩,
  ⟨(some 41), .bin .eql (.t 39) (.t 40), none, true⟩,
  ⟨(some 42), .mv (.t 41), none, true⟩,
  ⟨(some 43), .mv (.t 9), (some (42, true)), true⟩,
  ⟨(some 44), .mv (.t 11), (some (42, true)), true⟩,
  ⟨(some 45), .bin .eql (.t 43) (.t 44), (some (42, true)), true⟩,
  ⟨(some 46), .pick (.t 42) (.t 45) (.k (.c (.bool false))), none, true⟩,
  ⟨(some 47), .mv (.t 46), none, true⟩,
  ⟨(some 48), .ld false 5 (.t 7), (some (47, true)), true⟩,
  ⟨(some 49), .ld false 5 (.t 3), (some (47, true)), true⟩,
  ⟨(some 50), .call (.k (.fn 30 [])) [(.t 48), (.t 49)], (some (47, true)), true⟩,
  ⟨(some 51), .pick (.t 47) (.t 50) (.k (.c (.bool false))), none, true⟩,
  ⟨(some 52), .mv (.t 51), none, true⟩,
  ⟨(some 53), .call (.k (.fn 19 [])) [], (some (52, true)), true⟩,
  ⟨(some 54), .pick (.t 52) (.t 53) (.k (.c (.bool false))), none, true⟩,
  ⟨(some 6), .mv (.t 54), none, true⟩]
@[reducible] def v7_9 : VC := (.seq (.ops o7_8) .ret)
@[reducible] def v7_10 : VC := (.seq (.ops o7_7) v7_9)
@[reducible] def v7_11 : VC := (.seq (.ops o7_6) v7_10)
@[reducible] def v7_12 : VC := (.seq (.ops o7_5) v7_11)
@[reducible] def v7_13 : VC := (.seq (.seq (.ops o7_1) v7_4) v7_12)
def ir7 : FC := ⟨3, 55, [.t 6], (.seq (.ops o7_0) v7_13)⟩
theorem c30 : compM Try.prog [] 30 = some ir30 := by kernel_rfl
theorem c75 : compM Try.prog [] 75 = some ir75 := by kernel_rfl
theorem c60 : compM Try.prog [] 60 = some ir60 := by kernel_rfl
theorem c31 : compM Try.prog [] 31 = some ir31 := by kernel_rfl
theorem c6 : compM Try.prog [] 6 = some ir6 := by kernel_rfl
theorem c7 : compM Try.prog [] 7 = some ir7 := by kernel_rfl



set_option maxRecDepth 20000 in
set_option maxHeartbeats 4000000 in
theorem same30 (t : Tray) (h1 : t.recs.length ≤ 1000) (h2 : t.pres.length ≤ 1000) : FSpec Try.prog 30 [t.av, t.av] (.c (.bool true)) := by
  refine FSpec_of c30 (Nat.le_refl _) (by decide) fun C hP hN hC hL => ?_
  simp only [ir30, Tray.av]
  (repeat ((first | refine WV_seq_ ?_ | refine WV_block ?_ | refine WV_ops ?_ | refine WV_skip ?_ | refine WV_exit ?_); (try simp only [go_sem, init_env', Nat.reduceEqDiff, Nat.reduceAdd, Nat.reduceMul, reduceIte, Nat.reduceLeDiff, Nat.reduceLT, Nat.reduceBEq, reduceCtorEq, hP, recsC, prsC, List.length_map, bne_self_eq_false]); (repeat (refine And.intro (by first | omega | (intros; simp_all; done) | (intros; simp_all; omega)) ?_))))
  (refine WV_cond rfl (fun h => ?_) (fun h => ?_))
  · simp at h
  (repeat ((first | refine WV_seq_ ?_ | refine WV_block ?_ | refine WV_ops ?_ | refine WV_skip ?_ | refine WV_exit ?_); (try simp only [go_sem, init_env', Nat.reduceEqDiff, Nat.reduceAdd, Nat.reduceMul, reduceIte, Nat.reduceLeDiff, Nat.reduceLT, Nat.reduceBEq, reduceCtorEq, hP, ]); (repeat (refine And.intro (by first | omega | (intros; simp_all; done) | (intros; simp_all; omega)) ?_))))
  refine WV_loopK K30_1 [] (fun k : Nat => k ≤ t.recs.length) (fun k => t.recs.length - k) (fun k => [(5, iv k)]) (fun _ => []) 0 (Nat.zero_le _) ?_ ?_
  · (refine Sub_of (by simp only [go_sem, init_env', Nat.reduceEqDiff, Nat.reduceAdd, Nat.reduceMul, reduceIte, Nat.reduceLeDiff, Nat.reduceLT, Nat.reduceBEq, reduceCtorEq]; ((repeat' (first | exact EnvLe_e0 _ _ | refine EnvLe_upd ?_ ?_)) <;> ((try simp only [upd_app, e0_app, o0_app, Nat.reduceEqDiff, reduceIte]); first | exact AWk.refl _ _ | exact AWk.int (by omega) | exact AWk.int (by rw [w64 (by omega) (by omega)]; omega) | exact AWk.grow rfl | exact AWk.nil _ | exact AWk.of (by simp)))) (by simp only [go_sem, init_env', Nat.reduceEqDiff, Nat.reduceAdd, Nat.reduceMul, reduceIte, Nat.reduceLeDiff, Nat.reduceLT, Nat.reduceBEq, reduceCtorEq]; (first | ((repeat' (first | exact ObjLe_o0 _ | exact ObjLe.rfl' _ | refine ObjLe_same ?_ | refine ObjLe_upd ?_ ?_ | refine ObjLe_new rfl ?_)) <;> rfl) | (refine ObjLe_X ?_; (repeat' (first | exact ObjLeX_o0 _ _ | refine ObjLeX_skip rfl ?_ | refine ObjLeX_upd ?_ ?_)) <;> rfl))))
  · intro k hk
    simp only [go_sem, init_env', Nat.reduceEqDiff, Nat.reduceAdd, Nat.reduceMul, reduceIte, Nat.reduceLeDiff, Nat.reduceLT, Nat.reduceBEq, reduceCtorEq]
    (repeat ((first | refine WV_seq_ ?_ | refine WV_block ?_ | refine WV_ops ?_ | refine WV_skip ?_ | refine WV_exit ?_); (try simp only [go_sem, init_env', Nat.reduceEqDiff, Nat.reduceAdd, Nat.reduceMul, reduceIte, Nat.reduceLeDiff, Nat.reduceLT, Nat.reduceBEq, reduceCtorEq, hP, recsC, List.length_map]); (repeat (refine And.intro (by first | omega | (intros; simp_all; done) | (intros; simp_all; omega)) ?_))))
    (refine WV_cond rfl (fun h => ?_) (fun h => ?_))
    · have hkl : k < t.recs.length := by simpa using h
      have hI : (k : Int) < (t.recs.length : Int) := by omega
      have hw2 := w64 (n := (k : Int) + 1) (by omega) (by omega)
      have g1 : (t.recs.map Rec.cds).getD k [] = [.int .i64 t.recs[k].front, .int .i64 t.recs[k].back] := map_getD hkl
      generalize t.recs[k] = X at *
      (repeat ((first | refine WV_seq_ ?_ | refine WV_block ?_ | refine WV_ops ?_ | refine WV_skip ?_ | refine WV_exit ?_); (try simp only [go_sem, init_env', Nat.reduceEqDiff, Nat.reduceAdd, Nat.reduceMul, reduceIte, Nat.reduceLeDiff, Nat.reduceLT, Nat.reduceBEq, reduceCtorEq, hP, g1, recsC, hI, List.length_map, Int.natCast_nonneg, seqGo, beq_self_eq_true]); (repeat (refine And.intro (by first | omega | (intros; simp_all; done) | (intros; simp_all; omega)) ?_))))
      (refine WV_cond rfl (fun h => ?_) (fun h => ?_))
      · simp at h
      (repeat ((first | refine WV_seq_ ?_ | refine WV_block ?_ | refine WV_ops ?_ | refine WV_skip ?_ | refine WV_exit ?_); (try simp only [go_sem, init_env', Nat.reduceEqDiff, Nat.reduceAdd, Nat.reduceMul, reduceIte, Nat.reduceLeDiff, Nat.reduceLT, Nat.reduceBEq, reduceCtorEq, hP, hw2]); (repeat (refine And.intro (by first | omega | (intros; simp_all; done) | (intros; simp_all; omega)) ?_))))
      refine ⟨k + 1, by omega, by omega, ?_⟩
      (refine Sub_of (by simp only [go_sem, init_env', Nat.reduceEqDiff, Nat.reduceAdd, Nat.reduceMul, reduceIte, Nat.reduceLeDiff, Nat.reduceLT, Nat.reduceBEq, reduceCtorEq]; ((repeat' (first | exact EnvLe_e0 _ _ | refine EnvLe_upd ?_ ?_)) <;> ((try simp only [upd_app, e0_app, o0_app, Nat.reduceEqDiff, reduceIte]); first | exact AWk.refl _ _ | exact AWk.int (by omega) | exact AWk.int (by rw [w64 (by omega) (by omega)]; omega) | exact AWk.grow rfl | exact AWk.nil _ | exact AWk.of (by simp)))) (by simp only [go_sem, init_env', Nat.reduceEqDiff, Nat.reduceAdd, Nat.reduceMul, reduceIte, Nat.reduceLeDiff, Nat.reduceLT, Nat.reduceBEq, reduceCtorEq]; (first | ((repeat' (first | exact ObjLe_o0 _ | exact ObjLe.rfl' _ | refine ObjLe_same ?_ | refine ObjLe_upd ?_ ?_ | refine ObjLe_new rfl ?_)) <;> rfl) | (refine ObjLe_X ?_; (repeat' (first | exact ObjLeX_o0 _ _ | refine ObjLeX_skip rfl ?_ | refine ObjLeX_upd ?_ ?_)) <;> rfl))))
    · (refine WV_exit ?_; simp only [go_sem, init_env', Nat.reduceEqDiff, Nat.reduceAdd, Nat.reduceMul, reduceIte, Nat.reduceLeDiff, Nat.reduceLT, Nat.reduceBEq, reduceCtorEq])
      (repeat ((first | refine WV_seq_ ?_ | refine WV_block ?_ | refine WV_ops ?_ | refine WV_skip ?_ | refine WV_exit ?_); (try simp only [go_sem, init_env', Nat.reduceEqDiff, Nat.reduceAdd, Nat.reduceMul, reduceIte, Nat.reduceLeDiff, Nat.reduceLT, Nat.reduceBEq, reduceCtorEq, hP, ]); (repeat (refine And.intro (by first | omega | (intros; simp_all; done) | (intros; simp_all; omega)) ?_))))
      refine WV_loopK K30_2 [] (fun k : Nat => k ≤ t.pres.length) (fun k => t.pres.length - k) (fun k => [(6, iv k)]) (fun _ => []) 0 (Nat.zero_le _) ?_ ?_
      · (refine Sub_of (by simp only [go_sem, init_env', Nat.reduceEqDiff, Nat.reduceAdd, Nat.reduceMul, reduceIte, Nat.reduceLeDiff, Nat.reduceLT, Nat.reduceBEq, reduceCtorEq]; ((repeat' (first | exact EnvLe_e0 _ _ | refine EnvLe_upd ?_ ?_)) <;> ((try simp only [upd_app, e0_app, o0_app, Nat.reduceEqDiff, reduceIte]); first | exact AWk.refl _ _ | exact AWk.int (by omega) | exact AWk.int (by rw [w64 (by omega) (by omega)]; omega) | exact AWk.grow rfl | exact AWk.nil _ | exact AWk.of (by simp)))) (by simp only [go_sem, init_env', Nat.reduceEqDiff, Nat.reduceAdd, Nat.reduceMul, reduceIte, Nat.reduceLeDiff, Nat.reduceLT, Nat.reduceBEq, reduceCtorEq]; (first | ((repeat' (first | exact ObjLe_o0 _ | exact ObjLe.rfl' _ | refine ObjLe_same ?_ | refine ObjLe_upd ?_ ?_ | refine ObjLe_new rfl ?_)) <;> rfl) | (refine ObjLe_X ?_; (repeat' (first | exact ObjLeX_o0 _ _ | refine ObjLeX_skip rfl ?_ | refine ObjLeX_upd ?_ ?_)) <;> rfl))))
      · intro k hk
        simp only [go_sem, init_env', Nat.reduceEqDiff, Nat.reduceAdd, Nat.reduceMul, reduceIte, Nat.reduceLeDiff, Nat.reduceLT, Nat.reduceBEq, reduceCtorEq]
        (repeat ((first | refine WV_seq_ ?_ | refine WV_block ?_ | refine WV_ops ?_ | refine WV_skip ?_ | refine WV_exit ?_); (try simp only [go_sem, init_env', Nat.reduceEqDiff, Nat.reduceAdd, Nat.reduceMul, reduceIte, Nat.reduceLeDiff, Nat.reduceLT, Nat.reduceBEq, reduceCtorEq, hP, prsC, List.length_map]); (repeat (refine And.intro (by first | omega | (intros; simp_all; done) | (intros; simp_all; omega)) ?_))))
        (refine WV_cond rfl (fun h => ?_) (fun h => ?_))
        · have hkl : k < t.pres.length := by simpa using h
          have hI : (k : Int) < (t.pres.length : Int) := by omega
          have hw2 := w64 (n := (k : Int) + 1) (by omega) (by omega)
          have g1 : (t.pres.map Pr.cds).getD k [] = [.int .i64 t.pres[k].side, .int .i64 t.pres[k].time] := map_getD hkl
          generalize t.pres[k] = X at *
          (repeat ((first | refine WV_seq_ ?_ | refine WV_block ?_ | refine WV_ops ?_ | refine WV_skip ?_ | refine WV_exit ?_); (try simp only [go_sem, init_env', Nat.reduceEqDiff, Nat.reduceAdd, Nat.reduceMul, reduceIte, Nat.reduceLeDiff, Nat.reduceLT, Nat.reduceBEq, reduceCtorEq, hP, g1, prsC, hI, List.length_map, Int.natCast_nonneg, seqGo, beq_self_eq_true]); (repeat (refine And.intro (by first | omega | (intros; simp_all; done) | (intros; simp_all; omega)) ?_))))
          (refine WV_cond rfl (fun h => ?_) (fun h => ?_))
          · simp at h
          (repeat ((first | refine WV_seq_ ?_ | refine WV_block ?_ | refine WV_ops ?_ | refine WV_skip ?_ | refine WV_exit ?_); (try simp only [go_sem, init_env', Nat.reduceEqDiff, Nat.reduceAdd, Nat.reduceMul, reduceIte, Nat.reduceLeDiff, Nat.reduceLT, Nat.reduceBEq, reduceCtorEq, hP, hw2]); (repeat (refine And.intro (by first | omega | (intros; simp_all; done) | (intros; simp_all; omega)) ?_))))
          refine ⟨k + 1, by omega, by omega, ?_⟩
          (refine Sub_of (by simp only [go_sem, init_env', Nat.reduceEqDiff, Nat.reduceAdd, Nat.reduceMul, reduceIte, Nat.reduceLeDiff, Nat.reduceLT, Nat.reduceBEq, reduceCtorEq]; ((repeat' (first | exact EnvLe_e0 _ _ | refine EnvLe_upd ?_ ?_)) <;> ((try simp only [upd_app, e0_app, o0_app, Nat.reduceEqDiff, reduceIte]); first | exact AWk.refl _ _ | exact AWk.int (by omega) | exact AWk.int (by rw [w64 (by omega) (by omega)]; omega) | exact AWk.grow rfl | exact AWk.nil _ | exact AWk.of (by simp)))) (by simp only [go_sem, init_env', Nat.reduceEqDiff, Nat.reduceAdd, Nat.reduceMul, reduceIte, Nat.reduceLeDiff, Nat.reduceLT, Nat.reduceBEq, reduceCtorEq]; (first | ((repeat' (first | exact ObjLe_o0 _ | exact ObjLe.rfl' _ | refine ObjLe_same ?_ | refine ObjLe_upd ?_ ?_ | refine ObjLe_new rfl ?_)) <;> rfl) | (refine ObjLe_X ?_; (repeat' (first | exact ObjLeX_o0 _ _ | refine ObjLeX_skip rfl ?_ | refine ObjLeX_upd ?_ ?_)) <;> rfl))))
        · (refine WV_exit ?_; simp only [go_sem, init_env', Nat.reduceEqDiff, Nat.reduceAdd, Nat.reduceMul, reduceIte, Nat.reduceLeDiff, Nat.reduceLT, Nat.reduceBEq, reduceCtorEq])
          (repeat ((first | refine WV_seq_ ?_ | refine WV_block ?_ | refine WV_ops ?_ | refine WV_skip ?_ | refine WV_exit ?_); (try simp only [go_sem, init_env', Nat.reduceEqDiff, Nat.reduceAdd, Nat.reduceMul, reduceIte, Nat.reduceLeDiff, Nat.reduceLT, Nat.reduceBEq, reduceCtorEq, hP, ]); (repeat (refine And.intro (by first | omega | (intros; simp_all; done) | (intros; simp_all; omega)) ?_))))
          (refine WV_ret ?_; simp only [thenQ, inQ, RetQ, RetOk, resAll, resA]; simp only [go_sem, init_env', Nat.reduceEqDiff, Nat.reduceAdd, Nat.reduceMul, reduceIte, Nat.reduceLeDiff, Nat.reduceLT, Nat.reduceBEq, reduceCtorEq, tupA, AV.port, AV.portL, exists_eq_left', ]; (first | exact AVle.of rfl | refine AVle.of ?_ | skip))
theorem far_no {t : Tray} (h : farB t = false) : t.recs.length ≤ 40 ∧ t.pres.length ≤ 40 := by
  unfold farB Tray.n at h
  simp only [Bool.or_eq_false_iff, decide_eq_false_iff_not] at h
  omega
/-! ### The latest press -/
set_option maxRecDepth 20000 in
set_option maxHeartbeats 4000000 in
theorem with75 (t : Tray) (s x : Int) (h2 : t.pres.length ≤ 1000) : FSpec Try.prog 75 [t.av, iv s, iv x] (withT t ⟨s, x⟩).av := by
  have hmax : maxLen = 9223372036854775807 := rfl
  have hav : (withT t ⟨s, x⟩).av = .agg [.c (recsC t.recs), iv t.at_, iv t.way, iv t.step, .c (.sl 2 (t.pres.map Pr.cds ++ [[.int .i64 s, .int .i64 x]]))] := by simp only [Tray.av, withT, prsC, Pr.cds, List.map_append, List.map_cons, List.map_nil]
  rw [hav]
  refine FSpec_of c75 (Nat.le_refl _) (by decide) fun C hP hN hC hL => ?_
  simp only [ir75, Tray.av]
  (repeat ((first | refine WV_seq_ ?_ | refine WV_block ?_ | refine WV_ops ?_ | refine WV_skip ?_ | refine WV_exit ?_); (try simp only [go_sem, init_env', Nat.reduceEqDiff, Nat.reduceAdd, Nat.reduceMul, reduceIte, Nat.reduceLeDiff, Nat.reduceLT, Nat.reduceBEq, reduceCtorEq, hP, prsC, prs_two, List.nil_append, List.length_nil, List.length_map, List.length_cons]); (repeat (refine And.intro (by first | omega | (intros; simp_all; done) | (intros; simp_all; omega)) ?_))))
  (refine WV_ret ?_; simp only [thenQ, inQ, RetQ, RetOk, resAll, resA]; simp only [go_sem, init_env', Nat.reduceEqDiff, Nat.reduceAdd, Nat.reduceMul, reduceIte, Nat.reduceLeDiff, Nat.reduceLT, Nat.reduceBEq, reduceCtorEq, tupA, AV.port, AV.portL, exists_eq_left', ]; (first | exact AVle.of rfl | refine AVle.of ?_ | skip))
theorem intime60 {t : Tray} {s x : Int} (ht : TrayOk (withT t ⟨s, x⟩)) (hl : t.pres.length ≤ 1000) (b : Int) : FSpec Try.prog 60 [t.av, iv s, iv x, iv b] (.c (.bool (decide (servAt t ⟨s, x⟩ ≤ b)))) := by
  have hin9 : inR (withT t ⟨s, x⟩) (t.pres.length : Int) = true := by
    refine inR_nat (t := withT t ⟨s, x⟩) (k := t.pres.length) ?_
    show _ < (t.pres ++ [_]).length
    rw [List.length_append]; simp
  obtain ⟨j, hj, e1, e2, e3, e4, e5, e6, e7, e8⟩ := served_get ht hin9
  have hpr : (withT t ⟨s, x⟩).pr (t.pres.length : Int) = ⟨s, x⟩ := by
    show (t.pres ++ [(⟨s, x⟩ : Pr)]).getD (((t.pres.length : Nat) : Int)).toNat default = _
    rw [Int.toNat_natCast, List.getD_eq_getElem?_getD, List.getElem?_concat_length]; rfl
  rw [hpr] at e1
  have hsv : servAt t ⟨s, x⟩ = (playsS (withT t ⟨s, x⟩))[j].time := by
    unfold servAt
    rw [e1, Int.toNat_natCast, List.getD_eq_getElem?_getD, List.getElem?_eq_getElem hj]; rfl
  have hw := with75 t s x hl
  have hp := plays65 ht
  have hs := served68 (playsS (withT t ⟨s, x⟩)) ⟨s, x⟩ (by have := plays_len ht; omega)
  rw [e1] at hs
  rw [hsv]
  clear e4 hsv e2 e3 e7 e8 hpr e5 e6 e1
  have hav : (withT t ⟨s, x⟩).av = .agg [.c (recsC t.recs), iv t.at_, iv t.way, iv t.step, .c (.sl 2 (t.pres.map Pr.cds ++ [[.int .i64 s, .int .i64 x]]))] := by simp only [Tray.av, withT, prsC, Pr.cds, List.map_append, List.map_cons, List.map_nil]
  rw [hav] at hw hp
  generalize playsS (withT t ⟨s, x⟩) = L at *
  have hJ : (j : Int) < (L.length : Int) := by omega
  have g1 : (L.map Pr.cds).getD j [] = [.int .i64 L[j].side, .int .i64 L[j].time] := map_getD hj
  generalize L[j].time = T0 at *
  generalize L[j].side = S0 at *
  unfold prAv at hs
  refine FSpec_of c60 (Nat.le_refl _) (by decide) fun C hP hN hC hL => ?_
  simp only [ir60, Tray.av]
  (repeat ((first | refine WV_seq_ ?_ | refine WV_block ?_ | refine WV_ops ?_ | refine WV_skip ?_ | refine WV_exit ?_); (try simp only [go_sem, init_env', Nat.reduceEqDiff, Nat.reduceAdd, Nat.reduceMul, reduceIte, Nat.reduceLeDiff, Nat.reduceLT, Nat.reduceBEq, reduceCtorEq, hP, ]); (repeat (refine And.intro (by first | omega | (intros; simp_all; done) | (intros; simp_all; omega)) ?_))))
  (refine AS_pure (hw) rfl rfl rfl rfl rfl ?_; simp only [go_sem, init_env', Nat.reduceEqDiff, Nat.reduceAdd, Nat.reduceMul, reduceIte, Nat.reduceLeDiff, Nat.reduceLT, Nat.reduceBEq, reduceCtorEq, hP, Tray.av]; (repeat (refine And.intro (by first | omega | (intros; simp_all; done) | (intros; simp_all; omega)) ?_)); (repeat ((first | refine WV_seq_ ?_ | refine WV_block ?_ | refine WV_ops ?_ | refine WV_skip ?_ | refine WV_exit ?_); (try simp only [go_sem, init_env', Nat.reduceEqDiff, Nat.reduceAdd, Nat.reduceMul, reduceIte, Nat.reduceLeDiff, Nat.reduceLT, Nat.reduceBEq, reduceCtorEq, hP, Tray.av]); (repeat (refine And.intro (by first | omega | (intros; simp_all; done) | (intros; simp_all; omega)) ?_)))))
  (refine AS_pure (hp) rfl rfl rfl rfl rfl ?_; simp only [go_sem, init_env', Nat.reduceEqDiff, Nat.reduceAdd, Nat.reduceMul, reduceIte, Nat.reduceLeDiff, Nat.reduceLT, Nat.reduceBEq, reduceCtorEq, hP, prsC]; (repeat (refine And.intro (by first | omega | (intros; simp_all; done) | (intros; simp_all; omega)) ?_)); (repeat ((first | refine WV_seq_ ?_ | refine WV_block ?_ | refine WV_ops ?_ | refine WV_skip ?_ | refine WV_exit ?_); (try simp only [go_sem, init_env', Nat.reduceEqDiff, Nat.reduceAdd, Nat.reduceMul, reduceIte, Nat.reduceLeDiff, Nat.reduceLT, Nat.reduceBEq, reduceCtorEq, hP, prsC]); (repeat (refine And.intro (by first | omega | (intros; simp_all; done) | (intros; simp_all; omega)) ?_)))))
  (refine AS_pure (hs) rfl rfl rfl rfl rfl ?_; simp only [go_sem, init_env', Nat.reduceEqDiff, Nat.reduceAdd, Nat.reduceMul, reduceIte, Nat.reduceLeDiff, Nat.reduceLT, Nat.reduceBEq, reduceCtorEq, hP, prsC, g1, hJ, List.length_map, Int.natCast_nonneg]; (repeat (refine And.intro (by first | omega | (intros; simp_all; done) | (intros; simp_all; omega)) ?_)); (repeat ((first | refine WV_seq_ ?_ | refine WV_block ?_ | refine WV_ops ?_ | refine WV_skip ?_ | refine WV_exit ?_); (try simp only [go_sem, init_env', Nat.reduceEqDiff, Nat.reduceAdd, Nat.reduceMul, reduceIte, Nat.reduceLeDiff, Nat.reduceLT, Nat.reduceBEq, reduceCtorEq, hP, prsC, g1, hJ, List.length_map, Int.natCast_nonneg]); (repeat (refine And.intro (by first | omega | (intros; simp_all; done) | (intros; simp_all; omega)) ?_)))))
  (refine WV_ret ?_; simp only [thenQ, inQ, RetQ, RetOk, resAll, resA]; simp only [go_sem, init_env', Nat.reduceEqDiff, Nat.reduceAdd, Nat.reduceMul, reduceIte, Nat.reduceLeDiff, Nat.reduceLT, Nat.reduceBEq, reduceCtorEq, tupA, AV.port, AV.portL, exists_eq_left', ]; (first | exact AVle.of rfl | refine AVle.of ?_ | skip))
set_option maxRecDepth 20000 in
set_option maxHeartbeats 4000000 in
theorem latest31 (t : Tray) (s b : Int) : FSpec Try.prog 31 [t.av, iv s, iv b] (.tup [iv (latestR t s b).1, iv (latestR t s b).2]) := by
  have hck := rcheck41 t
  unfold latestR
  cases hok : t.ok
  · simp only [hok, Bool.false_eq_true, if_false] at hck ⊢
    refine FSpec_of c31 (Nat.le_refl _) (by decide) fun C hP hN hC hL => ?_
    simp only [ir31, Tray.av]
    (repeat ((first | refine WV_seq_ ?_ | refine WV_block ?_ | refine WV_ops ?_ | refine WV_skip ?_ | refine WV_exit ?_); (try simp only [go_sem, init_env', Nat.reduceEqDiff, Nat.reduceAdd, Nat.reduceMul, reduceIte, Nat.reduceLeDiff, Nat.reduceLT, Nat.reduceBEq, reduceCtorEq, hP, ]); (repeat (refine And.intro (by first | omega | (intros; simp_all; done) | (intros; simp_all; omega)) ?_))))
    (refine AS_pure (hck) rfl rfl rfl rfl rfl ?_; simp only [go_sem, init_env', Nat.reduceEqDiff, Nat.reduceAdd, Nat.reduceMul, reduceIte, Nat.reduceLeDiff, Nat.reduceLT, Nat.reduceBEq, reduceCtorEq, hP, Tray.av]; (repeat (refine And.intro (by first | omega | (intros; simp_all; done) | (intros; simp_all; omega)) ?_)); (repeat ((first | refine WV_seq_ ?_ | refine WV_block ?_ | refine WV_ops ?_ | refine WV_skip ?_ | refine WV_exit ?_); (try simp only [go_sem, init_env', Nat.reduceEqDiff, Nat.reduceAdd, Nat.reduceMul, reduceIte, Nat.reduceLeDiff, Nat.reduceLT, Nat.reduceBEq, reduceCtorEq, hP, Tray.av]); (repeat (refine And.intro (by first | omega | (intros; simp_all; done) | (intros; simp_all; omega)) ?_)))))
    (refine WV_cond rfl (fun h => ?_) (fun h => ?_))
    · (repeat ((first | refine WV_seq_ ?_ | refine WV_block ?_ | refine WV_ops ?_ | refine WV_skip ?_ | refine WV_exit ?_); (try simp only [go_sem, init_env', Nat.reduceEqDiff, Nat.reduceAdd, Nat.reduceMul, reduceIte, Nat.reduceLeDiff, Nat.reduceLT, Nat.reduceBEq, reduceCtorEq, hP, ]); (repeat (refine And.intro (by first | omega | (intros; simp_all; done) | (intros; simp_all; omega)) ?_))))
      (refine WV_ret ?_; simp only [thenQ, inQ, RetQ, RetOk, resAll, resA]; simp only [go_sem, init_env', Nat.reduceEqDiff, Nat.reduceAdd, Nat.reduceMul, reduceIte, Nat.reduceLeDiff, Nat.reduceLT, Nat.reduceBEq, reduceCtorEq, tupA, AV.port, AV.portL, exists_eq_left', ]; (first | exact AVle.of rfl | refine AVle.of ?_ | skip))
    · simp at h
  simp only [hok, if_true] at hck ⊢
  obtain ⟨ht, h12⟩ := Tray.ok_spec hok
  have hn6 := ht.n6
  have hside := risside17 t s (by omega)
  have htime := ristime18 b
  cases hin : (isSide t.n s && isTime b)
  · have hb : (!isSide t.n s || !isTime b) = true := by
      cases h1 : isSide t.n s
      · rfl
      · rw [h1] at hin; simpa using hin
    simp only [Bool.false_eq_true, if_false]
    refine FSpec_of c31 (Nat.le_refl _) (by decide) fun C hP hN hC hL => ?_
    simp only [ir31, Tray.av]
    (repeat ((first | refine WV_seq_ ?_ | refine WV_block ?_ | refine WV_ops ?_ | refine WV_skip ?_ | refine WV_exit ?_); (try simp only [go_sem, init_env', Nat.reduceEqDiff, Nat.reduceAdd, Nat.reduceMul, reduceIte, Nat.reduceLeDiff, Nat.reduceLT, Nat.reduceBEq, reduceCtorEq, hP, ]); (repeat (refine And.intro (by first | omega | (intros; simp_all; done) | (intros; simp_all; omega)) ?_))))
    (refine AS_pure (hck) rfl rfl rfl rfl rfl ?_; simp only [go_sem, init_env', Nat.reduceEqDiff, Nat.reduceAdd, Nat.reduceMul, reduceIte, Nat.reduceLeDiff, Nat.reduceLT, Nat.reduceBEq, reduceCtorEq, hP, Tray.av]; (repeat (refine And.intro (by first | omega | (intros; simp_all; done) | (intros; simp_all; omega)) ?_)); (repeat ((first | refine WV_seq_ ?_ | refine WV_block ?_ | refine WV_ops ?_ | refine WV_skip ?_ | refine WV_exit ?_); (try simp only [go_sem, init_env', Nat.reduceEqDiff, Nat.reduceAdd, Nat.reduceMul, reduceIte, Nat.reduceLeDiff, Nat.reduceLT, Nat.reduceBEq, reduceCtorEq, hP, Tray.av]); (repeat (refine And.intro (by first | omega | (intros; simp_all; done) | (intros; simp_all; omega)) ?_)))))
    (refine WV_cond rfl (fun h => ?_) (fun h => ?_))
    · simp at h
    (repeat ((first | refine WV_seq_ ?_ | refine WV_block ?_ | refine WV_ops ?_ | refine WV_skip ?_ | refine WV_exit ?_); (try simp only [go_sem, init_env', Nat.reduceEqDiff, Nat.reduceAdd, Nat.reduceMul, reduceIte, Nat.reduceLeDiff, Nat.reduceLT, Nat.reduceBEq, reduceCtorEq, hP, ]); (repeat (refine And.intro (by first | omega | (intros; simp_all; done) | (intros; simp_all; omega)) ?_))))
    (refine AS_pure (hside) rfl rfl rfl rfl rfl ?_; simp only [go_sem, init_env', Nat.reduceEqDiff, Nat.reduceAdd, Nat.reduceMul, reduceIte, Nat.reduceLeDiff, Nat.reduceLT, Nat.reduceBEq, reduceCtorEq, hP, Tray.av]; (repeat (refine And.intro (by first | omega | (intros; simp_all; done) | (intros; simp_all; omega)) ?_)); (repeat ((first | refine WV_seq_ ?_ | refine WV_block ?_ | refine WV_ops ?_ | refine WV_skip ?_ | refine WV_exit ?_); (try simp only [go_sem, init_env', Nat.reduceEqDiff, Nat.reduceAdd, Nat.reduceMul, reduceIte, Nat.reduceLeDiff, Nat.reduceLT, Nat.reduceBEq, reduceCtorEq, hP, Tray.av]); (repeat (refine And.intro (by first | omega | (intros; simp_all; done) | (intros; simp_all; omega)) ?_)))))
    (refine AG_pure (fun hG => htime) rfl (fun hG => by first | (simp only [go_sem, init_env', Nat.reduceEqDiff, Nat.reduceAdd, Nat.reduceMul, reduceIte, Nat.reduceLeDiff, Nat.reduceLT, Nat.reduceBEq, reduceCtorEq, hG]; done) | (simp only [go_sem, init_env', Nat.reduceEqDiff, Nat.reduceAdd, Nat.reduceMul, reduceIte, Nat.reduceLeDiff, Nat.reduceLT, Nat.reduceBEq, reduceCtorEq]; revert hG; simp; done) | (simp only [go_sem, init_env', Nat.reduceEqDiff, Nat.reduceAdd, Nat.reduceMul, reduceIte, Nat.reduceLeDiff, Nat.reduceLT, Nat.reduceBEq, reduceCtorEq, hG]; simp_all; done) | (revert hG; simp; done) | simp_all) rfl rfl rfl ?_; simp only [go_sem, init_env', Nat.reduceEqDiff, Nat.reduceAdd, Nat.reduceMul, reduceIte, Nat.reduceLeDiff, Nat.reduceLT, Nat.reduceBEq, reduceCtorEq, hP, hb]; (repeat (refine And.intro (by first | omega | (intros; simp_all; done) | (intros; simp_all; omega)) ?_)); (repeat ((first | refine WV_seq_ ?_ | refine WV_block ?_ | refine WV_ops ?_ | refine WV_skip ?_ | refine WV_exit ?_); (try simp only [go_sem, init_env', Nat.reduceEqDiff, Nat.reduceAdd, Nat.reduceMul, reduceIte, Nat.reduceLeDiff, Nat.reduceLT, Nat.reduceBEq, reduceCtorEq, hP, hb]); (repeat (refine And.intro (by first | omega | (intros; simp_all; done) | (intros; simp_all; omega)) ?_)))))
    (refine WV_cond rfl (fun h => ?_) (fun h => ?_))
    · (repeat ((first | refine WV_seq_ ?_ | refine WV_block ?_ | refine WV_ops ?_ | refine WV_skip ?_ | refine WV_exit ?_); (try simp only [go_sem, init_env', Nat.reduceEqDiff, Nat.reduceAdd, Nat.reduceMul, reduceIte, Nat.reduceLeDiff, Nat.reduceLT, Nat.reduceBEq, reduceCtorEq, hP, ]); (repeat (refine And.intro (by first | omega | (intros; simp_all; done) | (intros; simp_all; omega)) ?_))))
      (refine WV_ret ?_; simp only [thenQ, inQ, RetQ, RetOk, resAll, resA]; simp only [go_sem, init_env', Nat.reduceEqDiff, Nat.reduceAdd, Nat.reduceMul, reduceIte, Nat.reduceLeDiff, Nat.reduceLT, Nat.reduceBEq, reduceCtorEq, tupA, AV.port, AV.portL, exists_eq_left', ]; (first | exact AVle.of rfl | refine AVle.of ?_ | skip))
    · simp at h
  simp only [if_true]
  simp only [Bool.and_eq_true] at hin
  obtain ⟨hs1, hb1⟩ := hin
  rw [hs1] at hside
  rw [hb1] at htime
  have hb2 : 0 ≤ b ∧ b ≤ 9999 := by simpa [isTime, within] using hb1
  refine FSpec_of c31 (Nat.le_refl _) (by decide) fun C hP hN hC hL => ?_
  simp only [ir31, Tray.av]
  (repeat ((first | refine WV_seq_ ?_ | refine WV_block ?_ | refine WV_ops ?_ | refine WV_skip ?_ | refine WV_exit ?_); (try simp only [go_sem, init_env', Nat.reduceEqDiff, Nat.reduceAdd, Nat.reduceMul, reduceIte, Nat.reduceLeDiff, Nat.reduceLT, Nat.reduceBEq, reduceCtorEq, hP, ]); (repeat (refine And.intro (by first | omega | (intros; simp_all; done) | (intros; simp_all; omega)) ?_))))
  (refine AS_pure (hck) rfl rfl rfl rfl rfl ?_; simp only [go_sem, init_env', Nat.reduceEqDiff, Nat.reduceAdd, Nat.reduceMul, reduceIte, Nat.reduceLeDiff, Nat.reduceLT, Nat.reduceBEq, reduceCtorEq, hP, Tray.av]; (repeat (refine And.intro (by first | omega | (intros; simp_all; done) | (intros; simp_all; omega)) ?_)); (repeat ((first | refine WV_seq_ ?_ | refine WV_block ?_ | refine WV_ops ?_ | refine WV_skip ?_ | refine WV_exit ?_); (try simp only [go_sem, init_env', Nat.reduceEqDiff, Nat.reduceAdd, Nat.reduceMul, reduceIte, Nat.reduceLeDiff, Nat.reduceLT, Nat.reduceBEq, reduceCtorEq, hP, Tray.av]); (repeat (refine And.intro (by first | omega | (intros; simp_all; done) | (intros; simp_all; omega)) ?_)))))
  (refine WV_cond rfl (fun h => ?_) (fun h => ?_))
  · simp at h
  (repeat ((first | refine WV_seq_ ?_ | refine WV_block ?_ | refine WV_ops ?_ | refine WV_skip ?_ | refine WV_exit ?_); (try simp only [go_sem, init_env', Nat.reduceEqDiff, Nat.reduceAdd, Nat.reduceMul, reduceIte, Nat.reduceLeDiff, Nat.reduceLT, Nat.reduceBEq, reduceCtorEq, hP, ]); (repeat (refine And.intro (by first | omega | (intros; simp_all; done) | (intros; simp_all; omega)) ?_))))
  (refine AS_pure (hside) rfl rfl rfl rfl rfl ?_; simp only [go_sem, init_env', Nat.reduceEqDiff, Nat.reduceAdd, Nat.reduceMul, reduceIte, Nat.reduceLeDiff, Nat.reduceLT, Nat.reduceBEq, reduceCtorEq, hP, Tray.av]; (repeat (refine And.intro (by first | omega | (intros; simp_all; done) | (intros; simp_all; omega)) ?_)); (repeat ((first | refine WV_seq_ ?_ | refine WV_block ?_ | refine WV_ops ?_ | refine WV_skip ?_ | refine WV_exit ?_); (try simp only [go_sem, init_env', Nat.reduceEqDiff, Nat.reduceAdd, Nat.reduceMul, reduceIte, Nat.reduceLeDiff, Nat.reduceLT, Nat.reduceBEq, reduceCtorEq, hP, Tray.av]); (repeat (refine And.intro (by first | omega | (intros; simp_all; done) | (intros; simp_all; omega)) ?_)))))
  (refine AG_pure (fun hG => htime) rfl (fun hG => by first | (simp only [go_sem, init_env', Nat.reduceEqDiff, Nat.reduceAdd, Nat.reduceMul, reduceIte, Nat.reduceLeDiff, Nat.reduceLT, Nat.reduceBEq, reduceCtorEq, hG]; done) | (simp only [go_sem, init_env', Nat.reduceEqDiff, Nat.reduceAdd, Nat.reduceMul, reduceIte, Nat.reduceLeDiff, Nat.reduceLT, Nat.reduceBEq, reduceCtorEq]; revert hG; simp; done) | (simp only [go_sem, init_env', Nat.reduceEqDiff, Nat.reduceAdd, Nat.reduceMul, reduceIte, Nat.reduceLeDiff, Nat.reduceLT, Nat.reduceBEq, reduceCtorEq, hG]; simp_all; done) | (revert hG; simp; done) | simp_all) rfl rfl rfl ?_; simp only [go_sem, init_env', Nat.reduceEqDiff, Nat.reduceAdd, Nat.reduceMul, reduceIte, Nat.reduceLeDiff, Nat.reduceLT, Nat.reduceBEq, reduceCtorEq, hP, ]; (repeat (refine And.intro (by first | omega | (intros; simp_all; done) | (intros; simp_all; omega)) ?_)); (repeat ((first | refine WV_seq_ ?_ | refine WV_block ?_ | refine WV_ops ?_ | refine WV_skip ?_ | refine WV_exit ?_); (try simp only [go_sem, init_env', Nat.reduceEqDiff, Nat.reduceAdd, Nat.reduceMul, reduceIte, Nat.reduceLeDiff, Nat.reduceLT, Nat.reduceBEq, reduceCtorEq, hP, ]); (repeat (refine And.intro (by first | omega | (intros; simp_all; done) | (intros; simp_all; omega)) ?_)))))
  (refine WV_cond rfl (fun h => ?_) (fun h => ?_))
  · simp at h
  (repeat ((first | refine WV_seq_ ?_ | refine WV_block ?_ | refine WV_ops ?_ | refine WV_skip ?_ | refine WV_exit ?_); (try simp only [go_sem, init_env', Nat.reduceEqDiff, Nat.reduceAdd, Nat.reduceMul, reduceIte, Nat.reduceLeDiff, Nat.reduceLT, Nat.reduceBEq, reduceCtorEq, hP, ]); (repeat (refine And.intro (by first | omega | (intros; simp_all; done) | (intros; simp_all; omega)) ?_))))
  refine WV_loopK K31_1 [] (fun m : Nat => m ≤ (b + 1).toNat ∧ latestG (fun x => decide (servAt t ⟨s, x⟩ ≤ b)) (b + 1).toNat = latestG (fun x => decide (servAt t ⟨s, x⟩ ≤ b)) m) (fun m => m) (fun m => [(9, iv ((m : Int) - 1))]) (fun _ => []) (b + 1).toNat ⟨Nat.le_refl _, rfl⟩ ?_ ?_
  · rw [show (((b + 1).toNat : Nat) : Int) - 1 = b from by omega]
    (refine Sub_of (by simp only [go_sem, init_env', Nat.reduceEqDiff, Nat.reduceAdd, Nat.reduceMul, reduceIte, Nat.reduceLeDiff, Nat.reduceLT, Nat.reduceBEq, reduceCtorEq]; ((repeat' (first | exact EnvLe_e0 _ _ | refine EnvLe_upd ?_ ?_)) <;> ((try simp only [upd_app, e0_app, o0_app, Nat.reduceEqDiff, reduceIte]); first | exact AWk.refl _ _ | exact AWk.int (by omega) | exact AWk.int (by rw [w64 (by omega) (by omega)]; omega) | exact AWk.grow rfl | exact AWk.nil _ | exact AWk.of (by simp)))) (by simp only [go_sem, init_env', Nat.reduceEqDiff, Nat.reduceAdd, Nat.reduceMul, reduceIte, Nat.reduceLeDiff, Nat.reduceLT, Nat.reduceBEq, reduceCtorEq]; (first | ((repeat' (first | exact ObjLe_o0 _ | exact ObjLe.rfl' _ | refine ObjLe_same ?_ | refine ObjLe_upd ?_ ?_ | refine ObjLe_new rfl ?_)) <;> rfl) | (refine ObjLe_X ?_; (repeat' (first | exact ObjLeX_o0 _ _ | refine ObjLeX_skip rfl ?_ | refine ObjLeX_upd ?_ ?_)) <;> rfl))))
  rintro m ⟨hm, hx⟩
  simp only [go_sem, init_env', Nat.reduceEqDiff, Nat.reduceAdd, Nat.reduceMul, reduceIte, Nat.reduceLeDiff, Nat.reduceLT, Nat.reduceBEq, reduceCtorEq]
  (repeat ((first | refine WV_seq_ ?_ | refine WV_block ?_ | refine WV_ops ?_ | refine WV_skip ?_ | refine WV_exit ?_); (try simp only [go_sem, init_env', Nat.reduceEqDiff, Nat.reduceAdd, Nat.reduceMul, reduceIte, Nat.reduceLeDiff, Nat.reduceLT, Nat.reduceBEq, reduceCtorEq, hP, ]); (repeat (refine And.intro (by first | omega | (intros; simp_all; done) | (intros; simp_all; omega)) ?_))))
  cases m with
  | zero =>
    have hd : decide ((0 : Int) ≤ ((0 : Nat) : Int) - 1) = false := by decide
    rw [hd]
    (refine WV_cond rfl (fun h => ?_) (fun h => ?_))
    · simp at h
    · (refine WV_exit ?_; simp only [go_sem, init_env', Nat.reduceEqDiff, Nat.reduceAdd, Nat.reduceMul, reduceIte, Nat.reduceLeDiff, Nat.reduceLT, Nat.reduceBEq, reduceCtorEq])
      (repeat ((first | refine WV_seq_ ?_ | refine WV_block ?_ | refine WV_ops ?_ | refine WV_skip ?_ | refine WV_exit ?_); (try simp only [go_sem, init_env', Nat.reduceEqDiff, Nat.reduceAdd, Nat.reduceMul, reduceIte, Nat.reduceLeDiff, Nat.reduceLT, Nat.reduceBEq, reduceCtorEq, hP, ]); (repeat (refine And.intro (by first | omega | (intros; simp_all; done) | (intros; simp_all; omega)) ?_))))
      (refine WV_ret ?_; simp only [thenQ, inQ, RetQ, RetOk, resAll, resA]; simp only [go_sem, init_env', Nat.reduceEqDiff, Nat.reduceAdd, Nat.reduceMul, reduceIte, Nat.reduceLeDiff, Nat.reduceLT, Nat.reduceBEq, reduceCtorEq, tupA, AV.port, AV.portL, exists_eq_left', ]; (first | exact AVle.of rfl | refine AVle.of ?_ | skip))
      rw [hx]; rfl
  | succ m =>
    have em : ((m + 1 : Nat) : Int) - 1 = (m : Int) := by omega
    rw [em]
    (refine WV_cond rfl (fun h => ?_) (fun h => ?_))
    rotate_left
    · simp at h
    have hw9 := w64 (n := (m : Int) - 1) (by omega) (by omega)
    have hwt : TrayOk (withT t ⟨s, m⟩) := with_ok ht h12 hs1 (by simp [isTime, within]; omega)
    have hit := intime60 hwt (by omega) b
    have hlg : latestG (fun x => decide (servAt t ⟨s, x⟩ ≤ b)) (m + 1) = if decide (servAt t ⟨s, m⟩ ≤ b) = true then ((m : Int), 0) else latestG (fun x => decide (servAt t ⟨s, x⟩ ≤ b)) m := rfl
    rw [hlg] at hx
    generalize hsv : servAt t ⟨s, m⟩ = SV at *
    (repeat ((first | refine WV_seq_ ?_ | refine WV_block ?_ | refine WV_ops ?_ | refine WV_skip ?_ | refine WV_exit ?_); (try simp only [go_sem, init_env', Nat.reduceEqDiff, Nat.reduceAdd, Nat.reduceMul, reduceIte, Nat.reduceLeDiff, Nat.reduceLT, Nat.reduceBEq, reduceCtorEq, hP, ]); (repeat (refine And.intro (by first | omega | (intros; simp_all; done) | (intros; simp_all; omega)) ?_))))
    (refine AS_pure (hit) rfl rfl rfl rfl rfl ?_; simp only [go_sem, init_env', Nat.reduceEqDiff, Nat.reduceAdd, Nat.reduceMul, reduceIte, Nat.reduceLeDiff, Nat.reduceLT, Nat.reduceBEq, reduceCtorEq, hP, Tray.av]; (repeat (refine And.intro (by first | omega | (intros; simp_all; done) | (intros; simp_all; omega)) ?_)); (repeat ((first | refine WV_seq_ ?_ | refine WV_block ?_ | refine WV_ops ?_ | refine WV_skip ?_ | refine WV_exit ?_); (try simp only [go_sem, init_env', Nat.reduceEqDiff, Nat.reduceAdd, Nat.reduceMul, reduceIte, Nat.reduceLeDiff, Nat.reduceLT, Nat.reduceBEq, reduceCtorEq, hP, Tray.av]); (repeat (refine And.intro (by first | omega | (intros; simp_all; done) | (intros; simp_all; omega)) ?_)))))
    by_cases hc : SV ≤ b
    · rw [if_pos (decide_eq_true hc)] at hx
      rw [decide_eq_true hc]
      (refine WV_cond rfl (fun h => ?_) (fun h => ?_))
      · (repeat ((first | refine WV_seq_ ?_ | refine WV_block ?_ | refine WV_ops ?_ | refine WV_skip ?_ | refine WV_exit ?_); (try simp only [go_sem, init_env', Nat.reduceEqDiff, Nat.reduceAdd, Nat.reduceMul, reduceIte, Nat.reduceLeDiff, Nat.reduceLT, Nat.reduceBEq, reduceCtorEq, hP, ]); (repeat (refine And.intro (by first | omega | (intros; simp_all; done) | (intros; simp_all; omega)) ?_))))
        (refine WV_ret ?_; simp only [thenQ, inQ, RetQ, RetOk, resAll, resA]; simp only [go_sem, init_env', Nat.reduceEqDiff, Nat.reduceAdd, Nat.reduceMul, reduceIte, Nat.reduceLeDiff, Nat.reduceLT, Nat.reduceBEq, reduceCtorEq, tupA, AV.port, AV.portL, exists_eq_left', ]; (first | exact AVle.of rfl | refine AVle.of ?_ | skip))
        rw [hx]
      · simp at h
    · rw [if_neg (by simpa using hc)] at hx
      rw [decide_eq_false hc]
      (refine WV_cond rfl (fun h => ?_) (fun h => ?_))
      · simp at h
      · (repeat ((first | refine WV_seq_ ?_ | refine WV_block ?_ | refine WV_ops ?_ | refine WV_skip ?_ | refine WV_exit ?_); (try simp only [go_sem, init_env', Nat.reduceEqDiff, Nat.reduceAdd, Nat.reduceMul, reduceIte, Nat.reduceLeDiff, Nat.reduceLT, Nat.reduceBEq, reduceCtorEq, hP, hw9]); (repeat (refine And.intro (by first | omega | (intros; simp_all; done) | (intros; simp_all; omega)) ?_))))
        refine ⟨m, ⟨by omega, hx⟩, by omega, ?_⟩
        (refine Sub_of (by simp only [go_sem, init_env', Nat.reduceEqDiff, Nat.reduceAdd, Nat.reduceMul, reduceIte, Nat.reduceLeDiff, Nat.reduceLT, Nat.reduceBEq, reduceCtorEq]; ((repeat' (first | exact EnvLe_e0 _ _ | refine EnvLe_upd ?_ ?_)) <;> ((try simp only [upd_app, e0_app, o0_app, Nat.reduceEqDiff, reduceIte]); first | exact AWk.refl _ _ | exact AWk.int (by omega) | exact AWk.int (by rw [w64 (by omega) (by omega)]; omega) | exact AWk.grow rfl | exact AWk.nil _ | exact AWk.of (by simp)))) (by simp only [go_sem, init_env', Nat.reduceEqDiff, Nat.reduceAdd, Nat.reduceMul, reduceIte, Nat.reduceLeDiff, Nat.reduceLT, Nat.reduceBEq, reduceCtorEq]; (first | ((repeat' (first | exact ObjLe_o0 _ | exact ObjLe.rfl' _ | refine ObjLe_same ?_ | refine ObjLe_upd ?_ ?_ | refine ObjLe_new rfl ?_)) <;> rfl) | (refine ObjLe_X ?_; (repeat' (first | exact ObjLeX_o0 _ _ | refine ObjLeX_skip rfl ?_ | refine ObjLeX_upd ?_ ?_)) <;> rfl))))
set_option maxRecDepth 20000 in
set_option maxHeartbeats 4000000 in
/-- Latest is as specified. -/
theorem law7 (t : Tray) (s b : Int) : FSpec Try.prog 7 [t.av, iv s, iv b] (.c (.bool true)) := by
  have hfar := far28 t
  cases hf : (farB t || (decide (400 < b) && decide (b ≤ 9999)))
  rotate_left
  · refine FSpec_of c7 (Nat.le_refl _) (by decide) fun C hP hN hC hL => ?_
    simp only [ir7, Tray.av]
    (repeat ((first | refine WV_seq_ ?_ | refine WV_block ?_ | refine WV_ops ?_ | refine WV_skip ?_ | refine WV_exit ?_); (try simp only [go_sem, init_env', Nat.reduceEqDiff, Nat.reduceAdd, Nat.reduceMul, reduceIte, Nat.reduceLeDiff, Nat.reduceLT, Nat.reduceBEq, reduceCtorEq, hP, ]); (repeat (refine And.intro (by first | omega | (intros; simp_all; done) | (intros; simp_all; omega)) ?_))))
    (refine AS_pure (hfar) rfl rfl rfl rfl rfl ?_; simp only [go_sem, init_env', Nat.reduceEqDiff, Nat.reduceAdd, Nat.reduceMul, reduceIte, Nat.reduceLeDiff, Nat.reduceLT, Nat.reduceBEq, reduceCtorEq, hP, Tray.av]; (repeat (refine And.intro (by first | omega | (intros; simp_all; done) | (intros; simp_all; omega)) ?_)); (repeat ((first | refine WV_seq_ ?_ | refine WV_block ?_ | refine WV_ops ?_ | refine WV_skip ?_ | refine WV_exit ?_); (try simp only [go_sem, init_env', Nat.reduceEqDiff, Nat.reduceAdd, Nat.reduceMul, reduceIte, Nat.reduceLeDiff, Nat.reduceLT, Nat.reduceBEq, reduceCtorEq, hP, Tray.av]); (repeat (refine And.intro (by first | omega | (intros; simp_all; done) | (intros; simp_all; omega)) ?_)))))
    cases hf1 : farB t with
    | true =>
      (repeat ((first | refine WV_seq_ ?_ | refine WV_block ?_ | refine WV_ops ?_ | refine WV_skip ?_ | refine WV_exit ?_); (try simp only [go_sem, init_env', Nat.reduceEqDiff, Nat.reduceAdd, Nat.reduceMul, reduceIte, Nat.reduceLeDiff, Nat.reduceLT, Nat.reduceBEq, reduceCtorEq, hP, ]); (repeat (refine And.intro (by first | omega | (intros; simp_all; done) | (intros; simp_all; omega)) ?_))))
      (refine WV_cond rfl (fun h => ?_) (fun h => ?_))
      · (repeat ((first | refine WV_seq_ ?_ | refine WV_block ?_ | refine WV_ops ?_ | refine WV_skip ?_ | refine WV_exit ?_); (try simp only [go_sem, init_env', Nat.reduceEqDiff, Nat.reduceAdd, Nat.reduceMul, reduceIte, Nat.reduceLeDiff, Nat.reduceLT, Nat.reduceBEq, reduceCtorEq, hP, ]); (repeat (refine And.intro (by first | omega | (intros; simp_all; done) | (intros; simp_all; omega)) ?_))))
        (refine AS_pure (works19) rfl rfl rfl rfl rfl ?_; simp only [go_sem, init_env', Nat.reduceEqDiff, Nat.reduceAdd, Nat.reduceMul, reduceIte, Nat.reduceLeDiff, Nat.reduceLT, Nat.reduceBEq, reduceCtorEq, hP, ]; (repeat (refine And.intro (by first | omega | (intros; simp_all; done) | (intros; simp_all; omega)) ?_)); (repeat ((first | refine WV_seq_ ?_ | refine WV_block ?_ | refine WV_ops ?_ | refine WV_skip ?_ | refine WV_exit ?_); (try simp only [go_sem, init_env', Nat.reduceEqDiff, Nat.reduceAdd, Nat.reduceMul, reduceIte, Nat.reduceLeDiff, Nat.reduceLT, Nat.reduceBEq, reduceCtorEq, hP, ]); (repeat (refine And.intro (by first | omega | (intros; simp_all; done) | (intros; simp_all; omega)) ?_)))))
        (refine WV_ret ?_; simp only [thenQ, inQ, RetQ, RetOk, resAll, resA]; simp only [go_sem, init_env', Nat.reduceEqDiff, Nat.reduceAdd, Nat.reduceMul, reduceIte, Nat.reduceLeDiff, Nat.reduceLT, Nat.reduceBEq, reduceCtorEq, tupA, AV.port, AV.portL, exists_eq_left', ]; (first | exact AVle.of rfl | refine AVle.of ?_ | skip))
      · simp at h
    | false =>
      rw [hf1] at hf
      simp only [Bool.false_or] at hf
      simp only [Bool.and_eq_true, decide_eq_true_eq] at hf
      (refine WV_cond rfl (fun h => ?_) (fun h => ?_))
      · (repeat ((first | refine WV_seq_ ?_ | refine WV_block ?_ | refine WV_ops ?_ | refine WV_skip ?_ | refine WV_exit ?_); (try simp only [go_sem, init_env', Nat.reduceEqDiff, Nat.reduceAdd, Nat.reduceMul, reduceIte, Nat.reduceLeDiff, Nat.reduceLT, Nat.reduceBEq, reduceCtorEq, hP, ]); (repeat (refine And.intro (by first | omega | (intros; simp_all; done) | (intros; simp_all; omega)) ?_))))
        (refine AS_pure (works19) rfl rfl rfl rfl rfl ?_; simp only [go_sem, init_env', Nat.reduceEqDiff, Nat.reduceAdd, Nat.reduceMul, reduceIte, Nat.reduceLeDiff, Nat.reduceLT, Nat.reduceBEq, reduceCtorEq, hP, ]; (repeat (refine And.intro (by first | omega | (intros; simp_all; done) | (intros; simp_all; omega)) ?_)); (repeat ((first | refine WV_seq_ ?_ | refine WV_block ?_ | refine WV_ops ?_ | refine WV_skip ?_ | refine WV_exit ?_); (try simp only [go_sem, init_env', Nat.reduceEqDiff, Nat.reduceAdd, Nat.reduceMul, reduceIte, Nat.reduceLeDiff, Nat.reduceLT, Nat.reduceBEq, reduceCtorEq, hP, ]); (repeat (refine And.intro (by first | omega | (intros; simp_all; done) | (intros; simp_all; omega)) ?_)))))
        (refine WV_ret ?_; simp only [thenQ, inQ, RetQ, RetOk, resAll, resA]; simp only [go_sem, init_env', Nat.reduceEqDiff, Nat.reduceAdd, Nat.reduceMul, reduceIte, Nat.reduceLeDiff, Nat.reduceLT, Nat.reduceBEq, reduceCtorEq, tupA, AV.port, AV.portL, exists_eq_left', ]; (first | exact AVle.of rfl | refine AVle.of ?_ | skip))
      · simp at h; omega
  have hf1 : farB t = false := by
    cases h : farB t
    · rfl
    · rw [h] at hf; simp at hf
  rw [hf1] at hfar hf
  simp only [Bool.false_or] at hf
  obtain ⟨l1, l2⟩ := far_no hf1
  have hcop := copy20 t (by omega) (by omega)
  have b1 := latest26 t s b
  have b2 := latest31 t s b
  have bt := same30 t (by omega) (by omega)
  generalize latestR t s b = A at *
  refine FSpec_of c7 (Nat.le_refl _) (by decide) fun C hP hN hC hL => ?_
  simp only [ir7, Tray.av]
  (repeat ((first | refine WV_seq_ ?_ | refine WV_block ?_ | refine WV_ops ?_ | refine WV_skip ?_ | refine WV_exit ?_); (try simp only [go_sem, init_env', Nat.reduceEqDiff, Nat.reduceAdd, Nat.reduceMul, reduceIte, Nat.reduceLeDiff, Nat.reduceLT, Nat.reduceBEq, reduceCtorEq, hP, ]); (repeat (refine And.intro (by first | omega | (intros; simp_all; done) | (intros; simp_all; omega)) ?_))))
  (refine AS_pure (hfar) rfl rfl rfl rfl rfl ?_; simp only [go_sem, init_env', Nat.reduceEqDiff, Nat.reduceAdd, Nat.reduceMul, reduceIte, Nat.reduceLeDiff, Nat.reduceLT, Nat.reduceBEq, reduceCtorEq, hP, Tray.av]; (repeat (refine And.intro (by first | omega | (intros; simp_all; done) | (intros; simp_all; omega)) ?_)); (repeat ((first | refine WV_seq_ ?_ | refine WV_block ?_ | refine WV_ops ?_ | refine WV_skip ?_ | refine WV_exit ?_); (try simp only [go_sem, init_env', Nat.reduceEqDiff, Nat.reduceAdd, Nat.reduceMul, reduceIte, Nat.reduceLeDiff, Nat.reduceLT, Nat.reduceBEq, reduceCtorEq, hP, Tray.av]); (repeat (refine And.intro (by first | omega | (intros; simp_all; done) | (intros; simp_all; omega)) ?_)))))
  (refine WV_cond rfl (fun h => ?_) (fun h => ?_))
  · exfalso; simp at h hf; omega
  (repeat ((first | refine WV_seq_ ?_ | refine WV_block ?_ | refine WV_ops ?_ | refine WV_skip ?_ | refine WV_exit ?_); (try simp only [go_sem, init_env', Nat.reduceEqDiff, Nat.reduceAdd, Nat.reduceMul, reduceIte, Nat.reduceLeDiff, Nat.reduceLT, Nat.reduceBEq, reduceCtorEq, hP, ]); (repeat (refine And.intro (by first | omega | (intros; simp_all; done) | (intros; simp_all; omega)) ?_))))
  (refine AS_pure (hcop) rfl rfl rfl rfl rfl ?_; simp only [go_sem, init_env', Nat.reduceEqDiff, Nat.reduceAdd, Nat.reduceMul, reduceIte, Nat.reduceLeDiff, Nat.reduceLT, Nat.reduceBEq, reduceCtorEq, hP, Tray.av]; (repeat (refine And.intro (by first | omega | (intros; simp_all; done) | (intros; simp_all; omega)) ?_)); (repeat ((first | refine WV_seq_ ?_ | refine WV_block ?_ | refine WV_ops ?_ | refine WV_skip ?_ | refine WV_exit ?_); (try simp only [go_sem, init_env', Nat.reduceEqDiff, Nat.reduceAdd, Nat.reduceMul, reduceIte, Nat.reduceLeDiff, Nat.reduceLT, Nat.reduceBEq, reduceCtorEq, hP, Tray.av]); (repeat (refine And.intro (by first | omega | (intros; simp_all; done) | (intros; simp_all; omega)) ?_)))))
  (refine AS_pure (b1) rfl rfl rfl rfl rfl ?_; simp only [go_sem, init_env', Nat.reduceEqDiff, Nat.reduceAdd, Nat.reduceMul, reduceIte, Nat.reduceLeDiff, Nat.reduceLT, Nat.reduceBEq, reduceCtorEq, hP, Tray.av]; (repeat (refine And.intro (by first | omega | (intros; simp_all; done) | (intros; simp_all; omega)) ?_)); (repeat ((first | refine WV_seq_ ?_ | refine WV_block ?_ | refine WV_ops ?_ | refine WV_skip ?_ | refine WV_exit ?_); (try simp only [go_sem, init_env', Nat.reduceEqDiff, Nat.reduceAdd, Nat.reduceMul, reduceIte, Nat.reduceLeDiff, Nat.reduceLT, Nat.reduceBEq, reduceCtorEq, hP, Tray.av]); (repeat (refine And.intro (by first | omega | (intros; simp_all; done) | (intros; simp_all; omega)) ?_)))))
  (refine AS_pure (b2) rfl rfl rfl rfl rfl ?_; simp only [go_sem, init_env', Nat.reduceEqDiff, Nat.reduceAdd, Nat.reduceMul, reduceIte, Nat.reduceLeDiff, Nat.reduceLT, Nat.reduceBEq, reduceCtorEq, hP, Tray.av, beq_self_eq_true]; (repeat (refine And.intro (by first | omega | (intros; simp_all; done) | (intros; simp_all; omega)) ?_)); (repeat ((first | refine WV_seq_ ?_ | refine WV_block ?_ | refine WV_ops ?_ | refine WV_skip ?_ | refine WV_exit ?_); (try simp only [go_sem, init_env', Nat.reduceEqDiff, Nat.reduceAdd, Nat.reduceMul, reduceIte, Nat.reduceLeDiff, Nat.reduceLT, Nat.reduceBEq, reduceCtorEq, hP, Tray.av, beq_self_eq_true]); (repeat (refine And.intro (by first | omega | (intros; simp_all; done) | (intros; simp_all; omega)) ?_)))))
  (refine AG_pure (fun hG => bt) rfl (fun hG => by first | (simp only [go_sem, init_env', Nat.reduceEqDiff, Nat.reduceAdd, Nat.reduceMul, reduceIte, Nat.reduceLeDiff, Nat.reduceLT, Nat.reduceBEq, reduceCtorEq, hG]; done) | (simp only [go_sem, init_env', Nat.reduceEqDiff, Nat.reduceAdd, Nat.reduceMul, reduceIte, Nat.reduceLeDiff, Nat.reduceLT, Nat.reduceBEq, reduceCtorEq]; revert hG; simp; done) | (simp only [go_sem, init_env', Nat.reduceEqDiff, Nat.reduceAdd, Nat.reduceMul, reduceIte, Nat.reduceLeDiff, Nat.reduceLT, Nat.reduceBEq, reduceCtorEq, hG]; simp_all; done) | (revert hG; simp; done) | simp_all) rfl rfl rfl ?_; simp only [go_sem, init_env', Nat.reduceEqDiff, Nat.reduceAdd, Nat.reduceMul, reduceIte, Nat.reduceLeDiff, Nat.reduceLT, Nat.reduceBEq, reduceCtorEq, hP, Tray.av, beq_self_eq_true]; (repeat (refine And.intro (by first | omega | (intros; simp_all; done) | (intros; simp_all; omega)) ?_)); (repeat ((first | refine WV_seq_ ?_ | refine WV_block ?_ | refine WV_ops ?_ | refine WV_skip ?_ | refine WV_exit ?_); (try simp only [go_sem, init_env', Nat.reduceEqDiff, Nat.reduceAdd, Nat.reduceMul, reduceIte, Nat.reduceLeDiff, Nat.reduceLT, Nat.reduceBEq, reduceCtorEq, hP, Tray.av, beq_self_eq_true]); (repeat (refine And.intro (by first | omega | (intros; simp_all; done) | (intros; simp_all; omega)) ?_)))))
  (refine AG_pure (fun hG => works19) rfl (fun hG => by first | (simp only [go_sem, init_env', Nat.reduceEqDiff, Nat.reduceAdd, Nat.reduceMul, reduceIte, Nat.reduceLeDiff, Nat.reduceLT, Nat.reduceBEq, reduceCtorEq, hG]; done) | (simp only [go_sem, init_env', Nat.reduceEqDiff, Nat.reduceAdd, Nat.reduceMul, reduceIte, Nat.reduceLeDiff, Nat.reduceLT, Nat.reduceBEq, reduceCtorEq]; revert hG; simp; done) | (simp only [go_sem, init_env', Nat.reduceEqDiff, Nat.reduceAdd, Nat.reduceMul, reduceIte, Nat.reduceLeDiff, Nat.reduceLT, Nat.reduceBEq, reduceCtorEq, hG]; simp_all; done) | (revert hG; simp; done) | simp_all) rfl rfl rfl ?_; simp only [go_sem, init_env', Nat.reduceEqDiff, Nat.reduceAdd, Nat.reduceMul, reduceIte, Nat.reduceLeDiff, Nat.reduceLT, Nat.reduceBEq, reduceCtorEq, hP, ]; (repeat (refine And.intro (by first | omega | (intros; simp_all; done) | (intros; simp_all; omega)) ?_)); (repeat ((first | refine WV_seq_ ?_ | refine WV_block ?_ | refine WV_ops ?_ | refine WV_skip ?_ | refine WV_exit ?_); (try simp only [go_sem, init_env', Nat.reduceEqDiff, Nat.reduceAdd, Nat.reduceMul, reduceIte, Nat.reduceLeDiff, Nat.reduceLT, Nat.reduceBEq, reduceCtorEq, hP, ]); (repeat (refine And.intro (by first | omega | (intros; simp_all; done) | (intros; simp_all; omega)) ?_)))))
  (refine WV_ret ?_; simp only [thenQ, inQ, RetQ, RetOk, resAll, resA]; simp only [go_sem, init_env', Nat.reduceEqDiff, Nat.reduceAdd, Nat.reduceMul, reduceIte, Nat.reduceLeDiff, Nat.reduceLT, Nat.reduceBEq, reduceCtorEq, tupA, AV.port, AV.portL, exists_eq_left', ]; (first | exact AVle.of rfl | refine AVle.of ?_ | skip))
end Go.Proofs.Ytkpgpgaojjobgaa
