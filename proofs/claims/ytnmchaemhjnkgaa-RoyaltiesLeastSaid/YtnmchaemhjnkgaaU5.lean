/-
  Contracts of the layer's functions, of the laws' helpers and of the law; conditions: as each theorem states.
-/
import Derived.Test.YtnmchaemhjnkgaaV2
import Derived.Test.YtnmchaemhjnkgaaU4
set_option linter.unusedVariables false
set_option linter.unusedSimpArgs false
namespace Go.Proofs.Ytnmchaemhjnkgaa
open Go Go.V
@[reducible] def o55_0 : List Ins := [⟨(some 2), .box 3 (.t 0), none, true⟩,
  ⟨(some 4), .mv (.k (.c (.int .i64 0))), none, true⟩]
@[reducible] def o55_1 : List Ins := [⟨(some 6), .ld false 3 (.t 2), none, true⟩,
  ⟨(some 7), .call (.k (.fn 31 [])) [(.t 6)], none, true⟩,
  ⟨(some 5), .mv (.t 7), none, true⟩]
@[reducible] def o55_2 : List Ins := [⟨(some 8), .mv (.t 5), none, true⟩,
  ⟨(some 9), .bin .neq (.t 8) (.k (.c (.int .i64 0))), none, true⟩]
@[reducible] def o55_3 : List Ins := [⟨(some 10), .mv (.t 5), none, true⟩,
  ⟨(some 4), .mv (.t 10), none, true⟩]
@[reducible] def v55_4 : VC := (.seq (.ops o55_3) .ret)
@[reducible] def v55_5 : VC := (.cond (.t 9) v55_4 .skip)
@[reducible] def v55_6 : VC := (.seq (.ops o55_2) v55_5)
@[reducible] def o55_7 : List Ins := [⟨(some 11), .mv (.t 1), none, true⟩,
  ⟨(some 12), .un .not (.t 11), none, true⟩]
@[reducible] def o55_8 : List Ins := [⟨(some 4), .mv (.k (.c (.int .i64 1))), none, true⟩]
@[reducible] def v55_9 : VC := (.seq (.ops o55_8) .ret)
@[reducible] def v55_10 : VC := (.cond (.t 12) v55_9 .skip)
@[reducible] def o55_11 : List Ins := [⟨(some 13), .ld false 3 (.t 2), none, true⟩,
  ⟨(some 14), .call (.k (.fn 21 [])) [(.t 13)], none, true⟩,
  ⟨(some 15), .bin .eql (.t 14) (.k (.c (.int .i64 0))), none, true⟩]
@[reducible] def o55_12 : List Ins := [⟨(some 4), .mv (.k (.c (.int .i64 3))), none, true⟩]
@[reducible] def v55_13 : VC := (.seq (.ops o55_12) .ret)
@[reducible] def v55_14 : VC := (.cond (.t 15) v55_13 .skip)
@[reducible] def o55_15 : List Ins := [⟨(some 4), .mv (.k (.c (.int .i64 0))), none, true⟩]
@[reducible] def v55_16 : VC := (.seq (.ops o55_15) .ret)
@[reducible] def v55_17 : VC := (.seq (.seq (.ops o55_11) v55_14) v55_16)
@[reducible] def v55_18 : VC := (.seq (.seq (.ops o55_7) v55_10) v55_17)
@[reducible] def v55_19 : VC := (.seq (.seq (.ops o55_1) v55_6) v55_18)
def ir55 : FC := ⟨2, 16, [.t 4], (.seq (.ops o55_0) v55_19)⟩
@[reducible] def o57_0 : List Ins := [⟨(some 1), .box 3 (.t 0), none, true⟩,
  ⟨(some 2), .mv (.k (.c (.raw (.slice none 0 0)))), none, true⟩]
@[reducible] def o57_1 : List Ins := [⟨(some 3), .mv (.k (.c (.raw (.slice none 0 0)))), none, true⟩,
  ⟨(some 4), .mv (.k (.c (.raw (.slice none 0 0)))), none, true⟩]
@[reducible] def o57_2 : List Ins := [⟨(some 11), .fa 0 (.t 1), none, true⟩,
  ⟨(some 12), .ld true 1 (.t 11), none, true⟩,
  ⟨(some 5), .mv (.t 12), none, true⟩]
@[reducible] def o57_3 : List Ins := [⟨(some 6), .mv (.k (.c (.int .i64 0))), none, true⟩]
@[reducible] def o57_4 : List Ins := [⟨(some 13), .mv (.t 6), none, true⟩,
  ⟨(some 14), .fa 2 (.t 1), none, true⟩,
  ⟨(some 15), .ld true 1 (.t 14), none, true⟩,
  ⟨(some 16), .len (.t 15), none, true⟩,
  ⟨(some 17), .bin .lss (.t 13) (.t 16), none, true⟩]
@[reducible] def v57_5 : VC := (.cond (.t 17) .skip (.exit 0))
@[reducible] def o57_6 : List Ins := [⟨(some 21), .ld false 3 (.t 1), none, true⟩,
  ⟨(some 22), .mv (.t 6), none, true⟩,
  ⟨(some 23), .call (.k (.fn 18 [])) [(.t 21), (.t 22)], none, true⟩,
  ⟨(some 20), .mv (.t 23), none, true⟩,
  ⟨(some 24), .ext (.t 20) 0, none, true⟩,
  ⟨(some 25), .ext (.t 20) 1, none, true⟩,
  ⟨(some 7), .mv (.t 24), none, true⟩,
  ⟨(some 8), .mv (.t 25), none, true⟩]
@[reducible] def t57_7 : OT := (.cons ⟨(some 26), .mv (.t 3), none, false⟩
  (.cons ⟨(some 27), .mv (.t 7), none, false⟩
  (.cons ⟨(some 28), .mv (.t 8), none, false⟩
  (.cons ⟨(some 29), .bin .quo (.t 27) (.t 28), none, false⟩
  (.cons ⟨(some 32), .mv (.t 4), none, false⟩
  (.cons ⟨(some 33), .mv (.t 7), none, false⟩
  (.cons ⟨(some 34), .mv (.t 8), none, false⟩
  (.cons ⟨(some 35), .bin .rem (.t 33) (.t 34), none, false⟩
  (.br [(.cons ⟨(some 30), .bsl 3 1 [(.t 29)], none, false⟩
    (.br [(.cons ⟨(some 31), .app 3 1 8 (.t 26) (.t 30), none, false⟩
      (.cons ⟨(some 36), .bsl 3 1 [(.t 35)], none, false⟩
      (.cons ⟨(some 37), .app 3 1 8 (.t 32) (.t 36), none, true⟩
      (.cons ⟨(some 3), .mv (.t 31), none, true⟩
      (.cons ⟨(some 4), .mv (.t 37), none, true⟩
      .nil))))), (.cons ⟨(some 36), .bsl 3 1 [(.t 35)], none, false⟩
      (.cons ⟨(some 31), .app 3 1 8 (.t 26) (.t 30), none, false⟩
      (.cons ⟨(some 37), .app 3 1 8 (.t 32) (.t 36), none, true⟩
      (.cons ⟨(some 3), .mv (.t 31), none, true⟩
      (.cons ⟨(some 4), .mv (.t 37), none, true⟩
      .nil)))))])), (.cons ⟨(some 36), .bsl 3 1 [(.t 35)], none, false⟩
    (.cons ⟨(some 30), .bsl 3 1 [(.t 29)], none, false⟩
    (.cons ⟨(some 31), .app 3 1 8 (.t 26) (.t 30), none, false⟩
    (.cons ⟨(some 37), .app 3 1 8 (.t 32) (.t 36), none, true⟩
    (.cons ⟨(some 3), .mv (.t 31), none, true⟩
    (.cons ⟨(some 4), .mv (.t 37), none, true⟩
    .nil))))))])))))))))
@[reducible] def o57_8 : List Ins := [⟨(some 38), .mv (.t 5), none, true⟩,
  ⟨(some 39), .mv (.t 7), none, true⟩,
  ⟨(some 40), .mv (.t 8), none, true⟩,
  ⟨(some 41), .bin .quo (.t 39) (.t 40), none, true⟩,
  ⟨(some 42), .bin .sub (.t 38) (.t 41), none, true⟩,
  ⟨(some 5), .mv (.t 42), none, true⟩]
@[reducible] def v57_9 : VC := (.seq (.drw t57_7) (.ops o57_8))
@[reducible] def v57_10 : VC := (.seq (.ops o57_6) v57_9)
@[reducible] def o57_11 : List Ins := [⟨(some 18), .mv (.t 6), none, true⟩,
  ⟨(some 19), .bin .add (.t 18) (.k (.c (.int .i64 1))), none, true⟩,
  ⟨(some 6), .mv (.t 19), none, true⟩]
@[reducible] def v57_12 : VC := (.seq (.block 1 v57_10) (.ops o57_11))
@[reducible] def v57_13 : VC := (.seq (.seq (.ops o57_4) v57_5) v57_12)
-- K57_1: changed and kept: [6, 3, 4, 5]
@[reducible] def K57_1 : List Nat := [1]
@[reducible] def v57_14 : VC := (.loop v57_13)
@[reducible] def v57_15 : VC := (.block 0 v57_14)
@[reducible] def o57_16 : List Ins := [⟨(some 43), .mv (.t 5), none, true⟩,
  ⟨(some 44), .bin .gtr (.t 43) (.k (.c (.int .i64 0))), none, true⟩]
@[reducible] def v57_17 : VC := (.cond (.t 44) .skip (.exit 2))
@[reducible] def o57_18 : List Ins := [⟨(some 9), .mv (.k (.c (.int .i64 0))), none, true⟩]
@[reducible] def o57_19 : List Ins := [⟨(some 10), .mv (.k (.c (.int .i64 0))), none, true⟩]
@[reducible] def o57_20 : List Ins := [⟨(some 47), .mv (.t 10), none, true⟩,
  ⟨(some 48), .mv (.t 4), none, true⟩,
  ⟨(some 49), .len (.t 48), none, true⟩,
  ⟨(some 50), .bin .lss (.t 47) (.t 49), none, true⟩]
@[reducible] def v57_21 : VC := (.cond (.t 50) .skip (.exit 4))
@[reducible] def o57_22 : List Ins := [⟨(some 53), .mv (.t 4), none, false⟩,
  ⟨(some 54), .mv (.t 10), none, false⟩,
  ⟨(some 55), .ia 1 (.t 53) (.t 54), none, false⟩,
  ⟨(some 56), .ld true 1 (.t 55), none, false⟩,
  ⟨(some 57), .mv (.t 4), none, false⟩,
  ⟨(some 58), .mv (.t 9), none, false⟩,
  ⟨(some 59), .ia 1 (.t 57) (.t 58), none, false⟩,
  ⟨(some 60), .ld true 1 (.t 59), none, false⟩,
  ⟨(some 61), .bin .gtr (.t 56) (.t 60), none, true⟩]
@[reducible] def o57_23 : List Ins := [⟨(some 62), .mv (.t 10), none, true⟩,
  ⟨(some 9), .mv (.t 62), none, true⟩]
@[reducible] def v57_24 : VC := (.cond (.t 61) (.ops o57_23) .skip)
@[reducible] def v57_25 : VC := (.seq (.ops o57_22) v57_24)
@[reducible] def o57_26 : List Ins := [⟨(some 51), .mv (.t 10), none, true⟩,
  ⟨(some 52), .bin .add (.t 51) (.k (.c (.int .i64 1))), none, true⟩,
  ⟨(some 10), .mv (.t 52), none, true⟩]
@[reducible] def v57_27 : VC := (.seq (.block 5 v57_25) (.ops o57_26))
@[reducible] def v57_28 : VC := (.seq (.seq (.ops o57_20) v57_21) v57_27)
-- K57_3: changed and kept: [10, 9]
@[reducible] def K57_3 : List Nat := [3, 4, 5]
@[reducible] def v57_29 : VC := (.loop v57_28)
@[reducible] def v57_30 : VC := (.block 4 v57_29)
@[reducible] def o57_31 : List Ins := [⟨(some 63), .mv (.t 3), none, true⟩,
  ⟨(some 64), .mv (.t 9), none, true⟩,
  ⟨(some 65), .ia 1 (.t 63) (.t 64), none, true⟩,
  ⟨(some 66), .ld true 1 (.t 65), none, true⟩,
  ⟨(some 67), .bin .add (.t 66) (.k (.c (.int .i64 1))), none, true⟩,
  ⟨(some 68), .ia 1 (.t 63) (.t 64), none, true⟩,
  ⟨none, .st 1 (.t 68) (.t 67), none, true⟩]
@[reducible] def o57_32 : List Ins := [⟨(some 69), .mv (.t 4), none, true⟩,
  ⟨(some 70), .mv (.t 9), none, true⟩,
  ⟨(some 71), .ia 1 (.t 69) (.t 70), none, true⟩,
  ⟨none, .st 1 (.t 71) (.k (.c (.int .i64 (-1)))), none, true⟩]
@[reducible] def v57_33 : VC := (.seq (.ops o57_31) (.ops o57_32))
@[reducible] def v57_34 : VC := (.seq (.seq (.ops o57_19) v57_30) v57_33)
@[reducible] def v57_35 : VC := (.seq (.ops o57_18) v57_34)
@[reducible] def o57_36 : List Ins := [⟨(some 45), .mv (.t 5), none, true⟩,
  ⟨(some 46), .bin .sub (.t 45) (.k (.c (.int .i64 1))), none, true⟩,
  ⟨(some 5), .mv (.t 46), none, true⟩]
@[reducible] def v57_37 : VC := (.seq (.block 3 v57_35) (.ops o57_36))
@[reducible] def v57_38 : VC := (.seq (.seq (.ops o57_16) v57_17) v57_37)
-- K57_2: changed and kept: [5]
@[reducible] def K57_2 : List Nat := [3, 4]
@[reducible] def v57_39 : VC := (.loop v57_38)
@[reducible] def o57_40 : List Ins := [⟨(some 72), .mv (.t 3), none, true⟩,
  ⟨(some 2), .mv (.t 72), none, true⟩]
@[reducible] def v57_41 : VC := (.seq (.ops o57_40) .ret)
@[reducible] def v57_42 : VC := (.seq (.block 2 v57_39) v57_41)
@[reducible] def v57_43 : VC := (.seq (.seq (.ops o57_3) v57_15) v57_42)
@[reducible] def v57_44 : VC := (.seq (.ops o57_2) v57_43)
@[reducible] def v57_45 : VC := (.seq (.ops o57_1) v57_44)
def ir57 : FC := ⟨1, 73, [.t 2], (.seq (.ops o57_0) v57_45)⟩
theorem c55 : compM Try.prog [] 55 = some ir55 := by kernel_rfl
theorem c57 : compM Try.prog [] 57 = some ir57 := by kernel_rfl
attribute [go_sem] gdE_upd gdE_e0 gdO_upd gdO_o0 AV.gd AV.gdL Ob.gd CD.flat

set_option maxHeartbeats 4000000 in
theorem known55 (r : Royal) (b : Bool) : FSpec Try.prog 55 [r.av, .c (.bool b)] (iv (weighE r b)) := by
  refine FSpec_of c55 (Nat.le_refl _) (by decide) fun C hP hN hC hL => ?_
  simp only [ir55, Royal.av]
  (repeat ((first | refine WV_seq_ ?_ | refine WV_block ?_ | refine WV_ops ?_ | refine WV_skip ?_ | refine WV_exit ?_); (try simp only [go_sem, init_env', Nat.reduceEqDiff, Nat.reduceAdd, Nat.reduceMul, reduceIte, Nat.reduceLeDiff, Nat.reduceLT, Nat.reduceBEq, reduceCtorEq, hP, ]); (repeat (refine And.intro (by first | omega | (intros; simp_all; done) | (intros; simp_all; omega)) ?_))))
  (refine AS_pure (rcheck31 r) rfl rfl rfl rfl rfl ?_; simp only [go_sem, init_env', Nat.reduceEqDiff, Nat.reduceAdd, Nat.reduceMul, reduceIte, Nat.reduceLeDiff, Nat.reduceLT, Nat.reduceBEq, reduceCtorEq, hP, Royal.av]; (repeat (refine And.intro (by first | omega | (intros; simp_all; done) | (intros; simp_all; omega)) ?_)); (repeat ((first | refine WV_seq_ ?_ | refine WV_block ?_ | refine WV_ops ?_ | refine WV_skip ?_ | refine WV_exit ?_); (try simp only [go_sem, init_env', Nat.reduceEqDiff, Nat.reduceAdd, Nat.reduceMul, reduceIte, Nat.reduceLeDiff, Nat.reduceLT, Nat.reduceBEq, reduceCtorEq, hP, Royal.av]); (repeat (refine And.intro (by first | omega | (intros; simp_all; done) | (intros; simp_all; omega)) ?_)))))
  cases hok : r.ok
  · (refine WV_cond rfl (fun h => ?_) (fun h => ?_))
    · (repeat ((first | refine WV_seq_ ?_ | refine WV_block ?_ | refine WV_ops ?_ | refine WV_skip ?_ | refine WV_exit ?_); (try simp only [go_sem, init_env', Nat.reduceEqDiff, Nat.reduceAdd, Nat.reduceMul, reduceIte, Nat.reduceLeDiff, Nat.reduceLT, Nat.reduceBEq, reduceCtorEq, hP, ]); (repeat (refine And.intro (by first | omega | (intros; simp_all; done) | (intros; simp_all; omega)) ?_))))
      (refine WV_ret ?_; simp only [thenQ, inQ, RetQ, RetOk, resAll, resA]; simp only [go_sem, init_env', Nat.reduceEqDiff, Nat.reduceAdd, Nat.reduceMul, reduceIte, Nat.reduceLeDiff, Nat.reduceLT, Nat.reduceBEq, reduceCtorEq, tupA, AV.port, AV.portL, exists_eq_left', ]; (first | exact AVle.of rfl | refine AVle.of ?_ | skip))
      simp [weighE, hok]
    · simp at h
  · have hr := Royal.ok_spec hok
    have hap := allW_plays r
    (refine WV_cond rfl (fun h => ?_) (fun h => ?_))
    · simp at h
    clear h
    (repeat ((first | refine WV_seq_ ?_ | refine WV_block ?_ | refine WV_ops ?_ | refine WV_skip ?_ | refine WV_exit ?_); (try simp only [go_sem, init_env', Nat.reduceEqDiff, Nat.reduceAdd, Nat.reduceMul, reduceIte, Nat.reduceLeDiff, Nat.reduceLT, Nat.reduceBEq, reduceCtorEq, hP, ]); (repeat (refine And.intro (by first | omega | (intros; simp_all; done) | (intros; simp_all; omega)) ?_))))
    cases b
    · (refine WV_cond rfl (fun h => ?_) (fun h => ?_))
      · (repeat ((first | refine WV_seq_ ?_ | refine WV_block ?_ | refine WV_ops ?_ | refine WV_skip ?_ | refine WV_exit ?_); (try simp only [go_sem, init_env', Nat.reduceEqDiff, Nat.reduceAdd, Nat.reduceMul, reduceIte, Nat.reduceLeDiff, Nat.reduceLT, Nat.reduceBEq, reduceCtorEq, hP, ]); (repeat (refine And.intro (by first | omega | (intros; simp_all; done) | (intros; simp_all; omega)) ?_))))
        (refine WV_ret ?_; simp only [thenQ, inQ, RetQ, RetOk, resAll, resA]; simp only [go_sem, init_env', Nat.reduceEqDiff, Nat.reduceAdd, Nat.reduceMul, reduceIte, Nat.reduceLeDiff, Nat.reduceLT, Nat.reduceBEq, reduceCtorEq, tupA, AV.port, AV.portL, exists_eq_left', ]; (first | exact AVle.of rfl | refine AVle.of ?_ | skip))
        simp [weighE, hok]
      · simp at h
    · (refine WV_cond rfl (fun h => ?_) (fun h => ?_))
      · simp at h
      clear h
      (repeat ((first | refine WV_seq_ ?_ | refine WV_block ?_ | refine WV_ops ?_ | refine WV_skip ?_ | refine WV_exit ?_); (try simp only [go_sem, init_env', Nat.reduceEqDiff, Nat.reduceAdd, Nat.reduceMul, reduceIte, Nat.reduceLeDiff, Nat.reduceLT, Nat.reduceBEq, reduceCtorEq, hP, ]); (repeat (refine And.intro (by first | omega | (intros; simp_all; done) | (intros; simp_all; omega)) ?_))))
      (refine AS_pure (plays21 hr) rfl rfl rfl rfl rfl ?_; simp only [go_sem, init_env', Nat.reduceEqDiff, Nat.reduceAdd, Nat.reduceMul, reduceIte, Nat.reduceLeDiff, Nat.reduceLT, Nat.reduceBEq, reduceCtorEq, hP, Royal.av]; (repeat (refine And.intro (by first | omega | (intros; simp_all; done) | (intros; simp_all; omega)) ?_)); (repeat ((first | refine WV_seq_ ?_ | refine WV_block ?_ | refine WV_ops ?_ | refine WV_skip ?_ | refine WV_exit ?_); (try simp only [go_sem, init_env', Nat.reduceEqDiff, Nat.reduceAdd, Nat.reduceMul, reduceIte, Nat.reduceLeDiff, Nat.reduceLT, Nat.reduceBEq, reduceCtorEq, hP, Royal.av]); (repeat (refine And.intro (by first | omega | (intros; simp_all; done) | (intros; simp_all; omega)) ?_)))))
      (refine WV_cond rfl (fun h => ?_) (fun h => ?_))
      · have h : playsOf r = 0 := by simpa using h
        (repeat ((first | refine WV_seq_ ?_ | refine WV_block ?_ | refine WV_ops ?_ | refine WV_skip ?_ | refine WV_exit ?_); (try simp only [go_sem, init_env', Nat.reduceEqDiff, Nat.reduceAdd, Nat.reduceMul, reduceIte, Nat.reduceLeDiff, Nat.reduceLT, Nat.reduceBEq, reduceCtorEq, hP, ]); (repeat (refine And.intro (by first | omega | (intros; simp_all; done) | (intros; simp_all; omega)) ?_))))
        (refine WV_ret ?_; simp only [thenQ, inQ, RetQ, RetOk, resAll, resA]; simp only [go_sem, init_env', Nat.reduceEqDiff, Nat.reduceAdd, Nat.reduceMul, reduceIte, Nat.reduceLeDiff, Nat.reduceLT, Nat.reduceBEq, reduceCtorEq, tupA, AV.port, AV.portL, exists_eq_left', ]; (first | exact AVle.of rfl | refine AVle.of ?_ | skip))
        simp [weighE, hok, hap, h]
      · have h : ¬ playsOf r = 0 := by simpa using h
        (repeat ((first | refine WV_seq_ ?_ | refine WV_block ?_ | refine WV_ops ?_ | refine WV_skip ?_ | refine WV_exit ?_); (try simp only [go_sem, init_env', Nat.reduceEqDiff, Nat.reduceAdd, Nat.reduceMul, reduceIte, Nat.reduceLeDiff, Nat.reduceLT, Nat.reduceBEq, reduceCtorEq, hP, ]); (repeat (refine And.intro (by first | omega | (intros; simp_all; done) | (intros; simp_all; omega)) ?_))))
        (refine WV_ret ?_; simp only [thenQ, inQ, RetQ, RetOk, resAll, resA]; simp only [go_sem, init_env', Nat.reduceEqDiff, Nat.reduceAdd, Nat.reduceMul, reduceIte, Nat.reduceLeDiff, Nat.reduceLT, Nat.reduceBEq, reduceCtorEq, tupA, AV.port, AV.portL, exists_eq_left', ]; (first | exact AVle.of rfl | refine AVle.of ?_ | skip))
        have : ¬ allW r = 0 := by omega
        simp [weighE, hok, this]

/-! ### The shares, round by round -/
def icd (n : Int) : List CD := [.int .i64 n]
theorem icd_one (n : Int) : (icd n).length = 1 := rfl
theorem cellsJ_len (l : List Int) (j : Nat) : (cellsG icd l j).length = l.length + j := by rw [cellsG_len icd_one, Nat.mul_one]
theorem cellsJ_get {l : List Int} {k : Nat} (h : k < l.length) (j : Nat) (d : AV) : (cellsG icd l j).getD k d = iv (l.getD k 0) := by
  have := cellsG_get icd_one h j 0 (d := .int .i64 l[k]) rfl d
  rw [Nat.mul_one, Nat.add_zero] at this
  rw [this]
  simp [h]
theorem cellsJ_set {l : List Int} {k : Nat} (h : k < l.length) (j : Nat) (x : Int) : (cellsG icd l j).set k (iv x) = cellsG icd (l.set k x) j := by
  have := cellsG_set icd_one h j 0 (by decide) (.int .i64 x) x rfl
  rwa [Nat.mul_one, Nat.add_zero] at this
theorem ints_flat (l : List Int) : ((l.map icd).all fun e => e.all CD.flat) = true := by
  rw [List.all_eq_true]; intro e he; obtain ⟨n, _, rfl⟩ := List.mem_map.1 he; rfl
theorem map_take_succ {l : List Int} {k : Nat} (h : k < l.length) : (l.take (k + 1)).map icd = (l.take k).map icd ++ [[CD.int .i64 l[k]]] := by
  rw [List.take_succ_eq_append_getElem h, List.map_append]; rfl
def restsL (r : Royal) : List Int := (List.range r.n).map (restOf r.pool (allW r) (wts r))
theorem restsL_len (r : Royal) : (restsL r).length = r.n := by simp [restsL]

/-- What is handed back, as a view of a new box. -/
def postJ (S : List Int) (res : AV) (os : List Ob) : Prop := ∃ cap j, S.length ≤ cap ∧ cap ≤ maxLen ∧ res = .vw 1 1000 0 S.length cap ∧ os = [.box (cellsG icd S j)]
theorem dataJ_of {f : FuncId} {args : List AV} {S : List Int} (h : FSpecN Try.prog f args (postJ S)) : FSpec Try.prog f args (.c (ints S)) := by
  refine FSpecN.spec' (ds := flatG icd S) h ?_ rfl
  rintro r os ⟨cap, j, h1, h2, rfl, rfl⟩
  refine ⟨?_, _, rfl⟩
  have hgr := grp_cellsG icd_one S
  rw [Nat.mul_one] at hgr
  have hl := flatG_len icd_one S
  rw [Nat.mul_one] at hl
  simp only [AV.frz, if_true, List.drop_zero, Nat.zero_add, Nat.mul_one, hl, Nat.le_refl, hgr]
  rfl

set_option maxRecDepth 20000 in
set_option maxHeartbeats 8000000 in
theorem sharesOf57N {r : Royal} (hW : Weighed r) : FSpecN Try.prog 57 [r.av] (postJ (sharesL r.pool (allW r) (wts r))) := by
  have hr := hW.hr
  have hn6 := hr.n6
  have hp := hr.pool
  have hpos := hW.pos
  have hsum := hW.sum
  have hwl := hW.len
  have hale := hW.le
  have hmax : maxLen = 9223372036854775807 := rfl
  have hfs := floors_sum hpos hp.1 (fun x hx => (hW.bd x hx).1) hsum
  have hlb := left_bd (pool := r.pool) hpos hsum
  have hfl : (floors r.pool (allW r) (wts r)).length = r.n := by simp [floors, hwl]
  have hrl := restsL_len r
  have hn0 : 0 < r.n := by
    rw [← hwl]
    cases hw : wts r with
    | nil => rw [hw] at hsum; simp at hsum; omega
    | cons a l => simp
  have howl : r.owed.length = r.n := rfl
  refine FSpecN_ofX c57 (Nat.le_refl _) (by decide) fun C hP hN hC hX hL => ?_
  simp only [ir57, Royal.av]
  (repeat ((first | refine WV_seq_ ?_ | refine WV_block ?_ | refine WV_ops ?_ | refine WV_skip ?_ | refine WV_exit ?_); (try simp only [go_sem, init_env', Nat.reduceEqDiff, Nat.reduceAdd, Nat.reduceMul, reduceIte, Nat.reduceLeDiff, Nat.reduceLT, Nat.reduceBEq, reduceCtorEq, hP, ]); (repeat (refine And.intro (by first | omega | (intros; simp_all; done) | (intros; simp_all; omega)) ?_))))
  refine WV_nilslot 3 31 3 1 (by decide) (by decide) rfl rfl ?_
  simp only [go_sem, init_env', Nat.reduceEqDiff, Nat.reduceAdd, Nat.reduceMul, reduceIte, Nat.reduceLeDiff, Nat.reduceLT, Nat.reduceBEq, reduceCtorEq]
  refine WV_nilslot 4 37 3 1 (by decide) (by decide) rfl rfl ?_
  simp only [go_sem, init_env', Nat.reduceEqDiff, Nat.reduceAdd, Nat.reduceMul, reduceIte, Nat.reduceLeDiff, Nat.reduceLT, Nat.reduceBEq, reduceCtorEq]
  refine WV_loopK K57_1 [31, 37] (fun k : Nat => k ≤ r.n) (fun k => r.n - k) (fun k => [(6, iv k), (3, .gr 31), (4, .gr 37), (5, iv (leftT r.pool (allW r) (wts r) k))])
    (fun k => [(31, .grow 3 1 (((floors r.pool (allW r) (wts r)).take k).map icd)), (37, .grow 3 1 (((restsL r).take k).map icd))]) 0 (Nat.zero_le _) ?_ ?_
  · (refine Sub_of (by simp only [go_sem, init_env', Nat.reduceEqDiff, Nat.reduceAdd, Nat.reduceMul, reduceIte, Nat.reduceLeDiff, Nat.reduceLT, Nat.reduceBEq, reduceCtorEq]; ((repeat' (first | exact EnvLe_e0 _ _ | refine EnvLe_upd ?_ ?_)) <;> ((try simp only [upd_app, e0_app, o0_app, Nat.reduceEqDiff, reduceIte]); first | exact AWk.refl _ _ | exact AWk.int (by omega) | exact AWk.int (by rw [w64 (by omega) (by omega)]; omega) | exact AWk.grow rfl | exact AWk.nil _ | exact AWk.of (by simp [leftT])))) (by simp only [go_sem, init_env', Nat.reduceEqDiff, Nat.reduceAdd, Nat.reduceMul, reduceIte, Nat.reduceLeDiff, Nat.reduceLT, Nat.reduceBEq, reduceCtorEq]; ((repeat' (first | exact ObjLe_o0 _ | exact ObjLe.rfl' _ | refine ObjLe_same ?_ | refine ObjLe_upd ?_ ?_ | refine ObjLe_new rfl ?_)) <;> rfl)))
  · intro k hk
    have htl1 : ((floors r.pool (allW r) (wts r)).take k).length = k := by rw [List.length_take, hfl]; omega
    have htl2 : ((restsL r).take k).length = k := by rw [List.length_take, hrl]; omega
    simp only [go_sem, init_env', Nat.reduceEqDiff, Nat.reduceAdd, Nat.reduceMul, reduceIte, Nat.reduceLeDiff, Nat.reduceLT, Nat.reduceBEq, reduceCtorEq]
    (repeat ((first | refine WV_seq_ ?_ | refine WV_block ?_ | refine WV_ops ?_ | refine WV_skip ?_ | refine WV_exit ?_); (try simp only [go_sem, init_env', Nat.reduceEqDiff, Nat.reduceAdd, Nat.reduceMul, reduceIte, Nat.reduceLeDiff, Nat.reduceLT, Nat.reduceBEq, reduceCtorEq, hP, ints, howl]); (repeat (refine And.intro (by first | omega | (intros; simp_all; done) | (intros; simp_all; omega)) ?_))))
    (refine WV_cond rfl (fun h => ?_) (fun h => ?_))
    · have hkn : k < r.n := by simpa using h
      have hkf : k < (floors r.pool (allW r) (wts r)).length := by rw [hfl]; exact hkn
      have hkr : k < (restsL r).length := by rw [hrl]; exact hkn
      have hkw : k < (wts r).length := by rw [hwl]; exact hkn
      have hnum : numR r k r.sides = r.pool * (wts r)[k] := by rw [numR_eq hr (by omega)]; simp [numOf, hkw]
      have hp18 := part18 hr (k : Int)
      rw [hnum] at hp18
      have hwk := hW.bd _ (List.getElem_mem hkw)
      have hm := mul_bound hp (⟨hwk.1, by omega⟩ : 0 ≤ (wts r)[k] ∧ (wts r)[k] ≤ 9999999999)
      have efl : (floors r.pool (allW r) (wts r))[k] = r.pool * (wts r)[k] / allW r := by simp [floors]
      have ers : (restsL r)[k] = r.pool * (wts r)[k] % allW r := by simp [restsL, restOf, hkw]
      have ed : (r.pool * (wts r)[k]).tdiv (allW r) = (floors r.pool (allW r) (wts r))[k] := by rw [efl]; exact Int.tdiv_eq_ediv_of_nonneg hm.1
      have em : (r.pool * (wts r)[k]).tmod (allW r) = (restsL r)[k] := by rw [ers]; exact Int.tmod_eq_emod_of_nonneg hm.1
      have ha0 : (allW r = 0) = False := by simp; omega
      have hf1 := hfs k
      have hf2 := hfs (k + 1)
      have hst : ((floors r.pool (allW r) (wts r)).take (k + 1)).sum = ((floors r.pool (allW r) (wts r)).take k).sum + (floors r.pool (allW r) (wts r))[k] := by
        rw [List.take_succ_eq_append_getElem hkf, List.sum_append]; simp
      have hlt : leftT r.pool (allW r) (wts r) k - (floors r.pool (allW r) (wts r))[k] = leftT r.pool (allW r) (wts r) (k + 1) := by unfold leftT; omega
      have hlv : leftT r.pool (allW r) (wts r) (k + 1) = r.pool - ((floors r.pool (allW r) (wts r)).take (k + 1)).sum := rfl
      have w2 := w64 (n := (floors r.pool (allW r) (wts r))[k]) (by omega) (by omega)
      have w3 := w64 (n := leftT r.pool (allW r) (wts r) (k + 1)) (by omega) (by omega)
      have w4 := w64 (n := (k : Int) + 1) (by omega) (by omega)
      have s1 := map_take_succ hkf
      have s2 := map_take_succ hkr
      (repeat ((first | refine WV_seq_ ?_ | refine WV_block ?_ | refine WV_ops ?_ | refine WV_skip ?_ | refine WV_exit ?_); (try simp only [go_sem, init_env', Nat.reduceEqDiff, Nat.reduceAdd, Nat.reduceMul, reduceIte, Nat.reduceLeDiff, Nat.reduceLT, Nat.reduceBEq, reduceCtorEq, hP, ]); (repeat (refine And.intro (by first | omega | (intros; simp_all; done) | (intros; simp_all; omega)) ?_))))
      (refine AS_pure (hp18) rfl rfl rfl rfl rfl ?_; simp only [go_sem, init_env', Nat.reduceEqDiff, Nat.reduceAdd, Nat.reduceMul, reduceIte, Nat.reduceLeDiff, Nat.reduceLT, Nat.reduceBEq, reduceCtorEq, hP, Royal.av, ints]; (repeat (refine And.intro (by first | omega | (intros; simp_all; done) | (intros; simp_all; omega)) ?_)); (repeat ((first | refine WV_seq_ ?_ | refine WV_block ?_ | refine WV_ops ?_ | refine WV_skip ?_ | refine WV_exit ?_); (try simp only [go_sem, init_env', Nat.reduceEqDiff, Nat.reduceAdd, Nat.reduceMul, reduceIte, Nat.reduceLeDiff, Nat.reduceLT, Nat.reduceBEq, reduceCtorEq, hP, Royal.av, ints]); (repeat (refine And.intro (by first | omega | (intros; simp_all; done) | (intros; simp_all; omega)) ?_)))))
      generalize (floors r.pool (allW r) (wts r))[k] = x1 at *
      generalize (restsL r)[k] = x2 at *
      (refine WV_drw ?_; simp only [go_sem, init_env', Nat.reduceEqDiff, Nat.reduceAdd, Nat.reduceMul, reduceIte, Nat.reduceLeDiff, Nat.reduceLT, Nat.reduceBEq, reduceCtorEq, hP, ed, em, ha0, w2, ints_one, htl1, htl2, hlt, w3]; (repeat' (refine And.intro ?_ ?_)))
      all_goals first
        | omega
        | (intros; simp_all; done)
        | ((repeat ((first | refine WV_seq_ ?_ | refine WV_block ?_ | refine WV_ops ?_ | refine WV_skip ?_ | refine WV_exit ?_); (try simp only [go_sem, init_env', Nat.reduceEqDiff, Nat.reduceAdd, Nat.reduceMul, reduceIte, Nat.reduceLeDiff, Nat.reduceLT, Nat.reduceBEq, reduceCtorEq, hP, ed, em, ha0, w2, hlt, w3, w4]); (repeat (refine And.intro (by first | omega | (intros; simp_all; done) | (intros; simp_all; omega)) ?_))))
           refine ⟨k + 1, by omega, by omega, ?_⟩
           rw [s1, s2]
           (refine Sub_of (by simp only [go_sem, init_env', Nat.reduceEqDiff, Nat.reduceAdd, Nat.reduceMul, reduceIte, Nat.reduceLeDiff, Nat.reduceLT, Nat.reduceBEq, reduceCtorEq]; ((repeat' (first | exact EnvLe_e0 _ _ | refine EnvLe_upd ?_ ?_)) <;> ((try simp only [upd_app, e0_app, o0_app, Nat.reduceEqDiff, reduceIte]); first | exact AWk.refl _ _ | exact AWk.int (by omega) | exact AWk.int (by rw [w64 (by omega) (by omega)]; omega) | exact AWk.grow rfl | exact AWk.nil _ | exact AWk.of (by simp)))) (by simp only [go_sem, init_env', Nat.reduceEqDiff, Nat.reduceAdd, Nat.reduceMul, reduceIte, Nat.reduceLeDiff, Nat.reduceLT, Nat.reduceBEq, reduceCtorEq]; ((repeat' (first | exact ObjLe_o0 _ | exact ObjLe.rfl' _ | refine ObjLe_same ?_ | refine ObjLe_upd ?_ ?_ | refine ObjLe_new rfl ?_)) <;> rfl))))
    · have h : k = r.n := by simp at h; omega
      subst h
      have ef : (floors r.pool (allW r) (wts r)).take r.n = floors r.pool (allW r) (wts r) := by rw [← hfl, List.take_length]
      have er : (restsL r).take r.n = restT (restOf r.pool (allW r) (wts r)) r.n [] := by rw [restT_nil]; show (restsL r).take r.n = restsL r; rw [List.take_of_length_le (by omega)]
      have el : leftT r.pool (allW r) (wts r) r.n = leftOf r.pool (allW r) (wts r) := by unfold leftT leftOf; rw [ef]
      rw [ef, er, el]
      obtain ⟨L, hLL⟩ := Int.eq_ofNat_of_zero_le hlb.1
      rw [hLL] at hlb ⊢
      rw [hwl] at hlb
      obtain ⟨l, hord⟩ := sort_exists (restOf r.pool (allW r) (wts r)) (n := r.n)
      have hll := hord.len
      have hrn := fun i (_ : i < r.n) => rest_nonneg (pool := r.pool) (w := wts r) hpos i
      have hLn : L < r.n := by omega
      have hsh : incd (floors r.pool (allW r) (wts r)) (l.take L) = sharesL r.pool (allW r) (wts r) := shares_incd (by rw [hwl]; exact hord) hLL
      have hF0 : ∀ i, i < r.n → 0 ≤ (floors r.pool (allW r) (wts r)).getD i 0 ∧ (floors r.pool (allW r) (wts r)).getD i 0 ≤ 9999 := by
        intro i hi
        have h1 := hfs i
        have h2 := hfs (i + 1)
        have hiw : i < (wts r).length := by omega
        have hi' : i < (floors r.pool (allW r) (wts r)).length := by omega
        rw [List.take_succ_eq_append_getElem hi', List.sum_append] at h2
        have hwk := hW.bd _ (List.getElem_mem hiw)
        have hm := mul_bound hp (⟨hwk.1, by omega⟩ : 0 ≤ (wts r)[i] ∧ (wts r)[i] ≤ 9999999999)
        have hd := Int.ediv_nonneg hm.1 (Int.le_of_lt hpos)
        have e1 : (floors r.pool (allW r) (wts r))[i] = r.pool * (wts r)[i] / allW r := by simp [floors]
        have e2 : (floors r.pool (allW r) (wts r)).getD i 0 = (floors r.pool (allW r) (wts r))[i] := by simp [hi']
        simp only [List.sum_cons, List.sum_nil] at h2
        omega
      have hRl : ∀ S, (restT (restOf r.pool (allW r) (wts r)) r.n S).length = r.n := fun S => restT_len _ _ _
      have hIl : ∀ S, (incd (floors r.pool (allW r) (wts r)) S).length = r.n := fun S => by rw [incd_len, hfl]
      have hI0 : floors r.pool (allW r) (wts r) = incd (floors r.pool (allW r) (wts r)) [] := (incd_nil _).symm
      have hIs := fun i S (hi : i < r.n) (hni : i ∉ S) => incd_set (fl := floors r.pool (allW r) (wts r)) (l := S) (i := i) (by omega) hni
      have hIg := fun i S (hi : i < r.n) => incd_get (fl := floors r.pool (allW r) (wts r)) (l := S) (i := i) (by omega)
      have hne1 : floors r.pool (allW r) (wts r) ≠ [] := by intro h; rw [h] at hfl; simp at hfl; omega
      generalize hF : floors r.pool (allW r) (wts r) = F at *
      generalize hf : restOf r.pool (allW r) (wts r) = f at *
      clear hfs ef er el hsum
      (repeat ((first | refine WV_seq_ ?_ | refine WV_block ?_ | refine WV_ops ?_ | refine WV_skip ?_ | refine WV_exit ?_); (try simp only [go_sem, init_env', Nat.reduceEqDiff, Nat.reduceAdd, Nat.reduceMul, reduceIte, Nat.reduceLeDiff, Nat.reduceLT, Nat.reduceBEq, reduceCtorEq, hP, ]); (repeat (refine And.intro (by first | omega | (intros; simp_all; done) | (intros; simp_all; omega)) ?_))))
      refine WV_growbox hX 31 (es := F.map icd) (by decide) rfl (ints_flat _) (by simpa using hne1) fun cap1 j1 p1 p2 p3 => ?_
      rw [List.length_map] at p1 p3
      simp only [go_sem, init_env', Nat.reduceEqDiff, Nat.reduceAdd, Nat.reduceMul, reduceIte, Nat.reduceLeDiff, Nat.reduceLT, Nat.reduceBEq, reduceCtorEq, hfl, ints_flat, sidesC]
      refine WV_growbox hX 37 (es := (restT f r.n []).map icd) (by decide) rfl (ints_flat _) (by intro h; have := hRl []; simp at h; rw [h] at this; simp at this; omega) fun cap2 j2 q1 q2 q3 => ?_
      rw [List.length_map, hRl] at q1 q3
      simp only [go_sem, init_env', Nat.reduceEqDiff, Nat.reduceAdd, Nat.reduceMul, reduceIte, Nat.reduceLeDiff, Nat.reduceLT, Nat.reduceBEq, reduceCtorEq, hRl, ints_flat, sidesC, gd_cells icd (fun _ => rfl)]
      refine WV_loopK K57_2 [31, 37] (fun t : Nat => t ≤ L) (fun t => L - t) (fun t => [(5, iv ((L : Int) - t))])
        (fun t => [(31, .box (cellsG icd (incd F (l.take t)) j1)), (37, .box (cellsG icd (restT f r.n (l.take t)) j2))]) 0 (Nat.zero_le _) ?_ ?_
      · rw [List.take_zero, incd_nil]
        (refine Sub_of (by simp only [go_sem, init_env', Nat.reduceEqDiff, Nat.reduceAdd, Nat.reduceMul, reduceIte, Nat.reduceLeDiff, Nat.reduceLT, Nat.reduceBEq, reduceCtorEq]; ((repeat' (first | exact EnvLe_e0 _ _ | refine EnvLe_upd ?_ ?_)) <;> ((try simp only [upd_app, e0_app, o0_app, Nat.reduceEqDiff, reduceIte]); first | exact AWk.refl _ _ | exact AWk.int (by omega) | exact AWk.int (by rw [w64 (by omega) (by omega)]; omega) | exact AWk.grow rfl | exact AWk.nil _ | exact AWk.of (by simp)))) (by simp only [go_sem, init_env', Nat.reduceEqDiff, Nat.reduceAdd, Nat.reduceMul, reduceIte, Nat.reduceLeDiff, Nat.reduceLT, Nat.reduceBEq, reduceCtorEq]; ((repeat' (first | exact ObjLe_o0 _ | exact ObjLe.rfl' _ | refine ObjLe_same ?_ | refine ObjLe_upd ?_ ?_ | refine ObjLe_new rfl ?_)) <;> rfl)))
      · intro t ht
        simp only [go_sem, init_env', Nat.reduceEqDiff, Nat.reduceAdd, Nat.reduceMul, reduceIte, Nat.reduceLeDiff, Nat.reduceLT, Nat.reduceBEq, reduceCtorEq]
        (repeat ((first | refine WV_seq_ ?_ | refine WV_block ?_ | refine WV_ops ?_ | refine WV_skip ?_ | refine WV_exit ?_); (try simp only [go_sem, init_env', Nat.reduceEqDiff, Nat.reduceAdd, Nat.reduceMul, reduceIte, Nat.reduceLeDiff, Nat.reduceLT, Nat.reduceBEq, reduceCtorEq, hP, ]); (repeat (refine And.intro (by first | omega | (intros; simp_all; done) | (intros; simp_all; omega)) ?_))))
        (refine WV_cond rfl (fun h => ?_) (fun h => ?_))
        · have htL : t < L := by simp at h; omega
          have htl : t < l.length := by omega
          have hbn := hord.lt htl
          have hnot : l[t] ∉ l.take t := by
            intro hm
            obtain ⟨j, hj, e⟩ := List.mem_take_iff_getElem.1 hm
            have := (List.getElem_inj hord.nodup).1 e
            omega
          have hs1 := hIs l[t] (l.take t) hbn hnot
          have hs2 := restT_set (f := f) (S := l.take t) hbn
          rw [← List.take_succ_eq_append_getElem htl] at hs1 hs2
          have hg1 := hIg l[t] (l.take t) hbn
          rw [if_neg hnot] at hg1
          have hb0 := hF0 l[t] hbn
          have hbest := fun b (hb : BestI (restT f r.n (l.take t)) r.n b) => best_is hord hrn htl hb
          have hRlt := hRl (l.take t)
          have hIlt := hIl (l.take t)
          clear hIs hIg hF0
          generalize hR : restT f r.n (l.take t) = R at *
          generalize hD : incd F (l.take t) = D at *
          (repeat ((first | refine WV_seq_ ?_ | refine WV_block ?_ | refine WV_ops ?_ | refine WV_skip ?_ | refine WV_exit ?_); (try simp only [go_sem, init_env', Nat.reduceEqDiff, Nat.reduceAdd, Nat.reduceMul, reduceIte, Nat.reduceLeDiff, Nat.reduceLT, Nat.reduceBEq, reduceCtorEq, hP, ]); (repeat (refine And.intro (by first | omega | (intros; simp_all; done) | (intros; simp_all; omega)) ?_))))
          refine WV_loopK K57_3 [] (fun p : Nat × Nat => p.1 ≤ r.n ∧ BestI R p.1 p.2) (fun p => r.n - p.1) (fun p => [(10, iv p.1), (9, iv p.2)]) (fun _ => []) (0, 0) ⟨Nat.zero_le _, BestI.zero (by omega)⟩ ?_ ?_
          · (refine Sub_of (by simp only [go_sem, init_env', Nat.reduceEqDiff, Nat.reduceAdd, Nat.reduceMul, reduceIte, Nat.reduceLeDiff, Nat.reduceLT, Nat.reduceBEq, reduceCtorEq]; ((repeat' (first | exact EnvLe_e0 _ _ | refine EnvLe_upd ?_ ?_)) <;> ((try simp only [upd_app, e0_app, o0_app, Nat.reduceEqDiff, reduceIte]); first | exact AWk.refl _ _ | exact AWk.int (by omega) | exact AWk.int (by rw [w64 (by omega) (by omega)]; omega) | exact AWk.grow rfl | exact AWk.nil _ | exact AWk.of (by simp)))) (by simp only [go_sem, init_env', Nat.reduceEqDiff, Nat.reduceAdd, Nat.reduceMul, reduceIte, Nat.reduceLeDiff, Nat.reduceLT, Nat.reduceBEq, reduceCtorEq]; ((repeat' (first | exact ObjLe_o0 _ | exact ObjLe.rfl' _ | refine ObjLe_same ?_ | refine ObjLe_upd ?_ ?_ | refine ObjLe_new rfl ?_)) <;> rfl)))
          · rintro ⟨i, b⟩ ⟨hi, hb⟩
            simp only at hi hb
            have hbl := hb.lt
            simp only [go_sem, init_env', Nat.reduceEqDiff, Nat.reduceAdd, Nat.reduceMul, reduceIte, Nat.reduceLeDiff, Nat.reduceLT, Nat.reduceBEq, reduceCtorEq]
            (repeat ((first | refine WV_seq_ ?_ | refine WV_block ?_ | refine WV_ops ?_ | refine WV_skip ?_ | refine WV_exit ?_); (try simp only [go_sem, init_env', Nat.reduceEqDiff, Nat.reduceAdd, Nat.reduceMul, reduceIte, Nat.reduceLeDiff, Nat.reduceLT, Nat.reduceBEq, reduceCtorEq, hP, cellsJ_len]); (repeat (refine And.intro (by first | omega | (intros; simp_all; done) | (intros; simp_all; omega)) ?_))))
            (refine WV_cond rfl (fun h => ?_) (fun h => ?_))
            · have hin : i < r.n := by simpa using h
              have hiR : i < R.length := by omega
              have hI : (i : Int) < (r.n : Int) := by omega
              have hB : (b : Int) < (r.n : Int) := by omega
              have hc1 : i < R.length + j2 := by omega
              have hc2 : b < R.length + j2 := by omega
              have w4 := w64 (n := (i : Int) + 1) (by omega) (by omega)
              (repeat ((first | refine WV_seq_ ?_ | refine WV_block ?_ | refine WV_ops ?_ | refine WV_skip ?_ | refine WV_exit ?_); (try simp only [go_sem, init_env', Nat.reduceEqDiff, Nat.reduceAdd, Nat.reduceMul, reduceIte, Nat.reduceLeDiff, Nat.reduceLT, Nat.reduceBEq, reduceCtorEq, hP, cellsJ_len, cellsJ_get hiR, cellsJ_get hbl, hI, hB, hc1, hc2, Int.natCast_nonneg]); (repeat (refine And.intro (by first | omega | (intros; simp_all; done) | (intros; simp_all; omega)) ?_))))
              (refine WV_cond rfl (fun h => ?_) (fun h => ?_))
              · have h : R.getD b 0 < R.getD i 0 := by simpa using h
                (repeat ((first | refine WV_seq_ ?_ | refine WV_block ?_ | refine WV_ops ?_ | refine WV_skip ?_ | refine WV_exit ?_); (try simp only [go_sem, init_env', Nat.reduceEqDiff, Nat.reduceAdd, Nat.reduceMul, reduceIte, Nat.reduceLeDiff, Nat.reduceLT, Nat.reduceBEq, reduceCtorEq, hP, w4]); (repeat (refine And.intro (by first | omega | (intros; simp_all; done) | (intros; simp_all; omega)) ?_))))
                refine ⟨(i + 1, i), ⟨by simp only; omega, hb.up hiR h⟩, by simp only; omega, ?_⟩
                (refine Sub_of (by simp only [go_sem, init_env', Nat.reduceEqDiff, Nat.reduceAdd, Nat.reduceMul, reduceIte, Nat.reduceLeDiff, Nat.reduceLT, Nat.reduceBEq, reduceCtorEq]; ((repeat' (first | exact EnvLe_e0 _ _ | refine EnvLe_upd ?_ ?_)) <;> ((try simp only [upd_app, e0_app, o0_app, Nat.reduceEqDiff, reduceIte]); first | exact AWk.refl _ _ | exact AWk.int (by omega) | exact AWk.int (by rw [w64 (by omega) (by omega)]; omega) | exact AWk.grow rfl | exact AWk.nil _ | exact AWk.of (by simp)))) (by simp only [go_sem, init_env', Nat.reduceEqDiff, Nat.reduceAdd, Nat.reduceMul, reduceIte, Nat.reduceLeDiff, Nat.reduceLT, Nat.reduceBEq, reduceCtorEq]; ((repeat' (first | exact ObjLe_o0 _ | exact ObjLe.rfl' _ | refine ObjLe_same ?_ | refine ObjLe_upd ?_ ?_ | refine ObjLe_new rfl ?_)) <;> rfl)))
              · have h : ¬ R.getD b 0 < R.getD i 0 := by simpa using h
                (repeat ((first | refine WV_seq_ ?_ | refine WV_block ?_ | refine WV_ops ?_ | refine WV_skip ?_ | refine WV_exit ?_); (try simp only [go_sem, init_env', Nat.reduceEqDiff, Nat.reduceAdd, Nat.reduceMul, reduceIte, Nat.reduceLeDiff, Nat.reduceLT, Nat.reduceBEq, reduceCtorEq, hP, w4]); (repeat (refine And.intro (by first | omega | (intros; simp_all; done) | (intros; simp_all; omega)) ?_))))
                refine ⟨(i + 1, b), ⟨by simp only; omega, hb.stay h⟩, by simp only; omega, ?_⟩
                (refine Sub_of (by simp only [go_sem, init_env', Nat.reduceEqDiff, Nat.reduceAdd, Nat.reduceMul, reduceIte, Nat.reduceLeDiff, Nat.reduceLT, Nat.reduceBEq, reduceCtorEq]; ((repeat' (first | exact EnvLe_e0 _ _ | refine EnvLe_upd ?_ ?_)) <;> ((try simp only [upd_app, e0_app, o0_app, Nat.reduceEqDiff, reduceIte]); first | exact AWk.refl _ _ | exact AWk.int (by omega) | exact AWk.int (by rw [w64 (by omega) (by omega)]; omega) | exact AWk.grow rfl | exact AWk.nil _ | exact AWk.of (by simp)))) (by simp only [go_sem, init_env', Nat.reduceEqDiff, Nat.reduceAdd, Nat.reduceMul, reduceIte, Nat.reduceLeDiff, Nat.reduceLT, Nat.reduceBEq, reduceCtorEq]; ((repeat' (first | exact ObjLe_o0 _ | exact ObjLe.rfl' _ | refine ObjLe_same ?_ | refine ObjLe_upd ?_ ?_ | refine ObjLe_new rfl ?_)) <;> rfl)))
            · have h : i = r.n := by simp at h; omega
              subst h
              have hbe := hbest b hb
              subst hbe
              have hbD : l[t] < D.length := by omega
              have hB : ((l[t] : Nat) : Int) < (r.n : Int) := by omega
              have hc1 : l[t] < D.length + j1 := by omega
              have hc2 : l[t] < R.length + j2 := by omega
              have w1 := w64 (n := D.getD l[t] 0 + 1) (by omega) (by omega)
              have w2 := w64 (n := (L : Int) - t - 1) (by omega) (by omega)
              (repeat ((first | refine WV_seq_ ?_ | refine WV_block ?_ | refine WV_ops ?_ | refine WV_skip ?_ | refine WV_exit ?_); (try simp only [go_sem, init_env', Nat.reduceEqDiff, Nat.reduceAdd, Nat.reduceMul, reduceIte, Nat.reduceLeDiff, Nat.reduceLT, Nat.reduceBEq, reduceCtorEq, hP, cellsJ_len, cellsJ_get hbD, cellsJ_set hbD, cellsJ_set hbl, hB, hc1, hc2, Int.natCast_nonneg, w1, w2, hs1, hs2]); (repeat (refine And.intro (by first | omega | (intros; simp_all; done) | (intros; simp_all; omega)) ?_))))
              refine ⟨t + 1, by omega, by omega, ?_⟩
              (refine Sub_of (by simp only [go_sem, init_env', Nat.reduceEqDiff, Nat.reduceAdd, Nat.reduceMul, reduceIte, Nat.reduceLeDiff, Nat.reduceLT, Nat.reduceBEq, reduceCtorEq]; ((repeat' (first | exact EnvLe_e0 _ _ | refine EnvLe_upd ?_ ?_)) <;> ((try simp only [upd_app, e0_app, o0_app, Nat.reduceEqDiff, reduceIte]); first | exact AWk.refl _ _ | exact AWk.int (by omega) | exact AWk.int (by rw [w64 (by omega) (by omega)]; omega) | exact AWk.grow rfl | exact AWk.nil _ | exact AWk.of (by (simp; try omega))))) (by simp only [go_sem, init_env', Nat.reduceEqDiff, Nat.reduceAdd, Nat.reduceMul, reduceIte, Nat.reduceLeDiff, Nat.reduceLT, Nat.reduceBEq, reduceCtorEq]; ((repeat' (first | exact ObjLe_o0 _ | exact ObjLe.rfl' _ | refine ObjLe_same ?_ | refine ObjLe_upd ?_ ?_ | refine ObjLe_new rfl ?_)) <;> rfl)))
        · have h : t = L := by simp at h; omega
          subst h
          (repeat ((first | refine WV_seq_ ?_ | refine WV_block ?_ | refine WV_ops ?_ | refine WV_skip ?_ | refine WV_exit ?_); (try simp only [go_sem, init_env', Nat.reduceEqDiff, Nat.reduceAdd, Nat.reduceMul, reduceIte, Nat.reduceLeDiff, Nat.reduceLT, Nat.reduceBEq, reduceCtorEq, hP, ]); (repeat (refine And.intro (by first | omega | (intros; simp_all; done) | (intros; simp_all; omega)) ?_))))
          (refine WV_ret ?_; simp only [thenQ, inQ, RetQN, RetOkN, resAll, resA]; simp only [go_sem, init_env', Nat.reduceEqDiff, Nat.reduceAdd, Nat.reduceMul, reduceIte, Nat.reduceLeDiff, Nat.reduceLT, Nat.reduceBEq, reduceCtorEq, tupA, ])
          rw [← hsh]
          have hSl := hIl (l.take t)
          generalize incd F (l.take t) = S at *
          rw [hfl, ← hSl] at p1
          rw [← hSl]
          refine ⟨[31], .vw 1 1000 0 S.length cap1, _, [.box (cellsG icd S j1)], by decide, by decide, ?_, AVle.of rfl, ?_, cap1, j1, p1, p2, rfl, rfl⟩
          · simp only [go_sem, init_env', Nat.reduceEqDiff, Nat.reduceAdd, Nat.reduceMul, reduceIte, Nat.reduceLeDiff, Nat.reduceLT, Nat.reduceBEq, reduceCtorEq, AV.lend, AV.lendL]
          · simp only [go_sem, init_env', Nat.reduceEqDiff, Nat.reduceAdd, Nat.reduceMul, reduceIte, Nat.reduceLeDiff, Nat.reduceLT, Nat.reduceBEq, reduceCtorEq, obsLend, Ob.lend]
theorem sharesOf57 {r : Royal} (hW : Weighed r) : FSpec Try.prog 57 [r.av] (.c (ints (sharesL r.pool (allW r) (wts r)))) := dataJ_of (sharesOf57N hW)

end Go.Proofs.Ytnmchaemhjnkgaa

namespace Go.Proofs.Ytnmchaemhjnkgaa
open Go Go.V
@[reducible] def o58_0 : List Ins := [⟨(some 3), .box 3 (.t 0), none, true⟩,
  ⟨(some 6), .mv (.k (.c (.int .i64 0))), none, true⟩]
@[reducible] def o58_1 : List Ins := [⟨(some 7), .mv (.t 2), none, true⟩,
  ⟨(some 8), .fa 0 (.t 3), none, true⟩,
  ⟨none, .st 1 (.t 8) (.t 7), none, true⟩]
@[reducible] def o58_2 : List Ins := [⟨(some 9), .ld false 3 (.t 3), none, true⟩,
  ⟨(some 10), .call (.k (.fn 57 [])) [(.t 9)], none, true⟩,
  ⟨(some 11), .mv (.t 1), none, true⟩,
  ⟨(some 12), .ia 1 (.t 10) (.t 11), none, true⟩,
  ⟨(some 13), .ld true 1 (.t 12), none, true⟩,
  ⟨(some 6), .mv (.t 13), none, true⟩]
@[reducible] def v58_3 : VC := (.seq (.ops o58_2) .ret)
@[reducible] def v58_4 : VC := (.seq (.ops o58_1) v58_3)
def ir58 : FC := ⟨3, 14, [.t 6], (.seq (.ops o58_0) v58_4)⟩
@[reducible] def o36_0 : List Ins := [⟨(some 3), .box 3 (.t 0), none, true⟩,
  ⟨(some 6), .mv (.k (.c (.int .i64 0))), none, true⟩,
  ⟨(some 7), .mv (.k (.c (.int .i64 0))), none, true⟩]
@[reducible] def o36_1 : List Ins := [⟨(some 10), .ld false 3 (.t 3), none, false⟩,
  ⟨(some 11), .ld false 3 (.t 3), none, false⟩,
  ⟨(some 12), .mv (.t 1), none, false⟩,
  ⟨(some 13), .call (.k (.fn 19 [])) [(.t 11), (.t 12)], none, false⟩,
  ⟨(some 14), .mv (.t 13), none, false⟩,
  ⟨(some 15), .mv (.t 2), (some (14, true)), false⟩,
  ⟨(some 16), .call (.k (.fn 47 [])) [(.t 15), (.k (.c (.int .i64 0))), (.k (.c (.int .i64 9999)))], (some (14, true)), false⟩,
  ⟨(some 17), .pick (.t 14) (.t 16) (.k (.c (.bool false))), none, false⟩,
  ⟨(some 18), .call (.k (.fn 55 [])) [(.t 10), (.t 17)], none, true⟩,
  ⟨(some 8), .mv (.t 18), none, true⟩]
@[reducible] def o36_2 : List Ins := [⟨(some 19), .mv (.t 8), none, true⟩,
  ⟨(some 20), .bin .neq (.t 19) (.k (.c (.int .i64 0))), none, true⟩]
@[reducible] def o36_3 : List Ins := [⟨(some 21), .mv (.t 8), none, true⟩,
  ⟨(some 6), .mv (.k (.c (.int .i64 0))), none, true⟩,
  ⟨(some 7), .mv (.t 21), none, true⟩]
@[reducible] def v36_4 : VC := (.seq (.ops o36_3) .ret)
@[reducible] def v36_5 : VC := (.cond (.t 20) v36_4 .skip)
@[reducible] def v36_6 : VC := (.seq (.ops o36_2) v36_5)
@[reducible] def o36_7 : List Ins := [⟨(some 9), .mv (.k (.c (.int .i64 0))), none, true⟩]
@[reducible] def o36_8 : List Ins := [⟨(some 22), .mv (.t 9), none, true⟩,
  ⟨(some 23), .bin .leq (.t 22) (.k (.c (.int .i64 9999))), none, true⟩]
@[reducible] def v36_9 : VC := (.cond (.t 23) .skip (.exit 0))
@[reducible] def o36_10 : List Ins := [⟨(some 26), .ld false 3 (.t 3), none, true⟩,
  ⟨(some 27), .mv (.t 1), none, true⟩,
  ⟨(some 28), .mv (.t 9), none, true⟩,
  ⟨(some 29), .call (.k (.fn 58 [])) [(.t 26), (.t 27), (.t 28)], none, true⟩,
  ⟨(some 30), .mv (.t 2), none, true⟩,
  ⟨(some 31), .bin .geq (.t 29) (.t 30), none, true⟩]
@[reducible] def o36_11 : List Ins := [⟨(some 32), .mv (.t 9), none, true⟩,
  ⟨(some 6), .mv (.t 32), none, true⟩,
  ⟨(some 7), .mv (.k (.c (.int .i64 0))), none, true⟩]
@[reducible] def v36_12 : VC := (.seq (.ops o36_11) .ret)
@[reducible] def v36_13 : VC := (.cond (.t 31) v36_12 .skip)
@[reducible] def v36_14 : VC := (.seq (.ops o36_10) v36_13)
@[reducible] def o36_15 : List Ins := [⟨(some 24), .mv (.t 9), none, true⟩,
  ⟨(some 25), .bin .add (.t 24) (.k (.c (.int .i64 1))), none, true⟩,
  ⟨(some 9), .mv (.t 25), none, true⟩]
@[reducible] def v36_16 : VC := (.seq (.block 1 v36_14) (.ops o36_15))
@[reducible] def v36_17 : VC := (.seq (.seq (.ops o36_8) v36_9) v36_16)
-- K36_1: changed and kept: [9]
@[reducible] def K36_1 : List Nat := [1, 2, 3]
@[reducible] def v36_18 : VC := (.loop v36_17)
@[reducible] def v36_19 : VC := (.block 0 v36_18)
@[reducible] def o36_20 : List Ins := [⟨(some 6), .mv (.k (.c (.int .i64 0))), none, true⟩,
  ⟨(some 7), .mv (.k (.c (.int .i64 3))), none, true⟩]
@[reducible] def v36_21 : VC := (.seq (.ops o36_20) .ret)
@[reducible] def v36_22 : VC := (.seq (.seq (.ops o36_7) v36_19) v36_21)
@[reducible] def v36_23 : VC := (.seq (.seq (.ops o36_1) v36_6) v36_22)
def ir36 : FC := ⟨3, 33, [.t 6, .t 7], (.seq (.ops o36_0) v36_23)⟩
@[reducible] def o37_0 : List Ins := [⟨(some 2), .box 3 (.t 0), none, true⟩,
  ⟨(some 4), .mv (.k (.c (.int .i64 0))), none, true⟩,
  ⟨(some 5), .mv (.k (.c (.int .i64 0))), none, true⟩]
@[reducible] def o37_1 : List Ins := [⟨(some 8), .ld false 3 (.t 2), none, false⟩,
  ⟨(some 9), .ld false 3 (.t 2), none, false⟩,
  ⟨(some 10), .mv (.t 1), none, false⟩,
  ⟨(some 11), .call (.k (.fn 19 [])) [(.t 9), (.t 10)], none, false⟩,
  ⟨(some 12), .call (.k (.fn 55 [])) [(.t 8), (.t 11)], none, true⟩,
  ⟨(some 6), .mv (.t 12), none, true⟩]
@[reducible] def o37_2 : List Ins := [⟨(some 13), .mv (.t 6), none, true⟩,
  ⟨(some 14), .bin .neq (.t 13) (.k (.c (.int .i64 0))), none, true⟩]
@[reducible] def o37_3 : List Ins := [⟨(some 15), .mv (.t 6), none, true⟩,
  ⟨(some 4), .mv (.k (.c (.int .i64 0))), none, true⟩,
  ⟨(some 5), .mv (.t 15), none, true⟩]
@[reducible] def v37_4 : VC := (.seq (.ops o37_3) .ret)
@[reducible] def v37_5 : VC := (.cond (.t 14) v37_4 .skip)
@[reducible] def v37_6 : VC := (.seq (.ops o37_2) v37_5)
@[reducible] def o37_7 : List Ins := [⟨(some 7), .mv (.k (.c (.int .i64 1))), none, true⟩]
@[reducible] def o37_8 : List Ins := [⟨(some 16), .mv (.t 7), none, true⟩,
  ⟨(some 17), .fa 0 (.t 2), none, true⟩,
  ⟨(some 18), .ld true 1 (.t 17), none, true⟩,
  ⟨(some 19), .bin .leq (.t 16) (.t 18), none, true⟩]
@[reducible] def v37_9 : VC := (.cond (.t 19) .skip (.exit 0))
@[reducible] def o37_10 : List Ins := [⟨(some 22), .ld false 3 (.t 2), none, false⟩,
  ⟨(some 23), .mv (.t 1), none, false⟩,
  ⟨(some 24), .mv (.t 7), none, false⟩,
  ⟨(some 25), .call (.k (.fn 58 [])) [(.t 22), (.t 23), (.t 24)], none, false⟩,
  ⟨(some 26), .ld false 3 (.t 2), none, false⟩,
  ⟨(some 27), .mv (.t 1), none, false⟩,
  ⟨(some 28), .mv (.t 7), none, false⟩,
  ⟨(some 29), .bin .sub (.t 28) (.k (.c (.int .i64 1))), none, false⟩,
  ⟨(some 30), .call (.k (.fn 58 [])) [(.t 26), (.t 27), (.t 29)], none, true⟩,
  ⟨(some 31), .bin .lss (.t 25) (.t 30), none, true⟩]
@[reducible] def o37_11 : List Ins := [⟨(some 32), .mv (.t 7), none, true⟩,
  ⟨(some 4), .mv (.t 32), none, true⟩,
  ⟨(some 5), .mv (.k (.c (.int .i64 0))), none, true⟩]
@[reducible] def v37_12 : VC := (.seq (.ops o37_11) .ret)
@[reducible] def v37_13 : VC := (.cond (.t 31) v37_12 .skip)
@[reducible] def v37_14 : VC := (.seq (.ops o37_10) v37_13)
@[reducible] def o37_15 : List Ins := [⟨(some 20), .mv (.t 7), none, true⟩,
  ⟨(some 21), .bin .add (.t 20) (.k (.c (.int .i64 1))), none, true⟩,
  ⟨(some 7), .mv (.t 21), none, true⟩]
@[reducible] def v37_16 : VC := (.seq (.block 1 v37_14) (.ops o37_15))
@[reducible] def v37_17 : VC := (.seq (.seq (.ops o37_8) v37_9) v37_16)
-- K37_1: changed and kept: [7]
@[reducible] def K37_1 : List Nat := [1, 2]
@[reducible] def v37_18 : VC := (.loop v37_17)
@[reducible] def v37_19 : VC := (.block 0 v37_18)
@[reducible] def o37_20 : List Ins := [⟨(some 4), .mv (.k (.c (.int .i64 0))), none, true⟩,
  ⟨(some 5), .mv (.k (.c (.int .i64 3))), none, true⟩]
@[reducible] def v37_21 : VC := (.seq (.ops o37_20) .ret)
@[reducible] def v37_22 : VC := (.seq (.seq (.ops o37_7) v37_19) v37_21)
@[reducible] def v37_23 : VC := (.seq (.seq (.ops o37_1) v37_6) v37_22)
def ir37 : FC := ⟨2, 33, [.t 4, .t 5], (.seq (.ops o37_0) v37_23)⟩
theorem c58 : compM Try.prog [] 58 = some ir58 := by kernel_rfl
theorem c36 : compM Try.prog [] 36 = some ir36 := by kernel_rfl
theorem c37 : compM Try.prog [] 37 = some ir37 := by kernel_rfl



/-- Another Pool. -/
def poolR (r : Royal) (p : Int) : Royal := ⟨p, r.sides, r.owed⟩
theorem poolR_weighed {r : Royal} (hW : Weighed r) {p : Int} (hp : 0 ≤ p ∧ p ≤ 9999) : Weighed (poolR r p) := by
  have hok : (poolR r p).ok = true := by
    have h := hW.ok
    show (within p 0 9999 && decide (r.owed.length ≤ 6) && decide (r.sides.length ≤ 6) && r.owed.all (fun n => within n 0 9999) && r.sides.all (okSide r.owed.length)) = true
    have hw : within p 0 9999 = true := by simp [within, hp]
    simp only [Royal.ok, Bool.and_eq_true] at h ⊢
    exact ⟨⟨⟨⟨hw, h.1.1.1.2⟩, h.1.1.2⟩, h.1.2⟩, h.2⟩
  exact ⟨hok, Royal.ok_spec hok, hW.pos, hW.le, hW.len, hW.bd, hW.sum⟩
def shareAt (r : Royal) (who p : Int) : Int := (sharesL p (allW r) (wts r)).getD who.toNat 0
theorem share58 {r : Royal} (hW : Weighed r) {who p : Int} (hw : 0 ≤ who ∧ who < (r.n : Int)) (hp : 0 ≤ p ∧ p ≤ 9999) : FSpec Try.prog 58 [r.av, iv who, iv p] (iv (shareAt r who p)) := by
  have hs : FSpec Try.prog 57 [(poolR r p).av] (.c (ints (sharesL p (allW r) (wts r)))) := sharesOf57 (poolR_weighed hW hp)
  have hl : (sharesL p (allW r) (wts r)).length = r.n := by rw [sharesL_len, hW.len]
  have hk : who.toNat < (sharesL p (allW r) (wts r)).length := by omega
  have hI : who < ((sharesL p (allW r) (wts r)).length : Int) := by omega
  refine FSpec_of c58 (Nat.le_refl _) (by decide) fun C hP hN hC hL => ?_
  simp only [ir58, Royal.av]
  (repeat ((first | refine WV_seq_ ?_ | refine WV_block ?_ | refine WV_ops ?_ | refine WV_skip ?_ | refine WV_exit ?_); (try simp only [go_sem, init_env', Nat.reduceEqDiff, Nat.reduceAdd, Nat.reduceMul, reduceIte, Nat.reduceLeDiff, Nat.reduceLT, Nat.reduceBEq, reduceCtorEq, hP, ]); (repeat (refine And.intro (by first | omega | (intros; simp_all; done) | (intros; simp_all; omega)) ?_))))
  (refine AS_pure (hs) rfl rfl rfl rfl rfl ?_; simp only [go_sem, init_env', Nat.reduceEqDiff, Nat.reduceAdd, Nat.reduceMul, reduceIte, Nat.reduceLeDiff, Nat.reduceLT, Nat.reduceBEq, reduceCtorEq, hP, Royal.av, ints, map_getD hk, hw.1, hI]; (repeat (refine And.intro (by first | omega | (intros; simp_all; done) | (intros; simp_all; omega)) ?_)); (repeat ((first | refine WV_seq_ ?_ | refine WV_block ?_ | refine WV_ops ?_ | refine WV_skip ?_ | refine WV_exit ?_); (try simp only [go_sem, init_env', Nat.reduceEqDiff, Nat.reduceAdd, Nat.reduceMul, reduceIte, Nat.reduceLeDiff, Nat.reduceLT, Nat.reduceBEq, reduceCtorEq, hP, Royal.av, ints, map_getD hk, hw.1, hI]); (repeat (refine And.intro (by first | omega | (intros; simp_all; done) | (intros; simp_all; omega)) ?_)))))
  (refine WV_ret ?_; simp only [thenQ, inQ, RetQ, RetOk, resAll, resA]; simp only [go_sem, init_env', Nat.reduceEqDiff, Nat.reduceAdd, Nat.reduceMul, reduceIte, Nat.reduceLeDiff, Nat.reduceLT, Nat.reduceBEq, reduceCtorEq, tupA, AV.port, AV.portL, exists_eq_left', ]; (first | exact AVle.of rfl | refine AVle.of ?_ | skip))
  simp [shareAt, hk]

/-- A loop that looks for the first number. -/
theorem firstP_step {p : Int → Bool} {m : Nat} {a : Int} (h : p a = true) : firstP p (m + 1) a = (a, 0) := by simp [firstP, h]
theorem firstP_next {p : Int → Bool} {m : Nat} {a : Int} (h : p a = false) : firstP p (m + 1) a = firstP p m (a + 1) := by simp [firstP, h]
theorem rleast36 (r : Royal) (who c : Int) : FSpec Try.prog 36 [r.av, iv who, iv c] (.tup [iv (leastS r who c).1, iv (leastS r who c).2]) := by
  refine FSpec_of c36 (Nat.le_refl _) (by decide) fun C hP hN hC hL => ?_
  simp only [ir36, Royal.av]
  (repeat ((first | refine WV_seq_ ?_ | refine WV_block ?_ | refine WV_ops ?_ | refine WV_skip ?_ | refine WV_exit ?_); (try simp only [go_sem, init_env', Nat.reduceEqDiff, Nat.reduceAdd, Nat.reduceMul, reduceIte, Nat.reduceLeDiff, Nat.reduceLT, Nat.reduceBEq, reduceCtorEq, hP, ]); (repeat (refine And.intro (by first | omega | (intros; simp_all; done) | (intros; simp_all; omega)) ?_))))
  (refine ACall_of (isw19 r who) rfl rfl rfl rfl rfl ?_; simp only [go_sem, init_env', Nat.reduceEqDiff, Nat.reduceAdd, Nat.reduceMul, reduceIte, Nat.reduceLeDiff, Nat.reduceLT, Nat.reduceBEq, reduceCtorEq, hP, Royal.av]; (repeat (refine And.intro (by first | omega | (intros; simp_all; done) | (intros; simp_all; omega)) ?_)); (repeat ((first | refine WV_seq_ ?_ | refine WV_block ?_ | refine WV_ops ?_ | refine WV_skip ?_ | refine WV_exit ?_); (try simp only [go_sem, init_env', Nat.reduceEqDiff, Nat.reduceAdd, Nat.reduceMul, reduceIte, Nat.reduceLeDiff, Nat.reduceLT, Nat.reduceBEq, reduceCtorEq, hP, Royal.av]); (repeat (refine And.intro (by first | omega | (intros; simp_all; done) | (intros; simp_all; omega)) ?_)))))
  (refine ACallG_of (fun hG => wi47 c 0 9999) rfl (fun hG => by simp only [go_sem, init_env', Nat.reduceEqDiff, Nat.reduceAdd, Nat.reduceMul, reduceIte, Nat.reduceLeDiff, Nat.reduceLT, Nat.reduceBEq, reduceCtorEq, hG]) rfl rfl rfl ?_; simp only [go_sem, init_env', Nat.reduceEqDiff, Nat.reduceAdd, Nat.reduceMul, reduceIte, Nat.reduceLeDiff, Nat.reduceLT, Nat.reduceBEq, reduceCtorEq, hP, ]; (repeat (refine And.intro (by first | omega | (intros; simp_all; done) | (intros; simp_all; omega)) ?_)); (repeat ((first | refine WV_seq_ ?_ | refine WV_block ?_ | refine WV_ops ?_ | refine WV_skip ?_ | refine WV_exit ?_); (try simp only [go_sem, init_env', Nat.reduceEqDiff, Nat.reduceAdd, Nat.reduceMul, reduceIte, Nat.reduceLeDiff, Nat.reduceLT, Nat.reduceBEq, reduceCtorEq, hP, ]); (repeat (refine And.intro (by first | omega | (intros; simp_all; done) | (intros; simp_all; omega)) ?_)))))
  (refine AS_pure (known55 r (isW r who && within c 0 9999)) rfl rfl rfl rfl rfl ?_; simp only [go_sem, init_env', Nat.reduceEqDiff, Nat.reduceAdd, Nat.reduceMul, reduceIte, Nat.reduceLeDiff, Nat.reduceLT, Nat.reduceBEq, reduceCtorEq, hP, Royal.av]; (repeat (refine And.intro (by first | omega | (intros; simp_all; done) | (intros; simp_all; omega)) ?_)); (repeat ((first | refine WV_seq_ ?_ | refine WV_block ?_ | refine WV_ops ?_ | refine WV_skip ?_ | refine WV_exit ?_); (try simp only [go_sem, init_env', Nat.reduceEqDiff, Nat.reduceAdd, Nat.reduceMul, reduceIte, Nat.reduceLeDiff, Nat.reduceLT, Nat.reduceBEq, reduceCtorEq, hP, Royal.av]); (repeat (refine And.intro (by first | omega | (intros; simp_all; done) | (intros; simp_all; omega)) ?_)))))
  by_cases he : weighE r (isW r who && within c 0 9999) = 0
  · obtain ⟨hb, hW, e1, e2⟩ := weighE_zero he
    simp only [Bool.and_eq_true] at hb
    have hw := isW_spec hb.1
    rw [he]
    have hx : leastS r who c = firstP (fun p => decide (c ≤ (sharesL p (allW r) (wts r)).getD who.toNat 0)) 10000 0 := by unfold leastS; rw [if_pos he]
    rw [hx]
    generalize hPd : (fun p : Int => decide (c ≤ (sharesL p (allW r) (wts r)).getD who.toNat 0)) = P at *
    have hPp : ∀ p, decide (c ≤ shareAt r who p) = P p := fun p => by rw [← hPd]; rfl
    (refine WV_cond rfl (fun h => ?_) (fun h => ?_))
    · simp at h
    clear h
    (repeat ((first | refine WV_seq_ ?_ | refine WV_block ?_ | refine WV_ops ?_ | refine WV_skip ?_ | refine WV_exit ?_); (try simp only [go_sem, init_env', Nat.reduceEqDiff, Nat.reduceAdd, Nat.reduceMul, reduceIte, Nat.reduceLeDiff, Nat.reduceLT, Nat.reduceBEq, reduceCtorEq, hP, ]); (repeat (refine And.intro (by first | omega | (intros; simp_all; done) | (intros; simp_all; omega)) ?_))))
    refine WV_loopK K36_1 [] (fun k : Nat => k ≤ 10000 ∧ firstP P 10000 0 = firstP P (10000 - k) (k : Int)) (fun k => 10000 - k) (fun k => [(9, iv k)]) (fun _ => []) 0 ⟨Nat.zero_le _, rfl⟩ ?_ ?_
    · (refine Sub_of (by simp only [go_sem, init_env', Nat.reduceEqDiff, Nat.reduceAdd, Nat.reduceMul, reduceIte, Nat.reduceLeDiff, Nat.reduceLT, Nat.reduceBEq, reduceCtorEq]; ((repeat' (first | exact EnvLe_e0 _ _ | refine EnvLe_upd ?_ ?_)) <;> ((try simp only [upd_app, e0_app, o0_app, Nat.reduceEqDiff, reduceIte]); first | exact AWk.refl _ _ | exact AWk.int (by omega) | exact AWk.int (by rw [w64 (by omega) (by omega)]; omega) | exact AWk.grow rfl | exact AWk.nil _ | exact AWk.of (by simp)))) (by simp only [go_sem, init_env', Nat.reduceEqDiff, Nat.reduceAdd, Nat.reduceMul, reduceIte, Nat.reduceLeDiff, Nat.reduceLT, Nat.reduceBEq, reduceCtorEq]; ((repeat' (first | exact ObjLe_o0 _ | exact ObjLe.rfl' _ | refine ObjLe_same ?_ | refine ObjLe_upd ?_ ?_ | refine ObjLe_new rfl ?_)) <;> rfl)))
    · rintro k ⟨hk, hf⟩
      simp only [go_sem, init_env', Nat.reduceEqDiff, Nat.reduceAdd, Nat.reduceMul, reduceIte, Nat.reduceLeDiff, Nat.reduceLT, Nat.reduceBEq, reduceCtorEq]
      (repeat ((first | refine WV_seq_ ?_ | refine WV_block ?_ | refine WV_ops ?_ | refine WV_skip ?_ | refine WV_exit ?_); (try simp only [go_sem, init_env', Nat.reduceEqDiff, Nat.reduceAdd, Nat.reduceMul, reduceIte, Nat.reduceLeDiff, Nat.reduceLT, Nat.reduceBEq, reduceCtorEq, hP, ]); (repeat (refine And.intro (by first | omega | (intros; simp_all; done) | (intros; simp_all; omega)) ?_))))
      (refine WV_cond rfl (fun h => ?_) (fun h => ?_))
      · have hkl : k < 10000 := by simp at h; omega
        obtain ⟨m, hm⟩ : ∃ m, 10000 - k = m + 1 := ⟨10000 - k - 1, by omega⟩
        have hsh := share58 hW hw (p := (k : Int)) (by omega)
        have w1 := w64 (n := (k : Int) + 1) (by omega) (by omega)
        have hd : decide (shareAt r who (k : Int) ≥ c) = P k := hPp k
        (repeat ((first | refine WV_seq_ ?_ | refine WV_block ?_ | refine WV_ops ?_ | refine WV_skip ?_ | refine WV_exit ?_); (try simp only [go_sem, init_env', Nat.reduceEqDiff, Nat.reduceAdd, Nat.reduceMul, reduceIte, Nat.reduceLeDiff, Nat.reduceLT, Nat.reduceBEq, reduceCtorEq, hP, ]); (repeat (refine And.intro (by first | omega | (intros; simp_all; done) | (intros; simp_all; omega)) ?_))))
        (refine AS_pure (hsh) rfl rfl rfl rfl rfl ?_; simp only [go_sem, init_env', Nat.reduceEqDiff, Nat.reduceAdd, Nat.reduceMul, reduceIte, Nat.reduceLeDiff, Nat.reduceLT, Nat.reduceBEq, reduceCtorEq, hP, Royal.av]; (repeat (refine And.intro (by first | omega | (intros; simp_all; done) | (intros; simp_all; omega)) ?_)); (repeat ((first | refine WV_seq_ ?_ | refine WV_block ?_ | refine WV_ops ?_ | refine WV_skip ?_ | refine WV_exit ?_); (try simp only [go_sem, init_env', Nat.reduceEqDiff, Nat.reduceAdd, Nat.reduceMul, reduceIte, Nat.reduceLeDiff, Nat.reduceLT, Nat.reduceBEq, reduceCtorEq, hP, Royal.av]); (repeat (refine And.intro (by first | omega | (intros; simp_all; done) | (intros; simp_all; omega)) ?_)))))
        rw [hd]
        cases hpk : P (k : Int)
        · (refine WV_cond rfl (fun h => ?_) (fun h => ?_))
          · simp at h
          · (repeat ((first | refine WV_seq_ ?_ | refine WV_block ?_ | refine WV_ops ?_ | refine WV_skip ?_ | refine WV_exit ?_); (try simp only [go_sem, init_env', Nat.reduceEqDiff, Nat.reduceAdd, Nat.reduceMul, reduceIte, Nat.reduceLeDiff, Nat.reduceLT, Nat.reduceBEq, reduceCtorEq, hP, w1]); (repeat (refine And.intro (by first | omega | (intros; simp_all; done) | (intros; simp_all; omega)) ?_))))
            refine ⟨k + 1, ⟨by omega, ?_⟩, by omega, ?_⟩
            · rw [hf, hm, firstP_next hpk, show 10000 - (k + 1) = m from by omega]
              rfl
            · (refine Sub_of (by simp only [go_sem, init_env', Nat.reduceEqDiff, Nat.reduceAdd, Nat.reduceMul, reduceIte, Nat.reduceLeDiff, Nat.reduceLT, Nat.reduceBEq, reduceCtorEq]; ((repeat' (first | exact EnvLe_e0 _ _ | refine EnvLe_upd ?_ ?_)) <;> ((try simp only [upd_app, e0_app, o0_app, Nat.reduceEqDiff, reduceIte]); first | exact AWk.refl _ _ | exact AWk.int (by omega) | exact AWk.int (by rw [w64 (by omega) (by omega)]; omega) | exact AWk.grow rfl | exact AWk.nil _ | exact AWk.of (by simp)))) (by simp only [go_sem, init_env', Nat.reduceEqDiff, Nat.reduceAdd, Nat.reduceMul, reduceIte, Nat.reduceLeDiff, Nat.reduceLT, Nat.reduceBEq, reduceCtorEq]; ((repeat' (first | exact ObjLe_o0 _ | exact ObjLe.rfl' _ | refine ObjLe_same ?_ | refine ObjLe_upd ?_ ?_ | refine ObjLe_new rfl ?_)) <;> rfl)))
        · (refine WV_cond rfl (fun h => ?_) (fun h => ?_))
          · (repeat ((first | refine WV_seq_ ?_ | refine WV_block ?_ | refine WV_ops ?_ | refine WV_skip ?_ | refine WV_exit ?_); (try simp only [go_sem, init_env', Nat.reduceEqDiff, Nat.reduceAdd, Nat.reduceMul, reduceIte, Nat.reduceLeDiff, Nat.reduceLT, Nat.reduceBEq, reduceCtorEq, hP, ]); (repeat (refine And.intro (by first | omega | (intros; simp_all; done) | (intros; simp_all; omega)) ?_))))
            (refine WV_ret ?_; simp only [thenQ, inQ, RetQ, RetOk, resAll, resA]; simp only [go_sem, init_env', Nat.reduceEqDiff, Nat.reduceAdd, Nat.reduceMul, reduceIte, Nat.reduceLeDiff, Nat.reduceLT, Nat.reduceBEq, reduceCtorEq, tupA, AV.port, AV.portL, exists_eq_left', ]; (first | exact AVle.of rfl | refine AVle.of ?_ | skip))
            rw [hf, hm, firstP_step hpk]
          · simp at h
      · have hk' : k = 10000 := by simp at h; omega
        subst hk'
        (repeat ((first | refine WV_seq_ ?_ | refine WV_block ?_ | refine WV_ops ?_ | refine WV_skip ?_ | refine WV_exit ?_); (try simp only [go_sem, init_env', Nat.reduceEqDiff, Nat.reduceAdd, Nat.reduceMul, reduceIte, Nat.reduceLeDiff, Nat.reduceLT, Nat.reduceBEq, reduceCtorEq, hP, ]); (repeat (refine And.intro (by first | omega | (intros; simp_all; done) | (intros; simp_all; omega)) ?_))))
        (refine WV_ret ?_; simp only [thenQ, inQ, RetQ, RetOk, resAll, resA]; simp only [go_sem, init_env', Nat.reduceEqDiff, Nat.reduceAdd, Nat.reduceMul, reduceIte, Nat.reduceLeDiff, Nat.reduceLT, Nat.reduceBEq, reduceCtorEq, tupA, AV.port, AV.portL, exists_eq_left', ]; (first | exact AVle.of rfl | refine AVle.of ?_ | skip))
        rw [hf]
        rfl
  · have hx : leastS r who c = (0, weighE r (isW r who && within c 0 9999)) := by unfold leastS; rw [if_neg he]
    rw [hx]
    (refine WV_cond rfl (fun h => ?_) (fun h => ?_))
    · (repeat ((first | refine WV_seq_ ?_ | refine WV_block ?_ | refine WV_ops ?_ | refine WV_skip ?_ | refine WV_exit ?_); (try simp only [go_sem, init_env', Nat.reduceEqDiff, Nat.reduceAdd, Nat.reduceMul, reduceIte, Nat.reduceLeDiff, Nat.reduceLT, Nat.reduceBEq, reduceCtorEq, hP, ]); (repeat (refine And.intro (by first | omega | (intros; simp_all; done) | (intros; simp_all; omega)) ?_))))
      (refine WV_ret ?_; simp only [thenQ, inQ, RetQ, RetOk, resAll, resA]; simp only [go_sem, init_env', Nat.reduceEqDiff, Nat.reduceAdd, Nat.reduceMul, reduceIte, Nat.reduceLeDiff, Nat.reduceLT, Nat.reduceBEq, reduceCtorEq, tupA, AV.port, AV.portL, exists_eq_left', ]; (first | exact AVle.of rfl | refine AVle.of ?_ | skip))
    · simp at h; exact absurd h he
theorem rodd37 (r : Royal) (who : Int) : FSpec Try.prog 37 [r.av, iv who] (.tup [iv (oddS r who).1, iv (oddS r who).2]) := by
  refine FSpec_of c37 (Nat.le_refl _) (by decide) fun C hP hN hC hL => ?_
  simp only [ir37, Royal.av]
  (repeat ((first | refine WV_seq_ ?_ | refine WV_block ?_ | refine WV_ops ?_ | refine WV_skip ?_ | refine WV_exit ?_); (try simp only [go_sem, init_env', Nat.reduceEqDiff, Nat.reduceAdd, Nat.reduceMul, reduceIte, Nat.reduceLeDiff, Nat.reduceLT, Nat.reduceBEq, reduceCtorEq, hP, ]); (repeat (refine And.intro (by first | omega | (intros; simp_all; done) | (intros; simp_all; omega)) ?_))))
  (refine ACall_of (isw19 r who) rfl rfl rfl rfl rfl ?_; simp only [go_sem, init_env', Nat.reduceEqDiff, Nat.reduceAdd, Nat.reduceMul, reduceIte, Nat.reduceLeDiff, Nat.reduceLT, Nat.reduceBEq, reduceCtorEq, hP, Royal.av]; (repeat (refine And.intro (by first | omega | (intros; simp_all; done) | (intros; simp_all; omega)) ?_)); (repeat ((first | refine WV_seq_ ?_ | refine WV_block ?_ | refine WV_ops ?_ | refine WV_skip ?_ | refine WV_exit ?_); (try simp only [go_sem, init_env', Nat.reduceEqDiff, Nat.reduceAdd, Nat.reduceMul, reduceIte, Nat.reduceLeDiff, Nat.reduceLT, Nat.reduceBEq, reduceCtorEq, hP, Royal.av]); (repeat (refine And.intro (by first | omega | (intros; simp_all; done) | (intros; simp_all; omega)) ?_)))))
  (refine AS_pure (known55 r (isW r who)) rfl rfl rfl rfl rfl ?_; simp only [go_sem, init_env', Nat.reduceEqDiff, Nat.reduceAdd, Nat.reduceMul, reduceIte, Nat.reduceLeDiff, Nat.reduceLT, Nat.reduceBEq, reduceCtorEq, hP, Royal.av]; (repeat (refine And.intro (by first | omega | (intros; simp_all; done) | (intros; simp_all; omega)) ?_)); (repeat ((first | refine WV_seq_ ?_ | refine WV_block ?_ | refine WV_ops ?_ | refine WV_skip ?_ | refine WV_exit ?_); (try simp only [go_sem, init_env', Nat.reduceEqDiff, Nat.reduceAdd, Nat.reduceMul, reduceIte, Nat.reduceLeDiff, Nat.reduceLT, Nat.reduceBEq, reduceCtorEq, hP, Royal.av]); (repeat (refine And.intro (by first | omega | (intros; simp_all; done) | (intros; simp_all; omega)) ?_)))))
  by_cases he : weighE r (isW r who) = 0
  · obtain ⟨hb, hW, e1, e2⟩ := weighE_zero he
    have hw := isW_spec hb
    have hpool := hW.hr.pool
    rw [he]
    have hx : oddS r who = firstP (fun p => decide ((sharesL p (allW r) (wts r)).getD who.toNat 0 < (sharesL (p - 1) (allW r) (wts r)).getD who.toNat 0)) r.pool.toNat 1 := by unfold oddS; rw [if_pos he]
    rw [hx]
    generalize hPd : (fun p : Int => decide ((sharesL p (allW r) (wts r)).getD who.toNat 0 < (sharesL (p - 1) (allW r) (wts r)).getD who.toNat 0)) = P at *
    have hPp : ∀ p, decide (shareAt r who p < shareAt r who (p - 1)) = P p := fun p => by rw [← hPd]; rfl
    (refine WV_cond rfl (fun h => ?_) (fun h => ?_))
    · simp at h
    clear h
    (repeat ((first | refine WV_seq_ ?_ | refine WV_block ?_ | refine WV_ops ?_ | refine WV_skip ?_ | refine WV_exit ?_); (try simp only [go_sem, init_env', Nat.reduceEqDiff, Nat.reduceAdd, Nat.reduceMul, reduceIte, Nat.reduceLeDiff, Nat.reduceLT, Nat.reduceBEq, reduceCtorEq, hP, ]); (repeat (refine And.intro (by first | omega | (intros; simp_all; done) | (intros; simp_all; omega)) ?_))))
    refine WV_loopK K37_1 [] (fun k : Nat => k ≤ r.pool.toNat ∧ firstP P r.pool.toNat 1 = firstP P (r.pool.toNat - k) ((k : Int) + 1)) (fun k => r.pool.toNat - k) (fun k => [(7, iv ((k : Int) + 1))]) (fun _ => []) 0 ⟨Nat.zero_le _, rfl⟩ ?_ ?_
    · (refine Sub_of (by simp only [go_sem, init_env', Nat.reduceEqDiff, Nat.reduceAdd, Nat.reduceMul, reduceIte, Nat.reduceLeDiff, Nat.reduceLT, Nat.reduceBEq, reduceCtorEq]; ((repeat' (first | exact EnvLe_e0 _ _ | refine EnvLe_upd ?_ ?_)) <;> ((try simp only [upd_app, e0_app, o0_app, Nat.reduceEqDiff, reduceIte]); first | exact AWk.refl _ _ | exact AWk.int (by omega) | exact AWk.int (by rw [w64 (by omega) (by omega)]; omega) | exact AWk.grow rfl | exact AWk.nil _ | exact AWk.of (by simp)))) (by simp only [go_sem, init_env', Nat.reduceEqDiff, Nat.reduceAdd, Nat.reduceMul, reduceIte, Nat.reduceLeDiff, Nat.reduceLT, Nat.reduceBEq, reduceCtorEq]; ((repeat' (first | exact ObjLe_o0 _ | exact ObjLe.rfl' _ | refine ObjLe_same ?_ | refine ObjLe_upd ?_ ?_ | refine ObjLe_new rfl ?_)) <;> rfl)))
    · rintro k ⟨hk, hf⟩
      simp only [go_sem, init_env', Nat.reduceEqDiff, Nat.reduceAdd, Nat.reduceMul, reduceIte, Nat.reduceLeDiff, Nat.reduceLT, Nat.reduceBEq, reduceCtorEq]
      (repeat ((first | refine WV_seq_ ?_ | refine WV_block ?_ | refine WV_ops ?_ | refine WV_skip ?_ | refine WV_exit ?_); (try simp only [go_sem, init_env', Nat.reduceEqDiff, Nat.reduceAdd, Nat.reduceMul, reduceIte, Nat.reduceLeDiff, Nat.reduceLT, Nat.reduceBEq, reduceCtorEq, hP, ]); (repeat (refine And.intro (by first | omega | (intros; simp_all; done) | (intros; simp_all; omega)) ?_))))
      (refine WV_cond rfl (fun h => ?_) (fun h => ?_))
      · have hkl : k < r.pool.toNat := by simp at h; omega
        obtain ⟨m, hm⟩ : ∃ m, r.pool.toNat - k = m + 1 := ⟨r.pool.toNat - k - 1, by omega⟩
        have hsh := share58 hW hw (p := (k : Int) + 1) (by omega)
        have hsh2 := share58 hW hw (p := (k : Int) + 1 - 1) (by omega)
        have w1 := w64 (n := (k : Int) + 1 + 1) (by omega) (by omega)
        have w2 := w64 (n := (k : Int) + 1 - 1) (by omega) (by omega)
        have hd := hPp ((k : Int) + 1)
        (repeat ((first | refine WV_seq_ ?_ | refine WV_block ?_ | refine WV_ops ?_ | refine WV_skip ?_ | refine WV_exit ?_); (try simp only [go_sem, init_env', Nat.reduceEqDiff, Nat.reduceAdd, Nat.reduceMul, reduceIte, Nat.reduceLeDiff, Nat.reduceLT, Nat.reduceBEq, reduceCtorEq, hP, ]); (repeat (refine And.intro (by first | omega | (intros; simp_all; done) | (intros; simp_all; omega)) ?_))))
        (refine ACall_of (hsh) rfl rfl rfl rfl rfl ?_; simp only [go_sem, init_env', Nat.reduceEqDiff, Nat.reduceAdd, Nat.reduceMul, reduceIte, Nat.reduceLeDiff, Nat.reduceLT, Nat.reduceBEq, reduceCtorEq, hP, Royal.av, w2]; (repeat (refine And.intro (by first | omega | (intros; simp_all; done) | (intros; simp_all; omega)) ?_)); (repeat ((first | refine WV_seq_ ?_ | refine WV_block ?_ | refine WV_ops ?_ | refine WV_skip ?_ | refine WV_exit ?_); (try simp only [go_sem, init_env', Nat.reduceEqDiff, Nat.reduceAdd, Nat.reduceMul, reduceIte, Nat.reduceLeDiff, Nat.reduceLT, Nat.reduceBEq, reduceCtorEq, hP, Royal.av, w2]); (repeat (refine And.intro (by first | omega | (intros; simp_all; done) | (intros; simp_all; omega)) ?_)))))
        (refine AS_pure (hsh2) rfl rfl rfl rfl rfl ?_; simp only [go_sem, init_env', Nat.reduceEqDiff, Nat.reduceAdd, Nat.reduceMul, reduceIte, Nat.reduceLeDiff, Nat.reduceLT, Nat.reduceBEq, reduceCtorEq, hP, Royal.av]; (repeat (refine And.intro (by first | omega | (intros; simp_all; done) | (intros; simp_all; omega)) ?_)); (repeat ((first | refine WV_seq_ ?_ | refine WV_block ?_ | refine WV_ops ?_ | refine WV_skip ?_ | refine WV_exit ?_); (try simp only [go_sem, init_env', Nat.reduceEqDiff, Nat.reduceAdd, Nat.reduceMul, reduceIte, Nat.reduceLeDiff, Nat.reduceLT, Nat.reduceBEq, reduceCtorEq, hP, Royal.av]); (repeat (refine And.intro (by first | omega | (intros; simp_all; done) | (intros; simp_all; omega)) ?_)))))
        rw [hd]
        cases hpk : P ((k : Int) + 1)
        · (refine WV_cond rfl (fun h => ?_) (fun h => ?_))
          · simp at h
          · (repeat ((first | refine WV_seq_ ?_ | refine WV_block ?_ | refine WV_ops ?_ | refine WV_skip ?_ | refine WV_exit ?_); (try simp only [go_sem, init_env', Nat.reduceEqDiff, Nat.reduceAdd, Nat.reduceMul, reduceIte, Nat.reduceLeDiff, Nat.reduceLT, Nat.reduceBEq, reduceCtorEq, hP, w1]); (repeat (refine And.intro (by first | omega | (intros; simp_all; done) | (intros; simp_all; omega)) ?_))))
            refine ⟨k + 1, ⟨by omega, ?_⟩, by omega, ?_⟩
            · rw [hf, hm, firstP_next hpk, show r.pool.toNat - (k + 1) = m from by omega]
              rfl
            · (refine Sub_of (by simp only [go_sem, init_env', Nat.reduceEqDiff, Nat.reduceAdd, Nat.reduceMul, reduceIte, Nat.reduceLeDiff, Nat.reduceLT, Nat.reduceBEq, reduceCtorEq]; ((repeat' (first | exact EnvLe_e0 _ _ | refine EnvLe_upd ?_ ?_)) <;> ((try simp only [upd_app, e0_app, o0_app, Nat.reduceEqDiff, reduceIte]); first | exact AWk.refl _ _ | exact AWk.int (by omega) | exact AWk.int (by rw [w64 (by omega) (by omega)]; omega) | exact AWk.grow rfl | exact AWk.nil _ | exact AWk.of (by (simp; try omega))))) (by simp only [go_sem, init_env', Nat.reduceEqDiff, Nat.reduceAdd, Nat.reduceMul, reduceIte, Nat.reduceLeDiff, Nat.reduceLT, Nat.reduceBEq, reduceCtorEq]; ((repeat' (first | exact ObjLe_o0 _ | exact ObjLe.rfl' _ | refine ObjLe_same ?_ | refine ObjLe_upd ?_ ?_ | refine ObjLe_new rfl ?_)) <;> rfl)))
        · (refine WV_cond rfl (fun h => ?_) (fun h => ?_))
          · (repeat ((first | refine WV_seq_ ?_ | refine WV_block ?_ | refine WV_ops ?_ | refine WV_skip ?_ | refine WV_exit ?_); (try simp only [go_sem, init_env', Nat.reduceEqDiff, Nat.reduceAdd, Nat.reduceMul, reduceIte, Nat.reduceLeDiff, Nat.reduceLT, Nat.reduceBEq, reduceCtorEq, hP, ]); (repeat (refine And.intro (by first | omega | (intros; simp_all; done) | (intros; simp_all; omega)) ?_))))
            (refine WV_ret ?_; simp only [thenQ, inQ, RetQ, RetOk, resAll, resA]; simp only [go_sem, init_env', Nat.reduceEqDiff, Nat.reduceAdd, Nat.reduceMul, reduceIte, Nat.reduceLeDiff, Nat.reduceLT, Nat.reduceBEq, reduceCtorEq, tupA, AV.port, AV.portL, exists_eq_left', ]; (first | exact AVle.of rfl | refine AVle.of ?_ | skip))
            rw [hf, hm, firstP_step hpk]
          · simp at h
      · have hk' : k = r.pool.toNat := by simp at h; omega
        subst hk'
        (repeat ((first | refine WV_seq_ ?_ | refine WV_block ?_ | refine WV_ops ?_ | refine WV_skip ?_ | refine WV_exit ?_); (try simp only [go_sem, init_env', Nat.reduceEqDiff, Nat.reduceAdd, Nat.reduceMul, reduceIte, Nat.reduceLeDiff, Nat.reduceLT, Nat.reduceBEq, reduceCtorEq, hP, ]); (repeat (refine And.intro (by first | omega | (intros; simp_all; done) | (intros; simp_all; omega)) ?_))))
        (refine WV_ret ?_; simp only [thenQ, inQ, RetQ, RetOk, resAll, resA]; simp only [go_sem, init_env', Nat.reduceEqDiff, Nat.reduceAdd, Nat.reduceMul, reduceIte, Nat.reduceLeDiff, Nat.reduceLT, Nat.reduceBEq, reduceCtorEq, tupA, AV.port, AV.portL, exists_eq_left', ]; (first | exact AVle.of rfl | refine AVle.of ?_ | skip))
        rw [hf, Nat.sub_self]
        rfl
  · have hx : oddS r who = (0, weighE r (isW r who)) := by unfold oddS; rw [if_neg he]
    rw [hx]
    (refine WV_cond rfl (fun h => ?_) (fun h => ?_))
    · (repeat ((first | refine WV_seq_ ?_ | refine WV_block ?_ | refine WV_ops ?_ | refine WV_skip ?_ | refine WV_exit ?_); (try simp only [go_sem, init_env', Nat.reduceEqDiff, Nat.reduceAdd, Nat.reduceMul, reduceIte, Nat.reduceLeDiff, Nat.reduceLT, Nat.reduceBEq, reduceCtorEq, hP, ]); (repeat (refine And.intro (by first | omega | (intros; simp_all; done) | (intros; simp_all; omega)) ?_))))
      (refine WV_ret ?_; simp only [thenQ, inQ, RetQ, RetOk, resAll, resA]; simp only [go_sem, init_env', Nat.reduceEqDiff, Nat.reduceAdd, Nat.reduceMul, reduceIte, Nat.reduceLeDiff, Nat.reduceLT, Nat.reduceBEq, reduceCtorEq, tupA, AV.port, AV.portL, exists_eq_left', ]; (first | exact AVle.of rfl | refine AVle.of ?_ | skip))
    · simp at h; exact absurd h he
end Go.Proofs.Ytnmchaemhjnkgaa

namespace Go.Proofs.Ytnmchaemhjnkgaa
open Go Go.V
@[reducible] def o35_0 : List Ins := [⟨(some 2), .box 3 (.t 0), none, true⟩,
  ⟨(some 3), .box 3 (.t 1), none, true⟩,
  ⟨(some 4), .mv (.k (.c (.bool false))), none, true⟩]
@[reducible] def o35_1 : List Ins := [⟨(some 9), .fa 0 (.t 2), none, true⟩,
  ⟨(some 10), .ld true 1 (.t 9), none, true⟩,
  ⟨(some 11), .fa 0 (.t 3), none, true⟩,
  ⟨(some 12), .ld true 1 (.t 11), none, true⟩,
  ⟨(some 13), .bin .neq (.t 10) (.t 12), none, true⟩,
  ⟨(some 14), .mv (.t 13), none, true⟩,
  ⟨(some 15), .fa 1 (.t 2), (some (14, false)), true⟩,
  ⟨(some 16), .ld true 1 (.t 15), (some (14, false)), true⟩,
  ⟨(some 17), .len (.t 16), (some (14, false)), true⟩,
  ⟨(some 18), .fa 1 (.t 3), (some (14, false)), true⟩,
  ⟨(some 19), .ld true 1 (.t 18), (some (14, false)), true⟩,
  ⟨(some 20), .len (.t 19), (some (14, false)), true⟩,
  ⟨(some 21), .bin .neq (.t 17) (.t 20), (some (14, false)), true⟩,
  ⟨(some 22), .pick (.t 14) (.k (.c (.bool true))) (.t 21), none, true⟩,
  ⟨(some 23), .mv (.t 22), none, true⟩,
  ⟨(some 24), .fa 2 (.t 2), (some (23, false)), true⟩,
  ⟨(some 25), .ld true 1 (.t 24), (some (23, false)), true⟩,
  ⟨(some 26), .fa 2 (.t 3), (some (23, false)), true⟩,
  ⟨(some 27), .ld true 1 (.t 26), (some (23, false)), true⟩,
  ⟨(some 28), .call (.k (.fn 34 [])) [(.t 25), (.t 27)], (some (23, false)), true⟩,
  ⟨(some 29), .un .not (.t 28), (some (23, false)), true⟩,
  ⟨(some 30), .pick (.t 23) (.k (.c (.bool true))) (.t 29), none, true⟩]
@[reducible] def o35_2 : List Ins := [⟨(some 4), .mv (.k (.c (.bool false))), none, true⟩]
@[reducible] def v35_3 : VC := (.seq (.ops o35_2) .ret)
@[reducible] def v35_4 : VC := (.cond (.t 30) v35_3 .skip)
@[reducible] def o35_5 : List Ins := [⟨(some 5), .mv (.k (.c (.int .i64 0))), none, true⟩]
@[reducible] def o35_6 : List Ins := [⟨(some 31), .mv (.t 5), none, true⟩,
  ⟨(some 32), .fa 1 (.t 2), none, true⟩,
  ⟨(some 33), .ld true 1 (.t 32), none, true⟩,
  ⟨(some 34), .len (.t 33), none, true⟩,
  ⟨(some 35), .bin .lss (.t 31) (.t 34), none, true⟩]
@[reducible] def v35_7 : VC := (.cond (.t 35) .skip (.exit 0))
@[reducible] def t35_8 : OT := (.cons ⟨(some 38), .fa 1 (.t 2), none, false⟩
  (.cons ⟨(some 39), .ldd true 1 (.t 38), none, false⟩
  (.cons ⟨(some 40), .mv (.t 5), none, false⟩
  (.cons ⟨(some 41), .ia 2 (.t 39) (.t 40), none, false⟩
  (.cons ⟨(some 42), .ldd false 2 (.t 41), none, false⟩
  (.cons ⟨(some 43), .fa 1 (.t 3), none, false⟩
  (.cons ⟨(some 44), .ldd true 1 (.t 43), none, false⟩
  (.cons ⟨(some 45), .mv (.t 5), none, false⟩
  (.cons ⟨(some 46), .ia 2 (.t 44) (.t 45), none, false⟩
  (.cons ⟨(some 47), .ldd false 2 (.t 46), none, false⟩
  (.br [(.cons ⟨(some 6), .alloc [(.c (.int .i64 0)), (.c (.raw (.slice none 0 0)))], none, false⟩
    (.cons ⟨(some 7), .alloc [(.c (.int .i64 0)), (.c (.raw (.slice none 0 0)))], none, false⟩
    (.cons ⟨none, .st 2 (.t 6) (.t 42), none, false⟩
    (.cons ⟨none, .st 2 (.t 7) (.t 47), none, true⟩
    .nil)))), (.cons ⟨(some 7), .alloc [(.c (.int .i64 0)), (.c (.raw (.slice none 0 0)))], none, false⟩
    (.cons ⟨(some 6), .alloc [(.c (.int .i64 0)), (.c (.raw (.slice none 0 0)))], none, false⟩
    (.cons ⟨none, .st 2 (.t 6) (.t 42), none, false⟩
    (.cons ⟨none, .st 2 (.t 7) (.t 47), none, true⟩
    .nil))))])))))))))))
@[reducible] def o35_9 : List Ins := [⟨(some 48), .fa 0 (.t 6), none, true⟩,
  ⟨(some 49), .ld true 1 (.t 48), none, true⟩,
  ⟨(some 50), .fa 0 (.t 7), none, true⟩,
  ⟨(some 51), .ld true 1 (.t 50), none, true⟩,
  ⟨(some 52), .bin .neq (.t 49) (.t 51), none, true⟩,
  ⟨(some 53), .mv (.t 52), none, true⟩,
  ⟨(some 54), .fa 1 (.t 6), (some (53, false)), true⟩,
  ⟨(some 55), .ld true 1 (.t 54), (some (53, false)), true⟩,
  ⟨(some 56), .len (.t 55), (some (53, false)), true⟩,
  ⟨(some 57), .fa 1 (.t 7), (some (53, false)), true⟩,
  ⟨(some 58), .ld true 1 (.t 57), (some (53, false)), true⟩,
  ⟨(some 59), .len (.t 58), (some (53, false)), true⟩,
  ⟨(some 60), .bin .neq (.t 56) (.t 59), (some (53, false)), true⟩,
  ⟨(some 61), .pick (.t 53) (.k (.c (.bool true))) (.t 60), none, true⟩]
@[reducible] def o35_10 : List Ins := [⟨(some 4), .mv (.k (.c (.bool false))), none, true⟩]
@[reducible] def v35_11 : VC := (.seq (.ops o35_10) .ret)
@[reducible] def v35_12 : VC := (.cond (.t 61) v35_11 .skip)
@[reducible] def o35_13 : List Ins := [⟨(some 8), .mv (.k (.c (.int .i64 0))), none, true⟩]
@[reducible] def o35_14 : List Ins := [⟨(some 62), .mv (.t 8), none, true⟩,
  ⟨(some 63), .fa 1 (.t 6), none, true⟩,
  ⟨(some 64), .ld true 1 (.t 63), none, true⟩,
  ⟨(some 65), .len (.t 64), none, true⟩,
  ⟨(some 66), .bin .lss (.t 62) (.t 65), none, true⟩]
@[reducible] def v35_15 : VC := (.cond (.t 66) .skip (.exit 2))
@[reducible] def o35_16 : List Ins := [⟨(some 69), .fa 1 (.t 6), none, false⟩,
  ⟨(some 70), .ld true 1 (.t 69), none, false⟩,
  ⟨(some 71), .mv (.t 8), none, false⟩,
  ⟨(some 72), .ia 2 (.t 70) (.t 71), none, false⟩,
  ⟨(some 73), .ld false 2 (.t 72), none, false⟩,
  ⟨(some 74), .fa 1 (.t 7), none, false⟩,
  ⟨(some 75), .ld true 1 (.t 74), none, false⟩,
  ⟨(some 76), .mv (.t 8), none, false⟩,
  ⟨(some 77), .ia 2 (.t 75) (.t 76), none, false⟩,
  ⟨(some 78), .ld false 2 (.t 77), none, false⟩,
  ⟨(some 79), .seq true [(0, true), (1, true)] (.t 73) (.t 78), none, true⟩]
@[reducible] def o35_17 : List Ins := [⟨(some 4), .mv (.k (.c (.bool false))), none, true⟩]
@[reducible] def v35_18 : VC := (.seq (.ops o35_17) .ret)
@[reducible] def v35_19 : VC := (.cond (.t 79) v35_18 .skip)
@[reducible] def v35_20 : VC := (.seq (.ops o35_16) v35_19)
@[reducible] def o35_21 : List Ins := [⟨(some 67), .mv (.t 8), none, true⟩,
  ⟨(some 68), .bin .add (.t 67) (.k (.c (.int .i64 1))), none, true⟩,
  ⟨(some 8), .mv (.t 68), none, true⟩]
@[reducible] def v35_22 : VC := (.seq (.block 3 v35_20) (.ops o35_21))
@[reducible] def v35_23 : VC := (.seq (.seq (.ops o35_14) v35_15) v35_22)
-- K35_2: changed and kept: [8]
@[reducible] def K35_2 : List Nat := [2, 3, 5, 6, 7]
@[reducible] def v35_24 : VC := (.loop v35_23)
@[reducible] def v35_25 : VC := (.block 2 v35_24)
@[reducible] def v35_26 : VC := (.seq (.ops o35_13) v35_25)
@[reducible] def v35_27 : VC := (.seq (.seq (.ops o35_9) v35_12) v35_26)
@[reducible] def v35_28 : VC := (.seq (.drw t35_8) v35_27)
@[reducible] def o35_29 : List Ins := [⟨(some 36), .mv (.t 5), none, true⟩,
  ⟨(some 37), .bin .add (.t 36) (.k (.c (.int .i64 1))), none, true⟩,
  ⟨(some 5), .mv (.t 37), none, true⟩]
@[reducible] def v35_30 : VC := (.seq (.block 1 v35_28) (.ops o35_29))
@[reducible] def v35_31 : VC := (.seq (.seq (.ops o35_6) v35_7) v35_30)
-- K35_1: changed and kept: [5]
@[reducible] def K35_1 : List Nat := [2, 3]
@[reducible] def v35_32 : VC := (.loop v35_31)
@[reducible] def v35_33 : VC := (.block 0 v35_32)
@[reducible] def o35_34 : List Ins := [⟨(some 4), .mv (.k (.c (.bool true))), none, true⟩]
@[reducible] def v35_35 : VC := (.seq (.ops o35_34) .ret)
@[reducible] def v35_36 : VC := (.seq (.seq (.ops o35_5) v35_33) v35_35)
@[reducible] def v35_37 : VC := (.seq (.seq (.ops o35_1) v35_4) v35_36)
def ir35 : FC := ⟨2, 80, [.t 4], (.seq (.ops o35_0) v35_37)⟩
theorem c35 : compM Try.prog [200039,200042,200044,200047] 35 = some ir35 := by kernel_rfl



set_option maxHeartbeats 8000000 in
theorem copy24 (r : Royal) (hnear : Near r) : FSpec Try.prog 24 [r.av] r.av := by
  have hn1 := hnear.s
  have hn2 := hnear.n
  have hmax : maxLen = 9223372036854775807 := rfl
  refine FSpec_of c24 (Nat.le_refl _) (by decide) fun C hP hN hC hL => ?_
  simp only [ir24, Royal.av]
  (repeat ((first | refine WV_seq_ ?_ | refine WV_block ?_ | refine WV_ops ?_ | refine WV_skip ?_ | refine WV_exit ?_); (try simp only [go_sem, init_env', Nat.reduceEqDiff, Nat.reduceAdd, Nat.reduceMul, reduceIte, Nat.reduceLeDiff, Nat.reduceLT, Nat.reduceBEq, reduceCtorEq, hP, ints, ints_one, List.nil_append]); (repeat (refine And.intro (by first | omega | (intros; simp_all; done) | (intros; simp_all; omega)) ?_))))
  refine WV_nilbox 3 1 37 44 2 (by decide) (by decide) (by decide) rfl rfl rfl ?_
  simp only [go_sem, init_env', Nat.reduceEqDiff, Nat.reduceAdd, Nat.reduceMul, reduceIte, Nat.reduceLeDiff, Nat.reduceLT, Nat.reduceBEq, reduceCtorEq]
  refine WV_loopK K24_1 [2, 3, 6, 9, 37, 27, 34, 36] (fun k : Nat => k ≤ r.sides.length) (fun k => r.sides.length - k) (fun k => [(4, iv k)])
    (fun k => [(9, .grow 3 1 (r.owed.map fun n => [.int .i64 n])), (37, .grow 44 2 ((r.sides.take k).map Side.cds)), (3, .box [iv r.pool, .gr 37, .gr 9]), (2, .box [iv 0, .c (.raw (.slice none 0 0)), .c (.raw (.slice none 0 0))])]) 0 (Nat.zero_le _) ?_ ?_
  · (refine Sub_of (by simp only [go_sem, init_env', Nat.reduceEqDiff, Nat.reduceAdd, Nat.reduceMul, reduceIte, Nat.reduceLeDiff, Nat.reduceLT, Nat.reduceBEq, reduceCtorEq]; ((repeat' (first | exact EnvLe_e0 _ _ | refine EnvLe_upd ?_ ?_)) <;> ((try simp only [upd_app, e0_app, o0_app, Nat.reduceEqDiff, reduceIte]); first | exact AWk.refl _ _ | exact AWk.int (by omega) | exact AWk.int (by rw [w64 (by omega) (by omega)]; omega) | exact AWk.grow rfl | exact AWk.nil _ | exact AWk.of (by simp)))) (by simp only [go_sem, init_env', Nat.reduceEqDiff, Nat.reduceAdd, Nat.reduceMul, reduceIte, Nat.reduceLeDiff, Nat.reduceLT, Nat.reduceBEq, reduceCtorEq]; ((repeat' (first | exact ObjLe_o0 _ | exact ObjLe.rfl' _ | refine ObjLe_same ?_ | refine ObjLe_upd ?_ ?_ | refine ObjLe_new rfl ?_)) <;> rfl)))
  · intro k hk
    have htl : (r.sides.take k).length = k := by rw [List.length_take]; omega
    simp only [go_sem, init_env', Nat.reduceEqDiff, Nat.reduceAdd, Nat.reduceMul, reduceIte, Nat.reduceLeDiff, Nat.reduceLT, Nat.reduceBEq, reduceCtorEq]
    (repeat ((first | refine WV_seq_ ?_ | refine WV_block ?_ | refine WV_ops ?_ | refine WV_skip ?_ | refine WV_exit ?_); (try simp only [go_sem, init_env', Nat.reduceEqDiff, Nat.reduceAdd, Nat.reduceMul, reduceIte, Nat.reduceLeDiff, Nat.reduceLT, Nat.reduceBEq, reduceCtorEq, hP, sidesC]); (repeat (refine And.intro (by first | omega | (intros; simp_all; done) | (intros; simp_all; omega)) ?_))))
    (refine WV_cond rfl (fun h => ?_) (fun h => ?_))
    · have hkl : k < r.sides.length := by simpa using h
      have hI : (k : Int) < (r.sides.length : Int) := by omega
      have hm := List.getElem_mem hkl
      have hp := hnear.p _ hm
      have hw2 := w64 (n := (k : Int) + 1) (by omega) (by omega)
      (repeat ((first | refine WV_seq_ ?_ | refine WV_block ?_ | refine WV_ops ?_ | refine WV_skip ?_ | refine WV_exit ?_); (try simp only [go_sem, init_env', Nat.reduceEqDiff, Nat.reduceAdd, Nat.reduceMul, reduceIte, Nat.reduceLeDiff, Nat.reduceLT, Nat.reduceBEq, reduceCtorEq, hP, sidesC, partsC, map_getD hkl, hI, Int.natCast_nonneg, Side.cds, parts_two, htl, List.nil_append, List.length_cons, List.length_nil, hw2]); (repeat (refine And.intro (by first | omega | (intros; simp_all; done) | (intros; simp_all; omega)) ?_))))
      refine ⟨k + 1, by omega, by omega, ?_⟩
      rw [List.take_succ_eq_append_getElem hkl, List.map_append]
      (refine Sub_of (by simp only [go_sem, init_env', Nat.reduceEqDiff, Nat.reduceAdd, Nat.reduceMul, reduceIte, Nat.reduceLeDiff, Nat.reduceLT, Nat.reduceBEq, reduceCtorEq]; ((repeat' (first | exact EnvLe_e0 _ _ | refine EnvLe_upd ?_ ?_)) <;> ((try simp only [upd_app, e0_app, o0_app, Nat.reduceEqDiff, reduceIte]); first | exact AWk.refl _ _ | exact AWk.int (by omega) | exact AWk.int (by rw [w64 (by omega) (by omega)]; omega) | exact AWk.grow rfl | exact AWk.nil _ | exact AWk.of (by simp [Side.cds, partsC])))) (by simp only [go_sem, init_env', Nat.reduceEqDiff, Nat.reduceAdd, Nat.reduceMul, reduceIte, Nat.reduceLeDiff, Nat.reduceLT, Nat.reduceBEq, reduceCtorEq]; ((repeat' (first | exact ObjLe_o0 _ | exact ObjLe.rfl' _ | refine ObjLe_same ?_ | refine ObjLe_upd ?_ ?_ | refine ObjLe_new rfl ?_)) <;> rfl)))
    · have h : k = r.sides.length := by simp at h; omega
      subst h
      rw [List.take_length]
      (repeat ((first | refine WV_seq_ ?_ | refine WV_block ?_ | refine WV_ops ?_ | refine WV_skip ?_ | refine WV_exit ?_); (try simp only [go_sem, init_env', Nat.reduceEqDiff, Nat.reduceAdd, Nat.reduceMul, reduceIte, Nat.reduceLeDiff, Nat.reduceLT, Nat.reduceBEq, reduceCtorEq, hP, ]); (repeat (refine And.intro (by first | omega | (intros; simp_all; done) | (intros; simp_all; omega)) ?_))))
      (refine WV_ret ?_; simp only [thenQ, inQ, RetQ, RetOk, resAll, resA]; simp only [go_sem, init_env', Nat.reduceEqDiff, Nat.reduceAdd, Nat.reduceMul, reduceIte, Nat.reduceLeDiff, Nat.reduceLT, Nat.reduceBEq, reduceCtorEq, tupA, AV.port, AV.portL, exists_eq_left', ]; (first | exact AVle.of rfl | refine AVle.of ?_ | skip))

set_option maxRecDepth 20000 in
set_option maxHeartbeats 8000000 in
theorem same35 (r : Royal) (hnear : Near r) : FSpec Try.prog 35 [r.av, r.av] (.c (.bool true)) := by
  have hn1 := hnear.s
  have hn2 := hnear.n
  refine FSpec_of c35 (Nat.le_refl _) (by decide) fun C hP hN hC hL => ?_
  simp only [ir35, Royal.av]
  (repeat ((first | refine WV_seq_ ?_ | refine WV_block ?_ | refine WV_ops ?_ | refine WV_skip ?_ | refine WV_exit ?_); (try simp only [go_sem, init_env', Nat.reduceEqDiff, Nat.reduceAdd, Nat.reduceMul, reduceIte, Nat.reduceLeDiff, Nat.reduceLT, Nat.reduceBEq, reduceCtorEq, hP, sidesC, List.length_map, bne_self_eq_false]); (repeat (refine And.intro (by first | omega | (intros; simp_all; done) | (intros; simp_all; omega)) ?_))))
  (refine AG_pure (fun hG => same34 r.owed r.owed) rfl (fun hG => by simp only [go_sem, init_env', Nat.reduceEqDiff, Nat.reduceAdd, Nat.reduceMul, reduceIte, Nat.reduceLeDiff, Nat.reduceLT, Nat.reduceBEq, reduceCtorEq, hG]) rfl rfl rfl ?_; simp only [go_sem, init_env', Nat.reduceEqDiff, Nat.reduceAdd, Nat.reduceMul, reduceIte, Nat.reduceLeDiff, Nat.reduceLT, Nat.reduceBEq, reduceCtorEq, hP, decide_true]; (repeat (refine And.intro (by first | omega | (intros; simp_all; done) | (intros; simp_all; omega)) ?_)); (repeat ((first | refine WV_seq_ ?_ | refine WV_block ?_ | refine WV_ops ?_ | refine WV_skip ?_ | refine WV_exit ?_); (try simp only [go_sem, init_env', Nat.reduceEqDiff, Nat.reduceAdd, Nat.reduceMul, reduceIte, Nat.reduceLeDiff, Nat.reduceLT, Nat.reduceBEq, reduceCtorEq, hP, decide_true]); (repeat (refine And.intro (by first | omega | (intros; simp_all; done) | (intros; simp_all; omega)) ?_)))))
  (refine WV_cond rfl (fun h => ?_) (fun h => ?_))
  · simp at h
  clear h
  (repeat ((first | refine WV_seq_ ?_ | refine WV_block ?_ | refine WV_ops ?_ | refine WV_skip ?_ | refine WV_exit ?_); (try simp only [go_sem, init_env', Nat.reduceEqDiff, Nat.reduceAdd, Nat.reduceMul, reduceIte, Nat.reduceLeDiff, Nat.reduceLT, Nat.reduceBEq, reduceCtorEq, hP, ]); (repeat (refine And.intro (by first | omega | (intros; simp_all; done) | (intros; simp_all; omega)) ?_))))
  refine WV_freeze 2 (ds := [.int .i64 r.pool, sidesC r.sides, ints r.owed]) rfl rfl ?_
  simp only [go_sem, init_env', Nat.reduceEqDiff, Nat.reduceAdd, Nat.reduceMul, reduceIte, Nat.reduceLeDiff, Nat.reduceLT, Nat.reduceBEq, reduceCtorEq]
  refine WV_freeze 3 (ds := [.int .i64 r.pool, sidesC r.sides, ints r.owed]) rfl rfl ?_
  simp only [go_sem, init_env', Nat.reduceEqDiff, Nat.reduceAdd, Nat.reduceMul, reduceIte, Nat.reduceLeDiff, Nat.reduceLT, Nat.reduceBEq, reduceCtorEq]
  refine WV_loopK K35_1 [6, 7] (fun k : Nat => k ≤ r.sides.length) (fun k => r.sides.length - k) (fun k => [(5, iv k)]) (fun _ => []) 0 (Nat.zero_le _) ?_ ?_
  · (refine Sub_of (by simp only [go_sem, init_env', Nat.reduceEqDiff, Nat.reduceAdd, Nat.reduceMul, reduceIte, Nat.reduceLeDiff, Nat.reduceLT, Nat.reduceBEq, reduceCtorEq]; ((repeat' (first | exact EnvLe_e0 _ _ | refine EnvLe_upd ?_ ?_)) <;> ((try simp only [upd_app, e0_app, o0_app, Nat.reduceEqDiff, reduceIte]); first | exact AWk.refl _ _ | exact AWk.int (by omega) | exact AWk.int (by rw [w64 (by omega) (by omega)]; omega) | exact AWk.grow rfl | exact AWk.nil _ | exact AWk.of (by simp)))) (by simp only [go_sem, init_env', Nat.reduceEqDiff, Nat.reduceAdd, Nat.reduceMul, reduceIte, Nat.reduceLeDiff, Nat.reduceLT, Nat.reduceBEq, reduceCtorEq]; ((repeat' (first | exact ObjLe_o0 _ | exact ObjLe.rfl' _ | refine ObjLe_same ?_ | refine ObjLe_upd ?_ ?_ | refine ObjLe_new rfl ?_)) <;> rfl)))
  · intro k hk
    simp only [go_sem, init_env', Nat.reduceEqDiff, Nat.reduceAdd, Nat.reduceMul, reduceIte, Nat.reduceLeDiff, Nat.reduceLT, Nat.reduceBEq, reduceCtorEq]
    (repeat ((first | refine WV_seq_ ?_ | refine WV_block ?_ | refine WV_ops ?_ | refine WV_skip ?_ | refine WV_exit ?_); (try simp only [go_sem, init_env', Nat.reduceEqDiff, Nat.reduceAdd, Nat.reduceMul, reduceIte, Nat.reduceLeDiff, Nat.reduceLT, Nat.reduceBEq, reduceCtorEq, hP, sidesC]); (repeat (refine And.intro (by first | omega | (intros; simp_all; done) | (intros; simp_all; omega)) ?_))))
    (refine WV_cond rfl (fun h => ?_) (fun h => ?_))
    · have hkl : k < r.sides.length := by simpa using h
      have hI : (k : Int) < (r.sides.length : Int) := by omega
      have hp := hnear.p _ (List.getElem_mem hkl)
      have hw2 := w64 (n := (k : Int) + 1) (by omega) (by omega)
      have egd : (r.sides.map Side.cds).getD k [] = [.int .i64 r.sides[k].plays, .sl 2 (r.sides[k].parts.map Part.cds)] := map_getD hkl
      generalize r.sides[k].parts = Ps at *
      generalize r.sides[k].plays = Pl at *
      (repeat ((first | refine WV_seq_ ?_ | refine WV_block ?_ | refine WV_ops ?_ | refine WV_skip ?_ | refine WV_exit ?_); (try simp only [go_sem, init_env', Nat.reduceEqDiff, Nat.reduceAdd, Nat.reduceMul, reduceIte, Nat.reduceLeDiff, Nat.reduceLT, Nat.reduceBEq, reduceCtorEq, hP, ]); (repeat (refine And.intro (by first | omega | (intros; simp_all; done) | (intros; simp_all; omega)) ?_))))
      (refine WV_drw ?_; simp only [go_sem, init_env', Nat.reduceEqDiff, Nat.reduceAdd, Nat.reduceMul, reduceIte, Nat.reduceLeDiff, Nat.reduceLT, Nat.reduceBEq, reduceCtorEq, hP, sidesC, hI, egd, Int.natCast_nonneg]; (repeat' (refine And.intro ?_ ?_)))
      all_goals first
        | omega
        | (intros; simp_all; done)
        | ((repeat ((first | refine WV_seq_ ?_ | refine WV_block ?_ | refine WV_ops ?_ | refine WV_skip ?_ | refine WV_exit ?_); (try simp only [go_sem, init_env', Nat.reduceEqDiff, Nat.reduceAdd, Nat.reduceMul, reduceIte, Nat.reduceLeDiff, Nat.reduceLT, Nat.reduceBEq, reduceCtorEq, hP, bne_self_eq_false]); (repeat (refine And.intro (by first | omega | (intros; simp_all; done) | (intros; simp_all; omega)) ?_))))
           (refine WV_cond rfl (fun h => ?_) (fun h => ?_))
           · simp at h
           clear h
           (repeat ((first | refine WV_seq_ ?_ | refine WV_block ?_ | refine WV_ops ?_ | refine WV_skip ?_ | refine WV_exit ?_); (try simp only [go_sem, init_env', Nat.reduceEqDiff, Nat.reduceAdd, Nat.reduceMul, reduceIte, Nat.reduceLeDiff, Nat.reduceLT, Nat.reduceBEq, reduceCtorEq, hP, ]); (repeat (refine And.intro (by first | omega | (intros; simp_all; done) | (intros; simp_all; omega)) ?_))))
           refine WV_loopK K35_2 [] (fun j : Nat => j ≤ Ps.length) (fun j => Ps.length - j) (fun j => [(8, iv j)]) (fun _ => []) 0 (Nat.zero_le _) ?_ ?_
           · (refine Sub_of (by simp only [go_sem, init_env', Nat.reduceEqDiff, Nat.reduceAdd, Nat.reduceMul, reduceIte, Nat.reduceLeDiff, Nat.reduceLT, Nat.reduceBEq, reduceCtorEq]; ((repeat' (first | exact EnvLe_e0 _ _ | refine EnvLe_upd ?_ ?_)) <;> ((try simp only [upd_app, e0_app, o0_app, Nat.reduceEqDiff, reduceIte]); first | exact AWk.refl _ _ | exact AWk.int (by omega) | exact AWk.int (by rw [w64 (by omega) (by omega)]; omega) | exact AWk.grow rfl | exact AWk.nil _ | exact AWk.of (by simp)))) (by simp only [go_sem, init_env', Nat.reduceEqDiff, Nat.reduceAdd, Nat.reduceMul, reduceIte, Nat.reduceLeDiff, Nat.reduceLT, Nat.reduceBEq, reduceCtorEq]; ((repeat' (first | exact ObjLe_o0 _ | exact ObjLe.rfl' _ | refine ObjLe_same ?_ | refine ObjLe_upd ?_ ?_ | refine ObjLe_new rfl ?_)) <;> rfl)))
           · intro j hj
             simp only [go_sem, init_env', Nat.reduceEqDiff, Nat.reduceAdd, Nat.reduceMul, reduceIte, Nat.reduceLeDiff, Nat.reduceLT, Nat.reduceBEq, reduceCtorEq]
             (repeat ((first | refine WV_seq_ ?_ | refine WV_block ?_ | refine WV_ops ?_ | refine WV_skip ?_ | refine WV_exit ?_); (try simp only [go_sem, init_env', Nat.reduceEqDiff, Nat.reduceAdd, Nat.reduceMul, reduceIte, Nat.reduceLeDiff, Nat.reduceLT, Nat.reduceBEq, reduceCtorEq, hP, ]); (repeat (refine And.intro (by first | omega | (intros; simp_all; done) | (intros; simp_all; omega)) ?_))))
             (refine WV_cond rfl (fun h => ?_) (fun h => ?_))
             · have hjl : j < Ps.length := by simpa using h
               have hJ : (j : Int) < (Ps.length : Int) := by omega
               have hw3 := w64 (n := (j : Int) + 1) (by omega) (by omega)
               (repeat ((first | refine WV_seq_ ?_ | refine WV_block ?_ | refine WV_ops ?_ | refine WV_skip ?_ | refine WV_exit ?_); (try simp only [go_sem, init_env', Nat.reduceEqDiff, Nat.reduceAdd, Nat.reduceMul, reduceIte, Nat.reduceLeDiff, Nat.reduceLT, Nat.reduceBEq, reduceCtorEq, hP, map_getD hjl, hJ, Int.natCast_nonneg, Part.cds, seqGo, beq_self_eq_true]); (repeat (refine And.intro (by first | omega | (intros; simp_all; done) | (intros; simp_all; omega)) ?_))))
               (refine WV_cond rfl (fun h => ?_) (fun h => ?_))
               · simp at h
               · (repeat ((first | refine WV_seq_ ?_ | refine WV_block ?_ | refine WV_ops ?_ | refine WV_skip ?_ | refine WV_exit ?_); (try simp only [go_sem, init_env', Nat.reduceEqDiff, Nat.reduceAdd, Nat.reduceMul, reduceIte, Nat.reduceLeDiff, Nat.reduceLT, Nat.reduceBEq, reduceCtorEq, hP, hw3]); (repeat (refine And.intro (by first | omega | (intros; simp_all; done) | (intros; simp_all; omega)) ?_))))
                 refine ⟨j + 1, by omega, by omega, ?_⟩
                 (refine Sub_of (by simp only [go_sem, init_env', Nat.reduceEqDiff, Nat.reduceAdd, Nat.reduceMul, reduceIte, Nat.reduceLeDiff, Nat.reduceLT, Nat.reduceBEq, reduceCtorEq]; ((repeat' (first | exact EnvLe_e0 _ _ | refine EnvLe_upd ?_ ?_)) <;> ((try simp only [upd_app, e0_app, o0_app, Nat.reduceEqDiff, reduceIte]); first | exact AWk.refl _ _ | exact AWk.int (by omega) | exact AWk.int (by rw [w64 (by omega) (by omega)]; omega) | exact AWk.grow rfl | exact AWk.nil _ | exact AWk.of (by simp)))) (by simp only [go_sem, init_env', Nat.reduceEqDiff, Nat.reduceAdd, Nat.reduceMul, reduceIte, Nat.reduceLeDiff, Nat.reduceLT, Nat.reduceBEq, reduceCtorEq]; ((repeat' (first | exact ObjLe_o0 _ | exact ObjLe.rfl' _ | refine ObjLe_same ?_ | refine ObjLe_upd ?_ ?_ | refine ObjLe_new rfl ?_)) <;> rfl)))
             · have h : j = Ps.length := by simp at h; omega
               subst h
               (repeat ((first | refine WV_seq_ ?_ | refine WV_block ?_ | refine WV_ops ?_ | refine WV_skip ?_ | refine WV_exit ?_); (try simp only [go_sem, init_env', Nat.reduceEqDiff, Nat.reduceAdd, Nat.reduceMul, reduceIte, Nat.reduceLeDiff, Nat.reduceLT, Nat.reduceBEq, reduceCtorEq, hP, hw2]); (repeat (refine And.intro (by first | omega | (intros; simp_all; done) | (intros; simp_all; omega)) ?_))))
               refine ⟨k + 1, by omega, by omega, ?_⟩
               (refine Sub_of (by simp only [go_sem, init_env', Nat.reduceEqDiff, Nat.reduceAdd, Nat.reduceMul, reduceIte, Nat.reduceLeDiff, Nat.reduceLT, Nat.reduceBEq, reduceCtorEq]; ((repeat' (first | exact EnvLe_e0 _ _ | refine EnvLe_upd ?_ ?_)) <;> ((try simp only [upd_app, e0_app, o0_app, Nat.reduceEqDiff, reduceIte]); first | exact AWk.refl _ _ | exact AWk.int (by omega) | exact AWk.int (by rw [w64 (by omega) (by omega)]; omega) | exact AWk.grow rfl | exact AWk.nil _ | exact AWk.of (by simp)))) (by simp only [go_sem, init_env', Nat.reduceEqDiff, Nat.reduceAdd, Nat.reduceMul, reduceIte, Nat.reduceLeDiff, Nat.reduceLT, Nat.reduceBEq, reduceCtorEq]; ((repeat' (first | exact ObjLe_o0 _ | exact ObjLe.rfl' _ | refine ObjLe_same ?_ | refine ObjLe_upd ?_ ?_ | refine ObjLe_new rfl ?_)) <;> rfl))))
    · (repeat ((first | refine WV_seq_ ?_ | refine WV_block ?_ | refine WV_ops ?_ | refine WV_skip ?_ | refine WV_exit ?_); (try simp only [go_sem, init_env', Nat.reduceEqDiff, Nat.reduceAdd, Nat.reduceMul, reduceIte, Nat.reduceLeDiff, Nat.reduceLT, Nat.reduceBEq, reduceCtorEq, hP, ]); (repeat (refine And.intro (by first | omega | (intros; simp_all; done) | (intros; simp_all; omega)) ?_))))
      (refine WV_ret ?_; simp only [thenQ, inQ, RetQ, RetOk, resAll, resA]; simp only [go_sem, init_env', Nat.reduceEqDiff, Nat.reduceAdd, Nat.reduceMul, reduceIte, Nat.reduceLeDiff, Nat.reduceLT, Nat.reduceBEq, reduceCtorEq, tupA, AV.port, AV.portL, exists_eq_left', ]; (first | exact AVle.of rfl | refine AVle.of ?_ | skip))
end Go.Proofs.Ytnmchaemhjnkgaa

namespace Go.Proofs.Ytnmchaemhjnkgaa
open Go Go.V
@[reducible] def o7_0 : List Ins := [⟨(some 2), .box 3 (.t 0), none, true⟩,
  ⟨(some 4), .mv (.k (.c (.bool false))), none, true⟩]
@[reducible] def o7_1 : List Ins := [⟨(some 16), .ld false 3 (.t 2), none, true⟩,
  ⟨(some 17), .call (.k (.fn 29 [])) [(.t 16)], none, true⟩]
@[reducible] def o7_2 : List Ins := [⟨(some 18), .call (.k (.fn 14 [])) [], none, true⟩,
  ⟨(some 4), .mv (.t 18), none, true⟩]
@[reducible] def v7_3 : VC := (.seq (.ops o7_2) .ret)
@[reducible] def v7_4 : VC := (.cond (.t 17) v7_3 .skip)
@[reducible] def o7_5 : List Ins := [⟨(some 19), .ld false 3 (.t 2), none, true⟩,
  ⟨(some 20), .call (.k (.fn 24 [])) [(.t 19)], none, true⟩,
  ⟨(some 5), .alloc [(.c (.int .i64 0)), (.c (.raw (.slice none 0 0))), (.c (.raw (.slice none 0 0)))], none, true⟩,
  ⟨none, .st 3 (.t 5) (.t 20), none, true⟩]
@[reducible] def o7_6 : List Ins := [⟨(some 21), .ld false 3 (.t 5), none, false⟩,
  ⟨(some 22), .call (.k (.fn 30 [])) [(.t 21)], none, false⟩,
  ⟨(some 23), .ld false 3 (.t 2), none, false⟩,
  ⟨(some 24), .call (.k (.fn 31 [])) [(.t 23)], none, true⟩,
  ⟨(some 25), .bin .neq (.t 22) (.t 24), none, true⟩]
@[reducible] def o7_7 : List Ins := [⟨(some 4), .mv (.k (.c (.bool false))), none, true⟩]
@[reducible] def v7_8 : VC := (.seq (.ops o7_7) .ret)
@[reducible] def v7_9 : VC := (.cond (.t 25) v7_8 .skip)
@[reducible] def o7_10 : List Ins := [⟨(some 27), .ld false 3 (.t 5), none, true⟩,
  ⟨(some 28), .mv (.t 1), none, true⟩,
  ⟨(some 29), .call (.k (.fn 22 [])) [(.t 27), (.t 28)], none, true⟩,
  ⟨(some 26), .mv (.t 29), none, true⟩,
  ⟨(some 30), .ext (.t 26) 0, none, true⟩,
  ⟨(some 31), .ext (.t 26) 1, none, true⟩,
  ⟨(some 32), .ext (.t 26) 2, none, true⟩,
  ⟨(some 6), .mv (.t 30), none, true⟩,
  ⟨(some 7), .mv (.t 31), none, true⟩,
  ⟨(some 8), .mv (.t 32), none, true⟩]
@[reducible] def o7_11 : List Ins := [⟨(some 34), .ld false 3 (.t 2), none, true⟩,
  ⟨(some 35), .mv (.t 1), none, true⟩,
  ⟨(some 36), .call (.k (.fn 32 [])) [(.t 34), (.t 35)], none, true⟩,
  ⟨(some 33), .mv (.t 36), none, true⟩,
  ⟨(some 37), .ext (.t 33) 0, none, true⟩,
  ⟨(some 38), .ext (.t 33) 1, none, true⟩,
  ⟨(some 39), .ext (.t 33) 2, none, true⟩,
  ⟨(some 9), .mv (.t 37), none, true⟩,
  ⟨(some 10), .mv (.t 38), none, true⟩,
  ⟨(some 11), .mv (.t 39), none, true⟩]
@[reducible] def o7_12 : List Ins := [⟨(some 41), .ld false 3 (.t 5), none, true⟩,
  ⟨(some 42), .call (.k (.fn 15 [])) [(.t 41)], none, true⟩,
  ⟨(some 40), .mv (.t 42), none, true⟩,
  ⟨(some 43), .ext (.t 40) 0, none, true⟩,
  ⟨(some 44), .ext (.t 40) 1, none, true⟩,
  ⟨(some 12), .mv (.t 43), none, true⟩,
  ⟨(some 13), .mv (.t 44), none, true⟩]
@[reducible] def o7_13 : List Ins := [⟨(some 46), .ld false 3 (.t 2), none, true⟩,
  ⟨(some 47), .call (.k (.fn 33 [])) [(.t 46)], none, true⟩,
  ⟨(some 45), .mv (.t 47), none, true⟩,
  ⟨(some 48), .ext (.t 45) 0, none, true⟩,
  ⟨(some 49), .ext (.t 45) 1, none, true⟩,
  ⟨(some 14), .mv (.t 48), none, true⟩,
  ⟨(some 15), .mv (.t 49), none, true⟩]
@[reducible] def o7_14 : List Ins := [⟨(some 50), .mv (.t 6), none, true⟩,
  ⟨(some 51), .mv (.t 9), none, true⟩,
  ⟨(some 52), .bin .eql (.t 50) (.t 51), none, true⟩,
  ⟨(some 53), .mv (.t 52), none, true⟩,
  ⟨(some 54), .mv (.t 7), (some (53, true)), true⟩,
  ⟨(some 55), .mv (.t 10), (some (53, true)), true⟩,
  ⟨(some 56), .bin .eql (.t 54) (.t 55), (some (53, true)), true⟩,
  ⟨(some 57), .pick (.t 53) (.t 56) (.k (.c (.bool false))), none, true⟩,
  ⟨(some 58), .mv (.t 57), none, true⟩,
  ⟨(some 59), .mv (.t 8), (some (58, true)), true⟩,
  ⟨(some 60), .mv (.t 11), (some (58, true)), true⟩,
  ⟨(some 61), .bin .eql (.t 59) (.t 60), (some (58, true)), true⟩,
  ⟨(some 62), .pick (.t 58) (.t 61) (.k (.c (.bool false))), none, true⟩,
  ⟨(some 63), .mv (.t 62), none, true⟩,
  ⟨(some 64), .mv (.t 12), (some (63, true)), true⟩,
  ⟨(some 65), .mv (.t 14), (some (63, true)), true⟩,
  ⟨(some 66), .call (.k (.fn 34 [])) [(.t 64), (.t 65)], (some (63, true)), true⟩,
  ⟨(some 67), .pick (.t 63) (.t 66) (.k (.c (.bool false))), none, true⟩,
  ⟨(some 68), .mv (.t 67), none, true⟩,
  ⟨(some 69), .mv (.t 13), (some (68, true)), true⟩,
  ⟨(some 70), .mv (.t 15), (some (68, true)), true⟩,
  ⟨(some 71), .bin .eql (.t 69) (.t 70), (some (68, true)), true⟩,
  ⟨(some 72), .pick (.t 68) (.t 71) (.k (.c (.bool false))), none, true⟩,
  ⟨(some 73), .mv (.t 72), none, true⟩,
  ⟨(some 74), .ld false 3 (.t 5), (some (73, true)), true⟩,
  ⟨(some 75), .ld false 3 (.t 2), (some (73, true)), true⟩,
  ⟨(some 76), .call (.k (.fn 35 [])) [(.t 74), (.t 75)], (some (73, true)), true⟩,
  ⟨(some 77), .pick (.t 73) (.t 76) (.k (.c (.bool false))), none, true⟩,
  ⟨(some 78), .mv (.t 77), none, true⟩,
  ⟨(some 79), .call (.k (.fn 14 [])) [], (some (78, true)), true⟩,
  ⟨(some 80), .pick (.t 78) (.t 79) (.k (.c (.bool false))), none, true⟩,
  ⟨(some 4), .mv (.t 80), none, true⟩]
@[reducible] def v7_15 : VC := (.seq (.ops o7_14) .ret)
@[reducible] def v7_16 : VC := (.seq (.ops o7_13) v7_15)
@[reducible] def v7_17 : VC := (.seq (.ops o7_12) v7_16)
@[reducible] def v7_18 : VC := (.seq (.ops o7_11) v7_17)
@[reducible] def v7_19 : VC := (.seq (.ops o7_10) v7_18)
@[reducible] def v7_20 : VC := (.seq (.seq (.ops o7_6) v7_9) v7_19)
@[reducible] def v7_21 : VC := (.seq (.ops o7_5) v7_20)
@[reducible] def v7_22 : VC := (.seq (.seq (.ops o7_1) v7_4) v7_21)
def ir7 : FC := ⟨2, 81, [.t 4], (.seq (.ops o7_0) v7_22)⟩
@[reducible] def o8_0 : List Ins := [⟨(some 3), .box 3 (.t 0), none, true⟩,
  ⟨(some 6), .mv (.k (.c (.bool false))), none, true⟩]
@[reducible] def o8_1 : List Ins := [⟨(some 16), .ld false 3 (.t 3), none, true⟩,
  ⟨(some 17), .call (.k (.fn 29 [])) [(.t 16)], none, true⟩,
  ⟨(some 18), .mv (.t 17), none, true⟩,
  ⟨(some 19), .fa 0 (.t 3), (some (18, false)), true⟩,
  ⟨(some 20), .ld true 1 (.t 19), (some (18, false)), true⟩,
  ⟨(some 21), .bin .gtr (.t 20) (.k (.c (.int .i64 1000))), (some (18, false)), true⟩,
  ⟨(some 22), .mv (.t 21), (some (18, false)), true⟩,
  ⟨(some 23), .ld false 3 (.t 3), (some (22, true)), true⟩,
  ⟨(some 24), .call (.k (.fn 31 [])) [(.t 23)], (some (22, true)), true⟩,
  ⟨(some 25), .bin .eql (.t 24) (.k (.c (.int .i64 0))), (some (22, true)), true⟩,
  ⟨(some 26), .pick (.t 22) (.t 25) (.k (.c (.bool false))), (some (18, false)), true⟩,
  ⟨(some 27), .pick (.t 18) (.k (.c (.bool true))) (.t 26), none, true⟩]
@[reducible] def o8_2 : List Ins := [⟨(some 28), .call (.k (.fn 14 [])) [], none, true⟩,
  ⟨(some 6), .mv (.t 28), none, true⟩]
@[reducible] def v8_3 : VC := (.seq (.ops o8_2) .ret)
@[reducible] def v8_4 : VC := (.cond (.t 27) v8_3 .skip)
@[reducible] def o8_5 : List Ins := [⟨(some 29), .ld false 3 (.t 3), none, true⟩,
  ⟨(some 30), .call (.k (.fn 24 [])) [(.t 29)], none, true⟩,
  ⟨(some 7), .alloc [(.c (.int .i64 0)), (.c (.raw (.slice none 0 0))), (.c (.raw (.slice none 0 0)))], none, true⟩,
  ⟨none, .st 3 (.t 7) (.t 30), none, true⟩]
@[reducible] def o8_6 : List Ins := [⟨(some 32), .ld false 3 (.t 7), none, true⟩,
  ⟨(some 33), .mv (.t 1), none, true⟩,
  ⟨(some 34), .mv (.t 2), none, true⟩,
  ⟨(some 35), .call (.k (.fn 26 [])) [(.t 32), (.t 33), (.t 34)], none, true⟩,
  ⟨(some 31), .mv (.t 35), none, true⟩,
  ⟨(some 36), .ext (.t 31) 0, none, true⟩,
  ⟨(some 37), .ext (.t 31) 1, none, true⟩,
  ⟨(some 8), .mv (.t 36), none, true⟩,
  ⟨(some 9), .mv (.t 37), none, true⟩]
@[reducible] def o8_7 : List Ins := [⟨(some 39), .ld false 3 (.t 3), none, true⟩,
  ⟨(some 40), .mv (.t 1), none, true⟩,
  ⟨(some 41), .mv (.t 2), none, true⟩,
  ⟨(some 42), .call (.k (.fn 36 [])) [(.t 39), (.t 40), (.t 41)], none, true⟩,
  ⟨(some 38), .mv (.t 42), none, true⟩,
  ⟨(some 43), .ext (.t 38) 0, none, true⟩,
  ⟨(some 44), .ext (.t 38) 1, none, true⟩,
  ⟨(some 10), .mv (.t 43), none, true⟩,
  ⟨(some 11), .mv (.t 44), none, true⟩]
@[reducible] def o8_8 : List Ins := [⟨(some 46), .ld false 3 (.t 7), none, true⟩,
  ⟨(some 47), .mv (.t 1), none, true⟩,
  ⟨(some 48), .call (.k (.fn 27 [])) [(.t 46), (.t 47)], none, true⟩,
  ⟨(some 45), .mv (.t 48), none, true⟩,
  ⟨(some 49), .ext (.t 45) 0, none, true⟩,
  ⟨(some 50), .ext (.t 45) 1, none, true⟩,
  ⟨(some 12), .mv (.t 49), none, true⟩,
  ⟨(some 13), .mv (.t 50), none, true⟩]
@[reducible] def o8_9 : List Ins := [⟨(some 52), .ld false 3 (.t 3), none, true⟩,
  ⟨(some 53), .mv (.t 1), none, true⟩,
  ⟨(some 54), .call (.k (.fn 37 [])) [(.t 52), (.t 53)], none, true⟩,
  ⟨(some 51), .mv (.t 54), none, true⟩,
  ⟨(some 55), .ext (.t 51) 0, none, true⟩,
  ⟨(some 56), .ext (.t 51) 1, none, true⟩,
  ⟨(some 14), .mv (.t 55), none, true⟩,
  ⟨(some 15), .mv (.t 56), none, true⟩]
@[reducible] def o8_10 : List Ins := [⟨(some 57), .mv (.t 8), none, true⟩,
  ⟨(some 58), .mv (.t 10), none, true⟩,
  ⟨(some 59), .bin .eql (.t 57) (.t 58), none, true⟩,
  ⟨(some 60), .mv (.t 59), none, true⟩,
  ⟨(some 61), .mv (.t 9), (some (60, true)), true⟩,
  ⟨(some 62), .mv (.t 11), (some (60, true)), true⟩,
  ⟨(some 63), .bin .eql (.t 61) (.t 62), (some (60, true)), true⟩,
  ⟨(some 64), .pick (.t 60) (.t 63) (.k (.c (.bool false))), none, true⟩,
  ⟨(some 65), .mv (.t 64), none, true⟩,
  ⟨(some 66), .mv (.t 12), (some (65, true)), true⟩,
  ⟨(some 67), .mv (.t 14), (some (65, true)), true⟩,
  ⟨(some 68), .bin .eql (.t 66) (.t 67), (some (65, true)), true⟩,
  ⟨(some 69), .pick (.t 65) (.t 68) (.k (.c (.bool false))), none, true⟩,
  ⟨(some 70), .mv (.t 69), none, true⟩,
  ⟨(some 71), .mv (.t 13), (some (70, true)), true⟩,
  ⟨(some 72), .mv (.t 15), (some (70, true)), true⟩,
  ⟨(some 73), .bin .eql (.t 71) (.t 72), (some (70, true)), true⟩,
  ⟨(some 74), .pick (.t 70) (.t 73) (.k (.c (.bool false))), none, true⟩,
  ⟨(some 75), .mv (.t 74), none, true⟩,
  ⟨(some 76), .ld false 3 (.t 7), (some (75, true)), true⟩,
  ⟨(some 77), .ld false 3 (.t 3), (some (75, true)), true⟩,
  ⟨(some 78), .call (.k (.fn 35 [])) [(.t 76), (.t 77)], (some (75, true)), true⟩,
  ⟨(some 79), .pick (.t 75) (.t 78) (.k (.c (.bool false))), none, true⟩,
  ⟨(some 80), .mv (.t 79), none, true⟩,
  ⟨(some 81), .call (.k (.fn 14 [])) [], (some (80, true)), true⟩,
  ⟨(some 82), .pick (.t 80) (.t 81) (.k (.c (.bool false))), none, true⟩,
  ⟨(some 6), .mv (.t 82), none, true⟩]
@[reducible] def v8_11 : VC := (.seq (.ops o8_10) .ret)
@[reducible] def v8_12 : VC := (.seq (.ops o8_9) v8_11)
@[reducible] def v8_13 : VC := (.seq (.ops o8_8) v8_12)
@[reducible] def v8_14 : VC := (.seq (.ops o8_7) v8_13)
@[reducible] def v8_15 : VC := (.seq (.ops o8_6) v8_14)
@[reducible] def v8_16 : VC := (.seq (.ops o8_5) v8_15)
@[reducible] def v8_17 : VC := (.seq (.seq (.ops o8_1) v8_4) v8_16)
def ir8 : FC := ⟨3, 83, [.t 6], (.seq (.ops o8_0) v8_17)⟩
theorem c7 : compM Try.prog [] 7 = some ir7 := by kernel_rfl
theorem c8 : compM Try.prog [] 8 = some ir8 := by kernel_rfl
set_option maxRecDepth 20000 in
set_option maxHeartbeats 8000000 in
theorem law8 (r : Royal) (who c : Int) : FSpec Try.prog 8 [r.av, iv who, iv c] (.c (.bool true)) := by
  refine FSpec_of c8 (Nat.le_refl _) (by decide) fun C hP hN hC hL => ?_
  simp only [ir8, Royal.av]
  (repeat ((first | refine WV_seq_ ?_ | refine WV_block ?_ | refine WV_ops ?_ | refine WV_skip ?_ | refine WV_exit ?_); (try simp only [go_sem, init_env', Nat.reduceEqDiff, Nat.reduceAdd, Nat.reduceMul, reduceIte, Nat.reduceLeDiff, Nat.reduceLT, Nat.reduceBEq, reduceCtorEq, hP, ]); (repeat (refine And.intro (by first | omega | (intros; simp_all; done) | (intros; simp_all; omega)) ?_))))
  (refine AS_pure (far29 r) rfl rfl rfl rfl rfl ?_; simp only [go_sem, init_env', Nat.reduceEqDiff, Nat.reduceAdd, Nat.reduceMul, reduceIte, Nat.reduceLeDiff, Nat.reduceLT, Nat.reduceBEq, reduceCtorEq, hP, Royal.av]; (repeat (refine And.intro (by first | omega | (intros; simp_all; done) | (intros; simp_all; omega)) ?_)); (repeat ((first | refine WV_seq_ ?_ | refine WV_block ?_ | refine WV_ops ?_ | refine WV_skip ?_ | refine WV_exit ?_); (try simp only [go_sem, init_env', Nat.reduceEqDiff, Nat.reduceAdd, Nat.reduceMul, reduceIte, Nat.reduceLeDiff, Nat.reduceLT, Nat.reduceBEq, reduceCtorEq, hP, Royal.av]); (repeat (refine And.intro (by first | omega | (intros; simp_all; done) | (intros; simp_all; omega)) ?_)))))
  cases hf : farB r
  rotate_left
  · (repeat ((first | refine WV_seq_ ?_ | refine WV_block ?_ | refine WV_ops ?_ | refine WV_skip ?_ | refine WV_exit ?_); (try simp only [go_sem, init_env', Nat.reduceEqDiff, Nat.reduceAdd, Nat.reduceMul, reduceIte, Nat.reduceLeDiff, Nat.reduceLT, Nat.reduceBEq, reduceCtorEq, hP, ]); (repeat (refine And.intro (by first | omega | (intros; simp_all; done) | (intros; simp_all; omega)) ?_))))
    (refine AG_pure (fun hG => rcheck31 r) rfl (fun hG => by first | (simp only [go_sem, init_env', Nat.reduceEqDiff, Nat.reduceAdd, Nat.reduceMul, reduceIte, Nat.reduceLeDiff, Nat.reduceLT, Nat.reduceBEq, reduceCtorEq, hG]; done) | (simp only [go_sem, init_env', Nat.reduceEqDiff, Nat.reduceAdd, Nat.reduceMul, reduceIte, Nat.reduceLeDiff, Nat.reduceLT, Nat.reduceBEq, reduceCtorEq]; revert hG; simp; done) | (simp only [go_sem, init_env', Nat.reduceEqDiff, Nat.reduceAdd, Nat.reduceMul, reduceIte, Nat.reduceLeDiff, Nat.reduceLT, Nat.reduceBEq, reduceCtorEq, hG]; simp_all; done) | (revert hG; simp; done) | simp_all) rfl rfl rfl ?_; simp only [go_sem, init_env', Nat.reduceEqDiff, Nat.reduceAdd, Nat.reduceMul, reduceIte, Nat.reduceLeDiff, Nat.reduceLT, Nat.reduceBEq, reduceCtorEq, hP, Royal.av]; (repeat (refine And.intro (by first | omega | (intros; simp_all; done) | (intros; simp_all; omega)) ?_)); (repeat ((first | refine WV_seq_ ?_ | refine WV_block ?_ | refine WV_ops ?_ | refine WV_skip ?_ | refine WV_exit ?_); (try simp only [go_sem, init_env', Nat.reduceEqDiff, Nat.reduceAdd, Nat.reduceMul, reduceIte, Nat.reduceLeDiff, Nat.reduceLT, Nat.reduceBEq, reduceCtorEq, hP, Royal.av]); (repeat (refine And.intro (by first | omega | (intros; simp_all; done) | (intros; simp_all; omega)) ?_)))))
    (refine WV_cond rfl (fun h => ?_) (fun h => ?_))
    · (repeat ((first | refine WV_seq_ ?_ | refine WV_block ?_ | refine WV_ops ?_ | refine WV_skip ?_ | refine WV_exit ?_); (try simp only [go_sem, init_env', Nat.reduceEqDiff, Nat.reduceAdd, Nat.reduceMul, reduceIte, Nat.reduceLeDiff, Nat.reduceLT, Nat.reduceBEq, reduceCtorEq, hP, ]); (repeat (refine And.intro (by first | omega | (intros; simp_all; done) | (intros; simp_all; omega)) ?_))))
      (refine AS_pure (works14) rfl rfl rfl rfl rfl ?_; simp only [go_sem, init_env', Nat.reduceEqDiff, Nat.reduceAdd, Nat.reduceMul, reduceIte, Nat.reduceLeDiff, Nat.reduceLT, Nat.reduceBEq, reduceCtorEq, hP, ]; (repeat (refine And.intro (by first | omega | (intros; simp_all; done) | (intros; simp_all; omega)) ?_)); (repeat ((first | refine WV_seq_ ?_ | refine WV_block ?_ | refine WV_ops ?_ | refine WV_skip ?_ | refine WV_exit ?_); (try simp only [go_sem, init_env', Nat.reduceEqDiff, Nat.reduceAdd, Nat.reduceMul, reduceIte, Nat.reduceLeDiff, Nat.reduceLT, Nat.reduceBEq, reduceCtorEq, hP, ]); (repeat (refine And.intro (by first | omega | (intros; simp_all; done) | (intros; simp_all; omega)) ?_)))))
      (refine WV_ret ?_; simp only [thenQ, inQ, RetQ, RetOk, resAll, resA]; simp only [go_sem, init_env', Nat.reduceEqDiff, Nat.reduceAdd, Nat.reduceMul, reduceIte, Nat.reduceLeDiff, Nat.reduceLT, Nat.reduceBEq, reduceCtorEq, tupA, AV.port, AV.portL, exists_eq_left', ]; (first | exact AVle.of rfl | refine AVle.of ?_ | skip))
    · simp at h
  have hnear := near_of hf
  (repeat ((first | refine WV_seq_ ?_ | refine WV_block ?_ | refine WV_ops ?_ | refine WV_skip ?_ | refine WV_exit ?_); (try simp only [go_sem, init_env', Nat.reduceEqDiff, Nat.reduceAdd, Nat.reduceMul, reduceIte, Nat.reduceLeDiff, Nat.reduceLT, Nat.reduceBEq, reduceCtorEq, hP, ]); (repeat (refine And.intro (by first | omega | (intros; simp_all; done) | (intros; simp_all; omega)) ?_))))
  (refine AG_pure (fun hG => rcheck31 r) rfl (fun hG => by first | (simp only [go_sem, init_env', Nat.reduceEqDiff, Nat.reduceAdd, Nat.reduceMul, reduceIte, Nat.reduceLeDiff, Nat.reduceLT, Nat.reduceBEq, reduceCtorEq, hG]; done) | (simp only [go_sem, init_env', Nat.reduceEqDiff, Nat.reduceAdd, Nat.reduceMul, reduceIte, Nat.reduceLeDiff, Nat.reduceLT, Nat.reduceBEq, reduceCtorEq]; revert hG; simp; done) | (simp only [go_sem, init_env', Nat.reduceEqDiff, Nat.reduceAdd, Nat.reduceMul, reduceIte, Nat.reduceLeDiff, Nat.reduceLT, Nat.reduceBEq, reduceCtorEq, hG]; simp_all; done) | (revert hG; simp; done) | simp_all) rfl rfl rfl ?_; simp only [go_sem, init_env', Nat.reduceEqDiff, Nat.reduceAdd, Nat.reduceMul, reduceIte, Nat.reduceLeDiff, Nat.reduceLT, Nat.reduceBEq, reduceCtorEq, hP, Royal.av]; (repeat (refine And.intro (by first | omega | (intros; simp_all; done) | (intros; simp_all; omega)) ?_)); (repeat ((first | refine WV_seq_ ?_ | refine WV_block ?_ | refine WV_ops ?_ | refine WV_skip ?_ | refine WV_exit ?_); (try simp only [go_sem, init_env', Nat.reduceEqDiff, Nat.reduceAdd, Nat.reduceMul, reduceIte, Nat.reduceLeDiff, Nat.reduceLT, Nat.reduceBEq, reduceCtorEq, hP, Royal.av]); (repeat (refine And.intro (by first | omega | (intros; simp_all; done) | (intros; simp_all; omega)) ?_)))))
  (refine WV_cond rfl (fun h => ?_) (fun h => ?_))
  · (repeat ((first | refine WV_seq_ ?_ | refine WV_block ?_ | refine WV_ops ?_ | refine WV_skip ?_ | refine WV_exit ?_); (try simp only [go_sem, init_env', Nat.reduceEqDiff, Nat.reduceAdd, Nat.reduceMul, reduceIte, Nat.reduceLeDiff, Nat.reduceLT, Nat.reduceBEq, reduceCtorEq, hP, ]); (repeat (refine And.intro (by first | omega | (intros; simp_all; done) | (intros; simp_all; omega)) ?_))))
    (refine AS_pure (works14) rfl rfl rfl rfl rfl ?_; simp only [go_sem, init_env', Nat.reduceEqDiff, Nat.reduceAdd, Nat.reduceMul, reduceIte, Nat.reduceLeDiff, Nat.reduceLT, Nat.reduceBEq, reduceCtorEq, hP, ]; (repeat (refine And.intro (by first | omega | (intros; simp_all; done) | (intros; simp_all; omega)) ?_)); (repeat ((first | refine WV_seq_ ?_ | refine WV_block ?_ | refine WV_ops ?_ | refine WV_skip ?_ | refine WV_exit ?_); (try simp only [go_sem, init_env', Nat.reduceEqDiff, Nat.reduceAdd, Nat.reduceMul, reduceIte, Nat.reduceLeDiff, Nat.reduceLT, Nat.reduceBEq, reduceCtorEq, hP, ]); (repeat (refine And.intro (by first | omega | (intros; simp_all; done) | (intros; simp_all; omega)) ?_)))))
    (refine WV_ret ?_; simp only [thenQ, inQ, RetQ, RetOk, resAll, resA]; simp only [go_sem, init_env', Nat.reduceEqDiff, Nat.reduceAdd, Nat.reduceMul, reduceIte, Nat.reduceLeDiff, Nat.reduceLT, Nat.reduceBEq, reduceCtorEq, tupA, AV.port, AV.portL, exists_eq_left', ]; (first | exact AVle.of rfl | refine AVle.of ?_ | skip))
  clear h
  (repeat ((first | refine WV_seq_ ?_ | refine WV_block ?_ | refine WV_ops ?_ | refine WV_skip ?_ | refine WV_exit ?_); (try simp only [go_sem, init_env', Nat.reduceEqDiff, Nat.reduceAdd, Nat.reduceMul, reduceIte, Nat.reduceLeDiff, Nat.reduceLT, Nat.reduceBEq, reduceCtorEq, hP, ]); (repeat (refine And.intro (by first | omega | (intros; simp_all; done) | (intros; simp_all; omega)) ?_))))
  (refine AS_pure (copy24 r hnear) rfl rfl rfl rfl rfl ?_; simp only [go_sem, init_env', Nat.reduceEqDiff, Nat.reduceAdd, Nat.reduceMul, reduceIte, Nat.reduceLeDiff, Nat.reduceLT, Nat.reduceBEq, reduceCtorEq, hP, Royal.av]; (repeat (refine And.intro (by first | omega | (intros; simp_all; done) | (intros; simp_all; omega)) ?_)); (repeat ((first | refine WV_seq_ ?_ | refine WV_block ?_ | refine WV_ops ?_ | refine WV_skip ?_ | refine WV_exit ?_); (try simp only [go_sem, init_env', Nat.reduceEqDiff, Nat.reduceAdd, Nat.reduceMul, reduceIte, Nat.reduceLeDiff, Nat.reduceLT, Nat.reduceBEq, reduceCtorEq, hP, Royal.av]); (repeat (refine And.intro (by first | omega | (intros; simp_all; done) | (intros; simp_all; omega)) ?_)))))
  (refine AS_pure (least26 r who c) rfl rfl rfl rfl rfl ?_; simp only [go_sem, init_env', Nat.reduceEqDiff, Nat.reduceAdd, Nat.reduceMul, reduceIte, Nat.reduceLeDiff, Nat.reduceLT, Nat.reduceBEq, reduceCtorEq, hP, Royal.av]; (repeat (refine And.intro (by first | omega | (intros; simp_all; done) | (intros; simp_all; omega)) ?_)); (repeat ((first | refine WV_seq_ ?_ | refine WV_block ?_ | refine WV_ops ?_ | refine WV_skip ?_ | refine WV_exit ?_); (try simp only [go_sem, init_env', Nat.reduceEqDiff, Nat.reduceAdd, Nat.reduceMul, reduceIte, Nat.reduceLeDiff, Nat.reduceLT, Nat.reduceBEq, reduceCtorEq, hP, Royal.av]); (repeat (refine And.intro (by first | omega | (intros; simp_all; done) | (intros; simp_all; omega)) ?_)))))
  (refine AS_pure (rleast36 r who c) rfl rfl rfl rfl rfl ?_; simp only [go_sem, init_env', Nat.reduceEqDiff, Nat.reduceAdd, Nat.reduceMul, reduceIte, Nat.reduceLeDiff, Nat.reduceLT, Nat.reduceBEq, reduceCtorEq, hP, Royal.av]; (repeat (refine And.intro (by first | omega | (intros; simp_all; done) | (intros; simp_all; omega)) ?_)); (repeat ((first | refine WV_seq_ ?_ | refine WV_block ?_ | refine WV_ops ?_ | refine WV_skip ?_ | refine WV_exit ?_); (try simp only [go_sem, init_env', Nat.reduceEqDiff, Nat.reduceAdd, Nat.reduceMul, reduceIte, Nat.reduceLeDiff, Nat.reduceLT, Nat.reduceBEq, reduceCtorEq, hP, Royal.av]); (repeat (refine And.intro (by first | omega | (intros; simp_all; done) | (intros; simp_all; omega)) ?_)))))
  (refine AS_pure (odd27 r who) rfl rfl rfl rfl rfl ?_; simp only [go_sem, init_env', Nat.reduceEqDiff, Nat.reduceAdd, Nat.reduceMul, reduceIte, Nat.reduceLeDiff, Nat.reduceLT, Nat.reduceBEq, reduceCtorEq, hP, Royal.av]; (repeat (refine And.intro (by first | omega | (intros; simp_all; done) | (intros; simp_all; omega)) ?_)); (repeat ((first | refine WV_seq_ ?_ | refine WV_block ?_ | refine WV_ops ?_ | refine WV_skip ?_ | refine WV_exit ?_); (try simp only [go_sem, init_env', Nat.reduceEqDiff, Nat.reduceAdd, Nat.reduceMul, reduceIte, Nat.reduceLeDiff, Nat.reduceLT, Nat.reduceBEq, reduceCtorEq, hP, Royal.av]); (repeat (refine And.intro (by first | omega | (intros; simp_all; done) | (intros; simp_all; omega)) ?_)))))
  (refine AS_pure (rodd37 r who) rfl rfl rfl rfl rfl ?_; simp only [go_sem, init_env', Nat.reduceEqDiff, Nat.reduceAdd, Nat.reduceMul, reduceIte, Nat.reduceLeDiff, Nat.reduceLT, Nat.reduceBEq, reduceCtorEq, hP, Royal.av, beq_self_eq_true]; (repeat (refine And.intro (by first | omega | (intros; simp_all; done) | (intros; simp_all; omega)) ?_)); (repeat ((first | refine WV_seq_ ?_ | refine WV_block ?_ | refine WV_ops ?_ | refine WV_skip ?_ | refine WV_exit ?_); (try simp only [go_sem, init_env', Nat.reduceEqDiff, Nat.reduceAdd, Nat.reduceMul, reduceIte, Nat.reduceLeDiff, Nat.reduceLT, Nat.reduceBEq, reduceCtorEq, hP, Royal.av, beq_self_eq_true]); (repeat (refine And.intro (by first | omega | (intros; simp_all; done) | (intros; simp_all; omega)) ?_)))))
  (refine AG_pure (fun hG => same35 r hnear) rfl (fun hG => by first | (simp only [go_sem, init_env', Nat.reduceEqDiff, Nat.reduceAdd, Nat.reduceMul, reduceIte, Nat.reduceLeDiff, Nat.reduceLT, Nat.reduceBEq, reduceCtorEq, hG]; done) | (simp only [go_sem, init_env', Nat.reduceEqDiff, Nat.reduceAdd, Nat.reduceMul, reduceIte, Nat.reduceLeDiff, Nat.reduceLT, Nat.reduceBEq, reduceCtorEq]; revert hG; simp; done) | (simp only [go_sem, init_env', Nat.reduceEqDiff, Nat.reduceAdd, Nat.reduceMul, reduceIte, Nat.reduceLeDiff, Nat.reduceLT, Nat.reduceBEq, reduceCtorEq, hG]; simp_all; done) | (revert hG; simp; done) | simp_all) rfl rfl rfl ?_; simp only [go_sem, init_env', Nat.reduceEqDiff, Nat.reduceAdd, Nat.reduceMul, reduceIte, Nat.reduceLeDiff, Nat.reduceLT, Nat.reduceBEq, reduceCtorEq, hP, Royal.av]; (repeat (refine And.intro (by first | omega | (intros; simp_all; done) | (intros; simp_all; omega)) ?_)); (repeat ((first | refine WV_seq_ ?_ | refine WV_block ?_ | refine WV_ops ?_ | refine WV_skip ?_ | refine WV_exit ?_); (try simp only [go_sem, init_env', Nat.reduceEqDiff, Nat.reduceAdd, Nat.reduceMul, reduceIte, Nat.reduceLeDiff, Nat.reduceLT, Nat.reduceBEq, reduceCtorEq, hP, Royal.av]); (repeat (refine And.intro (by first | omega | (intros; simp_all; done) | (intros; simp_all; omega)) ?_)))))
  (refine AG_pure (fun hG => works14) rfl (fun hG => by first | (simp only [go_sem, init_env', Nat.reduceEqDiff, Nat.reduceAdd, Nat.reduceMul, reduceIte, Nat.reduceLeDiff, Nat.reduceLT, Nat.reduceBEq, reduceCtorEq, hG]; done) | (simp only [go_sem, init_env', Nat.reduceEqDiff, Nat.reduceAdd, Nat.reduceMul, reduceIte, Nat.reduceLeDiff, Nat.reduceLT, Nat.reduceBEq, reduceCtorEq]; revert hG; simp; done) | (simp only [go_sem, init_env', Nat.reduceEqDiff, Nat.reduceAdd, Nat.reduceMul, reduceIte, Nat.reduceLeDiff, Nat.reduceLT, Nat.reduceBEq, reduceCtorEq, hG]; simp_all; done) | (revert hG; simp; done) | simp_all) rfl rfl rfl ?_; simp only [go_sem, init_env', Nat.reduceEqDiff, Nat.reduceAdd, Nat.reduceMul, reduceIte, Nat.reduceLeDiff, Nat.reduceLT, Nat.reduceBEq, reduceCtorEq, hP, ]; (repeat (refine And.intro (by first | omega | (intros; simp_all; done) | (intros; simp_all; omega)) ?_)); (repeat ((first | refine WV_seq_ ?_ | refine WV_block ?_ | refine WV_ops ?_ | refine WV_skip ?_ | refine WV_exit ?_); (try simp only [go_sem, init_env', Nat.reduceEqDiff, Nat.reduceAdd, Nat.reduceMul, reduceIte, Nat.reduceLeDiff, Nat.reduceLT, Nat.reduceBEq, reduceCtorEq, hP, ]); (repeat (refine And.intro (by first | omega | (intros; simp_all; done) | (intros; simp_all; omega)) ?_)))))
  (refine WV_ret ?_; simp only [thenQ, inQ, RetQ, RetOk, resAll, resA]; simp only [go_sem, init_env', Nat.reduceEqDiff, Nat.reduceAdd, Nat.reduceMul, reduceIte, Nat.reduceLeDiff, Nat.reduceLT, Nat.reduceBEq, reduceCtorEq, tupA, AV.port, AV.portL, exists_eq_left', ]; (first | exact AVle.of rfl | refine AVle.of ?_ | skip))
end Go.Proofs.Ytnmchaemhjnkgaa
