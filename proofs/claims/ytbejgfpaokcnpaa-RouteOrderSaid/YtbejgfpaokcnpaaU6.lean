/-
  Contracts of the layer's functions, of the laws' helpers and of the law; conditions: as each theorem states.
-/
import Derived.Test.YtbejgfpaokcnpaaU5
import Derived.Test.YtbejgfpaokcnpaaU4
set_option linter.unusedVariables false
set_option linter.unusedSimpArgs false
namespace Go.Proofs.Ytbejgfpaokcnpaa
open Go Go.V
@[reducible] def o13_0 : List Ins := [⟨(some 1), .box 3 (.t 0), none, true⟩,
  ⟨(some 2), .mv (.k (.c (.bool false))), none, true⟩]
@[reducible] def o13_1 : List Ins := [⟨(some 3), .ld false 3 (.t 1), none, true⟩,
  ⟨(some 4), .call (.k (.fn 19 [])) [(.t 3)], none, true⟩,
  ⟨(some 5), .un .not (.t 4), none, true⟩,
  ⟨(some 6), .mv (.t 5), none, true⟩,
  ⟨(some 7), .ld false 3 (.t 1), (some (6, true)), true⟩,
  ⟨(some 8), .call (.k (.fn 27 [])) [(.t 7)], (some (6, true)), true⟩,
  ⟨(some 9), .bin .eql (.t 8) (.k (.c (.int .i64 0))), (some (6, true)), true⟩,
  ⟨(some 10), .pick (.t 6) (.t 9) (.k (.c (.bool false))), none, true⟩,
  ⟨(some 2), .mv (.t 10), none, true⟩]
@[reducible] def v13_2 : VC := (.seq (.ops o13_1) .ret)
def ir13 : FC := ⟨1, 11, [.t 2], (.seq (.ops o13_0) v13_2)⟩
@[reducible] def o3_0 : List Ins := [⟨(some 2), .box 3 (.t 0), none, true⟩,
  ⟨(some 4), .mv (.k (.c (.bool false))), none, true⟩]
@[reducible] def o3_1 : List Ins := [⟨(some 10), .ld false 3 (.t 2), none, true⟩,
  ⟨(some 11), .call (.k (.fn 13 [])) [(.t 10)], none, true⟩,
  ⟨(some 12), .un .not (.t 11), none, true⟩,
  ⟨(some 13), .mv (.t 12), none, true⟩,
  ⟨(some 14), .mv (.t 1), (some (13, false)), true⟩,
  ⟨(some 15), .bin .lss (.t 14) (.k (.c (.int .i64 0))), (some (13, false)), true⟩,
  ⟨(some 16), .pick (.t 13) (.k (.c (.bool true))) (.t 15), none, true⟩,
  ⟨(some 17), .mv (.t 16), none, true⟩,
  ⟨(some 18), .mv (.t 1), (some (17, false)), true⟩,
  ⟨(some 19), .bin .gtr (.t 18) (.k (.c (.int .i64 1440))), (some (17, false)), true⟩,
  ⟨(some 20), .pick (.t 17) (.k (.c (.bool true))) (.t 19), none, true⟩]
@[reducible] def o3_2 : List Ins := [⟨(some 21), .call (.k (.fn 14 [])) [], none, true⟩,
  ⟨(some 4), .mv (.t 21), none, true⟩]
@[reducible] def v3_3 : VC := (.seq (.ops o3_2) .ret)
@[reducible] def v3_4 : VC := (.cond (.t 20) v3_3 .skip)
@[reducible] def o3_5 : List Ins := [⟨(some 23), .ld false 3 (.t 2), none, true⟩,
  ⟨(some 24), .call (.k (.fn 15 [])) [(.t 23)], none, true⟩,
  ⟨(some 22), .mv (.t 24), none, true⟩,
  ⟨(some 25), .ext (.t 22) 0, none, true⟩,
  ⟨(some 26), .ext (.t 22) 1, none, true⟩,
  ⟨(some 5), .mv (.t 25), none, true⟩,
  ⟨(some 6), .mv (.t 26), none, true⟩]
@[reducible] def o3_6 : List Ins := [⟨(some 27), .mv (.t 6), none, true⟩,
  ⟨(some 28), .call (.k (.fn 16 [])) [(.t 27)], none, true⟩,
  ⟨(some 29), .un .not (.t 28), none, true⟩,
  ⟨(some 30), .mv (.t 29), none, true⟩,
  ⟨(some 31), .mv (.t 6), (some (30, false)), true⟩,
  ⟨(some 32), .bin .eql (.t 31) (.k (.c (.int .i64 0))), (some (30, false)), true⟩,
  ⟨(some 33), .mv (.t 32), (some (30, false)), true⟩,
  ⟨(some 34), .mv (.t 5), (some (33, true)), true⟩,
  ⟨(some 35), .bin .lss (.t 34) (.k (.c (.int .i64 0))), (some (33, true)), true⟩,
  ⟨(some 36), .mv (.t 35), (some (33, true)), true⟩,
  ⟨(some 37), .mv (.t 5), (some (36, false)), true⟩,
  ⟨(some 38), .bin .gtr (.t 37) (.k (.c (.int .i64 1440))), (some (36, false)), true⟩,
  ⟨(some 39), .pick (.t 36) (.k (.c (.bool true))) (.t 38), (some (33, true)), true⟩,
  ⟨(some 40), .pick (.t 33) (.t 39) (.k (.c (.bool false))), (some (30, false)), true⟩,
  ⟨(some 41), .pick (.t 30) (.k (.c (.bool true))) (.t 40), none, true⟩]
@[reducible] def o3_7 : List Ins := [⟨(some 4), .mv (.k (.c (.bool false))), none, true⟩]
@[reducible] def v3_8 : VC := (.seq (.ops o3_7) .ret)
@[reducible] def v3_9 : VC := (.cond (.t 41) v3_8 .skip)
@[reducible] def o3_10 : List Ins := [⟨(some 42), .ld false 3 (.t 2), none, true⟩,
  ⟨(some 43), .call (.k (.fn 17 [])) [(.t 42)], none, true⟩,
  ⟨(some 7), .alloc [(.c (.raw (.slice none 0 0))), (.c (.raw (.slice none 0 0))), (.c (.int .i64 0))], none, true⟩,
  ⟨none, .st 3 (.t 7) (.t 43), none, true⟩]
@[reducible] def o3_11 : List Ins := [⟨(some 44), .mv (.t 1), none, true⟩,
  ⟨(some 45), .fa 2 (.t 7), none, true⟩,
  ⟨none, .st 1 (.t 45) (.t 44), none, true⟩]
@[reducible] def o3_12 : List Ins := [⟨(some 47), .ld false 3 (.t 7), none, true⟩,
  ⟨(some 48), .call (.k (.fn 18 [])) [(.t 47)], none, true⟩,
  ⟨(some 46), .mv (.t 48), none, true⟩,
  ⟨(some 49), .ext (.t 46) 0, none, true⟩,
  ⟨(some 50), .ext (.t 46) 1, none, true⟩,
  ⟨(some 8), .mv (.t 49), none, true⟩,
  ⟨(some 9), .mv (.t 50), none, true⟩]
@[reducible] def o3_13 : List Ins := [⟨(some 51), .mv (.t 9), none, true⟩,
  ⟨(some 52), .call (.k (.fn 16 [])) [(.t 51)], none, true⟩,
  ⟨(some 53), .un .not (.t 52), none, true⟩,
  ⟨(some 54), .mv (.t 53), none, true⟩,
  ⟨(some 55), .mv (.t 9), (some (54, false)), true⟩,
  ⟨(some 56), .bin .eql (.t 55) (.k (.c (.int .i64 0))), (some (54, false)), true⟩,
  ⟨(some 57), .mv (.t 6), (some (54, false)), true⟩,
  ⟨(some 58), .bin .eql (.t 57) (.k (.c (.int .i64 0))), (some (54, false)), true⟩,
  ⟨(some 59), .mv (.t 58), (some (54, false)), true⟩,
  ⟨(some 60), .mv (.t 1), (some (59, true)), true⟩,
  ⟨(some 61), .mv (.t 5), (some (59, true)), true⟩,
  ⟨(some 62), .bin .leq (.t 60) (.t 61), (some (59, true)), true⟩,
  ⟨(some 63), .pick (.t 59) (.t 62) (.k (.c (.bool false))), (some (54, false)), true⟩,
  ⟨(some 64), .eqs true (.t 56) (.t 63), (some (54, false)), true⟩,
  ⟨(some 65), .pick (.t 54) (.k (.c (.bool true))) (.t 64), none, true⟩]
@[reducible] def o3_14 : List Ins := [⟨(some 4), .mv (.k (.c (.bool false))), none, true⟩]
@[reducible] def v3_15 : VC := (.seq (.ops o3_14) .ret)
@[reducible] def v3_16 : VC := (.cond (.t 65) v3_15 .skip)
@[reducible] def o3_17 : List Ins := [⟨(some 66), .mv (.t 6), none, true⟩,
  ⟨(some 67), .bin .neq (.t 66) (.k (.c (.int .i64 0))), none, true⟩]
@[reducible] def o3_18 : List Ins := [⟨(some 68), .call (.k (.fn 14 [])) [], none, true⟩,
  ⟨(some 4), .mv (.t 68), none, true⟩]
@[reducible] def v3_19 : VC := (.seq (.ops o3_18) .ret)
@[reducible] def v3_20 : VC := (.cond (.t 67) v3_19 .skip)
@[reducible] def o3_21 : List Ins := [⟨(some 69), .mv (.t 5), none, true⟩,
  ⟨(some 70), .fa 2 (.t 7), none, true⟩,
  ⟨none, .st 1 (.t 70) (.t 69), none, true⟩]
@[reducible] def o3_22 : List Ins := [⟨(some 72), .ld false 3 (.t 7), none, true⟩,
  ⟨(some 73), .call (.k (.fn 18 [])) [(.t 72)], none, true⟩,
  ⟨(some 71), .mv (.t 73), none, true⟩,
  ⟨(some 74), .ext (.t 71) 0, none, true⟩,
  ⟨(some 75), .ext (.t 71) 1, none, true⟩,
  ⟨(some 9), .mv (.t 75), none, true⟩]
@[reducible] def o3_23 : List Ins := [⟨(some 76), .mv (.t 9), none, true⟩,
  ⟨(some 77), .bin .neq (.t 76) (.k (.c (.int .i64 0))), none, true⟩,
  ⟨(some 78), .mv (.t 77), none, true⟩,
  ⟨(some 79), .mv (.t 5), (some (78, false)), true⟩,
  ⟨(some 80), .bin .eql (.t 79) (.k (.c (.int .i64 1440))), (some (78, false)), true⟩,
  ⟨(some 81), .pick (.t 78) (.k (.c (.bool true))) (.t 80), none, true⟩]
@[reducible] def o3_24 : List Ins := [⟨(some 82), .mv (.t 9), none, true⟩,
  ⟨(some 83), .bin .eql (.t 82) (.k (.c (.int .i64 0))), none, true⟩,
  ⟨(some 84), .mv (.t 83), none, true⟩,
  ⟨(some 85), .call (.k (.fn 14 [])) [], (some (84, true)), true⟩,
  ⟨(some 86), .pick (.t 84) (.t 85) (.k (.c (.bool false))), none, true⟩,
  ⟨(some 4), .mv (.t 86), none, true⟩]
@[reducible] def v3_25 : VC := (.seq (.ops o3_24) .ret)
@[reducible] def v3_26 : VC := (.cond (.t 81) v3_25 .skip)
@[reducible] def o3_27 : List Ins := [⟨(some 87), .fa 2 (.t 7), none, true⟩,
  ⟨(some 88), .ld true 1 (.t 87), none, true⟩,
  ⟨(some 89), .bin .add (.t 88) (.k (.c (.int .i64 1))), none, true⟩,
  ⟨(some 90), .fa 2 (.t 7), none, true⟩,
  ⟨none, .st 1 (.t 90) (.t 89), none, true⟩]
@[reducible] def o3_28 : List Ins := [⟨(some 92), .ld false 3 (.t 7), none, true⟩,
  ⟨(some 93), .call (.k (.fn 18 [])) [(.t 92)], none, true⟩,
  ⟨(some 91), .mv (.t 93), none, true⟩,
  ⟨(some 94), .ext (.t 91) 0, none, true⟩,
  ⟨(some 95), .ext (.t 91) 1, none, true⟩,
  ⟨(some 9), .mv (.t 95), none, true⟩]
@[reducible] def o3_29 : List Ins := [⟨(some 96), .mv (.t 9), none, true⟩,
  ⟨(some 97), .bin .eql (.t 96) (.k (.c (.int .i64 3))), none, true⟩,
  ⟨(some 98), .mv (.t 97), none, true⟩,
  ⟨(some 99), .call (.k (.fn 14 [])) [], (some (98, true)), true⟩,
  ⟨(some 100), .pick (.t 98) (.t 99) (.k (.c (.bool false))), none, true⟩,
  ⟨(some 4), .mv (.t 100), none, true⟩]
@[reducible] def v3_30 : VC := (.seq (.ops o3_29) .ret)
@[reducible] def v3_31 : VC := (.seq (.ops o3_28) v3_30)
@[reducible] def v3_32 : VC := (.seq (.ops o3_27) v3_31)
@[reducible] def v3_33 : VC := (.seq (.seq (.ops o3_23) v3_26) v3_32)
@[reducible] def v3_34 : VC := (.seq (.ops o3_22) v3_33)
@[reducible] def v3_35 : VC := (.seq (.ops o3_21) v3_34)
@[reducible] def v3_36 : VC := (.seq (.seq (.ops o3_17) v3_20) v3_35)
@[reducible] def v3_37 : VC := (.seq (.seq (.ops o3_13) v3_16) v3_36)
@[reducible] def v3_38 : VC := (.seq (.ops o3_12) v3_37)
@[reducible] def v3_39 : VC := (.seq (.ops o3_11) v3_38)
@[reducible] def v3_40 : VC := (.seq (.ops o3_10) v3_39)
@[reducible] def v3_41 : VC := (.seq (.seq (.ops o3_6) v3_9) v3_40)
@[reducible] def v3_42 : VC := (.seq (.ops o3_5) v3_41)
@[reducible] def v3_43 : VC := (.seq (.seq (.ops o3_1) v3_4) v3_42)
def ir3 : FC := ⟨2, 101, [.t 4], (.seq (.ops o3_0) v3_43)⟩
theorem c13 : compM Try.prog [] 13 = some ir13 := by kernel_rfl
theorem c3 : compM Try.prog [] 3 = some ir3 := by kernel_rfl



def readyS (r : Route) : Bool := !farS r && r.ok
theorem readyS_of {r : Route} (h : readyS r = true) : r.ok = true ∧ near r = true := by
  unfold readyS at h
  simp only [Bool.and_eq_true, Bool.not_eq_true'] at h
  refine ⟨h.2, ?_⟩
  have hf := h.1
  unfold farS at hf
  by_cases hn : near r = true
  · exact hn
  · rw [if_neg hn] at hf; cases hf

set_option maxHeartbeats 2000000 in
theorem ready13 (r : Route) : FSpec Try.prog 13 [r.av] (.c (.bool (readyS r))) := by
  refine FSpec_of c13 (Nat.le_refl _) (by decide) fun C hP hN hC hL => ?_
  simp only [ir13, Route.av]
  (repeat ((first | refine WV_seq_ ?_ | refine WV_block ?_ | refine WV_ops ?_ | refine WV_skip ?_ | refine WV_exit ?_); (try simp only [go_sem, init_env', Nat.reduceEqDiff, Nat.reduceAdd, Nat.reduceMul, reduceIte, Nat.reduceLeDiff, Nat.reduceLT, Nat.reduceBEq, reduceCtorEq, hP, ]); (repeat (refine And.intro (by first | omega | (intros; simp_all; done) | (intros; simp_all; omega)) ?_))))
  (refine AS_pure (far19 r) rfl rfl rfl rfl rfl ?_; simp only [go_sem, init_env', Nat.reduceEqDiff, Nat.reduceAdd, Nat.reduceMul, reduceIte, Nat.reduceLeDiff, Nat.reduceLT, Nat.reduceBEq, reduceCtorEq, hP, Route.av]; (repeat (refine And.intro (by first | omega | (intros; simp_all; done) | (intros; simp_all; omega)) ?_)); (repeat ((first | refine WV_seq_ ?_ | refine WV_block ?_ | refine WV_ops ?_ | refine WV_skip ?_ | refine WV_exit ?_); (try simp only [go_sem, init_env', Nat.reduceEqDiff, Nat.reduceAdd, Nat.reduceMul, reduceIte, Nat.reduceLeDiff, Nat.reduceLT, Nat.reduceBEq, reduceCtorEq, hP, Route.av]); (repeat (refine And.intro (by first | omega | (intros; simp_all; done) | (intros; simp_all; omega)) ?_)))))
  (refine AG_pure (fun hG => check_spec r) rfl (fun hG => by first | (simp only [go_sem, init_env', Nat.reduceEqDiff, Nat.reduceAdd, Nat.reduceMul, reduceIte, Nat.reduceLeDiff, Nat.reduceLT, Nat.reduceBEq, reduceCtorEq, hG]; done) | (simp only [go_sem, init_env', Nat.reduceEqDiff, Nat.reduceAdd, Nat.reduceMul, reduceIte, Nat.reduceLeDiff, Nat.reduceLT, Nat.reduceBEq, reduceCtorEq]; revert hG; simp; done) | (simp only [go_sem, init_env', Nat.reduceEqDiff, Nat.reduceAdd, Nat.reduceMul, reduceIte, Nat.reduceLeDiff, Nat.reduceLT, Nat.reduceBEq, reduceCtorEq, hG]; simp_all; done) | (revert hG; simp; done) | simp_all) rfl rfl rfl ?_; simp only [go_sem, init_env', Nat.reduceEqDiff, Nat.reduceAdd, Nat.reduceMul, reduceIte, Nat.reduceLeDiff, Nat.reduceLT, Nat.reduceBEq, reduceCtorEq, hP, Route.av]; (repeat (refine And.intro (by first | omega | (intros; simp_all; done) | (intros; simp_all; omega)) ?_)); (repeat ((first | refine WV_seq_ ?_ | refine WV_block ?_ | refine WV_ops ?_ | refine WV_skip ?_ | refine WV_exit ?_); (try simp only [go_sem, init_env', Nat.reduceEqDiff, Nat.reduceAdd, Nat.reduceMul, reduceIte, Nat.reduceLeDiff, Nat.reduceLT, Nat.reduceBEq, reduceCtorEq, hP, Route.av]); (repeat (refine And.intro (by first | omega | (intros; simp_all; done) | (intros; simp_all; omega)) ?_)))))
  by_cases hok : r.ok = true
  · simp only [hok, if_true, beq_self_eq_true]
    (try refine ⟨fun h => by simpa using h, ?_⟩)
    (repeat ((first | refine WV_seq_ ?_ | refine WV_block ?_ | refine WV_ops ?_ | refine WV_skip ?_ | refine WV_exit ?_); (try simp only [go_sem, init_env', Nat.reduceEqDiff, Nat.reduceAdd, Nat.reduceMul, reduceIte, Nat.reduceLeDiff, Nat.reduceLT, Nat.reduceBEq, reduceCtorEq, hP, ]); (repeat (refine And.intro (by first | omega | (intros; simp_all; done) | (intros; simp_all; omega)) ?_))))
    (refine WV_ret ?_; simp only [thenQ, inQ, RetQ, RetOk, resAll, resA]; simp only [go_sem, init_env', Nat.reduceEqDiff, Nat.reduceAdd, Nat.reduceMul, reduceIte, Nat.reduceLeDiff, Nat.reduceLT, Nat.reduceBEq, reduceCtorEq, tupA, AV.port, AV.portL, exists_eq_left', ]; (first | exact AVle.of rfl | refine AVle.of ?_ | skip))
    simp [readyS, hok]
  · have hok : r.ok = false := by simpa using hok
    simp only [hok, Bool.false_eq_true, if_false]
    (try refine ⟨fun h => by simpa using h, ?_⟩)
    (repeat ((first | refine WV_seq_ ?_ | refine WV_block ?_ | refine WV_ops ?_ | refine WV_skip ?_ | refine WV_exit ?_); (try simp only [go_sem, init_env', Nat.reduceEqDiff, Nat.reduceAdd, Nat.reduceMul, reduceIte, Nat.reduceLeDiff, Nat.reduceLT, Nat.reduceBEq, reduceCtorEq, hP, ]); (repeat (refine And.intro (by first | omega | (intros; simp_all; done) | (intros; simp_all; omega)) ?_))))
    (refine WV_ret ?_; simp only [thenQ, inQ, RetQ, RetOk, resAll, resA]; simp only [go_sem, init_env', Nat.reduceEqDiff, Nat.reduceAdd, Nat.reduceMul, reduceIte, Nat.reduceLeDiff, Nat.reduceLT, Nat.reduceBEq, reduceCtorEq, tupA, AV.port, AV.portL, exists_eq_left', ]; (first | exact AVle.of rfl | refine AVle.of ?_ | skip))
    simp [readyS, hok]

end Go.Proofs.Ytbejgfpaokcnpaa

namespace Go.Proofs.Ytbejgfpaokcnpaa
open Go Go.V
@[reducible] def o42_0 : List Ins := [⟨(some 1), .box 3 (.t 0), none, true⟩,
  ⟨(some 2), .mv (.k (.c (.raw (.slice none 0 0)))), none, true⟩,
  ⟨(some 3), .mv (.k (.c (.int .i64 0))), none, true⟩]
@[reducible] def o42_1 : List Ins := [⟨(some 9), .ld false 3 (.t 1), none, true⟩,
  ⟨(some 10), .call (.k (.fn 26 [])) [(.t 9)], none, true⟩,
  ⟨(some 4), .mv (.t 10), none, true⟩]
@[reducible] def o42_2 : List Ins := [⟨(some 11), .mv (.t 4), none, true⟩,
  ⟨(some 12), .bin .neq (.t 11) (.k (.c (.int .i64 0))), none, true⟩]
@[reducible] def o42_3 : List Ins := [⟨(some 13), .mv (.t 4), none, true⟩,
  ⟨(some 2), .mv (.k (.c (.raw (.slice none 0 0)))), none, true⟩,
  ⟨(some 3), .mv (.t 13), none, true⟩]
@[reducible] def v42_4 : VC := (.seq (.ops o42_3) .ret)
@[reducible] def v42_5 : VC := (.cond (.t 12) v42_4 .skip)
@[reducible] def v42_6 : VC := (.seq (.ops o42_2) v42_5)
@[reducible] def o42_7 : List Ins := [⟨(some 5), .alloc [(.c (.bool false)), (.c (.bool false)), (.c (.bool false)), (.c (.bool false)), (.c (.bool false)), (.c (.bool false)), (.c (.bool false))], none, true⟩]
@[reducible] def o42_8 : List Ins := [⟨(some 14), .call (.k (.fn 66 [])) [(.t 1)], none, true⟩]
@[reducible] def o42_9 : List Ins := [⟨(some 17), .mv (.t 6), none, true⟩,
  ⟨(some 18), .len (.t 17), none, true⟩,
  ⟨(some 19), .bin .gtr (.t 18) (.k (.c (.int .i64 0))), none, true⟩]
@[reducible] def o42_10 : List Ins := [⟨(some 20), .mv (.t 6), none, true⟩,
  ⟨(some 21), .mv (.t 6), none, true⟩,
  ⟨(some 22), .len (.t 21), none, true⟩,
  ⟨(some 23), .bin .sub (.t 22) (.k (.c (.int .i64 1))), none, true⟩,
  ⟨(some 24), .ia 1 (.t 20) (.t 23), none, true⟩,
  ⟨(some 25), .ld true 1 (.t 24), none, true⟩,
  ⟨(some 26), .iap 7 1 (.t 5) (.t 25), none, true⟩,
  ⟨none, .st 1 (.t 26) (.k (.c (.bool true))), none, true⟩]
@[reducible] def v42_11 : VC := (.cond (.t 19) (.ops o42_10) .skip)
@[reducible] def v42_12 : VC := (.seq (.ops o42_9) v42_11)
@[reducible] def v42_13 : VC := (.block 1 v42_12)
@[reducible] def o42_14 : List Ins := [⟨(some 6), .mv (.t 15), none, true⟩]
@[reducible] def K42_1 : List Nat := [1, 5, 14]
@[reducible] def v42_15 : VC := (.rng (.t 14) [15, 16] (.ops o42_14) v42_13)
@[reducible] def v42_16 : VC := (.block 0 v42_15)
@[reducible] def o42_17 : List Ins := [⟨(some 7), .mv (.k (.c (.raw (.slice none 0 0)))), none, true⟩]
@[reducible] def o42_18 : List Ins := [⟨(some 27), .fa 0 (.t 1), none, true⟩,
  ⟨(some 28), .ld true 1 (.t 27), none, true⟩,
  ⟨(some 29), .len (.t 28), none, true⟩,
  ⟨(some 30), .mv (.k (.c (.int .i64 0))), none, true⟩]
@[reducible] def o42_19 : List Ins := [⟨(some 31), .bin .lss (.t 30) (.t 29), none, true⟩]
@[reducible] def o42_20 : List Ins := [⟨(some 32), .mv (.t 30), none, true⟩,
  ⟨(some 8), .mv (.t 32), none, true⟩]
@[reducible] def o42_21 : List Ins := [⟨(some 33), .mv (.t 8), none, true⟩,
  ⟨(some 34), .iap 7 1 (.t 5) (.t 33), none, true⟩,
  ⟨(some 35), .ld true 1 (.t 34), none, true⟩,
  ⟨(some 36), .un .not (.t 35), none, true⟩]
@[reducible] def o42_22 : List Ins := [⟨(some 37), .mv (.t 7), none, true⟩,
  ⟨(some 38), .mv (.t 8), none, true⟩,
  ⟨(some 39), .bsl 3 1 [(.t 38)], none, true⟩,
  ⟨(some 40), .app 3 1 8 (.t 37) (.t 39), none, true⟩,
  ⟨(some 7), .mv (.t 40), none, true⟩]
@[reducible] def v42_23 : VC := (.cond (.t 36) (.ops o42_22) .skip)
@[reducible] def v42_24 : VC := (.seq (.ops o42_21) v42_23)
@[reducible] def v42_25 : VC := (.seq (.ops o42_20) v42_24)
@[reducible] def o42_26 : List Ins := [⟨(some 41), .bin .add (.t 30) (.k (.c (.int .i64 1))), none, true⟩,
  ⟨(some 30), .mv (.t 41), none, true⟩]
@[reducible] def v42_27 : VC := (.seq (.block 3 v42_25) (.ops o42_26))
@[reducible] def v42_28 : VC := (.seq (.cond (.t 31) .skip (.exit 2)) v42_27)
@[reducible] def v42_29 : VC := (.seq (.ops o42_19) v42_28)
-- K42_2: changed and kept: [30, 7]
@[reducible] def K42_2 : List Nat := [5, 29]
@[reducible] def v42_30 : VC := (.loop v42_29)
@[reducible] def v42_31 : VC := (.block 2 v42_30)
@[reducible] def o42_32 : List Ins := [⟨(some 42), .mv (.t 7), none, true⟩,
  ⟨(some 2), .mv (.t 42), none, true⟩,
  ⟨(some 3), .mv (.k (.c (.int .i64 0))), none, true⟩]
@[reducible] def v42_33 : VC := (.seq (.ops o42_32) .ret)
@[reducible] def v42_34 : VC := (.seq (.seq (.ops o42_18) v42_31) v42_33)
@[reducible] def v42_35 : VC := (.seq (.ops o42_17) v42_34)
@[reducible] def v42_36 : VC := (.seq (.seq (.ops o42_8) v42_16) v42_35)
@[reducible] def v42_37 : VC := (.seq (.ops o42_7) v42_36)
@[reducible] def v42_38 : VC := (.seq (.seq (.ops o42_1) v42_6) v42_37)
def ir42 : FC := ⟨1, 43, [.t 2, .t 3], (.seq (.ops o42_0) v42_38)⟩
theorem c42 : compM Try.prog [] 42 = some ir42 := by kernel_rfl



theorem seenC_pure (l : List Int) : AV.pureL (seenC l) = true := rfl
theorem seenC_solid (l : List Int) : AV.isSolidL (seenC l) = true := rfl
/-- The last stops of tours. -/
def lasts (l : List (List Nat × Van)) : List Int := l.filterMap fun p => p.1.getLast?.map fun (k : Nat) => (k : Int)
theorem lasts_snoc (l : List (List Nat × Van)) (p : List Nat × Van) : lasts (l ++ [p]) = lasts l ++ (p.1.getLast?.map fun (k : Nat) => (k : Int)).toList := by
  unfold lasts
  rw [List.filterMap_append]
  cases h : p.1.getLast? <;> simp [h]
/-- The stops up to k that are none of these. -/
def shutL (s : List Int) (k : Nat) : List Int := ((List.range k).map fun (n : Nat) => (n : Int)).filter fun n => !decide (n ∈ s)
theorem shutL_succ (s : List Int) (k : Nat) : shutL s (k + 1) = shutL s k ++ (if (k : Int) ∈ s then [] else [(k : Int)]) := by
  unfold shutL
  rw [List.range_succ, List.map_append, List.filter_append]
  by_cases h : (k : Int) ∈ s <;> simp [h]
theorem shutL_len (s : List Int) (k : Nat) : (shutL s k).length ≤ k := by
  unfold shutL
  exact Nat.le_trans (List.length_filter_le _ _) (by simp)
def shutS (r : Route) : List Int × Int := if r.ok then (shutL (lasts (goods r)) r.n, 0) else ([], 80)

set_option maxHeartbeats 4000000 in
theorem shut42 (r : Route) : FSpec Try.prog 42 [r.av] (.tup [.c (ints (shutS r).1), iv (shutS r).2]) := by
  refine FSpec_of c42 (Nat.le_refl _) (by decide) fun C hP hN hC hL => ?_
  simp only [ir42, Route.av]
  (repeat ((first | refine WV_seq_ ?_ | refine WV_block ?_ | refine WV_ops ?_ | refine WV_skip ?_ | refine WV_exit ?_); (try simp only [go_sem, init_env', Nat.reduceEqDiff, Nat.reduceAdd, Nat.reduceMul, reduceIte, Nat.reduceLeDiff, Nat.reduceLT, Nat.reduceBEq, reduceCtorEq, hP, ]); (repeat (refine And.intro (by first | omega | (intros; simp_all; done) | (intros; simp_all; omega)) ?_))))
  (refine AS_pure (rcheck_spec r) rfl rfl rfl rfl rfl ?_; simp only [go_sem, init_env', Nat.reduceEqDiff, Nat.reduceAdd, Nat.reduceMul, reduceIte, Nat.reduceLeDiff, Nat.reduceLT, Nat.reduceBEq, reduceCtorEq, hP, Route.av]; (repeat (refine And.intro (by first | omega | (intros; simp_all; done) | (intros; simp_all; omega)) ?_)); (repeat ((first | refine WV_seq_ ?_ | refine WV_block ?_ | refine WV_ops ?_ | refine WV_skip ?_ | refine WV_exit ?_); (try simp only [go_sem, init_env', Nat.reduceEqDiff, Nat.reduceAdd, Nat.reduceMul, reduceIte, Nat.reduceLeDiff, Nat.reduceLT, Nat.reduceBEq, reduceCtorEq, hP, Route.av]); (repeat (refine And.intro (by first | omega | (intros; simp_all; done) | (intros; simp_all; omega)) ?_)))))
  by_cases hok : r.ok = true
  · have hr := Route.ok_spec hok
    have hn7 := hr.n7
    simp only [hok, if_true]
    (refine WV_cond rfl (fun h => ?_) (fun h => ?_))
    · simp at h
    · clear h
      have hsl : (r.stops.length : Int) = (r.n : Int) := rfl
      refine WV_freeze 1 (ds := r.cds) rfl rfl ?_
      (repeat ((first | refine WV_seq_ ?_ | refine WV_block ?_ | refine WV_ops ?_ | refine WV_skip ?_ | refine WV_exit ?_); (try simp only [go_sem, init_env', Nat.reduceEqDiff, Nat.reduceAdd, Nat.reduceMul, reduceIte, Nat.reduceLeDiff, Nat.reduceLT, Nat.reduceBEq, reduceCtorEq, hP, ]); (repeat (refine And.intro (by first | omega | (intros; simp_all; done) | (intros; simp_all; omega)) ?_))))
      (refine AS_pure (tours66 r) rfl rfl rfl rfl rfl ?_; simp only [go_sem, init_env', Nat.reduceEqDiff, Nat.reduceAdd, Nat.reduceMul, reduceIte, Nat.reduceLeDiff, Nat.reduceLT, Nat.reduceBEq, reduceCtorEq, hP, ]; (repeat (refine And.intro (by first | omega | (intros; simp_all; done) | (intros; simp_all; omega)) ?_)); (repeat ((first | refine WV_seq_ ?_ | refine WV_block ?_ | refine WV_ops ?_ | refine WV_skip ?_ | refine WV_exit ?_); (try simp only [go_sem, init_env', Nat.reduceEqDiff, Nat.reduceAdd, Nat.reduceMul, reduceIte, Nat.reduceLeDiff, Nat.reduceLT, Nat.reduceBEq, reduceCtorEq, hP, ]); (repeat (refine And.intro (by first | omega | (intros; simp_all; done) | (intros; simp_all; omega)) ?_)))))
      refine WV_keep K42_1 ?_
      simp only [go_sem, init_env', Nat.reduceEqDiff, Nat.reduceAdd, Nat.reduceMul, reduceIte, Nat.reduceLeDiff, Nat.reduceLT, Nat.reduceBEq, reduceCtorEq]
      refine WV_rng hC (L := [5]) (l := [.box (seenC (lasts []))]) (env' := lendF [5] _ _) (rem := (goods r).map (entT r)) (Fin := fun pend lf => pend = none ∧ lf = [.box (seenC (lasts (goods r)))]) rfl rfl rfl (by decide) (by decide) ?_ (by rw [hN]; decide) (lendF_ok _ _ _) (fun g' => ?_) ?_ ?_
      · simp only [go_sem, init_env', Nat.reduceEqDiff, Nat.reduceAdd, Nat.reduceMul, reduceIte, Nat.reduceLeDiff, Nat.reduceLT, Nat.reduceBEq, reduceCtorEq, obsLend, Ob.lend, AV.lendL, AV.lend]
        rfl
      · rw [hP]; exact ⟨_, tours74 hr g', fun _ _ h => h⟩
      · refine RunR_pre (entT r) (fun pre => [.box (seenC (lasts pre))]) (goods r) (fun p => rfl) (fun t _ => ⟨rfl, rfl⟩) (fun pre p post hts => ?_) (goods r) [] rfl
        have hpo := goods_ok hr p (by rw [hts]; simp)
        have hple := goods_len hr (p := p) (by rw [hts]; simp)
        have hprg : ∀ d, AV.prgL d (cellsT p.1) = cellsT p.1 := fun d => prgL_pure d (cellsT_pure _)
        simp only [lasts_snoc]
        intro C1 h1 h2 h3
        have hP0 := hP
        replace hP := h1.trans hP0
        rw [ownW_upd (by simp)]
        generalize lasts pre = s
        have hpsg : ∀ d s, AV.prgL d (seenC s) = seenC s := fun d s => prgL_pure d (seenC_pure _)
        simp only [go_sem, init_env', Nat.reduceEqDiff, Nat.reduceAdd, Nat.reduceMul, reduceIte, Nat.reduceLeDiff, Nat.reduceLT, Nat.reduceBEq, reduceCtorEq, lendF_upd, lendF_e0, AV.lend, AV.lendL, Option.getD_some, Option.getD_none, List.zip_cons_cons, List.zip_nil_right, updLo, entT, vanv]
        (repeat ((first | refine WV_seq_ ?_ | refine WV_block ?_ | refine WV_ops ?_ | refine WV_skip ?_ | refine WV_exit ?_); (try simp only [go_sem, init_env', Nat.reduceEqDiff, Nat.reduceAdd, Nat.reduceMul, reduceIte, Nat.reduceLeDiff, Nat.reduceLT, Nat.reduceBEq, reduceCtorEq, hP, hpsg]); (repeat (refine And.intro (by first | omega | (intros; simp_all; done) | (intros; simp_all; omega)) ?_))))
        intro C2 h1 h2 h3
        replace hP := h1.trans hP0
        (repeat ((first | refine WV_seq_ ?_ | refine WV_block ?_ | refine WV_ops ?_ | refine WV_skip ?_ | refine WV_exit ?_); (try simp only [go_sem, init_env', Nat.reduceEqDiff, Nat.reduceAdd, Nat.reduceMul, reduceIte, Nat.reduceLeDiff, Nat.reduceLT, Nat.reduceBEq, reduceCtorEq, hP, hprg, hpsg]); (repeat (refine And.intro (by first | omega | (intros; simp_all; done) | (intros; simp_all; omega)) ?_))))
        (refine WV_cond rfl (fun h => ?_) (fun h => ?_))
        · have h : 0 < p.1.length := by simpa using h
          obtain ⟨m, hm⟩ : ∃ m, p.1.length = m + 1 := ⟨p.1.length - 1, by omega⟩
          have hml : m < p.1.length := by omega
          have hkk := hpo.2.1 _ (List.getElem_mem hml)
          have hm7 : p.1[m] < 7 := by omega
          have hla : p.1.getLast? = some p.1[m] := by rw [List.getLast?_eq_getElem?, hm, Nat.add_sub_cancel, List.getElem?_eq_getElem]
          have hw := w64 (n := ((m + 1 : Nat) : Int) - 1) (by omega) (by omega)
          have ew : ((m + 1 : Nat) : Int) - 1 = (m : Int) := by omega
          rw [ew] at hw
          rw [hla]
          simp only [Option.map_some, Option.toList_some]
          (repeat ((first | refine WV_seq_ ?_ | refine WV_block ?_ | refine WV_ops ?_ | refine WV_skip ?_ | refine WV_exit ?_); (try simp only [go_sem, init_env', Nat.reduceEqDiff, Nat.reduceAdd, Nat.reduceMul, reduceIte, Nat.reduceLeDiff, Nat.reduceLT, Nat.reduceBEq, reduceCtorEq, hP, hprg, hpsg, hm, ew, hw, cellsT_len, cellsT_getD hml, Int.toNat_natCast, Nat.mul_one, Int.natCast_nonneg, seenC_len, seenC_set _ hm7]); (repeat (refine And.intro (by first | omega | (intros; simp_all; done) | (intros; simp_all; omega)) ?_))))
          refine ⟨none, _, rfl, ?_, rfl, rfl⟩
          refine KeepL_mk rfl rfl ?_ ?_ rfl
          · simp only [go_sem, init_env', Nat.reduceEqDiff, Nat.reduceAdd, Nat.reduceMul, reduceIte, Nat.reduceLeDiff, Nat.reduceLT, Nat.reduceBEq, reduceCtorEq, keepAll, Ob.keepP, keepPL_pure (seenC_pure _) (seenC_solid _)]
          · simp only [go_sem, init_env', Nat.reduceEqDiff, Nat.reduceAdd, Nat.reduceMul, reduceIte, Nat.reduceLeDiff, Nat.reduceLT, Nat.reduceBEq, reduceCtorEq, winAll]
        · have h : p.1 = [] := by simpa using h
          rw [h]
          simp only [List.getLast?_nil, Option.map_none, Option.toList_none, List.append_nil]
          (repeat ((first | refine WV_seq_ ?_ | refine WV_block ?_ | refine WV_ops ?_ | refine WV_skip ?_ | refine WV_exit ?_); (try simp only [go_sem, init_env', Nat.reduceEqDiff, Nat.reduceAdd, Nat.reduceMul, reduceIte, Nat.reduceLeDiff, Nat.reduceLT, Nat.reduceBEq, reduceCtorEq, hP, ]); (repeat (refine And.intro (by first | omega | (intros; simp_all; done) | (intros; simp_all; omega)) ?_))))
          refine ⟨none, _, rfl, ?_, rfl, rfl⟩
          refine KeepL_mk rfl rfl ?_ ?_ rfl
          · simp only [go_sem, init_env', Nat.reduceEqDiff, Nat.reduceAdd, Nat.reduceMul, reduceIte, Nat.reduceLeDiff, Nat.reduceLT, Nat.reduceBEq, reduceCtorEq, keepAll, Ob.keepP, keepPL_pure (seenC_pure _) (seenC_solid _)]
          · simp only [go_sem, init_env', Nat.reduceEqDiff, Nat.reduceAdd, Nat.reduceMul, reduceIte, Nat.reduceLeDiff, Nat.reduceLT, Nat.reduceBEq, reduceCtorEq, winAll]
      · rintro _ _ ⟨rfl, rfl⟩
        have hbk := backs_pure (L := [5]) (seenC_pure (lasts (goods r)))
        refine ⟨[.box (seenC (lasts (goods r)))], by simp only [obsBack, Ob.back, hbk]; rfl, rfl, ?_⟩
        simp only [go_sem, init_env', Nat.reduceEqDiff, Nat.reduceAdd, Nat.reduceMul, reduceIte, Nat.reduceLeDiff, Nat.reduceLT, Nat.reduceBEq, reduceCtorEq, exitOf, ownBack]
        (repeat ((first | refine WV_seq_ ?_ | refine WV_block ?_ | refine WV_ops ?_ | refine WV_skip ?_ | refine WV_exit ?_); (try simp only [go_sem, init_env', Nat.reduceEqDiff, Nat.reduceAdd, Nat.reduceMul, reduceIte, Nat.reduceLeDiff, Nat.reduceLT, Nat.reduceBEq, reduceCtorEq, hP, Route.cds, stopsC]); (repeat (refine And.intro (by first | omega | (intros; simp_all; done) | (intros; simp_all; omega)) ?_))))
        generalize hs : lasts (goods r) = s
        have hpsg : ∀ d s, AV.prgL d (seenC s) = seenC s := fun d s => prgL_pure d (seenC_pure _)
        refine WV_nilslot 7 40 3 1 (by decide) (by decide) rfl rfl ?_
        simp only [go_sem, init_env', Nat.reduceEqDiff, Nat.reduceAdd, Nat.reduceMul, reduceIte, Nat.reduceLeDiff, Nat.reduceLT, Nat.reduceBEq, reduceCtorEq, hpsg]
        have hmax : maxLen = 9223372036854775807 := rfl
        refine WV_loopK K42_2 [5, 40] (fun k : Nat => k ≤ r.n) (fun k => r.n - k) (fun k => [(30, iv k), (7, .gr 40)]) (fun k => [(5, .box (seenC s)), (40, .grow 3 1 ((shutL s k).map fun n => [.int .i64 n]))]) 0 (Nat.zero_le _) ?_ ?_
        · (refine Sub_of (by simp only [go_sem, init_env', Nat.reduceEqDiff, Nat.reduceAdd, Nat.reduceMul, reduceIte, Nat.reduceLeDiff, Nat.reduceLT, Nat.reduceBEq, reduceCtorEq]; ((repeat' (first | exact EnvLe_e0 _ _ | refine EnvLe_upd ?_ ?_)) <;> ((try simp only [upd_app, e0_app, o0_app, Nat.reduceEqDiff, reduceIte]); first | exact AWk.refl _ _ | exact AWk.int (by omega) | exact AWk.int (by rw [w64 (by omega) (by omega)]; omega) | exact AWk.grow rfl | exact AWk.nil _ | exact AWk.of (by simp)))) (by simp only [go_sem, init_env', Nat.reduceEqDiff, Nat.reduceAdd, Nat.reduceMul, reduceIte, Nat.reduceLeDiff, Nat.reduceLT, Nat.reduceBEq, reduceCtorEq]; (first | ((repeat' (first | exact ObjLe_o0 _ | exact ObjLe.rfl' _ | refine ObjLe_same ?_ | refine ObjLe_upd ?_ ?_ | refine ObjLe_new rfl ?_)) <;> rfl) | (refine ObjLe_X ?_; (repeat' (first | exact ObjLeX_o0 _ _ | refine ObjLeX_skip rfl ?_ | refine ObjLeX_upd ?_ ?_)) <;> rfl))))
        · intro k hk
          have hsll := shutL_len s k
          simp only [go_sem, init_env', Nat.reduceEqDiff, Nat.reduceAdd, Nat.reduceMul, reduceIte, Nat.reduceLeDiff, Nat.reduceLT, Nat.reduceBEq, reduceCtorEq, hpsg]
          (repeat ((first | refine WV_seq_ ?_ | refine WV_block ?_ | refine WV_ops ?_ | refine WV_skip ?_ | refine WV_exit ?_); (try simp only [go_sem, init_env', Nat.reduceEqDiff, Nat.reduceAdd, Nat.reduceMul, reduceIte, Nat.reduceLeDiff, Nat.reduceLT, Nat.reduceBEq, reduceCtorEq, hP, hpsg]); (repeat (refine And.intro (by first | omega | (intros; simp_all; done) | (intros; simp_all; omega)) ?_))))
          (refine WV_cond rfl (fun h => ?_) (fun h => ?_))
          · have h : k < r.n := by rw [hsl] at h; simpa using h
            have hk7 : k < 7 := by omega
            have hw2 := w64 (n := (k : Int) + 1) (by omega) (by omega)
            (repeat ((first | refine WV_seq_ ?_ | refine WV_block ?_ | refine WV_ops ?_ | refine WV_skip ?_ | refine WV_exit ?_); (try simp only [go_sem, init_env', Nat.reduceEqDiff, Nat.reduceAdd, Nat.reduceMul, reduceIte, Nat.reduceLeDiff, Nat.reduceLT, Nat.reduceBEq, reduceCtorEq, hP, hpsg, Int.toNat_natCast, Nat.mul_one, Int.natCast_nonneg, seenC_len, seenC_get _ hk7, hw2]); (repeat (refine And.intro (by first | omega | (intros; simp_all; done) | (intros; simp_all; omega)) ?_))))
            (refine WV_cond rfl (fun h => ?_) (fun h => ?_))
            · have h : ¬ (k : Int) ∈ s := by simpa using h
              have e := shutL_succ s k
              rw [if_neg h] at e
              (repeat ((first | refine WV_seq_ ?_ | refine WV_block ?_ | refine WV_ops ?_ | refine WV_skip ?_ | refine WV_exit ?_); (try simp only [go_sem, init_env', Nat.reduceEqDiff, Nat.reduceAdd, Nat.reduceMul, reduceIte, Nat.reduceLeDiff, Nat.reduceLT, Nat.reduceBEq, reduceCtorEq, hP, hpsg, hw2]); (repeat (refine And.intro (by first | omega | (intros; simp_all; done) | (intros; simp_all; omega)) ?_))))
              refine ⟨k + 1, by omega, by omega, ?_⟩
              rw [e]
              (refine Sub_of (by simp only [go_sem, init_env', Nat.reduceEqDiff, Nat.reduceAdd, Nat.reduceMul, reduceIte, Nat.reduceLeDiff, Nat.reduceLT, Nat.reduceBEq, reduceCtorEq]; ((repeat' (first | exact EnvLe_e0 _ _ | refine EnvLe_upd ?_ ?_)) <;> ((try simp only [upd_app, e0_app, o0_app, Nat.reduceEqDiff, reduceIte]); first | exact AWk.refl _ _ | exact AWk.int (by omega) | exact AWk.int (by rw [w64 (by omega) (by omega)]; omega) | exact AWk.grow rfl | exact AWk.nil _ | exact AWk.of (by simp)))) (by simp only [go_sem, init_env', Nat.reduceEqDiff, Nat.reduceAdd, Nat.reduceMul, reduceIte, Nat.reduceLeDiff, Nat.reduceLT, Nat.reduceBEq, reduceCtorEq]; (first | ((repeat' (first | exact ObjLe_o0 _ | exact ObjLe.rfl' _ | refine ObjLe_same ?_ | refine ObjLe_upd ?_ ?_ | refine ObjLe_new rfl ?_)) <;> rfl) | (refine ObjLe_X ?_; (repeat' (first | exact ObjLeX_o0 _ _ | refine ObjLeX_skip rfl ?_ | refine ObjLeX_upd ?_ ?_)) <;> rfl))))
            · have h : (k : Int) ∈ s := by simpa using h
              have e := shutL_succ s k
              rw [if_pos h, List.append_nil] at e
              (repeat ((first | refine WV_seq_ ?_ | refine WV_block ?_ | refine WV_ops ?_ | refine WV_skip ?_ | refine WV_exit ?_); (try simp only [go_sem, init_env', Nat.reduceEqDiff, Nat.reduceAdd, Nat.reduceMul, reduceIte, Nat.reduceLeDiff, Nat.reduceLT, Nat.reduceBEq, reduceCtorEq, hP, hpsg, hw2]); (repeat (refine And.intro (by first | omega | (intros; simp_all; done) | (intros; simp_all; omega)) ?_))))
              refine ⟨k + 1, by omega, by omega, ?_⟩
              rw [e]
              (refine Sub_of (by simp only [go_sem, init_env', Nat.reduceEqDiff, Nat.reduceAdd, Nat.reduceMul, reduceIte, Nat.reduceLeDiff, Nat.reduceLT, Nat.reduceBEq, reduceCtorEq]; ((repeat' (first | exact EnvLe_e0 _ _ | refine EnvLe_upd ?_ ?_)) <;> ((try simp only [upd_app, e0_app, o0_app, Nat.reduceEqDiff, reduceIte]); first | exact AWk.refl _ _ | exact AWk.int (by omega) | exact AWk.int (by rw [w64 (by omega) (by omega)]; omega) | exact AWk.grow rfl | exact AWk.nil _ | exact AWk.of (by simp)))) (by simp only [go_sem, init_env', Nat.reduceEqDiff, Nat.reduceAdd, Nat.reduceMul, reduceIte, Nat.reduceLeDiff, Nat.reduceLT, Nat.reduceBEq, reduceCtorEq]; (first | ((repeat' (first | exact ObjLe_o0 _ | exact ObjLe.rfl' _ | refine ObjLe_same ?_ | refine ObjLe_upd ?_ ?_ | refine ObjLe_new rfl ?_)) <;> rfl) | (refine ObjLe_X ?_; (repeat' (first | exact ObjLeX_o0 _ _ | refine ObjLeX_skip rfl ?_ | refine ObjLeX_upd ?_ ?_)) <;> rfl))))
          · have h : k = r.n := by rw [hsl] at h; simp at h; omega
            subst h
            (repeat ((first | refine WV_seq_ ?_ | refine WV_block ?_ | refine WV_ops ?_ | refine WV_skip ?_ | refine WV_exit ?_); (try simp only [go_sem, init_env', Nat.reduceEqDiff, Nat.reduceAdd, Nat.reduceMul, reduceIte, Nat.reduceLeDiff, Nat.reduceLT, Nat.reduceBEq, reduceCtorEq, hP, hpsg]); (repeat (refine And.intro (by first | omega | (intros; simp_all; done) | (intros; simp_all; omega)) ?_))))
            (refine WV_ret ?_; simp only [thenQ, inQ, RetQ, RetOk, resAll, resA]; simp only [go_sem, init_env', Nat.reduceEqDiff, Nat.reduceAdd, Nat.reduceMul, reduceIte, Nat.reduceLeDiff, Nat.reduceLT, Nat.reduceBEq, reduceCtorEq, tupA, AV.port, AV.portL, exists_eq_left', ]; (first | exact AVle.of rfl | refine AVle.of ?_ | skip))
            simp [shutS, hok, hs, ints]
  · have hok : r.ok = false := by simpa using hok
    simp only [hok, Bool.false_eq_true, if_false]
    (refine WV_cond rfl (fun h => ?_) (fun h => ?_))
    · (repeat ((first | refine WV_seq_ ?_ | refine WV_block ?_ | refine WV_ops ?_ | refine WV_skip ?_ | refine WV_exit ?_); (try simp only [go_sem, init_env', Nat.reduceEqDiff, Nat.reduceAdd, Nat.reduceMul, reduceIte, Nat.reduceLeDiff, Nat.reduceLT, Nat.reduceBEq, reduceCtorEq, hP, ]); (repeat (refine And.intro (by first | omega | (intros; simp_all; done) | (intros; simp_all; omega)) ?_))))
      (refine WV_ret ?_; simp only [thenQ, inQ, RetQ, RetOk, resAll, resA]; simp only [go_sem, init_env', Nat.reduceEqDiff, Nat.reduceAdd, Nat.reduceMul, reduceIte, Nat.reduceLeDiff, Nat.reduceLT, Nat.reduceBEq, reduceCtorEq, tupA, AV.port, AV.portL, exists_eq_left', ])
      simp only [shutS, hok, Bool.false_eq_true, if_false]
      exact AVle.tup (AVles.cons (AVle.nil 1) (AVles.refl _))
    · simp at h
end Go.Proofs.Ytbejgfpaokcnpaa

namespace Go.Proofs.Ytbejgfpaokcnpaa
open Go Go.V
@[reducible] def o65_0 : List Ins := [⟨(some 4), .box 4 (.t 1), none, true⟩]
@[reducible] def o65_1 : List Ins := [⟨(some 5), .mv (.t 0), none, true⟩,
  ⟨(some 6), .len (.t 5), none, true⟩,
  ⟨(some 7), .bin .gtr (.t 6) (.k (.c (.int .i64 0))), none, true⟩]
@[reducible] def t65_2 : OT := (.cons ⟨(some 9), .mv (.t 0), none, false⟩
  (.br [(.cons ⟨(some 8), .ld true 1 (.t 2), none, false⟩
    (.cons ⟨(some 10), .ia 1 (.t 9) (.k (.c (.int .i64 0))), none, true⟩
    (.cons ⟨(some 11), .ld true 1 (.t 10), none, true⟩
    (.cons ⟨(some 12), .mget .i64 .i64 (.t 8) (.t 11), none, true⟩
    (.cons ⟨(some 13), .bin .add (.t 12) (.k (.c (.int .i64 1))), none, true⟩
    (.cons ⟨none, .mput .i64 .i64 (.t 8) (.t 11) (.t 13), none, true⟩
    .nil)))))), (.cons ⟨(some 10), .ia 1 (.t 9) (.k (.c (.int .i64 0))), none, true⟩
    (.br [(.cons ⟨(some 8), .ld true 1 (.t 2), none, false⟩
      (.cons ⟨(some 11), .ld true 1 (.t 10), none, true⟩
      (.cons ⟨(some 12), .mget .i64 .i64 (.t 8) (.t 11), none, true⟩
      (.cons ⟨(some 13), .bin .add (.t 12) (.k (.c (.int .i64 1))), none, true⟩
      (.cons ⟨none, .mput .i64 .i64 (.t 8) (.t 11) (.t 13), none, true⟩
      .nil))))), (.cons ⟨(some 11), .ld true 1 (.t 10), none, true⟩
      (.cons ⟨(some 8), .ld true 1 (.t 2), none, false⟩
      (.cons ⟨(some 12), .mget .i64 .i64 (.t 8) (.t 11), none, true⟩
      (.cons ⟨(some 13), .bin .add (.t 12) (.k (.c (.int .i64 1))), none, true⟩
      (.cons ⟨none, .mput .i64 .i64 (.t 8) (.t 11) (.t 13), none, true⟩
      .nil)))))]))]))
@[reducible] def v65_3 : VC := (.cond (.t 7) (.drw t65_2) .skip)
@[reducible] def v65_4 : VC := (.seq (.ops o65_1) v65_3)
def ir65 : FC := ⟨3, 14, [], (.seq (.ops o65_0) v65_4)⟩
@[reducible] def o38_0 : List Ins := [⟨(some 1), .box 3 (.t 0), none, true⟩,
  ⟨(some 2), .mv (.k (.c (.raw (.slice none 0 0)))), none, true⟩,
  ⟨(some 3), .mv (.k (.c (.int .i64 0))), none, true⟩]
@[reducible] def o38_1 : List Ins := [⟨(some 8), .mkm .i64 .i64, none, true⟩,
  ⟨(some 4), .alloc [(.c (.raw (.map none)))], none, true⟩,
  ⟨none, .st 1 (.t 4) (.t 8), none, true⟩]
@[reducible] def o38_2 : List Ins := [⟨(some 9), .ld false 3 (.t 1), none, true⟩,
  ⟨(some 10), .mkfn 65 [(.t 4)], none, true⟩,
  ⟨(some 11), .call (.k (.fn 61 [])) [(.t 9), (.t 10)], none, true⟩,
  ⟨(some 5), .mv (.t 11), none, true⟩]
@[reducible] def o38_3 : List Ins := [⟨(some 12), .mv (.t 5), none, true⟩,
  ⟨(some 13), .bin .neq (.t 12) (.k (.c (.int .i64 0))), none, true⟩]
@[reducible] def o38_4 : List Ins := [⟨(some 14), .mv (.t 5), none, true⟩,
  ⟨(some 2), .mv (.k (.c (.raw (.slice none 0 0)))), none, true⟩,
  ⟨(some 3), .mv (.t 14), none, true⟩]
@[reducible] def v38_5 : VC := (.seq (.ops o38_4) .ret)
@[reducible] def v38_6 : VC := (.cond (.t 13) v38_5 .skip)
@[reducible] def v38_7 : VC := (.seq (.ops o38_3) v38_6)
@[reducible] def o38_8 : List Ins := [⟨(some 6), .mv (.k (.c (.raw (.slice none 0 0)))), none, true⟩]
@[reducible] def o38_9 : List Ins := [⟨(some 15), .fa 0 (.t 1), none, true⟩,
  ⟨(some 16), .ld true 1 (.t 15), none, true⟩,
  ⟨(some 17), .len (.t 16), none, true⟩,
  ⟨(some 18), .mv (.k (.c (.int .i64 0))), none, true⟩]
@[reducible] def o38_10 : List Ins := [⟨(some 19), .bin .lss (.t 18) (.t 17), none, true⟩]
@[reducible] def o38_11 : List Ins := [⟨(some 20), .mv (.t 18), none, true⟩,
  ⟨(some 7), .mv (.t 20), none, true⟩]
@[reducible] def o38_12 : List Ins := [⟨(some 21), .ld true 1 (.t 4), none, true⟩,
  ⟨(some 22), .mv (.t 7), none, true⟩,
  ⟨(some 23), .mget .i64 .i64 (.t 21) (.t 22), none, true⟩,
  ⟨(some 24), .bin .gtr (.t 23) (.k (.c (.int .i64 0))), none, true⟩]
@[reducible] def o38_13 : List Ins := [⟨(some 25), .mv (.t 6), none, true⟩,
  ⟨(some 26), .mv (.t 7), none, true⟩,
  ⟨(some 27), .bsl 3 1 [(.t 26)], none, true⟩,
  ⟨(some 28), .app 3 1 8 (.t 25) (.t 27), none, true⟩,
  ⟨(some 6), .mv (.t 28), none, true⟩]
@[reducible] def v38_14 : VC := (.cond (.t 24) (.ops o38_13) .skip)
@[reducible] def v38_15 : VC := (.seq (.ops o38_12) v38_14)
@[reducible] def v38_16 : VC := (.seq (.ops o38_11) v38_15)
@[reducible] def o38_17 : List Ins := [⟨(some 29), .bin .add (.t 18) (.k (.c (.int .i64 1))), none, true⟩,
  ⟨(some 18), .mv (.t 29), none, true⟩]
@[reducible] def v38_18 : VC := (.seq (.block 1 v38_16) (.ops o38_17))
@[reducible] def v38_19 : VC := (.seq (.cond (.t 19) .skip (.exit 0)) v38_18)
@[reducible] def v38_20 : VC := (.seq (.ops o38_10) v38_19)
-- K38_1: changed and kept: [18, 6]
@[reducible] def K38_1 : List Nat := [4, 17]
@[reducible] def v38_21 : VC := (.loop v38_20)
@[reducible] def v38_22 : VC := (.block 0 v38_21)
@[reducible] def o38_23 : List Ins := [⟨(some 30), .mv (.t 6), none, true⟩,
  ⟨(some 2), .mv (.t 30), none, true⟩,
  ⟨(some 3), .mv (.k (.c (.int .i64 0))), none, true⟩]
@[reducible] def v38_24 : VC := (.seq (.ops o38_23) .ret)
@[reducible] def v38_25 : VC := (.seq (.seq (.ops o38_9) v38_22) v38_24)
@[reducible] def v38_26 : VC := (.seq (.ops o38_8) v38_25)
@[reducible] def v38_27 : VC := (.seq (.seq (.ops o38_2) v38_7) v38_26)
@[reducible] def v38_28 : VC := (.seq (.ops o38_1) v38_27)
def ir38 : FC := ⟨1, 31, [.t 2, .t 3], (.seq (.ops o38_0) v38_28)⟩
theorem c65 : compM Try.prog [10,11] 65 = some ir65 := by kernel_rfl
theorem c38 : compM Try.prog [] 38 = some ir38 := by kernel_rfl



/-- One tour more that begins with its first stop. -/
def firstM (m : List (Int × Int)) (t : List Nat) : List (Int × Int) := match t with
  | [] => m
  | k :: _ => mput m k (IntKind.i64.wrap (mget m k + 1))
def firstMs (l : List (List Nat × Van)) : List (Int × Int) := l.foldl (fun m p => firstM m p.1) []
theorem firstMs_snoc (l : List (List Nat × Van)) (p : List Nat × Van) : firstMs (l ++ [p]) = firstM (firstMs l) p.1 := by simp [firstMs]

set_option maxHeartbeats 1000000 in
theorem first65 (r : Route) (v : Van) (m : List (Int × Int)) (t : List Nat) : FSpecL Try.prog 65 [.vw 1 2000 0 t.length r.n, vanv r v, .bp 1000 0] [.box [.gr 1001], .mp .i64 .i64 m] [cellsT t] (fun res l' => res = .tup [] ∧ l' = [.box [.gr 1001], .mp .i64 .i64 (firstM m t)]) := by
  have hprg : ∀ d, AV.prgL d (cellsT t) = cellsT t := fun d => prgL_pure d (cellsT_pure _)
  refine FSpecL_of c65 (by first | simp | exact Nat.le_of_ble_eq_true rfl) (Nat.le_refl _) (by decide) (by decide) fun C hP hN hC hL => ?_; rw [init_env', ownW_upd (by first | simp | exact Nat.le_of_ble_eq_true rfl)]; simp only [ir65, updL, updLo, List.map_nil, List.map_cons, Nat.reduceAdd, vanv]
  (repeat ((first | refine WV_seq_ ?_ | refine WV_block ?_ | refine WV_ops ?_ | refine WV_skip ?_ | refine WV_exit ?_); (try simp only [go_sem, init_env', Nat.reduceEqDiff, Nat.reduceAdd, Nat.reduceMul, reduceIte, Nat.reduceLeDiff, Nat.reduceLT, Nat.reduceBEq, reduceCtorEq, hP, hprg]); (repeat (refine And.intro (by first | omega | (intros; simp_all; done) | (intros; simp_all; omega)) ?_))))
  (refine WV_cond rfl (fun h => ?_) (fun h => ?_))
  · cases t with
    | nil => simp at h
    | cons k t =>
      have e : cellsT (k :: t) = iv k :: cellsT t := rfl
      clear hprg
      have hprg : ∀ d, AV.prgL d (cellsT t) = cellsT t := fun d => prgL_pure d (cellsT_pure _)
      rw [e]
      (refine WV_drw ?_; simp only [go_sem, init_env', Nat.reduceEqDiff, Nat.reduceAdd, Nat.reduceMul, reduceIte, Nat.reduceLeDiff, Nat.reduceLT, Nat.reduceBEq, reduceCtorEq, hP, hprg, Int.toNat_zero, Nat.zero_mul]; (repeat' (refine And.intro ?_ ?_)))
      all_goals first
        | exact trivial
        | omega
        | (((try simp only [thenQ, inQ, RetQL, RetOkL, resAll, resA]); (try simp only [go_sem, init_env', Nat.reduceEqDiff, Nat.reduceAdd, Nat.reduceMul, reduceIte, Nat.reduceLeDiff, Nat.reduceLT, Nat.reduceBEq, reduceCtorEq, tupA, AV.keepP, AV.keepPL]); refine ⟨_, [.box [.gr 1001], .mp .i64 .i64 (firstM m (k :: t))], rfl, KeepL_mk rfl rfl ?_ ?_ rfl, ?_⟩)
           · simp only [go_sem, init_env', Nat.reduceEqDiff, Nat.reduceAdd, Nat.reduceMul, reduceIte, Nat.reduceLeDiff, Nat.reduceLT, Nat.reduceBEq, reduceCtorEq, keepAll, Ob.keepP, AV.keepP, AV.keepPL, firstM]
           · simp only [go_sem, init_env', Nat.reduceEqDiff, Nat.reduceAdd, Nat.reduceMul, reduceIte, Nat.reduceLeDiff, Nat.reduceLT, Nat.reduceBEq, reduceCtorEq, winAll]
           · exact ⟨rfl, rfl⟩)
  · cases t with
    | cons k t => simp at h
    | nil =>
      (repeat ((first | refine WV_seq_ ?_ | refine WV_block ?_ | refine WV_ops ?_ | refine WV_skip ?_ | refine WV_exit ?_); (try simp only [go_sem, init_env', Nat.reduceEqDiff, Nat.reduceAdd, Nat.reduceMul, reduceIte, Nat.reduceLeDiff, Nat.reduceLT, Nat.reduceBEq, reduceCtorEq, hP, hprg]); (repeat (refine And.intro (by first | omega | (intros; simp_all; done) | (intros; simp_all; omega)) ?_))))
      ((try simp only [thenQ, inQ, RetQL, RetOkL, resAll, resA]); (try simp only [go_sem, init_env', Nat.reduceEqDiff, Nat.reduceAdd, Nat.reduceMul, reduceIte, Nat.reduceLeDiff, Nat.reduceLT, Nat.reduceBEq, reduceCtorEq, tupA, AV.keepP, AV.keepPL]); refine ⟨_, [.box [.gr 1001], .mp .i64 .i64 (firstM m [])], rfl, KeepL_mk rfl rfl ?_ ?_ rfl, ?_⟩)
      · simp only [go_sem, init_env', Nat.reduceEqDiff, Nat.reduceAdd, Nat.reduceMul, reduceIte, Nat.reduceLeDiff, Nat.reduceLT, Nat.reduceBEq, reduceCtorEq, keepAll, Ob.keepP, AV.keepP, AV.keepPL, firstM]
      · simp only [go_sem, init_env', Nat.reduceEqDiff, Nat.reduceAdd, Nat.reduceMul, reduceIte, Nat.reduceLeDiff, Nat.reduceLT, Nat.reduceBEq, reduceCtorEq, winAll]
      · exact ⟨rfl, rfl⟩

/-- The numbers up to k of which there is one. -/
def firstL (m : List (Int × Int)) (k : Nat) : List Int := ((List.range k).map fun (n : Nat) => (n : Int)).filter fun n => decide (0 < mget m n)
theorem firstL_succ (m : List (Int × Int)) (k : Nat) : firstL m (k + 1) = firstL m k ++ (if 0 < mget m k then [(k : Int)] else []) := by
  unfold firstL
  rw [List.range_succ, List.map_append, List.filter_append]
  by_cases h : 0 < mget m k <;> simp [h]
theorem firstL_len (m : List (Int × Int)) (k : Nat) : (firstL m k).length ≤ k := by
  unfold firstL
  exact Nat.le_trans (List.length_filter_le _ _) (by simp)
def firstS (r : Route) : List Int × Int := if someE r = 0 then (firstL (firstMs (wholes r)) r.n, 0) else ([], someE r)
def firstF (pre : List (List Nat × Van)) : List Ob := [.box [.gr 1001], .mp .i64 .i64 (firstMs pre)]

theorem upd_back2 {α : Type} {f : Nat → α} {n m : Nat} {a b b' c d : α} (h : n ≠ m) : upd (upd (upd (upd (upd f n a) m b') m b) n c) m d = upd (upd f n c) m d := by
  funext t
  simp only [upd]
  split
  · rfl
  · rename_i hm
    split <;> rfl

set_option maxHeartbeats 4000000 in
theorem firsts38 (r : Route) : FSpec Try.prog 38 [r.av] (.tup [.c (ints (firstS r).1), iv (firstS r).2]) := by
  refine FSpec_of c38 (Nat.le_refl _) (by decide) fun C hP hN hC hL => ?_
  simp only [ir38, Route.av]
  (repeat ((first | refine WV_seq_ ?_ | refine WV_block ?_ | refine WV_ops ?_ | refine WV_skip ?_ | refine WV_exit ?_); (try simp only [go_sem, init_env', Nat.reduceEqDiff, Nat.reduceAdd, Nat.reduceMul, reduceIte, Nat.reduceLeDiff, Nat.reduceLT, Nat.reduceBEq, reduceCtorEq, hP, ]); (repeat (refine And.intro (by first | omega | (intros; simp_all; done) | (intros; simp_all; omega)) ?_))))
  · refine AS_clos [4, 8] [r.av] [] (l := firstF []) (lf := firstF (wholesOf r)) (r := iv (someE r)) (some61 r) rfl rfl rfl (by decide) (by decide) rfl rfl rfl rfl ?_ (first65 r (leave r) [] []).1 ?_ rfl ?_
    · simp only [go_sem, init_env', Nat.reduceEqDiff, Nat.reduceAdd, Nat.reduceMul, reduceIte, Nat.reduceLeDiff, Nat.reduceLT, Nat.reduceBEq, reduceCtorEq, obsLend, Ob.lend, AV.lendL, AV.lend, firstF, firstMs, List.foldl_nil]
    · refine Run_pre (entW r) firstF (wholesOf r) (fun p => rfl) (fun t _ => rfl) (fun pre p post hts => ?_) _ [] rfl
      have := first65 r (atHome r p) (firstMs pre) p.1
      simp only [firstF, firstMs_snoc]
      exact this
    · refine ⟨_, rfl, rfl, ?_⟩
      simp only [go_sem, init_env', Nat.reduceEqDiff, Nat.reduceAdd, Nat.reduceMul, reduceIte, Nat.reduceLeDiff, Nat.reduceLT, Nat.reduceBEq, reduceCtorEq, ownBack]
      (repeat ((first | refine WV_seq_ ?_ | refine WV_block ?_ | refine WV_ops ?_ | refine WV_skip ?_ | refine WV_exit ?_); (try simp only [go_sem, init_env', Nat.reduceEqDiff, Nat.reduceAdd, Nat.reduceMul, reduceIte, Nat.reduceLeDiff, Nat.reduceLT, Nat.reduceBEq, reduceCtorEq, hP, ]); (repeat (refine And.intro (by first | omega | (intros; simp_all; done) | (intros; simp_all; omega)) ?_))))
      (refine WV_cond rfl (fun h => ?_) (fun h => ?_))
      · have h : someE r ≠ 0 := by simpa using h
        (repeat ((first | refine WV_seq_ ?_ | refine WV_block ?_ | refine WV_ops ?_ | refine WV_skip ?_ | refine WV_exit ?_); (try simp only [go_sem, init_env', Nat.reduceEqDiff, Nat.reduceAdd, Nat.reduceMul, reduceIte, Nat.reduceLeDiff, Nat.reduceLT, Nat.reduceBEq, reduceCtorEq, hP, ]); (repeat (refine And.intro (by first | omega | (intros; simp_all; done) | (intros; simp_all; omega)) ?_))))
        (refine WV_ret ?_; simp only [thenQ, inQ, RetQ, RetOk, resAll, resA]; simp only [go_sem, init_env', Nat.reduceEqDiff, Nat.reduceAdd, Nat.reduceMul, reduceIte, Nat.reduceLeDiff, Nat.reduceLT, Nat.reduceBEq, reduceCtorEq, tupA, AV.port, AV.portL, exists_eq_left', ])
        simp only [firstS, h, if_false]
        exact AVle.tup (AVles.cons (AVle.nil 1) (AVles.refl _))
      · have h : someE r = 0 := by simpa using h
        have hok := (someE_ok h).1
        have hr := Route.ok_spec hok
        have hn7 := hr.n7
        have hsl : (r.stops.length : Int) = (r.n : Int) := rfl
        have hf : firstS r = (firstL (firstMs (wholesOf r)) r.n, 0) := by simp [firstS, h, wholesOf, hok]
        generalize firstMs (wholesOf r) = s at *
        rw [hf]
        (repeat ((first | refine WV_seq_ ?_ | refine WV_block ?_ | refine WV_ops ?_ | refine WV_skip ?_ | refine WV_exit ?_); (try simp only [go_sem, init_env', Nat.reduceEqDiff, Nat.reduceAdd, Nat.reduceMul, reduceIte, Nat.reduceLeDiff, Nat.reduceLT, Nat.reduceBEq, reduceCtorEq, hP, stopsC]); (repeat (refine And.intro (by first | omega | (intros; simp_all; done) | (intros; simp_all; omega)) ?_))))
        rw [upd_back2 (n := 8) (m := 4) (by decide)]
        refine WV_nilslot 6 28 3 1 (by decide) (by decide) rfl rfl ?_
        simp only [go_sem, init_env', Nat.reduceEqDiff, Nat.reduceAdd, Nat.reduceMul, reduceIte, Nat.reduceLeDiff, Nat.reduceLT, Nat.reduceBEq, reduceCtorEq]
        have hmax : maxLen = 9223372036854775807 := rfl
        refine WV_loopK K38_1 [28] (fun k : Nat => k ≤ r.n) (fun k => r.n - k) (fun k => [(18, iv k), (6, .gr 28)]) (fun k => [(28, .grow 3 1 ((firstL s k).map fun n => [.int .i64 n]))]) 0 (Nat.zero_le _) ?_ ?_
        · (refine Sub_of (by simp only [go_sem, init_env', Nat.reduceEqDiff, Nat.reduceAdd, Nat.reduceMul, reduceIte, Nat.reduceLeDiff, Nat.reduceLT, Nat.reduceBEq, reduceCtorEq]; ((repeat' (first | exact EnvLe_e0 _ _ | refine EnvLe_upd ?_ ?_)) <;> ((try simp only [upd_app, e0_app, o0_app, Nat.reduceEqDiff, reduceIte]); first | exact AWk.refl _ _ | exact AWk.int (by omega) | exact AWk.int (by rw [w64 (by omega) (by omega)]; omega) | exact AWk.grow rfl | exact AWk.nil _ | exact AWk.of (by simp)))) (by simp only [go_sem, init_env', Nat.reduceEqDiff, Nat.reduceAdd, Nat.reduceMul, reduceIte, Nat.reduceLeDiff, Nat.reduceLT, Nat.reduceBEq, reduceCtorEq]; (first | ((repeat' (first | exact ObjLe_o0 _ | exact ObjLe.rfl' _ | refine ObjLe_same ?_ | refine ObjLe_upd ?_ ?_ | refine ObjLe_new rfl ?_)) <;> rfl) | (refine ObjLe_X ?_; (repeat' (first | exact ObjLeX_o0 _ _ | refine ObjLeX_skip rfl ?_ | refine ObjLeX_upd ?_ ?_)) <;> rfl))))
        · intro k hk
          have hsll := firstL_len s k
          simp only [go_sem, init_env', Nat.reduceEqDiff, Nat.reduceAdd, Nat.reduceMul, reduceIte, Nat.reduceLeDiff, Nat.reduceLT, Nat.reduceBEq, reduceCtorEq]
          (repeat ((first | refine WV_seq_ ?_ | refine WV_block ?_ | refine WV_ops ?_ | refine WV_skip ?_ | refine WV_exit ?_); (try simp only [go_sem, init_env', Nat.reduceEqDiff, Nat.reduceAdd, Nat.reduceMul, reduceIte, Nat.reduceLeDiff, Nat.reduceLT, Nat.reduceBEq, reduceCtorEq, hP, ]); (repeat (refine And.intro (by first | omega | (intros; simp_all; done) | (intros; simp_all; omega)) ?_))))
          (refine WV_cond rfl (fun h => ?_) (fun h => ?_))
          · have h : k < r.n := by rw [hsl] at h; simpa using h
            have hw2 := w64 (n := (k : Int) + 1) (by omega) (by omega)
            (repeat ((first | refine WV_seq_ ?_ | refine WV_block ?_ | refine WV_ops ?_ | refine WV_skip ?_ | refine WV_exit ?_); (try simp only [go_sem, init_env', Nat.reduceEqDiff, Nat.reduceAdd, Nat.reduceMul, reduceIte, Nat.reduceLeDiff, Nat.reduceLT, Nat.reduceBEq, reduceCtorEq, hP, hw2]); (repeat (refine And.intro (by first | omega | (intros; simp_all; done) | (intros; simp_all; omega)) ?_))))
            (refine WV_cond rfl (fun h => ?_) (fun h => ?_))
            · have h : 0 < mget s k := by simpa using h
              have e := firstL_succ s k
              rw [if_pos h] at e
              (repeat ((first | refine WV_seq_ ?_ | refine WV_block ?_ | refine WV_ops ?_ | refine WV_skip ?_ | refine WV_exit ?_); (try simp only [go_sem, init_env', Nat.reduceEqDiff, Nat.reduceAdd, Nat.reduceMul, reduceIte, Nat.reduceLeDiff, Nat.reduceLT, Nat.reduceBEq, reduceCtorEq, hP, hw2]); (repeat (refine And.intro (by first | omega | (intros; simp_all; done) | (intros; simp_all; omega)) ?_))))
              refine ⟨k + 1, by omega, by omega, ?_⟩
              rw [e]
              (refine Sub_of (by simp only [go_sem, init_env', Nat.reduceEqDiff, Nat.reduceAdd, Nat.reduceMul, reduceIte, Nat.reduceLeDiff, Nat.reduceLT, Nat.reduceBEq, reduceCtorEq]; ((repeat' (first | exact EnvLe_e0 _ _ | refine EnvLe_upd ?_ ?_)) <;> ((try simp only [upd_app, e0_app, o0_app, Nat.reduceEqDiff, reduceIte]); first | exact AWk.refl _ _ | exact AWk.int (by omega) | exact AWk.int (by rw [w64 (by omega) (by omega)]; omega) | exact AWk.grow rfl | exact AWk.nil _ | exact AWk.of (by simp)))) (by simp only [go_sem, init_env', Nat.reduceEqDiff, Nat.reduceAdd, Nat.reduceMul, reduceIte, Nat.reduceLeDiff, Nat.reduceLT, Nat.reduceBEq, reduceCtorEq]; (first | ((repeat' (first | exact ObjLe_o0 _ | exact ObjLe.rfl' _ | refine ObjLe_same ?_ | refine ObjLe_upd ?_ ?_ | refine ObjLe_new rfl ?_)) <;> rfl) | (refine ObjLe_X ?_; (repeat' (first | exact ObjLeX_o0 _ _ | refine ObjLeX_skip rfl ?_ | refine ObjLeX_upd ?_ ?_)) <;> rfl))))
            · have h : ¬ 0 < mget s k := by simpa using h
              have e := firstL_succ s k
              rw [if_neg h, List.append_nil] at e
              (repeat ((first | refine WV_seq_ ?_ | refine WV_block ?_ | refine WV_ops ?_ | refine WV_skip ?_ | refine WV_exit ?_); (try simp only [go_sem, init_env', Nat.reduceEqDiff, Nat.reduceAdd, Nat.reduceMul, reduceIte, Nat.reduceLeDiff, Nat.reduceLT, Nat.reduceBEq, reduceCtorEq, hP, hw2]); (repeat (refine And.intro (by first | omega | (intros; simp_all; done) | (intros; simp_all; omega)) ?_))))
              refine ⟨k + 1, by omega, by omega, ?_⟩
              rw [e]
              (refine Sub_of (by simp only [go_sem, init_env', Nat.reduceEqDiff, Nat.reduceAdd, Nat.reduceMul, reduceIte, Nat.reduceLeDiff, Nat.reduceLT, Nat.reduceBEq, reduceCtorEq]; ((repeat' (first | exact EnvLe_e0 _ _ | refine EnvLe_upd ?_ ?_)) <;> ((try simp only [upd_app, e0_app, o0_app, Nat.reduceEqDiff, reduceIte]); first | exact AWk.refl _ _ | exact AWk.int (by omega) | exact AWk.int (by rw [w64 (by omega) (by omega)]; omega) | exact AWk.grow rfl | exact AWk.nil _ | exact AWk.of (by simp)))) (by simp only [go_sem, init_env', Nat.reduceEqDiff, Nat.reduceAdd, Nat.reduceMul, reduceIte, Nat.reduceLeDiff, Nat.reduceLT, Nat.reduceBEq, reduceCtorEq]; (first | ((repeat' (first | exact ObjLe_o0 _ | exact ObjLe.rfl' _ | refine ObjLe_same ?_ | refine ObjLe_upd ?_ ?_ | refine ObjLe_new rfl ?_)) <;> rfl) | (refine ObjLe_X ?_; (repeat' (first | exact ObjLeX_o0 _ _ | refine ObjLeX_skip rfl ?_ | refine ObjLeX_upd ?_ ?_)) <;> rfl))))
          · have h : k = r.n := by rw [hsl] at h; simp at h; omega
            subst h
            (repeat ((first | refine WV_seq_ ?_ | refine WV_block ?_ | refine WV_ops ?_ | refine WV_skip ?_ | refine WV_exit ?_); (try simp only [go_sem, init_env', Nat.reduceEqDiff, Nat.reduceAdd, Nat.reduceMul, reduceIte, Nat.reduceLeDiff, Nat.reduceLT, Nat.reduceBEq, reduceCtorEq, hP, ]); (repeat (refine And.intro (by first | omega | (intros; simp_all; done) | (intros; simp_all; omega)) ?_))))
            (refine WV_ret ?_; simp only [thenQ, inQ, RetQ, RetOk, resAll, resA]; simp only [go_sem, init_env', Nat.reduceEqDiff, Nat.reduceAdd, Nat.reduceMul, reduceIte, Nat.reduceLeDiff, Nat.reduceLT, Nat.reduceBEq, reduceCtorEq, tupA, AV.port, AV.portL, exists_eq_left', ]; (first | exact AVle.of rfl | refine AVle.of ?_ | skip))
end Go.Proofs.Ytbejgfpaokcnpaa

namespace Go.Proofs.Ytbejgfpaokcnpaa
open Go Go.V
def begins (l : List (List Nat)) (k : Nat) : Bool := l.any fun t => t.headD 0 == k
def rfirstL (l : List (List Nat)) (k : Nat) : List Int := ((List.range k).filter fun n => begins l n).map fun (n : Nat) => (n : Int)
theorem rfirstL_len (l : List (List Nat)) (k : Nat) : (rfirstL l k).length ≤ k := by
  unfold rfirstL
  rw [List.length_map]
  exact Nat.le_trans (List.length_filter_le _ _) (by simp)
def rfirstS (r : Route) : List Int × Int := if errR r = 0 then (rfirstL (goodR r true) r.n, 0) else ([], errR r)

end Go.Proofs.Ytbejgfpaokcnpaa

/-
  Firsts: the map counts the whole good tours by their first stops: plain.
-/
namespace Go.Proofs.Ytbejgfpaokcnpaa
open Go Go.V

theorem mget_mput (m : List (Int × Int)) (a b v : Int) : mget (mput m a v) b = if b = a then v else mget m b := by
  induction m with
  | nil => simp only [mput, mget]
  | cons x m ih =>
    obtain ⟨c, d⟩ := x
    simp only [mput]
    by_cases h : a = c
    · subst h
      simp only [if_true, mget]
      split <;> rfl
    · simp only [h, if_false, mget, ih]
      by_cases h2 : b = c
      · subst h2
        rw [if_pos rfl, if_neg (fun e => h e.symm)]
        simp
      · simp only [h2, if_false]
theorem firstMs_get (l : List (List Nat × Van)) (h : (l.length : Int) ≤ 16777216) (k : Nat) : mget (firstMs l) k = ((l.filter fun p => p.1.head? == some k).length : Int) := by
  have key : ∀ (l : List (List Nat × Van)) (m : List (Int × Int)) (c : Int), 0 ≤ c → c + l.length ≤ 33554432 → (∀ j : Nat, 0 ≤ mget m j ∧ mget m j ≤ c) → mget (l.foldl (fun m p => firstM m p.1) m) k = mget m k + ((l.filter fun p => p.1.head? == some k).length : Int) := by
    intro l
    induction l with
    | nil => intro m c _ _ _; simp
    | cons p l ih =>
      intro m c hc hl hm
      simp only [List.length_cons] at hl
      rw [List.foldl_cons, List.filter_cons]
      have hl' : c + 1 + (l.length : Int) ≤ 33554432 := by omega
      obtain ⟨t, v⟩ := p
      cases t with
      | nil =>
        rw [ih _ (c + 1) (by omega) hl' (fun j => by have := hm j; simp only [firstM]; omega)]
        simp [firstM]
      | cons a t =>
        have ha := hm a
        have hw : IntKind.i64.wrap (mget m a + 1) = mget m a + 1 := w64 (by omega) (by omega)
        rw [ih _ (c + 1) (by omega) hl' (fun j => by
          have hj := hm j
          simp only [firstM, hw, mget_mput]
          split <;> omega)]
        simp only [firstM, hw, mget_mput, List.head?_cons]
        by_cases e : k = a
        · subst e
          simp; omega
        · have e1 : ¬ (k : Int) = (a : Int) := by omega
          have e2 : ¬ a = k := fun h => e h.symm
          rw [if_neg e1]
          simp [e2]
  have := key l [] 0 (by omega) (by omega) (fun j => by simp [mget])
  simpa [mget, firstMs] using this
theorem firstL_eq {r : Route} (hr : RouteOk r) : firstL (firstMs (wholes r)) r.n = rfirstL (goodR r true) r.n := by
  have hc : ((wholes r).length : Int) ≤ 16777216 := by
    have := Nat.le_trans (List.length_filter_le (isW r) (goods r)) (goods_count hr.n7)
    unfold wholes
    omega
  unfold firstL rfirstL
  rw [List.filter_map]
  congr 1
  refine List.filter_congr fun k hk => ?_
  simp only [Function.comp, firstMs_get _ hc]
  have hk : k < r.n := by simpa using hk
  unfold begins
  rw [← wholes_eq, List.any_map, Bool.eq_iff_iff, decide_eq_true_eq, List.any_eq_true]
  have e : (0 < (((wholes r).filter fun p => p.1.head? == some k).length : Int)) ↔ 0 < ((wholes r).filter fun p => p.1.head? == some k).length := by omega
  rw [e, List.length_pos_iff_exists_mem]
  refine exists_congr fun p => ?_
  rw [List.mem_filter]
  refine and_congr_right fun hp => ?_
  have hl : r.n ≤ p.1.length := by
    have := (List.mem_filter.1 hp).2
    simp [isW] at this
    exact this
  cases ht : p.1 with
  | nil => rw [ht] at hl; simp at hl; omega
  | cons a t => simp [ht]
theorem first_eq (r : Route) : firstS r = rfirstS r := by
  unfold firstS rfirstS
  rw [someE_eq]
  by_cases h : errR r = 0
  · rw [if_pos h, if_pos h, firstL_eq (errR_eq h).1]
  · rw [if_neg h, if_neg h]
end Go.Proofs.Ytbejgfpaokcnpaa

namespace Go.Proofs.Ytbejgfpaokcnpaa
open Go Go.V
def inAny (l : List (List Nat)) (k : Nat) : Bool := l.any fun t => decide (k ∈ t)
def rshutL (l : List (List Nat)) (k : Nat) : List Int := ((List.range k).filter fun n => !inAny l n).map fun (n : Nat) => (n : Int)
theorem rshutL_len (l : List (List Nat)) (k : Nat) : (rshutL l k).length ≤ k := by
  unfold rshutL
  rw [List.length_map]
  exact Nat.le_trans (List.length_filter_le _ _) (by simp)
def rshutS (r : Route) : List Int × Int := if r.ok then (rshutL (goodR r false) r.n, 0) else ([], 80)

end Go.Proofs.Ytbejgfpaokcnpaa

/-
  Shut: the stops that are the last one of no good tour are in none: plain.
-/
namespace Go.Proofs.Ytbejgfpaokcnpaa
open Go Go.V

theorem mem_toursR {n : Nat} : ∀ (l : List Nat) (f : Nat) (t : List Nat), (t ++ l).Nodup → (∀ k ∈ l, k < n) → l.length ≤ f → t ++ l ∈ toursR n f t
  | [], f, t, _, _, _ => by cases f <;> simp [toursR]
  | k :: l, 0, t, _, _, h => by simp at h
  | k :: l, f + 1, t, hn, hk, h => by
    simp only [toursR, List.mem_cons, List.mem_flatMap, List.mem_range]
    refine .inr ⟨k, hk k (by simp), ?_⟩
    have hnk : k ∉ t := by
      intro hm
      rw [List.nodup_append] at hn
      exact hn.2.2 k hm k (by simp) rfl
    rw [if_neg hnk]
    have := mem_toursR l f (t ++ [k]) (by simpa using hn) (fun j hj => hk j (by simp [hj])) (by simpa using h)
    simpa using this
theorem goodR_prefix {r : Route} {a b : List Nat} (h : a ++ b ∈ goodR r false) : a ∈ goodR r false := by
  obtain ⟨h1, h2, h3, h4⟩ := goodR_mem h
  have h5 : ridden r (a ++ b) = true := by simpa [goodP] using h4
  have ha : a.Nodup := (List.nodup_append.1 h1).1
  have hal : ∀ k ∈ a, k < r.n := fun k hk => h2 k (by simp [hk])
  refine List.mem_filter.2 ⟨?_, ?_⟩
  · have := mem_toursR (n := r.n) a (r.n + 1) [] (by simpa using ha) hal (Nat.le_succ_of_le (tour_len ha hal))
    simpa [allR] using this
  · have : ridden r a = true := by
      unfold ridden at h5 ⊢
      by_cases hx : (ride r (leave r) a).2.1 = none
      · rw [hx]; rfl
      · rw [ride_stop r a _ b hx] at h5
        exact h5
    simp [goodP, this]
theorem lasts_mem {r : Route} {k : Nat} : (k : Int) ∈ lasts (goods r) ↔ inAny (goodR r false) k = true := by
  unfold lasts inAny
  rw [List.mem_filterMap, List.any_eq_true, ← goods_eq]
  constructor
  · rintro ⟨p, hp, hk⟩
    refine ⟨p.1, List.mem_map_of_mem hp, ?_⟩
    rw [Option.map_eq_some_iff] at hk
    obtain ⟨j, hj, e⟩ := hk
    have : j = k := by omega
    subst this
    simpa using List.mem_of_getLast? hj
  · rintro ⟨t, ht, hk⟩
    have hk : k ∈ t := by simpa using hk
    rw [goods_eq] at ht
    obtain ⟨a, b, rfl⟩ := List.append_of_mem hk
    have hp := goodR_prefix (a := a ++ [k]) (b := b) (by simpa using ht)
    rw [← goods_eq] at hp
    obtain ⟨p, hp, e⟩ := List.mem_map.1 hp
    exact ⟨p, hp, by rw [e]; simp⟩
theorem shut_eq (r : Route) : shutS r = rshutS r := by
  unfold shutS rshutS
  cases r.ok
  · rfl
  · simp only [if_true]
    congr 1
    unfold shutL rshutL
    rw [List.filter_map]
    congr 1
    refine List.filter_congr fun k _ => ?_
    simp only [Function.comp]
    congr 1
    rw [Bool.eq_iff_iff, decide_eq_true_eq]
    exact lasts_mem
end Go.Proofs.Ytbejgfpaokcnpaa

/-
  What is true of each good tour, and of all stops: plain.
-/
namespace Go.Proofs.Ytbejgfpaokcnpaa
open Go Go.V

theorem mem_allR {r : Route} {t : List Nat} (hn : t.Nodup) (hl : ∀ k ∈ t, k < r.n) : t ∈ allR r := by
  have := mem_toursR (n := r.n) t (r.n + 1) [] (by simpa using hn) hl (Nat.le_succ_of_le (tour_len hn hl))
  simpa [allR] using this
theorem goodR_false {r : Route} {t : List Nat} (h : t ∈ goodR r true) : t ∈ goodR r false := by
  obtain ⟨h1, h2⟩ := List.mem_filter.1 h
  refine List.mem_filter.2 ⟨h1, ?_⟩
  simp only [goodP, Bool.not_true, Bool.false_or, Bool.and_eq_true] at h2
  simp [goodP, h2.2]
theorem ridden_none {r : Route} {t : List Nat} (h : ridden r t = true) : (ride r (leave r) t).2.1 = none := by
  unfold ridden at h
  simpa using h
theorem min_fold : ∀ (l : List Int) (b : Int), l.foldl min b ≤ b ∧ (∀ x ∈ l, l.foldl min b ≤ x) ∧ (l.foldl min b = b ∨ l.foldl min b ∈ l)
  | [], b => ⟨Int.le_refl _, by simp, .inl rfl⟩
  | x :: l, b => by
    obtain ⟨h1, h2, h3⟩ := min_fold l (min b x)
    rw [List.foldl_cons]
    refine ⟨by omega, fun y hy => ?_, ?_⟩
    · rcases List.mem_cons.1 hy with rfl | hy
      · omega
      · exact h2 y hy
    · rcases h3 with h3 | h3
      · by_cases hb : b ≤ x
        · exact .inl (by rw [h3]; omega)
        · exact .inr (by rw [h3, show min b x = x from by omega]; simp)
      · exact .inr (by simp [h3])
theorem minS_le (f : List Nat → Int) (L : List (List Nat)) : ∀ t ∈ L, minS f L L.length ≤ f t := by
  intro t ht
  have e : minS f L L.length = (L.map f).foldl min (f (L.getD 0 [])) := by unfold minS; rw [List.take_length, List.foldl_map]
  rw [e]
  exact (min_fold _ _).2.1 _ (List.mem_map_of_mem ht)
theorem minS_mem (f : List Nat → Int) (L : List (List Nat)) (h : 0 < L.length) : ∃ t ∈ L, minS f L L.length = f t := by
  have e : minS f L L.length = (L.map f).foldl min (f (L.getD 0 [])) := by unfold minS; rw [List.take_length, List.foldl_map]
  rw [e]
  rcases (min_fold (L.map f) (f (L.getD 0 []))).2.2 with h1 | h1
  · rw [h1]
    refine ⟨L.getD 0 [], ?_, rfl⟩
    rw [List.getD_eq_getElem?_getD, List.getElem?_eq_getElem h]
    exact List.getElem_mem h
  · obtain ⟨t, ht, e⟩ := List.mem_map.1 h1
    exact ⟨t, ht, e.symm⟩
theorem rmost_le {r : Route} {t : List Nat} (ht : t ∈ goodR r false) : cashS r t ≤ rmostB r (goodR r false) := by
  have e : rmostB r (goodR r false) = ((goodR r false).map (cashS r)).foldl max 0 := by unfold rmostB; rw [List.foldl_map]
  rw [e]
  exact (max_fold _ _ _).2 (.inr ⟨_, List.mem_map_of_mem ht, Int.le_refl _⟩)
theorem rmost_mem (r : Route) : 0 ≤ rmostB r (goodR r false) ∧ (rmostB r (goodR r false) = 0 ∨ ∃ t ∈ goodR r false, rmostB r (goodR r false) = cashS r t) := by
  have e : rmostB r (goodR r false) = ((goodR r false).map (cashS r)).foldl max 0 := by unfold rmostB; rw [List.foldl_map]
  rw [e]
  refine ⟨(max_fold _ _ _).2 (.inl (Int.le_refl _)), ?_⟩
  rcases (max_fold ((goodR r false).map (cashS r)) 0 (((goodR r false).map (cashS r)).foldl max 0)).1 (Int.le_refl _) with h | ⟨x, hx, h⟩
  · left
    have := (max_fold ((goodR r false).map (cashS r)) 0 0).2 (.inl (Int.le_refl _))
    omega
  · right
    obtain ⟨t, ht, rfl⟩ := List.mem_map.1 hx
    refine ⟨t, ht, ?_⟩
    have := (max_fold ((goodR r false).map (cashS r)) 0 (cashS r t)).2 (.inr ⟨_, List.mem_map_of_mem ht, Int.le_refl _⟩)
    omega
/-! ### All stops -/
end Go.Proofs.Ytbejgfpaokcnpaa

/-
  Another day: all is later by the same number: plain.
-/
namespace Go.Proofs.Ytbejgfpaokcnpaa
open Go Go.V

end Go.Proofs.Ytbejgfpaokcnpaa

/-
  More time: plain.
-/
namespace Go.Proofs.Ytbejgfpaokcnpaa
open Go Go.V

theorem goS_good {r : Route} {t : List Nat} (hd : ridden r t = true) : (goS r t).2.2 = (ride r (leave r) t).2.2.now + r.d (ride r (leave r) t).2.2.at_ r.n := by
  have h := ridden_none hd
  unfold goS
  generalize ride r (leave r) t = x at *
  obtain ⟨ts, m, v⟩ := x
  simp only at h
  subst h
  rfl
theorem allR_lt {r : Route} {t : List Nat} (h : t ∈ allR r) : ∀ k ∈ t, k < r.n := (allR_ok t h).2
theorem goodR_ridden {r : Route} {w : Bool} {t : List Nat} (h : t ∈ goodR r w) : ridden r t = true := by
  have := (List.mem_filter.1 h).2
  unfold goodP at this
  rw [Bool.and_eq_true] at this
  exact this.2
theorem goodR_lt {r : Route} {w : Bool} {t : List Nat} (h : t ∈ goodR r w) : ∀ k ∈ t, k < r.n := by
  have h1 : t ∈ goodR r false := by
    cases w
    · exact h
    · exact goodR_false h
  exact (allR_lt (List.mem_filter.1 h1).1)
theorem errR_ok {r : Route} (h : r.ok = true) : errR r = if goodR r true = [] then 3 else 0 := by unfold errR; rw [if_pos h]
end Go.Proofs.Ytbejgfpaokcnpaa

namespace Go.Proofs.Ytbejgfpaokcnpaa
open Go Go.V
end Go.Proofs.Ytbejgfpaokcnpaa

namespace Go.Proofs.Ytbejgfpaokcnpaa
open Go Go.V
theorem getD_set {α : Type} (l : List α) (i k : Nat) (a d : α) : (l.set i a).getD k d = if i = k ∧ i < l.length then a else l.getD k d := by
  simp only [List.getD_eq_getElem?_getD, List.getElem?_set]
  by_cases h : i = k
  · subst h
    by_cases h2 : i < l.length
    · simp [h2]
    · rw [if_pos rfl, if_neg h2, if_neg (by simp [h2]), List.getElem?_eq_none (by omega)]
  · simp [h]
end Go.Proofs.Ytbejgfpaokcnpaa

namespace Go.Proofs.Ytbejgfpaokcnpaa
open Go Go.V
@[reducible] def o48_0 : List Ins := [⟨(some 8), .mv (.k (.c (.bool false))), none, true⟩]
@[reducible] def o48_1 : List Ins := [⟨(some 10), .mv (.t 0), none, true⟩,
  ⟨(some 11), .len (.t 10), none, true⟩,
  ⟨(some 12), .mv (.t 1), none, true⟩,
  ⟨(some 13), .len (.t 12), none, true⟩,
  ⟨(some 14), .bin .neq (.t 11) (.t 13), none, true⟩,
  ⟨(some 15), .mv (.t 14), none, true⟩,
  ⟨(some 16), .mv (.t 0), (some (15, false)), true⟩,
  ⟨(some 17), .len (.t 16), (some (15, false)), true⟩,
  ⟨(some 18), .mv (.t 3), (some (15, false)), true⟩,
  ⟨(some 19), .bin .gtr (.t 17) (.t 18), (some (15, false)), true⟩,
  ⟨(some 20), .pick (.t 15) (.k (.c (.bool true))) (.t 19), none, true⟩]
@[reducible] def o48_2 : List Ins := [⟨(some 8), .mv (.k (.c (.bool false))), none, true⟩]
@[reducible] def v48_3 : VC := (.seq (.ops o48_2) .ret)
@[reducible] def v48_4 : VC := (.cond (.t 20) v48_3 .skip)
@[reducible] def o48_5 : List Ins := [⟨(some 9), .mv (.k (.c (.int .i64 0))), none, true⟩]
@[reducible] def o48_6 : List Ins := [⟨(some 21), .mv (.t 9), none, true⟩,
  ⟨(some 22), .mv (.t 1), none, true⟩,
  ⟨(some 23), .len (.t 22), none, true⟩,
  ⟨(some 24), .bin .lss (.t 21) (.t 23), none, true⟩]
@[reducible] def v48_7 : VC := (.cond (.t 24) .skip (.exit 0))
@[reducible] def o48_8 : List Ins := [⟨(some 27), .mv (.t 1), none, true⟩,
  ⟨(some 28), .mv (.t 9), none, true⟩,
  ⟨(some 29), .ia 1 (.t 27) (.t 28), none, true⟩,
  ⟨(some 30), .ld true 1 (.t 29), none, true⟩,
  ⟨(some 31), .bin .lss (.t 30) (.k (.c (.int .i64 0))), none, true⟩,
  ⟨(some 32), .mv (.t 31), none, true⟩,
  ⟨(some 33), .mv (.t 1), (some (32, false)), true⟩,
  ⟨(some 34), .mv (.t 9), (some (32, false)), true⟩,
  ⟨(some 35), .ia 1 (.t 33) (.t 34), (some (32, false)), true⟩,
  ⟨(some 36), .ld true 1 (.t 35), (some (32, false)), true⟩,
  ⟨(some 37), .mv (.t 3), (some (32, false)), true⟩,
  ⟨(some 38), .bin .geq (.t 36) (.t 37), (some (32, false)), true⟩,
  ⟨(some 39), .pick (.t 32) (.k (.c (.bool true))) (.t 38), none, true⟩,
  ⟨(some 40), .mv (.t 39), none, true⟩,
  ⟨(some 41), .mv (.t 0), (some (40, false)), true⟩,
  ⟨(some 42), .mv (.t 1), (some (40, false)), true⟩,
  ⟨(some 43), .mv (.t 9), (some (40, false)), true⟩,
  ⟨(some 44), .ia 1 (.t 42) (.t 43), (some (40, false)), true⟩,
  ⟨(some 45), .ld true 1 (.t 44), (some (40, false)), true⟩,
  ⟨(some 46), .mv (.t 2), (some (40, false)), true⟩,
  ⟨(some 47), .bin .add (.t 45) (.t 46), (some (40, false)), true⟩,
  ⟨(some 48), .mv (.t 3), (some (40, false)), true⟩,
  ⟨(some 49), .bin .rem (.t 47) (.t 48), (some (40, false)), true⟩,
  ⟨(some 50), .call (.k (.fn 47 [])) [(.t 41), (.t 49)], (some (40, false)), true⟩,
  ⟨(some 51), .un .not (.t 50), (some (40, false)), true⟩,
  ⟨(some 52), .pick (.t 40) (.k (.c (.bool true))) (.t 51), none, true⟩]
@[reducible] def o48_9 : List Ins := [⟨(some 8), .mv (.k (.c (.bool false))), none, true⟩]
@[reducible] def v48_10 : VC := (.seq (.ops o48_9) .ret)
@[reducible] def v48_11 : VC := (.cond (.t 52) v48_10 .skip)
@[reducible] def v48_12 : VC := (.seq (.ops o48_8) v48_11)
@[reducible] def o48_13 : List Ins := [⟨(some 25), .mv (.t 9), none, true⟩,
  ⟨(some 26), .bin .add (.t 25) (.k (.c (.int .i64 1))), none, true⟩,
  ⟨(some 9), .mv (.t 26), none, true⟩]
@[reducible] def v48_14 : VC := (.seq (.block 1 v48_12) (.ops o48_13))
@[reducible] def v48_15 : VC := (.seq (.seq (.ops o48_6) v48_7) v48_14)
-- K48_1: changed and kept: [9]
@[reducible] def K48_1 : List Nat := [0, 1, 2, 3]
@[reducible] def v48_16 : VC := (.loop v48_15)
@[reducible] def v48_17 : VC := (.block 0 v48_16)
@[reducible] def o48_18 : List Ins := [⟨(some 8), .mv (.k (.c (.bool true))), none, true⟩]
@[reducible] def v48_19 : VC := (.seq (.ops o48_18) .ret)
@[reducible] def v48_20 : VC := (.seq (.seq (.ops o48_5) v48_17) v48_19)
@[reducible] def v48_21 : VC := (.seq (.seq (.ops o48_1) v48_4) v48_20)
def ir48 : FC := ⟨4, 53, [.t 8], (.seq (.ops o48_0) v48_21)⟩
theorem c48 : compM Try.prog [] 48 = some ir48 := by kernel_rfl



theorem rem_nat (a b n : Nat) : ((a : Int) + (b : Int)).tmod (n : Int) = (((a + b) % n : Nat) : Int) := by
  rw [Int.tmod_eq_emod_of_nonneg (by omega)]
  norm_cast
set_option maxHeartbeats 4000000 in
theorem moved48 {a b : List Int} {by_ many : Nat} (h1 : a.length = b.length) (h2 : a.length ≤ many) (hm : 0 < many ∧ many ≤ 7) (hby : by_ ≤ 100) (hin : ∀ x ∈ b, ∃ k : Nat, x = k ∧ k < many ∧ (((k + by_) % many : Nat) : Int) ∈ a) : FSpec Try.prog 48 [.c (ints a), .c (ints b), iv by_, iv many] (.c (.bool true)) := by
  have f1 : ((a.length : Int) != (b.length : Int)) = false := by simp; omega
  have f2 : decide ((many : Int) < (a.length : Int)) = false := by simp; omega
  refine FSpec_of c48 (Nat.le_refl _) (by decide) fun C hP hN hC hL => ?_
  simp only [ir48, ints]
  (repeat ((first | refine WV_seq_ ?_ | refine WV_block ?_ | refine WV_ops ?_ | refine WV_skip ?_ | refine WV_exit ?_); (try simp only [go_sem, init_env', Nat.reduceEqDiff, Nat.reduceAdd, Nat.reduceMul, reduceIte, Nat.reduceLeDiff, Nat.reduceLT, Nat.reduceBEq, reduceCtorEq, hP, List.length_map, f1, f2]); (repeat (refine And.intro (by first | omega | (intros; simp_all; done) | (intros; simp_all; omega)) ?_))))
  (refine WV_cond rfl (fun h => ?_) (fun h => ?_))
  · simp at h
  · (repeat ((first | refine WV_seq_ ?_ | refine WV_block ?_ | refine WV_ops ?_ | refine WV_skip ?_ | refine WV_exit ?_); (try simp only [go_sem, init_env', Nat.reduceEqDiff, Nat.reduceAdd, Nat.reduceMul, reduceIte, Nat.reduceLeDiff, Nat.reduceLT, Nat.reduceBEq, reduceCtorEq, hP, ]); (repeat (refine And.intro (by first | omega | (intros; simp_all; done) | (intros; simp_all; omega)) ?_))))
    (refine WV_loopK K48_1 [] (fun k : Nat => k ≤ b.length) (fun k => b.length - k) (fun k => [(9, iv k)]) (fun _ => []) 0 (Nat.zero_le _) ?_ ?_)
    · (refine Sub_of (by simp only [go_sem, init_env', Nat.reduceEqDiff, Nat.reduceAdd, Nat.reduceMul, reduceIte, Nat.reduceLeDiff, Nat.reduceLT, Nat.reduceBEq, reduceCtorEq]; ((repeat' (first | exact EnvLe_e0 _ _ | refine EnvLe_upd ?_ ?_)) <;> ((try simp only [upd_app, e0_app, o0_app, Nat.reduceEqDiff, reduceIte]); first | exact AWk.refl _ _ | exact AWk.int (by omega) | exact AWk.int (by rw [w64 (by omega) (by omega)]; omega) | exact AWk.grow rfl | exact AWk.nil _ | exact AWk.of (by simp)))) (by simp only [go_sem, init_env', Nat.reduceEqDiff, Nat.reduceAdd, Nat.reduceMul, reduceIte, Nat.reduceLeDiff, Nat.reduceLT, Nat.reduceBEq, reduceCtorEq]; (first | ((repeat' (first | exact ObjLe_o0 _ | exact ObjLe.rfl' _ | refine ObjLe_same ?_ | refine ObjLe_upd ?_ ?_ | refine ObjLe_new rfl ?_)) <;> rfl) | (refine ObjLe_X ?_; (repeat' (first | exact ObjLeX_o0 _ _ | refine ObjLeX_skip rfl ?_ | refine ObjLeX_upd ?_ ?_)) <;> rfl))))
    · intro k hk
      simp only [go_sem, init_env', Nat.reduceEqDiff, Nat.reduceAdd, Nat.reduceMul, reduceIte, Nat.reduceLeDiff, Nat.reduceLT, Nat.reduceBEq, reduceCtorEq]
      (repeat ((first | refine WV_seq_ ?_ | refine WV_block ?_ | refine WV_ops ?_ | refine WV_skip ?_ | refine WV_exit ?_); (try simp only [go_sem, init_env', Nat.reduceEqDiff, Nat.reduceAdd, Nat.reduceMul, reduceIte, Nat.reduceLeDiff, Nat.reduceLT, Nat.reduceBEq, reduceCtorEq, hP, List.length_map]); (repeat (refine And.intro (by first | omega | (intros; simp_all; done) | (intros; simp_all; omega)) ?_))))
      (refine WV_cond rfl (fun h => ?_) (fun h => ?_))
      · have h : k < b.length := by simpa using h
        have hw2 := w64 (n := (k : Int) + 1) (by omega) (by omega)
        obtain ⟨m, e1, e2, e3⟩ := hin _ (List.getElem_mem h)
        have g1 : decide ((m : Int) < 0) = false := by simp
        have g2 : decide ((many : Int) ≤ (m : Int)) = false := by simp; omega
        have hw3 := w64 (n := (m : Int) + (by_ : Int)) (by omega) (by omega)
        have g3 : decide ((((m + by_) % many : Nat) : Int) ∈ a) = true := by simpa using e3
        (repeat ((first | refine WV_seq_ ?_ | refine WV_block ?_ | refine WV_ops ?_ | refine WV_skip ?_ | refine WV_exit ?_); (try simp only [go_sem, init_env', Nat.reduceEqDiff, Nat.reduceAdd, Nat.reduceMul, reduceIte, Nat.reduceLeDiff, Nat.reduceLT, Nat.reduceBEq, reduceCtorEq, hP, Int.toNat_natCast, map_getD h, Int.ofNat_lt, h, Int.natCast_nonneg, List.length_map, e1, g1, g2, hw3, rem_nat]); (repeat (refine And.intro (by first | omega | (intros; simp_all; done) | (intros; simp_all; omega)) ?_))))
        (refine AG_pure (fun hG => in47 a (((m + by_) % many : Nat) : Int)) rfl (fun hG => by first | (simp only [go_sem, init_env', Nat.reduceEqDiff, Nat.reduceAdd, Nat.reduceMul, reduceIte, Nat.reduceLeDiff, Nat.reduceLT, Nat.reduceBEq, reduceCtorEq, hG]; done) | (simp only [go_sem, init_env', Nat.reduceEqDiff, Nat.reduceAdd, Nat.reduceMul, reduceIte, Nat.reduceLeDiff, Nat.reduceLT, Nat.reduceBEq, reduceCtorEq]; revert hG; simp; done) | (simp only [go_sem, init_env', Nat.reduceEqDiff, Nat.reduceAdd, Nat.reduceMul, reduceIte, Nat.reduceLeDiff, Nat.reduceLT, Nat.reduceBEq, reduceCtorEq, hG]; simp_all; done) | (revert hG; simp; done) | simp_all) rfl rfl rfl ?_; simp only [go_sem, init_env', Nat.reduceEqDiff, Nat.reduceAdd, Nat.reduceMul, reduceIte, Nat.reduceLeDiff, Nat.reduceLT, Nat.reduceBEq, reduceCtorEq, hP, ints, g3]; (repeat (refine And.intro (by first | omega | (intros; simp_all; done) | (intros; simp_all; omega)) ?_)); (repeat ((first | refine WV_seq_ ?_ | refine WV_block ?_ | refine WV_ops ?_ | refine WV_skip ?_ | refine WV_exit ?_); (try simp only [go_sem, init_env', Nat.reduceEqDiff, Nat.reduceAdd, Nat.reduceMul, reduceIte, Nat.reduceLeDiff, Nat.reduceLT, Nat.reduceBEq, reduceCtorEq, hP, ints, g3]); (repeat (refine And.intro (by first | omega | (intros; simp_all; done) | (intros; simp_all; omega)) ?_)))))
        (refine WV_cond rfl (fun h => ?_) (fun h => ?_))
        · simp at h
        · (repeat ((first | refine WV_seq_ ?_ | refine WV_block ?_ | refine WV_ops ?_ | refine WV_skip ?_ | refine WV_exit ?_); (try simp only [go_sem, init_env', Nat.reduceEqDiff, Nat.reduceAdd, Nat.reduceMul, reduceIte, Nat.reduceLeDiff, Nat.reduceLT, Nat.reduceBEq, reduceCtorEq, hP, hw2]); (repeat (refine And.intro (by first | omega | (intros; simp_all; done) | (intros; simp_all; omega)) ?_))))
          refine ⟨k + 1, by omega, by omega, ?_⟩
          (refine Sub_of (by simp only [go_sem, init_env', Nat.reduceEqDiff, Nat.reduceAdd, Nat.reduceMul, reduceIte, Nat.reduceLeDiff, Nat.reduceLT, Nat.reduceBEq, reduceCtorEq]; ((repeat' (first | exact EnvLe_e0 _ _ | refine EnvLe_upd ?_ ?_)) <;> ((try simp only [upd_app, e0_app, o0_app, Nat.reduceEqDiff, reduceIte]); first | exact AWk.refl _ _ | exact AWk.int (by omega) | exact AWk.int (by rw [w64 (by omega) (by omega)]; omega) | exact AWk.grow rfl | exact AWk.nil _ | exact AWk.of (by simp)))) (by simp only [go_sem, init_env', Nat.reduceEqDiff, Nat.reduceAdd, Nat.reduceMul, reduceIte, Nat.reduceLeDiff, Nat.reduceLT, Nat.reduceBEq, reduceCtorEq]; (first | ((repeat' (first | exact ObjLe_o0 _ | exact ObjLe.rfl' _ | refine ObjLe_same ?_ | refine ObjLe_upd ?_ ?_ | refine ObjLe_new rfl ?_)) <;> rfl) | (refine ObjLe_X ?_; (repeat' (first | exact ObjLeX_o0 _ _ | refine ObjLeX_skip rfl ?_ | refine ObjLeX_upd ?_ ?_)) <;> rfl))))
      · (repeat ((first | refine WV_seq_ ?_ | refine WV_block ?_ | refine WV_ops ?_ | refine WV_skip ?_ | refine WV_exit ?_); (try simp only [go_sem, init_env', Nat.reduceEqDiff, Nat.reduceAdd, Nat.reduceMul, reduceIte, Nat.reduceLeDiff, Nat.reduceLT, Nat.reduceBEq, reduceCtorEq, hP, ]); (repeat (refine And.intro (by first | omega | (intros; simp_all; done) | (intros; simp_all; omega)) ?_))))
        (refine WV_ret ?_; simp only [thenQ, inQ, RetQ, RetOk, resAll, resA]; simp only [go_sem, init_env', Nat.reduceEqDiff, Nat.reduceAdd, Nat.reduceMul, reduceIte, Nat.reduceLeDiff, Nat.reduceLT, Nat.reduceBEq, reduceCtorEq, tupA, AV.port, AV.portL, exists_eq_left', ]; (first | exact AVle.of rfl | refine AVle.of ?_ | skip))
end Go.Proofs.Ytbejgfpaokcnpaa

namespace Go.Proofs.Ytbejgfpaokcnpaa
open Go Go.V
@[reducible] def o12_0 : List Ins := [⟨(some 2), .box 3 (.t 0), none, true⟩,
  ⟨(some 4), .mv (.k (.c (.bool false))), none, true⟩]
@[reducible] def o12_1 : List Ins := [⟨(some 21), .fa 0 (.t 2), none, true⟩,
  ⟨(some 22), .ld true 1 (.t 21), none, true⟩,
  ⟨(some 23), .len (.t 22), none, true⟩,
  ⟨(some 5), .mv (.t 23), none, true⟩]
@[reducible] def o12_2 : List Ins := [⟨(some 24), .ld false 3 (.t 2), none, true⟩,
  ⟨(some 25), .call (.k (.fn 13 [])) [(.t 24)], none, true⟩,
  ⟨(some 26), .un .not (.t 25), none, true⟩,
  ⟨(some 27), .mv (.t 26), none, true⟩,
  ⟨(some 28), .mv (.t 1), (some (27, false)), true⟩,
  ⟨(some 29), .bin .lss (.t 28) (.k (.c (.int .i64 0))), (some (27, false)), true⟩,
  ⟨(some 30), .pick (.t 27) (.k (.c (.bool true))) (.t 29), none, true⟩,
  ⟨(some 31), .mv (.t 30), none, true⟩,
  ⟨(some 32), .mv (.t 1), (some (31, false)), true⟩,
  ⟨(some 33), .bin .gtr (.t 32) (.k (.c (.int .i64 100))), (some (31, false)), true⟩,
  ⟨(some 34), .pick (.t 31) (.k (.c (.bool true))) (.t 33), none, true⟩,
  ⟨(some 35), .mv (.t 34), none, true⟩,
  ⟨(some 36), .mv (.t 5), (some (35, false)), true⟩,
  ⟨(some 37), .bin .eql (.t 36) (.k (.c (.int .i64 0))), (some (35, false)), true⟩,
  ⟨(some 38), .pick (.t 35) (.k (.c (.bool true))) (.t 37), none, true⟩]
@[reducible] def o12_3 : List Ins := [⟨(some 39), .call (.k (.fn 14 [])) [], none, true⟩,
  ⟨(some 4), .mv (.t 39), none, true⟩]
@[reducible] def v12_4 : VC := (.seq (.ops o12_3) .ret)
@[reducible] def v12_5 : VC := (.cond (.t 38) v12_4 .skip)
@[reducible] def o12_6 : List Ins := [⟨(some 40), .ld false 3 (.t 2), none, true⟩,
  ⟨(some 41), .call (.k (.fn 17 [])) [(.t 40)], none, true⟩,
  ⟨(some 6), .alloc [(.c (.raw (.slice none 0 0))), (.c (.raw (.slice none 0 0))), (.c (.int .i64 0))], none, true⟩,
  ⟨none, .st 3 (.t 6) (.t 41), none, true⟩]
@[reducible] def o12_7 : List Ins := [⟨(some 7), .mv (.k (.c (.int .i64 0))), none, true⟩]
@[reducible] def o12_8 : List Ins := [⟨(some 42), .mv (.t 7), none, true⟩,
  ⟨(some 43), .mv (.t 5), none, true⟩,
  ⟨(some 44), .bin .lss (.t 42) (.t 43), none, true⟩]
@[reducible] def v12_9 : VC := (.cond (.t 44) .skip (.exit 0))
@[reducible] def o12_10 : List Ins := [⟨(some 47), .fa 0 (.t 6), none, false⟩,
  ⟨(some 48), .ld true 1 (.t 47), none, false⟩,
  ⟨(some 49), .mv (.t 7), none, false⟩,
  ⟨(some 50), .fa 0 (.t 2), none, false⟩,
  ⟨(some 51), .ld true 1 (.t 50), none, false⟩,
  ⟨(some 52), .mv (.t 7), none, false⟩,
  ⟨(some 53), .mv (.t 1), none, false⟩,
  ⟨(some 54), .bin .add (.t 52) (.t 53), none, false⟩,
  ⟨(some 55), .mv (.t 5), none, false⟩,
  ⟨(some 56), .bin .rem (.t 54) (.t 55), none, false⟩,
  ⟨(some 57), .ia 4 (.t 51) (.t 56), none, false⟩,
  ⟨(some 58), .ld false 4 (.t 57), none, false⟩,
  ⟨(some 59), .ia 4 (.t 48) (.t 49), none, true⟩,
  ⟨none, .st 4 (.t 59) (.t 58), none, true⟩]
@[reducible] def o12_11 : List Ins := [⟨(some 60), .fa 1 (.t 6), none, false⟩,
  ⟨(some 61), .ld true 1 (.t 60), none, false⟩,
  ⟨(some 62), .mv (.t 7), none, false⟩,
  ⟨(some 63), .ia 1 (.t 61) (.t 62), none, false⟩,
  ⟨(some 64), .ld true 1 (.t 63), none, false⟩,
  ⟨(some 65), .mv (.t 5), none, false⟩,
  ⟨(some 66), .fa 1 (.t 6), none, false⟩,
  ⟨(some 67), .ld true 1 (.t 66), none, false⟩,
  ⟨(some 68), .mv (.t 5), none, false⟩,
  ⟨(some 69), .ia 1 (.t 67) (.t 68), none, false⟩,
  ⟨(some 70), .ld true 1 (.t 69), none, false⟩,
  ⟨(some 71), .mv (.t 7), none, false⟩,
  ⟨(some 72), .fa 1 (.t 2), none, false⟩,
  ⟨(some 73), .ld true 1 (.t 72), none, false⟩,
  ⟨(some 74), .mv (.t 7), none, false⟩,
  ⟨(some 75), .mv (.t 1), none, false⟩,
  ⟨(some 76), .bin .add (.t 74) (.t 75), none, false⟩,
  ⟨(some 77), .mv (.t 5), none, false⟩,
  ⟨(some 78), .bin .rem (.t 76) (.t 77), none, false⟩,
  ⟨(some 79), .ia 1 (.t 73) (.t 78), none, false⟩,
  ⟨(some 80), .ld true 1 (.t 79), none, false⟩,
  ⟨(some 81), .mv (.t 5), none, false⟩,
  ⟨(some 82), .ia 1 (.t 80) (.t 81), none, false⟩,
  ⟨(some 83), .ld true 1 (.t 82), none, false⟩,
  ⟨(some 84), .fa 1 (.t 2), none, false⟩,
  ⟨(some 85), .ld true 1 (.t 84), none, false⟩,
  ⟨(some 86), .mv (.t 5), none, false⟩,
  ⟨(some 87), .ia 1 (.t 85) (.t 86), none, false⟩,
  ⟨(some 88), .ld true 1 (.t 87), none, false⟩,
  ⟨(some 89), .mv (.t 7), none, false⟩,
  ⟨(some 90), .mv (.t 1), none, false⟩,
  ⟨(some 91), .bin .add (.t 89) (.t 90), none, false⟩,
  ⟨(some 92), .mv (.t 5), none, false⟩,
  ⟨(some 93), .bin .rem (.t 91) (.t 92), none, false⟩,
  ⟨(some 94), .ia 1 (.t 88) (.t 93), none, false⟩,
  ⟨(some 95), .ld true 1 (.t 94), none, false⟩,
  ⟨(some 96), .ia 1 (.t 64) (.t 65), none, false⟩,
  ⟨none, .st 1 (.t 96) (.t 83), none, false⟩,
  ⟨(some 97), .ia 1 (.t 70) (.t 71), none, true⟩,
  ⟨none, .st 1 (.t 97) (.t 95), none, true⟩]
@[reducible] def o12_12 : List Ins := [⟨(some 8), .mv (.k (.c (.int .i64 0))), none, true⟩]
@[reducible] def o12_13 : List Ins := [⟨(some 98), .mv (.t 8), none, true⟩,
  ⟨(some 99), .mv (.t 5), none, true⟩,
  ⟨(some 100), .bin .lss (.t 98) (.t 99), none, true⟩]
@[reducible] def v12_14 : VC := (.cond (.t 100) .skip (.exit 2))
@[reducible] def o12_15 : List Ins := [⟨(some 103), .fa 1 (.t 6), none, false⟩,
  ⟨(some 104), .ld true 1 (.t 103), none, false⟩,
  ⟨(some 105), .mv (.t 7), none, false⟩,
  ⟨(some 106), .ia 1 (.t 104) (.t 105), none, false⟩,
  ⟨(some 107), .ld true 1 (.t 106), none, false⟩,
  ⟨(some 108), .mv (.t 8), none, false⟩,
  ⟨(some 109), .fa 1 (.t 2), none, false⟩,
  ⟨(some 110), .ld true 1 (.t 109), none, false⟩,
  ⟨(some 111), .mv (.t 7), none, false⟩,
  ⟨(some 112), .mv (.t 1), none, false⟩,
  ⟨(some 113), .bin .add (.t 111) (.t 112), none, false⟩,
  ⟨(some 114), .mv (.t 5), none, false⟩,
  ⟨(some 115), .bin .rem (.t 113) (.t 114), none, false⟩,
  ⟨(some 116), .ia 1 (.t 110) (.t 115), none, false⟩,
  ⟨(some 117), .ld true 1 (.t 116), none, false⟩,
  ⟨(some 118), .mv (.t 8), none, false⟩,
  ⟨(some 119), .mv (.t 1), none, false⟩,
  ⟨(some 120), .bin .add (.t 118) (.t 119), none, false⟩,
  ⟨(some 121), .mv (.t 5), none, false⟩,
  ⟨(some 122), .bin .rem (.t 120) (.t 121), none, false⟩,
  ⟨(some 123), .ia 1 (.t 117) (.t 122), none, false⟩,
  ⟨(some 124), .ld true 1 (.t 123), none, false⟩,
  ⟨(some 125), .ia 1 (.t 107) (.t 108), none, true⟩,
  ⟨none, .st 1 (.t 125) (.t 124), none, true⟩]
@[reducible] def o12_16 : List Ins := [⟨(some 101), .mv (.t 8), none, true⟩,
  ⟨(some 102), .bin .add (.t 101) (.k (.c (.int .i64 1))), none, true⟩,
  ⟨(some 8), .mv (.t 102), none, true⟩]
@[reducible] def v12_17 : VC := (.seq (.block 3 (.ops o12_15)) (.ops o12_16))
@[reducible] def v12_18 : VC := (.seq (.seq (.ops o12_13) v12_14) v12_17)
-- K12_2: changed and kept: [8]
@[reducible] def v12_19 : VC := (.loop v12_18)
@[reducible] def v12_20 : VC := (.block 2 v12_19)
@[reducible] def v12_21 : VC := (.seq (.ops o12_12) v12_20)
@[reducible] def v12_22 : VC := (.seq (.ops o12_11) v12_21)
@[reducible] def v12_23 : VC := (.seq (.ops o12_10) v12_22)
@[reducible] def o12_24 : List Ins := [⟨(some 45), .mv (.t 7), none, true⟩,
  ⟨(some 46), .bin .add (.t 45) (.k (.c (.int .i64 1))), none, true⟩,
  ⟨(some 7), .mv (.t 46), none, true⟩]
@[reducible] def v12_25 : VC := (.seq (.block 1 v12_23) (.ops o12_24))
@[reducible] def v12_26 : VC := (.seq (.seq (.ops o12_8) v12_9) v12_25)
-- K12_1: changed and kept: [7]
@[reducible] def v12_27 : VC := (.loop v12_26)
@[reducible] def v12_28 : VC := (.block 0 v12_27)
@[reducible] def o12_29 : List Ins := [⟨(some 127), .ld false 3 (.t 2), none, true⟩,
  ⟨(some 128), .call (.k (.fn 35 [])) [(.t 127)], none, true⟩,
  ⟨(some 126), .mv (.t 128), none, true⟩,
  ⟨(some 129), .ext (.t 126) 0, none, true⟩,
  ⟨(some 130), .ext (.t 126) 1, none, true⟩,
  ⟨(some 9), .mv (.t 129), none, true⟩,
  ⟨(some 10), .mv (.t 130), none, true⟩]
@[reducible] def o12_30 : List Ins := [⟨(some 132), .ld false 3 (.t 6), none, true⟩,
  ⟨(some 133), .call (.k (.fn 35 [])) [(.t 132)], none, true⟩,
  ⟨(some 131), .mv (.t 133), none, true⟩,
  ⟨(some 134), .ext (.t 131) 0, none, true⟩,
  ⟨(some 135), .ext (.t 131) 1, none, true⟩,
  ⟨(some 11), .mv (.t 134), none, true⟩,
  ⟨(some 12), .mv (.t 135), none, true⟩]
@[reducible] def o12_31 : List Ins := [⟨(some 137), .ld false 3 (.t 2), none, true⟩,
  ⟨(some 138), .call (.k (.fn 15 [])) [(.t 137)], none, true⟩,
  ⟨(some 136), .mv (.t 138), none, true⟩,
  ⟨(some 139), .ext (.t 136) 0, none, true⟩,
  ⟨(some 140), .ext (.t 136) 1, none, true⟩,
  ⟨(some 13), .mv (.t 139), none, true⟩,
  ⟨(some 14), .mv (.t 140), none, true⟩]
@[reducible] def o12_32 : List Ins := [⟨(some 142), .ld false 3 (.t 6), none, true⟩,
  ⟨(some 143), .call (.k (.fn 15 [])) [(.t 142)], none, true⟩,
  ⟨(some 141), .mv (.t 143), none, true⟩,
  ⟨(some 144), .ext (.t 141) 0, none, true⟩,
  ⟨(some 145), .ext (.t 141) 1, none, true⟩,
  ⟨(some 15), .mv (.t 144), none, true⟩,
  ⟨(some 16), .mv (.t 145), none, true⟩]
@[reducible] def o12_33 : List Ins := [⟨(some 146), .mv (.t 9), none, true⟩,
  ⟨(some 147), .mv (.t 11), none, true⟩,
  ⟨(some 148), .bin .neq (.t 146) (.t 147), none, true⟩,
  ⟨(some 149), .mv (.t 148), none, true⟩,
  ⟨(some 150), .mv (.t 10), (some (149, false)), true⟩,
  ⟨(some 151), .mv (.t 12), (some (149, false)), true⟩,
  ⟨(some 152), .bin .neq (.t 150) (.t 151), (some (149, false)), true⟩,
  ⟨(some 153), .pick (.t 149) (.k (.c (.bool true))) (.t 152), none, true⟩,
  ⟨(some 154), .mv (.t 153), none, true⟩,
  ⟨(some 155), .mv (.t 13), (some (154, false)), true⟩,
  ⟨(some 156), .mv (.t 15), (some (154, false)), true⟩,
  ⟨(some 157), .bin .neq (.t 155) (.t 156), (some (154, false)), true⟩,
  ⟨(some 158), .pick (.t 154) (.k (.c (.bool true))) (.t 157), none, true⟩,
  ⟨(some 159), .mv (.t 158), none, true⟩,
  ⟨(some 160), .mv (.t 14), (some (159, false)), true⟩,
  ⟨(some 161), .mv (.t 16), (some (159, false)), true⟩,
  ⟨(some 162), .bin .neq (.t 160) (.t 161), (some (159, false)), true⟩,
  ⟨(some 163), .pick (.t 159) (.k (.c (.bool true))) (.t 162), none, true⟩]
@[reducible] def o12_34 : List Ins := [⟨(some 4), .mv (.k (.c (.bool false))), none, true⟩]
@[reducible] def v12_35 : VC := (.seq (.ops o12_34) .ret)
@[reducible] def v12_36 : VC := (.cond (.t 163) v12_35 .skip)
@[reducible] def o12_37 : List Ins := [⟨(some 165), .ld false 3 (.t 2), none, true⟩,
  ⟨(some 166), .call (.k (.fn 20 [])) [(.t 165)], none, true⟩,
  ⟨(some 164), .mv (.t 166), none, true⟩,
  ⟨(some 167), .ext (.t 164) 0, none, true⟩,
  ⟨(some 168), .ext (.t 164) 1, none, true⟩,
  ⟨(some 9), .mv (.t 167), none, true⟩,
  ⟨(some 10), .mv (.t 168), none, true⟩]
@[reducible] def o12_38 : List Ins := [⟨(some 170), .ld false 3 (.t 6), none, true⟩,
  ⟨(some 171), .call (.k (.fn 20 [])) [(.t 170)], none, true⟩,
  ⟨(some 169), .mv (.t 171), none, true⟩,
  ⟨(some 172), .ext (.t 169) 0, none, true⟩,
  ⟨(some 173), .ext (.t 169) 1, none, true⟩,
  ⟨(some 11), .mv (.t 172), none, true⟩,
  ⟨(some 12), .mv (.t 173), none, true⟩]
@[reducible] def o12_39 : List Ins := [⟨(some 175), .ld false 3 (.t 2), none, true⟩,
  ⟨(some 176), .call (.k (.fn 41 [])) [(.t 175)], none, true⟩,
  ⟨(some 174), .mv (.t 176), none, true⟩,
  ⟨(some 177), .ext (.t 174) 0, none, true⟩,
  ⟨(some 178), .ext (.t 174) 1, none, true⟩,
  ⟨(some 13), .mv (.t 177), none, true⟩,
  ⟨(some 14), .mv (.t 178), none, true⟩]
@[reducible] def o12_40 : List Ins := [⟨(some 180), .ld false 3 (.t 6), none, true⟩,
  ⟨(some 181), .call (.k (.fn 41 [])) [(.t 180)], none, true⟩,
  ⟨(some 179), .mv (.t 181), none, true⟩,
  ⟨(some 182), .ext (.t 179) 0, none, true⟩,
  ⟨(some 183), .ext (.t 179) 1, none, true⟩,
  ⟨(some 15), .mv (.t 182), none, true⟩,
  ⟨(some 16), .mv (.t 183), none, true⟩]
@[reducible] def o12_41 : List Ins := [⟨(some 184), .mv (.t 9), none, true⟩,
  ⟨(some 185), .mv (.t 11), none, true⟩,
  ⟨(some 186), .bin .neq (.t 184) (.t 185), none, true⟩,
  ⟨(some 187), .mv (.t 186), none, true⟩,
  ⟨(some 188), .mv (.t 10), (some (187, false)), true⟩,
  ⟨(some 189), .mv (.t 12), (some (187, false)), true⟩,
  ⟨(some 190), .bin .neq (.t 188) (.t 189), (some (187, false)), true⟩,
  ⟨(some 191), .pick (.t 187) (.k (.c (.bool true))) (.t 190), none, true⟩,
  ⟨(some 192), .mv (.t 191), none, true⟩,
  ⟨(some 193), .mv (.t 13), (some (192, false)), true⟩,
  ⟨(some 194), .mv (.t 15), (some (192, false)), true⟩,
  ⟨(some 195), .bin .neq (.t 193) (.t 194), (some (192, false)), true⟩,
  ⟨(some 196), .pick (.t 192) (.k (.c (.bool true))) (.t 195), none, true⟩,
  ⟨(some 197), .mv (.t 196), none, true⟩,
  ⟨(some 198), .mv (.t 14), (some (197, false)), true⟩,
  ⟨(some 199), .mv (.t 16), (some (197, false)), true⟩,
  ⟨(some 200), .bin .neq (.t 198) (.t 199), (some (197, false)), true⟩,
  ⟨(some 201), .pick (.t 197) (.k (.c (.bool true))) (.t 200), none, true⟩]
@[reducible] def o12_42 : List Ins := [⟨(some 4), .mv (.k (.c (.bool false))), none, true⟩]
@[reducible] def v12_43 : VC := (.seq (.ops o12_42) .ret)
@[reducible] def v12_44 : VC := (.cond (.t 201) v12_43 .skip)
@[reducible] def o12_45 : List Ins := [⟨(some 203), .ld false 3 (.t 2), none, true⟩,
  ⟨(some 204), .call (.k (.fn 38 [])) [(.t 203)], none, true⟩,
  ⟨(some 202), .mv (.t 204), none, true⟩,
  ⟨(some 205), .ext (.t 202) 0, none, true⟩,
  ⟨(some 206), .ext (.t 202) 1, none, true⟩,
  ⟨(some 17), .mv (.t 205), none, true⟩,
  ⟨(some 10), .mv (.t 206), none, true⟩]
@[reducible] def o12_46 : List Ins := [⟨(some 208), .ld false 3 (.t 6), none, true⟩,
  ⟨(some 209), .call (.k (.fn 38 [])) [(.t 208)], none, true⟩,
  ⟨(some 207), .mv (.t 209), none, true⟩,
  ⟨(some 210), .ext (.t 207) 0, none, true⟩,
  ⟨(some 211), .ext (.t 207) 1, none, true⟩,
  ⟨(some 18), .mv (.t 210), none, true⟩,
  ⟨(some 12), .mv (.t 211), none, true⟩]
@[reducible] def o12_47 : List Ins := [⟨(some 213), .ld false 3 (.t 2), none, true⟩,
  ⟨(some 214), .call (.k (.fn 42 [])) [(.t 213)], none, true⟩,
  ⟨(some 212), .mv (.t 214), none, true⟩,
  ⟨(some 215), .ext (.t 212) 0, none, true⟩,
  ⟨(some 216), .ext (.t 212) 1, none, true⟩,
  ⟨(some 19), .mv (.t 215), none, true⟩,
  ⟨(some 14), .mv (.t 216), none, true⟩]
@[reducible] def o12_48 : List Ins := [⟨(some 218), .ld false 3 (.t 6), none, true⟩,
  ⟨(some 219), .call (.k (.fn 42 [])) [(.t 218)], none, true⟩,
  ⟨(some 217), .mv (.t 219), none, true⟩,
  ⟨(some 220), .ext (.t 217) 0, none, true⟩,
  ⟨(some 221), .ext (.t 217) 1, none, true⟩,
  ⟨(some 20), .mv (.t 220), none, true⟩,
  ⟨(some 16), .mv (.t 221), none, true⟩]
@[reducible] def o12_49 : List Ins := [⟨(some 222), .mv (.t 10), none, true⟩,
  ⟨(some 223), .mv (.t 12), none, true⟩,
  ⟨(some 224), .bin .eql (.t 222) (.t 223), none, true⟩,
  ⟨(some 225), .mv (.t 224), none, true⟩,
  ⟨(some 226), .mv (.t 14), (some (225, true)), true⟩,
  ⟨(some 227), .mv (.t 16), (some (225, true)), true⟩,
  ⟨(some 228), .bin .eql (.t 226) (.t 227), (some (225, true)), true⟩,
  ⟨(some 229), .pick (.t 225) (.t 228) (.k (.c (.bool false))), none, true⟩,
  ⟨(some 230), .mv (.t 229), none, true⟩,
  ⟨(some 231), .mv (.t 17), (some (230, true)), true⟩,
  ⟨(some 232), .mv (.t 18), (some (230, true)), true⟩,
  ⟨(some 233), .mv (.t 1), (some (230, true)), true⟩,
  ⟨(some 234), .mv (.t 5), (some (230, true)), true⟩,
  ⟨(some 235), .call (.k (.fn 48 [])) [(.t 231), (.t 232), (.t 233), (.t 234)], (some (230, true)), true⟩,
  ⟨(some 236), .pick (.t 230) (.t 235) (.k (.c (.bool false))), none, true⟩,
  ⟨(some 237), .mv (.t 236), none, true⟩,
  ⟨(some 238), .mv (.t 19), (some (237, true)), true⟩,
  ⟨(some 239), .mv (.t 20), (some (237, true)), true⟩,
  ⟨(some 240), .mv (.t 1), (some (237, true)), true⟩,
  ⟨(some 241), .mv (.t 5), (some (237, true)), true⟩,
  ⟨(some 242), .call (.k (.fn 48 [])) [(.t 238), (.t 239), (.t 240), (.t 241)], (some (237, true)), true⟩,
  ⟨(some 243), .pick (.t 237) (.t 242) (.k (.c (.bool false))), none, true⟩,
  ⟨(some 244), .mv (.t 243), none, true⟩,
  ⟨(some 245), .call (.k (.fn 14 [])) [], (some (244, true)), true⟩,
  ⟨(some 246), .pick (.t 244) (.t 245) (.k (.c (.bool false))), none, true⟩,
  ⟨(some 4), .mv (.t 246), none, true⟩]
@[reducible] def v12_50 : VC := (.seq (.ops o12_49) .ret)
@[reducible] def v12_51 : VC := (.seq (.ops o12_48) v12_50)
@[reducible] def v12_52 : VC := (.seq (.ops o12_47) v12_51)
@[reducible] def v12_53 : VC := (.seq (.ops o12_46) v12_52)
@[reducible] def v12_54 : VC := (.seq (.ops o12_45) v12_53)
@[reducible] def v12_55 : VC := (.seq (.seq (.ops o12_41) v12_44) v12_54)
@[reducible] def v12_56 : VC := (.seq (.ops o12_40) v12_55)
@[reducible] def v12_57 : VC := (.seq (.ops o12_39) v12_56)
@[reducible] def v12_58 : VC := (.seq (.ops o12_38) v12_57)
@[reducible] def v12_59 : VC := (.seq (.ops o12_37) v12_58)
@[reducible] def v12_60 : VC := (.seq (.seq (.ops o12_33) v12_36) v12_59)
@[reducible] def v12_61 : VC := (.seq (.ops o12_32) v12_60)
@[reducible] def v12_62 : VC := (.seq (.ops o12_31) v12_61)
@[reducible] def v12_63 : VC := (.seq (.ops o12_30) v12_62)
@[reducible] def v12_64 : VC := (.seq (.ops o12_29) v12_63)
@[reducible] def v12_65 : VC := (.seq (.seq (.ops o12_7) v12_28) v12_64)
@[reducible] def v12_66 : VC := (.seq (.ops o12_6) v12_65)
@[reducible] def v12_67 : VC := (.seq (.seq (.ops o12_2) v12_5) v12_66)
@[reducible] def v12_68 : VC := (.seq (.ops o12_1) v12_67)
def ir12 : FC := ⟨2, 247, [.t 4], (.seq (.ops o12_0) v12_68)⟩
theorem c12 : compM Try.prog [] 12 = some ir12 := by kernel_rfl



/-- Which stop comes there. -/
def sg (by_ n j : Nat) : Nat := (j + by_) % n
def tau (by_ n j : Nat) : Nat := if j < n then sg by_ n j else j
theorem sg_lt {by_ n j : Nat} (h : 0 < n) : sg by_ n j < n := Nat.mod_lt _ h
/-- A row's element. -/
def cell (R : List (Row Int)) (a b : Nat) : Int := ((R.map Row.l).getD a []).getD b 0
/-- The rows have the shape of these. -/
structure Sh (R0 R : List (Row Int)) (n : Nat) : Prop where
  len : R.length = n + 1
  row : ∀ a, a < n + 1 → ((R.map Row.l).getD a []).length = n + 1
  rf : refs 700 1 0 R = refs 700 1 0 R0
/-- What is written where D says so. -/
def Wr (r : Route) (by_ : Nat) (D : Nat → Nat → Bool) (R : List (Row Int)) : Prop := ∀ a b, a < r.n + 1 → b < r.n + 1 → cell R a b = if D a b then r.d (tau by_ r.n a) (tau by_ r.n b) else r.d a b
theorem Wr.congr {r : Route} {by_ : Nat} {D E : Nat → Nat → Bool} {R : List (Row Int)} (h : Wr r by_ D R) (he : ∀ a b, a < r.n + 1 → b < r.n + 1 → D a b = E a b) : Wr r by_ E R := fun a b ha hb => by rw [← he a b ha hb]; exact h a b ha hb
theorem row_at {R : List (Row Int)} {a : Nat} (h : a < R.length) : (R.map Row.l).getD a [] = (R[a]).l := by
  rw [List.getD_eq_getElem?_getD, List.getElem?_map, List.getElem?_eq_getElem h]; rfl
/-- One is written. -/
def put1 (R : List (Row Int)) (a b : Nat) (v : Int) : List (Row Int) := if h : a < R.length then R.set a ⟨(R[a]).l.set b v, (R[a]).j, (R[a]).cap⟩ else R
theorem put1_eq {R : List (Row Int)} {a : Nat} (b : Nat) (v : Int) (h : a < R.length) : put1 R a b v = R.set a ⟨(R[a]).l.set b v, (R[a]).j, (R[a]).cap⟩ := dif_pos h
theorem put1_sh {R0 R : List (Row Int)} {n a : Nat} (b : Nat) (v : Int) (h : Sh R0 R n) (ha : a < n + 1) : Sh R0 (put1 R a b v) n := by
  have ha' : a < R.length := by rw [h.len]; exact ha
  rw [put1_eq b v ha']
  refine ⟨by rw [List.length_set]; exact h.len, fun c hc => ?_, ?_⟩
  · rw [List.map_set, getD_set]
    split
    · rename_i e
      have := h.row a ha
      rw [row_at ha'] at this
      simpa using this
    · exact h.row c hc
  · rw [refs_set ha' ⟨(R[a]).l.set b v, (R[a]).j, (R[a]).cap⟩ (by simp) rfl]; exact h.rf
theorem put1_wr {r : Route} {by_ : Nat} {D : Nat → Nat → Bool} {R0 R : List (Row Int)} {a b : Nat} (h : Sh R0 R r.n) (hw : Wr r by_ D R) (ha : a < r.n + 1) (hb : b < r.n + 1) :
    Wr r by_ (fun c d => D c d || (c == a && d == b)) (put1 R a b (r.d (tau by_ r.n a) (tau by_ r.n b))) := by
  have ha' : a < R.length := by rw [h.len]; exact ha
  have hbl : b < (R[a]).l.length := by rw [← row_at ha', h.row a ha]; exact hb
  intro c d hc hd
  have h0 := hw c d hc hd
  unfold cell at h0 ⊢
  rw [put1_eq _ _ ha', List.map_set, getD_set]
  by_cases e : a = c
  · subst e
    rw [if_pos ⟨rfl, by simpa using ha'⟩, getD_set]
    by_cases e2 : b = d
    · subst e2
      rw [if_pos ⟨rfl, hbl⟩]; simp
    · rw [if_neg (fun hh => e2 hh.1)]
      rw [row_at ha'] at h0
      rw [h0]
      simp [Ne.symm e2]
  · rw [if_neg (fun hh => e hh.1), h0]
    simp [Ne.symm e]

theorem row_set {R : List (Row Int)} {a b : Nat} {v : Int} (ha : a < R.length) (hb : b < (R[a]).l.length) (own : Nat → Ob) : upd (fam 700 icds R own) (a + 700) (.box ((cellsG icds (R[a]).l (R[a]).j).set b (.c (.int .i64 v)))) = fam 700 icds (put1 R a b v) own := by
  have := cellsG_set (cds := icds) icds_one hb (R[a]).j 0 (by decide) (.int .i64 v) v rfl
  rw [Nat.mul_one, Nat.add_zero] at this
  rw [this, put1_eq b v ha]
  exact fam_set ha ⟨(R[a]).l.set b v, (R[a]).j, (R[a]).cap⟩
theorem row_cl {R : List (Row Int)} {a b : Nat} (ha : a < R.length) (hb : b < (R[a]).l.length) : b < (cellsG icds (R[a]).l (R[a]).j).length := by rw [cellsG_len icds_one]; omega
theorem Sh.rowl {R0 R : List (Row Int)} {n a b : Nat} (h : Sh R0 R n) (ha : a < n + 1) (hb : b < n + 1) (ha' : a < R.length) : b < (R[a]).l.length := by
  rw [← row_at ha', h.row a ha]; exact hb
theorem drive_at {r : Route} (hr : RouteOk r) {a b : Nat} (ha : a < r.n + 1) (hb : b < r.n + 1) : ∃ (h1 : a < r.drive.length) (h2 : b < (r.drive[a]).length), (r.drive[a])[b] = r.d a b := by
  have h1 : a < r.drive.length := by rw [hr.dl]; exact ha
  have e : r.drive.getD a [] = r.drive[a] := by rw [List.getD_eq_getElem?_getD, List.getElem?_eq_getElem h1]; rfl
  have h2 : b < (r.drive[a]).length := by rw [← e, hr.row a ha]; exact hb
  refine ⟨h1, h2, ?_⟩
  unfold Route.d
  rw [e, List.getD_eq_getElem?_getD, List.getElem?_eq_getElem h2]; rfl

/-- The stops, when i of them are written. -/
def St (r : Route) (by_ i : Nat) (S : List Stop) : Prop := S.length = r.n ∧ ∀ j, j < r.n → S.getD j default = if j < i then r.s (sg by_ r.n j) else r.s j
theorem St_put {r : Route} {by_ i : Nat} {S : List Stop} (h : St r by_ i S) (hi : i < r.n) : St r by_ (i + 1) (S.set i (r.s (sg by_ r.n i))) := by
  refine ⟨by rw [List.length_set]; exact h.1, fun j hj => ?_⟩
  rw [getD_set]
  by_cases e : i = j
  · subst e
    rw [if_pos ⟨rfl, by rw [h.1]; exact hi⟩, if_pos (by omega)]
  · rw [if_neg (fun hh => e hh.1), h.2 j hj]
    by_cases h1 : j < i
    · rw [if_pos h1, if_pos (by omega)]
    · rw [if_neg h1, if_neg (by omega)]
def D1 (n i a b : Nat) : Bool := decide (a < i) || (a == n && decide (b < i))
def D2 (n i k a b : Nat) : Bool := decide (a < i) || (a == n && decide (b < i + 1)) || (a == i && (decide (b < k) || b == n))
def oS (r : Route) (by_ : Nat) (cap j dcap dj : Nat) (i : Nat) (S : List Stop) (R : List (Row Int)) : V.St := ⟨upd (upd (upd (upd (upd e0 1 (iv by_)) 2 (.bp 2 0)) 5 (iv r.n)) 6 (.bp 6 0)) 7 (iv i),
  fam 700 icds R (upd (upd (upd (upd o0 2 (.box [.c (stopsC r.stops), .c (driveC r.drive), iv r.start])) 600 (.box (cellsG Stop.cds S j))) 601 (.box (refs 700 1 0 R ++ List.replicate dj .non))) 6 (.box [.vw 4 600 0 r.n cap, .vw 1 601 0 (r.n + 1) dcap, iv r.start]))⟩
def oT (r : Route) (by_ : Nat) (cap j dcap dj : Nat) (i k : Nat) (S : List Stop) (R : List (Row Int)) : V.St := ⟨upd (oS r by_ cap j dcap dj i S R).env 8 (iv k), (oS r by_ cap j dcap dj i S R).own⟩

set_option maxRecDepth 20000 in
set_option maxHeartbeats 8000000 in
/-- One stop's other ways. -/
theorem inner12 {r : Route} (hr : RouteOk r) {by_ : Nat} (hby : by_ ≤ 100) {cap j dcap dj i : Nat} (hi : i < r.n) (S : List Stop) {R0 : List (Row Int)} {C : Ctx} (hP : C.P = Try.prog) {Q : Exit → V.St → Prop} (hQ : ∀ R σ', Sh R0 R r.n → Wr r by_ (D2 r.n i r.n) R → Sub σ' (oT r by_ cap j dcap dj i r.n S R) → Q (.exit 2) σ')
    {R : List (Row Int)} (h1 : Sh R0 R r.n) (h2 : Wr r by_ (D2 r.n i 0) R) : WV C v12_19 Q (oT r by_ cap j dcap dj i 0 S R) := by
  have hn7 := hr.n7
  have hdl := hr.dl
  have hsl : r.stops.length = r.n := rfl
  refine WV_loopS (fun s : Nat × List (Row Int) => oT r by_ cap j dcap dj i s.1 S s.2) (fun s => s.1 ≤ r.n ∧ Sh R0 s.2 r.n ∧ Wr r by_ (D2 r.n i s.1) s.2) (fun s => r.n - s.1) (0, R) ⟨Nat.zero_le _, h1, h2⟩ (Sub.refl _) ?_
  rintro ⟨k, R⟩ ⟨k1, k2, k3⟩
  simp only at k1 k2 k3
  simp only [oT, oS]
  refine WV_seq_ (WV_seq_ ?_)
  (refine WV_ops ?_; simp only [go_sem, init_env', Nat.reduceEqDiff, Nat.reduceAdd, Nat.reduceMul, reduceIte, Nat.reduceLeDiff, Nat.reduceLT, Nat.reduceBEq, reduceCtorEq, hP, ]; (repeat (refine And.intro (by first | omega | (intros; simp_all; done) | (intros; simp_all; omega)) ?_)))
  (refine WV_cond rfl (fun h => ?_) (fun h => ?_))
  · have h : k < r.n := by simpa using h
    refine WV_skip ?_
    simp only [go_sem, init_env', Nat.reduceEqDiff, Nat.reduceAdd, Nat.reduceMul, reduceIte, Nat.reduceLeDiff, Nat.reduceLT, Nat.reduceBEq, reduceCtorEq]
    refine WV_seq_ ?_
    refine WV_block ?_
    have hRl := k2.len
    have hw1 := w64 (n := (i : Int) + (by_ : Int)) (by omega) (by omega)
    have hw2 := w64 (n := (k : Int) + (by_ : Int)) (by omega) (by omega)
    have hw3 := w64 (n := (k : Int) + 1) (by omega) (by omega)
    have hn0 : 0 < r.n := by omega
    have hsi := Nat.mod_lt (i + by_) hn0
    have hsk := Nat.mod_lt (k + by_) hn0
    obtain ⟨g1, g2, g3⟩ := drive_at hr (a := (i + by_) % r.n) (b := (k + by_) % r.n) (by omega) (by omega)
    have hiR : i < R.length := by omega
    have hkl := k2.rowl (a := i) (b := k) (by omega) (by omega) hiR
    have hcl := row_cl hiR hkl
    have hta : tau by_ r.n i = (i + by_) % r.n := by unfold tau; rw [if_pos hi]; rfl
    have htb : tau by_ r.n k = (k + by_) % r.n := by unfold tau; rw [if_pos h]; rfl
    have hp1 := put1_sh k (r.d (tau by_ r.n i) (tau by_ r.n k)) k2 (a := i) (by omega)
    have hp2 := put1_wr k2 k3 (a := i) (b := k) (by omega) (by omega)
    have hp3 : refs 700 1 0 (put1 R i k (r.d (tau by_ r.n i) (tau by_ r.n k))) = refs 700 1 0 R := by rw [hp1.rf, k2.rf]
    rw [hta, htb] at hp1 hp2 hp3
    (refine WV_ops ?_; simp only [go_sem, init_env', Nat.reduceEqDiff, Nat.reduceAdd, Nat.reduceMul, reduceIte, Nat.reduceLeDiff, Nat.reduceLT, Nat.reduceBEq, reduceCtorEq, hP, fam_lo, fam_upd, stopsC, driveC, hw1, hw2, rem_nat, Nat.mul_one, Nat.zero_add, refs_len, List.length_replicate, Int.toNat_natCast, Int.ofNat_lt, Int.natCast_nonneg, map_getD g1, ints, map_getD g2, List.length_map, g1, g2, g3, refs_get hiR, fam_at hiR, Row.ob_box, hkl, hcl, row_set hiR hkl]; (repeat (refine And.intro (by first | omega | (intros; simp_all; done) | (intros; simp_all; omega)) ?_)))
    (refine WV_ops ?_; simp only [go_sem, init_env', Nat.reduceEqDiff, Nat.reduceAdd, Nat.reduceMul, reduceIte, Nat.reduceLeDiff, Nat.reduceLT, Nat.reduceBEq, reduceCtorEq, hP, hw3]; (repeat (refine And.intro (by first | omega | (intros; simp_all; done) | (intros; simp_all; omega)) ?_)))
    refine ⟨(k + 1, put1 R i k (r.d ((i + by_) % r.n) ((k + by_) % r.n))), ⟨by omega, hp1, hp2.congr fun a b _ _ => ?_⟩, by simp only; omega, ?_⟩
    · unfold D2
      rw [Bool.eq_iff_iff]
      simp
      omega
    · exact Sub_of (by ((repeat' (first | exact EnvLe_e0 _ _ | refine EnvLe_upd ?_ ?_)) <;> ((try simp only [upd_app, e0_app, o0_app, Nat.reduceEqDiff, reduceIte]); first | exact AWk.refl _ _ | exact AWk.int (by omega) | exact AWk.int (by rw [w64 (by omega) (by omega)]; omega) | exact AWk.grow rfl | exact AWk.nil _ | exact AWk.of (by simp)))) (ObjLe_fam (by rw [hp3]; (first | ((repeat' (first | exact ObjLe_o0 _ | exact ObjLe.rfl' _ | refine ObjLe_same ?_ | refine ObjLe_upd ?_ ?_ | refine ObjLe_new rfl ?_)) <;> rfl) | (refine ObjLe_X ?_; (repeat' (first | exact ObjLeX_o0 _ _ | refine ObjLeX_skip rfl ?_ | refine ObjLeX_upd ?_ ?_)) <;> rfl))))
  · have h : k = r.n := by simp at h; omega
    subst h
    refine WV_exit ?_
    simp only [thenQ]
    refine hQ R _ k2 k3 ?_
    simp only [oT, oS]
    exact Sub_of (by ((repeat' (first | exact EnvLe_e0 _ _ | refine EnvLe_upd ?_ ?_)) <;> ((try simp only [upd_app, e0_app, o0_app, Nat.reduceEqDiff, reduceIte]); first | exact AWk.refl _ _ | exact AWk.int (by omega) | exact AWk.int (by rw [w64 (by omega) (by omega)]; omega) | exact AWk.grow rfl | exact AWk.nil _ | exact AWk.of (by simp)))) (ObjLe_fam (by (first | ((repeat' (first | exact ObjLe_o0 _ | exact ObjLe.rfl' _ | refine ObjLe_same ?_ | refine ObjLe_upd ?_ ?_ | refine ObjLe_new rfl ?_)) <;> rfl) | (refine ObjLe_X ?_; (repeat' (first | exact ObjLeX_o0 _ _ | refine ObjLeX_skip rfl ?_ | refine ObjLeX_upd ?_ ?_)) <;> rfl))))
end Go.Proofs.Ytbejgfpaokcnpaa

namespace Go.Proofs.Ytbejgfpaokcnpaa
open Go Go.V


set_option maxRecDepth 20000 in
set_option maxHeartbeats 8000000 in
theorem outer12 {r : Route} (hr : RouteOk r) {by_ : Nat} (hby : by_ ≤ 100) {cap j dcap dj : Nat} {R0 : List (Row Int)} {C : Ctx} (hP : C.P = Try.prog) {Q : Exit → V.St → Prop} (hQ : ∀ S R σ', St r by_ r.n S → Sh R0 R r.n → Wr r by_ (D1 r.n r.n) R → Sub σ' (oS r by_ cap j dcap dj r.n S R) → Q (.exit 0) σ')
    {S : List Stop} {R : List (Row Int)} (h0 : St r by_ 0 S) (h1 : Sh R0 R r.n) (h2 : Wr r by_ (D1 r.n 0) R) : WV C v12_27 Q (oS r by_ cap j dcap dj 0 S R) := by
  have hn7 := hr.n7
  have hdl := hr.dl
  have hsl : r.stops.length = r.n := rfl
  refine WV_loopS (fun s : Nat × List Stop × List (Row Int) => oS r by_ cap j dcap dj s.1 s.2.1 s.2.2) (fun s => s.1 ≤ r.n ∧ St r by_ s.1 s.2.1 ∧ Sh R0 s.2.2 r.n ∧ Wr r by_ (D1 r.n s.1) s.2.2) (fun s => r.n - s.1) (0, S, R) ⟨Nat.zero_le _, h0, h1, h2⟩ (Sub.refl _) ?_
  rintro ⟨i, S, R⟩ ⟨k1, ks, k2, k3⟩
  simp only at k1 ks k2 k3
  simp only [oS]
  refine WV_seq_ (WV_seq_ ?_)
  (refine WV_ops ?_; simp only [go_sem, init_env', Nat.reduceEqDiff, Nat.reduceAdd, Nat.reduceMul, reduceIte, Nat.reduceLeDiff, Nat.reduceLT, Nat.reduceBEq, reduceCtorEq, hP, ]; (repeat (refine And.intro (by first | omega | (intros; simp_all; done) | (intros; simp_all; omega)) ?_)))
  (refine WV_cond rfl (fun h => ?_) (fun h => ?_))
  · have h : i < r.n := by simpa using h
    refine WV_skip ?_
    simp only [go_sem, init_env', Nat.reduceEqDiff, Nat.reduceAdd, Nat.reduceMul, reduceIte, Nat.reduceLeDiff, Nat.reduceLT, Nat.reduceBEq, reduceCtorEq]
    refine WV_seq_ ?_
    refine WV_block ?_
    have hRl := k2.len
    have hw1 := w64 (n := (i : Int) + (by_ : Int)) (by omega) (by omega)
    have hw3 := w64 (n := (i : Int) + 1) (by omega) (by omega)
    have hn0 : 0 < r.n := by omega
    have hsi := Nat.mod_lt (i + by_) hn0
    have hsi' : (i + by_) % r.n < r.stops.length := hsi
    have hSi : i < S.length := by rw [ks.1]; exact h
    have hcl4 : i * 4 + 4 ≤ (cellsG Stop.cds S j).length := by rw [cellsG_len stop_four]; omega
    have hput := stops_put hSi j r.stops[(i + by_) % r.n]
    simp only [Stop.cds, List.map_cons, List.map_nil, List.cons_append, List.nil_append] at hput
    refine WV_seq_ ?_
    (refine WV_ops ?_; simp only [go_sem, init_env', Nat.reduceEqDiff, Nat.reduceAdd, Nat.reduceMul, reduceIte, Nat.reduceLeDiff, Nat.reduceLT, Nat.reduceBEq, reduceCtorEq, hP, fam_lo, fam_upd, stopsC, driveC, hw1, rem_nat, Nat.mul_one, Nat.zero_add, refs_len, List.length_replicate, Int.toNat_natCast, Int.ofNat_lt, Int.natCast_nonneg, map_getD hsi', List.length_map, hsi', hcl4, Stop.cds, hput]; (repeat (refine And.intro (by first | omega | (intros; simp_all; done) | (intros; simp_all; omega)) ?_)))
    have hks := St_put ks h
    have hsv : r.s (sg by_ r.n i) = r.stops[(i + by_) % r.n] := by unfold Route.s sg; rw [List.getD_eq_getElem?_getD, List.getElem?_eq_getElem hsi']; rfl
    rw [hsv] at hks
    generalize S.set i r.stops[(i + by_) % r.n] = S' at hks ⊢
    obtain ⟨g1, g2, g3⟩ := drive_at hr (a := (i + by_) % r.n) (b := r.n) (by omega) (by omega)
    obtain ⟨g4, g5, g6⟩ := drive_at hr (a := r.n) (b := (i + by_) % r.n) (by omega) (by omega)
    have hiR : i < R.length := by omega
    have hnR : r.n < R.length := by omega
    have hnl := k2.rowl (a := i) (b := r.n) (by omega) (by omega) hiR
    have hcl := row_cl hiR hnl
    have hil0 := k2.rowl (a := r.n) (b := i) (by omega) (by omega) hnR
    have hta : tau by_ r.n i = (i + by_) % r.n := by unfold tau; rw [if_pos h]; rfl
    have htn : tau by_ r.n r.n = r.n := by unfold tau; rw [if_neg (by omega)]
    have hp1 := put1_sh r.n (r.d (tau by_ r.n i) (tau by_ r.n r.n)) k2 (a := i) (by omega)
    have hp2 := put1_wr k2 k3 (a := i) (b := r.n) (by omega) (by omega)
    rw [hta, htn] at hp1 hp2
    have hrs := row_set (v := r.d ((i + by_) % r.n) r.n) hiR hnl
    have hpr : refs 700 1 0 (put1 R i r.n (r.d ((i + by_) % r.n) r.n)) = refs 700 1 0 R := by rw [hp1.rf, k2.rf]
    generalize put1 R i r.n (r.d ((i + by_) % r.n) r.n) = R1 at hp1 hp2 hrs hpr
    have hnR1 : r.n < R1.length := by rw [hp1.len]; omega
    have hil := hp1.rowl (a := r.n) (b := i) (by omega) (by omega) hnR1
    have hcl1 := row_cl hnR1 hil
    have hu1 := put1_sh i (r.d (tau by_ r.n r.n) (tau by_ r.n i)) hp1 (a := r.n) (by omega)
    have hu2 := put1_wr hp1 hp2 (a := r.n) (b := i) (by omega) (by omega)
    rw [hta, htn] at hu1 hu2
    have hrs1 := row_set (v := r.d r.n ((i + by_) % r.n)) hnR1 hil
    have hpr1 : refs 700 1 0 (put1 R1 r.n i (r.d r.n ((i + by_) % r.n))) = refs 700 1 0 R := by rw [hu1.rf, k2.rf]
    generalize put1 R1 r.n i (r.d r.n ((i + by_) % r.n)) = R2 at hu1 hu2 hrs1 hpr1
    refine WV_seq_ ?_
    (refine WV_ops ?_; simp only [go_sem, init_env', Nat.reduceEqDiff, Nat.reduceAdd, Nat.reduceMul, reduceIte, Nat.reduceLeDiff, Nat.reduceLT, Nat.reduceBEq, reduceCtorEq, hP, fam_lo, fam_upd, stopsC, driveC, hw1, rem_nat, Nat.mul_one, Nat.zero_add, refs_len, List.length_replicate, Int.toNat_natCast, Int.ofNat_lt, Int.natCast_nonneg, map_getD g1, ints, map_getD g2, map_getD g4, map_getD g5, List.length_map, g1, g2, g3, g4, g5, g6, refs_get hiR, refs_get hnR, fam_at hiR, fam_at hnR, Row.ob_box, hnl, hcl, hrs, fam_at hnR1, hil0, hil, hcl1, hrs1]; (repeat (refine And.intro (by first | omega | (intros; simp_all; done) | (intros; simp_all; omega)) ?_)))
    refine WV_seq_ ?_
    (refine WV_ops ?_; simp only [go_sem, init_env', Nat.reduceEqDiff, Nat.reduceAdd, Nat.reduceMul, reduceIte, Nat.reduceLeDiff, Nat.reduceLT, Nat.reduceBEq, reduceCtorEq, hP, ]; (repeat (refine And.intro (by first | omega | (intros; simp_all; done) | (intros; simp_all; omega)) ?_)))
    refine WV_block ?_
    refine WV_sub (σ' := oT r by_ cap j dcap dj i 0 S' R2) ?_ (inner12 (R0 := R0) hr hby h S' hP (fun R3 σ' m1 m2 m3 => ?_) hu1 (hu2.congr fun a b _ _ => ?_))
    · simp only [oT, oS]
      exact Sub_of (by ((repeat' (first | exact EnvLe_e0 _ _ | refine EnvLe_upd ?_ ?_)) <;> ((try simp only [upd_app, e0_app, o0_app, Nat.reduceEqDiff, reduceIte]); first | exact AWk.refl _ _ | exact AWk.int (by omega) | exact AWk.int (by rw [w64 (by omega) (by omega)]; omega) | exact AWk.grow rfl | exact AWk.nil _ | exact AWk.of (by simp)))) (ObjLe_fam (by rw [hpr1]; (first | ((repeat' (first | exact ObjLe_o0 _ | exact ObjLe.rfl' _ | refine ObjLe_same ?_ | refine ObjLe_upd ?_ ?_ | refine ObjLe_new rfl ?_)) <;> rfl) | (refine ObjLe_X ?_; (repeat' (first | exact ObjLeX_o0 _ _ | refine ObjLeX_skip rfl ?_ | refine ObjLeX_upd ?_ ?_)) <;> rfl))))
    · simp only [inQ, thenQ, if_true, beq_self_eq_true]
      refine WV_sub m3 ?_
      simp only [oT, oS]
      (refine WV_ops ?_; simp only [go_sem, init_env', Nat.reduceEqDiff, Nat.reduceAdd, Nat.reduceMul, reduceIte, Nat.reduceLeDiff, Nat.reduceLT, Nat.reduceBEq, reduceCtorEq, hP, hw3]; (repeat (refine And.intro (by first | omega | (intros; simp_all; done) | (intros; simp_all; omega)) ?_)))
      refine ⟨(i + 1, S', R3), ⟨by simp only; omega, hks, m1, m2.congr fun a b _ _ => ?_⟩, by simp only; omega, ?_⟩
      · unfold D1 D2
        rw [Bool.eq_iff_iff]
        simp
        omega
      · exact Sub_of (by ((repeat' (first | exact EnvLe_e0 _ _ | refine EnvLe_upd ?_ ?_)) <;> ((try simp only [upd_app, e0_app, o0_app, Nat.reduceEqDiff, reduceIte]); first | exact AWk.refl _ _ | exact AWk.int (by omega) | exact AWk.int (by rw [w64 (by omega) (by omega)]; omega) | exact AWk.grow rfl | exact AWk.nil _ | exact AWk.of (by simp)))) (ObjLe_fam (by (first | ((repeat' (first | exact ObjLe_o0 _ | exact ObjLe.rfl' _ | refine ObjLe_same ?_ | refine ObjLe_upd ?_ ?_ | refine ObjLe_new rfl ?_)) <;> rfl) | (refine ObjLe_X ?_; (repeat' (first | exact ObjLeX_o0 _ _ | refine ObjLeX_skip rfl ?_ | refine ObjLeX_upd ?_ ?_)) <;> rfl))))
    · unfold D1 D2
      rw [Bool.eq_iff_iff]
      simp
      omega
  · have h : i = r.n := by simp at h; omega
    subst h
    refine WV_exit ?_
    simp only [thenQ]
    refine hQ S R _ ks k2 k3 ?_
    simp only [oS]
    exact Sub_of (by ((repeat' (first | exact EnvLe_e0 _ _ | refine EnvLe_upd ?_ ?_)) <;> ((try simp only [upd_app, e0_app, o0_app, Nat.reduceEqDiff, reduceIte]); first | exact AWk.refl _ _ | exact AWk.int (by omega) | exact AWk.int (by rw [w64 (by omega) (by omega)]; omega) | exact AWk.grow rfl | exact AWk.nil _ | exact AWk.of (by simp)))) (ObjLe_fam (by (first | ((repeat' (first | exact ObjLe_o0 _ | exact ObjLe.rfl' _ | refine ObjLe_same ?_ | refine ObjLe_upd ?_ ?_ | refine ObjLe_new rfl ?_)) <;> rfl) | (refine ObjLe_X ?_; (repeat' (first | exact ObjLeX_o0 _ _ | refine ObjLeX_skip rfl ?_ | refine ObjLeX_upd ?_ ?_)) <;> rfl))))
end Go.Proofs.Ytbejgfpaokcnpaa

/-
  Another order: plain.
-/
namespace Go.Proofs.Ytbejgfpaokcnpaa
open Go Go.V

def extN (f : Nat → Nat) (n a : Nat) : Nat := if a < n then f a else a
/-- The second route's stop k is the first one's f k. -/
structure Moved (r o : Route) (f g : Nat → Nat) : Prop where
  n : o.n = r.n
  st : o.start = r.start
  s : ∀ k, k < r.n → o.s k = r.s (f k)
  d : ∀ a b, a < r.n + 1 → b < r.n + 1 → o.d a b = r.d (extN f r.n a) (extN f r.n b)
  fl : ∀ k, k < r.n → f k < r.n
  gl : ∀ k, k < r.n → g k < r.n
  fg : ∀ k, k < r.n → f (g k) = k
  gf : ∀ k, k < r.n → g (f k) = k
theorem extN_lt {f : Nat → Nat} {n a : Nat} (hf : ∀ k, k < n → f k < n) (h : a < n + 1) : extN f n a < n + 1 := by
  unfold extN; split
  · have := hf a (by assumption); omega
  · exact h
theorem extN_in {f : Nat → Nat} {n a : Nat} (h : a < n) : extN f n a = f a := if_pos h
theorem extN_top (f : Nat → Nat) (n : Nat) : extN f n n = n := if_neg (by omega)
theorem Moved.symm {r o : Route} {f g : Nat → Nat} (h : Moved r o f g) : Moved o r g f := by
  refine ⟨h.n.symm, h.st.symm, fun k hk => ?_, fun a b ha hb => ?_, ?_, ?_, ?_, ?_⟩
  · rw [h.n] at hk
    rw [h.s (g k) (h.gl k hk), h.fg k hk]
  · rw [h.n] at ha hb ⊢
    rw [h.d _ _ (extN_lt h.gl ha) (extN_lt h.gl hb)]
    have e : ∀ a, a < r.n + 1 → extN f r.n (extN g r.n a) = a := fun a ha => by
      by_cases hx : a < r.n
      · rw [extN_in hx, extN_in (h.gl a hx), h.fg a hx]
      · have : a = r.n := by omega
        rw [this, extN_top, extN_top]
    rw [e a ha, e b hb]
  · rw [h.n]; exact h.gl
  · rw [h.n]; exact h.fl
  · rw [h.n]; exact h.gf
  · rw [h.n]; exact h.fg
section
variable {r o : Route} {f g : Nat → Nat}
theorem map_lt (h : Moved r o f g) {t : List Nat} (ht : ∀ k ∈ t, k < r.n) : ∀ k ∈ t.map f, k < r.n := fun k hk => by
  obtain ⟨x, hx, rfl⟩ := List.mem_map.1 hk
  exact h.fl x (ht x hx)
theorem map_nodup (h : Moved r o f g) {t : List Nat} (hn : t.Nodup) (ht : ∀ k ∈ t, k < r.n) : (t.map f).Nodup := by
  rw [List.nodup_iff_pairwise_ne, List.pairwise_map]
  refine List.Pairwise.imp_of_mem (fun {a b} ha hb hne he => hne ?_) (List.nodup_iff_pairwise_ne.1 hn)
  rw [← h.gf a (ht a ha), ← h.gf b (ht b hb), he]
theorem visit_moved (h : Moved r o f g) (v : Van) {k : Nat} (hk : k < r.n) (ha : v.at_ < r.n + 1) :
    (visit r ⟨extN f r.n v.at_, v.now, v.long⟩ (f k)).2.2 = (visit o v k).2.2 ∧ (visit r ⟨extN f r.n v.at_, v.now, v.long⟩ (f k)).1 = ⟨extN f r.n (visit o v k).1.at_, (visit o v k).1.now, (visit o v k).1.long⟩ ∧ (visit o v k).1.at_ = k := by
  have e := h.d v.at_ k ha (by omega)
  rw [extN_in hk] at e
  unfold visit drv
  simp only [h.s k hk, e]
  split
  · exact ⟨rfl, by simp only [extN_in hk], rfl⟩
  · exact ⟨rfl, by simp only [extN_in hk], rfl⟩
theorem ride_moved (h : Moved r o f g) : ∀ (t : List Nat) (v : Van), (∀ k ∈ t, k < r.n) → v.at_ < r.n + 1 →
    ((ride r ⟨extN f r.n v.at_, v.now, v.long⟩ (t.map f)).2.1.isNone = (ride o v t).2.1.isNone) ∧ ((ride o v t).2.1 = none → (ride r ⟨extN f r.n v.at_, v.now, v.long⟩ (t.map f)).2.2 = ⟨extN f r.n (ride o v t).2.2.at_, (ride o v t).2.2.now, (ride o v t).2.2.long⟩ ∧ (ride o v t).2.2.at_ < r.n + 1)
  | [], v, _, ha => ⟨rfl, fun _ => ⟨rfl, ha⟩⟩
  | k :: t, v, hk, ha => by
    obtain ⟨a1, a2, a3⟩ := visit_moved h v (hk k (by simp)) ha
    have hk' := hk k (by simp)
    have ih := ride_moved h t (visit o v k).1 (fun x hx => hk x (by simp [hx])) (by rw [a3]; omega)
    simp only [List.map_cons, ride, a1]
    by_cases hv : (visit o v k).2.2 = true
    · rw [if_pos hv, if_pos hv, a2]
      exact ih
    · rw [if_neg hv, if_neg hv]
      exact ⟨rfl, fun hc => by cases hc⟩
theorem leave_moved (h : Moved r o f g) : (⟨extN f r.n (leave o).at_, (leave o).now, (leave o).long⟩ : Van) = leave r := by
  unfold leave
  simp only [h.n, h.st, extN_top]
theorem ridden_moved (h : Moved r o f g) {t : List Nat} (ht : ∀ k ∈ t, k < r.n) : ridden r (t.map f) = ridden o t := by
  have := (ride_moved h t (leave o) ht (by show o.n < _; rw [h.n]; omega)).1
  rw [leave_moved h] at this
  exact this
theorem goS_moved (h : Moved r o f g) {t : List Nat} (ht : ∀ k ∈ t, k < r.n) (hd : ridden o t = true) : (goS r (t.map f)).2.2 = (goS o t).2.2 := by
  have := (ride_moved h t (leave o) ht (by show o.n < _; rw [h.n]; omega)).2 (ridden_none hd)
  rw [leave_moved h] at this
  rw [goS_good hd, goS_good (by rw [ridden_moved h ht]; exact hd), this.1]
  rw [h.n, h.d _ r.n this.2 (by omega), extN_top]
theorem longP_moved (h : Moved r o f g) : ∀ (t : List Nat) (s : Nat × Int), (∀ k ∈ t, k < r.n) → s.1 < r.n + 1 → (t.map f).foldl (fun s k => (k, s.2 + r.d s.1 k)) (extN f r.n s.1, s.2) = (extN f r.n (t.foldl (fun s k => (k, s.2 + o.d s.1 k)) s).1, (t.foldl (fun s k => (k, s.2 + o.d s.1 k)) s).2) ∧ (t.foldl (fun s k => (k, s.2 + o.d s.1 k)) s).1 < r.n + 1
  | [], s, _, hs => ⟨rfl, hs⟩
  | k :: t, s, hk, hs => by
    have hk' := hk k (by simp)
    have ih := longP_moved h t (k, s.2 + o.d s.1 k) (fun x hx => hk x (by simp [hx])) (by simp only; omega)
    simp only [List.map_cons, List.foldl_cons]
    have e := h.d s.1 k hs (by omega)
    rw [extN_in hk'] at e
    simp only [extN_in hk'] at ih
    rw [← e]
    exact ih
theorem longS_moved (h : Moved r o f g) {t : List Nat} (ht : ∀ k ∈ t, k < r.n) : longS r (t.map f) = longS o t := by
  unfold longS longP
  have := longP_moved h t (o.n, 0) ht (by rw [h.n]; simp)
  simp only [h.n, extN_top] at this ⊢
  rw [this.1, h.d _ r.n this.2 (by omega), extN_top]
theorem cashS_moved (h : Moved r o f g) {t : List Nat} (ht : ∀ k ∈ t, k < r.n) : cashS r (t.map f) = cashS o t := by
  unfold cashS
  rw [List.map_map]
  congr 1
  exact List.map_congr_left fun k hk => by simp only [Function.comp]; rw [h.s k (ht k hk)]
theorem backL_moved (h : Moved r o f g) : ∀ (t : List Nat), (∀ k ∈ t, k < r.n) → backL r (t.map f) = backL o t
  | [], _ => rfl
  | [k], hk => by simp only [List.map_cons, List.map_nil, backL, h.s k (hk k (by simp))]
  | k :: k' :: ks, hk => by
    have h1 := hk k (by simp)
    have h2 := hk k' (by simp)
    have ih := backL_moved h (k' :: ks) (fun x hx => hk x (by simp at hx; simp [hx]))
    simp only [List.map_cons] at ih ⊢
    have e := h.d k k' (by omega) (by omega)
    rw [extN_in h1, extN_in h2] at e
    simp only [backL, ih, h.s k h1, e]
theorem leavesS_moved (h : Moved r o f g) {t : List Nat} (ht : ∀ k ∈ t, k < r.n) : leavesS r (t.map f) = leavesS o t := by
  unfold leavesS
  rw [backL_moved h t ht]
  cases backL o t with
  | none => rfl
  | some b =>
    cases t with
    | nil => rfl
    | cons k t =>
      have hk := ht k (by simp)
      have e := h.d r.n k (by omega) (by omega)
      rw [extN_top, extN_in hk] at e
      simp only [List.map_cons, h.n, e]
theorem allR_moved (h : Moved r o f g) {t : List Nat} (ht : t ∈ allR o) : t.map f ∈ allR r := by
  have h1 := allR_ok t ht
  rw [h.n] at h1
  exact mem_allR (map_nodup h h1.1 h1.2) (map_lt h h1.2)
theorem goodR_moved (h : Moved r o f g) {w : Bool} {t : List Nat} (ht : t ∈ goodR o w) : t.map f ∈ goodR r w := by
  have hk := goodR_lt ht
  rw [h.n] at hk
  obtain ⟨h1, h2⟩ := List.mem_filter.1 ht
  refine List.mem_filter.2 ⟨allR_moved h h1, ?_⟩
  unfold goodP at h2 ⊢
  rw [ridden_moved h hk, List.length_map, ← h.n]
  exact h2
/-- One side of what is the same. -/
structure HalfM (r o : Route) : Prop where
  err : errR o = 0 → errR r = 0
  soon : errR o = 0 → (rsoonS r).1 ≤ (rsoonS o).1
  short : errR o = 0 → (rshortS r).1 ≤ (rshortS o).1
  most : (rmostS o).1 ≤ (rmostS r).1
  lat : (rlatS o).2 = 0 → (rlatS r).2 = 0 ∧ (rlatS o).1 ≤ (rlatS r).1
theorem halfM (hok : r.ok = true) (hoo : o.ok = true) (h : Moved r o f g) : HalfM r o := by
  have hr := Route.ok_spec hok
  have ho := Route.ok_spec hoo
  have e1 := errR_ok hok
  have e2 := errR_ok hoo
  have hne : errR o = 0 → goodR o true ≠ [] := fun hz hc => by rw [e2, if_pos hc] at hz; cases hz
  have hz : errR o = 0 → errR r = 0 := fun hz => by
    obtain ⟨t, ht⟩ := List.exists_mem_of_ne_nil _ (hne hz)
    rw [e1, if_neg]
    intro hc
    have := goodR_moved h ht
    rw [hc] at this; cases this
  have hpos : errR o = 0 → 0 < (goodR o true).length := fun hz => List.length_pos_iff.2 (hne hz)
  have hlt : ∀ {w : Bool} {t : List Nat}, t ∈ goodR o w → ∀ k ∈ t, k < r.n := fun ht => by have := goodR_lt ht; rwa [h.n] at this
  refine ⟨hz, fun h0 => ?_, fun h0 => ?_, ?_, ?_⟩
  · unfold rsoonS
    rw [if_pos h0, if_pos (hz h0)]
    obtain ⟨t, ht, hm⟩ := minS_mem (fun t => (goS o t).2.2) _ (hpos h0)
    have h1 := minS_le (fun t => (goS r t).2.2) (goodR r true) _ (goodR_moved h ht)
    have h2 := goS_moved h (hlt ht) (goodR_ridden ht)
    simp only at h1 hm ⊢
    omega
  · unfold rshortS
    rw [if_pos h0, if_pos (hz h0)]
    obtain ⟨t, ht, hm⟩ := minS_mem (longS o) _ (hpos h0)
    have h1 := minS_le (longS r) (goodR r true) _ (goodR_moved h ht)
    have h2 := longS_moved h (hlt ht)
    simp only
    omega
  · unfold rmostS
    rw [if_pos hok, if_pos hoo]
    simp only
    rcases rmost_mem o with ⟨h0, h1 | ⟨t, ht, h1⟩⟩
    · have := (rmost_mem r).1; omega
    · have h2 := rmost_le (goodR_moved h ht)
      rw [cashS_moved h (hlt ht)] at h2
      omega
  · have hl1 := late_eq hr
    have hl2 := late_eq ho
    have hmono : ∀ s, 0 ≤ s → s ≤ latestB o (wholes (zero o)) → s ≤ latestB r (wholes (zero r)) := fun s hs hle => by
      obtain ⟨t, ht, h1, h2⟩ := (latestB_has ho hs).1 hle
      refine (latestB_has hr hs).2 ⟨t.map f, allR_moved h ht, by rw [List.length_map, h1, h.n], ?_⟩
      have := allR_lt ht
      rw [h.n] at this
      rw [leavesS_moved h this]
      exact h2
    rw [hl1, hl2] at hmono
    unfold rlatS
    rw [if_pos hok, if_pos hoo]
    intro hz
    split at hz
    · cases hz
    · rename_i hge
      have := hmono (rlatB o (allR o)) (by omega) (Int.le_refl _)
      rw [if_neg (by omega), if_neg hge]
      exact ⟨rfl, this⟩
theorem errR_two (hok : r.ok = true) : errR r = 0 ∨ errR r = 3 := by rw [errR_ok hok]; split <;> simp
theorem latS_two (hok : r.ok = true) : ((rlatS r).2 = 0 ∨ (rlatS r).2 = 3) ∧ ((rlatS r).2 = 3 → (rlatS r).1 = 0) := by
  unfold rlatS; rw [if_pos hok]; split <;> simp
theorem same_moved (hok : r.ok = true) (hoo : o.ok = true) (h : Moved r o f g) : rsoonS o = rsoonS r ∧ rshortS o = rshortS r ∧ rmostS o = rmostS r ∧ rlatS o = rlatS r ∧ errR o = errR r := by
  have A := halfM hok hoo h
  have B := halfM hoo hok h.symm
  have h1 := errR_two hok
  have h2 := errR_two hoo
  have he : errR o = errR r := by
    rcases h1 with e | e <;> rcases h2 with e' | e' <;> rw [e, e']
    · have := B.err e; rw [e'] at this; cases this
    · have := A.err e'; rw [e] at this; cases this
  have l1 := latS_two hok
  have l2 := latS_two hoo
  refine ⟨?_, ?_, ?_, ?_, he⟩
  · by_cases h0 : errR r = 0
    · have a := A.soon (by rw [he]; exact h0)
      have b := B.soon h0
      unfold rsoonS at a b ⊢
      rw [he, if_pos h0, if_pos h0] at *
      simp only at a b
      rw [Int.le_antisymm b a]
    · unfold rsoonS; rw [he, if_neg h0, if_neg h0]
  · by_cases h0 : errR r = 0
    · have a := A.short (by rw [he]; exact h0)
      have b := B.short h0
      unfold rshortS at a b ⊢
      rw [he, if_pos h0, if_pos h0] at *
      simp only at a b
      rw [Int.le_antisymm b a]
    · unfold rshortS; rw [he, if_neg h0, if_neg h0]
  · have a := A.most
    have b := B.most
    have e1 : (rmostS r).2 = 0 := by unfold rmostS; rw [if_pos hok]
    have e2 : (rmostS o).2 = 0 := by unfold rmostS; rw [if_pos hoo]
    exact Prod.ext (Int.le_antisymm a b) (by rw [e1, e2])
  · rcases l1.1 with e | e
    · have b := B.lat e
      have a := A.lat b.1
      exact Prod.ext (Int.le_antisymm a.2 b.2) (by rw [e, b.1])
    · rcases l2.1 with e' | e'
      · have a := A.lat e'; rw [e] at a; cases a.1
      · exact Prod.ext (by rw [l1.2 e, l2.2 e']) (by rw [e, e'])
/-- Stops that are told. -/
theorem count_moved (h : Moved r o f g) (P : Nat → Bool) : (List.range r.n).countP (fun k => P (f k)) = (List.range r.n).countP P := by
  have hp : ((List.range r.n).map f).Perm (List.range r.n) := by
    refine (List.perm_ext_iff_of_nodup (map_nodup h List.nodup_range (fun k hk => List.mem_range.1 hk)) List.nodup_range).2 fun k => ?_
    constructor
    · intro hk
      exact List.mem_range.2 (map_lt h (fun k hk => List.mem_range.1 hk) k hk)
    · intro hk
      have := List.mem_range.1 hk
      exact List.mem_map.2 ⟨g k, List.mem_range.2 (h.gl k this), h.fg k this⟩
  rw [← hp.countP_eq P, List.countP_map]
  rfl
theorem inAny_moved (h : Moved r o f g) {k : Nat} (hk : k < r.n) : inAny (goodR r false) (f k) = inAny (goodR o false) k := by
  unfold inAny
  rw [Bool.eq_iff_iff, List.any_eq_true, List.any_eq_true]
  constructor
  · rintro ⟨t, ht, hm⟩
    refine ⟨t.map g, goodR_moved h.symm ht, ?_⟩
    simp only [decide_eq_true_eq] at hm ⊢
    exact List.mem_map.2 ⟨f k, hm, h.gf k hk⟩
  · rintro ⟨t, ht, hm⟩
    refine ⟨t.map f, goodR_moved h ht, ?_⟩
    simp only [decide_eq_true_eq] at hm ⊢
    exact List.mem_map_of_mem hm
theorem begins_moved (h : Moved r o f g) {k : Nat} (hk : k < r.n) : begins (goodR r true) (f k) = begins (goodR o true) k := by
  have hlen : ∀ {x : Route} {t : List Nat}, t ∈ goodR x true → t.length = x.n := fun {x t} ht => by
    have := (List.mem_filter.1 ht).2
    unfold goodP at this
    simp at this
    exact this.1
  unfold begins
  rw [Bool.eq_iff_iff, List.any_eq_true, List.any_eq_true]
  constructor
  · rintro ⟨t, ht, hm⟩
    refine ⟨t.map g, goodR_moved h.symm ht, ?_⟩
    cases t with
    | nil => have := hlen ht; simp at this; omega
    | cons a t =>
      simp only [List.map_cons, List.headD_cons, beq_iff_eq] at hm ⊢
      rw [hm, h.gf k hk]
  · rintro ⟨t, ht, hm⟩
    refine ⟨t.map f, goodR_moved h ht, ?_⟩
    cases t with
    | nil => have := hlen ht; rw [h.n] at this; simp at this; omega
    | cons a t =>
      simp only [List.map_cons, List.headD_cons, beq_iff_eq] at hm ⊢
      rw [hm]
theorem told_moved (h : Moved r o f g) {P Q : Nat → Bool} (hPQ : ∀ k, k < r.n → P (f k) = Q k) :
    (((List.range r.n).filter P).map fun (n : Nat) => (n : Int)).length = (((List.range r.n).filter Q).map fun (n : Nat) => (n : Int)).length ∧
    ∀ x ∈ ((List.range r.n).filter Q).map fun (n : Nat) => (n : Int), ∃ k : Nat, x = k ∧ k < r.n ∧ ((f k : Nat) : Int) ∈ ((List.range r.n).filter P).map fun (n : Nat) => (n : Int) := by
  refine ⟨?_, fun x hx => ?_⟩
  · rw [List.length_map, List.length_map, ← List.countP_eq_length_filter, ← List.countP_eq_length_filter, ← count_moved h P]
    exact List.countP_congr fun k hk => by rw [hPQ k (List.mem_range.1 hk)]
  · obtain ⟨k, hk, rfl⟩ := List.mem_map.1 hx
    obtain ⟨h1, h2⟩ := List.mem_filter.1 hk
    have h3 := List.mem_range.1 h1
    exact ⟨k, rfl, h3, List.mem_map.2 ⟨f k, List.mem_filter.2 ⟨List.mem_range.2 (h.fl k h3), by rw [hPQ k h3]; exact h2⟩, rfl⟩⟩
end
end Go.Proofs.Ytbejgfpaokcnpaa

namespace Go.Proofs.Ytbejgfpaokcnpaa
open Go Go.V


theorem okStop_of {r : Route} (hr : RouteOk r) {k : Nat} (hk : k < r.n) : okStop (r.s k) = true := by
  have := hr.stop k hk
  unfold okStop within
  simp only [Bool.and_eq_true, decide_eq_true_eq]
  omega
theorem ok_of {o : Route} (h7 : o.n ≤ 7) (hd : o.drive.length = o.n + 1) (hs : 0 ≤ o.start ∧ o.start ≤ 1440) (h1 : ∀ k, k < o.n → okStop (o.s k) = true) (h2 : ∀ i, i < o.n + 1 → (o.drive.getD i []).length = o.n + 1)
    (h3 : ∀ i j, i < o.n + 1 → j < o.n + 1 → 0 ≤ o.d i j ∧ o.d i j ≤ 999 ∧ (i = j → o.d i j = 0)) : o.ok = true := by
  unfold Route.ok
  have e : o.stops.length = o.n := rfl
  simp only [Bool.and_eq_true, decide_eq_true_eq, beq_iff_eq]
  refine ⟨⟨⟨⟨by omega, by omega⟩, ?_⟩, ?_⟩, ?_⟩
  · unfold within; simp; omega
  · rw [List.all_eq_true]
    intro x hx
    obtain ⟨k, hk, rfl⟩ := List.getElem_of_mem hx
    have := h1 k hk
    unfold Route.s at this
    rwa [List.getD_eq_getElem?_getD, List.getElem?_eq_getElem hk] at this
  · rw [List.all_eq_true]
    rintro ⟨l, i⟩ hx
    have hx := List.mem_zipIdx_iff_getElem?.1 hx
    simp only at hx ⊢
    have hi : i < o.drive.length := (List.getElem?_eq_some_iff.1 hx).1
    have hl : o.drive.getD i [] = l := by rw [List.getD_eq_getElem?_getD, hx]; rfl
    have hll := h2 i (by omega)
    rw [hl] at hll
    unfold okRow
    rw [Bool.and_eq_true, beq_iff_eq, List.all_eq_true]
    refine ⟨by omega, ?_⟩
    rintro ⟨n, k⟩ hy
    have hy := List.mem_zipIdx_iff_getElem?.1 hy
    simp only at hy ⊢
    have hk : k < l.length := (List.getElem?_eq_some_iff.1 hy).1
    have hn : o.d i k = n := by unfold Route.d; rw [hl, List.getD_eq_getElem?_getD, hy]; rfl
    have h3' := h3 i k (by omega) (by omega)
    rw [hn] at h3'
    unfold okCell within
    simp only [Bool.and_eq_true, decide_eq_true_eq, Bool.or_eq_true, Bool.not_eq_true', beq_eq_false_iff_ne, beq_iff_eq]
    refine ⟨⟨h3'.1, h3'.2.1⟩, ?_⟩
    by_cases hik : i = k
    · exact .inr (h3'.2.2 hik)
    · exact .inl hik
/-- The other way round. -/
def gs (by_ n j : Nat) : Nat := (j + (n - by_ % n)) % n
theorem sg_gs {by_ n j : Nat} (hj : j < n) : sg by_ n (gs by_ n j) = j := by
  unfold sg gs
  have hb := Nat.mod_lt by_ (show 0 < n by omega)
  rw [Nat.mod_add_mod]
  rw [show j + (n - by_ % n) + by_ = j + n * (by_ / n + 1) by
    have := Nat.div_add_mod by_ n
    rw [Nat.mul_add, Nat.mul_one]; omega]
  rw [Nat.add_mul_mod_self_left, Nat.mod_eq_of_lt hj]
theorem gs_sg {by_ n j : Nat} (hj : j < n) : gs by_ n (sg by_ n j) = j := by
  unfold sg gs
  have hb := Nat.mod_lt by_ (show 0 < n by omega)
  rw [Nat.mod_add_mod]
  rw [show j + by_ + (n - by_ % n) = j + n * (by_ / n + 1) by
    have := Nat.div_add_mod by_ n
    rw [Nat.mul_add, Nat.mul_one]; omega]
  rw [Nat.add_mul_mod_self_left, Nat.mod_eq_of_lt hj]
theorem moved_of {r : Route} (hr : RouteOk r) (hn0 : 0 < r.n) {by_ : Nat} {S : List Stop} {R0 R : List (Row Int)} (h1 : St r by_ r.n S) (h2 : Sh R0 R r.n) (h3 : Wr r by_ (D1 r.n r.n) R) :
    Moved r ⟨S, R.map Row.l, r.start⟩ (sg by_ r.n) (gs by_ r.n) ∧ Route.ok ⟨S, R.map Row.l, r.start⟩ = true := by
  have hm : Moved r ⟨S, R.map Row.l, r.start⟩ (sg by_ r.n) (gs by_ r.n) := by
    refine ⟨h1.1, rfl, fun k hk => ?_, fun a b ha hb => ?_, fun k hk => sg_lt (by omega), fun k hk => Nat.mod_lt _ (by omega), fun k hk => sg_gs hk, fun k hk => gs_sg hk⟩
    · show S.getD k default = _
      rw [h1.2 k hk, if_pos hk]
    · have := h3 a b ha hb
      show cell R a b = _
      rw [this]
      show _ = r.d (tau by_ r.n a) (tau by_ r.n b)
      unfold D1
      by_cases h : (decide (a < r.n) || a == r.n && decide (b < r.n)) = true
      · rw [if_pos h]
      · rw [if_neg h]
        have : a = r.n ∧ b = r.n := by
          simp at h
          omega
        obtain ⟨rfl, rfl⟩ := this
        unfold tau
        rw [if_neg (by omega)]
  refine ⟨hm, ok_of ?_ ?_ hr.st (fun k hk => ?_) (fun i hi => ?_) (fun i j hi hj => ?_)⟩
  · show S.length ≤ 7
    rw [h1.1]; exact hr.n7
  · show (R.map Row.l).length = S.length + 1
    rw [List.length_map, h2.len, h1.1]
  · have hk : k < r.n := by rw [← h1.1]; exact hk
    rw [hm.s k hk]
    exact okStop_of hr (sg_lt hn0)
  · show ((R.map Row.l).getD i []).length = S.length + 1
    rw [h1.1]
    exact h2.row i (by rw [← h1.1]; exact hi)
  · have hi : i < r.n + 1 := by rw [← h1.1]; exact hi
    have hj : j < r.n + 1 := by rw [← h1.1]; exact hj
    rw [hm.d i j hi hj]
    have hfl : ∀ k, k < r.n → sg by_ r.n k < r.n := fun k _ => sg_lt hn0
    have hc := hr.cell _ _ (extN_lt hfl hi) (extN_lt hfl hj)
    refine ⟨hc.1, hc.2, fun e => ?_⟩
    subst e
    exact hr.diag _ (extN_lt hfl hi)
end Go.Proofs.Ytbejgfpaokcnpaa

namespace Go.Proofs.Ytbejgfpaokcnpaa
open Go Go.V


/-- What is asked of a route and of the same one in another order. -/
theorem asks12 {r o : Route} {C : Ctx} (hP : C.P = Try.prog) {by_ : Nat} (hby : by_ ≤ 100) (hn : 0 < r.n ∧ r.n ≤ 7) (hok : r.ok = true) (hoo : o.ok = true) (hm : Moved r o (sg by_ r.n) (gs by_ r.n)) :
    WV C v12_64 (RetQ [RV.t 4] (.c (.bool true))) ⟨upd (upd (upd (upd e0 1 (iv by_)) 2 (.bp 2 0)) 5 (iv r.n)) 6 (.bp 6 0), upd (upd o0 2 (.box [.c (stopsC r.stops), .c (driveC r.drive), iv r.start])) 6 (.box [.c (stopsC o.stops), .c (driveC o.drive), iv o.start])⟩ := by
  obtain ⟨K1, K2, K3, K4, K5⟩ := same_moved hok hoo hm
  have c1 := soon35 r
  have c2 := soon35 o
  have s1 := shortest20 r
  have s2 := shortest20 o
  have l1 := latest15 r
  have l2 := latest15 o
  have m1 := most41 r
  have m2 := most41 o
  have u1 := shut42 r
  have u2 := shut42 o
  have f1 := firsts38 r
  have f2 := firsts38 o
  rw [soon_eq] at c1 c2
  rw [shortest_eq] at s1 s2
  rw [latest_eq] at l1 l2
  rw [most_eq] at m1 m2
  rw [shut_eq] at u1 u2
  rw [first_eq] at f1 f2
  rw [K1] at c2
  rw [K2] at s2
  rw [K3] at m2
  rw [K4] at l2
  have e1 : (rshutS r).2 = 0 := by unfold rshutS; rw [if_pos hok]
  have e2 : (rshutS o).2 = 0 := by unfold rshutS; rw [if_pos hoo]
  have e3 : (rfirstS r).2 = errR r := by unfold rfirstS; split <;> simp_all
  have e4 : (rfirstS o).2 = errR r := by unfold rfirstS; rw [K5]; split <;> simp_all
  rw [e1] at u1
  rw [e2] at u2
  rw [e3] at f1
  rw [e4] at f2
  have hS : FSpec Try.prog 48 [.c (ints (rshutS r).1), .c (ints (rshutS o).1), iv by_, iv r.n] (.c (.bool true)) := by
    have a1 : (rshutS r).1 = rshutL (goodR r false) r.n := by unfold rshutS; rw [if_pos hok]
    have a2 : (rshutS o).1 = rshutL (goodR o false) r.n := by unfold rshutS; rw [if_pos hoo, hm.n]
    rw [a1, a2]
    obtain ⟨t1, t2⟩ := told_moved hm (P := fun n => !inAny (goodR r false) n) (Q := fun n => !inAny (goodR o false) n) (fun k hk => by rw [inAny_moved hm hk])
    exact moved48 t1 (rshutL_len _ _) hn hby t2
  have hF : FSpec Try.prog 48 [.c (ints (rfirstS r).1), .c (ints (rfirstS o).1), iv by_, iv r.n] (.c (.bool true)) := by
    by_cases h0 : errR r = 0
    · have a1 : (rfirstS r).1 = rfirstL (goodR r true) r.n := by unfold rfirstS; rw [if_pos h0]
      have a2 : (rfirstS o).1 = rfirstL (goodR o true) r.n := by unfold rfirstS; rw [K5, if_pos h0, hm.n]
      rw [a1, a2]
      obtain ⟨t1, t2⟩ := told_moved hm (P := begins (goodR r true)) (Q := begins (goodR o true)) (fun k hk => begins_moved hm hk)
      exact moved48 t1 (rfirstL_len _ _) hn hby t2
    · have a1 : (rfirstS r).1 = [] := by unfold rfirstS; rw [if_neg h0]
      have a2 : (rfirstS o).1 = [] := by unfold rfirstS; rw [K5, if_neg h0]
      rw [a1, a2]
      exact moved48 rfl (Nat.zero_le _) hn hby (fun x hx => by cases hx)
  clear e1 e2 e3 e4 K1 K2 K3 K4 K5
  generalize (rsoonS r).1 = S1 at *
  generalize (rsoonS r).2 = S2 at *
  generalize (rshortS r).1 = H1 at *
  generalize (rshortS r).2 = H2 at *
  generalize (rmostS r).1 = M1 at *
  generalize (rmostS r).2 = M2 at *
  generalize (rlatS r).1 = L1 at *
  generalize (rlatS r).2 = L2 at *
  generalize (rshutS r).1 = U1 at *
  generalize (rshutS o).1 = U2 at *
  generalize (rfirstS r).1 = F1 at *
  generalize (rfirstS o).1 = F2 at *
  generalize errR r = E at *
  refine WV_seq_ ?_
  (refine WV_ops ?_; simp only [go_sem, init_env', Nat.reduceEqDiff, Nat.reduceAdd, Nat.reduceMul, reduceIte, Nat.reduceLeDiff, Nat.reduceLT, Nat.reduceBEq, reduceCtorEq, hP, ]; (repeat (refine And.intro (by first | omega | (intros; simp_all; done) | (intros; simp_all; omega)) ?_)))
  (refine AS_pure (c1) rfl rfl rfl rfl rfl ?_; simp only [go_sem, init_env', Nat.reduceEqDiff, Nat.reduceAdd, Nat.reduceMul, reduceIte, Nat.reduceLeDiff, Nat.reduceLT, Nat.reduceBEq, reduceCtorEq, hP, Route.av]; (repeat (refine And.intro (by first | omega | (intros; simp_all; done) | (intros; simp_all; omega)) ?_)); (repeat ((first | refine WV_seq_ ?_ | refine WV_block ?_ | refine WV_ops ?_ | refine WV_skip ?_ | refine WV_exit ?_); (try simp only [go_sem, init_env', Nat.reduceEqDiff, Nat.reduceAdd, Nat.reduceMul, reduceIte, Nat.reduceLeDiff, Nat.reduceLT, Nat.reduceBEq, reduceCtorEq, hP, Route.av]); (repeat (refine And.intro (by first | omega | (intros; simp_all; done) | (intros; simp_all; omega)) ?_)))))
  (refine AS_pure (c2) rfl rfl rfl rfl rfl ?_; simp only [go_sem, init_env', Nat.reduceEqDiff, Nat.reduceAdd, Nat.reduceMul, reduceIte, Nat.reduceLeDiff, Nat.reduceLT, Nat.reduceBEq, reduceCtorEq, hP, Route.av]; (repeat (refine And.intro (by first | omega | (intros; simp_all; done) | (intros; simp_all; omega)) ?_)); (repeat ((first | refine WV_seq_ ?_ | refine WV_block ?_ | refine WV_ops ?_ | refine WV_skip ?_ | refine WV_exit ?_); (try simp only [go_sem, init_env', Nat.reduceEqDiff, Nat.reduceAdd, Nat.reduceMul, reduceIte, Nat.reduceLeDiff, Nat.reduceLT, Nat.reduceBEq, reduceCtorEq, hP, Route.av]); (repeat (refine And.intro (by first | omega | (intros; simp_all; done) | (intros; simp_all; omega)) ?_)))))
  (refine AS_pure (l1) rfl rfl rfl rfl rfl ?_; simp only [go_sem, init_env', Nat.reduceEqDiff, Nat.reduceAdd, Nat.reduceMul, reduceIte, Nat.reduceLeDiff, Nat.reduceLT, Nat.reduceBEq, reduceCtorEq, hP, Route.av]; (repeat (refine And.intro (by first | omega | (intros; simp_all; done) | (intros; simp_all; omega)) ?_)); (repeat ((first | refine WV_seq_ ?_ | refine WV_block ?_ | refine WV_ops ?_ | refine WV_skip ?_ | refine WV_exit ?_); (try simp only [go_sem, init_env', Nat.reduceEqDiff, Nat.reduceAdd, Nat.reduceMul, reduceIte, Nat.reduceLeDiff, Nat.reduceLT, Nat.reduceBEq, reduceCtorEq, hP, Route.av]); (repeat (refine And.intro (by first | omega | (intros; simp_all; done) | (intros; simp_all; omega)) ?_)))))
  (refine AS_pure (l2) rfl rfl rfl rfl rfl ?_; simp only [go_sem, init_env', Nat.reduceEqDiff, Nat.reduceAdd, Nat.reduceMul, reduceIte, Nat.reduceLeDiff, Nat.reduceLT, Nat.reduceBEq, reduceCtorEq, hP, Route.av, bne_self_eq_false]; (repeat (refine And.intro (by first | omega | (intros; simp_all; done) | (intros; simp_all; omega)) ?_)); (repeat ((first | refine WV_seq_ ?_ | refine WV_block ?_ | refine WV_ops ?_ | refine WV_skip ?_ | refine WV_exit ?_); (try simp only [go_sem, init_env', Nat.reduceEqDiff, Nat.reduceAdd, Nat.reduceMul, reduceIte, Nat.reduceLeDiff, Nat.reduceLT, Nat.reduceBEq, reduceCtorEq, hP, Route.av, bne_self_eq_false]); (repeat (refine And.intro (by first | omega | (intros; simp_all; done) | (intros; simp_all; omega)) ?_)))))
  (refine WV_cond rfl (fun h => ?_) (fun h => ?_))
  · simp at h
  refine WV_skip ?_
  refine WV_sub (σ' := ⟨upd (upd (upd (upd e0 1 (iv by_)) 2 (.bp 2 0)) 5 (iv r.n)) 6 (.bp 6 0), upd (upd o0 2 (.box [.c (stopsC r.stops), .c (driveC r.drive), iv r.start])) 6 (.box [.c (stopsC o.stops), .c (driveC o.drive), iv o.start])⟩) (Sub_of (by ((repeat' (first | exact EnvLe_e0 _ _ | refine EnvLe_upd ?_ ?_)) <;> ((try simp only [upd_app, e0_app, o0_app, Nat.reduceEqDiff, reduceIte]); first | exact AWk.refl _ _ | exact AWk.int (by omega) | exact AWk.int (by rw [w64 (by omega) (by omega)]; omega) | exact AWk.grow rfl | exact AWk.nil _ | exact AWk.of (by simp)))) (by (first | ((repeat' (first | exact ObjLe_o0 _ | exact ObjLe.rfl' _ | refine ObjLe_same ?_ | refine ObjLe_upd ?_ ?_ | refine ObjLe_new rfl ?_)) <;> rfl) | (refine ObjLe_X ?_; (repeat' (first | exact ObjLeX_o0 _ _ | refine ObjLeX_skip rfl ?_ | refine ObjLeX_upd ?_ ?_)) <;> rfl)))) ?_
  refine WV_seq_ ?_
  (refine WV_ops ?_; simp only [go_sem, init_env', Nat.reduceEqDiff, Nat.reduceAdd, Nat.reduceMul, reduceIte, Nat.reduceLeDiff, Nat.reduceLT, Nat.reduceBEq, reduceCtorEq, hP, ]; (repeat (refine And.intro (by first | omega | (intros; simp_all; done) | (intros; simp_all; omega)) ?_)))
  (refine AS_pure (s1) rfl rfl rfl rfl rfl ?_; simp only [go_sem, init_env', Nat.reduceEqDiff, Nat.reduceAdd, Nat.reduceMul, reduceIte, Nat.reduceLeDiff, Nat.reduceLT, Nat.reduceBEq, reduceCtorEq, hP, Route.av]; (repeat (refine And.intro (by first | omega | (intros; simp_all; done) | (intros; simp_all; omega)) ?_)); (repeat ((first | refine WV_seq_ ?_ | refine WV_block ?_ | refine WV_ops ?_ | refine WV_skip ?_ | refine WV_exit ?_); (try simp only [go_sem, init_env', Nat.reduceEqDiff, Nat.reduceAdd, Nat.reduceMul, reduceIte, Nat.reduceLeDiff, Nat.reduceLT, Nat.reduceBEq, reduceCtorEq, hP, Route.av]); (repeat (refine And.intro (by first | omega | (intros; simp_all; done) | (intros; simp_all; omega)) ?_)))))
  (refine AS_pure (s2) rfl rfl rfl rfl rfl ?_; simp only [go_sem, init_env', Nat.reduceEqDiff, Nat.reduceAdd, Nat.reduceMul, reduceIte, Nat.reduceLeDiff, Nat.reduceLT, Nat.reduceBEq, reduceCtorEq, hP, Route.av]; (repeat (refine And.intro (by first | omega | (intros; simp_all; done) | (intros; simp_all; omega)) ?_)); (repeat ((first | refine WV_seq_ ?_ | refine WV_block ?_ | refine WV_ops ?_ | refine WV_skip ?_ | refine WV_exit ?_); (try simp only [go_sem, init_env', Nat.reduceEqDiff, Nat.reduceAdd, Nat.reduceMul, reduceIte, Nat.reduceLeDiff, Nat.reduceLT, Nat.reduceBEq, reduceCtorEq, hP, Route.av]); (repeat (refine And.intro (by first | omega | (intros; simp_all; done) | (intros; simp_all; omega)) ?_)))))
  (refine AS_pure (m1) rfl rfl rfl rfl rfl ?_; simp only [go_sem, init_env', Nat.reduceEqDiff, Nat.reduceAdd, Nat.reduceMul, reduceIte, Nat.reduceLeDiff, Nat.reduceLT, Nat.reduceBEq, reduceCtorEq, hP, Route.av]; (repeat (refine And.intro (by first | omega | (intros; simp_all; done) | (intros; simp_all; omega)) ?_)); (repeat ((first | refine WV_seq_ ?_ | refine WV_block ?_ | refine WV_ops ?_ | refine WV_skip ?_ | refine WV_exit ?_); (try simp only [go_sem, init_env', Nat.reduceEqDiff, Nat.reduceAdd, Nat.reduceMul, reduceIte, Nat.reduceLeDiff, Nat.reduceLT, Nat.reduceBEq, reduceCtorEq, hP, Route.av]); (repeat (refine And.intro (by first | omega | (intros; simp_all; done) | (intros; simp_all; omega)) ?_)))))
  (refine AS_pure (m2) rfl rfl rfl rfl rfl ?_; simp only [go_sem, init_env', Nat.reduceEqDiff, Nat.reduceAdd, Nat.reduceMul, reduceIte, Nat.reduceLeDiff, Nat.reduceLT, Nat.reduceBEq, reduceCtorEq, hP, Route.av, bne_self_eq_false]; (repeat (refine And.intro (by first | omega | (intros; simp_all; done) | (intros; simp_all; omega)) ?_)); (repeat ((first | refine WV_seq_ ?_ | refine WV_block ?_ | refine WV_ops ?_ | refine WV_skip ?_ | refine WV_exit ?_); (try simp only [go_sem, init_env', Nat.reduceEqDiff, Nat.reduceAdd, Nat.reduceMul, reduceIte, Nat.reduceLeDiff, Nat.reduceLT, Nat.reduceBEq, reduceCtorEq, hP, Route.av, bne_self_eq_false]); (repeat (refine And.intro (by first | omega | (intros; simp_all; done) | (intros; simp_all; omega)) ?_)))))
  (refine WV_cond rfl (fun h => ?_) (fun h => ?_))
  · simp at h
  refine WV_skip ?_
  refine WV_sub (σ' := ⟨upd (upd (upd (upd e0 1 (iv by_)) 2 (.bp 2 0)) 5 (iv r.n)) 6 (.bp 6 0), upd (upd o0 2 (.box [.c (stopsC r.stops), .c (driveC r.drive), iv r.start])) 6 (.box [.c (stopsC o.stops), .c (driveC o.drive), iv o.start])⟩) (Sub_of (by ((repeat' (first | exact EnvLe_e0 _ _ | refine EnvLe_upd ?_ ?_)) <;> ((try simp only [upd_app, e0_app, o0_app, Nat.reduceEqDiff, reduceIte]); first | exact AWk.refl _ _ | exact AWk.int (by omega) | exact AWk.int (by rw [w64 (by omega) (by omega)]; omega) | exact AWk.grow rfl | exact AWk.nil _ | exact AWk.of (by simp)))) (by (first | ((repeat' (first | exact ObjLe_o0 _ | exact ObjLe.rfl' _ | refine ObjLe_same ?_ | refine ObjLe_upd ?_ ?_ | refine ObjLe_new rfl ?_)) <;> rfl) | (refine ObjLe_X ?_; (repeat' (first | exact ObjLeX_o0 _ _ | refine ObjLeX_skip rfl ?_ | refine ObjLeX_upd ?_ ?_)) <;> rfl)))) ?_
  refine WV_seq_ ?_
  (refine WV_ops ?_; simp only [go_sem, init_env', Nat.reduceEqDiff, Nat.reduceAdd, Nat.reduceMul, reduceIte, Nat.reduceLeDiff, Nat.reduceLT, Nat.reduceBEq, reduceCtorEq, hP, ]; (repeat (refine And.intro (by first | omega | (intros; simp_all; done) | (intros; simp_all; omega)) ?_)))
  (refine AS_pure (f1) rfl rfl rfl rfl rfl ?_; simp only [go_sem, init_env', Nat.reduceEqDiff, Nat.reduceAdd, Nat.reduceMul, reduceIte, Nat.reduceLeDiff, Nat.reduceLT, Nat.reduceBEq, reduceCtorEq, hP, Route.av]; (repeat (refine And.intro (by first | omega | (intros; simp_all; done) | (intros; simp_all; omega)) ?_)); (repeat ((first | refine WV_seq_ ?_ | refine WV_block ?_ | refine WV_ops ?_ | refine WV_skip ?_ | refine WV_exit ?_); (try simp only [go_sem, init_env', Nat.reduceEqDiff, Nat.reduceAdd, Nat.reduceMul, reduceIte, Nat.reduceLeDiff, Nat.reduceLT, Nat.reduceBEq, reduceCtorEq, hP, Route.av]); (repeat (refine And.intro (by first | omega | (intros; simp_all; done) | (intros; simp_all; omega)) ?_)))))
  (refine AS_pure (f2) rfl rfl rfl rfl rfl ?_; simp only [go_sem, init_env', Nat.reduceEqDiff, Nat.reduceAdd, Nat.reduceMul, reduceIte, Nat.reduceLeDiff, Nat.reduceLT, Nat.reduceBEq, reduceCtorEq, hP, Route.av]; (repeat (refine And.intro (by first | omega | (intros; simp_all; done) | (intros; simp_all; omega)) ?_)); (repeat ((first | refine WV_seq_ ?_ | refine WV_block ?_ | refine WV_ops ?_ | refine WV_skip ?_ | refine WV_exit ?_); (try simp only [go_sem, init_env', Nat.reduceEqDiff, Nat.reduceAdd, Nat.reduceMul, reduceIte, Nat.reduceLeDiff, Nat.reduceLT, Nat.reduceBEq, reduceCtorEq, hP, Route.av]); (repeat (refine And.intro (by first | omega | (intros; simp_all; done) | (intros; simp_all; omega)) ?_)))))
  (refine AS_pure (u1) rfl rfl rfl rfl rfl ?_; simp only [go_sem, init_env', Nat.reduceEqDiff, Nat.reduceAdd, Nat.reduceMul, reduceIte, Nat.reduceLeDiff, Nat.reduceLT, Nat.reduceBEq, reduceCtorEq, hP, Route.av]; (repeat (refine And.intro (by first | omega | (intros; simp_all; done) | (intros; simp_all; omega)) ?_)); (repeat ((first | refine WV_seq_ ?_ | refine WV_block ?_ | refine WV_ops ?_ | refine WV_skip ?_ | refine WV_exit ?_); (try simp only [go_sem, init_env', Nat.reduceEqDiff, Nat.reduceAdd, Nat.reduceMul, reduceIte, Nat.reduceLeDiff, Nat.reduceLT, Nat.reduceBEq, reduceCtorEq, hP, Route.av]); (repeat (refine And.intro (by first | omega | (intros; simp_all; done) | (intros; simp_all; omega)) ?_)))))
  (refine AS_pure (u2) rfl rfl rfl rfl rfl ?_; simp only [go_sem, init_env', Nat.reduceEqDiff, Nat.reduceAdd, Nat.reduceMul, reduceIte, Nat.reduceLeDiff, Nat.reduceLT, Nat.reduceBEq, reduceCtorEq, hP, Route.av, beq_self_eq_true, Bool.and_self]; (repeat (refine And.intro (by first | omega | (intros; simp_all; done) | (intros; simp_all; omega)) ?_)); (repeat ((first | refine WV_seq_ ?_ | refine WV_block ?_ | refine WV_ops ?_ | refine WV_skip ?_ | refine WV_exit ?_); (try simp only [go_sem, init_env', Nat.reduceEqDiff, Nat.reduceAdd, Nat.reduceMul, reduceIte, Nat.reduceLeDiff, Nat.reduceLT, Nat.reduceBEq, reduceCtorEq, hP, Route.av, beq_self_eq_true, Bool.and_self]); (repeat (refine And.intro (by first | omega | (intros; simp_all; done) | (intros; simp_all; omega)) ?_)))))
  (refine AG_pure (fun hG => hF) rfl (fun hG => by first | (simp only [go_sem, init_env', Nat.reduceEqDiff, Nat.reduceAdd, Nat.reduceMul, reduceIte, Nat.reduceLeDiff, Nat.reduceLT, Nat.reduceBEq, reduceCtorEq, hG]; done) | (simp only [go_sem, init_env', Nat.reduceEqDiff, Nat.reduceAdd, Nat.reduceMul, reduceIte, Nat.reduceLeDiff, Nat.reduceLT, Nat.reduceBEq, reduceCtorEq]; revert hG; simp; done) | (simp only [go_sem, init_env', Nat.reduceEqDiff, Nat.reduceAdd, Nat.reduceMul, reduceIte, Nat.reduceLeDiff, Nat.reduceLT, Nat.reduceBEq, reduceCtorEq, hG]; simp_all; done) | (revert hG; simp; done) | simp_all) rfl rfl rfl ?_; simp only [go_sem, init_env', Nat.reduceEqDiff, Nat.reduceAdd, Nat.reduceMul, reduceIte, Nat.reduceLeDiff, Nat.reduceLT, Nat.reduceBEq, reduceCtorEq, hP, Route.av, beq_self_eq_true, Bool.and_self]; (repeat (refine And.intro (by first | omega | (intros; simp_all; done) | (intros; simp_all; omega)) ?_)); (repeat ((first | refine WV_seq_ ?_ | refine WV_block ?_ | refine WV_ops ?_ | refine WV_skip ?_ | refine WV_exit ?_); (try simp only [go_sem, init_env', Nat.reduceEqDiff, Nat.reduceAdd, Nat.reduceMul, reduceIte, Nat.reduceLeDiff, Nat.reduceLT, Nat.reduceBEq, reduceCtorEq, hP, Route.av, beq_self_eq_true, Bool.and_self]); (repeat (refine And.intro (by first | omega | (intros; simp_all; done) | (intros; simp_all; omega)) ?_)))))
  (refine AG_pure (fun hG => hS) rfl (fun hG => by first | (simp only [go_sem, init_env', Nat.reduceEqDiff, Nat.reduceAdd, Nat.reduceMul, reduceIte, Nat.reduceLeDiff, Nat.reduceLT, Nat.reduceBEq, reduceCtorEq, hG]; done) | (simp only [go_sem, init_env', Nat.reduceEqDiff, Nat.reduceAdd, Nat.reduceMul, reduceIte, Nat.reduceLeDiff, Nat.reduceLT, Nat.reduceBEq, reduceCtorEq]; revert hG; simp; done) | (simp only [go_sem, init_env', Nat.reduceEqDiff, Nat.reduceAdd, Nat.reduceMul, reduceIte, Nat.reduceLeDiff, Nat.reduceLT, Nat.reduceBEq, reduceCtorEq, hG]; simp_all; done) | (revert hG; simp; done) | simp_all) rfl rfl rfl ?_; simp only [go_sem, init_env', Nat.reduceEqDiff, Nat.reduceAdd, Nat.reduceMul, reduceIte, Nat.reduceLeDiff, Nat.reduceLT, Nat.reduceBEq, reduceCtorEq, hP, Route.av, beq_self_eq_true, Bool.and_self]; (repeat (refine And.intro (by first | omega | (intros; simp_all; done) | (intros; simp_all; omega)) ?_)); (repeat ((first | refine WV_seq_ ?_ | refine WV_block ?_ | refine WV_ops ?_ | refine WV_skip ?_ | refine WV_exit ?_); (try simp only [go_sem, init_env', Nat.reduceEqDiff, Nat.reduceAdd, Nat.reduceMul, reduceIte, Nat.reduceLeDiff, Nat.reduceLT, Nat.reduceBEq, reduceCtorEq, hP, Route.av, beq_self_eq_true, Bool.and_self]); (repeat (refine And.intro (by first | omega | (intros; simp_all; done) | (intros; simp_all; omega)) ?_)))))
  (refine AG_pure (fun hG => works14) rfl (fun hG => by first | (simp only [go_sem, init_env', Nat.reduceEqDiff, Nat.reduceAdd, Nat.reduceMul, reduceIte, Nat.reduceLeDiff, Nat.reduceLT, Nat.reduceBEq, reduceCtorEq, hG]; done) | (simp only [go_sem, init_env', Nat.reduceEqDiff, Nat.reduceAdd, Nat.reduceMul, reduceIte, Nat.reduceLeDiff, Nat.reduceLT, Nat.reduceBEq, reduceCtorEq]; revert hG; simp; done) | (simp only [go_sem, init_env', Nat.reduceEqDiff, Nat.reduceAdd, Nat.reduceMul, reduceIte, Nat.reduceLeDiff, Nat.reduceLT, Nat.reduceBEq, reduceCtorEq, hG]; simp_all; done) | (revert hG; simp; done) | simp_all) rfl rfl rfl ?_; simp only [go_sem, init_env', Nat.reduceEqDiff, Nat.reduceAdd, Nat.reduceMul, reduceIte, Nat.reduceLeDiff, Nat.reduceLT, Nat.reduceBEq, reduceCtorEq, hP, Route.av, beq_self_eq_true, Bool.and_self]; (repeat (refine And.intro (by first | omega | (intros; simp_all; done) | (intros; simp_all; omega)) ?_)); (repeat ((first | refine WV_seq_ ?_ | refine WV_block ?_ | refine WV_ops ?_ | refine WV_skip ?_ | refine WV_exit ?_); (try simp only [go_sem, init_env', Nat.reduceEqDiff, Nat.reduceAdd, Nat.reduceMul, reduceIte, Nat.reduceLeDiff, Nat.reduceLT, Nat.reduceBEq, reduceCtorEq, hP, Route.av, beq_self_eq_true, Bool.and_self]); (repeat (refine And.intro (by first | omega | (intros; simp_all; done) | (intros; simp_all; omega)) ?_)))))
  (refine WV_ret ?_; simp only [thenQ, inQ, RetQ, RetOk, resAll, resA]; simp only [go_sem, init_env', Nat.reduceEqDiff, Nat.reduceAdd, Nat.reduceMul, reduceIte, Nat.reduceLeDiff, Nat.reduceLT, Nat.reduceBEq, reduceCtorEq, tupA, AV.port, AV.portL, exists_eq_left', ]; (first | exact AVle.of rfl | refine AVle.of ?_ | skip))

set_option maxRecDepth 20000 in
set_option maxHeartbeats 16000000 in
theorem law12 (r : Route) (b : Int) : FSpec Try.prog 12 [r.av, iv b] (.c (.bool true)) := by
  by_cases hrd : readyS r = true
  rotate_left
  · have hrd : readyS r = false := by simpa using hrd
    refine FSpec_of c12 (Nat.le_refl _) (by decide) fun C hP hN hC hL => ?_
    simp only [ir12, Route.av, stopsC]
    (repeat ((first | refine WV_seq_ ?_ | refine WV_block ?_ | refine WV_ops ?_ | refine WV_skip ?_ | refine WV_exit ?_); (try simp only [go_sem, init_env', Nat.reduceEqDiff, Nat.reduceAdd, Nat.reduceMul, reduceIte, Nat.reduceLeDiff, Nat.reduceLT, Nat.reduceBEq, reduceCtorEq, hP, List.length_map]); (repeat (refine And.intro (by first | omega | (intros; simp_all; done) | (intros; simp_all; omega)) ?_))))
    (refine AS_pure (ready13 r) rfl rfl rfl rfl rfl ?_; simp only [go_sem, init_env', Nat.reduceEqDiff, Nat.reduceAdd, Nat.reduceMul, reduceIte, Nat.reduceLeDiff, Nat.reduceLT, Nat.reduceBEq, reduceCtorEq, hP, Route.av, stopsC, hrd]; (repeat (refine And.intro (by first | omega | (intros; simp_all; done) | (intros; simp_all; omega)) ?_)); (repeat ((first | refine WV_seq_ ?_ | refine WV_block ?_ | refine WV_ops ?_ | refine WV_skip ?_ | refine WV_exit ?_); (try simp only [go_sem, init_env', Nat.reduceEqDiff, Nat.reduceAdd, Nat.reduceMul, reduceIte, Nat.reduceLeDiff, Nat.reduceLT, Nat.reduceBEq, reduceCtorEq, hP, Route.av, stopsC, hrd]); (repeat (refine And.intro (by first | omega | (intros; simp_all; done) | (intros; simp_all; omega)) ?_)))))
    (refine WV_cond rfl (fun h => ?_) (fun h => ?_))
    · (repeat ((first | refine WV_seq_ ?_ | refine WV_block ?_ | refine WV_ops ?_ | refine WV_skip ?_ | refine WV_exit ?_); (try simp only [go_sem, init_env', Nat.reduceEqDiff, Nat.reduceAdd, Nat.reduceMul, reduceIte, Nat.reduceLeDiff, Nat.reduceLT, Nat.reduceBEq, reduceCtorEq, hP, ]); (repeat (refine And.intro (by first | omega | (intros; simp_all; done) | (intros; simp_all; omega)) ?_))))
      (refine AS_pure (works14) rfl rfl rfl rfl rfl ?_; simp only [go_sem, init_env', Nat.reduceEqDiff, Nat.reduceAdd, Nat.reduceMul, reduceIte, Nat.reduceLeDiff, Nat.reduceLT, Nat.reduceBEq, reduceCtorEq, hP, ]; (repeat (refine And.intro (by first | omega | (intros; simp_all; done) | (intros; simp_all; omega)) ?_)); (repeat ((first | refine WV_seq_ ?_ | refine WV_block ?_ | refine WV_ops ?_ | refine WV_skip ?_ | refine WV_exit ?_); (try simp only [go_sem, init_env', Nat.reduceEqDiff, Nat.reduceAdd, Nat.reduceMul, reduceIte, Nat.reduceLeDiff, Nat.reduceLT, Nat.reduceBEq, reduceCtorEq, hP, ]); (repeat (refine And.intro (by first | omega | (intros; simp_all; done) | (intros; simp_all; omega)) ?_)))))
      (refine WV_ret ?_; simp only [thenQ, inQ, RetQ, RetOk, resAll, resA]; simp only [go_sem, init_env', Nat.reduceEqDiff, Nat.reduceAdd, Nat.reduceMul, reduceIte, Nat.reduceLeDiff, Nat.reduceLT, Nat.reduceBEq, reduceCtorEq, tupA, AV.port, AV.portL, exists_eq_left', ]; (first | exact AVle.of rfl | refine AVle.of ?_ | skip))
    · simp at h
  obtain ⟨hok, hnear⟩ := readyS_of hrd
  have hr := Route.ok_spec hok
  have hn7 := hr.n7
  have hdl := hr.dl
  have hrow := hr.row
  have hmax : maxLen = 9223372036854775807 := rfl
  have hd0 : r.drive ≠ [] := fun h => by rw [h] at hdl; simp at hdl
  have hrows : ∀ l ∈ r.drive, l ≠ [] := fun l hl h => by
    obtain ⟨i, hi, rfl⟩ := List.getElem_of_mem hl
    have := hrow i (by omega)
    rw [List.getD_eq_getElem?_getD, List.getElem?_eq_getElem hi] at this
    simp [h] at this
  refine FSpec_of c12 (Nat.le_refl _) (by decide) fun C hP hN hC hL => ?_
  simp only [ir12, Route.av, stopsC]
  (repeat ((first | refine WV_seq_ ?_ | refine WV_block ?_ | refine WV_ops ?_ | refine WV_skip ?_ | refine WV_exit ?_); (try simp only [go_sem, init_env', Nat.reduceEqDiff, Nat.reduceAdd, Nat.reduceMul, reduceIte, Nat.reduceLeDiff, Nat.reduceLT, Nat.reduceBEq, reduceCtorEq, hP, List.length_map]); (repeat (refine And.intro (by first | omega | (intros; simp_all; done) | (intros; simp_all; omega)) ?_))))
  (refine AS_pure (ready13 r) rfl rfl rfl rfl rfl ?_; simp only [go_sem, init_env', Nat.reduceEqDiff, Nat.reduceAdd, Nat.reduceMul, reduceIte, Nat.reduceLeDiff, Nat.reduceLT, Nat.reduceBEq, reduceCtorEq, hP, Route.av, stopsC, hrd]; (repeat (refine And.intro (by first | omega | (intros; simp_all; done) | (intros; simp_all; omega)) ?_)); (repeat ((first | refine WV_seq_ ?_ | refine WV_block ?_ | refine WV_ops ?_ | refine WV_skip ?_ | refine WV_exit ?_); (try simp only [go_sem, init_env', Nat.reduceEqDiff, Nat.reduceAdd, Nat.reduceMul, reduceIte, Nat.reduceLeDiff, Nat.reduceLT, Nat.reduceBEq, reduceCtorEq, hP, Route.av, stopsC, hrd]); (repeat (refine And.intro (by first | omega | (intros; simp_all; done) | (intros; simp_all; omega)) ?_)))))
  (refine WV_cond rfl (fun h => ?_) (fun h => ?_))
  · (repeat ((first | refine WV_seq_ ?_ | refine WV_block ?_ | refine WV_ops ?_ | refine WV_skip ?_ | refine WV_exit ?_); (try simp only [go_sem, init_env', Nat.reduceEqDiff, Nat.reduceAdd, Nat.reduceMul, reduceIte, Nat.reduceLeDiff, Nat.reduceLT, Nat.reduceBEq, reduceCtorEq, hP, ]); (repeat (refine And.intro (by first | omega | (intros; simp_all; done) | (intros; simp_all; omega)) ?_))))
    (refine AS_pure (works14) rfl rfl rfl rfl rfl ?_; simp only [go_sem, init_env', Nat.reduceEqDiff, Nat.reduceAdd, Nat.reduceMul, reduceIte, Nat.reduceLeDiff, Nat.reduceLT, Nat.reduceBEq, reduceCtorEq, hP, ]; (repeat (refine And.intro (by first | omega | (intros; simp_all; done) | (intros; simp_all; omega)) ?_)); (repeat ((first | refine WV_seq_ ?_ | refine WV_block ?_ | refine WV_ops ?_ | refine WV_skip ?_ | refine WV_exit ?_); (try simp only [go_sem, init_env', Nat.reduceEqDiff, Nat.reduceAdd, Nat.reduceMul, reduceIte, Nat.reduceLeDiff, Nat.reduceLT, Nat.reduceBEq, reduceCtorEq, hP, ]); (repeat (refine And.intro (by first | omega | (intros; simp_all; done) | (intros; simp_all; omega)) ?_)))))
    (refine WV_ret ?_; simp only [thenQ, inQ, RetQ, RetOk, resAll, resA]; simp only [go_sem, init_env', Nat.reduceEqDiff, Nat.reduceAdd, Nat.reduceMul, reduceIte, Nat.reduceLeDiff, Nat.reduceLT, Nat.reduceBEq, reduceCtorEq, tupA, AV.port, AV.portL, exists_eq_left', ]; (first | exact AVle.of rfl | refine AVle.of ?_ | skip))
  obtain ⟨by_, rfl⟩ : ∃ by_ : Nat, b = by_ := ⟨b.toNat, by simp at h; omega⟩
  have hby : by_ ≤ 100 := by simp at h; omega
  have h0 : r.stops ≠ [] := by
    intro hc
    rw [hc] at h
    simp at h
  have hn0 : 0 < r.n := List.length_pos_iff.2 h0
  clear h
  refine WV_skip ?_
  refine WV_sub (σ' := ⟨upd (upd (upd e0 1 (iv by_)) 2 (.bp 2 0)) 5 (iv r.n), upd o0 2 (.box [.c (stopsC r.stops), .c (driveC r.drive), iv r.start])⟩) (Sub_of (by ((repeat' (first | exact EnvLe_e0 _ _ | refine EnvLe_upd ?_ ?_)) <;> ((try simp only [upd_app, e0_app, o0_app, Nat.reduceEqDiff, reduceIte]); first | exact AWk.refl _ _ | exact AWk.int (by omega) | exact AWk.int (by rw [w64 (by omega) (by omega)]; omega) | exact AWk.grow rfl | exact AWk.nil _ | exact AWk.of (by simp)))) (by (first | ((repeat' (first | exact ObjLe_o0 _ | exact ObjLe.rfl' _ | refine ObjLe_same ?_ | refine ObjLe_upd ?_ ?_ | refine ObjLe_new rfl ?_)) <;> rfl) | (refine ObjLe_X ?_; (repeat' (first | exact ObjLeX_o0 _ _ | refine ObjLeX_skip rfl ?_ | refine ObjLeX_upd ?_ ?_)) <;> rfl)))) ?_
  refine WV_seq_ ?_
  (refine WV_ops ?_; simp only [go_sem, init_env', Nat.reduceEqDiff, Nat.reduceAdd, Nat.reduceMul, reduceIte, Nat.reduceLeDiff, Nat.reduceLT, Nat.reduceBEq, reduceCtorEq, hP, ]; (repeat (refine And.intro (by first | omega | (intros; simp_all; done) | (intros; simp_all; omega)) ?_)))
  refine AS_copy (copyN hnear hrows hd0) (by omega) rfl rfl rfl rfl (fun m => ?_) (fun m => ?_) ?_
  · simp only [go_sem, init_env', Nat.reduceEqDiff, Nat.reduceAdd, Nat.reduceMul, reduceIte, Nat.reduceLeDiff, Nat.reduceLT, Nat.reduceBEq, reduceCtorEq, ne_add]
  · simp only [go_sem, init_env', Nat.reduceEqDiff, Nat.reduceAdd, Nat.reduceMul, reduceIte, Nat.reduceLeDiff, Nat.reduceLT, Nat.reduceBEq, reduceCtorEq, ne_add]
  · intro R y o dcap dj hR hok' k1 k2 k3 hy
    have hRl : R.length = r.drive.length := by rw [← hR, List.length_map]
    rcases hy with ⟨hc, _, _⟩ | ⟨_, cap, j, q1, q2, q3, rfl, rfl⟩
    · exact absurd hc h0
    · simp only [St.put]
      have hRn : R.length = r.n + 1 := by omega
      have hsn : r.stops.length = r.n := rfl
      rw [hRn, hsn]
      have i1 : St r by_ 0 r.stops := ⟨rfl, fun k _ => by rw [if_neg (by omega)]; rfl⟩
      have i2 : Sh R R r.n := ⟨hRn, fun a ha => by rw [hR]; exact hrow a ha, rfl⟩
      have i3 : Wr r by_ (D1 r.n 0) R := fun a c _ hc => by
        unfold cell
        rw [hR]
        have e : D1 r.n 0 a c = false := by unfold D1; simp
        rw [e]
        rfl
      simp only [go_sem, init_env', Nat.reduceEqDiff, Nat.reduceAdd, Nat.reduceMul, reduceIte, Nat.reduceLeDiff, Nat.reduceLT, Nat.reduceBEq, reduceCtorEq, fam_lo, fam_upd, prgO_fam, refs_prg, prgL_append, prg_non, prg_cellsG]
      (repeat (refine And.intro (by first | omega | (intros; simp_all; done) | (intros; simp_all; omega)) ?_))
      refine WV_seq_ (WV_seq_ ?_)
      (refine WV_ops ?_; simp only [go_sem, init_env', Nat.reduceEqDiff, Nat.reduceAdd, Nat.reduceMul, reduceIte, Nat.reduceLeDiff, Nat.reduceLT, Nat.reduceBEq, reduceCtorEq, hP, ]; (repeat (refine And.intro (by first | omega | (intros; simp_all; done) | (intros; simp_all; omega)) ?_)))
      refine WV_block ?_
      refine WV_sub (σ' := oS r by_ cap j dcap dj 0 r.stops R) ?_ (outer12 (R0 := R) hr hby hP (fun S R' σ' m1 m2 m3 m4 => ?_) i1 i2 i3)
      · simp only [oS]
        exact Sub_of (by ((repeat' (first | exact EnvLe_e0 _ _ | refine EnvLe_upd ?_ ?_)) <;> ((try simp only [upd_app, e0_app, o0_app, Nat.reduceEqDiff, reduceIte]); first | exact AWk.refl _ _ | exact AWk.int (by omega) | exact AWk.int (by rw [w64 (by omega) (by omega)]; omega) | exact AWk.grow rfl | exact AWk.nil _ | exact AWk.of (by simp)))) (ObjLe_fam (by (first | ((repeat' (first | exact ObjLe_o0 _ | exact ObjLe.rfl' _ | refine ObjLe_same ?_ | refine ObjLe_upd ?_ ?_ | refine ObjLe_new rfl ?_)) <;> rfl) | (refine ObjLe_X ?_; (repeat' (first | exact ObjLeX_o0 _ _ | refine ObjLeX_skip rfl ?_ | refine ObjLeX_upd ?_ ?_)) <;> rfl))))
      · simp only [inQ, thenQ, if_true, beq_self_eq_true]
        refine WV_sub m4 ?_
        obtain ⟨hm, hoo⟩ := moved_of hr hn0 m1 m2 m3
        refine WV_sub (σ' := ⟨upd (upd (upd (upd e0 1 (iv by_)) 2 (.bp 2 0)) 5 (iv r.n)) 6 (.bp 6 0), fam 700 icds R' (upd (upd (upd (upd o0 2 (.box [.c (stopsC r.stops), .c (driveC r.drive), iv r.start])) 6 (.box [.vw 4 600 0 r.n cap, .vw 1 601 0 R'.length dcap, iv r.start])) 600 (.box (cellsG Stop.cds S j))) 601 (.box (refs 700 1 0 R' ++ List.replicate dj .non)))⟩) ?_ ?_
        · rw [m2.len]
          simp only [oS]
          exact Sub_of (by ((repeat' (first | exact EnvLe_e0 _ _ | refine EnvLe_upd ?_ ?_)) <;> ((try simp only [upd_app, e0_app, o0_app, Nat.reduceEqDiff, reduceIte]); first | exact AWk.refl _ _ | exact AWk.int (by omega) | exact AWk.int (by rw [w64 (by omega) (by omega)]; omega) | exact AWk.grow rfl | exact AWk.nil _ | exact AWk.of (by simp)))) (ObjLe_fam (by (first | ((repeat' (first | exact ObjLe_o0 _ | exact ObjLe.rfl' _ | refine ObjLe_same ?_ | refine ObjLe_upd ?_ ?_ | refine ObjLe_new rfl ?_)) <;> rfl) | (refine ObjLe_X ?_; (repeat' (first | exact ObjLeX_o0 _ _ | refine ObjLeX_skip rfl ?_ | refine ObjLeX_upd ?_ ?_)) <;> rfl))))
        refine WV_frzD (D := R'.map Row.l) (by decide) rfl (fun n ds hn => ?_) (fun n ds hn => ?_) (fun n ds hn => ?_) (fun n ds hn => rfl) (fun n ds hn => ?_) ?_
        · have w2 : ¬ 2 = n := by omega
          have w6 : ¬ 6 = n := by omega
          simp only [frzE_upd, frzE_e0, AV.frz, if_neg w2, if_neg w6]
        · have w2 : ¬ 2 = n := by omega
          rw [frzO_upd, if_neg w2, frzO_o0]
          rfl
        · simp only [AV.frz]; rw [if_neg (by omega)]
        · simp only [Ob.frz, frz_cellsG]
        refine WV_freezeJ 600 (ds := flatG Stop.cds S) (junk := List.replicate j .non) rfl ?_
        have hfl : r.n * 4 ≤ (flatG Stop.cds S).length := by rw [flatG_len stop_four, m1.1]; omega
        have hgr : grp 4 r.n ((flatG Stop.cds S).take (r.n * 4)) = S.map Stop.cds := by rw [← m1.1]; exact grp_cellsG stop_four S
        simp only [go_sem, init_env', Nat.reduceEqDiff, Nat.reduceAdd, Nat.reduceMul, reduceIte, Nat.reduceLeDiff, Nat.reduceLT, Nat.reduceBEq, reduceCtorEq, hfl, List.drop_zero, hgr]
        exact asks12 hP hby ⟨hn0, hn7⟩ hok hoo hm
end Go.Proofs.Ytbejgfpaokcnpaa
