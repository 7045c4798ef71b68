/-
  Contracts of functions of package route, of its reference and of the law RouteTimes; conditions: as each theorem states.
-/
import Derived.Test.YtbejgfpaokcnpaaU5
set_option linter.unusedVariables false
set_option linter.unusedSimpArgs false
namespace Go.Proofs.Ytbejgfpaokcnpaa
open Go Go.V
@[reducible] def o8_0 : List Ins := [⟨(some 1), .box 3 (.t 0), none, true⟩,
  ⟨(some 2), .mv (.k (.c (.bool false))), none, true⟩]
@[reducible] def o8_1 : List Ins := [⟨(some 12), .ld false 3 (.t 1), none, true⟩,
  ⟨(some 13), .call (.k (.fn 19 [])) [(.t 12)], none, true⟩]
@[reducible] def o8_2 : List Ins := [⟨(some 14), .call (.k (.fn 14 [])) [], none, true⟩,
  ⟨(some 2), .mv (.t 14), none, true⟩]
@[reducible] def v8_3 : VC := (.seq (.ops o8_2) .ret)
@[reducible] def v8_4 : VC := (.cond (.t 13) v8_3 .skip)
@[reducible] def o8_5 : List Ins := [⟨(some 15), .ld false 3 (.t 1), none, true⟩,
  ⟨(some 16), .call (.k (.fn 17 [])) [(.t 15)], none, true⟩,
  ⟨(some 3), .alloc [(.c (.raw (.slice none 0 0))), (.c (.raw (.slice none 0 0))), (.c (.int .i64 0))], none, true⟩,
  ⟨none, .st 3 (.t 3) (.t 16), none, true⟩]
@[reducible] def o8_6 : List Ins := [⟨(some 18), .ld false 3 (.t 3), none, true⟩,
  ⟨(some 19), .call (.k (.fn 41 [])) [(.t 18)], none, true⟩,
  ⟨(some 17), .mv (.t 19), none, true⟩,
  ⟨(some 20), .ext (.t 17) 0, none, true⟩,
  ⟨(some 21), .ext (.t 17) 1, none, true⟩,
  ⟨(some 4), .mv (.t 20), none, true⟩,
  ⟨(some 5), .mv (.t 21), none, true⟩]
@[reducible] def o8_7 : List Ins := [⟨(some 23), .ld false 3 (.t 1), none, true⟩,
  ⟨(some 24), .call (.k (.fn 44 [])) [(.t 23)], none, true⟩,
  ⟨(some 22), .mv (.t 24), none, true⟩,
  ⟨(some 25), .ext (.t 22) 0, none, true⟩,
  ⟨(some 26), .ext (.t 22) 1, none, true⟩,
  ⟨(some 6), .mv (.t 25), none, true⟩,
  ⟨(some 7), .mv (.t 26), none, true⟩]
@[reducible] def o8_8 : List Ins := [⟨(some 28), .ld false 3 (.t 3), none, true⟩,
  ⟨(some 29), .call (.k (.fn 42 [])) [(.t 28)], none, true⟩,
  ⟨(some 27), .mv (.t 29), none, true⟩,
  ⟨(some 30), .ext (.t 27) 0, none, true⟩,
  ⟨(some 31), .ext (.t 27) 1, none, true⟩,
  ⟨(some 8), .mv (.t 30), none, true⟩,
  ⟨(some 9), .mv (.t 31), none, true⟩]
@[reducible] def o8_9 : List Ins := [⟨(some 33), .ld false 3 (.t 1), none, true⟩,
  ⟨(some 34), .call (.k (.fn 45 [])) [(.t 33)], none, true⟩,
  ⟨(some 32), .mv (.t 34), none, true⟩,
  ⟨(some 35), .ext (.t 32) 0, none, true⟩,
  ⟨(some 36), .ext (.t 32) 1, none, true⟩,
  ⟨(some 10), .mv (.t 35), none, true⟩,
  ⟨(some 11), .mv (.t 36), none, true⟩]
@[reducible] def o8_10 : List Ins := [⟨(some 37), .mv (.t 4), none, true⟩,
  ⟨(some 38), .mv (.t 6), none, true⟩,
  ⟨(some 39), .bin .eql (.t 37) (.t 38), none, true⟩,
  ⟨(some 40), .mv (.t 39), none, true⟩,
  ⟨(some 41), .mv (.t 5), (some (40, true)), true⟩,
  ⟨(some 42), .mv (.t 7), (some (40, true)), true⟩,
  ⟨(some 43), .bin .eql (.t 41) (.t 42), (some (40, true)), true⟩,
  ⟨(some 44), .pick (.t 40) (.t 43) (.k (.c (.bool false))), none, true⟩,
  ⟨(some 45), .mv (.t 44), none, true⟩,
  ⟨(some 46), .mv (.t 8), (some (45, true)), true⟩,
  ⟨(some 47), .mv (.t 10), (some (45, true)), true⟩,
  ⟨(some 48), .call (.k (.fn 34 [])) [(.t 46), (.t 47)], (some (45, true)), true⟩,
  ⟨(some 49), .pick (.t 45) (.t 48) (.k (.c (.bool false))), none, true⟩,
  ⟨(some 50), .mv (.t 49), none, true⟩,
  ⟨(some 51), .mv (.t 9), (some (50, true)), true⟩,
  ⟨(some 52), .mv (.t 11), (some (50, true)), true⟩,
  ⟨(some 53), .bin .eql (.t 51) (.t 52), (some (50, true)), true⟩,
  ⟨(some 54), .pick (.t 50) (.t 53) (.k (.c (.bool false))), none, true⟩,
  ⟨(some 55), .mv (.t 54), none, true⟩,
  ⟨(some 56), .ld false 3 (.t 3), (some (55, true)), true⟩,
  ⟨(some 57), .ld false 3 (.t 1), (some (55, true)), true⟩,
  ⟨(some 58), .call (.k (.fn 22 [])) [(.t 56), (.t 57)], (some (55, true)), true⟩,
  ⟨(some 59), .pick (.t 55) (.t 58) (.k (.c (.bool false))), none, true⟩,
  ⟨(some 60), .mv (.t 59), none, true⟩,
  ⟨(some 61), .call (.k (.fn 14 [])) [], (some (60, true)), true⟩,
  ⟨(some 62), .pick (.t 60) (.t 61) (.k (.c (.bool false))), none, true⟩,
  ⟨(some 2), .mv (.t 62), none, true⟩]
@[reducible] def v8_11 : VC := (.seq (.ops o8_10) .ret)
@[reducible] def v8_12 : VC := (.seq (.ops o8_9) v8_11)
@[reducible] def v8_13 : VC := (.seq (.ops o8_8) v8_12)
@[reducible] def v8_14 : VC := (.seq (.ops o8_7) v8_13)
@[reducible] def v8_15 : VC := (.seq (.ops o8_6) v8_14)
@[reducible] def v8_16 : VC := (.seq (.ops o8_5) v8_15)
@[reducible] def v8_17 : VC := (.seq (.seq (.ops o8_1) v8_4) v8_16)
def ir8 : FC := ⟨1, 63, [.t 2], (.seq (.ops o8_0) v8_17)⟩
theorem c8 : compM Try.prog [] 8 = some ir8 := by kernel_rfl



set_option maxRecDepth 20000 in
set_option maxHeartbeats 8000000 in
theorem law8 (r : Route) : FSpec Try.prog 8 [r.av] (.c (.bool true)) := by
  have h1 := most41 r
  rw [most_eq] at h1
  have h2 := rmost44 r
  have h3 := shut42 r
  rw [shut_eq] at h3
  have h4 := rshut45 r
  refine FSpec_of c8 (Nat.le_refl _) (by decide) fun C hP hN hC hL => ?_
  simp only [ir8, Route.av]
  (repeat ((first | refine WV_seq_ ?_ | refine WV_block ?_ | refine WV_ops ?_ | refine WV_skip ?_ | refine WV_exit ?_); (try simp only [go_sem, init_env', Nat.reduceEqDiff, Nat.reduceAdd, Nat.reduceMul, reduceIte, Nat.reduceLeDiff, Nat.reduceLT, Nat.reduceBEq, reduceCtorEq, hP, ]); (repeat (refine And.intro (by first | omega | (intros; simp_all; done) | (intros; simp_all; omega)) ?_))))
  (refine AS_pure (far19 r) rfl rfl rfl rfl rfl ?_; simp only [go_sem, init_env', Nat.reduceEqDiff, Nat.reduceAdd, Nat.reduceMul, reduceIte, Nat.reduceLeDiff, Nat.reduceLT, Nat.reduceBEq, reduceCtorEq, hP, Route.av]; (repeat (refine And.intro (by first | omega | (intros; simp_all; done) | (intros; simp_all; omega)) ?_)); (repeat ((first | refine WV_seq_ ?_ | refine WV_block ?_ | refine WV_ops ?_ | refine WV_skip ?_ | refine WV_exit ?_); (try simp only [go_sem, init_env', Nat.reduceEqDiff, Nat.reduceAdd, Nat.reduceMul, reduceIte, Nat.reduceLeDiff, Nat.reduceLT, Nat.reduceBEq, reduceCtorEq, hP, Route.av]); (repeat (refine And.intro (by first | omega | (intros; simp_all; done) | (intros; simp_all; omega)) ?_)))))
  (refine WV_cond rfl (fun h => ?_) (fun h => ?_))
  · (repeat ((first | refine WV_seq_ ?_ | refine WV_block ?_ | refine WV_ops ?_ | refine WV_skip ?_ | refine WV_exit ?_); (try simp only [go_sem, init_env', Nat.reduceEqDiff, Nat.reduceAdd, Nat.reduceMul, reduceIte, Nat.reduceLeDiff, Nat.reduceLT, Nat.reduceBEq, reduceCtorEq, hP, ]); (repeat (refine And.intro (by first | omega | (intros; simp_all; done) | (intros; simp_all; omega)) ?_))))
    (refine AS_pure (works14) rfl rfl rfl rfl rfl ?_; simp only [go_sem, init_env', Nat.reduceEqDiff, Nat.reduceAdd, Nat.reduceMul, reduceIte, Nat.reduceLeDiff, Nat.reduceLT, Nat.reduceBEq, reduceCtorEq, hP, ]; (repeat (refine And.intro (by first | omega | (intros; simp_all; done) | (intros; simp_all; omega)) ?_)); (repeat ((first | refine WV_seq_ ?_ | refine WV_block ?_ | refine WV_ops ?_ | refine WV_skip ?_ | refine WV_exit ?_); (try simp only [go_sem, init_env', Nat.reduceEqDiff, Nat.reduceAdd, Nat.reduceMul, reduceIte, Nat.reduceLeDiff, Nat.reduceLT, Nat.reduceBEq, reduceCtorEq, hP, ]); (repeat (refine And.intro (by first | omega | (intros; simp_all; done) | (intros; simp_all; omega)) ?_)))))
    (refine WV_ret ?_; simp only [thenQ, inQ, RetQ, RetOk, resAll, resA]; simp only [go_sem, init_env', Nat.reduceEqDiff, Nat.reduceAdd, Nat.reduceMul, reduceIte, Nat.reduceLeDiff, Nat.reduceLT, Nat.reduceBEq, reduceCtorEq, tupA, AV.port, AV.portL, exists_eq_left', ]; (first | exact AVle.of rfl | refine AVle.of ?_ | skip))
  · have h : farS r = false := by simpa using h
    have hnear : near r = true := by
      have := h
      unfold farS at this
      by_cases hn : near r = true
      · exact hn
      · rw [if_neg hn] at this; cases this
    clear h
    (repeat ((first | refine WV_seq_ ?_ | refine WV_block ?_ | refine WV_ops ?_ | refine WV_skip ?_ | refine WV_exit ?_); (try simp only [go_sem, init_env', Nat.reduceEqDiff, Nat.reduceAdd, Nat.reduceMul, reduceIte, Nat.reduceLeDiff, Nat.reduceLT, Nat.reduceBEq, reduceCtorEq, hP, ]); (repeat (refine And.intro (by first | omega | (intros; simp_all; done) | (intros; simp_all; omega)) ?_))))
    (refine AS_pure (copy17 r hnear) rfl rfl rfl rfl rfl ?_; simp only [go_sem, init_env', Nat.reduceEqDiff, Nat.reduceAdd, Nat.reduceMul, reduceIte, Nat.reduceLeDiff, Nat.reduceLT, Nat.reduceBEq, reduceCtorEq, hP, Route.av]; (repeat (refine And.intro (by first | omega | (intros; simp_all; done) | (intros; simp_all; omega)) ?_)); (repeat ((first | refine WV_seq_ ?_ | refine WV_block ?_ | refine WV_ops ?_ | refine WV_skip ?_ | refine WV_exit ?_); (try simp only [go_sem, init_env', Nat.reduceEqDiff, Nat.reduceAdd, Nat.reduceMul, reduceIte, Nat.reduceLeDiff, Nat.reduceLT, Nat.reduceBEq, reduceCtorEq, hP, Route.av]); (repeat (refine And.intro (by first | omega | (intros; simp_all; done) | (intros; simp_all; omega)) ?_)))))
    (refine AS_pure (h1) rfl rfl rfl rfl rfl ?_; simp only [go_sem, init_env', Nat.reduceEqDiff, Nat.reduceAdd, Nat.reduceMul, reduceIte, Nat.reduceLeDiff, Nat.reduceLT, Nat.reduceBEq, reduceCtorEq, hP, Route.av]; (repeat (refine And.intro (by first | omega | (intros; simp_all; done) | (intros; simp_all; omega)) ?_)); (repeat ((first | refine WV_seq_ ?_ | refine WV_block ?_ | refine WV_ops ?_ | refine WV_skip ?_ | refine WV_exit ?_); (try simp only [go_sem, init_env', Nat.reduceEqDiff, Nat.reduceAdd, Nat.reduceMul, reduceIte, Nat.reduceLeDiff, Nat.reduceLT, Nat.reduceBEq, reduceCtorEq, hP, Route.av]); (repeat (refine And.intro (by first | omega | (intros; simp_all; done) | (intros; simp_all; omega)) ?_)))))
    (refine AS_pure (h2) rfl rfl rfl rfl rfl ?_; simp only [go_sem, init_env', Nat.reduceEqDiff, Nat.reduceAdd, Nat.reduceMul, reduceIte, Nat.reduceLeDiff, Nat.reduceLT, Nat.reduceBEq, reduceCtorEq, hP, Route.av]; (repeat (refine And.intro (by first | omega | (intros; simp_all; done) | (intros; simp_all; omega)) ?_)); (repeat ((first | refine WV_seq_ ?_ | refine WV_block ?_ | refine WV_ops ?_ | refine WV_skip ?_ | refine WV_exit ?_); (try simp only [go_sem, init_env', Nat.reduceEqDiff, Nat.reduceAdd, Nat.reduceMul, reduceIte, Nat.reduceLeDiff, Nat.reduceLT, Nat.reduceBEq, reduceCtorEq, hP, Route.av]); (repeat (refine And.intro (by first | omega | (intros; simp_all; done) | (intros; simp_all; omega)) ?_)))))
    (refine AS_pure (h3) rfl rfl rfl rfl rfl ?_; simp only [go_sem, init_env', Nat.reduceEqDiff, Nat.reduceAdd, Nat.reduceMul, reduceIte, Nat.reduceLeDiff, Nat.reduceLT, Nat.reduceBEq, reduceCtorEq, hP, Route.av]; (repeat (refine And.intro (by first | omega | (intros; simp_all; done) | (intros; simp_all; omega)) ?_)); (repeat ((first | refine WV_seq_ ?_ | refine WV_block ?_ | refine WV_ops ?_ | refine WV_skip ?_ | refine WV_exit ?_); (try simp only [go_sem, init_env', Nat.reduceEqDiff, Nat.reduceAdd, Nat.reduceMul, reduceIte, Nat.reduceLeDiff, Nat.reduceLT, Nat.reduceBEq, reduceCtorEq, hP, Route.av]); (repeat (refine And.intro (by first | omega | (intros; simp_all; done) | (intros; simp_all; omega)) ?_)))))
    (refine AS_pure (h4) rfl rfl rfl rfl rfl ?_; simp only [go_sem, init_env', Nat.reduceEqDiff, Nat.reduceAdd, Nat.reduceMul, reduceIte, Nat.reduceLeDiff, Nat.reduceLT, Nat.reduceBEq, reduceCtorEq, hP, Route.av, beq_self_eq_true]; (repeat (refine And.intro (by first | omega | (intros; simp_all; done) | (intros; simp_all; omega)) ?_)); (repeat ((first | refine WV_seq_ ?_ | refine WV_block ?_ | refine WV_ops ?_ | refine WV_skip ?_ | refine WV_exit ?_); (try simp only [go_sem, init_env', Nat.reduceEqDiff, Nat.reduceAdd, Nat.reduceMul, reduceIte, Nat.reduceLeDiff, Nat.reduceLT, Nat.reduceBEq, reduceCtorEq, hP, Route.av, beq_self_eq_true]); (repeat (refine And.intro (by first | omega | (intros; simp_all; done) | (intros; simp_all; omega)) ?_)))))
    (refine AG_pure (fun hG => same34 (rshutS r).1 (rshutS r).1) rfl (fun hG => by simp only [go_sem, init_env', Nat.reduceEqDiff, Nat.reduceAdd, Nat.reduceMul, reduceIte, Nat.reduceLeDiff, Nat.reduceLT, Nat.reduceBEq, reduceCtorEq, hG]) rfl rfl rfl ?_; simp only [go_sem, init_env', Nat.reduceEqDiff, Nat.reduceAdd, Nat.reduceMul, reduceIte, Nat.reduceLeDiff, Nat.reduceLT, Nat.reduceBEq, reduceCtorEq, hP, Route.av, beq_self_eq_true, decide_true]; (repeat (refine And.intro (by first | omega | (intros; simp_all; done) | (intros; simp_all; omega)) ?_)); (repeat ((first | refine WV_seq_ ?_ | refine WV_block ?_ | refine WV_ops ?_ | refine WV_skip ?_ | refine WV_exit ?_); (try simp only [go_sem, init_env', Nat.reduceEqDiff, Nat.reduceAdd, Nat.reduceMul, reduceIte, Nat.reduceLeDiff, Nat.reduceLT, Nat.reduceBEq, reduceCtorEq, hP, Route.av, beq_self_eq_true, decide_true]); (repeat (refine And.intro (by first | omega | (intros; simp_all; done) | (intros; simp_all; omega)) ?_)))))
    (refine AG_pure (fun hG => samer22 r) rfl (fun hG => by simp only [go_sem, init_env', Nat.reduceEqDiff, Nat.reduceAdd, Nat.reduceMul, reduceIte, Nat.reduceLeDiff, Nat.reduceLT, Nat.reduceBEq, reduceCtorEq, hG]) rfl rfl rfl ?_; simp only [go_sem, init_env', Nat.reduceEqDiff, Nat.reduceAdd, Nat.reduceMul, reduceIte, Nat.reduceLeDiff, Nat.reduceLT, Nat.reduceBEq, reduceCtorEq, hP, Route.av, beq_self_eq_true, decide_true]; (repeat (refine And.intro (by first | omega | (intros; simp_all; done) | (intros; simp_all; omega)) ?_)); (repeat ((first | refine WV_seq_ ?_ | refine WV_block ?_ | refine WV_ops ?_ | refine WV_skip ?_ | refine WV_exit ?_); (try simp only [go_sem, init_env', Nat.reduceEqDiff, Nat.reduceAdd, Nat.reduceMul, reduceIte, Nat.reduceLeDiff, Nat.reduceLT, Nat.reduceBEq, reduceCtorEq, hP, Route.av, beq_self_eq_true, decide_true]); (repeat (refine And.intro (by first | omega | (intros; simp_all; done) | (intros; simp_all; omega)) ?_)))))
    (refine AG_pure (fun hG => works14) rfl (fun hG => by simp only [go_sem, init_env', Nat.reduceEqDiff, Nat.reduceAdd, Nat.reduceMul, reduceIte, Nat.reduceLeDiff, Nat.reduceLT, Nat.reduceBEq, reduceCtorEq, hG]) rfl rfl rfl ?_; simp only [go_sem, init_env', Nat.reduceEqDiff, Nat.reduceAdd, Nat.reduceMul, reduceIte, Nat.reduceLeDiff, Nat.reduceLT, Nat.reduceBEq, reduceCtorEq, hP, Route.av]; (repeat (refine And.intro (by first | omega | (intros; simp_all; done) | (intros; simp_all; omega)) ?_)); (repeat ((first | refine WV_seq_ ?_ | refine WV_block ?_ | refine WV_ops ?_ | refine WV_skip ?_ | refine WV_exit ?_); (try simp only [go_sem, init_env', Nat.reduceEqDiff, Nat.reduceAdd, Nat.reduceMul, reduceIte, Nat.reduceLeDiff, Nat.reduceLT, Nat.reduceBEq, reduceCtorEq, hP, Route.av]); (repeat (refine And.intro (by first | omega | (intros; simp_all; done) | (intros; simp_all; omega)) ?_)))))
    (refine WV_ret ?_; simp only [thenQ, inQ, RetQ, RetOk, resAll, resA]; simp only [go_sem, init_env', Nat.reduceEqDiff, Nat.reduceAdd, Nat.reduceMul, reduceIte, Nat.reduceLeDiff, Nat.reduceLT, Nat.reduceBEq, reduceCtorEq, tupA, AV.port, AV.portL, exists_eq_left', ]; (first | exact AVle.of rfl | refine AVle.of ?_ | skip))
end Go.Proofs.Ytbejgfpaokcnpaa
