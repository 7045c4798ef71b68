/-
  Contracts of the layer's functions, of the laws' helpers and of the law; conditions: as each theorem states.
-/
import Derived.Test.YtkpgpgaojjobgaaU6
set_option linter.unusedVariables false
set_option linter.unusedSimpArgs false
namespace Go.Proofs.Ytkpgpgaojjobgaa
open Go Go.V
@[reducible] def o8_0 : List Ins := [⟨(some 3), .box 5 (.t 0), none, true⟩,
  ⟨(some 6), .mv (.k (.c (.bool false))), none, true⟩]
@[reducible] def o8_1 : List Ins := [⟨(some 17), .ld false 5 (.t 3), none, true⟩,
  ⟨(some 18), .call (.k (.fn 16 [])) [(.t 17)], none, true⟩,
  ⟨(some 19), .un .not (.t 18), none, true⟩,
  ⟨(some 20), .mv (.t 19), none, true⟩,
  ⟨(some 21), .fa 4 (.t 3), (some (20, false)), true⟩,
  ⟨(some 22), .ld true 1 (.t 21), (some (20, false)), true⟩,
  ⟨(some 23), .len (.t 22), (some (20, false)), true⟩,
  ⟨(some 24), .bin .geq (.t 23) (.k (.c (.int .i64 12))), (some (20, false)), true⟩,
  ⟨(some 25), .pick (.t 20) (.k (.c (.bool true))) (.t 24), none, true⟩,
  ⟨(some 26), .mv (.t 25), none, true⟩,
  ⟨(some 27), .ld false 5 (.t 3), (some (26, false)), true⟩,
  ⟨(some 28), .mv (.t 1), (some (26, false)), true⟩,
  ⟨(some 29), .call (.k (.fn 32 [])) [(.t 27), (.t 28)], (some (26, false)), true⟩,
  ⟨(some 30), .un .not (.t 29), (some (26, false)), true⟩,
  ⟨(some 31), .pick (.t 26) (.k (.c (.bool true))) (.t 30), none, true⟩,
  ⟨(some 32), .mv (.t 31), none, true⟩,
  ⟨(some 33), .mv (.t 2), (some (32, false)), true⟩,
  ⟨(some 34), .bin .lss (.t 33) (.k (.c (.int .i64 0))), (some (32, false)), true⟩,
  ⟨(some 35), .pick (.t 32) (.k (.c (.bool true))) (.t 34), none, true⟩,
  ⟨(some 36), .mv (.t 35), none, true⟩,
  ⟨(some 37), .mv (.t 2), (some (36, false)), true⟩,
  ⟨(some 38), .bin .gtr (.t 37) (.k (.c (.int .i64 9999))), (some (36, false)), true⟩,
  ⟨(some 39), .pick (.t 36) (.k (.c (.bool true))) (.t 38), none, true⟩]
@[reducible] def o8_2 : List Ins := [⟨(some 40), .call (.k (.fn 19 [])) [], none, true⟩,
  ⟨(some 6), .mv (.t 40), none, true⟩]
@[reducible] def v8_3 : VC := (.seq (.ops o8_2) .ret)
@[reducible] def v8_4 : VC := (.cond (.t 39) v8_3 .skip)
@[reducible] def o8_5 : List Ins := [⟨(some 42), .ld false 5 (.t 3), none, true⟩,
  ⟨(some 43), .mv (.t 1), none, true⟩,
  ⟨(some 44), .call (.k (.fn 27 [])) [(.t 42), (.t 43)], none, true⟩,
  ⟨(some 41), .mv (.t 44), none, true⟩,
  ⟨(some 45), .ext (.t 41) 0, none, true⟩,
  ⟨(some 46), .ext (.t 41) 1, none, true⟩,
  ⟨(some 7), .mv (.t 45), none, true⟩,
  ⟨(some 8), .mv (.t 46), none, true⟩]
@[reducible] def o8_6 : List Ins := [⟨(some 48), .ld false 5 (.t 3), none, true⟩,
  ⟨(some 49), .mv (.t 1), none, true⟩,
  ⟨(some 50), .call (.k (.fn 33 [])) [(.t 48), (.t 49)], none, true⟩,
  ⟨(some 47), .mv (.t 50), none, true⟩,
  ⟨(some 51), .ext (.t 47) 0, none, true⟩,
  ⟨(some 52), .ext (.t 47) 1, none, true⟩,
  ⟨(some 9), .mv (.t 51), none, true⟩,
  ⟨(some 10), .mv (.t 52), none, true⟩]
@[reducible] def o8_7 : List Ins := [⟨(some 53), .fa 4 (.t 3), none, true⟩,
  ⟨(some 54), .ld true 1 (.t 53), none, true⟩,
  ⟨(some 55), .mv (.t 1), none, true⟩,
  ⟨(some 56), .ia 2 (.t 54) (.t 55), none, true⟩,
  ⟨(some 57), .ld false 2 (.t 56), none, true⟩,
  ⟨(some 11), .alloc [(.c (.int .i64 0)), (.c (.int .i64 0))], none, true⟩,
  ⟨none, .st 2 (.t 11) (.t 57), none, true⟩]
@[reducible] def o8_8 : List Ins := [⟨(some 58), .mv (.t 8), none, true⟩,
  ⟨(some 59), .bin .neq (.t 58) (.k (.c (.int .i64 0))), none, true⟩,
  ⟨(some 60), .mv (.t 59), none, true⟩,
  ⟨(some 61), .mv (.t 10), (some (60, false)), true⟩,
  ⟨(some 62), .bin .neq (.t 61) (.k (.c (.int .i64 0))), (some (60, false)), true⟩,
  ⟨(some 63), .pick (.t 60) (.k (.c (.bool true))) (.t 62), none, true⟩,
  ⟨(some 64), .mv (.t 63), none, true⟩,
  ⟨(some 65), .mv (.t 7), (some (64, false)), true⟩,
  ⟨(some 66), .bin .lss (.t 65) (.k (.c (.int .i64 0))), (some (64, false)), true⟩,
  ⟨(some 67), .pick (.t 64) (.k (.c (.bool true))) (.t 66), none, true⟩]
@[reducible] def o8_9 : List Ins := [⟨(some 6), .mv (.k (.c (.bool false))), none, true⟩]
@[reducible] def v8_10 : VC := (.seq (.ops o8_9) .ret)
@[reducible] def v8_11 : VC := (.cond (.t 67) v8_10 .skip)
@[reducible] def o8_12 : List Ins := [⟨(some 68), .fa 1 (.t 11), none, true⟩,
  ⟨(some 69), .ld true 1 (.t 68), none, true⟩,
  ⟨(some 70), .mv (.t 2), none, true⟩,
  ⟨(some 71), .bin .add (.t 69) (.t 70), none, true⟩,
  ⟨(some 72), .fa 1 (.t 11), none, true⟩,
  ⟨none, .st 1 (.t 72) (.t 71), none, true⟩]
@[reducible] def o8_13 : List Ins := [⟨(some 73), .mv (.t 2), none, true⟩,
  ⟨(some 74), .mv (.t 7), none, true⟩,
  ⟨(some 75), .bin .gtr (.t 73) (.t 74), none, true⟩,
  ⟨(some 76), .mv (.t 75), none, true⟩,
  ⟨(some 77), .fa 1 (.t 11), (some (76, false)), true⟩,
  ⟨(some 78), .ld true 1 (.t 77), (some (76, false)), true⟩,
  ⟨(some 79), .call (.k (.fn 18 [])) [(.t 78)], (some (76, false)), true⟩,
  ⟨(some 80), .un .not (.t 79), (some (76, false)), true⟩,
  ⟨(some 81), .pick (.t 76) (.k (.c (.bool true))) (.t 80), none, true⟩]
@[reducible] def o8_14 : List Ins := [⟨(some 82), .call (.k (.fn 19 [])) [], none, true⟩,
  ⟨(some 6), .mv (.t 82), none, true⟩]
@[reducible] def v8_15 : VC := (.seq (.ops o8_14) .ret)
@[reducible] def v8_16 : VC := (.cond (.t 81) v8_15 .skip)
@[reducible] def o8_17 : List Ins := [⟨(some 83), .ld false 5 (.t 3), none, true⟩,
  ⟨(some 84), .call (.k (.fn 20 [])) [(.t 83)], none, true⟩,
  ⟨(some 12), .alloc [(.c (.raw (.slice none 0 0))), (.c (.int .i64 0)), (.c (.int .i64 0)), (.c (.int .i64 0)), (.c (.raw (.slice none 0 0)))], none, true⟩,
  ⟨none, .st 5 (.t 12) (.t 84), none, true⟩]
@[reducible] def o8_18 : List Ins := [⟨(some 85), .fa 4 (.t 12), none, true⟩,
  ⟨(some 86), .ld true 1 (.t 85), none, true⟩,
  ⟨(some 87), .ld false 2 (.t 11), none, true⟩,
  ⟨(some 88), .bsl 27 2 [(.t 87)], none, true⟩,
  ⟨(some 89), .app 27 2 16 (.t 86) (.t 88), none, true⟩,
  ⟨(some 90), .fa 4 (.t 12), none, true⟩,
  ⟨none, .st 1 (.t 90) (.t 89), none, true⟩]
@[reducible] def o8_19 : List Ins := [⟨(some 92), .ld false 5 (.t 3), none, true⟩,
  ⟨(some 93), .call (.k (.fn 22 [])) [(.t 92)], none, true⟩,
  ⟨(some 91), .mv (.t 93), none, true⟩,
  ⟨(some 94), .ext (.t 91) 0, none, true⟩,
  ⟨(some 95), .ext (.t 91) 1, none, true⟩,
  ⟨(some 13), .mv (.t 94), none, true⟩,
  ⟨(some 8), .mv (.t 95), none, true⟩]
@[reducible] def o8_20 : List Ins := [⟨(some 97), .ld false 5 (.t 12), none, true⟩,
  ⟨(some 98), .call (.k (.fn 22 [])) [(.t 97)], none, true⟩,
  ⟨(some 96), .mv (.t 98), none, true⟩,
  ⟨(some 99), .ext (.t 96) 0, none, true⟩,
  ⟨(some 100), .ext (.t 96) 1, none, true⟩,
  ⟨(some 14), .mv (.t 99), none, true⟩,
  ⟨(some 10), .mv (.t 100), none, true⟩]
@[reducible] def o8_21 : List Ins := [⟨(some 102), .ld false 5 (.t 12), none, true⟩,
  ⟨(some 103), .fa 4 (.t 3), none, true⟩,
  ⟨(some 104), .ld true 1 (.t 103), none, true⟩,
  ⟨(some 105), .len (.t 104), none, true⟩,
  ⟨(some 106), .call (.k (.fn 33 [])) [(.t 102), (.t 105)], none, true⟩,
  ⟨(some 101), .mv (.t 106), none, true⟩,
  ⟨(some 107), .ext (.t 101) 0, none, true⟩,
  ⟨(some 108), .ext (.t 101) 1, none, true⟩,
  ⟨(some 15), .mv (.t 107), none, true⟩,
  ⟨(some 16), .mv (.t 108), none, true⟩]
@[reducible] def o8_22 : List Ins := [⟨(some 109), .mv (.t 8), none, true⟩,
  ⟨(some 110), .bin .eql (.t 109) (.k (.c (.int .i64 0))), none, true⟩,
  ⟨(some 111), .mv (.t 110), none, true⟩,
  ⟨(some 112), .mv (.t 10), (some (111, true)), true⟩,
  ⟨(some 113), .bin .eql (.t 112) (.k (.c (.int .i64 0))), (some (111, true)), true⟩,
  ⟨(some 114), .pick (.t 111) (.t 113) (.k (.c (.bool false))), none, true⟩,
  ⟨(some 115), .mv (.t 114), none, true⟩,
  ⟨(some 116), .mv (.t 16), (some (115, true)), true⟩,
  ⟨(some 117), .bin .eql (.t 116) (.k (.c (.int .i64 0))), (some (115, true)), true⟩,
  ⟨(some 118), .pick (.t 115) (.t 117) (.k (.c (.bool false))), none, true⟩,
  ⟨(some 119), .mv (.t 118), none, true⟩,
  ⟨(some 120), .mv (.t 13), (some (119, true)), true⟩,
  ⟨(some 121), .mv (.t 14), (some (119, true)), true⟩,
  ⟨(some 122), .call (.k (.fn 34 [])) [(.t 120), (.t 121)], (some (119, true)), true⟩,
  ⟨(some 123), .pick (.t 119) (.t 122) (.k (.c (.bool false))), none, true⟩,
  ⟨(some 124), .mv (.t 123), none, true⟩,
  ⟨(some 125), .mv (.t 15), (some (124, true)), true⟩,
  ⟨(some 126), .mv (.t 9), (some (124, true)), true⟩,
  ⟨(some 127), .bin .eql (.t 125) (.t 126), (some (124, true)), true⟩,
  ⟨(some 128), .pick (.t 124) (.t 127) (.k (.c (.bool false))), none, true⟩,
  ⟨(some 129), .mv (.t 128), none, true⟩,
  ⟨(some 130), .call (.k (.fn 19 [])) [], (some (129, true)), true⟩,
  ⟨(some 131), .pick (.t 129) (.t 130) (.k (.c (.bool false))), none, true⟩,
  ⟨(some 6), .mv (.t 131), none, true⟩]
@[reducible] def v8_23 : VC := (.seq (.ops o8_22) .ret)
@[reducible] def v8_24 : VC := (.seq (.ops o8_21) v8_23)
@[reducible] def v8_25 : VC := (.seq (.ops o8_20) v8_24)
@[reducible] def v8_26 : VC := (.seq (.ops o8_19) v8_25)
@[reducible] def v8_27 : VC := (.seq (.ops o8_18) v8_26)
@[reducible] def v8_28 : VC := (.seq (.ops o8_17) v8_27)
@[reducible] def v8_29 : VC := (.seq (.seq (.ops o8_13) v8_16) v8_28)
@[reducible] def v8_30 : VC := (.seq (.ops o8_12) v8_29)
@[reducible] def v8_31 : VC := (.seq (.seq (.ops o8_8) v8_11) v8_30)
@[reducible] def v8_32 : VC := (.seq (.ops o8_7) v8_31)
@[reducible] def v8_33 : VC := (.seq (.ops o8_6) v8_32)
@[reducible] def v8_34 : VC := (.seq (.ops o8_5) v8_33)
@[reducible] def v8_35 : VC := (.seq (.seq (.ops o8_1) v8_4) v8_34)
def ir8 : FC := ⟨3, 132, [.t 6], (.seq (.ops o8_0) v8_35)⟩
theorem c8 : compM Try.prog [] 8 = some ir8 := by kernel_rfl



set_option maxRecDepth 20000 in
set_option maxHeartbeats 8000000 in
theorem law8 (t : Tray) (k b : Int) : FSpec Try.prog 8 [t.av, iv k, iv b] (.c (.bool true)) := by
  have hready := ready16 t
  have hmax : maxLen = 9223372036854775807 := rfl
  by_cases hok : t.ok = true
  rotate_left
  · have hok : t.ok = false := by simpa using hok
    rw [hok] at hready
    refine FSpec_of c8 (Nat.le_refl _) (by decide) fun C hP hN hC hL => ?_
    simp only [ir8, Tray.av]
    (repeat ((first | refine WV_seq_ ?_ | refine WV_block ?_ | refine WV_ops ?_ | refine WV_skip ?_ | refine WV_exit ?_); (try simp only [go_sem, init_env', Nat.reduceEqDiff, Nat.reduceAdd, Nat.reduceMul, reduceIte, Nat.reduceLeDiff, Nat.reduceLT, Nat.reduceBEq, reduceCtorEq, hP, ]); (repeat (refine And.intro (by first | omega | (intros; simp_all; done) | (intros; simp_all; omega)) ?_))))
    (refine AS_pure (hready) rfl rfl rfl rfl rfl ?_; simp only [go_sem, init_env', Nat.reduceEqDiff, Nat.reduceAdd, Nat.reduceMul, reduceIte, Nat.reduceLeDiff, Nat.reduceLT, Nat.reduceBEq, reduceCtorEq, hP, Tray.av]; (repeat (refine And.intro (by first | omega | (intros; simp_all; done) | (intros; simp_all; omega)) ?_)); (repeat ((first | refine WV_seq_ ?_ | refine WV_block ?_ | refine WV_ops ?_ | refine WV_skip ?_ | refine WV_exit ?_); (try simp only [go_sem, init_env', Nat.reduceEqDiff, Nat.reduceAdd, Nat.reduceMul, reduceIte, Nat.reduceLeDiff, Nat.reduceLT, Nat.reduceBEq, reduceCtorEq, hP, Tray.av]); (repeat (refine And.intro (by first | omega | (intros; simp_all; done) | (intros; simp_all; omega)) ?_)))))
    (refine AG_skip ?_; simp only [go_sem, init_env', Nat.reduceEqDiff, Nat.reduceAdd, Nat.reduceMul, reduceIte, Nat.reduceLeDiff, Nat.reduceLT, Nat.reduceBEq, reduceCtorEq, hP, ]; (repeat (refine And.intro (by first | omega | (intros; simp_all; done) | (intros; simp_all; omega)) ?_)); (repeat ((first | refine WV_seq_ ?_ | refine WV_block ?_ | refine WV_ops ?_ | refine WV_skip ?_ | refine WV_exit ?_); (try simp only [go_sem, init_env', Nat.reduceEqDiff, Nat.reduceAdd, Nat.reduceMul, reduceIte, Nat.reduceLeDiff, Nat.reduceLT, Nat.reduceBEq, reduceCtorEq, hP, ]); (repeat (refine And.intro (by first | omega | (intros; simp_all; done) | (intros; simp_all; omega)) ?_)))))
    (refine WV_cond rfl (fun h => ?_) (fun h => ?_))
    · (repeat ((first | refine WV_seq_ ?_ | refine WV_block ?_ | refine WV_ops ?_ | refine WV_skip ?_ | refine WV_exit ?_); (try simp only [go_sem, init_env', Nat.reduceEqDiff, Nat.reduceAdd, Nat.reduceMul, reduceIte, Nat.reduceLeDiff, Nat.reduceLT, Nat.reduceBEq, reduceCtorEq, hP, ]); (repeat (refine And.intro (by first | omega | (intros; simp_all; done) | (intros; simp_all; omega)) ?_))))
      (refine AS_pure (works19) rfl rfl rfl rfl rfl ?_; simp only [go_sem, init_env', Nat.reduceEqDiff, Nat.reduceAdd, Nat.reduceMul, reduceIte, Nat.reduceLeDiff, Nat.reduceLT, Nat.reduceBEq, reduceCtorEq, hP, ]; (repeat (refine And.intro (by first | omega | (intros; simp_all; done) | (intros; simp_all; omega)) ?_)); (repeat ((first | refine WV_seq_ ?_ | refine WV_block ?_ | refine WV_ops ?_ | refine WV_skip ?_ | refine WV_exit ?_); (try simp only [go_sem, init_env', Nat.reduceEqDiff, Nat.reduceAdd, Nat.reduceMul, reduceIte, Nat.reduceLeDiff, Nat.reduceLT, Nat.reduceBEq, reduceCtorEq, hP, ]); (repeat (refine And.intro (by first | omega | (intros; simp_all; done) | (intros; simp_all; omega)) ?_)))))
      (refine WV_ret ?_; simp only [thenQ, inQ, RetQ, RetOk, resAll, resA]; simp only [go_sem, init_env', Nat.reduceEqDiff, Nat.reduceAdd, Nat.reduceMul, reduceIte, Nat.reduceLeDiff, Nat.reduceLT, Nat.reduceBEq, reduceCtorEq, tupA, AV.port, AV.portL, exists_eq_left', ]; (first | exact AVle.of rfl | refine AVle.of ?_ | skip))
    · simp at h
  rw [hok] at hready
  obtain ⟨ht, hl12⟩ := Tray.ok_spec hok
  have hn6 := ht.n6
  have hrl : t.recs.length = t.n := rfl
  have hpr := ispress32 t k (by omega)
  by_cases hgo : (decide (t.pres.length < 12) && inR t k && decide (0 ≤ b) && decide (b ≤ 9999)) = true
  rotate_left
  · refine FSpec_of c8 (Nat.le_refl _) (by decide) fun C hP hN hC hL => ?_
    simp only [ir8, Tray.av]
    (repeat ((first | refine WV_seq_ ?_ | refine WV_block ?_ | refine WV_ops ?_ | refine WV_skip ?_ | refine WV_exit ?_); (try simp only [go_sem, init_env', Nat.reduceEqDiff, Nat.reduceAdd, Nat.reduceMul, reduceIte, Nat.reduceLeDiff, Nat.reduceLT, Nat.reduceBEq, reduceCtorEq, hP, ]); (repeat (refine And.intro (by first | omega | (intros; simp_all; done) | (intros; simp_all; omega)) ?_))))
    (refine AS_pure (hready) rfl rfl rfl rfl rfl ?_; simp only [go_sem, init_env', Nat.reduceEqDiff, Nat.reduceAdd, Nat.reduceMul, reduceIte, Nat.reduceLeDiff, Nat.reduceLT, Nat.reduceBEq, reduceCtorEq, hP, Tray.av]; (repeat (refine And.intro (by first | omega | (intros; simp_all; done) | (intros; simp_all; omega)) ?_)); (repeat ((first | refine WV_seq_ ?_ | refine WV_block ?_ | refine WV_ops ?_ | refine WV_skip ?_ | refine WV_exit ?_); (try simp only [go_sem, init_env', Nat.reduceEqDiff, Nat.reduceAdd, Nat.reduceMul, reduceIte, Nat.reduceLeDiff, Nat.reduceLT, Nat.reduceBEq, reduceCtorEq, hP, Tray.av]); (repeat (refine And.intro (by first | omega | (intros; simp_all; done) | (intros; simp_all; omega)) ?_)))))
    (refine AG_pure (fun hG => hpr) rfl (fun hG => by first | (simp only [go_sem, init_env', Nat.reduceEqDiff, Nat.reduceAdd, Nat.reduceMul, reduceIte, Nat.reduceLeDiff, Nat.reduceLT, Nat.reduceBEq, reduceCtorEq, hG]; done) | (simp only [go_sem, init_env', Nat.reduceEqDiff, Nat.reduceAdd, Nat.reduceMul, reduceIte, Nat.reduceLeDiff, Nat.reduceLT, Nat.reduceBEq, reduceCtorEq]; revert hG; simp; done) | (simp only [go_sem, init_env', Nat.reduceEqDiff, Nat.reduceAdd, Nat.reduceMul, reduceIte, Nat.reduceLeDiff, Nat.reduceLT, Nat.reduceBEq, reduceCtorEq, hG]; simp_all; done) | (revert hG; simp; done) | simp_all) rfl rfl rfl ?_; simp only [go_sem, init_env', Nat.reduceEqDiff, Nat.reduceAdd, Nat.reduceMul, reduceIte, Nat.reduceLeDiff, Nat.reduceLT, Nat.reduceBEq, reduceCtorEq, hP, prsC, List.length_map]; (repeat (refine And.intro (by first | omega | (intros; simp_all; done) | (intros; simp_all; omega)) ?_)); (repeat ((first | refine WV_seq_ ?_ | refine WV_block ?_ | refine WV_ops ?_ | refine WV_skip ?_ | refine WV_exit ?_); (try simp only [go_sem, init_env', Nat.reduceEqDiff, Nat.reduceAdd, Nat.reduceMul, reduceIte, Nat.reduceLeDiff, Nat.reduceLT, Nat.reduceBEq, reduceCtorEq, hP, prsC, List.length_map]); (repeat (refine And.intro (by first | omega | (intros; simp_all; done) | (intros; simp_all; omega)) ?_)))))
    (refine WV_cond rfl (fun h => ?_) (fun h => ?_))
    · (repeat ((first | refine WV_seq_ ?_ | refine WV_block ?_ | refine WV_ops ?_ | refine WV_skip ?_ | refine WV_exit ?_); (try simp only [go_sem, init_env', Nat.reduceEqDiff, Nat.reduceAdd, Nat.reduceMul, reduceIte, Nat.reduceLeDiff, Nat.reduceLT, Nat.reduceBEq, reduceCtorEq, hP, ]); (repeat (refine And.intro (by first | omega | (intros; simp_all; done) | (intros; simp_all; omega)) ?_))))
      (refine AS_pure (works19) rfl rfl rfl rfl rfl ?_; simp only [go_sem, init_env', Nat.reduceEqDiff, Nat.reduceAdd, Nat.reduceMul, reduceIte, Nat.reduceLeDiff, Nat.reduceLT, Nat.reduceBEq, reduceCtorEq, hP, ]; (repeat (refine And.intro (by first | omega | (intros; simp_all; done) | (intros; simp_all; omega)) ?_)); (repeat ((first | refine WV_seq_ ?_ | refine WV_block ?_ | refine WV_ops ?_ | refine WV_skip ?_ | refine WV_exit ?_); (try simp only [go_sem, init_env', Nat.reduceEqDiff, Nat.reduceAdd, Nat.reduceMul, reduceIte, Nat.reduceLeDiff, Nat.reduceLT, Nat.reduceBEq, reduceCtorEq, hP, ]); (repeat (refine And.intro (by first | omega | (intros; simp_all; done) | (intros; simp_all; omega)) ?_)))))
      (refine WV_ret ?_; simp only [thenQ, inQ, RetQ, RetOk, resAll, resA]; simp only [go_sem, init_env', Nat.reduceEqDiff, Nat.reduceAdd, Nat.reduceMul, reduceIte, Nat.reduceLeDiff, Nat.reduceLT, Nat.reduceBEq, reduceCtorEq, tupA, AV.port, AV.portL, exists_eq_left', ]; (first | exact AVle.of rfl | refine AVle.of ?_ | skip))
    · exfalso; apply hgo
      simp at h ⊢
      obtain ⟨⟨⟨a1, a2⟩, a3⟩, a4⟩ := h
      exact ⟨⟨⟨by omega, a2⟩, by omega⟩, by omega⟩
  simp only [Bool.and_eq_true, decide_eq_true_eq] at hgo
  obtain ⟨⟨⟨h12, hin⟩, hb0⟩, hb9⟩ := hgo
  rw [hin] at hpr
  have hkk := inR_spec hin
  obtain ⟨kn, rfl⟩ := Int.eq_ofNat_of_zero_le hkk.1
  have hkn : kn < t.pres.length := by omega
  obtain ⟨j, hj, e1, e2, e3, e4, e5, e6, e7, e8⟩ := served_get ht hin
  have b1 := wait27 t kn
  rw [show waitR t kn = (waitV t kn, 0) by unfold waitR servedR; rw [hok, hin]; rfl] at b1
  have b2 := served33 t kn
  rw [show servedR t kn = (servesI (playsS t) (t.pr kn) 0, playsS t, 0) by unfold servedR; rw [hok, hin]; rfl] at b2
  have b3 := plays22 t
  rw [show playsR t = (playsS t, 0) by unfold playsR; rw [hok]; rfl] at b3
  have hlen : (playsS t).length ≤ 13 := plays_len ht
  have bsame := sameP34 (playsS t) (by omega)
  have epr : t.pr kn = t.pres[kn] := by unfold Tray.pr; rw [Int.toNat_natCast, List.getD_eq_getElem?_getD, List.getElem?_eq_getElem hkn]; rfl
  have htime := ristime18 (t.pres[kn].time + b)
  have hps : isSide t.n (t.pr kn).side = true := by
    have := (ht.pres t.pres[kn] (List.getElem_mem hkn)).1
    rw [epr]; simp [isSide, within]; omega
  have g1 : (t.pres.map Pr.cds).getD kn [] = [.int .i64 t.pres[kn].side, .int .i64 t.pres[kn].time] := map_getD hkn
  have hI : (kn : Int) < (t.pres.length : Int) := by omega
  have hw3 := w64 (n := t.pres[kn].time + b) (by rw [epr] at e7; omega) (by rw [epr] at e8; omega)
  have hcop := copyN t (by omega) (by omega)
  have d0 : decide (12 ≤ (t.pres.length : Int)) = false := by simp; omega
  have d1 : decide (b < 0) = false := by simp; omega
  have d2 : decide (9999 < b) = false := by simp; omega
  have d3 : decide (waitV t kn < 0) = false := by simp; omega
  by_cases hgo2 : (decide (b ≤ waitV t kn) && isTime (t.pres[kn].time + b)) = true
  rotate_left
  · have d4 : (decide (waitV t kn < b) || !isTime (t.pres[kn].time + b)) = true := by
      cases h1 : isTime (t.pres[kn].time + b)
      · simp
      · rw [h1] at hgo2; simp at hgo2 ⊢; omega
    generalize waitV t kn = W0 at *
    generalize t.pres[kn].time = T0 at *
    generalize t.pres[kn].side = S0 at *
    refine FSpec_of c8 (Nat.le_refl _) (by decide) fun C hP hN hC hL => ?_
    simp only [ir8, Tray.av]
    (repeat ((first | refine WV_seq_ ?_ | refine WV_block ?_ | refine WV_ops ?_ | refine WV_skip ?_ | refine WV_exit ?_); (try simp only [go_sem, init_env', Nat.reduceEqDiff, Nat.reduceAdd, Nat.reduceMul, reduceIte, Nat.reduceLeDiff, Nat.reduceLT, Nat.reduceBEq, reduceCtorEq, hP, ]); (repeat (refine And.intro (by first | omega | (intros; simp_all; done) | (intros; simp_all; omega)) ?_))))
    (refine AS_pure (hready) rfl rfl rfl rfl rfl ?_; simp only [go_sem, init_env', Nat.reduceEqDiff, Nat.reduceAdd, Nat.reduceMul, reduceIte, Nat.reduceLeDiff, Nat.reduceLT, Nat.reduceBEq, reduceCtorEq, hP, Tray.av]; (repeat (refine And.intro (by first | omega | (intros; simp_all; done) | (intros; simp_all; omega)) ?_)); (repeat ((first | refine WV_seq_ ?_ | refine WV_block ?_ | refine WV_ops ?_ | refine WV_skip ?_ | refine WV_exit ?_); (try simp only [go_sem, init_env', Nat.reduceEqDiff, Nat.reduceAdd, Nat.reduceMul, reduceIte, Nat.reduceLeDiff, Nat.reduceLT, Nat.reduceBEq, reduceCtorEq, hP, Tray.av]); (repeat (refine And.intro (by first | omega | (intros; simp_all; done) | (intros; simp_all; omega)) ?_)))))
    (refine AG_pure (fun hG => hpr) rfl (fun hG => by first | (simp only [go_sem, init_env', Nat.reduceEqDiff, Nat.reduceAdd, Nat.reduceMul, reduceIte, Nat.reduceLeDiff, Nat.reduceLT, Nat.reduceBEq, reduceCtorEq, hG]; done) | (simp only [go_sem, init_env', Nat.reduceEqDiff, Nat.reduceAdd, Nat.reduceMul, reduceIte, Nat.reduceLeDiff, Nat.reduceLT, Nat.reduceBEq, reduceCtorEq]; revert hG; simp; done) | (simp only [go_sem, init_env', Nat.reduceEqDiff, Nat.reduceAdd, Nat.reduceMul, reduceIte, Nat.reduceLeDiff, Nat.reduceLT, Nat.reduceBEq, reduceCtorEq, hG]; simp_all; done) | (revert hG; simp; done) | simp_all) rfl rfl rfl ?_; simp only [go_sem, init_env', Nat.reduceEqDiff, Nat.reduceAdd, Nat.reduceMul, reduceIte, Nat.reduceLeDiff, Nat.reduceLT, Nat.reduceBEq, reduceCtorEq, hP, prsC, List.length_map, d0, d1, d2]; (repeat (refine And.intro (by first | omega | (intros; simp_all; done) | (intros; simp_all; omega)) ?_)); (repeat ((first | refine WV_seq_ ?_ | refine WV_block ?_ | refine WV_ops ?_ | refine WV_skip ?_ | refine WV_exit ?_); (try simp only [go_sem, init_env', Nat.reduceEqDiff, Nat.reduceAdd, Nat.reduceMul, reduceIte, Nat.reduceLeDiff, Nat.reduceLT, Nat.reduceBEq, reduceCtorEq, hP, prsC, List.length_map, d0, d1, d2]); (repeat (refine And.intro (by first | omega | (intros; simp_all; done) | (intros; simp_all; omega)) ?_)))))
    (refine WV_cond rfl (fun h => ?_) (fun h => ?_))
    · simp at h
    (repeat ((first | refine WV_seq_ ?_ | refine WV_block ?_ | refine WV_ops ?_ | refine WV_skip ?_ | refine WV_exit ?_); (try simp only [go_sem, init_env', Nat.reduceEqDiff, Nat.reduceAdd, Nat.reduceMul, reduceIte, Nat.reduceLeDiff, Nat.reduceLT, Nat.reduceBEq, reduceCtorEq, hP, ]); (repeat (refine And.intro (by first | omega | (intros; simp_all; done) | (intros; simp_all; omega)) ?_))))
    (refine AS_pure (b1) rfl rfl rfl rfl rfl ?_; simp only [go_sem, init_env', Nat.reduceEqDiff, Nat.reduceAdd, Nat.reduceMul, reduceIte, Nat.reduceLeDiff, Nat.reduceLT, Nat.reduceBEq, reduceCtorEq, hP, Tray.av]; (repeat (refine And.intro (by first | omega | (intros; simp_all; done) | (intros; simp_all; omega)) ?_)); (repeat ((first | refine WV_seq_ ?_ | refine WV_block ?_ | refine WV_ops ?_ | refine WV_skip ?_ | refine WV_exit ?_); (try simp only [go_sem, init_env', Nat.reduceEqDiff, Nat.reduceAdd, Nat.reduceMul, reduceIte, Nat.reduceLeDiff, Nat.reduceLT, Nat.reduceBEq, reduceCtorEq, hP, Tray.av]); (repeat (refine And.intro (by first | omega | (intros; simp_all; done) | (intros; simp_all; omega)) ?_)))))
    (refine AS_pure (b2) rfl rfl rfl rfl rfl ?_; simp only [go_sem, init_env', Nat.reduceEqDiff, Nat.reduceAdd, Nat.reduceMul, reduceIte, Nat.reduceLeDiff, Nat.reduceLT, Nat.reduceBEq, reduceCtorEq, hP, prsC, List.length_map, g1, hI, Int.natCast_nonneg, bne_self_eq_false, d3]; (repeat (refine And.intro (by first | omega | (intros; simp_all; done) | (intros; simp_all; omega)) ?_)); (repeat ((first | refine WV_seq_ ?_ | refine WV_block ?_ | refine WV_ops ?_ | refine WV_skip ?_ | refine WV_exit ?_); (try simp only [go_sem, init_env', Nat.reduceEqDiff, Nat.reduceAdd, Nat.reduceMul, reduceIte, Nat.reduceLeDiff, Nat.reduceLT, Nat.reduceBEq, reduceCtorEq, hP, prsC, List.length_map, g1, hI, Int.natCast_nonneg, bne_self_eq_false, d3]); (repeat (refine And.intro (by first | omega | (intros; simp_all; done) | (intros; simp_all; omega)) ?_)))))
    (refine WV_cond rfl (fun h => ?_) (fun h => ?_))
    · simp at h
    (repeat ((first | refine WV_seq_ ?_ | refine WV_block ?_ | refine WV_ops ?_ | refine WV_skip ?_ | refine WV_exit ?_); (try simp only [go_sem, init_env', Nat.reduceEqDiff, Nat.reduceAdd, Nat.reduceMul, reduceIte, Nat.reduceLeDiff, Nat.reduceLT, Nat.reduceBEq, reduceCtorEq, hP, hw3]); (repeat (refine And.intro (by first | omega | (intros; simp_all; done) | (intros; simp_all; omega)) ?_))))
    (refine AG_pure (fun hG => htime) rfl (fun hG => by first | (simp only [go_sem, init_env', Nat.reduceEqDiff, Nat.reduceAdd, Nat.reduceMul, reduceIte, Nat.reduceLeDiff, Nat.reduceLT, Nat.reduceBEq, reduceCtorEq, hG]; done) | (simp only [go_sem, init_env', Nat.reduceEqDiff, Nat.reduceAdd, Nat.reduceMul, reduceIte, Nat.reduceLeDiff, Nat.reduceLT, Nat.reduceBEq, reduceCtorEq]; revert hG; simp; done) | (simp only [go_sem, init_env', Nat.reduceEqDiff, Nat.reduceAdd, Nat.reduceMul, reduceIte, Nat.reduceLeDiff, Nat.reduceLT, Nat.reduceBEq, reduceCtorEq, hG]; simp_all; done) | (revert hG; simp; done) | simp_all) rfl rfl rfl ?_; simp only [go_sem, init_env', Nat.reduceEqDiff, Nat.reduceAdd, Nat.reduceMul, reduceIte, Nat.reduceLeDiff, Nat.reduceLT, Nat.reduceBEq, reduceCtorEq, hP, d4]; (repeat (refine And.intro (by first | omega | (intros; simp_all; done) | (intros; simp_all; omega)) ?_)); (repeat ((first | refine WV_seq_ ?_ | refine WV_block ?_ | refine WV_ops ?_ | refine WV_skip ?_ | refine WV_exit ?_); (try simp only [go_sem, init_env', Nat.reduceEqDiff, Nat.reduceAdd, Nat.reduceMul, reduceIte, Nat.reduceLeDiff, Nat.reduceLT, Nat.reduceBEq, reduceCtorEq, hP, d4]); (repeat (refine And.intro (by first | omega | (intros; simp_all; done) | (intros; simp_all; omega)) ?_)))))
    (refine WV_cond rfl (fun h => ?_) (fun h => ?_))
    · (repeat ((first | refine WV_seq_ ?_ | refine WV_block ?_ | refine WV_ops ?_ | refine WV_skip ?_ | refine WV_exit ?_); (try simp only [go_sem, init_env', Nat.reduceEqDiff, Nat.reduceAdd, Nat.reduceMul, reduceIte, Nat.reduceLeDiff, Nat.reduceLT, Nat.reduceBEq, reduceCtorEq, hP, ]); (repeat (refine And.intro (by first | omega | (intros; simp_all; done) | (intros; simp_all; omega)) ?_))))
      (refine AS_pure (works19) rfl rfl rfl rfl rfl ?_; simp only [go_sem, init_env', Nat.reduceEqDiff, Nat.reduceAdd, Nat.reduceMul, reduceIte, Nat.reduceLeDiff, Nat.reduceLT, Nat.reduceBEq, reduceCtorEq, hP, ]; (repeat (refine And.intro (by first | omega | (intros; simp_all; done) | (intros; simp_all; omega)) ?_)); (repeat ((first | refine WV_seq_ ?_ | refine WV_block ?_ | refine WV_ops ?_ | refine WV_skip ?_ | refine WV_exit ?_); (try simp only [go_sem, init_env', Nat.reduceEqDiff, Nat.reduceAdd, Nat.reduceMul, reduceIte, Nat.reduceLeDiff, Nat.reduceLT, Nat.reduceBEq, reduceCtorEq, hP, ]); (repeat (refine And.intro (by first | omega | (intros; simp_all; done) | (intros; simp_all; omega)) ?_)))))
      (refine WV_ret ?_; simp only [thenQ, inQ, RetQ, RetOk, resAll, resA]; simp only [go_sem, init_env', Nat.reduceEqDiff, Nat.reduceAdd, Nat.reduceMul, reduceIte, Nat.reduceLeDiff, Nat.reduceLT, Nat.reduceBEq, reduceCtorEq, tupA, AV.port, AV.portL, exists_eq_left', ]; (first | exact AVle.of rfl | refine AVle.of ?_ | skip))
    · simp at h
  simp only [Bool.and_eq_true, decide_eq_true_eq] at hgo2
  obtain ⟨hbw, htm⟩ := hgo2
  rw [htm] at htime
  have htm' : isTime ((t.pr kn).time + b) = true := by rw [epr]; exact htm
  have hok' := withT_okB hok h12 (p := ⟨(t.pr kn).side, (t.pr kn).time + b⟩) hps htm'
  have ht' := (Tray.ok_spec hok').1
  obtain ⟨c1, c2⟩ := twice ht h12 hin hb0 hbw ht'
  have b4 := plays22 (withT t ⟨(t.pr kn).side, (t.pr kn).time + b⟩)
  rw [show playsR (withT t ⟨(t.pr kn).side, (t.pr kn).time + b⟩) = (playsS t, 0) by unfold playsR; rw [hok', c1]; rfl] at b4
  have b5 := served33 (withT t ⟨(t.pr kn).side, (t.pr kn).time + b⟩) (t.pres.length : Int)
  have hin' : inR (withT t ⟨(t.pr kn).side, (t.pr kn).time + b⟩) (t.pres.length : Int) = true := inR_nat (by simp [withT])
  rw [show servedR (withT t ⟨(t.pr kn).side, (t.pr kn).time + b⟩) (t.pres.length : Int) = (servesI (playsS t) (t.pr kn) 0, playsS t, 0) by unfold servedR; rw [hok', hin', withT_pr, c1, c2]; rfl] at b5
  have hav : (withT t ⟨(t.pr kn).side, (t.pr kn).time + b⟩).av = .agg [.c (recsC t.recs), iv t.at_, iv t.way, iv t.step, .c (prsC (t.pres ++ [⟨(t.pr kn).side, (t.pr kn).time + b⟩]))] := rfl
  generalize servesI (playsS t) (t.pr kn) 0 = SV at *
  rw [hav, epr] at b4 b5
  simp only [prsC, List.map_append, List.map_cons, List.map_nil, Pr.cds] at b4 b5
  have d4 : decide (waitV t kn < b) = false := by simp; omega
  clear hok' ht' c1 c2 hav hin' hps e1 e2 e4
  generalize playsS t = L at *
  generalize waitV t kn = W0 at *
  generalize t.pres[kn].time = T0 at *
  generalize t.pres[kn].side = S0 at *
  refine FSpec_of c8 (Nat.le_refl _) (by decide) fun C hP hN hC hL => ?_
  simp only [ir8, Tray.av]
  (repeat ((first | refine WV_seq_ ?_ | refine WV_block ?_ | refine WV_ops ?_ | refine WV_skip ?_ | refine WV_exit ?_); (try simp only [go_sem, init_env', Nat.reduceEqDiff, Nat.reduceAdd, Nat.reduceMul, reduceIte, Nat.reduceLeDiff, Nat.reduceLT, Nat.reduceBEq, reduceCtorEq, hP, ]); (repeat (refine And.intro (by first | omega | (intros; simp_all; done) | (intros; simp_all; omega)) ?_))))
  (refine AS_pure (hready) rfl rfl rfl rfl rfl ?_; simp only [go_sem, init_env', Nat.reduceEqDiff, Nat.reduceAdd, Nat.reduceMul, reduceIte, Nat.reduceLeDiff, Nat.reduceLT, Nat.reduceBEq, reduceCtorEq, hP, Tray.av]; (repeat (refine And.intro (by first | omega | (intros; simp_all; done) | (intros; simp_all; omega)) ?_)); (repeat ((first | refine WV_seq_ ?_ | refine WV_block ?_ | refine WV_ops ?_ | refine WV_skip ?_ | refine WV_exit ?_); (try simp only [go_sem, init_env', Nat.reduceEqDiff, Nat.reduceAdd, Nat.reduceMul, reduceIte, Nat.reduceLeDiff, Nat.reduceLT, Nat.reduceBEq, reduceCtorEq, hP, Tray.av]); (repeat (refine And.intro (by first | omega | (intros; simp_all; done) | (intros; simp_all; omega)) ?_)))))
  (refine AG_pure (fun hG => hpr) rfl (fun hG => by first | (simp only [go_sem, init_env', Nat.reduceEqDiff, Nat.reduceAdd, Nat.reduceMul, reduceIte, Nat.reduceLeDiff, Nat.reduceLT, Nat.reduceBEq, reduceCtorEq, hG]; done) | (simp only [go_sem, init_env', Nat.reduceEqDiff, Nat.reduceAdd, Nat.reduceMul, reduceIte, Nat.reduceLeDiff, Nat.reduceLT, Nat.reduceBEq, reduceCtorEq]; revert hG; simp; done) | (simp only [go_sem, init_env', Nat.reduceEqDiff, Nat.reduceAdd, Nat.reduceMul, reduceIte, Nat.reduceLeDiff, Nat.reduceLT, Nat.reduceBEq, reduceCtorEq, hG]; simp_all; done) | (revert hG; simp; done) | simp_all) rfl rfl rfl ?_; simp only [go_sem, init_env', Nat.reduceEqDiff, Nat.reduceAdd, Nat.reduceMul, reduceIte, Nat.reduceLeDiff, Nat.reduceLT, Nat.reduceBEq, reduceCtorEq, hP, prsC, List.length_map, d0, d1, d2]; (repeat (refine And.intro (by first | omega | (intros; simp_all; done) | (intros; simp_all; omega)) ?_)); (repeat ((first | refine WV_seq_ ?_ | refine WV_block ?_ | refine WV_ops ?_ | refine WV_skip ?_ | refine WV_exit ?_); (try simp only [go_sem, init_env', Nat.reduceEqDiff, Nat.reduceAdd, Nat.reduceMul, reduceIte, Nat.reduceLeDiff, Nat.reduceLT, Nat.reduceBEq, reduceCtorEq, hP, prsC, List.length_map, d0, d1, d2]); (repeat (refine And.intro (by first | omega | (intros; simp_all; done) | (intros; simp_all; omega)) ?_)))))
  (refine WV_cond rfl (fun h => ?_) (fun h => ?_))
  · simp at h
  (repeat ((first | refine WV_seq_ ?_ | refine WV_block ?_ | refine WV_ops ?_ | refine WV_skip ?_ | refine WV_exit ?_); (try simp only [go_sem, init_env', Nat.reduceEqDiff, Nat.reduceAdd, Nat.reduceMul, reduceIte, Nat.reduceLeDiff, Nat.reduceLT, Nat.reduceBEq, reduceCtorEq, hP, ]); (repeat (refine And.intro (by first | omega | (intros; simp_all; done) | (intros; simp_all; omega)) ?_))))
  (refine AS_pure (b1) rfl rfl rfl rfl rfl ?_; simp only [go_sem, init_env', Nat.reduceEqDiff, Nat.reduceAdd, Nat.reduceMul, reduceIte, Nat.reduceLeDiff, Nat.reduceLT, Nat.reduceBEq, reduceCtorEq, hP, Tray.av]; (repeat (refine And.intro (by first | omega | (intros; simp_all; done) | (intros; simp_all; omega)) ?_)); (repeat ((first | refine WV_seq_ ?_ | refine WV_block ?_ | refine WV_ops ?_ | refine WV_skip ?_ | refine WV_exit ?_); (try simp only [go_sem, init_env', Nat.reduceEqDiff, Nat.reduceAdd, Nat.reduceMul, reduceIte, Nat.reduceLeDiff, Nat.reduceLT, Nat.reduceBEq, reduceCtorEq, hP, Tray.av]); (repeat (refine And.intro (by first | omega | (intros; simp_all; done) | (intros; simp_all; omega)) ?_)))))
  (refine AS_pure (b2) rfl rfl rfl rfl rfl ?_; simp only [go_sem, init_env', Nat.reduceEqDiff, Nat.reduceAdd, Nat.reduceMul, reduceIte, Nat.reduceLeDiff, Nat.reduceLT, Nat.reduceBEq, reduceCtorEq, hP, prsC, List.length_map, g1, hI, Int.natCast_nonneg, bne_self_eq_false, d3]; (repeat (refine And.intro (by first | omega | (intros; simp_all; done) | (intros; simp_all; omega)) ?_)); (repeat ((first | refine WV_seq_ ?_ | refine WV_block ?_ | refine WV_ops ?_ | refine WV_skip ?_ | refine WV_exit ?_); (try simp only [go_sem, init_env', Nat.reduceEqDiff, Nat.reduceAdd, Nat.reduceMul, reduceIte, Nat.reduceLeDiff, Nat.reduceLT, Nat.reduceBEq, reduceCtorEq, hP, prsC, List.length_map, g1, hI, Int.natCast_nonneg, bne_self_eq_false, d3]); (repeat (refine And.intro (by first | omega | (intros; simp_all; done) | (intros; simp_all; omega)) ?_)))))
  (refine WV_cond rfl (fun h => ?_) (fun h => ?_))
  · simp at h
  (repeat ((first | refine WV_seq_ ?_ | refine WV_block ?_ | refine WV_ops ?_ | refine WV_skip ?_ | refine WV_exit ?_); (try simp only [go_sem, init_env', Nat.reduceEqDiff, Nat.reduceAdd, Nat.reduceMul, reduceIte, Nat.reduceLeDiff, Nat.reduceLT, Nat.reduceBEq, reduceCtorEq, hP, hw3]); (repeat (refine And.intro (by first | omega | (intros; simp_all; done) | (intros; simp_all; omega)) ?_))))
  (refine AG_pure (fun hG => htime) rfl (fun hG => by first | (simp only [go_sem, init_env', Nat.reduceEqDiff, Nat.reduceAdd, Nat.reduceMul, reduceIte, Nat.reduceLeDiff, Nat.reduceLT, Nat.reduceBEq, reduceCtorEq, hG]; done) | (simp only [go_sem, init_env', Nat.reduceEqDiff, Nat.reduceAdd, Nat.reduceMul, reduceIte, Nat.reduceLeDiff, Nat.reduceLT, Nat.reduceBEq, reduceCtorEq]; revert hG; simp; done) | (simp only [go_sem, init_env', Nat.reduceEqDiff, Nat.reduceAdd, Nat.reduceMul, reduceIte, Nat.reduceLeDiff, Nat.reduceLT, Nat.reduceBEq, reduceCtorEq, hG]; simp_all; done) | (revert hG; simp; done) | simp_all) rfl rfl rfl ?_; simp only [go_sem, init_env', Nat.reduceEqDiff, Nat.reduceAdd, Nat.reduceMul, reduceIte, Nat.reduceLeDiff, Nat.reduceLT, Nat.reduceBEq, reduceCtorEq, hP, d4]; (repeat (refine And.intro (by first | omega | (intros; simp_all; done) | (intros; simp_all; omega)) ?_)); (repeat ((first | refine WV_seq_ ?_ | refine WV_block ?_ | refine WV_ops ?_ | refine WV_skip ?_ | refine WV_exit ?_); (try simp only [go_sem, init_env', Nat.reduceEqDiff, Nat.reduceAdd, Nat.reduceMul, reduceIte, Nat.reduceLeDiff, Nat.reduceLT, Nat.reduceBEq, reduceCtorEq, hP, d4]); (repeat (refine And.intro (by first | omega | (intros; simp_all; done) | (intros; simp_all; omega)) ?_)))))
  (refine WV_cond rfl (fun h => ?_) (fun h => ?_))
  · simp at h
  (repeat ((first | refine WV_seq_ ?_ | refine WV_block ?_ | refine WV_ops ?_ | refine WV_skip ?_ | refine WV_exit ?_); (try simp only [go_sem, init_env', Nat.reduceEqDiff, Nat.reduceAdd, Nat.reduceMul, reduceIte, Nat.reduceLeDiff, Nat.reduceLT, Nat.reduceBEq, reduceCtorEq, hP, ]); (repeat (refine And.intro (by first | omega | (intros; simp_all; done) | (intros; simp_all; omega)) ?_))))
  refine AS_new hcop rfl rfl rfl rfl ?_
  rintro res os ⟨rfl, rfl⟩
  refine ⟨[900, 901], .agg [.gr 900, iv t.at_, iv t.way, iv t.step, .gr 901], [.grow 56 2 (t.recs.map Rec.cds), .grow 27 2 (t.pres.map Pr.cds)], by decide, rfl, by simp only [go_sem, init_env', Nat.reduceEqDiff, Nat.reduceAdd, Nat.reduceMul, reduceIte, Nat.reduceLeDiff, Nat.reduceLT, Nat.reduceBEq, reduceCtorEq, decide_true], rfl, rfl, ?_⟩
  simp only [go_sem, init_env', Nat.reduceEqDiff, Nat.reduceAdd, Nat.reduceMul, reduceIte, Nat.reduceLeDiff, Nat.reduceLT, Nat.reduceBEq, reduceCtorEq, hP, ownBack, prs_two, List.length_map]
  (repeat (refine And.intro (by first | omega | (intros; simp_all; done) | (intros; simp_all; omega)) ?_))
  (repeat ((first | refine WV_seq_ ?_ | refine WV_block ?_ | refine WV_ops ?_ | refine WV_skip ?_ | refine WV_exit ?_); (try simp only [go_sem, init_env', Nat.reduceEqDiff, Nat.reduceAdd, Nat.reduceMul, reduceIte, Nat.reduceLeDiff, Nat.reduceLT, Nat.reduceBEq, reduceCtorEq, hP, prsC, prs_two, List.length_map, List.length_append, List.length_cons, List.length_nil]); (repeat (refine And.intro (by first | omega | (intros; simp_all; done) | (intros; simp_all; omega)) ?_))))
  (refine AS_pure (b3) rfl rfl rfl rfl rfl ?_; simp only [go_sem, init_env', Nat.reduceEqDiff, Nat.reduceAdd, Nat.reduceMul, reduceIte, Nat.reduceLeDiff, Nat.reduceLT, Nat.reduceBEq, reduceCtorEq, hP, Tray.av]; (repeat (refine And.intro (by first | omega | (intros; simp_all; done) | (intros; simp_all; omega)) ?_)); (repeat ((first | refine WV_seq_ ?_ | refine WV_block ?_ | refine WV_ops ?_ | refine WV_skip ?_ | refine WV_exit ?_); (try simp only [go_sem, init_env', Nat.reduceEqDiff, Nat.reduceAdd, Nat.reduceMul, reduceIte, Nat.reduceLeDiff, Nat.reduceLT, Nat.reduceBEq, reduceCtorEq, hP, Tray.av]); (repeat (refine And.intro (by first | omega | (intros; simp_all; done) | (intros; simp_all; omega)) ?_)))))
  (refine AS_pure (b4) rfl rfl rfl rfl rfl ?_; simp only [go_sem, init_env', Nat.reduceEqDiff, Nat.reduceAdd, Nat.reduceMul, reduceIte, Nat.reduceLeDiff, Nat.reduceLT, Nat.reduceBEq, reduceCtorEq, hP, prsC, prs_two]; (repeat (refine And.intro (by first | omega | (intros; simp_all; done) | (intros; simp_all; omega)) ?_)); (repeat ((first | refine WV_seq_ ?_ | refine WV_block ?_ | refine WV_ops ?_ | refine WV_skip ?_ | refine WV_exit ?_); (try simp only [go_sem, init_env', Nat.reduceEqDiff, Nat.reduceAdd, Nat.reduceMul, reduceIte, Nat.reduceLeDiff, Nat.reduceLT, Nat.reduceBEq, reduceCtorEq, hP, prsC, prs_two]); (repeat (refine And.intro (by first | omega | (intros; simp_all; done) | (intros; simp_all; omega)) ?_)))))
  (refine AS_pure (b5) rfl rfl rfl rfl rfl ?_; simp only [go_sem, init_env', Nat.reduceEqDiff, Nat.reduceAdd, Nat.reduceMul, reduceIte, Nat.reduceLeDiff, Nat.reduceLT, Nat.reduceBEq, reduceCtorEq, hP, prsC, prs_two, bne_self_eq_false, beq_self_eq_true, List.length_map]; (repeat (refine And.intro (by first | omega | (intros; simp_all; done) | (intros; simp_all; omega)) ?_)); (repeat ((first | refine WV_seq_ ?_ | refine WV_block ?_ | refine WV_ops ?_ | refine WV_skip ?_ | refine WV_exit ?_); (try simp only [go_sem, init_env', Nat.reduceEqDiff, Nat.reduceAdd, Nat.reduceMul, reduceIte, Nat.reduceLeDiff, Nat.reduceLT, Nat.reduceBEq, reduceCtorEq, hP, prsC, prs_two, bne_self_eq_false, beq_self_eq_true, List.length_map]); (repeat (refine And.intro (by first | omega | (intros; simp_all; done) | (intros; simp_all; omega)) ?_)))))
  (refine AG_pure (fun hG => bsame) rfl (fun hG => by first | (simp only [go_sem, init_env', Nat.reduceEqDiff, Nat.reduceAdd, Nat.reduceMul, reduceIte, Nat.reduceLeDiff, Nat.reduceLT, Nat.reduceBEq, reduceCtorEq, hG]; done) | (simp only [go_sem, init_env', Nat.reduceEqDiff, Nat.reduceAdd, Nat.reduceMul, reduceIte, Nat.reduceLeDiff, Nat.reduceLT, Nat.reduceBEq, reduceCtorEq]; revert hG; simp; done) | (simp only [go_sem, init_env', Nat.reduceEqDiff, Nat.reduceAdd, Nat.reduceMul, reduceIte, Nat.reduceLeDiff, Nat.reduceLT, Nat.reduceBEq, reduceCtorEq, hG]; simp_all; done) | (revert hG; simp; done) | simp_all) rfl rfl rfl ?_; simp only [go_sem, init_env', Nat.reduceEqDiff, Nat.reduceAdd, Nat.reduceMul, reduceIte, Nat.reduceLeDiff, Nat.reduceLT, Nat.reduceBEq, reduceCtorEq, hP, beq_self_eq_true]; (repeat (refine And.intro (by first | omega | (intros; simp_all; done) | (intros; simp_all; omega)) ?_)); (repeat ((first | refine WV_seq_ ?_ | refine WV_block ?_ | refine WV_ops ?_ | refine WV_skip ?_ | refine WV_exit ?_); (try simp only [go_sem, init_env', Nat.reduceEqDiff, Nat.reduceAdd, Nat.reduceMul, reduceIte, Nat.reduceLeDiff, Nat.reduceLT, Nat.reduceBEq, reduceCtorEq, hP, beq_self_eq_true]); (repeat (refine And.intro (by first | omega | (intros; simp_all; done) | (intros; simp_all; omega)) ?_)))))
  (refine AG_pure (fun hG => works19) rfl (fun hG => by first | (simp only [go_sem, init_env', Nat.reduceEqDiff, Nat.reduceAdd, Nat.reduceMul, reduceIte, Nat.reduceLeDiff, Nat.reduceLT, Nat.reduceBEq, reduceCtorEq, hG]; done) | (simp only [go_sem, init_env', Nat.reduceEqDiff, Nat.reduceAdd, Nat.reduceMul, reduceIte, Nat.reduceLeDiff, Nat.reduceLT, Nat.reduceBEq, reduceCtorEq]; revert hG; simp; done) | (simp only [go_sem, init_env', Nat.reduceEqDiff, Nat.reduceAdd, Nat.reduceMul, reduceIte, Nat.reduceLeDiff, Nat.reduceLT, Nat.reduceBEq, reduceCtorEq, hG]; simp_all; done) | (revert hG; simp; done) | simp_all) rfl rfl rfl ?_; simp only [go_sem, init_env', Nat.reduceEqDiff, Nat.reduceAdd, Nat.reduceMul, reduceIte, Nat.reduceLeDiff, Nat.reduceLT, Nat.reduceBEq, reduceCtorEq, hP, ]; (repeat (refine And.intro (by first | omega | (intros; simp_all; done) | (intros; simp_all; omega)) ?_)); (repeat ((first | refine WV_seq_ ?_ | refine WV_block ?_ | refine WV_ops ?_ | refine WV_skip ?_ | refine WV_exit ?_); (try simp only [go_sem, init_env', Nat.reduceEqDiff, Nat.reduceAdd, Nat.reduceMul, reduceIte, Nat.reduceLeDiff, Nat.reduceLT, Nat.reduceBEq, reduceCtorEq, hP, ]); (repeat (refine And.intro (by first | omega | (intros; simp_all; done) | (intros; simp_all; omega)) ?_)))))
  (refine WV_ret ?_; simp only [thenQ, inQ, RetQ, RetOk, resAll, resA]; simp only [go_sem, init_env', Nat.reduceEqDiff, Nat.reduceAdd, Nat.reduceMul, reduceIte, Nat.reduceLeDiff, Nat.reduceLT, Nat.reduceBEq, reduceCtorEq, tupA, AV.port, AV.portL, exists_eq_left', ]; (first | exact AVle.of rfl | refine AVle.of ?_ | skip))
end Go.Proofs.Ytkpgpgaojjobgaa
