/-
  Contracts of the layer's functions, of the laws' helpers and of the law; conditions: as each theorem states.
-/
import Derived.Test.YtkpgpgaojjobgaaU5
import Derived.Test.YtkpgpgaojjobgaaU4
set_option linter.unusedVariables false
set_option linter.unusedSimpArgs false
namespace Go.Proofs.Ytkpgpgaojjobgaa
open Go Go.V
@[reducible] def o30_0 : List Ins := [⟨(some 2), .box 5 (.t 0), none, true⟩,
  ⟨(some 3), .box 5 (.t 1), none, true⟩,
  ⟨(some 4), .mv (.k (.c (.bool false))), none, true⟩]
@[reducible] def o30_1 : List Ins := [⟨(some 7), .fa 1 (.t 2), none, true⟩,
  ⟨(some 8), .ld true 1 (.t 7), none, true⟩,
  ⟨(some 9), .fa 1 (.t 3), none, true⟩,
  ⟨(some 10), .ld true 1 (.t 9), none, true⟩,
  ⟨(some 11), .bin .neq (.t 8) (.t 10), none, true⟩,
  ⟨(some 12), .mv (.t 11), none, true⟩,
  ⟨(some 13), .fa 2 (.t 2), (some (12, false)), true⟩,
  ⟨(some 14), .ld true 1 (.t 13), (some (12, false)), true⟩,
  ⟨(some 15), .fa 2 (.t 3), (some (12, false)), true⟩,
  ⟨(some 16), .ld true 1 (.t 15), (some (12, false)), true⟩,
  ⟨(some 17), .bin .neq (.t 14) (.t 16), (some (12, false)), true⟩,
  ⟨(some 18), .pick (.t 12) (.k (.c (.bool true))) (.t 17), none, true⟩,
  ⟨(some 19), .mv (.t 18), none, true⟩,
  ⟨(some 20), .fa 3 (.t 2), (some (19, false)), true⟩,
  ⟨(some 21), .ld true 1 (.t 20), (some (19, false)), true⟩,
  ⟨(some 22), .fa 3 (.t 3), (some (19, false)), true⟩,
  ⟨(some 23), .ld true 1 (.t 22), (some (19, false)), true⟩,
  ⟨(some 24), .bin .neq (.t 21) (.t 23), (some (19, false)), true⟩,
  ⟨(some 25), .pick (.t 19) (.k (.c (.bool true))) (.t 24), none, true⟩,
  ⟨(some 26), .mv (.t 25), none, true⟩,
  ⟨(some 27), .fa 0 (.t 2), (some (26, false)), true⟩,
  ⟨(some 28), .ld true 1 (.t 27), (some (26, false)), true⟩,
  ⟨(some 29), .len (.t 28), (some (26, false)), true⟩,
  ⟨(some 30), .fa 0 (.t 3), (some (26, false)), true⟩,
  ⟨(some 31), .ld true 1 (.t 30), (some (26, false)), true⟩,
  ⟨(some 32), .len (.t 31), (some (26, false)), true⟩,
  ⟨(some 33), .bin .neq (.t 29) (.t 32), (some (26, false)), true⟩,
  ⟨(some 34), .pick (.t 26) (.k (.c (.bool true))) (.t 33), none, true⟩,
  ⟨(some 35), .mv (.t 34), none, true⟩,
  ⟨(some 36), .fa 4 (.t 2), (some (35, false)), true⟩,
  ⟨(some 37), .ld true 1 (.t 36), (some (35, false)), true⟩,
  ⟨(some 38), .len (.t 37), (some (35, false)), true⟩,
  ⟨(some 39), .fa 4 (.t 3), (some (35, false)), true⟩,
  ⟨(some 40), .ld true 1 (.t 39), (some (35, false)), true⟩,
  ⟨(some 41), .len (.t 40), (some (35, false)), true⟩,
  ⟨(some 42), .bin .neq (.t 38) (.t 41), (some (35, false)), true⟩,
  ⟨(some 43), .pick (.t 35) (.k (.c (.bool true))) (.t 42), none, true⟩]
@[reducible] def o30_2 : List Ins := [⟨(some 4), .mv (.k (.c (.bool false))), none, true⟩]
@[reducible] def v30_3 : VC := (.seq (.ops o30_2) .ret)
@[reducible] def v30_4 : VC := (.cond (.t 43) v30_3 .skip)
@[reducible] def o30_5 : List Ins := [⟨(some 5), .mv (.k (.c (.int .i64 0))), none, true⟩]
@[reducible] def o30_6 : List Ins := [⟨(some 44), .mv (.t 5), none, true⟩,
  ⟨(some 45), .fa 0 (.t 2), none, true⟩,
  ⟨(some 46), .ld true 1 (.t 45), none, true⟩,
  ⟨(some 47), .len (.t 46), none, true⟩,
  ⟨(some 48), .bin .lss (.t 44) (.t 47), none, true⟩]
@[reducible] def v30_7 : VC := (.cond (.t 48) .skip (.exit 0))
@[reducible] def o30_8 : List Ins := [⟨(some 51), .fa 0 (.t 2), none, false⟩,
  ⟨(some 52), .ld true 1 (.t 51), none, false⟩,
  ⟨(some 53), .mv (.t 5), none, false⟩,
  ⟨(some 54), .ia 2 (.t 52) (.t 53), none, false⟩,
  ⟨(some 55), .ld false 2 (.t 54), none, false⟩,
  ⟨(some 56), .fa 0 (.t 3), none, false⟩,
  ⟨(some 57), .ld true 1 (.t 56), none, false⟩,
  ⟨(some 58), .mv (.t 5), none, false⟩,
  ⟨(some 59), .ia 2 (.t 57) (.t 58), none, false⟩,
  ⟨(some 60), .ld false 2 (.t 59), none, false⟩,
  ⟨(some 61), .seq true [(0, true), (1, true)] (.t 55) (.t 60), none, true⟩]
@[reducible] def o30_9 : List Ins := [⟨(some 4), .mv (.k (.c (.bool false))), none, true⟩]
@[reducible] def v30_10 : VC := (.seq (.ops o30_9) .ret)
@[reducible] def v30_11 : VC := (.cond (.t 61) v30_10 .skip)
@[reducible] def v30_12 : VC := (.seq (.ops o30_8) v30_11)
@[reducible] def o30_13 : List Ins := [⟨(some 49), .mv (.t 5), none, true⟩,
  ⟨(some 50), .bin .add (.t 49) (.k (.c (.int .i64 1))), none, true⟩,
  ⟨(some 5), .mv (.t 50), none, true⟩]
@[reducible] def v30_14 : VC := (.seq (.block 1 v30_12) (.ops o30_13))
@[reducible] def v30_15 : VC := (.seq (.seq (.ops o30_6) v30_7) v30_14)
-- K30_1: changed and kept: [5]
@[reducible] def K30_1 : List Nat := [2, 3]
@[reducible] def v30_16 : VC := (.loop v30_15)
@[reducible] def v30_17 : VC := (.block 0 v30_16)
@[reducible] def o30_18 : List Ins := [⟨(some 6), .mv (.k (.c (.int .i64 0))), none, true⟩]
@[reducible] def o30_19 : List Ins := [⟨(some 62), .mv (.t 6), none, true⟩,
  ⟨(some 63), .fa 4 (.t 2), none, true⟩,
  ⟨(some 64), .ld true 1 (.t 63), none, true⟩,
  ⟨(some 65), .len (.t 64), none, true⟩,
  ⟨(some 66), .bin .lss (.t 62) (.t 65), none, true⟩]
@[reducible] def v30_20 : VC := (.cond (.t 66) .skip (.exit 2))
@[reducible] def o30_21 : List Ins := [⟨(some 69), .fa 4 (.t 2), none, false⟩,
  ⟨(some 70), .ld true 1 (.t 69), none, false⟩,
  ⟨(some 71), .mv (.t 6), none, false⟩,
  ⟨(some 72), .ia 2 (.t 70) (.t 71), none, false⟩,
  ⟨(some 73), .ld false 2 (.t 72), none, false⟩,
  ⟨(some 74), .fa 4 (.t 3), none, false⟩,
  ⟨(some 75), .ld true 1 (.t 74), none, false⟩,
  ⟨(some 76), .mv (.t 6), none, false⟩,
  ⟨(some 77), .ia 2 (.t 75) (.t 76), none, false⟩,
  ⟨(some 78), .ld false 2 (.t 77), none, false⟩,
  ⟨(some 79), .seq true [(0, true), (1, true)] (.t 73) (.t 78), none, true⟩]
@[reducible] def o30_22 : List Ins := [⟨(some 4), .mv (.k (.c (.bool false))), none, true⟩]
@[reducible] def v30_23 : VC := (.seq (.ops o30_22) .ret)
@[reducible] def v30_24 : VC := (.cond (.t 79) v30_23 .skip)
@[reducible] def v30_25 : VC := (.seq (.ops o30_21) v30_24)
@[reducible] def o30_26 : List Ins := [⟨(some 67), .mv (.t 6), none, true⟩,
  ⟨(some 68), .bin .add (.t 67) (.k (.c (.int .i64 1))), none, true⟩,
  ⟨(some 6), .mv (.t 68), none, true⟩]
@[reducible] def v30_27 : VC := (.seq (.block 3 v30_25) (.ops o30_26))
@[reducible] def v30_28 : VC := (.seq (.seq (.ops o30_19) v30_20) v30_27)
-- K30_2: changed and kept: [6]
@[reducible] def K30_2 : List Nat := [2, 3]
@[reducible] def v30_29 : VC := (.loop v30_28)
@[reducible] def v30_30 : VC := (.block 2 v30_29)
@[reducible] def o30_31 : List Ins := [⟨(some 4), .mv (.k (.c (.bool true))), none, true⟩]
@[reducible] def v30_32 : VC := (.seq (.ops o30_31) .ret)
@[reducible] def v30_33 : VC := (.seq (.seq (.ops o30_18) v30_30) v30_32)
@[reducible] def v30_34 : VC := (.seq (.seq (.ops o30_5) v30_17) v30_33)
@[reducible] def v30_35 : VC := (.seq (.seq (.ops o30_1) v30_4) v30_34)
def ir30 : FC := ⟨2, 80, [.t 4], (.seq (.ops o30_0) v30_35)⟩
@[reducible] def o6_0 : List Ins := [⟨(some 2), .box 5 (.t 0), none, true⟩,
  ⟨(some 4), .mv (.k (.c (.bool false))), none, true⟩]
@[reducible] def o6_1 : List Ins := [⟨(some 10), .ld false 5 (.t 2), none, true⟩,
  ⟨(some 11), .call (.k (.fn 28 [])) [(.t 10)], none, true⟩]
@[reducible] def o6_2 : List Ins := [⟨(some 12), .call (.k (.fn 19 [])) [], none, true⟩,
  ⟨(some 4), .mv (.t 12), none, true⟩]
@[reducible] def v6_3 : VC := (.seq (.ops o6_2) .ret)
@[reducible] def v6_4 : VC := (.cond (.t 11) v6_3 .skip)
@[reducible] def o6_5 : List Ins := [⟨(some 13), .ld false 5 (.t 2), none, true⟩,
  ⟨(some 14), .call (.k (.fn 20 [])) [(.t 13)], none, true⟩,
  ⟨(some 5), .alloc [(.c (.raw (.slice none 0 0))), (.c (.int .i64 0)), (.c (.int .i64 0)), (.c (.int .i64 0)), (.c (.raw (.slice none 0 0)))], none, true⟩,
  ⟨none, .st 5 (.t 5) (.t 14), none, true⟩]
@[reducible] def o6_6 : List Ins := [⟨(some 16), .ld false 5 (.t 5), none, true⟩,
  ⟨(some 17), .mv (.t 1), none, true⟩,
  ⟨(some 18), .call (.k (.fn 21 [])) [(.t 16), (.t 17)], none, true⟩,
  ⟨(some 15), .mv (.t 18), none, true⟩,
  ⟨(some 19), .ext (.t 15) 0, none, true⟩,
  ⟨(some 20), .ext (.t 15) 1, none, true⟩,
  ⟨(some 6), .alloc [(.c (.int .i64 0)), (.c (.int .i64 0)), (.c (.int .i64 0))], none, true⟩,
  ⟨none, .st 3 (.t 6) (.t 19), none, true⟩,
  ⟨(some 7), .mv (.t 20), none, true⟩]
@[reducible] def o6_7 : List Ins := [⟨(some 22), .ld false 5 (.t 2), none, true⟩,
  ⟨(some 23), .mv (.t 1), none, true⟩,
  ⟨(some 24), .call (.k (.fn 29 [])) [(.t 22), (.t 23)], none, true⟩,
  ⟨(some 21), .mv (.t 24), none, true⟩,
  ⟨(some 25), .ext (.t 21) 0, none, true⟩,
  ⟨(some 26), .ext (.t 21) 1, none, true⟩,
  ⟨(some 8), .alloc [(.c (.int .i64 0)), (.c (.int .i64 0)), (.c (.int .i64 0))], none, true⟩,
  ⟨none, .st 3 (.t 8) (.t 25), none, true⟩,
  ⟨(some 9), .mv (.t 26), none, true⟩]
@[reducible] def o6_8 : List Ins := [⟨(some 27), .ld false 3 (.t 6), none, true⟩,
  ⟨(some 28), .ld false 3 (.t 8), none, true⟩,
  ⟨(some 29), .seq false [(0, true), (1, true), (2, true)] (.t 27) (.t 28), none, true⟩,
  ⟨(some 30), .mv (.t 29), none, true⟩,
  ⟨(some 31), .mv (.t 7), (some (30, true)), true⟩,
  ⟨(some 32), .mv (.t 9), (some (30, true)), true⟩,
  ⟨(some 33), .bin .eql (.t 31) (.t 32), (some (30, true)), true⟩,
  ⟨(some 34), .pick (.t 30) (.t 33) (.k (.c (.bool false))), none, true⟩,
  ⟨(some 35), .mv (.t 34), none, true⟩,
  ⟨(some 36), .ld false 5 (.t 5), (some (35, true)), true⟩,
  ⟨(some 37), .ld false 5 (.t 2), (some (35, true)), true⟩,
  ⟨(some 38), .call (.k (.fn 30 [])) [(.t 36), (.t 37)], (some (35, true)), true⟩,
  ⟨(some 39), .pick (.t 35) (.t 38) (.k (.c (.bool false))), none, true⟩,
  ⟨(some 40), .mv (.t 39), none, true⟩,
  ⟨(some 41), .call (.k (.fn 19 [])) [], (some (40, true)), true⟩,
  ⟨(some 42), .pick (.t 40) (.t 41) (.k (.c (.bool false))), none, true⟩,
  ⟨(some 4), .mv (.t 42), none, true⟩]
@[reducible] def v6_9 : VC := (.seq (.ops o6_8) .ret)
@[reducible] def v6_10 : VC := (.seq (.ops o6_7) v6_9)
@[reducible] def v6_11 : VC := (.seq (.ops o6_6) v6_10)
@[reducible] def v6_12 : VC := (.seq (.ops o6_5) v6_11)
@[reducible] def v6_13 : VC := (.seq (.seq (.ops o6_1) v6_4) v6_12)
def ir6 : FC := ⟨2, 43, [.t 4], (.seq (.ops o6_0) v6_13)⟩
@[reducible] def o7_0 : List Ins := [⟨(some 3), .box 5 (.t 0), none, true⟩,
  ⟨(some 6), .mv (.k (.c (.bool false))), none, true⟩]
@[reducible] def o7_1 : List Ins := [⟨(some 12), .ld false 5 (.t 3), none, true⟩,
  ⟨(some 13), .call (.k (.fn 28 [])) [(.t 12)], none, true⟩,
  ⟨(some 14), .mv (.t 13), none, true⟩,
  ⟨(some 15), .mv (.t 2), (some (14, false)), true⟩,
  ⟨(some 16), .bin .gtr (.t 15) (.k (.c (.int .i64 400))), (some (14, false)), true⟩,
  ⟨(some 17), .mv (.t 16), (some (14, false)), true⟩,
  ⟨(some 18), .mv (.t 2), (some (17, true)), true⟩,
  ⟨(some 19), .bin .leq (.t 18) (.k (.c (.int .i64 9999))), (some (17, true)), true⟩,
  ⟨(some 20), .pick (.t 17) (.t 19) (.k (.c (.bool false))), (some (14, false)), true⟩,
  ⟨(some 21), .pick (.t 14) (.k (.c (.bool true))) (.t 20), none, true⟩]
@[reducible] def o7_2 : List Ins := [⟨(some 22), .call (.k (.fn 19 [])) [], none, true⟩,
  ⟨(some 6), .mv (.t 22), none, true⟩]
@[reducible] def v7_3 : VC := (.seq (.ops o7_2) .ret)
@[reducible] def v7_4 : VC := (.cond (.t 21) v7_3 .skip)
@[reducible] def o7_5 : List Ins := [⟨(some 23), .ld false 5 (.t 3), none, true⟩,
  ⟨(some 24), .call (.k (.fn 20 [])) [(.t 23)], none, true⟩,
  ⟨(some 7), .alloc [(.c (.raw (.slice none 0 0))), (.c (.int .i64 0)), (.c (.int .i64 0)), (.c (.int .i64 0)), (.c (.raw (.slice none 0 0)))], none, true⟩,
  ⟨none, .st 5 (.t 7) (.t 24), none, true⟩]
@[reducible] def o7_6 : List Ins := [⟨(some 26), .ld false 5 (.t 7), none, true⟩,
  ⟨(some 27), .mv (.t 1), none, true⟩,
  ⟨(some 28), .mv (.t 2), none, true⟩,
  ⟨(some 29), .call (.k (.fn 26 [])) [(.t 26), (.t 27), (.t 28)], none, true⟩,
  ⟨(some 25), .mv (.t 29), none, true⟩,
  ⟨(some 30), .ext (.t 25) 0, none, true⟩,
  ⟨(some 31), .ext (.t 25) 1, none, true⟩,
  ⟨(some 8), .mv (.t 30), none, true⟩,
  ⟨(some 9), .mv (.t 31), none, true⟩]
@[reducible] def o7_7 : List Ins := [⟨(some 33), .ld false 5 (.t 3), none, true⟩,
  ⟨(some 34), .mv (.t 1), none, true⟩,
  ⟨(some 35), .mv (.t 2), none, true⟩,
  ⟨(some 36), .call (.k (.fn 31 [])) [(.t 33), (.t 34), (.t 35)], none, true⟩,
  ⟨(some 32), .mv (.t 36), none, true⟩,
  ⟨(some 37), .ext (.t 32) 0, none, true⟩,
  ⟨(some 38), .ext (.t 32) 1, none, true⟩,
  ⟨(some 10), .mv (.t 37), none, true⟩,
  ⟨(some 11), .mv (.t 38), none, true⟩]
@[reducible] def o7_8 : List Ins := [⟨(some 39), .mv (.t 8), none, true⟩,
  ⟨(some 40), .mv (.t 10), none, true⟩,
  ⟨(some 41), .bin .eql (.t 39) (.t 40), none, true⟩,
  ⟨(some 42), .mv (.t 41), none, true⟩,
  ⟨(some 43), .mv (.t 9), (some (42, true)), true⟩,
  ⟨(some 44), .mv (.t 11), (some (42, true)), true⟩,
  ⟨(some 45), .bin .eql (.t 43) (.t 44), (some (42, true)), true⟩,
  ⟨(some 46), .pick (.t 42) (.t 45) (.k (.c (.bool false))), none, true⟩,
  ⟨(some 47), .mv (.t 46), none, true⟩,
  ⟨(some 48), .ld false 5 (.t 7), (some (47, true)), true⟩,
  ⟨(some 49), .ld false 5 (.t 3), (some (47, true)), true⟩,
  ⟨(some 50), .call (.k (.fn 30 [])) [(.t 48), (.t 49)], (some (47, true)), true⟩,
  ⟨(some 51), .pick (.t 47) (.t 50) (.k (.c (.bool false))), none, true⟩,
  ⟨(some 52), .mv (.t 51), none, true⟩,
  ⟨(some 53), .call (.k (.fn 19 [])) [], (some (52, true)), true⟩,
  ⟨(some 54), .pick (.t 52) (.t 53) (.k (.c (.bool false))), none, true⟩,
  ⟨(some 6), .mv (.t 54), none, true⟩]
@[reducible] def v7_9 : VC := (.seq (.ops o7_8) .ret)
@[reducible] def v7_10 : VC := (.seq (.ops o7_7) v7_9)
@[reducible] def v7_11 : VC := (.seq (.ops o7_6) v7_10)
@[reducible] def v7_12 : VC := (.seq (.ops o7_5) v7_11)
@[reducible] def v7_13 : VC := (.seq (.seq (.ops o7_1) v7_4) v7_12)
def ir7 : FC := ⟨3, 55, [.t 6], (.seq (.ops o7_0) v7_13)⟩
theorem c30 : compM Try.prog [] 30 = some ir30 := by kernel_rfl
theorem c6 : compM Try.prog [] 6 = some ir6 := by kernel_rfl
theorem c7 : compM Try.prog [] 7 = some ir7 := by kernel_rfl



set_option maxRecDepth 20000 in
set_option maxHeartbeats 4000000 in
theorem same30 (t : Tray) (h1 : t.recs.length ≤ 1000) (h2 : t.pres.length ≤ 1000) : FSpec Try.prog 30 [t.av, t.av] (.c (.bool true)) := by
  refine FSpec_of c30 (Nat.le_refl _) (by decide) fun C hP hN hC hL => ?_
  simp only [ir30, Tray.av]
  (repeat ((first | refine WV_seq_ ?_ | refine WV_block ?_ | refine WV_ops ?_ | refine WV_skip ?_ | refine WV_exit ?_); (try simp only [go_sem, init_env', Nat.reduceEqDiff, Nat.reduceAdd, Nat.reduceMul, reduceIte, Nat.reduceLeDiff, Nat.reduceLT, Nat.reduceBEq, reduceCtorEq, hP, recsC, prsC, List.length_map, bne_self_eq_false]); (repeat refine qI ?_)))
  (refine WV_cond rfl (fun h => ?_) (fun h => ?_))
  · simp at h
  (repeat ((first | refine WV_seq_ ?_ | refine WV_block ?_ | refine WV_ops ?_ | refine WV_skip ?_ | refine WV_exit ?_); (try simp only [go_sem, init_env', Nat.reduceEqDiff, Nat.reduceAdd, Nat.reduceMul, reduceIte, Nat.reduceLeDiff, Nat.reduceLT, Nat.reduceBEq, reduceCtorEq, hP, ]); (repeat refine qI ?_)))
  refine WV_loopK K30_1 [] (fun k : Nat => k ≤ t.recs.length) (fun k => t.recs.length - k) (fun k => [(5, iv k)]) (fun _ => []) 0 (Nat.zero_le _) ?_ ?_
  · exact Sub_au
  · intro k hk
    simp only [go_sem, init_env', Nat.reduceEqDiff, Nat.reduceAdd, Nat.reduceMul, reduceIte, Nat.reduceLeDiff, Nat.reduceLT, Nat.reduceBEq, reduceCtorEq]
    (repeat ((first | refine WV_seq_ ?_ | refine WV_block ?_ | refine WV_ops ?_ | refine WV_skip ?_ | refine WV_exit ?_); (try simp only [go_sem, init_env', Nat.reduceEqDiff, Nat.reduceAdd, Nat.reduceMul, reduceIte, Nat.reduceLeDiff, Nat.reduceLT, Nat.reduceBEq, reduceCtorEq, hP, recsC, List.length_map]); (repeat refine qI ?_)))
    (refine WV_cond rfl (fun h => ?_) (fun h => ?_))
    · have hkl : k < t.recs.length := by simpa using h
      have hI : (k : Int) < (t.recs.length : Int) := by omega
      have hw2 := w64 (n := (k : Int) + 1) (by omega) (by omega)
      have g1 : (t.recs.map Rec.cds).getD k [] = [.int .i64 t.recs[k].front, .int .i64 t.recs[k].back] := map_getD hkl
      generalize t.recs[k] = X at *
      (repeat ((first | refine WV_seq_ ?_ | refine WV_block ?_ | refine WV_ops ?_ | refine WV_skip ?_ | refine WV_exit ?_); (try simp only [go_sem, init_env', Nat.reduceEqDiff, Nat.reduceAdd, Nat.reduceMul, reduceIte, Nat.reduceLeDiff, Nat.reduceLT, Nat.reduceBEq, reduceCtorEq, hP, g1, recsC, hI, List.length_map, Int.natCast_nonneg, seqGo, beq_self_eq_true]); (repeat refine qI ?_)))
      (refine WV_cond rfl (fun h => ?_) (fun h => ?_))
      · simp at h
      (repeat ((first | refine WV_seq_ ?_ | refine WV_block ?_ | refine WV_ops ?_ | refine WV_skip ?_ | refine WV_exit ?_); (try simp only [go_sem, init_env', Nat.reduceEqDiff, Nat.reduceAdd, Nat.reduceMul, reduceIte, Nat.reduceLeDiff, Nat.reduceLT, Nat.reduceBEq, reduceCtorEq, hP, hw2]); (repeat refine qI ?_)))
      refine ⟨k + 1, by omega, by omega, ?_⟩
      exact Sub_au
    · (refine WV_exit ?_; simp only [go_sem, init_env', Nat.reduceEqDiff, Nat.reduceAdd, Nat.reduceMul, reduceIte, Nat.reduceLeDiff, Nat.reduceLT, Nat.reduceBEq, reduceCtorEq])
      (repeat ((first | refine WV_seq_ ?_ | refine WV_block ?_ | refine WV_ops ?_ | refine WV_skip ?_ | refine WV_exit ?_); (try simp only [go_sem, init_env', Nat.reduceEqDiff, Nat.reduceAdd, Nat.reduceMul, reduceIte, Nat.reduceLeDiff, Nat.reduceLT, Nat.reduceBEq, reduceCtorEq, hP, ]); (repeat refine qI ?_)))
      refine WV_loopK K30_2 [] (fun k : Nat => k ≤ t.pres.length) (fun k => t.pres.length - k) (fun k => [(6, iv k)]) (fun _ => []) 0 (Nat.zero_le _) ?_ ?_
      · exact Sub_au
      · intro k hk
        simp only [go_sem, init_env', Nat.reduceEqDiff, Nat.reduceAdd, Nat.reduceMul, reduceIte, Nat.reduceLeDiff, Nat.reduceLT, Nat.reduceBEq, reduceCtorEq]
        (repeat ((first | refine WV_seq_ ?_ | refine WV_block ?_ | refine WV_ops ?_ | refine WV_skip ?_ | refine WV_exit ?_); (try simp only [go_sem, init_env', Nat.reduceEqDiff, Nat.reduceAdd, Nat.reduceMul, reduceIte, Nat.reduceLeDiff, Nat.reduceLT, Nat.reduceBEq, reduceCtorEq, hP, prsC, List.length_map]); (repeat refine qI ?_)))
        (refine WV_cond rfl (fun h => ?_) (fun h => ?_))
        · have hkl : k < t.pres.length := by simpa using h
          have hI : (k : Int) < (t.pres.length : Int) := by omega
          have hw2 := w64 (n := (k : Int) + 1) (by omega) (by omega)
          have g1 : (t.pres.map Pr.cds).getD k [] = [.int .i64 t.pres[k].side, .int .i64 t.pres[k].time] := map_getD hkl
          generalize t.pres[k] = X at *
          (repeat ((first | refine WV_seq_ ?_ | refine WV_block ?_ | refine WV_ops ?_ | refine WV_skip ?_ | refine WV_exit ?_); (try simp only [go_sem, init_env', Nat.reduceEqDiff, Nat.reduceAdd, Nat.reduceMul, reduceIte, Nat.reduceLeDiff, Nat.reduceLT, Nat.reduceBEq, reduceCtorEq, hP, g1, prsC, hI, List.length_map, Int.natCast_nonneg, seqGo, beq_self_eq_true]); (repeat refine qI ?_)))
          (refine WV_cond rfl (fun h => ?_) (fun h => ?_))
          · simp at h
          (repeat ((first | refine WV_seq_ ?_ | refine WV_block ?_ | refine WV_ops ?_ | refine WV_skip ?_ | refine WV_exit ?_); (try simp only [go_sem, init_env', Nat.reduceEqDiff, Nat.reduceAdd, Nat.reduceMul, reduceIte, Nat.reduceLeDiff, Nat.reduceLT, Nat.reduceBEq, reduceCtorEq, hP, hw2]); (repeat refine qI ?_)))
          refine ⟨k + 1, by omega, by omega, ?_⟩
          exact Sub_au
        · (refine WV_exit ?_; simp only [go_sem, init_env', Nat.reduceEqDiff, Nat.reduceAdd, Nat.reduceMul, reduceIte, Nat.reduceLeDiff, Nat.reduceLT, Nat.reduceBEq, reduceCtorEq])
          (repeat ((first | refine WV_seq_ ?_ | refine WV_block ?_ | refine WV_ops ?_ | refine WV_skip ?_ | refine WV_exit ?_); (try simp only [go_sem, init_env', Nat.reduceEqDiff, Nat.reduceAdd, Nat.reduceMul, reduceIte, Nat.reduceLeDiff, Nat.reduceLT, Nat.reduceBEq, reduceCtorEq, hP, ]); (repeat refine qI ?_)))
          (refine WV_ret ?_; simp only [thenQ, inQ, RetQ, RetOk, resAll, resA]; simp only [go_sem, init_env', Nat.reduceEqDiff, Nat.reduceAdd, Nat.reduceMul, reduceIte, Nat.reduceLeDiff, Nat.reduceLT, Nat.reduceBEq, reduceCtorEq, tupA, AV.port, AV.portL, exists_eq_left', ]; (first | exact AVle.of rfl | refine AVle.of ?_ | skip))
theorem far_no {t : Tray} (h : farB t = false) : t.recs.length ≤ 40 ∧ t.pres.length ≤ 40 := by
  unfold farB Tray.n at h
  simp only [Bool.or_eq_false_iff, decide_eq_false_iff_not] at h
  omega
/-! ### The latest press -/
end Go.Proofs.Ytkpgpgaojjobgaa

namespace Go.Proofs.Ytkpgpgaojjobgaa
open Go Go.V
@[reducible] def o36_0 : List Ins := [⟨(some 2), .box 5 (.t 0), none, true⟩,
  ⟨(some 4), .mv (.k (.c (.bool false))), none, true⟩]
@[reducible] def o36_1 : List Ins := [⟨(some 5), .mv (.k (.c (.int .i64 0))), none, true⟩]
@[reducible] def o36_2 : List Ins := [⟨(some 6), .mv (.t 5), none, true⟩,
  ⟨(some 7), .fa 0 (.t 2), none, true⟩,
  ⟨(some 8), .ld true 1 (.t 7), none, true⟩,
  ⟨(some 9), .len (.t 8), none, true⟩,
  ⟨(some 10), .bin .lss (.t 6) (.t 9), none, true⟩]
@[reducible] def v36_3 : VC := (.cond (.t 10) .skip (.exit 0))
@[reducible] def o36_4 : List Ins := [⟨(some 13), .mv (.t 1), none, true⟩,
  ⟨(some 14), .mv (.t 5), none, true⟩,
  ⟨(some 15), .call (.k (.fn 61 [])) [(.t 13), (.t 14)], none, true⟩,
  ⟨(some 16), .un .not (.t 15), none, true⟩]
@[reducible] def o36_5 : List Ins := [⟨(some 4), .mv (.k (.c (.bool false))), none, true⟩]
@[reducible] def v36_6 : VC := (.seq (.ops o36_5) .ret)
@[reducible] def v36_7 : VC := (.cond (.t 16) v36_6 .skip)
@[reducible] def v36_8 : VC := (.seq (.ops o36_4) v36_7)
@[reducible] def o36_9 : List Ins := [⟨(some 11), .mv (.t 5), none, true⟩,
  ⟨(some 12), .bin .add (.t 11) (.k (.c (.int .i64 1))), none, true⟩,
  ⟨(some 5), .mv (.t 12), none, true⟩]
@[reducible] def v36_10 : VC := (.seq (.block 1 v36_8) (.ops o36_9))
@[reducible] def v36_11 : VC := (.seq (.seq (.ops o36_2) v36_3) v36_10)
-- K36_1: changed and kept: [5]
@[reducible] def K36_1 : List Nat := [1, 2]
@[reducible] def v36_12 : VC := (.loop v36_11)
@[reducible] def v36_13 : VC := (.block 0 v36_12)
@[reducible] def o36_14 : List Ins := [⟨(some 17), .mv (.t 1), none, true⟩,
  ⟨(some 18), .len (.t 17), none, true⟩,
  ⟨(some 19), .fa 0 (.t 2), none, true⟩,
  ⟨(some 20), .ld true 1 (.t 19), none, true⟩,
  ⟨(some 21), .len (.t 20), none, true⟩,
  ⟨(some 22), .bin .eql (.t 18) (.t 21), none, true⟩,
  ⟨(some 4), .mv (.t 22), none, true⟩]
@[reducible] def v36_15 : VC := (.seq (.ops o36_14) .ret)
@[reducible] def v36_16 : VC := (.seq (.seq (.ops o36_1) v36_13) v36_15)
def ir36 : FC := ⟨2, 23, [.t 4], (.seq (.ops o36_0) v36_16)⟩
@[reducible] def o39_0 : List Ins := [⟨(some 2), .box 5 (.t 0), none, true⟩,
  ⟨(some 4), .alloc [(.c (.raw (.slice none 0 0))), (.c (.int .i64 0)), (.c (.int .i64 0)), (.c (.int .i64 0)), (.c (.raw (.slice none 0 0)))], none, true⟩]
@[reducible] def o39_1 : List Ins := [⟨(some 8), .ld false 5 (.t 2), none, true⟩,
  ⟨(some 9), .call (.k (.fn 20 [])) [(.t 8)], none, true⟩,
  ⟨(some 5), .alloc [(.c (.raw (.slice none 0 0))), (.c (.int .i64 0)), (.c (.int .i64 0)), (.c (.int .i64 0)), (.c (.raw (.slice none 0 0)))], none, true⟩,
  ⟨none, .st 5 (.t 5) (.t 9), none, true⟩]
@[reducible] def o39_2 : List Ins := [⟨(some 6), .mv (.k (.c (.int .i64 0))), none, true⟩]
@[reducible] def o39_3 : List Ins := [⟨(some 10), .mv (.t 6), none, true⟩,
  ⟨(some 11), .mv (.t 1), none, true⟩,
  ⟨(some 12), .len (.t 11), none, true⟩,
  ⟨(some 13), .bin .lss (.t 10) (.t 12), none, true⟩]
@[reducible] def v39_4 : VC := (.cond (.t 13) .skip (.exit 0))
@[reducible] def o39_5 : List Ins := [⟨(some 16), .fa 0 (.t 5), none, false⟩,
  ⟨(some 17), .ld true 1 (.t 16), none, false⟩,
  ⟨(some 18), .mv (.t 6), none, false⟩,
  ⟨(some 19), .fa 0 (.t 2), none, false⟩,
  ⟨(some 20), .ld true 1 (.t 19), none, false⟩,
  ⟨(some 21), .mv (.t 1), none, false⟩,
  ⟨(some 22), .mv (.t 6), none, false⟩,
  ⟨(some 23), .ia 1 (.t 21) (.t 22), none, false⟩,
  ⟨(some 24), .ld true 1 (.t 23), none, false⟩,
  ⟨(some 25), .ia 2 (.t 20) (.t 24), none, false⟩,
  ⟨(some 26), .ld false 2 (.t 25), none, false⟩,
  ⟨(some 27), .ia 2 (.t 17) (.t 18), none, true⟩,
  ⟨none, .st 2 (.t 27) (.t 26), none, true⟩]
@[reducible] def o39_6 : List Ins := [⟨(some 7), .mv (.k (.c (.int .i64 0))), none, true⟩]
@[reducible] def o39_7 : List Ins := [⟨(some 28), .mv (.t 7), none, true⟩,
  ⟨(some 29), .fa 4 (.t 2), none, true⟩,
  ⟨(some 30), .ld true 1 (.t 29), none, true⟩,
  ⟨(some 31), .len (.t 30), none, true⟩,
  ⟨(some 32), .bin .lss (.t 28) (.t 31), none, true⟩]
@[reducible] def v39_8 : VC := (.cond (.t 32) .skip (.exit 2))
@[reducible] def o39_9 : List Ins := [⟨(some 35), .fa 4 (.t 2), none, false⟩,
  ⟨(some 36), .ld true 1 (.t 35), none, false⟩,
  ⟨(some 37), .mv (.t 7), none, false⟩,
  ⟨(some 38), .ia 2 (.t 36) (.t 37), none, false⟩,
  ⟨(some 39), .fa 0 (.t 38), none, false⟩,
  ⟨(some 40), .ld true 1 (.t 39), none, false⟩,
  ⟨(some 41), .bin .quo (.t 40) (.k (.c (.int .i64 2))), none, false⟩,
  ⟨(some 42), .mv (.t 1), none, false⟩,
  ⟨(some 43), .mv (.t 6), none, false⟩,
  ⟨(some 44), .ia 1 (.t 42) (.t 43), none, false⟩,
  ⟨(some 45), .ld true 1 (.t 44), none, false⟩,
  ⟨(some 46), .bin .eql (.t 41) (.t 45), none, true⟩]
@[reducible] def o39_10 : List Ins := [⟨(some 47), .fa 4 (.t 5), none, false⟩,
  ⟨(some 48), .ld true 1 (.t 47), none, false⟩,
  ⟨(some 49), .mv (.t 7), none, false⟩,
  ⟨(some 50), .mv (.t 6), none, false⟩,
  ⟨(some 51), .bin .mul (.k (.c (.int .i64 2))) (.t 50), none, false⟩,
  ⟨(some 52), .fa 4 (.t 2), none, false⟩,
  ⟨(some 53), .ld true 1 (.t 52), none, false⟩,
  ⟨(some 54), .mv (.t 7), none, false⟩,
  ⟨(some 55), .ia 2 (.t 53) (.t 54), none, false⟩,
  ⟨(some 56), .fa 0 (.t 55), none, false⟩,
  ⟨(some 57), .ld true 1 (.t 56), none, false⟩,
  ⟨(some 58), .bin .rem (.t 57) (.k (.c (.int .i64 2))), none, false⟩,
  ⟨(some 59), .bin .add (.t 51) (.t 58), none, false⟩,
  ⟨(some 60), .ia 2 (.t 48) (.t 49), none, true⟩,
  ⟨(some 61), .fa 0 (.t 60), none, true⟩,
  ⟨none, .st 1 (.t 61) (.t 59), none, true⟩]
@[reducible] def v39_11 : VC := (.cond (.t 46) (.ops o39_10) .skip)
@[reducible] def v39_12 : VC := (.seq (.ops o39_9) v39_11)
@[reducible] def o39_13 : List Ins := [⟨(some 33), .mv (.t 7), none, true⟩,
  ⟨(some 34), .bin .add (.t 33) (.k (.c (.int .i64 1))), none, true⟩,
  ⟨(some 7), .mv (.t 34), none, true⟩]
@[reducible] def v39_14 : VC := (.seq (.block 3 v39_12) (.ops o39_13))
@[reducible] def v39_15 : VC := (.seq (.seq (.ops o39_7) v39_8) v39_14)
-- K39_2: changed and kept: [7]
@[reducible] def K39_2 : List Nat := [1, 2, 4, 5, 6]
@[reducible] def v39_16 : VC := (.loop v39_15)
@[reducible] def v39_17 : VC := (.block 2 v39_16)
@[reducible] def v39_18 : VC := (.seq (.ops o39_6) v39_17)
@[reducible] def v39_19 : VC := (.seq (.ops o39_5) v39_18)
@[reducible] def o39_20 : List Ins := [⟨(some 14), .mv (.t 6), none, true⟩,
  ⟨(some 15), .bin .add (.t 14) (.k (.c (.int .i64 1))), none, true⟩,
  ⟨(some 6), .mv (.t 15), none, true⟩]
@[reducible] def v39_21 : VC := (.seq (.block 1 v39_19) (.ops o39_20))
@[reducible] def v39_22 : VC := (.seq (.seq (.ops o39_3) v39_4) v39_21)
-- K39_1: changed and kept: [6]
@[reducible] def K39_1 : List Nat := [1, 2, 4, 5]
@[reducible] def v39_23 : VC := (.loop v39_22)
@[reducible] def v39_24 : VC := (.block 0 v39_23)
@[reducible] def o39_25 : List Ins := [⟨(some 62), .ld false 5 (.t 5), none, true⟩,
  ⟨none, .st 5 (.t 4) (.t 62), none, true⟩]
@[reducible] def v39_26 : VC := (.seq (.ops o39_25) .ret)
@[reducible] def v39_27 : VC := (.seq (.seq (.ops o39_2) v39_24) v39_26)
@[reducible] def v39_28 : VC := (.seq (.ops o39_1) v39_27)
def ir39 : FC := ⟨2, 63, [.cell 4 false 5], (.seq (.ops o39_0) v39_28)⟩
theorem c36 : compM Try.prog [] 36 = some ir36 := by kernel_rfl
theorem c39 : compM Try.prog [] 39 = some ir39 := by kernel_rfl



theorem perm_of_nodup {l1 : List Int} : ∀ {l2 : List Int}, l1.Nodup → (∀ x ∈ l1, x ∈ l2) → l2.length ≤ l1.length → l2.Perm l1 := by
  induction l1 with
  | nil => intro l2 _ _ h; rw [List.length_eq_zero_iff.1 (Nat.le_zero.1 h)]
  | cons x l1 ih =>
    intro l2 hn hs hl
    have hx := hs x (by simp)
    refine (List.perm_cons_erase hx).trans (List.Perm.cons x (ih (List.nodup_cons.1 hn).2 (fun y hy => ?_) ?_))
    · have hne : y ≠ x := by rintro rfl; exact (List.nodup_cons.1 hn).1 hy
      exact (List.mem_erase_of_ne hne).2 (hs y (by simp [hy]))
    · have h1 := List.length_erase_of_mem hx
      rw [List.length_cons] at hl
      omega
def isOrdB (n : Nat) (o : List Int) : Bool := (List.range n).all (fun i => o.contains (i : Int)) && decide (o.length = n)
theorem ord_isOrdB {n : Nat} {π : List Nat} (h : IsOrd n π) : isOrdB n (π.map fun k : Nat => (k : Int)) = true := by
  unfold isOrdB
  simp only [Bool.and_eq_true, List.all_eq_true, decide_eq_true_eq, List.length_map]
  refine ⟨fun i hi => List.contains_iff_mem.2 (List.mem_map.2 ⟨i, h.mem (List.mem_range.1 hi), rfl⟩), h.len⟩
theorem isorder36 (t : Tray) (o : List Int) (hn : t.n ≤ 1000) (hl : o.length ≤ 1000000) : FSpec Try.prog 36 [t.av, .c (.sl 1 (o.map icd))] (.c (.bool (isOrdB t.n o))) := by
  have hrl : t.recs.length = t.n := rfl
  unfold isOrdB
  refine FSpec_of c36 (Nat.le_refl _) (by decide) fun C hP hN hC hL => ?_
  simp only [ir36, Tray.av]
  (repeat ((first | refine WV_seq_ ?_ | refine WV_block ?_ | refine WV_ops ?_ | refine WV_skip ?_ | refine WV_exit ?_); (try simp only [go_sem, init_env', Nat.reduceEqDiff, Nat.reduceAdd, Nat.reduceMul, reduceIte, Nat.reduceLeDiff, Nat.reduceLT, Nat.reduceBEq, reduceCtorEq, hP, ]); (repeat refine qI ?_)))
  refine WV_loopK K36_1 [] (fun k : Nat => k ≤ t.n ∧ (List.range t.n).all (fun i => o.contains (i : Int)) = ((List.range t.n).drop k).all (fun i => o.contains (i : Int))) (fun k => t.n - k) (fun k => [(5, iv k)]) (fun _ => []) 0 ⟨Nat.zero_le _, rfl⟩ ?_ ?_
  · exact Sub_au
  rintro k ⟨hk, hx⟩
  simp only [go_sem, init_env', Nat.reduceEqDiff, Nat.reduceAdd, Nat.reduceMul, reduceIte, Nat.reduceLeDiff, Nat.reduceLT, Nat.reduceBEq, reduceCtorEq]
  (repeat ((first | refine WV_seq_ ?_ | refine WV_block ?_ | refine WV_ops ?_ | refine WV_skip ?_ | refine WV_exit ?_); (try simp only [go_sem, init_env', Nat.reduceEqDiff, Nat.reduceAdd, Nat.reduceMul, reduceIte, Nat.reduceLeDiff, Nat.reduceLT, Nat.reduceBEq, reduceCtorEq, hP, recsC, List.length_map, hrl]); (repeat refine qI ?_)))
  (refine WV_cond rfl (fun h => ?_) (fun h => ?_))
  · have hkl : k < t.n := by simpa using h
    have hw2 := w64 (n := (k : Int) + 1) (by omega) (by omega)
    have hin := in61 o k hl
    have hd : (List.range t.n).drop k = k :: (List.range t.n).drop (k + 1) := by
      rw [List.drop_eq_getElem_cons (by simpa using hkl)]; simp
    rw [hd, List.all_cons] at hx
    (repeat ((first | refine WV_seq_ ?_ | refine WV_block ?_ | refine WV_ops ?_ | refine WV_skip ?_ | refine WV_exit ?_); (try simp only [go_sem, init_env', Nat.reduceEqDiff, Nat.reduceAdd, Nat.reduceMul, reduceIte, Nat.reduceLeDiff, Nat.reduceLT, Nat.reduceBEq, reduceCtorEq, hP, ]); (repeat refine qI ?_)))
    (refine AS_pure (hin) rfl rfl rfl rfl rfl ?_; simp only [go_sem, init_env', Nat.reduceEqDiff, Nat.reduceAdd, Nat.reduceMul, reduceIte, Nat.reduceLeDiff, Nat.reduceLT, Nat.reduceBEq, reduceCtorEq, hP, ]; (repeat refine qI ?_); (repeat ((first | refine WV_seq_ ?_ | refine WV_block ?_ | refine WV_ops ?_ | refine WV_skip ?_ | refine WV_exit ?_); (try simp only [go_sem, init_env', Nat.reduceEqDiff, Nat.reduceAdd, Nat.reduceMul, reduceIte, Nat.reduceLeDiff, Nat.reduceLT, Nat.reduceBEq, reduceCtorEq, hP, ]); (repeat refine qI ?_))))
    cases hc : o.contains (k : Int)
    · rw [hc, Bool.false_and] at hx
      (refine WV_cond rfl (fun h => ?_) (fun h => ?_))
      · (repeat ((first | refine WV_seq_ ?_ | refine WV_block ?_ | refine WV_ops ?_ | refine WV_skip ?_ | refine WV_exit ?_); (try simp only [go_sem, init_env', Nat.reduceEqDiff, Nat.reduceAdd, Nat.reduceMul, reduceIte, Nat.reduceLeDiff, Nat.reduceLT, Nat.reduceBEq, reduceCtorEq, hP, ]); (repeat refine qI ?_)))
        (refine WV_ret ?_; simp only [thenQ, inQ, RetQ, RetOk, resAll, resA]; simp only [go_sem, init_env', Nat.reduceEqDiff, Nat.reduceAdd, Nat.reduceMul, reduceIte, Nat.reduceLeDiff, Nat.reduceLT, Nat.reduceBEq, reduceCtorEq, tupA, AV.port, AV.portL, exists_eq_left', ]; (first | exact AVle.of rfl | refine AVle.of ?_ | skip))
        rw [hx]; rfl
      · simp at h
    · rw [hc, Bool.true_and] at hx
      (refine WV_cond rfl (fun h => ?_) (fun h => ?_))
      · simp at h
      · (repeat ((first | refine WV_seq_ ?_ | refine WV_block ?_ | refine WV_ops ?_ | refine WV_skip ?_ | refine WV_exit ?_); (try simp only [go_sem, init_env', Nat.reduceEqDiff, Nat.reduceAdd, Nat.reduceMul, reduceIte, Nat.reduceLeDiff, Nat.reduceLT, Nat.reduceBEq, reduceCtorEq, hP, hw2]); (repeat refine qI ?_)))
        refine ⟨k + 1, ⟨by omega, hx⟩, by omega, ?_⟩
        exact Sub_au
  · have h : k = t.n := by simp at h; omega
    subst h
    rw [List.drop_of_length_le (by simp)] at hx
    have hxx : (List.range t.n).all (fun i => o.contains (i : Int)) = true := hx
    have hll : ((o.length : Int) == (t.n : Int)) = decide (o.length = t.n) := by rw [Bool.eq_iff_iff]; simp; omega
    rw [hxx, Bool.true_and]
    (refine WV_exit ?_; simp only [go_sem, init_env', Nat.reduceEqDiff, Nat.reduceAdd, Nat.reduceMul, reduceIte, Nat.reduceLeDiff, Nat.reduceLT, Nat.reduceBEq, reduceCtorEq])
    (repeat ((first | refine WV_seq_ ?_ | refine WV_block ?_ | refine WV_ops ?_ | refine WV_skip ?_ | refine WV_exit ?_); (try simp only [go_sem, init_env', Nat.reduceEqDiff, Nat.reduceAdd, Nat.reduceMul, reduceIte, Nat.reduceLeDiff, Nat.reduceLT, Nat.reduceBEq, reduceCtorEq, hP, recsC, List.length_map, hrl, hll]); (repeat refine qI ?_)))
    (refine WV_ret ?_; simp only [thenQ, inQ, RetQ, RetOk, resAll, resA]; simp only [go_sem, init_env', Nat.reduceEqDiff, Nat.reduceAdd, Nat.reduceMul, reduceIte, Nat.reduceLeDiff, Nat.reduceLT, Nat.reduceBEq, reduceCtorEq, tupA, AV.port, AV.portL, exists_eq_left', ]; (first | exact AVle.of rfl | refine AVle.of ?_ | skip))

/-! ### The specification's arranged tray -/
def recsO (t : Tray) (o : List Nat) (k : Nat) : List Rec := (List.range t.n).map fun j => if j < k then t.rc (o.getD j 0) else t.rc j
theorem recsO_len (t : Tray) (o : List Nat) (k : Nat) : (recsO t o k).length = t.n := by simp [recsO]
theorem recsO_zero (t : Tray) (o : List Nat) : recsO t o 0 = t.recs := by
  have hl : t.recs.length = t.n := rfl
  refine List.ext_getElem (by simp [recsO, hl]) fun i h1 h2 => ?_
  simp [recsO, Tray.rc, h2]
theorem recsO_step (t : Tray) (o : List Nat) {k : Nat} (h : k < t.n) : (recsO t o k).set k (t.rc (o.getD k 0)) = recsO t o (k + 1) := by
  refine List.ext_getElem (by simp [recsO]) fun i h1 h2 => ?_
  rw [recsO_len] at h2
  rw [List.getElem_set]
  by_cases e : k = i
  · subst e; rw [if_pos rfl]; simp [recsO]
  · rw [if_neg e]
    simp only [recsO, List.getElem_map, List.getElem_range]
    by_cases hk : i < k
    · rw [if_pos hk, if_pos (by omega)]
    · rw [if_neg hk, if_neg (by omega)]
theorem recsO_all (t : Tray) {o : List Nat} (h : IsOrd t.n o) : recsO t o t.n = o.map t.rc := by
  refine List.ext_getElem (by rw [recsO_len, List.length_map, h.len]) fun i h1 h2 => ?_
  rw [recsO_len] at h1
  simp only [List.length_map] at h2
  simp [recsO, h1, h2]
def doneB (o : List Nat) (k i j : Nat) (p : Pr) : Bool := decide (o.idxOf (p.side.toNat / 2) < k) || (decide (o.idxOf (p.side.toNat / 2) = k) && decide (j < i))
def prsO (l : List Pr) (o : List Nat) (k i : Nat) : List Pr := (List.range l.length).map fun j => if doneB o k i j (l.getD j default) then arrP o (l.getD j default) else l.getD j default
theorem prsO_len (l : List Pr) (o : List Nat) (k i : Nat) : (prsO l o k i).length = l.length := by simp [prsO]
theorem prsO_zero (l : List Pr) (o : List Nat) : prsO l o 0 0 = l := by
  refine List.ext_getElem (by simp [prsO]) fun i h1 h2 => ?_
  simp [prsO, doneB, h2]
theorem prsO_next (l : List Pr) (o : List Nat) (k : Nat) : prsO l o k l.length = prsO l o (k + 1) 0 := by
  unfold prsO
  refine List.map_congr_left fun j hj => ?_
  have hj := List.mem_range.1 hj
  have e : ∀ m : Nat, (decide (m < k) || (decide (m = k) && decide (j < l.length))) = (decide (m < k + 1) || (decide (m = k + 1) && decide (j < 0))) := fun m => by
    rw [Bool.eq_iff_iff]; simp [hj]; omega
  unfold doneB
  rw [e]
theorem prsO_all {l : List Pr} {o : List Nat} {n : Nat} (h : ∀ p ∈ l, o.idxOf (p.side.toNat / 2) < n) : prsO l o n 0 = l.map (arrP o) := by
  refine List.ext_getElem (by simp [prsO]) fun i h1 h2 => ?_
  rw [prsO_len] at h1
  have h3 := h _ (List.getElem_mem h1)
  simp [prsO, doneB, h1, h3]
theorem prsO_get {l : List Pr} {o : List Nat} {k i : Nat} (h : i < l.length) (h' : i < (prsO l o k i).length) : (prsO l o k i)[i] = if o.idxOf ((l.getD i default).side.toNat / 2) < k then arrP o (l.getD i default) else l.getD i default := by
  simp [prsO, doneB]
theorem prsO_set {l : List Pr} {o : List Nat} {k i : Nat} (h : i < l.length) (hk : o.idxOf ((l.getD i default).side.toNat / 2) = k) : (prsO l o k i).set i (arrP o (l.getD i default)) = prsO l o k (i + 1) := by
  refine List.ext_getElem (by simp [prsO]) fun j h1 h2 => ?_
  rw [prsO_len] at h2
  rw [List.getElem_set]
  by_cases e : i = j
  · subst e
    rw [if_pos rfl]
    simp only [prsO, doneB, List.getElem_map, List.getElem_range, hk]
    simp
  · rw [if_neg e]
    simp only [prsO, doneB, List.getElem_map, List.getElem_range]
    have e2 : decide (j < i) = decide (j < i + 1) := by rw [Bool.eq_iff_iff]; simp; omega
    rw [e2]
theorem prsO_skip {l : List Pr} {o : List Nat} {k i : Nat} (h : i < l.length) (hk : o.idxOf ((l.getD i default).side.toNat / 2) ≠ k) : prsO l o k (i + 1) = prsO l o k i := by
  unfold prsO
  refine List.map_congr_left fun j hj => ?_
  by_cases e : i = j
  · subst e
    unfold doneB
    rw [decide_eq_false hk]; simp
  · have e2 : decide (j < i + 1) = decide (j < i) := by rw [Bool.eq_iff_iff]; simp; omega
    unfold doneB
    rw [e2]
theorem recs_grpO {l : List Rec} {n : Nat} (h : l.length = n) : grp 2 n ((flatG Rec.cds l).take (n * 2)) = l.map Rec.cds := by
  rw [← h]; exact grp_cellsG rec_two l
theorem recs_fitO {l : List Rec} {n : Nat} (h : l.length = n) : (n * 2 ≤ (flatG Rec.cds l).length) = True := by rw [flatG_len rec_two, h]; simp
theorem prs_grpO {l : List Pr} {n : Nat} (h : l.length = n) : grp 2 n ((flatG Pr.cds l).take (n * 2)) = l.map Pr.cds := by
  rw [← h]; exact grp_cellsG pr_two l
theorem prs_fitO {l : List Pr} {n : Nat} (h : l.length = n) : (n * 2 ≤ (flatG Pr.cds l).length) = True := by rw [flatG_len pr_two, h]; simp
theorem map_rcO {t : Tray} {k : Nat} (h : k < t.n) : (t.recs.map Rec.cds).getD k [] = [.int .i64 (t.rc k).front, .int .i64 (t.rc k).back] := by
  have hl : t.recs.length = t.n := rfl
  rw [map_getD (by rw [hl]; exact h)]
  unfold Tray.rc; rw [List.getD_eq_getElem?_getD, List.getElem?_eq_getElem (by rw [hl]; exact h)]; rfl
theorem map_prO {l : List Pr} {k : Nat} (h : k < l.length) : (l.map Pr.cds).getD k [] = [.int .i64 (l.getD k default).side, .int .i64 (l.getD k default).time] := by
  rw [map_getD h, List.getD_eq_getElem?_getD, List.getElem?_eq_getElem h]; rfl
set_option maxRecDepth 20000 in
set_option maxHeartbeats 16000000 in
theorem arranged39 {t : Tray} (ht : TrayOk t) {o : List Nat} (ho : IsOrd t.n o) : FSpec Try.prog 39 [t.av, .c (natsC o)] (arrT t o).av := by
  have hmax : maxLen = 9223372036854775807 := rfl
  have hn6 := ht.n6
  have hn1 := ht.n1
  have h13 := ht.p13
  have hrl : t.recs.length = t.n := rfl
  have hol := ho.len
  have hne : t.recs ≠ [] := by intro h; unfold Tray.n at hn1; rw [h] at hn1; simp at hn1
  have hcop := copyV t hne (by omega) (by omega)
  have hidx : ∀ p ∈ t.pres, o.idxOf (p.side.toNat / 2) < t.n := fun p hp => (arrP_side ho (ht.pres p hp).1).1
  have hav : (arrT t o).av = .agg [.c (.sl 2 ((recsO t o t.n).map Rec.cds)), iv t.at_, iv t.way, iv t.step, .c (.sl 2 ((prsO t.pres o t.n 0).map Pr.cds))] := by rw [recsO_all t ho, prsO_all hidx]; rfl
  rw [hav]
  have hrg := recs_grpO (recsO_len t o t.n)
  have hrf := recs_fitO (recsO_len t o t.n)
  have hpg := prs_grpO (prsO_len t.pres o t.n 0)
  have hpf := prs_fitO (prsO_len t.pres o t.n 0)
  have hz : ∀ j, cellsG Rec.cds t.recs j = cellsG Rec.cds (recsO t o 0) j := fun j => by rw [recsO_zero]
  have hzp : ∀ j, cellsG Pr.cds t.pres j = cellsG Pr.cds (prsO t.pres o 0 0) j := fun j => by rw [prsO_zero]
  refine FSpec_of c39 (Nat.le_refl _) (by decide) fun C hP hN hC hL => ?_
  simp only [ir39, Tray.av]
  (repeat ((first | refine WV_seq_ ?_ | refine WV_block ?_ | refine WV_ops ?_ | refine WV_skip ?_ | refine WV_exit ?_); (try simp only [go_sem, init_env', Nat.reduceEqDiff, Nat.reduceAdd, Nat.reduceMul, reduceIte, Nat.reduceLeDiff, Nat.reduceLT, Nat.reduceBEq, reduceCtorEq, hP, ]); (repeat refine qI ?_)))
  refine AS_new hcop rfl rfl rfl rfl ?_
  rintro res os ⟨cap, j, y, oo, q1, q2, q3, rfl, rfl, hy⟩
  rcases hy with ⟨hpn, rfl, rfl⟩ | ⟨hpn, cap2, j2, r1, r2, r3, rfl, rfl⟩
  · refine ⟨[900, 901], .agg [.vw 2 900 0 t.recs.length cap, iv t.at_, iv t.way, iv t.step, .gr 901], [.box (cellsG Rec.cds t.recs j), .grow 27 2 []], by decide, rfl, by simp only [go_sem, init_env', Nat.reduceEqDiff, Nat.reduceAdd, Nat.reduceMul, reduceIte, Nat.reduceLeDiff, Nat.reduceLT, Nat.reduceBEq, reduceCtorEq, decide_true], rfl, (by simp only [obsBack, Ob.back, back_cellsG]; rfl), ?_⟩
    simp only [go_sem, init_env', Nat.reduceEqDiff, Nat.reduceAdd, Nat.reduceMul, reduceIte, Nat.reduceLeDiff, Nat.reduceLT, Nat.reduceBEq, reduceCtorEq, hP, ownBack]
    (repeat refine qI ?_)
    have hpe : prsO t.pres o t.n 0 = [] := by rw [hpn]; rfl
    rw [hz, hpe]
    (repeat ((first | refine WV_seq_ ?_ | refine WV_block ?_ | refine WV_ops ?_ | refine WV_skip ?_ | refine WV_exit ?_); (try simp only [go_sem, init_env', Nat.reduceEqDiff, Nat.reduceAdd, Nat.reduceMul, reduceIte, Nat.reduceLeDiff, Nat.reduceLT, Nat.reduceBEq, reduceCtorEq, hP, ]); (repeat refine qI ?_)))
    refine WV_loopK K39_1 [5, 900] (fun k : Nat => k ≤ t.n) (fun k => t.n - k) (fun k => [(6, iv k)]) (fun k => [(5, .box [.vw 2 900 0 t.n cap, iv t.at_, iv t.way, iv t.step, .gr 901]), (900, .box (cellsG Rec.cds (recsO t o k) j))]) 0 (Nat.zero_le _) ?_ ?_
    · rw [hrl]
      exact Sub_au
    intro k hk
    simp only [go_sem, init_env', Nat.reduceEqDiff, Nat.reduceAdd, Nat.reduceMul, reduceIte, Nat.reduceLeDiff, Nat.reduceLT, Nat.reduceBEq, reduceCtorEq]
    (repeat ((first | refine WV_seq_ ?_ | refine WV_block ?_ | refine WV_ops ?_ | refine WV_skip ?_ | refine WV_exit ?_); (try simp only [go_sem, init_env', Nat.reduceEqDiff, Nat.reduceAdd, Nat.reduceMul, reduceIte, Nat.reduceLeDiff, Nat.reduceLT, Nat.reduceBEq, reduceCtorEq, hP, natsC, List.length_map, hol]); (repeat refine qI ?_)))
    (refine WV_cond rfl (fun h => ?_) (fun h => ?_))
    · have hkl : k < t.n := by simpa using h
      have hI : (k : Int) < (t.n : Int) := by omega
      have hw8 := w64 (n := (k : Int) + 1) (by omega) (by omega)
      have hkl2 : k < o.length := by omega
      have g0 : (o.map ncd).getD k [] = [.int .i64 ((o.getD k 0 : Nat) : Int)] := by
        rw [map_getD hkl2, List.getD_eq_getElem?_getD, List.getElem?_eq_getElem hkl2]; rfl
      have hlt : o.getD k 0 < t.n := by
        rw [List.getD_eq_getElem?_getD, List.getElem?_eq_getElem hkl2]; exact ho.lt (List.getElem_mem hkl2)
      have g1 := map_rcO hlt
      have hst := recsO_step t o hkl
      have hlk : k < (recsO t o k).length := by rw [recsO_len]; exact hkl
      have hsp := put2 rec_two hlk j (t.rc (o.getD k 0)) (x := .int .i64 (t.rc (o.getD k 0)).front) (y := .int .i64 (t.rc (o.getD k 0)).back) rfl
      rw [hst] at hsp
      have hcl : k * 2 + 2 ≤ (cellsG Rec.cds (recsO t o k) j).length := by rw [cellsG_len rec_two, recsO_len]; omega
      generalize t.rc (o.getD k 0) = X at *
      generalize o.getD k 0 = m at *
      have hI2 : (m : Int) < (t.n : Int) := by omega
      (repeat ((first | refine WV_seq_ ?_ | refine WV_block ?_ | refine WV_ops ?_ | refine WV_skip ?_ | refine WV_exit ?_); (try simp only [go_sem, init_env', Nat.reduceEqDiff, Nat.reduceAdd, Nat.reduceMul, reduceIte, Nat.reduceLeDiff, Nat.reduceLT, Nat.reduceBEq, reduceCtorEq, hP, natsC, g0, recsC, g1, hI2, hI, hkl, hol, List.length_map, hrl, Int.natCast_nonneg, hsp, hcl]); (repeat refine qI ?_)))
      refine WV_loopK K39_2 [] (fun i : Nat => i ≤ 0) (fun i => 0) (fun i => [(7, iv i)]) (fun i => []) 0 (Nat.zero_le _) ?_ ?_
      · exact Sub_au
      intro i hi
      have hi0 : i = 0 := by omega
      subst hi0
      have hz0 : t.pres.length = 0 := by rw [hpn]; rfl
      simp only [go_sem, init_env', Nat.reduceEqDiff, Nat.reduceAdd, Nat.reduceMul, reduceIte, Nat.reduceLeDiff, Nat.reduceLT, Nat.reduceBEq, reduceCtorEq]
      (repeat ((first | refine WV_seq_ ?_ | refine WV_block ?_ | refine WV_ops ?_ | refine WV_skip ?_ | refine WV_exit ?_); (try simp only [go_sem, init_env', Nat.reduceEqDiff, Nat.reduceAdd, Nat.reduceMul, reduceIte, Nat.reduceLeDiff, Nat.reduceLT, Nat.reduceBEq, reduceCtorEq, hP, prsC, List.length_map, hz0, Int.natCast_zero]); (repeat refine qI ?_)))
      (refine WV_cond rfl (fun h => ?_) (fun h => ?_))
      · simp at h
      (refine WV_exit ?_; simp only [go_sem, init_env', Nat.reduceEqDiff, Nat.reduceAdd, Nat.reduceMul, reduceIte, Nat.reduceLeDiff, Nat.reduceLT, Nat.reduceBEq, reduceCtorEq])
      (repeat ((first | refine WV_seq_ ?_ | refine WV_block ?_ | refine WV_ops ?_ | refine WV_skip ?_ | refine WV_exit ?_); (try simp only [go_sem, init_env', Nat.reduceEqDiff, Nat.reduceAdd, Nat.reduceMul, reduceIte, Nat.reduceLeDiff, Nat.reduceLT, Nat.reduceBEq, reduceCtorEq, hP, hw8]); (repeat refine qI ?_)))
      refine ⟨k + 1, by omega, by omega, ?_⟩
      exact Sub_au
    have h : k = t.n := by simp at h; omega
    subst h
    (refine WV_exit ?_; simp only [go_sem, init_env', Nat.reduceEqDiff, Nat.reduceAdd, Nat.reduceMul, reduceIte, Nat.reduceLeDiff, Nat.reduceLT, Nat.reduceBEq, reduceCtorEq])
    refine WV_freezeJ 900 (ds := flatG Rec.cds (recsO t o t.n)) (junk := List.replicate j .non) rfl ?_
    simp only [go_sem, init_env', Nat.reduceEqDiff, Nat.reduceAdd, Nat.reduceMul, reduceIte, Nat.reduceLeDiff, Nat.reduceLT, Nat.reduceBEq, reduceCtorEq, hrg, hrf, frz_cellsG]
    (repeat ((first | refine WV_seq_ ?_ | refine WV_block ?_ | refine WV_ops ?_ | refine WV_skip ?_ | refine WV_exit ?_); (try simp only [go_sem, init_env', Nat.reduceEqDiff, Nat.reduceAdd, Nat.reduceMul, reduceIte, Nat.reduceLeDiff, Nat.reduceLT, Nat.reduceBEq, reduceCtorEq, hP, ]); (repeat refine qI ?_)))
    (refine WV_ret ?_; simp only [thenQ, inQ, RetQ, RetOk, resAll, resA]; simp only [go_sem, init_env', Nat.reduceEqDiff, Nat.reduceAdd, Nat.reduceMul, reduceIte, Nat.reduceLeDiff, Nat.reduceLT, Nat.reduceBEq, reduceCtorEq, tupA, AV.port, AV.portL, exists_eq_left', ]; (first | exact AVle.of rfl | refine AVle.of ?_ | skip))
  · refine ⟨[900, 901], .agg [.vw 2 900 0 t.recs.length cap, iv t.at_, iv t.way, iv t.step, .vw 2 901 0 t.pres.length cap2], [.box (cellsG Rec.cds t.recs j), .box (cellsG Pr.cds t.pres j2)], by decide, rfl, by simp only [go_sem, init_env', Nat.reduceEqDiff, Nat.reduceAdd, Nat.reduceMul, reduceIte, Nat.reduceLeDiff, Nat.reduceLT, Nat.reduceBEq, reduceCtorEq, decide_true], rfl, (by simp only [obsBack, Ob.back, back_cellsG]; rfl), ?_⟩
    simp only [go_sem, init_env', Nat.reduceEqDiff, Nat.reduceAdd, Nat.reduceMul, reduceIte, Nat.reduceLeDiff, Nat.reduceLT, Nat.reduceBEq, reduceCtorEq, hP, ownBack]
    (repeat refine qI ?_)
    rw [hz, hzp]
    (repeat ((first | refine WV_seq_ ?_ | refine WV_block ?_ | refine WV_ops ?_ | refine WV_skip ?_ | refine WV_exit ?_); (try simp only [go_sem, init_env', Nat.reduceEqDiff, Nat.reduceAdd, Nat.reduceMul, reduceIte, Nat.reduceLeDiff, Nat.reduceLT, Nat.reduceBEq, reduceCtorEq, hP, ]); (repeat refine qI ?_)))
    refine WV_loopK K39_1 [5, 900, 901] (fun k : Nat => k ≤ t.n) (fun k => t.n - k) (fun k => [(6, iv k)]) (fun k => [(5, .box [.vw 2 900 0 t.n cap, iv t.at_, iv t.way, iv t.step, .vw 2 901 0 t.pres.length cap2]), (900, .box (cellsG Rec.cds (recsO t o k) j)), (901, .box (cellsG Pr.cds (prsO t.pres o k 0) j2))]) 0 (Nat.zero_le _) ?_ ?_
    · rw [hrl]
      exact Sub_au
    intro k hk
    simp only [go_sem, init_env', Nat.reduceEqDiff, Nat.reduceAdd, Nat.reduceMul, reduceIte, Nat.reduceLeDiff, Nat.reduceLT, Nat.reduceBEq, reduceCtorEq]
    (repeat ((first | refine WV_seq_ ?_ | refine WV_block ?_ | refine WV_ops ?_ | refine WV_skip ?_ | refine WV_exit ?_); (try simp only [go_sem, init_env', Nat.reduceEqDiff, Nat.reduceAdd, Nat.reduceMul, reduceIte, Nat.reduceLeDiff, Nat.reduceLT, Nat.reduceBEq, reduceCtorEq, hP, natsC, List.length_map, hol]); (repeat refine qI ?_)))
    (refine WV_cond rfl (fun h => ?_) (fun h => ?_))
    · have hkl : k < t.n := by simpa using h
      have hI : (k : Int) < (t.n : Int) := by omega
      have hw8 := w64 (n := (k : Int) + 1) (by omega) (by omega)
      have hkl2 : k < o.length := by omega
      have g0 : (o.map ncd).getD k [] = [.int .i64 ((o.getD k 0 : Nat) : Int)] := by
        rw [map_getD hkl2, List.getD_eq_getElem?_getD, List.getElem?_eq_getElem hkl2]; rfl
      have hlt : o.getD k 0 < t.n := by
        rw [List.getD_eq_getElem?_getD, List.getElem?_eq_getElem hkl2]; exact ho.lt (List.getElem_mem hkl2)
      have hgk : o.idxOf (o.getD k 0) = k := by
        rw [List.getD_eq_getElem?_getD, List.getElem?_eq_getElem hkl2]
        exact (ho.nodup_iff.2 List.nodup_range).idxOf_getElem k hkl2
      have hmem : o.getD k 0 ∈ o := by rw [List.getD_eq_getElem?_getD, List.getElem?_eq_getElem hkl2]; exact List.getElem_mem hkl2
      have g1 := map_rcO hlt
      have hst := recsO_step t o hkl
      have hlk : k < (recsO t o k).length := by rw [recsO_len]; exact hkl
      have hsp := put2 rec_two hlk j (t.rc (o.getD k 0)) (x := .int .i64 (t.rc (o.getD k 0)).front) (y := .int .i64 (t.rc (o.getD k 0)).back) rfl
      rw [hst] at hsp
      have hcl : k * 2 + 2 ≤ (cellsG Rec.cds (recsO t o k) j).length := by rw [cellsG_len rec_two, recsO_len]; omega
      generalize t.rc (o.getD k 0) = X at *
      generalize o.getD k 0 = m at *
      have hI2 : (m : Int) < (t.n : Int) := by omega
      (repeat ((first | refine WV_seq_ ?_ | refine WV_block ?_ | refine WV_ops ?_ | refine WV_skip ?_ | refine WV_exit ?_); (try simp only [go_sem, init_env', Nat.reduceEqDiff, Nat.reduceAdd, Nat.reduceMul, reduceIte, Nat.reduceLeDiff, Nat.reduceLT, Nat.reduceBEq, reduceCtorEq, hP, natsC, g0, recsC, g1, hI2, hI, hkl, hol, List.length_map, hrl, Int.natCast_nonneg, hsp, hcl]); (repeat refine qI ?_)))
      refine WV_loopK K39_2 [901] (fun i : Nat => i ≤ t.pres.length) (fun i => t.pres.length - i) (fun i => [(7, iv i)]) (fun i => [(901, .box (cellsG Pr.cds (prsO t.pres o k i) j2))]) 0 (Nat.zero_le _) ?_ ?_
      · exact Sub_au
      intro i hi
      simp only [go_sem, init_env', Nat.reduceEqDiff, Nat.reduceAdd, Nat.reduceMul, reduceIte, Nat.reduceLeDiff, Nat.reduceLT, Nat.reduceBEq, reduceCtorEq]
      (repeat ((first | refine WV_seq_ ?_ | refine WV_block ?_ | refine WV_ops ?_ | refine WV_skip ?_ | refine WV_exit ?_); (try simp only [go_sem, init_env', Nat.reduceEqDiff, Nat.reduceAdd, Nat.reduceMul, reduceIte, Nat.reduceLeDiff, Nat.reduceLT, Nat.reduceBEq, reduceCtorEq, hP, prsC, List.length_map]); (repeat refine qI ?_)))
      (refine WV_cond rfl (fun h => ?_) (fun h => ?_))
      · have hil : i < t.pres.length := by simpa using h
        have hI3 : (i : Int) < (t.pres.length : Int) := by omega
        have hw9 := w64 (n := (i : Int) + 1) (by omega) (by omega)
        have hps : 0 ≤ (t.pres.getD i default).side ∧ (t.pres.getD i default).side < 2 * (t.n : Int) := by
          rw [List.getD_eq_getElem?_getD, List.getElem?_eq_getElem hil]; exact (ht.pres _ (List.getElem_mem hil)).1
        have g2 := map_prO hil
        have hset := prsO_set (o := o) (k := k) hil
        have hskip := prsO_skip (o := o) (k := k) hil
        have hget := prsO_get (o := o) (k := k) hil (by rw [prsO_len]; exact hil)
        have hlk2 : i < (prsO t.pres o k i).length := by rw [prsO_len]; exact hil
        have hmem2 := (arrP_side ho hps)
        have harr : arrP o (t.pres.getD i default) = ⟨2 * (o.idxOf ((t.pres.getD i default).side.toNat / 2) : Int) + (t.pres.getD i default).side % 2, (t.pres.getD i default).time⟩ := rfl
        have hcl2 : i * 2 < (cellsG Pr.cds (prsO t.pres o k i) j2).length := by rw [cellsG_len pr_two, prsO_len]; omega
        generalize t.pres.getD i default = p at *
        obtain ⟨S0, T0⟩ := p
        simp only at hps g2 hset hskip hget hmem2 harr
        obtain ⟨s0, rfl⟩ := Int.eq_ofNat_of_zero_le hps.1
        rw [Int.toNat_natCast] at hset hskip hget hmem2 harr
        have e1 : ((s0 : Int)).tdiv 2 = ((s0 / 2 : Nat) : Int) := by rw [Int.tdiv_eq_ediv_of_nonneg (by omega)]; omega
        have e2 : ((s0 : Int)).tmod 2 = ((s0 % 2 : Nat) : Int) := by rw [Int.tmod_eq_emod_of_nonneg (by omega)]; omega
        have w1 := w64 (n := ((s0 / 2 : Nat) : Int)) (by omega) (by omega)
        have w2 := w64 (n := ((s0 % 2 : Nat) : Int)) (by omega) (by omega)
        have w3 := w64 (n := 2 * (k : Int)) (by omega) (by omega)
        have w4 := w64 (n := 2 * (k : Int) + ((s0 % 2 : Nat) : Int)) (by omega) (by omega)
        have hb : (((s0 / 2 : Nat) : Int) == (m : Int)) = decide (s0 / 2 = m) := by rw [Bool.eq_iff_iff]; simp; omega
        (repeat ((first | refine WV_seq_ ?_ | refine WV_block ?_ | refine WV_ops ?_ | refine WV_skip ?_ | refine WV_exit ?_); (try simp only [go_sem, init_env', Nat.reduceEqDiff, Nat.reduceAdd, Nat.reduceMul, reduceIte, Nat.reduceLeDiff, Nat.reduceLT, Nat.reduceBEq, reduceCtorEq, hP, prsC, natsC, g0, g2, hI3, hil, hI, hkl, hol, List.length_map, Int.natCast_nonneg, e1, w1, hb]); (repeat refine qI ?_)))
        by_cases hc : s0 / 2 = m
        · have hix : o.idxOf (s0 / 2) = k := by rw [hc]; exact hgk
          have hset := hset hix
          rw [hix, if_neg (by omega)] at hget
          rw [hix] at harr
          have hcs := cellsG_set pr_two hlk2 j2 0 (by decide) (.int .i64 (2 * (k : Int) + ((s0 % 2 : Nat) : Int))) (arrP o ⟨(s0 : Int), T0⟩) (by
            rw [hget, harr]
            show [CD.int .i64 (2 * (k : Int) + (s0 : Int) % 2), CD.int .i64 T0] = _
            rw [show 2 * (k : Int) + (s0 : Int) % 2 = 2 * (k : Int) + ((s0 % 2 : Nat) : Int) from by omega]
            rfl)
          rw [hset] at hcs
          simp only [Nat.add_zero] at hcs
          rw [decide_eq_true hc]
          (refine WV_cond rfl (fun h => ?_) (fun h => ?_))
          rotate_left
          · simp at h
          (repeat ((first | refine WV_seq_ ?_ | refine WV_block ?_ | refine WV_ops ?_ | refine WV_skip ?_ | refine WV_exit ?_); (try simp only [go_sem, init_env', Nat.reduceEqDiff, Nat.reduceAdd, Nat.reduceMul, reduceIte, Nat.reduceLeDiff, Nat.reduceLT, Nat.reduceBEq, reduceCtorEq, hP, prsC, g2, hI3, hil, List.length_map, Int.natCast_nonneg, e2, w2, w3, w4, hcs, hcl2, hw9]); (repeat refine qI ?_)))
          refine ⟨i + 1, by omega, by omega, ?_⟩
          exact Sub_au
        · have hix : o.idxOf (s0 / 2) ≠ k := by
            intro he
            apply hc
            have h1 := List.getElem_idxOf (x := s0 / 2) (xs := o) (by rw [he]; exact hkl2)
            have h2 := List.getElem_idxOf (x := m) (xs := o) (by rw [hgk]; exact hkl2)
            simp only [he] at h1
            simp only [hgk] at h2
            rw [← h1, h2]
          have hskip := hskip hix
          rw [decide_eq_false hc]
          (refine WV_cond rfl (fun h => ?_) (fun h => ?_))
          · simp at h
          (repeat ((first | refine WV_seq_ ?_ | refine WV_block ?_ | refine WV_ops ?_ | refine WV_skip ?_ | refine WV_exit ?_); (try simp only [go_sem, init_env', Nat.reduceEqDiff, Nat.reduceAdd, Nat.reduceMul, reduceIte, Nat.reduceLeDiff, Nat.reduceLT, Nat.reduceBEq, reduceCtorEq, hP, hw9]); (repeat refine qI ?_)))
          refine ⟨i + 1, by omega, by omega, ?_⟩
          rw [hskip]
          exact Sub_au
      · have h : i = t.pres.length := by simp at h; omega
        subst h
        rw [prsO_next]
        (refine WV_exit ?_; simp only [go_sem, init_env', Nat.reduceEqDiff, Nat.reduceAdd, Nat.reduceMul, reduceIte, Nat.reduceLeDiff, Nat.reduceLT, Nat.reduceBEq, reduceCtorEq])
        (repeat ((first | refine WV_seq_ ?_ | refine WV_block ?_ | refine WV_ops ?_ | refine WV_skip ?_ | refine WV_exit ?_); (try simp only [go_sem, init_env', Nat.reduceEqDiff, Nat.reduceAdd, Nat.reduceMul, reduceIte, Nat.reduceLeDiff, Nat.reduceLT, Nat.reduceBEq, reduceCtorEq, hP, hw8]); (repeat refine qI ?_)))
        refine ⟨k + 1, by omega, by omega, ?_⟩
        exact Sub_au
    have h : k = t.n := by simp at h; omega
    subst h
    (refine WV_exit ?_; simp only [go_sem, init_env', Nat.reduceEqDiff, Nat.reduceAdd, Nat.reduceMul, reduceIte, Nat.reduceLeDiff, Nat.reduceLT, Nat.reduceBEq, reduceCtorEq])
    refine WV_freezeJ 900 (ds := flatG Rec.cds (recsO t o t.n)) (junk := List.replicate j .non) rfl ?_
    simp only [go_sem, init_env', Nat.reduceEqDiff, Nat.reduceAdd, Nat.reduceMul, reduceIte, Nat.reduceLeDiff, Nat.reduceLT, Nat.reduceBEq, reduceCtorEq, hrg, hrf, frz_cellsG]
    refine WV_freezeJ 901 (ds := flatG Pr.cds (prsO t.pres o t.n 0)) (junk := List.replicate j2 .non) rfl ?_
    simp only [go_sem, init_env', Nat.reduceEqDiff, Nat.reduceAdd, Nat.reduceMul, reduceIte, Nat.reduceLeDiff, Nat.reduceLT, Nat.reduceBEq, reduceCtorEq, hpg, hpf, frz_cellsG]
    (repeat ((first | refine WV_seq_ ?_ | refine WV_block ?_ | refine WV_ops ?_ | refine WV_skip ?_ | refine WV_exit ?_); (try simp only [go_sem, init_env', Nat.reduceEqDiff, Nat.reduceAdd, Nat.reduceMul, reduceIte, Nat.reduceLeDiff, Nat.reduceLT, Nat.reduceBEq, reduceCtorEq, hP, ]); (repeat refine qI ?_)))
    (refine WV_ret ?_; simp only [thenQ, inQ, RetQ, RetOk, resAll, resA]; simp only [go_sem, init_env', Nat.reduceEqDiff, Nat.reduceAdd, Nat.reduceMul, reduceIte, Nat.reduceLeDiff, Nat.reduceLT, Nat.reduceBEq, reduceCtorEq, tupA, AV.port, AV.portL, exists_eq_left', ]; (first | exact AVle.of rfl | refine AVle.of ?_ | skip))
end Go.Proofs.Ytkpgpgaojjobgaa

/-
  The least end over all orders: plain.
-/
namespace Go.Proofs.Ytkpgpgaojjobgaa
open Go Go.V

theorem swapL_getD {o : List Nat} {i j : Nat} (hi : i < o.length) (hj : j < o.length) (k : Nat) : (swapL o i j).getD k 0 = if k = j then o.getD i 0 else if k = i then o.getD j 0 else o.getD k 0 := by
  unfold swapL
  rw [getD_setN (by rw [List.length_set]; exact hj), getD_setN hi]
/-- Each order is among those that swapping yields. -/
theorem permsF_all {n : Nat} : ∀ (f : Nat) (o o' : List Nat), f ≤ n → IsOrd n o → IsOrd n o' → (∀ i, i < n - f → o'.getD i 0 = o.getD i 0) → o' ∈ permsF n f o
  | 0, o, o', _, ho, ho', h => by
    have : o' = o := by
      refine List.ext_getElem (by rw [ho.len, ho'.len]) fun i h1 h2 => ?_
      have := h i (by rw [ho'.len] at h1; omega)
      rw [List.getD_eq_getElem?_getD, List.getD_eq_getElem?_getD, List.getElem?_eq_getElem h1, List.getElem?_eq_getElem h2] at this
      exact this
    rw [this]; simp [permsF]
  | f + 1, o, o', hf, ho, ho', h => by
    have hl := ho.len
    have hl' := ho'.len
    have hk : n - (f + 1) < o'.length := by omega
    have hmem : o'[n - (f + 1)] ∈ o := ho.mem (ho'.lt (List.getElem_mem hk))
    obtain ⟨i, hi, he⟩ := List.getElem_of_mem hmem
    have hik : n - (f + 1) ≤ i := by
      rcases Nat.lt_or_ge i (n - (f + 1)) with hlt | hge
      · exfalso
        have h1 := h i hlt
        have hi2 : i < o'.length := by omega
        rw [List.getD_eq_getElem?_getD, List.getD_eq_getElem?_getD, List.getElem?_eq_getElem hi2, List.getElem?_eq_getElem hi] at h1
        simp only [Option.getD_some] at h1
        have hnd := (ho'.nodup_iff.2 List.nodup_range)
        exact List.pairwise_iff_getElem.1 hnd i (n - (f + 1)) hi2 hk hlt (by rw [h1, he])
      · exact hge
    simp only [permsF]
    refine List.mem_flatMap.2 ⟨i - (n - (f + 1)), List.mem_range.2 (by omega), ?_⟩
    rw [show n - (f + 1) + (i - (n - (f + 1))) = i from by omega]
    refine permsF_all f _ o' (by omega) (swap_ord ho (by omega) (by omega)) ho' fun j hj => ?_
    rw [swapL_getD (by omega) hi]
    have eo : o'.getD (n - (f + 1)) 0 = o.getD i 0 := by
      rw [List.getD_eq_getElem?_getD, List.getD_eq_getElem?_getD, List.getElem?_eq_getElem hk, List.getElem?_eq_getElem hi]
      simp only [Option.getD_some, he]
    by_cases e1 : j = i
    · rw [if_pos e1]
      by_cases e2 : j = n - (f + 1)
      · rw [e2, eo, ← e1, e2]
      · omega
    · rw [if_neg e1]
      by_cases e2 : j = n - (f + 1)
      · rw [if_pos e2, e2, eo]
      · rw [if_neg e2]
        exact h j (by omega)
theorem permsS_all {n : Nat} {o : List Nat} (h : IsOrd n o) : o ∈ permsS n := permsF_all n _ o (Nat.le_refl _) (List.Perm.refl _) h fun i hi => by omega

/-- The end is not less than 0; with a press it is 1 or more. -/
theorem end_pos {t : Tray} (ht : TrayOk t) : 0 ≤ (goesS t).end_ ∧ (t.pres ≠ [] → 1 ≤ (goesS t).end_) := by
  have h := (goes_ok ht).inv
  have he := h.end_
  cases hl : (goesS t).plays.getLast? with
  | none =>
    rw [hl] at he
    refine ⟨by rw [he]; exact Int.le_refl _, fun hp => ?_⟩
    exfalso
    obtain ⟨p, l, hpl⟩ := List.exists_cons_of_ne_nil hp
    obtain ⟨j, hj, _⟩ := served_ok (goes_ok ht) (p := p) (by rw [hpl]; simp)
    rw [List.getLast?_eq_none_iff.1 hl] at hj
    simp at hj
  | some x =>
    rw [hl] at he
    simp only at he
    have hx := h.ply x (List.mem_of_getLast? hl)
    have hs := secs_ok ht (s := x.side.toNat) (by omega)
    unfold secsI at he
    omega
theorem endO_nonneg {t : Tray} (ht : TrayOk t) {o : List Nat} (ho : IsOrd t.n o) : 0 ≤ endO t o := (end_pos (arr_ok ht ho)).1
theorem bestG_min {t : Tray} (l : List (List Nat)) (h0 : ∀ o ∈ l, 0 ≤ endO t o) : ((bestG t l).1 = -1 ∧ l = []) ∨ (0 ≤ (bestG t l).1 ∧ ∀ o ∈ l, (bestG t l).1 ≤ endO t o) := by
  suffices h : ∀ (m pre : List (List Nat)), l = pre ++ m → (((bestG t pre).1 = -1 ∧ pre = []) ∨ (0 ≤ (bestG t pre).1 ∧ ∀ o ∈ pre, (bestG t pre).1 ≤ endO t o)) → (((bestG t l).1 = -1 ∧ l = []) ∨ (0 ≤ (bestG t l).1 ∧ ∀ o ∈ l, (bestG t l).1 ≤ endO t o)) from h l [] rfl (.inl ⟨rfl, rfl⟩)
  intro m
  induction m with
  | nil => intro pre hp hh; rw [hp, List.append_nil] at *; exact hh
  | cons a m ih =>
    intro pre hp hh
    refine ih (pre ++ [a]) (by rw [hp]; simp) (.inr ?_)
    have ha := h0 a (by rw [hp]; simp)
    rw [bestG_snoc]
    unfold bestStep
    rcases hh with ⟨h1, h2⟩ | ⟨h1, h2⟩
    · rw [if_pos (.inl (by rw [h1]; decide))]
      refine ⟨ha, fun o ho => ?_⟩
      rw [h2] at ho
      simp only [List.nil_append, List.mem_singleton] at ho
      rw [ho]; exact Int.le_refl _
    · by_cases hc : endO t a < (bestG t pre).1
      · rw [if_pos (.inr hc)]
        refine ⟨ha, fun o ho => ?_⟩
        rcases List.mem_append.1 ho with ho | ho
        · have := h2 o ho; simp only; omega
        · simp only [List.mem_singleton] at ho
          rw [ho]; exact Int.le_refl _
      · rw [if_neg (by omega)]
        refine ⟨h1, fun o ho => ?_⟩
        rcases List.mem_append.1 ho with ho | ho
        · exact h2 o ho
        · simp only [List.mem_singleton] at ho
          rw [ho]; omega
/-- The least end is that of an order, and not above that of any. -/
theorem best_least {t : Tray} (ht : TrayOk t) : (∃ o, IsOrd t.n o ∧ bestS t = (endO t o, some o)) ∧ ∀ o, IsOrd t.n o → (bestS t).1 ≤ endO t o := by
  have h0 : ∀ o ∈ permsS t.n, 0 ≤ endO t o := fun o ho => endO_nonneg ht (permsS_ord ho)
  have hne : permsS t.n ≠ [] := permsF_ne _ _ _
  rcases bestG_min (permsS t.n) h0 with ⟨_, h2⟩ | ⟨h1, h2⟩
  · exact absurd h2 hne
  · refine ⟨?_, fun o ho => h2 o (permsS_all ho)⟩
    rcases bestG_cases t (permsS t.n) with h3 | ⟨o, h3, h4⟩
    · have : (bestG t (permsS t.n)).1 = -1 := by rw [h3]
      omega
    · exact ⟨o, permsS_ord h4, h3⟩
/-- The order that there is. -/
theorem arrT_range {t : Tray} (ht : TrayOk t) : arrT t (List.range t.n) = t := by
  have hl : t.recs.length = t.n := rfl
  have e1 : (List.range t.n).map t.rc = t.recs := by
    refine List.ext_getElem (by simp [hl]) fun i h1 h2 => ?_
    simp [Tray.rc, h2]
  have e3 : ∀ p ∈ t.pres, arrP (List.range t.n) p = (fun p : Pr => p) p := fun p hp => by
    have h := (ht.pres p hp).1
    have hm : p.side.toNat / 2 < (List.range t.n).length := by rw [List.length_range]; omega
    have h2 := (List.nodup_range (n := t.n)).idxOf_getElem (p.side.toNat / 2) hm
    rw [List.getElem_range] at h2
    unfold arrP
    rw [h2]
    obtain ⟨s, x⟩ := p
    simp only at h ⊢
    congr 1
    omega
  have e2 : t.pres.map (arrP (List.range t.n)) = t.pres := (List.map_congr_left e3).trans (List.map_id' _)
  obtain ⟨r, a, w, s, p⟩ := t
  unfold arrT
  rw [e1, e2]
theorem range_ord (n : Nat) : IsOrd n (List.range n) := List.Perm.refl _
theorem ok_of {t : Tray} (ht : TrayOk t) (h : t.pres.length ≤ 12) : t.ok = true := by
  simp only [Tray.ok, Tray.okHead, Bool.and_eq_true, Bool.or_eq_true, beq_iff_eq, decide_eq_true_eq, List.all_eq_true, okRec, okPr, isSide, isTime, within]
  have h1 := ht.n1
  have h2 := ht.n6
  have h3 := ht.at_
  refine ⟨⟨⟨⟨⟨⟨by omega, by omega⟩, ht.way⟩, ht.step⟩, fun r hr => ht.recs r hr⟩, h⟩, fun p hp => ?_⟩
  have := ht.pres p hp
  omega

/-! ### The specification's orders -/
def ordsF (n : Nat) : Nat → List Nat → List (List Nat)
  | 0, o => [o]
  | f + 1, o => (List.range n).flatMap fun k => if o.contains k then [] else ordsF n f (o ++ [k])
theorem ordsF_len (n : Nat) : ∀ (f : Nat) (o : List Nat), (ordsF n f o).length ≤ n ^ f
  | 0, o => Nat.le_refl _
  | f + 1, o => by
    simp only [ordsF]
    rw [List.length_flatMap]
    have : ∀ m, ((List.range m).map fun k => (if o.contains k = true then [] else ordsF n f (o ++ [k])).length).sum ≤ m * n ^ f := by
      intro m
      induction m with
      | zero => simp
      | succ m ih =>
        rw [List.range_succ, List.map_append, List.sum_append, List.map_cons, List.map_nil, List.sum_cons, List.sum_nil, Nat.add_mul, Nat.one_mul]
        have h1 : (if o.contains m = true then [] else ordsF n f (o ++ [m])).length ≤ n ^ f := by
          split
          · exact Nat.zero_le _
          · exact ordsF_len n f _
        omega
    have h := this n
    rw [Nat.pow_succ, Nat.mul_comm]
    exact h
theorem ordsF_ord {n : Nat} : ∀ (f : Nat) (o : List Nat), o.Nodup → (∀ x ∈ o, x < n) → o.length + f = n → ∀ x ∈ ordsF n f o, IsOrd n x
  | 0, o, hn, hl, hf, x, hx => by
    simp only [ordsF, List.mem_singleton] at hx
    subst hx
    have h1 : ((List.range n).map fun k : Nat => (k : Int)).Perm (x.map fun k : Nat => (k : Int)) := by
      refine perm_of_nodup (List.Pairwise.map _ (fun a b (h : a ≠ b) => by show (a : Int) ≠ (b : Int); omega) hn) (fun y hy => ?_) (by simp; omega)
      obtain ⟨k, hk, rfl⟩ := List.mem_map.1 hy
      exact List.mem_map.2 ⟨k, List.mem_range.2 (hl k hk), rfl⟩
    have h2 := h1.map Int.toNat
    rw [List.map_map, List.map_map] at h2
    have e : ∀ l : List Nat, l.map (Int.toNat ∘ fun k : Nat => (k : Int)) = l := fun l => by
      rw [List.map_congr_left (g := id) fun a _ => by simp]; simp
    rw [e, e] at h2
    exact h2.symm
  | f + 1, o, hn, hl, hf, x, hx => by
    simp only [ordsF] at hx
    obtain ⟨k, hk, hx⟩ := List.mem_flatMap.1 hx
    have hk := List.mem_range.1 hk
    split at hx
    · cases hx
    · rename_i hc
      refine ordsF_ord f (o ++ [k]) ?_ (fun y hy => ?_) (by simp; omega) x hx
      · refine List.nodup_append.2 ⟨hn, by simp, fun a ha b hb => ?_⟩
        simp only [List.mem_singleton] at hb
        subst hb
        rintro rfl
        exact hc (List.contains_iff_mem.2 ha)
      · rcases List.mem_append.1 hy with hy | hy
        · exact hl y hy
        · simp only [List.mem_singleton] at hy
          omega
theorem ordsF_all {n : Nat} : ∀ (f : Nat) (o x : List Nat), IsOrd n x → o.length + f = n → x.take o.length = o → x ∈ ordsF n f o
  | 0, o, x, hx, hf, ht => by
    have : x = o := by rw [← ht, List.take_of_length_le (by rw [hx.len]; omega)]
    rw [this]; simp [ordsF]
  | f + 1, o, x, hx, hf, ht => by
    have hl := hx.len
    have hk : o.length < x.length := by omega
    have hnd := hx.nodup_iff.2 List.nodup_range
    simp only [ordsF]
    refine List.mem_flatMap.2 ⟨x[o.length], List.mem_range.2 (hx.lt (List.getElem_mem hk)), ?_⟩
    rw [if_neg]
    · refine ordsF_all f _ x hx (by simp; omega) ?_
      rw [List.length_append, List.length_singleton, List.take_succ_eq_append_getElem hk, ht]
    · intro hc
      have hm := List.contains_iff_mem.1 hc
      have hm2 : x[o.length] ∈ x.take o.length := by rw [ht]; exact hm
      obtain ⟨i, hi, he⟩ := List.getElem_of_mem hm2
      rw [List.length_take] at hi
      rw [List.getElem_take] at he
      exact List.pairwise_iff_getElem.1 hnd i o.length (by omega) hk (by omega) he
def minO (t : Tray) (b : Int) (l : List (List Nat)) : Int := l.foldl (fun b o => min b (endO t o)) b
theorem minO_snoc (t : Tray) (b : Int) (l : List (List Nat)) (o : List Nat) : minO t b (l ++ [o]) = min (minO t b l) (endO t o) := by unfold minO; rw [List.foldl_append]; rfl
theorem minO_take {t : Tray} {b : Int} {l : List (List Nat)} {k : Nat} (h : k < l.length) : minO t b (l.take (k + 1)) = min (minO t b (l.take k)) (endO t l[k]) := by
  rw [List.take_succ_eq_append_getElem h, minO_snoc]
theorem minO_spec (t : Tray) : ∀ (l : List (List Nat)) (b : Int), minO t b l ≤ b ∧ (∀ o ∈ l, minO t b l ≤ endO t o) ∧ (minO t b l = b ∨ ∃ o ∈ l, minO t b l = endO t o)
  | [], b => ⟨Int.le_refl _, fun o h => (by cases h), .inl rfl⟩
  | a :: l, b => by
    obtain ⟨h1, h2, h3⟩ := minO_spec t l (min b (endO t a))
    have e : minO t b (a :: l) = minO t (min b (endO t a)) l := rfl
    rw [e]
    refine ⟨by omega, fun o ho => ?_, ?_⟩
    · rcases List.mem_cons.1 ho with rfl | ho
      · omega
      · exact h2 o ho
    · rcases h3 with h3 | ⟨o, ho, h3⟩
      · by_cases hc : b ≤ endO t a
        · rw [h3]; left; omega
        · rw [h3]; right; exact ⟨a, by simp, by omega⟩
      · exact .inr ⟨o, by simp [ho], h3⟩
/-- Both find the same least end. -/
theorem min_best {t : Tray} (ht : TrayOk t) : minO t (goesS t).end_ (ordsF t.n t.n []) = (bestS t).1 := by
  obtain ⟨⟨o, h1, h2⟩, h3⟩ := best_least ht
  obtain ⟨k1, k2, k3⟩ := minO_spec t (ordsF t.n t.n []) (goesS t).end_
  have hid : endO t (List.range t.n) = (goesS t).end_ := by unfold endO; rw [arrT_range ht]
  have a1 := k2 o (ordsF_all _ _ o h1 (by simp) rfl)
  have a2 := h3 _ (range_ord t.n)
  have a3 : (bestS t).1 = endO t o := by rw [h2]
  rcases k3 with k3 | ⟨x, hx, k3⟩
  · omega
  · have := h3 x (ordsF_ord _ _ (by simp) (by simp) (by simp) x hx)
    omega
end Go.Proofs.Ytkpgpgaojjobgaa

namespace Go.Proofs.Ytkpgpgaojjobgaa
open Go Go.V
@[reducible] def o66_0 : List Ins := [⟨(some 4), .mv (.k (.c (.raw (.slice none 0 0)))), none, true⟩]
@[reducible] def o66_1 : List Ins := [⟨(some 7), .mv (.t 1), none, true⟩,
  ⟨(some 8), .len (.t 7), none, true⟩,
  ⟨(some 9), .mv (.t 0), none, true⟩,
  ⟨(some 10), .bin .eql (.t 8) (.t 9), none, true⟩]
@[reducible] def o66_2 : List Ins := [⟨(some 11), .mv (.t 1), none, true⟩,
  ⟨(some 12), .bsl 58 1 [(.t 11)], none, true⟩,
  ⟨(some 4), .mv (.t 12), none, true⟩]
@[reducible] def v66_3 : VC := (.seq (.ops o66_2) .ret)
@[reducible] def v66_4 : VC := (.cond (.t 10) v66_3 .skip)
@[reducible] def o66_5 : List Ins := [⟨(some 5), .mv (.k (.c (.raw (.slice none 0 0)))), none, true⟩]
@[reducible] def o66_6 : List Ins := [⟨(some 6), .mv (.k (.c (.int .i64 0))), none, true⟩]
@[reducible] def o66_7 : List Ins := [⟨(some 13), .mv (.t 6), none, true⟩,
  ⟨(some 14), .mv (.t 0), none, true⟩,
  ⟨(some 15), .bin .lss (.t 13) (.t 14), none, true⟩]
@[reducible] def v66_8 : VC := (.cond (.t 15) .skip (.exit 0))
@[reducible] def o66_9 : List Ins := [⟨(some 18), .mv (.t 1), none, true⟩,
  ⟨(some 19), .mv (.t 6), none, true⟩,
  ⟨(some 20), .call (.k (.fn 61 [])) [(.t 18), (.t 19)], none, true⟩,
  ⟨(some 21), .un .not (.t 20), none, true⟩]
@[reducible] def o66_10 : List Ins := [⟨(some 22), .mv (.t 5), none, true⟩,
  ⟨(some 23), .mv (.t 0), none, true⟩,
  ⟨(some 24), .bsl 3 1 [], none, true⟩,
  ⟨(some 25), .mv (.t 1), none, true⟩,
  ⟨(some 26), .app 3 1 8 (.t 24) (.t 25), none, true⟩,
  ⟨(some 27), .mv (.t 6), none, true⟩,
  ⟨(some 28), .bsl 3 1 [(.t 27)], none, true⟩,
  ⟨(some 29), .app 3 1 8 (.t 26) (.t 28), none, true⟩,
  ⟨(some 30), .call (.k (.fn 66 [])) [(.t 23), (.t 29)], none, true⟩,
  ⟨(some 31), .app 58 1 24 (.t 22) (.t 30), none, true⟩,
  ⟨(some 5), .mv (.t 31), none, true⟩]
@[reducible] def v66_11 : VC := (.cond (.t 21) (.ops o66_10) .skip)
@[reducible] def v66_12 : VC := (.seq (.ops o66_9) v66_11)
@[reducible] def o66_13 : List Ins := [⟨(some 16), .mv (.t 6), none, true⟩,
  ⟨(some 17), .bin .add (.t 16) (.k (.c (.int .i64 1))), none, true⟩,
  ⟨(some 6), .mv (.t 17), none, true⟩]
@[reducible] def v66_14 : VC := (.seq (.block 1 v66_12) (.ops o66_13))
@[reducible] def v66_15 : VC := (.seq (.seq (.ops o66_7) v66_8) v66_14)
-- K66_1: changed and kept: [6, 5]
@[reducible] def K66_1 : List Nat := [0, 1]
@[reducible] def v66_16 : VC := (.loop v66_15)
@[reducible] def v66_17 : VC := (.block 0 v66_16)
@[reducible] def o66_18 : List Ins := [⟨(some 32), .mv (.t 5), none, true⟩,
  ⟨(some 4), .mv (.t 32), none, true⟩]
@[reducible] def v66_19 : VC := (.seq (.ops o66_18) .ret)
@[reducible] def v66_20 : VC := (.seq (.seq (.ops o66_6) v66_17) v66_19)
@[reducible] def v66_21 : VC := (.seq (.ops o66_5) v66_20)
@[reducible] def v66_22 : VC := (.seq (.seq (.ops o66_1) v66_4) v66_21)
def ir66 : FC := ⟨2, 33, [.t 4], (.seq (.ops o66_0) v66_22)⟩
@[reducible] def o44_0 : List Ins := [⟨(some 1), .box 5 (.t 0), none, true⟩,
  ⟨(some 2), .mv (.k (.c (.int .i64 0))), none, true⟩,
  ⟨(some 3), .mv (.k (.c (.int .i64 0))), none, true⟩]
@[reducible] def o44_1 : List Ins := [⟨(some 9), .ld false 5 (.t 1), none, true⟩,
  ⟨(some 10), .call (.k (.fn 46 [])) [(.t 9)], none, true⟩,
  ⟨(some 8), .mv (.t 10), none, true⟩,
  ⟨(some 11), .ext (.t 8) 0, none, true⟩,
  ⟨(some 12), .ext (.t 8) 1, none, true⟩,
  ⟨(some 4), .mv (.t 11), none, true⟩,
  ⟨(some 5), .mv (.t 12), none, true⟩]
@[reducible] def o44_2 : List Ins := [⟨(some 13), .mv (.t 5), none, true⟩,
  ⟨(some 14), .bin .neq (.t 13) (.k (.c (.int .i64 0))), none, true⟩]
@[reducible] def o44_3 : List Ins := [⟨(some 15), .mv (.t 5), none, true⟩,
  ⟨(some 2), .mv (.k (.c (.int .i64 0))), none, true⟩,
  ⟨(some 3), .mv (.t 15), none, true⟩]
@[reducible] def v44_4 : VC := (.seq (.ops o44_3) .ret)
@[reducible] def v44_5 : VC := (.cond (.t 14) v44_4 .skip)
@[reducible] def o44_6 : List Ins := [⟨(some 16), .fa 0 (.t 1), none, true⟩,
  ⟨(some 17), .ld true 1 (.t 16), none, true⟩,
  ⟨(some 18), .len (.t 17), none, true⟩,
  ⟨(some 19), .call (.k (.fn 66 [])) [(.t 18), (.k (.c (.raw (.slice none 0 0))))], none, true⟩,
  ⟨(some 6), .mv (.t 19), none, true⟩]
@[reducible] def o44_7 : List Ins := [⟨(some 7), .mv (.k (.c (.int .i64 0))), none, true⟩]
@[reducible] def o44_8 : List Ins := [⟨(some 20), .mv (.t 7), none, true⟩,
  ⟨(some 21), .mv (.t 6), none, true⟩,
  ⟨(some 22), .len (.t 21), none, true⟩,
  ⟨(some 23), .bin .lss (.t 20) (.t 22), none, true⟩]
@[reducible] def v44_9 : VC := (.cond (.t 23) .skip (.exit 0))
@[reducible] def o44_10 : List Ins := [⟨(some 26), .mv (.t 4), none, false⟩,
  ⟨(some 27), .ld false 5 (.t 1), none, false⟩,
  ⟨(some 28), .mv (.t 6), none, false⟩,
  ⟨(some 29), .mv (.t 7), none, false⟩,
  ⟨(some 30), .ia 1 (.t 28) (.t 29), none, false⟩,
  ⟨(some 31), .ld true 1 (.t 30), none, false⟩,
  ⟨(some 32), .call (.k (.fn 39 [])) [(.t 27), (.t 31)], none, false⟩,
  ⟨(some 33), .call (.k (.fn 67 [])) [(.t 32)], none, false⟩,
  ⟨(some 34), .mm false (.t 26) (.t 33), none, true⟩,
  ⟨(some 4), .mv (.t 34), none, true⟩]
@[reducible] def o44_11 : List Ins := [⟨(some 24), .mv (.t 7), none, true⟩,
  ⟨(some 25), .bin .add (.t 24) (.k (.c (.int .i64 1))), none, true⟩,
  ⟨(some 7), .mv (.t 25), none, true⟩]
@[reducible] def v44_12 : VC := (.seq (.block 1 (.ops o44_10)) (.ops o44_11))
@[reducible] def v44_13 : VC := (.seq (.seq (.ops o44_8) v44_9) v44_12)
-- K44_1: changed and kept: [7, 4]
@[reducible] def K44_1 : List Nat := [1, 6]
@[reducible] def v44_14 : VC := (.loop v44_13)
@[reducible] def v44_15 : VC := (.block 0 v44_14)
@[reducible] def o44_16 : List Ins := [⟨(some 35), .mv (.t 4), none, true⟩,
  ⟨(some 2), .mv (.t 35), none, true⟩,
  ⟨(some 3), .mv (.k (.c (.int .i64 0))), none, true⟩]
@[reducible] def v44_17 : VC := (.seq (.ops o44_16) .ret)
@[reducible] def v44_18 : VC := (.seq (.seq (.ops o44_7) v44_15) v44_17)
@[reducible] def v44_19 : VC := (.seq (.ops o44_6) v44_18)
@[reducible] def v44_20 : VC := (.seq (.seq (.ops o44_2) v44_5) v44_19)
@[reducible] def v44_21 : VC := (.seq (.ops o44_1) v44_20)
def ir44 : FC := ⟨1, 36, [.t 2, .t 3], (.seq (.ops o44_0) v44_21)⟩
@[reducible] def o12_0 : List Ins := [⟨(some 1), .box 5 (.t 0), none, true⟩,
  ⟨(some 2), .mv (.k (.c (.bool false))), none, true⟩]
@[reducible] def o12_1 : List Ins := [⟨(some 12), .ld false 5 (.t 1), none, true⟩,
  ⟨(some 13), .call (.k (.fn 28 [])) [(.t 12)], none, true⟩,
  ⟨(some 14), .mv (.t 13), none, true⟩,
  ⟨(some 15), .fa 0 (.t 1), (some (14, false)), true⟩,
  ⟨(some 16), .ld true 1 (.t 15), (some (14, false)), true⟩,
  ⟨(some 17), .len (.t 16), (some (14, false)), true⟩,
  ⟨(some 18), .bin .gtr (.t 17) (.k (.c (.int .i64 4))), (some (14, false)), true⟩,
  ⟨(some 19), .mv (.t 18), (some (14, false)), true⟩,
  ⟨(some 20), .ld false 5 (.t 1), (some (19, true)), true⟩,
  ⟨(some 21), .call (.k (.fn 41 [])) [(.t 20)], (some (19, true)), true⟩,
  ⟨(some 22), .bin .eql (.t 21) (.k (.c (.int .i64 0))), (some (19, true)), true⟩,
  ⟨(some 23), .pick (.t 19) (.t 22) (.k (.c (.bool false))), (some (14, false)), true⟩,
  ⟨(some 24), .pick (.t 14) (.k (.c (.bool true))) (.t 23), none, true⟩]
@[reducible] def o12_2 : List Ins := [⟨(some 25), .call (.k (.fn 19 [])) [], none, true⟩,
  ⟨(some 2), .mv (.t 25), none, true⟩]
@[reducible] def v12_3 : VC := (.seq (.ops o12_2) .ret)
@[reducible] def v12_4 : VC := (.cond (.t 24) v12_3 .skip)
@[reducible] def o12_5 : List Ins := [⟨(some 26), .ld false 5 (.t 1), none, true⟩,
  ⟨(some 27), .call (.k (.fn 20 [])) [(.t 26)], none, true⟩,
  ⟨(some 3), .alloc [(.c (.raw (.slice none 0 0))), (.c (.int .i64 0)), (.c (.int .i64 0)), (.c (.int .i64 0)), (.c (.raw (.slice none 0 0)))], none, true⟩,
  ⟨none, .st 5 (.t 3) (.t 27), none, true⟩]
@[reducible] def o12_6 : List Ins := [⟨(some 29), .ld false 5 (.t 3), none, true⟩,
  ⟨(some 30), .call (.k (.fn 37 [])) [(.t 29)], none, true⟩,
  ⟨(some 28), .mv (.t 30), none, true⟩,
  ⟨(some 31), .ext (.t 28) 0, none, true⟩,
  ⟨(some 32), .ext (.t 28) 1, none, true⟩,
  ⟨(some 4), .mv (.t 31), none, true⟩,
  ⟨(some 5), .mv (.t 32), none, true⟩]
@[reducible] def o12_7 : List Ins := [⟨(some 34), .ld false 5 (.t 1), none, true⟩,
  ⟨(some 35), .call (.k (.fn 44 [])) [(.t 34)], none, true⟩,
  ⟨(some 33), .mv (.t 35), none, true⟩,
  ⟨(some 36), .ext (.t 33) 0, none, true⟩,
  ⟨(some 37), .ext (.t 33) 1, none, true⟩,
  ⟨(some 6), .mv (.t 36), none, true⟩,
  ⟨(some 7), .mv (.t 37), none, true⟩]
@[reducible] def o12_8 : List Ins := [⟨(some 39), .ld false 5 (.t 3), none, true⟩,
  ⟨(some 40), .call (.k (.fn 45 [])) [(.t 39)], none, true⟩,
  ⟨(some 38), .mv (.t 40), none, true⟩,
  ⟨(some 41), .ext (.t 38) 0, none, true⟩,
  ⟨(some 42), .ext (.t 38) 1, none, true⟩,
  ⟨(some 8), .mv (.t 41), none, true⟩,
  ⟨(some 9), .mv (.t 42), none, true⟩]
@[reducible] def o12_9 : List Ins := [⟨(some 43), .mv (.t 4), none, true⟩,
  ⟨(some 44), .mv (.t 6), none, true⟩,
  ⟨(some 45), .bin .neq (.t 43) (.t 44), none, true⟩,
  ⟨(some 46), .mv (.t 45), none, true⟩,
  ⟨(some 47), .mv (.t 5), (some (46, false)), true⟩,
  ⟨(some 48), .mv (.t 7), (some (46, false)), true⟩,
  ⟨(some 49), .bin .neq (.t 47) (.t 48), (some (46, false)), true⟩,
  ⟨(some 50), .pick (.t 46) (.k (.c (.bool true))) (.t 49), none, true⟩,
  ⟨(some 51), .mv (.t 50), none, true⟩,
  ⟨(some 52), .mv (.t 9), (some (51, false)), true⟩,
  ⟨(some 53), .mv (.t 7), (some (51, false)), true⟩,
  ⟨(some 54), .bin .neq (.t 52) (.t 53), (some (51, false)), true⟩,
  ⟨(some 55), .pick (.t 51) (.k (.c (.bool true))) (.t 54), none, true⟩,
  ⟨(some 56), .mv (.t 55), none, true⟩,
  ⟨(some 57), .mv (.t 8), (some (56, false)), true⟩,
  ⟨(some 58), .len (.t 57), (some (56, false)), true⟩,
  ⟨(some 59), .bin .gtr (.t 58) (.k (.c (.int .i64 40))), (some (56, false)), true⟩,
  ⟨(some 60), .pick (.t 56) (.k (.c (.bool true))) (.t 59), none, true⟩,
  ⟨(some 61), .mv (.t 60), none, true⟩,
  ⟨(some 62), .ld false 5 (.t 3), (some (61, false)), true⟩,
  ⟨(some 63), .ld false 5 (.t 1), (some (61, false)), true⟩,
  ⟨(some 64), .call (.k (.fn 30 [])) [(.t 62), (.t 63)], (some (61, false)), true⟩,
  ⟨(some 65), .un .not (.t 64), (some (61, false)), true⟩,
  ⟨(some 66), .pick (.t 61) (.k (.c (.bool true))) (.t 65), none, true⟩]
@[reducible] def o12_10 : List Ins := [⟨(some 2), .mv (.k (.c (.bool false))), none, true⟩]
@[reducible] def v12_11 : VC := (.seq (.ops o12_10) .ret)
@[reducible] def v12_12 : VC := (.cond (.t 66) v12_11 .skip)
@[reducible] def o12_13 : List Ins := [⟨(some 67), .mv (.t 7), none, true⟩,
  ⟨(some 68), .bin .neq (.t 67) (.k (.c (.int .i64 0))), none, true⟩]
@[reducible] def o12_14 : List Ins := [⟨(some 69), .mv (.t 8), none, true⟩,
  ⟨(some 70), .len (.t 69), none, true⟩,
  ⟨(some 71), .bin .eql (.t 70) (.k (.c (.int .i64 0))), none, true⟩,
  ⟨(some 72), .mv (.t 71), none, true⟩,
  ⟨(some 73), .call (.k (.fn 19 [])) [], (some (72, true)), true⟩,
  ⟨(some 74), .pick (.t 72) (.t 73) (.k (.c (.bool false))), none, true⟩,
  ⟨(some 2), .mv (.t 74), none, true⟩]
@[reducible] def v12_15 : VC := (.seq (.ops o12_14) .ret)
@[reducible] def v12_16 : VC := (.cond (.t 68) v12_15 .skip)
@[reducible] def o12_17 : List Ins := [⟨(some 75), .ld false 5 (.t 1), none, true⟩,
  ⟨(some 76), .mv (.t 8), none, true⟩,
  ⟨(some 77), .call (.k (.fn 36 [])) [(.t 75), (.t 76)], none, true⟩,
  ⟨(some 78), .un .not (.t 77), none, true⟩]
@[reducible] def o12_18 : List Ins := [⟨(some 2), .mv (.k (.c (.bool false))), none, true⟩]
@[reducible] def v12_19 : VC := (.seq (.ops o12_18) .ret)
@[reducible] def v12_20 : VC := (.cond (.t 78) v12_19 .skip)
@[reducible] def o12_21 : List Ins := [⟨(some 80), .ld false 5 (.t 1), none, true⟩,
  ⟨(some 81), .mv (.t 8), none, true⟩,
  ⟨(some 82), .call (.k (.fn 39 [])) [(.t 80), (.t 81)], none, true⟩,
  ⟨(some 83), .call (.k (.fn 46 [])) [(.t 82)], none, true⟩,
  ⟨(some 79), .mv (.t 83), none, true⟩,
  ⟨(some 84), .ext (.t 79) 0, none, true⟩,
  ⟨(some 85), .ext (.t 79) 1, none, true⟩,
  ⟨(some 10), .mv (.t 84), none, true⟩,
  ⟨(some 11), .mv (.t 85), none, true⟩]
@[reducible] def o12_22 : List Ins := [⟨(some 86), .mv (.t 11), none, true⟩,
  ⟨(some 87), .bin .eql (.t 86) (.k (.c (.int .i64 0))), none, true⟩,
  ⟨(some 88), .mv (.t 87), none, true⟩,
  ⟨(some 89), .mv (.t 10), (some (88, true)), true⟩,
  ⟨(some 90), .mv (.t 6), (some (88, true)), true⟩,
  ⟨(some 91), .bin .eql (.t 89) (.t 90), (some (88, true)), true⟩,
  ⟨(some 92), .pick (.t 88) (.t 91) (.k (.c (.bool false))), none, true⟩,
  ⟨(some 93), .mv (.t 92), none, true⟩,
  ⟨(some 94), .call (.k (.fn 19 [])) [], (some (93, true)), true⟩,
  ⟨(some 95), .pick (.t 93) (.t 94) (.k (.c (.bool false))), none, true⟩,
  ⟨(some 2), .mv (.t 95), none, true⟩]
@[reducible] def v12_23 : VC := (.seq (.ops o12_22) .ret)
@[reducible] def v12_24 : VC := (.seq (.ops o12_21) v12_23)
@[reducible] def v12_25 : VC := (.seq (.seq (.ops o12_17) v12_20) v12_24)
@[reducible] def v12_26 : VC := (.seq (.seq (.ops o12_13) v12_16) v12_25)
@[reducible] def v12_27 : VC := (.seq (.seq (.ops o12_9) v12_12) v12_26)
@[reducible] def v12_28 : VC := (.seq (.ops o12_8) v12_27)
@[reducible] def v12_29 : VC := (.seq (.ops o12_7) v12_28)
@[reducible] def v12_30 : VC := (.seq (.ops o12_6) v12_29)
@[reducible] def v12_31 : VC := (.seq (.ops o12_5) v12_30)
@[reducible] def v12_32 : VC := (.seq (.seq (.ops o12_1) v12_4) v12_31)
def ir12 : FC := ⟨1, 96, [.t 2], (.seq (.ops o12_0) v12_32)⟩
theorem c66 : compM Try.prog [] 66 = some ir66 := by kernel_rfl
theorem c44 : compM Try.prog [] 44 = some ir44 := by kernel_rfl
theorem c12 : compM Try.prog [] 12 = some ir12 := by kernel_rfl



def lcd (o : List Nat) : List CD := [natsC o]
theorem lcds_one (l : List (List Nat)) : ((l.map lcd).all fun e => e.length == 1) = true := by
  rw [List.all_eq_true]; intro e he; obtain ⟨p, _, rfl⟩ := List.mem_map.1 he; rfl
/-- The orders that begin with one of the first numbers. -/
def ordsT (n f : Nat) (o : List Nat) (k : Nat) : List (List Nat) := (List.range k).flatMap fun j => if o.contains j then [] else ordsF n f (o ++ [j])
theorem ordsT_succ (n f : Nat) (o : List Nat) (k : Nat) : ordsT n f o (k + 1) = ordsT n f o k ++ if o.contains k then [] else ordsF n f (o ++ [k]) := by
  unfold ordsT; rw [List.range_succ, List.flatMap_append]; simp
theorem ordsT_len {n : Nat} (hn : n ≤ 4) {f : Nat} (hf : f ≤ 4) (o : List Nat) : ∀ k, (ordsT n f o k).length ≤ k * 256
  | 0 => Nat.zero_le _
  | k + 1 => by
    have h1 := ordsT_len hn hf o k
    rw [ordsT_succ, List.length_append]
    have h2 : (if o.contains k = true then [] else ordsF n f (o ++ [k])).length ≤ 256 := by
      split
      · exact Nat.zero_le _
      · have h3 := ordsF_len n f (o ++ [k])
        have h4 : n ^ f ≤ 4 ^ 4 := Nat.le_trans (Nat.pow_le_pow_left hn f) (Nat.pow_le_pow_right (by omega) hf)
        omega
    omega
set_option maxRecDepth 20000 in
set_option maxHeartbeats 4000000 in
theorem orders66 {n : Nat} (hn : n ≤ 4) : ∀ (f : Nat) (o : List Nat), o.length + f = n → FSpec Try.prog 66 [iv n, .c (.sl 1 (o.map ncd))] (.c (.sl 1 ((ordsF n f o).map lcd)))
  | 0, o, hf => by
    have hb : ((o.length : Int) == (n : Int)) = true := by simp; omega
    refine FSpec_of c66 (Nat.le_refl _) (by decide) fun C hP hN hC hL => ?_
    simp only [ir66]
    (repeat ((first | refine WV_seq_ ?_ | refine WV_block ?_ | refine WV_ops ?_ | refine WV_skip ?_ | refine WV_exit ?_); (try simp only [go_sem, init_env', Nat.reduceEqDiff, Nat.reduceAdd, Nat.reduceMul, reduceIte, Nat.reduceLeDiff, Nat.reduceLT, Nat.reduceBEq, reduceCtorEq, hP, List.length_map, hb]); (repeat refine qI ?_)))
    (refine WV_cond rfl (fun h => ?_) (fun h => ?_))
    · (repeat ((first | refine WV_seq_ ?_ | refine WV_block ?_ | refine WV_ops ?_ | refine WV_skip ?_ | refine WV_exit ?_); (try simp only [go_sem, init_env', Nat.reduceEqDiff, Nat.reduceAdd, Nat.reduceMul, reduceIte, Nat.reduceLeDiff, Nat.reduceLT, Nat.reduceBEq, reduceCtorEq, hP, ]); (repeat refine qI ?_)))
      (refine WV_ret ?_; simp only [thenQ, inQ, RetQ, RetOk, resAll, resA]; simp only [go_sem, init_env', Nat.reduceEqDiff, Nat.reduceAdd, Nat.reduceMul, reduceIte, Nat.reduceLeDiff, Nat.reduceLT, Nat.reduceBEq, reduceCtorEq, tupA, AV.port, AV.portL, exists_eq_left', ]; (first | exact AVle.of rfl | refine AVle.of ?_ | skip))
    · simp at h
  | f + 1, o, hf => by
    have hmax : maxLen = 9223372036854775807 := rfl
    have ih := fun k : Nat => orders66 hn f (o ++ [k]) (by simp; omega)
    have hb : ((o.length : Int) == (n : Int)) = false := by simp; omega
    have hfin : ordsF n (f + 1) o = ordsT n f o n := rfl
    have hoc : o.map ncd = (o.map fun k : Nat => (k : Int)).map icd := by rw [List.map_map]; rfl
    have hin := fun k : Nat => in61 (o.map fun k : Nat => (k : Int)) (k : Int) (by simp; omega)
    have hct : ∀ k : Nat, (o.map fun k : Nat => (k : Int)).contains (k : Int) = o.contains k := fun k => by
      rw [Bool.eq_iff_iff, List.contains_iff_mem, List.contains_iff_mem, List.mem_map]
      exact ⟨fun ⟨a, h1, h2⟩ => by rw [show k = a from by omega]; exact h1, fun h => ⟨k, h, rfl⟩⟩
    rw [hfin]
    refine FSpec_of c66 (Nat.le_refl _) (by decide) fun C hP hN hC hL => ?_
    simp only [ir66]
    (repeat ((first | refine WV_seq_ ?_ | refine WV_block ?_ | refine WV_ops ?_ | refine WV_skip ?_ | refine WV_exit ?_); (try simp only [go_sem, init_env', Nat.reduceEqDiff, Nat.reduceAdd, Nat.reduceMul, reduceIte, Nat.reduceLeDiff, Nat.reduceLT, Nat.reduceBEq, reduceCtorEq, hP, List.length_map, hb]); (repeat refine qI ?_)))
    (refine WV_cond rfl (fun h => ?_) (fun h => ?_))
    · simp at h
    (repeat ((first | refine WV_seq_ ?_ | refine WV_block ?_ | refine WV_ops ?_ | refine WV_skip ?_ | refine WV_exit ?_); (try simp only [go_sem, init_env', Nat.reduceEqDiff, Nat.reduceAdd, Nat.reduceMul, reduceIte, Nat.reduceLeDiff, Nat.reduceLT, Nat.reduceBEq, reduceCtorEq, hP, ]); (repeat refine qI ?_)))
    refine WV_nilslot 5 905 58 1 (by decide) (by decide) rfl rfl ?_
    simp only [go_sem, init_env', Nat.reduceEqDiff, Nat.reduceAdd, Nat.reduceMul, reduceIte, Nat.reduceLeDiff, Nat.reduceLT, Nat.reduceBEq, reduceCtorEq]
    refine WV_loopK K66_1 [24, 26, 28, 29, 31, 905] (fun k : Nat => k ≤ n) (fun k => n - k) (fun k => [(6, iv k), (5, .gr 905)]) (fun k => [(905, .grow 58 1 ((ordsT n f o k).map lcd))]) 0 (Nat.zero_le _) ?_ ?_
    · (refine Sub_of (by simp only [go_sem, init_env', Nat.reduceEqDiff, Nat.reduceAdd, Nat.reduceMul, reduceIte, Nat.reduceLeDiff, Nat.reduceLT, Nat.reduceBEq, reduceCtorEq]; ((repeat' (first | exact EnvLe_e0 _ _ | refine EnvLe_upd ?_ ?_)) <;> ((try simp only [upd_app, e0_app, o0_app, Nat.reduceEqDiff, reduceIte]); first | exact AWk.refl _ _ | exact AWk.int (by omega) | exact AWk.int (by rw [w64 (by omega) (by omega)]; omega) | exact AWk.grow rfl | exact AWk.nil _ | exact AWk.of (by simp [ordsT])))) (by simp only [go_sem, init_env', Nat.reduceEqDiff, Nat.reduceAdd, Nat.reduceMul, reduceIte, Nat.reduceLeDiff, Nat.reduceLT, Nat.reduceBEq, reduceCtorEq]; (first | ((repeat' (first | exact ObjLe_o0 _ | exact ObjLe.rfl' _ | refine ObjLe_same ?_ | refine ObjLe_upd ?_ ?_ | refine ObjLe_new rfl ?_)) <;> rfl) | (refine ObjLe_X ?_; (repeat' (first | exact ObjLeX_o0 _ _ | refine ObjLeX_skip rfl ?_ | refine ObjLeX_upd ?_ ?_)) <;> rfl))))
    intro k hk
    simp only [go_sem, init_env', Nat.reduceEqDiff, Nat.reduceAdd, Nat.reduceMul, reduceIte, Nat.reduceLeDiff, Nat.reduceLT, Nat.reduceBEq, reduceCtorEq]
    (repeat ((first | refine WV_seq_ ?_ | refine WV_block ?_ | refine WV_ops ?_ | refine WV_skip ?_ | refine WV_exit ?_); (try simp only [go_sem, init_env', Nat.reduceEqDiff, Nat.reduceAdd, Nat.reduceMul, reduceIte, Nat.reduceLeDiff, Nat.reduceLT, Nat.reduceBEq, reduceCtorEq, hP, ]); (repeat refine qI ?_)))
    (refine WV_cond rfl (fun h => ?_) (fun h => ?_))
    · have hkl : k < n := by simpa using h
      have hw2 := w64 (n := (k : Int) + 1) (by omega) (by omega)
      have hst := ordsT_succ n f o k
      have hl := ordsT_len hn (f := f) (by omega) o k
      have hl2 := ordsF_len n f (o ++ [k])
      have hl3 : n ^ f ≤ 4 ^ 4 := Nat.le_trans (Nat.pow_le_pow_left hn f) (Nat.pow_le_pow_right (by omega) (by omega))
      have hl4 : (4 : Nat) ^ 4 = 256 := rfl
      have hin := hin k
      rw [hct, ← hoc] at hin
      have ih := ih k
      have e8 : (o ++ [k]).map ncd = o.map ncd ++ [[CD.int .i64 (k : Nat)]] := by simp [ncd]
      rw [e8] at ih
      generalize ordsT n f o k = L at *
      generalize ordsF n f (o ++ [k]) = M at *
      (repeat ((first | refine WV_seq_ ?_ | refine WV_block ?_ | refine WV_ops ?_ | refine WV_skip ?_ | refine WV_exit ?_); (try simp only [go_sem, init_env', Nat.reduceEqDiff, Nat.reduceAdd, Nat.reduceMul, reduceIte, Nat.reduceLeDiff, Nat.reduceLT, Nat.reduceBEq, reduceCtorEq, hP, ]); (repeat refine qI ?_)))
      (refine AS_pure (hin) rfl rfl rfl rfl rfl ?_; simp only [go_sem, init_env', Nat.reduceEqDiff, Nat.reduceAdd, Nat.reduceMul, reduceIte, Nat.reduceLeDiff, Nat.reduceLT, Nat.reduceBEq, reduceCtorEq, hP, ]; (repeat refine qI ?_); (repeat ((first | refine WV_seq_ ?_ | refine WV_block ?_ | refine WV_ops ?_ | refine WV_skip ?_ | refine WV_exit ?_); (try simp only [go_sem, init_env', Nat.reduceEqDiff, Nat.reduceAdd, Nat.reduceMul, reduceIte, Nat.reduceLeDiff, Nat.reduceLT, Nat.reduceBEq, reduceCtorEq, hP, ]); (repeat refine qI ?_))))
      cases hc : o.contains k
      · rw [hc] at hst
        simp only [Bool.false_eq_true, if_false] at hst
        (refine WV_cond rfl (fun h => ?_) (fun h => ?_))
        rotate_left
        · simp at h
        (repeat ((first | refine WV_seq_ ?_ | refine WV_block ?_ | refine WV_ops ?_ | refine WV_skip ?_ | refine WV_exit ?_); (try simp only [go_sem, init_env', Nat.reduceEqDiff, Nat.reduceAdd, Nat.reduceMul, reduceIte, Nat.reduceLeDiff, Nat.reduceLT, Nat.reduceBEq, reduceCtorEq, hP, List.length_map, List.nil_append, List.length_nil, ncds_one, List.length_append, List.length_cons]); (repeat refine qI ?_)))
        (refine AS_pure (ih) rfl rfl rfl rfl rfl ?_; simp only [go_sem, init_env', Nat.reduceEqDiff, Nat.reduceAdd, Nat.reduceMul, reduceIte, Nat.reduceLeDiff, Nat.reduceLT, Nat.reduceBEq, reduceCtorEq, hP, List.length_map, lcds_one]; (repeat refine qI ?_))
        refine WV_move' 31 905 (by decide) (by decide) rfl ?_
        simp only [go_sem, init_env', Nat.reduceEqDiff, Nat.reduceAdd, Nat.reduceMul, reduceIte, Nat.reduceLeDiff, Nat.reduceLT, Nat.reduceBEq, reduceCtorEq]
        rw [← List.map_append, ← hst]
        (repeat ((first | refine WV_seq_ ?_ | refine WV_block ?_ | refine WV_ops ?_ | refine WV_skip ?_ | refine WV_exit ?_); (try simp only [go_sem, init_env', Nat.reduceEqDiff, Nat.reduceAdd, Nat.reduceMul, reduceIte, Nat.reduceLeDiff, Nat.reduceLT, Nat.reduceBEq, reduceCtorEq, hP, hw2]); (repeat refine qI ?_)))
        refine ⟨k + 1, by omega, by omega, ?_⟩
        exact Sub_au
      · rw [hc] at hst
        simp only [if_true, List.append_nil] at hst
        (refine WV_cond rfl (fun h => ?_) (fun h => ?_))
        · simp at h
        (repeat ((first | refine WV_seq_ ?_ | refine WV_block ?_ | refine WV_ops ?_ | refine WV_skip ?_ | refine WV_exit ?_); (try simp only [go_sem, init_env', Nat.reduceEqDiff, Nat.reduceAdd, Nat.reduceMul, reduceIte, Nat.reduceLeDiff, Nat.reduceLT, Nat.reduceBEq, reduceCtorEq, hP, hw2]); (repeat refine qI ?_)))
        refine ⟨k + 1, by omega, by omega, ?_⟩
        rw [hst]
        exact Sub_au
    · have h : k = n := by simp at h; omega
      subst h
      (refine WV_exit ?_; simp only [go_sem, init_env', Nat.reduceEqDiff, Nat.reduceAdd, Nat.reduceMul, reduceIte, Nat.reduceLeDiff, Nat.reduceLT, Nat.reduceBEq, reduceCtorEq])
      (repeat ((first | refine WV_seq_ ?_ | refine WV_block ?_ | refine WV_ops ?_ | refine WV_skip ?_ | refine WV_exit ?_); (try simp only [go_sem, init_env', Nat.reduceEqDiff, Nat.reduceAdd, Nat.reduceMul, reduceIte, Nat.reduceLeDiff, Nat.reduceLT, Nat.reduceBEq, reduceCtorEq, hP, ]); (repeat refine qI ?_)))
      (refine WV_ret ?_; simp only [thenQ, inQ, RetQ, RetOk, resAll, resA]; simp only [go_sem, init_env', Nat.reduceEqDiff, Nat.reduceAdd, Nat.reduceMul, reduceIte, Nat.reduceLeDiff, Nat.reduceLT, Nat.reduceBEq, reduceCtorEq, tupA, AV.port, AV.portL, exists_eq_left', ]; (first | exact AVle.of rfl | refine AVle.of ?_ | skip))
set_option maxHeartbeats 4000000 in
theorem soonest44 (t : Tray) (h4 : t.ok = true → t.n ≤ 4) : FSpec Try.prog 44 [t.av] (.tup [iv (soonR t).1, iv (soonR t).2]) := by
  have hend := end46 t
  unfold soonR
  by_cases h0 : pressedE t = 0
  rotate_left
  · rw [if_neg h0]
    rw [show endR t = (0, pressedE t) by unfold endR; rw [if_neg h0]] at hend
    have hb : (pressedE t != 0) = true := by simpa using h0
    generalize pressedE t = E0 at *
    refine FSpec_of c44 (Nat.le_refl _) (by decide) fun C hP hN hC hL => ?_
    simp only [ir44, Tray.av]
    (repeat ((first | refine WV_seq_ ?_ | refine WV_block ?_ | refine WV_ops ?_ | refine WV_skip ?_ | refine WV_exit ?_); (try simp only [go_sem, init_env', Nat.reduceEqDiff, Nat.reduceAdd, Nat.reduceMul, reduceIte, Nat.reduceLeDiff, Nat.reduceLT, Nat.reduceBEq, reduceCtorEq, hP, ]); (repeat refine qI ?_)))
    (refine AS_pure (hend) rfl rfl rfl rfl rfl ?_; simp only [go_sem, init_env', Nat.reduceEqDiff, Nat.reduceAdd, Nat.reduceMul, reduceIte, Nat.reduceLeDiff, Nat.reduceLT, Nat.reduceBEq, reduceCtorEq, hP, Tray.av, hb]; (repeat refine qI ?_); (repeat ((first | refine WV_seq_ ?_ | refine WV_block ?_ | refine WV_ops ?_ | refine WV_skip ?_ | refine WV_exit ?_); (try simp only [go_sem, init_env', Nat.reduceEqDiff, Nat.reduceAdd, Nat.reduceMul, reduceIte, Nat.reduceLeDiff, Nat.reduceLT, Nat.reduceBEq, reduceCtorEq, hP, Tray.av, hb]); (repeat refine qI ?_))))
    (refine WV_cond rfl (fun h => ?_) (fun h => ?_))
    · (repeat ((first | refine WV_seq_ ?_ | refine WV_block ?_ | refine WV_ops ?_ | refine WV_skip ?_ | refine WV_exit ?_); (try simp only [go_sem, init_env', Nat.reduceEqDiff, Nat.reduceAdd, Nat.reduceMul, reduceIte, Nat.reduceLeDiff, Nat.reduceLT, Nat.reduceBEq, reduceCtorEq, hP, ]); (repeat refine qI ?_)))
      (refine WV_ret ?_; simp only [thenQ, inQ, RetQ, RetOk, resAll, resA]; simp only [go_sem, init_env', Nat.reduceEqDiff, Nat.reduceAdd, Nat.reduceMul, reduceIte, Nat.reduceLeDiff, Nat.reduceLT, Nat.reduceBEq, reduceCtorEq, tupA, AV.port, AV.portL, exists_eq_left', ]; (first | exact AVle.of rfl | refine AVle.of ?_ | skip))
    · simp at h
  rw [if_pos h0]
  obtain ⟨hok, hp0⟩ := pressed_zero h0
  have ht := (Tray.ok_spec hok).1
  have hn4 := h4 hok
  have hrl : t.recs.length = t.n := rfl
  rw [show endR t = ((goesS t).end_, 0) by unfold endR; rw [if_pos h0]] at hend
  have hord := orders66 hn4 t.n [] (by simp)
  have hord : FSpec Try.prog 66 [iv t.n, .c (.raw (.slice none 0 0))] (.c (.sl 1 ((ordsF t.n t.n []).map lcd))) := hord.le (AVles.cons (AVle.refl _) (AVles.cons (AVle.nil 1) (AVles.refl _))) (AVle.refl _)
  rw [← min_best ht]
  have hlen := ordsF_len t.n t.n []
  have hl3 : t.n ^ t.n ≤ 4 ^ 4 := Nat.le_trans (Nat.pow_le_pow_left hn4 t.n) (Nat.pow_le_pow_right (by omega) hn4)
  have hl4 : (4 : Nat) ^ 4 = 256 := rfl
  have hio : ∀ o ∈ ordsF t.n t.n [], IsOrd t.n o := fun o ho => ordsF_ord _ _ (by simp) (by simp) (by simp) o ho
  generalize ordsF t.n t.n [] = L at *
  generalize (goesS t).end_ = E0 at *
  refine FSpec_of c44 (Nat.le_refl _) (by decide) fun C hP hN hC hL => ?_
  simp only [ir44, Tray.av]
  (repeat ((first | refine WV_seq_ ?_ | refine WV_block ?_ | refine WV_ops ?_ | refine WV_skip ?_ | refine WV_exit ?_); (try simp only [go_sem, init_env', Nat.reduceEqDiff, Nat.reduceAdd, Nat.reduceMul, reduceIte, Nat.reduceLeDiff, Nat.reduceLT, Nat.reduceBEq, reduceCtorEq, hP, ]); (repeat refine qI ?_)))
  (refine AS_pure (hend) rfl rfl rfl rfl rfl ?_; simp only [go_sem, init_env', Nat.reduceEqDiff, Nat.reduceAdd, Nat.reduceMul, reduceIte, Nat.reduceLeDiff, Nat.reduceLT, Nat.reduceBEq, reduceCtorEq, hP, Tray.av, bne_self_eq_false]; (repeat refine qI ?_); (repeat ((first | refine WV_seq_ ?_ | refine WV_block ?_ | refine WV_ops ?_ | refine WV_skip ?_ | refine WV_exit ?_); (try simp only [go_sem, init_env', Nat.reduceEqDiff, Nat.reduceAdd, Nat.reduceMul, reduceIte, Nat.reduceLeDiff, Nat.reduceLT, Nat.reduceBEq, reduceCtorEq, hP, Tray.av, bne_self_eq_false]); (repeat refine qI ?_))))
  (refine WV_cond rfl (fun h => ?_) (fun h => ?_))
  · simp at h
  (repeat ((first | refine WV_seq_ ?_ | refine WV_block ?_ | refine WV_ops ?_ | refine WV_skip ?_ | refine WV_exit ?_); (try simp only [go_sem, init_env', Nat.reduceEqDiff, Nat.reduceAdd, Nat.reduceMul, reduceIte, Nat.reduceLeDiff, Nat.reduceLT, Nat.reduceBEq, reduceCtorEq, hP, recsC, List.length_map, hrl]); (repeat refine qI ?_)))
  (refine AS_pure (hord) rfl rfl rfl rfl rfl ?_; simp only [go_sem, init_env', Nat.reduceEqDiff, Nat.reduceAdd, Nat.reduceMul, reduceIte, Nat.reduceLeDiff, Nat.reduceLT, Nat.reduceBEq, reduceCtorEq, hP, ]; (repeat refine qI ?_); (repeat ((first | refine WV_seq_ ?_ | refine WV_block ?_ | refine WV_ops ?_ | refine WV_skip ?_ | refine WV_exit ?_); (try simp only [go_sem, init_env', Nat.reduceEqDiff, Nat.reduceAdd, Nat.reduceMul, reduceIte, Nat.reduceLeDiff, Nat.reduceLT, Nat.reduceBEq, reduceCtorEq, hP, ]); (repeat refine qI ?_))))
  refine WV_loopK K44_1 [] (fun k : Nat => k ≤ L.length) (fun k => L.length - k) (fun k => [(7, iv k), (4, iv (minO t E0 (L.take k)))]) (fun k => []) 0 (Nat.zero_le _) ?_ ?_
  · (refine Sub_of (by simp only [go_sem, init_env', Nat.reduceEqDiff, Nat.reduceAdd, Nat.reduceMul, reduceIte, Nat.reduceLeDiff, Nat.reduceLT, Nat.reduceBEq, reduceCtorEq]; ((repeat' (first | exact EnvLe_e0 _ _ | refine EnvLe_upd ?_ ?_)) <;> ((try simp only [upd_app, e0_app, o0_app, Nat.reduceEqDiff, reduceIte]); first | exact AWk.refl _ _ | exact AWk.int (by omega) | exact AWk.int (by rw [w64 (by omega) (by omega)]; omega) | exact AWk.grow rfl | exact AWk.nil _ | exact AWk.of (by simp [minO])))) (by simp only [go_sem, init_env', Nat.reduceEqDiff, Nat.reduceAdd, Nat.reduceMul, reduceIte, Nat.reduceLeDiff, Nat.reduceLT, Nat.reduceBEq, reduceCtorEq]; (first | ((repeat' (first | exact ObjLe_o0 _ | exact ObjLe.rfl' _ | refine ObjLe_same ?_ | refine ObjLe_upd ?_ ?_ | refine ObjLe_new rfl ?_)) <;> rfl) | (refine ObjLe_X ?_; (repeat' (first | exact ObjLeX_o0 _ _ | refine ObjLeX_skip rfl ?_ | refine ObjLeX_upd ?_ ?_)) <;> rfl))))
  intro k hk
  simp only [go_sem, init_env', Nat.reduceEqDiff, Nat.reduceAdd, Nat.reduceMul, reduceIte, Nat.reduceLeDiff, Nat.reduceLT, Nat.reduceBEq, reduceCtorEq]
  (repeat ((first | refine WV_seq_ ?_ | refine WV_block ?_ | refine WV_ops ?_ | refine WV_skip ?_ | refine WV_exit ?_); (try simp only [go_sem, init_env', Nat.reduceEqDiff, Nat.reduceAdd, Nat.reduceMul, reduceIte, Nat.reduceLeDiff, Nat.reduceLT, Nat.reduceBEq, reduceCtorEq, hP, List.length_map]); (repeat refine qI ?_)))
  (refine WV_cond rfl (fun h => ?_) (fun h => ?_))
  · have hkl : k < L.length := by simpa using h
    have hI : (k : Int) < (L.length : Int) := by omega
    have hw2 := w64 (n := (k : Int) + 1) (by omega) (by omega)
    have hmt := minO_take (t := t) (b := E0) hkl
    have hko := hio _ (List.getElem_mem hkl)
    have ha := arranged39 ht hko
    have he := end67 (arr_ok ht hko)
    have g1 : (L.map lcd).getD k [] = [natsC L[k]] := map_getD hkl
    rw [show (goesS (arrT t L[k])).end_ = endO t L[k] from rfl] at he
    have hav : (arrT t L[k]).av = .agg [.c (recsC (arrT t L[k]).recs), iv t.at_, iv t.way, iv t.step, .c (prsC (arrT t L[k]).pres)] := rfl
    rw [hav] at ha he
    generalize (arrT t L[k]).recs = R1 at *
    generalize (arrT t L[k]).pres = P1 at *
    generalize endO t L[k] = E1 at *
    generalize minO t E0 (L.take k) = M0 at *
    generalize L[k] = o at *
    (repeat ((first | refine WV_seq_ ?_ | refine WV_block ?_ | refine WV_ops ?_ | refine WV_skip ?_ | refine WV_exit ?_); (try simp only [go_sem, init_env', Nat.reduceEqDiff, Nat.reduceAdd, Nat.reduceMul, reduceIte, Nat.reduceLeDiff, Nat.reduceLT, Nat.reduceBEq, reduceCtorEq, hP, g1, hI, List.length_map, Int.natCast_nonneg]); (repeat refine qI ?_)))
    (refine ACall_of (ha) rfl rfl rfl rfl rfl ?_; simp only [go_sem, init_env', Nat.reduceEqDiff, Nat.reduceAdd, Nat.reduceMul, reduceIte, Nat.reduceLeDiff, Nat.reduceLT, Nat.reduceBEq, reduceCtorEq, hP, Tray.av, recsC, prsC, g1, hI, List.length_map, Int.natCast_nonneg]; (repeat refine qI ?_); (repeat ((first | refine WV_seq_ ?_ | refine WV_block ?_ | refine WV_ops ?_ | refine WV_skip ?_ | refine WV_exit ?_); (try simp only [go_sem, init_env', Nat.reduceEqDiff, Nat.reduceAdd, Nat.reduceMul, reduceIte, Nat.reduceLeDiff, Nat.reduceLT, Nat.reduceBEq, reduceCtorEq, hP, Tray.av, recsC, prsC, g1, hI, List.length_map, Int.natCast_nonneg]); (repeat refine qI ?_))))
    (refine ACall_of (he) rfl rfl rfl rfl rfl ?_; simp only [go_sem, init_env', Nat.reduceEqDiff, Nat.reduceAdd, Nat.reduceMul, reduceIte, Nat.reduceLeDiff, Nat.reduceLT, Nat.reduceBEq, reduceCtorEq, hP, Tray.av, recsC, prsC, hw2]; (repeat refine qI ?_); (repeat ((first | refine WV_seq_ ?_ | refine WV_block ?_ | refine WV_ops ?_ | refine WV_skip ?_ | refine WV_exit ?_); (try simp only [go_sem, init_env', Nat.reduceEqDiff, Nat.reduceAdd, Nat.reduceMul, reduceIte, Nat.reduceLeDiff, Nat.reduceLT, Nat.reduceBEq, reduceCtorEq, hP, Tray.av, recsC, prsC, hw2]); (repeat refine qI ?_))))
    refine ⟨k + 1, by omega, by omega, ?_⟩
    rw [hmt]
    exact Sub_au
  · have h : k = L.length := by simp at h; omega
    subst h
    rw [List.take_length]
    (refine WV_exit ?_; simp only [go_sem, init_env', Nat.reduceEqDiff, Nat.reduceAdd, Nat.reduceMul, reduceIte, Nat.reduceLeDiff, Nat.reduceLT, Nat.reduceBEq, reduceCtorEq])
    (repeat ((first | refine WV_seq_ ?_ | refine WV_block ?_ | refine WV_ops ?_ | refine WV_skip ?_ | refine WV_exit ?_); (try simp only [go_sem, init_env', Nat.reduceEqDiff, Nat.reduceAdd, Nat.reduceMul, reduceIte, Nat.reduceLeDiff, Nat.reduceLT, Nat.reduceBEq, reduceCtorEq, hP, ]); (repeat refine qI ?_)))
    (refine WV_ret ?_; simp only [thenQ, inQ, RetQ, RetOk, resAll, resA]; simp only [go_sem, init_env', Nat.reduceEqDiff, Nat.reduceAdd, Nat.reduceMul, reduceIte, Nat.reduceLeDiff, Nat.reduceLT, Nat.reduceBEq, reduceCtorEq, tupA, AV.port, AV.portL, exists_eq_left', ]; (first | exact AVle.of rfl | refine AVle.of ?_ | skip))
theorem arrT_ok {t : Tray} (hok : t.ok = true) {o : List Nat} (ho : IsOrd t.n o) : (arrT t o).ok = true := by
  obtain ⟨ht, h12⟩ := Tray.ok_spec hok
  exact ok_of (arr_ok ht ho) (by show (t.pres.map _).length ≤ 12; rw [List.length_map]; exact h12)
theorem arrT_pressed {t : Tray} (hok : t.ok = true) {o : List Nat} (ho : IsOrd t.n o) : pressedE (arrT t o) = pressedE t := by
  unfold pressedE
  rw [arrT_ok hok ho, hok]
  have : (arrT t o).pres.length = t.pres.length := by show (t.pres.map _).length = _; rw [List.length_map]
  rw [this]
set_option maxRecDepth 20000 in
set_option maxHeartbeats 8000000 in
/-- Soonest and Arrange are as specified. -/
theorem law12 (t : Tray) : FSpec Try.prog 12 [t.av] (.c (.bool true)) := by
  have hfar := far28 t
  have hck := rcheck41 t
  have hrl : t.recs.length = t.n := rfl
  have hcond : ((farB t) || (decide (4 < (t.n : Int)) && t.ok)) = true ∨ (farB t = false ∧ (t.ok = true → t.n ≤ 4)) := by
    cases h1 : farB t
    · cases h2 : t.ok
      · exact .inr ⟨rfl, fun h => by cases h⟩
      · by_cases h3 : 4 < (t.n : Int)
        · left; simp [h3]
        · exact .inr ⟨rfl, fun _ => by omega⟩
    · exact .inl rfl
  rcases hcond with hc | ⟨hf, h4⟩
  · cases hf : farB t with
    | true =>
      rw [hf] at hfar
      refine FSpec_of c12 (Nat.le_refl _) (by decide) fun C hP hN hC hL => ?_
      simp only [ir12, Tray.av]
      (repeat ((first | refine WV_seq_ ?_ | refine WV_block ?_ | refine WV_ops ?_ | refine WV_skip ?_ | refine WV_exit ?_); (try simp only [go_sem, init_env', Nat.reduceEqDiff, Nat.reduceAdd, Nat.reduceMul, reduceIte, Nat.reduceLeDiff, Nat.reduceLT, Nat.reduceBEq, reduceCtorEq, hP, ]); (repeat refine qI ?_)))
      (refine AS_pure (hfar) rfl rfl rfl rfl rfl ?_; simp only [go_sem, init_env', Nat.reduceEqDiff, Nat.reduceAdd, Nat.reduceMul, reduceIte, Nat.reduceLeDiff, Nat.reduceLT, Nat.reduceBEq, reduceCtorEq, hP, Tray.av]; (repeat refine qI ?_); (repeat ((first | refine WV_seq_ ?_ | refine WV_block ?_ | refine WV_ops ?_ | refine WV_skip ?_ | refine WV_exit ?_); (try simp only [go_sem, init_env', Nat.reduceEqDiff, Nat.reduceAdd, Nat.reduceMul, reduceIte, Nat.reduceLeDiff, Nat.reduceLT, Nat.reduceBEq, reduceCtorEq, hP, Tray.av]); (repeat refine qI ?_))))
      (refine AG_skip ?_; simp only [go_sem, init_env', Nat.reduceEqDiff, Nat.reduceAdd, Nat.reduceMul, reduceIte, Nat.reduceLeDiff, Nat.reduceLT, Nat.reduceBEq, reduceCtorEq, hP, ]; (repeat refine qI ?_); (repeat ((first | refine WV_seq_ ?_ | refine WV_block ?_ | refine WV_ops ?_ | refine WV_skip ?_ | refine WV_exit ?_); (try simp only [go_sem, init_env', Nat.reduceEqDiff, Nat.reduceAdd, Nat.reduceMul, reduceIte, Nat.reduceLeDiff, Nat.reduceLT, Nat.reduceBEq, reduceCtorEq, hP, ]); (repeat refine qI ?_))))
      (refine WV_cond rfl (fun h => ?_) (fun h => ?_))
      · (repeat ((first | refine WV_seq_ ?_ | refine WV_block ?_ | refine WV_ops ?_ | refine WV_skip ?_ | refine WV_exit ?_); (try simp only [go_sem, init_env', Nat.reduceEqDiff, Nat.reduceAdd, Nat.reduceMul, reduceIte, Nat.reduceLeDiff, Nat.reduceLT, Nat.reduceBEq, reduceCtorEq, hP, ]); (repeat refine qI ?_)))
        (refine AS_pure (works19) rfl rfl rfl rfl rfl ?_; simp only [go_sem, init_env', Nat.reduceEqDiff, Nat.reduceAdd, Nat.reduceMul, reduceIte, Nat.reduceLeDiff, Nat.reduceLT, Nat.reduceBEq, reduceCtorEq, hP, ]; (repeat refine qI ?_); (repeat ((first | refine WV_seq_ ?_ | refine WV_block ?_ | refine WV_ops ?_ | refine WV_skip ?_ | refine WV_exit ?_); (try simp only [go_sem, init_env', Nat.reduceEqDiff, Nat.reduceAdd, Nat.reduceMul, reduceIte, Nat.reduceLeDiff, Nat.reduceLT, Nat.reduceBEq, reduceCtorEq, hP, ]); (repeat refine qI ?_))))
        (refine WV_ret ?_; simp only [thenQ, inQ, RetQ, RetOk, resAll, resA]; simp only [go_sem, init_env', Nat.reduceEqDiff, Nat.reduceAdd, Nat.reduceMul, reduceIte, Nat.reduceLeDiff, Nat.reduceLT, Nat.reduceBEq, reduceCtorEq, tupA, AV.port, AV.portL, exists_eq_left', ]; (first | exact AVle.of rfl | refine AVle.of ?_ | skip))
      · simp at h
    | false =>
      rw [hf] at hfar hc
      simp only [Bool.false_or, Bool.and_eq_true] at hc
      obtain ⟨hc1, hc2⟩ := hc
      rw [hc2] at hck
      simp only [if_true] at hck
      refine FSpec_of c12 (Nat.le_refl _) (by decide) fun C hP hN hC hL => ?_
      simp only [ir12, Tray.av]
      (repeat ((first | refine WV_seq_ ?_ | refine WV_block ?_ | refine WV_ops ?_ | refine WV_skip ?_ | refine WV_exit ?_); (try simp only [go_sem, init_env', Nat.reduceEqDiff, Nat.reduceAdd, Nat.reduceMul, reduceIte, Nat.reduceLeDiff, Nat.reduceLT, Nat.reduceBEq, reduceCtorEq, hP, ]); (repeat refine qI ?_)))
      (refine AS_pure (hfar) rfl rfl rfl rfl rfl ?_; simp only [go_sem, init_env', Nat.reduceEqDiff, Nat.reduceAdd, Nat.reduceMul, reduceIte, Nat.reduceLeDiff, Nat.reduceLT, Nat.reduceBEq, reduceCtorEq, hP, Tray.av, recsC, List.length_map, hrl, hc1]; (repeat refine qI ?_); (repeat ((first | refine WV_seq_ ?_ | refine WV_block ?_ | refine WV_ops ?_ | refine WV_skip ?_ | refine WV_exit ?_); (try simp only [go_sem, init_env', Nat.reduceEqDiff, Nat.reduceAdd, Nat.reduceMul, reduceIte, Nat.reduceLeDiff, Nat.reduceLT, Nat.reduceBEq, reduceCtorEq, hP, Tray.av, recsC, List.length_map, hrl, hc1]); (repeat refine qI ?_))))
      (refine AG_pure (fun hG => hck) rfl (fun hG => by first | (simp only [go_sem, init_env', Nat.reduceEqDiff, Nat.reduceAdd, Nat.reduceMul, reduceIte, Nat.reduceLeDiff, Nat.reduceLT, Nat.reduceBEq, reduceCtorEq, hG]; done) | (simp only [go_sem, init_env', Nat.reduceEqDiff, Nat.reduceAdd, Nat.reduceMul, reduceIte, Nat.reduceLeDiff, Nat.reduceLT, Nat.reduceBEq, reduceCtorEq]; revert hG; simp; done) | (simp only [go_sem, init_env', Nat.reduceEqDiff, Nat.reduceAdd, Nat.reduceMul, reduceIte, Nat.reduceLeDiff, Nat.reduceLT, Nat.reduceBEq, reduceCtorEq, hG]; simp_all; done) | (revert hG; simp; done) | simp_all) rfl rfl rfl ?_; simp only [go_sem, init_env', Nat.reduceEqDiff, Nat.reduceAdd, Nat.reduceMul, reduceIte, Nat.reduceLeDiff, Nat.reduceLT, Nat.reduceBEq, reduceCtorEq, hP, Tray.av, recsC, beq_self_eq_true]; (repeat refine qI ?_); (repeat ((first | refine WV_seq_ ?_ | refine WV_block ?_ | refine WV_ops ?_ | refine WV_skip ?_ | refine WV_exit ?_); (try simp only [go_sem, init_env', Nat.reduceEqDiff, Nat.reduceAdd, Nat.reduceMul, reduceIte, Nat.reduceLeDiff, Nat.reduceLT, Nat.reduceBEq, reduceCtorEq, hP, Tray.av, recsC, beq_self_eq_true]); (repeat refine qI ?_))))
      (refine WV_cond rfl (fun h => ?_) (fun h => ?_))
      · (repeat ((first | refine WV_seq_ ?_ | refine WV_block ?_ | refine WV_ops ?_ | refine WV_skip ?_ | refine WV_exit ?_); (try simp only [go_sem, init_env', Nat.reduceEqDiff, Nat.reduceAdd, Nat.reduceMul, reduceIte, Nat.reduceLeDiff, Nat.reduceLT, Nat.reduceBEq, reduceCtorEq, hP, ]); (repeat refine qI ?_)))
        (refine AS_pure (works19) rfl rfl rfl rfl rfl ?_; simp only [go_sem, init_env', Nat.reduceEqDiff, Nat.reduceAdd, Nat.reduceMul, reduceIte, Nat.reduceLeDiff, Nat.reduceLT, Nat.reduceBEq, reduceCtorEq, hP, ]; (repeat refine qI ?_); (repeat ((first | refine WV_seq_ ?_ | refine WV_block ?_ | refine WV_ops ?_ | refine WV_skip ?_ | refine WV_exit ?_); (try simp only [go_sem, init_env', Nat.reduceEqDiff, Nat.reduceAdd, Nat.reduceMul, reduceIte, Nat.reduceLeDiff, Nat.reduceLT, Nat.reduceBEq, reduceCtorEq, hP, ]); (repeat refine qI ?_))))
        (refine WV_ret ?_; simp only [thenQ, inQ, RetQ, RetOk, resAll, resA]; simp only [go_sem, init_env', Nat.reduceEqDiff, Nat.reduceAdd, Nat.reduceMul, reduceIte, Nat.reduceLeDiff, Nat.reduceLT, Nat.reduceBEq, reduceCtorEq, tupA, AV.port, AV.portL, exists_eq_left', ]; (first | exact AVle.of rfl | refine AVle.of ?_ | skip))
      · simp at h
  rw [hf] at hfar
  obtain ⟨l1, l2⟩ := far_no hf
  have hcop := copy20 t (by omega) (by omega)
  have bt := same30 t (by omega) (by omega)
  have b1 := soonest37 t
  have b2 := soonest44 t h4
  have b3 := arrange45 t
  have head : ∀ K : Prop, ((decide (4 < (t.n : Int)) && t.ok) = false → K) → K := fun K h => h (by
    cases h2 : t.ok
    · simp
    · have := h4 h2
      have : decide (4 < (t.n : Int)) = false := by simp; omega
      rw [this]; rfl)
  refine head _ fun hz => ?_
  by_cases h0 : pressedE t = 0
  rotate_left
  · rw [show soonR t = (0, pressedE t) by unfold soonR; rw [if_neg h0]] at b1 b2
    rw [show arrR t = ([], pressedE t) by unfold arrR; rw [if_neg h0]] at b3
    have hb : (pressedE t != 0) = true := by simpa using h0
    generalize pressedE t = E0 at *
    refine FSpec_of c12 (Nat.le_refl _) (by decide) fun C hP hN hC hL => ?_
    simp only [ir12, Tray.av]
    (repeat ((first | refine WV_seq_ ?_ | refine WV_block ?_ | refine WV_ops ?_ | refine WV_skip ?_ | refine WV_exit ?_); (try simp only [go_sem, init_env', Nat.reduceEqDiff, Nat.reduceAdd, Nat.reduceMul, reduceIte, Nat.reduceLeDiff, Nat.reduceLT, Nat.reduceBEq, reduceCtorEq, hP, ]); (repeat refine qI ?_)))
    cases hn : decide (4 < (t.n : Int))
    · (refine AS_pure (hfar) rfl rfl rfl rfl rfl ?_; simp only [go_sem, init_env', Nat.reduceEqDiff, Nat.reduceAdd, Nat.reduceMul, reduceIte, Nat.reduceLeDiff, Nat.reduceLT, Nat.reduceBEq, reduceCtorEq, hP, Tray.av, recsC, List.length_map, hrl, hn]; (repeat refine qI ?_); (repeat ((first | refine WV_seq_ ?_ | refine WV_block ?_ | refine WV_ops ?_ | refine WV_skip ?_ | refine WV_exit ?_); (try simp only [go_sem, init_env', Nat.reduceEqDiff, Nat.reduceAdd, Nat.reduceMul, reduceIte, Nat.reduceLeDiff, Nat.reduceLT, Nat.reduceBEq, reduceCtorEq, hP, Tray.av, recsC, List.length_map, hrl, hn]); (repeat refine qI ?_))))
      (refine AG_skip ?_; simp only [go_sem, init_env', Nat.reduceEqDiff, Nat.reduceAdd, Nat.reduceMul, reduceIte, Nat.reduceLeDiff, Nat.reduceLT, Nat.reduceBEq, reduceCtorEq, hP, ]; (repeat refine qI ?_); (repeat ((first | refine WV_seq_ ?_ | refine WV_block ?_ | refine WV_ops ?_ | refine WV_skip ?_ | refine WV_exit ?_); (try simp only [go_sem, init_env', Nat.reduceEqDiff, Nat.reduceAdd, Nat.reduceMul, reduceIte, Nat.reduceLeDiff, Nat.reduceLT, Nat.reduceBEq, reduceCtorEq, hP, ]); (repeat refine qI ?_))))
      (refine WV_cond rfl (fun h => ?_) (fun h => ?_))
      · simp at h
      (repeat ((first | refine WV_seq_ ?_ | refine WV_block ?_ | refine WV_ops ?_ | refine WV_skip ?_ | refine WV_exit ?_); (try simp only [go_sem, init_env', Nat.reduceEqDiff, Nat.reduceAdd, Nat.reduceMul, reduceIte, Nat.reduceLeDiff, Nat.reduceLT, Nat.reduceBEq, reduceCtorEq, hP, ]); (repeat refine qI ?_)))
      (refine AS_pure (hcop) rfl rfl rfl rfl rfl ?_; simp only [go_sem, init_env', Nat.reduceEqDiff, Nat.reduceAdd, Nat.reduceMul, reduceIte, Nat.reduceLeDiff, Nat.reduceLT, Nat.reduceBEq, reduceCtorEq, hP, Tray.av, recsC]; (repeat refine qI ?_); (repeat ((first | refine WV_seq_ ?_ | refine WV_block ?_ | refine WV_ops ?_ | refine WV_skip ?_ | refine WV_exit ?_); (try simp only [go_sem, init_env', Nat.reduceEqDiff, Nat.reduceAdd, Nat.reduceMul, reduceIte, Nat.reduceLeDiff, Nat.reduceLT, Nat.reduceBEq, reduceCtorEq, hP, Tray.av, recsC]); (repeat refine qI ?_))))
      (refine AS_pure (b1) rfl rfl rfl rfl rfl ?_; simp only [go_sem, init_env', Nat.reduceEqDiff, Nat.reduceAdd, Nat.reduceMul, reduceIte, Nat.reduceLeDiff, Nat.reduceLT, Nat.reduceBEq, reduceCtorEq, hP, Tray.av, recsC]; (repeat refine qI ?_); (repeat ((first | refine WV_seq_ ?_ | refine WV_block ?_ | refine WV_ops ?_ | refine WV_skip ?_ | refine WV_exit ?_); (try simp only [go_sem, init_env', Nat.reduceEqDiff, Nat.reduceAdd, Nat.reduceMul, reduceIte, Nat.reduceLeDiff, Nat.reduceLT, Nat.reduceBEq, reduceCtorEq, hP, Tray.av, recsC]); (repeat refine qI ?_))))
      (refine AS_pure (b2) rfl rfl rfl rfl rfl ?_; simp only [go_sem, init_env', Nat.reduceEqDiff, Nat.reduceAdd, Nat.reduceMul, reduceIte, Nat.reduceLeDiff, Nat.reduceLT, Nat.reduceBEq, reduceCtorEq, hP, Tray.av, recsC]; (repeat refine qI ?_); (repeat ((first | refine WV_seq_ ?_ | refine WV_block ?_ | refine WV_ops ?_ | refine WV_skip ?_ | refine WV_exit ?_); (try simp only [go_sem, init_env', Nat.reduceEqDiff, Nat.reduceAdd, Nat.reduceMul, reduceIte, Nat.reduceLeDiff, Nat.reduceLT, Nat.reduceBEq, reduceCtorEq, hP, Tray.av, recsC]); (repeat refine qI ?_))))
      (refine AS_pure (b3) rfl rfl rfl rfl rfl ?_; simp only [go_sem, init_env', Nat.reduceEqDiff, Nat.reduceAdd, Nat.reduceMul, reduceIte, Nat.reduceLeDiff, Nat.reduceLT, Nat.reduceBEq, reduceCtorEq, hP, Tray.av, recsC, bne_self_eq_false, natsC]; (repeat refine qI ?_); (repeat ((first | refine WV_seq_ ?_ | refine WV_block ?_ | refine WV_ops ?_ | refine WV_skip ?_ | refine WV_exit ?_); (try simp only [go_sem, init_env', Nat.reduceEqDiff, Nat.reduceAdd, Nat.reduceMul, reduceIte, Nat.reduceLeDiff, Nat.reduceLT, Nat.reduceBEq, reduceCtorEq, hP, Tray.av, recsC, bne_self_eq_false, natsC]); (repeat refine qI ?_))))
      (refine AG_pure (fun hG => bt) rfl (fun hG => by first | (simp only [go_sem, init_env', Nat.reduceEqDiff, Nat.reduceAdd, Nat.reduceMul, reduceIte, Nat.reduceLeDiff, Nat.reduceLT, Nat.reduceBEq, reduceCtorEq, hG]; done) | (simp only [go_sem, init_env', Nat.reduceEqDiff, Nat.reduceAdd, Nat.reduceMul, reduceIte, Nat.reduceLeDiff, Nat.reduceLT, Nat.reduceBEq, reduceCtorEq]; revert hG; simp; done) | (simp only [go_sem, init_env', Nat.reduceEqDiff, Nat.reduceAdd, Nat.reduceMul, reduceIte, Nat.reduceLeDiff, Nat.reduceLT, Nat.reduceBEq, reduceCtorEq, hG]; simp_all; done) | (revert hG; simp; done) | simp_all) rfl rfl rfl ?_; simp only [go_sem, init_env', Nat.reduceEqDiff, Nat.reduceAdd, Nat.reduceMul, reduceIte, Nat.reduceLeDiff, Nat.reduceLT, Nat.reduceBEq, reduceCtorEq, hP, Tray.av, recsC]; (repeat refine qI ?_); (repeat ((first | refine WV_seq_ ?_ | refine WV_block ?_ | refine WV_ops ?_ | refine WV_skip ?_ | refine WV_exit ?_); (try simp only [go_sem, init_env', Nat.reduceEqDiff, Nat.reduceAdd, Nat.reduceMul, reduceIte, Nat.reduceLeDiff, Nat.reduceLT, Nat.reduceBEq, reduceCtorEq, hP, Tray.av, recsC]); (repeat refine qI ?_))))
      (refine WV_cond rfl (fun h => ?_) (fun h => ?_))
      · simp at h
      (repeat ((first | refine WV_seq_ ?_ | refine WV_block ?_ | refine WV_ops ?_ | refine WV_skip ?_ | refine WV_exit ?_); (try simp only [go_sem, init_env', Nat.reduceEqDiff, Nat.reduceAdd, Nat.reduceMul, reduceIte, Nat.reduceLeDiff, Nat.reduceLT, Nat.reduceBEq, reduceCtorEq, hP, hb]); (repeat refine qI ?_)))
      (refine WV_cond rfl (fun h => ?_) (fun h => ?_))
      rotate_left
      · simp at h
      (repeat ((first | refine WV_seq_ ?_ | refine WV_block ?_ | refine WV_ops ?_ | refine WV_skip ?_ | refine WV_exit ?_); (try simp only [go_sem, init_env', Nat.reduceEqDiff, Nat.reduceAdd, Nat.reduceMul, reduceIte, Nat.reduceLeDiff, Nat.reduceLT, Nat.reduceBEq, reduceCtorEq, hP, ]); (repeat refine qI ?_)))
      (refine AG_pure (fun hG => works19) rfl (fun hG => by first | (simp only [go_sem, init_env', Nat.reduceEqDiff, Nat.reduceAdd, Nat.reduceMul, reduceIte, Nat.reduceLeDiff, Nat.reduceLT, Nat.reduceBEq, reduceCtorEq, hG]; done) | (simp only [go_sem, init_env', Nat.reduceEqDiff, Nat.reduceAdd, Nat.reduceMul, reduceIte, Nat.reduceLeDiff, Nat.reduceLT, Nat.reduceBEq, reduceCtorEq]; revert hG; simp; done) | (simp only [go_sem, init_env', Nat.reduceEqDiff, Nat.reduceAdd, Nat.reduceMul, reduceIte, Nat.reduceLeDiff, Nat.reduceLT, Nat.reduceBEq, reduceCtorEq, hG]; simp_all; done) | (revert hG; simp; done) | simp_all) rfl rfl rfl ?_; simp only [go_sem, init_env', Nat.reduceEqDiff, Nat.reduceAdd, Nat.reduceMul, reduceIte, Nat.reduceLeDiff, Nat.reduceLT, Nat.reduceBEq, reduceCtorEq, hP, ]; (repeat refine qI ?_); (repeat ((first | refine WV_seq_ ?_ | refine WV_block ?_ | refine WV_ops ?_ | refine WV_skip ?_ | refine WV_exit ?_); (try simp only [go_sem, init_env', Nat.reduceEqDiff, Nat.reduceAdd, Nat.reduceMul, reduceIte, Nat.reduceLeDiff, Nat.reduceLT, Nat.reduceBEq, reduceCtorEq, hP, ]); (repeat refine qI ?_))))
      (refine WV_ret ?_; simp only [thenQ, inQ, RetQ, RetOk, resAll, resA]; simp only [go_sem, init_env', Nat.reduceEqDiff, Nat.reduceAdd, Nat.reduceMul, reduceIte, Nat.reduceLeDiff, Nat.reduceLT, Nat.reduceBEq, reduceCtorEq, tupA, AV.port, AV.portL, exists_eq_left', ]; (first | exact AVle.of rfl | refine AVle.of ?_ | skip))
    · rw [hn, Bool.true_and] at hz
      rw [hz] at hck
      simp only [Bool.false_eq_true, if_false] at hck
      (refine AS_pure (hfar) rfl rfl rfl rfl rfl ?_; simp only [go_sem, init_env', Nat.reduceEqDiff, Nat.reduceAdd, Nat.reduceMul, reduceIte, Nat.reduceLeDiff, Nat.reduceLT, Nat.reduceBEq, reduceCtorEq, hP, Tray.av, recsC, List.length_map, hrl, hn]; (repeat refine qI ?_); (repeat ((first | refine WV_seq_ ?_ | refine WV_block ?_ | refine WV_ops ?_ | refine WV_skip ?_ | refine WV_exit ?_); (try simp only [go_sem, init_env', Nat.reduceEqDiff, Nat.reduceAdd, Nat.reduceMul, reduceIte, Nat.reduceLeDiff, Nat.reduceLT, Nat.reduceBEq, reduceCtorEq, hP, Tray.av, recsC, List.length_map, hrl, hn]); (repeat refine qI ?_))))
      (refine AG_pure (fun hG => hck) rfl (fun hG => by first | (simp only [go_sem, init_env', Nat.reduceEqDiff, Nat.reduceAdd, Nat.reduceMul, reduceIte, Nat.reduceLeDiff, Nat.reduceLT, Nat.reduceBEq, reduceCtorEq, hG]; done) | (simp only [go_sem, init_env', Nat.reduceEqDiff, Nat.reduceAdd, Nat.reduceMul, reduceIte, Nat.reduceLeDiff, Nat.reduceLT, Nat.reduceBEq, reduceCtorEq]; revert hG; simp; done) | (simp only [go_sem, init_env', Nat.reduceEqDiff, Nat.reduceAdd, Nat.reduceMul, reduceIte, Nat.reduceLeDiff, Nat.reduceLT, Nat.reduceBEq, reduceCtorEq, hG]; simp_all; done) | (revert hG; simp; done) | simp_all) rfl rfl rfl ?_; simp only [go_sem, init_env', Nat.reduceEqDiff, Nat.reduceAdd, Nat.reduceMul, reduceIte, Nat.reduceLeDiff, Nat.reduceLT, Nat.reduceBEq, reduceCtorEq, hP, Tray.av, recsC]; (repeat refine qI ?_); (repeat ((first | refine WV_seq_ ?_ | refine WV_block ?_ | refine WV_ops ?_ | refine WV_skip ?_ | refine WV_exit ?_); (try simp only [go_sem, init_env', Nat.reduceEqDiff, Nat.reduceAdd, Nat.reduceMul, reduceIte, Nat.reduceLeDiff, Nat.reduceLT, Nat.reduceBEq, reduceCtorEq, hP, Tray.av, recsC]); (repeat refine qI ?_))))
      (refine WV_cond rfl (fun h => ?_) (fun h => ?_))
      · simp at h
      (repeat ((first | refine WV_seq_ ?_ | refine WV_block ?_ | refine WV_ops ?_ | refine WV_skip ?_ | refine WV_exit ?_); (try simp only [go_sem, init_env', Nat.reduceEqDiff, Nat.reduceAdd, Nat.reduceMul, reduceIte, Nat.reduceLeDiff, Nat.reduceLT, Nat.reduceBEq, reduceCtorEq, hP, ]); (repeat refine qI ?_)))
      (refine AS_pure (hcop) rfl rfl rfl rfl rfl ?_; simp only [go_sem, init_env', Nat.reduceEqDiff, Nat.reduceAdd, Nat.reduceMul, reduceIte, Nat.reduceLeDiff, Nat.reduceLT, Nat.reduceBEq, reduceCtorEq, hP, Tray.av, recsC]; (repeat refine qI ?_); (repeat ((first | refine WV_seq_ ?_ | refine WV_block ?_ | refine WV_ops ?_ | refine WV_skip ?_ | refine WV_exit ?_); (try simp only [go_sem, init_env', Nat.reduceEqDiff, Nat.reduceAdd, Nat.reduceMul, reduceIte, Nat.reduceLeDiff, Nat.reduceLT, Nat.reduceBEq, reduceCtorEq, hP, Tray.av, recsC]); (repeat refine qI ?_))))
      (refine AS_pure (b1) rfl rfl rfl rfl rfl ?_; simp only [go_sem, init_env', Nat.reduceEqDiff, Nat.reduceAdd, Nat.reduceMul, reduceIte, Nat.reduceLeDiff, Nat.reduceLT, Nat.reduceBEq, reduceCtorEq, hP, Tray.av, recsC]; (repeat refine qI ?_); (repeat ((first | refine WV_seq_ ?_ | refine WV_block ?_ | refine WV_ops ?_ | refine WV_skip ?_ | refine WV_exit ?_); (try simp only [go_sem, init_env', Nat.reduceEqDiff, Nat.reduceAdd, Nat.reduceMul, reduceIte, Nat.reduceLeDiff, Nat.reduceLT, Nat.reduceBEq, reduceCtorEq, hP, Tray.av, recsC]); (repeat refine qI ?_))))
      (refine AS_pure (b2) rfl rfl rfl rfl rfl ?_; simp only [go_sem, init_env', Nat.reduceEqDiff, Nat.reduceAdd, Nat.reduceMul, reduceIte, Nat.reduceLeDiff, Nat.reduceLT, Nat.reduceBEq, reduceCtorEq, hP, Tray.av, recsC]; (repeat refine qI ?_); (repeat ((first | refine WV_seq_ ?_ | refine WV_block ?_ | refine WV_ops ?_ | refine WV_skip ?_ | refine WV_exit ?_); (try simp only [go_sem, init_env', Nat.reduceEqDiff, Nat.reduceAdd, Nat.reduceMul, reduceIte, Nat.reduceLeDiff, Nat.reduceLT, Nat.reduceBEq, reduceCtorEq, hP, Tray.av, recsC]); (repeat refine qI ?_))))
      (refine AS_pure (b3) rfl rfl rfl rfl rfl ?_; simp only [go_sem, init_env', Nat.reduceEqDiff, Nat.reduceAdd, Nat.reduceMul, reduceIte, Nat.reduceLeDiff, Nat.reduceLT, Nat.reduceBEq, reduceCtorEq, hP, Tray.av, recsC, bne_self_eq_false, natsC]; (repeat refine qI ?_); (repeat ((first | refine WV_seq_ ?_ | refine WV_block ?_ | refine WV_ops ?_ | refine WV_skip ?_ | refine WV_exit ?_); (try simp only [go_sem, init_env', Nat.reduceEqDiff, Nat.reduceAdd, Nat.reduceMul, reduceIte, Nat.reduceLeDiff, Nat.reduceLT, Nat.reduceBEq, reduceCtorEq, hP, Tray.av, recsC, bne_self_eq_false, natsC]); (repeat refine qI ?_))))
      (refine AG_pure (fun hG => bt) rfl (fun hG => by first | (simp only [go_sem, init_env', Nat.reduceEqDiff, Nat.reduceAdd, Nat.reduceMul, reduceIte, Nat.reduceLeDiff, Nat.reduceLT, Nat.reduceBEq, reduceCtorEq, hG]; done) | (simp only [go_sem, init_env', Nat.reduceEqDiff, Nat.reduceAdd, Nat.reduceMul, reduceIte, Nat.reduceLeDiff, Nat.reduceLT, Nat.reduceBEq, reduceCtorEq]; revert hG; simp; done) | (simp only [go_sem, init_env', Nat.reduceEqDiff, Nat.reduceAdd, Nat.reduceMul, reduceIte, Nat.reduceLeDiff, Nat.reduceLT, Nat.reduceBEq, reduceCtorEq, hG]; simp_all; done) | (revert hG; simp; done) | simp_all) rfl rfl rfl ?_; simp only [go_sem, init_env', Nat.reduceEqDiff, Nat.reduceAdd, Nat.reduceMul, reduceIte, Nat.reduceLeDiff, Nat.reduceLT, Nat.reduceBEq, reduceCtorEq, hP, Tray.av, recsC]; (repeat refine qI ?_); (repeat ((first | refine WV_seq_ ?_ | refine WV_block ?_ | refine WV_ops ?_ | refine WV_skip ?_ | refine WV_exit ?_); (try simp only [go_sem, init_env', Nat.reduceEqDiff, Nat.reduceAdd, Nat.reduceMul, reduceIte, Nat.reduceLeDiff, Nat.reduceLT, Nat.reduceBEq, reduceCtorEq, hP, Tray.av, recsC]); (repeat refine qI ?_))))
      (refine WV_cond rfl (fun h => ?_) (fun h => ?_))
      · simp at h
      (repeat ((first | refine WV_seq_ ?_ | refine WV_block ?_ | refine WV_ops ?_ | refine WV_skip ?_ | refine WV_exit ?_); (try simp only [go_sem, init_env', Nat.reduceEqDiff, Nat.reduceAdd, Nat.reduceMul, reduceIte, Nat.reduceLeDiff, Nat.reduceLT, Nat.reduceBEq, reduceCtorEq, hP, hb]); (repeat refine qI ?_)))
      (refine WV_cond rfl (fun h => ?_) (fun h => ?_))
      rotate_left
      · simp at h
      (repeat ((first | refine WV_seq_ ?_ | refine WV_block ?_ | refine WV_ops ?_ | refine WV_skip ?_ | refine WV_exit ?_); (try simp only [go_sem, init_env', Nat.reduceEqDiff, Nat.reduceAdd, Nat.reduceMul, reduceIte, Nat.reduceLeDiff, Nat.reduceLT, Nat.reduceBEq, reduceCtorEq, hP, ]); (repeat refine qI ?_)))
      (refine AG_pure (fun hG => works19) rfl (fun hG => by first | (simp only [go_sem, init_env', Nat.reduceEqDiff, Nat.reduceAdd, Nat.reduceMul, reduceIte, Nat.reduceLeDiff, Nat.reduceLT, Nat.reduceBEq, reduceCtorEq, hG]; done) | (simp only [go_sem, init_env', Nat.reduceEqDiff, Nat.reduceAdd, Nat.reduceMul, reduceIte, Nat.reduceLeDiff, Nat.reduceLT, Nat.reduceBEq, reduceCtorEq]; revert hG; simp; done) | (simp only [go_sem, init_env', Nat.reduceEqDiff, Nat.reduceAdd, Nat.reduceMul, reduceIte, Nat.reduceLeDiff, Nat.reduceLT, Nat.reduceBEq, reduceCtorEq, hG]; simp_all; done) | (revert hG; simp; done) | simp_all) rfl rfl rfl ?_; simp only [go_sem, init_env', Nat.reduceEqDiff, Nat.reduceAdd, Nat.reduceMul, reduceIte, Nat.reduceLeDiff, Nat.reduceLT, Nat.reduceBEq, reduceCtorEq, hP, ]; (repeat refine qI ?_); (repeat ((first | refine WV_seq_ ?_ | refine WV_block ?_ | refine WV_ops ?_ | refine WV_skip ?_ | refine WV_exit ?_); (try simp only [go_sem, init_env', Nat.reduceEqDiff, Nat.reduceAdd, Nat.reduceMul, reduceIte, Nat.reduceLeDiff, Nat.reduceLT, Nat.reduceBEq, reduceCtorEq, hP, ]); (repeat refine qI ?_))))
      (refine WV_ret ?_; simp only [thenQ, inQ, RetQ, RetOk, resAll, resA]; simp only [go_sem, init_env', Nat.reduceEqDiff, Nat.reduceAdd, Nat.reduceMul, reduceIte, Nat.reduceLeDiff, Nat.reduceLT, Nat.reduceBEq, reduceCtorEq, tupA, AV.port, AV.portL, exists_eq_left', ]; (first | exact AVle.of rfl | refine AVle.of ?_ | skip))
  obtain ⟨hok, hp0⟩ := pressed_zero h0
  obtain ⟨ht, h12⟩ := Tray.ok_spec hok
  have hn4 := h4 hok
  have hn : decide (4 < (t.n : Int)) = false := by simp; omega
  obtain ⟨⟨π, k1, k2⟩, k3⟩ := best_least ht
  rw [show soonR t = (endO t π, 0) by unfold soonR; rw [if_pos h0, k2]] at b1 b2
  rw [show arrR t = (π, 0) by unfold arrR; rw [if_pos h0, k2]; rfl] at b3
  have hpl := k1.len
  have hio := isorder36 t (π.map fun k : Nat => (k : Int)) (by omega) (by simp; omega)
  rw [ord_isOrdB k1] at hio
  have hpc : (π.map fun k : Nat => (k : Int)).map icd = π.map ncd := by rw [List.map_map]; rfl
  rw [hpc] at hio
  have ha := arranged39 ht k1
  have h0' : pressedE (arrT t π) = 0 := by rw [arrT_pressed hok k1]; exact h0
  have b4 := end46 (arrT t π)
  rw [show endR (arrT t π) = (endO t π, 0) by unfold endR; rw [if_pos h0']; rfl] at b4
  have hav : (arrT t π).av = .agg [.c (recsC (arrT t π).recs), iv t.at_, iv t.way, iv t.step, .c (prsC (arrT t π).pres)] := rfl
  rw [hav] at ha b4
  have d40 : decide (40 < (π.length : Int)) = false := by simp; omega
  generalize (arrT t π).recs = R1 at *
  generalize (arrT t π).pres = P1 at *
  generalize endO t π = E1 at *
  refine FSpec_of c12 (Nat.le_refl _) (by decide) fun C hP hN hC hL => ?_
  simp only [ir12, Tray.av]
  (repeat ((first | refine WV_seq_ ?_ | refine WV_block ?_ | refine WV_ops ?_ | refine WV_skip ?_ | refine WV_exit ?_); (try simp only [go_sem, init_env', Nat.reduceEqDiff, Nat.reduceAdd, Nat.reduceMul, reduceIte, Nat.reduceLeDiff, Nat.reduceLT, Nat.reduceBEq, reduceCtorEq, hP, ]); (repeat refine qI ?_)))
  (refine AS_pure (hfar) rfl rfl rfl rfl rfl ?_; simp only [go_sem, init_env', Nat.reduceEqDiff, Nat.reduceAdd, Nat.reduceMul, reduceIte, Nat.reduceLeDiff, Nat.reduceLT, Nat.reduceBEq, reduceCtorEq, hP, Tray.av, recsC, List.length_map, hrl, hn]; (repeat refine qI ?_); (repeat ((first | refine WV_seq_ ?_ | refine WV_block ?_ | refine WV_ops ?_ | refine WV_skip ?_ | refine WV_exit ?_); (try simp only [go_sem, init_env', Nat.reduceEqDiff, Nat.reduceAdd, Nat.reduceMul, reduceIte, Nat.reduceLeDiff, Nat.reduceLT, Nat.reduceBEq, reduceCtorEq, hP, Tray.av, recsC, List.length_map, hrl, hn]); (repeat refine qI ?_))))
  (refine AG_skip ?_; simp only [go_sem, init_env', Nat.reduceEqDiff, Nat.reduceAdd, Nat.reduceMul, reduceIte, Nat.reduceLeDiff, Nat.reduceLT, Nat.reduceBEq, reduceCtorEq, hP, ]; (repeat refine qI ?_); (repeat ((first | refine WV_seq_ ?_ | refine WV_block ?_ | refine WV_ops ?_ | refine WV_skip ?_ | refine WV_exit ?_); (try simp only [go_sem, init_env', Nat.reduceEqDiff, Nat.reduceAdd, Nat.reduceMul, reduceIte, Nat.reduceLeDiff, Nat.reduceLT, Nat.reduceBEq, reduceCtorEq, hP, ]); (repeat refine qI ?_))))
  (refine WV_cond rfl (fun h => ?_) (fun h => ?_))
  · simp at h
  (repeat ((first | refine WV_seq_ ?_ | refine WV_block ?_ | refine WV_ops ?_ | refine WV_skip ?_ | refine WV_exit ?_); (try simp only [go_sem, init_env', Nat.reduceEqDiff, Nat.reduceAdd, Nat.reduceMul, reduceIte, Nat.reduceLeDiff, Nat.reduceLT, Nat.reduceBEq, reduceCtorEq, hP, ]); (repeat refine qI ?_)))
  (refine AS_pure (hcop) rfl rfl rfl rfl rfl ?_; simp only [go_sem, init_env', Nat.reduceEqDiff, Nat.reduceAdd, Nat.reduceMul, reduceIte, Nat.reduceLeDiff, Nat.reduceLT, Nat.reduceBEq, reduceCtorEq, hP, Tray.av, recsC]; (repeat refine qI ?_); (repeat ((first | refine WV_seq_ ?_ | refine WV_block ?_ | refine WV_ops ?_ | refine WV_skip ?_ | refine WV_exit ?_); (try simp only [go_sem, init_env', Nat.reduceEqDiff, Nat.reduceAdd, Nat.reduceMul, reduceIte, Nat.reduceLeDiff, Nat.reduceLT, Nat.reduceBEq, reduceCtorEq, hP, Tray.av, recsC]); (repeat refine qI ?_))))
  (refine AS_pure (b1) rfl rfl rfl rfl rfl ?_; simp only [go_sem, init_env', Nat.reduceEqDiff, Nat.reduceAdd, Nat.reduceMul, reduceIte, Nat.reduceLeDiff, Nat.reduceLT, Nat.reduceBEq, reduceCtorEq, hP, Tray.av, recsC]; (repeat refine qI ?_); (repeat ((first | refine WV_seq_ ?_ | refine WV_block ?_ | refine WV_ops ?_ | refine WV_skip ?_ | refine WV_exit ?_); (try simp only [go_sem, init_env', Nat.reduceEqDiff, Nat.reduceAdd, Nat.reduceMul, reduceIte, Nat.reduceLeDiff, Nat.reduceLT, Nat.reduceBEq, reduceCtorEq, hP, Tray.av, recsC]); (repeat refine qI ?_))))
  (refine AS_pure (b2) rfl rfl rfl rfl rfl ?_; simp only [go_sem, init_env', Nat.reduceEqDiff, Nat.reduceAdd, Nat.reduceMul, reduceIte, Nat.reduceLeDiff, Nat.reduceLT, Nat.reduceBEq, reduceCtorEq, hP, Tray.av, recsC]; (repeat refine qI ?_); (repeat ((first | refine WV_seq_ ?_ | refine WV_block ?_ | refine WV_ops ?_ | refine WV_skip ?_ | refine WV_exit ?_); (try simp only [go_sem, init_env', Nat.reduceEqDiff, Nat.reduceAdd, Nat.reduceMul, reduceIte, Nat.reduceLeDiff, Nat.reduceLT, Nat.reduceBEq, reduceCtorEq, hP, Tray.av, recsC]); (repeat refine qI ?_))))
  (refine AS_pure (b3) rfl rfl rfl rfl rfl ?_; simp only [go_sem, init_env', Nat.reduceEqDiff, Nat.reduceAdd, Nat.reduceMul, reduceIte, Nat.reduceLeDiff, Nat.reduceLT, Nat.reduceBEq, reduceCtorEq, hP, Tray.av, recsC, bne_self_eq_false, natsC, List.length_map, d40]; (repeat refine qI ?_); (repeat ((first | refine WV_seq_ ?_ | refine WV_block ?_ | refine WV_ops ?_ | refine WV_skip ?_ | refine WV_exit ?_); (try simp only [go_sem, init_env', Nat.reduceEqDiff, Nat.reduceAdd, Nat.reduceMul, reduceIte, Nat.reduceLeDiff, Nat.reduceLT, Nat.reduceBEq, reduceCtorEq, hP, Tray.av, recsC, bne_self_eq_false, natsC, List.length_map, d40]); (repeat refine qI ?_))))
  (refine AG_pure (fun hG => bt) rfl (fun hG => by first | (simp only [go_sem, init_env', Nat.reduceEqDiff, Nat.reduceAdd, Nat.reduceMul, reduceIte, Nat.reduceLeDiff, Nat.reduceLT, Nat.reduceBEq, reduceCtorEq, hG]; done) | (simp only [go_sem, init_env', Nat.reduceEqDiff, Nat.reduceAdd, Nat.reduceMul, reduceIte, Nat.reduceLeDiff, Nat.reduceLT, Nat.reduceBEq, reduceCtorEq]; revert hG; simp; done) | (simp only [go_sem, init_env', Nat.reduceEqDiff, Nat.reduceAdd, Nat.reduceMul, reduceIte, Nat.reduceLeDiff, Nat.reduceLT, Nat.reduceBEq, reduceCtorEq, hG]; simp_all; done) | (revert hG; simp; done) | simp_all) rfl rfl rfl ?_; simp only [go_sem, init_env', Nat.reduceEqDiff, Nat.reduceAdd, Nat.reduceMul, reduceIte, Nat.reduceLeDiff, Nat.reduceLT, Nat.reduceBEq, reduceCtorEq, hP, Tray.av, recsC]; (repeat refine qI ?_); (repeat ((first | refine WV_seq_ ?_ | refine WV_block ?_ | refine WV_ops ?_ | refine WV_skip ?_ | refine WV_exit ?_); (try simp only [go_sem, init_env', Nat.reduceEqDiff, Nat.reduceAdd, Nat.reduceMul, reduceIte, Nat.reduceLeDiff, Nat.reduceLT, Nat.reduceBEq, reduceCtorEq, hP, Tray.av, recsC]); (repeat refine qI ?_))))
  (refine WV_cond rfl (fun h => ?_) (fun h => ?_))
  · simp at h
  (repeat ((first | refine WV_seq_ ?_ | refine WV_block ?_ | refine WV_ops ?_ | refine WV_skip ?_ | refine WV_exit ?_); (try simp only [go_sem, init_env', Nat.reduceEqDiff, Nat.reduceAdd, Nat.reduceMul, reduceIte, Nat.reduceLeDiff, Nat.reduceLT, Nat.reduceBEq, reduceCtorEq, hP, bne_self_eq_false]); (repeat refine qI ?_)))
  (refine WV_cond rfl (fun h => ?_) (fun h => ?_))
  · simp at h
  (repeat ((first | refine WV_seq_ ?_ | refine WV_block ?_ | refine WV_ops ?_ | refine WV_skip ?_ | refine WV_exit ?_); (try simp only [go_sem, init_env', Nat.reduceEqDiff, Nat.reduceAdd, Nat.reduceMul, reduceIte, Nat.reduceLeDiff, Nat.reduceLT, Nat.reduceBEq, reduceCtorEq, hP, ]); (repeat refine qI ?_)))
  (refine AS_pure (hio) rfl rfl rfl rfl rfl ?_; simp only [go_sem, init_env', Nat.reduceEqDiff, Nat.reduceAdd, Nat.reduceMul, reduceIte, Nat.reduceLeDiff, Nat.reduceLT, Nat.reduceBEq, reduceCtorEq, hP, Tray.av, recsC]; (repeat refine qI ?_); (repeat ((first | refine WV_seq_ ?_ | refine WV_block ?_ | refine WV_ops ?_ | refine WV_skip ?_ | refine WV_exit ?_); (try simp only [go_sem, init_env', Nat.reduceEqDiff, Nat.reduceAdd, Nat.reduceMul, reduceIte, Nat.reduceLeDiff, Nat.reduceLT, Nat.reduceBEq, reduceCtorEq, hP, Tray.av, recsC]); (repeat refine qI ?_))))
  (refine WV_cond rfl (fun h => ?_) (fun h => ?_))
  · simp at h
  (repeat ((first | refine WV_seq_ ?_ | refine WV_block ?_ | refine WV_ops ?_ | refine WV_skip ?_ | refine WV_exit ?_); (try simp only [go_sem, init_env', Nat.reduceEqDiff, Nat.reduceAdd, Nat.reduceMul, reduceIte, Nat.reduceLeDiff, Nat.reduceLT, Nat.reduceBEq, reduceCtorEq, hP, ]); (repeat refine qI ?_)))
  (refine AS_pure (ha) rfl rfl rfl rfl rfl ?_; simp only [go_sem, init_env', Nat.reduceEqDiff, Nat.reduceAdd, Nat.reduceMul, reduceIte, Nat.reduceLeDiff, Nat.reduceLT, Nat.reduceBEq, reduceCtorEq, hP, Tray.av, recsC, prsC, natsC]; (repeat refine qI ?_); (repeat ((first | refine WV_seq_ ?_ | refine WV_block ?_ | refine WV_ops ?_ | refine WV_skip ?_ | refine WV_exit ?_); (try simp only [go_sem, init_env', Nat.reduceEqDiff, Nat.reduceAdd, Nat.reduceMul, reduceIte, Nat.reduceLeDiff, Nat.reduceLT, Nat.reduceBEq, reduceCtorEq, hP, Tray.av, recsC, prsC, natsC]); (repeat refine qI ?_))))
  (refine AS_pure (b4) rfl rfl rfl rfl rfl ?_; simp only [go_sem, init_env', Nat.reduceEqDiff, Nat.reduceAdd, Nat.reduceMul, reduceIte, Nat.reduceLeDiff, Nat.reduceLT, Nat.reduceBEq, reduceCtorEq, hP, Tray.av, recsC, prsC, beq_self_eq_true]; (repeat refine qI ?_); (repeat ((first | refine WV_seq_ ?_ | refine WV_block ?_ | refine WV_ops ?_ | refine WV_skip ?_ | refine WV_exit ?_); (try simp only [go_sem, init_env', Nat.reduceEqDiff, Nat.reduceAdd, Nat.reduceMul, reduceIte, Nat.reduceLeDiff, Nat.reduceLT, Nat.reduceBEq, reduceCtorEq, hP, Tray.av, recsC, prsC, beq_self_eq_true]); (repeat refine qI ?_))))
  (refine AG_pure (fun hG => works19) rfl (fun hG => by first | (simp only [go_sem, init_env', Nat.reduceEqDiff, Nat.reduceAdd, Nat.reduceMul, reduceIte, Nat.reduceLeDiff, Nat.reduceLT, Nat.reduceBEq, reduceCtorEq, hG]; done) | (simp only [go_sem, init_env', Nat.reduceEqDiff, Nat.reduceAdd, Nat.reduceMul, reduceIte, Nat.reduceLeDiff, Nat.reduceLT, Nat.reduceBEq, reduceCtorEq]; revert hG; simp; done) | (simp only [go_sem, init_env', Nat.reduceEqDiff, Nat.reduceAdd, Nat.reduceMul, reduceIte, Nat.reduceLeDiff, Nat.reduceLT, Nat.reduceBEq, reduceCtorEq, hG]; simp_all; done) | (revert hG; simp; done) | simp_all) rfl rfl rfl ?_; simp only [go_sem, init_env', Nat.reduceEqDiff, Nat.reduceAdd, Nat.reduceMul, reduceIte, Nat.reduceLeDiff, Nat.reduceLT, Nat.reduceBEq, reduceCtorEq, hP, ]; (repeat refine qI ?_); (repeat ((first | refine WV_seq_ ?_ | refine WV_block ?_ | refine WV_ops ?_ | refine WV_skip ?_ | refine WV_exit ?_); (try simp only [go_sem, init_env', Nat.reduceEqDiff, Nat.reduceAdd, Nat.reduceMul, reduceIte, Nat.reduceLeDiff, Nat.reduceLT, Nat.reduceBEq, reduceCtorEq, hP, ]); (repeat refine qI ?_))))
  (refine WV_ret ?_; simp only [thenQ, inQ, RetQ, RetOk, resAll, resA]; simp only [go_sem, init_env', Nat.reduceEqDiff, Nat.reduceAdd, Nat.reduceMul, reduceIte, Nat.reduceLeDiff, Nat.reduceLT, Nat.reduceBEq, reduceCtorEq, tupA, AV.port, AV.portL, exists_eq_left', ]; (first | exact AVle.of rfl | refine AVle.of ?_ | skip))
end Go.Proofs.Ytkpgpgaojjobgaa
