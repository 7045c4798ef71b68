/-
  Contracts of the layer's functions, of the laws' helpers and of the law; conditions: as each theorem states.
-/
import Derived.Test.YtnmchaemhjnkgaaU4
import Derived.Test.YtnmchaemhjnkgaaV2
set_option linter.unusedVariables false
set_option linter.unusedSimpArgs false
namespace Go.Proofs.Ytnmchaemhjnkgaa
open Go Go.V
@[reducible] def o23_0 : List Ins := [⟨(some 4), .mv (.k (.c (.bool false))), none, true⟩]
@[reducible] def o23_1 : List Ins := [⟨(some 5), .mv (.t 0), none, true⟩,
  ⟨(some 6), .bin .geq (.t 5) (.k (.c (.int .i64 0))), none, true⟩,
  ⟨(some 7), .mv (.t 6), none, true⟩,
  ⟨(some 8), .mv (.t 1), (some (7, true)), true⟩,
  ⟨(some 9), .bin .gtr (.t 8) (.k (.c (.int .i64 0))), (some (7, true)), true⟩,
  ⟨(some 10), .pick (.t 7) (.t 9) (.k (.c (.bool false))), none, true⟩,
  ⟨(some 11), .mv (.t 10), none, true⟩,
  ⟨(some 12), .mv (.t 0), (some (11, true)), true⟩,
  ⟨(some 13), .mv (.t 1), (some (11, true)), true⟩,
  ⟨(some 14), .mm true (.t 12) (.t 13), (some (11, true)), true⟩,
  ⟨(some 15), .bin .lss (.t 14) (.k (.c (.int .i64 1125899906842624))), (some (11, true)), true⟩,
  ⟨(some 16), .pick (.t 11) (.t 15) (.k (.c (.bool false))), none, true⟩,
  ⟨(some 4), .mv (.t 16), none, true⟩]
@[reducible] def v23_2 : VC := (.seq (.ops o23_1) .ret)
def ir23 : FC := ⟨2, 17, [.t 4], (.seq (.ops o23_0) v23_2)⟩
@[reducible] def o25_0 : List Ins := [⟨(some 8), .mv (.k (.c (.bool false))), none, true⟩]
@[reducible] def o25_1 : List Ins := [⟨(some 9), .mv (.t 0), none, false⟩,
  ⟨(some 10), .mv (.t 1), none, false⟩,
  ⟨(some 11), .bin .quo (.t 9) (.t 10), none, false⟩,
  ⟨(some 12), .mv (.t 2), none, false⟩,
  ⟨(some 13), .mv (.t 3), none, false⟩,
  ⟨(some 14), .bin .quo (.t 12) (.t 13), none, false⟩,
  ⟨(some 15), .bin .neq (.t 11) (.t 14), none, true⟩]
@[reducible] def o25_2 : List Ins := [⟨(some 16), .mv (.t 0), none, false⟩,
  ⟨(some 17), .mv (.t 1), none, false⟩,
  ⟨(some 18), .bin .quo (.t 16) (.t 17), none, false⟩,
  ⟨(some 19), .mv (.t 2), none, false⟩,
  ⟨(some 20), .mv (.t 3), none, false⟩,
  ⟨(some 21), .bin .quo (.t 19) (.t 20), none, false⟩,
  ⟨(some 22), .bin .lss (.t 18) (.t 21), none, true⟩,
  ⟨(some 8), .mv (.t 22), none, true⟩]
@[reducible] def v25_3 : VC := (.seq (.ops o25_2) .ret)
@[reducible] def v25_4 : VC := (.cond (.t 15) v25_3 .skip)
@[reducible] def o25_5 : List Ins := [⟨(some 23), .mv (.t 0), none, false⟩,
  ⟨(some 24), .mv (.t 1), none, false⟩,
  ⟨(some 25), .bin .rem (.t 23) (.t 24), none, false⟩,
  ⟨(some 26), .mv (.t 2), none, false⟩,
  ⟨(some 27), .mv (.t 3), none, false⟩,
  ⟨(some 28), .bin .rem (.t 26) (.t 27), none, false⟩,
  ⟨(some 0), .mv (.t 25), none, false⟩,
  ⟨(some 2), .mv (.t 28), none, true⟩]
@[reducible] def o25_6 : List Ins := [⟨(some 29), .mv (.t 0), none, true⟩,
  ⟨(some 30), .bin .eql (.t 29) (.k (.c (.int .i64 0))), none, true⟩,
  ⟨(some 31), .mv (.t 30), none, true⟩,
  ⟨(some 32), .mv (.t 2), (some (31, false)), true⟩,
  ⟨(some 33), .bin .eql (.t 32) (.k (.c (.int .i64 0))), (some (31, false)), true⟩,
  ⟨(some 34), .pick (.t 31) (.k (.c (.bool true))) (.t 33), none, true⟩]
@[reducible] def o25_7 : List Ins := [⟨(some 35), .mv (.t 0), none, true⟩,
  ⟨(some 36), .bin .eql (.t 35) (.k (.c (.int .i64 0))), none, true⟩,
  ⟨(some 8), .mv (.t 36), none, true⟩]
@[reducible] def v25_8 : VC := (.seq (.ops o25_7) .ret)
@[reducible] def v25_9 : VC := (.cond (.t 34) v25_8 .skip)
@[reducible] def o25_10 : List Ins := [⟨(some 37), .mv (.t 3), none, true⟩,
  ⟨(some 38), .mv (.t 2), none, true⟩,
  ⟨(some 39), .mv (.t 1), none, true⟩,
  ⟨(some 40), .mv (.t 0), none, true⟩,
  ⟨(some 0), .mv (.t 37), none, true⟩,
  ⟨(some 1), .mv (.t 38), none, true⟩,
  ⟨(some 2), .mv (.t 39), none, true⟩,
  ⟨(some 3), .mv (.t 40), none, true⟩]
@[reducible] def v25_11 : VC := (.seq (.seq (.ops o25_6) v25_9) (.ops o25_10))
@[reducible] def v25_12 : VC := (.seq (.ops o25_5) v25_11)
@[reducible] def v25_13 : VC := (.seq (.seq (.ops o25_1) v25_4) v25_12)
@[reducible] def v25_14 : VC := (.block 1 v25_13)
-- K25_1: changed and kept: [0, 1, 2, 3]
@[reducible] def K25_1 : List Nat := []
@[reducible] def v25_15 : VC := (.loop v25_14)
@[reducible] def v25_16 : VC := (.block 0 v25_15)
def ir25 : FC := ⟨4, 41, [.t 8], (.seq (.ops o25_0) v25_16)⟩
@[reducible] def o5_0 : List Ins := [⟨(some 3), .box 3 (.t 0), none, true⟩,
  ⟨(some 6), .mv (.k (.c (.bool false))), none, true⟩]
@[reducible] def o5_1 : List Ins := [⟨(some 15), .ld false 3 (.t 3), none, true⟩,
  ⟨(some 16), .call (.k (.fn 13 [])) [(.t 15)], none, true⟩,
  ⟨(some 17), .un .not (.t 16), none, true⟩,
  ⟨(some 18), .mv (.t 17), none, true⟩,
  ⟨(some 19), .mv (.t 1), (some (18, false)), true⟩,
  ⟨(some 20), .bin .lss (.t 19) (.k (.c (.int .i64 0))), (some (18, false)), true⟩,
  ⟨(some 21), .pick (.t 18) (.k (.c (.bool true))) (.t 20), none, true⟩,
  ⟨(some 22), .mv (.t 21), none, true⟩,
  ⟨(some 23), .mv (.t 1), (some (22, false)), true⟩,
  ⟨(some 24), .fa 1 (.t 3), (some (22, false)), true⟩,
  ⟨(some 25), .ld true 1 (.t 24), (some (22, false)), true⟩,
  ⟨(some 26), .len (.t 25), (some (22, false)), true⟩,
  ⟨(some 27), .bin .geq (.t 23) (.t 26), (some (22, false)), true⟩,
  ⟨(some 28), .pick (.t 22) (.k (.c (.bool true))) (.t 27), none, true⟩,
  ⟨(some 29), .mv (.t 28), none, true⟩,
  ⟨(some 30), .fa 1 (.t 3), (some (29, false)), true⟩,
  ⟨(some 31), .ld true 1 (.t 30), (some (29, false)), true⟩,
  ⟨(some 32), .mv (.t 1), (some (29, false)), true⟩,
  ⟨(some 33), .ia 2 (.t 31) (.t 32), (some (29, false)), true⟩,
  ⟨(some 34), .fa 1 (.t 33), (some (29, false)), true⟩,
  ⟨(some 35), .ld true 1 (.t 34), (some (29, false)), true⟩,
  ⟨(some 36), .len (.t 35), (some (29, false)), true⟩,
  ⟨(some 37), .bin .neq (.t 36) (.k (.c (.int .i64 1))), (some (29, false)), true⟩,
  ⟨(some 38), .pick (.t 29) (.k (.c (.bool true))) (.t 37), none, true⟩,
  ⟨(some 39), .mv (.t 38), none, true⟩,
  ⟨(some 40), .mv (.t 2), (some (39, false)), true⟩,
  ⟨(some 41), .bin .lss (.t 40) (.k (.c (.int .i64 0))), (some (39, false)), true⟩,
  ⟨(some 42), .pick (.t 39) (.k (.c (.bool true))) (.t 41), none, true⟩,
  ⟨(some 43), .mv (.t 42), none, true⟩,
  ⟨(some 44), .mv (.t 2), (some (43, false)), true⟩,
  ⟨(some 45), .bin .gtr (.t 44) (.k (.c (.int .i64 9999))), (some (43, false)), true⟩,
  ⟨(some 46), .pick (.t 43) (.k (.c (.bool true))) (.t 45), none, true⟩,
  ⟨(some 47), .mv (.t 46), none, true⟩,
  ⟨(some 48), .ld false 3 (.t 3), (some (47, false)), true⟩,
  ⟨(some 49), .call (.k (.fn 21 [])) [(.t 48)], (some (47, false)), true⟩,
  ⟨(some 50), .bin .eql (.t 49) (.k (.c (.int .i64 0))), (some (47, false)), true⟩,
  ⟨(some 51), .pick (.t 47) (.k (.c (.bool true))) (.t 50), none, true⟩]
@[reducible] def o5_2 : List Ins := [⟨(some 52), .call (.k (.fn 14 [])) [], none, true⟩,
  ⟨(some 6), .mv (.t 52), none, true⟩]
@[reducible] def v5_3 : VC := (.seq (.ops o5_2) .ret)
@[reducible] def v5_4 : VC := (.cond (.t 51) v5_3 .skip)
@[reducible] def o5_5 : List Ins := [⟨(some 53), .ld false 3 (.t 3), none, true⟩,
  ⟨(some 54), .call (.k (.fn 24 [])) [(.t 53)], none, true⟩,
  ⟨(some 7), .alloc [(.c (.int .i64 0)), (.c (.raw (.slice none 0 0))), (.c (.raw (.slice none 0 0)))], none, true⟩,
  ⟨none, .st 3 (.t 7) (.t 54), none, true⟩]
@[reducible] def o5_6 : List Ins := [⟨(some 55), .fa 1 (.t 7), none, true⟩,
  ⟨(some 56), .ld true 1 (.t 55), none, true⟩,
  ⟨(some 57), .mv (.t 1), none, true⟩,
  ⟨(some 58), .ia 2 (.t 56) (.t 57), none, true⟩,
  ⟨(some 59), .fa 0 (.t 58), none, true⟩,
  ⟨(some 60), .ld true 1 (.t 59), none, true⟩,
  ⟨(some 61), .mv (.t 2), none, true⟩,
  ⟨(some 62), .bin .add (.t 60) (.t 61), none, true⟩,
  ⟨(some 63), .ia 2 (.t 56) (.t 57), none, true⟩,
  ⟨(some 64), .fa 0 (.t 63), none, true⟩,
  ⟨none, .st 1 (.t 64) (.t 62), none, true⟩]
@[reducible] def o5_7 : List Ins := [⟨(some 65), .ld false 3 (.t 7), none, true⟩,
  ⟨(some 66), .call (.k (.fn 13 [])) [(.t 65)], none, true⟩,
  ⟨(some 67), .un .not (.t 66), none, true⟩]
@[reducible] def o5_8 : List Ins := [⟨(some 68), .call (.k (.fn 14 [])) [], none, true⟩,
  ⟨(some 6), .mv (.t 68), none, true⟩]
@[reducible] def v5_9 : VC := (.seq (.ops o5_8) .ret)
@[reducible] def v5_10 : VC := (.cond (.t 67) v5_9 .skip)
@[reducible] def o5_11 : List Ins := [⟨(some 69), .fa 1 (.t 3), none, true⟩,
  ⟨(some 70), .ld true 1 (.t 69), none, true⟩,
  ⟨(some 71), .mv (.t 1), none, true⟩,
  ⟨(some 72), .ia 2 (.t 70) (.t 71), none, true⟩,
  ⟨(some 73), .fa 1 (.t 72), none, true⟩,
  ⟨(some 74), .ld true 1 (.t 73), none, true⟩,
  ⟨(some 75), .ia 2 (.t 74) (.k (.c (.int .i64 0))), none, true⟩,
  ⟨(some 76), .fa 0 (.t 75), none, true⟩,
  ⟨(some 77), .ld true 1 (.t 76), none, true⟩,
  ⟨(some 8), .mv (.t 77), none, true⟩]
@[reducible] def o5_12 : List Ins := [⟨(some 79), .ld false 3 (.t 3), none, true⟩,
  ⟨(some 80), .mv (.t 8), none, true⟩,
  ⟨(some 81), .call (.k (.fn 22 [])) [(.t 79), (.t 80)], none, true⟩,
  ⟨(some 78), .mv (.t 81), none, true⟩,
  ⟨(some 82), .ext (.t 78) 0, none, true⟩,
  ⟨(some 83), .ext (.t 78) 1, none, true⟩,
  ⟨(some 84), .ext (.t 78) 2, none, true⟩,
  ⟨(some 9), .mv (.t 82), none, true⟩,
  ⟨(some 10), .mv (.t 83), none, true⟩,
  ⟨(some 11), .mv (.t 84), none, true⟩]
@[reducible] def o5_13 : List Ins := [⟨(some 86), .ld false 3 (.t 7), none, true⟩,
  ⟨(some 87), .mv (.t 8), none, true⟩,
  ⟨(some 88), .call (.k (.fn 22 [])) [(.t 86), (.t 87)], none, true⟩,
  ⟨(some 85), .mv (.t 88), none, true⟩,
  ⟨(some 89), .ext (.t 85) 0, none, true⟩,
  ⟨(some 90), .ext (.t 85) 1, none, true⟩,
  ⟨(some 91), .ext (.t 85) 2, none, true⟩,
  ⟨(some 12), .mv (.t 89), none, true⟩,
  ⟨(some 13), .mv (.t 90), none, true⟩,
  ⟨(some 14), .mv (.t 91), none, true⟩]
@[reducible] def o5_14 : List Ins := [⟨(some 92), .mv (.t 11), none, true⟩,
  ⟨(some 93), .bin .eql (.t 92) (.k (.c (.int .i64 0))), none, true⟩,
  ⟨(some 94), .mv (.t 93), none, true⟩,
  ⟨(some 95), .mv (.t 14), (some (94, true)), true⟩,
  ⟨(some 96), .bin .eql (.t 95) (.k (.c (.int .i64 0))), (some (94, true)), true⟩,
  ⟨(some 97), .pick (.t 94) (.t 96) (.k (.c (.bool false))), none, true⟩,
  ⟨(some 98), .mv (.t 97), none, true⟩,
  ⟨(some 99), .mv (.t 9), (some (98, true)), true⟩,
  ⟨(some 100), .mv (.t 10), (some (98, true)), true⟩,
  ⟨(some 101), .call (.k (.fn 23 [])) [(.t 99), (.t 100)], (some (98, true)), true⟩,
  ⟨(some 102), .pick (.t 98) (.t 101) (.k (.c (.bool false))), none, true⟩,
  ⟨(some 103), .mv (.t 102), none, true⟩,
  ⟨(some 104), .mv (.t 12), (some (103, true)), true⟩,
  ⟨(some 105), .mv (.t 13), (some (103, true)), true⟩,
  ⟨(some 106), .call (.k (.fn 23 [])) [(.t 104), (.t 105)], (some (103, true)), true⟩,
  ⟨(some 107), .pick (.t 103) (.t 106) (.k (.c (.bool false))), none, true⟩,
  ⟨(some 108), .mv (.t 107), none, true⟩,
  ⟨(some 109), .mv (.t 9), (some (108, true)), true⟩,
  ⟨(some 110), .mv (.t 10), (some (108, true)), true⟩,
  ⟨(some 111), .mv (.t 12), (some (108, true)), true⟩,
  ⟨(some 112), .mv (.t 13), (some (108, true)), true⟩,
  ⟨(some 113), .call (.k (.fn 25 [])) [(.t 109), (.t 110), (.t 111), (.t 112)], (some (108, true)), true⟩,
  ⟨(some 114), .pick (.t 108) (.t 113) (.k (.c (.bool false))), none, true⟩,
  ⟨(some 115), .mv (.t 114), none, true⟩,
  ⟨(some 116), .call (.k (.fn 14 [])) [], (some (115, true)), true⟩,
  ⟨(some 117), .pick (.t 115) (.t 116) (.k (.c (.bool false))), none, true⟩,
  ⟨(some 6), .mv (.t 117), none, true⟩]
@[reducible] def v5_15 : VC := (.seq (.ops o5_14) .ret)
@[reducible] def v5_16 : VC := (.seq (.ops o5_13) v5_15)
@[reducible] def v5_17 : VC := (.seq (.ops o5_12) v5_16)
@[reducible] def v5_18 : VC := (.seq (.ops o5_11) v5_17)
@[reducible] def v5_19 : VC := (.seq (.seq (.ops o5_7) v5_10) v5_18)
@[reducible] def v5_20 : VC := (.seq (.ops o5_6) v5_19)
@[reducible] def v5_21 : VC := (.seq (.ops o5_5) v5_20)
@[reducible] def v5_22 : VC := (.seq (.seq (.ops o5_1) v5_4) v5_21)
def ir5 : FC := ⟨3, 118, [.t 6], (.seq (.ops o5_0) v5_22)⟩
theorem c23 : compM Try.prog [] 23 = some ir23 := by kernel_rfl
theorem c25 : compM Try.prog [] 25 = some ir25 := by kernel_rfl
theorem c5 : compM Try.prog [] 5 = some ir5 := by kernel_rfl



def fracB (a b : Int) : Bool := decide (0 ≤ a) && decide (0 < b) && decide (max a b < 1125899906842624)
theorem frac23 (a b : Int) : FSpec Try.prog 23 [iv a, iv b] (.c (.bool (fracB a b))) := by
  refine FSpec_of c23 (Nat.le_refl _) (by decide) fun C hP hN hC hL => ?_
  simp only [ir23]
  (repeat ((first | refine WV_seq_ ?_ | refine WV_block ?_ | refine WV_ops ?_ | refine WV_skip ?_ | refine WV_exit ?_); (try simp only [go_sem, init_env', Nat.reduceEqDiff, Nat.reduceAdd, Nat.reduceMul, reduceIte, Nat.reduceLeDiff, Nat.reduceLT, Nat.reduceBEq, reduceCtorEq, hP, ]); (repeat (refine And.intro (by first | omega | (intros; simp_all; done) | (intros; simp_all; omega)) ?_))))
  (refine WV_ret ?_; simp only [thenQ, inQ, RetQ, RetOk, resAll, resA]; simp only [go_sem, init_env', Nat.reduceEqDiff, Nat.reduceAdd, Nat.reduceMul, reduceIte, Nat.reduceLeDiff, Nat.reduceLT, Nat.reduceBEq, reduceCtorEq, tupA, AV.port, AV.portL, exists_eq_left', ]; (first | exact AVle.of rfl | refine AVle.of ?_ | skip))
theorem frac_step {a b c d : Int} (ha : 0 ≤ a) (hb : 0 < b) (hc : 0 ≤ c) (hd : 0 < d) :
    (a / b ≠ c / d → decide (a / b < c / d) = decide (a * d ≤ c * b)) ∧ (a / b = c / d → (a * d ≤ c * b ↔ a % b * d ≤ c % d * b)) := by
  have e1 := Int.mul_ediv_add_emod a b
  have e2 := Int.mul_ediv_add_emod c d
  have r1 := Int.emod_nonneg a (show b ≠ 0 by omega)
  have r2 := Int.emod_nonneg c (show d ≠ 0 by omega)
  have r3 := Int.emod_lt_of_pos a hb
  have r4 := Int.emod_lt_of_pos c hd
  generalize a / b = q at *
  generalize c / d = p at *
  generalize a % b = x at *
  generalize c % d = y at *
  subst e1 e2
  have hbd : 0 ≤ b * d := Int.mul_nonneg (by omega) (by omega)
  have f1 : (b * q + x) * d = b * d * q + x * d := by rw [Int.add_mul]; congr 1; rw [Int.mul_assoc, Int.mul_comm q d, ← Int.mul_assoc]
  have f2 : (d * p + y) * b = b * d * p + y * b := by rw [Int.add_mul]; congr 1; rw [Int.mul_assoc, Int.mul_comm p b, ← Int.mul_assoc, Int.mul_comm d b]
  have hx : 0 ≤ x * d ∧ x * d < b * d := ⟨Int.mul_nonneg r1 (by omega), Int.mul_lt_mul_of_pos_right r3 hd⟩
  have hy : 0 ≤ y * b ∧ y * b < b * d := ⟨Int.mul_nonneg r2 (by omega), by rw [Int.mul_comm b d]; exact Int.mul_lt_mul_of_pos_right r4 hb⟩
  rw [f1, f2]
  refine ⟨fun hne => ?_, fun he => ?_⟩
  · rw [decide_eq_decide]
    constructor
    · intro h
      have : b * d * (q + 1) ≤ b * d * p := Int.mul_le_mul_of_nonneg_left (by omega) hbd
      rw [Int.mul_add] at this
      omega
    · intro h
      rcases Int.lt_trichotomy q p with h1 | h1 | h1
      · exact h1
      · exact absurd h1 hne
      · have : b * d * (p + 1) ≤ b * d * q := Int.mul_le_mul_of_nonneg_left (by omega) hbd
        rw [Int.mul_add] at this
        omega
  · subst he
    constructor <;> intro h <;> omega

set_option maxHeartbeats 4000000 in
theorem notgr25 {a b c d : Int} (ha : 0 ≤ a ∧ a < 1125899906842624) (hb : 0 < b ∧ b < 1125899906842624) (hc : 0 ≤ c ∧ c < 1125899906842624) (hd : 0 < d ∧ d < 1125899906842624) :
    FSpec Try.prog 25 [iv a, iv b, iv c, iv d] (.c (.bool (decide (a * d ≤ c * b)))) := by
  refine FSpec_of c25 (Nat.le_refl _) (by decide) fun C hP hN hC hL => ?_
  simp only [ir25]
  (repeat ((first | refine WV_seq_ ?_ | refine WV_block ?_ | refine WV_ops ?_ | refine WV_skip ?_ | refine WV_exit ?_); (try simp only [go_sem, init_env', Nat.reduceEqDiff, Nat.reduceAdd, Nat.reduceMul, reduceIte, Nat.reduceLeDiff, Nat.reduceLT, Nat.reduceBEq, reduceCtorEq, hP, ]); (repeat (refine And.intro (by first | omega | (intros; simp_all; done) | (intros; simp_all; omega)) ?_))))
  refine WV_loopK K25_1 [] (fun x : Int × Int × Int × Int => (0 ≤ x.1 ∧ x.1 < 1125899906842624) ∧ (0 < x.2.1 ∧ x.2.1 < 1125899906842624) ∧ (0 ≤ x.2.2.1 ∧ x.2.2.1 < 1125899906842624) ∧ (0 < x.2.2.2 ∧ x.2.2.2 < 1125899906842624) ∧ (a * d ≤ c * b ↔ x.1 * x.2.2.2 ≤ x.2.2.1 * x.2.1)) (fun x => (x.2.1 + x.2.2.2).toNat) (fun x => [(0, iv x.1), (1, iv x.2.1), (2, iv x.2.2.1), (3, iv x.2.2.2)]) (fun _ => []) (a, b, c, d) ⟨ha, hb, hc, hd, Iff.rfl⟩ ?_ ?_
  · (refine Sub_of (by simp only [go_sem, init_env', Nat.reduceEqDiff, Nat.reduceAdd, Nat.reduceMul, reduceIte, Nat.reduceLeDiff, Nat.reduceLT, Nat.reduceBEq, reduceCtorEq]; ((repeat' (first | exact EnvLe_e0 _ _ | refine EnvLe_upd ?_ ?_)) <;> ((try simp only [upd_app, e0_app, o0_app, Nat.reduceEqDiff, reduceIte]); first | exact AWk.refl _ _ | exact AWk.int (by omega) | exact AWk.int (by rw [w64 (by omega) (by omega)]; omega) | exact AWk.grow rfl | exact AWk.nil _ | exact AWk.of (by simp)))) (by simp only [go_sem, init_env', Nat.reduceEqDiff, Nat.reduceAdd, Nat.reduceMul, reduceIte, Nat.reduceLeDiff, Nat.reduceLT, Nat.reduceBEq, reduceCtorEq]; ((repeat' (first | exact ObjLe_o0 _ | exact ObjLe.rfl' _ | refine ObjLe_same ?_ | refine ObjLe_upd ?_ ?_ | refine ObjLe_new rfl ?_)) <;> rfl)))
  · rintro ⟨x, y, z, u⟩ ⟨h1, h2, h3, h4, h5⟩
    simp only at h1 h2 h3 h4 h5
    obtain ⟨s1, s2⟩ := frac_step h1.1 h2.1 h3.1 h4.1
    have n1 : y ≠ 0 := by omega
    have n2 : u ≠ 0 := by omega
    have q1 := Int.ediv_nonneg h1.1 (show 0 ≤ y by omega)
    have q2 := Int.ediv_nonneg h3.1 (show 0 ≤ u by omega)
    have q3 := Int.ediv_le_self y h1.1
    have q4 := Int.ediv_le_self u h3.1
    have r1 := Int.emod_nonneg x n1
    have r2 := Int.emod_nonneg z n2
    have r3 := Int.emod_lt_of_pos x h2.1
    have r4 := Int.emod_lt_of_pos z h4.1
    have t1 := Int.tdiv_eq_ediv_of_nonneg h1.1 (b := y)
    have t2 := Int.tdiv_eq_ediv_of_nonneg h3.1 (b := u)
    have t3 := Int.tmod_eq_emod_of_nonneg h1.1 (b := y)
    have t4 := Int.tmod_eq_emod_of_nonneg h3.1 (b := u)
    have w1 := w64 (n := x / y) (by omega) (by omega)
    have w2 := w64 (n := z / u) (by omega) (by omega)
    have w3 := w64 (n := x % y) (by omega) (by omega)
    have w4 := w64 (n := z % u) (by omega) (by omega)
    simp only [go_sem, init_env', Nat.reduceEqDiff, Nat.reduceAdd, Nat.reduceMul, reduceIte, Nat.reduceLeDiff, Nat.reduceLT, Nat.reduceBEq, reduceCtorEq]
    (repeat ((first | refine WV_seq_ ?_ | refine WV_block ?_ | refine WV_ops ?_ | refine WV_skip ?_ | refine WV_exit ?_); (try simp only [go_sem, init_env', Nat.reduceEqDiff, Nat.reduceAdd, Nat.reduceMul, reduceIte, Nat.reduceLeDiff, Nat.reduceLT, Nat.reduceBEq, reduceCtorEq, hP, t1, t2, t3, t4, w1, w2, w3, w4]); (repeat (refine And.intro (by first | omega | (intros; simp_all; done) | (intros; simp_all; omega)) ?_))))
    cases hne : (x / y != z / u)
    · have he : x / y = z / u := by simpa using hne
      have s2 := s2 he
      (refine WV_cond rfl (fun h => ?_) (fun h => ?_))
      · simp at h
      clear h
      (repeat ((first | refine WV_seq_ ?_ | refine WV_block ?_ | refine WV_ops ?_ | refine WV_skip ?_ | refine WV_exit ?_); (try simp only [go_sem, init_env', Nat.reduceEqDiff, Nat.reduceAdd, Nat.reduceMul, reduceIte, Nat.reduceLeDiff, Nat.reduceLT, Nat.reduceBEq, reduceCtorEq, hP, t1, t2, t3, t4, w1, w2, w3, w4]); (repeat (refine And.intro (by first | omega | (intros; simp_all; done) | (intros; simp_all; omega)) ?_))))
      by_cases h0 : x % y = 0 ∨ z % u = 0
      · have hb : (x % y == 0 || z % u == 0) = true := by rcases h0 with h0 | h0 <;> simp [h0]
        have hans : decide (a * d ≤ c * b) = (x % y == 0) := by
          rw [Bool.eq_iff_iff, decide_eq_true_iff, h5, s2, beq_iff_eq]
          have m1 : 0 ≤ z % u * y := Int.mul_nonneg r2 (by omega)
          constructor
          · intro h
            rcases h0 with h0 | h0
            · exact h0
            · rw [h0, Int.zero_mul] at h
              have m2 : 0 ≤ x % y * u := Int.mul_nonneg r1 (by omega)
              rcases Int.mul_eq_zero.1 (show x % y * u = 0 by omega) with h | h <;> omega
          · intro h
            rw [h, Int.zero_mul]; exact m1
        rw [hb]
        (refine WV_cond rfl (fun h => ?_) (fun h => ?_))
        · (repeat ((first | refine WV_seq_ ?_ | refine WV_block ?_ | refine WV_ops ?_ | refine WV_skip ?_ | refine WV_exit ?_); (try simp only [go_sem, init_env', Nat.reduceEqDiff, Nat.reduceAdd, Nat.reduceMul, reduceIte, Nat.reduceLeDiff, Nat.reduceLT, Nat.reduceBEq, reduceCtorEq, hP, ]); (repeat (refine And.intro (by first | omega | (intros; simp_all; done) | (intros; simp_all; omega)) ?_))))
          (refine WV_ret ?_; simp only [thenQ, inQ, RetQ, RetOk, resAll, resA]; simp only [go_sem, init_env', Nat.reduceEqDiff, Nat.reduceAdd, Nat.reduceMul, reduceIte, Nat.reduceLeDiff, Nat.reduceLT, Nat.reduceBEq, reduceCtorEq, tupA, AV.port, AV.portL, exists_eq_left', ]; (first | exact AVle.of rfl | refine AVle.of ?_ | skip))
          rw [hans]
        · simp at h
      · have hb : (x % y == 0 || z % u == 0) = false := by simp; omega
        rw [hb]
        (refine WV_cond rfl (fun h => ?_) (fun h => ?_))
        · simp at h
        · (repeat ((first | refine WV_seq_ ?_ | refine WV_block ?_ | refine WV_ops ?_ | refine WV_skip ?_ | refine WV_exit ?_); (try simp only [go_sem, init_env', Nat.reduceEqDiff, Nat.reduceAdd, Nat.reduceMul, reduceIte, Nat.reduceLeDiff, Nat.reduceLT, Nat.reduceBEq, reduceCtorEq, hP, ]); (repeat (refine And.intro (by first | omega | (intros; simp_all; done) | (intros; simp_all; omega)) ?_))))
          refine ⟨(u, z % u, y, x % y), ⟨by simp only; omega, by simp only; omega, by simp only; omega, by simp only; omega, ?_⟩, by simp only; omega, ?_⟩
          · simp only
            rw [h5, s2, Int.mul_comm u, Int.mul_comm y]
          · (refine Sub_of (by simp only [go_sem, init_env', Nat.reduceEqDiff, Nat.reduceAdd, Nat.reduceMul, reduceIte, Nat.reduceLeDiff, Nat.reduceLT, Nat.reduceBEq, reduceCtorEq]; ((repeat' (first | exact EnvLe_e0 _ _ | refine EnvLe_upd ?_ ?_)) <;> ((try simp only [upd_app, e0_app, o0_app, Nat.reduceEqDiff, reduceIte]); first | exact AWk.refl _ _ | exact AWk.int (by omega) | exact AWk.int (by rw [w64 (by omega) (by omega)]; omega) | exact AWk.grow rfl | exact AWk.nil _ | exact AWk.of (by simp)))) (by simp only [go_sem, init_env', Nat.reduceEqDiff, Nat.reduceAdd, Nat.reduceMul, reduceIte, Nat.reduceLeDiff, Nat.reduceLT, Nat.reduceBEq, reduceCtorEq]; ((repeat' (first | exact ObjLe_o0 _ | exact ObjLe.rfl' _ | refine ObjLe_same ?_ | refine ObjLe_upd ?_ ?_ | refine ObjLe_new rfl ?_)) <;> rfl)))
    · have hne' : x / y ≠ z / u := by simpa using hne
      have s1 := s1 hne'
      (refine WV_cond rfl (fun h => ?_) (fun h => ?_))
      · (repeat ((first | refine WV_seq_ ?_ | refine WV_block ?_ | refine WV_ops ?_ | refine WV_skip ?_ | refine WV_exit ?_); (try simp only [go_sem, init_env', Nat.reduceEqDiff, Nat.reduceAdd, Nat.reduceMul, reduceIte, Nat.reduceLeDiff, Nat.reduceLT, Nat.reduceBEq, reduceCtorEq, hP, t1, t2, w1, w2]); (repeat (refine And.intro (by first | omega | (intros; simp_all; done) | (intros; simp_all; omega)) ?_))))
        (refine WV_ret ?_; simp only [thenQ, inQ, RetQ, RetOk, resAll, resA]; simp only [go_sem, init_env', Nat.reduceEqDiff, Nat.reduceAdd, Nat.reduceMul, reduceIte, Nat.reduceLeDiff, Nat.reduceLT, Nat.reduceBEq, reduceCtorEq, tupA, AV.port, AV.portL, exists_eq_left', ]; (first | exact AVle.of rfl | refine AVle.of ?_ | skip))
        rw [s1]; exact congrArg (fun b => AV.c (CD.bool b)) (by rw [decide_eq_decide]; exact h5.symm)
      · simp at h

/-- A greater one. -/
theorem more_le {r : Royal} {k : Nat} {m : Int} (hm : 0 ≤ m) (hk : k < r.sides.length) (hW : Weighed r) (hWo : Weighed (moreR r k m)) {p : Part} (hp : r.sides[k].parts = [p]) {i : Nat} (hi : p.who = (i : Int)) :
    numOf r i * allW (moreR r k m) ≤ numOf (moreR r k m) i * allW r := by
  have h1 := wts_more hk hW.hr hWo.hr i
  have h2 := (part_le_all hW i).1
  have h3 := (part_le_all hW i).2
  have h4 : partS m i r.sides[k].parts = 100 * m := by
    have := hW.hr.sum _ (List.getElem_mem hk)
    rw [hp] at this ⊢
    simp only [List.map_cons, List.map_nil, List.sum_cons, List.sum_nil] at this
    unfold partS
    simp only [List.map_cons, List.map_nil, List.sum_cons, List.sum_nil, if_pos hi]
    rw [show p.pc = 100 by omega]; omega
  have h5 := allW_more hk m
  unfold numOf
  rw [Int.toNat_natCast, h1, h4, h5]
  show r.pool * _ * _ ≤ r.pool * _ * _
  rw [Int.mul_assoc, Int.mul_assoc]
  refine Int.mul_le_mul_of_nonneg_left ?_ hW.hr.pool.1
  rw [Int.mul_add, Int.add_mul, Int.mul_comm (100 * m) (allW r)]
  have := Int.mul_le_mul_of_nonneg_right h2 (show 0 ≤ 100 * m by omega)
  omega
theorem cut_le {n a n' a' g g' : Int} (hg : 0 < g) (hg' : 0 < g') (h1 : g ∣ n) (h2 : g ∣ a) (h3 : g' ∣ n') (h4 : g' ∣ a') (h : n * a' ≤ n' * a) : n / g * (a' / g') ≤ n' / g' * (a / g) := by
  obtain ⟨x, rfl⟩ := h1
  obtain ⟨y, rfl⟩ := h2
  obtain ⟨x', rfl⟩ := h3
  obtain ⟨y', rfl⟩ := h4
  rw [Int.mul_ediv_cancel_left _ (by omega), Int.mul_ediv_cancel_left _ (by omega), Int.mul_ediv_cancel_left _ (by omega), Int.mul_ediv_cancel_left _ (by omega)]
  have e1 : g * x * (g' * y') = g * g' * (x * y') := by rw [Int.mul_assoc, Int.mul_assoc, ← Int.mul_assoc x, Int.mul_comm x, Int.mul_assoc]
  have e2 : g' * x' * (g * y) = g * g' * (x' * y) := by rw [Int.mul_assoc, ← Int.mul_assoc x', Int.mul_comm x', Int.mul_assoc, ← Int.mul_assoc g', Int.mul_comm g']
  rw [e1, e2] at h
  exact Int.le_of_mul_le_mul_left h (Int.mul_pos hg hg')
structure GcdOk (r : Royal) (i : Nat) : Prop where
  pos : 0 < gcdOf r i
  n : gcdOf r i ∣ numOf r i
  a : gcdOf r i ∣ allW r
  num : 0 ≤ numOf r i / gcdOf r i ∧ numOf r i / gcdOf r i ≤ 99999999999999
  den : 0 < allW r / gcdOf r i ∧ allW r / gcdOf r i ≤ 5999400
theorem gcd_ok {r : Royal} (hW : Weighed r) (i : Nat) : GcdOk r i := by
  have hb := numOf_bd (who := i) hW
  have hp := hW.pos
  have hl := hW.le
  have hg : 0 < gcdOf r i := by
    unfold gcdOf
    have := Int.gcd_pos_of_ne_zero_right (numOf r i) (show allW r ≠ 0 by omega)
    omega
  have d1 : gcdOf r i ∣ numOf r i := Int.gcd_dvd_left ..
  have d2 : gcdOf r i ∣ allW r := Int.gcd_dvd_right ..
  refine ⟨hg, d1, d2, ⟨Int.ediv_nonneg hb.1 (by omega), ?_⟩, Int.ediv_pos_of_pos_of_dvd hp (by omega) d2, ?_⟩
  · have := Int.ediv_le_self (gcdOf r i) hb.1; omega
  · have := Int.ediv_le_self (gcdOf r i) (show 0 ≤ allW r by omega); omega
theorem frac_ok {r : Royal} {i : Nat} (h : GcdOk r i) : fracB (numOf r i / gcdOf r i) (allW r / gcdOf r i) = true := by
  have := h.num
  have := h.den
  simp only [fracB, Bool.and_eq_true, decide_eq_true_eq]
  omega
theorem exact_ok {r : Royal} (hW : Weighed r) {i : Nat} (hi : i < r.n) : exactS r i = (numOf r i / gcdOf r i, allW r / gcdOf r i, 0) := by
  have hw : isW r i = true := by unfold isW within; simp; omega
  have hp := hW.pos
  have he : weighE r (isW r i) = 0 := by rw [hw]; simp [weighE, hW.ok]; omega
  unfold exactS
  rw [if_pos he]

set_option maxRecDepth 20000 in
set_option maxHeartbeats 16000000 in
theorem tail5 {C : Ctx} (hP : C.P = Try.prog) (r : Royal) (k : Nat) (m : Int) (hk : k < r.sides.length) (hm : 0 ≤ m ∧ m ≤ 9999) (hW : Weighed r) {p : Part} (hp : r.sides[k].parts = [p]) :
    WV C v5_19 (RetQ [.t 6] (.c (.bool true))) ⟨upd (upd (upd (upd e0 1 (iv k)) 2 (iv m)) 3 (.bp 3 0)) 7 (.bp 7 0), upd (upd o0 3 (.box [iv r.pool, .c (sidesC r.sides), .c (ints r.owed)])) 7 (.box [iv r.pool, .c (sidesC (moreR r k m).sides), .c (ints r.owed)])⟩ := by
  have ho : (moreR r k m).av = .agg [iv r.pool, .c (sidesC (moreR r k m).sides), .c (ints r.owed)] := rfl
  have hready := ready13 (moreR r k m)
  rw [ho] at hready
  have hI : (k : Int) < (r.sides.length : Int) := by omega
  (repeat ((first | refine WV_seq_ ?_ | refine WV_block ?_ | refine WV_ops ?_ | refine WV_skip ?_ | refine WV_exit ?_); (try simp only [go_sem, init_env', Nat.reduceEqDiff, Nat.reduceAdd, Nat.reduceMul, reduceIte, Nat.reduceLeDiff, Nat.reduceLT, Nat.reduceBEq, reduceCtorEq, hP, ]); (repeat (refine And.intro (by first | omega | (intros; simp_all; done) | (intros; simp_all; omega)) ?_))))
  (refine AS_pure (hready) rfl rfl rfl rfl rfl ?_; simp only [go_sem, init_env', Nat.reduceEqDiff, Nat.reduceAdd, Nat.reduceMul, reduceIte, Nat.reduceLeDiff, Nat.reduceLT, Nat.reduceBEq, reduceCtorEq, hP, Royal.av]; (repeat (refine And.intro (by first | omega | (intros; simp_all; done) | (intros; simp_all; omega)) ?_)); (repeat ((first | refine WV_seq_ ?_ | refine WV_block ?_ | refine WV_ops ?_ | refine WV_skip ?_ | refine WV_exit ?_); (try simp only [go_sem, init_env', Nat.reduceEqDiff, Nat.reduceAdd, Nat.reduceMul, reduceIte, Nat.reduceLeDiff, Nat.reduceLT, Nat.reduceBEq, reduceCtorEq, hP, Royal.av]); (repeat (refine And.intro (by first | omega | (intros; simp_all; done) | (intros; simp_all; omega)) ?_)))))
  cases hok' : (moreR r k m).ok
  · (refine WV_cond rfl (fun h => ?_) (fun h => ?_))
    · (repeat ((first | refine WV_seq_ ?_ | refine WV_block ?_ | refine WV_ops ?_ | refine WV_skip ?_ | refine WV_exit ?_); (try simp only [go_sem, init_env', Nat.reduceEqDiff, Nat.reduceAdd, Nat.reduceMul, reduceIte, Nat.reduceLeDiff, Nat.reduceLT, Nat.reduceBEq, reduceCtorEq, hP, ]); (repeat (refine And.intro (by first | omega | (intros; simp_all; done) | (intros; simp_all; omega)) ?_))))
      (refine AS_pure (works14) rfl rfl rfl rfl rfl ?_; simp only [go_sem, init_env', Nat.reduceEqDiff, Nat.reduceAdd, Nat.reduceMul, reduceIte, Nat.reduceLeDiff, Nat.reduceLT, Nat.reduceBEq, reduceCtorEq, hP, ]; (repeat (refine And.intro (by first | omega | (intros; simp_all; done) | (intros; simp_all; omega)) ?_)); (repeat ((first | refine WV_seq_ ?_ | refine WV_block ?_ | refine WV_ops ?_ | refine WV_skip ?_ | refine WV_exit ?_); (try simp only [go_sem, init_env', Nat.reduceEqDiff, Nat.reduceAdd, Nat.reduceMul, reduceIte, Nat.reduceLeDiff, Nat.reduceLT, Nat.reduceBEq, reduceCtorEq, hP, ]); (repeat (refine And.intro (by first | omega | (intros; simp_all; done) | (intros; simp_all; omega)) ?_)))))
      (refine WV_ret ?_; simp only [thenQ, inQ, RetQ, RetOk, resAll, resA]; simp only [go_sem, init_env', Nat.reduceEqDiff, Nat.reduceAdd, Nat.reduceMul, reduceIte, Nat.reduceLeDiff, Nat.reduceLT, Nat.reduceBEq, reduceCtorEq, tupA, AV.port, AV.portL, exists_eq_left', ]; (first | exact AVle.of rfl | refine AVle.of ?_ | skip))
    · simp at h
  (refine WV_cond rfl (fun h => ?_) (fun h => ?_))
  · simp at h
  clear h
  have hao := allW_more hk m
  have hap := hW.pos
  have hor := Royal.ok_spec hok'
  have hWo : Weighed (moreR r k m) := ⟨hok', hor, by omega, (allW_bd hor).2, wts_len _, wts_bd hor, wts_sum hor⟩
  have hpm := hW.hr.part _ (List.getElem_mem hk) p (by rw [hp]; simp)
  obtain ⟨i, hi⟩ := Int.eq_ofNat_of_zero_le hpm.1
  have hin : i < r.n := by omega
  have g1 := gcd_ok hW i
  have g2 := gcd_ok hWo i
  have hle := more_le hm.1 hk hW hWo hp hi
  have hans := cut_le g1.pos g2.pos g1.n g1.a g2.n g2.a hle
  have c1 := exact22 r i
  have c2 := exact22 (moreR r k m) i
  rw [exact_ok hW hin] at c1
  rw [exact_ok hWo hin, ho] at c2
  have f1 := frac23 (numOf r i / gcdOf r i) (allW r / gcdOf r i)
  have f2 := frac23 (numOf (moreR r k m) i / gcdOf (moreR r k m) i) (allW (moreR r k m) / gcdOf (moreR r k m) i)
  rw [frac_ok g1] at f1
  rw [frac_ok g2] at f2
  obtain ⟨b1, b2⟩ := g1.num
  obtain ⟨b3, b4⟩ := g1.den
  obtain ⟨b5, b6⟩ := g2.num
  obtain ⟨b7, b8⟩ := g2.den
  have f3 := notgr25 (a := numOf r i / gcdOf r i) (b := allW r / gcdOf r i) (c := numOf (moreR r k m) i / gcdOf (moreR r k m) i) (d := allW (moreR r k m) / gcdOf (moreR r k m) i) (by omega) (by omega) (by omega) (by omega)
  rw [decide_eq_true hans] at f3
  clear hready hok' hans hle
  have z0 : ((0 : Int)).toNat = 0 := rfl
  have egd : (r.sides.map Side.cds).getD k [] = [.int .i64 r.sides[k].plays, .sl 2 [[.int .i64 i, .int .i64 p.pc]]] := by
    rw [map_getD hk]
    show [CD.int .i64 r.sides[k].plays, partsC r.sides[k].parts] = _
    rw [hp]
    show [CD.int .i64 r.sides[k].plays, CD.sl 2 [[CD.int .i64 p.who, CD.int .i64 p.pc]]] = _
    rw [hi]
  (repeat ((first | refine WV_seq_ ?_ | refine WV_block ?_ | refine WV_ops ?_ | refine WV_skip ?_ | refine WV_exit ?_); (try simp only [go_sem, init_env', Nat.reduceEqDiff, Nat.reduceAdd, Nat.reduceMul, reduceIte, Nat.reduceLeDiff, Nat.reduceLT, Nat.reduceBEq, reduceCtorEq, hP, sidesC, hI, egd, Int.natCast_nonneg, z0]); (repeat (refine And.intro (by first | omega | (intros; simp_all; done) | (intros; simp_all; omega)) ?_))))
  (refine AS_pure (c1) rfl rfl rfl rfl rfl ?_; simp only [go_sem, init_env', Nat.reduceEqDiff, Nat.reduceAdd, Nat.reduceMul, reduceIte, Nat.reduceLeDiff, Nat.reduceLT, Nat.reduceBEq, reduceCtorEq, hP, Royal.av, sidesC]; (repeat (refine And.intro (by first | omega | (intros; simp_all; done) | (intros; simp_all; omega)) ?_)); (repeat ((first | refine WV_seq_ ?_ | refine WV_block ?_ | refine WV_ops ?_ | refine WV_skip ?_ | refine WV_exit ?_); (try simp only [go_sem, init_env', Nat.reduceEqDiff, Nat.reduceAdd, Nat.reduceMul, reduceIte, Nat.reduceLeDiff, Nat.reduceLT, Nat.reduceBEq, reduceCtorEq, hP, Royal.av, sidesC]); (repeat (refine And.intro (by first | omega | (intros; simp_all; done) | (intros; simp_all; omega)) ?_)))))
  (refine AS_pure (c2) rfl rfl rfl rfl rfl ?_; simp only [go_sem, init_env', Nat.reduceEqDiff, Nat.reduceAdd, Nat.reduceMul, reduceIte, Nat.reduceLeDiff, Nat.reduceLT, Nat.reduceBEq, reduceCtorEq, hP, Royal.av, sidesC, beq_self_eq_true]; (repeat (refine And.intro (by first | omega | (intros; simp_all; done) | (intros; simp_all; omega)) ?_)); (repeat ((first | refine WV_seq_ ?_ | refine WV_block ?_ | refine WV_ops ?_ | refine WV_skip ?_ | refine WV_exit ?_); (try simp only [go_sem, init_env', Nat.reduceEqDiff, Nat.reduceAdd, Nat.reduceMul, reduceIte, Nat.reduceLeDiff, Nat.reduceLT, Nat.reduceBEq, reduceCtorEq, hP, Royal.av, sidesC, beq_self_eq_true]); (repeat (refine And.intro (by first | omega | (intros; simp_all; done) | (intros; simp_all; omega)) ?_)))))
  (refine AG_pure (fun hG => f1) rfl (fun hG => by first | (simp only [go_sem, init_env', Nat.reduceEqDiff, Nat.reduceAdd, Nat.reduceMul, reduceIte, Nat.reduceLeDiff, Nat.reduceLT, Nat.reduceBEq, reduceCtorEq, hG]; done) | (simp only [go_sem, init_env', Nat.reduceEqDiff, Nat.reduceAdd, Nat.reduceMul, reduceIte, Nat.reduceLeDiff, Nat.reduceLT, Nat.reduceBEq, reduceCtorEq]; revert hG; simp; done) | (simp only [go_sem, init_env', Nat.reduceEqDiff, Nat.reduceAdd, Nat.reduceMul, reduceIte, Nat.reduceLeDiff, Nat.reduceLT, Nat.reduceBEq, reduceCtorEq, hG]; simp_all; done) | (revert hG; simp; done) | simp_all) rfl rfl rfl ?_; simp only [go_sem, init_env', Nat.reduceEqDiff, Nat.reduceAdd, Nat.reduceMul, reduceIte, Nat.reduceLeDiff, Nat.reduceLT, Nat.reduceBEq, reduceCtorEq, hP, ]; (repeat (refine And.intro (by first | omega | (intros; simp_all; done) | (intros; simp_all; omega)) ?_)); (repeat ((first | refine WV_seq_ ?_ | refine WV_block ?_ | refine WV_ops ?_ | refine WV_skip ?_ | refine WV_exit ?_); (try simp only [go_sem, init_env', Nat.reduceEqDiff, Nat.reduceAdd, Nat.reduceMul, reduceIte, Nat.reduceLeDiff, Nat.reduceLT, Nat.reduceBEq, reduceCtorEq, hP, ]); (repeat (refine And.intro (by first | omega | (intros; simp_all; done) | (intros; simp_all; omega)) ?_)))))
  (refine AG_pure (fun hG => f2) rfl (fun hG => by first | (simp only [go_sem, init_env', Nat.reduceEqDiff, Nat.reduceAdd, Nat.reduceMul, reduceIte, Nat.reduceLeDiff, Nat.reduceLT, Nat.reduceBEq, reduceCtorEq, hG]; done) | (simp only [go_sem, init_env', Nat.reduceEqDiff, Nat.reduceAdd, Nat.reduceMul, reduceIte, Nat.reduceLeDiff, Nat.reduceLT, Nat.reduceBEq, reduceCtorEq]; revert hG; simp; done) | (simp only [go_sem, init_env', Nat.reduceEqDiff, Nat.reduceAdd, Nat.reduceMul, reduceIte, Nat.reduceLeDiff, Nat.reduceLT, Nat.reduceBEq, reduceCtorEq, hG]; simp_all; done) | (revert hG; simp; done) | simp_all) rfl rfl rfl ?_; simp only [go_sem, init_env', Nat.reduceEqDiff, Nat.reduceAdd, Nat.reduceMul, reduceIte, Nat.reduceLeDiff, Nat.reduceLT, Nat.reduceBEq, reduceCtorEq, hP, ]; (repeat (refine And.intro (by first | omega | (intros; simp_all; done) | (intros; simp_all; omega)) ?_)); (repeat ((first | refine WV_seq_ ?_ | refine WV_block ?_ | refine WV_ops ?_ | refine WV_skip ?_ | refine WV_exit ?_); (try simp only [go_sem, init_env', Nat.reduceEqDiff, Nat.reduceAdd, Nat.reduceMul, reduceIte, Nat.reduceLeDiff, Nat.reduceLT, Nat.reduceBEq, reduceCtorEq, hP, ]); (repeat (refine And.intro (by first | omega | (intros; simp_all; done) | (intros; simp_all; omega)) ?_)))))
  (refine AG_pure (fun hG => f3) rfl (fun hG => by first | (simp only [go_sem, init_env', Nat.reduceEqDiff, Nat.reduceAdd, Nat.reduceMul, reduceIte, Nat.reduceLeDiff, Nat.reduceLT, Nat.reduceBEq, reduceCtorEq, hG]; done) | (simp only [go_sem, init_env', Nat.reduceEqDiff, Nat.reduceAdd, Nat.reduceMul, reduceIte, Nat.reduceLeDiff, Nat.reduceLT, Nat.reduceBEq, reduceCtorEq]; revert hG; simp; done) | (simp only [go_sem, init_env', Nat.reduceEqDiff, Nat.reduceAdd, Nat.reduceMul, reduceIte, Nat.reduceLeDiff, Nat.reduceLT, Nat.reduceBEq, reduceCtorEq, hG]; simp_all; done) | (revert hG; simp; done) | simp_all) rfl rfl rfl ?_; simp only [go_sem, init_env', Nat.reduceEqDiff, Nat.reduceAdd, Nat.reduceMul, reduceIte, Nat.reduceLeDiff, Nat.reduceLT, Nat.reduceBEq, reduceCtorEq, hP, ]; (repeat (refine And.intro (by first | omega | (intros; simp_all; done) | (intros; simp_all; omega)) ?_)); (repeat ((first | refine WV_seq_ ?_ | refine WV_block ?_ | refine WV_ops ?_ | refine WV_skip ?_ | refine WV_exit ?_); (try simp only [go_sem, init_env', Nat.reduceEqDiff, Nat.reduceAdd, Nat.reduceMul, reduceIte, Nat.reduceLeDiff, Nat.reduceLT, Nat.reduceBEq, reduceCtorEq, hP, ]); (repeat (refine And.intro (by first | omega | (intros; simp_all; done) | (intros; simp_all; omega)) ?_)))))
  (refine AG_pure (fun hG => works14) rfl (fun hG => by first | (simp only [go_sem, init_env', Nat.reduceEqDiff, Nat.reduceAdd, Nat.reduceMul, reduceIte, Nat.reduceLeDiff, Nat.reduceLT, Nat.reduceBEq, reduceCtorEq, hG]; done) | (simp only [go_sem, init_env', Nat.reduceEqDiff, Nat.reduceAdd, Nat.reduceMul, reduceIte, Nat.reduceLeDiff, Nat.reduceLT, Nat.reduceBEq, reduceCtorEq]; revert hG; simp; done) | (simp only [go_sem, init_env', Nat.reduceEqDiff, Nat.reduceAdd, Nat.reduceMul, reduceIte, Nat.reduceLeDiff, Nat.reduceLT, Nat.reduceBEq, reduceCtorEq, hG]; simp_all; done) | (revert hG; simp; done) | simp_all) rfl rfl rfl ?_; simp only [go_sem, init_env', Nat.reduceEqDiff, Nat.reduceAdd, Nat.reduceMul, reduceIte, Nat.reduceLeDiff, Nat.reduceLT, Nat.reduceBEq, reduceCtorEq, hP, ]; (repeat (refine And.intro (by first | omega | (intros; simp_all; done) | (intros; simp_all; omega)) ?_)); (repeat ((first | refine WV_seq_ ?_ | refine WV_block ?_ | refine WV_ops ?_ | refine WV_skip ?_ | refine WV_exit ?_); (try simp only [go_sem, init_env', Nat.reduceEqDiff, Nat.reduceAdd, Nat.reduceMul, reduceIte, Nat.reduceLeDiff, Nat.reduceLT, Nat.reduceBEq, reduceCtorEq, hP, ]); (repeat (refine And.intro (by first | omega | (intros; simp_all; done) | (intros; simp_all; omega)) ?_)))))
  (refine WV_ret ?_; simp only [thenQ, inQ, RetQ, RetOk, resAll, resA]; simp only [go_sem, init_env', Nat.reduceEqDiff, Nat.reduceAdd, Nat.reduceMul, reduceIte, Nat.reduceLeDiff, Nat.reduceLT, Nat.reduceBEq, reduceCtorEq, tupA, AV.port, AV.portL, exists_eq_left', ]; (first | exact AVle.of rfl | refine AVle.of ?_ | skip))

theorem sd_cases (l : List Side) (k : Nat) : (∃ x : Side, (l.map Side.cds).getD k [] = [.int .i64 x.plays, .sl 2 (x.parts.map Part.cds)]) ∨ (l.map Side.cds).getD k [] = [] := by
  by_cases h : k < l.length
  · exact .inl ⟨l[k], map_getD h⟩
  · exact .inr (by simp at h; simp [h])
set_option maxRecDepth 20000 in
set_option maxHeartbeats 16000000 in
theorem law5 (r : Royal) (s m : Int) : FSpec Try.prog 5 [r.av, iv s, iv m] (.c (.bool true)) := by
  have hready := ready13 r
  have hdf : (default : CD) = .int default default := rfl
  cases hok : r.ok
  · rw [hok] at hready
    rcases sd_cases r.sides s.toNat with ⟨x, hx⟩ | hx <;>
    · refine FSpec_of c5 (Nat.le_refl _) (by decide) fun C hP hN hC hL => ?_
      simp only [ir5, Royal.av]
      (repeat ((first | refine WV_seq_ ?_ | refine WV_block ?_ | refine WV_ops ?_ | refine WV_skip ?_ | refine WV_exit ?_); (try simp only [go_sem, init_env', Nat.reduceEqDiff, Nat.reduceAdd, Nat.reduceMul, reduceIte, Nat.reduceLeDiff, Nat.reduceLT, Nat.reduceBEq, reduceCtorEq, hP, ]); (repeat (refine And.intro (by first | omega | (intros; simp_all; done) | (intros; simp_all; omega)) ?_))))
      (refine AS_pure (hready) rfl rfl rfl rfl rfl ?_; simp only [go_sem, init_env', Nat.reduceEqDiff, Nat.reduceAdd, Nat.reduceMul, reduceIte, Nat.reduceLeDiff, Nat.reduceLT, Nat.reduceBEq, reduceCtorEq, hP, Royal.av, sidesC, hx, hdf, List.getD_nil]; (repeat (refine And.intro (by first | omega | (intros; simp_all; done) | (intros; simp_all; omega)) ?_)); (repeat ((first | refine WV_seq_ ?_ | refine WV_block ?_ | refine WV_ops ?_ | refine WV_skip ?_ | refine WV_exit ?_); (try simp only [go_sem, init_env', Nat.reduceEqDiff, Nat.reduceAdd, Nat.reduceMul, reduceIte, Nat.reduceLeDiff, Nat.reduceLT, Nat.reduceBEq, reduceCtorEq, hP, Royal.av, sidesC, hx, hdf, List.getD_nil]); (repeat (refine And.intro (by first | omega | (intros; simp_all; done) | (intros; simp_all; omega)) ?_)))))
      all_goals try (refine AG_skip ?_; simp only [go_sem, init_env', Nat.reduceEqDiff, Nat.reduceAdd, Nat.reduceMul, reduceIte, Nat.reduceLeDiff, Nat.reduceLT, Nat.reduceBEq, reduceCtorEq, hP, ]; (repeat (refine And.intro (by first | omega | (intros; simp_all; done) | (intros; simp_all; omega)) ?_)); (repeat ((first | refine WV_seq_ ?_ | refine WV_block ?_ | refine WV_ops ?_ | refine WV_skip ?_ | refine WV_exit ?_); (try simp only [go_sem, init_env', Nat.reduceEqDiff, Nat.reduceAdd, Nat.reduceMul, reduceIte, Nat.reduceLeDiff, Nat.reduceLT, Nat.reduceBEq, reduceCtorEq, hP, ]); (repeat (refine And.intro (by first | omega | (intros; simp_all; done) | (intros; simp_all; omega)) ?_)))))
      (refine WV_cond rfl (fun h => ?_) (fun h => ?_))
      · (repeat ((first | refine WV_seq_ ?_ | refine WV_block ?_ | refine WV_ops ?_ | refine WV_skip ?_ | refine WV_exit ?_); (try simp only [go_sem, init_env', Nat.reduceEqDiff, Nat.reduceAdd, Nat.reduceMul, reduceIte, Nat.reduceLeDiff, Nat.reduceLT, Nat.reduceBEq, reduceCtorEq, hP, ]); (repeat (refine And.intro (by first | omega | (intros; simp_all; done) | (intros; simp_all; omega)) ?_))))
        (refine AS_pure (works14) rfl rfl rfl rfl rfl ?_; simp only [go_sem, init_env', Nat.reduceEqDiff, Nat.reduceAdd, Nat.reduceMul, reduceIte, Nat.reduceLeDiff, Nat.reduceLT, Nat.reduceBEq, reduceCtorEq, hP, ]; (repeat (refine And.intro (by first | omega | (intros; simp_all; done) | (intros; simp_all; omega)) ?_)); (repeat ((first | refine WV_seq_ ?_ | refine WV_block ?_ | refine WV_ops ?_ | refine WV_skip ?_ | refine WV_exit ?_); (try simp only [go_sem, init_env', Nat.reduceEqDiff, Nat.reduceAdd, Nat.reduceMul, reduceIte, Nat.reduceLeDiff, Nat.reduceLT, Nat.reduceBEq, reduceCtorEq, hP, ]); (repeat (refine And.intro (by first | omega | (intros; simp_all; done) | (intros; simp_all; omega)) ?_)))))
        (refine WV_ret ?_; simp only [thenQ, inQ, RetQ, RetOk, resAll, resA]; simp only [go_sem, init_env', Nat.reduceEqDiff, Nat.reduceAdd, Nat.reduceMul, reduceIte, Nat.reduceLeDiff, Nat.reduceLT, Nat.reduceBEq, reduceCtorEq, tupA, AV.port, AV.portL, exists_eq_left', ]; (first | exact AVle.of rfl | refine AVle.of ?_ | skip))
      · simp at h
  rw [hok] at hready
  have hr := Royal.ok_spec hok
  have hpl := plays21 hr
  have hs6 := hr.s6
  have hnear := near_of (Royal.near hr)
  by_cases hs : 0 ≤ s ∧ s < (r.sides.length : Int)
  rotate_left
  · have hb : (decide (s < 0) || decide ((r.sides.length : Int) ≤ s)) = true := by simp; omega
    rcases sd_cases r.sides s.toNat with ⟨x, hx⟩ | hx <;>
    · refine FSpec_of c5 (Nat.le_refl _) (by decide) fun C hP hN hC hL => ?_
      simp only [ir5, Royal.av]
      (repeat ((first | refine WV_seq_ ?_ | refine WV_block ?_ | refine WV_ops ?_ | refine WV_skip ?_ | refine WV_exit ?_); (try simp only [go_sem, init_env', Nat.reduceEqDiff, Nat.reduceAdd, Nat.reduceMul, reduceIte, Nat.reduceLeDiff, Nat.reduceLT, Nat.reduceBEq, reduceCtorEq, hP, ]); (repeat (refine And.intro (by first | omega | (intros; simp_all; done) | (intros; simp_all; omega)) ?_))))
      (refine AS_pure (hready) rfl rfl rfl rfl rfl ?_; simp only [go_sem, init_env', Nat.reduceEqDiff, Nat.reduceAdd, Nat.reduceMul, reduceIte, Nat.reduceLeDiff, Nat.reduceLT, Nat.reduceBEq, reduceCtorEq, hP, Royal.av, sidesC, List.length_map, hb, hx, hdf, List.getD_nil]; (repeat (refine And.intro (by first | omega | (intros; simp_all; done) | (intros; simp_all; omega)) ?_)); (repeat ((first | refine WV_seq_ ?_ | refine WV_block ?_ | refine WV_ops ?_ | refine WV_skip ?_ | refine WV_exit ?_); (try simp only [go_sem, init_env', Nat.reduceEqDiff, Nat.reduceAdd, Nat.reduceMul, reduceIte, Nat.reduceLeDiff, Nat.reduceLT, Nat.reduceBEq, reduceCtorEq, hP, Royal.av, sidesC, List.length_map, hb, hx, hdf, List.getD_nil]); (repeat (refine And.intro (by first | omega | (intros; simp_all; done) | (intros; simp_all; omega)) ?_)))))
      all_goals try (refine AG_skip ?_; simp only [go_sem, init_env', Nat.reduceEqDiff, Nat.reduceAdd, Nat.reduceMul, reduceIte, Nat.reduceLeDiff, Nat.reduceLT, Nat.reduceBEq, reduceCtorEq, hP, ]; (repeat (refine And.intro (by first | omega | (intros; simp_all; done) | (intros; simp_all; omega)) ?_)); (repeat ((first | refine WV_seq_ ?_ | refine WV_block ?_ | refine WV_ops ?_ | refine WV_skip ?_ | refine WV_exit ?_); (try simp only [go_sem, init_env', Nat.reduceEqDiff, Nat.reduceAdd, Nat.reduceMul, reduceIte, Nat.reduceLeDiff, Nat.reduceLT, Nat.reduceBEq, reduceCtorEq, hP, ]); (repeat (refine And.intro (by first | omega | (intros; simp_all; done) | (intros; simp_all; omega)) ?_)))))
      (refine WV_cond rfl (fun h => ?_) (fun h => ?_))
      · (repeat ((first | refine WV_seq_ ?_ | refine WV_block ?_ | refine WV_ops ?_ | refine WV_skip ?_ | refine WV_exit ?_); (try simp only [go_sem, init_env', Nat.reduceEqDiff, Nat.reduceAdd, Nat.reduceMul, reduceIte, Nat.reduceLeDiff, Nat.reduceLT, Nat.reduceBEq, reduceCtorEq, hP, ]); (repeat (refine And.intro (by first | omega | (intros; simp_all; done) | (intros; simp_all; omega)) ?_))))
        (refine AS_pure (works14) rfl rfl rfl rfl rfl ?_; simp only [go_sem, init_env', Nat.reduceEqDiff, Nat.reduceAdd, Nat.reduceMul, reduceIte, Nat.reduceLeDiff, Nat.reduceLT, Nat.reduceBEq, reduceCtorEq, hP, ]; (repeat (refine And.intro (by first | omega | (intros; simp_all; done) | (intros; simp_all; omega)) ?_)); (repeat ((first | refine WV_seq_ ?_ | refine WV_block ?_ | refine WV_ops ?_ | refine WV_skip ?_ | refine WV_exit ?_); (try simp only [go_sem, init_env', Nat.reduceEqDiff, Nat.reduceAdd, Nat.reduceMul, reduceIte, Nat.reduceLeDiff, Nat.reduceLT, Nat.reduceBEq, reduceCtorEq, hP, ]); (repeat (refine And.intro (by first | omega | (intros; simp_all; done) | (intros; simp_all; omega)) ?_)))))
        (refine WV_ret ?_; simp only [thenQ, inQ, RetQ, RetOk, resAll, resA]; simp only [go_sem, init_env', Nat.reduceEqDiff, Nat.reduceAdd, Nat.reduceMul, reduceIte, Nat.reduceLeDiff, Nat.reduceLT, Nat.reduceBEq, reduceCtorEq, tupA, AV.port, AV.portL, exists_eq_left', ]; (first | exact AVle.of rfl | refine AVle.of ?_ | skip))
      · simp at h
  obtain ⟨k, rfl⟩ := Int.eq_ofNat_of_zero_le hs.1
  have hk : k < r.sides.length := by omega
  have b1 : decide ((k : Int) < 0) = false := by simp
  have b2 : decide ((r.sides.length : Int) ≤ (k : Int)) = false := by simp; omega
  have hI : (k : Int) < (r.sides.length : Int) := by omega
  have egd : (r.sides.map Side.cds).getD k [] = r.sides[k].cds := map_getD hk
  by_cases hgo : r.sides[k].parts.length = 1 ∧ 0 ≤ m ∧ m ≤ 9999 ∧ playsOf r ≠ 0
  rotate_left
  · have hb : (((((r.sides[k].parts.length : Int) != 1) || decide (m < 0)) || decide (9999 < m)) || (playsOf r == 0)) = true := by
      simp; omega
    refine FSpec_of c5 (Nat.le_refl _) (by decide) fun C hP hN hC hL => ?_
    simp only [ir5, Royal.av]
    (repeat ((first | refine WV_seq_ ?_ | refine WV_block ?_ | refine WV_ops ?_ | refine WV_skip ?_ | refine WV_exit ?_); (try simp only [go_sem, init_env', Nat.reduceEqDiff, Nat.reduceAdd, Nat.reduceMul, reduceIte, Nat.reduceLeDiff, Nat.reduceLT, Nat.reduceBEq, reduceCtorEq, hP, ]); (repeat (refine And.intro (by first | omega | (intros; simp_all; done) | (intros; simp_all; omega)) ?_))))
    (refine AS_pure (hready) rfl rfl rfl rfl rfl ?_; simp only [go_sem, init_env', Nat.reduceEqDiff, Nat.reduceAdd, Nat.reduceMul, reduceIte, Nat.reduceLeDiff, Nat.reduceLT, Nat.reduceBEq, reduceCtorEq, hP, Royal.av, sidesC, List.length_map, b1, b2, hI, egd, Side.cds, partsC, Int.natCast_nonneg]; (repeat (refine And.intro (by first | omega | (intros; simp_all; done) | (intros; simp_all; omega)) ?_)); (repeat ((first | refine WV_seq_ ?_ | refine WV_block ?_ | refine WV_ops ?_ | refine WV_skip ?_ | refine WV_exit ?_); (try simp only [go_sem, init_env', Nat.reduceEqDiff, Nat.reduceAdd, Nat.reduceMul, reduceIte, Nat.reduceLeDiff, Nat.reduceLT, Nat.reduceBEq, reduceCtorEq, hP, Royal.av, sidesC, List.length_map, b1, b2, hI, egd, Side.cds, partsC, Int.natCast_nonneg]); (repeat (refine And.intro (by first | omega | (intros; simp_all; done) | (intros; simp_all; omega)) ?_)))))
    (refine AG_pure (fun hG => hpl) rfl (fun hG => by first | (simp only [go_sem, init_env', Nat.reduceEqDiff, Nat.reduceAdd, Nat.reduceMul, reduceIte, Nat.reduceLeDiff, Nat.reduceLT, Nat.reduceBEq, reduceCtorEq, hG]; done) | (simp only [go_sem, init_env', Nat.reduceEqDiff, Nat.reduceAdd, Nat.reduceMul, reduceIte, Nat.reduceLeDiff, Nat.reduceLT, Nat.reduceBEq, reduceCtorEq]; revert hG; simp; done) | (simp only [go_sem, init_env', Nat.reduceEqDiff, Nat.reduceAdd, Nat.reduceMul, reduceIte, Nat.reduceLeDiff, Nat.reduceLT, Nat.reduceBEq, reduceCtorEq, hG]; simp_all; done) | (revert hG; simp; done) | simp_all) rfl rfl rfl ?_; simp only [go_sem, init_env', Nat.reduceEqDiff, Nat.reduceAdd, Nat.reduceMul, reduceIte, Nat.reduceLeDiff, Nat.reduceLT, Nat.reduceBEq, reduceCtorEq, hP, Royal.av, sidesC, hb]; (repeat (refine And.intro (by first | omega | (intros; simp_all; done) | (intros; simp_all; omega)) ?_)); (repeat ((first | refine WV_seq_ ?_ | refine WV_block ?_ | refine WV_ops ?_ | refine WV_skip ?_ | refine WV_exit ?_); (try simp only [go_sem, init_env', Nat.reduceEqDiff, Nat.reduceAdd, Nat.reduceMul, reduceIte, Nat.reduceLeDiff, Nat.reduceLT, Nat.reduceBEq, reduceCtorEq, hP, Royal.av, sidesC, hb]); (repeat (refine And.intro (by first | omega | (intros; simp_all; done) | (intros; simp_all; omega)) ?_)))))
    (refine WV_cond rfl (fun h => ?_) (fun h => ?_))
    · (repeat ((first | refine WV_seq_ ?_ | refine WV_block ?_ | refine WV_ops ?_ | refine WV_skip ?_ | refine WV_exit ?_); (try simp only [go_sem, init_env', Nat.reduceEqDiff, Nat.reduceAdd, Nat.reduceMul, reduceIte, Nat.reduceLeDiff, Nat.reduceLT, Nat.reduceBEq, reduceCtorEq, hP, ]); (repeat (refine And.intro (by first | omega | (intros; simp_all; done) | (intros; simp_all; omega)) ?_))))
      (refine AS_pure (works14) rfl rfl rfl rfl rfl ?_; simp only [go_sem, init_env', Nat.reduceEqDiff, Nat.reduceAdd, Nat.reduceMul, reduceIte, Nat.reduceLeDiff, Nat.reduceLT, Nat.reduceBEq, reduceCtorEq, hP, ]; (repeat (refine And.intro (by first | omega | (intros; simp_all; done) | (intros; simp_all; omega)) ?_)); (repeat ((first | refine WV_seq_ ?_ | refine WV_block ?_ | refine WV_ops ?_ | refine WV_skip ?_ | refine WV_exit ?_); (try simp only [go_sem, init_env', Nat.reduceEqDiff, Nat.reduceAdd, Nat.reduceMul, reduceIte, Nat.reduceLeDiff, Nat.reduceLT, Nat.reduceBEq, reduceCtorEq, hP, ]); (repeat (refine And.intro (by first | omega | (intros; simp_all; done) | (intros; simp_all; omega)) ?_)))))
      (refine WV_ret ?_; simp only [thenQ, inQ, RetQ, RetOk, resAll, resA]; simp only [go_sem, init_env', Nat.reduceEqDiff, Nat.reduceAdd, Nat.reduceMul, reduceIte, Nat.reduceLeDiff, Nat.reduceLT, Nat.reduceBEq, reduceCtorEq, tupA, AV.port, AV.portL, exists_eq_left', ]; (first | exact AVle.of rfl | refine AVle.of ?_ | skip))
    · simp at h
  obtain ⟨g1, g2, g3, g4⟩ := hgo
  have b3 : decide (m < 0) = false := by simp; omega
  have b4 : decide (9999 < m) = false := by simp; omega
  have b5 : (playsOf r == 0) = false := by simpa using g4
  have b6 : (((r.sides[k].parts.length : Nat) : Int) != 1) = false := by rw [g1]; decide
  obtain ⟨p, hp⟩ : ∃ p, r.sides[k].parts = [p] := List.length_eq_one_iff.1 g1
  have hne : r.sides ≠ [] := fun h => by rw [h] at hk; cases hk
  have hab := allW_bd hr
  have hap := allW_plays r
  have hW : Weighed r := ⟨hok, hr, by omega, hab.2, wts_len r, wts_bd hr, wts_sum hr⟩
  refine FSpec_of c5 (Nat.le_refl _) (by decide) fun C hP hN hC hL => ?_
  have ht := tail5 hP r k m hk ⟨g2, g3⟩ hW hp
  simp only [ir5, Royal.av]
  (repeat ((first | refine WV_seq_ ?_ | refine WV_block ?_ | refine WV_ops ?_ | refine WV_skip ?_ | refine WV_exit ?_); (try simp only [go_sem, init_env', Nat.reduceEqDiff, Nat.reduceAdd, Nat.reduceMul, reduceIte, Nat.reduceLeDiff, Nat.reduceLT, Nat.reduceBEq, reduceCtorEq, hP, ]); (repeat (refine And.intro (by first | omega | (intros; simp_all; done) | (intros; simp_all; omega)) ?_))))
  (refine AS_pure (hready) rfl rfl rfl rfl rfl ?_; simp only [go_sem, init_env', Nat.reduceEqDiff, Nat.reduceAdd, Nat.reduceMul, reduceIte, Nat.reduceLeDiff, Nat.reduceLT, Nat.reduceBEq, reduceCtorEq, hP, Royal.av, sidesC, List.length_map, b1, b2, b3, b4, b6, hI, egd, Side.cds, partsC, Int.natCast_nonneg]; (repeat (refine And.intro (by first | omega | (intros; simp_all; done) | (intros; simp_all; omega)) ?_)); (repeat ((first | refine WV_seq_ ?_ | refine WV_block ?_ | refine WV_ops ?_ | refine WV_skip ?_ | refine WV_exit ?_); (try simp only [go_sem, init_env', Nat.reduceEqDiff, Nat.reduceAdd, Nat.reduceMul, reduceIte, Nat.reduceLeDiff, Nat.reduceLT, Nat.reduceBEq, reduceCtorEq, hP, Royal.av, sidesC, List.length_map, b1, b2, b3, b4, b6, hI, egd, Side.cds, partsC, Int.natCast_nonneg]); (repeat (refine And.intro (by first | omega | (intros; simp_all; done) | (intros; simp_all; omega)) ?_)))))
  (refine AG_pure (fun hG => hpl) rfl (fun hG => by first | (simp only [go_sem, init_env', Nat.reduceEqDiff, Nat.reduceAdd, Nat.reduceMul, reduceIte, Nat.reduceLeDiff, Nat.reduceLT, Nat.reduceBEq, reduceCtorEq, hG]; done) | (simp only [go_sem, init_env', Nat.reduceEqDiff, Nat.reduceAdd, Nat.reduceMul, reduceIte, Nat.reduceLeDiff, Nat.reduceLT, Nat.reduceBEq, reduceCtorEq]; revert hG; simp; done) | (simp only [go_sem, init_env', Nat.reduceEqDiff, Nat.reduceAdd, Nat.reduceMul, reduceIte, Nat.reduceLeDiff, Nat.reduceLT, Nat.reduceBEq, reduceCtorEq, hG]; simp_all; done) | (revert hG; simp; done) | simp_all) rfl rfl rfl ?_; simp only [go_sem, init_env', Nat.reduceEqDiff, Nat.reduceAdd, Nat.reduceMul, reduceIte, Nat.reduceLeDiff, Nat.reduceLT, Nat.reduceBEq, reduceCtorEq, hP, Royal.av, sidesC, b5]; (repeat (refine And.intro (by first | omega | (intros; simp_all; done) | (intros; simp_all; omega)) ?_)); (repeat ((first | refine WV_seq_ ?_ | refine WV_block ?_ | refine WV_ops ?_ | refine WV_skip ?_ | refine WV_exit ?_); (try simp only [go_sem, init_env', Nat.reduceEqDiff, Nat.reduceAdd, Nat.reduceMul, reduceIte, Nat.reduceLeDiff, Nat.reduceLT, Nat.reduceBEq, reduceCtorEq, hP, Royal.av, sidesC, b5]); (repeat (refine And.intro (by first | omega | (intros; simp_all; done) | (intros; simp_all; omega)) ?_)))))
  (refine WV_cond rfl (fun h => ?_) (fun h => ?_))
  · simp at h
  clear h
  (repeat ((first | refine WV_seq_ ?_ | refine WV_block ?_ | refine WV_ops ?_ | refine WV_skip ?_ | refine WV_exit ?_); (try simp only [go_sem, init_env', Nat.reduceEqDiff, Nat.reduceAdd, Nat.reduceMul, reduceIte, Nat.reduceLeDiff, Nat.reduceLT, Nat.reduceBEq, reduceCtorEq, hP, ]); (repeat (refine And.intro (by first | omega | (intros; simp_all; done) | (intros; simp_all; omega)) ?_))))
  refine AS_new (copyN r hnear hne) rfl rfl rfl rfl ?_
  rintro res os ⟨cap, j, h1, h2, h3, rfl, rfl⟩
  refine ⟨[900], .agg [iv r.pool, .vw 2 900 0 r.sides.length cap, .c (ints r.owed)], [.box (cellsG Side.cds r.sides j)], by decide, rfl, by simp only [go_sem, init_env', Nat.reduceEqDiff, Nat.reduceAdd, Nat.reduceMul, reduceIte, Nat.reduceLeDiff, Nat.reduceLT, Nat.reduceBEq, reduceCtorEq, decide_true], rfl, ?_, ?_⟩
  · simp only [obsBack, Ob.back, back_cellsG]; rfl
  simp only [go_sem, init_env', Nat.reduceEqDiff, Nat.reduceAdd, Nat.reduceMul, reduceIte, Nat.reduceLeDiff, Nat.reduceLT, Nat.reduceBEq, reduceCtorEq, hP, ownBack]
  (repeat (refine And.intro (by first | omega | (intros; simp_all; done) | (intros; simp_all; omega)) ?_))
  have hp9 := hr.plays _ (List.getElem_mem hk)
  have hw3 := w64 (n := r.sides[k].plays + m) (by omega) (by omega)
  have hg0 : ∀ x, (cellsG Side.cds r.sides j).getD (k * 2) x = .c (.int .i64 r.sides[k].plays) := fun x => by
    have := cellsG_get side_two hk j 0 (d := .int .i64 r.sides[k].plays) rfl x
    rwa [Nat.add_zero] at this
  have hs0 : (cellsG Side.cds r.sides j).set (k * 2) (.c (.int .i64 (r.sides[k].plays + m))) = cellsG Side.cds (r.sides.modify k (moreSd m)) j := by
    have := cellsG_set side_two hk j 0 (by decide) (.int .i64 (r.sides[k].plays + m)) (moreSd m r.sides[k]) rfl
    rwa [Nat.add_zero, ← modify_set] at this
  have hcl : k * 2 < (cellsG Side.cds r.sides j).length := by rw [cellsG_len side_two]; omega
  have hcl2 : k * 2 + 1 ≤ (cellsG Side.cds r.sides j).length := hcl
  (refine WV_seq_ (WV_ops ?_); simp only [go_sem, init_env', Nat.reduceEqDiff, Nat.reduceAdd, Nat.reduceMul, reduceIte, Nat.reduceLeDiff, Nat.reduceLT, Nat.reduceBEq, reduceCtorEq, hP, Int.natCast_nonneg, hI, hg0, hs0, hw3, hcl, hcl2]; (repeat (refine And.intro (by first | omega | (intros; simp_all; done) | (intros; simp_all; omega)) ?_)))
  have hSl : (r.sides.modify k (moreSd m)).length = r.sides.length := by simp
  have hgr := sides_grp (r.sides.modify k (moreSd m))
  have hfl := sides_fit (r.sides.modify k (moreSd m))
  rw [hSl] at hgr hfl
  refine WV_freezeJ 900 (ds := flatG Side.cds (r.sides.modify k (moreSd m))) (junk := List.replicate j .non) rfl ?_
  simp only [go_sem, init_env', Nat.reduceEqDiff, Nat.reduceAdd, Nat.reduceMul, reduceIte, Nat.reduceLeDiff, Nat.reduceLT, Nat.reduceBEq, reduceCtorEq, hfl, hgr]
  exact WV_sub (Sub_of (by simp only [go_sem, init_env', Nat.reduceEqDiff, Nat.reduceAdd, Nat.reduceMul, reduceIte, Nat.reduceLeDiff, Nat.reduceLT, Nat.reduceBEq, reduceCtorEq]; ((repeat' (first | exact EnvLe_e0 _ _ | refine EnvLe_upd ?_ ?_)) <;> ((try simp only [upd_app, e0_app, o0_app, Nat.reduceEqDiff, reduceIte]); first | exact AWk.refl _ _ | exact AWk.int (by omega) | exact AWk.int (by rw [w64 (by omega) (by omega)]; omega) | exact AWk.grow rfl | exact AWk.nil _ | exact AWk.of (by simp)))) (by simp only [go_sem, init_env', Nat.reduceEqDiff, Nat.reduceAdd, Nat.reduceMul, reduceIte, Nat.reduceLeDiff, Nat.reduceLT, Nat.reduceBEq, reduceCtorEq]; ((repeat' (first | exact ObjLe_o0 _ | exact ObjLe.rfl' _ | refine ObjLe_same ?_ | refine ObjLe_upd ?_ ?_ | refine ObjLe_new rfl ?_)) <;> rfl))) ht
end Go.Proofs.Ytnmchaemhjnkgaa
