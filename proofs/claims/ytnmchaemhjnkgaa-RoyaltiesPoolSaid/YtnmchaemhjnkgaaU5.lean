/-
  Contracts of the layer's functions, of the laws' helpers and of the law; conditions: as each theorem states.
-/
import Derived.Test.YtnmchaemhjnkgaaU4
set_option linter.unusedVariables false
set_option linter.unusedSimpArgs false
namespace Go.Proofs.Ytnmchaemhjnkgaa
open Go Go.V

/-! ### The first one -/
theorem firstP_spec (p : Int → Bool) : ∀ (m : Nat) (a : Int), (∃ n, firstP p m a = (n, 0) ∧ a ≤ n ∧ n < a + m ∧ p n = true ∧ ∀ x, a ≤ x → x < n → p x = false) ∨ (firstP p m a = (0, 3) ∧ ∀ x, a ≤ x → x < a + m → p x = false)
  | 0, a => .inr ⟨rfl, fun x h1 h2 => by omega⟩
  | m + 1, a => by
    cases hp : p a with
    | true => exact .inl ⟨a, firstP_step hp, Int.le_refl _, by omega, hp, fun x h1 h2 => by omega⟩
    | false =>
      rw [firstP_next hp]
      rcases firstP_spec p m (a + 1) with ⟨n, h1, h2, h3, h4, h5⟩ | ⟨h1, h2⟩
      · refine .inl ⟨n, h1, by omega, by omega, h4, fun x h6 h7 => ?_⟩
        by_cases e : x = a
        · subst e; exact hp
        · exact h5 x (by omega) h7
      · refine .inr ⟨h1, fun x h6 h7 => ?_⟩
        by_cases e : x = a
        · subst e; exact hp
        · exact h2 x (by omega) (by omega)

@[reducible] def o28_0 : List Ins := [⟨(some 3), .box 3 (.t 0), none, true⟩,
  ⟨(some 6), .mv (.k (.c (.int .i64 0))), none, true⟩,
  ⟨(some 7), .mv (.k (.c (.bool false))), none, true⟩]
@[reducible] def o28_1 : List Ins := [⟨(some 11), .ld false 3 (.t 3), none, true⟩,
  ⟨(some 12), .call (.k (.fn 24 [])) [(.t 11)], none, true⟩,
  ⟨(some 8), .alloc [(.c (.int .i64 0)), (.c (.raw (.slice none 0 0))), (.c (.raw (.slice none 0 0)))], none, true⟩,
  ⟨none, .st 3 (.t 8) (.t 12), none, true⟩]
@[reducible] def o28_2 : List Ins := [⟨(some 13), .mv (.t 2), none, true⟩,
  ⟨(some 14), .fa 0 (.t 8), none, true⟩,
  ⟨none, .st 1 (.t 14) (.t 13), none, true⟩]
@[reducible] def o28_3 : List Ins := [⟨(some 16), .ld false 3 (.t 8), none, true⟩,
  ⟨(some 17), .call (.k (.fn 15 [])) [(.t 16)], none, true⟩,
  ⟨(some 15), .mv (.t 17), none, true⟩,
  ⟨(some 18), .ext (.t 15) 0, none, true⟩,
  ⟨(some 19), .ext (.t 15) 1, none, true⟩,
  ⟨(some 9), .mv (.t 18), none, true⟩,
  ⟨(some 10), .mv (.t 19), none, true⟩]
@[reducible] def o28_4 : List Ins := [⟨(some 20), .mv (.t 10), none, true⟩,
  ⟨(some 21), .bin .neq (.t 20) (.k (.c (.int .i64 0))), none, true⟩,
  ⟨(some 22), .mv (.t 21), none, true⟩,
  ⟨(some 23), .ld false 3 (.t 3), (some (22, false)), true⟩,
  ⟨(some 24), .mv (.t 9), (some (22, false)), true⟩,
  ⟨(some 25), .call (.k (.fn 17 [])) [(.t 23), (.t 24), (.k (.c (.int .i64 9999)))], (some (22, false)), true⟩,
  ⟨(some 26), .un .not (.t 25), (some (22, false)), true⟩,
  ⟨(some 27), .pick (.t 22) (.k (.c (.bool true))) (.t 26), none, true⟩]
@[reducible] def o28_5 : List Ins := [⟨(some 6), .mv (.k (.c (.int .i64 0))), none, true⟩,
  ⟨(some 7), .mv (.k (.c (.bool false))), none, true⟩]
@[reducible] def v28_6 : VC := (.seq (.ops o28_5) .ret)
@[reducible] def v28_7 : VC := (.cond (.t 27) v28_6 .skip)
@[reducible] def o28_8 : List Ins := [⟨(some 28), .mv (.t 9), none, true⟩,
  ⟨(some 29), .mv (.t 1), none, true⟩,
  ⟨(some 30), .ia 1 (.t 28) (.t 29), none, true⟩,
  ⟨(some 31), .ld true 1 (.t 30), none, true⟩,
  ⟨(some 6), .mv (.t 31), none, true⟩,
  ⟨(some 7), .mv (.k (.c (.bool true))), none, true⟩]
@[reducible] def v28_9 : VC := (.seq (.ops o28_8) .ret)
@[reducible] def v28_10 : VC := (.seq (.seq (.ops o28_4) v28_7) v28_9)
@[reducible] def v28_11 : VC := (.seq (.ops o28_3) v28_10)
@[reducible] def v28_12 : VC := (.seq (.ops o28_2) v28_11)
@[reducible] def v28_13 : VC := (.seq (.ops o28_1) v28_12)
def ir28 : FC := ⟨3, 32, [.t 6, .t 7], (.seq (.ops o28_0) v28_13)⟩
@[reducible] def o6_0 : List Ins := [⟨(some 2), .box 3 (.t 0), none, true⟩,
  ⟨(some 3), .box 3 (.t 1), none, true⟩,
  ⟨(some 4), .mv (.k (.c (.bool false))), none, true⟩]
@[reducible] def o6_1 : List Ins := [⟨(some 17), .ld false 3 (.t 2), none, true⟩,
  ⟨(some 18), .call (.k (.fn 13 [])) [(.t 17)], none, true⟩,
  ⟨(some 19), .un .not (.t 18), none, true⟩,
  ⟨(some 20), .mv (.t 19), none, true⟩,
  ⟨(some 21), .fa 0 (.t 2), (some (20, false)), true⟩,
  ⟨(some 22), .ld true 1 (.t 21), (some (20, false)), true⟩,
  ⟨(some 23), .bin .gtr (.t 22) (.k (.c (.int .i64 1000))), (some (20, false)), true⟩,
  ⟨(some 24), .pick (.t 20) (.k (.c (.bool true))) (.t 23), none, true⟩,
  ⟨(some 25), .mv (.t 24), none, true⟩,
  ⟨(some 26), .ld false 3 (.t 2), (some (25, false)), true⟩,
  ⟨(some 27), .fa 0 (.t 3), (some (25, false)), true⟩,
  ⟨(some 28), .ld true 1 (.t 27), (some (25, false)), true⟩,
  ⟨(some 29), .call (.k (.fn 19 [])) [(.t 26), (.t 28)], (some (25, false)), true⟩,
  ⟨(some 30), .un .not (.t 29), (some (25, false)), true⟩,
  ⟨(some 31), .pick (.t 25) (.k (.c (.bool true))) (.t 30), none, true⟩,
  ⟨(some 32), .mv (.t 31), none, true⟩,
  ⟨(some 33), .fa 1 (.t 3), (some (32, false)), true⟩,
  ⟨(some 34), .ld true 1 (.t 33), (some (32, false)), true⟩,
  ⟨(some 35), .bin .lss (.t 34) (.k (.c (.int .i64 0))), (some (32, false)), true⟩,
  ⟨(some 36), .pick (.t 32) (.k (.c (.bool true))) (.t 35), none, true⟩,
  ⟨(some 37), .mv (.t 36), none, true⟩,
  ⟨(some 38), .fa 1 (.t 3), (some (37, false)), true⟩,
  ⟨(some 39), .ld true 1 (.t 38), (some (37, false)), true⟩,
  ⟨(some 40), .bin .gtr (.t 39) (.k (.c (.int .i64 9999))), (some (37, false)), true⟩,
  ⟨(some 41), .pick (.t 37) (.k (.c (.bool true))) (.t 40), none, true⟩,
  ⟨(some 42), .mv (.t 41), none, true⟩,
  ⟨(some 43), .fa 2 (.t 3), (some (42, false)), true⟩,
  ⟨(some 44), .ld true 1 (.t 43), (some (42, false)), true⟩,
  ⟨(some 45), .bin .lss (.t 44) (.k (.c (.int .i64 0))), (some (42, false)), true⟩,
  ⟨(some 46), .pick (.t 42) (.k (.c (.bool true))) (.t 45), none, true⟩,
  ⟨(some 47), .mv (.t 46), none, true⟩,
  ⟨(some 48), .fa 2 (.t 3), (some (47, false)), true⟩,
  ⟨(some 49), .ld true 1 (.t 48), (some (47, false)), true⟩,
  ⟨(some 50), .bin .gtr (.t 49) (.k (.c (.int .i64 9999))), (some (47, false)), true⟩,
  ⟨(some 51), .pick (.t 47) (.k (.c (.bool true))) (.t 50), none, true⟩]
@[reducible] def o6_2 : List Ins := [⟨(some 52), .call (.k (.fn 14 [])) [], none, true⟩,
  ⟨(some 4), .mv (.t 52), none, true⟩]
@[reducible] def v6_3 : VC := (.seq (.ops o6_2) .ret)
@[reducible] def v6_4 : VC := (.cond (.t 51) v6_3 .skip)
@[reducible] def o6_5 : List Ins := [⟨(some 54), .ld false 3 (.t 2), none, true⟩,
  ⟨(some 55), .fa 0 (.t 3), none, true⟩,
  ⟨(some 56), .ld true 1 (.t 55), none, true⟩,
  ⟨(some 57), .fa 1 (.t 3), none, true⟩,
  ⟨(some 58), .ld true 1 (.t 57), none, true⟩,
  ⟨(some 59), .call (.k (.fn 26 [])) [(.t 54), (.t 56), (.t 58)], none, true⟩,
  ⟨(some 53), .mv (.t 59), none, true⟩,
  ⟨(some 60), .ext (.t 53) 0, none, true⟩,
  ⟨(some 61), .ext (.t 53) 1, none, true⟩,
  ⟨(some 5), .mv (.t 60), none, true⟩,
  ⟨(some 6), .mv (.t 61), none, true⟩]
@[reducible] def o6_6 : List Ins := [⟨(some 63), .ld false 3 (.t 2), none, true⟩,
  ⟨(some 64), .fa 0 (.t 3), none, true⟩,
  ⟨(some 65), .ld true 1 (.t 64), none, true⟩,
  ⟨(some 66), .call (.k (.fn 27 [])) [(.t 63), (.t 65)], none, true⟩,
  ⟨(some 62), .mv (.t 66), none, true⟩,
  ⟨(some 67), .ext (.t 62) 0, none, true⟩,
  ⟨(some 68), .ext (.t 62) 1, none, true⟩,
  ⟨(some 7), .mv (.t 67), none, true⟩,
  ⟨(some 8), .mv (.t 68), none, true⟩]
@[reducible] def o6_7 : List Ins := [⟨(some 69), .ld false 3 (.t 2), none, true⟩,
  ⟨(some 70), .call (.k (.fn 21 [])) [(.t 69)], none, true⟩,
  ⟨(some 71), .bin .eql (.t 70) (.k (.c (.int .i64 0))), none, true⟩]
@[reducible] def o6_8 : List Ins := [⟨(some 72), .mv (.t 6), none, true⟩,
  ⟨(some 73), .bin .eql (.t 72) (.k (.c (.int .i64 3))), none, true⟩,
  ⟨(some 74), .mv (.t 73), none, true⟩,
  ⟨(some 75), .mv (.t 8), (some (74, true)), true⟩,
  ⟨(some 76), .bin .eql (.t 75) (.k (.c (.int .i64 3))), (some (74, true)), true⟩,
  ⟨(some 77), .pick (.t 74) (.t 76) (.k (.c (.bool false))), none, true⟩,
  ⟨(some 78), .mv (.t 77), none, true⟩,
  ⟨(some 79), .call (.k (.fn 14 [])) [], (some (78, true)), true⟩,
  ⟨(some 80), .pick (.t 78) (.t 79) (.k (.c (.bool false))), none, true⟩,
  ⟨(some 4), .mv (.t 80), none, true⟩]
@[reducible] def v6_9 : VC := (.seq (.ops o6_8) .ret)
@[reducible] def v6_10 : VC := (.cond (.t 71) v6_9 .skip)
@[reducible] def o6_11 : List Ins := [⟨(some 81), .mv (.t 6), none, true⟩,
  ⟨(some 82), .bin .neq (.t 81) (.k (.c (.int .i64 0))), none, true⟩,
  ⟨(some 83), .mv (.t 82), none, true⟩,
  ⟨(some 84), .mv (.t 6), (some (83, true)), true⟩,
  ⟨(some 85), .bin .neq (.t 84) (.k (.c (.int .i64 3))), (some (83, true)), true⟩,
  ⟨(some 86), .pick (.t 83) (.t 85) (.k (.c (.bool false))), none, true⟩,
  ⟨(some 87), .mv (.t 86), none, true⟩,
  ⟨(some 88), .mv (.t 8), (some (87, false)), true⟩,
  ⟨(some 89), .bin .neq (.t 88) (.k (.c (.int .i64 0))), (some (87, false)), true⟩,
  ⟨(some 90), .mv (.t 89), (some (87, false)), true⟩,
  ⟨(some 91), .mv (.t 8), (some (90, true)), true⟩,
  ⟨(some 92), .bin .neq (.t 91) (.k (.c (.int .i64 3))), (some (90, true)), true⟩,
  ⟨(some 93), .pick (.t 90) (.t 92) (.k (.c (.bool false))), (some (87, false)), true⟩,
  ⟨(some 94), .pick (.t 87) (.k (.c (.bool true))) (.t 93), none, true⟩,
  ⟨(some 95), .mv (.t 94), none, true⟩,
  ⟨(some 96), .mv (.t 5), (some (95, false)), true⟩,
  ⟨(some 97), .bin .lss (.t 96) (.k (.c (.int .i64 0))), (some (95, false)), true⟩,
  ⟨(some 98), .pick (.t 95) (.k (.c (.bool true))) (.t 97), none, true⟩,
  ⟨(some 99), .mv (.t 98), none, true⟩,
  ⟨(some 100), .mv (.t 5), (some (99, false)), true⟩,
  ⟨(some 101), .bin .gtr (.t 100) (.k (.c (.int .i64 9999))), (some (99, false)), true⟩,
  ⟨(some 102), .pick (.t 99) (.k (.c (.bool true))) (.t 101), none, true⟩,
  ⟨(some 103), .mv (.t 102), none, true⟩,
  ⟨(some 104), .mv (.t 8), (some (103, false)), true⟩,
  ⟨(some 105), .bin .eql (.t 104) (.k (.c (.int .i64 0))), (some (103, false)), true⟩,
  ⟨(some 106), .mv (.t 105), (some (103, false)), true⟩,
  ⟨(some 107), .mv (.t 7), (some (106, true)), true⟩,
  ⟨(some 108), .bin .lss (.t 107) (.k (.c (.int .i64 1))), (some (106, true)), true⟩,
  ⟨(some 109), .mv (.t 108), (some (106, true)), true⟩,
  ⟨(some 110), .mv (.t 7), (some (109, false)), true⟩,
  ⟨(some 111), .fa 0 (.t 2), (some (109, false)), true⟩,
  ⟨(some 112), .ld true 1 (.t 111), (some (109, false)), true⟩,
  ⟨(some 113), .bin .gtr (.t 110) (.t 112), (some (109, false)), true⟩,
  ⟨(some 114), .pick (.t 109) (.k (.c (.bool true))) (.t 113), (some (106, true)), true⟩,
  ⟨(some 115), .pick (.t 106) (.t 114) (.k (.c (.bool false))), (some (103, false)), true⟩,
  ⟨(some 116), .pick (.t 103) (.k (.c (.bool true))) (.t 115), none, true⟩]
@[reducible] def o6_12 : List Ins := [⟨(some 4), .mv (.k (.c (.bool false))), none, true⟩]
@[reducible] def v6_13 : VC := (.seq (.ops o6_12) .ret)
@[reducible] def v6_14 : VC := (.cond (.t 116) v6_13 .skip)
@[reducible] def o6_15 : List Ins := [⟨(some 117), .mv (.t 6), none, true⟩,
  ⟨(some 118), .bin .eql (.t 117) (.k (.c (.int .i64 0))), none, true⟩]
@[reducible] def o6_16 : List Ins := [⟨(some 120), .ld false 3 (.t 2), none, true⟩,
  ⟨(some 121), .fa 0 (.t 3), none, true⟩,
  ⟨(some 122), .ld true 1 (.t 121), none, true⟩,
  ⟨(some 123), .mv (.t 5), none, true⟩,
  ⟨(some 124), .call (.k (.fn 28 [])) [(.t 120), (.t 122), (.t 123)], none, true⟩,
  ⟨(some 119), .mv (.t 124), none, true⟩,
  ⟨(some 125), .ext (.t 119) 0, none, true⟩,
  ⟨(some 126), .ext (.t 119) 1, none, true⟩,
  ⟨(some 9), .mv (.t 125), none, true⟩,
  ⟨(some 10), .mv (.t 126), none, true⟩]
@[reducible] def o6_17 : List Ins := [⟨(some 127), .mv (.t 10), none, true⟩,
  ⟨(some 128), .un .not (.t 127), none, true⟩,
  ⟨(some 129), .mv (.t 128), none, true⟩,
  ⟨(some 130), .mv (.t 9), (some (129, false)), true⟩,
  ⟨(some 131), .fa 1 (.t 3), (some (129, false)), true⟩,
  ⟨(some 132), .ld true 1 (.t 131), (some (129, false)), true⟩,
  ⟨(some 133), .bin .lss (.t 130) (.t 132), (some (129, false)), true⟩,
  ⟨(some 134), .pick (.t 129) (.k (.c (.bool true))) (.t 133), none, true⟩]
@[reducible] def o6_18 : List Ins := [⟨(some 4), .mv (.k (.c (.bool false))), none, true⟩]
@[reducible] def v6_19 : VC := (.seq (.ops o6_18) .ret)
@[reducible] def v6_20 : VC := (.cond (.t 134) v6_19 .skip)
@[reducible] def v6_21 : VC := (.seq (.ops o6_17) v6_20)
@[reducible] def v6_22 : VC := (.seq (.ops o6_16) v6_21)
@[reducible] def v6_23 : VC := (.cond (.t 118) v6_22 .skip)
@[reducible] def o6_24 : List Ins := [⟨(some 135), .mv (.t 6), none, true⟩,
  ⟨(some 136), .bin .neq (.t 135) (.k (.c (.int .i64 0))), none, true⟩,
  ⟨(some 137), .mv (.t 136), none, true⟩,
  ⟨(some 138), .fa 2 (.t 3), (some (137, false)), true⟩,
  ⟨(some 139), .ld true 1 (.t 138), (some (137, false)), true⟩,
  ⟨(some 140), .mv (.t 5), (some (137, false)), true⟩,
  ⟨(some 141), .bin .lss (.t 139) (.t 140), (some (137, false)), true⟩,
  ⟨(some 142), .pick (.t 137) (.k (.c (.bool true))) (.t 141), none, true⟩]
@[reducible] def o6_25 : List Ins := [⟨(some 144), .ld false 3 (.t 2), none, true⟩,
  ⟨(some 145), .fa 0 (.t 3), none, true⟩,
  ⟨(some 146), .ld true 1 (.t 145), none, true⟩,
  ⟨(some 147), .fa 2 (.t 3), none, true⟩,
  ⟨(some 148), .ld true 1 (.t 147), none, true⟩,
  ⟨(some 149), .call (.k (.fn 28 [])) [(.t 144), (.t 146), (.t 148)], none, true⟩,
  ⟨(some 143), .mv (.t 149), none, true⟩,
  ⟨(some 150), .ext (.t 143) 0, none, true⟩,
  ⟨(some 151), .ext (.t 143) 1, none, true⟩,
  ⟨(some 11), .mv (.t 150), none, true⟩,
  ⟨(some 12), .mv (.t 151), none, true⟩]
@[reducible] def o6_26 : List Ins := [⟨(some 152), .mv (.t 12), none, true⟩,
  ⟨(some 153), .un .not (.t 152), none, true⟩,
  ⟨(some 154), .mv (.t 153), none, true⟩,
  ⟨(some 155), .mv (.t 11), (some (154, false)), true⟩,
  ⟨(some 156), .fa 1 (.t 3), (some (154, false)), true⟩,
  ⟨(some 157), .ld true 1 (.t 156), (some (154, false)), true⟩,
  ⟨(some 158), .bin .geq (.t 155) (.t 157), (some (154, false)), true⟩,
  ⟨(some 159), .pick (.t 154) (.k (.c (.bool true))) (.t 158), none, true⟩]
@[reducible] def o6_27 : List Ins := [⟨(some 4), .mv (.k (.c (.bool false))), none, true⟩]
@[reducible] def v6_28 : VC := (.seq (.ops o6_27) .ret)
@[reducible] def v6_29 : VC := (.cond (.t 159) v6_28 .skip)
@[reducible] def v6_30 : VC := (.seq (.ops o6_26) v6_29)
@[reducible] def v6_31 : VC := (.seq (.ops o6_25) v6_30)
@[reducible] def v6_32 : VC := (.cond (.t 142) v6_31 .skip)
@[reducible] def o6_33 : List Ins := [⟨(some 160), .mv (.t 8), none, true⟩,
  ⟨(some 161), .bin .neq (.t 160) (.k (.c (.int .i64 0))), none, true⟩]
@[reducible] def o6_34 : List Ins := [⟨(some 162), .call (.k (.fn 14 [])) [], none, true⟩,
  ⟨(some 4), .mv (.t 162), none, true⟩]
@[reducible] def v6_35 : VC := (.seq (.ops o6_34) .ret)
@[reducible] def v6_36 : VC := (.cond (.t 161) v6_35 .skip)
@[reducible] def o6_37 : List Ins := [⟨(some 164), .ld false 3 (.t 2), none, true⟩,
  ⟨(some 165), .fa 0 (.t 3), none, true⟩,
  ⟨(some 166), .ld true 1 (.t 165), none, true⟩,
  ⟨(some 167), .mv (.t 7), none, true⟩,
  ⟨(some 168), .call (.k (.fn 28 [])) [(.t 164), (.t 166), (.t 167)], none, true⟩,
  ⟨(some 163), .mv (.t 168), none, true⟩,
  ⟨(some 169), .ext (.t 163) 0, none, true⟩,
  ⟨(some 170), .ext (.t 163) 1, none, true⟩,
  ⟨(some 13), .mv (.t 169), none, true⟩,
  ⟨(some 14), .mv (.t 170), none, true⟩]
@[reducible] def o6_38 : List Ins := [⟨(some 172), .ld false 3 (.t 2), none, true⟩,
  ⟨(some 173), .fa 0 (.t 3), none, true⟩,
  ⟨(some 174), .ld true 1 (.t 173), none, true⟩,
  ⟨(some 175), .mv (.t 7), none, true⟩,
  ⟨(some 176), .bin .sub (.t 175) (.k (.c (.int .i64 1))), none, true⟩,
  ⟨(some 177), .call (.k (.fn 28 [])) [(.t 172), (.t 174), (.t 176)], none, true⟩,
  ⟨(some 171), .mv (.t 177), none, true⟩,
  ⟨(some 178), .ext (.t 171) 0, none, true⟩,
  ⟨(some 179), .ext (.t 171) 1, none, true⟩,
  ⟨(some 15), .mv (.t 178), none, true⟩,
  ⟨(some 16), .mv (.t 179), none, true⟩]
@[reducible] def o6_39 : List Ins := [⟨(some 180), .mv (.t 14), none, true⟩,
  ⟨(some 181), .mv (.t 180), none, true⟩,
  ⟨(some 182), .mv (.t 16), (some (181, true)), true⟩,
  ⟨(some 183), .pick (.t 181) (.t 182) (.k (.c (.bool false))), none, true⟩,
  ⟨(some 184), .mv (.t 183), none, true⟩,
  ⟨(some 185), .mv (.t 13), (some (184, true)), true⟩,
  ⟨(some 186), .mv (.t 15), (some (184, true)), true⟩,
  ⟨(some 187), .bin .lss (.t 185) (.t 186), (some (184, true)), true⟩,
  ⟨(some 188), .pick (.t 184) (.t 187) (.k (.c (.bool false))), none, true⟩,
  ⟨(some 189), .mv (.t 188), none, true⟩,
  ⟨(some 190), .call (.k (.fn 14 [])) [], (some (189, true)), true⟩,
  ⟨(some 191), .pick (.t 189) (.t 190) (.k (.c (.bool false))), none, true⟩,
  ⟨(some 4), .mv (.t 191), none, true⟩]
@[reducible] def v6_40 : VC := (.seq (.ops o6_39) .ret)
@[reducible] def v6_41 : VC := (.seq (.ops o6_38) v6_40)
@[reducible] def v6_42 : VC := (.seq (.ops o6_37) v6_41)
@[reducible] def v6_43 : VC := (.seq (.seq (.ops o6_33) v6_36) v6_42)
@[reducible] def v6_44 : VC := (.seq (.seq (.ops o6_24) v6_32) v6_43)
@[reducible] def v6_45 : VC := (.seq (.seq (.ops o6_15) v6_23) v6_44)
@[reducible] def v6_46 : VC := (.seq (.seq (.ops o6_11) v6_14) v6_45)
@[reducible] def v6_47 : VC := (.seq (.seq (.ops o6_7) v6_10) v6_46)
@[reducible] def v6_48 : VC := (.seq (.ops o6_6) v6_47)
@[reducible] def v6_49 : VC := (.seq (.ops o6_5) v6_48)
@[reducible] def v6_50 : VC := (.seq (.seq (.ops o6_1) v6_4) v6_49)
def ir6 : FC := ⟨2, 192, [.t 4], (.seq (.ops o6_0) v6_50)⟩
theorem c28 : compM Try.prog [] 28 = some ir28 := by kernel_rfl
theorem c6 : compM Try.prog [] 6 = some ir6 := by kernel_rfl



set_option maxHeartbeats 8000000 in
theorem shareof28 {r : Royal} (hW : Weighed r) {who p : Int} (hw : 0 ≤ who ∧ who < (r.n : Int)) (hp : 0 ≤ p ∧ p ≤ 9999) : FSpec Try.prog 28 [r.av, iv who, iv p] (.tup [iv (shareAt r who p), .c (.bool true)]) := by
  have hnear := near_of (Royal.near hW.hr)
  have hWp := poolR_weighed hW hp
  have hs := shares15 (poolR r p)
  have he : weighE (poolR r p) true = 0 := by
    have := hWp.pos
    simp [weighE, hWp.ok]; omega
  rw [show sharesS (poolR r p) = (sharesL p (allW r) (wts r), 0) from by unfold sharesS; rw [if_pos he]; rfl] at hs
  have hsane := sane17 r (sharesL p (allW r) (wts r)) 9999
  rw [show saneB r (sharesL p (allW r) (wts r)) 9999 = true from shares_sane hWp] at hsane
  have hl : (sharesL p (allW r) (wts r)).length = r.n := by rw [sharesL_len, hW.len]
  have hk : who.toNat < (sharesL p (allW r) (wts r)).length := by omega
  have hI : who < ((sharesL p (allW r) (wts r)).length : Int) := by omega
  refine FSpec_of c28 (Nat.le_refl _) (by decide) fun C hP hN hC hL => ?_
  simp only [ir28, Royal.av]
  (repeat ((first | refine WV_seq_ ?_ | refine WV_block ?_ | refine WV_ops ?_ | refine WV_skip ?_ | refine WV_exit ?_); (try simp only [go_sem, init_env', Nat.reduceEqDiff, Nat.reduceAdd, Nat.reduceMul, reduceIte, Nat.reduceLeDiff, Nat.reduceLT, Nat.reduceBEq, reduceCtorEq, hP, ]); (repeat (refine And.intro (by first | omega | (intros; simp_all; done) | (intros; simp_all; omega)) ?_))))
  (refine AS_pure (copy24 r hnear) rfl rfl rfl rfl rfl ?_; simp only [go_sem, init_env', Nat.reduceEqDiff, Nat.reduceAdd, Nat.reduceMul, reduceIte, Nat.reduceLeDiff, Nat.reduceLT, Nat.reduceBEq, reduceCtorEq, hP, Royal.av]; (repeat (refine And.intro (by first | omega | (intros; simp_all; done) | (intros; simp_all; omega)) ?_)); (repeat ((first | refine WV_seq_ ?_ | refine WV_block ?_ | refine WV_ops ?_ | refine WV_skip ?_ | refine WV_exit ?_); (try simp only [go_sem, init_env', Nat.reduceEqDiff, Nat.reduceAdd, Nat.reduceMul, reduceIte, Nat.reduceLeDiff, Nat.reduceLT, Nat.reduceBEq, reduceCtorEq, hP, Royal.av]); (repeat (refine And.intro (by first | omega | (intros; simp_all; done) | (intros; simp_all; omega)) ?_)))))
  (refine AS_pure (hs) rfl rfl rfl rfl rfl ?_; simp only [go_sem, init_env', Nat.reduceEqDiff, Nat.reduceAdd, Nat.reduceMul, reduceIte, Nat.reduceLeDiff, Nat.reduceLT, Nat.reduceBEq, reduceCtorEq, hP, Royal.av, bne_self_eq_false]; (repeat (refine And.intro (by first | omega | (intros; simp_all; done) | (intros; simp_all; omega)) ?_)); (repeat ((first | refine WV_seq_ ?_ | refine WV_block ?_ | refine WV_ops ?_ | refine WV_skip ?_ | refine WV_exit ?_); (try simp only [go_sem, init_env', Nat.reduceEqDiff, Nat.reduceAdd, Nat.reduceMul, reduceIte, Nat.reduceLeDiff, Nat.reduceLT, Nat.reduceBEq, reduceCtorEq, hP, Royal.av, bne_self_eq_false]); (repeat (refine And.intro (by first | omega | (intros; simp_all; done) | (intros; simp_all; omega)) ?_)))))
  (refine AG_pure (fun hG => hsane) rfl (fun hG => by first | (simp only [go_sem, init_env', Nat.reduceEqDiff, Nat.reduceAdd, Nat.reduceMul, reduceIte, Nat.reduceLeDiff, Nat.reduceLT, Nat.reduceBEq, reduceCtorEq, hG]; done) | (revert hG; simp; done) | simp_all) rfl rfl rfl ?_; simp only [go_sem, init_env', Nat.reduceEqDiff, Nat.reduceAdd, Nat.reduceMul, reduceIte, Nat.reduceLeDiff, Nat.reduceLT, Nat.reduceBEq, reduceCtorEq, hP, Royal.av]; (repeat (refine And.intro (by first | omega | (intros; simp_all; done) | (intros; simp_all; omega)) ?_)); (repeat ((first | refine WV_seq_ ?_ | refine WV_block ?_ | refine WV_ops ?_ | refine WV_skip ?_ | refine WV_exit ?_); (try simp only [go_sem, init_env', Nat.reduceEqDiff, Nat.reduceAdd, Nat.reduceMul, reduceIte, Nat.reduceLeDiff, Nat.reduceLT, Nat.reduceBEq, reduceCtorEq, hP, Royal.av]); (repeat (refine And.intro (by first | omega | (intros; simp_all; done) | (intros; simp_all; omega)) ?_)))))
  (refine WV_cond rfl (fun h => ?_) (fun h => ?_))
  · simp at h
  clear h
  (repeat ((first | refine WV_seq_ ?_ | refine WV_block ?_ | refine WV_ops ?_ | refine WV_skip ?_ | refine WV_exit ?_); (try simp only [go_sem, init_env', Nat.reduceEqDiff, Nat.reduceAdd, Nat.reduceMul, reduceIte, Nat.reduceLeDiff, Nat.reduceLT, Nat.reduceBEq, reduceCtorEq, hP, ints, map_getD hk, hw.1, hI]); (repeat (refine And.intro (by first | omega | (intros; simp_all; done) | (intros; simp_all; omega)) ?_))))
  (refine WV_ret ?_; simp only [thenQ, inQ, RetQ, RetOk, resAll, resA]; simp only [go_sem, init_env', Nat.reduceEqDiff, Nat.reduceAdd, Nat.reduceMul, reduceIte, Nat.reduceLeDiff, Nat.reduceLT, Nat.reduceBEq, reduceCtorEq, tupA, AV.port, AV.portL, exists_eq_left', ]; (first | exact AVle.of rfl | refine AVle.of ?_ | skip))
  simp [shareAt, hk]

set_option maxRecDepth 20000 in
set_option maxHeartbeats 16000000 in
theorem law6 (r : Royal) (x : Int × Int × Int) : FSpec Try.prog 6 [r.av, .agg [iv x.1, iv x.2.1, iv x.2.2]] (.c (.bool true)) := by
  obtain ⟨w, c, p⟩ := x
  refine FSpec_of c6 (Nat.le_refl _) (by decide) fun C hP hN hC hL => ?_
  simp only [ir6, Royal.av]
  (repeat ((first | refine WV_seq_ ?_ | refine WV_block ?_ | refine WV_ops ?_ | refine WV_skip ?_ | refine WV_exit ?_); (try simp only [go_sem, init_env', Nat.reduceEqDiff, Nat.reduceAdd, Nat.reduceMul, reduceIte, Nat.reduceLeDiff, Nat.reduceLT, Nat.reduceBEq, reduceCtorEq, hP, ]); (repeat (refine And.intro (by first | omega | (intros; simp_all; done) | (intros; simp_all; omega)) ?_))))
  (refine AS_pure (ready13 r) rfl rfl rfl rfl rfl ?_; simp only [go_sem, init_env', Nat.reduceEqDiff, Nat.reduceAdd, Nat.reduceMul, reduceIte, Nat.reduceLeDiff, Nat.reduceLT, Nat.reduceBEq, reduceCtorEq, hP, Royal.av]; (repeat (refine And.intro (by first | omega | (intros; simp_all; done) | (intros; simp_all; omega)) ?_)); (repeat ((first | refine WV_seq_ ?_ | refine WV_block ?_ | refine WV_ops ?_ | refine WV_skip ?_ | refine WV_exit ?_); (try simp only [go_sem, init_env', Nat.reduceEqDiff, Nat.reduceAdd, Nat.reduceMul, reduceIte, Nat.reduceLeDiff, Nat.reduceLT, Nat.reduceBEq, reduceCtorEq, hP, Royal.av]); (repeat (refine And.intro (by first | omega | (intros; simp_all; done) | (intros; simp_all; omega)) ?_)))))
  (refine AG_pure (fun hG => isw19 r w) rfl (fun hG => by first | (simp only [go_sem, init_env', Nat.reduceEqDiff, Nat.reduceAdd, Nat.reduceMul, reduceIte, Nat.reduceLeDiff, Nat.reduceLT, Nat.reduceBEq, reduceCtorEq, hG]; done) | (revert hG; simp; done) | simp_all) rfl rfl rfl ?_; simp only [go_sem, init_env', Nat.reduceEqDiff, Nat.reduceAdd, Nat.reduceMul, reduceIte, Nat.reduceLeDiff, Nat.reduceLT, Nat.reduceBEq, reduceCtorEq, hP, Royal.av]; (repeat (refine And.intro (by first | omega | (intros; simp_all; done) | (intros; simp_all; omega)) ?_)); (repeat ((first | refine WV_seq_ ?_ | refine WV_block ?_ | refine WV_ops ?_ | refine WV_skip ?_ | refine WV_exit ?_); (try simp only [go_sem, init_env', Nat.reduceEqDiff, Nat.reduceAdd, Nat.reduceMul, reduceIte, Nat.reduceLeDiff, Nat.reduceLT, Nat.reduceBEq, reduceCtorEq, hP, Royal.av]); (repeat (refine And.intro (by first | omega | (intros; simp_all; done) | (intros; simp_all; omega)) ?_)))))
  (refine WV_cond rfl (fun h => ?_) (fun h => ?_))
  · (repeat ((first | refine WV_seq_ ?_ | refine WV_block ?_ | refine WV_ops ?_ | refine WV_skip ?_ | refine WV_exit ?_); (try simp only [go_sem, init_env', Nat.reduceEqDiff, Nat.reduceAdd, Nat.reduceMul, reduceIte, Nat.reduceLeDiff, Nat.reduceLT, Nat.reduceBEq, reduceCtorEq, hP, ]); (repeat (refine And.intro (by first | omega | (intros; simp_all; done) | (intros; simp_all; omega)) ?_))))
    (refine AS_pure (works14) rfl rfl rfl rfl rfl ?_; simp only [go_sem, init_env', Nat.reduceEqDiff, Nat.reduceAdd, Nat.reduceMul, reduceIte, Nat.reduceLeDiff, Nat.reduceLT, Nat.reduceBEq, reduceCtorEq, hP, ]; (repeat (refine And.intro (by first | omega | (intros; simp_all; done) | (intros; simp_all; omega)) ?_)); (repeat ((first | refine WV_seq_ ?_ | refine WV_block ?_ | refine WV_ops ?_ | refine WV_skip ?_ | refine WV_exit ?_); (try simp only [go_sem, init_env', Nat.reduceEqDiff, Nat.reduceAdd, Nat.reduceMul, reduceIte, Nat.reduceLeDiff, Nat.reduceLT, Nat.reduceBEq, reduceCtorEq, hP, ]); (repeat (refine And.intro (by first | omega | (intros; simp_all; done) | (intros; simp_all; omega)) ?_)))))
    (refine WV_ret ?_; simp only [thenQ, inQ, RetQ, RetOk, resAll, resA]; simp only [go_sem, init_env', Nat.reduceEqDiff, Nat.reduceAdd, Nat.reduceMul, reduceIte, Nat.reduceLeDiff, Nat.reduceLT, Nat.reduceBEq, reduceCtorEq, tupA, AV.port, AV.portL, exists_eq_left', ]; (first | exact AVle.of rfl | refine AVle.of ?_ | skip))
  have hc : r.ok = true ∧ r.pool ≤ 1000 ∧ isW r w = true ∧ 0 ≤ c ∧ c ≤ 9999 ∧ 0 ≤ p ∧ p ≤ 9999 := by
    cases hr : r.ok
    · rw [hr] at h; simp at h
    · cases hw : isW r w
      · rw [hr, hw] at h; simp at h
      · rw [hr, hw] at h; simp at h; exact ⟨rfl, by omega, rfl, by omega, by omega, by omega, by omega⟩
  clear h
  obtain ⟨hok, hpool, hw, hc1, hc2, hp1, hp2⟩ := hc
  have hr := Royal.ok_spec hok
  have hpl := plays21 hr
  have hap := allW_plays r
  have hww := isW_spec hw
  have hwc : within c 0 9999 = true := by simp [within, hc1, hc2]
  have hab := allW_bd hr
  by_cases h0 : allW r = 0
  · have hp0 : playsOf r = 0 := by omega
    have e1 : weighE r true = 3 := by simp [weighE, hok, h0]
    have c1 := least26 r w c
    rw [show leastS r w c = (0, 3) from by unfold leastS; rw [hw, hwc, Bool.and_self, e1]; rfl] at c1
    have c2 := odd27 r w
    rw [show oddS r w = (0, 3) from by unfold oddS; rw [hw, e1]; rfl] at c2
    rw [hp0] at hpl
    (repeat ((first | refine WV_seq_ ?_ | refine WV_block ?_ | refine WV_ops ?_ | refine WV_skip ?_ | refine WV_exit ?_); (try simp only [go_sem, init_env', Nat.reduceEqDiff, Nat.reduceAdd, Nat.reduceMul, reduceIte, Nat.reduceLeDiff, Nat.reduceLT, Nat.reduceBEq, reduceCtorEq, hP, ]); (repeat (refine And.intro (by first | omega | (intros; simp_all; done) | (intros; simp_all; omega)) ?_))))
    (refine AS_pure (c1) rfl rfl rfl rfl rfl ?_; simp only [go_sem, init_env', Nat.reduceEqDiff, Nat.reduceAdd, Nat.reduceMul, reduceIte, Nat.reduceLeDiff, Nat.reduceLT, Nat.reduceBEq, reduceCtorEq, hP, Royal.av]; (repeat (refine And.intro (by first | omega | (intros; simp_all; done) | (intros; simp_all; omega)) ?_)); (repeat ((first | refine WV_seq_ ?_ | refine WV_block ?_ | refine WV_ops ?_ | refine WV_skip ?_ | refine WV_exit ?_); (try simp only [go_sem, init_env', Nat.reduceEqDiff, Nat.reduceAdd, Nat.reduceMul, reduceIte, Nat.reduceLeDiff, Nat.reduceLT, Nat.reduceBEq, reduceCtorEq, hP, Royal.av]); (repeat (refine And.intro (by first | omega | (intros; simp_all; done) | (intros; simp_all; omega)) ?_)))))
    (refine AS_pure (c2) rfl rfl rfl rfl rfl ?_; simp only [go_sem, init_env', Nat.reduceEqDiff, Nat.reduceAdd, Nat.reduceMul, reduceIte, Nat.reduceLeDiff, Nat.reduceLT, Nat.reduceBEq, reduceCtorEq, hP, Royal.av]; (repeat (refine And.intro (by first | omega | (intros; simp_all; done) | (intros; simp_all; omega)) ?_)); (repeat ((first | refine WV_seq_ ?_ | refine WV_block ?_ | refine WV_ops ?_ | refine WV_skip ?_ | refine WV_exit ?_); (try simp only [go_sem, init_env', Nat.reduceEqDiff, Nat.reduceAdd, Nat.reduceMul, reduceIte, Nat.reduceLeDiff, Nat.reduceLT, Nat.reduceBEq, reduceCtorEq, hP, Royal.av]); (repeat (refine And.intro (by first | omega | (intros; simp_all; done) | (intros; simp_all; omega)) ?_)))))
    (refine AS_pure (hpl) rfl rfl rfl rfl rfl ?_; simp only [go_sem, init_env', Nat.reduceEqDiff, Nat.reduceAdd, Nat.reduceMul, reduceIte, Nat.reduceLeDiff, Nat.reduceLT, Nat.reduceBEq, reduceCtorEq, hP, Royal.av, beq_self_eq_true]; (repeat (refine And.intro (by first | omega | (intros; simp_all; done) | (intros; simp_all; omega)) ?_)); (repeat ((first | refine WV_seq_ ?_ | refine WV_block ?_ | refine WV_ops ?_ | refine WV_skip ?_ | refine WV_exit ?_); (try simp only [go_sem, init_env', Nat.reduceEqDiff, Nat.reduceAdd, Nat.reduceMul, reduceIte, Nat.reduceLeDiff, Nat.reduceLT, Nat.reduceBEq, reduceCtorEq, hP, Royal.av, beq_self_eq_true]); (repeat (refine And.intro (by first | omega | (intros; simp_all; done) | (intros; simp_all; omega)) ?_)))))
    (refine WV_cond rfl (fun h => ?_) (fun h => ?_))
    · (repeat ((first | refine WV_seq_ ?_ | refine WV_block ?_ | refine WV_ops ?_ | refine WV_skip ?_ | refine WV_exit ?_); (try simp only [go_sem, init_env', Nat.reduceEqDiff, Nat.reduceAdd, Nat.reduceMul, reduceIte, Nat.reduceLeDiff, Nat.reduceLT, Nat.reduceBEq, reduceCtorEq, hP, beq_self_eq_true]); (repeat (refine And.intro (by first | omega | (intros; simp_all; done) | (intros; simp_all; omega)) ?_))))
      (refine AG_pure (fun hG => works14) rfl (fun hG => by first | (simp only [go_sem, init_env', Nat.reduceEqDiff, Nat.reduceAdd, Nat.reduceMul, reduceIte, Nat.reduceLeDiff, Nat.reduceLT, Nat.reduceBEq, reduceCtorEq, hG]; done) | (revert hG; simp; done) | simp_all) rfl rfl rfl ?_; simp only [go_sem, init_env', Nat.reduceEqDiff, Nat.reduceAdd, Nat.reduceMul, reduceIte, Nat.reduceLeDiff, Nat.reduceLT, Nat.reduceBEq, reduceCtorEq, hP, ]; (repeat (refine And.intro (by first | omega | (intros; simp_all; done) | (intros; simp_all; omega)) ?_)); (repeat ((first | refine WV_seq_ ?_ | refine WV_block ?_ | refine WV_ops ?_ | refine WV_skip ?_ | refine WV_exit ?_); (try simp only [go_sem, init_env', Nat.reduceEqDiff, Nat.reduceAdd, Nat.reduceMul, reduceIte, Nat.reduceLeDiff, Nat.reduceLT, Nat.reduceBEq, reduceCtorEq, hP, ]); (repeat (refine And.intro (by first | omega | (intros; simp_all; done) | (intros; simp_all; omega)) ?_)))))
      (refine WV_ret ?_; simp only [thenQ, inQ, RetQ, RetOk, resAll, resA]; simp only [go_sem, init_env', Nat.reduceEqDiff, Nat.reduceAdd, Nat.reduceMul, reduceIte, Nat.reduceLeDiff, Nat.reduceLT, Nat.reduceBEq, reduceCtorEq, tupA, AV.port, AV.portL, exists_eq_left', ]; (first | exact AVle.of rfl | refine AVle.of ?_ | skip))
    · simp at h
  · have hW : Weighed r := ⟨hok, hr, by omega, hab.2, wts_len r, wts_bd hr, wts_sum hr⟩
    have hp0 : (playsOf r == 0) = false := by simp; omega
    have e1 : weighE r true = 0 := by simp [weighE, hok, h0]
    have c1 := least26 r w c
    have c2 := odd27 r w
    have hsf := fun q (hq : 0 ≤ q ∧ q ≤ 9999) => shareof28 hW hww hq
    have hl1 := firstP_spec (fun q => decide (c ≤ shareAt r w q)) 10000 0
    have hl2 := firstP_spec (fun q => decide (shareAt r w q < shareAt r w (q - 1))) r.pool.toNat 1
    have hx1 : leastS r w c = firstP (fun q => decide (c ≤ shareAt r w q)) 10000 0 := by unfold leastS; rw [hw, hwc, Bool.and_self, if_pos e1]; rfl
    have hx2 : oddS r w = firstP (fun q => decide (shareAt r w q < shareAt r w (q - 1))) r.pool.toNat 1 := by unfold oddS; rw [hw, if_pos e1]; rfl
    rw [hx1] at c1
    rw [hx2] at c2
    clear hx1 hx2
    generalize hA : firstP (fun q => decide (c ≤ shareAt r w q)) 10000 0 = A at *
    generalize hB : firstP (fun q => decide (shareAt r w q < shareAt r w (q - 1))) r.pool.toNat 1 = B at *
    generalize hsh : shareAt r w = sh at *
    have hend : ∀ C : Ctx, C.P = Try.prog → ∀ (e : Nat → AV) (o : Nat → Ob), True := fun _ _ _ _ => trivial
    clear hend
    have hfirst : (∃ n, A = (n, 0) ∧ 0 ≤ n ∧ n ≤ 9999 ∧ c ≤ sh n ∧ (p < n → sh p < c)) ∨ (A = (0, 3) ∧ sh p < c) := by
      rcases hl1 with ⟨n, h1, h2, h3, h4, h5⟩ | ⟨h1, h2⟩
      · refine .inl ⟨n, h1, h2, by omega, by simpa using h4, fun h => ?_⟩
        have := h5 p (by omega) h
        simp at this; omega
      · refine .inr ⟨h1, ?_⟩
        have := h2 p (by omega) (by omega)
        simp at this; omega
    have hsecond : (∃ m, B = (m, 0) ∧ 1 ≤ m ∧ m ≤ r.pool ∧ sh m < sh (m - 1)) ∨ B = (0, 3) := by
      rcases hl2 with ⟨n, h1, h2, h3, h4, h5⟩ | ⟨h1, h2⟩
      · exact .inl ⟨n, h1, h2, by omega, by simpa using h4⟩
      · exact .inr h1
    clear hl1 hl2
    rcases hsecond with ⟨m, rfl, hm1, hm2, hm3⟩ | rfl
    · have f1 : decide (m < 1) = false := by simp; omega
      have f2 : decide (r.pool < m) = false := by simp; omega
      have f3 : decide (sh m < sh (m - 1)) = true := by simp; omega
      have hwm := w64 (n := m - 1) (by omega) (by omega)
      rcases hfirst with ⟨n, rfl, hn1, hn2, hn3, hn4⟩ | ⟨rfl, hn4⟩
      · have f4 : decide (n < 0) = false := by simp; omega
        have f5 : decide (9999 < n) = false := by simp; omega
        have f6 : decide (sh n < c) = false := by simp; omega
        (repeat ((first | refine WV_seq_ ?_ | refine WV_block ?_ | refine WV_ops ?_ | refine WV_skip ?_ | refine WV_exit ?_); (try simp only [go_sem, init_env', Nat.reduceEqDiff, Nat.reduceAdd, Nat.reduceMul, reduceIte, Nat.reduceLeDiff, Nat.reduceLT, Nat.reduceBEq, reduceCtorEq, hP, ]); (repeat (refine And.intro (by first | omega | (intros; simp_all; done) | (intros; simp_all; omega)) ?_))))
        (refine AS_pure (c1) rfl rfl rfl rfl rfl ?_; simp only [go_sem, init_env', Nat.reduceEqDiff, Nat.reduceAdd, Nat.reduceMul, reduceIte, Nat.reduceLeDiff, Nat.reduceLT, Nat.reduceBEq, reduceCtorEq, hP, Royal.av]; (repeat (refine And.intro (by first | omega | (intros; simp_all; done) | (intros; simp_all; omega)) ?_)); (repeat ((first | refine WV_seq_ ?_ | refine WV_block ?_ | refine WV_ops ?_ | refine WV_skip ?_ | refine WV_exit ?_); (try simp only [go_sem, init_env', Nat.reduceEqDiff, Nat.reduceAdd, Nat.reduceMul, reduceIte, Nat.reduceLeDiff, Nat.reduceLT, Nat.reduceBEq, reduceCtorEq, hP, Royal.av]); (repeat (refine And.intro (by first | omega | (intros; simp_all; done) | (intros; simp_all; omega)) ?_)))))
        (refine AS_pure (c2) rfl rfl rfl rfl rfl ?_; simp only [go_sem, init_env', Nat.reduceEqDiff, Nat.reduceAdd, Nat.reduceMul, reduceIte, Nat.reduceLeDiff, Nat.reduceLT, Nat.reduceBEq, reduceCtorEq, hP, Royal.av]; (repeat (refine And.intro (by first | omega | (intros; simp_all; done) | (intros; simp_all; omega)) ?_)); (repeat ((first | refine WV_seq_ ?_ | refine WV_block ?_ | refine WV_ops ?_ | refine WV_skip ?_ | refine WV_exit ?_); (try simp only [go_sem, init_env', Nat.reduceEqDiff, Nat.reduceAdd, Nat.reduceMul, reduceIte, Nat.reduceLeDiff, Nat.reduceLT, Nat.reduceBEq, reduceCtorEq, hP, Royal.av]); (repeat (refine And.intro (by first | omega | (intros; simp_all; done) | (intros; simp_all; omega)) ?_)))))
        (refine AS_pure (hpl) rfl rfl rfl rfl rfl ?_; simp only [go_sem, init_env', Nat.reduceEqDiff, Nat.reduceAdd, Nat.reduceMul, reduceIte, Nat.reduceLeDiff, Nat.reduceLT, Nat.reduceBEq, reduceCtorEq, hP, Royal.av, hp0]; (repeat (refine And.intro (by first | omega | (intros; simp_all; done) | (intros; simp_all; omega)) ?_)); (repeat ((first | refine WV_seq_ ?_ | refine WV_block ?_ | refine WV_ops ?_ | refine WV_skip ?_ | refine WV_exit ?_); (try simp only [go_sem, init_env', Nat.reduceEqDiff, Nat.reduceAdd, Nat.reduceMul, reduceIte, Nat.reduceLeDiff, Nat.reduceLT, Nat.reduceBEq, reduceCtorEq, hP, Royal.av, hp0]); (repeat (refine And.intro (by first | omega | (intros; simp_all; done) | (intros; simp_all; omega)) ?_)))))
        (refine WV_cond rfl (fun h => ?_) (fun h => ?_))
        · simp at h
        clear h
        (repeat ((first | refine WV_seq_ ?_ | refine WV_block ?_ | refine WV_ops ?_ | refine WV_skip ?_ | refine WV_exit ?_); (try simp only [go_sem, init_env', Nat.reduceEqDiff, Nat.reduceAdd, Nat.reduceMul, reduceIte, Nat.reduceLeDiff, Nat.reduceLT, Nat.reduceBEq, reduceCtorEq, hP, bne_self_eq_false, beq_self_eq_true, f1, f2, f4, f5]); (repeat (refine And.intro (by first | omega | (intros; simp_all; done) | (intros; simp_all; omega)) ?_))))
        (refine WV_cond rfl (fun h => ?_) (fun h => ?_))
        · simp at h
        clear h
        (repeat ((first | refine WV_seq_ ?_ | refine WV_block ?_ | refine WV_ops ?_ | refine WV_skip ?_ | refine WV_exit ?_); (try simp only [go_sem, init_env', Nat.reduceEqDiff, Nat.reduceAdd, Nat.reduceMul, reduceIte, Nat.reduceLeDiff, Nat.reduceLT, Nat.reduceBEq, reduceCtorEq, hP, beq_self_eq_true]); (repeat (refine And.intro (by first | omega | (intros; simp_all; done) | (intros; simp_all; omega)) ?_))))
        (refine WV_cond rfl (fun h => ?_) (fun h => ?_))
        · (repeat ((first | refine WV_seq_ ?_ | refine WV_block ?_ | refine WV_ops ?_ | refine WV_skip ?_ | refine WV_exit ?_); (try simp only [go_sem, init_env', Nat.reduceEqDiff, Nat.reduceAdd, Nat.reduceMul, reduceIte, Nat.reduceLeDiff, Nat.reduceLT, Nat.reduceBEq, reduceCtorEq, hP, ]); (repeat (refine And.intro (by first | omega | (intros; simp_all; done) | (intros; simp_all; omega)) ?_))))
          (refine AS_pure (hsf n ⟨hn1, hn2⟩) rfl rfl rfl rfl rfl ?_; simp only [go_sem, init_env', Nat.reduceEqDiff, Nat.reduceAdd, Nat.reduceMul, reduceIte, Nat.reduceLeDiff, Nat.reduceLT, Nat.reduceBEq, reduceCtorEq, hP, Royal.av, f6]; (repeat (refine And.intro (by first | omega | (intros; simp_all; done) | (intros; simp_all; omega)) ?_)); (repeat ((first | refine WV_seq_ ?_ | refine WV_block ?_ | refine WV_ops ?_ | refine WV_skip ?_ | refine WV_exit ?_); (try simp only [go_sem, init_env', Nat.reduceEqDiff, Nat.reduceAdd, Nat.reduceMul, reduceIte, Nat.reduceLeDiff, Nat.reduceLT, Nat.reduceBEq, reduceCtorEq, hP, Royal.av, f6]); (repeat (refine And.intro (by first | omega | (intros; simp_all; done) | (intros; simp_all; omega)) ?_)))))
          (refine WV_cond rfl (fun h => ?_) (fun h => ?_))
          · simp at h
          clear h
          (repeat ((first | refine WV_seq_ ?_ | refine WV_block ?_ | refine WV_ops ?_ | refine WV_skip ?_ | refine WV_exit ?_); (try simp only [go_sem, init_env', Nat.reduceEqDiff, Nat.reduceAdd, Nat.reduceMul, reduceIte, Nat.reduceLeDiff, Nat.reduceLT, Nat.reduceBEq, reduceCtorEq, hP, bne_self_eq_false]); (repeat (refine And.intro (by first | omega | (intros; simp_all; done) | (intros; simp_all; omega)) ?_))))
          (refine WV_cond rfl (fun h => ?_) (fun h => ?_))
          · have h : p < n := by simpa using h
            have hn5 := hn4 h
            have f7 : decide (c ≤ sh p) = false := by simp; omega
            (repeat ((first | refine WV_seq_ ?_ | refine WV_block ?_ | refine WV_ops ?_ | refine WV_skip ?_ | refine WV_exit ?_); (try simp only [go_sem, init_env', Nat.reduceEqDiff, Nat.reduceAdd, Nat.reduceMul, reduceIte, Nat.reduceLeDiff, Nat.reduceLT, Nat.reduceBEq, reduceCtorEq, hP, ]); (repeat (refine And.intro (by first | omega | (intros; simp_all; done) | (intros; simp_all; omega)) ?_))))
            (refine AS_pure (hsf p ⟨hp1, hp2⟩) rfl rfl rfl rfl rfl ?_; simp only [go_sem, init_env', Nat.reduceEqDiff, Nat.reduceAdd, Nat.reduceMul, reduceIte, Nat.reduceLeDiff, Nat.reduceLT, Nat.reduceBEq, reduceCtorEq, hP, Royal.av, f7]; (repeat (refine And.intro (by first | omega | (intros; simp_all; done) | (intros; simp_all; omega)) ?_)); (repeat ((first | refine WV_seq_ ?_ | refine WV_block ?_ | refine WV_ops ?_ | refine WV_skip ?_ | refine WV_exit ?_); (try simp only [go_sem, init_env', Nat.reduceEqDiff, Nat.reduceAdd, Nat.reduceMul, reduceIte, Nat.reduceLeDiff, Nat.reduceLT, Nat.reduceBEq, reduceCtorEq, hP, Royal.av, f7]); (repeat (refine And.intro (by first | omega | (intros; simp_all; done) | (intros; simp_all; omega)) ?_)))))
            (refine WV_cond rfl (fun h => ?_) (fun h => ?_))
            · simp at h
            clear h
            (repeat ((first | refine WV_seq_ ?_ | refine WV_block ?_ | refine WV_ops ?_ | refine WV_skip ?_ | refine WV_exit ?_); (try simp only [go_sem, init_env', Nat.reduceEqDiff, Nat.reduceAdd, Nat.reduceMul, reduceIte, Nat.reduceLeDiff, Nat.reduceLT, Nat.reduceBEq, reduceCtorEq, hP, bne_self_eq_false]); (repeat (refine And.intro (by first | omega | (intros; simp_all; done) | (intros; simp_all; omega)) ?_))))
            (refine WV_cond rfl (fun h => ?_) (fun h => ?_))
            · simp at h
            (repeat ((first | refine WV_seq_ ?_ | refine WV_block ?_ | refine WV_ops ?_ | refine WV_skip ?_ | refine WV_exit ?_); (try simp only [go_sem, init_env', Nat.reduceEqDiff, Nat.reduceAdd, Nat.reduceMul, reduceIte, Nat.reduceLeDiff, Nat.reduceLT, Nat.reduceBEq, reduceCtorEq, hP, ]); (repeat (refine And.intro (by first | omega | (intros; simp_all; done) | (intros; simp_all; omega)) ?_))))
            (refine AS_pure (hsf m ⟨by omega, by omega⟩) rfl rfl rfl rfl rfl ?_; simp only [go_sem, init_env', Nat.reduceEqDiff, Nat.reduceAdd, Nat.reduceMul, reduceIte, Nat.reduceLeDiff, Nat.reduceLT, Nat.reduceBEq, reduceCtorEq, hP, Royal.av, hwm]; (repeat (refine And.intro (by first | omega | (intros; simp_all; done) | (intros; simp_all; omega)) ?_)); (repeat ((first | refine WV_seq_ ?_ | refine WV_block ?_ | refine WV_ops ?_ | refine WV_skip ?_ | refine WV_exit ?_); (try simp only [go_sem, init_env', Nat.reduceEqDiff, Nat.reduceAdd, Nat.reduceMul, reduceIte, Nat.reduceLeDiff, Nat.reduceLT, Nat.reduceBEq, reduceCtorEq, hP, Royal.av, hwm]); (repeat (refine And.intro (by first | omega | (intros; simp_all; done) | (intros; simp_all; omega)) ?_)))))
            (refine AS_pure (hsf (m - 1) ⟨by omega, by omega⟩) rfl rfl rfl rfl rfl ?_; simp only [go_sem, init_env', Nat.reduceEqDiff, Nat.reduceAdd, Nat.reduceMul, reduceIte, Nat.reduceLeDiff, Nat.reduceLT, Nat.reduceBEq, reduceCtorEq, hP, Royal.av, f3]; (repeat (refine And.intro (by first | omega | (intros; simp_all; done) | (intros; simp_all; omega)) ?_)); (repeat ((first | refine WV_seq_ ?_ | refine WV_block ?_ | refine WV_ops ?_ | refine WV_skip ?_ | refine WV_exit ?_); (try simp only [go_sem, init_env', Nat.reduceEqDiff, Nat.reduceAdd, Nat.reduceMul, reduceIte, Nat.reduceLeDiff, Nat.reduceLT, Nat.reduceBEq, reduceCtorEq, hP, Royal.av, f3]); (repeat (refine And.intro (by first | omega | (intros; simp_all; done) | (intros; simp_all; omega)) ?_)))))
            (refine AG_pure (fun hG => works14) rfl (fun hG => by first | (simp only [go_sem, init_env', Nat.reduceEqDiff, Nat.reduceAdd, Nat.reduceMul, reduceIte, Nat.reduceLeDiff, Nat.reduceLT, Nat.reduceBEq, reduceCtorEq, hG]; done) | (revert hG; simp; done) | simp_all) rfl rfl rfl ?_; simp only [go_sem, init_env', Nat.reduceEqDiff, Nat.reduceAdd, Nat.reduceMul, reduceIte, Nat.reduceLeDiff, Nat.reduceLT, Nat.reduceBEq, reduceCtorEq, hP, ]; (repeat (refine And.intro (by first | omega | (intros; simp_all; done) | (intros; simp_all; omega)) ?_)); (repeat ((first | refine WV_seq_ ?_ | refine WV_block ?_ | refine WV_ops ?_ | refine WV_skip ?_ | refine WV_exit ?_); (try simp only [go_sem, init_env', Nat.reduceEqDiff, Nat.reduceAdd, Nat.reduceMul, reduceIte, Nat.reduceLeDiff, Nat.reduceLT, Nat.reduceBEq, reduceCtorEq, hP, ]); (repeat (refine And.intro (by first | omega | (intros; simp_all; done) | (intros; simp_all; omega)) ?_)))))
            (refine WV_ret ?_; simp only [thenQ, inQ, RetQ, RetOk, resAll, resA]; simp only [go_sem, init_env', Nat.reduceEqDiff, Nat.reduceAdd, Nat.reduceMul, reduceIte, Nat.reduceLeDiff, Nat.reduceLT, Nat.reduceBEq, reduceCtorEq, tupA, AV.port, AV.portL, exists_eq_left', ]; (first | exact AVle.of rfl | refine AVle.of ?_ | skip))
          · clear h
            (repeat ((first | refine WV_seq_ ?_ | refine WV_block ?_ | refine WV_ops ?_ | refine WV_skip ?_ | refine WV_exit ?_); (try simp only [go_sem, init_env', Nat.reduceEqDiff, Nat.reduceAdd, Nat.reduceMul, reduceIte, Nat.reduceLeDiff, Nat.reduceLT, Nat.reduceBEq, reduceCtorEq, hP, bne_self_eq_false]); (repeat (refine And.intro (by first | omega | (intros; simp_all; done) | (intros; simp_all; omega)) ?_))))
            (refine WV_cond rfl (fun h => ?_) (fun h => ?_))
            · simp at h
            (repeat ((first | refine WV_seq_ ?_ | refine WV_block ?_ | refine WV_ops ?_ | refine WV_skip ?_ | refine WV_exit ?_); (try simp only [go_sem, init_env', Nat.reduceEqDiff, Nat.reduceAdd, Nat.reduceMul, reduceIte, Nat.reduceLeDiff, Nat.reduceLT, Nat.reduceBEq, reduceCtorEq, hP, ]); (repeat (refine And.intro (by first | omega | (intros; simp_all; done) | (intros; simp_all; omega)) ?_))))
            (refine AS_pure (hsf m ⟨by omega, by omega⟩) rfl rfl rfl rfl rfl ?_; simp only [go_sem, init_env', Nat.reduceEqDiff, Nat.reduceAdd, Nat.reduceMul, reduceIte, Nat.reduceLeDiff, Nat.reduceLT, Nat.reduceBEq, reduceCtorEq, hP, Royal.av, hwm]; (repeat (refine And.intro (by first | omega | (intros; simp_all; done) | (intros; simp_all; omega)) ?_)); (repeat ((first | refine WV_seq_ ?_ | refine WV_block ?_ | refine WV_ops ?_ | refine WV_skip ?_ | refine WV_exit ?_); (try simp only [go_sem, init_env', Nat.reduceEqDiff, Nat.reduceAdd, Nat.reduceMul, reduceIte, Nat.reduceLeDiff, Nat.reduceLT, Nat.reduceBEq, reduceCtorEq, hP, Royal.av, hwm]); (repeat (refine And.intro (by first | omega | (intros; simp_all; done) | (intros; simp_all; omega)) ?_)))))
            (refine AS_pure (hsf (m - 1) ⟨by omega, by omega⟩) rfl rfl rfl rfl rfl ?_; simp only [go_sem, init_env', Nat.reduceEqDiff, Nat.reduceAdd, Nat.reduceMul, reduceIte, Nat.reduceLeDiff, Nat.reduceLT, Nat.reduceBEq, reduceCtorEq, hP, Royal.av, f3]; (repeat (refine And.intro (by first | omega | (intros; simp_all; done) | (intros; simp_all; omega)) ?_)); (repeat ((first | refine WV_seq_ ?_ | refine WV_block ?_ | refine WV_ops ?_ | refine WV_skip ?_ | refine WV_exit ?_); (try simp only [go_sem, init_env', Nat.reduceEqDiff, Nat.reduceAdd, Nat.reduceMul, reduceIte, Nat.reduceLeDiff, Nat.reduceLT, Nat.reduceBEq, reduceCtorEq, hP, Royal.av, f3]); (repeat (refine And.intro (by first | omega | (intros; simp_all; done) | (intros; simp_all; omega)) ?_)))))
            (refine AG_pure (fun hG => works14) rfl (fun hG => by first | (simp only [go_sem, init_env', Nat.reduceEqDiff, Nat.reduceAdd, Nat.reduceMul, reduceIte, Nat.reduceLeDiff, Nat.reduceLT, Nat.reduceBEq, reduceCtorEq, hG]; done) | (revert hG; simp; done) | simp_all) rfl rfl rfl ?_; simp only [go_sem, init_env', Nat.reduceEqDiff, Nat.reduceAdd, Nat.reduceMul, reduceIte, Nat.reduceLeDiff, Nat.reduceLT, Nat.reduceBEq, reduceCtorEq, hP, ]; (repeat (refine And.intro (by first | omega | (intros; simp_all; done) | (intros; simp_all; omega)) ?_)); (repeat ((first | refine WV_seq_ ?_ | refine WV_block ?_ | refine WV_ops ?_ | refine WV_skip ?_ | refine WV_exit ?_); (try simp only [go_sem, init_env', Nat.reduceEqDiff, Nat.reduceAdd, Nat.reduceMul, reduceIte, Nat.reduceLeDiff, Nat.reduceLT, Nat.reduceBEq, reduceCtorEq, hP, ]); (repeat (refine And.intro (by first | omega | (intros; simp_all; done) | (intros; simp_all; omega)) ?_)))))
            (refine WV_ret ?_; simp only [thenQ, inQ, RetQ, RetOk, resAll, resA]; simp only [go_sem, init_env', Nat.reduceEqDiff, Nat.reduceAdd, Nat.reduceMul, reduceIte, Nat.reduceLeDiff, Nat.reduceLT, Nat.reduceBEq, reduceCtorEq, tupA, AV.port, AV.portL, exists_eq_left', ]; (first | exact AVle.of rfl | refine AVle.of ?_ | skip))
        · simp at h
      · have f7 : decide (c ≤ sh p) = false := by simp; omega
        (repeat ((first | refine WV_seq_ ?_ | refine WV_block ?_ | refine WV_ops ?_ | refine WV_skip ?_ | refine WV_exit ?_); (try simp only [go_sem, init_env', Nat.reduceEqDiff, Nat.reduceAdd, Nat.reduceMul, reduceIte, Nat.reduceLeDiff, Nat.reduceLT, Nat.reduceBEq, reduceCtorEq, hP, ]); (repeat (refine And.intro (by first | omega | (intros; simp_all; done) | (intros; simp_all; omega)) ?_))))
        (refine AS_pure (c1) rfl rfl rfl rfl rfl ?_; simp only [go_sem, init_env', Nat.reduceEqDiff, Nat.reduceAdd, Nat.reduceMul, reduceIte, Nat.reduceLeDiff, Nat.reduceLT, Nat.reduceBEq, reduceCtorEq, hP, Royal.av]; (repeat (refine And.intro (by first | omega | (intros; simp_all; done) | (intros; simp_all; omega)) ?_)); (repeat ((first | refine WV_seq_ ?_ | refine WV_block ?_ | refine WV_ops ?_ | refine WV_skip ?_ | refine WV_exit ?_); (try simp only [go_sem, init_env', Nat.reduceEqDiff, Nat.reduceAdd, Nat.reduceMul, reduceIte, Nat.reduceLeDiff, Nat.reduceLT, Nat.reduceBEq, reduceCtorEq, hP, Royal.av]); (repeat (refine And.intro (by first | omega | (intros; simp_all; done) | (intros; simp_all; omega)) ?_)))))
        (refine AS_pure (c2) rfl rfl rfl rfl rfl ?_; simp only [go_sem, init_env', Nat.reduceEqDiff, Nat.reduceAdd, Nat.reduceMul, reduceIte, Nat.reduceLeDiff, Nat.reduceLT, Nat.reduceBEq, reduceCtorEq, hP, Royal.av]; (repeat (refine And.intro (by first | omega | (intros; simp_all; done) | (intros; simp_all; omega)) ?_)); (repeat ((first | refine WV_seq_ ?_ | refine WV_block ?_ | refine WV_ops ?_ | refine WV_skip ?_ | refine WV_exit ?_); (try simp only [go_sem, init_env', Nat.reduceEqDiff, Nat.reduceAdd, Nat.reduceMul, reduceIte, Nat.reduceLeDiff, Nat.reduceLT, Nat.reduceBEq, reduceCtorEq, hP, Royal.av]); (repeat (refine And.intro (by first | omega | (intros; simp_all; done) | (intros; simp_all; omega)) ?_)))))
        (refine AS_pure (hpl) rfl rfl rfl rfl rfl ?_; simp only [go_sem, init_env', Nat.reduceEqDiff, Nat.reduceAdd, Nat.reduceMul, reduceIte, Nat.reduceLeDiff, Nat.reduceLT, Nat.reduceBEq, reduceCtorEq, hP, Royal.av, hp0]; (repeat (refine And.intro (by first | omega | (intros; simp_all; done) | (intros; simp_all; omega)) ?_)); (repeat ((first | refine WV_seq_ ?_ | refine WV_block ?_ | refine WV_ops ?_ | refine WV_skip ?_ | refine WV_exit ?_); (try simp only [go_sem, init_env', Nat.reduceEqDiff, Nat.reduceAdd, Nat.reduceMul, reduceIte, Nat.reduceLeDiff, Nat.reduceLT, Nat.reduceBEq, reduceCtorEq, hP, Royal.av, hp0]); (repeat (refine And.intro (by first | omega | (intros; simp_all; done) | (intros; simp_all; omega)) ?_)))))
        (refine WV_cond rfl (fun h => ?_) (fun h => ?_))
        · simp at h
        clear h
        (repeat ((first | refine WV_seq_ ?_ | refine WV_block ?_ | refine WV_ops ?_ | refine WV_skip ?_ | refine WV_exit ?_); (try simp only [go_sem, init_env', Nat.reduceEqDiff, Nat.reduceAdd, Nat.reduceMul, reduceIte, Nat.reduceLeDiff, Nat.reduceLT, Nat.reduceBEq, reduceCtorEq, hP, bne_self_eq_false, beq_self_eq_true, f1, f2]); (repeat (refine And.intro (by first | omega | (intros; simp_all; done) | (intros; simp_all; omega)) ?_))))
        (refine WV_cond rfl (fun h => ?_) (fun h => ?_))
        · simp at h
        clear h
        (repeat ((first | refine WV_seq_ ?_ | refine WV_block ?_ | refine WV_ops ?_ | refine WV_skip ?_ | refine WV_exit ?_); (try simp only [go_sem, init_env', Nat.reduceEqDiff, Nat.reduceAdd, Nat.reduceMul, reduceIte, Nat.reduceLeDiff, Nat.reduceLT, Nat.reduceBEq, reduceCtorEq, hP, ]); (repeat (refine And.intro (by first | omega | (intros; simp_all; done) | (intros; simp_all; omega)) ?_))))
        (refine WV_cond rfl (fun h => ?_) (fun h => ?_))
        · simp at h
        clear h
        (repeat ((first | refine WV_seq_ ?_ | refine WV_block ?_ | refine WV_ops ?_ | refine WV_skip ?_ | refine WV_exit ?_); (try simp only [go_sem, init_env', Nat.reduceEqDiff, Nat.reduceAdd, Nat.reduceMul, reduceIte, Nat.reduceLeDiff, Nat.reduceLT, Nat.reduceBEq, reduceCtorEq, hP, ]); (repeat (refine And.intro (by first | omega | (intros; simp_all; done) | (intros; simp_all; omega)) ?_))))
        (refine WV_cond rfl (fun h => ?_) (fun h => ?_))
        · (repeat ((first | refine WV_seq_ ?_ | refine WV_block ?_ | refine WV_ops ?_ | refine WV_skip ?_ | refine WV_exit ?_); (try simp only [go_sem, init_env', Nat.reduceEqDiff, Nat.reduceAdd, Nat.reduceMul, reduceIte, Nat.reduceLeDiff, Nat.reduceLT, Nat.reduceBEq, reduceCtorEq, hP, ]); (repeat (refine And.intro (by first | omega | (intros; simp_all; done) | (intros; simp_all; omega)) ?_))))
          (refine AS_pure (hsf p ⟨hp1, hp2⟩) rfl rfl rfl rfl rfl ?_; simp only [go_sem, init_env', Nat.reduceEqDiff, Nat.reduceAdd, Nat.reduceMul, reduceIte, Nat.reduceLeDiff, Nat.reduceLT, Nat.reduceBEq, reduceCtorEq, hP, Royal.av, f7]; (repeat (refine And.intro (by first | omega | (intros; simp_all; done) | (intros; simp_all; omega)) ?_)); (repeat ((first | refine WV_seq_ ?_ | refine WV_block ?_ | refine WV_ops ?_ | refine WV_skip ?_ | refine WV_exit ?_); (try simp only [go_sem, init_env', Nat.reduceEqDiff, Nat.reduceAdd, Nat.reduceMul, reduceIte, Nat.reduceLeDiff, Nat.reduceLT, Nat.reduceBEq, reduceCtorEq, hP, Royal.av, f7]); (repeat (refine And.intro (by first | omega | (intros; simp_all; done) | (intros; simp_all; omega)) ?_)))))
          (refine WV_cond rfl (fun h => ?_) (fun h => ?_))
          · simp at h
          clear h
          (repeat ((first | refine WV_seq_ ?_ | refine WV_block ?_ | refine WV_ops ?_ | refine WV_skip ?_ | refine WV_exit ?_); (try simp only [go_sem, init_env', Nat.reduceEqDiff, Nat.reduceAdd, Nat.reduceMul, reduceIte, Nat.reduceLeDiff, Nat.reduceLT, Nat.reduceBEq, reduceCtorEq, hP, bne_self_eq_false]); (repeat (refine And.intro (by first | omega | (intros; simp_all; done) | (intros; simp_all; omega)) ?_))))
          (refine WV_cond rfl (fun h => ?_) (fun h => ?_))
          · simp at h
          (repeat ((first | refine WV_seq_ ?_ | refine WV_block ?_ | refine WV_ops ?_ | refine WV_skip ?_ | refine WV_exit ?_); (try simp only [go_sem, init_env', Nat.reduceEqDiff, Nat.reduceAdd, Nat.reduceMul, reduceIte, Nat.reduceLeDiff, Nat.reduceLT, Nat.reduceBEq, reduceCtorEq, hP, ]); (repeat (refine And.intro (by first | omega | (intros; simp_all; done) | (intros; simp_all; omega)) ?_))))
          (refine AS_pure (hsf m ⟨by omega, by omega⟩) rfl rfl rfl rfl rfl ?_; simp only [go_sem, init_env', Nat.reduceEqDiff, Nat.reduceAdd, Nat.reduceMul, reduceIte, Nat.reduceLeDiff, Nat.reduceLT, Nat.reduceBEq, reduceCtorEq, hP, Royal.av, hwm]; (repeat (refine And.intro (by first | omega | (intros; simp_all; done) | (intros; simp_all; omega)) ?_)); (repeat ((first | refine WV_seq_ ?_ | refine WV_block ?_ | refine WV_ops ?_ | refine WV_skip ?_ | refine WV_exit ?_); (try simp only [go_sem, init_env', Nat.reduceEqDiff, Nat.reduceAdd, Nat.reduceMul, reduceIte, Nat.reduceLeDiff, Nat.reduceLT, Nat.reduceBEq, reduceCtorEq, hP, Royal.av, hwm]); (repeat (refine And.intro (by first | omega | (intros; simp_all; done) | (intros; simp_all; omega)) ?_)))))
          (refine AS_pure (hsf (m - 1) ⟨by omega, by omega⟩) rfl rfl rfl rfl rfl ?_; simp only [go_sem, init_env', Nat.reduceEqDiff, Nat.reduceAdd, Nat.reduceMul, reduceIte, Nat.reduceLeDiff, Nat.reduceLT, Nat.reduceBEq, reduceCtorEq, hP, Royal.av, f3]; (repeat (refine And.intro (by first | omega | (intros; simp_all; done) | (intros; simp_all; omega)) ?_)); (repeat ((first | refine WV_seq_ ?_ | refine WV_block ?_ | refine WV_ops ?_ | refine WV_skip ?_ | refine WV_exit ?_); (try simp only [go_sem, init_env', Nat.reduceEqDiff, Nat.reduceAdd, Nat.reduceMul, reduceIte, Nat.reduceLeDiff, Nat.reduceLT, Nat.reduceBEq, reduceCtorEq, hP, Royal.av, f3]); (repeat (refine And.intro (by first | omega | (intros; simp_all; done) | (intros; simp_all; omega)) ?_)))))
          (refine AG_pure (fun hG => works14) rfl (fun hG => by first | (simp only [go_sem, init_env', Nat.reduceEqDiff, Nat.reduceAdd, Nat.reduceMul, reduceIte, Nat.reduceLeDiff, Nat.reduceLT, Nat.reduceBEq, reduceCtorEq, hG]; done) | (revert hG; simp; done) | simp_all) rfl rfl rfl ?_; simp only [go_sem, init_env', Nat.reduceEqDiff, Nat.reduceAdd, Nat.reduceMul, reduceIte, Nat.reduceLeDiff, Nat.reduceLT, Nat.reduceBEq, reduceCtorEq, hP, ]; (repeat (refine And.intro (by first | omega | (intros; simp_all; done) | (intros; simp_all; omega)) ?_)); (repeat ((first | refine WV_seq_ ?_ | refine WV_block ?_ | refine WV_ops ?_ | refine WV_skip ?_ | refine WV_exit ?_); (try simp only [go_sem, init_env', Nat.reduceEqDiff, Nat.reduceAdd, Nat.reduceMul, reduceIte, Nat.reduceLeDiff, Nat.reduceLT, Nat.reduceBEq, reduceCtorEq, hP, ]); (repeat (refine And.intro (by first | omega | (intros; simp_all; done) | (intros; simp_all; omega)) ?_)))))
          (refine WV_ret ?_; simp only [thenQ, inQ, RetQ, RetOk, resAll, resA]; simp only [go_sem, init_env', Nat.reduceEqDiff, Nat.reduceAdd, Nat.reduceMul, reduceIte, Nat.reduceLeDiff, Nat.reduceLT, Nat.reduceBEq, reduceCtorEq, tupA, AV.port, AV.portL, exists_eq_left', ]; (first | exact AVle.of rfl | refine AVle.of ?_ | skip))
        · simp at h
    · rcases hfirst with ⟨n, rfl, hn1, hn2, hn3, hn4⟩ | ⟨rfl, hn4⟩
      · have f4 : decide (n < 0) = false := by simp; omega
        have f5 : decide (9999 < n) = false := by simp; omega
        have f6 : decide (sh n < c) = false := by simp; omega
        (repeat ((first | refine WV_seq_ ?_ | refine WV_block ?_ | refine WV_ops ?_ | refine WV_skip ?_ | refine WV_exit ?_); (try simp only [go_sem, init_env', Nat.reduceEqDiff, Nat.reduceAdd, Nat.reduceMul, reduceIte, Nat.reduceLeDiff, Nat.reduceLT, Nat.reduceBEq, reduceCtorEq, hP, ]); (repeat (refine And.intro (by first | omega | (intros; simp_all; done) | (intros; simp_all; omega)) ?_))))
        (refine AS_pure (c1) rfl rfl rfl rfl rfl ?_; simp only [go_sem, init_env', Nat.reduceEqDiff, Nat.reduceAdd, Nat.reduceMul, reduceIte, Nat.reduceLeDiff, Nat.reduceLT, Nat.reduceBEq, reduceCtorEq, hP, Royal.av]; (repeat (refine And.intro (by first | omega | (intros; simp_all; done) | (intros; simp_all; omega)) ?_)); (repeat ((first | refine WV_seq_ ?_ | refine WV_block ?_ | refine WV_ops ?_ | refine WV_skip ?_ | refine WV_exit ?_); (try simp only [go_sem, init_env', Nat.reduceEqDiff, Nat.reduceAdd, Nat.reduceMul, reduceIte, Nat.reduceLeDiff, Nat.reduceLT, Nat.reduceBEq, reduceCtorEq, hP, Royal.av]); (repeat (refine And.intro (by first | omega | (intros; simp_all; done) | (intros; simp_all; omega)) ?_)))))
        (refine AS_pure (c2) rfl rfl rfl rfl rfl ?_; simp only [go_sem, init_env', Nat.reduceEqDiff, Nat.reduceAdd, Nat.reduceMul, reduceIte, Nat.reduceLeDiff, Nat.reduceLT, Nat.reduceBEq, reduceCtorEq, hP, Royal.av]; (repeat (refine And.intro (by first | omega | (intros; simp_all; done) | (intros; simp_all; omega)) ?_)); (repeat ((first | refine WV_seq_ ?_ | refine WV_block ?_ | refine WV_ops ?_ | refine WV_skip ?_ | refine WV_exit ?_); (try simp only [go_sem, init_env', Nat.reduceEqDiff, Nat.reduceAdd, Nat.reduceMul, reduceIte, Nat.reduceLeDiff, Nat.reduceLT, Nat.reduceBEq, reduceCtorEq, hP, Royal.av]); (repeat (refine And.intro (by first | omega | (intros; simp_all; done) | (intros; simp_all; omega)) ?_)))))
        (refine AS_pure (hpl) rfl rfl rfl rfl rfl ?_; simp only [go_sem, init_env', Nat.reduceEqDiff, Nat.reduceAdd, Nat.reduceMul, reduceIte, Nat.reduceLeDiff, Nat.reduceLT, Nat.reduceBEq, reduceCtorEq, hP, Royal.av, hp0]; (repeat (refine And.intro (by first | omega | (intros; simp_all; done) | (intros; simp_all; omega)) ?_)); (repeat ((first | refine WV_seq_ ?_ | refine WV_block ?_ | refine WV_ops ?_ | refine WV_skip ?_ | refine WV_exit ?_); (try simp only [go_sem, init_env', Nat.reduceEqDiff, Nat.reduceAdd, Nat.reduceMul, reduceIte, Nat.reduceLeDiff, Nat.reduceLT, Nat.reduceBEq, reduceCtorEq, hP, Royal.av, hp0]); (repeat (refine And.intro (by first | omega | (intros; simp_all; done) | (intros; simp_all; omega)) ?_)))))
        (refine WV_cond rfl (fun h => ?_) (fun h => ?_))
        · simp at h
        clear h
        (repeat ((first | refine WV_seq_ ?_ | refine WV_block ?_ | refine WV_ops ?_ | refine WV_skip ?_ | refine WV_exit ?_); (try simp only [go_sem, init_env', Nat.reduceEqDiff, Nat.reduceAdd, Nat.reduceMul, reduceIte, Nat.reduceLeDiff, Nat.reduceLT, Nat.reduceBEq, reduceCtorEq, hP, bne_self_eq_false, beq_self_eq_true, f4, f5]); (repeat (refine And.intro (by first | omega | (intros; simp_all; done) | (intros; simp_all; omega)) ?_))))
        (refine WV_cond rfl (fun h => ?_) (fun h => ?_))
        · simp at h
        clear h
        (repeat ((first | refine WV_seq_ ?_ | refine WV_block ?_ | refine WV_ops ?_ | refine WV_skip ?_ | refine WV_exit ?_); (try simp only [go_sem, init_env', Nat.reduceEqDiff, Nat.reduceAdd, Nat.reduceMul, reduceIte, Nat.reduceLeDiff, Nat.reduceLT, Nat.reduceBEq, reduceCtorEq, hP, beq_self_eq_true]); (repeat (refine And.intro (by first | omega | (intros; simp_all; done) | (intros; simp_all; omega)) ?_))))
        (refine WV_cond rfl (fun h => ?_) (fun h => ?_))
        · (repeat ((first | refine WV_seq_ ?_ | refine WV_block ?_ | refine WV_ops ?_ | refine WV_skip ?_ | refine WV_exit ?_); (try simp only [go_sem, init_env', Nat.reduceEqDiff, Nat.reduceAdd, Nat.reduceMul, reduceIte, Nat.reduceLeDiff, Nat.reduceLT, Nat.reduceBEq, reduceCtorEq, hP, ]); (repeat (refine And.intro (by first | omega | (intros; simp_all; done) | (intros; simp_all; omega)) ?_))))
          (refine AS_pure (hsf n ⟨hn1, hn2⟩) rfl rfl rfl rfl rfl ?_; simp only [go_sem, init_env', Nat.reduceEqDiff, Nat.reduceAdd, Nat.reduceMul, reduceIte, Nat.reduceLeDiff, Nat.reduceLT, Nat.reduceBEq, reduceCtorEq, hP, Royal.av, f6]; (repeat (refine And.intro (by first | omega | (intros; simp_all; done) | (intros; simp_all; omega)) ?_)); (repeat ((first | refine WV_seq_ ?_ | refine WV_block ?_ | refine WV_ops ?_ | refine WV_skip ?_ | refine WV_exit ?_); (try simp only [go_sem, init_env', Nat.reduceEqDiff, Nat.reduceAdd, Nat.reduceMul, reduceIte, Nat.reduceLeDiff, Nat.reduceLT, Nat.reduceBEq, reduceCtorEq, hP, Royal.av, f6]); (repeat (refine And.intro (by first | omega | (intros; simp_all; done) | (intros; simp_all; omega)) ?_)))))
          (refine WV_cond rfl (fun h => ?_) (fun h => ?_))
          · simp at h
          clear h
          (repeat ((first | refine WV_seq_ ?_ | refine WV_block ?_ | refine WV_ops ?_ | refine WV_skip ?_ | refine WV_exit ?_); (try simp only [go_sem, init_env', Nat.reduceEqDiff, Nat.reduceAdd, Nat.reduceMul, reduceIte, Nat.reduceLeDiff, Nat.reduceLT, Nat.reduceBEq, reduceCtorEq, hP, bne_self_eq_false]); (repeat (refine And.intro (by first | omega | (intros; simp_all; done) | (intros; simp_all; omega)) ?_))))
          (refine WV_cond rfl (fun h => ?_) (fun h => ?_))
          · have h : p < n := by simpa using h
            have hn5 := hn4 h
            have f7 : decide (c ≤ sh p) = false := by simp; omega
            (repeat ((first | refine WV_seq_ ?_ | refine WV_block ?_ | refine WV_ops ?_ | refine WV_skip ?_ | refine WV_exit ?_); (try simp only [go_sem, init_env', Nat.reduceEqDiff, Nat.reduceAdd, Nat.reduceMul, reduceIte, Nat.reduceLeDiff, Nat.reduceLT, Nat.reduceBEq, reduceCtorEq, hP, ]); (repeat (refine And.intro (by first | omega | (intros; simp_all; done) | (intros; simp_all; omega)) ?_))))
            (refine AS_pure (hsf p ⟨hp1, hp2⟩) rfl rfl rfl rfl rfl ?_; simp only [go_sem, init_env', Nat.reduceEqDiff, Nat.reduceAdd, Nat.reduceMul, reduceIte, Nat.reduceLeDiff, Nat.reduceLT, Nat.reduceBEq, reduceCtorEq, hP, Royal.av, f7]; (repeat (refine And.intro (by first | omega | (intros; simp_all; done) | (intros; simp_all; omega)) ?_)); (repeat ((first | refine WV_seq_ ?_ | refine WV_block ?_ | refine WV_ops ?_ | refine WV_skip ?_ | refine WV_exit ?_); (try simp only [go_sem, init_env', Nat.reduceEqDiff, Nat.reduceAdd, Nat.reduceMul, reduceIte, Nat.reduceLeDiff, Nat.reduceLT, Nat.reduceBEq, reduceCtorEq, hP, Royal.av, f7]); (repeat (refine And.intro (by first | omega | (intros; simp_all; done) | (intros; simp_all; omega)) ?_)))))
            (refine WV_cond rfl (fun h => ?_) (fun h => ?_))
            · simp at h
            clear h
            (repeat ((first | refine WV_seq_ ?_ | refine WV_block ?_ | refine WV_ops ?_ | refine WV_skip ?_ | refine WV_exit ?_); (try simp only [go_sem, init_env', Nat.reduceEqDiff, Nat.reduceAdd, Nat.reduceMul, reduceIte, Nat.reduceLeDiff, Nat.reduceLT, Nat.reduceBEq, reduceCtorEq, hP, ]); (repeat (refine And.intro (by first | omega | (intros; simp_all; done) | (intros; simp_all; omega)) ?_))))
            (refine WV_cond rfl (fun h => ?_) (fun h => ?_))
            · (repeat ((first | refine WV_seq_ ?_ | refine WV_block ?_ | refine WV_ops ?_ | refine WV_skip ?_ | refine WV_exit ?_); (try simp only [go_sem, init_env', Nat.reduceEqDiff, Nat.reduceAdd, Nat.reduceMul, reduceIte, Nat.reduceLeDiff, Nat.reduceLT, Nat.reduceBEq, reduceCtorEq, hP, ]); (repeat (refine And.intro (by first | omega | (intros; simp_all; done) | (intros; simp_all; omega)) ?_))))
              (refine AS_pure (works14) rfl rfl rfl rfl rfl ?_; simp only [go_sem, init_env', Nat.reduceEqDiff, Nat.reduceAdd, Nat.reduceMul, reduceIte, Nat.reduceLeDiff, Nat.reduceLT, Nat.reduceBEq, reduceCtorEq, hP, ]; (repeat (refine And.intro (by first | omega | (intros; simp_all; done) | (intros; simp_all; omega)) ?_)); (repeat ((first | refine WV_seq_ ?_ | refine WV_block ?_ | refine WV_ops ?_ | refine WV_skip ?_ | refine WV_exit ?_); (try simp only [go_sem, init_env', Nat.reduceEqDiff, Nat.reduceAdd, Nat.reduceMul, reduceIte, Nat.reduceLeDiff, Nat.reduceLT, Nat.reduceBEq, reduceCtorEq, hP, ]); (repeat (refine And.intro (by first | omega | (intros; simp_all; done) | (intros; simp_all; omega)) ?_)))))
              (refine WV_ret ?_; simp only [thenQ, inQ, RetQ, RetOk, resAll, resA]; simp only [go_sem, init_env', Nat.reduceEqDiff, Nat.reduceAdd, Nat.reduceMul, reduceIte, Nat.reduceLeDiff, Nat.reduceLT, Nat.reduceBEq, reduceCtorEq, tupA, AV.port, AV.portL, exists_eq_left', ]; (first | exact AVle.of rfl | refine AVle.of ?_ | skip))
            · simp at h
          · clear h
            (repeat ((first | refine WV_seq_ ?_ | refine WV_block ?_ | refine WV_ops ?_ | refine WV_skip ?_ | refine WV_exit ?_); (try simp only [go_sem, init_env', Nat.reduceEqDiff, Nat.reduceAdd, Nat.reduceMul, reduceIte, Nat.reduceLeDiff, Nat.reduceLT, Nat.reduceBEq, reduceCtorEq, hP, ]); (repeat (refine And.intro (by first | omega | (intros; simp_all; done) | (intros; simp_all; omega)) ?_))))
            (refine WV_cond rfl (fun h => ?_) (fun h => ?_))
            · (repeat ((first | refine WV_seq_ ?_ | refine WV_block ?_ | refine WV_ops ?_ | refine WV_skip ?_ | refine WV_exit ?_); (try simp only [go_sem, init_env', Nat.reduceEqDiff, Nat.reduceAdd, Nat.reduceMul, reduceIte, Nat.reduceLeDiff, Nat.reduceLT, Nat.reduceBEq, reduceCtorEq, hP, ]); (repeat (refine And.intro (by first | omega | (intros; simp_all; done) | (intros; simp_all; omega)) ?_))))
              (refine AS_pure (works14) rfl rfl rfl rfl rfl ?_; simp only [go_sem, init_env', Nat.reduceEqDiff, Nat.reduceAdd, Nat.reduceMul, reduceIte, Nat.reduceLeDiff, Nat.reduceLT, Nat.reduceBEq, reduceCtorEq, hP, ]; (repeat (refine And.intro (by first | omega | (intros; simp_all; done) | (intros; simp_all; omega)) ?_)); (repeat ((first | refine WV_seq_ ?_ | refine WV_block ?_ | refine WV_ops ?_ | refine WV_skip ?_ | refine WV_exit ?_); (try simp only [go_sem, init_env', Nat.reduceEqDiff, Nat.reduceAdd, Nat.reduceMul, reduceIte, Nat.reduceLeDiff, Nat.reduceLT, Nat.reduceBEq, reduceCtorEq, hP, ]); (repeat (refine And.intro (by first | omega | (intros; simp_all; done) | (intros; simp_all; omega)) ?_)))))
              (refine WV_ret ?_; simp only [thenQ, inQ, RetQ, RetOk, resAll, resA]; simp only [go_sem, init_env', Nat.reduceEqDiff, Nat.reduceAdd, Nat.reduceMul, reduceIte, Nat.reduceLeDiff, Nat.reduceLT, Nat.reduceBEq, reduceCtorEq, tupA, AV.port, AV.portL, exists_eq_left', ]; (first | exact AVle.of rfl | refine AVle.of ?_ | skip))
            · simp at h
        · simp at h
      · have f7 : decide (c ≤ sh p) = false := by simp; omega
        (repeat ((first | refine WV_seq_ ?_ | refine WV_block ?_ | refine WV_ops ?_ | refine WV_skip ?_ | refine WV_exit ?_); (try simp only [go_sem, init_env', Nat.reduceEqDiff, Nat.reduceAdd, Nat.reduceMul, reduceIte, Nat.reduceLeDiff, Nat.reduceLT, Nat.reduceBEq, reduceCtorEq, hP, ]); (repeat (refine And.intro (by first | omega | (intros; simp_all; done) | (intros; simp_all; omega)) ?_))))
        (refine AS_pure (c1) rfl rfl rfl rfl rfl ?_; simp only [go_sem, init_env', Nat.reduceEqDiff, Nat.reduceAdd, Nat.reduceMul, reduceIte, Nat.reduceLeDiff, Nat.reduceLT, Nat.reduceBEq, reduceCtorEq, hP, Royal.av]; (repeat (refine And.intro (by first | omega | (intros; simp_all; done) | (intros; simp_all; omega)) ?_)); (repeat ((first | refine WV_seq_ ?_ | refine WV_block ?_ | refine WV_ops ?_ | refine WV_skip ?_ | refine WV_exit ?_); (try simp only [go_sem, init_env', Nat.reduceEqDiff, Nat.reduceAdd, Nat.reduceMul, reduceIte, Nat.reduceLeDiff, Nat.reduceLT, Nat.reduceBEq, reduceCtorEq, hP, Royal.av]); (repeat (refine And.intro (by first | omega | (intros; simp_all; done) | (intros; simp_all; omega)) ?_)))))
        (refine AS_pure (c2) rfl rfl rfl rfl rfl ?_; simp only [go_sem, init_env', Nat.reduceEqDiff, Nat.reduceAdd, Nat.reduceMul, reduceIte, Nat.reduceLeDiff, Nat.reduceLT, Nat.reduceBEq, reduceCtorEq, hP, Royal.av]; (repeat (refine And.intro (by first | omega | (intros; simp_all; done) | (intros; simp_all; omega)) ?_)); (repeat ((first | refine WV_seq_ ?_ | refine WV_block ?_ | refine WV_ops ?_ | refine WV_skip ?_ | refine WV_exit ?_); (try simp only [go_sem, init_env', Nat.reduceEqDiff, Nat.reduceAdd, Nat.reduceMul, reduceIte, Nat.reduceLeDiff, Nat.reduceLT, Nat.reduceBEq, reduceCtorEq, hP, Royal.av]); (repeat (refine And.intro (by first | omega | (intros; simp_all; done) | (intros; simp_all; omega)) ?_)))))
        (refine AS_pure (hpl) rfl rfl rfl rfl rfl ?_; simp only [go_sem, init_env', Nat.reduceEqDiff, Nat.reduceAdd, Nat.reduceMul, reduceIte, Nat.reduceLeDiff, Nat.reduceLT, Nat.reduceBEq, reduceCtorEq, hP, Royal.av, hp0]; (repeat (refine And.intro (by first | omega | (intros; simp_all; done) | (intros; simp_all; omega)) ?_)); (repeat ((first | refine WV_seq_ ?_ | refine WV_block ?_ | refine WV_ops ?_ | refine WV_skip ?_ | refine WV_exit ?_); (try simp only [go_sem, init_env', Nat.reduceEqDiff, Nat.reduceAdd, Nat.reduceMul, reduceIte, Nat.reduceLeDiff, Nat.reduceLT, Nat.reduceBEq, reduceCtorEq, hP, Royal.av, hp0]); (repeat (refine And.intro (by first | omega | (intros; simp_all; done) | (intros; simp_all; omega)) ?_)))))
        (refine WV_cond rfl (fun h => ?_) (fun h => ?_))
        · simp at h
        clear h
        (repeat ((first | refine WV_seq_ ?_ | refine WV_block ?_ | refine WV_ops ?_ | refine WV_skip ?_ | refine WV_exit ?_); (try simp only [go_sem, init_env', Nat.reduceEqDiff, Nat.reduceAdd, Nat.reduceMul, reduceIte, Nat.reduceLeDiff, Nat.reduceLT, Nat.reduceBEq, reduceCtorEq, hP, bne_self_eq_false, beq_self_eq_true]); (repeat (refine And.intro (by first | omega | (intros; simp_all; done) | (intros; simp_all; omega)) ?_))))
        (refine WV_cond rfl (fun h => ?_) (fun h => ?_))
        · simp at h
        clear h
        (repeat ((first | refine WV_seq_ ?_ | refine WV_block ?_ | refine WV_ops ?_ | refine WV_skip ?_ | refine WV_exit ?_); (try simp only [go_sem, init_env', Nat.reduceEqDiff, Nat.reduceAdd, Nat.reduceMul, reduceIte, Nat.reduceLeDiff, Nat.reduceLT, Nat.reduceBEq, reduceCtorEq, hP, ]); (repeat (refine And.intro (by first | omega | (intros; simp_all; done) | (intros; simp_all; omega)) ?_))))
        (refine WV_cond rfl (fun h => ?_) (fun h => ?_))
        · simp at h
        clear h
        (repeat ((first | refine WV_seq_ ?_ | refine WV_block ?_ | refine WV_ops ?_ | refine WV_skip ?_ | refine WV_exit ?_); (try simp only [go_sem, init_env', Nat.reduceEqDiff, Nat.reduceAdd, Nat.reduceMul, reduceIte, Nat.reduceLeDiff, Nat.reduceLT, Nat.reduceBEq, reduceCtorEq, hP, ]); (repeat (refine And.intro (by first | omega | (intros; simp_all; done) | (intros; simp_all; omega)) ?_))))
        (refine WV_cond rfl (fun h => ?_) (fun h => ?_))
        · (repeat ((first | refine WV_seq_ ?_ | refine WV_block ?_ | refine WV_ops ?_ | refine WV_skip ?_ | refine WV_exit ?_); (try simp only [go_sem, init_env', Nat.reduceEqDiff, Nat.reduceAdd, Nat.reduceMul, reduceIte, Nat.reduceLeDiff, Nat.reduceLT, Nat.reduceBEq, reduceCtorEq, hP, ]); (repeat (refine And.intro (by first | omega | (intros; simp_all; done) | (intros; simp_all; omega)) ?_))))
          (refine AS_pure (hsf p ⟨hp1, hp2⟩) rfl rfl rfl rfl rfl ?_; simp only [go_sem, init_env', Nat.reduceEqDiff, Nat.reduceAdd, Nat.reduceMul, reduceIte, Nat.reduceLeDiff, Nat.reduceLT, Nat.reduceBEq, reduceCtorEq, hP, Royal.av, f7]; (repeat (refine And.intro (by first | omega | (intros; simp_all; done) | (intros; simp_all; omega)) ?_)); (repeat ((first | refine WV_seq_ ?_ | refine WV_block ?_ | refine WV_ops ?_ | refine WV_skip ?_ | refine WV_exit ?_); (try simp only [go_sem, init_env', Nat.reduceEqDiff, Nat.reduceAdd, Nat.reduceMul, reduceIte, Nat.reduceLeDiff, Nat.reduceLT, Nat.reduceBEq, reduceCtorEq, hP, Royal.av, f7]); (repeat (refine And.intro (by first | omega | (intros; simp_all; done) | (intros; simp_all; omega)) ?_)))))
          (refine WV_cond rfl (fun h => ?_) (fun h => ?_))
          · simp at h
          clear h
          (repeat ((first | refine WV_seq_ ?_ | refine WV_block ?_ | refine WV_ops ?_ | refine WV_skip ?_ | refine WV_exit ?_); (try simp only [go_sem, init_env', Nat.reduceEqDiff, Nat.reduceAdd, Nat.reduceMul, reduceIte, Nat.reduceLeDiff, Nat.reduceLT, Nat.reduceBEq, reduceCtorEq, hP, ]); (repeat (refine And.intro (by first | omega | (intros; simp_all; done) | (intros; simp_all; omega)) ?_))))
          (refine WV_cond rfl (fun h => ?_) (fun h => ?_))
          · (repeat ((first | refine WV_seq_ ?_ | refine WV_block ?_ | refine WV_ops ?_ | refine WV_skip ?_ | refine WV_exit ?_); (try simp only [go_sem, init_env', Nat.reduceEqDiff, Nat.reduceAdd, Nat.reduceMul, reduceIte, Nat.reduceLeDiff, Nat.reduceLT, Nat.reduceBEq, reduceCtorEq, hP, ]); (repeat (refine And.intro (by first | omega | (intros; simp_all; done) | (intros; simp_all; omega)) ?_))))
            (refine AS_pure (works14) rfl rfl rfl rfl rfl ?_; simp only [go_sem, init_env', Nat.reduceEqDiff, Nat.reduceAdd, Nat.reduceMul, reduceIte, Nat.reduceLeDiff, Nat.reduceLT, Nat.reduceBEq, reduceCtorEq, hP, ]; (repeat (refine And.intro (by first | omega | (intros; simp_all; done) | (intros; simp_all; omega)) ?_)); (repeat ((first | refine WV_seq_ ?_ | refine WV_block ?_ | refine WV_ops ?_ | refine WV_skip ?_ | refine WV_exit ?_); (try simp only [go_sem, init_env', Nat.reduceEqDiff, Nat.reduceAdd, Nat.reduceMul, reduceIte, Nat.reduceLeDiff, Nat.reduceLT, Nat.reduceBEq, reduceCtorEq, hP, ]); (repeat (refine And.intro (by first | omega | (intros; simp_all; done) | (intros; simp_all; omega)) ?_)))))
            (refine WV_ret ?_; simp only [thenQ, inQ, RetQ, RetOk, resAll, resA]; simp only [go_sem, init_env', Nat.reduceEqDiff, Nat.reduceAdd, Nat.reduceMul, reduceIte, Nat.reduceLeDiff, Nat.reduceLT, Nat.reduceBEq, reduceCtorEq, tupA, AV.port, AV.portL, exists_eq_left', ]; (first | exact AVle.of rfl | refine AVle.of ?_ | skip))
          · simp at h
        · simp at h
end Go.Proofs.Ytnmchaemhjnkgaa
