/-
  Contracts of the layer's functions, of the laws' helpers and of the law; conditions: as each theorem states.
-/
import Derived.Test.YtkpgpgaojjobgaaU6
set_option linter.unusedVariables false
set_option linter.unusedSimpArgs false
namespace Go.Proofs.Ytkpgpgaojjobgaa
open Go Go.V
@[reducible] def o14_0 : List Ins := [⟨(some 3), .box 5 (.t 0), none, true⟩,
  ⟨(some 6), .mv (.k (.c (.bool false))), none, true⟩]
@[reducible] def o14_1 : List Ins := [⟨(some 27), .fa 4 (.t 3), none, true⟩,
  ⟨(some 28), .ld true 1 (.t 27), none, true⟩,
  ⟨(some 29), .len (.t 28), none, true⟩,
  ⟨(some 7), .mv (.t 29), none, true⟩]
@[reducible] def o14_2 : List Ins := [⟨(some 30), .ld false 5 (.t 3), none, true⟩,
  ⟨(some 31), .call (.k (.fn 16 [])) [(.t 30)], none, true⟩,
  ⟨(some 32), .un .not (.t 31), none, true⟩,
  ⟨(some 33), .mv (.t 32), none, true⟩,
  ⟨(some 34), .mv (.t 1), (some (33, false)), true⟩,
  ⟨(some 35), .bin .lss (.t 34) (.k (.c (.int .i64 0))), (some (33, false)), true⟩,
  ⟨(some 36), .pick (.t 33) (.k (.c (.bool true))) (.t 35), none, true⟩,
  ⟨(some 37), .mv (.t 36), none, true⟩,
  ⟨(some 38), .mv (.t 1), (some (37, false)), true⟩,
  ⟨(some 39), .bin .gtr (.t 38) (.k (.c (.int .i64 1000))), (some (37, false)), true⟩,
  ⟨(some 40), .pick (.t 37) (.k (.c (.bool true))) (.t 39), none, true⟩,
  ⟨(some 41), .mv (.t 40), none, true⟩,
  ⟨(some 42), .mv (.t 7), (some (41, false)), true⟩,
  ⟨(some 43), .bin .eql (.t 42) (.k (.c (.int .i64 0))), (some (41, false)), true⟩,
  ⟨(some 44), .pick (.t 41) (.k (.c (.bool true))) (.t 43), none, true⟩]
@[reducible] def o14_3 : List Ins := [⟨(some 45), .call (.k (.fn 19 [])) [], none, true⟩,
  ⟨(some 6), .mv (.t 45), none, true⟩]
@[reducible] def v14_4 : VC := (.seq (.ops o14_3) .ret)
@[reducible] def v14_5 : VC := (.cond (.t 44) v14_4 .skip)
@[reducible] def o14_6 : List Ins := [⟨(some 46), .ld false 5 (.t 3), none, true⟩,
  ⟨(some 47), .call (.k (.fn 20 [])) [(.t 46)], none, true⟩,
  ⟨(some 8), .alloc [(.c (.raw (.slice none 0 0))), (.c (.int .i64 0)), (.c (.int .i64 0)), (.c (.int .i64 0)), (.c (.raw (.slice none 0 0)))], none, true⟩,
  ⟨none, .st 5 (.t 8) (.t 47), none, true⟩]
@[reducible] def o14_7 : List Ins := [⟨(some 9), .mv (.k (.c (.int .i64 0))), none, true⟩]
@[reducible] def o14_8 : List Ins := [⟨(some 48), .mv (.t 9), none, true⟩,
  ⟨(some 49), .mv (.t 7), none, true⟩,
  ⟨(some 50), .bin .lss (.t 48) (.t 49), none, true⟩]
@[reducible] def v14_9 : VC := (.cond (.t 50) .skip (.exit 0))
@[reducible] def o14_10 : List Ins := [⟨(some 53), .mv (.t 9), none, true⟩,
  ⟨(some 54), .mv (.t 1), none, true⟩,
  ⟨(some 55), .bin .add (.t 53) (.t 54), none, true⟩,
  ⟨(some 56), .mv (.t 7), none, true⟩,
  ⟨(some 57), .bin .rem (.t 55) (.t 56), none, true⟩,
  ⟨(some 10), .mv (.t 57), none, true⟩]
@[reducible] def o14_11 : List Ins := [⟨(some 58), .mv (.t 2), none, true⟩]
@[reducible] def o14_12 : List Ins := [⟨(some 59), .mv (.t 7), none, true⟩,
  ⟨(some 60), .bin .sub (.t 59) (.k (.c (.int .i64 1))), none, true⟩,
  ⟨(some 61), .mv (.t 10), none, true⟩,
  ⟨(some 62), .bin .sub (.t 60) (.t 61), none, true⟩,
  ⟨(some 10), .mv (.t 62), none, true⟩]
@[reducible] def v14_13 : VC := (.cond (.t 58) (.ops o14_12) .skip)
@[reducible] def o14_14 : List Ins := [⟨(some 63), .fa 4 (.t 8), none, false⟩,
  ⟨(some 64), .ld true 1 (.t 63), none, false⟩,
  ⟨(some 65), .mv (.t 9), none, false⟩,
  ⟨(some 66), .fa 4 (.t 3), none, false⟩,
  ⟨(some 67), .ld true 1 (.t 66), none, false⟩,
  ⟨(some 68), .mv (.t 10), none, false⟩,
  ⟨(some 69), .ia 2 (.t 67) (.t 68), none, false⟩,
  ⟨(some 70), .ld false 2 (.t 69), none, false⟩,
  ⟨(some 71), .ia 2 (.t 64) (.t 65), none, true⟩,
  ⟨none, .st 2 (.t 71) (.t 70), none, true⟩]
@[reducible] def v14_15 : VC := (.seq (.seq (.ops o14_11) v14_13) (.ops o14_14))
@[reducible] def v14_16 : VC := (.seq (.ops o14_10) v14_15)
@[reducible] def o14_17 : List Ins := [⟨(some 51), .mv (.t 9), none, true⟩,
  ⟨(some 52), .bin .add (.t 51) (.k (.c (.int .i64 1))), none, true⟩,
  ⟨(some 9), .mv (.t 52), none, true⟩]
@[reducible] def v14_18 : VC := (.seq (.block 1 v14_16) (.ops o14_17))
@[reducible] def v14_19 : VC := (.seq (.seq (.ops o14_8) v14_9) v14_18)
-- K14_1: changed and kept: [9]
@[reducible] def K14_1 : List Nat := [1, 2, 3, 7, 8]
@[reducible] def v14_20 : VC := (.loop v14_19)
@[reducible] def v14_21 : VC := (.block 0 v14_20)
@[reducible] def o14_22 : List Ins := [⟨(some 73), .ld false 5 (.t 3), none, true⟩,
  ⟨(some 74), .call (.k (.fn 22 [])) [(.t 73)], none, true⟩,
  ⟨(some 72), .mv (.t 74), none, true⟩,
  ⟨(some 75), .ext (.t 72) 0, none, true⟩,
  ⟨(some 76), .ext (.t 72) 1, none, true⟩,
  ⟨(some 11), .mv (.t 75), none, true⟩,
  ⟨(some 12), .mv (.t 76), none, true⟩]
@[reducible] def o14_23 : List Ins := [⟨(some 78), .ld false 5 (.t 8), none, true⟩,
  ⟨(some 79), .call (.k (.fn 22 [])) [(.t 78)], none, true⟩,
  ⟨(some 77), .mv (.t 79), none, true⟩,
  ⟨(some 80), .ext (.t 77) 0, none, true⟩,
  ⟨(some 81), .ext (.t 77) 1, none, true⟩,
  ⟨(some 13), .mv (.t 80), none, true⟩,
  ⟨(some 14), .mv (.t 81), none, true⟩]
@[reducible] def o14_24 : List Ins := [⟨(some 83), .ld false 5 (.t 3), none, true⟩,
  ⟨(some 84), .call (.k (.fn 38 [])) [(.t 83)], none, true⟩,
  ⟨(some 82), .mv (.t 84), none, true⟩,
  ⟨(some 85), .ext (.t 82) 0, none, true⟩,
  ⟨(some 86), .ext (.t 82) 1, none, true⟩,
  ⟨(some 15), .mv (.t 85), none, true⟩,
  ⟨(some 16), .mv (.t 86), none, true⟩]
@[reducible] def o14_25 : List Ins := [⟨(some 88), .ld false 5 (.t 8), none, true⟩,
  ⟨(some 89), .call (.k (.fn 38 [])) [(.t 88)], none, true⟩,
  ⟨(some 87), .mv (.t 89), none, true⟩,
  ⟨(some 90), .ext (.t 87) 0, none, true⟩,
  ⟨(some 91), .ext (.t 87) 1, none, true⟩,
  ⟨(some 17), .mv (.t 90), none, true⟩,
  ⟨(some 18), .mv (.t 91), none, true⟩]
@[reducible] def o14_26 : List Ins := [⟨(some 92), .mv (.t 12), none, true⟩,
  ⟨(some 93), .bin .neq (.t 92) (.k (.c (.int .i64 0))), none, true⟩,
  ⟨(some 94), .mv (.t 93), none, true⟩,
  ⟨(some 95), .mv (.t 14), (some (94, false)), true⟩,
  ⟨(some 96), .bin .neq (.t 95) (.k (.c (.int .i64 0))), (some (94, false)), true⟩,
  ⟨(some 97), .pick (.t 94) (.k (.c (.bool true))) (.t 96), none, true⟩,
  ⟨(some 98), .mv (.t 97), none, true⟩,
  ⟨(some 99), .mv (.t 16), (some (98, false)), true⟩,
  ⟨(some 100), .bin .neq (.t 99) (.k (.c (.int .i64 0))), (some (98, false)), true⟩,
  ⟨(some 101), .pick (.t 98) (.k (.c (.bool true))) (.t 100), none, true⟩,
  ⟨(some 102), .mv (.t 101), none, true⟩,
  ⟨(some 103), .mv (.t 18), (some (102, false)), true⟩,
  ⟨(some 104), .bin .neq (.t 103) (.k (.c (.int .i64 0))), (some (102, false)), true⟩,
  ⟨(some 105), .pick (.t 102) (.k (.c (.bool true))) (.t 104), none, true⟩,
  ⟨(some 106), .mv (.t 105), none, true⟩,
  ⟨(some 107), .mv (.t 11), (some (106, false)), true⟩,
  ⟨(some 108), .mv (.t 13), (some (106, false)), true⟩,
  ⟨(some 109), .call (.k (.fn 34 [])) [(.t 107), (.t 108)], (some (106, false)), true⟩,
  ⟨(some 110), .un .not (.t 109), (some (106, false)), true⟩,
  ⟨(some 111), .pick (.t 106) (.k (.c (.bool true))) (.t 110), none, true⟩,
  ⟨(some 112), .mv (.t 111), none, true⟩,
  ⟨(some 113), .mv (.t 15), (some (112, false)), true⟩,
  ⟨(some 114), .mv (.t 17), (some (112, false)), true⟩,
  ⟨(some 115), .bin .neq (.t 113) (.t 114), (some (112, false)), true⟩,
  ⟨(some 116), .pick (.t 112) (.k (.c (.bool true))) (.t 115), none, true⟩]
@[reducible] def o14_27 : List Ins := [⟨(some 6), .mv (.k (.c (.bool false))), none, true⟩]
@[reducible] def v14_28 : VC := (.seq (.ops o14_27) .ret)
@[reducible] def v14_29 : VC := (.cond (.t 116) v14_28 .skip)
@[reducible] def o14_30 : List Ins := [⟨(some 19), .mv (.k (.c (.int .i64 0))), none, true⟩]
@[reducible] def o14_31 : List Ins := [⟨(some 117), .mv (.t 19), none, true⟩,
  ⟨(some 118), .mv (.t 7), none, true⟩,
  ⟨(some 119), .bin .lss (.t 117) (.t 118), none, true⟩]
@[reducible] def v14_32 : VC := (.cond (.t 119) .skip (.exit 2))
@[reducible] def o14_33 : List Ins := [⟨(some 122), .mv (.t 19), none, true⟩,
  ⟨(some 123), .mv (.t 1), none, true⟩,
  ⟨(some 124), .bin .add (.t 122) (.t 123), none, true⟩,
  ⟨(some 125), .mv (.t 7), none, true⟩,
  ⟨(some 126), .bin .rem (.t 124) (.t 125), none, true⟩,
  ⟨(some 20), .mv (.t 126), none, true⟩]
@[reducible] def o14_34 : List Ins := [⟨(some 127), .mv (.t 2), none, true⟩]
@[reducible] def o14_35 : List Ins := [⟨(some 128), .mv (.t 7), none, true⟩,
  ⟨(some 129), .bin .sub (.t 128) (.k (.c (.int .i64 1))), none, true⟩,
  ⟨(some 130), .mv (.t 20), none, true⟩,
  ⟨(some 131), .bin .sub (.t 129) (.t 130), none, true⟩,
  ⟨(some 20), .mv (.t 131), none, true⟩]
@[reducible] def v14_36 : VC := (.cond (.t 127) (.ops o14_35) .skip)
@[reducible] def o14_37 : List Ins := [⟨(some 133), .ld false 5 (.t 3), none, true⟩,
  ⟨(some 134), .mv (.t 20), none, true⟩,
  ⟨(some 135), .call (.k (.fn 27 [])) [(.t 133), (.t 134)], none, true⟩,
  ⟨(some 132), .mv (.t 135), none, true⟩,
  ⟨(some 136), .ext (.t 132) 0, none, true⟩,
  ⟨(some 137), .ext (.t 132) 1, none, true⟩,
  ⟨(some 21), .mv (.t 136), none, true⟩,
  ⟨(some 22), .mv (.t 137), none, true⟩]
@[reducible] def o14_38 : List Ins := [⟨(some 139), .ld false 5 (.t 8), none, true⟩,
  ⟨(some 140), .mv (.t 19), none, true⟩,
  ⟨(some 141), .call (.k (.fn 27 [])) [(.t 139), (.t 140)], none, true⟩,
  ⟨(some 138), .mv (.t 141), none, true⟩,
  ⟨(some 142), .ext (.t 138) 0, none, true⟩,
  ⟨(some 143), .ext (.t 138) 1, none, true⟩,
  ⟨(some 23), .mv (.t 142), none, true⟩,
  ⟨(some 24), .mv (.t 143), none, true⟩]
@[reducible] def o14_39 : List Ins := [⟨(some 144), .mv (.t 22), none, true⟩,
  ⟨(some 145), .bin .neq (.t 144) (.k (.c (.int .i64 0))), none, true⟩,
  ⟨(some 146), .mv (.t 145), none, true⟩,
  ⟨(some 147), .mv (.t 24), (some (146, false)), true⟩,
  ⟨(some 148), .bin .neq (.t 147) (.k (.c (.int .i64 0))), (some (146, false)), true⟩,
  ⟨(some 149), .pick (.t 146) (.k (.c (.bool true))) (.t 148), none, true⟩,
  ⟨(some 150), .mv (.t 149), none, true⟩,
  ⟨(some 151), .mv (.t 21), (some (150, false)), true⟩,
  ⟨(some 152), .mv (.t 23), (some (150, false)), true⟩,
  ⟨(some 153), .bin .neq (.t 151) (.t 152), (some (150, false)), true⟩,
  ⟨(some 154), .pick (.t 150) (.k (.c (.bool true))) (.t 153), none, true⟩]
@[reducible] def o14_40 : List Ins := [⟨(some 6), .mv (.k (.c (.bool false))), none, true⟩]
@[reducible] def v14_41 : VC := (.seq (.ops o14_40) .ret)
@[reducible] def v14_42 : VC := (.cond (.t 154) v14_41 .skip)
@[reducible] def v14_43 : VC := (.seq (.ops o14_39) v14_42)
@[reducible] def v14_44 : VC := (.seq (.ops o14_38) v14_43)
@[reducible] def v14_45 : VC := (.seq (.ops o14_37) v14_44)
@[reducible] def v14_46 : VC := (.seq (.seq (.ops o14_34) v14_36) v14_45)
@[reducible] def v14_47 : VC := (.seq (.ops o14_33) v14_46)
@[reducible] def o14_48 : List Ins := [⟨(some 120), .mv (.t 19), none, true⟩,
  ⟨(some 121), .bin .add (.t 120) (.k (.c (.int .i64 1))), none, true⟩,
  ⟨(some 19), .mv (.t 121), none, true⟩]
@[reducible] def v14_49 : VC := (.seq (.block 3 v14_47) (.ops o14_48))
@[reducible] def v14_50 : VC := (.seq (.seq (.ops o14_31) v14_32) v14_49)
-- K14_2: changed and kept: [19]
@[reducible] def K14_2 : List Nat := [1, 2, 3, 7, 8]
@[reducible] def v14_51 : VC := (.loop v14_50)
@[reducible] def v14_52 : VC := (.block 2 v14_51)
@[reducible] def o14_53 : List Ins := [⟨(some 156), .ld false 5 (.t 3), none, true⟩,
  ⟨(some 157), .call (.k (.fn 35 [])) [(.t 156)], none, true⟩,
  ⟨(some 155), .mv (.t 157), none, true⟩,
  ⟨(some 158), .ext (.t 155) 0, none, true⟩,
  ⟨(some 159), .ext (.t 155) 1, none, true⟩,
  ⟨(some 25), .mv (.t 158), none, true⟩,
  ⟨(some 12), .mv (.t 159), none, true⟩]
@[reducible] def o14_54 : List Ins := [⟨(some 161), .ld false 5 (.t 8), none, true⟩,
  ⟨(some 162), .call (.k (.fn 35 [])) [(.t 161)], none, true⟩,
  ⟨(some 160), .mv (.t 162), none, true⟩,
  ⟨(some 163), .ext (.t 160) 0, none, true⟩,
  ⟨(some 164), .ext (.t 160) 1, none, true⟩,
  ⟨(some 26), .mv (.t 163), none, true⟩,
  ⟨(some 14), .mv (.t 164), none, true⟩]
@[reducible] def o14_55 : List Ins := [⟨(some 165), .mv (.t 25), none, true⟩,
  ⟨(some 166), .mv (.t 26), none, true⟩,
  ⟨(some 167), .bin .eql (.t 165) (.t 166), none, true⟩,
  ⟨(some 168), .mv (.t 167), none, true⟩,
  ⟨(some 169), .mv (.t 12), (some (168, true)), true⟩,
  ⟨(some 170), .mv (.t 14), (some (168, true)), true⟩,
  ⟨(some 171), .bin .eql (.t 169) (.t 170), (some (168, true)), true⟩,
  ⟨(some 172), .pick (.t 168) (.t 171) (.k (.c (.bool false))), none, true⟩,
  ⟨(some 173), .mv (.t 172), none, true⟩,
  ⟨(some 174), .call (.k (.fn 19 [])) [], (some (173, true)), true⟩,
  ⟨(some 175), .pick (.t 173) (.t 174) (.k (.c (.bool false))), none, true⟩,
  ⟨(some 6), .mv (.t 175), none, true⟩]
@[reducible] def v14_56 : VC := (.seq (.ops o14_55) .ret)
@[reducible] def v14_57 : VC := (.seq (.ops o14_54) v14_56)
@[reducible] def v14_58 : VC := (.seq (.ops o14_53) v14_57)
@[reducible] def v14_59 : VC := (.seq (.seq (.ops o14_30) v14_52) v14_58)
@[reducible] def v14_60 : VC := (.seq (.seq (.ops o14_26) v14_29) v14_59)
@[reducible] def v14_61 : VC := (.seq (.ops o14_25) v14_60)
@[reducible] def v14_62 : VC := (.seq (.ops o14_24) v14_61)
@[reducible] def v14_63 : VC := (.seq (.ops o14_23) v14_62)
@[reducible] def v14_64 : VC := (.seq (.ops o14_22) v14_63)
@[reducible] def v14_65 : VC := (.seq (.seq (.ops o14_7) v14_21) v14_64)
@[reducible] def v14_66 : VC := (.seq (.ops o14_6) v14_65)
@[reducible] def v14_67 : VC := (.seq (.seq (.ops o14_2) v14_5) v14_66)
@[reducible] def v14_68 : VC := (.seq (.ops o14_1) v14_67)
def ir14 : FC := ⟨3, 176, [.t 6], (.seq (.ops o14_0) v14_68)⟩
theorem c14 : compM Try.prog [] 14 = some ir14 := by kernel_rfl



theorem rem_nat {i b n : Nat} (h : 0 < n) : ((i : Int) + (b : Int)).tmod (n : Int) = (((i + b) % n : Nat) : Int) := by
  rw [Int.tmod_eq_emod_of_nonneg (by omega), Int.natCast_emod, Int.natCast_add]
theorem prs_grp' {l m : List Pr} (h : l.length = m.length) : grp 2 m.length ((flatG Pr.cds l).take (m.length * 2)) = l.map Pr.cds := by rw [← h]; exact prs_grp l
theorem prs_fit' {l m : List Pr} (h : l.length = m.length) : (m.length * 2 ≤ (flatG Pr.cds l).length) = True := by rw [← h]; exact prs_fit l
set_option maxRecDepth 20000 in
set_option maxHeartbeats 8000000 in
theorem law14 (t : Tray) (by_ : Int) (back : Bool) : FSpec Try.prog 14 [t.av, iv by_, bv back] (.c (.bool true)) := by
  have hready := ready16 t
  have hmax : maxLen = 9223372036854775807 := rfl
  by_cases hgo : (t.ok && decide (0 ≤ by_) && decide (by_ ≤ 1000) && decide (0 < t.pres.length)) = true
  rotate_left
  · have hb : (!t.ok || decide (by_ < 0) || decide (1000 < by_) || ((t.pres.length : Int) == 0)) = true := by
      cases h1 : t.ok
      · rfl
      · rw [h1] at hgo
        simp at hgo ⊢
        by_cases h2 : 0 ≤ by_
        · by_cases h3 : by_ ≤ 1000
          · exact .inr (hgo h2 h3)
          · exact .inl (.inr (by omega))
        · exact .inl (.inl (by omega))
    refine FSpec_of c14 (Nat.le_refl _) (by decide) fun C hP hN hC hL => ?_
    simp only [ir14, Tray.av]
    (repeat ((first | refine WV_seq_ ?_ | refine WV_block ?_ | refine WV_ops ?_ | refine WV_skip ?_ | refine WV_exit ?_); (try simp only [go_sem, init_env', Nat.reduceEqDiff, Nat.reduceAdd, Nat.reduceMul, reduceIte, Nat.reduceLeDiff, Nat.reduceLT, Nat.reduceBEq, reduceCtorEq, hP, prsC, List.length_map]); (repeat (refine And.intro (by first | omega | (intros; simp_all; done) | (intros; simp_all; omega)) ?_))))
    (refine AS_pure (hready) rfl rfl rfl rfl rfl ?_; simp only [go_sem, init_env', Nat.reduceEqDiff, Nat.reduceAdd, Nat.reduceMul, reduceIte, Nat.reduceLeDiff, Nat.reduceLT, Nat.reduceBEq, reduceCtorEq, hP, Tray.av, prsC, hb]; (repeat (refine And.intro (by first | omega | (intros; simp_all; done) | (intros; simp_all; omega)) ?_)); (repeat ((first | refine WV_seq_ ?_ | refine WV_block ?_ | refine WV_ops ?_ | refine WV_skip ?_ | refine WV_exit ?_); (try simp only [go_sem, init_env', Nat.reduceEqDiff, Nat.reduceAdd, Nat.reduceMul, reduceIte, Nat.reduceLeDiff, Nat.reduceLT, Nat.reduceBEq, reduceCtorEq, hP, Tray.av, prsC, hb]); (repeat (refine And.intro (by first | omega | (intros; simp_all; done) | (intros; simp_all; omega)) ?_)))))
    (refine WV_cond rfl (fun h => ?_) (fun h => ?_))
    · (repeat ((first | refine WV_seq_ ?_ | refine WV_block ?_ | refine WV_ops ?_ | refine WV_skip ?_ | refine WV_exit ?_); (try simp only [go_sem, init_env', Nat.reduceEqDiff, Nat.reduceAdd, Nat.reduceMul, reduceIte, Nat.reduceLeDiff, Nat.reduceLT, Nat.reduceBEq, reduceCtorEq, hP, ]); (repeat (refine And.intro (by first | omega | (intros; simp_all; done) | (intros; simp_all; omega)) ?_))))
      (refine AS_pure (works19) rfl rfl rfl rfl rfl ?_; simp only [go_sem, init_env', Nat.reduceEqDiff, Nat.reduceAdd, Nat.reduceMul, reduceIte, Nat.reduceLeDiff, Nat.reduceLT, Nat.reduceBEq, reduceCtorEq, hP, ]; (repeat (refine And.intro (by first | omega | (intros; simp_all; done) | (intros; simp_all; omega)) ?_)); (repeat ((first | refine WV_seq_ ?_ | refine WV_block ?_ | refine WV_ops ?_ | refine WV_skip ?_ | refine WV_exit ?_); (try simp only [go_sem, init_env', Nat.reduceEqDiff, Nat.reduceAdd, Nat.reduceMul, reduceIte, Nat.reduceLeDiff, Nat.reduceLT, Nat.reduceBEq, reduceCtorEq, hP, ]); (repeat (refine And.intro (by first | omega | (intros; simp_all; done) | (intros; simp_all; omega)) ?_)))))
      (refine WV_ret ?_; simp only [thenQ, inQ, RetQ, RetOk, resAll, resA]; simp only [go_sem, init_env', Nat.reduceEqDiff, Nat.reduceAdd, Nat.reduceMul, reduceIte, Nat.reduceLeDiff, Nat.reduceLT, Nat.reduceBEq, reduceCtorEq, tupA, AV.port, AV.portL, exists_eq_left', ]; (first | exact AVle.of rfl | refine AVle.of ?_ | skip))
    · simp at h
  simp only [Bool.and_eq_true, decide_eq_true_eq] at hgo
  obtain ⟨⟨⟨hok, hb0⟩, hb1⟩, hp0⟩ := hgo
  rw [hok] at hready
  obtain ⟨ht, h12⟩ := Tray.ok_spec hok
  have hn6 := ht.n6
  have hrl : t.recs.length = t.n := rfl
  obtain ⟨b, rfl⟩ := Int.eq_ofNat_of_zero_le hb0
  have hok' := ordT_ok (b := b) (back := back) hok hp0
  have hgoes := ordT_goes (b := b) (back := back) ht hp0
  have hnm : (ordP t.pres b back t.pres.length).length = t.pres.length := ordP_len _ _ _ _
  have hav : (ordT t b back).av = .agg [.c (recsC t.recs), iv t.at_, iv t.way, iv t.step, .c (prsC (ordP t.pres b back t.pres.length))] := rfl
  have hpz : pressedE t = 0 := by unfold pressedE; rw [hok, if_pos rfl, if_neg (by omega)]
  have hpz' : pressedE (ordT t b back) = 0 := by unfold pressedE; rw [hok', if_pos rfl, if_neg (by show ¬ (ordP t.pres b back t.pres.length).length = 0; omega)]
  have b1 := plays22 t
  have b2 := plays22 (ordT t b back)
  rw [show playsR t = (playsS t, 0) by unfold playsR; rw [hok]; rfl] at b1
  rw [show playsR (ordT t b back) = (playsS t, 0) by unfold playsR playsS; rw [hok', hgoes]; rfl, hav] at b2
  have b3 := end38 t
  have b4 := end38 (ordT t b back)
  rw [show endR t = ((goesS t).end_, 0) by unfold endR; rw [hpz]; rfl] at b3
  rw [show endR (ordT t b back) = ((goesS t).end_, 0) by unfold endR; rw [hpz', hgoes]; rfl, hav] at b4
  have b5 := steps35 t
  have b6 := steps35 (ordT t b back)
  rw [show stepsR t = ((goesS t).steps, 0) by unfold stepsR; rw [hok]; rfl] at b5
  rw [show stepsR (ordT t b back) = ((goesS t).steps, 0) by unfold stepsR; rw [hok', hgoes]; rfl, hav] at b6
  have hwait : ∀ i : Nat, i < t.pres.length → FSpec Try.prog 27 [t.av, iv (idxO t.pres.length b back i)] (.tup [iv (waitV t (idxO t.pres.length b back i)), iv 0]) ∧ FSpec Try.prog 27 [.agg [.c (recsC t.recs), iv t.at_, iv t.way, iv t.step, .c (prsC (ordP t.pres b back t.pres.length))], iv i] (.tup [iv (waitV t (idxO t.pres.length b back i)), iv 0]) := fun i hi => by
    have hw1 := wait27 t (idxO t.pres.length b back i)
    have hw2 := wait27 (ordT t b back) i
    have hix := idxO_lt (b := b) (back := back) (i := i) hp0
    have hin : inR t (idxO t.pres.length b back i : Int) = true := inR_nat hix
    have hin' : inR (ordT t b back) (i : Int) = true := inR_nat (by show i < (ordP t.pres b back t.pres.length).length; omega)
    rw [show waitR t (idxO t.pres.length b back i : Int) = (waitV t (idxO t.pres.length b back i), 0) by unfold waitR servedR; rw [hok, hin]; rfl] at hw1
    rw [show waitR (ordT t b back) (i : Int) = (waitV t (idxO t.pres.length b back i), 0) by unfold waitR servedR; rw [hok', hin', ordT_wait ht hi]; rfl, hav] at hw2
    exact ⟨hw1, hw2⟩
  have hlen : (playsS t).length ≤ 13 := plays_len ht
  have bsame := sameP34 (playsS t) (by omega)
  have hne : t.recs ≠ [] := by intro h; have := ht.n1; unfold Tray.n at this; rw [h] at this; simp at this
  have hcop := copyV t hne (by omega) (by omega)
  have hrg := recs_grp t.recs
  have hrf := recs_fit t.recs
  have hpg := prs_grp' hnm
  have hpf := prs_fit' hnm
  clear hav hgoes hok'
  generalize (goesS t).end_ = E1 at *
  generalize (goesS t).steps = E2 at *
  generalize playsS t = L at *
  have d1 : decide ((b : Int) < 0) = false := by simp
  have d2 : decide (1000 < (b : Int)) = false := by simp; omega
  have d3 : ((t.pres.length : Int) == 0) = false := by simp; intro h; rw [h] at hp0; simp at hp0
  refine FSpec_of c14 (Nat.le_refl _) (by decide) fun C hP hN hC hL => ?_
  simp only [ir14, Tray.av]
  (repeat ((first | refine WV_seq_ ?_ | refine WV_block ?_ | refine WV_ops ?_ | refine WV_skip ?_ | refine WV_exit ?_); (try simp only [go_sem, init_env', Nat.reduceEqDiff, Nat.reduceAdd, Nat.reduceMul, reduceIte, Nat.reduceLeDiff, Nat.reduceLT, Nat.reduceBEq, reduceCtorEq, hP, prsC, List.length_map]); (repeat (refine And.intro (by first | omega | (intros; simp_all; done) | (intros; simp_all; omega)) ?_))))
  (refine AS_pure (hready) rfl rfl rfl rfl rfl ?_; simp only [go_sem, init_env', Nat.reduceEqDiff, Nat.reduceAdd, Nat.reduceMul, reduceIte, Nat.reduceLeDiff, Nat.reduceLT, Nat.reduceBEq, reduceCtorEq, hP, Tray.av, prsC, d1, d2, d3]; (repeat (refine And.intro (by first | omega | (intros; simp_all; done) | (intros; simp_all; omega)) ?_)); (repeat ((first | refine WV_seq_ ?_ | refine WV_block ?_ | refine WV_ops ?_ | refine WV_skip ?_ | refine WV_exit ?_); (try simp only [go_sem, init_env', Nat.reduceEqDiff, Nat.reduceAdd, Nat.reduceMul, reduceIte, Nat.reduceLeDiff, Nat.reduceLT, Nat.reduceBEq, reduceCtorEq, hP, Tray.av, prsC, d1, d2, d3]); (repeat (refine And.intro (by first | omega | (intros; simp_all; done) | (intros; simp_all; omega)) ?_)))))
  (refine WV_cond rfl (fun h => ?_) (fun h => ?_))
  · simp at h
  (repeat ((first | refine WV_seq_ ?_ | refine WV_block ?_ | refine WV_ops ?_ | refine WV_skip ?_ | refine WV_exit ?_); (try simp only [go_sem, init_env', Nat.reduceEqDiff, Nat.reduceAdd, Nat.reduceMul, reduceIte, Nat.reduceLeDiff, Nat.reduceLT, Nat.reduceBEq, reduceCtorEq, hP, ]); (repeat (refine And.intro (by first | omega | (intros; simp_all; done) | (intros; simp_all; omega)) ?_))))
  refine AS_new hcop rfl rfl rfl rfl ?_
  rintro res os ⟨cap, j, y, o, q1, q2, q3, rfl, rfl, hy⟩
  rcases hy with ⟨hpn, rfl, rfl⟩ | ⟨hpn, cap2, j2, r1, r2, r3, rfl, rfl⟩
  · exfalso; rw [hpn] at hp0; simp at hp0
  refine ⟨[900, 901], .agg [.vw 2 900 0 t.recs.length cap, iv t.at_, iv t.way, iv t.step, .vw 2 901 0 t.pres.length cap2], [.box (cellsG Rec.cds t.recs j), .box (cellsG Pr.cds t.pres j2)], by decide, rfl, by simp only [go_sem, init_env', Nat.reduceEqDiff, Nat.reduceAdd, Nat.reduceMul, reduceIte, Nat.reduceLeDiff, Nat.reduceLT, Nat.reduceBEq, reduceCtorEq, decide_true], rfl, (by simp only [obsBack, Ob.back, back_cellsG]; rfl), ?_⟩
  simp only [go_sem, init_env', Nat.reduceEqDiff, Nat.reduceAdd, Nat.reduceMul, reduceIte, Nat.reduceLeDiff, Nat.reduceLT, Nat.reduceBEq, reduceCtorEq, hP, ownBack]
  (repeat (refine And.intro (by first | omega | (intros; simp_all; done) | (intros; simp_all; omega)) ?_))
  have hz : cellsG Pr.cds t.pres j2 = cellsG Pr.cds (ordP t.pres b back 0) j2 := by rw [ordP_zero]
  rw [hz]
  (repeat ((first | refine WV_seq_ ?_ | refine WV_block ?_ | refine WV_ops ?_ | refine WV_skip ?_ | refine WV_exit ?_); (try simp only [go_sem, init_env', Nat.reduceEqDiff, Nat.reduceAdd, Nat.reduceMul, reduceIte, Nat.reduceLeDiff, Nat.reduceLT, Nat.reduceBEq, reduceCtorEq, hP, ]); (repeat (refine And.intro (by first | omega | (intros; simp_all; done) | (intros; simp_all; omega)) ?_))))
  refine WV_freezeJ 900 (ds := flatG Rec.cds t.recs) (junk := List.replicate j .non) rfl ?_
  simp only [go_sem, init_env', Nat.reduceEqDiff, Nat.reduceAdd, Nat.reduceMul, reduceIte, Nat.reduceLeDiff, Nat.reduceLT, Nat.reduceBEq, reduceCtorEq, hrg, hrf, frz_cellsG]
  refine WV_loopK K14_1 [8, 901] (fun k : Nat => k ≤ t.pres.length) (fun k => t.pres.length - k) (fun k => [(9, iv k)]) (fun k => [(8, .box [.c (.sl 2 (t.recs.map Rec.cds)), iv t.at_, iv t.way, iv t.step, .vw 2 901 0 t.pres.length cap2]), (901, .box (cellsG Pr.cds (ordP t.pres b back k) j2))]) 0 (Nat.zero_le _) ?_ ?_
  · (refine Sub_of (by simp only [go_sem, init_env', Nat.reduceEqDiff, Nat.reduceAdd, Nat.reduceMul, reduceIte, Nat.reduceLeDiff, Nat.reduceLT, Nat.reduceBEq, reduceCtorEq]; ((repeat' (first | exact EnvLe_e0 _ _ | refine EnvLe_upd ?_ ?_)) <;> ((try simp only [upd_app, e0_app, o0_app, Nat.reduceEqDiff, reduceIte]); first | exact AWk.refl _ _ | exact AWk.int (by omega) | exact AWk.int (by rw [w64 (by omega) (by omega)]; omega) | exact AWk.grow rfl | exact AWk.nil _ | exact AWk.of (by simp)))) (by simp only [go_sem, init_env', Nat.reduceEqDiff, Nat.reduceAdd, Nat.reduceMul, reduceIte, Nat.reduceLeDiff, Nat.reduceLT, Nat.reduceBEq, reduceCtorEq]; ((repeat' (first | exact ObjLe_o0 _ | exact ObjLe.rfl' _ | refine ObjLe_same ?_ | refine ObjLe_upd ?_ ?_ | refine ObjLe_new rfl ?_)) <;> rfl)))
  intro k hk
  simp only [go_sem, init_env', Nat.reduceEqDiff, Nat.reduceAdd, Nat.reduceMul, reduceIte, Nat.reduceLeDiff, Nat.reduceLT, Nat.reduceBEq, reduceCtorEq]
  (repeat ((first | refine WV_seq_ ?_ | refine WV_block ?_ | refine WV_ops ?_ | refine WV_skip ?_ | refine WV_exit ?_); (try simp only [go_sem, init_env', Nat.reduceEqDiff, Nat.reduceAdd, Nat.reduceMul, reduceIte, Nat.reduceLeDiff, Nat.reduceLT, Nat.reduceBEq, reduceCtorEq, hP, ]); (repeat (refine And.intro (by first | omega | (intros; simp_all; done) | (intros; simp_all; omega)) ?_))))
  (refine WV_cond rfl (fun h => ?_) (fun h => ?_))
  · have hkl : k < t.pres.length := by simpa using h
    have hI : (k : Int) < (t.pres.length : Int) := by omega
    have hw2 := w64 (n := (k : Int) + 1) (by omega) (by omega)
    have hw3 := w64 (n := (k : Int) + (b : Int)) (by omega) (by omega)
    have hre := rem_nat (i := k) (b := b) hp0
    have hmo := Nat.mod_lt (k + b) hp0
    have hw4 := w64 (n := (((k + b) % t.pres.length : Nat) : Int)) (by omega) (by omega)
    have hw5 := w64 (n := (t.pres.length : Int) - 1) (by omega) (by omega)
    have e0 : (t.pres.length : Int) - 1 - (((k + b) % t.pres.length : Nat) : Int) = ((t.pres.length - 1 - (k + b) % t.pres.length : Nat) : Int) := by omega
    have hw6 := w64 (n := ((t.pres.length - 1 - (k + b) % t.pres.length : Nat) : Int)) (by omega) (by omega)
    have hix := idxO_lt (b := b) (back := back) (i := k) hp0
    have hst := ordP_step t.pres b back hkl
    have hlk : k < (ordP t.pres b back k).length := by rw [ordP_len]; exact hkl
    have hsp := fun a : Pr => put2 pr_two hlk j2 a (x := .int .i64 a.side) (y := .int .i64 a.time) rfl
    have hcl : (cellsG Pr.cds (ordP t.pres b back k) j2).length = t.pres.length * 2 + j2 := by rw [cellsG_len pr_two, ordP_len]
    have hnz : ((t.pres.length : Int) == 0) = false := d3
    cases back
    · have hixe : (k + b) % t.pres.length = idxO t.pres.length b false k := rfl
      rw [hixe] at hre hw4
      have g1 : (t.pres.map Pr.cds).getD (idxO t.pres.length b false k) [] = _ := map_getD hix
      have hxx : t.pres.getD (idxO t.pres.length b false k) default = t.pres[idxO t.pres.length b false k] := by rw [List.getD_eq_getElem?_getD, List.getElem?_eq_getElem hix]; rfl
      rw [hxx] at hst
      have hsp := hsp t.pres[idxO t.pres.length b false k]
      rw [hst] at hsp
      generalize t.pres[idxO t.pres.length b false k] = X at *
      have hIx : ((idxO t.pres.length b false k : Nat) : Int) < (t.pres.length : Int) := by omega
      (repeat ((first | refine WV_seq_ ?_ | refine WV_block ?_ | refine WV_ops ?_ | refine WV_skip ?_ | refine WV_exit ?_); (try simp only [go_sem, init_env', Nat.reduceEqDiff, Nat.reduceAdd, Nat.reduceMul, reduceIte, Nat.reduceLeDiff, Nat.reduceLT, Nat.reduceBEq, reduceCtorEq, hP, hw3, hre, hw4, d3]); (repeat (refine And.intro (by first | omega | (intros; simp_all; done) | (intros; simp_all; omega)) ?_))))
      (refine WV_cond rfl (fun h => ?_) (fun h => ?_))
      · simp at h
      (repeat ((first | refine WV_seq_ ?_ | refine WV_block ?_ | refine WV_ops ?_ | refine WV_skip ?_ | refine WV_exit ?_); (try simp only [go_sem, init_env', Nat.reduceEqDiff, Nat.reduceAdd, Nat.reduceMul, reduceIte, Nat.reduceLeDiff, Nat.reduceLT, Nat.reduceBEq, reduceCtorEq, hP, g1, Pr.cds, hIx, hI, hkl, List.length_map, Int.natCast_nonneg, hsp, hcl]); (repeat (refine And.intro (by first | omega | (intros; simp_all; done) | (intros; simp_all; omega)) ?_))))
      (repeat ((first | refine WV_seq_ ?_ | refine WV_block ?_ | refine WV_ops ?_ | refine WV_skip ?_ | refine WV_exit ?_); (try simp only [go_sem, init_env', Nat.reduceEqDiff, Nat.reduceAdd, Nat.reduceMul, reduceIte, Nat.reduceLeDiff, Nat.reduceLT, Nat.reduceBEq, reduceCtorEq, hP, hw2]); (repeat (refine And.intro (by first | omega | (intros; simp_all; done) | (intros; simp_all; omega)) ?_))))
      refine ⟨k + 1, by omega, by omega, ?_⟩
      (refine Sub_of (by simp only [go_sem, init_env', Nat.reduceEqDiff, Nat.reduceAdd, Nat.reduceMul, reduceIte, Nat.reduceLeDiff, Nat.reduceLT, Nat.reduceBEq, reduceCtorEq]; ((repeat' (first | exact EnvLe_e0 _ _ | refine EnvLe_upd ?_ ?_)) <;> ((try simp only [upd_app, e0_app, o0_app, Nat.reduceEqDiff, reduceIte]); first | exact AWk.refl _ _ | exact AWk.int (by omega) | exact AWk.int (by rw [w64 (by omega) (by omega)]; omega) | exact AWk.grow rfl | exact AWk.nil _ | exact AWk.of (by simp)))) (by simp only [go_sem, init_env', Nat.reduceEqDiff, Nat.reduceAdd, Nat.reduceMul, reduceIte, Nat.reduceLeDiff, Nat.reduceLT, Nat.reduceBEq, reduceCtorEq]; ((repeat' (first | exact ObjLe_o0 _ | exact ObjLe.rfl' _ | refine ObjLe_same ?_ | refine ObjLe_upd ?_ ?_ | refine ObjLe_new rfl ?_)) <;> rfl)))
    · have hixe : t.pres.length - 1 - (k + b) % t.pres.length = idxO t.pres.length b true k := rfl
      rw [hixe] at e0 hw6
      have g1 : (t.pres.map Pr.cds).getD (idxO t.pres.length b true k) [] = _ := map_getD hix
      have hxx : t.pres.getD (idxO t.pres.length b true k) default = t.pres[idxO t.pres.length b true k] := by rw [List.getD_eq_getElem?_getD, List.getElem?_eq_getElem hix]; rfl
      rw [hxx] at hst
      have hsp := hsp t.pres[idxO t.pres.length b true k]
      rw [hst] at hsp
      generalize t.pres[idxO t.pres.length b true k] = X at *
      have hIx : ((idxO t.pres.length b true k : Nat) : Int) < (t.pres.length : Int) := by omega
      (repeat ((first | refine WV_seq_ ?_ | refine WV_block ?_ | refine WV_ops ?_ | refine WV_skip ?_ | refine WV_exit ?_); (try simp only [go_sem, init_env', Nat.reduceEqDiff, Nat.reduceAdd, Nat.reduceMul, reduceIte, Nat.reduceLeDiff, Nat.reduceLT, Nat.reduceBEq, reduceCtorEq, hP, hw3, hre, hw4, d3]); (repeat (refine And.intro (by first | omega | (intros; simp_all; done) | (intros; simp_all; omega)) ?_))))
      (refine WV_cond rfl (fun h => ?_) (fun h => ?_))
      rotate_left
      · simp at h
      (repeat ((first | refine WV_seq_ ?_ | refine WV_block ?_ | refine WV_ops ?_ | refine WV_skip ?_ | refine WV_exit ?_); (try simp only [go_sem, init_env', Nat.reduceEqDiff, Nat.reduceAdd, Nat.reduceMul, reduceIte, Nat.reduceLeDiff, Nat.reduceLT, Nat.reduceBEq, reduceCtorEq, hP, hw5, e0, hw6, g1, Pr.cds, hIx, hI, hkl, List.length_map, Int.natCast_nonneg, hsp, hcl]); (repeat (refine And.intro (by first | omega | (intros; simp_all; done) | (intros; simp_all; omega)) ?_))))
      (repeat ((first | refine WV_seq_ ?_ | refine WV_block ?_ | refine WV_ops ?_ | refine WV_skip ?_ | refine WV_exit ?_); (try simp only [go_sem, init_env', Nat.reduceEqDiff, Nat.reduceAdd, Nat.reduceMul, reduceIte, Nat.reduceLeDiff, Nat.reduceLT, Nat.reduceBEq, reduceCtorEq, hP, hw2]); (repeat (refine And.intro (by first | omega | (intros; simp_all; done) | (intros; simp_all; omega)) ?_))))
      refine ⟨k + 1, by omega, by omega, ?_⟩
      (refine Sub_of (by simp only [go_sem, init_env', Nat.reduceEqDiff, Nat.reduceAdd, Nat.reduceMul, reduceIte, Nat.reduceLeDiff, Nat.reduceLT, Nat.reduceBEq, reduceCtorEq]; ((repeat' (first | exact EnvLe_e0 _ _ | refine EnvLe_upd ?_ ?_)) <;> ((try simp only [upd_app, e0_app, o0_app, Nat.reduceEqDiff, reduceIte]); first | exact AWk.refl _ _ | exact AWk.int (by omega) | exact AWk.int (by rw [w64 (by omega) (by omega)]; omega) | exact AWk.grow rfl | exact AWk.nil _ | exact AWk.of (by simp)))) (by simp only [go_sem, init_env', Nat.reduceEqDiff, Nat.reduceAdd, Nat.reduceMul, reduceIte, Nat.reduceLeDiff, Nat.reduceLT, Nat.reduceBEq, reduceCtorEq]; ((repeat' (first | exact ObjLe_o0 _ | exact ObjLe.rfl' _ | refine ObjLe_same ?_ | refine ObjLe_upd ?_ ?_ | refine ObjLe_new rfl ?_)) <;> rfl)))
  · have h : k = t.pres.length := by simp at h; omega
    subst h
    (refine WV_exit ?_; simp only [go_sem, init_env', Nat.reduceEqDiff, Nat.reduceAdd, Nat.reduceMul, reduceIte, Nat.reduceLeDiff, Nat.reduceLT, Nat.reduceBEq, reduceCtorEq])
    refine WV_freezeJ 901 (ds := flatG Pr.cds (ordP t.pres b back t.pres.length)) (junk := List.replicate j2 .non) rfl ?_
    simp only [go_sem, init_env', Nat.reduceEqDiff, Nat.reduceAdd, Nat.reduceMul, reduceIte, Nat.reduceLeDiff, Nat.reduceLT, Nat.reduceBEq, reduceCtorEq, hpg, hpf, frz_cellsG]
    refine WV_keep [1, 2, 3, 7, 8] ?_
    simp only [go_sem, init_env', Nat.reduceEqDiff, Nat.reduceAdd, Nat.reduceMul, reduceIte, Nat.reduceLeDiff, Nat.reduceLT, Nat.reduceBEq, reduceCtorEq]
    (repeat ((first | refine WV_seq_ ?_ | refine WV_block ?_ | refine WV_ops ?_ | refine WV_skip ?_ | refine WV_exit ?_); (try simp only [go_sem, init_env', Nat.reduceEqDiff, Nat.reduceAdd, Nat.reduceMul, reduceIte, Nat.reduceLeDiff, Nat.reduceLT, Nat.reduceBEq, reduceCtorEq, hP, ]); (repeat (refine And.intro (by first | omega | (intros; simp_all; done) | (intros; simp_all; omega)) ?_))))
    (refine AS_pure (b1) rfl rfl rfl rfl rfl ?_; simp only [go_sem, init_env', Nat.reduceEqDiff, Nat.reduceAdd, Nat.reduceMul, reduceIte, Nat.reduceLeDiff, Nat.reduceLT, Nat.reduceBEq, reduceCtorEq, hP, Tray.av]; (repeat (refine And.intro (by first | omega | (intros; simp_all; done) | (intros; simp_all; omega)) ?_)); (repeat ((first | refine WV_seq_ ?_ | refine WV_block ?_ | refine WV_ops ?_ | refine WV_skip ?_ | refine WV_exit ?_); (try simp only [go_sem, init_env', Nat.reduceEqDiff, Nat.reduceAdd, Nat.reduceMul, reduceIte, Nat.reduceLeDiff, Nat.reduceLT, Nat.reduceBEq, reduceCtorEq, hP, Tray.av]); (repeat (refine And.intro (by first | omega | (intros; simp_all; done) | (intros; simp_all; omega)) ?_)))))
    (refine AS_pure (b2) rfl rfl rfl rfl rfl ?_; simp only [go_sem, init_env', Nat.reduceEqDiff, Nat.reduceAdd, Nat.reduceMul, reduceIte, Nat.reduceLeDiff, Nat.reduceLT, Nat.reduceBEq, reduceCtorEq, hP, prsC]; (repeat (refine And.intro (by first | omega | (intros; simp_all; done) | (intros; simp_all; omega)) ?_)); (repeat ((first | refine WV_seq_ ?_ | refine WV_block ?_ | refine WV_ops ?_ | refine WV_skip ?_ | refine WV_exit ?_); (try simp only [go_sem, init_env', Nat.reduceEqDiff, Nat.reduceAdd, Nat.reduceMul, reduceIte, Nat.reduceLeDiff, Nat.reduceLT, Nat.reduceBEq, reduceCtorEq, hP, prsC]); (repeat (refine And.intro (by first | omega | (intros; simp_all; done) | (intros; simp_all; omega)) ?_)))))
    (refine AS_pure (b3) rfl rfl rfl rfl rfl ?_; simp only [go_sem, init_env', Nat.reduceEqDiff, Nat.reduceAdd, Nat.reduceMul, reduceIte, Nat.reduceLeDiff, Nat.reduceLT, Nat.reduceBEq, reduceCtorEq, hP, Tray.av]; (repeat (refine And.intro (by first | omega | (intros; simp_all; done) | (intros; simp_all; omega)) ?_)); (repeat ((first | refine WV_seq_ ?_ | refine WV_block ?_ | refine WV_ops ?_ | refine WV_skip ?_ | refine WV_exit ?_); (try simp only [go_sem, init_env', Nat.reduceEqDiff, Nat.reduceAdd, Nat.reduceMul, reduceIte, Nat.reduceLeDiff, Nat.reduceLT, Nat.reduceBEq, reduceCtorEq, hP, Tray.av]); (repeat (refine And.intro (by first | omega | (intros; simp_all; done) | (intros; simp_all; omega)) ?_)))))
    (refine AS_pure (b4) rfl rfl rfl rfl rfl ?_; simp only [go_sem, init_env', Nat.reduceEqDiff, Nat.reduceAdd, Nat.reduceMul, reduceIte, Nat.reduceLeDiff, Nat.reduceLT, Nat.reduceBEq, reduceCtorEq, hP, prsC, bne_self_eq_false]; (repeat (refine And.intro (by first | omega | (intros; simp_all; done) | (intros; simp_all; omega)) ?_)); (repeat ((first | refine WV_seq_ ?_ | refine WV_block ?_ | refine WV_ops ?_ | refine WV_skip ?_ | refine WV_exit ?_); (try simp only [go_sem, init_env', Nat.reduceEqDiff, Nat.reduceAdd, Nat.reduceMul, reduceIte, Nat.reduceLeDiff, Nat.reduceLT, Nat.reduceBEq, reduceCtorEq, hP, prsC, bne_self_eq_false]); (repeat (refine And.intro (by first | omega | (intros; simp_all; done) | (intros; simp_all; omega)) ?_)))))
    (refine AG_pure (fun hG => bsame) rfl (fun hG => by first | (simp only [go_sem, init_env', Nat.reduceEqDiff, Nat.reduceAdd, Nat.reduceMul, reduceIte, Nat.reduceLeDiff, Nat.reduceLT, Nat.reduceBEq, reduceCtorEq, hG]; done) | (simp only [go_sem, init_env', Nat.reduceEqDiff, Nat.reduceAdd, Nat.reduceMul, reduceIte, Nat.reduceLeDiff, Nat.reduceLT, Nat.reduceBEq, reduceCtorEq]; revert hG; simp; done) | (simp only [go_sem, init_env', Nat.reduceEqDiff, Nat.reduceAdd, Nat.reduceMul, reduceIte, Nat.reduceLeDiff, Nat.reduceLT, Nat.reduceBEq, reduceCtorEq, hG]; simp_all; done) | (revert hG; simp; done) | simp_all) rfl rfl rfl ?_; simp only [go_sem, init_env', Nat.reduceEqDiff, Nat.reduceAdd, Nat.reduceMul, reduceIte, Nat.reduceLeDiff, Nat.reduceLT, Nat.reduceBEq, reduceCtorEq, hP, bne_self_eq_false]; (repeat (refine And.intro (by first | omega | (intros; simp_all; done) | (intros; simp_all; omega)) ?_)); (repeat ((first | refine WV_seq_ ?_ | refine WV_block ?_ | refine WV_ops ?_ | refine WV_skip ?_ | refine WV_exit ?_); (try simp only [go_sem, init_env', Nat.reduceEqDiff, Nat.reduceAdd, Nat.reduceMul, reduceIte, Nat.reduceLeDiff, Nat.reduceLT, Nat.reduceBEq, reduceCtorEq, hP, bne_self_eq_false]); (repeat (refine And.intro (by first | omega | (intros; simp_all; done) | (intros; simp_all; omega)) ?_)))))
    (refine WV_cond rfl (fun h => ?_) (fun h => ?_))
    · simp at h
    (repeat ((first | refine WV_seq_ ?_ | refine WV_block ?_ | refine WV_ops ?_ | refine WV_skip ?_ | refine WV_exit ?_); (try simp only [go_sem, init_env', Nat.reduceEqDiff, Nat.reduceAdd, Nat.reduceMul, reduceIte, Nat.reduceLeDiff, Nat.reduceLT, Nat.reduceBEq, reduceCtorEq, hP, ]); (repeat (refine And.intro (by first | omega | (intros; simp_all; done) | (intros; simp_all; omega)) ?_))))
    refine WV_loopK K14_2 [] (fun k : Nat => k ≤ t.pres.length) (fun k => t.pres.length - k) (fun k => [(19, iv k), (12, iv 0), (14, iv 0)]) (fun k => []) 0 (Nat.zero_le _) ?_ ?_
    · (refine Sub_of (by simp only [go_sem, init_env', Nat.reduceEqDiff, Nat.reduceAdd, Nat.reduceMul, reduceIte, Nat.reduceLeDiff, Nat.reduceLT, Nat.reduceBEq, reduceCtorEq]; ((repeat' (first | exact EnvLe_e0 _ _ | refine EnvLe_upd ?_ ?_)) <;> ((try simp only [upd_app, e0_app, o0_app, Nat.reduceEqDiff, reduceIte]); first | exact AWk.refl _ _ | exact AWk.int (by omega) | exact AWk.int (by rw [w64 (by omega) (by omega)]; omega) | exact AWk.grow rfl | exact AWk.nil _ | exact AWk.of (by simp)))) (by simp only [go_sem, init_env', Nat.reduceEqDiff, Nat.reduceAdd, Nat.reduceMul, reduceIte, Nat.reduceLeDiff, Nat.reduceLT, Nat.reduceBEq, reduceCtorEq]; ((repeat' (first | exact ObjLe_o0 _ | exact ObjLe.rfl' _ | refine ObjLe_same ?_ | refine ObjLe_upd ?_ ?_ | refine ObjLe_new rfl ?_)) <;> rfl)))
    intro k hk
    simp only [go_sem, init_env', Nat.reduceEqDiff, Nat.reduceAdd, Nat.reduceMul, reduceIte, Nat.reduceLeDiff, Nat.reduceLT, Nat.reduceBEq, reduceCtorEq]
    (repeat ((first | refine WV_seq_ ?_ | refine WV_block ?_ | refine WV_ops ?_ | refine WV_skip ?_ | refine WV_exit ?_); (try simp only [go_sem, init_env', Nat.reduceEqDiff, Nat.reduceAdd, Nat.reduceMul, reduceIte, Nat.reduceLeDiff, Nat.reduceLT, Nat.reduceBEq, reduceCtorEq, hP, ]); (repeat (refine And.intro (by first | omega | (intros; simp_all; done) | (intros; simp_all; omega)) ?_))))
    (refine WV_cond rfl (fun h => ?_) (fun h => ?_))
    · have hkl : k < t.pres.length := by simpa using h
      have hI : (k : Int) < (t.pres.length : Int) := by omega
      have hw2 := w64 (n := (k : Int) + 1) (by omega) (by omega)
      have hw3 := w64 (n := (k : Int) + (b : Int)) (by omega) (by omega)
      have hre := rem_nat (i := k) (b := b) hp0
      have hmo := Nat.mod_lt (k + b) hp0
      have hw4 := w64 (n := (((k + b) % t.pres.length : Nat) : Int)) (by omega) (by omega)
      have hw5 := w64 (n := (t.pres.length : Int) - 1) (by omega) (by omega)
      have e0 : (t.pres.length : Int) - 1 - (((k + b) % t.pres.length : Nat) : Int) = ((t.pres.length - 1 - (k + b) % t.pres.length : Nat) : Int) := by omega
      have hw6 := w64 (n := ((t.pres.length - 1 - (k + b) % t.pres.length : Nat) : Int)) (by omega) (by omega)
      obtain ⟨k1, k2⟩ := hwait k hkl
      cases back
      · have hixe : (k + b) % t.pres.length = idxO t.pres.length b false k := rfl
        rw [hixe] at hre hw4
        generalize waitV t (idxO t.pres.length b false k : Int) = W0 at *
        generalize idxO t.pres.length b false k = ix at *
        (repeat ((first | refine WV_seq_ ?_ | refine WV_block ?_ | refine WV_ops ?_ | refine WV_skip ?_ | refine WV_exit ?_); (try simp only [go_sem, init_env', Nat.reduceEqDiff, Nat.reduceAdd, Nat.reduceMul, reduceIte, Nat.reduceLeDiff, Nat.reduceLT, Nat.reduceBEq, reduceCtorEq, hP, hw3, hre, hw4, d3]); (repeat (refine And.intro (by first | omega | (intros; simp_all; done) | (intros; simp_all; omega)) ?_))))
        (refine WV_cond rfl (fun h => ?_) (fun h => ?_))
        · simp at h
        (repeat ((first | refine WV_seq_ ?_ | refine WV_block ?_ | refine WV_ops ?_ | refine WV_skip ?_ | refine WV_exit ?_); (try simp only [go_sem, init_env', Nat.reduceEqDiff, Nat.reduceAdd, Nat.reduceMul, reduceIte, Nat.reduceLeDiff, Nat.reduceLT, Nat.reduceBEq, reduceCtorEq, hP, ]); (repeat (refine And.intro (by first | omega | (intros; simp_all; done) | (intros; simp_all; omega)) ?_))))
        (refine AS_pure (k1) rfl rfl rfl rfl rfl ?_; simp only [go_sem, init_env', Nat.reduceEqDiff, Nat.reduceAdd, Nat.reduceMul, reduceIte, Nat.reduceLeDiff, Nat.reduceLT, Nat.reduceBEq, reduceCtorEq, hP, Tray.av]; (repeat (refine And.intro (by first | omega | (intros; simp_all; done) | (intros; simp_all; omega)) ?_)); (repeat ((first | refine WV_seq_ ?_ | refine WV_block ?_ | refine WV_ops ?_ | refine WV_skip ?_ | refine WV_exit ?_); (try simp only [go_sem, init_env', Nat.reduceEqDiff, Nat.reduceAdd, Nat.reduceMul, reduceIte, Nat.reduceLeDiff, Nat.reduceLT, Nat.reduceBEq, reduceCtorEq, hP, Tray.av]); (repeat (refine And.intro (by first | omega | (intros; simp_all; done) | (intros; simp_all; omega)) ?_)))))
        (refine AS_pure (k2) rfl rfl rfl rfl rfl ?_; simp only [go_sem, init_env', Nat.reduceEqDiff, Nat.reduceAdd, Nat.reduceMul, reduceIte, Nat.reduceLeDiff, Nat.reduceLT, Nat.reduceBEq, reduceCtorEq, hP, prsC, bne_self_eq_false]; (repeat (refine And.intro (by first | omega | (intros; simp_all; done) | (intros; simp_all; omega)) ?_)); (repeat ((first | refine WV_seq_ ?_ | refine WV_block ?_ | refine WV_ops ?_ | refine WV_skip ?_ | refine WV_exit ?_); (try simp only [go_sem, init_env', Nat.reduceEqDiff, Nat.reduceAdd, Nat.reduceMul, reduceIte, Nat.reduceLeDiff, Nat.reduceLT, Nat.reduceBEq, reduceCtorEq, hP, prsC, bne_self_eq_false]); (repeat (refine And.intro (by first | omega | (intros; simp_all; done) | (intros; simp_all; omega)) ?_)))))
        (refine WV_cond rfl (fun h => ?_) (fun h => ?_))
        · simp at h
        (repeat ((first | refine WV_seq_ ?_ | refine WV_block ?_ | refine WV_ops ?_ | refine WV_skip ?_ | refine WV_exit ?_); (try simp only [go_sem, init_env', Nat.reduceEqDiff, Nat.reduceAdd, Nat.reduceMul, reduceIte, Nat.reduceLeDiff, Nat.reduceLT, Nat.reduceBEq, reduceCtorEq, hP, hw2]); (repeat (refine And.intro (by first | omega | (intros; simp_all; done) | (intros; simp_all; omega)) ?_))))
        refine ⟨k + 1, by omega, by omega, ?_⟩
        (refine Sub_of (by simp only [go_sem, init_env', Nat.reduceEqDiff, Nat.reduceAdd, Nat.reduceMul, reduceIte, Nat.reduceLeDiff, Nat.reduceLT, Nat.reduceBEq, reduceCtorEq]; ((repeat' (first | exact EnvLe_e0 _ _ | refine EnvLe_upd ?_ ?_)) <;> ((try simp only [upd_app, e0_app, o0_app, Nat.reduceEqDiff, reduceIte]); first | exact AWk.refl _ _ | exact AWk.int (by omega) | exact AWk.int (by rw [w64 (by omega) (by omega)]; omega) | exact AWk.grow rfl | exact AWk.nil _ | exact AWk.of (by simp)))) (by simp only [go_sem, init_env', Nat.reduceEqDiff, Nat.reduceAdd, Nat.reduceMul, reduceIte, Nat.reduceLeDiff, Nat.reduceLT, Nat.reduceBEq, reduceCtorEq]; ((repeat' (first | exact ObjLe_o0 _ | exact ObjLe.rfl' _ | refine ObjLe_same ?_ | refine ObjLe_upd ?_ ?_ | refine ObjLe_new rfl ?_)) <;> rfl)))
      · have hixe : t.pres.length - 1 - (k + b) % t.pres.length = idxO t.pres.length b true k := rfl
        rw [hixe] at e0 hw6
        generalize waitV t (idxO t.pres.length b true k : Int) = W0 at *
        generalize idxO t.pres.length b true k = ix at *
        (repeat ((first | refine WV_seq_ ?_ | refine WV_block ?_ | refine WV_ops ?_ | refine WV_skip ?_ | refine WV_exit ?_); (try simp only [go_sem, init_env', Nat.reduceEqDiff, Nat.reduceAdd, Nat.reduceMul, reduceIte, Nat.reduceLeDiff, Nat.reduceLT, Nat.reduceBEq, reduceCtorEq, hP, hw3, hre, hw4, d3]); (repeat (refine And.intro (by first | omega | (intros; simp_all; done) | (intros; simp_all; omega)) ?_))))
        (refine WV_cond rfl (fun h => ?_) (fun h => ?_))
        rotate_left
        · simp at h
        (repeat ((first | refine WV_seq_ ?_ | refine WV_block ?_ | refine WV_ops ?_ | refine WV_skip ?_ | refine WV_exit ?_); (try simp only [go_sem, init_env', Nat.reduceEqDiff, Nat.reduceAdd, Nat.reduceMul, reduceIte, Nat.reduceLeDiff, Nat.reduceLT, Nat.reduceBEq, reduceCtorEq, hP, hw5, e0, hw6]); (repeat (refine And.intro (by first | omega | (intros; simp_all; done) | (intros; simp_all; omega)) ?_))))
        (repeat ((first | refine WV_seq_ ?_ | refine WV_block ?_ | refine WV_ops ?_ | refine WV_skip ?_ | refine WV_exit ?_); (try simp only [go_sem, init_env', Nat.reduceEqDiff, Nat.reduceAdd, Nat.reduceMul, reduceIte, Nat.reduceLeDiff, Nat.reduceLT, Nat.reduceBEq, reduceCtorEq, hP, ]); (repeat (refine And.intro (by first | omega | (intros; simp_all; done) | (intros; simp_all; omega)) ?_))))
        (refine AS_pure (k1) rfl rfl rfl rfl rfl ?_; simp only [go_sem, init_env', Nat.reduceEqDiff, Nat.reduceAdd, Nat.reduceMul, reduceIte, Nat.reduceLeDiff, Nat.reduceLT, Nat.reduceBEq, reduceCtorEq, hP, Tray.av]; (repeat (refine And.intro (by first | omega | (intros; simp_all; done) | (intros; simp_all; omega)) ?_)); (repeat ((first | refine WV_seq_ ?_ | refine WV_block ?_ | refine WV_ops ?_ | refine WV_skip ?_ | refine WV_exit ?_); (try simp only [go_sem, init_env', Nat.reduceEqDiff, Nat.reduceAdd, Nat.reduceMul, reduceIte, Nat.reduceLeDiff, Nat.reduceLT, Nat.reduceBEq, reduceCtorEq, hP, Tray.av]); (repeat (refine And.intro (by first | omega | (intros; simp_all; done) | (intros; simp_all; omega)) ?_)))))
        (refine AS_pure (k2) rfl rfl rfl rfl rfl ?_; simp only [go_sem, init_env', Nat.reduceEqDiff, Nat.reduceAdd, Nat.reduceMul, reduceIte, Nat.reduceLeDiff, Nat.reduceLT, Nat.reduceBEq, reduceCtorEq, hP, prsC, bne_self_eq_false]; (repeat (refine And.intro (by first | omega | (intros; simp_all; done) | (intros; simp_all; omega)) ?_)); (repeat ((first | refine WV_seq_ ?_ | refine WV_block ?_ | refine WV_ops ?_ | refine WV_skip ?_ | refine WV_exit ?_); (try simp only [go_sem, init_env', Nat.reduceEqDiff, Nat.reduceAdd, Nat.reduceMul, reduceIte, Nat.reduceLeDiff, Nat.reduceLT, Nat.reduceBEq, reduceCtorEq, hP, prsC, bne_self_eq_false]); (repeat (refine And.intro (by first | omega | (intros; simp_all; done) | (intros; simp_all; omega)) ?_)))))
        (refine WV_cond rfl (fun h => ?_) (fun h => ?_))
        · simp at h
        (repeat ((first | refine WV_seq_ ?_ | refine WV_block ?_ | refine WV_ops ?_ | refine WV_skip ?_ | refine WV_exit ?_); (try simp only [go_sem, init_env', Nat.reduceEqDiff, Nat.reduceAdd, Nat.reduceMul, reduceIte, Nat.reduceLeDiff, Nat.reduceLT, Nat.reduceBEq, reduceCtorEq, hP, hw2]); (repeat (refine And.intro (by first | omega | (intros; simp_all; done) | (intros; simp_all; omega)) ?_))))
        refine ⟨k + 1, by omega, by omega, ?_⟩
        (refine Sub_of (by simp only [go_sem, init_env', Nat.reduceEqDiff, Nat.reduceAdd, Nat.reduceMul, reduceIte, Nat.reduceLeDiff, Nat.reduceLT, Nat.reduceBEq, reduceCtorEq]; ((repeat' (first | exact EnvLe_e0 _ _ | refine EnvLe_upd ?_ ?_)) <;> ((try simp only [upd_app, e0_app, o0_app, Nat.reduceEqDiff, reduceIte]); first | exact AWk.refl _ _ | exact AWk.int (by omega) | exact AWk.int (by rw [w64 (by omega) (by omega)]; omega) | exact AWk.grow rfl | exact AWk.nil _ | exact AWk.of (by simp)))) (by simp only [go_sem, init_env', Nat.reduceEqDiff, Nat.reduceAdd, Nat.reduceMul, reduceIte, Nat.reduceLeDiff, Nat.reduceLT, Nat.reduceBEq, reduceCtorEq]; ((repeat' (first | exact ObjLe_o0 _ | exact ObjLe.rfl' _ | refine ObjLe_same ?_ | refine ObjLe_upd ?_ ?_ | refine ObjLe_new rfl ?_)) <;> rfl)))
    · (refine WV_exit ?_; simp only [go_sem, init_env', Nat.reduceEqDiff, Nat.reduceAdd, Nat.reduceMul, reduceIte, Nat.reduceLeDiff, Nat.reduceLT, Nat.reduceBEq, reduceCtorEq])
      (repeat ((first | refine WV_seq_ ?_ | refine WV_block ?_ | refine WV_ops ?_ | refine WV_skip ?_ | refine WV_exit ?_); (try simp only [go_sem, init_env', Nat.reduceEqDiff, Nat.reduceAdd, Nat.reduceMul, reduceIte, Nat.reduceLeDiff, Nat.reduceLT, Nat.reduceBEq, reduceCtorEq, hP, ]); (repeat (refine And.intro (by first | omega | (intros; simp_all; done) | (intros; simp_all; omega)) ?_))))
      (refine AS_pure (b5) rfl rfl rfl rfl rfl ?_; simp only [go_sem, init_env', Nat.reduceEqDiff, Nat.reduceAdd, Nat.reduceMul, reduceIte, Nat.reduceLeDiff, Nat.reduceLT, Nat.reduceBEq, reduceCtorEq, hP, Tray.av]; (repeat (refine And.intro (by first | omega | (intros; simp_all; done) | (intros; simp_all; omega)) ?_)); (repeat ((first | refine WV_seq_ ?_ | refine WV_block ?_ | refine WV_ops ?_ | refine WV_skip ?_ | refine WV_exit ?_); (try simp only [go_sem, init_env', Nat.reduceEqDiff, Nat.reduceAdd, Nat.reduceMul, reduceIte, Nat.reduceLeDiff, Nat.reduceLT, Nat.reduceBEq, reduceCtorEq, hP, Tray.av]); (repeat (refine And.intro (by first | omega | (intros; simp_all; done) | (intros; simp_all; omega)) ?_)))))
      (refine AS_pure (b6) rfl rfl rfl rfl rfl ?_; simp only [go_sem, init_env', Nat.reduceEqDiff, Nat.reduceAdd, Nat.reduceMul, reduceIte, Nat.reduceLeDiff, Nat.reduceLT, Nat.reduceBEq, reduceCtorEq, hP, prsC, beq_self_eq_true]; (repeat (refine And.intro (by first | omega | (intros; simp_all; done) | (intros; simp_all; omega)) ?_)); (repeat ((first | refine WV_seq_ ?_ | refine WV_block ?_ | refine WV_ops ?_ | refine WV_skip ?_ | refine WV_exit ?_); (try simp only [go_sem, init_env', Nat.reduceEqDiff, Nat.reduceAdd, Nat.reduceMul, reduceIte, Nat.reduceLeDiff, Nat.reduceLT, Nat.reduceBEq, reduceCtorEq, hP, prsC, beq_self_eq_true]); (repeat (refine And.intro (by first | omega | (intros; simp_all; done) | (intros; simp_all; omega)) ?_)))))
      (refine AG_pure (fun hG => works19) rfl (fun hG => by first | (simp only [go_sem, init_env', Nat.reduceEqDiff, Nat.reduceAdd, Nat.reduceMul, reduceIte, Nat.reduceLeDiff, Nat.reduceLT, Nat.reduceBEq, reduceCtorEq, hG]; done) | (simp only [go_sem, init_env', Nat.reduceEqDiff, Nat.reduceAdd, Nat.reduceMul, reduceIte, Nat.reduceLeDiff, Nat.reduceLT, Nat.reduceBEq, reduceCtorEq]; revert hG; simp; done) | (simp only [go_sem, init_env', Nat.reduceEqDiff, Nat.reduceAdd, Nat.reduceMul, reduceIte, Nat.reduceLeDiff, Nat.reduceLT, Nat.reduceBEq, reduceCtorEq, hG]; simp_all; done) | (revert hG; simp; done) | simp_all) rfl rfl rfl ?_; simp only [go_sem, init_env', Nat.reduceEqDiff, Nat.reduceAdd, Nat.reduceMul, reduceIte, Nat.reduceLeDiff, Nat.reduceLT, Nat.reduceBEq, reduceCtorEq, hP, ]; (repeat (refine And.intro (by first | omega | (intros; simp_all; done) | (intros; simp_all; omega)) ?_)); (repeat ((first | refine WV_seq_ ?_ | refine WV_block ?_ | refine WV_ops ?_ | refine WV_skip ?_ | refine WV_exit ?_); (try simp only [go_sem, init_env', Nat.reduceEqDiff, Nat.reduceAdd, Nat.reduceMul, reduceIte, Nat.reduceLeDiff, Nat.reduceLT, Nat.reduceBEq, reduceCtorEq, hP, ]); (repeat (refine And.intro (by first | omega | (intros; simp_all; done) | (intros; simp_all; omega)) ?_)))))
      (refine WV_ret ?_; simp only [thenQ, inQ, RetQ, RetOk, resAll, resA]; simp only [go_sem, init_env', Nat.reduceEqDiff, Nat.reduceAdd, Nat.reduceMul, reduceIte, Nat.reduceLeDiff, Nat.reduceLT, Nat.reduceBEq, reduceCtorEq, tupA, AV.port, AV.portL, exists_eq_left', ]; (first | exact AVle.of rfl | refine AVle.of ?_ | skip))
end Go.Proofs.Ytkpgpgaojjobgaa
