/-
  Contracts of the layer's functions, of the laws' helpers and of the law; conditions: as each theorem states.
-/
import Derived.Test.YtnmchaemhjnkgaaU4
import Derived.Test.YtnmchaemhjnkgaaV2
set_option linter.unusedVariables false
set_option linter.unusedSimpArgs false
namespace Go.Proofs.Ytnmchaemhjnkgaa
open Go Go.V
@[reducible] def o5_0 : List Ins := [⟨(some 3), .box 3 (.t 0), none, true⟩,
  ⟨(some 6), .mv (.k (.c (.bool false))), none, true⟩]
@[reducible] def o5_1 : List Ins := [⟨(some 15), .ld false 3 (.t 3), none, true⟩,
  ⟨(some 16), .call (.k (.fn 13 [])) [(.t 15)], none, true⟩,
  ⟨(some 17), .un .not (.t 16), none, true⟩,
  ⟨(some 18), .mv (.t 17), none, true⟩,
  ⟨(some 19), .mv (.t 1), (some (18, false)), true⟩,
  ⟨(some 20), .bin .lss (.t 19) (.k (.c (.int .i64 0))), (some (18, false)), true⟩,
  ⟨(some 21), .pick (.t 18) (.k (.c (.bool true))) (.t 20), none, true⟩,
  ⟨(some 22), .mv (.t 21), none, true⟩,
  ⟨(some 23), .mv (.t 1), (some (22, false)), true⟩,
  ⟨(some 24), .fa 1 (.t 3), (some (22, false)), true⟩,
  ⟨(some 25), .ld true 1 (.t 24), (some (22, false)), true⟩,
  ⟨(some 26), .len (.t 25), (some (22, false)), true⟩,
  ⟨(some 27), .bin .geq (.t 23) (.t 26), (some (22, false)), true⟩,
  ⟨(some 28), .pick (.t 22) (.k (.c (.bool true))) (.t 27), none, true⟩,
  ⟨(some 29), .mv (.t 28), none, true⟩,
  ⟨(some 30), .fa 1 (.t 3), (some (29, false)), true⟩,
  ⟨(some 31), .ld true 1 (.t 30), (some (29, false)), true⟩,
  ⟨(some 32), .mv (.t 1), (some (29, false)), true⟩,
  ⟨(some 33), .ia 2 (.t 31) (.t 32), (some (29, false)), true⟩,
  ⟨(some 34), .fa 1 (.t 33), (some (29, false)), true⟩,
  ⟨(some 35), .ld true 1 (.t 34), (some (29, false)), true⟩,
  ⟨(some 36), .len (.t 35), (some (29, false)), true⟩,
  ⟨(some 37), .bin .neq (.t 36) (.k (.c (.int .i64 1))), (some (29, false)), true⟩,
  ⟨(some 38), .pick (.t 29) (.k (.c (.bool true))) (.t 37), none, true⟩,
  ⟨(some 39), .mv (.t 38), none, true⟩,
  ⟨(some 40), .mv (.t 2), (some (39, false)), true⟩,
  ⟨(some 41), .bin .lss (.t 40) (.k (.c (.int .i64 0))), (some (39, false)), true⟩,
  ⟨(some 42), .pick (.t 39) (.k (.c (.bool true))) (.t 41), none, true⟩,
  ⟨(some 43), .mv (.t 42), none, true⟩,
  ⟨(some 44), .mv (.t 2), (some (43, false)), true⟩,
  ⟨(some 45), .bin .gtr (.t 44) (.k (.c (.int .i64 9999))), (some (43, false)), true⟩,
  ⟨(some 46), .pick (.t 43) (.k (.c (.bool true))) (.t 45), none, true⟩,
  ⟨(some 47), .mv (.t 46), none, true⟩,
  ⟨(some 48), .ld false 3 (.t 3), (some (47, false)), true⟩,
  ⟨(some 49), .call (.k (.fn 21 [])) [(.t 48)], (some (47, false)), true⟩,
  ⟨(some 50), .bin .eql (.t 49) (.k (.c (.int .i64 0))), (some (47, false)), true⟩,
  ⟨(some 51), .pick (.t 47) (.k (.c (.bool true))) (.t 50), none, true⟩]
@[reducible] def o5_2 : List Ins := [⟨(some 52), .call (.k (.fn 14 [])) [], none, true⟩,
  ⟨(some 6), .mv (.t 52), none, true⟩]
@[reducible] def v5_3 : VC := (.seq (.ops o5_2) .ret)
@[reducible] def v5_4 : VC := (.cond (.t 51) v5_3 .skip)
@[reducible] def o5_5 : List Ins := [⟨(some 53), .ld false 3 (.t 3), none, true⟩,
  ⟨(some 54), .call (.k (.fn 24 [])) [(.t 53)], none, true⟩,
  ⟨(some 7), .alloc [(.c (.int .i64 0)), (.c (.raw (.slice none 0 0))), (.c (.raw (.slice none 0 0)))], none, true⟩,
  ⟨none, .st 3 (.t 7) (.t 54), none, true⟩]
@[reducible] def o5_6 : List Ins := [⟨(some 55), .fa 1 (.t 7), none, true⟩,
  ⟨(some 56), .ld true 1 (.t 55), none, true⟩,
  ⟨(some 57), .mv (.t 1), none, true⟩,
  ⟨(some 58), .ia 2 (.t 56) (.t 57), none, true⟩,
  ⟨(some 59), .fa 0 (.t 58), none, true⟩,
  ⟨(some 60), .ld true 1 (.t 59), none, true⟩,
  ⟨(some 61), .mv (.t 2), none, true⟩,
  ⟨(some 62), .bin .add (.t 60) (.t 61), none, true⟩,
  ⟨(some 63), .ia 2 (.t 56) (.t 57), none, true⟩,
  ⟨(some 64), .fa 0 (.t 63), none, true⟩,
  ⟨none, .st 1 (.t 64) (.t 62), none, true⟩]
@[reducible] def o5_7 : List Ins := [⟨(some 65), .ld false 3 (.t 7), none, true⟩,
  ⟨(some 66), .call (.k (.fn 13 [])) [(.t 65)], none, true⟩,
  ⟨(some 67), .un .not (.t 66), none, true⟩]
@[reducible] def o5_8 : List Ins := [⟨(some 68), .call (.k (.fn 14 [])) [], none, true⟩,
  ⟨(some 6), .mv (.t 68), none, true⟩]
@[reducible] def v5_9 : VC := (.seq (.ops o5_8) .ret)
@[reducible] def v5_10 : VC := (.cond (.t 67) v5_9 .skip)
@[reducible] def o5_11 : List Ins := [⟨(some 69), .fa 1 (.t 3), none, true⟩,
  ⟨(some 70), .ld true 1 (.t 69), none, true⟩,
  ⟨(some 71), .mv (.t 1), none, true⟩,
  ⟨(some 72), .ia 2 (.t 70) (.t 71), none, true⟩,
  ⟨(some 73), .fa 1 (.t 72), none, true⟩,
  ⟨(some 74), .ld true 1 (.t 73), none, true⟩,
  ⟨(some 75), .ia 2 (.t 74) (.k (.c (.int .i64 0))), none, true⟩,
  ⟨(some 76), .fa 0 (.t 75), none, true⟩,
  ⟨(some 77), .ld true 1 (.t 76), none, true⟩,
  ⟨(some 8), .mv (.t 77), none, true⟩]
@[reducible] def o5_12 : List Ins := [⟨(some 79), .ld false 3 (.t 3), none, true⟩,
  ⟨(some 80), .mv (.t 8), none, true⟩,
  ⟨(some 81), .call (.k (.fn 22 [])) [(.t 79), (.t 80)], none, true⟩,
  ⟨(some 78), .mv (.t 81), none, true⟩,
  ⟨(some 82), .ext (.t 78) 0, none, true⟩,
  ⟨(some 83), .ext (.t 78) 1, none, true⟩,
  ⟨(some 84), .ext (.t 78) 2, none, true⟩,
  ⟨(some 9), .mv (.t 82), none, true⟩,
  ⟨(some 10), .mv (.t 83), none, true⟩,
  ⟨(some 11), .mv (.t 84), none, true⟩]
@[reducible] def o5_13 : List Ins := [⟨(some 86), .ld false 3 (.t 7), none, true⟩,
  ⟨(some 87), .mv (.t 8), none, true⟩,
  ⟨(some 88), .call (.k (.fn 22 [])) [(.t 86), (.t 87)], none, true⟩,
  ⟨(some 85), .mv (.t 88), none, true⟩,
  ⟨(some 89), .ext (.t 85) 0, none, true⟩,
  ⟨(some 90), .ext (.t 85) 1, none, true⟩,
  ⟨(some 91), .ext (.t 85) 2, none, true⟩,
  ⟨(some 12), .mv (.t 89), none, true⟩,
  ⟨(some 13), .mv (.t 90), none, true⟩,
  ⟨(some 14), .mv (.t 91), none, true⟩]
@[reducible] def o5_14 : List Ins := [⟨(some 92), .mv (.t 11), none, true⟩,
  ⟨(some 93), .bin .eql (.t 92) (.k (.c (.int .i64 0))), none, true⟩,
  ⟨(some 94), .mv (.t 93), none, true⟩,
  ⟨(some 95), .mv (.t 14), (some (94, true)), true⟩,
  ⟨(some 96), .bin .eql (.t 95) (.k (.c (.int .i64 0))), (some (94, true)), true⟩,
  ⟨(some 97), .pick (.t 94) (.t 96) (.k (.c (.bool false))), none, true⟩,
  ⟨(some 98), .mv (.t 97), none, true⟩,
  ⟨(some 99), .mv (.t 9), (some (98, true)), true⟩,
  ⟨(some 100), .mv (.t 10), (some (98, true)), true⟩,
  ⟨(some 101), .call (.k (.fn 23 [])) [(.t 99), (.t 100)], (some (98, true)), true⟩,
  ⟨(some 102), .pick (.t 98) (.t 101) (.k (.c (.bool false))), none, true⟩,
  ⟨(some 103), .mv (.t 102), none, true⟩,
  ⟨(some 104), .mv (.t 12), (some (103, true)), true⟩,
  ⟨(some 105), .mv (.t 13), (some (103, true)), true⟩,
  ⟨(some 106), .call (.k (.fn 23 [])) [(.t 104), (.t 105)], (some (103, true)), true⟩,
  ⟨(some 107), .pick (.t 103) (.t 106) (.k (.c (.bool false))), none, true⟩,
  ⟨(some 108), .mv (.t 107), none, true⟩,
  ⟨(some 109), .mv (.t 9), (some (108, true)), true⟩,
  ⟨(some 110), .mv (.t 10), (some (108, true)), true⟩,
  ⟨(some 111), .mv (.t 12), (some (108, true)), true⟩,
  ⟨(some 112), .mv (.t 13), (some (108, true)), true⟩,
  ⟨(some 113), .call (.k (.fn 25 [])) [(.t 109), (.t 110), (.t 111), (.t 112)], (some (108, true)), true⟩,
  ⟨(some 114), .pick (.t 108) (.t 113) (.k (.c (.bool false))), none, true⟩,
  ⟨(some 115), .mv (.t 114), none, true⟩,
  ⟨(some 116), .call (.k (.fn 14 [])) [], (some (115, true)), true⟩,
  ⟨(some 117), .pick (.t 115) (.t 116) (.k (.c (.bool false))), none, true⟩,
  ⟨(some 6), .mv (.t 117), none, true⟩]
@[reducible] def v5_15 : VC := (.seq (.ops o5_14) .ret)
@[reducible] def v5_16 : VC := (.seq (.ops o5_13) v5_15)
@[reducible] def v5_17 : VC := (.seq (.ops o5_12) v5_16)
@[reducible] def v5_18 : VC := (.seq (.ops o5_11) v5_17)
@[reducible] def v5_19 : VC := (.seq (.seq (.ops o5_7) v5_10) v5_18)
@[reducible] def v5_20 : VC := (.seq (.ops o5_6) v5_19)
@[reducible] def v5_21 : VC := (.seq (.ops o5_5) v5_20)
@[reducible] def v5_22 : VC := (.seq (.seq (.ops o5_1) v5_4) v5_21)
def ir5 : FC := ⟨3, 118, [.t 6], (.seq (.ops o5_0) v5_22)⟩
theorem c5 : compM Try.prog [] 5 = some ir5 := by kernel_rfl



theorem sd_cases (l : List Side) (k : Nat) : (∃ x : Side, (l.map Side.cds).getD k [] = [.int .i64 x.plays, .sl 2 (x.parts.map Part.cds)]) ∨ (l.map Side.cds).getD k [] = [] := by
  by_cases h : k < l.length
  · exact .inl ⟨l[k], map_getD h⟩
  · exact .inr (by simp at h; simp [h])
end Go.Proofs.Ytnmchaemhjnkgaa

namespace Go.Proofs.Ytnmchaemhjnkgaa
open Go Go.V
namespace W
@[reducible] def o10_0 : List Ins := [⟨(some 1), .box 6 (.t 0), none, true⟩,
  ⟨(some 2), .mv (.k (.c (.bool false))), none, true⟩]
@[reducible] def o10_1 : List Ins := [⟨(some 30), .fa 0 (.t 1), none, false⟩,
  ⟨(some 31), .ld false 3 (.t 30), none, false⟩,
  ⟨(some 32), .fa 3 (.t 1), none, false⟩,
  ⟨(some 33), .ldd true 1 (.t 32), none, false⟩,
  ⟨(some 34), .fa 4 (.t 1), none, false⟩,
  ⟨(some 35), .ldd true 1 (.t 34), none, false⟩,
  ⟨(some 36), .fa 5 (.t 1), none, false⟩,
  ⟨(some 37), .ldd true 1 (.t 36), none, false⟩,
  ⟨(some 3), .alloc [(.c (.int .i64 0)), (.c (.raw (.slice none 0 0))), (.c (.raw (.slice none 0 0)))], none, false⟩,
  ⟨none, .st 3 (.t 3) (.t 31), none, false⟩,
  ⟨(some 4), .mv (.t 33), none, false⟩,
  ⟨(some 5), .mv (.t 35), none, false⟩,
  ⟨(some 6), .mv (.t 37), none, true⟩]
@[reducible] def o10_2 : List Ins := [⟨(some 38), .fa 1 (.t 3), none, true⟩,
  ⟨(some 39), .ld true 1 (.t 38), none, true⟩,
  ⟨(some 40), .len (.t 39), none, true⟩,
  ⟨(some 7), .mv (.t 40), none, true⟩]
@[reducible] def o10_3 : List Ins := [⟨(some 41), .ld false 3 (.t 3), none, true⟩,
  ⟨(some 42), .call (.k (.fn 13 [])) [(.t 41)], none, true⟩,
  ⟨(some 43), .un .not (.t 42), none, true⟩,
  ⟨(some 44), .mv (.t 43), none, true⟩,
  ⟨(some 45), .mv (.t 7), (some (44, false)), true⟩,
  ⟨(some 46), .bin .geq (.t 45) (.k (.c (.int .i64 6))), (some (44, false)), true⟩,
  ⟨(some 47), .pick (.t 44) (.k (.c (.bool true))) (.t 46), none, true⟩,
  ⟨(some 48), .mv (.t 47), none, true⟩,
  ⟨(some 49), .mv (.t 4), (some (48, false)), true⟩,
  ⟨(some 50), .bin .lss (.t 49) (.k (.c (.int .i64 0))), (some (48, false)), true⟩,
  ⟨(some 51), .pick (.t 48) (.k (.c (.bool true))) (.t 50), none, true⟩,
  ⟨(some 52), .mv (.t 51), none, true⟩,
  ⟨(some 53), .mv (.t 4), (some (52, false)), true⟩,
  ⟨(some 54), .mv (.t 7), (some (52, false)), true⟩,
  ⟨(some 55), .bin .geq (.t 53) (.t 54), (some (52, false)), true⟩,
  ⟨(some 56), .pick (.t 52) (.k (.c (.bool true))) (.t 55), none, true⟩,
  ⟨(some 57), .mv (.t 56), none, true⟩,
  ⟨(some 58), .mv (.t 5), (some (57, false)), true⟩,
  ⟨(some 59), .bin .lss (.t 58) (.k (.c (.int .i64 0))), (some (57, false)), true⟩,
  ⟨(some 60), .pick (.t 57) (.k (.c (.bool true))) (.t 59), none, true⟩,
  ⟨(some 61), .mv (.t 60), none, true⟩,
  ⟨(some 62), .mv (.t 5), (some (61, false)), true⟩,
  ⟨(some 63), .fa 1 (.t 3), (some (61, false)), true⟩,
  ⟨(some 64), .ld true 1 (.t 63), (some (61, false)), true⟩,
  ⟨(some 65), .mv (.t 4), (some (61, false)), true⟩,
  ⟨(some 66), .ia 2 (.t 64) (.t 65), (some (61, false)), true⟩,
  ⟨(some 67), .fa 0 (.t 66), (some (61, false)), true⟩,
  ⟨(some 68), .ld true 1 (.t 67), (some (61, false)), true⟩,
  ⟨(some 69), .bin .gtr (.t 62) (.t 68), (some (61, false)), true⟩,
  ⟨(some 70), .pick (.t 61) (.k (.c (.bool true))) (.t 69), none, true⟩,
  ⟨(some 71), .mv (.t 70), none, true⟩,
  ⟨(some 72), .mv (.t 6), (some (71, false)), true⟩,
  ⟨(some 73), .bin .lss (.t 72) (.k (.c (.int .i64 0))), (some (71, false)), true⟩,
  ⟨(some 74), .pick (.t 71) (.k (.c (.bool true))) (.t 73), none, true⟩,
  ⟨(some 75), .mv (.t 74), none, true⟩,
  ⟨(some 76), .mv (.t 6), (some (75, false)), true⟩,
  ⟨(some 77), .bin .gtr (.t 76) (.k (.c (.int .i64 100))), (some (75, false)), true⟩,
  ⟨(some 78), .pick (.t 75) (.k (.c (.bool true))) (.t 77), none, true⟩]
@[reducible] def o10_4 : List Ins := [⟨(some 79), .call (.k (.fn 14 [])) [], none, true⟩,
  ⟨(some 2), .mv (.t 79), none, true⟩]
@[reducible] def v10_5 : VC := (.seq (.ops o10_4) .ret)
@[reducible] def v10_6 : VC := (.cond (.t 78) v10_5 .skip)
@[reducible] def o10_7 : List Ins := [⟨(some 80), .ld false 3 (.t 3), none, true⟩,
  ⟨(some 81), .call (.k (.fn 24 [])) [(.t 80)], none, true⟩,
  ⟨(some 8), .alloc [(.c (.int .i64 0)), (.c (.raw (.slice none 0 0))), (.c (.raw (.slice none 0 0)))], none, true⟩,
  ⟨none, .st 3 (.t 8) (.t 81), none, true⟩]
@[reducible] def o10_8 : List Ins := [⟨(some 9), .mv (.k (.c (.int .i64 0))), none, true⟩]
@[reducible] def o10_9 : List Ins := [⟨(some 82), .mv (.t 9), none, true⟩,
  ⟨(some 83), .mv (.t 7), none, true⟩,
  ⟨(some 84), .bin .lss (.t 82) (.t 83), none, true⟩]
@[reducible] def v10_10 : VC := (.cond (.t 84) .skip (.exit 0))
@[reducible] def o10_11 : List Ins := [⟨(some 87), .fa 1 (.t 8), none, false⟩,
  ⟨(some 88), .ld true 1 (.t 87), none, false⟩,
  ⟨(some 89), .mv (.t 9), none, false⟩,
  ⟨(some 90), .fa 1 (.t 3), none, false⟩,
  ⟨(some 91), .ld true 1 (.t 90), none, false⟩,
  ⟨(some 92), .mv (.t 9), none, false⟩,
  ⟨(some 93), .mv (.t 6), none, false⟩,
  ⟨(some 94), .bin .add (.t 92) (.t 93), none, false⟩,
  ⟨(some 95), .mv (.t 7), none, false⟩,
  ⟨(some 96), .bin .rem (.t 94) (.t 95), none, false⟩,
  ⟨(some 97), .ia 2 (.t 91) (.t 96), none, false⟩,
  ⟨(some 98), .ld false 2 (.t 97), none, false⟩,
  ⟨(some 99), .ia 2 (.t 88) (.t 89), none, true⟩,
  ⟨none, .st 2 (.t 99) (.t 98), none, true⟩]
@[reducible] def o10_12 : List Ins := [⟨(some 85), .mv (.t 9), none, true⟩,
  ⟨(some 86), .bin .add (.t 85) (.k (.c (.int .i64 1))), none, true⟩,
  ⟨(some 9), .mv (.t 86), none, true⟩]
@[reducible] def v10_13 : VC := (.seq (.block 1 (.ops o10_11)) (.ops o10_12))
@[reducible] def v10_14 : VC := (.seq (.seq (.ops o10_9) v10_10) v10_13)
-- K10_1: changed and kept: [9]
@[reducible] def K10_1 : List Nat := [3, 4, 5, 6, 7, 8]
@[reducible] def v10_15 : VC := (.loop v10_14)
@[reducible] def v10_16 : VC := (.block 0 v10_15)
@[reducible] def o10_17 : List Ins := [⟨(some 100), .ld false 3 (.t 3), none, true⟩,
  ⟨(some 101), .call (.k (.fn 24 [])) [(.t 100)], none, true⟩,
  ⟨(some 10), .alloc [(.c (.int .i64 0)), (.c (.raw (.slice none 0 0))), (.c (.raw (.slice none 0 0)))], none, true⟩,
  ⟨none, .st 3 (.t 10) (.t 101), none, true⟩]
@[reducible] def o10_18 : List Ins := [⟨(some 102), .fa 1 (.t 10), none, true⟩,
  ⟨(some 103), .ld true 1 (.t 102), none, true⟩,
  ⟨(some 104), .mv (.t 4), none, true⟩,
  ⟨(some 105), .ia 2 (.t 103) (.t 104), none, true⟩,
  ⟨(some 106), .fa 0 (.t 105), none, true⟩,
  ⟨(some 107), .ld true 1 (.t 106), none, true⟩,
  ⟨(some 108), .mv (.t 5), none, true⟩,
  ⟨(some 109), .bin .sub (.t 107) (.t 108), none, true⟩,
  ⟨(some 110), .ia 2 (.t 103) (.t 104), none, true⟩,
  ⟨(some 111), .fa 0 (.t 110), none, true⟩,
  ⟨none, .st 1 (.t 111) (.t 109), none, true⟩]
@[reducible] def o10_19 : List Ins := [⟨(some 112), .fa 1 (.t 10), none, false⟩,
  ⟨(some 113), .ld true 1 (.t 112), none, false⟩,
  ⟨(some 114), .mv (.t 5), none, false⟩,
  ⟨(some 115), .fa 1 (.t 3), none, false⟩,
  ⟨(some 116), .ld true 1 (.t 115), none, false⟩,
  ⟨(some 117), .mv (.t 4), none, false⟩,
  ⟨(some 118), .ia 2 (.t 116) (.t 117), none, false⟩,
  ⟨(some 119), .fa 1 (.t 118), none, false⟩,
  ⟨(some 120), .ld true 1 (.t 119), none, false⟩,
  ⟨(some 121), .bld [(.c (.int .i64 0)), (.c (.raw (.slice none 0 0)))] [(0, 1, (.t 114)), (1, 1, (.t 120))], none, false⟩,
  ⟨(some 122), .bsl 44 2 [(.t 121)], none, false⟩,
  ⟨(some 123), .appv 44 2 32 (.t 113) (.t 122), none, true⟩,
  ⟨(some 124), .fa 1 (.t 10), none, true⟩,
  ⟨none, .st 1 (.t 124) (.t 123), none, true⟩]
@[reducible] def o10_20 : List Ins := [⟨(some 126), .ld false 3 (.t 3), none, true⟩,
  ⟨(some 127), .call (.k (.fn 15 [])) [(.t 126)], none, true⟩,
  ⟨(some 125), .mv (.t 127), none, true⟩,
  ⟨(some 128), .ext (.t 125) 0, none, true⟩,
  ⟨(some 129), .ext (.t 125) 1, none, true⟩,
  ⟨(some 11), .mv (.t 128), none, true⟩,
  ⟨(some 12), .mv (.t 129), none, true⟩]
@[reducible] def o10_21 : List Ins := [⟨(some 131), .ld false 3 (.t 8), none, true⟩,
  ⟨(some 132), .call (.k (.fn 15 [])) [(.t 131)], none, true⟩,
  ⟨(some 130), .mv (.t 132), none, true⟩,
  ⟨(some 133), .ext (.t 130) 0, none, true⟩,
  ⟨(some 134), .ext (.t 130) 1, none, true⟩,
  ⟨(some 13), .mv (.t 133), none, true⟩,
  ⟨(some 14), .mv (.t 134), none, true⟩]
@[reducible] def o10_22 : List Ins := [⟨(some 136), .ld false 3 (.t 10), none, true⟩,
  ⟨(some 137), .call (.k (.fn 15 [])) [(.t 136)], none, true⟩,
  ⟨(some 135), .mv (.t 137), none, true⟩,
  ⟨(some 138), .ext (.t 135) 0, none, true⟩,
  ⟨(some 139), .ext (.t 135) 1, none, true⟩,
  ⟨(some 15), .mv (.t 138), none, true⟩,
  ⟨(some 16), .mv (.t 139), none, true⟩]
@[reducible] def o10_23 : List Ins := [⟨(some 140), .ld false 3 (.t 3), none, true⟩,
  ⟨(some 141), .mv (.t 12), none, true⟩,
  ⟨(some 142), .call (.k (.fn 16 [])) [(.t 140), (.t 141)], none, true⟩,
  ⟨(some 143), .un .not (.t 142), none, true⟩,
  ⟨(some 144), .mv (.t 143), none, true⟩,
  ⟨(some 145), .mv (.t 14), (some (144, false)), true⟩,
  ⟨(some 146), .mv (.t 12), (some (144, false)), true⟩,
  ⟨(some 147), .bin .neq (.t 145) (.t 146), (some (144, false)), true⟩,
  ⟨(some 148), .pick (.t 144) (.k (.c (.bool true))) (.t 147), none, true⟩,
  ⟨(some 149), .mv (.t 148), none, true⟩,
  ⟨(some 150), .mv (.t 16), (some (149, false)), true⟩,
  ⟨(some 151), .mv (.t 12), (some (149, false)), true⟩,
  ⟨(some 152), .bin .neq (.t 150) (.t 151), (some (149, false)), true⟩,
  ⟨(some 153), .pick (.t 149) (.k (.c (.bool true))) (.t 152), none, true⟩,
  ⟨(some 154), .mv (.t 153), none, true⟩,
  ⟨(some 155), .mv (.t 11), (some (154, false)), true⟩,
  ⟨(some 156), .mv (.t 13), (some (154, false)), true⟩,
  ⟨(some 157), .call (.k (.fn 34 [])) [(.t 155), (.t 156)], (some (154, false)), true⟩,
  ⟨(some 158), .un .not (.t 157), (some (154, false)), true⟩,
  ⟨(some 159), .pick (.t 154) (.k (.c (.bool true))) (.t 158), none, true⟩,
  ⟨(some 160), .mv (.t 159), none, true⟩,
  ⟨(some 161), .mv (.t 11), (some (160, false)), true⟩,
  ⟨(some 162), .mv (.t 15), (some (160, false)), true⟩,
  ⟨(some 163), .call (.k (.fn 34 [])) [(.t 161), (.t 162)], (some (160, false)), true⟩,
  ⟨(some 164), .un .not (.t 163), (some (160, false)), true⟩,
  ⟨(some 165), .pick (.t 160) (.k (.c (.bool true))) (.t 164), none, true⟩]
@[reducible] def o10_24 : List Ins := [⟨(some 2), .mv (.k (.c (.bool false))), none, true⟩]
@[reducible] def v10_25 : VC := (.seq (.ops o10_24) .ret)
@[reducible] def v10_26 : VC := (.cond (.t 165) v10_25 .skip)
@[reducible] def o10_27 : List Ins := [⟨(some 167), .ld false 3 (.t 3), none, true⟩,
  ⟨(some 168), .call (.k (.fn 40 [])) [(.t 167)], none, true⟩,
  ⟨(some 166), .mv (.t 168), none, true⟩,
  ⟨(some 169), .ext (.t 166) 0, none, true⟩,
  ⟨(some 170), .ext (.t 166) 1, none, true⟩,
  ⟨(some 17), .mv (.t 169), none, true⟩,
  ⟨(some 12), .mv (.t 170), none, true⟩]
@[reducible] def o10_28 : List Ins := [⟨(some 172), .ld false 3 (.t 8), none, true⟩,
  ⟨(some 173), .call (.k (.fn 40 [])) [(.t 172)], none, true⟩,
  ⟨(some 171), .mv (.t 173), none, true⟩,
  ⟨(some 174), .ext (.t 171) 0, none, true⟩,
  ⟨(some 175), .ext (.t 171) 1, none, true⟩,
  ⟨(some 18), .mv (.t 174), none, true⟩,
  ⟨(some 14), .mv (.t 175), none, true⟩]
@[reducible] def o10_29 : List Ins := [⟨(some 177), .ld false 3 (.t 10), none, true⟩,
  ⟨(some 178), .call (.k (.fn 40 [])) [(.t 177)], none, true⟩,
  ⟨(some 176), .mv (.t 178), none, true⟩,
  ⟨(some 179), .ext (.t 176) 0, none, true⟩,
  ⟨(some 180), .ext (.t 176) 1, none, true⟩,
  ⟨(some 19), .mv (.t 179), none, true⟩,
  ⟨(some 16), .mv (.t 180), none, true⟩]
@[reducible] def o10_30 : List Ins := [⟨(some 181), .mv (.t 14), none, true⟩,
  ⟨(some 182), .mv (.t 12), none, true⟩,
  ⟨(some 183), .bin .neq (.t 181) (.t 182), none, true⟩,
  ⟨(some 184), .mv (.t 183), none, true⟩,
  ⟨(some 185), .mv (.t 16), (some (184, false)), true⟩,
  ⟨(some 186), .mv (.t 12), (some (184, false)), true⟩,
  ⟨(some 187), .bin .neq (.t 185) (.t 186), (some (184, false)), true⟩,
  ⟨(some 188), .pick (.t 184) (.k (.c (.bool true))) (.t 187), none, true⟩,
  ⟨(some 189), .mv (.t 188), none, true⟩,
  ⟨(some 190), .mv (.t 17), (some (189, false)), true⟩,
  ⟨(some 191), .mv (.t 18), (some (189, false)), true⟩,
  ⟨(some 192), .bin .neq (.t 190) (.t 191), (some (189, false)), true⟩,
  ⟨(some 193), .pick (.t 189) (.k (.c (.bool true))) (.t 192), none, true⟩,
  ⟨(some 194), .mv (.t 193), none, true⟩,
  ⟨(some 195), .mv (.t 19), (some (194, false)), true⟩,
  ⟨(some 196), .mv (.t 17), (some (194, false)), true⟩,
  ⟨(some 197), .bin .lss (.t 195) (.t 196), (some (194, false)), true⟩,
  ⟨(some 198), .pick (.t 194) (.k (.c (.bool true))) (.t 197), none, true⟩,
  ⟨(some 199), .mv (.t 198), none, true⟩,
  ⟨(some 200), .mv (.t 17), (some (199, false)), true⟩,
  ⟨(some 201), .bin .lss (.t 200) (.k (.c (.int .i64 0))), (some (199, false)), true⟩,
  ⟨(some 202), .pick (.t 199) (.k (.c (.bool true))) (.t 201), none, true⟩,
  ⟨(some 203), .mv (.t 202), none, true⟩,
  ⟨(some 204), .mv (.t 19), (some (203, false)), true⟩,
  ⟨(some 205), .fa 0 (.t 3), (some (203, false)), true⟩,
  ⟨(some 206), .ld true 1 (.t 205), (some (203, false)), true⟩,
  ⟨(some 207), .bin .gtr (.t 204) (.t 206), (some (203, false)), true⟩,
  ⟨(some 208), .pick (.t 203) (.k (.c (.bool true))) (.t 207), none, true⟩]
@[reducible] def o10_31 : List Ins := [⟨(some 2), .mv (.k (.c (.bool false))), none, true⟩]
@[reducible] def v10_32 : VC := (.seq (.ops o10_31) .ret)
@[reducible] def v10_33 : VC := (.cond (.t 208) v10_32 .skip)
@[reducible] def o10_34 : List Ins := [⟨(some 20), .mv (.k (.c (.int .i64 0))), none, true⟩]
@[reducible] def o10_35 : List Ins := [⟨(some 209), .mv (.t 20), none, true⟩,
  ⟨(some 210), .fa 2 (.t 3), none, true⟩,
  ⟨(some 211), .ld true 1 (.t 210), none, true⟩,
  ⟨(some 212), .len (.t 211), none, true⟩,
  ⟨(some 213), .bin .lss (.t 209) (.t 212), none, true⟩]
@[reducible] def v10_36 : VC := (.cond (.t 213) .skip (.exit 2))
@[reducible] def o10_37 : List Ins := [⟨(some 217), .ld false 3 (.t 3), none, true⟩,
  ⟨(some 218), .mv (.t 20), none, true⟩,
  ⟨(some 219), .call (.k (.fn 22 [])) [(.t 217), (.t 218)], none, true⟩,
  ⟨(some 216), .mv (.t 219), none, true⟩,
  ⟨(some 220), .ext (.t 216) 0, none, true⟩,
  ⟨(some 221), .ext (.t 216) 1, none, true⟩,
  ⟨(some 222), .ext (.t 216) 2, none, true⟩,
  ⟨(some 21), .mv (.t 220), none, true⟩,
  ⟨(some 22), .mv (.t 221), none, true⟩,
  ⟨(some 23), .mv (.t 222), none, true⟩]
@[reducible] def o10_38 : List Ins := [⟨(some 224), .ld false 3 (.t 8), none, true⟩,
  ⟨(some 225), .mv (.t 20), none, true⟩,
  ⟨(some 226), .call (.k (.fn 22 [])) [(.t 224), (.t 225)], none, true⟩,
  ⟨(some 223), .mv (.t 226), none, true⟩,
  ⟨(some 227), .ext (.t 223) 0, none, true⟩,
  ⟨(some 228), .ext (.t 223) 1, none, true⟩,
  ⟨(some 229), .ext (.t 223) 2, none, true⟩,
  ⟨(some 24), .mv (.t 227), none, true⟩,
  ⟨(some 25), .mv (.t 228), none, true⟩,
  ⟨(some 26), .mv (.t 229), none, true⟩]
@[reducible] def o10_39 : List Ins := [⟨(some 231), .ld false 3 (.t 10), none, true⟩,
  ⟨(some 232), .mv (.t 20), none, true⟩,
  ⟨(some 233), .call (.k (.fn 22 [])) [(.t 231), (.t 232)], none, true⟩,
  ⟨(some 230), .mv (.t 233), none, true⟩,
  ⟨(some 234), .ext (.t 230) 0, none, true⟩,
  ⟨(some 235), .ext (.t 230) 1, none, true⟩,
  ⟨(some 236), .ext (.t 230) 2, none, true⟩,
  ⟨(some 27), .mv (.t 234), none, true⟩,
  ⟨(some 28), .mv (.t 235), none, true⟩,
  ⟨(some 29), .mv (.t 236), none, true⟩]
@[reducible] def o10_40 : List Ins := [⟨(some 237), .mv (.t 23), none, true⟩,
  ⟨(some 238), .mv (.t 26), none, true⟩,
  ⟨(some 239), .bin .neq (.t 237) (.t 238), none, true⟩,
  ⟨(some 240), .mv (.t 239), none, true⟩,
  ⟨(some 241), .mv (.t 26), (some (240, false)), true⟩,
  ⟨(some 242), .mv (.t 29), (some (240, false)), true⟩,
  ⟨(some 243), .bin .neq (.t 241) (.t 242), (some (240, false)), true⟩,
  ⟨(some 244), .pick (.t 240) (.k (.c (.bool true))) (.t 243), none, true⟩,
  ⟨(some 245), .mv (.t 244), none, true⟩,
  ⟨(some 246), .mv (.t 21), (some (245, false)), true⟩,
  ⟨(some 247), .mv (.t 24), (some (245, false)), true⟩,
  ⟨(some 248), .bin .neq (.t 246) (.t 247), (some (245, false)), true⟩,
  ⟨(some 249), .pick (.t 245) (.k (.c (.bool true))) (.t 248), none, true⟩,
  ⟨(some 250), .mv (.t 249), none, true⟩,
  ⟨(some 251), .mv (.t 22), (some (250, false)), true⟩,
  ⟨(some 252), .mv (.t 25), (some (250, false)), true⟩,
  ⟨(some 253), .bin .neq (.t 251) (.t 252), (some (250, false)), true⟩,
  ⟨(some 254), .pick (.t 250) (.k (.c (.bool true))) (.t 253), none, true⟩,
  ⟨(some 255), .mv (.t 254), none, true⟩,
  ⟨(some 256), .mv (.t 21), (some (255, false)), true⟩,
  ⟨(some 257), .mv (.t 27), (some (255, false)), true⟩,
  ⟨(some 258), .bin .neq (.t 256) (.t 257), (some (255, false)), true⟩,
  ⟨(some 259), .pick (.t 255) (.k (.c (.bool true))) (.t 258), none, true⟩,
  ⟨(some 260), .mv (.t 259), none, true⟩,
  ⟨(some 261), .mv (.t 22), (some (260, false)), true⟩,
  ⟨(some 262), .mv (.t 28), (some (260, false)), true⟩,
  ⟨(some 263), .bin .neq (.t 261) (.t 262), (some (260, false)), true⟩,
  ⟨(some 264), .pick (.t 260) (.k (.c (.bool true))) (.t 263), none, true⟩]
@[reducible] def o10_41 : List Ins := [⟨(some 2), .mv (.k (.c (.bool false))), none, true⟩]
@[reducible] def v10_42 : VC := (.seq (.ops o10_41) .ret)
@[reducible] def v10_43 : VC := (.cond (.t 264) v10_42 .skip)
@[reducible] def v10_44 : VC := (.seq (.ops o10_40) v10_43)
@[reducible] def v10_45 : VC := (.seq (.ops o10_39) v10_44)
@[reducible] def v10_46 : VC := (.seq (.ops o10_38) v10_45)
@[reducible] def v10_47 : VC := (.seq (.ops o10_37) v10_46)
@[reducible] def o10_48 : List Ins := [⟨(some 214), .mv (.t 20), none, true⟩,
  ⟨(some 215), .bin .add (.t 214) (.k (.c (.int .i64 1))), none, true⟩,
  ⟨(some 20), .mv (.t 215), none, true⟩]
@[reducible] def v10_49 : VC := (.seq (.block 3 v10_47) (.ops o10_48))
@[reducible] def v10_50 : VC := (.seq (.seq (.ops o10_35) v10_36) v10_49)
-- K10_2: changed and kept: [20]
@[reducible] def K10_2 : List Nat := [3, 8, 10]
@[reducible] def v10_51 : VC := (.loop v10_50)
@[reducible] def v10_52 : VC := (.block 2 v10_51)
@[reducible] def o10_53 : List Ins := [⟨(some 265), .call (.k (.fn 14 [])) [], none, true⟩,
  ⟨(some 2), .mv (.t 265), none, true⟩]
@[reducible] def v10_54 : VC := (.seq (.ops o10_53) .ret)
@[reducible] def v10_55 : VC := (.seq (.seq (.ops o10_34) v10_52) v10_54)
@[reducible] def v10_56 : VC := (.seq (.seq (.ops o10_30) v10_33) v10_55)
@[reducible] def v10_57 : VC := (.seq (.ops o10_29) v10_56)
@[reducible] def v10_58 : VC := (.seq (.ops o10_28) v10_57)
@[reducible] def v10_59 : VC := (.seq (.ops o10_27) v10_58)
@[reducible] def v10_60 : VC := (.seq (.seq (.ops o10_23) v10_26) v10_59)
@[reducible] def v10_61 : VC := (.seq (.ops o10_22) v10_60)
@[reducible] def v10_62 : VC := (.seq (.ops o10_21) v10_61)
@[reducible] def v10_63 : VC := (.seq (.ops o10_20) v10_62)
@[reducible] def v10_64 : VC := (.seq (.ops o10_19) v10_63)
@[reducible] def v10_65 : VC := (.seq (.ops o10_18) v10_64)
@[reducible] def v10_66 : VC := (.seq (.ops o10_17) v10_65)
@[reducible] def v10_67 : VC := (.seq (.seq (.ops o10_8) v10_16) v10_66)
@[reducible] def v10_68 : VC := (.seq (.ops o10_7) v10_67)
@[reducible] def v10_69 : VC := (.seq (.seq (.ops o10_3) v10_6) v10_68)
@[reducible] def v10_70 : VC := (.seq (.ops o10_2) v10_69)
@[reducible] def v10_71 : VC := (.seq (.ops o10_1) v10_70)
def ir10 : FC := ⟨1, 266, [.t 2], (.seq (.ops o10_0) v10_71)⟩
theorem c10 : compM Try.prog [200033,200035,200037,100123] 10 = some ir10 := by kernel_rfl

end W
open W


theorem lost_facts {r : Royal} {k : Nat} {off : Int} (hk : k < r.sides.length) (hok : r.ok = true) (h5 : r.sides.length < 6) (ho : 0 ≤ off ∧ off ≤ r.sides[k].plays) :
    ∃ m n e, lostS r = (m, e) ∧ lostS (cutR r k off hk) = (n, e) ∧ m ≤ n ∧ 0 ≤ m ∧ n ≤ r.pool := by
  have hp := cut_ok hk hok h5 ho
  have hr := Royal.ok_spec hok
  have hpr := Royal.ok_spec hp
  have ha : allW (cutR r k off hk) = allW r := allW_cut hk
  have hw : weighE (cutR r k off hk) true = weighE r true := ok_weigh hp hok (by rw [ha]) _
  have hpool := hr.pool
  by_cases h0 : allW r = 0
  · have e1 : weighE r true = 3 := by simp [weighE, hok, h0]
    refine ⟨0, 0, 3, ?_, ?_, Int.le_refl _, Int.le_refl _, hpool.1⟩
    · unfold lostS; rw [e1]; rfl
    · unfold lostS; rw [hw, e1]; rfl
  · have hab := allW_bd hr
    have e1 : weighE r true = 0 := by simp [weighE, hok, h0]
    have hW : Weighed r := ⟨hok, hr, by omega, hab.2, wts_len r, wts_bd hr, wts_sum hr⟩
    have hWp : Weighed (cutR r k off hk) := ⟨hp, hpr, by omega, by omega, wts_len _, wts_bd hpr, wts_sum hpr⟩
    refine ⟨_, _, 0, ?_, ?_, lost_cut hk hW, lost_nonneg hW, (lostV_bd hWp _ (Nat.le_refl _)).1⟩
    · unfold lostS; rw [e1]; rfl
    · unfold lostS; rw [hw, e1]; rfl
theorem shares_plain {r : Royal} (h : r.ok = true) : plainB r (sharesS r).2 = true := by
  have := weighE_plain h
  have e : (sharesS r).2 = weighE r true := by
    unfold sharesS
    split
    · rename_i h; rw [h]
    · rfl
  rw [e]; exact this

/-- The first k ones are of another list. -/
def mixK {α : Type} (L l : List α) (k : Nat) : List α := L.take k ++ l.drop k
theorem mixK_zero {α : Type} (L l : List α) : mixK L l 0 = l := by simp [mixK]
theorem mixK_all {α : Type} {L l : List α} (h : L.length = l.length) : mixK L l l.length = L := by
  unfold mixK; rw [← h, List.take_length, h, List.drop_length, List.append_nil]
theorem mixK_len {α : Type} {L l : List α} (h : L.length = l.length) {k : Nat} (hk : k ≤ l.length) : (mixK L l k).length = l.length := by
  unfold mixK; rw [List.length_append, List.length_take, List.length_drop]; omega
theorem mixK_set {α : Type} {L l : List α} (h : L.length = l.length) {k : Nat} (hk : k < l.length) {x : α} (hx : L[k]? = some x) : (mixK L l k).set k x = mixK L l (k + 1) := by
  have hk' : k < L.length := by omega
  have ex : x = L[k] := by rw [List.getElem?_eq_getElem hk'] at hx; exact (Option.some.inj hx).symm
  subst ex
  have hl : (L.take k).length = k := by rw [List.length_take]; omega
  unfold mixK
  rw [List.set_append_right _ _ (by rw [hl]; exact Nat.le_refl _), hl, Nat.sub_self, List.drop_eq_getElem_cons hk, List.set_cons_zero, List.take_succ_eq_append_getElem hk', List.append_assoc]
  rfl
theorem put2r {l : List Side} {k : Nat} (h : k < l.length) (j : Nat) (a : Side) :
    (cellsG Side.cds l j).take (k * 2) ++ AV.c (.int .i64 a.plays) :: AV.c (.sl 2 (a.parts.map Part.cds)) :: (cellsG Side.cds l j).drop (k * 2 + 2) = cellsG Side.cds (l.set k a) j := cellsG_two side_two h j a rfl

set_option maxRecDepth 20000 in
set_option maxHeartbeats 16000000 in
theorem tail10 {C : Ctx} (hP : C.P = Try.prog) {r : Royal} (hok : r.ok = true) {k : Nat} (hk : k < r.sides.length) (h5 : r.sides.length < 6) {off : Int} (hoff : 0 ≤ off ∧ off ≤ r.sides[k].plays) (n : Nat) :
    WV C v10_63 (RetQ [.t 2] (.c (.bool true))) ⟨upd (upd (upd e0 3 (.bp 3 0)) 8 (.bp 8 0)) 10 (.bp 10 0), upd (upd (upd o0 3 (.box [iv r.pool, .c (sidesC r.sides), .c (ints r.owed)])) 8 (.box [iv r.pool, .c (sidesC (rotL r.sides n)), .c (ints r.owed)])) 10 (.box [iv r.pool, .c (sidesC (cutR r k off hk).sides), .c (ints r.owed)])⟩ := by
  have hr := Royal.ok_spec hok
  have hn6 := hr.n6
  have hnl : r.owed.length = r.n := rfl
  have hpm := rot_perm r.sides n
  have ho := sharedB_ok hok hpm
  have hor := Royal.ok_spec ho
  have hp := cut_ok hk hok h5 hoff
  have hpr := Royal.ok_spec hp
  have c1 := shares15 r
  have c2 := shares15 (permR r (rotL r.sides n))
  rw [shares_eq hok ho rfl (allW_perm hpm) (wts_perm hr hor hpm)] at c2
  have c3 := shares15 (cutR r k off hk)
  rw [shares_eq hok hp rfl (allW_cut hk) (wts_cut hk hr hpr)] at c3
  have c4 := plain16 hr (sharesS r).2
  rw [shares_plain hok] at c4
  obtain ⟨m, m', e, l1, l2, l3, l4, l5⟩ := lost_facts hk hok h5 hoff
  have c5 := lost40 r
  rw [l1] at c5
  have c6 := lost40 (permR r (rotL r.sides n))
  rw [lost_perm hok hpm, l1] at c6
  have c7 := lost40 (cutR r k off hk)
  rw [l2] at c7
  have c8 := fun who => exact22 r who
  have c9 := fun who => exact22 (permR r (rotL r.sides n)) who
  have c10 := fun who => exact22 (cutR r k off hk) who
  simp only [exact_eq hok ho rfl rfl (allW_perm hpm) (wts_perm hr hor hpm)] at c9
  simp only [exact_eq hok hp rfl rfl (allW_cut hk) (wts_cut hk hr hpr)] at c10
  have ea : (permR r (rotL r.sides n)).av = .agg [iv r.pool, .c (sidesC (rotL r.sides n)), .c (ints r.owed)] := rfl
  have eb : (cutR r k off hk).av = .agg [iv r.pool, .c (sidesC (cutR r k off hk).sides), .c (ints r.owed)] := rfl
  rw [ea] at c2 c6
  rw [eb] at c3 c7
  simp only [ea] at c9
  simp only [eb] at c10
  have f1 : decide (m' < m) = false := by simp; omega
  have f2 : decide (m < 0) = false := by simp; omega
  have f3 : decide (r.pool < m') = false := by simp; omega
  clear ho hp hor hpr hpm ea eb
  generalize (cutR r k off hk).sides = S3 at *
  generalize rotL r.sides n = S2 at *
  generalize sharesS r = Sh at *
  obtain ⟨S, es⟩ := Sh
  (repeat ((first | refine WV_seq_ ?_ | refine WV_block ?_ | refine WV_ops ?_ | refine WV_skip ?_ | refine WV_exit ?_); (try simp only [go_sem, init_env', Nat.reduceEqDiff, Nat.reduceAdd, Nat.reduceMul, reduceIte, Nat.reduceLeDiff, Nat.reduceLT, Nat.reduceBEq, reduceCtorEq, hP, ]); (repeat (refine And.intro (by first | omega | (intros; simp_all; done) | (intros; simp_all; omega)) ?_))))
  (refine AS_pure (c1) rfl rfl rfl rfl rfl ?_; simp only [go_sem, init_env', Nat.reduceEqDiff, Nat.reduceAdd, Nat.reduceMul, reduceIte, Nat.reduceLeDiff, Nat.reduceLT, Nat.reduceBEq, reduceCtorEq, hP, Royal.av]; (repeat (refine And.intro (by first | omega | (intros; simp_all; done) | (intros; simp_all; omega)) ?_)); (repeat ((first | refine WV_seq_ ?_ | refine WV_block ?_ | refine WV_ops ?_ | refine WV_skip ?_ | refine WV_exit ?_); (try simp only [go_sem, init_env', Nat.reduceEqDiff, Nat.reduceAdd, Nat.reduceMul, reduceIte, Nat.reduceLeDiff, Nat.reduceLT, Nat.reduceBEq, reduceCtorEq, hP, Royal.av]); (repeat (refine And.intro (by first | omega | (intros; simp_all; done) | (intros; simp_all; omega)) ?_)))))
  (refine AS_pure (c2) rfl rfl rfl rfl rfl ?_; simp only [go_sem, init_env', Nat.reduceEqDiff, Nat.reduceAdd, Nat.reduceMul, reduceIte, Nat.reduceLeDiff, Nat.reduceLT, Nat.reduceBEq, reduceCtorEq, hP, Royal.av]; (repeat (refine And.intro (by first | omega | (intros; simp_all; done) | (intros; simp_all; omega)) ?_)); (repeat ((first | refine WV_seq_ ?_ | refine WV_block ?_ | refine WV_ops ?_ | refine WV_skip ?_ | refine WV_exit ?_); (try simp only [go_sem, init_env', Nat.reduceEqDiff, Nat.reduceAdd, Nat.reduceMul, reduceIte, Nat.reduceLeDiff, Nat.reduceLT, Nat.reduceBEq, reduceCtorEq, hP, Royal.av]); (repeat (refine And.intro (by first | omega | (intros; simp_all; done) | (intros; simp_all; omega)) ?_)))))
  (refine AS_pure (c3) rfl rfl rfl rfl rfl ?_; simp only [go_sem, init_env', Nat.reduceEqDiff, Nat.reduceAdd, Nat.reduceMul, reduceIte, Nat.reduceLeDiff, Nat.reduceLT, Nat.reduceBEq, reduceCtorEq, hP, Royal.av]; (repeat (refine And.intro (by first | omega | (intros; simp_all; done) | (intros; simp_all; omega)) ?_)); (repeat ((first | refine WV_seq_ ?_ | refine WV_block ?_ | refine WV_ops ?_ | refine WV_skip ?_ | refine WV_exit ?_); (try simp only [go_sem, init_env', Nat.reduceEqDiff, Nat.reduceAdd, Nat.reduceMul, reduceIte, Nat.reduceLeDiff, Nat.reduceLT, Nat.reduceBEq, reduceCtorEq, hP, Royal.av]); (repeat (refine And.intro (by first | omega | (intros; simp_all; done) | (intros; simp_all; omega)) ?_)))))
  (refine AS_pure (c4) rfl rfl rfl rfl rfl ?_; simp only [go_sem, init_env', Nat.reduceEqDiff, Nat.reduceAdd, Nat.reduceMul, reduceIte, Nat.reduceLeDiff, Nat.reduceLT, Nat.reduceBEq, reduceCtorEq, hP, Royal.av, bne_self_eq_false]; (repeat (refine And.intro (by first | omega | (intros; simp_all; done) | (intros; simp_all; omega)) ?_)); (repeat ((first | refine WV_seq_ ?_ | refine WV_block ?_ | refine WV_ops ?_ | refine WV_skip ?_ | refine WV_exit ?_); (try simp only [go_sem, init_env', Nat.reduceEqDiff, Nat.reduceAdd, Nat.reduceMul, reduceIte, Nat.reduceLeDiff, Nat.reduceLT, Nat.reduceBEq, reduceCtorEq, hP, Royal.av, bne_self_eq_false]); (repeat (refine And.intro (by first | omega | (intros; simp_all; done) | (intros; simp_all; omega)) ?_)))))
  (refine AG_pure (fun hG => same34 S S) rfl (fun hG => by first | (simp only [go_sem, init_env', Nat.reduceEqDiff, Nat.reduceAdd, Nat.reduceMul, reduceIte, Nat.reduceLeDiff, Nat.reduceLT, Nat.reduceBEq, reduceCtorEq, hG]; done) | (simp only [go_sem, init_env', Nat.reduceEqDiff, Nat.reduceAdd, Nat.reduceMul, reduceIte, Nat.reduceLeDiff, Nat.reduceLT, Nat.reduceBEq, reduceCtorEq]; revert hG; simp; done) | (simp only [go_sem, init_env', Nat.reduceEqDiff, Nat.reduceAdd, Nat.reduceMul, reduceIte, Nat.reduceLeDiff, Nat.reduceLT, Nat.reduceBEq, reduceCtorEq, hG]; simp_all; done) | (revert hG; simp; done) | simp_all) rfl rfl rfl ?_; simp only [go_sem, init_env', Nat.reduceEqDiff, Nat.reduceAdd, Nat.reduceMul, reduceIte, Nat.reduceLeDiff, Nat.reduceLT, Nat.reduceBEq, reduceCtorEq, hP, decide_true, bne_self_eq_false]; (repeat (refine And.intro (by first | omega | (intros; simp_all; done) | (intros; simp_all; omega)) ?_)); (repeat ((first | refine WV_seq_ ?_ | refine WV_block ?_ | refine WV_ops ?_ | refine WV_skip ?_ | refine WV_exit ?_); (try simp only [go_sem, init_env', Nat.reduceEqDiff, Nat.reduceAdd, Nat.reduceMul, reduceIte, Nat.reduceLeDiff, Nat.reduceLT, Nat.reduceBEq, reduceCtorEq, hP, decide_true, bne_self_eq_false]); (repeat (refine And.intro (by first | omega | (intros; simp_all; done) | (intros; simp_all; omega)) ?_)))))
  (refine AG_pure (fun hG => same34 S S) rfl (fun hG => by first | (simp only [go_sem, init_env', Nat.reduceEqDiff, Nat.reduceAdd, Nat.reduceMul, reduceIte, Nat.reduceLeDiff, Nat.reduceLT, Nat.reduceBEq, reduceCtorEq, hG]; done) | (simp only [go_sem, init_env', Nat.reduceEqDiff, Nat.reduceAdd, Nat.reduceMul, reduceIte, Nat.reduceLeDiff, Nat.reduceLT, Nat.reduceBEq, reduceCtorEq]; revert hG; simp; done) | (simp only [go_sem, init_env', Nat.reduceEqDiff, Nat.reduceAdd, Nat.reduceMul, reduceIte, Nat.reduceLeDiff, Nat.reduceLT, Nat.reduceBEq, reduceCtorEq, hG]; simp_all; done) | (revert hG; simp; done) | simp_all) rfl rfl rfl ?_; simp only [go_sem, init_env', Nat.reduceEqDiff, Nat.reduceAdd, Nat.reduceMul, reduceIte, Nat.reduceLeDiff, Nat.reduceLT, Nat.reduceBEq, reduceCtorEq, hP, decide_true, bne_self_eq_false]; (repeat (refine And.intro (by first | omega | (intros; simp_all; done) | (intros; simp_all; omega)) ?_)); (repeat ((first | refine WV_seq_ ?_ | refine WV_block ?_ | refine WV_ops ?_ | refine WV_skip ?_ | refine WV_exit ?_); (try simp only [go_sem, init_env', Nat.reduceEqDiff, Nat.reduceAdd, Nat.reduceMul, reduceIte, Nat.reduceLeDiff, Nat.reduceLT, Nat.reduceBEq, reduceCtorEq, hP, decide_true, bne_self_eq_false]); (repeat (refine And.intro (by first | omega | (intros; simp_all; done) | (intros; simp_all; omega)) ?_)))))
  (refine WV_cond rfl (fun h => ?_) (fun h => ?_))
  · simp at h
  clear h
  (repeat ((first | refine WV_seq_ ?_ | refine WV_block ?_ | refine WV_ops ?_ | refine WV_skip ?_ | refine WV_exit ?_); (try simp only [go_sem, init_env', Nat.reduceEqDiff, Nat.reduceAdd, Nat.reduceMul, reduceIte, Nat.reduceLeDiff, Nat.reduceLT, Nat.reduceBEq, reduceCtorEq, hP, ]); (repeat (refine And.intro (by first | omega | (intros; simp_all; done) | (intros; simp_all; omega)) ?_))))
  (refine AS_pure (c5) rfl rfl rfl rfl rfl ?_; simp only [go_sem, init_env', Nat.reduceEqDiff, Nat.reduceAdd, Nat.reduceMul, reduceIte, Nat.reduceLeDiff, Nat.reduceLT, Nat.reduceBEq, reduceCtorEq, hP, Royal.av]; (repeat (refine And.intro (by first | omega | (intros; simp_all; done) | (intros; simp_all; omega)) ?_)); (repeat ((first | refine WV_seq_ ?_ | refine WV_block ?_ | refine WV_ops ?_ | refine WV_skip ?_ | refine WV_exit ?_); (try simp only [go_sem, init_env', Nat.reduceEqDiff, Nat.reduceAdd, Nat.reduceMul, reduceIte, Nat.reduceLeDiff, Nat.reduceLT, Nat.reduceBEq, reduceCtorEq, hP, Royal.av]); (repeat (refine And.intro (by first | omega | (intros; simp_all; done) | (intros; simp_all; omega)) ?_)))))
  (refine AS_pure (c6) rfl rfl rfl rfl rfl ?_; simp only [go_sem, init_env', Nat.reduceEqDiff, Nat.reduceAdd, Nat.reduceMul, reduceIte, Nat.reduceLeDiff, Nat.reduceLT, Nat.reduceBEq, reduceCtorEq, hP, Royal.av]; (repeat (refine And.intro (by first | omega | (intros; simp_all; done) | (intros; simp_all; omega)) ?_)); (repeat ((first | refine WV_seq_ ?_ | refine WV_block ?_ | refine WV_ops ?_ | refine WV_skip ?_ | refine WV_exit ?_); (try simp only [go_sem, init_env', Nat.reduceEqDiff, Nat.reduceAdd, Nat.reduceMul, reduceIte, Nat.reduceLeDiff, Nat.reduceLT, Nat.reduceBEq, reduceCtorEq, hP, Royal.av]); (repeat (refine And.intro (by first | omega | (intros; simp_all; done) | (intros; simp_all; omega)) ?_)))))
  (refine AS_pure (c7) rfl rfl rfl rfl rfl ?_; simp only [go_sem, init_env', Nat.reduceEqDiff, Nat.reduceAdd, Nat.reduceMul, reduceIte, Nat.reduceLeDiff, Nat.reduceLT, Nat.reduceBEq, reduceCtorEq, hP, Royal.av, bne_self_eq_false, f1, f2, f3]; (repeat (refine And.intro (by first | omega | (intros; simp_all; done) | (intros; simp_all; omega)) ?_)); (repeat ((first | refine WV_seq_ ?_ | refine WV_block ?_ | refine WV_ops ?_ | refine WV_skip ?_ | refine WV_exit ?_); (try simp only [go_sem, init_env', Nat.reduceEqDiff, Nat.reduceAdd, Nat.reduceMul, reduceIte, Nat.reduceLeDiff, Nat.reduceLT, Nat.reduceBEq, reduceCtorEq, hP, Royal.av, bne_self_eq_false, f1, f2, f3]); (repeat (refine And.intro (by first | omega | (intros; simp_all; done) | (intros; simp_all; omega)) ?_)))))
  (refine WV_cond rfl (fun h => ?_) (fun h => ?_))
  · simp at h
  clear h
  (repeat ((first | refine WV_seq_ ?_ | refine WV_block ?_ | refine WV_ops ?_ | refine WV_skip ?_ | refine WV_exit ?_); (try simp only [go_sem, init_env', Nat.reduceEqDiff, Nat.reduceAdd, Nat.reduceMul, reduceIte, Nat.reduceLeDiff, Nat.reduceLT, Nat.reduceBEq, reduceCtorEq, hP, ]); (repeat (refine And.intro (by first | omega | (intros; simp_all; done) | (intros; simp_all; omega)) ?_))))
  refine WV_loopK K10_2 [] (fun k : Nat => k ≤ r.n) (fun k => r.n - k) (fun k => [(20, iv k)]) (fun _ => []) 0 (Nat.zero_le _) ?_ ?_
  · (refine Sub_of (by simp only [go_sem, init_env', Nat.reduceEqDiff, Nat.reduceAdd, Nat.reduceMul, reduceIte, Nat.reduceLeDiff, Nat.reduceLT, Nat.reduceBEq, reduceCtorEq]; ((repeat' (first | exact EnvLe_e0 _ _ | refine EnvLe_upd ?_ ?_)) <;> ((try simp only [upd_app, e0_app, o0_app, Nat.reduceEqDiff, reduceIte]); first | exact AWk.refl _ _ | exact AWk.int (by omega) | exact AWk.int (by rw [w64 (by omega) (by omega)]; omega) | exact AWk.grow rfl | exact AWk.nil _ | exact AWk.of (by simp)))) (by simp only [go_sem, init_env', Nat.reduceEqDiff, Nat.reduceAdd, Nat.reduceMul, reduceIte, Nat.reduceLeDiff, Nat.reduceLT, Nat.reduceBEq, reduceCtorEq]; ((repeat' (first | exact ObjLe_o0 _ | exact ObjLe.rfl' _ | refine ObjLe_same ?_ | refine ObjLe_upd ?_ ?_ | refine ObjLe_new rfl ?_)) <;> rfl)))
  · intro w hw
    simp only [go_sem, init_env', Nat.reduceEqDiff, Nat.reduceAdd, Nat.reduceMul, reduceIte, Nat.reduceLeDiff, Nat.reduceLT, Nat.reduceBEq, reduceCtorEq]
    (repeat ((first | refine WV_seq_ ?_ | refine WV_block ?_ | refine WV_ops ?_ | refine WV_skip ?_ | refine WV_exit ?_); (try simp only [go_sem, init_env', Nat.reduceEqDiff, Nat.reduceAdd, Nat.reduceMul, reduceIte, Nat.reduceLeDiff, Nat.reduceLT, Nat.reduceBEq, reduceCtorEq, hP, ints, hnl]); (repeat (refine And.intro (by first | omega | (intros; simp_all; done) | (intros; simp_all; omega)) ?_))))
    (refine WV_cond rfl (fun h => ?_) (fun h => ?_))
    · have hkl : w < r.n := by simpa using h
      have hw3 := w64 (n := (w : Int) + 1) (by omega) (by omega)
      (repeat ((first | refine WV_seq_ ?_ | refine WV_block ?_ | refine WV_ops ?_ | refine WV_skip ?_ | refine WV_exit ?_); (try simp only [go_sem, init_env', Nat.reduceEqDiff, Nat.reduceAdd, Nat.reduceMul, reduceIte, Nat.reduceLeDiff, Nat.reduceLT, Nat.reduceBEq, reduceCtorEq, hP, ]); (repeat (refine And.intro (by first | omega | (intros; simp_all; done) | (intros; simp_all; omega)) ?_))))
      (refine AS_pure (c8 w) rfl rfl rfl rfl rfl ?_; simp only [go_sem, init_env', Nat.reduceEqDiff, Nat.reduceAdd, Nat.reduceMul, reduceIte, Nat.reduceLeDiff, Nat.reduceLT, Nat.reduceBEq, reduceCtorEq, hP, Royal.av]; (repeat (refine And.intro (by first | omega | (intros; simp_all; done) | (intros; simp_all; omega)) ?_)); (repeat ((first | refine WV_seq_ ?_ | refine WV_block ?_ | refine WV_ops ?_ | refine WV_skip ?_ | refine WV_exit ?_); (try simp only [go_sem, init_env', Nat.reduceEqDiff, Nat.reduceAdd, Nat.reduceMul, reduceIte, Nat.reduceLeDiff, Nat.reduceLT, Nat.reduceBEq, reduceCtorEq, hP, Royal.av]); (repeat (refine And.intro (by first | omega | (intros; simp_all; done) | (intros; simp_all; omega)) ?_)))))
      (refine AS_pure (c9 w) rfl rfl rfl rfl rfl ?_; simp only [go_sem, init_env', Nat.reduceEqDiff, Nat.reduceAdd, Nat.reduceMul, reduceIte, Nat.reduceLeDiff, Nat.reduceLT, Nat.reduceBEq, reduceCtorEq, hP, Royal.av]; (repeat (refine And.intro (by first | omega | (intros; simp_all; done) | (intros; simp_all; omega)) ?_)); (repeat ((first | refine WV_seq_ ?_ | refine WV_block ?_ | refine WV_ops ?_ | refine WV_skip ?_ | refine WV_exit ?_); (try simp only [go_sem, init_env', Nat.reduceEqDiff, Nat.reduceAdd, Nat.reduceMul, reduceIte, Nat.reduceLeDiff, Nat.reduceLT, Nat.reduceBEq, reduceCtorEq, hP, Royal.av]); (repeat (refine And.intro (by first | omega | (intros; simp_all; done) | (intros; simp_all; omega)) ?_)))))
      (refine AS_pure (c10 w) rfl rfl rfl rfl rfl ?_; simp only [go_sem, init_env', Nat.reduceEqDiff, Nat.reduceAdd, Nat.reduceMul, reduceIte, Nat.reduceLeDiff, Nat.reduceLT, Nat.reduceBEq, reduceCtorEq, hP, Royal.av, bne_self_eq_false]; (repeat (refine And.intro (by first | omega | (intros; simp_all; done) | (intros; simp_all; omega)) ?_)); (repeat ((first | refine WV_seq_ ?_ | refine WV_block ?_ | refine WV_ops ?_ | refine WV_skip ?_ | refine WV_exit ?_); (try simp only [go_sem, init_env', Nat.reduceEqDiff, Nat.reduceAdd, Nat.reduceMul, reduceIte, Nat.reduceLeDiff, Nat.reduceLT, Nat.reduceBEq, reduceCtorEq, hP, Royal.av, bne_self_eq_false]); (repeat (refine And.intro (by first | omega | (intros; simp_all; done) | (intros; simp_all; omega)) ?_)))))
      (refine WV_cond rfl (fun h => ?_) (fun h => ?_))
      · simp at h
      · (repeat ((first | refine WV_seq_ ?_ | refine WV_block ?_ | refine WV_ops ?_ | refine WV_skip ?_ | refine WV_exit ?_); (try simp only [go_sem, init_env', Nat.reduceEqDiff, Nat.reduceAdd, Nat.reduceMul, reduceIte, Nat.reduceLeDiff, Nat.reduceLT, Nat.reduceBEq, reduceCtorEq, hP, hw3]); (repeat (refine And.intro (by first | omega | (intros; simp_all; done) | (intros; simp_all; omega)) ?_))))
        refine ⟨w + 1, by omega, by omega, ?_⟩
        (refine Sub_of (by simp only [go_sem, init_env', Nat.reduceEqDiff, Nat.reduceAdd, Nat.reduceMul, reduceIte, Nat.reduceLeDiff, Nat.reduceLT, Nat.reduceBEq, reduceCtorEq]; ((repeat' (first | exact EnvLe_e0 _ _ | refine EnvLe_upd ?_ ?_)) <;> ((try simp only [upd_app, e0_app, o0_app, Nat.reduceEqDiff, reduceIte]); first | exact AWk.refl _ _ | exact AWk.int (by omega) | exact AWk.int (by rw [w64 (by omega) (by omega)]; omega) | exact AWk.grow rfl | exact AWk.nil _ | exact AWk.of (by simp)))) (by simp only [go_sem, init_env', Nat.reduceEqDiff, Nat.reduceAdd, Nat.reduceMul, reduceIte, Nat.reduceLeDiff, Nat.reduceLT, Nat.reduceBEq, reduceCtorEq]; ((repeat' (first | exact ObjLe_o0 _ | exact ObjLe.rfl' _ | refine ObjLe_same ?_ | refine ObjLe_upd ?_ ?_ | refine ObjLe_new rfl ?_)) <;> rfl)))
    · (repeat ((first | refine WV_seq_ ?_ | refine WV_block ?_ | refine WV_ops ?_ | refine WV_skip ?_ | refine WV_exit ?_); (try simp only [go_sem, init_env', Nat.reduceEqDiff, Nat.reduceAdd, Nat.reduceMul, reduceIte, Nat.reduceLeDiff, Nat.reduceLT, Nat.reduceBEq, reduceCtorEq, hP, ]); (repeat (refine And.intro (by first | omega | (intros; simp_all; done) | (intros; simp_all; omega)) ?_))))
      (refine AS_pure (works14) rfl rfl rfl rfl rfl ?_; simp only [go_sem, init_env', Nat.reduceEqDiff, Nat.reduceAdd, Nat.reduceMul, reduceIte, Nat.reduceLeDiff, Nat.reduceLT, Nat.reduceBEq, reduceCtorEq, hP, ]; (repeat (refine And.intro (by first | omega | (intros; simp_all; done) | (intros; simp_all; omega)) ?_)); (repeat ((first | refine WV_seq_ ?_ | refine WV_block ?_ | refine WV_ops ?_ | refine WV_skip ?_ | refine WV_exit ?_); (try simp only [go_sem, init_env', Nat.reduceEqDiff, Nat.reduceAdd, Nat.reduceMul, reduceIte, Nat.reduceLeDiff, Nat.reduceLT, Nat.reduceBEq, reduceCtorEq, hP, ]); (repeat (refine And.intro (by first | omega | (intros; simp_all; done) | (intros; simp_all; omega)) ?_)))))
      (refine WV_ret ?_; simp only [thenQ, inQ, RetQ, RetOk, resAll, resA]; simp only [go_sem, init_env', Nat.reduceEqDiff, Nat.reduceAdd, Nat.reduceMul, reduceIte, Nat.reduceLeDiff, Nat.reduceLT, Nat.reduceBEq, reduceCtorEq, tupA, AV.port, AV.portL, exists_eq_left', ]; (first | exact AVle.of rfl | refine AVle.of ?_ | skip))

def Royal.cutAv (r : Royal) (x : Int × Int × Int) : AV := .agg [iv r.pool, .c (sidesC r.sides), .c (ints r.owed), iv x.1, iv x.2.1, iv x.2.2]

set_option maxRecDepth 20000 in
set_option maxHeartbeats 16000000 in
theorem law10 (r : Royal) (x : Int × Int × Int) : FSpec Try.prog 10 [r.cutAv x] (.c (.bool true)) := by
  obtain ⟨s, off, b⟩ := x
  have hdf : (default : CD) = .int default default := rfl
  have hready := ready13 r
  cases hok : r.ok
  · rw [hok] at hready
    rcases sd_cases r.sides s.toNat with ⟨x, hx⟩ | hx <;>
    · refine FSpec_of c10 (Nat.le_refl _) (by decide) fun C hP hN hC hL => ?_
      simp only [ir10, Royal.cutAv]
      (refine WV_seq_ (WV_ops ?_); simp only [go_sem, init_env', Nat.reduceEqDiff, Nat.reduceAdd, Nat.reduceMul, reduceIte, Nat.reduceLeDiff, Nat.reduceLT, Nat.reduceBEq, reduceCtorEq, hP, ]; (repeat (refine And.intro (by first | omega | (intros; simp_all; done) | (intros; simp_all; omega)) ?_)))
      refine WV_freeze 1 (ds := [.int .i64 r.pool, sidesC r.sides, ints r.owed, .int .i64 s, .int .i64 off, .int .i64 b]) rfl rfl ?_
      simp only [go_sem, init_env', Nat.reduceEqDiff, Nat.reduceAdd, Nat.reduceMul, reduceIte, Nat.reduceLeDiff, Nat.reduceLT, Nat.reduceBEq, reduceCtorEq]
      (repeat ((first | refine WV_seq_ ?_ | refine WV_block ?_ | refine WV_ops ?_ | refine WV_skip ?_ | refine WV_exit ?_); (try simp only [go_sem, init_env', Nat.reduceEqDiff, Nat.reduceAdd, Nat.reduceMul, reduceIte, Nat.reduceLeDiff, Nat.reduceLT, Nat.reduceBEq, reduceCtorEq, hP, sidesC, List.length_map]); (repeat (refine And.intro (by first | omega | (intros; simp_all; done) | (intros; simp_all; omega)) ?_))))
      (repeat ((first | refine WV_seq_ ?_ | refine WV_block ?_ | refine WV_ops ?_ | refine WV_skip ?_ | refine WV_exit ?_); (try simp only [go_sem, init_env', Nat.reduceEqDiff, Nat.reduceAdd, Nat.reduceMul, reduceIte, Nat.reduceLeDiff, Nat.reduceLT, Nat.reduceBEq, reduceCtorEq, hP, ]); (repeat (refine And.intro (by first | omega | (intros; simp_all; done) | (intros; simp_all; omega)) ?_))))
      (refine AS_pure (hready) rfl rfl rfl rfl rfl ?_; simp only [go_sem, init_env', Nat.reduceEqDiff, Nat.reduceAdd, Nat.reduceMul, reduceIte, Nat.reduceLeDiff, Nat.reduceLT, Nat.reduceBEq, reduceCtorEq, hP, Royal.av, sidesC, hx, hdf, List.getD_nil]; (repeat (refine And.intro (by first | omega | (intros; simp_all; done) | (intros; simp_all; omega)) ?_)); (repeat ((first | refine WV_seq_ ?_ | refine WV_block ?_ | refine WV_ops ?_ | refine WV_skip ?_ | refine WV_exit ?_); (try simp only [go_sem, init_env', Nat.reduceEqDiff, Nat.reduceAdd, Nat.reduceMul, reduceIte, Nat.reduceLeDiff, Nat.reduceLT, Nat.reduceBEq, reduceCtorEq, hP, Royal.av, sidesC, hx, hdf, List.getD_nil]); (repeat (refine And.intro (by first | omega | (intros; simp_all; done) | (intros; simp_all; omega)) ?_)))))
      (refine WV_cond rfl (fun h => ?_) (fun h => ?_))
      · (repeat ((first | refine WV_seq_ ?_ | refine WV_block ?_ | refine WV_ops ?_ | refine WV_skip ?_ | refine WV_exit ?_); (try simp only [go_sem, init_env', Nat.reduceEqDiff, Nat.reduceAdd, Nat.reduceMul, reduceIte, Nat.reduceLeDiff, Nat.reduceLT, Nat.reduceBEq, reduceCtorEq, hP, ]); (repeat (refine And.intro (by first | omega | (intros; simp_all; done) | (intros; simp_all; omega)) ?_))))
        (refine AS_pure (works14) rfl rfl rfl rfl rfl ?_; simp only [go_sem, init_env', Nat.reduceEqDiff, Nat.reduceAdd, Nat.reduceMul, reduceIte, Nat.reduceLeDiff, Nat.reduceLT, Nat.reduceBEq, reduceCtorEq, hP, ]; (repeat (refine And.intro (by first | omega | (intros; simp_all; done) | (intros; simp_all; omega)) ?_)); (repeat ((first | refine WV_seq_ ?_ | refine WV_block ?_ | refine WV_ops ?_ | refine WV_skip ?_ | refine WV_exit ?_); (try simp only [go_sem, init_env', Nat.reduceEqDiff, Nat.reduceAdd, Nat.reduceMul, reduceIte, Nat.reduceLeDiff, Nat.reduceLT, Nat.reduceBEq, reduceCtorEq, hP, ]); (repeat (refine And.intro (by first | omega | (intros; simp_all; done) | (intros; simp_all; omega)) ?_)))))
        (refine WV_ret ?_; simp only [thenQ, inQ, RetQ, RetOk, resAll, resA]; simp only [go_sem, init_env', Nat.reduceEqDiff, Nat.reduceAdd, Nat.reduceMul, reduceIte, Nat.reduceLeDiff, Nat.reduceLT, Nat.reduceBEq, reduceCtorEq, tupA, AV.port, AV.portL, exists_eq_left', ]; (first | exact AVle.of rfl | refine AVle.of ?_ | skip))
      · simp at h
  rw [hok] at hready
  have hr := Royal.ok_spec hok
  have hs6 := hr.s6
  have hnear := near_of (Royal.near hr)
  by_cases hs : 0 ≤ s ∧ s < (r.sides.length : Int) ∧ r.sides.length < 6
  rotate_left
  · have hb : ((decide (6 ≤ (r.sides.length : Int)) || decide (s < 0)) || decide ((r.sides.length : Int) ≤ s)) = true := by simp; omega
    rcases sd_cases r.sides s.toNat with ⟨x, hx⟩ | hx <;>
    · refine FSpec_of c10 (Nat.le_refl _) (by decide) fun C hP hN hC hL => ?_
      simp only [ir10, Royal.cutAv]
      (refine WV_seq_ (WV_ops ?_); simp only [go_sem, init_env', Nat.reduceEqDiff, Nat.reduceAdd, Nat.reduceMul, reduceIte, Nat.reduceLeDiff, Nat.reduceLT, Nat.reduceBEq, reduceCtorEq, hP, ]; (repeat (refine And.intro (by first | omega | (intros; simp_all; done) | (intros; simp_all; omega)) ?_)))
      refine WV_freeze 1 (ds := [.int .i64 r.pool, sidesC r.sides, ints r.owed, .int .i64 s, .int .i64 off, .int .i64 b]) rfl rfl ?_
      simp only [go_sem, init_env', Nat.reduceEqDiff, Nat.reduceAdd, Nat.reduceMul, reduceIte, Nat.reduceLeDiff, Nat.reduceLT, Nat.reduceBEq, reduceCtorEq]
      (repeat ((first | refine WV_seq_ ?_ | refine WV_block ?_ | refine WV_ops ?_ | refine WV_skip ?_ | refine WV_exit ?_); (try simp only [go_sem, init_env', Nat.reduceEqDiff, Nat.reduceAdd, Nat.reduceMul, reduceIte, Nat.reduceLeDiff, Nat.reduceLT, Nat.reduceBEq, reduceCtorEq, hP, sidesC, List.length_map]); (repeat (refine And.intro (by first | omega | (intros; simp_all; done) | (intros; simp_all; omega)) ?_))))
      (repeat ((first | refine WV_seq_ ?_ | refine WV_block ?_ | refine WV_ops ?_ | refine WV_skip ?_ | refine WV_exit ?_); (try simp only [go_sem, init_env', Nat.reduceEqDiff, Nat.reduceAdd, Nat.reduceMul, reduceIte, Nat.reduceLeDiff, Nat.reduceLT, Nat.reduceBEq, reduceCtorEq, hP, sidesC, List.length_map]); (repeat (refine And.intro (by first | omega | (intros; simp_all; done) | (intros; simp_all; omega)) ?_))))
      (refine AS_pure (hready) rfl rfl rfl rfl rfl ?_; simp only [go_sem, init_env', Nat.reduceEqDiff, Nat.reduceAdd, Nat.reduceMul, reduceIte, Nat.reduceLeDiff, Nat.reduceLT, Nat.reduceBEq, reduceCtorEq, hP, Royal.av, sidesC, List.length_map, hb, hx, hdf, List.getD_nil]; (repeat (refine And.intro (by first | omega | (intros; simp_all; done) | (intros; simp_all; omega)) ?_)); (repeat ((first | refine WV_seq_ ?_ | refine WV_block ?_ | refine WV_ops ?_ | refine WV_skip ?_ | refine WV_exit ?_); (try simp only [go_sem, init_env', Nat.reduceEqDiff, Nat.reduceAdd, Nat.reduceMul, reduceIte, Nat.reduceLeDiff, Nat.reduceLT, Nat.reduceBEq, reduceCtorEq, hP, Royal.av, sidesC, List.length_map, hb, hx, hdf, List.getD_nil]); (repeat (refine And.intro (by first | omega | (intros; simp_all; done) | (intros; simp_all; omega)) ?_)))))
      (refine WV_cond rfl (fun h => ?_) (fun h => ?_))
      · (repeat ((first | refine WV_seq_ ?_ | refine WV_block ?_ | refine WV_ops ?_ | refine WV_skip ?_ | refine WV_exit ?_); (try simp only [go_sem, init_env', Nat.reduceEqDiff, Nat.reduceAdd, Nat.reduceMul, reduceIte, Nat.reduceLeDiff, Nat.reduceLT, Nat.reduceBEq, reduceCtorEq, hP, ]); (repeat (refine And.intro (by first | omega | (intros; simp_all; done) | (intros; simp_all; omega)) ?_))))
        (refine AS_pure (works14) rfl rfl rfl rfl rfl ?_; simp only [go_sem, init_env', Nat.reduceEqDiff, Nat.reduceAdd, Nat.reduceMul, reduceIte, Nat.reduceLeDiff, Nat.reduceLT, Nat.reduceBEq, reduceCtorEq, hP, ]; (repeat (refine And.intro (by first | omega | (intros; simp_all; done) | (intros; simp_all; omega)) ?_)); (repeat ((first | refine WV_seq_ ?_ | refine WV_block ?_ | refine WV_ops ?_ | refine WV_skip ?_ | refine WV_exit ?_); (try simp only [go_sem, init_env', Nat.reduceEqDiff, Nat.reduceAdd, Nat.reduceMul, reduceIte, Nat.reduceLeDiff, Nat.reduceLT, Nat.reduceBEq, reduceCtorEq, hP, ]); (repeat (refine And.intro (by first | omega | (intros; simp_all; done) | (intros; simp_all; omega)) ?_)))))
        (refine WV_ret ?_; simp only [thenQ, inQ, RetQ, RetOk, resAll, resA]; simp only [go_sem, init_env', Nat.reduceEqDiff, Nat.reduceAdd, Nat.reduceMul, reduceIte, Nat.reduceLeDiff, Nat.reduceLT, Nat.reduceBEq, reduceCtorEq, tupA, AV.port, AV.portL, exists_eq_left', ]; (first | exact AVle.of rfl | refine AVle.of ?_ | skip))
      · simp at h
  obtain ⟨k, rfl⟩ := Int.eq_ofNat_of_zero_le hs.1
  have hk : k < r.sides.length := by omega
  have b1 : decide ((k : Int) < 0) = false := by simp
  have b2 : decide ((r.sides.length : Int) ≤ (k : Int)) = false := by simp; omega
  have b0 : decide (6 ≤ (r.sides.length : Int)) = false := by simp; omega
  have hI : (k : Int) < (r.sides.length : Int) := by omega
  have egd : (r.sides.map Side.cds).getD k [] = r.sides[k].cds := map_getD hk
  by_cases hgo : 0 ≤ off ∧ off ≤ r.sides[k].plays ∧ 0 ≤ b ∧ b ≤ 100
  rotate_left
  · have hb : (((decide (off < 0) || decide (r.sides[k].plays < off)) || decide (b < 0)) || decide (100 < b)) = true := by
      simp; omega
    refine FSpec_of c10 (Nat.le_refl _) (by decide) fun C hP hN hC hL => ?_
    simp only [ir10, Royal.cutAv]
    (refine WV_seq_ (WV_ops ?_); simp only [go_sem, init_env', Nat.reduceEqDiff, Nat.reduceAdd, Nat.reduceMul, reduceIte, Nat.reduceLeDiff, Nat.reduceLT, Nat.reduceBEq, reduceCtorEq, hP, ]; (repeat (refine And.intro (by first | omega | (intros; simp_all; done) | (intros; simp_all; omega)) ?_)))
    refine WV_freeze 1 (ds := [.int .i64 r.pool, sidesC r.sides, ints r.owed, .int .i64 k, .int .i64 off, .int .i64 b]) rfl rfl ?_
    simp only [go_sem, init_env', Nat.reduceEqDiff, Nat.reduceAdd, Nat.reduceMul, reduceIte, Nat.reduceLeDiff, Nat.reduceLT, Nat.reduceBEq, reduceCtorEq]
    (repeat ((first | refine WV_seq_ ?_ | refine WV_block ?_ | refine WV_ops ?_ | refine WV_skip ?_ | refine WV_exit ?_); (try simp only [go_sem, init_env', Nat.reduceEqDiff, Nat.reduceAdd, Nat.reduceMul, reduceIte, Nat.reduceLeDiff, Nat.reduceLT, Nat.reduceBEq, reduceCtorEq, hP, sidesC, List.length_map]); (repeat (refine And.intro (by first | omega | (intros; simp_all; done) | (intros; simp_all; omega)) ?_))))
    (repeat ((first | refine WV_seq_ ?_ | refine WV_block ?_ | refine WV_ops ?_ | refine WV_skip ?_ | refine WV_exit ?_); (try simp only [go_sem, init_env', Nat.reduceEqDiff, Nat.reduceAdd, Nat.reduceMul, reduceIte, Nat.reduceLeDiff, Nat.reduceLT, Nat.reduceBEq, reduceCtorEq, hP, sidesC, List.length_map]); (repeat (refine And.intro (by first | omega | (intros; simp_all; done) | (intros; simp_all; omega)) ?_))))
    (refine AS_pure (hready) rfl rfl rfl rfl rfl ?_; simp only [go_sem, init_env', Nat.reduceEqDiff, Nat.reduceAdd, Nat.reduceMul, reduceIte, Nat.reduceLeDiff, Nat.reduceLT, Nat.reduceBEq, reduceCtorEq, hP, Royal.av, sidesC, List.length_map, b0, b1, b2, hI, egd, Side.cds, partsC, Int.natCast_nonneg, hb]; (repeat (refine And.intro (by first | omega | (intros; simp_all; done) | (intros; simp_all; omega)) ?_)); (repeat ((first | refine WV_seq_ ?_ | refine WV_block ?_ | refine WV_ops ?_ | refine WV_skip ?_ | refine WV_exit ?_); (try simp only [go_sem, init_env', Nat.reduceEqDiff, Nat.reduceAdd, Nat.reduceMul, reduceIte, Nat.reduceLeDiff, Nat.reduceLT, Nat.reduceBEq, reduceCtorEq, hP, Royal.av, sidesC, List.length_map, b0, b1, b2, hI, egd, Side.cds, partsC, Int.natCast_nonneg, hb]); (repeat (refine And.intro (by first | omega | (intros; simp_all; done) | (intros; simp_all; omega)) ?_)))))
    (refine WV_cond rfl (fun h => ?_) (fun h => ?_))
    · (repeat ((first | refine WV_seq_ ?_ | refine WV_block ?_ | refine WV_ops ?_ | refine WV_skip ?_ | refine WV_exit ?_); (try simp only [go_sem, init_env', Nat.reduceEqDiff, Nat.reduceAdd, Nat.reduceMul, reduceIte, Nat.reduceLeDiff, Nat.reduceLT, Nat.reduceBEq, reduceCtorEq, hP, ]); (repeat (refine And.intro (by first | omega | (intros; simp_all; done) | (intros; simp_all; omega)) ?_))))
      (refine AS_pure (works14) rfl rfl rfl rfl rfl ?_; simp only [go_sem, init_env', Nat.reduceEqDiff, Nat.reduceAdd, Nat.reduceMul, reduceIte, Nat.reduceLeDiff, Nat.reduceLT, Nat.reduceBEq, reduceCtorEq, hP, ]; (repeat (refine And.intro (by first | omega | (intros; simp_all; done) | (intros; simp_all; omega)) ?_)); (repeat ((first | refine WV_seq_ ?_ | refine WV_block ?_ | refine WV_ops ?_ | refine WV_skip ?_ | refine WV_exit ?_); (try simp only [go_sem, init_env', Nat.reduceEqDiff, Nat.reduceAdd, Nat.reduceMul, reduceIte, Nat.reduceLeDiff, Nat.reduceLT, Nat.reduceBEq, reduceCtorEq, hP, ]); (repeat (refine And.intro (by first | omega | (intros; simp_all; done) | (intros; simp_all; omega)) ?_)))))
      (refine WV_ret ?_; simp only [thenQ, inQ, RetQ, RetOk, resAll, resA]; simp only [go_sem, init_env', Nat.reduceEqDiff, Nat.reduceAdd, Nat.reduceMul, reduceIte, Nat.reduceLeDiff, Nat.reduceLT, Nat.reduceBEq, reduceCtorEq, tupA, AV.port, AV.portL, exists_eq_left', ]; (first | exact AVle.of rfl | refine AVle.of ?_ | skip))
    · simp at h
  obtain ⟨g1, g2, g3, g4⟩ := hgo
  obtain ⟨by_, rfl⟩ := Int.eq_ofNat_of_zero_le g3
  have b3 : decide (off < 0) = false := by simp; omega
  have b4 : decide (r.sides[k].plays < off) = false := by simp; omega
  have b5 : decide ((by_ : Int) < 0) = false := by simp
  have b6 : decide (100 < (by_ : Int)) = false := by simp; omega
  have hne : r.sides ≠ [] := fun h => by rw [h] at hk; cases hk
  have hrot : by_ % r.sides.length < r.sides.length := Nat.mod_lt _ (by omega)
  have hrl := rot_len r.sides (by_ % r.sides.length)
  refine FSpec_of c10 (Nat.le_refl _) (by decide) fun C hP hN hC hL => ?_
  have ht := tail10 hP hok hk hs.2.2 ⟨g1, g2⟩ (by_ % r.sides.length)
  simp only [ir10, Royal.cutAv]
  (refine WV_seq_ (WV_ops ?_); simp only [go_sem, init_env', Nat.reduceEqDiff, Nat.reduceAdd, Nat.reduceMul, reduceIte, Nat.reduceLeDiff, Nat.reduceLT, Nat.reduceBEq, reduceCtorEq, hP, ]; (repeat (refine And.intro (by first | omega | (intros; simp_all; done) | (intros; simp_all; omega)) ?_)))
  refine WV_freeze 1 (ds := [.int .i64 r.pool, sidesC r.sides, ints r.owed, .int .i64 k, .int .i64 off, .int .i64 by_]) rfl rfl ?_
  simp only [go_sem, init_env', Nat.reduceEqDiff, Nat.reduceAdd, Nat.reduceMul, reduceIte, Nat.reduceLeDiff, Nat.reduceLT, Nat.reduceBEq, reduceCtorEq]
  (repeat ((first | refine WV_seq_ ?_ | refine WV_block ?_ | refine WV_ops ?_ | refine WV_skip ?_ | refine WV_exit ?_); (try simp only [go_sem, init_env', Nat.reduceEqDiff, Nat.reduceAdd, Nat.reduceMul, reduceIte, Nat.reduceLeDiff, Nat.reduceLT, Nat.reduceBEq, reduceCtorEq, hP, sidesC, List.length_map]); (repeat (refine And.intro (by first | omega | (intros; simp_all; done) | (intros; simp_all; omega)) ?_))))
  (repeat ((first | refine WV_seq_ ?_ | refine WV_block ?_ | refine WV_ops ?_ | refine WV_skip ?_ | refine WV_exit ?_); (try simp only [go_sem, init_env', Nat.reduceEqDiff, Nat.reduceAdd, Nat.reduceMul, reduceIte, Nat.reduceLeDiff, Nat.reduceLT, Nat.reduceBEq, reduceCtorEq, hP, sidesC, List.length_map]); (repeat (refine And.intro (by first | omega | (intros; simp_all; done) | (intros; simp_all; omega)) ?_))))
  (refine AS_pure (hready) rfl rfl rfl rfl rfl ?_; simp only [go_sem, init_env', Nat.reduceEqDiff, Nat.reduceAdd, Nat.reduceMul, reduceIte, Nat.reduceLeDiff, Nat.reduceLT, Nat.reduceBEq, reduceCtorEq, hP, Royal.av, sidesC, List.length_map, b0, b1, b2, b3, b4, b5, b6, hI, egd, Side.cds, partsC, Int.natCast_nonneg]; (repeat (refine And.intro (by first | omega | (intros; simp_all; done) | (intros; simp_all; omega)) ?_)); (repeat ((first | refine WV_seq_ ?_ | refine WV_block ?_ | refine WV_ops ?_ | refine WV_skip ?_ | refine WV_exit ?_); (try simp only [go_sem, init_env', Nat.reduceEqDiff, Nat.reduceAdd, Nat.reduceMul, reduceIte, Nat.reduceLeDiff, Nat.reduceLT, Nat.reduceBEq, reduceCtorEq, hP, Royal.av, sidesC, List.length_map, b0, b1, b2, b3, b4, b5, b6, hI, egd, Side.cds, partsC, Int.natCast_nonneg]); (repeat (refine And.intro (by first | omega | (intros; simp_all; done) | (intros; simp_all; omega)) ?_)))))
  (refine WV_cond rfl (fun h => ?_) (fun h => ?_))
  · simp at h
  clear h
  (repeat ((first | refine WV_seq_ ?_ | refine WV_block ?_ | refine WV_ops ?_ | refine WV_skip ?_ | refine WV_exit ?_); (try simp only [go_sem, init_env', Nat.reduceEqDiff, Nat.reduceAdd, Nat.reduceMul, reduceIte, Nat.reduceLeDiff, Nat.reduceLT, Nat.reduceBEq, reduceCtorEq, hP, ]); (repeat (refine And.intro (by first | omega | (intros; simp_all; done) | (intros; simp_all; omega)) ?_))))
  refine AS_new (copyN r hnear hne) rfl rfl rfl rfl ?_
  rintro res os ⟨cap, J, h1, h2, h3, rfl, rfl⟩
  refine ⟨[900], .agg [iv r.pool, .vw 2 900 0 r.sides.length cap, .c (ints r.owed)], [.box (cellsG Side.cds r.sides J)], by decide, rfl, by simp only [go_sem, init_env', Nat.reduceEqDiff, Nat.reduceAdd, Nat.reduceMul, reduceIte, Nat.reduceLeDiff, Nat.reduceLT, Nat.reduceBEq, reduceCtorEq, decide_true], rfl, ?_, ?_⟩
  · simp only [obsBack, Ob.back, back_cellsG]; rfl
  simp only [go_sem, init_env', Nat.reduceEqDiff, Nat.reduceAdd, Nat.reduceMul, reduceIte, Nat.reduceLeDiff, Nat.reduceLT, Nat.reduceBEq, reduceCtorEq, hP, ownBack]
  (repeat (refine And.intro (by first | omega | (intros; simp_all; done) | (intros; simp_all; omega)) ?_))
  (repeat ((first | refine WV_seq_ ?_ | refine WV_block ?_ | refine WV_ops ?_ | refine WV_skip ?_ | refine WV_exit ?_); (try simp only [go_sem, init_env', Nat.reduceEqDiff, Nat.reduceAdd, Nat.reduceMul, reduceIte, Nat.reduceLeDiff, Nat.reduceLT, Nat.reduceBEq, reduceCtorEq, hP, ]); (repeat (refine And.intro (by first | omega | (intros; simp_all; done) | (intros; simp_all; omega)) ?_))))
  generalize hR : rotL r.sides (by_ % r.sides.length) = R at *
  refine WV_loopK K10_1 [3, 8, 900] (fun i : Nat => i ≤ r.sides.length) (fun i => r.sides.length - i) (fun i => [(9, iv i)]) (fun i => [(3, .box [iv r.pool, .c (sidesC r.sides), .c (ints r.owed)]), (8, .box [iv r.pool, .vw 2 900 0 r.sides.length cap, .c (ints r.owed)]), (900, .box (cellsG Side.cds (mixK R r.sides i) J))]) 0 (Nat.zero_le _) ?_ ?_
  · rw [mixK_zero]
    (refine Sub_of (by simp only [go_sem, init_env', Nat.reduceEqDiff, Nat.reduceAdd, Nat.reduceMul, reduceIte, Nat.reduceLeDiff, Nat.reduceLT, Nat.reduceBEq, reduceCtorEq]; ((repeat' (first | exact EnvLe_e0 _ _ | refine EnvLe_upd ?_ ?_)) <;> ((try simp only [upd_app, e0_app, o0_app, Nat.reduceEqDiff, reduceIte]); first | exact AWk.refl _ _ | exact AWk.int (by omega) | exact AWk.int (by rw [w64 (by omega) (by omega)]; omega) | exact AWk.grow rfl | exact AWk.nil _ | exact AWk.of (by simp)))) (by simp only [go_sem, init_env', Nat.reduceEqDiff, Nat.reduceAdd, Nat.reduceMul, reduceIte, Nat.reduceLeDiff, Nat.reduceLT, Nat.reduceBEq, reduceCtorEq]; ((repeat' (first | exact ObjLe_o0 _ | exact ObjLe.rfl' _ | refine ObjLe_same ?_ | refine ObjLe_upd ?_ ?_ | refine ObjLe_new rfl ?_)) <;> rfl)))
  · intro i hi
    simp only [go_sem, init_env', Nat.reduceEqDiff, Nat.reduceAdd, Nat.reduceMul, reduceIte, Nat.reduceLeDiff, Nat.reduceLT, Nat.reduceBEq, reduceCtorEq]
    (repeat ((first | refine WV_seq_ ?_ | refine WV_block ?_ | refine WV_ops ?_ | refine WV_skip ?_ | refine WV_exit ?_); (try simp only [go_sem, init_env', Nat.reduceEqDiff, Nat.reduceAdd, Nat.reduceMul, reduceIte, Nat.reduceLeDiff, Nat.reduceLT, Nat.reduceBEq, reduceCtorEq, hP, ]); (repeat (refine And.intro (by first | omega | (intros; simp_all; done) | (intros; simp_all; omega)) ?_))))
    (refine WV_cond rfl (fun h => ?_) (fun h => ?_))
    · have hil : i < r.sides.length := by simpa using h
      have hI2 : (i : Int) < (r.sides.length : Int) := by omega
      have hml := mixK_len hrl (show i ≤ r.sides.length by omega)
      have hw1 := w64 (n := (i : Int) + (by_ : Int)) (by omega) (by omega)
      have hw2 := w64 (n := (i : Int) + 1) (by omega) (by omega)
      have hmn : (i + by_) % r.sides.length < r.sides.length := Nat.mod_lt _ (by omega)
      have em : ((i : Int) + (by_ : Int)).tmod (r.sides.length : Int) = (((i + by_) % r.sides.length : Nat) : Int) := by
        rw [Int.tmod_eq_emod_of_nonneg (by omega), Int.natCast_emod, Int.natCast_add]
      have hw3 := w64 (n := (((i + by_) % r.sides.length : Nat) : Int)) (by omega) (by omega)
      have hI3 : (((i + by_) % r.sides.length : Nat) : Int) < (r.sides.length : Int) := by omega
      have hrg := rot_get hrot hil
      rw [hR, Nat.add_mod_mod, List.getElem?_eq_getElem hmn] at hrg
      have hset := mixK_set hrl hil hrg
      have egd2 : (r.sides.map Side.cds).getD ((i + by_) % r.sides.length) [] = [.int .i64 (r.sides[(i + by_) % r.sides.length]).plays, .sl 2 ((r.sides[(i + by_) % r.sides.length]).parts.map Part.cds)] := map_getD hmn
      have hp2 := put2r (show i < (mixK R r.sides i).length by omega) J r.sides[(i + by_) % r.sides.length]
      rw [hset] at hp2
      have hcl : i * 2 + 2 ≤ (cellsG Side.cds (mixK R r.sides i) J).length := by rw [cellsG_len side_two, hml]; omega
      generalize r.sides[(i + by_) % r.sides.length] = X at *
      generalize (i + by_) % r.sides.length = M at *
      (repeat ((first | refine WV_seq_ ?_ | refine WV_block ?_ | refine WV_ops ?_ | refine WV_skip ?_ | refine WV_exit ?_); (try simp only [go_sem, init_env', Nat.reduceEqDiff, Nat.reduceAdd, Nat.reduceMul, reduceIte, Nat.reduceLeDiff, Nat.reduceLT, Nat.reduceBEq, reduceCtorEq, hP, sidesC, List.length_map, hw1, em, hw2, hw3, hI2, hI3, egd2, hp2, hcl, Int.natCast_nonneg]); (repeat (refine And.intro (by first | omega | (intros; simp_all; done) | (intros; simp_all; omega)) ?_))))
      refine ⟨i + 1, by omega, by omega, ?_⟩
      (refine Sub_of (by simp only [go_sem, init_env', Nat.reduceEqDiff, Nat.reduceAdd, Nat.reduceMul, reduceIte, Nat.reduceLeDiff, Nat.reduceLT, Nat.reduceBEq, reduceCtorEq]; ((repeat' (first | exact EnvLe_e0 _ _ | refine EnvLe_upd ?_ ?_)) <;> ((try simp only [upd_app, e0_app, o0_app, Nat.reduceEqDiff, reduceIte]); first | exact AWk.refl _ _ | exact AWk.int (by omega) | exact AWk.int (by rw [w64 (by omega) (by omega)]; omega) | exact AWk.grow rfl | exact AWk.nil _ | exact AWk.of (by simp)))) (by simp only [go_sem, init_env', Nat.reduceEqDiff, Nat.reduceAdd, Nat.reduceMul, reduceIte, Nat.reduceLeDiff, Nat.reduceLT, Nat.reduceBEq, reduceCtorEq]; ((repeat' (first | exact ObjLe_o0 _ | exact ObjLe.rfl' _ | refine ObjLe_same ?_ | refine ObjLe_upd ?_ ?_ | refine ObjLe_new rfl ?_)) <;> rfl)))
    · have h : i = r.sides.length := by simp at h; omega
      subst h
      rw [mixK_all hrl]
      (refine WV_exit ?_; simp only [go_sem, init_env', Nat.reduceEqDiff, Nat.reduceAdd, Nat.reduceMul, reduceIte, Nat.reduceLeDiff, Nat.reduceLT, Nat.reduceBEq, reduceCtorEq])
      have hgr := sides_grp R
      have hfl := sides_fit R
      rw [hrl] at hgr hfl
      refine WV_freezeJ 900 (ds := flatG Side.cds R) (junk := List.replicate J .non) rfl ?_
      simp only [go_sem, init_env', Nat.reduceEqDiff, Nat.reduceAdd, Nat.reduceMul, reduceIte, Nat.reduceLeDiff, Nat.reduceLT, Nat.reduceBEq, reduceCtorEq, hfl, hgr]
      refine WV_seq_ (WV_ops ?_)
      simp only [go_sem, init_env', Nat.reduceEqDiff, Nat.reduceAdd, Nat.reduceMul, reduceIte, Nat.reduceLeDiff, Nat.reduceLT, Nat.reduceBEq, reduceCtorEq, hP]
      refine AS_new (copyN r hnear hne) rfl rfl rfl rfl ?_
      rintro res os ⟨cap2, J2, k1, k2, k3, rfl, rfl⟩
      refine ⟨[901], .agg [iv r.pool, .vw 2 901 0 r.sides.length cap2, .c (ints r.owed)], [.box (cellsG Side.cds r.sides J2)], by decide, rfl, by simp only [go_sem, init_env', Nat.reduceEqDiff, Nat.reduceAdd, Nat.reduceMul, reduceIte, Nat.reduceLeDiff, Nat.reduceLT, Nat.reduceBEq, reduceCtorEq, decide_true], rfl, ?_, ?_⟩
      · simp only [obsBack, Ob.back, back_cellsG]; rfl
      simp only [go_sem, init_env', Nat.reduceEqDiff, Nat.reduceAdd, Nat.reduceMul, reduceIte, Nat.reduceLeDiff, Nat.reduceLT, Nat.reduceBEq, reduceCtorEq, hP, ownBack]
      (repeat (refine And.intro (by first | omega | (intros; simp_all; done) | (intros; simp_all; omega)) ?_))
      have hp9 := hr.plays _ (List.getElem_mem hk)
      have hw3 := w64 (n := r.sides[k].plays - off) (by omega) (by omega)
      have hg0 : ∀ x, (cellsG Side.cds r.sides J2).getD (k * 2) x = .c (.int .i64 r.sides[k].plays) := fun x => by
        have := cellsG_get side_two hk J2 0 (d := .int .i64 r.sides[k].plays) rfl x
        rwa [Nat.add_zero] at this
      have hs0 : (cellsG Side.cds r.sides J2).set (k * 2) (.c (.int .i64 (r.sides[k].plays - off))) = cellsG Side.cds (r.sides.modify k (moreSd (-off))) J2 := by
        have := cellsG_set side_two hk J2 0 (by decide) (.int .i64 (r.sides[k].plays - off)) (moreSd (-off) r.sides[k]) (by rw [show r.sides[k].plays - off = r.sides[k].plays + -off by omega]; rfl)
        rwa [Nat.add_zero, ← modify_set] at this
      have hcl : k * 2 < (cellsG Side.cds r.sides J2).length := by rw [cellsG_len side_two]; omega
      have hcl2 : k * 2 + 1 ≤ (cellsG Side.cds r.sides J2).length := hcl
      have hcS : (cutR r k off hk).sides = r.sides.modify k (moreSd (-off)) ++ [⟨off, r.sides[k].parts⟩] := rfl
      rw [hcS] at ht
      (refine WV_seq_ (WV_ops ?_); simp only [go_sem, init_env', Nat.reduceEqDiff, Nat.reduceAdd, Nat.reduceMul, reduceIte, Nat.reduceLeDiff, Nat.reduceLT, Nat.reduceBEq, reduceCtorEq, hP, Int.natCast_nonneg, hI, hg0, hs0, hw3, hcl, hcl2]; (repeat (refine And.intro (by first | omega | (intros; simp_all; done) | (intros; simp_all; omega)) ?_)))
      have hSl : (r.sides.modify k (moreSd (-off))).length = r.sides.length := by simp
      generalize r.sides.modify k (moreSd (-off)) = S9 at *
      have hcap : (cap2 * 2 ≤ (cellsG Side.cds S9 J2).length) = True := by rw [cellsG_len side_two]; simp; omega
      have hct : (cellsG Side.cds S9 J2).take (r.sides.length * 2) = cellsG Side.cds S9 0 := by
        have := cellsG_take side_two S9 J2
        rwa [hSl] at this
      have hpt : (r.sides.map Side.cds).getD k [] = [.int .i64 r.sides[k].plays, .sl 2 (r.sides[k].parts.map Part.cds)] := map_getD hk
      generalize r.sides[k].parts = Ps at *
      generalize r.sides[k].plays = Pl at *
      refine WV_seq_ (WV_ops ?_)
      simp only [go_sem, init_env', Nat.reduceEqDiff, Nat.reduceAdd, Nat.reduceMul, reduceIte, Nat.reduceLeDiff, Nat.reduceLT, Nat.reduceBEq, reduceCtorEq, hP, sidesC, hpt, hI, Int.natCast_nonneg, hcap, hct, List.nil_append]
      have hmax : maxLen = 9223372036854775807 := rfl
      refine ⟨by omega, by omega, fun cap3 j3 q1 q2 q3 => ?_⟩
      have ecell : cellsG Side.cds S9 0 ++ List.map AV.c [[CD.int .i64 off, CD.sl 2 (Ps.map Part.cds)]].flatten ++ List.replicate j3 .non = cellsG Side.cds (S9 ++ [⟨off, Ps⟩]) j3 := by
        rw [← cellsG_snoc]; rfl
      rw [ecell]
      simp only [go_sem, init_env', Nat.reduceEqDiff, Nat.reduceAdd, Nat.reduceMul, reduceIte, Nat.reduceLeDiff, Nat.reduceLT, Nat.reduceBEq, reduceCtorEq]
      have hS2 : (S9 ++ [(⟨off, Ps⟩ : Side)]).length = r.sides.length + 1 := by rw [List.length_append, hSl]; rfl
      generalize S9 ++ [(⟨off, Ps⟩ : Side)] = S8 at *
      have hgr2 := sides_grp S8
      have hfl2 := sides_fit S8
      rw [hS2] at hgr2 hfl2
      refine WV_freezeJ 123 (ds := flatG Side.cds S8) (junk := List.replicate j3 .non) rfl ?_
      simp only [go_sem, init_env', Nat.reduceEqDiff, Nat.reduceAdd, Nat.reduceMul, reduceIte, Nat.reduceLeDiff, Nat.reduceLT, Nat.reduceBEq, reduceCtorEq, hfl2, hgr2]
      exact WV_sub (Sub_of (by simp only [go_sem, init_env', Nat.reduceEqDiff, Nat.reduceAdd, Nat.reduceMul, reduceIte, Nat.reduceLeDiff, Nat.reduceLT, Nat.reduceBEq, reduceCtorEq]; ((repeat' (first | exact EnvLe_e0 _ _ | refine EnvLe_upd ?_ ?_)) <;> ((try simp only [upd_app, e0_app, o0_app, Nat.reduceEqDiff, reduceIte]); first | exact AWk.refl _ _ | exact AWk.int (by omega) | exact AWk.int (by rw [w64 (by omega) (by omega)]; omega) | exact AWk.grow rfl | exact AWk.nil _ | exact AWk.of (by simp)))) (by simp only [go_sem, init_env', Nat.reduceEqDiff, Nat.reduceAdd, Nat.reduceMul, reduceIte, Nat.reduceLeDiff, Nat.reduceLT, Nat.reduceBEq, reduceCtorEq]; ((repeat' (first | exact ObjLe_o0 _ | exact ObjLe.rfl' _ | refine ObjLe_same ?_ | refine ObjLe_upd ?_ ?_ | refine ObjLe_new rfl ?_)) <;> rfl))) ht
end Go.Proofs.Ytnmchaemhjnkgaa
