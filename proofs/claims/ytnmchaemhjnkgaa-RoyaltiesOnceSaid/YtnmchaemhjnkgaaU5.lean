/-
  Contracts of the layer's functions, of the laws' helpers and of the law; conditions: as each theorem states.
-/
import Derived.Test.YtnmchaemhjnkgaaU4
set_option linter.unusedVariables false
set_option linter.unusedSimpArgs false
namespace Go.Proofs.Ytnmchaemhjnkgaa
open Go Go.V
@[reducible] def o18_0 : List Ins := [⟨(some 2), .box 3 (.t 0), none, true⟩,
  ⟨(some 4), .mv (.k (.c (.int .i64 0))), none, true⟩,
  ⟨(some 5), .mv (.k (.c (.int .i64 0))), none, true⟩]
@[reducible] def o18_1 : List Ins := [⟨(some 6), .mv (.k (.c (.int .i64 0))), none, true⟩]
@[reducible] def o18_2 : List Ins := [⟨(some 9), .mv (.t 6), none, true⟩,
  ⟨(some 10), .fa 1 (.t 2), none, true⟩,
  ⟨(some 11), .ld true 1 (.t 10), none, true⟩,
  ⟨(some 12), .len (.t 11), none, true⟩,
  ⟨(some 13), .bin .lss (.t 9) (.t 12), none, true⟩]
@[reducible] def v18_3 : VC := (.cond (.t 13) .skip (.exit 0))
@[reducible] def o18_4 : List Ins := [⟨(some 16), .fa 1 (.t 2), none, true⟩,
  ⟨(some 17), .ld true 1 (.t 16), none, true⟩,
  ⟨(some 18), .mv (.t 6), none, true⟩,
  ⟨(some 19), .ia 2 (.t 17) (.t 18), none, true⟩,
  ⟨(some 20), .ld false 2 (.t 19), none, true⟩,
  ⟨(some 7), .alloc [(.c (.int .i64 0)), (.c (.raw (.slice none 0 0)))], none, true⟩,
  ⟨none, .st 2 (.t 7) (.t 20), none, true⟩]
@[reducible] def o18_5 : List Ins := [⟨(some 8), .mv (.k (.c (.int .i64 0))), none, true⟩]
@[reducible] def o18_6 : List Ins := [⟨(some 21), .mv (.t 8), none, true⟩,
  ⟨(some 22), .fa 1 (.t 7), none, true⟩,
  ⟨(some 23), .ld true 1 (.t 22), none, true⟩,
  ⟨(some 24), .len (.t 23), none, true⟩,
  ⟨(some 25), .bin .lss (.t 21) (.t 24), none, true⟩]
@[reducible] def v18_7 : VC := (.cond (.t 25) .skip (.exit 2))
@[reducible] def o18_8 : List Ins := [⟨(some 28), .fa 1 (.t 7), none, true⟩,
  ⟨(some 29), .ld true 1 (.t 28), none, true⟩,
  ⟨(some 30), .mv (.t 8), none, true⟩,
  ⟨(some 31), .ia 2 (.t 29) (.t 30), none, true⟩,
  ⟨(some 32), .fa 0 (.t 31), none, true⟩,
  ⟨(some 33), .ld true 1 (.t 32), none, true⟩,
  ⟨(some 34), .mv (.t 1), none, true⟩,
  ⟨(some 35), .bin .eql (.t 33) (.t 34), none, true⟩]
@[reducible] def o18_9 : List Ins := [⟨(some 36), .mv (.t 4), none, false⟩,
  ⟨(some 37), .fa 0 (.t 2), none, false⟩,
  ⟨(some 38), .ld true 1 (.t 37), none, false⟩,
  ⟨(some 39), .fa 0 (.t 7), none, false⟩,
  ⟨(some 40), .ld true 1 (.t 39), none, false⟩,
  ⟨(some 41), .bin .mul (.t 38) (.t 40), none, false⟩,
  ⟨(some 42), .fa 1 (.t 7), none, false⟩,
  ⟨(some 43), .ld true 1 (.t 42), none, false⟩,
  ⟨(some 44), .mv (.t 8), none, false⟩,
  ⟨(some 45), .ia 2 (.t 43) (.t 44), none, false⟩,
  ⟨(some 46), .fa 1 (.t 45), none, false⟩,
  ⟨(some 47), .ld true 1 (.t 46), none, false⟩,
  ⟨(some 48), .bin .mul (.t 41) (.t 47), none, false⟩,
  ⟨(some 49), .bin .add (.t 36) (.t 48), none, true⟩,
  ⟨(some 4), .mv (.t 49), none, true⟩]
@[reducible] def v18_10 : VC := (.cond (.t 35) (.ops o18_9) .skip)
@[reducible] def v18_11 : VC := (.seq (.ops o18_8) v18_10)
@[reducible] def o18_12 : List Ins := [⟨(some 26), .mv (.t 8), none, true⟩,
  ⟨(some 27), .bin .add (.t 26) (.k (.c (.int .i64 1))), none, true⟩,
  ⟨(some 8), .mv (.t 27), none, true⟩]
@[reducible] def v18_13 : VC := (.seq (.block 3 v18_11) (.ops o18_12))
@[reducible] def v18_14 : VC := (.seq (.seq (.ops o18_6) v18_7) v18_13)
-- K18_2: changed and kept: [8, 4]
@[reducible] def K18_2 : List Nat := [1, 2, 6, 7]
@[reducible] def v18_15 : VC := (.loop v18_14)
@[reducible] def v18_16 : VC := (.block 2 v18_15)
@[reducible] def v18_17 : VC := (.seq (.ops o18_5) v18_16)
@[reducible] def v18_18 : VC := (.seq (.ops o18_4) v18_17)
@[reducible] def o18_19 : List Ins := [⟨(some 14), .mv (.t 6), none, true⟩,
  ⟨(some 15), .bin .add (.t 14) (.k (.c (.int .i64 1))), none, true⟩,
  ⟨(some 6), .mv (.t 15), none, true⟩]
@[reducible] def v18_20 : VC := (.seq (.block 1 v18_18) (.ops o18_19))
@[reducible] def v18_21 : VC := (.seq (.seq (.ops o18_2) v18_3) v18_20)
-- K18_1: changed and kept: [6, 4]
@[reducible] def K18_1 : List Nat := [1, 2]
@[reducible] def v18_22 : VC := (.loop v18_21)
@[reducible] def v18_23 : VC := (.block 0 v18_22)
@[reducible] def o18_24 : List Ins := [⟨(some 50), .mv (.t 4), none, true⟩,
  ⟨(some 51), .ld false 3 (.t 2), none, true⟩,
  ⟨(some 52), .call (.k (.fn 21 [])) [(.t 51)], none, true⟩,
  ⟨(some 53), .bin .mul (.k (.c (.int .i64 100))) (.t 52), none, true⟩,
  ⟨(some 4), .mv (.t 50), none, true⟩,
  ⟨(some 5), .mv (.t 53), none, true⟩]
@[reducible] def v18_25 : VC := (.seq (.ops o18_24) .ret)
@[reducible] def v18_26 : VC := (.seq (.seq (.ops o18_1) v18_23) v18_25)
def ir18 : FC := ⟨2, 54, [.t 4, .t 5], (.seq (.ops o18_0) v18_26)⟩
@[reducible] def o3_0 : List Ins := [⟨(some 1), .box 3 (.t 0), none, true⟩,
  ⟨(some 2), .mv (.k (.c (.bool false))), none, true⟩]
@[reducible] def o3_1 : List Ins := [⟨(some 12), .ld false 3 (.t 1), none, true⟩,
  ⟨(some 13), .call (.k (.fn 13 [])) [(.t 12)], none, true⟩,
  ⟨(some 14), .un .not (.t 13), none, true⟩]
@[reducible] def o3_2 : List Ins := [⟨(some 15), .call (.k (.fn 14 [])) [], none, true⟩,
  ⟨(some 2), .mv (.t 15), none, true⟩]
@[reducible] def v3_3 : VC := (.seq (.ops o3_2) .ret)
@[reducible] def v3_4 : VC := (.cond (.t 14) v3_3 .skip)
@[reducible] def o3_5 : List Ins := [⟨(some 17), .ld false 3 (.t 1), none, true⟩,
  ⟨(some 18), .call (.k (.fn 15 [])) [(.t 17)], none, true⟩,
  ⟨(some 16), .mv (.t 18), none, true⟩,
  ⟨(some 19), .ext (.t 16) 0, none, true⟩,
  ⟨(some 20), .ext (.t 16) 1, none, true⟩,
  ⟨(some 3), .mv (.t 19), none, true⟩,
  ⟨(some 4), .mv (.t 20), none, true⟩]
@[reducible] def o3_6 : List Ins := [⟨(some 21), .ld false 3 (.t 1), none, true⟩,
  ⟨(some 22), .mv (.t 4), none, true⟩,
  ⟨(some 23), .call (.k (.fn 16 [])) [(.t 21), (.t 22)], none, true⟩,
  ⟨(some 24), .un .not (.t 23), none, true⟩]
@[reducible] def o3_7 : List Ins := [⟨(some 2), .mv (.k (.c (.bool false))), none, true⟩]
@[reducible] def v3_8 : VC := (.seq (.ops o3_7) .ret)
@[reducible] def v3_9 : VC := (.cond (.t 24) v3_8 .skip)
@[reducible] def o3_10 : List Ins := [⟨(some 25), .mv (.t 4), none, true⟩,
  ⟨(some 26), .bin .neq (.t 25) (.k (.c (.int .i64 0))), none, true⟩]
@[reducible] def o3_11 : List Ins := [⟨(some 27), .mv (.t 3), none, true⟩,
  ⟨(some 28), .len (.t 27), none, true⟩,
  ⟨(some 29), .bin .eql (.t 28) (.k (.c (.int .i64 0))), none, true⟩,
  ⟨(some 30), .mv (.t 29), none, true⟩,
  ⟨(some 31), .call (.k (.fn 14 [])) [], (some (30, true)), true⟩,
  ⟨(some 32), .pick (.t 30) (.t 31) (.k (.c (.bool false))), none, true⟩,
  ⟨(some 2), .mv (.t 32), none, true⟩]
@[reducible] def v3_12 : VC := (.seq (.ops o3_11) .ret)
@[reducible] def v3_13 : VC := (.cond (.t 26) v3_12 .skip)
@[reducible] def o3_14 : List Ins := [⟨(some 33), .ld false 3 (.t 1), none, true⟩,
  ⟨(some 34), .mv (.t 3), none, true⟩,
  ⟨(some 35), .call (.k (.fn 17 [])) [(.t 33), (.t 34), (.k (.c (.int .i64 9999)))], none, true⟩,
  ⟨(some 36), .un .not (.t 35), none, true⟩]
@[reducible] def o3_15 : List Ins := [⟨(some 2), .mv (.k (.c (.bool false))), none, true⟩]
@[reducible] def v3_16 : VC := (.seq (.ops o3_15) .ret)
@[reducible] def v3_17 : VC := (.cond (.t 36) v3_16 .skip)
@[reducible] def o3_18 : List Ins := [⟨(some 5), .mv (.k (.c (.int .i64 0))), none, true⟩]
@[reducible] def o3_19 : List Ins := [⟨(some 6), .mv (.k (.c (.int .i64 0))), none, true⟩]
@[reducible] def o3_20 : List Ins := [⟨(some 37), .mv (.t 6), none, true⟩,
  ⟨(some 38), .mv (.t 3), none, true⟩,
  ⟨(some 39), .len (.t 38), none, true⟩,
  ⟨(some 40), .bin .lss (.t 37) (.t 39), none, true⟩]
@[reducible] def v3_21 : VC := (.cond (.t 40) .skip (.exit 0))
@[reducible] def o3_22 : List Ins := [⟨(some 44), .ld false 3 (.t 1), none, true⟩,
  ⟨(some 45), .mv (.t 6), none, true⟩,
  ⟨(some 46), .call (.k (.fn 18 [])) [(.t 44), (.t 45)], none, true⟩,
  ⟨(some 43), .mv (.t 46), none, true⟩,
  ⟨(some 47), .ext (.t 43) 0, none, true⟩,
  ⟨(some 48), .ext (.t 43) 1, none, true⟩,
  ⟨(some 7), .mv (.t 47), none, true⟩,
  ⟨(some 8), .mv (.t 48), none, true⟩]
@[reducible] def o3_23 : List Ins := [⟨(some 49), .mv (.t 3), none, false⟩,
  ⟨(some 50), .mv (.t 6), none, false⟩,
  ⟨(some 51), .ia 1 (.t 49) (.t 50), none, false⟩,
  ⟨(some 52), .ld true 1 (.t 51), none, false⟩,
  ⟨(some 53), .mv (.t 7), none, false⟩,
  ⟨(some 54), .mv (.t 8), none, false⟩,
  ⟨(some 55), .bin .quo (.t 53) (.t 54), none, false⟩,
  ⟨(some 56), .bin .lss (.t 52) (.t 55), none, true⟩,
  ⟨(some 57), .mv (.t 56), none, true⟩,
  ⟨(some 58), .mv (.t 3), (some (57, false)), false⟩,
  ⟨(some 59), .mv (.t 6), (some (57, false)), false⟩,
  ⟨(some 60), .ia 1 (.t 58) (.t 59), (some (57, false)), false⟩,
  ⟨(some 61), .ld true 1 (.t 60), (some (57, false)), false⟩,
  ⟨(some 62), .mv (.t 7), (some (57, false)), false⟩,
  ⟨(some 63), .mv (.t 8), (some (57, false)), false⟩,
  ⟨(some 64), .bin .quo (.t 62) (.t 63), (some (57, false)), false⟩,
  ⟨(some 65), .bin .add (.t 64) (.k (.c (.int .i64 1))), (some (57, false)), false⟩,
  ⟨(some 66), .bin .gtr (.t 61) (.t 65), (some (57, false)), true⟩,
  ⟨(some 67), .pick (.t 57) (.k (.c (.bool true))) (.t 66), none, true⟩,
  ⟨(some 68), .mv (.t 67), none, true⟩,
  ⟨(some 69), .mv (.t 7), (some (68, false)), false⟩,
  ⟨(some 70), .mv (.t 8), (some (68, false)), false⟩,
  ⟨(some 71), .bin .rem (.t 69) (.t 70), (some (68, false)), true⟩,
  ⟨(some 72), .bin .eql (.t 71) (.k (.c (.int .i64 0))), (some (68, false)), true⟩,
  ⟨(some 73), .mv (.t 72), (some (68, false)), true⟩,
  ⟨(some 74), .mv (.t 3), (some (73, true)), false⟩,
  ⟨(some 75), .mv (.t 6), (some (73, true)), false⟩,
  ⟨(some 76), .ia 1 (.t 74) (.t 75), (some (73, true)), false⟩,
  ⟨(some 77), .ld true 1 (.t 76), (some (73, true)), false⟩,
  ⟨(some 78), .mv (.t 7), (some (73, true)), false⟩,
  ⟨(some 79), .mv (.t 8), (some (73, true)), false⟩,
  ⟨(some 80), .bin .quo (.t 78) (.t 79), (some (73, true)), false⟩,
  ⟨(some 81), .bin .neq (.t 77) (.t 80), (some (73, true)), true⟩,
  ⟨(some 82), .pick (.t 73) (.t 81) (.k (.c (.bool false))), (some (68, false)), true⟩,
  ⟨(some 83), .pick (.t 68) (.k (.c (.bool true))) (.t 82), none, true⟩]
@[reducible] def o3_24 : List Ins := [⟨(some 2), .mv (.k (.c (.bool false))), none, true⟩]
@[reducible] def v3_25 : VC := (.seq (.ops o3_24) .ret)
@[reducible] def v3_26 : VC := (.cond (.t 83) v3_25 .skip)
@[reducible] def o3_27 : List Ins := [⟨(some 84), .mv (.t 5), none, true⟩,
  ⟨(some 85), .mv (.t 3), none, true⟩,
  ⟨(some 86), .mv (.t 6), none, true⟩,
  ⟨(some 87), .ia 1 (.t 85) (.t 86), none, true⟩,
  ⟨(some 88), .ld true 1 (.t 87), none, true⟩,
  ⟨(some 89), .bin .add (.t 84) (.t 88), none, true⟩,
  ⟨(some 5), .mv (.t 89), none, true⟩]
@[reducible] def o3_28 : List Ins := [⟨(some 9), .mv (.k (.c (.int .i64 0))), none, true⟩]
@[reducible] def o3_29 : List Ins := [⟨(some 90), .mv (.t 9), none, true⟩,
  ⟨(some 91), .mv (.t 3), none, true⟩,
  ⟨(some 92), .len (.t 91), none, true⟩,
  ⟨(some 93), .bin .lss (.t 90) (.t 92), none, true⟩]
@[reducible] def v3_30 : VC := (.cond (.t 93) .skip (.exit 2))
@[reducible] def o3_31 : List Ins := [⟨(some 97), .ld false 3 (.t 1), none, true⟩,
  ⟨(some 98), .mv (.t 9), none, true⟩,
  ⟨(some 99), .call (.k (.fn 18 [])) [(.t 97), (.t 98)], none, true⟩,
  ⟨(some 96), .mv (.t 99), none, true⟩,
  ⟨(some 100), .ext (.t 96) 0, none, true⟩,
  ⟨(some 101), .ext (.t 96) 1, none, true⟩,
  ⟨(some 10), .mv (.t 100), none, true⟩,
  ⟨(some 11), .mv (.t 101), none, true⟩]
@[reducible] def o3_32 : List Ins := [⟨(some 102), .mv (.t 10), none, false⟩,
  ⟨(some 103), .mv (.t 7), none, false⟩,
  ⟨(some 104), .bin .gtr (.t 102) (.t 103), none, true⟩,
  ⟨(some 105), .mv (.t 104), none, true⟩,
  ⟨(some 106), .mv (.t 3), (some (105, true)), false⟩,
  ⟨(some 107), .mv (.t 9), (some (105, true)), false⟩,
  ⟨(some 108), .ia 1 (.t 106) (.t 107), (some (105, true)), false⟩,
  ⟨(some 109), .ld true 1 (.t 108), (some (105, true)), false⟩,
  ⟨(some 110), .mv (.t 3), (some (105, true)), false⟩,
  ⟨(some 111), .mv (.t 6), (some (105, true)), false⟩,
  ⟨(some 112), .ia 1 (.t 110) (.t 111), (some (105, true)), false⟩,
  ⟨(some 113), .ld true 1 (.t 112), (some (105, true)), false⟩,
  ⟨(some 114), .bin .lss (.t 109) (.t 113), (some (105, true)), true⟩,
  ⟨(some 115), .pick (.t 105) (.t 114) (.k (.c (.bool false))), none, true⟩]
@[reducible] def o3_33 : List Ins := [⟨(some 2), .mv (.k (.c (.bool false))), none, true⟩]
@[reducible] def v3_34 : VC := (.seq (.ops o3_33) .ret)
@[reducible] def v3_35 : VC := (.cond (.t 115) v3_34 .skip)
@[reducible] def v3_36 : VC := (.seq (.ops o3_32) v3_35)
@[reducible] def v3_37 : VC := (.seq (.ops o3_31) v3_36)
@[reducible] def o3_38 : List Ins := [⟨(some 94), .mv (.t 9), none, true⟩,
  ⟨(some 95), .bin .add (.t 94) (.k (.c (.int .i64 1))), none, true⟩,
  ⟨(some 9), .mv (.t 95), none, true⟩]
@[reducible] def v3_39 : VC := (.seq (.block 3 v3_37) (.ops o3_38))
@[reducible] def v3_40 : VC := (.seq (.seq (.ops o3_29) v3_30) v3_39)
-- K3_2: changed and kept: [9]
@[reducible] def K3_2 : List Nat := [1, 3, 5, 6, 7]
@[reducible] def v3_41 : VC := (.loop v3_40)
@[reducible] def v3_42 : VC := (.block 2 v3_41)
@[reducible] def v3_43 : VC := (.seq (.ops o3_28) v3_42)
@[reducible] def v3_44 : VC := (.seq (.ops o3_27) v3_43)
@[reducible] def v3_45 : VC := (.seq (.seq (.ops o3_23) v3_26) v3_44)
@[reducible] def v3_46 : VC := (.seq (.ops o3_22) v3_45)
@[reducible] def o3_47 : List Ins := [⟨(some 41), .mv (.t 6), none, true⟩,
  ⟨(some 42), .bin .add (.t 41) (.k (.c (.int .i64 1))), none, true⟩,
  ⟨(some 6), .mv (.t 42), none, true⟩]
@[reducible] def v3_48 : VC := (.seq (.block 1 v3_46) (.ops o3_47))
@[reducible] def v3_49 : VC := (.seq (.seq (.ops o3_20) v3_21) v3_48)
-- K3_1: changed and kept: [6, 5]
@[reducible] def K3_1 : List Nat := [1, 3]
@[reducible] def v3_50 : VC := (.loop v3_49)
@[reducible] def v3_51 : VC := (.block 0 v3_50)
@[reducible] def o3_52 : List Ins := [⟨(some 116), .mv (.t 5), none, true⟩,
  ⟨(some 117), .fa 0 (.t 1), none, true⟩,
  ⟨(some 118), .ld true 1 (.t 117), none, true⟩,
  ⟨(some 119), .bin .eql (.t 116) (.t 118), none, true⟩,
  ⟨(some 120), .mv (.t 119), none, true⟩,
  ⟨(some 121), .call (.k (.fn 14 [])) [], (some (120, true)), true⟩,
  ⟨(some 122), .pick (.t 120) (.t 121) (.k (.c (.bool false))), none, true⟩,
  ⟨(some 2), .mv (.t 122), none, true⟩]
@[reducible] def v3_53 : VC := (.seq (.ops o3_52) .ret)
@[reducible] def v3_54 : VC := (.seq (.seq (.ops o3_19) v3_51) v3_53)
@[reducible] def v3_55 : VC := (.seq (.ops o3_18) v3_54)
@[reducible] def v3_56 : VC := (.seq (.seq (.ops o3_14) v3_17) v3_55)
@[reducible] def v3_57 : VC := (.seq (.seq (.ops o3_10) v3_13) v3_56)
@[reducible] def v3_58 : VC := (.seq (.seq (.ops o3_6) v3_9) v3_57)
@[reducible] def v3_59 : VC := (.seq (.ops o3_5) v3_58)
@[reducible] def v3_60 : VC := (.seq (.seq (.ops o3_1) v3_4) v3_59)
def ir3 : FC := ⟨1, 123, [.t 2], (.seq (.ops o3_0) v3_60)⟩
theorem c18 : compM Try.prog [] 18 = some ir18 := by kernel_rfl
theorem c3 : compM Try.prog [] 3 = some ir3 := by kernel_rfl



set_option maxHeartbeats 8000000 in
theorem part18 {r : Royal} (hr : RoyalOk r) (who : Int) : FSpec Try.prog 18 [r.av, iv who] (.tup [iv (numR r who r.sides), iv (allW r)]) := by
  have hs6 := hr.s6
  have hpool := hr.pool
  have hab := allW_bd hr
  have hap := allW_plays r
  refine FSpec_of c18 (Nat.le_refl _) (by decide) fun C hP hN hC hL => ?_
  simp only [ir18, Royal.av]
  (repeat ((first | refine WV_seq_ ?_ | refine WV_block ?_ | refine WV_ops ?_ | refine WV_skip ?_ | refine WV_exit ?_); (try simp only [go_sem, init_env', Nat.reduceEqDiff, Nat.reduceAdd, Nat.reduceMul, reduceIte, Nat.reduceLeDiff, Nat.reduceLT, Nat.reduceBEq, reduceCtorEq, hP, ]); (repeat (refine And.intro (by first | omega | (intros; simp_all; done) | (intros; simp_all; omega)) ?_))))
  refine WV_loopK K18_1 [7] (fun k : Nat => k ≤ r.sides.length) (fun k => r.sides.length - k) (fun k => [(6, iv k), (4, iv (numR r who (r.sides.take k)))]) (fun _ => []) 0 (Nat.zero_le _) ?_ ?_
  · (refine Sub_of (by simp only [go_sem, init_env', Nat.reduceEqDiff, Nat.reduceAdd, Nat.reduceMul, reduceIte, Nat.reduceLeDiff, Nat.reduceLT, Nat.reduceBEq, reduceCtorEq]; ((repeat' (first | exact EnvLe_e0 _ _ | refine EnvLe_upd ?_ ?_)) <;> ((try simp only [upd_app, e0_app, o0_app, Nat.reduceEqDiff, reduceIte]); first | exact AWk.refl _ _ | exact AWk.int (by omega) | exact AWk.int (by rw [w64 (by omega) (by omega)]; omega) | exact AWk.grow rfl | exact AWk.nil _ | exact AWk.of (by simp [numR])))) (by simp only [go_sem, init_env', Nat.reduceEqDiff, Nat.reduceAdd, Nat.reduceMul, reduceIte, Nat.reduceLeDiff, Nat.reduceLT, Nat.reduceBEq, reduceCtorEq]; ((repeat' (first | exact ObjLe_o0 _ | exact ObjLe.rfl' _ | refine ObjLe_same ?_ | refine ObjLe_upd ?_ ?_ | refine ObjLe_new rfl ?_)) <;> rfl)))
  · intro k hk
    have hnb := numR_bd hr (who := who) k hk
    simp only [go_sem, init_env', Nat.reduceEqDiff, Nat.reduceAdd, Nat.reduceMul, reduceIte, Nat.reduceLeDiff, Nat.reduceLT, Nat.reduceBEq, reduceCtorEq]
    (repeat ((first | refine WV_seq_ ?_ | refine WV_block ?_ | refine WV_ops ?_ | refine WV_skip ?_ | refine WV_exit ?_); (try simp only [go_sem, init_env', Nat.reduceEqDiff, Nat.reduceAdd, Nat.reduceMul, reduceIte, Nat.reduceLeDiff, Nat.reduceLT, Nat.reduceBEq, reduceCtorEq, hP, sidesC]); (repeat (refine And.intro (by first | omega | (intros; simp_all; done) | (intros; simp_all; omega)) ?_))))
    (refine WV_cond rfl (fun h => ?_) (fun h => ?_))
    · have hkl : k < r.sides.length := by simpa using h
      have hI : (k : Int) < (r.sides.length : Int) := by omega
      have hm := List.getElem_mem hkl
      have hpl := hr.plays _ hm
      have hpt := hr.part _ hm
      have hp6 := hr.p6 _ hm
      have hns := numR_succ (r := r) (who := who) hkl
      (repeat ((first | refine WV_seq_ ?_ | refine WV_block ?_ | refine WV_ops ?_ | refine WV_skip ?_ | refine WV_exit ?_); (try simp only [go_sem, init_env', Nat.reduceEqDiff, Nat.reduceAdd, Nat.reduceMul, reduceIte, Nat.reduceLeDiff, Nat.reduceLT, Nat.reduceBEq, reduceCtorEq, hP, sidesC, map_getD hkl, hI, Int.natCast_nonneg, Side.cds, partsC]); (repeat (refine And.intro (by first | omega | (intros; simp_all; done) | (intros; simp_all; omega)) ?_))))
      generalize r.sides[k].parts = Ps at *
      generalize r.sides[k].plays = Pl at *
      refine WV_loopK K18_2 [7] (fun j : Nat => j ≤ Ps.length) (fun j => Ps.length - j) (fun j => [(8, iv j), (4, iv (numR r who (r.sides.take k) + r.pool * partS Pl who (Ps.take j)))]) (fun _ => [(7, .box [iv Pl, .c (.sl 2 (Ps.map Part.cds))])]) 0 (Nat.zero_le _) ?_ ?_
      · (refine Sub_of (by simp only [go_sem, init_env', Nat.reduceEqDiff, Nat.reduceAdd, Nat.reduceMul, reduceIte, Nat.reduceLeDiff, Nat.reduceLT, Nat.reduceBEq, reduceCtorEq]; ((repeat' (first | exact EnvLe_e0 _ _ | refine EnvLe_upd ?_ ?_)) <;> ((try simp only [upd_app, e0_app, o0_app, Nat.reduceEqDiff, reduceIte]); first | exact AWk.refl _ _ | exact AWk.int (by omega) | exact AWk.int (by rw [w64 (by omega) (by omega)]; omega) | exact AWk.grow rfl | exact AWk.nil _ | exact AWk.of (by simp [partS])))) (by simp only [go_sem, init_env', Nat.reduceEqDiff, Nat.reduceAdd, Nat.reduceMul, reduceIte, Nat.reduceLeDiff, Nat.reduceLT, Nat.reduceBEq, reduceCtorEq]; ((repeat' (first | exact ObjLe_o0 _ | exact ObjLe.rfl' _ | refine ObjLe_same ?_ | refine ObjLe_upd ?_ ?_ | refine ObjLe_new rfl ?_)) <;> rfl)))
      · intro j hj
        have hpb := partS_bd (who := who) hpl (Ps.take j) fun p hp => (hpt p (List.mem_of_mem_take hp)).2.2
        have htl : ((Ps.take j).length : Int) ≤ 6 := by rw [List.length_take]; omega
        have hpm := mul_small hpool (⟨hpb.1, by omega⟩ : 0 ≤ partS Pl who (Ps.take j) ∧ partS Pl who (Ps.take j) ≤ 5999400)
        simp only [go_sem, init_env', Nat.reduceEqDiff, Nat.reduceAdd, Nat.reduceMul, reduceIte, Nat.reduceLeDiff, Nat.reduceLT, Nat.reduceBEq, reduceCtorEq]
        (repeat ((first | refine WV_seq_ ?_ | refine WV_block ?_ | refine WV_ops ?_ | refine WV_skip ?_ | refine WV_exit ?_); (try simp only [go_sem, init_env', Nat.reduceEqDiff, Nat.reduceAdd, Nat.reduceMul, reduceIte, Nat.reduceLeDiff, Nat.reduceLT, Nat.reduceBEq, reduceCtorEq, hP, ]); (repeat (refine And.intro (by first | omega | (intros; simp_all; done) | (intros; simp_all; omega)) ?_))))
        (refine WV_cond rfl (fun h => ?_) (fun h => ?_))
        · have hjl : j < Ps.length := by simpa using h
          have hI2 : (j : Int) < (Ps.length : Int) := by omega
          have hpj := hpt _ (List.getElem_mem hjl)
          have hps := partS_succ (pl := Pl) (who := who) hjl
          have w3 := w64 (n := (j : Int) + 1) (by omega) (by omega)
          (repeat ((first | refine WV_seq_ ?_ | refine WV_block ?_ | refine WV_ops ?_ | refine WV_skip ?_ | refine WV_exit ?_); (try simp only [go_sem, init_env', Nat.reduceEqDiff, Nat.reduceAdd, Nat.reduceMul, reduceIte, Nat.reduceLeDiff, Nat.reduceLT, Nat.reduceBEq, reduceCtorEq, hP, map_getD hjl, hI2, Int.natCast_nonneg, Part.cds]); (repeat (refine And.intro (by first | omega | (intros; simp_all; done) | (intros; simp_all; omega)) ?_))))
          by_cases hwho : Ps[j].who = who
          · rw [if_pos hwho] at hps
            have hmm := mul_small hpl (⟨by omega, hpj.2.2.2⟩ : 0 ≤ Ps[j].pc ∧ Ps[j].pc ≤ 100)
            have hm2 := mul_small hpool hpl
            have hm3 := mul_small hpool hmm
            have ea : r.pool * Pl * Ps[j].pc = r.pool * (Pl * Ps[j].pc) := Int.mul_assoc _ _ _
            have w4 := w64 (n := r.pool * Pl) (by omega) (by omega)
            have w5 := w64 (n := r.pool * (Pl * Ps[j].pc)) (by omega) (by omega)
            have w6 := w64 (n := numR r who (r.sides.take k) + r.pool * partS Pl who (Ps.take j) + r.pool * (Pl * Ps[j].pc)) (by omega) (by omega)
            (refine WV_cond rfl (fun h => ?_) (fun h => ?_))
            · (repeat ((first | refine WV_seq_ ?_ | refine WV_block ?_ | refine WV_ops ?_ | refine WV_skip ?_ | refine WV_exit ?_); (try simp only [go_sem, init_env', Nat.reduceEqDiff, Nat.reduceAdd, Nat.reduceMul, reduceIte, Nat.reduceLeDiff, Nat.reduceLT, Nat.reduceBEq, reduceCtorEq, hP, map_getD hjl, hI2, Int.natCast_nonneg, Part.cds, w4, ea, w5, w6, w3]); (repeat (refine And.intro (by first | omega | (intros; simp_all; done) | (intros; simp_all; omega)) ?_))))
              refine ⟨j + 1, by omega, by omega, ?_⟩
              rw [hps, Int.mul_add]
              (refine Sub_of (by simp only [go_sem, init_env', Nat.reduceEqDiff, Nat.reduceAdd, Nat.reduceMul, reduceIte, Nat.reduceLeDiff, Nat.reduceLT, Nat.reduceBEq, reduceCtorEq]; ((repeat' (first | exact EnvLe_e0 _ _ | refine EnvLe_upd ?_ ?_)) <;> ((try simp only [upd_app, e0_app, o0_app, Nat.reduceEqDiff, reduceIte]); first | exact AWk.refl _ _ | exact AWk.int (by omega) | exact AWk.int (by rw [w64 (by omega) (by omega)]; omega) | exact AWk.grow rfl | exact AWk.nil _ | exact AWk.of (by (simp; try omega))))) (by simp only [go_sem, init_env', Nat.reduceEqDiff, Nat.reduceAdd, Nat.reduceMul, reduceIte, Nat.reduceLeDiff, Nat.reduceLT, Nat.reduceBEq, reduceCtorEq]; ((repeat' (first | exact ObjLe_o0 _ | exact ObjLe.rfl' _ | refine ObjLe_same ?_ | refine ObjLe_upd ?_ ?_ | refine ObjLe_new rfl ?_)) <;> rfl)))
            · simp [hwho] at h
          · rw [if_neg hwho, Int.add_zero] at hps
            (refine WV_cond rfl (fun h => ?_) (fun h => ?_))
            · simp [hwho] at h
            · (repeat ((first | refine WV_seq_ ?_ | refine WV_block ?_ | refine WV_ops ?_ | refine WV_skip ?_ | refine WV_exit ?_); (try simp only [go_sem, init_env', Nat.reduceEqDiff, Nat.reduceAdd, Nat.reduceMul, reduceIte, Nat.reduceLeDiff, Nat.reduceLT, Nat.reduceBEq, reduceCtorEq, hP, w3]); (repeat (refine And.intro (by first | omega | (intros; simp_all; done) | (intros; simp_all; omega)) ?_))))
              refine ⟨j + 1, by omega, by omega, ?_⟩
              rw [hps]
              (refine Sub_of (by simp only [go_sem, init_env', Nat.reduceEqDiff, Nat.reduceAdd, Nat.reduceMul, reduceIte, Nat.reduceLeDiff, Nat.reduceLT, Nat.reduceBEq, reduceCtorEq]; ((repeat' (first | exact EnvLe_e0 _ _ | refine EnvLe_upd ?_ ?_)) <;> ((try simp only [upd_app, e0_app, o0_app, Nat.reduceEqDiff, reduceIte]); first | exact AWk.refl _ _ | exact AWk.int (by omega) | exact AWk.int (by rw [w64 (by omega) (by omega)]; omega) | exact AWk.grow rfl | exact AWk.nil _ | exact AWk.of (by simp)))) (by simp only [go_sem, init_env', Nat.reduceEqDiff, Nat.reduceAdd, Nat.reduceMul, reduceIte, Nat.reduceLeDiff, Nat.reduceLT, Nat.reduceBEq, reduceCtorEq]; ((repeat' (first | exact ObjLe_o0 _ | exact ObjLe.rfl' _ | refine ObjLe_same ?_ | refine ObjLe_upd ?_ ?_ | refine ObjLe_new rfl ?_)) <;> rfl)))
        · have hj' : j = Ps.length := by simp at h; omega
          subst hj'
          have w3 := w64 (n := (k : Int) + 1) (by omega) (by omega)
          (repeat ((first | refine WV_seq_ ?_ | refine WV_block ?_ | refine WV_ops ?_ | refine WV_skip ?_ | refine WV_exit ?_); (try simp only [go_sem, init_env', Nat.reduceEqDiff, Nat.reduceAdd, Nat.reduceMul, reduceIte, Nat.reduceLeDiff, Nat.reduceLT, Nat.reduceBEq, reduceCtorEq, hP, w3]); (repeat (refine And.intro (by first | omega | (intros; simp_all; done) | (intros; simp_all; omega)) ?_))))
          refine ⟨k + 1, by omega, by omega, ?_⟩
          rw [hns, List.take_length]
          (refine Sub_of (by simp only [go_sem, init_env', Nat.reduceEqDiff, Nat.reduceAdd, Nat.reduceMul, reduceIte, Nat.reduceLeDiff, Nat.reduceLT, Nat.reduceBEq, reduceCtorEq]; ((repeat' (first | exact EnvLe_e0 _ _ | refine EnvLe_upd ?_ ?_)) <;> ((try simp only [upd_app, e0_app, o0_app, Nat.reduceEqDiff, reduceIte]); first | exact AWk.refl _ _ | exact AWk.int (by omega) | exact AWk.int (by rw [w64 (by omega) (by omega)]; omega) | exact AWk.grow rfl | exact AWk.nil _ | exact AWk.of (by simp)))) (by simp only [go_sem, init_env', Nat.reduceEqDiff, Nat.reduceAdd, Nat.reduceMul, reduceIte, Nat.reduceLeDiff, Nat.reduceLT, Nat.reduceBEq, reduceCtorEq]; ((repeat' (first | exact ObjLe_o0 _ | exact ObjLe.rfl' _ | refine ObjLe_same ?_ | refine ObjLe_upd ?_ ?_ | refine ObjLe_new rfl ?_)) <;> rfl)))
    · have h : k = r.sides.length := by simp at h; omega
      subst h
      rw [List.take_length]
      have w3 := w64 (n := 100 * playsOf r) (by omega) (by omega)
      (repeat ((first | refine WV_seq_ ?_ | refine WV_block ?_ | refine WV_ops ?_ | refine WV_skip ?_ | refine WV_exit ?_); (try simp only [go_sem, init_env', Nat.reduceEqDiff, Nat.reduceAdd, Nat.reduceMul, reduceIte, Nat.reduceLeDiff, Nat.reduceLT, Nat.reduceBEq, reduceCtorEq, hP, ]); (repeat (refine And.intro (by first | omega | (intros; simp_all; done) | (intros; simp_all; omega)) ?_))))
      (refine AS_pure (plays21 hr) rfl rfl rfl rfl rfl ?_; simp only [go_sem, init_env', Nat.reduceEqDiff, Nat.reduceAdd, Nat.reduceMul, reduceIte, Nat.reduceLeDiff, Nat.reduceLT, Nat.reduceBEq, reduceCtorEq, hP, Royal.av, sidesC, w3]; (repeat (refine And.intro (by first | omega | (intros; simp_all; done) | (intros; simp_all; omega)) ?_)); (repeat ((first | refine WV_seq_ ?_ | refine WV_block ?_ | refine WV_ops ?_ | refine WV_skip ?_ | refine WV_exit ?_); (try simp only [go_sem, init_env', Nat.reduceEqDiff, Nat.reduceAdd, Nat.reduceMul, reduceIte, Nat.reduceLeDiff, Nat.reduceLT, Nat.reduceBEq, reduceCtorEq, hP, Royal.av, sidesC, w3]); (repeat (refine And.intro (by first | omega | (intros; simp_all; done) | (intros; simp_all; omega)) ?_)))))
      (refine WV_ret ?_; simp only [thenQ, inQ, RetQ, RetOk, resAll, resA]; simp only [go_sem, init_env', Nat.reduceEqDiff, Nat.reduceAdd, Nat.reduceMul, reduceIte, Nat.reduceLeDiff, Nat.reduceLT, Nat.reduceBEq, reduceCtorEq, tupA, AV.port, AV.portL, exists_eq_left', ]; (first | exact AVle.of rfl | refine AVle.of ?_ | skip))
      rw [hap]

set_option maxRecDepth 20000 in
set_option maxHeartbeats 16000000 in
theorem law3 (r : Royal) : FSpec Try.prog 3 [r.av] (.c (.bool true)) := by
  refine FSpec_of c3 (Nat.le_refl _) (by decide) fun C hP hN hC hL => ?_
  simp only [ir3, Royal.av]
  (repeat ((first | refine WV_seq_ ?_ | refine WV_block ?_ | refine WV_ops ?_ | refine WV_skip ?_ | refine WV_exit ?_); (try simp only [go_sem, init_env', Nat.reduceEqDiff, Nat.reduceAdd, Nat.reduceMul, reduceIte, Nat.reduceLeDiff, Nat.reduceLT, Nat.reduceBEq, reduceCtorEq, hP, ]); (repeat (refine And.intro (by first | omega | (intros; simp_all; done) | (intros; simp_all; omega)) ?_))))
  (refine AS_pure (ready13 r) rfl rfl rfl rfl rfl ?_; simp only [go_sem, init_env', Nat.reduceEqDiff, Nat.reduceAdd, Nat.reduceMul, reduceIte, Nat.reduceLeDiff, Nat.reduceLT, Nat.reduceBEq, reduceCtorEq, hP, Royal.av]; (repeat (refine And.intro (by first | omega | (intros; simp_all; done) | (intros; simp_all; omega)) ?_)); (repeat ((first | refine WV_seq_ ?_ | refine WV_block ?_ | refine WV_ops ?_ | refine WV_skip ?_ | refine WV_exit ?_); (try simp only [go_sem, init_env', Nat.reduceEqDiff, Nat.reduceAdd, Nat.reduceMul, reduceIte, Nat.reduceLeDiff, Nat.reduceLT, Nat.reduceBEq, reduceCtorEq, hP, Royal.av]); (repeat (refine And.intro (by first | omega | (intros; simp_all; done) | (intros; simp_all; omega)) ?_)))))
  cases hok : r.ok
  · (refine WV_cond rfl (fun h => ?_) (fun h => ?_))
    · (repeat ((first | refine WV_seq_ ?_ | refine WV_block ?_ | refine WV_ops ?_ | refine WV_skip ?_ | refine WV_exit ?_); (try simp only [go_sem, init_env', Nat.reduceEqDiff, Nat.reduceAdd, Nat.reduceMul, reduceIte, Nat.reduceLeDiff, Nat.reduceLT, Nat.reduceBEq, reduceCtorEq, hP, ]); (repeat (refine And.intro (by first | omega | (intros; simp_all; done) | (intros; simp_all; omega)) ?_))))
      (refine AS_pure (works14) rfl rfl rfl rfl rfl ?_; simp only [go_sem, init_env', Nat.reduceEqDiff, Nat.reduceAdd, Nat.reduceMul, reduceIte, Nat.reduceLeDiff, Nat.reduceLT, Nat.reduceBEq, reduceCtorEq, hP, ]; (repeat (refine And.intro (by first | omega | (intros; simp_all; done) | (intros; simp_all; omega)) ?_)); (repeat ((first | refine WV_seq_ ?_ | refine WV_block ?_ | refine WV_ops ?_ | refine WV_skip ?_ | refine WV_exit ?_); (try simp only [go_sem, init_env', Nat.reduceEqDiff, Nat.reduceAdd, Nat.reduceMul, reduceIte, Nat.reduceLeDiff, Nat.reduceLT, Nat.reduceBEq, reduceCtorEq, hP, ]); (repeat (refine And.intro (by first | omega | (intros; simp_all; done) | (intros; simp_all; omega)) ?_)))))
      (refine WV_ret ?_; simp only [thenQ, inQ, RetQ, RetOk, resAll, resA]; simp only [go_sem, init_env', Nat.reduceEqDiff, Nat.reduceAdd, Nat.reduceMul, reduceIte, Nat.reduceLeDiff, Nat.reduceLT, Nat.reduceBEq, reduceCtorEq, tupA, AV.port, AV.portL, exists_eq_left', ]; (first | exact AVle.of rfl | refine AVle.of ?_ | skip))
    · simp at h
  have hr := Royal.ok_spec hok
  have c1 := shares15 r
  have c4 := plain16 hr (weighE r true)
  rw [weighE_plain hok] at c4
  (refine WV_cond rfl (fun h => ?_) (fun h => ?_))
  · simp at h
  clear h
  rcases ok_cases hok with ⟨he, hW, e1, e2⟩ | ⟨he, h0, e1, e2⟩
  · rw [e1] at c1
    rw [he] at c4
    have s1 := sane17 r (sharesL r.pool (allW r) (wts r)) 9999
    rw [shares_sane hW] at s1
    have hbd := sharesL_bd hW.hr.pool (fun x hx => (hW.bd x hx).1) hW.pos hW.sum
    have hsl : (sharesL r.pool (allW r) (wts r)).length = r.owed.length := by rw [sharesL_len, hW.len]; rfl
    have hn6 : (sharesL r.pool (allW r) (wts r)).length ≤ 6 := by rw [hsl]; exact hr.n6
    have hpool := hr.pool
    have hpos := hW.pos
    have hal := hW.le
    have hsum := sharesL_sum (pool := r.pool) hW.pos hW.sum
    have honce := fun i (hi : i < (sharesL r.pool (allW r) (wts r)).length) => shares_once (pool := r.pool) hW.pos hW.sum hi
    have hnum : ∀ k : Nat, numR r k r.sides = r.pool * (wts r).getD k 0 := fun k => by rw [numR_eq hr (by omega)]; simp [numOf]
    have hnb : ∀ k : Nat, 0 ≤ r.pool * (wts r).getD k 0 ∧ r.pool * (wts r).getD k 0 ≤ 99999999999999 := fun k => by have := numOf_bd (who := (k : Int)) hW; simpa [numOf] using this
    have hp18 : ∀ k : Nat, FSpec Try.prog 18 [r.av, iv (k : Int)] (.tup [iv (r.pool * (wts r).getD k 0), iv (allW r)]) := fun k => by rw [← hnum k]; exact part18 hr _
    have hpre : ∀ k, k ≤ (sharesL r.pool (allW r) (wts r)).length → 0 ≤ ((sharesL r.pool (allW r) (wts r)).take k).sum ∧ ((sharesL r.pool (allW r) (wts r)).take k).sum ≤ 10000 * (k : Int) := by
      intro k
      induction k with
      | zero => intro _; simp
      | succ k ih =>
        intro hk
        have hk' : k < (sharesL r.pool (allW r) (wts r)).length := hk
        have h1 := ih (by omega)
        have h2 := hbd _ (List.getElem_mem hk')
        rw [List.take_succ_eq_append_getElem hk', List.sum_append]
        simp only [List.sum_cons, List.sum_nil]
        omega
    generalize sharesL r.pool (allW r) (wts r) = S at *
    generalize hN : (fun k : Nat => r.pool * (wts r).getD k 0) = N at *
    have hNk : ∀ k : Nat, r.pool * (wts r).getD k 0 = N k := fun k => by rw [← hN]
    simp only [hNk] at hnb hp18 honce
    clear hN hNk hnum
    have ha0 : (allW r = 0) = False := by simp; omega
    (repeat ((first | refine WV_seq_ ?_ | refine WV_block ?_ | refine WV_ops ?_ | refine WV_skip ?_ | refine WV_exit ?_); (try simp only [go_sem, init_env', Nat.reduceEqDiff, Nat.reduceAdd, Nat.reduceMul, reduceIte, Nat.reduceLeDiff, Nat.reduceLT, Nat.reduceBEq, reduceCtorEq, hP, ]); (repeat (refine And.intro (by first | omega | (intros; simp_all; done) | (intros; simp_all; omega)) ?_))))
    (refine AS_pure (c1) rfl rfl rfl rfl rfl ?_; simp only [go_sem, init_env', Nat.reduceEqDiff, Nat.reduceAdd, Nat.reduceMul, reduceIte, Nat.reduceLeDiff, Nat.reduceLT, Nat.reduceBEq, reduceCtorEq, hP, Royal.av]; (repeat (refine And.intro (by first | omega | (intros; simp_all; done) | (intros; simp_all; omega)) ?_)); (repeat ((first | refine WV_seq_ ?_ | refine WV_block ?_ | refine WV_ops ?_ | refine WV_skip ?_ | refine WV_exit ?_); (try simp only [go_sem, init_env', Nat.reduceEqDiff, Nat.reduceAdd, Nat.reduceMul, reduceIte, Nat.reduceLeDiff, Nat.reduceLT, Nat.reduceBEq, reduceCtorEq, hP, Royal.av]); (repeat (refine And.intro (by first | omega | (intros; simp_all; done) | (intros; simp_all; omega)) ?_)))))
    (refine AS_pure (c4) rfl rfl rfl rfl rfl ?_; simp only [go_sem, init_env', Nat.reduceEqDiff, Nat.reduceAdd, Nat.reduceMul, reduceIte, Nat.reduceLeDiff, Nat.reduceLT, Nat.reduceBEq, reduceCtorEq, hP, Royal.av]; (repeat (refine And.intro (by first | omega | (intros; simp_all; done) | (intros; simp_all; omega)) ?_)); (repeat ((first | refine WV_seq_ ?_ | refine WV_block ?_ | refine WV_ops ?_ | refine WV_skip ?_ | refine WV_exit ?_); (try simp only [go_sem, init_env', Nat.reduceEqDiff, Nat.reduceAdd, Nat.reduceMul, reduceIte, Nat.reduceLeDiff, Nat.reduceLT, Nat.reduceBEq, reduceCtorEq, hP, Royal.av]); (repeat (refine And.intro (by first | omega | (intros; simp_all; done) | (intros; simp_all; omega)) ?_)))))
    (refine WV_cond rfl (fun h => ?_) (fun h => ?_))
    · simp at h
    clear h
    (repeat ((first | refine WV_seq_ ?_ | refine WV_block ?_ | refine WV_ops ?_ | refine WV_skip ?_ | refine WV_exit ?_); (try simp only [go_sem, init_env', Nat.reduceEqDiff, Nat.reduceAdd, Nat.reduceMul, reduceIte, Nat.reduceLeDiff, Nat.reduceLT, Nat.reduceBEq, reduceCtorEq, hP, bne_self_eq_false]); (repeat (refine And.intro (by first | omega | (intros; simp_all; done) | (intros; simp_all; omega)) ?_))))
    (refine WV_cond rfl (fun h => ?_) (fun h => ?_))
    · simp at h
    clear h
    (repeat ((first | refine WV_seq_ ?_ | refine WV_block ?_ | refine WV_ops ?_ | refine WV_skip ?_ | refine WV_exit ?_); (try simp only [go_sem, init_env', Nat.reduceEqDiff, Nat.reduceAdd, Nat.reduceMul, reduceIte, Nat.reduceLeDiff, Nat.reduceLT, Nat.reduceBEq, reduceCtorEq, hP, ]); (repeat (refine And.intro (by first | omega | (intros; simp_all; done) | (intros; simp_all; omega)) ?_))))
    (refine AS_pure (s1) rfl rfl rfl rfl rfl ?_; simp only [go_sem, init_env', Nat.reduceEqDiff, Nat.reduceAdd, Nat.reduceMul, reduceIte, Nat.reduceLeDiff, Nat.reduceLT, Nat.reduceBEq, reduceCtorEq, hP, Royal.av]; (repeat (refine And.intro (by first | omega | (intros; simp_all; done) | (intros; simp_all; omega)) ?_)); (repeat ((first | refine WV_seq_ ?_ | refine WV_block ?_ | refine WV_ops ?_ | refine WV_skip ?_ | refine WV_exit ?_); (try simp only [go_sem, init_env', Nat.reduceEqDiff, Nat.reduceAdd, Nat.reduceMul, reduceIte, Nat.reduceLeDiff, Nat.reduceLT, Nat.reduceBEq, reduceCtorEq, hP, Royal.av]); (repeat (refine And.intro (by first | omega | (intros; simp_all; done) | (intros; simp_all; omega)) ?_)))))
    (refine WV_cond rfl (fun h => ?_) (fun h => ?_))
    · simp at h
    clear h
    (repeat ((first | refine WV_seq_ ?_ | refine WV_block ?_ | refine WV_ops ?_ | refine WV_skip ?_ | refine WV_exit ?_); (try simp only [go_sem, init_env', Nat.reduceEqDiff, Nat.reduceAdd, Nat.reduceMul, reduceIte, Nat.reduceLeDiff, Nat.reduceLT, Nat.reduceBEq, reduceCtorEq, hP, ]); (repeat (refine And.intro (by first | omega | (intros; simp_all; done) | (intros; simp_all; omega)) ?_))))
    refine WV_loopK K3_1 [] (fun k : Nat => k ≤ S.length) (fun k => S.length - k) (fun k => [(6, iv k), (5, iv (S.take k).sum)]) (fun _ => []) 0 (Nat.zero_le _) ?_ ?_
    · (refine Sub_of (by simp only [go_sem, init_env', Nat.reduceEqDiff, Nat.reduceAdd, Nat.reduceMul, reduceIte, Nat.reduceLeDiff, Nat.reduceLT, Nat.reduceBEq, reduceCtorEq]; ((repeat' (first | exact EnvLe_e0 _ _ | refine EnvLe_upd ?_ ?_)) <;> ((try simp only [upd_app, e0_app, o0_app, Nat.reduceEqDiff, reduceIte]); first | exact AWk.refl _ _ | exact AWk.int (by omega) | exact AWk.int (by rw [w64 (by omega) (by omega)]; omega) | exact AWk.grow rfl | exact AWk.nil _ | exact AWk.of (by simp)))) (by simp only [go_sem, init_env', Nat.reduceEqDiff, Nat.reduceAdd, Nat.reduceMul, reduceIte, Nat.reduceLeDiff, Nat.reduceLT, Nat.reduceBEq, reduceCtorEq]; ((repeat' (first | exact ObjLe_o0 _ | exact ObjLe.rfl' _ | refine ObjLe_same ?_ | refine ObjLe_upd ?_ ?_ | refine ObjLe_new rfl ?_)) <;> rfl)))
    · intro k hk
      have hpk := hpre k hk
      simp only [go_sem, init_env', Nat.reduceEqDiff, Nat.reduceAdd, Nat.reduceMul, reduceIte, Nat.reduceLeDiff, Nat.reduceLT, Nat.reduceBEq, reduceCtorEq, ints]
      (repeat ((first | refine WV_seq_ ?_ | refine WV_block ?_ | refine WV_ops ?_ | refine WV_skip ?_ | refine WV_exit ?_); (try simp only [go_sem, init_env', Nat.reduceEqDiff, Nat.reduceAdd, Nat.reduceMul, reduceIte, Nat.reduceLeDiff, Nat.reduceLT, Nat.reduceBEq, reduceCtorEq, hP, ints]); (repeat (refine And.intro (by first | omega | (intros; simp_all; done) | (intros; simp_all; omega)) ?_))))
      (refine WV_cond rfl (fun h => ?_) (fun h => ?_))
      · have hkl : k < S.length := by simpa using h
        have hI : (k : Int) < (S.length : Int) := by omega
        obtain ⟨o1, o2, o3, o4⟩ := honce k hkl
        have hb := hbd _ (List.getElem_mem hkl)
        have hnk := hnb k
        have d1 : (N k).tdiv (allW r) = N k / allW r := Int.tdiv_eq_ediv_of_nonneg hnk.1
        have d2 : (N k).tmod (allW r) = N k % allW r := Int.tmod_eq_emod_of_nonneg hnk.1
        have w1 := w64 (n := N k / allW r) (by omega) (by omega)
        have w2 := w64 (n := N k / allW r + 1) (by omega) (by omega)
        have w3 := w64 (n := (k : Int) + 1) (by omega) (by omega)
        have w4 := w64 (n := (S.take k).sum + S[k]) (by omega) (by omega)
        have f1 : decide (S[k] < N k / allW r) = false := by simp; omega
        have f2 : decide (S[k] > N k / allW r + 1) = false := by simp; omega
        have f3 : (N k % allW r == 0 && S[k] != N k / allW r) = false := by
          by_cases hz : N k % allW r = 0
          · have := o3 hz; simp [this]
          · simp [hz]
        (repeat ((first | refine WV_seq_ ?_ | refine WV_block ?_ | refine WV_ops ?_ | refine WV_skip ?_ | refine WV_exit ?_); (try simp only [go_sem, init_env', Nat.reduceEqDiff, Nat.reduceAdd, Nat.reduceMul, reduceIte, Nat.reduceLeDiff, Nat.reduceLT, Nat.reduceBEq, reduceCtorEq, hP, ints]); (repeat (refine And.intro (by first | omega | (intros; simp_all; done) | (intros; simp_all; omega)) ?_))))
        (refine AS_pure (hp18 k) rfl rfl rfl rfl rfl ?_; simp only [go_sem, init_env', Nat.reduceEqDiff, Nat.reduceAdd, Nat.reduceMul, reduceIte, Nat.reduceLeDiff, Nat.reduceLT, Nat.reduceBEq, reduceCtorEq, hP, Royal.av, ints, map_getD hkl, hI, Int.natCast_nonneg, d1, d2, w1, w2, ha0, f1, f2]; (repeat (refine And.intro (by first | omega | (intros; simp_all; done) | (intros; simp_all; omega)) ?_)); (repeat ((first | refine WV_seq_ ?_ | refine WV_block ?_ | refine WV_ops ?_ | refine WV_skip ?_ | refine WV_exit ?_); (try simp only [go_sem, init_env', Nat.reduceEqDiff, Nat.reduceAdd, Nat.reduceMul, reduceIte, Nat.reduceLeDiff, Nat.reduceLT, Nat.reduceBEq, reduceCtorEq, hP, Royal.av, ints, map_getD hkl, hI, Int.natCast_nonneg, d1, d2, w1, w2, ha0, f1, f2]); (repeat (refine And.intro (by first | omega | (intros; simp_all; done) | (intros; simp_all; omega)) ?_)))))
        refine WV_cond (b := false) (by
          simp only [St.val, upd_app, Nat.reduceEqDiff, reduceIte, AV.c.injEq, CD.bool.injEq]
          first
            | exact f3
            | (revert f3; cases (N k % allW r == 0) <;> simp)) (fun h => by cases h) (fun h => ?_)
        (repeat ((first | refine WV_seq_ ?_ | refine WV_block ?_ | refine WV_ops ?_ | refine WV_skip ?_ | refine WV_exit ?_); (try simp only [go_sem, init_env', Nat.reduceEqDiff, Nat.reduceAdd, Nat.reduceMul, reduceIte, Nat.reduceLeDiff, Nat.reduceLT, Nat.reduceBEq, reduceCtorEq, hP, ints, map_getD hkl, hI, Int.natCast_nonneg, w4]); (repeat (refine And.intro (by first | omega | (intros; simp_all; done) | (intros; simp_all; omega)) ?_))))
        refine WV_loopK K3_2 [] (fun j : Nat => j ≤ S.length) (fun j => S.length - j) (fun j => [(9, iv j)]) (fun _ => []) 0 (Nat.zero_le _) ?_ ?_
        · (refine Sub_of (by simp only [go_sem, init_env', Nat.reduceEqDiff, Nat.reduceAdd, Nat.reduceMul, reduceIte, Nat.reduceLeDiff, Nat.reduceLT, Nat.reduceBEq, reduceCtorEq]; ((repeat' (first | exact EnvLe_e0 _ _ | refine EnvLe_upd ?_ ?_)) <;> ((try simp only [upd_app, e0_app, o0_app, Nat.reduceEqDiff, reduceIte]); first | exact AWk.refl _ _ | exact AWk.int (by omega) | exact AWk.int (by rw [w64 (by omega) (by omega)]; omega) | exact AWk.grow rfl | exact AWk.nil _ | exact AWk.of (by simp)))) (by simp only [go_sem, init_env', Nat.reduceEqDiff, Nat.reduceAdd, Nat.reduceMul, reduceIte, Nat.reduceLeDiff, Nat.reduceLT, Nat.reduceBEq, reduceCtorEq]; ((repeat' (first | exact ObjLe_o0 _ | exact ObjLe.rfl' _ | refine ObjLe_same ?_ | refine ObjLe_upd ?_ ?_ | refine ObjLe_new rfl ?_)) <;> rfl)))
        · intro j hj
          simp only [go_sem, init_env', Nat.reduceEqDiff, Nat.reduceAdd, Nat.reduceMul, reduceIte, Nat.reduceLeDiff, Nat.reduceLT, Nat.reduceBEq, reduceCtorEq, ints]
          (repeat ((first | refine WV_seq_ ?_ | refine WV_block ?_ | refine WV_ops ?_ | refine WV_skip ?_ | refine WV_exit ?_); (try simp only [go_sem, init_env', Nat.reduceEqDiff, Nat.reduceAdd, Nat.reduceMul, reduceIte, Nat.reduceLeDiff, Nat.reduceLT, Nat.reduceBEq, reduceCtorEq, hP, ints]); (repeat (refine And.intro (by first | omega | (intros; simp_all; done) | (intros; simp_all; omega)) ?_))))
          (refine WV_cond rfl (fun h => ?_) (fun h => ?_))
          · have hjl : j < S.length := by simpa using h
            have hJ : (j : Int) < (S.length : Int) := by omega
            have o5 := o4 j hjl
            have w5 := w64 (n := (j : Int) + 1) (by omega) (by omega)
            have f4 : (decide (N j > N k) && decide (S[j] < S[k])) = false := by
              by_cases hz : N k < N j
              · have := o5 hz; simp; omega
              · simp; omega
            (repeat ((first | refine WV_seq_ ?_ | refine WV_block ?_ | refine WV_ops ?_ | refine WV_skip ?_ | refine WV_exit ?_); (try simp only [go_sem, init_env', Nat.reduceEqDiff, Nat.reduceAdd, Nat.reduceMul, reduceIte, Nat.reduceLeDiff, Nat.reduceLT, Nat.reduceBEq, reduceCtorEq, hP, ints]); (repeat (refine And.intro (by first | omega | (intros; simp_all; done) | (intros; simp_all; omega)) ?_))))
            (refine AS_pure (hp18 j) rfl rfl rfl rfl rfl ?_; simp only [go_sem, init_env', Nat.reduceEqDiff, Nat.reduceAdd, Nat.reduceMul, reduceIte, Nat.reduceLeDiff, Nat.reduceLT, Nat.reduceBEq, reduceCtorEq, hP, Royal.av, ints, map_getD hkl, map_getD hjl, hI, hJ, Int.natCast_nonneg]; (repeat (refine And.intro (by first | omega | (intros; simp_all; done) | (intros; simp_all; omega)) ?_)); (repeat ((first | refine WV_seq_ ?_ | refine WV_block ?_ | refine WV_ops ?_ | refine WV_skip ?_ | refine WV_exit ?_); (try simp only [go_sem, init_env', Nat.reduceEqDiff, Nat.reduceAdd, Nat.reduceMul, reduceIte, Nat.reduceLeDiff, Nat.reduceLT, Nat.reduceBEq, reduceCtorEq, hP, Royal.av, ints, map_getD hkl, map_getD hjl, hI, hJ, Int.natCast_nonneg]); (repeat (refine And.intro (by first | omega | (intros; simp_all; done) | (intros; simp_all; omega)) ?_)))))
            refine WV_cond (b := false) (by
              simp only [St.val, upd_app, Nat.reduceEqDiff, reduceIte, AV.c.injEq, CD.bool.injEq]
              first
                | exact f4
                | (revert f4; cases decide (N j > N k) <;> simp)) (fun h => by cases h) (fun h => ?_)
            (repeat ((first | refine WV_seq_ ?_ | refine WV_block ?_ | refine WV_ops ?_ | refine WV_skip ?_ | refine WV_exit ?_); (try simp only [go_sem, init_env', Nat.reduceEqDiff, Nat.reduceAdd, Nat.reduceMul, reduceIte, Nat.reduceLeDiff, Nat.reduceLT, Nat.reduceBEq, reduceCtorEq, hP, w5]); (repeat (refine And.intro (by first | omega | (intros; simp_all; done) | (intros; simp_all; omega)) ?_))))
            refine ⟨j + 1, by omega, by omega, ?_⟩
            (refine Sub_of (by simp only [go_sem, init_env', Nat.reduceEqDiff, Nat.reduceAdd, Nat.reduceMul, reduceIte, Nat.reduceLeDiff, Nat.reduceLT, Nat.reduceBEq, reduceCtorEq]; ((repeat' (first | exact EnvLe_e0 _ _ | refine EnvLe_upd ?_ ?_)) <;> ((try simp only [upd_app, e0_app, o0_app, Nat.reduceEqDiff, reduceIte]); first | exact AWk.refl _ _ | exact AWk.int (by omega) | exact AWk.int (by rw [w64 (by omega) (by omega)]; omega) | exact AWk.grow rfl | exact AWk.nil _ | exact AWk.of (by simp)))) (by simp only [go_sem, init_env', Nat.reduceEqDiff, Nat.reduceAdd, Nat.reduceMul, reduceIte, Nat.reduceLeDiff, Nat.reduceLT, Nat.reduceBEq, reduceCtorEq]; ((repeat' (first | exact ObjLe_o0 _ | exact ObjLe.rfl' _ | refine ObjLe_same ?_ | refine ObjLe_upd ?_ ?_ | refine ObjLe_new rfl ?_)) <;> rfl)))
          · (refine WV_exit ?_; simp only [go_sem, init_env', Nat.reduceEqDiff, Nat.reduceAdd, Nat.reduceMul, reduceIte, Nat.reduceLeDiff, Nat.reduceLT, Nat.reduceBEq, reduceCtorEq])
            (repeat ((first | refine WV_seq_ ?_ | refine WV_block ?_ | refine WV_ops ?_ | refine WV_skip ?_ | refine WV_exit ?_); (try simp only [go_sem, init_env', Nat.reduceEqDiff, Nat.reduceAdd, Nat.reduceMul, reduceIte, Nat.reduceLeDiff, Nat.reduceLT, Nat.reduceBEq, reduceCtorEq, hP, w3]); (repeat (refine And.intro (by first | omega | (intros; simp_all; done) | (intros; simp_all; omega)) ?_))))
            refine ⟨k + 1, by omega, by omega, ?_⟩
            rw [List.take_succ_eq_append_getElem hkl, List.sum_append]
            (refine Sub_of (by simp only [go_sem, init_env', Nat.reduceEqDiff, Nat.reduceAdd, Nat.reduceMul, reduceIte, Nat.reduceLeDiff, Nat.reduceLT, Nat.reduceBEq, reduceCtorEq]; ((repeat' (first | exact EnvLe_e0 _ _ | refine EnvLe_upd ?_ ?_)) <;> ((try simp only [upd_app, e0_app, o0_app, Nat.reduceEqDiff, reduceIte]); first | exact AWk.refl _ _ | exact AWk.int (by omega) | exact AWk.int (by rw [w64 (by omega) (by omega)]; omega) | exact AWk.grow rfl | exact AWk.nil _ | exact AWk.of (by simp)))) (by simp only [go_sem, init_env', Nat.reduceEqDiff, Nat.reduceAdd, Nat.reduceMul, reduceIte, Nat.reduceLeDiff, Nat.reduceLT, Nat.reduceBEq, reduceCtorEq]; ((repeat' (first | exact ObjLe_o0 _ | exact ObjLe.rfl' _ | refine ObjLe_same ?_ | refine ObjLe_upd ?_ ?_ | refine ObjLe_new rfl ?_)) <;> rfl)))
      · have h : k = S.length := by simp at h; omega
        subst h
        rw [List.take_length, hsum]
        (repeat ((first | refine WV_seq_ ?_ | refine WV_block ?_ | refine WV_ops ?_ | refine WV_skip ?_ | refine WV_exit ?_); (try simp only [go_sem, init_env', Nat.reduceEqDiff, Nat.reduceAdd, Nat.reduceMul, reduceIte, Nat.reduceLeDiff, Nat.reduceLT, Nat.reduceBEq, reduceCtorEq, hP, beq_self_eq_true]); (repeat (refine And.intro (by first | omega | (intros; simp_all; done) | (intros; simp_all; omega)) ?_))))
        (refine AG_pure (fun hG => works14) rfl (fun hG => by simp only [go_sem, init_env', Nat.reduceEqDiff, Nat.reduceAdd, Nat.reduceMul, reduceIte, Nat.reduceLeDiff, Nat.reduceLT, Nat.reduceBEq, reduceCtorEq, hG]) rfl rfl rfl ?_; simp only [go_sem, init_env', Nat.reduceEqDiff, Nat.reduceAdd, Nat.reduceMul, reduceIte, Nat.reduceLeDiff, Nat.reduceLT, Nat.reduceBEq, reduceCtorEq, hP, ]; (repeat (refine And.intro (by first | omega | (intros; simp_all; done) | (intros; simp_all; omega)) ?_)); (repeat ((first | refine WV_seq_ ?_ | refine WV_block ?_ | refine WV_ops ?_ | refine WV_skip ?_ | refine WV_exit ?_); (try simp only [go_sem, init_env', Nat.reduceEqDiff, Nat.reduceAdd, Nat.reduceMul, reduceIte, Nat.reduceLeDiff, Nat.reduceLT, Nat.reduceBEq, reduceCtorEq, hP, ]); (repeat (refine And.intro (by first | omega | (intros; simp_all; done) | (intros; simp_all; omega)) ?_)))))
        (refine WV_ret ?_; simp only [thenQ, inQ, RetQ, RetOk, resAll, resA]; simp only [go_sem, init_env', Nat.reduceEqDiff, Nat.reduceAdd, Nat.reduceMul, reduceIte, Nat.reduceLeDiff, Nat.reduceLT, Nat.reduceBEq, reduceCtorEq, tupA, AV.port, AV.portL, exists_eq_left', ]; (first | exact AVle.of rfl | refine AVle.of ?_ | skip))
  · rw [e1] at c1
    rw [he] at c4
    (repeat ((first | refine WV_seq_ ?_ | refine WV_block ?_ | refine WV_ops ?_ | refine WV_skip ?_ | refine WV_exit ?_); (try simp only [go_sem, init_env', Nat.reduceEqDiff, Nat.reduceAdd, Nat.reduceMul, reduceIte, Nat.reduceLeDiff, Nat.reduceLT, Nat.reduceBEq, reduceCtorEq, hP, ]); (repeat (refine And.intro (by first | omega | (intros; simp_all; done) | (intros; simp_all; omega)) ?_))))
    (refine AS_pure (c1) rfl rfl rfl rfl rfl ?_; simp only [go_sem, init_env', Nat.reduceEqDiff, Nat.reduceAdd, Nat.reduceMul, reduceIte, Nat.reduceLeDiff, Nat.reduceLT, Nat.reduceBEq, reduceCtorEq, hP, Royal.av]; (repeat (refine And.intro (by first | omega | (intros; simp_all; done) | (intros; simp_all; omega)) ?_)); (repeat ((first | refine WV_seq_ ?_ | refine WV_block ?_ | refine WV_ops ?_ | refine WV_skip ?_ | refine WV_exit ?_); (try simp only [go_sem, init_env', Nat.reduceEqDiff, Nat.reduceAdd, Nat.reduceMul, reduceIte, Nat.reduceLeDiff, Nat.reduceLT, Nat.reduceBEq, reduceCtorEq, hP, Royal.av]); (repeat (refine And.intro (by first | omega | (intros; simp_all; done) | (intros; simp_all; omega)) ?_)))))
    (refine AS_pure (c4) rfl rfl rfl rfl rfl ?_; simp only [go_sem, init_env', Nat.reduceEqDiff, Nat.reduceAdd, Nat.reduceMul, reduceIte, Nat.reduceLeDiff, Nat.reduceLT, Nat.reduceBEq, reduceCtorEq, hP, Royal.av]; (repeat (refine And.intro (by first | omega | (intros; simp_all; done) | (intros; simp_all; omega)) ?_)); (repeat ((first | refine WV_seq_ ?_ | refine WV_block ?_ | refine WV_ops ?_ | refine WV_skip ?_ | refine WV_exit ?_); (try simp only [go_sem, init_env', Nat.reduceEqDiff, Nat.reduceAdd, Nat.reduceMul, reduceIte, Nat.reduceLeDiff, Nat.reduceLT, Nat.reduceBEq, reduceCtorEq, hP, Royal.av]); (repeat (refine And.intro (by first | omega | (intros; simp_all; done) | (intros; simp_all; omega)) ?_)))))
    (refine WV_cond rfl (fun h => ?_) (fun h => ?_))
    · simp at h
    clear h
    (repeat ((first | refine WV_seq_ ?_ | refine WV_block ?_ | refine WV_ops ?_ | refine WV_skip ?_ | refine WV_exit ?_); (try simp only [go_sem, init_env', Nat.reduceEqDiff, Nat.reduceAdd, Nat.reduceMul, reduceIte, Nat.reduceLeDiff, Nat.reduceLT, Nat.reduceBEq, reduceCtorEq, hP, ]); (repeat (refine And.intro (by first | omega | (intros; simp_all; done) | (intros; simp_all; omega)) ?_))))
    (refine WV_cond rfl (fun h => ?_) (fun h => ?_))
    · (repeat ((first | refine WV_seq_ ?_ | refine WV_block ?_ | refine WV_ops ?_ | refine WV_skip ?_ | refine WV_exit ?_); (try simp only [go_sem, init_env', Nat.reduceEqDiff, Nat.reduceAdd, Nat.reduceMul, reduceIte, Nat.reduceLeDiff, Nat.reduceLT, Nat.reduceBEq, reduceCtorEq, hP, ints, List.map_nil, List.length_nil, Int.natCast_zero, beq_self_eq_true, Int.cast_ofNat_Int]); (repeat (refine And.intro (by first | omega | (intros; simp_all; done) | (intros; simp_all; omega)) ?_))))
      (refine AG_pure (fun hG => works14) rfl (fun hG => by simp only [go_sem, init_env', Nat.reduceEqDiff, Nat.reduceAdd, Nat.reduceMul, reduceIte, Nat.reduceLeDiff, Nat.reduceLT, Nat.reduceBEq, reduceCtorEq, hG]) rfl rfl rfl ?_; simp only [go_sem, init_env', Nat.reduceEqDiff, Nat.reduceAdd, Nat.reduceMul, reduceIte, Nat.reduceLeDiff, Nat.reduceLT, Nat.reduceBEq, reduceCtorEq, hP, ]; (repeat (refine And.intro (by first | omega | (intros; simp_all; done) | (intros; simp_all; omega)) ?_)); (repeat ((first | refine WV_seq_ ?_ | refine WV_block ?_ | refine WV_ops ?_ | refine WV_skip ?_ | refine WV_exit ?_); (try simp only [go_sem, init_env', Nat.reduceEqDiff, Nat.reduceAdd, Nat.reduceMul, reduceIte, Nat.reduceLeDiff, Nat.reduceLT, Nat.reduceBEq, reduceCtorEq, hP, ]); (repeat (refine And.intro (by first | omega | (intros; simp_all; done) | (intros; simp_all; omega)) ?_)))))
      (refine WV_ret ?_; simp only [thenQ, inQ, RetQ, RetOk, resAll, resA]; simp only [go_sem, init_env', Nat.reduceEqDiff, Nat.reduceAdd, Nat.reduceMul, reduceIte, Nat.reduceLeDiff, Nat.reduceLT, Nat.reduceBEq, reduceCtorEq, tupA, AV.port, AV.portL, exists_eq_left', ]; (first | exact AVle.of rfl | refine AVle.of ?_ | skip))
    · simp at h
end Go.Proofs.Ytnmchaemhjnkgaa
