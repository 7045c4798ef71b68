/-
  Contracts of the layer's functions, of the laws' helpers and of the law; conditions: as each theorem states.
-/
import Derived.Test.YtbejgfpaokcnpaaU4
import Derived.Test.YtbejgfpaokcnpaaChecked
import Derived.Test.YtbejgfpaokcnpaaV3
set_option linter.unusedVariables false
set_option linter.unusedSimpArgs false
namespace Go.Proofs.Ytbejgfpaokcnpaa
open Go Go.V
@[reducible] def o71_0 : List Ins := [⟨(some 6), .mv (.k (.c (.bool false))), none, true⟩]
@[reducible] def o71_1 : List Ins := [⟨(some 7), .mv (.t 1), none, true⟩,
  ⟨(some 8), .mv (.t 0), none, true⟩,
  ⟨(some 9), .bin .leq (.t 7) (.t 8), none, true⟩,
  ⟨(some 10), .mv (.t 9), none, true⟩,
  ⟨(some 11), .mv (.t 0), (some (10, true)), true⟩,
  ⟨(some 12), .mv (.t 2), (some (10, true)), true⟩,
  ⟨(some 13), .bin .leq (.t 11) (.t 12), (some (10, true)), true⟩,
  ⟨(some 14), .pick (.t 10) (.t 13) (.k (.c (.bool false))), none, true⟩,
  ⟨(some 6), .mv (.t 14), none, true⟩]
@[reducible] def v71_2 : VC := (.seq (.ops o71_1) .ret)
def ir71 : FC := ⟨3, 15, [.t 6], (.seq (.ops o71_0) v71_2)⟩
@[reducible] def o55_0 : List Ins := [⟨(some 6), .mv (.k (.c (.bool false))), none, true⟩]
@[reducible] def o55_1 : List Ins := [⟨(some 7), .mv (.t 0), none, true⟩,
  ⟨(some 8), .mv (.t 1), none, true⟩,
  ⟨(some 9), .mv (.t 2), none, true⟩,
  ⟨(some 10), .call (.k (.fn 71 [])) [(.t 7), (.t 8), (.t 9)], none, true⟩,
  ⟨(some 6), .mv (.t 10), none, true⟩]
@[reducible] def v55_2 : VC := (.seq (.ops o55_1) .ret)
def ir55 : FC := ⟨3, 11, [.t 6], (.seq (.ops o55_0) v55_2)⟩
@[reducible] def o47_0 : List Ins := [⟨(some 4), .mv (.k (.c (.bool false))), none, true⟩]
@[reducible] def o47_1 : List Ins := [⟨(some 5), .mv (.k (.c (.int .i64 0))), none, true⟩]
@[reducible] def o47_2 : List Ins := [⟨(some 6), .mv (.t 5), none, true⟩,
  ⟨(some 7), .mv (.t 0), none, true⟩,
  ⟨(some 8), .len (.t 7), none, true⟩,
  ⟨(some 9), .bin .lss (.t 6) (.t 8), none, true⟩]
@[reducible] def v47_3 : VC := (.cond (.t 9) .skip (.exit 0))
@[reducible] def o47_4 : List Ins := [⟨(some 12), .mv (.t 0), none, true⟩,
  ⟨(some 13), .mv (.t 5), none, true⟩,
  ⟨(some 14), .ia 1 (.t 12) (.t 13), none, true⟩,
  ⟨(some 15), .ld true 1 (.t 14), none, true⟩,
  ⟨(some 16), .mv (.t 1), none, true⟩,
  ⟨(some 17), .bin .eql (.t 15) (.t 16), none, true⟩]
@[reducible] def o47_5 : List Ins := [⟨(some 4), .mv (.k (.c (.bool true))), none, true⟩]
@[reducible] def v47_6 : VC := (.seq (.ops o47_5) .ret)
@[reducible] def v47_7 : VC := (.cond (.t 17) v47_6 .skip)
@[reducible] def v47_8 : VC := (.seq (.ops o47_4) v47_7)
@[reducible] def o47_9 : List Ins := [⟨(some 10), .mv (.t 5), none, true⟩,
  ⟨(some 11), .bin .add (.t 10) (.k (.c (.int .i64 1))), none, true⟩,
  ⟨(some 5), .mv (.t 11), none, true⟩]
@[reducible] def v47_10 : VC := (.seq (.block 1 v47_8) (.ops o47_9))
@[reducible] def v47_11 : VC := (.seq (.seq (.ops o47_2) v47_3) v47_10)
-- K47_1: changed and kept: [5]
@[reducible] def K47_1 : List Nat := [0, 1]
@[reducible] def v47_12 : VC := (.loop v47_11)
@[reducible] def v47_13 : VC := (.block 0 v47_12)
@[reducible] def o47_14 : List Ins := [⟨(some 4), .mv (.k (.c (.bool false))), none, true⟩]
@[reducible] def v47_15 : VC := (.seq (.ops o47_14) .ret)
@[reducible] def v47_16 : VC := (.seq (.seq (.ops o47_1) v47_13) v47_15)
def ir47 : FC := ⟨2, 18, [.t 4], (.seq (.ops o47_0) v47_16)⟩
@[reducible] def o34_0 : List Ins := [⟨(some 4), .mv (.k (.c (.bool false))), none, true⟩]
@[reducible] def o34_1 : List Ins := [⟨(some 6), .mv (.t 0), none, true⟩,
  ⟨(some 7), .len (.t 6), none, true⟩,
  ⟨(some 8), .mv (.t 1), none, true⟩,
  ⟨(some 9), .len (.t 8), none, true⟩,
  ⟨(some 10), .bin .neq (.t 7) (.t 9), none, true⟩]
@[reducible] def o34_2 : List Ins := [⟨(some 4), .mv (.k (.c (.bool false))), none, true⟩]
@[reducible] def v34_3 : VC := (.seq (.ops o34_2) .ret)
@[reducible] def v34_4 : VC := (.cond (.t 10) v34_3 .skip)
@[reducible] def o34_5 : List Ins := [⟨(some 5), .mv (.k (.c (.int .i64 0))), none, true⟩]
@[reducible] def o34_6 : List Ins := [⟨(some 11), .mv (.t 5), none, true⟩,
  ⟨(some 12), .mv (.t 0), none, true⟩,
  ⟨(some 13), .len (.t 12), none, true⟩,
  ⟨(some 14), .bin .lss (.t 11) (.t 13), none, true⟩]
@[reducible] def v34_7 : VC := (.cond (.t 14) .skip (.exit 0))
@[reducible] def o34_8 : List Ins := [⟨(some 17), .mv (.t 0), none, false⟩,
  ⟨(some 18), .mv (.t 5), none, false⟩,
  ⟨(some 19), .ia 1 (.t 17) (.t 18), none, false⟩,
  ⟨(some 20), .ld true 1 (.t 19), none, false⟩,
  ⟨(some 21), .mv (.t 1), none, false⟩,
  ⟨(some 22), .mv (.t 5), none, false⟩,
  ⟨(some 23), .ia 1 (.t 21) (.t 22), none, false⟩,
  ⟨(some 24), .ld true 1 (.t 23), none, false⟩,
  ⟨(some 25), .bin .neq (.t 20) (.t 24), none, true⟩]
@[reducible] def o34_9 : List Ins := [⟨(some 4), .mv (.k (.c (.bool false))), none, true⟩]
@[reducible] def v34_10 : VC := (.seq (.ops o34_9) .ret)
@[reducible] def v34_11 : VC := (.cond (.t 25) v34_10 .skip)
@[reducible] def v34_12 : VC := (.seq (.ops o34_8) v34_11)
@[reducible] def o34_13 : List Ins := [⟨(some 15), .mv (.t 5), none, true⟩,
  ⟨(some 16), .bin .add (.t 15) (.k (.c (.int .i64 1))), none, true⟩,
  ⟨(some 5), .mv (.t 16), none, true⟩]
@[reducible] def v34_14 : VC := (.seq (.block 1 v34_12) (.ops o34_13))
@[reducible] def v34_15 : VC := (.seq (.seq (.ops o34_6) v34_7) v34_14)
-- K34_1: changed and kept: [5]
@[reducible] def K34_1 : List Nat := [0, 1]
@[reducible] def v34_16 : VC := (.loop v34_15)
@[reducible] def v34_17 : VC := (.block 0 v34_16)
@[reducible] def o34_18 : List Ins := [⟨(some 4), .mv (.k (.c (.bool true))), none, true⟩]
@[reducible] def v34_19 : VC := (.seq (.ops o34_18) .ret)
@[reducible] def v34_20 : VC := (.seq (.seq (.ops o34_5) v34_17) v34_19)
@[reducible] def v34_21 : VC := (.seq (.seq (.ops o34_1) v34_4) v34_20)
def ir34 : FC := ⟨2, 26, [.t 4], (.seq (.ops o34_0) v34_21)⟩
@[reducible] def o27_0 : List Ins := [⟨(some 1), .box 3 (.t 0), none, true⟩,
  ⟨(some 2), .mv (.k (.c (.int .i64 0))), none, true⟩]
@[reducible] def o27_1 : List Ins := [⟨(some 8), .fa 0 (.t 1), none, true⟩,
  ⟨(some 9), .ld true 1 (.t 8), none, true⟩,
  ⟨(some 10), .len (.t 9), none, true⟩,
  ⟨(some 3), .mv (.t 10), none, true⟩]
@[reducible] def o27_2 : List Ins := [⟨(some 11), .mv (.t 3), none, true⟩,
  ⟨(some 12), .bin .gtr (.t 11) (.k (.c (.int .i64 7))), none, true⟩,
  ⟨(some 13), .mv (.t 12), none, true⟩,
  ⟨(some 14), .fa 1 (.t 1), (some (13, false)), true⟩,
  ⟨(some 15), .ld true 1 (.t 14), (some (13, false)), true⟩,
  ⟨(some 16), .len (.t 15), (some (13, false)), true⟩,
  ⟨(some 17), .mv (.t 3), (some (13, false)), true⟩,
  ⟨(some 18), .bin .add (.t 17) (.k (.c (.int .i64 1))), (some (13, false)), true⟩,
  ⟨(some 19), .bin .neq (.t 16) (.t 18), (some (13, false)), true⟩,
  ⟨(some 20), .pick (.t 13) (.k (.c (.bool true))) (.t 19), none, true⟩,
  ⟨(some 21), .mv (.t 20), none, true⟩,
  ⟨(some 22), .fa 2 (.t 1), (some (21, false)), true⟩,
  ⟨(some 23), .ld true 1 (.t 22), (some (21, false)), true⟩,
  ⟨(some 24), .call (.k (.fn 55 [])) [(.t 23), (.k (.c (.int .i64 0))), (.k (.c (.int .i64 1440)))], (some (21, false)), true⟩,
  ⟨(some 25), .un .not (.t 24), (some (21, false)), true⟩,
  ⟨(some 26), .pick (.t 21) (.k (.c (.bool true))) (.t 25), none, true⟩]
@[reducible] def o27_3 : List Ins := [⟨(some 2), .mv (.k (.c (.int .i64 80))), none, true⟩]
@[reducible] def v27_4 : VC := (.seq (.ops o27_3) .ret)
@[reducible] def v27_5 : VC := (.cond (.t 26) v27_4 .skip)
@[reducible] def o27_6 : List Ins := [⟨(some 4), .mv (.k (.c (.int .i64 0))), none, true⟩]
@[reducible] def o27_7 : List Ins := [⟨(some 27), .mv (.t 4), none, true⟩,
  ⟨(some 28), .mv (.t 3), none, true⟩,
  ⟨(some 29), .bin .lss (.t 27) (.t 28), none, true⟩]
@[reducible] def v27_8 : VC := (.cond (.t 29) .skip (.exit 0))
@[reducible] def o27_9 : List Ins := [⟨(some 32), .fa 0 (.t 1), none, true⟩,
  ⟨(some 33), .ld true 1 (.t 32), none, true⟩,
  ⟨(some 34), .mv (.t 4), none, true⟩,
  ⟨(some 35), .ia 4 (.t 33) (.t 34), none, true⟩,
  ⟨(some 36), .ld false 4 (.t 35), none, true⟩,
  ⟨(some 5), .alloc [(.c (.int .i64 0)), (.c (.int .i64 0)), (.c (.int .i64 0)), (.c (.int .i64 0))], none, true⟩,
  ⟨none, .st 4 (.t 5) (.t 36), none, true⟩]
@[reducible] def o27_10 : List Ins := [⟨(some 37), .fa 0 (.t 5), none, true⟩,
  ⟨(some 38), .ld true 1 (.t 37), none, true⟩,
  ⟨(some 39), .fa 1 (.t 5), none, true⟩,
  ⟨(some 40), .ld true 1 (.t 39), none, true⟩,
  ⟨(some 41), .call (.k (.fn 55 [])) [(.t 38), (.k (.c (.int .i64 0))), (.t 40)], none, true⟩,
  ⟨(some 42), .un .not (.t 41), none, true⟩,
  ⟨(some 43), .mv (.t 42), none, true⟩,
  ⟨(some 44), .fa 1 (.t 5), (some (43, false)), true⟩,
  ⟨(some 45), .ld true 1 (.t 44), (some (43, false)), true⟩,
  ⟨(some 46), .bin .gtr (.t 45) (.k (.c (.int .i64 1440))), (some (43, false)), true⟩,
  ⟨(some 47), .pick (.t 43) (.k (.c (.bool true))) (.t 46), none, true⟩,
  ⟨(some 48), .mv (.t 47), none, true⟩,
  ⟨(some 49), .fa 2 (.t 5), (some (48, false)), true⟩,
  ⟨(some 50), .ld true 1 (.t 49), (some (48, false)), true⟩,
  ⟨(some 51), .call (.k (.fn 55 [])) [(.t 50), (.k (.c (.int .i64 0))), (.k (.c (.int .i64 1440)))], (some (48, false)), true⟩,
  ⟨(some 52), .un .not (.t 51), (some (48, false)), true⟩,
  ⟨(some 53), .pick (.t 48) (.k (.c (.bool true))) (.t 52), none, true⟩,
  ⟨(some 54), .mv (.t 53), none, true⟩,
  ⟨(some 55), .fa 3 (.t 5), (some (54, false)), true⟩,
  ⟨(some 56), .ld true 1 (.t 55), (some (54, false)), true⟩,
  ⟨(some 57), .call (.k (.fn 55 [])) [(.t 56), (.k (.c (.int .i64 0))), (.k (.c (.int .i64 99999)))], (some (54, false)), true⟩,
  ⟨(some 58), .un .not (.t 57), (some (54, false)), true⟩,
  ⟨(some 59), .pick (.t 54) (.k (.c (.bool true))) (.t 58), none, true⟩]
@[reducible] def o27_11 : List Ins := [⟨(some 2), .mv (.k (.c (.int .i64 80))), none, true⟩]
@[reducible] def v27_12 : VC := (.seq (.ops o27_11) .ret)
@[reducible] def v27_13 : VC := (.cond (.t 59) v27_12 .skip)
@[reducible] def v27_14 : VC := (.seq (.ops o27_10) v27_13)
@[reducible] def v27_15 : VC := (.seq (.ops o27_9) v27_14)
@[reducible] def o27_16 : List Ins := [⟨(some 30), .mv (.t 4), none, true⟩,
  ⟨(some 31), .bin .add (.t 30) (.k (.c (.int .i64 1))), none, true⟩,
  ⟨(some 4), .mv (.t 31), none, true⟩]
@[reducible] def v27_17 : VC := (.seq (.block 1 v27_15) (.ops o27_16))
@[reducible] def v27_18 : VC := (.seq (.seq (.ops o27_7) v27_8) v27_17)
-- K27_1: changed and kept: [4]
@[reducible] def K27_1 : List Nat := [1, 3]
@[reducible] def v27_19 : VC := (.loop v27_18)
@[reducible] def v27_20 : VC := (.block 0 v27_19)
@[reducible] def o27_21 : List Ins := [⟨(some 6), .mv (.k (.c (.int .i64 0))), none, true⟩]
@[reducible] def o27_22 : List Ins := [⟨(some 60), .mv (.t 6), none, true⟩,
  ⟨(some 61), .mv (.t 3), none, true⟩,
  ⟨(some 62), .bin .leq (.t 60) (.t 61), none, true⟩]
@[reducible] def v27_23 : VC := (.cond (.t 62) .skip (.exit 2))
@[reducible] def o27_24 : List Ins := [⟨(some 65), .fa 1 (.t 1), none, true⟩,
  ⟨(some 66), .ld true 1 (.t 65), none, true⟩,
  ⟨(some 67), .mv (.t 6), none, true⟩,
  ⟨(some 68), .ia 1 (.t 66) (.t 67), none, true⟩,
  ⟨(some 69), .ld true 1 (.t 68), none, true⟩,
  ⟨(some 70), .len (.t 69), none, true⟩,
  ⟨(some 71), .mv (.t 3), none, true⟩,
  ⟨(some 72), .bin .add (.t 71) (.k (.c (.int .i64 1))), none, true⟩,
  ⟨(some 73), .bin .neq (.t 70) (.t 72), none, true⟩,
  ⟨(some 74), .mv (.t 73), none, true⟩,
  ⟨(some 75), .fa 1 (.t 1), (some (74, false)), true⟩,
  ⟨(some 76), .ld true 1 (.t 75), (some (74, false)), true⟩,
  ⟨(some 77), .mv (.t 6), (some (74, false)), true⟩,
  ⟨(some 78), .ia 1 (.t 76) (.t 77), (some (74, false)), true⟩,
  ⟨(some 79), .ld true 1 (.t 78), (some (74, false)), true⟩,
  ⟨(some 80), .mv (.t 6), (some (74, false)), true⟩,
  ⟨(some 81), .ia 1 (.t 79) (.t 80), (some (74, false)), true⟩,
  ⟨(some 82), .ld true 1 (.t 81), (some (74, false)), true⟩,
  ⟨(some 83), .bin .neq (.t 82) (.k (.c (.int .i64 0))), (some (74, false)), true⟩,
  ⟨(some 84), .pick (.t 74) (.k (.c (.bool true))) (.t 83), none, true⟩]
@[reducible] def o27_25 : List Ins := [⟨(some 2), .mv (.k (.c (.int .i64 80))), none, true⟩]
@[reducible] def v27_26 : VC := (.seq (.ops o27_25) .ret)
@[reducible] def v27_27 : VC := (.cond (.t 84) v27_26 .skip)
@[reducible] def o27_28 : List Ins := [⟨(some 7), .mv (.k (.c (.int .i64 0))), none, true⟩]
@[reducible] def o27_29 : List Ins := [⟨(some 85), .mv (.t 7), none, true⟩,
  ⟨(some 86), .mv (.t 3), none, true⟩,
  ⟨(some 87), .bin .leq (.t 85) (.t 86), none, true⟩]
@[reducible] def v27_30 : VC := (.cond (.t 87) .skip (.exit 4))
@[reducible] def o27_31 : List Ins := [⟨(some 90), .fa 1 (.t 1), none, true⟩,
  ⟨(some 91), .ld true 1 (.t 90), none, true⟩,
  ⟨(some 92), .mv (.t 6), none, true⟩,
  ⟨(some 93), .ia 1 (.t 91) (.t 92), none, true⟩,
  ⟨(some 94), .ld true 1 (.t 93), none, true⟩,
  ⟨(some 95), .mv (.t 7), none, true⟩,
  ⟨(some 96), .ia 1 (.t 94) (.t 95), none, true⟩,
  ⟨(some 97), .ld true 1 (.t 96), none, true⟩,
  ⟨(some 98), .call (.k (.fn 55 [])) [(.t 97), (.k (.c (.int .i64 0))), (.k (.c (.int .i64 999)))], none, true⟩,
  ⟨(some 99), .un .not (.t 98), none, true⟩]
@[reducible] def o27_32 : List Ins := [⟨(some 2), .mv (.k (.c (.int .i64 80))), none, true⟩]
@[reducible] def v27_33 : VC := (.seq (.ops o27_32) .ret)
@[reducible] def v27_34 : VC := (.cond (.t 99) v27_33 .skip)
@[reducible] def v27_35 : VC := (.seq (.ops o27_31) v27_34)
@[reducible] def o27_36 : List Ins := [⟨(some 88), .mv (.t 7), none, true⟩,
  ⟨(some 89), .bin .add (.t 88) (.k (.c (.int .i64 1))), none, true⟩,
  ⟨(some 7), .mv (.t 89), none, true⟩]
@[reducible] def v27_37 : VC := (.seq (.block 5 v27_35) (.ops o27_36))
@[reducible] def v27_38 : VC := (.seq (.seq (.ops o27_29) v27_30) v27_37)
-- K27_3: changed and kept: [7]
@[reducible] def K27_3 : List Nat := [1, 3, 6]
@[reducible] def v27_39 : VC := (.loop v27_38)
@[reducible] def v27_40 : VC := (.block 4 v27_39)
@[reducible] def v27_41 : VC := (.seq (.ops o27_28) v27_40)
@[reducible] def v27_42 : VC := (.seq (.seq (.ops o27_24) v27_27) v27_41)
@[reducible] def o27_43 : List Ins := [⟨(some 63), .mv (.t 6), none, true⟩,
  ⟨(some 64), .bin .add (.t 63) (.k (.c (.int .i64 1))), none, true⟩,
  ⟨(some 6), .mv (.t 64), none, true⟩]
@[reducible] def v27_44 : VC := (.seq (.block 3 v27_42) (.ops o27_43))
@[reducible] def v27_45 : VC := (.seq (.seq (.ops o27_22) v27_23) v27_44)
-- K27_2: changed and kept: [6]
@[reducible] def K27_2 : List Nat := [1, 3]
@[reducible] def v27_46 : VC := (.loop v27_45)
@[reducible] def v27_47 : VC := (.block 2 v27_46)
@[reducible] def o27_48 : List Ins := [⟨(some 2), .mv (.k (.c (.int .i64 0))), none, true⟩]
@[reducible] def v27_49 : VC := (.seq (.ops o27_48) .ret)
@[reducible] def v27_50 : VC := (.seq (.seq (.ops o27_21) v27_47) v27_49)
@[reducible] def v27_51 : VC := (.seq (.seq (.ops o27_6) v27_20) v27_50)
@[reducible] def v27_52 : VC := (.seq (.seq (.ops o27_2) v27_5) v27_51)
@[reducible] def v27_53 : VC := (.seq (.ops o27_1) v27_52)
def ir27 : FC := ⟨1, 100, [.t 2], (.seq (.ops o27_0) v27_53)⟩
theorem c71 : compM Try.prog [] 71 = some ir71 := by kernel_rfl
theorem c55 : compM Try.prog [] 55 = some ir55 := by kernel_rfl
theorem c47 : compM Try.prog [] 47 = some ir47 := by kernel_rfl
theorem c34 : compM Try.prog [] 34 = some ir34 := by kernel_rfl
theorem c27 : compM Try.prog [] 27 = some ir27 := by kernel_rfl



theorem wi71 (a b c : Int) : FSpec Try.prog 71 [iv a, iv b, iv c] (.c (.bool (within a b c))) := by
  refine FSpec_of c71 (Nat.le_refl _) (by decide) fun C hP hN hC hL => ?_
  simp only [ir71]
  (refine WV_seq_ (WV_ops ?_); simp only [go_sem, init_env', Nat.reduceEqDiff, Nat.reduceAdd, Nat.reduceMul, reduceIte, Nat.reduceLeDiff, Nat.reduceLT, Nat.reduceBEq, reduceCtorEq, hP, ]; (repeat (refine And.intro (by first | omega | (intros; simp_all; done) | (intros; simp_all; omega)) ?_)))
  (refine WV_seq_ (WV_ops ?_); simp only [go_sem, init_env', Nat.reduceEqDiff, Nat.reduceAdd, Nat.reduceMul, reduceIte, Nat.reduceLeDiff, Nat.reduceLT, Nat.reduceBEq, reduceCtorEq, hP, ]; (repeat (refine And.intro (by first | omega | (intros; simp_all; done) | (intros; simp_all; omega)) ?_)))
  (refine WV_ret ?_; simp only [thenQ, inQ, RetQ, RetOk, resAll, resA]; simp only [go_sem, init_env', Nat.reduceEqDiff, Nat.reduceAdd, Nat.reduceMul, reduceIte, Nat.reduceLeDiff, Nat.reduceLT, Nat.reduceBEq, reduceCtorEq, tupA, AV.port, AV.portL, exists_eq_left', ]; (first | exact AVle.of rfl | refine AVle.of ?_ | skip))

theorem wi55 (a b c : Int) : FSpec Try.prog 55 [iv a, iv b, iv c] (.c (.bool (within a b c))) := by
  refine FSpec_of c55 (Nat.le_refl _) (by decide) fun C hP hN hC hL => ?_
  simp only [ir55]
  (refine WV_seq_ (WV_ops ?_); simp only [go_sem, init_env', Nat.reduceEqDiff, Nat.reduceAdd, Nat.reduceMul, reduceIte, Nat.reduceLeDiff, Nat.reduceLT, Nat.reduceBEq, reduceCtorEq, hP, ]; (repeat (refine And.intro (by first | omega | (intros; simp_all; done) | (intros; simp_all; omega)) ?_)))
  refine WV_seq_ (WV_ops ?_)
  simp only [go_sem, init_env', Nat.reduceEqDiff, Nat.reduceAdd, Nat.reduceMul, reduceIte, Nat.reduceLeDiff, Nat.reduceLT, Nat.reduceBEq, reduceCtorEq, hP]
  (refine AS_pure (wi71 _ _ _) rfl rfl rfl rfl rfl ?_; simp only [go_sem, init_env', Nat.reduceEqDiff, Nat.reduceAdd, Nat.reduceMul, reduceIte, Nat.reduceLeDiff, Nat.reduceLT, Nat.reduceBEq, reduceCtorEq, hP, ]; (repeat (refine And.intro (by first | omega | (intros; simp_all; done) | (intros; simp_all; omega)) ?_)))
  (refine WV_ret ?_; simp only [thenQ, inQ, RetQ, RetOk, resAll, resA]; simp only [go_sem, init_env', Nat.reduceEqDiff, Nat.reduceAdd, Nat.reduceMul, reduceIte, Nat.reduceLeDiff, Nat.reduceLT, Nat.reduceBEq, reduceCtorEq, tupA, AV.port, AV.portL, exists_eq_left', ]; (first | exact AVle.of rfl | refine AVle.of ?_ | skip))

theorem in47 (l : List Int) (n : Int) : FSpec Try.prog 47 [.c (ints l), iv n] (.c (.bool (decide (n ∈ l)))) := by
  refine FSpec_of c47 (Nat.le_refl _) (by decide) fun C hP hN hC hL => ?_
  have hl : l.length ≤ 9223372036854775807 := by simp only [AV.lensL, AV.lens] at hL; exact ints_lens hL.1
  simp only [ir47]
  (refine WV_seq_ (WV_ops ?_); simp only [go_sem, init_env', Nat.reduceEqDiff, Nat.reduceAdd, Nat.reduceMul, reduceIte, Nat.reduceLeDiff, Nat.reduceLT, Nat.reduceBEq, reduceCtorEq, hP, ]; (repeat (refine And.intro (by first | omega | (intros; simp_all; done) | (intros; simp_all; omega)) ?_)))
  refine WV_seq_ (WV_seq_ (WV_ops ?_))
  simp only [go_sem, init_env', Nat.reduceEqDiff, Nat.reduceAdd, Nat.reduceMul, reduceIte, Nat.reduceLeDiff, Nat.reduceLT, Nat.reduceBEq, reduceCtorEq, hP]
  refine WV_block ?_
  refine WV_loopK K47_1 [] (fun k : Nat => k ≤ l.length ∧ n ∉ l.take k) (fun k => l.length - k) (fun k => [(5, iv k)]) (fun _ => []) 0 (by simp) ?_ ?_
  · (refine Sub_of (by simp only [go_sem, init_env', Nat.reduceEqDiff, Nat.reduceAdd, Nat.reduceMul, reduceIte, Nat.reduceLeDiff, Nat.reduceLT, Nat.reduceBEq, reduceCtorEq]; ((repeat' (first | exact EnvLe_e0 _ _ | refine EnvLe_upd ?_ ?_)) <;> ((try simp only [upd_app, e0_app, o0_app, Nat.reduceEqDiff, reduceIte]); first | exact AWk.refl _ _ | exact AWk.int (by omega) | exact AWk.int (by rw [w64 (by omega) (by omega)]; omega) | exact AWk.grow rfl | exact AWk.nil _ | exact AWk.of (by simp)))) (by simp only [go_sem, init_env', Nat.reduceEqDiff, Nat.reduceAdd, Nat.reduceMul, reduceIte, Nat.reduceLeDiff, Nat.reduceLT, Nat.reduceBEq, reduceCtorEq]; (first | ((repeat' (first | exact ObjLe_o0 _ | exact ObjLe.rfl' _ | refine ObjLe_same ?_ | refine ObjLe_upd ?_ ?_ | refine ObjLe_new rfl ?_)) <;> rfl) | (refine ObjLe_X ?_; (repeat' (first | exact ObjLeX_o0 _ _ | refine ObjLeX_skip rfl ?_ | refine ObjLeX_upd ?_ ?_)) <;> rfl))))
  · intro k ⟨hk, hn⟩
    simp only [go_sem, init_env', Nat.reduceEqDiff, Nat.reduceAdd, Nat.reduceMul, reduceIte, Nat.reduceLeDiff, Nat.reduceLT, Nat.reduceBEq, reduceCtorEq]
    refine WV_seq_ (WV_seq_ (WV_ops ?_))
    simp only [go_sem, init_env', Nat.reduceEqDiff, Nat.reduceAdd, Nat.reduceMul, reduceIte, Nat.reduceLeDiff, Nat.reduceLT, Nat.reduceBEq, reduceCtorEq, hP, ints]
    (refine WV_cond rfl (fun h => ?_) (fun h => ?_))
    · simp only [decide_eq_true_eq, Int.ofNat_lt] at h
      (refine WV_skip ?_; simp only [go_sem, init_env', Nat.reduceEqDiff, Nat.reduceAdd, Nat.reduceMul, reduceIte, Nat.reduceLeDiff, Nat.reduceLT, Nat.reduceBEq, reduceCtorEq])
      refine WV_seq_ (WV_block (WV_seq_ (WV_ops ?_)))
      simp only [go_sem, init_env', Nat.reduceEqDiff, Nat.reduceAdd, Nat.reduceMul, reduceIte, Nat.reduceLeDiff, Nat.reduceLT, Nat.reduceBEq, reduceCtorEq, hP, ints, Int.toNat_natCast, map_getD h, Int.ofNat_lt, h, Int.natCast_nonneg]
      have htk : l.take (k + 1) = l.take k ++ [l[k]] := List.take_succ_eq_append_getElem h
      refine WV_cond rfl (fun h2 => ?_) (fun h2 => ?_)
      · (refine WV_seq_ (WV_ops ?_); simp only [go_sem, init_env', Nat.reduceEqDiff, Nat.reduceAdd, Nat.reduceMul, reduceIte, Nat.reduceLeDiff, Nat.reduceLT, Nat.reduceBEq, reduceCtorEq, hP, ]; (repeat (refine And.intro (by first | omega | (intros; simp_all; done) | (intros; simp_all; omega)) ?_)))
        simp only [beq_iff_eq] at h2
        have : n ∈ l := h2 ▸ List.getElem_mem h
        (refine WV_ret ?_; simp only [thenQ, inQ, RetQ, RetOk, resAll, resA]; simp only [go_sem, init_env', Nat.reduceEqDiff, Nat.reduceAdd, Nat.reduceMul, reduceIte, Nat.reduceLeDiff, Nat.reduceLT, Nat.reduceBEq, reduceCtorEq, tupA, AV.port, AV.portL, exists_eq_left', ]; (first | exact AVle.of rfl | refine AVle.of ?_ | skip))
        simp [this]
      · (refine WV_skip ?_; simp only [go_sem, init_env', Nat.reduceEqDiff, Nat.reduceAdd, Nat.reduceMul, reduceIte, Nat.reduceLeDiff, Nat.reduceLT, Nat.reduceBEq, reduceCtorEq])
        (refine WV_ops ?_; simp only [go_sem, init_env', Nat.reduceEqDiff, Nat.reduceAdd, Nat.reduceMul, reduceIte, Nat.reduceLeDiff, Nat.reduceLT, Nat.reduceBEq, reduceCtorEq, hP, ]; (repeat (refine And.intro (by first | omega | (intros; simp_all; done) | (intros; simp_all; omega)) ?_)))
        simp only [beq_eq_false_iff_ne, ne_eq] at h2
        refine ⟨k + 1, ⟨by omega, by rw [htk, List.mem_append]; simp [hn]; exact fun e => h2 e.symm⟩, by omega, ?_⟩
        (refine Sub_of (by simp only [go_sem, init_env', Nat.reduceEqDiff, Nat.reduceAdd, Nat.reduceMul, reduceIte, Nat.reduceLeDiff, Nat.reduceLT, Nat.reduceBEq, reduceCtorEq]; ((repeat' (first | exact EnvLe_e0 _ _ | refine EnvLe_upd ?_ ?_)) <;> ((try simp only [upd_app, e0_app, o0_app, Nat.reduceEqDiff, reduceIte]); first | exact AWk.refl _ _ | exact AWk.int (by omega) | exact AWk.int (by rw [w64 (by omega) (by omega)]; omega) | exact AWk.grow rfl | exact AWk.nil _ | exact AWk.of (by simp)))) (by simp only [go_sem, init_env', Nat.reduceEqDiff, Nat.reduceAdd, Nat.reduceMul, reduceIte, Nat.reduceLeDiff, Nat.reduceLT, Nat.reduceBEq, reduceCtorEq]; (first | ((repeat' (first | exact ObjLe_o0 _ | exact ObjLe.rfl' _ | refine ObjLe_same ?_ | refine ObjLe_upd ?_ ?_ | refine ObjLe_new rfl ?_)) <;> rfl) | (refine ObjLe_X ?_; (repeat' (first | exact ObjLeX_o0 _ _ | refine ObjLeX_skip rfl ?_ | refine ObjLeX_upd ?_ ?_)) <;> rfl))))
    · simp only [decide_eq_false_iff_not, Int.ofNat_lt] at h
      (refine WV_exit ?_; simp only [go_sem, init_env', Nat.reduceEqDiff, Nat.reduceAdd, Nat.reduceMul, reduceIte, Nat.reduceLeDiff, Nat.reduceLT, Nat.reduceBEq, reduceCtorEq])
      (refine WV_seq_ (WV_ops ?_); simp only [go_sem, init_env', Nat.reduceEqDiff, Nat.reduceAdd, Nat.reduceMul, reduceIte, Nat.reduceLeDiff, Nat.reduceLT, Nat.reduceBEq, reduceCtorEq, hP, ]; (repeat (refine And.intro (by first | omega | (intros; simp_all; done) | (intros; simp_all; omega)) ?_)))
      have : n ∉ l := by rwa [List.take_of_length_le (by omega)] at hn
      (refine WV_ret ?_; simp only [thenQ, inQ, RetQ, RetOk, resAll, resA]; simp only [go_sem, init_env', Nat.reduceEqDiff, Nat.reduceAdd, Nat.reduceMul, reduceIte, Nat.reduceLeDiff, Nat.reduceLT, Nat.reduceBEq, reduceCtorEq, tupA, AV.port, AV.portL, exists_eq_left', ]; (first | exact AVle.of rfl | refine AVle.of ?_ | skip))
      simp [this]

theorem same34 (l m : List Int) : FSpec Try.prog 34 [.c (ints l), .c (ints m)] (.c (.bool (decide (l = m)))) := by
  refine FSpec_of c34 (Nat.le_refl _) (by decide) fun C hP hN hC hL => ?_
  have hl : l.length ≤ 9223372036854775807 := by simp only [AV.lensL, AV.lens] at hL; exact ints_lens hL.1
  simp only [ir34]
  (refine WV_seq_ (WV_ops ?_); simp only [go_sem, init_env', Nat.reduceEqDiff, Nat.reduceAdd, Nat.reduceMul, reduceIte, Nat.reduceLeDiff, Nat.reduceLT, Nat.reduceBEq, reduceCtorEq, hP, ]; (repeat (refine And.intro (by first | omega | (intros; simp_all; done) | (intros; simp_all; omega)) ?_)))
  refine WV_seq_ (WV_seq_ (WV_ops ?_))
  simp only [go_sem, init_env', Nat.reduceEqDiff, Nat.reduceAdd, Nat.reduceMul, reduceIte, Nat.reduceLeDiff, Nat.reduceLT, Nat.reduceBEq, reduceCtorEq, hP, ints]
  (refine WV_cond rfl (fun h => ?_) (fun h => ?_))
  · simp only [ibne, Bool.not_eq_true', beq_eq_false_iff_ne] at h
    (refine WV_seq_ (WV_ops ?_); simp only [go_sem, init_env', Nat.reduceEqDiff, Nat.reduceAdd, Nat.reduceMul, reduceIte, Nat.reduceLeDiff, Nat.reduceLT, Nat.reduceBEq, reduceCtorEq, hP, ]; (repeat (refine And.intro (by first | omega | (intros; simp_all; done) | (intros; simp_all; omega)) ?_)))
    (refine WV_ret ?_; simp only [thenQ, inQ, RetQ, RetOk, resAll, resA]; simp only [go_sem, init_env', Nat.reduceEqDiff, Nat.reduceAdd, Nat.reduceMul, reduceIte, Nat.reduceLeDiff, Nat.reduceLT, Nat.reduceBEq, reduceCtorEq, tupA, AV.port, AV.portL, exists_eq_left', ]; (first | exact AVle.of rfl | refine AVle.of ?_ | skip))
    simp only [show l ≠ m from fun e => h (by rw [e]), decide_false]
  · simp only [ibne, Bool.not_eq_false', beq_iff_eq] at h
    (refine WV_skip ?_; simp only [go_sem, init_env', Nat.reduceEqDiff, Nat.reduceAdd, Nat.reduceMul, reduceIte, Nat.reduceLeDiff, Nat.reduceLT, Nat.reduceBEq, reduceCtorEq])
    refine WV_seq_ (WV_seq_ (WV_ops ?_))
    simp only [go_sem, init_env', Nat.reduceEqDiff, Nat.reduceAdd, Nat.reduceMul, reduceIte, Nat.reduceLeDiff, Nat.reduceLT, Nat.reduceBEq, reduceCtorEq, hP]
    refine WV_block ?_
    (refine WV_loopK K34_1 [] (fun k : Nat => k ≤ l.length ∧ l.take k = m.take k) (fun k => l.length - k) (fun k => [(5, iv k)]) (fun _ => []) 0 ⟨Nat.zero_le _, by simp⟩ ?_ ?_)
    · (refine Sub_of (by simp only [go_sem, init_env', Nat.reduceEqDiff, Nat.reduceAdd, Nat.reduceMul, reduceIte, Nat.reduceLeDiff, Nat.reduceLT, Nat.reduceBEq, reduceCtorEq]; ((repeat' (first | exact EnvLe_e0 _ _ | refine EnvLe_upd ?_ ?_)) <;> ((try simp only [upd_app, e0_app, o0_app, Nat.reduceEqDiff, reduceIte]); first | exact AWk.refl _ _ | exact AWk.int (by omega) | exact AWk.int (by rw [w64 (by omega) (by omega)]; omega) | exact AWk.grow rfl | exact AWk.nil _ | exact AWk.of (by simp)))) (by simp only [go_sem, init_env', Nat.reduceEqDiff, Nat.reduceAdd, Nat.reduceMul, reduceIte, Nat.reduceLeDiff, Nat.reduceLT, Nat.reduceBEq, reduceCtorEq]; (first | ((repeat' (first | exact ObjLe_o0 _ | exact ObjLe.rfl' _ | refine ObjLe_same ?_ | refine ObjLe_upd ?_ ?_ | refine ObjLe_new rfl ?_)) <;> rfl) | (refine ObjLe_X ?_; (repeat' (first | exact ObjLeX_o0 _ _ | refine ObjLeX_skip rfl ?_ | refine ObjLeX_upd ?_ ?_)) <;> rfl))))
    · intro k ⟨hk, hn⟩
      simp only [go_sem, init_env', Nat.reduceEqDiff, Nat.reduceAdd, Nat.reduceMul, reduceIte, Nat.reduceLeDiff, Nat.reduceLT, Nat.reduceBEq, reduceCtorEq]
      refine WV_seq_ (WV_seq_ (WV_ops ?_))
      simp only [go_sem, init_env', Nat.reduceEqDiff, Nat.reduceAdd, Nat.reduceMul, reduceIte, Nat.reduceLeDiff, Nat.reduceLT, Nat.reduceBEq, reduceCtorEq, hP]
      (refine WV_cond rfl (fun h => ?_) (fun h => ?_))
      · simp only [decide_eq_true_eq, Int.ofNat_lt] at h
        rename_i hlm
        have h' : k < m.length := by omega
        (refine WV_skip ?_; simp only [go_sem, init_env', Nat.reduceEqDiff, Nat.reduceAdd, Nat.reduceMul, reduceIte, Nat.reduceLeDiff, Nat.reduceLT, Nat.reduceBEq, reduceCtorEq])
        refine WV_seq_ (WV_block (WV_seq_ (WV_ops ?_)))
        simp only [go_sem, init_env', Nat.reduceEqDiff, Nat.reduceAdd, Nat.reduceMul, reduceIte, Nat.reduceLeDiff, Nat.reduceLT, Nat.reduceBEq, reduceCtorEq, hP, ints, Int.toNat_natCast, map_getD h, map_getD h', Int.ofNat_lt, h, h', Int.natCast_nonneg]
        refine WV_cond rfl (fun h2 => ?_) (fun h2 => ?_)
        · (refine WV_seq_ (WV_ops ?_); simp only [go_sem, init_env', Nat.reduceEqDiff, Nat.reduceAdd, Nat.reduceMul, reduceIte, Nat.reduceLeDiff, Nat.reduceLT, Nat.reduceBEq, reduceCtorEq, hP, ]; (repeat (refine And.intro (by first | omega | (intros; simp_all; done) | (intros; simp_all; omega)) ?_)))
          simp only [bne_iff_ne, ne_eq] at h2
          have : l ≠ m := by rintro rfl; exact h2 rfl
          (refine WV_ret ?_; simp only [thenQ, inQ, RetQ, RetOk, resAll, resA]; simp only [go_sem, init_env', Nat.reduceEqDiff, Nat.reduceAdd, Nat.reduceMul, reduceIte, Nat.reduceLeDiff, Nat.reduceLT, Nat.reduceBEq, reduceCtorEq, tupA, AV.port, AV.portL, exists_eq_left', ]; (first | exact AVle.of rfl | refine AVle.of ?_ | skip))
          simp [this]
        · (refine WV_skip ?_; simp only [go_sem, init_env', Nat.reduceEqDiff, Nat.reduceAdd, Nat.reduceMul, reduceIte, Nat.reduceLeDiff, Nat.reduceLT, Nat.reduceBEq, reduceCtorEq])
          (refine WV_ops ?_; simp only [go_sem, init_env', Nat.reduceEqDiff, Nat.reduceAdd, Nat.reduceMul, reduceIte, Nat.reduceLeDiff, Nat.reduceLT, Nat.reduceBEq, reduceCtorEq, hP, ]; (repeat (refine And.intro (by first | omega | (intros; simp_all; done) | (intros; simp_all; omega)) ?_)))
          simp only [bne_eq_false_iff_eq] at h2
          refine ⟨k + 1, ⟨by omega, by rw [List.take_succ_eq_append_getElem h, List.take_succ_eq_append_getElem h', hn, h2]⟩, by omega, ?_⟩
          (refine Sub_of (by simp only [go_sem, init_env', Nat.reduceEqDiff, Nat.reduceAdd, Nat.reduceMul, reduceIte, Nat.reduceLeDiff, Nat.reduceLT, Nat.reduceBEq, reduceCtorEq]; ((repeat' (first | exact EnvLe_e0 _ _ | refine EnvLe_upd ?_ ?_)) <;> ((try simp only [upd_app, e0_app, o0_app, Nat.reduceEqDiff, reduceIte]); first | exact AWk.refl _ _ | exact AWk.int (by omega) | exact AWk.int (by rw [w64 (by omega) (by omega)]; omega) | exact AWk.grow rfl | exact AWk.nil _ | exact AWk.of (by simp)))) (by simp only [go_sem, init_env', Nat.reduceEqDiff, Nat.reduceAdd, Nat.reduceMul, reduceIte, Nat.reduceLeDiff, Nat.reduceLT, Nat.reduceBEq, reduceCtorEq]; (first | ((repeat' (first | exact ObjLe_o0 _ | exact ObjLe.rfl' _ | refine ObjLe_same ?_ | refine ObjLe_upd ?_ ?_ | refine ObjLe_new rfl ?_)) <;> rfl) | (refine ObjLe_X ?_; (repeat' (first | exact ObjLeX_o0 _ _ | refine ObjLeX_skip rfl ?_ | refine ObjLeX_upd ?_ ?_)) <;> rfl))))
      · simp only [decide_eq_false_iff_not, Int.ofNat_lt] at h
        rename_i hlm
        (refine WV_exit ?_; simp only [go_sem, init_env', Nat.reduceEqDiff, Nat.reduceAdd, Nat.reduceMul, reduceIte, Nat.reduceLeDiff, Nat.reduceLT, Nat.reduceBEq, reduceCtorEq])
        (refine WV_seq_ (WV_ops ?_); simp only [go_sem, init_env', Nat.reduceEqDiff, Nat.reduceAdd, Nat.reduceMul, reduceIte, Nat.reduceLeDiff, Nat.reduceLT, Nat.reduceBEq, reduceCtorEq, hP, ]; (repeat (refine And.intro (by first | omega | (intros; simp_all; done) | (intros; simp_all; omega)) ?_)))
        have : l = m := by rw [List.take_of_length_le (by omega), List.take_of_length_le (by omega)] at hn; exact hn
        (refine WV_ret ?_; simp only [thenQ, inQ, RetQ, RetOk, resAll, resA]; simp only [go_sem, init_env', Nat.reduceEqDiff, Nat.reduceAdd, Nat.reduceMul, reduceIte, Nat.reduceLeDiff, Nat.reduceLT, Nat.reduceBEq, reduceCtorEq, tupA, AV.port, AV.portL, exists_eq_left', ]; (first | exact AVle.of rfl | refine AVle.of ?_ | skip))
        simp [this]

set_option maxHeartbeats 4000000 in
theorem check_spec (r : Route) : FSpec Try.prog 27 [r.av] (iv (if r.ok then 0 else 80)) := by
  refine FSpec_of c27 (Nat.le_refl _) (by decide) fun C hP hN hC hL => ?_
  obtain ⟨h1, h2, h3⟩ := Route.lens hL
  simp only [ir27, Route.av, stopsC, driveC]
  (refine WV_seq_ (WV_ops ?_); simp only [go_sem, init_env', Nat.reduceEqDiff, Nat.reduceAdd, Nat.reduceMul, reduceIte, Nat.reduceLeDiff, Nat.reduceLT, Nat.reduceBEq, reduceCtorEq, hP, ]; (repeat (refine And.intro (by first | omega | (intros; simp_all; done) | (intros; simp_all; omega)) ?_)))
  (refine WV_seq_ (WV_ops ?_); simp only [go_sem, init_env', Nat.reduceEqDiff, Nat.reduceAdd, Nat.reduceMul, reduceIte, Nat.reduceLeDiff, Nat.reduceLT, Nat.reduceBEq, reduceCtorEq, hP, ]; (repeat (refine And.intro (by first | omega | (intros; simp_all; done) | (intros; simp_all; omega)) ?_)))
  (refine WV_seq_ (WV_seq_ (WV_ops ?_)); simp only [go_sem, init_env', Nat.reduceEqDiff, Nat.reduceAdd, Nat.reduceMul, reduceIte, Nat.reduceLeDiff, Nat.reduceLT, Nat.reduceBEq, reduceCtorEq, hP, ]; (repeat (refine And.intro (by first | omega | (intros; simp_all; done) | (intros; simp_all; omega)) ?_)))
  (refine AG_pure (fun hG => wi55 _ _ _) rfl (fun hG => by first | (simp only [go_sem, init_env', Nat.reduceEqDiff, Nat.reduceAdd, Nat.reduceMul, reduceIte, Nat.reduceLeDiff, Nat.reduceLT, Nat.reduceBEq, reduceCtorEq, hG]; done) | (simp only [go_sem, init_env', Nat.reduceEqDiff, Nat.reduceAdd, Nat.reduceMul, reduceIte, Nat.reduceLeDiff, Nat.reduceLT, Nat.reduceBEq, reduceCtorEq]; revert hG; simp; done) | (simp only [go_sem, init_env', Nat.reduceEqDiff, Nat.reduceAdd, Nat.reduceMul, reduceIte, Nat.reduceLeDiff, Nat.reduceLT, Nat.reduceBEq, reduceCtorEq, hG]; simp_all; done) | (revert hG; simp; done) | simp_all) rfl rfl rfl ?_; simp only [go_sem, init_env', Nat.reduceEqDiff, Nat.reduceAdd, Nat.reduceMul, reduceIte, Nat.reduceLeDiff, Nat.reduceLT, Nat.reduceBEq, reduceCtorEq, hP, ]; (repeat (refine And.intro (by first | omega | (intros; simp_all; done) | (intros; simp_all; omega)) ?_)))
  (refine WV_cond rfl (fun h => ?_) (fun h => ?_))
  · have e : r.ok = false := by
      have := g0_eq r.stops.length r.drive.length (within r.start 0 1440) h1
      cases hx : r.ok with
      | false => rfl
      | true =>
        exfalso
        simp only [Route.ok, Bool.and_eq_true, decide_eq_true_eq, beq_iff_eq] at hx
        obtain ⟨⟨⟨⟨a1, a2⟩, a3⟩, a4⟩, a5⟩ := hx
        rw [a3, a2, w64 (by omega) (by omega)] at h
        simp at h
        omega
    (refine WV_seq_ (WV_ops ?_); simp only [go_sem, init_env', Nat.reduceEqDiff, Nat.reduceAdd, Nat.reduceMul, reduceIte, Nat.reduceLeDiff, Nat.reduceLT, Nat.reduceBEq, reduceCtorEq, hP, ]; (repeat (refine And.intro (by first | omega | (intros; simp_all; done) | (intros; simp_all; omega)) ?_)))
    (refine WV_ret ?_; simp only [thenQ, inQ, RetQ, RetOk, resAll, resA]; simp only [go_sem, init_env', Nat.reduceEqDiff, Nat.reduceAdd, Nat.reduceMul, reduceIte, Nat.reduceLeDiff, Nat.reduceLT, Nat.reduceBEq, reduceCtorEq, tupA, AV.port, AV.portL, exists_eq_left', ]; (first | exact AVle.of rfl | refine AVle.of ?_ | skip))
    rw [e]; rfl
  · have h0 : r.stops.length ≤ 7 ∧ r.drive.length = r.stops.length + 1 ∧ within r.start 0 1440 = true := by
      simp only [Bool.or_eq_false_iff, decide_eq_false_iff_not, Int.not_lt, bne_eq_false_iff_eq, Bool.not_eq_false'] at h
      obtain ⟨⟨a1, a2⟩, a3⟩ := h
      rw [w64 (by omega) (by omega)] at a2
      exact ⟨by omega, by omega, a3⟩
    obtain ⟨a1, a2, a3⟩ := h0
    (refine WV_skip ?_; simp only [go_sem, init_env', Nat.reduceEqDiff, Nat.reduceAdd, Nat.reduceMul, reduceIte, Nat.reduceLeDiff, Nat.reduceLT, Nat.reduceBEq, reduceCtorEq])
    (refine WV_seq_ (WV_seq_ (WV_ops ?_)); simp only [go_sem, init_env', Nat.reduceEqDiff, Nat.reduceAdd, Nat.reduceMul, reduceIte, Nat.reduceLeDiff, Nat.reduceLT, Nat.reduceBEq, reduceCtorEq, hP, ]; (repeat (refine And.intro (by first | omega | (intros; simp_all; done) | (intros; simp_all; omega)) ?_)))
    refine WV_block ?_
    (refine WV_loopK K27_1 [] (fun k : Nat => k ≤ r.stops.length ∧ (r.stops.take k).all okStop = true) (fun k => r.stops.length - k) (fun k => [(4, iv k)]) (fun _ => []) 0 ⟨Nat.zero_le _, by simp⟩ ?_ ?_)
    · (refine Sub_of (by simp only [go_sem, init_env', Nat.reduceEqDiff, Nat.reduceAdd, Nat.reduceMul, reduceIte, Nat.reduceLeDiff, Nat.reduceLT, Nat.reduceBEq, reduceCtorEq]; ((repeat' (first | exact EnvLe_e0 _ _ | refine EnvLe_upd ?_ ?_)) <;> ((try simp only [upd_app, e0_app, o0_app, Nat.reduceEqDiff, reduceIte]); first | exact AWk.refl _ _ | exact AWk.int (by omega) | exact AWk.int (by rw [w64 (by omega) (by omega)]; omega) | exact AWk.grow rfl | exact AWk.nil _ | exact AWk.of (by simp)))) (by simp only [go_sem, init_env', Nat.reduceEqDiff, Nat.reduceAdd, Nat.reduceMul, reduceIte, Nat.reduceLeDiff, Nat.reduceLT, Nat.reduceBEq, reduceCtorEq]; (first | ((repeat' (first | exact ObjLe_o0 _ | exact ObjLe.rfl' _ | refine ObjLe_same ?_ | refine ObjLe_upd ?_ ?_ | refine ObjLe_new rfl ?_)) <;> rfl) | (refine ObjLe_X ?_; (repeat' (first | exact ObjLeX_o0 _ _ | refine ObjLeX_skip rfl ?_ | refine ObjLeX_upd ?_ ?_)) <;> rfl))))
    · intro k ⟨hk, hn⟩
      simp only [go_sem, init_env', Nat.reduceEqDiff, Nat.reduceAdd, Nat.reduceMul, reduceIte, Nat.reduceLeDiff, Nat.reduceLT, Nat.reduceBEq, reduceCtorEq]
      (refine WV_seq_ (WV_seq_ (WV_ops ?_)); simp only [go_sem, init_env', Nat.reduceEqDiff, Nat.reduceAdd, Nat.reduceMul, reduceIte, Nat.reduceLeDiff, Nat.reduceLT, Nat.reduceBEq, reduceCtorEq, hP, ]; (repeat (refine And.intro (by first | omega | (intros; simp_all; done) | (intros; simp_all; omega)) ?_)))
      (refine WV_cond rfl (fun h => ?_) (fun h => ?_))
      · simp only [decide_eq_true_eq, Int.ofNat_lt] at h
        (refine WV_skip ?_; simp only [go_sem, init_env', Nat.reduceEqDiff, Nat.reduceAdd, Nat.reduceMul, reduceIte, Nat.reduceLeDiff, Nat.reduceLT, Nat.reduceBEq, reduceCtorEq])
        refine WV_seq_ (WV_block ?_)
        (refine WV_seq_ (WV_ops ?_); simp only [go_sem, init_env', Nat.reduceEqDiff, Nat.reduceAdd, Nat.reduceMul, reduceIte, Nat.reduceLeDiff, Nat.reduceLT, Nat.reduceBEq, reduceCtorEq, hP, Int.toNat_natCast, map_getD h, Int.ofNat_lt, h, Int.natCast_nonneg, Stop.cds]; (repeat (refine And.intro (by first | omega | (intros; simp_all; done) | (intros; simp_all; omega)) ?_)))
        refine WV_seq_ (WV_ops ?_)
        simp only [go_sem, init_env', Nat.reduceEqDiff, Nat.reduceAdd, Nat.reduceMul, reduceIte, Nat.reduceLeDiff, Nat.reduceLT, Nat.reduceBEq, reduceCtorEq, hP]
        (refine AS_pure (wi55 _ _ _) rfl rfl rfl rfl rfl ?_; simp only [go_sem, init_env', Nat.reduceEqDiff, Nat.reduceAdd, Nat.reduceMul, reduceIte, Nat.reduceLeDiff, Nat.reduceLT, Nat.reduceBEq, reduceCtorEq, hP, ]; (repeat (refine And.intro (by first | omega | (intros; simp_all; done) | (intros; simp_all; omega)) ?_)))
        (refine AG_pure (fun hG => wi55 _ _ _) rfl (fun hG => by first | (simp only [go_sem, init_env', Nat.reduceEqDiff, Nat.reduceAdd, Nat.reduceMul, reduceIte, Nat.reduceLeDiff, Nat.reduceLT, Nat.reduceBEq, reduceCtorEq, hG]; done) | (simp only [go_sem, init_env', Nat.reduceEqDiff, Nat.reduceAdd, Nat.reduceMul, reduceIte, Nat.reduceLeDiff, Nat.reduceLT, Nat.reduceBEq, reduceCtorEq]; revert hG; simp; done) | (simp only [go_sem, init_env', Nat.reduceEqDiff, Nat.reduceAdd, Nat.reduceMul, reduceIte, Nat.reduceLeDiff, Nat.reduceLT, Nat.reduceBEq, reduceCtorEq, hG]; simp_all; done) | (revert hG; simp; done) | simp_all) rfl rfl rfl ?_; simp only [go_sem, init_env', Nat.reduceEqDiff, Nat.reduceAdd, Nat.reduceMul, reduceIte, Nat.reduceLeDiff, Nat.reduceLT, Nat.reduceBEq, reduceCtorEq, hP, ]; (repeat (refine And.intro (by first | omega | (intros; simp_all; done) | (intros; simp_all; omega)) ?_)))
        (refine AG_pure (fun hG => wi55 _ _ _) rfl (fun hG => by first | (simp only [go_sem, init_env', Nat.reduceEqDiff, Nat.reduceAdd, Nat.reduceMul, reduceIte, Nat.reduceLeDiff, Nat.reduceLT, Nat.reduceBEq, reduceCtorEq, hG]; done) | (simp only [go_sem, init_env', Nat.reduceEqDiff, Nat.reduceAdd, Nat.reduceMul, reduceIte, Nat.reduceLeDiff, Nat.reduceLT, Nat.reduceBEq, reduceCtorEq]; revert hG; simp; done) | (simp only [go_sem, init_env', Nat.reduceEqDiff, Nat.reduceAdd, Nat.reduceMul, reduceIte, Nat.reduceLeDiff, Nat.reduceLT, Nat.reduceBEq, reduceCtorEq, hG]; simp_all; done) | (revert hG; simp; done) | simp_all) rfl rfl rfl ?_; simp only [go_sem, init_env', Nat.reduceEqDiff, Nat.reduceAdd, Nat.reduceMul, reduceIte, Nat.reduceLeDiff, Nat.reduceLT, Nat.reduceBEq, reduceCtorEq, hP, ]; (repeat (refine And.intro (by first | omega | (intros; simp_all; done) | (intros; simp_all; omega)) ?_)))
        have e : (!(within r.stops[k].op 0 r.stops[k].cl) || decide (1440 < r.stops[k].cl) || !(within r.stops[k].st 0 1440) || !(within r.stops[k].ca 0 99999)) = !okStop r.stops[k] := by
          rw [Bool.eq_iff_iff]; simp [okStop, within]
        rw [e]
        (refine WV_cond rfl (fun h => ?_) (fun h => ?_))
        · (refine WV_seq_ (WV_ops ?_); simp only [go_sem, init_env', Nat.reduceEqDiff, Nat.reduceAdd, Nat.reduceMul, reduceIte, Nat.reduceLeDiff, Nat.reduceLT, Nat.reduceBEq, reduceCtorEq, hP, ]; (repeat (refine And.intro (by first | omega | (intros; simp_all; done) | (intros; simp_all; omega)) ?_)))
          have : r.ok = false := by
            simp only [Bool.not_eq_true'] at h
            rename_i hlt
            have : r.stops.all okStop = false := List.all_eq_false.2 ⟨_, List.getElem_mem hlt, by simp [h]⟩
            simp [Route.ok, this]
          (refine WV_ret ?_; simp only [thenQ, inQ, RetQ, RetOk, resAll, resA]; simp only [go_sem, init_env', Nat.reduceEqDiff, Nat.reduceAdd, Nat.reduceMul, reduceIte, Nat.reduceLeDiff, Nat.reduceLT, Nat.reduceBEq, reduceCtorEq, tupA, AV.port, AV.portL, exists_eq_left', ]; (first | exact AVle.of rfl | refine AVle.of ?_ | skip))
          rw [this]; rfl
        · (refine WV_skip ?_; simp only [go_sem, init_env', Nat.reduceEqDiff, Nat.reduceAdd, Nat.reduceMul, reduceIte, Nat.reduceLeDiff, Nat.reduceLT, Nat.reduceBEq, reduceCtorEq])
          (refine WV_ops ?_; simp only [go_sem, init_env', Nat.reduceEqDiff, Nat.reduceAdd, Nat.reduceMul, reduceIte, Nat.reduceLeDiff, Nat.reduceLT, Nat.reduceBEq, reduceCtorEq, hP, ]; (repeat (refine And.intro (by first | omega | (intros; simp_all; done) | (intros; simp_all; omega)) ?_)))
          simp only [Bool.not_eq_false'] at h
          rename_i hlt
          refine ⟨k + 1, ⟨by omega, by rw [take_all okStop hlt, hn, h]; rfl⟩, by omega, ?_⟩
          (refine Sub_of (by simp only [go_sem, init_env', Nat.reduceEqDiff, Nat.reduceAdd, Nat.reduceMul, reduceIte, Nat.reduceLeDiff, Nat.reduceLT, Nat.reduceBEq, reduceCtorEq]; ((repeat' (first | exact EnvLe_e0 _ _ | refine EnvLe_upd ?_ ?_)) <;> ((try simp only [upd_app, e0_app, o0_app, Nat.reduceEqDiff, reduceIte]); first | exact AWk.refl _ _ | exact AWk.int (by omega) | exact AWk.int (by rw [w64 (by omega) (by omega)]; omega) | exact AWk.grow rfl | exact AWk.nil _ | exact AWk.of (by simp)))) (by simp only [go_sem, init_env', Nat.reduceEqDiff, Nat.reduceAdd, Nat.reduceMul, reduceIte, Nat.reduceLeDiff, Nat.reduceLT, Nat.reduceBEq, reduceCtorEq]; (first | ((repeat' (first | exact ObjLe_o0 _ | exact ObjLe.rfl' _ | refine ObjLe_same ?_ | refine ObjLe_upd ?_ ?_ | refine ObjLe_new rfl ?_)) <;> rfl) | (refine ObjLe_X ?_; (repeat' (first | exact ObjLeX_o0 _ _ | refine ObjLeX_skip rfl ?_ | refine ObjLeX_upd ?_ ?_)) <;> rfl))))
      · simp only [decide_eq_false_iff_not, Int.ofNat_lt] at h
        rw [List.take_of_length_le (by omega)] at hn
        have hst : r.stops.all okStop = true := hn
        clear hn h hk
        (refine WV_exit ?_; simp only [go_sem, init_env', Nat.reduceEqDiff, Nat.reduceAdd, Nat.reduceMul, reduceIte, Nat.reduceLeDiff, Nat.reduceLT, Nat.reduceBEq, reduceCtorEq])
        (refine WV_seq_ (WV_seq_ (WV_ops ?_)); simp only [go_sem, init_env', Nat.reduceEqDiff, Nat.reduceAdd, Nat.reduceMul, reduceIte, Nat.reduceLeDiff, Nat.reduceLT, Nat.reduceBEq, reduceCtorEq, hP, ]; (repeat (refine And.intro (by first | omega | (intros; simp_all; done) | (intros; simp_all; omega)) ?_)))
        refine WV_block ?_
        (refine WV_loopK K27_2 [] (fun k : Nat => k ≤ r.drive.length ∧ ((r.drive.zipIdx.take k).all fun p => okRow r.drive.length p.2 p.1) = true) (fun k => r.drive.length - k) (fun k => [(6, iv k)]) (fun _ => []) 0 ⟨Nat.zero_le _, by simp⟩ ?_ ?_)
        · (refine Sub_of (by simp only [go_sem, init_env', Nat.reduceEqDiff, Nat.reduceAdd, Nat.reduceMul, reduceIte, Nat.reduceLeDiff, Nat.reduceLT, Nat.reduceBEq, reduceCtorEq]; ((repeat' (first | exact EnvLe_e0 _ _ | refine EnvLe_upd ?_ ?_)) <;> ((try simp only [upd_app, e0_app, o0_app, Nat.reduceEqDiff, reduceIte]); first | exact AWk.refl _ _ | exact AWk.int (by omega) | exact AWk.int (by rw [w64 (by omega) (by omega)]; omega) | exact AWk.grow rfl | exact AWk.nil _ | exact AWk.of (by simp)))) (by simp only [go_sem, init_env', Nat.reduceEqDiff, Nat.reduceAdd, Nat.reduceMul, reduceIte, Nat.reduceLeDiff, Nat.reduceLT, Nat.reduceBEq, reduceCtorEq]; (first | ((repeat' (first | exact ObjLe_o0 _ | exact ObjLe.rfl' _ | refine ObjLe_same ?_ | refine ObjLe_upd ?_ ?_ | refine ObjLe_new rfl ?_)) <;> rfl) | (refine ObjLe_X ?_; (repeat' (first | exact ObjLeX_o0 _ _ | refine ObjLeX_skip rfl ?_ | refine ObjLeX_upd ?_ ?_)) <;> rfl))))
        · intro k ⟨hk, hn⟩
          simp only [go_sem, init_env', Nat.reduceEqDiff, Nat.reduceAdd, Nat.reduceMul, reduceIte, Nat.reduceLeDiff, Nat.reduceLT, Nat.reduceBEq, reduceCtorEq]
          (refine WV_seq_ (WV_seq_ (WV_ops ?_)); simp only [go_sem, init_env', Nat.reduceEqDiff, Nat.reduceAdd, Nat.reduceMul, reduceIte, Nat.reduceLeDiff, Nat.reduceLT, Nat.reduceBEq, reduceCtorEq, hP, ]; (repeat (refine And.intro (by first | omega | (intros; simp_all; done) | (intros; simp_all; omega)) ?_)))
          (refine WV_cond rfl (fun h => ?_) (fun h => ?_))
          · simp only [decide_eq_true_eq] at h
            have h : k < r.drive.length := by omega
            (refine WV_skip ?_; simp only [go_sem, init_env', Nat.reduceEqDiff, Nat.reduceAdd, Nat.reduceMul, reduceIte, Nat.reduceLeDiff, Nat.reduceLT, Nat.reduceBEq, reduceCtorEq])
            have h4 := h3 _ (List.getElem_mem h)
            refine WV_seq_ (WV_block (WV_seq_ (WV_seq_ (WV_ops ?_))))
            simp only [go_sem, init_env', Nat.reduceEqDiff, Nat.reduceAdd, Nat.reduceMul, reduceIte, Nat.reduceLeDiff, Nat.reduceLT, Nat.reduceBEq, reduceCtorEq, hP, ints, Int.toNat_natCast, map_getD h, Int.ofNat_lt, h, Int.natCast_nonneg]
            have e1 : IntKind.i64.wrap ((r.stops.length : Int) + 1) = (r.drive.length : Int) := by rw [w64 (by omega) (by omega)]; omega
            rw [e1]
            have hrow := okRow_eq (l := r.drive[k]) h
            have hfail : okRow r.drive.length k r.drive[k] = false → r.ok = false := by
              intro hf
              have : (r.drive.zipIdx.all fun p => okRow r.drive.length p.2 p.1) = false := List.all_eq_false.2 ⟨(r.drive[k], k), by rw [List.mem_zipIdx_iff_getElem?]; simp [h], by simp [hf]⟩
              simp [Route.ok, this]
            by_cases hlen : r.drive[k].length = r.drive.length
            · have hk2 : k < r.drive[k].length := by omega
              rw [hlen] at hrow
              have hcell : r.drive[k].getD k 0 = r.drive[k][k] := by simp [hk2]
              simp only [go_sem, init_env', Nat.reduceEqDiff, Nat.reduceAdd, Nat.reduceMul, reduceIte, Nat.reduceLeDiff, Nat.reduceLT, Nat.reduceBEq, reduceCtorEq, ibne, hlen, map_getD hk2, beq_self_eq_true]
              (repeat (refine And.intro (by first | omega | (intros; simp_all; done) | (intros; simp_all; omega)) ?_))
              (refine WV_cond rfl (fun h => ?_) (fun h => ?_))
              · (refine WV_seq_ (WV_ops ?_); simp only [go_sem, init_env', Nat.reduceEqDiff, Nat.reduceAdd, Nat.reduceMul, reduceIte, Nat.reduceLeDiff, Nat.reduceLT, Nat.reduceBEq, reduceCtorEq, hP, ]; (repeat (refine And.intro (by first | omega | (intros; simp_all; done) | (intros; simp_all; omega)) ?_)))
                have : r.ok = false := by
                  simp only [Bool.false_or, bne_iff_ne, ne_eq] at h
                  rename_i hlt
                  refine hfail ?_
                  rw [hrow, hcell]
                  simp [h]
                (refine WV_ret ?_; simp only [thenQ, inQ, RetQ, RetOk, resAll, resA]; simp only [go_sem, init_env', Nat.reduceEqDiff, Nat.reduceAdd, Nat.reduceMul, reduceIte, Nat.reduceLeDiff, Nat.reduceLT, Nat.reduceBEq, reduceCtorEq, tupA, AV.port, AV.portL, exists_eq_left', ]; (first | exact AVle.of rfl | refine AVle.of ?_ | skip))
                rw [this]; rfl
              · simp only [Bool.false_or, bne_eq_false_iff_eq] at h
                rename_i hlt
                have hz := h
                (refine WV_skip ?_; simp only [go_sem, init_env', Nat.reduceEqDiff, Nat.reduceAdd, Nat.reduceMul, reduceIte, Nat.reduceLeDiff, Nat.reduceLT, Nat.reduceBEq, reduceCtorEq])
                (refine WV_seq_ (WV_ops ?_); simp only [go_sem, init_env', Nat.reduceEqDiff, Nat.reduceAdd, Nat.reduceMul, reduceIte, Nat.reduceLeDiff, Nat.reduceLT, Nat.reduceBEq, reduceCtorEq, hP, ]; (repeat (refine And.intro (by first | omega | (intros; simp_all; done) | (intros; simp_all; omega)) ?_)))
                refine WV_block ?_
                (refine WV_loopK K27_3 [] (fun j : Nat => j ≤ r.drive.length ∧ ((r.drive[k].take j).all fun n => within n 0 999) = true) (fun j => r.drive.length - j) (fun j => [(7, iv j)]) (fun _ => []) 0 ⟨Nat.zero_le _, by simp⟩ ?_ ?_)
                · (refine Sub_of (by simp only [go_sem, init_env', Nat.reduceEqDiff, Nat.reduceAdd, Nat.reduceMul, reduceIte, Nat.reduceLeDiff, Nat.reduceLT, Nat.reduceBEq, reduceCtorEq]; ((repeat' (first | exact EnvLe_e0 _ _ | refine EnvLe_upd ?_ ?_)) <;> ((try simp only [upd_app, e0_app, o0_app, Nat.reduceEqDiff, reduceIte]); first | exact AWk.refl _ _ | exact AWk.int (by omega) | exact AWk.int (by rw [w64 (by omega) (by omega)]; omega) | exact AWk.grow rfl | exact AWk.nil _ | exact AWk.of (by simp)))) (by simp only [go_sem, init_env', Nat.reduceEqDiff, Nat.reduceAdd, Nat.reduceMul, reduceIte, Nat.reduceLeDiff, Nat.reduceLT, Nat.reduceBEq, reduceCtorEq]; (first | ((repeat' (first | exact ObjLe_o0 _ | exact ObjLe.rfl' _ | refine ObjLe_same ?_ | refine ObjLe_upd ?_ ?_ | refine ObjLe_new rfl ?_)) <;> rfl) | (refine ObjLe_X ?_; (repeat' (first | exact ObjLeX_o0 _ _ | refine ObjLeX_skip rfl ?_ | refine ObjLeX_upd ?_ ?_)) <;> rfl))))
                · intro j ⟨hj, hjn⟩
                  simp only [go_sem, init_env', Nat.reduceEqDiff, Nat.reduceAdd, Nat.reduceMul, reduceIte, Nat.reduceLeDiff, Nat.reduceLT, Nat.reduceBEq, reduceCtorEq]
                  (refine WV_seq_ (WV_seq_ (WV_ops ?_)); simp only [go_sem, init_env', Nat.reduceEqDiff, Nat.reduceAdd, Nat.reduceMul, reduceIte, Nat.reduceLeDiff, Nat.reduceLT, Nat.reduceBEq, reduceCtorEq, hP, ]; (repeat (refine And.intro (by first | omega | (intros; simp_all; done) | (intros; simp_all; omega)) ?_)))
                  (refine WV_cond rfl (fun h => ?_) (fun h => ?_))
                  · simp only [decide_eq_true_eq] at h
                    have hj2 : j < r.drive[k].length := by omega
                    (refine WV_skip ?_; simp only [go_sem, init_env', Nat.reduceEqDiff, Nat.reduceAdd, Nat.reduceMul, reduceIte, Nat.reduceLeDiff, Nat.reduceLT, Nat.reduceBEq, reduceCtorEq])
                    refine WV_seq_ (WV_block (WV_seq_ (WV_ops ?_)))
                    simp only [go_sem, init_env', Nat.reduceEqDiff, Nat.reduceAdd, Nat.reduceMul, reduceIte, Nat.reduceLeDiff, Nat.reduceLT, Nat.reduceBEq, reduceCtorEq, hP, ints, Int.toNat_natCast, map_getD hlt, map_getD hj2, Int.ofNat_lt, hlt, hj2, Int.natCast_nonneg]
                    (refine AS_pure (wi55 _ _ _) rfl rfl rfl rfl rfl ?_; simp only [go_sem, init_env', Nat.reduceEqDiff, Nat.reduceAdd, Nat.reduceMul, reduceIte, Nat.reduceLeDiff, Nat.reduceLT, Nat.reduceBEq, reduceCtorEq, hP, ]; (repeat (refine And.intro (by first | omega | (intros; simp_all; done) | (intros; simp_all; omega)) ?_)))
                    (refine WV_cond rfl (fun h => ?_) (fun h => ?_))
                    · (refine WV_seq_ (WV_ops ?_); simp only [go_sem, init_env', Nat.reduceEqDiff, Nat.reduceAdd, Nat.reduceMul, reduceIte, Nat.reduceLeDiff, Nat.reduceLT, Nat.reduceBEq, reduceCtorEq, hP, ]; (repeat (refine And.intro (by first | omega | (intros; simp_all; done) | (intros; simp_all; omega)) ?_)))
                      have : r.ok = false := by
                        simp only [Bool.not_eq_true'] at h
                        refine hfail ?_
                        rw [hrow, List.all_eq_false.2 ⟨_, List.getElem_mem hj2, by simp [h]⟩]
                        simp
                      (refine WV_ret ?_; simp only [thenQ, inQ, RetQ, RetOk, resAll, resA]; simp only [go_sem, init_env', Nat.reduceEqDiff, Nat.reduceAdd, Nat.reduceMul, reduceIte, Nat.reduceLeDiff, Nat.reduceLT, Nat.reduceBEq, reduceCtorEq, tupA, AV.port, AV.portL, exists_eq_left', ]; (first | exact AVle.of rfl | refine AVle.of ?_ | skip))
                      rw [this]; rfl
                    · (refine WV_skip ?_; simp only [go_sem, init_env', Nat.reduceEqDiff, Nat.reduceAdd, Nat.reduceMul, reduceIte, Nat.reduceLeDiff, Nat.reduceLT, Nat.reduceBEq, reduceCtorEq])
                      (refine WV_ops ?_; simp only [go_sem, init_env', Nat.reduceEqDiff, Nat.reduceAdd, Nat.reduceMul, reduceIte, Nat.reduceLeDiff, Nat.reduceLT, Nat.reduceBEq, reduceCtorEq, hP, ]; (repeat (refine And.intro (by first | omega | (intros; simp_all; done) | (intros; simp_all; omega)) ?_)))
                      simp only [Bool.not_eq_false'] at h
                      refine ⟨j + 1, ⟨by omega, by rw [take_all _ hj2, hjn, h]; rfl⟩, by omega, ?_⟩
                      (refine Sub_of (by simp only [go_sem, init_env', Nat.reduceEqDiff, Nat.reduceAdd, Nat.reduceMul, reduceIte, Nat.reduceLeDiff, Nat.reduceLT, Nat.reduceBEq, reduceCtorEq]; ((repeat' (first | exact EnvLe_e0 _ _ | refine EnvLe_upd ?_ ?_)) <;> ((try simp only [upd_app, e0_app, o0_app, Nat.reduceEqDiff, reduceIte]); first | exact AWk.refl _ _ | exact AWk.int (by omega) | exact AWk.int (by rw [w64 (by omega) (by omega)]; omega) | exact AWk.grow rfl | exact AWk.nil _ | exact AWk.of (by simp)))) (by simp only [go_sem, init_env', Nat.reduceEqDiff, Nat.reduceAdd, Nat.reduceMul, reduceIte, Nat.reduceLeDiff, Nat.reduceLT, Nat.reduceBEq, reduceCtorEq]; (first | ((repeat' (first | exact ObjLe_o0 _ | exact ObjLe.rfl' _ | refine ObjLe_same ?_ | refine ObjLe_upd ?_ ?_ | refine ObjLe_new rfl ?_)) <;> rfl) | (refine ObjLe_X ?_; (repeat' (first | exact ObjLeX_o0 _ _ | refine ObjLeX_skip rfl ?_ | refine ObjLeX_upd ?_ ?_)) <;> rfl))))
                  · simp only [decide_eq_false_iff_not, Int.not_le] at h
                    (refine WV_exit ?_; simp only [go_sem, init_env', Nat.reduceEqDiff, Nat.reduceAdd, Nat.reduceMul, reduceIte, Nat.reduceLeDiff, Nat.reduceLT, Nat.reduceBEq, reduceCtorEq])
                    (refine WV_ops ?_; simp only [go_sem, init_env', Nat.reduceEqDiff, Nat.reduceAdd, Nat.reduceMul, reduceIte, Nat.reduceLeDiff, Nat.reduceLT, Nat.reduceBEq, reduceCtorEq, hP, ]; (repeat (refine And.intro (by first | omega | (intros; simp_all; done) | (intros; simp_all; omega)) ?_)))
                    have hrok : okRow r.drive.length k r.drive[k] = true := by
                      rw [hrow, hcell, hz]
                      rw [List.take_of_length_le (by omega)] at hjn
                      simp [hjn]
                    refine ⟨k + 1, ⟨by omega, by rw [take_zipIdx _ hlt, hn]; simp [hrok]⟩, by omega, ?_⟩
                    (refine Sub_of (by simp only [go_sem, init_env', Nat.reduceEqDiff, Nat.reduceAdd, Nat.reduceMul, reduceIte, Nat.reduceLeDiff, Nat.reduceLT, Nat.reduceBEq, reduceCtorEq]; ((repeat' (first | exact EnvLe_e0 _ _ | refine EnvLe_upd ?_ ?_)) <;> ((try simp only [upd_app, e0_app, o0_app, Nat.reduceEqDiff, reduceIte]); first | exact AWk.refl _ _ | exact AWk.int (by omega) | exact AWk.int (by rw [w64 (by omega) (by omega)]; omega) | exact AWk.grow rfl | exact AWk.nil _ | exact AWk.of (by simp)))) (by simp only [go_sem, init_env', Nat.reduceEqDiff, Nat.reduceAdd, Nat.reduceMul, reduceIte, Nat.reduceLeDiff, Nat.reduceLT, Nat.reduceBEq, reduceCtorEq]; (first | ((repeat' (first | exact ObjLe_o0 _ | exact ObjLe.rfl' _ | refine ObjLe_same ?_ | refine ObjLe_upd ?_ ?_ | refine ObjLe_new rfl ?_)) <;> rfl) | (refine ObjLe_X ?_; (repeat' (first | exact ObjLeX_o0 _ _ | refine ObjLeX_skip rfl ?_ | refine ObjLeX_upd ?_ ?_)) <;> rfl))))
            · have hne : (r.drive[k].length == r.drive.length) = false := by simpa using hlen
              have hgd : ∃ kk n, ((r.drive[k].map fun n => [CD.int .i64 n]).getD k []).getD 0 default = .int kk n := by
                by_cases hk2 : k < r.drive[k].length
                · rw [map_getD hk2]; exact ⟨_, _, rfl⟩
                · have hz : ((r.drive[k].map fun n => [CD.int .i64 n]).getD k []) = [] := by simp [Nat.not_lt.1 hk2]
                  rw [hz]; exact ⟨_, _, rfl⟩
              obtain ⟨kk, nn, hgd⟩ := hgd
              simp only [go_sem, init_env', Nat.reduceEqDiff, Nat.reduceAdd, Nat.reduceMul, reduceIte, Nat.reduceLeDiff, Nat.reduceLT, Nat.reduceBEq, reduceCtorEq, ibne, hne, hgd]
              (repeat (refine And.intro (by first | omega | (intros; simp_all; done) | (intros; simp_all; omega)) ?_))
              refine WV_cond rfl (fun h => ?_) (fun h => ?_)
              · (refine WV_seq_ (WV_ops ?_); simp only [go_sem, init_env', Nat.reduceEqDiff, Nat.reduceAdd, Nat.reduceMul, reduceIte, Nat.reduceLeDiff, Nat.reduceLT, Nat.reduceBEq, reduceCtorEq, hP, ]; (repeat (refine And.intro (by first | omega | (intros; simp_all; done) | (intros; simp_all; omega)) ?_)))
                have : r.ok = false := hfail (by rw [hrow, hne]; rfl)
                (refine WV_ret ?_; simp only [thenQ, inQ, RetQ, RetOk, resAll, resA]; simp only [go_sem, init_env', Nat.reduceEqDiff, Nat.reduceAdd, Nat.reduceMul, reduceIte, Nat.reduceLeDiff, Nat.reduceLT, Nat.reduceBEq, reduceCtorEq, tupA, AV.port, AV.portL, exists_eq_left', ]; (first | exact AVle.of rfl | refine AVle.of ?_ | skip))
                rw [this]; rfl
              · cases h
          · simp only [decide_eq_false_iff_not, Int.not_le] at h
            rw [List.take_of_length_le (by simp; omega)] at hn
            (refine WV_exit ?_; simp only [go_sem, init_env', Nat.reduceEqDiff, Nat.reduceAdd, Nat.reduceMul, reduceIte, Nat.reduceLeDiff, Nat.reduceLT, Nat.reduceBEq, reduceCtorEq])
            (refine WV_seq_ (WV_ops ?_); simp only [go_sem, init_env', Nat.reduceEqDiff, Nat.reduceAdd, Nat.reduceMul, reduceIte, Nat.reduceLeDiff, Nat.reduceLT, Nat.reduceBEq, reduceCtorEq, hP, ]; (repeat (refine And.intro (by first | omega | (intros; simp_all; done) | (intros; simp_all; omega)) ?_)))
            have : r.ok = true := by
              simp only [Route.ok, Bool.and_eq_true, decide_eq_true_eq, beq_iff_eq]
              exact ⟨⟨⟨⟨a1, a2⟩, a3⟩, hst⟩, hn⟩
            (refine WV_ret ?_; simp only [thenQ, inQ, RetQ, RetOk, resAll, resA]; simp only [go_sem, init_env', Nat.reduceEqDiff, Nat.reduceAdd, Nat.reduceMul, reduceIte, Nat.reduceLeDiff, Nat.reduceLT, Nat.reduceBEq, reduceCtorEq, tupA, AV.port, AV.portL, exists_eq_left', ]; (first | exact AVle.of rfl | refine AVle.of ?_ | skip))
            rw [this]; rfl
end Go.Proofs.Ytbejgfpaokcnpaa

namespace Go.Proofs.Ytbejgfpaokcnpaa
open Go Go.V
end Go.Proofs.Ytbejgfpaokcnpaa

namespace Go.Proofs.Ytbejgfpaokcnpaa
open Go Go.V
/-- Where it is behind the first stops, and how long the way was. -/
def longP (r : Route) (t : List Nat) : Nat × Int := t.foldl (fun s k => (k, s.2 + r.d s.1 k)) (r.n, 0)
def longS (r : Route) (t : List Nat) : Int := (longP r t).2 + r.d (longP r t).1 r.n
end Go.Proofs.Ytbejgfpaokcnpaa

namespace Go.Proofs.Ytbejgfpaokcnpaa
open Go Go.V
/-- What comes of a tour: times, the first stop that is missed (-1: none), when it is back. -/
def goS (r : Route) (t : List Nat) : List Int × Int × Int := match ride r (leave r) t with
  | (ts, some k, _) => (ts, (k : Int), 0)
  | (ts, none, v) => (ts, -1, v.now + r.d v.at_ r.n)
theorem ride_stop (r : Route) : ∀ (ks : List Nat) (v : Van) (l : List Nat), (ride r v ks).2.1 ≠ none → ride r v (ks ++ l) = ride r v ks
  | [], v, l, h => by simp [ride] at h
  | a :: ks, v, l, h => by
    simp only [List.cons_append, ride] at h ⊢
    by_cases hv : (visit r v a).2.2 = true
    · simp only [hv, if_true] at h ⊢
      rw [ride_stop r ks _ l h]
    · simp only [hv]; rfl

end Go.Proofs.Ytbejgfpaokcnpaa

namespace Go.Proofs.Ytbejgfpaokcnpaa
open Go Go.V
@[reducible] def o58_0 : List Ins := [⟨(some 2), .box 3 (.t 0), none, true⟩,
  ⟨(some 4), .mv (.k (.c (.int .i64 0))), none, true⟩]
@[reducible] def o58_1 : List Ins := [⟨(some 9), .ld false 3 (.t 2), none, true⟩,
  ⟨(some 10), .call (.k (.fn 26 [])) [(.t 9)], none, true⟩,
  ⟨(some 5), .mv (.t 10), none, true⟩]
@[reducible] def o58_2 : List Ins := [⟨(some 11), .mv (.t 5), none, true⟩,
  ⟨(some 12), .bin .neq (.t 11) (.k (.c (.int .i64 0))), none, true⟩]
@[reducible] def o58_3 : List Ins := [⟨(some 13), .mv (.t 5), none, true⟩,
  ⟨(some 4), .mv (.t 13), none, true⟩]
@[reducible] def v58_4 : VC := (.seq (.ops o58_3) .ret)
@[reducible] def v58_5 : VC := (.cond (.t 12) v58_4 .skip)
@[reducible] def v58_6 : VC := (.seq (.ops o58_2) v58_5)
@[reducible] def o58_7 : List Ins := [⟨(some 6), .alloc [(.c (.bool false)), (.c (.bool false)), (.c (.bool false)), (.c (.bool false)), (.c (.bool false)), (.c (.bool false)), (.c (.bool false))], none, true⟩]
@[reducible] def o58_8 : List Ins := [⟨(some 14), .mv (.t 1), none, true⟩,
  ⟨(some 15), .len (.t 14), none, true⟩,
  ⟨(some 16), .mv (.k (.c (.int .i64 0))), none, true⟩]
@[reducible] def o58_9 : List Ins := [⟨(some 17), .bin .lss (.t 16) (.t 15), none, true⟩]
@[reducible] def o58_10 : List Ins := [⟨(some 18), .ia 1 (.t 14) (.t 16), none, true⟩,
  ⟨(some 19), .ld true 1 (.t 18), none, true⟩,
  ⟨(some 8), .mv (.t 19), none, true⟩]
@[reducible] def o58_11 : List Ins := [⟨(some 20), .mv (.t 8), none, true⟩,
  ⟨(some 21), .fa 0 (.t 2), none, true⟩,
  ⟨(some 22), .ld true 1 (.t 21), none, true⟩,
  ⟨(some 23), .len (.t 22), none, true⟩,
  ⟨(some 24), .bin .sub (.t 23) (.k (.c (.int .i64 1))), none, true⟩,
  ⟨(some 25), .call (.k (.fn 57 [])) [(.t 20), (.k (.c (.int .i64 0))), (.t 24)], none, true⟩,
  ⟨(some 26), .un .not (.t 25), none, true⟩,
  ⟨(some 27), .mv (.t 26), none, true⟩,
  ⟨(some 28), .mv (.t 8), (some (27, false)), true⟩,
  ⟨(some 29), .iap 7 1 (.t 6) (.t 28), (some (27, false)), true⟩,
  ⟨(some 30), .ld true 1 (.t 29), (some (27, false)), true⟩,
  ⟨(some 31), .pick (.t 27) (.k (.c (.bool true))) (.t 30), none, true⟩]
@[reducible] def o58_12 : List Ins := [⟨(some 4), .mv (.k (.c (.int .i64 1))), none, true⟩]
@[reducible] def v58_13 : VC := (.seq (.ops o58_12) .ret)
@[reducible] def v58_14 : VC := (.cond (.t 31) v58_13 .skip)
@[reducible] def o58_15 : List Ins := [⟨(some 32), .mv (.t 8), none, true⟩,
  ⟨(some 33), .iap 7 1 (.t 6) (.t 32), none, true⟩,
  ⟨none, .st 1 (.t 33) (.k (.c (.bool true))), none, true⟩]
@[reducible] def v58_16 : VC := (.seq (.seq (.ops o58_11) v58_14) (.ops o58_15))
@[reducible] def v58_17 : VC := (.seq (.ops o58_10) v58_16)
@[reducible] def o58_18 : List Ins := [⟨(some 34), .bin .add (.t 16) (.k (.c (.int .i64 1))), none, true⟩,
  ⟨(some 16), .mv (.t 34), none, true⟩]
@[reducible] def v58_19 : VC := (.seq (.block 1 v58_17) (.ops o58_18))
@[reducible] def v58_20 : VC := (.seq (.cond (.t 17) .skip (.exit 0)) v58_19)
@[reducible] def v58_21 : VC := (.seq (.ops o58_9) v58_20)
-- K58_1: changed and kept: [16]
@[reducible] def K58_1 : List Nat := [2, 6, 14, 15]
@[reducible] def v58_22 : VC := (.loop v58_21)
@[reducible] def v58_23 : VC := (.block 0 v58_22)
@[reducible] def o58_24 : List Ins := [⟨(some 4), .mv (.k (.c (.int .i64 0))), none, true⟩]
@[reducible] def v58_25 : VC := (.seq (.ops o58_24) .ret)
@[reducible] def v58_26 : VC := (.seq (.seq (.ops o58_8) v58_23) v58_25)
@[reducible] def v58_27 : VC := (.seq (.ops o58_7) v58_26)
@[reducible] def v58_28 : VC := (.seq (.seq (.ops o58_1) v58_6) v58_27)
def ir58 : FC := ⟨2, 35, [.t 4], (.seq (.ops o58_0) v58_28)⟩
theorem c58 : compM Try.prog [] 58 = some ir58 := by kernel_rfl




set_option maxHeartbeats 2000000 in
theorem known58 (r : Route) (l : List Int) : FSpec Try.prog 58 [r.av, .c (ints l)] (iv (if r.ok then (if isTour r l then 0 else 1) else 80)) := by
  refine FSpec_of c58 (Nat.le_refl _) (by decide) fun C hP hN hC hL => ?_
  have hl : l.length ≤ 9223372036854775807 := by simp only [AV.lensL, AV.lens] at hL; exact ints_lens hL.2.1
  simp only [ir58, Route.av]
  (repeat ((first | refine WV_seq_ ?_ | refine WV_block ?_ | refine WV_ops ?_ | refine WV_skip ?_ | refine WV_exit ?_); (try simp only [go_sem, init_env', Nat.reduceEqDiff, Nat.reduceAdd, Nat.reduceMul, reduceIte, Nat.reduceLeDiff, Nat.reduceLT, Nat.reduceBEq, reduceCtorEq, hP, ]); (repeat (refine And.intro (by first | omega | (intros; simp_all; done) | (intros; simp_all; omega)) ?_))))
  (refine AS_pure (rcheck_spec r) rfl rfl rfl rfl rfl ?_; simp only [go_sem, init_env', Nat.reduceEqDiff, Nat.reduceAdd, Nat.reduceMul, reduceIte, Nat.reduceLeDiff, Nat.reduceLT, Nat.reduceBEq, reduceCtorEq, hP, ]; (repeat (refine And.intro (by first | omega | (intros; simp_all; done) | (intros; simp_all; omega)) ?_)); (repeat ((first | refine WV_seq_ ?_ | refine WV_block ?_ | refine WV_ops ?_ | refine WV_skip ?_ | refine WV_exit ?_); (try simp only [go_sem, init_env', Nat.reduceEqDiff, Nat.reduceAdd, Nat.reduceMul, reduceIte, Nat.reduceLeDiff, Nat.reduceLT, Nat.reduceBEq, reduceCtorEq, hP, ]); (repeat (refine And.intro (by first | omega | (intros; simp_all; done) | (intros; simp_all; omega)) ?_)))))
  (refine WV_cond rfl (fun h => ?_) (fun h => ?_))
  · (repeat ((first | refine WV_seq_ ?_ | refine WV_block ?_ | refine WV_ops ?_ | refine WV_skip ?_ | refine WV_exit ?_); (try simp only [go_sem, init_env', Nat.reduceEqDiff, Nat.reduceAdd, Nat.reduceMul, reduceIte, Nat.reduceLeDiff, Nat.reduceLT, Nat.reduceBEq, reduceCtorEq, hP, ]); (repeat (refine And.intro (by first | omega | (intros; simp_all; done) | (intros; simp_all; omega)) ?_))))
    (refine WV_ret ?_; simp only [thenQ, inQ, RetQ, RetOk, resAll, resA]; simp only [go_sem, init_env', Nat.reduceEqDiff, Nat.reduceAdd, Nat.reduceMul, reduceIte, Nat.reduceLeDiff, Nat.reduceLT, Nat.reduceBEq, reduceCtorEq, tupA, AV.port, AV.portL, exists_eq_left', ]; (first | exact AVle.of rfl | refine AVle.of ?_ | skip))
    cases hr : r.ok <;> simp [hr] at h ⊢
  · have hr : r.ok = true := by cases hr : r.ok <;> simp [hr] at h ⊢
    have hk := Route.ok_spec hr
    have hn7 := hk.n7
    simp only [hr, if_true]
    (repeat ((first | refine WV_seq_ ?_ | refine WV_block ?_ | refine WV_ops ?_ | refine WV_skip ?_ | refine WV_exit ?_); (try simp only [go_sem, init_env', Nat.reduceEqDiff, Nat.reduceAdd, Nat.reduceMul, reduceIte, Nat.reduceLeDiff, Nat.reduceLT, Nat.reduceBEq, reduceCtorEq, hP, ints]); (repeat (refine And.intro (by first | omega | (intros; simp_all; done) | (intros; simp_all; omega)) ?_))))
    refine WV_loopK K58_1 [6] (fun k : Nat => k ≤ l.length ∧ ∀ j (hj : j < l.length), j < k → 0 ≤ l[j] ∧ l[j] < (r.n : Int) ∧ l[j] ∉ l.take j) (fun k => l.length - k) (fun k => [(16, iv k)]) (fun k => [(6, .box (seenC (l.take k)))]) 0 ⟨Nat.zero_le _, fun _ _ h => by omega⟩ ?_ ?_
    · (refine Sub_of (by simp only [go_sem, init_env', Nat.reduceEqDiff, Nat.reduceAdd, Nat.reduceMul, reduceIte, Nat.reduceLeDiff, Nat.reduceLT, Nat.reduceBEq, reduceCtorEq]; ((repeat' (first | exact EnvLe_e0 _ _ | refine EnvLe_upd ?_ ?_)) <;> ((try simp only [upd_app, e0_app, o0_app, Nat.reduceEqDiff, reduceIte]); first | exact AWk.refl _ _ | exact AWk.int (by omega) | exact AWk.int (by rw [w64 (by omega) (by omega)]; omega) | exact AWk.grow rfl | exact AWk.nil _ | exact AWk.of (by simp)))) (by simp only [go_sem, init_env', Nat.reduceEqDiff, Nat.reduceAdd, Nat.reduceMul, reduceIte, Nat.reduceLeDiff, Nat.reduceLT, Nat.reduceBEq, reduceCtorEq]; (first | ((repeat' (first | exact ObjLe_o0 _ | exact ObjLe.rfl' _ | refine ObjLe_same ?_ | refine ObjLe_upd ?_ ?_ | refine ObjLe_new rfl ?_)) <;> rfl) | (refine ObjLe_X ?_; (repeat' (first | exact ObjLeX_o0 _ _ | refine ObjLeX_skip rfl ?_ | refine ObjLeX_upd ?_ ?_)) <;> rfl))))
    · intro k ⟨hk1, hk2⟩
      simp only [go_sem, init_env', Nat.reduceEqDiff, Nat.reduceAdd, Nat.reduceMul, reduceIte, Nat.reduceLeDiff, Nat.reduceLT, Nat.reduceBEq, reduceCtorEq]
      (repeat ((first | refine WV_seq_ ?_ | refine WV_block ?_ | refine WV_ops ?_ | refine WV_skip ?_ | refine WV_exit ?_); (try simp only [go_sem, init_env', Nat.reduceEqDiff, Nat.reduceAdd, Nat.reduceMul, reduceIte, Nat.reduceLeDiff, Nat.reduceLT, Nat.reduceBEq, reduceCtorEq, hP, ]); (repeat (refine And.intro (by first | omega | (intros; simp_all; done) | (intros; simp_all; omega)) ?_))))
      (refine WV_cond rfl (fun h => ?_) (fun h => ?_))
      · simp only [decide_eq_true_eq, Int.ofNat_lt] at h
        (repeat ((first | refine WV_seq_ ?_ | refine WV_block ?_ | refine WV_ops ?_ | refine WV_skip ?_ | refine WV_exit ?_); (try simp only [go_sem, init_env', Nat.reduceEqDiff, Nat.reduceAdd, Nat.reduceMul, reduceIte, Nat.reduceLeDiff, Nat.reduceLT, Nat.reduceBEq, reduceCtorEq, hP, Int.toNat_natCast, map_getD h, Int.ofNat_lt, h, Int.natCast_nonneg, stopsC]); (repeat (refine And.intro (by first | omega | (intros; simp_all; done) | (intros; simp_all; omega)) ?_))))
        have hn' : (r.stops.length : Int) = (r.n : Int) := rfl
        rw [w64 (by omega) (by omega)]
        refine AS_pure (wi57 _ _ _) rfl rfl rfl rfl rfl ?_
        by_cases hin : 0 ≤ l[k] ∧ l[k] < (r.n : Int)
        · obtain ⟨m, hm⟩ := Int.eq_ofNat_of_zero_le hin.1
          have hw : within l[k] 0 ((r.stops.length : Int) - 1) = true := by simp [within]; omega
          have hm7 : m < 7 := by omega
          rw [hw]
          simp only [go_sem, init_env', Nat.reduceEqDiff, Nat.reduceAdd, Nat.reduceMul, reduceIte, Nat.reduceLeDiff, Nat.reduceLT, Nat.reduceBEq, reduceCtorEq, hP, hm, Int.toNat_natCast, Nat.mul_one, seenC_get _ hm7, seenC_len, hm7]
          (repeat (refine And.intro (by first | omega | (intros; simp_all; done) | (intros; simp_all; omega)) ?_))
          (repeat ((first | refine WV_seq_ ?_ | refine WV_block ?_ | refine WV_ops ?_ | refine WV_skip ?_ | refine WV_exit ?_); (try simp only [go_sem, init_env', Nat.reduceEqDiff, Nat.reduceAdd, Nat.reduceMul, reduceIte, Nat.reduceLeDiff, Nat.reduceLT, Nat.reduceBEq, reduceCtorEq, hP, ]); (repeat (refine And.intro (by first | omega | (intros; simp_all; done) | (intros; simp_all; omega)) ?_))))
          (refine WV_cond rfl (fun h => ?_) (fun h => ?_))
          · (repeat ((first | refine WV_seq_ ?_ | refine WV_block ?_ | refine WV_ops ?_ | refine WV_skip ?_ | refine WV_exit ?_); (try simp only [go_sem, init_env', Nat.reduceEqDiff, Nat.reduceAdd, Nat.reduceMul, reduceIte, Nat.reduceLeDiff, Nat.reduceLT, Nat.reduceBEq, reduceCtorEq, hP, ]); (repeat (refine And.intro (by first | omega | (intros; simp_all; done) | (intros; simp_all; omega)) ?_))))
            have : isTour r l = false := isTour_bad (by assumption) (.inr (by rw [hm]; simpa using h))
            (refine WV_ret ?_; simp only [thenQ, inQ, RetQ, RetOk, resAll, resA]; simp only [go_sem, init_env', Nat.reduceEqDiff, Nat.reduceAdd, Nat.reduceMul, reduceIte, Nat.reduceLeDiff, Nat.reduceLT, Nat.reduceBEq, reduceCtorEq, tupA, AV.port, AV.portL, exists_eq_left', ]; (first | exact AVle.of rfl | refine AVle.of ?_ | skip))
            rw [this]; rfl
          · rename_i hk0
            have hni : l[k] ∉ l.take k := by rw [hm]; simpa using h
            (repeat ((first | refine WV_seq_ ?_ | refine WV_block ?_ | refine WV_ops ?_ | refine WV_skip ?_ | refine WV_exit ?_); (try simp only [go_sem, init_env', Nat.reduceEqDiff, Nat.reduceAdd, Nat.reduceMul, reduceIte, Nat.reduceLeDiff, Nat.reduceLT, Nat.reduceBEq, reduceCtorEq, hP, hm, Int.toNat_natCast, Nat.mul_one, seenC_set _ hm7, seenC_len, hm7]); (repeat (refine And.intro (by first | omega | (intros; simp_all; done) | (intros; simp_all; omega)) ?_))))
            refine ⟨k + 1, ⟨by omega, fun j hj hjk => ?_⟩, by omega, ?_⟩
            · rcases Nat.lt_or_ge j k with h1 | h1
              · exact hk2 j hj h1
              · have : j = k := by omega
                subst this
                exact ⟨hin.1, hin.2, hni⟩
            · rw [List.take_succ_eq_append_getElem hk0, hm]
              (refine Sub_of (by simp only [go_sem, init_env', Nat.reduceEqDiff, Nat.reduceAdd, Nat.reduceMul, reduceIte, Nat.reduceLeDiff, Nat.reduceLT, Nat.reduceBEq, reduceCtorEq]; ((repeat' (first | exact EnvLe_e0 _ _ | refine EnvLe_upd ?_ ?_)) <;> ((try simp only [upd_app, e0_app, o0_app, Nat.reduceEqDiff, reduceIte]); first | exact AWk.refl _ _ | exact AWk.int (by omega) | exact AWk.int (by rw [w64 (by omega) (by omega)]; omega) | exact AWk.grow rfl | exact AWk.nil _ | exact AWk.of (by simp)))) (by simp only [go_sem, init_env', Nat.reduceEqDiff, Nat.reduceAdd, Nat.reduceMul, reduceIte, Nat.reduceLeDiff, Nat.reduceLT, Nat.reduceBEq, reduceCtorEq]; (first | ((repeat' (first | exact ObjLe_o0 _ | exact ObjLe.rfl' _ | refine ObjLe_same ?_ | refine ObjLe_upd ?_ ?_ | refine ObjLe_new rfl ?_)) <;> rfl) | (refine ObjLe_X ?_; (repeat' (first | exact ObjLeX_o0 _ _ | refine ObjLeX_skip rfl ?_ | refine ObjLeX_upd ?_ ?_)) <;> rfl))))
        · have hw : within l[k] 0 ((r.stops.length : Int) - 1) = false := by
            cases hx : within l[k] 0 ((r.stops.length : Int) - 1) with
            | false => rfl
            | true => exfalso; simp [within] at hx; omega
          rw [hw]
          simp only [go_sem, init_env', Nat.reduceEqDiff, Nat.reduceAdd, Nat.reduceMul, reduceIte, Nat.reduceLeDiff, Nat.reduceLT, Nat.reduceBEq, reduceCtorEq, hP, Bool.true_or]
          (repeat (refine And.intro (by first | omega | (intros; simp_all; done) | (intros; simp_all; omega)) ?_))
          (repeat ((first | refine WV_seq_ ?_ | refine WV_block ?_ | refine WV_ops ?_ | refine WV_skip ?_ | refine WV_exit ?_); (try simp only [go_sem, init_env', Nat.reduceEqDiff, Nat.reduceAdd, Nat.reduceMul, reduceIte, Nat.reduceLeDiff, Nat.reduceLT, Nat.reduceBEq, reduceCtorEq, hP, ]); (repeat (refine And.intro (by first | omega | (intros; simp_all; done) | (intros; simp_all; omega)) ?_))))
          (refine WV_cond rfl (fun h => ?_) (fun h => ?_))
          · (repeat ((first | refine WV_seq_ ?_ | refine WV_block ?_ | refine WV_ops ?_ | refine WV_skip ?_ | refine WV_exit ?_); (try simp only [go_sem, init_env', Nat.reduceEqDiff, Nat.reduceAdd, Nat.reduceMul, reduceIte, Nat.reduceLeDiff, Nat.reduceLT, Nat.reduceBEq, reduceCtorEq, hP, ]); (repeat (refine And.intro (by first | omega | (intros; simp_all; done) | (intros; simp_all; omega)) ?_))))
            have : isTour r l = false := isTour_bad (by assumption) (.inl hin)
            (refine WV_ret ?_; simp only [thenQ, inQ, RetQ, RetOk, resAll, resA]; simp only [go_sem, init_env', Nat.reduceEqDiff, Nat.reduceAdd, Nat.reduceMul, reduceIte, Nat.reduceLeDiff, Nat.reduceLT, Nat.reduceBEq, reduceCtorEq, tupA, AV.port, AV.portL, exists_eq_left', ]; (first | exact AVle.of rfl | refine AVle.of ?_ | skip))
            rw [this]; rfl
          · cases h
      · simp only [decide_eq_false_iff_not, Int.ofNat_lt] at h
        (repeat ((first | refine WV_seq_ ?_ | refine WV_block ?_ | refine WV_ops ?_ | refine WV_skip ?_ | refine WV_exit ?_); (try simp only [go_sem, init_env', Nat.reduceEqDiff, Nat.reduceAdd, Nat.reduceMul, reduceIte, Nat.reduceLeDiff, Nat.reduceLT, Nat.reduceBEq, reduceCtorEq, hP, ]); (repeat (refine And.intro (by first | omega | (intros; simp_all; done) | (intros; simp_all; omega)) ?_))))
        have : isTour r l = true := isTour_good fun j hj => hk2 j hj (by omega)
        (refine WV_ret ?_; simp only [thenQ, inQ, RetQ, RetOk, resAll, resA]; simp only [go_sem, init_env', Nat.reduceEqDiff, Nat.reduceAdd, Nat.reduceMul, reduceIte, Nat.reduceLeDiff, Nat.reduceLT, Nat.reduceBEq, reduceCtorEq, tupA, AV.port, AV.portL, exists_eq_left', ]; (first | exact AVle.of rfl | refine AVle.of ?_ | skip))
        rw [this]; rfl
end Go.Proofs.Ytbejgfpaokcnpaa

namespace Go.Proofs.Ytbejgfpaokcnpaa
open Go Go.V
@[reducible] def o59_0 : List Ins := [⟨(some 2), .box 3 (.t 0), none, true⟩,
  ⟨(some 4), .alloc [(.c (.raw (.slice none 0 0))), (.c (.int .i64 0)), (.c (.int .i64 0)), (.c (.int .i64 0))], none, true⟩]
@[reducible] def o59_1 : List Ins := [⟨(some 12), .bld [(.c (.raw (.slice none 0 0))), (.c (.int .i64 0)), (.c (.int .i64 0)), (.c (.int .i64 0))] [(1, 1, (.k (.c (.int .i64 (-1)))))], none, true⟩,
  ⟨(some 5), .alloc [(.c (.raw (.slice none 0 0))), (.c (.int .i64 0)), (.c (.int .i64 0)), (.c (.int .i64 0))], none, true⟩,
  ⟨none, .st 4 (.t 5) (.t 12), none, true⟩]
@[reducible] def o59_2 : List Ins := [⟨(some 13), .call (.k (.fn 72 [])) [(.t 2)], none, true⟩,
  ⟨(some 6), .alloc [(.c (.raw (.pointer none))), (.c (.int .i64 0)), (.c (.int .i64 0)), (.c (.int .i64 0))], none, true⟩,
  ⟨none, .st 4 (.t 6) (.t 13), none, true⟩]
@[reducible] def o59_3 : List Ins := [⟨(some 14), .mv (.t 1), none, true⟩,
  ⟨(some 15), .len (.t 14), none, true⟩,
  ⟨(some 16), .mv (.k (.c (.int .i64 0))), none, true⟩]
@[reducible] def o59_4 : List Ins := [⟨(some 17), .bin .lss (.t 16) (.t 15), none, true⟩]
@[reducible] def o59_5 : List Ins := [⟨(some 18), .ia 1 (.t 14) (.t 16), none, true⟩,
  ⟨(some 19), .ld true 1 (.t 18), none, true⟩,
  ⟨(some 8), .mv (.t 19), none, true⟩]
@[reducible] def o59_6 : List Ins := [⟨(some 21), .ld false 4 (.t 6), none, true⟩,
  ⟨(some 22), .mv (.t 8), none, true⟩,
  ⟨(some 23), .call (.k (.fn 73 [])) [(.t 21), (.t 22)], none, true⟩,
  ⟨(some 20), .mv (.t 23), none, true⟩,
  ⟨(some 24), .ext (.t 20) 0, none, true⟩,
  ⟨(some 25), .ext (.t 20) 1, none, true⟩,
  ⟨(some 26), .ext (.t 20) 2, none, true⟩,
  ⟨(some 9), .alloc [(.c (.raw (.pointer none))), (.c (.int .i64 0)), (.c (.int .i64 0)), (.c (.int .i64 0))], none, true⟩,
  ⟨none, .st 4 (.t 9) (.t 24), none, true⟩,
  ⟨(some 10), .mv (.t 25), none, true⟩,
  ⟨(some 11), .mv (.t 26), none, true⟩]
@[reducible] def o59_7 : List Ins := [⟨(some 27), .mv (.t 11), none, true⟩,
  ⟨(some 28), .un .not (.t 27), none, true⟩]
@[reducible] def o59_8 : List Ins := [⟨(some 29), .mv (.t 8), none, true⟩,
  ⟨(some 30), .bld [(.c (.raw (.slice none 0 0))), (.c (.int .i64 0)), (.c (.int .i64 0)), (.c (.int .i64 0))] [(1, 1, (.t 29))], none, true⟩,
  ⟨none, .st 4 (.t 4) (.t 30), none, true⟩]
@[reducible] def v59_9 : VC := (.seq (.ops o59_8) .ret)
@[reducible] def v59_10 : VC := (.cond (.t 28) v59_9 .skip)
@[reducible] def o59_11 : List Ins := [⟨(some 31), .fa 0 (.t 5), none, true⟩,
  ⟨(some 32), .ld true 1 (.t 31), none, true⟩,
  ⟨(some 33), .mv (.t 10), none, true⟩,
  ⟨(some 34), .bsl 3 1 [(.t 33)], none, true⟩,
  ⟨(some 35), .app 3 1 8 (.t 32) (.t 34), none, true⟩,
  ⟨(some 36), .fa 0 (.t 5), none, true⟩,
  ⟨none, .st 1 (.t 36) (.t 35), none, true⟩]
@[reducible] def o59_12 : List Ins := [⟨(some 37), .ld false 4 (.t 9), none, true⟩,
  ⟨none, .st 4 (.t 6) (.t 37), none, true⟩]
@[reducible] def v59_13 : VC := (.seq (.ops o59_11) (.ops o59_12))
@[reducible] def v59_14 : VC := (.seq (.seq (.ops o59_7) v59_10) v59_13)
@[reducible] def v59_15 : VC := (.seq (.ops o59_6) v59_14)
@[reducible] def v59_16 : VC := (.seq (.ops o59_5) v59_15)
@[reducible] def o59_17 : List Ins := [⟨(some 38), .bin .add (.t 16) (.k (.c (.int .i64 1))), none, true⟩,
  ⟨(some 16), .mv (.t 38), none, true⟩]
@[reducible] def v59_18 : VC := (.seq (.block 1 v59_16) (.ops o59_17))
@[reducible] def v59_19 : VC := (.seq (.cond (.t 17) .skip (.exit 0)) v59_18)
@[reducible] def v59_20 : VC := (.seq (.ops o59_4) v59_19)
-- K59_1: changed and kept: [16]
@[reducible] def K59_1 : List Nat := [1, 4, 5, 6, 14, 15]
@[reducible] def v59_21 : VC := (.loop v59_20)
@[reducible] def v59_22 : VC := (.block 0 v59_21)
@[reducible] def o59_23 : List Ins := [⟨(some 39), .mv (.t 1), none, true⟩,
  ⟨(some 40), .len (.t 39), none, true⟩,
  ⟨(some 41), .bin .gtr (.t 40) (.k (.c (.int .i64 0))), none, true⟩]
@[reducible] def o59_24 : List Ins := [⟨(some 42), .ld false 4 (.t 6), none, true⟩,
  ⟨(some 43), .call (.k (.fn 68 [])) [(.t 42)], none, true⟩,
  ⟨none, .st 4 (.t 6) (.t 43), none, true⟩]
@[reducible] def v59_25 : VC := (.cond (.t 41) (.ops o59_24) .skip)
@[reducible] def t59_26 : OT := (.cons ⟨(some 44), .fa 2 (.t 6), none, false⟩
  (.cons ⟨(some 45), .ld true 1 (.t 44), none, false⟩
  (.cons ⟨(some 46), .fa 3 (.t 6), none, false⟩
  (.cons ⟨(some 48), .fa 2 (.t 5), none, false⟩
  (.br [(.cons ⟨(some 47), .ld true 1 (.t 46), none, false⟩
    (.cons ⟨none, .st 1 (.t 48) (.t 45), none, false⟩
    (.cons ⟨(some 49), .fa 3 (.t 5), none, true⟩
    (.cons ⟨none, .st 1 (.t 49) (.t 47), none, true⟩
    .nil)))), (.cons ⟨none, .st 1 (.t 48) (.t 45), none, false⟩
    (.cons ⟨(some 47), .ld true 1 (.t 46), none, false⟩
    (.cons ⟨(some 49), .fa 3 (.t 5), none, true⟩
    (.cons ⟨none, .st 1 (.t 49) (.t 47), none, true⟩
    .nil))))])))))
@[reducible] def o59_27 : List Ins := [⟨(some 50), .ld false 4 (.t 5), none, true⟩,
  ⟨none, .st 4 (.t 4) (.t 50), none, true⟩]
@[reducible] def v59_28 : VC := (.seq (.ops o59_27) .ret)
@[reducible] def v59_29 : VC := (.seq (.drw t59_26) v59_28)
@[reducible] def v59_30 : VC := (.seq (.seq (.ops o59_23) v59_25) v59_29)
@[reducible] def v59_31 : VC := (.seq (.seq (.ops o59_3) v59_22) v59_30)
@[reducible] def v59_32 : VC := (.seq (.ops o59_2) v59_31)
@[reducible] def v59_33 : VC := (.seq (.ops o59_1) v59_32)
def ir59 : FC := ⟨2, 51, [.cell 4 false 4], (.seq (.ops o59_0) v59_33)⟩
theorem c59 : compM Try.prog [] 59 = some ir59 := by kernel_rfl



def vanc (r : Route) (v : Van) : List AV := [.c (.pt r.cds), iv v.at_, iv v.now, iv v.long]

set_option maxHeartbeats 2000000 in
theorem rides59 {r : Route} (hr : RouteOk r) {ks : List Nat} (hks : ∀ k ∈ ks, k < r.n) (hlen : ks.length ≤ 20) : FSpec Try.prog 59 [r.av, .c (nats ks)] (rideAV r ks) := by
  refine FSpec_of c59 (Nat.le_refl _) (by decide) fun C hP hN hC hL => ?_
  simp only [ir59, Route.av, nats]
  (refine WV_seq_ (WV_ops ?_); simp only [go_sem, init_env', Nat.reduceEqDiff, Nat.reduceAdd, Nat.reduceMul, reduceIte, Nat.reduceLeDiff, Nat.reduceLT, Nat.reduceBEq, reduceCtorEq, hP, ]; (repeat (refine And.intro (by first | omega | (intros; simp_all; done) | (intros; simp_all; omega)) ?_)))
  refine WV_freeze 2 (ds := r.cds) rfl rfl ?_
  simp only [go_sem, init_env', Nat.reduceEqDiff, Nat.reduceAdd, Nat.reduceMul, reduceIte, Nat.reduceLeDiff, Nat.reduceLT, Nat.reduceBEq, reduceCtorEq]
  (repeat ((first | refine WV_seq_ ?_ | refine WV_block ?_ | refine WV_ops ?_ | refine WV_skip ?_ | refine WV_exit ?_); (try simp only [go_sem, init_env', Nat.reduceEqDiff, Nat.reduceAdd, Nat.reduceMul, reduceIte, Nat.reduceLeDiff, Nat.reduceLT, Nat.reduceBEq, reduceCtorEq, hP, ]); (repeat (refine And.intro (by first | omega | (intros; simp_all; done) | (intros; simp_all; omega)) ?_))))
  (refine AS_pure (leave72 r) rfl rfl rfl rfl rfl ?_; simp only [go_sem, init_env', Nat.reduceEqDiff, Nat.reduceAdd, Nat.reduceMul, reduceIte, Nat.reduceLeDiff, Nat.reduceLT, Nat.reduceBEq, reduceCtorEq, hP, vanv]; (repeat (refine And.intro (by first | omega | (intros; simp_all; done) | (intros; simp_all; omega)) ?_)); (repeat ((first | refine WV_seq_ ?_ | refine WV_block ?_ | refine WV_ops ?_ | refine WV_skip ?_ | refine WV_exit ?_); (try simp only [go_sem, init_env', Nat.reduceEqDiff, Nat.reduceAdd, Nat.reduceMul, reduceIte, Nat.reduceLeDiff, Nat.reduceLT, Nat.reduceBEq, reduceCtorEq, hP, vanv]); (repeat (refine And.intro (by first | omega | (intros; simp_all; done) | (intros; simp_all; omega)) ?_)))))
  refine WV_nilbox 5 0 35 3 1 (by decide) (by decide) (by decide) rfl rfl rfl ?_
  simp only [go_sem, init_env', Nat.reduceEqDiff, Nat.reduceAdd, Nat.reduceMul, reduceIte, Nat.reduceLeDiff, Nat.reduceLT, Nat.reduceBEq, reduceCtorEq]
  refine WV_loopK K59_1 [5, 6, 35] (fun k : Nat => k ≤ ks.length ∧ (ride r (leave r) (ks.take k)).2.1 = none) (fun k => ks.length - k) (fun k => [(16, iv k)])
    (fun k => [(35, .grow 3 1 ((ride r (leave r) (ks.take k)).1.map fun n => [.int .i64 n])), (5, .box [.gr 35, iv (-1), iv 0, iv 0]), (6, .box (vanc r (ride r (leave r) (ks.take k)).2.2))]) 0 ⟨Nat.zero_le _, rfl⟩ ?_ ?_
  · (refine Sub_of (by simp only [go_sem, init_env', Nat.reduceEqDiff, Nat.reduceAdd, Nat.reduceMul, reduceIte, Nat.reduceLeDiff, Nat.reduceLT, Nat.reduceBEq, reduceCtorEq]; ((repeat' (first | exact EnvLe_e0 _ _ | refine EnvLe_upd ?_ ?_)) <;> ((try simp only [upd_app, e0_app, o0_app, Nat.reduceEqDiff, reduceIte]); first | exact AWk.refl _ _ | exact AWk.int (by omega) | exact AWk.int (by rw [w64 (by omega) (by omega)]; omega) | exact AWk.grow rfl | exact AWk.nil _ | exact AWk.of (by simp)))) (by simp only [go_sem, init_env', Nat.reduceEqDiff, Nat.reduceAdd, Nat.reduceMul, reduceIte, Nat.reduceLeDiff, Nat.reduceLT, Nat.reduceBEq, reduceCtorEq]; (first | ((repeat' (first | exact ObjLe_o0 _ | exact ObjLe.rfl' _ | refine ObjLe_same ?_ | refine ObjLe_upd ?_ ?_ | refine ObjLe_new rfl ?_)) <;> rfl) | (refine ObjLe_X ?_; (repeat' (first | exact ObjLeX_o0 _ _ | refine ObjLeX_skip rfl ?_ | refine ObjLeX_upd ?_ ?_)) <;> rfl))))
  · intro k ⟨hk, hn⟩
    simp only [go_sem, init_env', Nat.reduceEqDiff, Nat.reduceAdd, Nat.reduceMul, reduceIte, Nat.reduceLeDiff, Nat.reduceLT, Nat.reduceBEq, reduceCtorEq, vanc]
    (repeat ((first | refine WV_seq_ ?_ | refine WV_block ?_ | refine WV_ops ?_ | refine WV_skip ?_ | refine WV_exit ?_); (try simp only [go_sem, init_env', Nat.reduceEqDiff, Nat.reduceAdd, Nat.reduceMul, reduceIte, Nat.reduceLeDiff, Nat.reduceLT, Nat.reduceBEq, reduceCtorEq, hP, ]); (repeat (refine And.intro (by first | omega | (intros; simp_all; done) | (intros; simp_all; omega)) ?_))))
    (refine WV_cond rfl (fun h => ?_) (fun h => ?_))
    · simp only [decide_eq_true_eq, Int.ofNat_lt] at h
      have hv := ride_ok hr (ks.take k) (leave r) 0 (leave_ok hr) (fun j hj => hks j (List.mem_of_mem_take hj)) hn
      (repeat ((first | refine WV_seq_ ?_ | refine WV_block ?_ | refine WV_ops ?_ | refine WV_skip ?_ | refine WV_exit ?_); (try simp only [go_sem, init_env', Nat.reduceEqDiff, Nat.reduceAdd, Nat.reduceMul, reduceIte, Nat.reduceLeDiff, Nat.reduceLT, Nat.reduceBEq, reduceCtorEq, hP, Int.toNat_natCast, map_getD h, Int.ofNat_lt, h, Int.natCast_nonneg, ints]); (repeat (refine And.intro (by first | omega | (intros; simp_all; done) | (intros; simp_all; omega)) ?_))))
      have hkl : k < (ks.map fun (n : Nat) => (n : Int)).length := by simpa using h
      have hkk := hks _ (List.getElem_mem h)
      have hlt : (ks.take k).length ≤ 20 := by rw [List.length_take]; omega
      have hst := ride_snoc r (ks.take k) (leave r) ks[k] hn
      rw [← List.take_succ_eq_append_getElem h] at hst
      generalize hts : (ride r (leave r) (List.take k ks)).1 = ts at *
      generalize hV : (ride r (leave r) (List.take k ks)).2.2 = V at *
      refine AS_pure (visit73 hr hv (by omega) hkk) rfl rfl rfl ?_ rfl ?_
      · simp only [go_sem, init_env', Nat.reduceEqDiff, Nat.reduceAdd, Nat.reduceMul, reduceIte, Nat.reduceLeDiff, Nat.reduceLT, Nat.reduceBEq, reduceCtorEq, map_getD hkl, List.getElem_map]
        rfl
      · simp only [go_sem, init_env', Nat.reduceEqDiff, Nat.reduceAdd, Nat.reduceMul, reduceIte, Nat.reduceLeDiff, Nat.reduceLT, Nat.reduceBEq, reduceCtorEq, hP, vanv]
        (repeat ((first | refine WV_seq_ ?_ | refine WV_block ?_ | refine WV_ops ?_ | refine WV_skip ?_ | refine WV_exit ?_); (try simp only [go_sem, init_env', Nat.reduceEqDiff, Nat.reduceAdd, Nat.reduceMul, reduceIte, Nat.reduceLeDiff, Nat.reduceLT, Nat.reduceBEq, reduceCtorEq, hP, ]); (repeat (refine And.intro (by first | omega | (intros; simp_all; done) | (intros; simp_all; omega)) ?_))))
        have htl : ts.length ≤ 20 := by rw [← hts]; exact Nat.le_trans (ride_len r _ _) hlt
        have hmax : maxLen = 9223372036854775807 := rfl
        (refine WV_cond rfl (fun h => ?_) (fun h => ?_))
        · simp only [Bool.not_eq_true'] at h
          rename_i hk2
          rw [h] at hst
          simp only [Bool.false_eq_true, if_false] at hst
          have hf := ride_fail r (ks.take (k + 1)) (leave r) (ks.drop (k + 1)) (by rw [hst]; simp)
          rw [List.take_append_drop, hst] at hf
          have e : rideAV r ks = .agg [.c (ints []), iv ks[k], iv 0, iv 0] := by
            unfold rideAV
            revert hf
            generalize ride r (leave r) ks = x
            obtain ⟨x1, x2, x3⟩ := x
            intro hf
            simp only at hf
            subst hf
            rfl
          (repeat ((first | refine WV_seq_ ?_ | refine WV_block ?_ | refine WV_ops ?_ | refine WV_skip ?_ | refine WV_exit ?_); (try simp only [go_sem, init_env', Nat.reduceEqDiff, Nat.reduceAdd, Nat.reduceMul, reduceIte, Nat.reduceLeDiff, Nat.reduceLT, Nat.reduceBEq, reduceCtorEq, hP, map_getD hkl, List.getElem_map]); (repeat (refine And.intro (by first | omega | (intros; simp_all; done) | (intros; simp_all; omega)) ?_))))
          (refine WV_ret ?_; simp only [thenQ, inQ, RetQ, RetOk, resAll, resA]; simp only [go_sem, init_env', Nat.reduceEqDiff, Nat.reduceAdd, Nat.reduceMul, reduceIte, Nat.reduceLeDiff, Nat.reduceLT, Nat.reduceBEq, reduceCtorEq, tupA, AV.port, AV.portL, exists_eq_left', ])
          rw [e]
          exact AVle.agg (AVles.cons (AVle.nil 1) (AVles.refl _))
        · simp only [Bool.not_eq_false'] at h
          rename_i hk2
          rw [h] at hst
          simp only [if_true] at hst
          (repeat ((first | refine WV_seq_ ?_ | refine WV_block ?_ | refine WV_ops ?_ | refine WV_skip ?_ | refine WV_exit ?_); (try simp only [go_sem, init_env', Nat.reduceEqDiff, Nat.reduceAdd, Nat.reduceMul, reduceIte, Nat.reduceLeDiff, Nat.reduceLT, Nat.reduceBEq, reduceCtorEq, hP, ]); (repeat (refine And.intro (by first | omega | (intros; simp_all; done) | (intros; simp_all; omega)) ?_))))
          refine ⟨k + 1, ⟨by omega, by rw [hst]⟩, by omega, ?_⟩
          rw [hst]
          (refine Sub_of (by simp only [go_sem, init_env', Nat.reduceEqDiff, Nat.reduceAdd, Nat.reduceMul, reduceIte, Nat.reduceLeDiff, Nat.reduceLT, Nat.reduceBEq, reduceCtorEq]; ((repeat' (first | exact EnvLe_e0 _ _ | refine EnvLe_upd ?_ ?_)) <;> ((try simp only [upd_app, e0_app, o0_app, Nat.reduceEqDiff, reduceIte]); first | exact AWk.refl _ _ | exact AWk.int (by omega) | exact AWk.int (by rw [w64 (by omega) (by omega)]; omega) | exact AWk.grow rfl | exact AWk.nil _ | exact AWk.of (by simp)))) (by simp only [go_sem, init_env', Nat.reduceEqDiff, Nat.reduceAdd, Nat.reduceMul, reduceIte, Nat.reduceLeDiff, Nat.reduceLT, Nat.reduceBEq, reduceCtorEq]; (first | ((repeat' (first | exact ObjLe_o0 _ | exact ObjLe.rfl' _ | refine ObjLe_same ?_ | refine ObjLe_upd ?_ ?_ | refine ObjLe_new rfl ?_)) <;> rfl) | (refine ObjLe_X ?_; (repeat' (first | exact ObjLeX_o0 _ _ | refine ObjLeX_skip rfl ?_ | refine ObjLeX_upd ?_ ?_)) <;> rfl))))
    · simp only [decide_eq_false_iff_not, Int.ofNat_lt] at h
      have hv := ride_ok hr (ks.take k) (leave r) 0 (leave_ok hr) (fun j hj => hks j (List.mem_of_mem_take hj)) hn
      have hlt : (ks.take k).length ≤ 20 := by rw [List.length_take]; omega
      rw [List.take_of_length_le (by omega)] at hn hv ⊢
      rw [List.take_of_length_le (by omega)] at hlt
      have e : rideAV r ks = .agg [.c (ints (ride r (leave r) ks).1), iv (-1), iv (home r ks (ride r (leave r) ks).2.2).now, iv (home r ks (ride r (leave r) ks).2.2).long] := by
        unfold rideAV
        revert hn
        generalize ride r (leave r) ks = x
        obtain ⟨x1, x2, x3⟩ := x
        intro hn
        simp only at hn
        subst hn
        rfl
      rw [e]
      generalize hts : (ride r (leave r) ks).1 = ts at *
      generalize hV : (ride r (leave r) ks).2.2 = V at *
      (repeat ((first | refine WV_seq_ ?_ | refine WV_block ?_ | refine WV_ops ?_ | refine WV_skip ?_ | refine WV_exit ?_); (try simp only [go_sem, init_env', Nat.reduceEqDiff, Nat.reduceAdd, Nat.reduceMul, reduceIte, Nat.reduceLeDiff, Nat.reduceLT, Nat.reduceBEq, reduceCtorEq, hP, ints]); (repeat (refine And.intro (by first | omega | (intros; simp_all; done) | (intros; simp_all; omega)) ?_))))
      (refine WV_cond rfl (fun h => ?_) (fun h => ?_))
      · simp only [decide_eq_true_eq] at h
        have hne : ks ≠ [] := by rintro rfl; simp at h
        have hh : home r ks V = drv r V r.n := by unfold home; rw [if_neg hne]
        rw [hh]
        (repeat ((first | refine WV_seq_ ?_ | refine WV_block ?_ | refine WV_ops ?_ | refine WV_skip ?_ | refine WV_exit ?_); (try simp only [go_sem, init_env', Nat.reduceEqDiff, Nat.reduceAdd, Nat.reduceMul, reduceIte, Nat.reduceLeDiff, Nat.reduceLT, Nat.reduceBEq, reduceCtorEq, hP, ]); (repeat (refine And.intro (by first | omega | (intros; simp_all; done) | (intros; simp_all; omega)) ?_))))
        (refine AS_pure (home68 hr hv (by omega)) rfl rfl rfl rfl rfl ?_; simp only [go_sem, init_env', Nat.reduceEqDiff, Nat.reduceAdd, Nat.reduceMul, reduceIte, Nat.reduceLeDiff, Nat.reduceLT, Nat.reduceBEq, reduceCtorEq, hP, vanv]; (repeat (refine And.intro (by first | omega | (intros; simp_all; done) | (intros; simp_all; omega)) ?_)); (repeat ((first | refine WV_seq_ ?_ | refine WV_block ?_ | refine WV_ops ?_ | refine WV_skip ?_ | refine WV_exit ?_); (try simp only [go_sem, init_env', Nat.reduceEqDiff, Nat.reduceAdd, Nat.reduceMul, reduceIte, Nat.reduceLeDiff, Nat.reduceLT, Nat.reduceBEq, reduceCtorEq, hP, vanv]); (repeat (refine And.intro (by first | omega | (intros; simp_all; done) | (intros; simp_all; omega)) ?_)))))
        (refine WV_drw ?_; simp only [go_sem, init_env', Nat.reduceEqDiff, Nat.reduceAdd, Nat.reduceMul, reduceIte, Nat.reduceLeDiff, Nat.reduceLT, Nat.reduceBEq, reduceCtorEq, hP, ]; (repeat' (refine And.intro ?_ ?_)))
        all_goals ((repeat ((first | refine WV_seq_ ?_ | refine WV_block ?_ | refine WV_ops ?_ | refine WV_skip ?_ | refine WV_exit ?_); (try simp only [go_sem, init_env', Nat.reduceEqDiff, Nat.reduceAdd, Nat.reduceMul, reduceIte, Nat.reduceLeDiff, Nat.reduceLT, Nat.reduceBEq, reduceCtorEq, hP, ]); (repeat (refine And.intro (by first | omega | (intros; simp_all; done) | (intros; simp_all; omega)) ?_)))); (refine WV_ret ?_; simp only [thenQ, inQ, RetQ, RetOk, resAll, resA]; simp only [go_sem, init_env', Nat.reduceEqDiff, Nat.reduceAdd, Nat.reduceMul, reduceIte, Nat.reduceLeDiff, Nat.reduceLT, Nat.reduceBEq, reduceCtorEq, tupA, AV.port, AV.portL, exists_eq_left', ]; (first | exact AVle.of rfl | refine AVle.of ?_ | skip)))
      · simp only [decide_eq_false_iff_not] at h
        have hne : ks = [] := by cases ks with | nil => rfl | cons a l => simp at h
        have hh : home r ks V = V := by unfold home; rw [if_pos hne]
        rw [hh]
        (repeat ((first | refine WV_seq_ ?_ | refine WV_block ?_ | refine WV_ops ?_ | refine WV_skip ?_ | refine WV_exit ?_); (try simp only [go_sem, init_env', Nat.reduceEqDiff, Nat.reduceAdd, Nat.reduceMul, reduceIte, Nat.reduceLeDiff, Nat.reduceLT, Nat.reduceBEq, reduceCtorEq, hP, ]); (repeat (refine And.intro (by first | omega | (intros; simp_all; done) | (intros; simp_all; omega)) ?_))))
        (refine WV_drw ?_; simp only [go_sem, init_env', Nat.reduceEqDiff, Nat.reduceAdd, Nat.reduceMul, reduceIte, Nat.reduceLeDiff, Nat.reduceLT, Nat.reduceBEq, reduceCtorEq, hP, ]; (repeat' (refine And.intro ?_ ?_)))
        all_goals ((repeat ((first | refine WV_seq_ ?_ | refine WV_block ?_ | refine WV_ops ?_ | refine WV_skip ?_ | refine WV_exit ?_); (try simp only [go_sem, init_env', Nat.reduceEqDiff, Nat.reduceAdd, Nat.reduceMul, reduceIte, Nat.reduceLeDiff, Nat.reduceLT, Nat.reduceBEq, reduceCtorEq, hP, ]); (repeat (refine And.intro (by first | omega | (intros; simp_all; done) | (intros; simp_all; omega)) ?_)))); (refine WV_ret ?_; simp only [thenQ, inQ, RetQ, RetOk, resAll, resA]; simp only [go_sem, init_env', Nat.reduceEqDiff, Nat.reduceAdd, Nat.reduceMul, reduceIte, Nat.reduceLeDiff, Nat.reduceLT, Nat.reduceBEq, reduceCtorEq, tupA, AV.port, AV.portL, exists_eq_left', ]; (first | exact AVle.of rfl | refine AVle.of ?_ | skip)))
end Go.Proofs.Ytbejgfpaokcnpaa

namespace Go.Proofs.Ytbejgfpaokcnpaa
open Go Go.V
@[reducible] def o28_0 : List Ins := [⟨(some 2), .box 3 (.t 0), none, true⟩,
  ⟨(some 4), .mv (.k (.c (.raw (.slice none 0 0)))), none, true⟩,
  ⟨(some 5), .mv (.k (.c (.int .i64 0))), none, true⟩]
@[reducible] def o28_1 : List Ins := [⟨(some 8), .ld false 3 (.t 2), none, true⟩,
  ⟨(some 9), .mv (.t 1), none, true⟩,
  ⟨(some 10), .call (.k (.fn 58 [])) [(.t 8), (.t 9)], none, true⟩,
  ⟨(some 6), .mv (.t 10), none, true⟩]
@[reducible] def o28_2 : List Ins := [⟨(some 11), .mv (.t 6), none, true⟩,
  ⟨(some 12), .bin .neq (.t 11) (.k (.c (.int .i64 0))), none, true⟩]
@[reducible] def o28_3 : List Ins := [⟨(some 13), .mv (.t 6), none, true⟩,
  ⟨(some 4), .mv (.k (.c (.raw (.slice none 0 0)))), none, true⟩,
  ⟨(some 5), .mv (.t 13), none, true⟩]
@[reducible] def v28_4 : VC := (.seq (.ops o28_3) .ret)
@[reducible] def v28_5 : VC := (.cond (.t 12) v28_4 .skip)
@[reducible] def v28_6 : VC := (.seq (.ops o28_2) v28_5)
@[reducible] def o28_7 : List Ins := [⟨(some 14), .ld false 3 (.t 2), none, true⟩,
  ⟨(some 15), .mv (.t 1), none, true⟩,
  ⟨(some 16), .call (.k (.fn 59 [])) [(.t 14), (.t 15)], none, true⟩,
  ⟨(some 7), .alloc [(.c (.raw (.slice none 0 0))), (.c (.int .i64 0)), (.c (.int .i64 0)), (.c (.int .i64 0))], none, true⟩,
  ⟨none, .st 4 (.t 7) (.t 16), none, true⟩]
@[reducible] def o28_8 : List Ins := [⟨(some 17), .fa 1 (.t 7), none, true⟩,
  ⟨(some 18), .ld true 1 (.t 17), none, true⟩,
  ⟨(some 19), .bin .geq (.t 18) (.k (.c (.int .i64 0))), none, true⟩]
@[reducible] def o28_9 : List Ins := [⟨(some 4), .mv (.k (.c (.raw (.slice none 0 0)))), none, true⟩,
  ⟨(some 5), .mv (.k (.c (.int .i64 81))), none, true⟩]
@[reducible] def v28_10 : VC := (.seq (.ops o28_9) .ret)
@[reducible] def v28_11 : VC := (.cond (.t 19) v28_10 .skip)
@[reducible] def o28_12 : List Ins := [⟨(some 20), .fa 0 (.t 7), none, true⟩,
  ⟨(some 21), .ld true 1 (.t 20), none, true⟩,
  ⟨(some 4), .mv (.t 21), none, true⟩,
  ⟨(some 5), .mv (.k (.c (.int .i64 0))), none, true⟩]
@[reducible] def v28_13 : VC := (.seq (.ops o28_12) .ret)
@[reducible] def v28_14 : VC := (.seq (.seq (.ops o28_8) v28_11) v28_13)
@[reducible] def v28_15 : VC := (.seq (.ops o28_7) v28_14)
@[reducible] def v28_16 : VC := (.seq (.seq (.ops o28_1) v28_6) v28_15)
def ir28 : FC := ⟨2, 22, [.t 4, .t 5], (.seq (.ops o28_0) v28_16)⟩
@[reducible] def o30_0 : List Ins := [⟨(some 2), .box 3 (.t 0), none, true⟩,
  ⟨(some 4), .mv (.k (.c (.int .i64 0))), none, true⟩,
  ⟨(some 5), .mv (.k (.c (.int .i64 0))), none, true⟩]
@[reducible] def o30_1 : List Ins := [⟨(some 8), .ld false 3 (.t 2), none, true⟩,
  ⟨(some 9), .mv (.t 1), none, true⟩,
  ⟨(some 10), .call (.k (.fn 58 [])) [(.t 8), (.t 9)], none, true⟩,
  ⟨(some 6), .mv (.t 10), none, true⟩]
@[reducible] def o30_2 : List Ins := [⟨(some 11), .mv (.t 6), none, true⟩,
  ⟨(some 12), .bin .neq (.t 11) (.k (.c (.int .i64 0))), none, true⟩]
@[reducible] def o30_3 : List Ins := [⟨(some 13), .mv (.t 6), none, true⟩,
  ⟨(some 4), .mv (.k (.c (.int .i64 0))), none, true⟩,
  ⟨(some 5), .mv (.t 13), none, true⟩]
@[reducible] def v30_4 : VC := (.seq (.ops o30_3) .ret)
@[reducible] def v30_5 : VC := (.cond (.t 12) v30_4 .skip)
@[reducible] def v30_6 : VC := (.seq (.ops o30_2) v30_5)
@[reducible] def o30_7 : List Ins := [⟨(some 14), .ld false 3 (.t 2), none, true⟩,
  ⟨(some 15), .mv (.t 1), none, true⟩,
  ⟨(some 16), .call (.k (.fn 59 [])) [(.t 14), (.t 15)], none, true⟩,
  ⟨(some 7), .alloc [(.c (.raw (.slice none 0 0))), (.c (.int .i64 0)), (.c (.int .i64 0)), (.c (.int .i64 0))], none, true⟩,
  ⟨none, .st 4 (.t 7) (.t 16), none, true⟩]
@[reducible] def o30_8 : List Ins := [⟨(some 17), .fa 1 (.t 7), none, true⟩,
  ⟨(some 18), .ld true 1 (.t 17), none, true⟩,
  ⟨(some 19), .bin .geq (.t 18) (.k (.c (.int .i64 0))), none, true⟩]
@[reducible] def o30_9 : List Ins := [⟨(some 4), .mv (.k (.c (.int .i64 0))), none, true⟩,
  ⟨(some 5), .mv (.k (.c (.int .i64 81))), none, true⟩]
@[reducible] def v30_10 : VC := (.seq (.ops o30_9) .ret)
@[reducible] def v30_11 : VC := (.cond (.t 19) v30_10 .skip)
@[reducible] def o30_12 : List Ins := [⟨(some 20), .fa 2 (.t 7), none, true⟩,
  ⟨(some 21), .ld true 1 (.t 20), none, true⟩,
  ⟨(some 4), .mv (.t 21), none, true⟩,
  ⟨(some 5), .mv (.k (.c (.int .i64 0))), none, true⟩]
@[reducible] def v30_13 : VC := (.seq (.ops o30_12) .ret)
@[reducible] def v30_14 : VC := (.seq (.seq (.ops o30_8) v30_11) v30_13)
@[reducible] def v30_15 : VC := (.seq (.ops o30_7) v30_14)
@[reducible] def v30_16 : VC := (.seq (.seq (.ops o30_1) v30_6) v30_15)
def ir30 : FC := ⟨2, 22, [.t 4, .t 5], (.seq (.ops o30_0) v30_16)⟩
theorem c28 : compM Try.prog [] 28 = some ir28 := by kernel_rfl
theorem c30 : compM Try.prog [] 30 = some ir30 := by kernel_rfl
set_option maxHeartbeats 1000000 in
theorem times28 (r : Route) (l : List Int) (hl : l.length ≤ 20) : FSpec Try.prog 28 [r.av, .c (ints l)] (.tup [.c (ints (timesS r l).1), iv (timesS r l).2]) := by
  refine FSpec_of c28 (Nat.le_refl _) (by decide) fun C hP hN hC hL => ?_
  simp only [ir28, Route.av]
  (repeat ((first | refine WV_seq_ ?_ | refine WV_block ?_ | refine WV_ops ?_ | refine WV_skip ?_ | refine WV_exit ?_); (try simp only [go_sem, init_env', Nat.reduceEqDiff, Nat.reduceAdd, Nat.reduceMul, reduceIte, Nat.reduceLeDiff, Nat.reduceLT, Nat.reduceBEq, reduceCtorEq, hP, ]); (repeat (refine And.intro (by first | omega | (intros; simp_all; done) | (intros; simp_all; omega)) ?_))))
  (refine AS_pure (known58 r l) rfl rfl rfl rfl rfl ?_; simp only [go_sem, init_env', Nat.reduceEqDiff, Nat.reduceAdd, Nat.reduceMul, reduceIte, Nat.reduceLeDiff, Nat.reduceLT, Nat.reduceBEq, reduceCtorEq, hP, ]; (repeat (refine And.intro (by first | omega | (intros; simp_all; done) | (intros; simp_all; omega)) ?_)); (repeat ((first | refine WV_seq_ ?_ | refine WV_block ?_ | refine WV_ops ?_ | refine WV_skip ?_ | refine WV_exit ?_); (try simp only [go_sem, init_env', Nat.reduceEqDiff, Nat.reduceAdd, Nat.reduceMul, reduceIte, Nat.reduceLeDiff, Nat.reduceLT, Nat.reduceBEq, reduceCtorEq, hP, ]); (repeat (refine And.intro (by first | omega | (intros; simp_all; done) | (intros; simp_all; omega)) ?_)))))
  rw [show (if r.ok = true then (if isTour r l = true then (0 : Int) else 1) else 80) = knownE r l from rfl]
  (refine WV_cond rfl (fun h => ?_) (fun h => ?_))
  · rw [knownE_zero] at h
    simp only [Bool.not_eq_true', decide_eq_false_iff_not] at h
    have e : timesS r l = ([], knownE r l) := by unfold timesS; rw [if_neg h]
    (repeat ((first | refine WV_seq_ ?_ | refine WV_block ?_ | refine WV_ops ?_ | refine WV_skip ?_ | refine WV_exit ?_); (try simp only [go_sem, init_env', Nat.reduceEqDiff, Nat.reduceAdd, Nat.reduceMul, reduceIte, Nat.reduceLeDiff, Nat.reduceLT, Nat.reduceBEq, reduceCtorEq, hP, ]); (repeat (refine And.intro (by first | omega | (intros; simp_all; done) | (intros; simp_all; omega)) ?_))))
    (refine WV_ret ?_; simp only [thenQ, inQ, RetQ, RetOk, resAll, resA]; simp only [go_sem, init_env', Nat.reduceEqDiff, Nat.reduceAdd, Nat.reduceMul, reduceIte, Nat.reduceLeDiff, Nat.reduceLT, Nat.reduceBEq, reduceCtorEq, tupA, AV.port, AV.portL, exists_eq_left', ])
    rw [e]
    exact AVle.tup (AVles.cons (AVle.nil 1) (AVles.refl _))
  · rw [knownE_zero] at h
    simp only [Bool.not_eq_false', decide_eq_true_eq] at h
    have ht := h.2
    have hr := Route.ok_spec h.1
    (repeat ((first | refine WV_seq_ ?_ | refine WV_block ?_ | refine WV_ops ?_ | refine WV_skip ?_ | refine WV_exit ?_); (try simp only [go_sem, init_env', Nat.reduceEqDiff, Nat.reduceAdd, Nat.reduceMul, reduceIte, Nat.reduceLeDiff, Nat.reduceLT, Nat.reduceBEq, reduceCtorEq, hP, ]); (repeat (refine And.intro (by first | omega | (intros; simp_all; done) | (intros; simp_all; omega)) ?_))))
    have hsp := rides59 hr (toN_lt ht) (by simpa [toN] using hl)
    rw [nats_toN ht] at hsp
    have e0 : timesS r l = _ := if_pos h
    unfold rideAV at hsp
    revert hsp e0
    generalize ride r (leave r) (toN l) = x
    obtain ⟨ts, m, v⟩ := x
    intro hsp e0
    cases m with
    | some k =>
      simp only at e0 hsp
      (refine AS_pure (hsp) rfl rfl rfl rfl rfl ?_; simp only [go_sem, init_env', Nat.reduceEqDiff, Nat.reduceAdd, Nat.reduceMul, reduceIte, Nat.reduceLeDiff, Nat.reduceLT, Nat.reduceBEq, reduceCtorEq, hP, ]; (repeat (refine And.intro (by first | omega | (intros; simp_all; done) | (intros; simp_all; omega)) ?_)); (repeat ((first | refine WV_seq_ ?_ | refine WV_block ?_ | refine WV_ops ?_ | refine WV_skip ?_ | refine WV_exit ?_); (try simp only [go_sem, init_env', Nat.reduceEqDiff, Nat.reduceAdd, Nat.reduceMul, reduceIte, Nat.reduceLeDiff, Nat.reduceLT, Nat.reduceBEq, reduceCtorEq, hP, ]); (repeat (refine And.intro (by first | omega | (intros; simp_all; done) | (intros; simp_all; omega)) ?_)))))
      (refine WV_cond rfl (fun h => ?_) (fun h => ?_))
      · (repeat ((first | refine WV_seq_ ?_ | refine WV_block ?_ | refine WV_ops ?_ | refine WV_skip ?_ | refine WV_exit ?_); (try simp only [go_sem, init_env', Nat.reduceEqDiff, Nat.reduceAdd, Nat.reduceMul, reduceIte, Nat.reduceLeDiff, Nat.reduceLT, Nat.reduceBEq, reduceCtorEq, hP, ]); (repeat (refine And.intro (by first | omega | (intros; simp_all; done) | (intros; simp_all; omega)) ?_))))
        (refine WV_ret ?_; simp only [thenQ, inQ, RetQ, RetOk, resAll, resA]; simp only [go_sem, init_env', Nat.reduceEqDiff, Nat.reduceAdd, Nat.reduceMul, reduceIte, Nat.reduceLeDiff, Nat.reduceLT, Nat.reduceBEq, reduceCtorEq, tupA, AV.port, AV.portL, exists_eq_left', ])
        rw [e0]
        exact AVle.tup (AVles.cons (AVle.nil 1) (AVles.refl _))
      · simp at h
    | none =>
      simp only at e0 hsp
      (refine AS_pure (hsp) rfl rfl rfl rfl rfl ?_; simp only [go_sem, init_env', Nat.reduceEqDiff, Nat.reduceAdd, Nat.reduceMul, reduceIte, Nat.reduceLeDiff, Nat.reduceLT, Nat.reduceBEq, reduceCtorEq, hP, ]; (repeat (refine And.intro (by first | omega | (intros; simp_all; done) | (intros; simp_all; omega)) ?_)); (repeat ((first | refine WV_seq_ ?_ | refine WV_block ?_ | refine WV_ops ?_ | refine WV_skip ?_ | refine WV_exit ?_); (try simp only [go_sem, init_env', Nat.reduceEqDiff, Nat.reduceAdd, Nat.reduceMul, reduceIte, Nat.reduceLeDiff, Nat.reduceLT, Nat.reduceBEq, reduceCtorEq, hP, ]); (repeat (refine And.intro (by first | omega | (intros; simp_all; done) | (intros; simp_all; omega)) ?_)))))
      (refine WV_cond rfl (fun h => ?_) (fun h => ?_))
      · simp at h
      · (repeat ((first | refine WV_seq_ ?_ | refine WV_block ?_ | refine WV_ops ?_ | refine WV_skip ?_ | refine WV_exit ?_); (try simp only [go_sem, init_env', Nat.reduceEqDiff, Nat.reduceAdd, Nat.reduceMul, reduceIte, Nat.reduceLeDiff, Nat.reduceLT, Nat.reduceBEq, reduceCtorEq, hP, ]); (repeat (refine And.intro (by first | omega | (intros; simp_all; done) | (intros; simp_all; omega)) ?_))))
        (refine WV_ret ?_; simp only [thenQ, inQ, RetQ, RetOk, resAll, resA]; simp only [go_sem, init_env', Nat.reduceEqDiff, Nat.reduceAdd, Nat.reduceMul, reduceIte, Nat.reduceLeDiff, Nat.reduceLT, Nat.reduceBEq, reduceCtorEq, tupA, AV.port, AV.portL, exists_eq_left', ])
        rw [e0]
        exact AVle.refl _

set_option maxHeartbeats 1000000 in
theorem back30 (r : Route) (l : List Int) (hl : l.length ≤ 20) : FSpec Try.prog 30 [r.av, .c (ints l)] (.tup [iv (backS r l).1, iv (backS r l).2]) := by
  refine FSpec_of c30 (Nat.le_refl _) (by decide) fun C hP hN hC hL => ?_
  simp only [ir30, Route.av]
  (repeat ((first | refine WV_seq_ ?_ | refine WV_block ?_ | refine WV_ops ?_ | refine WV_skip ?_ | refine WV_exit ?_); (try simp only [go_sem, init_env', Nat.reduceEqDiff, Nat.reduceAdd, Nat.reduceMul, reduceIte, Nat.reduceLeDiff, Nat.reduceLT, Nat.reduceBEq, reduceCtorEq, hP, ]); (repeat (refine And.intro (by first | omega | (intros; simp_all; done) | (intros; simp_all; omega)) ?_))))
  (refine AS_pure (known58 r l) rfl rfl rfl rfl rfl ?_; simp only [go_sem, init_env', Nat.reduceEqDiff, Nat.reduceAdd, Nat.reduceMul, reduceIte, Nat.reduceLeDiff, Nat.reduceLT, Nat.reduceBEq, reduceCtorEq, hP, ]; (repeat (refine And.intro (by first | omega | (intros; simp_all; done) | (intros; simp_all; omega)) ?_)); (repeat ((first | refine WV_seq_ ?_ | refine WV_block ?_ | refine WV_ops ?_ | refine WV_skip ?_ | refine WV_exit ?_); (try simp only [go_sem, init_env', Nat.reduceEqDiff, Nat.reduceAdd, Nat.reduceMul, reduceIte, Nat.reduceLeDiff, Nat.reduceLT, Nat.reduceBEq, reduceCtorEq, hP, ]); (repeat (refine And.intro (by first | omega | (intros; simp_all; done) | (intros; simp_all; omega)) ?_)))))
  rw [show (if r.ok = true then (if isTour r l = true then (0 : Int) else 1) else 80) = knownE r l from rfl]
  (refine WV_cond rfl (fun h => ?_) (fun h => ?_))
  · rw [knownE_zero] at h
    simp only [Bool.not_eq_true', decide_eq_false_iff_not] at h
    have e : backS r l = (0, knownE r l) := by unfold backS; rw [if_neg h]
    (repeat ((first | refine WV_seq_ ?_ | refine WV_block ?_ | refine WV_ops ?_ | refine WV_skip ?_ | refine WV_exit ?_); (try simp only [go_sem, init_env', Nat.reduceEqDiff, Nat.reduceAdd, Nat.reduceMul, reduceIte, Nat.reduceLeDiff, Nat.reduceLT, Nat.reduceBEq, reduceCtorEq, hP, ]); (repeat (refine And.intro (by first | omega | (intros; simp_all; done) | (intros; simp_all; omega)) ?_))))
    (refine WV_ret ?_; simp only [thenQ, inQ, RetQ, RetOk, resAll, resA]; simp only [go_sem, init_env', Nat.reduceEqDiff, Nat.reduceAdd, Nat.reduceMul, reduceIte, Nat.reduceLeDiff, Nat.reduceLT, Nat.reduceBEq, reduceCtorEq, tupA, AV.port, AV.portL, exists_eq_left', ])
    rw [e]
    exact AVle.tup (AVles.cons (AVle.refl _) (AVles.refl _))
  · rw [knownE_zero] at h
    simp only [Bool.not_eq_false', decide_eq_true_eq] at h
    have ht := h.2
    have hr := Route.ok_spec h.1
    (repeat ((first | refine WV_seq_ ?_ | refine WV_block ?_ | refine WV_ops ?_ | refine WV_skip ?_ | refine WV_exit ?_); (try simp only [go_sem, init_env', Nat.reduceEqDiff, Nat.reduceAdd, Nat.reduceMul, reduceIte, Nat.reduceLeDiff, Nat.reduceLT, Nat.reduceBEq, reduceCtorEq, hP, ]); (repeat (refine And.intro (by first | omega | (intros; simp_all; done) | (intros; simp_all; omega)) ?_))))
    have hsp := rides59 hr (toN_lt ht) (by simpa [toN] using hl)
    rw [nats_toN ht] at hsp
    have e0 : backS r l = _ := if_pos h
    unfold rideAV at hsp
    revert hsp e0
    generalize ride r (leave r) (toN l) = x
    obtain ⟨ts, m, v⟩ := x
    intro hsp e0
    cases m with
    | some k =>
      simp only at e0 hsp
      (refine AS_pure (hsp) rfl rfl rfl rfl rfl ?_; simp only [go_sem, init_env', Nat.reduceEqDiff, Nat.reduceAdd, Nat.reduceMul, reduceIte, Nat.reduceLeDiff, Nat.reduceLT, Nat.reduceBEq, reduceCtorEq, hP, ]; (repeat (refine And.intro (by first | omega | (intros; simp_all; done) | (intros; simp_all; omega)) ?_)); (repeat ((first | refine WV_seq_ ?_ | refine WV_block ?_ | refine WV_ops ?_ | refine WV_skip ?_ | refine WV_exit ?_); (try simp only [go_sem, init_env', Nat.reduceEqDiff, Nat.reduceAdd, Nat.reduceMul, reduceIte, Nat.reduceLeDiff, Nat.reduceLT, Nat.reduceBEq, reduceCtorEq, hP, ]); (repeat (refine And.intro (by first | omega | (intros; simp_all; done) | (intros; simp_all; omega)) ?_)))))
      (refine WV_cond rfl (fun h => ?_) (fun h => ?_))
      · (repeat ((first | refine WV_seq_ ?_ | refine WV_block ?_ | refine WV_ops ?_ | refine WV_skip ?_ | refine WV_exit ?_); (try simp only [go_sem, init_env', Nat.reduceEqDiff, Nat.reduceAdd, Nat.reduceMul, reduceIte, Nat.reduceLeDiff, Nat.reduceLT, Nat.reduceBEq, reduceCtorEq, hP, ]); (repeat (refine And.intro (by first | omega | (intros; simp_all; done) | (intros; simp_all; omega)) ?_))))
        (refine WV_ret ?_; simp only [thenQ, inQ, RetQ, RetOk, resAll, resA]; simp only [go_sem, init_env', Nat.reduceEqDiff, Nat.reduceAdd, Nat.reduceMul, reduceIte, Nat.reduceLeDiff, Nat.reduceLT, Nat.reduceBEq, reduceCtorEq, tupA, AV.port, AV.portL, exists_eq_left', ])
        rw [e0]
        exact AVle.tup (AVles.cons (AVle.refl _) (AVles.refl _))
      · simp at h
    | none =>
      simp only at e0 hsp
      (refine AS_pure (hsp) rfl rfl rfl rfl rfl ?_; simp only [go_sem, init_env', Nat.reduceEqDiff, Nat.reduceAdd, Nat.reduceMul, reduceIte, Nat.reduceLeDiff, Nat.reduceLT, Nat.reduceBEq, reduceCtorEq, hP, ]; (repeat (refine And.intro (by first | omega | (intros; simp_all; done) | (intros; simp_all; omega)) ?_)); (repeat ((first | refine WV_seq_ ?_ | refine WV_block ?_ | refine WV_ops ?_ | refine WV_skip ?_ | refine WV_exit ?_); (try simp only [go_sem, init_env', Nat.reduceEqDiff, Nat.reduceAdd, Nat.reduceMul, reduceIte, Nat.reduceLeDiff, Nat.reduceLT, Nat.reduceBEq, reduceCtorEq, hP, ]); (repeat (refine And.intro (by first | omega | (intros; simp_all; done) | (intros; simp_all; omega)) ?_)))))
      (refine WV_cond rfl (fun h => ?_) (fun h => ?_))
      · simp at h
      · (repeat ((first | refine WV_seq_ ?_ | refine WV_block ?_ | refine WV_ops ?_ | refine WV_skip ?_ | refine WV_exit ?_); (try simp only [go_sem, init_env', Nat.reduceEqDiff, Nat.reduceAdd, Nat.reduceMul, reduceIte, Nat.reduceLeDiff, Nat.reduceLT, Nat.reduceBEq, reduceCtorEq, hP, ]); (repeat (refine And.intro (by first | omega | (intros; simp_all; done) | (intros; simp_all; omega)) ?_))))
        (refine WV_ret ?_; simp only [thenQ, inQ, RetQ, RetOk, resAll, resA]; simp only [go_sem, init_env', Nat.reduceEqDiff, Nat.reduceAdd, Nat.reduceMul, reduceIte, Nat.reduceLeDiff, Nat.reduceLT, Nat.reduceBEq, reduceCtorEq, tupA, AV.port, AV.portL, exists_eq_left', ])
        rw [e0]
        exact AVle.refl _

end Go.Proofs.Ytbejgfpaokcnpaa

namespace Go.Proofs.Ytbejgfpaokcnpaa
open Go Go.V
theorem home_back {r : Route} (hr : RouteOk r) (t : List Nat) {w : Van} {ts : List Int} (h : ride r (leave r) t = (ts, none, w)) : (home r t w).now = w.now + r.d w.at_ r.n ∧ (home r t w).long = w.long + r.d w.at_ r.n := by
  unfold home
  by_cases ht : t = []
  · subst ht
    simp only [ride, Prod.mk.injEq] at h
    obtain ⟨_, _, rfl⟩ := h
    have := hr.diag r.n (Nat.lt_succ_self _)
    simp [leave, this]
  · rw [if_neg ht]; exact ⟨rfl, rfl⟩

end Go.Proofs.Ytbejgfpaokcnpaa

namespace Go.Proofs.Ytbejgfpaokcnpaa
open Go Go.V
/-- All tours that begin with t, of at most f more stops. -/
def toursR (n : Nat) : Nat → List Nat → List (List Nat)
  | 0, t => [t]
  | f + 1, t => t :: (List.range n).flatMap fun k => if k ∈ t then [] else toursR n f (t ++ [k])
theorem ints_one (l : List Int) : ((l.map fun n => [CD.int .i64 n]).all fun e => e.length == 1) = true := by
  rw [List.all_eq_true]; intro e he; obtain ⟨n, _, rfl⟩ := List.mem_map.1 he; rfl
end Go.Proofs.Ytbejgfpaokcnpaa

namespace Go.Proofs.Ytbejgfpaokcnpaa
open Go Go.V
theorem toursR_ok {n : Nat} : ∀ (f : Nat) (t : List Nat), t.Nodup → (∀ k ∈ t, k < n) → ∀ p ∈ toursR n f t, p.Nodup ∧ (∀ k ∈ p, k < n)
  | 0, t, h1, h2, p, hp => by simp only [toursR, List.mem_singleton] at hp; subst hp; exact ⟨h1, h2⟩
  | f + 1, t, h1, h2, p, hp => by
    simp only [toursR, List.mem_cons, List.mem_flatMap, List.mem_range] at hp
    rcases hp with rfl | ⟨k, hk, hp⟩
    · exact ⟨h1, h2⟩
    · split at hp
      · cases hp
      · rename_i hnk
        refine toursR_ok f (t ++ [k]) ?_ ?_ p hp
        · rw [List.nodup_append]
          exact ⟨h1, by simp, fun a ha b hb => by simp at hb; subst hb; rintro rfl; exact hnk ha⟩
        · intro j hj
          rcases List.mem_append.1 hj with hj | hj
          · exact h2 j hj
          · simp at hj; omega
def allR (r : Route) : List (List Nat) := toursR r.n (r.n + 1) []
theorem allR_ok {r : Route} : ∀ p ∈ allR r, p.Nodup ∧ (∀ k ∈ p, k < r.n) := toursR_ok _ _ List.nodup_nil (by simp)
theorem allR_len {r : Route} {p : List Nat} (hp : p ∈ allR r) : p.length ≤ r.n := tour_len (allR_ok p hp).1 (allR_ok p hp).2
def ridden (r : Route) (t : List Nat) : Bool := (ride r (leave r) t).2.1.isNone
def goodP (r : Route) (w : Bool) (t : List Nat) : Bool := (!w || t.length == r.n) && ridden r t
def goodR (r : Route) (w : Bool) : List (List Nat) := (allR r).filter (goodP r w)
end Go.Proofs.Ytbejgfpaokcnpaa

namespace Go.Proofs.Ytbejgfpaokcnpaa
open Go Go.V
def wholesL (r : Route) : List (List Nat) := if r.ok then goodR r true else []
def errR (r : Route) : Int := if r.ok then (if goodR r true = [] then 3 else 0) else 80
theorem errR_eq {r : Route} (h : errR r = 0) : RouteOk r ∧ wholesL r = goodR r true ∧ 0 < (goodR r true).length := by
  unfold errR at h
  cases hk : r.ok with
  | false => rw [hk] at h; simp at h
  | true =>
    rw [hk] at h
    refine ⟨Route.ok_spec hk, by simp [wholesL, hk], ?_⟩
    rcases Nat.eq_zero_or_pos (goodR r true).length with e | e
    · rw [List.length_eq_zero_iff] at e; rw [e] at h; simp at h
    · exact e
theorem goodR_mem {r : Route} {w : Bool} {t : List Nat} (h : t ∈ goodR r w) : t.Nodup ∧ (∀ k ∈ t, k < r.n) ∧ t.length ≤ r.n ∧ goodP r w t = true := by
  have := List.mem_filter.1 h
  exact ⟨(allR_ok _ this.1).1, (allR_ok _ this.1).2, allR_len this.1, this.2⟩

def minS (f : List Nat → Int) (l : List (List Nat)) (k : Nat) : Int := (l.take k).foldl (fun b t => min b (f t)) (f (l.getD 0 []))
def rsoonS (r : Route) : Int × Int := if errR r = 0 then (minS (fun t => (goS r t).2.2) (goodR r true) (goodR r true).length, 0) else (0, errR r)
def rshortS (r : Route) : Int × Int := if errR r = 0 then (minS (longS r) (goodR r true) (goodR r true).length, 0) else (0, errR r)

end Go.Proofs.Ytbejgfpaokcnpaa

namespace Go.Proofs.Ytbejgfpaokcnpaa
open Go Go.V
def lateF (r : Route) (b : Int) (t : List Nat) : Int := if t.length = r.n then max b (leavesS r t) else b
def rlatB (r : Route) (l : List (List Nat)) : Int := l.foldl (lateF r) (-1)
def rlatS (r : Route) : Int × Int := if r.ok then (if rlatB r (allR r) < 0 then (0, 3) else (rlatB r (allR r), 0)) else (0, 80)

def rmostB (r : Route) (l : List (List Nat)) : Int := l.foldl (fun b t => max b (cashS r t)) 0
def rmostS (r : Route) : Int × Int := if r.ok then (rmostB r (goodR r false), 0) else (0, 80)
end Go.Proofs.Ytbejgfpaokcnpaa

namespace Go.Proofs.Ytbejgfpaokcnpaa
open Go Go.V
@[reducible] def o49_0 : List Ins := [⟨(some 0), .alloc [(.c (.raw (.slice none 0 0))), (.c (.raw (.slice none 0 0))), (.c (.int .i64 0))], none, true⟩]
@[reducible] def o49_1 : List Ins := [⟨(some 1), .bld [(.c (.int .i64 0)), (.c (.int .i64 0)), (.c (.int .i64 0)), (.c (.int .i64 0))] [(0, 1, (.k (.c (.int .i64 60)))), (1, 1, (.k (.c (.int .i64 100)))), (2, 1, (.k (.c (.int .i64 10)))), (3, 1, (.k (.c (.int .i64 500))))], none, true⟩,
  ⟨(some 2), .bld [(.c (.int .i64 0)), (.c (.int .i64 0)), (.c (.int .i64 0)), (.c (.int .i64 0))] [(1, 1, (.k (.c (.int .i64 30)))), (2, 1, (.k (.c (.int .i64 5)))), (3, 1, (.k (.c (.int .i64 200))))], none, true⟩,
  ⟨(some 3), .bld [(.c (.int .i64 0)), (.c (.int .i64 0)), (.c (.int .i64 0)), (.c (.int .i64 0))] [(0, 1, (.k (.c (.int .i64 50)))), (1, 1, (.k (.c (.int .i64 200)))), (2, 1, (.k (.c (.int .i64 20)))), (3, 1, (.k (.c (.int .i64 900))))], none, true⟩,
  ⟨(some 4), .bsl 53 4 [(.t 1), (.t 2), (.t 3)], none, true⟩,
  ⟨(some 5), .bsl 3 1 [(.k (.c (.int .i64 0))), (.k (.c (.int .i64 15))), (.k (.c (.int .i64 30))), (.k (.c (.int .i64 20)))], none, true⟩,
  ⟨(some 6), .bsl 3 1 [(.k (.c (.int .i64 15))), (.k (.c (.int .i64 0))), (.k (.c (.int .i64 25))), (.k (.c (.int .i64 10)))], none, true⟩,
  ⟨(some 7), .bsl 3 1 [(.k (.c (.int .i64 30))), (.k (.c (.int .i64 25))), (.k (.c (.int .i64 0))), (.k (.c (.int .i64 40)))], none, true⟩,
  ⟨(some 8), .bsl 3 1 [(.k (.c (.int .i64 20))), (.k (.c (.int .i64 10))), (.k (.c (.int .i64 40))), (.k (.c (.int .i64 0)))], none, true⟩,
  ⟨(some 9), .bsl 33 1 [(.t 5), (.t 6), (.t 7), (.t 8)], none, true⟩,
  ⟨(some 10), .bld [(.c (.raw (.slice none 0 0))), (.c (.raw (.slice none 0 0))), (.c (.int .i64 0))] [(0, 1, (.t 4)), (1, 1, (.t 9))], none, true⟩,
  ⟨none, .st 3 (.t 0) (.t 10), none, true⟩]
@[reducible] def v49_2 : VC := (.seq (.ops o49_1) .ret)
def ir49 : FC := ⟨0, 11, [.cell 0 false 3], (.seq (.ops o49_0) v49_2)⟩
@[reducible] def o14_0 : List Ins := [⟨(some 0), .mv (.k (.c (.bool false))), none, true⟩]
@[reducible] def o14_1 : List Ins := [⟨(some 14), .call (.k (.fn 49 [])) [], none, true⟩,
  ⟨(some 1), .alloc [(.c (.raw (.slice none 0 0))), (.c (.raw (.slice none 0 0))), (.c (.int .i64 0))], none, true⟩,
  ⟨none, .st 3 (.t 1) (.t 14), none, true⟩]
@[reducible] def o14_2 : List Ins := [⟨(some 16), .ld false 3 (.t 1), none, true⟩,
  ⟨(some 17), .bsl 3 1 [(.k (.c (.int .i64 1))), (.k (.c (.int .i64 2))), (.k (.c (.int .i64 0)))], none, true⟩,
  ⟨(some 18), .call (.k (.fn 28 [])) [(.t 16), (.t 17)], none, true⟩,
  ⟨(some 15), .mv (.t 18), none, true⟩,
  ⟨(some 19), .ext (.t 15) 0, none, true⟩,
  ⟨(some 20), .ext (.t 15) 1, none, true⟩,
  ⟨(some 2), .mv (.t 19), none, true⟩,
  ⟨(some 3), .mv (.t 20), none, true⟩]
@[reducible] def o14_3 : List Ins := [⟨(some 22), .ld false 3 (.t 1), none, true⟩,
  ⟨(some 23), .call (.k (.fn 35 [])) [(.t 22)], none, true⟩,
  ⟨(some 21), .mv (.t 23), none, true⟩,
  ⟨(some 24), .ext (.t 21) 0, none, true⟩,
  ⟨(some 25), .ext (.t 21) 1, none, true⟩,
  ⟨(some 4), .mv (.t 24), none, true⟩,
  ⟨(some 5), .mv (.t 25), none, true⟩]
@[reducible] def o14_4 : List Ins := [⟨(some 27), .ld false 3 (.t 1), none, true⟩,
  ⟨(some 28), .call (.k (.fn 15 [])) [(.t 27)], none, true⟩,
  ⟨(some 26), .mv (.t 28), none, true⟩,
  ⟨(some 29), .ext (.t 26) 0, none, true⟩,
  ⟨(some 30), .ext (.t 26) 1, none, true⟩,
  ⟨(some 6), .mv (.t 29), none, true⟩,
  ⟨(some 7), .mv (.t 30), none, true⟩]
@[reducible] def o14_5 : List Ins := [⟨(some 32), .ld false 3 (.t 1), none, true⟩,
  ⟨(some 33), .call (.k (.fn 20 [])) [(.t 32)], none, true⟩,
  ⟨(some 31), .mv (.t 33), none, true⟩,
  ⟨(some 34), .ext (.t 31) 0, none, true⟩,
  ⟨(some 35), .ext (.t 31) 1, none, true⟩,
  ⟨(some 8), .mv (.t 34), none, true⟩,
  ⟨(some 9), .mv (.t 35), none, true⟩]
@[reducible] def o14_6 : List Ins := [⟨(some 37), .ld false 3 (.t 1), none, true⟩,
  ⟨(some 38), .bsl 3 1 [(.k (.c (.int .i64 0))), (.k (.c (.int .i64 1))), (.k (.c (.int .i64 2)))], none, true⟩,
  ⟨(some 39), .call (.k (.fn 30 [])) [(.t 37), (.t 38)], none, true⟩,
  ⟨(some 36), .mv (.t 39), none, true⟩,
  ⟨(some 40), .ext (.t 36) 0, none, true⟩,
  ⟨(some 41), .ext (.t 36) 1, none, true⟩,
  ⟨(some 10), .mv (.t 40), none, true⟩,
  ⟨(some 11), .mv (.t 41), none, true⟩]
@[reducible] def o14_7 : List Ins := [⟨(some 42), .fa 2 (.t 1), none, true⟩,
  ⟨none, .st 1 (.t 42) (.k (.c (.int .i64 50))), none, true⟩]
@[reducible] def o14_8 : List Ins := [⟨(some 44), .ld false 3 (.t 1), none, true⟩,
  ⟨(some 45), .call (.k (.fn 41 [])) [(.t 44)], none, true⟩,
  ⟨(some 43), .mv (.t 45), none, true⟩,
  ⟨(some 46), .ext (.t 43) 0, none, true⟩,
  ⟨(some 47), .ext (.t 43) 1, none, true⟩,
  ⟨(some 12), .mv (.t 46), none, true⟩,
  ⟨(some 13), .mv (.t 47), none, true⟩]
@[reducible] def o14_9 : List Ins := [⟨(some 48), .mv (.t 3), none, true⟩,
  ⟨(some 49), .bin .eql (.t 48) (.k (.c (.int .i64 0))), none, true⟩,
  ⟨(some 50), .mv (.t 49), none, true⟩,
  ⟨(some 51), .mv (.t 5), (some (50, true)), true⟩,
  ⟨(some 52), .bin .eql (.t 51) (.k (.c (.int .i64 0))), (some (50, true)), true⟩,
  ⟨(some 53), .pick (.t 50) (.t 52) (.k (.c (.bool false))), none, true⟩,
  ⟨(some 54), .mv (.t 53), none, true⟩,
  ⟨(some 55), .mv (.t 7), (some (54, true)), true⟩,
  ⟨(some 56), .bin .eql (.t 55) (.k (.c (.int .i64 0))), (some (54, true)), true⟩,
  ⟨(some 57), .pick (.t 54) (.t 56) (.k (.c (.bool false))), none, true⟩,
  ⟨(some 58), .mv (.t 57), none, true⟩,
  ⟨(some 59), .mv (.t 9), (some (58, true)), true⟩,
  ⟨(some 60), .bin .eql (.t 59) (.k (.c (.int .i64 0))), (some (58, true)), true⟩,
  ⟨(some 61), .pick (.t 58) (.t 60) (.k (.c (.bool false))), none, true⟩,
  ⟨(some 62), .mv (.t 61), none, true⟩,
  ⟨(some 63), .mv (.t 11), (some (62, true)), true⟩,
  ⟨(some 64), .bin .eql (.t 63) (.k (.c (.int .i64 81))), (some (62, true)), true⟩,
  ⟨(some 65), .pick (.t 62) (.t 64) (.k (.c (.bool false))), none, true⟩,
  ⟨(some 66), .mv (.t 65), none, true⟩,
  ⟨(some 67), .mv (.t 13), (some (66, true)), true⟩,
  ⟨(some 68), .bin .eql (.t 67) (.k (.c (.int .i64 0))), (some (66, true)), true⟩,
  ⟨(some 69), .pick (.t 66) (.t 68) (.k (.c (.bool false))), none, true⟩,
  ⟨(some 70), .mv (.t 69), none, true⟩,
  ⟨(some 71), .mv (.t 2), (some (70, true)), true⟩,
  ⟨(some 72), .bsl 3 1 [(.k (.c (.int .i64 10))), (.k (.c (.int .i64 50))), (.k (.c (.int .i64 100)))], (some (70, true)), true⟩,
  ⟨(some 73), .call (.k (.fn 34 [])) [(.t 71), (.t 72)], (some (70, true)), true⟩,
  ⟨(some 74), .pick (.t 70) (.t 73) (.k (.c (.bool false))), none, true⟩,
  ⟨(some 75), .mv (.t 74), none, true⟩,
  ⟨(some 76), .mv (.t 4), (some (75, true)), true⟩,
  ⟨(some 77), .bin .eql (.t 76) (.k (.c (.int .i64 130))), (some (75, true)), true⟩,
  ⟨(some 78), .pick (.t 75) (.t 77) (.k (.c (.bool false))), none, true⟩,
  ⟨(some 79), .mv (.t 78), none, true⟩,
  ⟨(some 80), .mv (.t 6), (some (79, true)), true⟩,
  ⟨(some 81), .bin .eql (.t 80) (.k (.c (.int .i64 20))), (some (79, true)), true⟩,
  ⟨(some 82), .pick (.t 79) (.t 81) (.k (.c (.bool false))), none, true⟩,
  ⟨(some 83), .mv (.t 82), none, true⟩,
  ⟨(some 84), .mv (.t 8), (some (83, true)), true⟩,
  ⟨(some 85), .bin .eql (.t 84) (.k (.c (.int .i64 85))), (some (83, true)), true⟩,
  ⟨(some 86), .pick (.t 83) (.t 85) (.k (.c (.bool false))), none, true⟩,
  ⟨(some 87), .mv (.t 86), none, true⟩,
  ⟨(some 88), .mv (.t 12), (some (87, true)), true⟩,
  ⟨(some 89), .bin .eql (.t 88) (.k (.c (.int .i64 1400))), (some (87, true)), true⟩,
  ⟨(some 90), .pick (.t 87) (.t 89) (.k (.c (.bool false))), none, true⟩,
  ⟨(some 0), .mv (.t 90), none, true⟩]
@[reducible] def v14_10 : VC := (.seq (.ops o14_9) .ret)
@[reducible] def v14_11 : VC := (.seq (.ops o14_8) v14_10)
@[reducible] def v14_12 : VC := (.seq (.ops o14_7) v14_11)
@[reducible] def v14_13 : VC := (.seq (.ops o14_6) v14_12)
@[reducible] def v14_14 : VC := (.seq (.ops o14_5) v14_13)
@[reducible] def v14_15 : VC := (.seq (.ops o14_4) v14_14)
@[reducible] def v14_16 : VC := (.seq (.ops o14_3) v14_15)
@[reducible] def v14_17 : VC := (.seq (.ops o14_2) v14_16)
@[reducible] def v14_18 : VC := (.seq (.ops o14_1) v14_17)
def ir14 : FC := ⟨0, 91, [.t 0], (.seq (.ops o14_0) v14_18)⟩
theorem c49 : compM Try.prog [] 49 = some ir49 := by kernel_rfl
theorem c14 : compM Try.prog [] 14 = some ir14 := by kernel_rfl



/-- The route of the chapter's examples. -/
def exR : Route := ⟨[⟨60, 100, 10, 500⟩, ⟨0, 30, 5, 200⟩, ⟨50, 200, 20, 900⟩], [[0, 15, 30, 20], [15, 0, 25, 10], [30, 25, 0, 40], [20, 10, 40, 0]], 0⟩
def exR50 : Route := { exR with start := 50 }

theorem example49 : FSpec Try.prog 49 [] exR.av := by
  refine FSpec_of c49 (Nat.le_refl _) (by decide) fun C hP hN hC hL => ?_
  simp only [ir49]
  (repeat ((first | refine WV_seq_ ?_ | refine WV_block ?_ | refine WV_ops ?_ | refine WV_skip ?_ | refine WV_exit ?_); (try simp only [go_sem, init_env', Nat.reduceEqDiff, Nat.reduceAdd, Nat.reduceMul, reduceIte, Nat.reduceLeDiff, Nat.reduceLT, Nat.reduceBEq, reduceCtorEq, hP, ]); (repeat (refine And.intro (by first | omega | (intros; simp_all; done) | (intros; simp_all; omega)) ?_))))
  (refine WV_ret ?_; simp only [thenQ, inQ, RetQ, RetOk, resAll, resA]; simp only [go_sem, init_env', Nat.reduceEqDiff, Nat.reduceAdd, Nat.reduceMul, reduceIte, Nat.reduceLeDiff, Nat.reduceLT, Nat.reduceBEq, reduceCtorEq, tupA, AV.port, AV.portL, exists_eq_left', ]; (first | exact AVle.of rfl | refine AVle.of ?_ | skip))

theorem exTimes : timesS exR [1, 2, 0] = ([10, 50, 100], 0) := by kernel_rfl
theorem exBack : backS exR [0, 1, 2] = (0, 81) := by kernel_rfl
theorem exSoon : soonS exR = (130, 0) := by kernel_rfl
theorem exLate : latestS exR = (20, 0) := by kernel_rfl
theorem exShort : shortestS exR = (85, 0) := by kernel_rfl
theorem exMost : mostS exR50 = (1400, 0) := by kernel_rfl

set_option maxRecDepth 20000 in
set_option maxHeartbeats 8000000 in
theorem works14 : FSpec Try.prog 14 [] (.c (.bool true)) := by
  have h1 := times28 exR [1, 2, 0] (by decide)
  rw [exTimes] at h1
  have h2 := soon35 exR
  rw [exSoon] at h2
  have h3 := latest15 exR
  rw [exLate] at h3
  have h4 := shortest20 exR
  rw [exShort] at h4
  have h5 := back30 exR [0, 1, 2] (by decide)
  rw [exBack] at h5
  have h6 := most41 exR50
  rw [exMost] at h6
  refine FSpec_of c14 (Nat.le_refl _) (by decide) fun C hP hN hC hL => ?_
  simp only [ir14]
  (repeat ((first | refine WV_seq_ ?_ | refine WV_block ?_ | refine WV_ops ?_ | refine WV_skip ?_ | refine WV_exit ?_); (try simp only [go_sem, init_env', Nat.reduceEqDiff, Nat.reduceAdd, Nat.reduceMul, reduceIte, Nat.reduceLeDiff, Nat.reduceLT, Nat.reduceBEq, reduceCtorEq, hP, ]); (repeat (refine And.intro (by first | omega | (intros; simp_all; done) | (intros; simp_all; omega)) ?_))))
  (refine AS_pure (example49) rfl rfl rfl rfl rfl ?_; simp only [go_sem, init_env', Nat.reduceEqDiff, Nat.reduceAdd, Nat.reduceMul, reduceIte, Nat.reduceLeDiff, Nat.reduceLT, Nat.reduceBEq, reduceCtorEq, hP, Route.av]; (repeat (refine And.intro (by first | omega | (intros; simp_all; done) | (intros; simp_all; omega)) ?_)); (repeat ((first | refine WV_seq_ ?_ | refine WV_block ?_ | refine WV_ops ?_ | refine WV_skip ?_ | refine WV_exit ?_); (try simp only [go_sem, init_env', Nat.reduceEqDiff, Nat.reduceAdd, Nat.reduceMul, reduceIte, Nat.reduceLeDiff, Nat.reduceLT, Nat.reduceBEq, reduceCtorEq, hP, Route.av]); (repeat (refine And.intro (by first | omega | (intros; simp_all; done) | (intros; simp_all; omega)) ?_)))))
  (refine AS_pure (h1) rfl rfl rfl rfl rfl ?_; simp only [go_sem, init_env', Nat.reduceEqDiff, Nat.reduceAdd, Nat.reduceMul, reduceIte, Nat.reduceLeDiff, Nat.reduceLT, Nat.reduceBEq, reduceCtorEq, hP, Route.av]; (repeat (refine And.intro (by first | omega | (intros; simp_all; done) | (intros; simp_all; omega)) ?_)); (repeat ((first | refine WV_seq_ ?_ | refine WV_block ?_ | refine WV_ops ?_ | refine WV_skip ?_ | refine WV_exit ?_); (try simp only [go_sem, init_env', Nat.reduceEqDiff, Nat.reduceAdd, Nat.reduceMul, reduceIte, Nat.reduceLeDiff, Nat.reduceLT, Nat.reduceBEq, reduceCtorEq, hP, Route.av]); (repeat (refine And.intro (by first | omega | (intros; simp_all; done) | (intros; simp_all; omega)) ?_)))))
  (refine AS_pure (h2) rfl rfl rfl rfl rfl ?_; simp only [go_sem, init_env', Nat.reduceEqDiff, Nat.reduceAdd, Nat.reduceMul, reduceIte, Nat.reduceLeDiff, Nat.reduceLT, Nat.reduceBEq, reduceCtorEq, hP, Route.av]; (repeat (refine And.intro (by first | omega | (intros; simp_all; done) | (intros; simp_all; omega)) ?_)); (repeat ((first | refine WV_seq_ ?_ | refine WV_block ?_ | refine WV_ops ?_ | refine WV_skip ?_ | refine WV_exit ?_); (try simp only [go_sem, init_env', Nat.reduceEqDiff, Nat.reduceAdd, Nat.reduceMul, reduceIte, Nat.reduceLeDiff, Nat.reduceLT, Nat.reduceBEq, reduceCtorEq, hP, Route.av]); (repeat (refine And.intro (by first | omega | (intros; simp_all; done) | (intros; simp_all; omega)) ?_)))))
  (refine AS_pure (h3) rfl rfl rfl rfl rfl ?_; simp only [go_sem, init_env', Nat.reduceEqDiff, Nat.reduceAdd, Nat.reduceMul, reduceIte, Nat.reduceLeDiff, Nat.reduceLT, Nat.reduceBEq, reduceCtorEq, hP, Route.av]; (repeat (refine And.intro (by first | omega | (intros; simp_all; done) | (intros; simp_all; omega)) ?_)); (repeat ((first | refine WV_seq_ ?_ | refine WV_block ?_ | refine WV_ops ?_ | refine WV_skip ?_ | refine WV_exit ?_); (try simp only [go_sem, init_env', Nat.reduceEqDiff, Nat.reduceAdd, Nat.reduceMul, reduceIte, Nat.reduceLeDiff, Nat.reduceLT, Nat.reduceBEq, reduceCtorEq, hP, Route.av]); (repeat (refine And.intro (by first | omega | (intros; simp_all; done) | (intros; simp_all; omega)) ?_)))))
  (refine AS_pure (h4) rfl rfl rfl rfl rfl ?_; simp only [go_sem, init_env', Nat.reduceEqDiff, Nat.reduceAdd, Nat.reduceMul, reduceIte, Nat.reduceLeDiff, Nat.reduceLT, Nat.reduceBEq, reduceCtorEq, hP, Route.av]; (repeat (refine And.intro (by first | omega | (intros; simp_all; done) | (intros; simp_all; omega)) ?_)); (repeat ((first | refine WV_seq_ ?_ | refine WV_block ?_ | refine WV_ops ?_ | refine WV_skip ?_ | refine WV_exit ?_); (try simp only [go_sem, init_env', Nat.reduceEqDiff, Nat.reduceAdd, Nat.reduceMul, reduceIte, Nat.reduceLeDiff, Nat.reduceLT, Nat.reduceBEq, reduceCtorEq, hP, Route.av]); (repeat (refine And.intro (by first | omega | (intros; simp_all; done) | (intros; simp_all; omega)) ?_)))))
  (refine AS_pure (h5) rfl rfl rfl rfl rfl ?_; simp only [go_sem, init_env', Nat.reduceEqDiff, Nat.reduceAdd, Nat.reduceMul, reduceIte, Nat.reduceLeDiff, Nat.reduceLT, Nat.reduceBEq, reduceCtorEq, hP, Route.av]; (repeat (refine And.intro (by first | omega | (intros; simp_all; done) | (intros; simp_all; omega)) ?_)); (repeat ((first | refine WV_seq_ ?_ | refine WV_block ?_ | refine WV_ops ?_ | refine WV_skip ?_ | refine WV_exit ?_); (try simp only [go_sem, init_env', Nat.reduceEqDiff, Nat.reduceAdd, Nat.reduceMul, reduceIte, Nat.reduceLeDiff, Nat.reduceLT, Nat.reduceBEq, reduceCtorEq, hP, Route.av]); (repeat (refine And.intro (by first | omega | (intros; simp_all; done) | (intros; simp_all; omega)) ?_)))))
  (refine AS_pure (h6) rfl rfl rfl rfl rfl ?_; simp only [go_sem, init_env', Nat.reduceEqDiff, Nat.reduceAdd, Nat.reduceMul, reduceIte, Nat.reduceLeDiff, Nat.reduceLT, Nat.reduceBEq, reduceCtorEq, hP, Route.av, beq_self_eq_true]; (repeat (refine And.intro (by first | omega | (intros; simp_all; done) | (intros; simp_all; omega)) ?_)); (repeat ((first | refine WV_seq_ ?_ | refine WV_block ?_ | refine WV_ops ?_ | refine WV_skip ?_ | refine WV_exit ?_); (try simp only [go_sem, init_env', Nat.reduceEqDiff, Nat.reduceAdd, Nat.reduceMul, reduceIte, Nat.reduceLeDiff, Nat.reduceLT, Nat.reduceBEq, reduceCtorEq, hP, Route.av, beq_self_eq_true]); (repeat (refine And.intro (by first | omega | (intros; simp_all; done) | (intros; simp_all; omega)) ?_)))))
  (refine AG_pure (fun hG => same34 [10, 50, 100] [10, 50, 100]) rfl (fun hG => by first | (simp only [go_sem, init_env', Nat.reduceEqDiff, Nat.reduceAdd, Nat.reduceMul, reduceIte, Nat.reduceLeDiff, Nat.reduceLT, Nat.reduceBEq, reduceCtorEq, hG]; done) | (simp only [go_sem, init_env', Nat.reduceEqDiff, Nat.reduceAdd, Nat.reduceMul, reduceIte, Nat.reduceLeDiff, Nat.reduceLT, Nat.reduceBEq, reduceCtorEq]; revert hG; simp; done) | (simp only [go_sem, init_env', Nat.reduceEqDiff, Nat.reduceAdd, Nat.reduceMul, reduceIte, Nat.reduceLeDiff, Nat.reduceLT, Nat.reduceBEq, reduceCtorEq, hG]; simp_all; done) | (revert hG; simp; done) | simp_all) rfl rfl rfl ?_; simp only [go_sem, init_env', Nat.reduceEqDiff, Nat.reduceAdd, Nat.reduceMul, reduceIte, Nat.reduceLeDiff, Nat.reduceLT, Nat.reduceBEq, reduceCtorEq, hP, beq_self_eq_true, decide_true]; (repeat (refine And.intro (by first | omega | (intros; simp_all; done) | (intros; simp_all; omega)) ?_)); (repeat ((first | refine WV_seq_ ?_ | refine WV_block ?_ | refine WV_ops ?_ | refine WV_skip ?_ | refine WV_exit ?_); (try simp only [go_sem, init_env', Nat.reduceEqDiff, Nat.reduceAdd, Nat.reduceMul, reduceIte, Nat.reduceLeDiff, Nat.reduceLT, Nat.reduceBEq, reduceCtorEq, hP, beq_self_eq_true, decide_true]); (repeat (refine And.intro (by first | omega | (intros; simp_all; done) | (intros; simp_all; omega)) ?_)))))
  (refine WV_ret ?_; simp only [thenQ, inQ, RetQ, RetOk, resAll, resA]; simp only [go_sem, init_env', Nat.reduceEqDiff, Nat.reduceAdd, Nat.reduceMul, reduceIte, Nat.reduceLeDiff, Nat.reduceLT, Nat.reduceBEq, reduceCtorEq, tupA, AV.port, AV.portL, exists_eq_left', ]; (first | exact AVle.of rfl | refine AVle.of ?_ | skip))
end Go.Proofs.Ytbejgfpaokcnpaa

namespace Go.Proofs.Ytbejgfpaokcnpaa
open Go Go.V
@[reducible] def o19_0 : List Ins := [⟨(some 1), .box 3 (.t 0), none, true⟩,
  ⟨(some 2), .mv (.k (.c (.bool false))), none, true⟩]
@[reducible] def o19_1 : List Ins := [⟨(some 4), .fa 0 (.t 1), none, true⟩,
  ⟨(some 5), .ld true 1 (.t 4), none, true⟩,
  ⟨(some 6), .len (.t 5), none, true⟩,
  ⟨(some 7), .bin .gtr (.t 6) (.k (.c (.int .i64 20))), none, true⟩,
  ⟨(some 8), .mv (.t 7), none, true⟩,
  ⟨(some 9), .fa 1 (.t 1), (some (8, false)), true⟩,
  ⟨(some 10), .ld true 1 (.t 9), (some (8, false)), true⟩,
  ⟨(some 11), .len (.t 10), (some (8, false)), true⟩,
  ⟨(some 12), .bin .gtr (.t 11) (.k (.c (.int .i64 20))), (some (8, false)), true⟩,
  ⟨(some 13), .pick (.t 8) (.k (.c (.bool true))) (.t 12), none, true⟩]
@[reducible] def o19_2 : List Ins := [⟨(some 2), .mv (.k (.c (.bool true))), none, true⟩]
@[reducible] def v19_3 : VC := (.seq (.ops o19_2) .ret)
@[reducible] def v19_4 : VC := (.cond (.t 13) v19_3 .skip)
@[reducible] def o19_5 : List Ins := [⟨(some 3), .mv (.k (.c (.int .i64 0))), none, true⟩]
@[reducible] def o19_6 : List Ins := [⟨(some 14), .mv (.t 3), none, true⟩,
  ⟨(some 15), .fa 1 (.t 1), none, true⟩,
  ⟨(some 16), .ld true 1 (.t 15), none, true⟩,
  ⟨(some 17), .len (.t 16), none, true⟩,
  ⟨(some 18), .bin .lss (.t 14) (.t 17), none, true⟩]
@[reducible] def v19_7 : VC := (.cond (.t 18) .skip (.exit 0))
@[reducible] def o19_8 : List Ins := [⟨(some 21), .fa 1 (.t 1), none, true⟩,
  ⟨(some 22), .ld true 1 (.t 21), none, true⟩,
  ⟨(some 23), .mv (.t 3), none, true⟩,
  ⟨(some 24), .ia 1 (.t 22) (.t 23), none, true⟩,
  ⟨(some 25), .ld true 1 (.t 24), none, true⟩,
  ⟨(some 26), .len (.t 25), none, true⟩,
  ⟨(some 27), .bin .gtr (.t 26) (.k (.c (.int .i64 20))), none, true⟩]
@[reducible] def o19_9 : List Ins := [⟨(some 2), .mv (.k (.c (.bool true))), none, true⟩]
@[reducible] def v19_10 : VC := (.seq (.ops o19_9) .ret)
@[reducible] def v19_11 : VC := (.cond (.t 27) v19_10 .skip)
@[reducible] def v19_12 : VC := (.seq (.ops o19_8) v19_11)
@[reducible] def o19_13 : List Ins := [⟨(some 19), .mv (.t 3), none, true⟩,
  ⟨(some 20), .bin .add (.t 19) (.k (.c (.int .i64 1))), none, true⟩,
  ⟨(some 3), .mv (.t 20), none, true⟩]
@[reducible] def v19_14 : VC := (.seq (.block 1 v19_12) (.ops o19_13))
@[reducible] def v19_15 : VC := (.seq (.seq (.ops o19_6) v19_7) v19_14)
-- K19_1: changed and kept: [3]
@[reducible] def K19_1 : List Nat := [1]
@[reducible] def v19_16 : VC := (.loop v19_15)
@[reducible] def v19_17 : VC := (.block 0 v19_16)
@[reducible] def o19_18 : List Ins := [⟨(some 28), .fa 0 (.t 1), none, true⟩,
  ⟨(some 29), .ld true 1 (.t 28), none, true⟩,
  ⟨(some 30), .len (.t 29), none, true⟩,
  ⟨(some 31), .bin .gtr (.t 30) (.k (.c (.int .i64 5))), none, true⟩,
  ⟨(some 32), .mv (.t 31), none, true⟩,
  ⟨(some 33), .ld false 3 (.t 1), (some (32, true)), true⟩,
  ⟨(some 34), .call (.k (.fn 27 [])) [(.t 33)], (some (32, true)), true⟩,
  ⟨(some 35), .bin .eql (.t 34) (.k (.c (.int .i64 0))), (some (32, true)), true⟩,
  ⟨(some 36), .pick (.t 32) (.t 35) (.k (.c (.bool false))), none, true⟩,
  ⟨(some 2), .mv (.t 36), none, true⟩]
@[reducible] def v19_19 : VC := (.seq (.ops o19_18) .ret)
@[reducible] def v19_20 : VC := (.seq (.seq (.ops o19_5) v19_17) v19_19)
@[reducible] def v19_21 : VC := (.seq (.seq (.ops o19_1) v19_4) v19_20)
def ir19 : FC := ⟨1, 37, [.t 2], (.seq (.ops o19_0) v19_21)⟩
theorem c19 : compM Try.prog [] 19 = some ir19 := by kernel_rfl
def near (r : Route) : Bool := decide (r.stops.length ≤ 20) && decide (r.drive.length ≤ 20) && r.drive.all fun l => decide (l.length ≤ 20)
def farS (r : Route) : Bool := if near r then decide (5 < r.stops.length) && r.ok else true

set_option maxHeartbeats 4000000 in
theorem far19 (r : Route) : FSpec Try.prog 19 [r.av] (.c (.bool (farS r))) := by
  refine FSpec_of c19 (Nat.le_refl _) (by decide) fun C hP hN hC hL => ?_
  obtain ⟨hl1, hl2, hl3⟩ := Route.lens hL
  simp only [ir19, Route.av]
  (repeat ((first | refine WV_seq_ ?_ | refine WV_block ?_ | refine WV_ops ?_ | refine WV_skip ?_ | refine WV_exit ?_); (try simp only [go_sem, init_env', Nat.reduceEqDiff, Nat.reduceAdd, Nat.reduceMul, reduceIte, Nat.reduceLeDiff, Nat.reduceLT, Nat.reduceBEq, reduceCtorEq, hP, stopsC, driveC]); (repeat (refine And.intro (by first | omega | (intros; simp_all; done) | (intros; simp_all; omega)) ?_))))
  (refine WV_cond rfl (fun h => ?_) (fun h => ?_))
  · have h : near r = false := by
      simp only [near]
      simp at h
      by_cases h1 : r.stops.length ≤ 20
      · by_cases h2 : r.drive.length ≤ 20
        · exfalso; omega
        · simp [h2]
      · simp [h1]
    (repeat ((first | refine WV_seq_ ?_ | refine WV_block ?_ | refine WV_ops ?_ | refine WV_skip ?_ | refine WV_exit ?_); (try simp only [go_sem, init_env', Nat.reduceEqDiff, Nat.reduceAdd, Nat.reduceMul, reduceIte, Nat.reduceLeDiff, Nat.reduceLT, Nat.reduceBEq, reduceCtorEq, hP, ]); (repeat (refine And.intro (by first | omega | (intros; simp_all; done) | (intros; simp_all; omega)) ?_))))
    (refine WV_ret ?_; simp only [thenQ, inQ, RetQ, RetOk, resAll, resA]; simp only [go_sem, init_env', Nat.reduceEqDiff, Nat.reduceAdd, Nat.reduceMul, reduceIte, Nat.reduceLeDiff, Nat.reduceLT, Nat.reduceBEq, reduceCtorEq, tupA, AV.port, AV.portL, exists_eq_left', ]; (first | exact AVle.of rfl | refine AVle.of ?_ | skip))
    simp [farS, h]
  · have h : r.stops.length ≤ 20 ∧ r.drive.length ≤ 20 := by simp at h; omega
    (repeat ((first | refine WV_seq_ ?_ | refine WV_block ?_ | refine WV_ops ?_ | refine WV_skip ?_ | refine WV_exit ?_); (try simp only [go_sem, init_env', Nat.reduceEqDiff, Nat.reduceAdd, Nat.reduceMul, reduceIte, Nat.reduceLeDiff, Nat.reduceLT, Nat.reduceBEq, reduceCtorEq, hP, ]); (repeat (refine And.intro (by first | omega | (intros; simp_all; done) | (intros; simp_all; omega)) ?_))))
    refine WV_loopK K19_1 [1] (fun k : Nat => k ≤ r.drive.length ∧ ((r.drive.take k).all fun l => decide (l.length ≤ 20)) = true) (fun k => r.drive.length - k) (fun k => [(3, iv k)]) (fun _ => [(1, .box [.c (stopsC r.stops), .c (driveC r.drive), .c (.int .i64 r.start)])]) 0 ⟨Nat.zero_le _, by simp⟩ ?_ ?_
    · (refine Sub_of (by simp only [go_sem, init_env', Nat.reduceEqDiff, Nat.reduceAdd, Nat.reduceMul, reduceIte, Nat.reduceLeDiff, Nat.reduceLT, Nat.reduceBEq, reduceCtorEq]; ((repeat' (first | exact EnvLe_e0 _ _ | refine EnvLe_upd ?_ ?_)) <;> ((try simp only [upd_app, e0_app, o0_app, Nat.reduceEqDiff, reduceIte]); first | exact AWk.refl _ _ | exact AWk.int (by omega) | exact AWk.int (by rw [w64 (by omega) (by omega)]; omega) | exact AWk.grow rfl | exact AWk.nil _ | exact AWk.of (by simp)))) (by simp only [go_sem, init_env', Nat.reduceEqDiff, Nat.reduceAdd, Nat.reduceMul, reduceIte, Nat.reduceLeDiff, Nat.reduceLT, Nat.reduceBEq, reduceCtorEq]; (first | ((repeat' (first | exact ObjLe_o0 _ | exact ObjLe.rfl' _ | refine ObjLe_same ?_ | refine ObjLe_upd ?_ ?_ | refine ObjLe_new rfl ?_)) <;> rfl) | (refine ObjLe_X ?_; (repeat' (first | exact ObjLeX_o0 _ _ | refine ObjLeX_skip rfl ?_ | refine ObjLeX_upd ?_ ?_)) <;> rfl))))
    · rintro k ⟨hk, ha⟩
      simp only [go_sem, init_env', Nat.reduceEqDiff, Nat.reduceAdd, Nat.reduceMul, reduceIte, Nat.reduceLeDiff, Nat.reduceLT, Nat.reduceBEq, reduceCtorEq]
      (repeat ((first | refine WV_seq_ ?_ | refine WV_block ?_ | refine WV_ops ?_ | refine WV_skip ?_ | refine WV_exit ?_); (try simp only [go_sem, init_env', Nat.reduceEqDiff, Nat.reduceAdd, Nat.reduceMul, reduceIte, Nat.reduceLeDiff, Nat.reduceLT, Nat.reduceBEq, reduceCtorEq, hP, driveC]); (repeat (refine And.intro (by first | omega | (intros; simp_all; done) | (intros; simp_all; omega)) ?_))))
      have h0 := h
      (refine WV_cond rfl (fun h => ?_) (fun h => ?_))
      · have h : k < r.drive.length := by simpa using h
        have hw2 := w64 (n := (k : Int) + 1) (by omega) (by omega)
        (repeat ((first | refine WV_seq_ ?_ | refine WV_block ?_ | refine WV_ops ?_ | refine WV_skip ?_ | refine WV_exit ?_); (try simp only [go_sem, init_env', Nat.reduceEqDiff, Nat.reduceAdd, Nat.reduceMul, reduceIte, Nat.reduceLeDiff, Nat.reduceLT, Nat.reduceBEq, reduceCtorEq, hP, Int.toNat_natCast, map_getD h, List.length_map, Int.ofNat_lt, h, Int.natCast_nonneg, ints, driveC]); (repeat (refine And.intro (by first | omega | (intros; simp_all; done) | (intros; simp_all; omega)) ?_))))
        have hk0 := h
        have hta := take_all (fun l : List Int => decide (l.length ≤ 20)) hk0
        (refine WV_cond rfl (fun h => ?_) (fun h => ?_))
        · have h : ¬ r.drive[k].length ≤ 20 := by simp at h; omega
          have hn : near r = false := by
            simp only [near]
            have : (r.drive.all fun l => decide (l.length ≤ 20)) = false := List.all_eq_false.2 ⟨_, List.getElem_mem hk0, by simpa using h⟩
            rw [this]; simp
          (repeat ((first | refine WV_seq_ ?_ | refine WV_block ?_ | refine WV_ops ?_ | refine WV_skip ?_ | refine WV_exit ?_); (try simp only [go_sem, init_env', Nat.reduceEqDiff, Nat.reduceAdd, Nat.reduceMul, reduceIte, Nat.reduceLeDiff, Nat.reduceLT, Nat.reduceBEq, reduceCtorEq, hP, ]); (repeat (refine And.intro (by first | omega | (intros; simp_all; done) | (intros; simp_all; omega)) ?_))))
          (refine WV_ret ?_; simp only [thenQ, inQ, RetQ, RetOk, resAll, resA]; simp only [go_sem, init_env', Nat.reduceEqDiff, Nat.reduceAdd, Nat.reduceMul, reduceIte, Nat.reduceLeDiff, Nat.reduceLT, Nat.reduceBEq, reduceCtorEq, tupA, AV.port, AV.portL, exists_eq_left', ]; (first | exact AVle.of rfl | refine AVle.of ?_ | skip))
          simp [farS, hn]
        · have h : r.drive[k].length ≤ 20 := by simp at h; omega
          (repeat ((first | refine WV_seq_ ?_ | refine WV_block ?_ | refine WV_ops ?_ | refine WV_skip ?_ | refine WV_exit ?_); (try simp only [go_sem, init_env', Nat.reduceEqDiff, Nat.reduceAdd, Nat.reduceMul, reduceIte, Nat.reduceLeDiff, Nat.reduceLT, Nat.reduceBEq, reduceCtorEq, hP, hw2]); (repeat (refine And.intro (by first | omega | (intros; simp_all; done) | (intros; simp_all; omega)) ?_))))
          refine ⟨k + 1, ⟨by omega, by rw [hta, ha]; simpa using h⟩, by omega, ?_⟩
          (refine Sub_of (by simp only [go_sem, init_env', Nat.reduceEqDiff, Nat.reduceAdd, Nat.reduceMul, reduceIte, Nat.reduceLeDiff, Nat.reduceLT, Nat.reduceBEq, reduceCtorEq]; ((repeat' (first | exact EnvLe_e0 _ _ | refine EnvLe_upd ?_ ?_)) <;> ((try simp only [upd_app, e0_app, o0_app, Nat.reduceEqDiff, reduceIte]); first | exact AWk.refl _ _ | exact AWk.int (by omega) | exact AWk.int (by rw [w64 (by omega) (by omega)]; omega) | exact AWk.grow rfl | exact AWk.nil _ | exact AWk.of (by simp)))) (by simp only [go_sem, init_env', Nat.reduceEqDiff, Nat.reduceAdd, Nat.reduceMul, reduceIte, Nat.reduceLeDiff, Nat.reduceLT, Nat.reduceBEq, reduceCtorEq]; (first | ((repeat' (first | exact ObjLe_o0 _ | exact ObjLe.rfl' _ | refine ObjLe_same ?_ | refine ObjLe_upd ?_ ?_ | refine ObjLe_new rfl ?_)) <;> rfl) | (refine ObjLe_X ?_; (repeat' (first | exact ObjLeX_o0 _ _ | refine ObjLeX_skip rfl ?_ | refine ObjLeX_upd ?_ ?_)) <;> rfl))))
      · have h : k = r.drive.length := by simp at h; omega
        subst h
        rw [List.take_length] at ha
        have hn : near r = true := by simp [near, h0, ha]
        have e : farS r = (decide (5 < r.stops.length) && r.ok) := by simp [farS, hn]
        rw [e]
        (repeat ((first | refine WV_seq_ ?_ | refine WV_block ?_ | refine WV_ops ?_ | refine WV_skip ?_ | refine WV_exit ?_); (try simp only [go_sem, init_env', Nat.reduceEqDiff, Nat.reduceAdd, Nat.reduceMul, reduceIte, Nat.reduceLeDiff, Nat.reduceLT, Nat.reduceBEq, reduceCtorEq, hP, stopsC]); (repeat (refine And.intro (by first | omega | (intros; simp_all; done) | (intros; simp_all; omega)) ?_))))
        (refine AG_pure (fun hG => check_spec r) rfl (fun hG => by first | (simp only [go_sem, init_env', Nat.reduceEqDiff, Nat.reduceAdd, Nat.reduceMul, reduceIte, Nat.reduceLeDiff, Nat.reduceLT, Nat.reduceBEq, reduceCtorEq, hG]; done) | (simp only [go_sem, init_env', Nat.reduceEqDiff, Nat.reduceAdd, Nat.reduceMul, reduceIte, Nat.reduceLeDiff, Nat.reduceLT, Nat.reduceBEq, reduceCtorEq]; revert hG; simp; done) | (simp only [go_sem, init_env', Nat.reduceEqDiff, Nat.reduceAdd, Nat.reduceMul, reduceIte, Nat.reduceLeDiff, Nat.reduceLT, Nat.reduceBEq, reduceCtorEq, hG]; simp_all; done) | (revert hG; simp; done) | simp_all) rfl rfl rfl ?_; simp only [go_sem, init_env', Nat.reduceEqDiff, Nat.reduceAdd, Nat.reduceMul, reduceIte, Nat.reduceLeDiff, Nat.reduceLT, Nat.reduceBEq, reduceCtorEq, hP, Route.av]; (repeat (refine And.intro (by first | omega | (intros; simp_all; done) | (intros; simp_all; omega)) ?_)); (repeat ((first | refine WV_seq_ ?_ | refine WV_block ?_ | refine WV_ops ?_ | refine WV_skip ?_ | refine WV_exit ?_); (try simp only [go_sem, init_env', Nat.reduceEqDiff, Nat.reduceAdd, Nat.reduceMul, reduceIte, Nat.reduceLeDiff, Nat.reduceLT, Nat.reduceBEq, reduceCtorEq, hP, Route.av]); (repeat (refine And.intro (by first | omega | (intros; simp_all; done) | (intros; simp_all; omega)) ?_)))))
        by_cases hok : r.ok = true
        · simp only [hok, if_true, beq_self_eq_true]
          (repeat ((first | refine WV_seq_ ?_ | refine WV_block ?_ | refine WV_ops ?_ | refine WV_skip ?_ | refine WV_exit ?_); (try simp only [go_sem, init_env', Nat.reduceEqDiff, Nat.reduceAdd, Nat.reduceMul, reduceIte, Nat.reduceLeDiff, Nat.reduceLT, Nat.reduceBEq, reduceCtorEq, hP, ]); (repeat (refine And.intro (by first | omega | (intros; simp_all; done) | (intros; simp_all; omega)) ?_))))
          (try refine ⟨fun h => by simpa using h, ?_⟩)
          (repeat ((first | refine WV_seq_ ?_ | refine WV_block ?_ | refine WV_ops ?_ | refine WV_skip ?_ | refine WV_exit ?_); (try simp only [go_sem, init_env', Nat.reduceEqDiff, Nat.reduceAdd, Nat.reduceMul, reduceIte, Nat.reduceLeDiff, Nat.reduceLT, Nat.reduceBEq, reduceCtorEq, hP, ]); (repeat (refine And.intro (by first | omega | (intros; simp_all; done) | (intros; simp_all; omega)) ?_))))
          (refine WV_ret ?_; simp only [thenQ, inQ, RetQ, RetOk, resAll, resA]; simp only [go_sem, init_env', Nat.reduceEqDiff, Nat.reduceAdd, Nat.reduceMul, reduceIte, Nat.reduceLeDiff, Nat.reduceLT, Nat.reduceBEq, reduceCtorEq, tupA, AV.port, AV.portL, exists_eq_left', ]; (first | exact AVle.of rfl | refine AVle.of ?_ | skip))
          simp only [Bool.and_true, AV.c.injEq, CD.bool.injEq, decide_eq_decide]
          omega
        · have hok : r.ok = false := by simpa using hok
          simp only [hok, Bool.false_eq_true, if_false]
          (try refine ⟨fun h => by simpa using h, ?_⟩)
          (repeat ((first | refine WV_seq_ ?_ | refine WV_block ?_ | refine WV_ops ?_ | refine WV_skip ?_ | refine WV_exit ?_); (try simp only [go_sem, init_env', Nat.reduceEqDiff, Nat.reduceAdd, Nat.reduceMul, reduceIte, Nat.reduceLeDiff, Nat.reduceLT, Nat.reduceBEq, reduceCtorEq, hP, ]); (repeat (refine And.intro (by first | omega | (intros; simp_all; done) | (intros; simp_all; omega)) ?_))))
          (refine WV_ret ?_; simp only [thenQ, inQ, RetQ, RetOk, resAll, resA]; simp only [go_sem, init_env', Nat.reduceEqDiff, Nat.reduceAdd, Nat.reduceMul, reduceIte, Nat.reduceLeDiff, Nat.reduceLT, Nat.reduceBEq, reduceCtorEq, tupA, AV.port, AV.portL, exists_eq_left', ]; (first | exact AVle.of rfl | refine AVle.of ?_ | skip))
          simp

end Go.Proofs.Ytbejgfpaokcnpaa

namespace Go.Proofs.Ytbejgfpaokcnpaa
open Go Go.V
@[reducible] def o17_0 : List Ins := [⟨(some 1), .box 3 (.t 0), none, true⟩,
  ⟨(some 2), .alloc [(.c (.raw (.slice none 0 0))), (.c (.raw (.slice none 0 0))), (.c (.int .i64 0))], none, true⟩]
@[reducible] def o17_1 : List Ins := [⟨(some 5), .ld false 3 (.t 1), none, true⟩,
  ⟨(some 3), .alloc [(.c (.raw (.slice none 0 0))), (.c (.raw (.slice none 0 0))), (.c (.int .i64 0))], none, true⟩,
  ⟨none, .st 3 (.t 3) (.t 5), none, true⟩]
@[reducible] def o17_2 : List Ins := [⟨(some 6), .bsl 53 4 [], none, true⟩,
  ⟨(some 7), .fa 0 (.t 1), none, true⟩,
  ⟨(some 8), .ld true 1 (.t 7), none, true⟩,
  ⟨(some 9), .app 53 4 32 (.t 6) (.t 8), none, true⟩,
  ⟨(some 10), .fa 0 (.t 3), none, true⟩,
  ⟨none, .st 1 (.t 10) (.t 9), none, true⟩,
  ⟨(some 11), .fa 1 (.t 3), none, true⟩,
  ⟨none, .st 1 (.t 11) (.k (.c (.raw (.slice none 0 0)))), none, true⟩]
@[reducible] def o17_3 : List Ins := [⟨(some 4), .mv (.k (.c (.int .i64 0))), none, true⟩]
@[reducible] def o17_4 : List Ins := [⟨(some 12), .mv (.t 4), none, true⟩,
  ⟨(some 13), .fa 1 (.t 1), none, true⟩,
  ⟨(some 14), .ld true 1 (.t 13), none, true⟩,
  ⟨(some 15), .len (.t 14), none, true⟩,
  ⟨(some 16), .bin .lss (.t 12) (.t 15), none, true⟩]
@[reducible] def v17_5 : VC := (.cond (.t 16) .skip (.exit 0))
@[reducible] def o17_6 : List Ins := [⟨(some 19), .fa 1 (.t 3), none, false⟩,
  ⟨(some 20), .ld true 1 (.t 19), none, false⟩,
  ⟨(some 21), .bsl 3 1 [], none, false⟩,
  ⟨(some 22), .fa 1 (.t 1), none, false⟩,
  ⟨(some 23), .ld true 1 (.t 22), none, false⟩,
  ⟨(some 24), .mv (.t 4), none, false⟩,
  ⟨(some 25), .ia 1 (.t 23) (.t 24), none, false⟩,
  ⟨(some 26), .ld true 1 (.t 25), none, false⟩,
  ⟨(some 27), .app 3 1 8 (.t 21) (.t 26), none, false⟩,
  ⟨(some 28), .bsl 33 1 [(.t 27)], none, false⟩,
  ⟨(some 29), .app 33 1 24 (.t 20) (.t 28), none, true⟩,
  ⟨(some 30), .fa 1 (.t 3), none, true⟩,
  ⟨none, .st 1 (.t 30) (.t 29), none, true⟩]
@[reducible] def o17_7 : List Ins := [⟨(some 17), .mv (.t 4), none, true⟩,
  ⟨(some 18), .bin .add (.t 17) (.k (.c (.int .i64 1))), none, true⟩,
  ⟨(some 4), .mv (.t 18), none, true⟩]
@[reducible] def v17_8 : VC := (.seq (.block 1 (.ops o17_6)) (.ops o17_7))
@[reducible] def v17_9 : VC := (.seq (.seq (.ops o17_4) v17_5) v17_8)
-- K17_1: changed and kept: [4]
@[reducible] def v17_10 : VC := (.loop v17_9)
@[reducible] def v17_11 : VC := (.block 0 v17_10)
@[reducible] def o17_12 : List Ins := [⟨(some 31), .ld false 3 (.t 3), none, true⟩,
  ⟨none, .st 3 (.t 2) (.t 31), none, true⟩]
@[reducible] def v17_13 : VC := (.seq (.ops o17_12) .ret)
@[reducible] def v17_14 : VC := (.seq (.seq (.ops o17_3) v17_11) v17_13)
@[reducible] def v17_15 : VC := (.seq (.ops o17_2) v17_14)
@[reducible] def v17_16 : VC := (.seq (.ops o17_1) v17_15)
def ir17 : FC := ⟨1, 32, [.cell 2 false 3], (.seq (.ops o17_0) v17_16)⟩
theorem c17 : compM Try.prog [] 17 = some ir17 := by kernel_rfl



theorem stops_four (l : List Stop) : ((l.map Stop.cds).all fun e => e.length == 4) = true := by
  rw [List.all_eq_true]; intro e he; obtain ⟨n, _, rfl⟩ := List.mem_map.1 he; rfl
theorem intss_one (l : List (List Int)) : ((l.map fun x => [ints x]).all fun e => e.length == 1) = true := by
  rw [List.all_eq_true]; intro e he; obtain ⟨n, _, rfl⟩ := List.mem_map.1 he; rfl
theorem near_eq {r : Route} (h : near r = true) : r.stops.length ≤ 20 ∧ r.drive.length ≤ 20 ∧ ∀ l ∈ r.drive, l.length ≤ 20 := by
  simp only [near, Bool.and_eq_true, decide_eq_true_eq, List.all_eq_true] at h
  exact ⟨h.1.1, h.1.2, h.2⟩

end Go.Proofs.Ytbejgfpaokcnpaa

namespace Go.Proofs.Ytbejgfpaokcnpaa
open Go Go.V
@[reducible] def o5_0 : List Ins := [⟨(some 2), .box 3 (.t 0), none, true⟩,
  ⟨(some 4), .mv (.k (.c (.bool false))), none, true⟩]
@[reducible] def o5_1 : List Ins := [⟨(some 19), .ld false 3 (.t 2), none, true⟩,
  ⟨(some 20), .call (.k (.fn 19 [])) [(.t 19)], none, true⟩,
  ⟨(some 21), .mv (.t 20), none, true⟩,
  ⟨(some 22), .mv (.t 1), (some (21, false)), true⟩,
  ⟨(some 23), .len (.t 22), (some (21, false)), true⟩,
  ⟨(some 24), .bin .gtr (.t 23) (.k (.c (.int .i64 20))), (some (21, false)), true⟩,
  ⟨(some 25), .pick (.t 21) (.k (.c (.bool true))) (.t 24), none, true⟩]
@[reducible] def o5_2 : List Ins := [⟨(some 26), .call (.k (.fn 14 [])) [], none, true⟩,
  ⟨(some 4), .mv (.t 26), none, true⟩]
@[reducible] def v5_3 : VC := (.seq (.ops o5_2) .ret)
@[reducible] def v5_4 : VC := (.cond (.t 25) v5_3 .skip)
@[reducible] def o5_5 : List Ins := [⟨(some 27), .ld false 3 (.t 2), none, true⟩,
  ⟨(some 28), .call (.k (.fn 17 [])) [(.t 27)], none, true⟩,
  ⟨(some 29), .bsl 3 1 [], none, true⟩,
  ⟨(some 30), .mv (.t 1), none, true⟩,
  ⟨(some 31), .app 3 1 8 (.t 29) (.t 30), none, true⟩,
  ⟨(some 5), .alloc [(.c (.raw (.slice none 0 0))), (.c (.raw (.slice none 0 0))), (.c (.int .i64 0))], none, true⟩,
  ⟨none, .st 3 (.t 5) (.t 28), none, true⟩,
  ⟨(some 6), .mv (.t 31), none, true⟩]
@[reducible] def o5_6 : List Ins := [⟨(some 32), .ld false 3 (.t 5), none, false⟩,
  ⟨(some 33), .call (.k (.fn 26 [])) [(.t 32)], none, false⟩,
  ⟨(some 34), .ld false 3 (.t 2), none, false⟩,
  ⟨(some 35), .call (.k (.fn 27 [])) [(.t 34)], none, true⟩,
  ⟨(some 36), .bin .neq (.t 33) (.t 35), none, true⟩]
@[reducible] def o5_7 : List Ins := [⟨(some 4), .mv (.k (.c (.bool false))), none, true⟩]
@[reducible] def v5_8 : VC := (.seq (.ops o5_7) .ret)
@[reducible] def v5_9 : VC := (.cond (.t 36) v5_8 .skip)
@[reducible] def o5_10 : List Ins := [⟨(some 38), .ld false 3 (.t 5), none, true⟩,
  ⟨(some 39), .mv (.t 6), none, true⟩,
  ⟨(some 40), .call (.k (.fn 28 [])) [(.t 38), (.t 39)], none, true⟩,
  ⟨(some 37), .mv (.t 40), none, true⟩,
  ⟨(some 41), .ext (.t 37) 0, none, true⟩,
  ⟨(some 42), .ext (.t 37) 1, none, true⟩,
  ⟨(some 7), .mv (.t 41), none, true⟩,
  ⟨(some 8), .mv (.t 42), none, true⟩]
@[reducible] def o5_11 : List Ins := [⟨(some 44), .ld false 3 (.t 2), none, true⟩,
  ⟨(some 45), .mv (.t 1), none, true⟩,
  ⟨(some 46), .call (.k (.fn 29 [])) [(.t 44), (.t 45)], none, true⟩,
  ⟨(some 43), .mv (.t 46), none, true⟩,
  ⟨(some 47), .ext (.t 43) 0, none, true⟩,
  ⟨(some 48), .ext (.t 43) 1, none, true⟩,
  ⟨(some 9), .mv (.t 47), none, true⟩,
  ⟨(some 10), .mv (.t 48), none, true⟩]
@[reducible] def o5_12 : List Ins := [⟨(some 50), .ld false 3 (.t 5), none, true⟩,
  ⟨(some 51), .mv (.t 6), none, true⟩,
  ⟨(some 52), .call (.k (.fn 30 [])) [(.t 50), (.t 51)], none, true⟩,
  ⟨(some 49), .mv (.t 52), none, true⟩,
  ⟨(some 53), .ext (.t 49) 0, none, true⟩,
  ⟨(some 54), .ext (.t 49) 1, none, true⟩,
  ⟨(some 11), .mv (.t 53), none, true⟩,
  ⟨(some 12), .mv (.t 54), none, true⟩]
@[reducible] def o5_13 : List Ins := [⟨(some 56), .ld false 3 (.t 2), none, true⟩,
  ⟨(some 57), .mv (.t 1), none, true⟩,
  ⟨(some 58), .call (.k (.fn 31 [])) [(.t 56), (.t 57)], none, true⟩,
  ⟨(some 55), .mv (.t 58), none, true⟩,
  ⟨(some 59), .ext (.t 55) 0, none, true⟩,
  ⟨(some 60), .ext (.t 55) 1, none, true⟩,
  ⟨(some 13), .mv (.t 59), none, true⟩,
  ⟨(some 14), .mv (.t 60), none, true⟩]
@[reducible] def o5_14 : List Ins := [⟨(some 62), .ld false 3 (.t 5), none, true⟩,
  ⟨(some 63), .mv (.t 6), none, true⟩,
  ⟨(some 64), .call (.k (.fn 32 [])) [(.t 62), (.t 63)], none, true⟩,
  ⟨(some 61), .mv (.t 64), none, true⟩,
  ⟨(some 65), .ext (.t 61) 0, none, true⟩,
  ⟨(some 66), .ext (.t 61) 1, none, true⟩,
  ⟨(some 15), .mv (.t 65), none, true⟩,
  ⟨(some 16), .mv (.t 66), none, true⟩]
@[reducible] def o5_15 : List Ins := [⟨(some 68), .ld false 3 (.t 2), none, true⟩,
  ⟨(some 69), .mv (.t 1), none, true⟩,
  ⟨(some 70), .call (.k (.fn 33 [])) [(.t 68), (.t 69)], none, true⟩,
  ⟨(some 67), .mv (.t 70), none, true⟩,
  ⟨(some 71), .ext (.t 67) 0, none, true⟩,
  ⟨(some 72), .ext (.t 67) 1, none, true⟩,
  ⟨(some 17), .mv (.t 71), none, true⟩,
  ⟨(some 18), .mv (.t 72), none, true⟩]
@[reducible] def o5_16 : List Ins := [⟨(some 73), .mv (.t 7), none, true⟩,
  ⟨(some 74), .mv (.t 9), none, true⟩,
  ⟨(some 75), .call (.k (.fn 34 [])) [(.t 73), (.t 74)], none, true⟩,
  ⟨(some 76), .mv (.t 75), none, true⟩,
  ⟨(some 77), .mv (.t 8), (some (76, true)), true⟩,
  ⟨(some 78), .mv (.t 10), (some (76, true)), true⟩,
  ⟨(some 79), .bin .eql (.t 77) (.t 78), (some (76, true)), true⟩,
  ⟨(some 80), .pick (.t 76) (.t 79) (.k (.c (.bool false))), none, true⟩,
  ⟨(some 81), .mv (.t 80), none, true⟩,
  ⟨(some 82), .mv (.t 11), (some (81, true)), true⟩,
  ⟨(some 83), .mv (.t 13), (some (81, true)), true⟩,
  ⟨(some 84), .bin .eql (.t 82) (.t 83), (some (81, true)), true⟩,
  ⟨(some 85), .pick (.t 81) (.t 84) (.k (.c (.bool false))), none, true⟩,
  ⟨(some 86), .mv (.t 85), none, true⟩,
  ⟨(some 87), .mv (.t 12), (some (86, true)), true⟩,
  ⟨(some 88), .mv (.t 14), (some (86, true)), true⟩,
  ⟨(some 89), .bin .eql (.t 87) (.t 88), (some (86, true)), true⟩,
  ⟨(some 90), .pick (.t 86) (.t 89) (.k (.c (.bool false))), none, true⟩,
  ⟨(some 91), .mv (.t 90), none, true⟩,
  ⟨(some 92), .mv (.t 15), (some (91, true)), true⟩,
  ⟨(some 93), .mv (.t 17), (some (91, true)), true⟩,
  ⟨(some 94), .bin .eql (.t 92) (.t 93), (some (91, true)), true⟩,
  ⟨(some 95), .pick (.t 91) (.t 94) (.k (.c (.bool false))), none, true⟩,
  ⟨(some 96), .mv (.t 95), none, true⟩,
  ⟨(some 97), .mv (.t 16), (some (96, true)), true⟩,
  ⟨(some 98), .mv (.t 18), (some (96, true)), true⟩,
  ⟨(some 99), .bin .eql (.t 97) (.t 98), (some (96, true)), true⟩,
  ⟨(some 100), .pick (.t 96) (.t 99) (.k (.c (.bool false))), none, true⟩,
  ⟨(some 101), .mv (.t 100), none, true⟩,
  ⟨(some 102), .ld false 3 (.t 5), (some (101, true)), true⟩,
  ⟨(some 103), .ld false 3 (.t 2), (some (101, true)), true⟩,
  ⟨(some 104), .call (.k (.fn 22 [])) [(.t 102), (.t 103)], (some (101, true)), true⟩,
  ⟨(some 105), .pick (.t 101) (.t 104) (.k (.c (.bool false))), none, true⟩,
  ⟨(some 106), .mv (.t 105), none, true⟩,
  ⟨(some 107), .mv (.t 6), (some (106, true)), true⟩,
  ⟨(some 108), .mv (.t 1), (some (106, true)), true⟩,
  ⟨(some 109), .call (.k (.fn 34 [])) [(.t 107), (.t 108)], (some (106, true)), true⟩,
  ⟨(some 110), .pick (.t 106) (.t 109) (.k (.c (.bool false))), none, true⟩,
  ⟨(some 111), .mv (.t 110), none, true⟩,
  ⟨(some 112), .call (.k (.fn 14 [])) [], (some (111, true)), true⟩,
  ⟨(some 113), .pick (.t 111) (.t 112) (.k (.c (.bool false))), none, true⟩,
  ⟨(some 4), .mv (.t 113), none, true⟩]
@[reducible] def v5_17 : VC := (.seq (.ops o5_16) .ret)
@[reducible] def v5_18 : VC := (.seq (.ops o5_15) v5_17)
@[reducible] def v5_19 : VC := (.seq (.ops o5_14) v5_18)
@[reducible] def v5_20 : VC := (.seq (.ops o5_13) v5_19)
@[reducible] def v5_21 : VC := (.seq (.ops o5_12) v5_20)
@[reducible] def v5_22 : VC := (.seq (.ops o5_11) v5_21)
@[reducible] def v5_23 : VC := (.seq (.ops o5_10) v5_22)
@[reducible] def v5_24 : VC := (.seq (.seq (.ops o5_6) v5_9) v5_23)
@[reducible] def v5_25 : VC := (.seq (.ops o5_5) v5_24)
@[reducible] def v5_26 : VC := (.seq (.seq (.ops o5_1) v5_4) v5_25)
def ir5 : FC := ⟨2, 114, [.t 4], (.seq (.ops o5_0) v5_26)⟩
theorem c5 : compM Try.prog [] 5 = some ir5 := by kernel_rfl



end Go.Proofs.Ytbejgfpaokcnpaa

namespace Go.Proofs.Ytbejgfpaokcnpaa
open Go Go.V
namespace W
@[reducible] def o17_0 : List Ins := [⟨(some 1), .box 3 (.t 0), none, true⟩,
  ⟨(some 2), .alloc [(.c (.raw (.slice none 0 0))), (.c (.raw (.slice none 0 0))), (.c (.int .i64 0))], none, true⟩]
@[reducible] def o17_1 : List Ins := [⟨(some 5), .ld false 3 (.t 1), none, true⟩,
  ⟨(some 3), .alloc [(.c (.raw (.slice none 0 0))), (.c (.raw (.slice none 0 0))), (.c (.int .i64 0))], none, true⟩,
  ⟨none, .st 3 (.t 3) (.t 5), none, true⟩]
@[reducible] def o17_2 : List Ins := [⟨(some 6), .bsl 53 4 [], none, true⟩,
  ⟨(some 7), .fa 0 (.t 1), none, true⟩,
  ⟨(some 8), .ld true 1 (.t 7), none, true⟩,
  ⟨(some 9), .appv 53 4 32 (.t 6) (.t 8), none, true⟩,
  ⟨(some 10), .fa 0 (.t 3), none, true⟩,
  ⟨none, .st 1 (.t 10) (.t 9), none, true⟩,
  ⟨(some 11), .fa 1 (.t 3), none, true⟩,
  ⟨none, .st 1 (.t 11) (.k (.c (.raw (.slice none 0 0)))), none, true⟩]
@[reducible] def o17_3 : List Ins := [⟨(some 4), .mv (.k (.c (.int .i64 0))), none, true⟩]
@[reducible] def o17_4 : List Ins := [⟨(some 12), .mv (.t 4), none, true⟩,
  ⟨(some 13), .fa 1 (.t 1), none, true⟩,
  ⟨(some 14), .ld true 1 (.t 13), none, true⟩,
  ⟨(some 15), .len (.t 14), none, true⟩,
  ⟨(some 16), .bin .lss (.t 12) (.t 15), none, true⟩]
@[reducible] def v17_5 : VC := (.cond (.t 16) .skip (.exit 0))
@[reducible] def t17_6 : OT := (.cons ⟨(some 21), .bsl 3 1 [], none, false⟩
  (.cons ⟨(some 22), .fa 1 (.t 1), none, false⟩
  (.cons ⟨(some 23), .ld true 1 (.t 22), none, false⟩
  (.cons ⟨(some 24), .mv (.t 4), none, false⟩
  (.cons ⟨(some 25), .ia 1 (.t 23) (.t 24), none, false⟩
  (.cons ⟨(some 26), .ld true 1 (.t 25), none, false⟩
  (.br [(.cons ⟨(some 19), .fa 1 (.t 3), none, false⟩
    (.br [(.cons ⟨(some 20), .ld true 1 (.t 19), none, false⟩
      (.cons ⟨(some 27), .appv 3 1 8 (.t 21) (.t 26), none, true⟩
      (.cons ⟨(some 28), .bslv 33 1 [(.t 27)], none, true⟩
      (.cons ⟨(some 29), .appv 33 1 24 (.t 20) (.t 28), none, true⟩
      (.cons ⟨(some 30), .fa 1 (.t 3), none, true⟩
      (.cons ⟨none, .st 1 (.t 30) (.t 29), none, true⟩
      .nil)))))), (.cons ⟨(some 27), .appv 3 1 8 (.t 21) (.t 26), none, true⟩
      (.br [(.cons ⟨(some 20), .ld true 1 (.t 19), none, false⟩
        (.cons ⟨(some 28), .bslv 33 1 [(.t 27)], none, true⟩
        (.cons ⟨(some 29), .appv 33 1 24 (.t 20) (.t 28), none, true⟩
        (.cons ⟨(some 30), .fa 1 (.t 3), none, true⟩
        (.cons ⟨none, .st 1 (.t 30) (.t 29), none, true⟩
        .nil))))), (.cons ⟨(some 28), .bslv 33 1 [(.t 27)], none, true⟩
        (.cons ⟨(some 20), .ld true 1 (.t 19), none, false⟩
        (.cons ⟨(some 29), .appv 33 1 24 (.t 20) (.t 28), none, true⟩
        (.cons ⟨(some 30), .fa 1 (.t 3), none, true⟩
        (.cons ⟨none, .st 1 (.t 30) (.t 29), none, true⟩
        .nil)))))]))])), (.cons ⟨(some 27), .appv 3 1 8 (.t 21) (.t 26), none, true⟩
    (.br [(.cons ⟨(some 19), .fa 1 (.t 3), none, false⟩
      (.br [(.cons ⟨(some 20), .ld true 1 (.t 19), none, false⟩
        (.cons ⟨(some 28), .bslv 33 1 [(.t 27)], none, true⟩
        (.cons ⟨(some 29), .appv 33 1 24 (.t 20) (.t 28), none, true⟩
        (.cons ⟨(some 30), .fa 1 (.t 3), none, true⟩
        (.cons ⟨none, .st 1 (.t 30) (.t 29), none, true⟩
        .nil))))), (.cons ⟨(some 28), .bslv 33 1 [(.t 27)], none, true⟩
        (.cons ⟨(some 20), .ld true 1 (.t 19), none, false⟩
        (.cons ⟨(some 29), .appv 33 1 24 (.t 20) (.t 28), none, true⟩
        (.cons ⟨(some 30), .fa 1 (.t 3), none, true⟩
        (.cons ⟨none, .st 1 (.t 30) (.t 29), none, true⟩
        .nil)))))])), (.cons ⟨(some 28), .bslv 33 1 [(.t 27)], none, true⟩
      (.cons ⟨(some 19), .fa 1 (.t 3), none, false⟩
      (.cons ⟨(some 20), .ld true 1 (.t 19), none, false⟩
      (.cons ⟨(some 29), .appv 33 1 24 (.t 20) (.t 28), none, true⟩
      (.cons ⟨(some 30), .fa 1 (.t 3), none, true⟩
      (.cons ⟨none, .st 1 (.t 30) (.t 29), none, true⟩
      .nil))))))]))])))))))
@[reducible] def o17_7 : List Ins := [⟨(some 17), .mv (.t 4), none, true⟩,
  ⟨(some 18), .bin .add (.t 17) (.k (.c (.int .i64 1))), none, true⟩,
  ⟨(some 4), .mv (.t 18), none, true⟩]
@[reducible] def v17_8 : VC := (.seq (.block 1 (.drw t17_6)) (.ops o17_7))
@[reducible] def v17_9 : VC := (.seq (.seq (.ops o17_4) v17_5) v17_8)
-- K17_1: changed and kept: [4]
@[reducible] def v17_10 : VC := (.loop v17_9)
@[reducible] def v17_11 : VC := (.block 0 v17_10)
@[reducible] def o17_12 : List Ins := [⟨(some 31), .ld false 3 (.t 3), none, true⟩,
  ⟨none, .st 3 (.t 2) (.t 31), none, true⟩]
@[reducible] def v17_13 : VC := (.seq (.ops o17_12) .ret)
@[reducible] def v17_14 : VC := (.seq (.seq (.ops o17_3) v17_11) v17_13)
@[reducible] def v17_15 : VC := (.seq (.ops o17_2) v17_14)
@[reducible] def v17_16 : VC := (.seq (.ops o17_1) v17_15)
def ir17 : FC := ⟨1, 32, [.cell 2 false 3], (.seq (.ops o17_0) v17_16)⟩
theorem c17 : compM Try.prog [100009,100027,100028,100029] 17 = some ir17 := by kernel_rfl

end W
namespace W0
@[reducible] def o17_0 : List Ins := [⟨(some 1), .box 3 (.t 0), none, true⟩,
  ⟨(some 2), .alloc [(.c (.raw (.slice none 0 0))), (.c (.raw (.slice none 0 0))), (.c (.int .i64 0))], none, true⟩]
@[reducible] def o17_1 : List Ins := [⟨(some 5), .ld false 3 (.t 1), none, true⟩,
  ⟨(some 3), .alloc [(.c (.raw (.slice none 0 0))), (.c (.raw (.slice none 0 0))), (.c (.int .i64 0))], none, true⟩,
  ⟨none, .st 3 (.t 3) (.t 5), none, true⟩]
@[reducible] def o17_2 : List Ins := [⟨(some 6), .bsl 53 4 [], none, true⟩,
  ⟨(some 7), .fa 0 (.t 1), none, true⟩,
  ⟨(some 8), .ld true 1 (.t 7), none, true⟩,
  ⟨(some 9), .app 53 4 32 (.t 6) (.t 8), none, true⟩,
  ⟨(some 10), .fa 0 (.t 3), none, true⟩,
  ⟨none, .st 1 (.t 10) (.t 9), none, true⟩,
  ⟨(some 11), .fa 1 (.t 3), none, true⟩,
  ⟨none, .st 1 (.t 11) (.k (.c (.raw (.slice none 0 0)))), none, true⟩]
@[reducible] def o17_3 : List Ins := [⟨(some 4), .mv (.k (.c (.int .i64 0))), none, true⟩]
@[reducible] def o17_4 : List Ins := [⟨(some 12), .mv (.t 4), none, true⟩,
  ⟨(some 13), .fa 1 (.t 1), none, true⟩,
  ⟨(some 14), .ld true 1 (.t 13), none, true⟩,
  ⟨(some 15), .len (.t 14), none, true⟩,
  ⟨(some 16), .bin .lss (.t 12) (.t 15), none, true⟩]
@[reducible] def v17_5 : VC := (.cond (.t 16) .skip (.exit 0))
@[reducible] def t17_6 : OT := (.cons ⟨(some 21), .bsl 3 1 [], none, false⟩
  (.cons ⟨(some 22), .fa 1 (.t 1), none, false⟩
  (.cons ⟨(some 23), .ld true 1 (.t 22), none, false⟩
  (.cons ⟨(some 24), .mv (.t 4), none, false⟩
  (.cons ⟨(some 25), .ia 1 (.t 23) (.t 24), none, false⟩
  (.cons ⟨(some 26), .ld true 1 (.t 25), none, false⟩
  (.br [(.cons ⟨(some 19), .fa 1 (.t 3), none, false⟩
    (.br [(.cons ⟨(some 20), .ld true 1 (.t 19), none, false⟩
      (.cons ⟨(some 27), .appv 3 1 8 (.t 21) (.t 26), none, true⟩
      (.cons ⟨(some 28), .bslv 33 1 [(.t 27)], none, true⟩
      (.cons ⟨(some 29), .appv 33 1 24 (.t 20) (.t 28), none, true⟩
      (.cons ⟨(some 30), .fa 1 (.t 3), none, true⟩
      (.cons ⟨none, .st 1 (.t 30) (.t 29), none, true⟩
      .nil)))))), (.cons ⟨(some 27), .appv 3 1 8 (.t 21) (.t 26), none, true⟩
      (.br [(.cons ⟨(some 20), .ld true 1 (.t 19), none, false⟩
        (.cons ⟨(some 28), .bslv 33 1 [(.t 27)], none, true⟩
        (.cons ⟨(some 29), .appv 33 1 24 (.t 20) (.t 28), none, true⟩
        (.cons ⟨(some 30), .fa 1 (.t 3), none, true⟩
        (.cons ⟨none, .st 1 (.t 30) (.t 29), none, true⟩
        .nil))))), (.cons ⟨(some 28), .bslv 33 1 [(.t 27)], none, true⟩
        (.cons ⟨(some 20), .ld true 1 (.t 19), none, false⟩
        (.cons ⟨(some 29), .appv 33 1 24 (.t 20) (.t 28), none, true⟩
        (.cons ⟨(some 30), .fa 1 (.t 3), none, true⟩
        (.cons ⟨none, .st 1 (.t 30) (.t 29), none, true⟩
        .nil)))))]))])), (.cons ⟨(some 27), .appv 3 1 8 (.t 21) (.t 26), none, true⟩
    (.br [(.cons ⟨(some 19), .fa 1 (.t 3), none, false⟩
      (.br [(.cons ⟨(some 20), .ld true 1 (.t 19), none, false⟩
        (.cons ⟨(some 28), .bslv 33 1 [(.t 27)], none, true⟩
        (.cons ⟨(some 29), .appv 33 1 24 (.t 20) (.t 28), none, true⟩
        (.cons ⟨(some 30), .fa 1 (.t 3), none, true⟩
        (.cons ⟨none, .st 1 (.t 30) (.t 29), none, true⟩
        .nil))))), (.cons ⟨(some 28), .bslv 33 1 [(.t 27)], none, true⟩
        (.cons ⟨(some 20), .ld true 1 (.t 19), none, false⟩
        (.cons ⟨(some 29), .appv 33 1 24 (.t 20) (.t 28), none, true⟩
        (.cons ⟨(some 30), .fa 1 (.t 3), none, true⟩
        (.cons ⟨none, .st 1 (.t 30) (.t 29), none, true⟩
        .nil)))))])), (.cons ⟨(some 28), .bslv 33 1 [(.t 27)], none, true⟩
      (.cons ⟨(some 19), .fa 1 (.t 3), none, false⟩
      (.cons ⟨(some 20), .ld true 1 (.t 19), none, false⟩
      (.cons ⟨(some 29), .appv 33 1 24 (.t 20) (.t 28), none, true⟩
      (.cons ⟨(some 30), .fa 1 (.t 3), none, true⟩
      (.cons ⟨none, .st 1 (.t 30) (.t 29), none, true⟩
      .nil))))))]))])))))))
@[reducible] def o17_7 : List Ins := [⟨(some 17), .mv (.t 4), none, true⟩,
  ⟨(some 18), .bin .add (.t 17) (.k (.c (.int .i64 1))), none, true⟩,
  ⟨(some 4), .mv (.t 18), none, true⟩]
@[reducible] def v17_8 : VC := (.seq (.block 1 (.drw t17_6)) (.ops o17_7))
@[reducible] def v17_9 : VC := (.seq (.seq (.ops o17_4) v17_5) v17_8)
-- K17_1: changed and kept: [4]
@[reducible] def v17_10 : VC := (.loop v17_9)
@[reducible] def v17_11 : VC := (.block 0 v17_10)
@[reducible] def o17_12 : List Ins := [⟨(some 31), .ld false 3 (.t 3), none, true⟩,
  ⟨none, .st 3 (.t 2) (.t 31), none, true⟩]
@[reducible] def v17_13 : VC := (.seq (.ops o17_12) .ret)
@[reducible] def v17_14 : VC := (.seq (.seq (.ops o17_3) v17_11) v17_13)
@[reducible] def v17_15 : VC := (.seq (.ops o17_2) v17_14)
@[reducible] def v17_16 : VC := (.seq (.ops o17_1) v17_15)
def ir17 : FC := ⟨1, 32, [.cell 2 false 3], (.seq (.ops o17_0) v17_16)⟩
theorem c17 : compM Try.prog [100027,100028,100029] 17 = some ir17 := by kernel_rfl

end W0


def icds (n : Int) : List CD := [.int .i64 n]
theorem row_cells (l : List Int) (j : Nat) : List.map AV.c (List.map (fun n : Int => [CD.int .i64 n]) l).flatten ++ List.replicate j AV.non = cellsG icds l j := rfl
theorem rn_box (d n : Nat) (cs : List AV) : (Ob.box cs).rn d n = .box (AV.rnL d n cs) := rfl
def rowOk (x : Row Int) : Prop := x.l.length ≤ x.cap ∧ x.cap ≤ maxLen ∧ x.cap * 1 ≤ x.l.length * 1 + x.j
/-- A copy whose stops and rows may be written. -/
def copyR (r : Route) (res : AV) (os : List Ob) : Prop := ∃ (R : List (Row Int)) (y : AV) (o : Ob) (dcap dj : Nat), R.map Row.l = r.drive ∧ (∀ x ∈ R, rowOk x) ∧ R.length ≤ dcap ∧ dcap ≤ maxLen ∧ dcap * 1 ≤ R.length * 1 + dj ∧
  res = .agg [y, .vw 1 1001 0 R.length dcap, iv r.start] ∧ os = o :: .box (refs 1002 1 0 R ++ List.replicate dj .non) :: R.map (Row.ob icds) ∧
  ((r.stops = [] ∧ y = .gr 1000 ∧ o = .grow 53 4 []) ∨ (r.stops ≠ [] ∧ ∃ cap j, r.stops.length ≤ cap ∧ cap ≤ maxLen ∧ cap * 4 ≤ r.stops.length * 4 + j ∧ y = .vw 4 1000 0 r.stops.length cap ∧ o = .box (cellsG Stop.cds r.stops j)))

theorem stops_cells (l : List Stop) (j : Nat) : List.map AV.c (List.map Stop.cds l).flatten ++ List.replicate j AV.non = cellsG Stop.cds l j := rfl
def cpS (r : Route) (cap j : Nat) (s : List (Row Int) × AV × Ob) : St := ⟨upd (upd (upd (upd e0 1 (.c (.pt r.cds))) 2 (.bp 2 0)) 3 (.bp 3 0)) 4 (iv s.1.length), fam 700 icds s.1 (upd (upd (upd (upd o0 2 (.box [.c (.raw (.slice none 0 0)), .c (.raw (.slice none 0 0)), iv 0])) 3 (.box [.vw 4 9 0 r.stops.length cap, s.2.1, iv r.start])) 9 (.box (cellsG Stop.cds r.stops j))) 29 s.2.2)⟩
def cpI (r : Route) (s : List (Row Int) × AV × Ob) : Prop := s.1.length ≤ r.drive.length ∧ s.1.map Row.l = r.drive.take s.1.length ∧ (∀ x ∈ s.1, rowOk x) ∧ ((s.1 = [] ∧ s.2.1 = .c (.raw (.slice none 0 0)) ∧ s.2.2 = .none) ∨ (s.1 ≠ [] ∧ ∃ dcap dj, s.1.length ≤ dcap ∧ dcap ≤ maxLen ∧ dcap * 1 ≤ s.1.length * 1 + dj ∧ s.2.1 = .vw 1 29 0 s.1.length dcap ∧ s.2.2 = .box (refs 700 1 0 s.1 ++ List.replicate dj .non)))
def cpS0 (r : Route) (s : List (Row Int) × AV × Ob) : St := ⟨upd (upd (upd (upd e0 1 (.c (.pt [.sl 4 [], driveC r.drive, .int .i64 r.start]))) 2 (.bp 2 0)) 3 (.bp 3 0)) 4 (iv s.1.length), fam 700 icds s.1 (upd (upd (upd (upd o0 2 (.box [.c (.raw (.slice none 0 0)), .c (.raw (.slice none 0 0)), iv 0])) 3 (.box [.gr 9, s.2.1, iv r.start])) 9 (.grow 53 4 [])) 29 s.2.2)⟩
set_option maxRecDepth 20000 in
set_option maxHeartbeats 8000000 in
theorem copyRE (r : Route) (h0 : r.stops ≠ []) (hnear : near r = true) (hrows : ∀ l ∈ r.drive, l ≠ []) (hd0 : r.drive ≠ []) : FSpecN Try.prog 17 [r.av] (copyR r) := by
  obtain ⟨hn1, hn2, hn3⟩ := near_eq hnear
  have hmax : maxLen = 9223372036854775807 := rfl
  have hl0 : (r.stops.length = 0) = False := by simpa using h0
  refine FSpecN_of W.c17 (Nat.le_refl _) (by decide) fun C hP hN hC hL => ?_
  simp only [W.ir17, Route.av]
  (repeat ((first | refine WV_seq_ ?_ | refine WV_block ?_ | refine WV_ops ?_ | refine WV_skip ?_ | refine WV_exit ?_); (try simp only [go_sem, init_env', Nat.reduceEqDiff, Nat.reduceAdd, Nat.reduceMul, reduceIte, Nat.reduceLeDiff, Nat.reduceLT, Nat.reduceBEq, reduceCtorEq, hP, stopsC, stops_four, List.length_map, hl0]); (repeat (refine And.intro (by first | omega | (intros; simp_all; done) | (intros; simp_all; omega)) ?_))))
  (repeat' (refine And.intro ?_ ?_))
  all_goals try omega
  all_goals
    intro cap j q1 q2 q3
    refine WV_freeze 1 (ds := r.cds) rfl rfl ?_
    simp only [go_sem, init_env', Nat.reduceEqDiff, Nat.reduceAdd, Nat.reduceMul, reduceIte, Nat.reduceLeDiff, Nat.reduceLT, Nat.reduceBEq, reduceCtorEq, stops_cells, prg_cellsG, frz_cellsG]
    refine WV_seq_ (WV_seq_ ?_)
    (refine WV_ops ?_; simp only [go_sem, init_env', Nat.reduceEqDiff, Nat.reduceAdd, Nat.reduceMul, reduceIte, Nat.reduceLeDiff, Nat.reduceLT, Nat.reduceBEq, reduceCtorEq, hP, ]; (repeat (refine And.intro (by first | omega | (intros; simp_all; done) | (intros; simp_all; omega)) ?_)))
    refine WV_block ?_
    have hll : ∀ t, (r.drive.getD t []).length ≤ 20 := fun t => by
      rw [List.getD_eq_getElem?_getD]
      by_cases h : t < r.drive.length
      · rw [List.getElem?_eq_getElem h]; exact hn3 _ (List.getElem_mem h)
      · rw [List.getElem?_eq_none (by omega)]; simp
    refine WV_loopS (cpS r cap j) (cpI r) (fun s => r.drive.length - s.1.length) ([], .c (.raw (.slice none 0 0)), .none) ⟨by simp, by simp, by simp, .inl ⟨rfl, rfl, rfl⟩⟩ ?_ ?_
    · simp only [cpS, fam_nil, List.length_nil]
      (refine Sub_of (by simp only [go_sem, init_env', Nat.reduceEqDiff, Nat.reduceAdd, Nat.reduceMul, reduceIte, Nat.reduceLeDiff, Nat.reduceLT, Nat.reduceBEq, reduceCtorEq]; ((repeat' (first | exact EnvLe_e0 _ _ | refine EnvLe_upd ?_ ?_)) <;> ((try simp only [upd_app, e0_app, o0_app, Nat.reduceEqDiff, reduceIte]); first | exact AWk.refl _ _ | exact AWk.int (by omega) | exact AWk.int (by rw [w64 (by omega) (by omega)]; omega) | exact AWk.grow rfl | exact AWk.nil _ | exact AWk.of (by simp)))) (by simp only [go_sem, init_env', Nat.reduceEqDiff, Nat.reduceAdd, Nat.reduceMul, reduceIte, Nat.reduceLeDiff, Nat.reduceLT, Nat.reduceBEq, reduceCtorEq]; (first | ((repeat' (first | exact ObjLe_o0 _ | exact ObjLe.rfl' _ | refine ObjLe_same ?_ | refine ObjLe_upd ?_ ?_ | refine ObjLe_new rfl ?_)) <;> rfl) | (refine ObjLe_X ?_; (repeat' (first | exact ObjLeX_o0 _ _ | refine ObjLeX_skip rfl ?_ | refine ObjLeX_upd ?_ ?_)) <;> rfl))))
    · rintro ⟨R, y, o⟩ ⟨i1, i2, i3, i4⟩
      simp only [cpS] at i1 i2 i3 i4 ⊢
      rcases i4 with ⟨rfl, rfl, rfl⟩ | ⟨hR, dcap, dj, k1, k2, k3, rfl, rfl⟩
      · simp only [List.length_nil]
        refine WV_seq_ (WV_seq_ ?_)
        (refine WV_ops ?_; simp only [go_sem, init_env', Nat.reduceEqDiff, Nat.reduceAdd, Nat.reduceMul, reduceIte, Nat.reduceLeDiff, Nat.reduceLT, Nat.reduceBEq, reduceCtorEq, hP, Route.cds, driveC]; (repeat (refine And.intro (by first | omega | (intros; simp_all; done) | (intros; simp_all; omega)) ?_)))
        (refine WV_cond rfl (fun h => ?_) (fun h => ?_))
        · have h : 0 < r.drive.length := by
            have := List.length_pos_iff.2 hd0
            omega
          have hr0 : r.drive[0].length ≠ 0 := by have := hrows _ (List.getElem_mem h); simpa using this
          have hrl : (r.drive[0].length = 0) = False := by simpa using hr0
          have hrow := hn3 _ (List.getElem_mem h)
          refine WV_skip ?_
          simp only [go_sem, init_env', Nat.reduceEqDiff, Nat.reduceAdd, Nat.reduceMul, reduceIte, Nat.reduceLeDiff, Nat.reduceLT, Nat.reduceBEq, reduceCtorEq]
          refine WV_seq_ ?_
          refine WV_block ?_
          (refine WV_drw ?_; simp only [go_sem, init_env', Nat.reduceEqDiff, Nat.reduceAdd, Nat.reduceMul, reduceIte, Nat.reduceLeDiff, Nat.reduceLT, Nat.reduceBEq, reduceCtorEq, hP, fam_lo, fam_upd, prgO_fam, rnP_fam, Route.cds, driveC, Int.toNat_natCast, map_getD h, List.length_map, Int.ofNat_lt, h, ints, ints_one, intss_one, hrl, row_cells, prg_cellsG, prg_non]; (repeat' (refine And.intro ?_ ?_)))
          all_goals try omega
          all_goals
            intro cap1 j1 u1 u2 u3
            (repeat' (refine And.intro ?_ ?_))
          all_goals try omega
          all_goals
            intro cap2 j2 v1 v2 v3
            refine WV_drop 28 ?_
            refine WV_move' 27 (([] : List (Row Int)).length + 700) (by decide) (by decide) (by rw [fam_upd (by decide), fam_hi (by simp)]; rfl) ?_
            rw [fam_upd (by decide), rnO_fam (by decide) ⟨r.drive[0], j1, cap1⟩ (by simp [upd_app, Row.ob])]
            simp only [go_sem, init_env', Nat.reduceEqDiff, Nat.reduceAdd, Nat.reduceMul, reduceIte, Nat.reduceLeDiff, Nat.reduceLT, Nat.reduceBEq, reduceCtorEq, rnP_upd, rnE_upd, rnE_e0, rnP_o0, rn_cellsG, rn_non, rn_box, AV.rn, AV.rnL, List.nil_append, List.length_nil]
            (refine WV_ops ?_; simp only [go_sem, init_env', Nat.reduceEqDiff, Nat.reduceAdd, Nat.reduceMul, reduceIte, Nat.reduceLeDiff, Nat.reduceLT, Nat.reduceBEq, reduceCtorEq, hP, ]; (repeat (refine And.intro (by first | omega | (intros; simp_all; done) | (intros; simp_all; omega)) ?_)))
            refine ⟨([⟨r.drive[0], j1, cap1⟩], .vw 1 29 0 1 cap2, .box (refs 700 1 0 [⟨r.drive[0], j1, cap1⟩] ++ List.replicate j2 .non)), ⟨by simp only [List.length_cons, List.length_nil]; omega, ?_, ?_, .inr ⟨by simp, cap2, j2, by simpa using v1, v2, by simpa using v3, by simp, rfl⟩⟩, by simp only [List.length_cons, List.length_nil]; omega, ?_⟩
            · show [r.drive[0]] = r.drive.take 1
              rw [List.take_succ_eq_append_getElem h]; rfl
            · intro x hx
              rw [List.mem_singleton.1 hx]
              exact ⟨u1, u2, u3⟩
            · refine Sub_of ?_ (ObjLe_fam ?_)
              · ((repeat' (first | exact EnvLe_e0 _ _ | refine EnvLe_upd ?_ ?_)) <;> ((try simp only [upd_app, e0_app, o0_app, Nat.reduceEqDiff, reduceIte]); first | exact AWk.refl _ _ | exact AWk.int (by omega) | exact AWk.int (by rw [w64 (by omega) (by omega)]; omega) | exact AWk.grow rfl | exact AWk.nil _ | exact AWk.of (by simp)))
              · (first | ((repeat' (first | exact ObjLe_o0 _ | exact ObjLe.rfl' _ | refine ObjLe_same ?_ | refine ObjLe_upd ?_ ?_ | refine ObjLe_new rfl ?_)) <;> rfl) | (refine ObjLe_X ?_; (repeat' (first | exact ObjLeX_o0 _ _ | refine ObjLeX_skip rfl ?_ | refine ObjLeX_upd ?_ ?_)) <;> rfl))
        · exfalso
          have := List.length_pos_iff.2 hd0
          simp at h; exact absurd h hd0
      · refine WV_seq_ (WV_seq_ ?_)
        (refine WV_ops ?_; simp only [go_sem, init_env', Nat.reduceEqDiff, Nat.reduceAdd, Nat.reduceMul, reduceIte, Nat.reduceLeDiff, Nat.reduceLT, Nat.reduceBEq, reduceCtorEq, hP, Route.cds, driveC]; (repeat (refine And.intro (by first | omega | (intros; simp_all; done) | (intros; simp_all; omega)) ?_)))
        (refine WV_cond rfl (fun h => ?_) (fun h => ?_))
        · have h : R.length < r.drive.length := by simpa using h
          have hr0 : r.drive[R.length].length ≠ 0 := by have := hrows _ (List.getElem_mem h); simpa using this
          have hrl : (r.drive[R.length].length = 0) = False := by simpa using hr0
          have hrow := hn3 _ (List.getElem_mem h)
          have hw2 := w64 (n := (R.length : Int) + 1) (by omega) (by omega)
          refine WV_skip ?_
          simp only [go_sem, init_env', Nat.reduceEqDiff, Nat.reduceAdd, Nat.reduceMul, reduceIte, Nat.reduceLeDiff, Nat.reduceLT, Nat.reduceBEq, reduceCtorEq]
          refine WV_seq_ ?_
          refine WV_block ?_
          (refine WV_drw ?_; simp only [go_sem, init_env', Nat.reduceEqDiff, Nat.reduceAdd, Nat.reduceMul, reduceIte, Nat.reduceLeDiff, Nat.reduceLT, Nat.reduceBEq, reduceCtorEq, hP, fam_lo, fam_upd, prgO_fam, rnP_fam, Route.cds, driveC, Int.toNat_natCast, map_getD h, List.length_map, Int.ofNat_lt, h, ints, ints_one, intss_one, hrl, row_cells, prg_cellsG, prg_non, refs_take, refs_prg, prgL_append, List.length_append, refs_len, List.length_replicate]; (repeat' (refine And.intro ?_ ?_)))
          all_goals try omega
          all_goals
            intro cap1 j1 u1 u2 u3
            (repeat' (refine And.intro ?_ ?_))
          all_goals try omega
          all_goals
            intro cap2 j2 v1 v2 v3
            refine WV_drop 28 ?_
            refine WV_move' 27 (R.length + 700) (by omega) (by omega) (by rw [fam_upd (by decide), fam_hi (Nat.le_refl _)]; simp only [upd_app, ne_add' (show 28 < 700 by decide), ne_add' (show 27 < 700 by decide), ne_add' (show 3 < 700 by decide), ne_add' (show 29 < 700 by decide), ne_add' (show 21 < 700 by decide), ne_add' (show 9 < 700 by decide), ne_add' (show 2 < 700 by decide), if_false]; rfl) ?_
            rw [fam_upd (by decide), rnO_fam (by decide) ⟨r.drive[R.length], j1, cap1⟩ (by simp [upd_app, Row.ob])]
            simp only [go_sem, init_env', Nat.reduceEqDiff, Nat.reduceAdd, Nat.reduceMul, reduceIte, Nat.reduceLeDiff, Nat.reduceLT, Nat.reduceBEq, reduceCtorEq, rnP_upd, rnE_upd, rnE_e0, rnP_o0, rn_cellsG, rn_non, rn_box, AV.rn, AV.rnL, ne_add, refs_rn (show 27 < 700 by decide) R 0 (Nat.le_refl (R.length + 700)), rnL_append]
            (refine WV_ops ?_; simp only [go_sem, init_env', Nat.reduceEqDiff, Nat.reduceAdd, Nat.reduceMul, reduceIte, Nat.reduceLeDiff, Nat.reduceLT, Nat.reduceBEq, reduceCtorEq, hP, hw2]; (repeat (refine And.intro (by first | omega | (intros; simp_all; done) | (intros; simp_all; omega)) ?_)))
            refine ⟨(R ++ [⟨r.drive[R.length], j1, cap1⟩], .vw 1 29 0 (R.length + 1) cap2, .box (refs 700 1 0 R ++ [.vw 1 (R.length + 700) 0 r.drive[R.length].length cap1] ++ List.replicate j2 .non)), ⟨by simp only [List.length_append, List.length_cons, List.length_nil]; omega, ?_, ?_, .inr ⟨by simp, cap2, j2, by simpa using v1, v2, by simpa using v3, by simp, ?_⟩⟩, by simp only [List.length_append, List.length_cons, List.length_nil]; omega, ?_⟩
            · simp only [List.length_append, List.length_cons, List.length_nil, List.map_append, List.map_cons, List.map_nil, i2]
              rw [List.take_succ_eq_append_getElem h]
            · intro x hx
              rcases List.mem_append.1 hx with hx | hx
              · exact i3 x hx
              · rw [List.mem_singleton.1 hx]
                exact ⟨u1, u2, u3⟩
            · simp only [refs_snoc, Nat.add_zero]
            · refine Sub_of ?_ (ObjLe_fam ?_)
              · simp only [List.length_append, List.length_cons, List.length_nil]
                ((repeat' (first | exact EnvLe_e0 _ _ | refine EnvLe_upd ?_ ?_)) <;> ((try simp only [upd_app, e0_app, o0_app, Nat.reduceEqDiff, reduceIte]); first | exact AWk.refl _ _ | exact AWk.int (by omega) | exact AWk.int (by rw [w64 (by omega) (by omega)]; omega) | exact AWk.grow rfl | exact AWk.nil _ | exact AWk.of (by simp)))
              · (first | ((repeat' (first | exact ObjLe_o0 _ | exact ObjLe.rfl' _ | refine ObjLe_same ?_ | refine ObjLe_upd ?_ ?_ | refine ObjLe_new rfl ?_)) <;> rfl) | (refine ObjLe_X ?_; (repeat' (first | exact ObjLeX_o0 _ _ | refine ObjLeX_skip rfl ?_ | refine ObjLeX_upd ?_ ?_)) <;> rfl))
        · have h : R.length = r.drive.length := by simp at h; omega
          (repeat ((first | refine WV_seq_ ?_ | refine WV_block ?_ | refine WV_ops ?_ | refine WV_skip ?_ | refine WV_exit ?_); (try simp only [go_sem, init_env', Nat.reduceEqDiff, Nat.reduceAdd, Nat.reduceMul, reduceIte, Nat.reduceLeDiff, Nat.reduceLT, Nat.reduceBEq, reduceCtorEq, hP, fam_lo, fam_upd]); (repeat (refine And.intro (by first | omega | (intros; simp_all; done) | (intros; simp_all; omega)) ?_))))
          (refine WV_ret ?_; simp only [thenQ, inQ, RetQN, RetOkN, resAll, resA]; simp only [go_sem, init_env', Nat.reduceEqDiff, Nat.reduceAdd, Nat.reduceMul, reduceIte, Nat.reduceLeDiff, Nat.reduceLT, Nat.reduceBEq, reduceCtorEq, tupA, fam_lo, fam_upd])
          have hR2 : R.map Row.l = r.drive := by rw [i2, h, List.take_length]
          refine ⟨[9, 29] ++ rng 700 R.length, _, .agg [.vw 4 1000 0 r.stops.length cap, .vw 1 1001 0 R.length dcap, iv r.start], .box (cellsG Stop.cds r.stops j) :: .box (refs 1002 1 0 R ++ List.replicate dj .non) :: R.map (Row.ob icds), nodup_rng (by decide) (by decide), by simp [rng_len]; omega, by simp only [AV.lend, AV.lendL, List.cons_append, List.mem_cons, true_or, or_true, if_true, List.idxOf_cons]; rfl, AVle.of rfl, ?_, R, _, _, dcap, dj, hR2, i3, k1, k2, k3, rfl, rfl, .inr ⟨h0, cap, j, q1, q2, q3, rfl, rfl⟩⟩
          refine obsLend_append (A := [9, 29]) (x := [_, _]) ?_ (obsLend_fam fun i hi => fam_at hi)
          simp only [obsLend, fam_lo (show 9 < 700 by decide), fam_lo (show 29 < 700 by decide), upd_app, Nat.reduceEqDiff, if_false, if_true, Ob.lend, lend_cellsG, Option.map_some]
          rw [lendL_append, refs_lend (b := 700) (m := R.length) (L := [9, 29]) (by decide) _ 1000 R 0 (by omega), Option.bind_some, lend_non]
          rfl
set_option maxRecDepth 20000 in
set_option maxHeartbeats 8000000 in
theorem copyRE0 (r : Route) (h0 : r.stops = []) (hnear : near r = true) (hrows : ∀ l ∈ r.drive, l ≠ []) (hd0 : r.drive ≠ []) : FSpecN Try.prog 17 [r.av] (copyR r) := by
  obtain ⟨hn1, hn2, hn3⟩ := near_eq hnear
  have hmax : maxLen = 9223372036854775807 := rfl
  refine FSpecN_of W0.c17 (Nat.le_refl _) (by decide) fun C hP hN hC hL => ?_
  simp only [W0.ir17, Route.av]
  (repeat ((first | refine WV_seq_ ?_ | refine WV_block ?_ | refine WV_ops ?_ | refine WV_skip ?_ | refine WV_exit ?_); (try simp only [go_sem, init_env', Nat.reduceEqDiff, Nat.reduceAdd, Nat.reduceMul, reduceIte, Nat.reduceLeDiff, Nat.reduceLT, Nat.reduceBEq, reduceCtorEq, hP, stopsC, h0, List.map_nil, List.all_nil, List.nil_append]); (repeat (refine And.intro (by first | omega | (intros; simp_all; done) | (intros; simp_all; omega)) ?_))))
  all_goals
    refine WV_freeze 1 (ds := [.sl 4 [], driveC r.drive, .int .i64 r.start]) rfl rfl ?_
    simp only [go_sem, init_env', Nat.reduceEqDiff, Nat.reduceAdd, Nat.reduceMul, reduceIte, Nat.reduceLeDiff, Nat.reduceLT, Nat.reduceBEq, reduceCtorEq, stops_cells, prg_cellsG, frz_cellsG]
    have hll : ∀ t, (r.drive.getD t []).length ≤ 20 := fun t => by
      rw [List.getD_eq_getElem?_getD]
      by_cases h : t < r.drive.length
      · rw [List.getElem?_eq_getElem h]; exact hn3 _ (List.getElem_mem h)
      · rw [List.getElem?_eq_none (by omega)]; simp
    refine WV_loopS (cpS0 r) (cpI r) (fun s => r.drive.length - s.1.length) ([], .c (.raw (.slice none 0 0)), .none) ⟨by simp, by simp, by simp, .inl ⟨rfl, rfl, rfl⟩⟩ ?_ ?_
    · simp only [cpS0, fam_nil, List.length_nil]
      (refine Sub_of (by simp only [go_sem, init_env', Nat.reduceEqDiff, Nat.reduceAdd, Nat.reduceMul, reduceIte, Nat.reduceLeDiff, Nat.reduceLT, Nat.reduceBEq, reduceCtorEq]; ((repeat' (first | exact EnvLe_e0 _ _ | refine EnvLe_upd ?_ ?_)) <;> ((try simp only [upd_app, e0_app, o0_app, Nat.reduceEqDiff, reduceIte]); first | exact AWk.refl _ _ | exact AWk.int (by omega) | exact AWk.int (by rw [w64 (by omega) (by omega)]; omega) | exact AWk.grow rfl | exact AWk.nil _ | exact AWk.of (by simp)))) (by simp only [go_sem, init_env', Nat.reduceEqDiff, Nat.reduceAdd, Nat.reduceMul, reduceIte, Nat.reduceLeDiff, Nat.reduceLT, Nat.reduceBEq, reduceCtorEq]; (first | ((repeat' (first | exact ObjLe_o0 _ | exact ObjLe.rfl' _ | refine ObjLe_same ?_ | refine ObjLe_upd ?_ ?_ | refine ObjLe_new rfl ?_)) <;> rfl) | (refine ObjLe_X ?_; (repeat' (first | exact ObjLeX_o0 _ _ | refine ObjLeX_skip rfl ?_ | refine ObjLeX_upd ?_ ?_)) <;> rfl))))
    · rintro ⟨R, y, o⟩ ⟨i1, i2, i3, i4⟩
      simp only [cpS0] at i1 i2 i3 i4 ⊢
      rcases i4 with ⟨rfl, rfl, rfl⟩ | ⟨hR, dcap, dj, k1, k2, k3, rfl, rfl⟩
      · simp only [List.length_nil]
        refine WV_seq_ (WV_seq_ ?_)
        (refine WV_ops ?_; simp only [go_sem, init_env', Nat.reduceEqDiff, Nat.reduceAdd, Nat.reduceMul, reduceIte, Nat.reduceLeDiff, Nat.reduceLT, Nat.reduceBEq, reduceCtorEq, hP, Route.cds, driveC]; (repeat (refine And.intro (by first | omega | (intros; simp_all; done) | (intros; simp_all; omega)) ?_)))
        (refine WV_cond rfl (fun h => ?_) (fun h => ?_))
        · have h : 0 < r.drive.length := by
            have := List.length_pos_iff.2 hd0
            omega
          have hr0 : r.drive[0].length ≠ 0 := by have := hrows _ (List.getElem_mem h); simpa using this
          have hrl : (r.drive[0].length = 0) = False := by simpa using hr0
          have hrow := hn3 _ (List.getElem_mem h)
          refine WV_skip ?_
          simp only [go_sem, init_env', Nat.reduceEqDiff, Nat.reduceAdd, Nat.reduceMul, reduceIte, Nat.reduceLeDiff, Nat.reduceLT, Nat.reduceBEq, reduceCtorEq]
          refine WV_seq_ ?_
          refine WV_block ?_
          (refine WV_drw ?_; simp only [go_sem, init_env', Nat.reduceEqDiff, Nat.reduceAdd, Nat.reduceMul, reduceIte, Nat.reduceLeDiff, Nat.reduceLT, Nat.reduceBEq, reduceCtorEq, hP, fam_lo, fam_upd, prgO_fam, rnP_fam, Route.cds, driveC, Int.toNat_natCast, map_getD h, List.length_map, Int.ofNat_lt, h, ints, ints_one, intss_one, hrl, row_cells, prg_cellsG, prg_non]; (repeat' (refine And.intro ?_ ?_)))
          all_goals try omega
          all_goals
            intro cap1 j1 u1 u2 u3
            (repeat' (refine And.intro ?_ ?_))
          all_goals try omega
          all_goals
            intro cap2 j2 v1 v2 v3
            refine WV_drop 28 ?_
            refine WV_move' 27 (([] : List (Row Int)).length + 700) (by decide) (by decide) (by rw [fam_upd (by decide), fam_hi (by simp)]; rfl) ?_
            rw [fam_upd (by decide), rnO_fam (by decide) ⟨r.drive[0], j1, cap1⟩ (by simp [upd_app, Row.ob])]
            simp only [go_sem, init_env', Nat.reduceEqDiff, Nat.reduceAdd, Nat.reduceMul, reduceIte, Nat.reduceLeDiff, Nat.reduceLT, Nat.reduceBEq, reduceCtorEq, rnP_upd, rnE_upd, rnE_e0, rnP_o0, rn_cellsG, rn_non, rn_box, AV.rn, AV.rnL, List.nil_append, List.length_nil]
            (refine WV_ops ?_; simp only [go_sem, init_env', Nat.reduceEqDiff, Nat.reduceAdd, Nat.reduceMul, reduceIte, Nat.reduceLeDiff, Nat.reduceLT, Nat.reduceBEq, reduceCtorEq, hP, ]; (repeat (refine And.intro (by first | omega | (intros; simp_all; done) | (intros; simp_all; omega)) ?_)))
            refine ⟨([⟨r.drive[0], j1, cap1⟩], .vw 1 29 0 1 cap2, .box (refs 700 1 0 [⟨r.drive[0], j1, cap1⟩] ++ List.replicate j2 .non)), ⟨by simp only [List.length_cons, List.length_nil]; omega, ?_, ?_, .inr ⟨by simp, cap2, j2, by simpa using v1, v2, by simpa using v3, by simp, rfl⟩⟩, by simp only [List.length_cons, List.length_nil]; omega, ?_⟩
            · show [r.drive[0]] = r.drive.take 1
              rw [List.take_succ_eq_append_getElem h]; rfl
            · intro x hx
              rw [List.mem_singleton.1 hx]
              exact ⟨u1, u2, u3⟩
            · refine Sub_of ?_ (ObjLe_fam ?_)
              · ((repeat' (first | exact EnvLe_e0 _ _ | refine EnvLe_upd ?_ ?_)) <;> ((try simp only [upd_app, e0_app, o0_app, Nat.reduceEqDiff, reduceIte]); first | exact AWk.refl _ _ | exact AWk.int (by omega) | exact AWk.int (by rw [w64 (by omega) (by omega)]; omega) | exact AWk.grow rfl | exact AWk.nil _ | exact AWk.of (by simp)))
              · (first | ((repeat' (first | exact ObjLe_o0 _ | exact ObjLe.rfl' _ | refine ObjLe_same ?_ | refine ObjLe_upd ?_ ?_ | refine ObjLe_new rfl ?_)) <;> rfl) | (refine ObjLe_X ?_; (repeat' (first | exact ObjLeX_o0 _ _ | refine ObjLeX_skip rfl ?_ | refine ObjLeX_upd ?_ ?_)) <;> rfl))
        · exfalso
          have := List.length_pos_iff.2 hd0
          simp at h; exact absurd h hd0
      · refine WV_seq_ (WV_seq_ ?_)
        (refine WV_ops ?_; simp only [go_sem, init_env', Nat.reduceEqDiff, Nat.reduceAdd, Nat.reduceMul, reduceIte, Nat.reduceLeDiff, Nat.reduceLT, Nat.reduceBEq, reduceCtorEq, hP, Route.cds, driveC]; (repeat (refine And.intro (by first | omega | (intros; simp_all; done) | (intros; simp_all; omega)) ?_)))
        (refine WV_cond rfl (fun h => ?_) (fun h => ?_))
        · have h : R.length < r.drive.length := by simpa using h
          have hr0 : r.drive[R.length].length ≠ 0 := by have := hrows _ (List.getElem_mem h); simpa using this
          have hrl : (r.drive[R.length].length = 0) = False := by simpa using hr0
          have hrow := hn3 _ (List.getElem_mem h)
          have hw2 := w64 (n := (R.length : Int) + 1) (by omega) (by omega)
          refine WV_skip ?_
          simp only [go_sem, init_env', Nat.reduceEqDiff, Nat.reduceAdd, Nat.reduceMul, reduceIte, Nat.reduceLeDiff, Nat.reduceLT, Nat.reduceBEq, reduceCtorEq]
          refine WV_seq_ ?_
          refine WV_block ?_
          (refine WV_drw ?_; simp only [go_sem, init_env', Nat.reduceEqDiff, Nat.reduceAdd, Nat.reduceMul, reduceIte, Nat.reduceLeDiff, Nat.reduceLT, Nat.reduceBEq, reduceCtorEq, hP, fam_lo, fam_upd, prgO_fam, rnP_fam, Route.cds, driveC, Int.toNat_natCast, map_getD h, List.length_map, Int.ofNat_lt, h, ints, ints_one, intss_one, hrl, row_cells, prg_cellsG, prg_non, refs_take, refs_prg, prgL_append, List.length_append, refs_len, List.length_replicate]; (repeat' (refine And.intro ?_ ?_)))
          all_goals try omega
          all_goals
            intro cap1 j1 u1 u2 u3
            (repeat' (refine And.intro ?_ ?_))
          all_goals try omega
          all_goals
            intro cap2 j2 v1 v2 v3
            refine WV_drop 28 ?_
            refine WV_move' 27 (R.length + 700) (by omega) (by omega) (by rw [fam_upd (by decide), fam_hi (Nat.le_refl _)]; simp only [upd_app, ne_add' (show 28 < 700 by decide), ne_add' (show 27 < 700 by decide), ne_add' (show 3 < 700 by decide), ne_add' (show 29 < 700 by decide), ne_add' (show 21 < 700 by decide), ne_add' (show 9 < 700 by decide), ne_add' (show 2 < 700 by decide), if_false]; rfl) ?_
            rw [fam_upd (by decide), rnO_fam (by decide) ⟨r.drive[R.length], j1, cap1⟩ (by simp [upd_app, Row.ob])]
            simp only [go_sem, init_env', Nat.reduceEqDiff, Nat.reduceAdd, Nat.reduceMul, reduceIte, Nat.reduceLeDiff, Nat.reduceLT, Nat.reduceBEq, reduceCtorEq, rnP_upd, rnE_upd, rnE_e0, rnP_o0, rn_cellsG, rn_non, rn_box, AV.rn, AV.rnL, ne_add, refs_rn (show 27 < 700 by decide) R 0 (Nat.le_refl (R.length + 700)), rnL_append]
            (refine WV_ops ?_; simp only [go_sem, init_env', Nat.reduceEqDiff, Nat.reduceAdd, Nat.reduceMul, reduceIte, Nat.reduceLeDiff, Nat.reduceLT, Nat.reduceBEq, reduceCtorEq, hP, hw2]; (repeat (refine And.intro (by first | omega | (intros; simp_all; done) | (intros; simp_all; omega)) ?_)))
            refine ⟨(R ++ [⟨r.drive[R.length], j1, cap1⟩], .vw 1 29 0 (R.length + 1) cap2, .box (refs 700 1 0 R ++ [.vw 1 (R.length + 700) 0 r.drive[R.length].length cap1] ++ List.replicate j2 .non)), ⟨by simp only [List.length_append, List.length_cons, List.length_nil]; omega, ?_, ?_, .inr ⟨by simp, cap2, j2, by simpa using v1, v2, by simpa using v3, by simp, ?_⟩⟩, by simp only [List.length_append, List.length_cons, List.length_nil]; omega, ?_⟩
            · simp only [List.length_append, List.length_cons, List.length_nil, List.map_append, List.map_cons, List.map_nil, i2]
              rw [List.take_succ_eq_append_getElem h]
            · intro x hx
              rcases List.mem_append.1 hx with hx | hx
              · exact i3 x hx
              · rw [List.mem_singleton.1 hx]
                exact ⟨u1, u2, u3⟩
            · simp only [refs_snoc, Nat.add_zero]
            · refine Sub_of ?_ (ObjLe_fam ?_)
              · simp only [List.length_append, List.length_cons, List.length_nil]
                ((repeat' (first | exact EnvLe_e0 _ _ | refine EnvLe_upd ?_ ?_)) <;> ((try simp only [upd_app, e0_app, o0_app, Nat.reduceEqDiff, reduceIte]); first | exact AWk.refl _ _ | exact AWk.int (by omega) | exact AWk.int (by rw [w64 (by omega) (by omega)]; omega) | exact AWk.grow rfl | exact AWk.nil _ | exact AWk.of (by simp)))
              · (first | ((repeat' (first | exact ObjLe_o0 _ | exact ObjLe.rfl' _ | refine ObjLe_same ?_ | refine ObjLe_upd ?_ ?_ | refine ObjLe_new rfl ?_)) <;> rfl) | (refine ObjLe_X ?_; (repeat' (first | exact ObjLeX_o0 _ _ | refine ObjLeX_skip rfl ?_ | refine ObjLeX_upd ?_ ?_)) <;> rfl))
        · have h : R.length = r.drive.length := by simp at h; omega
          (repeat ((first | refine WV_seq_ ?_ | refine WV_block ?_ | refine WV_ops ?_ | refine WV_skip ?_ | refine WV_exit ?_); (try simp only [go_sem, init_env', Nat.reduceEqDiff, Nat.reduceAdd, Nat.reduceMul, reduceIte, Nat.reduceLeDiff, Nat.reduceLT, Nat.reduceBEq, reduceCtorEq, hP, fam_lo, fam_upd]); (repeat (refine And.intro (by first | omega | (intros; simp_all; done) | (intros; simp_all; omega)) ?_))))
          (refine WV_ret ?_; simp only [thenQ, inQ, RetQN, RetOkN, resAll, resA]; simp only [go_sem, init_env', Nat.reduceEqDiff, Nat.reduceAdd, Nat.reduceMul, reduceIte, Nat.reduceLeDiff, Nat.reduceLT, Nat.reduceBEq, reduceCtorEq, tupA, fam_lo, fam_upd])
          have hR2 : R.map Row.l = r.drive := by rw [i2, h, List.take_length]
          refine ⟨[9, 29] ++ rng 700 R.length, _, .agg [.gr 1000, .vw 1 1001 0 R.length dcap, iv r.start], .grow 53 4 [] :: .box (refs 1002 1 0 R ++ List.replicate dj .non) :: R.map (Row.ob icds), nodup_rng (by decide) (by decide), by simp [rng_len]; omega, by simp only [AV.lend, AV.lendL, List.cons_append, List.mem_cons, true_or, or_true, if_true, List.idxOf_cons]; rfl, AVle.of rfl, ?_, R, _, _, dcap, dj, hR2, i3, k1, k2, k3, rfl, rfl, .inl ⟨h0, rfl, rfl⟩⟩
          refine obsLend_append (A := [9, 29]) (x := [_, _]) ?_ (obsLend_fam fun i hi => fam_at hi)
          simp only [obsLend, fam_lo (show 9 < 700 by decide), fam_lo (show 29 < 700 by decide), upd_app, Nat.reduceEqDiff, if_false, if_true, Ob.lend, lend_cellsG, Option.map_some]
          rw [lendL_append, refs_lend (b := 700) (m := R.length) (L := [9, 29]) (by decide) _ 1000 R 0 (by omega), Option.bind_some, lend_non]
          rfl
theorem copyN {r : Route} (hnear : near r = true) (hrows : ∀ l ∈ r.drive, l ≠ []) (hd0 : r.drive ≠ []) : FSpecN Try.prog 17 [r.av] (copyR r) := by
  by_cases h0 : r.stops = []
  · exact copyRE0 r h0 hnear hrows hd0
  · exact copyRE r h0 hnear hrows hd0
end Go.Proofs.Ytbejgfpaokcnpaa

namespace Go.Proofs.Ytbejgfpaokcnpaa
open Go Go.V

/-- The stops of a copy. -/
def stopsO (r : Route) (y : AV) (o : Ob) : Prop := (r.stops = [] ∧ y = .gr 600 ∧ o = .grow 53 4 []) ∨ (r.stops ≠ [] ∧ ∃ cap j, r.stops.length ≤ cap ∧ cap ≤ maxLen ∧ cap * 4 ≤ r.stops.length * 4 + j ∧ y = .vw 4 600 0 r.stops.length cap ∧ o = .box (cellsG Stop.cds r.stops j))
theorem backL_app (L : List Nat) : ∀ x y : List AV, AV.backL L (x ++ y) = (AV.backL L x).bind fun x' => (AV.backL L y).map fun y' => x' ++ y'
  | [], y => by simp only [List.nil_append, AV.backL, Option.bind_some]; cases AV.backL L y <;> rfl
  | a :: x, y => by
    simp only [List.cons_append, AV.backL, backL_app L x y]
    cases AV.back L a <;> cases AV.backL L x <;> cases AV.backL L y <;> rfl
theorem backL_non (L : List Nat) : ∀ j : Nat, AV.backL L (List.replicate j .non) = some (List.replicate j .non)
  | 0 => rfl
  | j + 1 => by simp only [List.replicate_succ, AV.backL, AV.back, backL_non L j]
theorem AS_copy {P : Program} {d : Option Nat} {f : X} {xs : List X} {K : St → Prop} {σ : St} {fid : FuncId} {caps args : List AV} {r : Route} (hs : FSpecN P fid args (copyR r)) (hdl : r.drive.length ≤ 20)
    (h1 : (σ.val f).dg = true) (h2 : (xs.all fun x => (σ.val x).dg) = true) (h3 : (σ.val f).dv = .fn fid caps) (h4 : AV.portL σ.own (xs.map (fun x => (σ.val x).dv) ++ caps) = some args)
    (he : ∀ m, prgE (m + 600) σ.env = σ.env) (ho : ∀ m, prgO (m + 600) σ.own = σ.own ∧ σ.own (m + 600) = .none)
    (hK : ∀ (R : List (Row Int)) (y : AV) (o : Ob) (dcap dj : Nat), R.map Row.l = r.drive → (∀ x ∈ R, rowOk x) → R.length ≤ dcap → dcap ≤ maxLen → dcap * 1 ≤ R.length * 1 + dj → stopsO r y o →
      K (St.put ⟨σ.env, fam 700 icds R (upd (upd σ.own 600 o) 601 (.box (refs 700 1 0 R ++ List.replicate dj .non)))⟩ d (.agg [y, .vw 1 601 0 R.length dcap, iv r.start]))) : ACallS P d f xs K σ := by
  refine AS_new hs h1 h2 h3 h4 ?_
  rintro r' os ⟨R, y, o, dcap, dj, hR, hok, d1, d2, d3, rfl, rfl, hy⟩
  have hRl : R.length = r.drive.length := by rw [← hR, List.length_map]
  have hm : ∀ n ∈ [600, 601] ++ rng 700 R.length, 600 ≤ n ∧ n < 1000 := by
    intro n hn
    rcases List.mem_append.1 hn with h | h
    · simp at h; omega
    · have := rng_mem h; omega
  have hE : prgEs ([600, 601] ++ rng 700 R.length) σ.env = σ.env := prgEs_stay fun n hn => by
    have := hm n hn
    obtain ⟨m, rfl⟩ : ∃ m, n = m + 600 := ⟨n - 600, by omega⟩
    exact he m
  have hO : prgOs ([600, 601] ++ rng 700 R.length) σ.own = σ.own := prgOs_stay fun n hn => by
    have := hm n hn
    obtain ⟨m, rfl⟩ : ∃ m, n = m + 600 := ⟨n - 600, by omega⟩
    exact (ho m).1
  have hrefs : AV.backL ([600, 601] ++ rng 700 R.length) (refs 1002 1 0 R ++ List.replicate dj .non) = some (refs 700 1 0 R ++ List.replicate dj .non) := by
    rw [backL_app, show (1002 : Nat) = 1000 + [600, 601].length from rfl, refs_back (b := 700) (m := R.length) (L := [600, 601]) (by omega) R 0 (by omega), Option.bind_some, backL_non]
    rfl
  have key : ∀ (y' : AV) (o' : Ob), y.back ([600, 601] ++ rng 700 R.length) = some y' → o.back ([600, 601] ++ rng 700 R.length) = some o' → stopsO r y' o' →
      ∃ L r' os', L.Nodup ∧ L.length = (o :: .box (refs 1002 1 0 R ++ List.replicate dj .non) :: R.map (Row.ob icds)).length ∧ (L.all fun n => decide (n < 1000) && (σ.own n).isNone) = true ∧ AV.back L (.agg [y, .vw 1 1001 0 R.length dcap, iv r.start]) = some r' ∧ obsBack L (o :: .box (refs 1002 1 0 R ++ List.replicate dj .non) :: R.map (Row.ob icds)) = some os' ∧ K (St.put ⟨prgEs L σ.env, ownBack (prgOs L σ.own) L os'⟩ d r') := by
    intro y' o' hy1 ho1 hst
    refine ⟨[600, 601] ++ rng 700 R.length, .agg [y', .vw 1 601 0 R.length dcap, iv r.start], o' :: .box (refs 700 1 0 R ++ List.replicate dj .non) :: R.map (Row.ob icds), nodup_rng (by decide) (by decide), by simp [rng_len], ?_, ?_, ?_, ?_⟩
    · rw [List.all_eq_true]
      intro n hn
      have := hm n hn
      obtain ⟨m, rfl⟩ : ∃ m, n = m + 600 := ⟨n - 600, by omega⟩
      rw [(ho m).2]
      simp [Ob.isNone]; omega
    · have hv : AV.back ([600, 601] ++ rng 700 R.length) (.vw 1 1001 0 R.length dcap) = some (.vw 1 601 0 R.length dcap) := rfl
      have hi : AV.back ([600, 601] ++ rng 700 R.length) (iv r.start) = some (iv r.start) := rfl
      rw [AV.back.eq_def]; simp only [AV.backL, hy1, hv, hi]
      rfl
    · have hbb : (Ob.box (refs 1002 1 0 R ++ List.replicate dj .non)).back ([600, 601] ++ rng 700 R.length) = some (.box (refs 700 1 0 R ++ List.replicate dj .non)) := by simp only [Ob.back, hrefs, Option.map_some]
      simp only [obsBack, ho1, hbb, obsBack_rows]
    · rw [hE, hO]
      have e : ownBack σ.own ([600, 601] ++ rng 700 R.length) (o' :: .box (refs 700 1 0 R ++ List.replicate dj .non) :: R.map (Row.ob icds)) = fam 700 icds R (upd (upd σ.own 600 o') 601 (.box (refs 700 1 0 R ++ List.replicate dj .non))) := by
        simp only [List.cons_append, List.nil_append, ownBack, ownBack_fam]
        rw [fam_upd (by decide), fam_upd (by decide)]
        congr 1
        funext n
        simp only [upd_app]
        split
        · rename_i h; subst h; rfl
        · rfl
      rw [e]
      exact hK R y' o' dcap dj hR hok d1 d2 d3 hst
  rcases hy with ⟨e1, rfl, rfl⟩ | ⟨e1, cap, j, q1, q2, q3, rfl, rfl⟩
  · exact key (.gr 600) (.grow 53 4 []) rfl rfl (.inl ⟨e1, rfl, rfl⟩)
  · exact key (.vw 4 600 0 r.stops.length cap) (.box (cellsG Stop.cds r.stops j)) rfl (by simp only [Ob.back, back_cellsG]; rfl) (.inr ⟨e1, cap, j, q1, q2, q3, rfl, rfl⟩)

theorem datas_cells (R : List (Row Int)) (j : Nat) : datas icds 1 R ++ List.replicate j .non = (flatG (fun l : List Int => [ints l]) (R.map Row.l)).map .c ++ List.replicate j .non := by
  congr 1
  induction R with
  | nil => rfl
  | cons r R ih =>
    simp only [datas, List.map_cons] at ih ⊢
    rw [ih]
    rfl
theorem icds_one (a : Int) : (icds a).length = 1 := rfl
theorem rows_one (a : List Int) : ((fun l : List Int => [ints l]) a).length = 1 := rfl
/-- All rows of a copy, and what refers to them, become data. -/
theorem WV_frzD {C : Ctx} {Q : Exit → St → Prop} {v : VC} {env : Nat → AV} {own0 : Nat → Ob} {t : Nat} {y st : AV} {o : Ob} {R : List (Row Int)} {D : List (List Int)} {dcap dj : Nat} (ht : t < 600) (hD : R.map Row.l = D)
    (he : ∀ n ds, 601 ≤ n → frzE n ds env = env) (ho : ∀ n ds, 601 ≤ n → frzO n ds own0 = own0) (hy : ∀ n ds, 601 ≤ n → y.frz n ds = y) (hst : ∀ n ds, 601 ≤ n → st.frz n ds = st) (ho6 : ∀ n ds, 601 ≤ n → o.frz n ds = o)
    (h : WV C v Q ⟨env, upd (upd own0 t (.box [y, .c (driveC D), st])) 600 o⟩) :
    WV C v Q ⟨env, fam 700 icds R (upd (upd (upd own0 t (.box [y, .vw 1 601 0 R.length dcap, st])) 600 o) 601 (.box (refs 700 1 0 R ++ List.replicate dj .non)))⟩ := by
  have hno : ∀ n, 601 ≤ n → own0 n = .none := fun n hn => by
    have := congrFun (ho n [] hn) n
    rw [frzO_app, if_pos rfl] at this
    exact this.symm
  refine WV_frzFam R.length _ _ rfl (fun i _ => ?_) ?_
  · rw [upd_app, if_neg (by omega), upd_app, if_neg (by omega), upd_app, if_neg (by omega), hno _ (by omega)]
  have e1 := frzPs_refs (b := 700) (cds := icds) (sz := 1) (R := R) (t := 601) (own := upd (upd own0 t (.box [y, .vw 1 601 0 R.length dcap, st])) 600 o) (pre := []) (post := List.replicate dj .non) icds_one (by decide)
    (fun n ds hn => by
      rw [frzO_upd, if_neg (by omega), ho6 n ds (by omega), frzO_upd, if_neg (by omega), ho n ds (by omega)]
      simp only [Ob.frz, AV.frzL, AV.frz, hy n ds (by omega), hst n ds (by omega)]
      rw [if_neg (by omega)])
    (fun n ds _ => frz_non n ds dj) R.length (Nat.le_refl _)
  rw [List.take_length, List.drop_length] at e1
  have e2 : refs 700 1 0 R ++ (datas icds 1 ([] : List (Row Int)) ++ List.replicate dj .non) = refs 700 1 0 R ++ List.replicate dj .non := rfl
  rw [e2] at e1
  rw [e1, frzEs_stay (fun n ds hn => he n ds (by omega)), datas_cells, hD]
  refine WV_freezeJ 601 (ds := flatG (fun l : List Int => [ints l]) D) (junk := List.replicate dj .non) (by rw [upd_app, if_pos rfl]) ?_
  rw [he _ _ (Nat.le_refl _), frzO_upd, if_pos rfl, frzO_upd, if_neg (by omega), ho6 _ _ (Nat.le_refl _), frzO_upd, if_neg (by omega), ho _ _ (Nat.le_refl _)]
  simp only [Ob.frz, AV.frzL, AV.frz, hy _ _ (Nat.le_refl 601), hst _ _ (Nat.le_refl 601), if_true]
  have hl : R.length = D.length := by rw [← hD, List.length_map]
  rw [if_pos (by rw [flatG_len rows_one, hl]; omega), List.drop_zero, hl, grp_cellsG rows_one]
  exact h

theorem stop_four (a : Stop) : (Stop.cds a).length = 4 := rfl
theorem stops_split {l : List Stop} {k : Nat} (h : k < l.length) (j : Nat) : cellsG Stop.cds l j = (flatG Stop.cds (l.take k)).map .c ++ ((Stop.cds l[k]).map .c ++ ((flatG Stop.cds (l.drop (k + 1))).map .c ++ List.replicate j .non)) := by
  have e : l = l.take k ++ l[k] :: l.drop (k + 1) := by rw [List.getElem_cons_drop, List.take_append_drop]
  unfold cellsG
  conv => lhs; rw [e]
  rw [flatG_append, flatG_cons, List.map_append, List.map_append, List.append_assoc, List.append_assoc]
theorem stops_put {l : List Stop} {k : Nat} (h : k < l.length) (j : Nat) (a : Stop) : List.take (k * 4) (cellsG Stop.cds l j) ++ ((Stop.cds a).map .c ++ List.drop (k * 4 + 4) (cellsG Stop.cds l j)) = cellsG Stop.cds (l.set k a) j := by
  have hl : ((flatG Stop.cds (l.take k)).map AV.c).length = k * 4 := by rw [List.length_map, flatG_len stop_four, List.length_take]; congr 1; omega
  rw [stops_split h, List.take_left' hl, ← List.drop_drop, List.drop_left' hl, List.drop_left' (by simp [Stop.cds])]
  have h' : k < (l.set k a).length := by simpa using h
  rw [stops_split h']
  rw [List.take_set_of_le (Nat.le_refl k), List.drop_set_of_lt (Nat.lt_succ_self k), List.getElem_set_self]
end Go.Proofs.Ytbejgfpaokcnpaa

namespace Go.Proofs.Ytbejgfpaokcnpaa
open Go Go.V
structure Ease where
  stop : Int
  op : Int
  cl : Int
  st : Int
  start : Int
  frm : Int
  to : Int
  drive : Int
def Ease.av (x : Ease) : AV := .agg [iv x.stop, iv x.op, iv x.cl, iv x.st, iv x.start, iv x.frm, iv x.to, iv x.drive]
def Ease.ok (x : Ease) : Prop := (0 ≤ x.op ∧ x.op ≤ 1440) ∧ (0 ≤ x.cl ∧ x.cl ≤ 1440) ∧ (0 ≤ x.st ∧ x.st ≤ 1440) ∧ (0 ≤ x.start ∧ x.start ≤ 1440) ∧ (0 ≤ x.drive ∧ x.drive ≤ 1440)
end Go.Proofs.Ytbejgfpaokcnpaa

/-
  The program's tours are the reference's: plain.
-/
namespace Go.Proofs.Ytbejgfpaokcnpaa
open Go Go.V

theorem toursR_begin {n : Nat} : ∀ (f : Nat) (t p : List Nat), p ∈ toursR n f t → ∃ l, p = t ++ l
  | 0, t, p, h => by simp only [toursR, List.mem_singleton] at h; exact ⟨[], by simp [h]⟩
  | f + 1, t, p, h => by
    simp only [toursR, List.mem_cons, List.mem_flatMap, List.mem_range] at h
    rcases h with rfl | ⟨k, _, h⟩
    · exact ⟨[], by simp⟩
    · split at h
      · cases h
      · obtain ⟨l, rfl⟩ := toursR_begin f _ p h
        exact ⟨k :: l, by simp⟩
/-- Behind a stop that is missed no tour is good. -/
theorem toursR_bad {r : Route} (f : Nat) (t : List Nat) (h : (ride r (leave r) t).2.1 ≠ none) : (toursR r.n f t).filter (ridden r) = [] := by
  rw [List.filter_eq_nil_iff]
  intro p hp
  obtain ⟨l, rfl⟩ := toursR_begin f t p hp
  unfold ridden
  rw [ride_stop r t _ l h]
  cases hx : (ride r (leave r) t).2.1 with
  | none => exact absurd hx h
  | some k => simp
theorem ext_eq {r : Route} : ∀ (f : Nat) (t : List Nat), (ride r (leave r) t).2.1 = none → (ext r f t (ride r (leave r) t).2.2).map (·.1) = (toursR r.n f t).filter (ridden r)
  | 0, t, h => by simp [ext, toursR, ridden, h]
  | f + 1, t, h => by
    have hr : ridden r t = true := by simp [ridden, h]
    simp only [ext, toursR, List.map_cons, List.filter_cons, hr, if_true, List.map_flatMap, List.filter_flatMap]
    congr 1
    congr 1
    funext k
    by_cases hk : k ∈ t
    · simp [hk]
    · rw [if_neg hk, if_neg hk]
      have hs := ride_snoc r t (leave r) k h
      by_cases hv : (visit r (ride r (leave r) t).2.2 k).2.2 = true
      · rw [if_pos hv] at hs ⊢
        have := ext_eq f (t ++ [k]) (by rw [hs])
        rw [hs] at this
        exact this
      · rw [if_neg hv] at hs ⊢
        rw [toursR_bad f (t ++ [k]) (by rw [hs]; simp)]
        rfl
theorem goods_eq (r : Route) : (goods r).map (·.1) = goodR r false := by
  have := ext_eq (r := r) (r.n + 1) [] rfl
  have e : goodP r false = ridden r := by funext t; simp [goodP]
  unfold goodR allR
  rw [e]
  exact this
theorem wholes_eq (r : Route) : (wholes r).map (·.1) = goodR r true := by
  have h1 : (wholes r).map (·.1) = ((goods r).map (·.1)).filter fun t => !decide (t.length < r.n) := by
    unfold wholes
    rw [List.filter_map]
    rfl
  rw [h1, goods_eq]
  unfold goodR
  rw [List.filter_filter]
  refine List.filter_congr fun t ht => ?_
  have := allR_len ht
  simp only [goodP, Bool.not_false, Bool.true_or, Bool.true_and, Bool.not_true, Bool.false_or]
  congr 1
  rw [Bool.eq_iff_iff]
  simp
  omega
/-- The van behind the last stop is that of the ride. -/
theorem ext_ride {r : Route} : ∀ (f : Nat) (t : List Nat), (ride r (leave r) t).2.1 = none → ∀ p ∈ ext r f t (ride r (leave r) t).2.2, (ride r (leave r) p.1).2.1 = none ∧ p.2 = (ride r (leave r) p.1).2.2
  | 0, t, h, p, hp => by simp only [ext, List.mem_singleton] at hp; subst hp; exact ⟨h, rfl⟩
  | f + 1, t, h, p, hp => by
    simp only [ext, List.mem_cons, List.mem_flatMap, List.mem_range] at hp
    rcases hp with rfl | ⟨k, _, hp⟩
    · exact ⟨h, rfl⟩
    · split at hp
      · cases hp
      · split at hp
        · rename_i hv
          have hs := ride_snoc r t (leave r) k h
          rw [if_pos hv] at hs
          have := ext_ride f (t ++ [k]) (by rw [hs]) p
          rw [hs] at this
          exact this hp
        · cases hp
theorem goods_ride {r : Route} : ∀ p ∈ goods r, (ride r (leave r) p.1).2.1 = none ∧ p.2 = (ride r (leave r) p.1).2.2 := ext_ride (r := r) (r.n + 1) [] rfl
end Go.Proofs.Ytbejgfpaokcnpaa

/-
  Least and greatest: the program's answers are the reference's: plain.
-/
namespace Go.Proofs.Ytbejgfpaokcnpaa
open Go Go.V

theorem less_min : ∀ (l : List Int) (b : Int), 0 ≤ b → (∀ n ∈ l, 0 ≤ n) → l.foldl lessS b = l.foldl min b
  | [], b, _, _ => rfl
  | n :: l, b, hb, h => by
    have hn := h n (by simp)
    have e : lessS b n = min b n := by unfold lessS; split <;> omega
    simp only [List.foldl_cons, e]
    exact less_min l _ (by omega) fun m hm => h m (by simp [hm])
theorem least_min (f : List Nat → Int) (L : List (List Nat)) (hL : L ≠ []) (h : ∀ t ∈ L, 0 ≤ f t) : leastS (L.map f) = minS f L L.length := by
  cases L with
  | nil => exact absurd rfl hL
  | cons t L =>
    have ht := h t (by simp)
    unfold leastS minS
    rw [List.take_length]
    simp only [List.map_cons, List.foldl_cons, List.getD_cons_zero]
    have e : lessS (-1) (f t) = f t := by unfold lessS; rw [if_pos (by omega)]
    rw [e, less_min _ _ ht (by
      intro n hn
      obtain ⟨u, hu, rfl⟩ := List.mem_map.1 hn
      exact h u (by simp [hu])), List.foldl_map, Int.min_self]
theorem shortB_one (r : Route) (l : List (List Nat × Van)) : (shortB r l).1 = leastS (l.map fun p => (atHome r p).long) := by
  have h : ∀ (l : List (List Nat × Van)) (s : Int × Option (List Nat)), (l.foldl (fun s p => shortT s (atHome r p).long p.1) s).1 = (l.map fun p => (atHome r p).long).foldl lessS s.1 := by
    intro l
    induction l with
    | nil => intro s; rfl
    | cons p l ih =>
      intro s
      simp only [List.foldl_cons, List.map_cons]
      rw [ih]
      congr 1
      unfold shortT lessS
      split <;> rfl
  exact h l _
theorem someE_eq (r : Route) : someE r = errR r := by
  unfold someE errR
  rw [← wholes_eq]
  cases r.ok
  · rfl
  · by_cases h : wholes r = [] <;> simp [h]
theorem ride_long (r : Route) : ∀ (t : List Nat) (v : Van), (ride r v t).2.1 = none → t.foldl (fun s k => (k, s.2 + r.d s.1 k)) (v.at_, v.long) = ((ride r v t).2.2.at_, (ride r v t).2.2.long)
  | [], v, _ => rfl
  | k :: t, v, h => by
    simp only [ride] at h ⊢
    by_cases hv : (visit r v k).2.2 = true
    · simp only [hv, if_true] at h ⊢
      have ih := ride_long r t (visit r v k).1 h
      rw [List.foldl_cons, ← ih]
      congr 1
      unfold visit at hv ⊢
      split at hv
      · cases hv
      · rename_i hc
        rw [if_neg hc]
        rfl
    · simp [hv] at h
theorem atHome_eq {r : Route} (hr : RouteOk r) {p : List Nat × Van} (hp : p ∈ goods r) : (atHome r p).now = (goS r p.1).2.2 ∧ (atHome r p).long = longS r p.1 := by
  obtain ⟨h1, h2⟩ := goods_ride p hp
  have hl := ride_long r p.1 (leave r) h1
  have hh := home_back hr p.1 (w := (ride r (leave r) p.1).2.2) (ts := (ride r (leave r) p.1).1) (by rw [← h1])
  unfold atHome
  rw [h2]
  refine ⟨?_, ?_⟩
  · rw [hh.1]
    unfold goS
    revert h1
    generalize ride r (leave r) p.1 = x
    obtain ⟨x1, x2, x3⟩ := x
    intro h1
    simp only at h1
    subst h1
    rfl
  · rw [hh.2]
    unfold longS longP
    have e : ((leave r).at_, (leave r).long) = (r.n, (0 : Int)) := rfl
    rw [e] at hl
    rw [hl]
theorem atHome_pos {r : Route} (hr : RouteOk r) {p : List Nat × Van} (hp : p ∈ goods r) : 0 ≤ (atHome r p).now ∧ 0 ≤ (atHome r p).long := by
  have hv := (goods_ok hr p hp).2.2
  have h1 := hv.now
  have h2 := hv.long
  have hc := hr.cell p.2.at_ r.n hv.at_ (Nat.lt_succ_self _)
  unfold atHome home
  split
  · exact ⟨h1.1, h2.1⟩
  · simp only [drv]; omega
theorem wholes_goods {r : Route} {p : List Nat × Van} (hp : p ∈ wholes r) : p ∈ goods r := (List.mem_filter.1 hp).1

theorem soon_eq (r : Route) : soonS r = rsoonS r := by
  unfold soonS rsoonS
  rw [someE_eq]
  by_cases h : errR r = 0
  · rw [if_pos h, if_pos h]
    obtain ⟨hr, _, hlen⟩ := errR_eq h
    have e : ((wholes r).map fun p => (atHome r p).now) = (goodR r true).map fun t => (goS r t).2.2 := by
      rw [← wholes_eq, List.map_map]
      exact List.map_congr_left fun p hp => (atHome_eq hr (wholes_goods hp)).1
    rw [e, least_min _ _ (List.length_pos_iff.1 hlen)]
    intro t ht
    rw [← wholes_eq] at ht
    obtain ⟨p, hp, rfl⟩ := List.mem_map.1 ht
    rw [← (atHome_eq hr (wholes_goods hp)).1]
    exact (atHome_pos hr (wholes_goods hp)).1
  · rw [if_neg h, if_neg h]
theorem shortest_eq (r : Route) : shortestS r = rshortS r := by
  unfold shortestS rshortS
  rw [someE_eq]
  by_cases h : errR r = 0
  · rw [if_pos h, if_pos h]
    obtain ⟨hr, _, hlen⟩ := errR_eq h
    have e : ((wholes r).map fun p => (atHome r p).long) = (goodR r true).map (longS r) := by
      rw [← wholes_eq, List.map_map]
      exact List.map_congr_left fun p hp => (atHome_eq hr (wholes_goods hp)).2
    rw [shortB_one, e, least_min _ _ (List.length_pos_iff.1 hlen)]
    intro t ht
    rw [← wholes_eq] at ht
    obtain ⟨p, hp, rfl⟩ := List.mem_map.1 ht
    rw [← (atHome_eq hr (wholes_goods hp)).2]
    exact (atHome_pos hr (wholes_goods hp)).2
  · rw [if_neg h, if_neg h]
theorem most_eq (r : Route) : mostS r = rmostS r := by
  unfold mostS rmostS
  cases r.ok
  · rfl
  · simp only [if_true, mostB, rmostB]
    rw [← goods_eq, List.foldl_map, List.foldl_map]
end Go.Proofs.Ytbejgfpaokcnpaa

/-
  What Way returns, and Shut: plain.
-/
namespace Go.Proofs.Ytbejgfpaokcnpaa
open Go Go.V

end Go.Proofs.Ytbejgfpaokcnpaa

/-
  The latest start: a tour is good from a start just if this is not above what leavesS says; and Latest is the reference's: plain.
-/
namespace Go.Proofs.Ytbejgfpaokcnpaa
open Go Go.V

/-- Within reach: the first visit begins in time. -/
def inReach (r : Route) (a : Nat) (m : Int) : List Nat → Prop
  | [] => True
  | k :: ks => ∃ b, backL r (k :: ks) = some b ∧ m + r.d a k ≤ b
theorem ride_reach {r : Route} (hr : RouteOk r) : ∀ (t : List Nat) (v : Van), (∀ k ∈ t, k < r.n) → ((ride r v t).2.1 = none ↔ inReach r v.at_ v.now t)
  | [], v, _ => by simp [ride, inReach]
  | [k], v, _ => by
    simp only [ride, inReach, backL, Option.some.injEq, exists_eq_left']
    unfold visit
    by_cases h : (r.s k).cl < (drv r v k).now
    · simp only [h, if_true]
      simp [drv] at h ⊢; omega
    · simp only [h, if_false]
      simp [drv] at h ⊢; omega
  | k :: k' :: ks, v, hk => by
    have ih := ride_reach hr (k' :: ks) (visit r v k).1 (fun j hj => hk j (by simp [hj]))
    have hs := hr.stop k (hk k (by simp))
    simp only [inReach] at ih ⊢
    rw [ride]
    by_cases h : (r.s k).cl < (drv r v k).now
    · have e : (visit r v k).2.2 = false := by unfold visit; rw [if_pos h]
      rw [e]
      simp only [Bool.false_eq_true, if_false, reduceCtorEq, false_iff]
      rintro ⟨b, hb, hle⟩
      simp only [backL] at hb
      split at hb
      · cases hb
      · split at hb
        · cases hb
        · simp only [Option.some.injEq] at hb
          simp only [drv] at h
          omega
    · have e : (visit r v k).2.2 = true := by unfold visit; rw [if_neg h]
      have e1 : (visit r v k).1.at_ = k := by unfold visit; rw [if_neg h]; rfl
      have e2 : (visit r v k).1.now = max (v.now + r.d v.at_ k) (r.s k).op + (r.s k).st := by unfold visit; rw [if_neg h]; rfl
      rw [e1, e2] at ih
      rw [if_pos e]
      refine Iff.trans ?_ (ih.trans ?_)
      · rfl
      simp only [drv] at h
      cases hb : backL r (k' :: ks) with
      | none => simp [backL, hb]
      | some b =>
        simp only [Option.some.injEq, exists_eq_left', backL, hb]
        split
        · simp; omega
        · simp only [Option.some.injEq, exists_eq_left']
          omega

def setS (r : Route) (s : Int) : Route := { r with start := s }
theorem setS_ok {r : Route} (hr : RouteOk r) {s : Int} (h : 0 ≤ s ∧ s ≤ 1440) : RouteOk (setS r s) := ⟨hr.n7, hr.dl, h, hr.stop, hr.row, hr.cell, hr.diag⟩
theorem backL_setS (r : Route) (s : Int) : ∀ t, backL (setS r s) t = backL r t
  | [] => rfl
  | [k] => rfl
  | k :: k' :: ks => by simp only [backL]; rw [backL_setS r s (k' :: ks)]; rfl
theorem ridden_setS {r : Route} (hr : RouteOk r) {s : Int} (hs : 0 ≤ s ∧ s ≤ 1440) {t : List Nat} (ht : ∀ k ∈ t, k < r.n) : ridden (setS r s) t = true ↔ s ≤ leavesS r t := by
  have h := ride_reach (setS_ok hr hs) t (leave (setS r s)) ht
  have e : ridden (setS r s) t = true ↔ (ride (setS r s) (leave (setS r s)) t).2.1 = none := by
    unfold ridden
    cases (ride (setS r s) (leave (setS r s)) t).2.1 <;> simp
  rw [e, h]
  unfold leavesS
  cases t with
  | nil => simp [inReach, backL]; omega
  | cons k ks =>
    simp only [inReach]
    rw [backL_setS]
    cases hb : backL r (k :: ks) with
    | none => simp; omega
    | some b =>
      simp only [Option.some.injEq, exists_eq_left']
      have : (leave (setS r s)).now = s := rfl
      have e2 : (setS r s).d (leave (setS r s)).at_ k = r.d r.n k := rfl
      rw [this, e2]
      omega
theorem max_fold : ∀ (l : List Int) (b n : Int), n ≤ l.foldl max b ↔ n ≤ b ∨ ∃ x ∈ l, n ≤ x
  | [], b, n => by simp
  | x :: l, b, n => by
    rw [List.foldl_cons, max_fold l]
    constructor
    · rintro (h | ⟨y, hy, h⟩)
      · by_cases hb : n ≤ b
        · exact .inl hb
        · exact .inr ⟨x, by simp, by omega⟩
      · exact .inr ⟨y, by simp [hy], h⟩
    · rintro (h | ⟨y, hy, h⟩)
      · exact .inl (by omega)
      · rcases List.mem_cons.1 hy with rfl | hy
        · exact .inl (by omega)
        · exact .inr ⟨y, hy, h⟩
/-- There is a whole tour that is good from this start. -/
def hasW (r : Route) (s : Int) : Prop := ∃ t ∈ allR r, t.length = r.n ∧ s ≤ leavesS r t
theorem goodR_setS {r : Route} (hr : RouteOk r) {s : Int} (hs : 0 ≤ s ∧ s ≤ 1440) {t : List Nat} : t ∈ goodR (setS r s) true ↔ t ∈ allR r ∧ t.length = r.n ∧ s ≤ leavesS r t := by
  unfold goodR
  rw [List.mem_filter]
  have e : allR (setS r s) = allR r := rfl
  have en : (setS r s).n = r.n := rfl
  rw [e]
  refine and_congr_right fun ht => ?_
  have := ridden_setS hr hs (allR_ok _ ht).2
  simp only [goodP, Bool.not_true, Bool.false_or, Bool.and_eq_true, beq_iff_eq, en]
  rw [this]
theorem latestB_has {r : Route} (hr : RouteOk r) {s : Int} (hs : 0 ≤ s) : s ≤ latestB r (wholes (zero r)) ↔ hasW r s := by
  have e : ((wholes (zero r)).map fun p => leavesS r p.1) = (goodR (zero r) true).map (leavesS r) := by
    rw [← wholes_eq, List.map_map]; rfl
  unfold latestB
  rw [e, max_fold]
  have ez : zero r = setS r 0 := rfl
  rw [ez]
  constructor
  · rintro (h | ⟨x, hx, h4⟩)
    · omega
    · obtain ⟨t, ht, rfl⟩ := List.mem_map.1 hx
      obtain ⟨h1, h2, _⟩ := (goodR_setS hr (s := 0) (by omega)).1 ht
      exact ⟨t, h1, h2, h4⟩
  · rintro ⟨t, h1, h2, h4⟩
    exact .inr ⟨_, List.mem_map.2 ⟨t, (goodR_setS hr (s := 0) (by omega)).2 ⟨h1, h2, by omega⟩, rfl⟩, h4⟩
theorem rlatB_has {r : Route} {s : Int} (hs : 0 ≤ s) : s ≤ rlatB r (allR r) ↔ hasW r s := by
  have h : ∀ (l : List (List Nat)) (b : Int), s ≤ l.foldl (lateF r) b ↔ s ≤ b ∨ ∃ t ∈ l, t.length = r.n ∧ s ≤ leavesS r t := by
    intro l
    induction l with
    | nil => intro b; simp
    | cons t l ih =>
      intro b
      rw [List.foldl_cons, ih]
      have e : s ≤ lateF r b t ↔ s ≤ b ∨ (t.length = r.n ∧ s ≤ leavesS r t) := by
        unfold lateF
        split
        · rename_i hl
          simp only [hl, true_and]
          omega
        · rename_i hl
          simp only [hl, false_and, or_false]
      rw [e]
      constructor
      · rintro ((h | h) | ⟨u, hu, h⟩)
        · exact .inl h
        · exact .inr ⟨t, by simp, h⟩
        · exact .inr ⟨u, by simp [hu], h⟩
      · rintro (h | ⟨u, hu, h⟩)
        · exact .inl (.inl h)
        · rcases List.mem_cons.1 hu with rfl | hu
          · exact .inl (.inr h)
          · exact .inr ⟨u, hu, h⟩
  unfold rlatB hasW
  rw [h]
  constructor
  · rintro (h | h)
    · omega
    · exact h
  · exact .inr
theorem fold_low (f : Int → List Nat → Int) (hf : ∀ b t, b ≤ f b t) : ∀ (l : List (List Nat)) (b : Int), b ≤ l.foldl f b
  | [], b => Int.le_refl _
  | t :: l, b => Int.le_trans (hf b t) (fold_low f hf l _)
theorem late_eq {r : Route} (hr : RouteOk r) : latestB r (wholes (zero r)) = rlatB r (allR r) := by
  have h1 : -1 ≤ latestB r (wholes (zero r)) := (max_fold _ _ _).2 (.inl (Int.le_refl _))
  have h2 : -1 ≤ rlatB r (allR r) := fold_low (lateF r) (fun b t => by unfold lateF; split <;> omega) _ _
  refine Int.le_antisymm ?_ ?_
  · by_cases h : latestB r (wholes (zero r)) = -1
    · omega
    · exact (rlatB_has (by omega)).2 ((latestB_has hr (by omega)).1 (Int.le_refl _))
  · by_cases h : rlatB r (allR r) = -1
    · omega
    · exact (latestB_has hr (by omega)).2 ((rlatB_has (by omega)).1 (Int.le_refl _))
theorem latest_eq (r : Route) : latestS r = rlatS r := by
  unfold latestS rlatS
  by_cases h : r.ok = true
  · simp only [h, if_true]
    rw [late_eq (Route.ok_spec h)]
  · simp only [h, if_false]; rfl
end Go.Proofs.Ytbejgfpaokcnpaa
