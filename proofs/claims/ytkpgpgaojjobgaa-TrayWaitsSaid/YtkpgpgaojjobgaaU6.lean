/-
  Contracts of the layer's functions, of the laws' helpers and of the law; conditions: as each theorem states.
-/
import Derived.Test.YtkpgpgaojjobgaaU5
import Derived.Test.YtkpgpgaojjobgaaU4
set_option linter.unusedVariables false
set_option linter.unusedSimpArgs false
namespace Go.Proofs.Ytkpgpgaojjobgaa
open Go Go.V
@[reducible] def o30_0 : List Ins := [⟨(some 2), .box 5 (.t 0), none, true⟩,
  ⟨(some 3), .box 5 (.t 1), none, true⟩,
  ⟨(some 4), .mv (.k (.c (.bool false))), none, true⟩]
@[reducible] def o30_1 : List Ins := [⟨(some 7), .fa 1 (.t 2), none, true⟩,
  ⟨(some 8), .ld true 1 (.t 7), none, true⟩,
  ⟨(some 9), .fa 1 (.t 3), none, true⟩,
  ⟨(some 10), .ld true 1 (.t 9), none, true⟩,
  ⟨(some 11), .bin .neq (.t 8) (.t 10), none, true⟩,
  ⟨(some 12), .mv (.t 11), none, true⟩,
  ⟨(some 13), .fa 2 (.t 2), (some (12, false)), true⟩,
  ⟨(some 14), .ld true 1 (.t 13), (some (12, false)), true⟩,
  ⟨(some 15), .fa 2 (.t 3), (some (12, false)), true⟩,
  ⟨(some 16), .ld true 1 (.t 15), (some (12, false)), true⟩,
  ⟨(some 17), .bin .neq (.t 14) (.t 16), (some (12, false)), true⟩,
  ⟨(some 18), .pick (.t 12) (.k (.c (.bool true))) (.t 17), none, true⟩,
  ⟨(some 19), .mv (.t 18), none, true⟩,
  ⟨(some 20), .fa 3 (.t 2), (some (19, false)), true⟩,
  ⟨(some 21), .ld true 1 (.t 20), (some (19, false)), true⟩,
  ⟨(some 22), .fa 3 (.t 3), (some (19, false)), true⟩,
  ⟨(some 23), .ld true 1 (.t 22), (some (19, false)), true⟩,
  ⟨(some 24), .bin .neq (.t 21) (.t 23), (some (19, false)), true⟩,
  ⟨(some 25), .pick (.t 19) (.k (.c (.bool true))) (.t 24), none, true⟩,
  ⟨(some 26), .mv (.t 25), none, true⟩,
  ⟨(some 27), .fa 0 (.t 2), (some (26, false)), true⟩,
  ⟨(some 28), .ld true 1 (.t 27), (some (26, false)), true⟩,
  ⟨(some 29), .len (.t 28), (some (26, false)), true⟩,
  ⟨(some 30), .fa 0 (.t 3), (some (26, false)), true⟩,
  ⟨(some 31), .ld true 1 (.t 30), (some (26, false)), true⟩,
  ⟨(some 32), .len (.t 31), (some (26, false)), true⟩,
  ⟨(some 33), .bin .neq (.t 29) (.t 32), (some (26, false)), true⟩,
  ⟨(some 34), .pick (.t 26) (.k (.c (.bool true))) (.t 33), none, true⟩,
  ⟨(some 35), .mv (.t 34), none, true⟩,
  ⟨(some 36), .fa 4 (.t 2), (some (35, false)), true⟩,
  ⟨(some 37), .ld true 1 (.t 36), (some (35, false)), true⟩,
  ⟨(some 38), .len (.t 37), (some (35, false)), true⟩,
  ⟨(some 39), .fa 4 (.t 3), (some (35, false)), true⟩,
  ⟨(some 40), .ld true 1 (.t 39), (some (35, false)), true⟩,
  ⟨(some 41), .len (.t 40), (some (35, false)), true⟩,
  ⟨(some 42), .bin .neq (.t 38) (.t 41), (some (35, false)), true⟩,
  ⟨(some 43), .pick (.t 35) (.k (.c (.bool true))) (.t 42), none, true⟩]
@[reducible] def o30_2 : List Ins := [⟨(some 4), .mv (.k (.c (.bool false))), none, true⟩]
@[reducible] def v30_3 : VC := (.seq (.ops o30_2) .ret)
@[reducible] def v30_4 : VC := (.cond (.t 43) v30_3 .skip)
@[reducible] def o30_5 : List Ins := [⟨(some 5), .mv (.k (.c (.int .i64 0))), none, true⟩]
@[reducible] def o30_6 : List Ins := [⟨(some 44), .mv (.t 5), none, true⟩,
  ⟨(some 45), .fa 0 (.t 2), none, true⟩,
  ⟨(some 46), .ld true 1 (.t 45), none, true⟩,
  ⟨(some 47), .len (.t 46), none, true⟩,
  ⟨(some 48), .bin .lss (.t 44) (.t 47), none, true⟩]
@[reducible] def v30_7 : VC := (.cond (.t 48) .skip (.exit 0))
@[reducible] def o30_8 : List Ins := [⟨(some 51), .fa 0 (.t 2), none, false⟩,
  ⟨(some 52), .ld true 1 (.t 51), none, false⟩,
  ⟨(some 53), .mv (.t 5), none, false⟩,
  ⟨(some 54), .ia 2 (.t 52) (.t 53), none, false⟩,
  ⟨(some 55), .ld false 2 (.t 54), none, false⟩,
  ⟨(some 56), .fa 0 (.t 3), none, false⟩,
  ⟨(some 57), .ld true 1 (.t 56), none, false⟩,
  ⟨(some 58), .mv (.t 5), none, false⟩,
  ⟨(some 59), .ia 2 (.t 57) (.t 58), none, false⟩,
  ⟨(some 60), .ld false 2 (.t 59), none, false⟩,
  ⟨(some 61), .seq true [(0, true), (1, true)] (.t 55) (.t 60), none, true⟩]
@[reducible] def o30_9 : List Ins := [⟨(some 4), .mv (.k (.c (.bool false))), none, true⟩]
@[reducible] def v30_10 : VC := (.seq (.ops o30_9) .ret)
@[reducible] def v30_11 : VC := (.cond (.t 61) v30_10 .skip)
@[reducible] def v30_12 : VC := (.seq (.ops o30_8) v30_11)
@[reducible] def o30_13 : List Ins := [⟨(some 49), .mv (.t 5), none, true⟩,
  ⟨(some 50), .bin .add (.t 49) (.k (.c (.int .i64 1))), none, true⟩,
  ⟨(some 5), .mv (.t 50), none, true⟩]
@[reducible] def v30_14 : VC := (.seq (.block 1 v30_12) (.ops o30_13))
@[reducible] def v30_15 : VC := (.seq (.seq (.ops o30_6) v30_7) v30_14)
-- K30_1: changed and kept: [5]
@[reducible] def K30_1 : List Nat := [2, 3]
@[reducible] def v30_16 : VC := (.loop v30_15)
@[reducible] def v30_17 : VC := (.block 0 v30_16)
@[reducible] def o30_18 : List Ins := [⟨(some 6), .mv (.k (.c (.int .i64 0))), none, true⟩]
@[reducible] def o30_19 : List Ins := [⟨(some 62), .mv (.t 6), none, true⟩,
  ⟨(some 63), .fa 4 (.t 2), none, true⟩,
  ⟨(some 64), .ld true 1 (.t 63), none, true⟩,
  ⟨(some 65), .len (.t 64), none, true⟩,
  ⟨(some 66), .bin .lss (.t 62) (.t 65), none, true⟩]
@[reducible] def v30_20 : VC := (.cond (.t 66) .skip (.exit 2))
@[reducible] def o30_21 : List Ins := [⟨(some 69), .fa 4 (.t 2), none, false⟩,
  ⟨(some 70), .ld true 1 (.t 69), none, false⟩,
  ⟨(some 71), .mv (.t 6), none, false⟩,
  ⟨(some 72), .ia 2 (.t 70) (.t 71), none, false⟩,
  ⟨(some 73), .ld false 2 (.t 72), none, false⟩,
  ⟨(some 74), .fa 4 (.t 3), none, false⟩,
  ⟨(some 75), .ld true 1 (.t 74), none, false⟩,
  ⟨(some 76), .mv (.t 6), none, false⟩,
  ⟨(some 77), .ia 2 (.t 75) (.t 76), none, false⟩,
  ⟨(some 78), .ld false 2 (.t 77), none, false⟩,
  ⟨(some 79), .seq true [(0, true), (1, true)] (.t 73) (.t 78), none, true⟩]
@[reducible] def o30_22 : List Ins := [⟨(some 4), .mv (.k (.c (.bool false))), none, true⟩]
@[reducible] def v30_23 : VC := (.seq (.ops o30_22) .ret)
@[reducible] def v30_24 : VC := (.cond (.t 79) v30_23 .skip)
@[reducible] def v30_25 : VC := (.seq (.ops o30_21) v30_24)
@[reducible] def o30_26 : List Ins := [⟨(some 67), .mv (.t 6), none, true⟩,
  ⟨(some 68), .bin .add (.t 67) (.k (.c (.int .i64 1))), none, true⟩,
  ⟨(some 6), .mv (.t 68), none, true⟩]
@[reducible] def v30_27 : VC := (.seq (.block 3 v30_25) (.ops o30_26))
@[reducible] def v30_28 : VC := (.seq (.seq (.ops o30_19) v30_20) v30_27)
-- K30_2: changed and kept: [6]
@[reducible] def K30_2 : List Nat := [2, 3]
@[reducible] def v30_29 : VC := (.loop v30_28)
@[reducible] def v30_30 : VC := (.block 2 v30_29)
@[reducible] def o30_31 : List Ins := [⟨(some 4), .mv (.k (.c (.bool true))), none, true⟩]
@[reducible] def v30_32 : VC := (.seq (.ops o30_31) .ret)
@[reducible] def v30_33 : VC := (.seq (.seq (.ops o30_18) v30_30) v30_32)
@[reducible] def v30_34 : VC := (.seq (.seq (.ops o30_5) v30_17) v30_33)
@[reducible] def v30_35 : VC := (.seq (.seq (.ops o30_1) v30_4) v30_34)
def ir30 : FC := ⟨2, 80, [.t 4], (.seq (.ops o30_0) v30_35)⟩
@[reducible] def o15_0 : List Ins := [⟨(some 2), .box 5 (.t 0), none, true⟩,
  ⟨(some 4), .mv (.k (.c (.bool false))), none, true⟩]
@[reducible] def o15_1 : List Ins := [⟨(some 14), .ld false 5 (.t 2), none, true⟩,
  ⟨(some 15), .call (.k (.fn 28 [])) [(.t 14)], none, true⟩]
@[reducible] def o15_2 : List Ins := [⟨(some 16), .call (.k (.fn 19 [])) [], none, true⟩,
  ⟨(some 4), .mv (.t 16), none, true⟩]
@[reducible] def v15_3 : VC := (.seq (.ops o15_2) .ret)
@[reducible] def v15_4 : VC := (.cond (.t 15) v15_3 .skip)
@[reducible] def o15_5 : List Ins := [⟨(some 17), .ld false 5 (.t 2), none, true⟩,
  ⟨(some 18), .call (.k (.fn 20 [])) [(.t 17)], none, true⟩,
  ⟨(some 5), .alloc [(.c (.raw (.slice none 0 0))), (.c (.int .i64 0)), (.c (.int .i64 0)), (.c (.int .i64 0)), (.c (.raw (.slice none 0 0)))], none, true⟩,
  ⟨none, .st 5 (.t 5) (.t 18), none, true⟩]
@[reducible] def o15_6 : List Ins := [⟨(some 20), .ld false 5 (.t 5), none, true⟩,
  ⟨(some 21), .mv (.t 1), none, true⟩,
  ⟨(some 22), .call (.k (.fn 33 [])) [(.t 20), (.t 21)], none, true⟩,
  ⟨(some 19), .mv (.t 22), none, true⟩,
  ⟨(some 23), .ext (.t 19) 0, none, true⟩,
  ⟨(some 24), .ext (.t 19) 1, none, true⟩,
  ⟨(some 6), .mv (.t 23), none, true⟩,
  ⟨(some 7), .mv (.t 24), none, true⟩]
@[reducible] def o15_7 : List Ins := [⟨(some 26), .ld false 5 (.t 2), none, true⟩,
  ⟨(some 27), .mv (.t 1), none, true⟩,
  ⟨(some 28), .call (.k (.fn 47 [])) [(.t 26), (.t 27)], none, true⟩,
  ⟨(some 25), .mv (.t 28), none, true⟩,
  ⟨(some 29), .ext (.t 25) 0, none, true⟩,
  ⟨(some 30), .ext (.t 25) 1, none, true⟩,
  ⟨(some 8), .mv (.t 29), none, true⟩,
  ⟨(some 9), .mv (.t 30), none, true⟩]
@[reducible] def o15_8 : List Ins := [⟨(some 32), .ld false 5 (.t 5), none, true⟩,
  ⟨(some 33), .mv (.t 1), none, true⟩,
  ⟨(some 34), .call (.k (.fn 27 [])) [(.t 32), (.t 33)], none, true⟩,
  ⟨(some 31), .mv (.t 34), none, true⟩,
  ⟨(some 35), .ext (.t 31) 0, none, true⟩,
  ⟨(some 36), .ext (.t 31) 1, none, true⟩,
  ⟨(some 10), .mv (.t 35), none, true⟩,
  ⟨(some 11), .mv (.t 36), none, true⟩]
@[reducible] def o15_9 : List Ins := [⟨(some 38), .ld false 5 (.t 2), none, true⟩,
  ⟨(some 39), .mv (.t 1), none, true⟩,
  ⟨(some 40), .call (.k (.fn 48 [])) [(.t 38), (.t 39)], none, true⟩,
  ⟨(some 37), .mv (.t 40), none, true⟩,
  ⟨(some 41), .ext (.t 37) 0, none, true⟩,
  ⟨(some 42), .ext (.t 37) 1, none, true⟩,
  ⟨(some 12), .mv (.t 41), none, true⟩,
  ⟨(some 13), .mv (.t 42), none, true⟩]
@[reducible] def o15_10 : List Ins := [⟨(some 43), .mv (.t 6), none, true⟩,
  ⟨(some 44), .mv (.t 8), none, true⟩,
  ⟨(some 45), .bin .neq (.t 43) (.t 44), none, true⟩,
  ⟨(some 46), .mv (.t 45), none, true⟩,
  ⟨(some 47), .mv (.t 7), (some (46, false)), true⟩,
  ⟨(some 48), .mv (.t 9), (some (46, false)), true⟩,
  ⟨(some 49), .bin .neq (.t 47) (.t 48), (some (46, false)), true⟩,
  ⟨(some 50), .pick (.t 46) (.k (.c (.bool true))) (.t 49), none, true⟩,
  ⟨(some 51), .mv (.t 50), none, true⟩,
  ⟨(some 52), .mv (.t 10), (some (51, false)), true⟩,
  ⟨(some 53), .mv (.t 12), (some (51, false)), true⟩,
  ⟨(some 54), .bin .neq (.t 52) (.t 53), (some (51, false)), true⟩,
  ⟨(some 55), .pick (.t 51) (.k (.c (.bool true))) (.t 54), none, true⟩,
  ⟨(some 56), .mv (.t 55), none, true⟩,
  ⟨(some 57), .mv (.t 11), (some (56, false)), true⟩,
  ⟨(some 58), .mv (.t 13), (some (56, false)), true⟩,
  ⟨(some 59), .bin .neq (.t 57) (.t 58), (some (56, false)), true⟩,
  ⟨(some 60), .pick (.t 56) (.k (.c (.bool true))) (.t 59), none, true⟩]
@[reducible] def o15_11 : List Ins := [⟨(some 4), .mv (.k (.c (.bool false))), none, true⟩]
@[reducible] def v15_12 : VC := (.seq (.ops o15_11) .ret)
@[reducible] def v15_13 : VC := (.cond (.t 60) v15_12 .skip)
@[reducible] def o15_14 : List Ins := [⟨(some 62), .ld false 5 (.t 5), none, true⟩,
  ⟨(some 63), .call (.k (.fn 49 [])) [(.t 62)], none, true⟩,
  ⟨(some 61), .mv (.t 63), none, true⟩,
  ⟨(some 64), .ext (.t 61) 0, none, true⟩,
  ⟨(some 65), .ext (.t 61) 1, none, true⟩,
  ⟨(some 6), .mv (.t 64), none, true⟩,
  ⟨(some 7), .mv (.t 65), none, true⟩]
@[reducible] def o15_15 : List Ins := [⟨(some 67), .ld false 5 (.t 2), none, true⟩,
  ⟨(some 68), .call (.k (.fn 50 [])) [(.t 67)], none, true⟩,
  ⟨(some 66), .mv (.t 68), none, true⟩,
  ⟨(some 69), .ext (.t 66) 0, none, true⟩,
  ⟨(some 70), .ext (.t 66) 1, none, true⟩,
  ⟨(some 8), .mv (.t 69), none, true⟩,
  ⟨(some 9), .mv (.t 70), none, true⟩]
@[reducible] def o15_16 : List Ins := [⟨(some 72), .ld false 5 (.t 5), none, true⟩,
  ⟨(some 73), .call (.k (.fn 38 [])) [(.t 72)], none, true⟩,
  ⟨(some 71), .mv (.t 73), none, true⟩,
  ⟨(some 74), .ext (.t 71) 0, none, true⟩,
  ⟨(some 75), .ext (.t 71) 1, none, true⟩,
  ⟨(some 10), .mv (.t 74), none, true⟩,
  ⟨(some 11), .mv (.t 75), none, true⟩]
@[reducible] def o15_17 : List Ins := [⟨(some 77), .ld false 5 (.t 2), none, true⟩,
  ⟨(some 78), .call (.k (.fn 46 [])) [(.t 77)], none, true⟩,
  ⟨(some 76), .mv (.t 78), none, true⟩,
  ⟨(some 79), .ext (.t 76) 0, none, true⟩,
  ⟨(some 80), .ext (.t 76) 1, none, true⟩,
  ⟨(some 12), .mv (.t 79), none, true⟩,
  ⟨(some 13), .mv (.t 80), none, true⟩]
@[reducible] def o15_18 : List Ins := [⟨(some 81), .mv (.t 6), none, true⟩,
  ⟨(some 82), .mv (.t 8), none, true⟩,
  ⟨(some 83), .bin .eql (.t 81) (.t 82), none, true⟩,
  ⟨(some 84), .mv (.t 83), none, true⟩,
  ⟨(some 85), .mv (.t 7), (some (84, true)), true⟩,
  ⟨(some 86), .mv (.t 9), (some (84, true)), true⟩,
  ⟨(some 87), .bin .eql (.t 85) (.t 86), (some (84, true)), true⟩,
  ⟨(some 88), .pick (.t 84) (.t 87) (.k (.c (.bool false))), none, true⟩,
  ⟨(some 89), .mv (.t 88), none, true⟩,
  ⟨(some 90), .mv (.t 10), (some (89, true)), true⟩,
  ⟨(some 91), .mv (.t 12), (some (89, true)), true⟩,
  ⟨(some 92), .bin .eql (.t 90) (.t 91), (some (89, true)), true⟩,
  ⟨(some 93), .pick (.t 89) (.t 92) (.k (.c (.bool false))), none, true⟩,
  ⟨(some 94), .mv (.t 93), none, true⟩,
  ⟨(some 95), .mv (.t 11), (some (94, true)), true⟩,
  ⟨(some 96), .mv (.t 13), (some (94, true)), true⟩,
  ⟨(some 97), .bin .eql (.t 95) (.t 96), (some (94, true)), true⟩,
  ⟨(some 98), .pick (.t 94) (.t 97) (.k (.c (.bool false))), none, true⟩,
  ⟨(some 99), .mv (.t 98), none, true⟩,
  ⟨(some 100), .ld false 5 (.t 5), (some (99, true)), true⟩,
  ⟨(some 101), .ld false 5 (.t 2), (some (99, true)), true⟩,
  ⟨(some 102), .call (.k (.fn 30 [])) [(.t 100), (.t 101)], (some (99, true)), true⟩,
  ⟨(some 103), .pick (.t 99) (.t 102) (.k (.c (.bool false))), none, true⟩,
  ⟨(some 104), .mv (.t 103), none, true⟩,
  ⟨(some 105), .call (.k (.fn 19 [])) [], (some (104, true)), true⟩,
  ⟨(some 106), .pick (.t 104) (.t 105) (.k (.c (.bool false))), none, true⟩,
  ⟨(some 4), .mv (.t 106), none, true⟩]
@[reducible] def v15_19 : VC := (.seq (.ops o15_18) .ret)
@[reducible] def v15_20 : VC := (.seq (.ops o15_17) v15_19)
@[reducible] def v15_21 : VC := (.seq (.ops o15_16) v15_20)
@[reducible] def v15_22 : VC := (.seq (.ops o15_15) v15_21)
@[reducible] def v15_23 : VC := (.seq (.ops o15_14) v15_22)
@[reducible] def v15_24 : VC := (.seq (.seq (.ops o15_10) v15_13) v15_23)
@[reducible] def v15_25 : VC := (.seq (.ops o15_9) v15_24)
@[reducible] def v15_26 : VC := (.seq (.ops o15_8) v15_25)
@[reducible] def v15_27 : VC := (.seq (.ops o15_7) v15_26)
@[reducible] def v15_28 : VC := (.seq (.ops o15_6) v15_27)
@[reducible] def v15_29 : VC := (.seq (.ops o15_5) v15_28)
@[reducible] def v15_30 : VC := (.seq (.seq (.ops o15_1) v15_4) v15_29)
def ir15 : FC := ⟨2, 107, [.t 4], (.seq (.ops o15_0) v15_30)⟩
@[reducible] def o6_0 : List Ins := [⟨(some 2), .box 5 (.t 0), none, true⟩,
  ⟨(some 4), .mv (.k (.c (.bool false))), none, true⟩]
@[reducible] def o6_1 : List Ins := [⟨(some 10), .ld false 5 (.t 2), none, true⟩,
  ⟨(some 11), .call (.k (.fn 28 [])) [(.t 10)], none, true⟩]
@[reducible] def o6_2 : List Ins := [⟨(some 12), .call (.k (.fn 19 [])) [], none, true⟩,
  ⟨(some 4), .mv (.t 12), none, true⟩]
@[reducible] def v6_3 : VC := (.seq (.ops o6_2) .ret)
@[reducible] def v6_4 : VC := (.cond (.t 11) v6_3 .skip)
@[reducible] def o6_5 : List Ins := [⟨(some 13), .ld false 5 (.t 2), none, true⟩,
  ⟨(some 14), .call (.k (.fn 20 [])) [(.t 13)], none, true⟩,
  ⟨(some 5), .alloc [(.c (.raw (.slice none 0 0))), (.c (.int .i64 0)), (.c (.int .i64 0)), (.c (.int .i64 0)), (.c (.raw (.slice none 0 0)))], none, true⟩,
  ⟨none, .st 5 (.t 5) (.t 14), none, true⟩]
@[reducible] def o6_6 : List Ins := [⟨(some 16), .ld false 5 (.t 5), none, true⟩,
  ⟨(some 17), .mv (.t 1), none, true⟩,
  ⟨(some 18), .call (.k (.fn 21 [])) [(.t 16), (.t 17)], none, true⟩,
  ⟨(some 15), .mv (.t 18), none, true⟩,
  ⟨(some 19), .ext (.t 15) 0, none, true⟩,
  ⟨(some 20), .ext (.t 15) 1, none, true⟩,
  ⟨(some 6), .alloc [(.c (.int .i64 0)), (.c (.int .i64 0)), (.c (.int .i64 0))], none, true⟩,
  ⟨none, .st 3 (.t 6) (.t 19), none, true⟩,
  ⟨(some 7), .mv (.t 20), none, true⟩]
@[reducible] def o6_7 : List Ins := [⟨(some 22), .ld false 5 (.t 2), none, true⟩,
  ⟨(some 23), .mv (.t 1), none, true⟩,
  ⟨(some 24), .call (.k (.fn 29 [])) [(.t 22), (.t 23)], none, true⟩,
  ⟨(some 21), .mv (.t 24), none, true⟩,
  ⟨(some 25), .ext (.t 21) 0, none, true⟩,
  ⟨(some 26), .ext (.t 21) 1, none, true⟩,
  ⟨(some 8), .alloc [(.c (.int .i64 0)), (.c (.int .i64 0)), (.c (.int .i64 0))], none, true⟩,
  ⟨none, .st 3 (.t 8) (.t 25), none, true⟩,
  ⟨(some 9), .mv (.t 26), none, true⟩]
@[reducible] def o6_8 : List Ins := [⟨(some 27), .ld false 3 (.t 6), none, true⟩,
  ⟨(some 28), .ld false 3 (.t 8), none, true⟩,
  ⟨(some 29), .seq false [(0, true), (1, true), (2, true)] (.t 27) (.t 28), none, true⟩,
  ⟨(some 30), .mv (.t 29), none, true⟩,
  ⟨(some 31), .mv (.t 7), (some (30, true)), true⟩,
  ⟨(some 32), .mv (.t 9), (some (30, true)), true⟩,
  ⟨(some 33), .bin .eql (.t 31) (.t 32), (some (30, true)), true⟩,
  ⟨(some 34), .pick (.t 30) (.t 33) (.k (.c (.bool false))), none, true⟩,
  ⟨(some 35), .mv (.t 34), none, true⟩,
  ⟨(some 36), .ld false 5 (.t 5), (some (35, true)), true⟩,
  ⟨(some 37), .ld false 5 (.t 2), (some (35, true)), true⟩,
  ⟨(some 38), .call (.k (.fn 30 [])) [(.t 36), (.t 37)], (some (35, true)), true⟩,
  ⟨(some 39), .pick (.t 35) (.t 38) (.k (.c (.bool false))), none, true⟩,
  ⟨(some 40), .mv (.t 39), none, true⟩,
  ⟨(some 41), .call (.k (.fn 19 [])) [], (some (40, true)), true⟩,
  ⟨(some 42), .pick (.t 40) (.t 41) (.k (.c (.bool false))), none, true⟩,
  ⟨(some 4), .mv (.t 42), none, true⟩]
@[reducible] def v6_9 : VC := (.seq (.ops o6_8) .ret)
@[reducible] def v6_10 : VC := (.seq (.ops o6_7) v6_9)
@[reducible] def v6_11 : VC := (.seq (.ops o6_6) v6_10)
@[reducible] def v6_12 : VC := (.seq (.ops o6_5) v6_11)
@[reducible] def v6_13 : VC := (.seq (.seq (.ops o6_1) v6_4) v6_12)
def ir6 : FC := ⟨2, 43, [.t 4], (.seq (.ops o6_0) v6_13)⟩
@[reducible] def o7_0 : List Ins := [⟨(some 3), .box 5 (.t 0), none, true⟩,
  ⟨(some 6), .mv (.k (.c (.bool false))), none, true⟩]
@[reducible] def o7_1 : List Ins := [⟨(some 12), .ld false 5 (.t 3), none, true⟩,
  ⟨(some 13), .call (.k (.fn 28 [])) [(.t 12)], none, true⟩,
  ⟨(some 14), .mv (.t 13), none, true⟩,
  ⟨(some 15), .mv (.t 2), (some (14, false)), true⟩,
  ⟨(some 16), .bin .gtr (.t 15) (.k (.c (.int .i64 400))), (some (14, false)), true⟩,
  ⟨(some 17), .mv (.t 16), (some (14, false)), true⟩,
  ⟨(some 18), .mv (.t 2), (some (17, true)), true⟩,
  ⟨(some 19), .bin .leq (.t 18) (.k (.c (.int .i64 9999))), (some (17, true)), true⟩,
  ⟨(some 20), .pick (.t 17) (.t 19) (.k (.c (.bool false))), (some (14, false)), true⟩,
  ⟨(some 21), .pick (.t 14) (.k (.c (.bool true))) (.t 20), none, true⟩]
@[reducible] def o7_2 : List Ins := [⟨(some 22), .call (.k (.fn 19 [])) [], none, true⟩,
  ⟨(some 6), .mv (.t 22), none, true⟩]
@[reducible] def v7_3 : VC := (.seq (.ops o7_2) .ret)
@[reducible] def v7_4 : VC := (.cond (.t 21) v7_3 .skip)
@[reducible] def o7_5 : List Ins := [⟨(some 23), .ld false 5 (.t 3), none, true⟩,
  ⟨(some 24), .call (.k (.fn 20 [])) [(.t 23)], none, true⟩,
  ⟨(some 7), .alloc [(.c (.raw (.slice none 0 0))), (.c (.int .i64 0)), (.c (.int .i64 0)), (.c (.int .i64 0)), (.c (.raw (.slice none 0 0)))], none, true⟩,
  ⟨none, .st 5 (.t 7) (.t 24), none, true⟩]
@[reducible] def o7_6 : List Ins := [⟨(some 26), .ld false 5 (.t 7), none, true⟩,
  ⟨(some 27), .mv (.t 1), none, true⟩,
  ⟨(some 28), .mv (.t 2), none, true⟩,
  ⟨(some 29), .call (.k (.fn 26 [])) [(.t 26), (.t 27), (.t 28)], none, true⟩,
  ⟨(some 25), .mv (.t 29), none, true⟩,
  ⟨(some 30), .ext (.t 25) 0, none, true⟩,
  ⟨(some 31), .ext (.t 25) 1, none, true⟩,
  ⟨(some 8), .mv (.t 30), none, true⟩,
  ⟨(some 9), .mv (.t 31), none, true⟩]
@[reducible] def o7_7 : List Ins := [⟨(some 33), .ld false 5 (.t 3), none, true⟩,
  ⟨(some 34), .mv (.t 1), none, true⟩,
  ⟨(some 35), .mv (.t 2), none, true⟩,
  ⟨(some 36), .call (.k (.fn 31 [])) [(.t 33), (.t 34), (.t 35)], none, true⟩,
  ⟨(some 32), .mv (.t 36), none, true⟩,
  ⟨(some 37), .ext (.t 32) 0, none, true⟩,
  ⟨(some 38), .ext (.t 32) 1, none, true⟩,
  ⟨(some 10), .mv (.t 37), none, true⟩,
  ⟨(some 11), .mv (.t 38), none, true⟩]
@[reducible] def o7_8 : List Ins := [⟨(some 39), .mv (.t 8), none, true⟩,
  ⟨(some 40), .mv (.t 10), none, true⟩,
  ⟨(some 41), .bin .eql (.t 39) (.t 40), none, true⟩,
  ⟨(some 42), .mv (.t 41), none, true⟩,
  ⟨(some 43), .mv (.t 9), (some (42, true)), true⟩,
  ⟨(some 44), .mv (.t 11), (some (42, true)), true⟩,
  ⟨(some 45), .bin .eql (.t 43) (.t 44), (some (42, true)), true⟩,
  ⟨(some 46), .pick (.t 42) (.t 45) (.k (.c (.bool false))), none, true⟩,
  ⟨(some 47), .mv (.t 46), none, true⟩,
  ⟨(some 48), .ld false 5 (.t 7), (some (47, true)), true⟩,
  ⟨(some 49), .ld false 5 (.t 3), (some (47, true)), true⟩,
  ⟨(some 50), .call (.k (.fn 30 [])) [(.t 48), (.t 49)], (some (47, true)), true⟩,
  ⟨(some 51), .pick (.t 47) (.t 50) (.k (.c (.bool false))), none, true⟩,
  ⟨(some 52), .mv (.t 51), none, true⟩,
  ⟨(some 53), .call (.k (.fn 19 [])) [], (some (52, true)), true⟩,
  ⟨(some 54), .pick (.t 52) (.t 53) (.k (.c (.bool false))), none, true⟩,
  ⟨(some 6), .mv (.t 54), none, true⟩]
@[reducible] def v7_9 : VC := (.seq (.ops o7_8) .ret)
@[reducible] def v7_10 : VC := (.seq (.ops o7_7) v7_9)
@[reducible] def v7_11 : VC := (.seq (.ops o7_6) v7_10)
@[reducible] def v7_12 : VC := (.seq (.ops o7_5) v7_11)
@[reducible] def v7_13 : VC := (.seq (.seq (.ops o7_1) v7_4) v7_12)
def ir7 : FC := ⟨3, 55, [.t 6], (.seq (.ops o7_0) v7_13)⟩
theorem c30 : compM Try.prog [] 30 = some ir30 := by kernel_rfl
theorem c15 : compM Try.prog [] 15 = some ir15 := by kernel_rfl
theorem c6 : compM Try.prog [] 6 = some ir6 := by kernel_rfl
theorem c7 : compM Try.prog [] 7 = some ir7 := by kernel_rfl



set_option maxRecDepth 20000 in
set_option maxHeartbeats 4000000 in
theorem same30 (t : Tray) (h1 : t.recs.length ≤ 1000) (h2 : t.pres.length ≤ 1000) : FSpec Try.prog 30 [t.av, t.av] (.c (.bool true)) := by
  refine FSpec_of c30 (Nat.le_refl _) (by decide) fun C hP hN hC hL => ?_
  simp only [ir30, Tray.av]
  (repeat ((first | refine WV_seq_ ?_ | refine WV_block ?_ | refine WV_ops ?_ | refine WV_skip ?_ | refine WV_exit ?_); (try simp only [go_sem, init_env', Nat.reduceEqDiff, Nat.reduceAdd, Nat.reduceMul, reduceIte, Nat.reduceLeDiff, Nat.reduceLT, Nat.reduceBEq, reduceCtorEq, hP, recsC, prsC, List.length_map, bne_self_eq_false]); (repeat refine qI ?_)))
  (refine WV_cond rfl (fun h => ?_) (fun h => ?_))
  · simp at h
  (repeat ((first | refine WV_seq_ ?_ | refine WV_block ?_ | refine WV_ops ?_ | refine WV_skip ?_ | refine WV_exit ?_); (try simp only [go_sem, init_env', Nat.reduceEqDiff, Nat.reduceAdd, Nat.reduceMul, reduceIte, Nat.reduceLeDiff, Nat.reduceLT, Nat.reduceBEq, reduceCtorEq, hP, ]); (repeat refine qI ?_)))
  refine WV_loopK K30_1 [] (fun k : Nat => k ≤ t.recs.length) (fun k => t.recs.length - k) (fun k => [(5, iv k)]) (fun _ => []) 0 (Nat.zero_le _) ?_ ?_
  · exact Sub_au
  · intro k hk
    simp only [go_sem, init_env', Nat.reduceEqDiff, Nat.reduceAdd, Nat.reduceMul, reduceIte, Nat.reduceLeDiff, Nat.reduceLT, Nat.reduceBEq, reduceCtorEq]
    (repeat ((first | refine WV_seq_ ?_ | refine WV_block ?_ | refine WV_ops ?_ | refine WV_skip ?_ | refine WV_exit ?_); (try simp only [go_sem, init_env', Nat.reduceEqDiff, Nat.reduceAdd, Nat.reduceMul, reduceIte, Nat.reduceLeDiff, Nat.reduceLT, Nat.reduceBEq, reduceCtorEq, hP, recsC, List.length_map]); (repeat refine qI ?_)))
    (refine WV_cond rfl (fun h => ?_) (fun h => ?_))
    · have hkl : k < t.recs.length := by simpa using h
      have hI : (k : Int) < (t.recs.length : Int) := by omega
      have hw2 := w64 (n := (k : Int) + 1) (by omega) (by omega)
      have g1 : (t.recs.map Rec.cds).getD k [] = [.int .i64 t.recs[k].front, .int .i64 t.recs[k].back] := map_getD hkl
      generalize t.recs[k] = X at *
      (repeat ((first | refine WV_seq_ ?_ | refine WV_block ?_ | refine WV_ops ?_ | refine WV_skip ?_ | refine WV_exit ?_); (try simp only [go_sem, init_env', Nat.reduceEqDiff, Nat.reduceAdd, Nat.reduceMul, reduceIte, Nat.reduceLeDiff, Nat.reduceLT, Nat.reduceBEq, reduceCtorEq, hP, g1, recsC, hI, List.length_map, Int.natCast_nonneg, seqGo, beq_self_eq_true]); (repeat refine qI ?_)))
      (refine WV_cond rfl (fun h => ?_) (fun h => ?_))
      · simp at h
      (repeat ((first | refine WV_seq_ ?_ | refine WV_block ?_ | refine WV_ops ?_ | refine WV_skip ?_ | refine WV_exit ?_); (try simp only [go_sem, init_env', Nat.reduceEqDiff, Nat.reduceAdd, Nat.reduceMul, reduceIte, Nat.reduceLeDiff, Nat.reduceLT, Nat.reduceBEq, reduceCtorEq, hP, hw2]); (repeat refine qI ?_)))
      refine ⟨k + 1, by omega, by omega, ?_⟩
      exact Sub_au
    · (refine WV_exit ?_; simp only [go_sem, init_env', Nat.reduceEqDiff, Nat.reduceAdd, Nat.reduceMul, reduceIte, Nat.reduceLeDiff, Nat.reduceLT, Nat.reduceBEq, reduceCtorEq])
      (repeat ((first | refine WV_seq_ ?_ | refine WV_block ?_ | refine WV_ops ?_ | refine WV_skip ?_ | refine WV_exit ?_); (try simp only [go_sem, init_env', Nat.reduceEqDiff, Nat.reduceAdd, Nat.reduceMul, reduceIte, Nat.reduceLeDiff, Nat.reduceLT, Nat.reduceBEq, reduceCtorEq, hP, ]); (repeat refine qI ?_)))
      refine WV_loopK K30_2 [] (fun k : Nat => k ≤ t.pres.length) (fun k => t.pres.length - k) (fun k => [(6, iv k)]) (fun _ => []) 0 (Nat.zero_le _) ?_ ?_
      · exact Sub_au
      · intro k hk
        simp only [go_sem, init_env', Nat.reduceEqDiff, Nat.reduceAdd, Nat.reduceMul, reduceIte, Nat.reduceLeDiff, Nat.reduceLT, Nat.reduceBEq, reduceCtorEq]
        (repeat ((first | refine WV_seq_ ?_ | refine WV_block ?_ | refine WV_ops ?_ | refine WV_skip ?_ | refine WV_exit ?_); (try simp only [go_sem, init_env', Nat.reduceEqDiff, Nat.reduceAdd, Nat.reduceMul, reduceIte, Nat.reduceLeDiff, Nat.reduceLT, Nat.reduceBEq, reduceCtorEq, hP, prsC, List.length_map]); (repeat refine qI ?_)))
        (refine WV_cond rfl (fun h => ?_) (fun h => ?_))
        · have hkl : k < t.pres.length := by simpa using h
          have hI : (k : Int) < (t.pres.length : Int) := by omega
          have hw2 := w64 (n := (k : Int) + 1) (by omega) (by omega)
          have g1 : (t.pres.map Pr.cds).getD k [] = [.int .i64 t.pres[k].side, .int .i64 t.pres[k].time] := map_getD hkl
          generalize t.pres[k] = X at *
          (repeat ((first | refine WV_seq_ ?_ | refine WV_block ?_ | refine WV_ops ?_ | refine WV_skip ?_ | refine WV_exit ?_); (try simp only [go_sem, init_env', Nat.reduceEqDiff, Nat.reduceAdd, Nat.reduceMul, reduceIte, Nat.reduceLeDiff, Nat.reduceLT, Nat.reduceBEq, reduceCtorEq, hP, g1, prsC, hI, List.length_map, Int.natCast_nonneg, seqGo, beq_self_eq_true]); (repeat refine qI ?_)))
          (refine WV_cond rfl (fun h => ?_) (fun h => ?_))
          · simp at h
          (repeat ((first | refine WV_seq_ ?_ | refine WV_block ?_ | refine WV_ops ?_ | refine WV_skip ?_ | refine WV_exit ?_); (try simp only [go_sem, init_env', Nat.reduceEqDiff, Nat.reduceAdd, Nat.reduceMul, reduceIte, Nat.reduceLeDiff, Nat.reduceLT, Nat.reduceBEq, reduceCtorEq, hP, hw2]); (repeat refine qI ?_)))
          refine ⟨k + 1, by omega, by omega, ?_⟩
          exact Sub_au
        · (refine WV_exit ?_; simp only [go_sem, init_env', Nat.reduceEqDiff, Nat.reduceAdd, Nat.reduceMul, reduceIte, Nat.reduceLeDiff, Nat.reduceLT, Nat.reduceBEq, reduceCtorEq])
          (repeat ((first | refine WV_seq_ ?_ | refine WV_block ?_ | refine WV_ops ?_ | refine WV_skip ?_ | refine WV_exit ?_); (try simp only [go_sem, init_env', Nat.reduceEqDiff, Nat.reduceAdd, Nat.reduceMul, reduceIte, Nat.reduceLeDiff, Nat.reduceLT, Nat.reduceBEq, reduceCtorEq, hP, ]); (repeat refine qI ?_)))
          (refine WV_ret ?_; simp only [thenQ, inQ, RetQ, RetOk, resAll, resA]; simp only [go_sem, init_env', Nat.reduceEqDiff, Nat.reduceAdd, Nat.reduceMul, reduceIte, Nat.reduceLeDiff, Nat.reduceLT, Nat.reduceBEq, reduceCtorEq, tupA, AV.port, AV.portL, exists_eq_left', ]; (first | exact AVle.of rfl | refine AVle.of ?_ | skip))
theorem far_no {t : Tray} (h : farB t = false) : t.recs.length ≤ 40 ∧ t.pres.length ≤ 40 := by
  unfold farB Tray.n at h
  simp only [Bool.or_eq_false_iff, decide_eq_false_iff_not] at h
  omega
set_option maxRecDepth 20000 in
set_option maxHeartbeats 4000000 in
/-- Served, Wait, Longest and End are as specified. -/
theorem law15 (t : Tray) (k : Int) : FSpec Try.prog 15 [t.av, iv k] (.c (.bool true)) := by
  have hfar := far28 t
  cases hf : farB t
  rotate_left
  · rw [hf] at hfar
    refine FSpec_of c15 (Nat.le_refl _) (by decide) fun C hP hN hC hL => ?_
    simp only [ir15, Tray.av]
    (repeat ((first | refine WV_seq_ ?_ | refine WV_block ?_ | refine WV_ops ?_ | refine WV_skip ?_ | refine WV_exit ?_); (try simp only [go_sem, init_env', Nat.reduceEqDiff, Nat.reduceAdd, Nat.reduceMul, reduceIte, Nat.reduceLeDiff, Nat.reduceLT, Nat.reduceBEq, reduceCtorEq, hP, ]); (repeat refine qI ?_)))
    (refine AS_pure (hfar) rfl rfl rfl rfl rfl ?_; simp only [go_sem, init_env', Nat.reduceEqDiff, Nat.reduceAdd, Nat.reduceMul, reduceIte, Nat.reduceLeDiff, Nat.reduceLT, Nat.reduceBEq, reduceCtorEq, hP, Tray.av]; (repeat refine qI ?_); (repeat ((first | refine WV_seq_ ?_ | refine WV_block ?_ | refine WV_ops ?_ | refine WV_skip ?_ | refine WV_exit ?_); (try simp only [go_sem, init_env', Nat.reduceEqDiff, Nat.reduceAdd, Nat.reduceMul, reduceIte, Nat.reduceLeDiff, Nat.reduceLT, Nat.reduceBEq, reduceCtorEq, hP, Tray.av]); (repeat refine qI ?_))))
    (refine WV_cond rfl (fun h => ?_) (fun h => ?_))
    · (repeat ((first | refine WV_seq_ ?_ | refine WV_block ?_ | refine WV_ops ?_ | refine WV_skip ?_ | refine WV_exit ?_); (try simp only [go_sem, init_env', Nat.reduceEqDiff, Nat.reduceAdd, Nat.reduceMul, reduceIte, Nat.reduceLeDiff, Nat.reduceLT, Nat.reduceBEq, reduceCtorEq, hP, ]); (repeat refine qI ?_)))
      (refine AS_pure (works19) rfl rfl rfl rfl rfl ?_; simp only [go_sem, init_env', Nat.reduceEqDiff, Nat.reduceAdd, Nat.reduceMul, reduceIte, Nat.reduceLeDiff, Nat.reduceLT, Nat.reduceBEq, reduceCtorEq, hP, ]; (repeat refine qI ?_); (repeat ((first | refine WV_seq_ ?_ | refine WV_block ?_ | refine WV_ops ?_ | refine WV_skip ?_ | refine WV_exit ?_); (try simp only [go_sem, init_env', Nat.reduceEqDiff, Nat.reduceAdd, Nat.reduceMul, reduceIte, Nat.reduceLeDiff, Nat.reduceLT, Nat.reduceBEq, reduceCtorEq, hP, ]); (repeat refine qI ?_))))
      (refine WV_ret ?_; simp only [thenQ, inQ, RetQ, RetOk, resAll, resA]; simp only [go_sem, init_env', Nat.reduceEqDiff, Nat.reduceAdd, Nat.reduceMul, reduceIte, Nat.reduceLeDiff, Nat.reduceLT, Nat.reduceBEq, reduceCtorEq, tupA, AV.port, AV.portL, exists_eq_left', ]; (first | exact AVle.of rfl | refine AVle.of ?_ | skip))
    · simp at h
  rw [hf] at hfar
  obtain ⟨l1, l2⟩ := far_no hf
  have hcop := copy20 t (by omega) (by omega)
  have b1 := served33 t k
  have b2 := served47 t k
  have b3 := wait27 t k
  have b4 := wait48 t k
  have b5 := longest49 t
  have b6 := longest50 t
  have b7 := end38 t
  have b8 := end46 t
  have bt := same30 t (by omega) (by omega)
  generalize servedR t k = A at *
  generalize waitR t k = B at *
  generalize longestR t = D at *
  generalize endR t = F at *
  refine FSpec_of c15 (Nat.le_refl _) (by decide) fun C hP hN hC hL => ?_
  simp only [ir15, Tray.av]
  (repeat ((first | refine WV_seq_ ?_ | refine WV_block ?_ | refine WV_ops ?_ | refine WV_skip ?_ | refine WV_exit ?_); (try simp only [go_sem, init_env', Nat.reduceEqDiff, Nat.reduceAdd, Nat.reduceMul, reduceIte, Nat.reduceLeDiff, Nat.reduceLT, Nat.reduceBEq, reduceCtorEq, hP, ]); (repeat refine qI ?_)))
  (refine AS_pure (hfar) rfl rfl rfl rfl rfl ?_; simp only [go_sem, init_env', Nat.reduceEqDiff, Nat.reduceAdd, Nat.reduceMul, reduceIte, Nat.reduceLeDiff, Nat.reduceLT, Nat.reduceBEq, reduceCtorEq, hP, Tray.av]; (repeat refine qI ?_); (repeat ((first | refine WV_seq_ ?_ | refine WV_block ?_ | refine WV_ops ?_ | refine WV_skip ?_ | refine WV_exit ?_); (try simp only [go_sem, init_env', Nat.reduceEqDiff, Nat.reduceAdd, Nat.reduceMul, reduceIte, Nat.reduceLeDiff, Nat.reduceLT, Nat.reduceBEq, reduceCtorEq, hP, Tray.av]); (repeat refine qI ?_))))
  (refine WV_cond rfl (fun h => ?_) (fun h => ?_))
  · simp at h
  (repeat ((first | refine WV_seq_ ?_ | refine WV_block ?_ | refine WV_ops ?_ | refine WV_skip ?_ | refine WV_exit ?_); (try simp only [go_sem, init_env', Nat.reduceEqDiff, Nat.reduceAdd, Nat.reduceMul, reduceIte, Nat.reduceLeDiff, Nat.reduceLT, Nat.reduceBEq, reduceCtorEq, hP, ]); (repeat refine qI ?_)))
  (refine AS_pure (hcop) rfl rfl rfl rfl rfl ?_; simp only [go_sem, init_env', Nat.reduceEqDiff, Nat.reduceAdd, Nat.reduceMul, reduceIte, Nat.reduceLeDiff, Nat.reduceLT, Nat.reduceBEq, reduceCtorEq, hP, Tray.av]; (repeat refine qI ?_); (repeat ((first | refine WV_seq_ ?_ | refine WV_block ?_ | refine WV_ops ?_ | refine WV_skip ?_ | refine WV_exit ?_); (try simp only [go_sem, init_env', Nat.reduceEqDiff, Nat.reduceAdd, Nat.reduceMul, reduceIte, Nat.reduceLeDiff, Nat.reduceLT, Nat.reduceBEq, reduceCtorEq, hP, Tray.av]); (repeat refine qI ?_))))
  (refine AS_pure (b1) rfl rfl rfl rfl rfl ?_; simp only [go_sem, init_env', Nat.reduceEqDiff, Nat.reduceAdd, Nat.reduceMul, reduceIte, Nat.reduceLeDiff, Nat.reduceLT, Nat.reduceBEq, reduceCtorEq, hP, Tray.av]; (repeat refine qI ?_); (repeat ((first | refine WV_seq_ ?_ | refine WV_block ?_ | refine WV_ops ?_ | refine WV_skip ?_ | refine WV_exit ?_); (try simp only [go_sem, init_env', Nat.reduceEqDiff, Nat.reduceAdd, Nat.reduceMul, reduceIte, Nat.reduceLeDiff, Nat.reduceLT, Nat.reduceBEq, reduceCtorEq, hP, Tray.av]); (repeat refine qI ?_))))
  (refine AS_pure (b2) rfl rfl rfl rfl rfl ?_; simp only [go_sem, init_env', Nat.reduceEqDiff, Nat.reduceAdd, Nat.reduceMul, reduceIte, Nat.reduceLeDiff, Nat.reduceLT, Nat.reduceBEq, reduceCtorEq, hP, Tray.av]; (repeat refine qI ?_); (repeat ((first | refine WV_seq_ ?_ | refine WV_block ?_ | refine WV_ops ?_ | refine WV_skip ?_ | refine WV_exit ?_); (try simp only [go_sem, init_env', Nat.reduceEqDiff, Nat.reduceAdd, Nat.reduceMul, reduceIte, Nat.reduceLeDiff, Nat.reduceLT, Nat.reduceBEq, reduceCtorEq, hP, Tray.av]); (repeat refine qI ?_))))
  (refine AS_pure (b3) rfl rfl rfl rfl rfl ?_; simp only [go_sem, init_env', Nat.reduceEqDiff, Nat.reduceAdd, Nat.reduceMul, reduceIte, Nat.reduceLeDiff, Nat.reduceLT, Nat.reduceBEq, reduceCtorEq, hP, Tray.av]; (repeat refine qI ?_); (repeat ((first | refine WV_seq_ ?_ | refine WV_block ?_ | refine WV_ops ?_ | refine WV_skip ?_ | refine WV_exit ?_); (try simp only [go_sem, init_env', Nat.reduceEqDiff, Nat.reduceAdd, Nat.reduceMul, reduceIte, Nat.reduceLeDiff, Nat.reduceLT, Nat.reduceBEq, reduceCtorEq, hP, Tray.av]); (repeat refine qI ?_))))
  (refine AS_pure (b4) rfl rfl rfl rfl rfl ?_; simp only [go_sem, init_env', Nat.reduceEqDiff, Nat.reduceAdd, Nat.reduceMul, reduceIte, Nat.reduceLeDiff, Nat.reduceLT, Nat.reduceBEq, reduceCtorEq, hP, Tray.av, bne_self_eq_false]; (repeat refine qI ?_); (repeat ((first | refine WV_seq_ ?_ | refine WV_block ?_ | refine WV_ops ?_ | refine WV_skip ?_ | refine WV_exit ?_); (try simp only [go_sem, init_env', Nat.reduceEqDiff, Nat.reduceAdd, Nat.reduceMul, reduceIte, Nat.reduceLeDiff, Nat.reduceLT, Nat.reduceBEq, reduceCtorEq, hP, Tray.av, bne_self_eq_false]); (repeat refine qI ?_))))
  (refine WV_cond rfl (fun h => ?_) (fun h => ?_))
  · simp at h
  (repeat ((first | refine WV_seq_ ?_ | refine WV_block ?_ | refine WV_ops ?_ | refine WV_skip ?_ | refine WV_exit ?_); (try simp only [go_sem, init_env', Nat.reduceEqDiff, Nat.reduceAdd, Nat.reduceMul, reduceIte, Nat.reduceLeDiff, Nat.reduceLT, Nat.reduceBEq, reduceCtorEq, hP, ]); (repeat refine qI ?_)))
  (refine AS_pure (b5) rfl rfl rfl rfl rfl ?_; simp only [go_sem, init_env', Nat.reduceEqDiff, Nat.reduceAdd, Nat.reduceMul, reduceIte, Nat.reduceLeDiff, Nat.reduceLT, Nat.reduceBEq, reduceCtorEq, hP, Tray.av]; (repeat refine qI ?_); (repeat ((first | refine WV_seq_ ?_ | refine WV_block ?_ | refine WV_ops ?_ | refine WV_skip ?_ | refine WV_exit ?_); (try simp only [go_sem, init_env', Nat.reduceEqDiff, Nat.reduceAdd, Nat.reduceMul, reduceIte, Nat.reduceLeDiff, Nat.reduceLT, Nat.reduceBEq, reduceCtorEq, hP, Tray.av]); (repeat refine qI ?_))))
  (refine AS_pure (b6) rfl rfl rfl rfl rfl ?_; simp only [go_sem, init_env', Nat.reduceEqDiff, Nat.reduceAdd, Nat.reduceMul, reduceIte, Nat.reduceLeDiff, Nat.reduceLT, Nat.reduceBEq, reduceCtorEq, hP, Tray.av]; (repeat refine qI ?_); (repeat ((first | refine WV_seq_ ?_ | refine WV_block ?_ | refine WV_ops ?_ | refine WV_skip ?_ | refine WV_exit ?_); (try simp only [go_sem, init_env', Nat.reduceEqDiff, Nat.reduceAdd, Nat.reduceMul, reduceIte, Nat.reduceLeDiff, Nat.reduceLT, Nat.reduceBEq, reduceCtorEq, hP, Tray.av]); (repeat refine qI ?_))))
  (refine AS_pure (b7) rfl rfl rfl rfl rfl ?_; simp only [go_sem, init_env', Nat.reduceEqDiff, Nat.reduceAdd, Nat.reduceMul, reduceIte, Nat.reduceLeDiff, Nat.reduceLT, Nat.reduceBEq, reduceCtorEq, hP, Tray.av]; (repeat refine qI ?_); (repeat ((first | refine WV_seq_ ?_ | refine WV_block ?_ | refine WV_ops ?_ | refine WV_skip ?_ | refine WV_exit ?_); (try simp only [go_sem, init_env', Nat.reduceEqDiff, Nat.reduceAdd, Nat.reduceMul, reduceIte, Nat.reduceLeDiff, Nat.reduceLT, Nat.reduceBEq, reduceCtorEq, hP, Tray.av]); (repeat refine qI ?_))))
  (refine AS_pure (b8) rfl rfl rfl rfl rfl ?_; simp only [go_sem, init_env', Nat.reduceEqDiff, Nat.reduceAdd, Nat.reduceMul, reduceIte, Nat.reduceLeDiff, Nat.reduceLT, Nat.reduceBEq, reduceCtorEq, hP, Tray.av, beq_self_eq_true]; (repeat refine qI ?_); (repeat ((first | refine WV_seq_ ?_ | refine WV_block ?_ | refine WV_ops ?_ | refine WV_skip ?_ | refine WV_exit ?_); (try simp only [go_sem, init_env', Nat.reduceEqDiff, Nat.reduceAdd, Nat.reduceMul, reduceIte, Nat.reduceLeDiff, Nat.reduceLT, Nat.reduceBEq, reduceCtorEq, hP, Tray.av, beq_self_eq_true]); (repeat refine qI ?_))))
  (refine AG_pure (fun hG => bt) rfl (fun hG => by first | (simp only [go_sem, init_env', Nat.reduceEqDiff, Nat.reduceAdd, Nat.reduceMul, reduceIte, Nat.reduceLeDiff, Nat.reduceLT, Nat.reduceBEq, reduceCtorEq, hG]; done) | (simp only [go_sem, init_env', Nat.reduceEqDiff, Nat.reduceAdd, Nat.reduceMul, reduceIte, Nat.reduceLeDiff, Nat.reduceLT, Nat.reduceBEq, reduceCtorEq]; revert hG; simp; done) | (simp only [go_sem, init_env', Nat.reduceEqDiff, Nat.reduceAdd, Nat.reduceMul, reduceIte, Nat.reduceLeDiff, Nat.reduceLT, Nat.reduceBEq, reduceCtorEq, hG]; simp_all; done) | (revert hG; simp; done) | simp_all) rfl rfl rfl ?_; simp only [go_sem, init_env', Nat.reduceEqDiff, Nat.reduceAdd, Nat.reduceMul, reduceIte, Nat.reduceLeDiff, Nat.reduceLT, Nat.reduceBEq, reduceCtorEq, hP, Tray.av, beq_self_eq_true]; (repeat refine qI ?_); (repeat ((first | refine WV_seq_ ?_ | refine WV_block ?_ | refine WV_ops ?_ | refine WV_skip ?_ | refine WV_exit ?_); (try simp only [go_sem, init_env', Nat.reduceEqDiff, Nat.reduceAdd, Nat.reduceMul, reduceIte, Nat.reduceLeDiff, Nat.reduceLT, Nat.reduceBEq, reduceCtorEq, hP, Tray.av, beq_self_eq_true]); (repeat refine qI ?_))))
  (refine AG_pure (fun hG => works19) rfl (fun hG => by first | (simp only [go_sem, init_env', Nat.reduceEqDiff, Nat.reduceAdd, Nat.reduceMul, reduceIte, Nat.reduceLeDiff, Nat.reduceLT, Nat.reduceBEq, reduceCtorEq, hG]; done) | (simp only [go_sem, init_env', Nat.reduceEqDiff, Nat.reduceAdd, Nat.reduceMul, reduceIte, Nat.reduceLeDiff, Nat.reduceLT, Nat.reduceBEq, reduceCtorEq]; revert hG; simp; done) | (simp only [go_sem, init_env', Nat.reduceEqDiff, Nat.reduceAdd, Nat.reduceMul, reduceIte, Nat.reduceLeDiff, Nat.reduceLT, Nat.reduceBEq, reduceCtorEq, hG]; simp_all; done) | (revert hG; simp; done) | simp_all) rfl rfl rfl ?_; simp only [go_sem, init_env', Nat.reduceEqDiff, Nat.reduceAdd, Nat.reduceMul, reduceIte, Nat.reduceLeDiff, Nat.reduceLT, Nat.reduceBEq, reduceCtorEq, hP, ]; (repeat refine qI ?_); (repeat ((first | refine WV_seq_ ?_ | refine WV_block ?_ | refine WV_ops ?_ | refine WV_skip ?_ | refine WV_exit ?_); (try simp only [go_sem, init_env', Nat.reduceEqDiff, Nat.reduceAdd, Nat.reduceMul, reduceIte, Nat.reduceLeDiff, Nat.reduceLT, Nat.reduceBEq, reduceCtorEq, hP, ]); (repeat refine qI ?_))))
  (refine WV_ret ?_; simp only [thenQ, inQ, RetQ, RetOk, resAll, resA]; simp only [go_sem, init_env', Nat.reduceEqDiff, Nat.reduceAdd, Nat.reduceMul, reduceIte, Nat.reduceLeDiff, Nat.reduceLT, Nat.reduceBEq, reduceCtorEq, tupA, AV.port, AV.portL, exists_eq_left', ]; (first | exact AVle.of rfl | refine AVle.of ?_ | skip))
/-! ### The latest press -/
end Go.Proofs.Ytkpgpgaojjobgaa
