/-
  Contracts of the layer's functions, of the laws' helpers and of the law; conditions: as each theorem states.
-/
import Derived.Test.YtkpgpgaojjobgaaU5
import Derived.Test.YtkpgpgaojjobgaaV2
set_option linter.unusedVariables false
set_option linter.unusedSimpArgs false
namespace Go.Proofs.Ytkpgpgaojjobgaa
open Go Go.V
@[reducible] def o9_0 : List Ins := [⟨(some 2), .box 5 (.t 0), none, true⟩,
  ⟨(some 4), .mv (.k (.c (.bool false))), none, true⟩]
@[reducible] def o9_1 : List Ins := [⟨(some 21), .ld false 5 (.t 2), none, true⟩,
  ⟨(some 22), .call (.k (.fn 16 [])) [(.t 21)], none, true⟩,
  ⟨(some 23), .un .not (.t 22), none, true⟩,
  ⟨(some 24), .mv (.t 23), none, true⟩,
  ⟨(some 25), .mv (.t 1), (some (24, false)), true⟩,
  ⟨(some 26), .call (.k (.fn 18 [])) [(.t 25)], (some (24, false)), true⟩,
  ⟨(some 27), .un .not (.t 26), (some (24, false)), true⟩,
  ⟨(some 28), .pick (.t 24) (.k (.c (.bool true))) (.t 27), none, true⟩]
@[reducible] def o9_2 : List Ins := [⟨(some 29), .call (.k (.fn 19 [])) [], none, true⟩,
  ⟨(some 4), .mv (.t 29), none, true⟩]
@[reducible] def v9_3 : VC := (.seq (.ops o9_2) .ret)
@[reducible] def v9_4 : VC := (.cond (.t 28) v9_3 .skip)
@[reducible] def o9_5 : List Ins := [⟨(some 30), .ld false 5 (.t 2), none, true⟩,
  ⟨(some 31), .call (.k (.fn 20 [])) [(.t 30)], none, true⟩,
  ⟨(some 5), .alloc [(.c (.raw (.slice none 0 0))), (.c (.int .i64 0)), (.c (.int .i64 0)), (.c (.int .i64 0)), (.c (.raw (.slice none 0 0)))], none, true⟩,
  ⟨none, .st 5 (.t 5) (.t 31), none, true⟩]
@[reducible] def o9_6 : List Ins := [⟨(some 32), .fa 0 (.t 2), none, true⟩,
  ⟨(some 33), .ld true 1 (.t 32), none, true⟩,
  ⟨(some 34), .len (.t 33), none, true⟩,
  ⟨(some 35), .bin .sub (.t 34) (.k (.c (.int .i64 1))), none, true⟩,
  ⟨(some 6), .mv (.t 35), none, true⟩]
@[reducible] def o9_7 : List Ins := [⟨(some 7), .mv (.k (.c (.int .i64 0))), none, true⟩]
@[reducible] def o9_8 : List Ins := [⟨(some 36), .mv (.t 7), none, true⟩,
  ⟨(some 37), .mv (.t 6), none, true⟩,
  ⟨(some 38), .bin .leq (.t 36) (.t 37), none, true⟩]
@[reducible] def v9_9 : VC := (.cond (.t 38) .skip (.exit 0))
@[reducible] def o9_10 : List Ins := [⟨(some 41), .fa 0 (.t 5), none, false⟩,
  ⟨(some 42), .ld true 1 (.t 41), none, false⟩,
  ⟨(some 43), .mv (.t 7), none, false⟩,
  ⟨(some 44), .fa 0 (.t 2), none, false⟩,
  ⟨(some 45), .ld true 1 (.t 44), none, false⟩,
  ⟨(some 46), .mv (.t 6), none, false⟩,
  ⟨(some 47), .mv (.t 7), none, false⟩,
  ⟨(some 48), .bin .sub (.t 46) (.t 47), none, false⟩,
  ⟨(some 49), .ia 2 (.t 45) (.t 48), none, false⟩,
  ⟨(some 50), .fa 1 (.t 49), none, false⟩,
  ⟨(some 51), .ld true 1 (.t 50), none, false⟩,
  ⟨(some 52), .fa 0 (.t 2), none, false⟩,
  ⟨(some 53), .ld true 1 (.t 52), none, false⟩,
  ⟨(some 54), .mv (.t 6), none, false⟩,
  ⟨(some 55), .mv (.t 7), none, false⟩,
  ⟨(some 56), .bin .sub (.t 54) (.t 55), none, false⟩,
  ⟨(some 57), .ia 2 (.t 53) (.t 56), none, false⟩,
  ⟨(some 58), .fa 0 (.t 57), none, false⟩,
  ⟨(some 59), .ld true 1 (.t 58), none, false⟩,
  ⟨(some 60), .bld [(.c (.int .i64 0)), (.c (.int .i64 0))] [(0, 1, (.t 51)), (1, 1, (.t 59))], none, false⟩,
  ⟨(some 61), .ia 2 (.t 42) (.t 43), none, true⟩,
  ⟨none, .st 2 (.t 61) (.t 60), none, true⟩]
@[reducible] def o9_11 : List Ins := [⟨(some 39), .mv (.t 7), none, true⟩,
  ⟨(some 40), .bin .add (.t 39) (.k (.c (.int .i64 1))), none, true⟩,
  ⟨(some 7), .mv (.t 40), none, true⟩]
@[reducible] def v9_12 : VC := (.seq (.block 1 (.ops o9_10)) (.ops o9_11))
@[reducible] def v9_13 : VC := (.seq (.seq (.ops o9_8) v9_9) v9_12)
-- K9_1: changed and kept: [7]
@[reducible] def K9_1 : List Nat := [1, 2, 5, 6]
@[reducible] def v9_14 : VC := (.loop v9_13)
@[reducible] def v9_15 : VC := (.block 0 v9_14)
@[reducible] def t9_16 : OT := (.cons ⟨(some 62), .mv (.t 6), none, false⟩
  (.cons ⟨(some 63), .fa 1 (.t 2), none, false⟩
  (.cons ⟨(some 64), .ld true 1 (.t 63), none, false⟩
  (.cons ⟨(some 65), .bin .sub (.t 62) (.t 64), none, false⟩
  (.cons ⟨(some 66), .fa 2 (.t 2), none, false⟩
  (.cons ⟨(some 69), .fa 1 (.t 5), none, false⟩
  (.br [(.cons ⟨(some 67), .ld true 1 (.t 66), none, false⟩
    (.cons ⟨(some 68), .un .neg (.t 67), none, false⟩
    (.cons ⟨none, .st 1 (.t 69) (.t 65), none, false⟩
    (.cons ⟨(some 70), .fa 2 (.t 5), none, true⟩
    (.cons ⟨none, .st 1 (.t 70) (.t 68), none, true⟩
    .nil))))), (.cons ⟨none, .st 1 (.t 69) (.t 65), none, false⟩
    (.cons ⟨(some 67), .ld true 1 (.t 66), none, false⟩
    (.cons ⟨(some 68), .un .neg (.t 67), none, false⟩
    (.cons ⟨(some 70), .fa 2 (.t 5), none, true⟩
    (.cons ⟨none, .st 1 (.t 70) (.t 68), none, true⟩
    .nil)))))])))))))
@[reducible] def o9_17 : List Ins := [⟨(some 8), .mv (.k (.c (.int .i64 0))), none, true⟩]
@[reducible] def o9_18 : List Ins := [⟨(some 71), .mv (.t 8), none, true⟩,
  ⟨(some 72), .fa 4 (.t 5), none, true⟩,
  ⟨(some 73), .ld true 1 (.t 72), none, true⟩,
  ⟨(some 74), .len (.t 73), none, true⟩,
  ⟨(some 75), .bin .lss (.t 71) (.t 74), none, true⟩]
@[reducible] def v9_19 : VC := (.cond (.t 75) .skip (.exit 2))
@[reducible] def o9_20 : List Ins := [⟨(some 78), .fa 4 (.t 5), none, false⟩,
  ⟨(some 79), .ld true 1 (.t 78), none, false⟩,
  ⟨(some 80), .mv (.t 8), none, false⟩,
  ⟨(some 81), .mv (.t 6), none, false⟩,
  ⟨(some 82), .bin .mul (.k (.c (.int .i64 2))) (.t 81), none, false⟩,
  ⟨(some 83), .bin .add (.t 82) (.k (.c (.int .i64 1))), none, false⟩,
  ⟨(some 84), .fa 4 (.t 2), none, false⟩,
  ⟨(some 85), .ld true 1 (.t 84), none, false⟩,
  ⟨(some 86), .mv (.t 8), none, false⟩,
  ⟨(some 87), .ia 2 (.t 85) (.t 86), none, false⟩,
  ⟨(some 88), .fa 0 (.t 87), none, false⟩,
  ⟨(some 89), .ld true 1 (.t 88), none, false⟩,
  ⟨(some 90), .bin .sub (.t 83) (.t 89), none, false⟩,
  ⟨(some 91), .ia 2 (.t 79) (.t 80), none, true⟩,
  ⟨(some 92), .fa 0 (.t 91), none, true⟩,
  ⟨none, .st 1 (.t 92) (.t 90), none, true⟩]
@[reducible] def o9_21 : List Ins := [⟨(some 76), .mv (.t 8), none, true⟩,
  ⟨(some 77), .bin .add (.t 76) (.k (.c (.int .i64 1))), none, true⟩,
  ⟨(some 8), .mv (.t 77), none, true⟩]
@[reducible] def v9_22 : VC := (.seq (.block 3 (.ops o9_20)) (.ops o9_21))
@[reducible] def v9_23 : VC := (.seq (.seq (.ops o9_18) v9_19) v9_22)
-- K9_2: changed and kept: [8]
@[reducible] def K9_2 : List Nat := [1, 2, 5, 6]
@[reducible] def v9_24 : VC := (.loop v9_23)
@[reducible] def v9_25 : VC := (.block 2 v9_24)
@[reducible] def o9_26 : List Ins := [⟨(some 94), .ld false 5 (.t 2), none, true⟩,
  ⟨(some 95), .call (.k (.fn 22 [])) [(.t 94)], none, true⟩,
  ⟨(some 93), .mv (.t 95), none, true⟩,
  ⟨(some 96), .ext (.t 93) 0, none, true⟩,
  ⟨(some 97), .ext (.t 93) 1, none, true⟩,
  ⟨(some 9), .mv (.t 96), none, true⟩,
  ⟨(some 10), .mv (.t 97), none, true⟩]
@[reducible] def o9_27 : List Ins := [⟨(some 99), .ld false 5 (.t 5), none, true⟩,
  ⟨(some 100), .call (.k (.fn 22 [])) [(.t 99)], none, true⟩,
  ⟨(some 98), .mv (.t 100), none, true⟩,
  ⟨(some 101), .ext (.t 98) 0, none, true⟩,
  ⟨(some 102), .ext (.t 98) 1, none, true⟩,
  ⟨(some 11), .mv (.t 101), none, true⟩,
  ⟨(some 12), .mv (.t 102), none, true⟩]
@[reducible] def o9_28 : List Ins := [⟨(some 104), .ld false 5 (.t 2), none, true⟩,
  ⟨(some 105), .call (.k (.fn 35 [])) [(.t 104)], none, true⟩,
  ⟨(some 103), .mv (.t 105), none, true⟩,
  ⟨(some 106), .ext (.t 103) 0, none, true⟩,
  ⟨(some 107), .ext (.t 103) 1, none, true⟩,
  ⟨(some 13), .mv (.t 106), none, true⟩,
  ⟨(some 14), .mv (.t 107), none, true⟩]
@[reducible] def o9_29 : List Ins := [⟨(some 109), .ld false 5 (.t 5), none, true⟩,
  ⟨(some 110), .call (.k (.fn 35 [])) [(.t 109)], none, true⟩,
  ⟨(some 108), .mv (.t 110), none, true⟩,
  ⟨(some 111), .ext (.t 108) 0, none, true⟩,
  ⟨(some 112), .ext (.t 108) 1, none, true⟩,
  ⟨(some 15), .mv (.t 111), none, true⟩,
  ⟨(some 16), .mv (.t 112), none, true⟩]
@[reducible] def o9_30 : List Ins := [⟨(some 113), .mv (.t 10), none, true⟩,
  ⟨(some 114), .bin .neq (.t 113) (.k (.c (.int .i64 0))), none, true⟩,
  ⟨(some 115), .mv (.t 114), none, true⟩,
  ⟨(some 116), .mv (.t 12), (some (115, false)), true⟩,
  ⟨(some 117), .bin .neq (.t 116) (.k (.c (.int .i64 0))), (some (115, false)), true⟩,
  ⟨(some 118), .pick (.t 115) (.k (.c (.bool true))) (.t 117), none, true⟩,
  ⟨(some 119), .mv (.t 118), none, true⟩,
  ⟨(some 120), .mv (.t 13), (some (119, false)), true⟩,
  ⟨(some 121), .mv (.t 15), (some (119, false)), true⟩,
  ⟨(some 122), .bin .neq (.t 120) (.t 121), (some (119, false)), true⟩,
  ⟨(some 123), .pick (.t 119) (.k (.c (.bool true))) (.t 122), none, true⟩,
  ⟨(some 124), .mv (.t 123), none, true⟩,
  ⟨(some 125), .mv (.t 14), (some (124, false)), true⟩,
  ⟨(some 126), .mv (.t 16), (some (124, false)), true⟩,
  ⟨(some 127), .bin .neq (.t 125) (.t 126), (some (124, false)), true⟩,
  ⟨(some 128), .pick (.t 124) (.k (.c (.bool true))) (.t 127), none, true⟩,
  ⟨(some 129), .mv (.t 128), none, true⟩,
  ⟨(some 130), .mv (.t 14), (some (129, false)), true⟩,
  ⟨(some 131), .bin .neq (.t 130) (.k (.c (.int .i64 0))), (some (129, false)), true⟩,
  ⟨(some 132), .pick (.t 129) (.k (.c (.bool true))) (.t 131), none, true⟩,
  ⟨(some 133), .mv (.t 132), none, true⟩,
  ⟨(some 134), .mv (.t 9), (some (133, false)), true⟩,
  ⟨(some 135), .len (.t 134), (some (133, false)), true⟩,
  ⟨(some 136), .mv (.t 11), (some (133, false)), true⟩,
  ⟨(some 137), .len (.t 136), (some (133, false)), true⟩,
  ⟨(some 138), .bin .neq (.t 135) (.t 137), (some (133, false)), true⟩,
  ⟨(some 139), .pick (.t 133) (.k (.c (.bool true))) (.t 138), none, true⟩,
  ⟨(some 140), .mv (.t 139), none, true⟩,
  ⟨(some 141), .ld false 5 (.t 2), (some (140, false)), true⟩,
  ⟨(some 142), .mv (.t 9), (some (140, false)), true⟩,
  ⟨(some 143), .call (.k (.fn 23 [])) [(.t 141), (.t 142)], (some (140, false)), true⟩,
  ⟨(some 144), .un .not (.t 143), (some (140, false)), true⟩,
  ⟨(some 145), .pick (.t 140) (.k (.c (.bool true))) (.t 144), none, true⟩]
@[reducible] def o9_31 : List Ins := [⟨(some 4), .mv (.k (.c (.bool false))), none, true⟩]
@[reducible] def v9_32 : VC := (.seq (.ops o9_31) .ret)
@[reducible] def v9_33 : VC := (.cond (.t 145) v9_32 .skip)
@[reducible] def o9_34 : List Ins := [⟨(some 17), .mv (.k (.c (.int .i64 0))), none, true⟩]
@[reducible] def o9_35 : List Ins := [⟨(some 146), .mv (.t 17), none, true⟩,
  ⟨(some 147), .mv (.t 9), none, true⟩,
  ⟨(some 148), .len (.t 147), none, true⟩,
  ⟨(some 149), .bin .lss (.t 146) (.t 148), none, true⟩]
@[reducible] def v9_36 : VC := (.cond (.t 149) .skip (.exit 4))
@[reducible] def o9_37 : List Ins := [⟨(some 152), .mv (.t 11), none, false⟩,
  ⟨(some 153), .mv (.t 17), none, false⟩,
  ⟨(some 154), .ia 2 (.t 152) (.t 153), none, false⟩,
  ⟨(some 155), .ld false 2 (.t 154), none, false⟩,
  ⟨(some 156), .mv (.t 6), none, false⟩,
  ⟨(some 157), .bin .mul (.k (.c (.int .i64 2))) (.t 156), none, false⟩,
  ⟨(some 158), .bin .add (.t 157) (.k (.c (.int .i64 1))), none, false⟩,
  ⟨(some 159), .mv (.t 9), none, false⟩,
  ⟨(some 160), .mv (.t 17), none, false⟩,
  ⟨(some 161), .ia 2 (.t 159) (.t 160), none, false⟩,
  ⟨(some 162), .fa 0 (.t 161), none, false⟩,
  ⟨(some 163), .ld true 1 (.t 162), none, false⟩,
  ⟨(some 164), .bin .sub (.t 158) (.t 163), none, false⟩,
  ⟨(some 165), .mv (.t 9), none, false⟩,
  ⟨(some 166), .mv (.t 17), none, false⟩,
  ⟨(some 167), .ia 2 (.t 165) (.t 166), none, false⟩,
  ⟨(some 168), .fa 1 (.t 167), none, false⟩,
  ⟨(some 169), .ld true 1 (.t 168), none, false⟩,
  ⟨(some 170), .bld [(.c (.int .i64 0)), (.c (.int .i64 0))] [(0, 1, (.t 164)), (1, 1, (.t 169))], none, false⟩,
  ⟨(some 171), .seq true [(0, true), (1, true)] (.t 155) (.t 170), none, true⟩]
@[reducible] def o9_38 : List Ins := [⟨(some 4), .mv (.k (.c (.bool false))), none, true⟩]
@[reducible] def v9_39 : VC := (.seq (.ops o9_38) .ret)
@[reducible] def v9_40 : VC := (.cond (.t 171) v9_39 .skip)
@[reducible] def v9_41 : VC := (.seq (.ops o9_37) v9_40)
@[reducible] def o9_42 : List Ins := [⟨(some 150), .mv (.t 17), none, true⟩,
  ⟨(some 151), .bin .add (.t 150) (.k (.c (.int .i64 1))), none, true⟩,
  ⟨(some 17), .mv (.t 151), none, true⟩]
@[reducible] def v9_43 : VC := (.seq (.block 5 v9_41) (.ops o9_42))
@[reducible] def v9_44 : VC := (.seq (.seq (.ops o9_35) v9_36) v9_43)
-- K9_3: changed and kept: [17]
@[reducible] def K9_3 : List Nat := [1, 2, 5, 6, 9, 11]
@[reducible] def v9_45 : VC := (.loop v9_44)
@[reducible] def v9_46 : VC := (.block 4 v9_45)
@[reducible] def o9_47 : List Ins := [⟨(some 173), .ld false 5 (.t 2), none, true⟩,
  ⟨(some 174), .mv (.t 1), none, true⟩,
  ⟨(some 175), .call (.k (.fn 21 [])) [(.t 173), (.t 174)], none, true⟩,
  ⟨(some 172), .mv (.t 175), none, true⟩,
  ⟨(some 176), .ext (.t 172) 0, none, true⟩,
  ⟨(some 177), .ext (.t 172) 1, none, true⟩,
  ⟨(some 18), .alloc [(.c (.int .i64 0)), (.c (.int .i64 0)), (.c (.int .i64 0))], none, true⟩,
  ⟨none, .st 3 (.t 18) (.t 176), none, true⟩,
  ⟨(some 10), .mv (.t 177), none, true⟩]
@[reducible] def o9_48 : List Ins := [⟨(some 179), .ld false 5 (.t 5), none, true⟩,
  ⟨(some 180), .mv (.t 1), none, true⟩,
  ⟨(some 181), .call (.k (.fn 21 [])) [(.t 179), (.t 180)], none, true⟩,
  ⟨(some 178), .mv (.t 181), none, true⟩,
  ⟨(some 182), .ext (.t 178) 0, none, true⟩,
  ⟨(some 183), .ext (.t 178) 1, none, true⟩,
  ⟨(some 19), .alloc [(.c (.int .i64 0)), (.c (.int .i64 0)), (.c (.int .i64 0))], none, true⟩,
  ⟨none, .st 3 (.t 19) (.t 182), none, true⟩,
  ⟨(some 12), .mv (.t 183), none, true⟩]
@[reducible] def o9_49 : List Ins := [⟨(some 184), .mv (.t 10), none, true⟩,
  ⟨(some 185), .bin .neq (.t 184) (.k (.c (.int .i64 0))), none, true⟩,
  ⟨(some 186), .mv (.t 185), none, true⟩,
  ⟨(some 187), .mv (.t 12), (some (186, false)), true⟩,
  ⟨(some 188), .bin .neq (.t 187) (.k (.c (.int .i64 0))), (some (186, false)), true⟩,
  ⟨(some 189), .pick (.t 186) (.k (.c (.bool true))) (.t 188), none, true⟩,
  ⟨(some 190), .mv (.t 189), none, true⟩,
  ⟨(some 191), .fa 0 (.t 18), (some (190, false)), true⟩,
  ⟨(some 192), .ld true 1 (.t 191), (some (190, false)), true⟩,
  ⟨(some 193), .bin .lss (.t 192) (.k (.c (.int .i64 0))), (some (190, false)), true⟩,
  ⟨(some 194), .pick (.t 190) (.k (.c (.bool true))) (.t 193), none, true⟩,
  ⟨(some 195), .mv (.t 194), none, true⟩,
  ⟨(some 196), .fa 0 (.t 18), (some (195, false)), true⟩,
  ⟨(some 197), .ld true 1 (.t 196), (some (195, false)), true⟩,
  ⟨(some 198), .mv (.t 6), (some (195, false)), true⟩,
  ⟨(some 199), .bin .gtr (.t 197) (.t 198), (some (195, false)), true⟩,
  ⟨(some 200), .pick (.t 195) (.k (.c (.bool true))) (.t 199), none, true⟩,
  ⟨(some 201), .mv (.t 200), none, true⟩,
  ⟨(some 202), .fa 2 (.t 18), (some (201, false)), true⟩,
  ⟨(some 203), .ld true 1 (.t 202), (some (201, false)), true⟩,
  ⟨(some 204), .bin .lss (.t 203) (.k (.c (.int .i64 (-1)))), (some (201, false)), true⟩,
  ⟨(some 205), .pick (.t 201) (.k (.c (.bool true))) (.t 204), none, true⟩,
  ⟨(some 206), .mv (.t 205), none, true⟩,
  ⟨(some 207), .fa 2 (.t 18), (some (206, false)), true⟩,
  ⟨(some 208), .ld true 1 (.t 207), (some (206, false)), true⟩,
  ⟨(some 209), .mv (.t 6), (some (206, false)), true⟩,
  ⟨(some 210), .bin .mul (.k (.c (.int .i64 2))) (.t 209), (some (206, false)), true⟩,
  ⟨(some 211), .bin .add (.t 210) (.k (.c (.int .i64 1))), (some (206, false)), true⟩,
  ⟨(some 212), .bin .gtr (.t 208) (.t 211), (some (206, false)), true⟩,
  ⟨(some 213), .pick (.t 206) (.k (.c (.bool true))) (.t 212), none, true⟩]
@[reducible] def o9_50 : List Ins := [⟨(some 4), .mv (.k (.c (.bool false))), none, true⟩]
@[reducible] def v9_51 : VC := (.seq (.ops o9_50) .ret)
@[reducible] def v9_52 : VC := (.cond (.t 213) v9_51 .skip)
@[reducible] def o9_53 : List Ins := [⟨(some 214), .mv (.t 6), none, true⟩,
  ⟨(some 215), .fa 0 (.t 18), none, true⟩,
  ⟨(some 216), .ld true 1 (.t 215), none, true⟩,
  ⟨(some 217), .bin .sub (.t 214) (.t 216), none, true⟩,
  ⟨(some 218), .fa 1 (.t 18), none, true⟩,
  ⟨(some 219), .ld true 1 (.t 218), none, true⟩,
  ⟨(some 220), .un .neg (.t 219), none, true⟩,
  ⟨(some 221), .bld [(.c (.int .i64 0)), (.c (.int .i64 0)), (.c (.int .i64 0))] [(0, 1, (.t 217)), (1, 1, (.t 220)), (2, 1, (.k (.c (.int .i64 (-1)))))], none, true⟩,
  ⟨(some 20), .alloc [(.c (.int .i64 0)), (.c (.int .i64 0)), (.c (.int .i64 0))], none, true⟩,
  ⟨none, .st 3 (.t 20) (.t 221), none, true⟩]
@[reducible] def o9_54 : List Ins := [⟨(some 222), .fa 2 (.t 18), none, true⟩,
  ⟨(some 223), .ld true 1 (.t 222), none, true⟩,
  ⟨(some 224), .bin .geq (.t 223) (.k (.c (.int .i64 0))), none, true⟩]
@[reducible] def o9_55 : List Ins := [⟨(some 225), .mv (.t 6), none, true⟩,
  ⟨(some 226), .bin .mul (.k (.c (.int .i64 2))) (.t 225), none, true⟩,
  ⟨(some 227), .bin .add (.t 226) (.k (.c (.int .i64 1))), none, true⟩,
  ⟨(some 228), .fa 2 (.t 18), none, true⟩,
  ⟨(some 229), .ld true 1 (.t 228), none, true⟩,
  ⟨(some 230), .bin .sub (.t 227) (.t 229), none, true⟩,
  ⟨(some 231), .fa 2 (.t 20), none, true⟩,
  ⟨none, .st 1 (.t 231) (.t 230), none, true⟩]
@[reducible] def v9_56 : VC := (.cond (.t 224) (.ops o9_55) .skip)
@[reducible] def o9_57 : List Ins := [⟨(some 232), .ld false 3 (.t 19), none, true⟩,
  ⟨(some 233), .ld false 3 (.t 20), none, true⟩,
  ⟨(some 234), .seq false [(0, true), (1, true), (2, true)] (.t 232) (.t 233), none, true⟩,
  ⟨(some 235), .mv (.t 234), none, true⟩,
  ⟨(some 236), .call (.k (.fn 19 [])) [], (some (235, true)), true⟩,
  ⟨(some 237), .pick (.t 235) (.t 236) (.k (.c (.bool false))), none, true⟩,
  ⟨(some 4), .mv (.t 237), none, true⟩]
@[reducible] def v9_58 : VC := (.seq (.ops o9_57) .ret)
@[reducible] def v9_59 : VC := (.seq (.seq (.ops o9_54) v9_56) v9_58)
@[reducible] def v9_60 : VC := (.seq (.ops o9_53) v9_59)
@[reducible] def v9_61 : VC := (.seq (.seq (.ops o9_49) v9_52) v9_60)
@[reducible] def v9_62 : VC := (.seq (.ops o9_48) v9_61)
@[reducible] def v9_63 : VC := (.seq (.ops o9_47) v9_62)
@[reducible] def v9_64 : VC := (.seq (.seq (.ops o9_34) v9_46) v9_63)
@[reducible] def v9_65 : VC := (.seq (.seq (.ops o9_30) v9_33) v9_64)
@[reducible] def v9_66 : VC := (.seq (.ops o9_29) v9_65)
@[reducible] def v9_67 : VC := (.seq (.ops o9_28) v9_66)
@[reducible] def v9_68 : VC := (.seq (.ops o9_27) v9_67)
@[reducible] def v9_69 : VC := (.seq (.ops o9_26) v9_68)
@[reducible] def v9_70 : VC := (.seq (.seq (.ops o9_17) v9_25) v9_69)
@[reducible] def v9_71 : VC := (.seq (.drw t9_16) v9_70)
@[reducible] def v9_72 : VC := (.seq (.seq (.ops o9_7) v9_15) v9_71)
@[reducible] def v9_73 : VC := (.seq (.ops o9_6) v9_72)
@[reducible] def v9_74 : VC := (.seq (.ops o9_5) v9_73)
@[reducible] def v9_75 : VC := (.seq (.seq (.ops o9_1) v9_4) v9_74)
def ir9 : FC := ⟨2, 238, [.t 4], (.seq (.ops o9_0) v9_75)⟩
theorem c9 : compM Try.prog [] 9 = some ir9 := by kernel_rfl



/-- The records, of which the first ones have been written. -/
def recsK (t : Tray) (k : Nat) : List Rec := (List.range t.n).map fun j => if j < k then turnR (t.rc (t.n - 1 - j)) else t.rc j
theorem recsK_len (t : Tray) (k : Nat) : (recsK t k).length = t.n := by simp [recsK]
theorem recsK_zero (t : Tray) : recsK t 0 = t.recs := by
  have hl : t.recs.length = t.n := rfl
  refine List.ext_getElem (by simp [recsK, hl]) fun i h1 h2 => ?_
  simp [recsK, Tray.rc, h2]
theorem recsK_step (t : Tray) {k : Nat} (h : k < t.n) : (recsK t k).set k (turnR (t.rc (t.n - 1 - k))) = recsK t (k + 1) := by
  refine List.ext_getElem (by simp [recsK]) fun i h1 h2 => ?_
  rw [recsK_len] at h2
  rw [List.getElem_set]
  by_cases e : k = i
  · subst e; rw [if_pos rfl]; simp [recsK]
  · rw [if_neg e]
    simp only [recsK, List.getElem_map, List.getElem_range]
    by_cases hk : i < k
    · rw [if_pos hk, if_pos (by omega)]
    · rw [if_neg hk, if_neg (by omega)]
theorem recsK_all (t : Tray) : recsK t t.n = (turnT t).recs := by
  have hl : t.recs.length = t.n := rfl
  refine List.ext_getElem (by rw [recsK_len]; exact (turnT_n t).symm) fun i h1 h2 => ?_
  rw [recsK_len] at h1
  have e : (turnT t).recs[i] = (turnT t).rc (t.n - 1 - (t.n - 1 - i)) := by
    unfold Tray.rc
    rw [show t.n - 1 - (t.n - 1 - i) = i from by omega, List.getD_eq_getElem?_getD, List.getElem?_eq_getElem h2]; rfl
  rw [e, turn_rc (by omega)]
  simp [recsK, h1]
theorem prs_grp' {l m : List Pr} (h : l.length = m.length) : grp 2 m.length ((flatG Pr.cds l).take (m.length * 2)) = l.map Pr.cds := by rw [← h]; exact prs_grp l
theorem prs_fit' {l m : List Pr} (h : l.length = m.length) : (m.length * 2 ≤ (flatG Pr.cds l).length) = True := by rw [← h]; exact prs_fit l
theorem recs_grp' {l : List Rec} {n : Nat} (h : l.length = n) : grp 2 n ((flatG Rec.cds l).take (n * 2)) = l.map Rec.cds := by rw [← h]; exact recs_grp l
theorem recs_fit' {l : List Rec} {n : Nat} (h : l.length = n) : (n * 2 ≤ (flatG Rec.cds l).length) = True := by rw [← h]; exact recs_fit l
theorem map_rc {t : Tray} {k : Nat} (h : k < t.n) : (t.recs.map Rec.cds).getD k [] = [.int .i64 (t.rc k).front, .int .i64 (t.rc k).back] := by
  have hl : t.recs.length = t.n := rfl
  rw [map_getD (by rw [hl]; exact h)]
  unfold Tray.rc; rw [List.getD_eq_getElem?_getD, List.getElem?_eq_getElem (by rw [hl]; exact h)]; rfl
set_option maxRecDepth 20000 in
set_option maxHeartbeats 16000000 in
theorem law9 (t : Tray) (x : Int) : FSpec Try.prog 9 [t.av, iv x] (.c (.bool true)) := by
  have hready := ready16 t
  have hmax : maxLen = 9223372036854775807 := rfl
  have htime := ristime18 x
  by_cases hgo : (t.ok && isTime x) = true
  rotate_left
  · have hb : (!t.ok || !isTime x) = true := by
      cases h1 : t.ok
      · rfl
      · rw [h1] at hgo; simp at hgo ⊢; exact hgo
    refine FSpec_of c9 (Nat.le_refl _) (by decide) fun C hP hN hC hL => ?_
    simp only [ir9, Tray.av]
    (repeat ((first | refine WV_seq_ ?_ | refine WV_block ?_ | refine WV_ops ?_ | refine WV_skip ?_ | refine WV_exit ?_); (try simp only [go_sem, init_env', Nat.reduceEqDiff, Nat.reduceAdd, Nat.reduceMul, reduceIte, Nat.reduceLeDiff, Nat.reduceLT, Nat.reduceBEq, reduceCtorEq, hP, ]); (repeat (refine And.intro (by first | omega | (intros; simp_all; done) | (intros; simp_all; omega)) ?_))))
    (refine AS_pure (hready) rfl rfl rfl rfl rfl ?_; simp only [go_sem, init_env', Nat.reduceEqDiff, Nat.reduceAdd, Nat.reduceMul, reduceIte, Nat.reduceLeDiff, Nat.reduceLT, Nat.reduceBEq, reduceCtorEq, hP, Tray.av]; (repeat (refine And.intro (by first | omega | (intros; simp_all; done) | (intros; simp_all; omega)) ?_)); (repeat ((first | refine WV_seq_ ?_ | refine WV_block ?_ | refine WV_ops ?_ | refine WV_skip ?_ | refine WV_exit ?_); (try simp only [go_sem, init_env', Nat.reduceEqDiff, Nat.reduceAdd, Nat.reduceMul, reduceIte, Nat.reduceLeDiff, Nat.reduceLT, Nat.reduceBEq, reduceCtorEq, hP, Tray.av]); (repeat (refine And.intro (by first | omega | (intros; simp_all; done) | (intros; simp_all; omega)) ?_)))))
    (refine AG_pure (fun hG => htime) rfl (fun hG => by first | (simp only [go_sem, init_env', Nat.reduceEqDiff, Nat.reduceAdd, Nat.reduceMul, reduceIte, Nat.reduceLeDiff, Nat.reduceLT, Nat.reduceBEq, reduceCtorEq, hG]; done) | (simp only [go_sem, init_env', Nat.reduceEqDiff, Nat.reduceAdd, Nat.reduceMul, reduceIte, Nat.reduceLeDiff, Nat.reduceLT, Nat.reduceBEq, reduceCtorEq]; revert hG; simp; done) | (simp only [go_sem, init_env', Nat.reduceEqDiff, Nat.reduceAdd, Nat.reduceMul, reduceIte, Nat.reduceLeDiff, Nat.reduceLT, Nat.reduceBEq, reduceCtorEq, hG]; simp_all; done) | (revert hG; simp; done) | simp_all) rfl rfl rfl ?_; simp only [go_sem, init_env', Nat.reduceEqDiff, Nat.reduceAdd, Nat.reduceMul, reduceIte, Nat.reduceLeDiff, Nat.reduceLT, Nat.reduceBEq, reduceCtorEq, hP, hb]; (repeat (refine And.intro (by first | omega | (intros; simp_all; done) | (intros; simp_all; omega)) ?_)); (repeat ((first | refine WV_seq_ ?_ | refine WV_block ?_ | refine WV_ops ?_ | refine WV_skip ?_ | refine WV_exit ?_); (try simp only [go_sem, init_env', Nat.reduceEqDiff, Nat.reduceAdd, Nat.reduceMul, reduceIte, Nat.reduceLeDiff, Nat.reduceLT, Nat.reduceBEq, reduceCtorEq, hP, hb]); (repeat (refine And.intro (by first | omega | (intros; simp_all; done) | (intros; simp_all; omega)) ?_)))))
    (refine WV_cond rfl (fun h => ?_) (fun h => ?_))
    · (repeat ((first | refine WV_seq_ ?_ | refine WV_block ?_ | refine WV_ops ?_ | refine WV_skip ?_ | refine WV_exit ?_); (try simp only [go_sem, init_env', Nat.reduceEqDiff, Nat.reduceAdd, Nat.reduceMul, reduceIte, Nat.reduceLeDiff, Nat.reduceLT, Nat.reduceBEq, reduceCtorEq, hP, ]); (repeat (refine And.intro (by first | omega | (intros; simp_all; done) | (intros; simp_all; omega)) ?_))))
      (refine AS_pure (works19) rfl rfl rfl rfl rfl ?_; simp only [go_sem, init_env', Nat.reduceEqDiff, Nat.reduceAdd, Nat.reduceMul, reduceIte, Nat.reduceLeDiff, Nat.reduceLT, Nat.reduceBEq, reduceCtorEq, hP, ]; (repeat (refine And.intro (by first | omega | (intros; simp_all; done) | (intros; simp_all; omega)) ?_)); (repeat ((first | refine WV_seq_ ?_ | refine WV_block ?_ | refine WV_ops ?_ | refine WV_skip ?_ | refine WV_exit ?_); (try simp only [go_sem, init_env', Nat.reduceEqDiff, Nat.reduceAdd, Nat.reduceMul, reduceIte, Nat.reduceLeDiff, Nat.reduceLT, Nat.reduceBEq, reduceCtorEq, hP, ]); (repeat (refine And.intro (by first | omega | (intros; simp_all; done) | (intros; simp_all; omega)) ?_)))))
      (refine WV_ret ?_; simp only [thenQ, inQ, RetQ, RetOk, resAll, resA]; simp only [go_sem, init_env', Nat.reduceEqDiff, Nat.reduceAdd, Nat.reduceMul, reduceIte, Nat.reduceLeDiff, Nat.reduceLT, Nat.reduceBEq, reduceCtorEq, tupA, AV.port, AV.portL, exists_eq_left', ]; (first | exact AVle.of rfl | refine AVle.of ?_ | skip))
    · simp at h
  simp only [Bool.and_eq_true] at hgo
  obtain ⟨hok, htx⟩ := hgo
  rw [hok] at hready
  rw [htx] at htime
  obtain ⟨ht, h12⟩ := Tray.ok_spec hok
  have hn6 := ht.n6
  have hn1 := ht.n1
  have hat := ht.at_
  have hrl : t.recs.length = t.n := rfl
  have hx : 0 ≤ x ∧ x ≤ 9999 := by simpa [isTime, within] using htx
  have hok' := turnT_ok hok
  have ht' := (Tray.ok_spec hok').1
  have htp := turn_plays ht ht'
  have hts := turn_stand ht ht' x
  have hav : (turnT t).av = .agg [.c (recsC (recsK t t.n)), iv ((t.n : Int) - 1 - t.at_), iv (-t.way), iv t.step, .c (prsC (t.pres.map (turnP t.n)))] := by rw [recsK_all]; rfl
  have b1 := plays22 t
  rw [show playsR t = (playsS t, 0) by unfold playsR; rw [hok]; rfl] at b1
  have b2 := plays22 (turnT t)
  rw [show playsR (turnT t) = ((playsS t).map (turnP t.n), 0) by unfold playsR; rw [hok', htp.1]; rfl, hav] at b2
  have b3 := steps35 t
  rw [show stepsR t = ((goesS t).steps, 0) by unfold stepsR; rw [hok]; rfl] at b3
  have b4 := steps35 (turnT t)
  rw [show stepsR (turnT t) = ((goesS t).steps, 0) by unfold stepsR; rw [hok', htp.2]; rfl, hav] at b4
  have b5 := stand21 t x
  rw [show standR t x = (standV t x, 0) by unfold standR; rw [hok, htx]; rfl] at b5
  have b6 := stand21 (turnT t) x
  rw [show standR (turnT t) x = (turnSp t.n (standV t x), 0) by unfold standR; rw [hok', htx, hts]; rfl, hav] at b6
  have hsane := run_sane ht (goes_ok ht)
  have b7 := sane23 ht (l := playsS t) hsane
  have hside : ∀ p ∈ playsS t, 0 ≤ p.side ∧ p.side < 2 * (t.n : Int) := hsane.side
  have hlen : (playsS t).length ≤ 13 := plays_len ht
  obtain ⟨⟨k0, up, hk0, e1, e2, e3⟩, e4⟩ := stand_shows ht hx.1
  have e5 : -1 ≤ (standV t x).side ∧ (standV t x).side < 2 * (t.n : Int) := by
    rw [e4]
    rcases e3 with e3 | e3
    · rw [e3]; omega
    · rw [e3]; unfold sideAt; split <;> omega
  clear e3 e4 hts hav hok' ht' htp hsane
  have hne : t.recs ≠ [] := by intro h; unfold Tray.n at hn1; rw [h] at hn1; simp at hn1
  have hcop := copyV t hne (by omega) (by omega)
  generalize hSt : standV t x = S at *
  obtain ⟨sa, sw, ss, sf⟩ := S
  simp only at e1 e2 e5
  subst e1
  subst e2
  generalize (goesS t).steps = ST at *
  generalize playsS t = L at *
  simp only [spAv, turnSp] at b5 b6
  have hw1 := w64 (n := (t.n : Int) - 1) (by omega) (by omega)
  have hw2 := w64 (n := (t.n : Int) - 1 - t.at_) (by omega) (by omega)
  have hwy := ht.way
  have hw3 := w64 (n := -t.way) (by omega) (by omega)
  have hwi := Int.zero_sub t.way
  have hwi2 := Int.zero_sub (wayI up)
  have hw4 := w64 (n := 2 * ((t.n : Int) - 1)) (by omega) (by omega)
  have hw5 := w64 (n := 2 * ((t.n : Int) - 1) + 1) (by omega) (by omega)
  have hwu := wayI_cases up
  have hw6 := w64 (n := -wayI up) (by omega) (by omega)
  generalize wayI up = wu at *
  have hw7 := w64 (n := (t.n : Int) - 1 - (k0 : Int)) (by omega) (by omega)
  have d1 : decide ((k0 : Int) < 0) = false := by simp
  have d2 : decide ((t.n : Int) - 1 < (k0 : Int)) = false := by simp; omega
  have d3 : decide (ss < -1) = false := by simp; omega
  have d4 : decide (2 * ((t.n : Int) - 1) + 1 < ss) = false := by simp; omega
  have hrg := recs_grp' (recsK_len t t.n)
  have hrf := recs_fit' (recsK_len t t.n)
  have hpg := prs_grp' (l := t.pres.map (turnP t.n)) (m := t.pres) (by simp)
  have hpf := prs_fit' (l := t.pres.map (turnP t.n)) (m := t.pres) (by simp)
  have hz : ∀ j, cellsG Rec.cds t.recs j = cellsG Rec.cds (recsK t 0) j := fun j => by rw [recsK_zero]
  refine FSpec_of c9 (Nat.le_refl _) (by decide) fun C hP hN hC hL => ?_
  simp only [ir9, Tray.av]
  (repeat ((first | refine WV_seq_ ?_ | refine WV_block ?_ | refine WV_ops ?_ | refine WV_skip ?_ | refine WV_exit ?_); (try simp only [go_sem, init_env', Nat.reduceEqDiff, Nat.reduceAdd, Nat.reduceMul, reduceIte, Nat.reduceLeDiff, Nat.reduceLT, Nat.reduceBEq, reduceCtorEq, hP, ]); (repeat (refine And.intro (by first | omega | (intros; simp_all; done) | (intros; simp_all; omega)) ?_))))
  (refine AS_pure (hready) rfl rfl rfl rfl rfl ?_; simp only [go_sem, init_env', Nat.reduceEqDiff, Nat.reduceAdd, Nat.reduceMul, reduceIte, Nat.reduceLeDiff, Nat.reduceLT, Nat.reduceBEq, reduceCtorEq, hP, Tray.av]; (repeat (refine And.intro (by first | omega | (intros; simp_all; done) | (intros; simp_all; omega)) ?_)); (repeat ((first | refine WV_seq_ ?_ | refine WV_block ?_ | refine WV_ops ?_ | refine WV_skip ?_ | refine WV_exit ?_); (try simp only [go_sem, init_env', Nat.reduceEqDiff, Nat.reduceAdd, Nat.reduceMul, reduceIte, Nat.reduceLeDiff, Nat.reduceLT, Nat.reduceBEq, reduceCtorEq, hP, Tray.av]); (repeat (refine And.intro (by first | omega | (intros; simp_all; done) | (intros; simp_all; omega)) ?_)))))
  (refine AG_pure (fun hG => htime) rfl (fun hG => by first | (simp only [go_sem, init_env', Nat.reduceEqDiff, Nat.reduceAdd, Nat.reduceMul, reduceIte, Nat.reduceLeDiff, Nat.reduceLT, Nat.reduceBEq, reduceCtorEq, hG]; done) | (simp only [go_sem, init_env', Nat.reduceEqDiff, Nat.reduceAdd, Nat.reduceMul, reduceIte, Nat.reduceLeDiff, Nat.reduceLT, Nat.reduceBEq, reduceCtorEq]; revert hG; simp; done) | (simp only [go_sem, init_env', Nat.reduceEqDiff, Nat.reduceAdd, Nat.reduceMul, reduceIte, Nat.reduceLeDiff, Nat.reduceLT, Nat.reduceBEq, reduceCtorEq, hG]; simp_all; done) | (revert hG; simp; done) | simp_all) rfl rfl rfl ?_; simp only [go_sem, init_env', Nat.reduceEqDiff, Nat.reduceAdd, Nat.reduceMul, reduceIte, Nat.reduceLeDiff, Nat.reduceLT, Nat.reduceBEq, reduceCtorEq, hP, ]; (repeat (refine And.intro (by first | omega | (intros; simp_all; done) | (intros; simp_all; omega)) ?_)); (repeat ((first | refine WV_seq_ ?_ | refine WV_block ?_ | refine WV_ops ?_ | refine WV_skip ?_ | refine WV_exit ?_); (try simp only [go_sem, init_env', Nat.reduceEqDiff, Nat.reduceAdd, Nat.reduceMul, reduceIte, Nat.reduceLeDiff, Nat.reduceLT, Nat.reduceBEq, reduceCtorEq, hP, ]); (repeat (refine And.intro (by first | omega | (intros; simp_all; done) | (intros; simp_all; omega)) ?_)))))
  (refine WV_cond rfl (fun h => ?_) (fun h => ?_))
  · simp at h
  (repeat ((first | refine WV_seq_ ?_ | refine WV_block ?_ | refine WV_ops ?_ | refine WV_skip ?_ | refine WV_exit ?_); (try simp only [go_sem, init_env', Nat.reduceEqDiff, Nat.reduceAdd, Nat.reduceMul, reduceIte, Nat.reduceLeDiff, Nat.reduceLT, Nat.reduceBEq, reduceCtorEq, hP, ]); (repeat (refine And.intro (by first | omega | (intros; simp_all; done) | (intros; simp_all; omega)) ?_))))
  refine AS_new hcop rfl rfl rfl rfl ?_
  rintro res os ⟨cap, j, y, o, q1, q2, q3, rfl, rfl, hy⟩
  rcases hy with ⟨hpn, rfl, rfl⟩ | ⟨hpn, cap2, j2, r1, r2, r3, rfl, rfl⟩
  · refine ⟨[900, 901], .agg [.vw 2 900 0 t.recs.length cap, iv t.at_, iv t.way, iv t.step, .gr 901], [.box (cellsG Rec.cds t.recs j), .grow 27 2 []], by decide, rfl, by simp only [go_sem, init_env', Nat.reduceEqDiff, Nat.reduceAdd, Nat.reduceMul, reduceIte, Nat.reduceLeDiff, Nat.reduceLT, Nat.reduceBEq, reduceCtorEq, decide_true], rfl, (by simp only [obsBack, Ob.back, back_cellsG]; rfl), ?_⟩
    simp only [go_sem, init_env', Nat.reduceEqDiff, Nat.reduceAdd, Nat.reduceMul, reduceIte, Nat.reduceLeDiff, Nat.reduceLT, Nat.reduceBEq, reduceCtorEq, hP, ownBack]
    (repeat (refine And.intro (by first | omega | (intros; simp_all; done) | (intros; simp_all; omega)) ?_))
    rw [hz]
    (repeat ((first | refine WV_seq_ ?_ | refine WV_block ?_ | refine WV_ops ?_ | refine WV_skip ?_ | refine WV_exit ?_); (try simp only [go_sem, init_env', Nat.reduceEqDiff, Nat.reduceAdd, Nat.reduceMul, reduceIte, Nat.reduceLeDiff, Nat.reduceLT, Nat.reduceBEq, reduceCtorEq, hP, recsC, List.length_map, hrl, hw1]); (repeat (refine And.intro (by first | omega | (intros; simp_all; done) | (intros; simp_all; omega)) ?_))))
    refine WV_loopK K9_1 [5, 900] (fun k : Nat => k ≤ t.n) (fun k => t.n - k) (fun k => [(7, iv k)]) (fun k => [(5, .box [.vw 2 900 0 t.n cap, iv t.at_, iv t.way, iv t.step, .gr 901]), (900, .box (cellsG Rec.cds (recsK t k) j))]) 0 (Nat.zero_le _) ?_ ?_
    · (refine Sub_of (by simp only [go_sem, init_env', Nat.reduceEqDiff, Nat.reduceAdd, Nat.reduceMul, reduceIte, Nat.reduceLeDiff, Nat.reduceLT, Nat.reduceBEq, reduceCtorEq]; ((repeat' (first | exact EnvLe_e0 _ _ | refine EnvLe_upd ?_ ?_)) <;> ((try simp only [upd_app, e0_app, o0_app, Nat.reduceEqDiff, reduceIte]); first | exact AWk.refl _ _ | exact AWk.int (by omega) | exact AWk.int (by rw [w64 (by omega) (by omega)]; omega) | exact AWk.grow rfl | exact AWk.nil _ | exact AWk.of (by simp)))) (by simp only [go_sem, init_env', Nat.reduceEqDiff, Nat.reduceAdd, Nat.reduceMul, reduceIte, Nat.reduceLeDiff, Nat.reduceLT, Nat.reduceBEq, reduceCtorEq]; (first | ((repeat' (first | exact ObjLe_o0 _ | exact ObjLe.rfl' _ | refine ObjLe_same ?_ | refine ObjLe_upd ?_ ?_ | refine ObjLe_new rfl ?_)) <;> rfl) | (refine ObjLe_X ?_; (repeat' (first | exact ObjLeX_o0 _ _ | refine ObjLeX_skip rfl ?_ | refine ObjLeX_upd ?_ ?_)) <;> rfl))))
    intro k hk
    simp only [go_sem, init_env', Nat.reduceEqDiff, Nat.reduceAdd, Nat.reduceMul, reduceIte, Nat.reduceLeDiff, Nat.reduceLT, Nat.reduceBEq, reduceCtorEq]
    (repeat ((first | refine WV_seq_ ?_ | refine WV_block ?_ | refine WV_ops ?_ | refine WV_skip ?_ | refine WV_exit ?_); (try simp only [go_sem, init_env', Nat.reduceEqDiff, Nat.reduceAdd, Nat.reduceMul, reduceIte, Nat.reduceLeDiff, Nat.reduceLT, Nat.reduceBEq, reduceCtorEq, hP, ]); (repeat (refine And.intro (by first | omega | (intros; simp_all; done) | (intros; simp_all; omega)) ?_))))
    (refine WV_cond rfl (fun h => ?_) (fun h => ?_))
    · have hkl : k < t.n := by simp at h; omega
      have hI : (k : Int) < (t.n : Int) := by omega
      have hw8 := w64 (n := (k : Int) + 1) (by omega) (by omega)
      have e0 : (t.n : Int) - 1 - (k : Int) = ((t.n - 1 - k : Nat) : Int) := by omega
      have hw9 := w64 (n := ((t.n - 1 - k : Nat) : Int)) (by omega) (by omega)
      have g1 := map_rc (t := t) (k := t.n - 1 - k) (by omega)
      have hI2 : ((t.n - 1 - k : Nat) : Int) < (t.n : Int) := by omega
      have hst := recsK_step t hkl
      have hlk : k < (recsK t k).length := by rw [recsK_len]; exact hkl
      have hsp := put2 rec_two hlk j (turnR (t.rc (t.n - 1 - k))) (x := .int .i64 (t.rc (t.n - 1 - k)).back) (y := .int .i64 (t.rc (t.n - 1 - k)).front) rfl
      rw [hst] at hsp
      have hcl : k * 2 + 2 ≤ (cellsG Rec.cds (recsK t k) j).length := by rw [cellsG_len rec_two, recsK_len]; omega
      generalize t.rc (t.n - 1 - k) = X at *
      generalize t.n - 1 - k = m at *
      (repeat ((first | refine WV_seq_ ?_ | refine WV_block ?_ | refine WV_ops ?_ | refine WV_skip ?_ | refine WV_exit ?_); (try simp only [go_sem, init_env', Nat.reduceEqDiff, Nat.reduceAdd, Nat.reduceMul, reduceIte, Nat.reduceLeDiff, Nat.reduceLT, Nat.reduceBEq, reduceCtorEq, hP, e0, hw9, recsC, g1, hI2, hI, hkl, List.length_map, hrl, Int.natCast_nonneg, hsp, hcl, hw8]); (repeat (refine And.intro (by first | omega | (intros; simp_all; done) | (intros; simp_all; omega)) ?_))))
      refine ⟨k + 1, by omega, by omega, ?_⟩
      (refine Sub_of (by simp only [go_sem, init_env', Nat.reduceEqDiff, Nat.reduceAdd, Nat.reduceMul, reduceIte, Nat.reduceLeDiff, Nat.reduceLT, Nat.reduceBEq, reduceCtorEq]; ((repeat' (first | exact EnvLe_e0 _ _ | refine EnvLe_upd ?_ ?_)) <;> ((try simp only [upd_app, e0_app, o0_app, Nat.reduceEqDiff, reduceIte]); first | exact AWk.refl _ _ | exact AWk.int (by omega) | exact AWk.int (by rw [w64 (by omega) (by omega)]; omega) | exact AWk.grow rfl | exact AWk.nil _ | exact AWk.of (by simp)))) (by simp only [go_sem, init_env', Nat.reduceEqDiff, Nat.reduceAdd, Nat.reduceMul, reduceIte, Nat.reduceLeDiff, Nat.reduceLT, Nat.reduceBEq, reduceCtorEq]; (first | ((repeat' (first | exact ObjLe_o0 _ | exact ObjLe.rfl' _ | refine ObjLe_same ?_ | refine ObjLe_upd ?_ ?_ | refine ObjLe_new rfl ?_)) <;> rfl) | (refine ObjLe_X ?_; (repeat' (first | exact ObjLeX_o0 _ _ | refine ObjLeX_skip rfl ?_ | refine ObjLeX_upd ?_ ?_)) <;> rfl))))
    have h : k = t.n := by simp at h; omega
    subst h
    (refine WV_exit ?_; simp only [go_sem, init_env', Nat.reduceEqDiff, Nat.reduceAdd, Nat.reduceMul, reduceIte, Nat.reduceLeDiff, Nat.reduceLT, Nat.reduceBEq, reduceCtorEq])
    refine WV_freezeJ 900 (ds := flatG Rec.cds (recsK t t.n)) (junk := List.replicate j .non) rfl ?_
    simp only [go_sem, init_env', Nat.reduceEqDiff, Nat.reduceAdd, Nat.reduceMul, reduceIte, Nat.reduceLeDiff, Nat.reduceLT, Nat.reduceBEq, reduceCtorEq, hrg, hrf, frz_cellsG]
    refine WV_keep [1, 2, 5, 6] ?_
    simp only [go_sem, init_env', Nat.reduceEqDiff, Nat.reduceAdd, Nat.reduceMul, reduceIte, Nat.reduceLeDiff, Nat.reduceLT, Nat.reduceBEq, reduceCtorEq]
    (repeat ((first | refine WV_seq_ ?_ | refine WV_block ?_ | refine WV_ops ?_ | refine WV_skip ?_ | refine WV_exit ?_); (try simp only [go_sem, init_env', Nat.reduceEqDiff, Nat.reduceAdd, Nat.reduceMul, reduceIte, Nat.reduceLeDiff, Nat.reduceLT, Nat.reduceBEq, reduceCtorEq, hP, ]); (repeat (refine And.intro (by first | omega | (intros; simp_all; done) | (intros; simp_all; omega)) ?_))))
    (refine WV_drw ?_; simp only [go_sem, init_env', Nat.reduceEqDiff, Nat.reduceAdd, Nat.reduceMul, reduceIte, Nat.reduceLeDiff, Nat.reduceLT, Nat.reduceBEq, reduceCtorEq, hP, ]; (repeat' (refine And.intro ?_ ?_)))
    all_goals
      have hmp : t.pres.map (turnP t.n) = [] := by rw [hpn]; rfl
      rw [hmp] at b2 b4 b6
      simp only [prsC, List.map_nil] at b2 b4 b6
      (repeat ((first | refine WV_seq_ ?_ | refine WV_block ?_ | refine WV_ops ?_ | refine WV_skip ?_ | refine WV_exit ?_); (try simp only [go_sem, init_env', Nat.reduceEqDiff, Nat.reduceAdd, Nat.reduceMul, reduceIte, Nat.reduceLeDiff, Nat.reduceLT, Nat.reduceBEq, reduceCtorEq, hP, hwi, hw2, hw3]); (repeat (refine And.intro (by first | omega | (intros; simp_all; done) | (intros; simp_all; omega)) ?_))))
      refine WV_loopK K9_2 [] (fun k : Nat => k ≤ 0) (fun k => 0) (fun k => [(8, iv k)]) (fun k => []) 0 (Nat.zero_le _) ?_ ?_
      · (refine Sub_of (by simp only [go_sem, init_env', Nat.reduceEqDiff, Nat.reduceAdd, Nat.reduceMul, reduceIte, Nat.reduceLeDiff, Nat.reduceLT, Nat.reduceBEq, reduceCtorEq]; ((repeat' (first | exact EnvLe_e0 _ _ | refine EnvLe_upd ?_ ?_)) <;> ((try simp only [upd_app, e0_app, o0_app, Nat.reduceEqDiff, reduceIte]); first | exact AWk.refl _ _ | exact AWk.int (by omega) | exact AWk.int (by rw [w64 (by omega) (by omega)]; omega) | exact AWk.grow rfl | exact AWk.nil _ | exact AWk.of (by simp)))) (by simp only [go_sem, init_env', Nat.reduceEqDiff, Nat.reduceAdd, Nat.reduceMul, reduceIte, Nat.reduceLeDiff, Nat.reduceLT, Nat.reduceBEq, reduceCtorEq]; (first | ((repeat' (first | exact ObjLe_o0 _ | exact ObjLe.rfl' _ | refine ObjLe_same ?_ | refine ObjLe_upd ?_ ?_ | refine ObjLe_new rfl ?_)) <;> rfl) | (refine ObjLe_X ?_; (repeat' (first | exact ObjLeX_o0 _ _ | refine ObjLeX_skip rfl ?_ | refine ObjLeX_upd ?_ ?_)) <;> rfl))))
      intro k hk
      simp only [go_sem, init_env', Nat.reduceEqDiff, Nat.reduceAdd, Nat.reduceMul, reduceIte, Nat.reduceLeDiff, Nat.reduceLT, Nat.reduceBEq, reduceCtorEq]
      have hk0 : k = 0 := by omega
      subst hk0
      (repeat ((first | refine WV_seq_ ?_ | refine WV_block ?_ | refine WV_ops ?_ | refine WV_skip ?_ | refine WV_exit ?_); (try simp only [go_sem, init_env', Nat.reduceEqDiff, Nat.reduceAdd, Nat.reduceMul, reduceIte, Nat.reduceLeDiff, Nat.reduceLT, Nat.reduceBEq, reduceCtorEq, hP, ]); (repeat (refine And.intro (by first | omega | (intros; simp_all; done) | (intros; simp_all; omega)) ?_))))
      (refine WV_cond rfl (fun h => ?_) (fun h => ?_))
      · simp at h
      (refine WV_exit ?_; simp only [go_sem, init_env', Nat.reduceEqDiff, Nat.reduceAdd, Nat.reduceMul, reduceIte, Nat.reduceLeDiff, Nat.reduceLT, Nat.reduceBEq, reduceCtorEq])
      refine WV_keep [1, 2, 5, 6] ?_
      simp only [go_sem, init_env', Nat.reduceEqDiff, Nat.reduceAdd, Nat.reduceMul, reduceIte, Nat.reduceLeDiff, Nat.reduceLT, Nat.reduceBEq, reduceCtorEq]
      (repeat ((first | refine WV_seq_ ?_ | refine WV_block ?_ | refine WV_ops ?_ | refine WV_skip ?_ | refine WV_exit ?_); (try simp only [go_sem, init_env', Nat.reduceEqDiff, Nat.reduceAdd, Nat.reduceMul, reduceIte, Nat.reduceLeDiff, Nat.reduceLT, Nat.reduceBEq, reduceCtorEq, hP, ]); (repeat (refine And.intro (by first | omega | (intros; simp_all; done) | (intros; simp_all; omega)) ?_))))
      (refine AS_pure (b1) rfl rfl rfl rfl rfl ?_; simp only [go_sem, init_env', Nat.reduceEqDiff, Nat.reduceAdd, Nat.reduceMul, reduceIte, Nat.reduceLeDiff, Nat.reduceLT, Nat.reduceBEq, reduceCtorEq, hP, Tray.av]; (repeat (refine And.intro (by first | omega | (intros; simp_all; done) | (intros; simp_all; omega)) ?_)); (repeat ((first | refine WV_seq_ ?_ | refine WV_block ?_ | refine WV_ops ?_ | refine WV_skip ?_ | refine WV_exit ?_); (try simp only [go_sem, init_env', Nat.reduceEqDiff, Nat.reduceAdd, Nat.reduceMul, reduceIte, Nat.reduceLeDiff, Nat.reduceLT, Nat.reduceBEq, reduceCtorEq, hP, Tray.av]); (repeat (refine And.intro (by first | omega | (intros; simp_all; done) | (intros; simp_all; omega)) ?_)))))
      (refine AS_pure (b2) rfl rfl rfl rfl rfl ?_; simp only [go_sem, init_env', Nat.reduceEqDiff, Nat.reduceAdd, Nat.reduceMul, reduceIte, Nat.reduceLeDiff, Nat.reduceLT, Nat.reduceBEq, reduceCtorEq, hP, prsC, recsC]; (repeat (refine And.intro (by first | omega | (intros; simp_all; done) | (intros; simp_all; omega)) ?_)); (repeat ((first | refine WV_seq_ ?_ | refine WV_block ?_ | refine WV_ops ?_ | refine WV_skip ?_ | refine WV_exit ?_); (try simp only [go_sem, init_env', Nat.reduceEqDiff, Nat.reduceAdd, Nat.reduceMul, reduceIte, Nat.reduceLeDiff, Nat.reduceLT, Nat.reduceBEq, reduceCtorEq, hP, prsC, recsC]); (repeat (refine And.intro (by first | omega | (intros; simp_all; done) | (intros; simp_all; omega)) ?_)))))
      (refine AS_pure (b3) rfl rfl rfl rfl rfl ?_; simp only [go_sem, init_env', Nat.reduceEqDiff, Nat.reduceAdd, Nat.reduceMul, reduceIte, Nat.reduceLeDiff, Nat.reduceLT, Nat.reduceBEq, reduceCtorEq, hP, Tray.av]; (repeat (refine And.intro (by first | omega | (intros; simp_all; done) | (intros; simp_all; omega)) ?_)); (repeat ((first | refine WV_seq_ ?_ | refine WV_block ?_ | refine WV_ops ?_ | refine WV_skip ?_ | refine WV_exit ?_); (try simp only [go_sem, init_env', Nat.reduceEqDiff, Nat.reduceAdd, Nat.reduceMul, reduceIte, Nat.reduceLeDiff, Nat.reduceLT, Nat.reduceBEq, reduceCtorEq, hP, Tray.av]); (repeat (refine And.intro (by first | omega | (intros; simp_all; done) | (intros; simp_all; omega)) ?_)))))
      (refine AS_pure (b4) rfl rfl rfl rfl rfl ?_; simp only [go_sem, init_env', Nat.reduceEqDiff, Nat.reduceAdd, Nat.reduceMul, reduceIte, Nat.reduceLeDiff, Nat.reduceLT, Nat.reduceBEq, reduceCtorEq, hP, prsC, recsC, bne_self_eq_false, List.length_map]; (repeat (refine And.intro (by first | omega | (intros; simp_all; done) | (intros; simp_all; omega)) ?_)); (repeat ((first | refine WV_seq_ ?_ | refine WV_block ?_ | refine WV_ops ?_ | refine WV_skip ?_ | refine WV_exit ?_); (try simp only [go_sem, init_env', Nat.reduceEqDiff, Nat.reduceAdd, Nat.reduceMul, reduceIte, Nat.reduceLeDiff, Nat.reduceLT, Nat.reduceBEq, reduceCtorEq, hP, prsC, recsC, bne_self_eq_false, List.length_map]); (repeat (refine And.intro (by first | omega | (intros; simp_all; done) | (intros; simp_all; omega)) ?_)))))
      (refine AG_pure (fun hG => b7) rfl (fun hG => by first | (simp only [go_sem, init_env', Nat.reduceEqDiff, Nat.reduceAdd, Nat.reduceMul, reduceIte, Nat.reduceLeDiff, Nat.reduceLT, Nat.reduceBEq, reduceCtorEq, hG]; done) | (simp only [go_sem, init_env', Nat.reduceEqDiff, Nat.reduceAdd, Nat.reduceMul, reduceIte, Nat.reduceLeDiff, Nat.reduceLT, Nat.reduceBEq, reduceCtorEq]; revert hG; simp; done) | (simp only [go_sem, init_env', Nat.reduceEqDiff, Nat.reduceAdd, Nat.reduceMul, reduceIte, Nat.reduceLeDiff, Nat.reduceLT, Nat.reduceBEq, reduceCtorEq, hG]; simp_all; done) | (revert hG; simp; done) | simp_all) rfl rfl rfl ?_; simp only [go_sem, init_env', Nat.reduceEqDiff, Nat.reduceAdd, Nat.reduceMul, reduceIte, Nat.reduceLeDiff, Nat.reduceLT, Nat.reduceBEq, reduceCtorEq, hP, Tray.av]; (repeat (refine And.intro (by first | omega | (intros; simp_all; done) | (intros; simp_all; omega)) ?_)); (repeat ((first | refine WV_seq_ ?_ | refine WV_block ?_ | refine WV_ops ?_ | refine WV_skip ?_ | refine WV_exit ?_); (try simp only [go_sem, init_env', Nat.reduceEqDiff, Nat.reduceAdd, Nat.reduceMul, reduceIte, Nat.reduceLeDiff, Nat.reduceLT, Nat.reduceBEq, reduceCtorEq, hP, Tray.av]); (repeat (refine And.intro (by first | omega | (intros; simp_all; done) | (intros; simp_all; omega)) ?_)))))
      (refine WV_cond rfl (fun h => ?_) (fun h => ?_))
      · simp at h
      (repeat ((first | refine WV_seq_ ?_ | refine WV_block ?_ | refine WV_ops ?_ | refine WV_skip ?_ | refine WV_exit ?_); (try simp only [go_sem, init_env', Nat.reduceEqDiff, Nat.reduceAdd, Nat.reduceMul, reduceIte, Nat.reduceLeDiff, Nat.reduceLT, Nat.reduceBEq, reduceCtorEq, hP, ]); (repeat (refine And.intro (by first | omega | (intros; simp_all; done) | (intros; simp_all; omega)) ?_))))
      refine WV_loopK K9_3 [] (fun k : Nat => k ≤ L.length) (fun k => L.length - k) (fun k => [(17, iv k)]) (fun k => []) 0 (Nat.zero_le _) ?_ ?_
      · (refine Sub_of (by simp only [go_sem, init_env', Nat.reduceEqDiff, Nat.reduceAdd, Nat.reduceMul, reduceIte, Nat.reduceLeDiff, Nat.reduceLT, Nat.reduceBEq, reduceCtorEq]; ((repeat' (first | exact EnvLe_e0 _ _ | refine EnvLe_upd ?_ ?_)) <;> ((try simp only [upd_app, e0_app, o0_app, Nat.reduceEqDiff, reduceIte]); first | exact AWk.refl _ _ | exact AWk.int (by omega) | exact AWk.int (by rw [w64 (by omega) (by omega)]; omega) | exact AWk.grow rfl | exact AWk.nil _ | exact AWk.of (by simp)))) (by simp only [go_sem, init_env', Nat.reduceEqDiff, Nat.reduceAdd, Nat.reduceMul, reduceIte, Nat.reduceLeDiff, Nat.reduceLT, Nat.reduceBEq, reduceCtorEq]; (first | ((repeat' (first | exact ObjLe_o0 _ | exact ObjLe.rfl' _ | refine ObjLe_same ?_ | refine ObjLe_upd ?_ ?_ | refine ObjLe_new rfl ?_)) <;> rfl) | (refine ObjLe_X ?_; (repeat' (first | exact ObjLeX_o0 _ _ | refine ObjLeX_skip rfl ?_ | refine ObjLeX_upd ?_ ?_)) <;> rfl))))
      intro k hk
      simp only [go_sem, init_env', Nat.reduceEqDiff, Nat.reduceAdd, Nat.reduceMul, reduceIte, Nat.reduceLeDiff, Nat.reduceLT, Nat.reduceBEq, reduceCtorEq]
      (repeat ((first | refine WV_seq_ ?_ | refine WV_block ?_ | refine WV_ops ?_ | refine WV_skip ?_ | refine WV_exit ?_); (try simp only [go_sem, init_env', Nat.reduceEqDiff, Nat.reduceAdd, Nat.reduceMul, reduceIte, Nat.reduceLeDiff, Nat.reduceLT, Nat.reduceBEq, reduceCtorEq, hP, List.length_map]); (repeat (refine And.intro (by first | omega | (intros; simp_all; done) | (intros; simp_all; omega)) ?_))))
      (refine WV_cond rfl (fun h => ?_) (fun h => ?_))
      · have hkl : k < L.length := by simpa using h
        have hI : (k : Int) < (L.length : Int) := by omega
        have hw8 := w64 (n := (k : Int) + 1) (by omega) (by omega)
        have hps := hside _ (List.getElem_mem hkl)
        have hw9 := w64 (n := 2 * ((t.n : Int) - 1) + 1 - L[k].side) (by omega) (by omega)
        have g1 : (L.map Pr.cds).getD k [] = [.int .i64 L[k].side, .int .i64 L[k].time] := map_getD hkl
        have g2 : ((L.map (turnP t.n)).map Pr.cds).getD k [] = [.int .i64 (2 * ((t.n : Int) - 1) + 1 - L[k].side), .int .i64 L[k].time] := by
          rw [List.map_map, map_getD hkl]
          show [CD.int .i64 (2 * (t.n : Int) - 1 - L[k].side), CD.int .i64 L[k].time] = _
          rw [show 2 * (t.n : Int) - 1 - L[k].side = 2 * ((t.n : Int) - 1) + 1 - L[k].side from by omega]
        generalize L[k].side = S0 at *
        generalize L[k].time = T0 at *
        (repeat ((first | refine WV_seq_ ?_ | refine WV_block ?_ | refine WV_ops ?_ | refine WV_skip ?_ | refine WV_exit ?_); (try simp only [go_sem, init_env', Nat.reduceEqDiff, Nat.reduceAdd, Nat.reduceMul, reduceIte, Nat.reduceLeDiff, Nat.reduceLT, Nat.reduceBEq, reduceCtorEq, hP, hw4, hw5, hw9, g1, g2, hI, hkl, List.length_map, Int.natCast_nonneg, seqGo, beq_self_eq_true]); (repeat (refine And.intro (by first | omega | (intros; simp_all; done) | (intros; simp_all; omega)) ?_))))
        (refine WV_cond rfl (fun h => ?_) (fun h => ?_))
        · simp at h
        (repeat ((first | refine WV_seq_ ?_ | refine WV_block ?_ | refine WV_ops ?_ | refine WV_skip ?_ | refine WV_exit ?_); (try simp only [go_sem, init_env', Nat.reduceEqDiff, Nat.reduceAdd, Nat.reduceMul, reduceIte, Nat.reduceLeDiff, Nat.reduceLT, Nat.reduceBEq, reduceCtorEq, hP, hw8]); (repeat (refine And.intro (by first | omega | (intros; simp_all; done) | (intros; simp_all; omega)) ?_))))
        refine ⟨k + 1, by omega, by omega, ?_⟩
        (refine Sub_of (by simp only [go_sem, init_env', Nat.reduceEqDiff, Nat.reduceAdd, Nat.reduceMul, reduceIte, Nat.reduceLeDiff, Nat.reduceLT, Nat.reduceBEq, reduceCtorEq]; ((repeat' (first | exact EnvLe_e0 _ _ | refine EnvLe_upd ?_ ?_)) <;> ((try simp only [upd_app, e0_app, o0_app, Nat.reduceEqDiff, reduceIte]); first | exact AWk.refl _ _ | exact AWk.int (by omega) | exact AWk.int (by rw [w64 (by omega) (by omega)]; omega) | exact AWk.grow rfl | exact AWk.nil _ | exact AWk.of (by simp)))) (by simp only [go_sem, init_env', Nat.reduceEqDiff, Nat.reduceAdd, Nat.reduceMul, reduceIte, Nat.reduceLeDiff, Nat.reduceLT, Nat.reduceBEq, reduceCtorEq]; (first | ((repeat' (first | exact ObjLe_o0 _ | exact ObjLe.rfl' _ | refine ObjLe_same ?_ | refine ObjLe_upd ?_ ?_ | refine ObjLe_new rfl ?_)) <;> rfl) | (refine ObjLe_X ?_; (repeat' (first | exact ObjLeX_o0 _ _ | refine ObjLeX_skip rfl ?_ | refine ObjLeX_upd ?_ ?_)) <;> rfl))))
      (refine WV_exit ?_; simp only [go_sem, init_env', Nat.reduceEqDiff, Nat.reduceAdd, Nat.reduceMul, reduceIte, Nat.reduceLeDiff, Nat.reduceLT, Nat.reduceBEq, reduceCtorEq])
      (repeat ((first | refine WV_seq_ ?_ | refine WV_block ?_ | refine WV_ops ?_ | refine WV_skip ?_ | refine WV_exit ?_); (try simp only [go_sem, init_env', Nat.reduceEqDiff, Nat.reduceAdd, Nat.reduceMul, reduceIte, Nat.reduceLeDiff, Nat.reduceLT, Nat.reduceBEq, reduceCtorEq, hP, ]); (repeat (refine And.intro (by first | omega | (intros; simp_all; done) | (intros; simp_all; omega)) ?_))))
      (refine AS_pure (b5) rfl rfl rfl rfl rfl ?_; simp only [go_sem, init_env', Nat.reduceEqDiff, Nat.reduceAdd, Nat.reduceMul, reduceIte, Nat.reduceLeDiff, Nat.reduceLT, Nat.reduceBEq, reduceCtorEq, hP, Tray.av]; (repeat (refine And.intro (by first | omega | (intros; simp_all; done) | (intros; simp_all; omega)) ?_)); (repeat ((first | refine WV_seq_ ?_ | refine WV_block ?_ | refine WV_ops ?_ | refine WV_skip ?_ | refine WV_exit ?_); (try simp only [go_sem, init_env', Nat.reduceEqDiff, Nat.reduceAdd, Nat.reduceMul, reduceIte, Nat.reduceLeDiff, Nat.reduceLT, Nat.reduceBEq, reduceCtorEq, hP, Tray.av]); (repeat (refine And.intro (by first | omega | (intros; simp_all; done) | (intros; simp_all; omega)) ?_)))))
      (refine AS_pure (b6) rfl rfl rfl rfl rfl ?_; simp only [go_sem, init_env', Nat.reduceEqDiff, Nat.reduceAdd, Nat.reduceMul, reduceIte, Nat.reduceLeDiff, Nat.reduceLT, Nat.reduceBEq, reduceCtorEq, hP, prsC, recsC, d1, d2, d3, d4, hw4, hw5]; (repeat (refine And.intro (by first | omega | (intros; simp_all; done) | (intros; simp_all; omega)) ?_)); (repeat ((first | refine WV_seq_ ?_ | refine WV_block ?_ | refine WV_ops ?_ | refine WV_skip ?_ | refine WV_exit ?_); (try simp only [go_sem, init_env', Nat.reduceEqDiff, Nat.reduceAdd, Nat.reduceMul, reduceIte, Nat.reduceLeDiff, Nat.reduceLT, Nat.reduceBEq, reduceCtorEq, hP, prsC, recsC, d1, d2, d3, d4, hw4, hw5]); (repeat (refine And.intro (by first | omega | (intros; simp_all; done) | (intros; simp_all; omega)) ?_)))))
      (refine WV_cond rfl (fun h => ?_) (fun h => ?_))
      · simp at h
      (repeat ((first | refine WV_seq_ ?_ | refine WV_block ?_ | refine WV_ops ?_ | refine WV_skip ?_ | refine WV_exit ?_); (try simp only [go_sem, init_env', Nat.reduceEqDiff, Nat.reduceAdd, Nat.reduceMul, reduceIte, Nat.reduceLeDiff, Nat.reduceLT, Nat.reduceBEq, reduceCtorEq, hP, hw7, hwi2, hw6]); (repeat (refine And.intro (by first | omega | (intros; simp_all; done) | (intros; simp_all; omega)) ?_))))
      by_cases hs : ss < 0
      · have hss : ss = -1 := by omega
        subst hss
        have d5 : decide ((0 : Int) ≤ -1) = false := by decide
        have ht1 : turnI t.n (-1) = -1 := rfl
        rw [d5]
        (refine WV_cond rfl (fun h => ?_) (fun h => ?_))
        · simp at h
        (repeat ((first | refine WV_seq_ ?_ | refine WV_block ?_ | refine WV_ops ?_ | refine WV_skip ?_ | refine WV_exit ?_); (try simp only [go_sem, init_env', Nat.reduceEqDiff, Nat.reduceAdd, Nat.reduceMul, reduceIte, Nat.reduceLeDiff, Nat.reduceLT, Nat.reduceBEq, reduceCtorEq, hP, seqGo, ht1, beq_self_eq_true]); (repeat (refine And.intro (by first | omega | (intros; simp_all; done) | (intros; simp_all; omega)) ?_))))
        (refine AG_pure (fun hG => works19) rfl (fun hG => by first | (simp only [go_sem, init_env', Nat.reduceEqDiff, Nat.reduceAdd, Nat.reduceMul, reduceIte, Nat.reduceLeDiff, Nat.reduceLT, Nat.reduceBEq, reduceCtorEq, hG]; done) | (simp only [go_sem, init_env', Nat.reduceEqDiff, Nat.reduceAdd, Nat.reduceMul, reduceIte, Nat.reduceLeDiff, Nat.reduceLT, Nat.reduceBEq, reduceCtorEq]; revert hG; simp; done) | (simp only [go_sem, init_env', Nat.reduceEqDiff, Nat.reduceAdd, Nat.reduceMul, reduceIte, Nat.reduceLeDiff, Nat.reduceLT, Nat.reduceBEq, reduceCtorEq, hG]; simp_all; done) | (revert hG; simp; done) | simp_all) rfl rfl rfl ?_; simp only [go_sem, init_env', Nat.reduceEqDiff, Nat.reduceAdd, Nat.reduceMul, reduceIte, Nat.reduceLeDiff, Nat.reduceLT, Nat.reduceBEq, reduceCtorEq, hP, ]; (repeat (refine And.intro (by first | omega | (intros; simp_all; done) | (intros; simp_all; omega)) ?_)); (repeat ((first | refine WV_seq_ ?_ | refine WV_block ?_ | refine WV_ops ?_ | refine WV_skip ?_ | refine WV_exit ?_); (try simp only [go_sem, init_env', Nat.reduceEqDiff, Nat.reduceAdd, Nat.reduceMul, reduceIte, Nat.reduceLeDiff, Nat.reduceLT, Nat.reduceBEq, reduceCtorEq, hP, ]); (repeat (refine And.intro (by first | omega | (intros; simp_all; done) | (intros; simp_all; omega)) ?_)))))
        (refine WV_ret ?_; simp only [thenQ, inQ, RetQ, RetOk, resAll, resA]; simp only [go_sem, init_env', Nat.reduceEqDiff, Nat.reduceAdd, Nat.reduceMul, reduceIte, Nat.reduceLeDiff, Nat.reduceLT, Nat.reduceBEq, reduceCtorEq, tupA, AV.port, AV.portL, exists_eq_left', ]; (first | exact AVle.of rfl | refine AVle.of ?_ | skip))
      · have d5 : decide (0 ≤ ss) = true := by simp; omega
        have hw9 := w64 (n := 2 * ((t.n : Int) - 1) + 1 - ss) (by omega) (by omega)
        have ht1 : turnI t.n ss = 2 * ((t.n : Int) - 1) + 1 - ss := by unfold turnI; rw [if_neg hs]; omega
        rw [d5]
        (refine WV_cond rfl (fun h => ?_) (fun h => ?_))
        rotate_left
        · simp at h
        (repeat ((first | refine WV_seq_ ?_ | refine WV_block ?_ | refine WV_ops ?_ | refine WV_skip ?_ | refine WV_exit ?_); (try simp only [go_sem, init_env', Nat.reduceEqDiff, Nat.reduceAdd, Nat.reduceMul, reduceIte, Nat.reduceLeDiff, Nat.reduceLT, Nat.reduceBEq, reduceCtorEq, hP, hw4, hw5, hw9, seqGo, ht1, beq_self_eq_true]); (repeat (refine And.intro (by first | omega | (intros; simp_all; done) | (intros; simp_all; omega)) ?_))))
        (refine AG_pure (fun hG => works19) rfl (fun hG => by first | (simp only [go_sem, init_env', Nat.reduceEqDiff, Nat.reduceAdd, Nat.reduceMul, reduceIte, Nat.reduceLeDiff, Nat.reduceLT, Nat.reduceBEq, reduceCtorEq, hG]; done) | (simp only [go_sem, init_env', Nat.reduceEqDiff, Nat.reduceAdd, Nat.reduceMul, reduceIte, Nat.reduceLeDiff, Nat.reduceLT, Nat.reduceBEq, reduceCtorEq]; revert hG; simp; done) | (simp only [go_sem, init_env', Nat.reduceEqDiff, Nat.reduceAdd, Nat.reduceMul, reduceIte, Nat.reduceLeDiff, Nat.reduceLT, Nat.reduceBEq, reduceCtorEq, hG]; simp_all; done) | (revert hG; simp; done) | simp_all) rfl rfl rfl ?_; simp only [go_sem, init_env', Nat.reduceEqDiff, Nat.reduceAdd, Nat.reduceMul, reduceIte, Nat.reduceLeDiff, Nat.reduceLT, Nat.reduceBEq, reduceCtorEq, hP, ]; (repeat (refine And.intro (by first | omega | (intros; simp_all; done) | (intros; simp_all; omega)) ?_)); (repeat ((first | refine WV_seq_ ?_ | refine WV_block ?_ | refine WV_ops ?_ | refine WV_skip ?_ | refine WV_exit ?_); (try simp only [go_sem, init_env', Nat.reduceEqDiff, Nat.reduceAdd, Nat.reduceMul, reduceIte, Nat.reduceLeDiff, Nat.reduceLT, Nat.reduceBEq, reduceCtorEq, hP, ]); (repeat (refine And.intro (by first | omega | (intros; simp_all; done) | (intros; simp_all; omega)) ?_)))))
        (refine WV_ret ?_; simp only [thenQ, inQ, RetQ, RetOk, resAll, resA]; simp only [go_sem, init_env', Nat.reduceEqDiff, Nat.reduceAdd, Nat.reduceMul, reduceIte, Nat.reduceLeDiff, Nat.reduceLT, Nat.reduceBEq, reduceCtorEq, tupA, AV.port, AV.portL, exists_eq_left', ]; (first | exact AVle.of rfl | refine AVle.of ?_ | skip))
  refine ⟨[900, 901], .agg [.vw 2 900 0 t.recs.length cap, iv t.at_, iv t.way, iv t.step, .vw 2 901 0 t.pres.length cap2], [.box (cellsG Rec.cds t.recs j), .box (cellsG Pr.cds t.pres j2)], by decide, rfl, by simp only [go_sem, init_env', Nat.reduceEqDiff, Nat.reduceAdd, Nat.reduceMul, reduceIte, Nat.reduceLeDiff, Nat.reduceLT, Nat.reduceBEq, reduceCtorEq, decide_true], rfl, (by simp only [obsBack, Ob.back, back_cellsG]; rfl), ?_⟩
  simp only [go_sem, init_env', Nat.reduceEqDiff, Nat.reduceAdd, Nat.reduceMul, reduceIte, Nat.reduceLeDiff, Nat.reduceLT, Nat.reduceBEq, reduceCtorEq, hP, ownBack]
  (repeat (refine And.intro (by first | omega | (intros; simp_all; done) | (intros; simp_all; omega)) ?_))
  rw [hz]
  (repeat ((first | refine WV_seq_ ?_ | refine WV_block ?_ | refine WV_ops ?_ | refine WV_skip ?_ | refine WV_exit ?_); (try simp only [go_sem, init_env', Nat.reduceEqDiff, Nat.reduceAdd, Nat.reduceMul, reduceIte, Nat.reduceLeDiff, Nat.reduceLT, Nat.reduceBEq, reduceCtorEq, hP, recsC, List.length_map, hrl, hw1]); (repeat (refine And.intro (by first | omega | (intros; simp_all; done) | (intros; simp_all; omega)) ?_))))
  refine WV_loopK K9_1 [5, 900] (fun k : Nat => k ≤ t.n) (fun k => t.n - k) (fun k => [(7, iv k)]) (fun k => [(5, .box [.vw 2 900 0 t.n cap, iv t.at_, iv t.way, iv t.step, .vw 2 901 0 t.pres.length cap2]), (900, .box (cellsG Rec.cds (recsK t k) j))]) 0 (Nat.zero_le _) ?_ ?_
  · (refine Sub_of (by simp only [go_sem, init_env', Nat.reduceEqDiff, Nat.reduceAdd, Nat.reduceMul, reduceIte, Nat.reduceLeDiff, Nat.reduceLT, Nat.reduceBEq, reduceCtorEq]; ((repeat' (first | exact EnvLe_e0 _ _ | refine EnvLe_upd ?_ ?_)) <;> ((try simp only [upd_app, e0_app, o0_app, Nat.reduceEqDiff, reduceIte]); first | exact AWk.refl _ _ | exact AWk.int (by omega) | exact AWk.int (by rw [w64 (by omega) (by omega)]; omega) | exact AWk.grow rfl | exact AWk.nil _ | exact AWk.of (by simp)))) (by simp only [go_sem, init_env', Nat.reduceEqDiff, Nat.reduceAdd, Nat.reduceMul, reduceIte, Nat.reduceLeDiff, Nat.reduceLT, Nat.reduceBEq, reduceCtorEq]; (first | ((repeat' (first | exact ObjLe_o0 _ | exact ObjLe.rfl' _ | refine ObjLe_same ?_ | refine ObjLe_upd ?_ ?_ | refine ObjLe_new rfl ?_)) <;> rfl) | (refine ObjLe_X ?_; (repeat' (first | exact ObjLeX_o0 _ _ | refine ObjLeX_skip rfl ?_ | refine ObjLeX_upd ?_ ?_)) <;> rfl))))
  intro k hk
  simp only [go_sem, init_env', Nat.reduceEqDiff, Nat.reduceAdd, Nat.reduceMul, reduceIte, Nat.reduceLeDiff, Nat.reduceLT, Nat.reduceBEq, reduceCtorEq]
  (repeat ((first | refine WV_seq_ ?_ | refine WV_block ?_ | refine WV_ops ?_ | refine WV_skip ?_ | refine WV_exit ?_); (try simp only [go_sem, init_env', Nat.reduceEqDiff, Nat.reduceAdd, Nat.reduceMul, reduceIte, Nat.reduceLeDiff, Nat.reduceLT, Nat.reduceBEq, reduceCtorEq, hP, ]); (repeat (refine And.intro (by first | omega | (intros; simp_all; done) | (intros; simp_all; omega)) ?_))))
  (refine WV_cond rfl (fun h => ?_) (fun h => ?_))
  · have hkl : k < t.n := by simp at h; omega
    have hI : (k : Int) < (t.n : Int) := by omega
    have hw8 := w64 (n := (k : Int) + 1) (by omega) (by omega)
    have e0 : (t.n : Int) - 1 - (k : Int) = ((t.n - 1 - k : Nat) : Int) := by omega
    have hw9 := w64 (n := ((t.n - 1 - k : Nat) : Int)) (by omega) (by omega)
    have g1 := map_rc (t := t) (k := t.n - 1 - k) (by omega)
    have hI2 : ((t.n - 1 - k : Nat) : Int) < (t.n : Int) := by omega
    have hst := recsK_step t hkl
    have hlk : k < (recsK t k).length := by rw [recsK_len]; exact hkl
    have hsp := put2 rec_two hlk j (turnR (t.rc (t.n - 1 - k))) (x := .int .i64 (t.rc (t.n - 1 - k)).back) (y := .int .i64 (t.rc (t.n - 1 - k)).front) rfl
    rw [hst] at hsp
    have hcl : k * 2 + 2 ≤ (cellsG Rec.cds (recsK t k) j).length := by rw [cellsG_len rec_two, recsK_len]; omega
    generalize t.rc (t.n - 1 - k) = X at *
    generalize t.n - 1 - k = m at *
    (repeat ((first | refine WV_seq_ ?_ | refine WV_block ?_ | refine WV_ops ?_ | refine WV_skip ?_ | refine WV_exit ?_); (try simp only [go_sem, init_env', Nat.reduceEqDiff, Nat.reduceAdd, Nat.reduceMul, reduceIte, Nat.reduceLeDiff, Nat.reduceLT, Nat.reduceBEq, reduceCtorEq, hP, e0, hw9, recsC, g1, hI2, hI, hkl, List.length_map, hrl, Int.natCast_nonneg, hsp, hcl, hw8]); (repeat (refine And.intro (by first | omega | (intros; simp_all; done) | (intros; simp_all; omega)) ?_))))
    refine ⟨k + 1, by omega, by omega, ?_⟩
    (refine Sub_of (by simp only [go_sem, init_env', Nat.reduceEqDiff, Nat.reduceAdd, Nat.reduceMul, reduceIte, Nat.reduceLeDiff, Nat.reduceLT, Nat.reduceBEq, reduceCtorEq]; ((repeat' (first | exact EnvLe_e0 _ _ | refine EnvLe_upd ?_ ?_)) <;> ((try simp only [upd_app, e0_app, o0_app, Nat.reduceEqDiff, reduceIte]); first | exact AWk.refl _ _ | exact AWk.int (by omega) | exact AWk.int (by rw [w64 (by omega) (by omega)]; omega) | exact AWk.grow rfl | exact AWk.nil _ | exact AWk.of (by simp)))) (by simp only [go_sem, init_env', Nat.reduceEqDiff, Nat.reduceAdd, Nat.reduceMul, reduceIte, Nat.reduceLeDiff, Nat.reduceLT, Nat.reduceBEq, reduceCtorEq]; (first | ((repeat' (first | exact ObjLe_o0 _ | exact ObjLe.rfl' _ | refine ObjLe_same ?_ | refine ObjLe_upd ?_ ?_ | refine ObjLe_new rfl ?_)) <;> rfl) | (refine ObjLe_X ?_; (repeat' (first | exact ObjLeX_o0 _ _ | refine ObjLeX_skip rfl ?_ | refine ObjLeX_upd ?_ ?_)) <;> rfl))))
  have h : k = t.n := by simp at h; omega
  subst h
  (refine WV_exit ?_; simp only [go_sem, init_env', Nat.reduceEqDiff, Nat.reduceAdd, Nat.reduceMul, reduceIte, Nat.reduceLeDiff, Nat.reduceLT, Nat.reduceBEq, reduceCtorEq])
  refine WV_freezeJ 900 (ds := flatG Rec.cds (recsK t t.n)) (junk := List.replicate j .non) rfl ?_
  simp only [go_sem, init_env', Nat.reduceEqDiff, Nat.reduceAdd, Nat.reduceMul, reduceIte, Nat.reduceLeDiff, Nat.reduceLT, Nat.reduceBEq, reduceCtorEq, hrg, hrf, frz_cellsG]
  refine WV_keep [1, 2, 5, 6] ?_
  simp only [go_sem, init_env', Nat.reduceEqDiff, Nat.reduceAdd, Nat.reduceMul, reduceIte, Nat.reduceLeDiff, Nat.reduceLT, Nat.reduceBEq, reduceCtorEq]
  (repeat ((first | refine WV_seq_ ?_ | refine WV_block ?_ | refine WV_ops ?_ | refine WV_skip ?_ | refine WV_exit ?_); (try simp only [go_sem, init_env', Nat.reduceEqDiff, Nat.reduceAdd, Nat.reduceMul, reduceIte, Nat.reduceLeDiff, Nat.reduceLT, Nat.reduceBEq, reduceCtorEq, hP, ]); (repeat (refine And.intro (by first | omega | (intros; simp_all; done) | (intros; simp_all; omega)) ?_))))
  (refine WV_drw ?_; simp only [go_sem, init_env', Nat.reduceEqDiff, Nat.reduceAdd, Nat.reduceMul, reduceIte, Nat.reduceLeDiff, Nat.reduceLT, Nat.reduceBEq, reduceCtorEq, hP, ]; (repeat' (refine And.intro ?_ ?_)))
  all_goals
    (repeat ((first | refine WV_seq_ ?_ | refine WV_block ?_ | refine WV_ops ?_ | refine WV_skip ?_ | refine WV_exit ?_); (try simp only [go_sem, init_env', Nat.reduceEqDiff, Nat.reduceAdd, Nat.reduceMul, reduceIte, Nat.reduceLeDiff, Nat.reduceLT, Nat.reduceBEq, reduceCtorEq, hP, hwi, hw2, hw3]); (repeat (refine And.intro (by first | omega | (intros; simp_all; done) | (intros; simp_all; omega)) ?_))))
    have hm0 : cellsG Pr.cds t.pres j2 = cellsG Pr.cds (mapK (turnP t.n) t.pres 0) j2 := by rw [mapK_zero]
    rw [hm0]
    refine WV_loopK K9_2 [901] (fun k : Nat => k ≤ t.pres.length) (fun k => t.pres.length - k) (fun k => [(8, iv k)]) (fun k => [(901, .box (cellsG Pr.cds (mapK (turnP t.n) t.pres k) j2))]) 0 (Nat.zero_le _) ?_ ?_
    · (refine Sub_of (by simp only [go_sem, init_env', Nat.reduceEqDiff, Nat.reduceAdd, Nat.reduceMul, reduceIte, Nat.reduceLeDiff, Nat.reduceLT, Nat.reduceBEq, reduceCtorEq]; ((repeat' (first | exact EnvLe_e0 _ _ | refine EnvLe_upd ?_ ?_)) <;> ((try simp only [upd_app, e0_app, o0_app, Nat.reduceEqDiff, reduceIte]); first | exact AWk.refl _ _ | exact AWk.int (by omega) | exact AWk.int (by rw [w64 (by omega) (by omega)]; omega) | exact AWk.grow rfl | exact AWk.nil _ | exact AWk.of (by simp)))) (by simp only [go_sem, init_env', Nat.reduceEqDiff, Nat.reduceAdd, Nat.reduceMul, reduceIte, Nat.reduceLeDiff, Nat.reduceLT, Nat.reduceBEq, reduceCtorEq]; (first | ((repeat' (first | exact ObjLe_o0 _ | exact ObjLe.rfl' _ | refine ObjLe_same ?_ | refine ObjLe_upd ?_ ?_ | refine ObjLe_new rfl ?_)) <;> rfl) | (refine ObjLe_X ?_; (repeat' (first | exact ObjLeX_o0 _ _ | refine ObjLeX_skip rfl ?_ | refine ObjLeX_upd ?_ ?_)) <;> rfl))))
    intro k hk
    simp only [go_sem, init_env', Nat.reduceEqDiff, Nat.reduceAdd, Nat.reduceMul, reduceIte, Nat.reduceLeDiff, Nat.reduceLT, Nat.reduceBEq, reduceCtorEq]
    (repeat ((first | refine WV_seq_ ?_ | refine WV_block ?_ | refine WV_ops ?_ | refine WV_skip ?_ | refine WV_exit ?_); (try simp only [go_sem, init_env', Nat.reduceEqDiff, Nat.reduceAdd, Nat.reduceMul, reduceIte, Nat.reduceLeDiff, Nat.reduceLT, Nat.reduceBEq, reduceCtorEq, hP, ]); (repeat (refine And.intro (by first | omega | (intros; simp_all; done) | (intros; simp_all; omega)) ?_))))
    (refine WV_cond rfl (fun h => ?_) (fun h => ?_))
    · have hkl : k < t.pres.length := by simpa using h
      have hI : (k : Int) < (t.pres.length : Int) := by omega
      have hw8 := w64 (n := (k : Int) + 1) (by omega) (by omega)
      have hps := (ht.pres _ (List.getElem_mem hkl)).1
      have hw9 := w64 (n := 2 * ((t.n : Int) - 1) + 1 - t.pres[k].side) (by omega) (by omega)
      have hlk : k < (mapK (turnP t.n) t.pres k).length := by rw [mapK_len]; exact hkl
      have g1 : (t.pres.map Pr.cds).getD k [] = [.int .i64 t.pres[k].side, .int .i64 t.pres[k].time] := map_getD hkl
      have hsp := cellsG_set pr_two hlk j2 0 (by decide) (.int .i64 (2 * ((t.n : Int) - 1) + 1 - t.pres[k].side)) (turnP t.n t.pres[k]) (by
        rw [mapK_get hkl]
        show [CD.int .i64 (2 * (t.n : Int) - 1 - t.pres[k].side), CD.int .i64 t.pres[k].time] = _
        rw [show 2 * (t.n : Int) - 1 - t.pres[k].side = 2 * ((t.n : Int) - 1) + 1 - t.pres[k].side from by omega]
        rfl)
      rw [mapK_set hkl] at hsp
      have hcl : k * 2 < (cellsG Pr.cds (mapK (turnP t.n) t.pres k) j2).length := by rw [cellsG_len pr_two, mapK_len]; omega
      simp only [Nat.add_zero] at hsp
      generalize t.pres[k].side = S0 at *
      generalize t.pres[k].time = T0 at *
      (repeat ((first | refine WV_seq_ ?_ | refine WV_block ?_ | refine WV_ops ?_ | refine WV_skip ?_ | refine WV_exit ?_); (try simp only [go_sem, init_env', Nat.reduceEqDiff, Nat.reduceAdd, Nat.reduceMul, reduceIte, Nat.reduceLeDiff, Nat.reduceLT, Nat.reduceBEq, reduceCtorEq, hP, hw4, hw5, hw9, prsC, g1, hI, hkl, List.length_map, Int.natCast_nonneg, hsp, hcl, hw8]); (repeat (refine And.intro (by first | omega | (intros; simp_all; done) | (intros; simp_all; omega)) ?_))))
      refine ⟨k + 1, by omega, by omega, ?_⟩
      (refine Sub_of (by simp only [go_sem, init_env', Nat.reduceEqDiff, Nat.reduceAdd, Nat.reduceMul, reduceIte, Nat.reduceLeDiff, Nat.reduceLT, Nat.reduceBEq, reduceCtorEq]; ((repeat' (first | exact EnvLe_e0 _ _ | refine EnvLe_upd ?_ ?_)) <;> ((try simp only [upd_app, e0_app, o0_app, Nat.reduceEqDiff, reduceIte]); first | exact AWk.refl _ _ | exact AWk.int (by omega) | exact AWk.int (by rw [w64 (by omega) (by omega)]; omega) | exact AWk.grow rfl | exact AWk.nil _ | exact AWk.of (by simp)))) (by simp only [go_sem, init_env', Nat.reduceEqDiff, Nat.reduceAdd, Nat.reduceMul, reduceIte, Nat.reduceLeDiff, Nat.reduceLT, Nat.reduceBEq, reduceCtorEq]; (first | ((repeat' (first | exact ObjLe_o0 _ | exact ObjLe.rfl' _ | refine ObjLe_same ?_ | refine ObjLe_upd ?_ ?_ | refine ObjLe_new rfl ?_)) <;> rfl) | (refine ObjLe_X ?_; (repeat' (first | exact ObjLeX_o0 _ _ | refine ObjLeX_skip rfl ?_ | refine ObjLeX_upd ?_ ?_)) <;> rfl))))
    have h : k = t.pres.length := by simp at h; omega
    subst h
    rw [mapK_all]
    (refine WV_exit ?_; simp only [go_sem, init_env', Nat.reduceEqDiff, Nat.reduceAdd, Nat.reduceMul, reduceIte, Nat.reduceLeDiff, Nat.reduceLT, Nat.reduceBEq, reduceCtorEq])
    refine WV_freezeJ 901 (ds := flatG Pr.cds (t.pres.map (turnP t.n))) (junk := List.replicate j2 .non) rfl ?_
    simp only [go_sem, init_env', Nat.reduceEqDiff, Nat.reduceAdd, Nat.reduceMul, reduceIte, Nat.reduceLeDiff, Nat.reduceLT, Nat.reduceBEq, reduceCtorEq, hpg, hpf, frz_cellsG]
    refine WV_keep [1, 2, 5, 6] ?_
    simp only [go_sem, init_env', Nat.reduceEqDiff, Nat.reduceAdd, Nat.reduceMul, reduceIte, Nat.reduceLeDiff, Nat.reduceLT, Nat.reduceBEq, reduceCtorEq]
    (repeat ((first | refine WV_seq_ ?_ | refine WV_block ?_ | refine WV_ops ?_ | refine WV_skip ?_ | refine WV_exit ?_); (try simp only [go_sem, init_env', Nat.reduceEqDiff, Nat.reduceAdd, Nat.reduceMul, reduceIte, Nat.reduceLeDiff, Nat.reduceLT, Nat.reduceBEq, reduceCtorEq, hP, ]); (repeat (refine And.intro (by first | omega | (intros; simp_all; done) | (intros; simp_all; omega)) ?_))))
    (refine AS_pure (b1) rfl rfl rfl rfl rfl ?_; simp only [go_sem, init_env', Nat.reduceEqDiff, Nat.reduceAdd, Nat.reduceMul, reduceIte, Nat.reduceLeDiff, Nat.reduceLT, Nat.reduceBEq, reduceCtorEq, hP, Tray.av]; (repeat (refine And.intro (by first | omega | (intros; simp_all; done) | (intros; simp_all; omega)) ?_)); (repeat ((first | refine WV_seq_ ?_ | refine WV_block ?_ | refine WV_ops ?_ | refine WV_skip ?_ | refine WV_exit ?_); (try simp only [go_sem, init_env', Nat.reduceEqDiff, Nat.reduceAdd, Nat.reduceMul, reduceIte, Nat.reduceLeDiff, Nat.reduceLT, Nat.reduceBEq, reduceCtorEq, hP, Tray.av]); (repeat (refine And.intro (by first | omega | (intros; simp_all; done) | (intros; simp_all; omega)) ?_)))))
    (refine AS_pure (b2) rfl rfl rfl rfl rfl ?_; simp only [go_sem, init_env', Nat.reduceEqDiff, Nat.reduceAdd, Nat.reduceMul, reduceIte, Nat.reduceLeDiff, Nat.reduceLT, Nat.reduceBEq, reduceCtorEq, hP, prsC, recsC]; (repeat (refine And.intro (by first | omega | (intros; simp_all; done) | (intros; simp_all; omega)) ?_)); (repeat ((first | refine WV_seq_ ?_ | refine WV_block ?_ | refine WV_ops ?_ | refine WV_skip ?_ | refine WV_exit ?_); (try simp only [go_sem, init_env', Nat.reduceEqDiff, Nat.reduceAdd, Nat.reduceMul, reduceIte, Nat.reduceLeDiff, Nat.reduceLT, Nat.reduceBEq, reduceCtorEq, hP, prsC, recsC]); (repeat (refine And.intro (by first | omega | (intros; simp_all; done) | (intros; simp_all; omega)) ?_)))))
    (refine AS_pure (b3) rfl rfl rfl rfl rfl ?_; simp only [go_sem, init_env', Nat.reduceEqDiff, Nat.reduceAdd, Nat.reduceMul, reduceIte, Nat.reduceLeDiff, Nat.reduceLT, Nat.reduceBEq, reduceCtorEq, hP, Tray.av]; (repeat (refine And.intro (by first | omega | (intros; simp_all; done) | (intros; simp_all; omega)) ?_)); (repeat ((first | refine WV_seq_ ?_ | refine WV_block ?_ | refine WV_ops ?_ | refine WV_skip ?_ | refine WV_exit ?_); (try simp only [go_sem, init_env', Nat.reduceEqDiff, Nat.reduceAdd, Nat.reduceMul, reduceIte, Nat.reduceLeDiff, Nat.reduceLT, Nat.reduceBEq, reduceCtorEq, hP, Tray.av]); (repeat (refine And.intro (by first | omega | (intros; simp_all; done) | (intros; simp_all; omega)) ?_)))))
    (refine AS_pure (b4) rfl rfl rfl rfl rfl ?_; simp only [go_sem, init_env', Nat.reduceEqDiff, Nat.reduceAdd, Nat.reduceMul, reduceIte, Nat.reduceLeDiff, Nat.reduceLT, Nat.reduceBEq, reduceCtorEq, hP, prsC, recsC, bne_self_eq_false, List.length_map]; (repeat (refine And.intro (by first | omega | (intros; simp_all; done) | (intros; simp_all; omega)) ?_)); (repeat ((first | refine WV_seq_ ?_ | refine WV_block ?_ | refine WV_ops ?_ | refine WV_skip ?_ | refine WV_exit ?_); (try simp only [go_sem, init_env', Nat.reduceEqDiff, Nat.reduceAdd, Nat.reduceMul, reduceIte, Nat.reduceLeDiff, Nat.reduceLT, Nat.reduceBEq, reduceCtorEq, hP, prsC, recsC, bne_self_eq_false, List.length_map]); (repeat (refine And.intro (by first | omega | (intros; simp_all; done) | (intros; simp_all; omega)) ?_)))))
    (refine AG_pure (fun hG => b7) rfl (fun hG => by first | (simp only [go_sem, init_env', Nat.reduceEqDiff, Nat.reduceAdd, Nat.reduceMul, reduceIte, Nat.reduceLeDiff, Nat.reduceLT, Nat.reduceBEq, reduceCtorEq, hG]; done) | (simp only [go_sem, init_env', Nat.reduceEqDiff, Nat.reduceAdd, Nat.reduceMul, reduceIte, Nat.reduceLeDiff, Nat.reduceLT, Nat.reduceBEq, reduceCtorEq]; revert hG; simp; done) | (simp only [go_sem, init_env', Nat.reduceEqDiff, Nat.reduceAdd, Nat.reduceMul, reduceIte, Nat.reduceLeDiff, Nat.reduceLT, Nat.reduceBEq, reduceCtorEq, hG]; simp_all; done) | (revert hG; simp; done) | simp_all) rfl rfl rfl ?_; simp only [go_sem, init_env', Nat.reduceEqDiff, Nat.reduceAdd, Nat.reduceMul, reduceIte, Nat.reduceLeDiff, Nat.reduceLT, Nat.reduceBEq, reduceCtorEq, hP, Tray.av]; (repeat (refine And.intro (by first | omega | (intros; simp_all; done) | (intros; simp_all; omega)) ?_)); (repeat ((first | refine WV_seq_ ?_ | refine WV_block ?_ | refine WV_ops ?_ | refine WV_skip ?_ | refine WV_exit ?_); (try simp only [go_sem, init_env', Nat.reduceEqDiff, Nat.reduceAdd, Nat.reduceMul, reduceIte, Nat.reduceLeDiff, Nat.reduceLT, Nat.reduceBEq, reduceCtorEq, hP, Tray.av]); (repeat (refine And.intro (by first | omega | (intros; simp_all; done) | (intros; simp_all; omega)) ?_)))))
    (refine WV_cond rfl (fun h => ?_) (fun h => ?_))
    · simp at h
    (repeat ((first | refine WV_seq_ ?_ | refine WV_block ?_ | refine WV_ops ?_ | refine WV_skip ?_ | refine WV_exit ?_); (try simp only [go_sem, init_env', Nat.reduceEqDiff, Nat.reduceAdd, Nat.reduceMul, reduceIte, Nat.reduceLeDiff, Nat.reduceLT, Nat.reduceBEq, reduceCtorEq, hP, ]); (repeat (refine And.intro (by first | omega | (intros; simp_all; done) | (intros; simp_all; omega)) ?_))))
    refine WV_loopK K9_3 [] (fun k : Nat => k ≤ L.length) (fun k => L.length - k) (fun k => [(17, iv k)]) (fun k => []) 0 (Nat.zero_le _) ?_ ?_
    · (refine Sub_of (by simp only [go_sem, init_env', Nat.reduceEqDiff, Nat.reduceAdd, Nat.reduceMul, reduceIte, Nat.reduceLeDiff, Nat.reduceLT, Nat.reduceBEq, reduceCtorEq]; ((repeat' (first | exact EnvLe_e0 _ _ | refine EnvLe_upd ?_ ?_)) <;> ((try simp only [upd_app, e0_app, o0_app, Nat.reduceEqDiff, reduceIte]); first | exact AWk.refl _ _ | exact AWk.int (by omega) | exact AWk.int (by rw [w64 (by omega) (by omega)]; omega) | exact AWk.grow rfl | exact AWk.nil _ | exact AWk.of (by simp)))) (by simp only [go_sem, init_env', Nat.reduceEqDiff, Nat.reduceAdd, Nat.reduceMul, reduceIte, Nat.reduceLeDiff, Nat.reduceLT, Nat.reduceBEq, reduceCtorEq]; (first | ((repeat' (first | exact ObjLe_o0 _ | exact ObjLe.rfl' _ | refine ObjLe_same ?_ | refine ObjLe_upd ?_ ?_ | refine ObjLe_new rfl ?_)) <;> rfl) | (refine ObjLe_X ?_; (repeat' (first | exact ObjLeX_o0 _ _ | refine ObjLeX_skip rfl ?_ | refine ObjLeX_upd ?_ ?_)) <;> rfl))))
    intro k hk
    simp only [go_sem, init_env', Nat.reduceEqDiff, Nat.reduceAdd, Nat.reduceMul, reduceIte, Nat.reduceLeDiff, Nat.reduceLT, Nat.reduceBEq, reduceCtorEq]
    (repeat ((first | refine WV_seq_ ?_ | refine WV_block ?_ | refine WV_ops ?_ | refine WV_skip ?_ | refine WV_exit ?_); (try simp only [go_sem, init_env', Nat.reduceEqDiff, Nat.reduceAdd, Nat.reduceMul, reduceIte, Nat.reduceLeDiff, Nat.reduceLT, Nat.reduceBEq, reduceCtorEq, hP, List.length_map]); (repeat (refine And.intro (by first | omega | (intros; simp_all; done) | (intros; simp_all; omega)) ?_))))
    (refine WV_cond rfl (fun h => ?_) (fun h => ?_))
    · have hkl : k < L.length := by simpa using h
      have hI : (k : Int) < (L.length : Int) := by omega
      have hw8 := w64 (n := (k : Int) + 1) (by omega) (by omega)
      have hps := hside _ (List.getElem_mem hkl)
      have hw9 := w64 (n := 2 * ((t.n : Int) - 1) + 1 - L[k].side) (by omega) (by omega)
      have g1 : (L.map Pr.cds).getD k [] = [.int .i64 L[k].side, .int .i64 L[k].time] := map_getD hkl
      have g2 : ((L.map (turnP t.n)).map Pr.cds).getD k [] = [.int .i64 (2 * ((t.n : Int) - 1) + 1 - L[k].side), .int .i64 L[k].time] := by
        rw [List.map_map, map_getD hkl]
        show [CD.int .i64 (2 * (t.n : Int) - 1 - L[k].side), CD.int .i64 L[k].time] = _
        rw [show 2 * (t.n : Int) - 1 - L[k].side = 2 * ((t.n : Int) - 1) + 1 - L[k].side from by omega]
      generalize L[k].side = S0 at *
      generalize L[k].time = T0 at *
      (repeat ((first | refine WV_seq_ ?_ | refine WV_block ?_ | refine WV_ops ?_ | refine WV_skip ?_ | refine WV_exit ?_); (try simp only [go_sem, init_env', Nat.reduceEqDiff, Nat.reduceAdd, Nat.reduceMul, reduceIte, Nat.reduceLeDiff, Nat.reduceLT, Nat.reduceBEq, reduceCtorEq, hP, hw4, hw5, hw9, g1, g2, hI, hkl, List.length_map, Int.natCast_nonneg, seqGo, beq_self_eq_true]); (repeat (refine And.intro (by first | omega | (intros; simp_all; done) | (intros; simp_all; omega)) ?_))))
      (refine WV_cond rfl (fun h => ?_) (fun h => ?_))
      · simp at h
      (repeat ((first | refine WV_seq_ ?_ | refine WV_block ?_ | refine WV_ops ?_ | refine WV_skip ?_ | refine WV_exit ?_); (try simp only [go_sem, init_env', Nat.reduceEqDiff, Nat.reduceAdd, Nat.reduceMul, reduceIte, Nat.reduceLeDiff, Nat.reduceLT, Nat.reduceBEq, reduceCtorEq, hP, hw8]); (repeat (refine And.intro (by first | omega | (intros; simp_all; done) | (intros; simp_all; omega)) ?_))))
      refine ⟨k + 1, by omega, by omega, ?_⟩
      (refine Sub_of (by simp only [go_sem, init_env', Nat.reduceEqDiff, Nat.reduceAdd, Nat.reduceMul, reduceIte, Nat.reduceLeDiff, Nat.reduceLT, Nat.reduceBEq, reduceCtorEq]; ((repeat' (first | exact EnvLe_e0 _ _ | refine EnvLe_upd ?_ ?_)) <;> ((try simp only [upd_app, e0_app, o0_app, Nat.reduceEqDiff, reduceIte]); first | exact AWk.refl _ _ | exact AWk.int (by omega) | exact AWk.int (by rw [w64 (by omega) (by omega)]; omega) | exact AWk.grow rfl | exact AWk.nil _ | exact AWk.of (by simp)))) (by simp only [go_sem, init_env', Nat.reduceEqDiff, Nat.reduceAdd, Nat.reduceMul, reduceIte, Nat.reduceLeDiff, Nat.reduceLT, Nat.reduceBEq, reduceCtorEq]; (first | ((repeat' (first | exact ObjLe_o0 _ | exact ObjLe.rfl' _ | refine ObjLe_same ?_ | refine ObjLe_upd ?_ ?_ | refine ObjLe_new rfl ?_)) <;> rfl) | (refine ObjLe_X ?_; (repeat' (first | exact ObjLeX_o0 _ _ | refine ObjLeX_skip rfl ?_ | refine ObjLeX_upd ?_ ?_)) <;> rfl))))
    (refine WV_exit ?_; simp only [go_sem, init_env', Nat.reduceEqDiff, Nat.reduceAdd, Nat.reduceMul, reduceIte, Nat.reduceLeDiff, Nat.reduceLT, Nat.reduceBEq, reduceCtorEq])
    (repeat ((first | refine WV_seq_ ?_ | refine WV_block ?_ | refine WV_ops ?_ | refine WV_skip ?_ | refine WV_exit ?_); (try simp only [go_sem, init_env', Nat.reduceEqDiff, Nat.reduceAdd, Nat.reduceMul, reduceIte, Nat.reduceLeDiff, Nat.reduceLT, Nat.reduceBEq, reduceCtorEq, hP, ]); (repeat (refine And.intro (by first | omega | (intros; simp_all; done) | (intros; simp_all; omega)) ?_))))
    (refine AS_pure (b5) rfl rfl rfl rfl rfl ?_; simp only [go_sem, init_env', Nat.reduceEqDiff, Nat.reduceAdd, Nat.reduceMul, reduceIte, Nat.reduceLeDiff, Nat.reduceLT, Nat.reduceBEq, reduceCtorEq, hP, Tray.av]; (repeat (refine And.intro (by first | omega | (intros; simp_all; done) | (intros; simp_all; omega)) ?_)); (repeat ((first | refine WV_seq_ ?_ | refine WV_block ?_ | refine WV_ops ?_ | refine WV_skip ?_ | refine WV_exit ?_); (try simp only [go_sem, init_env', Nat.reduceEqDiff, Nat.reduceAdd, Nat.reduceMul, reduceIte, Nat.reduceLeDiff, Nat.reduceLT, Nat.reduceBEq, reduceCtorEq, hP, Tray.av]); (repeat (refine And.intro (by first | omega | (intros; simp_all; done) | (intros; simp_all; omega)) ?_)))))
    (refine AS_pure (b6) rfl rfl rfl rfl rfl ?_; simp only [go_sem, init_env', Nat.reduceEqDiff, Nat.reduceAdd, Nat.reduceMul, reduceIte, Nat.reduceLeDiff, Nat.reduceLT, Nat.reduceBEq, reduceCtorEq, hP, prsC, recsC, d1, d2, d3, d4, hw4, hw5]; (repeat (refine And.intro (by first | omega | (intros; simp_all; done) | (intros; simp_all; omega)) ?_)); (repeat ((first | refine WV_seq_ ?_ | refine WV_block ?_ | refine WV_ops ?_ | refine WV_skip ?_ | refine WV_exit ?_); (try simp only [go_sem, init_env', Nat.reduceEqDiff, Nat.reduceAdd, Nat.reduceMul, reduceIte, Nat.reduceLeDiff, Nat.reduceLT, Nat.reduceBEq, reduceCtorEq, hP, prsC, recsC, d1, d2, d3, d4, hw4, hw5]); (repeat (refine And.intro (by first | omega | (intros; simp_all; done) | (intros; simp_all; omega)) ?_)))))
    (refine WV_cond rfl (fun h => ?_) (fun h => ?_))
    · simp at h
    (repeat ((first | refine WV_seq_ ?_ | refine WV_block ?_ | refine WV_ops ?_ | refine WV_skip ?_ | refine WV_exit ?_); (try simp only [go_sem, init_env', Nat.reduceEqDiff, Nat.reduceAdd, Nat.reduceMul, reduceIte, Nat.reduceLeDiff, Nat.reduceLT, Nat.reduceBEq, reduceCtorEq, hP, hw7, hwi2, hw6]); (repeat (refine And.intro (by first | omega | (intros; simp_all; done) | (intros; simp_all; omega)) ?_))))
    by_cases hs : ss < 0
    · have hss : ss = -1 := by omega
      subst hss
      have d5 : decide ((0 : Int) ≤ -1) = false := by decide
      have ht1 : turnI t.n (-1) = -1 := rfl
      rw [d5]
      (refine WV_cond rfl (fun h => ?_) (fun h => ?_))
      · simp at h
      (repeat ((first | refine WV_seq_ ?_ | refine WV_block ?_ | refine WV_ops ?_ | refine WV_skip ?_ | refine WV_exit ?_); (try simp only [go_sem, init_env', Nat.reduceEqDiff, Nat.reduceAdd, Nat.reduceMul, reduceIte, Nat.reduceLeDiff, Nat.reduceLT, Nat.reduceBEq, reduceCtorEq, hP, seqGo, ht1, beq_self_eq_true]); (repeat (refine And.intro (by first | omega | (intros; simp_all; done) | (intros; simp_all; omega)) ?_))))
      (refine AG_pure (fun hG => works19) rfl (fun hG => by first | (simp only [go_sem, init_env', Nat.reduceEqDiff, Nat.reduceAdd, Nat.reduceMul, reduceIte, Nat.reduceLeDiff, Nat.reduceLT, Nat.reduceBEq, reduceCtorEq, hG]; done) | (simp only [go_sem, init_env', Nat.reduceEqDiff, Nat.reduceAdd, Nat.reduceMul, reduceIte, Nat.reduceLeDiff, Nat.reduceLT, Nat.reduceBEq, reduceCtorEq]; revert hG; simp; done) | (simp only [go_sem, init_env', Nat.reduceEqDiff, Nat.reduceAdd, Nat.reduceMul, reduceIte, Nat.reduceLeDiff, Nat.reduceLT, Nat.reduceBEq, reduceCtorEq, hG]; simp_all; done) | (revert hG; simp; done) | simp_all) rfl rfl rfl ?_; simp only [go_sem, init_env', Nat.reduceEqDiff, Nat.reduceAdd, Nat.reduceMul, reduceIte, Nat.reduceLeDiff, Nat.reduceLT, Nat.reduceBEq, reduceCtorEq, hP, ]; (repeat (refine And.intro (by first | omega | (intros; simp_all; done) | (intros; simp_all; omega)) ?_)); (repeat ((first | refine WV_seq_ ?_ | refine WV_block ?_ | refine WV_ops ?_ | refine WV_skip ?_ | refine WV_exit ?_); (try simp only [go_sem, init_env', Nat.reduceEqDiff, Nat.reduceAdd, Nat.reduceMul, reduceIte, Nat.reduceLeDiff, Nat.reduceLT, Nat.reduceBEq, reduceCtorEq, hP, ]); (repeat (refine And.intro (by first | omega | (intros; simp_all; done) | (intros; simp_all; omega)) ?_)))))
      (refine WV_ret ?_; simp only [thenQ, inQ, RetQ, RetOk, resAll, resA]; simp only [go_sem, init_env', Nat.reduceEqDiff, Nat.reduceAdd, Nat.reduceMul, reduceIte, Nat.reduceLeDiff, Nat.reduceLT, Nat.reduceBEq, reduceCtorEq, tupA, AV.port, AV.portL, exists_eq_left', ]; (first | exact AVle.of rfl | refine AVle.of ?_ | skip))
    · have d5 : decide (0 ≤ ss) = true := by simp; omega
      have hw9 := w64 (n := 2 * ((t.n : Int) - 1) + 1 - ss) (by omega) (by omega)
      have ht1 : turnI t.n ss = 2 * ((t.n : Int) - 1) + 1 - ss := by unfold turnI; rw [if_neg hs]; omega
      rw [d5]
      (refine WV_cond rfl (fun h => ?_) (fun h => ?_))
      rotate_left
      · simp at h
      (repeat ((first | refine WV_seq_ ?_ | refine WV_block ?_ | refine WV_ops ?_ | refine WV_skip ?_ | refine WV_exit ?_); (try simp only [go_sem, init_env', Nat.reduceEqDiff, Nat.reduceAdd, Nat.reduceMul, reduceIte, Nat.reduceLeDiff, Nat.reduceLT, Nat.reduceBEq, reduceCtorEq, hP, hw4, hw5, hw9, seqGo, ht1, beq_self_eq_true]); (repeat (refine And.intro (by first | omega | (intros; simp_all; done) | (intros; simp_all; omega)) ?_))))
      (refine AG_pure (fun hG => works19) rfl (fun hG => by first | (simp only [go_sem, init_env', Nat.reduceEqDiff, Nat.reduceAdd, Nat.reduceMul, reduceIte, Nat.reduceLeDiff, Nat.reduceLT, Nat.reduceBEq, reduceCtorEq, hG]; done) | (simp only [go_sem, init_env', Nat.reduceEqDiff, Nat.reduceAdd, Nat.reduceMul, reduceIte, Nat.reduceLeDiff, Nat.reduceLT, Nat.reduceBEq, reduceCtorEq]; revert hG; simp; done) | (simp only [go_sem, init_env', Nat.reduceEqDiff, Nat.reduceAdd, Nat.reduceMul, reduceIte, Nat.reduceLeDiff, Nat.reduceLT, Nat.reduceBEq, reduceCtorEq, hG]; simp_all; done) | (revert hG; simp; done) | simp_all) rfl rfl rfl ?_; simp only [go_sem, init_env', Nat.reduceEqDiff, Nat.reduceAdd, Nat.reduceMul, reduceIte, Nat.reduceLeDiff, Nat.reduceLT, Nat.reduceBEq, reduceCtorEq, hP, ]; (repeat (refine And.intro (by first | omega | (intros; simp_all; done) | (intros; simp_all; omega)) ?_)); (repeat ((first | refine WV_seq_ ?_ | refine WV_block ?_ | refine WV_ops ?_ | refine WV_skip ?_ | refine WV_exit ?_); (try simp only [go_sem, init_env', Nat.reduceEqDiff, Nat.reduceAdd, Nat.reduceMul, reduceIte, Nat.reduceLeDiff, Nat.reduceLT, Nat.reduceBEq, reduceCtorEq, hP, ]); (repeat (refine And.intro (by first | omega | (intros; simp_all; done) | (intros; simp_all; omega)) ?_)))))
      (refine WV_ret ?_; simp only [thenQ, inQ, RetQ, RetOk, resAll, resA]; simp only [go_sem, init_env', Nat.reduceEqDiff, Nat.reduceAdd, Nat.reduceMul, reduceIte, Nat.reduceLeDiff, Nat.reduceLT, Nat.reduceBEq, reduceCtorEq, tupA, AV.port, AV.portL, exists_eq_left', ]; (first | exact AVle.of rfl | refine AVle.of ?_ | skip))
end Go.Proofs.Ytkpgpgaojjobgaa
