/-
  Contracts of the layer's functions, of the laws' helpers and of the law; conditions: as each theorem states.
-/
import Derived.Test.YtkpgpgaojjobgaaU6
set_option linter.unusedVariables false
set_option linter.unusedSimpArgs false
namespace Go.Proofs.Ytkpgpgaojjobgaa
open Go Go.V
@[reducible] def o3_0 : List Ins := [⟨(some 3), .box 5 (.t 0), none, true⟩,
  ⟨(some 4), .box 2 (.t 1), none, true⟩,
  ⟨(some 6), .mv (.k (.c (.bool false))), none, true⟩]
@[reducible] def o3_1 : List Ins := [⟨(some 19), .ld false 5 (.t 3), none, true⟩,
  ⟨(some 20), .call (.k (.fn 16 [])) [(.t 19)], none, true⟩,
  ⟨(some 21), .un .not (.t 20), none, true⟩,
  ⟨(some 22), .mv (.t 21), none, true⟩,
  ⟨(some 23), .fa 4 (.t 3), (some (22, false)), true⟩,
  ⟨(some 24), .ld true 1 (.t 23), (some (22, false)), true⟩,
  ⟨(some 25), .len (.t 24), (some (22, false)), true⟩,
  ⟨(some 26), .bin .geq (.t 25) (.k (.c (.int .i64 12))), (some (22, false)), true⟩,
  ⟨(some 27), .pick (.t 22) (.k (.c (.bool true))) (.t 26), none, true⟩,
  ⟨(some 28), .mv (.t 27), none, true⟩,
  ⟨(some 29), .ld false 5 (.t 3), (some (28, false)), true⟩,
  ⟨(some 30), .fa 0 (.t 4), (some (28, false)), true⟩,
  ⟨(some 31), .ld true 1 (.t 30), (some (28, false)), true⟩,
  ⟨(some 32), .call (.k (.fn 17 [])) [(.t 29), (.t 31)], (some (28, false)), true⟩,
  ⟨(some 33), .un .not (.t 32), (some (28, false)), true⟩,
  ⟨(some 34), .pick (.t 28) (.k (.c (.bool true))) (.t 33), none, true⟩,
  ⟨(some 35), .mv (.t 34), none, true⟩,
  ⟨(some 36), .fa 1 (.t 4), (some (35, false)), true⟩,
  ⟨(some 37), .ld true 1 (.t 36), (some (35, false)), true⟩,
  ⟨(some 38), .call (.k (.fn 18 [])) [(.t 37)], (some (35, false)), true⟩,
  ⟨(some 39), .un .not (.t 38), (some (35, false)), true⟩,
  ⟨(some 40), .pick (.t 35) (.k (.c (.bool true))) (.t 39), none, true⟩,
  ⟨(some 41), .mv (.t 40), none, true⟩,
  ⟨(some 42), .mv (.t 2), (some (41, false)), true⟩,
  ⟨(some 43), .bin .lss (.t 42) (.k (.c (.int .i64 0))), (some (41, false)), true⟩,
  ⟨(some 44), .pick (.t 41) (.k (.c (.bool true))) (.t 43), none, true⟩,
  ⟨(some 45), .mv (.t 44), none, true⟩,
  ⟨(some 46), .mv (.t 2), (some (45, false)), true⟩,
  ⟨(some 47), .fa 1 (.t 4), (some (45, false)), true⟩,
  ⟨(some 48), .ld true 1 (.t 47), (some (45, false)), true⟩,
  ⟨(some 49), .bin .geq (.t 46) (.t 48), (some (45, false)), true⟩,
  ⟨(some 50), .pick (.t 45) (.k (.c (.bool true))) (.t 49), none, true⟩]
@[reducible] def o3_2 : List Ins := [⟨(some 51), .call (.k (.fn 19 [])) [], none, true⟩,
  ⟨(some 6), .mv (.t 51), none, true⟩]
@[reducible] def v3_3 : VC := (.seq (.ops o3_2) .ret)
@[reducible] def v3_4 : VC := (.cond (.t 50) v3_3 .skip)
@[reducible] def o3_5 : List Ins := [⟨(some 52), .ld false 5 (.t 3), none, true⟩,
  ⟨(some 53), .call (.k (.fn 20 [])) [(.t 52)], none, true⟩,
  ⟨(some 7), .alloc [(.c (.raw (.slice none 0 0))), (.c (.int .i64 0)), (.c (.int .i64 0)), (.c (.int .i64 0)), (.c (.raw (.slice none 0 0)))], none, true⟩,
  ⟨none, .st 5 (.t 7) (.t 53), none, true⟩]
@[reducible] def o3_6 : List Ins := [⟨(some 54), .fa 4 (.t 7), none, true⟩,
  ⟨(some 55), .ld true 1 (.t 54), none, true⟩,
  ⟨(some 56), .ld false 2 (.t 4), none, true⟩,
  ⟨(some 57), .bsl 27 2 [(.t 56)], none, true⟩,
  ⟨(some 58), .app 27 2 16 (.t 55) (.t 57), none, true⟩,
  ⟨(some 59), .fa 4 (.t 7), none, true⟩,
  ⟨none, .st 1 (.t 59) (.t 58), none, true⟩]
@[reducible] def o3_7 : List Ins := [⟨(some 61), .ld false 5 (.t 3), none, true⟩,
  ⟨(some 62), .mv (.t 2), none, true⟩,
  ⟨(some 63), .call (.k (.fn 21 [])) [(.t 61), (.t 62)], none, true⟩,
  ⟨(some 60), .mv (.t 63), none, true⟩,
  ⟨(some 64), .ext (.t 60) 0, none, true⟩,
  ⟨(some 65), .ext (.t 60) 1, none, true⟩,
  ⟨(some 8), .alloc [(.c (.int .i64 0)), (.c (.int .i64 0)), (.c (.int .i64 0))], none, true⟩,
  ⟨none, .st 3 (.t 8) (.t 64), none, true⟩,
  ⟨(some 9), .mv (.t 65), none, true⟩]
@[reducible] def o3_8 : List Ins := [⟨(some 67), .ld false 5 (.t 7), none, true⟩,
  ⟨(some 68), .mv (.t 2), none, true⟩,
  ⟨(some 69), .call (.k (.fn 21 [])) [(.t 67), (.t 68)], none, true⟩,
  ⟨(some 66), .mv (.t 69), none, true⟩,
  ⟨(some 70), .ext (.t 66) 0, none, true⟩,
  ⟨(some 71), .ext (.t 66) 1, none, true⟩,
  ⟨(some 10), .alloc [(.c (.int .i64 0)), (.c (.int .i64 0)), (.c (.int .i64 0))], none, true⟩,
  ⟨none, .st 3 (.t 10) (.t 70), none, true⟩,
  ⟨(some 11), .mv (.t 71), none, true⟩]
@[reducible] def o3_9 : List Ins := [⟨(some 73), .ld false 5 (.t 3), none, true⟩,
  ⟨(some 74), .call (.k (.fn 22 [])) [(.t 73)], none, true⟩,
  ⟨(some 72), .mv (.t 74), none, true⟩,
  ⟨(some 75), .ext (.t 72) 0, none, true⟩,
  ⟨(some 76), .ext (.t 72) 1, none, true⟩,
  ⟨(some 12), .mv (.t 75), none, true⟩,
  ⟨(some 13), .mv (.t 76), none, true⟩]
@[reducible] def o3_10 : List Ins := [⟨(some 78), .ld false 5 (.t 7), none, true⟩,
  ⟨(some 79), .call (.k (.fn 22 [])) [(.t 78)], none, true⟩,
  ⟨(some 77), .mv (.t 79), none, true⟩,
  ⟨(some 80), .ext (.t 77) 0, none, true⟩,
  ⟨(some 81), .ext (.t 77) 1, none, true⟩,
  ⟨(some 14), .mv (.t 80), none, true⟩,
  ⟨(some 15), .mv (.t 81), none, true⟩]
@[reducible] def o3_11 : List Ins := [⟨(some 82), .mv (.t 9), none, true⟩,
  ⟨(some 83), .bin .neq (.t 82) (.k (.c (.int .i64 0))), none, true⟩,
  ⟨(some 84), .mv (.t 83), none, true⟩,
  ⟨(some 85), .mv (.t 11), (some (84, false)), true⟩,
  ⟨(some 86), .bin .neq (.t 85) (.k (.c (.int .i64 0))), (some (84, false)), true⟩,
  ⟨(some 87), .pick (.t 84) (.k (.c (.bool true))) (.t 86), none, true⟩,
  ⟨(some 88), .mv (.t 87), none, true⟩,
  ⟨(some 89), .mv (.t 13), (some (88, false)), true⟩,
  ⟨(some 90), .bin .neq (.t 89) (.k (.c (.int .i64 0))), (some (88, false)), true⟩,
  ⟨(some 91), .pick (.t 88) (.k (.c (.bool true))) (.t 90), none, true⟩,
  ⟨(some 92), .mv (.t 91), none, true⟩,
  ⟨(some 93), .mv (.t 15), (some (92, false)), true⟩,
  ⟨(some 94), .bin .neq (.t 93) (.k (.c (.int .i64 0))), (some (92, false)), true⟩,
  ⟨(some 95), .pick (.t 92) (.k (.c (.bool true))) (.t 94), none, true⟩,
  ⟨(some 96), .mv (.t 95), none, true⟩,
  ⟨(some 97), .ld false 3 (.t 8), (some (96, false)), true⟩,
  ⟨(some 98), .ld false 3 (.t 10), (some (96, false)), true⟩,
  ⟨(some 99), .seq true [(0, true), (1, true), (2, true)] (.t 97) (.t 98), (some (96, false)), true⟩,
  ⟨(some 100), .pick (.t 96) (.k (.c (.bool true))) (.t 99), none, true⟩,
  ⟨(some 101), .mv (.t 100), none, true⟩,
  ⟨(some 102), .mv (.t 12), (some (101, false)), true⟩,
  ⟨(some 103), .len (.t 102), (some (101, false)), true⟩,
  ⟨(some 104), .bin .gtr (.t 103) (.k (.c (.int .i64 40))), (some (101, false)), true⟩,
  ⟨(some 105), .pick (.t 101) (.k (.c (.bool true))) (.t 104), none, true⟩,
  ⟨(some 106), .mv (.t 105), none, true⟩,
  ⟨(some 107), .mv (.t 14), (some (106, false)), true⟩,
  ⟨(some 108), .len (.t 107), (some (106, false)), true⟩,
  ⟨(some 109), .bin .gtr (.t 108) (.k (.c (.int .i64 40))), (some (106, false)), true⟩,
  ⟨(some 110), .pick (.t 106) (.k (.c (.bool true))) (.t 109), none, true⟩]
@[reducible] def o3_12 : List Ins := [⟨(some 6), .mv (.k (.c (.bool false))), none, true⟩]
@[reducible] def v3_13 : VC := (.seq (.ops o3_12) .ret)
@[reducible] def v3_14 : VC := (.cond (.t 110) v3_13 .skip)
@[reducible] def o3_15 : List Ins := [⟨(some 16), .mv (.k (.c (.int .i64 0))), none, true⟩]
@[reducible] def o3_16 : List Ins := [⟨(some 111), .mv (.t 16), none, true⟩,
  ⟨(some 112), .mv (.t 12), none, true⟩,
  ⟨(some 113), .len (.t 112), none, true⟩,
  ⟨(some 114), .mv (.t 14), none, true⟩,
  ⟨(some 115), .len (.t 114), none, true⟩,
  ⟨(some 116), .mm true (.t 113) (.t 115), none, true⟩,
  ⟨(some 117), .bin .lss (.t 111) (.t 116), none, true⟩]
@[reducible] def v3_17 : VC := (.cond (.t 117) .skip (.exit 0))
@[reducible] def t3_18 : OT := (.cons ⟨(some 120), .fa 1 (.t 4), none, false⟩
  (.cons ⟨(some 121), .ld true 1 (.t 120), none, false⟩
  (.cons ⟨(some 122), .bld [(.c (.int .i64 0)), (.c (.int .i64 0))] [(0, 1, (.k (.c (.int .i64 (-1))))), (1, 1, (.t 121))], none, false⟩
  (.cons ⟨(some 123), .fa 1 (.t 4), none, false⟩
  (.br [(.cons ⟨(some 124), .ld true 1 (.t 123), none, false⟩
    (.cons ⟨(some 125), .bld [(.c (.int .i64 0)), (.c (.int .i64 0))] [(0, 1, (.k (.c (.int .i64 (-1))))), (1, 1, (.t 124))], none, false⟩
    (.br [(.cons ⟨(some 17), .alloc [(.c (.int .i64 0)), (.c (.int .i64 0))], none, false⟩
      (.cons ⟨(some 18), .alloc [(.c (.int .i64 0)), (.c (.int .i64 0))], none, false⟩
      (.cons ⟨none, .st 2 (.t 17) (.t 122), none, false⟩
      (.cons ⟨none, .st 2 (.t 18) (.t 125), none, true⟩
      .nil)))), (.cons ⟨(some 18), .alloc [(.c (.int .i64 0)), (.c (.int .i64 0))], none, false⟩
      (.cons ⟨(some 17), .alloc [(.c (.int .i64 0)), (.c (.int .i64 0))], none, false⟩
      (.cons ⟨none, .st 2 (.t 17) (.t 122), none, false⟩
      (.cons ⟨none, .st 2 (.t 18) (.t 125), none, true⟩
      .nil))))]))), (.cons ⟨(some 17), .alloc [(.c (.int .i64 0)), (.c (.int .i64 0))], none, false⟩
    (.cons ⟨(some 18), .alloc [(.c (.int .i64 0)), (.c (.int .i64 0))], none, false⟩
    (.br [(.cons ⟨(some 124), .ld true 1 (.t 123), none, false⟩
      (.cons ⟨(some 125), .bld [(.c (.int .i64 0)), (.c (.int .i64 0))] [(0, 1, (.k (.c (.int .i64 (-1))))), (1, 1, (.t 124))], none, false⟩
      (.cons ⟨none, .st 2 (.t 17) (.t 122), none, false⟩
      (.cons ⟨none, .st 2 (.t 18) (.t 125), none, true⟩
      .nil)))), (.cons ⟨none, .st 2 (.t 17) (.t 122), none, false⟩
      (.cons ⟨(some 124), .ld true 1 (.t 123), none, false⟩
      (.cons ⟨(some 125), .bld [(.c (.int .i64 0)), (.c (.int .i64 0))] [(0, 1, (.k (.c (.int .i64 (-1))))), (1, 1, (.t 124))], none, false⟩
      (.cons ⟨none, .st 2 (.t 18) (.t 125), none, true⟩
      .nil))))]))), (.cons ⟨(some 18), .alloc [(.c (.int .i64 0)), (.c (.int .i64 0))], none, false⟩
    (.cons ⟨(some 17), .alloc [(.c (.int .i64 0)), (.c (.int .i64 0))], none, false⟩
    (.br [(.cons ⟨(some 124), .ld true 1 (.t 123), none, false⟩
      (.cons ⟨(some 125), .bld [(.c (.int .i64 0)), (.c (.int .i64 0))] [(0, 1, (.k (.c (.int .i64 (-1))))), (1, 1, (.t 124))], none, false⟩
      (.cons ⟨none, .st 2 (.t 17) (.t 122), none, false⟩
      (.cons ⟨none, .st 2 (.t 18) (.t 125), none, true⟩
      .nil)))), (.cons ⟨none, .st 2 (.t 17) (.t 122), none, false⟩
      (.cons ⟨(some 124), .ld true 1 (.t 123), none, false⟩
      (.cons ⟨(some 125), .bld [(.c (.int .i64 0)), (.c (.int .i64 0))] [(0, 1, (.k (.c (.int .i64 (-1))))), (1, 1, (.t 124))], none, false⟩
      (.cons ⟨none, .st 2 (.t 18) (.t 125), none, true⟩
      .nil))))])))])))))
@[reducible] def o3_19 : List Ins := [⟨(some 126), .mv (.t 16), none, true⟩,
  ⟨(some 127), .mv (.t 12), none, true⟩,
  ⟨(some 128), .len (.t 127), none, true⟩,
  ⟨(some 129), .bin .lss (.t 126) (.t 128), none, true⟩]
@[reducible] def o3_20 : List Ins := [⟨(some 130), .mv (.t 12), none, true⟩,
  ⟨(some 131), .mv (.t 16), none, true⟩,
  ⟨(some 132), .ia 2 (.t 130) (.t 131), none, true⟩,
  ⟨(some 133), .ld false 2 (.t 132), none, true⟩,
  ⟨none, .st 2 (.t 17) (.t 133), none, true⟩]
@[reducible] def v3_21 : VC := (.cond (.t 129) (.ops o3_20) .skip)
@[reducible] def o3_22 : List Ins := [⟨(some 134), .mv (.t 16), none, true⟩,
  ⟨(some 135), .mv (.t 14), none, true⟩,
  ⟨(some 136), .len (.t 135), none, true⟩,
  ⟨(some 137), .bin .lss (.t 134) (.t 136), none, true⟩]
@[reducible] def o3_23 : List Ins := [⟨(some 138), .mv (.t 14), none, true⟩,
  ⟨(some 139), .mv (.t 16), none, true⟩,
  ⟨(some 140), .ia 2 (.t 138) (.t 139), none, true⟩,
  ⟨(some 141), .ld false 2 (.t 140), none, true⟩,
  ⟨none, .st 2 (.t 18) (.t 141), none, true⟩]
@[reducible] def v3_24 : VC := (.cond (.t 137) (.ops o3_23) .skip)
@[reducible] def o3_25 : List Ins := [⟨(some 142), .fa 1 (.t 17), none, true⟩,
  ⟨(some 143), .ld true 1 (.t 142), none, true⟩,
  ⟨(some 144), .fa 1 (.t 4), none, true⟩,
  ⟨(some 145), .ld true 1 (.t 144), none, true⟩,
  ⟨(some 146), .bin .lss (.t 143) (.t 145), none, true⟩,
  ⟨(some 147), .mv (.t 146), none, true⟩,
  ⟨(some 148), .fa 1 (.t 18), (some (147, false)), true⟩,
  ⟨(some 149), .ld true 1 (.t 148), (some (147, false)), true⟩,
  ⟨(some 150), .fa 1 (.t 4), (some (147, false)), true⟩,
  ⟨(some 151), .ld true 1 (.t 150), (some (147, false)), true⟩,
  ⟨(some 152), .bin .lss (.t 149) (.t 151), (some (147, false)), true⟩,
  ⟨(some 153), .pick (.t 147) (.k (.c (.bool true))) (.t 152), none, true⟩,
  ⟨(some 154), .mv (.t 153), none, true⟩,
  ⟨(some 155), .ld false 2 (.t 17), (some (154, true)), true⟩,
  ⟨(some 156), .ld false 2 (.t 18), (some (154, true)), true⟩,
  ⟨(some 157), .seq true [(0, true), (1, true)] (.t 155) (.t 156), (some (154, true)), true⟩,
  ⟨(some 158), .pick (.t 154) (.t 157) (.k (.c (.bool false))), none, true⟩]
@[reducible] def o3_26 : List Ins := [⟨(some 6), .mv (.k (.c (.bool false))), none, true⟩]
@[reducible] def v3_27 : VC := (.seq (.ops o3_26) .ret)
@[reducible] def v3_28 : VC := (.cond (.t 158) v3_27 .skip)
@[reducible] def v3_29 : VC := (.seq (.ops o3_25) v3_28)
@[reducible] def v3_30 : VC := (.seq (.seq (.ops o3_22) v3_24) v3_29)
@[reducible] def v3_31 : VC := (.seq (.seq (.ops o3_19) v3_21) v3_30)
@[reducible] def v3_32 : VC := (.seq (.drw t3_18) v3_31)
@[reducible] def o3_33 : List Ins := [⟨(some 118), .mv (.t 16), none, true⟩,
  ⟨(some 119), .bin .add (.t 118) (.k (.c (.int .i64 1))), none, true⟩,
  ⟨(some 16), .mv (.t 119), none, true⟩]
@[reducible] def v3_34 : VC := (.seq (.block 1 v3_32) (.ops o3_33))
@[reducible] def v3_35 : VC := (.seq (.seq (.ops o3_16) v3_17) v3_34)
-- K3_1: changed and kept: [16]
@[reducible] def K3_1 : List Nat := [4, 12, 14]
@[reducible] def v3_36 : VC := (.loop v3_35)
@[reducible] def v3_37 : VC := (.block 0 v3_36)
@[reducible] def o3_38 : List Ins := [⟨(some 159), .call (.k (.fn 19 [])) [], none, true⟩,
  ⟨(some 6), .mv (.t 159), none, true⟩]
@[reducible] def v3_39 : VC := (.seq (.ops o3_38) .ret)
@[reducible] def v3_40 : VC := (.seq (.seq (.ops o3_15) v3_37) v3_39)
@[reducible] def v3_41 : VC := (.seq (.seq (.ops o3_11) v3_14) v3_40)
@[reducible] def v3_42 : VC := (.seq (.ops o3_10) v3_41)
@[reducible] def v3_43 : VC := (.seq (.ops o3_9) v3_42)
@[reducible] def v3_44 : VC := (.seq (.ops o3_8) v3_43)
@[reducible] def v3_45 : VC := (.seq (.ops o3_7) v3_44)
@[reducible] def v3_46 : VC := (.seq (.ops o3_6) v3_45)
@[reducible] def v3_47 : VC := (.seq (.ops o3_5) v3_46)
@[reducible] def v3_48 : VC := (.seq (.seq (.ops o3_1) v3_4) v3_47)
def ir3 : FC := ⟨3, 160, [.t 6], (.seq (.ops o3_0) v3_48)⟩
theorem c3 : compM Try.prog [] 3 = some ir3 := by kernel_rfl



theorem getD_in {l : List Pr} {k : Nat} (h : k < l.length) (d : Pr) : l.getD k d = l[k] := by rw [List.getD_eq_getElem?_getD, List.getElem?_eq_getElem h]; rfl
theorem getD_out {l : List Pr} {k : Nat} (h : l.length ≤ k) (d : Pr) : l.getD k d = d := by rw [List.getD_eq_getElem?_getD, List.getElem?_eq_none h]; rfl
set_option maxRecDepth 20000 in
set_option maxHeartbeats 8000000 in
theorem law3 (t : Tray) (p : Pr) (x : Int) : FSpec Try.prog 3 [t.av, .agg [iv p.side, iv p.time], iv x] (.c (.bool true)) := by
  have hready := ready16 t
  have hmax : maxLen = 9223372036854775807 := rfl
  by_cases hok : t.ok = true
  rotate_left
  · have hok : t.ok = false := by simpa using hok
    rw [hok] at hready
    refine FSpec_of c3 (Nat.le_refl _) (by decide) fun C hP hN hC hL => ?_
    simp only [ir3, Tray.av]
    (repeat ((first | refine WV_seq_ ?_ | refine WV_block ?_ | refine WV_ops ?_ | refine WV_skip ?_ | refine WV_exit ?_); (try simp only [go_sem, init_env', Nat.reduceEqDiff, Nat.reduceAdd, Nat.reduceMul, reduceIte, Nat.reduceLeDiff, Nat.reduceLT, Nat.reduceBEq, reduceCtorEq, hP, ]); (repeat (refine And.intro (by first | omega | (intros; simp_all; done) | (intros; simp_all; omega)) ?_))))
    (refine AS_pure (hready) rfl rfl rfl rfl rfl ?_; simp only [go_sem, init_env', Nat.reduceEqDiff, Nat.reduceAdd, Nat.reduceMul, reduceIte, Nat.reduceLeDiff, Nat.reduceLT, Nat.reduceBEq, reduceCtorEq, hP, Tray.av]; (repeat (refine And.intro (by first | omega | (intros; simp_all; done) | (intros; simp_all; omega)) ?_)); (repeat ((first | refine WV_seq_ ?_ | refine WV_block ?_ | refine WV_ops ?_ | refine WV_skip ?_ | refine WV_exit ?_); (try simp only [go_sem, init_env', Nat.reduceEqDiff, Nat.reduceAdd, Nat.reduceMul, reduceIte, Nat.reduceLeDiff, Nat.reduceLT, Nat.reduceBEq, reduceCtorEq, hP, Tray.av]); (repeat (refine And.intro (by first | omega | (intros; simp_all; done) | (intros; simp_all; omega)) ?_)))))
    (refine AG_skip ?_; simp only [go_sem, init_env', Nat.reduceEqDiff, Nat.reduceAdd, Nat.reduceMul, reduceIte, Nat.reduceLeDiff, Nat.reduceLT, Nat.reduceBEq, reduceCtorEq, hP, ]; (repeat (refine And.intro (by first | omega | (intros; simp_all; done) | (intros; simp_all; omega)) ?_)); (repeat ((first | refine WV_seq_ ?_ | refine WV_block ?_ | refine WV_ops ?_ | refine WV_skip ?_ | refine WV_exit ?_); (try simp only [go_sem, init_env', Nat.reduceEqDiff, Nat.reduceAdd, Nat.reduceMul, reduceIte, Nat.reduceLeDiff, Nat.reduceLT, Nat.reduceBEq, reduceCtorEq, hP, ]); (repeat (refine And.intro (by first | omega | (intros; simp_all; done) | (intros; simp_all; omega)) ?_)))))
    (refine AG_skip ?_; simp only [go_sem, init_env', Nat.reduceEqDiff, Nat.reduceAdd, Nat.reduceMul, reduceIte, Nat.reduceLeDiff, Nat.reduceLT, Nat.reduceBEq, reduceCtorEq, hP, ]; (repeat (refine And.intro (by first | omega | (intros; simp_all; done) | (intros; simp_all; omega)) ?_)); (repeat ((first | refine WV_seq_ ?_ | refine WV_block ?_ | refine WV_ops ?_ | refine WV_skip ?_ | refine WV_exit ?_); (try simp only [go_sem, init_env', Nat.reduceEqDiff, Nat.reduceAdd, Nat.reduceMul, reduceIte, Nat.reduceLeDiff, Nat.reduceLT, Nat.reduceBEq, reduceCtorEq, hP, ]); (repeat (refine And.intro (by first | omega | (intros; simp_all; done) | (intros; simp_all; omega)) ?_)))))
    (refine WV_cond rfl (fun h => ?_) (fun h => ?_))
    · (repeat ((first | refine WV_seq_ ?_ | refine WV_block ?_ | refine WV_ops ?_ | refine WV_skip ?_ | refine WV_exit ?_); (try simp only [go_sem, init_env', Nat.reduceEqDiff, Nat.reduceAdd, Nat.reduceMul, reduceIte, Nat.reduceLeDiff, Nat.reduceLT, Nat.reduceBEq, reduceCtorEq, hP, ]); (repeat (refine And.intro (by first | omega | (intros; simp_all; done) | (intros; simp_all; omega)) ?_))))
      (refine AS_pure (works19) rfl rfl rfl rfl rfl ?_; simp only [go_sem, init_env', Nat.reduceEqDiff, Nat.reduceAdd, Nat.reduceMul, reduceIte, Nat.reduceLeDiff, Nat.reduceLT, Nat.reduceBEq, reduceCtorEq, hP, ]; (repeat (refine And.intro (by first | omega | (intros; simp_all; done) | (intros; simp_all; omega)) ?_)); (repeat ((first | refine WV_seq_ ?_ | refine WV_block ?_ | refine WV_ops ?_ | refine WV_skip ?_ | refine WV_exit ?_); (try simp only [go_sem, init_env', Nat.reduceEqDiff, Nat.reduceAdd, Nat.reduceMul, reduceIte, Nat.reduceLeDiff, Nat.reduceLT, Nat.reduceBEq, reduceCtorEq, hP, ]); (repeat (refine And.intro (by first | omega | (intros; simp_all; done) | (intros; simp_all; omega)) ?_)))))
      (refine WV_ret ?_; simp only [thenQ, inQ, RetQ, RetOk, resAll, resA]; simp only [go_sem, init_env', Nat.reduceEqDiff, Nat.reduceAdd, Nat.reduceMul, reduceIte, Nat.reduceLeDiff, Nat.reduceLT, Nat.reduceBEq, reduceCtorEq, tupA, AV.port, AV.portL, exists_eq_left', ]; (first | exact AVle.of rfl | refine AVle.of ?_ | skip))
    · simp at h
  rw [hok] at hready
  have ht := (Tray.ok_spec hok).1
  have hn6 := ht.n6
  have hrl : t.recs.length = t.n := rfl
  have hside := risside17 t p.side (by omega)
  have htime := ristime18 p.time
  by_cases hgo : (decide (t.pres.length < 12) && isSide t.n p.side && isTime p.time && decide (0 ≤ x) && decide (x < p.time)) = true
  rotate_left
  · refine FSpec_of c3 (Nat.le_refl _) (by decide) fun C hP hN hC hL => ?_
    simp only [ir3, Tray.av]
    (repeat ((first | refine WV_seq_ ?_ | refine WV_block ?_ | refine WV_ops ?_ | refine WV_skip ?_ | refine WV_exit ?_); (try simp only [go_sem, init_env', Nat.reduceEqDiff, Nat.reduceAdd, Nat.reduceMul, reduceIte, Nat.reduceLeDiff, Nat.reduceLT, Nat.reduceBEq, reduceCtorEq, hP, ]); (repeat (refine And.intro (by first | omega | (intros; simp_all; done) | (intros; simp_all; omega)) ?_))))
    (refine AS_pure (hready) rfl rfl rfl rfl rfl ?_; simp only [go_sem, init_env', Nat.reduceEqDiff, Nat.reduceAdd, Nat.reduceMul, reduceIte, Nat.reduceLeDiff, Nat.reduceLT, Nat.reduceBEq, reduceCtorEq, hP, Tray.av]; (repeat (refine And.intro (by first | omega | (intros; simp_all; done) | (intros; simp_all; omega)) ?_)); (repeat ((first | refine WV_seq_ ?_ | refine WV_block ?_ | refine WV_ops ?_ | refine WV_skip ?_ | refine WV_exit ?_); (try simp only [go_sem, init_env', Nat.reduceEqDiff, Nat.reduceAdd, Nat.reduceMul, reduceIte, Nat.reduceLeDiff, Nat.reduceLT, Nat.reduceBEq, reduceCtorEq, hP, Tray.av]); (repeat (refine And.intro (by first | omega | (intros; simp_all; done) | (intros; simp_all; omega)) ?_)))))
    (refine AG_pure (fun hG => hside) rfl (fun hG => by first | (simp only [go_sem, init_env', Nat.reduceEqDiff, Nat.reduceAdd, Nat.reduceMul, reduceIte, Nat.reduceLeDiff, Nat.reduceLT, Nat.reduceBEq, reduceCtorEq, hG]; done) | (simp only [go_sem, init_env', Nat.reduceEqDiff, Nat.reduceAdd, Nat.reduceMul, reduceIte, Nat.reduceLeDiff, Nat.reduceLT, Nat.reduceBEq, reduceCtorEq]; revert hG; simp; done) | (simp only [go_sem, init_env', Nat.reduceEqDiff, Nat.reduceAdd, Nat.reduceMul, reduceIte, Nat.reduceLeDiff, Nat.reduceLT, Nat.reduceBEq, reduceCtorEq, hG]; simp_all; done) | (revert hG; simp; done) | simp_all) rfl rfl rfl ?_; simp only [go_sem, init_env', Nat.reduceEqDiff, Nat.reduceAdd, Nat.reduceMul, reduceIte, Nat.reduceLeDiff, Nat.reduceLT, Nat.reduceBEq, reduceCtorEq, hP, prsC, List.length_map]; (repeat (refine And.intro (by first | omega | (intros; simp_all; done) | (intros; simp_all; omega)) ?_)); (repeat ((first | refine WV_seq_ ?_ | refine WV_block ?_ | refine WV_ops ?_ | refine WV_skip ?_ | refine WV_exit ?_); (try simp only [go_sem, init_env', Nat.reduceEqDiff, Nat.reduceAdd, Nat.reduceMul, reduceIte, Nat.reduceLeDiff, Nat.reduceLT, Nat.reduceBEq, reduceCtorEq, hP, prsC, List.length_map]); (repeat (refine And.intro (by first | omega | (intros; simp_all; done) | (intros; simp_all; omega)) ?_)))))
    (refine AG_pure (fun hG => htime) rfl (fun hG => by first | (simp only [go_sem, init_env', Nat.reduceEqDiff, Nat.reduceAdd, Nat.reduceMul, reduceIte, Nat.reduceLeDiff, Nat.reduceLT, Nat.reduceBEq, reduceCtorEq, hG]; done) | (simp only [go_sem, init_env', Nat.reduceEqDiff, Nat.reduceAdd, Nat.reduceMul, reduceIte, Nat.reduceLeDiff, Nat.reduceLT, Nat.reduceBEq, reduceCtorEq]; revert hG; simp; done) | (simp only [go_sem, init_env', Nat.reduceEqDiff, Nat.reduceAdd, Nat.reduceMul, reduceIte, Nat.reduceLeDiff, Nat.reduceLT, Nat.reduceBEq, reduceCtorEq, hG]; simp_all; done) | (revert hG; simp; done) | simp_all) rfl rfl rfl ?_; simp only [go_sem, init_env', Nat.reduceEqDiff, Nat.reduceAdd, Nat.reduceMul, reduceIte, Nat.reduceLeDiff, Nat.reduceLT, Nat.reduceBEq, reduceCtorEq, hP, prsC, List.length_map]; (repeat (refine And.intro (by first | omega | (intros; simp_all; done) | (intros; simp_all; omega)) ?_)); (repeat ((first | refine WV_seq_ ?_ | refine WV_block ?_ | refine WV_ops ?_ | refine WV_skip ?_ | refine WV_exit ?_); (try simp only [go_sem, init_env', Nat.reduceEqDiff, Nat.reduceAdd, Nat.reduceMul, reduceIte, Nat.reduceLeDiff, Nat.reduceLT, Nat.reduceBEq, reduceCtorEq, hP, prsC, List.length_map]); (repeat (refine And.intro (by first | omega | (intros; simp_all; done) | (intros; simp_all; omega)) ?_)))))
    (refine WV_cond rfl (fun h => ?_) (fun h => ?_))
    · (repeat ((first | refine WV_seq_ ?_ | refine WV_block ?_ | refine WV_ops ?_ | refine WV_skip ?_ | refine WV_exit ?_); (try simp only [go_sem, init_env', Nat.reduceEqDiff, Nat.reduceAdd, Nat.reduceMul, reduceIte, Nat.reduceLeDiff, Nat.reduceLT, Nat.reduceBEq, reduceCtorEq, hP, ]); (repeat (refine And.intro (by first | omega | (intros; simp_all; done) | (intros; simp_all; omega)) ?_))))
      (refine AS_pure (works19) rfl rfl rfl rfl rfl ?_; simp only [go_sem, init_env', Nat.reduceEqDiff, Nat.reduceAdd, Nat.reduceMul, reduceIte, Nat.reduceLeDiff, Nat.reduceLT, Nat.reduceBEq, reduceCtorEq, hP, ]; (repeat (refine And.intro (by first | omega | (intros; simp_all; done) | (intros; simp_all; omega)) ?_)); (repeat ((first | refine WV_seq_ ?_ | refine WV_block ?_ | refine WV_ops ?_ | refine WV_skip ?_ | refine WV_exit ?_); (try simp only [go_sem, init_env', Nat.reduceEqDiff, Nat.reduceAdd, Nat.reduceMul, reduceIte, Nat.reduceLeDiff, Nat.reduceLT, Nat.reduceBEq, reduceCtorEq, hP, ]); (repeat (refine And.intro (by first | omega | (intros; simp_all; done) | (intros; simp_all; omega)) ?_)))))
      (refine WV_ret ?_; simp only [thenQ, inQ, RetQ, RetOk, resAll, resA]; simp only [go_sem, init_env', Nat.reduceEqDiff, Nat.reduceAdd, Nat.reduceMul, reduceIte, Nat.reduceLeDiff, Nat.reduceLT, Nat.reduceBEq, reduceCtorEq, tupA, AV.port, AV.portL, exists_eq_left', ]; (first | exact AVle.of rfl | refine AVle.of ?_ | skip))
    · exfalso; apply hgo
      simp at h ⊢
      obtain ⟨⟨⟨⟨a1, a2⟩, a3⟩, a4⟩, a5⟩ := h
      exact ⟨⟨⟨⟨by omega, a2⟩, a3⟩, by omega⟩, by omega⟩
  simp only [Bool.and_eq_true, decide_eq_true_eq] at hgo
  obtain ⟨⟨⟨⟨g1, g2⟩, g3⟩, g4⟩, g5⟩ := hgo
  rw [g2] at hside
  rw [g3] at htime
  have g3' : 0 ≤ p.time ∧ p.time ≤ 9999 := by simpa [isTime, within] using g3
  have htx : isTime x = true := by simp [isTime, within]; omega
  have hok' := withT_okB hok g1 g2 g3
  have ht' := (Tray.ok_spec hok').1
  have b1 := stand21 t x
  rw [show standR t x = (standV t x, 0) by unfold standR; rw [hok, htx]; rfl] at b1
  have b2 := stand21 (withT t p) x
  rw [show standR (withT t p) x = (standV t x, 0) by unfold standR; rw [hok', htx, before_stand ht ht' (by omega) g4 g5]; rfl] at b2
  have b3 := plays22 t
  rw [show playsR t = (playsS t, 0) by unfold playsR; rw [hok]; rfl] at b3
  have b4 := plays22 (withT t p)
  rw [show playsR (withT t p) = (playsS (withT t p), 0) by unfold playsR; rw [hok']; rfl] at b4
  have hcop := copyN t (by omega) (by omega)
  have hlen : (playsS t).length ≤ 13 := plays_len ht
  have hlen' : (playsS (withT t p)).length ≤ 13 := plays_len ht'
  have hbe := fun i => before_plays ht ht' (by omega) (by omega) i
  have hav : (withT t p).av = .agg [.c (recsC t.recs), iv t.at_, iv t.way, iv t.step, .c (prsC (t.pres ++ [p]))] := rfl
  rw [hav] at b2 b4
  simp only [prsC, List.map_append, List.map_cons, List.map_nil, Pr.cds] at b2 b4
  simp only [spAv] at b1 b2
  generalize playsS t = L at *
  generalize playsS (withT t p) = L' at *
  generalize standV t x = S at *
  have d1 : decide (12 ≤ (t.pres.length : Int)) = false := by simp; omega
  have d2 : decide (x < 0) = false := by simp; omega
  have d3 : decide (p.time ≤ x) = false := by simp; omega
  have d4 : decide (40 < (L.length : Int)) = false := by simp; omega
  have d5 : decide (40 < (L'.length : Int)) = false := by simp; omega
  refine FSpec_of c3 (Nat.le_refl _) (by decide) fun C hP hN hC hL => ?_
  simp only [ir3, Tray.av]
  (repeat ((first | refine WV_seq_ ?_ | refine WV_block ?_ | refine WV_ops ?_ | refine WV_skip ?_ | refine WV_exit ?_); (try simp only [go_sem, init_env', Nat.reduceEqDiff, Nat.reduceAdd, Nat.reduceMul, reduceIte, Nat.reduceLeDiff, Nat.reduceLT, Nat.reduceBEq, reduceCtorEq, hP, ]); (repeat (refine And.intro (by first | omega | (intros; simp_all; done) | (intros; simp_all; omega)) ?_))))
  (refine AS_pure (hready) rfl rfl rfl rfl rfl ?_; simp only [go_sem, init_env', Nat.reduceEqDiff, Nat.reduceAdd, Nat.reduceMul, reduceIte, Nat.reduceLeDiff, Nat.reduceLT, Nat.reduceBEq, reduceCtorEq, hP, Tray.av]; (repeat (refine And.intro (by first | omega | (intros; simp_all; done) | (intros; simp_all; omega)) ?_)); (repeat ((first | refine WV_seq_ ?_ | refine WV_block ?_ | refine WV_ops ?_ | refine WV_skip ?_ | refine WV_exit ?_); (try simp only [go_sem, init_env', Nat.reduceEqDiff, Nat.reduceAdd, Nat.reduceMul, reduceIte, Nat.reduceLeDiff, Nat.reduceLT, Nat.reduceBEq, reduceCtorEq, hP, Tray.av]); (repeat (refine And.intro (by first | omega | (intros; simp_all; done) | (intros; simp_all; omega)) ?_)))))
  (refine AG_pure (fun hG => hside) rfl (fun hG => by first | (simp only [go_sem, init_env', Nat.reduceEqDiff, Nat.reduceAdd, Nat.reduceMul, reduceIte, Nat.reduceLeDiff, Nat.reduceLT, Nat.reduceBEq, reduceCtorEq, hG]; done) | (simp only [go_sem, init_env', Nat.reduceEqDiff, Nat.reduceAdd, Nat.reduceMul, reduceIte, Nat.reduceLeDiff, Nat.reduceLT, Nat.reduceBEq, reduceCtorEq]; revert hG; simp; done) | (simp only [go_sem, init_env', Nat.reduceEqDiff, Nat.reduceAdd, Nat.reduceMul, reduceIte, Nat.reduceLeDiff, Nat.reduceLT, Nat.reduceBEq, reduceCtorEq, hG]; simp_all; done) | (revert hG; simp; done) | simp_all) rfl rfl rfl ?_; simp only [go_sem, init_env', Nat.reduceEqDiff, Nat.reduceAdd, Nat.reduceMul, reduceIte, Nat.reduceLeDiff, Nat.reduceLT, Nat.reduceBEq, reduceCtorEq, hP, prsC, List.length_map]; (repeat (refine And.intro (by first | omega | (intros; simp_all; done) | (intros; simp_all; omega)) ?_)); (repeat ((first | refine WV_seq_ ?_ | refine WV_block ?_ | refine WV_ops ?_ | refine WV_skip ?_ | refine WV_exit ?_); (try simp only [go_sem, init_env', Nat.reduceEqDiff, Nat.reduceAdd, Nat.reduceMul, reduceIte, Nat.reduceLeDiff, Nat.reduceLT, Nat.reduceBEq, reduceCtorEq, hP, prsC, List.length_map]); (repeat (refine And.intro (by first | omega | (intros; simp_all; done) | (intros; simp_all; omega)) ?_)))))
  (refine AG_pure (fun hG => htime) rfl (fun hG => by first | (simp only [go_sem, init_env', Nat.reduceEqDiff, Nat.reduceAdd, Nat.reduceMul, reduceIte, Nat.reduceLeDiff, Nat.reduceLT, Nat.reduceBEq, reduceCtorEq, hG]; done) | (simp only [go_sem, init_env', Nat.reduceEqDiff, Nat.reduceAdd, Nat.reduceMul, reduceIte, Nat.reduceLeDiff, Nat.reduceLT, Nat.reduceBEq, reduceCtorEq]; revert hG; simp; done) | (simp only [go_sem, init_env', Nat.reduceEqDiff, Nat.reduceAdd, Nat.reduceMul, reduceIte, Nat.reduceLeDiff, Nat.reduceLT, Nat.reduceBEq, reduceCtorEq, hG]; simp_all; done) | (revert hG; simp; done) | simp_all) rfl rfl rfl ?_; simp only [go_sem, init_env', Nat.reduceEqDiff, Nat.reduceAdd, Nat.reduceMul, reduceIte, Nat.reduceLeDiff, Nat.reduceLT, Nat.reduceBEq, reduceCtorEq, hP, prsC, List.length_map, d1, d2, d3]; (repeat (refine And.intro (by first | omega | (intros; simp_all; done) | (intros; simp_all; omega)) ?_)); (repeat ((first | refine WV_seq_ ?_ | refine WV_block ?_ | refine WV_ops ?_ | refine WV_skip ?_ | refine WV_exit ?_); (try simp only [go_sem, init_env', Nat.reduceEqDiff, Nat.reduceAdd, Nat.reduceMul, reduceIte, Nat.reduceLeDiff, Nat.reduceLT, Nat.reduceBEq, reduceCtorEq, hP, prsC, List.length_map, d1, d2, d3]); (repeat (refine And.intro (by first | omega | (intros; simp_all; done) | (intros; simp_all; omega)) ?_)))))
  (refine WV_cond rfl (fun h => ?_) (fun h => ?_))
  · simp at h
  (repeat ((first | refine WV_seq_ ?_ | refine WV_block ?_ | refine WV_ops ?_ | refine WV_skip ?_ | refine WV_exit ?_); (try simp only [go_sem, init_env', Nat.reduceEqDiff, Nat.reduceAdd, Nat.reduceMul, reduceIte, Nat.reduceLeDiff, Nat.reduceLT, Nat.reduceBEq, reduceCtorEq, hP, ]); (repeat (refine And.intro (by first | omega | (intros; simp_all; done) | (intros; simp_all; omega)) ?_))))
  refine AS_new hcop rfl rfl rfl rfl ?_
  rintro res os ⟨rfl, rfl⟩
  refine ⟨[900, 901], .agg [.gr 900, iv t.at_, iv t.way, iv t.step, .gr 901], [.grow 56 2 (t.recs.map Rec.cds), .grow 27 2 (t.pres.map Pr.cds)], by decide, rfl, by simp only [go_sem, init_env', Nat.reduceEqDiff, Nat.reduceAdd, Nat.reduceMul, reduceIte, Nat.reduceLeDiff, Nat.reduceLT, Nat.reduceBEq, reduceCtorEq, decide_true], rfl, rfl, ?_⟩
  simp only [go_sem, init_env', Nat.reduceEqDiff, Nat.reduceAdd, Nat.reduceMul, reduceIte, Nat.reduceLeDiff, Nat.reduceLT, Nat.reduceBEq, reduceCtorEq, hP, ownBack, prs_two, List.length_map]
  (repeat (refine And.intro (by first | omega | (intros; simp_all; done) | (intros; simp_all; omega)) ?_))
  (repeat ((first | refine WV_seq_ ?_ | refine WV_block ?_ | refine WV_ops ?_ | refine WV_skip ?_ | refine WV_exit ?_); (try simp only [go_sem, init_env', Nat.reduceEqDiff, Nat.reduceAdd, Nat.reduceMul, reduceIte, Nat.reduceLeDiff, Nat.reduceLT, Nat.reduceBEq, reduceCtorEq, hP, prsC, prs_two, List.length_map, List.length_append, List.length_cons, List.length_nil]); (repeat (refine And.intro (by first | omega | (intros; simp_all; done) | (intros; simp_all; omega)) ?_))))
  (refine AS_pure (b1) rfl rfl rfl rfl rfl ?_; simp only [go_sem, init_env', Nat.reduceEqDiff, Nat.reduceAdd, Nat.reduceMul, reduceIte, Nat.reduceLeDiff, Nat.reduceLT, Nat.reduceBEq, reduceCtorEq, hP, Tray.av]; (repeat (refine And.intro (by first | omega | (intros; simp_all; done) | (intros; simp_all; omega)) ?_)); (repeat ((first | refine WV_seq_ ?_ | refine WV_block ?_ | refine WV_ops ?_ | refine WV_skip ?_ | refine WV_exit ?_); (try simp only [go_sem, init_env', Nat.reduceEqDiff, Nat.reduceAdd, Nat.reduceMul, reduceIte, Nat.reduceLeDiff, Nat.reduceLT, Nat.reduceBEq, reduceCtorEq, hP, Tray.av]); (repeat (refine And.intro (by first | omega | (intros; simp_all; done) | (intros; simp_all; omega)) ?_)))))
  (refine AS_pure (b2) rfl rfl rfl rfl rfl ?_; simp only [go_sem, init_env', Nat.reduceEqDiff, Nat.reduceAdd, Nat.reduceMul, reduceIte, Nat.reduceLeDiff, Nat.reduceLT, Nat.reduceBEq, reduceCtorEq, hP, prsC, prs_two]; (repeat (refine And.intro (by first | omega | (intros; simp_all; done) | (intros; simp_all; omega)) ?_)); (repeat ((first | refine WV_seq_ ?_ | refine WV_block ?_ | refine WV_ops ?_ | refine WV_skip ?_ | refine WV_exit ?_); (try simp only [go_sem, init_env', Nat.reduceEqDiff, Nat.reduceAdd, Nat.reduceMul, reduceIte, Nat.reduceLeDiff, Nat.reduceLT, Nat.reduceBEq, reduceCtorEq, hP, prsC, prs_two]); (repeat (refine And.intro (by first | omega | (intros; simp_all; done) | (intros; simp_all; omega)) ?_)))))
  (refine AS_pure (b3) rfl rfl rfl rfl rfl ?_; simp only [go_sem, init_env', Nat.reduceEqDiff, Nat.reduceAdd, Nat.reduceMul, reduceIte, Nat.reduceLeDiff, Nat.reduceLT, Nat.reduceBEq, reduceCtorEq, hP, Tray.av]; (repeat (refine And.intro (by first | omega | (intros; simp_all; done) | (intros; simp_all; omega)) ?_)); (repeat ((first | refine WV_seq_ ?_ | refine WV_block ?_ | refine WV_ops ?_ | refine WV_skip ?_ | refine WV_exit ?_); (try simp only [go_sem, init_env', Nat.reduceEqDiff, Nat.reduceAdd, Nat.reduceMul, reduceIte, Nat.reduceLeDiff, Nat.reduceLT, Nat.reduceBEq, reduceCtorEq, hP, Tray.av]); (repeat (refine And.intro (by first | omega | (intros; simp_all; done) | (intros; simp_all; omega)) ?_)))))
  (refine AS_pure (b4) rfl rfl rfl rfl rfl ?_; simp only [go_sem, init_env', Nat.reduceEqDiff, Nat.reduceAdd, Nat.reduceMul, reduceIte, Nat.reduceLeDiff, Nat.reduceLT, Nat.reduceBEq, reduceCtorEq, hP, prsC, prs_two, seqGo, beq_self_eq_true, bne_self_eq_false, List.length_map, d4, d5]; (repeat (refine And.intro (by first | omega | (intros; simp_all; done) | (intros; simp_all; omega)) ?_)); (repeat ((first | refine WV_seq_ ?_ | refine WV_block ?_ | refine WV_ops ?_ | refine WV_skip ?_ | refine WV_exit ?_); (try simp only [go_sem, init_env', Nat.reduceEqDiff, Nat.reduceAdd, Nat.reduceMul, reduceIte, Nat.reduceLeDiff, Nat.reduceLT, Nat.reduceBEq, reduceCtorEq, hP, prsC, prs_two, seqGo, beq_self_eq_true, bne_self_eq_false, List.length_map, d4, d5]); (repeat (refine And.intro (by first | omega | (intros; simp_all; done) | (intros; simp_all; omega)) ?_)))))
  (refine WV_cond rfl (fun h => ?_) (fun h => ?_))
  · simp at h
  (repeat ((first | refine WV_seq_ ?_ | refine WV_block ?_ | refine WV_ops ?_ | refine WV_skip ?_ | refine WV_exit ?_); (try simp only [go_sem, init_env', Nat.reduceEqDiff, Nat.reduceAdd, Nat.reduceMul, reduceIte, Nat.reduceLeDiff, Nat.reduceLT, Nat.reduceBEq, reduceCtorEq, hP, ]); (repeat (refine And.intro (by first | omega | (intros; simp_all; done) | (intros; simp_all; omega)) ?_))))
  refine WV_loopK K3_1 [7, 8, 10, 57, 58, 900, 901] (fun k : Nat => k ≤ max L.length L'.length) (fun k => max L.length L'.length - k) (fun k => [(16, iv k)]) (fun _ => []) 0 (Nat.zero_le _) ?_ ?_
  · (refine Sub_of (by simp only [go_sem, init_env', Nat.reduceEqDiff, Nat.reduceAdd, Nat.reduceMul, reduceIte, Nat.reduceLeDiff, Nat.reduceLT, Nat.reduceBEq, reduceCtorEq]; ((repeat' (first | exact EnvLe_e0 _ _ | refine EnvLe_upd ?_ ?_)) <;> ((try simp only [upd_app, e0_app, o0_app, Nat.reduceEqDiff, reduceIte]); first | exact AWk.refl _ _ | exact AWk.int (by omega) | exact AWk.int (by rw [w64 (by omega) (by omega)]; omega) | exact AWk.grow rfl | exact AWk.nil _ | exact AWk.of (by simp)))) (by simp only [go_sem, init_env', Nat.reduceEqDiff, Nat.reduceAdd, Nat.reduceMul, reduceIte, Nat.reduceLeDiff, Nat.reduceLT, Nat.reduceBEq, reduceCtorEq]; ((repeat' (first | exact ObjLe_o0 _ | exact ObjLe.rfl' _ | refine ObjLe_same ?_ | refine ObjLe_upd ?_ ?_ | refine ObjLe_new rfl ?_)) <;> rfl)))
  intro k hk
  have hmx : max (L.length : Int) (L'.length : Int) = ((max L.length L'.length : Nat) : Int) := by omega
  simp only [go_sem, init_env', Nat.reduceEqDiff, Nat.reduceAdd, Nat.reduceMul, reduceIte, Nat.reduceLeDiff, Nat.reduceLT, Nat.reduceBEq, reduceCtorEq]
  (repeat ((first | refine WV_seq_ ?_ | refine WV_block ?_ | refine WV_ops ?_ | refine WV_skip ?_ | refine WV_exit ?_); (try simp only [go_sem, init_env', Nat.reduceEqDiff, Nat.reduceAdd, Nat.reduceMul, reduceIte, Nat.reduceLeDiff, Nat.reduceLT, Nat.reduceBEq, reduceCtorEq, hP, List.length_map, hmx]); (repeat (refine And.intro (by first | omega | (intros; simp_all; done) | (intros; simp_all; omega)) ?_))))
  (refine WV_cond rfl (fun h => ?_) (fun h => ?_))
  · have hkl : k < max L.length L'.length := by simp at h; omega
    have hw2 := w64 (n := (k : Int) + 1) (by omega) (by omega)
    have hb := hbe k
    (repeat ((first | refine WV_seq_ ?_ | refine WV_block ?_ | refine WV_ops ?_ | refine WV_skip ?_ | refine WV_exit ?_); (try simp only [go_sem, init_env', Nat.reduceEqDiff, Nat.reduceAdd, Nat.reduceMul, reduceIte, Nat.reduceLeDiff, Nat.reduceLT, Nat.reduceBEq, reduceCtorEq, hP, ]); (repeat (refine And.intro (by first | omega | (intros; simp_all; done) | (intros; simp_all; omega)) ?_))))
    have hw3 : IntKind.i64.wrap (-1) = -1 := by decide
    by_cases hk1 : k < L.length <;> by_cases hk2 : k < L'.length
    · rw [getD_in hk1, getD_in hk2] at hb
      have e1 : decide ((k : Int) < (L.length : Int)) = true := by simp; omega
      have e2 : decide ((k : Int) < (L'.length : Int)) = true := by simp; omega
      have e3 := of_decide_eq_true e1
      have e4 := of_decide_eq_true e2
      have g1 : (L.map Pr.cds).getD k [] = [.int .i64 L[k].side, .int .i64 L[k].time] := map_getD hk1
      have g2 : (L'.map Pr.cds).getD k [] = [.int .i64 L'[k].side, .int .i64 L'[k].time] := map_getD hk2
      generalize L[k] = X at *
      generalize L'[k] = Y at *
      by_cases hc : X.time < p.time ∨ Y.time < p.time
      · have hxy := hb hc
        subst hxy
        have e5 : decide (X.time < p.time) = true := by simp; omega
        (refine WV_drw ?_; simp only [go_sem, init_env', Nat.reduceEqDiff, Nat.reduceAdd, Nat.reduceMul, reduceIte, Nat.reduceLeDiff, Nat.reduceLT, Nat.reduceBEq, reduceCtorEq, hP, Nat.zero_add]; (repeat' (refine And.intro ?_ ?_)))
        all_goals
          (repeat ((first | refine WV_seq_ ?_ | refine WV_block ?_ | refine WV_ops ?_ | refine WV_skip ?_ | refine WV_exit ?_); (try simp only [go_sem, init_env', Nat.reduceEqDiff, Nat.reduceAdd, Nat.reduceMul, reduceIte, Nat.reduceLeDiff, Nat.reduceLT, Nat.reduceBEq, reduceCtorEq, hP, List.length_map, e1]); (repeat (refine And.intro (by first | omega | (intros; simp_all; done) | (intros; simp_all; omega)) ?_))))
          (refine WV_cond rfl (fun h => ?_) (fun h => ?_))
          rotate_left
          · simp at h
          (repeat ((first | refine WV_seq_ ?_ | refine WV_block ?_ | refine WV_ops ?_ | refine WV_skip ?_ | refine WV_exit ?_); (try simp only [go_sem, init_env', Nat.reduceEqDiff, Nat.reduceAdd, Nat.reduceMul, reduceIte, Nat.reduceLeDiff, Nat.reduceLT, Nat.reduceBEq, reduceCtorEq, hP, List.length_map, e2, g1, e3, Int.natCast_nonneg]); (repeat (refine And.intro (by first | omega | (intros; simp_all; done) | (intros; simp_all; omega)) ?_))))
          (refine WV_cond rfl (fun h => ?_) (fun h => ?_))
          rotate_left
          · simp at h
          (repeat ((first | refine WV_seq_ ?_ | refine WV_block ?_ | refine WV_ops ?_ | refine WV_skip ?_ | refine WV_exit ?_); (try simp only [go_sem, init_env', Nat.reduceEqDiff, Nat.reduceAdd, Nat.reduceMul, reduceIte, Nat.reduceLeDiff, Nat.reduceLT, Nat.reduceBEq, reduceCtorEq, hP, g2, e4, List.length_map, Int.natCast_nonneg, e5, seqGo, beq_self_eq_true]); (repeat (refine And.intro (by first | omega | (intros; simp_all; done) | (intros; simp_all; omega)) ?_))))
          (refine WV_cond rfl (fun h => ?_) (fun h => ?_))
          · simp at h
          (repeat ((first | refine WV_seq_ ?_ | refine WV_block ?_ | refine WV_ops ?_ | refine WV_skip ?_ | refine WV_exit ?_); (try simp only [go_sem, init_env', Nat.reduceEqDiff, Nat.reduceAdd, Nat.reduceMul, reduceIte, Nat.reduceLeDiff, Nat.reduceLT, Nat.reduceBEq, reduceCtorEq, hP, hw2]); (repeat (refine And.intro (by first | omega | (intros; simp_all; done) | (intros; simp_all; omega)) ?_))))
          refine ⟨k + 1, by omega, by omega, ?_⟩
          (refine Sub_of (by simp only [go_sem, init_env', Nat.reduceEqDiff, Nat.reduceAdd, Nat.reduceMul, reduceIte, Nat.reduceLeDiff, Nat.reduceLT, Nat.reduceBEq, reduceCtorEq]; ((repeat' (first | exact EnvLe_e0 _ _ | refine EnvLe_upd ?_ ?_)) <;> ((try simp only [upd_app, e0_app, o0_app, Nat.reduceEqDiff, reduceIte]); first | exact AWk.refl _ _ | exact AWk.int (by omega) | exact AWk.int (by rw [w64 (by omega) (by omega)]; omega) | exact AWk.grow rfl | exact AWk.nil _ | exact AWk.of (by simp)))) (by simp only [go_sem, init_env', Nat.reduceEqDiff, Nat.reduceAdd, Nat.reduceMul, reduceIte, Nat.reduceLeDiff, Nat.reduceLT, Nat.reduceBEq, reduceCtorEq]; ((repeat' (first | exact ObjLe_o0 _ | exact ObjLe.rfl' _ | refine ObjLe_same ?_ | refine ObjLe_upd ?_ ?_ | refine ObjLe_new rfl ?_)) <;> rfl)))
      · have e5 : decide (X.time < p.time) = false := by simp; omega
        have e6 : decide (Y.time < p.time) = false := by simp; omega
        (refine WV_drw ?_; simp only [go_sem, init_env', Nat.reduceEqDiff, Nat.reduceAdd, Nat.reduceMul, reduceIte, Nat.reduceLeDiff, Nat.reduceLT, Nat.reduceBEq, reduceCtorEq, hP, Nat.zero_add]; (repeat' (refine And.intro ?_ ?_)))
        all_goals
          (repeat ((first | refine WV_seq_ ?_ | refine WV_block ?_ | refine WV_ops ?_ | refine WV_skip ?_ | refine WV_exit ?_); (try simp only [go_sem, init_env', Nat.reduceEqDiff, Nat.reduceAdd, Nat.reduceMul, reduceIte, Nat.reduceLeDiff, Nat.reduceLT, Nat.reduceBEq, reduceCtorEq, hP, List.length_map, e1]); (repeat (refine And.intro (by first | omega | (intros; simp_all; done) | (intros; simp_all; omega)) ?_))))
          (refine WV_cond rfl (fun h => ?_) (fun h => ?_))
          rotate_left
          · simp at h
          (repeat ((first | refine WV_seq_ ?_ | refine WV_block ?_ | refine WV_ops ?_ | refine WV_skip ?_ | refine WV_exit ?_); (try simp only [go_sem, init_env', Nat.reduceEqDiff, Nat.reduceAdd, Nat.reduceMul, reduceIte, Nat.reduceLeDiff, Nat.reduceLT, Nat.reduceBEq, reduceCtorEq, hP, List.length_map, e2, g1, e3, Int.natCast_nonneg]); (repeat (refine And.intro (by first | omega | (intros; simp_all; done) | (intros; simp_all; omega)) ?_))))
          (refine WV_cond rfl (fun h => ?_) (fun h => ?_))
          rotate_left
          · simp at h
          (repeat ((first | refine WV_seq_ ?_ | refine WV_block ?_ | refine WV_ops ?_ | refine WV_skip ?_ | refine WV_exit ?_); (try simp only [go_sem, init_env', Nat.reduceEqDiff, Nat.reduceAdd, Nat.reduceMul, reduceIte, Nat.reduceLeDiff, Nat.reduceLT, Nat.reduceBEq, reduceCtorEq, hP, g2, e4, List.length_map, Int.natCast_nonneg, e5, e6, seqGo]); (repeat (refine And.intro (by first | omega | (intros; simp_all; done) | (intros; simp_all; omega)) ?_))))
          (refine WV_cond rfl (fun h => ?_) (fun h => ?_))
          · simp at h
          (repeat ((first | refine WV_seq_ ?_ | refine WV_block ?_ | refine WV_ops ?_ | refine WV_skip ?_ | refine WV_exit ?_); (try simp only [go_sem, init_env', Nat.reduceEqDiff, Nat.reduceAdd, Nat.reduceMul, reduceIte, Nat.reduceLeDiff, Nat.reduceLT, Nat.reduceBEq, reduceCtorEq, hP, hw2]); (repeat (refine And.intro (by first | omega | (intros; simp_all; done) | (intros; simp_all; omega)) ?_))))
          refine ⟨k + 1, by omega, by omega, ?_⟩
          (refine Sub_of (by simp only [go_sem, init_env', Nat.reduceEqDiff, Nat.reduceAdd, Nat.reduceMul, reduceIte, Nat.reduceLeDiff, Nat.reduceLT, Nat.reduceBEq, reduceCtorEq]; ((repeat' (first | exact EnvLe_e0 _ _ | refine EnvLe_upd ?_ ?_)) <;> ((try simp only [upd_app, e0_app, o0_app, Nat.reduceEqDiff, reduceIte]); first | exact AWk.refl _ _ | exact AWk.int (by omega) | exact AWk.int (by rw [w64 (by omega) (by omega)]; omega) | exact AWk.grow rfl | exact AWk.nil _ | exact AWk.of (by simp)))) (by simp only [go_sem, init_env', Nat.reduceEqDiff, Nat.reduceAdd, Nat.reduceMul, reduceIte, Nat.reduceLeDiff, Nat.reduceLT, Nat.reduceBEq, reduceCtorEq]; ((repeat' (first | exact ObjLe_o0 _ | exact ObjLe.rfl' _ | refine ObjLe_same ?_ | refine ObjLe_upd ?_ ?_ | refine ObjLe_new rfl ?_)) <;> rfl)))
    · rw [getD_in hk1, getD_out (by omega)] at hb
      have e1 : decide ((k : Int) < (L.length : Int)) = true := by simp; omega
      have e2 : decide ((k : Int) < (L'.length : Int)) = false := by simp; omega
      have e3 := of_decide_eq_true e1
      have g1 : (L.map Pr.cds).getD k [] = [.int .i64 L[k].side, .int .i64 L[k].time] := map_getD hk1
      generalize L[k] = X at *
      have e5 : decide (X.time < p.time) = false := by
        simp only [decide_eq_false_iff_not]
        intro hc
        have := hb (.inl hc)
        rw [this] at hc; simp at hc
      have e6 : decide (p.time < p.time) = false := by simp
      (refine WV_drw ?_; simp only [go_sem, init_env', Nat.reduceEqDiff, Nat.reduceAdd, Nat.reduceMul, reduceIte, Nat.reduceLeDiff, Nat.reduceLT, Nat.reduceBEq, reduceCtorEq, hP, Nat.zero_add]; (repeat' (refine And.intro ?_ ?_)))
      all_goals
        (repeat ((first | refine WV_seq_ ?_ | refine WV_block ?_ | refine WV_ops ?_ | refine WV_skip ?_ | refine WV_exit ?_); (try simp only [go_sem, init_env', Nat.reduceEqDiff, Nat.reduceAdd, Nat.reduceMul, reduceIte, Nat.reduceLeDiff, Nat.reduceLT, Nat.reduceBEq, reduceCtorEq, hP, List.length_map, e1]); (repeat (refine And.intro (by first | omega | (intros; simp_all; done) | (intros; simp_all; omega)) ?_))))
        (refine WV_cond rfl (fun h => ?_) (fun h => ?_))
        rotate_left
        · simp at h
        (repeat ((first | refine WV_seq_ ?_ | refine WV_block ?_ | refine WV_ops ?_ | refine WV_skip ?_ | refine WV_exit ?_); (try simp only [go_sem, init_env', Nat.reduceEqDiff, Nat.reduceAdd, Nat.reduceMul, reduceIte, Nat.reduceLeDiff, Nat.reduceLT, Nat.reduceBEq, reduceCtorEq, hP, List.length_map, e2, g1, e3, Int.natCast_nonneg]); (repeat (refine And.intro (by first | omega | (intros; simp_all; done) | (intros; simp_all; omega)) ?_))))
        (refine WV_cond rfl (fun h => ?_) (fun h => ?_))
        · simp at h
        (repeat ((first | refine WV_seq_ ?_ | refine WV_block ?_ | refine WV_ops ?_ | refine WV_skip ?_ | refine WV_exit ?_); (try simp only [go_sem, init_env', Nat.reduceEqDiff, Nat.reduceAdd, Nat.reduceMul, reduceIte, Nat.reduceLeDiff, Nat.reduceLT, Nat.reduceBEq, reduceCtorEq, hP, e5, e6, seqGo]); (repeat (refine And.intro (by first | omega | (intros; simp_all; done) | (intros; simp_all; omega)) ?_))))
        (refine WV_cond rfl (fun h => ?_) (fun h => ?_))
        · simp at h
        (repeat ((first | refine WV_seq_ ?_ | refine WV_block ?_ | refine WV_ops ?_ | refine WV_skip ?_ | refine WV_exit ?_); (try simp only [go_sem, init_env', Nat.reduceEqDiff, Nat.reduceAdd, Nat.reduceMul, reduceIte, Nat.reduceLeDiff, Nat.reduceLT, Nat.reduceBEq, reduceCtorEq, hP, hw2]); (repeat (refine And.intro (by first | omega | (intros; simp_all; done) | (intros; simp_all; omega)) ?_))))
        refine ⟨k + 1, by omega, by omega, ?_⟩
        (refine Sub_of (by simp only [go_sem, init_env', Nat.reduceEqDiff, Nat.reduceAdd, Nat.reduceMul, reduceIte, Nat.reduceLeDiff, Nat.reduceLT, Nat.reduceBEq, reduceCtorEq]; ((repeat' (first | exact EnvLe_e0 _ _ | refine EnvLe_upd ?_ ?_)) <;> ((try simp only [upd_app, e0_app, o0_app, Nat.reduceEqDiff, reduceIte]); first | exact AWk.refl _ _ | exact AWk.int (by omega) | exact AWk.int (by rw [w64 (by omega) (by omega)]; omega) | exact AWk.grow rfl | exact AWk.nil _ | exact AWk.of (by simp)))) (by simp only [go_sem, init_env', Nat.reduceEqDiff, Nat.reduceAdd, Nat.reduceMul, reduceIte, Nat.reduceLeDiff, Nat.reduceLT, Nat.reduceBEq, reduceCtorEq]; ((repeat' (first | exact ObjLe_o0 _ | exact ObjLe.rfl' _ | refine ObjLe_same ?_ | refine ObjLe_upd ?_ ?_ | refine ObjLe_new rfl ?_)) <;> rfl)))
    · rw [getD_out (l := L) (by omega), getD_in hk2] at hb
      have e1 : decide ((k : Int) < (L.length : Int)) = false := by simp; omega
      have e2 : decide ((k : Int) < (L'.length : Int)) = true := by simp; omega
      have e3 := of_decide_eq_true e2
      have g1 : (L'.map Pr.cds).getD k [] = [.int .i64 L'[k].side, .int .i64 L'[k].time] := map_getD hk2
      generalize L'[k] = X at *
      have e5 : decide (X.time < p.time) = false := by
        simp only [decide_eq_false_iff_not]
        intro hc
        have := hb (.inr hc)
        rw [← this] at hc; simp at hc
      have e6 : decide (p.time < p.time) = false := by simp
      (refine WV_drw ?_; simp only [go_sem, init_env', Nat.reduceEqDiff, Nat.reduceAdd, Nat.reduceMul, reduceIte, Nat.reduceLeDiff, Nat.reduceLT, Nat.reduceBEq, reduceCtorEq, hP, Nat.zero_add]; (repeat' (refine And.intro ?_ ?_)))
      all_goals
        (repeat ((first | refine WV_seq_ ?_ | refine WV_block ?_ | refine WV_ops ?_ | refine WV_skip ?_ | refine WV_exit ?_); (try simp only [go_sem, init_env', Nat.reduceEqDiff, Nat.reduceAdd, Nat.reduceMul, reduceIte, Nat.reduceLeDiff, Nat.reduceLT, Nat.reduceBEq, reduceCtorEq, hP, List.length_map, e1]); (repeat (refine And.intro (by first | omega | (intros; simp_all; done) | (intros; simp_all; omega)) ?_))))
        (refine WV_cond rfl (fun h => ?_) (fun h => ?_))
        · simp at h
        (repeat ((first | refine WV_seq_ ?_ | refine WV_block ?_ | refine WV_ops ?_ | refine WV_skip ?_ | refine WV_exit ?_); (try simp only [go_sem, init_env', Nat.reduceEqDiff, Nat.reduceAdd, Nat.reduceMul, reduceIte, Nat.reduceLeDiff, Nat.reduceLT, Nat.reduceBEq, reduceCtorEq, hP, List.length_map, e2]); (repeat (refine And.intro (by first | omega | (intros; simp_all; done) | (intros; simp_all; omega)) ?_))))
        (refine WV_cond rfl (fun h => ?_) (fun h => ?_))
        rotate_left
        · simp at h
        (repeat ((first | refine WV_seq_ ?_ | refine WV_block ?_ | refine WV_ops ?_ | refine WV_skip ?_ | refine WV_exit ?_); (try simp only [go_sem, init_env', Nat.reduceEqDiff, Nat.reduceAdd, Nat.reduceMul, reduceIte, Nat.reduceLeDiff, Nat.reduceLT, Nat.reduceBEq, reduceCtorEq, hP, g1, e3, List.length_map, Int.natCast_nonneg, e5, e6, seqGo]); (repeat (refine And.intro (by first | omega | (intros; simp_all; done) | (intros; simp_all; omega)) ?_))))
        (refine WV_cond rfl (fun h => ?_) (fun h => ?_))
        · simp at h
        (repeat ((first | refine WV_seq_ ?_ | refine WV_block ?_ | refine WV_ops ?_ | refine WV_skip ?_ | refine WV_exit ?_); (try simp only [go_sem, init_env', Nat.reduceEqDiff, Nat.reduceAdd, Nat.reduceMul, reduceIte, Nat.reduceLeDiff, Nat.reduceLT, Nat.reduceBEq, reduceCtorEq, hP, hw2]); (repeat (refine And.intro (by first | omega | (intros; simp_all; done) | (intros; simp_all; omega)) ?_))))
        refine ⟨k + 1, by omega, by omega, ?_⟩
        (refine Sub_of (by simp only [go_sem, init_env', Nat.reduceEqDiff, Nat.reduceAdd, Nat.reduceMul, reduceIte, Nat.reduceLeDiff, Nat.reduceLT, Nat.reduceBEq, reduceCtorEq]; ((repeat' (first | exact EnvLe_e0 _ _ | refine EnvLe_upd ?_ ?_)) <;> ((try simp only [upd_app, e0_app, o0_app, Nat.reduceEqDiff, reduceIte]); first | exact AWk.refl _ _ | exact AWk.int (by omega) | exact AWk.int (by rw [w64 (by omega) (by omega)]; omega) | exact AWk.grow rfl | exact AWk.nil _ | exact AWk.of (by simp)))) (by simp only [go_sem, init_env', Nat.reduceEqDiff, Nat.reduceAdd, Nat.reduceMul, reduceIte, Nat.reduceLeDiff, Nat.reduceLT, Nat.reduceBEq, reduceCtorEq]; ((repeat' (first | exact ObjLe_o0 _ | exact ObjLe.rfl' _ | refine ObjLe_same ?_ | refine ObjLe_upd ?_ ?_ | refine ObjLe_new rfl ?_)) <;> rfl)))
    · omega
  · (refine WV_exit ?_; simp only [go_sem, init_env', Nat.reduceEqDiff, Nat.reduceAdd, Nat.reduceMul, reduceIte, Nat.reduceLeDiff, Nat.reduceLT, Nat.reduceBEq, reduceCtorEq])
    (repeat ((first | refine WV_seq_ ?_ | refine WV_block ?_ | refine WV_ops ?_ | refine WV_skip ?_ | refine WV_exit ?_); (try simp only [go_sem, init_env', Nat.reduceEqDiff, Nat.reduceAdd, Nat.reduceMul, reduceIte, Nat.reduceLeDiff, Nat.reduceLT, Nat.reduceBEq, reduceCtorEq, hP, ]); (repeat (refine And.intro (by first | omega | (intros; simp_all; done) | (intros; simp_all; omega)) ?_))))
    (refine AS_pure (works19) rfl rfl rfl rfl rfl ?_; simp only [go_sem, init_env', Nat.reduceEqDiff, Nat.reduceAdd, Nat.reduceMul, reduceIte, Nat.reduceLeDiff, Nat.reduceLT, Nat.reduceBEq, reduceCtorEq, hP, ]; (repeat (refine And.intro (by first | omega | (intros; simp_all; done) | (intros; simp_all; omega)) ?_)); (repeat ((first | refine WV_seq_ ?_ | refine WV_block ?_ | refine WV_ops ?_ | refine WV_skip ?_ | refine WV_exit ?_); (try simp only [go_sem, init_env', Nat.reduceEqDiff, Nat.reduceAdd, Nat.reduceMul, reduceIte, Nat.reduceLeDiff, Nat.reduceLT, Nat.reduceBEq, reduceCtorEq, hP, ]); (repeat (refine And.intro (by first | omega | (intros; simp_all; done) | (intros; simp_all; omega)) ?_)))))
    (refine WV_ret ?_; simp only [thenQ, inQ, RetQ, RetOk, resAll, resA]; simp only [go_sem, init_env', Nat.reduceEqDiff, Nat.reduceAdd, Nat.reduceMul, reduceIte, Nat.reduceLeDiff, Nat.reduceLT, Nat.reduceBEq, reduceCtorEq, tupA, AV.port, AV.portL, exists_eq_left', ]; (first | exact AVle.of rfl | refine AVle.of ?_ | skip))
end Go.Proofs.Ytkpgpgaojjobgaa
