/-
  Contracts of the layer's functions, of the laws' helpers and of the law; conditions: as each theorem states.
-/
import Derived.Test.YtnmchaemhjnkgaaU4
set_option linter.unusedVariables false
set_option linter.unusedSimpArgs false
namespace Go.Proofs.Ytnmchaemhjnkgaa
open Go Go.V

/-- The first k ones are other ones. -/
def mapK {α : Type} (g : α → α) (l : List α) (k : Nat) : List α := (l.take k).map g ++ l.drop k
theorem mapK_len {α : Type} (g : α → α) (l : List α) (k : Nat) : (mapK g l k).length = l.length := by simp [mapK]; omega
theorem mapK_zero {α : Type} (g : α → α) (l : List α) : mapK g l 0 = l := by simp [mapK]
theorem mapK_all {α : Type} (g : α → α) (l : List α) : mapK g l l.length = l.map g := by simp [mapK]
theorem mapK_get {α : Type} {g : α → α} {l : List α} {k : Nat} (h : k < l.length) (h' : k < (mapK g l k).length) : (mapK g l k)[k] = l[k] := by
  have hl : ((l.take k).map g).length = k := by simp; omega
  have h2 : (mapK g l k)[k]? = some l[k] := by
    unfold mapK
    rw [List.getElem?_append_right (by rw [hl]; exact Nat.le_refl _), hl, Nat.sub_self, List.getElem?_drop, Nat.add_zero, List.getElem?_eq_getElem h]
  exact (List.getElem?_eq_some_iff.1 h2).2
theorem mapK_set {α : Type} {g : α → α} {l : List α} {k : Nat} (h : k < l.length) : (mapK g l k).set k (g l[k]) = mapK g l (k + 1) := by
  have hl : ((l.take k).map g).length = k := by simp; omega
  unfold mapK
  rw [List.set_append_right _ _ (by rw [hl]; exact Nat.le_refl _), hl, Nat.sub_self, List.drop_eq_getElem_cons h, List.set_cons_zero, List.take_succ_eq_append_getElem h, List.map_append]
  simp
/-- Sides in a box, as data. -/
theorem sides_grp (l : List Side) : grp 2 l.length ((flatG Side.cds l).take (l.length * 2)) = l.map Side.cds := grp_cellsG side_two l
theorem sides_fit (l : List Side) : (l.length * 2 ≤ (flatG Side.cds l).length) = True := by rw [flatG_len side_two]; simp
attribute [go_sem] back_cellsG

@[reducible] def o11_0 : List Ins := [⟨(some 2), .box 3 (.t 0), none, true⟩,
  ⟨(some 4), .mv (.k (.c (.bool false))), none, true⟩]
@[reducible] def o11_1 : List Ins := [⟨(some 24), .ld false 3 (.t 2), none, true⟩,
  ⟨(some 25), .call (.k (.fn 13 [])) [(.t 24)], none, true⟩,
  ⟨(some 26), .un .not (.t 25), none, true⟩,
  ⟨(some 27), .mv (.t 26), none, true⟩,
  ⟨(some 28), .mv (.t 1), (some (27, false)), true⟩,
  ⟨(some 29), .bin .lss (.t 28) (.k (.c (.int .i64 1))), (some (27, false)), true⟩,
  ⟨(some 30), .pick (.t 27) (.k (.c (.bool true))) (.t 29), none, true⟩,
  ⟨(some 31), .mv (.t 30), none, true⟩,
  ⟨(some 32), .mv (.t 1), (some (31, false)), true⟩,
  ⟨(some 33), .bin .gtr (.t 32) (.k (.c (.int .i64 1000))), (some (31, false)), true⟩,
  ⟨(some 34), .pick (.t 31) (.k (.c (.bool true))) (.t 33), none, true⟩]
@[reducible] def o11_2 : List Ins := [⟨(some 35), .call (.k (.fn 14 [])) [], none, true⟩,
  ⟨(some 4), .mv (.t 35), none, true⟩]
@[reducible] def v11_3 : VC := (.seq (.ops o11_2) .ret)
@[reducible] def v11_4 : VC := (.cond (.t 34) v11_3 .skip)
@[reducible] def o11_5 : List Ins := [⟨(some 36), .ld false 3 (.t 2), none, true⟩,
  ⟨(some 37), .call (.k (.fn 24 [])) [(.t 36)], none, true⟩,
  ⟨(some 5), .alloc [(.c (.int .i64 0)), (.c (.raw (.slice none 0 0))), (.c (.raw (.slice none 0 0)))], none, true⟩,
  ⟨none, .st 3 (.t 5) (.t 37), none, true⟩]
@[reducible] def o11_6 : List Ins := [⟨(some 6), .mv (.k (.c (.int .i64 0))), none, true⟩]
@[reducible] def o11_7 : List Ins := [⟨(some 38), .mv (.t 6), none, true⟩,
  ⟨(some 39), .fa 1 (.t 5), none, true⟩,
  ⟨(some 40), .ld true 1 (.t 39), none, true⟩,
  ⟨(some 41), .len (.t 40), none, true⟩,
  ⟨(some 42), .bin .lss (.t 38) (.t 41), none, true⟩]
@[reducible] def v11_8 : VC := (.cond (.t 42) .skip (.exit 0))
@[reducible] def o11_9 : List Ins := [⟨(some 45), .fa 1 (.t 5), none, true⟩,
  ⟨(some 46), .ld true 1 (.t 45), none, true⟩,
  ⟨(some 47), .mv (.t 6), none, true⟩,
  ⟨(some 48), .ia 2 (.t 46) (.t 47), none, true⟩,
  ⟨(some 49), .fa 0 (.t 48), none, true⟩,
  ⟨(some 50), .ld true 1 (.t 49), none, true⟩,
  ⟨(some 51), .mv (.t 1), none, true⟩,
  ⟨(some 52), .bin .mul (.t 50) (.t 51), none, true⟩,
  ⟨(some 53), .ia 2 (.t 46) (.t 47), none, true⟩,
  ⟨(some 54), .fa 0 (.t 53), none, true⟩,
  ⟨none, .st 1 (.t 54) (.t 52), none, true⟩]
@[reducible] def o11_10 : List Ins := [⟨(some 43), .mv (.t 6), none, true⟩,
  ⟨(some 44), .bin .add (.t 43) (.k (.c (.int .i64 1))), none, true⟩,
  ⟨(some 6), .mv (.t 44), none, true⟩]
@[reducible] def v11_11 : VC := (.seq (.block 1 (.ops o11_9)) (.ops o11_10))
@[reducible] def v11_12 : VC := (.seq (.seq (.ops o11_7) v11_8) v11_11)
-- K11_1: changed and kept: [6]
@[reducible] def K11_1 : List Nat := [1, 2, 5]
@[reducible] def v11_13 : VC := (.loop v11_12)
@[reducible] def v11_14 : VC := (.block 0 v11_13)
@[reducible] def o11_15 : List Ins := [⟨(some 55), .ld false 3 (.t 5), none, true⟩,
  ⟨(some 56), .call (.k (.fn 13 [])) [(.t 55)], none, true⟩,
  ⟨(some 57), .un .not (.t 56), none, true⟩]
@[reducible] def o11_16 : List Ins := [⟨(some 58), .call (.k (.fn 14 [])) [], none, true⟩,
  ⟨(some 4), .mv (.t 58), none, true⟩]
@[reducible] def v11_17 : VC := (.seq (.ops o11_16) .ret)
@[reducible] def v11_18 : VC := (.cond (.t 57) v11_17 .skip)
@[reducible] def o11_19 : List Ins := [⟨(some 60), .ld false 3 (.t 2), none, true⟩,
  ⟨(some 61), .call (.k (.fn 15 [])) [(.t 60)], none, true⟩,
  ⟨(some 59), .mv (.t 61), none, true⟩,
  ⟨(some 62), .ext (.t 59) 0, none, true⟩,
  ⟨(some 63), .ext (.t 59) 1, none, true⟩,
  ⟨(some 7), .mv (.t 62), none, true⟩,
  ⟨(some 8), .mv (.t 63), none, true⟩]
@[reducible] def o11_20 : List Ins := [⟨(some 65), .ld false 3 (.t 5), none, true⟩,
  ⟨(some 66), .call (.k (.fn 15 [])) [(.t 65)], none, true⟩,
  ⟨(some 64), .mv (.t 66), none, true⟩,
  ⟨(some 67), .ext (.t 64) 0, none, true⟩,
  ⟨(some 68), .ext (.t 64) 1, none, true⟩,
  ⟨(some 9), .mv (.t 67), none, true⟩,
  ⟨(some 10), .mv (.t 68), none, true⟩]
@[reducible] def o11_21 : List Ins := [⟨(some 70), .ld false 3 (.t 2), none, true⟩,
  ⟨(some 71), .call (.k (.fn 38 [])) [(.t 70)], none, true⟩,
  ⟨(some 69), .mv (.t 71), none, true⟩,
  ⟨(some 72), .ext (.t 69) 0, none, true⟩,
  ⟨(some 73), .ext (.t 69) 1, none, true⟩,
  ⟨(some 11), .mv (.t 72), none, true⟩,
  ⟨(some 12), .mv (.t 73), none, true⟩]
@[reducible] def o11_22 : List Ins := [⟨(some 75), .ld false 3 (.t 5), none, true⟩,
  ⟨(some 76), .call (.k (.fn 38 [])) [(.t 75)], none, true⟩,
  ⟨(some 74), .mv (.t 76), none, true⟩,
  ⟨(some 77), .ext (.t 74) 0, none, true⟩,
  ⟨(some 78), .ext (.t 74) 1, none, true⟩,
  ⟨(some 13), .mv (.t 77), none, true⟩,
  ⟨(some 14), .mv (.t 78), none, true⟩]
@[reducible] def o11_23 : List Ins := [⟨(some 79), .mv (.t 7), none, true⟩,
  ⟨(some 80), .mv (.t 9), none, true⟩,
  ⟨(some 81), .call (.k (.fn 34 [])) [(.t 79), (.t 80)], none, true⟩,
  ⟨(some 82), .un .not (.t 81), none, true⟩,
  ⟨(some 83), .mv (.t 82), none, true⟩,
  ⟨(some 84), .mv (.t 8), (some (83, false)), true⟩,
  ⟨(some 85), .mv (.t 10), (some (83, false)), true⟩,
  ⟨(some 86), .bin .neq (.t 84) (.t 85), (some (83, false)), true⟩,
  ⟨(some 87), .pick (.t 83) (.k (.c (.bool true))) (.t 86), none, true⟩,
  ⟨(some 88), .mv (.t 87), none, true⟩,
  ⟨(some 89), .mv (.t 11), (some (88, false)), true⟩,
  ⟨(some 90), .mv (.t 13), (some (88, false)), true⟩,
  ⟨(some 91), .call (.k (.fn 34 [])) [(.t 89), (.t 90)], (some (88, false)), true⟩,
  ⟨(some 92), .un .not (.t 91), (some (88, false)), true⟩,
  ⟨(some 93), .pick (.t 88) (.k (.c (.bool true))) (.t 92), none, true⟩,
  ⟨(some 94), .mv (.t 93), none, true⟩,
  ⟨(some 95), .mv (.t 12), (some (94, false)), true⟩,
  ⟨(some 96), .mv (.t 14), (some (94, false)), true⟩,
  ⟨(some 97), .bin .neq (.t 95) (.t 96), (some (94, false)), true⟩,
  ⟨(some 98), .pick (.t 94) (.k (.c (.bool true))) (.t 97), none, true⟩]
@[reducible] def o11_24 : List Ins := [⟨(some 4), .mv (.k (.c (.bool false))), none, true⟩]
@[reducible] def v11_25 : VC := (.seq (.ops o11_24) .ret)
@[reducible] def v11_26 : VC := (.cond (.t 98) v11_25 .skip)
@[reducible] def o11_27 : List Ins := [⟨(some 100), .ld false 3 (.t 2), none, true⟩,
  ⟨(some 101), .call (.k (.fn 39 [])) [(.t 100)], none, true⟩,
  ⟨(some 99), .mv (.t 101), none, true⟩,
  ⟨(some 102), .ext (.t 99) 0, none, true⟩,
  ⟨(some 103), .ext (.t 99) 1, none, true⟩,
  ⟨(some 7), .mv (.t 102), none, true⟩,
  ⟨(some 8), .mv (.t 103), none, true⟩]
@[reducible] def o11_28 : List Ins := [⟨(some 105), .ld false 3 (.t 5), none, true⟩,
  ⟨(some 106), .call (.k (.fn 39 [])) [(.t 105)], none, true⟩,
  ⟨(some 104), .mv (.t 106), none, true⟩,
  ⟨(some 107), .ext (.t 104) 0, none, true⟩,
  ⟨(some 108), .ext (.t 104) 1, none, true⟩,
  ⟨(some 9), .mv (.t 107), none, true⟩,
  ⟨(some 10), .mv (.t 108), none, true⟩]
@[reducible] def o11_29 : List Ins := [⟨(some 110), .ld false 3 (.t 2), none, true⟩,
  ⟨(some 111), .call (.k (.fn 40 [])) [(.t 110)], none, true⟩,
  ⟨(some 109), .mv (.t 111), none, true⟩,
  ⟨(some 112), .ext (.t 109) 0, none, true⟩,
  ⟨(some 113), .ext (.t 109) 1, none, true⟩,
  ⟨(some 15), .mv (.t 112), none, true⟩,
  ⟨(some 12), .mv (.t 113), none, true⟩]
@[reducible] def o11_30 : List Ins := [⟨(some 115), .ld false 3 (.t 5), none, true⟩,
  ⟨(some 116), .call (.k (.fn 40 [])) [(.t 115)], none, true⟩,
  ⟨(some 114), .mv (.t 116), none, true⟩,
  ⟨(some 117), .ext (.t 114) 0, none, true⟩,
  ⟨(some 118), .ext (.t 114) 1, none, true⟩,
  ⟨(some 16), .mv (.t 117), none, true⟩,
  ⟨(some 14), .mv (.t 118), none, true⟩]
@[reducible] def o11_31 : List Ins := [⟨(some 119), .mv (.t 7), none, true⟩,
  ⟨(some 120), .mv (.t 9), none, true⟩,
  ⟨(some 121), .call (.k (.fn 34 [])) [(.t 119), (.t 120)], none, true⟩,
  ⟨(some 122), .un .not (.t 121), none, true⟩,
  ⟨(some 123), .mv (.t 122), none, true⟩,
  ⟨(some 124), .mv (.t 8), (some (123, false)), true⟩,
  ⟨(some 125), .mv (.t 10), (some (123, false)), true⟩,
  ⟨(some 126), .bin .neq (.t 124) (.t 125), (some (123, false)), true⟩,
  ⟨(some 127), .pick (.t 123) (.k (.c (.bool true))) (.t 126), none, true⟩,
  ⟨(some 128), .mv (.t 127), none, true⟩,
  ⟨(some 129), .mv (.t 15), (some (128, false)), true⟩,
  ⟨(some 130), .mv (.t 16), (some (128, false)), true⟩,
  ⟨(some 131), .bin .neq (.t 129) (.t 130), (some (128, false)), true⟩,
  ⟨(some 132), .pick (.t 128) (.k (.c (.bool true))) (.t 131), none, true⟩,
  ⟨(some 133), .mv (.t 132), none, true⟩,
  ⟨(some 134), .mv (.t 12), (some (133, false)), true⟩,
  ⟨(some 135), .mv (.t 14), (some (133, false)), true⟩,
  ⟨(some 136), .bin .neq (.t 134) (.t 135), (some (133, false)), true⟩,
  ⟨(some 137), .pick (.t 133) (.k (.c (.bool true))) (.t 136), none, true⟩]
@[reducible] def o11_32 : List Ins := [⟨(some 4), .mv (.k (.c (.bool false))), none, true⟩]
@[reducible] def v11_33 : VC := (.seq (.ops o11_32) .ret)
@[reducible] def v11_34 : VC := (.cond (.t 137) v11_33 .skip)
@[reducible] def o11_35 : List Ins := [⟨(some 17), .mv (.k (.c (.int .i64 0))), none, true⟩]
@[reducible] def o11_36 : List Ins := [⟨(some 138), .mv (.t 17), none, true⟩,
  ⟨(some 139), .fa 2 (.t 2), none, true⟩,
  ⟨(some 140), .ld true 1 (.t 139), none, true⟩,
  ⟨(some 141), .len (.t 140), none, true⟩,
  ⟨(some 142), .bin .lss (.t 138) (.t 141), none, true⟩]
@[reducible] def v11_37 : VC := (.cond (.t 142) .skip (.exit 2))
@[reducible] def o11_38 : List Ins := [⟨(some 146), .ld false 3 (.t 2), none, true⟩,
  ⟨(some 147), .mv (.t 17), none, true⟩,
  ⟨(some 148), .call (.k (.fn 22 [])) [(.t 146), (.t 147)], none, true⟩,
  ⟨(some 145), .mv (.t 148), none, true⟩,
  ⟨(some 149), .ext (.t 145) 0, none, true⟩,
  ⟨(some 150), .ext (.t 145) 1, none, true⟩,
  ⟨(some 151), .ext (.t 145) 2, none, true⟩,
  ⟨(some 18), .mv (.t 149), none, true⟩,
  ⟨(some 19), .mv (.t 150), none, true⟩,
  ⟨(some 20), .mv (.t 151), none, true⟩]
@[reducible] def o11_39 : List Ins := [⟨(some 153), .ld false 3 (.t 5), none, true⟩,
  ⟨(some 154), .mv (.t 17), none, true⟩,
  ⟨(some 155), .call (.k (.fn 22 [])) [(.t 153), (.t 154)], none, true⟩,
  ⟨(some 152), .mv (.t 155), none, true⟩,
  ⟨(some 156), .ext (.t 152) 0, none, true⟩,
  ⟨(some 157), .ext (.t 152) 1, none, true⟩,
  ⟨(some 158), .ext (.t 152) 2, none, true⟩,
  ⟨(some 21), .mv (.t 156), none, true⟩,
  ⟨(some 22), .mv (.t 157), none, true⟩,
  ⟨(some 23), .mv (.t 158), none, true⟩]
@[reducible] def o11_40 : List Ins := [⟨(some 159), .mv (.t 18), none, true⟩,
  ⟨(some 160), .mv (.t 21), none, true⟩,
  ⟨(some 161), .bin .neq (.t 159) (.t 160), none, true⟩,
  ⟨(some 162), .mv (.t 161), none, true⟩,
  ⟨(some 163), .mv (.t 19), (some (162, false)), true⟩,
  ⟨(some 164), .mv (.t 22), (some (162, false)), true⟩,
  ⟨(some 165), .bin .neq (.t 163) (.t 164), (some (162, false)), true⟩,
  ⟨(some 166), .pick (.t 162) (.k (.c (.bool true))) (.t 165), none, true⟩,
  ⟨(some 167), .mv (.t 166), none, true⟩,
  ⟨(some 168), .mv (.t 20), (some (167, false)), true⟩,
  ⟨(some 169), .mv (.t 23), (some (167, false)), true⟩,
  ⟨(some 170), .bin .neq (.t 168) (.t 169), (some (167, false)), true⟩,
  ⟨(some 171), .pick (.t 167) (.k (.c (.bool true))) (.t 170), none, true⟩]
@[reducible] def o11_41 : List Ins := [⟨(some 4), .mv (.k (.c (.bool false))), none, true⟩]
@[reducible] def v11_42 : VC := (.seq (.ops o11_41) .ret)
@[reducible] def v11_43 : VC := (.cond (.t 171) v11_42 .skip)
@[reducible] def v11_44 : VC := (.seq (.ops o11_40) v11_43)
@[reducible] def v11_45 : VC := (.seq (.ops o11_39) v11_44)
@[reducible] def v11_46 : VC := (.seq (.ops o11_38) v11_45)
@[reducible] def o11_47 : List Ins := [⟨(some 143), .mv (.t 17), none, true⟩,
  ⟨(some 144), .bin .add (.t 143) (.k (.c (.int .i64 1))), none, true⟩,
  ⟨(some 17), .mv (.t 144), none, true⟩]
@[reducible] def v11_48 : VC := (.seq (.block 3 v11_46) (.ops o11_47))
@[reducible] def v11_49 : VC := (.seq (.seq (.ops o11_36) v11_37) v11_48)
-- K11_2: changed and kept: [17]
@[reducible] def K11_2 : List Nat := [2, 5]
@[reducible] def v11_50 : VC := (.loop v11_49)
@[reducible] def v11_51 : VC := (.block 2 v11_50)
@[reducible] def o11_52 : List Ins := [⟨(some 172), .call (.k (.fn 14 [])) [], none, true⟩,
  ⟨(some 4), .mv (.t 172), none, true⟩]
@[reducible] def v11_53 : VC := (.seq (.ops o11_52) .ret)
@[reducible] def v11_54 : VC := (.seq (.seq (.ops o11_35) v11_51) v11_53)
@[reducible] def v11_55 : VC := (.seq (.seq (.ops o11_31) v11_34) v11_54)
@[reducible] def v11_56 : VC := (.seq (.ops o11_30) v11_55)
@[reducible] def v11_57 : VC := (.seq (.ops o11_29) v11_56)
@[reducible] def v11_58 : VC := (.seq (.ops o11_28) v11_57)
@[reducible] def v11_59 : VC := (.seq (.ops o11_27) v11_58)
@[reducible] def v11_60 : VC := (.seq (.seq (.ops o11_23) v11_26) v11_59)
@[reducible] def v11_61 : VC := (.seq (.ops o11_22) v11_60)
@[reducible] def v11_62 : VC := (.seq (.ops o11_21) v11_61)
@[reducible] def v11_63 : VC := (.seq (.ops o11_20) v11_62)
@[reducible] def v11_64 : VC := (.seq (.ops o11_19) v11_63)
@[reducible] def v11_65 : VC := (.seq (.seq (.ops o11_15) v11_18) v11_64)
@[reducible] def v11_66 : VC := (.seq (.seq (.ops o11_6) v11_14) v11_65)
@[reducible] def v11_67 : VC := (.seq (.ops o11_5) v11_66)
@[reducible] def v11_68 : VC := (.seq (.seq (.ops o11_1) v11_4) v11_67)
def ir11 : FC := ⟨2, 173, [.t 4], (.seq (.ops o11_0) v11_68)⟩
theorem c11 : compM Try.prog [] 11 = some ir11 := by kernel_rfl



set_option maxRecDepth 20000 in
set_option maxHeartbeats 16000000 in
theorem tail11 {C : Ctx} (hP : C.P = Try.prog) (r : Royal) (m : Int) (hok : r.ok = true) (hm : 1 ≤ m ∧ m ≤ 1000) :
    WV C v11_65 (RetQ [.t 4] (.c (.bool true))) ⟨upd (upd (upd e0 1 (iv m)) 2 (.bp 2 0)) 5 (.bp 5 0), upd (upd o0 2 (.box [iv r.pool, .c (sidesC r.sides), .c (ints r.owed)])) 5 (.box [iv r.pool, .c (sidesC (timesR r m).sides), .c (ints r.owed)])⟩ := by
  have ho : (timesR r m).av = .agg [iv r.pool, .c (sidesC (timesR r m).sides), .c (ints r.owed)] := rfl
  have hready := ready13 (timesR r m)
  rw [ho] at hready
  (repeat ((first | refine WV_seq_ ?_ | refine WV_block ?_ | refine WV_ops ?_ | refine WV_skip ?_ | refine WV_exit ?_); (try simp only [go_sem, init_env', Nat.reduceEqDiff, Nat.reduceAdd, Nat.reduceMul, reduceIte, Nat.reduceLeDiff, Nat.reduceLT, Nat.reduceBEq, reduceCtorEq, hP, ]); (repeat (refine And.intro (by first | omega | (intros; simp_all; done) | (intros; simp_all; omega)) ?_))))
  (refine AS_pure (hready) rfl rfl rfl rfl rfl ?_; simp only [go_sem, init_env', Nat.reduceEqDiff, Nat.reduceAdd, Nat.reduceMul, reduceIte, Nat.reduceLeDiff, Nat.reduceLT, Nat.reduceBEq, reduceCtorEq, hP, Royal.av]; (repeat (refine And.intro (by first | omega | (intros; simp_all; done) | (intros; simp_all; omega)) ?_)); (repeat ((first | refine WV_seq_ ?_ | refine WV_block ?_ | refine WV_ops ?_ | refine WV_skip ?_ | refine WV_exit ?_); (try simp only [go_sem, init_env', Nat.reduceEqDiff, Nat.reduceAdd, Nat.reduceMul, reduceIte, Nat.reduceLeDiff, Nat.reduceLT, Nat.reduceBEq, reduceCtorEq, hP, Royal.av]); (repeat (refine And.intro (by first | omega | (intros; simp_all; done) | (intros; simp_all; omega)) ?_)))))
  cases hok' : (timesR r m).ok
  · (refine WV_cond rfl (fun h => ?_) (fun h => ?_))
    · (repeat ((first | refine WV_seq_ ?_ | refine WV_block ?_ | refine WV_ops ?_ | refine WV_skip ?_ | refine WV_exit ?_); (try simp only [go_sem, init_env', Nat.reduceEqDiff, Nat.reduceAdd, Nat.reduceMul, reduceIte, Nat.reduceLeDiff, Nat.reduceLT, Nat.reduceBEq, reduceCtorEq, hP, ]); (repeat (refine And.intro (by first | omega | (intros; simp_all; done) | (intros; simp_all; omega)) ?_))))
      (refine AS_pure (works14) rfl rfl rfl rfl rfl ?_; simp only [go_sem, init_env', Nat.reduceEqDiff, Nat.reduceAdd, Nat.reduceMul, reduceIte, Nat.reduceLeDiff, Nat.reduceLT, Nat.reduceBEq, reduceCtorEq, hP, ]; (repeat (refine And.intro (by first | omega | (intros; simp_all; done) | (intros; simp_all; omega)) ?_)); (repeat ((first | refine WV_seq_ ?_ | refine WV_block ?_ | refine WV_ops ?_ | refine WV_skip ?_ | refine WV_exit ?_); (try simp only [go_sem, init_env', Nat.reduceEqDiff, Nat.reduceAdd, Nat.reduceMul, reduceIte, Nat.reduceLeDiff, Nat.reduceLT, Nat.reduceBEq, reduceCtorEq, hP, ]); (repeat (refine And.intro (by first | omega | (intros; simp_all; done) | (intros; simp_all; omega)) ?_)))))
      (refine WV_ret ?_; simp only [thenQ, inQ, RetQ, RetOk, resAll, resA]; simp only [go_sem, init_env', Nat.reduceEqDiff, Nat.reduceAdd, Nat.reduceMul, reduceIte, Nat.reduceLeDiff, Nat.reduceLT, Nat.reduceBEq, reduceCtorEq, tupA, AV.port, AV.portL, exists_eq_left', ]; (first | exact AVle.of rfl | refine AVle.of ?_ | skip))
    · simp at h
  (refine WV_cond rfl (fun h => ?_) (fun h => ?_))
  · simp at h
  clear h
  have hmp : 0 < m := by omega
  have hr := Royal.ok_spec hok
  have hn6 := hr.n6
  have hnl : r.owed.length = r.n := rfl
  have c1 := shares15 r
  have c2 := shares15 (timesR r m)
  rw [shares_times hmp hok hok', ho] at c2
  have c3 := paid38 r
  have c4 := paid38 (timesR r m)
  rw [settled_times hmp hok hok', ho] at c4
  have c5 := left39 r
  have c6 := left39 (timesR r m)
  rw [settled_times hmp hok hok', ho] at c6
  have c7 := lost40 r
  have c8 := lost40 (timesR r m)
  rw [lost_times hmp hok hok', ho] at c8
  have c9 := fun who => exact22 r who
  have c10 := fun who => exact22 (timesR r m) who
  simp only [exact_times hmp hok hok'] at c10
  rw [ho] at c10
  clear hready hok'
  generalize (timesR r m).sides = S2 at *
  (repeat ((first | refine WV_seq_ ?_ | refine WV_block ?_ | refine WV_ops ?_ | refine WV_skip ?_ | refine WV_exit ?_); (try simp only [go_sem, init_env', Nat.reduceEqDiff, Nat.reduceAdd, Nat.reduceMul, reduceIte, Nat.reduceLeDiff, Nat.reduceLT, Nat.reduceBEq, reduceCtorEq, hP, ]); (repeat (refine And.intro (by first | omega | (intros; simp_all; done) | (intros; simp_all; omega)) ?_))))
  (refine AS_pure (c1) rfl rfl rfl rfl rfl ?_; simp only [go_sem, init_env', Nat.reduceEqDiff, Nat.reduceAdd, Nat.reduceMul, reduceIte, Nat.reduceLeDiff, Nat.reduceLT, Nat.reduceBEq, reduceCtorEq, hP, Royal.av]; (repeat (refine And.intro (by first | omega | (intros; simp_all; done) | (intros; simp_all; omega)) ?_)); (repeat ((first | refine WV_seq_ ?_ | refine WV_block ?_ | refine WV_ops ?_ | refine WV_skip ?_ | refine WV_exit ?_); (try simp only [go_sem, init_env', Nat.reduceEqDiff, Nat.reduceAdd, Nat.reduceMul, reduceIte, Nat.reduceLeDiff, Nat.reduceLT, Nat.reduceBEq, reduceCtorEq, hP, Royal.av]); (repeat (refine And.intro (by first | omega | (intros; simp_all; done) | (intros; simp_all; omega)) ?_)))))
  (refine AS_pure (c2) rfl rfl rfl rfl rfl ?_; simp only [go_sem, init_env', Nat.reduceEqDiff, Nat.reduceAdd, Nat.reduceMul, reduceIte, Nat.reduceLeDiff, Nat.reduceLT, Nat.reduceBEq, reduceCtorEq, hP, Royal.av]; (repeat (refine And.intro (by first | omega | (intros; simp_all; done) | (intros; simp_all; omega)) ?_)); (repeat ((first | refine WV_seq_ ?_ | refine WV_block ?_ | refine WV_ops ?_ | refine WV_skip ?_ | refine WV_exit ?_); (try simp only [go_sem, init_env', Nat.reduceEqDiff, Nat.reduceAdd, Nat.reduceMul, reduceIte, Nat.reduceLeDiff, Nat.reduceLT, Nat.reduceBEq, reduceCtorEq, hP, Royal.av]); (repeat (refine And.intro (by first | omega | (intros; simp_all; done) | (intros; simp_all; omega)) ?_)))))
  (refine AS_pure (c3) rfl rfl rfl rfl rfl ?_; simp only [go_sem, init_env', Nat.reduceEqDiff, Nat.reduceAdd, Nat.reduceMul, reduceIte, Nat.reduceLeDiff, Nat.reduceLT, Nat.reduceBEq, reduceCtorEq, hP, Royal.av]; (repeat (refine And.intro (by first | omega | (intros; simp_all; done) | (intros; simp_all; omega)) ?_)); (repeat ((first | refine WV_seq_ ?_ | refine WV_block ?_ | refine WV_ops ?_ | refine WV_skip ?_ | refine WV_exit ?_); (try simp only [go_sem, init_env', Nat.reduceEqDiff, Nat.reduceAdd, Nat.reduceMul, reduceIte, Nat.reduceLeDiff, Nat.reduceLT, Nat.reduceBEq, reduceCtorEq, hP, Royal.av]); (repeat (refine And.intro (by first | omega | (intros; simp_all; done) | (intros; simp_all; omega)) ?_)))))
  (refine AS_pure (c4) rfl rfl rfl rfl rfl ?_; simp only [go_sem, init_env', Nat.reduceEqDiff, Nat.reduceAdd, Nat.reduceMul, reduceIte, Nat.reduceLeDiff, Nat.reduceLT, Nat.reduceBEq, reduceCtorEq, hP, Royal.av, bne_self_eq_false]; (repeat (refine And.intro (by first | omega | (intros; simp_all; done) | (intros; simp_all; omega)) ?_)); (repeat ((first | refine WV_seq_ ?_ | refine WV_block ?_ | refine WV_ops ?_ | refine WV_skip ?_ | refine WV_exit ?_); (try simp only [go_sem, init_env', Nat.reduceEqDiff, Nat.reduceAdd, Nat.reduceMul, reduceIte, Nat.reduceLeDiff, Nat.reduceLT, Nat.reduceBEq, reduceCtorEq, hP, Royal.av, bne_self_eq_false]); (repeat (refine And.intro (by first | omega | (intros; simp_all; done) | (intros; simp_all; omega)) ?_)))))
  (refine AS_pure (same34 (sharesS r).1 (sharesS r).1) rfl rfl rfl rfl rfl ?_; simp only [go_sem, init_env', Nat.reduceEqDiff, Nat.reduceAdd, Nat.reduceMul, reduceIte, Nat.reduceLeDiff, Nat.reduceLT, Nat.reduceBEq, reduceCtorEq, hP, decide_true, bne_self_eq_false]; (repeat (refine And.intro (by first | omega | (intros; simp_all; done) | (intros; simp_all; omega)) ?_)); (repeat ((first | refine WV_seq_ ?_ | refine WV_block ?_ | refine WV_ops ?_ | refine WV_skip ?_ | refine WV_exit ?_); (try simp only [go_sem, init_env', Nat.reduceEqDiff, Nat.reduceAdd, Nat.reduceMul, reduceIte, Nat.reduceLeDiff, Nat.reduceLT, Nat.reduceBEq, reduceCtorEq, hP, decide_true, bne_self_eq_false]); (repeat (refine And.intro (by first | omega | (intros; simp_all; done) | (intros; simp_all; omega)) ?_)))))
  (refine AG_pure (fun hG => same34 (settledS gPaid r).1 (settledS gPaid r).1) rfl (fun hG => by first | (simp only [go_sem, init_env', Nat.reduceEqDiff, Nat.reduceAdd, Nat.reduceMul, reduceIte, Nat.reduceLeDiff, Nat.reduceLT, Nat.reduceBEq, reduceCtorEq, hG]; done) | (revert hG; simp; done) | simp_all) rfl rfl rfl ?_; simp only [go_sem, init_env', Nat.reduceEqDiff, Nat.reduceAdd, Nat.reduceMul, reduceIte, Nat.reduceLeDiff, Nat.reduceLT, Nat.reduceBEq, reduceCtorEq, hP, decide_true, bne_self_eq_false]; (repeat (refine And.intro (by first | omega | (intros; simp_all; done) | (intros; simp_all; omega)) ?_)); (repeat ((first | refine WV_seq_ ?_ | refine WV_block ?_ | refine WV_ops ?_ | refine WV_skip ?_ | refine WV_exit ?_); (try simp only [go_sem, init_env', Nat.reduceEqDiff, Nat.reduceAdd, Nat.reduceMul, reduceIte, Nat.reduceLeDiff, Nat.reduceLT, Nat.reduceBEq, reduceCtorEq, hP, decide_true, bne_self_eq_false]); (repeat (refine And.intro (by first | omega | (intros; simp_all; done) | (intros; simp_all; omega)) ?_)))))
  (refine WV_cond rfl (fun h => ?_) (fun h => ?_))
  · simp at h
  clear h
  (repeat ((first | refine WV_seq_ ?_ | refine WV_block ?_ | refine WV_ops ?_ | refine WV_skip ?_ | refine WV_exit ?_); (try simp only [go_sem, init_env', Nat.reduceEqDiff, Nat.reduceAdd, Nat.reduceMul, reduceIte, Nat.reduceLeDiff, Nat.reduceLT, Nat.reduceBEq, reduceCtorEq, hP, ]); (repeat (refine And.intro (by first | omega | (intros; simp_all; done) | (intros; simp_all; omega)) ?_))))
  (refine AS_pure (c5) rfl rfl rfl rfl rfl ?_; simp only [go_sem, init_env', Nat.reduceEqDiff, Nat.reduceAdd, Nat.reduceMul, reduceIte, Nat.reduceLeDiff, Nat.reduceLT, Nat.reduceBEq, reduceCtorEq, hP, Royal.av]; (repeat (refine And.intro (by first | omega | (intros; simp_all; done) | (intros; simp_all; omega)) ?_)); (repeat ((first | refine WV_seq_ ?_ | refine WV_block ?_ | refine WV_ops ?_ | refine WV_skip ?_ | refine WV_exit ?_); (try simp only [go_sem, init_env', Nat.reduceEqDiff, Nat.reduceAdd, Nat.reduceMul, reduceIte, Nat.reduceLeDiff, Nat.reduceLT, Nat.reduceBEq, reduceCtorEq, hP, Royal.av]); (repeat (refine And.intro (by first | omega | (intros; simp_all; done) | (intros; simp_all; omega)) ?_)))))
  (refine AS_pure (c6) rfl rfl rfl rfl rfl ?_; simp only [go_sem, init_env', Nat.reduceEqDiff, Nat.reduceAdd, Nat.reduceMul, reduceIte, Nat.reduceLeDiff, Nat.reduceLT, Nat.reduceBEq, reduceCtorEq, hP, Royal.av]; (repeat (refine And.intro (by first | omega | (intros; simp_all; done) | (intros; simp_all; omega)) ?_)); (repeat ((first | refine WV_seq_ ?_ | refine WV_block ?_ | refine WV_ops ?_ | refine WV_skip ?_ | refine WV_exit ?_); (try simp only [go_sem, init_env', Nat.reduceEqDiff, Nat.reduceAdd, Nat.reduceMul, reduceIte, Nat.reduceLeDiff, Nat.reduceLT, Nat.reduceBEq, reduceCtorEq, hP, Royal.av]); (repeat (refine And.intro (by first | omega | (intros; simp_all; done) | (intros; simp_all; omega)) ?_)))))
  (refine AS_pure (c7) rfl rfl rfl rfl rfl ?_; simp only [go_sem, init_env', Nat.reduceEqDiff, Nat.reduceAdd, Nat.reduceMul, reduceIte, Nat.reduceLeDiff, Nat.reduceLT, Nat.reduceBEq, reduceCtorEq, hP, Royal.av]; (repeat (refine And.intro (by first | omega | (intros; simp_all; done) | (intros; simp_all; omega)) ?_)); (repeat ((first | refine WV_seq_ ?_ | refine WV_block ?_ | refine WV_ops ?_ | refine WV_skip ?_ | refine WV_exit ?_); (try simp only [go_sem, init_env', Nat.reduceEqDiff, Nat.reduceAdd, Nat.reduceMul, reduceIte, Nat.reduceLeDiff, Nat.reduceLT, Nat.reduceBEq, reduceCtorEq, hP, Royal.av]); (repeat (refine And.intro (by first | omega | (intros; simp_all; done) | (intros; simp_all; omega)) ?_)))))
  (refine AS_pure (c8) rfl rfl rfl rfl rfl ?_; simp only [go_sem, init_env', Nat.reduceEqDiff, Nat.reduceAdd, Nat.reduceMul, reduceIte, Nat.reduceLeDiff, Nat.reduceLT, Nat.reduceBEq, reduceCtorEq, hP, Royal.av, bne_self_eq_false]; (repeat (refine And.intro (by first | omega | (intros; simp_all; done) | (intros; simp_all; omega)) ?_)); (repeat ((first | refine WV_seq_ ?_ | refine WV_block ?_ | refine WV_ops ?_ | refine WV_skip ?_ | refine WV_exit ?_); (try simp only [go_sem, init_env', Nat.reduceEqDiff, Nat.reduceAdd, Nat.reduceMul, reduceIte, Nat.reduceLeDiff, Nat.reduceLT, Nat.reduceBEq, reduceCtorEq, hP, Royal.av, bne_self_eq_false]); (repeat (refine And.intro (by first | omega | (intros; simp_all; done) | (intros; simp_all; omega)) ?_)))))
  (refine AS_pure (same34 (settledS gLeft r).1 (settledS gLeft r).1) rfl rfl rfl rfl rfl ?_; simp only [go_sem, init_env', Nat.reduceEqDiff, Nat.reduceAdd, Nat.reduceMul, reduceIte, Nat.reduceLeDiff, Nat.reduceLT, Nat.reduceBEq, reduceCtorEq, hP, decide_true, bne_self_eq_false]; (repeat (refine And.intro (by first | omega | (intros; simp_all; done) | (intros; simp_all; omega)) ?_)); (repeat ((first | refine WV_seq_ ?_ | refine WV_block ?_ | refine WV_ops ?_ | refine WV_skip ?_ | refine WV_exit ?_); (try simp only [go_sem, init_env', Nat.reduceEqDiff, Nat.reduceAdd, Nat.reduceMul, reduceIte, Nat.reduceLeDiff, Nat.reduceLT, Nat.reduceBEq, reduceCtorEq, hP, decide_true, bne_self_eq_false]); (repeat (refine And.intro (by first | omega | (intros; simp_all; done) | (intros; simp_all; omega)) ?_)))))
  (refine WV_cond rfl (fun h => ?_) (fun h => ?_))
  · simp at h
  clear h
  (repeat ((first | refine WV_seq_ ?_ | refine WV_block ?_ | refine WV_ops ?_ | refine WV_skip ?_ | refine WV_exit ?_); (try simp only [go_sem, init_env', Nat.reduceEqDiff, Nat.reduceAdd, Nat.reduceMul, reduceIte, Nat.reduceLeDiff, Nat.reduceLT, Nat.reduceBEq, reduceCtorEq, hP, ]); (repeat (refine And.intro (by first | omega | (intros; simp_all; done) | (intros; simp_all; omega)) ?_))))
  refine WV_loopK K11_2 [] (fun k : Nat => k ≤ r.n) (fun k => r.n - k) (fun k => [(17, iv k)]) (fun _ => []) 0 (Nat.zero_le _) ?_ ?_
  · (refine Sub_of (by simp only [go_sem, init_env', Nat.reduceEqDiff, Nat.reduceAdd, Nat.reduceMul, reduceIte, Nat.reduceLeDiff, Nat.reduceLT, Nat.reduceBEq, reduceCtorEq]; ((repeat' (first | exact EnvLe_e0 _ _ | refine EnvLe_upd ?_ ?_)) <;> ((try simp only [upd_app, e0_app, o0_app, Nat.reduceEqDiff, reduceIte]); first | exact AWk.refl _ _ | exact AWk.int (by omega) | exact AWk.int (by rw [w64 (by omega) (by omega)]; omega) | exact AWk.grow rfl | exact AWk.nil _ | exact AWk.of (by simp)))) (by simp only [go_sem, init_env', Nat.reduceEqDiff, Nat.reduceAdd, Nat.reduceMul, reduceIte, Nat.reduceLeDiff, Nat.reduceLT, Nat.reduceBEq, reduceCtorEq]; ((repeat' (first | exact ObjLe_o0 _ | exact ObjLe.rfl' _ | refine ObjLe_same ?_ | refine ObjLe_upd ?_ ?_ | refine ObjLe_new rfl ?_)) <;> rfl)))
  · intro k hk
    simp only [go_sem, init_env', Nat.reduceEqDiff, Nat.reduceAdd, Nat.reduceMul, reduceIte, Nat.reduceLeDiff, Nat.reduceLT, Nat.reduceBEq, reduceCtorEq]
    (repeat ((first | refine WV_seq_ ?_ | refine WV_block ?_ | refine WV_ops ?_ | refine WV_skip ?_ | refine WV_exit ?_); (try simp only [go_sem, init_env', Nat.reduceEqDiff, Nat.reduceAdd, Nat.reduceMul, reduceIte, Nat.reduceLeDiff, Nat.reduceLT, Nat.reduceBEq, reduceCtorEq, hP, ints, hnl]); (repeat (refine And.intro (by first | omega | (intros; simp_all; done) | (intros; simp_all; omega)) ?_))))
    (refine WV_cond rfl (fun h => ?_) (fun h => ?_))
    · have hkl : k < r.n := by simpa using h
      have hw3 := w64 (n := (k : Int) + 1) (by omega) (by omega)
      (repeat ((first | refine WV_seq_ ?_ | refine WV_block ?_ | refine WV_ops ?_ | refine WV_skip ?_ | refine WV_exit ?_); (try simp only [go_sem, init_env', Nat.reduceEqDiff, Nat.reduceAdd, Nat.reduceMul, reduceIte, Nat.reduceLeDiff, Nat.reduceLT, Nat.reduceBEq, reduceCtorEq, hP, ]); (repeat (refine And.intro (by first | omega | (intros; simp_all; done) | (intros; simp_all; omega)) ?_))))
      (refine AS_pure (c9 k) rfl rfl rfl rfl rfl ?_; simp only [go_sem, init_env', Nat.reduceEqDiff, Nat.reduceAdd, Nat.reduceMul, reduceIte, Nat.reduceLeDiff, Nat.reduceLT, Nat.reduceBEq, reduceCtorEq, hP, Royal.av]; (repeat (refine And.intro (by first | omega | (intros; simp_all; done) | (intros; simp_all; omega)) ?_)); (repeat ((first | refine WV_seq_ ?_ | refine WV_block ?_ | refine WV_ops ?_ | refine WV_skip ?_ | refine WV_exit ?_); (try simp only [go_sem, init_env', Nat.reduceEqDiff, Nat.reduceAdd, Nat.reduceMul, reduceIte, Nat.reduceLeDiff, Nat.reduceLT, Nat.reduceBEq, reduceCtorEq, hP, Royal.av]); (repeat (refine And.intro (by first | omega | (intros; simp_all; done) | (intros; simp_all; omega)) ?_)))))
      (refine AS_pure (c10 k) rfl rfl rfl rfl rfl ?_; simp only [go_sem, init_env', Nat.reduceEqDiff, Nat.reduceAdd, Nat.reduceMul, reduceIte, Nat.reduceLeDiff, Nat.reduceLT, Nat.reduceBEq, reduceCtorEq, hP, Royal.av, bne_self_eq_false]; (repeat (refine And.intro (by first | omega | (intros; simp_all; done) | (intros; simp_all; omega)) ?_)); (repeat ((first | refine WV_seq_ ?_ | refine WV_block ?_ | refine WV_ops ?_ | refine WV_skip ?_ | refine WV_exit ?_); (try simp only [go_sem, init_env', Nat.reduceEqDiff, Nat.reduceAdd, Nat.reduceMul, reduceIte, Nat.reduceLeDiff, Nat.reduceLT, Nat.reduceBEq, reduceCtorEq, hP, Royal.av, bne_self_eq_false]); (repeat (refine And.intro (by first | omega | (intros; simp_all; done) | (intros; simp_all; omega)) ?_)))))
      (refine WV_cond rfl (fun h => ?_) (fun h => ?_))
      · simp at h
      · (repeat ((first | refine WV_seq_ ?_ | refine WV_block ?_ | refine WV_ops ?_ | refine WV_skip ?_ | refine WV_exit ?_); (try simp only [go_sem, init_env', Nat.reduceEqDiff, Nat.reduceAdd, Nat.reduceMul, reduceIte, Nat.reduceLeDiff, Nat.reduceLT, Nat.reduceBEq, reduceCtorEq, hP, hw3]); (repeat (refine And.intro (by first | omega | (intros; simp_all; done) | (intros; simp_all; omega)) ?_))))
        refine ⟨k + 1, by omega, by omega, ?_⟩
        (refine Sub_of (by simp only [go_sem, init_env', Nat.reduceEqDiff, Nat.reduceAdd, Nat.reduceMul, reduceIte, Nat.reduceLeDiff, Nat.reduceLT, Nat.reduceBEq, reduceCtorEq]; ((repeat' (first | exact EnvLe_e0 _ _ | refine EnvLe_upd ?_ ?_)) <;> ((try simp only [upd_app, e0_app, o0_app, Nat.reduceEqDiff, reduceIte]); first | exact AWk.refl _ _ | exact AWk.int (by omega) | exact AWk.int (by rw [w64 (by omega) (by omega)]; omega) | exact AWk.grow rfl | exact AWk.nil _ | exact AWk.of (by simp)))) (by simp only [go_sem, init_env', Nat.reduceEqDiff, Nat.reduceAdd, Nat.reduceMul, reduceIte, Nat.reduceLeDiff, Nat.reduceLT, Nat.reduceBEq, reduceCtorEq]; ((repeat' (first | exact ObjLe_o0 _ | exact ObjLe.rfl' _ | refine ObjLe_same ?_ | refine ObjLe_upd ?_ ?_ | refine ObjLe_new rfl ?_)) <;> rfl)))
    · (repeat ((first | refine WV_seq_ ?_ | refine WV_block ?_ | refine WV_ops ?_ | refine WV_skip ?_ | refine WV_exit ?_); (try simp only [go_sem, init_env', Nat.reduceEqDiff, Nat.reduceAdd, Nat.reduceMul, reduceIte, Nat.reduceLeDiff, Nat.reduceLT, Nat.reduceBEq, reduceCtorEq, hP, ]); (repeat (refine And.intro (by first | omega | (intros; simp_all; done) | (intros; simp_all; omega)) ?_))))
      (refine AS_pure (works14) rfl rfl rfl rfl rfl ?_; simp only [go_sem, init_env', Nat.reduceEqDiff, Nat.reduceAdd, Nat.reduceMul, reduceIte, Nat.reduceLeDiff, Nat.reduceLT, Nat.reduceBEq, reduceCtorEq, hP, ]; (repeat (refine And.intro (by first | omega | (intros; simp_all; done) | (intros; simp_all; omega)) ?_)); (repeat ((first | refine WV_seq_ ?_ | refine WV_block ?_ | refine WV_ops ?_ | refine WV_skip ?_ | refine WV_exit ?_); (try simp only [go_sem, init_env', Nat.reduceEqDiff, Nat.reduceAdd, Nat.reduceMul, reduceIte, Nat.reduceLeDiff, Nat.reduceLT, Nat.reduceBEq, reduceCtorEq, hP, ]); (repeat (refine And.intro (by first | omega | (intros; simp_all; done) | (intros; simp_all; omega)) ?_)))))
      (refine WV_ret ?_; simp only [thenQ, inQ, RetQ, RetOk, resAll, resA]; simp only [go_sem, init_env', Nat.reduceEqDiff, Nat.reduceAdd, Nat.reduceMul, reduceIte, Nat.reduceLeDiff, Nat.reduceLT, Nat.reduceBEq, reduceCtorEq, tupA, AV.port, AV.portL, exists_eq_left', ]; (first | exact AVle.of rfl | refine AVle.of ?_ | skip))

set_option maxRecDepth 20000 in
set_option maxHeartbeats 16000000 in
theorem law11 (r : Royal) (m : Int) : FSpec Try.prog 11 [r.av, iv m] (.c (.bool true)) := by
  refine FSpec_of c11 (Nat.le_refl _) (by decide) fun C hP hN hC hL => ?_
  simp only [ir11, Royal.av]
  (repeat ((first | refine WV_seq_ ?_ | refine WV_block ?_ | refine WV_ops ?_ | refine WV_skip ?_ | refine WV_exit ?_); (try simp only [go_sem, init_env', Nat.reduceEqDiff, Nat.reduceAdd, Nat.reduceMul, reduceIte, Nat.reduceLeDiff, Nat.reduceLT, Nat.reduceBEq, reduceCtorEq, hP, ]); (repeat (refine And.intro (by first | omega | (intros; simp_all; done) | (intros; simp_all; omega)) ?_))))
  (refine AS_pure (ready13 r) rfl rfl rfl rfl rfl ?_; simp only [go_sem, init_env', Nat.reduceEqDiff, Nat.reduceAdd, Nat.reduceMul, reduceIte, Nat.reduceLeDiff, Nat.reduceLT, Nat.reduceBEq, reduceCtorEq, hP, Royal.av]; (repeat (refine And.intro (by first | omega | (intros; simp_all; done) | (intros; simp_all; omega)) ?_)); (repeat ((first | refine WV_seq_ ?_ | refine WV_block ?_ | refine WV_ops ?_ | refine WV_skip ?_ | refine WV_exit ?_); (try simp only [go_sem, init_env', Nat.reduceEqDiff, Nat.reduceAdd, Nat.reduceMul, reduceIte, Nat.reduceLeDiff, Nat.reduceLT, Nat.reduceBEq, reduceCtorEq, hP, Royal.av]); (repeat (refine And.intro (by first | omega | (intros; simp_all; done) | (intros; simp_all; omega)) ?_)))))
  (refine WV_cond rfl (fun h => ?_) (fun h => ?_))
  · (repeat ((first | refine WV_seq_ ?_ | refine WV_block ?_ | refine WV_ops ?_ | refine WV_skip ?_ | refine WV_exit ?_); (try simp only [go_sem, init_env', Nat.reduceEqDiff, Nat.reduceAdd, Nat.reduceMul, reduceIte, Nat.reduceLeDiff, Nat.reduceLT, Nat.reduceBEq, reduceCtorEq, hP, ]); (repeat (refine And.intro (by first | omega | (intros; simp_all; done) | (intros; simp_all; omega)) ?_))))
    (refine AS_pure (works14) rfl rfl rfl rfl rfl ?_; simp only [go_sem, init_env', Nat.reduceEqDiff, Nat.reduceAdd, Nat.reduceMul, reduceIte, Nat.reduceLeDiff, Nat.reduceLT, Nat.reduceBEq, reduceCtorEq, hP, ]; (repeat (refine And.intro (by first | omega | (intros; simp_all; done) | (intros; simp_all; omega)) ?_)); (repeat ((first | refine WV_seq_ ?_ | refine WV_block ?_ | refine WV_ops ?_ | refine WV_skip ?_ | refine WV_exit ?_); (try simp only [go_sem, init_env', Nat.reduceEqDiff, Nat.reduceAdd, Nat.reduceMul, reduceIte, Nat.reduceLeDiff, Nat.reduceLT, Nat.reduceBEq, reduceCtorEq, hP, ]); (repeat (refine And.intro (by first | omega | (intros; simp_all; done) | (intros; simp_all; omega)) ?_)))))
    (refine WV_ret ?_; simp only [thenQ, inQ, RetQ, RetOk, resAll, resA]; simp only [go_sem, init_env', Nat.reduceEqDiff, Nat.reduceAdd, Nat.reduceMul, reduceIte, Nat.reduceLeDiff, Nat.reduceLT, Nat.reduceBEq, reduceCtorEq, tupA, AV.port, AV.portL, exists_eq_left', ]; (first | exact AVle.of rfl | refine AVle.of ?_ | skip))
  have hc : r.ok = true ∧ 1 ≤ m ∧ m ≤ 1000 := by
    cases hr : r.ok
    · rw [hr] at h; simp at h
    · rw [hr] at h; simp at h; exact ⟨rfl, by omega, by omega⟩
  clear h
  obtain ⟨hok, hm⟩ := hc
  have hr := Royal.ok_spec hok
  have hs6 := hr.s6
  have hnear := near_of (Royal.near hr)
  have ht := tail11 hP r m hok hm
  (repeat ((first | refine WV_seq_ ?_ | refine WV_block ?_ | refine WV_ops ?_ | refine WV_skip ?_ | refine WV_exit ?_); (try simp only [go_sem, init_env', Nat.reduceEqDiff, Nat.reduceAdd, Nat.reduceMul, reduceIte, Nat.reduceLeDiff, Nat.reduceLT, Nat.reduceBEq, reduceCtorEq, hP, ]); (repeat (refine And.intro (by first | omega | (intros; simp_all; done) | (intros; simp_all; omega)) ?_))))
  by_cases hne : r.sides = []
  · have hst : (timesR r m).sides = [] := by simp [timesR, hne]
    (refine AS_pure (copy24 r hnear) rfl rfl rfl rfl rfl ?_; simp only [go_sem, init_env', Nat.reduceEqDiff, Nat.reduceAdd, Nat.reduceMul, reduceIte, Nat.reduceLeDiff, Nat.reduceLT, Nat.reduceBEq, reduceCtorEq, hP, Royal.av]; (repeat (refine And.intro (by first | omega | (intros; simp_all; done) | (intros; simp_all; omega)) ?_)); (repeat ((first | refine WV_seq_ ?_ | refine WV_block ?_ | refine WV_ops ?_ | refine WV_skip ?_ | refine WV_exit ?_); (try simp only [go_sem, init_env', Nat.reduceEqDiff, Nat.reduceAdd, Nat.reduceMul, reduceIte, Nat.reduceLeDiff, Nat.reduceLT, Nat.reduceBEq, reduceCtorEq, hP, Royal.av]); (repeat (refine And.intro (by first | omega | (intros; simp_all; done) | (intros; simp_all; omega)) ?_)))))
    refine WV_loopK K11_1 [] (fun k : Nat => k = 0) (fun k => 0) (fun k => [(6, iv 0)]) (fun _ => []) 0 rfl ?_ ?_
    · (refine Sub_of (by simp only [go_sem, init_env', Nat.reduceEqDiff, Nat.reduceAdd, Nat.reduceMul, reduceIte, Nat.reduceLeDiff, Nat.reduceLT, Nat.reduceBEq, reduceCtorEq]; ((repeat' (first | exact EnvLe_e0 _ _ | refine EnvLe_upd ?_ ?_)) <;> ((try simp only [upd_app, e0_app, o0_app, Nat.reduceEqDiff, reduceIte]); first | exact AWk.refl _ _ | exact AWk.int (by omega) | exact AWk.int (by rw [w64 (by omega) (by omega)]; omega) | exact AWk.grow rfl | exact AWk.nil _ | exact AWk.of (by simp)))) (by simp only [go_sem, init_env', Nat.reduceEqDiff, Nat.reduceAdd, Nat.reduceMul, reduceIte, Nat.reduceLeDiff, Nat.reduceLT, Nat.reduceBEq, reduceCtorEq]; ((repeat' (first | exact ObjLe_o0 _ | exact ObjLe.rfl' _ | refine ObjLe_same ?_ | refine ObjLe_upd ?_ ?_ | refine ObjLe_new rfl ?_)) <;> rfl)))
    · rintro k rfl
      simp only [go_sem, init_env', Nat.reduceEqDiff, Nat.reduceAdd, Nat.reduceMul, reduceIte, Nat.reduceLeDiff, Nat.reduceLT, Nat.reduceBEq, reduceCtorEq]
      (repeat ((first | refine WV_seq_ ?_ | refine WV_block ?_ | refine WV_ops ?_ | refine WV_skip ?_ | refine WV_exit ?_); (try simp only [go_sem, init_env', Nat.reduceEqDiff, Nat.reduceAdd, Nat.reduceMul, reduceIte, Nat.reduceLeDiff, Nat.reduceLT, Nat.reduceBEq, reduceCtorEq, hP, sidesC, hne, List.length_nil, List.map_nil, Int.natCast_zero]); (repeat (refine And.intro (by first | omega | (intros; simp_all; done) | (intros; simp_all; omega)) ?_))))
      (refine WV_cond rfl (fun h => ?_) (fun h => ?_))
      · simp at h
      · rw [hst] at ht
        simp only [hne] at ht
        (refine WV_exit ?_; simp only [go_sem, init_env', Nat.reduceEqDiff, Nat.reduceAdd, Nat.reduceMul, reduceIte, Nat.reduceLeDiff, Nat.reduceLT, Nat.reduceBEq, reduceCtorEq])
        exact WV_sub (Sub_of (by simp only [go_sem, init_env', Nat.reduceEqDiff, Nat.reduceAdd, Nat.reduceMul, reduceIte, Nat.reduceLeDiff, Nat.reduceLT, Nat.reduceBEq, reduceCtorEq]; ((repeat' (first | exact EnvLe_e0 _ _ | refine EnvLe_upd ?_ ?_)) <;> ((try simp only [upd_app, e0_app, o0_app, Nat.reduceEqDiff, reduceIte]); first | exact AWk.refl _ _ | exact AWk.int (by omega) | exact AWk.int (by rw [w64 (by omega) (by omega)]; omega) | exact AWk.grow rfl | exact AWk.nil _ | exact AWk.of (by simp)))) (by simp only [go_sem, init_env', Nat.reduceEqDiff, Nat.reduceAdd, Nat.reduceMul, reduceIte, Nat.reduceLeDiff, Nat.reduceLT, Nat.reduceBEq, reduceCtorEq]; ((repeat' (first | exact ObjLe_o0 _ | exact ObjLe.rfl' _ | refine ObjLe_same ?_ | refine ObjLe_upd ?_ ?_ | refine ObjLe_new rfl ?_)) <;> rfl))) ht
  · refine AS_new (copyN r hnear hne) rfl rfl rfl rfl ?_
    rintro res os ⟨cap, j, h1, h2, h3, rfl, rfl⟩
    refine ⟨[900], .agg [iv r.pool, .vw 2 900 0 r.sides.length cap, .c (ints r.owed)], [.box (cellsG Side.cds r.sides j)], by decide, rfl, by simp only [go_sem, init_env', Nat.reduceEqDiff, Nat.reduceAdd, Nat.reduceMul, reduceIte, Nat.reduceLeDiff, Nat.reduceLT, Nat.reduceBEq, reduceCtorEq, decide_true], rfl, ?_, ?_⟩
    · simp only [obsBack, Ob.back, back_cellsG]; rfl
    simp only [go_sem, init_env', Nat.reduceEqDiff, Nat.reduceAdd, Nat.reduceMul, reduceIte, Nat.reduceLeDiff, Nat.reduceLT, Nat.reduceBEq, reduceCtorEq, hP, ownBack]
    (repeat (refine And.intro (by first | omega | (intros; simp_all; done) | (intros; simp_all; omega)) ?_))
    (repeat ((first | refine WV_seq_ ?_ | refine WV_block ?_ | refine WV_ops ?_ | refine WV_skip ?_ | refine WV_exit ?_); (try simp only [go_sem, init_env', Nat.reduceEqDiff, Nat.reduceAdd, Nat.reduceMul, reduceIte, Nat.reduceLeDiff, Nat.reduceLT, Nat.reduceBEq, reduceCtorEq, hP, ]); (repeat (refine And.intro (by first | omega | (intros; simp_all; done) | (intros; simp_all; omega)) ?_))))
    refine WV_loopK K11_1 [5, 900] (fun k : Nat => k ≤ r.sides.length) (fun k => r.sides.length - k) (fun k => [(6, iv k)]) (fun k => [(900, .box (cellsG Side.cds (mapK (timesSd m) r.sides k) j)), (5, .box [iv r.pool, .vw 2 900 0 r.sides.length cap, .c (ints r.owed)])]) 0 (Nat.zero_le _) ?_ ?_
    · rw [mapK_zero]
      (refine Sub_of (by simp only [go_sem, init_env', Nat.reduceEqDiff, Nat.reduceAdd, Nat.reduceMul, reduceIte, Nat.reduceLeDiff, Nat.reduceLT, Nat.reduceBEq, reduceCtorEq]; ((repeat' (first | exact EnvLe_e0 _ _ | refine EnvLe_upd ?_ ?_)) <;> ((try simp only [upd_app, e0_app, o0_app, Nat.reduceEqDiff, reduceIte]); first | exact AWk.refl _ _ | exact AWk.int (by omega) | exact AWk.int (by rw [w64 (by omega) (by omega)]; omega) | exact AWk.grow rfl | exact AWk.nil _ | exact AWk.of (by simp)))) (by simp only [go_sem, init_env', Nat.reduceEqDiff, Nat.reduceAdd, Nat.reduceMul, reduceIte, Nat.reduceLeDiff, Nat.reduceLT, Nat.reduceBEq, reduceCtorEq]; ((repeat' (first | exact ObjLe_o0 _ | exact ObjLe.rfl' _ | refine ObjLe_same ?_ | refine ObjLe_upd ?_ ?_ | refine ObjLe_new rfl ?_)) <;> rfl)))
    · intro k hk
      have hml := mapK_len (timesSd m) r.sides k
      simp only [go_sem, init_env', Nat.reduceEqDiff, Nat.reduceAdd, Nat.reduceMul, reduceIte, Nat.reduceLeDiff, Nat.reduceLT, Nat.reduceBEq, reduceCtorEq]
      (repeat ((first | refine WV_seq_ ?_ | refine WV_block ?_ | refine WV_ops ?_ | refine WV_skip ?_ | refine WV_exit ?_); (try simp only [go_sem, init_env', Nat.reduceEqDiff, Nat.reduceAdd, Nat.reduceMul, reduceIte, Nat.reduceLeDiff, Nat.reduceLT, Nat.reduceBEq, reduceCtorEq, hP, ]); (repeat (refine And.intro (by first | omega | (intros; simp_all; done) | (intros; simp_all; omega)) ?_))))
      (refine WV_cond rfl (fun h => ?_) (fun h => ?_))
      · have hkl : k < r.sides.length := by simpa using h
        have hI : (k : Int) < (r.sides.length : Int) := by omega
        have hlk : k < (mapK (timesSd m) r.sides k).length := by omega
        have e2 := mapK_get (g := timesSd m) hkl hlk
        have hp := hr.plays _ (List.getElem_mem hkl)
        have hmu := mul_small hp (⟨by omega, hm.2⟩ : 0 ≤ m ∧ m ≤ 1000)
        have hw2 := w64 (n := (k : Int) + 1) (by omega) (by omega)
        have hw3 := w64 (n := r.sides[k].plays * m) (by omega) (by omega)
        have hg0 : ∀ x, (cellsG Side.cds (mapK (timesSd m) r.sides k) j).getD (k * 2) x = .c (.int .i64 r.sides[k].plays) := fun x => by
          have := cellsG_get side_two hlk j 0 (d := .int .i64 r.sides[k].plays) (by rw [e2]; rfl) x
          rwa [Nat.add_zero] at this
        have hs0 : (cellsG Side.cds (mapK (timesSd m) r.sides k) j).set (k * 2) (.c (.int .i64 (r.sides[k].plays * m))) = cellsG Side.cds (mapK (timesSd m) r.sides (k + 1)) j := by
          have := cellsG_set side_two hlk j 0 (by decide) (.int .i64 (r.sides[k].plays * m)) (timesSd m r.sides[k]) (by rw [e2]; rfl)
          rwa [Nat.add_zero, mapK_set hkl] at this
        have hcl : k * 2 < (cellsG Side.cds (mapK (timesSd m) r.sides k) j).length := by rw [cellsG_len side_two, hml]; omega
        have hcl2 : k * 2 + 1 ≤ (cellsG Side.cds (mapK (timesSd m) r.sides k) j).length := hcl
        (repeat ((first | refine WV_seq_ ?_ | refine WV_block ?_ | refine WV_ops ?_ | refine WV_skip ?_ | refine WV_exit ?_); (try simp only [go_sem, init_env', Nat.reduceEqDiff, Nat.reduceAdd, Nat.reduceMul, reduceIte, Nat.reduceLeDiff, Nat.reduceLT, Nat.reduceBEq, reduceCtorEq, hP, Int.natCast_nonneg, hI, hg0, hs0, hw2, hw3, hcl, hcl2]); (repeat (refine And.intro (by first | omega | (intros; simp_all; done) | (intros; simp_all; omega)) ?_))))
        refine ⟨k + 1, by omega, by omega, ?_⟩
        (refine Sub_of (by simp only [go_sem, init_env', Nat.reduceEqDiff, Nat.reduceAdd, Nat.reduceMul, reduceIte, Nat.reduceLeDiff, Nat.reduceLT, Nat.reduceBEq, reduceCtorEq]; ((repeat' (first | exact EnvLe_e0 _ _ | refine EnvLe_upd ?_ ?_)) <;> ((try simp only [upd_app, e0_app, o0_app, Nat.reduceEqDiff, reduceIte]); first | exact AWk.refl _ _ | exact AWk.int (by omega) | exact AWk.int (by rw [w64 (by omega) (by omega)]; omega) | exact AWk.grow rfl | exact AWk.nil _ | exact AWk.of (by simp)))) (by simp only [go_sem, init_env', Nat.reduceEqDiff, Nat.reduceAdd, Nat.reduceMul, reduceIte, Nat.reduceLeDiff, Nat.reduceLT, Nat.reduceBEq, reduceCtorEq]; ((repeat' (first | exact ObjLe_o0 _ | exact ObjLe.rfl' _ | refine ObjLe_same ?_ | refine ObjLe_upd ?_ ?_ | refine ObjLe_new rfl ?_)) <;> rfl)))
      · have h : k = r.sides.length := by simp at h; omega
        subst h
        rw [mapK_all]
        (refine WV_exit ?_; simp only [go_sem, init_env', Nat.reduceEqDiff, Nat.reduceAdd, Nat.reduceMul, reduceIte, Nat.reduceLeDiff, Nat.reduceLT, Nat.reduceBEq, reduceCtorEq])
        have hSl : (r.sides.map (timesSd m)).length = r.sides.length := by simp
        have hgr := sides_grp (r.sides.map (timesSd m))
        have hfl := sides_fit (r.sides.map (timesSd m))
        rw [hSl] at hgr hfl
        refine WV_freezeJ 900 (ds := flatG Side.cds (r.sides.map (timesSd m))) (junk := List.replicate j .non) rfl ?_
        simp only [go_sem, init_env', Nat.reduceEqDiff, Nat.reduceAdd, Nat.reduceMul, reduceIte, Nat.reduceLeDiff, Nat.reduceLT, Nat.reduceBEq, reduceCtorEq, hfl, hgr]
        exact WV_sub (Sub_of (by simp only [go_sem, init_env', Nat.reduceEqDiff, Nat.reduceAdd, Nat.reduceMul, reduceIte, Nat.reduceLeDiff, Nat.reduceLT, Nat.reduceBEq, reduceCtorEq]; ((repeat' (first | exact EnvLe_e0 _ _ | refine EnvLe_upd ?_ ?_)) <;> ((try simp only [upd_app, e0_app, o0_app, Nat.reduceEqDiff, reduceIte]); first | exact AWk.refl _ _ | exact AWk.int (by omega) | exact AWk.int (by rw [w64 (by omega) (by omega)]; omega) | exact AWk.grow rfl | exact AWk.nil _ | exact AWk.of (by simp)))) (by simp only [go_sem, init_env', Nat.reduceEqDiff, Nat.reduceAdd, Nat.reduceMul, reduceIte, Nat.reduceLeDiff, Nat.reduceLT, Nat.reduceBEq, reduceCtorEq]; ((repeat' (first | exact ObjLe_o0 _ | exact ObjLe.rfl' _ | refine ObjLe_same ?_ | refine ObjLe_upd ?_ ?_ | refine ObjLe_new rfl ?_)) <;> rfl))) ht
end Go.Proofs.Ytnmchaemhjnkgaa
