/-
  Contracts of the layer's functions, of the laws' helpers and of the law; conditions: as each theorem states.
-/
import Derived.Test.YtefoconkepmmgaaGreatDoorU7
set_option linter.unusedVariables false
set_option linter.unusedSimpArgs false
namespace Go.Proofs.YtefoconkepmmgaaGreatDoor
open Go Go.V
variable {tb:Obj}
abbrev o3_0:List Ins:=[JS 2 (.box 15 (.t 0)),JS 4 (JB false)]
abbrev o3_1:List Ins:=[JS 16 (Jm 1),JS 17 (Jn 16),JS 18 (Jk .gtr 17 12),JS 19 (Jm 18),JG 20 (JL 15 2) 19 false,JG 21 (Jc 5 [.t 20,(.k J0)]) 19 false,JS 22 (Jo 19 21),JS 23 (Jm 22),JG 24 (JL 15 2) 23 false,JG 25 (Jc 6 [.t 24]) 23 false,JG 26 (Jk .neq 25 0) 23 false,JS 27 (Jo 23 26)]
abbrev o3_2:List Ins:=[JS 28 (Jc 7 []),JS 4 (Jm 28)]
abbrev v3_3:VC:=(.seq (.ops o3_2) .ret)
abbrev v3_4:VC:=(.cond (.t 27) v3_3 .skip)
abbrev o3_5:List Ins:=[JS 29 (JL 15 2),JS 30 (Jc 8 [.t 29]),JS 5 (.alloc [Jz 0,J0,J0,J0,J0,J0,Jz 0,Jz 0,Jz 0,Jz 0,J0,Jz 0,Jz 0,Jz 0,J0]),JN (Js 15 5 30)]
abbrev o3_6:List Ins:=[JS 31 (Jf 10 5),JS 32 (Jf 4 31),JN (.st 1 (.t 32) (.k J0))]
abbrev o3_7:List Ins:=[JS 6 (.mv (.k J0))]
abbrev o3_8:List Ins:=[JS 7 (Ji 0)]
abbrev o3_9:List Ins:=[JS 33 (Jm 7),JS 34 (Jm 1),JS 35 (Jn 34),JS 36 (Jb .lss 33 35)]
abbrev v3_10:VC:=(.cond (.t 36) .skip (.exit 0))
abbrev o3_11:List Ins:=[JF 49 (Jm 1),JF 50 (Jm 7),JS 51 (Ja 1 49 50),JS 52 (Jl 51),JS 53 (Jk .lss 52 (-1)),JS 54 (Jm 53),JH 55 (Jm 1) 54 false,JH 56 (Jm 7) 54 false,JH 57 (Ja 1 55 56) 54 false,JH 58 (Jl 57) 54 false,JH 59 (Jf 0 2) 54 false,JH 60 (Jf 0 59) 54 false,JH 61 (Jf 2 60) 54 false,JH 62 (Jl 61) 54 false,JH 63 (Jn 62) 54 false,JG 64 (Jb .geq 58 63) 54 false,JS 65 (Jo 54 64),JS 48 (Jm 65)]
abbrev o3_12:List Ins:=[JS 66 (Jc 7 []),JS 4 (Jm 66)]
abbrev v3_13:VC:=(.seq (.ops o3_12) .ret)
abbrev o3_14:List Ins:=[JS 68 (Jm 1),JS 69 (Jm 7),JS 70 (Ja 1 68 69),JS 71 (Jl 70),JS 72 (Jk .lss 71 0),JS 67 (Jm 72)]
abbrev o3_15:List Ins:=[JS 73 (Jm 6),JS 74 (Jm 7),JS 75 (Jc 9 [.t 74]),JS 76 (.prim (.sbin .add) [(.k (.c (.str [112,114,101,115,115,32,48,32]))),.t 75]),JS 77 (.bsl 9 1 [.t 76]),JS 78 (.app 9 1 16 (.t 73) (.t 77)),JS 6 (Jm 78)]
abbrev o3_16:List Ins:=[JS 39 (Jm 6),JS 40 (Jm 1),JS 41 (Jm 7),JS 42 (Ja 1 40 41),JS 43 (Jl 42),JS 44 (Jc 9 [.t 43]),JS 45 (.prim (.sbin .add) [(.k (.c (.str [99,111,105,110,32]))),.t 44]),JS 46 (.bsl 9 1 [.t 45]),JS 47 (.app 9 1 16 (.t 39) (.t 46)),JS 6 (Jm 47)]
abbrev v3_17:VC:=(.cond (.t 67) (.ops o3_15) (.ops o3_16))
abbrev v3_18:VC:=(.seq (.ops o3_14) v3_17)
abbrev v3_19:VC:=(.cond (.t 48) v3_13 v3_18)
abbrev v3_20:VC:=(.seq (.dops o3_11) v3_19)
abbrev v3_21:VC:=(.block 2 v3_20)
abbrev o3_22:List Ins:=[JS 37 (Jm 7),JS 38 (Jk .add 37 1),JS 7 (Jm 38)]
abbrev v3_23:VC:=(.seq (.block 1 v3_21) (.ops o3_22))
abbrev v3_24:VC:=(.seq (.seq (.ops o3_9) v3_10) v3_23)
-- K3_1: changed and kept: [7,6]
abbrev v3_25:VC:=(.loop v3_24)
abbrev v3_26:VC:=(.block 0 v3_25)
abbrev o3_27:List Ins:=[JS 79 (JL 15 5),JS 80 (Jm 6),JS 81 (Jc 5 [.t 79,.t 80])]
abbrev o3_28:List Ins:=[JS 82 (Jc 7 []),JS 4 (Jm 82)]
abbrev v3_29:VC:=(.seq (.ops o3_28) .ret)
abbrev v3_30:VC:=(.cond (.t 81) v3_29 .skip)
abbrev o3_31:List Ins:=[JS 84 (JL 15 5),JS 85 (Jc 11 [.t 84]),JS 86 (Jm 6),JS 87 (Jc 10 [.t 85,.t 86]),JS 83 (Jm 87),JS 88 (Je 83 0),JS 89 (Je 83 1),JS 90 (Je 83 2),JS 9 (.alloc [Jz 0,J0,J0,J0,J0,J0,Jz 0,Jz 0,Jz 0,Jz 0,J0,Jz 0,Jz 0,Jz 0,J0]),JS 8 (Jm 88),JN (Js 15 9 89),JS 10 (Jm 90)]
abbrev o3_32:List Ins:=[JS 91 (Jm 10),JS 92 (Jk .neq 91 0),JS 93 (Jm 92),JG 94 (Jm 8) 93 false,JG 95 (Jn 94) 93 false,JG 96 (Jm 1) 93 false,JG 97 (Jn 96) 93 false,JG 98 (Jb .neq 95 97) 93 false,JS 99 (Jo 93 98),JS 100 (Jm 99),JG 101 (JL 15 9) 100 false,JG 102 (Jc 6 [.t 101]) 100 false,JG 103 (Jk .neq 102 0) 100 false,JS 104 (Jo 100 103)]
abbrev o3_33:List Ins:=[JS 4 (JB false)]
abbrev v3_34:VC:=(.seq (.ops o3_33) .ret)
abbrev v3_35:VC:=(.cond (.t 104) v3_34 .skip)
abbrev o3_36:List Ins:=[JS 11 (.mv (.k J0))]
abbrev o3_37:List Ins:=[JS 12 (Ji 0)]
abbrev o3_38:List Ins:=[JS 13 (Ji 0)]
abbrev o3_39:List Ins:=[JS 105 (Jm 13),JS 106 (Jm 8),JS 107 (Jn 106),JS 108 (Jb .lss 105 107)]
abbrev v3_40:VC:=(.cond (.t 108) .skip (.exit 3))
abbrev o3_41:List Ins:=[JS 111 (Jm 8),JS 112 (Jm 13),JS 113 (Ja 1 111 112),JS 114 (Jl 113),JS 115 (.prim (.sbin .neq) [.t 114,(.k (.c (.str [121,101,115])))]),JS 116 (Jm 115),JG 117 (Jm 8) 116 true,JG 118 (Jm 13) 116 true,JG 119 (Ja 1 117 118) 116 true,JG 120 (Jl 119) 116 true,JG 121 (.prim (.sbin .neq) [.t 120,(.k (.c (.str [110,111])))]) 116 true,JS 122 (Jp 116 121)]
abbrev o3_42:List Ins:=[JS 4 (JB false)]
abbrev v3_43:VC:=(.seq (.ops o3_42) .ret)
abbrev v3_44:VC:=(.cond (.t 122) v3_43 .skip)
abbrev o3_45:List Ins:=[JS 123 (Jm 8),JS 124 (Jm 13),JS 125 (Ja 1 123 124),JS 126 (Jl 125),JS 127 (.prim (.sbin .eql) [.t 126,(.k (.c (.str [121,101,115])))])]
abbrev o3_46:List Ins:=[JS 128 (Jm 11),JS 129 (Jm 1),JS 130 (Jm 13),JS 131 (Ja 1 129 130),JS 132 (Jl 131),JS 133 (.bsl 3 1 [.t 132]),JS 134 (.app 3 1 8 (.t 128) (.t 133)),JS 11 (Jm 134)]
abbrev o3_47:List Ins:=[JS 135 (Jm 1),JS 136 (Jm 13),JS 137 (Ja 1 135 136),JS 138 (Jl 137),JS 139 (Jk .lss 138 0)]
abbrev o3_48:List Ins:=[JS 140 (Jm 12),JS 141 (Jk .add 140 1),JS 12 (Jm 141)]
abbrev v3_49:VC:=(.cond (.t 139) (.ops o3_48) .skip)
abbrev v3_50:VC:=(.seq (.ops o3_47) v3_49)
abbrev v3_51:VC:=(.seq (.ops o3_46) v3_50)
abbrev v3_52:VC:=(.cond (.t 127) v3_51 .skip)
abbrev v3_53:VC:=(.seq (.ops o3_45) v3_52)
abbrev v3_54:VC:=(.seq (.seq (.ops o3_41) v3_44) v3_53)
abbrev o3_55:List Ins:=[JS 109 (Jm 13),JS 110 (Jk .add 109 1),JS 13 (Jm 110)]
abbrev v3_56:VC:=(.seq (.block 4 v3_54) (.ops o3_55))
abbrev v3_57:VC:=(.seq (.seq (.ops o3_39) v3_40) v3_56)
-- K3_2: changed and kept: [13,11,12]
abbrev v3_58:VC:=(.loop v3_57)
abbrev v3_59:VC:=(.block 3 v3_58)
abbrev o3_60:List Ins:=[JS 143 (Jf 0 5),JS 144 (Jf 0 143),JS 145 (JL 3 144),JS 146 (.bld [Jz 0,Jz 0] []),JS 147 (Jm 11),JS 148 (Jc 12 [.t 145,.t 146,.t 147]),JS 142 (Jm 148),JS 149 (Je 142 0),JS 150 (Je 142 1),JS 151 (Je 142 2),JS 14 (.alloc [Jz 0,Jz 0]),JN (Js 2 14 149),JS 15 (Jm 150),JS 10 (Jm 151)]
abbrev o3_61:List Ins:=[JS 152 (Jm 10),JS 153 (Jk .eql 152 0),JS 154 (Jm 153),JG 155 (JL 2 14) 154 true,JG 156 (Jf 8 9) 154 true,JG 157 (JL 2 156) 154 true,JG 158 (.seq false [(0,true),(1,true)] (.t 155) (.t 157)) 154 true,JS 159 (Jp 154 158),JS 160 (Jm 159),JG 161 (Jm 15) 160 true,JG 162 (Jm 12) 160 true,JG 163 (Jb .eql 161 162) 160 true,JS 164 (Jp 160 163),JS 165 (Jm 164),JG 166 (Jf 10 9) 165 true,JG 167 (Jf 4 166) 165 true,JG 168 (Jl 167) 165 true,JG 169 (Jn 168) 165 true,JG 170 (Jm 12) 165 true,JG 171 (Jb .eql 169 170) 165 true,JS 172 (Jp 165 171),JS 173 (Jm 172),JG 174 (Jf 0 9) 173 true,JG 175 (Jf 6 174) 173 true,JG 176 (Jl 175) 173 true,JG 177 (Jm 12) 173 true,JG 178 (Jf 1 14) 173 true,JG 179 (Jl 178) 173 true,JG 180 (Jb .add 177 179) 173 true,JG 181 (Jb .eql 176 180) 173 true,JS 182 (Jp 173 181),JS 183 (Jm 182),JG 184 (Jc 7 []) 183 true,JS 185 (Jp 183 184),JS 4 (Jm 185)]
abbrev v3_62:VC:=(.seq (.ops o3_61) .ret)
abbrev v3_63:VC:=(.seq (.ops o3_60) v3_62)
abbrev v3_64:VC:=(.seq (.seq (.ops o3_38) v3_59) v3_63)
abbrev v3_65:VC:=(.seq (.ops o3_37) v3_64)
abbrev v3_66:VC:=(.seq (.ops o3_36) v3_65)
abbrev v3_67:VC:=(.seq (.seq (.ops o3_32) v3_35) v3_66)
abbrev v3_68:VC:=(.seq (.ops o3_31) v3_67)
abbrev v3_69:VC:=(.seq (.seq (.ops o3_27) v3_30) v3_68)
abbrev v3_70:VC:=(.seq (.seq (.ops o3_8) v3_26) v3_69)
abbrev v3_71:VC:=(.seq (.ops o3_7) v3_70)
abbrev v3_72:VC:=(.seq (.ops o3_6) v3_71)
abbrev v3_73:VC:=(.seq (.ops o3_5) v3_72)
abbrev v3_74:VC:=(.seq (.seq (.ops o3_1) v3_4) v3_73)
def ir3:FC:=⟨2,186,[.t 4],(.seq (.ops o3_0) v3_74)⟩
theorem c3:compM Tryz.prog [] 3 = some ir3:=by kernel_rfl
attribute [local go_sem] Nat.reduceEqDiff Nat.reduceAdd Nat.reduceMul reduceIte Nat.reduceLeDiff Nat.reduceLT Nat.reduceBEq reduceCtorEq
theorem far5n (b:Bar):FSpec Tryz.prog 5 [b.av,.c (.raw (.slice none 0 0))] (.c (.bool (farS b []))):=FSpec.le (far5 b []) (AVles.cons (AVle.refl _) (AVles.cons (AVle.nil 1) (AVles.refl []))) (AVle.refl _)
end Go.Proofs.YtefoconkepmmgaaGreatDoor

/-
 A bar that is given a press at a time: the answers. Plain,out of the contracts of the lines.
-/
namespace Go.Proofs.YtefoconkepmmgaaGreatDoor
open Go Go.V
variable {tb:Obj}
def pressedB (b:Bar) (p:Pr):Bar:={ b with pl:=0,cr:=b.cr - 1,tray:={ b.tray with pres:=b.tray.pres ++ [p] } }
structure CanPress (b:Bar) (p:Pr):Prop where
 ok:barB b = true
 cr:b.cr ≠ 0
 side:isSide b.tray.n p.side = true
 time:isTime p.time = true
 room:b.tray.pres.length < 12
 all:∀ q ∈ b.tray.pres,q.time ≤ p.time
theorem pressed_ok {b:Bar} {p:Pr} (h:CanPress b p):barB (pressedB b p) = true:=by
 have hb:=h.ok
 have hcr:=h.cr
 unfold barB at hb ⊢
 simp only [Bool.and_eq_true,decide_eq_true_eq] at hb ⊢
 obtain ⟨h1,h2,h3,h4,h5,h6⟩:=hb
 have hro:=(bxB_ok h1).wh.ro
 refine ⟨h1,?_,Int.le_refl 0,(by show (0:Int) < b.box.wh.ro; omega),(by show (0:Int) ≤ b.cr - 1; omega),(by show b.cr - 1 ≤ 20; omega)⟩
 show Tray.ok { b.tray with pres:=b.tray.pres ++ [p] } = true
 unfold Tray.ok at h2 ⊢
 simp only [Bool.and_eq_true,decide_eq_true_eq] at h2
 have e1:Tray.okHead { b.tray with pres:=b.tray.pres ++ [p] } = true:=h2.1.1.1
 rw [e1]
 have e2:okPr b.tray.n p = true:=by unfold okPr; rw [h.side,h.time]; rfl
 have e3:Tray.n { b.tray with pres:=b.tray.pres ++ [p] } = b.tray.n:=rfl
 have hr:=h.room
 simp only [h2.1.1.2,List.length_append,List.length_cons,List.length_nil,e3,List.all_append,h2.2,List.all_cons,List.all_nil,e2,Bool.and_true,Bool.true_and,decide_eq_true_eq]
 omega
theorem press_yes {b:Bar} {p:Pr} (h:CanPress b p):chgS b (pressB b p.side p.time) = (yesS,pressedB b p):=by
 have hb:=h.ok
 have hcr:=h.cr
 unfold barB at hb
 simp only [Bool.and_eq_true,decide_eq_true_eq] at hb
 obtain ⟨h1,h2,h3,h4,h5,h6⟩:=hb
 have hwB:whB b.box.wh = true:=by
  unfold bxB at h1
  simp only [Bool.and_eq_true] at h1
  exact h1.1.1.1.1.1.1.1
 have hact:actP b.box.wh b.pl b.cr (-1) = (0,b.cr - 1):=by unfold actP; rw [if_pos rfl,if_pos (by omega)]
 have hR:runP b.box.wh b.pl b.cr [-1] = ((0,b.cr - 1,1),0):=by
  have hrb:runB b.box.wh b.pl b.cr [-1] = true:=by
   unfold runB within allB actB
   simp
   omega
  unfold runP openE
  rw [hrb,hwB,runS_one,hact]
  simp only [true_and,if_pos (show 0 < b.cr by omega),if_true]
 have hq:pressB b p.side p.time = some (pressedB b p):=by
  unfold pressB
  rw [hR,if_pos ⟨List.all_eq_true.2 fun q hq => by simpa using h.all q hq,rfl,(by simp)⟩]
  rfl
 rw [hq]
 simp only [chgS,pressed_ok h,if_true]
def lastK (b:Bar):Int:=(b.tray.pres.length:Int)
theorem last_in {b:Bar} {p:Pr}:inR (pressedB b p).tray (lastK b) = true ∧ (pressedB b p).tray.pr (lastK b) = p:=by
 constructor
 ·unfold inR within lastK pressedB
  simp only [List.length_append,List.length_cons,List.length_nil,Bool.and_eq_true,decide_eq_true_eq]
  omega
 ·unfold Tray.pr lastK pressedB
  simp
def waitP (b:Bar) (p:Pr):Int:=waitV (pressedB b p).tray (lastK b)
theorem wait_is {b:Bar} {p:Pr} (h:CanPress b p):waitR (pressedB b p).tray (lastK b) = (waitP b p,0) ∧ 0 ≤ waitP b p ∧ waitP b p ≤ 100000:=by
 have hok:=pressed_ok h
 unfold barB at hok
 simp only [Bool.and_eq_true] at hok
 have ht:=(Tray.ok_spec hok.2.1).1
 have hin:=(last_in (b:=b) (p:=p)).1
 have hz:(servedR (pressedB b p).tray (lastK b)).2.2 = 0:=by
  unfold servedR
  rw [hok.2.1,hin]; rfl
 refine ⟨?_,wait_le ht hin⟩
 unfold waitR
 rw [if_pos hz]; rfl
def ln1 (p:Pr):List UInt8:=pressS ++ 32 :: (textS p.side ++ 32 :: textS p.time)
def ln2 (b:Bar):List UInt8:=waitS ++ 32 :: textS (lastK b)
def ln3 (x:Int):List UInt8:=atS ++ 32 :: textS x
theorem press_bounds {b:Bar} {p:Pr} (h:CanPress b p):0 ≤ p.side ∧ p.side ≤ 11 ∧ 0 ≤ p.time ∧ p.time ≤ 9999:=by
 have h1:=h.side
 have h2:=h.time
 have hok:=h.ok
 unfold barB at hok
 simp only [Bool.and_eq_true] at hok
 have hn:=(Tray.ok_spec hok.2.1).1.n6
 unfold isSide within at h1
 unfold isTime within at h2
 simp only [Bool.and_eq_true,decide_eq_true_eq] at h1 h2
 omega
theorem ans_one {n:Int} (h:0 ≤ n):ansS [n] 0 = textS n:=by
 unfold ansS
 rw [if_neg (by simp),if_neg (by simp),List.map_cons,List.map_nil,Lib.join_one,itoa_dec h]
theorem run_one {b:Bar} {p:Pr} (h:CanPress b p):(LineC tb b (ln1 p) (lineP b (ln1 p)) ∧ LineC tb (pressedB b p) (ln2 b) (lineP (pressedB b p) (ln2 b))) ∧ lineP b (ln1 p) = (yesS,pressedB b p) ∧ lineP (pressedB b p) (ln2 b) = (textS (waitP b p),pressedB b p):=by
 obtain ⟨s0,s1,t0,t1⟩:=press_bounds h
 have hr:=h.room
 have hp1:=parse2 (w:=pressS) (x:=p.side) (y:=p.time) (by unfold noSp; decide) (show wLook pressS = some ⟨2,103,78,none⟩ from rfl) rfl s0 (by omega) t0 (by omega)
 have l1:=textS_len (n:=p.side) s0 (by omega)
 have l2:=textS_len (n:=p.time) t0 (by omega)
 obtain ⟨c1,e1⟩:=lineP_press (tb:=tb) h.ok (s:=ln1 p) (by unfold ln1; simp [pressS]; omega) hp1
 have hp2:=parse1 (w:=waitS) (x:=lastK b) (by unfold noSp; decide) (show wLook waitS = some ⟨1,99,85,none⟩ from rfl) rfl (by unfold lastK; omega) (by unfold lastK; omega)
 have l3:=textS_len (n:=lastK b) (by unfold lastK; omega) (by unfold lastK; omega)
 obtain ⟨w1,w2,w3⟩:=wait_is h
 obtain ⟨c2,e2⟩:=lineP_wait (tb:=tb) (pressed_ok h) (s:=ln2 b) (by unfold ln2; simp [waitS]; omega) hp2 (by rw [w1]; unfold i64; simp only; omega)
 refine ⟨⟨c1,c2⟩,e1.trans (press_yes h),?_⟩
 rw [e2,w1,ans_one w2]
def spP (b:Bar) (p:Pr):Sp:=standV (pressedB b p).tray (p.time + waitP b p)
def ans3 (b:Bar) (p:Pr):List UInt8:=Lib.itoa (spP b p).at_ ++ 32 :: (Lib.itoa (spP b p).way ++ 32 :: Lib.itoa (spP b p).side)
theorem sp_is {b:Bar} {p:Pr} (h:CanPress b p):(spP b p).side = p.side ∧ (spP b p).at_ = p.side.tdiv 2 ∧ -1 ≤ (spP b p).way ∧ (spP b p).way ≤ 1:=by
 have hok:=pressed_ok h
 unfold barB at hok
 simp only [Bool.and_eq_true] at hok
 have ht:=(Tray.ok_spec hok.2.1).1
 obtain ⟨hin,hpr⟩:=last_in (b:=b) (p:=p)
 obtain ⟨h1,h2,up,h3⟩:=wait_shown ht hin
 rw [hpr] at h1 h2 h3
 refine ⟨h1,h2,?_⟩
 have:(spP b p).way = wayI up:=h3
 rw [this]
 unfold wayI
 split <;> omega
theorem run_two {b:Bar} {p:Pr} (h:CanPress b p) (hx:p.time + waitP b p ≤ 9999):LineC tb (pressedB b p) (ln3 (p.time + waitP b p)) (lineP (pressedB b p) (ln3 (p.time + waitP b p))) ∧ lineP (pressedB b p) (ln3 (p.time + waitP b p)) = (ans3 b p,pressedB b p):=by
 obtain ⟨s0,s1,t0,t1⟩:=press_bounds h
 obtain ⟨w1,w2,w3⟩:=wait_is h
 obtain ⟨p1,p2,p3,p4⟩:=sp_is h
 have hok:=pressed_ok h
 have hok2:=hok
 unfold barB at hok2
 simp only [Bool.and_eq_true] at hok2
 have hst:standR (pressedB b p).tray (p.time + waitP b p) = (spP b p,0):=by
  unfold standR
  rw [hok2.2.1]
  have:isTime (p.time + waitP b p) = true:=by unfold isTime within; simp only [Bool.and_eq_true,decide_eq_true_eq]; omega
  rw [this]; rfl
 have hp3:=parse1 (w:=atS) (x:=p.time + waitP b p) (by unfold noSp; decide) (show wLook atS = some ⟨1,99,89,none⟩ from rfl) rfl (by omega) (by omega)
 have l3:=textS_len (n:=p.time + waitP b p) (by omega) (by omega)
 have hd:0 ≤ p.side.tdiv 2 ∧ p.side.tdiv 2 ≤ 11:=by rw [Int.tdiv_eq_ediv_of_nonneg s0]; omega
 obtain ⟨c1,e1⟩:=lineP_at (tb:=tb) hok (s:=ln3 (p.time + waitP b p)) (by unfold ln3; simp [atS]; omega) hp3 (by rw [hst]; unfold i64; simp only; omega) (by rw [hst]; unfold i64; simp only; omega) (by rw [hst]; unfold i64; simp only; omega)
 refine ⟨c1,e1.trans ?_⟩
 rw [hst]
 unfold ansS ans3
 rw [if_neg (by simp),if_neg (by simp)]
 simp [Lib.join_cons,Lib.joinTail]
theorem ans3_len {b:Bar} {p:Pr} (h:CanPress b p):(ans3 b p).length ≤ 100:=by
 obtain ⟨s0,s1,t0,t1⟩:=press_bounds h
 obtain ⟨p1,p2,p3,p4⟩:=sp_is h
 have hd:0 ≤ p.side.tdiv 2 ∧ p.side.tdiv 2 ≤ 11:=by rw [Int.tdiv_eq_ediv_of_nonneg s0]; omega
 have a1:=Lib.itoa_length_le (spP b p).at_ (by omega) (by omega)
 have a2:=Lib.itoa_length_le (spP b p).way (by omega) (by omega)
 have a3:=Lib.itoa_length_le (spP b p).side (by omega) (by omega)
 unfold ans3
 simp
 omega
theorem ans3_cut {b:Bar} {p:Pr} (h:CanPress b p):cutL (ans3 b p) = [textS (p.side.tdiv 2),Lib.itoa (spP b p).way,textS p.side]:=by
 obtain ⟨s0,s1,t0,t1⟩:=press_bounds h
 obtain ⟨p1,p2,p3,p4⟩:=sp_is h
 have hd:0 ≤ p.side.tdiv 2 ∧ p.side.tdiv 2 ≤ 11:=by rw [Int.tdiv_eq_ediv_of_nonneg s0]; omega
 unfold ans3
 rw [cut_two (itoa_noSp _),cut_two (itoa_noSp _),cut_one (itoa_noSp _),p1,p2,itoa_dec hd.1,itoa_dec s0]
end Go.Proofs.YtefoconkepmmgaaGreatDoor

namespace Go.Proofs.YtefoconkepmmgaaGreatDoor
open Go Go.V
variable {tb:Obj}
abbrev o4_0:List Ins:=[JS 2 (.box 15 (.t 0)),JS 3 (.box 2 (.t 1)),JS 4 (JB false)]
abbrev o4_1:List Ins:=[JS 15 (JL 15 2),JS 16 (Jc 5 [.t 15,(.k J0)]),JS 17 (Jm 16),JG 18 (JL 15 2) 17 false,JG 19 (Jc 6 [.t 18]) 17 false,JG 20 (Jk .neq 19 0) 17 false,JS 21 (Jo 17 20),JS 22 (Jm 21),JG 23 (Jf 8 2) 22 false,JG 24 (Jf 1 23) 22 false,JG 25 (Jl 24) 22 false,JG 26 (Jk .eql 25 0) 22 false,JS 27 (Jo 22 26),JS 28 (Jm 27),JG 29 (Jf 10 2) 28 false,JG 30 (JL 5 29) 28 false,JG 31 (Jf 0 3) 28 false,JG 32 (Jl 31) 28 false,JG 33 (Jc 13 [.t 30,.t 32]) 28 false,JG 34 (.un .not (.t 33)) 28 false,JS 35 (Jo 28 34),JS 36 (Jm 35),JG 37 (Jf 1 3) 36 false,JG 38 (Jl 37) 36 false,JG 39 (Jc 14 [.t 38]) 36 false,JG 40 (.un .not (.t 39)) 36 false,JS 41 (Jo 36 40),JS 42 (Jm 41),JG 43 (Jf 10 2) 42 false,JG 44 (Jf 4 43) 42 false,JG 45 (Jl 44) 42 false,JG 46 (Jn 45) 42 false,JG 47 (Jk .geq 46 12) 42 false,JS 48 (Jo 42 47)]
abbrev o4_2:List Ins:=[JS 49 (Jc 7 []),JS 4 (Jm 49)]
abbrev v4_3:VC:=(.seq (.ops o4_2) .ret)
abbrev v4_4:VC:=(.cond (.t 48) v4_3 .skip)
abbrev o4_5:List Ins:=[JS 5 (Ji 0)]
abbrev o4_6:List Ins:=[JS 50 (Jm 5),JS 51 (Jf 10 2),JS 52 (Jf 4 51),JS 53 (Jl 52),JS 54 (Jn 53),JS 55 (Jb .lss 50 54)]
abbrev v4_7:VC:=(.cond (.t 55) .skip (.exit 0))
abbrev o4_8:List Ins:=[JF 58 (Jf 10 2),JF 59 (Jf 4 58),JF 60 (Jl 59),JF 61 (Jm 5),JF 62 (Ja 2 60 61),JF 63 (Jf 1 62),JF 64 (Jl 63),JF 65 (Jf 1 3),JF 66 (Jl 65),JS 67 (Jb .gtr 64 66)]
abbrev o4_9:List Ins:=[JS 68 (Jc 7 []),JS 4 (Jm 68)]
abbrev v4_10:VC:=(.seq (.ops o4_9) .ret)
abbrev v4_11:VC:=(.cond (.t 67) v4_10 .skip)
abbrev v4_12:VC:=(.seq (.dops o4_8) v4_11)
abbrev o4_13:List Ins:=[JS 56 (Jm 5),JS 57 (Jk .add 56 1),JS 5 (Jm 57)]
abbrev v4_14:VC:=(.seq (.block 1 v4_12) (.ops o4_13))
abbrev v4_15:VC:=(.seq (.seq (.ops o4_6) v4_7) v4_14)
-- K4_1: changed and kept: [5]
abbrev v4_16:VC:=(.loop v4_15)
abbrev v4_17:VC:=(.block 0 v4_16)
abbrev o4_18:List Ins:=[JS 6 (.mv (.k (.fn 9 [])))]
abbrev t4_19:OT:=(.cons (JF 70 (JL 15 2)) (.cons (JF 72 (Jm 6)) (.cons (JF 73 (Jf 0 3)) (.cons (JF 74 (Jl 73)) (.cons (JF 78 (Jm 6)) (.cons (JF 79 (Jf 1 3)) (.cons (JF 80 (Jl 79)) (.cons (JF 83 (Jm 6)) (.cons (JF 84 (Jf 10 2)) (.cons (JF 85 (Jf 4 84)) (.cons (JF 86 (Jl 85)) (.cons (JF 87 (Jn 86)) (.br [(.cons (JF 71 (Jc 11 [.t 70])) (.br [(.cons (JF 75 (.call (.t 72) [.t 74])) (.cons (JF 76 (.prim (.sbin .add) [(.k (.c (.str [112,114,101,115,115,32]))),.t 75])) (.cons (JF 77 (.prim (.sbin .add) [.t 76,(.k (.c (.str [32])))])) (.br [(.cons (JF 81 (.call (.t 78) [.t 80])) (.cons (JF 82 (.prim (.sbin .add) [.t 77,.t 81])) (.br [(.cons (JF 88 (.call (.t 83) [.t 87])) (.cons (JF 89 (.prim (.sbin .add) [(.k (.c (.str [119,97,105,116,32]))),.t 88])) (.br [(.cons (JF 90 (.bsl 9 1 [.t 82,.t 89])) (.br [(.cons (JS 91 (Jc 10 [.t 71,.t 90])) (.cons (JF 69 (Jm 91)) (.cons (JF 92 (Je 69 0)) (.cons (JF 93 (Je 69 1)) (.cons (JF 94 (Je 69 2)) (.cons (JF 8 (.alloc [Jz 0,J0,J0,J0,J0,J0,Jz 0,Jz 0,Jz 0,Jz 0,J0,Jz 0,Jz 0,Jz 0,J0])) (.cons (JF 7 (Jm 92)) (.cons (JE (Js 15 8 93)) (.cons (JS 9 (Jm 94)) .nil))))))))),(.cons (JF 8 (.alloc [Jz 0,J0,J0,J0,J0,J0,Jz 0,Jz 0,Jz 0,Jz 0,J0,Jz 0,Jz 0,Jz 0,J0])) (.cons (JS 91 (Jc 10 [.t 71,.t 90])) (.cons (JF 69 (Jm 91)) (.cons (JF 92 (Je 69 0)) (.cons (JF 93 (Je 69 1)) (.cons (JF 94 (Je 69 2)) (.cons (JF 7 (Jm 92)) (.cons (JE (Js 15 8 93)) (.cons (JS 9 (Jm 94)) .nil)))))))))])),(.cons (JF 8 (.alloc [Jz 0,J0,J0,J0,J0,J0,Jz 0,Jz 0,Jz 0,Jz 0,J0,Jz 0,Jz 0,Jz 0,J0])) (.cons (JF 90 (.bsl 9 1 [.t 82,.t 89])) (.cons (JS 91 (Jc 10 [.t 71,.t 90])) (.cons (JF 69 (Jm 91)) (.cons (JF 92 (Je 69 0)) (.cons (JF 93 (Je 69 1)) (.cons (JF 94 (Je 69 2)) (.cons (JF 7 (Jm 92)) (.cons (JE (Js 15 8 93)) (.cons (JS 9 (Jm 94)) .nil))))))))))]))),(.cons (JF 8 (.alloc [Jz 0,J0,J0,J0,J0,J0,Jz 0,Jz 0,Jz 0,Jz 0,J0,Jz 0,Jz 0,Jz 0,J0])) (.cons (JF 88 (.call (.t 83) [.t 87])) (.cons (JF 89 (.prim (.sbin .add) [(.k (.c (.str [119,97,105,116,32]))),.t 88])) (.cons (JF 90 (.bsl 9 1 [.t 82,.t 89])) (.cons (JS 91 (Jc 10 [.t 71,.t 90])) (.cons (JF 69 (Jm 91)) (.cons (JF 92 (Je 69 0)) (.cons (JF 93 (Je 69 1)) (.cons (JF 94 (Je 69 2)) (.cons (JF 7 (Jm 92)) (.cons (JE (Js 15 8 93)) (.cons (JS 9 (Jm 94)) .nil))))))))))))]))),(.cons (JF 8 (.alloc [Jz 0,J0,J0,J0,J0,J0,Jz 0,Jz 0,Jz 0,Jz 0,J0,Jz 0,Jz 0,Jz 0,J0])) (.cons (JF 81 (.call (.t 78) [.t 80])) (.cons (JF 82 (.prim (.sbin .add) [.t 77,.t 81])) (.cons (JF 88 (.call (.t 83) [.t 87])) (.cons (JF 89 (.prim (.sbin .add) [(.k (.c (.str [119,97,105,116,32]))),.t 88])) (.cons (JF 90 (.bsl 9 1 [.t 82,.t 89])) (.cons (JS 91 (Jc 10 [.t 71,.t 90])) (.cons (JF 69 (Jm 91)) (.cons (JF 92 (Je 69 0)) (.cons (JF 93 (Je 69 1)) (.cons (JF 94 (Je 69 2)) (.cons (JF 7 (Jm 92)) (.cons (JE (Js 15 8 93)) (.cons (JS 9 (Jm 94)) .nil))))))))))))))])))),(.cons (JF 8 (.alloc [Jz 0,J0,J0,J0,J0,J0,Jz 0,Jz 0,Jz 0,Jz 0,J0,Jz 0,Jz 0,Jz 0,J0])) (.cons (JF 75 (.call (.t 72) [.t 74])) (.cons (JF 76 (.prim (.sbin .add) [(.k (.c (.str [112,114,101,115,115,32]))),.t 75])) (.cons (JF 77 (.prim (.sbin .add) [.t 76,(.k (.c (.str [32])))])) (.cons (JF 81 (.call (.t 78) [.t 80])) (.cons (JF 82 (.prim (.sbin .add) [.t 77,.t 81])) (.cons (JF 88 (.call (.t 83) [.t 87])) (.cons (JF 89 (.prim (.sbin .add) [(.k (.c (.str [119,97,105,116,32]))),.t 88])) (.cons (JF 90 (.bsl 9 1 [.t 82,.t 89])) (.cons (JS 91 (Jc 10 [.t 71,.t 90])) (.cons (JF 69 (Jm 91)) (.cons (JF 92 (Je 69 0)) (.cons (JF 93 (Je 69 1)) (.cons (JF 94 (Je 69 2)) (.cons (JF 7 (Jm 92)) (.cons (JE (Js 15 8 93)) (.cons (JS 9 (Jm 94)) .nil)))))))))))))))))])),(.cons (JF 8 (.alloc [Jz 0,J0,J0,J0,J0,J0,Jz 0,Jz 0,Jz 0,Jz 0,J0,Jz 0,Jz 0,Jz 0,J0])) (.cons (JF 71 (Jc 11 [.t 70])) (.cons (JF 75 (.call (.t 72) [.t 74])) (.cons (JF 76 (.prim (.sbin .add) [(.k (.c (.str [112,114,101,115,115,32]))),.t 75])) (.cons (JF 77 (.prim (.sbin .add) [.t 76,(.k (.c (.str [32])))])) (.cons (JF 81 (.call (.t 78) [.t 80])) (.cons (JF 82 (.prim (.sbin .add) [.t 77,.t 81])) (.cons (JF 88 (.call (.t 83) [.t 87])) (.cons (JF 89 (.prim (.sbin .add) [(.k (.c (.str [119,97,105,116,32]))),.t 88])) (.cons (JF 90 (.bsl 9 1 [.t 82,.t 89])) (.cons (JS 91 (Jc 10 [.t 71,.t 90])) (.cons (JF 69 (Jm 91)) (.cons (JF 92 (Je 69 0)) (.cons (JF 93 (Je 69 1)) (.cons (JF 94 (Je 69 2)) (.cons (JF 7 (Jm 92)) (.cons (JE (Js 15 8 93)) (.cons (JS 9 (Jm 94)) .nil))))))))))))))))))])))))))))))))
abbrev o4_20:List Ins:=[JS 95 (Jm 9),JS 96 (Jk .neq 95 0),JS 97 (Jm 96),JG 98 (Jm 7) 97 false,JG 99 (Jn 98) 97 false,JG 100 (Jk .neq 99 2) 97 false,JS 101 (Jo 97 100),JS 102 (Jm 101),JG 103 (Jm 7) 102 false,JG 104 (.ia 1 (.t 103) (.k (Jz 0))) 102 false,JG 105 (Jl 104) 102 false,JG 106 (.prim (.sbin .neq) [.t 105,(.k (.c (.str [121,101,115])))]) 102 false,JS 107 (Jo 102 106),JS 108 (Jm 107),JH 109 (Jf 10 8) 108 false,JH 110 (Jf 4 109) 108 false,JH 111 (Jl 110) 108 false,JH 112 (Jn 111) 108 false,JH 113 (Jf 10 2) 108 false,JH 114 (Jf 4 113) 108 false,JH 115 (Jl 114) 108 false,JH 116 (Jn 115) 108 false,JH 117 (Jk .add 116 1) 108 false,JG 118 (Jb .neq 112 117) 108 false,JS 119 (Jo 108 118),JS 120 (Jm 119),JH 121 (Jf 10 8) 120 false,JH 122 (Jf 4 121) 120 false,JH 123 (Jl 122) 120 false,JH 124 (Jf 10 2) 120 false,JH 125 (Jf 4 124) 120 false,JH 126 (Jl 125) 120 false,JH 127 (Jn 126) 120 false,JH 128 (Ja 2 123 127) 120 false,JH 129 (JL 2 128) 120 false,JH 130 (JL 2 3) 120 false,JG 131 (.seq true [(0,true),(1,true)] (.t 129) (.t 130)) 120 false,JS 132 (Jo 120 131)]
abbrev o4_21:List Ins:=[JS 4 (JB false)]
abbrev v4_22:VC:=(.seq (.ops o4_21) .ret)
abbrev v4_23:VC:=(.cond (.t 132) v4_22 .skip)
abbrev o4_24:List Ins:=[JS 134 (Jm 7),JS 135 (.ia 1 (.t 134) (.k (Jz 1))),JS 136 (Jl 135),JS 137 (Jc 15 [.t 136]),JS 133 (Jm 137),JS 138 (Je 133 0),JS 139 (Je 133 1),JS 10 (Jm 138),JS 11 (Jm 139)]
abbrev o4_25:List Ins:=[JS 140 (Jm 11),JS 141 (.un .not (.t 140)),JS 142 (Jm 141),JG 143 (Jm 10) 142 false,JG 144 (Jk .lss 143 0) 142 false,JS 145 (Jo 142 144),JS 146 (Jm 145),JG 147 (Jm 10) 146 false,JG 148 (Jk .gtr 147 100000) 146 false,JS 149 (Jo 146 148),JS 150 (Jm 149),JG 151 (JL 15 8) 150 false,JG 152 (Jc 6 [.t 151]) 150 false,JG 153 (Jk .neq 152 0) 150 false,JS 154 (Jo 150 153)]
abbrev o4_26:List Ins:=[JS 4 (JB false)]
abbrev v4_27:VC:=(.seq (.ops o4_26) .ret)
abbrev v4_28:VC:=(.cond (.t 154) v4_27 .skip)
abbrev o4_29:List Ins:=[JS 155 (Jf 1 3),JS 156 (Jl 155),JS 157 (Jm 10),JS 158 (Jb .add 156 157),JS 159 (Jk .gtr 158 9999)]
abbrev o4_30:List Ins:=[JS 160 (Jc 7 []),JS 4 (Jm 160)]
abbrev v4_31:VC:=(.seq (.ops o4_30) .ret)
abbrev v4_32:VC:=(.cond (.t 159) v4_31 .skip)
abbrev t4_33:OT:=(.cons (JF 162 (JL 15 8)) (.cons (JF 163 (Jm 6)) (.cons (JF 164 (Jf 1 3)) (.cons (JF 165 (Jl 164)) (.cons (JF 166 (Jm 10)) (.cons (JF 167 (Jb .add 165 166)) (.br [(.cons (JF 168 (.call (.t 163) [.t 167])) (.cons (JF 169 (.prim (.sbin .add) [(.k (.c (.str [97,116,32]))),.t 168])) (.br [(.cons (JF 170 (.bsl 9 1 [.t 169])) (.br [(.cons (JS 171 (Jc 10 [.t 162,.t 170])) (.cons (JF 161 (Jm 171)) (.cons (JF 172 (Je 161 0)) (.cons (JF 173 (Je 161 1)) (.cons (JF 174 (Je 161 2)) (.cons (JF 13 (.alloc [Jz 0,J0,J0,J0,J0,J0,Jz 0,Jz 0,Jz 0,Jz 0,J0,Jz 0,Jz 0,Jz 0,J0])) (.cons (JF 12 (Jm 172)) (.cons (JE (Js 15 13 173)) (.cons (JS 9 (Jm 174)) .nil))))))))),(.cons (JF 13 (.alloc [Jz 0,J0,J0,J0,J0,J0,Jz 0,Jz 0,Jz 0,Jz 0,J0,Jz 0,Jz 0,Jz 0,J0])) (.cons (JS 171 (Jc 10 [.t 162,.t 170])) (.cons (JF 161 (Jm 171)) (.cons (JF 172 (Je 161 0)) (.cons (JF 173 (Je 161 1)) (.cons (JF 174 (Je 161 2)) (.cons (JF 12 (Jm 172)) (.cons (JE (Js 15 13 173)) (.cons (JS 9 (Jm 174)) .nil)))))))))])),(.cons (JF 13 (.alloc [Jz 0,J0,J0,J0,J0,J0,Jz 0,Jz 0,Jz 0,Jz 0,J0,Jz 0,Jz 0,Jz 0,J0])) (.cons (JF 170 (.bsl 9 1 [.t 169])) (.cons (JS 171 (Jc 10 [.t 162,.t 170])) (.cons (JF 161 (Jm 171)) (.cons (JF 172 (Je 161 0)) (.cons (JF 173 (Je 161 1)) (.cons (JF 174 (Je 161 2)) (.cons (JF 12 (Jm 172)) (.cons (JE (Js 15 13 173)) (.cons (JS 9 (Jm 174)) .nil))))))))))]))),(.cons (JF 13 (.alloc [Jz 0,J0,J0,J0,J0,J0,Jz 0,Jz 0,Jz 0,Jz 0,J0,Jz 0,Jz 0,Jz 0,J0])) (.cons (JF 168 (.call (.t 163) [.t 167])) (.cons (JF 169 (.prim (.sbin .add) [(.k (.c (.str [97,116,32]))),.t 168])) (.cons (JF 170 (.bsl 9 1 [.t 169])) (.cons (JS 171 (Jc 10 [.t 162,.t 170])) (.cons (JF 161 (Jm 171)) (.cons (JF 172 (Je 161 0)) (.cons (JF 173 (Je 161 1)) (.cons (JF 174 (Je 161 2)) (.cons (JF 12 (Jm 172)) (.cons (JE (Js 15 13 173)) (.cons (JS 9 (Jm 174)) .nil))))))))))))])))))))
abbrev o4_34:List Ins:=[JS 175 (Jm 9),JS 176 (Jk .neq 175 0),JS 177 (Jm 176),JG 178 (Jm 12) 177 false,JG 179 (Jn 178) 177 false,JG 180 (Jk .neq 179 1) 177 false,JS 181 (Jo 177 180),JS 182 (Jm 181),JG 183 (Jm 12) 182 false,JG 184 (.ia 1 (.t 183) (.k (Jz 0))) 182 false,JG 185 (Jl 184) 182 false,JG 186 (.prim .slen [.t 185]) 182 false,JG 187 (Jk .gtr 186 100) 182 false,JS 188 (Jo 182 187)]
abbrev o4_35:List Ins:=[JS 4 (JB false)]
abbrev v4_36:VC:=(.seq (.ops o4_35) .ret)
abbrev v4_37:VC:=(.cond (.t 188) v4_36 .skip)
abbrev o4_38:List Ins:=[JS 189 (Jm 12),JS 190 (.ia 1 (.t 189) (.k (Jz 0))),JS 191 (Jl 190),JS 192 (Jc 16 [.t 191]),JS 14 (Jm 192)]
abbrev o4_39:List Ins:=[JS 193 (Jm 14),JS 194 (Jn 193),JS 195 (Jk .eql 194 3),JS 196 (Jm 195),JH 197 (Jm 14) 196 true,JH 198 (.ia 1 (.t 197) (.k (Jz 2))) 196 true,JH 199 (Jl 198) 196 true,JH 200 (Jm 6) 196 true,JH 201 (Jf 0 3) 196 true,JH 202 (Jl 201) 196 true,JH 203 (.call (.t 200) [.t 202]) 196 true,JG 204 (.prim (.sbin .eql) [.t 199,.t 203]) 196 true,JS 205 (Jp 196 204),JS 206 (Jm 205),JH 207 (Jm 14) 206 true,JH 208 (.ia 1 (.t 207) (.k (Jz 0))) 206 true,JH 209 (Jl 208) 206 true,JH 210 (Jm 6) 206 true,JH 211 (Jf 0 3) 206 true,JH 212 (Jl 211) 206 true,JH 213 (Jk .quo 212 2) 206 true,JH 214 (.call (.t 210) [.t 213]) 206 true,JG 215 (.prim (.sbin .eql) [.t 209,.t 214]) 206 true,JS 216 (Jp 206 215),JS 217 (Jm 216),JG 218 (Jc 7 []) 217 true,JS 219 (Jp 217 218),JS 4 (Jm 219)]
abbrev v4_40:VC:=(.seq (.dops o4_39) .ret)
abbrev v4_41:VC:=(.seq (.ops o4_38) v4_40)
abbrev v4_42:VC:=(.seq (.seq (.ops o4_34) v4_37) v4_41)
abbrev v4_43:VC:=(.seq (.drw t4_33) v4_42)
abbrev v4_44:VC:=(.seq (.seq (.ops o4_29) v4_32) v4_43)
abbrev v4_45:VC:=(.seq (.seq (.ops o4_25) v4_28) v4_44)
abbrev v4_46:VC:=(.seq (.ops o4_24) v4_45)
abbrev v4_47:VC:=(.seq (.seq (.dops o4_20) v4_23) v4_46)
abbrev v4_48:VC:=(.seq (.drw t4_19) v4_47)
abbrev v4_49:VC:=(.seq (.ops o4_18) v4_48)
abbrev v4_50:VC:=(.seq (.seq (.ops o4_5) v4_17) v4_49)
abbrev v4_51:VC:=(.seq (.seq (.ops o4_1) v4_4) v4_50)
def ir4:FC:=⟨2,220,[.t 4],(.seq (.ops o4_0) v4_51)⟩
theorem c4:compM Tryz.prog [91,171] 4 = some ir4:=by kernel_rfl
attribute [local go_sem] Nat.reduceEqDiff Nat.reduceAdd Nat.reduceMul reduceIte Nat.reduceLeDiff Nat.reduceLT Nat.reduceBEq reduceCtorEq
set_option maxRecDepth 100000 in
set_option maxHeartbeats 8000000 in
theorem played4 (b:Bar) (p:Pr):FSpecL Tryz.prog 4 [b.av,prAv p] [(tabO tb)] [] (fun r l' => r = .c (.bool true) ∧ l' = [(tabO tb)]):=by
 have hm:maxLen = 9223372036854775807:=rfl
 have hf:=far5n b
 have hc:=rcheck6 b
 simp only [Bar.av,Bar.avs] at hf hc
 refine FSpecL_of c4 (by first | simp | exact Nat.le_of_ble_eq_true rfl) (Nat.le_refl _) (by decide) (by decide) fun C hP hN hC hL => ?_; rw [init_env',ownW_upd (by first | simp | exact Nat.le_of_ble_eq_true rfl)]; simp only [ir4,updL,updLo,List.map_nil,List.map_cons,Nat.reduceAdd,]
 simp only [Bar.av,Bar.avs,prAv]
 (repeat ((first | refine Va ?_ | refine Vb ?_ | refine Vc ?_ | refine Vd ?_ | refine Ve ?_ | refine Vf ?_); (try simp only [go_sem,hP,prsC,List.length_map]); (repeat refine qJ ?_)))
 (refine AS_pu (hf) ?_; simp only [go_sem,hP,prsC,List.length_map]; (repeat refine qJ ?_); (repeat ((first | refine Va ?_ | refine Vb ?_ | refine Vc ?_ | refine Vd ?_ | refine Ve ?_ | refine Vf ?_); (try simp only [go_sem,hP,prsC,List.length_map]); (repeat refine qJ ?_))))
 cases hfar:farS b [] with
 | true =>
  (refine AG_skip ?_; simp only [go_sem,hP,prsC,List.length_map]; (repeat refine qJ ?_); (repeat ((first | refine Va ?_ | refine Vb ?_ | refine Vc ?_ | refine Vd ?_ | refine Ve ?_ | refine Vf ?_); (try simp only [go_sem,hP,prsC,List.length_map]); (repeat refine qJ ?_))))
  (refine AG_skip ?_; simp only [go_sem,hP,prsC,List.length_map]; (repeat refine qJ ?_); (repeat ((first | refine Va ?_ | refine Vb ?_ | refine Vc ?_ | refine Vd ?_ | refine Ve ?_ | refine Vf ?_); (try simp only [go_sem,hP,prsC,List.length_map]); (repeat refine qJ ?_))))
  (refine AG_skip ?_; simp only [go_sem,hP,prsC,List.length_map]; (repeat refine qJ ?_); (repeat ((first | refine Va ?_ | refine Vb ?_ | refine Vc ?_ | refine Vd ?_ | refine Ve ?_ | refine Vf ?_); (try simp only [go_sem,hP,prsC,List.length_map]); (repeat refine qJ ?_))))
  (refine WV_cond rfl (fun h => ?_) (fun h => ?_))
  ·(repeat ((first | refine Va ?_ | refine Vb ?_ | refine Vc ?_ | refine Vd ?_ | refine Ve ?_ | refine Vf ?_); (try simp only [go_sem,hP]); (repeat refine qJ ?_)))
   (refine AS_lend [1000] (kept7 (tb:=tb)) rfl rfl rfl (by decide) rfl rfl ?_; intro r l' hh; obtain ⟨rfl,rfl⟩:=hh; refine ⟨_,_,rfl,rfl,?_⟩; simp only [go_sem,hP,ownBack]; (repeat refine qJ ?_); (repeat ((first | refine Va ?_ | refine Vb ?_ | refine Vc ?_ | refine Vd ?_ | refine Ve ?_ | refine Vf ?_); (try simp only [go_sem,hP]); (repeat refine qJ ?_))); (refine WV_ret ?_; simp only [thenQ,inQ,RetQL,RetOkL,resAll,resA]; simp only [go_sem,tupA,AV.keepP,AV.keepPL]; refine ⟨_,[(tabO tb)],rfl,KeepL_mk rfl rfl ?_ ?_ rfl,?_⟩); (all_goals (first | exact ⟨rfl,rfl⟩ | trivial | (simp only [go_sem,keepAll,Ob.keepP,AV.keepP,AV.keepPL]; done))))
  ·cases h
 | false =>
 (refine AG_pu (fun hG => hc) ?_; simp only [go_sem,hP,prsC,List.length_map]; (repeat refine qJ ?_); (repeat ((first | refine Va ?_ | refine Vb ?_ | refine Vc ?_ | refine Vd ?_ | refine Ve ?_ | refine Vf ?_); (try simp only [go_sem,hP,prsC,List.length_map]); (repeat refine qJ ?_))))
 unfold barE
 cases hB:barB b with
 | false =>
  (refine AG_skip ?_; simp only [go_sem,hP,prsC,List.length_map]; (repeat refine qJ ?_); (repeat ((first | refine Va ?_ | refine Vb ?_ | refine Vc ?_ | refine Vd ?_ | refine Ve ?_ | refine Vf ?_); (try simp only [go_sem,hP,prsC,List.length_map]); (repeat refine qJ ?_))))
  (refine AG_skip ?_; simp only [go_sem,hP,prsC,List.length_map]; (repeat refine qJ ?_); (repeat ((first | refine Va ?_ | refine Vb ?_ | refine Vc ?_ | refine Vd ?_ | refine Ve ?_ | refine Vf ?_); (try simp only [go_sem,hP,prsC,List.length_map]); (repeat refine qJ ?_))))
  (refine WV_cond rfl (fun h => ?_) (fun h => ?_))
  ·(repeat ((first | refine Va ?_ | refine Vb ?_ | refine Vc ?_ | refine Vd ?_ | refine Ve ?_ | refine Vf ?_); (try simp only [go_sem,hP]); (repeat refine qJ ?_)))
   (refine AS_lend [1000] (kept7 (tb:=tb)) rfl rfl rfl (by decide) rfl rfl ?_; intro r l' hh; obtain ⟨rfl,rfl⟩:=hh; refine ⟨_,_,rfl,rfl,?_⟩; simp only [go_sem,hP,ownBack]; (repeat refine qJ ?_); (repeat ((first | refine Va ?_ | refine Vb ?_ | refine Vc ?_ | refine Vd ?_ | refine Ve ?_ | refine Vf ?_); (try simp only [go_sem,hP]); (repeat refine qJ ?_))); (refine WV_ret ?_; simp only [thenQ,inQ,RetQL,RetOkL,resAll,resA]; simp only [go_sem,tupA,AV.keepP,AV.keepPL]; refine ⟨_,[(tabO tb)],rfl,KeepL_mk rfl rfl ?_ ?_ rfl,?_⟩); (all_goals (first | exact ⟨rfl,rfl⟩ | trivial | (simp only [go_sem,keepAll,Ob.keepP,AV.keepP,AV.keepPL]; done))))
  ·cases h
 | true =>
 have hok:=hB
 unfold barB at hok
 simp only [Bool.and_eq_true,decide_eq_true_eq] at hok
 obtain ⟨hto,hp12⟩:=Tray.ok_spec hok.2.1
 have hn6:=hto.n6
 have hsd:=risside17 b.tray p.side (by omega)
 have htm:=ristime18 p.time
 simp only [Tray.av] at hsd
 cases hcr:(b.cr == 0) with
 | true =>
  (refine AG_skip ?_; simp only [go_sem,hP,prsC,List.length_map]; (repeat refine qJ ?_); (repeat ((first | refine Va ?_ | refine Vb ?_ | refine Vc ?_ | refine Vd ?_ | refine Ve ?_ | refine Vf ?_); (try simp only [go_sem,hP,prsC,List.length_map]); (repeat refine qJ ?_))))
  (refine AG_skip ?_; simp only [go_sem,hP,prsC,List.length_map]; (repeat refine qJ ?_); (repeat ((first | refine Va ?_ | refine Vb ?_ | refine Vc ?_ | refine Vd ?_ | refine Ve ?_ | refine Vf ?_); (try simp only [go_sem,hP,prsC,List.length_map]); (repeat refine qJ ?_))))
  (refine WV_cond rfl (fun h => ?_) (fun h => ?_))
  ·(repeat ((first | refine Va ?_ | refine Vb ?_ | refine Vc ?_ | refine Vd ?_ | refine Ve ?_ | refine Vf ?_); (try simp only [go_sem,hP]); (repeat refine qJ ?_)))
   (refine AS_lend [1000] (kept7 (tb:=tb)) rfl rfl rfl (by decide) rfl rfl ?_; intro r l' hh; obtain ⟨rfl,rfl⟩:=hh; refine ⟨_,_,rfl,rfl,?_⟩; simp only [go_sem,hP,ownBack]; (repeat refine qJ ?_); (repeat ((first | refine Va ?_ | refine Vb ?_ | refine Vc ?_ | refine Vd ?_ | refine Ve ?_ | refine Vf ?_); (try simp only [go_sem,hP]); (repeat refine qJ ?_))); (refine WV_ret ?_; simp only [thenQ,inQ,RetQL,RetOkL,resAll,resA]; simp only [go_sem,tupA,AV.keepP,AV.keepPL]; refine ⟨_,[(tabO tb)],rfl,KeepL_mk rfl rfl ?_ ?_ rfl,?_⟩); (all_goals (first | exact ⟨rfl,rfl⟩ | trivial | (simp only [go_sem,keepAll,Ob.keepP,AV.keepP,AV.keepPL]; done))))
  ·cases h
 | false =>
 (refine AG_pu (fun hG => hsd) ?_; simp only [go_sem,hP,prsC,List.length_map]; (repeat refine qJ ?_); (repeat ((first | refine Va ?_ | refine Vb ?_ | refine Vc ?_ | refine Vd ?_ | refine Ve ?_ | refine Vf ?_); (try simp only [go_sem,hP,prsC,List.length_map]); (repeat refine qJ ?_))))
 cases hs:isSide b.tray.n p.side with
 | false =>
  (refine AG_skip ?_; simp only [go_sem,hP,prsC,List.length_map]; (repeat refine qJ ?_); (repeat ((first | refine Va ?_ | refine Vb ?_ | refine Vc ?_ | refine Vd ?_ | refine Ve ?_ | refine Vf ?_); (try simp only [go_sem,hP,prsC,List.length_map]); (repeat refine qJ ?_))))
  (refine WV_cond rfl (fun h => ?_) (fun h => ?_))
  ·(repeat ((first | refine Va ?_ | refine Vb ?_ | refine Vc ?_ | refine Vd ?_ | refine Ve ?_ | refine Vf ?_); (try simp only [go_sem,hP]); (repeat refine qJ ?_)))
   (refine AS_lend [1000] (kept7 (tb:=tb)) rfl rfl rfl (by decide) rfl rfl ?_; intro r l' hh; obtain ⟨rfl,rfl⟩:=hh; refine ⟨_,_,rfl,rfl,?_⟩; simp only [go_sem,hP,ownBack]; (repeat refine qJ ?_); (repeat ((first | refine Va ?_ | refine Vb ?_ | refine Vc ?_ | refine Vd ?_ | refine Ve ?_ | refine Vf ?_); (try simp only [go_sem,hP]); (repeat refine qJ ?_))); (refine WV_ret ?_; simp only [thenQ,inQ,RetQL,RetOkL,resAll,resA]; simp only [go_sem,tupA,AV.keepP,AV.keepPL]; refine ⟨_,[(tabO tb)],rfl,KeepL_mk rfl rfl ?_ ?_ rfl,?_⟩); (all_goals (first | exact ⟨rfl,rfl⟩ | trivial | (simp only [go_sem,keepAll,Ob.keepP,AV.keepP,AV.keepPL]; done))))
  ·cases h
 | true =>
 (refine AG_pu (fun hG => htm) ?_; simp only [go_sem,hP,prsC,List.length_map]; (repeat refine qJ ?_); (repeat ((first | refine Va ?_ | refine Vb ?_ | refine Vc ?_ | refine Vd ?_ | refine Ve ?_ | refine Vf ?_); (try simp only [go_sem,hP,prsC,List.length_map]); (repeat refine qJ ?_))))
 cases ht:isTime p.time with
 | false =>
  (refine WV_cond rfl (fun h => ?_) (fun h => ?_))
  ·(repeat ((first | refine Va ?_ | refine Vb ?_ | refine Vc ?_ | refine Vd ?_ | refine Ve ?_ | refine Vf ?_); (try simp only [go_sem,hP]); (repeat refine qJ ?_)))
   (refine AS_lend [1000] (kept7 (tb:=tb)) rfl rfl rfl (by decide) rfl rfl ?_; intro r l' hh; obtain ⟨rfl,rfl⟩:=hh; refine ⟨_,_,rfl,rfl,?_⟩; simp only [go_sem,hP,ownBack]; (repeat refine qJ ?_); (repeat ((first | refine Va ?_ | refine Vb ?_ | refine Vc ?_ | refine Vd ?_ | refine Ve ?_ | refine Vf ?_); (try simp only [go_sem,hP]); (repeat refine qJ ?_))); (refine WV_ret ?_; simp only [thenQ,inQ,RetQL,RetOkL,resAll,resA]; simp only [go_sem,tupA,AV.keepP,AV.keepPL]; refine ⟨_,[(tabO tb)],rfl,KeepL_mk rfl rfl ?_ ?_ rfl,?_⟩); (all_goals (first | exact ⟨rfl,rfl⟩ | trivial | (simp only [go_sem,keepAll,Ob.keepP,AV.keepP,AV.keepPL]; done))))
  ·cases h
 | true =>
 by_cases hroom:¬ b.tray.pres.length < 12
 ·(refine WV_cond rfl (fun h => ?_) (fun h => ?_))
  ·(repeat ((first | refine Va ?_ | refine Vb ?_ | refine Vc ?_ | refine Vd ?_ | refine Ve ?_ | refine Vf ?_); (try simp only [go_sem,hP]); (repeat refine qJ ?_)))
   (refine AS_lend [1000] (kept7 (tb:=tb)) rfl rfl rfl (by decide) rfl rfl ?_; intro r l' hh; obtain ⟨rfl,rfl⟩:=hh; refine ⟨_,_,rfl,rfl,?_⟩; simp only [go_sem,hP,ownBack]; (repeat refine qJ ?_); (repeat ((first | refine Va ?_ | refine Vb ?_ | refine Vc ?_ | refine Vd ?_ | refine Ve ?_ | refine Vf ?_); (try simp only [go_sem,hP]); (repeat refine qJ ?_))); (refine WV_ret ?_; simp only [thenQ,inQ,RetQL,RetOkL,resAll,resA]; simp only [go_sem,tupA,AV.keepP,AV.keepPL]; refine ⟨_,[(tabO tb)],rfl,KeepL_mk rfl rfl ?_ ?_ rfl,?_⟩); (all_goals (first | exact ⟨rfl,rfl⟩ | trivial | (simp only [go_sem,keepAll,Ob.keepP,AV.keepP,AV.keepPL]; done))))
  ·exfalso; simp at h; omega
 have hroom:=Decidable.of_not_not hroom
 (refine WV_cond rfl (fun h => ?_) (fun h => ?_))
 ·exfalso; simp at h; omega
 clear h
 (repeat ((first | refine Va ?_ | refine Vb ?_ | refine Vc ?_ | refine Vd ?_ | refine Ve ?_ | refine Vf ?_); (try simp only [go_sem,hP,prsC,List.length_map]); (repeat refine qJ ?_)))
 refine WV_loopS (fun k:Nat => ⟨upd (upd (upd (upd e0 2 (.bp 2 0)) 3 (.bp 3 0)) 4 (.c (.bool false))) 5 (iv k),upd (upd (upd o0 1000 (tabO tb)) 2 (.box b.avs)) 3 (.box [iv p.side,iv p.time])⟩) (fun k => k ≤ b.tray.pres.length ∧ ∀ q ∈ b.tray.pres.take k,q.time ≤ p.time) (fun k => b.tray.pres.length - k) 0 ⟨Nat.zero_le _,fun q hq => by simp at hq⟩ ?_ ?_
 ·refine Sub_of (by (try simp only [go_sem]); ((repeat' (first | exact EnvLe_e0 _ _ | refine EnvLe_upd ?_ ?_)) <;> ((try simp only [upd_app,e0_app,o0_app,Nat.reduceEqDiff,reduceIte]); first | exact AWk.refl _ _ | exact AWk.int (by omega) | exact AWk.int (by rw [w64 (by omega) (by omega)]; omega) | exact AWk.grow rfl | exact AWk.nil _ | exact AWk.of (by rfl)))) (by unfold Bar.avs; (try simp only [go_sem]); exact ObjLe_au)
 rintro k ⟨hk,hr⟩
 unfold Bar.avs
 (repeat ((first | refine Va ?_ | refine Vb ?_ | refine Vc ?_ | refine Vd ?_ | refine Ve ?_ | refine Vf ?_); (try simp only [go_sem,hP,prsC,List.length_map]); (repeat refine qJ ?_)))
 (refine WV_cond rfl (fun h => ?_) (fun h => ?_))
 ·have hi:k < b.tray.pres.length:=by simpa using h
  clear h
  obtain ⟨q,hq⟩ : ∃ q,q = b.tray.pres[k]:=⟨_,rfl⟩
  have hg:(b.tray.pres.map Pr.cds).getD k [] = q.cds:=by rw [map_getD hi,hq]
  have hw0:=w64 (n:=(k:Int) + 1) (by omega) (by omega)
  (repeat ((first | refine Va ?_ | refine Vb ?_ | refine Vc ?_ | refine Vd ?_ | refine Ve ?_ | refine Vf ?_); (try simp only [go_sem,hP,hg,Pr.cds,List.length_map,Int.toNat_natCast]); (repeat refine qJ ?_)))
  by_cases hle:q.time ≤ p.time
  ·(refine WV_cond rfl (fun h => ?_) (fun h => ?_))
   ·exfalso; simp at h; omega
   ·(repeat ((first | refine Va ?_ | refine Vb ?_ | refine Vc ?_ | refine Vd ?_ | refine Ve ?_ | refine Vf ?_); (try simp only [go_sem,hP,hw0]); (repeat refine qJ ?_)))
    refine ⟨k + 1,⟨by omega,fun x hx => ?_⟩,by omega,?_⟩
    ·rw [List.take_succ_eq_append_getElem hi,List.mem_append] at hx
     rcases hx with hx | hx
     ·exact hr x hx
     ·rw [List.mem_singleton.1 hx,← hq]; exact hle
    ·refine Sub_of (by simp only [go_sem]; ((repeat' (first | exact EnvLe_e0 _ _ | refine EnvLe_upd ?_ ?_)) <;> ((try simp only [upd_app,e0_app,o0_app,Nat.reduceEqDiff,reduceIte]); first | exact AWk.refl _ _ | exact AWk.int (by omega) | exact AWk.int (by rw [w64 (by omega) (by omega)]; omega) | exact AWk.grow rfl | exact AWk.nil _ | exact AWk.of (by rfl)))) (by simp only [go_sem]; exact ObjLe_au)
  ·(refine WV_cond rfl (fun h => ?_) (fun h => ?_))
   ·(repeat ((first | refine Va ?_ | refine Vb ?_ | refine Vc ?_ | refine Vd ?_ | refine Ve ?_ | refine Vf ?_); (try simp only [go_sem,hP]); (repeat refine qJ ?_)))
    (refine AS_lend [1000] (kept7 (tb:=tb)) rfl rfl rfl (by decide) rfl rfl ?_; intro r l' hh; obtain ⟨rfl,rfl⟩:=hh; refine ⟨_,_,rfl,rfl,?_⟩; simp only [go_sem,hP,ownBack]; (repeat refine qJ ?_); (repeat ((first | refine Va ?_ | refine Vb ?_ | refine Vc ?_ | refine Vd ?_ | refine Ve ?_ | refine Vf ?_); (try simp only [go_sem,hP]); (repeat refine qJ ?_))); (refine WV_ret ?_; simp only [thenQ,inQ,RetQL,RetOkL,resAll,resA]; simp only [go_sem,tupA,AV.keepP,AV.keepPL]; refine ⟨_,[(tabO tb)],rfl,KeepL_mk rfl rfl ?_ ?_ rfl,?_⟩); (all_goals (first | exact ⟨rfl,rfl⟩ | trivial | (simp only [go_sem,keepAll,Ob.keepP,AV.keepP,AV.keepPL]; done))))
   ·exfalso; simp at h; omega
 ·have hkl:k = b.tray.pres.length:=by
   have:¬ (k < b.tray.pres.length):=by simpa using h
   omega
  subst hkl
  rw [List.take_length] at hr
  have hcan:CanPress b p:=⟨hB,by simpa using hcr,hs,ht,hroom,hr⟩
  (repeat ((first | refine Va ?_ | refine Vb ?_ | refine Vc ?_ | refine Vd ?_ | refine Ve ?_ | refine Vf ?_); (try simp only [go_sem,hP]); (repeat refine qJ ?_)))
  obtain ⟨s0,s1,t0,t1⟩:=press_bounds hcan
  have hcp:=copy11 (barLn hB)
  have hx1:=text9 (n:=p.side) s0 (by omega)
  have hx2:=text9 (n:=p.time) t0 (by omega)
  have hx3:=text9 (n:=(b.tray.pres.length:Int)) (by omega) (by omega)
  have l1:=textS_len (n:=p.side) s0 (by omega)
  have l2:=textS_len (n:=p.time) t0 (by omega)
  have l3:=textS_len (n:=(b.tray.pres.length:Int)) (by omega) (by omega)
  obtain ⟨⟨cl1,cl2⟩,el1,el2⟩:=run_one (tb:=tb) hcan
  have hrn:=run10 (tb:=tb) (F:=lineP) (barLn hB) hB (l:=[ln1 p,ln2 b]) (by simp) (by
   intro k hk
   have:k = 0 ∨ k = 1:=by simp at hk; omega
   have e1:(runL lineP b [ln1 p]).2 = pressedB b p:=by show (lineP b (ln1 p)).2 = _; rw [el1]
   rcases this with rfl | rfl
   ·exact cl1
   ·show LineC tb (runL lineP b [ln1 p]).2 (ln2 b) (lineP (runL lineP b [ln1 p]).2 (ln2 b))
    rw [e1]; exact cl2)
  have e3:runL lineP b [ln1 p,ln2 b] = ([yesS,textS (waitP b p)],pressedB b p):=by
   show ([(lineP b (ln1 p)).1] ++ [(lineP (lineP b (ln1 p)).2 (ln2 b)).1],(lineP (lineP b (ln1 p)).2 (ln2 b)).2) = _
   rw [el1,el2]; rfl
  have s1:ln1 p = 112 :: 114 :: 101 :: 115 :: 115 :: 32 :: (textS p.side ++ [32] ++ textS p.time):=by unfold ln1 pressS; simp
  have s2:ln2 b = 119 :: 97 :: 105 :: 116 :: 32 :: textS (b.tray.pres.length:Int):=rfl
  rw [e3,s1,s2] at hrn
  simp only [Bar.av,Bar.avs,strsC,List.map_cons,List.map_nil] at hcp hrn
  generalize textS p.side = sx at hx1 l1 hrn
  generalize textS p.time = sy at hx2 l2 hrn
  generalize textS (b.tray.pres.length:Int) = sz at hx3 l3 hrn
  have lx:(sx ++ [32]).length ≤ 11:=by rw [List.length_append]; simp; omega
  refine WV_thn (fun σ' => Sub σ' ⟨upd (upd (upd (upd (upd (upd (upd e0 2 (.bp 2 0)) 3 (.bp 3 0)) 4 (.c (.bool false))) 6 (.fn 9 [])) 7 (.c (strsC [yesS,textS (waitP b p)]))) 8 (.bp 8 0)) 9 (iv 0),upd (upd (upd (upd o0 1000 (tabO tb)) 2 (.box b.avs)) 3 (.box [iv p.side,iv p.time])) 8 (.box (pressedB b p).avs)⟩) ?_ ?_
  ·refine WV_drw ?_
   simp only [go_sem,hP,prsC,List.length_map]
   (repeat' (first | (first | refine ACall_of hcp rfl rfl rfl rfl rfl ?_ | refine ACall_of hx1 rfl rfl rfl rfl rfl ?_ | refine ACall_of hx2 rfl rfl rfl rfl rfl ?_ | refine ACall_of hx3 rfl rfl rfl rfl rfl ?_); simp only [go_sem,hP,List.length_cons,List.length_nil,List.length_append] | refine And.intro ?_ ?_))
   all_goals (first | omega | skip)
   all_goals (
    refine AS_lend [1000] hrn rfl rfl rfl (by decide) rfl rfl ?_
    rintro r l' ⟨rfl,rfl⟩
    refine ⟨_,_,rfl,rfl,?_⟩
    simp only [go_sem,hP,ownBack]
    (repeat refine qJ ?_)
    refine Sub_of (by (try simp only [go_sem]); ((repeat' (first | exact EnvLe_e0 _ _ | refine EnvLe_upd ?_ ?_)) <;> ((try simp only [upd_app,e0_app,o0_app,Nat.reduceEqDiff,reduceIte]); first | exact AWk.refl _ _ | exact AWk.int (by omega) | exact AWk.int (by rw [w64 (by omega) (by omega)]; omega) | exact AWk.grow rfl | exact AWk.nil _ | exact AWk.of (by rfl)))) (by unfold Bar.avs; (try simp only [go_sem]); exact ObjLe_au))
  ·intro σ' hsub
   refine WV_sub hsub ?_
   obtain ⟨w1,w2,w3⟩:=wait_is hcan
   have hnum:=rnumber15 (s:=textS (waitP b p)) (by have:=textS_len w2 (by omega); omega)
   obtain ⟨n1,n2⟩:=num_text w2 (by omega)
   rw [n1,n2] at hnum
   have hck2:=rcheck6 (pressedB b p)
   have hE2:barE (pressedB b p) = 0:=by unfold barE; rw [if_pos (pressed_ok hcan)]
   rw [hE2] at hck2
   simp only [Bar.av,Bar.avs] at hck2
   have q0:([[CD.str yesS],[CD.str (textS (waitP b p))]].getD (Int.toNat 0) []).getD 0 default = CD.str yesS:=rfl
   have q1:([[CD.str yesS],[CD.str (textS (waitP b p))]].getD (Int.toNat 1) []).getD 0 default = CD.str (textS (waitP b p)):=rfl
   have q2:(!(yesS == [121,101,115])) = false:=rfl
   have hpl:(b.tray.pres ++ [p]).length = b.tray.pres.length + 1:=by simp
   have hget:(b.tray.pres.map Pr.cds ++ [[CD.int .i64 p.side,CD.int .i64 p.time]]).getD b.tray.pres.length [] = [CD.int .i64 p.side,CD.int .i64 p.time]:=by
    rw [List.getD_eq_getElem?_getD,List.getElem?_append_right (by rw [List.length_map]; exact Nat.le_refl _),List.length_map,Nat.sub_self]; rfl
   have z1:((0:Int) != 0) = false:=rfl
   have z2:(((2:Nat):Int) != 2) = false:=rfl
   have wl:=w64 (n:=(b.tray.pres.length:Int) + 1) (by omega) (by omega)
   have hcast:(((b.tray.pres.length + 1:Nat):Int) != (b.tray.pres.length:Int) + 1) = false:=by simp
   have hpr:(pressedB b p).tray.pres = b.tray.pres ++ [p]:=rfl
   unfold Bar.avs
   rw [hpr] at hck2 ⊢
   generalize textS (waitP b p) = tw at hnum q0 q1
   (repeat ((first | refine Va ?_ | refine Vb ?_ | refine Vc ?_ | refine Vd ?_ | refine Ve ?_ | refine Vf ?_); (try simp only [go_sem,hP,strsC,prsC,List.map_cons,List.map_nil,List.length_cons,List.length_nil,List.length_map,q0,q2,hpl,hget,wl,hcast,Pr.cds,Int.toNat_natCast,z1,z2,List.map_append,beq_self_eq_true]); (repeat refine qJ ?_)))
   simp only [prsC,List.map_append,List.map_cons,List.map_nil,Pr.cds] at hck2
   refine WV_sub (σ':=⟨upd (upd (upd (upd (upd (upd (upd e0 2 (.bp 2 0)) 3 (.bp 3 0)) 4 (.c (.bool false))) 6 (.fn 9 [])) 7 (.c (.sl 1 [[CD.str yesS],[CD.str tw]]))) 8 (.bp 8 0)) 132 (.c (.bool false)),upd (upd (upd (upd o0 1000 (tabO tb)) 2 (.box b.avs)) 3 (.box [iv p.side,iv p.time])) 8 (.box [iv (pressedB b p).box.wh.ro,.c (ints (pressedB b p).box.wh.no),.c (ints (pressedB b p).box.wh.co),.c (ints (pressedB b p).box.fo),.c (ints (pressedB b p).box.ma),.c (ints (pressedB b p).box.sl),iv (pressedB b p).box.pl,iv (pressedB b p).box.sk,iv (pressedB b p).pl,iv (pressedB b p).cr,.c (recsC (pressedB b p).tray.recs),iv (pressedB b p).tray.at_,iv (pressedB b p).tray.way,iv (pressedB b p).tray.step,.c (.sl 2 (b.tray.pres.map Pr.cds ++ [[CD.int .i64 p.side,CD.int .i64 p.time]]))])⟩) (Sub_of (by (try simp only [go_sem]); exact EnvLe_au) (by unfold Bar.avs; (try simp only [go_sem]); exact ObjLe_au)) ?_
   (refine WV_cond rfl (fun h => ?_) (fun h => ?_))
   ·cases h
   clear h
   (repeat ((first | refine Va ?_ | refine Vb ?_ | refine Vc ?_ | refine Vd ?_ | refine Ve ?_ | refine Vf ?_); (try simp only [go_sem,hP,q1]); (repeat refine qJ ?_)))
   (refine AS_pu (hnum) ?_; simp only [go_sem,hP]; (repeat refine qJ ?_); (repeat ((first | refine Va ?_ | refine Vb ?_ | refine Vc ?_ | refine Vd ?_ | refine Ve ?_ | refine Vf ?_); (try simp only [go_sem,hP]); (repeat refine qJ ?_))))
   have z3:decide (waitP b p < 0) = false:=decide_eq_false (by omega)
   have z4:decide ((100000:Int) < waitP b p) = false:=decide_eq_false (by omega)
   (refine AG_pu (fun hG => hck2) ?_; simp only [go_sem,hP,z3,z4]; (repeat refine qJ ?_); (repeat ((first | refine Va ?_ | refine Vb ?_ | refine Vc ?_ | refine Vd ?_ | refine Ve ?_ | refine Vf ?_); (try simp only [go_sem,hP,z3,z4]); (repeat refine qJ ?_))))
   have wx:=w64 (n:=p.time + waitP b p) (by omega) (by omega)
   (refine WV_cond rfl (fun h => ?_) (fun h => ?_))
   ·exact absurd h (by decide)
   clear h
   (repeat ((first | refine Va ?_ | refine Vb ?_ | refine Vc ?_ | refine Vd ?_ | refine Ve ?_ | refine Vf ?_); (try simp only [go_sem,hP,wx]); (repeat refine qJ ?_)))
   by_cases hbig:9999 < p.time + waitP b p
   ·(refine WV_cond rfl (fun h => ?_) (fun h => ?_))
    ·(repeat ((first | refine Va ?_ | refine Vb ?_ | refine Vc ?_ | refine Vd ?_ | refine Ve ?_ | refine Vf ?_); (try simp only [go_sem,hP]); (repeat refine qJ ?_)))
     (refine AS_lend [1000] (kept7 (tb:=tb)) rfl rfl rfl (by decide) rfl rfl ?_; intro r l' hh; obtain ⟨rfl,rfl⟩:=hh; refine ⟨_,_,rfl,rfl,?_⟩; simp only [go_sem,hP,ownBack]; (repeat refine qJ ?_); (repeat ((first | refine Va ?_ | refine Vb ?_ | refine Vc ?_ | refine Vd ?_ | refine Ve ?_ | refine Vf ?_); (try simp only [go_sem,hP]); (repeat refine qJ ?_))); (refine WV_ret ?_; simp only [thenQ,inQ,RetQL,RetOkL,resAll,resA]; simp only [go_sem,tupA,AV.keepP,AV.keepPL]; refine ⟨_,[(tabO tb)],rfl,KeepL_mk rfl rfl ?_ ?_ rfl,?_⟩); (all_goals (first | exact ⟨rfl,rfl⟩ | trivial | (simp only [go_sem,keepAll,Ob.keepP,AV.keepP,AV.keepPL]; done))))
    ·exfalso; simp at h; omega
   (refine WV_cond rfl (fun h => ?_) (fun h => ?_))
   ·exfalso; simp at h; omega
   clear h
   obtain ⟨cl3,el3⟩:=run_two (tb:=tb) hcan (by omega)
   have hpok:=pressed_ok hcan
   have hrn2:=run10 (tb:=tb) (F:=lineP) (barLn hpok) hpok (l:=[ln3 (p.time + waitP b p)]) (by simp) (by
    intro k hk
    have:k = 0:=by simp at hk; omega
    subst this
    exact cl3)
   have e4:runL lineP (pressedB b p) [ln3 (p.time + waitP b p)] = ([ans3 b p],pressedB b p):=by
    show ([(lineP (pressedB b p) (ln3 (p.time + waitP b p))).1],(lineP (pressedB b p) (ln3 (p.time + waitP b p))).2) = _
    rw [el3]
   have hx4:=text9 (n:=p.time + waitP b p) (by omega) (by omega)
   have l4:=textS_len (n:=p.time + waitP b p) (by omega) (by omega)
   have s3:ln3 (p.time + waitP b p) = 97 :: 116 :: 32 :: textS (p.time + waitP b p):=rfl
   rw [e4,s3] at hrn2
   simp only [Bar.av,Bar.avs,strsC,prsC,hpr,List.map_append,List.map_cons,List.map_nil,Pr.cds] at hrn2
   have a3:=ans3_len hcan
   have a4:=ans3_cut hcan
   generalize ans3 b p = an at hrn2 a3 a4
   generalize textS (p.time + waitP b p) = st at hx4 l4 hrn2
   (repeat ((first | refine Va ?_ | refine Vb ?_ | refine Vc ?_ | refine Vd ?_ | refine Ve ?_ | refine Vf ?_); (try simp only [go_sem,hP]); (repeat refine qJ ?_)))
   refine WV_thn (fun σ' => Sub σ' ⟨upd (upd (upd (upd (upd (upd e0 2 (.bp 2 0)) 3 (.bp 3 0)) 4 (.c (.bool false))) 6 (.fn 9 [])) 12 (.c (.sl 1 [[CD.str an]]))) 9 (iv 0),upd (upd (upd o0 1000 (tabO tb)) 2 (.box b.avs)) 3 (.box [iv p.side,iv p.time])⟩) ?_ ?_
   ·refine WV_drw ?_
    simp only [go_sem,hP,wx]
    (repeat' (first | (refine ACall_of hx4 rfl rfl rfl rfl rfl ?_; simp only [go_sem,hP,List.length_cons,List.length_nil,List.length_append]) | refine And.intro ?_ ?_))
    all_goals (first | omega | skip)
    all_goals (
     refine AS_lend [1000] hrn2 rfl rfl rfl (by decide) rfl rfl ?_
     rintro r l' ⟨rfl,rfl⟩
     refine ⟨_,_,rfl,rfl,?_⟩
     simp only [go_sem,hP,ownBack]
     (repeat refine qJ ?_)
     refine Sub_of (by (try simp only [go_sem]); ((repeat' (first | exact EnvLe_e0 _ _ | refine EnvLe_upd ?_ ?_)) <;> ((try simp only [upd_app,e0_app,o0_app,Nat.reduceEqDiff,reduceIte]); first | exact AWk.refl _ _ | exact AWk.int (by omega) | exact AWk.int (by rw [w64 (by omega) (by omega)]; omega) | exact AWk.grow rfl | exact AWk.nil _ | exact AWk.of (by rfl)))) (by unfold Bar.avs; (try simp only [go_sem]); exact ObjLe_au))
   ·intro σ' hsub
    refine WV_sub hsub ?_
    have hwd:=words16 (s:=an) (by omega)
    rw [a4] at hwd
    have hq0:0 ≤ p.side.tdiv 2 ∧ p.side.tdiv 2 ≤ 11:=by rw [Int.tdiv_eq_ediv_of_nonneg s0]; omega
    have wq:=w64 (n:=p.side.tdiv 2) (by omega) (by omega)
    have hy1:=text9 (n:=p.side) s0 (by omega)
    have hy2:=text9 (n:=p.side.tdiv 2) hq0.1 (by omega)
    generalize textS (p.side.tdiv 2) = ta at hwd hy2
    generalize Lib.itoa (spP b p).way = tw2 at hwd
    generalize textS p.side = tc at hwd hy1
    have r0:([[CD.str ta],[CD.str tw2],[CD.str tc]].getD (Int.toNat 0) []).getD 0 default = CD.str ta:=rfl
    have r2:([[CD.str ta],[CD.str tw2],[CD.str tc]].getD (Int.toNat 2) []).getD 0 default = CD.str tc:=rfl
    have g0:([[CD.str an]].getD (Int.toNat 0) []).getD 0 default = CD.str an:=rfl
    have z5:(((1:Nat):Int) != 1) = false:=rfl
    have z6:decide ((100:Int) < an.length) = false:=decide_eq_false (by omega)
    (repeat ((first | refine Va ?_ | refine Vb ?_ | refine Vc ?_ | refine Vd ?_ | refine Ve ?_ | refine Vf ?_); (try simp only [go_sem,hP,g0,z1,z5,z6,List.length_cons,List.length_nil]); (repeat refine qJ ?_)))
    (refine WV_cond rfl (fun h => ?_) (fun h => ?_))
    ·cases h
    clear h
    (repeat ((first | refine Va ?_ | refine Vb ?_ | refine Vc ?_ | refine Vd ?_ | refine Ve ?_ | refine Vf ?_); (try simp only [go_sem,hP,g0]); (repeat refine qJ ?_)))
    have z7:(((3:Nat):Int) == 3) = true:=rfl
    (refine AS_pu (hwd) ?_; simp only [go_sem,hP,strsC,List.map_cons,List.map_nil,List.length_cons,List.length_nil,z7,r0,r2]; (repeat refine qJ ?_); (repeat ((first | refine Va ?_ | refine Vb ?_ | refine Vc ?_ | refine Vd ?_ | refine Ve ?_ | refine Vf ?_); (try simp only [go_sem,hP,strsC,List.map_cons,List.map_nil,List.length_cons,List.length_nil,z7,r0,r2]); (repeat refine qJ ?_))))
    (refine ACallG_of (fun hG => hy1) rfl (fun hG => by simp only [go_sem,hG]) rfl rfl rfl ?_; simp only [go_sem,hP,r0,r2,z7,beq_self_eq_true,wq]; (repeat refine qJ ?_); (repeat ((first | refine Va ?_ | refine Vb ?_ | refine Vc ?_ | refine Vd ?_ | refine Ve ?_ | refine Vf ?_); (try simp only [go_sem,hP,r0,r2,z7,beq_self_eq_true,wq]); (repeat refine qJ ?_))))
    (refine ACallG_of (fun hG => hy2) rfl (fun hG => by simp only [go_sem,hG]) rfl rfl rfl ?_; simp only [go_sem,hP,r0,r2,z7,beq_self_eq_true,wq]; (repeat refine qJ ?_); (repeat ((first | refine Va ?_ | refine Vb ?_ | refine Vc ?_ | refine Vd ?_ | refine Ve ?_ | refine Vf ?_); (try simp only [go_sem,hP,r0,r2,z7,beq_self_eq_true,wq]); (repeat refine qJ ?_))))
    refine .inr (.inr ?_)
    (refine AS_lend [1000] (kept7 (tb:=tb)) rfl rfl rfl (by decide) rfl rfl ?_; intro r l' hh; obtain ⟨rfl,rfl⟩:=hh; refine ⟨_,_,rfl,rfl,?_⟩; simp only [go_sem,hP,ownBack]; (repeat refine qJ ?_); (repeat ((first | refine Va ?_ | refine Vb ?_ | refine Vc ?_ | refine Vd ?_ | refine Ve ?_ | refine Vf ?_); (try simp only [go_sem,hP]); (repeat refine qJ ?_))); (refine WV_ret ?_; simp only [thenQ,inQ,RetQL,RetOkL,resAll,resA]; simp only [go_sem,tupA,AV.keepP,AV.keepPL]; refine ⟨_,[(tabO tb)],rfl,KeepL_mk rfl rfl ?_ ?_ rfl,?_⟩); (all_goals (first | exact ⟨rfl,rfl⟩ | trivial | (simp only [go_sem,keepAll,Ob.keepP,AV.keepP,AV.keepPL]; done))))
end Go.Proofs.YtefoconkepmmgaaGreatDoor
