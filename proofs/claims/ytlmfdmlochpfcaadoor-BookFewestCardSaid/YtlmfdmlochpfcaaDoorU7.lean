/-
  Contracts of the layer's functions, of the laws' helpers and of the law; conditions: as each theorem states.
-/
import Derived.Test.YtlmfdmlochpfcaaDoorU6
set_option linter.unusedVariables false
set_option linter.unusedSimpArgs false
namespace Go.Proofs.YtlmfdmlochpfcaaDoor
open Go Go.V
abbrev o10_0:List Ins:=[⟨some 6,.mv (.k (.c (.bool false))),none,true⟩]
abbrev o10_1:List Ins:=[⟨some 22,.mv (.t 0),none,true⟩,
 ⟨some 23,.call (.k (.fn 14 [])) [(.t 22)],none,true⟩,
 ⟨some 24,.un .not (.t 23),none,true⟩,
 ⟨some 25,.mv (.t 24),none,true⟩,
 ⟨some 26,.mv (.t 0),(some (25,false)),true⟩,
 ⟨some 27,.call (.k (.fn 15 [])) [(.t 26)],(some (25,false)),true⟩,
 ⟨some 28,.bin .neq (.t 27) (.k (.c (.int .i64 0))),(some (25,false)),true⟩,
 ⟨some 29,.pick (.t 25) (.k (.c (.bool true))) (.t 28),none,true⟩,
 ⟨some 30,.mv (.t 29),none,true⟩,
 ⟨some 31,.mv (.t 1),(some (30,false)),true⟩,
 ⟨some 32,.len (.t 31),(some (30,false)),true⟩,
 ⟨some 33,.bin .gtr (.t 32) (.k (.c (.int .i64 200))),(some (30,false)),true⟩,
 ⟨some 34,.pick (.t 30) (.k (.c (.bool true))) (.t 33),none,true⟩]
abbrev o10_2:List Ins:=[⟨some 35,.call (.k (.fn 16 [])) [],none,true⟩,
 ⟨some 6,.mv (.t 35),none,true⟩]
abbrev v10_3:VC:=(.seq (.ops o10_2) .ret)
abbrev v10_4:VC:=(.cond (.t 34) v10_3 .skip)
abbrev o10_5:List Ins:=[⟨some 37,.mv (.t 0),none,true⟩,
 ⟨some 38,.call (.k (.fn 17 [])) [(.t 37)],none,true⟩,
 ⟨some 36,.mv (.t 38),none,true⟩,
 ⟨some 39,.ext (.t 36) 0,none,true⟩,
 ⟨some 40,.ext (.t 36) 1,none,true⟩,
 ⟨some 41,.ext (.t 36) 2,none,true⟩,
 ⟨some 7,.mv (.t 39),none,true⟩,
 ⟨some 8,.mv (.t 40),none,true⟩,
 ⟨some 9,.mv (.t 41),none,true⟩]
abbrev o10_6:List Ins:=[⟨some 42,.mv (.t 9),none,true⟩,
 ⟨some 43,.un .not (.t 42),none,true⟩]
abbrev o10_7:List Ins:=[⟨some 6,.mv (.k (.c (.bool false))),none,true⟩]
abbrev v10_8:VC:=(.seq (.ops o10_7) .ret)
abbrev v10_9:VC:=(.cond (.t 43) v10_8 .skip)
abbrev o10_10:List Ins:=[⟨some 44,.mv (.t 8),none,true⟩,
 ⟨some 45,.mv (.t 1),none,true⟩,
 ⟨some 46,.call (.k (.fn 19 [])) [(.t 44),(.t 45),(.k (.c (.int .u8 63)))],none,true⟩,
 ⟨some 10,.mv (.t 46),none,true⟩]
abbrev o10_11:List Ins:=[⟨some 48,.mv (.t 10),none,true⟩,
 ⟨some 49,.call (.k (.fn 31 [])) [(.t 48)],none,true⟩,
 ⟨some 47,.mv (.t 49),none,true⟩,
 ⟨some 50,.ext (.t 47) 0,none,true⟩,
 ⟨some 51,.ext (.t 47) 1,none,true⟩,
 ⟨some 11,.mv (.t 50),none,true⟩,
 ⟨some 12,.mv (.t 51),none,true⟩]
abbrev o10_12:List Ins:=[⟨some 53,.mv (.t 10),none,true⟩,
 ⟨some 54,.call (.k (.fn 36 [])) [(.t 53)],none,true⟩,
 ⟨some 52,.mv (.t 54),none,true⟩,
 ⟨some 55,.ext (.t 52) 0,none,true⟩,
 ⟨some 56,.ext (.t 52) 1,none,true⟩,
 ⟨some 13,.mv (.t 55),none,true⟩,
 ⟨some 14,.mv (.t 56),none,true⟩]
abbrev o10_13:List Ins:=[⟨some 58,.mv (.t 10),none,true⟩,
 ⟨some 59,.call (.k (.fn 30 [])) [(.t 58)],none,true⟩,
 ⟨some 57,.mv (.t 59),none,true⟩,
 ⟨some 60,.ext (.t 57) 0,none,true⟩,
 ⟨some 61,.ext (.t 57) 1,none,true⟩,
 ⟨some 15,.mv (.t 60),none,true⟩,
 ⟨some 16,.mv (.t 61),none,true⟩]
abbrev o10_14:List Ins:=[⟨some 62,.mv (.t 12),none,true⟩,
 ⟨some 63,.bin .neq (.t 62) (.k (.c (.int .i64 0))),none,true⟩,
 ⟨some 64,.mv (.t 63),none,true⟩,
 ⟨some 65,.mv (.t 14),(some (64,false)),true⟩,
 ⟨some 66,.bin .neq (.t 65) (.k (.c (.int .i64 0))),(some (64,false)),true⟩,
 ⟨some 67,.pick (.t 64) (.k (.c (.bool true))) (.t 66),none,true⟩,
 ⟨some 68,.mv (.t 67),none,true⟩,
 ⟨some 69,.mv (.t 16),(some (68,false)),true⟩,
 ⟨some 70,.bin .neq (.t 69) (.k (.c (.int .i64 0))),(some (68,false)),true⟩,
 ⟨some 71,.pick (.t 68) (.k (.c (.bool true))) (.t 70),none,true⟩,
 ⟨some 72,.mv (.t 71),none,true⟩,
 ⟨some 73,.mv (.t 13),(some (72,false)),true⟩,
 ⟨some 74,.len (.t 73),(some (72,false)),true⟩,
 ⟨some 75,.mv (.t 11),(some (72,false)),true⟩,
 ⟨some 76,.bin .neq (.t 74) (.t 75),(some (72,false)),true⟩,
 ⟨some 77,.pick (.t 72) (.k (.c (.bool true))) (.t 76),none,true⟩,
 ⟨some 78,.mv (.t 77),none,true⟩,
 ⟨some 79,.mv (.t 15),(some (78,false)),true⟩,
 ⟨some 80,.len (.t 79),(some (78,false)),true⟩,
 ⟨some 81,.bin .gtr (.t 80) (.k (.c (.int .i64 2000))),(some (78,false)),true⟩,
 ⟨some 82,.pick (.t 78) (.k (.c (.bool true))) (.t 81),none,true⟩,
 ⟨some 83,.mv (.t 82),none,true⟩,
 ⟨some 84,.mv (.t 11),(some (83,false)),true⟩,
 ⟨some 85,.mv (.t 15),(some (83,false)),true⟩,
 ⟨some 86,.len (.t 85),(some (83,false)),true⟩,
 ⟨some 87,.bin .gtr (.t 84) (.t 86),(some (83,false)),true⟩,
 ⟨some 88,.pick (.t 83) (.k (.c (.bool true))) (.t 87),none,true⟩]
abbrev o10_15:List Ins:=[⟨some 6,.mv (.k (.c (.bool false))),none,true⟩]
abbrev v10_16:VC:=(.seq (.ops o10_15) .ret)
abbrev v10_17:VC:=(.cond (.t 88) v10_16 .skip)
abbrev o10_18:List Ins:=[⟨some 17,.mv (.k (.c (.int .i64 0))),none,true⟩]
abbrev o10_19:List Ins:=[⟨some 89,.mv (.t 17),none,true⟩,
 ⟨some 90,.mv (.t 15),none,true⟩,
 ⟨some 91,.len (.t 90),none,true⟩,
 ⟨some 92,.bin .lss (.t 89) (.t 91),none,true⟩]
abbrev v10_20:VC:=(.cond (.t 92) .skip (.exit 0))
abbrev o10_21:List Ins:=[⟨some 95,.mv (.t 1),none,false⟩,
 ⟨some 96,.mv (.t 15),none,false⟩,
 ⟨some 97,.mv (.t 17),none,false⟩,
 ⟨some 98,.ia 2 (.t 96) (.t 97),none,false⟩,
 ⟨some 99,.ld false 2 (.t 98),none,false⟩,
 ⟨some 100,.call (.k (.fn 32 [])) [(.t 95),(.t 99)],none,true⟩,
 ⟨some 101,.un .not (.t 100),none,true⟩,
 ⟨some 102,.mv (.t 101),none,true⟩,
 ⟨some 103,.mv (.t 15),(some (102,false)),false⟩,
 ⟨some 104,.mv (.t 17),(some (102,false)),false⟩,
 ⟨some 105,.ia 2 (.t 103) (.t 104),(some (102,false)),true⟩,
 ⟨some 106,.fa 0 (.t 105),(some (102,false)),true⟩,
 ⟨some 107,.ld true 1 (.t 106),(some (102,false)),true⟩,
 ⟨some 108,.bin .lss (.t 107) (.k (.c (.int .i64 0))),(some (102,false)),true⟩,
 ⟨some 109,.pick (.t 102) (.k (.c (.bool true))) (.t 108),none,true⟩,
 ⟨some 110,.mv (.t 109),none,true⟩,
 ⟨some 111,.mv (.t 15),(some (110,false)),false⟩,
 ⟨some 112,.mv (.t 17),(some (110,false)),false⟩,
 ⟨some 113,.ia 2 (.t 111) (.t 112),(some (110,false)),false⟩,
 ⟨some 114,.fa 0 (.t 113),(some (110,false)),false⟩,
 ⟨some 115,.ld true 1 (.t 114),(some (110,false)),false⟩,
 ⟨some 116,.mv (.t 8),(some (110,false)),false⟩,
 ⟨some 117,.len (.t 116),(some (110,false)),false⟩,
 ⟨some 118,.bin .geq (.t 115) (.t 117),(some (110,false)),true⟩,
 ⟨some 119,.pick (.t 110) (.k (.c (.bool true))) (.t 118),none,true⟩,
 ⟨some 120,.mv (.t 119),none,true⟩,
 ⟨some 121,.mv (.t 15),(some (120,false)),false⟩,
 ⟨some 122,.mv (.t 17),(some (120,false)),false⟩,
 ⟨some 123,.ia 2 (.t 121) (.t 122),(some (120,false)),true⟩,
 ⟨some 124,.fa 1 (.t 123),(some (120,false)),true⟩,
 ⟨some 125,.ld true 1 (.t 124),(some (120,false)),true⟩,
 ⟨some 126,.bin .lss (.t 125) (.k (.c (.int .i64 0))),(some (120,false)),true⟩,
 ⟨some 127,.pick (.t 120) (.k (.c (.bool true))) (.t 126),none,true⟩,
 ⟨some 128,.mv (.t 127),none,true⟩,
 ⟨some 129,.mv (.t 15),(some (128,false)),false⟩,
 ⟨some 130,.mv (.t 17),(some (128,false)),false⟩,
 ⟨some 131,.ia 2 (.t 129) (.t 130),(some (128,false)),false⟩,
 ⟨some 132,.fa 1 (.t 131),(some (128,false)),false⟩,
 ⟨some 133,.ld true 1 (.t 132),(some (128,false)),false⟩,
 ⟨some 134,.mv (.t 8),(some (128,false)),false⟩,
 ⟨some 135,.ia 1 (.t 134) (.k (.c (.int .i64 0))),(some (128,false)),false⟩,
 ⟨some 136,.ld true 1 (.t 135),(some (128,false)),false⟩,
 ⟨some 137,.prim .slen [(.t 136)],(some (128,false)),false⟩,
 ⟨some 138,.bin .geq (.t 133) (.t 137),(some (128,false)),true⟩,
 ⟨some 139,.pick (.t 128) (.k (.c (.bool true))) (.t 138),none,true⟩]
abbrev o10_22:List Ins:=[⟨some 6,.mv (.k (.c (.bool false))),none,true⟩]
abbrev v10_23:VC:=(.seq (.ops o10_22) .ret)
abbrev v10_24:VC:=(.cond (.t 139) v10_23 .skip)
abbrev v10_25:VC:=(.seq (.dops o10_21) v10_24)
abbrev o10_26:List Ins:=[⟨some 93,.mv (.t 17),none,true⟩,
 ⟨some 94,.bin .add (.t 93) (.k (.c (.int .i64 1))),none,true⟩,
 ⟨some 17,.mv (.t 94),none,true⟩]
abbrev v10_27:VC:=(.seq (.block 1 v10_25) (.ops o10_26))
abbrev v10_28:VC:=(.seq (.seq (.ops o10_19) v10_20) v10_27)
-- K10_1: changed and kept: [17]
abbrev v10_29:VC:=(.loop v10_28)
abbrev v10_30:VC:=(.block 0 v10_29)
abbrev o10_31:List Ins:=[⟨some 141,.mv (.t 15),none,true⟩,
 ⟨some 142,.call (.k (.fn 37 [])) [(.t 141)],none,true⟩,
 ⟨some 140,.mv (.t 142),none,true⟩,
 ⟨some 143,.ext (.t 140) 0,none,true⟩,
 ⟨some 144,.ext (.t 140) 1,none,true⟩,
 ⟨some 18,.mv (.t 143),none,true⟩,
 ⟨some 19,.mv (.t 144),none,true⟩]
abbrev o10_32:List Ins:=[⟨some 146,.mv (.t 10),none,true⟩,
 ⟨some 147,.call (.k (.fn 34 [])) [(.t 146)],none,true⟩,
 ⟨some 148,.mv (.t 8),none,true⟩,
 ⟨some 149,.mv (.t 13),none,true⟩,
 ⟨some 150,.call (.k (.fn 33 [])) [(.t 147),(.t 148),(.t 149)],none,true⟩,
 ⟨some 151,.call (.k (.fn 19 [])) [(.t 150),(.k (.c (.raw (.slice none 0 0)))),(.k (.c (.int .u8 63)))],none,true⟩,
 ⟨some 152,.call (.k (.fn 18 [])) [(.t 151)],none,true⟩,
 ⟨some 145,.mv (.t 152),none,true⟩,
 ⟨some 153,.ext (.t 145) 0,none,true⟩,
 ⟨some 154,.ext (.t 145) 1,none,true⟩,
 ⟨some 20,.mv (.t 153),none,true⟩,
 ⟨some 12,.mv (.t 154),none,true⟩]
abbrev o10_33:List Ins:=[⟨some 155,.mv (.t 12),none,true⟩,
 ⟨some 156,.bin .neq (.t 155) (.k (.c (.int .i64 0))),none,true⟩,
 ⟨some 157,.mv (.t 156),none,true⟩,
 ⟨some 158,.mv (.t 20),(some (157,false)),true⟩,
 ⟨some 159,.mv (.t 7),(some (157,false)),true⟩,
 ⟨some 160,.prim (.sbin .neq) [(.t 158),(.t 159)],(some (157,false)),true⟩,
 ⟨some 161,.pick (.t 157) (.k (.c (.bool true))) (.t 160),none,true⟩,
 ⟨some 162,.mv (.t 161),none,true⟩,
 ⟨some 163,.mv (.t 11),(some (162,false)),true⟩,
 ⟨some 164,.mv (.t 15),(some (162,false)),true⟩,
 ⟨some 165,.len (.t 164),(some (162,false)),true⟩,
 ⟨some 166,.mv (.t 18),(some (162,false)),true⟩,
 ⟨some 167,.bin .sub (.t 165) (.t 166),(some (162,false)),true⟩,
 ⟨some 168,.mv (.t 19),(some (162,false)),true⟩,
 ⟨some 169,.bin .add (.t 167) (.t 168),(some (162,false)),true⟩,
 ⟨some 170,.bin .neq (.t 163) (.t 169),(some (162,false)),true⟩,
 ⟨some 171,.pick (.t 162) (.k (.c (.bool true))) (.t 170),none,true⟩]
abbrev o10_34:List Ins:=[⟨some 6,.mv (.k (.c (.bool false))),none,true⟩]
abbrev v10_35:VC:=(.seq (.ops o10_34) .ret)
abbrev v10_36:VC:=(.cond (.t 171) v10_35 .skip)
abbrev o10_37:List Ins:=[⟨some 172,.mv (.t 2),none,true⟩,
 ⟨some 173,.bin .lss (.t 172) (.k (.c (.int .i64 0))),none,true⟩,
 ⟨some 174,.mv (.t 173),none,true⟩,
 ⟨some 175,.mv (.t 2),(some (174,false)),true⟩,
 ⟨some 176,.mv (.t 11),(some (174,false)),true⟩,
 ⟨some 177,.bin .geq (.t 175) (.t 176),(some (174,false)),true⟩,
 ⟨some 178,.pick (.t 174) (.k (.c (.bool true))) (.t 177),none,true⟩]
abbrev o10_38:List Ins:=[⟨some 179,.call (.k (.fn 16 [])) [],none,true⟩,
 ⟨some 6,.mv (.t 179),none,true⟩]
abbrev v10_39:VC:=(.seq (.ops o10_38) .ret)
abbrev v10_40:VC:=(.cond (.t 178) v10_39 .skip)
abbrev o10_41:List Ins:=[⟨some 180,.bsl 31 2 [],none,false⟩,
 ⟨some 181,.mv (.t 13),none,false⟩,
 ⟨some 182,.mv (.t 2),none,false⟩,
 ⟨some 183,.slc 2 (.t 181) none (some (.t 182)),none,false⟩,
 ⟨some 184,.app 31 2 16 (.t 180) (.t 183),none,false⟩,
 ⟨some 185,.mv (.t 13),none,false⟩,
 ⟨some 186,.mv (.t 2),none,false⟩,
 ⟨some 187,.bin .add (.t 186) (.k (.c (.int .i64 1))),none,false⟩,
 ⟨some 188,.slc 2 (.t 185) (some (.t 187)) none,none,false⟩,
 ⟨some 189,.app 31 2 16 (.t 184) (.t 188),none,true⟩,
 ⟨some 21,.mv (.t 189),none,true⟩]
abbrev o10_42:List Ins:=[⟨some 191,.mv (.t 10),none,true⟩,
 ⟨some 192,.call (.k (.fn 34 [])) [(.t 191)],none,true⟩,
 ⟨some 193,.mv (.t 8),none,true⟩,
 ⟨some 194,.mv (.t 21),none,true⟩,
 ⟨some 195,.call (.k (.fn 33 [])) [(.t 192),(.t 193),(.t 194)],none,true⟩,
 ⟨some 196,.call (.k (.fn 19 [])) [(.t 195),(.k (.c (.raw (.slice none 0 0)))),(.k (.c (.int .u8 63)))],none,true⟩,
 ⟨some 197,.call (.k (.fn 18 [])) [(.t 196)],none,true⟩,
 ⟨some 190,.mv (.t 197),none,true⟩,
 ⟨some 198,.ext (.t 190) 0,none,true⟩,
 ⟨some 199,.ext (.t 190) 1,none,true⟩,
 ⟨some 12,.mv (.t 199),none,true⟩]
abbrev o10_43:List Ins:=[⟨some 200,.mv (.t 12),none,true⟩,
 ⟨some 201,.bin .eql (.t 200) (.k (.c (.int .i64 141))),none,true⟩,
 ⟨some 202,.mv (.t 201),none,true⟩,
 ⟨some 203,.call (.k (.fn 16 [])) [],(some (202,true)),true⟩,
 ⟨some 204,.pick (.t 202) (.t 203) (.k (.c (.bool false))),none,true⟩,
 ⟨some 6,.mv (.t 204),none,true⟩]
abbrev v10_44:VC:=(.seq (.ops o10_43) .ret)
abbrev v10_45:VC:=(.seq (.ops o10_42) v10_44)
abbrev v10_46:VC:=(.seq (.dops o10_41) v10_45)
abbrev v10_47:VC:=(.seq (.seq (.ops o10_37) v10_40) v10_46)
abbrev v10_48:VC:=(.seq (.seq (.ops o10_33) v10_36) v10_47)
abbrev v10_49:VC:=(.seq (.ops o10_32) v10_48)
abbrev v10_50:VC:=(.seq (.ops o10_31) v10_49)
abbrev v10_51:VC:=(.seq (.seq (.ops o10_18) v10_30) v10_50)
abbrev v10_52:VC:=(.seq (.seq (.ops o10_14) v10_17) v10_51)
abbrev v10_53:VC:=(.seq (.ops o10_13) v10_52)
abbrev v10_54:VC:=(.seq (.ops o10_12) v10_53)
abbrev v10_55:VC:=(.seq (.ops o10_11) v10_54)
abbrev v10_56:VC:=(.seq (.ops o10_10) v10_55)
abbrev v10_57:VC:=(.seq (.seq (.ops o10_6) v10_9) v10_56)
abbrev v10_58:VC:=(.seq (.ops o10_5) v10_57)
abbrev v10_59:VC:=(.seq (.seq (.ops o10_1) v10_4) v10_58)
def ir10:FC:=⟨3,205,[.t 6],(.seq (.ops o10_0) v10_59)⟩
theorem c10:compM Tryd.prog [] 10 = some ir10:=by kernel_rfl
attribute [local go_sem] Nat.reduceEqDiff Nat.reduceAdd Nat.reduceMul reduceIte Nat.reduceLeDiff Nat.reduceLT Nat.reduceBEq reduceCtorEq
set_option maxRecDepth 20000 in
set_option maxHeartbeats 16000000 in
theorem bookFewest10 (ts:List (List UInt8)) (ms:List (Int × Int)) (o:Int):FSpec Tryd.prog 10 [.c (strsV ts),.c (placesC ms),.c (.int .i64 o)] (bv true):=by
 have hmax:maxLen = 9223372036854775807:=rfl
 have hwk:=works16
 have hcan:=can14 ts
 refine FSpec_of c10 (Nat.le_refl _) (by decide) fun C hP hN hC hL => ?_; rw [init_st]
 simp only [ir10]
 (repeat ((first | refine Va ?_ | refine Vb ?_ | refine Vc ?_ | refine Vd ?_ | refine Ve ?_ | refine Vf ?_); (try simp only [go_sem,hP]); (repeat refine qJ ?_)))
 (refine AS_pu (hcan) ?_; simp only [go_sem,hP]; (repeat refine qJ ?_); (repeat ((first | refine Va ?_ | refine Vb ?_ | refine Vc ?_ | refine Vd ?_ | refine Ve ?_ | refine Vf ?_); (try simp only [go_sem,hP]); (repeat refine qJ ?_))))
 by_cases hc:canT ts = true
 case neg =>
  have hc:canT ts = false:=by simpa using hc
  rw [hc]
  (refine AG_skip ?_; simp only [go_sem,hP,placesC,List.length_map]; (repeat refine qJ ?_); (repeat ((first | refine Va ?_ | refine Vb ?_ | refine Vc ?_ | refine Vd ?_ | refine Ve ?_ | refine Vf ?_); (try simp only [go_sem,hP,placesC,List.length_map]); (repeat refine qJ ?_))))
  (refine WV_cond rfl (fun h => ?_) (fun h => ?_))
  ·(repeat ((first | refine Va ?_ | refine Vb ?_ | refine Vc ?_ | refine Vd ?_ | refine Ve ?_ | refine Vf ?_); (try simp only [go_sem,hP]); (repeat refine qJ ?_)))
   (refine AS_pu (hwk) ?_; simp only [go_sem,hP]; (repeat refine qJ ?_); (repeat ((first | refine Va ?_ | refine Vb ?_ | refine Vc ?_ | refine Vd ?_ | refine Ve ?_ | refine Vf ?_); (try simp only [go_sem,hP]); (repeat refine qJ ?_))))
   (refine WV_ret ?_; simp only [thenQ,inQ,RetQ,RetOk,resAll,resA]; simp only [go_sem,tupA,AV.port,AV.portL,exists_eq_left']; (first | exact AVle.of rfl | refine AVle.of ?_ | skip))
  ·simp at h
 obtain ⟨hl1,hl2⟩:=can_len hc
 have har:=aretexts15 ts fun s hs => by have:=hl2 s hs; omega
 rw [hc]
 (refine AG_pu (fun hG => har) ?_; simp only [go_sem,hP,placesC,List.length_map]; (repeat refine qJ ?_); (repeat ((first | refine Va ?_ | refine Vb ?_ | refine Vc ?_ | refine Vd ?_ | refine Ve ?_ | refine Vf ?_); (try simp only [go_sem,hP,placesC,List.length_map]); (repeat refine qJ ?_))))
 (refine WV_cond rfl (fun h => ?_) (fun h => ?_))
 ·(repeat ((first | refine Va ?_ | refine Vb ?_ | refine Vc ?_ | refine Vd ?_ | refine Ve ?_ | refine Vf ?_); (try simp only [go_sem,hP]); (repeat refine qJ ?_)))
  (refine AS_pu (hwk) ?_; simp only [go_sem,hP]; (repeat refine qJ ?_); (repeat ((first | refine Va ?_ | refine Vb ?_ | refine Vc ?_ | refine Vd ?_ | refine Ve ?_ | refine Vf ?_); (try simp only [go_sem,hP]); (repeat refine qJ ?_))))
  (refine WV_ret ?_; simp only [thenQ,inQ,RetQ,RetOk,resAll,resA]; simp only [go_sem,tupA,AV.port,AV.portL,exists_eq_left']; (first | exact AVle.of rfl | refine AVle.of ?_ | skip))
 have h':errT ts = 0 ∧ ms.length ≤ 200:=by
  simp at h
  exact ⟨h.1,by omega⟩
 obtain ⟨he,hm200⟩:=h'
 clear h
 have hb:=book_of he
 have hgd:=good_book hb hc
 have hS:=hb.sok
 have hBl:=bookB_len hb
 have hle:=hb.le
 have hwid:=hb.wid
 have hBw:∀ k (hk:k < (bookB ts).length),((bookB ts)[k]).length = maxW ts + 1:=fun k hk => hS.row _ (List.getElem_mem hk)
 have h19:=spoilt_book hb ms (by omega)
 have hss:=spo_sok hb ms
 have hsl:=spo_len hb ms
 have htl:=text_len hss
 have h30:=left30 (textG (spo ts ms)) (by omega)
 have h31:=fewest31 (textG (spo ts ms)) (by omega)
 have h36:=which36 (textG (spo ts ms)) (by omega)
 have hlk:=leftG_ok (textG (spo ts ms))
 rw [lft_eq hss hsl] at h30 h31 h36 hlk
 have hlb:=fun p hp => left_book hb ms (p:=p) hp
 have h34:=lines_book hss
 have h33:=fun ws h => told_book hb ms ws h
 have hsk:=fun ws => tld_sok hb ms ws
 have hen:=enough_book hb ms
 have hlss:=fun o ho ws hw => less_book hb ms (o:=o) ho (ws:=ws) hw
 obtain ⟨L,hLd⟩ : ∃ L,L = lftG ts (spo ts ms):=⟨_,rfl⟩
 rw [← hLd] at h30 h31 h36 hlb hlk hen hlss
 have hin:InB L:=fun m hm => by have:=hlb m hm; omega
 have h37:=groups37 L hin hlk.1
 have hln:=linesN_le L
 have hcl:=circ_len L
 have hgn:groupsN L = ((circ L).length:Int) + (linesN L:Int) - (L.length:Int):=rfl
 have hx:∀ m ∈ L.map icst,ms.contains m = true ∧ 0 ≤ m.1 ∧ m.1 < ((bookB ts).length:Int) ∧ 0 ≤ m.2 ∧ m.2 < ((maxW ts + 1:Nat):Int):=fun m hm => by
  obtain ⟨p,hp,rfl⟩:=List.mem_map.1 hm
  obtain ⟨a1,a2,a3,_⟩:=hlb p hp
  unfold icst at a3 ⊢
  simp only
  refine ⟨by rw [List.contains_iff_mem]; exact a3,by omega,by rw [hBl]; omega,by omega,by omega⟩
 generalize groupsN L = gN at *
 generalize linesN L = lN at *
 obtain ⟨W,hWd⟩ : ∃ W,W = circ L:=⟨_,rfl⟩
 rw [← hWd] at h31 h36 hen hlss hcl hgn
 have hLl:L.length ≤ 2000:=hlk.1
 obtain ⟨nL,hnL⟩ : ∃ n,n = L.length:=⟨_,rfl⟩
 obtain ⟨nW,hnW⟩ : ∃ n,n = W.length:=⟨_,rfl⟩
 have w1:=w64 (n:=(nL:Int) - (lN:Int)) (by omega) (by omega)
 have w2:=w64 (n:=(nL:Int) - (lN:Int) + gN) (by omega) (by omega)
 have w2:Go.IntKind.wrap .i64 ((nL:Int) - (lN:Int) + gN) = (nW:Int):=by rw [w2]; omega
 have h30':FSpec Tryd.prog 30 [sv (textG (spo ts ms))] (.tup [.c (.sl 2 ((L.map icst).map placeC)),iv 0]):=by
  have:FSpec Tryd.prog 30 [sv (textG (spo ts ms))] (.tup [.c (marksC L),iv 0]):=h30
  rwa [marksC_places] at this
 have h36':FSpec Tryd.prog 36 [sv (textG (spo ts ms))] (.tup [.c (.sl 2 ((W.map icst).map placeC)),iv 0]):=by
  have:FSpec Tryd.prog 36 [sv (textG (spo ts ms))] (.tup [.c (marksC W),iv 0]):=h36
  rwa [marksC_places] at this
 have h37':FSpec Tryd.prog 37 [.c (.sl 2 ((L.map icst).map placeC))] (.tup [iv lN,iv gN]):=by rwa [marksC_places] at h37
 have hXl:(L.map icst).length = nL:=by rw [List.length_map,hnL]
 have hYl:(W.map icst).length = nW:=by rw [List.length_map,hnW]
 rw [← hnW] at h31
 have hYd:∀ o,(W.take o ++ W.drop (o + 1)).map icst = (W.map icst).take o ++ (W.map icst).drop (o + 1):=fun o => by rw [List.map_append,List.map_take,List.map_drop]
 have k33:=h33 (W.map icst) (by omega)
 have k19:=plain19' (hsk (W.map icst))
 have ktl:=text_len (hsk (W.map icst))
 have k18:=mend18 (textG (tld ts ms (W.map icst))) (by omega)
 rw [hen] at k18
 generalize L.map icst = X at *
 generalize hY:W.map icst = Y at *
 have k33':FSpec Tryd.prog 33 [.c (strsV (spo ts ms)),.c (strsV (bookB ts)),.c (.sl 2 (Y.map placeC))] (.c (strsV (tld ts ms Y))):=k33
 clear h30 h36 h37 k33 hlk hen
 (refine WV_skip ?_; simp only [go_sem])
 refine WV_keep [0,1,2] ?_
 simp only [go_sem]
 (repeat ((first | refine Va ?_ | refine Vb ?_ | refine Vc ?_ | refine Vd ?_ | refine Ve ?_ | refine Vf ?_); (try simp only [go_sem,hP]); (repeat refine qJ ?_)))
 (refine AS_pu (hgd) ?_; simp only [go_sem,hP]; (repeat refine qJ ?_); (repeat ((first | refine Va ?_ | refine Vb ?_ | refine Vc ?_ | refine Vd ?_ | refine Ve ?_ | refine Vf ?_); (try simp only [go_sem,hP]); (repeat refine qJ ?_))))
 (refine WV_cond rfl (fun h => ?_) (fun h => ?_))
 ·simp at h
 (repeat ((first | refine Va ?_ | refine Vb ?_ | refine Vc ?_ | refine Vd ?_ | refine Ve ?_ | refine Vf ?_); (try simp only [go_sem,hP]); (repeat refine qJ ?_)))
 (refine AS_pu (h19) ?_; simp only [go_sem,hP]; (repeat refine qJ ?_); (repeat ((first | refine Va ?_ | refine Vb ?_ | refine Vc ?_ | refine Vd ?_ | refine Ve ?_ | refine Vf ?_); (try simp only [go_sem,hP]); (repeat refine qJ ?_))))
 (refine AS_pu (h31) ?_; simp only [go_sem,hP]; (repeat refine qJ ?_); (repeat ((first | refine Va ?_ | refine Vb ?_ | refine Vc ?_ | refine Vd ?_ | refine Ve ?_ | refine Vf ?_); (try simp only [go_sem,hP]); (repeat refine qJ ?_))))
 (refine AS_pu (h36') ?_; simp only [go_sem,hP]; (repeat refine qJ ?_); (repeat ((first | refine Va ?_ | refine Vb ?_ | refine Vc ?_ | refine Vd ?_ | refine Ve ?_ | refine Vf ?_); (try simp only [go_sem,hP]); (repeat refine qJ ?_))))
 (refine AS_pu (h30') ?_; simp only [go_sem,hP,List.length_map,hXl,hYl]; (repeat refine qJ ?_); (repeat ((first | refine Va ?_ | refine Vb ?_ | refine Vc ?_ | refine Vd ?_ | refine Ve ?_ | refine Vf ?_); (try simp only [go_sem,hP,List.length_map,hXl,hYl]); (repeat refine qJ ?_))))
 (refine WV_cond rfl (fun h => ?_) (fun h => ?_))
 ·simp at h; omega
 refine WV_skip ?_
 refine WV_keep [1,2,7,8,10,11,13,15] ?_
 simp only [go_sem]
 (repeat ((first | refine Va ?_ | refine Vb ?_ | refine Vc ?_ | refine Vd ?_ | refine Ve ?_ | refine Vf ?_); (try simp only [go_sem,hP]); (repeat refine qJ ?_)))
 refine WV_loopS (fun i:Nat => ⟨upd (upd (upd (upd (upd (upd (upd (upd (upd e0 1 (.c (.sl 2 (ms.map placeC)))) 2 (.c (.int .i64 o))) 7 (sv (textG (bookB ts)))) 8 (.c (strsV (bookB ts)))) 10 (sv (textG (spo ts ms)))) 11 (iv nW)) 13 (.c (.sl 2 (Y.map placeC)))) 15 (.c (.sl 2 (X.map placeC)))) 17 (iv i),o0⟩) (fun i => i ≤ X.length) (fun i => X.length - i) 0 (Nat.zero_le _) ?_ ?_
 ·exact Sub_au
 intro i hi0
 (repeat ((first | refine Va ?_ | refine Vb ?_ | refine Vc ?_ | refine Vd ?_ | refine Ve ?_ | refine Vf ?_); (try simp only [go_sem,hP,List.length_map]); (repeat refine qJ ?_)))
 (refine WV_cond rfl (fun h => ?_) (fun h => ?_))
 ·have hi:i < X.length:=by simpa using h
  have hw2:=w64 (n:=(i:Int) + 1) (by omega) (by omega)
  have hgi:(X.map placeC).getD i [] = placeC X[i]:=map_getD hi
  obtain ⟨o1,o2,o3,o4,o5⟩:=hx _ (List.getElem_mem hi)
  have hhas:=has32 ms X[i] (by omega)
  rw [o1] at hhas
  generalize X[i] = x at hgi hhas o2 o3 o4 o5
  have hhas':FSpec Tryd.prog 32 [.c (.sl 2 (ms.map placeC)),.agg [.c (.int .i64 x.1),.c (.int .i64 x.2)]] (bv true):=hhas
  have hB0:0 < (bookB ts).length:=by omega
  have hgb:((bookB ts).map fun t => [CD.str t]).getD (Int.toNat 0) [] = [CD.str (bookB ts)[0]]:=map_getD hB0
  have hbw0:=hBw 0 hB0
  generalize (bookB ts)[0] = r0 at hgb hbw0
  have b1:decide (x.1 < 0) = false:=by rw [decide_eq_false_iff_not]; omega
  have b2:decide (((bookB ts).length:Int) ≤ x.1) = false:=by rw [decide_eq_false_iff_not]; omega
  have b3:decide (x.2 < 0) = false:=by rw [decide_eq_false_iff_not]; omega
  have b4:decide (((maxW ts + 1:Nat):Int) ≤ x.2) = false:=by rw [decide_eq_false_iff_not]; omega
  (refine WV_skip ?_; simp only [go_sem])
  refine WV_seq_ (WV_block (WV_seq_ ?_))
  (refine WV_op ?_; simp only [go_sem,hP,hgi,placeC,strsV,List.length_map,Int.toNat_natCast,Int.ofNat_lt,hi,Int.natCast_nonneg]; (repeat refine qJ ?_))
  refine AS_pu hhas' ?_
  simp only [go_sem,hgi,placeC,strsV,List.length_map,Int.toNat_natCast,Int.ofNat_lt,hi,Int.natCast_nonneg,hgb,hbw0,hB0,b1,b2,b3,b4]
  (repeat refine qJ ?_)
  (repeat ((first | refine Va ?_ | refine Vb ?_ | refine Vc ?_ | refine Vd ?_ | refine Ve ?_ | refine Vf ?_); (try simp only [go_sem,hP,hgi,placeC,strsV,List.length_map,Int.toNat_natCast,Int.ofNat_lt,hi,Int.natCast_nonneg,hgb,hbw0,hB0,b1,b2,b3,b4]); (repeat refine qJ ?_)))
  (refine WV_cond rfl (fun h => ?_) (fun h => ?_))
  ·simp at h
   try omega
  ·(repeat ((first | refine Va ?_ | refine Vb ?_ | refine Vc ?_ | refine Vd ?_ | refine Ve ?_ | refine Vf ?_); (try simp only [go_sem,hP,hw2]); (repeat refine qJ ?_)))
   refine ⟨i + 1,by omega,by omega,?_⟩
   (refine Sub_of (by simp only [go_sem]; ((repeat' (first | exact EnvLe_e0 _ _ | refine EnvLe_upd ?_ ?_)) <;> ((try simp only [upd_app,e0_app,o0_app,Nat.reduceEqDiff,reduceIte]); first | exact AWk.refl _ _ | exact AWk.int (by omega) | exact AWk.int (by rw [w64 (by omega) (by omega)]; omega) | exact AWk.grow rfl | exact AWk.nil _ | exact AWk.of (by simp [strsV])))) (by simp only [go_sem]; exact ObjLe_au))
 have hi:i = X.length:=by simp at h; omega
 subst hi
 refine WV_exit ?_
 simp only [thenQ,inQ,reduceIte,beq_self_eq_true]
 (repeat ((first | refine Va ?_ | refine Vb ?_ | refine Vc ?_ | refine Vd ?_ | refine Ve ?_ | refine Vf ?_); (try simp only [go_sem,hP]); (repeat refine qJ ?_)))
 (refine AS_pu (h37') ?_; simp only [go_sem,hP]; (repeat refine qJ ?_); (repeat ((first | refine Va ?_ | refine Vb ?_ | refine Vc ?_ | refine Vd ?_ | refine Ve ?_ | refine Vf ?_); (try simp only [go_sem,hP]); (repeat refine qJ ?_))))
 (refine AS_pu (h34) ?_; simp only [go_sem,hP]; (repeat refine qJ ?_); (repeat ((first | refine Va ?_ | refine Vb ?_ | refine Vc ?_ | refine Vd ?_ | refine Ve ?_ | refine Vf ?_); (try simp only [go_sem,hP]); (repeat refine qJ ?_))))
 (refine AS_pu (k33') ?_; simp only [go_sem,hP]; (repeat refine qJ ?_); (repeat ((first | refine Va ?_ | refine Vb ?_ | refine Vc ?_ | refine Vd ?_ | refine Ve ?_ | refine Vf ?_); (try simp only [go_sem,hP]); (repeat refine qJ ?_))))
 (refine AS_pu (k19) ?_; simp only [go_sem,hP]; (repeat refine qJ ?_); (repeat ((first | refine Va ?_ | refine Vb ?_ | refine Vc ?_ | refine Vd ?_ | refine Ve ?_ | refine Vf ?_); (try simp only [go_sem,hP]); (repeat refine qJ ?_))))
 (refine AS_pu (k18) ?_; simp only [go_sem,hP,List.length_map,hXl,w1,w2,beq_self_eq_true,bne_self_eq_false,Bool.not_true,Bool.or_false]; (repeat refine qJ ?_); (repeat ((first | refine Va ?_ | refine Vb ?_ | refine Vc ?_ | refine Vd ?_ | refine Ve ?_ | refine Vf ?_); (try simp only [go_sem,hP,List.length_map,hXl,w1,w2,beq_self_eq_true,bne_self_eq_false,Bool.not_true,Bool.or_false]); (repeat refine qJ ?_))))
 (refine WV_cond rfl (fun h => ?_) (fun h => ?_))
 ·simp at h
 (repeat ((first | refine Va ?_ | refine Vb ?_ | refine Vc ?_ | refine Vd ?_ | refine Ve ?_ | refine Vf ?_); (try simp only [go_sem,hP]); (repeat refine qJ ?_)))
 (refine WV_cond rfl (fun h => ?_) (fun h => ?_))
 ·(repeat ((first | refine Va ?_ | refine Vb ?_ | refine Vc ?_ | refine Vd ?_ | refine Ve ?_ | refine Vf ?_); (try simp only [go_sem,hP]); (repeat refine qJ ?_)))
  (refine AS_pu (hwk) ?_; simp only [go_sem,hP]; (repeat refine qJ ?_); (repeat ((first | refine Va ?_ | refine Vb ?_ | refine Vc ?_ | refine Vd ?_ | refine Ve ?_ | refine Vf ?_); (try simp only [go_sem,hP]); (repeat refine qJ ?_))))
  (refine WV_ret ?_; simp only [thenQ,inQ,RetQ,RetOk,resAll,resA]; simp only [go_sem,tupA,AV.port,AV.portL,exists_eq_left']; (first | exact AVle.of rfl | refine AVle.of ?_ | skip))
 have ho:0 ≤ o ∧ o < (nW:Int):=by
  simp at h
  omega
 clear h
 obtain ⟨ho1,ho2⟩:=ho
 have hwo:=w64 (n:=o + 1) (by omega) (by omega)
 obtain ⟨j,hj⟩ : ∃ j:Nat,o = j:=⟨o.toNat,by omega⟩
 have hj1:j < W.length:=by omega
 have hjn:(o + 1).toNat = j + 1:=by omega
 have hjo:o.toNat = j:=by omega
 have hle1:o ≤ (nW:Int):=by omega
 have hle2:o + 1 ≤ (nW:Int):=by omega
 have hle0:0 ≤ o + 1:=by omega
 have hls:=hlss j hj1 ((W.take j ++ W.drop (j + 1)).map icst) rfl
 have hZ:((W.take j ++ W.drop (j + 1)).map icst).map placeC = (Y.map placeC).take j ++ (Y.map placeC).drop (j + 1):=by rw [hYd,List.map_append,List.map_take,List.map_drop]
 have hZl:((W.take j ++ W.drop (j + 1)).map icst).length ≤ 1000000:=by
  rw [List.length_map,List.length_append,List.length_take,List.length_drop]; omega
 generalize (W.take j ++ W.drop (j + 1)).map icst = Z at hls hZ hZl
 have m33:=h33 Z hZl
 have m19:=plain19' (hsk Z)
 have mtl:=text_len (hsk Z)
 have m18:=mend18 (textG (tld ts ms Z)) (by omega)
 rw [hls] at m18
 have m33':FSpec Tryd.prog 33 [.c (strsV (spo ts ms)),.c (strsV (bookB ts)),.c (.sl 2 (Z.map placeC))] (.c (strsV (tld ts ms Z))):=m33
 have n1:=places_two Y
 have n3:(Y.map placeC).length = nW:=by rw [List.length_map,hYl]
 refine WV_skip ?_
 refine WV_keep [2,8,10,13] ?_
 simp only [go_sem]
 refine WV_seq_ ?_
 generalize hD:Y.map placeC = D at *
 (refine WV_op ?_; simp only [go_sem,hP,n3,hjn,hjo,hwo,ho1,hle0,hle1,hle2]; (repeat refine qJ ?_))
 have z1:List.drop ((0:Nat):Int).toNat (List.take j D) = D.take j:=rfl
 have z2:List.drop (j + 1) (List.take (nW:Int).toNat D) = D.drop (j + 1):=by rw [Int.toNat_natCast,List.take_of_length_le (by omega)]
 have z3:(D.take j).length ≤ 2000:=by rw [List.length_take]; omega
 have z4:(D.drop (j + 1)).length ≤ 2000:=by rw [List.length_drop]; omega
 have hall:∀ l:List (List CD),(∀ e ∈ l,e ∈ D) → (l.all fun e => e.length == 2) = true:=fun l hl => by
  rw [List.all_eq_true] at n1 ⊢
  exact fun e he => n1 e (hl e he)
 have z5:=hall (D.take j) fun e he => List.mem_of_mem_take he
 have z6:=hall (D.drop (j + 1)) fun e he => List.mem_of_mem_drop he
 rw [z1,z2,← hZ]
 refine ⟨⟨z5,by omega,by omega⟩,Int.le_refl _,⟨z6,by omega,by omega⟩,?_⟩
 (repeat ((first | refine Va ?_ | refine Vb ?_ | refine Vc ?_ | refine Vd ?_ | refine Ve ?_ | refine Vf ?_); (try simp only [go_sem,hP]); (repeat refine qJ ?_)))
 (refine AS_pu (h34) ?_; simp only [go_sem,hP]; (repeat refine qJ ?_); (repeat ((first | refine Va ?_ | refine Vb ?_ | refine Vc ?_ | refine Vd ?_ | refine Ve ?_ | refine Vf ?_); (try simp only [go_sem,hP]); (repeat refine qJ ?_))))
 (refine AS_pu (m33') ?_; simp only [go_sem,hP]; (repeat refine qJ ?_); (repeat ((first | refine Va ?_ | refine Vb ?_ | refine Vc ?_ | refine Vd ?_ | refine Ve ?_ | refine Vf ?_); (try simp only [go_sem,hP]); (repeat refine qJ ?_))))
 (refine AS_pu (m19) ?_; simp only [go_sem,hP]; (repeat refine qJ ?_); (repeat ((first | refine Va ?_ | refine Vb ?_ | refine Vc ?_ | refine Vd ?_ | refine Ve ?_ | refine Vf ?_); (try simp only [go_sem,hP]); (repeat refine qJ ?_))))
 (refine AS_pu (m18) ?_; simp only [go_sem,hP]; (repeat refine qJ ?_); (repeat ((first | refine Va ?_ | refine Vb ?_ | refine Vc ?_ | refine Vd ?_ | refine Ve ?_ | refine Vf ?_); (try simp only [go_sem,hP]); (repeat refine qJ ?_))))
 (refine AG_pu (fun hG => hwk) ?_; simp only [go_sem,hP,beq_self_eq_true,Bool.and_self,Bool.true_and,true_implies,Bool.true_eq_false,false_implies,and_true]; (repeat refine qJ ?_); (repeat ((first | refine Va ?_ | refine Vb ?_ | refine Vc ?_ | refine Vd ?_ | refine Ve ?_ | refine Vf ?_); (try simp only [go_sem,hP,beq_self_eq_true,Bool.and_self,Bool.true_and,true_implies,Bool.true_eq_false,false_implies,and_true]); (repeat refine qJ ?_))))
 (refine WV_ret ?_; simp only [thenQ,inQ,RetQ,RetOk,resAll,resA]; simp only [go_sem,tupA,AV.port,AV.portL,exists_eq_left']; (first | exact AVle.of rfl | refine AVle.of ?_ | skip))
end Go.Proofs.YtlmfdmlochpfcaaDoor
