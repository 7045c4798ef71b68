/-
  Contracts of the layer's functions, of the laws' helpers and of the law; conditions: as each theorem states.
-/
import Derived.Test.YtlmfdmlochpfcaaDoorU6
set_option linter.unusedVariables false
set_option linter.unusedSimpArgs false
namespace Go.Proofs.YtlmfdmlochpfcaaDoor
open Go Go.V
abbrev o11_0:List Ins:=[⟨some 2,.mv (.k (.c (.bool false))),none,true⟩]
abbrev o11_1:List Ins:=[⟨some 16,.mv (.t 0),none,true⟩,
 ⟨some 17,.call (.k (.fn 26 [])) [(.t 16)],none,true⟩]
abbrev o11_2:List Ins:=[⟨some 18,.call (.k (.fn 16 [])) [],none,true⟩,
 ⟨some 2,.mv (.t 18),none,true⟩]
abbrev v11_3:VC:=(.seq (.ops o11_2) .ret)
abbrev v11_4:VC:=(.cond (.t 17) v11_3 .skip)
abbrev o11_5:List Ins:=[⟨some 20,.mv (.t 0),none,true⟩,
 ⟨some 21,.call (.k (.fn 30 [])) [(.t 20)],none,true⟩,
 ⟨some 19,.mv (.t 21),none,true⟩,
 ⟨some 22,.ext (.t 19) 0,none,true⟩,
 ⟨some 23,.ext (.t 19) 1,none,true⟩,
 ⟨some 3,.mv (.t 22),none,true⟩,
 ⟨some 4,.mv (.t 23),none,true⟩]
abbrev o11_6:List Ins:=[⟨some 25,.mv (.t 0),none,true⟩,
 ⟨some 26,.call (.k (.fn 38 [])) [(.t 25)],none,true⟩,
 ⟨some 24,.mv (.t 26),none,true⟩,
 ⟨some 27,.ext (.t 24) 0,none,true⟩,
 ⟨some 28,.ext (.t 24) 1,none,true⟩,
 ⟨some 5,.mv (.t 27),none,true⟩,
 ⟨some 6,.mv (.t 28),none,true⟩]
abbrev o11_7:List Ins:=[⟨some 30,.mv (.t 0),none,true⟩,
 ⟨some 31,.call (.k (.fn 31 [])) [(.t 30)],none,true⟩,
 ⟨some 29,.mv (.t 31),none,true⟩,
 ⟨some 32,.ext (.t 29) 0,none,true⟩,
 ⟨some 33,.ext (.t 29) 1,none,true⟩,
 ⟨some 7,.mv (.t 32),none,true⟩,
 ⟨some 8,.mv (.t 33),none,true⟩]
abbrev o11_8:List Ins:=[⟨some 35,.mv (.t 0),none,true⟩,
 ⟨some 36,.call (.k (.fn 39 [])) [(.t 35)],none,true⟩,
 ⟨some 34,.mv (.t 36),none,true⟩,
 ⟨some 37,.ext (.t 34) 0,none,true⟩,
 ⟨some 38,.ext (.t 34) 1,none,true⟩,
 ⟨some 9,.mv (.t 37),none,true⟩,
 ⟨some 10,.mv (.t 38),none,true⟩]
abbrev o11_9:List Ins:=[⟨some 40,.mv (.t 0),none,true⟩,
 ⟨some 41,.call (.k (.fn 36 [])) [(.t 40)],none,true⟩,
 ⟨some 39,.mv (.t 41),none,true⟩,
 ⟨some 42,.ext (.t 39) 0,none,true⟩,
 ⟨some 43,.ext (.t 39) 1,none,true⟩,
 ⟨some 11,.mv (.t 42),none,true⟩,
 ⟨some 12,.mv (.t 43),none,true⟩]
abbrev o11_10:List Ins:=[⟨some 44,.mv (.t 3),none,true⟩,
 ⟨some 45,.mv (.t 5),none,true⟩,
 ⟨some 46,.call (.k (.fn 35 [])) [(.t 44),(.t 45)],none,true⟩,
 ⟨some 47,.un .not (.t 46),none,true⟩,
 ⟨some 48,.mv (.t 47),none,true⟩,
 ⟨some 49,.mv (.t 4),(some (48,false)),true⟩,
 ⟨some 50,.mv (.t 6),(some (48,false)),true⟩,
 ⟨some 51,.bin .neq (.t 49) (.t 50),(some (48,false)),true⟩,
 ⟨some 52,.pick (.t 48) (.k (.c (.bool true))) (.t 51),none,true⟩,
 ⟨some 53,.mv (.t 52),none,true⟩,
 ⟨some 54,.mv (.t 7),(some (53,false)),true⟩,
 ⟨some 55,.mv (.t 9),(some (53,false)),true⟩,
 ⟨some 56,.bin .neq (.t 54) (.t 55),(some (53,false)),true⟩,
 ⟨some 57,.pick (.t 53) (.k (.c (.bool true))) (.t 56),none,true⟩,
 ⟨some 58,.mv (.t 57),none,true⟩,
 ⟨some 59,.mv (.t 8),(some (58,false)),true⟩,
 ⟨some 60,.mv (.t 10),(some (58,false)),true⟩,
 ⟨some 61,.bin .neq (.t 59) (.t 60),(some (58,false)),true⟩,
 ⟨some 62,.pick (.t 58) (.k (.c (.bool true))) (.t 61),none,true⟩,
 ⟨some 63,.mv (.t 62),none,true⟩,
 ⟨some 64,.mv (.t 12),(some (63,false)),true⟩,
 ⟨some 65,.mv (.t 6),(some (63,false)),true⟩,
 ⟨some 66,.bin .neq (.t 64) (.t 65),(some (63,false)),true⟩,
 ⟨some 67,.pick (.t 63) (.k (.c (.bool true))) (.t 66),none,true⟩,
 ⟨some 68,.mv (.t 67),none,true⟩,
 ⟨some 69,.mv (.t 11),(some (68,false)),true⟩,
 ⟨some 70,.len (.t 69),(some (68,false)),true⟩,
 ⟨some 71,.mv (.t 9),(some (68,false)),true⟩,
 ⟨some 72,.bin .neq (.t 70) (.t 71),(some (68,false)),true⟩,
 ⟨some 73,.pick (.t 68) (.k (.c (.bool true))) (.t 72),none,true⟩]
abbrev o11_11:List Ins:=[⟨some 2,.mv (.k (.c (.bool false))),none,true⟩]
abbrev v11_12:VC:=(.seq (.ops o11_11) .ret)
abbrev v11_13:VC:=(.cond (.t 73) v11_12 .skip)
abbrev o11_14:List Ins:=[⟨some 13,.mv (.k (.c (.int .i64 0))),none,true⟩]
abbrev o11_15:List Ins:=[⟨some 74,.mv (.t 13),none,true⟩,
 ⟨some 75,.mv (.t 11),none,true⟩,
 ⟨some 76,.len (.t 75),none,true⟩,
 ⟨some 77,.bin .lss (.t 74) (.t 76),none,true⟩]
abbrev v11_16:VC:=(.cond (.t 77) .skip (.exit 0))
abbrev o11_17:List Ins:=[⟨some 14,.mv (.k (.c (.bool false))),none,true⟩]
abbrev o11_18:List Ins:=[⟨some 15,.mv (.k (.c (.int .i64 0))),none,true⟩]
abbrev o11_19:List Ins:=[⟨some 80,.mv (.t 15),none,true⟩,
 ⟨some 81,.mv (.t 5),none,true⟩,
 ⟨some 82,.len (.t 81),none,true⟩,
 ⟨some 83,.bin .lss (.t 80) (.t 82),none,true⟩]
abbrev v11_20:VC:=(.cond (.t 83) .skip (.exit 2))
abbrev o11_21:List Ins:=[⟨some 86,.mv (.t 14),none,true⟩,
 ⟨some 87,.mv (.t 86),none,true⟩,
 ⟨some 88,.mv (.t 5),(some (87,false)),false⟩,
 ⟨some 89,.mv (.t 15),(some (87,false)),false⟩,
 ⟨some 90,.ia 2 (.t 88) (.t 89),(some (87,false)),false⟩,
 ⟨some 91,.ld false 2 (.t 90),(some (87,false)),false⟩,
 ⟨some 92,.mv (.t 11),(some (87,false)),false⟩,
 ⟨some 93,.mv (.t 13),(some (87,false)),false⟩,
 ⟨some 94,.ia 2 (.t 92) (.t 93),(some (87,false)),false⟩,
 ⟨some 95,.ld false 2 (.t 94),(some (87,false)),false⟩,
 ⟨some 96,.seq false [(0,true),(1,true)] (.t 91) (.t 95),(some (87,false)),true⟩,
 ⟨some 97,.pick (.t 87) (.k (.c (.bool true))) (.t 96),none,true⟩,
 ⟨some 14,.mv (.t 97),none,true⟩]
abbrev o11_22:List Ins:=[⟨some 84,.mv (.t 15),none,true⟩,
 ⟨some 85,.bin .add (.t 84) (.k (.c (.int .i64 1))),none,true⟩,
 ⟨some 15,.mv (.t 85),none,true⟩]
abbrev v11_23:VC:=(.seq (.block 3 (.dops o11_21)) (.ops o11_22))
abbrev v11_24:VC:=(.seq (.seq (.ops o11_19) v11_20) v11_23)
-- K11_2: changed and kept: [15,14]
abbrev v11_25:VC:=(.loop v11_24)
abbrev v11_26:VC:=(.block 2 v11_25)
abbrev o11_27:List Ins:=[⟨some 98,.mv (.t 14),none,true⟩,
 ⟨some 99,.un .not (.t 98),none,true⟩]
abbrev o11_28:List Ins:=[⟨some 2,.mv (.k (.c (.bool false))),none,true⟩]
abbrev v11_29:VC:=(.seq (.ops o11_28) .ret)
abbrev v11_30:VC:=(.cond (.t 99) v11_29 .skip)
abbrev v11_31:VC:=(.seq (.ops o11_27) v11_30)
abbrev v11_32:VC:=(.seq (.seq (.ops o11_18) v11_26) v11_31)
abbrev v11_33:VC:=(.seq (.ops o11_17) v11_32)
abbrev o11_34:List Ins:=[⟨some 78,.mv (.t 13),none,true⟩,
 ⟨some 79,.bin .add (.t 78) (.k (.c (.int .i64 1))),none,true⟩,
 ⟨some 13,.mv (.t 79),none,true⟩]
abbrev v11_35:VC:=(.seq (.block 1 v11_33) (.ops o11_34))
abbrev v11_36:VC:=(.seq (.seq (.ops o11_15) v11_16) v11_35)
-- K11_1: changed and kept: [13]
abbrev v11_37:VC:=(.loop v11_36)
abbrev v11_38:VC:=(.block 0 v11_37)
abbrev o11_39:List Ins:=[⟨some 100,.mv (.t 6),none,true⟩,
 ⟨some 101,.bin .neq (.t 100) (.k (.c (.int .i64 0))),none,true⟩,
 ⟨some 102,.mv (.t 101),none,true⟩,
 ⟨some 103,.mv (.t 0),(some (102,false)),true⟩,
 ⟨some 104,.mv (.t 11),(some (102,false)),true⟩,
 ⟨some 105,.call (.k (.fn 40 [])) [(.t 103),(.t 104)],(some (102,false)),true⟩,
 ⟨some 106,.pick (.t 102) (.k (.c (.bool true))) (.t 105),none,true⟩,
 ⟨some 107,.mv (.t 106),none,true⟩,
 ⟨some 108,.call (.k (.fn 16 [])) [],(some (107,true)),true⟩,
 ⟨some 109,.pick (.t 107) (.t 108) (.k (.c (.bool false))),none,true⟩,
 ⟨some 2,.mv (.t 109),none,true⟩]
abbrev v11_40:VC:=(.seq (.ops o11_39) .ret)
abbrev v11_41:VC:=(.seq (.seq (.ops o11_14) v11_38) v11_40)
abbrev v11_42:VC:=(.seq (.seq (.ops o11_10) v11_13) v11_41)
abbrev v11_43:VC:=(.seq (.ops o11_9) v11_42)
abbrev v11_44:VC:=(.seq (.ops o11_8) v11_43)
abbrev v11_45:VC:=(.seq (.ops o11_7) v11_44)
abbrev v11_46:VC:=(.seq (.ops o11_6) v11_45)
abbrev v11_47:VC:=(.seq (.ops o11_5) v11_46)
abbrev v11_48:VC:=(.seq (.seq (.ops o11_1) v11_4) v11_47)
def ir11:FC:=⟨1,110,[.t 2],(.seq (.ops o11_0) v11_48)⟩
theorem c11:compM Tryd.prog [] 11 = some ir11:=by kernel_rfl
attribute [local go_sem] Nat.reduceEqDiff Nat.reduceAdd Nat.reduceMul reduceIte Nat.reduceLeDiff Nat.reduceLT Nat.reduceBEq reduceCtorEq
theorem prn_eq (a b:Nat × Nat):((a.1:Int) == (b.1:Int) && (a.2:Int) == (b.2:Int)) = decide (a = b):=by
 rw [Bool.eq_iff_iff]
 simp only [Bool.and_eq_true,beq_iff_eq,decide_eq_true_eq]
 exact ⟨fun h => Prod.ext (by omega) (by omega),fun h => h ▸ ⟨rfl,rfl⟩⟩
set_option maxRecDepth 20000 in
set_option maxHeartbeats 16000000 in
theorem bookLeft11 (s:List UInt8):FSpec Tryd.prog 11 [sv s] (bv true):=by
 have hmax:maxLen = 9223372036854775807:=rfl
 have hwk:=works16
 refine FSpec_of c11 (Nat.le_refl _) (by decide) fun C hP hN hC hL => ?_; rw [init_st]
 simp only [ir11]
 (repeat ((first | refine Va ?_ | refine Vb ?_ | refine Vc ?_ | refine Vd ?_ | refine Ve ?_ | refine Vf ?_); (try simp only [go_sem,hP]); (repeat refine qJ ?_)))
 (refine AS_pu (large26 s) ?_; simp only [go_sem,hP]; (repeat refine qJ ?_); (repeat ((first | refine Va ?_ | refine Vb ?_ | refine Vc ?_ | refine Vd ?_ | refine Ve ?_ | refine Vf ?_); (try simp only [go_sem,hP]); (repeat refine qJ ?_))))
 by_cases hl:2000 < s.length
 ·(refine WV_cond rfl (fun h => ?_) (fun h => ?_))
  ·(repeat ((first | refine Va ?_ | refine Vb ?_ | refine Vc ?_ | refine Vd ?_ | refine Ve ?_ | refine Vf ?_); (try simp only [go_sem,hP]); (repeat refine qJ ?_)))
   (refine AS_pu (hwk) ?_; simp only [go_sem,hP]; (repeat refine qJ ?_); (repeat ((first | refine Va ?_ | refine Vb ?_ | refine Vc ?_ | refine Vd ?_ | refine Ve ?_ | refine Vf ?_); (try simp only [go_sem,hP]); (repeat refine qJ ?_))))
   (refine WV_ret ?_; simp only [thenQ,inQ,RetQ,RetOk,resAll,resA]; simp only [go_sem,tupA,AV.port,AV.portL,exists_eq_left']; (first | exact AVle.of rfl | refine AVle.of ?_ | skip))
  ·simp at h; omega
 have h1:=left30 s (by omega)
 have h2:=left38 s (by omega)
 have h3:=fewest31 s (by omega)
 have h4:=fewest39 s (by omega)
 have h5:=which36 s (by omega)
 have hen:=fun h => enough_true (s:=s) h
 obtain ⟨hi,hlen⟩:=leftR_in s
 have hcl:=circ_len (leftR s).1
 have hcm:=fun m => circ_mem (ms:=(leftR s).1) (p:=m)
 have hci:∀ m ∈ circ (leftR s).1,m.1 ≤ 1000000 ∧ m.2 ≤ 1000000:=fun m hm => by have:=hi m (hcm m hm); omega
 have h40:=enough40 s (by omega) (circ (leftR s).1) (by omega) hci
 have hc0:(leftR s).2 ≠ 0 → (circ (leftR s).1).length = 0:=fun h => by
  have e:(leftR s).1 = []:=by
   unfold leftR at h ⊢
   cases hq:parseP s with
   | none => rfl
   | some rows => rw [hq] at h; exact (h rfl).elim
  rw [e]; rfl
 rw [leftG_eq] at h1 h3 h5
 have hcc:(if (leftR s).2 = 0 then ((circ (leftR s).1).length:Int) else 0) = ((circ (leftR s).1).length:Int):=by
  by_cases h0:(leftR s).2 = 0
  ·rw [if_pos h0]
  ·rw [if_neg h0,hc0 h0]; rfl
 rw [hcc] at h4
 generalize leftR s = p at *
 obtain ⟨W,hW⟩ : ∃ W,W = circ p.1:=⟨_,rfl⟩
 rw [← hW] at h3 h4 h5 hen hcl hcm hci h40
 have h35:=same35 (p.1.map icst) (p.1.map icst) (by rw [List.length_map]; omega)
 rw [← marksC_places,show (p.1.map icst == p.1.map icst) = true from beq_self_eq_true _] at h35
 have h1':FSpec Tryd.prog 30 [sv s] (.tup [.c (marksC p.1),iv p.2]):=h1
 have h5':FSpec Tryd.prog 36 [sv s] (.tup [.c (marksC W),iv p.2]):=h5
 clear h1 h5
 (refine WV_cond rfl (fun h => ?_) (fun h => ?_))
 ·simp at h; omega
 (repeat ((first | refine Va ?_ | refine Vb ?_ | refine Vc ?_ | refine Vd ?_ | refine Ve ?_ | refine Vf ?_); (try simp only [go_sem,hP]); (repeat refine qJ ?_)))
 (refine AS_pu (h1') ?_; simp only [go_sem,hP]; (repeat refine qJ ?_); (repeat ((first | refine Va ?_ | refine Vb ?_ | refine Vc ?_ | refine Vd ?_ | refine Ve ?_ | refine Vf ?_); (try simp only [go_sem,hP]); (repeat refine qJ ?_))))
 (refine AS_pu (h2) ?_; simp only [go_sem,hP]; (repeat refine qJ ?_); (repeat ((first | refine Va ?_ | refine Vb ?_ | refine Vc ?_ | refine Vd ?_ | refine Ve ?_ | refine Vf ?_); (try simp only [go_sem,hP]); (repeat refine qJ ?_))))
 (refine AS_pu (h3) ?_; simp only [go_sem,hP]; (repeat refine qJ ?_); (repeat ((first | refine Va ?_ | refine Vb ?_ | refine Vc ?_ | refine Vd ?_ | refine Ve ?_ | refine Vf ?_); (try simp only [go_sem,hP]); (repeat refine qJ ?_))))
 (refine AS_pu (h4) ?_; simp only [go_sem,hP]; (repeat refine qJ ?_); (repeat ((first | refine Va ?_ | refine Vb ?_ | refine Vc ?_ | refine Vd ?_ | refine Ve ?_ | refine Vf ?_); (try simp only [go_sem,hP]); (repeat refine qJ ?_))))
 (refine AS_pu (h5') ?_; simp only [go_sem,hP]; (repeat refine qJ ?_); (repeat ((first | refine Va ?_ | refine Vb ?_ | refine Vc ?_ | refine Vd ?_ | refine Ve ?_ | refine Vf ?_); (try simp only [go_sem,hP]); (repeat refine qJ ?_))))
 have hWl:(List.map mcd W).length = W.length:=List.length_map _
 (refine AS_pu (h35) ?_; simp only [go_sem,hP,marksC,hWl,bne_self_eq_false,Bool.not_true,Bool.false_or,Bool.or_false,Bool.or_self]; (repeat refine qJ ?_); (repeat ((first | refine Va ?_ | refine Vb ?_ | refine Vc ?_ | refine Vd ?_ | refine Ve ?_ | refine Vf ?_); (try simp only [go_sem,hP,marksC,hWl,bne_self_eq_false,Bool.not_true,Bool.false_or,Bool.or_false,Bool.or_self]); (repeat refine qJ ?_))))
 (refine WV_cond rfl (fun h => ?_) (fun h => ?_))
 ·simp at h
 (repeat ((first | refine Va ?_ | refine Vb ?_ | refine Vc ?_ | refine Vd ?_ | refine Ve ?_ | refine Vf ?_); (try simp only [go_sem,hP]); (repeat refine qJ ?_)))
 refine WV_loopS (fun a:Nat => ⟨upd (upd (upd (upd (upd e0 0 (sv s)) 5 (.c (.sl 2 (p.1.map mcd)))) 6 (iv p.2)) 11 (.c (.sl 2 (W.map mcd)))) 13 (iv a),o0⟩) (fun a => a ≤ W.length) (fun a => W.length - a) 0 (Nat.zero_le _) ?_ ?_
 ·exact Sub_au
 intro a ha0
 (repeat ((first | refine Va ?_ | refine Vb ?_ | refine Vc ?_ | refine Vd ?_ | refine Ve ?_ | refine Vf ?_); (try simp only [go_sem,hP,List.length_map]); (repeat refine qJ ?_)))
 (refine WV_cond rfl (fun h => ?_) (fun h => ?_))
 ·have ha:a < W.length:=by simpa using h
  have hw2:=w64 (n:=(a:Int) + 1) (by omega) (by omega)
  have hgd:(List.map mcd W).getD a [] = mcd W[a]:=map_getD ha
  have hm:=hcm _ (List.getElem_mem ha)
  generalize W[a] = m at hgd hm
  (refine WV_skip ?_; simp only [go_sem])
  (repeat ((first | refine Va ?_ | refine Vb ?_ | refine Vc ?_ | refine Vd ?_ | refine Ve ?_ | refine Vf ?_); (try simp only [go_sem,hP]); (repeat refine qJ ?_)))
  refine WV_loopS (fun b:Nat => ⟨upd (upd (upd (upd (upd (upd (upd e0 0 (sv s)) 5 (.c (.sl 2 (p.1.map mcd)))) 6 (iv p.2)) 11 (.c (.sl 2 (W.map mcd)))) 13 (iv a)) 15 (iv b)) 14 (bv ((p.1.take b).contains m)),o0⟩) (fun b => b ≤ p.1.length) (fun b => p.1.length - b) 0 (Nat.zero_le _) ?_ ?_
  ·exact Sub_au
  intro b hb0
  (repeat ((first | refine Va ?_ | refine Vb ?_ | refine Vc ?_ | refine Vd ?_ | refine Ve ?_ | refine Vf ?_); (try simp only [go_sem,hP,List.length_map]); (repeat refine qJ ?_)))
  (refine WV_cond rfl (fun h => ?_) (fun h => ?_))
  ·have hb:b < p.1.length:=by simpa using h
   have hw3:=w64 (n:=(b:Int) + 1) (by omega) (by omega)
   have hgb:(List.map mcd p.1).getD b [] = mcd p.1[b]:=map_getD hb
   have hts:=List.take_succ_eq_append_getElem hb
   have hco:(p.1.take (b + 1)).contains m = ((p.1.take b).contains m || decide (p.1[b] = m)):=by
    rw [hts,Bool.eq_iff_iff,Bool.or_eq_true,List.contains_iff_mem,List.contains_iff_mem,decide_eq_true_eq,List.mem_append,List.mem_singleton]
    exact or_congr Iff.rfl ⟨fun h => h.symm,fun h => h.symm⟩
   generalize p.1[b] = q at hgb hco
   generalize (p.1.take b).contains m = z at hco
   (refine WV_skip ?_; simp only [go_sem])
   refine WV_seq_ (WV_block ?_)
   (refine WV_op ?_; simp only [go_sem,hP,hgd,hgb,mcd,List.length_map,Int.toNat_natCast,Int.ofNat_lt,ha,hb,Int.natCast_nonneg]; (repeat refine qJ ?_))
   (repeat ((first | refine Va ?_ | refine Vb ?_ | refine Vc ?_ | refine Vd ?_ | refine Ve ?_ | refine Vf ?_); (try simp only [go_sem,hP,hw3]); (repeat refine qJ ?_)))
   refine ⟨b + 1,by omega,by omega,?_⟩
   rw [hco,← prn_eq]
   exact Sub_au
  ·have hb:b = p.1.length:=by simp at h; omega
   subst hb
   rw [List.take_length,List.contains_iff_mem.2 hm]
   refine WV_exit ?_
   simp only [thenQ,inQ,reduceIte,beq_self_eq_true]
   (repeat ((first | refine Va ?_ | refine Vb ?_ | refine Vc ?_ | refine Vd ?_ | refine Ve ?_ | refine Vf ?_); (try simp only [go_sem,hP]); (repeat refine qJ ?_)))
   (refine WV_cond rfl (fun h => ?_) (fun h => ?_))
   ·simp at h
   ·(repeat ((first | refine Va ?_ | refine Vb ?_ | refine Vc ?_ | refine Vd ?_ | refine Ve ?_ | refine Vf ?_); (try simp only [go_sem,hP,hw2]); (repeat refine qJ ?_)))
    refine ⟨a + 1,by omega,by omega,?_⟩
    exact Sub_au
 ·have ha:a = W.length:=by simp at h; omega
  subst ha
  refine WV_exit ?_
  simp only [thenQ,inQ,reduceIte,beq_self_eq_true]
  (repeat ((first | refine Va ?_ | refine Vb ?_ | refine Vc ?_ | refine Vd ?_ | refine Ve ?_ | refine Vf ?_); (try simp only [go_sem,hP]); (repeat refine qJ ?_)))
  have hor:(p.2 != 0 || enoughR s W) = true:=by
   by_cases h0:p.2 = 0
   ·rw [hen h0,Bool.or_true]
   ·simp [h0]
  (refine AG_pu (fun hG => h40) ?_; simp only [go_sem,hP,marksC,hor,beq_self_eq_true,Bool.and_self,Bool.true_and,true_implies,Bool.true_eq_false,false_implies,and_true]; (repeat refine qJ ?_); (repeat ((first | refine Va ?_ | refine Vb ?_ | refine Vc ?_ | refine Vd ?_ | refine Ve ?_ | refine Vf ?_); (try simp only [go_sem,hP,marksC,hor,beq_self_eq_true,Bool.and_self,Bool.true_and,true_implies,Bool.true_eq_false,false_implies,and_true]); (repeat refine qJ ?_))))
  (refine AG_pu (fun hG => hwk) ?_; simp only [go_sem,hP,beq_self_eq_true,Bool.and_self,Bool.true_and,true_implies,Bool.true_eq_false,false_implies,and_true]; (repeat refine qJ ?_); (repeat ((first | refine Va ?_ | refine Vb ?_ | refine Vc ?_ | refine Vd ?_ | refine Ve ?_ | refine Vf ?_); (try simp only [go_sem,hP,beq_self_eq_true,Bool.and_self,Bool.true_and,true_implies,Bool.true_eq_false,false_implies,and_true]); (repeat refine qJ ?_))))
  (refine WV_ret ?_; simp only [thenQ,inQ,RetQ,RetOk,resAll,resA]; simp only [go_sem,tupA,AV.port,AV.portL,exists_eq_left']; (first | exact AVle.of rfl | refine AVle.of ?_ | skip))
end Go.Proofs.YtlmfdmlochpfcaaDoor
