/-
  Contracts of the layer's functions, of the laws' helpers and of the law; conditions: as each theorem states.
-/
import Derived.Test.YtlmfdmlochpfcaaDoorV3
import Derived.Test.YtlmfdmlochpfcaaDoorV2
import Derived.Test.YtlmfdmlochpfcaaDoorChecked
set_option linter.unusedVariables false
set_option linter.unusedSimpArgs false
namespace Go.Proofs.YtlmfdmlochpfcaaDoor
open Go Go.V
abbrev o79_0:List Ins:=[⟨some 2,.mv (.k (.c (.int .i64 0))),none,true⟩]
abbrev o79_1:List Ins:=[⟨some 4,.mv (.t 0),none,true⟩,
 ⟨some 5,.bin .lss (.t 4) (.k (.c (.int .u8 32))),none,true⟩,
 ⟨some 6,.mv (.t 5),none,true⟩,
 ⟨some 7,.mv (.t 0),(some (6,false)),true⟩,
 ⟨some 8,.bin .gtr (.t 7) (.k (.c (.int .u8 126))),(some (6,false)),true⟩,
 ⟨some 9,.pick (.t 6) (.k (.c (.bool true))) (.t 8),none,true⟩,
 ⟨some 10,.mv (.t 9),none,true⟩,
 ⟨some 11,.mv (.t 0),(some (10,false)),true⟩,
 ⟨some 12,.bin .eql (.t 11) (.k (.c (.int .u8 63))),(some (10,false)),true⟩,
 ⟨some 13,.pick (.t 10) (.k (.c (.bool true))) (.t 12),none,true⟩,
 ⟨some 3,.mv (.t 13),none,true⟩]
abbrev o79_2:List Ins:=[⟨some 2,.mv (.k (.c (.int .i64 (-1)))),none,true⟩]
abbrev v79_3:VC:=(.seq (.ops o79_2) .ret)
abbrev o79_4:List Ins:=[⟨some 15,.mv (.t 0),none,true⟩,
 ⟨some 16,.bin .lss (.t 15) (.k (.c (.int .u8 63))),none,true⟩,
 ⟨some 14,.mv (.t 16),none,true⟩]
abbrev o79_5:List Ins:=[⟨some 17,.mv (.t 0),none,true⟩,
 ⟨some 18,.prim (.conv .i64) [(.t 17)],none,true⟩,
 ⟨some 19,.bin .sub (.t 18) (.k (.c (.int .i64 32))),none,true⟩,
 ⟨some 2,.mv (.t 19),none,true⟩]
abbrev v79_6:VC:=(.seq (.ops o79_5) .ret)
abbrev v79_7:VC:=(.cond (.t 14) v79_6 .skip)
abbrev v79_8:VC:=(.seq (.ops o79_4) v79_7)
abbrev v79_9:VC:=(.cond (.t 3) v79_3 v79_8)
abbrev v79_10:VC:=(.seq (.ops o79_1) v79_9)
abbrev o79_11:List Ins:=[⟨some 20,.mv (.t 0),none,true⟩,
 ⟨some 21,.prim (.conv .i64) [(.t 20)],none,true⟩,
 ⟨some 22,.bin .sub (.t 21) (.k (.c (.int .i64 32))),none,true⟩,
 ⟨some 23,.bin .sub (.t 22) (.k (.c (.int .i64 1))),none,true⟩,
 ⟨some 2,.mv (.t 23),none,true⟩]
abbrev v79_12:VC:=(.seq (.ops o79_11) .ret)
abbrev v79_13:VC:=(.seq (.block 0 v79_10) v79_12)
def ir79:FC:=⟨1,24,[.t 2],(.seq (.ops o79_0) v79_13)⟩
abbrev o22_0:List Ins:=[⟨some 2,.mv (.k (.c (.int .i64 0))),none,true⟩,
 ⟨some 3,.mv (.k (.c (.bool false))),none,true⟩]
abbrev o22_1:List Ins:=[⟨some 5,.mv (.t 0),none,true⟩,
 ⟨some 6,.bin .lss (.t 5) (.k (.c (.int .u8 32))),none,true⟩,
 ⟨some 7,.mv (.t 6),none,true⟩,
 ⟨some 8,.mv (.t 0),(some (7,false)),true⟩,
 ⟨some 9,.bin .gtr (.t 8) (.k (.c (.int .u8 126))),(some (7,false)),true⟩,
 ⟨some 10,.pick (.t 7) (.k (.c (.bool true))) (.t 9),none,true⟩,
 ⟨some 4,.mv (.t 10),none,true⟩]
abbrev o22_2:List Ins:=[⟨some 2,.mv (.k (.c (.int .i64 0))),none,true⟩,
 ⟨some 3,.mv (.k (.c (.bool false))),none,true⟩]
abbrev v22_3:VC:=(.seq (.ops o22_2) .ret)
abbrev o22_4:List Ins:=[⟨some 12,.mv (.t 0),none,true⟩,
 ⟨some 13,.bin .lss (.t 12) (.k (.c (.int .u8 63))),none,true⟩,
 ⟨some 11,.mv (.t 13),none,true⟩]
abbrev o22_5:List Ins:=[⟨some 14,.mv (.t 0),none,true⟩,
 ⟨some 15,.prim (.conv .i64) [(.t 14)],none,true⟩,
 ⟨some 16,.bin .sub (.t 15) (.k (.c (.int .i64 32))),none,true⟩,
 ⟨some 2,.mv (.t 16),none,true⟩,
 ⟨some 3,.mv (.k (.c (.bool true))),none,true⟩]
abbrev v22_6:VC:=(.seq (.ops o22_5) .ret)
abbrev o22_7:List Ins:=[⟨some 18,.mv (.t 0),none,true⟩,
 ⟨some 19,.bin .gtr (.t 18) (.k (.c (.int .u8 63))),none,true⟩,
 ⟨some 17,.mv (.t 19),none,true⟩]
abbrev o22_8:List Ins:=[⟨some 20,.mv (.t 0),none,true⟩,
 ⟨some 21,.prim (.conv .i64) [(.t 20)],none,true⟩,
 ⟨some 22,.bin .sub (.t 21) (.k (.c (.int .i64 33))),none,true⟩,
 ⟨some 2,.mv (.t 22),none,true⟩,
 ⟨some 3,.mv (.k (.c (.bool true))),none,true⟩]
abbrev v22_9:VC:=(.seq (.ops o22_8) .ret)
abbrev v22_10:VC:=(.cond (.t 17) v22_9 .skip)
abbrev v22_11:VC:=(.seq (.ops o22_7) v22_10)
abbrev v22_12:VC:=(.cond (.t 11) v22_6 v22_11)
abbrev v22_13:VC:=(.seq (.ops o22_4) v22_12)
abbrev v22_14:VC:=(.cond (.t 4) v22_3 v22_13)
abbrev v22_15:VC:=(.seq (.ops o22_1) v22_14)
abbrev o22_16:List Ins:=[⟨some 2,.mv (.k (.c (.int .i64 (-1)))),none,true⟩,
 ⟨some 3,.mv (.k (.c (.bool true))),none,true⟩]
abbrev v22_17:VC:=(.seq (.ops o22_16) .ret)
abbrev v22_18:VC:=(.seq (.block 0 v22_15) v22_17)
def ir22:FC:=⟨1,23,[.t 2,.t 3],(.seq (.ops o22_0) v22_18)⟩
abbrev o43_0:List Ins:=[⟨some 2,.mv (.k (.c (.bool false))),none,true⟩]
abbrev o43_1:List Ins:=[⟨some 3,.mv (.k (.c (.int .i64 0))),none,true⟩]
abbrev o43_2:List Ins:=[⟨some 6,.mv (.t 3),none,true⟩,
 ⟨some 7,.mv (.t 0),none,true⟩,
 ⟨some 8,.prim .slen [(.t 7)],none,true⟩,
 ⟨some 9,.bin .lss (.t 6) (.t 8),none,true⟩]
abbrev v43_3:VC:=(.cond (.t 9) .skip (.exit 0))
abbrev o43_4:List Ins:=[⟨some 13,.mv (.t 0),none,true⟩,
 ⟨some 14,.mv (.t 3),none,true⟩,
 ⟨some 15,.prim .sidx [(.t 13),(.t 14)],none,true⟩,
 ⟨some 16,.call (.k (.fn 22 [])) [(.t 15)],none,true⟩,
 ⟨some 12,.mv (.t 16),none,true⟩,
 ⟨some 17,.ext (.t 12) 0,none,true⟩,
 ⟨some 18,.ext (.t 12) 1,none,true⟩,
 ⟨some 4,.mv (.t 17),none,true⟩,
 ⟨some 5,.mv (.t 18),none,true⟩]
abbrev o43_5:List Ins:=[⟨some 19,.mv (.t 5),none,true⟩,
 ⟨some 20,.un .not (.t 19),none,true⟩,
 ⟨some 21,.mv (.t 20),none,true⟩,
 ⟨some 22,.mv (.t 4),(some (21,false)),true⟩,
 ⟨some 23,.bin .eql (.t 22) (.k (.c (.int .i64 (-1)))),(some (21,false)),true⟩,
 ⟨some 24,.pick (.t 21) (.k (.c (.bool true))) (.t 23),none,true⟩]
abbrev o43_6:List Ins:=[⟨some 2,.mv (.k (.c (.bool false))),none,true⟩]
abbrev v43_7:VC:=(.seq (.ops o43_6) .ret)
abbrev v43_8:VC:=(.cond (.t 24) v43_7 .skip)
abbrev v43_9:VC:=(.seq (.ops o43_5) v43_8)
abbrev v43_10:VC:=(.seq (.ops o43_4) v43_9)
abbrev o43_11:List Ins:=[⟨some 10,.mv (.t 3),none,true⟩,
 ⟨some 11,.bin .add (.t 10) (.k (.c (.int .i64 1))),none,true⟩,
 ⟨some 3,.mv (.t 11),none,true⟩]
abbrev v43_12:VC:=(.seq (.block 1 v43_10) (.ops o43_11))
abbrev v43_13:VC:=(.seq (.seq (.ops o43_2) v43_3) v43_12)
-- K43_1: changed and kept: [3]
abbrev K43_1:List Nat:=[0]
abbrev v43_14:VC:=(.loop v43_13)
abbrev v43_15:VC:=(.block 0 v43_14)
abbrev o43_16:List Ins:=[⟨some 25,.mv (.t 0),none,true⟩,
 ⟨some 26,.prim .slen [(.t 25)],none,true⟩,
 ⟨some 27,.bin .leq (.t 26) (.k (.c (.int .i64 30))),none,true⟩,
 ⟨some 2,.mv (.t 27),none,true⟩]
abbrev v43_17:VC:=(.seq (.ops o43_16) .ret)
abbrev v43_18:VC:=(.seq (.seq (.ops o43_1) v43_15) v43_17)
def ir43:FC:=⟨1,28,[.t 2],(.seq (.ops o43_0) v43_18)⟩
abbrev o54_0:List Ins:=[⟨some 2,.mv (.k (.c (.bool false))),none,true⟩]
abbrev o54_1:List Ins:=[⟨some 4,.mv (.t 0),none,true⟩,
 ⟨some 5,.prim .slen [(.t 4)],none,true⟩,
 ⟨some 6,.mv (.k (.c (.int .i64 0))),none,true⟩]
abbrev o54_2:List Ins:=[⟨some 7,.bin .lss (.t 6) (.t 5),none,true⟩]
abbrev o54_3:List Ins:=[⟨some 8,.mv (.t 6),none,true⟩,
 ⟨some 3,.mv (.t 8),none,true⟩]
abbrev o54_4:List Ins:=[⟨some 9,.mv (.t 0),none,true⟩,
 ⟨some 10,.mv (.t 3),none,true⟩,
 ⟨some 11,.prim .sidx [(.t 9),(.t 10)],none,true⟩,
 ⟨some 12,.call (.k (.fn 79 [])) [(.t 11)],none,true⟩,
 ⟨some 13,.bin .lss (.t 12) (.k (.c (.int .i64 0))),none,true⟩]
abbrev o54_5:List Ins:=[⟨some 2,.mv (.k (.c (.bool false))),none,true⟩]
abbrev v54_6:VC:=(.seq (.ops o54_5) .ret)
abbrev v54_7:VC:=(.cond (.t 13) v54_6 .skip)
abbrev v54_8:VC:=(.seq (.ops o54_4) v54_7)
abbrev v54_9:VC:=(.seq (.ops o54_3) v54_8)
abbrev o54_10:List Ins:=[⟨some 14,.bin .add (.t 6) (.k (.c (.int .i64 1))),none,true⟩,
 ⟨some 6,.mv (.t 14),none,true⟩]
abbrev v54_11:VC:=(.seq (.block 1 v54_9) (.ops o54_10))
abbrev v54_12:VC:=(.seq (.cond (.t 7) .skip (.exit 0)) v54_11)
abbrev v54_13:VC:=(.seq (.ops o54_2) v54_12)
-- K54_1: changed and kept: [6]
abbrev K54_1:List Nat:=[0,5]
abbrev v54_14:VC:=(.loop v54_13)
abbrev v54_15:VC:=(.block 0 v54_14)
abbrev o54_16:List Ins:=[⟨some 15,.mv (.t 0),none,true⟩,
 ⟨some 16,.prim .slen [(.t 15)],none,true⟩,
 ⟨some 17,.bin .leq (.t 16) (.k (.c (.int .i64 30))),none,true⟩,
 ⟨some 2,.mv (.t 17),none,true⟩]
abbrev v54_17:VC:=(.seq (.ops o54_16) .ret)
abbrev v54_18:VC:=(.seq (.seq (.ops o54_1) v54_15) v54_17)
def ir54:FC:=⟨1,18,[.t 2],(.seq (.ops o54_0) v54_18)⟩
abbrev o82_0:List Ins:=[⟨some 2,.mv (.k (.c (.int .u8 0))),none,true⟩]
abbrev o82_1:List Ins:=[⟨some 4,.mv (.t 0),none,true⟩,
 ⟨some 5,.bin .add (.t 4) (.k (.c (.int .i64 32))),none,true⟩,
 ⟨some 6,.prim (.conv .u8) [(.t 5)],none,true⟩,
 ⟨some 3,.mv (.t 6),none,true⟩]
abbrev o82_2:List Ins:=[⟨some 7,.mv (.t 3),none,true⟩,
 ⟨some 8,.bin .geq (.t 7) (.k (.c (.int .u8 63))),none,true⟩]
abbrev o82_3:List Ins:=[⟨some 9,.mv (.t 3),none,true⟩,
 ⟨some 10,.bin .add (.t 9) (.k (.c (.int .u8 1))),none,true⟩,
 ⟨some 3,.mv (.t 10),none,true⟩]
abbrev v82_4:VC:=(.cond (.t 8) (.ops o82_3) .skip)
abbrev o82_5:List Ins:=[⟨some 11,.mv (.t 3),none,true⟩,
 ⟨some 2,.mv (.t 11),none,true⟩]
abbrev v82_6:VC:=(.seq (.ops o82_5) .ret)
abbrev v82_7:VC:=(.seq (.seq (.ops o82_2) v82_4) v82_6)
abbrev v82_8:VC:=(.seq (.ops o82_1) v82_7)
def ir82:FC:=⟨1,12,[.t 2],(.seq (.ops o82_0) v82_8)⟩
theorem c79:compM Tryd.prog [] 79 = some ir79:=by kernel_rfl
theorem c22:compM Tryd.prog [] 22 = some ir22:=by kernel_rfl
theorem c43:compM Tryd.prog [] 43 = some ir43:=by kernel_rfl
theorem c54:compM Tryd.prog [] 54 = some ir54:=by kernel_rfl
theorem c82:compM Tryd.prog [] 82 = some ir82:=by kernel_rfl
attribute [local go_sem] Nat.reduceEqDiff Nat.reduceAdd Nat.reduceMul reduceIte Nat.reduceLeDiff Nat.reduceLT Nat.reduceBEq reduceCtorEq
abbrev iv (n:Int):AV:=.c (.int .i64 n)
abbrev bv (b:Bool):AV:=.c (.bool b)
abbrev u8 (b:UInt8):AV:=.c (.int .u8 b.toNat)
abbrev sv (s:List UInt8):AV:=.c (.str s)
def valB (b:UInt8):Int:=if b.toNat < 32 ∨ 126 < b.toNat ∨ b.toNat = 63 then -1 else if b.toNat < 63 then b.toNat - 32 else b.toNat - 33
def valR (b:UInt8):Int × Bool:=if b.toNat < 32 ∨ 126 < b.toNat then (0,false) else if b.toNat = 63 then (-1,true) else (valB b,true)
def sgn (n:Int):UInt8:=if n = -1 then 63 else if n < 31 then UInt8.ofNat (n + 32).toNat else UInt8.ofNat (n + 33).toNat
theorem sgn_nat {n:Int} (h:0 ≤ n ∧ n < 94):((sgn n).toNat:Int) = if n < 31 then n + 32 else n + 33:=by
 unfold sgn
 rw [if_neg (by omega)]
 split
 ·rw [UInt8.toNat_ofNat']
  omega
 ·rw [UInt8.toNat_ofNat']
  omega
theorem wrap_u8 {n:Int} (h:0 ≤ n ∧ n < 256):IntKind.u8.wrap n = n:=by
 simp [IntKind.wrap,IntKind.bits,IntKind.signed]
 omega
theorem value79 (b:UInt8):FSpec Tryd.prog 79 [u8 b] (iv (valB b)):=by
 have hb:b.toNat < 256:=b.toNat_lt
 have hwb:=w64 (n:=(b.toNat:Int)) (by omega) (by omega)
 have hw1:=w64 (n:=(b.toNat:Int) - 32) (by omega) (by omega)
 have hw2:=w64 (n:=(b.toNat:Int) - 32 - 1) (by omega) (by omega)
 refine FSpec_of c79 (Nat.le_refl _) (by decide) fun C hP hN hC hL => ?_; rw [init_st]
 simp only [ir79]
 (repeat ((first | refine Va ?_ | refine Vb ?_ | refine Vc ?_ | refine Vd ?_ | refine Ve ?_ | refine Vf ?_); (try simp only [go_sem,hP]); (repeat refine qJ ?_)))
 (refine WV_cond rfl (fun h => ?_) (fun h => ?_))
 ·have h:b.toNat < 32 ∨ 126 < b.toNat ∨ b.toNat = 63:=by simp at h; omega
  have e:valB b = -1:=by unfold valB; rw [if_pos h]
  rw [e]
  (repeat ((first | refine Va ?_ | refine Vb ?_ | refine Vc ?_ | refine Vd ?_ | refine Ve ?_ | refine Vf ?_); (try simp only [go_sem,hP]); (repeat refine qJ ?_)))
  (refine WV_ret ?_; simp only [thenQ,inQ,RetQ,RetOk,resAll,resA]; simp only [go_sem,tupA,AV.port,AV.portL,exists_eq_left']; (first | exact AVle.of rfl | refine AVle.of ?_ | skip))
 ·have h:¬ (b.toNat < 32 ∨ 126 < b.toNat ∨ b.toNat = 63):=by simp at h; omega
  (repeat ((first | refine Va ?_ | refine Vb ?_ | refine Vc ?_ | refine Vd ?_ | refine Ve ?_ | refine Vf ?_); (try simp only [go_sem,hP,hwb]); (repeat refine qJ ?_)))
  (refine WV_cond rfl (fun h => ?_) (fun h => ?_))
  ·have h3:b.toNat < 63:=by simp at h; omega
   have e:valB b = b.toNat - 32:=by unfold valB; rw [if_neg (by assumption),if_pos h3]
   rw [e]
   (repeat ((first | refine Va ?_ | refine Vb ?_ | refine Vc ?_ | refine Vd ?_ | refine Ve ?_ | refine Vf ?_); (try simp only [go_sem,hP,hwb,hw1]); (repeat refine qJ ?_)))
   (refine WV_ret ?_; simp only [thenQ,inQ,RetQ,RetOk,resAll,resA]; simp only [go_sem,tupA,AV.port,AV.portL,exists_eq_left']; (first | exact AVle.of rfl | refine AVle.of ?_ | skip))
  ·have h3:¬ b.toNat < 63:=by simp at h; omega
   have e:valB b = b.toNat - 32 - 1:=by unfold valB; rw [if_neg (by assumption),if_neg h3]; omega
   rw [e]
   (repeat ((first | refine Va ?_ | refine Vb ?_ | refine Vc ?_ | refine Vd ?_ | refine Ve ?_ | refine Vf ?_); (try simp only [go_sem,hP,hwb,hw1,hw2]); (repeat refine qJ ?_)))
   (refine WV_ret ?_; simp only [thenQ,inQ,RetQ,RetOk,resAll,resA]; simp only [go_sem,tupA,AV.port,AV.portL,exists_eq_left']; (first | exact AVle.of rfl | refine AVle.of ?_ | skip))
theorem value22 (b:UInt8):FSpec Tryd.prog 22 [u8 b] (.tup [iv (valR b).1,bv (valR b).2]):=by
 have hb:b.toNat < 256:=b.toNat_lt
 have hwb:=w64 (n:=(b.toNat:Int)) (by omega) (by omega)
 have hw1:=w64 (n:=(b.toNat:Int) - 32) (by omega) (by omega)
 have hw2:=w64 (n:=(b.toNat:Int) - 33) (by omega) (by omega)
 refine FSpec_of c22 (Nat.le_refl _) (by decide) fun C hP hN hC hL => ?_; rw [init_st]
 simp only [ir22]
 (repeat ((first | refine Va ?_ | refine Vb ?_ | refine Vc ?_ | refine Vd ?_ | refine Ve ?_ | refine Vf ?_); (try simp only [go_sem,hP]); (repeat refine qJ ?_)))
 (refine WV_cond rfl (fun h => ?_) (fun h => ?_))
 ·have h:b.toNat < 32 ∨ 126 < b.toNat:=by simp at h; omega
  have e:valR b = (0,false):=by unfold valR; rw [if_pos h]
  rw [e]
  (repeat ((first | refine Va ?_ | refine Vb ?_ | refine Vc ?_ | refine Vd ?_ | refine Ve ?_ | refine Vf ?_); (try simp only [go_sem,hP]); (repeat refine qJ ?_)))
  (refine WV_ret ?_; simp only [thenQ,inQ,RetQ,RetOk,resAll,resA]; simp only [go_sem,tupA,AV.port,AV.portL,exists_eq_left']; (first | exact AVle.of rfl | refine AVle.of ?_ | skip))
 ·have h:¬ (b.toNat < 32 ∨ 126 < b.toNat):=by simp at h; omega
  (repeat ((first | refine Va ?_ | refine Vb ?_ | refine Vc ?_ | refine Vd ?_ | refine Ve ?_ | refine Vf ?_); (try simp only [go_sem,hP,hwb]); (repeat refine qJ ?_)))
  (refine WV_cond rfl (fun h => ?_) (fun h => ?_))
  ·have h3:b.toNat < 63:=by simp at h; omega
   have e:valR b = ((b.toNat:Int) - 32,true):=by unfold valR valB; rw [if_neg (by assumption),if_neg (by omega),if_neg (by omega),if_pos h3]
   rw [e]
   (repeat ((first | refine Va ?_ | refine Vb ?_ | refine Vc ?_ | refine Vd ?_ | refine Ve ?_ | refine Vf ?_); (try simp only [go_sem,hP,hwb,hw1]); (repeat refine qJ ?_)))
   (refine WV_ret ?_; simp only [thenQ,inQ,RetQ,RetOk,resAll,resA]; simp only [go_sem,tupA,AV.port,AV.portL,exists_eq_left']; (first | exact AVle.of rfl | refine AVle.of ?_ | skip))
  ·(repeat ((first | refine Va ?_ | refine Vb ?_ | refine Vc ?_ | refine Vd ?_ | refine Ve ?_ | refine Vf ?_); (try simp only [go_sem,hP,hwb]); (repeat refine qJ ?_)))
   (refine WV_cond rfl (fun h => ?_) (fun h => ?_))
   ·have h3:63 < b.toNat:=by simp at h; omega
    have e:valR b = ((b.toNat:Int) - 33,true):=by unfold valR valB; rw [if_neg (by assumption),if_neg (by omega),if_neg (by omega),if_neg (by omega)]
    rw [e]
    (repeat ((first | refine Va ?_ | refine Vb ?_ | refine Vc ?_ | refine Vd ?_ | refine Ve ?_ | refine Vf ?_); (try simp only [go_sem,hP,hwb,hw2]); (repeat refine qJ ?_)))
    (refine WV_ret ?_; simp only [thenQ,inQ,RetQ,RetOk,resAll,resA]; simp only [go_sem,tupA,AV.port,AV.portL,exists_eq_left']; (first | exact AVle.of rfl | refine AVle.of ?_ | skip))
   ·have h3:b.toNat = 63:=by simp at *; omega
    have e:valR b = (-1,true):=by unfold valR; rw [if_neg (by omega),if_pos h3]
    rw [e]
    (repeat ((first | refine Va ?_ | refine Vb ?_ | refine Vc ?_ | refine Vd ?_ | refine Ve ?_ | refine Vf ?_); (try simp only [go_sem,hP]); (repeat refine qJ ?_)))
    (refine WV_ret ?_; simp only [thenQ,inQ,RetQ,RetOk,resAll,resA]; simp only [go_sem,tupA,AV.port,AV.portL,exists_eq_left']; (first | exact AVle.of rfl | refine AVle.of ?_ | skip))
theorem sign82 {n:Int} (h:0 ≤ n ∧ n < 94):FSpec Tryd.prog 82 [iv n] (u8 (sgn n)):=by
 have hw1:=w64 (n:=n + 32) (by omega) (by omega)
 have hu1:=wrap_u8 (n:=n + 32) (by omega)
 have hu2:=wrap_u8 (n:=n + 32 + 1) (by omega)
 have hs:=sgn_nat h
 refine FSpec_of c82 (Nat.le_refl _) (by decide) fun C hP hN hC hL => ?_; rw [init_st]
 simp only [ir82]
 (repeat ((first | refine Va ?_ | refine Vb ?_ | refine Vc ?_ | refine Vd ?_ | refine Ve ?_ | refine Vf ?_); (try simp only [go_sem,hP,hw1,hu1]); (repeat refine qJ ?_)))
 (refine WV_cond rfl (fun h => ?_) (fun h => ?_))
 ·have h3:¬ n < 31:=by simp at h; omega
  have e:u8 (sgn n) = .c (.int .u8 (n + 32 + 1)):=by show AV.c (.int .u8 _) = _; rw [hs,if_neg h3,show n + 33 = n + 32 + 1 by omega]
  rw [e]
  (repeat ((first | refine Va ?_ | refine Vb ?_ | refine Vc ?_ | refine Vd ?_ | refine Ve ?_ | refine Vf ?_); (try simp only [go_sem,hP,hw1,hu1,hu2]); (repeat refine qJ ?_)))
  (refine WV_ret ?_; simp only [thenQ,inQ,RetQ,RetOk,resAll,resA]; simp only [go_sem,tupA,AV.port,AV.portL,exists_eq_left']; (first | exact AVle.of rfl | refine AVle.of ?_ | skip))
 ·have h3:n < 31:=by simp at h; omega
  have e:u8 (sgn n) = .c (.int .u8 (n + 32)):=by show AV.c (.int .u8 _) = _; rw [hs,if_pos h3]
  rw [e]
  (repeat ((first | refine Va ?_ | refine Vb ?_ | refine Vc ?_ | refine Vd ?_ | refine Ve ?_ | refine Vf ?_); (try simp only [go_sem,hP,hw1,hu1]); (repeat refine qJ ?_)))
  (refine WV_ret ?_; simp only [thenQ,inQ,RetQ,RetOk,resAll,resA]; simp only [go_sem,tupA,AV.port,AV.portL,exists_eq_left']; (first | exact AVle.of rfl | refine AVle.of ?_ | skip))
end Go.Proofs.YtlmfdmlochpfcaaDoor

namespace Go.Proofs.YtlmfdmlochpfcaaDoor
open Go Go.V
attribute [local go_sem] Nat.reduceEqDiff Nat.reduceAdd Nat.reduceMul reduceIte Nat.reduceLeDiff Nat.reduceLT Nat.reduceBEq reduceCtorEq
def isTx (s:List UInt8):Bool:=s.all (fun b => decide (0 ≤ valB b)) && decide (s.length ≤ 30)
theorem str_at {s:List UInt8} {k:Nat} (h:k < s.length):s.getD k 0 = s[k]:=by
 rw [List.getD_eq_getElem?_getD,List.getElem?_eq_getElem h]; rfl
theorem all_take {α:Type} {p:α → Bool} {l:List α} (h:∀ k (hk:k < l.length),p l[k] = true):l.all p = true:=by
 rw [List.all_eq_true]
 intro x hx
 obtain ⟨k,hk,rfl⟩:=List.getElem_of_mem hx
 exact h k hk
theorem all_not {α:Type} {p:α → Bool} {l:List α} {k:Nat} (hk:k < l.length) (h:p l[k] = false):l.all p = false:=by
 rw [Bool.eq_false_iff]
 intro hc
 rw [List.all_eq_true] at hc
 rw [hc _ (List.getElem_mem hk)] at h
 cases h
set_option maxHeartbeats 2000000 in
theorem istext54 (s:List UInt8) (hs:s.length ≤ maxLen):FSpec Tryd.prog 54 [sv s] (bv (isTx s)):=by
 have hmax:maxLen = 9223372036854775807:=rfl
 refine FSpec_of c54 (Nat.le_refl _) (by decide) fun C hP hN hC hL => ?_; rw [init_st]
 simp only [ir54]
 (repeat ((first | refine Va ?_ | refine Vb ?_ | refine Vc ?_ | refine Vd ?_ | refine Ve ?_ | refine Vf ?_); (try simp only [go_sem,hP]); (repeat refine qJ ?_)))
 refine WV_loopK K54_1 [] (fun k:Nat => k ≤ s.length ∧ ∀ j (hj:j < s.length),j < k → 0 ≤ valB s[j]) (fun k => s.length - k) (fun k => [(6,iv k)]) (fun _ => []) 0 ⟨Nat.zero_le _,fun _ _ h => by omega⟩ ?_ ?_
 ·exact Sub_au
 ·intro k ⟨hk1,hk2⟩
  simp only [go_sem]
  (repeat ((first | refine Va ?_ | refine Vb ?_ | refine Vc ?_ | refine Vd ?_ | refine Ve ?_ | refine Vf ?_); (try simp only [go_sem,hP]); (repeat refine qJ ?_)))
  (refine WV_cond rfl (fun h => ?_) (fun h => ?_))
  ·have h:k < s.length:=by simpa using h
   have hw2:=w64 (n:=(k:Int) + 1) (by omega) (by omega)
   (repeat ((first | refine Va ?_ | refine Vb ?_ | refine Vc ?_ | refine Vd ?_ | refine Ve ?_ | refine Vf ?_); (try simp only [go_sem,hP,Int.toNat_natCast,Int.ofNat_lt,h,Int.natCast_nonneg,str_at h]); (repeat refine qJ ?_)))
   (refine AS_pu (value79 s[k]) ?_; simp only [go_sem,hP]; (repeat refine qJ ?_); (repeat ((first | refine Va ?_ | refine Vb ?_ | refine Vc ?_ | refine Vd ?_ | refine Ve ?_ | refine Vf ?_); (try simp only [go_sem,hP]); (repeat refine qJ ?_))))
   (refine WV_cond rfl (fun h => ?_) (fun h => ?_))
   ·have hb:valB s[k] < 0:=by simpa using h
    have e:isTx s = false:=by
     unfold isTx
     rw [all_not (k:=k) (by assumption) (by simp; omega)]
     rfl
    rw [e]
    (repeat ((first | refine Va ?_ | refine Vb ?_ | refine Vc ?_ | refine Vd ?_ | refine Ve ?_ | refine Vf ?_); (try simp only [go_sem,hP]); (repeat refine qJ ?_)))
    (refine WV_ret ?_; simp only [thenQ,inQ,RetQ,RetOk,resAll,resA]; simp only [go_sem,tupA,AV.port,AV.portL,exists_eq_left']; (first | exact AVle.of rfl | refine AVle.of ?_ | skip))
   ·have hb:¬ valB s[k] < 0:=by simpa using h
    (repeat ((first | refine Va ?_ | refine Vb ?_ | refine Vc ?_ | refine Vd ?_ | refine Ve ?_ | refine Vf ?_); (try simp only [go_sem,hP,hw2]); (repeat refine qJ ?_)))
    refine ⟨k + 1,⟨by omega,fun j hj hjk => ?_⟩,by omega,?_⟩
    ·rcases Nat.lt_or_ge j k with h1 | h1
     ·exact hk2 j hj h1
     ·have:j = k:=by omega
      subst this
      omega
    ·exact Sub_au
  ·have h:k = s.length:=by simp at h; omega
   subst h
   have e:isTx s = decide (s.length ≤ 30):=by
    unfold isTx
    rw [all_take fun k hk => by simpa using hk2 k hk hk]
    simp
   rw [e]
   (repeat ((first | refine Va ?_ | refine Vb ?_ | refine Vc ?_ | refine Vd ?_ | refine Ve ?_ | refine Vf ?_); (try simp only [go_sem,hP]); (repeat refine qJ ?_)))
   (refine WV_ret ?_; simp only [thenQ,inQ,RetQ,RetOk,resAll,resA]; simp only [go_sem,tupA,AV.port,AV.portL,exists_eq_left']; (first | exact AVle.of rfl | refine AVle.of ?_ | skip))
   simp; omega
theorem isR (b:UInt8):(!(valR b).2 || (valR b).1 == -1) = decide (valB b < 0):=by
 unfold valR
 split
 ·rename_i h
  have:valB b = -1:=by unfold valB; rw [if_pos (by omega)]
  rw [this]; rfl
 ·split
  ·rename_i h h2
   have:valB b = -1:=by unfold valB; rw [if_pos (by omega)]
   rw [this]; rfl
  ·rename_i h h2
   rw [Bool.eq_iff_iff]
   unfold valB
   rw [if_neg (by omega)]
   split <;> simp <;> omega
set_option maxHeartbeats 2000000 in
theorem istext43 (s:List UInt8) (hs:s.length ≤ maxLen):FSpec Tryd.prog 43 [sv s] (bv (isTx s)):=by
 have hmax:maxLen = 9223372036854775807:=rfl
 refine FSpec_of c43 (Nat.le_refl _) (by decide) fun C hP hN hC hL => ?_; rw [init_st]
 simp only [ir43]
 (repeat ((first | refine Va ?_ | refine Vb ?_ | refine Vc ?_ | refine Vd ?_ | refine Ve ?_ | refine Vf ?_); (try simp only [go_sem,hP]); (repeat refine qJ ?_)))
 refine WV_loopK K43_1 [] (fun k:Nat => k ≤ s.length ∧ ∀ j (hj:j < s.length),j < k → 0 ≤ valB s[j]) (fun k => s.length - k) (fun k => [(3,iv k)]) (fun _ => []) 0 ⟨Nat.zero_le _,fun _ _ h => by omega⟩ ?_ ?_
 ·exact Sub_au
 ·intro k ⟨hk1,hk2⟩
  simp only [go_sem]
  (repeat ((first | refine Va ?_ | refine Vb ?_ | refine Vc ?_ | refine Vd ?_ | refine Ve ?_ | refine Vf ?_); (try simp only [go_sem,hP]); (repeat refine qJ ?_)))
  (refine WV_cond rfl (fun h => ?_) (fun h => ?_))
  ·have h:k < s.length:=by simpa using h
   have hw2:=w64 (n:=(k:Int) + 1) (by omega) (by omega)
   (repeat ((first | refine Va ?_ | refine Vb ?_ | refine Vc ?_ | refine Vd ?_ | refine Ve ?_ | refine Vf ?_); (try simp only [go_sem,hP,Int.toNat_natCast,Int.ofNat_lt,h,Int.natCast_nonneg,str_at h]); (repeat refine qJ ?_)))
   (refine AS_pu (value22 s[k]) ?_; simp only [go_sem,hP]; (repeat refine qJ ?_); (repeat ((first | refine Va ?_ | refine Vb ?_ | refine Vc ?_ | refine Vd ?_ | refine Ve ?_ | refine Vf ?_); (try simp only [go_sem,hP]); (repeat refine qJ ?_))))
   have hR:=isR s[k]
   (refine WV_cond rfl (fun h => ?_) (fun h => ?_))
   ·have hb:valB s[k] < 0:=by rw [h] at hR; simpa using hR.symm
    have e:isTx s = false:=by
     unfold isTx
     rw [all_not (k:=k) (by assumption) (by simp; omega)]
     rfl
    rw [e]
    (repeat ((first | refine Va ?_ | refine Vb ?_ | refine Vc ?_ | refine Vd ?_ | refine Ve ?_ | refine Vf ?_); (try simp only [go_sem,hP]); (repeat refine qJ ?_)))
    (refine WV_ret ?_; simp only [thenQ,inQ,RetQ,RetOk,resAll,resA]; simp only [go_sem,tupA,AV.port,AV.portL,exists_eq_left']; (first | exact AVle.of rfl | refine AVle.of ?_ | skip))
   ·have hb:¬ valB s[k] < 0:=by rw [h] at hR; simpa using hR.symm
    (repeat ((first | refine Va ?_ | refine Vb ?_ | refine Vc ?_ | refine Vd ?_ | refine Ve ?_ | refine Vf ?_); (try simp only [go_sem,hP,hw2]); (repeat refine qJ ?_)))
    refine ⟨k + 1,⟨by omega,fun j hj hjk => ?_⟩,by omega,?_⟩
    ·rcases Nat.lt_or_ge j k with h1 | h1
     ·exact hk2 j hj h1
     ·have:j = k:=by omega
      subst this
      omega
    ·exact Sub_au
  ·have h:k = s.length:=by simp at h; omega
   subst h
   have e:isTx s = decide (s.length ≤ 30):=by
    unfold isTx
    rw [all_take fun k hk => by simpa using hk2 k hk hk]
    simp
   rw [e]
   (repeat ((first | refine Va ?_ | refine Vb ?_ | refine Vc ?_ | refine Vd ?_ | refine Ve ?_ | refine Vf ?_); (try simp only [go_sem,hP]); (repeat refine qJ ?_)))
   (refine WV_ret ?_; simp only [thenQ,inQ,RetQ,RetOk,resAll,resA]; simp only [go_sem,tupA,AV.port,AV.portL,exists_eq_left']; (first | exact AVle.of rfl | refine AVle.of ?_ | skip))
   simp; omega
end Go.Proofs.YtlmfdmlochpfcaaDoor

namespace Go.Proofs.YtlmfdmlochpfcaaDoor
open Go Go.V
abbrev o15_0:List Ins:=[⟨some 2,.mv (.k (.c (.int .i64 0))),none,true⟩]
abbrev o15_1:List Ins:=[⟨some 4,.mv (.t 0),none,true⟩,
 ⟨some 5,.len (.t 4),none,true⟩,
 ⟨some 6,.bin .gtr (.t 5) (.k (.c (.int .i64 40))),none,true⟩]
abbrev o15_2:List Ins:=[⟨some 2,.mv (.k (.c (.int .i64 2))),none,true⟩]
abbrev v15_3:VC:=(.seq (.ops o15_2) .ret)
abbrev v15_4:VC:=(.cond (.t 6) v15_3 .skip)
abbrev o15_5:List Ins:=[⟨some 3,.mv (.k (.c (.int .i64 0))),none,true⟩]
abbrev o15_6:List Ins:=[⟨some 7,.mv (.t 3),none,true⟩,
 ⟨some 8,.mv (.t 0),none,true⟩,
 ⟨some 9,.len (.t 8),none,true⟩,
 ⟨some 10,.bin .lss (.t 7) (.t 9),none,true⟩]
abbrev v15_7:VC:=(.cond (.t 10) .skip (.exit 0))
abbrev o15_8:List Ins:=[⟨some 13,.mv (.t 0),none,true⟩,
 ⟨some 14,.mv (.t 3),none,true⟩,
 ⟨some 15,.ia 1 (.t 13) (.t 14),none,true⟩,
 ⟨some 16,.ld true 1 (.t 15),none,true⟩,
 ⟨some 17,.call (.k (.fn 43 [])) [(.t 16)],none,true⟩,
 ⟨some 18,.un .not (.t 17),none,true⟩]
abbrev o15_9:List Ins:=[⟨some 2,.mv (.k (.c (.int .i64 1))),none,true⟩]
abbrev v15_10:VC:=(.seq (.ops o15_9) .ret)
abbrev v15_11:VC:=(.cond (.t 18) v15_10 .skip)
abbrev v15_12:VC:=(.seq (.ops o15_8) v15_11)
abbrev o15_13:List Ins:=[⟨some 11,.mv (.t 3),none,true⟩,
 ⟨some 12,.bin .add (.t 11) (.k (.c (.int .i64 1))),none,true⟩,
 ⟨some 3,.mv (.t 12),none,true⟩]
abbrev v15_14:VC:=(.seq (.block 1 v15_12) (.ops o15_13))
abbrev v15_15:VC:=(.seq (.seq (.ops o15_6) v15_7) v15_14)
-- K15_1: changed and kept: [3]
abbrev K15_1:List Nat:=[0]
abbrev v15_16:VC:=(.loop v15_15)
abbrev v15_17:VC:=(.block 0 v15_16)
abbrev o15_18:List Ins:=[⟨some 2,.mv (.k (.c (.int .i64 0))),none,true⟩]
abbrev v15_19:VC:=(.seq (.ops o15_18) .ret)
abbrev v15_20:VC:=(.seq (.seq (.ops o15_5) v15_17) v15_19)
abbrev v15_21:VC:=(.seq (.seq (.ops o15_1) v15_4) v15_20)
def ir15:FC:=⟨1,19,[.t 2],(.seq (.ops o15_0) v15_21)⟩
abbrev o26_0:List Ins:=[⟨some 2,.mv (.k (.c (.bool false))),none,true⟩]
abbrev o26_1:List Ins:=[⟨some 3,.mv (.t 0),none,true⟩,
 ⟨some 4,.prim .slen [(.t 3)],none,true⟩,
 ⟨some 5,.bin .gtr (.t 4) (.k (.c (.int .i64 2000))),none,true⟩,
 ⟨some 2,.mv (.t 5),none,true⟩]
abbrev v26_2:VC:=(.seq (.ops o26_1) .ret)
def ir26:FC:=⟨1,6,[.t 2],(.seq (.ops o26_0) v26_2)⟩
abbrev o14_0:List Ins:=[⟨some 2,.mv (.k (.c (.bool false))),none,true⟩]
abbrev o14_1:List Ins:=[⟨some 4,.mv (.t 0),none,true⟩,
 ⟨some 5,.len (.t 4),none,true⟩,
 ⟨some 6,.bin .gtr (.t 5) (.k (.c (.int .i64 60))),none,true⟩]
abbrev o14_2:List Ins:=[⟨some 2,.mv (.k (.c (.bool false))),none,true⟩]
abbrev v14_3:VC:=(.seq (.ops o14_2) .ret)
abbrev v14_4:VC:=(.cond (.t 6) v14_3 .skip)
abbrev o14_5:List Ins:=[⟨some 3,.mv (.k (.c (.int .i64 0))),none,true⟩]
abbrev o14_6:List Ins:=[⟨some 7,.mv (.t 3),none,true⟩,
 ⟨some 8,.mv (.t 0),none,true⟩,
 ⟨some 9,.len (.t 8),none,true⟩,
 ⟨some 10,.bin .lss (.t 7) (.t 9),none,true⟩]
abbrev v14_7:VC:=(.cond (.t 10) .skip (.exit 0))
abbrev o14_8:List Ins:=[⟨some 13,.mv (.t 0),none,true⟩,
 ⟨some 14,.mv (.t 3),none,true⟩,
 ⟨some 15,.ia 1 (.t 13) (.t 14),none,true⟩,
 ⟨some 16,.ld true 1 (.t 15),none,true⟩,
 ⟨some 17,.prim .slen [(.t 16)],none,true⟩,
 ⟨some 18,.bin .gtr (.t 17) (.k (.c (.int .i64 200))),none,true⟩]
abbrev o14_9:List Ins:=[⟨some 2,.mv (.k (.c (.bool false))),none,true⟩]
abbrev v14_10:VC:=(.seq (.ops o14_9) .ret)
abbrev v14_11:VC:=(.cond (.t 18) v14_10 .skip)
abbrev v14_12:VC:=(.seq (.ops o14_8) v14_11)
abbrev o14_13:List Ins:=[⟨some 11,.mv (.t 3),none,true⟩,
 ⟨some 12,.bin .add (.t 11) (.k (.c (.int .i64 1))),none,true⟩,
 ⟨some 3,.mv (.t 12),none,true⟩]
abbrev v14_14:VC:=(.seq (.block 1 v14_12) (.ops o14_13))
abbrev v14_15:VC:=(.seq (.seq (.ops o14_6) v14_7) v14_14)
-- K14_1: changed and kept: [3]
abbrev K14_1:List Nat:=[0]
abbrev v14_16:VC:=(.loop v14_15)
abbrev v14_17:VC:=(.block 0 v14_16)
abbrev o14_18:List Ins:=[⟨some 2,.mv (.k (.c (.bool true))),none,true⟩]
abbrev v14_19:VC:=(.seq (.ops o14_18) .ret)
abbrev v14_20:VC:=(.seq (.seq (.ops o14_5) v14_17) v14_19)
abbrev v14_21:VC:=(.seq (.seq (.ops o14_1) v14_4) v14_20)
def ir14:FC:=⟨1,19,[.t 2],(.seq (.ops o14_0) v14_21)⟩
theorem c15:compM Tryd.prog [] 15 = some ir15:=by kernel_rfl
theorem c26:compM Tryd.prog [] 26 = some ir26:=by kernel_rfl
theorem c14:compM Tryd.prog [] 14 = some ir14:=by kernel_rfl
attribute [local go_sem] Nat.reduceEqDiff Nat.reduceAdd Nat.reduceMul reduceIte Nat.reduceLeDiff Nat.reduceLT Nat.reduceBEq reduceCtorEq
def strsC (l:List (List UInt8)):CD:=.sl 1 (l.map fun s => [.str s])
theorem map_getD {α β:Type} {l:List α} {f:α → β} {k:Nat} {d:β} (h:k < l.length):(l.map f).getD k d = f l[k]:=by
 simp [h]
theorem large26 (s:List UInt8):FSpec Tryd.prog 26 [sv s] (bv (decide (2000 < s.length))):=by
 refine FSpec_of c26 (Nat.le_refl _) (by decide) fun C hP hN hC hL => ?_; rw [init_st]
 simp only [ir26]
 (repeat ((first | refine Va ?_ | refine Vb ?_ | refine Vc ?_ | refine Vd ?_ | refine Ve ?_ | refine Vf ?_); (try simp only [go_sem,hP]); (repeat refine qJ ?_)))
 (refine WV_ret ?_; simp only [thenQ,inQ,RetQ,RetOk,resAll,resA]; simp only [go_sem,tupA,AV.port,AV.portL,exists_eq_left']; (first | exact AVle.of rfl | refine AVle.of ?_ | skip))
 simp; omega
def canT (l:List (List UInt8)):Bool:=decide (l.length ≤ 60) && l.all fun s => decide (s.length ≤ 200)
set_option maxHeartbeats 2000000 in
theorem can14 (l:List (List UInt8)):FSpec Tryd.prog 14 [.c (strsC l)] (bv (canT l)):=by
 refine FSpec_of c14 (Nat.le_refl _) (by decide) fun C hP hN hC hL => ?_; rw [init_st]
 simp only [ir14,strsC]
 (repeat ((first | refine Va ?_ | refine Vb ?_ | refine Vc ?_ | refine Vd ?_ | refine Ve ?_ | refine Vf ?_); (try simp only [go_sem,hP,List.length_map]); (repeat refine qJ ?_)))
 (refine WV_cond rfl (fun h => ?_) (fun h => ?_))
 ·have h:60 < l.length:=by simp at h; omega
  have e:canT l = false:=by
   unfold canT
   have:decide (l.length ≤ 60) = false:=by simp; omega
   rw [this]; rfl
  rw [e]
  (repeat ((first | refine Va ?_ | refine Vb ?_ | refine Vc ?_ | refine Vd ?_ | refine Ve ?_ | refine Vf ?_); (try simp only [go_sem,hP]); (repeat refine qJ ?_)))
  (refine WV_ret ?_; simp only [thenQ,inQ,RetQ,RetOk,resAll,resA]; simp only [go_sem,tupA,AV.port,AV.portL,exists_eq_left']; (first | exact AVle.of rfl | refine AVle.of ?_ | skip))
 ·have h60:l.length ≤ 60:=by simp at h; omega
  (repeat ((first | refine Va ?_ | refine Vb ?_ | refine Vc ?_ | refine Vd ?_ | refine Ve ?_ | refine Vf ?_); (try simp only [go_sem,hP]); (repeat refine qJ ?_)))
  refine WV_loopK K14_1 [] (fun k:Nat => k ≤ l.length ∧ ∀ j (hj:j < l.length),j < k → (l[j]).length ≤ 200) (fun k => l.length - k) (fun k => [(3,iv k)]) (fun _ => []) 0 ⟨Nat.zero_le _,fun _ _ h => by omega⟩ ?_ ?_
  ·exact Sub_au
  ·intro k ⟨hk1,hk2⟩
   simp only [go_sem]
   (repeat ((first | refine Va ?_ | refine Vb ?_ | refine Vc ?_ | refine Vd ?_ | refine Ve ?_ | refine Vf ?_); (try simp only [go_sem,hP,List.length_map]); (repeat refine qJ ?_)))
   (refine WV_cond rfl (fun h => ?_) (fun h => ?_))
   ·have h:k < l.length:=by simpa using h
    have hw2:=w64 (n:=(k:Int) + 1) (by omega) (by omega)
    (repeat ((first | refine Va ?_ | refine Vb ?_ | refine Vc ?_ | refine Vd ?_ | refine Ve ?_ | refine Vf ?_); (try simp only [go_sem,hP,Int.toNat_natCast,map_getD h,Int.ofNat_lt,h,Int.natCast_nonneg,List.length_map]); (repeat refine qJ ?_)))
    (refine WV_cond rfl (fun h => ?_) (fun h => ?_))
    ·have hb:200 < (l[k]).length:=by simp at h; omega
     have e:canT l = false:=by
      unfold canT
      rw [all_not (k:=k) (by assumption) (by simp; omega)]
      simp
     rw [e]
     (repeat ((first | refine Va ?_ | refine Vb ?_ | refine Vc ?_ | refine Vd ?_ | refine Ve ?_ | refine Vf ?_); (try simp only [go_sem,hP]); (repeat refine qJ ?_)))
     (refine WV_ret ?_; simp only [thenQ,inQ,RetQ,RetOk,resAll,resA]; simp only [go_sem,tupA,AV.port,AV.portL,exists_eq_left']; (first | exact AVle.of rfl | refine AVle.of ?_ | skip))
    ·have hb:(l[k]).length ≤ 200:=by simp at h; omega
     (repeat ((first | refine Va ?_ | refine Vb ?_ | refine Vc ?_ | refine Vd ?_ | refine Ve ?_ | refine Vf ?_); (try simp only [go_sem,hP,hw2]); (repeat refine qJ ?_)))
     refine ⟨k + 1,⟨by omega,fun j hj hjk => ?_⟩,by omega,?_⟩
     ·rcases Nat.lt_or_ge j k with h1 | h1
      ·exact hk2 j hj h1
      ·have:j = k:=by omega
       subst this
       exact hb
     ·exact Sub_au
   ·have h:k = l.length:=by simp at h; omega
    subst h
    have e:canT l = true:=by
     unfold canT
     rw [all_take fun k hk => by simpa using hk2 k hk hk]
     simpa using h60
    rw [e]
    (repeat ((first | refine Va ?_ | refine Vb ?_ | refine Vc ?_ | refine Vd ?_ | refine Ve ?_ | refine Vf ?_); (try simp only [go_sem,hP]); (repeat refine qJ ?_)))
    (refine WV_ret ?_; simp only [thenQ,inQ,RetQ,RetOk,resAll,resA]; simp only [go_sem,tupA,AV.port,AV.portL,exists_eq_left']; (first | exact AVle.of rfl | refine AVle.of ?_ | skip))
def errT (l:List (List UInt8)):Int:=if 40 < l.length then 2 else if l.all isTx then 0 else 1
set_option maxHeartbeats 2000000 in
theorem aretexts15 (l:List (List UInt8)) (hl:∀ s ∈ l,s.length ≤ maxLen):FSpec Tryd.prog 15 [.c (strsC l)] (iv (errT l)):=by
 refine FSpec_of c15 (Nat.le_refl _) (by decide) fun C hP hN hC hL => ?_; rw [init_st]
 simp only [ir15,strsC]
 (repeat ((first | refine Va ?_ | refine Vb ?_ | refine Vc ?_ | refine Vd ?_ | refine Ve ?_ | refine Vf ?_); (try simp only [go_sem,hP,List.length_map]); (repeat refine qJ ?_)))
 (refine WV_cond rfl (fun h => ?_) (fun h => ?_))
 ·have h:40 < l.length:=by simp at h; omega
  have e:errT l = 2:=by unfold errT; rw [if_pos h]
  rw [e]
  (repeat ((first | refine Va ?_ | refine Vb ?_ | refine Vc ?_ | refine Vd ?_ | refine Ve ?_ | refine Vf ?_); (try simp only [go_sem,hP]); (repeat refine qJ ?_)))
  (refine WV_ret ?_; simp only [thenQ,inQ,RetQ,RetOk,resAll,resA]; simp only [go_sem,tupA,AV.port,AV.portL,exists_eq_left']; (first | exact AVle.of rfl | refine AVle.of ?_ | skip))
 ·have h40:¬ 40 < l.length:=by simp at h; omega
  (repeat ((first | refine Va ?_ | refine Vb ?_ | refine Vc ?_ | refine Vd ?_ | refine Ve ?_ | refine Vf ?_); (try simp only [go_sem,hP]); (repeat refine qJ ?_)))
  refine WV_loopK K15_1 [] (fun k:Nat => k ≤ l.length ∧ ∀ j (hj:j < l.length),j < k → isTx l[j] = true) (fun k => l.length - k) (fun k => [(3,iv k)]) (fun _ => []) 0 ⟨Nat.zero_le _,fun _ _ h => by omega⟩ ?_ ?_
  ·exact Sub_au
  ·intro k ⟨hk1,hk2⟩
   simp only [go_sem]
   (repeat ((first | refine Va ?_ | refine Vb ?_ | refine Vc ?_ | refine Vd ?_ | refine Ve ?_ | refine Vf ?_); (try simp only [go_sem,hP,List.length_map]); (repeat refine qJ ?_)))
   (refine WV_cond rfl (fun h => ?_) (fun h => ?_))
   ·have h:k < l.length:=by simpa using h
    have hw2:=w64 (n:=(k:Int) + 1) (by omega) (by omega)
    (repeat ((first | refine Va ?_ | refine Vb ?_ | refine Vc ?_ | refine Vd ?_ | refine Ve ?_ | refine Vf ?_); (try simp only [go_sem,hP,Int.toNat_natCast,map_getD h,Int.ofNat_lt,h,Int.natCast_nonneg,List.length_map]); (repeat refine qJ ?_)))
    (refine AS_pu (istext43 l[k] (hl _ (List.getElem_mem h))) ?_; simp only [go_sem,hP]; (repeat refine qJ ?_); (repeat ((first | refine Va ?_ | refine Vb ?_ | refine Vc ?_ | refine Vd ?_ | refine Ve ?_ | refine Vf ?_); (try simp only [go_sem,hP]); (repeat refine qJ ?_))))
    (refine WV_cond rfl (fun h => ?_) (fun h => ?_))
    ·have hb:isTx l[k] = false:=by simpa using h
     have e:errT l = 1:=by
      unfold errT
      rw [if_neg h40,all_not (k:=k) (by assumption) hb]
      rfl
     rw [e]
     (repeat ((first | refine Va ?_ | refine Vb ?_ | refine Vc ?_ | refine Vd ?_ | refine Ve ?_ | refine Vf ?_); (try simp only [go_sem,hP]); (repeat refine qJ ?_)))
     (refine WV_ret ?_; simp only [thenQ,inQ,RetQ,RetOk,resAll,resA]; simp only [go_sem,tupA,AV.port,AV.portL,exists_eq_left']; (first | exact AVle.of rfl | refine AVle.of ?_ | skip))
    ·have hb:isTx l[k] = true:=by simpa using h
     (repeat ((first | refine Va ?_ | refine Vb ?_ | refine Vc ?_ | refine Vd ?_ | refine Ve ?_ | refine Vf ?_); (try simp only [go_sem,hP,hw2]); (repeat refine qJ ?_)))
     refine ⟨k + 1,⟨by omega,fun j hj hjk => ?_⟩,by omega,?_⟩
     ·rcases Nat.lt_or_ge j k with h1 | h1
      ·exact hk2 j hj h1
      ·have:j = k:=by omega
       subst this
       exact hb
     ·exact Sub_au
   ·have h:k = l.length:=by simp at h; omega
    subst h
    have e:errT l = 0:=by
     unfold errT
     rw [if_neg h40,all_take fun k hk => hk2 k hk hk]
     rfl
    rw [e]
    (repeat ((first | refine Va ?_ | refine Vb ?_ | refine Vc ?_ | refine Vd ?_ | refine Ve ?_ | refine Vf ?_); (try simp only [go_sem,hP]); (repeat refine qJ ?_)))
    (refine WV_ret ?_; simp only [thenQ,inQ,RetQ,RetOk,resAll,resA]; simp only [go_sem,tupA,AV.port,AV.portL,exists_eq_left']; (first | exact AVle.of rfl | refine AVle.of ?_ | skip))
end Go.Proofs.YtlmfdmlochpfcaaDoor

namespace Go.Proofs.YtlmfdmlochpfcaaDoor
open Go Go.V
attribute [local go_sem] Nat.reduceEqDiff Nat.reduceAdd Nat.reduceMul reduceIte Nat.reduceLeDiff Nat.reduceLT Nat.reduceBEq reduceCtorEq
def wid (g:List (List Int)):Nat:=(g.getD 0 []).length
def lineP (g:List (List Int)) (n:Nat) (row:Bool):List (Nat × Nat):=if row then (List.range (wid g)).map fun i => (n,i) else (List.range g.length).map fun i => (i,n)
end Go.Proofs.YtlmfdmlochpfcaaDoor

namespace Go.Proofs.YtlmfdmlochpfcaaDoor
open Go Go.V
attribute [local go_sem] Nat.reduceEqDiff Nat.reduceAdd Nat.reduceMul reduceIte Nat.reduceLeDiff Nat.reduceLT Nat.reduceBEq reduceCtorEq
def valAt (g:List (List Int)) (m:Nat × Nat):Int:=(g.getD m.1 []).getD m.2 0
def inG (g:List (List Int)) (m:Nat × Nat):Prop:=m.1 < g.length ∧ m.2 < (g.getD m.1 []).length ∧ -1 ≤ valAt g m ∧ valAt g m < 94
def sumL (g:List (List Int)) (l:List (Nat × Nat)):Int:=(l.map fun m => if valAt g m = -1 then 0 else valAt g m).sum
def lostL (g:List (List Int)) (l:List (Nat × Nat)):List (Nat × Nat):=l.filter fun m => valAt g m == -1
def lackL (g:List (List Int)) (l:List (Nat × Nat)):Int:=(94 - sumL g l % 94) % 94
theorem sumL_snoc (g:List (List Int)) (l:List (Nat × Nat)) (m:Nat × Nat):sumL g (l ++ [m]) = sumL g l + if valAt g m = -1 then 0 else valAt g m:=by simp [sumL]
theorem lostL_snoc (g:List (List Int)) (l:List (Nat × Nat)) (m:Nat × Nat):lostL g (l ++ [m]) = lostL g l ++ if valAt g m = -1 then [m] else []:=by
 unfold lostL
 rw [List.filter_append]
 by_cases h:valAt g m = -1 <;> simp [h]
theorem sumL_ok {g:List (List Int)}:∀ {l:List (Nat × Nat)},(∀ m ∈ l,inG g m) → 0 ≤ sumL g l ∧ sumL g l ≤ 93 * l.length
 | [],_ => by simp [sumL]
 | m :: l,h => by
  have ih:=sumL_ok (l:=l) fun x hx => h x (by simp [hx])
  have hm:=(h m (by simp)).2.2
  simp only [sumL,List.map_cons,List.sum_cons,List.length_cons] at ih ⊢
  split <;> omega
end Go.Proofs.YtlmfdmlochpfcaaDoor

namespace Go.Proofs.YtlmfdmlochpfcaaDoor
open Go Go.V
attribute [local go_sem] Nat.reduceEqDiff Nat.reduceAdd Nat.reduceMul reduceIte Nat.reduceLeDiff Nat.reduceLT Nat.reduceBEq reduceCtorEq
structure GOk (g:List (List Int)):Prop where
 pos:0 < g.length
 len:g.length ≤ 41
 wd:wid g ≤ 32
 row:∀ i,i < g.length → (g.getD i []).length = wid g
 val:∀ i k,i < g.length → k < wid g → -1 ≤ valAt g (i,k) ∧ valAt g (i,k) < 94
def manyL (g:List (List Int)) (b:Bool):Nat:=if b then g.length else wid g
def badL (g:List (List Int)) (b:Bool) (k:Nat):List Nat:=(List.range k).filter fun n => !(lackL g (lineP g n b) == 0)
def marksG (g:List (List Int)) (k:Nat):List (Nat × Nat):=(List.range k).flatMap fun n => lostL g (lineP g n true)
end Go.Proofs.YtlmfdmlochpfcaaDoor

namespace Go.Proofs.YtlmfdmlochpfcaaDoor
open Go Go.V
attribute [local go_sem] Nat.reduceEqDiff Nat.reduceAdd Nat.reduceMul reduceIte Nat.reduceLeDiff Nat.reduceLT Nat.reduceBEq reduceCtorEq
end Go.Proofs.YtlmfdmlochpfcaaDoor

namespace Go.Proofs.YtlmfdmlochpfcaaDoor
open Go Go.V
abbrev o52_0:List Ins:=[⟨some 4,.mv (.k (.c (.raw (.slice none 0 0)))),none,true⟩]
abbrev o52_1:List Ins:=[⟨some 6,.mv (.t 0),none,true⟩,
 ⟨some 7,.mv (.t 1),none,true⟩,
 ⟨some 8,.ia 1 (.t 6) (.t 7),none,true⟩,
 ⟨some 9,.ld true 1 (.t 8),none,true⟩,
 ⟨some 10,.len (.t 9),none,true⟩,
 ⟨some 11,.mv (.k (.c (.int .i64 0))),none,true⟩]
abbrev o52_2:List Ins:=[⟨some 12,.bin .lss (.t 11) (.t 10),none,true⟩]
abbrev o52_3:List Ins:=[⟨some 13,.mv (.t 11),none,true⟩,
 ⟨some 5,.mv (.t 13),none,true⟩]
abbrev o52_4:List Ins:=[⟨some 14,.mv (.t 4),none,true⟩,
 ⟨some 15,.mv (.t 0),none,true⟩,
 ⟨some 16,.mv (.t 1),none,true⟩,
 ⟨some 17,.ia 1 (.t 15) (.t 16),none,true⟩,
 ⟨some 18,.ld true 1 (.t 17),none,true⟩,
 ⟨some 19,.mv (.t 5),none,true⟩,
 ⟨some 20,.ia 1 (.t 18) (.t 19),none,true⟩,
 ⟨some 21,.bsl 75 1 [(.t 20)],none,true⟩,
 ⟨some 22,.app 75 1 8 (.t 14) (.t 21),none,true⟩,
 ⟨some 4,.mv (.t 22),none,true⟩]
abbrev v52_5:VC:=(.seq (.ops o52_3) (.ops o52_4))
abbrev o52_6:List Ins:=[⟨some 23,.bin .add (.t 11) (.k (.c (.int .i64 1))),none,true⟩,
 ⟨some 11,.mv (.t 23),none,true⟩]
abbrev v52_7:VC:=(.seq (.block 1 v52_5) (.ops o52_6))
abbrev v52_8:VC:=(.seq (.cond (.t 12) .skip (.exit 0)) v52_7)
abbrev v52_9:VC:=(.seq (.ops o52_2) v52_8)
-- K52_1: changed and kept: [11,4]
abbrev v52_10:VC:=(.loop v52_9)
abbrev v52_11:VC:=(.block 0 v52_10)
abbrev o52_12:List Ins:=[⟨some 24,.mv (.t 4),none,true⟩,
 ⟨some 4,.mv (.t 24),none,true⟩]
abbrev v52_13:VC:=(.seq (.ops o52_12) .ret)
abbrev v52_14:VC:=(.seq (.seq (.ops o52_1) v52_11) v52_13)
def ir52:FC:=⟨2,25,[.t 4],(.seq (.ops o52_0) v52_14)⟩
abbrev o81_0:List Ins:=[⟨some 4,.mv (.k (.c (.raw (.slice none 0 0)))),none,true⟩]
abbrev o81_1:List Ins:=[⟨some 6,.mv (.t 0),none,true⟩,
 ⟨some 7,.len (.t 6),none,true⟩,
 ⟨some 8,.mv (.k (.c (.int .i64 0))),none,true⟩]
abbrev o81_2:List Ins:=[⟨some 9,.bin .lss (.t 8) (.t 7),none,true⟩]
abbrev o81_3:List Ins:=[⟨some 10,.mv (.t 8),none,true⟩,
 ⟨some 5,.mv (.t 10),none,true⟩]
abbrev o81_4:List Ins:=[⟨some 11,.mv (.t 4),none,true⟩,
 ⟨some 12,.mv (.t 0),none,true⟩,
 ⟨some 13,.mv (.t 5),none,true⟩,
 ⟨some 14,.ia 1 (.t 12) (.t 13),none,true⟩,
 ⟨some 15,.ld true 1 (.t 14),none,true⟩,
 ⟨some 16,.mv (.t 1),none,true⟩,
 ⟨some 17,.ia 1 (.t 15) (.t 16),none,true⟩,
 ⟨some 18,.bsl 75 1 [(.t 17)],none,true⟩,
 ⟨some 19,.app 75 1 8 (.t 11) (.t 18),none,true⟩,
 ⟨some 4,.mv (.t 19),none,true⟩]
abbrev v81_5:VC:=(.seq (.ops o81_3) (.ops o81_4))
abbrev o81_6:List Ins:=[⟨some 20,.bin .add (.t 8) (.k (.c (.int .i64 1))),none,true⟩,
 ⟨some 8,.mv (.t 20),none,true⟩]
abbrev v81_7:VC:=(.seq (.block 1 v81_5) (.ops o81_6))
abbrev v81_8:VC:=(.seq (.cond (.t 9) .skip (.exit 0)) v81_7)
abbrev v81_9:VC:=(.seq (.ops o81_2) v81_8)
-- K81_1: changed and kept: [8,4]
abbrev v81_10:VC:=(.loop v81_9)
abbrev v81_11:VC:=(.block 0 v81_10)
abbrev o81_12:List Ins:=[⟨some 21,.mv (.t 4),none,true⟩,
 ⟨some 4,.mv (.t 21),none,true⟩]
abbrev v81_13:VC:=(.seq (.ops o81_12) .ret)
abbrev v81_14:VC:=(.seq (.seq (.ops o81_1) v81_11) v81_13)
def ir81:FC:=⟨2,22,[.t 4],(.seq (.ops o81_0) v81_14)⟩
abbrev o50_0:List Ins:=[⟨some 2,.mv (.k (.c (.raw (.slice none 0 0)))),none,true⟩]
abbrev o50_1:List Ins:=[⟨some 5,.mv (.t 0),none,true⟩,
 ⟨some 6,.len (.t 5),none,true⟩,
 ⟨some 7,.mv (.k (.c (.int .i64 0))),none,true⟩]
abbrev o50_2:List Ins:=[⟨some 8,.bin .lss (.t 7) (.t 6),none,true⟩]
abbrev o50_3:List Ins:=[⟨some 9,.mv (.t 7),none,true⟩,
 ⟨some 3,.mv (.t 9),none,true⟩]
abbrev o50_4:List Ins:=[⟨some 10,.mv (.t 2),none,true⟩,
 ⟨some 11,.mv (.t 0),none,true⟩,
 ⟨some 12,.mv (.t 3),none,true⟩,
 ⟨some 13,.call (.k (.fn 52 [])) [(.t 11),(.t 12)],none,true⟩,
 ⟨some 14,.bsl 77 1 [(.t 13)],none,true⟩,
 ⟨some 15,.app 77 1 24 (.t 10) (.t 14),none,true⟩,
 ⟨some 2,.mv (.t 15),none,true⟩]
abbrev v50_5:VC:=(.seq (.ops o50_3) (.ops o50_4))
abbrev o50_6:List Ins:=[⟨some 16,.bin .add (.t 7) (.k (.c (.int .i64 1))),none,true⟩,
 ⟨some 7,.mv (.t 16),none,true⟩]
abbrev v50_7:VC:=(.seq (.block 1 v50_5) (.ops o50_6))
abbrev v50_8:VC:=(.seq (.cond (.t 8) .skip (.exit 0)) v50_7)
abbrev v50_9:VC:=(.seq (.ops o50_2) v50_8)
-- K50_1: changed and kept: [7,2]
abbrev v50_10:VC:=(.loop v50_9)
abbrev v50_11:VC:=(.block 0 v50_10)
abbrev o50_12:List Ins:=[⟨some 17,.mv (.t 0),none,true⟩,
 ⟨some 18,.ia 1 (.t 17) (.k (.c (.int .i64 0))),none,true⟩,
 ⟨some 19,.ld true 1 (.t 18),none,true⟩,
 ⟨some 20,.len (.t 19),none,true⟩,
 ⟨some 21,.mv (.k (.c (.int .i64 0))),none,true⟩]
abbrev o50_13:List Ins:=[⟨some 22,.bin .lss (.t 21) (.t 20),none,true⟩]
abbrev o50_14:List Ins:=[⟨some 23,.mv (.t 21),none,true⟩,
 ⟨some 4,.mv (.t 23),none,true⟩]
abbrev o50_15:List Ins:=[⟨some 24,.mv (.t 2),none,true⟩,
 ⟨some 25,.mv (.t 0),none,true⟩,
 ⟨some 26,.mv (.t 4),none,true⟩,
 ⟨some 27,.call (.k (.fn 81 [])) [(.t 25),(.t 26)],none,true⟩,
 ⟨some 28,.bsl 77 1 [(.t 27)],none,true⟩,
 ⟨some 29,.app 77 1 24 (.t 24) (.t 28),none,true⟩,
 ⟨some 2,.mv (.t 29),none,true⟩]
abbrev v50_16:VC:=(.seq (.ops o50_14) (.ops o50_15))
abbrev o50_17:List Ins:=[⟨some 30,.bin .add (.t 21) (.k (.c (.int .i64 1))),none,true⟩,
 ⟨some 21,.mv (.t 30),none,true⟩]
abbrev v50_18:VC:=(.seq (.block 3 v50_16) (.ops o50_17))
abbrev v50_19:VC:=(.seq (.cond (.t 22) .skip (.exit 2)) v50_18)
abbrev v50_20:VC:=(.seq (.ops o50_13) v50_19)
-- K50_2: changed and kept: [21,2]
abbrev v50_21:VC:=(.loop v50_20)
abbrev v50_22:VC:=(.block 2 v50_21)
abbrev o50_23:List Ins:=[⟨some 31,.mv (.t 2),none,true⟩,
 ⟨some 2,.mv (.t 31),none,true⟩]
abbrev v50_24:VC:=(.seq (.ops o50_23) .ret)
abbrev v50_25:VC:=(.seq (.seq (.ops o50_12) v50_22) v50_24)
abbrev v50_26:VC:=(.seq (.seq (.ops o50_1) v50_11) v50_25)
def ir50:FC:=⟨1,32,[.t 2],(.seq (.ops o50_0) v50_26)⟩
theorem c52:compM Tryd.prog [] 52 = some ir52:=by kernel_rfl
theorem c81:compM Tryd.prog [] 81 = some ir81:=by kernel_rfl
theorem c50:compM Tryd.prog [] 50 = some ir50:=by kernel_rfl
attribute [local go_sem] Nat.reduceEqDiff Nat.reduceAdd Nat.reduceMul reduceIte Nat.reduceLeDiff Nat.reduceLT Nat.reduceBEq reduceCtorEq
abbrev BRow:=Row UInt8
structure ROk (R:List BRow) (w:Nat):Prop where
 len:R.length ≤ 41
 wid:w ≤ 32
 row:∀ i (h:i < R.length),(R[i]).l.length = w
def ptrB (bs:Nat → Nat) (p:Nat × Nat):List CD:=[.raw (ptrV (bs (p.1 + 1)) p.2)]
def lineV (bs:Nat → Nat) (ps:List (Nat × Nat)):CD:=.sl 1 (ps.map (ptrB bs))
def posL (n w i:Nat) (row:Bool):List (Nat × Nat):=if row then (List.range w).map fun k => (i,k) else (List.range n).map fun k => (k,i)
theorem ptrB_one (bs:Nat → Nat) (l:List (Nat × Nat)):((l.map (ptrB bs)).all fun e => e.length == 1) = true:=by
 rw [List.all_eq_true]; intro e he; obtain ⟨n,_,rfl⟩:=List.mem_map.1 he; rfl
theorem bcd_one (a:UInt8):(bcd a).length = 1:=rfl
theorem refs_glen (R:List BRow) (j:Nat):(refs 1001 1 0 R ++ List.replicate j AV.non).length = R.length + j:=by simp [refs_len]
theorem posL_row (n i k:Nat):posL n (k + 1) i true = posL n k i true ++ [(i,k)]:=by simp [posL,List.range_succ]
theorem posL_col (w i k:Nat):posL (k + 1) w i false = posL k w i false ++ [(k,i)]:=by simp [posL,List.range_succ]
set_option maxRecDepth 20000 in
set_option maxHeartbeats 4000000 in
theorem row52 (bs:Nat → Nat) {R:List BRow} {w:Nat} (hR:ROk R w) {j gcap i:Nat} (hi:i < R.length):FSpecB Tryd.prog 52 bs [.vw 1 1000 0 R.length gcap,iv i] (gridL bcd 1 R j) (fun r l' => r = .c (lineV bs (posL R.length w i true)) ∧ l' = gridL bcd 1 R j):=by
 have hmax:maxLen = 9223372036854775807:=rfl
 have hl:=hR.len
 have hw:=hR.wid
 have hrow:=hR.row i hi
 refine FSpecB_of c52 gridL_bx (by rw [gridL_len]; omega) (Nat.le_refl _) (by decide) (by decide) fun C hP hN hC hat hL => ?_
 rw [init_env',ownW_grid (by omega)]
 simp only [ir52,updL,Nat.reduceAdd]
 rw [gridL_len] at hat
 obtain ⟨hp1,hp2⟩:=hat (i + 1) (by omega)
 rw [show 1000 + (i + 1) = i + 1001 from by omega] at hp1 hp2
 (repeat ((first | refine Va ?_ | refine Vb ?_ | refine Vc ?_ | refine Vd ?_ | refine Ve ?_ | refine Vf ?_); (try simp only [go_sem,hP,gown_grid,gown_row hi,Row.ob_box,gridOb,Ob.isBox,refs_get hi,refs_glen,hrow,Int.toNat_natCast,Nat.mul_one,Nat.zero_add,hi,Int.ofNat_lt,Int.natCast_nonneg]); (repeat refine qJ ?_)))
 refine WV_nilslot 4 22 75 1 (by decide) (by decide) (by rw [gown_lo (by decide)]; rfl) rfl ?_
 rw [prgO_gown (by decide),gown_upd (by decide)]
 simp only [go_sem]
 refine WV_loopS (fun k:Nat => ⟨upd (upd (upd (upd (upd e0 0 (.vw 1 1000 0 R.length gcap)) 1 (iv i)) 10 (iv w)) 4 (.gr 22)) 11 (iv k),gown bcd 1 R j (upd o0 22 (.grow 75 1 ((posL R.length k i true).map (ptrB bs))))⟩) (fun k => k ≤ w) (fun k => w - k) 0 (Nat.zero_le _) ?_ ?_
 ·exact Sub_of (by exact EnvLe_au) (ObLe_gown (by exact ObjLe_au))
 ·intro k hk
  (repeat ((first | refine Va ?_ | refine Vb ?_ | refine Vc ?_ | refine Vd ?_ | refine Ve ?_ | refine Vf ?_); (try simp only [go_sem,hP]); (repeat refine qJ ?_)))
  (refine WV_cond rfl (fun h => ?_) (fun h => ?_))
  ·have hk2:k < w:=by simpa using h
   have hw2:=w64 (n:=(k:Int) + 1) (by omega) (by omega)
   have h1:=ptrB_one bs (posL R.length k i true)
   have hpl:((posL R.length k i true).map (ptrB bs)).length = k:=by simp [posL]
   have hsn:(posL R.length (k + 1) i true).map (ptrB bs) = (posL R.length k i true).map (ptrB bs) ++ [ptrB bs (i,k)]:=by rw [posL_row,List.map_append]; rfl
   (refine WV_skip ?_; simp only [go_sem])
   refine WV_seq_ (WV_block (WV_seq_ ?_))
   (refine WV_op ?_; simp only [go_sem,hP]; (repeat refine qJ ?_))
   (refine WV_split 7 ?_; simp only [List.take_succ_cons,List.take_zero,List.take_nil,List.drop_succ_cons,List.drop_zero,List.drop_nil]; simp only [go_sem,hP,gown_grid,gown_row hi,Row.ob_box,gridOb,Ob.isBox,refs_get hi,refs_glen,hrow,Int.toNat_natCast,Nat.mul_one,Nat.zero_add,hi,hk2,Int.ofNat_lt,Int.natCast_nonneg]; (repeat refine qJ ?_))
   refine SOps_raw (i + 1001) k (bs (i + 1)) 20 hp1 hp2 rfl ?_
   (refine SOps_ops ?_; simp only [go_sem,hP,gown_lo,gown_upd,prgO_gown,h1,hpl,ptrB]; (repeat refine qJ ?_))
   (repeat ((first | refine Va ?_ | refine Vb ?_ | refine Vc ?_ | refine Vd ?_ | refine Ve ?_ | refine Vf ?_); (try simp only [go_sem,hP,hw2,gown_lo]); (repeat refine qJ ?_)))
   refine ⟨k + 1,by omega,by omega,?_⟩
   rw [hsn]
   exact Sub_of (by exact EnvLe_au) (ObLe_gown (by exact ObjLe_au))
  ·have h:k = w:=by simp at h; omega
   subst h
   (repeat ((first | refine Va ?_ | refine Vb ?_ | refine Vc ?_ | refine Vd ?_ | refine Ve ?_ | refine Vf ?_); (try simp only [go_sem,hP,gown_lo]); (repeat refine qJ ?_)))
   (refine WV_ret ?_; simp only [thenQ,inQ,RetQL,RetOkL,resAll,resA]; simp only [go_sem,tupA,AV.keepP,AV.keepPL,gown_lo]; refine ⟨_,gridL bcd 1 R j,rfl,KeepL_grid rfl (by omega),?_⟩)
   exact ⟨rfl,rfl⟩
set_option maxRecDepth 20000 in
set_option maxHeartbeats 4000000 in
theorem column81 (bs:Nat → Nat) {R:List BRow} {w:Nat} (hR:ROk R w) {j gcap c:Nat} (hc:c < w):FSpecB Tryd.prog 81 bs [.vw 1 1000 0 R.length gcap,iv c] (gridL bcd 1 R j) (fun r l' => r = .c (lineV bs (posL R.length w c false)) ∧ l' = gridL bcd 1 R j):=by
 have hmax:maxLen = 9223372036854775807:=rfl
 have hl:=hR.len
 have hw:=hR.wid
 refine FSpecB_of c81 gridL_bx (by rw [gridL_len]; omega) (Nat.le_refl _) (by decide) (by decide) fun C hP hN hC hat hL => ?_
 rw [init_env',ownW_grid (by omega)]
 simp only [ir81,updL,Nat.reduceAdd]
 rw [gridL_len] at hat
 (repeat ((first | refine Va ?_ | refine Vb ?_ | refine Vc ?_ | refine Vd ?_ | refine Ve ?_ | refine Vf ?_); (try simp only [go_sem,hP,gown_grid,gridOb,Ob.isBox]); (repeat refine qJ ?_)))
 refine WV_nilslot 4 19 75 1 (by decide) (by decide) (by rw [gown_lo (by decide)]; rfl) rfl ?_
 rw [prgO_gown (by decide),gown_upd (by decide)]
 simp only [go_sem]
 refine WV_loopS (fun k:Nat => ⟨upd (upd (upd (upd (upd e0 0 (.vw 1 1000 0 R.length gcap)) 1 (iv c)) 7 (iv R.length)) 4 (.gr 19)) 8 (iv k),gown bcd 1 R j (upd o0 19 (.grow 75 1 ((posL k w c false).map (ptrB bs))))⟩) (fun k => k ≤ R.length) (fun k => R.length - k) 0 (Nat.zero_le _) ?_ ?_
 ·exact Sub_of (by exact EnvLe_au) (ObLe_gown (by exact ObjLe_au))
 ·intro k hk
  (repeat ((first | refine Va ?_ | refine Vb ?_ | refine Vc ?_ | refine Vd ?_ | refine Ve ?_ | refine Vf ?_); (try simp only [go_sem,hP]); (repeat refine qJ ?_)))
  (refine WV_cond rfl (fun h => ?_) (fun h => ?_))
  ·have hk2:k < R.length:=by simpa using h
   have hw2:=w64 (n:=(k:Int) + 1) (by omega) (by omega)
   have hrow:=hR.row k hk2
   obtain ⟨hp1,hp2⟩:=hat (k + 1) (by omega)
   rw [show 1000 + (k + 1) = k + 1001 from by omega] at hp1 hp2
   have h1:=ptrB_one bs (posL k w c false)
   have hpl:((posL k w c false).map (ptrB bs)).length = k:=by simp [posL]
   have hsn:(posL (k + 1) w c false).map (ptrB bs) = (posL k w c false).map (ptrB bs) ++ [ptrB bs (k,c)]:=by rw [posL_col,List.map_append]; rfl
   (refine WV_skip ?_; simp only [go_sem])
   refine WV_seq_ (WV_block (WV_seq_ ?_))
   (refine WV_op ?_; simp only [go_sem,hP]; (repeat refine qJ ?_))
   (refine WV_split 7 ?_; simp only [List.take_succ_cons,List.take_zero,List.take_nil,List.drop_succ_cons,List.drop_zero,List.drop_nil]; simp only [go_sem,hP,gown_grid,gown_row hk2,Row.ob_box,gridOb,Ob.isBox,refs_get hk2,refs_glen,hrow,Int.toNat_natCast,Nat.mul_one,Nat.zero_add,hc,hk2,Int.ofNat_lt,Int.natCast_nonneg]; (repeat refine qJ ?_))
   refine SOps_raw (k + 1001) c (bs (k + 1)) 17 hp1 hp2 rfl ?_
   (refine SOps_ops ?_; simp only [go_sem,hP,gown_lo,gown_upd,prgO_gown,h1,hpl,ptrB]; (repeat refine qJ ?_))
   (repeat ((first | refine Va ?_ | refine Vb ?_ | refine Vc ?_ | refine Vd ?_ | refine Ve ?_ | refine Vf ?_); (try simp only [go_sem,hP,hw2,gown_lo]); (repeat refine qJ ?_)))
   refine ⟨k + 1,by omega,by omega,?_⟩
   rw [hsn]
   exact Sub_of (by exact EnvLe_au) (ObLe_gown (by exact ObjLe_au))
  ·have h:k = R.length:=by simp at h; omega
   subst h
   (repeat ((first | refine Va ?_ | refine Vb ?_ | refine Vc ?_ | refine Vd ?_ | refine Ve ?_ | refine Vf ?_); (try simp only [go_sem,hP,gown_lo]); (repeat refine qJ ?_)))
   (refine WV_ret ?_; simp only [thenQ,inQ,RetQL,RetOkL,resAll,resA]; simp only [go_sem,tupA,AV.keepP,AV.keepPL,gown_lo]; refine ⟨_,gridL bcd 1 R j,rfl,KeepL_grid rfl (by omega),?_⟩)
   exact ⟨rfl,rfl⟩
def allP (n w:Nat):List (List (Nat × Nat)):=(List.range n).map (fun i => posL n w i true) ++ (List.range w).map fun k => posL n w k false
def linesV (bs:Nat → Nat) (L:List (List (Nat × Nat))):CD:=.sl 1 (L.map fun l => [lineV bs l])
def lcd (bs:Nat → Nat) (l:List (Nat × Nat)):List CD:=[lineV bs l]
theorem lcd_one (bs:Nat → Nat) (l:List (List (Nat × Nat))):((l.map (lcd bs)).all fun e => e.length == 1) = true:=by
 rw [List.all_eq_true]; intro e he; obtain ⟨n,_,rfl⟩:=List.mem_map.1 he; rfl
def allQ (n w k i:Nat):List (List (Nat × Nat)):=(List.range k).map (fun i => posL n w i true) ++ (List.range i).map fun k => posL n w k false
theorem allQ_row (n w k:Nat):allQ n w (k + 1) 0 = allQ n w k 0 ++ [posL n w k true]:=by simp [allQ,List.range_succ]
theorem allQ_col (n w k i:Nat):allQ n w k (i + 1) = allQ n w k i ++ [posL n w i false]:=by simp [allQ,List.range_succ]
theorem allQ_len (n w k i:Nat):(allQ n w k i).length = k + i:=by simp [allQ]
set_option maxRecDepth 20000 in
set_option maxHeartbeats 4000000 in
theorem lines50 (bs:Nat → Nat) {R:List BRow} {w:Nat} (hR:ROk R w) (hn:0 < R.length) {j gcap:Nat}:FSpecB Tryd.prog 50 bs [.vw 1 1000 0 R.length gcap] (gridL bcd 1 R j) (fun r l' => r = .c (linesV bs (allP R.length w)) ∧ l' = gridL bcd 1 R j):=by
 have hmax:maxLen = 9223372036854775807:=rfl
 have hl:=hR.len
 have hw:=hR.wid
 have hr0:=hR.row 0 hn
 refine FSpecB_of c50 gridL_bx (by rw [gridL_len]; omega) (Nat.le_refl _) (by decide) (by decide) fun C hP hN hC hat hL => ?_
 rw [init_env',ownW_grid (by omega)]
 simp only [ir50,updL,Nat.reduceAdd]
 rw [gridL_len] at hat
 (repeat ((first | refine Va ?_ | refine Vb ?_ | refine Vc ?_ | refine Vd ?_ | refine Ve ?_ | refine Vf ?_); (try simp only [go_sem,hP,gown_grid,gridOb,Ob.isBox]); (repeat refine qJ ?_)))
 refine WV_nilslot 2 15 77 1 (by decide) (by decide) (by rw [gown_lo (by decide)]; rfl) rfl ?_
 rw [prgO_gown (by decide),gown_upd (by decide)]
 simp only [go_sem]
 refine WV_loopS (fun k:Nat => ⟨upd (upd (upd (upd e0 0 (.vw 1 1000 0 R.length gcap)) 6 (iv R.length)) 2 (.gr 15)) 7 (iv k),gown bcd 1 R j (upd o0 15 (.grow 77 1 ((allQ R.length w k 0).map (lcd bs))))⟩) (fun k => k ≤ R.length) (fun k => R.length - k) 0 (Nat.zero_le _) ?_ ?_
 ·exact Sub_of (by exact EnvLe_au) (ObLe_gown (by exact ObjLe_au))
 ·intro k hk
  (repeat ((first | refine Va ?_ | refine Vb ?_ | refine Vc ?_ | refine Vd ?_ | refine Ve ?_ | refine Vf ?_); (try simp only [go_sem,hP]); (repeat refine qJ ?_)))
  (refine WV_cond rfl (fun h => ?_) (fun h => ?_))
  ·have hk2:k < R.length:=by simpa using h
   have hw2:=w64 (n:=(k:Int) + 1) (by omega) (by omega)
   have h1:=lcd_one bs (allQ R.length w k 0)
   have hpl:((allQ R.length w k 0).map (lcd bs)).length = k:=by rw [List.length_map,allQ_len]; rfl
   have hsn:(allQ R.length w (k + 1) 0).map (lcd bs) = (allQ R.length w k 0).map (lcd bs) ++ [lcd bs (posL R.length w k true)]:=by rw [allQ_row,List.map_append]; rfl
   (refine WV_skip ?_; simp only [go_sem])
   refine WV_seq_ (WV_block (WV_seq_ ?_))
   (refine WV_op ?_; simp only [go_sem,hP]; (repeat refine qJ ?_))
   (refine WV_split 3 ?_; simp only [List.take_succ_cons,List.take_zero,List.take_nil,List.drop_succ_cons,List.drop_zero,List.drop_nil]; simp only [go_sem,hP]; (repeat refine qJ ?_))
   (refine SOps_grid hP (row52 bs hR hk2) hat rfl rfl rfl (by simp only [List.map_cons,List.map_nil,List.append_nil,List.nil_append,List.cons_append]; simp only [go_sem,AV.lendL,lend_grid,AV.lend]; first | done | rfl) ?_)
   rintro r l' ⟨rfl,rfl⟩
   refine ⟨R,rfl,rfl,rfl,?_⟩
   (refine SOps_ops ?_; simp only [go_sem,hP,gown_lo,gown_upd,prgO_gown,h1,hpl]; (repeat refine qJ ?_))
   (repeat ((first | refine Va ?_ | refine Vb ?_ | refine Vc ?_ | refine Vd ?_ | refine Ve ?_ | refine Vf ?_); (try simp only [go_sem,hP,hw2,gown_lo]); (repeat refine qJ ?_)))
   refine ⟨k + 1,by omega,by omega,?_⟩
   rw [hsn]
   exact Sub_of (by exact EnvLe_au) (ObLe_gown (by exact ObjLe_au))
  ·have h:k = R.length:=by simp at h; omega
   subst h
   (repeat ((first | refine Va ?_ | refine Vb ?_ | refine Vc ?_ | refine Vd ?_ | refine Ve ?_ | refine Vf ?_); (try simp only [go_sem,hP,gown_grid,gown_row hn,Row.ob_box,gridOb,Ob.isBox,refs_get hn,refs_glen,hr0,Int.toNat_zero,Nat.mul_one,Nat.zero_add,Nat.zero_mul,hn,Int.ofNat_lt,Int.natCast_nonneg,Nat.add_zero]); (repeat refine qJ ?_)))
   refine WV_move' 15 29 (by decide) (by decide) (by rw [gown_lo (by decide)]; rfl) ?_
   rw [rnO_gown (by decide) (by decide)]
   simp only [go_sem]
   refine WV_loopS (fun k:Nat => ⟨upd (upd (upd (upd e0 0 (.vw 1 1000 0 R.length gcap)) 20 (iv w)) 2 (.gr 29)) 21 (iv k),gown bcd 1 R j (upd o0 29 (.grow 77 1 ((allQ R.length w R.length k).map (lcd bs))))⟩) (fun k => k ≤ w) (fun k => w - k) 0 (Nat.zero_le _) ?_ ?_
   ·exact Sub_of (by exact EnvLe_au) (ObLe_gown (by exact ObjLe_au))
   ·intro k hk
    (repeat ((first | refine Va ?_ | refine Vb ?_ | refine Vc ?_ | refine Vd ?_ | refine Ve ?_ | refine Vf ?_); (try simp only [go_sem,hP]); (repeat refine qJ ?_)))
    (refine WV_cond rfl (fun h => ?_) (fun h => ?_))
    ·have hk2:k < w:=by simpa using h
     have hw2:=w64 (n:=(k:Int) + 1) (by omega) (by omega)
     have h1:=lcd_one bs (allQ R.length w R.length k)
     have hpl:((allQ R.length w R.length k).map (lcd bs)).length = R.length + k:=by rw [List.length_map,allQ_len]
     have hsn:(allQ R.length w R.length (k + 1)).map (lcd bs) = (allQ R.length w R.length k).map (lcd bs) ++ [lcd bs (posL R.length w k false)]:=by rw [allQ_col,List.map_append]; rfl
     (refine WV_skip ?_; simp only [go_sem])
     refine WV_seq_ (WV_block (WV_seq_ ?_))
     (refine WV_op ?_; simp only [go_sem,hP]; (repeat refine qJ ?_))
     (refine WV_split 3 ?_; simp only [List.take_succ_cons,List.take_zero,List.take_nil,List.drop_succ_cons,List.drop_zero,List.drop_nil]; simp only [go_sem,hP]; (repeat refine qJ ?_))
     (refine SOps_grid hP (column81 bs hR hk2) hat rfl rfl rfl (by simp only [List.map_cons,List.map_nil,List.append_nil,List.nil_append,List.cons_append]; simp only [go_sem,AV.lendL,lend_grid,AV.lend]; first | done | rfl) ?_)
     rintro r l' ⟨rfl,rfl⟩
     refine ⟨R,rfl,rfl,rfl,?_⟩
     (refine SOps_ops ?_; simp only [go_sem,hP,gown_lo,gown_upd,prgO_gown,h1,hpl]; (repeat refine qJ ?_))
     (repeat ((first | refine Va ?_ | refine Vb ?_ | refine Vc ?_ | refine Vd ?_ | refine Ve ?_ | refine Vf ?_); (try simp only [go_sem,hP,hw2,gown_lo]); (repeat refine qJ ?_)))
     refine ⟨k + 1,by omega,by omega,?_⟩
     rw [hsn]
     exact Sub_of (by exact EnvLe_au) (ObLe_gown (by exact ObjLe_au))
    ·have h:k = w:=by simp at h; omega
     subst h
     (repeat ((first | refine Va ?_ | refine Vb ?_ | refine Vc ?_ | refine Vd ?_ | refine Ve ?_ | refine Vf ?_); (try simp only [go_sem,hP,gown_lo]); (repeat refine qJ ?_)))
     (refine WV_ret ?_; simp only [thenQ,inQ,RetQL,RetOkL,resAll,resA]; simp only [go_sem,tupA,AV.keepP,AV.keepPL,gown_lo]; refine ⟨_,gridL bcd 1 R j,rfl,KeepL_grid rfl (by omega),?_⟩)
     exact ⟨rfl,rfl⟩
end Go.Proofs.YtlmfdmlochpfcaaDoor

namespace Go.Proofs.YtlmfdmlochpfcaaDoor
open Go Go.V
abbrev o69_0:List Ins:=[⟨some 2,.mv (.k (.c (.int .i64 0))),none,true⟩,
 ⟨some 3,.mv (.k (.c (.int .i64 0))),none,true⟩]
abbrev o69_1:List Ins:=[⟨some 6,.mv (.t 0),none,true⟩,
 ⟨some 7,.len (.t 6),none,true⟩,
 ⟨some 8,.mv (.k (.c (.int .i64 0))),none,true⟩]
abbrev o69_2:List Ins:=[⟨some 9,.bin .lss (.t 8) (.t 7),none,true⟩]
abbrev o69_3:List Ins:=[⟨some 10,.ia 1 (.t 6) (.t 8),none,true⟩,
 ⟨some 11,.ld true 1 (.t 10),none,true⟩,
 ⟨some 5,.mv (.t 11),none,true⟩]
abbrev o69_4:List Ins:=[⟨some 12,.mv (.t 5),none,true⟩,
 ⟨some 13,.nilc (.t 12),none,true⟩,
 ⟨some 14,.ld true 1 (.t 13),none,true⟩,
 ⟨some 15,.bin .eql (.t 14) (.k (.c (.int .u8 63))),none,true⟩]
abbrev o69_5:List Ins:=[⟨some 16,.mv (.t 2),none,true⟩,
 ⟨some 17,.bin .add (.t 16) (.k (.c (.int .i64 1))),none,true⟩,
 ⟨some 2,.mv (.t 17),none,true⟩]
abbrev o69_6:List Ins:=[⟨some 18,.mv (.t 3),none,true⟩,
 ⟨some 19,.mv (.t 5),none,true⟩,
 ⟨some 20,.nilc (.t 19),none,true⟩,
 ⟨some 21,.ld true 1 (.t 20),none,true⟩,
 ⟨some 22,.call (.k (.fn 79 [])) [(.t 21)],none,true⟩,
 ⟨some 23,.bin .sub (.t 18) (.t 22),none,true⟩,
 ⟨some 3,.mv (.t 23),none,true⟩]
abbrev v69_7:VC:=(.cond (.t 15) (.ops o69_5) (.ops o69_6))
abbrev v69_8:VC:=(.seq (.ops o69_4) v69_7)
abbrev v69_9:VC:=(.seq (.ops o69_3) v69_8)
abbrev o69_10:List Ins:=[⟨some 24,.bin .add (.t 8) (.k (.c (.int .i64 1))),none,true⟩,
 ⟨some 8,.mv (.t 24),none,true⟩]
abbrev v69_11:VC:=(.seq (.block 1 v69_9) (.ops o69_10))
abbrev v69_12:VC:=(.seq (.cond (.t 9) .skip (.exit 0)) v69_11)
abbrev v69_13:VC:=(.seq (.ops o69_2) v69_12)
-- K69_1: changed and kept: [8,2,3]
abbrev v69_14:VC:=(.loop v69_13)
abbrev v69_15:VC:=(.block 0 v69_14)
abbrev o69_16:List Ins:=[⟨some 25,.mv (.t 2),none,true⟩,
 ⟨some 26,.mv (.t 3),none,true⟩,
 ⟨some 27,.bin .rem (.t 26) (.k (.c (.int .i64 94))),none,true⟩,
 ⟨some 28,.bin .add (.t 27) (.k (.c (.int .i64 94))),none,true⟩,
 ⟨some 29,.bin .rem (.t 28) (.k (.c (.int .i64 94))),none,true⟩,
 ⟨some 2,.mv (.t 25),none,true⟩,
 ⟨some 3,.mv (.t 29),none,true⟩]
abbrev v69_17:VC:=(.seq (.ops o69_16) .ret)
abbrev v69_18:VC:=(.seq (.seq (.ops o69_1) v69_15) v69_17)
def ir69:FC:=⟨1,30,[.t 2,.t 3],(.seq (.ops o69_0) v69_18)⟩
theorem c69:compM Tryd.prog [] 69 = some ir69:=by kernel_rfl
attribute [local go_sem] Nat.reduceEqDiff Nat.reduceAdd Nat.reduceMul reduceIte Nat.reduceLeDiff Nat.reduceLT Nat.reduceBEq reduceCtorEq
def BOk (b:UInt8):Prop:=32 ≤ b.toNat ∧ b.toNat ≤ 126
def vq (b:UInt8):Int:=if b.toNat = 63 then -1 else valB b
def gv (R:List BRow):List (List Int):=R.map fun r => r.l.map vq
def BRs (R:List BRow):Prop:=∀ i (h:i < R.length) k (hk:k < (R[i]).l.length),BOk (R[i]).l[k]
theorem vq_R {b:UInt8} (h:BOk b):valR b = (vq b,true):=by
 unfold BOk at h
 unfold valR vq
 rw [if_neg (by omega)]
 split <;> rfl
theorem vq_lost {b:UInt8} (h:BOk b):vq b = -1 ↔ b.toNat = 63:=by
 unfold BOk at h
 unfold vq valB
 split
 ·simp; omega
 ·rw [if_neg (by omega)]
  split <;> omega
theorem vq_rng {b:UInt8} (h:BOk b):-1 ≤ vq b ∧ vq b < 94:=by
 unfold BOk at h
 unfold vq valB
 split
 ·simp
 ·rw [if_neg (by omega)]
  split <;> omega
theorem gv_len (R:List BRow):(gv R).length = R.length:=by simp [gv]
theorem gv_row {R:List BRow} {i:Nat} (h:i < R.length):(gv R).getD i [] = (R[i]).l.map vq:=by
 unfold gv; exact map_getD h
theorem gv_at {R:List BRow} {i k:Nat} (h:i < R.length) (hk:k < (R[i]).l.length):valAt (gv R) (i,k) = vq (R[i]).l[k]:=by
 unfold valAt
 simp only
 rw [gv_row h,map_getD hk]
def InR (R:List BRow) (ps:List (Nat × Nat)):Prop:=∀ p ∈ ps,∃ h:p.1 < R.length,p.2 < (R[p.1]).l.length
theorem InR.inG {R:List BRow} (hb:BRs R) {ps:List (Nat × Nat)} (h:InR R ps):∀ m ∈ ps,inG (gv R) m:=by
 intro m hm
 obtain ⟨h1,h2⟩:=h m hm
 refine ⟨by rw [gv_len]; exact h1,by rw [gv_row h1]; simpa using h2,?_⟩
 rw [show valAt (gv R) m = vq (R[m.1]).l[m.2] from gv_at h1 h2]
 exact vq_rng (hb _ _ _ _)
theorem InR_pos {R:List BRow} {w:Nat} (hR:ROk R w) {i:Nat} {b:Bool} (h:i < if b then R.length else w):InR R (posL R.length w i b):=by
 intro p hp
 unfold posL at hp
 cases b
 ·simp only [Bool.false_eq_true,if_false,List.mem_map,List.mem_range] at hp h
  obtain ⟨k,hk,rfl⟩:=hp
  exact ⟨hk,by rw [hR.row k hk]; exact h⟩
 ·simp only [if_true,List.mem_map,List.mem_range] at hp h
  obtain ⟨k,hk,rfl⟩:=hp
  exact ⟨h,by simp only; rw [hR.row i h]; exact hk⟩
theorem bcell {l:List UInt8} {k:Nat} (h:k < l.length) (j:Nat) (x:AV):(cellsG bcd l j).getD k x = u8 l[k]:=by
 have:=cellsG_get (cds:=bcd) bcd_one h j 0 (d:=.int .u8 l[k].toNat) rfl x
 simpa using this
theorem bcell_lt {l:List UInt8} {k:Nat} (h:k < l.length) (j:Nat):k < (cellsG bcd l j).length:=by rw [cellsG_len bcd_one]; omega
theorem lack_tmod {s:Int} (h:0 ≤ s):((-s).tmod 94 + 94).tmod 94 = (94 - s % 94) % 94:=by
 rw [Int.neg_tmod,Int.tmod_eq_emod_of_nonneg h,Int.tmod_eq_emod_of_nonneg (by omega)]
 congr 1; omega
theorem beq63 (b:UInt8):((b.toNat:Int) == 63) = decide (b.toNat = 63):=by
 rw [Bool.eq_iff_iff]; simp; omega
set_option maxRecDepth 20000 in
set_option maxHeartbeats 4000000 in
theorem state69 (bs:Nat → Nat) {R:List BRow} {w:Nat} (hR:ROk R w) (hb:BRs R) {ps:List (Nat × Nat)} (hin:InR R ps) (hpl:ps.length ≤ 100) {j:Nat}:FSpecB Tryd.prog 69 bs [.c (lineV bs ps)] (gridL bcd 1 R j) (fun r l' => r = .tup [iv (lostL (gv R) ps).length,iv (lackL (gv R) ps)] ∧ l' = gridL bcd 1 R j):=by
 have hmax:maxLen = 9223372036854775807:=rfl
 have hl:=hR.len
 have hG:=hin.inG hb
 refine FSpecB_of c69 gridL_bx (by rw [gridL_len]; omega) (Nat.le_refl _) (by decide) (by decide) fun C hP hN hC hat hL => ?_
 rw [init_env',ownW_grid (by omega)]
 simp only [ir69,updL,Nat.reduceAdd]
 rw [gridL_len] at hat
 (repeat ((first | refine Va ?_ | refine Vb ?_ | refine Vc ?_ | refine Vd ?_ | refine Ve ?_ | refine Vf ?_); (try simp only [go_sem,hP,lineV,List.length_map]); (repeat refine qJ ?_)))
 refine WV_loopS (fun k:Nat => ⟨upd (upd (upd (upd (upd e0 6 (.c (lineV bs ps))) 7 (iv ps.length)) 8 (iv k)) 2 (iv (lostL (gv R) (ps.take k)).length)) 3 (iv (-(sumL (gv R) (ps.take k)))),gown bcd 1 R j o0⟩) (fun k => k ≤ ps.length) (fun k => ps.length - k) 0 (Nat.zero_le _) ?_ ?_
 ·exact Sub_of (by ((repeat' (first | exact EnvLe_e0 _ _ | refine EnvLe_upd ?_ ?_)) <;> ((try simp only [upd_app,e0_app,o0_app,Nat.reduceEqDiff,reduceIte]); first | exact AWk.refl _ _ | exact AWk.int (by omega) | exact AWk.int (by rw [w64 (by omega) (by omega)]; omega) | exact AWk.grow rfl | exact AWk.nil _ | exact AWk.of (by simp [sumL,lostL])))) (ObLe_gown (by exact ObjLe_au))
 ·intro k hk
  (repeat ((first | refine Va ?_ | refine Vb ?_ | refine Vc ?_ | refine Vd ?_ | refine Ve ?_ | refine Vf ?_); (try simp only [go_sem,hP]); (repeat refine qJ ?_)))
  (refine WV_cond rfl (fun h => ?_) (fun h => ?_))
  ·have hk2:k < ps.length:=by simpa using h
   have hw2:=w64 (n:=(k:Int) + 1) (by omega) (by omega)
   obtain ⟨i1,i2⟩:=hin _ (List.getElem_mem hk2)
   obtain ⟨hp1,hp2⟩:=hat ((ps[k]).1 + 1) (by omega)
   rw [show 1000 + ((ps[k]).1 + 1) = (ps[k]).1 + 1001 from by omega] at hp1 hp2
   have hs0:=sumL_ok (g:=gv R) (l:=ps.take k) fun m hm => hG m (List.mem_of_mem_take hm)
   have htl:(ps.take k).length ≤ 100:=by rw [List.length_take]; omega
   have hll:(lostL (gv R) (ps.take k)).length ≤ 100:=Nat.le_trans (List.length_filter_le _ _) htl
   have hva:valAt (gv R) ps[k] = vq (R[(ps[k]).1]).l[(ps[k]).2]:=gv_at i1 i2
   have hbo:=hb _ i1 _ i2
   have hsn:=sumL_snoc (gv R) (ps.take k) ps[k]
   have hln:=lostL_snoc (gv R) (ps.take k) ps[k]
   rw [← List.take_succ_eq_append_getElem hk2,hva] at hsn hln
   have hrg:=vq_rng hbo
   (refine WV_skip ?_; simp only [go_sem])
   refine WV_seq_ (WV_block (WV_seq_ ?_))
   (refine WV_op ?_; simp only [go_sem,hP,lineV,map_getD hk2,ptrB,List.length_map,Int.toNat_natCast,Int.ofNat_lt,hk2,Int.natCast_nonneg]; (repeat refine qJ ?_))
   refine WV_unraw ((ps[k]).1 + 1001) (ps[k]).2 (bs ((ps[k]).1 + 1)) 5 hp1 hp2 rfl ?_
   simp only [go_sem]
   generalize hcb:(R[(ps[k]).1]).l[(ps[k]).2] = b at hsn hln hrg hbo
   (repeat ((first | refine Va ?_ | refine Vb ?_ | refine Vc ?_ | refine Vd ?_ | refine Ve ?_ | refine Vf ?_); (try simp only [go_sem,hP,gown_row i1,Row.ob_box,bcell i2,bcell_lt i2,hcb,beq63]); (repeat refine qJ ?_)))
   (refine WV_cond rfl (fun h => ?_) (fun h => ?_))
   ·have hv:vq b = -1:=(vq_lost hbo).2 (by simpa using h)
    rw [if_pos hv] at hsn hln
    have hw3:=w64 (n:=((lostL (gv R) (ps.take k)).length:Int) + 1) (by omega) (by omega)
    (repeat ((first | refine Va ?_ | refine Vb ?_ | refine Vc ?_ | refine Vd ?_ | refine Ve ?_ | refine Vf ?_); (try simp only [go_sem,hP,hw2,hw3]); (repeat refine qJ ?_)))
    refine ⟨k + 1,by omega,by omega,?_⟩
    rw [hsn,hln,List.length_append,Int.add_zero]
    exact Sub_of (by exact EnvLe_au) (ObLe_gown (by exact ObjLe_au))
   ·have hv:¬ vq b = -1:=fun hc => by rw [vq_lost hbo] at hc; simp [hc] at h
    have hvb:valB b = vq b:=by unfold vq; rw [if_neg (by simpa using h)]
    rw [if_neg hv] at hsn hln
    (repeat ((first | refine Va ?_ | refine Vb ?_ | refine Vc ?_ | refine Vd ?_ | refine Ve ?_ | refine Vf ?_); (try simp only [go_sem,hP,gown_row i1,Row.ob_box,bcell i2,bcell_lt i2,hcb]); (repeat refine qJ ?_)))
    (refine AS_pu (value79 b) ?_; simp only [go_sem,hP]; (repeat refine qJ ?_); (repeat ((first | refine Va ?_ | refine Vb ?_ | refine Vc ?_ | refine Vd ?_ | refine Ve ?_ | refine Vf ?_); (try simp only [go_sem,hP]); (repeat refine qJ ?_))))
    have hw3:=w64 (n:=-(sumL (gv R) (ps.take k)) - valB b) (by omega) (by omega)
    (repeat ((first | refine Va ?_ | refine Vb ?_ | refine Vc ?_ | refine Vd ?_ | refine Ve ?_ | refine Vf ?_); (try simp only [go_sem,hP,hw2,hw3]); (repeat refine qJ ?_)))
    refine ⟨k + 1,by omega,by omega,?_⟩
    rw [hsn,hln,List.append_nil,hvb,Int.neg_add]
    exact Sub_of (by ((repeat' (first | exact EnvLe_e0 _ _ | refine EnvLe_upd ?_ ?_)) <;> ((try simp only [upd_app,e0_app,o0_app,Nat.reduceEqDiff,reduceIte]); first | exact AWk.refl _ _ | exact AWk.int (by omega) | exact AWk.int (by rw [w64 (by omega) (by omega)]; omega) | exact AWk.grow rfl | exact AWk.nil _ | exact AWk.of (by simp [Int.sub_eq_add_neg])))) (ObLe_gown (by exact ObjLe_au))
  ·have h:k = ps.length:=by simp at h; omega
   subst h
   have hs0:=sumL_ok hG
   rw [List.take_length]
   have e:=lack_tmod hs0.1
   have hr1:-93 ≤ (-sumL (gv R) ps).tmod 94 ∧ (-sumL (gv R) ps).tmod 94 ≤ 0:=by
    rw [Int.neg_tmod,Int.tmod_eq_emod_of_nonneg hs0.1]; omega
   have hw3:=w64 (n:=(-sumL (gv R) ps).tmod 94 + 94) (by omega) (by omega)
   (repeat ((first | refine Va ?_ | refine Vb ?_ | refine Vc ?_ | refine Vd ?_ | refine Ve ?_ | refine Vf ?_); (try simp only [go_sem,hP,hw3,e]); (repeat refine qJ ?_)))
   (refine WV_ret ?_; simp only [thenQ,inQ,RetQL,RetOkL,resAll,resA]; simp only [go_sem,tupA,AV.keepP,AV.keepPL,gown_lo]; refine ⟨_,gridL bcd 1 R j,rfl,KeepL_grid rfl (by omega),?_⟩)
   exact ⟨rfl,rfl⟩
end Go.Proofs.YtlmfdmlochpfcaaDoor

namespace Go.Proofs.YtlmfdmlochpfcaaDoor
open Go Go.V
abbrev o53_0:List Ins:=[⟨some 2,.mv (.k (.c (.bool false))),none,true⟩]
abbrev o53_1:List Ins:=[⟨some 8,.mv (.t 0),none,true⟩,
 ⟨some 9,.call (.k (.fn 69 [])) [(.t 8)],none,true⟩,
 ⟨some 7,.mv (.t 9),none,true⟩,
 ⟨some 10,.ext (.t 7) 0,none,true⟩,
 ⟨some 11,.ext (.t 7) 1,none,true⟩,
 ⟨some 3,.mv (.t 10),none,true⟩,
 ⟨some 4,.mv (.t 11),none,true⟩]
abbrev o53_2:List Ins:=[⟨some 12,.mv (.t 3),none,true⟩,
 ⟨some 13,.bin .neq (.t 12) (.k (.c (.int .i64 1))),none,true⟩]
abbrev o53_3:List Ins:=[⟨some 2,.mv (.k (.c (.bool false))),none,true⟩]
abbrev v53_4:VC:=(.seq (.ops o53_3) .ret)
abbrev v53_5:VC:=(.cond (.t 13) v53_4 .skip)
abbrev o53_6:List Ins:=[⟨some 14,.mv (.t 0),none,true⟩,
 ⟨some 15,.len (.t 14),none,true⟩,
 ⟨some 16,.mv (.k (.c (.int .i64 0))),none,true⟩]
abbrev o53_7:List Ins:=[⟨some 17,.bin .lss (.t 16) (.t 15),none,true⟩]
abbrev o53_8:List Ins:=[⟨some 18,.ia 1 (.t 14) (.t 16),none,true⟩,
 ⟨some 19,.ld true 1 (.t 18),none,true⟩,
 ⟨some 6,.mv (.t 19),none,true⟩]
abbrev o53_9:List Ins:=[⟨some 20,.mv (.t 6),none,true⟩,
 ⟨some 21,.nilc (.t 20),none,true⟩,
 ⟨some 22,.ld true 1 (.t 21),none,true⟩,
 ⟨some 23,.bin .eql (.t 22) (.k (.c (.int .u8 63))),none,true⟩]
abbrev o53_10:List Ins:=[⟨some 24,.mv (.t 6),none,true⟩,
 ⟨some 25,.mv (.t 4),none,true⟩,
 ⟨some 26,.call (.k (.fn 82 [])) [(.t 25)],none,true⟩,
 ⟨some 27,.nilc (.t 24),none,true⟩,
 ⟨none,.st 1 (.t 27) (.t 26),none,true⟩]
abbrev v53_11:VC:=(.cond (.t 23) (.ops o53_10) .skip)
abbrev v53_12:VC:=(.seq (.ops o53_9) v53_11)
abbrev v53_13:VC:=(.seq (.ops o53_8) v53_12)
abbrev o53_14:List Ins:=[⟨some 28,.bin .add (.t 16) (.k (.c (.int .i64 1))),none,true⟩,
 ⟨some 16,.mv (.t 28),none,true⟩]
abbrev v53_15:VC:=(.seq (.block 1 v53_13) (.ops o53_14))
abbrev v53_16:VC:=(.seq (.cond (.t 17) .skip (.exit 0)) v53_15)
abbrev v53_17:VC:=(.seq (.ops o53_7) v53_16)
-- K53_1: changed and kept: [16]
abbrev v53_18:VC:=(.loop v53_17)
abbrev v53_19:VC:=(.block 0 v53_18)
abbrev o53_20:List Ins:=[⟨some 2,.mv (.k (.c (.bool true))),none,true⟩]
abbrev v53_21:VC:=(.seq (.ops o53_20) .ret)
abbrev v53_22:VC:=(.seq (.seq (.ops o53_6) v53_19) v53_21)
abbrev v53_23:VC:=(.seq (.seq (.ops o53_2) v53_5) v53_22)
abbrev v53_24:VC:=(.seq (.ops o53_1) v53_23)
def ir53:FC:=⟨1,29,[.t 2],(.seq (.ops o53_0) v53_24)⟩
theorem c53:compM Tryd.prog [] 53 = some ir53:=by kernel_rfl
attribute [local go_sem] Nat.reduceEqDiff Nat.reduceAdd Nat.reduceMul reduceIte Nat.reduceLeDiff Nat.reduceLT Nat.reduceBEq reduceCtorEq
def putB (R:List BRow) (p:Nat × Nat) (v:UInt8):List BRow:=if h:p.1 < R.length then R.set p.1 ⟨(R[p.1]).l.set p.2 v,(R[p.1]).j,(R[p.1]).cap⟩ else R
theorem putB_eq {R:List BRow} {p:Nat × Nat} (v:UInt8) (h:p.1 < R.length):putB R p v = R.set p.1 ⟨(R[p.1]).l.set p.2 v,(R[p.1]).j,(R[p.1]).cap⟩:=dif_pos h
theorem putB_len (R:List BRow) (p:Nat × Nat) (v:UInt8):(putB R p v).length = R.length:=by unfold putB; split <;> simp
theorem putB_refs (R:List BRow) (p:Nat × Nat) (v:UInt8):refs 1001 1 0 (putB R p v) = refs 1001 1 0 R:=by
 unfold putB
 split
 ·rename_i h
  exact refs_set h _ (by simp) rfl
 ·rfl
theorem putB_row {R:List BRow} {p:Nat × Nat} {v:UInt8} {i:Nat} (h:i < R.length) (h':i < (putB R p v).length):((putB R p v)[i]).l = if i = p.1 then (R[i]).l.set p.2 v else (R[i]).l:=by
 unfold putB
 split
 ·rename_i hp
  simp only [List.getElem_set]
  split
  ·rename_i e; subst e; rw [if_pos rfl]
  ·rename_i e; rw [if_neg (fun h => e h.symm)]
 ·rename_i hp
  rw [if_neg (by omega)]
theorem putB_ok {R:List BRow} {w:Nat} (hR:ROk R w) (p:Nat × Nat) (v:UInt8):ROk (putB R p v) w:=by
 refine ⟨by rw [putB_len]; exact hR.len,hR.wid,fun i h => ?_⟩
 have hi:i < R.length:=by rwa [putB_len] at h
 rw [putB_row hi h]
 split
 ·rw [List.length_set]; exact hR.row i hi
 ·exact hR.row i hi
theorem putB_bytes {R:List BRow} (hb:BRs R) (p:Nat × Nat) {v:UInt8} (hv:BOk v):BRs (putB R p v):=by
 intro i h k hk
 have hi:i < R.length:=by rwa [putB_len] at h
 have e:=putB_row hi h (v:=v) (p:=p)
 have:((putB R p v)[i]).l[k] = (if i = p.1 then (R[i]).l.set p.2 v else (R[i]).l)[k]'(by rw [← e]; exact hk):=by simp only [e]
 rw [this]
 by_cases hip:i = p.1
 ·simp only [hip,if_true,List.getElem_set]
  split
  ·exact hv
  ·simp only [← hip]; exact hb i hi _ _
 ·simp only [hip,if_false]
  exact hb i hi _ _
def setG (g:List (List Int)) (p:Nat × Nat) (v:Int):List (List Int):=g.set p.1 ((g.getD p.1 []).set p.2 v)
theorem putB_gv {R:List BRow} {p:Nat × Nat} {v:UInt8} (h:p.1 < R.length):gv (putB R p v) = setG (gv R) p (vq v):=by
 unfold setG
 rw [gv_row h,putB_eq v h]
 unfold gv
 rw [List.map_set,List.map_set]
theorem gown_put {R:List BRow} {p:Nat × Nat} {v:UInt8} (h:p.1 < R.length) (hk:p.2 < (R[p.1]).l.length) (j:Nat) (o:Nat → Ob):upd (gown bcd 1 R j o) (p.1 + 1001) (.box ((cellsG bcd (R[p.1]).l (R[p.1]).j).set p.2 (u8 v))) = gown bcd 1 (putB R p v) j o:=by
 have:=cellsG_set (cds:=bcd) bcd_one hk (R[p.1]).j 0 (by decide) (.int .u8 v.toNat) v rfl
 rw [Nat.mul_one,Nat.add_zero] at this
 rw [this]
 have e:gridOb 1 (putB R p v) j = gridOb 1 R j:=by unfold gridOb; rw [putB_refs]
 unfold gown
 rw [e,putB_eq v h]
 exact fam_set h ⟨(R[p.1]).l.set p.2 v,(R[p.1]).j,(R[p.1]).cap⟩
theorem sgn_ok {n:Int} (h:0 ≤ n ∧ n < 94):BOk (sgn n) ∧ vq (sgn n) = n:=by
 have h1:=sgn_nat h
 unfold BOk vq valB
 split at h1
 ·refine ⟨by omega,?_⟩
  rw [if_neg (by omega),if_neg (by omega),if_pos (by omega)]; omega
 ·refine ⟨by omega,?_⟩
  rw [if_neg (by omega),if_neg (by omega),if_neg (by omega)]; omega
theorem lack_rng (g:List (List Int)) (l:List (Nat × Nat)):0 ≤ lackL g l ∧ lackL g l < 94:=by unfold lackL; omega
theorem lost_one {g:List (List Int)} {ps:List (Nat × Nat)} (h:(lostL g ps).length = 1):∃ A p B,ps = A ++ p :: B ∧ (∀ q ∈ A,valAt g q ≠ -1) ∧ (∀ q ∈ B,valAt g q ≠ -1) ∧ valAt g p = -1 ∧ lostL g ps = [p]:=by
 induction ps with
 | nil => simp [lostL] at h
 | cons q ps ih =>
  by_cases hq:valAt g q = -1
  ·have e:lostL g (q :: ps) = q :: lostL g ps:=by simp [lostL,hq]
   rw [e] at h
   have h0:lostL g ps = []:=List.eq_nil_of_length_eq_zero (by simpa using h)
   refine ⟨[],q,ps,rfl,by simp,fun r hr hv => ?_,hq,by rw [e,h0]⟩
   have:r ∈ lostL g ps:=by simp [lostL,hr,hv]
   rw [h0] at this; cases this
  ·have e:lostL g (q :: ps) = lostL g ps:=by simp [lostL,hq]
   rw [e] at h
   obtain ⟨A,p,B,rfl,h1,h2,h3,h4⟩:=ih h
   refine ⟨q :: A,p,B,rfl,fun r hr => ?_,h2,h3,by rw [e,h4]⟩
   rcases List.mem_cons.1 hr with rfl | hr
   ·exact hq
   ·exact h1 r hr
theorem getD_setI {α:Type} (l:List α) (i k:Nat) (a d:α):(l.set i a).getD k d = if i = k ∧ i < l.length then a else l.getD k d:=by
 rw [List.getD_eq_getElem?_getD,List.getElem?_set,List.getD_eq_getElem?_getD]
 by_cases h:i = k
 ·subst h
  by_cases h2:i < l.length
  ·simp [h2]
  ·simp [h2]
 ·simp [h]
theorem valAt_set (g:List (List Int)) (p q:Nat × Nat) (v:Int):valAt (setG g p v) q = if p = q ∧ p.1 < g.length ∧ p.2 < (g.getD p.1 []).length then v else valAt g q:=by
 obtain ⟨p1,p2⟩:=p
 obtain ⟨q1,q2⟩:=q
 unfold setG valAt
 simp only [getD_setI,Prod.mk.injEq]
 by_cases h1:p1 = q1
 ·subst h1
  by_cases h2:p1 < g.length
  ·simp only [true_and,h2,if_true,getD_setI]
  ·simp only [true_and,h2,and_false,false_and,if_false]
 ·simp only [h1,false_and,if_false]
def fillR (R:List BRow) (ps:List (Nat × Nat)):List BRow:=if (lostL (gv R) ps).length = 1 then putB R ((lostL (gv R) ps).getD 0 (0,0)) (sgn (lackL (gv R) ps)) else R
set_option maxRecDepth 20000 in
set_option maxHeartbeats 8000000 in
theorem fill53 (bs:Nat → Nat) {R:List BRow} {w:Nat} (hR:ROk R w) (hb:BRs R) {ps:List (Nat × Nat)} (hin:InR R ps) (hpl:ps.length ≤ 100) {j:Nat}:FSpecB Tryd.prog 53 bs [.c (lineV bs ps)] (gridL bcd 1 R j) (fun r l' => r = bv (decide ((lostL (gv R) ps).length = 1)) ∧ l' = gridL bcd 1 (fillR R ps) j):=by
 have hmax:maxLen = 9223372036854775807:=rfl
 have hl:=hR.len
 have hG:=hin.inG hb
 refine FSpecB_of c53 gridL_bx (by rw [gridL_len]; omega) (Nat.le_refl _) (by decide) (by decide) fun C hP hN hC hat hL => ?_
 rw [init_env',ownW_grid (by omega)]
 simp only [ir53,updL,Nat.reduceAdd]
 rw [gridL_len] at hat
 refine WV_seq_ ?_
 (refine WV_op ?_; simp only [go_sem,hP]; (repeat refine qJ ?_))
 refine WV_seq_ ?_
 (refine WV_split 1 ?_; simp only [List.take_succ_cons,List.take_zero,List.take_nil,List.drop_succ_cons,List.drop_zero,List.drop_nil]; simp only [go_sem,hP]; (repeat refine qJ ?_))
 (refine SOps_grid hP (state69 bs hR hb hin hpl) hat rfl rfl rfl (by simp only [List.map_cons,List.map_nil,List.append_nil,List.nil_append,List.cons_append]; simp only [go_sem,AV.lendL,lend_grid,AV.lend]; first | done | rfl) ?_)
 rintro r l' ⟨rfl,rfl⟩
 refine ⟨R,rfl,rfl,rfl,?_⟩
 (refine SOps_ops ?_; simp only [go_sem,hP]; (repeat refine qJ ?_))
 (repeat ((first | refine Va ?_ | refine Vb ?_ | refine Vc ?_ | refine Vd ?_ | refine Ve ?_ | refine Vf ?_); (try simp only [go_sem,hP]); (repeat refine qJ ?_)))
 have hone:((((lostL (gv R) ps).length:Nat):Int) != 1) = !decide ((lostL (gv R) ps).length = 1):=by
  rw [Bool.eq_iff_iff]; simp; omega
 rw [hone]
 by_cases h1:(lostL (gv R) ps).length = 1
 ·rw [decide_eq_true h1]
  obtain ⟨A,p,B,hps,hA,hB,hp,hlo⟩:=lost_one h1
  have hsg:=sgn_ok (lack_rng (gv R) ps)
  have hfR:fillR R ps = putB R p (sgn (lackL (gv R) ps)):=by unfold fillR; rw [if_pos h1,hlo]; rfl
  rw [hfR]
  generalize hv:sgn (lackL (gv R) ps) = v at hsg
  have hpin:∃ h:p.1 < R.length,p.2 < (R[p.1]).l.length:=hin p (by rw [hps]; simp)
  obtain ⟨p1,p2⟩:=hpin
  have hpv:valAt (gv R) p = vq (R[p.1]).l[p.2]:=gv_at p1 p2
  obtain ⟨RR,hRR⟩ : ∃ RR:Nat → List BRow,RR = fun k => if k ≤ A.length then R else putB R p v:=⟨_,rfl⟩
  have hRok:∀ k,ROk (RR k) w:=fun k => by rw [hRR]; simp only; split <;> first | exact hR | exact putB_ok hR p v
  have hRb:∀ k,BRs (RR k):=fun k => by rw [hRR]; simp only; split <;> first | exact hb | exact putB_bytes hb p hsg.1
  have hRl:∀ k,(RR k).length = R.length:=fun k => by rw [hRR]; simp only; split <;> first | rfl | exact putB_len R p v
  have hin2:∀ k q,q ∈ ps → ∃ h:q.1 < (RR k).length,q.2 < ((RR k)[q.1]).l.length:=fun k q hq => by
   obtain ⟨h1,h2⟩:=hin q hq
   have h3:q.1 < (RR k).length:=by rw [hRl]; exact h1
   exact ⟨h3,by rw [(hRok k).row _ h3,← hR.row _ h1]; exact h2⟩
  have fact:∀ k (hk:k < ps.length) (h3:(ps[k]).1 < (RR k).length) (h4:(ps[k]).2 < ((RR k)[(ps[k]).1]).l.length),(((RR k)[(ps[k]).1]).l[(ps[k]).2]).toNat = 63 ↔ k = A.length:=by
   intro k hk h3 h4
   rw [← vq_lost (hRb k _ h3 _ h4),← gv_at h3 h4]
   rcases Nat.lt_trichotomy k A.length with hlt | heq | hgt
   ·have hm:ps[k] ∈ A:=by
     have:ps[k] = A[k]:=by simp only [hps]; exact List.getElem_append_left hlt
     rw [this]; exact List.getElem_mem hlt
    have e:RR k = R:=by rw [hRR]; simp only; rw [if_pos (by omega)]
    rw [e]
    exact ⟨fun hv => (hA _ hm hv).elim,fun hc => by omega⟩
   ·have hm:ps[k] = p:=by
     simp only [hps]; rw [List.getElem_append_right (by omega)]; simp [heq]
    have e:RR k = R:=by rw [hRR]; simp only; rw [if_pos (by omega)]
    rw [e]
    exact ⟨fun _ => heq,fun _ => by rw [show ((ps[k]).1,(ps[k]).2) = ps[k] from rfl,hm]; exact hp⟩
   ·have hm:ps[k] ∈ B:=by
     have:ps[k] = (p :: B)[k - A.length]'(by rw [hps] at hk; simp at hk ⊢; omega):=by simp only [hps]; exact List.getElem_append_right (by omega)
     rw [this]
     obtain ⟨n,hn⟩ : ∃ n,k - A.length = n + 1:=⟨k - A.length - 1,by omega⟩
     simp only [hn,List.getElem_cons_succ]
     exact List.getElem_mem _
    have e:RR k = putB R p v:=by rw [hRR]; simp only; rw [if_neg (by omega)]
    rw [e,putB_gv p1,valAt_set,if_neg (fun hc => hB _ hm (by rw [show ps[k] = ((ps[k]).1,(ps[k]).2) from rfl,← hc.1]; exact hp))]
    exact ⟨fun hv => (hB _ hm hv).elim,fun hc => by omega⟩
  (refine WV_cond rfl (fun h => ?_) (fun h => ?_))
  ·simp at h
  ·(repeat ((first | refine Va ?_ | refine Vb ?_ | refine Vc ?_ | refine Vd ?_ | refine Ve ?_ | refine Vf ?_); (try simp only [go_sem,hP,lineV,List.length_map]); (repeat refine qJ ?_)))
   refine WV_loopS (fun k:Nat => ⟨upd (upd (upd (upd e0 4 (iv (lackL (gv R) ps))) 14 (.c (lineV bs ps))) 15 (iv ps.length)) 16 (iv k),gown bcd 1 (RR k) j o0⟩) (fun k => k ≤ ps.length) (fun k => ps.length - k) 0 (Nat.zero_le _) ?_ ?_
   ·rw [show RR 0 = R by rw [hRR]; simp]
    exact Sub_of (by exact EnvLe_au) (ObLe_gown (by exact ObjLe_au))
   ·intro k hk
    (repeat ((first | refine Va ?_ | refine Vb ?_ | refine Vc ?_ | refine Vd ?_ | refine Ve ?_ | refine Vf ?_); (try simp only [go_sem,hP]); (repeat refine qJ ?_)))
    (refine WV_cond rfl (fun h => ?_) (fun h => ?_))
    ·have hk2:k < ps.length:=by simpa using h
     have hw2:=w64 (n:=(k:Int) + 1) (by omega) (by omega)
     obtain ⟨i1,i2⟩:=hin2 k _ (List.getElem_mem hk2)
     obtain ⟨hp1,hp2⟩:=hat ((ps[k]).1 + 1) (by rw [← hRl k]; omega)
     rw [show 1000 + ((ps[k]).1 + 1) = (ps[k]).1 + 1001 from by omega] at hp1 hp2
     have hf:=fact k hk2 i1 i2
     generalize hcb:((RR k)[(ps[k]).1]).l[(ps[k]).2] = b at hf
     (refine WV_skip ?_; simp only [go_sem])
     refine WV_seq_ (WV_block (WV_seq_ ?_))
     (refine WV_op ?_; simp only [go_sem,hP,lineV,map_getD hk2,ptrB,List.length_map,Int.toNat_natCast,Int.ofNat_lt,hk2,Int.natCast_nonneg]; (repeat refine qJ ?_))
     refine WV_unraw ((ps[k]).1 + 1001) (ps[k]).2 (bs ((ps[k]).1 + 1)) 6 hp1 hp2 rfl ?_
     simp only [go_sem]
     (repeat ((first | refine Va ?_ | refine Vb ?_ | refine Vc ?_ | refine Vd ?_ | refine Ve ?_ | refine Vf ?_); (try simp only [go_sem,hP,gown_row i1,Row.ob_box,bcell i2,bcell_lt i2,hcb,beq63]); (repeat refine qJ ?_)))
     (refine WV_cond rfl (fun h => ?_) (fun h => ?_))
     ·have hkA:k = A.length:=hf.1 (by simpa using h)
      have hpk:ps[k] = p:=by
       simp only [hps]; rw [List.getElem_append_right (by omega)]; simp [hkA]
      have hsg2:=sign82 (lack_rng (gv R) ps)
      rw [hv] at hsg2
      have e0':RR k = R:=by rw [hRR]; simp only; rw [if_pos (by omega)]
      have e1:RR (k + 1) = putB R p v:=by rw [hRR]; simp only; rw [if_neg (by omega)]
      rw [hpk,e0']
      have hcl:=bcell_lt p2 (R[p.1]).j
      (repeat ((first | refine Va ?_ | refine Vb ?_ | refine Vc ?_ | refine Vd ?_ | refine Ve ?_ | refine Vf ?_); (try simp only [go_sem,hP,Row.ob_box]); (repeat refine qJ ?_)))
      (refine AS_pu (hsg2) ?_; simp only [go_sem,hP,gown_row p1,Row.ob_box,bcell_lt p2,gown_put p1 p2]; (repeat refine qJ ?_); (repeat ((first | refine Va ?_ | refine Vb ?_ | refine Vc ?_ | refine Vd ?_ | refine Ve ?_ | refine Vf ?_); (try simp only [go_sem,hP,gown_row p1,Row.ob_box,bcell_lt p2,gown_put p1 p2]); (repeat refine qJ ?_))))
      (repeat ((first | refine Va ?_ | refine Vb ?_ | refine Vc ?_ | refine Vd ?_ | refine Ve ?_ | refine Vf ?_); (try simp only [go_sem,hP,hw2]); (repeat refine qJ ?_)))
      refine ⟨k + 1,by omega,by omega,?_⟩
      rw [e1]
      exact Sub_of (by exact EnvLe_au) (ObLe_gown (by exact ObjLe_au))
     ·have hkA:k ≠ A.length:=fun hc => by rw [hf.2 hc] at h; simp at h
      have e1:RR (k + 1) = RR k:=by
       rw [hRR]; simp only
       by_cases hlt:k < A.length
       ·rw [if_pos (by omega),if_pos (by omega)]
       ·rw [if_neg (by omega),if_neg (by omega)]
      (repeat ((first | refine Va ?_ | refine Vb ?_ | refine Vc ?_ | refine Vd ?_ | refine Ve ?_ | refine Vf ?_); (try simp only [go_sem,hP,hw2]); (repeat refine qJ ?_)))
      refine ⟨k + 1,by omega,by omega,?_⟩
      rw [e1]
      exact Sub_of (by exact EnvLe_au) (ObLe_gown (by exact ObjLe_au))
    ·have h:k = ps.length:=by simp at h; omega
     subst h
     have e1:RR ps.length = putB R p v:=by rw [hRR]; simp only; rw [if_neg (by rw [hps]; simp)]
     rw [e1]
     (repeat ((first | refine Va ?_ | refine Vb ?_ | refine Vc ?_ | refine Vd ?_ | refine Ve ?_ | refine Vf ?_); (try simp only [go_sem,hP]); (repeat refine qJ ?_)))
     (refine WV_ret ?_; simp only [thenQ,inQ,RetQL,RetOkL,resAll,resA]; simp only [go_sem,tupA,AV.keepP,AV.keepPL,gown_lo]; refine ⟨_,gridL bcd 1 (putB R p v) j,rfl,KeepL_grid (putB_len R p v) (by omega),?_⟩)
     exact ⟨rfl,rfl⟩
 ·rw [decide_eq_false h1]
  have hfR:fillR R ps = R:=by unfold fillR; rw [if_neg h1]
  rw [hfR]
  (refine WV_cond rfl (fun h => ?_) (fun h => ?_))
  ·(repeat ((first | refine Va ?_ | refine Vb ?_ | refine Vc ?_ | refine Vd ?_ | refine Ve ?_ | refine Vf ?_); (try simp only [go_sem,hP]); (repeat refine qJ ?_)))
   (refine WV_ret ?_; simp only [thenQ,inQ,RetQL,RetOkL,resAll,resA]; simp only [go_sem,tupA,AV.keepP,AV.keepPL,gown_lo]; refine ⟨_,gridL bcd 1 R j,rfl,KeepL_grid rfl (by omega),?_⟩)
   exact ⟨rfl,rfl⟩
  ·simp at h
end Go.Proofs.YtlmfdmlochpfcaaDoor

namespace Go.Proofs.YtlmfdmlochpfcaaDoor
open Go Go.V
abbrev o99_0:List Ins:=[⟨some 4,.mv (.k (.c (.int .i64 0))),none,true⟩]
abbrev o99_1:List Ins:=[⟨some 6,.mv (.t 0),none,true⟩,
 ⟨some 7,.len (.t 6),none,true⟩,
 ⟨some 8,.mv (.k (.c (.int .i64 0))),none,true⟩]
abbrev o99_2:List Ins:=[⟨some 9,.bin .lss (.t 8) (.t 7),none,true⟩]
abbrev o99_3:List Ins:=[⟨some 10,.mv (.t 8),none,true⟩,
 ⟨some 5,.mv (.t 10),none,true⟩]
abbrev o99_4:List Ins:=[⟨some 11,.mv (.t 1),none,true⟩,
 ⟨some 12,.mv (.t 0),none,true⟩,
 ⟨some 13,.mv (.t 5),none,true⟩,
 ⟨some 14,.ia 1 (.t 12) (.t 13),none,true⟩,
 ⟨some 15,.ld true 1 (.t 14),none,true⟩,
 ⟨some 16,.call (.t 11) [(.t 15)],none,true⟩]
abbrev o99_5:List Ins:=[⟨some 17,.mv (.t 5),none,true⟩,
 ⟨some 4,.mv (.t 17),none,true⟩]
abbrev v99_6:VC:=(.seq (.ops o99_5) .ret)
abbrev v99_7:VC:=(.cond (.t 16) v99_6 .skip)
abbrev v99_8:VC:=(.seq (.ops o99_4) v99_7)
abbrev v99_9:VC:=(.seq (.ops o99_3) v99_8)
abbrev o99_10:List Ins:=[⟨some 18,.bin .add (.t 8) (.k (.c (.int .i64 1))),none,true⟩,
 ⟨some 8,.mv (.t 18),none,true⟩]
abbrev v99_11:VC:=(.seq (.block 1 v99_9) (.ops o99_10))
abbrev v99_12:VC:=(.seq (.cond (.t 9) .skip (.exit 0)) v99_11)
abbrev v99_13:VC:=(.seq (.ops o99_2) v99_12)
-- K99_1: changed and kept: [8]
abbrev v99_14:VC:=(.loop v99_13)
abbrev v99_15:VC:=(.block 0 v99_14)
abbrev o99_16:List Ins:=[⟨some 4,.mv (.k (.c (.int .i64 (-1)))),none,true⟩]
abbrev v99_17:VC:=(.seq (.ops o99_16) .ret)
abbrev v99_18:VC:=(.seq (.seq (.ops o99_1) v99_15) v99_17)
def ir99:FC:=⟨2,19,[.t 4],(.seq (.ops o99_0) v99_18)⟩
abbrev o85_0:List Ins:=[⟨some 4,.mv (.k (.c (.bool false))),none,true⟩]
abbrev o85_1:List Ins:=[⟨some 5,.mv (.t 0),none,true⟩,
 ⟨some 6,.mv (.t 1),none,true⟩,
 ⟨some 7,.call (.k (.fn 99 [])) [(.t 5),(.t 6)],none,true⟩,
 ⟨some 8,.bin .geq (.t 7) (.k (.c (.int .i64 0))),none,true⟩,
 ⟨some 4,.mv (.t 8),none,true⟩]
abbrev v85_2:VC:=(.seq (.ops o85_1) .ret)
def ir85:FC:=⟨2,9,[.t 4],(.seq (.ops o85_0) v85_2)⟩
theorem c99:compM Tryd.prog [] 99 = some ir99:=by kernel_rfl
theorem c85:compM Tryd.prog [] 85 = some ir85:=by kernel_rfl
attribute [local go_sem] Nat.reduceEqDiff Nat.reduceAdd Nat.reduceMul reduceIte Nat.reduceLeDiff Nat.reduceLT Nat.reduceBEq reduceCtorEq
def oneL (g:List (List Int)) (l:List (Nat × Nat)):Bool:=(lostL g l).length == 1
structure LOk (R:List BRow) (LL:List (List (Nat × Nat))):Prop where
 inr:∀ l ∈ LL,InR R l
 len:∀ l ∈ LL,l.length ≤ 100
 many:LL.length ≤ 1000
theorem oneL_dec (g:List (List Int)) (l:List (Nat × Nat)):decide ((lostL g l).length = 1) = oneL g l:=by unfold oneL; rw [Bool.eq_iff_iff]; simp
def idxL (g:List (List Int)) (LL:List (List (Nat × Nat))):Int:=match LL.findIdx? (oneL g) with | some i => i | none => -1
def fillA (R:List BRow) (LL:List (List (Nat × Nat))):List BRow:=match LL.find? (oneL (gv R)) with | some l => fillR R l | none => R
theorem fillR_not {R:List BRow} {l:List (Nat × Nat)} (h:oneL (gv R) l = false):fillR R l = R:=by
 unfold fillR; rw [if_neg]; intro hc; unfold oneL at h; rw [hc] at h; simp at h
theorem fillR_len (R:List BRow) (l:List (Nat × Nat)):(fillR R l).length = R.length:=by unfold fillR; split <;> first | exact putB_len _ _ _ | rfl
theorem fillA_len (R:List BRow) (LL:List (List (Nat × Nat))):(fillA R LL).length = R.length:=by unfold fillA; split <;> first | exact fillR_len _ _ | rfl
set_option maxRecDepth 20000 in
set_option maxHeartbeats 8000000 in
theorem index99 (bs:Nat → Nat) {R:List BRow} {w:Nat} (hR:ROk R w) (hb:BRs R) {LL:List (List (Nat × Nat))} (hL0:LOk R LL) {j:Nat}:FSpecB Tryd.prog 99 bs [.c (linesV bs LL),.fn 53 []] (gridL bcd 1 R j) (fun r l' => r = iv (idxL (gv R) LL) ∧ l' = gridL bcd 1 (fillA R LL) j):=by
 have hmax:maxLen = 9223372036854775807:=rfl
 have hl:=hR.len
 have hmany:=hL0.many
 refine FSpecB_of c99 gridL_bx (by rw [gridL_len]; omega) (Nat.le_refl _) (by decide) (by decide) fun C hP hN hC hat hL => ?_
 rw [init_env',ownW_grid (by omega)]
 simp only [ir99,updL,Nat.reduceAdd]
 rw [gridL_len] at hat
 (repeat ((first | refine Va ?_ | refine Vb ?_ | refine Vc ?_ | refine Vd ?_ | refine Ve ?_ | refine Vf ?_); (try simp only [go_sem,hP,linesV,List.length_map]); (repeat refine qJ ?_)))
 refine WV_loopS (fun k:Nat => ⟨upd (upd (upd (upd e0 0 (.c (linesV bs LL))) 1 (.fn 53 [])) 7 (iv LL.length)) 8 (iv k),gown bcd 1 R j o0⟩) (fun k => k ≤ LL.length ∧ ∀ i (h:i < LL.length),i < k → oneL (gv R) LL[i] = false) (fun k => LL.length - k) 0 ⟨Nat.zero_le _,fun _ _ h => by omega⟩ ?_ ?_
 ·exact Sub_of (by exact EnvLe_au) (ObLe_gown (by exact ObjLe_au))
 ·intro k ⟨hk,hbef⟩
  (repeat ((first | refine Va ?_ | refine Vb ?_ | refine Vc ?_ | refine Vd ?_ | refine Ve ?_ | refine Vf ?_); (try simp only [go_sem,hP]); (repeat refine qJ ?_)))
  (refine WV_cond rfl (fun h => ?_) (fun h => ?_))
  ·have hk2:k < LL.length:=by simpa using h
   have hw2:=w64 (n:=(k:Int) + 1) (by omega) (by omega)
   have hm:=List.getElem_mem hk2
   have hfi:=fill53 bs hR hb (hL0.inr _ hm) (hL0.len _ hm) (j:=j)
   rw [oneL_dec] at hfi
   (refine WV_skip ?_; simp only [go_sem])
   refine WV_seq_ (WV_block (WV_seq_ ?_))
   (refine WV_op ?_; simp only [go_sem,hP]; (repeat refine qJ ?_))
   refine WV_seq_ ?_
   (refine WV_split 5 ?_; simp only [List.take_succ_cons,List.take_zero,List.take_nil,List.drop_succ_cons,List.drop_zero,List.drop_nil]; simp only [go_sem,hP,linesV,map_getD hk2,List.length_map,Int.toNat_natCast,Int.ofNat_lt,hk2,Int.natCast_nonneg]; (repeat refine qJ ?_))
   (refine SOps_grid hP (hfi) hat rfl rfl rfl (by simp only [List.map_cons,List.map_nil,List.append_nil,List.nil_append,List.cons_append]; simp only [go_sem,AV.lendL,lend_grid,AV.lend]; first | done | rfl) ?_)
   rintro r l' ⟨rfl,rfl⟩
   refine ⟨fillR R LL[k],fillR_len _ _,rfl,rfl,?_⟩
   (refine SOps_ops ?_; simp only [go_sem,hP]; (repeat refine qJ ?_))
   (refine WV_cond rfl (fun h => ?_) (fun h => ?_))
   ·have e1:LL.findIdx? (oneL (gv R)) = some k:=by
     rw [List.findIdx?_eq_some_iff_getElem]
     exact ⟨hk2,h,fun i hi => by simp [hbef i (by omega) hi]⟩
    have e2:LL.find? (oneL (gv R)) = some LL[k]:=by
     rw [List.find?_eq_some_iff_getElem]
     exact ⟨h,k,hk2,rfl,fun i hi => by simp [hbef i (by omega) hi]⟩
    have e3:idxL (gv R) LL = k:=by unfold idxL; rw [e1]
    have e4:fillA R LL = fillR R LL[k]:=by unfold fillA; rw [e2]
    rw [e3,e4]
    (repeat ((first | refine Va ?_ | refine Vb ?_ | refine Vc ?_ | refine Vd ?_ | refine Ve ?_ | refine Vf ?_); (try simp only [go_sem,hP]); (repeat refine qJ ?_)))
    (refine WV_ret ?_; simp only [thenQ,inQ,RetQL,RetOkL,resAll,resA]; simp only [go_sem,tupA,AV.keepP,AV.keepPL,gown_lo]; refine ⟨_,gridL bcd 1 (fillR R LL[k]) j,rfl,KeepL_grid (fillR_len R LL[k]) (by omega),?_⟩)
    exact ⟨rfl,rfl⟩
   ·rw [fillR_not h]
    (repeat ((first | refine Va ?_ | refine Vb ?_ | refine Vc ?_ | refine Vd ?_ | refine Ve ?_ | refine Vf ?_); (try simp only [go_sem,hP,hw2]); (repeat refine qJ ?_)))
    refine ⟨k + 1,⟨by omega,fun i hi hik => ?_⟩,by omega,?_⟩
    ·rcases Nat.lt_or_ge i k with h1 | h1
     ·exact hbef i hi h1
     ·have:i = k:=by omega
      subst this
      exact h
    ·exact Sub_of (by ((repeat' (first | exact EnvLe_e0 _ _ | refine EnvLe_upd ?_ ?_)) <;> ((try simp only [upd_app,e0_app,o0_app,Nat.reduceEqDiff,reduceIte]); first | exact AWk.refl _ _ | exact AWk.int (by omega) | exact AWk.int (by rw [w64 (by omega) (by omega)]; omega) | exact AWk.grow rfl | exact AWk.nil _ | exact AWk.of (by simp [linesV])))) (ObLe_gown (by exact ObjLe_au))
  ·have h:k = LL.length:=by simp at h; omega
   subst h
   have hall:∀ l ∈ LL,oneL (gv R) l = false:=fun l hl => by
    obtain ⟨i,hi,rfl⟩:=List.getElem_of_mem hl
    exact hbef i hi hi
   have e3:idxL (gv R) LL = -1:=by
    unfold idxL
    rw [List.findIdx?_eq_none_iff.2 hall]
   have e4:fillA R LL = R:=by
    unfold fillA
    rw [List.find?_eq_none.2 fun l hl => by simp [hall l hl]]
   rw [e3,e4]
   (repeat ((first | refine Va ?_ | refine Vb ?_ | refine Vc ?_ | refine Vd ?_ | refine Ve ?_ | refine Vf ?_); (try simp only [go_sem,hP]); (repeat refine qJ ?_)))
   (refine WV_ret ?_; simp only [thenQ,inQ,RetQL,RetOkL,resAll,resA]; simp only [go_sem,tupA,AV.keepP,AV.keepPL,gown_lo]; refine ⟨_,gridL bcd 1 R j,rfl,KeepL_grid rfl (by omega),?_⟩)
   exact ⟨rfl,rfl⟩
theorem idxL_ge (g:List (List Int)) (LL:List (List (Nat × Nat))):decide (idxL g LL ≥ 0) = (LL.find? (oneL g)).isSome:=by
 unfold idxL
 cases h:LL.findIdx? (oneL g) with
 | none =>
  rw [List.findIdx?_eq_none_iff] at h
  rw [List.find?_eq_none.2 fun l hl => by simp [h l hl]]
  rfl
 | some i =>
  obtain ⟨hi,h1,_⟩:=List.findIdx?_eq_some_iff_getElem.1 h
  have:(LL.find? (oneL g)).isSome = true:=by rw [List.find?_isSome]; exact ⟨_,List.getElem_mem hi,h1⟩
  rw [this]; simp
set_option maxRecDepth 20000 in
set_option maxHeartbeats 8000000 in
theorem contains85 (bs:Nat → Nat) {R:List BRow} {w:Nat} (hR:ROk R w) (hb:BRs R) {LL:List (List (Nat × Nat))} (hL0:LOk R LL) {j:Nat}:FSpecB Tryd.prog 85 bs [.c (linesV bs LL),.fn 53 []] (gridL bcd 1 R j) (fun r l' => r = bv (LL.find? (oneL (gv R))).isSome ∧ l' = gridL bcd 1 (fillA R LL) j):=by
 have hmax:maxLen = 9223372036854775807:=rfl
 have hl:=hR.len
 refine FSpecB_of c85 gridL_bx (by rw [gridL_len]; omega) (Nat.le_refl _) (by decide) (by decide) fun C hP hN hC hat hL => ?_
 rw [init_env',ownW_grid (by omega)]
 simp only [ir85,updL,Nat.reduceAdd]
 rw [gridL_len] at hat
 refine WV_seq_ ?_
 (refine WV_op ?_; simp only [go_sem,hP]; (repeat refine qJ ?_))
 refine WV_seq_ ?_
 (refine WV_split 2 ?_; simp only [List.take_succ_cons,List.take_zero,List.take_nil,List.drop_succ_cons,List.drop_zero,List.drop_nil]; simp only [go_sem,hP]; (repeat refine qJ ?_))
 (refine SOps_grid hP (index99 bs hR hb hL0) hat rfl rfl rfl (by simp only [List.map_cons,List.map_nil,List.append_nil,List.nil_append,List.cons_append]; simp only [go_sem,AV.lendL,lend_grid,AV.lend]; first | done | rfl) ?_)
 rintro r l' ⟨rfl,rfl⟩
 refine ⟨_,fillA_len _ _,rfl,rfl,?_⟩
 (refine SOps_ops ?_; simp only [go_sem,hP,idxL_ge]; (repeat refine qJ ?_))
 (refine WV_ret ?_; simp only [thenQ,inQ,RetQL,RetOkL,resAll,resA]; simp only [go_sem,tupA,AV.keepP,AV.keepPL,gown_lo]; refine ⟨_,gridL bcd 1 (fillA R LL) j,rfl,KeepL_grid (fillA_len R LL) (by omega),?_⟩)
 exact ⟨rfl,rfl⟩
end Go.Proofs.YtlmfdmlochpfcaaDoor

namespace Go.Proofs.YtlmfdmlochpfcaaDoor
open Go Go.V
abbrev o56_0:List Ins:=[⟨some 2,.mv (.t 0),none,true⟩,
 ⟨some 3,.call (.k (.fn 50 [])) [(.t 2)],none,true⟩,
 ⟨some 4,.call (.k (.fn 85 [])) [(.t 3),(.k (.fn 53 []))],none,true⟩]
abbrev v56_1:VC:=(.cond (.t 4) .skip (.exit 0))
abbrev v56_2:VC:=(.block 1 .skip)
abbrev v56_3:VC:=(.seq (.seq (.ops o56_0) v56_1) v56_2)
-- K56_1: changed and kept: []
abbrev v56_4:VC:=(.loop v56_3)
def ir56:FC:=⟨1,5,[],(.block 0 v56_4)⟩
theorem c56:compM Tryd.prog [] 56 = some ir56:=by kernel_rfl
attribute [local go_sem] Nat.reduceEqDiff Nat.reduceAdd Nat.reduceMul reduceIte Nat.reduceLeDiff Nat.reduceLT Nat.reduceBEq reduceCtorEq
def nlost (g:List (List Int)):Nat:=(g.map fun r => r.count (-1)).sum
theorem sum_set:∀ (l:List Nat) (i a:Nat) (h:i < l.length),(l.set i a).sum + l[i] = l.sum + a
 | x :: l,0,a,_ => by simp; omega
 | x :: l,i + 1,a,h => by
  have:=sum_set l i a (by simpa using h)
  simp only [List.set_cons_succ,List.sum_cons,List.getElem_cons_succ]; omega
theorem count_set:∀ (r:List Int) (k:Nat) (v:Int) (h:k < r.length),r[k] = -1 → v ≠ -1 → (r.set k v).count (-1) + 1 = r.count (-1)
 | x :: r,0,v,_,hx,hv => by
  simp at hx; subst hx
  simp [List.count_cons,hv]
 | x :: r,k + 1,v,h,hx,hv => by
  have:=count_set r k v (by simpa using h) (by simpa using hx) hv
  simp only [List.set_cons_succ,List.count_cons]; omega
theorem nlost_set {g:List (List Int)} {p:Nat × Nat} {v:Int} (h:inG g p) (hp:valAt g p = -1) (hv:v ≠ -1):nlost (setG g p v) + 1 = nlost g:=by
 obtain ⟨h1,h2,_⟩:=h
 have hgr:g.getD p.1 [] = g[p.1]:=by rw [List.getD_eq_getElem?_getD,List.getElem?_eq_getElem h1]; rfl
 unfold nlost setG
 rw [List.map_set]
 have hm:p.1 < (g.map fun r => r.count (-1)).length:=by simpa using h1
 have e:=sum_set _ p.1 (((g.getD p.1 []).set p.2 v).count (-1)) hm
 rw [hgr] at h2 e ⊢
 have hval:(g[p.1])[p.2] = -1:=by
  unfold valAt at hp
  rw [hgr,List.getD_eq_getElem?_getD,List.getElem?_eq_getElem h2] at hp
  exact hp
 have e2:=count_set (g[p.1]) p.2 v h2 hval hv
 simp only [List.getElem_map] at e
 omega
def stepG (n w:Nat) (g:List (List Int)):Option (List (List Int)):=match (allP n w).find? (oneL g) with
 | some l => some (setG g ((lostL g l).getD 0 (0,0)) (lackL g l))
 | none => none
def restN (n w:Nat):Nat → List (List Int) → List (List Int)
 | 0,g => g
 | k + 1,g => match stepG n w g with | some g' => restN n w k g' | none => g
def restG (n w:Nat) (g:List (List Int)):List (List Int):=restN n w (nlost g) g
structure GOw (n w:Nat) (g:List (List Int)):Prop where
 len:g.length = n
 row:∀ i,i < n → (g.getD i []).length = w
 val:∀ i k,i < n → k < w → -1 ≤ valAt g (i,k) ∧ valAt g (i,k) < 94
theorem GOw.inG {n w:Nat} {g:List (List Int)} (h:GOw n w g) {p:Nat × Nat} (h1:p.1 < n) (h2:p.2 < w):inG g p:=⟨by rw [h.len]; exact h1,by rw [h.row _ h1]; exact h2,h.val _ _ h1 h2⟩
theorem allP_in {n w:Nat} {l:List (Nat × Nat)} (h:l ∈ allP n w):∀ p ∈ l,p.1 < n ∧ p.2 < w:=by
 intro p hp
 simp only [allP,List.mem_append,List.mem_map,List.mem_range] at h
 rcases h with ⟨i,hi,rfl⟩ | ⟨k,hk,rfl⟩
 ·simp only [posL,if_true,List.mem_map,List.mem_range] at hp
  obtain ⟨k,hk,rfl⟩:=hp
  exact ⟨hi,hk⟩
 ·simp only [posL,Bool.false_eq_true,if_false,List.mem_map,List.mem_range] at hp
  obtain ⟨i,hi,rfl⟩:=hp
  exact ⟨hi,hk⟩
theorem setG_len (g:List (List Int)) (p:Nat × Nat) (v:Int):(setG g p v).length = g.length:=by simp [setG]
theorem setG_row (g:List (List Int)) (p:Nat × Nat) (v:Int) (i:Nat):((setG g p v).getD i []).length = (g.getD i []).length:=by
 unfold setG
 rw [getD_setI]
 split
 ·rename_i h; rw [List.length_set,h.1]
 ·rfl
theorem setG_ok {n w:Nat} {g:List (List Int)} (h:GOw n w g) (p:Nat × Nat) {v:Int} (hv:-1 ≤ v ∧ v < 94):GOw n w (setG g p v):=by
 refine ⟨by rw [setG_len]; exact h.len,fun i hi => by rw [setG_row]; exact h.row i hi,fun i k hi hk => ?_⟩
 rw [valAt_set]
 split
 ·exact hv
 ·exact h.val i k hi hk
theorem stepG_some {n w:Nat} {g g':List (List Int)} (h:GOw n w g) (hs:stepG n w g = some g'):∃ l p,l ∈ allP n w ∧ (allP n w).find? (oneL g) = some l ∧ lostL g l = [p] ∧ p ∈ l ∧ valAt g p = -1 ∧ g' = setG g p (lackL g l) ∧ GOw n w g' ∧ nlost g' + 1 = nlost g:=by
 unfold stepG at hs
 split at hs
 ·rename_i l hl
  simp only [Option.some.injEq] at hs
  subst hs
  have hm:=List.mem_of_find?_eq_some hl
  have h1:=List.find?_some hl
  obtain ⟨A,p,B,e,_,_,hp,hlo⟩:=lost_one (g:=g) (ps:=l) (by simpa [oneL] using h1)
  have hpl:p ∈ l:=by rw [e]; simp
  have hlr:=lack_rng g l
  rw [hlo]
  have hin:=allP_in hm p hpl
  exact ⟨l,p,hm,hl,hlo,hpl,hp,rfl,setG_ok h p (by omega),nlost_set (h.inG hin.1 hin.2) hp (show lackL g l ≠ -1 by omega)⟩
 ·cases hs
theorem restG_step {n w:Nat} {g g':List (List Int)} (h:GOw n w g) (hs:stepG n w g = some g'):restG n w g = restG n w g':=by
 obtain ⟨_,_,_,_,_,_,_,_,_,hn⟩:=stepG_some h hs
 unfold restG
 rw [← hn]
 simp only [restN,hs]
theorem restG_end {n w:Nat} {g:List (List Int)} (hs:stepG n w g = none):restG n w g = g:=by
 unfold restG
 cases nlost g with
 | zero => rfl
 | succ k => simp only [restN,hs]
theorem ROk.gow {R:List BRow} {w:Nat} (hR:ROk R w) (hb:BRs R):GOw R.length w (gv R):=by
 refine ⟨gv_len R,fun i hi => by rw [gv_row hi,List.length_map,hR.row i hi],fun i k hi hk => ?_⟩
 have hk':k < (R[i]).l.length:=by rw [hR.row i hi]; exact hk
 rw [gv_at hi hk']
 exact vq_rng (hb i hi k hk')
theorem LOk_all {R:List BRow} {w:Nat} (hR:ROk R w):LOk R (allP R.length w):=by
 have h1:=hR.len
 have h2:=hR.wid
 refine ⟨fun l hl => ?_,fun l hl => ?_,by simp [allP]; omega⟩
 ·intro p hp
  obtain ⟨k1,k2⟩:=allP_in hl p hp
  exact ⟨k1,by rw [hR.row _ k1]; exact k2⟩
 ·simp only [allP,List.mem_append,List.mem_map,List.mem_range] at hl
  rcases hl with ⟨i,hi,rfl⟩ | ⟨k,hk,rfl⟩
  ·simp [posL]; omega
  ·simp [posL]; omega
theorem fillA_gv {R:List BRow} {w:Nat} (hR:ROk R w) (hb:BRs R):(match stepG R.length w (gv R) with | some g' => gv (fillA R (allP R.length w)) = g' | none => True) ∧ ((allP R.length w).find? (oneL (gv R))).isSome = (stepG R.length w (gv R)).isSome ∧ ROk (fillA R (allP R.length w)) w ∧ BRs (fillA R (allP R.length w)):=by
 unfold stepG fillA
 cases hf:(allP R.length w).find? (oneL (gv R)) with
 | none => exact ⟨trivial,rfl,hR,hb⟩
 | some l =>
  have hm:=List.mem_of_find?_eq_some hf
  have h1:=List.find?_some hf
  have h2:(lostL (gv R) l).length = 1:=by simpa [oneL] using h1
  obtain ⟨A,p,B,e,_,_,hp,hlo⟩:=lost_one h2
  have hin:=allP_in hm p (by rw [e]; simp)
  have hsg:=sgn_ok (lack_rng (gv R) l)
  simp only [fillR,h2,if_true,hlo]
  refine ⟨?_,rfl,putB_ok hR _ _,putB_bytes hb _ hsg.1⟩
  show gv (putB R p _) = setG (gv R) p _
  rw [putB_gv hin.1,hsg.2]
set_option maxRecDepth 20000 in
set_option maxHeartbeats 8000000 in
theorem restore56B (bs:Nat → Nat) {R:List BRow} {w:Nat} (hR:ROk R w) (hb:BRs R) (hn:0 < R.length) {j gcap:Nat}:FSpecB Tryd.prog 56 bs [.vw 1 1000 0 R.length gcap] (gridL bcd 1 R j) (fun r l' => r = .tup [] ∧ ∃ R',R'.length = R.length ∧ ROk R' w ∧ BRs R' ∧ refs 1001 1 0 R' = refs 1001 1 0 R ∧ gv R' = restG R.length w (gv R) ∧ l' = gridL bcd 1 R' j):=by
 have hmax:maxLen = 9223372036854775807:=rfl
 have hl:=hR.len
 refine FSpecB_of c56 gridL_bx (by rw [gridL_len]; omega) (Nat.le_refl _) (by decide) (by decide) fun C hP hN hC hat hL => ?_
 rw [init_env',ownW_grid (by omega)]
 simp only [ir56,updL,Nat.reduceAdd]
 rw [gridL_len] at hat
 (repeat ((first | refine Va ?_ | refine Vb ?_ | refine Vc ?_ | refine Vd ?_ | refine Ve ?_ | refine Vf ?_); (try simp only [go_sem,hP]); (repeat refine qJ ?_)))
 refine WV_loopS (fun S:List BRow => ⟨upd e0 0 (.vw 1 1000 0 R.length gcap),gown bcd 1 S j o0⟩) (fun S => S.length = R.length ∧ ROk S w ∧ BRs S ∧ refs 1001 1 0 S = refs 1001 1 0 R ∧ restG R.length w (gv S) = restG R.length w (gv R)) (fun S => nlost (gv S)) R ⟨rfl,hR,hb,rfl,rfl⟩ ?_ ?_
 ·exact Sub_of (by exact EnvLe_au) (ObLe_gown (by exact ObjLe_au))
 ·intro S ⟨s1,s2,s3,s4,s5⟩
  have hat':AtP C bs (S.length + 1):=by rw [s1]; exact hat
  have hfg:=fillA_gv s2 s3
  have hgow:=s2.gow s3
  have hlin:=lines50 bs s2 (by omega) (j:=j) (gcap:=gcap)
  rw [s1] at hlin hfg hgow
  have hcon:=contains85 bs s2 s3 (LOk_all s2) (j:=j)
  rw [s1] at hcon
  replace hat:=hat'
  refine WV_seq_ (WV_seq_ ?_)
  (refine WV_split 1 ?_; simp only [List.take_succ_cons,List.take_zero,List.take_nil,List.drop_succ_cons,List.drop_zero,List.drop_nil]; simp only [go_sem,hP]; (repeat refine qJ ?_))
  (refine SOps_grid hP (hlin) hat rfl rfl rfl (by simp only [List.map_cons,List.map_nil,List.append_nil,List.nil_append,List.cons_append]; simp only [go_sem,AV.lendL,lend_grid,AV.lend]; first | done | rfl) ?_)
  rintro r l' ⟨rfl,rfl⟩
  refine ⟨S,rfl,rfl,rfl,?_⟩
  simp only [go_sem]
  (refine SOps_grid hP (hcon) hat rfl rfl rfl (by simp only [List.map_cons,List.map_nil,List.append_nil,List.nil_append,List.cons_append]; simp only [go_sem,AV.lendL,lend_grid,AV.lend]; first | done | rfl) ?_)
  rintro r l' ⟨rfl,rfl⟩
  refine ⟨_,fillA_len _ _,rfl,rfl,?_⟩
  refine SOps_nil ?_
  simp only [go_sem]
  rw [hfg.2.1]
  cases hst:stepG R.length w (gv S) with
  | some g' =>
   have hfg1:=hfg.1
   rw [hst] at hfg1
   simp only at hfg1
   obtain ⟨_,_,_,_,_,_,_,_,_,hnl⟩:=stepG_some hgow hst
   (refine WV_cond rfl (fun h => ?_) (fun h => ?_))
   ·(repeat ((first | refine Va ?_ | refine Vb ?_ | refine Vc ?_ | refine Vd ?_ | refine Ve ?_ | refine Vf ?_); (try simp only [go_sem,hP]); (repeat refine qJ ?_)))
    refine ⟨fillA S (allP R.length w),⟨(fillA_len _ _).trans s1,hfg.2.2.1,hfg.2.2.2,?_,?_⟩,?_,?_⟩
    ·rw [← s4]
     unfold fillA fillR
     split <;> (try split) <;> first | exact putB_refs _ _ _ | rfl
    ·rw [hfg1,← s5,restG_step hgow hst]
    ·rw [hfg1]; omega
    ·exact Sub_of (by exact EnvLe_au) (ObLe_gown (by exact ObjLe_au))
   ·simp at h
  | none =>
   have hfn:(allP R.length w).find? (oneL (gv S)) = none:=by
    have:=hfg.2.1
    rw [hst] at this
    simpa using this
   have e4:fillA S (allP R.length w) = S:=by unfold fillA; rw [hfn]
   rw [e4]
   (refine WV_cond rfl (fun h => ?_) (fun h => ?_))
   ·simp at h
   ·refine WV_exit ?_
    simp only [thenQ,inQ,RetQL,RetOkL,resAll,resA,reduceIte,beq_self_eq_true]
    simp only [go_sem,tupA,AV.keepP,AV.keepPL,gown_lo]
    refine ⟨_,gridL bcd 1 S j,rfl,KeepL_grid s1 (by omega),rfl,S,s1,s2,s3,s4,?_,rfl⟩
    rw [← s5,restG_end hst]
end Go.Proofs.YtlmfdmlochpfcaaDoor

namespace Go.Proofs.YtlmfdmlochpfcaaDoor
open Go Go.V
abbrev o105_0:List Ins:=[⟨some 4,.mv (.k (.c (.int .i64 0))),none,true⟩]
abbrev o105_1:List Ins:=[⟨some 5,.mv (.t 0),none,true⟩,
 ⟨some 6,.mv (.t 1),none,true⟩,
 ⟨some 7,.call (.k (.fn 112 [])) [(.t 5),(.t 6)],none,true⟩,
 ⟨some 4,.mv (.t 7),none,true⟩]
abbrev v105_2:VC:=(.seq (.ops o105_1) .ret)
def ir105:FC:=⟨2,8,[.t 4],(.seq (.ops o105_0) v105_2)⟩
abbrev o96_0:List Ins:=[⟨some 4,.mv (.k (.c (.int .i64 0))),none,true⟩]
abbrev o96_1:List Ins:=[⟨some 14,.mv (.t 1),none,true⟩,
 ⟨some 15,.prim .slen [(.t 14)],none,true⟩,
 ⟨some 5,.mv (.t 15),none,true⟩]
abbrev o96_2:List Ins:=[⟨some 17,.mv (.t 5),none,true⟩,
 ⟨some 18,.bin .eql (.t 17) (.k (.c (.int .i64 0))),none,true⟩,
 ⟨some 19,.mv (.t 18),none,true⟩,
 ⟨some 20,.mv (.t 1),(some (19,false)),true⟩,
 ⟨some 21,.mv (.t 0),(some (19,false)),true⟩,
 ⟨some 22,.prim (.sbin .eql) [(.t 20),(.t 21)],(some (19,false)),true⟩,
 ⟨some 23,.pick (.t 19) (.k (.c (.bool true))) (.t 22),none,true⟩,
 ⟨some 16,.mv (.t 23),none,true⟩]
abbrev o96_3:List Ins:=[⟨some 4,.mv (.k (.c (.int .i64 0))),none,true⟩]
abbrev v96_4:VC:=(.seq (.ops o96_3) .ret)
abbrev o96_5:List Ins:=[⟨some 25,.mv (.t 5),none,true⟩,
 ⟨some 26,.bin .eql (.t 25) (.k (.c (.int .i64 1))),none,true⟩,
 ⟨some 24,.mv (.t 26),none,true⟩]
abbrev o96_6:List Ins:=[⟨some 27,.mv (.t 0),none,true⟩,
 ⟨some 28,.mv (.t 1),none,true⟩,
 ⟨some 29,.prim .sidx [(.t 28),(.k (.c (.int .i64 0)))],none,true⟩,
 ⟨some 30,.call (.k (.fn 105 [])) [(.t 27),(.t 29)],none,true⟩,
 ⟨some 4,.mv (.t 30),none,true⟩]
abbrev v96_7:VC:=(.seq (.ops o96_6) .ret)
abbrev o96_8:List Ins:=[⟨some 32,.mv (.t 5),none,true⟩,
 ⟨some 33,.mv (.t 0),none,true⟩,
 ⟨some 34,.prim .slen [(.t 33)],none,true⟩,
 ⟨some 35,.bin .geq (.t 32) (.t 34),none,true⟩,
 ⟨some 31,.mv (.t 35),none,true⟩]
abbrev o96_9:List Ins:=[⟨some 4,.mv (.k (.c (.int .i64 (-1)))),none,true⟩]
abbrev v96_10:VC:=(.seq (.ops o96_9) .ret)
abbrev o96_11:List Ins:=[⟨some 37,.mv (.t 5),none,true⟩,
 ⟨some 38,.raw (.load 3 (.global 0)),none,true⟩,
 ⟨some 39,.bin .leq (.t 37) (.t 38),none,true⟩,
 ⟨some 40,.mv (.t 39),none,true⟩,
 ⟨some 41,.mv (.t 0),(some (40,true)),true⟩,
 ⟨some 42,.prim .slen [(.t 41)],(some (40,true)),true⟩,
 ⟨some 43,.bin .leq (.t 42) (.k (.c (.int .i64 64))),(some (40,true)),true⟩,
 ⟨some 44,.pick (.t 40) (.t 43) (.k (.c (.bool false))),none,true⟩,
 ⟨some 36,.mv (.t 44),none,true⟩]
abbrev o96_12:List Ins:=[⟨some 45,.mv (.t 0),none,true⟩,
 ⟨some 46,.mv (.t 1),none,true⟩,
 ⟨some 47,.call (.k (.fn 106 [])) [(.t 45),(.t 46)],none,true⟩,
 ⟨some 4,.mv (.t 47),none,true⟩]
abbrev v96_13:VC:=(.seq (.ops o96_12) .ret)
abbrev v96_14:VC:=(.cond (.t 36) v96_13 .skip)
abbrev v96_15:VC:=(.seq (.ops o96_11) v96_14)
abbrev v96_16:VC:=(.cond (.t 31) v96_10 v96_15)
abbrev v96_17:VC:=(.seq (.ops o96_8) v96_16)
abbrev v96_18:VC:=(.cond (.t 24) v96_7 v96_17)
abbrev v96_19:VC:=(.seq (.ops o96_5) v96_18)
abbrev v96_20:VC:=(.cond (.t 16) v96_4 v96_19)
abbrev v96_21:VC:=(.seq (.ops o96_2) v96_20)
abbrev o96_22:List Ins:=[⟨some 48,.mv (.t 1),none,true⟩,
 ⟨some 49,.prim .sidx [(.t 48),(.k (.c (.int .i64 0)))],none,true⟩,
 ⟨some 6,.mv (.t 49),none,true⟩]
abbrev o96_23:List Ins:=[⟨some 50,.mv (.t 1),none,true⟩,
 ⟨some 51,.prim .sidx [(.t 50),(.k (.c (.int .i64 1)))],none,true⟩,
 ⟨some 7,.mv (.t 51),none,true⟩]
abbrev o96_24:List Ins:=[⟨some 8,.mv (.k (.c (.int .i64 0))),none,true⟩]
abbrev o96_25:List Ins:=[⟨some 52,.mv (.t 0),none,true⟩,
 ⟨some 53,.prim .slen [(.t 52)],none,true⟩,
 ⟨some 54,.mv (.t 5),none,true⟩,
 ⟨some 55,.bin .sub (.t 53) (.t 54),none,true⟩,
 ⟨some 56,.bin .add (.t 55) (.k (.c (.int .i64 1))),none,true⟩,
 ⟨some 9,.mv (.t 56),none,true⟩]
abbrev o96_26:List Ins:=[⟨some 10,.mv (.k (.c (.int .i64 0))),none,true⟩]
abbrev o96_27:List Ins:=[⟨some 57,.mv (.t 8),none,true⟩,
 ⟨some 58,.mv (.t 9),none,true⟩,
 ⟨some 59,.bin .lss (.t 57) (.t 58),none,true⟩]
abbrev v96_28:VC:=(.cond (.t 59) .skip (.exit 1))
abbrev o96_29:List Ins:=[⟨some 60,.mv (.t 0),none,true⟩,
 ⟨some 61,.mv (.t 8),none,true⟩,
 ⟨some 62,.prim .sidx [(.t 60),(.t 61)],none,true⟩,
 ⟨some 63,.mv (.t 6),none,true⟩,
 ⟨some 64,.bin .neq (.t 62) (.t 63),none,true⟩]
abbrev o96_30:List Ins:=[⟨some 65,.mv (.t 0),none,true⟩,
 ⟨some 66,.mv (.t 8),none,true⟩,
 ⟨some 67,.bin .add (.t 66) (.k (.c (.int .i64 1))),none,true⟩,
 ⟨some 68,.mv (.t 9),none,true⟩,
 ⟨some 69,.prim (.sslc true true) [(.t 65),(.t 67),(.t 68)],none,true⟩,
 ⟨some 70,.mv (.t 6),none,true⟩,
 ⟨some 71,.call (.k (.fn 105 [])) [(.t 69),(.t 70)],none,true⟩,
 ⟨some 11,.mv (.t 71),none,true⟩]
abbrev o96_31:List Ins:=[⟨some 72,.mv (.t 11),none,true⟩,
 ⟨some 73,.bin .lss (.t 72) (.k (.c (.int .i64 0))),none,true⟩]
abbrev o96_32:List Ins:=[⟨some 4,.mv (.k (.c (.int .i64 (-1)))),none,true⟩]
abbrev v96_33:VC:=(.seq (.ops o96_32) .ret)
abbrev v96_34:VC:=(.cond (.t 73) v96_33 .skip)
abbrev o96_35:List Ins:=[⟨some 74,.mv (.t 8),none,true⟩,
 ⟨some 75,.mv (.t 11),none,true⟩,
 ⟨some 76,.bin .add (.t 75) (.k (.c (.int .i64 1))),none,true⟩,
 ⟨some 77,.bin .add (.t 74) (.t 76),none,true⟩,
 ⟨some 8,.mv (.t 77),none,true⟩]
abbrev v96_36:VC:=(.seq (.seq (.ops o96_31) v96_34) (.ops o96_35))
abbrev v96_37:VC:=(.seq (.ops o96_30) v96_36)
abbrev v96_38:VC:=(.cond (.t 64) v96_37 .skip)
abbrev o96_39:List Ins:=[⟨some 78,.mv (.t 0),none,true⟩,
 ⟨some 79,.mv (.t 8),none,true⟩,
 ⟨some 80,.bin .add (.t 79) (.k (.c (.int .i64 1))),none,true⟩,
 ⟨some 81,.prim .sidx [(.t 78),(.t 80)],none,true⟩,
 ⟨some 82,.mv (.t 7),none,true⟩,
 ⟨some 83,.bin .eql (.t 81) (.t 82),none,true⟩,
 ⟨some 84,.mv (.t 83),none,true⟩,
 ⟨some 85,.mv (.t 0),(some (84,true)),true⟩,
 ⟨some 86,.mv (.t 8),(some (84,true)),true⟩,
 ⟨some 87,.mv (.t 8),(some (84,true)),true⟩,
 ⟨some 88,.mv (.t 5),(some (84,true)),true⟩,
 ⟨some 89,.bin .add (.t 87) (.t 88),(some (84,true)),true⟩,
 ⟨some 90,.prim (.sslc true true) [(.t 85),(.t 86),(.t 89)],(some (84,true)),true⟩,
 ⟨some 91,.mv (.t 1),(some (84,true)),true⟩,
 ⟨some 92,.prim (.sbin .eql) [(.t 90),(.t 91)],(some (84,true)),true⟩,
 ⟨some 93,.pick (.t 84) (.t 92) (.k (.c (.bool false))),none,true⟩]
abbrev o96_40:List Ins:=[⟨some 94,.mv (.t 8),none,true⟩,
 ⟨some 4,.mv (.t 94),none,true⟩]
abbrev v96_41:VC:=(.seq (.ops o96_40) .ret)
abbrev v96_42:VC:=(.cond (.t 93) v96_41 .skip)
abbrev o96_43:List Ins:=[⟨some 95,.mv (.t 8),none,true⟩,
 ⟨some 96,.bin .add (.t 95) (.k (.c (.int .i64 1))),none,true⟩,
 ⟨some 8,.mv (.t 96),none,true⟩]
abbrev o96_44:List Ins:=[⟨some 97,.mv (.t 10),none,true⟩,
 ⟨some 98,.bin .add (.t 97) (.k (.c (.int .i64 1))),none,true⟩,
 ⟨some 10,.mv (.t 98),none,true⟩]
abbrev o96_45:List Ins:=[⟨some 99,.mv (.t 5),none,true⟩,
 ⟨some 100,.raw (.load 3 (.global 0)),none,true⟩,
 ⟨some 101,.bin .leq (.t 99) (.t 100),none,true⟩,
 ⟨some 102,.mv (.t 101),none,true⟩,
 ⟨some 103,.mv (.t 10),(some (102,true)),true⟩,
 ⟨some 104,.mv (.t 8),(some (102,true)),true⟩,
 ⟨some 105,.call (.k (.fn 107 [])) [(.t 104)],(some (102,true)),true⟩,
 ⟨some 106,.bin .gtr (.t 103) (.t 105),(some (102,true)),true⟩,
 ⟨some 107,.pick (.t 102) (.t 106) (.k (.c (.bool false))),none,true⟩]
abbrev o96_46:List Ins:=[⟨some 108,.mv (.t 0),none,true⟩,
 ⟨some 109,.mv (.t 8),none,true⟩,
 ⟨some 110,.prim (.sslc true false) [(.t 108),(.t 109)],none,true⟩,
 ⟨some 111,.mv (.t 1),none,true⟩,
 ⟨some 112,.call (.k (.fn 106 [])) [(.t 110),(.t 111)],none,true⟩,
 ⟨some 12,.mv (.t 112),none,true⟩]
abbrev o96_47:List Ins:=[⟨some 113,.mv (.t 12),none,true⟩,
 ⟨some 114,.bin .geq (.t 113) (.k (.c (.int .i64 0))),none,true⟩]
abbrev o96_48:List Ins:=[⟨some 115,.mv (.t 12),none,true⟩,
 ⟨some 116,.mv (.t 8),none,true⟩,
 ⟨some 117,.bin .add (.t 115) (.t 116),none,true⟩,
 ⟨some 4,.mv (.t 117),none,true⟩]
abbrev v96_49:VC:=(.seq (.ops o96_48) .ret)
abbrev v96_50:VC:=(.cond (.t 114) v96_49 .skip)
abbrev o96_51:List Ins:=[⟨some 4,.mv (.k (.c (.int .i64 (-1)))),none,true⟩]
abbrev v96_52:VC:=(.seq (.ops o96_51) .ret)
abbrev v96_53:VC:=(.seq (.seq (.ops o96_47) v96_50) v96_52)
abbrev v96_54:VC:=(.seq (.ops o96_46) v96_53)
abbrev o96_55:List Ins:=[⟨some 118,.mv (.t 5),none,true⟩,
 ⟨some 119,.raw (.load 3 (.global 0)),none,true⟩,
 ⟨some 120,.bin .gtr (.t 118) (.t 119),none,true⟩,
 ⟨some 121,.mv (.t 120),none,true⟩,
 ⟨some 122,.mv (.t 10),(some (121,true)),true⟩,
 ⟨some 123,.mv (.t 8),(some (121,true)),true⟩,
 ⟨some 124,.bin .shr (.t 123) (.k (.c (.int .u64 4))),(some (121,true)),true⟩,
 ⟨some 125,.bin .add (.k (.c (.int .i64 4))) (.t 124),(some (121,true)),true⟩,
 ⟨some 126,.bin .geq (.t 122) (.t 125),(some (121,true)),true⟩,
 ⟨some 127,.pick (.t 121) (.t 126) (.k (.c (.bool false))),none,true⟩,
 ⟨some 128,.mv (.t 127),none,true⟩,
 ⟨some 129,.mv (.t 8),(some (128,true)),true⟩,
 ⟨some 130,.mv (.t 9),(some (128,true)),true⟩,
 ⟨some 131,.bin .lss (.t 129) (.t 130),(some (128,true)),true⟩,
 ⟨some 132,.pick (.t 128) (.t 131) (.k (.c (.bool false))),none,true⟩]
abbrev o96_56:List Ins:=[⟨some 133,.mv (.t 0),none,true⟩,
 ⟨some 134,.mv (.t 8),none,true⟩,
 ⟨some 135,.prim (.sslc true false) [(.t 133),(.t 134)],none,true⟩,
 ⟨some 136,.mv (.t 1),none,true⟩,
 ⟨some 137,.call (.k (.fn 108 [])) [(.t 135),(.t 136)],none,true⟩,
 ⟨some 13,.mv (.t 137),none,true⟩]
abbrev o96_57:List Ins:=[⟨some 138,.mv (.t 13),none,true⟩,
 ⟨some 139,.bin .lss (.t 138) (.k (.c (.int .i64 0))),none,true⟩]
abbrev o96_58:List Ins:=[⟨some 4,.mv (.k (.c (.int .i64 (-1)))),none,true⟩]
abbrev v96_59:VC:=(.seq (.ops o96_58) .ret)
abbrev v96_60:VC:=(.cond (.t 139) v96_59 .skip)
abbrev o96_61:List Ins:=[⟨some 140,.mv (.t 8),none,true⟩,
 ⟨some 141,.mv (.t 13),none,true⟩,
 ⟨some 142,.bin .add (.t 140) (.t 141),none,true⟩,
 ⟨some 4,.mv (.t 142),none,true⟩]
abbrev v96_62:VC:=(.seq (.ops o96_61) .ret)
abbrev v96_63:VC:=(.seq (.seq (.ops o96_57) v96_60) v96_62)
abbrev v96_64:VC:=(.seq (.ops o96_56) v96_63)
abbrev v96_65:VC:=(.cond (.t 132) v96_64 .skip)
abbrev v96_66:VC:=(.seq (.ops o96_55) v96_65)
abbrev v96_67:VC:=(.cond (.t 107) v96_54 v96_66)
abbrev v96_68:VC:=(.seq (.ops o96_45) v96_67)
abbrev v96_69:VC:=(.seq (.ops o96_44) v96_68)
abbrev v96_70:VC:=(.seq (.ops o96_43) v96_69)
abbrev v96_71:VC:=(.seq (.seq (.ops o96_39) v96_42) v96_70)
abbrev v96_72:VC:=(.seq (.seq (.ops o96_29) v96_38) v96_71)
abbrev v96_73:VC:=(.block 2 v96_72)
abbrev v96_74:VC:=(.seq (.seq (.ops o96_27) v96_28) v96_73)
-- K96_1: changed and kept: [8,10]
abbrev v96_75:VC:=(.loop v96_74)
abbrev o96_76:List Ins:=[⟨some 4,.mv (.k (.c (.int .i64 (-1)))),none,true⟩]
abbrev v96_77:VC:=(.seq (.ops o96_76) .ret)
abbrev v96_78:VC:=(.seq (.block 1 v96_75) v96_77)
abbrev v96_79:VC:=(.seq (.ops o96_26) v96_78)
abbrev v96_80:VC:=(.seq (.ops o96_25) v96_79)
abbrev v96_81:VC:=(.seq (.ops o96_24) v96_80)
abbrev v96_82:VC:=(.seq (.ops o96_23) v96_81)
abbrev v96_83:VC:=(.seq (.ops o96_22) v96_82)
abbrev v96_84:VC:=(.seq (.block 0 v96_21) v96_83)
abbrev v96_85:VC:=(.seq (.ops o96_1) v96_84)
def ir96:FC:=⟨2,143,[.t 4],(.seq (.ops o96_0) v96_85)⟩
abbrev o80_0:List Ins:=[⟨some 4,.mv (.k (.c (.int .i64 0))),none,true⟩]
abbrev o80_1:List Ins:=[⟨some 5,.mv (.t 0),none,true⟩,
 ⟨some 6,.mv (.t 1),none,true⟩,
 ⟨some 7,.call (.k (.fn 96 [])) [(.t 5),(.t 6)],none,true⟩,
 ⟨some 4,.mv (.t 7),none,true⟩]
abbrev v80_2:VC:=(.seq (.ops o80_1) .ret)
def ir80:FC:=⟨2,8,[.t 4],(.seq (.ops o80_0) v80_2)⟩
abbrev o49_0:List Ins:=[⟨some 4,.mv (.k (.c (.bool false))),none,true⟩]
abbrev o49_1:List Ins:=[⟨some 5,.mv (.t 0),none,true⟩,
 ⟨some 6,.mv (.t 1),none,true⟩,
 ⟨some 7,.call (.k (.fn 80 [])) [(.t 5),(.t 6)],none,true⟩,
 ⟨some 8,.bin .geq (.t 7) (.k (.c (.int .i64 0))),none,true⟩,
 ⟨some 4,.mv (.t 8),none,true⟩]
abbrev v49_2:VC:=(.seq (.ops o49_1) .ret)
def ir49:FC:=⟨2,9,[.t 4],(.seq (.ops o49_0) v49_2)⟩
abbrev o94_0:List Ins:=[⟨some 4,.mv (.k (.c (.bool false))),none,true⟩]
abbrev o94_1:List Ins:=[⟨some 5,.mv (.t 0),none,true⟩,
 ⟨some 6,.prim .slen [(.t 5)],none,true⟩,
 ⟨some 7,.mv (.t 1),none,true⟩,
 ⟨some 8,.prim .slen [(.t 7)],none,true⟩,
 ⟨some 9,.bin .geq (.t 6) (.t 8),none,true⟩,
 ⟨some 10,.mv (.t 9),none,true⟩,
 ⟨some 11,.mv (.t 0),(some (10,true)),true⟩,
 ⟨some 12,.mv (.t 0),(some (10,true)),true⟩,
 ⟨some 13,.prim .slen [(.t 12)],(some (10,true)),true⟩,
 ⟨some 14,.mv (.t 1),(some (10,true)),true⟩,
 ⟨some 15,.prim .slen [(.t 14)],(some (10,true)),true⟩,
 ⟨some 16,.bin .sub (.t 13) (.t 15),(some (10,true)),true⟩,
 ⟨some 17,.prim (.sslc true false) [(.t 11),(.t 16)],(some (10,true)),true⟩,
 ⟨some 18,.mv (.t 1),(some (10,true)),true⟩,
 ⟨some 19,.prim (.sbin .eql) [(.t 17),(.t 18)],(some (10,true)),true⟩,
 ⟨some 20,.pick (.t 10) (.t 19) (.k (.c (.bool false))),none,true⟩,
 ⟨some 4,.mv (.t 20),none,true⟩]
abbrev v94_2:VC:=(.seq (.ops o94_1) .ret)
def ir94:FC:=⟨2,21,[.t 4],(.seq (.ops o94_0) v94_2)⟩
abbrev o77_0:List Ins:=[⟨some 4,.mv (.k (.c (.str []))),none,true⟩,
 ⟨some 5,.mv (.k (.c (.bool false))),none,true⟩]
abbrev o77_1:List Ins:=[⟨some 6,.mv (.t 0),none,true⟩,
 ⟨some 7,.mv (.t 1),none,true⟩,
 ⟨some 8,.call (.k (.fn 94 [])) [(.t 6),(.t 7)],none,true⟩,
 ⟨some 9,.un .not (.t 8),none,true⟩]
abbrev o77_2:List Ins:=[⟨some 10,.mv (.t 0),none,true⟩,
 ⟨some 4,.mv (.t 10),none,true⟩,
 ⟨some 5,.mv (.k (.c (.bool false))),none,true⟩]
abbrev v77_3:VC:=(.seq (.ops o77_2) .ret)
abbrev v77_4:VC:=(.cond (.t 9) v77_3 .skip)
abbrev o77_5:List Ins:=[⟨some 11,.mv (.t 0),none,true⟩,
 ⟨some 12,.mv (.t 0),none,true⟩,
 ⟨some 13,.prim .slen [(.t 12)],none,true⟩,
 ⟨some 14,.mv (.t 1),none,true⟩,
 ⟨some 15,.prim .slen [(.t 14)],none,true⟩,
 ⟨some 16,.bin .sub (.t 13) (.t 15),none,true⟩,
 ⟨some 17,.prim (.sslc false true) [(.t 11),(.t 16)],none,true⟩,
 ⟨some 4,.mv (.t 17),none,true⟩,
 ⟨some 5,.mv (.k (.c (.bool true))),none,true⟩]
abbrev v77_6:VC:=(.seq (.ops o77_5) .ret)
abbrev v77_7:VC:=(.seq (.seq (.ops o77_1) v77_4) v77_6)
def ir77:FC:=⟨2,18,[.t 4,.t 5],(.seq (.ops o77_0) v77_7)⟩
abbrev o47_0:List Ins:=[⟨some 4,.mv (.k (.c (.str []))),none,true⟩,
 ⟨some 5,.mv (.k (.c (.bool false))),none,true⟩]
abbrev o47_1:List Ins:=[⟨some 6,.mv (.t 0),none,true⟩,
 ⟨some 7,.mv (.t 1),none,true⟩,
 ⟨some 8,.call (.k (.fn 77 [])) [(.t 6),(.t 7)],none,true⟩,
 ⟨some 9,.ext (.t 8) 0,none,true⟩,
 ⟨some 10,.ext (.t 8) 1,none,true⟩,
 ⟨some 4,.mv (.t 9),none,true⟩,
 ⟨some 5,.mv (.t 10),none,true⟩]
abbrev v47_2:VC:=(.seq (.ops o47_1) .ret)
def ir47:FC:=⟨2,11,[.t 4,.t 5],(.seq (.ops o47_0) v47_2)⟩
theorem c105:compM Tryd.prog [] 105 = some ir105:=by kernel_rfl
theorem c96:compM Tryd.prog [] 96 = some ir96:=by kernel_rfl
theorem c80:compM Tryd.prog [] 80 = some ir80:=by kernel_rfl
theorem c49:compM Tryd.prog [] 49 = some ir49:=by kernel_rfl
theorem c94:compM Tryd.prog [] 94 = some ir94:=by kernel_rfl
theorem c77:compM Tryd.prog [] 77 = some ir77:=by kernel_rfl
theorem c47:compM Tryd.prog [] 47 = some ir47:=by kernel_rfl
attribute [local go_sem] Nat.reduceEqDiff Nat.reduceAdd Nat.reduceMul reduceIte Nat.reduceLeDiff Nat.reduceLT Nat.reduceBEq reduceCtorEq
abbrev idxB (s:List UInt8) (b:UInt8):Int:=Lib.indexByte s b
theorem byte_back (b:UInt8):(((b.toNat:Int)).toNat).toUInt8 = b:=by
 simp
theorem indexString112 {K:V.St → Prop} {σ:V.St} {d:Option Nat} {f:X} {xs:List X} {s:List UInt8} {b:UInt8} (h1:(σ.val f).dg = true) (h2:(xs.all fun x => (σ.val x).dg) = true) (h3:(σ.val f).dv = .fn 112 []) (h4:AV.portL σ.own (xs.map fun x => (σ.val x).dv) = some [sv s,u8 b]) (hK:K (σ.put d (iv (idxB s b)))):ACallS Tryd.prog d f xs K σ:=by
 refine AS_extern (fn:=(Tryd.prog.funcs[112]?).get (by kernel_rfl)) (e:=Extern.BytealgIndexByte.indexByte) (by simp) (by kernel_rfl) (by kernel_rfl) (by kernel_rfl) (by kernel_rfl) rfl (fun w M vs hr => ?_) h1 h2 h3 h4 hK
 simp only [RepAs,RepA,RepC] at hr
 obtain ⟨v1,_,rfl,rfl,v2,_,rfl,rfl,rfl⟩:=hr
 have:=Lib.run_indexByteString (P:=Tryd.prog) ⟨s.toArray⟩ (b.toNat:Int) w
 rw [byte_back] at this
 exact ⟨_,this,by simp only [RepA,RepC]⟩
theorem index105 (s:List UInt8) (b:UInt8):FSpec Tryd.prog 105 [sv s,u8 b] (iv (idxB s b)):=by
 refine FSpec_of c105 (Nat.le_refl _) (by decide) fun C hP hN hC hL => ?_; rw [init_st]
 simp only [ir105]
 (repeat ((first | refine Va ?_ | refine Vb ?_ | refine Vc ?_ | refine Vd ?_ | refine Ve ?_ | refine Vf ?_); (try simp only [go_sem,hP]); (repeat refine qJ ?_)))
 refine indexString112 rfl rfl rfl rfl ?_
 simp only [go_sem,hP]
 (repeat ((first | refine Va ?_ | refine Vb ?_ | refine Vc ?_ | refine Vd ?_ | refine Ve ?_ | refine Vf ?_); (try simp only [go_sem,hP]); (repeat refine qJ ?_)))
 (refine WV_ret ?_; simp only [thenQ,inQ,RetQ,RetOk,resAll,resA]; simp only [go_sem,tupA,AV.port,AV.portL,exists_eq_left']; (first | exact AVle.of rfl | refine AVle.of ?_ | skip))
theorem index96 (s:List UInt8) (b:UInt8):FSpec Tryd.prog 96 [sv s,sv [b]] (iv (idxB s b)):=by
 refine FSpec_of c96 (Nat.le_refl _) (by decide) fun C hP hN hC hL => ?_; rw [init_st]
 simp only [ir96]
 (repeat ((first | refine Va ?_ | refine Vb ?_ | refine Vc ?_ | refine Vd ?_ | refine Ve ?_ | refine Vf ?_); (try simp only [go_sem,hP]); (repeat refine qJ ?_)))
 simp only [List.length_singleton,Int.natCast_one,Int.reduceBEq]
 (refine WV_cond rfl (fun h => ?_) (fun h => ?_))
 ·have hb:[b] = s:=by simpa using h
  subst hb
  (repeat ((first | refine Va ?_ | refine Vb ?_ | refine Vc ?_ | refine Vd ?_ | refine Ve ?_ | refine Vf ?_); (try simp only [go_sem,hP]); (repeat refine qJ ?_)))
  have e:idxB [b] b = 0:=by simp [idxB,Lib.indexByte]
  rw [e]
  (refine WV_ret ?_; simp only [thenQ,inQ,RetQ,RetOk,resAll,resA]; simp only [go_sem,tupA,AV.port,AV.portL,exists_eq_left']; (first | exact AVle.of rfl | refine AVle.of ?_ | skip))
 ·(repeat ((first | refine Va ?_ | refine Vb ?_ | refine Vc ?_ | refine Vd ?_ | refine Ve ?_ | refine Vf ?_); (try simp only [go_sem,hP]); (repeat refine qJ ?_)))
  simp only [List.length_singleton,Int.natCast_one,Int.reduceBEq]
  (refine WV_cond rfl (fun h => ?_) (fun h => ?_))
  ·(repeat ((first | refine Va ?_ | refine Vb ?_ | refine Vc ?_ | refine Vd ?_ | refine Ve ?_ | refine Vf ?_); (try simp only [go_sem,hP,List.length_singleton,Int.natCast_one,Int.reduceLT]); (repeat refine qJ ?_)))
   (refine AS_pu (index105 s b) ?_; simp only [go_sem,hP]; (repeat refine qJ ?_); (repeat ((first | refine Va ?_ | refine Vb ?_ | refine Vc ?_ | refine Vd ?_ | refine Ve ?_ | refine Vf ?_); (try simp only [go_sem,hP]); (repeat refine qJ ?_))))
   (refine WV_ret ?_; simp only [thenQ,inQ,RetQ,RetOk,resAll,resA]; simp only [go_sem,tupA,AV.port,AV.portL,exists_eq_left']; (first | exact AVle.of rfl | refine AVle.of ?_ | skip))
  ·simp at h
theorem index80 (s:List UInt8) (b:UInt8):FSpec Tryd.prog 80 [sv s,sv [b]] (iv (idxB s b)):=by
 refine FSpec_of c80 (Nat.le_refl _) (by decide) fun C hP hN hC hL => ?_; rw [init_st]
 simp only [ir80]
 (repeat ((first | refine Va ?_ | refine Vb ?_ | refine Vc ?_ | refine Vd ?_ | refine Ve ?_ | refine Vf ?_); (try simp only [go_sem,hP]); (repeat refine qJ ?_)))
 (refine AS_pu (index96 s b) ?_; simp only [go_sem,hP]; (repeat refine qJ ?_); (repeat ((first | refine Va ?_ | refine Vb ?_ | refine Vc ?_ | refine Vd ?_ | refine Ve ?_ | refine Vf ?_); (try simp only [go_sem,hP]); (repeat refine qJ ?_))))
 (refine WV_ret ?_; simp only [thenQ,inQ,RetQ,RetOk,resAll,resA]; simp only [go_sem,tupA,AV.port,AV.portL,exists_eq_left']; (first | exact AVle.of rfl | refine AVle.of ?_ | skip))
theorem idxB_ge' (b:UInt8):∀ s:List UInt8,0 ≤ idxB s b ↔ b ∈ s
 | [] => by simp [idxB,Lib.indexByte]
 | x :: s => by
  have hge:=Lib.indexByte_ge s b
  have ih:=idxB_ge' b s
  have e:idxB (x :: s) b = if x == b then 0 else if Lib.indexByte s b == -1 then -1 else Lib.indexByte s b + 1:=rfl
  rw [e,List.mem_cons]
  unfold idxB at ih
  by_cases hx:x = b
  ·simp [hx]
  ·have h2:¬ b = x:=fun h => hx h.symm
   have h1:(x == b) = false:=by simpa using hx
   rw [h1]
   simp only [Bool.false_eq_true,if_false,h2,false_or]
   rw [← ih]
   split
   ·rename_i h3
    have:Lib.indexByte s b = -1:=by simpa using h3
    omega
   ·rename_i h3
    have:Lib.indexByte s b ≠ -1:=by simpa using h3
    omega
theorem idxB_ge (s:List UInt8) (b:UInt8):decide (idxB s b ≥ 0) = s.contains b:=by
 rw [Bool.eq_iff_iff,decide_eq_true_iff,List.contains_iff_mem]
 exact idxB_ge' b s
theorem contains49 (s:List UInt8) (b:UInt8):FSpec Tryd.prog 49 [sv s,sv [b]] (bv (s.contains b)):=by
 refine FSpec_of c49 (Nat.le_refl _) (by decide) fun C hP hN hC hL => ?_; rw [init_st]
 simp only [ir49]
 (repeat ((first | refine Va ?_ | refine Vb ?_ | refine Vc ?_ | refine Vd ?_ | refine Ve ?_ | refine Vf ?_); (try simp only [go_sem,hP]); (repeat refine qJ ?_)))
 (refine AS_pu (index80 s b) ?_; simp only [go_sem,hP,idxB_ge]; (repeat refine qJ ?_); (repeat ((first | refine Va ?_ | refine Vb ?_ | refine Vc ?_ | refine Vd ?_ | refine Ve ?_ | refine Vf ?_); (try simp only [go_sem,hP,idxB_ge]); (repeat refine qJ ?_))))
 (refine WV_ret ?_; simp only [thenQ,inQ,RetQ,RetOk,resAll,resA]; simp only [go_sem,tupA,AV.port,AV.portL,exists_eq_left']; (first | exact AVle.of rfl | refine AVle.of ?_ | skip))
def endsB (s:List UInt8) (b:UInt8):Bool:=s.getLast? == some b
theorem endsB_drop (s:List UInt8) (b:UInt8) (h:1 ≤ s.length):(s.drop (s.length - 1) == [b]) = endsB s b:=by
 unfold endsB
 have e:s.drop (s.length - 1) = [s[s.length - 1]]:=by
  rw [List.drop_eq_getElem_cons (by omega),List.drop_of_length_le (by omega)]
 rw [e,List.getLast?_eq_getElem?,List.getElem?_eq_getElem (by omega),Bool.eq_iff_iff]
 simp
theorem hassuffix94 (s:List UInt8) (b:UInt8) (hs:s.length ≤ maxLen):FSpec Tryd.prog 94 [sv s,sv [b]] (bv (endsB s b)):=by
 have hmax:maxLen = 9223372036854775807:=rfl
 refine FSpec_of c94 (Nat.le_refl _) (by decide) fun C hP hN hC hL => ?_; rw [init_st]
 simp only [ir94]
 have hw:=w64 (n:=(s.length:Int) - 1) (by omega) (by omega)
 by_cases h0:1 ≤ s.length
 ·have hd:decide ((s.length:Int) ≥ 1) = true:=by simp; omega
  have he:=endsB_drop s b h0
  have ht:((s.length:Int) - 1).toNat = s.length - 1:=by omega
  (repeat ((first | refine Va ?_ | refine Vb ?_ | refine Vc ?_ | refine Vd ?_ | refine Ve ?_ | refine Vf ?_); (try simp only [go_sem,hP,hw,List.length_singleton,Int.natCast_one,hd,ht,he]); (repeat refine qJ ?_)))
  (refine WV_ret ?_; simp only [thenQ,inQ,RetQ,RetOk,resAll,resA]; simp only [go_sem,tupA,AV.port,AV.portL,exists_eq_left']; (first | exact AVle.of rfl | refine AVle.of ?_ | skip))
 ·have hs0:s = []:=List.eq_nil_of_length_eq_zero (by omega)
  subst hs0
  (repeat ((first | refine Va ?_ | refine Vb ?_ | refine Vc ?_ | refine Vd ?_ | refine Ve ?_ | refine Vf ?_); (try simp only [go_sem,hP,List.length_singleton,Int.natCast_one,List.length_nil]); (repeat refine qJ ?_)))
  have e:((decide ((1:Int) ≤ ((0:Nat):Int))) && ([]:List UInt8) == [b]) = endsB [] b:=by simp [endsB]
  rw [e]
  (refine WV_ret ?_; simp only [thenQ,inQ,RetQ,RetOk,resAll,resA]; simp only [go_sem,tupA,AV.port,AV.portL,exists_eq_left']; (first | exact AVle.of rfl | refine AVle.of ?_ | skip))
def cutB (s:List UInt8) (b:UInt8):List UInt8:=if endsB s b then s.dropLast else s
theorem cutsuffix77 (s:List UInt8) (b:UInt8) (hs:s.length ≤ maxLen):FSpec Tryd.prog 77 [sv s,sv [b]] (.tup [sv (cutB s b),bv (endsB s b)]):=by
 have hmax:maxLen = 9223372036854775807:=rfl
 refine FSpec_of c77 (Nat.le_refl _) (by decide) fun C hP hN hC hL => ?_; rw [init_st]
 simp only [ir77]
 have hw:=w64 (n:=(s.length:Int) - 1) (by omega) (by omega)
 have ht:((s.length:Int) - 1).toNat = s.length - 1:=by omega
 (repeat ((first | refine Va ?_ | refine Vb ?_ | refine Vc ?_ | refine Vd ?_ | refine Ve ?_ | refine Vf ?_); (try simp only [go_sem,hP]); (repeat refine qJ ?_)))
 (refine AS_pu (hassuffix94 s b hs) ?_; simp only [go_sem,hP]; (repeat refine qJ ?_); (repeat ((first | refine Va ?_ | refine Vb ?_ | refine Vc ?_ | refine Vd ?_ | refine Ve ?_ | refine Vf ?_); (try simp only [go_sem,hP]); (repeat refine qJ ?_))))
 by_cases he:endsB s b = true
 ·have h0:1 ≤ s.length:=by
   cases s with
   | nil => simp [endsB] at he
   | cons x s => simp
  have hc:cutB s b = s.take (s.length - 1):=by unfold cutB; rw [if_pos he,List.dropLast_eq_take]
  rw [hc,he]
  (refine WV_cond rfl (fun h => ?_) (fun h => ?_))
  ·simp at h
  ·(repeat ((first | refine Va ?_ | refine Vb ?_ | refine Vc ?_ | refine Vd ?_ | refine Ve ?_ | refine Vf ?_); (try simp only [go_sem,hP,hw,List.length_singleton,Int.natCast_one,ht]); (repeat refine qJ ?_)))
   (refine WV_ret ?_; simp only [thenQ,inQ,RetQ,RetOk,resAll,resA]; simp only [go_sem,tupA,AV.port,AV.portL,exists_eq_left']; (first | exact AVle.of rfl | refine AVle.of ?_ | skip))
 ·have hc:cutB s b = s:=by unfold cutB; rw [if_neg he]
  have he':endsB s b = false:=by simpa using he
  rw [hc,he']
  (refine WV_cond rfl (fun h => ?_) (fun h => ?_))
  ·(repeat ((first | refine Va ?_ | refine Vb ?_ | refine Vc ?_ | refine Vd ?_ | refine Ve ?_ | refine Vf ?_); (try simp only [go_sem,hP]); (repeat refine qJ ?_)))
   (refine WV_ret ?_; simp only [thenQ,inQ,RetQ,RetOk,resAll,resA]; simp only [go_sem,tupA,AV.port,AV.portL,exists_eq_left']; (first | exact AVle.of rfl | refine AVle.of ?_ | skip))
  ·simp at h
theorem cutsuffix47 (s:List UInt8) (b:UInt8) (hs:s.length ≤ maxLen):FSpec Tryd.prog 47 [sv s,sv [b]] (.tup [sv (cutB s b),bv (endsB s b)]):=by
 refine FSpec_of c47 (Nat.le_refl _) (by decide) fun C hP hN hC hL => ?_; rw [init_st]
 simp only [ir47]
 (repeat ((first | refine Va ?_ | refine Vb ?_ | refine Vc ?_ | refine Vd ?_ | refine Ve ?_ | refine Vf ?_); (try simp only [go_sem,hP]); (repeat refine qJ ?_)))
 (refine AS_pu (cutsuffix77 s b hs) ?_; simp only [go_sem,hP]; (repeat refine qJ ?_); (repeat ((first | refine Va ?_ | refine Vb ?_ | refine Vc ?_ | refine Vd ?_ | refine Ve ?_ | refine Vf ?_); (try simp only [go_sem,hP]); (repeat refine qJ ?_))))
 (refine WV_ret ?_; simp only [thenQ,inQ,RetQ,RetOk,resAll,resA]; simp only [go_sem,tupA,AV.port,AV.portL,exists_eq_left']; (first | exact AVle.of rfl | refine AVle.of ?_ | skip))
end Go.Proofs.YtlmfdmlochpfcaaDoor

namespace Go.Proofs.YtlmfdmlochpfcaaDoor
open Go Go.V
abbrev o95_0:List Ins:=[⟨some 3,.box 1 (.t 0),none,true⟩,
 ⟨some 4,.box 1 (.t 1),none,true⟩,
 ⟨some 5,.box 1 (.t 2),none,true⟩,
 ⟨some 6,.mv (.k (.c (.raw .nilFunc))),none,true⟩]
abbrev o95_1:List Ins:=[⟨some 7,.mkfn 104 [(.t 4),(.t 3),(.t 5)],none,true⟩,
 ⟨some 6,.mv (.t 7),none,true⟩]
abbrev v95_2:VC:=(.seq (.ops o95_1) .ret)
def ir95:FC:=⟨3,8,[.t 6],(.seq (.ops o95_0) v95_2)⟩
abbrev o78_0:List Ins:=[⟨some 4,.mv (.k (.c (.raw .nilFunc))),none,true⟩]
abbrev o78_1:List Ins:=[⟨some 5,.mv (.t 0),none,true⟩,
 ⟨some 6,.mv (.t 1),none,true⟩,
 ⟨some 7,.call (.k (.fn 95 [])) [(.t 5),(.t 6),(.k (.c (.int .i64 0)))],none,true⟩,
 ⟨some 4,.mv (.t 7),none,true⟩]
abbrev v78_2:VC:=(.seq (.ops o78_1) .ret)
def ir78:FC:=⟨2,8,[.t 4],(.seq (.ops o78_0) v78_2)⟩
abbrev o104_0:List Ins:=[⟨some 9,.ld true 1 (.t 1),none,true⟩,
 ⟨some 10,.prim .slen [(.t 9)],none,true⟩,
 ⟨some 11,.bin .eql (.t 10) (.k (.c (.int .i64 0))),none,true⟩]
abbrev o104_1:List Ins:=[⟨some 12,.ld true 1 (.t 2),none,true⟩,
 ⟨some 13,.prim .slen [(.t 12)],none,true⟩,
 ⟨some 14,.bin .gtr (.t 13) (.k (.c (.int .i64 0))),none,true⟩]
abbrev v104_2:VC:=(.cond (.t 14) .skip (.exit 0))
abbrev o104_3:List Ins:=[⟨some 16,.ld true 1 (.t 2),none,true⟩,
 ⟨some 17,.call (.k (.fn 102 [])) [(.t 16)],none,true⟩,
 ⟨some 15,.mv (.t 17),none,true⟩,
 ⟨some 18,.ext (.t 15) 0,none,true⟩,
 ⟨some 19,.ext (.t 15) 1,none,true⟩,
 ⟨some 5,.mv (.t 18),none,true⟩,
 ⟨some 6,.mv (.t 19),none,true⟩]
abbrev o104_4:List Ins:=[⟨some 20,.mv (.t 0),none,true⟩,
 ⟨some 21,.ld true 1 (.t 2),none,true⟩,
 ⟨some 22,.mv (.t 6),none,true⟩,
 ⟨some 23,.prim (.sslc false true) [(.t 21),(.t 22)],none,true⟩,
 ⟨some 24,.call (.t 20) [(.t 23)],none,true⟩,
 ⟨some 25,.un .not (.t 24),none,true⟩]
abbrev v104_5:VC:=(.cond (.t 25) .ret .skip)
abbrev o104_6:List Ins:=[⟨some 26,.ld true 1 (.t 2),none,true⟩,
 ⟨some 27,.mv (.t 6),none,true⟩,
 ⟨some 28,.prim (.sslc true false) [(.t 26),(.t 27)],none,true⟩,
 ⟨none,.st 1 (.t 2) (.t 28),none,true⟩]
abbrev v104_7:VC:=(.seq (.seq (.ops o104_4) v104_5) (.ops o104_6))
abbrev v104_8:VC:=(.seq (.ops o104_3) v104_7)
abbrev v104_9:VC:=(.block 1 v104_8)
abbrev v104_10:VC:=(.seq (.seq (.ops o104_1) v104_2) v104_9)
-- K104_1: changed and kept: []
abbrev v104_11:VC:=(.loop v104_10)
abbrev v104_12:VC:=(.seq (.block 0 v104_11) .ret)
abbrev v104_13:VC:=(.cond (.t 11) v104_12 .skip)
abbrev o104_14:List Ins:=[⟨some 29,.ld true 1 (.t 2),none,true⟩,
 ⟨some 30,.ld true 1 (.t 1),none,true⟩,
 ⟨some 31,.call (.k (.fn 80 [])) [(.t 29),(.t 30)],none,true⟩,
 ⟨some 7,.mv (.t 31),none,true⟩]
abbrev o104_15:List Ins:=[⟨some 32,.mv (.t 7),none,true⟩,
 ⟨some 33,.bin .lss (.t 32) (.k (.c (.int .i64 0))),none,true⟩]
abbrev v104_16:VC:=(.cond (.t 33) (.exit 2) .skip)
abbrev o104_17:List Ins:=[⟨some 34,.ld true 1 (.t 2),none,true⟩,
 ⟨some 35,.mv (.t 7),none,true⟩,
 ⟨some 36,.ld true 1 (.t 3),none,true⟩,
 ⟨some 37,.bin .add (.t 35) (.t 36),none,true⟩,
 ⟨some 38,.prim (.sslc false true) [(.t 34),(.t 37)],none,true⟩,
 ⟨some 8,.mv (.t 38),none,true⟩]
abbrev o104_18:List Ins:=[⟨some 39,.mv (.t 0),none,true⟩,
 ⟨some 40,.mv (.t 8),none,true⟩,
 ⟨some 41,.call (.t 39) [(.t 40)],none,true⟩,
 ⟨some 42,.un .not (.t 41),none,true⟩]
abbrev v104_19:VC:=(.cond (.t 42) .ret .skip)
abbrev o104_20:List Ins:=[⟨some 43,.ld true 1 (.t 2),none,true⟩,
 ⟨some 44,.mv (.t 7),none,true⟩,
 ⟨some 45,.ld true 1 (.t 1),none,true⟩,
 ⟨some 46,.prim .slen [(.t 45)],none,true⟩,
 ⟨some 47,.bin .add (.t 44) (.t 46),none,true⟩,
 ⟨some 48,.prim (.sslc true false) [(.t 43),(.t 47)],none,true⟩,
 ⟨none,.st 1 (.t 2) (.t 48),none,true⟩]
abbrev v104_21:VC:=(.seq (.seq (.ops o104_18) v104_19) (.ops o104_20))
abbrev v104_22:VC:=(.seq (.ops o104_17) v104_21)
abbrev v104_23:VC:=(.seq (.seq (.ops o104_15) v104_16) v104_22)
abbrev v104_24:VC:=(.seq (.ops o104_14) v104_23)
abbrev v104_25:VC:=(.block 3 v104_24)
-- K104_2: changed and kept: []
abbrev v104_26:VC:=(.loop v104_25)
abbrev o104_27:List Ins:=[⟨some 49,.mv (.t 0),none,true⟩,
 ⟨some 50,.ld true 1 (.t 2),none,true⟩,
 ⟨some 51,.call (.t 49) [(.t 50)],none,true⟩]
abbrev v104_28:VC:=(.seq (.block 2 v104_26) (.ops o104_27))
def ir104:FC:=⟨4,52,[],(.seq (.seq (.ops o104_0) v104_13) v104_28)⟩
theorem c95:compM Tryd.prog [] 95 = some ir95:=by kernel_rfl
theorem c78:compM Tryd.prog [] 78 = some ir78:=by kernel_rfl
theorem c104:compM Tryd.prog [] 104 = some ir104:=by kernel_rfl
attribute [local go_sem] Nat.reduceEqDiff Nat.reduceAdd Nat.reduceMul reduceIte Nat.reduceLeDiff Nat.reduceLT Nat.reduceBEq reduceCtorEq
def segB (b:UInt8):List UInt8 → List (List UInt8)
 | [] => [[]]
 | x :: s => if x = b then [] :: segB b s else match segB b s with | h :: t => (x :: h) :: t | [] => [[x]]
theorem segB_ne (b:UInt8):∀ s,segB b s ≠ []
 | [] => by simp [segB]
 | x :: s => by
  unfold segB
  split
  ·simp
  ·split <;> simp
theorem segB_none (b:UInt8):∀ s,idxB s b < 0 → segB b s = [s]
 | [],_ => rfl
 | x :: s,h => by
  have hge:=Lib.indexByte_ge s b
  have e:idxB (x :: s) b = if x == b then 0 else if Lib.indexByte s b == -1 then -1 else Lib.indexByte s b + 1:=rfl
  rw [e] at h
  by_cases hx:x = b
  ·simp [hx] at h
  ·have h1:(x == b) = false:=by simpa using hx
   rw [h1] at h
   simp only [Bool.false_eq_true,if_false] at h
   split at h
   ·rename_i h3
    have h4:Lib.indexByte s b = -1:=by simpa using h3
    have ih:=segB_none b s (by unfold idxB; omega)
    simp [segB,hx,ih]
   ·rename_i h3
    have:Lib.indexByte s b ≠ -1:=by simpa using h3
    omega
theorem segB_some (b:UInt8):∀ s,0 ≤ idxB s b → (idxB s b).toNat < s.length ∧ segB b s = s.take (idxB s b).toNat :: segB b (s.drop ((idxB s b).toNat + 1))
 | [],h => by simp [idxB,Lib.indexByte] at h
 | x :: s,h => by
  have hge:=Lib.indexByte_ge s b
  have e:idxB (x :: s) b = if x == b then 0 else if Lib.indexByte s b == -1 then -1 else Lib.indexByte s b + 1:=rfl
  rw [e] at h ⊢
  by_cases hx:x = b
  ·simp [hx,segB]
  ·have h1:(x == b) = false:=by simpa using hx
   rw [h1] at h ⊢
   simp only [Bool.false_eq_true,if_false] at h ⊢
   split at h
   ·omega
   ·rename_i h3
    have h3':Lib.indexByte s b ≠ -1:=by simpa using h3
    obtain ⟨k1,k2⟩:=segB_some b s (by unfold idxB; omega)
    unfold idxB at k1 k2
    rw [if_neg h3]
    have e2:(Lib.indexByte s b + 1).toNat = (Lib.indexByte s b).toNat + 1:=by omega
    rw [e2]
    refine ⟨by simpa using k1,?_⟩
    simp only [segB,hx,if_false,List.take_succ_cons,List.drop_succ_cons]
    rw [k2]
theorem splitseq95 (s sep:List UInt8) (n:Int):FSpecN Tryd.prog 95 [sv s,sv sep,iv n] (fun r os => r = .fn 104 [.bp 1000 0,.bp 1001 0,.bp 1002 0] ∧ os = [.box [sv sep],.box [sv s],.box [iv n]]):=by
 refine FSpecN_of c95 (Nat.le_refl _) (by decide) fun C hP hN hC hL => ?_; rw [init_st]
 simp only [ir95]
 (repeat ((first | refine Va ?_ | refine Vb ?_ | refine Vc ?_ | refine Vd ?_ | refine Ve ?_ | refine Vf ?_); (try simp only [go_sem,hP]); (repeat refine qJ ?_)))
 (refine WV_ret ?_; simp only [thenQ,inQ,RetQN,RetOkN,resAll,resA]; simp only [go_sem,tupA])
 refine ⟨[4,3,5],_,_,_,by decide,by decide,rfl,AVle.refl _,rfl,rfl,rfl⟩
theorem splitseq78 (s sep:List UInt8):FSpecN Tryd.prog 78 [sv s,sv sep] (fun r os => r = .fn 104 [.bp 1000 0,.bp 1001 0,.bp 1002 0] ∧ os = [.box [sv sep],.box [sv s],.box [iv 0]]):=by
 refine FSpecN_of c78 (Nat.le_refl _) (by decide) fun C hP hN hC hL => ?_; rw [init_st]
 simp only [ir78]
 (repeat ((first | refine Va ?_ | refine Vb ?_ | refine Vc ?_ | refine Vd ?_ | refine Ve ?_ | refine Vf ?_); (try simp only [go_sem,hP]); (repeat refine qJ ?_)))
 refine AS_new (splitseq95 s sep 0) rfl rfl rfl rfl ?_
 rintro r os ⟨rfl,rfl⟩
 refine ⟨[20,21,22],_,_,by decide,rfl,rfl,rfl,rfl,?_⟩
 simp only [go_sem,hP,ownBack]
 (repeat ((first | refine Va ?_ | refine Vb ?_ | refine Vc ?_ | refine Vd ?_ | refine Ve ?_ | refine Vf ?_); (try simp only [go_sem,hP]); (repeat refine qJ ?_)))
 (refine WV_ret ?_; simp only [thenQ,inQ,RetQN,RetOkN,resAll,resA]; simp only [go_sem,tupA])
 refine ⟨[20,21,22],_,_,_,by decide,by decide,rfl,AVle.refl _,rfl,rfl,rfl⟩
def entS (x:List UInt8) (r:Bool):Ent:=⟨[sv x],[],bv r⟩
inductive OkRem:List (List UInt8) → List Ent → Prop
 | last (x:List UInt8) (r:Bool):OkRem [x] [entS x r]
 | stop (x:List UInt8) (l:List (List UInt8)):OkRem (x :: l) [entS x false]
 | more (x:List UInt8) (l:List (List UInt8)) (rem:List Ent):OkRem l rem → OkRem (x :: l) (entS x true :: rem)
theorem okRem_one {x:List UInt8} {rem:List Ent} (h:OkRem [x] rem):∃ r,rem = [entS x r]:=by
 cases h with
 | last _ r => exact ⟨r,rfl⟩
 | stop => exact ⟨false,rfl⟩
 | more _ _ rem h => cases h
theorem okRem_cons {x:List UInt8} {l:List (List UInt8)} {rem:List Ent} (h:OkRem (x :: l) rem) (hl:l ≠ []):rem = [entS x false] ∨ ∃ rem2,rem = entS x true :: rem2 ∧ OkRem l rem2:=by
 cases h with
 | last _ r => exact (hl rfl).elim
 | stop => exact .inl rfl
 | more _ _ rem h => exact .inr ⟨rem,rfl,h⟩
set_option maxRecDepth 20000 in
set_option maxHeartbeats 4000000 in
theorem split104 (g:Gst) (b:UInt8) {s:List UInt8} (hs:s.length ≤ 100000) {rem:List Ent} (hrem:OkRem (segB b s) rem):FSpecL Tryd.prog 104 [.c (.raw g.fv),.bp 1001 0,.bp 1002 0,.bp 1003 0] [.guest g rem,.box [sv [b]],.box [sv s],.box [iv 0]] [] (fun r l' => r = .tup [] ∧ ∃ s',l' = [.guest g [],.box [sv [b]],.box [sv s'],.box [iv 0]]):=by
 have hmax:maxLen = 9223372036854775807:=rfl
 refine FSpecL_of c104 (by first | simp | exact Nat.le_of_ble_eq_true rfl) (Nat.le_refl _) (by decide) (by decide) fun C hP hN hC hL => ?_; rw [init_env',ownW_upd (by first | simp | exact Nat.le_of_ble_eq_true rfl)]; simp only [ir104,updL,updLo,List.map_nil,List.map_cons,Nat.reduceAdd,]
 (repeat ((first | refine Va ?_ | refine Vb ?_ | refine Vc ?_ | refine Vd ?_ | refine Ve ?_ | refine Vf ?_); (try simp only [go_sem,hP,List.length_singleton,Int.natCast_one,Int.reduceBEq]); (repeat refine qJ ?_)))
 (refine WV_cond rfl (fun h => ?_) (fun h => ?_))
 ·simp at h
 ·(repeat ((first | refine Va ?_ | refine Vb ?_ | refine Vc ?_ | refine Vd ?_ | refine Ve ?_ | refine Vf ?_); (try simp only [go_sem,hP]); (repeat refine qJ ?_)))
  refine WV_loopS (fun p:List UInt8 × List Ent => ⟨upd (upd (upd (upd e0 0 (.c (.raw g.fv))) 1 (.bp 1001 0)) 2 (.bp 1002 0)) 3 (.bp 1003 0),upd (upd (upd (upd o0 1000 (.guest g p.2)) 1001 (.box [sv [b]])) 1002 (.box [sv p.1])) 1003 (.box [iv 0])⟩) (fun p => OkRem (segB b p.1) p.2 ∧ p.1.length ≤ 100000) (fun p => p.1.length) (s,rem) ⟨hrem,hs⟩ ?_ ?_
  ·exact Sub_au
  rintro ⟨s',rem'⟩ ⟨hr,hs'⟩
  simp only at hr hs'
  (repeat ((first | refine Va ?_ | refine Vb ?_ | refine Vc ?_ | refine Vd ?_ | refine Ve ?_ | refine Vf ?_); (try simp only [go_sem,hP]); (repeat refine qJ ?_)))
  (refine AS_pu (index80 s' b) ?_; simp only [go_sem,hP]; (repeat refine qJ ?_); (repeat ((first | refine Va ?_ | refine Vb ?_ | refine Vc ?_ | refine Vd ?_ | refine Ve ?_ | refine Vf ?_); (try simp only [go_sem,hP]); (repeat refine qJ ?_))))
  (refine WV_cond rfl (fun h => ?_) (fun h => ?_))
  ·have hlt:idxB s' b < 0:=by simpa using h
   rw [segB_none b s' hlt] at hr
   obtain ⟨r,rfl⟩:=okRem_one hr
   (repeat ((first | refine Va ?_ | refine Vb ?_ | refine Vc ?_ | refine Vd ?_ | refine Ve ?_ | refine Vf ?_); (try simp only [go_sem,hP]); (repeat refine qJ ?_)))
   refine AS_guest 1000 [] (e:=entS s' r) (rem:=[]) rfl rfl rfl rfl (by decide) rfl trivial ?_
   simp only [go_sem,hP]
   ((try simp only [thenQ,inQ,RetQL,RetOkL,resAll,resA]); (try simp only [go_sem,tupA,AV.keepP,AV.keepPL]); refine ⟨_,[.guest g [],.box [sv [b]],.box [sv s'],.box [iv 0]],rfl,KeepL_mk rfl rfl ?_ ?_ rfl,?_⟩)
   ·simp only [go_sem,keepAll,Ob.keepP,AV.keepP,AV.keepPL]
   ·trivial
   ·exact ⟨rfl,s',rfl⟩
  ·have hge:0 ≤ idxB s' b:=by simpa using h
   obtain ⟨k1,k2⟩:=segB_some b s' hge
   rw [k2] at hr
   obtain ⟨i,hi⟩ : ∃ i:Nat,idxB s' b = i:=⟨(idxB s' b).toNat,by omega⟩
   rw [hi] at k1 hr
   simp only [Int.toNat_natCast] at k1 hr
   have hw1:=w64 (n:=(i:Int)) (by omega) (by omega)
   have hw2:=w64 (n:=(i:Int) + 1) (by omega) (by omega)
   rw [hi]
   (repeat ((first | refine Va ?_ | refine Vb ?_ | refine Vc ?_ | refine Vd ?_ | refine Ve ?_ | refine Vf ?_); (try simp only [go_sem,hP,hw1,Int.add_zero,Int.toNat_natCast]); (repeat refine qJ ?_)))
   rcases okRem_cons hr (segB_ne b _) with rfl | ⟨rem2,rfl,hr2⟩
   ·refine AS_guest 1000 [] (e:=entS (s'.take i) false) (rem:=[]) rfl rfl rfl rfl (by decide) rfl trivial ?_
    simp only [go_sem,hP,entS]
    (refine WV_cond rfl (fun h => ?_) (fun h => ?_))
    ·refine WV_ret ?_
     simp only [go_sem]
     ((try simp only [thenQ,inQ,RetQL,RetOkL,resAll,resA]); (try simp only [go_sem,tupA,AV.keepP,AV.keepPL]); refine ⟨_,[.guest g [],.box [sv [b]],.box [sv s'],.box [iv 0]],rfl,KeepL_mk rfl rfl ?_ ?_ rfl,?_⟩)
     ·simp only [go_sem,keepAll,Ob.keepP,AV.keepP,AV.keepPL]
     ·trivial
     ·exact ⟨rfl,s',rfl⟩
    ·simp at h
   ·refine AS_guest 1000 [] (e:=entS (s'.take i) true) (rem:=rem2) rfl rfl rfl rfl (by decide) rfl trivial ?_
    simp only [go_sem,hP,entS]
    (refine WV_cond rfl (fun h => ?_) (fun h => ?_))
    ·simp at h
    ·have ht1:((i:Int) + 1).toNat = i + 1:=by omega
     (repeat ((first | refine Va ?_ | refine Vb ?_ | refine Vc ?_ | refine Vd ?_ | refine Ve ?_ | refine Vf ?_); (try simp only [go_sem,hP,hw2,List.length_singleton,Int.natCast_one,ht1]); (repeat refine qJ ?_)))
     refine ⟨(s'.drop (i + 1),rem2),⟨hr2,by rw [List.length_drop]; omega⟩,by simp only [List.length_drop]; omega,?_⟩
     exact Sub_au
end Go.Proofs.YtlmfdmlochpfcaaDoor

namespace Go.Proofs.YtlmfdmlochpfcaaDoor
open Go Go.V
abbrev o48_0:List Ins:=[⟨some 2,.alloc [(.c (.raw (.slice none 0 0)))],none,true⟩,
 ⟨some 3,.alloc [(.c (.int .i64 0))],none,true⟩]
abbrev o48_1:List Ins:=[⟨some 10,.mv (.t 0),none,true⟩,
 ⟨some 11,.call (.k (.fn 47 [])) [(.t 10),(.k (.c (.str [10])))],none,true⟩,
 ⟨some 9,.mv (.t 11),none,true⟩,
 ⟨some 12,.ext (.t 9) 0,none,true⟩,
 ⟨some 13,.ext (.t 9) 1,none,true⟩,
 ⟨some 4,.mv (.t 12),none,true⟩,
 ⟨some 5,.mv (.t 13),none,true⟩]
abbrev o48_2:List Ins:=[⟨some 14,.mv (.t 5),none,true⟩,
 ⟨some 15,.un .not (.t 14),none,true⟩]
abbrev o48_3:List Ins:=[⟨none,.st 1 (.t 2) (.k (.c (.raw (.slice none 0 0)))),none,true⟩,
 ⟨none,.st 1 (.t 3) (.k (.c (.int .i64 140))),none,true⟩]
abbrev v48_4:VC:=(.seq (.ops o48_3) .ret)
abbrev v48_5:VC:=(.cond (.t 15) v48_4 .skip)
abbrev o48_6:List Ins:=[⟨some 6,.alloc [(.c (.raw (.slice none 0 0)))],none,true⟩]
abbrev o48_7:List Ins:=[⟨some 16,.mv (.t 4),none,true⟩,
 ⟨some 17,.call (.k (.fn 78 [])) [(.t 16),(.k (.c (.str [10])))],none,true⟩]
abbrev o48_8:List Ins:=[⟨some 19,.ld true 1 (.t 6),none,true⟩,
 ⟨some 20,.mv (.t 7),none,true⟩,
 ⟨some 21,.raw (.convert 9 68 (.tmp 20)),none,true⟩,
 ⟨some 22,.bslv 68 1 [(.t 21)],none,true⟩,
 ⟨some 23,.appv 68 1 24 (.t 19) (.t 22),none,true⟩,
 ⟨none,.st 1 (.t 6) (.t 23),none,true⟩]
abbrev o48_9:List Ins:=[⟨some 24,.mv (.t 7),none,true⟩,
 ⟨some 25,.prim .slen [(.t 24)],none,true⟩,
 ⟨some 26,.bin .lss (.t 25) (.k (.c (.int .i64 2))),none,true⟩,
 ⟨some 27,.mv (.t 26),none,true⟩,
 ⟨some 28,.mv (.t 7),(some (27,false)),true⟩,
 ⟨some 29,.prim .slen [(.t 28)],(some (27,false)),true⟩,
 ⟨some 30,.bin .gtr (.t 29) (.k (.c (.int .i64 32))),(some (27,false)),true⟩,
 ⟨some 31,.pick (.t 27) (.k (.c (.bool true))) (.t 30),none,true⟩,
 ⟨some 32,.mv (.t 31),none,true⟩,
 ⟨some 33,.mv (.t 7),(some (32,false)),true⟩,
 ⟨some 34,.prim .slen [(.t 33)],(some (32,false)),true⟩,
 ⟨some 35,.ld true 1 (.t 6),(some (32,false)),true⟩,
 ⟨some 36,.ia 1 (.t 35) (.k (.c (.int .i64 0))),(some (32,false)),true⟩,
 ⟨some 37,.ld true 1 (.t 36),(some (32,false)),true⟩,
 ⟨some 38,.len (.t 37),(some (32,false)),true⟩,
 ⟨some 39,.bin .neq (.t 34) (.t 38),(some (32,false)),true⟩,
 ⟨some 40,.pick (.t 32) (.k (.c (.bool true))) (.t 39),none,true⟩,
 ⟨some 41,.mv (.t 40),none,true⟩,
 ⟨some 42,.ld true 1 (.t 6),(some (41,false)),true⟩,
 ⟨some 43,.len (.t 42),(some (41,false)),true⟩,
 ⟨some 44,.bin .gtr (.t 43) (.k (.c (.int .i64 41))),(some (41,false)),true⟩,
 ⟨some 45,.pick (.t 41) (.k (.c (.bool true))) (.t 44),none,true⟩]
abbrev o48_10:List Ins:=[⟨none,.st 1 (.t 2) (.k (.c (.raw (.slice none 0 0)))),none,true⟩,
 ⟨none,.st 1 (.t 3) (.k (.c (.int .i64 140))),none,true⟩]
abbrev v48_11:VC:=(.seq (.ops o48_10) .ret)
abbrev v48_12:VC:=(.cond (.t 45) v48_11 .skip)
abbrev o48_13:List Ins:=[⟨some 46,.mv (.t 7),none,true⟩,
 ⟨some 47,.prim .slen [(.t 46)],none,true⟩,
 ⟨some 48,.mv (.k (.c (.int .i64 0))),none,true⟩]
abbrev o48_14:List Ins:=[⟨some 49,.bin .lss (.t 48) (.t 47),none,true⟩]
abbrev o48_15:List Ins:=[⟨some 50,.mv (.t 48),none,true⟩,
 ⟨some 8,.mv (.t 50),none,true⟩]
abbrev o48_16:List Ins:=[⟨some 51,.mv (.t 7),none,true⟩,
 ⟨some 52,.mv (.t 8),none,true⟩,
 ⟨some 53,.prim .sidx [(.t 51),(.t 52)],none,true⟩,
 ⟨some 54,.bin .neq (.t 53) (.k (.c (.int .u8 63))),none,true⟩,
 ⟨some 55,.mv (.t 54),none,true⟩,
 ⟨some 56,.mv (.t 7),(some (55,true)),true⟩,
 ⟨some 57,.mv (.t 8),(some (55,true)),true⟩,
 ⟨some 58,.prim .sidx [(.t 56),(.t 57)],(some (55,true)),true⟩,
 ⟨some 59,.call (.k (.fn 79 [])) [(.t 58)],(some (55,true)),true⟩,
 ⟨some 60,.bin .lss (.t 59) (.k (.c (.int .i64 0))),(some (55,true)),true⟩,
 ⟨some 61,.pick (.t 55) (.t 60) (.k (.c (.bool false))),none,true⟩]
abbrev o48_17:List Ins:=[⟨none,.st 1 (.t 2) (.k (.c (.raw (.slice none 0 0)))),none,true⟩,
 ⟨none,.st 1 (.t 3) (.k (.c (.int .i64 140))),none,true⟩]
abbrev v48_18:VC:=(.seq (.ops o48_17) .ret)
abbrev v48_19:VC:=(.cond (.t 61) v48_18 .skip)
abbrev v48_20:VC:=(.seq (.ops o48_16) v48_19)
abbrev v48_21:VC:=(.seq (.ops o48_15) v48_20)
abbrev o48_22:List Ins:=[⟨some 62,.bin .add (.t 48) (.k (.c (.int .i64 1))),none,true⟩,
 ⟨some 48,.mv (.t 62),none,true⟩]
abbrev v48_23:VC:=(.seq (.block 3 v48_21) (.ops o48_22))
abbrev v48_24:VC:=(.seq (.cond (.t 49) .skip (.exit 2)) v48_23)
abbrev v48_25:VC:=(.seq (.ops o48_14) v48_24)
-- K48_2: changed and kept: [48]
abbrev v48_26:VC:=(.loop v48_25)
abbrev v48_27:VC:=(.block 2 v48_26)
abbrev v48_28:VC:=(.seq (.ops o48_13) v48_27)
abbrev v48_29:VC:=(.seq (.seq (.ops o48_9) v48_12) v48_28)
abbrev v48_30:VC:=(.seq (.ops o48_8) v48_29)
abbrev v48_31:VC:=(.block 1 v48_30)
abbrev o48_32:List Ins:=[⟨some 7,.mv (.t 18),none,true⟩]
abbrev v48_33:VC:=(.rng (.t 17) [18] (.ops o48_32) v48_31)
abbrev v48_34:VC:=(.block 0 v48_33)
abbrev o48_35:List Ins:=[⟨some 63,.ld true 1 (.t 6),none,true⟩,
 ⟨none,.st 1 (.t 2) (.t 63),none,true⟩,
 ⟨none,.st 1 (.t 3) (.k (.c (.int .i64 0))),none,true⟩]
abbrev v48_36:VC:=(.seq (.ops o48_35) .ret)
abbrev v48_37:VC:=(.seq (.seq (.ops o48_7) v48_34) v48_36)
abbrev v48_38:VC:=(.seq (.ops o48_6) v48_37)
abbrev v48_39:VC:=(.seq (.seq (.ops o48_2) v48_5) v48_38)
abbrev v48_40:VC:=(.seq (.ops o48_1) v48_39)
def ir48:FC:=⟨1,64,[.cell 2 true 1,.cell 3 true 1],(.seq (.ops o48_0) v48_40)⟩
theorem c48:compM Tryd.prog [100022,100023] 48 = some ir48:=by kernel_rfl
attribute [local go_sem] Nat.reduceEqDiff Nat.reduceAdd Nat.reduceMul reduceIte Nat.reduceLeDiff Nat.reduceLT Nat.reduceBEq reduceCtorEq
def okB (b:UInt8):Bool:=decide (b.toNat = 63) || decide (0 ≤ valB b)
def okSeg (w k:Nat) (l:List UInt8):Bool:=decide (2 ≤ l.length) && decide (l.length ≤ 32) && decide (l.length = w) && decide (k ≤ 41) && l.all okB
def remF (w:Nat):Nat → List (List UInt8) → List Ent
 | _,[] => []
 | k,l :: t => if okSeg w (k + 1) l then entS l true :: remF w (k + 1) t else [entS l false]
theorem remF_ok (w:Nat):∀ (k:Nat) (l:List (List UInt8)),l ≠ [] → OkRem l (remF w k l)
 | k,[],h => (h rfl).elim
 | k,[x],_ => by
  unfold remF
  split
  ·exact .last x true
  ·exact .stop x []
 | k,x :: y :: t,_ => by
  unfold remF
  split
  ·exact .more x _ _ (remF_ok w (k + 1) (y :: t) (by simp))
  ·exact .stop x _
def nilC:CD:=.raw (.slice none 0 0)
def arrC (arr:Option Value):CD:=match arr with | some v => .raw v | none => .raw (.slice none 0 0)
def objP (rows:List RB) (arr:Option Value):List Ob:=[.box [.c nilC],.box [iv 0],.box [.c (arrC arr)],hold rows arr]
def envP:Nat → AV:=upd (upd (upd e0 2 (.bp 1000 0)) 3 (.bp 1001 0)) 6 (.bp 1002 0)
def badP (l':List Ob):Prop:=∃ rows v,l' = [.box [.c nilC],.box [iv 140],.box [.c (.raw v)],hold rows (some v)]
def PostP (rows:List RB) (l:List UInt8) (ok:Bool) (j:Option Exit) (l':List Ob):Prop :=
 if ok then j = none ∧ ∃ rows' v,rows'.map RB.l = rows.map RB.l ++ [l] ∧ l' = objP rows' (some v) else j = some .ret ∧ badP l'
def headW (rows:List RB) (l:List UInt8):Nat:=match rows with | [] => l.length | r :: _ => r.l.length
theorem prgL_non (d:Nat):∀ j:Nat,AV.prgL d (List.replicate j .non) = List.replicate j .non
 | 0 => rfl
 | j + 1 => by simp only [List.replicate_succ,AV.prgL,AV.prg,prgL_non d j]
theorem cells_one (r:RB) (j:Nat):cellsG RB.cd [r] j = .c (.raw r.val) :: List.replicate j .non:=rfl
theorem cells_snoc (rows:List RB) (r:RB) (j:Nat):cellsG RB.cd (rows ++ [r]) j = cellsG RB.cd rows 0 ++ (.c (.raw r.val) :: List.replicate j .non):=by simp [cellsG,flatG,RB.cd]
theorem rcd_one (r:RB):(r.cd).length = 1:=rfl
theorem okB_eq (b:UInt8):((!(((b.toNat:Int)) == 63)) && decide (valB b < 0)) = !okB b:=by
 unfold okB
 rw [Bool.eq_iff_iff]
 simp
 omega
set_option maxRecDepth 20000 in
set_option maxHeartbeats 8000000 in
theorem roundP {rows:List RB} {arr:Option Value} {l:List UInt8} {w:Nat} (hl:l.length ≤ 100000) (hrl:rows.length ≤ 41) (harr:(rows = [] ∧ arr = none) ∨ (rows ≠ [] ∧ ∃ v,arr = some v)) (hw:headW rows l = w) :
  Rnd Tryd.prog 64 [18] (.ops o48_32) v48_31 envP (entS l (okSeg w (rows.length + 1) l)) (objP rows arr) (PostP rows l (okSeg w (rows.length + 1) l)):=by
 have hmax:maxLen = 9223372036854775807:=rfl
 intro C1 h1 h2 h3 h4
 have hP:=h1
 rw [ownW_upd (by simp [objP])]
 simp only [go_sem,List.zip_cons_cons,List.zip_nil_right,updLo,entS,envP,objP]
 (repeat ((first | refine Va ?_ | refine Vb ?_ | refine Vc ?_ | refine Vd ?_ | refine Ve ?_ | refine Vf ?_); (try simp only [go_sem,hP]); (repeat refine qJ ?_)))
 intro C h1 h2 h3 h4
 replace hP:=h1
 refine WV_block ?_
 -- the state behind the first region
 have tail:∀ (b o:Nat) (rcap cap j:Nat),rows.length + 1 ≤ cap → cap ≤ maxLen → cap ≤ rows.length + 1 + j →
   WV C v48_29 (inQ 1 fun ex σ2 => ∃ j l',jumpOf ex = some j ∧ KeepL (objP rows arr) [] σ2 l' ∧ PostP rows l (okSeg w (rows.length + 1) l) j l')
    (⟨upd (upd (upd (upd e0 2 (.bp 1000 0)) 3 (.bp 1001 0)) 6 (.bp 1002 0)) 7 (sv l),upd (upd (upd (upd (upd o0 1000 (.box [.c nilC])) 1001 (.box [iv 0])) 1002 (.box [.vw 1 23 0 (rows.length + 1) cap])) 23 (.box (cellsG RB.cd (rows ++ [⟨b,o,l,rcap⟩]) j))) 1003 (hold (rows ++ [⟨b,o,l,rcap⟩]) none)⟩ : V.St):=by
  intro b o rcap cap j k1 k2 k3
  obtain ⟨b0,o0,c0,X,hc0⟩ : ∃ b0 o0 c0 X,cellsG RB.cd (rows ++ [⟨b,o,l,rcap⟩]) j = .c (.raw (.slice (some ⟨b0,o0,none⟩) w c0)) :: X:=by
   cases rows with
   | nil => simp only [headW] at hw; subst hw; exact ⟨b,o,rcap,_,rfl⟩
   | cons r t => simp only [headW] at hw; subst hw; exact ⟨r.b,r.o,r.cap,_,rfl⟩
  have hgive:∀ {v:VC} {Q:Exit → V.St → Prop} {env:Nat → AV} {own:Nat → Ob},own 1003 = hold (rows ++ [⟨b,o,l,rcap⟩]) none → own 23 = .box (.c (.raw (.slice (some ⟨b0,o0,none⟩) w c0)) :: X) → own 1002 = .box [.vw 1 23 0 (rows.length + 1) cap] →
    (∀ x,WV C v Q ⟨env,upd (upd (upd own 1002 (.box [.c (.raw x)])) 23 .none) 1003 (hold (rows ++ [⟨b,o,l,rcap⟩]) (some x))⟩) → WV C v Q ⟨env,own⟩:=by
   intro v Q env own e1 e2 e3 e4
   exact WV_giveB 1003 23 1002 (j:=j) (cap:=cap) (rows:=rows ++ [⟨b,o,l,rcap⟩]) (by decide) e1 (by rw [hc0]; exact e2) (by decide) (by decide) (by rw [List.length_append]; exact e3) (by simp) (by simp; omega) e4
  have hmap:(rows ++ [(⟨b,o,l,rcap⟩ : RB)]).map RB.l = rows.map RB.l ++ [l]:=by simp
  rw [hc0]
  generalize hrr:rows ++ [(⟨b,o,l,rcap⟩ : RB)] = rows' at hgive hmap
  have hkeep:∀ (n:Int) (x:Value) (env:Nat → AV) (own:Nat → Ob),own 1000 = .box [.c nilC] → own 1001 = .box [iv n] → own 1002 = .box [.c (.raw x)] → own 1003 = hold rows' (some x) → KeepL (objP rows arr) [] ⟨env,own⟩ [.box [.c nilC],.box [iv n],.box [.c (.raw x)],hold rows' (some x)]:=by
   intro n x env own e1 e2 e3 e4
   refine KeepL_mk rfl rfl ?_ trivial rfl
   simp only [keepAll,Nat.reduceAdd,e1,e2,e3,e4,hold,Ob.keepP,AV.keepP,AV.keepPL,Option.map_some,and_self]
  have hbad:okSeg w (rows.length + 1) l = false → ∀ (x:Value) (env:Nat → AV) (own:Nat → Ob),own 1000 = .box [.c nilC] → own 1001 = .box [iv 140] → own 1002 = .box [.c (.raw x)] → own 1003 = hold rows' (some x) → ∃ jj l',jumpOf .ret = some jj ∧ KeepL (objP rows arr) [] ⟨env,own⟩ l' ∧ PostP rows l (okSeg w (rows.length + 1) l) jj l':=by
   intro hf x env own e1 e2 e3 e4
   refine ⟨some .ret,_,rfl,hkeep 140 x env own e1 e2 e3 e4,?_⟩
   unfold PostP
   rw [hf]
   exact ⟨rfl,rows',x,rfl⟩
  refine WV_seq_ (WV_seq_ ?_)
  (refine WV_op ?_; simp only [go_sem,hP,List.getD_cons_zero,List.length_cons,hold]; (repeat refine qJ ?_))
  (refine WV_cond rfl (fun h => ?_) (fun h => ?_))
  ·have hf:okSeg w (rows.length + 1) l = false:=by
    unfold okSeg
    rw [Bool.eq_false_iff]
    intro hc
    simp only [Bool.and_eq_true,decide_eq_true_eq] at hc
    obtain ⟨⟨⟨⟨q1,q2⟩,q3⟩,q4⟩,_⟩:=hc
    simp [q3] at h
    omega
   (repeat ((first | refine Va ?_ | refine Vb ?_ | refine Vc ?_ | refine Vd ?_ | refine Ve ?_ | refine Vf ?_); (try simp only [go_sem,hP,hold]); (repeat refine qJ ?_)))
   refine hgive (by rfl) (by rfl) (by rfl) fun x => ?_
   refine WV_ret ?_
   exact hbad hf x _ _ (by rfl) (by rfl) (by rfl) (by rfl)
  ·have hh:2 ≤ l.length ∧ l.length ≤ 32 ∧ l.length = w ∧ rows.length + 1 ≤ 41:=by
    simp at h
    omega
   (refine WV_skip ?_; simp only [go_sem])
   refine WV_keep [2,3,6,7] ?_
   simp only [go_sem]
   (repeat ((first | refine Va ?_ | refine Vb ?_ | refine Vc ?_ | refine Vd ?_ | refine Ve ?_ | refine Vf ?_); (try simp only [go_sem,hP]); (repeat refine qJ ?_)))
   refine WV_loopS (fun i:Nat => ⟨upd (upd (upd (upd (upd (upd e0 2 (.bp 1000 0)) 3 (.bp 1001 0)) 6 (.bp 1002 0)) 7 (sv l)) 47 (iv l.length)) 48 (iv i),upd (upd (upd (upd (upd V.o0 1000 (.box [.c nilC])) 1001 (.box [iv 0])) 1002 (.box [.vw 1 23 0 (rows.length + 1) cap])) 23 (.box (.c (.raw (.slice (some ⟨b0,o0,none⟩) w c0)) :: X))) 1003 (hold rows' none)⟩) (fun i => i ≤ l.length ∧ ∀ k (hk:k < l.length),k < i → okB l[k] = true) (fun i => l.length - i) 0 ⟨Nat.zero_le _,fun _ _ h => by omega⟩ ?_ ?_
   ·simp only [hold]
    exact Sub_au
   ·intro i ⟨hi1,hi2⟩
    (repeat ((first | refine Va ?_ | refine Vb ?_ | refine Vc ?_ | refine Vd ?_ | refine Ve ?_ | refine Vf ?_); (try simp only [go_sem,hP]); (repeat refine qJ ?_)))
    (refine WV_cond rfl (fun h => ?_) (fun h => ?_))
    ·have hi:i < l.length:=by simpa using h
     have hw2:=w64 (n:=(i:Int) + 1) (by omega) (by omega)
     (repeat ((first | refine Va ?_ | refine Vb ?_ | refine Vc ?_ | refine Vd ?_ | refine Ve ?_ | refine Vf ?_); (try simp only [go_sem,hP,Int.toNat_natCast,Int.ofNat_lt,hi,Int.natCast_nonneg,str_at hi]); (repeat refine qJ ?_)))
     (refine AG_pu (fun hG => value79 l[i]) ?_; simp only [go_sem,hP]; (repeat refine qJ ?_); (repeat ((first | refine Va ?_ | refine Vb ?_ | refine Vc ?_ | refine Vd ?_ | refine Ve ?_ | refine Vf ?_); (try simp only [go_sem,hP]); (repeat refine qJ ?_))))
     (refine WV_cond rfl (fun h => ?_) (fun h => ?_))
     ·have hnb:okB l[i] = false:=by
       have:=okB_eq l[i]
       rw [show (((l[i]).toNat:Int) != 63) = !(((l[i]).toNat:Int) == 63) from rfl,this] at h
       simpa using h
      have hf:okSeg w (rows.length + 1) l = false:=by
       unfold okSeg
       rw [all_not (k:=i) (by assumption) hnb,Bool.and_false]
      (repeat ((first | refine Va ?_ | refine Vb ?_ | refine Vc ?_ | refine Vd ?_ | refine Ve ?_ | refine Vf ?_); (try simp only [go_sem,hP,hold]); (repeat refine qJ ?_)))
      refine hgive (by rfl) (by rfl) (by rfl) fun x => ?_
      refine WV_ret ?_
      exact hbad hf x _ _ (by rfl) (by rfl) (by rfl) (by rfl)
     ·have hnb:okB l[i] = true:=by
       have:=okB_eq l[i]
       rw [show (((l[i]).toNat:Int) != 63) = !(((l[i]).toNat:Int) == 63) from rfl,this] at h
       simpa using h
      (repeat ((first | refine Va ?_ | refine Vb ?_ | refine Vc ?_ | refine Vd ?_ | refine Ve ?_ | refine Vf ?_); (try simp only [go_sem,hP,hw2]); (repeat refine qJ ?_)))
      refine ⟨i + 1,⟨by omega,fun k hk hki => ?_⟩,by omega,?_⟩
      ·rcases Nat.lt_or_ge k i with h1 | h1
       ·exact hi2 k hk h1
       ·have:k = i:=by omega
        subst this
        exact hnb
      ·simp only [hold]
       exact Sub_au
    ·have hi:i = l.length:=by simp at h; omega
     subst hi
     refine hgive (by rfl) (by rfl) (by rfl) fun x => ?_
     refine WV_exit ?_
     have hok:okSeg w (rows.length + 1) l = true:=by
      unfold okSeg
      simp only [Bool.and_eq_true,decide_eq_true_eq]
      exact ⟨⟨⟨⟨hh.1,hh.2.1⟩,hh.2.2.1⟩,hh.2.2.2⟩,all_take fun k hk => hi2 k hk hk⟩
     refine ⟨none,_,rfl,hkeep 0 x _ _ (by rfl) (by rfl) (by rfl) (by rfl),?_⟩
     unfold PostP
     rw [hok]
     exact ⟨rfl,rows',x,hmap,rfl⟩
 rcases harr with ⟨rfl,rfl⟩ | ⟨hne,v,rfl⟩
 ·refine WV_seq_ ?_
  (refine WV_split 3 ?_; simp only [List.take_succ_cons,List.take_zero,List.take_nil,List.drop_succ_cons,List.drop_zero,List.drop_nil]; simp only [go_sem,hP,arrC,hold]; (repeat refine qJ ?_))
  refine raw_sb (x':=.t 20) (e:=5) (by kernel_rfl) (by kernel_rfl) (by kernel_rfl) rfl rfl rfl rfl (by omega) ?_
  intro cap j k1 k2 k3
  simp only [go_sem,prg_cellsG,hold]
  refine SOps_absorb 1003 21 21 (rows:=[]) (by decide) rfl rfl rfl k3 ?_
  intro b o
  (refine SOps_ops ?_; simp only [go_sem,hP,RB.val,hold,prgL_non]; (repeat refine qJ ?_))
  intro cap1 j1 q1 q2 q3
  refine WV_sub ?_ (tail b o cap cap1 j1 (by simpa using q1) q2 (by simp; omega))
  simp only [List.nil_append,cells_one,hold,List.length_nil,RB.val]
  exact Sub_au
 ·refine WV_takeB 1003 601 1002 (by decide) rfl rfl (by decide) (by decide) (by decide) rfl ?_
  intro cap0 j0 p1 p2 p3
  simp only [go_sem,hold]
  refine WV_seq_ ?_
  (refine WV_split 3 ?_; simp only [List.take_succ_cons,List.take_zero,List.take_nil,List.drop_succ_cons,List.drop_zero,List.drop_nil]; simp only [go_sem,hP,hold]; (repeat refine qJ ?_))
  refine raw_sb (x':=.t 20) (e:=5) (by kernel_rfl) (by kernel_rfl) (by kernel_rfl) rfl rfl rfl rfl (by omega) ?_
  intro cap j k1 k2 k3
  simp only [go_sem,prg_cellsG,hold]
  refine SOps_absorb 1003 21 21 (rows:=rows) (by decide) rfl rfl rfl k3 ?_
  intro b o
  have hcl:(cellsG RB.cd rows j0).length = rows.length + j0:=by rw [cellsG_len rcd_one]; omega
  have htk:(cellsG RB.cd rows j0).take (rows.length * 1) = cellsG RB.cd rows 0:=cellsG_take rcd_one rows j0
  rw [Nat.mul_one] at htk
  have hz:∀ j1,AV.prgL 23 (cellsG RB.cd rows 0 ++ [.c (.raw (.slice (some ⟨b,o,none⟩) l.length cap))] ++ List.replicate j1 .non) = cellsG RB.cd (rows ++ [⟨b,o,l,cap⟩]) j1:=fun j1 => by
   have e:cellsG RB.cd rows 0 ++ [.c (.raw (.slice (some ⟨b,o,none⟩) l.length cap))] ++ List.replicate j1 .non = cellsG RB.cd (rows ++ [⟨b,o,l,cap⟩]) j1:=by rw [cells_snoc,List.append_assoc]; rfl
   rw [e,prg_cellsG]
  (refine SOps_ops ?_; simp only [go_sem,hP,RB.val,hold,prgL_non,prg_cellsG,hcl,htk,Nat.mul_one,hz]; (repeat refine qJ ?_))
  intro cap1 j1 q1 q2 q3
  refine WV_sub ?_ (tail b o cap cap1 j1 q1 q2 q3)
  simp only [hold]
  exact Sub_au
end Go.Proofs.YtlmfdmlochpfcaaDoor

namespace Go.Proofs.YtlmfdmlochpfcaaDoor
open Go Go.V
attribute [local go_sem] Nat.reduceEqDiff Nat.reduceAdd Nat.reduceMul reduceIte Nat.reduceLeDiff Nat.reduceLT Nat.reduceBEq reduceCtorEq
def allOk (w:Nat):Nat → List (List UInt8) → Bool
 | _,[] => true
 | k,l :: t => okSeg w (k + 1) l && allOk w (k + 1) t
def parseP (s:List UInt8):Option (List (List UInt8)) :=
 if endsB s 10 then (if allOk ((segB 10 s.dropLast).headD []).length 0 (segB 10 s.dropLast) then some (segB 10 s.dropLast) else none) else none
def FinP (w:Nat) (segs:List (List UInt8)) (pend:Option Exit) (lf:List Ob):Prop :=
 (pend = none ∧ allOk w 0 segs = true ∧ ∃ rows v,rows.map RB.l = segs ∧ lf = objP rows (some v)) ∨ (pend = some .ret ∧ allOk w 0 segs = false ∧ badP lf)
theorem objP_solid (rows:List RB) (arr:Option Value):(objP rows arr).all (Ob.solid (objP rows arr).length) = true:=rfl
theorem runP (w:Nat) (segs:List (List UInt8)) (hlen:∀ l ∈ segs,l.length ≤ 100000) (hw:(segs.headD []).length = w):∀ (t:List (List UInt8)) (rows:List RB) (arr:Option Value),segs = rows.map RB.l ++ t → allOk w 0 segs = allOk w rows.length t → rows.length ≤ 41 → (t = [] → rows ≠ []) →
  ((rows = [] ∧ arr = none) ∨ (rows ≠ [] ∧ ∃ v,arr = some v)) → RunR Tryd.prog 64 [18] (.ops o48_32) v48_31 envP (FinP w segs) (remF w rows.length t) (objP rows arr)
 | [],rows,arr,h1,h2,_,h4,h5 => by
  rcases h5 with ⟨h,_⟩ | ⟨_,v,rfl⟩
  ·exact (h4 rfl h).elim
  ·exact ⟨objP_solid _ _,.inl ⟨rfl,h2,rows,v,by simpa using h1.symm,rfl⟩⟩
 | l :: t,rows,arr,h1,h2,h3,_,h5 => by
  have hml:l ∈ segs:=by rw [h1]; simp
  have hw':headW rows l = w:=by
   rw [← hw,h1]
   cases rows <;> rfl
  have hr:=roundP (hlen l hml) h3 h5 hw'
  unfold remF
  by_cases hok:okSeg w (rows.length + 1) l = true
  ·rw [if_pos hok]
   rw [hok] at hr
   refine ⟨objP_solid _ _,rfl,true,rfl,?_⟩
   intro C k1 k2 k3 k4
   refine (hr C k1 k2 k3 k4).mono fun ex σ1 hq => ⟨hq.1,fun C' q1 q2 q3 q4 => (hq.2 C' q1 q2 q3 q4).mono fun ex σ2 hq => ?_⟩
   obtain ⟨j,l',m1,m2,m3⟩:=hq
   unfold PostP at m3
   rw [if_pos rfl] at m3
   obtain ⟨rfl,rows',v,m4,rfl⟩:=m3
   have hlr:rows'.length = rows.length + 1:=by have:=congrArg List.length m4; simpa using this
   refine ⟨none,_,m1,m2,.inl ⟨rfl,rfl,?_⟩⟩
   have hne:rows' ≠ []:=fun h => by rw [h] at hlr; simp at hlr
   have:=runP w segs hlen hw t rows' (some v) (by rw [m4,h1]; simp) (by rw [h2,hlr]; simp only [allOk,hok,Bool.true_and]) (by
    unfold okSeg at hok
    simp only [Bool.and_eq_true,decide_eq_true_eq] at hok
    omega) (fun _ => hne) (.inr ⟨hne,v,rfl⟩)
   rw [hlr] at this
   exact this
  ·have hok':okSeg w (rows.length + 1) l = false:=by simpa using hok
   rw [if_neg hok]
   rw [hok'] at hr
   refine ⟨objP_solid _ _,rfl,false,rfl,?_⟩
   intro C k1 k2 k3 k4
   refine (hr C k1 k2 k3 k4).mono fun ex σ1 hq => ⟨hq.1,fun C' q1 q2 q3 q4 => (hq.2 C' q1 q2 q3 q4).mono fun ex σ2 hq => ?_⟩
   obtain ⟨j,l',m1,m2,m3⟩:=hq
   unfold PostP at m3
   rw [if_neg (by simp)] at m3
   obtain ⟨rfl,m4⟩:=m3
   have hb:=m4
   obtain ⟨rows',v,rfl⟩:=m4
   exact ⟨_,_,m1,m2,.inr ⟨.ret,rfl,rfl,rfl,rfl,.inr ⟨rfl,by rw [h2]; simp only [allOk,hok',Bool.false_and],hb⟩⟩⟩
theorem allOk_len (w:Nat):∀ (k:Nat) (t:List (List UInt8)),allOk w k t = true → t.length = 0 ∨ k + t.length ≤ 41
 | k,[],_ => .inl rfl
 | k,l :: t,h => by
  simp only [allOk,Bool.and_eq_true] at h
  have h1:=h.1
  unfold okSeg at h1
  simp only [Bool.and_eq_true,decide_eq_true_eq] at h1
  rcases allOk_len w (k + 1) t h.2 with h2 | h2
  ·right; simp only [List.length_cons]; omega
  ·right; simp only [List.length_cons]; omega
def PostParse (s:List UInt8) (r:AV) (os:List Ob):Prop :=
 match parseP s with
 | none => r = .tup [.c nilC,iv 140] ∧ os = []
 | some segs => ∃ (R:List BRow) (j cap:Nat),R.map Row.l = segs ∧ R.length ≤ cap ∧ cap ≤ maxLen ∧ cap ≤ R.length + j ∧ (∀ r ∈ R,r.l.length ≤ r.cap ∧ r.cap ≤ maxLen ∧ r.cap ≤ r.l.length + r.j) ∧ r = .tup [.vw 1 1000 0 R.length cap,iv 0] ∧ os = gridL bcd 1 R j
theorem seg_len (b:UInt8):∀ (s:List UInt8),∀ l ∈ segB b s,l.length ≤ s.length
 | [],l,h => by simp [segB] at h; subst h; simp
 | x :: s,l,h => by
  have ih:=seg_len b s
  unfold segB at h
  split at h
  ·rcases List.mem_cons.1 h with rfl | h
   ·simp
   ·have:=ih l h; simp; omega
  ·split at h
   ·rename_i y t e
    rw [e] at ih
    rcases List.mem_cons.1 h with rfl | h
    ·have:=ih y (by simp); simp; omega
    ·have:=ih l (by simp [h]); simp; omega
   ·rcases List.mem_cons.1 h with rfl | h
    ·simp
    ·cases h
theorem ownBack_le (f:Nat → Ob):∀ (L:List Nat) (os:List Ob),ObjLe (ownBack f L os) (ownBack V.o0 L os)
 | [],os => fun n => .inr (by cases os <;> rfl)
 | m :: L,[] => fun n => .inr rfl
 | m :: L,o :: os => fun n => by
  simp only [ownBack,upd]
  split
  ·exact .inl rfl
  ·exact ownBack_le f L os n
set_option maxRecDepth 20000 in
set_option maxHeartbeats 8000000 in
theorem parse48 (s:List UInt8) (hs:s.length ≤ 100000):FSpecN Tryd.prog 48 [sv s] (PostParse s):=by
 have hmax:maxLen = 9223372036854775807:=rfl
 refine FSpecN_ofP c48 (Nat.le_refl _) (by decide) fun C hP hN hC hpin hL => ?_; rw [init_st]
 simp only [ir48]
 (repeat ((first | refine Va ?_ | refine Vb ?_ | refine Vc ?_ | refine Vd ?_ | refine Ve ?_ | refine Vf ?_); (try simp only [go_sem,hP]); (repeat refine qJ ?_)))
 (refine AS_pu (cutsuffix47 s 10 (by omega)) ?_; simp only [go_sem,hP]; (repeat refine qJ ?_); (repeat ((first | refine Va ?_ | refine Vb ?_ | refine Vc ?_ | refine Vd ?_ | refine Ve ?_ | refine Vf ?_); (try simp only [go_sem,hP]); (repeat refine qJ ?_))))
 by_cases he:endsB s 10 = true
 ·rw [he]
  (refine WV_cond rfl (fun h => ?_) (fun h => ?_))
  ·simp at h
  ·have hc:cutB s 10 = s.dropLast:=by unfold cutB; rw [if_pos he]
   rw [hc]
   (repeat ((first | refine Va ?_ | refine Vb ?_ | refine Vc ?_ | refine Vd ?_ | refine Ve ?_ | refine Vf ?_); (try simp only [go_sem,hP]); (repeat refine qJ ?_)))
   refine AS_new (splitseq78 s.dropLast [10]) rfl rfl rfl rfl ?_
   rintro r os ⟨rfl,rfl⟩
   refine ⟨[610,611,612],_,_,by decide,rfl,rfl,rfl,rfl,?_⟩
   simp only [go_sem,hP,ownBack]
   refine WV_block ?_
   refine WV_hold0 600 rfl (by decide) ?_
   refine WV_keep [2,3,6,17] ?_
   simp only [go_sem,hold]
   have hpp:parseP s = if allOk ((segB 10 s.dropLast).headD []).length 0 (segB 10 s.dropLast) then some (segB 10 s.dropLast) else none:=by unfold parseP; rw [if_pos he]
   generalize hsg:segB 10 s.dropLast = segs at hpp
   have hsne:segs ≠ []:=by rw [← hsg]; exact segB_ne _ _
   have hslen:∀ l ∈ segs,l.length ≤ 100000:=fun l hl => by
    rw [← hsg] at hl
    have:=seg_len 10 _ l hl
    rw [List.length_dropLast] at this
    omega
   generalize hwd:(segs.headD []).length = w at hpp
   have hrun:=runP w segs hslen hwd segs [] none rfl rfl (by simp) (fun h => (hsne h).elim) (.inl ⟨rfl,rfl⟩)
   refine WV_rngC hC (L:=[2,3,6,600]) (L2:=[610,611,612]) (l:=objP [] none) (l2:=[.box [sv [10]],.box [sv s.dropLast],.box [iv 0]]) (env':=envP) (rem:=remF w 0 segs) (Fin:=FinP w segs) rfl rfl rfl (by decide) rfl (by decide) ?_ ?_ (by decide) rfl (by rw [hN]; decide) ?_ (fun g' => ?_) (by rw [hP,hN]; exact hrun) ?_
   ·intro i n hi
    match i,hi with
    | 0,hi => simp at hi; subst hi; rfl
    | 1,hi => simp at hi; subst hi; rfl
    | 2,hi => simp at hi; subst hi; rfl
    | i + 3,hi => simp at hi
   ·intro o ho
    simp only [List.mem_cons,List.not_mem_nil,or_false] at ho
    rcases ho with rfl | rfl | rfl <;> exact ⟨_,rfl,rfl⟩
   ·intro t
    unfold envP
    simp only [upd]
    split
    ·rename_i h; subst h; exact .inr rfl
    ·split
     ·rename_i h; subst h; exact .inr rfl
     ·split
      ·rename_i h; subst h; exact .inr rfl
      ·exact .inl rfl
   ·rw [hP]
    refine ⟨_,split104 g' 10 (by rw [List.length_dropLast]; omega) (rem:=remF w 0 segs) (by rw [hsg]; exact remF_ok w 0 segs hsne),?_⟩
    rintro r l' ⟨_,s',rfl⟩
    exact ⟨_,rfl⟩
   ·rintro pend lf (⟨rfl,hok,rows,v,hrows,rfl⟩ | ⟨rfl,hok,rows,v,rfl⟩)
    ·rw [hok,if_pos rfl] at hpp
     refine ⟨[.box [.c nilC],.box [iv 0],.box [.c (.raw v)],hold rows (some v)],rfl,rfl,?_⟩
     refine WV_sub (σ':=⟨upd (upd (upd e0 6 (.bp 6 0)) 3 (.bp 3 0)) 2 (.bp 2 0),ownBack V.o0 [2,3,6,600] [.box [.c nilC],.box [iv 0],.box [.c (.raw v)],hold rows (some v)]⟩) (Sub_of (by exact EnvLe_au) (ownBack_le _ _ _)) ?_
     simp only [go_sem,ownBack,hold]
     (repeat ((first | refine Va ?_ | refine Vb ?_ | refine Vc ?_ | refine Vd ?_ | refine Ve ?_ | refine Vf ?_); (try simp only [go_sem,hP]); (repeat refine qJ ?_)))
     have hrne:rows ≠ []:=fun h => by rw [h] at hrows; exact hsne hrows.symm
     have hgn:∀ n ∈ gnum rows.length,1000 ≤ n:=fun n hn => by
      simp only [gnum,List.mem_append,List.mem_singleton] at hn
      rcases hn with rfl | hn
      ·exact Nat.le_refl _
      ·have:=rng_mem hn; omega
     refine WV_explode 600 2 (rows:=rows) (x:=v) rfl (by decide) (by decide) (by decide) rfl (fun n hn => ⟨hpin n,?_⟩) ?_ ?_ ?_
     ·have:=hgn n hn
      simp only [upd_app,o0_app]
      rw [if_neg (by omega),if_neg (by omega),if_neg (by omega),if_neg (by omega),if_neg (by omega),if_neg (by omega)]
      rfl
     ·refine prgEs_stay fun n hn => ?_
      have:=hgn n hn
      obtain ⟨k,rfl⟩ : ∃ k,n = k + 1000:=⟨n - 1000,by omega⟩
      simp only [prgE_upd',prgE_e0,AV.prg,ne_add (show (6:Nat) < 1000 by decide),ne_add (show (3:Nat) < 1000 by decide),ne_add (show (2:Nat) < 1000 by decide),if_false]
     ·refine prgOs_stay fun n hn => ?_
      simp only [prgO_upd,prgO_o0,Ob.prg,AV.prg,AV.prgL]
     ·intro R j cap hR k1 k2 k3 k4
      refine WV_ret ?_
      simp only [thenQ,inQ,RetQN,RetOkN,resAll,resA]
      have hRl:R.length = segs.length:=by rw [← hrows]; have:=congrArg List.length hR; simpa using this
      have hal:=allOk_len w 0 segs hok
      simp only [go_sem,tupA,gown_lo]
      refine ⟨gnum R.length,.tup [.vw 1 1000 0 R.length cap,iv 0],_,_,gnum_nodup _,by rw [gnum_len]; omega,?_,AVle.refl _,obsLend_grid (by omega),?_⟩
      ·rw [AV.lend]
       simp only [AV.lendL]
       rw [lend_grid]
       rfl
      ·unfold PostParse
       rw [hpp]
       exact ⟨R,j,cap,hR.trans hrows,k1,k2,k3,k4,rfl,rfl⟩
    ·rw [hok,if_neg (by simp)] at hpp
     refine ⟨[.box [.c nilC],.box [iv 140],.box [.c (.raw v)],hold rows (some v)],rfl,rfl,?_⟩
     simp only [exitOf,thenQ,inQ,RetQN,RetOkN,resAll,resA]
     simp only [go_sem,ownBack,tupA]
     refine ⟨[],_,_,_,List.nodup_nil,by simp,rfl,AVle.refl _,rfl,?_⟩
     unfold PostParse
     rw [hpp]
     exact ⟨rfl,rfl⟩
 ·have he':endsB s 10 = false:=by simpa using he
  rw [he']
  have hp:parseP s = none:=by unfold parseP; rw [if_neg he]
  (refine WV_cond rfl (fun h => ?_) (fun h => ?_))
  ·(repeat ((first | refine Va ?_ | refine Vb ?_ | refine Vc ?_ | refine Vd ?_ | refine Ve ?_ | refine Vf ?_); (try simp only [go_sem,hP]); (repeat refine qJ ?_)))
   refine WV_ret ?_
   simp only [thenQ,inQ,RetQN,RetOkN,resAll,resA]
   simp only [go_sem,tupA]
   refine ⟨[],_,_,_,List.nodup_nil,by simp,rfl,AVle.refl _,rfl,?_⟩
   unfold PostParse
   rw [hp]
   exact ⟨rfl,rfl⟩
  ·simp at h
end Go.Proofs.YtlmfdmlochpfcaaDoor

namespace Go.Proofs.YtlmfdmlochpfcaaDoor
open Go Go.V
attribute [local go_sem] Nat.reduceEqDiff Nat.reduceAdd Nat.reduceMul reduceIte Nat.reduceLeDiff Nat.reduceLT Nat.reduceBEq reduceCtorEq
theorem okB_ok {b:UInt8} (h:okB b = true):BOk b:=by
 unfold okB valB at h
 unfold BOk
 simp only [Bool.or_eq_true,decide_eq_true_eq] at h
 rcases h with h | h
 ·omega
 ·split at h
  ·omega
  ·omega
structure SOk (rows:List (List UInt8)) (w:Nat):Prop where
 pos:0 < rows.length
 len:rows.length ≤ 41
 w2:2 ≤ w
 w32:w ≤ 32
 row:∀ l ∈ rows,l.length = w
 byte:∀ l ∈ rows,∀ b ∈ l,BOk b
theorem allOk_row (w:Nat):∀ (k:Nat) (t:List (List UInt8)),allOk w k t = true → ∀ l ∈ t,(2 ≤ l.length ∧ l.length ≤ 32 ∧ l.length = w) ∧ ∀ b ∈ l,BOk b
 | k,[],_,l,hl => by cases hl
 | k,x :: t,h,l,hl => by
  simp only [allOk,Bool.and_eq_true] at h
  rcases List.mem_cons.1 hl with rfl | hl
  ·have h1:=h.1
   unfold okSeg at h1
   simp only [Bool.and_eq_true,decide_eq_true_eq] at h1
   obtain ⟨⟨⟨⟨q1,q2⟩,q3⟩,q4⟩,q5⟩:=h1
   exact ⟨⟨q1,q2,q3⟩,fun b hb => okB_ok (List.all_eq_true.1 q5 b hb)⟩
  ·exact allOk_row w (k + 1) t h.2 l hl
theorem parse_ok {s:List UInt8} {rows:List (List UInt8)} (h:parseP s = some rows):SOk rows (rows.headD []).length:=by
 unfold parseP at h
 split at h
 ·split at h
  ·rename_i h1
   simp only [Option.some.injEq] at h
   subst h
   generalize hsg:segB 10 s.dropLast = segs at h1
   have hne:segs ≠ []:=by rw [← hsg]; exact segB_ne _ _
   have hal:=allOk_len _ 0 segs h1
   have har:=allOk_row _ 0 segs h1
   cases segs with
   | nil => exact (hne rfl).elim
   | cons x t =>
    have hx:=(har x (by simp)).1
    refine ⟨by simp,by simp at hal ⊢; omega,hx.1,hx.2.1,fun l hl => (har l hl).1.2.2,fun l hl => (har l hl).2⟩
  ·cases h
 ·cases h
def valsG (rows:List (List UInt8)):List (List Int):=rows.map fun l => l.map vq
def bytesG (g:List (List Int)):List (List UInt8):=g.map fun l => l.map sgn
theorem sgn_vq {b:UInt8} (h:BOk b):sgn (vq b) = b:=by
 have h0:=h
 unfold BOk at h
 by_cases h63:b.toNat = 63
 ·have:b = 63:=UInt8.toNat_inj.1 h63
  subst this; rfl
 ·have hr:=vq_rng h0
  have hne:vq b ≠ -1:=fun hc => h63 ((vq_lost h0).1 hc)
  have:=sgn_nat (n:=vq b) (by omega)
  apply UInt8.toNat_inj.1
  unfold vq valB at this ⊢
  rw [if_neg h63,if_neg (by omega)] at this ⊢
  split at this <;> rename_i h1
  ·rw [if_pos h1]
   split at this <;> omega
  ·rw [if_neg h1]
   split at this <;> omega
theorem bytes_vals {rows:List (List UInt8)} (h:∀ l ∈ rows,∀ b ∈ l,BOk b):bytesG (valsG rows) = rows:=by
 unfold bytesG valsG
 rw [List.map_map]
 conv => rhs; rw [← List.map_id rows]
 refine List.map_congr_left fun l hl => ?_
 simp only [Function.comp,List.map_map,id]
 conv => rhs; rw [← List.map_id l]
 exact List.map_congr_left fun b hb => sgn_vq (h l hl b hb)
theorem gv_vals (R:List BRow):gv R = valsG (R.map Row.l):=by simp [gv,valsG]
theorem SOk.rok {R:List BRow} {w:Nat} (h:SOk (R.map Row.l) w):ROk R w ∧ BRs R:=by
 have hm:∀ i (hi:i < R.length),(R[i]).l ∈ R.map Row.l:=fun i hi => List.mem_map_of_mem (List.getElem_mem hi)
 exact ⟨⟨by simpa using h.len,h.w32,fun i hi => h.row _ (hm i hi)⟩,fun i hi k hk => h.byte _ (hm i hi) _ (List.getElem_mem hk)⟩
theorem BRs.mem {R:List BRow} (h:BRs R):∀ l ∈ R.map Row.l,∀ b ∈ l,BOk b:=by
 intro l hl b hb
 obtain ⟨r,hr,rfl⟩:=List.mem_map.1 hl
 obtain ⟨i,hi,rfl⟩:=List.getElem_of_mem hr
 obtain ⟨k,hk,rfl⟩:=List.getElem_of_mem hb
 exact h i hi k hk
def sheetG (rows:List (List UInt8)):List (List Int):=restG rows.length (rows.headD []).length (valsG rows)
def noLost (n w:Nat) (g:List (List Int)):Bool:=(allP n w).all fun l => (lostL g l).length == 0
def noLack (n w:Nat) (g:List (List Int)):Bool:=(allP n w).all fun l => lackL g l == 0
def wholeG (s:List UInt8):List (List Int) × Int:=match parseP s with
 | none => ([],140)
 | some rows => if noLost rows.length (rows.headD []).length (sheetG rows) then (sheetG rows,if noLack rows.length (rows.headD []).length (sheetG rows) then 0 else 142) else ([],141)
theorem restore56 {R:List BRow} {w:Nat} (hR:ROk R w) (hb:BRs R) (hn:0 < R.length) {j gcap:Nat}:FSpecL Tryd.prog 56 [.vw 1 1000 0 R.length gcap] (gridL bcd 1 R j) [] (fun r l' => r = .tup [] ∧ ∃ R',R'.length = R.length ∧ ROk R' w ∧ BRs R' ∧ refs 1001 1 0 R' = refs 1001 1 0 R ∧ gv R' = restG R.length w (gv R) ∧ l' = gridL bcd 1 R' j) :=
 FSpecL_ofB gridL_bx fun bs => restore56B bs hR hb hn
theorem SOps_parse {C:Ctx} {d:Option Nat} {f:X} {xs:List X} {t:Bool} {is:List Ins} {K:V.St → Prop} {env:Nat → AV} {own:Nat → Ob} {s:List UInt8} (hP:C.P = Tryd.prog) (hpin:∀ n,¬ C.pin n) (hs:s.length ≤ 100000)
  (h1:(V.St.val ⟨env,own⟩ f).dg = true) (h2:(xs.all fun x => (V.St.val ⟨env,own⟩ x).dg) = true) (h3:(V.St.val ⟨env,own⟩ f).dv = .fn 48 []) (h4:AV.portL own (xs.map (fun x => (V.St.val ⟨env,own⟩ x).dv) ++ []) = some [sv s])
  (hE:∀ n,1000 ≤ n → prgE n env = env) (hO:∀ n,1000 ≤ n → prgO n own = own ∧ own n = .none)
  (k0:parseP s = none → SOps C is K (V.St.put ⟨env,own⟩ d (.tup [.c nilC,iv 140])))
  (k1:∀ (R:List BRow) (j cap:Nat),parseP s = some (R.map Row.l) → R.length ≤ cap → cap ≤ maxLen → SOps C is K (V.St.put ⟨env,gown bcd 1 R j own⟩ d (.tup [.vw 1 1000 0 R.length cap,iv 0]))):SOps C (⟨d,.call f xs,none,t⟩ :: is) K ⟨env,own⟩:=by
 refine SOps_callP ⟨48,[],[sv s],PostParse s,h1,h2,h3,h4,by rw [hP]; exact parse48 s hs,fun r os hp => ?_⟩
 unfold PostParse at hp
 split at hp
 ·rename_i he
  obtain ⟨rfl,rfl⟩:=hp
  exact ⟨[],_,_,List.nodup_nil,rfl,fun n hn => (by cases hn),rfl,rfl,k0 he⟩
 ·rename_i segs he
  obtain ⟨R,j,cap,q1,q2,q3,q4,q5,rfl,rfl⟩:=hp
  refine ⟨gnum R.length,.tup [.vw 1 1000 0 R.length cap,iv 0],gridL bcd 1 R j,gnum_nodup _,by rw [gnum_len,gridL_len],fun n hn => ⟨hpin n,?_⟩,?_,obsBack_grid,?_⟩
  ·show (own n).isNone = true
   rw [(hO n (gnum_ge hn)).2]; rfl
  ·rw [AV.back]
   simp only [AV.backL]
   have e:(AV.vw 1 1000 0 R.length cap).back (gnum R.length) = some (.vw 1 1000 0 R.length cap):=by
    simp only [AV.back]
    rw [if_pos (Nat.le_refl _)]
    rfl
   rw [e]; rfl
  ·have e1:prgEs (gnum R.length) env = env:=prgEs_stay fun n hn => hE n (gnum_ge hn)
   have e2:prgOs (gnum R.length) own = own:=prgOs_stay fun n hn => (hO n (gnum_ge hn)).1
   show SOps C is K (V.St.put ⟨prgEs (gnum R.length) env,ownBack (prgOs (gnum R.length) own) (gnum R.length) (gridL bcd 1 R j)⟩ d _)
   rw [e1,e2,ownBack_new]
   exact k1 R j cap (by rw [he,q1]) q2 q3
end Go.Proofs.YtlmfdmlochpfcaaDoor

namespace Go.Proofs.YtlmfdmlochpfcaaDoor
open Go Go.V
abbrev o44_0:List Ins:=[⟨some 2,.mv (.k (.c (.raw (.slice none 0 0)))),none,true⟩,
 ⟨some 3,.mv (.k (.c (.int .i64 0))),none,true⟩]
abbrev o44_1:List Ins:=[⟨some 12,.mv (.t 0),none,true⟩,
 ⟨some 13,.call (.k (.fn 48 [])) [(.t 12)],none,true⟩,
 ⟨some 11,.mv (.t 13),none,true⟩,
 ⟨some 14,.ext (.t 11) 0,none,true⟩,
 ⟨some 15,.ext (.t 11) 1,none,true⟩,
 ⟨some 4,.mv (.t 14),none,true⟩,
 ⟨some 5,.mv (.t 15),none,true⟩]
abbrev o44_2:List Ins:=[⟨some 16,.mv (.t 5),none,true⟩,
 ⟨some 17,.bin .neq (.t 16) (.k (.c (.int .i64 0))),none,true⟩]
abbrev o44_3:List Ins:=[⟨some 18,.mv (.t 5),none,true⟩,
 ⟨some 2,.mv (.k (.c (.raw (.slice none 0 0)))),none,true⟩,
 ⟨some 3,.mv (.t 18),none,true⟩]
abbrev v44_4:VC:=(.seq (.ops o44_3) .ret)
abbrev v44_5:VC:=(.cond (.t 17) v44_4 .skip)
abbrev o44_6:List Ins:=[⟨some 19,.mv (.t 4),none,true⟩,
 ⟨some 20,.call (.k (.fn 56 [])) [(.t 19)],none,true⟩]
abbrev o44_7:List Ins:=[⟨some 6,.mv (.k (.c (.int .i64 0))),none,true⟩]
abbrev o44_8:List Ins:=[⟨some 21,.mv (.t 4),none,true⟩,
 ⟨some 22,.call (.k (.fn 50 [])) [(.t 21)],none,true⟩,
 ⟨some 23,.len (.t 22),none,true⟩,
 ⟨some 24,.mv (.k (.c (.int .i64 0))),none,true⟩]
abbrev o44_9:List Ins:=[⟨some 25,.bin .lss (.t 24) (.t 23),none,true⟩]
abbrev o44_10:List Ins:=[⟨some 26,.ia 1 (.t 22) (.t 24),none,true⟩,
 ⟨some 27,.ld true 1 (.t 26),none,true⟩,
 ⟨some 8,.mv (.t 27),none,true⟩]
abbrev o44_11:List Ins:=[⟨some 29,.mv (.t 8),none,true⟩,
 ⟨some 30,.call (.k (.fn 69 [])) [(.t 29)],none,true⟩,
 ⟨some 28,.mv (.t 30),none,true⟩,
 ⟨some 31,.ext (.t 28) 0,none,true⟩,
 ⟨some 32,.ext (.t 28) 1,none,true⟩,
 ⟨some 9,.mv (.t 31),none,true⟩,
 ⟨some 10,.mv (.t 32),none,true⟩]
abbrev o44_12:List Ins:=[⟨some 34,.mv (.t 9),none,true⟩,
 ⟨some 35,.bin .gtr (.t 34) (.k (.c (.int .i64 0))),none,true⟩,
 ⟨some 33,.mv (.t 35),none,true⟩]
abbrev o44_13:List Ins:=[⟨some 2,.mv (.k (.c (.raw (.slice none 0 0)))),none,true⟩,
 ⟨some 3,.mv (.k (.c (.int .i64 141))),none,true⟩]
abbrev v44_14:VC:=(.seq (.ops o44_13) .ret)
abbrev o44_15:List Ins:=[⟨some 37,.mv (.t 10),none,true⟩,
 ⟨some 38,.bin .gtr (.t 37) (.k (.c (.int .i64 0))),none,true⟩,
 ⟨some 36,.mv (.t 38),none,true⟩]
abbrev o44_16:List Ins:=[⟨some 6,.mv (.k (.c (.int .i64 142))),none,true⟩]
abbrev v44_17:VC:=(.cond (.t 36) (.ops o44_16) .skip)
abbrev v44_18:VC:=(.seq (.ops o44_15) v44_17)
abbrev v44_19:VC:=(.cond (.t 33) v44_14 v44_18)
abbrev v44_20:VC:=(.seq (.ops o44_12) v44_19)
abbrev v44_21:VC:=(.block 2 v44_20)
abbrev v44_22:VC:=(.seq (.ops o44_11) v44_21)
abbrev v44_23:VC:=(.seq (.ops o44_10) v44_22)
abbrev o44_24:List Ins:=[⟨some 39,.bin .add (.t 24) (.k (.c (.int .i64 1))),none,true⟩,
 ⟨some 24,.mv (.t 39),none,true⟩]
abbrev v44_25:VC:=(.seq (.block 1 v44_23) (.ops o44_24))
abbrev v44_26:VC:=(.seq (.cond (.t 25) .skip (.exit 0)) v44_25)
abbrev v44_27:VC:=(.seq (.ops o44_9) v44_26)
-- K44_1: changed and kept: [24,6]
abbrev v44_28:VC:=(.loop v44_27)
abbrev v44_29:VC:=(.block 0 v44_28)
abbrev o44_30:List Ins:=[⟨some 40,.mv (.t 4),none,true⟩,
 ⟨some 41,.mv (.t 6),none,true⟩,
 ⟨some 2,.mv (.t 40),none,true⟩,
 ⟨some 3,.mv (.t 41),none,true⟩]
abbrev v44_31:VC:=(.seq (.ops o44_30) .ret)
abbrev v44_32:VC:=(.seq (.seq (.ops o44_8) v44_29) v44_31)
abbrev v44_33:VC:=(.seq (.ops o44_7) v44_32)
abbrev v44_34:VC:=(.seq (.ops o44_6) v44_33)
abbrev v44_35:VC:=(.seq (.seq (.ops o44_2) v44_5) v44_34)
abbrev v44_36:VC:=(.seq (.ops o44_1) v44_35)
def ir44:FC:=⟨1,42,[.t 2,.t 3],(.seq (.ops o44_0) v44_36)⟩
theorem c44:compM Tryd.prog [] 44 = some ir44:=by kernel_rfl
attribute [local go_sem] Nat.reduceEqDiff Nat.reduceAdd Nat.reduceMul reduceIte Nat.reduceLeDiff Nat.reduceLT Nat.reduceBEq reduceCtorEq
theorem all_snoc {α:Type} (f:α → Bool) {l:List α} {k:Nat} (h:k < l.length):(l.take (k + 1)).all f = ((l.take k).all f && f l[k]):=by
 rw [List.take_succ_eq_append_getElem h,List.all_append]; simp
theorem all_take_false {α:Type} (f:α → Bool) {l:List α} {k:Nat} (h:k < l.length) (hf:f l[k] = false):l.all f = false:=by
 rw [Bool.eq_false_iff]
 intro hc
 rw [List.all_eq_true.1 hc _ (List.getElem_mem h)] at hf
 cases hf
set_option maxRecDepth 20000 in
set_option maxHeartbeats 8000000 in
theorem whole44 (s:List UInt8) (hs:s.length ≤ 100000):FSpec Tryd.prog 44 [sv s] (.tup [.c (gridD (bytesG (wholeG s).1)),iv (wholeG s).2]):=by
 have hmax:maxLen = 9223372036854775807:=rfl
 refine FSpec_ofP c44 (Nat.le_refl _) (by decide) fun C hP hN hC hpin hL => ?_; rw [init_st]
 simp only [ir44]
 refine WV_seq_ ?_
 (refine WV_op ?_; simp only [go_sem,hP]; (repeat refine qJ ?_))
 refine WV_seq_ ?_
 (refine WV_split 1 ?_; simp only [List.take_succ_cons,List.take_zero,List.take_nil,List.drop_succ_cons,List.drop_zero,List.drop_nil]; simp only [go_sem,hP]; (repeat refine qJ ?_))
 refine SOps_parse hP hpin hs rfl rfl rfl rfl (fun n hn => ?_) (fun n hn => ?_) (fun hp => ?_) (fun R j cap hp hcap hmx => ?_)
 ·obtain ⟨k,rfl⟩ : ∃ k,n = k + 1000:=⟨n - 1000,by omega⟩
  simp only [prgE_upd',prgE_e0,AV.prg]
 ·exact ⟨prgO_o0 _,rfl⟩
 ·have hwh:wholeG s = ([],140):=by unfold wholeG; rw [hp]
  rw [hwh]
  (refine SOps_ops ?_; simp only [go_sem,hP]; (repeat refine qJ ?_))
  (repeat ((first | refine Va ?_ | refine Vb ?_ | refine Vc ?_ | refine Vd ?_ | refine Ve ?_ | refine Vf ?_); (try simp only [go_sem,hP]); (repeat refine qJ ?_)))
  (refine WV_cond rfl (fun h => ?_) (fun h => ?_))
  ·(repeat ((first | refine Va ?_ | refine Vb ?_ | refine Vc ?_ | refine Vd ?_ | refine Ve ?_ | refine Vf ?_); (try simp only [go_sem,hP]); (repeat refine qJ ?_)))
   (refine WV_ret ?_; simp only [thenQ,inQ,RetQ,RetOk,resAll,resA]; simp only [go_sem,tupA,AV.port,AV.portL,exists_eq_left'])
   refine AVle.tup ?_
   exact ⟨_,_,rfl,AVle.nil 1,_,_,rfl,AVle.refl _,rfl⟩
  ·simp at h
 ·have hok:=parse_ok hp
  have hw:(List.map Row.l R).headD [] = (R.map Row.l).headD []:=rfl
  have hwh:wholeG s = if noLost (R.map Row.l).length ((R.map Row.l).headD []).length (sheetG (R.map Row.l)) then (sheetG (R.map Row.l),if noLack (R.map Row.l).length ((R.map Row.l).headD []).length (sheetG (R.map Row.l)) then 0 else 142) else ([],141):=by unfold wholeG; rw [hp]
  have hsh:sheetG (R.map Row.l) = restG (R.map Row.l).length ((R.map Row.l).headD []).length (gv R):=by unfold sheetG; rw [gv_vals]
  obtain ⟨hR,hb⟩:=hok.rok
  have hn:0 < R.length:=by simpa using hok.pos
  rw [List.length_map] at hwh hsh
  rw [hsh] at hwh
  generalize ((R.map Row.l).headD []).length = w at hok hwh hsh hR
  (refine SOps_ops ?_; simp only [go_sem,hP]; (repeat refine qJ ?_))
  (repeat ((first | refine Va ?_ | refine Vb ?_ | refine Vc ?_ | refine Vd ?_ | refine Ve ?_ | refine Vf ?_); (try simp only [go_sem,hP]); (repeat refine qJ ?_)))
  (refine WV_cond rfl (fun h => ?_) (fun h => ?_))
  ·simp at h
  (repeat ((first | refine Va ?_ | refine Vb ?_ | refine Vc ?_ | refine Vd ?_ | refine Ve ?_ | refine Vf ?_); (try simp only [go_sem,hP]); (repeat refine qJ ?_)))
  refine AS_grid (restore56 (j:=j) (gcap:=cap) hR hb hn) rfl rfl rfl ?_ ?_
  ·simp only [List.map_cons,List.map_nil,List.append_nil]
   simp only [go_sem,AV.lendL,lend_grid]
  rintro r l' ⟨rfl,R',e1,hR',hb',e2,e3,rfl⟩
  refine ⟨R',e1,rfl,rfl,?_⟩
  rw [← e3] at hwh
  clear e3 hsh hb hR
  rw [← e1] at hwh
  have hn':0 < R'.length:=by omega
  have hlin:=fun bs => lines50 bs hR' hn' (j:=j) (gcap:=cap)
  have hLL:=LOk_all hR'
  generalize hLd:allP R'.length w = LL at hLL hlin
  have hwh':wholeG s = if LL.all fun l => (lostL (gv R') l).length == 0 then (gv R',if LL.all fun l => lackL (gv R') l == 0 then 0 else 142) else ([],141):=by
   rw [hwh]; unfold noLost noLack; rw [hLd]
  rw [← e1]
  refine WV_seq_ ?_
  (refine WV_op ?_; simp only [go_sem,hP]; (repeat refine qJ ?_))
  refine WV_pinGrid (by rw [hN]; decide) (fun C' bs cP cN cO hat => ?_)
  have hP':=cP.trans hP
  have hN':=cN.trans hN
  have hC':=cO hC
  clear hpin
  replace hP:=hP'
  refine WV_seq_ (WV_seq_ ?_)
  (refine WV_split 1 ?_; simp only [List.take_succ_cons,List.take_zero,List.take_nil,List.drop_succ_cons,List.drop_zero,List.drop_nil]; simp only [go_sem,hP]; (repeat refine qJ ?_))
  (refine SOps_grid hP (hlin bs) hat rfl rfl rfl (by simp only [List.map_cons,List.map_nil,List.append_nil,List.nil_append,List.cons_append]; simp only [go_sem,AV.lendL,lend_grid,AV.lend]; first | done | rfl) ?_)
  rintro r l' ⟨rfl,rfl⟩
  refine ⟨R',rfl,rfl,rfl,?_⟩
  have hmany:=hLL.many
  (refine SOps_ops ?_; simp only [go_sem,hP,linesV]; (repeat refine qJ ?_))
  refine WV_block ?_
  refine WV_loopS (fun k:Nat => ⟨upd (upd (upd (upd (upd e0 4 (.vw 1 1000 0 R'.length cap)) 22 (.c (linesV bs LL))) 23 (iv LL.length)) 24 (iv k)) 6 (iv (if (LL.take k).all fun l => lackL (gv R') l == 0 then 0 else 142)),gown bcd 1 R' j o0⟩) (fun k => k ≤ LL.length ∧ (LL.take k).all (fun l => (lostL (gv R') l).length == 0) = true) (fun k => LL.length - k) 0 ⟨Nat.zero_le _,by simp⟩ ?_ ?_
  ·exact Sub_of (by exact EnvLe_au) (ObLe_gown (by exact ObjLe_au))
  ·intro k ⟨hk,hk1⟩
   (repeat ((first | refine Va ?_ | refine Vb ?_ | refine Vc ?_ | refine Vd ?_ | refine Ve ?_ | refine Vf ?_); (try simp only [go_sem,hP]); (repeat refine qJ ?_)))
   (refine WV_cond rfl (fun h => ?_) (fun h => ?_))
   ·have hk2:k < LL.length:=by simpa using h
    have hw2:=w64 (n:=(k:Int) + 1) (by omega) (by omega)
    have hmem:=List.getElem_mem hk2
    have hsn:=all_snoc (fun l => (lostL (gv R') l).length == 0) hk2
    have hsn2:=all_snoc (fun l => lackL (gv R') l == 0) hk2
    have hlk:=lack_rng (gv R') LL[k]
    have hst:=state69 bs hR' hb' (hLL.inr _ hmem) (hLL.len _ hmem) (j:=j)
    generalize hll:(lostL (gv R') LL[k]).length = nl at hsn hst
    generalize hla:lackL (gv R') LL[k] = la at hsn2 hst hlk
    (refine WV_skip ?_; simp only [go_sem])
    refine WV_seq_ (WV_block (WV_seq_ ?_))
    (refine WV_op ?_; simp only [go_sem,hP,linesV,map_getD hk2,lcd,List.length_map,Int.toNat_natCast,Int.ofNat_lt,hk2,Int.natCast_nonneg]; (repeat refine qJ ?_))
    refine WV_seq_ ?_
    (refine WV_split 1 ?_; simp only [List.take_succ_cons,List.take_zero,List.take_nil,List.drop_succ_cons,List.drop_zero,List.drop_nil]; simp only [go_sem,hP]; (repeat refine qJ ?_))
    (refine SOps_grid hP (hst) hat rfl rfl rfl (by simp only [List.map_cons,List.map_nil,List.append_nil,List.nil_append,List.cons_append]; simp only [go_sem,AV.lendL,lend_grid,AV.lend]; first | done | rfl) ?_)
    rintro r l' ⟨rfl,rfl⟩
    refine ⟨R',rfl,rfl,rfl,?_⟩
    (refine SOps_ops ?_; simp only [go_sem,hP]; (repeat refine qJ ?_))
    (repeat ((first | refine Va ?_ | refine Vb ?_ | refine Vc ?_ | refine Vd ?_ | refine Ve ?_ | refine Vf ?_); (try simp only [go_sem,hP]); (repeat refine qJ ?_)))
    by_cases h0:nl = 0
    ·subst h0
     have hk3:(LL.take (k + 1)).all (fun l => (lostL (gv R') l).length == 0) = true:=by rw [hsn,hk1]; rfl
     (refine WV_cond rfl (fun h => ?_) (fun h => ?_))
     ·simp at h
     ·(repeat ((first | refine Va ?_ | refine Vb ?_ | refine Vc ?_ | refine Vd ?_ | refine Ve ?_ | refine Vf ?_); (try simp only [go_sem,hP]); (repeat refine qJ ?_)))
      by_cases hla0:la = 0
      ·subst hla0
       (refine WV_cond rfl (fun h => ?_) (fun h => ?_))
       ·simp at h
       ·(repeat ((first | refine Va ?_ | refine Vb ?_ | refine Vc ?_ | refine Vd ?_ | refine Ve ?_ | refine Vf ?_); (try simp only [go_sem,hP,hw2]); (repeat refine qJ ?_)))
        refine ⟨k + 1,⟨by omega,hk3⟩,by omega,?_⟩
        rw [hsn2,show ((0:Int) == 0) = true from rfl,Bool.and_true]
        exact Sub_of (by exact EnvLe_au) (ObLe_gown (by exact ObjLe_au))
      ·(refine WV_cond rfl (fun h => ?_) (fun h => ?_))
       ·(repeat ((first | refine Va ?_ | refine Vb ?_ | refine Vc ?_ | refine Vd ?_ | refine Ve ?_ | refine Vf ?_); (try simp only [go_sem,hP,hw2]); (repeat refine qJ ?_)))
        refine ⟨k + 1,⟨by omega,hk3⟩,by omega,?_⟩
        rw [hsn2,show (la == 0) = false from by simpa using hla0,Bool.and_false]
        exact Sub_of (by exact EnvLe_au) (ObLe_gown (by exact ObjLe_au))
       ·simp at h; omega
    ·have hall:=all_take_false (fun l => (lostL (gv R') l).length == 0) hk2 (by rw [hll]; simpa using h0)
     rw [hall,if_neg (by simp)] at hwh'
     rw [hwh']
     (refine WV_cond rfl (fun h => ?_) (fun h => ?_))
     ·(repeat ((first | refine Va ?_ | refine Vb ?_ | refine Vc ?_ | refine Vd ?_ | refine Ve ?_ | refine Vf ?_); (try simp only [go_sem,hP]); (repeat refine qJ ?_)))
      (refine WV_ret ?_; simp only [thenQ,inQ,RetQ,RetOk,resAll,resA]; simp only [go_sem,tupA,AV.port,AV.portL,exists_eq_left'])
      refine AVle.tup ?_
      exact ⟨_,_,rfl,AVle.nil 1,_,_,rfl,AVle.refl _,rfl⟩
     ·simp at h; omega
   ·have h:k = LL.length:=by simp at h; omega
    subst h
    rw [List.take_length] at hk1 ⊢
    rw [hk1,if_pos rfl] at hwh'
    rw [hwh']
    (repeat ((first | refine Va ?_ | refine Vb ?_ | refine Vc ?_ | refine Vd ?_ | refine Ve ?_ | refine Vf ?_); (try simp only [go_sem,hP]); (repeat refine qJ ?_)))
    refine WV_frzGrid (fun n ds hn => ?_) (fun n ds hn => frzO_o0 _ _) ?_
    ·have hn3:¬ (1000:Nat) = n:=by omega
     simp only [go_sem,AV.frz]
     simp only [hn3,if_false]
    simp only [frzE_upd,frzE_e0,frz_grid]
    rw [gv_vals,bytes_vals hb'.mem]
    (refine WV_ret ?_; simp only [thenQ,inQ,RetQ,RetOk,resAll,resA]; simp only [go_sem,tupA,AV.port,AV.portL,exists_eq_left'])
    exact AVle.refl _
end Go.Proofs.YtlmfdmlochpfcaaDoor
