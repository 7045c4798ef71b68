/-
  Contracts of the layer's functions, of the laws' helpers and of the law; conditions: as each theorem states.
-/
import Derived.Test.YtdoidahbimonhaaDoorU5
set_option linter.unusedVariables false
set_option linter.unusedSimpArgs false
namespace Go.Proofs.YtdoidahbimonhaaDoor
open Go Go.V
abbrev o19_0:List Ins:=[⟨some 1,.box 8 (.t 0),none,true⟩,
 ⟨some 2,.mv (.k (.c (.bool false))),none,true⟩]
abbrev o19_1:List Ins:=[⟨some 2,.mv (.k (.c (.bool true))),none,true⟩]
abbrev v19_2:VC:=(.seq (.ops o19_1) .ret)
def ir19:FC:=⟨1,3,[.t 2],(.seq (.ops o19_0) v19_2)⟩
abbrev o18_0:List Ins:=[⟨some 2,.box 8 (.t 0),none,true⟩,
 ⟨some 4,.mv (.k (.c (.raw (.slice none 0 0)))),none,true⟩,
 ⟨some 5,.mv (.k (.c (.int .i64 0))),none,true⟩]
abbrev o18_1:List Ins:=[⟨some 10,.ld false 8 (.t 2),none,true⟩,
 ⟨some 11,.call (.k (.fn 28 [])) [(.t 10)],none,true⟩,
 ⟨some 6,.mv (.t 11),none,true⟩]
abbrev o18_2:List Ins:=[⟨some 12,.mv (.t 6),none,true⟩,
 ⟨some 13,.bin .neq (.t 12) (.k (.c (.int .i64 0))),none,true⟩]
abbrev o18_3:List Ins:=[⟨some 14,.mv (.t 6),none,true⟩,
 ⟨some 4,.mv (.k (.c (.raw (.slice none 0 0)))),none,true⟩,
 ⟨some 5,.mv (.t 14),none,true⟩]
abbrev v18_4:VC:=(.seq (.ops o18_3) .ret)
abbrev v18_5:VC:=(.cond (.t 13) v18_4 .skip)
abbrev v18_6:VC:=(.seq (.ops o18_2) v18_5)
abbrev o18_7:List Ins:=[⟨some 15,.ld false 8 (.t 2),none,true⟩,
 ⟨some 16,.bld [(.c (.int .i64 0)),(.c (.int .i64 0)),(.c (.int .i64 0)),(.c (.int .i64 0)),(.c (.int .i64 0)),(.c (.int .i64 0)),(.c (.int .i64 0)),(.c (.raw (.slice none 0 0)))] [(0,8,(.t 15))],none,true⟩,
 ⟨some 7,.alloc [(.c (.int .i64 0)),(.c (.int .i64 0)),(.c (.int .i64 0)),(.c (.int .i64 0)),(.c (.int .i64 0)),(.c (.int .i64 0)),(.c (.int .i64 0)),(.c (.raw (.slice none 0 0)))],none,true⟩,
 ⟨none,.st 8 (.t 7) (.t 16),none,true⟩]
abbrev o18_8:List Ins:=[⟨some 17,.mv (.t 1),none,true⟩,
 ⟨some 18,.ld false 8 (.t 7),none,true⟩,
 ⟨some 19,.call (.t 17) [(.t 18)],none,true⟩,
 ⟨some 20,.un .not (.t 19),none,true⟩]
abbrev o18_9:List Ins:=[⟨some 4,.mv (.k (.c (.raw (.slice none 0 0)))),none,true⟩,
 ⟨some 5,.mv (.k (.c (.int .i64 1))),none,true⟩]
abbrev v18_10:VC:=(.seq (.ops o18_9) .ret)
abbrev v18_11:VC:=(.cond (.t 20) v18_10 .skip)
abbrev o18_12:List Ins:=[⟨some 8,.mv (.k (.c (.raw (.slice none 0 0)))),none,true⟩]
abbrev o18_13:List Ins:=[⟨some 21,.fa 6 (.t 2),none,true⟩,
 ⟨some 22,.ld true 1 (.t 21),none,true⟩,
 ⟨some 23,.bin .add (.t 22) (.k (.c (.int .i64 1))),none,true⟩,
 ⟨some 24,.mv (.k (.c (.int .i64 0))),none,true⟩]
abbrev o18_14:List Ins:=[⟨some 25,.bin .lss (.t 24) (.t 23),none,true⟩]
abbrev o18_15:List Ins:=[⟨some 26,.mv (.t 24),none,true⟩,
 ⟨some 9,.mv (.t 26),none,true⟩]
abbrev o18_16:List Ins:=[⟨some 27,.mv (.t 8),none,true⟩,
 ⟨some 28,.ld false 8 (.t 7),none,true⟩,
 ⟨some 29,.mv (.t 9),none,true⟩,
 ⟨some 30,.call (.k (.fn 36 [])) [(.t 28),(.t 29)],none,true⟩,
 ⟨some 31,.call (.k (.fn 35 [])) [(.t 27),(.t 30)],none,true⟩,
 ⟨some 8,.mv (.t 31),none,true⟩]
abbrev v18_17:VC:=(.seq (.ops o18_15) (.ops o18_16))
abbrev o18_18:List Ins:=[⟨some 32,.bin .add (.t 24) (.k (.c (.int .i64 1))),none,true⟩,
 ⟨some 24,.mv (.t 32),none,true⟩]
abbrev v18_19:VC:=(.seq (.block 1 v18_17) (.ops o18_18))
abbrev v18_20:VC:=(.seq (.cond (.t 25) .skip (.exit 0)) v18_19)
abbrev v18_21:VC:=(.seq (.ops o18_14) v18_20)
-- K18_1: changed and kept: [24,8]
abbrev v18_22:VC:=(.loop v18_21)
abbrev v18_23:VC:=(.block 0 v18_22)
abbrev o18_24:List Ins:=[⟨some 33,.mv (.t 8),none,true⟩,
 ⟨some 34,.len (.t 33),none,true⟩,
 ⟨some 35,.bin .eql (.t 34) (.k (.c (.int .i64 0))),none,true⟩]
abbrev o18_25:List Ins:=[⟨some 4,.mv (.k (.c (.raw (.slice none 0 0)))),none,true⟩,
 ⟨some 5,.mv (.k (.c (.int .i64 3))),none,true⟩]
abbrev v18_26:VC:=(.seq (.ops o18_25) .ret)
abbrev v18_27:VC:=(.cond (.t 35) v18_26 .skip)
abbrev o18_28:List Ins:=[⟨some 36,.mv (.t 8),none,true⟩,
 ⟨some 4,.mv (.t 36),none,true⟩,
 ⟨some 5,.mv (.k (.c (.int .i64 0))),none,true⟩]
abbrev v18_29:VC:=(.seq (.ops o18_28) .ret)
abbrev v18_30:VC:=(.seq (.seq (.ops o18_24) v18_27) v18_29)
abbrev v18_31:VC:=(.seq (.seq (.ops o18_13) v18_23) v18_30)
abbrev v18_32:VC:=(.seq (.ops o18_12) v18_31)
abbrev v18_33:VC:=(.seq (.seq (.ops o18_8) v18_11) v18_32)
abbrev v18_34:VC:=(.seq (.ops o18_7) v18_33)
abbrev v18_35:VC:=(.seq (.seq (.ops o18_1) v18_6) v18_34)
def ir18:FC:=⟨2,37,[.t 4,.t 5],(.seq (.ops o18_0) v18_35)⟩
theorem c19:compM Tryd.prog [] 19 = some ir19:=by kernel_rfl
theorem c18:compM Tryd.prog [] 18 = some ir18:=by kernel_rfl
attribute [local go_sem] Nat.reduceEqDiff Nat.reduceAdd Nat.reduceMul reduceIte Nat.reduceLeDiff Nat.reduceLT Nat.reduceBEq reduceCtorEq
theorem anything19 (p:Tr):FSpec Tryd.prog 19 [.agg p.avs] (bv true):=by
 refine FSpec_of c19 (Nat.le_refl _) (by decide) fun C hP hN hC hL => ?_; rw [init_st]
 simp only [ir19]
 refine WV_seq_ ?_
 (refine WV_op ?_; simp only [go_sem,hP,Tr.avs]; (repeat refine qJ ?_))
 (repeat ((first | refine Va ?_ | refine Vb ?_ | refine Vc ?_ | refine Vd ?_ | refine Ve ?_ | refine Vf ?_); (try simp only [go_sem,hP]); (repeat refine qJ ?_)))
 (refine WV_ret ?_; simp only [thenQ,inQ,RetQ,RetOk,resAll,resA]; simp only [go_sem,tupA,AV.port,AV.portL,exists_eq_left']; (first | exact AVle.of rfl | refine AVle.of ?_ | skip))
def allK (p:Tr):Nat → List (Int × List Int)
 | 0 => []
 | k + 1 => allK p k ++ readsC p k
def allR (p:Tr):List (Int × List Int):=allK p (p.sp + 1).toNat
theorem setsT_len (n:Nat):∀ (c:Nat) (s:Int) (f:Nat),(setsT n c s f).length ≤ n ^ c
 | 0,s,f => by simp [setsT]
 | c + 1,s,f => by
  unfold setsT
  have h:∀ l:List Nat,(l.flatMap fun k => setsT n c (orS s k) (k + 1)).length ≤ l.length * n ^ c:=by
   intro l
   induction l with
   | nil => simp
   | cons k l ih =>
    rw [List.flatMap_cons,List.length_append,List.length_cons,Nat.add_mul,Nat.one_mul]
    have:=setsT_len n c (orS s k) (k + 1)
    omega
  have h1:=h (List.range' f (n - f))
  rw [List.length_range'] at h1
  rw [Nat.pow_succ,Nat.mul_comm (n ^ c) n]
  exact Nat.le_trans h1 (Nat.mul_le_mul_right _ (by omega))
theorem reads_len {p:Tr} (hp:TrOk p) (c:Nat) (hc:c ≤ 3):(readsC p c).length ≤ 13824:=by
 have h1:(readsC p c).length ≤ (allS p c).length:=List.length_filterMap_le _ _
 have h2:=setsT_len p.ti.length c 0 0
 have h3:p.ti.length ^ c ≤ 24 ^ 3:=Nat.le_trans (Nat.pow_le_pow_left hp.len c) (Nat.pow_le_pow_right (by decide) hc)
 unfold allS at h1
 omega
theorem allK_len {p:Tr} (hp:TrOk p):∀ k,k ≤ 4 → (allK p k).length ≤ k * 13824
 | 0,_ => Nat.zero_le _
 | k + 1,h => by
  have:=allK_len hp k (by omega)
  have:=reads_len hp k (by omega)
  unfold allK
  rw [List.length_append]
  omega
def openV (p:Tr):AV:=if allR p = [] then .tup [.c (.sl 2 []),iv 3] else .tup [.c (.sl 2 (rdsC (allR p))),iv 0]
set_option maxRecDepth 20000 in
set_option maxHeartbeats 8000000 in
theorem open18 {p:Tr} (hp:TrOk p):FSpec Tryd.prog 18 [.agg p.avs,.fn 19 []] (openV p):=by
 have hsp:=hp.sp
 have e8:List.map AV.c (List.take 8 p.cds) = p.avs:=rfl
 have e9:8 ≤ p.cds.length:=Nat.le_refl _
 have w1:=w64 (n:=p.sp + 1) (by omega) (by omega)
 obtain ⟨m,hm⟩ : ∃ m:Nat,p.sp = m:=⟨p.sp.toNat,by omega⟩
 refine FSpec_of c18 (Nat.le_refl _) (by decide) fun C hP hN hC hL => ?_; rw [init_st]
 simp only [ir18]
 refine WV_seq_ ?_
 (refine WV_op ?_; simp only [go_sem,hP,Tr.avs]; (repeat refine qJ ?_))
 (repeat ((first | refine Va ?_ | refine Vb ?_ | refine Vc ?_ | refine Vd ?_ | refine Ve ?_ | refine Vf ?_); (try simp only [go_sem,hP]); (repeat refine qJ ?_)))
 (refine AS_pu (check28 hp) ?_; simp only [go_sem,hP,Tr.avs]; (repeat refine qJ ?_); (repeat ((first | refine Va ?_ | refine Vb ?_ | refine Vc ?_ | refine Vd ?_ | refine Ve ?_ | refine Vf ?_); (try simp only [go_sem,hP,Tr.avs]); (repeat refine qJ ?_))))
 (refine WV_cond rfl (fun h => ?_) (fun h => ?_))
 ·simp at h
 (repeat ((first | refine Va ?_ | refine Vb ?_ | refine Vc ?_ | refine Vd ?_ | refine Ve ?_ | refine Vf ?_); (try simp only [go_sem,hP,Tr.avs]); (repeat refine qJ ?_)))
 (refine AS_pu (anything19 p) ?_; simp only [go_sem,hP,Tr.avs]; (repeat refine qJ ?_); (repeat ((first | refine Va ?_ | refine Vb ?_ | refine Vc ?_ | refine Vd ?_ | refine Ve ?_ | refine Vf ?_); (try simp only [go_sem,hP,Tr.avs]); (repeat refine qJ ?_))))
 (refine WV_cond rfl (fun h => ?_) (fun h => ?_))
 ·simp at h
 (repeat ((first | refine Va ?_ | refine Vb ?_ | refine Vc ?_ | refine Vd ?_ | refine Ve ?_ | refine Vf ?_); (try simp only [go_sem,hP,w1]); (repeat refine qJ ?_)))
 refine WV_keep [7,8,23,24] ?_
 simp only [go_sem]
 refine WV_hold0A rdC 2 600 rfl (by decide) ?_
 simp only [go_sem]
 have hmm:(p.sp + 1).toNat = m + 1:=by omega
 have hall:allR p = allK p (m + 1):=by unfold allR; rw [hmm]
 refine WV_loopS (fun q:Nat × Option Value => ⟨upd (upd (upd (upd e0 7 (.bp 7 0)) 8 (.c (arrQ q.2))) 23 (iv (p.sp + 1))) 24 (iv q.1),upd (upd o0 7 (.box p.avs)) 600 (harr rdC 2 (allK p q.1) q.2)⟩) (fun q => q.1 ≤ m + 1 ∧ ArrOk (allK p q.1) q.2) (fun q => m + 1 - q.1) (0,none) ⟨Nat.zero_le _,.inl ⟨rfl,rfl⟩⟩ ?_ ?_
 ·simp only [harr,allK,arrQ]
  (refine Sub_of (by simp only [go_sem]; ((repeat' (first | exact EnvLe_e0 _ _ | refine EnvLe_upd ?_ ?_)) <;> ((try simp only [upd_app,e0_app,o0_app,Nat.reduceEqDiff,reduceIte]); first | exact AWk.refl _ _ | exact AWk.int (by omega) | exact AWk.int (by rw [w64 (by omega) (by omega)]; omega) | exact AWk.grow rfl | exact AWk.nil _ | exact AWk.of (by simp [Tr.avs])))) (by simp only [go_sem]; exact ObjLe_au))
 rintro ⟨k,arr⟩ ⟨hk,hok⟩
 simp only at hk hok ⊢
 have hkl:=allK_len hp k (by omega)
 simp only [harr]
 (repeat ((first | refine Va ?_ | refine Vb ?_ | refine Vc ?_ | refine Vd ?_ | refine Ve ?_ | refine Vf ?_); (try simp only [go_sem,hP]); (repeat refine qJ ?_)))
 (refine WV_cond rfl (fun h => ?_) (fun h => ?_))
 ·have hi:k < m + 1:=by simp at h; omega
  have hw:=w64 (n:=(k:Int) + 1) (by omega) (by omega)
  have hrl:=reads_len hp k (by omega)
  have h35:=append35 hp k (by omega) (allK p k) arr hok (by omega)
  (repeat ((first | refine Va ?_ | refine Vb ?_ | refine Vc ?_ | refine Vd ?_ | refine Ve ?_ | refine Vf ?_); (try simp only [go_sem,hP,Tr.avs]); (repeat refine qJ ?_)))
  (refine AS_pu (readings36 p k) ?_; simp only [go_sem,hP,Tr.avs]; (repeat refine qJ ?_); (repeat ((first | refine Va ?_ | refine Vb ?_ | refine Vc ?_ | refine Vd ?_ | refine Ve ?_ | refine Vf ?_); (try simp only [go_sem,hP,Tr.avs]); (repeat refine qJ ?_))))
  (refine AS_lend [600] (h35) rfl rfl rfl (by decide) rfl (by simp only [go_sem,obsLend,Ob.lend,AV.lend,AV.lendL,Tr.avs,harr]) ?_)
  rintro r l' ⟨arr',hok',rfl,rfl⟩
  (refine ⟨_,_,rfl,(by simp only [obsBack,Ob.back,AV.back,AV.backL,Tr.avs,harr]; rfl),?_⟩; simp only [go_sem,hP,ownBack,Tr.avs,harr])
  (repeat ((first | refine Va ?_ | refine Vb ?_ | refine Vc ?_ | refine Vd ?_ | refine Ve ?_ | refine Vf ?_); (try simp only [go_sem,hP,hw]); (repeat refine qJ ?_)))
  refine ⟨(k + 1,arr'),⟨by simp only; omega,hok'⟩,by simp only; omega,?_⟩
  simp only [harr]
  (refine Sub_of (by simp only [go_sem]; ((repeat' (first | exact EnvLe_e0 _ _ | refine EnvLe_upd ?_ ?_)) <;> ((try simp only [upd_app,e0_app,o0_app,Nat.reduceEqDiff,reduceIte]); first | exact AWk.refl _ _ | exact AWk.int (by omega) | exact AWk.int (by rw [w64 (by omega) (by omega)]; omega) | exact AWk.grow rfl | exact AWk.nil _ | exact AWk.of (by simp [Tr.avs])))) (by simp only [go_sem]; exact ObjLe_au))
 ·have hi:k = m + 1:=by simp at h; omega
  subst hi
  refine WV_exit ?_
  simp only [thenQ,inQ,reduceIte,beq_self_eq_true]
  have hov:openV p = if allK p (m + 1) = [] then .tup [.c (.sl 2 []),iv 3] else .tup [.c (.sl 2 (rdsC (allK p (m + 1)))),iv 0]:=by unfold openV; rw [hall]
  rw [hov]
  rcases hok with ⟨h0,rfl⟩ | ⟨hne,v,rfl⟩
  ·rw [if_pos h0]
   simp only [arrQ]
   (repeat ((first | refine Va ?_ | refine Vb ?_ | refine Vc ?_ | refine Vd ?_ | refine Ve ?_ | refine Vf ?_); (try simp only [go_sem,hP]); (repeat refine qJ ?_)))
   (refine WV_cond rfl (fun h => ?_) (fun h => ?_))
   ·(repeat ((first | refine Va ?_ | refine Vb ?_ | refine Vc ?_ | refine Vd ?_ | refine Ve ?_ | refine Vf ?_); (try simp only [go_sem,hP]); (repeat refine qJ ?_)))
    (refine WV_ret ?_; simp only [thenQ,inQ,RetQ,RetOk,resAll,resA]; simp only [go_sem,tupA,AV.port,AV.portL,exists_eq_left'])
    exact AVle.tup ⟨_,_,rfl,AVle.nil 2,_,_,rfl,AVle.refl _,rfl⟩
   ·simp at h
  ·rw [if_neg hne]
   simp only [arrQ]
   refine WV_takeA 600 601 8 (F:=rdC) (sz:=2) (l:=allK p (m + 1)) (x:=v) (by decide) rfl rfl (by decide) rfl ?_
   intro cap j q1 q2 q3
   have hgr:=grp_cellsG rdC_two (allK p (m + 1))
   have hfl:=flatG_len rdC_two (allK p (m + 1))
   have hpos:0 < (allK p (m + 1)).length:=List.length_pos_iff.2 hne
   generalize allK p (m + 1) = l at hne hgr hfl hpos q1 q3 hkl ⊢
   refine WV_freezeJ 601 (ds:=flatG rdC l) (junk:=List.replicate j .non) rfl ?_
   have hle:l.length * 2 ≤ l.length * 2:=Nat.le_refl _
   simp only [go_sem,harr,hfl,hgr,hle]
   have hd0:((l.length:Int) == 0) = false:=by rw [beq_eq_false_iff_ne]; omega
   (repeat ((first | refine Va ?_ | refine Vb ?_ | refine Vc ?_ | refine Vd ?_ | refine Ve ?_ | refine Vf ?_); (try simp only [go_sem,hP,List.length_map,hd0]); (repeat refine qJ ?_)))
   (refine WV_cond rfl (fun h => ?_) (fun h => ?_))
   ·simp at h
   (repeat ((first | refine Va ?_ | refine Vb ?_ | refine Vc ?_ | refine Vd ?_ | refine Ve ?_ | refine Vf ?_); (try simp only [go_sem,hP]); (repeat refine qJ ?_)))
   (refine WV_ret ?_; simp only [thenQ,inQ,RetQ,RetOk,resAll,resA]; simp only [go_sem,tupA,AV.port,AV.portL,exists_eq_left'])
   exact AVle.refl _
end Go.Proofs.YtdoidahbimonhaaDoor

namespace Go.Proofs.YtdoidahbimonhaaDoor
open Go Go.V
abbrev o63_0:List Ins:=[⟨some 4,.mv (.k (.c (.bool false))),none,true⟩]
abbrev o63_1:List Ins:=[⟨some 6,.mv (.t 0),none,true⟩,
 ⟨some 7,.len (.t 6),none,true⟩,
 ⟨some 8,.mv (.t 1),none,true⟩,
 ⟨some 9,.len (.t 8),none,true⟩,
 ⟨some 10,.bin .neq (.t 7) (.t 9),none,true⟩]
abbrev o63_2:List Ins:=[⟨some 4,.mv (.k (.c (.bool false))),none,true⟩]
abbrev v63_3:VC:=(.seq (.ops o63_2) .ret)
abbrev v63_4:VC:=(.cond (.t 10) v63_3 .skip)
abbrev o63_5:List Ins:=[⟨some 11,.mv (.t 0),none,true⟩,
 ⟨some 12,.len (.t 11),none,true⟩,
 ⟨some 13,.mv (.k (.c (.int .i64 0))),none,true⟩]
abbrev o63_6:List Ins:=[⟨some 14,.bin .lss (.t 13) (.t 12),none,true⟩]
abbrev o63_7:List Ins:=[⟨some 15,.mv (.t 13),none,true⟩,
 ⟨some 5,.mv (.t 15),none,true⟩]
abbrev o63_8:List Ins:=[⟨some 16,.mv (.t 0),none,false⟩,
 ⟨some 17,.mv (.t 5),none,false⟩,
 ⟨some 18,.ia 1 (.t 16) (.t 17),none,false⟩,
 ⟨some 19,.ld true 1 (.t 18),none,false⟩,
 ⟨some 20,.mv (.t 1),none,false⟩,
 ⟨some 21,.mv (.t 5),none,false⟩,
 ⟨some 22,.ia 1 (.t 20) (.t 21),none,false⟩,
 ⟨some 23,.ld true 1 (.t 22),none,false⟩,
 ⟨some 24,.bin .neq (.t 19) (.t 23),none,true⟩]
abbrev o63_9:List Ins:=[⟨some 4,.mv (.k (.c (.bool false))),none,true⟩]
abbrev v63_10:VC:=(.seq (.ops o63_9) .ret)
abbrev v63_11:VC:=(.cond (.t 24) v63_10 .skip)
abbrev v63_12:VC:=(.seq (.dops o63_8) v63_11)
abbrev v63_13:VC:=(.seq (.ops o63_7) v63_12)
abbrev o63_14:List Ins:=[⟨some 25,.bin .add (.t 13) (.k (.c (.int .i64 1))),none,true⟩,
 ⟨some 13,.mv (.t 25),none,true⟩]
abbrev v63_15:VC:=(.seq (.block 1 v63_13) (.ops o63_14))
abbrev v63_16:VC:=(.seq (.cond (.t 14) .skip (.exit 0)) v63_15)
abbrev v63_17:VC:=(.seq (.ops o63_6) v63_16)
-- K63_1: changed and kept: [13]
abbrev v63_18:VC:=(.loop v63_17)
abbrev v63_19:VC:=(.block 0 v63_18)
abbrev o63_20:List Ins:=[⟨some 4,.mv (.k (.c (.bool true))),none,true⟩]
abbrev v63_21:VC:=(.seq (.ops o63_20) .ret)
abbrev v63_22:VC:=(.seq (.seq (.ops o63_5) v63_19) v63_21)
abbrev v63_23:VC:=(.seq (.seq (.ops o63_1) v63_4) v63_22)
def ir63:FC:=⟨2,26,[.t 4],(.seq (.ops o63_0) v63_23)⟩
abbrev o62_0:List Ins:=[⟨some 3,.mv (.k (.c (.bool false))),none,true⟩]
abbrev o62_1:List Ins:=[⟨some 4,.mv (.t 0),none,true⟩,
 ⟨some 5,.fa 1 (.t 1),none,true⟩,
 ⟨some 6,.ld true 1 (.t 5),none,true⟩,
 ⟨some 7,.call (.k (.fn 63 [])) [(.t 4),(.t 6)],none,true⟩,
 ⟨some 3,.mv (.t 7),none,true⟩]
abbrev v62_2:VC:=(.seq (.ops o62_1) .ret)
def ir62:FC:=⟨2,8,[.t 3],(.seq (.ops o62_0) v62_2)⟩
abbrev o78_0:List Ins:=[⟨some 4,.mv (.k (.c (.int .i64 0))),none,true⟩]
abbrev o78_1:List Ins:=[⟨some 6,.mv (.t 0),none,true⟩,
 ⟨some 7,.len (.t 6),none,true⟩,
 ⟨some 8,.mv (.k (.c (.int .i64 0))),none,true⟩]
abbrev o78_2:List Ins:=[⟨some 9,.bin .lss (.t 8) (.t 7),none,true⟩]
abbrev o78_3:List Ins:=[⟨some 10,.mv (.t 8),none,true⟩,
 ⟨some 5,.mv (.t 10),none,true⟩]
abbrev o78_4:List Ins:=[⟨some 11,.mv (.t 1),none,true⟩,
 ⟨some 12,.mv (.t 0),none,true⟩,
 ⟨some 13,.mv (.t 5),none,true⟩,
 ⟨some 14,.ia 1 (.t 12) (.t 13),none,true⟩,
 ⟨some 15,.ld true 1 (.t 14),none,true⟩,
 ⟨some 16,.call (.t 11) [(.t 15)],none,true⟩]
abbrev o78_5:List Ins:=[⟨some 17,.mv (.t 5),none,true⟩,
 ⟨some 4,.mv (.t 17),none,true⟩]
abbrev v78_6:VC:=(.seq (.ops o78_5) .ret)
abbrev v78_7:VC:=(.cond (.t 16) v78_6 .skip)
abbrev v78_8:VC:=(.seq (.ops o78_4) v78_7)
abbrev v78_9:VC:=(.seq (.ops o78_3) v78_8)
abbrev o78_10:List Ins:=[⟨some 18,.bin .add (.t 8) (.k (.c (.int .i64 1))),none,true⟩,
 ⟨some 8,.mv (.t 18),none,true⟩]
abbrev v78_11:VC:=(.seq (.block 1 v78_9) (.ops o78_10))
abbrev v78_12:VC:=(.seq (.cond (.t 9) .skip (.exit 0)) v78_11)
abbrev v78_13:VC:=(.seq (.ops o78_2) v78_12)
-- K78_1: changed and kept: [8]
abbrev v78_14:VC:=(.loop v78_13)
abbrev v78_15:VC:=(.block 0 v78_14)
abbrev o78_16:List Ins:=[⟨some 4,.mv (.k (.c (.int .i64 (-1)))),none,true⟩]
abbrev v78_17:VC:=(.seq (.ops o78_16) .ret)
abbrev v78_18:VC:=(.seq (.seq (.ops o78_1) v78_15) v78_17)
def ir78:FC:=⟨2,19,[.t 4],(.seq (.ops o78_0) v78_18)⟩
abbrev o61_0:List Ins:=[⟨some 4,.mv (.k (.c (.bool false))),none,true⟩]
abbrev o61_1:List Ins:=[⟨some 5,.mv (.t 0),none,true⟩,
 ⟨some 6,.mv (.t 1),none,true⟩,
 ⟨some 7,.call (.k (.fn 78 [])) [(.t 5),(.t 6)],none,true⟩,
 ⟨some 8,.bin .geq (.t 7) (.k (.c (.int .i64 0))),none,true⟩,
 ⟨some 4,.mv (.t 8),none,true⟩]
abbrev v61_2:VC:=(.seq (.ops o61_1) .ret)
def ir61:FC:=⟨2,9,[.t 4],(.seq (.ops o61_0) v61_2)⟩
theorem c63:compM Tryd.prog [] 63 = some ir63:=by kernel_rfl
theorem c62:compM Tryd.prog [] 62 = some ir62:=by kernel_rfl
theorem c78:compM Tryd.prog [] 78 = some ir78:=by kernel_rfl
theorem c61:compM Tryd.prog [] 61 = some ir61:=by kernel_rfl
attribute [local go_sem] Nat.reduceEqDiff Nat.reduceAdd Nat.reduceMul reduceIte Nat.reduceLeDiff Nat.reduceLT Nat.reduceBEq reduceCtorEq
theorem isC_at {l:List Int} {k:Nat} (h:k < l.length):(l.map fun n => [CD.int .i64 n]).getD k [] = [.int .i64 l[k]]:=map_getD h
set_option maxHeartbeats 4000000 in
theorem equal63 (a b:List Int) (ha:a.length ≤ 100000):FSpec Tryd.prog 63 [.c (isC a),.c (isC b)] (.c (.bool (decide (a = b)))):=by
 have hmax:maxLen = 9223372036854775807:=rfl
 refine FSpec_of c63 (Nat.le_refl _) (by decide) fun C hP hN hC hL => ?_; rw [init_st]
 simp only [ir63,isC]
 (repeat ((first | refine Va ?_ | refine Vb ?_ | refine Vc ?_ | refine Vd ?_ | refine Ve ?_ | refine Vf ?_); (try simp only [go_sem,hP,List.length_map]); (repeat refine qJ ?_)))
 by_cases hl:a.length = b.length
 ·(refine WV_cond rfl (fun h => ?_) (fun h => ?_))
  ·simp at h; omega
  (repeat ((first | refine Va ?_ | refine Vb ?_ | refine Vc ?_ | refine Vd ?_ | refine Ve ?_ | refine Vf ?_); (try simp only [go_sem,hP,List.length_map]); (repeat refine qJ ?_)))
  refine WV_loopS (fun k:Nat => ⟨upd (upd (upd (upd e0 0 (.c (isC a))) 1 (.c (isC b))) 12 (iv a.length)) 13 (iv k),o0⟩) (fun k => k ≤ a.length ∧ a.take k = b.take k) (fun k => a.length - k) 0 ⟨Nat.zero_le _,rfl⟩ ?_ ?_
  ·(refine Sub_of (by simp only [go_sem]; ((repeat' (first | exact EnvLe_e0 _ _ | refine EnvLe_upd ?_ ?_)) <;> ((try simp only [upd_app,e0_app,o0_app,Nat.reduceEqDiff,reduceIte]); first | exact AWk.refl _ _ | exact AWk.int (by omega) | exact AWk.int (by rw [w64 (by omega) (by omega)]; omega) | exact AWk.grow rfl | exact AWk.nil _ | exact AWk.of (by simp [isC])))) (by simp only [go_sem]; exact ObjLe_au))
  rintro k ⟨hk,ht⟩
  (repeat ((first | refine Va ?_ | refine Vb ?_ | refine Vc ?_ | refine Vd ?_ | refine Ve ?_ | refine Vf ?_); (try simp only [go_sem,hP]); (repeat refine qJ ?_)))
  (refine WV_cond rfl (fun h => ?_) (fun h => ?_))
  ·have hi:k < a.length:=by simpa using h
   have hi2:k < b.length:=by omega
   have hw:=w64 (n:=(k:Int) + 1) (by omega) (by omega)
   (repeat ((first | refine Va ?_ | refine Vb ?_ | refine Vc ?_ | refine Vd ?_ | refine Ve ?_ | refine Vf ?_); (try simp only [go_sem,hP,isC,isC_at hi,isC_at hi2,List.length_map,Int.toNat_natCast,Int.ofNat_lt,hi,hi2,Int.natCast_nonneg]); (repeat refine qJ ?_)))
   by_cases hab:a[k] = b[k]
   ·(refine WV_cond rfl (fun h => ?_) (fun h => ?_))
    ·simp [hab] at h
    (repeat ((first | refine Va ?_ | refine Vb ?_ | refine Vc ?_ | refine Vd ?_ | refine Ve ?_ | refine Vf ?_); (try simp only [go_sem,hP,hw]); (repeat refine qJ ?_)))
    refine ⟨k + 1,⟨by omega,by rw [List.take_succ_eq_append_getElem hi,List.take_succ_eq_append_getElem hi2,ht,hab]⟩,by omega,?_⟩
    (refine Sub_of (by simp only [go_sem]; ((repeat' (first | exact EnvLe_e0 _ _ | refine EnvLe_upd ?_ ?_)) <;> ((try simp only [upd_app,e0_app,o0_app,Nat.reduceEqDiff,reduceIte]); first | exact AWk.refl _ _ | exact AWk.int (by omega) | exact AWk.int (by rw [w64 (by omega) (by omega)]; omega) | exact AWk.grow rfl | exact AWk.nil _ | exact AWk.of (by simp [isC])))) (by simp only [go_sem]; exact ObjLe_au))
   ·have hne:decide (a = b) = false:=by
     rw [decide_eq_false_iff_not]
     rintro rfl
     exact hab rfl
    rw [hne]
    (refine WV_cond rfl (fun h => ?_) (fun h => ?_))
    ·(repeat ((first | refine Va ?_ | refine Vb ?_ | refine Vc ?_ | refine Vd ?_ | refine Ve ?_ | refine Vf ?_); (try simp only [go_sem,hP]); (repeat refine qJ ?_)))
     (refine WV_ret ?_; simp only [thenQ,inQ,RetQ,RetOk,resAll,resA]; simp only [go_sem,tupA,AV.port,AV.portL,exists_eq_left']; (first | exact AVle.of rfl | refine AVle.of ?_ | skip))
    ·simp at h; exact (hab h).elim
  ·have hi:k = a.length:=by simp at h; omega
   subst hi
   refine WV_exit ?_
   simp only [thenQ,inQ,reduceIte,beq_self_eq_true]
   have he:decide (a = b) = true:=by
    rw [decide_eq_true_eq]
    rw [List.take_length,hl,List.take_length] at ht
    exact ht
   rw [he]
   (repeat ((first | refine Va ?_ | refine Vb ?_ | refine Vc ?_ | refine Vd ?_ | refine Ve ?_ | refine Vf ?_); (try simp only [go_sem,hP]); (repeat refine qJ ?_)))
   (refine WV_ret ?_; simp only [thenQ,inQ,RetQ,RetOk,resAll,resA]; simp only [go_sem,tupA,AV.port,AV.portL,exists_eq_left']; (first | exact AVle.of rfl | refine AVle.of ?_ | skip))
 ·have hne:decide (a = b) = false:=by
   rw [decide_eq_false_iff_not]
   rintro rfl
   exact hl rfl
  rw [hne]
  (refine WV_cond rfl (fun h => ?_) (fun h => ?_))
  ·(repeat ((first | refine Va ?_ | refine Vb ?_ | refine Vc ?_ | refine Vd ?_ | refine Ve ?_ | refine Vf ?_); (try simp only [go_sem,hP]); (repeat refine qJ ?_)))
   (refine WV_ret ?_; simp only [thenQ,inQ,RetQ,RetOk,resAll,resA]; simp only [go_sem,tupA,AV.port,AV.portL,exists_eq_left']; (first | exact AVle.of rfl | refine AVle.of ?_ | skip))
  ·simp at h; omega
theorem eq62 (a:List Int) (x:Int × List Int) (ha:a.length ≤ 100000):FSpec Tryd.prog 62 [.c (isC a),.c (.pt (rdC x))] (.c (.bool (decide (a = x.2)))):=by
 refine FSpec_of c62 (Nat.le_refl _) (by decide) fun C hP hN hC hL => ?_; rw [init_st]
 simp only [ir62,rdC]
 (repeat ((first | refine Va ?_ | refine Vb ?_ | refine Vc ?_ | refine Vd ?_ | refine Ve ?_ | refine Vf ?_); (try simp only [go_sem,hP]); (repeat refine qJ ?_)))
 (refine AS_pu (equal63 a x.2 ha) ?_; simp only [go_sem,hP]; (repeat refine qJ ?_); (repeat ((first | refine Va ?_ | refine Vb ?_ | refine Vc ?_ | refine Vd ?_ | refine Ve ?_ | refine Vf ?_); (try simp only [go_sem,hP]); (repeat refine qJ ?_))))
 (refine WV_ret ?_; simp only [thenQ,inQ,RetQ,RetOk,resAll,resA]; simp only [go_sem,tupA,AV.port,AV.portL,exists_eq_left']; (first | exact AVle.of rfl | refine AVle.of ?_ | skip))
def listsC (L:List (List Int)):CD:=.sl 1 (L.map fun l => [isC l])
theorem listsC_at {L:List (List Int)} {k:Nat} (h:k < L.length):(L.map fun l => [isC l]).getD k [] = [isC L[k]]:=map_getD h
def idxI (L:List (List Int)) (a:List Int):Int:=if a ∈ L then (L.idxOf a:Int) else -1
set_option maxHeartbeats 4000000 in
theorem index78 (L:List (List Int)) (x:Int × List Int) (hLl:L.length ≤ 100000) (ha:∀ a ∈ L,a.length ≤ 100000):FSpec Tryd.prog 78 [.c (listsC L),.fn 62 [.c (.pt (rdC x))]] (iv (idxI L x.2)):=by
 refine FSpec_of c78 (Nat.le_refl _) (by decide) fun C hP hN hC hL => ?_; rw [init_st]
 simp only [ir78,listsC]
 (repeat ((first | refine Va ?_ | refine Vb ?_ | refine Vc ?_ | refine Vd ?_ | refine Ve ?_ | refine Vf ?_); (try simp only [go_sem,hP,List.length_map]); (repeat refine qJ ?_)))
 refine WV_loopS (fun k:Nat => ⟨upd (upd (upd (upd e0 0 (.c (listsC L))) 1 (.fn 62 [.c (.pt (rdC x))])) 7 (iv L.length)) 8 (iv k),o0⟩) (fun k => k ≤ L.length ∧ x.2 ∉ L.take k) (fun k => L.length - k) 0 ⟨Nat.zero_le _,by simp⟩ ?_ ?_
 ·(refine Sub_of (by simp only [go_sem]; ((repeat' (first | exact EnvLe_e0 _ _ | refine EnvLe_upd ?_ ?_)) <;> ((try simp only [upd_app,e0_app,o0_app,Nat.reduceEqDiff,reduceIte]); first | exact AWk.refl _ _ | exact AWk.int (by omega) | exact AWk.int (by rw [w64 (by omega) (by omega)]; omega) | exact AWk.grow rfl | exact AWk.nil _ | exact AWk.of (by simp [listsC])))) (by simp only [go_sem]; exact ObjLe_au))
 rintro k ⟨hk,ht⟩
 (repeat ((first | refine Va ?_ | refine Vb ?_ | refine Vc ?_ | refine Vd ?_ | refine Ve ?_ | refine Vf ?_); (try simp only [go_sem,hP]); (repeat refine qJ ?_)))
 (refine WV_cond rfl (fun h => ?_) (fun h => ?_))
 ·have hi:k < L.length:=by simpa using h
  have hw:=w64 (n:=(k:Int) + 1) (by omega) (by omega)
  have he:=eq62 L[k] x (ha _ (List.getElem_mem hi))
  (repeat ((first | refine Va ?_ | refine Vb ?_ | refine Vc ?_ | refine Vd ?_ | refine Ve ?_ | refine Vf ?_); (try simp only [go_sem,hP,listsC,listsC_at hi,List.length_map,Int.toNat_natCast,Int.ofNat_lt,hi,Int.natCast_nonneg]); (repeat refine qJ ?_)))
  (refine AS_pu (he) ?_; simp only [go_sem,hP]; (repeat refine qJ ?_); (repeat ((first | refine Va ?_ | refine Vb ?_ | refine Vc ?_ | refine Vd ?_ | refine Ve ?_ | refine Vf ?_); (try simp only [go_sem,hP]); (repeat refine qJ ?_))))
  by_cases hx:L[k] = x.2
  ·have hidx:idxI L x.2 = k:=by
    have hm:x.2 ∈ L:=by rw [← hx]; exact List.getElem_mem _
    unfold idxI
    rw [if_pos hm]
    have h1:L.idxOf x.2 < L.length:=List.idxOf_lt_length_of_mem hm
    have h2:L[L.idxOf x.2] = x.2:=List.getElem_idxOf h1
    by_cases hlt:L.idxOf x.2 < k
    ·exact (ht (by rw [← h2]; exact List.mem_take_iff_getElem.2 ⟨_,by omega,rfl⟩)).elim
    ·have h3:L.idxOf x.2 ≤ k:=by
      by_cases hgt:k < L.findIdx (· == x.2)
      ·have:=List.not_of_lt_findIdx hgt
       simp [hx] at this
      ·exact Nat.le_of_not_lt hgt
     omega
   rw [hidx]
   (refine WV_cond rfl (fun h => ?_) (fun h => ?_))
   ·(repeat ((first | refine Va ?_ | refine Vb ?_ | refine Vc ?_ | refine Vd ?_ | refine Ve ?_ | refine Vf ?_); (try simp only [go_sem,hP]); (repeat refine qJ ?_)))
    (refine WV_ret ?_; simp only [thenQ,inQ,RetQ,RetOk,resAll,resA]; simp only [go_sem,tupA,AV.port,AV.portL,exists_eq_left']; (first | exact AVle.of rfl | refine AVle.of ?_ | skip))
   ·simp at h; exact (h hx).elim
  ·(refine WV_cond rfl (fun h => ?_) (fun h => ?_))
   ·simp at h; exact (hx h).elim
   (repeat ((first | refine Va ?_ | refine Vb ?_ | refine Vc ?_ | refine Vd ?_ | refine Ve ?_ | refine Vf ?_); (try simp only [go_sem,hP,hw]); (repeat refine qJ ?_)))
   refine ⟨k + 1,⟨by omega,?_⟩,by omega,?_⟩
   ·rw [List.take_succ_eq_append_getElem hi,List.mem_append,List.mem_singleton]
    rintro (h1 | h1)
    ·exact ht h1
    ·exact hx h1.symm
   ·(refine Sub_of (by simp only [go_sem]; ((repeat' (first | exact EnvLe_e0 _ _ | refine EnvLe_upd ?_ ?_)) <;> ((try simp only [upd_app,e0_app,o0_app,Nat.reduceEqDiff,reduceIte]); first | exact AWk.refl _ _ | exact AWk.int (by omega) | exact AWk.int (by rw [w64 (by omega) (by omega)]; omega) | exact AWk.grow rfl | exact AWk.nil _ | exact AWk.of (by simp [listsC])))) (by simp only [go_sem]; exact ObjLe_au))
 ·have hi:k = L.length:=by simp at h; omega
  subst hi
  rw [List.take_length] at ht
  have hidx:idxI L x.2 = -1:=by unfold idxI; rw [if_neg ht]
  rw [hidx]
  refine WV_exit ?_
  simp only [thenQ,inQ,reduceIte,beq_self_eq_true]
  (repeat ((first | refine Va ?_ | refine Vb ?_ | refine Vc ?_ | refine Vd ?_ | refine Ve ?_ | refine Vf ?_); (try simp only [go_sem,hP]); (repeat refine qJ ?_)))
  (refine WV_ret ?_; simp only [thenQ,inQ,RetQ,RetOk,resAll,resA]; simp only [go_sem,tupA,AV.port,AV.portL,exists_eq_left']; (first | exact AVle.of rfl | refine AVle.of ?_ | skip))
theorem contains61 (L:List (List Int)) (x:Int × List Int) (hLl:L.length ≤ 100000) (ha:∀ a ∈ L,a.length ≤ 100000):FSpec Tryd.prog 61 [.c (listsC L),.fn 62 [.c (.pt (rdC x))]] (.c (.bool (decide (x.2 ∈ L)))):=by
 have hd:decide (0 ≤ idxI L x.2) = decide (x.2 ∈ L):=by
  unfold idxI
  by_cases h:x.2 ∈ L
  ·rw [if_pos h]; simp [h]
  ·rw [if_neg h]; simp [h]
 refine FSpec_of c61 (Nat.le_refl _) (by decide) fun C hP hN hC hL => ?_; rw [init_st]
 simp only [ir61]
 (repeat ((first | refine Va ?_ | refine Vb ?_ | refine Vc ?_ | refine Vd ?_ | refine Ve ?_ | refine Vf ?_); (try simp only [go_sem,hP]); (repeat refine qJ ?_)))
 (refine AS_pu (index78 L x hLl ha) ?_; simp only [go_sem,hP,hd]; (repeat refine qJ ?_); (repeat ((first | refine Va ?_ | refine Vb ?_ | refine Vc ?_ | refine Vd ?_ | refine Ve ?_ | refine Vf ?_); (try simp only [go_sem,hP,hd]); (repeat refine qJ ?_))))
 (refine WV_ret ?_; simp only [thenQ,inQ,RetQ,RetOk,resAll,resA]; simp only [go_sem,tupA,AV.port,AV.portL,exists_eq_left']; (first | exact AVle.of rfl | refine AVle.of ?_ | skip))
abbrev o37_0:List Ins:=[⟨some 2,.mv (.k (.c (.raw (.slice none 0 0)))),none,true⟩]
abbrev o37_1:List Ins:=[⟨some 3,.mv (.k (.c (.raw (.slice none 0 0)))),none,true⟩]
abbrev o37_2:List Ins:=[⟨some 6,.mv (.t 0),none,true⟩,
 ⟨some 7,.len (.t 6),none,true⟩,
 ⟨some 8,.mv (.k (.c (.int .i64 0))),none,true⟩]
abbrev o37_3:List Ins:=[⟨some 9,.bin .lss (.t 8) (.t 7),none,true⟩]
abbrev o37_4:List Ins:=[⟨some 10,.ia 2 (.t 6) (.t 8),none,true⟩,
 ⟨some 11,.ld false 2 (.t 10),none,true⟩,
 ⟨some 5,.alloc [(.c (.int .u64 0)),(.c (.raw (.slice none 0 0)))],none,true⟩,
 ⟨none,.st 2 (.t 5) (.t 11),none,true⟩]
abbrev o37_5:List Ins:=[⟨some 12,.mv (.t 3),none,true⟩,
 ⟨some 13,.mkfn 62 [(.t 5)],none,true⟩,
 ⟨some 14,.call (.k (.fn 61 [])) [(.t 12),(.t 13)],none,true⟩,
 ⟨some 15,.un .not (.t 14),none,true⟩]
abbrev o37_6:List Ins:=[⟨some 16,.mv (.t 3),none,true⟩,
 ⟨some 17,.fa 1 (.t 5),none,true⟩,
 ⟨some 18,.ld true 1 (.t 17),none,true⟩,
 ⟨some 19,.bsl 22 1 [(.t 18)],none,true⟩,
 ⟨some 20,.app 22 1 24 (.t 16) (.t 19),none,true⟩,
 ⟨some 3,.mv (.t 20),none,true⟩]
abbrev v37_7:VC:=(.cond (.t 15) (.ops o37_6) .skip)
abbrev v37_8:VC:=(.seq (.ops o37_5) v37_7)
abbrev v37_9:VC:=(.seq (.ops o37_4) v37_8)
abbrev o37_10:List Ins:=[⟨some 21,.bin .add (.t 8) (.k (.c (.int .i64 1))),none,true⟩,
 ⟨some 8,.mv (.t 21),none,true⟩]
abbrev v37_11:VC:=(.seq (.block 1 v37_9) (.ops o37_10))
abbrev v37_12:VC:=(.seq (.cond (.t 9) .skip (.exit 0)) v37_11)
abbrev v37_13:VC:=(.seq (.ops o37_3) v37_12)
-- K37_1: changed and kept: [8,3]
abbrev v37_14:VC:=(.loop v37_13)
abbrev v37_15:VC:=(.block 0 v37_14)
abbrev o37_16:List Ins:=[⟨some 22,.mv (.t 3),none,true⟩,
 ⟨some 2,.mv (.t 22),none,true⟩]
abbrev v37_17:VC:=(.seq (.ops o37_16) .ret)
abbrev v37_18:VC:=(.seq (.seq (.ops o37_2) v37_15) v37_17)
abbrev v37_19:VC:=(.seq (.ops o37_1) v37_18)
def ir37:FC:=⟨1,23,[.t 2],(.seq (.ops o37_0) v37_19)⟩
abbrev o20_0:List Ins:=[⟨some 2,.mv (.k (.c (.raw (.slice none 0 0)))),none,true⟩,
 ⟨some 3,.mv (.k (.c (.int .i64 0))),none,true⟩]
abbrev o20_1:List Ins:=[⟨some 5,.mv (.t 0),none,true⟩,
 ⟨some 6,.call (.k (.fn 37 [])) [(.t 5)],none,true⟩,
 ⟨some 4,.mv (.t 6),none,true⟩]
abbrev o20_2:List Ins:=[⟨some 7,.mv (.t 4),none,true⟩,
 ⟨some 8,.len (.t 7),none,true⟩,
 ⟨some 9,.bin .gtr (.t 8) (.k (.c (.int .i64 1))),none,true⟩]
abbrev o20_3:List Ins:=[⟨some 2,.mv (.k (.c (.raw (.slice none 0 0)))),none,true⟩,
 ⟨some 3,.mv (.k (.c (.int .i64 2))),none,true⟩]
abbrev v20_4:VC:=(.seq (.ops o20_3) .ret)
abbrev v20_5:VC:=(.cond (.t 9) v20_4 .skip)
abbrev o20_6:List Ins:=[⟨some 10,.mv (.t 4),none,true⟩,
 ⟨some 11,.ia 1 (.t 10) (.k (.c (.int .i64 0))),none,true⟩,
 ⟨some 12,.ld true 1 (.t 11),none,true⟩,
 ⟨some 2,.mv (.t 12),none,true⟩,
 ⟨some 3,.mv (.k (.c (.int .i64 0))),none,true⟩]
abbrev v20_7:VC:=(.seq (.ops o20_6) .ret)
abbrev v20_8:VC:=(.seq (.seq (.ops o20_2) v20_5) v20_7)
abbrev v20_9:VC:=(.seq (.ops o20_1) v20_8)
def ir20:FC:=⟨1,13,[.t 2,.t 3],(.seq (.ops o20_0) v20_9)⟩
abbrev o7_0:List Ins:=[⟨some 1,.box 8 (.t 0),none,true⟩,
 ⟨some 2,.mv (.k (.c (.raw (.slice none 0 0)))),none,true⟩,
 ⟨some 3,.mv (.k (.c (.int .i64 0))),none,true⟩]
abbrev o7_1:List Ins:=[⟨some 7,.ld false 8 (.t 1),none,true⟩,
 ⟨some 8,.call (.k (.fn 18 [])) [(.t 7),(.k (.fn 19 []))],none,true⟩,
 ⟨some 6,.mv (.t 8),none,true⟩,
 ⟨some 9,.ext (.t 6) 0,none,true⟩,
 ⟨some 10,.ext (.t 6) 1,none,true⟩,
 ⟨some 4,.mv (.t 9),none,true⟩,
 ⟨some 5,.mv (.t 10),none,true⟩]
abbrev o7_2:List Ins:=[⟨some 11,.mv (.t 5),none,true⟩,
 ⟨some 12,.bin .neq (.t 11) (.k (.c (.int .i64 0))),none,true⟩]
abbrev o7_3:List Ins:=[⟨some 13,.mv (.t 5),none,true⟩,
 ⟨some 2,.mv (.k (.c (.raw (.slice none 0 0)))),none,true⟩,
 ⟨some 3,.mv (.t 13),none,true⟩]
abbrev v7_4:VC:=(.seq (.ops o7_3) .ret)
abbrev v7_5:VC:=(.cond (.t 12) v7_4 .skip)
abbrev o7_6:List Ins:=[⟨some 14,.mv (.t 4),none,true⟩,
 ⟨some 15,.call (.k (.fn 20 [])) [(.t 14)],none,true⟩,
 ⟨some 16,.ext (.t 15) 0,none,true⟩,
 ⟨some 17,.ext (.t 15) 1,none,true⟩,
 ⟨some 2,.mv (.t 16),none,true⟩,
 ⟨some 3,.mv (.t 17),none,true⟩]
abbrev v7_7:VC:=(.seq (.ops o7_6) .ret)
abbrev v7_8:VC:=(.seq (.seq (.ops o7_2) v7_5) v7_7)
abbrev v7_9:VC:=(.seq (.ops o7_1) v7_8)
def ir7:FC:=⟨1,18,[.t 2,.t 3],(.seq (.ops o7_0) v7_9)⟩
theorem c37:compM Tryd.prog [] 37 = some ir37:=by kernel_rfl
theorem c20:compM Tryd.prog [] 20 = some ir20:=by kernel_rfl
theorem c7:compM Tryd.prog [] 7 = some ir7:=by kernel_rfl
def distL:List (Int × List Int) → List (List Int) → List (List Int)
 | [],out => out
 | x :: R,out => distL R (if x.2 ∈ out then out else out ++ [x.2])
def listsG (L:List (List Int)):List (List CD):=L.map fun l => [isC l]
theorem listsG_one (l):((listsG l).all fun e => e.length == 1) = true:=by
 rw [List.all_eq_true]; intro e he; obtain ⟨n,_,rfl⟩:=List.mem_map.1 he; rfl
theorem listsG_len (l):(listsG l).length = l.length:=List.length_map _
theorem listsG_snoc (l x):listsG (l ++ [x]) = listsG l ++ [[isC x]]:=by simp [listsG]
theorem rdsC_at {R:List (Int × List Int)} {k:Nat} (h:k < R.length):(rdsC R).getD k [] = rdC R[k]:=map_getD h
theorem distL_snoc (x:Int × List Int):∀ (R:List (Int × List Int)) (out:List (List Int)),distL (R ++ [x]) out = if x.2 ∈ distL R out then distL R out else distL R out ++ [x.2]
 | [],out => rfl
 | y :: R,out => distL_snoc x R _
theorem distL_len:∀ (R:List (Int × List Int)) (out:List (List Int)),(distL R out).length ≤ out.length + R.length
 | [],out => by simp [distL]
 | y :: R,out => by
  have:=distL_len R (if y.2 ∈ out then out else out ++ [y.2])
  unfold distL
  rw [List.length_cons]
  have h2:(if y.2 ∈ out then out else out ++ [y.2]).length ≤ out.length + 1:=by split <;> simp
  omega
theorem distL_mem:∀ (R:List (Int × List Int)) (out:List (List Int)) (l:List Int),l ∈ distL R out ↔ l ∈ out ∨ ∃ x ∈ R,x.2 = l
 | [],out,l => by simp [distL]
 | y :: R,out,l => by
  unfold distL
  rw [distL_mem R _ l]
  simp only [List.mem_cons,exists_eq_or_imp]
  split
  ·rename_i h
   constructor
   ·rintro (h1 | h1)
    ·exact .inl h1
    ·exact .inr (.inr h1)
   ·rintro (h1 | rfl | h1)
    ·exact .inl h1
    ·exact .inl h
    ·exact .inr h1
  ·rw [List.mem_append,List.mem_singleton]
   constructor
   ·rintro ((h1 | rfl) | h1)
    ·exact .inl h1
    ·exact .inr (.inl rfl)
    ·exact .inr (.inr h1)
   ·rintro (h1 | rfl | h1)
    ·exact .inl (.inl h1)
    ·exact .inl (.inr rfl)
    ·exact .inr h1
set_option maxHeartbeats 4000000 in
theorem lists37 (R:List (Int × List Int)) (hR:R.length ≤ 100000) (ha:∀ x ∈ R,x.2.length ≤ 100000):FSpec Tryd.prog 37 [.c (.sl 2 (rdsC R))] (.c (listsC (distL R []))):=by
 have hmax:maxLen = 9223372036854775807:=rfl
 refine FSpec_of c37 (Nat.le_refl _) (by decide) fun C hP hN hC hL => ?_; rw [init_st]
 simp only [ir37]
 (repeat ((first | refine Va ?_ | refine Vb ?_ | refine Vc ?_ | refine Vd ?_ | refine Ve ?_ | refine Vf ?_); (try simp only [go_sem,hP,rdsC_len]); (repeat refine qJ ?_)))
 refine WV_nilslot 3 20 22 1 (by decide) (by decide) rfl rfl ?_
 simp only [go_sem]
 refine WV_loopS (fun k:Nat => ⟨upd (upd (upd (upd e0 3 (.gr 20)) 6 (.c (.sl 2 (rdsC R)))) 7 (iv R.length)) 8 (iv k),upd o0 20 (.grow 22 1 (listsG (distL (R.take k) [])))⟩) (fun k => k ≤ R.length) (fun k => R.length - k) 0 (Nat.zero_le _) ?_ ?_
 ·(refine Sub_of (by simp only [go_sem]; ((repeat' (first | exact EnvLe_e0 _ _ | refine EnvLe_upd ?_ ?_)) <;> ((try simp only [upd_app,e0_app,o0_app,Nat.reduceEqDiff,reduceIte]); first | exact AWk.refl _ _ | exact AWk.int (by omega) | exact AWk.int (by rw [w64 (by omega) (by omega)]; omega) | exact AWk.grow rfl | exact AWk.nil _ | exact AWk.of (by simp [listsG,distL])))) (by simp only [go_sem]; exact ObjLe_au))
 intro k hk
 (repeat ((first | refine Va ?_ | refine Vb ?_ | refine Vc ?_ | refine Vd ?_ | refine Ve ?_ | refine Vf ?_); (try simp only [go_sem,hP]); (repeat refine qJ ?_)))
 (refine WV_cond rfl (fun h => ?_) (fun h => ?_))
 ·have hi:k < R.length:=by simpa using h
  have hw:=w64 (n:=(k:Int) + 1) (by omega) (by omega)
  have hsn:distL (R.take (k + 1)) [] = if R[k].2 ∈ distL (R.take k) [] then distL (R.take k) [] else distL (R.take k) [] ++ [R[k].2]:=by rw [List.take_succ_eq_append_getElem hi]; exact distL_snoc R[k] _ _
  have hlen:(distL (R.take k) []).length ≤ 100000:=by
   have:=distL_len (R.take k) []
   simp at this
   omega
  have hmem:∀ a ∈ distL (R.take k) [],a.length ≤ 100000:=fun a h => by
   rcases (distL_mem _ _ _).1 h with h | ⟨x,hx,rfl⟩
   ·cases h
   ·exact ha x (List.mem_of_mem_take hx)
  generalize distL (R.take k) [] = L at hsn hlen hmem ⊢
  have hat:=rdsC_at hi
  have hct:=contains61 L R[k] hlen hmem
  generalize R[k] = x at hsn hat hct
  have n1:=listsG_one L
  have n2:=listsG_len L
  (refine WV_skip ?_; simp only [go_sem])
  refine WV_seq_ (WV_block (WV_seq_ ?_))
  (refine WV_op ?_; simp only [go_sem,hP,hat,rdsC_len,Int.toNat_natCast,Int.ofNat_lt,hi,Int.natCast_nonneg,rdC]; (repeat refine qJ ?_))
  refine WV_freeze 5 (ds:=rdC x) rfl rfl ?_
  simp only [go_sem,List.drop_zero]
  (repeat ((first | refine Va ?_ | refine Vb ?_ | refine Vc ?_ | refine Vd ?_ | refine Ve ?_ | refine Vf ?_); (try simp only [go_sem,hP]); (repeat refine qJ ?_)))
  change FSpec Tryd.prog 61 [.c (.sl 1 (listsG L)),.fn 62 [.c (.pt (rdC x))]] _ at hct
  (refine AS_pu (hct) ?_; simp only [go_sem,hP]; (repeat refine qJ ?_); (repeat ((first | refine Va ?_ | refine Vb ?_ | refine Vc ?_ | refine Vd ?_ | refine Ve ?_ | refine Vf ?_); (try simp only [go_sem,hP]); (repeat refine qJ ?_))))
  by_cases hx:x.2 ∈ L
  ·rw [if_pos hx] at hsn
   (refine WV_cond rfl (fun h => ?_) (fun h => ?_))
   ·simp at h; exact (h hx).elim
   (repeat ((first | refine Va ?_ | refine Vb ?_ | refine Vc ?_ | refine Vd ?_ | refine Ve ?_ | refine Vf ?_); (try simp only [go_sem,hP,hw]); (repeat refine qJ ?_)))
   refine ⟨k + 1,by omega,by omega,?_⟩
   rw [hsn]
   exact Sub_au
  ·rw [if_neg hx] at hsn
   (refine WV_cond rfl (fun h => ?_) (fun h => ?_))
   ·(repeat ((first | refine Va ?_ | refine Vb ?_ | refine Vc ?_ | refine Vd ?_ | refine Ve ?_ | refine Vf ?_); (try simp only [go_sem,hP,n1,n2,rdC,hw]); (repeat refine qJ ?_)))
    refine ⟨k + 1,by omega,by omega,?_⟩
    rw [hsn,listsG_snoc]
    exact Sub_au
   ·simp at h; exact (hx h).elim
 ·have hi:k = R.length:=by simp at h; omega
  subst hi
  rw [List.take_length]
  refine WV_exit ?_
  simp only [thenQ,inQ,reduceIte,beq_self_eq_true]
  (repeat ((first | refine Va ?_ | refine Vb ?_ | refine Vc ?_ | refine Vd ?_ | refine Ve ?_ | refine Vf ?_); (try simp only [go_sem,hP]); (repeat refine qJ ?_)))
  (refine WV_ret ?_; simp only [thenQ,inQ,RetQ,RetOk,resAll,resA]; simp only [go_sem,tupA,AV.port,AV.portL,exists_eq_left'])
  exact AVle.refl _
def oneLs (L:List (List Int)):List Int:=if 1 < L.length then [] else L.getD 0 []
def oneE (L:List (List Int)):Int:=if 1 < L.length then 2 else 0
def oneV (L:List (List Int)):AV:=.tup [.c (isC (oneLs L)),iv (oneE L)]
theorem one20 (R:List (Int × List Int)) (hR:R.length ≤ 100000) (ha:∀ x ∈ R,x.2.length ≤ 100000) (hne:R ≠ []):FSpec Tryd.prog 20 [.c (.sl 2 (rdsC R))] (oneV (distL R [])):=by
 have hpos:0 < (distL R []).length:=by
  rcases R with _ | ⟨x,R⟩
  ·exact (hne rfl).elim
  ·have:x.2 ∈ distL (x :: R) []:=(distL_mem _ _ _).2 (.inr ⟨x,by simp,rfl⟩)
   exact List.length_pos_of_mem this
 have h37:=lists37 R hR ha
 generalize distL R [] = L at hpos h37 ⊢
 have hat:=listsC_at hpos
 refine FSpec_of c20 (Nat.le_refl _) (by decide) fun C hP hN hC hL => ?_; rw [init_st]
 simp only [ir20]
 (repeat ((first | refine Va ?_ | refine Vb ?_ | refine Vc ?_ | refine Vd ?_ | refine Ve ?_ | refine Vf ?_); (try simp only [go_sem,hP]); (repeat refine qJ ?_)))
 (refine AS_pu (h37) ?_; simp only [go_sem,hP,listsC,List.length_map]; (repeat refine qJ ?_); (repeat ((first | refine Va ?_ | refine Vb ?_ | refine Vc ?_ | refine Vd ?_ | refine Ve ?_ | refine Vf ?_); (try simp only [go_sem,hP,listsC,List.length_map]); (repeat refine qJ ?_))))
 by_cases h1:1 < L.length
 ·have ho:oneV L = .tup [.c (isC []),iv 2]:=by unfold oneV oneLs oneE; rw [if_pos h1,if_pos h1]
  rw [ho]
  (refine WV_cond rfl (fun h => ?_) (fun h => ?_))
  ·(repeat ((first | refine Va ?_ | refine Vb ?_ | refine Vc ?_ | refine Vd ?_ | refine Ve ?_ | refine Vf ?_); (try simp only [go_sem,hP]); (repeat refine qJ ?_)))
   (refine WV_ret ?_; simp only [thenQ,inQ,RetQ,RetOk,resAll,resA]; simp only [go_sem,tupA,AV.port,AV.portL,exists_eq_left'])
   exact AVle.tup ⟨_,_,rfl,AVle.nil 1,_,_,rfl,AVle.refl _,rfl⟩
  ·simp at h; omega
 ·have ho:oneV L = .tup [.c (isC L[0]),iv 0]:=by unfold oneV oneLs oneE; rw [if_neg h1,if_neg h1,List.getD_eq_getElem?_getD,List.getElem?_eq_getElem hpos]; rfl
  rw [ho]
  (refine WV_cond rfl (fun h => ?_) (fun h => ?_))
  ·simp at h; omega
  have hlt:(0:Int) < (L.length:Int):=by omega
  (repeat ((first | refine Va ?_ | refine Vb ?_ | refine Vc ?_ | refine Vd ?_ | refine Ve ?_ | refine Vf ?_); (try simp only [go_sem,hP,listsC,List.length_map,hat,hlt]); (repeat refine qJ ?_)))
  (refine WV_ret ?_; simp only [thenQ,inQ,RetQ,RetOk,resAll,resA]; simp only [go_sem,tupA,AV.port,AV.portL,exists_eq_left'])
  rw [show Int.toNat 0 = 0 from rfl,hat]
  exact AVle.refl _
def readV (p:Tr):AV:=if allR p = [] then .tup [.c (isC []),iv 3] else oneV (distL (allR p) [])
theorem listT_len {p:Tr} {ts l:List Int} (h:listT p ts = some l):l.length ≤ ts.length + 1:=by
 unfold listT at h
 split at h
 ·cases h
 ·rename_i x hx
  split at h
  ·simp only [Option.some.injEq] at h; subst h; simp
  ·rename_i h0
   split at h
   ·simp only [Option.some.injEq] at h; subst h
    obtain ⟨j,hj⟩ : ∃ j,ts.length = j + 1:=⟨ts.length - 1,by omega⟩
    rw [hj] at hx
    have:=(stT_ok hx).1
    simp; omega
   ·cases h
theorem readsC_mem {p:Tr} {c:Nat} {x:Int × List Int} (h:x ∈ readsC p c):listT p (leftT p.ti x.1) = some x.2:=by
 obtain ⟨s,_,h⟩:=List.mem_filterMap.1 h
 obtain ⟨l,hl,rfl⟩:=Option.map_eq_some_iff.1 h
 exact hl
theorem allK_mem {p:Tr} {x:Int × List Int}:∀ {k:Nat},x ∈ allK p k → listT p (leftT p.ti x.1) = some x.2
 | 0,h => by cases h
 | k + 1,h => by
  rcases List.mem_append.1 h with h | h
  ·exact allK_mem h
  ·exact readsC_mem h
theorem allR_short {p:Tr} (hp:TrOk p) {x:Int × List Int} (h:x ∈ allR p):x.2.length ≤ 25:=by
 have:=listT_len (allK_mem h)
 have:=leftK_len p.ti x.1 p.ti.length
 have:=hp.len
 unfold leftT at *
 omega
theorem allR_len {p:Tr} (hp:TrOk p):(allR p).length ≤ 100000:=by
 have:=hp.sp
 have:=allK_len hp (p.sp + 1).toNat (by omega)
 unfold allR
 omega
theorem read7 {p:Tr} (hp:TrOk p):FSpec Tryd.prog 7 [.agg p.avs] (readV p):=by
 have ho:=open18 hp
 unfold openV at ho
 have hal:=allR_len hp
 have hsh:=fun x hx => allR_short (x:=x) hp hx
 have hrv:readV p = if allR p = [] then .tup [.c (isC []),iv 3] else oneV (distL (allR p) []):=rfl
 generalize allR p = R at ho hal hsh hrv
 refine FSpec_of c7 (Nat.le_refl _) (by decide) fun C hP hN hC hL => ?_; rw [init_st]
 simp only [ir7]
 refine WV_seq_ ?_
 (refine WV_op ?_; simp only [go_sem,hP,Tr.avs]; (repeat refine qJ ?_))
 by_cases hR:R = []
 ·rw [if_pos hR] at ho hrv
  rw [hrv]
  (repeat ((first | refine Va ?_ | refine Vb ?_ | refine Vc ?_ | refine Vd ?_ | refine Ve ?_ | refine Vf ?_); (try simp only [go_sem,hP]); (repeat refine qJ ?_)))
  (refine AS_pu (ho) ?_; simp only [go_sem,hP]; (repeat refine qJ ?_); (repeat ((first | refine Va ?_ | refine Vb ?_ | refine Vc ?_ | refine Vd ?_ | refine Ve ?_ | refine Vf ?_); (try simp only [go_sem,hP]); (repeat refine qJ ?_))))
  (refine WV_cond rfl (fun h => ?_) (fun h => ?_))
  ·(repeat ((first | refine Va ?_ | refine Vb ?_ | refine Vc ?_ | refine Vd ?_ | refine Ve ?_ | refine Vf ?_); (try simp only [go_sem,hP]); (repeat refine qJ ?_)))
   (refine WV_ret ?_; simp only [thenQ,inQ,RetQ,RetOk,resAll,resA]; simp only [go_sem,tupA,AV.port,AV.portL,exists_eq_left'])
   exact AVle.tup ⟨_,_,rfl,AVle.nil 1,_,_,rfl,AVle.refl _,rfl⟩
  ·simp at h
 ·rw [if_neg hR] at ho hrv
  rw [hrv]
  have h20:=one20 R hal (fun x hx => by have:=hsh x hx; omega) hR
  (repeat ((first | refine Va ?_ | refine Vb ?_ | refine Vc ?_ | refine Vd ?_ | refine Ve ?_ | refine Vf ?_); (try simp only [go_sem,hP]); (repeat refine qJ ?_)))
  (refine AS_pu (ho) ?_; simp only [go_sem,hP]; (repeat refine qJ ?_); (repeat ((first | refine Va ?_ | refine Vb ?_ | refine Vc ?_ | refine Vd ?_ | refine Ve ?_ | refine Vf ?_); (try simp only [go_sem,hP]); (repeat refine qJ ?_))))
  (refine WV_cond rfl (fun h => ?_) (fun h => ?_))
  ·simp at h
  (repeat ((first | refine Va ?_ | refine Vb ?_ | refine Vc ?_ | refine Vd ?_ | refine Ve ?_ | refine Vf ?_); (try simp only [go_sem,hP]); (repeat refine qJ ?_)))
  unfold oneV at h20 ⊢
  (refine AS_pu (h20) ?_; simp only [go_sem,hP]; (repeat refine qJ ?_); (repeat ((first | refine Va ?_ | refine Vb ?_ | refine Vc ?_ | refine Vd ?_ | refine Ve ?_ | refine Vf ?_); (try simp only [go_sem,hP]); (repeat refine qJ ?_))))
  (refine WV_ret ?_; simp only [thenQ,inQ,RetQ,RetOk,resAll,resA]; simp only [go_sem,tupA,AV.port,AV.portL,exists_eq_left'])
  exact AVle.refl _
end Go.Proofs.YtdoidahbimonhaaDoor

namespace Go.Proofs.YtdoidahbimonhaaDoor
open Go Go.V
abbrev o31_0:List Ins:=[⟨some 3,.mv (.k (.c (.bool false))),none,true⟩]
abbrev o31_1:List Ins:=[⟨some 4,.ld false 8 (.t 1),none,true⟩,
 ⟨some 5,.mv (.t 0),none,true⟩,
 ⟨some 6,.call (.k (.fn 32 [])) [(.t 4),(.t 5)],none,true⟩,
 ⟨some 7,.un .not (.t 6),none,true⟩,
 ⟨some 3,.mv (.t 7),none,true⟩]
abbrev v31_2:VC:=(.seq (.ops o31_1) .ret)
def ir31:FC:=⟨2,8,[.t 3],(.seq (.ops o31_0) v31_2)⟩
abbrev o55_0:List Ins:=[⟨some 4,.mv (.k (.c (.int .i64 0))),none,true⟩]
abbrev o55_1:List Ins:=[⟨some 6,.mv (.t 0),none,true⟩,
 ⟨some 7,.len (.t 6),none,true⟩,
 ⟨some 8,.mv (.k (.c (.int .i64 0))),none,true⟩]
abbrev o55_2:List Ins:=[⟨some 9,.bin .lss (.t 8) (.t 7),none,true⟩]
abbrev o55_3:List Ins:=[⟨some 10,.mv (.t 8),none,true⟩,
 ⟨some 5,.mv (.t 10),none,true⟩]
abbrev o55_4:List Ins:=[⟨some 11,.mv (.t 1),none,true⟩,
 ⟨some 12,.mv (.t 0),none,true⟩,
 ⟨some 13,.mv (.t 5),none,true⟩,
 ⟨some 14,.ia 1 (.t 12) (.t 13),none,true⟩,
 ⟨some 15,.ld true 1 (.t 14),none,true⟩,
 ⟨some 16,.call (.t 11) [(.t 15)],none,true⟩]
abbrev o55_5:List Ins:=[⟨some 17,.mv (.t 5),none,true⟩,
 ⟨some 4,.mv (.t 17),none,true⟩]
abbrev v55_6:VC:=(.seq (.ops o55_5) .ret)
abbrev v55_7:VC:=(.cond (.t 16) v55_6 .skip)
abbrev v55_8:VC:=(.seq (.ops o55_4) v55_7)
abbrev v55_9:VC:=(.seq (.ops o55_3) v55_8)
abbrev o55_10:List Ins:=[⟨some 18,.bin .add (.t 8) (.k (.c (.int .i64 1))),none,true⟩,
 ⟨some 8,.mv (.t 18),none,true⟩]
abbrev v55_11:VC:=(.seq (.block 1 v55_9) (.ops o55_10))
abbrev v55_12:VC:=(.seq (.cond (.t 9) .skip (.exit 0)) v55_11)
abbrev v55_13:VC:=(.seq (.ops o55_2) v55_12)
-- K55_1: changed and kept: [8]
abbrev v55_14:VC:=(.loop v55_13)
abbrev v55_15:VC:=(.block 0 v55_14)
abbrev o55_16:List Ins:=[⟨some 4,.mv (.k (.c (.int .i64 (-1)))),none,true⟩]
abbrev v55_17:VC:=(.seq (.ops o55_16) .ret)
abbrev v55_18:VC:=(.seq (.seq (.ops o55_1) v55_15) v55_17)
def ir55:FC:=⟨2,19,[.t 4],(.seq (.ops o55_0) v55_18)⟩
abbrev o30_0:List Ins:=[⟨some 4,.mv (.k (.c (.bool false))),none,true⟩]
abbrev o30_1:List Ins:=[⟨some 5,.mv (.t 0),none,true⟩,
 ⟨some 6,.mv (.t 1),none,true⟩,
 ⟨some 7,.call (.k (.fn 55 [])) [(.t 5),(.t 6)],none,true⟩,
 ⟨some 8,.bin .geq (.t 7) (.k (.c (.int .i64 0))),none,true⟩,
 ⟨some 4,.mv (.t 8),none,true⟩]
abbrev v30_2:VC:=(.seq (.ops o30_1) .ret)
def ir30:FC:=⟨2,9,[.t 4],(.seq (.ops o30_0) v30_2)⟩
abbrev o33_0:List Ins:=[⟨some 7,.mv (.t 1),none,true⟩,
 ⟨some 8,.mv (.k (.c (.int .i64 0))),none,true⟩]
abbrev o33_1:List Ins:=[⟨some 9,.bin .lss (.t 8) (.t 7),none,true⟩]
abbrev o33_2:List Ins:=[⟨some 10,.ld true 1 (.t 2),none,true⟩,
 ⟨some 11,.len (.t 10),none,true⟩,
 ⟨some 12,.bin .gtr (.t 11) (.k (.c (.int .i64 0))),none,true⟩]
abbrev o33_3:List Ins:=[⟨some 13,.ld true 1 (.t 3),none,true⟩,
 ⟨some 14,.mv (.t 0),none,true⟩,
 ⟨some 15,.bin .add (.t 13) (.t 14),none,true⟩,
 ⟨none,.st 1 (.t 3) (.t 15),none,true⟩]
abbrev v33_4:VC:=(.cond (.t 12) (.ops o33_3) .skip)
abbrev o33_5:List Ins:=[⟨some 16,.ld true 1 (.t 2),none,false⟩,
 ⟨some 17,.ld true 1 (.t 3),none,false⟩,
 ⟨some 18,.bsl 3 1 [(.t 17)],none,false⟩,
 ⟨some 19,.app 3 1 8 (.t 16) (.t 18),none,false⟩,
 ⟨some 20,.fa 2 (.t 4),none,false⟩,
 ⟨some 21,.ldd true 1 (.t 20),none,false⟩,
 ⟨none,.st 1 (.t 2) (.t 19),none,false⟩,
 ⟨some 0,.mv (.t 21),none,true⟩]
abbrev v33_6:VC:=(.seq (.seq (.ops o33_2) v33_4) (.dops o33_5))
abbrev o33_7:List Ins:=[⟨some 22,.bin .add (.t 8) (.k (.c (.int .i64 1))),none,true⟩,
 ⟨some 8,.mv (.t 22),none,true⟩]
abbrev v33_8:VC:=(.seq (.block 1 v33_6) (.ops o33_7))
abbrev v33_9:VC:=(.seq (.cond (.t 9) .skip (.exit 0)) v33_8)
abbrev v33_10:VC:=(.seq (.ops o33_1) v33_9)
-- K33_1: changed and kept: [8,0]
abbrev v33_11:VC:=(.loop v33_10)
abbrev v33_12:VC:=(.block 0 v33_11)
def ir33:FC:=⟨5,23,[],(.seq (.ops o33_0) v33_12)⟩
theorem c31:compM Tryd.prog [] 31 = some ir31:=by kernel_rfl
theorem c55:compM Tryd.prog [] 55 = some ir55:=by kernel_rfl
theorem c30:compM Tryd.prog [] 30 = some ir30:=by kernel_rfl
theorem c33:compM Tryd.prog [200021] 33 = some ir33:=by kernel_rfl
attribute [local go_sem] Nat.reduceEqDiff Nat.reduceAdd Nat.reduceMul reduceIte Nat.reduceLeDiff Nat.reduceLT Nat.reduceBEq reduceCtorEq
def isSelB (p:Tr) (n:Int):Bool:=inB n 0 (p.le * p.nu - 1)
theorem not31 {p:Tr} (hp:TrOk p) (n:Int):FSpec Tryd.prog 31 [iv n,.c (.pt p.cds)] (.c (.bool (!isSelB p n))):=by
 have e8:List.map AV.c (List.take 8 p.cds) = p.avs:=rfl
 have e9:8 ≤ p.cds.length:=Nat.le_refl _
 have h:=isSel32 hp n
 change FSpec Tryd.prog 32 _ (.c (.bool (isSelB p n))) at h
 refine FSpec_of c31 (Nat.le_refl _) (by decide) fun C hP hN hC hL => ?_; rw [init_st]
 simp only [ir31]
 (repeat ((first | refine Va ?_ | refine Vb ?_ | refine Vc ?_ | refine Vd ?_ | refine Ve ?_ | refine Vf ?_); (try simp only [go_sem,hP,e8,e9]); (repeat refine qJ ?_)))
 (refine AS_pu (h) ?_; simp only [go_sem,hP]; (repeat refine qJ ?_); (repeat ((first | refine Va ?_ | refine Vb ?_ | refine Vc ?_ | refine Vd ?_ | refine Ve ?_ | refine Vf ?_); (try simp only [go_sem,hP]); (repeat refine qJ ?_))))
 (refine WV_ret ?_; simp only [thenQ,inQ,RetQ,RetOk,resAll,resA]; simp only [go_sem,tupA,AV.port,AV.portL,exists_eq_left']; (first | exact AVle.of rfl | refine AVle.of ?_ | skip))
set_option maxHeartbeats 4000000 in
theorem none55 {p:Tr} (hp:TrOk p) (l:List Int) (hl:l.length ≤ 100000) (ha:∀ n ∈ l,isSelB p n = true):FSpec Tryd.prog 55 [.c (isC l),.fn 31 [.c (.pt p.cds)]] (iv (-1)):=by
 refine FSpec_of c55 (Nat.le_refl _) (by decide) fun C hP hN hC hL => ?_; rw [init_st]
 simp only [ir55,isC]
 (repeat ((first | refine Va ?_ | refine Vb ?_ | refine Vc ?_ | refine Vd ?_ | refine Ve ?_ | refine Vf ?_); (try simp only [go_sem,hP,List.length_map]); (repeat refine qJ ?_)))
 refine WV_loopS (fun k:Nat => ⟨upd (upd (upd (upd e0 0 (.c (isC l))) 1 (.fn 31 [.c (.pt p.cds)])) 7 (iv l.length)) 8 (iv k),o0⟩) (fun k => k ≤ l.length) (fun k => l.length - k) 0 (Nat.zero_le _) ?_ ?_
 ·(refine Sub_of (by simp only [go_sem]; ((repeat' (first | exact EnvLe_e0 _ _ | refine EnvLe_upd ?_ ?_)) <;> ((try simp only [upd_app,e0_app,o0_app,Nat.reduceEqDiff,reduceIte]); first | exact AWk.refl _ _ | exact AWk.int (by omega) | exact AWk.int (by rw [w64 (by omega) (by omega)]; omega) | exact AWk.grow rfl | exact AWk.nil _ | exact AWk.of (by simp [isC])))) (by simp only [go_sem]; exact ObjLe_au))
 intro k hk
 (repeat ((first | refine Va ?_ | refine Vb ?_ | refine Vc ?_ | refine Vd ?_ | refine Ve ?_ | refine Vf ?_); (try simp only [go_sem,hP]); (repeat refine qJ ?_)))
 (refine WV_cond rfl (fun h => ?_) (fun h => ?_))
 ·have hi:k < l.length:=by simpa using h
  have hw:=w64 (n:=(k:Int) + 1) (by omega) (by omega)
  have hin:=ha _ (List.getElem_mem hi)
  (repeat ((first | refine Va ?_ | refine Vb ?_ | refine Vc ?_ | refine Vd ?_ | refine Ve ?_ | refine Vf ?_); (try simp only [go_sem,hP,isC,isC_at hi,List.length_map,Int.toNat_natCast,Int.ofNat_lt,hi,Int.natCast_nonneg]); (repeat refine qJ ?_)))
  (refine AS_pu (not31 hp l[k]) ?_; simp only [go_sem,hP]; (repeat refine qJ ?_); (repeat ((first | refine Va ?_ | refine Vb ?_ | refine Vc ?_ | refine Vd ?_ | refine Ve ?_ | refine Vf ?_); (try simp only [go_sem,hP]); (repeat refine qJ ?_))))
  rw [hin]
  (refine WV_cond rfl (fun h => ?_) (fun h => ?_))
  ·simp at h
  (repeat ((first | refine Va ?_ | refine Vb ?_ | refine Vc ?_ | refine Vd ?_ | refine Ve ?_ | refine Vf ?_); (try simp only [go_sem,hP,hw]); (repeat refine qJ ?_)))
  refine ⟨k + 1,by omega,by omega,?_⟩
  (refine Sub_of (by simp only [go_sem]; ((repeat' (first | exact EnvLe_e0 _ _ | refine EnvLe_upd ?_ ?_)) <;> ((try simp only [upd_app,e0_app,o0_app,Nat.reduceEqDiff,reduceIte]); first | exact AWk.refl _ _ | exact AWk.int (by omega) | exact AWk.int (by rw [w64 (by omega) (by omega)]; omega) | exact AWk.grow rfl | exact AWk.nil _ | exact AWk.of (by simp [isC])))) (by simp only [go_sem]; exact ObjLe_au))
 ·have hi:k = l.length:=by simp at h; omega
  subst hi
  refine WV_exit ?_
  simp only [thenQ,inQ,reduceIte,beq_self_eq_true]
  (repeat ((first | refine Va ?_ | refine Vb ?_ | refine Vc ?_ | refine Vd ?_ | refine Ve ?_ | refine Vf ?_); (try simp only [go_sem,hP]); (repeat refine qJ ?_)))
  (refine WV_ret ?_; simp only [thenQ,inQ,RetQ,RetOk,resAll,resA]; simp only [go_sem,tupA,AV.port,AV.portL,exists_eq_left']; (first | exact AVle.of rfl | refine AVle.of ?_ | skip))
theorem none30 {p:Tr} (hp:TrOk p) (l:List Int) (hl:l.length ≤ 100000) (ha:∀ n ∈ l,isSelB p n = true):FSpec Tryd.prog 30 [.c (isC l),.fn 31 [.c (.pt p.cds)]] (.c (.bool false)):=by
 refine FSpec_of c30 (Nat.le_refl _) (by decide) fun C hP hN hC hL => ?_; rw [init_st]
 simp only [ir30]
 (repeat ((first | refine Va ?_ | refine Vb ?_ | refine Vc ?_ | refine Vd ?_ | refine Ve ?_ | refine Vf ?_); (try simp only [go_sem,hP]); (repeat refine qJ ?_)))
 (refine AS_pu (none55 hp l hl ha) ?_; simp only [go_sem,hP]; (repeat refine qJ ?_); (repeat ((first | refine Va ?_ | refine Vb ?_ | refine Vc ?_ | refine Vd ?_ | refine Ve ?_ | refine Vf ?_); (try simp only [go_sem,hP]); (repeat refine qJ ?_))))
 (refine WV_ret ?_; simp only [thenQ,inQ,RetQ,RetOk,resAll,resA]; simp only [go_sem,tupA,AV.port,AV.portL,exists_eq_left']; (first | exact AVle.of rfl | refine AVle.of ?_ | skip))
def addS (p:Tr) (d:Int) (q:List Int × Int):Nat → List Int × Int
 | 0 => q
 | k + 1 => ((addS p d q k).1 ++ [if (addS p d q k).1 = [] then (addS p d q k).2 else (addS p d q k).2 + (if k = 0 then d else p.pi)],if (addS p d q k).1 = [] then (addS p d q k).2 else (addS p d q k).2 + (if k = 0 then d else p.pi))
theorem addS_len (p:Tr) (d:Int) (q:List Int × Int):∀ k,(addS p d q k).1.length = q.1.length + k
 | 0 => rfl
 | k + 1 => by simp only [addS,List.length_append,List.length_singleton,addS_len p d q k]; omega
theorem addS_le {p:Tr} (hp:TrOk p) {d:Int} (hd:0 ≤ d ∧ d ≤ 999) (q:List Int × Int):∀ k:Nat,q.2 ≤ (addS p d q k).2 ∧ (addS p d q k).2 ≤ q.2 + k * 999
 | 0 => by simp [addS]
 | k + 1 => by
  have:=addS_le hp hd q k
  have:=hp.pi
  simp only [addS]
  split
  ·omega
  ·split <;> omega
set_option maxRecDepth 20000 in
set_option maxHeartbeats 8000000 in
theorem add33 {p:Tr} (hp:TrOk p) (d:Int) (hd:0 ≤ d ∧ d ≤ 999) (m:Nat) (hm:m ≤ 5) (q:List Int × Int) (hq:q.1.length ≤ 1000) (hq2:0 ≤ q.2 ∧ q.2 ≤ 1000000):FSpecL Tryd.prog 33 [iv d,iv m,.bp 1000 0,.bp 1002 0,.c (.pt p.cds)] [.box [.gr 1001],.grow 3 1 (isG q.1),.box [iv q.2]] []
  (fun r l' => r = .tup [] ∧ l' = [.box [.gr 1001],.grow 3 1 (isG (addS p d q m).1),.box [iv (addS p d q m).2]]):=by
 have hmax:maxLen = 9223372036854775807:=rfl
 have hpi:=hp.pi
 refine FSpecL_ofX c33 (by first | simp | exact Nat.le_of_ble_eq_true rfl) (Nat.le_refl _) (by decide) (by decide) fun C hP hN hC hpin hL => ?_; rw [init_env',ownW_upd (by first | simp | exact Nat.le_of_ble_eq_true rfl)]; simp only [ir33,updL,updLo,List.map_nil,List.map_cons,Nat.reduceAdd,]
 simp only [Tr.cds]
 (repeat ((first | refine Va ?_ | refine Vb ?_ | refine Vc ?_ | refine Vd ?_ | refine Ve ?_ | refine Vf ?_); (try simp only [go_sem,hP]); (repeat refine qJ ?_)))
 refine WV_loopS (fun k:Nat => ⟨upd (upd (upd (upd (upd (upd e0 0 (iv (if k = 0 then d else p.pi))) 2 (.bp 1000 0)) 3 (.bp 1002 0)) 4 (.c (.pt p.cds))) 7 (iv m)) 8 (iv k),upd (upd (upd o0 1000 (.box [.gr 1001])) 1001 (.grow 3 1 (isG (addS p d q k).1))) 1002 (.box [iv (addS p d q k).2])⟩) (fun k => k ≤ m) (fun k => m - k) 0 (Nat.zero_le _) ?_ ?_
 ·(refine Sub_of (by simp only [go_sem]; ((repeat' (first | exact EnvLe_e0 _ _ | refine EnvLe_upd ?_ ?_)) <;> ((try simp only [upd_app,e0_app,o0_app,Nat.reduceEqDiff,reduceIte]); first | exact AWk.refl _ _ | exact AWk.int (by omega) | exact AWk.int (by rw [w64 (by omega) (by omega)]; omega) | exact AWk.grow rfl | exact AWk.nil _ | exact AWk.of (by simp [Tr.cds,addS])))) (by simp only [go_sem]; exact ObjLe_au))
 intro k hk
 (repeat ((first | refine Va ?_ | refine Vb ?_ | refine Vc ?_ | refine Vd ?_ | refine Ve ?_ | refine Vf ?_); (try simp only [go_sem,hP,Tr.cds]); (repeat refine qJ ?_)))
 have hlen:=addS_len p d q k
 have hle:=addS_le hp hd q k
 (refine WV_cond rfl (fun h => ?_) (fun h => ?_))
 ·have hi:k < m:=by simpa using h
  have hw:=w64 (n:=(k:Int) + 1) (by omega) (by omega)
  have hs1:(addS p d q (k + 1)).1 = (addS p d q k).1 ++ [if (addS p d q k).1 = [] then (addS p d q k).2 else (addS p d q k).2 + (if k = 0 then d else p.pi)]:=rfl
  have hs2:(addS p d q (k + 1)).2 = if (addS p d q k).1 = [] then (addS p d q k).2 else (addS p d q k).2 + (if k = 0 then d else p.pi):=rfl
  have hdd:0 ≤ (if k = 0 then d else p.pi) ∧ (if k = 0 then d else p.pi) ≤ 999:=by split <;> omega
  generalize (if k = 0 then d else p.pi) = dd at hs1 hs2 hdd
  generalize (addS p d q k).1 = out at hs1 hs2 hlen ⊢
  generalize (addS p d q k).2 = fr at hs1 hs2 hle ⊢
  have hw2:=w64 (n:=fr + dd) (by omega) (by omega)
  have n1:=isG_one out
  have n2:=isG_len out
  (repeat ((first | refine Va ?_ | refine Vb ?_ | refine Vc ?_ | refine Vd ?_ | refine Ve ?_ | refine Vf ?_); (try simp only [go_sem,hP,n2]); (repeat refine qJ ?_)))
  by_cases ho:out = []
  ·rw [if_pos ho] at hs1 hs2
   (refine WV_cond rfl (fun h => ?_) (fun h => ?_))
   ·simp [n2,ho] at h
   (refine WV_skip ?_; simp only [go_sem])
   (refine WV_op ?_; simp only [go_sem,hP,n1,n2]; (repeat refine qJ ?_))
   refine WV_keep [0,2,3,4,7,8] ?_
   simp only [go_sem]
   refine WV_moveP 19 1001 (by decide) (fun hq => by have h2:false = true:=hpin 1001 hq; cases h2) rfl ?_
   unfold rnO
   simp only [go_sem,rnP_upd,rnE_upd,rnE_e0,rnP_o0,AV.rn,AV.rnL,Ob.rn]
   rw [← isG_snoc]
   (repeat ((first | refine Va ?_ | refine Vb ?_ | refine Vc ?_ | refine Vd ?_ | refine Ve ?_ | refine Vf ?_); (try simp only [go_sem,hP,hw]); (repeat refine qJ ?_)))
   refine ⟨k + 1,by omega,by omega,?_⟩
   rw [hs1,hs2]
   (refine Sub_of (by simp only [go_sem]; ((repeat' (first | exact EnvLe_e0 _ _ | refine EnvLe_upd ?_ ?_)) <;> ((try simp only [upd_app,e0_app,o0_app,Nat.reduceEqDiff,reduceIte]); first | exact AWk.refl _ _ | exact AWk.int (by omega) | exact AWk.int (by rw [w64 (by omega) (by omega)]; omega) | exact AWk.grow rfl | exact AWk.nil _ | exact AWk.of (by simp [Tr.cds])))) (by simp only [go_sem]; exact ObjLe_au))
  ·rw [if_neg ho] at hs1 hs2
   have hpos:0 < out.length:=List.length_pos_iff.2 ho
   (refine WV_cond rfl (fun h => ?_) (fun h => ?_))
   rotate_left
   ·rw [decide_eq_false_iff_not] at h; omega
   (refine WV_op ?_; simp only [go_sem,hP,hw2]; (repeat refine qJ ?_))
   (refine WV_op ?_; simp only [go_sem,hP,n1,n2]; (repeat refine qJ ?_))
   refine WV_keep [0,2,3,4,7,8] ?_
   simp only [go_sem]
   refine WV_moveP 19 1001 (by decide) (fun hq => by have h2:false = true:=hpin 1001 hq; cases h2) rfl ?_
   unfold rnO
   simp only [go_sem,rnP_upd,rnE_upd,rnE_e0,rnP_o0,AV.rn,AV.rnL,Ob.rn]
   rw [← isG_snoc]
   (repeat ((first | refine Va ?_ | refine Vb ?_ | refine Vc ?_ | refine Vd ?_ | refine Ve ?_ | refine Vf ?_); (try simp only [go_sem,hP,hw]); (repeat refine qJ ?_)))
   refine ⟨k + 1,by omega,by omega,?_⟩
   rw [hs1,hs2]
   (refine Sub_of (by simp only [go_sem]; ((repeat' (first | exact EnvLe_e0 _ _ | refine EnvLe_upd ?_ ?_)) <;> ((try simp only [upd_app,e0_app,o0_app,Nat.reduceEqDiff,reduceIte]); first | exact AWk.refl _ _ | exact AWk.int (by omega) | exact AWk.int (by rw [w64 (by omega) (by omega)]; omega) | exact AWk.grow rfl | exact AWk.nil _ | exact AWk.of (by simp [Tr.cds])))) (by simp only [go_sem]; exact ObjLe_au))
 ·have hi:k = m:=by simp at h; omega
  subst hi
  refine WV_exit ?_
  simp only [thenQ,inQ,reduceIte,beq_self_eq_true]
  ((try simp only [thenQ,inQ,RetQL,RetOkL,resAll,resA]); (try simp only [go_sem,tupA,AV.keepP,AV.keepPL]); refine ⟨_,[.box [.gr 1001],.grow 3 1 (isG (addS p d q k).1),.box [iv (addS p d q k).2]],rfl,KeepL_mk rfl rfl ?_ ?_ rfl,?_⟩)
  ·simp only [go_sem,keepAll,Ob.keepP,AV.keepP,AV.keepPL,Tr.cds]
  ·simp only [go_sem,winAll]
  ·exact ⟨rfl,rfl⟩
end Go.Proofs.YtdoidahbimonhaaDoor

namespace Go.Proofs.YtdoidahbimonhaaDoor
open Go Go.V
abbrev o15_0:List Ins:=[⟨some 3,.box 8 (.t 0),none,true⟩,
 ⟨some 5,.box 1 (.t 2),none,true⟩,
 ⟨some 6,.mv (.k (.c (.raw (.slice none 0 0)))),none,true⟩,
 ⟨some 7,.mv (.k (.c (.int .i64 0))),none,true⟩]
abbrev o15_1:List Ins:=[⟨some 14,.ld false 8 (.t 3),none,true⟩,
 ⟨some 15,.call (.k (.fn 28 [])) [(.t 14)],none,true⟩,
 ⟨some 8,.mv (.t 15),none,true⟩]
abbrev o15_2:List Ins:=[⟨some 16,.mv (.t 8),none,true⟩,
 ⟨some 17,.bin .neq (.t 16) (.k (.c (.int .i64 0))),none,true⟩]
abbrev o15_3:List Ins:=[⟨some 18,.mv (.t 8),none,true⟩,
 ⟨some 6,.mv (.k (.c (.raw (.slice none 0 0)))),none,true⟩,
 ⟨some 7,.mv (.t 18),none,true⟩]
abbrev v15_4:VC:=(.seq (.ops o15_3) .ret)
abbrev v15_5:VC:=(.cond (.t 17) v15_4 .skip)
abbrev v15_6:VC:=(.seq (.ops o15_2) v15_5)
abbrev o15_7:List Ins:=[⟨some 19,.ld false 8 (.t 3),none,true⟩,
 ⟨some 20,.bld [(.c (.int .i64 0)),(.c (.int .i64 0)),(.c (.int .i64 0)),(.c (.int .i64 0)),(.c (.int .i64 0)),(.c (.int .i64 0)),(.c (.int .i64 0)),(.c (.raw (.slice none 0 0)))] [(0,8,(.t 19))],none,true⟩,
 ⟨some 9,.alloc [(.c (.int .i64 0)),(.c (.int .i64 0)),(.c (.int .i64 0)),(.c (.int .i64 0)),(.c (.int .i64 0)),(.c (.int .i64 0)),(.c (.int .i64 0)),(.c (.raw (.slice none 0 0)))],none,true⟩,
 ⟨none,.st 8 (.t 9) (.t 20),none,true⟩]
abbrev o15_8:List Ins:=[⟨some 21,.mv (.t 1),none,true⟩,
 ⟨some 22,.len (.t 21),none,true⟩,
 ⟨some 23,.bin .gtr (.t 22) (.k (.c (.int .i64 24))),none,true⟩,
 ⟨some 24,.mv (.t 23),none,true⟩,
 ⟨some 25,.ld true 1 (.t 5),(some (24,false)),true⟩,
 ⟨some 26,.call (.k (.fn 29 [])) [(.t 25)],(some (24,false)),true⟩,
 ⟨some 27,.un .not (.t 26),(some (24,false)),true⟩,
 ⟨some 28,.pick (.t 24) (.k (.c (.bool true))) (.t 27),none,true⟩,
 ⟨some 29,.mv (.t 28),none,true⟩,
 ⟨some 30,.mv (.t 1),(some (29,false)),true⟩,
 ⟨some 31,.mkfn 31 [(.t 9)],(some (29,false)),true⟩,
 ⟨some 32,.call (.k (.fn 30 [])) [(.t 30),(.t 31)],(some (29,false)),true⟩,
 ⟨some 33,.pick (.t 29) (.k (.c (.bool true))) (.t 32),none,true⟩]
abbrev o15_9:List Ins:=[⟨some 6,.mv (.k (.c (.raw (.slice none 0 0)))),none,true⟩,
 ⟨some 7,.mv (.k (.c (.int .i64 1))),none,true⟩]
abbrev v15_10:VC:=(.seq (.ops o15_9) .ret)
abbrev v15_11:VC:=(.cond (.t 33) v15_10 .skip)
abbrev o15_12:List Ins:=[⟨some 10,.alloc [(.c (.raw (.slice none 0 0)))],none,true⟩]
abbrev o15_13:List Ins:=[⟨some 34,.mkfn 33 [(.t 10),(.t 5),(.t 3)],none,true⟩,
 ⟨some 11,.mv (.t 34),none,true⟩]
abbrev o15_14:List Ins:=[⟨some 35,.mv (.t 1),none,true⟩,
 ⟨some 36,.len (.t 35),none,true⟩,
 ⟨some 37,.mv (.k (.c (.int .i64 0))),none,true⟩]
abbrev o15_15:List Ins:=[⟨some 38,.bin .lss (.t 37) (.t 36),none,true⟩]
abbrev o15_16:List Ins:=[⟨some 39,.ia 1 (.t 35) (.t 37),none,true⟩,
 ⟨some 40,.ld true 1 (.t 39),none,true⟩,
 ⟨some 13,.mv (.t 40),none,true⟩]
abbrev o15_17:List Ins:=[⟨some 41,.mv (.t 11),none,false⟩,
 ⟨some 42,.fa 5 (.t 3),none,false⟩,
 ⟨some 43,.ld true 1 (.t 42),none,false⟩,
 ⟨some 44,.mv (.t 13),none,false⟩,
 ⟨some 45,.fa 1 (.t 3),none,false⟩,
 ⟨some 46,.ld true 1 (.t 45),none,false⟩,
 ⟨some 47,.bin .quo (.t 44) (.t 46),none,false⟩,
 ⟨some 48,.bin .add (.t 47) (.k (.c (.int .i64 1))),none,false⟩,
 ⟨some 49,.call (.t 41) [(.t 43),(.t 48)],none,true⟩]
abbrev o15_18:List Ins:=[⟨some 50,.mv (.t 11),none,false⟩,
 ⟨some 51,.fa 4 (.t 3),none,false⟩,
 ⟨some 52,.ld true 1 (.t 51),none,false⟩,
 ⟨some 53,.mv (.t 13),none,false⟩,
 ⟨some 54,.fa 1 (.t 3),none,false⟩,
 ⟨some 55,.ld true 1 (.t 54),none,false⟩,
 ⟨some 56,.bin .rem (.t 53) (.t 55),none,false⟩,
 ⟨some 57,.bin .add (.t 56) (.k (.c (.int .i64 1))),none,false⟩,
 ⟨some 58,.call (.t 50) [(.t 52),(.t 57)],none,true⟩]
abbrev v15_19:VC:=(.seq (.dops o15_17) (.dops o15_18))
abbrev v15_20:VC:=(.seq (.ops o15_16) v15_19)
abbrev o15_21:List Ins:=[⟨some 59,.bin .add (.t 37) (.k (.c (.int .i64 1))),none,true⟩,
 ⟨some 37,.mv (.t 59),none,true⟩]
abbrev v15_22:VC:=(.seq (.block 1 v15_20) (.ops o15_21))
abbrev v15_23:VC:=(.seq (.cond (.t 38) .skip (.exit 0)) v15_22)
abbrev v15_24:VC:=(.seq (.ops o15_15) v15_23)
-- K15_1: changed and kept: [37]
abbrev v15_25:VC:=(.loop v15_24)
abbrev v15_26:VC:=(.block 0 v15_25)
abbrev o15_27:List Ins:=[⟨some 60,.ld true 1 (.t 10),none,true⟩,
 ⟨some 61,.len (.t 60),none,true⟩,
 ⟨some 62,.bin .gtr (.t 61) (.k (.c (.int .i64 24))),none,true⟩,
 ⟨some 63,.mv (.t 62),none,true⟩,
 ⟨some 64,.ld true 1 (.t 5),(some (63,false)),true⟩,
 ⟨some 65,.call (.k (.fn 29 [])) [(.t 64)],(some (63,false)),true⟩,
 ⟨some 66,.un .not (.t 65),(some (63,false)),true⟩,
 ⟨some 67,.pick (.t 63) (.k (.c (.bool true))) (.t 66),none,true⟩]
abbrev o15_28:List Ins:=[⟨some 6,.mv (.k (.c (.raw (.slice none 0 0)))),none,true⟩,
 ⟨some 7,.mv (.k (.c (.int .i64 131))),none,true⟩]
abbrev v15_29:VC:=(.seq (.ops o15_28) .ret)
abbrev v15_30:VC:=(.cond (.t 67) v15_29 .skip)
abbrev o15_31:List Ins:=[⟨some 68,.ld true 1 (.t 10),none,true⟩,
 ⟨some 6,.mv (.t 68),none,true⟩,
 ⟨some 7,.mv (.k (.c (.int .i64 0))),none,true⟩]
abbrev v15_32:VC:=(.seq (.ops o15_31) .ret)
abbrev v15_33:VC:=(.seq (.seq (.ops o15_27) v15_30) v15_32)
abbrev v15_34:VC:=(.seq (.seq (.ops o15_14) v15_26) v15_33)
abbrev v15_35:VC:=(.seq (.ops o15_13) v15_34)
abbrev v15_36:VC:=(.seq (.ops o15_12) v15_35)
abbrev v15_37:VC:=(.seq (.seq (.ops o15_8) v15_11) v15_36)
abbrev v15_38:VC:=(.seq (.ops o15_7) v15_37)
abbrev v15_39:VC:=(.seq (.seq (.ops o15_1) v15_6) v15_38)
def ir15:FC:=⟨3,69,[.t 6,.t 7],(.seq (.ops o15_0) v15_39)⟩
theorem c15:compM Tryd.prog [49,58] 15 = some ir15:=by kernel_rfl
attribute [local go_sem] Nat.reduceEqDiff Nat.reduceAdd Nat.reduceMul reduceIte Nat.reduceLeDiff Nat.reduceLT Nat.reduceBEq reduceCtorEq
def selS (p:Tr) (q:List Int × Int) (n:Int):List Int × Int:=addS p p.ga (addS p p.pa q (Int.tdiv n p.nu + 1).toNat) (Int.tmod n p.nu + 1).toNat
def selsS (p:Tr) (l:List Int):List Int × Int:=l.foldl (selS p) ([],0)
theorem sel_parts {p:Tr} (hp:TrOk p) {n:Int} (h:isSelB p n = true):(0 ≤ Int.tdiv n p.nu ∧ Int.tdiv n p.nu ≤ p.le - 1) ∧ 0 ≤ Int.tmod n p.nu ∧ Int.tmod n p.nu ≤ p.nu - 1:=by
 have h1:=hp.le
 have h2:=hp.nu
 unfold isSelB inB at h
 rw [Bool.and_eq_true,decide_eq_true_eq,decide_eq_true_eq] at h
 rw [Int.tdiv_eq_ediv_of_nonneg h.1,Int.tmod_eq_emod_of_nonneg h.1]
 have h3:=Int.emod_nonneg n (b:=p.nu) (by omega)
 have h4:=Int.emod_lt_of_pos n (b:=p.nu) (by omega)
 have h5:=Int.ediv_nonneg (a:=n) (b:=p.nu) h.1 (by omega)
 have h6:n / p.nu < p.le:=Int.ediv_lt_of_lt_mul (by omega) (by omega)
 omega
theorem selsS_len {p:Tr} (hp:TrOk p) (l:List Int) (ha:∀ n ∈ l,isSelB p n = true):(selsS p l).1.length ≤ 10 * l.length ∧ 0 ≤ (selsS p l).2 ∧ (selsS p l).2 ≤ 10000 * l.length:=by
 unfold selsS
 have hgen:∀ (l:List Int) (q:List Int × Int),(∀ n ∈ l,isSelB p n = true) → (l.foldl (selS p) q).1.length ≤ q.1.length + 10 * l.length ∧ q.2 ≤ (l.foldl (selS p) q).2 ∧ (l.foldl (selS p) q).2 ≤ q.2 + 10000 * l.length:=by
  intro l
  induction l with
  | nil => intro q _; simp
  | cons n l ih =>
   intro q hq
   have h1:=ih (selS p q n) fun m hm => hq m (by simp [hm])
   have h2:=sel_parts hp (hq n (by simp))
   have hle:=hp.le
   have hnu:=hp.nu
   have hpa:=hp.pa
   have hga:=hp.ga
   have hpi:=hp.pi
   have hsl:=hp.sl
   have e1:=addS_len p p.ga (addS p p.pa q (Int.tdiv n p.nu + 1).toNat) (Int.tmod n p.nu + 1).toNat
   have e2:=addS_len p p.pa q (Int.tdiv n p.nu + 1).toNat
   have e3:=addS_le hp (d:=p.ga) (by omega) (addS p p.pa q (Int.tdiv n p.nu + 1).toNat) (Int.tmod n p.nu + 1).toNat
   have e4:=addS_le hp (d:=p.pa) (by omega) q (Int.tdiv n p.nu + 1).toNat
   have e5:selS p q n = addS p p.ga (addS p p.pa q (Int.tdiv n p.nu + 1).toNat) (Int.tmod n p.nu + 1).toNat:=rfl
   rw [← e5] at e1 e3
   rw [List.foldl_cons,List.length_cons]
   omega
 have:=hgen l ([],0) ha
 simpa using this
def writeOk (q:List Int × Int):Bool:=decide (q.1.length ≤ 24) && inB q.2 0 99999
def writeV (q:List Int × Int):AV:=if writeOk q = true then .tup [.c (isC q.1),iv 0] else .tup [.c (isC []),iv 131]
set_option maxRecDepth 20000 in
set_option maxHeartbeats 8000000 in
theorem write15 {p:Tr} (hp:TrOk p) (l:List Int) (hl:l.length ≤ 24) (ha:∀ n ∈ l,isSelB p n = true):FSpec Tryd.prog 15 [.agg p.avs,.c (isC l),iv 0] (writeV (selsS p l)):=by
 have hmax:maxLen = 9223372036854775807:=rfl
 have e8:List.map AV.c (List.take 8 p.cds) = p.avs:=rfl
 have e9:8 ≤ p.cds.length:=Nat.le_refl _
 have hle:=hp.le
 have hnu:=hp.nu
 have hpa:=hp.pa
 have hga:=hp.ga
 have hpi:=hp.pi
 have hsl:=hp.sl
 refine FSpec_of c15 (Nat.le_refl _) (by decide) fun C hP hN hC hL => ?_; rw [init_st]
 simp only [ir15]
 refine WV_seq_ ?_
 (refine WV_op ?_; simp only [go_sem,hP,Tr.avs]; (repeat refine qJ ?_))
 refine WV_freeze 3 (ds:=p.cds) rfl rfl ?_
 simp only [go_sem,List.drop_zero]
 (repeat ((first | refine Va ?_ | refine Vb ?_ | refine Vc ?_ | refine Vd ?_ | refine Ve ?_ | refine Vf ?_); (try simp only [go_sem,hP,e8,e9]); (repeat refine qJ ?_)))
 (refine AS_pu (check28 hp) ?_; simp only [go_sem,hP]; (repeat refine qJ ?_); (repeat ((first | refine Va ?_ | refine Vb ?_ | refine Vc ?_ | refine Vd ?_ | refine Ve ?_ | refine Vf ?_); (try simp only [go_sem,hP]); (repeat refine qJ ?_))))
 (refine WV_cond rfl (fun h => ?_) (fun h => ?_))
 ·simp at h
 (refine WV_skip ?_; simp only [go_sem])
 refine WV_seq_ ?_
 (refine WV_op ?_; simp only [go_sem,hP,e8,e9,Tr.avs]; (repeat refine qJ ?_))
 refine WV_freeze 9 (ds:=p.cds) rfl rfl ?_
 simp only [go_sem,List.drop_zero]
 have hdl:decide ((24:Int) < (l.length:Int)) = false:=by rw [decide_eq_false_iff_not]; omega
 (repeat ((first | refine Va ?_ | refine Vb ?_ | refine Vc ?_ | refine Vd ?_ | refine Ve ?_ | refine Vf ?_); (try simp only [go_sem,hP,isC,List.length_map,hdl]); (repeat refine qJ ?_)))
 (refine AG_pu (fun hG => isTime29 0) ?_; simp only [go_sem,hP]; (repeat refine qJ ?_); (repeat ((first | refine Va ?_ | refine Vb ?_ | refine Vc ?_ | refine Vd ?_ | refine Ve ?_ | refine Vf ?_); (try simp only [go_sem,hP]); (repeat refine qJ ?_))))
 (refine AG_pu (fun hG => none30 hp l (by omega) ha) ?_; simp only [go_sem,hP]; (repeat refine qJ ?_); (repeat ((first | refine Va ?_ | refine Vb ?_ | refine Vc ?_ | refine Vd ?_ | refine Ve ?_ | refine Vf ?_); (try simp only [go_sem,hP]); (repeat refine qJ ?_))))
 (refine WV_cond rfl (fun h => ?_) (fun h => ?_))
 ·simp [inB] at h
 (repeat ((first | refine Va ?_ | refine Vb ?_ | refine Vc ?_ | refine Vd ?_ | refine Ve ?_ | refine Vf ?_); (try simp only [go_sem,hP]); (repeat refine qJ ?_)))
 refine WV_keep [1,3,5,10,11,35,36,37] ?_
 simp only [go_sem]
 refine WV_nilbox 10 0 602 3 1 (by decide) (by decide) (by decide) rfl rfl rfl ?_
 simp only [go_sem]
 refine WV_loopS (fun k:Nat => ⟨upd (upd (upd (upd (upd (upd (upd e0 3 (.c (.pt p.cds))) 5 (.bp 5 0)) 10 (.bp 10 0)) 11 (.fn 33 [.bp 10 0,.bp 5 0,.c (.pt p.cds)])) 35 (.c (isC l))) 36 (iv l.length)) 37 (iv k),upd (upd (upd o0 10 (.box [.gr 602])) 602 (.grow 3 1 (isG (selsS p (l.take k)).1))) 5 (.box [iv (selsS p (l.take k)).2])⟩) (fun k => k ≤ l.length) (fun k => l.length - k) 0 (Nat.zero_le _) ?_ ?_
 ·(refine Sub_of (by simp only [go_sem]; ((repeat' (first | exact EnvLe_e0 _ _ | refine EnvLe_upd ?_ ?_)) <;> ((try simp only [upd_app,e0_app,o0_app,Nat.reduceEqDiff,reduceIte]); first | exact AWk.refl _ _ | exact AWk.int (by omega) | exact AWk.int (by rw [w64 (by omega) (by omega)]; omega) | exact AWk.grow rfl | exact AWk.nil _ | exact AWk.of (by simp [isC,isG,selsS])))) (by simp only [go_sem]; exact ObjLe_au))
 intro k hk
 (repeat ((first | refine Va ?_ | refine Vb ?_ | refine Vc ?_ | refine Vd ?_ | refine Ve ?_ | refine Vf ?_); (try simp only [go_sem,hP]); (repeat refine qJ ?_)))
 (refine WV_cond rfl (fun h => ?_) (fun h => ?_))
 ·have hi:k < l.length:=by simpa using h
  have hw:=w64 (n:=(k:Int) + 1) (by omega) (by omega)
  have hb:=selsS_len hp (l.take k) fun n hn => ha n (List.mem_of_mem_take hn)
  have hlt:(l.take k).length ≤ 24:=by rw [List.length_take]; omega
  have hsn:selsS p (l.take (k + 1)) = selS p (selsS p (l.take k)) l[k]:=by rw [List.take_succ_eq_append_getElem hi]; unfold selsS; rw [List.foldl_append]; rfl
  have hpt:=sel_parts hp (ha _ (List.getElem_mem hi))
  have hgd:=isC_at hi
  generalize selsS p (l.take k) = q at hsn hb ⊢
  unfold selS at hsn
  obtain ⟨n,hnn⟩ : ∃ n,n = l[k]:=⟨_,rfl⟩
  rw [← hnn] at hpt hgd hsn
  obtain ⟨A,hA⟩ : ∃ A:Nat,Int.tdiv n p.nu + 1 = A:=⟨(Int.tdiv n p.nu + 1).toNat,by omega⟩
  obtain ⟨B,hB⟩ : ∃ B:Nat,Int.tmod n p.nu + 1 = B:=⟨(Int.tmod n p.nu + 1).toNat,by omega⟩
  rw [hA,hB,Int.toNat_natCast,Int.toNat_natCast] at hsn
  have w1:=w64 (n:=Int.tdiv n p.nu) (by omega) (by omega)
  have w2:=w64 (n:=Int.tdiv n p.nu + 1) (by omega) (by omega)
  have w3:=w64 (n:=Int.tmod n p.nu + 1) (by omega) (by omega)
  rw [hA] at w2
  rw [hB] at w3
  have hnz:p.nu ≠ 0:=by omega
  have l1:=addS_len p p.pa q A
  have l2:=addS_le hp (d:=p.pa) (by omega) q A
  have h1:=add33 hp p.pa (by omega) A (by omega) q (by omega) (by omega)
  have h2:=add33 hp p.ga (by omega) B (by omega) (addS p p.pa q A) (by omega) (by omega)
  change FSpecL Tryd.prog 33 [iv p.pa,iv A,.bp 1000 0,.bp 1002 0,.c (.pt [.int .i64 p.le,.int .i64 p.nu,.int .i64 p.pi,.int .i64 p.sl,.int .i64 p.ga,.int .i64 p.pa,.int .i64 p.sp,.sl 1 (p.ti.map fun n => [.int .i64 n])])] _ _ _ at h1
  change FSpecL Tryd.prog 33 [iv p.ga,iv B,.bp 1000 0,.bp 1002 0,.c (.pt [.int .i64 p.le,.int .i64 p.nu,.int .i64 p.pi,.int .i64 p.sl,.int .i64 p.ga,.int .i64 p.pa,.int .i64 p.sp,.sl 1 (p.ti.map fun n => [.int .i64 n])])] _ _ _ at h2
  (repeat ((first | refine Va ?_ | refine Vb ?_ | refine Vc ?_ | refine Vd ?_ | refine Ve ?_ | refine Vf ?_); (try simp only [go_sem,hP,isC,hgd,List.length_map,Int.toNat_natCast,Int.ofNat_lt,hi,Int.natCast_nonneg,Tr.cds,w1,w2,w3,hnz,hA]); (repeat refine qJ ?_)))
  (refine AS_lend [10,602,5] (h1) rfl rfl rfl (by decide) rfl (by simp only [go_sem,obsLend,Ob.lend,AV.lend,AV.lendL]) ?_)
  rintro r l' ⟨rfl,rfl⟩
  (refine ⟨_,_,rfl,(by simp only [obsBack,Ob.back,AV.back,AV.backL,]; rfl),?_⟩; simp only [go_sem,hP,ownBack])
  (repeat ((first | refine Va ?_ | refine Vb ?_ | refine Vc ?_ | refine Vd ?_ | refine Ve ?_ | refine Vf ?_); (try simp only [go_sem,hP,w1,w3,hnz,hB]); (repeat refine qJ ?_)))
  (refine AS_lend [10,602,5] (h2) rfl rfl rfl (by decide) rfl (by simp only [go_sem,obsLend,Ob.lend,AV.lend,AV.lendL]) ?_)
  rintro r l' ⟨rfl,rfl⟩
  (refine ⟨_,_,rfl,(by simp only [obsBack,Ob.back,AV.back,AV.backL,]; rfl),?_⟩; simp only [go_sem,hP,ownBack])
  (repeat ((first | refine Va ?_ | refine Vb ?_ | refine Vc ?_ | refine Vd ?_ | refine Ve ?_ | refine Vf ?_); (try simp only [go_sem,hP,hw]); (repeat refine qJ ?_)))
  refine ⟨k + 1,by omega,by omega,?_⟩
  rw [hsn]
  (refine Sub_of (by simp only [go_sem]; ((repeat' (first | exact EnvLe_e0 _ _ | refine EnvLe_upd ?_ ?_)) <;> ((try simp only [upd_app,e0_app,o0_app,Nat.reduceEqDiff,reduceIte]); first | exact AWk.refl _ _ | exact AWk.int (by omega) | exact AWk.int (by rw [w64 (by omega) (by omega)]; omega) | exact AWk.grow rfl | exact AWk.nil _ | exact AWk.of (by simp [isC,Tr.cds])))) (by simp only [go_sem]; exact ObjLe_au))
 ·have hi:k = l.length:=by simp at h; omega
  subst hi
  rw [List.take_length]
  refine WV_exit ?_
  simp only [thenQ,inQ,reduceIte,beq_self_eq_true]
  generalize selsS p l = q
  have n2:=isG_len q.1
  by_cases h24:q.1.length ≤ 24
  ·have hdl:decide ((24:Int) < (q.1.length:Int)) = false:=by rw [decide_eq_false_iff_not]; omega
   (repeat ((first | refine Va ?_ | refine Vb ?_ | refine Vc ?_ | refine Vd ?_ | refine Ve ?_ | refine Vf ?_); (try simp only [go_sem,hP,n2,hdl]); (repeat refine qJ ?_)))
   (refine AG_pu (fun hG => isTime29 q.2) ?_; simp only [go_sem,hP]; (repeat refine qJ ?_); (repeat ((first | refine Va ?_ | refine Vb ?_ | refine Vc ?_ | refine Vd ?_ | refine Ve ?_ | refine Vf ?_); (try simp only [go_sem,hP]); (repeat refine qJ ?_))))
   by_cases hin:inB q.2 0 99999 = true
   ·have hv:writeV q = .tup [.c (isC q.1),iv 0]:=by unfold writeV writeOk; rw [if_pos (by simp [h24,hin])]
    rw [hv,hin]
    (refine WV_cond rfl (fun h => ?_) (fun h => ?_))
    ·simp at h
    (repeat ((first | refine Va ?_ | refine Vb ?_ | refine Vc ?_ | refine Vd ?_ | refine Ve ?_ | refine Vf ?_); (try simp only [go_sem,hP]); (repeat refine qJ ?_)))
    (refine WV_ret ?_; simp only [thenQ,inQ,RetQ,RetOk,resAll,resA]; simp only [go_sem,tupA,AV.port,AV.portL,exists_eq_left'])
    exact AVle.refl _
   ·have hv:writeV q = .tup [.c (isC []),iv 131]:=by unfold writeV writeOk; rw [if_neg (by simp [hin])]
    have hin:inB q.2 0 99999 = false:=by simpa using hin
    rw [hv,hin]
    (refine WV_cond rfl (fun h => ?_) (fun h => ?_))
    ·(repeat ((first | refine Va ?_ | refine Vb ?_ | refine Vc ?_ | refine Vd ?_ | refine Ve ?_ | refine Vf ?_); (try simp only [go_sem,hP]); (repeat refine qJ ?_)))
     (refine WV_ret ?_; simp only [thenQ,inQ,RetQ,RetOk,resAll,resA]; simp only [go_sem,tupA,AV.port,AV.portL,exists_eq_left'])
     exact AVle.tup ⟨_,_,rfl,AVle.nil 1,_,_,rfl,AVle.refl _,rfl⟩
    ·simp at h
  ·have hv:writeV q = .tup [.c (isC []),iv 131]:=by unfold writeV writeOk; rw [if_neg (by simp [h24])]
   have hdl:decide ((24:Int) < (q.1.length:Int)) = true:=by rw [decide_eq_true_eq]; omega
   rw [hv]
   (repeat ((first | refine Va ?_ | refine Vb ?_ | refine Vc ?_ | refine Vd ?_ | refine Ve ?_ | refine Vf ?_); (try simp only [go_sem,hP,n2,hdl]); (repeat refine qJ ?_)))
   (refine AG_skip ?_; simp only [go_sem,hP]; (repeat refine qJ ?_); (repeat ((first | refine Va ?_ | refine Vb ?_ | refine Vc ?_ | refine Vd ?_ | refine Ve ?_ | refine Vf ?_); (try simp only [go_sem,hP]); (repeat refine qJ ?_))))
   (refine WV_cond rfl (fun h => ?_) (fun h => ?_))
   ·(repeat ((first | refine Va ?_ | refine Vb ?_ | refine Vc ?_ | refine Vd ?_ | refine Ve ?_ | refine Vf ?_); (try simp only [go_sem,hP]); (repeat refine qJ ?_)))
    (refine WV_ret ?_; simp only [thenQ,inQ,RetQ,RetOk,resAll,resA]; simp only [go_sem,tupA,AV.port,AV.portL,exists_eq_left'])
    exact AVle.tup ⟨_,_,rfl,AVle.nil 1,_,_,rfl,AVle.refl _,rfl⟩
   ·simp at h
end Go.Proofs.YtdoidahbimonhaaDoor

namespace Go.Proofs.YtdoidahbimonhaaDoor
open Go Go.V
abbrev o34_0:List Ins:=[⟨some 6,.mv (.k (.c (.bool false))),none,true⟩]
abbrev o34_1:List Ins:=[⟨some 7,.mv (.t 0),none,true⟩,
 ⟨some 8,.mv (.t 1),none,true⟩,
 ⟨some 9,.bin .geq (.t 7) (.t 8),none,true⟩,
 ⟨some 10,.mv (.t 9),none,true⟩,
 ⟨some 11,.mv (.t 0),(some (10,true)),true⟩,
 ⟨some 12,.mv (.t 2),(some (10,true)),true⟩,
 ⟨some 13,.bin .leq (.t 11) (.t 12),(some (10,true)),true⟩,
 ⟨some 14,.pick (.t 10) (.t 13) (.k (.c (.bool false))),none,true⟩,
 ⟨some 6,.mv (.t 14),none,true⟩]
abbrev v34_2:VC:=(.seq (.ops o34_1) .ret)
def ir34:FC:=⟨3,15,[.t 6],(.seq (.ops o34_0) v34_2)⟩
abbrev o16_0:List Ins:=[⟨some 6,.mv (.k (.c (.bool false))),none,true⟩]
abbrev o16_1:List Ins:=[⟨some 7,.mv (.t 0),none,true⟩,
 ⟨some 8,.mv (.t 1),none,true⟩,
 ⟨some 9,.mv (.t 2),none,true⟩,
 ⟨some 10,.call (.k (.fn 34 [])) [(.t 7),(.t 8),(.t 9)],none,true⟩,
 ⟨some 6,.mv (.t 10),none,true⟩]
abbrev v16_2:VC:=(.seq (.ops o16_1) .ret)
def ir16:FC:=⟨3,11,[.t 6],(.seq (.ops o16_0) v16_2)⟩
abbrev o9_0:List Ins:=[⟨some 2,.box 8 (.t 0),none,true⟩,
 ⟨some 4,.mv (.k (.c (.bool false))),none,true⟩]
abbrev o9_1:List Ins:=[⟨some 5,.mv (.t 1),none,true⟩,
 ⟨some 6,.fa 0 (.t 2),none,true⟩,
 ⟨some 7,.ld true 1 (.t 6),none,true⟩,
 ⟨some 8,.fa 1 (.t 2),none,true⟩,
 ⟨some 9,.ld true 1 (.t 8),none,true⟩,
 ⟨some 10,.bin .mul (.t 7) (.t 9),none,true⟩,
 ⟨some 11,.bin .sub (.t 10) (.k (.c (.int .i64 1))),none,true⟩,
 ⟨some 12,.call (.k (.fn 16 [])) [(.t 5),(.k (.c (.int .i64 0))),(.t 11)],none,true⟩,
 ⟨some 4,.mv (.t 12),none,true⟩]
abbrev v9_2:VC:=(.seq (.ops o9_1) .ret)
def ir9:FC:=⟨2,13,[.t 4],(.seq (.ops o9_0) v9_2)⟩
abbrev o17_0:List Ins:=[⟨some 6,.mv (.k (.c (.bool false))),none,true⟩]
abbrev o17_1:List Ins:=[⟨some 7,.mv (.k (.c (.int .i64 0))),none,true⟩]
abbrev o17_2:List Ins:=[⟨some 8,.mv (.t 7),none,true⟩,
 ⟨some 9,.mv (.t 0),none,true⟩,
 ⟨some 10,.len (.t 9),none,true⟩,
 ⟨some 11,.bin .lss (.t 8) (.t 10),none,true⟩]
abbrev v17_3:VC:=(.cond (.t 11) .skip (.exit 0))
abbrev o17_4:List Ins:=[⟨some 14,.mv (.t 0),none,false⟩,
 ⟨some 15,.mv (.t 7),none,false⟩,
 ⟨some 16,.ia 1 (.t 14) (.t 15),none,false⟩,
 ⟨some 17,.ld true 1 (.t 16),none,false⟩,
 ⟨some 18,.mv (.t 1),none,false⟩,
 ⟨some 19,.mv (.t 2),none,false⟩,
 ⟨some 20,.call (.k (.fn 34 [])) [(.t 17),(.t 18),(.t 19)],none,true⟩,
 ⟨some 21,.un .not (.t 20),none,true⟩,
 ⟨some 22,.mv (.t 21),none,true⟩,
 ⟨some 23,.mv (.t 7),(some (22,false)),true⟩,
 ⟨some 24,.bin .gtr (.t 23) (.k (.c (.int .i64 0))),(some (22,false)),true⟩,
 ⟨some 25,.mv (.t 24),(some (22,false)),true⟩,
 ⟨some 26,.mv (.t 0),(some (25,true)),false⟩,
 ⟨some 27,.mv (.t 7),(some (25,true)),false⟩,
 ⟨some 28,.ia 1 (.t 26) (.t 27),(some (25,true)),false⟩,
 ⟨some 29,.ld true 1 (.t 28),(some (25,true)),false⟩,
 ⟨some 30,.mv (.t 0),(some (25,true)),false⟩,
 ⟨some 31,.mv (.t 7),(some (25,true)),false⟩,
 ⟨some 32,.bin .sub (.t 31) (.k (.c (.int .i64 1))),(some (25,true)),false⟩,
 ⟨some 33,.ia 1 (.t 30) (.t 32),(some (25,true)),false⟩,
 ⟨some 34,.ld true 1 (.t 33),(some (25,true)),false⟩,
 ⟨some 35,.bin .leq (.t 29) (.t 34),(some (25,true)),true⟩,
 ⟨some 36,.pick (.t 25) (.t 35) (.k (.c (.bool false))),(some (22,false)),true⟩,
 ⟨some 37,.pick (.t 22) (.k (.c (.bool true))) (.t 36),none,true⟩]
abbrev o17_5:List Ins:=[⟨some 6,.mv (.k (.c (.bool false))),none,true⟩]
abbrev v17_6:VC:=(.seq (.ops o17_5) .ret)
abbrev v17_7:VC:=(.cond (.t 37) v17_6 .skip)
abbrev v17_8:VC:=(.seq (.dops o17_4) v17_7)
abbrev o17_9:List Ins:=[⟨some 12,.mv (.t 7),none,true⟩,
 ⟨some 13,.bin .add (.t 12) (.k (.c (.int .i64 1))),none,true⟩,
 ⟨some 7,.mv (.t 13),none,true⟩]
abbrev v17_10:VC:=(.seq (.block 1 v17_8) (.ops o17_9))
abbrev v17_11:VC:=(.seq (.seq (.ops o17_2) v17_3) v17_10)
-- K17_1: changed and kept: [7]
abbrev v17_12:VC:=(.loop v17_11)
abbrev v17_13:VC:=(.block 0 v17_12)
abbrev o17_14:List Ins:=[⟨some 6,.mv (.k (.c (.bool true))),none,true⟩]
abbrev v17_15:VC:=(.seq (.ops o17_14) .ret)
abbrev v17_16:VC:=(.seq (.seq (.ops o17_1) v17_13) v17_15)
def ir17:FC:=⟨3,38,[.t 6],(.seq (.ops o17_0) v17_16)⟩
theorem c34:compM Tryd.prog [] 34 = some ir34:=by kernel_rfl
theorem c16:compM Tryd.prog [] 16 = some ir16:=by kernel_rfl
theorem c9:compM Tryd.prog [] 9 = some ir9:=by kernel_rfl
theorem c17:compM Tryd.prog [] 17 = some ir17:=by kernel_rfl
attribute [local go_sem] Nat.reduceEqDiff Nat.reduceAdd Nat.reduceMul reduceIte Nat.reduceLeDiff Nat.reduceLT Nat.reduceBEq reduceCtorEq
theorem within34 (n a b:Int):FSpec Tryd.prog 34 [iv n,iv a,iv b] (.c (.bool (inB n a b))):=by
 refine FSpec_of c34 (Nat.le_refl _) (by decide) fun C hP hN hC hL => ?_; rw [init_st]
 simp only [ir34]
 (repeat ((first | refine Va ?_ | refine Vb ?_ | refine Vc ?_ | refine Vd ?_ | refine Ve ?_ | refine Vf ?_); (try simp only [go_sem,hP]); (repeat refine qJ ?_)))
 (refine WV_ret ?_; simp only [thenQ,inQ,RetQ,RetOk,resAll,resA]; simp only [go_sem,tupA,AV.port,AV.portL,exists_eq_left']; (first | exact AVle.of rfl | refine AVle.of ?_ | skip))
theorem within16 (n a b:Int):FSpec Tryd.prog 16 [iv n,iv a,iv b] (.c (.bool (inB n a b))):=by
 refine FSpec_of c16 (Nat.le_refl _) (by decide) fun C hP hN hC hL => ?_; rw [init_st]
 simp only [ir16]
 (repeat ((first | refine Va ?_ | refine Vb ?_ | refine Vc ?_ | refine Vd ?_ | refine Ve ?_ | refine Vf ?_); (try simp only [go_sem,hP]); (repeat refine qJ ?_)))
 (refine AS_pu (within34 n a b) ?_; simp only [go_sem,hP]; (repeat refine qJ ?_); (repeat ((first | refine Va ?_ | refine Vb ?_ | refine Vc ?_ | refine Vd ?_ | refine Ve ?_ | refine Vf ?_); (try simp only [go_sem,hP]); (repeat refine qJ ?_))))
 (refine WV_ret ?_; simp only [thenQ,inQ,RetQ,RetOk,resAll,resA]; simp only [go_sem,tupA,AV.port,AV.portL,exists_eq_left']; (first | exact AVle.of rfl | refine AVle.of ?_ | skip))
theorem isSel9 {p:Tr} (hp:TrOk p) (n:Int):FSpec Tryd.prog 9 [.agg p.avs,iv n] (.c (.bool (isSelB p n))):=by
 have hm:=mul5 hp.le hp.nu
 have w1:=w64 (n:=p.le * p.nu) (by omega) (by omega)
 have w2:=w64 (n:=p.le * p.nu - 1) (by omega) (by omega)
 refine FSpec_of c9 (Nat.le_refl _) (by decide) fun C hP hN hC hL => ?_; rw [init_st]
 simp only [ir9,Tr.avs]
 (repeat ((first | refine Va ?_ | refine Vb ?_ | refine Vc ?_ | refine Vd ?_ | refine Ve ?_ | refine Vf ?_); (try simp only [go_sem,hP,w1,w2]); (repeat refine qJ ?_)))
 (refine AS_pu (within16 n 0 (p.le * p.nu - 1)) ?_; simp only [go_sem,hP]; (repeat refine qJ ?_); (repeat ((first | refine Va ?_ | refine Vb ?_ | refine Vc ?_ | refine Vd ?_ | refine Ve ?_ | refine Vf ?_); (try simp only [go_sem,hP]); (repeat refine qJ ?_))))
 (refine WV_ret ?_; simp only [thenQ,inQ,RetQ,RetOk,resAll,resA]; simp only [go_sem,tupA,AV.port,AV.portL,exists_eq_left']; (first | exact AVle.of rfl | refine AVle.of ?_ | skip))
def risK (l:List Int):Nat → Bool
 | 0 => true
 | k + 1 => risK l k && (inB (l.getD k 0) 0 99999 && (decide (k = 0) || decide (l.getD (k - 1) 0 < l.getD k 0)))
theorem risK_false {l:List Int}:∀ {k m:Nat},risK l k = false → k ≤ m → risK l m = false
 | k,0,h,hm => by rwa [show k = 0 by omega] at h
 | k,m + 1,h,hm => by
  rcases Nat.lt_or_ge m k with h1 | h1
  ·rwa [show k = m + 1 by omega] at h
  ·unfold risK; rw [risK_false h h1]; rfl
set_option maxHeartbeats 8000000 in
theorem rising17 (l:List Int) (hl:l.length ≤ 1000000):FSpec Tryd.prog 17 [.c (isC l),iv 0,iv 99999] (.c (.bool (risK l l.length))):=by
 have hga:∀ i:Nat,i < l.length → (l.map fun n => [CD.int .i64 n]).getD i [] = [.int .i64 (l.getD i 0)]:=fun i hi => by
  rw [map_getD hi,List.getD_eq_getElem?_getD,List.getElem?_eq_getElem hi]; rfl
 refine FSpec_of c17 (Nat.le_refl _) (by decide) fun C hP hN hC hL => ?_; rw [init_st]
 simp only [ir17]
 (repeat ((first | refine Va ?_ | refine Vb ?_ | refine Vc ?_ | refine Vd ?_ | refine Ve ?_ | refine Vf ?_); (try simp only [go_sem,hP]); (repeat refine qJ ?_)))
 refine WV_loopS (fun k:Nat => ⟨upd (upd (upd (upd e0 0 (.c (isC l))) 1 (iv 0)) 2 (iv 99999)) 7 (iv k),o0⟩) (fun k => k ≤ l.length ∧ risK l k = true) (fun k => l.length - k) 0 ⟨Nat.zero_le _,rfl⟩ ?_ ?_
 ·exact Sub_au
 rintro k ⟨hk,hr⟩
 (repeat ((first | refine Va ?_ | refine Vb ?_ | refine Vc ?_ | refine Vd ?_ | refine Ve ?_ | refine Vf ?_); (try simp only [go_sem,hP,isC,List.length_map]); (repeat refine qJ ?_)))
 (refine WV_cond rfl (fun h => ?_) (fun h => ?_))
 ·have hi:k < l.length:=by simpa using h
  have hw:=w64 (n:=(k:Int) + 1) (by omega) (by omega)
  have hgd:=hga k hi
  have hs:risK l (k + 1) = (inB (l.getD k 0) 0 99999 && (decide (k = 0) || decide (l.getD (k - 1) 0 < l.getD k 0))):=by
   conv => lhs; unfold risK
   rw [hr]; rfl
  have hfail:risK l (k + 1) = false → risK l l.length = false:=fun h => risK_false h hi
  generalize l.getD k 0 = a at hgd hs
  have hz0:(Go.IntKind.i64.wrap (((0:Nat):Int) - 1)).toNat = 0:=rfl
  by_cases hz:k = 0
  ·subst hz
   have hd0:decide ((0:Int) < ((0:Nat):Int)) = false:=rfl
   have hs:risK l (0 + 1) = inB a 0 99999:=by rw [hs]; simp
   (repeat ((first | refine Va ?_ | refine Vb ?_ | refine Vc ?_ | refine Vd ?_ | refine Ve ?_ | refine Vf ?_); (try simp only [go_sem,hP,hgd,isC,List.length_map,Int.toNat_natCast,Int.ofNat_lt,hi,Int.natCast_nonneg,hd0,hz0]); (repeat refine qJ ?_)))
   (refine AS_pu (within34 a 0 99999) ?_; simp only [go_sem,hP,hd0,hz0,hgd,isC,List.length_map,Int.toNat_natCast]; (repeat refine qJ ?_); (repeat ((first | refine Va ?_ | refine Vb ?_ | refine Vc ?_ | refine Vd ?_ | refine Ve ?_ | refine Vf ?_); (try simp only [go_sem,hP,hd0,hz0,hgd,isC,List.length_map,Int.toNat_natCast]); (repeat refine qJ ?_))))
   by_cases hin:inB a 0 99999 = true
   ·rw [hin] at hs
    (refine WV_cond rfl (fun h => ?_) (fun h => ?_))
    ·simp [hin] at h
    (repeat ((first | refine Va ?_ | refine Vb ?_ | refine Vc ?_ | refine Vd ?_ | refine Ve ?_ | refine Vf ?_); (try simp only [go_sem,hP,hw]); (repeat refine qJ ?_)))
    refine ⟨0 + 1,⟨by omega,hs⟩,by omega,?_⟩
    (refine Sub_of (by simp only [go_sem]; ((repeat' (first | exact EnvLe_e0 _ _ | refine EnvLe_upd ?_ ?_)) <;> ((try simp only [upd_app,e0_app,o0_app,Nat.reduceEqDiff,reduceIte]); first | exact AWk.refl _ _ | exact AWk.int (by omega) | exact AWk.int (by rw [w64 (by omega) (by omega)]; omega) | exact AWk.grow rfl | exact AWk.nil _ | exact AWk.of (by simp [isC])))) (by simp only [go_sem]; exact ObjLe_au))
   ·have hin:inB a 0 99999 = false:=by simpa using hin
    rw [hin] at hs
    rw [hfail hs]
    (refine WV_cond rfl (fun h => ?_) (fun h => ?_))
    ·(repeat ((first | refine Va ?_ | refine Vb ?_ | refine Vc ?_ | refine Vd ?_ | refine Ve ?_ | refine Vf ?_); (try simp only [go_sem,hP]); (repeat refine qJ ?_)))
     (refine WV_ret ?_; simp only [thenQ,inQ,RetQ,RetOk,resAll,resA]; simp only [go_sem,tupA,AV.port,AV.portL,exists_eq_left']; (first | exact AVle.of rfl | refine AVle.of ?_ | skip))
    ·simp [hin] at h
  ·have hgp:=hga (k - 1) (by omega)
   generalize l.getD (k - 1) 0 = b at hgp hs
   have hd1:decide ((0:Int) < (k:Int)) = true:=by rw [decide_eq_true_eq]; omega
   have wi:=w64 (n:=(k:Int) - 1) (by omega) (by omega)
   have ei:((k:Int) - 1).toNat = k - 1:=by omega
   have hlt:(k:Int) - 1 < (l.length:Int):=by omega
   have hge:(0:Int) ≤ (k:Int) - 1:=by omega
   have hs:risK l (k + 1) = (inB a 0 99999 && decide (b < a)):=by rw [hs]; simp [hz]
   (repeat ((first | refine Va ?_ | refine Vb ?_ | refine Vc ?_ | refine Vd ?_ | refine Ve ?_ | refine Vf ?_); (try simp only [go_sem,hP,hgd,isC,List.length_map,Int.toNat_natCast,Int.ofNat_lt,hi,Int.natCast_nonneg,hd1]); (repeat refine qJ ?_)))
   (refine AS_pu (within34 a 0 99999) ?_; simp only [go_sem,hP,hd1,hgd,hgp,wi,ei,hlt,hge,isC,List.length_map,Int.toNat_natCast,Int.ofNat_lt,hi,Int.natCast_nonneg]; (repeat refine qJ ?_); (repeat ((first | refine Va ?_ | refine Vb ?_ | refine Vc ?_ | refine Vd ?_ | refine Ve ?_ | refine Vf ?_); (try simp only [go_sem,hP,hd1,hgd,hgp,wi,ei,hlt,hge,isC,List.length_map,Int.toNat_natCast,Int.ofNat_lt,hi,Int.natCast_nonneg]); (repeat refine qJ ?_))))
   by_cases hin:(inB a 0 99999 && decide (b < a)) = true
   ·rw [hin] at hs
    rw [Bool.and_eq_true,decide_eq_true_eq] at hin
    (refine WV_cond rfl (fun h => ?_) (fun h => ?_))
    ·rw [hin.1] at h; simp at h; omega
    (repeat ((first | refine Va ?_ | refine Vb ?_ | refine Vc ?_ | refine Vd ?_ | refine Ve ?_ | refine Vf ?_); (try simp only [go_sem,hP,hw]); (repeat refine qJ ?_)))
    refine ⟨k + 1,⟨by omega,hs⟩,by omega,?_⟩
    (refine Sub_of (by simp only [go_sem]; ((repeat' (first | exact EnvLe_e0 _ _ | refine EnvLe_upd ?_ ?_)) <;> ((try simp only [upd_app,e0_app,o0_app,Nat.reduceEqDiff,reduceIte]); first | exact AWk.refl _ _ | exact AWk.int (by omega) | exact AWk.int (by rw [w64 (by omega) (by omega)]; omega) | exact AWk.grow rfl | exact AWk.nil _ | exact AWk.of (by simp [isC])))) (by simp only [go_sem]; exact ObjLe_au))
   ·have hin:(inB a 0 99999 && decide (b < a)) = false:=by simpa using hin
    rw [hin] at hs
    rw [hfail hs]
    (refine WV_cond rfl (fun h => ?_) (fun h => ?_))
    ·(repeat ((first | refine Va ?_ | refine Vb ?_ | refine Vc ?_ | refine Vd ?_ | refine Ve ?_ | refine Vf ?_); (try simp only [go_sem,hP]); (repeat refine qJ ?_)))
     (refine WV_ret ?_; simp only [thenQ,inQ,RetQ,RetOk,resAll,resA]; simp only [go_sem,tupA,AV.port,AV.portL,exists_eq_left']; (first | exact AVle.of rfl | refine AVle.of ?_ | skip))
    ·cases h1:inB a 0 99999 with
     | false => rw [h1] at h; simp at h
     | true => rw [h1] at h hin; simp at h hin; omega
 ·have hi:k = l.length:=by simp at h; omega
  subst hi
  rw [hr]
  (repeat ((first | refine Va ?_ | refine Vb ?_ | refine Vc ?_ | refine Vd ?_ | refine Ve ?_ | refine Vf ?_); (try simp only [go_sem,hP]); (repeat refine qJ ?_)))
  (refine WV_ret ?_; simp only [thenQ,inQ,RetQ,RetOk,resAll,resA]; simp only [go_sem,tupA,AV.port,AV.portL,exists_eq_left']; (first | exact AVle.of rfl | refine AVle.of ?_ | skip))
end Go.Proofs.YtdoidahbimonhaaDoor

namespace Go.Proofs.YtdoidahbimonhaaDoor
open Go Go.V
abbrev o5_0:List Ins:=[⟨some 1,.box 8 (.t 0),none,true⟩,
 ⟨some 2,.mv (.k (.c (.int .i64 0))),none,true⟩]
abbrev o5_1:List Ins:=[⟨some 3,.fa 0 (.t 1),none,true⟩,
 ⟨some 4,.ld true 1 (.t 3),none,true⟩,
 ⟨some 5,.call (.k (.fn 16 [])) [(.t 4),(.k (.c (.int .i64 1))),(.k (.c (.int .i64 5)))],none,true⟩,
 ⟨some 6,.un .not (.t 5),none,true⟩,
 ⟨some 7,.mv (.t 6),none,true⟩,
 ⟨some 8,.fa 1 (.t 1),(some (7,false)),true⟩,
 ⟨some 9,.ld true 1 (.t 8),(some (7,false)),true⟩,
 ⟨some 10,.call (.k (.fn 16 [])) [(.t 9),(.k (.c (.int .i64 1))),(.k (.c (.int .i64 5)))],(some (7,false)),true⟩,
 ⟨some 11,.un .not (.t 10),(some (7,false)),true⟩,
 ⟨some 12,.pick (.t 7) (.k (.c (.bool true))) (.t 11),none,true⟩,
 ⟨some 13,.mv (.t 12),none,true⟩,
 ⟨some 14,.fa 2 (.t 1),(some (13,false)),true⟩,
 ⟨some 15,.ld true 1 (.t 14),(some (13,false)),true⟩,
 ⟨some 16,.call (.k (.fn 16 [])) [(.t 15),(.k (.c (.int .i64 1))),(.k (.c (.int .i64 99)))],(some (13,false)),true⟩,
 ⟨some 17,.un .not (.t 16),(some (13,false)),true⟩,
 ⟨some 18,.pick (.t 13) (.k (.c (.bool true))) (.t 17),none,true⟩,
 ⟨some 19,.mv (.t 18),none,true⟩,
 ⟨some 20,.fa 3 (.t 1),(some (19,false)),true⟩,
 ⟨some 21,.ld true 1 (.t 20),(some (19,false)),true⟩,
 ⟨some 22,.fa 2 (.t 1),(some (19,false)),true⟩,
 ⟨some 23,.ld true 1 (.t 22),(some (19,false)),true⟩,
 ⟨some 24,.bin .sub (.t 23) (.k (.c (.int .i64 1))),(some (19,false)),true⟩,
 ⟨some 25,.call (.k (.fn 16 [])) [(.t 21),(.k (.c (.int .i64 0))),(.t 24)],(some (19,false)),true⟩,
 ⟨some 26,.un .not (.t 25),(some (19,false)),true⟩,
 ⟨some 27,.pick (.t 19) (.k (.c (.bool true))) (.t 26),none,true⟩,
 ⟨some 28,.mv (.t 27),none,true⟩,
 ⟨some 29,.fa 5 (.t 1),(some (28,false)),true⟩,
 ⟨some 30,.ld true 1 (.t 29),(some (28,false)),true⟩,
 ⟨some 31,.call (.k (.fn 16 [])) [(.t 30),(.k (.c (.int .i64 1))),(.k (.c (.int .i64 999)))],(some (28,false)),true⟩,
 ⟨some 32,.un .not (.t 31),(some (28,false)),true⟩,
 ⟨some 33,.pick (.t 28) (.k (.c (.bool true))) (.t 32),none,true⟩,
 ⟨some 34,.mv (.t 33),none,true⟩,
 ⟨some 35,.fa 4 (.t 1),(some (34,false)),true⟩,
 ⟨some 36,.ld true 1 (.t 35),(some (34,false)),true⟩,
 ⟨some 37,.fa 2 (.t 1),(some (34,false)),true⟩,
 ⟨some 38,.ld true 1 (.t 37),(some (34,false)),true⟩,
 ⟨some 39,.fa 3 (.t 1),(some (34,false)),true⟩,
 ⟨some 40,.ld true 1 (.t 39),(some (34,false)),true⟩,
 ⟨some 41,.bin .add (.t 38) (.t 40),(some (34,false)),true⟩,
 ⟨some 42,.bin .add (.t 41) (.k (.c (.int .i64 1))),(some (34,false)),true⟩,
 ⟨some 43,.fa 5 (.t 1),(some (34,false)),true⟩,
 ⟨some 44,.ld true 1 (.t 43),(some (34,false)),true⟩,
 ⟨some 45,.bin .sub (.t 44) (.k (.c (.int .i64 1))),(some (34,false)),true⟩,
 ⟨some 46,.call (.k (.fn 16 [])) [(.t 36),(.t 42),(.t 45)],(some (34,false)),true⟩,
 ⟨some 47,.un .not (.t 46),(some (34,false)),true⟩,
 ⟨some 48,.pick (.t 34) (.k (.c (.bool true))) (.t 47),none,true⟩,
 ⟨some 49,.mv (.t 48),none,true⟩,
 ⟨some 50,.fa 6 (.t 1),(some (49,false)),true⟩,
 ⟨some 51,.ld true 1 (.t 50),(some (49,false)),true⟩,
 ⟨some 52,.call (.k (.fn 16 [])) [(.t 51),(.k (.c (.int .i64 0))),(.k (.c (.int .i64 3)))],(some (49,false)),true⟩,
 ⟨some 53,.un .not (.t 52),(some (49,false)),true⟩,
 ⟨some 54,.pick (.t 49) (.k (.c (.bool true))) (.t 53),none,true⟩,
 ⟨some 55,.mv (.t 54),none,true⟩,
 ⟨some 56,.fa 7 (.t 1),(some (55,false)),true⟩,
 ⟨some 57,.ld true 1 (.t 56),(some (55,false)),true⟩,
 ⟨some 58,.len (.t 57),(some (55,false)),true⟩,
 ⟨some 59,.bin .gtr (.t 58) (.k (.c (.int .i64 24))),(some (55,false)),true⟩,
 ⟨some 60,.pick (.t 55) (.k (.c (.bool true))) (.t 59),none,true⟩,
 ⟨some 61,.mv (.t 60),none,true⟩,
 ⟨some 62,.fa 7 (.t 1),(some (61,false)),true⟩,
 ⟨some 63,.ld true 1 (.t 62),(some (61,false)),true⟩,
 ⟨some 64,.call (.k (.fn 17 [])) [(.t 63),(.k (.c (.int .i64 0))),(.k (.c (.int .i64 99999)))],(some (61,false)),true⟩,
 ⟨some 65,.un .not (.t 64),(some (61,false)),true⟩,
 ⟨some 66,.pick (.t 61) (.k (.c (.bool true))) (.t 65),none,true⟩]
abbrev o5_2:List Ins:=[⟨some 2,.mv (.k (.c (.int .i64 130))),none,true⟩]
abbrev v5_3:VC:=(.seq (.ops o5_2) .ret)
abbrev v5_4:VC:=(.cond (.t 66) v5_3 .skip)
abbrev o5_5:List Ins:=[⟨some 2,.mv (.k (.c (.int .i64 0))),none,true⟩]
abbrev v5_6:VC:=(.seq (.ops o5_5) .ret)
abbrev v5_7:VC:=(.seq (.seq (.ops o5_1) v5_4) v5_6)
def ir5:FC:=⟨1,67,[.t 2],(.seq (.ops o5_0) v5_7)⟩
theorem c5:compM Tryd.prog [] 5 = some ir5:=by kernel_rfl
attribute [local go_sem] Nat.reduceEqDiff Nat.reduceAdd Nat.reduceMul reduceIte Nat.reduceLeDiff Nat.reduceLT Nat.reduceBEq reduceCtorEq
def checkB (p:Tr):Bool:=inB p.le 1 5 && (inB p.nu 1 5 && (inB p.pi 1 99 && (inB p.sl 0 (p.pi - 1) && (inB p.pa 1 999 && (inB p.ga (p.pi + p.sl + 1) (p.pa - 1) && (inB p.sp 0 3 && (decide (p.ti.length ≤ 24) && risK p.ti p.ti.length)))))))
theorem inB_iff {n a b:Int}:inB n a b = true ↔ a ≤ n ∧ n ≤ b:=by unfold inB; rw [Bool.and_eq_true,decide_eq_true_eq,decide_eq_true_eq]
set_option maxRecDepth 20000 in
set_option maxHeartbeats 16000000 in
theorem check5 (p:Tr) (hl:p.ti.length ≤ 1000000):FSpec Tryd.prog 5 [.agg p.avs] (iv (if checkB p = true then 0 else 130)):=by
 refine FSpec_of c5 (Nat.le_refl _) (by decide) fun C hP hN hC hL => ?_; rw [init_st]
 simp only [ir5]
 refine WV_seq_ ?_
 (refine WV_op ?_; simp only [go_sem,hP,Tr.avs]; (repeat refine qJ ?_))
 refine WV_freeze 1 (ds:=p.cds) rfl rfl ?_
 simp only [go_sem,List.drop_zero,Tr.cds]
 (repeat ((first | refine Va ?_ | refine Vb ?_ | refine Vc ?_ | refine Vd ?_ | refine Ve ?_ | refine Vf ?_); (try simp only [go_sem,hP]); (repeat refine qJ ?_)))
 (refine AS_pu (within16 p.le 1 5) ?_; simp only [go_sem,hP]; (repeat refine qJ ?_); (repeat ((first | refine Va ?_ | refine Vb ?_ | refine Vc ?_ | refine Vd ?_ | refine Ve ?_ | refine Vf ?_); (try simp only [go_sem,hP]); (repeat refine qJ ?_))))
 cases h1:inB p.le 1 5 with
 | false =>
  have hc:checkB p = false:=by unfold checkB; rw [h1]; rfl
  rw [hc]
  simp only [go_sem,h1]
  (refine AG_skip ?_; simp only [go_sem,hP]; (repeat refine qJ ?_); (repeat ((first | refine Va ?_ | refine Vb ?_ | refine Vc ?_ | refine Vd ?_ | refine Ve ?_ | refine Vf ?_); (try simp only [go_sem,hP]); (repeat refine qJ ?_))))
  (refine AG_skip ?_; simp only [go_sem,hP]; (repeat refine qJ ?_); (repeat ((first | refine Va ?_ | refine Vb ?_ | refine Vc ?_ | refine Vd ?_ | refine Ve ?_ | refine Vf ?_); (try simp only [go_sem,hP]); (repeat refine qJ ?_))))
  (refine AG_skip ?_; simp only [go_sem,hP]; (repeat refine qJ ?_); (repeat ((first | refine Va ?_ | refine Vb ?_ | refine Vc ?_ | refine Vd ?_ | refine Ve ?_ | refine Vf ?_); (try simp only [go_sem,hP]); (repeat refine qJ ?_))))
  (refine AG_skip ?_; simp only [go_sem,hP]; (repeat refine qJ ?_); (repeat ((first | refine Va ?_ | refine Vb ?_ | refine Vc ?_ | refine Vd ?_ | refine Ve ?_ | refine Vf ?_); (try simp only [go_sem,hP]); (repeat refine qJ ?_))))
  (refine AG_skip ?_; simp only [go_sem,hP]; (repeat refine qJ ?_); (repeat ((first | refine Va ?_ | refine Vb ?_ | refine Vc ?_ | refine Vd ?_ | refine Ve ?_ | refine Vf ?_); (try simp only [go_sem,hP]); (repeat refine qJ ?_))))
  (refine AG_skip ?_; simp only [go_sem,hP]; (repeat refine qJ ?_); (repeat ((first | refine Va ?_ | refine Vb ?_ | refine Vc ?_ | refine Vd ?_ | refine Ve ?_ | refine Vf ?_); (try simp only [go_sem,hP]); (repeat refine qJ ?_))))
  (refine AG_skip ?_; simp only [go_sem,hP]; (repeat refine qJ ?_); (repeat ((first | refine Va ?_ | refine Vb ?_ | refine Vc ?_ | refine Vd ?_ | refine Ve ?_ | refine Vf ?_); (try simp only [go_sem,hP]); (repeat refine qJ ?_))))
  (refine WV_cond rfl (fun h => ?_) (fun h => ?_))
  ·(repeat ((first | refine Va ?_ | refine Vb ?_ | refine Vc ?_ | refine Vd ?_ | refine Ve ?_ | refine Vf ?_); (try simp only [go_sem,hP]); (repeat refine qJ ?_)))
   (refine WV_ret ?_; simp only [thenQ,inQ,RetQ,RetOk,resAll,resA]; simp only [go_sem,tupA,AV.port,AV.portL,exists_eq_left']; (first | exact AVle.of rfl | refine AVle.of ?_ | skip))
  ·simp at h
 | true =>
  simp only [go_sem,h1]
  (refine AG_pu (fun hG => within16 p.nu 1 5) ?_; simp only [go_sem,hP]; (repeat refine qJ ?_); (repeat ((first | refine Va ?_ | refine Vb ?_ | refine Vc ?_ | refine Vd ?_ | refine Ve ?_ | refine Vf ?_); (try simp only [go_sem,hP]); (repeat refine qJ ?_))))
  cases h2:inB p.nu 1 5 with
  | false =>
   have hc:checkB p = false:=by unfold checkB; rw [h1,h2]; rfl
   rw [hc]
   simp only [go_sem,h2]
   (refine AG_skip ?_; simp only [go_sem,hP]; (repeat refine qJ ?_); (repeat ((first | refine Va ?_ | refine Vb ?_ | refine Vc ?_ | refine Vd ?_ | refine Ve ?_ | refine Vf ?_); (try simp only [go_sem,hP]); (repeat refine qJ ?_))))
   (refine AG_skip ?_; simp only [go_sem,hP]; (repeat refine qJ ?_); (repeat ((first | refine Va ?_ | refine Vb ?_ | refine Vc ?_ | refine Vd ?_ | refine Ve ?_ | refine Vf ?_); (try simp only [go_sem,hP]); (repeat refine qJ ?_))))
   (refine AG_skip ?_; simp only [go_sem,hP]; (repeat refine qJ ?_); (repeat ((first | refine Va ?_ | refine Vb ?_ | refine Vc ?_ | refine Vd ?_ | refine Ve ?_ | refine Vf ?_); (try simp only [go_sem,hP]); (repeat refine qJ ?_))))
   (refine AG_skip ?_; simp only [go_sem,hP]; (repeat refine qJ ?_); (repeat ((first | refine Va ?_ | refine Vb ?_ | refine Vc ?_ | refine Vd ?_ | refine Ve ?_ | refine Vf ?_); (try simp only [go_sem,hP]); (repeat refine qJ ?_))))
   (refine AG_skip ?_; simp only [go_sem,hP]; (repeat refine qJ ?_); (repeat ((first | refine Va ?_ | refine Vb ?_ | refine Vc ?_ | refine Vd ?_ | refine Ve ?_ | refine Vf ?_); (try simp only [go_sem,hP]); (repeat refine qJ ?_))))
   (refine AG_skip ?_; simp only [go_sem,hP]; (repeat refine qJ ?_); (repeat ((first | refine Va ?_ | refine Vb ?_ | refine Vc ?_ | refine Vd ?_ | refine Ve ?_ | refine Vf ?_); (try simp only [go_sem,hP]); (repeat refine qJ ?_))))
   (refine WV_cond rfl (fun h => ?_) (fun h => ?_))
   ·(repeat ((first | refine Va ?_ | refine Vb ?_ | refine Vc ?_ | refine Vd ?_ | refine Ve ?_ | refine Vf ?_); (try simp only [go_sem,hP]); (repeat refine qJ ?_)))
    (refine WV_ret ?_; simp only [thenQ,inQ,RetQ,RetOk,resAll,resA]; simp only [go_sem,tupA,AV.port,AV.portL,exists_eq_left']; (first | exact AVle.of rfl | refine AVle.of ?_ | skip))
   ·simp at h
  | true =>
   simp only [go_sem,h2]
   (refine AG_pu (fun hG => within16 p.pi 1 99) ?_; simp only [go_sem,hP]; (repeat refine qJ ?_); (repeat ((first | refine Va ?_ | refine Vb ?_ | refine Vc ?_ | refine Vd ?_ | refine Ve ?_ | refine Vf ?_); (try simp only [go_sem,hP]); (repeat refine qJ ?_))))
   cases h3:inB p.pi 1 99 with
   | false =>
    have hc:checkB p = false:=by unfold checkB; rw [h1,h2,h3]; rfl
    rw [hc]
    simp only [go_sem,h3]
    (refine AG_skip ?_; simp only [go_sem,hP]; (repeat refine qJ ?_); (repeat ((first | refine Va ?_ | refine Vb ?_ | refine Vc ?_ | refine Vd ?_ | refine Ve ?_ | refine Vf ?_); (try simp only [go_sem,hP]); (repeat refine qJ ?_))))
    (refine AG_skip ?_; simp only [go_sem,hP]; (repeat refine qJ ?_); (repeat ((first | refine Va ?_ | refine Vb ?_ | refine Vc ?_ | refine Vd ?_ | refine Ve ?_ | refine Vf ?_); (try simp only [go_sem,hP]); (repeat refine qJ ?_))))
    (refine AG_skip ?_; simp only [go_sem,hP]; (repeat refine qJ ?_); (repeat ((first | refine Va ?_ | refine Vb ?_ | refine Vc ?_ | refine Vd ?_ | refine Ve ?_ | refine Vf ?_); (try simp only [go_sem,hP]); (repeat refine qJ ?_))))
    (refine AG_skip ?_; simp only [go_sem,hP]; (repeat refine qJ ?_); (repeat ((first | refine Va ?_ | refine Vb ?_ | refine Vc ?_ | refine Vd ?_ | refine Ve ?_ | refine Vf ?_); (try simp only [go_sem,hP]); (repeat refine qJ ?_))))
    (refine AG_skip ?_; simp only [go_sem,hP]; (repeat refine qJ ?_); (repeat ((first | refine Va ?_ | refine Vb ?_ | refine Vc ?_ | refine Vd ?_ | refine Ve ?_ | refine Vf ?_); (try simp only [go_sem,hP]); (repeat refine qJ ?_))))
    (refine WV_cond rfl (fun h => ?_) (fun h => ?_))
    ·(repeat ((first | refine Va ?_ | refine Vb ?_ | refine Vc ?_ | refine Vd ?_ | refine Ve ?_ | refine Vf ?_); (try simp only [go_sem,hP]); (repeat refine qJ ?_)))
     (refine WV_ret ?_; simp only [thenQ,inQ,RetQ,RetOk,resAll,resA]; simp only [go_sem,tupA,AV.port,AV.portL,exists_eq_left']; (first | exact AVle.of rfl | refine AVle.of ?_ | skip))
    ·simp at h
   | true =>
    simp only [go_sem,h3]
    have b3:=inB_iff.1 h3
    have w1:=w64 (n:=p.pi - 1) (by omega) (by omega)
    simp only [go_sem,w1]
    (refine AG_pu (fun hG => within16 p.sl 0 (p.pi - 1)) ?_; simp only [go_sem,hP]; (repeat refine qJ ?_); (repeat ((first | refine Va ?_ | refine Vb ?_ | refine Vc ?_ | refine Vd ?_ | refine Ve ?_ | refine Vf ?_); (try simp only [go_sem,hP]); (repeat refine qJ ?_))))
    cases h4:inB p.sl 0 (p.pi - 1) with
    | false =>
     have hc:checkB p = false:=by unfold checkB; rw [h1,h2,h3,h4]; rfl
     rw [hc]
     simp only [go_sem,h4]
     (refine AG_skip ?_; simp only [go_sem,hP]; (repeat refine qJ ?_); (repeat ((first | refine Va ?_ | refine Vb ?_ | refine Vc ?_ | refine Vd ?_ | refine Ve ?_ | refine Vf ?_); (try simp only [go_sem,hP]); (repeat refine qJ ?_))))
     (refine AG_skip ?_; simp only [go_sem,hP]; (repeat refine qJ ?_); (repeat ((first | refine Va ?_ | refine Vb ?_ | refine Vc ?_ | refine Vd ?_ | refine Ve ?_ | refine Vf ?_); (try simp only [go_sem,hP]); (repeat refine qJ ?_))))
     (refine AG_skip ?_; simp only [go_sem,hP]; (repeat refine qJ ?_); (repeat ((first | refine Va ?_ | refine Vb ?_ | refine Vc ?_ | refine Vd ?_ | refine Ve ?_ | refine Vf ?_); (try simp only [go_sem,hP]); (repeat refine qJ ?_))))
     (refine AG_skip ?_; simp only [go_sem,hP]; (repeat refine qJ ?_); (repeat ((first | refine Va ?_ | refine Vb ?_ | refine Vc ?_ | refine Vd ?_ | refine Ve ?_ | refine Vf ?_); (try simp only [go_sem,hP]); (repeat refine qJ ?_))))
     (refine WV_cond rfl (fun h => ?_) (fun h => ?_))
     ·(repeat ((first | refine Va ?_ | refine Vb ?_ | refine Vc ?_ | refine Vd ?_ | refine Ve ?_ | refine Vf ?_); (try simp only [go_sem,hP]); (repeat refine qJ ?_)))
      (refine WV_ret ?_; simp only [thenQ,inQ,RetQ,RetOk,resAll,resA]; simp only [go_sem,tupA,AV.port,AV.portL,exists_eq_left']; (first | exact AVle.of rfl | refine AVle.of ?_ | skip))
     ·simp at h
    | true =>
     simp only [go_sem,h4]
     (refine AG_pu (fun hG => within16 p.pa 1 999) ?_; simp only [go_sem,hP]; (repeat refine qJ ?_); (repeat ((first | refine Va ?_ | refine Vb ?_ | refine Vc ?_ | refine Vd ?_ | refine Ve ?_ | refine Vf ?_); (try simp only [go_sem,hP]); (repeat refine qJ ?_))))
     cases h5:inB p.pa 1 999 with
     | false =>
      have hc:checkB p = false:=by unfold checkB; rw [h1,h2,h3,h4,h5]; rfl
      rw [hc]
      simp only [go_sem,h5]
      (refine AG_skip ?_; simp only [go_sem,hP]; (repeat refine qJ ?_); (repeat ((first | refine Va ?_ | refine Vb ?_ | refine Vc ?_ | refine Vd ?_ | refine Ve ?_ | refine Vf ?_); (try simp only [go_sem,hP]); (repeat refine qJ ?_))))
      (refine AG_skip ?_; simp only [go_sem,hP]; (repeat refine qJ ?_); (repeat ((first | refine Va ?_ | refine Vb ?_ | refine Vc ?_ | refine Vd ?_ | refine Ve ?_ | refine Vf ?_); (try simp only [go_sem,hP]); (repeat refine qJ ?_))))
      (refine AG_skip ?_; simp only [go_sem,hP]; (repeat refine qJ ?_); (repeat ((first | refine Va ?_ | refine Vb ?_ | refine Vc ?_ | refine Vd ?_ | refine Ve ?_ | refine Vf ?_); (try simp only [go_sem,hP]); (repeat refine qJ ?_))))
      (refine WV_cond rfl (fun h => ?_) (fun h => ?_))
      ·(repeat ((first | refine Va ?_ | refine Vb ?_ | refine Vc ?_ | refine Vd ?_ | refine Ve ?_ | refine Vf ?_); (try simp only [go_sem,hP]); (repeat refine qJ ?_)))
       (refine WV_ret ?_; simp only [thenQ,inQ,RetQ,RetOk,resAll,resA]; simp only [go_sem,tupA,AV.port,AV.portL,exists_eq_left']; (first | exact AVle.of rfl | refine AVle.of ?_ | skip))
      ·simp at h
     | true =>
      simp only [go_sem,h5]
      have b4:=inB_iff.1 h4
      have b5:=inB_iff.1 h5
      have w2:=w64 (n:=p.pi + p.sl) (by omega) (by omega)
      have w3:=w64 (n:=p.pi + p.sl + 1) (by omega) (by omega)
      have w4:=w64 (n:=p.pa - 1) (by omega) (by omega)
      simp only [go_sem,w2,w3,w4]
      (refine AG_pu (fun hG => within16 p.ga (p.pi + p.sl + 1) (p.pa - 1)) ?_; simp only [go_sem,hP]; (repeat refine qJ ?_); (repeat ((first | refine Va ?_ | refine Vb ?_ | refine Vc ?_ | refine Vd ?_ | refine Ve ?_ | refine Vf ?_); (try simp only [go_sem,hP]); (repeat refine qJ ?_))))
      cases h6:inB p.ga (p.pi + p.sl + 1) (p.pa - 1) with
      | false =>
       have hc:checkB p = false:=by unfold checkB; rw [h1,h2,h3,h4,h5,h6]; rfl
       rw [hc]
       simp only [go_sem,h6]
       (refine AG_skip ?_; simp only [go_sem,hP]; (repeat refine qJ ?_); (repeat ((first | refine Va ?_ | refine Vb ?_ | refine Vc ?_ | refine Vd ?_ | refine Ve ?_ | refine Vf ?_); (try simp only [go_sem,hP]); (repeat refine qJ ?_))))
       (refine AG_skip ?_; simp only [go_sem,hP]; (repeat refine qJ ?_); (repeat ((first | refine Va ?_ | refine Vb ?_ | refine Vc ?_ | refine Vd ?_ | refine Ve ?_ | refine Vf ?_); (try simp only [go_sem,hP]); (repeat refine qJ ?_))))
       (refine WV_cond rfl (fun h => ?_) (fun h => ?_))
       ·(repeat ((first | refine Va ?_ | refine Vb ?_ | refine Vc ?_ | refine Vd ?_ | refine Ve ?_ | refine Vf ?_); (try simp only [go_sem,hP]); (repeat refine qJ ?_)))
        (refine WV_ret ?_; simp only [thenQ,inQ,RetQ,RetOk,resAll,resA]; simp only [go_sem,tupA,AV.port,AV.portL,exists_eq_left']; (first | exact AVle.of rfl | refine AVle.of ?_ | skip))
       ·simp at h
      | true =>
       simp only [go_sem,h6]
       (refine AG_pu (fun hG => within16 p.sp 0 3) ?_; simp only [go_sem,hP]; (repeat refine qJ ?_); (repeat ((first | refine Va ?_ | refine Vb ?_ | refine Vc ?_ | refine Vd ?_ | refine Ve ?_ | refine Vf ?_); (try simp only [go_sem,hP]); (repeat refine qJ ?_))))
       cases h7:inB p.sp 0 3 with
       | false =>
        have hc:checkB p = false:=by unfold checkB; rw [h1,h2,h3,h4,h5,h6,h7]; rfl
        rw [hc]
        simp only [go_sem,h7]
        (refine AG_skip ?_; simp only [go_sem,hP]; (repeat refine qJ ?_); (repeat ((first | refine Va ?_ | refine Vb ?_ | refine Vc ?_ | refine Vd ?_ | refine Ve ?_ | refine Vf ?_); (try simp only [go_sem,hP]); (repeat refine qJ ?_))))
        (refine WV_cond rfl (fun h => ?_) (fun h => ?_))
        ·(repeat ((first | refine Va ?_ | refine Vb ?_ | refine Vc ?_ | refine Vd ?_ | refine Ve ?_ | refine Vf ?_); (try simp only [go_sem,hP]); (repeat refine qJ ?_)))
         (refine WV_ret ?_; simp only [thenQ,inQ,RetQ,RetOk,resAll,resA]; simp only [go_sem,tupA,AV.port,AV.portL,exists_eq_left']; (first | exact AVle.of rfl | refine AVle.of ?_ | skip))
        ·simp at h
       | true =>
        simp only [go_sem,h7]
        have hd:decide ((24:Int) < (p.ti.length:Int)) = !decide (p.ti.length ≤ 24):=by rw [Bool.eq_iff_iff]; simp; omega
        simp only [go_sem,isC,List.length_map,hd]
        cases h8:decide (p.ti.length ≤ 24) with
        | false =>
         have hc:checkB p = false:=by unfold checkB; rw [h1,h2,h3,h4,h5,h6,h7,h8]; rfl
         rw [hc]
         simp only [go_sem,h8]
         (refine AG_skip ?_; simp only [go_sem,hP]; (repeat refine qJ ?_); (repeat ((first | refine Va ?_ | refine Vb ?_ | refine Vc ?_ | refine Vd ?_ | refine Ve ?_ | refine Vf ?_); (try simp only [go_sem,hP]); (repeat refine qJ ?_))))
         (refine WV_cond rfl (fun h => ?_) (fun h => ?_))
         ·(repeat ((first | refine Va ?_ | refine Vb ?_ | refine Vc ?_ | refine Vd ?_ | refine Ve ?_ | refine Vf ?_); (try simp only [go_sem,hP]); (repeat refine qJ ?_)))
          (refine WV_ret ?_; simp only [thenQ,inQ,RetQ,RetOk,resAll,resA]; simp only [go_sem,tupA,AV.port,AV.portL,exists_eq_left']; (first | exact AVle.of rfl | refine AVle.of ?_ | skip))
         ·simp at h
        | true =>
         simp only [go_sem,h8]
         (refine AG_pu (fun hG => rising17 p.ti (by omega)) ?_; simp only [go_sem,hP]; (repeat refine qJ ?_); (repeat ((first | refine Va ?_ | refine Vb ?_ | refine Vc ?_ | refine Vd ?_ | refine Ve ?_ | refine Vf ?_); (try simp only [go_sem,hP]); (repeat refine qJ ?_))))
         cases h9:risK p.ti p.ti.length with
         | false =>
          have hc:checkB p = false:=by unfold checkB; rw [h1,h2,h3,h4,h5,h6,h7,h8,h9]; rfl
          rw [hc]
          simp only [go_sem,h9]
          (refine WV_cond rfl (fun h => ?_) (fun h => ?_))
          ·(repeat ((first | refine Va ?_ | refine Vb ?_ | refine Vc ?_ | refine Vd ?_ | refine Ve ?_ | refine Vf ?_); (try simp only [go_sem,hP]); (repeat refine qJ ?_)))
           (refine WV_ret ?_; simp only [thenQ,inQ,RetQ,RetOk,resAll,resA]; simp only [go_sem,tupA,AV.port,AV.portL,exists_eq_left']; (first | exact AVle.of rfl | refine AVle.of ?_ | skip))
          ·simp at h
         | true =>
          simp only [go_sem,h9]
          have hc:checkB p = true:=by unfold checkB; rw [h1,h2,h3,h4,h5,h6,h7,h8,h9]; rfl
          rw [hc]
          (refine WV_cond rfl (fun h => ?_) (fun h => ?_))
          ·simp at h
          (repeat ((first | refine Va ?_ | refine Vb ?_ | refine Vc ?_ | refine Vd ?_ | refine Ve ?_ | refine Vf ?_); (try simp only [go_sem,hP]); (repeat refine qJ ?_)))
          (refine WV_ret ?_; simp only [thenQ,inQ,RetQ,RetOk,resAll,resA]; simp only [go_sem,tupA,AV.port,AV.portL,exists_eq_left']; (first | exact AVle.of rfl | refine AVle.of ?_ | skip))
end Go.Proofs.YtdoidahbimonhaaDoor

namespace Go.Proofs.YtdoidahbimonhaaDoor
open Go Go.V
abbrev o4_0:List Ins:=[⟨some 1,.box 8 (.t 0),none,true⟩,
 ⟨some 2,.mv (.k (.c (.bool false))),none,true⟩]
abbrev o4_1:List Ins:=[⟨some 3,.fa 7 (.t 1),none,true⟩,
 ⟨some 4,.ld true 1 (.t 3),none,true⟩,
 ⟨some 5,.len (.t 4),none,true⟩,
 ⟨some 6,.bin .gtr (.t 5) (.k (.c (.int .i64 40))),none,true⟩,
 ⟨some 7,.mv (.t 6),none,true⟩,
 ⟨some 8,.ld false 8 (.t 1),(some (7,false)),true⟩,
 ⟨some 9,.call (.k (.fn 5 [])) [(.t 8)],(some (7,false)),true⟩,
 ⟨some 10,.bin .eql (.t 9) (.k (.c (.int .i64 0))),(some (7,false)),true⟩,
 ⟨some 11,.mv (.t 10),(some (7,false)),true⟩,
 ⟨some 12,.fa 7 (.t 1),(some (11,true)),true⟩,
 ⟨some 13,.ld true 1 (.t 12),(some (11,true)),true⟩,
 ⟨some 14,.len (.t 13),(some (11,true)),true⟩,
 ⟨some 15,.bin .gtr (.t 14) (.k (.c (.int .i64 14))),(some (11,true)),true⟩,
 ⟨some 16,.pick (.t 11) (.t 15) (.k (.c (.bool false))),(some (7,false)),true⟩,
 ⟨some 17,.pick (.t 7) (.k (.c (.bool true))) (.t 16),none,true⟩,
 ⟨some 2,.mv (.t 17),none,true⟩]
abbrev v4_2:VC:=(.seq (.ops o4_1) .ret)
def ir4:FC:=⟨1,18,[.t 2],(.seq (.ops o4_0) v4_2)⟩
abbrev o8_0:List Ins:=[⟨some 1,.box 8 (.t 0),none,true⟩,
 ⟨some 2,.alloc [(.c (.int .i64 0)),(.c (.int .i64 0)),(.c (.int .i64 0)),(.c (.int .i64 0)),(.c (.int .i64 0)),(.c (.int .i64 0)),(.c (.int .i64 0)),(.c (.raw (.slice none 0 0)))],none,true⟩]
abbrev o8_1:List Ins:=[⟨some 4,.ld false 8 (.t 1),none,true⟩,
 ⟨some 3,.alloc [(.c (.int .i64 0)),(.c (.int .i64 0)),(.c (.int .i64 0)),(.c (.int .i64 0)),(.c (.int .i64 0)),(.c (.int .i64 0)),(.c (.int .i64 0)),(.c (.raw (.slice none 0 0)))],none,true⟩,
 ⟨none,.st 8 (.t 3) (.t 4),none,true⟩]
abbrev o8_2:List Ins:=[⟨some 5,.bsl 3 1 [],none,true⟩,
 ⟨some 6,.fa 7 (.t 1),none,true⟩,
 ⟨some 7,.ld true 1 (.t 6),none,true⟩,
 ⟨some 8,.app 3 1 8 (.t 5) (.t 7),none,true⟩,
 ⟨some 9,.fa 7 (.t 3),none,true⟩,
 ⟨none,.st 1 (.t 9) (.t 8),none,true⟩]
abbrev o8_3:List Ins:=[⟨some 10,.ld false 8 (.t 3),none,true⟩,
 ⟨none,.st 8 (.t 2) (.t 10),none,true⟩]
abbrev v8_4:VC:=(.seq (.ops o8_3) .ret)
abbrev v8_5:VC:=(.seq (.ops o8_2) v8_4)
abbrev v8_6:VC:=(.seq (.ops o8_1) v8_5)
def ir8:FC:=⟨1,11,[.cell 2 false 8],(.seq (.ops o8_0) v8_6)⟩
theorem c4:compM Tryd.prog [] 4 = some ir4:=by kernel_rfl
theorem c8:compM Tryd.prog [] 8 = some ir8:=by kernel_rfl
attribute [local go_sem] Nat.reduceEqDiff Nat.reduceAdd Nat.reduceMul reduceIte Nat.reduceLeDiff Nat.reduceLT Nat.reduceBEq reduceCtorEq
def farB (p:Tr):Bool:=decide (40 < p.ti.length) || (checkB p && decide (14 < p.ti.length))
set_option maxHeartbeats 4000000 in
theorem far4 (p:Tr):FSpec Tryd.prog 4 [.agg p.avs] (.c (.bool (farB p))):=by
 refine FSpec_of c4 (Nat.le_refl _) (by decide) fun C hP hN hC hL => ?_; rw [init_st]
 simp only [ir4]
 refine WV_seq_ ?_
 (refine WV_op ?_; simp only [go_sem,hP,Tr.avs]; (repeat refine qJ ?_))
 (repeat ((first | refine Va ?_ | refine Vb ?_ | refine Vc ?_ | refine Vd ?_ | refine Ve ?_ | refine Vf ?_); (try simp only [go_sem,hP,isC,List.length_map]); (repeat refine qJ ?_)))
 by_cases h40:40 < p.ti.length
 ·have hf:farB p = true:=by unfold farB; simp [h40]
  have hd:decide ((40:Int) < (p.ti.length:Int)) = true:=by rw [decide_eq_true_eq]; omega
  rw [hf]
  simp only [go_sem,hd]
  refine .inl (ACallG_skip (iv 0) rfl ?_)
  simp only [go_sem,hP,isC,List.length_map,hd]
  (repeat refine qJ ?_)
  (repeat ((first | refine Va ?_ | refine Vb ?_ | refine Vc ?_ | refine Vd ?_ | refine Ve ?_ | refine Vf ?_); (try simp only [go_sem,hP]); (repeat refine qJ ?_)))
  (refine WV_ret ?_; simp only [thenQ,inQ,RetQ,RetOk,resAll,resA]; simp only [go_sem,tupA,AV.port,AV.portL,exists_eq_left']; (first | exact AVle.of rfl | refine AVle.of ?_ | skip))
 ·have hd:decide ((40:Int) < (p.ti.length:Int)) = false:=by rw [decide_eq_false_iff_not]; omega
  have hch:=check5 p (by omega)
  simp only [go_sem,hd]
  cases hc:checkB p with
  | true =>
   rw [hc] at hch
   (refine AG_pu (fun hG => hch) ?_; simp only [go_sem,hP,isC,List.length_map]; (repeat refine qJ ?_); (repeat ((first | refine Va ?_ | refine Vb ?_ | refine Vc ?_ | refine Vd ?_ | refine Ve ?_ | refine Vf ?_); (try simp only [go_sem,hP,isC,List.length_map]); (repeat refine qJ ?_))))
   have hf:farB p = decide ((14:Int) < (p.ti.length:Int)):=by
    unfold farB
    rw [hc,Bool.eq_iff_iff]
    simp [h40]
    omega
   rw [hf]
   (refine WV_ret ?_; simp only [thenQ,inQ,RetQ,RetOk,resAll,resA]; simp only [go_sem,tupA,AV.port,AV.portL,exists_eq_left']; (first | exact AVle.of rfl | refine AVle.of ?_ | skip))
  | false =>
   rw [hc] at hch
   (refine AG_pu (fun hG => hch) ?_; simp only [go_sem,hP,isC,List.length_map]; (repeat refine qJ ?_); (repeat ((first | refine Va ?_ | refine Vb ?_ | refine Vc ?_ | refine Vd ?_ | refine Ve ?_ | refine Vf ?_); (try simp only [go_sem,hP,isC,List.length_map]); (repeat refine qJ ?_))))
   have hf:farB p = false:=by unfold farB; rw [hc]; simp [h40]
   rw [hf]
   (refine WV_ret ?_; simp only [thenQ,inQ,RetQ,RetOk,resAll,resA]; simp only [go_sem,tupA,AV.port,AV.portL,exists_eq_left']; (first | exact AVle.of rfl | refine AVle.of ?_ | skip))
theorem copy8 (p:Tr) (hl:p.ti.length ≤ 1000000):FSpec Tryd.prog 8 [.agg p.avs] (.agg p.avs):=by
 have hmax:maxLen = 9223372036854775807:=rfl
 refine FSpec_of c8 (Nat.le_refl _) (by decide) fun C hP hN hC hL => ?_; rw [init_st]
 simp only [ir8]
 refine WV_seq_ ?_
 (refine WV_op ?_; simp only [go_sem,hP,Tr.avs]; (repeat refine qJ ?_))
 (repeat ((first | refine Va ?_ | refine Vb ?_ | refine Vc ?_ | refine Vd ?_ | refine Ve ?_ | refine Vf ?_); (try simp only [go_sem,hP,isC,List.length_map]); (repeat refine qJ ?_)))
 (refine WV_ret ?_; simp only [thenQ,inQ,RetQ,RetOk,resAll,resA]; simp only [go_sem,tupA,AV.port,AV.portL,exists_eq_left']; (first | exact AVle.of rfl | refine AVle.of ?_ | skip))
end Go.Proofs.YtdoidahbimonhaaDoor

namespace Go.Proofs.YtdoidahbimonhaaDoor
open Go Go.V
abbrev o10_0:List Ins:=[⟨some 2,.mv (.k (.c (.str []))),none,true⟩]
abbrev o10_1:List Ins:=[⟨some 3,.mv (.t 0),none,true⟩,
 ⟨some 4,.bin .lss (.t 3) (.k (.c (.int .i64 0))),none,true⟩]
abbrev o10_2:List Ins:=[⟨some 5,.mv (.t 0),none,true⟩,
 ⟨some 6,.mm true (.t 5) (.k (.c (.int .i64 (-999999999)))),none,true⟩,
 ⟨some 7,.un .neg (.t 6),none,true⟩,
 ⟨some 8,.call (.k (.fn 10 [])) [(.t 7)],none,true⟩,
 ⟨some 9,.prim (.sbin .add) [(.k (.c (.str [45]))),(.t 8)],none,true⟩,
 ⟨some 2,.mv (.t 9),none,true⟩]
abbrev v10_3:VC:=(.seq (.ops o10_2) .ret)
abbrev v10_4:VC:=(.cond (.t 4) v10_3 .skip)
abbrev o10_5:List Ins:=[⟨some 10,.mv (.t 0),none,true⟩,
 ⟨some 11,.bin .lss (.t 10) (.k (.c (.int .i64 10))),none,true⟩]
abbrev o10_6:List Ins:=[⟨some 12,.mv (.t 0),none,true⟩,
 ⟨some 13,.bin .add (.k (.c (.int .i64 48))) (.t 12),none,true⟩,
 ⟨some 14,.prim (.conv .u8) [(.t 13)],none,true⟩,
 ⟨some 15,.bsl 5 1 [(.t 14)],none,true⟩,
 ⟨some 16,.raw (.convert 51 9 (.tmp 15)),none,true⟩,
 ⟨some 2,.mv (.t 16),none,true⟩]
abbrev v10_7:VC:=(.seq (.ops o10_6) .ret)
abbrev v10_8:VC:=(.cond (.t 11) v10_7 .skip)
abbrev o10_9:List Ins:=[⟨some 17,.mv (.t 0),none,true⟩,
 ⟨some 18,.bin .quo (.t 17) (.k (.c (.int .i64 10))),none,true⟩,
 ⟨some 19,.call (.k (.fn 10 [])) [(.t 18)],none,true⟩,
 ⟨some 20,.mv (.t 0),none,true⟩,
 ⟨some 21,.bin .rem (.t 20) (.k (.c (.int .i64 10))),none,true⟩,
 ⟨some 22,.call (.k (.fn 10 [])) [(.t 21)],none,true⟩,
 ⟨some 23,.prim (.sbin .add) [(.t 19),(.t 22)],none,true⟩,
 ⟨some 2,.mv (.t 23),none,true⟩]
abbrev v10_10:VC:=(.seq (.ops o10_9) .ret)
abbrev v10_11:VC:=(.seq (.seq (.ops o10_5) v10_8) v10_10)
abbrev v10_12:VC:=(.seq (.seq (.ops o10_1) v10_4) v10_11)
def ir10:FC:=⟨1,24,[.t 2],(.seq (.ops o10_0) v10_12)⟩
theorem c10:compM Tryd.prog [] 10 = some ir10:=by kernel_rfl
attribute [local go_sem] Nat.reduceEqDiff Nat.reduceAdd Nat.reduceMul reduceIte Nat.reduceLeDiff Nat.reduceLT Nat.reduceBEq reduceCtorEq
def digB (n:Nat):UInt8:=UInt8.ofNat (48 + n)
def textI (n:Nat):List UInt8:=if n < 10 then [digB n] else [digB (n / 10),digB (n % 10)]
set_option maxHeartbeats 4000000 in
theorem text10a (n:Nat) (hn:n < 10):FSpec Tryd.prog 10 [iv n] (sv [digB n]):=by
 have w1:=w64 (n:=48 + (n:Int)) (by omega) (by omega)
 refine FSpec_of c10 (Nat.le_refl _) (by decide) fun C hP hN hC hL => ?_; rw [init_st]
 simp only [ir10]
 (repeat ((first | refine Va ?_ | refine Vb ?_ | refine Vc ?_ | refine Vd ?_ | refine Ve ?_ | refine Vf ?_); (try simp only [go_sem,hP]); (repeat refine qJ ?_)))
 (refine WV_cond rfl (fun h => ?_) (fun h => ?_))
 ·simp at h; omega
 (repeat ((first | refine Va ?_ | refine Vb ?_ | refine Vc ?_ | refine Vd ?_ | refine Ve ?_ | refine Vf ?_); (try simp only [go_sem,hP]); (repeat refine qJ ?_)))
 (refine WV_cond rfl (fun h => ?_) (fun h => ?_))
 ·(repeat ((first | refine Va ?_ | refine Vb ?_ | refine Vc ?_ | refine Vd ?_ | refine Ve ?_ | refine Vf ?_); (try simp only [go_sem,hP,w1]); (repeat refine qJ ?_)))
  refine raw_bs (s:=[digB n]) (x':=.t 15) (e:=5) (by kernel_rfl) (by kernel_rfl) (by kernel_rfl) rfl rfl ?_ ?_
  ·have hb:(Go.IntKind.u8.wrap (48 + (n:Int)):Int) = ((digB n).toNat:Int):=by
    have:n = 0 ∨ n = 1 ∨ n = 2 ∨ n = 3 ∨ n = 4 ∨ n = 5 ∨ n = 6 ∨ n = 7 ∨ n = 8 ∨ n = 9:=by omega
    rcases this with rfl | rfl | rfl | rfl | rfl | rfl | rfl | rfl | rfl | rfl <;> rfl
   show AV.vport (upd o0 15 (.grow 5 1 [[.int .u8 (Go.IntKind.u8.wrap (48 + (n:Int)))]])) (.gr 15) = _
   rw [hb]
   rfl
  simp only [go_sem,hP]
  (repeat refine qJ ?_)
  (repeat ((first | refine Va ?_ | refine Vb ?_ | refine Vc ?_ | refine Vd ?_ | refine Ve ?_ | refine Vf ?_); (try simp only [go_sem,hP]); (repeat refine qJ ?_)))
  (refine WV_ret ?_; simp only [thenQ,inQ,RetQ,RetOk,resAll,resA]; simp only [go_sem,tupA,AV.port,AV.portL,exists_eq_left']; (first | exact AVle.of rfl | refine AVle.of ?_ | skip))
 ·simp at h; omega
theorem text10 (n : Nat) (hn : n < 100) : FSpec Tryd.prog 10 [iv n] (sv (textI n)) := by
  by_cases h10 : n < 10
  · unfold textI; rw [if_pos h10]; exact text10a n h10
  unfold textI
  rw [if_neg h10]
  have h1 := text10a (n / 10) (by omega)
  have h2 := text10a (n % 10) (by omega)
  have w1 := w64 (n := ((n / 10 : Nat) : Int)) (by omega) (by omega)
  have e1 : Int.tdiv (n : Int) 10 = ((n / 10 : Nat) : Int) := by rw [Int.tdiv_eq_ediv_of_nonneg (by omega)]; rfl
  have e2 : Int.tmod (n : Int) 10 = ((n % 10 : Nat) : Int) := by rw [Int.tmod_eq_emod_of_nonneg (by omega)]; rfl
  refine FSpec_of c10 (Nat.le_refl _) (by decide) fun C hP hN hC hL => ?_; rw [init_st]
  simp only [ir10]
  (repeat ((first | refine Va ?_ | refine Vb ?_ | refine Vc ?_ | refine Vd ?_ | refine Ve ?_ | refine Vf ?_); (try simp only [go_sem, hP]); (repeat refine qJ ?_)))
  (refine WV_cond rfl (fun h => ?_) (fun h => ?_))
  · simp at h; omega
  (repeat ((first | refine Va ?_ | refine Vb ?_ | refine Vc ?_ | refine Vd ?_ | refine Ve ?_ | refine Vf ?_); (try simp only [go_sem, hP]); (repeat refine qJ ?_)))
  (refine WV_cond rfl (fun h => ?_) (fun h => ?_))
  · simp at h; omega
  (repeat ((first | refine Va ?_ | refine Vb ?_ | refine Vc ?_ | refine Vd ?_ | refine Ve ?_ | refine Vf ?_); (try simp only [go_sem, hP, e1, e2, w1]); (repeat refine qJ ?_)))
  (refine AS_pu (h1) ?_; simp only [go_sem, hP, e1, e2]; (repeat refine qJ ?_); (repeat ((first | refine Va ?_ | refine Vb ?_ | refine Vc ?_ | refine Vd ?_ | refine Ve ?_ | refine Vf ?_); (try simp only [go_sem, hP, e1, e2]); (repeat refine qJ ?_))))
  (refine AS_pu (h2) ?_; simp only [go_sem, hP]; (repeat refine qJ ?_); (repeat ((first | refine Va ?_ | refine Vb ?_ | refine Vc ?_ | refine Vd ?_ | refine Ve ?_ | refine Vf ?_); (try simp only [go_sem, hP]); (repeat refine qJ ?_))))
  refine ⟨by have hmax : maxLen = 9223372036854775807 := rfl
             omega, ?_⟩
  (refine WV_ret ?_; simp only [thenQ, inQ, RetQ, RetOk, resAll, resA]; simp only [go_sem, tupA, AV.port, AV.portL, exists_eq_left']; (first | exact AVle.of rfl | refine AVle.of ?_ | skip))
abbrev o6_0:List Ins:=[⟨some 0,.mv (.k (.c (.bool false))),none,true⟩]
abbrev o6_1:List Ins:=[⟨some 4,.bsl 9 1 [(.k (.c (.str [97,98]))),(.k (.c (.str [99])))],none,true⟩,
 ⟨some 5,.call (.k (.fn 11 [])) [(.t 4)],none,true⟩,
 ⟨some 3,.mv (.t 5),none,true⟩,
 ⟨some 6,.ext (.t 3) 0,none,true⟩,
 ⟨some 7,.ext (.t 3) 1,none,true⟩,
 ⟨some 1,.mv (.t 6),none,true⟩,
 ⟨some 2,.mv (.t 7),none,true⟩]
abbrev o6_2:List Ins:=[⟨some 8,.mv (.t 2),none,true⟩,
 ⟨some 9,.bin .eql (.t 8) (.k (.c (.int .i64 0))),none,true⟩,
 ⟨some 10,.mv (.t 9),none,true⟩,
 ⟨some 11,.mv (.t 1),(some (10,true)),true⟩,
 ⟨some 12,.prim (.sbin .eql) [(.t 11),(.k (.c (.str [97,98,124,95,10,99,124,32,64,10,91,65,35,33,10])))],(some (10,true)),true⟩,
 ⟨some 13,.pick (.t 10) (.t 12) (.k (.c (.bool false))),none,true⟩,
 ⟨some 0,.mv (.t 13),none,true⟩]
abbrev v6_3:VC:=(.seq (.ops o6_2) .ret)
abbrev v6_4:VC:=(.seq (.ops o6_1) v6_3)
def ir6:FC:=⟨0,14,[.t 0],(.seq (.ops o6_0) v6_4)⟩
theorem c6:compM Tryd.prog [] 6 = some ir6:=by kernel_rfl
theorem works_text:writeG [[97,98],[99]] = ([97,98,124,95,10,99,124,32,64,10,91,65,35,33,10],0):=by
 rw [write_eq]
 kernel_rfl
theorem bound6:FSpec Tryd.prog 6 [] (bv true):=by
 have h:=write24 [[97,98],[99]] (by simp) (by simp)
 rw [works_text] at h
 refine FSpec_ofP c6 (Nat.le_refl _) (by decide) fun C hP hN hC hpin hL => ?_; rw [init_st]
 simp only [ir6]
 (repeat ((first | refine Va ?_ | refine Vb ?_ | refine Vc ?_ | refine Vd ?_ | refine Ve ?_ | refine Vf ?_); (try simp only [go_sem,hP]); (repeat refine qJ ?_)))
 (refine AS_pu (h) ?_; simp only [go_sem,hP]; (repeat refine qJ ?_); (repeat ((first | refine Va ?_ | refine Vb ?_ | refine Vc ?_ | refine Vd ?_ | refine Ve ?_ | refine Vf ?_); (try simp only [go_sem,hP]); (repeat refine qJ ?_))))
 (refine WV_ret ?_; simp only [thenQ,inQ,RetQ,RetOk,resAll,resA]; simp only [go_sem,tupA,AV.port,AV.portL,exists_eq_left']; (first | exact AVle.of rfl | refine AVle.of ?_ | skip))
end Go.Proofs.YtdoidahbimonhaaDoor

namespace Go.Proofs.YtdoidahbimonhaaDoor
open Go Go.V
abbrev o13_0:List Ins:=[⟨some 4,.mv (.k (.c (.str []))),none,true⟩]
abbrev o13_1:List Ins:=[⟨some 10,.mv (.t 0),none,true⟩,
 ⟨some 11,.raw (.convert 9 51 (.tmp 10)),none,true⟩,
 ⟨some 5,.mv (.t 11),none,true⟩]
abbrev o13_2:List Ins:=[⟨some 6,.mv (.k (.c (.int .i64 0))),none,true⟩,
 ⟨some 7,.mv (.k (.c (.int .i64 0))),none,true⟩]
abbrev o13_3:List Ins:=[⟨some 8,.mv (.k (.c (.int .i64 0))),none,true⟩]
abbrev o13_4:List Ins:=[⟨some 12,.mv (.t 8),none,true⟩,
 ⟨some 13,.mv (.t 5),none,true⟩,
 ⟨some 14,.len (.t 13),none,true⟩,
 ⟨some 15,.bin .lss (.t 12) (.t 14),none,true⟩]
abbrev v13_5:VC:=(.cond (.t 15) .skip (.exit 0))
abbrev o13_6:List Ins:=[⟨some 18,.mv (.t 5),none,true⟩,
 ⟨some 19,.mv (.t 8),none,true⟩,
 ⟨some 20,.ia 1 (.t 18) (.t 19),none,true⟩,
 ⟨some 21,.ld true 1 (.t 20),none,true⟩,
 ⟨some 22,.bin .eql (.t 21) (.k (.c (.int .u8 10))),none,true⟩]
abbrev o13_7:List Ins:=[⟨some 23,.mv (.t 6),none,true⟩,
 ⟨some 24,.bin .add (.t 23) (.k (.c (.int .i64 1))),none,true⟩,
 ⟨some 6,.mv (.t 24),none,true⟩,
 ⟨some 7,.mv (.k (.c (.int .i64 0))),none,true⟩]
abbrev v13_8:VC:=(.seq (.ops o13_7) (.exit 1))
abbrev v13_9:VC:=(.cond (.t 22) v13_8 .skip)
abbrev o13_10:List Ins:=[⟨some 9,.mv (.k (.c (.int .i64 0))),none,true⟩]
abbrev o13_11:List Ins:=[⟨some 25,.mv (.t 9),none,true⟩,
 ⟨some 26,.mv (.t 1),none,true⟩,
 ⟨some 27,.len (.t 26),none,true⟩,
 ⟨some 28,.bin .lss (.t 25) (.t 27),none,true⟩]
abbrev v13_12:VC:=(.cond (.t 28) .skip (.exit 2))
abbrev o13_13:List Ins:=[⟨some 31,.mv (.t 1),none,true⟩,
 ⟨some 32,.mv (.t 9),none,true⟩,
 ⟨some 33,.ia 2 (.t 31) (.t 32),none,true⟩,
 ⟨some 34,.fa 0 (.t 33),none,true⟩,
 ⟨some 35,.ld true 1 (.t 34),none,true⟩,
 ⟨some 36,.mv (.t 6),none,true⟩,
 ⟨some 37,.bin .eql (.t 35) (.t 36),none,true⟩,
 ⟨some 38,.mv (.t 37),none,true⟩,
 ⟨some 39,.mv (.t 1),(some (38,true)),true⟩,
 ⟨some 40,.mv (.t 9),(some (38,true)),true⟩,
 ⟨some 41,.ia 2 (.t 39) (.t 40),(some (38,true)),true⟩,
 ⟨some 42,.fa 1 (.t 41),(some (38,true)),true⟩,
 ⟨some 43,.ld true 1 (.t 42),(some (38,true)),true⟩,
 ⟨some 44,.mv (.t 7),(some (38,true)),true⟩,
 ⟨some 45,.bin .eql (.t 43) (.t 44),(some (38,true)),true⟩,
 ⟨some 46,.pick (.t 38) (.t 45) (.k (.c (.bool false))),none,true⟩]
abbrev o13_14:List Ins:=[⟨some 47,.mv (.t 5),none,true⟩,
 ⟨some 48,.mv (.t 8),none,true⟩,
 ⟨some 49,.ia 1 (.t 47) (.t 48),none,true⟩,
 ⟨none,.st 1 (.t 49) (.k (.c (.int .u8 63))),none,true⟩]
abbrev v13_15:VC:=(.cond (.t 46) (.ops o13_14) .skip)
abbrev v13_16:VC:=(.seq (.ops o13_13) v13_15)
abbrev o13_17:List Ins:=[⟨some 29,.mv (.t 9),none,true⟩,
 ⟨some 30,.bin .add (.t 29) (.k (.c (.int .i64 1))),none,true⟩,
 ⟨some 9,.mv (.t 30),none,true⟩]
abbrev v13_18:VC:=(.seq (.block 3 v13_16) (.ops o13_17))
abbrev v13_19:VC:=(.seq (.seq (.ops o13_11) v13_12) v13_18)
-- K13_2: changed and kept: [9]
abbrev v13_20:VC:=(.loop v13_19)
abbrev v13_21:VC:=(.block 2 v13_20)
abbrev o13_22:List Ins:=[⟨some 50,.mv (.t 7),none,true⟩,
 ⟨some 51,.bin .add (.t 50) (.k (.c (.int .i64 1))),none,true⟩,
 ⟨some 7,.mv (.t 51),none,true⟩]
abbrev v13_23:VC:=(.seq (.seq (.ops o13_10) v13_21) (.ops o13_22))
abbrev v13_24:VC:=(.seq (.seq (.ops o13_6) v13_9) v13_23)
abbrev o13_25:List Ins:=[⟨some 16,.mv (.t 8),none,true⟩,
 ⟨some 17,.bin .add (.t 16) (.k (.c (.int .i64 1))),none,true⟩,
 ⟨some 8,.mv (.t 17),none,true⟩]
abbrev v13_26:VC:=(.seq (.block 1 v13_24) (.ops o13_25))
abbrev v13_27:VC:=(.seq (.seq (.ops o13_4) v13_5) v13_26)
-- K13_1: changed and kept: [8,6,7]
abbrev v13_28:VC:=(.loop v13_27)
abbrev v13_29:VC:=(.block 0 v13_28)
abbrev o13_30:List Ins:=[⟨some 52,.mv (.t 5),none,true⟩,
 ⟨some 53,.raw (.convert 51 9 (.tmp 52)),none,true⟩,
 ⟨some 4,.mv (.t 53),none,true⟩]
abbrev v13_31:VC:=(.seq (.ops o13_30) .ret)
abbrev v13_32:VC:=(.seq (.seq (.ops o13_3) v13_29) v13_31)
abbrev v13_33:VC:=(.seq (.ops o13_2) v13_32)
abbrev v13_34:VC:=(.seq (.ops o13_1) v13_33)
def ir13:FC:=⟨2,54,[.t 4],(.seq (.ops o13_0) v13_34)⟩
theorem c13:compM Tryd.prog [] 13 = some ir13:=by kernel_rfl
attribute [local go_sem] Nat.reduceEqDiff Nat.reduceAdd Nat.reduceMul reduceIte Nat.reduceLeDiff Nat.reduceLT Nat.reduceBEq reduceCtorEq
def placeC (m:Int × Int):List CD:=[.int .i64 m.1,.int .i64 m.2]
def placesC (ms:List (Int × Int)):CD:=.sl 2 (ms.map placeC)
def posK (s:List UInt8):Nat → Nat × Nat
 | 0 => (0,0)
 | i + 1 => if s.getD i 0 = 10 then ((posK s i).1 + 1,0) else ((posK s i).1,(posK s i).2 + 1)
def hitM (ms:List (Int × Int)) (q:Nat × Nat):Bool:=ms.any fun m => decide (m.1 = (q.1:Int)) && decide (m.2 = (q.2:Int))
def tornB (s:List UInt8) (ms:List (Int × Int)) (i:Nat):UInt8:=if s.getD i 0 = 10 then 10 else if hitM ms (posK s i) = true then 63 else s.getD i 0
def tornK (s:List UInt8) (ms:List (Int × Int)) (i:Nat):List UInt8:=(List.range i).map (tornB s ms) ++ s.drop i
theorem posK_le (s:List UInt8):∀ i,(posK s i).1 ≤ i ∧ (posK s i).2 ≤ i
 | 0 => by simp [posK]
 | i + 1 => by
  have:=posK_le s i
  unfold posK
  split <;> simp only <;> omega
theorem tornK_len {s:List UInt8} {ms:List (Int × Int)} {i:Nat} (h:i ≤ s.length):(tornK s ms i).length = s.length:=by simp [tornK]; omega
theorem tornK_at {s:List UInt8} {ms:List (Int × Int)} {i:Nat} (h:i < s.length):(tornK s ms i)[i]? = some (s.getD i 0):=by
 unfold tornK
 rw [List.getElem?_append_right (by simp),List.length_map,List.length_range,Nat.sub_self,List.getElem?_drop,Nat.add_zero,List.getD_eq_getElem?_getD,List.getElem?_eq_getElem h]
 rfl
theorem tornK_set {s:List UInt8} {ms:List (Int × Int)} {i:Nat} (h:i < s.length):tornK s ms (i + 1) = (tornK s ms i).set i (tornB s ms i):=by
 unfold tornK
 rw [List.set_append_right _ _ (by simp),List.length_map,List.length_range,Nat.sub_self,List.range_succ,List.map_append,List.append_assoc,List.drop_eq_getElem_cons h]
 rfl
theorem bcellsD_set {l:List UInt8} {k:Nat} (h:k < l.length) (j:Nat) (v:UInt8):(cellsG bcd l j).set k (.c (.int .u8 (v.toNat:Int))) = cellsG bcd (l.set k v) j:=by
 have hcs:=cellsG_set (cds:=bcd) bcd_one (l:=l) (k:=k) h j 0 (by decide) (.int .u8 v.toNat) v rfl
 rwa [Nat.mul_one,Nat.add_zero] at hcs
theorem bcellsD_get {l:List UInt8} {k:Nat} {b:UInt8} (h:l[k]? = some b) (j:Nat) (x:AV):(cellsG bcd l j).getD k x = .c (.int .u8 (b.toNat:Int)):=by
 obtain ⟨hk,hb⟩:=List.getElem?_eq_some_iff.1 h
 have hcs:=cellsG_get (cds:=bcd) bcd_one (l:=l) (k:=k) hk j 0 (d:=.int .u8 (b.toNat:Int)) (by rw [hb]; rfl) x
 rwa [Nat.mul_one,Nat.add_zero] at hcs
theorem hitM_take {ms:List (Int × Int)} {k:Nat} (h:k < ms.length) (q:Nat × Nat):hitM (ms.take (k + 1)) q = (hitM (ms.take k) q || (decide (ms[k].1 = (q.1:Int)) && decide (ms[k].2 = (q.2:Int)))):=by
 unfold hitM
 rw [List.take_succ_eq_append_getElem h,List.any_append]; simp
set_option maxRecDepth 20000 in
set_option maxHeartbeats 16000000 in
theorem torn13 (s:List UInt8) (ms:List (Int × Int)) (hs:s.length ≤ 1000000) (hm:ms.length ≤ 1000000):FSpec Tryd.prog 13 [sv s,.c (placesC ms)] (sv (tornK s ms s.length)):=by
 have hmax:maxLen = 9223372036854775807:=rfl
 refine FSpec_of c13 (Nat.le_refl _) (by decide) fun C hP hN hC hL => ?_; rw [init_st]
 simp only [ir13]
 refine WV_seq_ ?_
 (refine WV_op ?_; simp only [go_sem,hP]; (repeat refine qJ ?_))
 refine WV_seq_ ?_
 (refine WV_op ?_; simp only [go_sem,hP]; (repeat refine qJ ?_))
 refine raw_sb (s:=s) (x':=.t 10) (e:=5) (by kernel_rfl) (by kernel_rfl) (by kernel_rfl) rfl rfl rfl rfl (by omega) ?_
 intro cap j k1 k2 k3
 simp only [go_sem]
 (repeat ((first | refine Va ?_ | refine Vb ?_ | refine Vc ?_ | refine Vd ?_ | refine Ve ?_ | refine Vf ?_); (try simp only [go_sem,hP]); (repeat refine qJ ?_)))
 refine WV_loopS (fun i:Nat => ⟨upd (upd (upd (upd (upd e0 1 (.c (placesC ms))) 5 (.vw 1 11 0 s.length cap)) 6 (iv (posK s i).1)) 7 (iv (posK s i).2)) 8 (iv i),upd o0 11 (.box (cellsG bcd (tornK s ms i) j))⟩) (fun i => i ≤ s.length) (fun i => s.length - i) 0 (Nat.zero_le _) ?_ ?_
 ·(refine Sub_of (by simp only [go_sem]; ((repeat' (first | exact EnvLe_e0 _ _ | refine EnvLe_upd ?_ ?_)) <;> ((try simp only [upd_app,e0_app,o0_app,Nat.reduceEqDiff,reduceIte]); first | exact AWk.refl _ _ | exact AWk.int (by omega) | exact AWk.int (by rw [w64 (by omega) (by omega)]; omega) | exact AWk.grow rfl | exact AWk.nil _ | exact AWk.of (by simp [tornK,posK])))) (by simp only [go_sem]; exact ObjLe_au))
 intro i hi0
 have hpk:=posK_le s i
 (repeat ((first | refine Va ?_ | refine Vb ?_ | refine Vc ?_ | refine Vd ?_ | refine Ve ?_ | refine Vf ?_); (try simp only [go_sem,hP]); (repeat refine qJ ?_)))
 (refine WV_cond rfl (fun h => ?_) (fun h => ?_))
 ·have hi:i < s.length:=by simpa using h
  have hw:=w64 (n:=(i:Int) + 1) (by omega) (by omega)
  have hps:posK s (i + 1) = if s.getD i 0 = 10 then ((posK s i).1 + 1,0) else ((posK s i).1,(posK s i).2 + 1):=rfl
  have htl:=tornK_len (s:=s) (ms:=ms) (i:=i) (by omega)
  have hat:=tornK_at (ms:=ms) hi
  have hts:=tornK_set (ms:=ms) hi
  unfold tornB at hts
  have hgd:=bcellsD_get hat j .non
  have hcl:(cellsG bcd (tornK s ms i) j).length = s.length + j:=by rw [cellsG_len bcd_one,htl]; omega
  obtain ⟨q,hq⟩ : ∃ q,q = posK s i:=⟨_,rfl⟩
  rw [← hq] at hps hts hpk ⊢
  generalize s.getD i 0 = b at hps hat hts hgd
  generalize hK:tornK s ms i = K at htl hat hts hgd hcl ⊢
  have hwr:=w64 (n:=(q.1:Int) + 1) (by omega) (by omega)
  have hwc:=w64 (n:=(q.2:Int) + 1) (by omega) (by omega)
  (repeat ((first | refine Va ?_ | refine Vb ?_ | refine Vc ?_ | refine Vd ?_ | refine Ve ?_ | refine Vf ?_); (try simp only [go_sem,hP,hgd,hcl,Int.toNat_natCast,Int.ofNat_lt,hi,Int.natCast_nonneg,Nat.mul_one,Nat.zero_add]); (repeat refine qJ ?_)))
  have hb10:((b.toNat:Int) == 10) = decide (b = 10):=by
   rw [Bool.eq_iff_iff,beq_iff_eq,decide_eq_true_eq]
   constructor
   ·intro h
    exact UInt8.toNat.inj (by rw [show (10:UInt8).toNat = 10 from rfl]; omega)
   ·rintro rfl; rfl
  by_cases hb:b = 10
  ·rw [if_pos hb] at hps hts
   have hKs:K.set i 10 = K:=by
    rw [hb] at hat
    obtain ⟨h1,h2⟩:=List.getElem?_eq_some_iff.1 hat
    rw [← h2,List.set_getElem_self]
   rw [hKs] at hts
   (refine WV_cond rfl (fun h => ?_) (fun h => ?_))
   ·(repeat ((first | refine Va ?_ | refine Vb ?_ | refine Vc ?_ | refine Vd ?_ | refine Ve ?_ | refine Vf ?_); (try simp only [go_sem,hP,hwr,hw]); (repeat refine qJ ?_)))
    refine ⟨i + 1,by omega,by omega,?_⟩
    rw [hps,hts]
    exact Sub_au
   ·rw [hb10] at h; simp [hb] at h
  ·rw [if_neg hb] at hps hts
   (refine WV_cond rfl (fun h => ?_) (fun h => ?_))
   ·rw [hb10] at h; simp [hb] at h
   (repeat ((first | refine Va ?_ | refine Vb ?_ | refine Vc ?_ | refine Vd ?_ | refine Ve ?_ | refine Vf ?_); (try simp only [go_sem,hP]); (repeat refine qJ ?_)))
   refine WV_loopS (fun k:Nat => ⟨upd (upd (upd (upd (upd (upd e0 1 (.c (placesC ms))) 5 (.vw 1 11 0 s.length cap)) 6 (iv q.1)) 7 (iv q.2)) 8 (iv i)) 9 (iv k),upd o0 11 (.box (cellsG bcd (if hitM (ms.take k) q = true then K.set i 63 else K) j))⟩) (fun k => k ≤ ms.length) (fun k => ms.length - k) 0 (Nat.zero_le _) ?_ ?_
   ·(refine Sub_of (by simp only [go_sem]; ((repeat' (first | exact EnvLe_e0 _ _ | refine EnvLe_upd ?_ ?_)) <;> ((try simp only [upd_app,e0_app,o0_app,Nat.reduceEqDiff,reduceIte]); first | exact AWk.refl _ _ | exact AWk.int (by omega) | exact AWk.int (by rw [w64 (by omega) (by omega)]; omega) | exact AWk.grow rfl | exact AWk.nil _ | exact AWk.of (by simp [hitM])))) (by simp only [go_sem]; exact ObjLe_au))
   intro k hk0
   (repeat ((first | refine Va ?_ | refine Vb ?_ | refine Vc ?_ | refine Vd ?_ | refine Ve ?_ | refine Vf ?_); (try simp only [go_sem,hP,placesC,List.length_map]); (repeat refine qJ ?_)))
   (refine WV_cond rfl (fun h => ?_) (fun h => ?_))
   ·have hk:k < ms.length:=by simpa using h
    have hw3:=w64 (n:=(k:Int) + 1) (by omega) (by omega)
    have hgm:(ms.map placeC).getD k [] = placeC ms[k]:=map_getD hk
    have hht:=hitM_take hk q
    generalize ms[k] = m at hgm hht
    obtain ⟨K',hK'⟩ : ∃ K',K' = if hitM (ms.take k) q = true then K.set i 63 else K:=⟨_,rfl⟩
    rw [← hK']
    have hl':K'.length = s.length:=by rw [hK']; split <;> simp [htl]
    have hs':K'.set i 63 = K.set i 63:=by rw [hK']; split <;> simp
    have hset:=bcellsD_set (l:=K') (k:=i) (by omega) j 63
    rw [hs',show (((63:UInt8).toNat:Nat):Int) = 63 from rfl] at hset
    have hcl':(cellsG bcd K' j).length = s.length + j:=by rw [cellsG_len bcd_one,hl']; omega
    have hil:i < s.length + j:=by omega
    (repeat ((first | refine Va ?_ | refine Vb ?_ | refine Vc ?_ | refine Vd ?_ | refine Ve ?_ | refine Vf ?_); (try simp only [go_sem,hP,hgm,placesC,placeC,Int.toNat_natCast,Int.ofNat_lt,hk,Int.natCast_nonneg,List.length_map]); (repeat refine qJ ?_)))
    by_cases hc:m.1 = (q.1:Int) ∧ m.2 = (q.2:Int)
    ·have hh:hitM (ms.take (k + 1)) q = true:=by rw [hht]; simp [hc.1,hc.2]
     (refine WV_cond rfl (fun h => ?_) (fun h => ?_))
     ·(repeat ((first | refine Va ?_ | refine Vb ?_ | refine Vc ?_ | refine Vd ?_ | refine Ve ?_ | refine Vf ?_); (try simp only [go_sem,hP,Int.toNat_natCast,Int.ofNat_lt,hi,Int.natCast_nonneg,Nat.mul_one,Nat.zero_add,Nat.add_zero,hset,hcl',hil,hw3]); (repeat refine qJ ?_)))
      refine ⟨k + 1,by omega,by omega,?_⟩
      rw [if_pos hh]
      (refine Sub_of (by simp only [go_sem]; ((repeat' (first | exact EnvLe_e0 _ _ | refine EnvLe_upd ?_ ?_)) <;> ((try simp only [upd_app,e0_app,o0_app,Nat.reduceEqDiff,reduceIte]); first | exact AWk.refl _ _ | exact AWk.int (by omega) | exact AWk.int (by rw [w64 (by omega) (by omega)]; omega) | exact AWk.grow rfl | exact AWk.nil _ | exact AWk.of (by simp [placesC])))) (by simp only [go_sem]; exact ObjLe_au))
     ·simp [hc.1,hc.2] at h
    ·have hh:hitM (ms.take (k + 1)) q = hitM (ms.take k) q:=by
      rw [hht]
      have:(decide (m.1 = (q.1:Int)) && decide (m.2 = (q.2:Int))) = false:=by
       rw [Bool.eq_false_iff,ne_eq,Bool.and_eq_true,decide_eq_true_eq,decide_eq_true_eq]; exact hc
      rw [this,Bool.or_false]
     (refine WV_cond rfl (fun h => ?_) (fun h => ?_))
     ·simp at h; exact (hc h).elim
     ·(repeat ((first | refine Va ?_ | refine Vb ?_ | refine Vc ?_ | refine Vd ?_ | refine Ve ?_ | refine Vf ?_); (try simp only [go_sem,hP,hw3]); (repeat refine qJ ?_)))
      refine ⟨k + 1,by omega,by omega,?_⟩
      rw [hh,← hK']
      (refine Sub_of (by simp only [go_sem]; ((repeat' (first | exact EnvLe_e0 _ _ | refine EnvLe_upd ?_ ?_)) <;> ((try simp only [upd_app,e0_app,o0_app,Nat.reduceEqDiff,reduceIte]); first | exact AWk.refl _ _ | exact AWk.int (by omega) | exact AWk.int (by rw [w64 (by omega) (by omega)]; omega) | exact AWk.grow rfl | exact AWk.nil _ | exact AWk.of (by simp [placesC])))) (by simp only [go_sem]; exact ObjLe_au))
   ·have hk:k = ms.length:=by simp at h; omega
    subst hk
    rw [List.take_length]
    refine WV_exit ?_
    simp only [thenQ,inQ,reduceIte,beq_self_eq_true]
    (repeat ((first | refine Va ?_ | refine Vb ?_ | refine Vc ?_ | refine Vd ?_ | refine Ve ?_ | refine Vf ?_); (try simp only [go_sem,hP,hwc,hw]); (repeat refine qJ ?_)))
    refine ⟨i + 1,by omega,by omega,?_⟩
    have hts2:tornK s ms (i + 1) = if hitM ms q = true then K.set i 63 else K:=by
     rw [hts]
     split
     ·rfl
     ·obtain ⟨h1,h2⟩:=List.getElem?_eq_some_iff.1 hat
      rw [← h2,List.set_getElem_self]
    rw [hps,hts2]
    (refine Sub_of (by simp only [go_sem]; ((repeat' (first | exact EnvLe_e0 _ _ | refine EnvLe_upd ?_ ?_)) <;> ((try simp only [upd_app,e0_app,o0_app,Nat.reduceEqDiff,reduceIte]); first | exact AWk.refl _ _ | exact AWk.int (by omega) | exact AWk.int (by rw [w64 (by omega) (by omega)]; omega) | exact AWk.grow rfl | exact AWk.nil _ | exact AWk.of (by simp [placesC])))) (by simp only [go_sem]; exact ObjLe_au))
 ·have hi:i = s.length:=by simp at h; omega
  subst hi
  refine WV_exit ?_
  simp only [thenQ,inQ,reduceIte,beq_self_eq_true]
  refine WV_seq_ ?_
  (refine WV_op ?_; simp only [go_sem,hP]; (repeat refine qJ ?_))
  have htl:=tornK_len (s:=s) (ms:=ms) (i:=s.length) (Nat.le_refl _)
  generalize tornK s ms s.length = K at htl ⊢
  refine raw_bs (s:=K) (x':=.t 52) (e:=5) (by kernel_rfl) (by kernel_rfl) (by kernel_rfl) rfl rfl ?_ ?_
  ·show AV.vport _ (.vw 1 11 0 s.length cap) = _
   unfold AV.vport
   rw [← htl,elemsV_cellsG bcd_one _ 11 K j cap (by rfl)]
   rfl
  simp only [go_sem,hP]
  (repeat refine qJ ?_)
  (repeat ((first | refine Va ?_ | refine Vb ?_ | refine Vc ?_ | refine Vd ?_ | refine Ve ?_ | refine Vf ?_); (try simp only [go_sem,hP]); (repeat refine qJ ?_)))
  (refine WV_ret ?_; simp only [thenQ,inQ,RetQ,RetOk,resAll,resA]; simp only [go_sem,tupA,AV.port,AV.portL,exists_eq_left']; (first | exact AVle.of rfl | refine AVle.of ?_ | skip))
end Go.Proofs.YtdoidahbimonhaaDoor

namespace Go.Proofs.YtdoidahbimonhaaDoor
open Go Go.V
def tornG (ms:List (Int × Int)):Nat → Nat → List UInt8 → List UInt8
 | _,_,[] => []
 | r,c,b :: l => if b = 10 then 10 :: tornG ms (r + 1) 0 l else (if hitM ms (r,c) = true then 63 else b) :: tornG ms r (c + 1) l
theorem tornG_cons (ms:List (Int × Int)) (r c:Nat) (b:UInt8) (l:List UInt8):tornG ms r c (b :: l) = if b = 10 then 10 :: tornG ms (r + 1) 0 l else (if hitM ms (r,c) = true then 63 else b) :: tornG ms r (c + 1) l:=rfl
theorem posK_succ (s:List UInt8) (i:Nat):posK s (i + 1) = if s.getD i 0 = 10 then ((posK s i).1 + 1,0) else ((posK s i).1,(posK s i).2 + 1):=rfl
theorem torn_range (s:List UInt8) (ms:List (Int × Int)):∀ (l:List UInt8) (n:Nat),s.drop n = l → (List.range' n l.length).map (tornB s ms) = tornG ms (posK s n).1 (posK s n).2 l
 | [],n,h => rfl
 | b :: l,n,h => by
  have hn:n < s.length:=by
   rcases Nat.lt_or_ge n s.length with h1 | h1
   ·exact h1
   ·rw [List.drop_eq_nil_of_le h1] at h; cases h
  rw [List.drop_eq_getElem_cons hn] at h
  obtain ⟨h1,h2⟩:=List.cons.inj h
  have ih:=torn_range s ms l (n + 1) h2
  have hg:s.getD n 0 = b:=by rw [List.getD_eq_getElem?_getD,List.getElem?_eq_getElem hn]; exact h1
  rw [List.length_cons,List.range'_succ,List.map_cons,ih]
  rw [posK_succ,tornG_cons]
  unfold tornB
  rw [hg]
  by_cases hb:b = 10
  ·rw [if_pos hb,if_pos hb,if_pos hb]
  ·rw [if_neg hb,if_neg hb,if_neg hb]
theorem tornK_all (s:List UInt8) (ms:List (Int × Int)):tornK s ms s.length = tornG ms 0 0 s:=by
 have:=torn_range s ms s 0 rfl
 unfold tornK
 rw [List.drop_length,List.append_nil,List.range_eq_range',this]
 rfl
theorem hitM_iff {ms:List (Int × Int)} {r c:Nat}:hitM ms (r,c) = true ↔ ((r:Int),(c:Int)) ∈ ms:=by
 unfold hitM
 rw [List.any_eq_true]
 constructor
 ·rintro ⟨⟨a,b⟩,hm,h⟩
  simp at h
  rw [← h.1,← h.2]; exact hm
 ·intro h
  exact ⟨_,h,by simp⟩
def rowTo (ms:List (Int × Int)) (r c:Nat) (l:List UInt8):List UInt8:=l.mapIdx fun k b => if hitM ms (r,c + k) = true then 63 else b
theorem rowTo_cons (ms:List (Int × Int)) (r c:Nat) (b:UInt8) (l:List UInt8):rowTo ms r c (b :: l) = (if hitM ms (r,c) = true then 63 else b) :: rowTo ms r (c + 1) l:=by
 unfold rowTo
 rw [List.mapIdx_cons]
 simp only [Nat.add_zero,List.cons.injEq,true_and]
 congr 1
 funext k b
 rw [show c + (k + 1) = c + 1 + k by omega]
theorem tornG_row (ms:List (Int × Int)) (r:Nat) (rest:List UInt8):∀ (l:List UInt8) (c:Nat),(∀ b ∈ l,b ≠ 10) → tornG ms r c (l ++ 10 :: rest) = rowTo ms r c l ++ 10 :: tornG ms (r + 1) 0 rest
 | [],c,_ => by simp [tornG,rowTo]
 | b :: l,c,h => by
  rw [List.cons_append,rowTo_cons,List.cons_append]
  rw [tornG_cons,if_neg (h b (by simp)),tornG_row ms r rest l (c + 1) fun x hx => h x (by simp [hx])]
theorem rowTo_up (ms:List (Int × Int)) (r:Nat) (l:List UInt8):rowTo ms r 0 l = upRow (fun _ => 63) r ms l:=by
 refine List.ext_getElem (by simp [rowTo,upRow_len]) fun k h1 h2 => ?_
 have hk:k < l.length:=by simpa [rowTo] using h1
 obtain ⟨a1,a2⟩:=upRow_at (fun _ => 63) r ms l hk
 rw [List.getD_eq_getElem?_getD,List.getElem?_eq_getElem h2] at a1 a2
 rw [List.getD_eq_getElem?_getD,List.getElem?_eq_getElem hk] at a2
 simp only [Option.getD_some] at a1 a2
 simp only [rowTo,List.getElem_mapIdx,Nat.zero_add]
 by_cases hm:hitM ms (r,k) = true
 ·rw [if_pos hm,a1 (hitM_iff.1 hm)]
 ·rw [if_neg hm,a2 fun h => hm (hitM_iff.2 h)]
theorem tornG_text (ms:List (Int × Int)):∀ (rows:List (List UInt8)) (r:Nat),(∀ l ∈ rows,∀ b ∈ l,b ≠ 10) → tornG ms r 0 (textG rows) = textG (rows.mapIdx fun i l => upRow (fun _ => 63) (r + i) ms l)
 | [],r,_ => rfl
 | l :: rows,r,h => by
  have e:textG (l :: rows) = l ++ 10 :: textG rows:=by unfold textG; rw [List.flatMap_cons,List.append_assoc]; rfl
  rw [e,tornG_row ms r (textG rows) l 0 (h l (by simp)),tornG_text ms rows (r + 1) fun x hx => h x (by simp [hx]),rowTo_up,List.mapIdx_cons]
  unfold textG
  rw [List.flatMap_cons,List.append_assoc]
  simp only [Nat.add_zero,List.cons_append,List.nil_append]
  congr 4
  funext i l
  rw [show r + (i + 1) = r + 1 + i by omega]
theorem upR_mapIdx (f:Nat → Nat → UInt8) (rows:List (List UInt8)) (ms:List (Int × Int)):upR f rows ms = rows.mapIdx fun i l => upRow (f i) i ms l:=by
 refine List.ext_getElem (by simp [upR]) fun k h1 h2 => ?_
 have hk:k < rows.length:=by simpa [upR] using h1
 simp only [upR,List.getElem_map,List.getElem_range,List.getElem_mapIdx]
 rw [List.getD_eq_getElem?_getD,List.getElem?_eq_getElem hk]; rfl
section
variable {ts:List (List UInt8)}
theorem spo_lost (h:BookOk ts) (ms:List (Int × Int)) {p:Nat × Nat} (hp:Lost (ts.length + 1) (maxW ts + 1) (valsG (spo ts ms)) p):((p.1:Int),(p.2:Int)) ∈ ms:=by
 obtain ⟨h1,h2,h3⟩:=hp
 refine Classical.byContradiction fun hm => ?_
 have:=(spo_val h ms h1 h2).2 hm
 rw [this] at h3
 exact h.right.full p.1 p.2 h1 h2 h3
theorem torn_book (h:BookOk ts) (ms:List (Int × Int)):tornK (textG (bookB ts)) ms (textG (bookB ts)).length = textG (spo ts ms):=by
 rw [tornK_all,tornG_text ms (bookB ts) 0 fun l hl b hb e => by have:=(h.sok.byte l hl b hb).1; rw [e] at this; exact absurd this (by decide)]
 unfold spo
 rw [upR_mapIdx]
 simp only [Nat.zero_add]
end
end Go.Proofs.YtdoidahbimonhaaDoor

namespace Go.Proofs.YtdoidahbimonhaaDoor
open Go Go.V
def runT (p:Tr) (ts:List Int):Option (List Int × Int × Int):=stT p ts ts.length
theorem stT_succ (p:Tr) (ts:List Int) (i:Nat):stT p ts (i + 1) = if i = 0 then some ([],1,0) else match stT p ts i with | none => none | some x => stepT p (ts.getD i 0 - ts.getD (i - 1) 0) x:=rfl
theorem getD_left {a b:List Int} {i:Nat} (h:i < a.length):(a ++ b).getD i 0 = a.getD i 0:=by
 rw [List.getD_eq_getElem?_getD,List.getD_eq_getElem?_getD,List.getElem?_append_left h]
theorem stT_app (p:Tr) (a b:List Int):∀ i,i ≤ a.length → stT p (a ++ b) i = stT p a i
 | 0,_ => rfl
 | i + 1,h => by
  rw [stT_succ,stT_succ,stT_app p a b i (by omega),getD_left (by omega),getD_left (by omega)]
theorem runT_snoc (p:Tr) {ts:List Int} {z:Int} (h:ts.getLast? = some z) (t:Int):runT p (ts ++ [t]) = match runT p ts with | none => none | some x => stepT p (t - z) x:=by
 have hne:ts ≠ []:=by rintro rfl; cases h
 have hpos:0 < ts.length:=List.length_pos_iff.2 hne
 unfold runT
 rw [List.length_append,List.length_singleton,stT_succ,if_neg (by omega),stT_app p ts [t] ts.length (Nat.le_refl _)]
 have e1:(ts ++ [t]).getD ts.length 0 = t:=by rw [List.getD_eq_getElem?_getD,List.getElem?_append_right (Nat.le_refl _),Nat.sub_self]; rfl
 have e2:(ts ++ [t]).getD (ts.length - 1) 0 = z:=by
  rw [getD_left (by omega),List.getD_eq_getElem?_getD]
  rw [List.getLast?_eq_getElem?] at h
  rw [h]; rfl
 rw [e1,e2]
theorem says_pa {p:Tr} (hp:TrOk p):saysT p p.pa = 3:=by unfold saysT; rw [if_pos (Int.le_refl _)]
theorem says_ga {p:Tr} (hp:TrOk p):saysT p p.ga = 2:=by
 have:=hp.ga
 unfold saysT; rw [if_neg (by omega),if_pos (Int.le_refl _)]
theorem says_pi {p:Tr} (hp:TrOk p):saysT p p.pi = 1:=by
 have:=hp.ga
 have:=hp.pi
 have:=hp.sl
 unfold saysT
 rw [if_neg (by omega),if_neg (by omega),if_pos]
 unfold inB; simp; omega
theorem addS_succ (p:Tr) (d:Int) (q:List Int × Int) (k:Nat):addS p d q (k + 1) = ((addS p d q k).1 ++ [if (addS p d q k).1 = [] then (addS p d q k).2 else (addS p d q k).2 + (if k = 0 then d else p.pi)],if (addS p d q k).1 = [] then (addS p d q k).2 else (addS p d q k).2 + (if k = 0 then d else p.pi)):=rfl
theorem addS_last (p:Tr) (d:Int) (q:List Int × Int) (k:Nat):(addS p d q (k + 1)).1.getLast? = some (addS p d q (k + 1)).2:=by
 rw [addS_succ]; simp
theorem addS_ne (p:Tr) (d:Int) (q:List Int × Int) (k:Nat):(addS p d q (k + 1)).1 ≠ []:=by
 rw [addS_succ]; simp
theorem addS_pi {p:Tr} (hp:TrOk p) {d:Int} {q:List Int × Int} {k:Nat} {acc:List Int} {A B:Int} (h:runT p (addS p d q (k + 1)).1 = some (acc,A,B)):runT p (addS p d q (k + 1 + 1)).1 = some (if 0 < B then (acc,A,B + 1) else (acc,A + 1,B)):=by
 rw [addS_succ p d q (k + 1)]
 simp only
 rw [runT_snoc p (addS_last p d q k),h,if_neg (addS_ne p d q k),if_neg (by omega)]
 have e:(addS p d q (k + 1)).2 + p.pi - (addS p d q (k + 1)).2 = p.pi:=by omega
 simp only
 rw [e]
 unfold stepT
 rw [says_pi hp,if_pos rfl]
 simp only
 split <;> rfl
theorem addS_letter {p:Tr} (hp:TrOk p) {q:List Int × Int} {acc:List Int} (h:runT p (addS p p.pa q 1).1 = some (acc,1,0)):∀ k:Nat,runT p (addS p p.pa q (k + 1)).1 = some (acc,((k + 1:Nat):Int),0)
 | 0 => h
 | k + 1 => by
  rw [addS_pi hp (addS_letter hp h k)]
  simp
theorem addS_number {p:Tr} (hp:TrOk p) {q:List Int × Int} {acc:List Int} {A:Int} (h:runT p (addS p p.ga q 1).1 = some (acc,A,1)):∀ k:Nat,runT p (addS p p.ga q (k + 1)).1 = some (acc,A,((k + 1:Nat):Int))
 | 0 => h
 | k + 1 => by
  rw [addS_pi hp (addS_number hp h k),if_pos (by omega)]
  simp
structure Ris (q:List Int × Int):Prop where
 z:0 ≤ q.2
 le:∀ n ∈ q.1,0 ≤ n ∧ n ≤ q.2
 up:q.1.Pairwise (· < ·)
theorem addS_ris {p:Tr} (hp:TrOk p) {d:Int} (hd:1 ≤ d) {q:List Int × Int} (h:Ris q):∀ k,Ris (addS p d q k)
 | 0 => h
 | k + 1 => by
  have ih:=addS_ris hp hd h k
  have hpi:=hp.pi
  rw [addS_succ]
  generalize addS p d q k = r at ih
  have hdd:1 ≤ (if k = 0 then d else p.pi):=by split <;> omega
  generalize (if k = 0 then d else p.pi) = dd at hdd
  obtain ⟨i1,i2,i3⟩:=ih
  by_cases he:r.1 = []
  ·rw [if_pos he,he]
   exact ⟨i1,fun n hn => by simp at hn; subst hn; exact ⟨i1,Int.le_refl _⟩,by simp⟩
  ·rw [if_neg he]
   refine ⟨by simp only; omega,fun n hn => ?_,?_⟩
   ·rcases List.mem_append.1 hn with hn | hn
    ·have:=i2 n hn
     simp only; omega
    ·simp at hn; subst hn; simp only; omega
   ·simp only
    rw [List.pairwise_append]
    refine ⟨i3,by simp,fun a ha b hb => ?_⟩
    simp at hb
    have:=i2 a ha
    omega
theorem dl_last {l:List Int} {x:Int} (h:l.getLast? = some x):l.dropLast ++ [x] = l:=by
 have hne:l ≠ []:=by rintro rfl; cases h
 have h2:=List.dropLast_concat_getLast hne
 rw [List.getLast?_eq_some_getLast hne] at h
 rw [← Option.some.inj h]
 exact h2
structure SelsI (p:Tr) (l:List Int) (q:List Int × Int):Prop where
 ris:Ris q
 nil:l = [] → q.1 = []
 last:l ≠ [] → q.1.getLast? = some q.2
 run:l ≠ [] → ∃ A B:Int,runT p q.1 = some (l.dropLast,A,B) ∧ okE p (A,B) = true ∧ l.getLast? = some (endN p (A,B))
theorem sels_snoc {p:Tr} (hp:TrOk p) {l:List Int} {q:List Int × Int} (h:SelsI p l q) {n:Int} (hn:isSelB p n = true):SelsI p (l ++ [n]) (selS p q n):=by
 obtain ⟨h1,h2⟩:=sel_parts hp hn
 obtain ⟨a,ha⟩ : ∃ a:Nat,Int.tdiv n p.nu = a:=⟨(Int.tdiv n p.nu).toNat,by omega⟩
 obtain ⟨b,hb⟩ : ∃ b:Nat,Int.tmod n p.nu = b:=⟨(Int.tmod n p.nu).toNat,by omega⟩
 have e1:(Int.tdiv n p.nu + 1).toNat = a + 1:=by omega
 have e2:(Int.tmod n p.nu + 1).toNat = b + 1:=by omega
 have hs:selS p q n = addS p p.ga (addS p p.pa q (a + 1)) (b + 1):=by unfold selS; rw [e1,e2]
 have hga:=hp.ga
 have hpa:=hp.pa
 have hpi:=hp.pi
 have hsl:=hp.sl
 rw [hs]
 have r1:=addS_ris hp (d:=p.pa) (by omega) h.ris (a + 1)
 have hfirst:runT p (addS p p.pa q 1).1 = some (l,1,0):=by
  rw [addS_succ]
  simp only [addS]
  by_cases hl:l = []
  ·have hq:=h.nil hl
   rw [if_pos hq,hq,hl]; rfl
  ·obtain ⟨A,B,g1,g2,g3⟩:=h.run hl
   have hla:=h.last hl
   have hqn:q.1 ≠ []:=by intro e; rw [e] at hla; cases hla
   rw [if_neg hqn,runT_snoc p hla,g1]
   simp only [if_true]
   rw [show q.2 + p.pa - q.2 = p.pa by omega]
   unfold stepT
   rw [says_pa hp,if_neg (by decide),if_neg (by decide),if_pos rfl,if_pos g2]
   simp only [Option.some.injEq,Prod.mk.injEq,and_true]
   exact dl_last g3
 have hlet:=addS_letter hp hfirst a
 have hnum:runT p (addS p p.ga (addS p p.pa q (a + 1)) 1).1 = some (l,((a + 1:Nat):Int),1):=by
  have hla:=addS_last p p.pa q a
  have hne:=addS_ne p p.pa q a
  generalize addS p p.pa q (a + 1) = r at hlet hla hne
  rw [addS_succ]
  simp only [addS]
  rw [if_neg hne,runT_snoc p hla,hlet]
  simp only [if_true]
  rw [show r.2 + p.ga - r.2 = p.ga by omega]
  unfold stepT
  rw [says_ga hp,if_neg (by decide),if_pos rfl,if_neg (by simp)]
 have hfin:=addS_number hp hnum b
 refine ⟨addS_ris hp (by omega) r1 _,fun e => by simp at e,fun _ => addS_last _ _ _ _,fun _ => ⟨_,_,by rw [hfin,List.dropLast_concat],?_,?_⟩⟩
 ·unfold okE inB
  simp
  omega
 ·rw [List.getLast?_concat]
  unfold endN
  simp only [Option.some.injEq]
  have hdm:=Int.mul_tdiv_add_tmod n p.nu
  rw [ha,hb] at hdm
  rw [show ((a + 1:Nat):Int) - 1 = (a:Int) by omega,Int.mul_comm]
  omega
theorem sels_all {p:Tr} (hp:TrOk p) (l:List Int) (ha:∀ n ∈ l,isSelB p n = true):SelsI p l (selsS p l):=by
 have hgen:∀ (l m:List Int) (q:List Int × Int),SelsI p m q → (∀ n ∈ l,isSelB p n = true) → SelsI p (m ++ l) (l.foldl (selS p) q):=by
  intro l
  induction l with
  | nil => intro m q h _; simpa using h
  | cons n l ih =>
   intro m q h hq
   have:=ih (m ++ [n]) (selS p q n) (sels_snoc hp h (hq n (by simp))) fun x hx => hq x (by simp [hx])
   simpa using this
 have:=hgen l [] ([],0) ⟨⟨(by decide),(fun n hn => by cases hn),List.Pairwise.nil⟩,fun _ => rfl,fun h => (h rfl).elim,fun h => (h rfl).elim⟩ ha
 rw [List.nil_append] at this
 exact this
theorem list_written {p:Tr} (hp:TrOk p) (l:List Int) (ha:∀ n ∈ l,isSelB p n = true):listT p (selsS p l).1 = some l:=by
 have h:=sels_all hp l ha
 by_cases hl:l = []
 ·rw [h.nil hl,hl]; rfl
 ·obtain ⟨A,B,g1,g2,g3⟩:=h.run hl
  have hla:=h.last hl
  have hqn:(selsS p l).1 ≠ []:=by intro e; rw [e] at hla; cases hla
  have hpos:(selsS p l).1.length ≠ 0:=fun e => hqn (List.length_eq_zero_iff.1 e)
  unfold listT
  unfold runT at g1
  rw [g1]
  simp only
  rw [if_neg hpos,if_pos g2,dl_last g3]
end Go.Proofs.YtdoidahbimonhaaDoor

namespace Go.Proofs.YtdoidahbimonhaaDoor
open Go Go.V
def againT (p:Tr) (ts:List Int):Tr:=⟨p.le,p.nu,p.pi,p.sl,p.ga,p.pa,0,ts⟩
theorem risK_of {l:List Int} (h1:∀ n ∈ l,0 ≤ n ∧ n ≤ 99999) (h2:l.Pairwise (· < ·)):∀ k,k ≤ l.length → risK l k = true
 | 0,_ => rfl
 | k + 1,hk => by
  unfold risK
  rw [risK_of h1 h2 k (by omega),Bool.true_and]
  have e:l.getD k 0 = l[k]:=by rw [List.getD_eq_getElem?_getD,List.getElem?_eq_getElem (by omega)]; rfl
  have hk1:=h1 _ (List.getElem_mem (by omega:k < l.length))
  rw [e]
  by_cases hz:k = 0
  ·unfold inB; simp [hz]; subst hz; omega
  ·have e2:l.getD (k - 1) 0 = l[k - 1]:=by rw [List.getD_eq_getElem?_getD,List.getElem?_eq_getElem (by omega)]; rfl
   have:=List.pairwise_iff_getElem.1 h2 (k - 1) k (by omega) (by omega) (by omega)
   rw [e2]
   unfold inB; simp; omega
theorem risK_ok {l:List Int}:∀ {k:Nat},risK l k = true → k ≤ l.length → (∀ i,i < k → 0 ≤ l.getD i 0 ∧ l.getD i 0 ≤ 99999) ∧ ∀ i j,i < j → j < k → l.getD i 0 < l.getD j 0
 | 0,_,_ => ⟨fun i h => by omega,fun i j _ h => by omega⟩
 | k + 1,h,hk => by
  unfold risK at h
  rw [Bool.and_eq_true,Bool.and_eq_true] at h
  obtain ⟨a1,a2⟩:=risK_ok h.1 (by omega)
  have h3:=inB_iff.1 h.2.1
  refine ⟨fun i hi => ?_,fun i j hij hj => ?_⟩
  ·rcases Nat.lt_or_ge i k with h1 | h1
   ·exact a1 i h1
   ·rw [show i = k by omega]; exact h3
  ·rcases Nat.lt_or_ge j k with h1 | h1
   ·exact a2 i j hij h1
   ·have hjk:j = k:=by omega
    subst hjk
    have h4:=h.2.2
    simp at h4
    rcases h4 with h4 | h4
    ·omega
    ·rcases Nat.lt_or_ge i (j - 1) with h5 | h5
     ·exact Int.lt_trans (a2 i (j - 1) h5 (by omega)) (by simpa using h4)
     ·rw [show i = j - 1 by omega]; simpa using h4
theorem check_ok {p:Tr}:checkB p = true ↔ TrOk p:=by
 unfold checkB
 simp only [Bool.and_eq_true,inB_iff,decide_eq_true_eq]
 constructor
 ·rintro ⟨h1,h2,h3,h4,h5,h6,h7,h8,h9⟩
  obtain ⟨a1,a2⟩:=risK_ok h9 (Nat.le_refl _)
  refine ⟨h1,h2,h3,h4,h5,h6,h7,h8,fun n hn => ?_,List.pairwise_iff_getElem.2 fun i j hi hj hij => ?_⟩
  ·obtain ⟨i,hi,rfl⟩:=List.getElem_of_mem hn
   have:=a1 i hi
   rwa [List.getD_eq_getElem?_getD,List.getElem?_eq_getElem hi] at this
  ·have:=a2 i j hij hj
   rwa [List.getD_eq_getElem?_getD,List.getElem?_eq_getElem hi,List.getD_eq_getElem?_getD,List.getElem?_eq_getElem hj] at this
 ·intro h
  exact ⟨h.le,h.nu,h.pi,h.sl,h.pa,h.ga,h.sp,h.len,risK_of h.tm h.up _ (Nat.le_refl _)⟩
theorem again_ok {p:Tr} (hp:TrOk p) {l:List Int} (ha:∀ n ∈ l,isSelB p n = true) (hw:writeOk (selsS p l) = true):TrOk (againT p (selsS p l).1):=by
 have h:=sels_all hp l ha
 unfold writeOk at hw
 rw [Bool.and_eq_true,decide_eq_true_eq] at hw
 have h2:=inB_iff.1 hw.2
 exact ⟨hp.le,hp.nu,hp.pi,hp.sl,hp.pa,hp.ga,⟨Int.le_refl _,(by show (0:Int) ≤ 3; decide)⟩,hw.1,fun n hn => by have:=h.ris.le n hn; omega,h.ris.up⟩
theorem stT_again (p:Tr) (us ts:List Int):∀ i,stT (againT p us) ts i = stT p ts i
 | 0 => rfl
 | i + 1 => by rw [stT_succ,stT_succ,stT_again p us ts i]; rfl
theorem listT_again (p:Tr) (us ts:List Int):listT (againT p us) ts = listT p ts:=by
 unfold listT
 rw [stT_again]; rfl
theorem has_zero (k:Nat):hasS 0 k = false:=by
 unfold hasS
 rw [Int.zero_ediv]; rfl
theorem left_zero (ts:List Int):∀ k,k ≤ ts.length → leftK ts 0 k = ts.take k
 | 0,_ => by simp [leftK]
 | k + 1,h => by
  unfold leftK
  rw [left_zero ts k (by omega),has_zero,if_neg (by simp),List.take_succ_eq_append_getElem h,List.getD_eq_getElem?_getD,List.getElem?_eq_getElem h]
  rfl
theorem allR_again {p:Tr} {ts l:List Int} (h:listT p ts = some l):allR (againT p ts) = [(0,l)]:=by
 have e:leftT ts 0 = ts:=by unfold leftT; rw [left_zero ts _ (Nat.le_refl _),List.take_length]
 have e1:allR (againT p ts) = [] ++ readsL (againT p ts) [0]:=rfl
 have e2:(listT (againT p ts) (leftT (againT p ts).ti 0)).map (fun y => ((0:Int),y)) = some (0,l):=by
  rw [show (againT p ts).ti = ts from rfl,e,listT_again,h]; rfl
 rw [e1,List.nil_append]
 unfold readsL
 rw [List.filterMap_cons_some (f:=fun s => (listT (againT p ts) (leftT (againT p ts).ti s)).map fun y => (s,y)) e2,List.filterMap_nil]
theorem read_again {p:Tr} {ts l:List Int} (h:listT p ts = some l):readV (againT p ts) = .tup [.c (isC l),iv 0]:=by
 unfold readV
 rw [allR_again h,if_neg (by simp)]
 rfl
theorem listT_sel {p:Tr} (hp:TrOk p) {ts l:List Int} (h:listT p ts = some l):∀ n ∈ l,isSelB p n = true:=by
 have hend:∀ A B:Int,okE p (A,B) = true → isSelB p (endN p (A,B)) = true:=by
  intro A B h
  unfold okE at h
  rw [Bool.and_eq_true,inB_iff,inB_iff] at h
  simp only at h
  unfold isSelB endN
  rw [inB_iff]
  simp only
  obtain ⟨⟨h1,h2⟩,h3,h4⟩:=h
  have h5:0 ≤ (A - 1) * p.nu:=Int.mul_nonneg (by omega) (by omega)
  have h6:(A - 1) * p.nu ≤ (p.le - 1) * p.nu:=Int.mul_le_mul_of_nonneg_right (by omega) (by omega)
  rw [Int.sub_mul] at h6 h5 ⊢
  rw [Int.sub_mul] at h6
  omega
 have hst:∀ i (x:List Int × Int × Int),stT p ts i = some x → ∀ n ∈ x.1,isSelB p n = true:=by
  intro i
  induction i with
  | zero => intro x hx; cases hx; intro n hn; cases hn
  | succ i ih =>
   intro x hx
   rw [stT_succ] at hx
   split at hx
   ·cases hx; intro n hn; cases hn
   ·split at hx
    ·cases hx
    ·rename_i y hy
     have hy':=ih y hy
     unfold stepT at hx
     split at hx
     ·split at hx <;> (simp only [Option.some.injEq] at hx; subst hx; exact hy')
     ·split at hx
      ·split at hx
       ·cases hx
       ·simp only [Option.some.injEq] at hx; subst hx; exact hy'
      ·split at hx
       ·split at hx
        ·rename_i hok
         simp only [Option.some.injEq] at hx; subst hx
         intro n hn
         rcases List.mem_append.1 hn with hn | hn
         ·exact hy' n hn
         ·simp at hn; subst hn; exact hend _ _ hok
        ·cases hx
       ·cases hx
 unfold listT at h
 split at h
 ·cases h
 ·rename_i x hx
  have hx':=hst _ x hx
  split at h
  ·cases h; intro n hn; cases hn
  ·split at h
   ·rename_i hok
    simp only [Option.some.injEq] at h; subst h
    intro n hn
    rcases List.mem_append.1 hn with hn | hn
    ·exact hx' n hn
    ·simp at hn; subst hn; exact hend _ _ hok
   ·cases h
theorem read_cases {p:Tr} (hp:TrOk p):(∃ e:Int,e ≠ 0 ∧ readV p = .tup [.c (isC []),iv e]) ∨ ∃ l,readV p = .tup [.c (isC l),iv 0] ∧ (∀ n ∈ l,isSelB p n = true) ∧ l.length ≤ p.ti.length + 1:=by
 unfold readV
 by_cases hR:allR p = []
 ·rw [if_pos hR]
  exact .inl ⟨3,by decide,rfl⟩
 ·rw [if_neg hR]
  unfold oneV oneLs oneE
  by_cases h1:1 < (distL (allR p) []).length
  ·rw [if_pos h1,if_pos h1]
   exact .inl ⟨2,by decide,rfl⟩
  ·rw [if_neg h1,if_neg h1]
   refine .inr ⟨_,rfl,?_⟩
   have hpos:0 < (distL (allR p) []).length:=by
    obtain ⟨x,R,hx⟩:=List.exists_cons_of_ne_nil hR
    exact List.length_pos_of_mem ((distL_mem (allR p) [] x.2).2 (.inr ⟨x,by rw [hx]; simp,rfl⟩))
   have hm:(distL (allR p) []).getD 0 [] ∈ distL (allR p) []:=by
    rw [List.getD_eq_getElem?_getD,List.getElem?_eq_getElem hpos]; exact List.getElem_mem hpos
   rcases (distL_mem _ _ _).1 hm with h | ⟨x,hx,he⟩
   ·cases h
   ·rw [← he]
    have hl:=allK_mem hx
    have h2:=listT_len hl
    have h3:=leftK_len p.ti x.1 p.ti.length
    refine ⟨listT_sel hp hl,?_⟩
    unfold leftT at h2
    omega
def playT (n:Int):List UInt8:=[112,108,97,121,32] ++ textI n.toNat
theorem play_tx {n:Int} (h:0 ≤ n ∧ n ≤ 24):isTx (playT n) = true:=by
 obtain ⟨k,rfl⟩ : ∃ k:Nat,n = k:=⟨n.toNat,by omega⟩
 have hk:k < 25:=by omega
 unfold playT
 rw [Int.toNat_natCast]
 have:∀ k:Fin 25,isTx ([112,108,97,121,32] ++ textI k.val) = true:=by decide
 exact this ⟨k,hk⟩
theorem play_book {l:List Int} (hl:l.length ≤ 24) (h:∀ n ∈ l,0 ≤ n ∧ n ≤ 24):BookOk (l.map playT):=by
 refine ⟨?_,by rw [List.length_map]; omega⟩
 rw [List.all_eq_true]
 intro t ht
 obtain ⟨n,hn,rfl⟩:=List.mem_map.1 ht
 exact play_tx (h n hn)
theorem sel_24 {p:Tr} (hp:TrOk p) {n:Int} (h:isSelB p n = true):0 ≤ n ∧ n ≤ 24:=by
 have:=mul5 hp.le hp.nu
 unfold isSelB at h
 have:=inB_iff.1 h
 omega
end Go.Proofs.YtdoidahbimonhaaDoor

namespace Go.Proofs.YtdoidahbimonhaaDoor
open Go Go.V
abbrev o3_0:List Ins:=[⟨some 2,.box 8 (.t 0),none,true⟩,
 ⟨some 4,.mv (.k (.c (.bool false))),none,true⟩]
abbrev o3_1:List Ins:=[⟨some 15,.ld false 8 (.t 2),none,true⟩,
 ⟨some 16,.call (.k (.fn 4 [])) [(.t 15)],none,true⟩,
 ⟨some 17,.mv (.t 16),none,true⟩,
 ⟨some 18,.ld false 8 (.t 2),(some (17,false)),true⟩,
 ⟨some 19,.call (.k (.fn 5 [])) [(.t 18)],(some (17,false)),true⟩,
 ⟨some 20,.bin .neq (.t 19) (.k (.c (.int .i64 0))),(some (17,false)),true⟩,
 ⟨some 21,.pick (.t 17) (.k (.c (.bool true))) (.t 20),none,true⟩,
 ⟨some 22,.mv (.t 21),none,true⟩,
 ⟨some 23,.mv (.t 1),(some (22,false)),true⟩,
 ⟨some 24,.len (.t 23),(some (22,false)),true⟩,
 ⟨some 25,.bin .gtr (.t 24) (.k (.c (.int .i64 3))),(some (22,false)),true⟩,
 ⟨some 26,.pick (.t 22) (.k (.c (.bool true))) (.t 25),none,true⟩]
abbrev o3_2:List Ins:=[⟨some 27,.call (.k (.fn 6 [])) [],none,true⟩,
 ⟨some 4,.mv (.t 27),none,true⟩]
abbrev v3_3:VC:=(.seq (.ops o3_2) .ret)
abbrev v3_4:VC:=(.cond (.t 26) v3_3 .skip)
abbrev o3_5:List Ins:=[⟨some 29,.ld false 8 (.t 2),none,true⟩,
 ⟨some 30,.call (.k (.fn 8 [])) [(.t 29)],none,true⟩,
 ⟨some 31,.call (.k (.fn 7 [])) [(.t 30)],none,true⟩,
 ⟨some 28,.mv (.t 31),none,true⟩,
 ⟨some 32,.ext (.t 28) 0,none,true⟩,
 ⟨some 33,.ext (.t 28) 1,none,true⟩,
 ⟨some 5,.mv (.t 32),none,true⟩,
 ⟨some 6,.mv (.t 33),none,true⟩]
abbrev o3_6:List Ins:=[⟨some 34,.mv (.t 6),none,true⟩,
 ⟨some 35,.bin .neq (.t 34) (.k (.c (.int .i64 0))),none,true⟩]
abbrev o3_7:List Ins:=[⟨some 36,.mv (.t 5),none,true⟩,
 ⟨some 37,.len (.t 36),none,true⟩,
 ⟨some 38,.bin .eql (.t 37) (.k (.c (.int .i64 0))),none,true⟩,
 ⟨some 39,.mv (.t 38),none,true⟩,
 ⟨some 40,.call (.k (.fn 6 [])) [],(some (39,true)),true⟩,
 ⟨some 41,.pick (.t 39) (.t 40) (.k (.c (.bool false))),none,true⟩,
 ⟨some 4,.mv (.t 41),none,true⟩]
abbrev v3_8:VC:=(.seq (.ops o3_7) .ret)
abbrev v3_9:VC:=(.cond (.t 35) v3_8 .skip)
abbrev o3_10:List Ins:=[⟨some 42,.mv (.t 5),none,true⟩,
 ⟨some 43,.len (.t 42),none,true⟩,
 ⟨some 44,.bin .gtr (.t 43) (.k (.c (.int .i64 24))),none,true⟩]
abbrev o3_11:List Ins:=[⟨some 4,.mv (.k (.c (.bool false))),none,true⟩]
abbrev v3_12:VC:=(.seq (.ops o3_11) .ret)
abbrev v3_13:VC:=(.cond (.t 44) v3_12 .skip)
abbrev o3_14:List Ins:=[⟨some 7,.mv (.k (.c (.raw (.slice none 0 0)))),none,true⟩]
abbrev o3_15:List Ins:=[⟨some 8,.mv (.k (.c (.int .i64 0))),none,true⟩]
abbrev o3_16:List Ins:=[⟨some 45,.mv (.t 8),none,true⟩,
 ⟨some 46,.mv (.t 5),none,true⟩,
 ⟨some 47,.len (.t 46),none,true⟩,
 ⟨some 48,.bin .lss (.t 45) (.t 47),none,true⟩]
abbrev v3_17:VC:=(.cond (.t 48) .skip (.exit 0))
abbrev o3_18:List Ins:=[⟨some 51,.ld false 8 (.t 2),none,false⟩,
 ⟨some 52,.mv (.t 5),none,false⟩,
 ⟨some 53,.mv (.t 8),none,false⟩,
 ⟨some 54,.ia 1 (.t 52) (.t 53),none,false⟩,
 ⟨some 55,.ld true 1 (.t 54),none,false⟩,
 ⟨some 56,.call (.k (.fn 9 [])) [(.t 51),(.t 55)],none,true⟩,
 ⟨some 57,.un .not (.t 56),none,true⟩]
abbrev o3_19:List Ins:=[⟨some 4,.mv (.k (.c (.bool false))),none,true⟩]
abbrev v3_20:VC:=(.seq (.ops o3_19) .ret)
abbrev v3_21:VC:=(.cond (.t 57) v3_20 .skip)
abbrev o3_22:List Ins:=[⟨some 58,.mv (.t 7),none,true⟩,
 ⟨some 59,.mv (.t 5),none,true⟩,
 ⟨some 60,.mv (.t 8),none,true⟩,
 ⟨some 61,.ia 1 (.t 59) (.t 60),none,true⟩,
 ⟨some 62,.ld true 1 (.t 61),none,true⟩,
 ⟨some 63,.call (.k (.fn 10 [])) [(.t 62)],none,true⟩,
 ⟨some 64,.prim (.sbin .add) [(.k (.c (.str [112,108,97,121,32]))),(.t 63)],none,true⟩,
 ⟨some 65,.bsl 9 1 [(.t 64)],none,true⟩,
 ⟨some 66,.app 9 1 16 (.t 58) (.t 65),none,true⟩,
 ⟨some 7,.mv (.t 66),none,true⟩]
abbrev v3_23:VC:=(.seq (.seq (.dops o3_18) v3_21) (.ops o3_22))
abbrev o3_24:List Ins:=[⟨some 49,.mv (.t 8),none,true⟩,
 ⟨some 50,.bin .add (.t 49) (.k (.c (.int .i64 1))),none,true⟩,
 ⟨some 8,.mv (.t 50),none,true⟩]
abbrev v3_25:VC:=(.seq (.block 1 v3_23) (.ops o3_24))
abbrev v3_26:VC:=(.seq (.seq (.ops o3_16) v3_17) v3_25)
-- K3_1: changed and kept: [8,7]
abbrev v3_27:VC:=(.loop v3_26)
abbrev v3_28:VC:=(.block 0 v3_27)
abbrev o3_29:List Ins:=[⟨some 68,.bsl 9 1 [],none,true⟩,
 ⟨some 69,.mv (.t 7),none,true⟩,
 ⟨some 70,.app 9 1 16 (.t 68) (.t 69),none,true⟩,
 ⟨some 71,.call (.k (.fn 11 [])) [(.t 70)],none,true⟩,
 ⟨some 67,.mv (.t 71),none,true⟩,
 ⟨some 72,.ext (.t 67) 0,none,true⟩,
 ⟨some 73,.ext (.t 67) 1,none,true⟩,
 ⟨some 9,.mv (.t 72),none,true⟩,
 ⟨some 6,.mv (.t 73),none,true⟩]
abbrev o3_30:List Ins:=[⟨some 74,.mv (.t 6),none,true⟩,
 ⟨some 75,.bin .neq (.t 74) (.k (.c (.int .i64 0))),none,true⟩,
 ⟨some 76,.mv (.t 75),none,true⟩,
 ⟨some 77,.mv (.t 9),(some (76,false)),true⟩,
 ⟨some 78,.prim .slen [(.t 77)],(some (76,false)),true⟩,
 ⟨some 79,.bin .gtr (.t 78) (.k (.c (.int .i64 2000))),(some (76,false)),true⟩,
 ⟨some 80,.pick (.t 76) (.k (.c (.bool true))) (.t 79),none,true⟩]
abbrev o3_31:List Ins:=[⟨some 4,.mv (.k (.c (.bool false))),none,true⟩]
abbrev v3_32:VC:=(.seq (.ops o3_31) .ret)
abbrev v3_33:VC:=(.cond (.t 80) v3_32 .skip)
abbrev o3_34:List Ins:=[⟨some 82,.mv (.t 9),none,true⟩,
 ⟨some 83,.mv (.t 1),none,true⟩,
 ⟨some 84,.call (.k (.fn 13 [])) [(.t 82),(.t 83)],none,true⟩,
 ⟨some 85,.call (.k (.fn 12 [])) [(.t 84)],none,true⟩,
 ⟨some 81,.mv (.t 85),none,true⟩,
 ⟨some 86,.ext (.t 81) 0,none,true⟩,
 ⟨some 87,.ext (.t 81) 1,none,true⟩,
 ⟨some 10,.mv (.t 86),none,true⟩,
 ⟨some 6,.mv (.t 87),none,true⟩]
abbrev o3_35:List Ins:=[⟨some 88,.mv (.t 6),none,true⟩,
 ⟨some 89,.bin .neq (.t 88) (.k (.c (.int .i64 0))),none,true⟩,
 ⟨some 90,.mv (.t 89),none,true⟩,
 ⟨some 91,.mv (.t 10),(some (90,false)),true⟩,
 ⟨some 92,.mv (.t 7),(some (90,false)),true⟩,
 ⟨some 93,.call (.k (.fn 14 [])) [(.t 91),(.t 92)],(some (90,false)),true⟩,
 ⟨some 94,.un .not (.t 93),(some (90,false)),true⟩,
 ⟨some 95,.pick (.t 90) (.k (.c (.bool true))) (.t 94),none,true⟩]
abbrev o3_36:List Ins:=[⟨some 4,.mv (.k (.c (.bool false))),none,true⟩]
abbrev v3_37:VC:=(.seq (.ops o3_36) .ret)
abbrev v3_38:VC:=(.cond (.t 95) v3_37 .skip)
abbrev o3_39:List Ins:=[⟨some 97,.ld false 8 (.t 2),none,true⟩,
 ⟨some 98,.call (.k (.fn 8 [])) [(.t 97)],none,true⟩,
 ⟨some 99,.bsl 3 1 [],none,true⟩,
 ⟨some 100,.mv (.t 5),none,true⟩,
 ⟨some 101,.app 3 1 8 (.t 99) (.t 100),none,true⟩,
 ⟨some 102,.call (.k (.fn 15 [])) [(.t 98),(.t 101),(.k (.c (.int .i64 0)))],none,true⟩,
 ⟨some 96,.mv (.t 102),none,true⟩,
 ⟨some 103,.ext (.t 96) 0,none,true⟩,
 ⟨some 104,.ext (.t 96) 1,none,true⟩,
 ⟨some 11,.mv (.t 103),none,true⟩,
 ⟨some 6,.mv (.t 104),none,true⟩]
abbrev o3_40:List Ins:=[⟨some 105,.mv (.t 6),none,true⟩,
 ⟨some 106,.bin .neq (.t 105) (.k (.c (.int .i64 0))),none,true⟩]
abbrev o3_41:List Ins:=[⟨some 107,.mv (.t 6),none,true⟩,
 ⟨some 108,.bin .eql (.t 107) (.k (.c (.int .i64 131))),none,true⟩,
 ⟨some 109,.mv (.t 108),none,true⟩,
 ⟨some 110,.call (.k (.fn 6 [])) [],(some (109,true)),true⟩,
 ⟨some 111,.pick (.t 109) (.t 110) (.k (.c (.bool false))),none,true⟩,
 ⟨some 4,.mv (.t 111),none,true⟩]
abbrev v3_42:VC:=(.seq (.ops o3_41) .ret)
abbrev v3_43:VC:=(.cond (.t 106) v3_42 .skip)
abbrev o3_44:List Ins:=[⟨some 112,.ld false 8 (.t 2),none,true⟩,
 ⟨some 113,.call (.k (.fn 8 [])) [(.t 112)],none,true⟩,
 ⟨some 12,.alloc [(.c (.int .i64 0)),(.c (.int .i64 0)),(.c (.int .i64 0)),(.c (.int .i64 0)),(.c (.int .i64 0)),(.c (.int .i64 0)),(.c (.int .i64 0)),(.c (.raw (.slice none 0 0)))],none,true⟩,
 ⟨none,.st 8 (.t 12) (.t 113),none,true⟩]
abbrev o3_45:List Ins:=[⟨some 114,.mv (.t 11),none,true⟩,
 ⟨some 115,.fa 6 (.t 12),none,true⟩,
 ⟨none,.st 1 (.t 115) (.k (.c (.int .i64 0))),none,true⟩,
 ⟨some 116,.fa 7 (.t 12),none,true⟩,
 ⟨none,.st 1 (.t 116) (.t 114),none,true⟩]
abbrev o3_46:List Ins:=[⟨some 117,.mv (.t 11),none,true⟩,
 ⟨some 118,.len (.t 117),none,true⟩,
 ⟨some 119,.bin .gtr (.t 118) (.k (.c (.int .i64 24))),none,true⟩,
 ⟨some 120,.mv (.t 119),none,true⟩,
 ⟨some 121,.ld false 8 (.t 12),(some (120,false)),true⟩,
 ⟨some 122,.call (.k (.fn 5 [])) [(.t 121)],(some (120,false)),true⟩,
 ⟨some 123,.bin .neq (.t 122) (.k (.c (.int .i64 0))),(some (120,false)),true⟩,
 ⟨some 124,.pick (.t 120) (.k (.c (.bool true))) (.t 123),none,true⟩]
abbrev o3_47:List Ins:=[⟨some 4,.mv (.k (.c (.bool false))),none,true⟩]
abbrev v3_48:VC:=(.seq (.ops o3_47) .ret)
abbrev v3_49:VC:=(.cond (.t 124) v3_48 .skip)
abbrev o3_50:List Ins:=[⟨some 126,.ld false 8 (.t 12),none,true⟩,
 ⟨some 127,.call (.k (.fn 7 [])) [(.t 126)],none,true⟩,
 ⟨some 125,.mv (.t 127),none,true⟩,
 ⟨some 128,.ext (.t 125) 0,none,true⟩,
 ⟨some 129,.ext (.t 125) 1,none,true⟩,
 ⟨some 13,.mv (.t 128),none,true⟩,
 ⟨some 6,.mv (.t 129),none,true⟩]
abbrev o3_51:List Ins:=[⟨some 130,.mv (.t 6),none,true⟩,
 ⟨some 131,.bin .neq (.t 130) (.k (.c (.int .i64 0))),none,true⟩,
 ⟨some 132,.mv (.t 131),none,true⟩,
 ⟨some 133,.mv (.t 13),(some (132,false)),true⟩,
 ⟨some 134,.len (.t 133),(some (132,false)),true⟩,
 ⟨some 135,.mv (.t 5),(some (132,false)),true⟩,
 ⟨some 136,.len (.t 135),(some (132,false)),true⟩,
 ⟨some 137,.bin .neq (.t 134) (.t 136),(some (132,false)),true⟩,
 ⟨some 138,.pick (.t 132) (.k (.c (.bool true))) (.t 137),none,true⟩]
abbrev o3_52:List Ins:=[⟨some 4,.mv (.k (.c (.bool false))),none,true⟩]
abbrev v3_53:VC:=(.seq (.ops o3_52) .ret)
abbrev v3_54:VC:=(.cond (.t 138) v3_53 .skip)
abbrev o3_55:List Ins:=[⟨some 14,.mv (.k (.c (.int .i64 0))),none,true⟩]
abbrev o3_56:List Ins:=[⟨some 139,.mv (.t 14),none,true⟩,
 ⟨some 140,.mv (.t 13),none,true⟩,
 ⟨some 141,.len (.t 140),none,true⟩,
 ⟨some 142,.bin .lss (.t 139) (.t 141),none,true⟩]
abbrev v3_57:VC:=(.cond (.t 142) .skip (.exit 2))
abbrev o3_58:List Ins:=[⟨some 145,.mv (.t 13),none,false⟩,
 ⟨some 146,.mv (.t 14),none,false⟩,
 ⟨some 147,.ia 1 (.t 145) (.t 146),none,false⟩,
 ⟨some 148,.ld true 1 (.t 147),none,false⟩,
 ⟨some 149,.mv (.t 5),none,false⟩,
 ⟨some 150,.mv (.t 14),none,false⟩,
 ⟨some 151,.ia 1 (.t 149) (.t 150),none,false⟩,
 ⟨some 152,.ld true 1 (.t 151),none,false⟩,
 ⟨some 153,.bin .neq (.t 148) (.t 152),none,true⟩]
abbrev o3_59:List Ins:=[⟨some 4,.mv (.k (.c (.bool false))),none,true⟩]
abbrev v3_60:VC:=(.seq (.ops o3_59) .ret)
abbrev v3_61:VC:=(.cond (.t 153) v3_60 .skip)
abbrev v3_62:VC:=(.seq (.dops o3_58) v3_61)
abbrev o3_63:List Ins:=[⟨some 143,.mv (.t 14),none,true⟩,
 ⟨some 144,.bin .add (.t 143) (.k (.c (.int .i64 1))),none,true⟩,
 ⟨some 14,.mv (.t 144),none,true⟩]
abbrev v3_64:VC:=(.seq (.block 3 v3_62) (.ops o3_63))
abbrev v3_65:VC:=(.seq (.seq (.ops o3_56) v3_57) v3_64)
-- K3_2: changed and kept: [14]
abbrev v3_66:VC:=(.loop v3_65)
abbrev v3_67:VC:=(.block 2 v3_66)
abbrev o3_68:List Ins:=[⟨some 154,.call (.k (.fn 6 [])) [],none,true⟩,
 ⟨some 4,.mv (.t 154),none,true⟩]
abbrev v3_69:VC:=(.seq (.ops o3_68) .ret)
abbrev v3_70:VC:=(.seq (.seq (.ops o3_55) v3_67) v3_69)
abbrev v3_71:VC:=(.seq (.seq (.ops o3_51) v3_54) v3_70)
abbrev v3_72:VC:=(.seq (.ops o3_50) v3_71)
abbrev v3_73:VC:=(.seq (.seq (.ops o3_46) v3_49) v3_72)
abbrev v3_74:VC:=(.seq (.ops o3_45) v3_73)
abbrev v3_75:VC:=(.seq (.ops o3_44) v3_74)
abbrev v3_76:VC:=(.seq (.seq (.ops o3_40) v3_43) v3_75)
abbrev v3_77:VC:=(.seq (.ops o3_39) v3_76)
abbrev v3_78:VC:=(.seq (.seq (.ops o3_35) v3_38) v3_77)
abbrev v3_79:VC:=(.seq (.ops o3_34) v3_78)
abbrev v3_80:VC:=(.seq (.seq (.ops o3_30) v3_33) v3_79)
abbrev v3_81:VC:=(.seq (.ops o3_29) v3_80)
abbrev v3_82:VC:=(.seq (.seq (.ops o3_15) v3_28) v3_81)
abbrev v3_83:VC:=(.seq (.ops o3_14) v3_82)
abbrev v3_84:VC:=(.seq (.seq (.ops o3_10) v3_13) v3_83)
abbrev v3_85:VC:=(.seq (.seq (.ops o3_6) v3_9) v3_84)
abbrev v3_86:VC:=(.seq (.ops o3_5) v3_85)
abbrev v3_87:VC:=(.seq (.seq (.ops o3_1) v3_4) v3_86)
def ir3:FC:=⟨2,155,[.t 4],(.seq (.ops o3_0) v3_87)⟩
theorem c3:compM Tryd.prog [] 3 = some ir3:=by kernel_rfl
attribute [local go_sem] Nat.reduceEqDiff Nat.reduceAdd Nat.reduceMul reduceIte Nat.reduceLeDiff Nat.reduceLT Nat.reduceBEq reduceCtorEq
set_option maxRecDepth 20000 in
set_option maxHeartbeats 16000000 in
theorem topTrain3 (p:Tr) (ms:List (Int × Int)):FSpec Tryd.prog 3 [.agg p.avs,.c (placesC ms)] (bv true):=by
 have hmax:maxLen = 9223372036854775807:=rfl
 have hb6:=bound6
 refine FSpec_of c3 (Nat.le_refl _) (by decide) fun C hP hN hC hL => ?_; rw [init_st]
 simp only [ir3]
 refine WV_seq_ ?_
 (refine WV_op ?_; simp only [go_sem,hP,Tr.avs]; (repeat refine qJ ?_))
 (repeat ((first | refine Va ?_ | refine Vb ?_ | refine Vc ?_ | refine Vd ?_ | refine Ve ?_ | refine Vf ?_); (try simp only [go_sem,hP]); (repeat refine qJ ?_)))
 (refine AS_pu (far4 p) ?_; simp only [go_sem,hP]; (repeat refine qJ ?_); (repeat ((first | refine Va ?_ | refine Vb ?_ | refine Vc ?_ | refine Vd ?_ | refine Ve ?_ | refine Vf ?_); (try simp only [go_sem,hP]); (repeat refine qJ ?_))))
 cases hf:farB p with
 | true =>
  simp only [go_sem,hf]
  refine .inl (ACallG_skip (iv 0) rfl ?_)
  simp only [go_sem,hP,placesC,List.length_map]
  (repeat refine qJ ?_)
  (repeat ((first | refine Va ?_ | refine Vb ?_ | refine Vc ?_ | refine Vd ?_ | refine Ve ?_ | refine Vf ?_); (try simp only [go_sem,hP,placesC,List.length_map]); (repeat refine qJ ?_)))
  (refine WV_cond rfl (fun h => ?_) (fun h => ?_))
  ·(repeat ((first | refine Va ?_ | refine Vb ?_ | refine Vc ?_ | refine Vd ?_ | refine Ve ?_ | refine Vf ?_); (try simp only [go_sem,hP]); (repeat refine qJ ?_)))
   (refine AS_pu (hb6) ?_; simp only [go_sem,hP]; (repeat refine qJ ?_); (repeat ((first | refine Va ?_ | refine Vb ?_ | refine Vc ?_ | refine Vd ?_ | refine Ve ?_ | refine Vf ?_); (try simp only [go_sem,hP]); (repeat refine qJ ?_))))
   (refine WV_ret ?_; simp only [thenQ,inQ,RetQ,RetOk,resAll,resA]; simp only [go_sem,tupA,AV.port,AV.portL,exists_eq_left']; (first | exact AVle.of rfl | refine AVle.of ?_ | skip))
  ·simp at h
 | false =>
  have hf2:p.ti.length ≤ 40 ∧ (checkB p = true → p.ti.length ≤ 14):=by
   unfold farB at hf
   rw [Bool.or_eq_false_iff,decide_eq_false_iff_not] at hf
   refine ⟨by omega,fun hc => ?_⟩
   rw [hc,Bool.true_and,decide_eq_false_iff_not] at hf
   omega
  obtain ⟨h40,h14⟩:=hf2
  have hch:=check5 p (by omega)
  simp only [go_sem,hf]
  cases hc:checkB p with
  | false =>
   rw [hc] at hch
   (refine AG_pu (fun hG => hch) ?_; simp only [go_sem,hP,placesC,List.length_map]; (repeat refine qJ ?_); (repeat ((first | refine Va ?_ | refine Vb ?_ | refine Vc ?_ | refine Vd ?_ | refine Ve ?_ | refine Vf ?_); (try simp only [go_sem,hP,placesC,List.length_map]); (repeat refine qJ ?_))))
   (refine WV_cond rfl (fun h => ?_) (fun h => ?_))
   ·(repeat ((first | refine Va ?_ | refine Vb ?_ | refine Vc ?_ | refine Vd ?_ | refine Ve ?_ | refine Vf ?_); (try simp only [go_sem,hP]); (repeat refine qJ ?_)))
    (refine AS_pu (hb6) ?_; simp only [go_sem,hP]; (repeat refine qJ ?_); (repeat ((first | refine Va ?_ | refine Vb ?_ | refine Vc ?_ | refine Vd ?_ | refine Ve ?_ | refine Vf ?_); (try simp only [go_sem,hP]); (repeat refine qJ ?_))))
    (refine WV_ret ?_; simp only [thenQ,inQ,RetQ,RetOk,resAll,resA]; simp only [go_sem,tupA,AV.port,AV.portL,exists_eq_left']; (first | exact AVle.of rfl | refine AVle.of ?_ | skip))
   ·simp at h
  | true =>
   have h14:=h14 hc
   have hp:=check_ok.1 hc
   rw [hc] at hch
   (refine AG_pu (fun hG => hch) ?_; simp only [go_sem,hP,placesC,List.length_map]; (repeat refine qJ ?_); (repeat ((first | refine Va ?_ | refine Vb ?_ | refine Vc ?_ | refine Vd ?_ | refine Ve ?_ | refine Vf ?_); (try simp only [go_sem,hP,placesC,List.length_map]); (repeat refine qJ ?_))))
   by_cases hm:ms.length ≤ 3
   case neg =>
    have hd:decide ((3:Int) < (ms.length:Int)) = true:=by rw [decide_eq_true_eq]; omega
    simp only [go_sem,hd]
    (refine WV_cond rfl (fun h => ?_) (fun h => ?_))
    ·(repeat ((first | refine Va ?_ | refine Vb ?_ | refine Vc ?_ | refine Vd ?_ | refine Ve ?_ | refine Vf ?_); (try simp only [go_sem,hP]); (repeat refine qJ ?_)))
     (refine AS_pu (hb6) ?_; simp only [go_sem,hP]; (repeat refine qJ ?_); (repeat ((first | refine Va ?_ | refine Vb ?_ | refine Vc ?_ | refine Vd ?_ | refine Ve ?_ | refine Vf ?_); (try simp only [go_sem,hP]); (repeat refine qJ ?_))))
     (refine WV_ret ?_; simp only [thenQ,inQ,RetQ,RetOk,resAll,resA]; simp only [go_sem,tupA,AV.port,AV.portL,exists_eq_left']; (first | exact AVle.of rfl | refine AVle.of ?_ | skip))
    ·simp at h
   have hd:decide ((3:Int) < (ms.length:Int)) = false:=by rw [decide_eq_false_iff_not]; omega
   simp only [go_sem,hd]
   (refine WV_cond rfl (fun h => ?_) (fun h => ?_))
   ·simp at h
   (refine WV_skip ?_; simp only [go_sem])
   refine WV_keep [1,2] ?_
   simp only [go_sem]
   have hcp:=copy8 p (by omega)
   have hrd:=read7 hp
   (repeat ((first | refine Va ?_ | refine Vb ?_ | refine Vc ?_ | refine Vd ?_ | refine Ve ?_ | refine Vf ?_); (try simp only [go_sem,hP,Tr.avs]); (repeat refine qJ ?_)))
   (refine AS_pu (hcp) ?_; simp only [go_sem,hP,Tr.avs]; (repeat refine qJ ?_); (repeat ((first | refine Va ?_ | refine Vb ?_ | refine Vc ?_ | refine Vd ?_ | refine Ve ?_ | refine Vf ?_); (try simp only [go_sem,hP,Tr.avs]); (repeat refine qJ ?_))))
   rcases read_cases hp with ⟨e,he,hv⟩ | ⟨l,hv,hsel,hlen⟩
   ·rw [hv] at hrd
    (refine AS_pu (hrd) ?_; simp only [go_sem,hP]; (repeat refine qJ ?_); (repeat ((first | refine Va ?_ | refine Vb ?_ | refine Vc ?_ | refine Vd ?_ | refine Ve ?_ | refine Vf ?_); (try simp only [go_sem,hP]); (repeat refine qJ ?_))))
    (refine WV_cond rfl (fun h => ?_) (fun h => ?_))
    ·(repeat ((first | refine Va ?_ | refine Vb ?_ | refine Vc ?_ | refine Vd ?_ | refine Ve ?_ | refine Vf ?_); (try simp only [go_sem,hP,isC,List.map_nil,List.length_nil]); (repeat refine qJ ?_)))
     (refine AG_pu (fun hG => hb6) ?_; simp only [go_sem,hP]; (repeat refine qJ ?_); (repeat ((first | refine Va ?_ | refine Vb ?_ | refine Vc ?_ | refine Vd ?_ | refine Ve ?_ | refine Vf ?_); (try simp only [go_sem,hP]); (repeat refine qJ ?_))))
     (refine WV_ret ?_; simp only [thenQ,inQ,RetQ,RetOk,resAll,resA]; simp only [go_sem,tupA,AV.port,AV.portL,exists_eq_left']; (first | exact AVle.of rfl | refine AVle.of ?_ | skip))
    ·simp at h; exact (he h).elim
   ·rw [hv] at hrd
    (refine AS_pu (hrd) ?_; simp only [go_sem,hP]; (repeat refine qJ ?_); (repeat ((first | refine Va ?_ | refine Vb ?_ | refine Vc ?_ | refine Vd ?_ | refine Ve ?_ | refine Vf ?_); (try simp only [go_sem,hP]); (repeat refine qJ ?_))))
    (refine WV_cond rfl (fun h => ?_) (fun h => ?_))
    ·simp at h
    have hl24:l.length ≤ 24:=by omega
    have hd24:decide ((24:Int) < (l.length:Int)) = false:=by rw [decide_eq_false_iff_not]; omega
    (repeat ((first | refine Va ?_ | refine Vb ?_ | refine Vc ?_ | refine Vd ?_ | refine Ve ?_ | refine Vf ?_); (try simp only [go_sem,hP,isC,List.length_map,hd24]); (repeat refine qJ ?_)))
    (refine WV_cond rfl (fun h => ?_) (fun h => ?_))
    ·simp at h
    (repeat ((first | refine Va ?_ | refine Vb ?_ | refine Vc ?_ | refine Vd ?_ | refine Ve ?_ | refine Vf ?_); (try simp only [go_sem,hP]); (repeat refine qJ ?_)))
    refine WV_keep [1,2,5,7,8] ?_
    simp only [go_sem]
    refine WV_nilslot 7 66 9 1 (by decide) (by decide) rfl rfl ?_
    simp only [go_sem]
    have h24:∀ n ∈ l,0 ≤ n ∧ n ≤ 24:=fun n hn => sel_24 hp (hsel n hn)
    have hbk:=play_book hl24 h24
    refine WV_loopS (fun k:Nat => ⟨upd (upd (upd (upd (upd e0 1 (.c (placesC ms))) 2 (.bp 2 0)) 5 (.c (isC l))) 7 (.gr 66)) 8 (iv k),upd (upd o0 2 (.box p.avs)) 66 (.grow 9 1 (((l.map playT).take k).map fun t => [CD.str t]))⟩) (fun k => k ≤ l.length) (fun k => l.length - k) 0 (Nat.zero_le _) ?_ ?_
    ·(refine Sub_of (by simp only [go_sem]; ((repeat' (first | exact EnvLe_e0 _ _ | refine EnvLe_upd ?_ ?_)) <;> ((try simp only [upd_app,e0_app,o0_app,Nat.reduceEqDiff,reduceIte]); first | exact AWk.refl _ _ | exact AWk.int (by omega) | exact AWk.int (by rw [w64 (by omega) (by omega)]; omega) | exact AWk.grow rfl | exact AWk.nil _ | exact AWk.of (by simp [isC,Tr.avs,placesC])))) (by simp only [go_sem]; exact ObjLe_au))
    intro k hk
    (repeat ((first | refine Va ?_ | refine Vb ?_ | refine Vc ?_ | refine Vd ?_ | refine Ve ?_ | refine Vf ?_); (try simp only [go_sem,hP,isC,List.length_map]); (repeat refine qJ ?_)))
    (refine WV_cond rfl (fun h => ?_) (fun h => ?_))
    ·have hi:k < l.length:=by simpa using h
     have hi2:k < (l.map playT).length:=by rw [List.length_map]; exact hi
     have hw:=w64 (n:=(k:Int) + 1) (by omega) (by omega)
     have hgd:=isC_at hi
     have hs9:=isSel9 hp l[k]
     rw [hsel _ (List.getElem_mem hi)] at hs9
     have hk24:=h24 _ (List.getElem_mem hi)
     obtain ⟨n,hn⟩ : ∃ n:Nat,l[k] = n:=⟨(l[k]).toNat,by omega⟩
     have h10:=text10 n (by omega)
     have hsn:(l.map playT).take (k + 1) = (l.map playT).take k ++ [[112,108,97,121,32] ++ textI n]:=by
      rw [List.take_succ_eq_append_getElem hi2,List.getElem_map,hn]; unfold playT; rw [Int.toNat_natCast]
     rw [hn] at hgd hs9
     have n1:=strs_one ((l.map playT).take k)
     have n2:(((l.map playT).take k).map fun t => [CD.str t]).length = k:=by rw [List.length_map,List.length_take]; omega
     have hsn2:((l.map playT).take (k + 1)).map (fun t => [CD.str t]) = ((l.map playT).take k).map (fun t => [CD.str t]) ++ [[CD.str ([112,108,97,121,32] ++ textI n)]]:=by rw [hsn,List.map_append]; rfl
     generalize ((l.map playT).take k).map (fun t => [CD.str t]) = X at n1 n2 hsn2 ⊢
     (repeat ((first | refine Va ?_ | refine Vb ?_ | refine Vc ?_ | refine Vd ?_ | refine Ve ?_ | refine Vf ?_); (try simp only [go_sem,hP,hgd,isC,List.length_map,Int.toNat_natCast,Int.ofNat_lt,hi,Int.natCast_nonneg,Tr.avs]); (repeat refine qJ ?_)))
     (refine AS_pu (hs9) ?_; simp only [go_sem,hP,Tr.avs]; (repeat refine qJ ?_); (repeat ((first | refine Va ?_ | refine Vb ?_ | refine Vc ?_ | refine Vd ?_ | refine Ve ?_ | refine Vf ?_); (try simp only [go_sem,hP,Tr.avs]); (repeat refine qJ ?_))))
     (refine WV_cond rfl (fun h => ?_) (fun h => ?_))
     ·simp at h
     (repeat ((first | refine Va ?_ | refine Vb ?_ | refine Vc ?_ | refine Vd ?_ | refine Ve ?_ | refine Vf ?_); (try simp only [go_sem,hP,hgd,isC,List.length_map,Int.toNat_natCast,Int.ofNat_lt,hi,Int.natCast_nonneg,Tr.avs]); (repeat refine qJ ?_)))
     have htl:(textI n).length ≤ 2:=by unfold textI; split <;> simp
     (refine AS_pu (h10) ?_; simp only [go_sem,hP,n1,n2,hw]; (repeat refine qJ ?_); (repeat ((first | refine Va ?_ | refine Vb ?_ | refine Vc ?_ | refine Vd ?_ | refine Ve ?_ | refine Vf ?_); (try simp only [go_sem,hP,n1,n2,hw]); (repeat refine qJ ?_))))
     refine ⟨k + 1,by omega,by omega,?_⟩
     rw [hsn2]
     (refine Sub_of (by simp only [go_sem]; ((repeat' (first | exact EnvLe_e0 _ _ | refine EnvLe_upd ?_ ?_)) <;> ((try simp only [upd_app,e0_app,o0_app,Nat.reduceEqDiff,reduceIte]); first | exact AWk.refl _ _ | exact AWk.int (by omega) | exact AWk.int (by rw [w64 (by omega) (by omega)]; omega) | exact AWk.grow rfl | exact AWk.nil _ | exact AWk.of (by simp [isC,Tr.avs])))) (by simp only [go_sem]; exact ObjLe_au))
    ·have hi:k = l.length:=by simp at h; omega
     subst hi
     have htk:(l.map playT).take l.length = l.map playT:=List.take_of_length_le (by rw [List.length_map]; exact Nat.le_refl _)
     rw [htk]
     refine WV_exit ?_
     simp only [thenQ,inQ,reduceIte,beq_self_eq_true]
     have hwr:=write24 (l.map playT) (fun s hs => by
      have:=List.all_eq_true.1 hbk.tx s hs
      unfold isTx at this
      rw [Bool.and_eq_true,decide_eq_true_eq] at this
      omega) (by rw [List.length_map]; omega)
     rw [write_book hbk] at hwr
     have htl:(textG (bookB (l.map playT))).length ≤ 1353:=text_len hbk.sok
     have h13:=torn13 (textG (bookB (l.map playT))) ms (by omega) (by omega)
     rw [torn_book hbk ms] at h13
     obtain ⟨hrd2,_⟩:=spo_read hbk ms fun S c1 c2 => three_free hm S c1 fun q hq => spo_lost hbk ms (c2 q hq)
     have htl2:=text_len (spo_sok hbk ms)
     have h12:=read20 (textG (spo (l.map playT) ms)) (by omega)
     rw [hrd2] at h12
     have hsm:=same21 (l.map playT) (l.map playT) (by rw [List.length_map]; omega)
     rw [beq_self_eq_true] at hsm
     have hln:(l.map playT).length = l.length:=List.length_map _
     generalize textG (spo (l.map playT) ms) = T2 at h12 h13 htl2
     generalize textG (bookB (l.map playT)) = T1 at hwr h13 htl
     generalize l.map playT = ts at hwr h12 hsm hln ⊢
     have n1:=strs_one ts
     have n2:(ts.map fun t => [CD.str t]).length = l.length:=by rw [List.length_map,hln]
     (repeat ((first | refine Va ?_ | refine Vb ?_ | refine Vc ?_ | refine Vd ?_ | refine Ve ?_ | refine Vf ?_); (try simp only [go_sem,hP,n1,n2,Tr.avs]); (repeat refine qJ ?_)))
     change FSpec Tryd.prog 11 [.c (.sl 1 (ts.map fun t => [CD.str t]))] _ at hwr
     (refine AS_pu (hwr) ?_; simp only [go_sem,hP]; (repeat refine qJ ?_); (repeat ((first | refine Va ?_ | refine Vb ?_ | refine Vc ?_ | refine Vd ?_ | refine Ve ?_ | refine Vf ?_); (try simp only [go_sem,hP]); (repeat refine qJ ?_))))
     have hd2k:decide ((2000:Int) < (T1.length:Int)) = false:=by rw [decide_eq_false_iff_not]; omega
     simp only [go_sem,hd2k]
     (refine WV_cond rfl (fun h => ?_) (fun h => ?_))
     ·simp at h
     (refine WV_skip ?_; simp only [go_sem])
     refine WV_keep [1,2,5,7,9] ?_
     simp only [go_sem]
     (repeat ((first | refine Va ?_ | refine Vb ?_ | refine Vc ?_ | refine Vd ?_ | refine Ve ?_ | refine Vf ?_); (try simp only [go_sem,hP]); (repeat refine qJ ?_)))
     (refine AS_pu (h13) ?_; simp only [go_sem,hP]; (repeat refine qJ ?_); (repeat ((first | refine Va ?_ | refine Vb ?_ | refine Vc ?_ | refine Vd ?_ | refine Ve ?_ | refine Vf ?_); (try simp only [go_sem,hP]); (repeat refine qJ ?_))))
     (refine AS_pu (h12) ?_; simp only [go_sem,hP]; (repeat refine qJ ?_); (repeat ((first | refine Va ?_ | refine Vb ?_ | refine Vc ?_ | refine Vd ?_ | refine Ve ?_ | refine Vf ?_); (try simp only [go_sem,hP]); (repeat refine qJ ?_))))
     change FSpec Tryd.prog 14 [_,.c (.sl 1 (ts.map fun t => [CD.str t]))] _ at hsm
     (refine AG_pu (fun hG => hsm) ?_; simp only [go_sem,hP]; (repeat refine qJ ?_); (repeat ((first | refine Va ?_ | refine Vb ?_ | refine Vc ?_ | refine Vd ?_ | refine Ve ?_ | refine Vf ?_); (try simp only [go_sem,hP]); (repeat refine qJ ?_))))
     (refine WV_cond rfl (fun h => ?_) (fun h => ?_))
     ·simp at h
     (refine WV_skip ?_; simp only [go_sem])
     refine WV_keep [1,2,5] ?_
     simp only [go_sem]
     have h15:=write15 hp l hl24 hsel
     unfold writeV at h15
     change FSpec Tryd.prog 15 [_,.c (.sl 1 (l.map fun n => [CD.int .i64 n])),_] _ at h15
     have m1:((l.map fun n => [CD.int .i64 n]).all fun e => e.length == 1) = true:=isG_one l
     have m2:(l.map fun n => [CD.int .i64 n]).length = l.length:=List.length_map _
     (repeat ((first | refine Va ?_ | refine Vb ?_ | refine Vc ?_ | refine Vd ?_ | refine Ve ?_ | refine Vf ?_); (try simp only [go_sem,hP,Tr.avs]); (repeat refine qJ ?_)))
     (refine AS_pu (hcp) ?_; simp only [go_sem,hP,Tr.avs,m1,m2]; (repeat refine qJ ?_); (repeat ((first | refine Va ?_ | refine Vb ?_ | refine Vc ?_ | refine Vd ?_ | refine Ve ?_ | refine Vf ?_); (try simp only [go_sem,hP,Tr.avs,m1,m2]); (repeat refine qJ ?_))))
     by_cases hwo:writeOk (selsS p l) = true
     case neg =>
      rw [if_neg hwo] at h15
      (refine AS_pu (h15) ?_; simp only [go_sem,hP]; (repeat refine qJ ?_); (repeat ((first | refine Va ?_ | refine Vb ?_ | refine Vc ?_ | refine Vd ?_ | refine Ve ?_ | refine Vf ?_); (try simp only [go_sem,hP]); (repeat refine qJ ?_))))
      (refine WV_cond rfl (fun h => ?_) (fun h => ?_))
      ·(repeat ((first | refine Va ?_ | refine Vb ?_ | refine Vc ?_ | refine Vd ?_ | refine Ve ?_ | refine Vf ?_); (try simp only [go_sem,hP]); (repeat refine qJ ?_)))
       (refine AG_pu (fun hG => hb6) ?_; simp only [go_sem,hP]; (repeat refine qJ ?_); (repeat ((first | refine Va ?_ | refine Vb ?_ | refine Vc ?_ | refine Vd ?_ | refine Ve ?_ | refine Vf ?_); (try simp only [go_sem,hP]); (repeat refine qJ ?_))))
       (refine WV_ret ?_; simp only [thenQ,inQ,RetQ,RetOk,resAll,resA]; simp only [go_sem,tupA,AV.port,AV.portL,exists_eq_left']; (first | exact AVle.of rfl | refine AVle.of ?_ | skip))
      ·simp at h
     rw [if_pos hwo] at h15
     have hao:=again_ok hp hsel hwo
     have hrv:=read_again (list_written hp l hsel)
     have hrd3:=read7 hao
     rw [hrv] at hrd3
     have hch3:=check5 (againT p (selsS p l).1) (by have:=hao.len; omega)
     rw [check_ok.2 hao] at hch3
     have hts24:(selsS p l).1.length ≤ 24:=hao.len
     generalize (selsS p l).1 = us at h15 hrd3 hch3 hts24
     have hav:(againT p us).avs = [iv p.le,iv p.nu,iv p.pi,iv p.sl,iv p.ga,iv p.pa,iv 0,.c (isC us)]:=rfl
     rw [hav] at hrd3 hch3
     (refine AS_pu (h15) ?_; simp only [go_sem,hP]; (repeat refine qJ ?_); (repeat ((first | refine Va ?_ | refine Vb ?_ | refine Vc ?_ | refine Vd ?_ | refine Ve ?_ | refine Vf ?_); (try simp only [go_sem,hP]); (repeat refine qJ ?_))))
     (refine WV_cond rfl (fun h => ?_) (fun h => ?_))
     ·simp at h
     (refine WV_skip ?_; simp only [go_sem])
     refine WV_keep [1,2,5,11] ?_
     simp only [go_sem]
     have hdu:decide ((24:Int) < (us.length:Int)) = false:=by rw [decide_eq_false_iff_not]; omega
     (repeat ((first | refine Va ?_ | refine Vb ?_ | refine Vc ?_ | refine Vd ?_ | refine Ve ?_ | refine Vf ?_); (try simp only [go_sem,hP,Tr.avs]); (repeat refine qJ ?_)))
     (refine AS_pu (hcp) ?_; simp only [go_sem,hP,Tr.avs,isC,List.length_map,hdu]; (repeat refine qJ ?_); (repeat ((first | refine Va ?_ | refine Vb ?_ | refine Vc ?_ | refine Vd ?_ | refine Ve ?_ | refine Vf ?_); (try simp only [go_sem,hP,Tr.avs,isC,List.length_map,hdu]); (repeat refine qJ ?_))))
     (refine AG_pu (fun hG => hch3) ?_; simp only [go_sem,hP]; (repeat refine qJ ?_); (repeat ((first | refine Va ?_ | refine Vb ?_ | refine Vc ?_ | refine Vd ?_ | refine Ve ?_ | refine Vf ?_); (try simp only [go_sem,hP]); (repeat refine qJ ?_))))
     (refine WV_cond rfl (fun h => ?_) (fun h => ?_))
     ·simp at h
     (refine WV_skip ?_; simp only [go_sem])
     refine WV_keep [5,12] ?_
     simp only [go_sem]
     (repeat ((first | refine Va ?_ | refine Vb ?_ | refine Vc ?_ | refine Vd ?_ | refine Ve ?_ | refine Vf ?_); (try simp only [go_sem,hP]); (repeat refine qJ ?_)))
     (refine AS_pu (hrd3) ?_; simp only [go_sem,hP,isC,List.length_map]; (repeat refine qJ ?_); (repeat ((first | refine Va ?_ | refine Vb ?_ | refine Vc ?_ | refine Vd ?_ | refine Ve ?_ | refine Vf ?_); (try simp only [go_sem,hP,isC,List.length_map]); (repeat refine qJ ?_))))
     (refine WV_cond rfl (fun h => ?_) (fun h => ?_))
     ·simp at h
     (refine WV_skip ?_; simp only [go_sem])
     refine WV_keep [5,13] ?_
     simp only [go_sem]
     (repeat ((first | refine Va ?_ | refine Vb ?_ | refine Vc ?_ | refine Vd ?_ | refine Ve ?_ | refine Vf ?_); (try simp only [go_sem,hP]); (repeat refine qJ ?_)))
     refine WV_loopS (fun k:Nat => ⟨upd (upd (upd e0 5 (.c (isC l))) 13 (.c (isC l))) 14 (iv k),o0⟩) (fun k => k ≤ l.length) (fun k => l.length - k) 0 (Nat.zero_le _) ?_ ?_
     ·(refine Sub_of (by simp only [go_sem]; ((repeat' (first | exact EnvLe_e0 _ _ | refine EnvLe_upd ?_ ?_)) <;> ((try simp only [upd_app,e0_app,o0_app,Nat.reduceEqDiff,reduceIte]); first | exact AWk.refl _ _ | exact AWk.int (by omega) | exact AWk.int (by rw [w64 (by omega) (by omega)]; omega) | exact AWk.grow rfl | exact AWk.nil _ | exact AWk.of (by simp [isC])))) (by simp only [go_sem]; exact ObjLe_au))
     intro k hk
     (repeat ((first | refine Va ?_ | refine Vb ?_ | refine Vc ?_ | refine Vd ?_ | refine Ve ?_ | refine Vf ?_); (try simp only [go_sem,hP,isC,List.length_map]); (repeat refine qJ ?_)))
     (refine WV_cond rfl (fun h => ?_) (fun h => ?_))
     ·have hi:k < l.length:=by simpa using h
      have hw:=w64 (n:=(k:Int) + 1) (by omega) (by omega)
      (repeat ((first | refine Va ?_ | refine Vb ?_ | refine Vc ?_ | refine Vd ?_ | refine Ve ?_ | refine Vf ?_); (try simp only [go_sem,hP,isC_at hi,isC,List.length_map,Int.toNat_natCast,Int.ofNat_lt,hi,Int.natCast_nonneg]); (repeat refine qJ ?_)))
      (refine WV_cond rfl (fun h => ?_) (fun h => ?_))
      ·simp at h
      (repeat ((first | refine Va ?_ | refine Vb ?_ | refine Vc ?_ | refine Vd ?_ | refine Ve ?_ | refine Vf ?_); (try simp only [go_sem,hP,hw]); (repeat refine qJ ?_)))
      refine ⟨k + 1,by omega,by omega,?_⟩
      (refine Sub_of (by simp only [go_sem]; ((repeat' (first | exact EnvLe_e0 _ _ | refine EnvLe_upd ?_ ?_)) <;> ((try simp only [upd_app,e0_app,o0_app,Nat.reduceEqDiff,reduceIte]); first | exact AWk.refl _ _ | exact AWk.int (by omega) | exact AWk.int (by rw [w64 (by omega) (by omega)]; omega) | exact AWk.grow rfl | exact AWk.nil _ | exact AWk.of (by simp [isC])))) (by simp only [go_sem]; exact ObjLe_au))
     ·refine WV_exit ?_
      simp only [thenQ,inQ,reduceIte,beq_self_eq_true]
      (repeat ((first | refine Va ?_ | refine Vb ?_ | refine Vc ?_ | refine Vd ?_ | refine Ve ?_ | refine Vf ?_); (try simp only [go_sem,hP]); (repeat refine qJ ?_)))
      (refine AS_pu (hb6) ?_; simp only [go_sem,hP]; (repeat refine qJ ?_); (repeat ((first | refine Va ?_ | refine Vb ?_ | refine Vc ?_ | refine Vd ?_ | refine Ve ?_ | refine Vf ?_); (try simp only [go_sem,hP]); (repeat refine qJ ?_))))
      (refine WV_ret ?_; simp only [thenQ,inQ,RetQ,RetOk,resAll,resA]; simp only [go_sem,tupA,AV.port,AV.portL,exists_eq_left']; (first | exact AVle.of rfl | refine AVle.of ?_ | skip))
end Go.Proofs.YtdoidahbimonhaaDoor
