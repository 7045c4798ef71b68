/-
  Contracts of the layer's functions, of the laws' helpers and of the law; conditions: as each theorem states.
-/
import Derived.Test.YtlmfdmlochpfcaaDoorU4
import Derived.Shelf.Strings.Builder1
import Derived.Laws.AppendOwn
import Derived.BigCall
import Derived.WalkKit
import Derived.Test.YtlmfdmlochpfcaaDoorV3
import Derived.Shelf.Bits.Mul64
set_option linter.unusedVariables false
set_option linter.unusedSimpArgs false
namespace Go.Proofs.YtlmfdmlochpfcaaDoor
open Go Go.V
abbrev o64_0:List Ins:=[⟨some 2,.mv (.k (.c (.raw (.slice none 0 0)))),none,true⟩,
 ⟨some 3,.mv (.k (.c (.int .i64 0))),none,true⟩]
abbrev o64_1:List Ins:=[⟨some 12,.mv (.t 0),none,true⟩,
 ⟨some 13,.call (.k (.fn 48 [])) [(.t 12)],none,true⟩,
 ⟨some 11,.mv (.t 13),none,true⟩,
 ⟨some 14,.ext (.t 11) 0,none,true⟩,
 ⟨some 15,.ext (.t 11) 1,none,true⟩,
 ⟨some 4,.mv (.t 14),none,true⟩,
 ⟨some 5,.mv (.t 15),none,true⟩]
abbrev o64_2:List Ins:=[⟨some 16,.mv (.t 5),none,true⟩,
 ⟨some 17,.bin .neq (.t 16) (.k (.c (.int .i64 0))),none,true⟩]
abbrev o64_3:List Ins:=[⟨some 18,.mv (.t 5),none,true⟩,
 ⟨some 2,.mv (.k (.c (.raw (.slice none 0 0)))),none,true⟩,
 ⟨some 3,.mv (.t 18),none,true⟩]
abbrev v64_4:VC:=(.seq (.ops o64_3) .ret)
abbrev v64_5:VC:=(.cond (.t 17) v64_4 .skip)
abbrev o64_6:List Ins:=[⟨some 19,.mv (.t 4),none,true⟩,
 ⟨some 20,.call (.k (.fn 56 [])) [(.t 19)],none,true⟩]
abbrev o64_7:List Ins:=[⟨some 6,.mv (.k (.c (.raw (.slice none 0 0)))),none,true⟩]
abbrev o64_8:List Ins:=[⟨some 21,.mv (.t 4),none,true⟩,
 ⟨some 22,.len (.t 21),none,true⟩,
 ⟨some 23,.mv (.k (.c (.int .i64 0))),none,true⟩]
abbrev o64_9:List Ins:=[⟨some 24,.bin .lss (.t 23) (.t 22),none,true⟩]
abbrev o64_10:List Ins:=[⟨some 25,.mv (.t 23),none,true⟩,
 ⟨some 26,.ia 1 (.t 21) (.t 23),none,true⟩,
 ⟨some 27,.ld true 1 (.t 26),none,true⟩,
 ⟨some 7,.mv (.t 25),none,true⟩,
 ⟨some 8,.mv (.t 27),none,true⟩]
abbrev o64_11:List Ins:=[⟨some 28,.mv (.t 8),none,true⟩,
 ⟨some 29,.len (.t 28),none,true⟩,
 ⟨some 30,.mv (.k (.c (.int .i64 0))),none,true⟩]
abbrev o64_12:List Ins:=[⟨some 31,.bin .lss (.t 30) (.t 29),none,true⟩]
abbrev o64_13:List Ins:=[⟨some 32,.mv (.t 30),none,true⟩,
 ⟨some 33,.ia 1 (.t 28) (.t 30),none,true⟩,
 ⟨some 34,.ld true 1 (.t 33),none,true⟩,
 ⟨some 9,.mv (.t 32),none,true⟩,
 ⟨some 10,.mv (.t 34),none,true⟩]
abbrev o64_14:List Ins:=[⟨some 35,.mv (.t 10),none,true⟩,
 ⟨some 36,.bin .eql (.t 35) (.k (.c (.int .u8 63))),none,true⟩]
abbrev o64_15:List Ins:=[⟨some 37,.mv (.t 6),none,true⟩,
 ⟨some 38,.mv (.t 7),none,true⟩,
 ⟨some 39,.mv (.t 9),none,true⟩,
 ⟨some 40,.bld [(.c (.int .i64 0)),(.c (.int .i64 0))] [(0,1,(.t 38)),(1,1,(.t 39))],none,true⟩,
 ⟨some 41,.bsl 31 2 [(.t 40)],none,true⟩,
 ⟨some 42,.app 31 2 16 (.t 37) (.t 41),none,true⟩,
 ⟨some 6,.mv (.t 42),none,true⟩]
abbrev v64_16:VC:=(.cond (.t 36) (.ops o64_15) .skip)
abbrev v64_17:VC:=(.seq (.ops o64_14) v64_16)
abbrev v64_18:VC:=(.seq (.ops o64_13) v64_17)
abbrev o64_19:List Ins:=[⟨some 43,.bin .add (.t 30) (.k (.c (.int .i64 1))),none,true⟩,
 ⟨some 30,.mv (.t 43),none,true⟩]
abbrev v64_20:VC:=(.seq (.block 3 v64_18) (.ops o64_19))
abbrev v64_21:VC:=(.seq (.cond (.t 31) .skip (.exit 2)) v64_20)
abbrev v64_22:VC:=(.seq (.ops o64_12) v64_21)
-- K64_2: changed and kept: [30,6]
abbrev v64_23:VC:=(.loop v64_22)
abbrev v64_24:VC:=(.block 2 v64_23)
abbrev v64_25:VC:=(.seq (.ops o64_11) v64_24)
abbrev v64_26:VC:=(.seq (.ops o64_10) v64_25)
abbrev o64_27:List Ins:=[⟨some 44,.bin .add (.t 23) (.k (.c (.int .i64 1))),none,true⟩,
 ⟨some 23,.mv (.t 44),none,true⟩]
abbrev v64_28:VC:=(.seq (.block 1 v64_26) (.ops o64_27))
abbrev v64_29:VC:=(.seq (.cond (.t 24) .skip (.exit 0)) v64_28)
abbrev v64_30:VC:=(.seq (.ops o64_9) v64_29)
-- K64_1: changed and kept: [23,6]
abbrev v64_31:VC:=(.loop v64_30)
abbrev v64_32:VC:=(.block 0 v64_31)
abbrev o64_33:List Ins:=[⟨some 45,.mv (.t 6),none,true⟩,
 ⟨some 2,.mv (.t 45),none,true⟩,
 ⟨some 3,.mv (.k (.c (.int .i64 0))),none,true⟩]
abbrev v64_34:VC:=(.seq (.ops o64_33) .ret)
abbrev v64_35:VC:=(.seq (.seq (.ops o64_8) v64_32) v64_34)
abbrev v64_36:VC:=(.seq (.ops o64_7) v64_35)
abbrev v64_37:VC:=(.seq (.ops o64_6) v64_36)
abbrev v64_38:VC:=(.seq (.seq (.ops o64_2) v64_5) v64_37)
abbrev v64_39:VC:=(.seq (.ops o64_1) v64_38)
def ir64:FC:=⟨1,46,[.t 2,.t 3],(.seq (.ops o64_0) v64_39)⟩
abbrev o30_0:List Ins:=[⟨some 2,.mv (.k (.c (.raw (.slice none 0 0)))),none,true⟩,
 ⟨some 3,.mv (.k (.c (.int .i64 0))),none,true⟩]
abbrev o30_1:List Ins:=[⟨some 4,.mv (.t 0),none,true⟩,
 ⟨some 5,.call (.k (.fn 64 [])) [(.t 4)],none,true⟩,
 ⟨some 6,.ext (.t 5) 0,none,true⟩,
 ⟨some 7,.ext (.t 5) 1,none,true⟩,
 ⟨some 2,.mv (.t 6),none,true⟩,
 ⟨some 3,.mv (.t 7),none,true⟩]
abbrev v30_2:VC:=(.seq (.ops o30_1) .ret)
def ir30:FC:=⟨1,8,[.t 2,.t 3],(.seq (.ops o30_0) v30_2)⟩
theorem c64:compM Tryd.prog [] 64 = some ir64:=by kernel_rfl
theorem c30:compM Tryd.prog [] 30 = some ir30:=by kernel_rfl
attribute [local go_sem] Nat.reduceEqDiff Nat.reduceAdd Nat.reduceMul reduceIte Nat.reduceLeDiff Nat.reduceLT Nat.reduceBEq reduceCtorEq
def pcd (p:Nat × Nat):List CD:=[.int .i64 p.1,.int .i64 p.2]
def marksV (l:List (Nat × Nat)):CD:=.sl 2 (l.map pcd)
theorem pcd_two (l:List (Nat × Nat)):((l.map pcd).all fun e => e.length == 2) = true:=by
 rw [List.all_eq_true]; intro e he; obtain ⟨n,_,rfl⟩:=List.mem_map.1 he; rfl
def lostK (g:List (List Int)) (i k:Nat):List (Nat × Nat):=lostL g ((List.range k).map fun k => (i,k))
def lostI (g:List (List Int)) (w n:Nat):List (Nat × Nat):=(List.range n).flatMap fun i => lostK g i w
theorem lostK_snoc (g:List (List Int)) (i k:Nat):lostK g i (k + 1) = lostK g i k ++ (if valAt g (i,k) = -1 then [(i,k)] else []):=by
 unfold lostK
 rw [List.range_succ,List.map_append]
 exact lostL_snoc _ _ _
theorem lostI_snoc (g:List (List Int)) (w n:Nat):lostI g w (n + 1) = lostI g w n ++ lostK g n w:=by
 unfold lostI
 rw [List.range_succ,List.flatMap_append]; simp
theorem lostK_len (g:List (List Int)) (i k:Nat):(lostK g i k).length ≤ k:=by
 have:=List.length_filter_le (fun p => valAt g p == -1) ((List.range k).map fun k => (i,k))
 unfold lostK lostL
 simpa using this
theorem lostI_len (g:List (List Int)) (w:Nat):∀ n,(lostI g w n).length ≤ n * w
 | 0 => by simp [lostI]
 | n + 1 => by
  rw [lostI_snoc,List.length_append,Nat.add_mul]
  have:=lostI_len g w n
  have:=lostK_len g n w
  omega
def leftG (s:List UInt8):List (Nat × Nat) × Int:=match parseP s with
 | none => ([],140)
 | some rows => (lostI (sheetG rows) (rows.headD []).length rows.length,0)
set_option maxRecDepth 20000 in
set_option maxHeartbeats 8000000 in
theorem left64 (s:List UInt8) (hs:s.length ≤ 100000):FSpec Tryd.prog 64 [sv s] (.tup [.c (marksV (leftG s).1),iv (leftG s).2]):=by
 have hmax:maxLen = 9223372036854775807:=rfl
 refine FSpec_ofP c64 (Nat.le_refl _) (by decide) fun C hP hN hC hpin hL => ?_; rw [init_st]
 simp only [ir64]
 refine WV_seq_ ?_
 (refine WV_op ?_; simp only [go_sem,hP]; (repeat refine qJ ?_))
 refine WV_seq_ ?_
 (refine WV_split 1 ?_; simp only [List.take_succ_cons,List.take_zero,List.take_nil,List.drop_succ_cons,List.drop_zero,List.drop_nil]; simp only [go_sem,hP]; (repeat refine qJ ?_))
 refine SOps_parse hP hpin hs rfl rfl rfl rfl (fun n hn => ?_) (fun n hn => ?_) (fun hp => ?_) (fun R j cap hp hcap hmx => ?_)
 ·obtain ⟨k,rfl⟩ : ∃ k,n = k + 1000:=⟨n - 1000,by omega⟩
  simp only [prgE_upd',prgE_e0,AV.prg]
 ·exact ⟨prgO_o0 _,rfl⟩
 ·have hwh:leftG s = ([],140):=by unfold leftG; rw [hp]
  rw [hwh]
  (refine SOps_ops ?_; simp only [go_sem,hP]; (repeat refine qJ ?_))
  (repeat ((first | refine Va ?_ | refine Vb ?_ | refine Vc ?_ | refine Vd ?_ | refine Ve ?_ | refine Vf ?_); (try simp only [go_sem,hP]); (repeat refine qJ ?_)))
  (refine WV_cond rfl (fun h => ?_) (fun h => ?_))
  ·(repeat ((first | refine Va ?_ | refine Vb ?_ | refine Vc ?_ | refine Vd ?_ | refine Ve ?_ | refine Vf ?_); (try simp only [go_sem,hP]); (repeat refine qJ ?_)))
   (refine WV_ret ?_; simp only [thenQ,inQ,RetQ,RetOk,resAll,resA]; simp only [go_sem,tupA,AV.port,AV.portL,exists_eq_left'])
   refine AVle.tup ?_
   exact ⟨_,_,rfl,AVle.nil 2,_,_,rfl,AVle.refl _,rfl⟩
  ·simp at h
 ·have hok:=parse_ok hp
  have hwh:leftG s = (lostI (sheetG (R.map Row.l)) ((R.map Row.l).headD []).length (R.map Row.l).length,0):=by unfold leftG; rw [hp]
  have hsh:sheetG (R.map Row.l) = restG (R.map Row.l).length ((R.map Row.l).headD []).length (gv R):=by unfold sheetG; rw [gv_vals]
  obtain ⟨hR,hb⟩:=hok.rok
  have hn:0 < R.length:=by simpa using hok.pos
  rw [List.length_map] at hwh hsh
  rw [hsh] at hwh
  generalize ((R.map Row.l).headD []).length = w at hok hwh hsh hR
  (refine SOps_ops ?_; simp only [go_sem,hP]; (repeat refine qJ ?_))
  (repeat ((first | refine Va ?_ | refine Vb ?_ | refine Vc ?_ | refine Vd ?_ | refine Ve ?_ | refine Vf ?_); (try simp only [go_sem,hP]); (repeat refine qJ ?_)))
  (refine WV_cond rfl (fun h => ?_) (fun h => ?_))
  ·simp at h
  (repeat ((first | refine Va ?_ | refine Vb ?_ | refine Vc ?_ | refine Vd ?_ | refine Ve ?_ | refine Vf ?_); (try simp only [go_sem,hP]); (repeat refine qJ ?_)))
  refine AS_grid (restore56 (j:=j) (gcap:=cap) hR hb hn) rfl rfl rfl ?_ ?_
  ·simp only [List.map_cons,List.map_nil,List.append_nil]
   simp only [go_sem,AV.lendL,lend_grid]
  rintro r l' ⟨rfl,R',e1,hR',hb',e2,e3,rfl⟩
  refine ⟨R',e1,rfl,rfl,?_⟩
  rw [← e3] at hwh
  clear e3 hsh hb hR
  rw [← e1] at hwh ⊢
  have hl:=hR'.len
  have hw:=hR'.wid
  rw [hwh]
  generalize hg:gv R' = g at hwh ⊢
  refine WV_seq_ ?_
  (refine WV_op ?_; simp only [go_sem,hP]; (repeat refine qJ ?_))
  refine WV_nilslot 6 42 31 2 (by decide) (by decide) (by rw [gown_lo (by decide)]; rfl) rfl ?_
  rw [prgO_gown (by decide),gown_upd (by decide)]
  (repeat ((first | refine Va ?_ | refine Vb ?_ | refine Vc ?_ | refine Vd ?_ | refine Ve ?_ | refine Vf ?_); (try simp only [go_sem,hP]); (repeat refine qJ ?_)))
  refine WV_loopS (fun k:Nat => ⟨upd (upd (upd (upd e0 21 (.vw 1 1000 0 R'.length cap)) 22 (iv R'.length)) 23 (iv k)) 6 (.gr 42),gown bcd 1 R' j (upd o0 42 (.grow 31 2 ((lostI g w k).map pcd)))⟩) (fun k => k ≤ R'.length) (fun k => R'.length - k) 0 (Nat.zero_le _) ?_ ?_
  ·exact Sub_of (by exact EnvLe_au) (ObLe_gown (by exact ObjLe_au))
  ·intro k hk
   (repeat ((first | refine Va ?_ | refine Vb ?_ | refine Vc ?_ | refine Vd ?_ | refine Ve ?_ | refine Vf ?_); (try simp only [go_sem,hP]); (repeat refine qJ ?_)))
   (refine WV_cond rfl (fun h => ?_) (fun h => ?_))
   ·have hk2:k < R'.length:=by simpa using h
    have hw2:=w64 (n:=(k:Int) + 1) (by omega) (by omega)
    have hrow:=hR'.row k hk2
    (refine WV_skip ?_; simp only [go_sem])
    refine WV_seq_ (WV_block (WV_seq_ ?_))
    (refine WV_op ?_; simp only [go_sem,hP,gown_grid,gown_row hk2,Row.ob_box,gridOb,Ob.isBox,refs_get hk2,refs_glen,hrow,Int.toNat_natCast,Nat.mul_one,Nat.zero_add,hk2,Int.ofNat_lt,Int.natCast_nonneg]; (repeat refine qJ ?_))
    refine WV_seq_ ?_
    (refine WV_op ?_; simp only [go_sem,hP,gown_row hk2,Row.ob_box]; (repeat refine qJ ?_))
    refine WV_block ?_
    refine WV_loopS (fun i:Nat => ⟨upd (upd (upd (upd (upd (upd (upd (upd e0 21 (.vw 1 1000 0 R'.length cap)) 22 (iv R'.length)) 23 (iv k)) 7 (iv k)) 28 (.vw 1 (k + 1001) 0 w (R'[k]).cap)) 29 (iv w)) 30 (iv i)) 6 (.gr 42),gown bcd 1 R' j (upd o0 42 (.grow 31 2 ((lostI g w k ++ lostK g k i).map pcd)))⟩) (fun i => i ≤ w) (fun i => w - i) 0 (Nat.zero_le _) ?_ ?_
    ·have hz:lostI g w k ++ lostK g k 0 = lostI g w k:=by simp [lostK,lostL]
     rw [hz]
     exact Sub_of (by exact EnvLe_au) (ObLe_gown (by exact ObjLe_au))
    ·intro i hi
     (repeat ((first | refine Va ?_ | refine Vb ?_ | refine Vc ?_ | refine Vd ?_ | refine Ve ?_ | refine Vf ?_); (try simp only [go_sem,hP]); (repeat refine qJ ?_)))
     (refine WV_cond rfl (fun h => ?_) (fun h => ?_))
     ·have hi2:i < w:=by simpa using h
      have hi3:i < (R'[k]).l.length:=by omega
      have hw3:=w64 (n:=(i:Int) + 1) (by omega) (by omega)
      (refine WV_skip ?_; simp only [go_sem])
      refine WV_seq_ (WV_block (WV_seq_ ?_))
      (refine WV_op ?_; simp only [go_sem,hP,gown_row hk2,Row.ob_box,bcell hi3,bcell_lt hi3,Int.toNat_natCast,Nat.mul_one,Nat.zero_add,hi2,Int.ofNat_lt,Int.natCast_nonneg]; (repeat refine qJ ?_))
      have hva:valAt g (k,i) = vq (R'[k]).l[i]:=by rw [← hg]; exact gv_at hk2 hi3
      have hbo:=hb' _ hk2 _ hi3
      have hsn:=lostK_snoc g k i
      rw [hva] at hsn
      have h1:=pcd_two (lostI g w k ++ lostK g k i)
      rw [List.map_append] at h1
      have hlen:(lostI g w k ++ lostK g k i).length ≤ 2000:=by
       have q1:=lostI_len g w k
       have q2:=lostK_len g k i
       have q3:k * w ≤ 41 * 32:=Nat.mul_le_mul (by omega) (by omega)
       rw [List.length_append]; omega
      generalize (R'[k]).l[i] = b at hva hbo hsn
      refine WV_seq_ ?_
      (refine WV_op ?_; simp only [go_sem,hP,beq63]; (repeat refine qJ ?_))
      (refine WV_cond rfl (fun h => ?_) (fun h => ?_))
      ·have hv:vq b = -1:=(vq_lost hbo).2 (by simpa using h)
       rw [if_pos hv] at hsn
       have hsn3:List.map pcd (lostI g w k) ++ List.map pcd (lostK g k (i + 1)) = List.map pcd (lostI g w k) ++ List.map pcd (lostK g k i) ++ [[.int .i64 k,.int .i64 i]]:=by
        rw [hsn,List.map_append,List.append_assoc]; rfl
       (repeat ((first | refine Va ?_ | refine Vb ?_ | refine Vc ?_ | refine Vd ?_ | refine Ve ?_ | refine Vf ?_); (try simp only [go_sem,hP,gown_lo,gown_upd,prgO_gown,h1,List.length_map,hlen,hw3]); (repeat refine qJ ?_)))
       refine ⟨i + 1,by omega,by omega,?_⟩
       rw [hsn3]
       exact Sub_of (by exact EnvLe_au) (ObLe_gown (by exact ObjLe_au))
      ·have hv:¬ vq b = -1:=fun hc => by rw [vq_lost hbo] at hc; simp [hc] at h
       rw [if_neg hv,List.append_nil] at hsn
       (repeat ((first | refine Va ?_ | refine Vb ?_ | refine Vc ?_ | refine Vd ?_ | refine Ve ?_ | refine Vf ?_); (try simp only [go_sem,hP,hw3]); (repeat refine qJ ?_)))
       refine ⟨i + 1,by omega,by omega,?_⟩
       rw [hsn]
       exact Sub_of (by exact EnvLe_au) (ObLe_gown (by exact ObjLe_au))
     ·have h:i = w:=by simp at h; omega
      subst h
      (repeat ((first | refine Va ?_ | refine Vb ?_ | refine Vc ?_ | refine Vd ?_ | refine Ve ?_ | refine Vf ?_); (try simp only [go_sem,hP,hw2]); (repeat refine qJ ?_)))
      refine ⟨k + 1,by omega,by omega,?_⟩
      rw [lostI_snoc,List.map_append]
      exact Sub_of (by exact EnvLe_au) (ObLe_gown (by exact ObjLe_au))
   ·have h:k = R'.length:=by simp at h; omega
    subst h
    (repeat ((first | refine Va ?_ | refine Vb ?_ | refine Vc ?_ | refine Vd ?_ | refine Ve ?_ | refine Vf ?_); (try simp only [go_sem,hP,gown_lo]); (repeat refine qJ ?_)))
    (refine WV_ret ?_; simp only [thenQ,inQ,RetQ,RetOk,resAll,resA]; simp only [go_sem,tupA,AV.port,AV.portL,exists_eq_left',gown_lo])
    exact AVle.refl _
theorem left30 (s:List UInt8) (hs:s.length ≤ 100000):FSpec Tryd.prog 30 [sv s] (.tup [.c (marksV (leftG s).1),iv (leftG s).2]):=by
 refine FSpec_ofP c30 (Nat.le_refl _) (by decide) fun C hP hN hC hpin hL => ?_; rw [init_st]
 simp only [ir30]
 (repeat ((first | refine Va ?_ | refine Vb ?_ | refine Vc ?_ | refine Vd ?_ | refine Ve ?_ | refine Vf ?_); (try simp only [go_sem,hP]); (repeat refine qJ ?_)))
 (refine AS_pu (left64 s hs) ?_; simp only [go_sem,hP]; (repeat refine qJ ?_); (repeat ((first | refine Va ?_ | refine Vb ?_ | refine Vc ?_ | refine Vd ?_ | refine Ve ?_ | refine Vf ?_); (try simp only [go_sem,hP]); (repeat refine qJ ?_))))
 (refine WV_ret ?_; simp only [thenQ,inQ,RetQ,RetOk,resAll,resA]; simp only [go_sem,tupA,AV.port,AV.portL,exists_eq_left'])
 exact AVle.refl _
end Go.Proofs.YtlmfdmlochpfcaaDoor

namespace Go.Proofs.YtlmfdmlochpfcaaDoor
open Go Go.V
abbrev o87_0:List Ins:=[⟨some 4,.mv (.k (.c (.int .i64 0))),none,true⟩]
abbrev o87_1:List Ins:=[⟨some 8,.mv (.t 0),none,true⟩,
 ⟨some 9,.mv (.t 1),none,true⟩,
 ⟨some 10,.raw (.lookup 124 (.tmp 8) (.tmp 9) true),none,true⟩,
 ⟨some 7,.mv (.t 10),none,true⟩,
 ⟨some 11,.ext (.t 7) 0,none,true⟩,
 ⟨some 12,.ext (.t 7) 1,none,true⟩,
 ⟨some 5,.mv (.t 11),none,true⟩,
 ⟨some 6,.mv (.t 12),none,true⟩]
abbrev o87_2:List Ins:=[⟨some 13,.mv (.t 6),none,true⟩,
 ⟨some 14,.un .not (.t 13),none,true⟩,
 ⟨some 15,.mv (.t 14),none,true⟩,
 ⟨some 16,.mv (.t 5),(some (15,false)),true⟩,
 ⟨some 17,.mv (.t 1),(some (15,false)),true⟩,
 ⟨some 18,.bin .eql (.t 16) (.t 17),(some (15,false)),true⟩,
 ⟨some 19,.pick (.t 15) (.k (.c (.bool true))) (.t 18),none,true⟩]
abbrev o87_3:List Ins:=[⟨some 20,.mv (.t 1),none,true⟩,
 ⟨some 4,.mv (.t 20),none,true⟩]
abbrev v87_4:VC:=(.seq (.ops o87_3) .ret)
abbrev v87_5:VC:=(.cond (.t 19) v87_4 .skip)
abbrev o87_6:List Ins:=[⟨some 21,.mv (.t 0),none,true⟩,
 ⟨some 22,.mv (.t 5),none,true⟩,
 ⟨some 23,.call (.k (.fn 87 [])) [(.t 21),(.t 22)],none,true⟩,
 ⟨some 5,.mv (.t 23),none,true⟩]
abbrev o87_7:List Ins:=[⟨some 24,.mv (.t 0),none,true⟩,
 ⟨some 25,.mv (.t 1),none,true⟩,
 ⟨some 26,.mv (.t 5),none,true⟩,
 ⟨none,.mput .i64 .i64 (.t 24) (.t 25) (.t 26),none,true⟩]
abbrev o87_8:List Ins:=[⟨some 27,.mv (.t 5),none,true⟩,
 ⟨some 4,.mv (.t 27),none,true⟩]
abbrev v87_9:VC:=(.seq (.ops o87_8) .ret)
abbrev v87_10:VC:=(.seq (.ops o87_7) v87_9)
abbrev v87_11:VC:=(.seq (.ops o87_6) v87_10)
abbrev v87_12:VC:=(.seq (.seq (.ops o87_2) v87_5) v87_11)
abbrev v87_13:VC:=(.seq (.ops o87_1) v87_12)
def ir87:FC:=⟨2,28,[.t 4],(.seq (.ops o87_0) v87_13)⟩
theorem c87:compM Tryd.prog [] 87 = some ir87:=by kernel_rfl
attribute [local go_sem] Nat.reduceEqDiff Nat.reduceAdd Nat.reduceMul reduceIte Nat.reduceLeDiff Nat.reduceLT Nat.reduceBEq reduceCtorEq
def ofR:Nat → List (Int × Int) → Int → List (Int × Int) × Int
 | 0,l,n => (l,n)
 | k + 1,l,n => if mhas l n = false ∨ mget l n = n then (l,n) else (mput (ofR k l (mget l n)).1 n (ofR k l (mget l n)).2,(ofR k l (mget l n)).2)
def dep:Nat → List (Int × Int) → Int → Prop
 | 0,l,n => mhas l n = false ∨ mget l n = n
 | k + 1,l,n => mhas l n = false ∨ mget l n = n ∨ dep k l (mget l n)
theorem ofR_stop (k:Nat) {l:List (Int × Int)} {n:Int} (h:mhas l n = false ∨ mget l n = n):ofR k l n = (l,n):=by
 cases k with
 | zero => rfl
 | succ k => unfold ofR; rw [if_pos h]
set_option maxRecDepth 20000 in
set_option maxHeartbeats 8000000 in
theorem of87:∀ (k:Nat) (l:List (Int × Int)) (n:Int),dep k l n → FSpecL Tryd.prog 87 [.gr 1000,iv n] [.mp .i64 .i64 l] [] (fun r l' => r = iv (ofR k l n).2 ∧ l' = [.mp .i64 .i64 (ofR k l n).1]):=by
 intro k
 induction k with
 | zero =>
  intro l n hd
  refine FSpecL_of c87 (by first | simp | exact Nat.le_of_ble_eq_true rfl) (Nat.le_refl _) (by decide) (by decide) fun C hP hN hC hL => ?_; rw [init_env',ownW_upd (by first | simp | exact Nat.le_of_ble_eq_true rfl)]; simp only [ir87,updL,updLo,List.map_nil,List.map_cons,Nat.reduceAdd,]
  refine WV_seq_ ?_
  (refine WV_op ?_; simp only [go_sem,hP]; (repeat refine qJ ?_))
  refine WV_seq_ ?_
  (refine WV_op ?_; simp only [go_sem,hP]; (repeat refine qJ ?_))
  refine raw_mget (k:=3) (e:=3) (x':=.t 8) (i':=.t 9) (by kernel_rfl) (by kernel_rfl) (by kernel_rfl) (by kernel_rfl) (by kernel_rfl) rfl rfl rfl rfl rfl ?_
  simp only [go_sem]
  (repeat ((first | refine Va ?_ | refine Vb ?_ | refine Vc ?_ | refine Vd ?_ | refine Ve ?_ | refine Vf ?_); (try simp only [go_sem,hP]); (repeat refine qJ ?_)))
  rw [ofR_stop 0 hd]
  rcases Bool.eq_false_or_eq_true (mhas l n) with hm | hm
  ·have hg:mget l n = n:=by rcases hd with hd | hd; (rw [hm] at hd; cases hd); exact hd
   rw [hm,hg]
   (repeat ((first | refine Va ?_ | refine Vb ?_ | refine Vc ?_ | refine Vd ?_ | refine Ve ?_ | refine Vf ?_); (try simp only [go_sem,hP]); (repeat refine qJ ?_)))
   (refine WV_cond rfl (fun h => ?_) (fun h => ?_))
   ·(repeat ((first | refine Va ?_ | refine Vb ?_ | refine Vc ?_ | refine Vd ?_ | refine Ve ?_ | refine Vf ?_); (try simp only [go_sem,hP]); (repeat refine qJ ?_)))
    (refine WV_ret ?_; simp only [thenQ,inQ,RetQL,RetOkL,resAll,resA]; simp only [go_sem,tupA,AV.keepP,AV.keepPL]; refine ⟨_,[.mp .i64 .i64 l],rfl,KeepL_mk rfl rfl ?_ ?_ rfl,?_⟩)
    ·simp only [go_sem,keepAll,Ob.keepP]
    ·simp only [go_sem,winAll]
    ·exact ⟨rfl,rfl⟩
   ·simp at h
  ·rw [hm]
   (repeat ((first | refine Va ?_ | refine Vb ?_ | refine Vc ?_ | refine Vd ?_ | refine Ve ?_ | refine Vf ?_); (try simp only [go_sem,hP]); (repeat refine qJ ?_)))
   (refine WV_cond rfl (fun h => ?_) (fun h => ?_))
   ·(repeat ((first | refine Va ?_ | refine Vb ?_ | refine Vc ?_ | refine Vd ?_ | refine Ve ?_ | refine Vf ?_); (try simp only [go_sem,hP]); (repeat refine qJ ?_)))
    (refine WV_ret ?_; simp only [thenQ,inQ,RetQL,RetOkL,resAll,resA]; simp only [go_sem,tupA,AV.keepP,AV.keepPL]; refine ⟨_,[.mp .i64 .i64 l],rfl,KeepL_mk rfl rfl ?_ ?_ rfl,?_⟩)
    ·simp only [go_sem,keepAll,Ob.keepP]
    ·simp only [go_sem,winAll]
    ·exact ⟨rfl,rfl⟩
   ·simp at h
 | succ k ih =>
  intro l n hd
  refine FSpecL_of c87 (by first | simp | exact Nat.le_of_ble_eq_true rfl) (Nat.le_refl _) (by decide) (by decide) fun C hP hN hC hL => ?_; rw [init_env',ownW_upd (by first | simp | exact Nat.le_of_ble_eq_true rfl)]; simp only [ir87,updL,updLo,List.map_nil,List.map_cons,Nat.reduceAdd,]
  refine WV_seq_ ?_
  (refine WV_op ?_; simp only [go_sem,hP]; (repeat refine qJ ?_))
  refine WV_seq_ ?_
  (refine WV_op ?_; simp only [go_sem,hP]; (repeat refine qJ ?_))
  refine raw_mget (k:=3) (e:=3) (x':=.t 8) (i':=.t 9) (by kernel_rfl) (by kernel_rfl) (by kernel_rfl) (by kernel_rfl) (by kernel_rfl) rfl rfl rfl rfl rfl ?_
  simp only [go_sem]
  (repeat ((first | refine Va ?_ | refine Vb ?_ | refine Vc ?_ | refine Vd ?_ | refine Ve ?_ | refine Vf ?_); (try simp only [go_sem,hP]); (repeat refine qJ ?_)))
  rcases Bool.eq_false_or_eq_true (mhas l n) with hm | hm
  ·by_cases hg:mget l n = n
   ·rw [ofR_stop _ (.inr hg),hm,hg]
    (repeat ((first | refine Va ?_ | refine Vb ?_ | refine Vc ?_ | refine Vd ?_ | refine Ve ?_ | refine Vf ?_); (try simp only [go_sem,hP]); (repeat refine qJ ?_)))
    (refine WV_cond rfl (fun h => ?_) (fun h => ?_))
    ·(repeat ((first | refine Va ?_ | refine Vb ?_ | refine Vc ?_ | refine Vd ?_ | refine Ve ?_ | refine Vf ?_); (try simp only [go_sem,hP]); (repeat refine qJ ?_)))
     (refine WV_ret ?_; simp only [thenQ,inQ,RetQL,RetOkL,resAll,resA]; simp only [go_sem,tupA,AV.keepP,AV.keepPL]; refine ⟨_,[.mp .i64 .i64 l],rfl,KeepL_mk rfl rfl ?_ ?_ rfl,?_⟩)
     ·simp only [go_sem,keepAll,Ob.keepP]
     ·simp only [go_sem,winAll]
     ·exact ⟨rfl,rfl⟩
    ·simp at h
   ·have hd2:dep k l (mget l n):=by
     rcases hd with hd | hd | hd
     ·rw [hm] at hd; cases hd
     ·exact (hg hd).elim
     ·exact hd
    have hof:ofR (k + 1) l n = (mput (ofR k l (mget l n)).1 n (ofR k l (mget l n)).2,(ofR k l (mget l n)).2):=by
     conv => lhs; unfold ofR
     rw [if_neg (by rw [hm]; simpa using hg)]
    have hih:=ih l _ hd2
    rw [hof,hm]
    generalize ofR k l (mget l n) = q at hih
    generalize mget l n = m at hg hih
    have hmn:(m == n) = false:=by simpa using hg
    (repeat ((first | refine Va ?_ | refine Vb ?_ | refine Vc ?_ | refine Vd ?_ | refine Ve ?_ | refine Vf ?_); (try simp only [go_sem,hP,hmn]); (repeat refine qJ ?_)))
    (refine WV_cond rfl (fun h => ?_) (fun h => ?_))
    ·simp at h; (try exact (hg h).elim)
    ·(repeat ((first | refine Va ?_ | refine Vb ?_ | refine Vc ?_ | refine Vd ?_ | refine Ve ?_ | refine Vf ?_); (try simp only [go_sem,hP]); (repeat refine qJ ?_)))
     (refine AS_lend [1000] (hih) rfl rfl rfl (by decide) rfl (by simp only [go_sem,obsLend,Ob.lend,AV.lend,AV.lendL]) ?_)
     rintro r l' ⟨rfl,rfl⟩
     (refine ⟨_,_,rfl,(by simp only [obsBack,Ob.back,AV.back,AV.backL,]; rfl),?_⟩; simp only [go_sem,hP,ownBack])
     (repeat ((first | refine Va ?_ | refine Vb ?_ | refine Vc ?_ | refine Vd ?_ | refine Ve ?_ | refine Vf ?_); (try simp only [go_sem,hP]); (repeat refine qJ ?_)))
     (refine WV_ret ?_; simp only [thenQ,inQ,RetQL,RetOkL,resAll,resA]; simp only [go_sem,tupA,AV.keepP,AV.keepPL]; refine ⟨_,[.mp .i64 .i64 (mput q.1 n q.2)],rfl,KeepL_mk rfl rfl ?_ ?_ rfl,?_⟩)
     ·simp only [go_sem,keepAll,Ob.keepP]
     ·simp only [go_sem,winAll]
     ·exact ⟨rfl,rfl⟩
  ·rw [ofR_stop _ (.inl hm),hm]
   (repeat ((first | refine Va ?_ | refine Vb ?_ | refine Vc ?_ | refine Vd ?_ | refine Ve ?_ | refine Vf ?_); (try simp only [go_sem,hP]); (repeat refine qJ ?_)))
   (refine WV_cond rfl (fun h => ?_) (fun h => ?_))
   ·(repeat ((first | refine Va ?_ | refine Vb ?_ | refine Vc ?_ | refine Vd ?_ | refine Ve ?_ | refine Vf ?_); (try simp only [go_sem,hP]); (repeat refine qJ ?_)))
    (refine WV_ret ?_; simp only [thenQ,inQ,RetQL,RetOkL,resAll,resA]; simp only [go_sem,tupA,AV.keepP,AV.keepPL]; refine ⟨_,[.mp .i64 .i64 l],rfl,KeepL_mk rfl rfl ?_ ?_ rfl,?_⟩)
    ·simp only [go_sem,keepAll,Ob.keepP]
    ·simp only [go_sem,winAll]
    ·exact ⟨rfl,rfl⟩
   ·simp at h
end Go.Proofs.YtlmfdmlochpfcaaDoor

namespace Go.Proofs.YtlmfdmlochpfcaaDoor
open Go Go.V
abbrev o65_0:List Ins:=[⟨some 2,.mv (.k (.c (.raw (.slice none 0 0)))),none,true⟩]
abbrev o65_1:List Ins:=[⟨some 9,.mkm .i64 .i64,none,true⟩,
 ⟨some 3,.mv (.t 9),none,true⟩]
abbrev o65_2:List Ins:=[⟨some 4,.mv (.k (.c (.raw (.slice none 0 0)))),none,true⟩]
abbrev o65_3:List Ins:=[⟨some 10,.mv (.t 0),none,true⟩,
 ⟨some 11,.len (.t 10),none,true⟩,
 ⟨some 12,.mv (.k (.c (.int .i64 0))),none,true⟩]
abbrev o65_4:List Ins:=[⟨some 13,.bin .lss (.t 12) (.t 11),none,true⟩]
abbrev o65_5:List Ins:=[⟨some 14,.ia 2 (.t 10) (.t 12),none,true⟩,
 ⟨some 15,.ld false 2 (.t 14),none,true⟩,
 ⟨some 6,.alloc [(.c (.int .i64 0)),(.c (.int .i64 0))],none,true⟩,
 ⟨none,.st 2 (.t 6) (.t 15),none,true⟩]
abbrev t65_6:OT:=(.cons ⟨some 16,.mv (.t 3),none,false⟩
 (.cons ⟨some 17,.fa 0 (.t 6),none,false⟩
 (.cons ⟨some 18,.ld true 1 (.t 17),none,false⟩
 (.br [(.cons ⟨some 19,.call (.k (.fn 87 [])) [(.t 16),(.t 18)],none,true⟩
  (.cons ⟨some 20,.mv (.t 3),none,false⟩
  (.cons ⟨some 21,.fa 1 (.t 6),none,false⟩
  (.cons ⟨some 22,.ld true 1 (.t 21),none,false⟩
  (.cons ⟨some 23,.bin .sub (.k (.c (.int .i64 (-1)))) (.t 22),none,false⟩
  (.cons ⟨some 24,.call (.k (.fn 87 [])) [(.t 20),(.t 23)],none,true⟩
  (.cons ⟨some 7,.mv (.t 19),none,true⟩
  (.cons ⟨some 8,.mv (.t 24),none,true⟩
  .nil)))))))),(.cons ⟨some 20,.mv (.t 3),none,false⟩
  (.br [(.cons ⟨some 19,.call (.k (.fn 87 [])) [(.t 16),(.t 18)],none,true⟩
   (.cons ⟨some 21,.fa 1 (.t 6),none,false⟩
   (.cons ⟨some 22,.ld true 1 (.t 21),none,false⟩
   (.cons ⟨some 23,.bin .sub (.k (.c (.int .i64 (-1)))) (.t 22),none,false⟩
   (.cons ⟨some 24,.call (.k (.fn 87 [])) [(.t 20),(.t 23)],none,true⟩
   (.cons ⟨some 7,.mv (.t 19),none,true⟩
   (.cons ⟨some 8,.mv (.t 24),none,true⟩
   .nil))))))),(.cons ⟨some 21,.fa 1 (.t 6),none,false⟩
   (.br [(.cons ⟨some 19,.call (.k (.fn 87 [])) [(.t 16),(.t 18)],none,true⟩
    (.cons ⟨some 22,.ld true 1 (.t 21),none,false⟩
    (.cons ⟨some 23,.bin .sub (.k (.c (.int .i64 (-1)))) (.t 22),none,false⟩
    (.cons ⟨some 24,.call (.k (.fn 87 [])) [(.t 20),(.t 23)],none,true⟩
    (.cons ⟨some 7,.mv (.t 19),none,true⟩
    (.cons ⟨some 8,.mv (.t 24),none,true⟩
    .nil)))))),(.cons ⟨some 22,.ld true 1 (.t 21),none,false⟩
    (.br [(.cons ⟨some 19,.call (.k (.fn 87 [])) [(.t 16),(.t 18)],none,true⟩
     (.cons ⟨some 23,.bin .sub (.k (.c (.int .i64 (-1)))) (.t 22),none,false⟩
     (.cons ⟨some 24,.call (.k (.fn 87 [])) [(.t 20),(.t 23)],none,true⟩
     (.cons ⟨some 7,.mv (.t 19),none,true⟩
     (.cons ⟨some 8,.mv (.t 24),none,true⟩
     .nil))))),(.cons ⟨some 23,.bin .sub (.k (.c (.int .i64 (-1)))) (.t 22),none,false⟩
     (.cons ⟨some 19,.call (.k (.fn 87 [])) [(.t 16),(.t 18)],none,true⟩
     (.cons ⟨some 24,.call (.k (.fn 87 [])) [(.t 20),(.t 23)],none,true⟩
     (.cons ⟨some 7,.mv (.t 19),none,true⟩
     (.cons ⟨some 8,.mv (.t 24),none,true⟩
     .nil)))))]))]))])),(.cons ⟨some 21,.fa 1 (.t 6),none,false⟩
  (.br [(.cons ⟨some 19,.call (.k (.fn 87 [])) [(.t 16),(.t 18)],none,true⟩
   (.cons ⟨some 20,.mv (.t 3),none,false⟩
   (.cons ⟨some 22,.ld true 1 (.t 21),none,false⟩
   (.cons ⟨some 23,.bin .sub (.k (.c (.int .i64 (-1)))) (.t 22),none,false⟩
   (.cons ⟨some 24,.call (.k (.fn 87 [])) [(.t 20),(.t 23)],none,true⟩
   (.cons ⟨some 7,.mv (.t 19),none,true⟩
   (.cons ⟨some 8,.mv (.t 24),none,true⟩
   .nil))))))),(.cons ⟨some 20,.mv (.t 3),none,false⟩
   (.br [(.cons ⟨some 19,.call (.k (.fn 87 [])) [(.t 16),(.t 18)],none,true⟩
    (.cons ⟨some 22,.ld true 1 (.t 21),none,false⟩
    (.cons ⟨some 23,.bin .sub (.k (.c (.int .i64 (-1)))) (.t 22),none,false⟩
    (.cons ⟨some 24,.call (.k (.fn 87 [])) [(.t 20),(.t 23)],none,true⟩
    (.cons ⟨some 7,.mv (.t 19),none,true⟩
    (.cons ⟨some 8,.mv (.t 24),none,true⟩
    .nil)))))),(.cons ⟨some 22,.ld true 1 (.t 21),none,false⟩
    (.br [(.cons ⟨some 19,.call (.k (.fn 87 [])) [(.t 16),(.t 18)],none,true⟩
     (.cons ⟨some 23,.bin .sub (.k (.c (.int .i64 (-1)))) (.t 22),none,false⟩
     (.cons ⟨some 24,.call (.k (.fn 87 [])) [(.t 20),(.t 23)],none,true⟩
     (.cons ⟨some 7,.mv (.t 19),none,true⟩
     (.cons ⟨some 8,.mv (.t 24),none,true⟩
     .nil))))),(.cons ⟨some 23,.bin .sub (.k (.c (.int .i64 (-1)))) (.t 22),none,false⟩
     (.cons ⟨some 19,.call (.k (.fn 87 [])) [(.t 16),(.t 18)],none,true⟩
     (.cons ⟨some 24,.call (.k (.fn 87 [])) [(.t 20),(.t 23)],none,true⟩
     (.cons ⟨some 7,.mv (.t 19),none,true⟩
     (.cons ⟨some 8,.mv (.t 24),none,true⟩
     .nil)))))]))])),(.cons ⟨some 22,.ld true 1 (.t 21),none,false⟩
   (.br [(.cons ⟨some 19,.call (.k (.fn 87 [])) [(.t 16),(.t 18)],none,true⟩
    (.cons ⟨some 20,.mv (.t 3),none,false⟩
    (.cons ⟨some 23,.bin .sub (.k (.c (.int .i64 (-1)))) (.t 22),none,false⟩
    (.cons ⟨some 24,.call (.k (.fn 87 [])) [(.t 20),(.t 23)],none,true⟩
    (.cons ⟨some 7,.mv (.t 19),none,true⟩
    (.cons ⟨some 8,.mv (.t 24),none,true⟩
    .nil)))))),(.cons ⟨some 20,.mv (.t 3),none,false⟩
    (.br [(.cons ⟨some 19,.call (.k (.fn 87 [])) [(.t 16),(.t 18)],none,true⟩
     (.cons ⟨some 23,.bin .sub (.k (.c (.int .i64 (-1)))) (.t 22),none,false⟩
     (.cons ⟨some 24,.call (.k (.fn 87 [])) [(.t 20),(.t 23)],none,true⟩
     (.cons ⟨some 7,.mv (.t 19),none,true⟩
     (.cons ⟨some 8,.mv (.t 24),none,true⟩
     .nil))))),(.cons ⟨some 23,.bin .sub (.k (.c (.int .i64 (-1)))) (.t 22),none,false⟩
     (.cons ⟨some 19,.call (.k (.fn 87 [])) [(.t 16),(.t 18)],none,true⟩
     (.cons ⟨some 24,.call (.k (.fn 87 [])) [(.t 20),(.t 23)],none,true⟩
     (.cons ⟨some 7,.mv (.t 19),none,true⟩
     (.cons ⟨some 8,.mv (.t 24),none,true⟩
     .nil)))))])),(.cons ⟨some 23,.bin .sub (.k (.c (.int .i64 (-1)))) (.t 22),none,false⟩
    (.br [(.cons ⟨some 19,.call (.k (.fn 87 [])) [(.t 16),(.t 18)],none,true⟩
     (.cons ⟨some 20,.mv (.t 3),none,false⟩
     (.cons ⟨some 24,.call (.k (.fn 87 [])) [(.t 20),(.t 23)],none,true⟩
     (.cons ⟨some 7,.mv (.t 19),none,true⟩
     (.cons ⟨some 8,.mv (.t 24),none,true⟩
     .nil))))),(.cons ⟨some 20,.mv (.t 3),none,false⟩
     (.cons ⟨some 19,.call (.k (.fn 87 [])) [(.t 16),(.t 18)],none,true⟩
     (.cons ⟨some 24,.call (.k (.fn 87 [])) [(.t 20),(.t 23)],none,true⟩
     (.cons ⟨some 7,.mv (.t 19),none,true⟩
     (.cons ⟨some 8,.mv (.t 24),none,true⟩
     .nil)))))]))]))]))]))))
abbrev o65_7:List Ins:=[⟨some 25,.mv (.t 7),none,true⟩,
 ⟨some 26,.mv (.t 8),none,true⟩,
 ⟨some 27,.bin .eql (.t 25) (.t 26),none,true⟩]
abbrev o65_8:List Ins:=[⟨some 28,.mv (.t 4),none,true⟩,
 ⟨some 29,.ld false 2 (.t 6),none,true⟩,
 ⟨some 30,.bsl 31 2 [(.t 29)],none,true⟩,
 ⟨some 31,.app 31 2 16 (.t 28) (.t 30),none,true⟩,
 ⟨some 4,.mv (.t 31),none,true⟩]
abbrev v65_9:VC:=(.cond (.t 27) (.ops o65_8) .skip)
abbrev o65_10:List Ins:=[⟨some 32,.mv (.t 3),none,true⟩,
 ⟨some 33,.mv (.t 7),none,true⟩,
 ⟨some 34,.mv (.t 8),none,true⟩,
 ⟨none,.mput .i64 .i64 (.t 32) (.t 33) (.t 34),none,true⟩]
abbrev v65_11:VC:=(.seq (.seq (.ops o65_7) v65_9) (.ops o65_10))
abbrev v65_12:VC:=(.seq (.drw t65_6) v65_11)
abbrev v65_13:VC:=(.seq (.ops o65_5) v65_12)
abbrev o65_14:List Ins:=[⟨some 35,.bin .add (.t 12) (.k (.c (.int .i64 1))),none,true⟩,
 ⟨some 12,.mv (.t 35),none,true⟩]
abbrev v65_15:VC:=(.seq (.block 1 v65_13) (.ops o65_14))
abbrev v65_16:VC:=(.seq (.cond (.t 13) .skip (.exit 0)) v65_15)
abbrev v65_17:VC:=(.seq (.ops o65_4) v65_16)
-- K65_1: changed and kept: [12,4]
abbrev v65_18:VC:=(.loop v65_17)
abbrev v65_19:VC:=(.block 0 v65_18)
abbrev o65_20:List Ins:=[⟨some 36,.mv (.t 4),none,true⟩,
 ⟨some 2,.mv (.t 36),none,true⟩]
abbrev v65_21:VC:=(.seq (.ops o65_20) .ret)
abbrev v65_22:VC:=(.seq (.seq (.ops o65_3) v65_19) v65_21)
abbrev v65_23:VC:=(.seq (.ops o65_2) v65_22)
abbrev v65_24:VC:=(.seq (.ops o65_1) v65_23)
def ir65:FC:=⟨1,37,[.t 2],(.seq (.ops o65_0) v65_24)⟩
theorem c65:compM Tryd.prog [19] 65 = some ir65:=by kernel_rfl
attribute [local go_sem] Nat.reduceEqDiff Nat.reduceAdd Nat.reduceMul reduceIte Nat.reduceLeDiff Nat.reduceLT Nat.reduceBEq reduceCtorEq
theorem mget_mputB (l:List (Int × Int)) (k v x:Int):mget (mput l k v) x = if x = k then v else mget l x:=by
 induction l with
 | nil => simp only [mput,mget]
 | cons p l ih =>
  obtain ⟨a,b⟩:=p
  simp only [mput]
  split
  ·rename_i h; subst h
   simp only [mget]
   split <;> rfl
  ·rename_i h
   simp only [mget,ih]
   split
   ·rename_i h2; subst h2; rw [if_neg (fun h3 => h h3.symm)]
   ·rfl
theorem mhas_mputB (l:List (Int × Int)) (k v x:Int):mhas (mput l k v) x = (decide (x = k) || mhas l x):=by
 induction l with
 | nil => simp [mput,mhas]
 | cons p l ih =>
  obtain ⟨a,b⟩:=p
  simp only [mput]
  split
  ·rename_i h; subst h
   simp only [mhas]
   by_cases h2:x = k <;> simp [h2]
  ·rename_i h
   simp only [mhas,ih]
   by_cases h2:x = a <;> by_cases h3:x = k <;> simp [h2,h3]
inductive Root (l:List (Int × Int)):Int → Int → Prop
 | stop {n:Int}:(mhas l n = false ∨ mget l n = n) → Root l n n
 | step {n r:Int}:mhas l n = true → mget l n ≠ n → Root l (mget l n) r → Root l n r
theorem Root.det {l:List (Int × Int)} {n r s:Int} (h1:Root l n r) (h2:Root l n s):r = s:=by
 induction h1 with
 | stop h =>
  cases h2 with
  | stop _ => rfl
  | step h3 h4 _ => rcases h with h | h; (rw [h] at h3; cases h3); exact (h4 h).elim
 | step h3 h4 _ ih =>
  cases h2 with
  | stop h => rcases h with h | h; (rw [h] at h3; cases h3); exact (h4 h).elim
  | step _ _ h5 => exact ih h5
theorem Root.end_ {l:List (Int × Int)} {n r:Int} (h1:Root l n r):mhas l r = false ∨ mget l r = r:=by
 induction h1 with
 | stop h => exact h
 | step _ _ _ ih => exact ih
theorem Root.self {l:List (Int × Int)} {n r:Int} (h1:Root l n r):Root l r r:=.stop h1.end_
theorem Root.dep {l:List (Int × Int)} {n r:Int} (h1:Root l n r):∃ k,dep k l n:=by
 induction h1 with
 | stop h => exact ⟨0,h⟩
 | step _ _ _ ih => obtain ⟨k,hk⟩:=ih; exact ⟨k + 1,.inr (.inr hk)⟩
theorem Root.cut {l:List (Int × Int)} {n r:Int} (h:Root l n r) (hne:r ≠ n) {x y:Int} (hx:Root l x y):Root (mput l n r) x y:=by
 have hnst:¬ (mhas l n = false ∨ mget l n = n):=fun hc => hne ((Root.stop hc).det h).symm
 have hr:Root (mput l n r) r r:=.stop (by
  rw [mhas_mputB,mget_mputB,if_neg hne,decide_eq_false hne,Bool.false_or]
  exact h.end_)
 induction hx with
 | @stop x hs =>
  by_cases hxn:x = n
  ·subst hxn; exact (hnst hs).elim
  ·refine .stop ?_
   rw [mhas_mputB,mget_mputB,if_neg hxn,decide_eq_false hxn,Bool.false_or]; exact hs
 | @step x y h3 h4 h5 ih =>
  by_cases hxn:x = n
  ·subst hxn
   have:y = r:=(Root.step h3 h4 h5).det h
   subst this
   refine .step ?_ ?_ ?_
   ·rw [mhas_mputB]; simp
   ·rw [mget_mputB,if_pos rfl]; exact hne
   ·rw [mget_mputB,if_pos rfl]; exact hr
  ·refine .step ?_ ?_ ?_
   ·rw [mhas_mputB,h3]; simp
   ·rw [mget_mputB,if_neg hxn]; exact h4
   ·rw [mget_mputB,if_neg hxn]; exact ih
theorem ofR_root:∀ (k:Nat) (l:List (Int × Int)) (n:Int),dep k l n → Root l n (ofR k l n).2 ∧ ∀ x y,Root l x y → Root (ofR k l n).1 x y
 | 0,l,n,h => ⟨.stop h,fun _ _ hx => hx⟩
 | k + 1,l,n,h => by
  by_cases hs:mhas l n = false ∨ mget l n = n
  ·rw [ofR_stop _ hs]; exact ⟨.stop hs,fun _ _ hx => hx⟩
  ·have hd:dep k l (mget l n):=by
    rcases h with h | h | h
    ·exact (hs (.inl h)).elim
    ·exact (hs (.inr h)).elim
    ·exact h
   obtain ⟨h1,h2⟩:=ofR_root k l _ hd
   have hm:mhas l n = true:=by cases hq:mhas l n <;> simp_all
   have hg:mget l n ≠ n:=fun hc => hs (.inr hc)
   have e:ofR (k + 1) l n = (mput (ofR k l (mget l n)).1 n (ofR k l (mget l n)).2,(ofR k l (mget l n)).2):=by
    conv => lhs; unfold ofR
    rw [if_neg hs]
   rw [e]
   have h3:Root l n (ofR k l (mget l n)).2:=.step hm hg h1
   refine ⟨h3,fun x y hx => (h2 _ _ h3).cut (fun hc => hs ?_) (h2 _ _ hx)⟩
   have:=h3.end_
   rw [hc] at this
   exact this
theorem Root.join {l:List (Int × Int)} {a b:Int} (ha:Root l a a) (hb:Root l b b) {x y:Int} (hx:Root l x y):Root (mput l a b) x (if y = a then b else y):=by
 have hb':Root (mput l a b) b b:=.stop (by
  rw [mhas_mputB,mget_mputB]
  by_cases h:b = a
  ·subst h; right; rw [if_pos rfl]
  ·rw [if_neg h,decide_eq_false h,Bool.false_or]; exact hb.end_)
 induction hx with
 | @stop x hs =>
  by_cases hxn:x = a
  ·subst hxn
   rw [if_pos rfl]
   by_cases hbx:b = x
   ·subst hbx; exact hb'
   ·refine .step (by rw [mhas_mputB]; simp) (by rw [mget_mputB,if_pos rfl]; exact hbx) ?_
    rw [mget_mputB,if_pos rfl]; exact hb'
  ·rw [if_neg hxn]
   refine .stop ?_
   rw [mhas_mputB,mget_mputB,if_neg hxn,decide_eq_false hxn,Bool.false_or]; exact hs
 | @step x y h3 h4 h5 ih =>
  have hxn:x ≠ a:=fun hc => by
   subst hc
   rcases ha.end_ with h | h
   ·rw [h] at h3; cases h3
   ·exact h4 h
  refine .step ?_ ?_ ?_
  ·rw [mhas_mputB,h3]; simp
  ·rw [mget_mputB,if_neg hxn]; exact h4
  ·rw [mget_mputB,if_neg hxn]; exact ih
inductive Conn (ms:List (Nat × Nat)):Int → Int → Prop
 | refl (x:Int):Conn ms x x
 | edge {m:Nat × Nat}:m ∈ ms → Conn ms m.1 (-1 - m.2)
 | symm {x y:Int}:Conn ms x y → Conn ms y x
 | trans {x y z:Int}:Conn ms x y → Conn ms y z → Conn ms x z
theorem Conn.mono {ms ns:List (Nat × Nat)} (h:∀ m ∈ ms,m ∈ ns) {x y:Int} (hc:Conn ms x y):Conn ns x y:=by
 induction hc with
 | refl x => exact .refl x
 | edge hm => exact .edge (h _ hm)
 | symm _ ih => exact ih.symm
 | trans _ _ ih1 ih2 => exact ih1.trans ih2
theorem Conn.snoc {ms:List (Nat × Nat)} {m:Nat × Nat} {x y:Int} (h:Conn (ms ++ [m]) x y):Conn ms x y ∨ (Conn ms x m.1 ∧ Conn ms y (-1 - m.2)) ∨ (Conn ms x (-1 - m.2) ∧ Conn ms y m.1):=by
 induction h with
 | refl x => exact .inl (.refl x)
 | @edge p hm =>
  rcases List.mem_append.1 hm with hm | hm
  ·exact .inl (.edge hm)
  ·simp at hm; subst hm; exact .inr (.inl ⟨.refl _,.refl _⟩)
 | symm _ ih =>
  rcases ih with h | ⟨h1,h2⟩ | ⟨h1,h2⟩
  ·exact .inl h.symm
  ·exact .inr (.inr ⟨h2,h1⟩)
  ·exact .inr (.inl ⟨h2,h1⟩)
 | trans _ _ ih1 ih2 =>
  rcases ih1 with h | ⟨h1,h2⟩ | ⟨h1,h2⟩ <;> rcases ih2 with k | ⟨k1,k2⟩ | ⟨k1,k2⟩
  ·exact .inl (h.trans k)
  ·exact .inr (.inl ⟨h.trans k1,k2⟩)
  ·exact .inr (.inr ⟨h.trans k1,k2⟩)
  ·exact .inr (.inl ⟨h1,k.symm.trans h2⟩)
  ·exact .inl (h1.trans (k1.symm.trans (h2.trans k2.symm)))
  ·exact .inl (h1.trans k2.symm)
  ·exact .inr (.inr ⟨h1,k.symm.trans h2⟩)
  ·exact .inl (h1.trans k2.symm)
  ·exact .inl (h1.trans (k1.symm.trans (h2.trans k2.symm)))
structure GrpOk (l:List (Int × Int)) (ms:List (Nat × Nat)):Prop where
 tot:∀ x,∃ r,Root l x r
 con:∀ x y r s,Root l x r → Root l y s → (r = s ↔ Conn ms x y)
theorem GrpOk.nil:GrpOk [] []:=by
 have hr:∀ x,Root [] x x:=fun x => .stop (.inl rfl)
 refine ⟨fun x => ⟨x,hr x⟩,fun x y r s h1 h2 => ?_⟩
 have e1:=h1.det (hr x)
 have e2:=h2.det (hr y)
 subst e1 e2
 refine ⟨fun h => h ▸ .refl _,fun h => ?_⟩
 clear h1 h2
 induction h with
 | refl x => rfl
 | edge hm => cases hm
 | symm _ ih => exact ih.symm
 | trans _ _ ih1 ih2 => exact ih1.trans ih2
theorem GrpOk.same {l l':List (Int × Int)} {ms:List (Nat × Nat)} (h:GrpOk l ms) (hs:∀ x y,Root l x y → Root l' x y):GrpOk l' ms:=by
 refine ⟨fun x => ?_,fun x y r s h1 h2 => ?_⟩
 ·obtain ⟨r,hr⟩:=h.tot x; exact ⟨r,hs _ _ hr⟩
 ·obtain ⟨r',hr'⟩:=h.tot x
  obtain ⟨s',hs'⟩:=h.tot y
  have e1:=h1.det (hs _ _ hr')
  have e2:=h2.det (hs _ _ hs')
  subst e1 e2
  exact h.con _ _ _ _ hr' hs'
theorem GrpOk.join {l:List (Int × Int)} {ms:List (Nat × Nat)} (h:GrpOk l ms) (m:Nat × Nat) {a b:Int} (ha:Root l m.1 a) (hb:Root l (-1 - m.2) b):GrpOk (mput l a b) (ms ++ [m]):=by
 have hj:∀ {x y},Root l x y → Root (mput l a b) x (if y = a then b else y):=fun hx => Root.join ha.self hb.self hx
 have hmono:∀ {x y},Conn ms x y → Conn (ms ++ [m]) x y:=fun hc => hc.mono fun _ hm => List.mem_append_left _ hm
 have hedge:Conn (ms ++ [m]) m.1 (-1 - m.2):=.edge (by simp)
 refine ⟨fun x => ?_,fun x y r s h1 h2 => ?_⟩
 ·obtain ⟨r,hr⟩:=h.tot x; exact ⟨_,hj hr⟩
 obtain ⟨r',hr'⟩:=h.tot x
 obtain ⟨s',hs'⟩:=h.tot y
 have e1:=h1.det (hj hr')
 have e2:=h2.det (hj hs')
 subst e1 e2
 have c1:=h.con _ _ _ _ hr' hs'
 have cxa:=h.con _ _ _ _ hr' ha
 have cya:=h.con _ _ _ _ hs' ha
 have cxb:=h.con _ _ _ _ hr' hb
 have cyb:=h.con _ _ _ _ hs' hb
 constructor
 ·intro he
  by_cases hra:r' = a <;> by_cases hsa:s' = a
  ·exact hmono (c1.1 (by rw [hra,hsa]))
  ·rw [if_pos hra,if_neg hsa] at he
   exact (hmono (cxa.1 hra)).trans (hedge.trans (hmono (cyb.1 he.symm)).symm)
  ·rw [if_neg hra,if_pos hsa] at he
   exact (hmono (cxb.1 he)).trans (hedge.symm.trans (hmono (cya.1 hsa)).symm)
  ·rw [if_neg hra,if_neg hsa] at he
   exact hmono (c1.1 he)
 ·intro hc
  rcases hc.snoc with hc | ⟨k1,k2⟩ | ⟨k1,k2⟩
  ·rw [c1.2 hc]
  ·rw [if_pos (cxa.2 k1),cyb.2 k2]; split <;> rfl
  ·rw [if_pos (cya.2 k2),cxb.2 k1]; split <;> rfl
end Go.Proofs.YtlmfdmlochpfcaaDoor

namespace Go.Proofs.YtlmfdmlochpfcaaDoor
open Go Go.V
attribute [local go_sem] Nat.reduceEqDiff Nat.reduceAdd Nat.reduceMul reduceIte Nat.reduceLeDiff Nat.reduceLT Nat.reduceBEq reduceCtorEq
open Classical in
noncomputable def circK (ms:List (Nat × Nat)):Nat → List (Nat × Nat)
 | 0 => []
 | k + 1 => circK ms k ++ (match ms[k]? with | some m => if Conn (ms.take k) m.1 (-1 - m.2) then [m] else [] | none => [])
noncomputable def circ (ms:List (Nat × Nat)):List (Nat × Nat):=circK ms ms.length
open Classical in
theorem circK_snoc {ms:List (Nat × Nat)} {k:Nat} {m:Nat × Nat} (h:ms[k]? = some m):circK ms (k + 1) = circK ms k ++ (if Conn (ms.take k) m.1 (-1 - m.2) then [m] else []):=by
 simp only [circK,h]
theorem circK_len (ms:List (Nat × Nat)):∀ k,(circK ms k).length ≤ k
 | 0 => by simp [circK]
 | k + 1 => by
  have:=circK_len ms k
  simp only [circK,List.length_append]
  split
  ·split <;> simp <;> omega
  ·simp; omega
theorem ofR_ok {l:List (Int × Int)} {ms:List (Nat × Nat)} (h:GrpOk l ms) (n:Int):∃ (l':List (Int × Int)) (r:Int),Root l n r ∧ GrpOk l' ms ∧ (∀ x y,Root l x y → Root l' x y) ∧ FSpecL Tryd.prog 87 [.gr 1000,iv n] [.mp .i64 .i64 l] [] (fun v o => v = iv r ∧ o = [.mp .i64 .i64 l']):=by
 obtain ⟨r,hr⟩:=h.tot n
 obtain ⟨k,hk⟩:=hr.dep
 obtain ⟨h1,h2⟩:=ofR_root k l n hk
 exact ⟨(ofR k l n).1,(ofR k l n).2,h1,h.same h2,h2,of87 k l n hk⟩
set_option maxRecDepth 20000 in
set_option maxHeartbeats 8000000 in
theorem circles65 (ms:List (Nat × Nat)) (hl:ms.length ≤ 2000) (hc:∀ m ∈ ms,m.2 ≤ 1000):FSpec Tryd.prog 65 [.c (marksV ms)] (.c (marksV (circ ms))):=by
 have hmax:maxLen = 9223372036854775807:=rfl
 refine FSpec_of c65 (Nat.le_refl _) (by decide) fun C hP hN hC hL => ?_; rw [init_st]
 simp only [ir65]
 refine WV_seq_ ?_
 (refine WV_op ?_; simp only [go_sem,hP]; (repeat refine qJ ?_))
 refine WV_seq_ ?_
 (refine WV_op ?_; simp only [go_sem,hP]; (repeat refine qJ ?_))
 refine WV_seq_ ?_
 (refine WV_op ?_; simp only [go_sem,hP]; (repeat refine qJ ?_))
 refine WV_nilslot 4 31 31 2 (by decide) (by decide) rfl rfl ?_
 (repeat ((first | refine Va ?_ | refine Vb ?_ | refine Vc ?_ | refine Vd ?_ | refine Ve ?_ | refine Vf ?_); (try simp only [go_sem,hP,marksV,List.length_map]); (repeat refine qJ ?_)))
 refine WV_loopS (fun i:Nat × List (Int × Int) => ⟨upd (upd (upd (upd (upd e0 3 (.gr 9)) 10 (.c (marksV ms))) 11 (iv ms.length)) 12 (iv i.1)) 4 (.gr 31),upd (upd o0 9 (.mp .i64 .i64 i.2)) 31 (.grow 31 2 ((circK ms i.1).map pcd))⟩) (fun i => i.1 ≤ ms.length ∧ GrpOk i.2 (ms.take i.1)) (fun i => ms.length - i.1) (0,[]) ⟨Nat.zero_le _,GrpOk.nil⟩ ?_ ?_
 ·(refine Sub_of (by simp only [go_sem]; ((repeat' (first | exact EnvLe_e0 _ _ | refine EnvLe_upd ?_ ?_)) <;> ((try simp only [upd_app,e0_app,o0_app,Nat.reduceEqDiff,reduceIte]); first | exact AWk.refl _ _ | exact AWk.int (by omega) | exact AWk.int (by rw [w64 (by omega) (by omega)]; omega) | exact AWk.grow rfl | exact AWk.nil _ | exact AWk.of (by simp [marksV,circK])))) (by simp only [go_sem]; exact ObjLe_au))
 ·rintro ⟨k,l⟩ ⟨hk,hg⟩
  simp only at hk hg
  (repeat ((first | refine Va ?_ | refine Vb ?_ | refine Vc ?_ | refine Vd ?_ | refine Ve ?_ | refine Vf ?_); (try simp only [go_sem,hP]); (repeat refine qJ ?_)))
  (refine WV_cond rfl (fun h => ?_) (fun h => ?_))
  ·have hk2:k < ms.length:=by simpa using h
   have hw2:=w64 (n:=(k:Int) + 1) (by omega) (by omega)
   have hcm:=hc _ (List.getElem_mem hk2)
   have hlen:=circK_len ms k
   have h1:=pcd_two (circK ms k)
   have hsn:=circK_snoc (List.getElem?_eq_getElem hk2)
   have hts:=List.take_succ_eq_append_getElem hk2
   have hgd:(List.map pcd ms).getD k [] = pcd ms[k]:=by rw [List.getD_eq_getElem?_getD,List.getElem?_map,List.getElem?_eq_getElem hk2]; rfl
   generalize ms[k] = m at hcm hsn hts hgd
   have hw3:=w64 (n:=-1 - (m.2:Int)) (by omega) (by omega)
   obtain ⟨l1,a,ra,g1,s1,f1⟩:=ofR_ok hg (m.1:Int)
   obtain ⟨l2,b,rb,g2,s2,f2⟩:=ofR_ok g1 (-1 - m.2:Int)
   have hcn:a = b ↔ Conn (ms.take k) m.1 (-1 - m.2):=g1.con _ _ _ _ (s1 _ _ ra) rb
   have hjn:=g2.join m (s2 _ _ (s1 _ _ ra)) (s2 _ _ rb)
   rw [← hts] at hjn
   (refine WV_skip ?_; simp only [go_sem])
   refine WV_seq_ (WV_block (WV_seq_ ?_))
   (refine WV_op ?_; simp only [go_sem,hP,marksV,hgd,List.length_map,Int.toNat_natCast,Int.ofNat_lt,hk2,Int.natCast_nonneg,pcd]; (repeat refine qJ ?_))
   refine WV_seq_ ?_
   (refine WV_drw ?_; simp only [go_sem,hP,hw3]; (repeat' (refine And.intro ?_ ?_)))
   all_goals
    (refine AS_lend [9] (f1) rfl rfl rfl (by decide) rfl (by simp only [go_sem,obsLend,Ob.lend,AV.lend,AV.lendL]) ?_)
    rintro r l' ⟨rfl,rfl⟩
    (refine ⟨_,_,rfl,(by simp only [obsBack,Ob.back,AV.back,AV.backL,hw3]; rfl),?_⟩; simp only [go_sem,hP,ownBack,hw3])
    (repeat refine qJ ?_)
    (refine AS_lend [9] (f2) rfl rfl rfl (by decide) rfl (by simp only [go_sem,obsLend,Ob.lend,AV.lend,AV.lendL]) ?_)
    rintro r l' ⟨rfl,rfl⟩
    (refine ⟨_,_,rfl,(by simp only [obsBack,Ob.back,AV.back,AV.backL,hw3]; rfl),?_⟩; simp only [go_sem,hP,ownBack,hw3])
    (repeat refine qJ ?_)
    (repeat ((first | refine Va ?_ | refine Vb ?_ | refine Vc ?_ | refine Vd ?_ | refine Ve ?_ | refine Vf ?_); (try simp only [go_sem,hP]); (repeat refine qJ ?_)))
    by_cases hab:a = b
    ·rw [if_pos (hcn.1 hab)] at hsn
     have hsn3:(circK ms (k + 1)).map pcd = (circK ms k).map pcd ++ [[.int .i64 m.1,.int .i64 m.2]]:=by rw [hsn,List.map_append]; rfl
     subst hab
     (refine WV_cond rfl (fun h => ?_) (fun h => ?_))
     ·(repeat ((first | refine Va ?_ | refine Vb ?_ | refine Vc ?_ | refine Vd ?_ | refine Ve ?_ | refine Vf ?_); (try simp only [go_sem,hP,h1,List.length_map,hw2]); (repeat refine qJ ?_)))
      refine ⟨(k + 1,mput l2 a a),⟨by omega,hjn⟩,by omega,?_⟩
      rw [hsn3]
      (refine Sub_of (by simp only [go_sem]; ((repeat' (first | exact EnvLe_e0 _ _ | refine EnvLe_upd ?_ ?_)) <;> ((try simp only [upd_app,e0_app,o0_app,Nat.reduceEqDiff,reduceIte]); first | exact AWk.refl _ _ | exact AWk.int (by omega) | exact AWk.int (by rw [w64 (by omega) (by omega)]; omega) | exact AWk.grow rfl | exact AWk.nil _ | exact AWk.of (by simp [marksV])))) (by simp only [go_sem]; exact ObjLe_au))
     ·simp at h
    ·rw [if_neg (fun hc => hab (hcn.2 hc)),List.append_nil] at hsn
     (refine WV_cond rfl (fun h => ?_) (fun h => ?_))
     ·simp at h; exact (hab h).elim
     ·(repeat ((first | refine Va ?_ | refine Vb ?_ | refine Vc ?_ | refine Vd ?_ | refine Ve ?_ | refine Vf ?_); (try simp only [go_sem,hP,hw2]); (repeat refine qJ ?_)))
      refine ⟨(k + 1,mput l2 a b),⟨by omega,hjn⟩,by omega,?_⟩
      rw [hsn]
      (refine Sub_of (by simp only [go_sem]; ((repeat' (first | exact EnvLe_e0 _ _ | refine EnvLe_upd ?_ ?_)) <;> ((try simp only [upd_app,e0_app,o0_app,Nat.reduceEqDiff,reduceIte]); first | exact AWk.refl _ _ | exact AWk.int (by omega) | exact AWk.int (by rw [w64 (by omega) (by omega)]; omega) | exact AWk.grow rfl | exact AWk.nil _ | exact AWk.of (by simp [marksV])))) (by simp only [go_sem]; exact ObjLe_au))
  ·have h:k = ms.length:=by simp at h; omega
   subst h
   (repeat ((first | refine Va ?_ | refine Vb ?_ | refine Vc ?_ | refine Vd ?_ | refine Ve ?_ | refine Vf ?_); (try simp only [go_sem,hP]); (repeat refine qJ ?_)))
   (refine WV_ret ?_; simp only [thenQ,inQ,RetQ,RetOk,resAll,resA]; simp only [go_sem,tupA,AV.port,AV.portL,exists_eq_left']; (first | exact AVle.of rfl | refine AVle.of ?_ | skip))
end Go.Proofs.YtlmfdmlochpfcaaDoor

namespace Go.Proofs.YtlmfdmlochpfcaaDoor
open Go Go.V
attribute [local go_sem] Nat.reduceEqDiff Nat.reduceAdd Nat.reduceMul reduceIte Nat.reduceLeDiff Nat.reduceLT Nat.reduceBEq reduceCtorEq
theorem lostK_mem {g:List (List Int)} {i k:Nat} {m:Nat × Nat} (h:m ∈ lostK g i k):m.1 = i ∧ m.2 < k ∧ valAt g m = -1:=by
 unfold lostK lostL at h
 simp only [List.mem_filter,List.mem_map,List.mem_range,beq_iff_eq] at h
 obtain ⟨⟨a,ha,rfl⟩,hv⟩:=h
 exact ⟨rfl,ha,hv⟩
theorem lostI_mem {g:List (List Int)} {w n:Nat} {m:Nat × Nat} (h:m ∈ lostI g w n):m.1 < n ∧ m.2 < w ∧ valAt g m = -1:=by
 unfold lostI at h
 simp only [List.mem_flatMap,List.mem_range] at h
 obtain ⟨i,hi,hm⟩:=h
 obtain ⟨rfl,h2,h3⟩:=lostK_mem hm
 exact ⟨hi,h2,h3⟩
theorem leftG_ok (s:List UInt8):(leftG s).1.length ≤ 2000 ∧ ∀ m ∈ (leftG s).1,m.2 ≤ 1000:=by
 unfold leftG
 cases hp:parseP s with
 | none => exact ⟨by simp,fun m hm => by simp at hm⟩
 | some rows =>
  have hok:=parse_ok hp
  show (lostI (sheetG rows) (rows.headD []).length rows.length).length ≤ 2000 ∧ ∀ m ∈ lostI (sheetG rows) (rows.headD []).length rows.length,m.2 ≤ 1000
  generalize (rows.headD []).length = w at hok
  have h1:=hok.len
  have h2:=hok.w32
  have q1:=lostI_len (sheetG rows) w rows.length
  have q3:rows.length * w ≤ 41 * 32:=Nat.mul_le_mul h1 h2
  refine ⟨by omega,fun m hm => ?_⟩
  have:=(lostI_mem hm).2.1
  omega
abbrev o31_0:List Ins:=[⟨some 2,.mv (.k (.c (.int .i64 0))),none,true⟩,
 ⟨some 3,.mv (.k (.c (.int .i64 0))),none,true⟩]
abbrev o31_1:List Ins:=[⟨some 7,.mv (.t 0),none,true⟩,
 ⟨some 8,.call (.k (.fn 64 [])) [(.t 7)],none,true⟩,
 ⟨some 6,.mv (.t 8),none,true⟩,
 ⟨some 9,.ext (.t 6) 0,none,true⟩,
 ⟨some 10,.ext (.t 6) 1,none,true⟩,
 ⟨some 4,.mv (.t 9),none,true⟩,
 ⟨some 5,.mv (.t 10),none,true⟩]
abbrev o31_2:List Ins:=[⟨some 11,.mv (.t 4),none,true⟩,
 ⟨some 12,.call (.k (.fn 65 [])) [(.t 11)],none,true⟩,
 ⟨some 13,.len (.t 12),none,true⟩,
 ⟨some 14,.mv (.t 5),none,true⟩,
 ⟨some 2,.mv (.t 13),none,true⟩,
 ⟨some 3,.mv (.t 14),none,true⟩]
abbrev v31_3:VC:=(.seq (.ops o31_2) .ret)
abbrev v31_4:VC:=(.seq (.ops o31_1) v31_3)
def ir31:FC:=⟨1,15,[.t 2,.t 3],(.seq (.ops o31_0) v31_4)⟩
theorem c31:compM Tryd.prog [] 31 = some ir31:=by kernel_rfl
theorem fewest31 (s:List UInt8) (hs:s.length ≤ 100000):FSpec Tryd.prog 31 [sv s] (.tup [iv (circ (leftG s).1).length,iv (leftG s).2]):=by
 have hc:=circles65 _ (leftG_ok s).1 (leftG_ok s).2
 have hl:=left64 s hs
 have h1:=(leftG_ok s).1
 have h2:=circK_len (leftG s).1 (leftG s).1.length
 have hmax:maxLen = 9223372036854775807:=rfl
 refine FSpec_ofP c31 (Nat.le_refl _) (by decide) fun C hP hN hC hpin hL => ?_; rw [init_st]
 simp only [ir31]
 (repeat ((first | refine Va ?_ | refine Vb ?_ | refine Vc ?_ | refine Vd ?_ | refine Ve ?_ | refine Vf ?_); (try simp only [go_sem,hP]); (repeat refine qJ ?_)))
 (refine AS_pu (hl) ?_; simp only [go_sem,hP]; (repeat refine qJ ?_); (repeat ((first | refine Va ?_ | refine Vb ?_ | refine Vc ?_ | refine Vd ?_ | refine Ve ?_ | refine Vf ?_); (try simp only [go_sem,hP]); (repeat refine qJ ?_))))
 (refine AS_pu (hc) ?_; simp only [go_sem,hP]; (repeat refine qJ ?_); (repeat ((first | refine Va ?_ | refine Vb ?_ | refine Vc ?_ | refine Vd ?_ | refine Ve ?_ | refine Vf ?_); (try simp only [go_sem,hP]); (repeat refine qJ ?_))))
 (repeat ((first | refine Va ?_ | refine Vb ?_ | refine Vc ?_ | refine Vd ?_ | refine Ve ?_ | refine Vf ?_); (try simp only [go_sem,hP,marksV,List.length_map]); (repeat refine qJ ?_)))
 (refine WV_ret ?_; simp only [thenQ,inQ,RetQ,RetOk,resAll,resA]; simp only [go_sem,tupA,AV.port,AV.portL,exists_eq_left'])
 exact AVle.refl _
end Go.Proofs.YtlmfdmlochpfcaaDoor

namespace Go.Proofs.YtlmfdmlochpfcaaDoor
open Go Go.V
attribute [local go_sem] Nat.reduceEqDiff Nat.reduceAdd Nat.reduceMul reduceIte Nat.reduceLeDiff Nat.reduceLT Nat.reduceBEq reduceCtorEq
end Go.Proofs.YtlmfdmlochpfcaaDoor

namespace Go.Proofs.YtlmfdmlochpfcaaDoor
open Go Go.V Go.Shelf Go.RowKit
theorem bInfo98:(Tryd.prog.info? 98).map (·.size) = some 2:=by kernel_rfl
theorem bLies98:liesAt Tryd.prog Tryd.prog.depth 98 (2 / Tryd.prog.cellsOf 98) 0 98 1 = true:=by kernel_rfl
theorem bInfo5:(Tryd.prog.info? 5).map (fun i => (i.zero,i.size,i.bytes)) = some (some (.int .u8 0),1,1):=by kernel_rfl
theorem bT96:Tryd.prog.underlying 96 = some (.pointer 98):=by kernel_rfl
theorem bT139:Tryd.prog.underlying 139 = some .unsafePointer:=by kernel_rfl
theorem bT68:Tryd.prog.underlying 68 = some (.slice 5):=by kernel_rfl
theorem bT9:Tryd.prog.underlying 9 = some .string:=by kernel_rfl
set_option maxHeartbeats 1000000 in
set_option maxRecDepth 100000 in
theorem copyCheck_used (b:Nat) (w:World) (h0:w.cell? ⟨b,0,none⟩ = some (.pointer (some ⟨b,0,none⟩))) :
  Calls Tryd.prog 90 #[.pointer (some ⟨b,0,none⟩)] w fun e w' => e = .returned (.tuple #[]) ∧ w' = w:=by
 obtain ⟨j,hj,_⟩:=Option.map_eq_some_iff.1 bInfo98
 go_enter Tryd.func90,Tryd.ntmps90
 go_wp2
 rw [Lib.run_neq_ptr_same w _ bT96 hj]
 go_wp2
 go_end0
 exact ⟨rfl,rfl⟩
set_option maxHeartbeats 1000000 in
set_option maxRecDepth 100000 in
theorem copyCheck_fresh (b:Nat) (w:World) (h0:w.cell? ⟨b,0,none⟩ = some (.pointer none)) (hsh:w.shape? b = some (98,2)) (hfz:w.frozen? ⟨b,0,none⟩ = false) :
  Calls Tryd.prog 90 #[.pointer (some ⟨b,0,none⟩)] w fun e w' => e = .returned (.tuple #[]) ∧ w' = w.setCell ⟨b,0,none⟩ (.pointer (some ⟨b,0,none⟩)):=by
 obtain ⟨j,hj,hjs⟩:=Option.map_eq_some_iff.1 bInfo98
 go_enter Tryd.func90,Tryd.ntmps90
 go_wp2
 rw [Lib.run_to_unsafe w ⟨b,0,none⟩ bT96 bT139 hj (by rw [hjs]; decide) hsh (Nat.zero_lt_succ 1)]
 simp only [Result.andThen]
 rw [Oper.upon_value]
 go_wp2
 rw [run_callFunc_extern Tryd.func100 (by kernel_rfl) (by kernel_rfl) (by kernel_rfl) (e:=Extern.AbiNoEscape.same) (by kernel_rfl)]
 rw [Lib.run_noEscape]
 simp only [Result.andThen]
 rw [Oper.upon_value]
 go_wp2
 rw [Lib.run_from_unsafe w ⟨b,0,none⟩ bT139 bT96 hj hsh bLies98]
 simp only [Result.andThen]
 rw [Oper.upon_value]
 go_wp2
 go_end0
 exact ⟨rfl,rfl⟩
theorem copyCheck90 (B b:Nat) (bs:List Value) (w:World) (h:Lib.IsBuilder 98 5 B b bs w) :
  Calls Tryd.prog 90 #[.pointer (some ⟨b,0,none⟩)] w fun e w' => e = .returned (.tuple #[]) ∧ (Lib.BuilderAt 98 5 B b (.pointer (some ⟨b,0,none⟩)) bs w' ∧ Below B w w'):=by
 rcases h with h | h
 ·refine (copyCheck_fresh b w h.cell0 h.shape h.frozen0).mono ?_
  rintro e w' ⟨rfl,rfl⟩
  exact ⟨rfl,h.used _,(Below.refl B w).setCell (p:=⟨b,0,none⟩) h.1 _⟩
 ·refine (copyCheck_used b w h.cell0).mono ?_
  rintro e w' ⟨rfl,rfl⟩
  exact ⟨rfl,h,Below.refl B _⟩
set_option maxHeartbeats 2000000 in
set_option maxRecDepth 100000 in
theorem writeS71 (B b:Nat) (bs:List Value) (s:ByteArray) (w:World) (h:Lib.IsBuilder 98 5 B b bs w) (hlen:bs.length + s.size ≤ 140737488355328) (hBw:B ≤ w.heap.size) :
  Calls Tryd.prog 71 #[.pointer (some ⟨b,0,none⟩),.string s] w fun e w' => e = .returned (.tuple #[.int .i64 s.size,.nilIface]) ∧ (Lib.BuilderAt 98 5 B b (.pointer (some ⟨b,0,none⟩)) (bs ++ Lib.strCells s) w' ∧ Below B w w'):=by
 obtain ⟨i0,hi,hz0,hz1,hz2⟩:=info_parts bInfo5
 go_enter Tryd.func71,Tryd.ntmps71
 go_wp2_with (go_at_call 90; refine (copyCheck90 B b bs _ h).mono ?_)
 rintro e w1 ⟨rfl,h1,hb1⟩
 obtain ⟨hB,v,hbk,hown,hne⟩:=h1
 have c0:w1.cell? ⟨b,0,none⟩ = some (.pointer (some ⟨b,0,none⟩)):=by rw [Lib.cell_of_heap hbk]; rfl
 have c1:w1.cell? ⟨b,1,none⟩ = some v:=by rw [Lib.cell_of_heap hbk]; rfl
 go_wp2_with (at_builtin; refine Lib.wpList_append_own_string _ rfl _ _ 68 9 rfl B 5 i0 bT68 bT9 hi hz0 hz1 hz2 _ _ _ rfl hown s rfl ?c3 ?c4 ?c5 ?_)
 case c3 => unfold maxLen; omega
 case c4 => omega
 case c5 => have:=hb1.size; omega
 intro v' w2 hown' hgrow _
 have hlt:b < w1.heap.size:=by
  rcases Nat.lt_or_ge b w1.heap.size with h' | h'
  ·exact h'
  ·simp [Array.getElem?_eq_none h'] at hbk
 have hb2:w2.heap[b]? = some (.cells #[.pointer (some ⟨b,0,none⟩),v] 98 (0,0)):=by
  rw [hgrow.block b hlt (fun e => hne e.symm)]
  exact hbk
 have d0:w2.cell? ⟨b,0,none⟩ = some (.pointer (some ⟨b,0,none⟩)):=by rw [Lib.cell_of_heap hb2]; rfl
 have d1:w2.cell? ⟨b,1,none⟩ = some v:=by rw [Lib.cell_of_heap hb2]; rfl
 have f1:w2.frozen? ⟨b,1,none⟩ = false:=Lib.frozen_of_heap hb2 1
 obtain ⟨ao,n',cap,rfl⟩ : ∃ ao n' cap,v' = .slice ao n' cap:=by
  rcases hown'.2 with ⟨hv,_⟩ | ⟨g,cap,cur,hv,_⟩
  ·exact ⟨_,_,_,hv⟩
  ·exact ⟨_,_,_,hv⟩
 go_wp2
 go_ret2
 refine ⟨rfl,?_,?_⟩
 ·exact Lib.BuilderAt.put (T:=98) (e:=5) hB hb2 (bs':=bs ++ Lib.strCells s) (by simpa [Lib.strCells_length] using hown') (by decide)
 ·exact (hb1.grown hgrow (by have:=hb1.size; omega) (fun k hk => (hown.lt k hk).1)).setCell (p:=⟨b,1,none⟩) hB _
end Go.Proofs.YtlmfdmlochpfcaaDoor

namespace Go.Proofs.YtlmfdmlochpfcaaDoor
open Go Go.V Go.Shelf Go.RowKit
set_option maxHeartbeats 2000000 in
set_option maxRecDepth 100000 in
theorem write70 (B b:Nat) (bs:List Value) (ad:Addr) (m c:Nat) (news:List Value) (w:World) (h:Lib.IsBuilder 98 5 B b bs w)
  (hl:news.length = m) (hnews:∀ j u,news[j]? = some u → w.cell? (ad.add j) = some u) (hadB:ad.block < B) (h1:∀ u ∈ news,u.oneCell' = true)
  (hlen:bs.length + m ≤ 140737488355328) (hBw:B ≤ w.heap.size) :
  Calls Tryd.prog 70 #[.pointer (some ⟨b,0,none⟩),.slice (some ad) m c] w fun e w' => e = .returned (.tuple #[.int .i64 m,.nilIface]) ∧ (Lib.BuilderAt 98 5 B b (.pointer (some ⟨b,0,none⟩)) (bs ++ news) w' ∧ Below B w w'):=by
 obtain ⟨i0,hi,hz0,hz1,hz2⟩:=info_parts bInfo5
 go_enter Tryd.func70,Tryd.ntmps70
 go_wp2_with (go_at_call 90; refine (copyCheck90 B b bs _ h).mono ?_)
 rintro e w1 ⟨rfl,h1',hb1⟩
 obtain ⟨hB,v,hbk,hown,hne⟩:=h1'
 have c0:w1.cell? ⟨b,0,none⟩ = some (.pointer (some ⟨b,0,none⟩)):=by rw [Lib.cell_of_heap hbk]; rfl
 have c1:w1.cell? ⟨b,1,none⟩ = some v:=by rw [Lib.cell_of_heap hbk]; rfl
 have hnews1:∀ j u,news[j]? = some u → w1.cell? (ad.add j) = some u:=fun j u hj => by rw [hb1.cell (p:=ad.add j) (by unfold Addr.add; split <;> exact hadB)]; exact hnews j u hj
 go_wp2_with (at_builtin; refine wpList_append_own _ rfl _ _ 68 rfl B 5 i0 (.int .u8 0) 1 1 bT68 hi hz0 hz1 hz2 rfl (by decide) _ _ _ rfl hown ad m c news rfl (by omega) hnews1 h1 ?c3 ?c4 ?c5 ?_)
 case c3 => unfold maxLen; omega
 case c4 => omega
 case c5 => have:=hb1.size; omega
 intro v' w2 hown' hgrow _
 have hlt:b < w1.heap.size:=by
  rcases Nat.lt_or_ge b w1.heap.size with h' | h'
  ·exact h'
  ·simp [Array.getElem?_eq_none h'] at hbk
 have hb2:w2.heap[b]? = some (.cells #[.pointer (some ⟨b,0,none⟩),v] 98 (0,0)):=by
  rw [hgrow.block b hlt (fun e => hne e.symm)]
  exact hbk
 have d0:w2.cell? ⟨b,0,none⟩ = some (.pointer (some ⟨b,0,none⟩)):=by rw [Lib.cell_of_heap hb2]; rfl
 have d1:w2.cell? ⟨b,1,none⟩ = some v:=by rw [Lib.cell_of_heap hb2]; rfl
 have f1:w2.frozen? ⟨b,1,none⟩ = false:=Lib.frozen_of_heap hb2 1
 obtain ⟨ao,n',cap,rfl⟩ : ∃ ao n' cap,v' = .slice ao n' cap:=by
  rcases hown'.2 with ⟨hv,_⟩ | ⟨g,cap,cur,hv,_⟩
  ·exact ⟨_,_,_,hv⟩
  ·exact ⟨_,_,_,hv⟩
 go_wp2
 go_ret2
 refine ⟨rfl,?_,?_⟩
 ·exact Lib.BuilderAt.put (T:=98) (e:=5) hB hb2 (bs':=bs ++ news) (by simpa [hl] using hown') (by decide)
 ·exact (hb1.grown hgrow (by have:=hb1.size; omega) (fun k hk => (hown.lt k hk).1)).setCell (p:=⟨b,1,none⟩) hB _
def bRen:Ren:=⟨fun x => match x with | 169 => 72 | n => n,fun x => match x with | 70 => 96 | 72 => 98 | 37 => 68 | 127 => 75 | n => n,fun x => x⟩
theorem bLays:Lays.n169 Tryd.prog bRen:=by
 constructor <;> first | kernel_rfl | (intro w; kernel_rfl)
theorem bExtra:Builder.Extra Tryd.prog bRen where
 sizeBuilder:=by kernel_rfl
 liesBuilder:=by kernel_rfl
 t5:=by kernel_rfl
 a5:=by intro w; kernel_rfl
 z5:=by intro w; kernel_rfl
 v5:=by intro w; kernel_rfl
 infoByte:=by kernel_rfl
 cellsByte:=by kernel_rfl
 sizeByte:=by kernel_rfl
 neB5:=by decide
theorem string72 (B b:Nat) (l:List UInt8) (w:World) (h:Lib.IsBuilder 98 5 B b (Lib.byteCells l) w) (hBw:B ≤ w.heap.size) :
  Calls Tryd.prog 72 #[.pointer (some ⟨b,0,none⟩)] w fun e w' => e = .returned (.string ⟨l.toArray⟩) ∧ Below B w w':=Any.Builder_String_any bLays bExtra B b l w h hBw
end Go.Proofs.YtlmfdmlochpfcaaDoor

namespace Go.Proofs.YtlmfdmlochpfcaaDoor
open Go Go.V Go.Shelf Go.RowKit
abbrev o45_0:List Ins:=[⟨some 2,.mv (.k (.c (.str []))),none,true⟩]
abbrev o45_1:List Ins:=[⟨some 3,.alloc [(.c (.raw (.pointer none))),(.c (.raw (.slice none 0 0)))],none,true⟩]
abbrev o45_2:List Ins:=[⟨some 6,.mv (.t 0),none,true⟩,
 ⟨some 7,.len (.t 6),none,true⟩,
 ⟨some 8,.mv (.k (.c (.int .i64 0))),none,true⟩]
abbrev o45_3:List Ins:=[⟨some 9,.bin .lss (.t 8) (.t 7),none,true⟩]
abbrev o45_4:List Ins:=[⟨some 10,.ia 1 (.t 6) (.t 8),none,true⟩,
 ⟨some 11,.ld true 1 (.t 10),none,true⟩,
 ⟨some 5,.mv (.t 11),none,true⟩]
abbrev o45_5:List Ins:=[⟨some 12,.mv (.t 5),none,true⟩,
 ⟨some 13,.call (.k (.fn 70 [])) [(.t 3),(.t 12)],none,true⟩]
abbrev o45_6:List Ins:=[⟨some 14,.call (.k (.fn 71 [])) [(.t 3),(.k (.c (.str [10])))],none,true⟩]
abbrev v45_7:VC:=(.seq (.ops o45_5) (.ops o45_6))
abbrev v45_8:VC:=(.seq (.ops o45_4) v45_7)
abbrev o45_9:List Ins:=[⟨some 15,.bin .add (.t 8) (.k (.c (.int .i64 1))),none,true⟩,
 ⟨some 8,.mv (.t 15),none,true⟩]
abbrev v45_10:VC:=(.seq (.block 1 v45_8) (.ops o45_9))
abbrev v45_11:VC:=(.seq (.cond (.t 9) .skip (.exit 0)) v45_10)
abbrev v45_12:VC:=(.seq (.ops o45_3) v45_11)
-- K45_1: changed and kept: [8]
abbrev v45_13:VC:=(.loop v45_12)
abbrev v45_14:VC:=(.block 0 v45_13)
abbrev o45_15:List Ins:=[⟨some 16,.call (.k (.fn 72 [])) [(.t 3)],none,true⟩,
 ⟨some 2,.mv (.t 16),none,true⟩]
abbrev v45_16:VC:=(.seq (.ops o45_15) .ret)
abbrev v45_17:VC:=(.seq (.seq (.ops o45_2) v45_14) v45_16)
abbrev v45_18:VC:=(.seq (.ops o45_1) v45_17)
def ir45:FC:=⟨1,17,[.t 2],(.seq (.ops o45_0) v45_18)⟩
theorem c45:compM Tryd.prog [] 45 = some ir45:=by kernel_rfl
def textG (rows:List (List UInt8)):List UInt8:=rows.flatMap fun l => l ++ [10]
theorem textG_snoc {rows:List (List UInt8)} {k:Nat} (h:k < rows.length):textG (rows.take (k + 1)) = textG (rows.take k) ++ (rows[k] ++ [10]):=by
 unfold textG
 rw [List.take_succ_eq_append_getElem h,List.flatMap_append]; simp
theorem textG_len {rows:List (List UInt8)} (m:Nat) (h:∀ l ∈ rows,l.length ≤ m):∀ k,(textG (rows.take k)).length ≤ k * (m + 1)
 | 0 => by simp [textG]
 | k + 1 => by
  have ih:=textG_len m h k
  by_cases hk:k < rows.length
  ·rw [textG_snoc hk,List.length_append,List.length_append]
   have:=h _ (List.getElem_mem hk)
   rw [Nat.add_mul]; simp; omega
  ·rw [List.take_of_length_le (by omega)] at ih ⊢
   rw [Nat.add_mul]; omega
theorem cell_lt' {w:World} {a:Addr} {u:Value} (h:w.cell? a = some u):a.block < w.heap.size:=by
 rcases Nat.lt_or_ge a.block w.heap.size with h' | h'
 ·exact h'
 ·simp [World.cell?,Array.getElem?_eq_none h'] at h
theorem add_block (a:Addr) (n:Nat):(a.add n).block = a.block:=by unfold Addr.add; split <;> rfl
theorem bytes_cell {w:World} {M:Cells} {l:List UInt8} {ad:Addr} (h:RepE w M 1 (l.map bcd) ad):∀ j u,(Lib.byteCells l)[j]? = some u → w.cell? (ad.add j) = some u:=by
 intro j u hj
 simp only [Lib.byteCells,List.getElem?_map,Option.map_eq_some_iff] at hj
 obtain ⟨b,hb,rfl⟩:=hj
 have hjl:j < l.length:=(List.getElem?_eq_some_iff.1 hb).1
 have:=(RepE.get _ _ j h (by simpa using hjl)).2
 rw [List.getD_eq_getElem?_getD,List.getElem?_map,hb] at this
 simp only [Option.map_some,Option.getD_some,bcd,RepL,RepC,Nat.mul_one] at this
 obtain ⟨⟨u,h1,_,rfl⟩,_⟩:=this
 exact h1
theorem grid_cells {w:World} {M:Cells} {rows:List (List UInt8)} {v:Value} (h:RepC w M (gridD rows) v) (hne:∀ l ∈ rows,l ≠ []) (hr:rows ≠ []) :
  ∃ ad cap,v = .slice (some ad) rows.length cap ∧ rows.length ≤ cap ∧ cap ≤ maxLen ∧ ∀ k (hk:k < rows.length),∃ adk ck,w.cell? (ad.add k) = some (.slice (some adk) (rows[k]).length ck) ∧ adk.block < w.heap.size ∧ (∀ j u,(Lib.byteCells rows[k])[j]? = some u → w.cell? (adk.add j) = some u):=by
 simp only [gridD,rowsD,RepC] at h
 obtain ⟨A,cap,rfl,h1,h2,h3⟩:=h
 rcases h3 with h3 | ⟨ad,rfl,h3⟩
 ·simp at h3; exact (hr h3).elim
 rw [List.length_map] at h1
 refine ⟨ad,cap,by simp,h1,h2,fun k hk => ?_⟩
 have hrk:=(RepE.get _ _ k h3 (by simpa using hk)).2
 rw [List.getD_eq_getElem?_getD,List.getElem?_map,List.getElem?_eq_getElem hk] at hrk
 simp only [Option.map_some,Option.getD_some,RepL,RepC,Nat.mul_one] at hrk
 obtain ⟨⟨u,k1,_,A',ck,rfl,k2,k3,k4⟩,_⟩:=hrk
 have hnk:=hne _ (List.getElem_mem hk)
 rcases k4 with k4 | ⟨adk,rfl,k4⟩
 ·simp at k4; exact (hnk k4).elim
 have hb:=bytes_cell k4
 have h0:0 < (rows[k]).length:=List.length_pos_iff.2 hnk
 have hc0:=hb 0 (.int .u8 ((rows[k])[0]).toNat) (by simp [Lib.byteCells,h0])
 refine ⟨adk,ck,by simpa using k1,?_,hb⟩
 have:=cell_lt' hc0
 rwa [add_block] at this
theorem byteOne (l:List UInt8):∀ u ∈ Lib.byteCells l,u.oneCell' = true:=by
 intro v hv
 simp only [Lib.byteCells,List.mem_map] at hv
 obtain ⟨b,_,rfl⟩:=hv
 rfl
set_option maxHeartbeats 4000000 in
set_option maxRecDepth 1000000 in
theorem string_walk {w:World} {M:Cells} {rows:List (List UInt8)} {v:Value} (h:RepC w M (gridD rows) v) (hne:∀ l ∈ rows,l ≠ []) (hr:rows ≠ []) (hlen:rows.length ≤ 100000) (hlw:∀ l ∈ rows,l.length ≤ 100000) :
  Calls Tryd.prog 45 #[v] w fun e w' => e = .returned (.string ⟨(textG rows).toArray⟩) ∧ Below w.heap.size w w':=by
 obtain ⟨ad,cap,rfl,hc1,hc2,hc⟩:=grid_cells h hne hr
 have hmax:maxLen = 9223372036854775807:=rfl
 go_enter Tryd.func45,Tryd.ntmps45
 go_wp2
 go_loopw [8] (fun vi wr => ∃ k:Nat,vi = .int .i64 k ∧ k ≤ rows.length ∧ Lib.IsBuilder 98 5 w.heap.size w.heap.size (Lib.byteCells (textG (rows.take k))) wr ∧ Below w.heap.size w wr) (fun vi _ => rows.length - (intOf vi).toNat)
 case atStart =>
  exact ⟨0,rfl,Nat.zero_le _,Lib.fresh_isBuilder 98 5 w,(Below.refl _ w).alloc (Nat.le_refl _) _⟩
 case round =>
  obtain ⟨k,rfl,hk,hI,hbw⟩:=hrel
  by_cases hk2:k < rows.length
  ·obtain ⟨adk,ck,g1,g2,g3⟩:=hc k hk2
   have g1':wr.cell? (ad.add k) = some (.slice (some adk) (rows[k]).length ck):=by rw [hbw.cell (by rw [add_block]; have:=cell_lt' g1; rwa [add_block] at this)]; exact g1
   have g3':∀ j u,(Lib.byteCells rows[k])[j]? = some u → wr.cell? (adk.add j) = some u:=fun j u hj => by rw [hbw.cell (by rw [add_block]; exact g2)]; exact g3 j u hj
   have hl1:=textG_len 100000 hlw k
   have hl2:=hlw _ (List.getElem_mem hk2)
   have hl3:k * 100001 ≤ 100000 * 100001:=Nat.mul_le_mul (by omega) (Nat.le_refl _)
   go_wp2_with (go_at_call 70; refine (write70 w.heap.size w.heap.size _ adk (rows[k]).length ck (Lib.byteCells rows[k]) _ hI (Lib.byteCells_length _) g3' g2 (byteOne _) (by rw [Lib.byteCells_length]; omega) hbw.size).mono ?_)
   rintro e W1 ⟨rfl,h1,b1⟩
   go_wp2_with (go_at_call 71; refine (writeS71 w.heap.size w.heap.size _ _ _ (Or.inr h1) (by rw [List.length_append,Lib.byteCells_length,Lib.byteCells_length]; show _ + 1 ≤ _; omega) (Nat.le_trans hbw.size b1.size)).mono ?_)
   rintro e W2 ⟨rfl,h2,b2⟩
   go_wp2
   go_roundw
   case rel =>
    refine ⟨k + 1,by go_num,by omega,?_,(hbw.trans b1).trans b2⟩
    have e:Lib.byteCells (textG (rows.take (k + 1))) = Lib.byteCells (textG (rows.take k)) ++ Lib.byteCells rows[k] ++ Lib.byteCells [10]:=by
     rw [textG_snoc hk2,Lib.byteCells_append,Lib.byteCells_append,List.append_assoc]
    rw [e]
    exact Or.inr h2
   case measure => simp [intOf]; omega
  ·go_wp2_with (go_at_call 72; refine (string72 w.heap.size w.heap.size _ _ hI hbw.size).mono ?_)
   rintro e W1 ⟨rfl,b1⟩
   go_wp2
   go_ret
   have hk3:k = rows.length:=by omega
   subst hk3
   rw [List.take_length]
   exact ⟨rfl,hbw.trans b1⟩
theorem string45 {rows:List (List UInt8)} (hne:∀ l ∈ rows,l ≠ []) (hr:rows ≠ []) (hlen:rows.length ≤ 100000) (hlw:∀ l ∈ rows,l.length ≤ 100000):FSpec Tryd.prog 45 [.c (gridD rows)] (.c (.str (textG rows))):=by
 refine ⟨(body_call c45).1,fun w M vs hM hrep => ?_⟩
 simp only [RepAs,RepA] at hrep
 obtain ⟨v,vs',rfl,h1,rfl⟩:=hrep
 refine (string_walk h1 hne hr hlen hlw).mono ?_
 rintro e w' ⟨rfl,hb⟩
 exact ⟨_,rfl,by simp only [RepA,RepC],hb⟩
end Go.Proofs.YtlmfdmlochpfcaaDoor

namespace Go.Proofs.YtlmfdmlochpfcaaDoor
open Go Go.V
abbrev o18_0:List Ins:=[⟨some 2,.mv (.k (.c (.str []))),none,true⟩,
 ⟨some 3,.mv (.k (.c (.int .i64 0))),none,true⟩]
abbrev o18_1:List Ins:=[⟨some 7,.mv (.t 0),none,true⟩,
 ⟨some 8,.call (.k (.fn 44 [])) [(.t 7)],none,true⟩,
 ⟨some 6,.mv (.t 8),none,true⟩,
 ⟨some 9,.ext (.t 6) 0,none,true⟩,
 ⟨some 10,.ext (.t 6) 1,none,true⟩,
 ⟨some 4,.mv (.t 9),none,true⟩,
 ⟨some 5,.mv (.t 10),none,true⟩]
abbrev o18_2:List Ins:=[⟨some 11,.mv (.t 5),none,true⟩,
 ⟨some 12,.bin .neq (.t 11) (.k (.c (.int .i64 0))),none,true⟩]
abbrev o18_3:List Ins:=[⟨some 13,.mv (.t 5),none,true⟩,
 ⟨some 2,.mv (.k (.c (.str []))),none,true⟩,
 ⟨some 3,.mv (.t 13),none,true⟩]
abbrev v18_4:VC:=(.seq (.ops o18_3) .ret)
abbrev v18_5:VC:=(.cond (.t 12) v18_4 .skip)
abbrev o18_6:List Ins:=[⟨some 14,.mv (.t 4),none,true⟩,
 ⟨some 15,.call (.k (.fn 45 [])) [(.t 14)],none,true⟩,
 ⟨some 2,.mv (.t 15),none,true⟩,
 ⟨some 3,.mv (.k (.c (.int .i64 0))),none,true⟩]
abbrev v18_7:VC:=(.seq (.ops o18_6) .ret)
abbrev v18_8:VC:=(.seq (.seq (.ops o18_2) v18_5) v18_7)
abbrev v18_9:VC:=(.seq (.ops o18_1) v18_8)
def ir18:FC:=⟨1,16,[.t 2,.t 3],(.seq (.ops o18_0) v18_9)⟩
theorem c18:compM Tryd.prog [] 18 = some ir18:=by kernel_rfl
attribute [local go_sem] Nat.reduceEqDiff Nat.reduceAdd Nat.reduceMul reduceIte Nat.reduceLeDiff Nat.reduceLT Nat.reduceBEq reduceCtorEq
theorem restN_gow {n w:Nat}:∀ (k:Nat) (g:List (List Int)),GOw n w g → GOw n w (restN n w k g)
 | 0,g,h => h
 | k + 1,g,h => by
  unfold restN
  cases hs:stepG n w g with
  | none => exact h
  | some g' =>
   obtain ⟨_,_,_,_,_,_,_,_,h2,_⟩:=stepG_some h hs
   exact restN_gow k g' h2
theorem restG_gow {n w:Nat} {g:List (List Int)} (h:GOw n w g):GOw n w (restG n w g):=restN_gow _ _ h
theorem vals_gow {rows:List (List UInt8)} {w:Nat} (h:SOk rows w):GOw rows.length w (valsG rows):=by
 have hl:(valsG rows).length = rows.length:=by simp [valsG]
 have hg:∀ i (hi:i < rows.length),(valsG rows).getD i [] = (rows[i]).map vq:=fun i hi => by
  rw [List.getD_eq_getElem?_getD,List.getElem?_eq_getElem (by rw [hl]; exact hi)]
  simp [valsG]
 refine ⟨hl,fun i hi => by rw [hg i hi,List.length_map]; exact h.row _ (List.getElem_mem hi),fun i k hi hk => ?_⟩
 have hk':k < (rows[i]).length:=by rw [h.row _ (List.getElem_mem hi)]; exact hk
 unfold valAt
 rw [hg i hi,map_getD hk']
 exact vq_rng (h.byte _ (List.getElem_mem hi) _ (List.getElem_mem hk'))
theorem sheet_gow {rows:List (List UInt8)} {w:Nat} (h:SOk rows w) (hw:(rows.headD []).length = w):GOw rows.length w (sheetG rows):=by
 unfold sheetG
 rw [hw]
 exact restG_gow (vals_gow h)
theorem bytesG_len (g:List (List Int)):(bytesG g).length = g.length:=by simp [bytesG]
theorem GOw.bytes {n w:Nat} {g:List (List Int)} (h:GOw n w g):∀ l ∈ bytesG g,l.length = w:=by
 intro l hl
 simp only [bytesG,List.mem_map] at hl
 obtain ⟨r,hr,rfl⟩:=hl
 obtain ⟨i,hi,rfl⟩:=List.getElem_of_mem hr
 have:=h.row i (by rw [← h.len]; exact hi)
 rw [List.getD_eq_getElem?_getD,List.getElem?_eq_getElem hi] at this
 rw [List.length_map]
 exact this
theorem whole_some {s:List UInt8} (h:(wholeG s).2 = 0):∃ rows w,parseP s = some rows ∧ SOk rows w ∧ (rows.headD []).length = w ∧ (wholeG s).1 = sheetG rows ∧ GOw rows.length w (sheetG rows) ∧ noLost rows.length w (sheetG rows) = true ∧ noLack rows.length w (sheetG rows) = true:=by
 unfold wholeG at h ⊢
 cases hp:parseP s with
 | none => rw [hp] at h; cases h
 | some rows =>
  rw [hp] at h
  simp only at h ⊢
  have hok:=parse_ok hp
  by_cases h1:noLost rows.length (rows.headD []).length (sheetG rows) = true
  ·rw [if_pos h1] at h ⊢
   simp only at h
   by_cases h2:noLack rows.length (rows.headD []).length (sheetG rows) = true
   ·exact ⟨rows,_,rfl,hok,rfl,rfl,sheet_gow hok rfl,h1,h2⟩
   ·rw [if_neg h2] at h; cases h
  ·rw [if_neg h1] at h; cases h
theorem textG_ok {n w:Nat} {g:List (List Int)} (h:GOw n w g) (hn:0 < n) (hn2:n ≤ 41) (hw:2 ≤ w) (hw2:w ≤ 32):FSpec Tryd.prog 45 [.c (gridD (bytesG g))] (.c (.str (textG (bytesG g)))):=by
 have hb:=h.bytes
 have hl:=bytesG_len g
 rw [h.len] at hl
 refine string45 (fun l hl e => ?_) (fun e => ?_) (by omega) (fun l hl => by rw [hb l hl]; omega)
 ·have:=hb l hl
  rw [e] at this; simp at this; omega
 ·rw [e] at hl; simp at hl; omega
def mendG (s:List UInt8):List UInt8 × Int:=if (wholeG s).2 = 0 then (textG (bytesG (wholeG s).1),0) else ([],(wholeG s).2)
theorem mend18 (s:List UInt8) (hs:s.length ≤ 100000):FSpec Tryd.prog 18 [sv s] (.tup [.c (.str (mendG s).1),iv (mendG s).2]):=by
 have hwh:=whole44 s hs
 refine FSpec_ofP c18 (Nat.le_refl _) (by decide) fun C hP hN hC hpin hL => ?_; rw [init_st]
 simp only [ir18]
 (repeat ((first | refine Va ?_ | refine Vb ?_ | refine Vc ?_ | refine Vd ?_ | refine Ve ?_ | refine Vf ?_); (try simp only [go_sem,hP]); (repeat refine qJ ?_)))
 (refine AS_pu (hwh) ?_; simp only [go_sem,hP]; (repeat refine qJ ?_); (repeat ((first | refine Va ?_ | refine Vb ?_ | refine Vc ?_ | refine Vd ?_ | refine Ve ?_ | refine Vf ?_); (try simp only [go_sem,hP]); (repeat refine qJ ?_))))
 by_cases h0:(wholeG s).2 = 0
 ·obtain ⟨rows,w,hp,hok,hw,e1,hgo,_,_⟩:=whole_some h0
  have hst:=textG_ok hgo hok.pos hok.len hok.w2 hok.w32
  rw [← e1] at hst
  have hm:mendG s = (textG (bytesG (wholeG s).1),0):=by unfold mendG; rw [if_pos h0]
  rw [hm,h0]
  (refine WV_cond rfl (fun h => ?_) (fun h => ?_))
  ·simp at h
  ·(repeat ((first | refine Va ?_ | refine Vb ?_ | refine Vc ?_ | refine Vd ?_ | refine Ve ?_ | refine Vf ?_); (try simp only [go_sem,hP]); (repeat refine qJ ?_)))
   (refine AS_pu (hst) ?_; simp only [go_sem,hP]; (repeat refine qJ ?_); (repeat ((first | refine Va ?_ | refine Vb ?_ | refine Vc ?_ | refine Vd ?_ | refine Ve ?_ | refine Vf ?_); (try simp only [go_sem,hP]); (repeat refine qJ ?_))))
   (refine WV_ret ?_; simp only [thenQ,inQ,RetQ,RetOk,resAll,resA]; simp only [go_sem,tupA,AV.port,AV.portL,exists_eq_left'])
   exact AVle.refl _
 ·have hm:mendG s = ([],(wholeG s).2):=by unfold mendG; rw [if_neg h0]
  rw [hm]
  (refine WV_cond rfl (fun h => ?_) (fun h => ?_))
  ·(repeat ((first | refine Va ?_ | refine Vb ?_ | refine Vc ?_ | refine Vd ?_ | refine Ve ?_ | refine Vf ?_); (try simp only [go_sem,hP]); (repeat refine qJ ?_)))
   (refine WV_ret ?_; simp only [thenQ,inQ,RetQ,RetOk,resAll,resA]; simp only [go_sem,tupA,AV.port,AV.portL,exists_eq_left'])
   exact AVle.refl _
  ·simp at h; exact (h0 h).elim
end Go.Proofs.YtlmfdmlochpfcaaDoor

namespace Go.Proofs.YtlmfdmlochpfcaaDoor
open Go Go.V
abbrev o73_0:List Ins:=[⟨some 4,.mv (.k (.c (.str []))),none,true⟩]
abbrev o73_1:List Ins:=[⟨some 5,.mv (.t 0),none,true⟩,
 ⟨some 6,.prim .slen [(.t 5)],none,true⟩,
 ⟨some 7,.bin .gtr (.t 6) (.k (.c (.int .i64 0))),none,true⟩,
 ⟨some 8,.mv (.t 7),none,true⟩,
 ⟨some 9,.mv (.t 0),(some (8,true)),true⟩,
 ⟨some 10,.mv (.t 0),(some (8,true)),true⟩,
 ⟨some 11,.prim .slen [(.t 10)],(some (8,true)),true⟩,
 ⟨some 12,.bin .sub (.t 11) (.k (.c (.int .i64 1))),(some (8,true)),true⟩,
 ⟨some 13,.prim .sidx [(.t 9),(.t 12)],(some (8,true)),true⟩,
 ⟨some 14,.mv (.t 1),(some (8,true)),true⟩,
 ⟨some 15,.bin .eql (.t 13) (.t 14),(some (8,true)),true⟩,
 ⟨some 16,.pick (.t 8) (.t 15) (.k (.c (.bool false))),none,true⟩]
abbrev v73_2:VC:=(.cond (.t 16) .skip (.exit 0))
abbrev o73_3:List Ins:=[⟨some 17,.mv (.t 0),none,true⟩,
 ⟨some 18,.mv (.t 0),none,true⟩,
 ⟨some 19,.prim .slen [(.t 18)],none,true⟩,
 ⟨some 20,.bin .sub (.t 19) (.k (.c (.int .i64 1))),none,true⟩,
 ⟨some 21,.prim (.sslc false true) [(.t 17),(.t 20)],none,true⟩,
 ⟨some 0,.mv (.t 21),none,true⟩]
abbrev v73_4:VC:=(.block 1 (.ops o73_3))
abbrev v73_5:VC:=(.seq (.seq (.ops o73_1) v73_2) v73_4)
-- K73_1: changed and kept: [0]
abbrev v73_6:VC:=(.loop v73_5)
abbrev o73_7:List Ins:=[⟨some 22,.mv (.t 0),none,true⟩,
 ⟨some 4,.mv (.t 22),none,true⟩]
abbrev v73_8:VC:=(.seq (.ops o73_7) .ret)
abbrev v73_9:VC:=(.seq (.block 0 v73_6) v73_8)
def ir73:FC:=⟨2,23,[.t 4],(.seq (.ops o73_0) v73_9)⟩
abbrev o46_0:List Ins:=[⟨some 4,.mv (.k (.c (.str []))),none,true⟩]
abbrev o46_1:List Ins:=[⟨some 7,.mv (.t 0),none,true⟩,
 ⟨some 8,.prim (.sbin .eql) [(.t 7),(.k (.c (.str [])))],none,true⟩,
 ⟨some 9,.mv (.t 8),none,true⟩,
 ⟨some 10,.mv (.t 1),(some (9,false)),true⟩,
 ⟨some 11,.prim (.sbin .eql) [(.t 10),(.k (.c (.str [])))],(some (9,false)),true⟩,
 ⟨some 12,.pick (.t 9) (.k (.c (.bool true))) (.t 11),none,true⟩]
abbrev o46_2:List Ins:=[⟨some 13,.mv (.t 0),none,true⟩,
 ⟨some 4,.mv (.t 13),none,true⟩]
abbrev v46_3:VC:=(.seq (.ops o46_2) .ret)
abbrev v46_4:VC:=(.cond (.t 12) v46_3 .skip)
abbrev o46_5:List Ins:=[⟨some 14,.mv (.t 1),none,true⟩,
 ⟨some 15,.prim .slen [(.t 14)],none,true⟩,
 ⟨some 16,.bin .eql (.t 15) (.k (.c (.int .i64 1))),none,true⟩,
 ⟨some 17,.mv (.t 16),none,true⟩,
 ⟨some 18,.mv (.t 1),(some (17,true)),true⟩,
 ⟨some 19,.prim .sidx [(.t 18),(.k (.c (.int .i64 0)))],(some (17,true)),true⟩,
 ⟨some 20,.bin .lss (.t 19) (.k (.c (.int .u8 128))),(some (17,true)),true⟩,
 ⟨some 21,.pick (.t 17) (.t 20) (.k (.c (.bool false))),none,true⟩]
abbrev o46_6:List Ins:=[⟨some 22,.mv (.t 0),none,true⟩,
 ⟨some 23,.mv (.t 1),none,true⟩,
 ⟨some 24,.prim .sidx [(.t 23),(.k (.c (.int .i64 0)))],none,true⟩,
 ⟨some 25,.call (.k (.fn 73 [])) [(.t 22),(.t 24)],none,true⟩,
 ⟨some 4,.mv (.t 25),none,true⟩]
abbrev v46_7:VC:=(.seq (.ops o46_6) .ret)
abbrev v46_8:VC:=(.cond (.t 21) v46_7 .skip)
abbrev o46_9:List Ins:=[⟨some 27,.mv (.t 1),none,true⟩,
 ⟨some 28,.call (.k (.fn 74 [])) [(.t 27)],none,true⟩,
 ⟨some 26,.mv (.t 28),none,true⟩,
 ⟨some 29,.ext (.t 26) 0,none,true⟩,
 ⟨some 30,.ext (.t 26) 1,none,true⟩,
 ⟨some 5,.alloc [(.c (.bool false)),(.c (.bool false)),(.c (.bool false)),(.c (.bool false)),(.c (.bool false)),(.c (.bool false)),(.c (.bool false)),(.c (.bool false)),(.c (.bool false)),(.c (.bool false)),(.c (.bool false)),(.c (.bool false)),(.c (.bool false)),(.c (.bool false)),(.c (.bool false)),(.c (.bool false)),(.c (.bool false)),(.c (.bool false)),(.c (.bool false)),(.c (.bool false)),(.c (.bool false)),(.c (.bool false)),(.c (.bool false)),(.c (.bool false)),(.c (.bool false)),(.c (.bool false)),(.c (.bool false)),(.c (.bool false)),(.c (.bool false)),(.c (.bool false)),(.c (.bool false)),(.c (.bool false)),(.c (.bool false)),(.c (.bool false)),(.c (.bool false)),(.c (.bool false)),(.c (.bool false)),(.c (.bool false)),(.c (.bool false)),(.c (.bool false)),(.c (.bool false)),(.c (.bool false)),(.c (.bool false)),(.c (.bool false)),(.c (.bool false)),(.c (.bool false)),(.c (.bool false)),(.c (.bool false)),(.c (.bool false)),(.c (.bool false)),(.c (.bool false)),(.c (.bool false)),(.c (.bool false)),(.c (.bool false)),(.c (.bool false)),(.c (.bool false)),(.c (.bool false)),(.c (.bool false)),(.c (.bool false)),(.c (.bool false)),(.c (.bool false)),(.c (.bool false)),(.c (.bool false)),(.c (.bool false)),(.c (.bool false)),(.c (.bool false)),(.c (.bool false)),(.c (.bool false)),(.c (.bool false)),(.c (.bool false)),(.c (.bool false)),(.c (.bool false)),(.c (.bool false)),(.c (.bool false)),(.c (.bool false)),(.c (.bool false)),(.c (.bool false)),(.c (.bool false)),(.c (.bool false)),(.c (.bool false)),(.c (.bool false)),(.c (.bool false)),(.c (.bool false)),(.c (.bool false)),(.c (.bool false)),(.c (.bool false)),(.c (.bool false)),(.c (.bool false)),(.c (.bool false)),(.c (.bool false)),(.c (.bool false)),(.c (.bool false)),(.c (.bool false)),(.c (.bool false)),(.c (.bool false)),(.c (.bool false)),(.c (.bool false)),(.c (.bool false)),(.c (.bool false)),(.c (.bool false)),(.c (.bool false)),(.c (.bool false)),(.c (.bool false)),(.c (.bool false)),(.c (.bool false)),(.c (.bool false)),(.c (.bool false)),(.c (.bool false)),(.c (.bool false)),(.c (.bool false)),(.c (.bool false)),(.c (.bool false)),(.c (.bool false)),(.c (.bool false)),(.c (.bool false)),(.c (.bool false)),(.c (.bool false)),(.c (.bool false)),(.c (.bool false)),(.c (.bool false)),(.c (.bool false)),(.c (.bool false)),(.c (.bool false)),(.c (.bool false)),(.c (.bool false)),(.c (.bool false)),(.c (.bool false)),(.c (.bool false)),(.c (.bool false)),(.c (.bool false)),(.c (.bool false)),(.c (.bool false)),(.c (.bool false)),(.c (.bool false)),(.c (.bool false)),(.c (.bool false)),(.c (.bool false)),(.c (.bool false)),(.c (.bool false)),(.c (.bool false)),(.c (.bool false)),(.c (.bool false)),(.c (.bool false)),(.c (.bool false)),(.c (.bool false)),(.c (.bool false)),(.c (.bool false)),(.c (.bool false)),(.c (.bool false)),(.c (.bool false)),(.c (.bool false)),(.c (.bool false)),(.c (.bool false)),(.c (.bool false)),(.c (.bool false)),(.c (.bool false)),(.c (.bool false)),(.c (.bool false)),(.c (.bool false)),(.c (.bool false)),(.c (.bool false)),(.c (.bool false)),(.c (.bool false)),(.c (.bool false)),(.c (.bool false)),(.c (.bool false)),(.c (.bool false)),(.c (.bool false)),(.c (.bool false)),(.c (.bool false)),(.c (.bool false)),(.c (.bool false)),(.c (.bool false)),(.c (.bool false)),(.c (.bool false)),(.c (.bool false)),(.c (.bool false)),(.c (.bool false)),(.c (.bool false)),(.c (.bool false)),(.c (.bool false)),(.c (.bool false)),(.c (.bool false)),(.c (.bool false)),(.c (.bool false)),(.c (.bool false)),(.c (.bool false)),(.c (.bool false)),(.c (.bool false)),(.c (.bool false)),(.c (.bool false)),(.c (.bool false)),(.c (.bool false)),(.c (.bool false)),(.c (.bool false)),(.c (.bool false)),(.c (.bool false)),(.c (.bool false)),(.c (.bool false)),(.c (.bool false)),(.c (.bool false)),(.c (.bool false)),(.c (.bool false)),(.c (.bool false)),(.c (.bool false)),(.c (.bool false)),(.c (.bool false)),(.c (.bool false)),(.c (.bool false)),(.c (.bool false)),(.c (.bool false)),(.c (.bool false)),(.c (.bool false)),(.c (.bool false)),(.c (.bool false)),(.c (.bool false)),(.c (.bool false)),(.c (.bool false)),(.c (.bool false)),(.c (.bool false)),(.c (.bool false)),(.c (.bool false)),(.c (.bool false)),(.c (.bool false)),(.c (.bool false)),(.c (.bool false)),(.c (.bool false)),(.c (.bool false)),(.c (.bool false)),(.c (.bool false)),(.c (.bool false)),(.c (.bool false)),(.c (.bool false)),(.c (.bool false)),(.c (.bool false)),(.c (.bool false)),(.c (.bool false)),(.c (.bool false)),(.c (.bool false)),(.c (.bool false)),(.c (.bool false)),(.c (.bool false)),(.c (.bool false)),(.c (.bool false)),(.c (.bool false)),(.c (.bool false)),(.c (.bool false)),(.c (.bool false)),(.c (.bool false)),(.c (.bool false)),(.c (.bool false)),(.c (.bool false)),(.c (.bool false)),(.c (.bool false)),(.c (.bool false)),(.c (.bool false))],none,true⟩,
 ⟨none,.st 256 (.t 5) (.t 29),none,true⟩,
 ⟨some 6,.mv (.t 30),none,true⟩]
abbrev o46_10:List Ins:=[⟨some 31,.mv (.t 6),none,true⟩]
abbrev o46_11:List Ins:=[⟨some 32,.mv (.t 0),none,true⟩,
 ⟨some 33,.call (.k (.fn 75 [])) [(.t 32),(.t 5)],none,true⟩,
 ⟨some 4,.mv (.t 33),none,true⟩]
abbrev v46_12:VC:=(.seq (.ops o46_11) .ret)
abbrev v46_13:VC:=(.cond (.t 31) v46_12 .skip)
abbrev v46_14:VC:=(.seq (.ops o46_10) v46_13)
abbrev o46_15:List Ins:=[⟨some 34,.mv (.t 0),none,true⟩,
 ⟨some 35,.mv (.t 1),none,true⟩,
 ⟨some 36,.call (.k (.fn 76 [])) [(.t 34),(.t 35)],none,true⟩,
 ⟨some 4,.mv (.t 36),none,true⟩]
abbrev v46_16:VC:=(.seq (.ops o46_15) .ret)
abbrev v46_17:VC:=(.seq (.seq (.ops o46_9) v46_14) v46_16)
abbrev v46_18:VC:=(.seq (.seq (.ops o46_5) v46_8) v46_17)
abbrev v46_19:VC:=(.seq (.seq (.ops o46_1) v46_4) v46_18)
def ir46:FC:=⟨2,37,[.t 4],(.seq (.ops o46_0) v46_19)⟩
theorem c73:compM Tryd.prog [] 73 = some ir73:=by kernel_rfl
theorem c46:compM Tryd.prog [] 46 = some ir46:=by kernel_rfl
attribute [local go_sem] Nat.reduceEqDiff Nat.reduceAdd Nat.reduceMul reduceIte Nat.reduceLeDiff Nat.reduceLT Nat.reduceBEq reduceCtorEq
def trimR (b:UInt8) (s:List UInt8):List UInt8:=(s.reverse.dropWhile (· == b)).reverse
theorem trimR_snoc (b:UInt8) (s:List UInt8) (c:UInt8):trimR b (s ++ [c]) = if c = b then trimR b s else s ++ [c]:=by
 unfold trimR
 simp only [List.reverse_append,List.reverse_cons,List.reverse_nil,List.nil_append,List.singleton_append,List.dropWhile_cons,beq_iff_eq]
 split
 ·rfl
 ·simp
set_option maxRecDepth 20000 in
set_option maxHeartbeats 4000000 in
theorem trimright73 (s:List UInt8) (b:UInt8) (hs:s.length ≤ maxLen):FSpec Tryd.prog 73 [sv s,u8 b] (sv (trimR b s)):=by
 have hmax:maxLen = 9223372036854775807:=rfl
 refine FSpec_of c73 (Nat.le_refl _) (by decide) fun C hP hN hC hL => ?_; rw [init_st]
 simp only [ir73]
 refine WV_seq_ ?_
 (refine WV_op ?_; simp only [go_sem,hP]; (repeat refine qJ ?_))
 refine WV_seq_ (WV_block ?_)
 refine WV_loopS (fun t:List UInt8 => ⟨upd (upd e0 0 (sv t)) 1 (u8 b),o0⟩) (fun t => t.length ≤ s.length ∧ trimR b t = trimR b s) (fun t => t.length) s ⟨Nat.le_refl _,rfl⟩ ?_ ?_
 ·exact Sub_au
 ·rintro t ⟨h1,h2⟩
  rcases List.eq_nil_or_concat t with rfl | ⟨t0,c,rfl⟩
  ·(repeat ((first | refine Va ?_ | refine Vb ?_ | refine Vc ?_ | refine Vd ?_ | refine Ve ?_ | refine Vf ?_); (try simp only [go_sem,hP]); (repeat refine qJ ?_)))
   (refine WV_cond rfl (fun h => ?_) (fun h => ?_))
   ·simp at h
   ·(refine WV_exit ?_; simp only [go_sem])
    (repeat ((first | refine Va ?_ | refine Vb ?_ | refine Vc ?_ | refine Vd ?_ | refine Ve ?_ | refine Vf ?_); (try simp only [go_sem,hP]); (repeat refine qJ ?_)))
    rw [← h2]
    (refine WV_ret ?_; simp only [thenQ,inQ,RetQ,RetOk,resAll,resA]; simp only [go_sem,tupA,AV.port,AV.portL,exists_eq_left']; (first | exact AVle.of rfl | refine AVle.of ?_ | skip))
  ·rw [List.concat_eq_append] at h1 h2 ⊢
   have hl:(t0 ++ [c]).length = t0.length + 1:=by simp
   rw [hl] at h1
   have hw:=w64 (n:=((t0.length + 1:Nat):Int) - 1) (by omega) (by omega)
   have hn:(((t0.length + 1:Nat):Int) - 1).toNat = t0.length:=by omega
   have hg:(t0 ++ [c]).getD t0.length 0 = c:=by simp
   have hcb:(((c.toNat:Nat):Int) == ((b.toNat:Nat):Int)) = decide (c = b):=by
    rw [Bool.eq_iff_iff]; simp [← UInt8.toNat_inj]; omega
   have hp:decide (((t0.length + 1:Nat):Int) > 0) = true:=by simp
   rw [trimR_snoc] at h2
   (repeat ((first | refine Va ?_ | refine Vb ?_ | refine Vc ?_ | refine Vd ?_ | refine Ve ?_ | refine Vf ?_); (try simp only [go_sem,hP,hl,hw,hn,hg,hp,hcb]); (repeat refine qJ ?_)))
   by_cases hc:c = b
   ·rw [if_pos hc] at h2
    have htk:(t0 ++ [c]).take t0.length = t0:=by simp
    (refine WV_cond rfl (fun h => ?_) (fun h => ?_))
    ·(repeat ((first | refine Va ?_ | refine Vb ?_ | refine Vc ?_ | refine Vd ?_ | refine Ve ?_ | refine Vf ?_); (try simp only [go_sem,hP,hl,hw,hn,htk]); (repeat refine qJ ?_)))
     refine ⟨t0,⟨by omega,h2⟩,by omega,?_⟩
     exact Sub_au
    ·simp at h; exact (h hc).elim
   ·rw [if_neg hc] at h2
    (refine WV_cond rfl (fun h => ?_) (fun h => ?_))
    ·simp at h; exact (hc h).elim
    ·(refine WV_exit ?_; simp only [go_sem])
     (repeat ((first | refine Va ?_ | refine Vb ?_ | refine Vc ?_ | refine Vd ?_ | refine Ve ?_ | refine Vf ?_); (try simp only [go_sem,hP]); (repeat refine qJ ?_)))
     rw [← h2]
     (refine WV_ret ?_; simp only [thenQ,inQ,RetQ,RetOk,resAll,resA]; simp only [go_sem,tupA,AV.port,AV.portL,exists_eq_left']; (first | exact AVle.of rfl | refine AVle.of ?_ | skip))
theorem trimright46 (s:List UInt8) (b:UInt8) (hs:s.length ≤ maxLen) (hb:b.toNat < 128):FSpec Tryd.prog 46 [sv s,sv [b]] (sv (trimR b s)):=by
 have hmax:maxLen = 9223372036854775807:=rfl
 refine FSpec_of c46 (Nat.le_refl _) (by decide) fun C hP hN hC hL => ?_; rw [init_st]
 simp only [ir46]
 (repeat ((first | refine Va ?_ | refine Vb ?_ | refine Vc ?_ | refine Vd ?_ | refine Ve ?_ | refine Vf ?_); (try simp only [go_sem,hP]); (repeat refine qJ ?_)))
 have hb1:([b] == []) = false:=rfl
 rw [hb1,Bool.or_false]
 by_cases h0:s = []
 ·subst h0
  (refine WV_cond rfl (fun h => ?_) (fun h => ?_))
  ·(repeat ((first | refine Va ?_ | refine Vb ?_ | refine Vc ?_ | refine Vd ?_ | refine Ve ?_ | refine Vf ?_); (try simp only [go_sem,hP]); (repeat refine qJ ?_)))
   (refine WV_ret ?_; simp only [thenQ,inQ,RetQ,RetOk,resAll,resA]; simp only [go_sem,tupA,AV.port,AV.portL,exists_eq_left']; (first | exact AVle.of rfl | refine AVle.of ?_ | skip))
  ·simp at h
 ·have h0':(s == []) = false:=by simpa using h0
  rw [h0']
  have hb2:decide (((b.toNat:Nat):Int) < 128) = true:=by simp; omega
  (refine WV_cond rfl (fun h => ?_) (fun h => ?_))
  ·simp at h
  ·(repeat ((first | refine Va ?_ | refine Vb ?_ | refine Vc ?_ | refine Vd ?_ | refine Ve ?_ | refine Vf ?_); (try simp only [go_sem,hP,List.length_singleton,hb2,List.getD_cons_zero]); (repeat refine qJ ?_)))
   (refine WV_cond rfl (fun h => ?_) (fun h => ?_))
   ·(repeat ((first | refine Va ?_ | refine Vb ?_ | refine Vc ?_ | refine Vd ?_ | refine Ve ?_ | refine Vf ?_); (try simp only [go_sem,hP,List.length_singleton,List.getD_cons_zero]); (repeat refine qJ ?_)))
    (refine AS_pu (trimright73 s b hs) ?_; simp only [go_sem,hP]; (repeat refine qJ ?_); (repeat ((first | refine Va ?_ | refine Vb ?_ | refine Vc ?_ | refine Vd ?_ | refine Ve ?_ | refine Vf ?_); (try simp only [go_sem,hP]); (repeat refine qJ ?_))))
    (refine WV_ret ?_; simp only [thenQ,inQ,RetQ,RetOk,resAll,resA]; simp only [go_sem,tupA,AV.port,AV.portL,exists_eq_left']; (first | exact AVle.of rfl | refine AVle.of ?_ | skip))
   ·simp at h; omega
end Go.Proofs.YtlmfdmlochpfcaaDoor

namespace Go.Proofs.YtlmfdmlochpfcaaDoor
open Go Go.V
abbrev o20_0:List Ins:=[⟨some 2,.mv (.k (.c (.raw (.slice none 0 0)))),none,true⟩,
 ⟨some 3,.mv (.k (.c (.int .i64 0))),none,true⟩]
abbrev o20_1:List Ins:=[⟨some 13,.mv (.t 0),none,true⟩,
 ⟨some 14,.call (.k (.fn 44 [])) [(.t 13)],none,true⟩,
 ⟨some 12,.mv (.t 14),none,true⟩,
 ⟨some 15,.ext (.t 12) 0,none,true⟩,
 ⟨some 16,.ext (.t 12) 1,none,true⟩,
 ⟨some 4,.mv (.t 15),none,true⟩,
 ⟨some 5,.mv (.t 16),none,true⟩]
abbrev o20_2:List Ins:=[⟨some 17,.mv (.t 5),none,true⟩,
 ⟨some 18,.bin .neq (.t 17) (.k (.c (.int .i64 0))),none,true⟩]
abbrev o20_3:List Ins:=[⟨some 19,.mv (.t 5),none,true⟩,
 ⟨some 2,.mv (.k (.c (.raw (.slice none 0 0)))),none,true⟩,
 ⟨some 3,.mv (.t 19),none,true⟩]
abbrev v20_4:VC:=(.seq (.ops o20_3) .ret)
abbrev v20_5:VC:=(.cond (.t 18) v20_4 .skip)
abbrev o20_6:List Ins:=[⟨some 6,.mv (.k (.c (.raw (.slice none 0 0)))),none,true⟩]
abbrev o20_7:List Ins:=[⟨some 20,.mv (.t 4),none,true⟩,
 ⟨some 21,.mv (.t 4),none,true⟩,
 ⟨some 22,.len (.t 21),none,true⟩,
 ⟨some 23,.bin .sub (.t 22) (.k (.c (.int .i64 1))),none,true⟩,
 ⟨some 24,.slc 1 (.t 20) none (some (.t 23)),none,true⟩,
 ⟨some 25,.len (.t 24),none,true⟩,
 ⟨some 26,.mv (.k (.c (.int .i64 0))),none,true⟩]
abbrev o20_8:List Ins:=[⟨some 27,.bin .lss (.t 26) (.t 25),none,true⟩]
abbrev o20_9:List Ins:=[⟨some 28,.ia 1 (.t 24) (.t 26),none,true⟩,
 ⟨some 29,.ld true 1 (.t 28),none,true⟩,
 ⟨some 8,.mv (.t 29),none,true⟩]
abbrev o20_10:List Ins:=[⟨some 30,.mv (.t 8),none,true⟩,
 ⟨some 31,.mv (.t 8),none,true⟩,
 ⟨some 32,.len (.t 31),none,true⟩,
 ⟨some 33,.bin .sub (.t 32) (.k (.c (.int .i64 1))),none,true⟩,
 ⟨some 34,.slc 1 (.t 30) none (some (.t 33)),none,true⟩,
 ⟨some 35,.raw (.convert 68 9 (.tmp 34)),none,true⟩,
 ⟨some 36,.call (.k (.fn 46 [])) [(.t 35),(.k (.c (.str [32])))],none,true⟩,
 ⟨some 9,.mv (.t 36),none,true⟩]
abbrev o20_11:List Ins:=[⟨some 38,.mv (.t 9),none,true⟩,
 ⟨some 39,.call (.k (.fn 47 [])) [(.t 38),(.k (.c (.str [124])))],none,true⟩,
 ⟨some 37,.mv (.t 39),none,true⟩,
 ⟨some 40,.ext (.t 37) 0,none,true⟩,
 ⟨some 41,.ext (.t 37) 1,none,true⟩,
 ⟨some 10,.mv (.t 40),none,true⟩,
 ⟨some 11,.mv (.t 41),none,true⟩]
abbrev o20_12:List Ins:=[⟨some 42,.mv (.t 11),none,true⟩,
 ⟨some 43,.un .not (.t 42),none,true⟩]
abbrev o20_13:List Ins:=[⟨some 2,.mv (.k (.c (.raw (.slice none 0 0)))),none,true⟩,
 ⟨some 3,.mv (.k (.c (.int .i64 143))),none,true⟩]
abbrev v20_14:VC:=(.seq (.ops o20_13) .ret)
abbrev v20_15:VC:=(.cond (.t 43) v20_14 .skip)
abbrev o20_16:List Ins:=[⟨some 44,.mv (.t 6),none,true⟩,
 ⟨some 45,.mv (.t 10),none,true⟩,
 ⟨some 46,.bsl 9 1 [(.t 45)],none,true⟩,
 ⟨some 47,.app 9 1 16 (.t 44) (.t 46),none,true⟩,
 ⟨some 6,.mv (.t 47),none,true⟩]
abbrev v20_17:VC:=(.seq (.seq (.ops o20_12) v20_15) (.ops o20_16))
abbrev v20_18:VC:=(.seq (.ops o20_11) v20_17)
abbrev v20_19:VC:=(.seq (.ops o20_10) v20_18)
abbrev v20_20:VC:=(.seq (.ops o20_9) v20_19)
abbrev o20_21:List Ins:=[⟨some 48,.bin .add (.t 26) (.k (.c (.int .i64 1))),none,true⟩,
 ⟨some 26,.mv (.t 48),none,true⟩]
abbrev v20_22:VC:=(.seq (.block 1 v20_20) (.ops o20_21))
abbrev v20_23:VC:=(.seq (.cond (.t 27) .skip (.exit 0)) v20_22)
abbrev v20_24:VC:=(.seq (.ops o20_8) v20_23)
-- K20_1: changed and kept: [26,6]
abbrev v20_25:VC:=(.loop v20_24)
abbrev v20_26:VC:=(.block 0 v20_25)
abbrev o20_27:List Ins:=[⟨some 49,.mv (.t 6),none,true⟩,
 ⟨some 2,.mv (.t 49),none,true⟩,
 ⟨some 3,.mv (.k (.c (.int .i64 0))),none,true⟩]
abbrev v20_28:VC:=(.seq (.ops o20_27) .ret)
abbrev v20_29:VC:=(.seq (.seq (.ops o20_7) v20_26) v20_28)
abbrev v20_30:VC:=(.seq (.ops o20_6) v20_29)
abbrev v20_31:VC:=(.seq (.seq (.ops o20_2) v20_5) v20_30)
abbrev v20_32:VC:=(.seq (.ops o20_1) v20_31)
def ir20:FC:=⟨1,50,[.t 2,.t 3],(.seq (.ops o20_0) v20_32)⟩
theorem c20:compM Tryd.prog [] 20 = some ir20:=by kernel_rfl
attribute [local go_sem] Nat.reduceEqDiff Nat.reduceAdd Nat.reduceMul reduceIte Nat.reduceLeDiff Nat.reduceLT Nat.reduceBEq reduceCtorEq
def strsV (ts:List (List UInt8)):CD:=.sl 1 (ts.map fun t => [CD.str t])
theorem strs_one (ts:List (List UInt8)):((ts.map fun t => [CD.str t]).all fun e => e.length == 1) = true:=by
 rw [List.all_eq_true]; intro e he; obtain ⟨n,_,rfl⟩:=List.mem_map.1 he; rfl
def rowT (r:List UInt8):List UInt8:=trimR 32 r.dropLast
def txtR (r:List UInt8):List UInt8:=cutB (rowT r) 124
def isTxR (r:List UInt8):Bool:=endsB (rowT r) 124
def readG (s:List UInt8):List (List UInt8) × Int:=if (wholeG s).2 = 0 then (if (bytesG (wholeG s).1).dropLast.all isTxR then ((bytesG (wholeG s).1).dropLast.map txtR,0) else ([],143)) else ([],(wholeG s).2)
theorem rowT_len (r:List UInt8):(rowT r).length ≤ r.length:=by
 unfold rowT trimR
 rw [List.length_reverse]
 have h:=(List.dropWhile_sublist (· == (32:UInt8)) (l:=r.dropLast.reverse)).length_le
 simp only [List.length_reverse,List.length_dropLast] at h
 omega
set_option maxRecDepth 20000 in
set_option maxHeartbeats 8000000 in
theorem read20 (s:List UInt8) (hs:s.length ≤ 100000):FSpec Tryd.prog 20 [sv s] (.tup [.c (strsV (readG s).1),iv (readG s).2]):=by
 have hmax:maxLen = 9223372036854775807:=rfl
 have hwh:=whole44 s hs
 refine FSpec_ofP c20 (Nat.le_refl _) (by decide) fun C hP hN hC hpin hL => ?_; rw [init_st]
 simp only [ir20]
 (repeat ((first | refine Va ?_ | refine Vb ?_ | refine Vc ?_ | refine Vd ?_ | refine Ve ?_ | refine Vf ?_); (try simp only [go_sem,hP]); (repeat refine qJ ?_)))
 (refine AS_pu (hwh) ?_; simp only [go_sem,hP]; (repeat refine qJ ?_); (repeat ((first | refine Va ?_ | refine Vb ?_ | refine Vc ?_ | refine Vd ?_ | refine Ve ?_ | refine Vf ?_); (try simp only [go_sem,hP]); (repeat refine qJ ?_))))
 by_cases h0:(wholeG s).2 = 0
 ·obtain ⟨rows0,w,hp,hok,hw,e1,hgo,_,_⟩:=whole_some h0
  have hm:readG s = (if (bytesG (wholeG s).1).dropLast.all isTxR then ((bytesG (wholeG s).1).dropLast.map txtR,0) else ([],143)):=by unfold readG; rw [if_pos h0]
  rw [hm,h0]
  have hb:=hgo.bytes
  have hl:=bytesG_len (sheetG rows0)
  rw [hgo.len] at hl
  rw [← e1] at hb hl
  have hpos:=hok.pos
  have hln:=hok.len
  have hw2:=hok.w2
  have hw32:=hok.w32
  generalize bytesG (wholeG s).1 = rows at hb hl
  rw [← hl] at hpos hln
  clear hwh hm hgo
  (refine WV_cond rfl (fun h => ?_) (fun h => ?_))
  ·simp at h
  have hwn:=w64 (n:=(rows.length:Int) - 1) (by omega) (by omega)
  (refine WV_skip ?_; simp only [go_sem])
  refine WV_seq_ ?_
  (refine WV_op ?_; simp only [go_sem,hP]; (repeat refine qJ ?_))
  refine WV_nilslot 6 47 9 1 (by decide) (by decide) rfl rfl ?_
  (repeat ((first | refine Va ?_ | refine Vb ?_ | refine Vc ?_ | refine Vd ?_ | refine Ve ?_ | refine Vf ?_); (try simp only [go_sem,hP,gridD,rowsD,hwn,List.length_map]); (repeat refine qJ ?_)))
  have hdl:List.drop ((0:Nat):Int).toNat (List.take ((rows.length:Int) - 1).toNat (List.map (fun l => [CD.sl 1 (List.map bcd l)]) rows)) = rows.dropLast.map (fun l => [CD.sl 1 (List.map bcd l)]):=by
   have e:((rows.length:Int) - 1).toNat = rows.length - 1:=by omega
   rw [e,List.dropLast_eq_take,List.map_take]
   rfl
  rw [hdl]
  have hLb:∀ l ∈ rows.dropLast,l.length = w:=fun l hl => hb l ((List.dropLast_sublist rows).subset hl)
  have hLn:rows.dropLast.length ≤ 41:=by rw [List.length_dropLast]; omega
  generalize rows.dropLast = L at hLb hLn ⊢
  rw [List.length_map]
  refine WV_loopS (fun k:Nat => ⟨upd (upd (upd (upd e0 24 (.c (.sl 1 (L.map fun l => [CD.sl 1 (List.map bcd l)])))) 25 (iv L.length)) 26 (iv k)) 6 (.gr 47),upd o0 47 (.grow 9 1 (((L.take k).map txtR).map fun t => [CD.str t]))⟩) (fun k => k ≤ L.length ∧ (L.take k).all isTxR = true) (fun k => L.length - k) 0 ⟨Nat.zero_le _,by simp⟩ ?_ ?_
  ·exact Sub_au
  ·rintro k ⟨hk,hk1⟩
   (repeat ((first | refine Va ?_ | refine Vb ?_ | refine Vc ?_ | refine Vd ?_ | refine Ve ?_ | refine Vf ?_); (try simp only [go_sem,hP]); (repeat refine qJ ?_)))
   (refine WV_cond rfl (fun h => ?_) (fun h => ?_))
   ·have hk2:k < L.length:=by simpa using h
    have hw3:=w64 (n:=(k:Int) + 1) (by omega) (by omega)
    have hrl:=hLb _ (List.getElem_mem hk2)
    have hsn:=all_snoc isTxR hk2
    have hts:=List.take_succ_eq_append_getElem hk2
    have hgd:(L.map fun l => [CD.sl 1 (List.map bcd l)]).getD k [] = [CD.sl 1 (List.map bcd L[k])]:=by rw [List.getD_eq_getElem?_getD,List.getElem?_map,List.getElem?_eq_getElem hk2]; rfl
    have hall:=all_take_false isTxR hk2
    generalize L[k] = r at hrl hsn hts hgd hall
    have h1:=strs_one ((L.take k).map txtR)
    have hwr:=w64 (n:=(r.length:Int) - 1) (by omega) (by omega)
    have hlt:=rowT_len r
    have htr:=trimright46 r.dropLast 32 (by rw [List.length_dropLast]; omega) (by decide)
    have hct:=cutsuffix47 (rowT r) 124 (by omega)
    (refine WV_skip ?_; simp only [go_sem])
    refine WV_seq_ (WV_block (WV_seq_ ?_))
    (refine WV_op ?_; simp only [go_sem,hP,hgd,List.length_map,Int.toNat_natCast,Int.ofNat_lt,hk2,Int.natCast_nonneg]; (repeat refine qJ ?_))
    refine WV_seq_ ?_
    (refine WV_op ?_; simp only [go_sem,hP,hwr,List.length_map]; (repeat refine qJ ?_))
    have hdr:List.drop ((0:Nat):Int).toNat (List.take ((r.length:Int) - 1).toNat (List.map bcd r)) = r.dropLast.map bcd:=by
     have e:((r.length:Int) - 1).toNat = r.length - 1:=by omega
     rw [e,List.dropLast_eq_take,List.map_take]
     rfl
    rw [hdr]
    refine raw_bs (s:=r.dropLast) (x':=.t 34) (e:=5) (by kernel_rfl) (by kernel_rfl) (by kernel_rfl) rfl rfl rfl ?_
    simp only [go_sem]
    (refine AS_pu (htr) ?_; simp only [go_sem,hP]; (repeat refine qJ ?_); (repeat ((first | refine Va ?_ | refine Vb ?_ | refine Vc ?_ | refine Vd ?_ | refine Ve ?_ | refine Vf ?_); (try simp only [go_sem,hP]); (repeat refine qJ ?_))))
    rw [show trimR 32 r.dropLast = rowT r from rfl]
    (repeat ((first | refine Va ?_ | refine Vb ?_ | refine Vc ?_ | refine Vd ?_ | refine Ve ?_ | refine Vf ?_); (try simp only [go_sem,hP]); (repeat refine qJ ?_)))
    (refine AS_pu (hct) ?_; simp only [go_sem,hP]; (repeat refine qJ ?_); (repeat ((first | refine Va ?_ | refine Vb ?_ | refine Vc ?_ | refine Vd ?_ | refine Ve ?_ | refine Vf ?_); (try simp only [go_sem,hP]); (repeat refine qJ ?_))))
    rw [show endsB (rowT r) 124 = isTxR r from rfl,show cutB (rowT r) 124 = txtR r from rfl]
    by_cases ht:isTxR r = true
    ·rw [ht]
     rw [hk1,ht] at hsn
     have hsn3:(((L.take (k + 1)).map txtR).map fun t => [CD.str t]) = (((L.take k).map txtR).map fun t => [CD.str t]) ++ [[CD.str (txtR r)]]:=by rw [hts]; simp
     (refine WV_cond rfl (fun h => ?_) (fun h => ?_))
     ·simp at h
     ·(repeat ((first | refine Va ?_ | refine Vb ?_ | refine Vc ?_ | refine Vd ?_ | refine Ve ?_ | refine Vf ?_); (try simp only [go_sem,hP,h1,List.length_map,List.length_take,hw3]); (repeat refine qJ ?_)))
      refine ⟨k + 1,⟨by omega,hsn⟩,by omega,?_⟩
      rw [hsn3]
      exact Sub_au
    ·have ht':isTxR r = false:=by simpa using ht
     rw [ht',hall ht',if_neg (by simp)]
     (refine WV_cond rfl (fun h => ?_) (fun h => ?_))
     ·(repeat ((first | refine Va ?_ | refine Vb ?_ | refine Vc ?_ | refine Vd ?_ | refine Ve ?_ | refine Vf ?_); (try simp only [go_sem,hP]); (repeat refine qJ ?_)))
      (refine WV_ret ?_; simp only [thenQ,inQ,RetQ,RetOk,resAll,resA]; simp only [go_sem,tupA,AV.port,AV.portL,exists_eq_left'])
      refine AVle.tup ?_
      exact ⟨_,_,rfl,AVle.nil 1,_,_,rfl,AVle.refl _,rfl⟩
     ·simp at h
   ·have h:k = L.length:=by simp at h; omega
    subst h
    rw [List.take_length] at hk1
    rw [hk1,if_pos rfl]
    (repeat ((first | refine Va ?_ | refine Vb ?_ | refine Vc ?_ | refine Vd ?_ | refine Ve ?_ | refine Vf ?_); (try simp only [go_sem,hP,List.take_length]); (repeat refine qJ ?_)))
    (refine WV_ret ?_; simp only [thenQ,inQ,RetQ,RetOk,resAll,resA]; simp only [go_sem,tupA,AV.port,AV.portL,exists_eq_left'])
    exact AVle.refl _
 ·have hm:readG s = ([],(wholeG s).2):=by unfold readG; rw [if_neg h0]
  rw [hm]
  (refine WV_cond rfl (fun h => ?_) (fun h => ?_))
  ·(repeat ((first | refine Va ?_ | refine Vb ?_ | refine Vc ?_ | refine Vd ?_ | refine Ve ?_ | refine Vf ?_); (try simp only [go_sem,hP]); (repeat refine qJ ?_)))
   (refine WV_ret ?_; simp only [thenQ,inQ,RetQ,RetOk,resAll,resA]; simp only [go_sem,tupA,AV.port,AV.portL,exists_eq_left'])
   refine AVle.tup ?_
   exact ⟨_,_,rfl,AVle.nil 1,_,_,rfl,AVle.refl _,rfl⟩
  ·simp at h; exact (h0 h).elim
end Go.Proofs.YtlmfdmlochpfcaaDoor

namespace Go.Proofs.YtlmfdmlochpfcaaDoor
open Go Go.V
abbrev o51_0:List Ins:=[⟨some 2,.mv (.k (.c (.raw (.slice none 0 0)))),none,true⟩]
abbrev o51_1:List Ins:=[⟨some 6,.mv (.t 0),none,true⟩,
 ⟨some 7,.len (.t 6),none,true⟩,
 ⟨some 8,.mv (.k (.c (.int .i64 0))),none,true⟩]
abbrev o51_2:List Ins:=[⟨some 9,.bin .lss (.t 8) (.t 7),none,true⟩]
abbrev o51_3:List Ins:=[⟨some 10,.mv (.t 8),none,true⟩,
 ⟨some 3,.mv (.t 10),none,true⟩]
abbrev o51_4:List Ins:=[⟨some 12,.mv (.t 0),none,true⟩,
 ⟨some 13,.mv (.t 3),none,true⟩,
 ⟨some 14,.ia 1 (.t 12) (.t 13),none,true⟩,
 ⟨some 15,.ld true 1 (.t 14),none,true⟩,
 ⟨some 16,.call (.k (.fn 69 [])) [(.t 15)],none,true⟩,
 ⟨some 11,.mv (.t 16),none,true⟩,
 ⟨some 17,.ext (.t 11) 0,none,true⟩,
 ⟨some 18,.ext (.t 11) 1,none,true⟩,
 ⟨some 4,.mv (.t 17),none,true⟩,
 ⟨some 5,.mv (.t 18),none,true⟩]
abbrev o51_5:List Ins:=[⟨some 19,.mv (.t 5),none,true⟩,
 ⟨some 20,.bin .gtr (.t 19) (.k (.c (.int .i64 0))),none,true⟩]
abbrev o51_6:List Ins:=[⟨some 21,.mv (.t 2),none,true⟩,
 ⟨some 22,.mv (.t 3),none,true⟩,
 ⟨some 23,.bsl 3 1 [(.t 22)],none,true⟩,
 ⟨some 24,.app 3 1 8 (.t 21) (.t 23),none,true⟩,
 ⟨some 2,.mv (.t 24),none,true⟩]
abbrev v51_7:VC:=(.cond (.t 20) (.ops o51_6) .skip)
abbrev v51_8:VC:=(.seq (.ops o51_5) v51_7)
abbrev v51_9:VC:=(.seq (.ops o51_4) v51_8)
abbrev v51_10:VC:=(.seq (.ops o51_3) v51_9)
abbrev o51_11:List Ins:=[⟨some 25,.bin .add (.t 8) (.k (.c (.int .i64 1))),none,true⟩,
 ⟨some 8,.mv (.t 25),none,true⟩]
abbrev v51_12:VC:=(.seq (.block 1 v51_10) (.ops o51_11))
abbrev v51_13:VC:=(.seq (.cond (.t 9) .skip (.exit 0)) v51_12)
abbrev v51_14:VC:=(.seq (.ops o51_2) v51_13)
-- K51_1: changed and kept: [8,2]
abbrev v51_15:VC:=(.loop v51_14)
abbrev v51_16:VC:=(.block 0 v51_15)
abbrev o51_17:List Ins:=[⟨some 26,.mv (.t 2),none,true⟩,
 ⟨some 2,.mv (.t 26),none,true⟩]
abbrev v51_18:VC:=(.seq (.ops o51_17) .ret)
abbrev v51_19:VC:=(.seq (.seq (.ops o51_1) v51_16) v51_18)
def ir51:FC:=⟨1,27,[.t 2],(.seq (.ops o51_0) v51_19)⟩
theorem c51:compM Tryd.prog [] 51 = some ir51:=by kernel_rfl
attribute [local go_sem] Nat.reduceEqDiff Nat.reduceAdd Nat.reduceMul reduceIte Nat.reduceLeDiff Nat.reduceLT Nat.reduceBEq reduceCtorEq
def intsV (l:List Nat):CD:=.sl 1 (l.map fun i:Nat => [CD.int .i64 (i:Int)])
theorem ints_one (ts:List Nat):((ts.map fun t:Nat => [CD.int .i64 (t:Int)]).all fun e => e.length == 1) = true:=by
 rw [List.all_eq_true]; intro e he; obtain ⟨n,_,rfl⟩:=List.mem_map.1 he; rfl
def wrngL (g:List (List Int)) (LL:List (List (Nat × Nat))) (k:Nat):List Nat:=(List.range k).filter fun i => decide (0 < lackL g (LL.getD i []))
theorem wrngL_snoc (g:List (List Int)) {LL:List (List (Nat × Nat))} {k:Nat} (h:k < LL.length):wrngL g LL (k + 1) = wrngL g LL k ++ (if 0 < lackL g LL[k] then [k] else []):=by
 have e:LL.getD k [] = LL[k]:=by rw [List.getD_eq_getElem?_getD,List.getElem?_eq_getElem h]; rfl
 unfold wrngL
 rw [List.range_succ,List.filter_append,List.filter_cons,e]
 simp
theorem wrngL_len (g:List (List Int)) (LL:List (List (Nat × Nat))) (k:Nat):(wrngL g LL k).length ≤ k:=by
 have:=List.length_filter_le (fun i => decide (0 < lackL g (LL.getD i []))) (List.range k)
 unfold wrngL
 simpa using this
set_option maxRecDepth 20000 in
set_option maxHeartbeats 8000000 in
theorem bad51 (bs:Nat → Nat) {R:List BRow} {w:Nat} (hR:ROk R w) (hb:BRs R) {LL:List (List (Nat × Nat))} (hL0:LOk R LL) {j:Nat}:FSpecB Tryd.prog 51 bs [.c (linesV bs LL)] (gridL bcd 1 R j) (fun r l' => r = .c (intsV (wrngL (gv R) LL LL.length)) ∧ l' = gridL bcd 1 R j):=by
 have hmax:maxLen = 9223372036854775807:=rfl
 have hl:=hR.len
 have hmany:=hL0.many
 refine FSpecB_of c51 gridL_bx (by rw [gridL_len]; omega) (Nat.le_refl _) (by decide) (by decide) fun C hP hN hC hat hL => ?_
 rw [init_env',ownW_grid (by omega)]
 simp only [ir51,updL,Nat.reduceAdd]
 rw [gridL_len] at hat
 refine WV_seq_ ?_
 (refine WV_op ?_; simp only [go_sem,hP]; (repeat refine qJ ?_))
 refine WV_nilslot 2 24 3 1 (by decide) (by decide) (by rw [gown_lo (by decide)]; rfl) rfl ?_
 rw [prgO_gown (by decide),gown_upd (by decide)]
 (repeat ((first | refine Va ?_ | refine Vb ?_ | refine Vc ?_ | refine Vd ?_ | refine Ve ?_ | refine Vf ?_); (try simp only [go_sem,hP,linesV,List.length_map]); (repeat refine qJ ?_)))
 refine WV_loopS (fun k:Nat => ⟨upd (upd (upd (upd e0 0 (.c (linesV bs LL))) 7 (iv LL.length)) 8 (iv k)) 2 (.gr 24),gown bcd 1 R j (upd o0 24 (.grow 3 1 ((wrngL (gv R) LL k).map fun i:Nat => [CD.int .i64 (i:Int)])))⟩) (fun k => k ≤ LL.length) (fun k => LL.length - k) 0 (Nat.zero_le _) ?_ ?_
 ·exact Sub_of (by ((repeat' (first | exact EnvLe_e0 _ _ | refine EnvLe_upd ?_ ?_)) <;> ((try simp only [upd_app,e0_app,o0_app,Nat.reduceEqDiff,reduceIte]); first | exact AWk.refl _ _ | exact AWk.int (by omega) | exact AWk.int (by rw [w64 (by omega) (by omega)]; omega) | exact AWk.grow rfl | exact AWk.nil _ | exact AWk.of (by simp [linesV])))) (ObLe_gown (by exact ObjLe_au))
 ·intro k hk
  (repeat ((first | refine Va ?_ | refine Vb ?_ | refine Vc ?_ | refine Vd ?_ | refine Ve ?_ | refine Vf ?_); (try simp only [go_sem,hP]); (repeat refine qJ ?_)))
  (refine WV_cond rfl (fun h => ?_) (fun h => ?_))
  ·have hk2:k < LL.length:=by simpa using h
   have hw2:=w64 (n:=(k:Int) + 1) (by omega) (by omega)
   have hmem:=List.getElem_mem hk2
   have hst:=state69 bs hR hb (hL0.inr _ hmem) (hL0.len _ hmem) (j:=j)
   have hlk:=lack_rng (gv R) LL[k]
   have hsn:=wrngL_snoc (gv R) hk2
   have hbl:=wrngL_len (gv R) LL k
   have h1:=ints_one (wrngL (gv R) LL k)
   have hgd:(LL.map fun l => [lineV bs l]).getD k [] = [lineV bs LL[k]]:=by rw [List.getD_eq_getElem?_getD,List.getElem?_map,List.getElem?_eq_getElem hk2]; rfl
   generalize lackL (gv R) LL[k] = la at hst hlk hsn
   (refine WV_skip ?_; simp only [go_sem])
   refine WV_seq_ (WV_block (WV_seq_ ?_))
   (refine WV_op ?_; simp only [go_sem,hP]; (repeat refine qJ ?_))
   refine WV_seq_ ?_
   (refine WV_split 4 ?_; simp only [List.take_succ_cons,List.take_zero,List.take_nil,List.drop_succ_cons,List.drop_zero,List.drop_nil]; simp only [go_sem,hP,linesV,hgd,List.length_map,Int.toNat_natCast,Int.ofNat_lt,hk2,Int.natCast_nonneg]; (repeat refine qJ ?_))
   (refine SOps_grid hP (hst) hat rfl rfl rfl (by simp only [List.map_cons,List.map_nil,List.append_nil,List.nil_append,List.cons_append]; simp only [go_sem,AV.lendL,lend_grid,AV.lend]; first | done | rfl) ?_)
   rintro r l' ⟨rfl,rfl⟩
   refine ⟨R,rfl,rfl,rfl,?_⟩
   (refine SOps_ops ?_; simp only [go_sem,hP]; (repeat refine qJ ?_))
   (repeat ((first | refine Va ?_ | refine Vb ?_ | refine Vc ?_ | refine Vd ?_ | refine Ve ?_ | refine Vf ?_); (try simp only [go_sem,hP]); (repeat refine qJ ?_)))
   by_cases h0:0 < la
   ·rw [if_pos h0] at hsn
    have hsn3:((wrngL (gv R) LL (k + 1)).map fun i:Nat => [CD.int .i64 (i:Int)]) = ((wrngL (gv R) LL k).map fun i:Nat => [CD.int .i64 (i:Int)]) ++ [[CD.int .i64 (k:Int)]]:=by rw [hsn,List.map_append]; rfl
    (refine WV_cond rfl (fun h => ?_) (fun h => ?_))
    ·(repeat ((first | refine Va ?_ | refine Vb ?_ | refine Vc ?_ | refine Vd ?_ | refine Ve ?_ | refine Vf ?_); (try simp only [go_sem,hP,gown_lo,gown_upd,prgO_gown,h1,List.length_map,hbl,hw2]); (repeat refine qJ ?_)))
     refine ⟨k + 1,by omega,by omega,?_⟩
     rw [hsn3]
     exact Sub_of (by ((repeat' (first | exact EnvLe_e0 _ _ | refine EnvLe_upd ?_ ?_)) <;> ((try simp only [upd_app,e0_app,o0_app,Nat.reduceEqDiff,reduceIte]); first | exact AWk.refl _ _ | exact AWk.int (by omega) | exact AWk.int (by rw [w64 (by omega) (by omega)]; omega) | exact AWk.grow rfl | exact AWk.nil _ | exact AWk.of (by simp [linesV])))) (ObLe_gown (by exact ObjLe_au))
    ·simp at h; omega
   ·rw [if_neg h0,List.append_nil] at hsn
    (refine WV_cond rfl (fun h => ?_) (fun h => ?_))
    ·simp at h; omega
    ·(repeat ((first | refine Va ?_ | refine Vb ?_ | refine Vc ?_ | refine Vd ?_ | refine Ve ?_ | refine Vf ?_); (try simp only [go_sem,hP,hw2]); (repeat refine qJ ?_)))
     refine ⟨k + 1,by omega,by omega,?_⟩
     rw [hsn]
     exact Sub_of (by ((repeat' (first | exact EnvLe_e0 _ _ | refine EnvLe_upd ?_ ?_)) <;> ((try simp only [upd_app,e0_app,o0_app,Nat.reduceEqDiff,reduceIte]); first | exact AWk.refl _ _ | exact AWk.int (by omega) | exact AWk.int (by rw [w64 (by omega) (by omega)]; omega) | exact AWk.grow rfl | exact AWk.nil _ | exact AWk.of (by simp [linesV])))) (ObLe_gown (by exact ObjLe_au))
  ·have h:k = LL.length:=by simp at h; omega
   subst h
   (repeat ((first | refine Va ?_ | refine Vb ?_ | refine Vc ?_ | refine Vd ?_ | refine Ve ?_ | refine Vf ?_); (try simp only [go_sem,hP,gown_lo]); (repeat refine qJ ?_)))
   (refine WV_ret ?_; simp only [thenQ,inQ,RetQL,RetOkL,resAll,resA]; simp only [go_sem,tupA,AV.keepP,AV.keepPL,gown_lo]; refine ⟨_,gridL bcd 1 R j,rfl,KeepL_grid rfl (by omega),?_⟩)
   exact ⟨rfl,rfl⟩
end Go.Proofs.YtlmfdmlochpfcaaDoor

namespace Go.Proofs.YtlmfdmlochpfcaaDoor
open Go Go.V
theorem segB_mem (b:UInt8):∀ (s:List UInt8),∀ l ∈ segB b s,∀ x ∈ l,x ∈ s
 | [],l,hl,x,hx => by
  simp only [segB,List.mem_singleton] at hl
  subst hl; cases hx
 | y :: s,l,hl,x,hx => by
  have ih:=segB_mem b s
  unfold segB at hl
  split at hl
  ·rcases List.mem_cons.1 hl with rfl | hl
   ·cases hx
   ·exact List.mem_cons_of_mem _ (ih l hl x hx)
  ·split at hl
   ·rename_i h t he
    rw [he] at ih
    rcases List.mem_cons.1 hl with rfl | hl
    ·rcases List.mem_cons.1 hx with rfl | hx
     ·simp
     ·exact List.mem_cons_of_mem _ (ih h (by simp) x hx)
    ·exact List.mem_cons_of_mem _ (ih l (by simp [hl]) x hx)
   ·simp only [List.mem_singleton] at hl
    subst hl
    simp only [List.mem_singleton] at hx
    subst hx; simp
theorem parse_mem {s:List UInt8} {rows:List (List UInt8)} (h:parseP s = some rows):∀ l ∈ rows,∀ x ∈ l,x ∈ s:=by
 unfold parseP at h
 split at h
 ·split at h
  ·simp only [Option.some.injEq] at h
   subst h
   intro l hl x hx
   exact (List.dropLast_sublist s).subset (segB_mem 10 _ l hl x hx)
  ·cases h
 ·cases h
def mendAt (n w:Nat) (g:List (List Int)) (p:Nat × Nat):List (List Int):=setG (setG g p (-1)) p (lackL (setG g p (-1)) (posL n w p.1 true))
theorem filter_one:∀ {w c:Nat},c < w → (List.range w).filter (fun k => k == c) = [c]
 | 0,c,h => by omega
 | w + 1,c,h => by
  rw [List.range_succ,List.filter_append]
  by_cases hc:c = w
  ·subst hc
   have:(List.range c).filter (fun k => k == c) = []:=by
    rw [List.filter_eq_nil_iff]; intro k hk; simp at hk ⊢; omega
   rw [this]; simp
  ·rw [filter_one (by omega:c < w)]
   have:(w == c) = false:=by simp; omega
   simp [this]
theorem fill_mend {R:List BRow} {w:Nat} (hR:ROk R w) (hb:BRs R) {a c:Nat} (ha:a < R.length) (hc:c < w) (hno:∀ i k,i < R.length → k < w → valAt (gv R) (i,k) ≠ -1) :
  ROk (putB R (a,c) 63) w ∧ BRs (putB R (a,c) 63) ∧ ROk (fillR (putB R (a,c) 63) (posL R.length w a true)) w ∧ BRs (fillR (putB R (a,c) 63) (posL R.length w a true)) ∧ gv (fillR (putB R (a,c) 63) (posL R.length w a true)) = mendAt R.length w (gv R) (a,c) ∧ (fillR (putB R (a,c) 63) (posL R.length w a true)).length = R.length ∧ refs 1001 1 0 (fillR (putB R (a,c) 63) (posL R.length w a true)) = refs 1001 1 0 R:=by
 have hR1:=putB_ok hR (a,c) 63
 have hb1:BRs (putB R (a,c) 63):=putB_bytes hb _ (by unfold BOk; decide)
 have hg1:gv (putB R (a,c) 63) = setG (gv R) (a,c) (-1):=putB_gv (p:=(a,c)) (v:=63) ha
 have hgw:=hR.gow hb
 have hlo:lostL (gv (putB R (a,c) 63)) (posL R.length w a true) = [(a,c)]:=by
  rw [hg1]
  have e:∀ k,k < w → (valAt (setG (gv R) (a,c) (-1)) (a,k) == -1) = (k == c):=by
   intro k hk
   rw [valAt_set]
   have h1:=hgw.len
   have h2:=hgw.row a ha
   by_cases hkc:k = c
   ·subst hkc
    rw [if_pos ⟨rfl,by rw [h1]; exact ha,by simp only; rw [h2]; exact hk⟩]; simp
   ·rw [if_neg (fun h => hkc (by have:=h.1; simp at this; omega))]
    have h3:=hno a k ha hk
    have:(k == c) = false:=by simpa using hkc
    rw [this]; simpa using h3
  unfold lostL posL
  simp only [if_true]
  rw [List.filter_map]
  have:(List.range w).filter ((fun m => valAt (setG (gv R) (a,c) (-1)) m == -1) ∘ fun k => (a,k)) = (List.range w).filter (fun k => k == c):=by
   apply List.filter_congr
   intro k hk
   exact e k (by simpa using hk)
  rw [this,filter_one hc]; rfl
 have hfr:fillR (putB R (a,c) 63) (posL R.length w a true) = putB (putB R (a,c) 63) (a,c) (sgn (lackL (gv (putB R (a,c) 63)) (posL R.length w a true))):=by
  unfold fillR
  rw [hlo]; rfl
 have hsg:=sgn_ok (lack_rng (gv (putB R (a,c) 63)) (posL R.length w a true))
 have ha1:a < (putB R (a,c) 63).length:=by rw [putB_len]; exact ha
 rw [hfr]
 refine ⟨hR1,hb1,putB_ok hR1 _ _,putB_bytes hb1 _ hsg.1,?_,by rw [putB_len,putB_len],by rw [putB_refs,putB_refs]⟩
 have:=putB_gv (R:=putB R (a,c) 63) (p:=(a,c)) (v:=sgn (lackL (gv (putB R (a,c) 63)) (posL R.length w a true))) ha1
 rw [this,hsg.2,hg1]; rfl
theorem noq {R:List BRow} {w:Nat} {s:List UInt8} (hR:ROk R w) (hb:BRs R) (hp:parseP s = some (R.map Row.l)) (hc:s.contains 63 = false):∀ i k,i < R.length → k < w → valAt (gv R) (i,k) ≠ -1:=by
 intro i k hi hk hv
 have hk':k < (R[i]).l.length:=by rw [hR.row i hi]; exact hk
 rw [gv_at hi hk'] at hv
 have h63:=(vq_lost (hb i hi k hk')).1 hv
 have hm:=parse_mem hp _ (List.mem_map_of_mem (List.getElem_mem hi)) _ (List.getElem_mem hk')
 have:(R[i]).l[k] = 63:=UInt8.toNat_inj.1 h63
 rw [this] at hm
 have:s.contains 63 = true:=by simpa using hm
 rw [hc] at this; cases this
end Go.Proofs.YtlmfdmlochpfcaaDoor

namespace Go.Proofs.YtlmfdmlochpfcaaDoor
open Go Go.V
abbrev o23_0:List Ins:=[⟨some 2,.alloc [(.c (.int .i64 0)),(.c (.int .i64 0))],none,true⟩,
 ⟨some 3,.mv (.k (.c (.str []))),none,true⟩,
 ⟨some 4,.mv (.k (.c (.int .i64 0))),none,true⟩]
abbrev o23_1:List Ins:=[⟨some 11,.mv (.t 0),none,true⟩,
 ⟨some 12,.call (.k (.fn 48 [])) [(.t 11)],none,true⟩,
 ⟨some 10,.mv (.t 12),none,true⟩,
 ⟨some 13,.ext (.t 10) 0,none,true⟩,
 ⟨some 14,.ext (.t 10) 1,none,true⟩,
 ⟨some 5,.mv (.t 13),none,true⟩,
 ⟨some 4,.mv (.t 14),none,true⟩]
abbrev o23_2:List Ins:=[⟨some 15,.mv (.t 4),none,true⟩,
 ⟨some 16,.bin .neq (.t 15) (.k (.c (.int .i64 0))),none,true⟩]
abbrev o23_3:List Ins:=[⟨some 17,.ld false 2 (.t 2),none,true⟩,
 ⟨some 18,.mv (.t 4),none,true⟩,
 ⟨none,.st 2 (.t 2) (.t 17),none,true⟩,
 ⟨some 3,.mv (.k (.c (.str []))),none,true⟩,
 ⟨some 4,.mv (.t 18),none,true⟩]
abbrev v23_4:VC:=(.seq (.ops o23_3) .ret)
abbrev v23_5:VC:=(.cond (.t 16) v23_4 .skip)
abbrev o23_6:List Ins:=[⟨some 19,.mv (.t 0),none,true⟩,
 ⟨some 20,.call (.k (.fn 49 [])) [(.t 19),(.k (.c (.str [63])))],none,true⟩]
abbrev o23_7:List Ins:=[⟨some 21,.ld false 2 (.t 2),none,true⟩,
 ⟨none,.st 2 (.t 2) (.t 21),none,true⟩,
 ⟨some 3,.mv (.k (.c (.str []))),none,true⟩,
 ⟨some 4,.mv (.k (.c (.int .i64 141))),none,true⟩]
abbrev v23_8:VC:=(.seq (.ops o23_7) .ret)
abbrev v23_9:VC:=(.cond (.t 20) v23_8 .skip)
abbrev o23_10:List Ins:=[⟨some 22,.mv (.t 5),none,true⟩,
 ⟨some 23,.call (.k (.fn 50 [])) [(.t 22)],none,true⟩,
 ⟨some 6,.mv (.t 23),none,true⟩]
abbrev t23_11:OT:=(.cons ⟨some 24,.mv (.t 6),none,false⟩
 (.cons ⟨some 25,.mv (.t 5),none,false⟩
 (.cons ⟨some 26,.len (.t 25),none,false⟩
 (.cons ⟨some 27,.slc 1 (.t 24) none (some (.t 26)),none,false⟩
 (.br [(.cons ⟨some 28,.call (.k (.fn 51 [])) [(.t 27)],none,true⟩
  (.cons ⟨some 29,.mv (.t 6),none,false⟩
  (.cons ⟨some 30,.mv (.t 5),none,false⟩
  (.cons ⟨some 31,.len (.t 30),none,false⟩
  (.cons ⟨some 32,.slc 1 (.t 29) (some (.t 31)) none,none,false⟩
  (.cons ⟨some 33,.call (.k (.fn 51 [])) [(.t 32)],none,true⟩
  (.cons ⟨some 7,.mv (.t 28),none,true⟩
  (.cons ⟨some 8,.mv (.t 33),none,true⟩
  .nil)))))))),(.cons ⟨some 29,.mv (.t 6),none,false⟩
  (.br [(.cons ⟨some 28,.call (.k (.fn 51 [])) [(.t 27)],none,true⟩
   (.cons ⟨some 30,.mv (.t 5),none,false⟩
   (.cons ⟨some 31,.len (.t 30),none,false⟩
   (.cons ⟨some 32,.slc 1 (.t 29) (some (.t 31)) none,none,false⟩
   (.cons ⟨some 33,.call (.k (.fn 51 [])) [(.t 32)],none,true⟩
   (.cons ⟨some 7,.mv (.t 28),none,true⟩
   (.cons ⟨some 8,.mv (.t 33),none,true⟩
   .nil))))))),(.cons ⟨some 30,.mv (.t 5),none,false⟩
   (.br [(.cons ⟨some 28,.call (.k (.fn 51 [])) [(.t 27)],none,true⟩
    (.cons ⟨some 31,.len (.t 30),none,false⟩
    (.cons ⟨some 32,.slc 1 (.t 29) (some (.t 31)) none,none,false⟩
    (.cons ⟨some 33,.call (.k (.fn 51 [])) [(.t 32)],none,true⟩
    (.cons ⟨some 7,.mv (.t 28),none,true⟩
    (.cons ⟨some 8,.mv (.t 33),none,true⟩
    .nil)))))),(.cons ⟨some 31,.len (.t 30),none,false⟩
    (.br [(.cons ⟨some 28,.call (.k (.fn 51 [])) [(.t 27)],none,true⟩
     (.cons ⟨some 32,.slc 1 (.t 29) (some (.t 31)) none,none,false⟩
     (.cons ⟨some 33,.call (.k (.fn 51 [])) [(.t 32)],none,true⟩
     (.cons ⟨some 7,.mv (.t 28),none,true⟩
     (.cons ⟨some 8,.mv (.t 33),none,true⟩
     .nil))))),(.cons ⟨some 32,.slc 1 (.t 29) (some (.t 31)) none,none,false⟩
     (.cons ⟨some 28,.call (.k (.fn 51 [])) [(.t 27)],none,true⟩
     (.cons ⟨some 33,.call (.k (.fn 51 [])) [(.t 32)],none,true⟩
     (.cons ⟨some 7,.mv (.t 28),none,true⟩
     (.cons ⟨some 8,.mv (.t 33),none,true⟩
     .nil)))))]))]))])),(.cons ⟨some 30,.mv (.t 5),none,false⟩
  (.br [(.cons ⟨some 28,.call (.k (.fn 51 [])) [(.t 27)],none,true⟩
   (.cons ⟨some 29,.mv (.t 6),none,false⟩
   (.cons ⟨some 31,.len (.t 30),none,false⟩
   (.cons ⟨some 32,.slc 1 (.t 29) (some (.t 31)) none,none,false⟩
   (.cons ⟨some 33,.call (.k (.fn 51 [])) [(.t 32)],none,true⟩
   (.cons ⟨some 7,.mv (.t 28),none,true⟩
   (.cons ⟨some 8,.mv (.t 33),none,true⟩
   .nil))))))),(.cons ⟨some 29,.mv (.t 6),none,false⟩
   (.br [(.cons ⟨some 28,.call (.k (.fn 51 [])) [(.t 27)],none,true⟩
    (.cons ⟨some 31,.len (.t 30),none,false⟩
    (.cons ⟨some 32,.slc 1 (.t 29) (some (.t 31)) none,none,false⟩
    (.cons ⟨some 33,.call (.k (.fn 51 [])) [(.t 32)],none,true⟩
    (.cons ⟨some 7,.mv (.t 28),none,true⟩
    (.cons ⟨some 8,.mv (.t 33),none,true⟩
    .nil)))))),(.cons ⟨some 31,.len (.t 30),none,false⟩
    (.br [(.cons ⟨some 28,.call (.k (.fn 51 [])) [(.t 27)],none,true⟩
     (.cons ⟨some 32,.slc 1 (.t 29) (some (.t 31)) none,none,false⟩
     (.cons ⟨some 33,.call (.k (.fn 51 [])) [(.t 32)],none,true⟩
     (.cons ⟨some 7,.mv (.t 28),none,true⟩
     (.cons ⟨some 8,.mv (.t 33),none,true⟩
     .nil))))),(.cons ⟨some 32,.slc 1 (.t 29) (some (.t 31)) none,none,false⟩
     (.cons ⟨some 28,.call (.k (.fn 51 [])) [(.t 27)],none,true⟩
     (.cons ⟨some 33,.call (.k (.fn 51 [])) [(.t 32)],none,true⟩
     (.cons ⟨some 7,.mv (.t 28),none,true⟩
     (.cons ⟨some 8,.mv (.t 33),none,true⟩
     .nil)))))]))])),(.cons ⟨some 31,.len (.t 30),none,false⟩
   (.br [(.cons ⟨some 28,.call (.k (.fn 51 [])) [(.t 27)],none,true⟩
    (.cons ⟨some 29,.mv (.t 6),none,false⟩
    (.cons ⟨some 32,.slc 1 (.t 29) (some (.t 31)) none,none,false⟩
    (.cons ⟨some 33,.call (.k (.fn 51 [])) [(.t 32)],none,true⟩
    (.cons ⟨some 7,.mv (.t 28),none,true⟩
    (.cons ⟨some 8,.mv (.t 33),none,true⟩
    .nil)))))),(.cons ⟨some 29,.mv (.t 6),none,false⟩
    (.br [(.cons ⟨some 28,.call (.k (.fn 51 [])) [(.t 27)],none,true⟩
     (.cons ⟨some 32,.slc 1 (.t 29) (some (.t 31)) none,none,false⟩
     (.cons ⟨some 33,.call (.k (.fn 51 [])) [(.t 32)],none,true⟩
     (.cons ⟨some 7,.mv (.t 28),none,true⟩
     (.cons ⟨some 8,.mv (.t 33),none,true⟩
     .nil))))),(.cons ⟨some 32,.slc 1 (.t 29) (some (.t 31)) none,none,false⟩
     (.cons ⟨some 28,.call (.k (.fn 51 [])) [(.t 27)],none,true⟩
     (.cons ⟨some 33,.call (.k (.fn 51 [])) [(.t 32)],none,true⟩
     (.cons ⟨some 7,.mv (.t 28),none,true⟩
     (.cons ⟨some 8,.mv (.t 33),none,true⟩
     .nil)))))]))]))]))])))))
abbrev o23_12:List Ins:=[⟨some 34,.mv (.t 7),none,true⟩,
 ⟨some 35,.len (.t 34),none,true⟩,
 ⟨some 36,.mv (.t 8),none,true⟩,
 ⟨some 37,.len (.t 36),none,true⟩,
 ⟨some 38,.bin .add (.t 35) (.t 37),none,true⟩,
 ⟨some 39,.bin .eql (.t 38) (.k (.c (.int .i64 0))),none,true⟩]
abbrev o23_13:List Ins:=[⟨some 40,.ld false 2 (.t 2),none,true⟩,
 ⟨none,.st 2 (.t 2) (.t 40),none,true⟩,
 ⟨some 3,.mv (.k (.c (.str []))),none,true⟩,
 ⟨some 4,.mv (.k (.c (.int .i64 3))),none,true⟩]
abbrev v23_14:VC:=(.seq (.ops o23_13) .ret)
abbrev v23_15:VC:=(.cond (.t 39) v23_14 .skip)
abbrev o23_16:List Ins:=[⟨some 41,.mv (.t 7),none,true⟩,
 ⟨some 42,.len (.t 41),none,true⟩,
 ⟨some 43,.bin .neq (.t 42) (.k (.c (.int .i64 1))),none,true⟩,
 ⟨some 44,.mv (.t 43),none,true⟩,
 ⟨some 45,.mv (.t 8),(some (44,false)),true⟩,
 ⟨some 46,.len (.t 45),(some (44,false)),true⟩,
 ⟨some 47,.bin .neq (.t 46) (.k (.c (.int .i64 1))),(some (44,false)),true⟩,
 ⟨some 48,.pick (.t 44) (.k (.c (.bool true))) (.t 47),none,true⟩]
abbrev o23_17:List Ins:=[⟨some 49,.ld false 2 (.t 2),none,true⟩,
 ⟨none,.st 2 (.t 2) (.t 49),none,true⟩,
 ⟨some 3,.mv (.k (.c (.str []))),none,true⟩,
 ⟨some 4,.mv (.k (.c (.int .i64 142))),none,true⟩]
abbrev v23_18:VC:=(.seq (.ops o23_17) .ret)
abbrev v23_19:VC:=(.cond (.t 48) v23_18 .skip)
abbrev o23_20:List Ins:=[⟨some 50,.mv (.t 7),none,false⟩,
 ⟨some 51,.ia 1 (.t 50) (.k (.c (.int .i64 0))),none,false⟩,
 ⟨some 52,.ld true 1 (.t 51),none,false⟩,
 ⟨some 53,.mv (.t 8),none,false⟩,
 ⟨some 54,.ia 1 (.t 53) (.k (.c (.int .i64 0))),none,false⟩,
 ⟨some 55,.ld true 1 (.t 54),none,false⟩,
 ⟨some 56,.bld [(.c (.int .i64 0)),(.c (.int .i64 0))] [(0,1,(.t 52)),(1,1,(.t 55))],none,true⟩,
 ⟨none,.st 2 (.t 2) (.t 56),none,true⟩]
abbrev o23_21:List Ins:=[⟨some 57,.mv (.t 5),none,false⟩,
 ⟨some 58,.fa 0 (.t 2),none,false⟩,
 ⟨some 59,.ld true 1 (.t 58),none,false⟩,
 ⟨some 60,.ia 1 (.t 57) (.t 59),none,false⟩,
 ⟨some 61,.ld true 1 (.t 60),none,false⟩,
 ⟨some 62,.fa 1 (.t 2),none,false⟩,
 ⟨some 63,.ld true 1 (.t 62),none,false⟩,
 ⟨some 64,.ia 1 (.t 61) (.t 63),none,true⟩,
 ⟨some 9,.mv (.t 64),none,true⟩]
abbrev o23_22:List Ins:=[⟨some 65,.mv (.t 9),none,true⟩,
 ⟨some 66,.nilc (.t 65),none,true⟩,
 ⟨none,.st 1 (.t 66) (.k (.c (.int .u8 63))),none,true⟩]
abbrev o23_23:List Ins:=[⟨some 67,.mv (.t 5),none,true⟩,
 ⟨some 68,.fa 0 (.t 2),none,true⟩,
 ⟨some 69,.ld true 1 (.t 68),none,true⟩,
 ⟨some 70,.call (.k (.fn 52 [])) [(.t 67),(.t 69)],none,true⟩,
 ⟨some 71,.call (.k (.fn 53 [])) [(.t 70)],none,true⟩]
abbrev o23_24:List Ins:=[⟨some 72,.mv (.t 5),none,true⟩,
 ⟨some 73,.call (.k (.fn 50 [])) [(.t 72)],none,true⟩,
 ⟨some 74,.call (.k (.fn 51 [])) [(.t 73)],none,true⟩,
 ⟨some 75,.len (.t 74),none,true⟩,
 ⟨some 76,.bin .gtr (.t 75) (.k (.c (.int .i64 0))),none,true⟩]
abbrev o23_25:List Ins:=[⟨some 77,.bld [(.c (.int .i64 0)),(.c (.int .i64 0))] [],none,true⟩,
 ⟨none,.st 2 (.t 2) (.t 77),none,true⟩,
 ⟨some 3,.mv (.k (.c (.str []))),none,true⟩,
 ⟨some 4,.mv (.k (.c (.int .i64 142))),none,true⟩]
abbrev v23_26:VC:=(.seq (.ops o23_25) .ret)
abbrev v23_27:VC:=(.cond (.t 76) v23_26 .skip)
abbrev o23_28:List Ins:=[⟨some 78,.ld false 2 (.t 2),none,false⟩,
 ⟨some 79,.mv (.t 5),none,false⟩,
 ⟨some 80,.call (.k (.fn 45 [])) [(.t 79)],none,false⟩,
 ⟨none,.st 2 (.t 2) (.t 78),none,true⟩,
 ⟨some 3,.mv (.t 80),none,true⟩,
 ⟨some 4,.mv (.k (.c (.int .i64 0))),none,true⟩]
abbrev v23_29:VC:=(.seq (.dops o23_28) .ret)
abbrev v23_30:VC:=(.seq (.seq (.ops o23_24) v23_27) v23_29)
abbrev v23_31:VC:=(.seq (.ops o23_23) v23_30)
abbrev v23_32:VC:=(.seq (.ops o23_22) v23_31)
abbrev v23_33:VC:=(.seq (.dops o23_21) v23_32)
abbrev v23_34:VC:=(.seq (.dops o23_20) v23_33)
abbrev v23_35:VC:=(.seq (.seq (.ops o23_16) v23_19) v23_34)
abbrev v23_36:VC:=(.seq (.seq (.ops o23_12) v23_15) v23_35)
abbrev v23_37:VC:=(.seq (.drw t23_11) v23_36)
abbrev v23_38:VC:=(.seq (.ops o23_10) v23_37)
abbrev v23_39:VC:=(.seq (.seq (.ops o23_6) v23_9) v23_38)
abbrev v23_40:VC:=(.seq (.seq (.ops o23_2) v23_5) v23_39)
abbrev v23_41:VC:=(.seq (.ops o23_1) v23_40)
def ir23:FC:=⟨1,81,[.cell 2 false 2,.t 3,.t 4],(.seq (.ops o23_0) v23_41)⟩
theorem c23:compM Tryd.prog [28] 23 = some ir23:=by kernel_rfl
attribute [local go_sem] Nat.reduceEqDiff Nat.reduceAdd Nat.reduceMul reduceIte Nat.reduceLeDiff Nat.reduceLT Nat.reduceBEq reduceCtorEq
def wrongB (n w:Nat) (g:List (List Int)) (t:Bool):List Nat:=if t then wrngL g ((allP n w).take n) ((allP n w).take n).length else wrngL g ((allP n w).drop n) ((allP n w).drop n).length
def wrongN (n w:Nat) (g:List (List Int)):(Nat × Nat) × List UInt8 × Int :=
 if (wrongB n w g true).length + (wrongB n w g false).length = 0 then ((0,0),[],3)
 else if (wrongB n w g true).length ≠ 1 ∨ (wrongB n w g false).length ≠ 1 then ((0,0),[],142)
 else if 0 < (wrngL (mendAt n w g ((wrongB n w g true).getD 0 0,(wrongB n w g false).getD 0 0)) (allP n w) (allP n w).length).length then ((0,0),[],142)
 else (((wrongB n w g true).getD 0 0,(wrongB n w g false).getD 0 0),textG (bytesG (mendAt n w g ((wrongB n w g true).getD 0 0,(wrongB n w g false).getD 0 0))),0)
def wrongG (s:List UInt8):(Nat × Nat) × List UInt8 × Int:=match parseP s with
 | none => ((0,0),[],140)
 | some rows => if s.contains 63 then ((0,0),[],141) else wrongN rows.length (rows.headD []).length (valsG rows)
theorem LOk.sub {R:List BRow} {L L':List (List (Nat × Nat))} (h:LOk R L) (hs:∀ l ∈ L',l ∈ L) (hl:L'.length ≤ L.length):LOk R L':=⟨fun l hl => h.inr l (hs l hl),fun l hl => h.len l (hs l hl),Nat.le_trans hl h.many⟩
theorem wrng_rng {g:List (List Int)} {LL:List (List (Nat × Nat))} {k i:Nat} (h:i < (wrngL g LL k).length):(wrngL g LL k).getD i 0 < k:=by
 have:(wrngL g LL k).getD i 0 ∈ wrngL g LL k:=by rw [List.getD_eq_getElem?_getD,List.getElem?_eq_getElem h]; exact List.getElem_mem h
 unfold wrngL at this
 simp only [List.mem_filter,List.mem_range] at this
 exact this.1
theorem allP_len (n w:Nat):(allP n w).length = n + w:=by simp [allP]
set_option maxRecDepth 20000 in
set_option maxHeartbeats 16000000 in
theorem wrong23 (s:List UInt8) (hs:s.length ≤ 100000):FSpec Tryd.prog 23 [sv s] (.tup [.agg [iv (wrongG s).1.1,iv (wrongG s).1.2],.c (.str (wrongG s).2.1),iv (wrongG s).2.2]):=by
 have hmax:maxLen = 9223372036854775807:=rfl
 refine FSpec_ofP c23 (Nat.le_refl _) (by decide) fun C hP hN hC hpin hL => ?_; rw [init_st]
 simp only [ir23]
 refine WV_seq_ ?_
 (refine WV_op ?_; simp only [go_sem,hP]; (repeat refine qJ ?_))
 refine WV_seq_ ?_
 (refine WV_split 1 ?_; simp only [List.take_succ_cons,List.take_zero,List.take_nil,List.drop_succ_cons,List.drop_zero,List.drop_nil]; simp only [go_sem,hP]; (repeat refine qJ ?_))
 refine SOps_parse hP hpin hs rfl rfl rfl rfl (fun n hn => ?_) (fun n hn => ?_) (fun hp => ?_) (fun R j cap hp hcap hmx => ?_)
 ·obtain ⟨k,rfl⟩ : ∃ k,n = k + 1000:=⟨n - 1000,by omega⟩
  simp only [prgE_upd',prgE_e0,AV.prg,ne_add (show (2:Nat) < 1000 by decide),if_false]
 ·refine ⟨?_,by simp only [upd_app,o0_app]; rw [if_neg (by omega)]⟩
  simp only [prgO_upd,prgO_o0,Ob.prg,AV.prg,AV.prgL]
 ·have hwh:wrongG s = ((0,0),[],140):=by unfold wrongG; rw [hp]
  rw [hwh]
  (refine SOps_ops ?_; simp only [go_sem,hP]; (repeat refine qJ ?_))
  (repeat ((first | refine Va ?_ | refine Vb ?_ | refine Vc ?_ | refine Vd ?_ | refine Ve ?_ | refine Vf ?_); (try simp only [go_sem,hP]); (repeat refine qJ ?_)))
  (refine WV_cond rfl (fun h => ?_) (fun h => ?_))
  ·(repeat ((first | refine Va ?_ | refine Vb ?_ | refine Vc ?_ | refine Vd ?_ | refine Ve ?_ | refine Vf ?_); (try simp only [go_sem,hP]); (repeat refine qJ ?_)))
   (refine WV_ret ?_; simp only [thenQ,inQ,RetQ,RetOk,resAll,resA]; simp only [go_sem,tupA,AV.port,AV.portL,exists_eq_left'])
   exact AVle.refl _
  ·simp at h
 ·have hok:=parse_ok hp
  have hwh:wrongG s = if s.contains 63 then ((0,0),[],141) else wrongN (R.map Row.l).length ((R.map Row.l).headD []).length (valsG (R.map Row.l)):=by unfold wrongG; rw [hp]
  obtain ⟨hR,hb⟩:=hok.rok
  have hn:0 < R.length:=by simpa using hok.pos
  have hw2:=hok.w2
  rw [List.length_map,← gv_vals] at hwh
  generalize ((R.map Row.l).headD []).length = w at hok hwh hR hw2
  (refine SOps_ops ?_; simp only [go_sem,hP]; (repeat refine qJ ?_))
  (repeat ((first | refine Va ?_ | refine Vb ?_ | refine Vc ?_ | refine Vd ?_ | refine Ve ?_ | refine Vf ?_); (try simp only [go_sem,hP]); (repeat refine qJ ?_)))
  (refine WV_cond rfl (fun h => ?_) (fun h => ?_))
  ·simp at h
  (repeat ((first | refine Va ?_ | refine Vb ?_ | refine Vc ?_ | refine Vd ?_ | refine Ve ?_ | refine Vf ?_); (try simp only [go_sem,hP]); (repeat refine qJ ?_)))
  (refine AS_pu (contains49 s 63) ?_; simp only [go_sem,hP]; (repeat refine qJ ?_); (repeat ((first | refine Va ?_ | refine Vb ?_ | refine Vc ?_ | refine Vd ?_ | refine Ve ?_ | refine Vf ?_); (try simp only [go_sem,hP]); (repeat refine qJ ?_))))
  by_cases hcn:s.contains 63 = true
  ·rw [hcn,if_pos rfl] at hwh
   rw [hwh,hcn]
   (refine WV_cond rfl (fun h => ?_) (fun h => ?_))
   ·(repeat ((first | refine Va ?_ | refine Vb ?_ | refine Vc ?_ | refine Vd ?_ | refine Ve ?_ | refine Vf ?_); (try simp only [go_sem,hP,gown_lo,gown_upd]); (repeat refine qJ ?_)))
    (refine WV_ret ?_; simp only [thenQ,inQ,RetQ,RetOk,resAll,resA]; simp only [go_sem,tupA,AV.port,AV.portL,exists_eq_left',gown_lo])
    exact AVle.refl _
   ·simp at h
  ·have hcn':s.contains 63 = false:=by simpa using hcn
   rw [hcn',if_neg (by simp)] at hwh
   rw [hwh,hcn']
   (refine WV_cond rfl (fun h => ?_) (fun h => ?_))
   ·simp at h
   (refine WV_skip ?_; simp only [go_sem])
   refine WV_pinGrid (by rw [hN]; decide) (fun C' bs cP cN cO hat => ?_)
   have hP':=cP.trans hP
   have hC':=cO hC
   clear hpin
   replace hP:=hP'
   have hLL:=LOk_all hR
   have hl1:LOk R ((allP R.length w).take R.length):=hLL.sub (fun l hl => List.mem_of_mem_take hl) (by rw [List.length_take]; omega)
   have hl2:LOk R ((allP R.length w).drop R.length):=hLL.sub (fun l hl => List.mem_of_mem_drop hl) (by rw [List.length_drop]; omega)
   have hb1:=bad51 bs hR hb hl1 (j:=j)
   have hb2:=bad51 bs hR hb hl2 (j:=j)
   refine WV_seq_ ?_
   (refine WV_split 1 ?_; simp only [List.take_succ_cons,List.take_zero,List.take_nil,List.drop_succ_cons,List.drop_zero,List.drop_nil]; simp only [go_sem,hP]; (repeat refine qJ ?_))
   (refine SOps_grid hP (lines50 bs hR hn (j:=j) (gcap:=cap)) hat rfl rfl rfl (by simp only [List.map_cons,List.map_nil,List.append_nil,List.nil_append,List.cons_append]; simp only [go_sem,AV.lendL,lend_grid,AV.lend]; first | done | rfl) ?_)
   rintro r l' ⟨rfl,rfl⟩
   refine ⟨R,rfl,rfl,rfl,?_⟩
   (refine SOps_ops ?_; simp only [go_sem,hP]; (repeat refine qJ ?_))
   have hs1:List.drop ((0:Nat):Int).toNat (List.take ((R.length:Nat):Int).toNat ((allP R.length w).map fun l => [lineV bs l])) = ((allP R.length w).take R.length).map fun l => [lineV bs l]:=by rw [Int.toNat_natCast,List.map_take]; rfl
   have hs2:List.drop ((R.length:Nat):Int).toNat (List.take (((allP R.length w).length:Nat):Int).toNat ((allP R.length w).map fun l => [lineV bs l])) = ((allP R.length w).drop R.length).map fun l => [lineV bs l]:=by
    rw [Int.toNat_natCast,Int.toNat_natCast,List.take_of_length_le (by simp),List.map_drop]
   have hal:=allP_len R.length w
   refine WV_mid ⟨upd (upd (upd (upd e0 2 (.bp 2 0)) 5 (.vw 1 1000 0 R.length cap)) 7 (.c (intsV (wrongB R.length w (gv R) true)))) 8 (.c (intsV (wrongB R.length w (gv R) false))),gown bcd 1 R j (upd o0 2 (.box [iv 0,iv 0]))⟩ ?_ ?_
   ·refine WV_drwC ?_
    (refine CTree_split 4 ?_; simp only [OT.takeL,OT.dropL]; simp only [go_sem,hP,linesV,List.length_map,hs1,hs2]; (repeat refine qJ ?_))
    repeat' (first | with_reducible refine CTree_nil ?_ | with_reducible refine CTree_br ?_ | with_reducible refine CTrees_cons ?_ ?_ | with_reducible exact CTrees_nil | (refine CTree_grid (d:=some 28) hP (hb1) hat rfl rfl rfl (by simp only [List.map_cons,List.map_nil,List.append_nil,List.nil_append,List.cons_append]; simp only [go_sem,AV.lendL,lend_grid,AV.lend,linesV]; first | done | (simp only [Int.toNat_natCast,List.map_take]; rfl)) ?_; rintro r l' ⟨rfl,rfl⟩; refine ⟨R,rfl,rfl,rfl,?_⟩; simp only [go_sem]) | (refine CTree_grid (d:=some 33) hP (hb2) hat rfl rfl rfl (by simp only [List.map_cons,List.map_nil,List.append_nil,List.nil_append,List.cons_append]; simp only [go_sem,AV.lendL,lend_grid,AV.lend,linesV]; first | done | (simp only [Int.toNat_natCast,List.map_take]; rfl)) ?_; rintro r l' ⟨rfl,rfl⟩; refine ⟨R,rfl,rfl,rfl,?_⟩; simp only [go_sem]) | (refine CTree_split 1 ?_; simp only [OT.takeL,OT.dropL]; simp only [go_sem,hP,linesV,List.length_map,hs1,hs2]; (repeat refine qJ ?_)))
    all_goals
     show Sub _ _
     exact Sub_of (by ((repeat' (first | exact EnvLe_e0 _ _ | refine EnvLe_upd ?_ ?_)) <;> ((try simp only [upd_app,e0_app,o0_app,Nat.reduceEqDiff,reduceIte]); first | exact AWk.refl _ _ | exact AWk.int (by omega) | exact AWk.int (by rw [w64 (by omega) (by omega)]; omega) | exact AWk.grow rfl | exact AWk.nil _ | exact AWk.of (by simp [wrongB])))) (ObLe_gown (by exact ObjLe_au))
   ·have hG1:∀ i,i < (wrongB R.length w (gv R) true).length → (wrongB R.length w (gv R) true).getD i 0 < R.length:=fun i hi => by
     have:=wrng_rng hi
     have hle:((allP R.length w).take R.length).length ≤ R.length:=by rw [List.length_take]; omega
     simp only [wrongB,if_true]
     exact Nat.lt_of_lt_of_le this hle
    have hG2:∀ i,i < (wrongB R.length w (gv R) false).length → (wrongB R.length w (gv R) false).getD i 0 < w:=fun i hi => by
     have:=wrng_rng hi
     have hle:((allP R.length w).drop R.length).length ≤ w:=by rw [List.length_drop,allP_len]; omega
     simp only [wrongB,Bool.false_eq_true,if_false]
     exact Nat.lt_of_lt_of_le this hle
    have hl1':(wrongB R.length w (gv R) true).length ≤ 1000:=by
     have:=wrngL_len (gv R) ((allP R.length w).take R.length) ((allP R.length w).take R.length).length
     have h3:=hl1.many
     simp only [wrongB,if_true]; omega
    have hl2':(wrongB R.length w (gv R) false).length ≤ 1000:=by
     have:=wrngL_len (gv R) ((allP R.length w).drop R.length) ((allP R.length w).drop R.length).length
     have h3:=hl2.many
     simp only [wrongB,Bool.false_eq_true,if_false]; omega
    unfold wrongN
    generalize wrongB R.length w (gv R) true = W1 at hG1 hl1' ⊢
    generalize wrongB R.length w (gv R) false = W2 at hG2 hl2' ⊢
    have hadd:=w64 (n:=((W1.length:Nat):Int) + ((W2.length:Nat):Int)) (by omega) (by omega)
    refine WV_seq_ ?_
    (repeat ((first | refine Va ?_ | refine Vb ?_ | refine Vc ?_ | refine Vd ?_ | refine Ve ?_ | refine Vf ?_); (try simp only [go_sem,hP,intsV,List.length_map,hadd]); (repeat refine qJ ?_)))
    by_cases h0:W1.length + W2.length = 0
    ·rw [if_pos h0]
     (refine WV_cond rfl (fun h => ?_) (fun h => ?_))
     ·(repeat ((first | refine Va ?_ | refine Vb ?_ | refine Vc ?_ | refine Vd ?_ | refine Ve ?_ | refine Vf ?_); (try simp only [go_sem,hP,gown_lo,gown_upd]); (repeat refine qJ ?_)))
      (refine WV_ret ?_; simp only [thenQ,inQ,RetQ,RetOk,resAll,resA]; simp only [go_sem,tupA,AV.port,AV.portL,exists_eq_left',gown_lo])
      exact AVle.refl _
     ·simp at h; omega
    rw [if_neg h0]
    (refine WV_cond rfl (fun h => ?_) (fun h => ?_))
    ·simp at h; omega
    (repeat ((first | refine Va ?_ | refine Vb ?_ | refine Vc ?_ | refine Vd ?_ | refine Ve ?_ | refine Vf ?_); (try simp only [go_sem,hP,intsV,List.length_map]); (repeat refine qJ ?_)))
    by_cases h1:W1.length ≠ 1 ∨ W2.length ≠ 1
    ·rw [if_pos h1]
     (refine WV_cond rfl (fun h => ?_) (fun h => ?_))
     ·(repeat ((first | refine Va ?_ | refine Vb ?_ | refine Vc ?_ | refine Vd ?_ | refine Ve ?_ | refine Vf ?_); (try simp only [go_sem,hP,gown_lo,gown_upd]); (repeat refine qJ ?_)))
      (refine WV_ret ?_; simp only [thenQ,inQ,RetQ,RetOk,resAll,resA]; simp only [go_sem,tupA,AV.port,AV.portL,exists_eq_left',gown_lo])
      exact AVle.refl _
     ·simp at h; omega
    rw [if_neg h1]
    obtain ⟨a,rfl⟩ : ∃ a,W1 = [a]:=List.length_eq_one_iff.1 (by omega)
    obtain ⟨c,rfl⟩ : ∃ c,W2 = [c]:=List.length_eq_one_iff.1 (by omega)
    have ha:a < R.length:=hG1 0 (by simp)
    have hc:c < w:=hG2 0 (by simp)
    simp only [List.getD_cons_zero]
    (refine WV_cond rfl (fun h => ?_) (fun h => ?_))
    ·simp at h
    have hrow:=hR.row a ha
    have hca:c < (R[a]).l.length:=by omega
    (refine WV_skip ?_; simp only [go_sem])
    refine WV_seq_ ?_
    (refine WV_op ?_; simp only [go_sem,hP,intsV,List.length_map,gown_lo,gown_upd,List.map_cons,List.map_nil,Int.toNat_zero,List.getD_cons_zero]; (repeat refine qJ ?_))
    refine WV_seq_ ?_
    (refine WV_op ?_; simp only [go_sem,hP,gown_lo,gown_upd,gown_grid,gown_row ha,Row.ob_box,gridOb,Ob.isBox,refs_get ha,refs_glen,hrow,Int.toNat_natCast,Nat.mul_one,Nat.zero_add,ha,hc,Int.ofNat_lt,Int.natCast_nonneg]; (repeat refine qJ ?_))
    refine WV_seq_ ?_
    have hcl:=bcell_lt hca (R[a]).j
    have hput:∀ o,upd (gown bcd 1 R j o) (a + 1001) (.box ((cellsG bcd (R[a]).l (R[a]).j).set c (.c (.int .u8 63)))) = gown bcd 1 (putB R (a,c) 63) j o:=fun o => gown_put (p:=(a,c)) (v:=63) ha hca j o
    (refine WV_op ?_; simp only [go_sem,hP,gown_row ha,Row.ob_box,hcl,hput]; (repeat refine qJ ?_))
    refine WV_keep [2,5] ?_
    simp only [go_sem]
    obtain ⟨k1,k2,k3,k4,k5,k6,k7⟩:=fill_mend hR hb ha hc (noq hR hb hp hcn')
    have k0:(putB R (a,c) 63).length = R.length:=putB_len _ _ _
    generalize putB R (a,c) 63 = R1 at k0 k1 k2 k3 k4 k5 k6 k7
    rw [← k0] at ha hat k3 k4 k6 k7
    have hrw:=row52 bs k1 ha (j:=j) (gcap:=cap)
    have hinr:InR R1 (posL R1.length w a true):=InR_pos k1 (b:=true) (by simpa using ha)
    have hfl:=fill53 bs k1 k2 hinr (by simp [posL]; have:=hR.wid; omega) (j:=j)
    rw [k0] at hrw hfl k3 k4 k6 k7
    have hat1:=hat
    refine WV_seq_ ?_
    rw [← k0] at hrw hfl
    (refine WV_split 3 ?_; simp only [List.take_succ_cons,List.take_zero,List.take_nil,List.drop_succ_cons,List.drop_zero,List.drop_nil]; simp only [go_sem,hP,gown_lo,Int.toNat_natCast]; (repeat refine qJ ?_))
    rw [← k0]
    (refine SOps_grid hP (hrw) hat rfl rfl rfl (by simp only [List.map_cons,List.map_nil,List.append_nil,List.nil_append,List.cons_append]; simp only [go_sem,AV.lendL,lend_grid,AV.lend]; first | done | rfl) ?_)
    rintro r l' ⟨rfl,rfl⟩
    refine ⟨R1,rfl,rfl,rfl,?_⟩
    simp only [go_sem]
    (refine SOps_grid hP (hfl) hat rfl rfl rfl (by simp only [List.map_cons,List.map_nil,List.append_nil,List.nil_append,List.cons_append]; simp only [go_sem,AV.lendL,lend_grid,AV.lend]; first | done | rfl) ?_)
    rintro r l' ⟨rfl,rfl⟩
    refine ⟨_,k6.trans k0.symm,rfl,rfl,?_⟩
    refine SOps_nil ?_
    simp only [go_sem]
    rw [k0] at hat ⊢
    generalize fillR R1 (posL R.length w a true) = R2 at k3 k4 k5 k6 k7 ⊢
    rw [← k5]
    rw [← k6] at hat ⊢
    have hn2:0 < R2.length:=by omega
    have hLL2:=LOk_all k3
    have hli2:=lines50 bs k3 hn2 (j:=j) (gcap:=cap)
    have hba2:=bad51 bs k3 k4 hLL2 (j:=j)
    have hwl:=wrngL_len (gv R2) (allP R2.length w) (allP R2.length w).length
    have hmany2:=hLL2.many
    generalize wrngL (gv R2) (allP R2.length w) (allP R2.length w).length = W at hba2 hwl ⊢
    refine WV_keep [2,5] ?_
    simp only [go_sem]
    refine WV_seq_ (WV_seq_ ?_)
    (refine WV_split 1 ?_; simp only [List.take_succ_cons,List.take_zero,List.take_nil,List.drop_succ_cons,List.drop_zero,List.drop_nil]; simp only [go_sem,hP]; (repeat refine qJ ?_))
    (refine SOps_grid hP (hli2) hat rfl rfl rfl (by simp only [List.map_cons,List.map_nil,List.append_nil,List.nil_append,List.cons_append]; simp only [go_sem,AV.lendL,lend_grid,AV.lend]; first | done | rfl) ?_)
    rintro r l' ⟨rfl,rfl⟩
    refine ⟨R2,rfl,rfl,rfl,?_⟩
    simp only [go_sem]
    (refine SOps_grid hP (hba2) hat rfl rfl rfl (by simp only [List.map_cons,List.map_nil,List.append_nil,List.nil_append,List.cons_append]; simp only [go_sem,AV.lendL,lend_grid,AV.lend]; first | done | rfl) ?_)
    rintro r l' ⟨rfl,rfl⟩
    refine ⟨R2,rfl,rfl,rfl,?_⟩
    (refine SOps_ops ?_; simp only [go_sem,hP,intsV,List.length_map]; (repeat refine qJ ?_))
    by_cases hW:0 < W.length
    ·rw [if_pos hW]
     (refine WV_cond rfl (fun h => ?_) (fun h => ?_))
     ·(repeat ((first | refine Va ?_ | refine Vb ?_ | refine Vc ?_ | refine Vd ?_ | refine Ve ?_ | refine Vf ?_); (try simp only [go_sem,hP,gown_lo,gown_upd]); (repeat refine qJ ?_)))
      (refine WV_ret ?_; simp only [thenQ,inQ,RetQ,RetOk,resAll,resA]; simp only [go_sem,tupA,AV.port,AV.portL,exists_eq_left',gown_lo])
      exact AVle.refl _
     ·simp at h; first | omega | (rw [h] at hW; simp at hW)
    rw [if_neg hW]
    (refine WV_cond rfl (fun h => ?_) (fun h => ?_))
    ·simp at h; first | omega | (exact (hW (List.length_pos_iff.2 h)).elim)
    (refine WV_skip ?_; simp only [go_sem])
    have hgo:=k3.gow k4
    have hst:=textG_ok hgo hn2 k3.len hw2 k3.wid
    refine WV_keep [2,5] ?_
    simp only [go_sem]
    refine WV_frzGrid (fun n ds hn => ?_) (fun n ds hn => ?_) ?_
    ·have hn3:¬ (1000:Nat) = n:=by omega
     have hn4:¬ (2:Nat) = n:=by omega
     simp only [go_sem,AV.frz]
     simp only [hn3,hn4,if_false]
    ·have hn4:¬ (2:Nat) = n:=by omega
     simp only [go_sem,Ob.frz,AV.frzL,AV.frz]
     simp only [hn4,if_false]
    simp only [frzE_upd,frzE_e0,frz_grid]
    rw [gv_vals,bytes_vals k4.mem] at hst ⊢
    refine WV_seq_ ?_
    (refine WV_op ?_; simp only [go_sem,hP,AV.frz]; (repeat refine qJ ?_))
    refine ACall_of hst rfl rfl rfl rfl rfl ?_
    simp only [go_sem]
    (repeat refine qJ ?_)
    (refine WV_ret ?_; simp only [thenQ,inQ,RetQ,RetOk,resAll,resA]; simp only [go_sem,tupA,AV.port,AV.portL,exists_eq_left'])
    exact AVle.refl _
end Go.Proofs.YtlmfdmlochpfcaaDoor

namespace Go.Proofs.YtlmfdmlochpfcaaDoor
open Go Go.V
attribute [local go_sem] Nat.reduceEqDiff Nat.reduceAdd Nat.reduceMul reduceIte Nat.reduceLeDiff Nat.reduceLT Nat.reduceBEq reduceCtorEq
def bat (g:List (List UInt8)) (p:Nat × Nat):UInt8:=(g.getD p.1 []).getD p.2 0
def jn (x y:UInt8):UInt8:=if x = 63 then y else x
def jok (x y:UInt8):Bool:=x == 63 || y == 63 || y == x
def mergeG (n w:Nat) (a b:List (List UInt8)):List (List UInt8):=(List.range n).map fun i => (List.range w).map fun k => jn (bat a (i,k)) (bat b (i,k))
def okJ (n w:Nat) (a b:List (List UInt8)):Bool:=(List.range n).all fun i => (List.range w).all fun k => jok (bat a (i,k)) (bat b (i,k))
def befo (p q:Nat × Nat):Prop:=p.1 < q.1 ∨ (p.1 = q.1 ∧ p.2 < q.2)
instance (p q:Nat × Nat):Decidable (befo p q):=by unfold befo; infer_instance
structure Jinv (R:List BRow) (n w:Nat) (gb:List (List UInt8)) (q:Nat × Nat) (S:List BRow):Prop where
 len:S.length = n
 ok:ROk S w
 rf:refs 1001 1 0 S = refs 1001 1 0 R
 val:∀ i k (h:i < S.length) (hk:k < (S[i]).l.length),(S[i]).l[k] = if befo (i,k) q then jn (bat (R.map Row.l) (i,k)) (bat gb (i,k)) else bat (R.map Row.l) (i,k)
 jo:∀ i k,i < n → k < w → befo (i,k) q → jok (bat (R.map Row.l) (i,k)) (bat gb (i,k)) = true
theorem Jinv.row {R S:List BRow} {n w:Nat} {gb:List (List UInt8)} {k:Nat} (h:Jinv R n w gb (k,w) S):Jinv R n w gb (k + 1,0) S:=by
 refine ⟨h.len,h.ok,h.rf,fun i j hi hj => ?_,fun i j hi hj hb => h.jo i j hi hj ?_⟩
 ·rw [h.val i j hi hj]
  have hw:j < w:=by rw [← h.ok.row i hi]; exact hj
  have e:befo (i,j) (k,w) ↔ befo (i,j) (k + 1,0):=by unfold befo; simp; omega
  by_cases hb:befo (i,j) (k,w)
  ·rw [if_pos hb,if_pos (e.1 hb)]
  ·rw [if_neg hb,if_neg (fun h => hb (e.2 h))]
 ·unfold befo at hb ⊢; simp at hb ⊢; omega
theorem Jinv.put {R S:List BRow} {n w:Nat} {gb:List (List UInt8)} {k i:Nat} (h:Jinv R n w gb (k,i) S) (hk:k < n) (hi:i < w) (hj:jok (bat (R.map Row.l) (k,i)) (bat gb (k,i)) = true):Jinv R n w gb (k,i + 1) (putB S (k,i) (jn (bat (R.map Row.l) (k,i)) (bat gb (k,i)))):=by
 have hks:k < S.length:=by rw [h.len]; exact hk
 refine ⟨by rw [putB_len]; exact h.len,putB_ok h.ok _ _,by rw [putB_refs]; exact h.rf,fun i' j hi' hj' => ?_,fun i' j hi' hj' hb => ?_⟩
 ·have hi2:i' < S.length:=by rwa [putB_len] at hi'
  have e:=putB_row hi2 hi' (v:=jn (bat (R.map Row.l) (k,i)) (bat gb (k,i))) (p:=(k,i))
  have hj2:j < (if i' = k then (S[i']).l.set i (jn (bat (R.map Row.l) (k,i)) (bat gb (k,i))) else (S[i']).l).length:=by rw [← e]; exact hj'
  have e2:((putB S (k,i) (jn (bat (R.map Row.l) (k,i)) (bat gb (k,i))))[i']).l[j] = (if i' = k then (S[i']).l.set i (jn (bat (R.map Row.l) (k,i)) (bat gb (k,i))) else (S[i']).l)[j]'hj2:=by simp only [e]
  rw [e2]
  by_cases hik:i' = k
  ·subst hik
   simp only [if_true,List.getElem_set]
   by_cases hij:i = j
   ·subst hij
    rw [if_pos rfl,if_pos (by unfold befo; simp)]
   ·rw [if_neg hij,h.val i' j hi2 (by simpa using hj2)]
    have e3:befo (i',j) (i',i) ↔ befo (i',j) (i',i + 1):=by unfold befo; simp; omega
    by_cases hb:befo (i',j) (i',i)
    ·rw [if_pos hb,if_pos (e3.1 hb)]
    ·rw [if_neg hb,if_neg (fun h => hb (e3.2 h))]
  ·simp only [hik,if_false]
   rw [h.val i' j hi2 (by simpa [hik] using hj2)]
   have e3:befo (i',j) (k,i) ↔ befo (i',j) (k,i + 1):=by unfold befo; simp; omega
   by_cases hb:befo (i',j) (k,i)
   ·rw [if_pos hb,if_pos (e3.1 hb)]
   ·rw [if_neg hb,if_neg (fun h => hb (e3.2 h))]
 ·by_cases he:(i',j) = (k,i)
  ·simp only [Prod.mk.injEq] at he
   obtain ⟨rfl,rfl⟩:=he
   exact hj
  ·refine h.jo i' j hi' hj' ?_
   unfold befo at hb ⊢
   simp at hb he ⊢
   omega
theorem Jinv.same {R S:List BRow} {n w:Nat} {gb:List (List UInt8)} {k i:Nat} (h:Jinv R n w gb (k,i) S) (hk:k < n) (hi:i < w) (hj:jok (bat (R.map Row.l) (k,i)) (bat gb (k,i)) = true) (h63:bat (R.map Row.l) (k,i) ≠ 63):Jinv R n w gb (k,i + 1) S:=by
 have e3:∀ i' j,¬ (i' = k ∧ j = i) → (befo (i',j) (k,i) ↔ befo (i',j) (k,i + 1)):=fun i' j hne => by unfold befo; simp; omega
 refine ⟨h.len,h.ok,h.rf,fun i' j hi' hj' => ?_,fun i' j hi' hj' hb => ?_⟩
 ·rw [h.val i' j hi' hj']
  by_cases he:i' = k ∧ j = i
  ·obtain ⟨rfl,rfl⟩:=he
   rw [if_neg (by unfold befo; simp),if_pos (by unfold befo; simp)]
   unfold jn; rw [if_neg h63]
  ·by_cases hb:befo (i',j) (k,i)
   ·rw [if_pos hb,if_pos ((e3 i' j he).1 hb)]
   ·rw [if_neg hb,if_neg (fun h => hb ((e3 i' j he).2 h))]
 ·by_cases he:i' = k ∧ j = i
  ·obtain ⟨rfl,rfl⟩:=he; exact hj
  ·exact h.jo i' j hi' hj' ((e3 i' j he).2 hb)
theorem Jinv.end_ {R S:List BRow} {n w:Nat} {gb:List (List UInt8)} (h:Jinv R n w gb (n,0) S):okJ n w (R.map Row.l) gb = true ∧ S.map Row.l = mergeG n w (R.map Row.l) gb:=by
 constructor
 ·unfold okJ
  rw [List.all_eq_true]; intro i hi
  rw [List.all_eq_true]; intro k hk
  simp only [List.mem_range] at hi hk
  exact h.jo i k hi hk (.inl hi)
 ·apply List.ext_getElem
  ·simp [mergeG,h.len]
  ·intro i h1 h2
   have hi:i < S.length:=by simpa using h1
   have hw:=h.ok.row i hi
   apply List.ext_getElem
   ·simp [mergeG,hw]
   ·intro k h3 h4
    have hk:k < (S[i]).l.length:=by simpa using h3
    have:=h.val i k hi hk
    rw [if_pos (.inl (by rw [← h.len]; exact hi))] at this
    simp only [mergeG,List.getElem_map,List.getElem_range]
    exact this
end Go.Proofs.YtlmfdmlochpfcaaDoor

namespace Go.Proofs.YtlmfdmlochpfcaaDoor
open Go Go.V
attribute [local go_sem] Nat.reduceEqDiff Nat.reduceAdd Nat.reduceMul reduceIte Nat.reduceLeDiff Nat.reduceLT Nat.reduceBEq reduceCtorEq
end Go.Proofs.YtlmfdmlochpfcaaDoor

namespace Go.Proofs.YtlmfdmlochpfcaaDoor
open Go Go.V Go.Shelf Go.RowKit
abbrev o83_0:List Ins:=[⟨some 4,.mv (.k (.c (.int .u64 0))),none,true⟩,
 ⟨some 5,.mv (.k (.c (.int .u64 0))),none,true⟩]
abbrev o83_1:List Ins:=[⟨some 11,.mv (.t 0),none,true⟩,
 ⟨some 12,.prim (.conv .u32) [(.t 11)],none,true⟩,
 ⟨some 13,.mv (.t 1),none,true⟩,
 ⟨some 14,.prim (.conv .u32) [(.t 13)],none,true⟩,
 ⟨some 15,.call (.k (.fn 97 [])) [(.t 12),(.t 14)],none,true⟩,
 ⟨some 10,.mv (.t 15),none,true⟩,
 ⟨some 16,.ext (.t 10) 0,none,true⟩,
 ⟨some 17,.ext (.t 10) 1,none,true⟩,
 ⟨some 6,.mv (.t 16),none,true⟩,
 ⟨some 7,.mv (.t 17),none,true⟩]
abbrev o83_2:List Ins:=[⟨some 18,.mv (.t 6),none,true⟩,
 ⟨some 19,.prim (.conv .u64) [(.t 18)],none,true⟩,
 ⟨some 20,.mv (.t 7),none,true⟩,
 ⟨some 21,.prim (.conv .u64) [(.t 20)],none,true⟩,
 ⟨some 4,.mv (.t 19),none,true⟩,
 ⟨some 5,.mv (.t 21),none,true⟩]
abbrev v83_3:VC:=(.seq (.ops o83_2) .ret)
abbrev v83_4:VC:=(.seq (.ops o83_1) v83_3)
abbrev o83_5:List Ins:=[⟨some 23,.mv (.t 0),none,true⟩,
 ⟨some 24,.mv (.t 1),none,true⟩,
 ⟨some 25,.call (.k (.fn 98 [])) [(.t 23),(.t 24)],none,true⟩,
 ⟨some 22,.mv (.t 25),none,true⟩,
 ⟨some 26,.ext (.t 22) 0,none,true⟩,
 ⟨some 27,.ext (.t 22) 1,none,true⟩,
 ⟨some 8,.mv (.t 26),none,true⟩,
 ⟨some 9,.mv (.t 27),none,true⟩]
abbrev o83_6:List Ins:=[⟨some 28,.mv (.t 8),none,true⟩,
 ⟨some 29,.mv (.t 9),none,true⟩,
 ⟨some 4,.mv (.t 28),none,true⟩,
 ⟨some 5,.mv (.t 29),none,true⟩]
abbrev v83_7:VC:=(.seq (.ops o83_6) .ret)
abbrev v83_8:VC:=(.seq (.ops o83_5) v83_7)
abbrev v83_9:VC:=(.seq (.cond (.k (.c (.bool false))) v83_4 .skip) v83_8)
def ir83:FC:=⟨2,30,[.t 4,.t 5],(.seq (.ops o83_0) v83_9)⟩
theorem c83:compM Tryd.prog [] 83 = some ir83:=by kernel_rfl
attribute [local go_sem] Nat.reduceEqDiff Nat.reduceAdd Nat.reduceMul reduceIte Nat.reduceLeDiff Nat.reduceLT Nat.reduceBEq reduceCtorEq
abbrev uv (n:Int):AV:=.c (.int .u64 n)
def mRen:Ren:=⟨fun x => match x with | 264 => 98 | 212 => 83 | 263 => 97 | n => n,fun x => match x with | 46 => 117 | 51 => 132 | 53 => 135 | 146 => 133 | 148 => 136 | n => n,fun x => x⟩
theorem mLays:Lays.n212 Tryd.prog mRen:=by
 constructor <;> first | kernel_rfl | (intro w; kernel_rfl)
theorem mul83 (n:Nat) (hn:n ≤ 1000):FSpec Tryd.prog 83 [uv 1,uv n] (.tup [uv 0,uv n]):=by
 refine ⟨(body_call c83).1,fun w M vs hM hrep => ?_⟩
 simp only [RepAs,RepA,RepC] at hrep
 obtain ⟨v,vs',rfl,rfl,v2,vs2,rfl,rfl,rfl⟩:=hrep
 have:=Any.bits_Mul mLays 1 n (by omega) (by omega) w
 rw [Nat.one_mul,Nat.div_eq_of_lt (by omega:n < 18446744073709551616),Nat.mod_eq_of_lt (by omega:n < 18446744073709551616)] at this
 refine this.mono ?_
 rintro e w' ⟨rfl,rfl⟩
 refine ⟨_,rfl,?_,Below.refl _ _⟩
 simp only [RepA]
 exact ⟨[_,_],rfl,by simp only [RepAs,RepA,RepC]; exact ⟨_,_,rfl,rfl,_,_,rfl,rfl,rfl⟩⟩
end Go.Proofs.YtlmfdmlochpfcaaDoor

namespace Go.Proofs.YtlmfdmlochpfcaaDoor
open Go Go.V
abbrev o55_0:List Ins:=[⟨some 4,.mv (.k (.c (.raw (.slice none 0 0)))),none,true⟩]
abbrev o55_1:List Ins:=[⟨some 12,.mv (.t 1),none,true⟩,
 ⟨some 13,.bin .eql (.t 12) (.k (.c (.int .i64 0))),none,true⟩]
abbrev o55_2:List Ins:=[⟨some 14,.bsl 5 1 [],none,true⟩,
 ⟨some 4,.mv (.t 14),none,true⟩]
abbrev v55_3:VC:=(.seq (.ops o55_2) .ret)
abbrev v55_4:VC:=(.cond (.t 13) v55_3 .skip)
abbrev o55_5:List Ins:=[⟨some 15,.mv (.t 1),none,true⟩,
 ⟨some 16,.bin .lss (.t 15) (.k (.c (.int .i64 0))),none,true⟩]
abbrev o55_6:List Ins:=[⟨some 17,.raw (.makeInterface 9 (.const (.string ⟨#[98,121,116,101,115,58,32,110,101,103,97,116,105,118,101,32,82,101,112,101,97,116,32,99,111,117,110,116]⟩))),none,true⟩,
 ⟨none,.raw (.panic (.tmp 17)),none,true⟩]
abbrev v55_7:VC:=(.cond (.t 16) (.ops o55_6) .skip)
abbrev o55_8:List Ins:=[⟨some 19,.mv (.t 0),none,true⟩,
 ⟨some 20,.len (.t 19),none,true⟩,
 ⟨some 21,.prim (.conv .u64) [(.t 20)],none,true⟩,
 ⟨some 22,.mv (.t 1),none,true⟩,
 ⟨some 23,.prim (.conv .u64) [(.t 22)],none,true⟩,
 ⟨some 24,.call (.k (.fn 83 [])) [(.t 21),(.t 23)],none,true⟩,
 ⟨some 18,.mv (.t 24),none,true⟩,
 ⟨some 25,.ext (.t 18) 0,none,true⟩,
 ⟨some 26,.ext (.t 18) 1,none,true⟩,
 ⟨some 5,.mv (.t 25),none,true⟩,
 ⟨some 6,.mv (.t 26),none,true⟩]
abbrev o55_9:List Ins:=[⟨some 27,.mv (.t 5),none,true⟩,
 ⟨some 28,.bin .gtr (.t 27) (.k (.c (.int .u64 0))),none,true⟩,
 ⟨some 29,.mv (.t 28),none,true⟩,
 ⟨some 30,.mv (.t 6),(some (29,false)),true⟩,
 ⟨some 31,.bin .gtr (.t 30) (.k (.c (.int .u64 9223372036854775807))),(some (29,false)),true⟩,
 ⟨some 32,.pick (.t 29) (.k (.c (.bool true))) (.t 31),none,true⟩]
abbrev o55_10:List Ins:=[⟨some 33,.raw (.makeInterface 9 (.const (.string ⟨#[98,121,116,101,115,58,32,82,101,112,101,97,116,32,111,117,116,112,117,116,32,108,101,110,103,116,104,32,111,118,101,114,102,108,111,119]⟩))),none,true⟩,
 ⟨none,.raw (.panic (.tmp 33)),none,true⟩]
abbrev v55_11:VC:=(.cond (.t 32) (.ops o55_10) .skip)
abbrev o55_12:List Ins:=[⟨some 34,.mv (.t 6),none,true⟩,
 ⟨some 35,.prim (.conv .i64) [(.t 34)],none,true⟩,
 ⟨some 7,.mv (.t 35),none,true⟩]
abbrev o55_13:List Ins:=[⟨some 36,.mv (.t 0),none,true⟩,
 ⟨some 37,.len (.t 36),none,true⟩,
 ⟨some 38,.bin .eql (.t 37) (.k (.c (.int .i64 0))),none,true⟩]
abbrev o55_14:List Ins:=[⟨some 39,.bsl 5 1 [],none,true⟩,
 ⟨some 4,.mv (.t 39),none,true⟩]
abbrev v55_15:VC:=(.seq (.ops o55_14) .ret)
abbrev v55_16:VC:=(.cond (.t 38) v55_15 .skip)
abbrev o55_17:List Ins:=[⟨some 40,.mv (.t 7),none,true⟩,
 ⟨some 8,.mv (.t 40),none,true⟩]
abbrev o55_18:List Ins:=[⟨some 41,.mv (.t 8),none,true⟩,
 ⟨some 42,.bin .gtr (.t 41) (.k (.c (.int .i64 8192))),none,true⟩]
abbrev o55_19:List Ins:=[⟨some 43,.mv (.t 0),none,true⟩,
 ⟨some 44,.len (.t 43),none,true⟩,
 ⟨some 45,.bin .quo (.k (.c (.int .i64 8192))) (.t 44),none,true⟩,
 ⟨some 46,.mv (.t 0),none,true⟩,
 ⟨some 47,.len (.t 46),none,true⟩,
 ⟨some 48,.bin .mul (.t 45) (.t 47),none,true⟩,
 ⟨some 8,.mv (.t 48),none,true⟩]
abbrev o55_20:List Ins:=[⟨some 49,.mv (.t 8),none,true⟩,
 ⟨some 50,.bin .eql (.t 49) (.k (.c (.int .i64 0))),none,true⟩]
abbrev o55_21:List Ins:=[⟨some 51,.mv (.t 0),none,true⟩,
 ⟨some 52,.len (.t 51),none,true⟩,
 ⟨some 8,.mv (.t 52),none,true⟩]
abbrev v55_22:VC:=(.cond (.t 50) (.ops o55_21) .skip)
abbrev v55_23:VC:=(.seq (.ops o55_20) v55_22)
abbrev v55_24:VC:=(.seq (.ops o55_19) v55_23)
abbrev v55_25:VC:=(.cond (.t 42) v55_24 .skip)
abbrev o55_26:List Ins:=[⟨some 53,.mv (.t 7),none,true⟩,
 ⟨some 54,.call (.k (.fn 84 [])) [(.t 53)],none,true⟩,
 ⟨some 55,.mv (.t 7),none,true⟩,
 ⟨some 56,.mv (.t 7),none,true⟩,
 ⟨some 57,.raw (.slice 68 (.tmp 54) none (some (.tmp 55)) (some (.tmp 56))),none,true⟩,
 ⟨some 9,.mv (.t 57),none,true⟩]
abbrev o55_27:List Ins:=[⟨some 58,.mv (.t 9),none,true⟩,
 ⟨some 59,.mv (.t 0),none,true⟩,
 ⟨some 60,.raw (.call { callee:=(.builtin .copy),args:=#[(.tmp 58),(.tmp 59)],argTypes:=#[68,68] }),none,true⟩,
 ⟨some 10,.mv (.t 60),none,true⟩]
abbrev o55_28:List Ins:=[⟨some 61,.mv (.t 10),none,true⟩,
 ⟨some 62,.mv (.t 7),none,true⟩,
 ⟨some 63,.bin .lss (.t 61) (.t 62),none,true⟩]
abbrev v55_29:VC:=(.cond (.t 63) .skip (.exit 0))
abbrev o55_30:List Ins:=[⟨some 64,.mv (.t 10),none,true⟩,
 ⟨some 65,.mv (.t 8),none,true⟩,
 ⟨some 66,.mm false (.t 64) (.t 65),none,true⟩,
 ⟨some 11,.mv (.t 66),none,true⟩]
abbrev t55_31:OT:=(.cons ⟨some 68,.mv (.t 9),none,false⟩
 (.cons ⟨some 69,.mv (.t 10),none,false⟩
 (.cons ⟨some 70,.slc 1 (.t 68) (some (.t 69)) none,none,false⟩
 (.cons ⟨some 71,.mv (.t 9),none,false⟩
 (.cons ⟨some 72,.mv (.t 11),none,false⟩
 (.cons ⟨some 73,.slc 1 (.t 71) none (some (.t 72)),none,false⟩
 (.br [(.cons ⟨some 67,.mv (.t 10),none,false⟩
  (.cons ⟨some 74,.raw (.call { callee:=(.builtin .copy),args:=#[(.tmp 70),(.tmp 73)],argTypes:=#[68,68] }),none,true⟩
  (.cons ⟨some 75,.bin .add (.t 67) (.t 74),none,true⟩
  (.cons ⟨some 10,.mv (.t 75),none,true⟩
  .nil)))),(.cons ⟨some 74,.raw (.call { callee:=(.builtin .copy),args:=#[(.tmp 70),(.tmp 73)],argTypes:=#[68,68] }),none,true⟩
  (.cons ⟨some 67,.mv (.t 10),none,false⟩
  (.cons ⟨some 75,.bin .add (.t 67) (.t 74),none,true⟩
  (.cons ⟨some 10,.mv (.t 75),none,true⟩
  .nil))))])))))))
abbrev v55_32:VC:=(.seq (.ops o55_30) (.drw t55_31))
abbrev v55_33:VC:=(.block 1 v55_32)
abbrev v55_34:VC:=(.seq (.seq (.ops o55_28) v55_29) v55_33)
-- K55_1: changed and kept: [10]
abbrev K55_1:List Nat:=[7,8,9]
abbrev v55_35:VC:=(.loop v55_34)
abbrev o55_36:List Ins:=[⟨some 76,.mv (.t 9),none,true⟩,
 ⟨some 4,.mv (.t 76),none,true⟩]
abbrev v55_37:VC:=(.seq (.ops o55_36) .ret)
abbrev v55_38:VC:=(.seq (.block 0 v55_35) v55_37)
abbrev v55_39:VC:=(.seq (.ops o55_27) v55_38)
abbrev v55_40:VC:=(.seq (.ops o55_26) v55_39)
abbrev v55_41:VC:=(.seq (.seq (.ops o55_18) v55_25) v55_40)
abbrev v55_42:VC:=(.seq (.ops o55_17) v55_41)
abbrev v55_43:VC:=(.seq (.seq (.ops o55_13) v55_16) v55_42)
abbrev v55_44:VC:=(.seq (.ops o55_12) v55_43)
abbrev v55_45:VC:=(.seq (.seq (.ops o55_9) v55_11) v55_44)
abbrev v55_46:VC:=(.seq (.ops o55_8) v55_45)
abbrev v55_47:VC:=(.seq (.seq (.ops o55_5) v55_7) v55_46)
abbrev v55_48:VC:=(.seq (.seq (.ops o55_1) v55_4) v55_47)
def ir55:FC:=⟨2,77,[.t 4],(.seq (.ops o55_0) v55_48)⟩
theorem c55:compM Tryd.prog [] 55 = some ir55:=by kernel_rfl
attribute [local go_sem] Nat.reduceEqDiff Nat.reduceAdd Nat.reduceMul reduceIte Nat.reduceLeDiff Nat.reduceLT Nat.reduceBEq reduceCtorEq
def rep63 (m r:Nat):List AV:=List.replicate m (u8 63) ++ List.replicate r .non
theorem rep63_len (m r:Nat):(rep63 m r).length = m + r:=by simp [rep63]
theorem rep63_splice (m k r:Nat) (h:k ≤ r):splice (rep63 m r) m (List.replicate k (u8 63)) = rep63 (m + k) (r - k):=by
 unfold splice rep63
 have e:List.replicate r (AV.non) = List.replicate k .non ++ List.replicate (r - k) .non:=by rw [List.replicate_append_replicate]; congr 1; omega
 rw [e,List.take_left' (by simp),List.length_replicate,← List.append_assoc,List.replicate_append_replicate,← List.append_assoc,List.drop_left' (by simp)]
theorem rep63_take (m r:Nat):(rep63 m r).take m = List.replicate m (u8 63):=by simp [rep63]
theorem rep63_one (m:Nat):((List.replicate m (u8 63)).all AV.oneB) = true:=by
 rw [List.all_eq_true]; intro x hx; rw [List.eq_of_mem_replicate hx]; rfl
theorem rep63_cells (n j:Nat):rep63 n j = cellsG bcd (List.replicate n 63) j:=by
 unfold rep63 cellsG flatG
 congr 1
 induction n with
 | zero => rfl
 | succ n ih => simp only [List.replicate_succ,List.map_cons,List.flatten_cons,List.map_append,← ih]; rfl
theorem rep63_prg (d m r:Nat):AV.prgL d (rep63 m r) = rep63 m r:=by rw [rep63_cells]; exact prg_cellsG _ _ _ _
theorem rep63_zero (r:Nat):List.replicate r AV.non = rep63 0 r:=rfl
set_option maxRecDepth 20000 in
set_option maxHeartbeats 8000000 in
theorem repeat55 (n:Nat) (hn:1 ≤ n ∧ n ≤ 1000):FSpecN Tryd.prog 55 [.c (.sl 1 [bcd 63]),iv n] (fun r os => r = .vw 1 1000 0 n n ∧ ∃ j,os = [.box (cellsG bcd (List.replicate n 63) j)]):=by
 have hmax:maxLen = 9223372036854775807:=rfl
 have hmu:=mul83 n hn.2
 have hw1:IntKind.u64.wrap (n:Int) = (n:Int):=by rw [IntKind.wrap_u64]; omega
 have hw2:IntKind.i64.wrap (n:Int) = (n:Int):=by rw [IntKind.wrap_i64]; omega
 have hw3:IntKind.u64.wrap ((1:Nat):Int) = 1:=by rfl
 refine FSpecN_ofP c55 (Nat.le_refl _) (by decide) fun C hP hN hC hpin hL => ?_; rw [init_st]
 simp only [ir55]
 (repeat ((first | refine Va ?_ | refine Vb ?_ | refine Vc ?_ | refine Vd ?_ | refine Ve ?_ | refine Vf ?_); (try simp only [go_sem,hP]); (repeat refine qJ ?_)))
 (refine WV_cond rfl (fun h => ?_) (fun h => ?_))
 ·simp at h; omega
 (repeat ((first | refine Va ?_ | refine Vb ?_ | refine Vc ?_ | refine Vd ?_ | refine Ve ?_ | refine Vf ?_); (try simp only [go_sem,hP]); (repeat refine qJ ?_)))
 (refine WV_cond rfl (fun h => ?_) (fun h => ?_))
 ·simp at h; omega
 (repeat ((first | refine Va ?_ | refine Vb ?_ | refine Vc ?_ | refine Vd ?_ | refine Ve ?_ | refine Vf ?_); (try simp only [go_sem,hP,bcd,List.length_cons,List.length_nil,hw1,hw3]); (repeat refine qJ ?_)))
 (refine AS_pu (hmu) ?_; simp only [go_sem,hP,bcd,List.length_cons,List.length_nil,hw1,hw2,hw3]; (repeat refine qJ ?_); (repeat ((first | refine Va ?_ | refine Vb ?_ | refine Vc ?_ | refine Vd ?_ | refine Ve ?_ | refine Vf ?_); (try simp only [go_sem,hP,bcd,List.length_cons,List.length_nil,hw1,hw2,hw3]); (repeat refine qJ ?_))))
 (refine WV_cond rfl (fun h => ?_) (fun h => ?_))
 ·simp at h; omega
 (repeat ((first | refine Va ?_ | refine Vb ?_ | refine Vc ?_ | refine Vd ?_ | refine Ve ?_ | refine Vf ?_); (try simp only [go_sem,hP,hw2]); (repeat refine qJ ?_)))
 (refine WV_cond rfl (fun h => ?_) (fun h => ?_))
 ·simp at h
 (repeat ((first | refine Va ?_ | refine Vb ?_ | refine Vc ?_ | refine Vd ?_ | refine Ve ?_ | refine Vf ?_); (try simp only [go_sem,hP,hw2]); (repeat refine qJ ?_)))
 (refine WV_cond rfl (fun h => ?_) (fun h => ?_))
 ·simp at h; omega
 (refine WV_skip ?_; simp only [go_sem])
 refine WV_keep [0,1,7,8] ?_
 simp only [go_sem]
 refine WV_seq_ ?_
 (refine WV_op ?_; simp only [go_sem,hP]; (repeat refine qJ ?_))
 refine AS_mnz (fn:=(Tryd.prog.funcs[84]?).get (by kernel_rfl)) (ps:=#[3]) (t:=68) (e:=5) (n:=n) (by simp) (by kernel_rfl) (by kernel_rfl) (by kernel_rfl) (by kernel_rfl) (by kernel_rfl) rfl rfl rfl rfl (by omega) rfl ?_
 intro cap0 j0 c1 c2 c3
 simp only [go_sem]
 refine raw_slc3 (e:=5) (by kernel_rfl) (by kernel_rfl) rfl rfl rfl rfl rfl rfl rfl rfl rfl (by omega) c1 ?_
 simp only [go_sem]
 rw [rep63_zero,rep63_prg]
 refine WV_keep [0,7,8,9] ?_
 simp only [go_sem]
 refine WV_seq_ ?_
 (refine WV_op ?_; simp only [go_sem,hP]; (repeat refine qJ ?_))
 refine raw_copy (e:=5) (k:=1) (by kernel_rfl) (by kernel_rfl) rfl rfl rfl rfl rfl rfl (by decide) (by decide) (by omega) rfl (by rw [rep63_len]; omega) ?_
 rw [show min 1 n = 1 from by omega]
 have hsp:splice (rep63 0 (n + j0)) 0 ((([[CD.int IntKind.u8 ((UInt8.toNat 63:Nat):Int)]]:List (List CD)).flatten.map AV.c).take 1) = rep63 1 (n + j0 - 1):=by
  have:=rep63_splice 0 1 (n + j0) (by omega)
  exact this
 rw [hsp]
 simp only [go_sem]
 (repeat ((first | refine Va ?_ | refine Vb ?_ | refine Vc ?_ | refine Vd ?_ | refine Ve ?_ | refine Vf ?_); (try simp only [go_sem,hP]); (repeat refine qJ ?_)))
 refine WV_loopK K55_1 [54] (fun m:Nat => 1 ≤ m ∧ m ≤ n) (fun m => n - m) (fun m => [(10,iv m)]) (fun m => [(54,.box (rep63 m (n + j0 - m)))]) 1 ⟨Nat.le_refl _,hn.1⟩ ?_ ?_
 ·exact Sub_au
 ·intro m ⟨hm1,hm2⟩
  simp only [go_sem]
  (repeat ((first | refine Va ?_ | refine Vb ?_ | refine Vc ?_ | refine Vd ?_ | refine Ve ?_ | refine Vf ?_); (try simp only [go_sem,hP]); (repeat refine qJ ?_)))
  (refine WV_cond rfl (fun h => ?_) (fun h => ?_))
  ·have hlt:m < n:=by simpa using h
   have hmi:min (m:Int) (n:Int) = m:=by omega
   have hmn:(((n - m:Nat):Int) - 0).toNat = n - m:=by omega
   (refine WV_skip ?_; simp only [go_sem])
   (repeat ((first | refine Va ?_ | refine Vb ?_ | refine Vc ?_ | refine Vd ?_ | refine Ve ?_ | refine Vf ?_); (try simp only [go_sem,hP,hmi]); (repeat refine qJ ?_)))
   have hsp2:splice (rep63 m (n + j0 - m)) m ((((rep63 m (n + j0 - m)).drop 0).take (m * 1)).take (min m (n - m))) = rep63 (m + min m (n - m)) (n + j0 - (m + min m (n - m))):=by
    rw [List.drop_zero,Nat.mul_one,rep63_take,List.take_replicate,show min (min m (n - m)) m = min m (n - m) from by omega,rep63_splice _ _ _ (by omega)]
    congr 1; omega
   have hnm:((n:Int) - (m:Int)).toNat = n - m:=by omega
   have hcm:n - (m:Int).toNat = n - m:=by omega
   have hws:=w64 (n:=(m:Int) + ((min m (n - m):Nat):Int)) (by omega) (by omega)
   have hcast:((m + min m (n - m):Nat):Int) = (m:Int) + ((min m (n - m):Nat):Int):=by omega
   have hvc:∀ own:Nat → Ob,own 54 = .box (rep63 m (n + j0 - m)) → AV.vcells own 1 (.vw 1 54 0 m n) = some (m,((rep63 m (n + j0 - m)).drop 0).take (m * 1),1 = 1 ∧ 0 + m * 1 ≤ (rep63 m (n + j0 - m)).length ∧ (((rep63 m (n + j0 - m)).drop 0).take (m * 1)).all AV.oneB = true):=by
    intro own ho
    simp only [AV.vcells,ho]
   (refine WV_drw ?_; simp only [go_sem,hP,Int.toNat_natCast,Nat.mul_one,Nat.zero_add,Int.toNat_zero,Nat.zero_mul,Nat.sub_zero,hnm,Int.sub_zero]; (repeat' (refine And.intro ?_ ?_)))
   all_goals (first | omega | skip)
   all_goals
    refine raw_copy (e:=5) (by kernel_rfl) (by kernel_rfl) rfl rfl rfl rfl rfl (hvc _ rfl) ⟨rfl,by rw [rep63_len]; omega,by rw [List.drop_zero,Nat.mul_one,rep63_take]; exact rep63_one m⟩ (by omega) (by omega) rfl (by rw [rep63_len]; omega) ?_
    rw [hsp2]
    simp only [go_sem,hws]
    (repeat refine qJ ?_)
    refine ⟨m + min m (n - m),⟨by omega,by omega⟩,by omega,?_⟩
    rw [hcast]
    exact Sub_au
  ·have:m = n:=by simp at h; omega
   subst this
   (repeat ((first | refine Va ?_ | refine Vb ?_ | refine Vc ?_ | refine Vd ?_ | refine Ve ?_ | refine Vf ?_); (try simp only [go_sem,hP]); (repeat refine qJ ?_)))
   refine WV_ret ?_
   simp only [thenQ,inQ,RetQN,RetOkN,resAll,resA]
   simp only [go_sem,tupA]
   refine ⟨[54],.vw 1 1000 0 m m,_,[.box (cellsG bcd (List.replicate m 63) j0)],by decide,by decide,rfl,AVle.refl _,?_,rfl,j0,rfl⟩
   rw [show m + j0 - m = j0 from by omega,rep63_cells]
   simp only [go_sem,obsLend,Ob.lend,lend_cellsG]
end Go.Proofs.YtlmfdmlochpfcaaDoor

namespace Go.Proofs.YtlmfdmlochpfcaaDoor
open Go Go.V
abbrev o24_0:List Ins:=[⟨some 2,.mv (.k (.c (.str []))),none,true⟩,
 ⟨some 3,.mv (.k (.c (.int .i64 0))),none,true⟩]
abbrev o24_1:List Ins:=[⟨some 11,.mv (.t 0),none,true⟩,
 ⟨some 12,.len (.t 11),none,true⟩,
 ⟨some 13,.bin .gtr (.t 12) (.k (.c (.int .i64 40))),none,true⟩]
abbrev o24_2:List Ins:=[⟨some 2,.mv (.k (.c (.str []))),none,true⟩,
 ⟨some 3,.mv (.k (.c (.int .i64 2))),none,true⟩]
abbrev v24_3:VC:=(.seq (.ops o24_2) .ret)
abbrev v24_4:VC:=(.cond (.t 13) v24_3 .skip)
abbrev o24_5:List Ins:=[⟨some 4,.mv (.k (.c (.int .i64 1))),none,true⟩]
abbrev o24_6:List Ins:=[⟨some 14,.mv (.t 0),none,true⟩,
 ⟨some 15,.len (.t 14),none,true⟩,
 ⟨some 16,.mv (.k (.c (.int .i64 0))),none,true⟩]
abbrev o24_7:List Ins:=[⟨some 17,.bin .lss (.t 16) (.t 15),none,true⟩]
abbrev o24_8:List Ins:=[⟨some 18,.ia 1 (.t 14) (.t 16),none,true⟩,
 ⟨some 19,.ld true 1 (.t 18),none,true⟩,
 ⟨some 6,.mv (.t 19),none,true⟩]
abbrev o24_9:List Ins:=[⟨some 20,.mv (.t 6),none,true⟩,
 ⟨some 21,.call (.k (.fn 54 [])) [(.t 20)],none,true⟩,
 ⟨some 22,.un .not (.t 21),none,true⟩]
abbrev o24_10:List Ins:=[⟨some 2,.mv (.k (.c (.str []))),none,true⟩,
 ⟨some 3,.mv (.k (.c (.int .i64 1))),none,true⟩]
abbrev v24_11:VC:=(.seq (.ops o24_10) .ret)
abbrev v24_12:VC:=(.cond (.t 22) v24_11 .skip)
abbrev o24_13:List Ins:=[⟨some 23,.mv (.t 4),none,true⟩,
 ⟨some 24,.mv (.t 6),none,true⟩,
 ⟨some 25,.prim .slen [(.t 24)],none,true⟩,
 ⟨some 26,.bin .add (.t 25) (.k (.c (.int .i64 1))),none,true⟩,
 ⟨some 27,.mm true (.t 23) (.t 26),none,true⟩,
 ⟨some 4,.mv (.t 27),none,true⟩]
abbrev v24_14:VC:=(.seq (.seq (.ops o24_9) v24_12) (.ops o24_13))
abbrev v24_15:VC:=(.seq (.ops o24_8) v24_14)
abbrev o24_16:List Ins:=[⟨some 28,.bin .add (.t 16) (.k (.c (.int .i64 1))),none,true⟩,
 ⟨some 16,.mv (.t 28),none,true⟩]
abbrev v24_17:VC:=(.seq (.block 1 v24_15) (.ops o24_16))
abbrev v24_18:VC:=(.seq (.cond (.t 17) .skip (.exit 0)) v24_17)
abbrev v24_19:VC:=(.seq (.ops o24_7) v24_18)
-- K24_1: changed and kept: [16,4]
abbrev K24_1:List Nat:=[0,14,15]
abbrev v24_20:VC:=(.loop v24_19)
abbrev v24_21:VC:=(.block 0 v24_20)
abbrev o24_22:List Ins:=[⟨some 7,.mv (.k (.c (.raw (.slice none 0 0)))),none,true⟩]
abbrev o24_23:List Ins:=[⟨some 29,.mv (.t 0),none,true⟩,
 ⟨some 30,.len (.t 29),none,true⟩,
 ⟨some 31,.mv (.k (.c (.int .i64 0))),none,true⟩]
abbrev o24_24:List Ins:=[⟨some 32,.bin .lss (.t 31) (.t 30),none,true⟩]
abbrev o24_25:List Ins:=[⟨some 33,.ia 1 (.t 29) (.t 31),none,true⟩,
 ⟨some 34,.ld true 1 (.t 33),none,true⟩,
 ⟨some 9,.mv (.t 34),none,true⟩]
abbrev o24_26:List Ins:=[⟨some 35,.mv (.t 9),none,true⟩,
 ⟨some 36,.raw (.convert 9 68 (.tmp 35)),none,true⟩,
 ⟨some 37,.bsl 5 1 [(.k (.c (.int .u8 124)))],none,true⟩,
 ⟨some 38,.appv 5 1 1 (.t 36) (.t 37),none,true⟩,
 ⟨some 10,.mv (.t 38),none,true⟩]
abbrev o24_27:List Ins:=[⟨some 39,.mv (.t 10),none,true⟩,
 ⟨some 40,.len (.t 39),none,true⟩,
 ⟨some 41,.mv (.t 4),none,true⟩,
 ⟨some 42,.bin .lss (.t 40) (.t 41),none,true⟩]
abbrev v24_28:VC:=(.cond (.t 42) .skip (.exit 4))
abbrev o24_29:List Ins:=[⟨some 43,.mv (.t 10),none,true⟩,
 ⟨some 44,.bsl 5 1 [(.k (.c (.int .u8 32)))],none,true⟩,
 ⟨some 45,.appv 5 1 1 (.t 43) (.t 44),none,true⟩,
 ⟨some 10,.mv (.t 45),none,true⟩]
abbrev v24_30:VC:=(.block 5 (.ops o24_29))
abbrev v24_31:VC:=(.seq (.seq (.ops o24_27) v24_28) v24_30)
-- K24_3: changed and kept: [10]
abbrev v24_32:VC:=(.loop v24_31)
abbrev o24_33:List Ins:=[⟨some 46,.mv (.t 7),none,true⟩,
 ⟨some 47,.mv (.t 10),none,true⟩,
 ⟨some 48,.bsl 5 1 [(.k (.c (.int .u8 63)))],none,true⟩,
 ⟨some 49,.appv 5 1 1 (.t 47) (.t 48),none,true⟩,
 ⟨some 50,.bslv 68 1 [(.t 49)],none,true⟩,
 ⟨some 51,.appv 68 1 24 (.t 46) (.t 50),none,true⟩,
 ⟨some 7,.mv (.t 51),none,true⟩]
abbrev v24_34:VC:=(.seq (.block 4 v24_32) (.ops o24_33))
abbrev v24_35:VC:=(.seq (.ops o24_26) v24_34)
abbrev v24_36:VC:=(.seq (.ops o24_25) v24_35)
abbrev o24_37:List Ins:=[⟨some 52,.bin .add (.t 31) (.k (.c (.int .i64 1))),none,true⟩,
 ⟨some 31,.mv (.t 52),none,true⟩]
abbrev v24_38:VC:=(.seq (.block 3 v24_36) (.ops o24_37))
abbrev v24_39:VC:=(.seq (.cond (.t 32) .skip (.exit 2)) v24_38)
abbrev v24_40:VC:=(.seq (.ops o24_24) v24_39)
-- K24_2: changed and kept: [31,7]
abbrev v24_41:VC:=(.loop v24_40)
abbrev v24_42:VC:=(.block 2 v24_41)
abbrev o24_43:List Ins:=[⟨some 53,.mv (.t 7),none,true⟩,
 ⟨some 54,.bsl 5 1 [(.k (.c (.int .u8 63)))],none,true⟩,
 ⟨some 55,.mv (.t 4),none,true⟩,
 ⟨some 56,.bin .add (.t 55) (.k (.c (.int .i64 1))),none,true⟩,
 ⟨some 57,.call (.k (.fn 55 [])) [(.t 54),(.t 56)],none,true⟩,
 ⟨some 58,.bslv 68 1 [(.t 57)],none,true⟩,
 ⟨some 59,.appv 68 1 24 (.t 53) (.t 58),none,true⟩,
 ⟨some 7,.mv (.t 59),none,true⟩]
abbrev o24_44:List Ins:=[⟨some 60,.mv (.t 7),none,true⟩,
 ⟨some 61,.call (.k (.fn 56 [])) [(.t 60)],none,true⟩]
abbrev o24_45:List Ins:=[⟨some 62,.mv (.t 7),none,true⟩,
 ⟨some 63,.call (.k (.fn 45 [])) [(.t 62)],none,true⟩,
 ⟨some 2,.mv (.t 63),none,true⟩,
 ⟨some 3,.mv (.k (.c (.int .i64 0))),none,true⟩]
abbrev v24_46:VC:=(.seq (.ops o24_45) .ret)
abbrev v24_47:VC:=(.seq (.ops o24_44) v24_46)
abbrev v24_48:VC:=(.seq (.ops o24_43) v24_47)
abbrev v24_49:VC:=(.seq (.seq (.ops o24_23) v24_42) v24_48)
abbrev v24_50:VC:=(.seq (.ops o24_22) v24_49)
abbrev v24_51:VC:=(.seq (.seq (.ops o24_6) v24_21) v24_50)
abbrev v24_52:VC:=(.seq (.ops o24_5) v24_51)
abbrev v24_53:VC:=(.seq (.seq (.ops o24_1) v24_4) v24_52)
def ir24:FC:=⟨1,64,[.t 2,.t 3],(.seq (.ops o24_0) v24_53)⟩
theorem c24:compM Tryd.prog [100038,100045,100049,100050,100051,100058,100059] 24 = some ir24:=by kernel_rfl
attribute [local go_sem] Nat.reduceEqDiff Nat.reduceAdd Nat.reduceMul reduceIte Nat.reduceLeDiff Nat.reduceLT Nat.reduceBEq reduceCtorEq
theorem bcells_take (s:List UInt8) (j:Nat):List.take (s.length * 1) (cellsG bcd s j) = cellsG bcd s 0:=cellsG_take bcd_one s j
theorem bcells_snoc (s:List UInt8) (b:UInt8) (j:Nat):cellsG bcd s 0 ++ [.c (.int .u8 b.toNat)] ++ List.replicate j .non = cellsG bcd (s ++ [b]) j:=by simp [cellsG,flatG,bcd]
theorem bcells_app (d:Nat) (s:List UInt8) (b:UInt8) (j:Nat):AV.prgL d (cellsG bcd s 0 ++ List.map AV.c [[CD.int .u8 (b.toNat:Int)]].flatten ++ List.replicate j .non) = cellsG bcd (s ++ [b]) j:=by
 have:=bcells_snoc s b j
 rw [← prg_cellsG bcd d (s ++ [b]) j,← this]; rfl
def maxW (ts:List (List UInt8)):Nat:=ts.foldl (fun m s => max m (s.length + 1)) 1
theorem maxW_snoc {ts:List (List UInt8)} {k:Nat} (h:k < ts.length):maxW (ts.take (k + 1)) = max (maxW (ts.take k)) (ts[k].length + 1):=by
 unfold maxW
 rw [List.take_succ_eq_append_getElem h,List.foldl_append]; rfl
theorem foldW_ge:∀ (ts:List (List UInt8)) (m:Nat),m ≤ ts.foldl (fun m s => max m (s.length + 1)) m ∧ ∀ s ∈ ts,s.length + 1 ≤ ts.foldl (fun m s => max m (s.length + 1)) m
 | [],m => ⟨Nat.le_refl _,fun s h => by cases h⟩
 | t :: ts,m => by
  obtain ⟨h1,h2⟩:=foldW_ge ts (max m (t.length + 1))
  refine ⟨by simp only [List.foldl_cons]; omega,fun s hs => ?_⟩
  simp only [List.foldl_cons]
  rcases List.mem_cons.1 hs with rfl | hs
  ·omega
  ·exact h2 s hs
theorem maxW_ge (ts:List (List UInt8)):1 ≤ maxW ts ∧ ∀ s ∈ ts,s.length + 1 ≤ maxW ts:=foldW_ge ts 1
theorem foldW_le (b:Nat):∀ (ts:List (List UInt8)) (m:Nat),m ≤ b → (∀ s ∈ ts,s.length + 1 ≤ b) → ts.foldl (fun m s => max m (s.length + 1)) m ≤ b
 | [],m,h,_ => h
 | t :: ts,m,h,h2 => foldW_le b ts _ (by have:=h2 t (by simp); simp only; omega) fun s hs => h2 s (by simp [hs])
theorem maxW_le {ts:List (List UInt8)} {b:Nat} (h1:1 ≤ b) (h:∀ s ∈ ts,s.length + 1 ≤ b):maxW ts ≤ b:=foldW_le b ts 1 h1 h
def rowB (w:Nat) (s:List UInt8):List UInt8:=s ++ 124 :: List.replicate (w - (s.length + 1)) 32
def rowW (w:Nat) (s:List UInt8):List UInt8:=rowB w s ++ [63]
def rowsW (ts:List (List UInt8)):List (List UInt8):=ts.map (rowW (maxW ts)) ++ [List.replicate (maxW ts + 1) 63]
def writeG (ts:List (List UInt8)):List UInt8 × Int :=
 if 40 < ts.length then ([],2) else if ts.all isTx then (textG (bytesG (restG (ts.length + 1) (maxW ts + 1) (valsG (rowsW ts)))),0) else ([],1)
theorem isTx_len {s:List UInt8} (h:isTx s = true):s.length ≤ 30:=by
 unfold isTx at h
 simp only [Bool.and_eq_true,decide_eq_true_eq] at h
 exact h.2
theorem rowW_len {w:Nat} {s:List UInt8} (h:s.length + 1 ≤ w):(rowW w s).length = w + 1:=by simp [rowW,rowB]; omega
theorem rowW_ok {w:Nat} {s:List UInt8} (h:isTx s = true):∀ b ∈ rowW w s,BOk b:=by
 intro b hb
 unfold rowW rowB at hb
 simp only [List.mem_append,List.mem_cons,List.mem_replicate,List.not_mem_nil,or_false] at hb
 rcases hb with (hb | rfl | ⟨_,rfl⟩) | rfl
 ·unfold isTx at h
  simp only [Bool.and_eq_true] at h
  have:=List.all_eq_true.1 h.1 b hb
  exact okB_ok (by unfold okB; rw [this]; simp)
 ·unfold BOk; decide
 ·unfold BOk; decide
 ·unfold BOk; decide
theorem rowsW_len (ts:List (List UInt8)):(rowsW ts).length = ts.length + 1:=by simp [rowsW]
theorem rowsW_row {ts:List (List UInt8)}:∀ l ∈ rowsW ts,l.length = maxW ts + 1:=by
 intro l hl
 unfold rowsW at hl
 rcases List.mem_append.1 hl with hl | hl
 ·obtain ⟨s,hs,rfl⟩:=List.mem_map.1 hl
  exact rowW_len ((maxW_ge ts).2 s hs)
 ·simp only [List.mem_singleton] at hl
  subst hl; simp
theorem rowsW_byte {ts:List (List UInt8)} (h:ts.all isTx = true):∀ l ∈ rowsW ts,∀ b ∈ l,BOk b:=by
 intro l hl b hb
 unfold rowsW at hl
 rcases List.mem_append.1 hl with hl | hl
 ·obtain ⟨s,hs,rfl⟩:=List.mem_map.1 hl
  exact rowW_ok (List.all_eq_true.1 h s hs) b hb
 ·simp only [List.mem_singleton] at hl
  subst hl
  rw [List.eq_of_mem_replicate hb]
  unfold BOk; decide
theorem rowsW_sok {ts:List (List UInt8)} (h:ts.all isTx = true) (h40:¬ 40 < ts.length):SOk (rowsW ts) (maxW ts + 1):=by
 have h1:=(maxW_ge ts).1
 have h2:=maxW_le (ts:=ts) (b:=31) (by omega) fun s hs => by have:=isTx_len (List.all_eq_true.1 h s hs); omega
 exact ⟨by rw [rowsW_len]; omega,by rw [rowsW_len]; omega,by omega,by omega,rowsW_row,rowsW_byte h⟩
set_option maxRecDepth 20000 in
set_option maxHeartbeats 16000000 in
theorem write24 (ts:List (List UInt8)) (hts:∀ s ∈ ts,s.length ≤ 1000000) (htl:ts.length ≤ 1000000):FSpec Tryd.prog 24 [.c (strsV ts)] (.tup [.c (.str (writeG ts).1),iv (writeG ts).2]):=by
 have hmax:maxLen = 9223372036854775807:=rfl
 refine FSpec_ofP c24 (Nat.le_refl _) (by decide) fun C hP hN hC hpin hL => ?_; rw [init_st]
 simp only [ir24,strsV]
 (repeat ((first | refine Va ?_ | refine Vb ?_ | refine Vc ?_ | refine Vd ?_ | refine Ve ?_ | refine Vf ?_); (try simp only [go_sem,hP,List.length_map]); (repeat refine qJ ?_)))
 by_cases h40:40 < ts.length
 ·have hwr:writeG ts = ([],2):=by unfold writeG; rw [if_pos h40]
  rw [hwr]
  (refine WV_cond rfl (fun h => ?_) (fun h => ?_))
  ·(repeat ((first | refine Va ?_ | refine Vb ?_ | refine Vc ?_ | refine Vd ?_ | refine Ve ?_ | refine Vf ?_); (try simp only [go_sem,hP]); (repeat refine qJ ?_)))
   (refine WV_ret ?_; simp only [thenQ,inQ,RetQ,RetOk,resAll,resA]; simp only [go_sem,tupA,AV.port,AV.portL,exists_eq_left'])
   exact AVle.refl _
  ·simp at h; omega
 have hwr:writeG ts = if ts.all isTx then (textG (bytesG (restG (ts.length + 1) (maxW ts + 1) (valsG (rowsW ts)))),0) else ([],1):=by unfold writeG; rw [if_neg h40]
 rw [hwr]
 (refine WV_cond rfl (fun h => ?_) (fun h => ?_))
 ·simp at h; omega
 (repeat ((first | refine Va ?_ | refine Vb ?_ | refine Vc ?_ | refine Vd ?_ | refine Ve ?_ | refine Vf ?_); (try simp only [go_sem,hP,List.length_map]); (repeat refine qJ ?_)))
 refine WV_loopK K24_1 [] (fun k:Nat => k ≤ ts.length ∧ (ts.take k).all isTx = true) (fun k => ts.length - k) (fun k => [(16,iv k),(4,iv (maxW (ts.take k)))]) (fun _ => []) 0 ⟨Nat.zero_le _,rfl⟩ ?_ ?_
 ·(refine Sub_of (by simp only [go_sem]; ((repeat' (first | exact EnvLe_e0 _ _ | refine EnvLe_upd ?_ ?_)) <;> ((try simp only [upd_app,e0_app,o0_app,Nat.reduceEqDiff,reduceIte]); first | exact AWk.refl _ _ | exact AWk.int (by omega) | exact AWk.int (by rw [w64 (by omega) (by omega)]; omega) | exact AWk.grow rfl | exact AWk.nil _ | exact AWk.of (by simp [maxW])))) (by simp only [go_sem]; exact ObjLe_au))
 ·intro k ⟨hk0,hall⟩
  simp only [go_sem]
  (repeat ((first | refine Va ?_ | refine Vb ?_ | refine Vc ?_ | refine Vd ?_ | refine Ve ?_ | refine Vf ?_); (try simp only [go_sem,hP]); (repeat refine qJ ?_)))
  (refine WV_cond rfl (fun h => ?_) (fun h => ?_))
  ·have hk:k < ts.length:=by simpa using h
   have hsn:=maxW_snoc hk
   have has:=all_snoc isTx hk
   have hlk:=hts _ (List.getElem_mem hk)
   have hw0:=maxW_ge (ts.take k)
   have hmwl:maxW (ts.take k) ≤ 1000001:=maxW_le (by omega) fun s hs => by have:=hts s (List.mem_of_mem_take hs); omega
   have hw2:=w64 (n:=(k:Int) + 1) (by omega) (by omega)
   have hw3:=w64 (n:=((ts[k]).length:Int) + 1) (by omega) (by omega)
   (repeat ((first | refine Va ?_ | refine Vb ?_ | refine Vc ?_ | refine Vd ?_ | refine Ve ?_ | refine Vf ?_); (try simp only [go_sem,hP,map_getD hk,Int.toNat_natCast,Int.ofNat_lt,hk,Int.natCast_nonneg,List.length_map]); (repeat refine qJ ?_)))
   (refine AS_pu (istext54 ts[k] (by omega)) ?_; simp only [go_sem,hP]; (repeat refine qJ ?_); (repeat ((first | refine Va ?_ | refine Vb ?_ | refine Vc ?_ | refine Vd ?_ | refine Ve ?_ | refine Vf ?_); (try simp only [go_sem,hP]); (repeat refine qJ ?_))))
   by_cases htx:isTx ts[k] = true
   ·rw [hall,htx] at has
    rw [htx]
    (refine WV_cond rfl (fun h => ?_) (fun h => ?_))
    ·simp at h
    (repeat ((first | refine Va ?_ | refine Vb ?_ | refine Vc ?_ | refine Vd ?_ | refine Ve ?_ | refine Vf ?_); (try simp only [go_sem,hP,hw2,hw3]); (repeat refine qJ ?_)))
    refine ⟨k + 1,⟨by omega,has⟩,by omega,?_⟩
    rw [hsn]
    (refine Sub_of (by simp only [go_sem]; ((repeat' (first | exact EnvLe_e0 _ _ | refine EnvLe_upd ?_ ?_)) <;> ((try simp only [upd_app,e0_app,o0_app,Nat.reduceEqDiff,reduceIte]); first | exact AWk.refl _ _ | exact AWk.int (by omega) | exact AWk.int (by rw [w64 (by omega) (by omega)]; omega) | exact AWk.grow rfl | exact AWk.nil _ | exact AWk.of (by simp; omega)))) (by simp only [go_sem]; exact ObjLe_au))
   ·have hna:ts.all isTx = false:=all_take_false isTx hk (by simpa using htx)
    rw [hna,if_neg (by simp)]
    (refine WV_cond rfl (fun h => ?_) (fun h => ?_))
    ·(repeat ((first | refine Va ?_ | refine Vb ?_ | refine Vc ?_ | refine Vd ?_ | refine Ve ?_ | refine Vf ?_); (try simp only [go_sem,hP]); (repeat refine qJ ?_)))
     (refine WV_ret ?_; simp only [thenQ,inQ,RetQ,RetOk,resAll,resA]; simp only [go_sem,tupA,AV.port,AV.portL,exists_eq_left'])
     exact AVle.refl _
    ·simp at h; exact (htx h).elim
  ·have hk:k = ts.length:=by simp at h; omega
   subst hk
   rw [List.take_length] at hall ⊢
   rw [hall,if_pos rfl]
   have hlen:∀ s ∈ ts,s.length ≤ 30:=fun s hs => isTx_len (List.all_eq_true.1 hall s hs)
   have hmw:=maxW_le (ts:=ts) (b:=31) (by omega) fun s hs => by have:=hlen s hs; omega
   have hmg:=maxW_ge ts
   have hsok:=rowsW_sok hall h40
   have hrws:rowsW ts = ts.map (rowW (maxW ts)) ++ [List.replicate (maxW ts + 1) 63]:=rfl
   clear hwr htl hts
   generalize hw:maxW ts = w at hmw hmg hsok hrws
   (repeat ((first | refine Va ?_ | refine Vb ?_ | refine Vc ?_ | refine Vd ?_ | refine Ve ?_ | refine Vf ?_); (try simp only [go_sem,hP,List.length_map]); (repeat refine qJ ?_)))
   refine WV_loopS (fun p:List BRow × AV × Ob => ⟨upd (upd (upd (upd (upd e0 4 (iv w)) 29 (.c (.sl 1 (List.map (fun t => [CD.str t]) ts)))) 30 (iv ts.length)) 31 (iv p.1.length)) 7 p.2.1,fam 1001 bcd p.1 (upd o0 51 p.2.2)⟩) (fun p => p.1.length ≤ ts.length ∧ p.1.map Row.l = (ts.take p.1.length).map (rowW w) ∧ GrowG 1001 51 p.1 p.2.1 p.2.2) (fun p => ts.length - p.1.length) ([],.c (.raw (.slice none 0 0)),.none) ⟨Nat.zero_le _,rfl,GrowG.nil _ _⟩ ?_ ?_
   ·refine Sub_of (by exact EnvLe_au) ?_
    rw [fam_nil]
    exact ObjLe_au
   ·rintro ⟨R,y,x⟩ ⟨hr0,hrl,hg⟩
    simp only at hr0 hrl hg ⊢
    (repeat ((first | refine Va ?_ | refine Vb ?_ | refine Vc ?_ | refine Vd ?_ | refine Ve ?_ | refine Vf ?_); (try simp only [go_sem,hP]); (repeat refine qJ ?_)))
    have hyd:=hg.dg.1
    have hyv:=hg.dg.2
    have gp:∀ d,d ≠ 51 → d < 1001 → AV.prg d y = y ∧ Ob.prg d x = x:=fun d h1 h2 => hg.prg h1 h2
    obtain ⟨o1,ho1⟩ : ∃ o1,o1 = upd o0 51 x:=⟨_,rfl⟩
    have gq:∀ d,d ≠ 51 → d < 1001 → prgO d o1 = o1:=fun d h1 h2 => by rw [ho1,prgO_upd,prgO_o0,(gp d h1 h2).2]
    have gz:∀ d,d ≠ 51 → o1 d = .none:=fun d h1 => by rw [ho1,upd_app,if_neg h1]; rfl
    have p36:=gp 36 (by decide) (by decide)
    have q36:prgO 36 o1 = o1:=gq 36 (by decide) (by decide)
    have z36:o1 36 = .none:=gz 36 (by decide)
    have p37:=gp 37 (by decide) (by decide)
    have q37:prgO 37 o1 = o1:=gq 37 (by decide) (by decide)
    have z37:o1 37 = .none:=gz 37 (by decide)
    have p38:=gp 38 (by decide) (by decide)
    have q38:prgO 38 o1 = o1:=gq 38 (by decide) (by decide)
    have z38:o1 38 = .none:=gz 38 (by decide)
    have p44:=gp 44 (by decide) (by decide)
    have q44:prgO 44 o1 = o1:=gq 44 (by decide) (by decide)
    have z44:o1 44 = .none:=gz 44 (by decide)
    have p45:=gp 45 (by decide) (by decide)
    have q45:prgO 45 o1 = o1:=gq 45 (by decide) (by decide)
    have z45:o1 45 = .none:=gz 45 (by decide)
    have p48:=gp 48 (by decide) (by decide)
    have q48:prgO 48 o1 = o1:=gq 48 (by decide) (by decide)
    have z48:o1 48 = .none:=gz 48 (by decide)
    have p49:=gp 49 (by decide) (by decide)
    have q49:prgO 49 o1 = o1:=gq 49 (by decide) (by decide)
    have z49:o1 49 = .none:=gz 49 (by decide)
    rw [← ho1]
    (refine WV_cond rfl (fun h => ?_) (fun h => ?_))
    ·have hk:R.length < ts.length:=by simpa using h
     have hl30:=hlen _ (List.getElem_mem hk)
     have hlw:=hmg.2 _ (List.getElem_mem hk)
     have hw2:=w64 (n:=(R.length:Int) + 1) (by omega) (by omega)
     generalize hs:ts[R.length] = s at hl30 hlw
     (refine WV_skip ?_; simp only [go_sem])
     refine WV_seq_ (WV_block (WV_seq_ ?_))
     (refine WV_op ?_; simp only [go_sem,hP,map_getD hk,Int.toNat_natCast,Int.ofNat_lt,hk,Int.natCast_nonneg,List.length_map,hs]; (repeat refine qJ ?_))
     refine WV_keep [4,7,9,29,30,31] ?_
     simp only [go_sem]
     refine WV_seq_ ?_
     (refine WV_op ?_; simp only [go_sem,hP]; (repeat refine qJ ?_))
     refine raw_sb (x':=.t 35) (e:=5) (by kernel_rfl) (by kernel_rfl) (by kernel_rfl) rfl rfl rfl (by show (fam 1001 bcd R o1 36).isNone = true; rw [fam_lo (by decide),z36]; rfl) (by omega) ?_
     intro cap j k1 k2 k3
     simp only [go_sem,prg_cellsG,prgO_fam,p36,p37,p38,q36,q37,q38,z36,z37,z38,fam_upd,fam_lo]
     refine ⟨by rw [cellsG_len bcd_one]; omega,by omega,by omega,?_⟩
     intro cap1 j1 q1 q2 q3
     rw [bcells_take,show (124:Int) = ((UInt8.toNat 124:Nat):Int) from rfl,bcells_app]
     have rny:=hg.rn (d:=38) (n:=45) (by decide) (by decide) (by decide) (by decide)
     have rno:rnP 38 45 o1 = o1:=by rw [ho1,rnP_upd,rnP_o0,rny.2]
     refine WV_keep [4,7,10,29,30,31] ?_
     simp only [go_sem]
     refine WV_move' 38 45 (by decide) (by decide) (by rw [fam_lo (by decide)]; simp only [upd_app,Nat.reduceEqDiff,if_false]; exact z45) ?_
     unfold rnO
     rw [rnP_fam,fam_lo (by decide),fam_upd (by decide),fam_upd (by decide)]
     simp only [go_sem,rnP_upd,rnE_upd,rnE_e0,rnP_o0,rn_cellsG,rn_non,AV.rn,AV.rnL,rny,rno,rn_boxO]
     refine WV_seq_ (WV_block ?_)
     have hlen1:(s ++ [124]).length = s.length + 1:=by simp
     refine WV_loopS (fun p:List UInt8 × Nat × Nat => ⟨upd (upd (upd (upd (upd (upd e0 4 (iv w)) 29 (.c (.sl 1 (List.map (fun t => [CD.str t]) ts)))) 30 (iv ts.length)) 31 (iv R.length)) 7 y) 10 (.vw 1 45 0 p.1.length p.2.1),fam 1001 bcd R (upd o1 45 (.box (cellsG bcd p.1 p.2.2)))⟩) (fun p => p.1.length ≤ w ∧ (∃ m,p.1 = s ++ 124 :: List.replicate m 32) ∧ p.1.length ≤ p.2.1 ∧ p.2.1 ≤ maxLen ∧ p.2.1 ≤ p.1.length + p.2.2) (fun p => w - p.1.length) (s ++ [124],cap1,j1) ⟨by simp only; rw [hlen1]; exact hlw,⟨0,rfl⟩,by simp only; rw [hlen1]; exact q1,q2,by simp only; rw [hlen1]; omega⟩ ?_ ?_
     ·simp only [hlen1]
      refine Sub_of ?_ (ObjLe_fam ?_)
      ·exact EnvLe_au
      ·intro n
       by_cases e45:n = 45
       ·subst e45; left; simp [upd_app]
       by_cases e36:n = 36
       ·subst e36; right; simpa [upd_app] using z36
       by_cases e37:n = 37
       ·subst e37; right; simpa [upd_app] using z37
       by_cases e38:n = 38
       ·subst e38; right; simpa [upd_app] using z38
       left; simp [upd_app,e36,e37,e38,e45]
     ·rintro ⟨l,c,j2⟩ ⟨i1,⟨m,i2⟩,i3,i4,i5⟩
      simp only at i1 i2 i3 i4 i5 ⊢
      (repeat ((first | refine Va ?_ | refine Vb ?_ | refine Vc ?_ | refine Vd ?_ | refine Ve ?_ | refine Vf ?_); (try simp only [go_sem,hP]); (repeat refine qJ ?_)))
      (refine WV_cond rfl (fun h => ?_) (fun h => ?_))
      ·have hlt:l.length < w:=by simpa using h
       (refine WV_skip ?_; simp only [go_sem])
       refine WV_block ?_
       (refine WV_op ?_; simp only [go_sem,hP,fam_lo,fam_upd,prgO_fam,p44,q44,p45,q45,z44,z45,prg_cellsG]; (repeat refine qJ ?_))
       refine ⟨by rw [cellsG_len bcd_one]; omega,by omega,by omega,?_⟩
       intro c3 j3 u1 u2 u3
       rw [bcells_take,show (32:Int) = ((UInt8.toNat 32:Nat):Int) from rfl,bcells_app]
       have hl1:(l ++ [32]).length = l.length + 1:=by simp
       refine ⟨(l ++ [32],c3,j3),⟨by simp only; omega,⟨m + 1,by simp only; rw [i2,List.replicate_succ']; simp⟩,by simp only; omega,u2,by simp only; omega⟩,by simp only; omega,?_⟩
       simp only [hl1]
       refine Sub_of ?_ (ObjLe_fam ?_)
       ·exact EnvLe_au
       ·intro n
        by_cases e45:n = 45
        ·subst e45; left; simp [upd_app]
        by_cases e44:n = 44
        ·subst e44; right; simpa [upd_app] using z44
        left; simp [upd_app,e44,e45]
      ·have hlt:l.length = w:=by simp at h; omega
       refine WV_exit ?_
       simp only [thenQ,inQ,reduceIte,beq_self_eq_true]
       (refine WV_split 4 ?_; simp only [List.take_succ_cons,List.take_zero,List.take_nil,List.drop_succ_cons,List.drop_zero,List.drop_nil]; simp only [go_sem,hP,fam_lo,fam_upd,prgO_fam,p48,q48,p49,q49,z45,z48,z49,prg_cellsG,hyd,hyv]; (repeat refine qJ ?_))
       refine ⟨hyd,by rw [cellsG_len bcd_one]; omega,by omega,by omega,?_⟩
       intro c3 j3 u1 u2 u3
       rw [bcells_take,show (63:Int) = ((UInt8.toNat 63:Nat):Int) from rfl,bcells_app]
       have hl2:l ++ [63] = rowW w s:=by
        unfold rowW rowB
        rw [i2] at hlt ⊢
        simp at hlt
        congr 3
        congr 1
        omega
       have hl3:(l ++ [63]).length = l.length + 1:=by simp
       refine SOps_addrow (cds:=bcd) (b:=1001) (D:=51) (E:=49) (B:=50) (tr:=49) (tg:=46) (R:=R) (l:=l ++ [63]) (j:=j3) (cap:=c3) (y:=y) (x:=x) [4,29,30,31] hpin (by decide) (by decide) (by decide) (by decide) (by decide) (by decide) (by rw [hl3]; rfl) (by show AV.prg 49 (AV.prg 48 y.dv) = y; rw [hyv,p48.1,p49.1]) (by decide) hg ?_ (by omega) (by decide) (by rfl) hg.any ?_
       ·rw [ho1]
        refine ObjLe_fam fun n => ?_
        by_cases e49:n = 49
        ·subst e49; left; simp [upd_app]
        by_cases e51:n = 51
        ·subst e51; left; simp [upd_app]
        right; simp [upd_app,e49,e51,o0_app]
       intro c4 j4 v1 v2 v3
       refine SOps_ops ?_
       simp only [go_sem,keepE]
       (repeat ((first | refine Va ?_ | refine Vb ?_ | refine Vc ?_ | refine Vd ?_ | refine Ve ?_ | refine Vf ?_); (try simp only [go_sem,hP,hw2]); (repeat refine qJ ?_)))
       have hrl2:(R ++ [(⟨l ++ [63],j3,c3⟩ : BRow)]).length = R.length + 1:=by simp
       refine ⟨(R ++ [⟨l ++ [63],j3,c3⟩],.vw 1 51 0 (R.length + 1) c4,.box (refs 1001 1 0 (R ++ [⟨l ++ [63],j3,c3⟩]) ++ List.replicate j4 .non)),⟨by simp only [hrl2]; omega,?_,?_⟩,by simp only [hrl2]; omega,?_⟩
       ·simp only [hrl2,List.map_append,hrl,List.map_cons,List.map_nil]
        rw [List.take_succ_eq_append_getElem hk,List.map_append,hs,hl2]; rfl
       ·rw [← hrl2]
        exact GrowG.some (by simp) (by rw [hrl2]; exact v1) v2 (by rw [hrl2]; omega)
       ·simp only [hrl2]
        refine Sub_of ?_ (ObjLe.rfl' _)
        exact EnvLe_au
    ·have hk:R.length = ts.length:=by simp at h; omega
     rw [hk,List.take_length] at hrl
     refine WV_exit ?_
     simp only [thenQ,inQ,reduceIte,beq_self_eq_true]
     rw [ho1]
     refine WV_regrow (b:=1001) (D:=51) (D':=59) (t:=7) [4] (by decide) (by decide) (by decide) hpin hg ?_ ?_
     ·rfl
     clear hg hyd hyv gp
     intro y' x' hg
     have hyd:=hg.dg.1
     have hyv:=hg.dg.2
     simp only [go_sem,keepE]
     have hw2:=w64 (n:=(w:Int) + 1) (by omega) (by omega)
     have hre:=repeat55 (w + 1) (by omega)
     obtain ⟨o2,ho2⟩ : ∃ o2,o2 = upd o0 59 x':=⟨_,rfl⟩
     have gp:∀ d,d ≠ 59 → d < 1001 → AV.prg d y' = y' ∧ Ob.prg d x' = x':=fun d h1 h2 => hg.prg h1 h2
     have gq:∀ d,d ≠ 59 → d < 1001 → prgO d o2 = o2:=fun d h1 h2 => by rw [ho2,prgO_upd,prgO_o0,(gp d h1 h2).2]
     have gz:∀ d,d ≠ 59 → o2 d = .none:=fun d h1 => by rw [ho2,upd_app,if_neg h1]; rfl
     have p54:=gp 54 (by decide) (by decide)
     have q54:=gq 54 (by decide) (by decide)
     have z54:=gz 54 (by decide)
     have p57:=gp 57 (by decide) (by decide)
     have q57:=gq 57 (by decide) (by decide)
     have z57:=gz 57 (by decide)
     rw [← ho2]
     refine WV_seq_ ?_
     (refine WV_split 5 ?_; simp only [List.take_succ_cons,List.take_zero,List.take_nil,List.drop_succ_cons,List.drop_zero,List.drop_nil]; simp only [go_sem,hP,hw2,fam_lo,fam_upd,prgO_fam,p54,q54,z54,hyd,hyv]; (repeat refine qJ ?_))
     refine ⟨hyd,?_⟩
     have hre2:FSpecN Tryd.prog 55 [.c (.sl 1 [[.int .u8 63]]),iv ((w:Int) + 1)] (fun r os => r = .vw 1 1000 0 (w + 1) (w + 1) ∧ ∃ j,os = [.box (cellsG bcd (List.replicate (w + 1) 63) j)]):=hre
     refine AS_new hre2 rfl rfl rfl ?_ ?_
     ·simp only [go_sem,fam_lo,AV.portL,AV.port]
     rintro r os ⟨rfl,j,rfl⟩
     refine ⟨[57],.vw 1 57 0 (w + 1) (w + 1),[.box (cellsG bcd (List.replicate (w + 1) 63) j)],by decide,rfl,?_,rfl,?_,?_⟩
     ·simp only [List.all_cons,List.all_nil,Bool.and_true]
      show (decide (57 < 1000) && (fam 1001 bcd R (upd o2 54 (Ob.grow 5 1 [[CD.int IntKind.u8 63]])) 57).isNone) = true
      rw [fam_lo (by decide),upd_app,if_neg (by decide),z57]; rfl
     ·simp only [go_sem,obsBack,Ob.back,back_cellsG]
     simp only [go_sem,prgEs,prgOs,ownBack,p57,q57,fam_lo,fam_upd,prgO_fam]
     have hll:(List.replicate (w + 1) (63:UInt8)).length = w + 1:=by simp
     refine SOps_addrow (cds:=bcd) (b:=1001) (D:=59) (E:=57) (B:=58) (tr:=57) (tg:=53) (R:=R) (l:=List.replicate (w + 1) 63) (j:=j) (cap:=w + 1) (y:=y') (x:=x') [4] hpin (by decide) (by decide) (by decide) (by decide) (by decide) (by decide) (by rw [hll]; rfl) (by show AV.prg 57 (AV.prg 54 y'.dv) = y'; rw [hyv,p54.1,p57.1]) (by decide) hg ?_ (by omega) (by decide) (by rfl) hg.any ?_
     ·rw [ho2]
      refine ObjLe_fam fun n => ?_
      by_cases e57:n = 57
      ·subst e57; left; simp [upd_app]
      by_cases e59:n = 59
      ·subst e59; left; simp [upd_app]
      right; simp [upd_app,e57,e59,o0_app]
     intro c4 j4 v1 v2 v3
     refine SOps_ops ?_
     simp only [go_sem,keepE]
     obtain ⟨R1,hR1⟩ : ∃ R1,R1 = R ++ [(⟨List.replicate (w + 1) 63,j,w + 1⟩ : BRow)]:=⟨_,rfl⟩
     have hr1l:R1.length = R.length + 1:=by rw [hR1]; simp
     have hr1m:R1.map Row.l = rowsW ts:=by rw [hR1,List.map_append,hrl,hrws]; rfl
     rw [← hR1,← hr1l]
     rw [← hr1m] at hsok
     obtain ⟨hok1,hbr1⟩:=hsok.rok
     refine WV_grown (t:=7) [4] (by decide) hpin rfl rfl ?_
     simp only [go_sem,keepE]
     refine WV_seq_ ?_
     (refine WV_op ?_; simp only [go_sem,hP]; (repeat refine qJ ?_))
     refine AS_grid (restore56 (j:=j4) (gcap:=c4) hok1 hbr1 (by omega)) rfl rfl rfl ?_ ?_
     ·simp only [List.map_cons,List.map_nil,List.append_nil]
      simp only [go_sem,AV.lendL,lend_grid]
     rintro r l' ⟨rfl,R2,m1,m2,m3,m4,m5,rfl⟩
     refine ⟨R2,m1,rfl,rfl,?_⟩
     rw [← m1]
     have hgr2:R2.map Row.l = bytesG (restG (ts.length + 1) (w + 1) (valsG (rowsW ts))):=by
      rw [← hr1m,← gv_vals,show ts.length + 1 = R1.length by omega,← m5,gv_vals,bytes_vals m3.mem]
     have hSw:∀ l ∈ R2.map Row.l,l.length = w + 1:=by
      intro l hl
      obtain ⟨r,hr,rfl⟩:=List.mem_map.1 hl
      obtain ⟨q,hq,rfl⟩:=List.getElem_of_mem hr
      exact m2.row q hq
     have hst:=string45 (rows:=R2.map Row.l) (fun l hl e => by have:=hSw l hl; rw [e] at this; simp at this) (fun e => by have:=congrArg List.length e; simp at this; rw [this] at m1; simp at m1; omega) (by rw [List.length_map]; omega) (fun l hl => by rw [hSw l hl]; omega)
     refine WV_keep [7] ?_
     simp only [go_sem]
     refine WV_frzGrid (fun n ds hn => ?_) (fun n ds hn => frzO_o0 _ _) ?_
     ·have hn3:¬ (1000:Nat) = n:=by omega
      simp only [go_sem,AV.frz]
      simp only [hn3,if_false]
     simp only [frzE_upd,frzE_e0,frz_grid]
     rw [hgr2] at hst ⊢
     (repeat ((first | refine Va ?_ | refine Vb ?_ | refine Vc ?_ | refine Vd ?_ | refine Ve ?_ | refine Vf ?_); (try simp only [go_sem,hP]); (repeat refine qJ ?_)))
     (refine AS_pu (hst) ?_; simp only [go_sem,hP]; (repeat refine qJ ?_); (repeat ((first | refine Va ?_ | refine Vb ?_ | refine Vc ?_ | refine Vd ?_ | refine Ve ?_ | refine Vf ?_); (try simp only [go_sem,hP]); (repeat refine qJ ?_))))
     (refine WV_ret ?_; simp only [thenQ,inQ,RetQ,RetOk,resAll,resA]; simp only [go_sem,tupA,AV.port,AV.portL,exists_eq_left'])
     exact AVle.refl _
end Go.Proofs.YtlmfdmlochpfcaaDoor

namespace Go.Proofs.YtlmfdmlochpfcaaDoor
open Go Go.V
attribute [local go_sem] Nat.reduceEqDiff Nat.reduceAdd Nat.reduceMul reduceIte Nat.reduceLeDiff Nat.reduceLT Nat.reduceBEq reduceCtorEq
abbrev IRow:=Row Int
def icds (n:Int):List CD:=[.int .i64 n]
theorem icds_one (n:Int):(icds n).length = 1:=rfl
theorem icell {l:List Int} {k:Nat} (h:k < l.length) (j:Nat) (x:AV):(cellsG icds l j).getD k x = iv l[k]:=by
 have:=cellsG_get (cds:=icds) icds_one h j 0 (d:=.int .i64 l[k]) rfl x
 simpa using this
def gi (R:List IRow):List (List Int):=R.map Row.l
end Go.Proofs.YtlmfdmlochpfcaaDoor

namespace Go.Proofs.YtlmfdmlochpfcaaDoor
open Go Go.V
attribute [local go_sem] Nat.reduceEqDiff Nat.reduceAdd Nat.reduceMul reduceIte Nat.reduceLeDiff Nat.reduceLT Nat.reduceBEq reduceCtorEq
theorem GOk.gow {g:List (List Int)} (h:GOk g):GOw g.length (wid g) g:=⟨rfl,h.row,h.val⟩
theorem GOw.gok {n w:Nat} {g:List (List Int)} (h:GOw n w g) (hn:0 < n) (hn2:n ≤ 41) (hw:w ≤ 32):GOk g ∧ wid g = w ∧ g.length = n:=by
 have hw1:wid g = w:=by unfold wid; exact h.row 0 hn
 refine ⟨⟨by rw [h.len]; exact hn,by rw [h.len]; exact hn2,by rw [hw1]; exact hw,fun i hi => by rw [hw1]; exact h.row i (by rw [← h.len]; exact hi),fun i k hi hk => h.val i k (by rw [← h.len]; exact hi) (by rw [← hw1]; exact hk)⟩,hw1,h.len⟩
theorem line_pos (g:List (List Int)) (i:Nat) (b:Bool):lineP g i b = posL g.length (wid g) i b:=rfl
end Go.Proofs.YtlmfdmlochpfcaaDoor

namespace Go.Proofs.YtlmfdmlochpfcaaDoor
open Go Go.V
attribute [local go_sem] Nat.reduceEqDiff Nat.reduceAdd Nat.reduceMul reduceIte Nat.reduceLeDiff Nat.reduceLT Nat.reduceBEq reduceCtorEq
end Go.Proofs.YtlmfdmlochpfcaaDoor

namespace Go.Proofs.YtlmfdmlochpfcaaDoor
open Go Go.V
theorem okB_iff {b:UInt8}:okB b = true ↔ BOk b:=by
 refine ⟨okB_ok,fun h => ?_⟩
 unfold BOk at h
 unfold okB valB
 simp only [Bool.or_eq_true,decide_eq_true_eq]
 by_cases h63:b.toNat = 63
 ·exact .inl h63
 ·right
  rw [if_neg (by omega)]
  split <;> omega
theorem textG_cons (l:List UInt8) (t:List (List UInt8)):textG (l :: t) = l ++ 10 :: textG t:=by simp [textG]
theorem ends_split {s:List UInt8} {b:UInt8} (h:endsB s b = true):s = s.dropLast ++ [b]:=by
 unfold endsB at h
 have h1:s.getLast? = some b:=by simpa using h
 have hne:s ≠ []:=by rintro rfl; cases h1
 rw [List.getLast?_eq_some_getLast hne,Option.some.injEq] at h1
 rw [← h1,List.dropLast_concat_getLast]
theorem segB_append (b:UInt8):∀ (l t:List UInt8),b ∉ l → segB b (l ++ b :: t) = l :: segB b t
 | [],t,_ => by simp [segB]
 | y :: l,t,h => by
  have hy:y ≠ b:=fun e => h (by simp [e])
  have ih:=segB_append b l t fun e => h (by simp [e])
  have e:segB b (y :: (l ++ b :: t)) = match segB b (l ++ b :: t) with | h :: t => (y :: h) :: t | [] => [[y]]:=by
   rw [segB,if_neg hy]; rfl
  rw [List.cons_append,e,ih]
theorem segB_last (b:UInt8):∀ (l:List UInt8),b ∉ l → segB b l = [l]
 | [],_ => rfl
 | y :: l,h => by
  have hy:y ≠ b:=fun e => h (by simp [e])
  have ih:=segB_last b l fun e => h (by simp [e])
  unfold segB
  rw [if_neg (by simpa using hy),ih]
theorem text_seg:∀ (rows:List (List UInt8)),rows ≠ [] → (∀ l ∈ rows,(10:UInt8) ∉ l) → endsB (textG rows) 10 = true ∧ segB 10 (textG rows).dropLast = rows
 | [],h,_ => (h rfl).elim
 | [l],_,h => by
  have e:textG [l] = l ++ [10]:=by simp [textG]
  rw [e]
  refine ⟨by simp [endsB],?_⟩
  rw [List.dropLast_concat]
  exact segB_last 10 l (h l (by simp))
 | l :: m :: t,_,h => by
  obtain ⟨h1,h2⟩:=text_seg (m :: t) (by simp) fun x hx => h x (by simp [hx])
  have hne:textG (m :: t) ≠ []:=by rw [textG_cons]; simp
  have e:textG (l :: m :: t) = l ++ 10 :: textG (m :: t):=textG_cons l (m :: t)
  rw [e]
  constructor
  ·have h3:=ends_split h1
   unfold endsB
   rw [h3,← List.cons_append,← List.append_assoc,List.getLast?_concat]
   simp
  ·have e2:(l ++ 10 :: textG (m :: t)).dropLast = l ++ 10 :: (textG (m :: t)).dropLast:=by
    rw [List.dropLast_append_of_ne_nil (by simp),List.dropLast_cons_of_ne_nil hne]
   rw [e2,segB_append 10 l _ (h l (by simp)),h2]
theorem textG_length (rows:List (List UInt8)) (w:Nat) (h:∀ l ∈ rows,l.length = w):(textG rows).length = rows.length * (w + 1):=by
 induction rows with
 | nil => simp [textG]
 | cons l t ih =>
  rw [textG_cons,List.length_append,List.length_cons,ih (fun x hx => h x (by simp [hx])),h l (by simp),List.length_cons,Nat.succ_mul]
  omega
theorem BOk.ne10 {b:UInt8} (h:BOk b):b ≠ 10:=by
 rintro rfl
 unfold BOk at h
 simp at h
theorem SOk.nl {rows:List (List UInt8)} {w:Nat} (h:SOk rows w):∀ l ∈ rows,(10:UInt8) ∉ l:=fun l hl hm => (h.byte l hl 10 hm).ne10 rfl
theorem allOk_of {w:Nat}:∀ (k:Nat) (t:List (List UInt8)),(∀ l ∈ t,2 ≤ l.length ∧ l.length ≤ 32 ∧ l.length = w ∧ ∀ b ∈ l,BOk b) → k + t.length ≤ 41 → allOk w k t = true
 | k,[],_,_ => rfl
 | k,l :: t,h,hk => by
  simp only [List.length_cons] at hk
  simp only [allOk,Bool.and_eq_true]
  refine ⟨?_,allOk_of (k + 1) t (fun x hx => h x (by simp [hx])) (by omega)⟩
  obtain ⟨h1,h2,h3,h4⟩:=h l (by simp)
  unfold okSeg
  simp only [Bool.and_eq_true,decide_eq_true_eq]
  exact ⟨⟨⟨⟨h1,h2⟩,h3⟩,by omega⟩,List.all_eq_true.2 fun b hb => okB_iff.2 (h4 b hb)⟩
theorem parse_text {rows:List (List UInt8)} {w:Nat} (h:SOk rows w):parseP (textG rows) = some rows:=by
 have hne:rows ≠ []:=by rintro rfl; exact absurd h.pos (by simp)
 obtain ⟨h1,h2⟩:=text_seg rows hne h.nl
 unfold parseP
 rw [if_pos h1,h2]
 have hw:(rows.headD []).length = w:=by
  cases rows with
  | nil => exact (hne rfl).elim
  | cons l t => exact h.row l (by simp)
 rw [hw,if_pos]
 have h3:=h.w2
 have h4:=h.w32
 exact allOk_of 0 rows (fun l hl => ⟨by rw [h.row l hl]; exact h3,by rw [h.row l hl]; exact h4,h.row l hl,h.byte l hl⟩) (by have:=h.len; omega)
end Go.Proofs.YtlmfdmlochpfcaaDoor

namespace Go.Proofs.YtlmfdmlochpfcaaDoor
open Go Go.V
attribute [local go_sem] Nat.reduceEqDiff Nat.reduceAdd Nat.reduceMul reduceIte Nat.reduceLeDiff Nat.reduceLT Nat.reduceBEq reduceCtorEq
end Go.Proofs.YtlmfdmlochpfcaaDoor

namespace Go.Proofs.YtlmfdmlochpfcaaDoor
open Go Go.V
attribute [local go_sem] Nat.reduceEqDiff Nat.reduceAdd Nat.reduceMul reduceIte Nat.reduceLeDiff Nat.reduceLT Nat.reduceBEq reduceCtorEq
end Go.Proofs.YtlmfdmlochpfcaaDoor

namespace Go.Proofs.YtlmfdmlochpfcaaDoor
open Go Go.V
namespace W
end W
attribute [local go_sem] Nat.reduceEqDiff Nat.reduceAdd Nat.reduceMul reduceIte Nat.reduceLeDiff Nat.reduceLT Nat.reduceBEq reduceCtorEq
end Go.Proofs.YtlmfdmlochpfcaaDoor

namespace Go.Proofs.YtlmfdmlochpfcaaDoor
open Go Go.V
attribute [local go_sem] Nat.reduceEqDiff Nat.reduceAdd Nat.reduceMul reduceIte Nat.reduceLeDiff Nat.reduceLT Nat.reduceBEq reduceCtorEq
theorem SOk.hd {rows:List (List UInt8)} {w:Nat} (h:SOk rows w):(rows.headD []).length = w:=by
 cases rows with
 | nil => exact absurd h.pos (by simp)
 | cons l t => exact h.row l (by simp)
end Go.Proofs.YtlmfdmlochpfcaaDoor

namespace Go.Proofs.YtlmfdmlochpfcaaDoor
open Go Go.V
attribute [local go_sem] Nat.reduceEqDiff Nat.reduceAdd Nat.reduceMul reduceIte Nat.reduceLeDiff Nat.reduceLT Nat.reduceBEq reduceCtorEq
end Go.Proofs.YtlmfdmlochpfcaaDoor
