/-
  Contracts of the layer's functions, of the laws' helpers and of the law; conditions: as each theorem states.
-/
import Derived.Test.YtdoidahbimonhaaDoorU4
import Derived.Test.YtdoidahbimonhaaDoorV3
import Derived.Shelf.Bits.Mul64
set_option linter.unusedVariables false
set_option linter.unusedSimpArgs false
namespace Go.Proofs.YtdoidahbimonhaaDoor
open Go Go.V
abbrev o12_0:List Ins:=[⟨some 2,.mv (.k (.c (.raw (.slice none 0 0)))),none,true⟩,
 ⟨some 3,.mv (.k (.c (.int .i64 0))),none,true⟩]
abbrev o12_1:List Ins:=[⟨some 13,.mv (.t 0),none,true⟩,
 ⟨some 14,.call (.k (.fn 25 [])) [(.t 13)],none,true⟩,
 ⟨some 12,.mv (.t 14),none,true⟩,
 ⟨some 15,.ext (.t 12) 0,none,true⟩,
 ⟨some 16,.ext (.t 12) 1,none,true⟩,
 ⟨some 4,.mv (.t 15),none,true⟩,
 ⟨some 5,.mv (.t 16),none,true⟩]
abbrev o12_2:List Ins:=[⟨some 17,.mv (.t 5),none,true⟩,
 ⟨some 18,.bin .neq (.t 17) (.k (.c (.int .i64 0))),none,true⟩]
abbrev o12_3:List Ins:=[⟨some 19,.mv (.t 5),none,true⟩,
 ⟨some 2,.mv (.k (.c (.raw (.slice none 0 0)))),none,true⟩,
 ⟨some 3,.mv (.t 19),none,true⟩]
abbrev v12_4:VC:=(.seq (.ops o12_3) .ret)
abbrev v12_5:VC:=(.cond (.t 18) v12_4 .skip)
abbrev o12_6:List Ins:=[⟨some 6,.mv (.k (.c (.raw (.slice none 0 0)))),none,true⟩]
abbrev o12_7:List Ins:=[⟨some 20,.mv (.t 4),none,true⟩,
 ⟨some 21,.mv (.t 4),none,true⟩,
 ⟨some 22,.len (.t 21),none,true⟩,
 ⟨some 23,.bin .sub (.t 22) (.k (.c (.int .i64 1))),none,true⟩,
 ⟨some 24,.slc 1 (.t 20) none (some (.t 23)),none,true⟩,
 ⟨some 25,.len (.t 24),none,true⟩,
 ⟨some 26,.mv (.k (.c (.int .i64 0))),none,true⟩]
abbrev o12_8:List Ins:=[⟨some 27,.bin .lss (.t 26) (.t 25),none,true⟩]
abbrev o12_9:List Ins:=[⟨some 28,.ia 1 (.t 24) (.t 26),none,true⟩,
 ⟨some 29,.ld true 1 (.t 28),none,true⟩,
 ⟨some 8,.mv (.t 29),none,true⟩]
abbrev o12_10:List Ins:=[⟨some 30,.mv (.t 8),none,true⟩,
 ⟨some 31,.mv (.t 8),none,true⟩,
 ⟨some 32,.len (.t 31),none,true⟩,
 ⟨some 33,.bin .sub (.t 32) (.k (.c (.int .i64 1))),none,true⟩,
 ⟨some 34,.slc 1 (.t 30) none (some (.t 33)),none,true⟩,
 ⟨some 35,.raw (.convert 51 9 (.tmp 34)),none,true⟩,
 ⟨some 36,.call (.k (.fn 26 [])) [(.t 35),(.k (.c (.str [32])))],none,true⟩,
 ⟨some 9,.mv (.t 36),none,true⟩]
abbrev o12_11:List Ins:=[⟨some 38,.mv (.t 9),none,true⟩,
 ⟨some 39,.call (.k (.fn 27 [])) [(.t 38),(.k (.c (.str [124])))],none,true⟩,
 ⟨some 37,.mv (.t 39),none,true⟩,
 ⟨some 40,.ext (.t 37) 0,none,true⟩,
 ⟨some 41,.ext (.t 37) 1,none,true⟩,
 ⟨some 10,.mv (.t 40),none,true⟩,
 ⟨some 11,.mv (.t 41),none,true⟩]
abbrev o12_12:List Ins:=[⟨some 42,.mv (.t 11),none,true⟩,
 ⟨some 43,.un .not (.t 42),none,true⟩]
abbrev o12_13:List Ins:=[⟨some 2,.mv (.k (.c (.raw (.slice none 0 0)))),none,true⟩,
 ⟨some 3,.mv (.k (.c (.int .i64 143))),none,true⟩]
abbrev v12_14:VC:=(.seq (.ops o12_13) .ret)
abbrev v12_15:VC:=(.cond (.t 43) v12_14 .skip)
abbrev o12_16:List Ins:=[⟨some 44,.mv (.t 6),none,true⟩,
 ⟨some 45,.mv (.t 10),none,true⟩,
 ⟨some 46,.bsl 9 1 [(.t 45)],none,true⟩,
 ⟨some 47,.app 9 1 16 (.t 44) (.t 46),none,true⟩,
 ⟨some 6,.mv (.t 47),none,true⟩]
abbrev v12_17:VC:=(.seq (.seq (.ops o12_12) v12_15) (.ops o12_16))
abbrev v12_18:VC:=(.seq (.ops o12_11) v12_17)
abbrev v12_19:VC:=(.seq (.ops o12_10) v12_18)
abbrev v12_20:VC:=(.seq (.ops o12_9) v12_19)
abbrev o12_21:List Ins:=[⟨some 48,.bin .add (.t 26) (.k (.c (.int .i64 1))),none,true⟩,
 ⟨some 26,.mv (.t 48),none,true⟩]
abbrev v12_22:VC:=(.seq (.block 1 v12_20) (.ops o12_21))
abbrev v12_23:VC:=(.seq (.cond (.t 27) .skip (.exit 0)) v12_22)
abbrev v12_24:VC:=(.seq (.ops o12_8) v12_23)
-- K12_1: changed and kept: [26,6]
abbrev v12_25:VC:=(.loop v12_24)
abbrev v12_26:VC:=(.block 0 v12_25)
abbrev o12_27:List Ins:=[⟨some 49,.mv (.t 6),none,true⟩,
 ⟨some 2,.mv (.t 49),none,true⟩,
 ⟨some 3,.mv (.k (.c (.int .i64 0))),none,true⟩]
abbrev v12_28:VC:=(.seq (.ops o12_27) .ret)
abbrev v12_29:VC:=(.seq (.seq (.ops o12_7) v12_26) v12_28)
abbrev v12_30:VC:=(.seq (.ops o12_6) v12_29)
abbrev v12_31:VC:=(.seq (.seq (.ops o12_2) v12_5) v12_30)
abbrev v12_32:VC:=(.seq (.ops o12_1) v12_31)
def ir12:FC:=⟨1,50,[.t 2,.t 3],(.seq (.ops o12_0) v12_32)⟩
theorem c12:compM Tryd.prog [] 12 = some ir12:=by kernel_rfl
attribute [local go_sem] Nat.reduceEqDiff Nat.reduceAdd Nat.reduceMul reduceIte Nat.reduceLeDiff Nat.reduceLT Nat.reduceBEq reduceCtorEq
def strsV (ts:List (List UInt8)):CD:=.sl 1 (ts.map fun t => [CD.str t])
theorem strs_one (ts:List (List UInt8)):((ts.map fun t => [CD.str t]).all fun e => e.length == 1) = true:=by
 rw [List.all_eq_true]; intro e he; obtain ⟨n,_,rfl⟩:=List.mem_map.1 he; rfl
def rowT (r:List UInt8):List UInt8:=trimR 32 r.dropLast
def txtR (r:List UInt8):List UInt8:=cutB (rowT r) 124
def isTxR (r:List UInt8):Bool:=endsB (rowT r) 124
def readG (s:List UInt8):List (List UInt8) × Int:=if (wholeG s).2 = 0 then (if (bytesG (wholeG s).1).dropLast.all isTxR then ((bytesG (wholeG s).1).dropLast.map txtR,0) else ([],143)) else ([],(wholeG s).2)
theorem rowT_len (r:List UInt8):(rowT r).length ≤ r.length:=by
 unfold rowT trimR
 rw [List.length_reverse]
 have h:=(List.dropWhile_sublist (· == (32:UInt8)) (l:=r.dropLast.reverse)).length_le
 simp only [List.length_reverse,List.length_dropLast] at h
 omega
set_option maxRecDepth 20000 in
set_option maxHeartbeats 8000000 in
theorem read20 (s:List UInt8) (hs:s.length ≤ 100000):FSpec Tryd.prog 12 [sv s] (.tup [.c (strsV (readG s).1),iv (readG s).2]):=by
 have hmax:maxLen = 9223372036854775807:=rfl
 have hwh:=whole44 s hs
 refine FSpec_ofP c12 (Nat.le_refl _) (by decide) fun C hP hN hC hpin hL => ?_; rw [init_st]
 simp only [ir12]
 (repeat ((first | refine Va ?_ | refine Vb ?_ | refine Vc ?_ | refine Vd ?_ | refine Ve ?_ | refine Vf ?_); (try simp only [go_sem,hP]); (repeat refine qJ ?_)))
 (refine AS_pu (hwh) ?_; simp only [go_sem,hP]; (repeat refine qJ ?_); (repeat ((first | refine Va ?_ | refine Vb ?_ | refine Vc ?_ | refine Vd ?_ | refine Ve ?_ | refine Vf ?_); (try simp only [go_sem,hP]); (repeat refine qJ ?_))))
 by_cases h0:(wholeG s).2 = 0
 ·obtain ⟨rows0,w,hp,hok,hw,e1,hgo,_,_⟩:=whole_some h0
  have hm:readG s = (if (bytesG (wholeG s).1).dropLast.all isTxR then ((bytesG (wholeG s).1).dropLast.map txtR,0) else ([],143)):=by unfold readG; rw [if_pos h0]
  rw [hm,h0]
  have hb:=hgo.bytes
  have hl:=bytesG_len (sheetG rows0)
  rw [hgo.len] at hl
  rw [← e1] at hb hl
  have hpos:=hok.pos
  have hln:=hok.len
  have hw2:=hok.w2
  have hw32:=hok.w32
  generalize bytesG (wholeG s).1 = rows at hb hl
  rw [← hl] at hpos hln
  clear hwh hm hgo
  (refine WV_cond rfl (fun h => ?_) (fun h => ?_))
  ·simp at h
  have hwn:=w64 (n:=(rows.length:Int) - 1) (by omega) (by omega)
  (refine WV_skip ?_; simp only [go_sem])
  refine WV_seq_ ?_
  (refine WV_op ?_; simp only [go_sem,hP]; (repeat refine qJ ?_))
  refine WV_nilslot 6 47 9 1 (by decide) (by decide) rfl rfl ?_
  (repeat ((first | refine Va ?_ | refine Vb ?_ | refine Vc ?_ | refine Vd ?_ | refine Ve ?_ | refine Vf ?_); (try simp only [go_sem,hP,gridD,rowsD,hwn,List.length_map]); (repeat refine qJ ?_)))
  have hdl:List.drop ((0:Nat):Int).toNat (List.take ((rows.length:Int) - 1).toNat (List.map (fun l => [CD.sl 1 (List.map bcd l)]) rows)) = rows.dropLast.map (fun l => [CD.sl 1 (List.map bcd l)]):=by
   have e:((rows.length:Int) - 1).toNat = rows.length - 1:=by omega
   rw [e,List.dropLast_eq_take,List.map_take]
   rfl
  rw [hdl]
  have hLb:∀ l ∈ rows.dropLast,l.length = w:=fun l hl => hb l ((List.dropLast_sublist rows).subset hl)
  have hLn:rows.dropLast.length ≤ 41:=by rw [List.length_dropLast]; omega
  generalize rows.dropLast = L at hLb hLn ⊢
  rw [List.length_map]
  refine WV_loopS (fun k:Nat => ⟨upd (upd (upd (upd e0 24 (.c (.sl 1 (L.map fun l => [CD.sl 1 (List.map bcd l)])))) 25 (iv L.length)) 26 (iv k)) 6 (.gr 47),upd o0 47 (.grow 9 1 (((L.take k).map txtR).map fun t => [CD.str t]))⟩) (fun k => k ≤ L.length ∧ (L.take k).all isTxR = true) (fun k => L.length - k) 0 ⟨Nat.zero_le _,by simp⟩ ?_ ?_
  ·exact Sub_au
  ·rintro k ⟨hk,hk1⟩
   (repeat ((first | refine Va ?_ | refine Vb ?_ | refine Vc ?_ | refine Vd ?_ | refine Ve ?_ | refine Vf ?_); (try simp only [go_sem,hP]); (repeat refine qJ ?_)))
   (refine WV_cond rfl (fun h => ?_) (fun h => ?_))
   ·have hk2:k < L.length:=by simpa using h
    have hw3:=w64 (n:=(k:Int) + 1) (by omega) (by omega)
    have hrl:=hLb _ (List.getElem_mem hk2)
    have hsn:=all_snoc isTxR hk2
    have hts:=List.take_succ_eq_append_getElem hk2
    have hgd:(L.map fun l => [CD.sl 1 (List.map bcd l)]).getD k [] = [CD.sl 1 (List.map bcd L[k])]:=by rw [List.getD_eq_getElem?_getD,List.getElem?_map,List.getElem?_eq_getElem hk2]; rfl
    have hall:=all_take_false isTxR hk2
    generalize L[k] = r at hrl hsn hts hgd hall
    have h1:=strs_one ((L.take k).map txtR)
    have hwr:=w64 (n:=(r.length:Int) - 1) (by omega) (by omega)
    have hlt:=rowT_len r
    have htr:=trimright46 r.dropLast 32 (by rw [List.length_dropLast]; omega) (by decide)
    have hct:=cutsuffix47 (rowT r) 124 (by omega)
    (refine WV_skip ?_; simp only [go_sem])
    refine WV_seq_ (WV_block (WV_seq_ ?_))
    (refine WV_op ?_; simp only [go_sem,hP,hgd,List.length_map,Int.toNat_natCast,Int.ofNat_lt,hk2,Int.natCast_nonneg]; (repeat refine qJ ?_))
    refine WV_seq_ ?_
    (refine WV_op ?_; simp only [go_sem,hP,hwr,List.length_map]; (repeat refine qJ ?_))
    have hdr:List.drop ((0:Nat):Int).toNat (List.take ((r.length:Int) - 1).toNat (List.map bcd r)) = r.dropLast.map bcd:=by
     have e:((r.length:Int) - 1).toNat = r.length - 1:=by omega
     rw [e,List.dropLast_eq_take,List.map_take]
     rfl
    rw [hdr]
    refine raw_bs (s:=r.dropLast) (x':=.t 34) (e:=5) (by kernel_rfl) (by kernel_rfl) (by kernel_rfl) rfl rfl rfl ?_
    simp only [go_sem]
    (refine AS_pu (htr) ?_; simp only [go_sem,hP]; (repeat refine qJ ?_); (repeat ((first | refine Va ?_ | refine Vb ?_ | refine Vc ?_ | refine Vd ?_ | refine Ve ?_ | refine Vf ?_); (try simp only [go_sem,hP]); (repeat refine qJ ?_))))
    rw [show trimR 32 r.dropLast = rowT r from rfl]
    (repeat ((first | refine Va ?_ | refine Vb ?_ | refine Vc ?_ | refine Vd ?_ | refine Ve ?_ | refine Vf ?_); (try simp only [go_sem,hP]); (repeat refine qJ ?_)))
    (refine AS_pu (hct) ?_; simp only [go_sem,hP]; (repeat refine qJ ?_); (repeat ((first | refine Va ?_ | refine Vb ?_ | refine Vc ?_ | refine Vd ?_ | refine Ve ?_ | refine Vf ?_); (try simp only [go_sem,hP]); (repeat refine qJ ?_))))
    rw [show endsB (rowT r) 124 = isTxR r from rfl,show cutB (rowT r) 124 = txtR r from rfl]
    by_cases ht:isTxR r = true
    ·rw [ht]
     rw [hk1,ht] at hsn
     have hsn3:(((L.take (k + 1)).map txtR).map fun t => [CD.str t]) = (((L.take k).map txtR).map fun t => [CD.str t]) ++ [[CD.str (txtR r)]]:=by rw [hts]; simp
     (refine WV_cond rfl (fun h => ?_) (fun h => ?_))
     ·simp at h
     ·(repeat ((first | refine Va ?_ | refine Vb ?_ | refine Vc ?_ | refine Vd ?_ | refine Ve ?_ | refine Vf ?_); (try simp only [go_sem,hP,h1,List.length_map,List.length_take,hw3]); (repeat refine qJ ?_)))
      refine ⟨k + 1,⟨by omega,hsn⟩,by omega,?_⟩
      rw [hsn3]
      exact Sub_au
    ·have ht':isTxR r = false:=by simpa using ht
     rw [ht',hall ht',if_neg (by simp)]
     (refine WV_cond rfl (fun h => ?_) (fun h => ?_))
     ·(repeat ((first | refine Va ?_ | refine Vb ?_ | refine Vc ?_ | refine Vd ?_ | refine Ve ?_ | refine Vf ?_); (try simp only [go_sem,hP]); (repeat refine qJ ?_)))
      (refine WV_ret ?_; simp only [thenQ,inQ,RetQ,RetOk,resAll,resA]; simp only [go_sem,tupA,AV.port,AV.portL,exists_eq_left'])
      refine AVle.tup ?_
      exact ⟨_,_,rfl,AVle.nil 1,_,_,rfl,AVle.refl _,rfl⟩
     ·simp at h
   ·have h:k = L.length:=by simp at h; omega
    subst h
    rw [List.take_length] at hk1
    rw [hk1,if_pos rfl]
    (repeat ((first | refine Va ?_ | refine Vb ?_ | refine Vc ?_ | refine Vd ?_ | refine Ve ?_ | refine Vf ?_); (try simp only [go_sem,hP,List.take_length]); (repeat refine qJ ?_)))
    (refine WV_ret ?_; simp only [thenQ,inQ,RetQ,RetOk,resAll,resA]; simp only [go_sem,tupA,AV.port,AV.portL,exists_eq_left'])
    exact AVle.refl _
 ·have hm:readG s = ([],(wholeG s).2):=by unfold readG; rw [if_neg h0]
  rw [hm]
  (refine WV_cond rfl (fun h => ?_) (fun h => ?_))
  ·(repeat ((first | refine Va ?_ | refine Vb ?_ | refine Vc ?_ | refine Vd ?_ | refine Ve ?_ | refine Vf ?_); (try simp only [go_sem,hP]); (repeat refine qJ ?_)))
   (refine WV_ret ?_; simp only [thenQ,inQ,RetQ,RetOk,resAll,resA]; simp only [go_sem,tupA,AV.port,AV.portL,exists_eq_left'])
   refine AVle.tup ?_
   exact ⟨_,_,rfl,AVle.nil 1,_,_,rfl,AVle.refl _,rfl⟩
  ·simp at h; exact (h0 h).elim
end Go.Proofs.YtdoidahbimonhaaDoor

namespace Go.Proofs.YtdoidahbimonhaaDoor
open Go Go.V
attribute [local go_sem] Nat.reduceEqDiff Nat.reduceAdd Nat.reduceMul reduceIte Nat.reduceLeDiff Nat.reduceLT Nat.reduceBEq reduceCtorEq
end Go.Proofs.YtdoidahbimonhaaDoor

namespace Go.Proofs.YtdoidahbimonhaaDoor
open Go Go.V
end Go.Proofs.YtdoidahbimonhaaDoor

namespace Go.Proofs.YtdoidahbimonhaaDoor
open Go Go.V
attribute [local go_sem] Nat.reduceEqDiff Nat.reduceAdd Nat.reduceMul reduceIte Nat.reduceLeDiff Nat.reduceLT Nat.reduceBEq reduceCtorEq
end Go.Proofs.YtdoidahbimonhaaDoor

namespace Go.Proofs.YtdoidahbimonhaaDoor
open Go Go.V
attribute [local go_sem] Nat.reduceEqDiff Nat.reduceAdd Nat.reduceMul reduceIte Nat.reduceLeDiff Nat.reduceLT Nat.reduceBEq reduceCtorEq
def befo (p q:Nat × Nat):Prop:=p.1 < q.1 ∨ (p.1 = q.1 ∧ p.2 < q.2)
instance (p q:Nat × Nat):Decidable (befo p q):=by unfold befo; infer_instance
end Go.Proofs.YtdoidahbimonhaaDoor

namespace Go.Proofs.YtdoidahbimonhaaDoor
open Go Go.V
attribute [local go_sem] Nat.reduceEqDiff Nat.reduceAdd Nat.reduceMul reduceIte Nat.reduceLeDiff Nat.reduceLT Nat.reduceBEq reduceCtorEq
end Go.Proofs.YtdoidahbimonhaaDoor

namespace Go.Proofs.YtdoidahbimonhaaDoor
open Go Go.V Go.Shelf Go.RowKit
abbrev o39_0:List Ins:=[⟨some 4,.mv (.k (.c (.int .u64 0))),none,true⟩,
 ⟨some 5,.mv (.k (.c (.int .u64 0))),none,true⟩]
abbrev o39_1:List Ins:=[⟨some 11,.mv (.t 0),none,true⟩,
 ⟨some 12,.prim (.conv .u32) [(.t 11)],none,true⟩,
 ⟨some 13,.mv (.t 1),none,true⟩,
 ⟨some 14,.prim (.conv .u32) [(.t 13)],none,true⟩,
 ⟨some 15,.call (.k (.fn 64 [])) [(.t 12),(.t 14)],none,true⟩,
 ⟨some 10,.mv (.t 15),none,true⟩,
 ⟨some 16,.ext (.t 10) 0,none,true⟩,
 ⟨some 17,.ext (.t 10) 1,none,true⟩,
 ⟨some 6,.mv (.t 16),none,true⟩,
 ⟨some 7,.mv (.t 17),none,true⟩]
abbrev o39_2:List Ins:=[⟨some 18,.mv (.t 6),none,true⟩,
 ⟨some 19,.prim (.conv .u64) [(.t 18)],none,true⟩,
 ⟨some 20,.mv (.t 7),none,true⟩,
 ⟨some 21,.prim (.conv .u64) [(.t 20)],none,true⟩,
 ⟨some 4,.mv (.t 19),none,true⟩,
 ⟨some 5,.mv (.t 21),none,true⟩]
abbrev v39_3:VC:=(.seq (.ops o39_2) .ret)
abbrev v39_4:VC:=(.seq (.ops o39_1) v39_3)
abbrev o39_5:List Ins:=[⟨some 23,.mv (.t 0),none,true⟩,
 ⟨some 24,.mv (.t 1),none,true⟩,
 ⟨some 25,.call (.k (.fn 65 [])) [(.t 23),(.t 24)],none,true⟩,
 ⟨some 22,.mv (.t 25),none,true⟩,
 ⟨some 26,.ext (.t 22) 0,none,true⟩,
 ⟨some 27,.ext (.t 22) 1,none,true⟩,
 ⟨some 8,.mv (.t 26),none,true⟩,
 ⟨some 9,.mv (.t 27),none,true⟩]
abbrev o39_6:List Ins:=[⟨some 28,.mv (.t 8),none,true⟩,
 ⟨some 29,.mv (.t 9),none,true⟩,
 ⟨some 4,.mv (.t 28),none,true⟩,
 ⟨some 5,.mv (.t 29),none,true⟩]
abbrev v39_7:VC:=(.seq (.ops o39_6) .ret)
abbrev v39_8:VC:=(.seq (.ops o39_5) v39_7)
abbrev v39_9:VC:=(.seq (.cond (.k (.c (.bool false))) v39_4 .skip) v39_8)
def ir39:FC:=⟨2,30,[.t 4,.t 5],(.seq (.ops o39_0) v39_9)⟩
theorem c39:compM Tryd.prog [] 39 = some ir39:=by kernel_rfl
attribute [local go_sem] Nat.reduceEqDiff Nat.reduceAdd Nat.reduceMul reduceIte Nat.reduceLeDiff Nat.reduceLT Nat.reduceBEq reduceCtorEq
abbrev uv (n:Int):AV:=.c (.int .u64 n)
def mRen:Ren:=⟨fun x => match x with | 264 => 65 | 212 => 39 | 263 => 64 | n => n,fun x => match x with | 46 => 70 | 51 => 117 | 53 => 120 | 146 => 118 | 148 => 121 | n => n,fun x => x⟩
theorem mLays:Lays.n212 Tryd.prog mRen:=by
 constructor <;> first | kernel_rfl | (intro w; kernel_rfl)
theorem mul83 (n:Nat) (hn:n ≤ 1000):FSpec Tryd.prog 39 [uv 1,uv n] (.tup [uv 0,uv n]):=by
 refine ⟨(body_call c39).1,fun w M vs hM hrep => ?_⟩
 simp only [RepAs,RepA,RepC] at hrep
 obtain ⟨v,vs',rfl,rfl,v2,vs2,rfl,rfl,rfl⟩:=hrep
 have:=Any.bits_Mul mLays 1 n (by omega) (by omega) w
 rw [Nat.one_mul,Nat.div_eq_of_lt (by omega:n < 18446744073709551616),Nat.mod_eq_of_lt (by omega:n < 18446744073709551616)] at this
 refine this.mono ?_
 rintro e w' ⟨rfl,rfl⟩
 refine ⟨_,rfl,?_,Below.refl _ _⟩
 simp only [RepA]
 exact ⟨[_,_],rfl,by simp only [RepAs,RepA,RepC]; exact ⟨_,_,rfl,rfl,_,_,rfl,rfl,rfl⟩⟩
end Go.Proofs.YtdoidahbimonhaaDoor

namespace Go.Proofs.YtdoidahbimonhaaDoor
open Go Go.V
abbrev o22_0:List Ins:=[⟨some 4,.mv (.k (.c (.raw (.slice none 0 0)))),none,true⟩]
abbrev o22_1:List Ins:=[⟨some 12,.mv (.t 1),none,true⟩,
 ⟨some 13,.bin .eql (.t 12) (.k (.c (.int .i64 0))),none,true⟩]
abbrev o22_2:List Ins:=[⟨some 14,.bsl 5 1 [],none,true⟩,
 ⟨some 4,.mv (.t 14),none,true⟩]
abbrev v22_3:VC:=(.seq (.ops o22_2) .ret)
abbrev v22_4:VC:=(.cond (.t 13) v22_3 .skip)
abbrev o22_5:List Ins:=[⟨some 15,.mv (.t 1),none,true⟩,
 ⟨some 16,.bin .lss (.t 15) (.k (.c (.int .i64 0))),none,true⟩]
abbrev o22_6:List Ins:=[⟨some 17,.raw (.makeInterface 9 (.const (.string ⟨#[98,121,116,101,115,58,32,110,101,103,97,116,105,118,101,32,82,101,112,101,97,116,32,99,111,117,110,116]⟩))),none,true⟩,
 ⟨none,.raw (.panic (.tmp 17)),none,true⟩]
abbrev v22_7:VC:=(.cond (.t 16) (.ops o22_6) .skip)
abbrev o22_8:List Ins:=[⟨some 19,.mv (.t 0),none,true⟩,
 ⟨some 20,.len (.t 19),none,true⟩,
 ⟨some 21,.prim (.conv .u64) [(.t 20)],none,true⟩,
 ⟨some 22,.mv (.t 1),none,true⟩,
 ⟨some 23,.prim (.conv .u64) [(.t 22)],none,true⟩,
 ⟨some 24,.call (.k (.fn 39 [])) [(.t 21),(.t 23)],none,true⟩,
 ⟨some 18,.mv (.t 24),none,true⟩,
 ⟨some 25,.ext (.t 18) 0,none,true⟩,
 ⟨some 26,.ext (.t 18) 1,none,true⟩,
 ⟨some 5,.mv (.t 25),none,true⟩,
 ⟨some 6,.mv (.t 26),none,true⟩]
abbrev o22_9:List Ins:=[⟨some 27,.mv (.t 5),none,true⟩,
 ⟨some 28,.bin .gtr (.t 27) (.k (.c (.int .u64 0))),none,true⟩,
 ⟨some 29,.mv (.t 28),none,true⟩,
 ⟨some 30,.mv (.t 6),(some (29,false)),true⟩,
 ⟨some 31,.bin .gtr (.t 30) (.k (.c (.int .u64 9223372036854775807))),(some (29,false)),true⟩,
 ⟨some 32,.pick (.t 29) (.k (.c (.bool true))) (.t 31),none,true⟩]
abbrev o22_10:List Ins:=[⟨some 33,.raw (.makeInterface 9 (.const (.string ⟨#[98,121,116,101,115,58,32,82,101,112,101,97,116,32,111,117,116,112,117,116,32,108,101,110,103,116,104,32,111,118,101,114,102,108,111,119]⟩))),none,true⟩,
 ⟨none,.raw (.panic (.tmp 33)),none,true⟩]
abbrev v22_11:VC:=(.cond (.t 32) (.ops o22_10) .skip)
abbrev o22_12:List Ins:=[⟨some 34,.mv (.t 6),none,true⟩,
 ⟨some 35,.prim (.conv .i64) [(.t 34)],none,true⟩,
 ⟨some 7,.mv (.t 35),none,true⟩]
abbrev o22_13:List Ins:=[⟨some 36,.mv (.t 0),none,true⟩,
 ⟨some 37,.len (.t 36),none,true⟩,
 ⟨some 38,.bin .eql (.t 37) (.k (.c (.int .i64 0))),none,true⟩]
abbrev o22_14:List Ins:=[⟨some 39,.bsl 5 1 [],none,true⟩,
 ⟨some 4,.mv (.t 39),none,true⟩]
abbrev v22_15:VC:=(.seq (.ops o22_14) .ret)
abbrev v22_16:VC:=(.cond (.t 38) v22_15 .skip)
abbrev o22_17:List Ins:=[⟨some 40,.mv (.t 7),none,true⟩,
 ⟨some 8,.mv (.t 40),none,true⟩]
abbrev o22_18:List Ins:=[⟨some 41,.mv (.t 8),none,true⟩,
 ⟨some 42,.bin .gtr (.t 41) (.k (.c (.int .i64 8192))),none,true⟩]
abbrev o22_19:List Ins:=[⟨some 43,.mv (.t 0),none,true⟩,
 ⟨some 44,.len (.t 43),none,true⟩,
 ⟨some 45,.bin .quo (.k (.c (.int .i64 8192))) (.t 44),none,true⟩,
 ⟨some 46,.mv (.t 0),none,true⟩,
 ⟨some 47,.len (.t 46),none,true⟩,
 ⟨some 48,.bin .mul (.t 45) (.t 47),none,true⟩,
 ⟨some 8,.mv (.t 48),none,true⟩]
abbrev o22_20:List Ins:=[⟨some 49,.mv (.t 8),none,true⟩,
 ⟨some 50,.bin .eql (.t 49) (.k (.c (.int .i64 0))),none,true⟩]
abbrev o22_21:List Ins:=[⟨some 51,.mv (.t 0),none,true⟩,
 ⟨some 52,.len (.t 51),none,true⟩,
 ⟨some 8,.mv (.t 52),none,true⟩]
abbrev v22_22:VC:=(.cond (.t 50) (.ops o22_21) .skip)
abbrev v22_23:VC:=(.seq (.ops o22_20) v22_22)
abbrev v22_24:VC:=(.seq (.ops o22_19) v22_23)
abbrev v22_25:VC:=(.cond (.t 42) v22_24 .skip)
abbrev o22_26:List Ins:=[⟨some 53,.mv (.t 7),none,true⟩,
 ⟨some 54,.call (.k (.fn 40 [])) [(.t 53)],none,true⟩,
 ⟨some 55,.mv (.t 7),none,true⟩,
 ⟨some 56,.mv (.t 7),none,true⟩,
 ⟨some 57,.raw (.slice 51 (.tmp 54) none (some (.tmp 55)) (some (.tmp 56))),none,true⟩,
 ⟨some 9,.mv (.t 57),none,true⟩]
abbrev o22_27:List Ins:=[⟨some 58,.mv (.t 9),none,true⟩,
 ⟨some 59,.mv (.t 0),none,true⟩,
 ⟨some 60,.raw (.call { callee:=(.builtin .copy),args:=#[(.tmp 58),(.tmp 59)],argTypes:=#[51,51] }),none,true⟩,
 ⟨some 10,.mv (.t 60),none,true⟩]
abbrev o22_28:List Ins:=[⟨some 61,.mv (.t 10),none,true⟩,
 ⟨some 62,.mv (.t 7),none,true⟩,
 ⟨some 63,.bin .lss (.t 61) (.t 62),none,true⟩]
abbrev v22_29:VC:=(.cond (.t 63) .skip (.exit 0))
abbrev o22_30:List Ins:=[⟨some 64,.mv (.t 10),none,true⟩,
 ⟨some 65,.mv (.t 8),none,true⟩,
 ⟨some 66,.mm false (.t 64) (.t 65),none,true⟩,
 ⟨some 11,.mv (.t 66),none,true⟩]
abbrev t22_31:OT:=(.cons ⟨some 68,.mv (.t 9),none,false⟩
 (.cons ⟨some 69,.mv (.t 10),none,false⟩
 (.cons ⟨some 70,.slc 1 (.t 68) (some (.t 69)) none,none,false⟩
 (.cons ⟨some 71,.mv (.t 9),none,false⟩
 (.cons ⟨some 72,.mv (.t 11),none,false⟩
 (.cons ⟨some 73,.slc 1 (.t 71) none (some (.t 72)),none,false⟩
 (.br [(.cons ⟨some 67,.mv (.t 10),none,false⟩
  (.cons ⟨some 74,.raw (.call { callee:=(.builtin .copy),args:=#[(.tmp 70),(.tmp 73)],argTypes:=#[51,51] }),none,true⟩
  (.cons ⟨some 75,.bin .add (.t 67) (.t 74),none,true⟩
  (.cons ⟨some 10,.mv (.t 75),none,true⟩
  .nil)))),(.cons ⟨some 74,.raw (.call { callee:=(.builtin .copy),args:=#[(.tmp 70),(.tmp 73)],argTypes:=#[51,51] }),none,true⟩
  (.cons ⟨some 67,.mv (.t 10),none,false⟩
  (.cons ⟨some 75,.bin .add (.t 67) (.t 74),none,true⟩
  (.cons ⟨some 10,.mv (.t 75),none,true⟩
  .nil))))])))))))
abbrev v22_32:VC:=(.seq (.ops o22_30) (.drw t22_31))
abbrev v22_33:VC:=(.block 1 v22_32)
abbrev v22_34:VC:=(.seq (.seq (.ops o22_28) v22_29) v22_33)
-- K22_1: changed and kept: [10]
abbrev K22_1:List Nat:=[7,8,9]
abbrev v22_35:VC:=(.loop v22_34)
abbrev o22_36:List Ins:=[⟨some 76,.mv (.t 9),none,true⟩,
 ⟨some 4,.mv (.t 76),none,true⟩]
abbrev v22_37:VC:=(.seq (.ops o22_36) .ret)
abbrev v22_38:VC:=(.seq (.block 0 v22_35) v22_37)
abbrev v22_39:VC:=(.seq (.ops o22_27) v22_38)
abbrev v22_40:VC:=(.seq (.ops o22_26) v22_39)
abbrev v22_41:VC:=(.seq (.seq (.ops o22_18) v22_25) v22_40)
abbrev v22_42:VC:=(.seq (.ops o22_17) v22_41)
abbrev v22_43:VC:=(.seq (.seq (.ops o22_13) v22_16) v22_42)
abbrev v22_44:VC:=(.seq (.ops o22_12) v22_43)
abbrev v22_45:VC:=(.seq (.seq (.ops o22_9) v22_11) v22_44)
abbrev v22_46:VC:=(.seq (.ops o22_8) v22_45)
abbrev v22_47:VC:=(.seq (.seq (.ops o22_5) v22_7) v22_46)
abbrev v22_48:VC:=(.seq (.seq (.ops o22_1) v22_4) v22_47)
def ir22:FC:=⟨2,77,[.t 4],(.seq (.ops o22_0) v22_48)⟩
theorem c22:compM Tryd.prog [] 22 = some ir22:=by kernel_rfl
attribute [local go_sem] Nat.reduceEqDiff Nat.reduceAdd Nat.reduceMul reduceIte Nat.reduceLeDiff Nat.reduceLT Nat.reduceBEq reduceCtorEq
def rep63 (m r:Nat):List AV:=List.replicate m (u8 63) ++ List.replicate r .non
theorem rep63_len (m r:Nat):(rep63 m r).length = m + r:=by simp [rep63]
theorem rep63_splice (m k r:Nat) (h:k ≤ r):splice (rep63 m r) m (List.replicate k (u8 63)) = rep63 (m + k) (r - k):=by
 unfold splice rep63
 have e:List.replicate r (AV.non) = List.replicate k .non ++ List.replicate (r - k) .non:=by rw [List.replicate_append_replicate]; congr 1; omega
 rw [e,List.take_left' (by simp),List.length_replicate,← List.append_assoc,List.replicate_append_replicate,← List.append_assoc,List.drop_left' (by simp)]
theorem rep63_take (m r:Nat):(rep63 m r).take m = List.replicate m (u8 63):=by simp [rep63]
theorem rep63_one (m:Nat):((List.replicate m (u8 63)).all AV.oneB) = true:=by
 rw [List.all_eq_true]; intro x hx; rw [List.eq_of_mem_replicate hx]; rfl
theorem rep63_cells (n j:Nat):rep63 n j = cellsG bcd (List.replicate n 63) j:=by
 unfold rep63 cellsG flatG
 congr 1
 induction n with
 | zero => rfl
 | succ n ih => simp only [List.replicate_succ,List.map_cons,List.flatten_cons,List.map_append,← ih]; rfl
theorem rep63_prg (d m r:Nat):AV.prgL d (rep63 m r) = rep63 m r:=by rw [rep63_cells]; exact prg_cellsG _ _ _ _
theorem rep63_zero (r:Nat):List.replicate r AV.non = rep63 0 r:=rfl
set_option maxRecDepth 20000 in
set_option maxHeartbeats 8000000 in
theorem repeat55 (n:Nat) (hn:1 ≤ n ∧ n ≤ 1000):FSpecN Tryd.prog 22 [.c (.sl 1 [bcd 63]),iv n] (fun r os => r = .vw 1 1000 0 n n ∧ ∃ j,os = [.box (cellsG bcd (List.replicate n 63) j)]):=by
 have hmax:maxLen = 9223372036854775807:=rfl
 have hmu:=mul83 n hn.2
 have hw1:IntKind.u64.wrap (n:Int) = (n:Int):=by rw [IntKind.wrap_u64]; omega
 have hw2:IntKind.i64.wrap (n:Int) = (n:Int):=by rw [IntKind.wrap_i64]; omega
 have hw3:IntKind.u64.wrap ((1:Nat):Int) = 1:=by rfl
 refine FSpecN_ofP c22 (Nat.le_refl _) (by decide) fun C hP hN hC hpin hL => ?_; rw [init_st]
 simp only [ir22]
 (repeat ((first | refine Va ?_ | refine Vb ?_ | refine Vc ?_ | refine Vd ?_ | refine Ve ?_ | refine Vf ?_); (try simp only [go_sem,hP]); (repeat refine qJ ?_)))
 (refine WV_cond rfl (fun h => ?_) (fun h => ?_))
 ·simp at h; omega
 (repeat ((first | refine Va ?_ | refine Vb ?_ | refine Vc ?_ | refine Vd ?_ | refine Ve ?_ | refine Vf ?_); (try simp only [go_sem,hP]); (repeat refine qJ ?_)))
 (refine WV_cond rfl (fun h => ?_) (fun h => ?_))
 ·simp at h; omega
 (repeat ((first | refine Va ?_ | refine Vb ?_ | refine Vc ?_ | refine Vd ?_ | refine Ve ?_ | refine Vf ?_); (try simp only [go_sem,hP,bcd,List.length_cons,List.length_nil,hw1,hw3]); (repeat refine qJ ?_)))
 (refine AS_pu (hmu) ?_; simp only [go_sem,hP,bcd,List.length_cons,List.length_nil,hw1,hw2,hw3]; (repeat refine qJ ?_); (repeat ((first | refine Va ?_ | refine Vb ?_ | refine Vc ?_ | refine Vd ?_ | refine Ve ?_ | refine Vf ?_); (try simp only [go_sem,hP,bcd,List.length_cons,List.length_nil,hw1,hw2,hw3]); (repeat refine qJ ?_))))
 (refine WV_cond rfl (fun h => ?_) (fun h => ?_))
 ·simp at h; omega
 (repeat ((first | refine Va ?_ | refine Vb ?_ | refine Vc ?_ | refine Vd ?_ | refine Ve ?_ | refine Vf ?_); (try simp only [go_sem,hP,hw2]); (repeat refine qJ ?_)))
 (refine WV_cond rfl (fun h => ?_) (fun h => ?_))
 ·simp at h
 (repeat ((first | refine Va ?_ | refine Vb ?_ | refine Vc ?_ | refine Vd ?_ | refine Ve ?_ | refine Vf ?_); (try simp only [go_sem,hP,hw2]); (repeat refine qJ ?_)))
 (refine WV_cond rfl (fun h => ?_) (fun h => ?_))
 ·simp at h; omega
 (refine WV_skip ?_; simp only [go_sem])
 refine WV_keep [0,1,7,8] ?_
 simp only [go_sem]
 refine WV_seq_ ?_
 (refine WV_op ?_; simp only [go_sem,hP]; (repeat refine qJ ?_))
 refine AS_mnz (fn:=(Tryd.prog.funcs[40]?).get (by kernel_rfl)) (ps:=#[3]) (t:=51) (e:=5) (n:=n) (by simp) (by kernel_rfl) (by kernel_rfl) (by kernel_rfl) (by kernel_rfl) (by kernel_rfl) rfl rfl rfl rfl (by omega) rfl ?_
 intro cap0 j0 c1 c2 c3
 simp only [go_sem]
 refine raw_slc3 (e:=5) (by kernel_rfl) (by kernel_rfl) rfl rfl rfl rfl rfl rfl rfl rfl rfl (by omega) c1 ?_
 simp only [go_sem]
 rw [rep63_zero,rep63_prg]
 refine WV_keep [0,7,8,9] ?_
 simp only [go_sem]
 refine WV_seq_ ?_
 (refine WV_op ?_; simp only [go_sem,hP]; (repeat refine qJ ?_))
 refine raw_copy (e:=5) (k:=1) (by kernel_rfl) (by kernel_rfl) rfl rfl rfl rfl rfl rfl (by decide) (by decide) (by omega) rfl (by rw [rep63_len]; omega) ?_
 rw [show min 1 n = 1 from by omega]
 have hsp:splice (rep63 0 (n + j0)) 0 ((([[CD.int IntKind.u8 ((UInt8.toNat 63:Nat):Int)]]:List (List CD)).flatten.map AV.c).take 1) = rep63 1 (n + j0 - 1):=by
  have:=rep63_splice 0 1 (n + j0) (by omega)
  exact this
 rw [hsp]
 simp only [go_sem]
 (repeat ((first | refine Va ?_ | refine Vb ?_ | refine Vc ?_ | refine Vd ?_ | refine Ve ?_ | refine Vf ?_); (try simp only [go_sem,hP]); (repeat refine qJ ?_)))
 refine WV_loopK K22_1 [54] (fun m:Nat => 1 ≤ m ∧ m ≤ n) (fun m => n - m) (fun m => [(10,iv m)]) (fun m => [(54,.box (rep63 m (n + j0 - m)))]) 1 ⟨Nat.le_refl _,hn.1⟩ ?_ ?_
 ·exact Sub_au
 ·intro m ⟨hm1,hm2⟩
  simp only [go_sem]
  (repeat ((first | refine Va ?_ | refine Vb ?_ | refine Vc ?_ | refine Vd ?_ | refine Ve ?_ | refine Vf ?_); (try simp only [go_sem,hP]); (repeat refine qJ ?_)))
  (refine WV_cond rfl (fun h => ?_) (fun h => ?_))
  ·have hlt:m < n:=by simpa using h
   have hmi:min (m:Int) (n:Int) = m:=by omega
   have hmn:(((n - m:Nat):Int) - 0).toNat = n - m:=by omega
   (refine WV_skip ?_; simp only [go_sem])
   (repeat ((first | refine Va ?_ | refine Vb ?_ | refine Vc ?_ | refine Vd ?_ | refine Ve ?_ | refine Vf ?_); (try simp only [go_sem,hP,hmi]); (repeat refine qJ ?_)))
   have hsp2:splice (rep63 m (n + j0 - m)) m ((((rep63 m (n + j0 - m)).drop 0).take (m * 1)).take (min m (n - m))) = rep63 (m + min m (n - m)) (n + j0 - (m + min m (n - m))):=by
    rw [List.drop_zero,Nat.mul_one,rep63_take,List.take_replicate,show min (min m (n - m)) m = min m (n - m) from by omega,rep63_splice _ _ _ (by omega)]
    congr 1; omega
   have hnm:((n:Int) - (m:Int)).toNat = n - m:=by omega
   have hcm:n - (m:Int).toNat = n - m:=by omega
   have hws:=w64 (n:=(m:Int) + ((min m (n - m):Nat):Int)) (by omega) (by omega)
   have hcast:((m + min m (n - m):Nat):Int) = (m:Int) + ((min m (n - m):Nat):Int):=by omega
   have hvc:∀ own:Nat → Ob,own 54 = .box (rep63 m (n + j0 - m)) → AV.vcells own 1 (.vw 1 54 0 m n) = some (m,((rep63 m (n + j0 - m)).drop 0).take (m * 1),1 = 1 ∧ 0 + m * 1 ≤ (rep63 m (n + j0 - m)).length ∧ (((rep63 m (n + j0 - m)).drop 0).take (m * 1)).all AV.oneB = true):=by
    intro own ho
    simp only [AV.vcells,ho]
   (refine WV_drw ?_; simp only [go_sem,hP,Int.toNat_natCast,Nat.mul_one,Nat.zero_add,Int.toNat_zero,Nat.zero_mul,Nat.sub_zero,hnm,Int.sub_zero]; (repeat' (refine And.intro ?_ ?_)))
   all_goals (first | omega | skip)
   all_goals
    refine raw_copy (e:=5) (by kernel_rfl) (by kernel_rfl) rfl rfl rfl rfl rfl (hvc _ rfl) ⟨rfl,by rw [rep63_len]; omega,by rw [List.drop_zero,Nat.mul_one,rep63_take]; exact rep63_one m⟩ (by omega) (by omega) rfl (by rw [rep63_len]; omega) ?_
    rw [hsp2]
    simp only [go_sem,hws]
    (repeat refine qJ ?_)
    refine ⟨m + min m (n - m),⟨by omega,by omega⟩,by omega,?_⟩
    rw [hcast]
    exact Sub_au
  ·have:m = n:=by simp at h; omega
   subst this
   (repeat ((first | refine Va ?_ | refine Vb ?_ | refine Vc ?_ | refine Vd ?_ | refine Ve ?_ | refine Vf ?_); (try simp only [go_sem,hP]); (repeat refine qJ ?_)))
   refine WV_ret ?_
   simp only [thenQ,inQ,RetQN,RetOkN,resAll,resA]
   simp only [go_sem,tupA]
   refine ⟨[54],.vw 1 1000 0 m m,_,[.box (cellsG bcd (List.replicate m 63) j0)],by decide,by decide,rfl,AVle.refl _,?_,rfl,j0,rfl⟩
   rw [show m + j0 - m = j0 from by omega,rep63_cells]
   simp only [go_sem,obsLend,Ob.lend,lend_cellsG]
end Go.Proofs.YtdoidahbimonhaaDoor

namespace Go.Proofs.YtdoidahbimonhaaDoor
open Go Go.V
abbrev o11_0:List Ins:=[⟨some 2,.mv (.k (.c (.str []))),none,true⟩,
 ⟨some 3,.mv (.k (.c (.int .i64 0))),none,true⟩]
abbrev o11_1:List Ins:=[⟨some 11,.mv (.t 0),none,true⟩,
 ⟨some 12,.len (.t 11),none,true⟩,
 ⟨some 13,.bin .gtr (.t 12) (.k (.c (.int .i64 40))),none,true⟩]
abbrev o11_2:List Ins:=[⟨some 2,.mv (.k (.c (.str []))),none,true⟩,
 ⟨some 3,.mv (.k (.c (.int .i64 2))),none,true⟩]
abbrev v11_3:VC:=(.seq (.ops o11_2) .ret)
abbrev v11_4:VC:=(.cond (.t 13) v11_3 .skip)
abbrev o11_5:List Ins:=[⟨some 4,.mv (.k (.c (.int .i64 1))),none,true⟩]
abbrev o11_6:List Ins:=[⟨some 14,.mv (.t 0),none,true⟩,
 ⟨some 15,.len (.t 14),none,true⟩,
 ⟨some 16,.mv (.k (.c (.int .i64 0))),none,true⟩]
abbrev o11_7:List Ins:=[⟨some 17,.bin .lss (.t 16) (.t 15),none,true⟩]
abbrev o11_8:List Ins:=[⟨some 18,.ia 1 (.t 14) (.t 16),none,true⟩,
 ⟨some 19,.ld true 1 (.t 18),none,true⟩,
 ⟨some 6,.mv (.t 19),none,true⟩]
abbrev o11_9:List Ins:=[⟨some 20,.mv (.t 6),none,true⟩,
 ⟨some 21,.call (.k (.fn 21 [])) [(.t 20)],none,true⟩,
 ⟨some 22,.un .not (.t 21),none,true⟩]
abbrev o11_10:List Ins:=[⟨some 2,.mv (.k (.c (.str []))),none,true⟩,
 ⟨some 3,.mv (.k (.c (.int .i64 1))),none,true⟩]
abbrev v11_11:VC:=(.seq (.ops o11_10) .ret)
abbrev v11_12:VC:=(.cond (.t 22) v11_11 .skip)
abbrev o11_13:List Ins:=[⟨some 23,.mv (.t 4),none,true⟩,
 ⟨some 24,.mv (.t 6),none,true⟩,
 ⟨some 25,.prim .slen [(.t 24)],none,true⟩,
 ⟨some 26,.bin .add (.t 25) (.k (.c (.int .i64 1))),none,true⟩,
 ⟨some 27,.mm true (.t 23) (.t 26),none,true⟩,
 ⟨some 4,.mv (.t 27),none,true⟩]
abbrev v11_14:VC:=(.seq (.seq (.ops o11_9) v11_12) (.ops o11_13))
abbrev v11_15:VC:=(.seq (.ops o11_8) v11_14)
abbrev o11_16:List Ins:=[⟨some 28,.bin .add (.t 16) (.k (.c (.int .i64 1))),none,true⟩,
 ⟨some 16,.mv (.t 28),none,true⟩]
abbrev v11_17:VC:=(.seq (.block 1 v11_15) (.ops o11_16))
abbrev v11_18:VC:=(.seq (.cond (.t 17) .skip (.exit 0)) v11_17)
abbrev v11_19:VC:=(.seq (.ops o11_7) v11_18)
-- K11_1: changed and kept: [16,4]
abbrev K11_1:List Nat:=[0,14,15]
abbrev v11_20:VC:=(.loop v11_19)
abbrev v11_21:VC:=(.block 0 v11_20)
abbrev o11_22:List Ins:=[⟨some 7,.mv (.k (.c (.raw (.slice none 0 0)))),none,true⟩]
abbrev o11_23:List Ins:=[⟨some 29,.mv (.t 0),none,true⟩,
 ⟨some 30,.len (.t 29),none,true⟩,
 ⟨some 31,.mv (.k (.c (.int .i64 0))),none,true⟩]
abbrev o11_24:List Ins:=[⟨some 32,.bin .lss (.t 31) (.t 30),none,true⟩]
abbrev o11_25:List Ins:=[⟨some 33,.ia 1 (.t 29) (.t 31),none,true⟩,
 ⟨some 34,.ld true 1 (.t 33),none,true⟩,
 ⟨some 9,.mv (.t 34),none,true⟩]
abbrev o11_26:List Ins:=[⟨some 35,.mv (.t 9),none,true⟩,
 ⟨some 36,.raw (.convert 9 51 (.tmp 35)),none,true⟩,
 ⟨some 37,.bsl 5 1 [(.k (.c (.int .u8 124)))],none,true⟩,
 ⟨some 38,.appv 5 1 1 (.t 36) (.t 37),none,true⟩,
 ⟨some 10,.mv (.t 38),none,true⟩]
abbrev o11_27:List Ins:=[⟨some 39,.mv (.t 10),none,true⟩,
 ⟨some 40,.len (.t 39),none,true⟩,
 ⟨some 41,.mv (.t 4),none,true⟩,
 ⟨some 42,.bin .lss (.t 40) (.t 41),none,true⟩]
abbrev v11_28:VC:=(.cond (.t 42) .skip (.exit 4))
abbrev o11_29:List Ins:=[⟨some 43,.mv (.t 10),none,true⟩,
 ⟨some 44,.bsl 5 1 [(.k (.c (.int .u8 32)))],none,true⟩,
 ⟨some 45,.appv 5 1 1 (.t 43) (.t 44),none,true⟩,
 ⟨some 10,.mv (.t 45),none,true⟩]
abbrev v11_30:VC:=(.block 5 (.ops o11_29))
abbrev v11_31:VC:=(.seq (.seq (.ops o11_27) v11_28) v11_30)
-- K11_3: changed and kept: [10]
abbrev v11_32:VC:=(.loop v11_31)
abbrev o11_33:List Ins:=[⟨some 46,.mv (.t 7),none,true⟩,
 ⟨some 47,.mv (.t 10),none,true⟩,
 ⟨some 48,.bsl 5 1 [(.k (.c (.int .u8 63)))],none,true⟩,
 ⟨some 49,.appv 5 1 1 (.t 47) (.t 48),none,true⟩,
 ⟨some 50,.bslv 51 1 [(.t 49)],none,true⟩,
 ⟨some 51,.appv 51 1 24 (.t 46) (.t 50),none,true⟩,
 ⟨some 7,.mv (.t 51),none,true⟩]
abbrev v11_34:VC:=(.seq (.block 4 v11_32) (.ops o11_33))
abbrev v11_35:VC:=(.seq (.ops o11_26) v11_34)
abbrev v11_36:VC:=(.seq (.ops o11_25) v11_35)
abbrev o11_37:List Ins:=[⟨some 52,.bin .add (.t 31) (.k (.c (.int .i64 1))),none,true⟩,
 ⟨some 31,.mv (.t 52),none,true⟩]
abbrev v11_38:VC:=(.seq (.block 3 v11_36) (.ops o11_37))
abbrev v11_39:VC:=(.seq (.cond (.t 32) .skip (.exit 2)) v11_38)
abbrev v11_40:VC:=(.seq (.ops o11_24) v11_39)
-- K11_2: changed and kept: [31,7]
abbrev v11_41:VC:=(.loop v11_40)
abbrev v11_42:VC:=(.block 2 v11_41)
abbrev o11_43:List Ins:=[⟨some 53,.mv (.t 7),none,true⟩,
 ⟨some 54,.bsl 5 1 [(.k (.c (.int .u8 63)))],none,true⟩,
 ⟨some 55,.mv (.t 4),none,true⟩,
 ⟨some 56,.bin .add (.t 55) (.k (.c (.int .i64 1))),none,true⟩,
 ⟨some 57,.call (.k (.fn 22 [])) [(.t 54),(.t 56)],none,true⟩,
 ⟨some 58,.bslv 51 1 [(.t 57)],none,true⟩,
 ⟨some 59,.appv 51 1 24 (.t 53) (.t 58),none,true⟩,
 ⟨some 7,.mv (.t 59),none,true⟩]
abbrev o11_44:List Ins:=[⟨some 60,.mv (.t 7),none,true⟩,
 ⟨some 61,.call (.k (.fn 23 [])) [(.t 60)],none,true⟩]
abbrev o11_45:List Ins:=[⟨some 62,.mv (.t 7),none,true⟩,
 ⟨some 63,.call (.k (.fn 24 [])) [(.t 62)],none,true⟩,
 ⟨some 2,.mv (.t 63),none,true⟩,
 ⟨some 3,.mv (.k (.c (.int .i64 0))),none,true⟩]
abbrev v11_46:VC:=(.seq (.ops o11_45) .ret)
abbrev v11_47:VC:=(.seq (.ops o11_44) v11_46)
abbrev v11_48:VC:=(.seq (.ops o11_43) v11_47)
abbrev v11_49:VC:=(.seq (.seq (.ops o11_23) v11_42) v11_48)
abbrev v11_50:VC:=(.seq (.ops o11_22) v11_49)
abbrev v11_51:VC:=(.seq (.seq (.ops o11_6) v11_21) v11_50)
abbrev v11_52:VC:=(.seq (.ops o11_5) v11_51)
abbrev v11_53:VC:=(.seq (.seq (.ops o11_1) v11_4) v11_52)
def ir11:FC:=⟨1,64,[.t 2,.t 3],(.seq (.ops o11_0) v11_53)⟩
theorem c11:compM Tryd.prog [100038,100045,100049,100050,100051,100058,100059] 11 = some ir11:=by kernel_rfl
attribute [local go_sem] Nat.reduceEqDiff Nat.reduceAdd Nat.reduceMul reduceIte Nat.reduceLeDiff Nat.reduceLT Nat.reduceBEq reduceCtorEq
theorem bcells_take (s:List UInt8) (j:Nat):List.take (s.length * 1) (cellsG bcd s j) = cellsG bcd s 0:=cellsG_take bcd_one s j
theorem bcells_snoc (s:List UInt8) (b:UInt8) (j:Nat):cellsG bcd s 0 ++ [.c (.int .u8 b.toNat)] ++ List.replicate j .non = cellsG bcd (s ++ [b]) j:=by simp [cellsG,flatG,bcd]
theorem bcells_app (d:Nat) (s:List UInt8) (b:UInt8) (j:Nat):AV.prgL d (cellsG bcd s 0 ++ List.map AV.c [[CD.int .u8 (b.toNat:Int)]].flatten ++ List.replicate j .non) = cellsG bcd (s ++ [b]) j:=by
 have:=bcells_snoc s b j
 rw [← prg_cellsG bcd d (s ++ [b]) j,← this]; rfl
def maxW (ts:List (List UInt8)):Nat:=ts.foldl (fun m s => max m (s.length + 1)) 1
theorem maxW_snoc {ts:List (List UInt8)} {k:Nat} (h:k < ts.length):maxW (ts.take (k + 1)) = max (maxW (ts.take k)) (ts[k].length + 1):=by
 unfold maxW
 rw [List.take_succ_eq_append_getElem h,List.foldl_append]; rfl
theorem foldW_ge:∀ (ts:List (List UInt8)) (m:Nat),m ≤ ts.foldl (fun m s => max m (s.length + 1)) m ∧ ∀ s ∈ ts,s.length + 1 ≤ ts.foldl (fun m s => max m (s.length + 1)) m
 | [],m => ⟨Nat.le_refl _,fun s h => by cases h⟩
 | t :: ts,m => by
  obtain ⟨h1,h2⟩:=foldW_ge ts (max m (t.length + 1))
  refine ⟨by simp only [List.foldl_cons]; omega,fun s hs => ?_⟩
  simp only [List.foldl_cons]
  rcases List.mem_cons.1 hs with rfl | hs
  ·omega
  ·exact h2 s hs
theorem maxW_ge (ts:List (List UInt8)):1 ≤ maxW ts ∧ ∀ s ∈ ts,s.length + 1 ≤ maxW ts:=foldW_ge ts 1
theorem foldW_le (b:Nat):∀ (ts:List (List UInt8)) (m:Nat),m ≤ b → (∀ s ∈ ts,s.length + 1 ≤ b) → ts.foldl (fun m s => max m (s.length + 1)) m ≤ b
 | [],m,h,_ => h
 | t :: ts,m,h,h2 => foldW_le b ts _ (by have:=h2 t (by simp); simp only; omega) fun s hs => h2 s (by simp [hs])
theorem maxW_le {ts:List (List UInt8)} {b:Nat} (h1:1 ≤ b) (h:∀ s ∈ ts,s.length + 1 ≤ b):maxW ts ≤ b:=foldW_le b ts 1 h1 h
def rowB (w:Nat) (s:List UInt8):List UInt8:=s ++ 124 :: List.replicate (w - (s.length + 1)) 32
def rowW (w:Nat) (s:List UInt8):List UInt8:=rowB w s ++ [63]
def rowsW (ts:List (List UInt8)):List (List UInt8):=ts.map (rowW (maxW ts)) ++ [List.replicate (maxW ts + 1) 63]
def writeG (ts:List (List UInt8)):List UInt8 × Int :=
 if 40 < ts.length then ([],2) else if ts.all isTx then (textG (bytesG (restG (ts.length + 1) (maxW ts + 1) (valsG (rowsW ts)))),0) else ([],1)
theorem isTx_len {s:List UInt8} (h:isTx s = true):s.length ≤ 30:=by
 unfold isTx at h
 simp only [Bool.and_eq_true,decide_eq_true_eq] at h
 exact h.2
theorem rowW_len {w:Nat} {s:List UInt8} (h:s.length + 1 ≤ w):(rowW w s).length = w + 1:=by simp [rowW,rowB]; omega
theorem rowW_ok {w:Nat} {s:List UInt8} (h:isTx s = true):∀ b ∈ rowW w s,BOk b:=by
 intro b hb
 unfold rowW rowB at hb
 simp only [List.mem_append,List.mem_cons,List.mem_replicate,List.not_mem_nil,or_false] at hb
 rcases hb with (hb | rfl | ⟨_,rfl⟩) | rfl
 ·unfold isTx at h
  simp only [Bool.and_eq_true] at h
  have:=List.all_eq_true.1 h.1 b hb
  exact okB_ok (by unfold okB; rw [this]; simp)
 ·unfold BOk; decide
 ·unfold BOk; decide
 ·unfold BOk; decide
theorem rowsW_len (ts:List (List UInt8)):(rowsW ts).length = ts.length + 1:=by simp [rowsW]
theorem rowsW_row {ts:List (List UInt8)}:∀ l ∈ rowsW ts,l.length = maxW ts + 1:=by
 intro l hl
 unfold rowsW at hl
 rcases List.mem_append.1 hl with hl | hl
 ·obtain ⟨s,hs,rfl⟩:=List.mem_map.1 hl
  exact rowW_len ((maxW_ge ts).2 s hs)
 ·simp only [List.mem_singleton] at hl
  subst hl; simp
theorem rowsW_byte {ts:List (List UInt8)} (h:ts.all isTx = true):∀ l ∈ rowsW ts,∀ b ∈ l,BOk b:=by
 intro l hl b hb
 unfold rowsW at hl
 rcases List.mem_append.1 hl with hl | hl
 ·obtain ⟨s,hs,rfl⟩:=List.mem_map.1 hl
  exact rowW_ok (List.all_eq_true.1 h s hs) b hb
 ·simp only [List.mem_singleton] at hl
  subst hl
  rw [List.eq_of_mem_replicate hb]
  unfold BOk; decide
theorem rowsW_sok {ts:List (List UInt8)} (h:ts.all isTx = true) (h40:¬ 40 < ts.length):SOk (rowsW ts) (maxW ts + 1):=by
 have h1:=(maxW_ge ts).1
 have h2:=maxW_le (ts:=ts) (b:=31) (by omega) fun s hs => by have:=isTx_len (List.all_eq_true.1 h s hs); omega
 exact ⟨by rw [rowsW_len]; omega,by rw [rowsW_len]; omega,by omega,by omega,rowsW_row,rowsW_byte h⟩
set_option maxRecDepth 20000 in
set_option maxHeartbeats 16000000 in
theorem write24 (ts:List (List UInt8)) (hts:∀ s ∈ ts,s.length ≤ 1000000) (htl:ts.length ≤ 1000000):FSpec Tryd.prog 11 [.c (strsV ts)] (.tup [.c (.str (writeG ts).1),iv (writeG ts).2]):=by
 have hmax:maxLen = 9223372036854775807:=rfl
 refine FSpec_ofP c11 (Nat.le_refl _) (by decide) fun C hP hN hC hpin hL => ?_; rw [init_st]
 simp only [ir11,strsV]
 (repeat ((first | refine Va ?_ | refine Vb ?_ | refine Vc ?_ | refine Vd ?_ | refine Ve ?_ | refine Vf ?_); (try simp only [go_sem,hP,List.length_map]); (repeat refine qJ ?_)))
 by_cases h40:40 < ts.length
 ·have hwr:writeG ts = ([],2):=by unfold writeG; rw [if_pos h40]
  rw [hwr]
  (refine WV_cond rfl (fun h => ?_) (fun h => ?_))
  ·(repeat ((first | refine Va ?_ | refine Vb ?_ | refine Vc ?_ | refine Vd ?_ | refine Ve ?_ | refine Vf ?_); (try simp only [go_sem,hP]); (repeat refine qJ ?_)))
   (refine WV_ret ?_; simp only [thenQ,inQ,RetQ,RetOk,resAll,resA]; simp only [go_sem,tupA,AV.port,AV.portL,exists_eq_left'])
   exact AVle.refl _
  ·simp at h; omega
 have hwr:writeG ts = if ts.all isTx then (textG (bytesG (restG (ts.length + 1) (maxW ts + 1) (valsG (rowsW ts)))),0) else ([],1):=by unfold writeG; rw [if_neg h40]
 rw [hwr]
 (refine WV_cond rfl (fun h => ?_) (fun h => ?_))
 ·simp at h; omega
 (repeat ((first | refine Va ?_ | refine Vb ?_ | refine Vc ?_ | refine Vd ?_ | refine Ve ?_ | refine Vf ?_); (try simp only [go_sem,hP,List.length_map]); (repeat refine qJ ?_)))
 refine WV_loopK K11_1 [] (fun k:Nat => k ≤ ts.length ∧ (ts.take k).all isTx = true) (fun k => ts.length - k) (fun k => [(16,iv k),(4,iv (maxW (ts.take k)))]) (fun _ => []) 0 ⟨Nat.zero_le _,rfl⟩ ?_ ?_
 ·(refine Sub_of (by simp only [go_sem]; ((repeat' (first | exact EnvLe_e0 _ _ | refine EnvLe_upd ?_ ?_)) <;> ((try simp only [upd_app,e0_app,o0_app,Nat.reduceEqDiff,reduceIte]); first | exact AWk.refl _ _ | exact AWk.int (by omega) | exact AWk.int (by rw [w64 (by omega) (by omega)]; omega) | exact AWk.grow rfl | exact AWk.nil _ | exact AWk.of (by simp [maxW])))) (by simp only [go_sem]; exact ObjLe_au))
 ·intro k ⟨hk0,hall⟩
  simp only [go_sem]
  (repeat ((first | refine Va ?_ | refine Vb ?_ | refine Vc ?_ | refine Vd ?_ | refine Ve ?_ | refine Vf ?_); (try simp only [go_sem,hP]); (repeat refine qJ ?_)))
  (refine WV_cond rfl (fun h => ?_) (fun h => ?_))
  ·have hk:k < ts.length:=by simpa using h
   have hsn:=maxW_snoc hk
   have has:=all_snoc isTx hk
   have hlk:=hts _ (List.getElem_mem hk)
   have hw0:=maxW_ge (ts.take k)
   have hmwl:maxW (ts.take k) ≤ 1000001:=maxW_le (by omega) fun s hs => by have:=hts s (List.mem_of_mem_take hs); omega
   have hw2:=w64 (n:=(k:Int) + 1) (by omega) (by omega)
   have hw3:=w64 (n:=((ts[k]).length:Int) + 1) (by omega) (by omega)
   (repeat ((first | refine Va ?_ | refine Vb ?_ | refine Vc ?_ | refine Vd ?_ | refine Ve ?_ | refine Vf ?_); (try simp only [go_sem,hP,map_getD hk,Int.toNat_natCast,Int.ofNat_lt,hk,Int.natCast_nonneg,List.length_map]); (repeat refine qJ ?_)))
   (refine AS_pu (istext54 ts[k] (by omega)) ?_; simp only [go_sem,hP]; (repeat refine qJ ?_); (repeat ((first | refine Va ?_ | refine Vb ?_ | refine Vc ?_ | refine Vd ?_ | refine Ve ?_ | refine Vf ?_); (try simp only [go_sem,hP]); (repeat refine qJ ?_))))
   by_cases htx:isTx ts[k] = true
   ·rw [hall,htx] at has
    rw [htx]
    (refine WV_cond rfl (fun h => ?_) (fun h => ?_))
    ·simp at h
    (repeat ((first | refine Va ?_ | refine Vb ?_ | refine Vc ?_ | refine Vd ?_ | refine Ve ?_ | refine Vf ?_); (try simp only [go_sem,hP,hw2,hw3]); (repeat refine qJ ?_)))
    refine ⟨k + 1,⟨by omega,has⟩,by omega,?_⟩
    rw [hsn]
    (refine Sub_of (by simp only [go_sem]; ((repeat' (first | exact EnvLe_e0 _ _ | refine EnvLe_upd ?_ ?_)) <;> ((try simp only [upd_app,e0_app,o0_app,Nat.reduceEqDiff,reduceIte]); first | exact AWk.refl _ _ | exact AWk.int (by omega) | exact AWk.int (by rw [w64 (by omega) (by omega)]; omega) | exact AWk.grow rfl | exact AWk.nil _ | exact AWk.of (by simp; omega)))) (by simp only [go_sem]; exact ObjLe_au))
   ·have hna:ts.all isTx = false:=all_take_false isTx hk (by simpa using htx)
    rw [hna,if_neg (by simp)]
    (refine WV_cond rfl (fun h => ?_) (fun h => ?_))
    ·(repeat ((first | refine Va ?_ | refine Vb ?_ | refine Vc ?_ | refine Vd ?_ | refine Ve ?_ | refine Vf ?_); (try simp only [go_sem,hP]); (repeat refine qJ ?_)))
     (refine WV_ret ?_; simp only [thenQ,inQ,RetQ,RetOk,resAll,resA]; simp only [go_sem,tupA,AV.port,AV.portL,exists_eq_left'])
     exact AVle.refl _
    ·simp at h; exact (htx h).elim
  ·have hk:k = ts.length:=by simp at h; omega
   subst hk
   rw [List.take_length] at hall ⊢
   rw [hall,if_pos rfl]
   have hlen:∀ s ∈ ts,s.length ≤ 30:=fun s hs => isTx_len (List.all_eq_true.1 hall s hs)
   have hmw:=maxW_le (ts:=ts) (b:=31) (by omega) fun s hs => by have:=hlen s hs; omega
   have hmg:=maxW_ge ts
   have hsok:=rowsW_sok hall h40
   have hrws:rowsW ts = ts.map (rowW (maxW ts)) ++ [List.replicate (maxW ts + 1) 63]:=rfl
   clear hwr htl hts
   generalize hw:maxW ts = w at hmw hmg hsok hrws
   (repeat ((first | refine Va ?_ | refine Vb ?_ | refine Vc ?_ | refine Vd ?_ | refine Ve ?_ | refine Vf ?_); (try simp only [go_sem,hP,List.length_map]); (repeat refine qJ ?_)))
   refine WV_loopS (fun p:List BRow × AV × Ob => ⟨upd (upd (upd (upd (upd e0 4 (iv w)) 29 (.c (.sl 1 (List.map (fun t => [CD.str t]) ts)))) 30 (iv ts.length)) 31 (iv p.1.length)) 7 p.2.1,fam 1001 bcd p.1 (upd o0 51 p.2.2)⟩) (fun p => p.1.length ≤ ts.length ∧ p.1.map Row.l = (ts.take p.1.length).map (rowW w) ∧ GrowG 1001 51 p.1 p.2.1 p.2.2) (fun p => ts.length - p.1.length) ([],.c (.raw (.slice none 0 0)),.none) ⟨Nat.zero_le _,rfl,GrowG.nil _ _⟩ ?_ ?_
   ·refine Sub_of (by exact EnvLe_au) ?_
    rw [fam_nil]
    exact ObjLe_au
   ·rintro ⟨R,y,x⟩ ⟨hr0,hrl,hg⟩
    simp only at hr0 hrl hg ⊢
    (repeat ((first | refine Va ?_ | refine Vb ?_ | refine Vc ?_ | refine Vd ?_ | refine Ve ?_ | refine Vf ?_); (try simp only [go_sem,hP]); (repeat refine qJ ?_)))
    have hyd:=hg.dg.1
    have hyv:=hg.dg.2
    have gp:∀ d,d ≠ 51 → d < 1001 → AV.prg d y = y ∧ Ob.prg d x = x:=fun d h1 h2 => hg.prg h1 h2
    obtain ⟨o1,ho1⟩ : ∃ o1,o1 = upd o0 51 x:=⟨_,rfl⟩
    have gq:∀ d,d ≠ 51 → d < 1001 → prgO d o1 = o1:=fun d h1 h2 => by rw [ho1,prgO_upd,prgO_o0,(gp d h1 h2).2]
    have gz:∀ d,d ≠ 51 → o1 d = .none:=fun d h1 => by rw [ho1,upd_app,if_neg h1]; rfl
    have p36:=gp 36 (by decide) (by decide)
    have q36:prgO 36 o1 = o1:=gq 36 (by decide) (by decide)
    have z36:o1 36 = .none:=gz 36 (by decide)
    have p37:=gp 37 (by decide) (by decide)
    have q37:prgO 37 o1 = o1:=gq 37 (by decide) (by decide)
    have z37:o1 37 = .none:=gz 37 (by decide)
    have p38:=gp 38 (by decide) (by decide)
    have q38:prgO 38 o1 = o1:=gq 38 (by decide) (by decide)
    have z38:o1 38 = .none:=gz 38 (by decide)
    have p44:=gp 44 (by decide) (by decide)
    have q44:prgO 44 o1 = o1:=gq 44 (by decide) (by decide)
    have z44:o1 44 = .none:=gz 44 (by decide)
    have p45:=gp 45 (by decide) (by decide)
    have q45:prgO 45 o1 = o1:=gq 45 (by decide) (by decide)
    have z45:o1 45 = .none:=gz 45 (by decide)
    have p48:=gp 48 (by decide) (by decide)
    have q48:prgO 48 o1 = o1:=gq 48 (by decide) (by decide)
    have z48:o1 48 = .none:=gz 48 (by decide)
    have p49:=gp 49 (by decide) (by decide)
    have q49:prgO 49 o1 = o1:=gq 49 (by decide) (by decide)
    have z49:o1 49 = .none:=gz 49 (by decide)
    rw [← ho1]
    (refine WV_cond rfl (fun h => ?_) (fun h => ?_))
    ·have hk:R.length < ts.length:=by simpa using h
     have hl30:=hlen _ (List.getElem_mem hk)
     have hlw:=hmg.2 _ (List.getElem_mem hk)
     have hw2:=w64 (n:=(R.length:Int) + 1) (by omega) (by omega)
     generalize hs:ts[R.length] = s at hl30 hlw
     (refine WV_skip ?_; simp only [go_sem])
     refine WV_seq_ (WV_block (WV_seq_ ?_))
     (refine WV_op ?_; simp only [go_sem,hP,map_getD hk,Int.toNat_natCast,Int.ofNat_lt,hk,Int.natCast_nonneg,List.length_map,hs]; (repeat refine qJ ?_))
     refine WV_keep [4,7,9,29,30,31] ?_
     simp only [go_sem]
     refine WV_seq_ ?_
     (refine WV_op ?_; simp only [go_sem,hP]; (repeat refine qJ ?_))
     refine raw_sb (x':=.t 35) (e:=5) (by kernel_rfl) (by kernel_rfl) (by kernel_rfl) rfl rfl rfl (by show (fam 1001 bcd R o1 36).isNone = true; rw [fam_lo (by decide),z36]; rfl) (by omega) ?_
     intro cap j k1 k2 k3
     simp only [go_sem,prg_cellsG,prgO_fam,p36,p37,p38,q36,q37,q38,z36,z37,z38,fam_upd,fam_lo]
     refine ⟨by rw [cellsG_len bcd_one]; omega,by omega,by omega,?_⟩
     intro cap1 j1 q1 q2 q3
     rw [bcells_take,show (124:Int) = ((UInt8.toNat 124:Nat):Int) from rfl,bcells_app]
     have rny:=hg.rn (d:=38) (n:=45) (by decide) (by decide) (by decide) (by decide)
     have rno:rnP 38 45 o1 = o1:=by rw [ho1,rnP_upd,rnP_o0,rny.2]
     refine WV_keep [4,7,10,29,30,31] ?_
     simp only [go_sem]
     refine WV_move' 38 45 (by decide) (by decide) (by rw [fam_lo (by decide)]; simp only [upd_app,Nat.reduceEqDiff,if_false]; exact z45) ?_
     unfold rnO
     rw [rnP_fam,fam_lo (by decide),fam_upd (by decide),fam_upd (by decide)]
     simp only [go_sem,rnP_upd,rnE_upd,rnE_e0,rnP_o0,rn_cellsG,rn_non,AV.rn,AV.rnL,rny,rno,rn_boxO]
     refine WV_seq_ (WV_block ?_)
     have hlen1:(s ++ [124]).length = s.length + 1:=by simp
     refine WV_loopS (fun p:List UInt8 × Nat × Nat => ⟨upd (upd (upd (upd (upd (upd e0 4 (iv w)) 29 (.c (.sl 1 (List.map (fun t => [CD.str t]) ts)))) 30 (iv ts.length)) 31 (iv R.length)) 7 y) 10 (.vw 1 45 0 p.1.length p.2.1),fam 1001 bcd R (upd o1 45 (.box (cellsG bcd p.1 p.2.2)))⟩) (fun p => p.1.length ≤ w ∧ (∃ m,p.1 = s ++ 124 :: List.replicate m 32) ∧ p.1.length ≤ p.2.1 ∧ p.2.1 ≤ maxLen ∧ p.2.1 ≤ p.1.length + p.2.2) (fun p => w - p.1.length) (s ++ [124],cap1,j1) ⟨by simp only; rw [hlen1]; exact hlw,⟨0,rfl⟩,by simp only; rw [hlen1]; exact q1,q2,by simp only; rw [hlen1]; omega⟩ ?_ ?_
     ·simp only [hlen1]
      refine Sub_of ?_ (ObjLe_fam ?_)
      ·exact EnvLe_au
      ·intro n
       by_cases e45:n = 45
       ·subst e45; left; simp [upd_app]
       by_cases e36:n = 36
       ·subst e36; right; simpa [upd_app] using z36
       by_cases e37:n = 37
       ·subst e37; right; simpa [upd_app] using z37
       by_cases e38:n = 38
       ·subst e38; right; simpa [upd_app] using z38
       left; simp [upd_app,e36,e37,e38,e45]
     ·rintro ⟨l,c,j2⟩ ⟨i1,⟨m,i2⟩,i3,i4,i5⟩
      simp only at i1 i2 i3 i4 i5 ⊢
      (repeat ((first | refine Va ?_ | refine Vb ?_ | refine Vc ?_ | refine Vd ?_ | refine Ve ?_ | refine Vf ?_); (try simp only [go_sem,hP]); (repeat refine qJ ?_)))
      (refine WV_cond rfl (fun h => ?_) (fun h => ?_))
      ·have hlt:l.length < w:=by simpa using h
       (refine WV_skip ?_; simp only [go_sem])
       refine WV_block ?_
       (refine WV_op ?_; simp only [go_sem,hP,fam_lo,fam_upd,prgO_fam,p44,q44,p45,q45,z44,z45,prg_cellsG]; (repeat refine qJ ?_))
       refine ⟨by rw [cellsG_len bcd_one]; omega,by omega,by omega,?_⟩
       intro c3 j3 u1 u2 u3
       rw [bcells_take,show (32:Int) = ((UInt8.toNat 32:Nat):Int) from rfl,bcells_app]
       have hl1:(l ++ [32]).length = l.length + 1:=by simp
       refine ⟨(l ++ [32],c3,j3),⟨by simp only; omega,⟨m + 1,by simp only; rw [i2,List.replicate_succ']; simp⟩,by simp only; omega,u2,by simp only; omega⟩,by simp only; omega,?_⟩
       simp only [hl1]
       refine Sub_of ?_ (ObjLe_fam ?_)
       ·exact EnvLe_au
       ·intro n
        by_cases e45:n = 45
        ·subst e45; left; simp [upd_app]
        by_cases e44:n = 44
        ·subst e44; right; simpa [upd_app] using z44
        left; simp [upd_app,e44,e45]
      ·have hlt:l.length = w:=by simp at h; omega
       refine WV_exit ?_
       simp only [thenQ,inQ,reduceIte,beq_self_eq_true]
       (refine WV_split 4 ?_; simp only [List.take_succ_cons,List.take_zero,List.take_nil,List.drop_succ_cons,List.drop_zero,List.drop_nil]; simp only [go_sem,hP,fam_lo,fam_upd,prgO_fam,p48,q48,p49,q49,z45,z48,z49,prg_cellsG,hyd,hyv]; (repeat refine qJ ?_))
       refine ⟨hyd,by rw [cellsG_len bcd_one]; omega,by omega,by omega,?_⟩
       intro c3 j3 u1 u2 u3
       rw [bcells_take,show (63:Int) = ((UInt8.toNat 63:Nat):Int) from rfl,bcells_app]
       have hl2:l ++ [63] = rowW w s:=by
        unfold rowW rowB
        rw [i2] at hlt ⊢
        simp at hlt
        congr 3
        congr 1
        omega
       have hl3:(l ++ [63]).length = l.length + 1:=by simp
       refine SOps_addrow (cds:=bcd) (b:=1001) (D:=51) (E:=49) (B:=50) (tr:=49) (tg:=46) (R:=R) (l:=l ++ [63]) (j:=j3) (cap:=c3) (y:=y) (x:=x) [4,29,30,31] hpin (by decide) (by decide) (by decide) (by decide) (by decide) (by decide) (by rw [hl3]; rfl) (by show AV.prg 49 (AV.prg 48 y.dv) = y; rw [hyv,p48.1,p49.1]) (by decide) hg ?_ (by omega) (by decide) (by rfl) hg.any ?_
       ·rw [ho1]
        refine ObjLe_fam fun n => ?_
        by_cases e49:n = 49
        ·subst e49; left; simp [upd_app]
        by_cases e51:n = 51
        ·subst e51; left; simp [upd_app]
        right; simp [upd_app,e49,e51,o0_app]
       intro c4 j4 v1 v2 v3
       refine SOps_ops ?_
       simp only [go_sem,keepE]
       (repeat ((first | refine Va ?_ | refine Vb ?_ | refine Vc ?_ | refine Vd ?_ | refine Ve ?_ | refine Vf ?_); (try simp only [go_sem,hP,hw2]); (repeat refine qJ ?_)))
       have hrl2:(R ++ [(⟨l ++ [63],j3,c3⟩ : BRow)]).length = R.length + 1:=by simp
       refine ⟨(R ++ [⟨l ++ [63],j3,c3⟩],.vw 1 51 0 (R.length + 1) c4,.box (refs 1001 1 0 (R ++ [⟨l ++ [63],j3,c3⟩]) ++ List.replicate j4 .non)),⟨by simp only [hrl2]; omega,?_,?_⟩,by simp only [hrl2]; omega,?_⟩
       ·simp only [hrl2,List.map_append,hrl,List.map_cons,List.map_nil]
        rw [List.take_succ_eq_append_getElem hk,List.map_append,hs,hl2]; rfl
       ·rw [← hrl2]
        exact GrowG.some (by simp) (by rw [hrl2]; exact v1) v2 (by rw [hrl2]; omega)
       ·simp only [hrl2]
        refine Sub_of ?_ (ObjLe.rfl' _)
        exact EnvLe_au
    ·have hk:R.length = ts.length:=by simp at h; omega
     rw [hk,List.take_length] at hrl
     refine WV_exit ?_
     simp only [thenQ,inQ,reduceIte,beq_self_eq_true]
     rw [ho1]
     refine WV_regrow (b:=1001) (D:=51) (D':=59) (t:=7) [4] (by decide) (by decide) (by decide) hpin hg ?_ ?_
     ·rfl
     clear hg hyd hyv gp
     intro y' x' hg
     have hyd:=hg.dg.1
     have hyv:=hg.dg.2
     simp only [go_sem,keepE]
     have hw2:=w64 (n:=(w:Int) + 1) (by omega) (by omega)
     have hre:=repeat55 (w + 1) (by omega)
     obtain ⟨o2,ho2⟩ : ∃ o2,o2 = upd o0 59 x':=⟨_,rfl⟩
     have gp:∀ d,d ≠ 59 → d < 1001 → AV.prg d y' = y' ∧ Ob.prg d x' = x':=fun d h1 h2 => hg.prg h1 h2
     have gq:∀ d,d ≠ 59 → d < 1001 → prgO d o2 = o2:=fun d h1 h2 => by rw [ho2,prgO_upd,prgO_o0,(gp d h1 h2).2]
     have gz:∀ d,d ≠ 59 → o2 d = .none:=fun d h1 => by rw [ho2,upd_app,if_neg h1]; rfl
     have p54:=gp 54 (by decide) (by decide)
     have q54:=gq 54 (by decide) (by decide)
     have z54:=gz 54 (by decide)
     have p57:=gp 57 (by decide) (by decide)
     have q57:=gq 57 (by decide) (by decide)
     have z57:=gz 57 (by decide)
     rw [← ho2]
     refine WV_seq_ ?_
     (refine WV_split 5 ?_; simp only [List.take_succ_cons,List.take_zero,List.take_nil,List.drop_succ_cons,List.drop_zero,List.drop_nil]; simp only [go_sem,hP,hw2,fam_lo,fam_upd,prgO_fam,p54,q54,z54,hyd,hyv]; (repeat refine qJ ?_))
     refine ⟨hyd,?_⟩
     have hre2:FSpecN Tryd.prog 22 [.c (.sl 1 [[.int .u8 63]]),iv ((w:Int) + 1)] (fun r os => r = .vw 1 1000 0 (w + 1) (w + 1) ∧ ∃ j,os = [.box (cellsG bcd (List.replicate (w + 1) 63) j)]):=hre
     refine AS_new hre2 rfl rfl rfl ?_ ?_
     ·simp only [go_sem,fam_lo,AV.portL,AV.port]
     rintro r os ⟨rfl,j,rfl⟩
     refine ⟨[57],.vw 1 57 0 (w + 1) (w + 1),[.box (cellsG bcd (List.replicate (w + 1) 63) j)],by decide,rfl,?_,rfl,?_,?_⟩
     ·simp only [List.all_cons,List.all_nil,Bool.and_true]
      show (decide (57 < 1000) && (fam 1001 bcd R (upd o2 54 (Ob.grow 5 1 [[CD.int IntKind.u8 63]])) 57).isNone) = true
      rw [fam_lo (by decide),upd_app,if_neg (by decide),z57]; rfl
     ·simp only [go_sem,obsBack,Ob.back,back_cellsG]
     simp only [go_sem,prgEs,prgOs,ownBack,p57,q57,fam_lo,fam_upd,prgO_fam]
     have hll:(List.replicate (w + 1) (63:UInt8)).length = w + 1:=by simp
     refine SOps_addrow (cds:=bcd) (b:=1001) (D:=59) (E:=57) (B:=58) (tr:=57) (tg:=53) (R:=R) (l:=List.replicate (w + 1) 63) (j:=j) (cap:=w + 1) (y:=y') (x:=x') [4] hpin (by decide) (by decide) (by decide) (by decide) (by decide) (by decide) (by rw [hll]; rfl) (by show AV.prg 57 (AV.prg 54 y'.dv) = y'; rw [hyv,p54.1,p57.1]) (by decide) hg ?_ (by omega) (by decide) (by rfl) hg.any ?_
     ·rw [ho2]
      refine ObjLe_fam fun n => ?_
      by_cases e57:n = 57
      ·subst e57; left; simp [upd_app]
      by_cases e59:n = 59
      ·subst e59; left; simp [upd_app]
      right; simp [upd_app,e57,e59,o0_app]
     intro c4 j4 v1 v2 v3
     refine SOps_ops ?_
     simp only [go_sem,keepE]
     obtain ⟨R1,hR1⟩ : ∃ R1,R1 = R ++ [(⟨List.replicate (w + 1) 63,j,w + 1⟩ : BRow)]:=⟨_,rfl⟩
     have hr1l:R1.length = R.length + 1:=by rw [hR1]; simp
     have hr1m:R1.map Row.l = rowsW ts:=by rw [hR1,List.map_append,hrl,hrws]; rfl
     rw [← hR1,← hr1l]
     rw [← hr1m] at hsok
     obtain ⟨hok1,hbr1⟩:=hsok.rok
     refine WV_grown (t:=7) [4] (by decide) hpin rfl rfl ?_
     simp only [go_sem,keepE]
     refine WV_seq_ ?_
     (refine WV_op ?_; simp only [go_sem,hP]; (repeat refine qJ ?_))
     refine AS_grid (restore56 (j:=j4) (gcap:=c4) hok1 hbr1 (by omega)) rfl rfl rfl ?_ ?_
     ·simp only [List.map_cons,List.map_nil,List.append_nil]
      simp only [go_sem,AV.lendL,lend_grid]
     rintro r l' ⟨rfl,R2,m1,m2,m3,m4,m5,rfl⟩
     refine ⟨R2,m1,rfl,rfl,?_⟩
     rw [← m1]
     have hgr2:R2.map Row.l = bytesG (restG (ts.length + 1) (w + 1) (valsG (rowsW ts))):=by
      rw [← hr1m,← gv_vals,show ts.length + 1 = R1.length by omega,← m5,gv_vals,bytes_vals m3.mem]
     have hSw:∀ l ∈ R2.map Row.l,l.length = w + 1:=by
      intro l hl
      obtain ⟨r,hr,rfl⟩:=List.mem_map.1 hl
      obtain ⟨q,hq,rfl⟩:=List.getElem_of_mem hr
      exact m2.row q hq
     have hst:=string45 (rows:=R2.map Row.l) (fun l hl e => by have:=hSw l hl; rw [e] at this; simp at this) (fun e => by have:=congrArg List.length e; simp at this; rw [this] at m1; simp at m1; omega) (by rw [List.length_map]; omega) (fun l hl => by rw [hSw l hl]; omega)
     refine WV_keep [7] ?_
     simp only [go_sem]
     refine WV_frzGrid (fun n ds hn => ?_) (fun n ds hn => frzO_o0 _ _) ?_
     ·have hn3:¬ (1000:Nat) = n:=by omega
      simp only [go_sem,AV.frz]
      simp only [hn3,if_false]
     simp only [frzE_upd,frzE_e0,frz_grid]
     rw [hgr2] at hst ⊢
     (repeat ((first | refine Va ?_ | refine Vb ?_ | refine Vc ?_ | refine Vd ?_ | refine Ve ?_ | refine Vf ?_); (try simp only [go_sem,hP]); (repeat refine qJ ?_)))
     (refine AS_pu (hst) ?_; simp only [go_sem,hP]; (repeat refine qJ ?_); (repeat ((first | refine Va ?_ | refine Vb ?_ | refine Vc ?_ | refine Vd ?_ | refine Ve ?_ | refine Vf ?_); (try simp only [go_sem,hP]); (repeat refine qJ ?_))))
     (refine WV_ret ?_; simp only [thenQ,inQ,RetQ,RetOk,resAll,resA]; simp only [go_sem,tupA,AV.port,AV.portL,exists_eq_left'])
     exact AVle.refl _
end Go.Proofs.YtdoidahbimonhaaDoor

namespace Go.Proofs.YtdoidahbimonhaaDoor
open Go Go.V
attribute [local go_sem] Nat.reduceEqDiff Nat.reduceAdd Nat.reduceMul reduceIte Nat.reduceLeDiff Nat.reduceLT Nat.reduceBEq reduceCtorEq
end Go.Proofs.YtdoidahbimonhaaDoor

namespace Go.Proofs.YtdoidahbimonhaaDoor
open Go Go.V
attribute [local go_sem] Nat.reduceEqDiff Nat.reduceAdd Nat.reduceMul reduceIte Nat.reduceLeDiff Nat.reduceLT Nat.reduceBEq reduceCtorEq
theorem line_pos (g:List (List Int)) (i:Nat) (b:Bool):lineP g i b = posL g.length (wid g) i b:=rfl
end Go.Proofs.YtdoidahbimonhaaDoor

namespace Go.Proofs.YtdoidahbimonhaaDoor
open Go Go.V
attribute [local go_sem] Nat.reduceEqDiff Nat.reduceAdd Nat.reduceMul reduceIte Nat.reduceLeDiff Nat.reduceLT Nat.reduceBEq reduceCtorEq
end Go.Proofs.YtdoidahbimonhaaDoor

namespace Go.Proofs.YtdoidahbimonhaaDoor
open Go Go.V
theorem okB_iff {b:UInt8}:okB b = true ↔ BOk b:=by
 refine ⟨okB_ok,fun h => ?_⟩
 unfold BOk at h
 unfold okB valB
 simp only [Bool.or_eq_true,decide_eq_true_eq]
 by_cases h63:b.toNat = 63
 ·exact .inl h63
 ·right
  rw [if_neg (by omega)]
  split <;> omega
theorem textG_cons (l:List UInt8) (t:List (List UInt8)):textG (l :: t) = l ++ 10 :: textG t:=by simp [textG]
theorem ends_split {s:List UInt8} {b:UInt8} (h:endsB s b = true):s = s.dropLast ++ [b]:=by
 unfold endsB at h
 have h1:s.getLast? = some b:=by simpa using h
 have hne:s ≠ []:=by rintro rfl; cases h1
 rw [List.getLast?_eq_some_getLast hne,Option.some.injEq] at h1
 rw [← h1,List.dropLast_concat_getLast]
theorem segB_append (b:UInt8):∀ (l t:List UInt8),b ∉ l → segB b (l ++ b :: t) = l :: segB b t
 | [],t,_ => by simp [segB]
 | y :: l,t,h => by
  have hy:y ≠ b:=fun e => h (by simp [e])
  have ih:=segB_append b l t fun e => h (by simp [e])
  have e:segB b (y :: (l ++ b :: t)) = match segB b (l ++ b :: t) with | h :: t => (y :: h) :: t | [] => [[y]]:=by
   rw [segB,if_neg hy]; rfl
  rw [List.cons_append,e,ih]
theorem segB_last (b:UInt8):∀ (l:List UInt8),b ∉ l → segB b l = [l]
 | [],_ => rfl
 | y :: l,h => by
  have hy:y ≠ b:=fun e => h (by simp [e])
  have ih:=segB_last b l fun e => h (by simp [e])
  unfold segB
  rw [if_neg (by simpa using hy),ih]
theorem text_seg:∀ (rows:List (List UInt8)),rows ≠ [] → (∀ l ∈ rows,(10:UInt8) ∉ l) → endsB (textG rows) 10 = true ∧ segB 10 (textG rows).dropLast = rows
 | [],h,_ => (h rfl).elim
 | [l],_,h => by
  have e:textG [l] = l ++ [10]:=by simp [textG]
  rw [e]
  refine ⟨by simp [endsB],?_⟩
  rw [List.dropLast_concat]
  exact segB_last 10 l (h l (by simp))
 | l :: m :: t,_,h => by
  obtain ⟨h1,h2⟩:=text_seg (m :: t) (by simp) fun x hx => h x (by simp [hx])
  have hne:textG (m :: t) ≠ []:=by rw [textG_cons]; simp
  have e:textG (l :: m :: t) = l ++ 10 :: textG (m :: t):=textG_cons l (m :: t)
  rw [e]
  constructor
  ·have h3:=ends_split h1
   unfold endsB
   rw [h3,← List.cons_append,← List.append_assoc,List.getLast?_concat]
   simp
  ·have e2:(l ++ 10 :: textG (m :: t)).dropLast = l ++ 10 :: (textG (m :: t)).dropLast:=by
    rw [List.dropLast_append_of_ne_nil (by simp),List.dropLast_cons_of_ne_nil hne]
   rw [e2,segB_append 10 l _ (h l (by simp)),h2]
theorem textG_length (rows:List (List UInt8)) (w:Nat) (h:∀ l ∈ rows,l.length = w):(textG rows).length = rows.length * (w + 1):=by
 induction rows with
 | nil => simp [textG]
 | cons l t ih =>
  rw [textG_cons,List.length_append,List.length_cons,ih (fun x hx => h x (by simp [hx])),h l (by simp),List.length_cons,Nat.succ_mul]
  omega
theorem BOk.ne10 {b:UInt8} (h:BOk b):b ≠ 10:=by
 rintro rfl
 unfold BOk at h
 simp at h
theorem SOk.nl {rows:List (List UInt8)} {w:Nat} (h:SOk rows w):∀ l ∈ rows,(10:UInt8) ∉ l:=fun l hl hm => (h.byte l hl 10 hm).ne10 rfl
theorem allOk_of {w:Nat}:∀ (k:Nat) (t:List (List UInt8)),(∀ l ∈ t,2 ≤ l.length ∧ l.length ≤ 32 ∧ l.length = w ∧ ∀ b ∈ l,BOk b) → k + t.length ≤ 41 → allOk w k t = true
 | k,[],_,_ => rfl
 | k,l :: t,h,hk => by
  simp only [List.length_cons] at hk
  simp only [allOk,Bool.and_eq_true]
  refine ⟨?_,allOk_of (k + 1) t (fun x hx => h x (by simp [hx])) (by omega)⟩
  obtain ⟨h1,h2,h3,h4⟩:=h l (by simp)
  unfold okSeg
  simp only [Bool.and_eq_true,decide_eq_true_eq]
  exact ⟨⟨⟨⟨h1,h2⟩,h3⟩,by omega⟩,List.all_eq_true.2 fun b hb => okB_iff.2 (h4 b hb)⟩
theorem parse_text {rows:List (List UInt8)} {w:Nat} (h:SOk rows w):parseP (textG rows) = some rows:=by
 have hne:rows ≠ []:=by rintro rfl; exact absurd h.pos (by simp)
 obtain ⟨h1,h2⟩:=text_seg rows hne h.nl
 unfold parseP
 rw [if_pos h1,h2]
 have hw:(rows.headD []).length = w:=by
  cases rows with
  | nil => exact (hne rfl).elim
  | cons l t => exact h.row l (by simp)
 rw [hw,if_pos]
 have h3:=h.w2
 have h4:=h.w32
 exact allOk_of 0 rows (fun l hl => ⟨by rw [h.row l hl]; exact h3,by rw [h.row l hl]; exact h4,h.row l hl,h.byte l hl⟩) (by have:=h.len; omega)
end Go.Proofs.YtdoidahbimonhaaDoor

namespace Go.Proofs.YtdoidahbimonhaaDoor
open Go Go.V
attribute [local go_sem] Nat.reduceEqDiff Nat.reduceAdd Nat.reduceMul reduceIte Nat.reduceLeDiff Nat.reduceLT Nat.reduceBEq reduceCtorEq
end Go.Proofs.YtdoidahbimonhaaDoor

namespace Go.Proofs.YtdoidahbimonhaaDoor
open Go Go.V
attribute [local go_sem] Nat.reduceEqDiff Nat.reduceAdd Nat.reduceMul reduceIte Nat.reduceLeDiff Nat.reduceLT Nat.reduceBEq reduceCtorEq
end Go.Proofs.YtdoidahbimonhaaDoor

namespace Go.Proofs.YtdoidahbimonhaaDoor
open Go Go.V
namespace W
end W
attribute [local go_sem] Nat.reduceEqDiff Nat.reduceAdd Nat.reduceMul reduceIte Nat.reduceLeDiff Nat.reduceLT Nat.reduceBEq reduceCtorEq
end Go.Proofs.YtdoidahbimonhaaDoor

namespace Go.Proofs.YtdoidahbimonhaaDoor
open Go Go.V
attribute [local go_sem] Nat.reduceEqDiff Nat.reduceAdd Nat.reduceMul reduceIte Nat.reduceLeDiff Nat.reduceLT Nat.reduceBEq reduceCtorEq
theorem SOk.hd {rows:List (List UInt8)} {w:Nat} (h:SOk rows w):(rows.headD []).length = w:=by
 cases rows with
 | nil => exact absurd h.pos (by simp)
 | cons l t => exact h.row l (by simp)
end Go.Proofs.YtdoidahbimonhaaDoor

namespace Go.Proofs.YtdoidahbimonhaaDoor
open Go Go.V
attribute [local go_sem] Nat.reduceEqDiff Nat.reduceAdd Nat.reduceMul reduceIte Nat.reduceLeDiff Nat.reduceLT Nat.reduceBEq reduceCtorEq
end Go.Proofs.YtdoidahbimonhaaDoor

namespace Go.Proofs.YtdoidahbimonhaaDoor
open Go Go.V
def Lost (n w:Nat) (g:List (List Int)) (p:Nat × Nat):Prop:=p.1 < n ∧ p.2 < w ∧ valAt g p = -1
def Clos (S:Nat × Nat → Prop):Prop:=∀ p,S p → (∃ q,S q ∧ q ≠ p ∧ q.1 = p.1) ∧ (∃ q,S q ∧ q ≠ p ∧ q.2 = p.2)
theorem posL_mem {n w i:Nat} {b:Bool} {p:Nat × Nat}:p ∈ posL n w i b ↔ if b then p.1 = i ∧ p.2 < w else p.2 = i ∧ p.1 < n:=by
 unfold posL
 cases b
 ·simp only [Bool.false_eq_true,if_false,List.mem_map,List.mem_range]
  constructor
  ·rintro ⟨k,hk,rfl⟩; exact ⟨rfl,hk⟩
  ·rintro ⟨rfl,h⟩; exact ⟨p.1,h,rfl⟩
 ·simp only [if_true,List.mem_map,List.mem_range]
  constructor
  ·rintro ⟨k,hk,rfl⟩; exact ⟨rfl,hk⟩
  ·rintro ⟨rfl,h⟩; exact ⟨p.2,h,rfl⟩
theorem posL_row_mem {n w i:Nat} {p:Nat × Nat}:p ∈ posL n w i true ↔ p.1 = i ∧ p.2 < w:=by rw [posL_mem]; simp
theorem posL_col_mem {n w i:Nat} {p:Nat × Nat}:p ∈ posL n w i false ↔ p.2 = i ∧ p.1 < n:=by rw [posL_mem]; simp
theorem allP_mem {n w:Nat} {l:List (Nat × Nat)}:l ∈ allP n w ↔ (∃ i,i < n ∧ l = posL n w i true) ∨ (∃ k,k < w ∧ l = posL n w k false):=by
 simp only [allP,List.mem_append,List.mem_map,List.mem_range]
 constructor
 ·rintro (⟨i,h,rfl⟩ | ⟨i,h,rfl⟩)
  ·exact .inl ⟨i,h,rfl⟩
  ·exact .inr ⟨i,h,rfl⟩
 ·rintro (⟨i,h,rfl⟩ | ⟨i,h,rfl⟩)
  ·exact .inl ⟨i,h,rfl⟩
  ·exact .inr ⟨i,h,rfl⟩
theorem lostL_mem {g:List (List Int)} {l:List (Nat × Nat)} {p:Nat × Nat}:p ∈ lostL g l ↔ p ∈ l ∧ valAt g p = -1:=by simp [lostL]
theorem posL_nodup (n w i:Nat) (b:Bool):(posL n w i b).Nodup:=by
 unfold posL
 cases b
 ·simp only [Bool.false_eq_true,if_false]
  exact List.pairwise_map.2 (List.nodup_range.imp fun h e => h (by simpa using e))
 ·simp only [if_true]
  exact List.pairwise_map.2 (List.nodup_range.imp fun h e => h (by simpa using e))
theorem allP_nodup {n w:Nat} {l:List (Nat × Nat)} (h:l ∈ allP n w):l.Nodup:=by
 rcases allP_mem.1 h with ⟨i,_,rfl⟩ | ⟨i,_,rfl⟩ <;> exact posL_nodup _ _ _ _
theorem step_clos {n w:Nat} {g g':List (List Int)} (h:GOw n w g) (hs:stepG n w g = some g') {S:Nat × Nat → Prop} (hc:Clos S) (hS:∀ p,S p → Lost n w g p):∀ p,S p → Lost n w g' p:=by
 obtain ⟨l,p,hl,_,hlo,hpl,hv,rfl,_,_⟩:=stepG_some h hs
 intro q hq
 obtain ⟨h1,h2,h3⟩:=hS q hq
 refine ⟨h1,h2,?_⟩
 rw [valAt_set]
 split
 ·rename_i he
  obtain ⟨rfl,_,_⟩:=he
  exfalso
  obtain ⟨⟨a,ha,hne,hr⟩,⟨b,hb,hne2,hr2⟩⟩:=hc p hq
  have key:∀ a,S a → a ∈ l → a = p:=fun a ha hal => by
   have:a ∈ lostL g l:=lostL_mem.2 ⟨hal,(hS a ha).2.2⟩
   rw [hlo] at this; simpa using this
  rcases allP_mem.1 hl with ⟨i,hi,rfl⟩ | ⟨k,hk,rfl⟩
  ·have:=posL_row_mem.1 hpl
   exact hne (key a ha (posL_row_mem.2 ⟨hr.trans this.1,(hS a ha).2.1⟩))
  ·have:=posL_col_mem.1 hpl
   exact hne2 (key b hb (posL_col_mem.2 ⟨hr2.trans this.1,(hS b hb).1⟩))
 ·exact h3
theorem two_lost {g:List (List Int)} {l:List (Nat × Nat)} (hnd:l.Nodup) {p:Nat × Nat} (hp:p ∈ l) (hv:valAt g p = -1) (h1:(lostL g l).length ≠ 1):∃ q,q ∈ l ∧ valAt g q = -1 ∧ q ≠ p:=by
 refine Classical.byContradiction fun hq => h1 ?_
 have hnd2:(lostL g l).Nodup:=hnd.filter _
 have hall:∀ q ∈ lostL g l,q = p:=fun q hq' => by
  obtain ⟨a,b⟩:=lostL_mem.1 hq'
  exact Classical.byContradiction fun hne => hq ⟨q,a,b,hne⟩
 have hmem:p ∈ lostL g l:=lostL_mem.2 ⟨hp,hv⟩
 generalize lostL g l = L at hnd2 hall hmem
 match L,hnd2,hall,hmem with
 | [a],_,_,_ => rfl
 | a :: b :: t,hnd2,hall,_ =>
  have h1:=hall a (by simp)
  have h2:=hall b (by simp)
  rw [h1,h2] at hnd2
  simp at hnd2
theorem end_clos {n w:Nat} {g:List (List Int)} (hs:stepG n w g = none):Clos (Lost n w g):=by
 have hn:∀ l ∈ allP n w,(lostL g l).length ≠ 1:=by
  unfold stepG at hs
  split at hs
  ·cases hs
  ·rename_i hf
   intro l hl h1
   have:=List.find?_eq_none.1 hf l hl
   simp [oneL,h1] at this
 rintro p ⟨h1,h2,h3⟩
 constructor
 ·obtain ⟨q,q1,q2,q3⟩:=two_lost (posL_nodup n w p.1 true) (posL_row_mem.2 ⟨rfl,h2⟩) h3 (hn _ (allP_mem.2 (.inl ⟨p.1,h1,rfl⟩)))
  have:=posL_row_mem.1 q1
  exact ⟨q,⟨by omega,this.2,q2⟩,q3,this.1⟩
 ·obtain ⟨q,q1,q2,q3⟩:=two_lost (posL_nodup n w p.2 false) (posL_col_mem.2 ⟨rfl,h1⟩) h3 (hn _ (allP_mem.2 (.inr ⟨p.2,h2,rfl⟩)))
  have:=posL_col_mem.1 q1
  exact ⟨q,⟨this.2,by omega,q2⟩,q3,this.1⟩
theorem restG_ind {n w:Nat} {M:List (List Int) → Prop} (hM:∀ g g',GOw n w g → M g → stepG n w g = some g' → M g'):∀ (k:Nat) (g:List (List Int)),nlost g = k → GOw n w g → M g → M (restG n w g) ∧ stepG n w (restG n w g) = none
 | 0,g,hk,h,hm => by
  cases hs:stepG n w g with
  | none => rw [restG_end hs]; exact ⟨hm,hs⟩
  | some g' => obtain ⟨_,_,_,_,_,_,_,_,_,hn⟩:=stepG_some h hs; omega
 | k + 1,g,hk,h,hm => by
  cases hs:stepG n w g with
  | none => rw [restG_end hs]; exact ⟨hm,hs⟩
  | some g' =>
   obtain ⟨_,_,_,_,_,_,_,_,hg,hn⟩:=stepG_some h hs
   rw [restG_step h hs]
   exact restG_ind hM k g' (by omega) hg (hM g g' h hm hs)
theorem restG_fin {n w:Nat} {g:List (List Int)} (h:GOw n w g):stepG n w (restG n w g) = none:=(restG_ind (M:=fun _ => True) (fun _ _ _ _ _ => trivial) _ g rfl h trivial).2
theorem step_less {n w:Nat} {g g':List (List Int)} (h:GOw n w g) (hs:stepG n w g = some g') {p:Nat × Nat} (hp:Lost n w g' p):Lost n w g p:=by
 obtain ⟨l,q,hl,_,hlo,hpl,hv,rfl,_,_⟩:=stepG_some h hs
 obtain ⟨h1,h2,h3⟩:=hp
 refine ⟨h1,h2,?_⟩
 rw [valAt_set] at h3
 split at h3
 ·have:=lack_rng g l; omega
 ·exact h3
theorem rest_core {n w:Nat} {g:List (List Int)} (h:GOw n w g) (p:Nat × Nat):Lost n w (restG n w g) p ↔ ∃ S,Clos S ∧ (∀ q,S q → Lost n w g q) ∧ S p:=by
 constructor
 ·intro hp
  refine ⟨Lost n w (restG n w g),end_clos (restG_fin h),?_,hp⟩
  exact (restG_ind (M:=fun g' => ∀ q,Lost n w g' q → Lost n w g q) (fun a b ha hm hs q hq => hm q (step_less ha hs hq)) _ g rfl h (fun _ h => h)).1
 ·rintro ⟨S,hc,hS,hp⟩
  exact (restG_ind (M:=fun g' => ∀ q,S q → Lost n w g' q) (fun a b ha hm hs => step_clos ha hs hc hm) _ g rfl h hS).1 p hp
structure Right (n w:Nat) (G:List (List Int)):Prop where
 gow:GOw n w G
 full:∀ i k,i < n → k < w → valAt G (i,k) ≠ -1
 sum:∀ l ∈ allP n w,lackL G l = 0
structure Part (n w:Nat) (G g:List (List Int)):Prop where
 gow:GOw n w g
 val:∀ i k,i < n → k < w → valAt g (i,k) = -1 ∨ valAt g (i,k) = valAt G (i,k)
theorem sumL_app (g:List (List Int)) (a b:List (Nat × Nat)):sumL g (a ++ b) = sumL g a + sumL g b:=by simp [sumL]
theorem sumL_cons (g:List (List Int)) (m:Nat × Nat) (b:List (Nat × Nat)):sumL g (m :: b) = (if valAt g m = -1 then 0 else valAt g m) + sumL g b:=by simp [sumL]
theorem sumL_congr {g G:List (List Int)} {l:List (Nat × Nat)} (h:∀ m ∈ l,valAt g m = valAt G m):sumL g l = sumL G l:=by
 unfold sumL
 congr 1
 exact List.map_congr_left fun m hm => by rw [h m hm]
theorem part_lack {n w:Nat} {G g:List (List Int)} (hG:Right n w G) (hp:Part n w G g) {l:List (Nat × Nat)} (hl:l ∈ allP n w) {p:Nat × Nat} (hlo:lostL g l = [p]):lackL g l = valAt G p:=by
 obtain ⟨A,q,B,e,hA,hB,hq,hlo2⟩:=lost_one (g:=g) (ps:=l) (by rw [hlo]; rfl)
 rw [hlo] at hlo2
 simp only [List.cons.injEq,and_true] at hlo2
 subst hlo2
 have hin:=allP_in hl
 have hin2:∀ m ∈ l,valAt g m ≠ -1 → valAt g m = valAt G m:=fun m hm hv => by
  obtain ⟨h1,h2⟩:=hin m hm
  rcases hp.val m.1 m.2 h1 h2 with h | h
  ·exact (hv h).elim
  ·exact h
 have hA2:sumL g A = sumL G A:=sumL_congr fun m hm => hin2 m (by rw [e]; simp [hm]) (hA m hm)
 have hB2:sumL g B = sumL G B:=sumL_congr fun m hm => hin2 m (by rw [e]; simp [hm]) (hB m hm)
 have hz:=hG.sum l hl
 have hpin:=hin p (by rw [e]; simp)
 have hf:=hG.full p.1 p.2 hpin.1 hpin.2
 have hv:=hG.gow.val p.1 p.2 hpin.1 hpin.2
 have hf':valAt G p ≠ -1:=hf
 have hv':-1 ≤ valAt G p ∧ valAt G p < 94:=hv
 unfold lackL at hz ⊢
 rw [e,sumL_app,sumL_cons] at hz ⊢
 rw [if_pos hq,hA2,hB2]
 rw [if_neg hf'] at hz
 omega
theorem part_step {n w:Nat} {G g g':List (List Int)} (hG:Right n w G) (hp:Part n w G g) (hs:stepG n w g = some g'):Part n w G g':=by
 obtain ⟨l,p,hl,_,hlo,hpl,hv,rfl,hg,_⟩:=stepG_some hp.gow hs
 refine ⟨hg,fun i k hi hk => ?_⟩
 rw [valAt_set]
 split
 ·rename_i he
  obtain ⟨rfl,_,_⟩:=he
  exact .inr (part_lack hG hp hl hlo)
 ·exact hp.val i k hi hk
theorem part_rest {n w:Nat} {G g:List (List Int)} (hG:Right n w G) (hp:Part n w G g):Part n w G (restG n w g) :=
 (restG_ind (M:=Part n w G) (fun _ _ _ hm hs => part_step hG hm hs) _ g rfl hp.gow hp).1
theorem grid_ext {n w:Nat} {g G:List (List Int)} (hg:GOw n w g) (hG:GOw n w G) (h:∀ i k,i < n → k < w → valAt g (i,k) = valAt G (i,k)):g = G:=by
 apply List.ext_getElem
 ·rw [hg.len,hG.len]
 ·intro i h1 h2
  have hi:i < n:=by rw [← hg.len]; exact h1
  have r1:=hg.row i hi
  have r2:=hG.row i hi
  have e1:g.getD i [] = g[i]:=by rw [List.getD_eq_getElem?_getD,List.getElem?_eq_getElem h1]; rfl
  have e2:G.getD i [] = G[i]:=by rw [List.getD_eq_getElem?_getD,List.getElem?_eq_getElem h2]; rfl
  rw [e1] at r1
  rw [e2] at r2
  apply List.ext_getElem
  ·rw [r1,r2]
  ·intro k h3 h4
   have:=h i k hi (by omega)
   unfold valAt at this
   simp only [e1,e2] at this
   rw [List.getD_eq_getElem?_getD,List.getElem?_eq_getElem h3,List.getD_eq_getElem?_getD,List.getElem?_eq_getElem h4] at this
   exact this
theorem rest_right {n w:Nat} {G g:List (List Int)} (hG:Right n w G) (hp:Part n w G g) (h0:∀ S,Clos S → (∀ q,S q → Lost n w g q) → ∀ p,¬ S p):restG n w g = G:=by
 have hr:=part_rest hG hp
 refine grid_ext hr.gow hG.gow fun i k hi hk => ?_
 rcases hr.val i k hi hk with h | h
 ·obtain ⟨S,hc,hS,hp'⟩:=(rest_core hp.gow (i,k)).1 ⟨hi,hk,h⟩
  exact (h0 S hc hS _ hp').elim
 ·exact h
theorem clos_three {S:Nat × Nat → Prop} (hc:Clos S) (l:List (Nat × Nat)) (hl:l.length ≤ 3) (hS:∀ p,S p → p ∈ l):∀ p,¬ S p:=by
 intro p hp
 obtain ⟨⟨q,hq,n1,e1⟩,⟨r,hr,n2,e2⟩⟩:=hc p hp
 obtain ⟨⟨s,hs,n3,e3⟩,_⟩:=hc r hr
 have hrow:r.1 ≠ p.1:=fun h => n2 (Prod.ext h e2)
 have d1:q ≠ r:=fun h => hrow (by rw [← h]; exact e1)
 have d2:s ≠ p:=fun h => hrow (by rw [← e3,h])
 have d3:s ≠ q:=fun h => hrow (by rw [← e3,h,e1])
 have m1:=hS p hp
 have m2:=hS q hq
 have m3:=hS r hr
 have m4:=hS s hs
 match l,hl with
 | [],_ => simp at m1
 | [a],_ => simp only [List.mem_singleton] at m1 m2; exact n1 (m2.trans m1.symm)
 | [a,b],_ =>
  simp only [List.mem_cons,List.not_mem_nil,or_false] at m1 m2 m3
  rcases m1 with rfl | rfl <;> rcases m2 with rfl | rfl <;> rcases m3 with rfl | rfl <;> first | exact n1 rfl | exact n2 rfl | exact d1 rfl
 | [a,b,c],_ =>
  simp only [List.mem_cons,List.not_mem_nil,or_false] at m1 m2 m3 m4
  rcases m1 with rfl | rfl | rfl <;> rcases m2 with rfl | rfl | rfl <;> rcases m3 with rfl | rfl | rfl <;> first | exact n1 rfl | exact n2 rfl | exact d1 rfl | (rcases m4 with rfl | rfl | rfl <;> first | exact n3 rfl | exact d2 rfl | exact d3 rfl)
theorem clos_cross {S:Nat × Nat → Prop} (hc:Clos S) (a c:Nat) (hS:∀ p,S p → p.1 = a ∨ p.2 = c):∀ p,¬ S p:=by
 have h1:∀ p,S p → p.1 = a:=fun p hp => by
  rcases hS p hp with h | h
  ·exact h
  ·obtain ⟨⟨q,hq,n1,e1⟩,_⟩:=hc p hp
   rcases hS q hq with h2 | h2
   ·rw [← e1]; exact h2
   ·exact (n1 (Prod.ext e1 (h2.trans h.symm))).elim
 intro p hp
 obtain ⟨_,⟨r,hr,n2,e2⟩⟩:=hc p hp
 exact n2 (Prod.ext ((h1 r hr).trans (h1 p hp).symm) e2)
end Go.Proofs.YtdoidahbimonhaaDoor

namespace Go.Proofs.YtdoidahbimonhaaDoor
open Go Go.V
end Go.Proofs.YtdoidahbimonhaaDoor

namespace Go.Proofs.YtdoidahbimonhaaDoor
open Go Go.V
theorem noLost_iff {n w:Nat} {g:List (List Int)}:noLost n w g = true ↔ ∀ i k,i < n → k < w → valAt g (i,k) ≠ -1:=by
 unfold noLost
 rw [List.all_eq_true]
 constructor
 ·intro h i k hi hk hv
  have:=h _ (allP_mem.2 (.inl ⟨i,hi,rfl⟩))
  simp only [beq_iff_eq] at this
  have hm:(i,k) ∈ lostL g (posL n w i true):=lostL_mem.2 ⟨posL_row_mem.2 ⟨rfl,hk⟩,hv⟩
  rw [List.eq_nil_of_length_eq_zero this] at hm
  cases hm
 ·intro h l hl
  simp only [beq_iff_eq]
  rw [List.length_eq_zero_iff,List.eq_nil_iff_forall_not_mem]
  intro p hp
  obtain ⟨h1,h2⟩:=lostL_mem.1 hp
  obtain ⟨k1,k2⟩:=allP_in hl p h1
  exact h p.1 p.2 k1 k2 h2
end Go.Proofs.YtdoidahbimonhaaDoor

namespace Go.Proofs.YtdoidahbimonhaaDoor
open Go Go.V
end Go.Proofs.YtdoidahbimonhaaDoor

namespace Go.Proofs.YtdoidahbimonhaaDoor
open Go Go.V
end Go.Proofs.YtdoidahbimonhaaDoor

namespace Go.Proofs.YtdoidahbimonhaaDoor
open Go Go.V
end Go.Proofs.YtdoidahbimonhaaDoor

namespace Go.Proofs.YtdoidahbimonhaaDoor
open Go Go.V
def tot (g:List (List Int)) (l:List (Nat × Nat)):Int:=(l.map (valAt g)).sum
theorem sumL_tot {g:List (List Int)} {l:List (Nat × Nat)} (h:∀ m ∈ l,valAt g m ≠ -1):sumL g l = tot g l:=by
 unfold sumL tot
 congr 1
 exact List.map_congr_left fun m hm => by rw [if_neg (h m hm)]
theorem lack_tot {g:List (List Int)} {l:List (Nat × Nat)} (h:∀ m ∈ l,valAt g m ≠ -1):lackL g l = 0 ↔ tot g l % 94 = 0:=by
 unfold lackL
 rw [sumL_tot h]
 omega
theorem tot_congr {g G:List (List Int)} {l:List (Nat × Nat)} (h:∀ m ∈ l,valAt g m = valAt G m):tot g l = tot G l:=by
 unfold tot
 congr 1
 exact List.map_congr_left h
theorem tot_cons (g:List (List Int)) (m:Nat × Nat) (l:List (Nat × Nat)):tot g (m :: l) = valAt g m + tot g l:=by simp [tot]
theorem tot_not {g:List (List Int)} {p:Nat × Nat} {v:Int} {l:List (Nat × Nat)} (h:p ∉ l):tot (setG g p v) l = tot g l:=tot_congr fun m hm => by
 rw [valAt_set,if_neg]
 rintro ⟨rfl,_⟩
 exact h hm
theorem tot_set {n w:Nat} {g:List (List Int)} (hg:GOw n w g) {p:Nat × Nat} (h1:p.1 < n) (h2:p.2 < w) {v:Int}:∀ {l:List (Nat × Nat)},l.Nodup → p ∈ l → tot (setG g p v) l = tot g l - valAt g p + v
 | [],_,hm => by cases hm
 | m :: l,hn,hm => by
  rw [List.nodup_cons] at hn
  rw [tot_cons,tot_cons,valAt_set]
  by_cases he:p = m
  ·subst he
   rw [tot_not hn.1,if_pos ⟨rfl,by rw [hg.len]; exact h1,by rw [hg.row _ h1]; exact h2⟩]
   omega
  ·have hm2:p ∈ l:=by
    rcases List.mem_cons.1 hm with h | h
    ·exact (he h).elim
    ·exact h
   rw [tot_set hg h1 h2 hn.2 hm2,if_neg (fun h => he h.1)]
   omega
structure NN (n w:Nat) (g:List (List Int)):Prop where
 gow:GOw n w g
 nn:∀ i k,i < n → k < w → 0 ≤ valAt g (i,k)
theorem NN.set {n w:Nat} {g:List (List Int)} (h:NN n w g) (p:Nat × Nat) {v:Int} (hv:0 ≤ v ∧ v < 94):NN n w (setG g p v):=by
 refine ⟨setG_ok h.gow p (by omega),fun i k hi hk => ?_⟩
 rw [valAt_set]
 split
 ·exact hv.1
 ·exact h.nn i k hi hk
theorem NN.ne {n w:Nat} {g:List (List Int)} (h:NN n w g) {l:List (Nat × Nat)} (hl:l ∈ allP n w):∀ m ∈ l,valAt g m ≠ -1:=fun m hm => by
 obtain ⟨h1,h2⟩:=allP_in hl m hm
 have:=h.nn m.1 m.2 h1 h2
 have e:valAt g m = valAt g (m.1,m.2):=rfl
 omega
theorem NN.line {n w:Nat} {g:List (List Int)} (h:NN n w g) (h0:0 < n) (i:Nat) (b:Bool):lineP g i b = posL n w i b:=by
 rw [line_pos,h.gow.len]
 have:wid g = w:=by unfold wid; exact h.gow.row 0 h0
 rw [this]
theorem tot_lack {n w:Nat} {g:List (List Int)} (h:NN n w g) {l:List (Nat × Nat)} (hl:l ∈ allP n w) {p:Nat × Nat} (hp:p ∈ l) (hz:valAt g p = 0):tot (setG g p (lackL g l)) l % 94 = 0:=by
 obtain ⟨h1,h2⟩:=allP_in hl p hp
 rw [tot_set h.gow h1 h2 (allP_nodup hl) hp,hz]
 unfold lackL
 rw [sumL_tot (h.ne hl)]
 omega
def rowsF (w k:Nat) (g:List (List Int)):List (List Int):=(List.range k).foldl (fun g i => setG g (i,w) (lackL g (lineP g i true))) g
theorem rowsF_succ (w k:Nat) (g:List (List Int)):rowsF w (k + 1) g = setG (rowsF w k g) (k,w) (lackL (rowsF w k g) (lineP (rowsF w k g) k true)):=by
 unfold rowsF
 rw [List.range_succ,List.foldl_append]; rfl
def colsF (n k:Nat) (g:List (List Int)):List (List Int):=(List.range k).foldl (fun g c => setG g (n,c) (lackL g (lineP g c false))) g
theorem colsF_succ (n k:Nat) (g:List (List Int)):colsF n (k + 1) g = setG (colsF n k g) (n,k) (lackL (colsF n k g) (lineP (colsF n k g) k false)):=by
 unfold colsF
 rw [List.range_succ,List.foldl_append]; rfl
theorem rowsF_inv {N w:Nat} {g:List (List Int)} (h:NN N (w + 1) g) (hz:∀ i,i < N → valAt g (i,w) = 0) (h0:0 < N):∀ k,k ≤ N → NN N (w + 1) (rowsF w k g) ∧ (∀ i,i < k → tot (rowsF w k g) (posL N (w + 1) i true) % 94 = 0) ∧ ∀ i c,(k ≤ i ∨ c ≠ w) → valAt (rowsF w k g) (i,c) = valAt g (i,c)
 | 0,_ => ⟨h,fun i hi => by omega,fun _ _ _ => rfl⟩
 | k + 1,hk => by
  obtain ⟨h1,h2,h3⟩:=rowsF_inv h hz h0 k (by omega)
  rw [rowsF_succ,h1.line h0]
  have hl:posL N (w + 1) k true ∈ allP N (w + 1):=allP_mem.2 (.inl ⟨k,by omega,rfl⟩)
  refine ⟨h1.set _ (lack_rng _ _),fun i hi => ?_,fun i c hic => ?_⟩
  ·by_cases hik:i = k
   ·subst hik
    exact tot_lack h1 hl (posL_row_mem.2 ⟨rfl,Nat.lt_succ_self w⟩) (by rw [h3 _ _ (.inl (Nat.le_refl _))]; exact hz _ (by omega))
   ·rw [tot_not]
    ·exact h2 i (by omega)
    ·intro hm
     have:=(posL_row_mem.1 hm).1
     simp only at this
     omega
  ·rw [valAt_set,if_neg,h3 i c (by omega)]
   rintro ⟨he,_⟩
   obtain ⟨rfl,rfl⟩:=Prod.mk.inj he
   omega
theorem colsF_inv {n W:Nat} {g:List (List Int)} (h:NN (n + 1) W g) (hz:∀ c,c < W → valAt g (n,c) = 0):∀ k,k ≤ W → NN (n + 1) W (colsF n k g) ∧ (∀ c,c < k → tot (colsF n k g) (posL (n + 1) W c false) % 94 = 0) ∧ ∀ i c,(i ≠ n ∨ k ≤ c) → valAt (colsF n k g) (i,c) = valAt g (i,c)
 | 0,_ => ⟨h,fun i hi => by omega,fun _ _ _ => rfl⟩
 | k + 1,hk => by
  obtain ⟨h1,h2,h3⟩:=colsF_inv h hz k (by omega)
  rw [colsF_succ,h1.line (Nat.succ_pos n)]
  have hl:posL (n + 1) W k false ∈ allP (n + 1) W:=allP_mem.2 (.inr ⟨k,by omega,rfl⟩)
  refine ⟨h1.set _ (lack_rng _ _),fun c hc => ?_,fun i c hic => ?_⟩
  ·by_cases hik:c = k
   ·subst hik
    exact tot_lack h1 hl (posL_col_mem.2 ⟨rfl,Nat.lt_succ_self n⟩) (by rw [h3 _ _ (.inr (Nat.le_refl _))]; exact hz _ (by omega))
   ·rw [tot_not]
    ·exact h2 c (by omega)
    ·intro hm
     have:=(posL_col_mem.1 hm).1
     simp only at this
     omega
  ·rw [valAt_set,if_neg,h3 i c (by omega)]
   rintro ⟨he,_⟩
   obtain ⟨rfl,rfl⟩:=Prod.mk.inj he
   omega
def sumR (f:Nat → Int):Nat → Int
 | 0 => 0
 | k + 1 => sumR f k + f k
theorem sumR_zero (k:Nat):sumR (fun _ => 0) k = 0:=by
 induction k with
 | zero => rfl
 | succ k ih => simp [sumR,ih]
theorem sumR_add (f h:Nat → Int) (k:Nat):sumR (fun c => f c + h c) k = sumR f k + sumR h k:=by
 induction k with
 | zero => rfl
 | succ k ih => simp only [sumR,ih]; omega
theorem sumR_swap (f:Nat → Nat → Int) (w:Nat):∀ n,sumR (fun i => sumR (f i) w) n = sumR (fun c => sumR (fun i => f i c) n) w
 | 0 => by simp only [sumR]; exact (sumR_zero w).symm
 | n + 1 => by
  simp only [sumR]
  rw [sumR_swap f w n,← sumR_add]
theorem sumR_mod {f:Nat → Int}:∀ {k:Nat},(∀ i,i < k → f i % 94 = 0) → sumR f k % 94 = 0
 | 0,_ => rfl
 | k + 1,h => by
  have h1:=sumR_mod (k:=k) fun i hi => h i (by omega)
  have h2:=h k (by omega)
  simp only [sumR]
  omega
theorem sumR_range (f:Nat → Int) (k:Nat):((List.range k).map f).sum = sumR f k:=by
 induction k with
 | zero => rfl
 | succ k ih => rw [List.range_succ,List.map_append,List.sum_append,ih]; simp [sumR]
theorem tot_row (g:List (List Int)) (n w i:Nat):tot g (posL n w i true) = sumR (fun c => valAt g (i,c)) w:=by
 unfold tot posL
 rw [if_pos rfl,List.map_map,← sumR_range]; rfl
theorem tot_col (g:List (List Int)) (n w c:Nat):tot g (posL n w c false) = sumR (fun i => valAt g (i,c)) n:=by
 unfold tot posL
 rw [if_neg (by decide),List.map_map,← sumR_range]; rfl
theorem fill_right {n w:Nat} {g:List (List Int)} (h:NN (n + 1) (w + 1) g) (hz:∀ i,i < n + 1 → valAt g (i,w) = 0) (hl:∀ c,c < w + 1 → valAt g (n,c) = 0) :
  Right (n + 1) (w + 1) (colsF n (w + 1) (rowsF w n g)) ∧ ∀ i c,i < n → c < w → valAt (colsF n (w + 1) (rowsF w n g)) (i,c) = valAt g (i,c):=by
 obtain ⟨a1,a2,a3⟩:=rowsF_inv h hz (Nat.succ_pos n) n (by omega)
 obtain ⟨b1,b2,b3⟩:=colsF_inv a1 (fun c hc => by rw [a3 n c (.inl (Nat.le_refl _))]; exact hl c hc) (w + 1) (Nat.le_refl _)
 refine ⟨⟨b1.gow,fun i k hi hk => by have:=b1.nn i k hi hk; omega,fun l hm => ?_⟩,fun i c hi hc => by rw [b3 i c (.inl (by omega)),a3 i c (.inr (by omega))]⟩
 rw [lack_tot (b1.ne hm)]
 have hrow:∀ i,i < n → tot (colsF n (w + 1) (rowsF w n g)) (posL (n + 1) (w + 1) i true) % 94 = 0:=fun i hi => by
  rw [← a2 i hi]
  congr 1
  exact tot_congr fun m hm => by
   have:=(posL_row_mem.1 hm).1
   have e:=b3 m.1 m.2 (.inl (by omega))
   exact e
 rcases allP_mem.1 hm with ⟨i,hi,rfl⟩ | ⟨c,hc,rfl⟩
 ·by_cases hin:i = n
  ·subst hin
   have hsw:=sumR_swap (fun i' c => valAt (colsF i (w + 1) (rowsF w i g)) (i',c)) (w + 1) (i + 1)
   have hr:=sumR_mod (f:=fun c => sumR (fun i' => valAt (colsF i (w + 1) (rowsF w i g)) (i',c)) (i + 1)) (k:=w + 1) fun c hc => by
    have:=b2 c hc
    rwa [tot_col] at this
   rw [← hsw] at hr
   have hr2:=sumR_mod (f:=fun i' => sumR (fun c => valAt (colsF i (w + 1) (rowsF w i g)) (i',c)) (w + 1)) (k:=i) fun i' hi' => by
    have:=hrow i' hi'
    rwa [tot_row] at this
   rw [tot_row]
   simp only [sumR] at hr
   simp only [sumR] at hr2 ⊢
   omega
  ·exact hrow i (by omega)
 ·exact b2 c hc
def rowZ (w:Nat) (s:List UInt8):List Int:=(rowB w s).map vq ++ [0]
def grid0 (ts:List (List UInt8)):List (List Int):=ts.map (rowZ (maxW ts)) ++ [List.replicate (maxW ts + 1) 0]
def gridR (ts:List (List UInt8)):List (List Int):=colsF ts.length (maxW ts + 1) (rowsF (maxW ts) ts.length (grid0 ts))
theorem getD_snoc {α β:Type} (f:α → β) (l:List α) (b d:β) (i:Nat):(l.map f ++ [b]).getD i d = if h:i < l.length then f l[i] else if i = l.length then b else d:=by
 rw [List.getD_eq_getElem?_getD]
 by_cases h:i < l.length
 ·rw [dif_pos h,List.getElem?_append_left (by simpa using h),List.getElem?_map,List.getElem?_eq_getElem h]; rfl
 ·rw [dif_neg h,List.getElem?_append_right (by simp; omega)]
  by_cases h2:i = l.length
  ·rw [if_pos h2,h2]; simp
  ·rw [if_neg h2,List.getElem?_eq_none (by simp; omega)]; rfl
theorem rowB_len {w:Nat} {s:List UInt8} (h:s.length + 1 ≤ w):(rowB w s).length = w:=by simp [rowB]; omega
theorem valB_vq {b:UInt8} (h:0 ≤ valB b):vq b = valB b:=by
 unfold vq
 split
 ·rename_i h63
  have:b = 63:=UInt8.toNat_inj.1 h63
  subst this
  exact absurd h (by decide)
 ·rfl
theorem rowB_nn {w:Nat} {s:List UInt8} (h:isTx s = true):∀ b ∈ rowB w s,0 ≤ vq b ∧ vq b < 94:=by
 intro b hb
 have hok:BOk b:=rowW_ok (w:=w) h b (by unfold rowW; simp [hb])
 refine ⟨?_,(vq_rng hok).2⟩
 unfold rowB at hb
 simp only [List.mem_append,List.mem_cons,List.mem_replicate] at hb
 rcases hb with hb | rfl | ⟨_,rfl⟩
 ·unfold isTx at h
  simp only [Bool.and_eq_true] at h
  have:=List.all_eq_true.1 h.1 b hb
  simp only [decide_eq_true_eq] at this
  rw [valB_vq this]; exact this
 ·decide
 ·decide
theorem grid0_row {ts:List (List UInt8)} {i:Nat}:(grid0 ts).getD i [] = if h:i < ts.length then rowZ (maxW ts) ts[i] else if i = ts.length then List.replicate (maxW ts + 1) 0 else []:=getD_snoc _ _ _ _ _
theorem rowsV_row {ts:List (List UInt8)} {i:Nat}:(valsG (rowsW ts)).getD i [] = if h:i < ts.length then (rowB (maxW ts) ts[i]).map vq ++ [-1] else if i = ts.length then List.replicate (maxW ts + 1) (-1) else []:=by
 have e:valsG (rowsW ts) = ts.map (fun s => (rowB (maxW ts) s).map vq ++ [-1]) ++ [List.replicate (maxW ts + 1) (-1)]:=by
  unfold valsG rowsW
  rw [List.map_append,List.map_map]
  congr 1
  ·refine List.map_congr_left fun s _ => ?_
   simp only [Function.comp,rowW,List.map_append,List.map_cons,List.map_nil]
   rfl
  ·simp only [List.map_cons,List.map_nil,List.map_replicate]
   rfl
 rw [e]
 exact getD_snoc _ _ _ _ _
theorem tail_get (l:List Int) (x:Int) (k:Nat):(l ++ [x]).getD k 0 = if k < l.length then l.getD k 0 else if k = l.length then x else 0:=by
 rw [List.getD_eq_getElem?_getD]
 by_cases h:k < l.length
 ·rw [if_pos h,List.getElem?_append_left h,List.getD_eq_getElem?_getD]
 ·rw [if_neg h,List.getElem?_append_right (by omega)]
  by_cases h2:k = l.length
  ·rw [if_pos h2,h2]; simp
  ·rw [if_neg h2,List.getElem?_eq_none (by simp; omega)]; rfl
theorem rep_get (n k:Nat) (x:Int) (h:k < n):(List.replicate n x).getD k 0 = x:=by
 rw [List.getD_eq_getElem?_getD,List.getElem?_replicate,if_pos h]; rfl
theorem grid0_nn {ts:List (List UInt8)} (h:ts.all isTx = true):NN (ts.length + 1) (maxW ts + 1) (grid0 ts):=by
 have hw:=(maxW_ge ts).2
 have hv:∀ i k,i < ts.length + 1 → k < maxW ts + 1 → 0 ≤ valAt (grid0 ts) (i,k) ∧ valAt (grid0 ts) (i,k) < 94:=by
  intro i k hi hk
  unfold valAt
  simp only [grid0_row]
  by_cases hin:i < ts.length
  ·rw [dif_pos hin]
   unfold rowZ
   rw [tail_get]
   have hl:=rowB_len (hw _ (List.getElem_mem hin))
   by_cases hkw:k < maxW ts
   ·rw [if_pos (by rw [List.length_map,hl]; exact hkw),map_getD (by rw [hl]; exact hkw)]
    exact rowB_nn (List.all_eq_true.1 h _ (List.getElem_mem hin)) _ (List.getElem_mem _)
   ·rw [if_neg (by rw [List.length_map,hl]; exact hkw)]
    split <;> omega
  ·rw [dif_neg hin,if_pos (by omega),rep_get _ _ _ hk]; omega
 refine ⟨⟨by simp [grid0],fun i hi => ?_,fun i k hi hk => by have:=hv i k hi hk; omega⟩,fun i k hi hk => (hv i k hi hk).1⟩
 rw [grid0_row]
 by_cases hin:i < ts.length
 ·rw [dif_pos hin]
  unfold rowZ
  rw [List.length_append,List.length_map,rowB_len (hw _ (List.getElem_mem hin))]; rfl
 ·rw [dif_neg hin,if_pos (by omega)]; simp
theorem grid0_zero {ts:List (List UInt8)}:(∀ i,i < ts.length + 1 → valAt (grid0 ts) (i,maxW ts) = 0) ∧ ∀ c,c < maxW ts + 1 → valAt (grid0 ts) (ts.length,c) = 0:=by
 have hw:=(maxW_ge ts).2
 constructor
 ·intro i hi
  unfold valAt
  simp only [grid0_row]
  by_cases hin:i < ts.length
  ·rw [dif_pos hin]
   unfold rowZ
   rw [tail_get,List.length_map,rowB_len (hw _ (List.getElem_mem hin)),if_neg (by omega),if_pos rfl]
  ·rw [dif_neg hin,if_pos (by omega),rep_get _ _ _ (by omega)]
 ·intro c hc
  unfold valAt
  simp only [grid0_row]
  rw [dif_neg (by omega),if_pos (by simp),rep_get _ _ _ hc]
theorem rowsV_at {ts:List (List UInt8)} {i c:Nat} (hi:i < ts.length + 1) (hc:c < maxW ts + 1):valAt (valsG (rowsW ts)) (i,c) = if i < ts.length ∧ c < maxW ts then valAt (grid0 ts) (i,c) else -1:=by
 have hw:=(maxW_ge ts).2
 unfold valAt
 simp only [grid0_row,rowsV_row]
 by_cases hin:i < ts.length
 ·rw [dif_pos hin,dif_pos hin]
  unfold rowZ
  rw [tail_get,tail_get,List.length_map,rowB_len (hw _ (List.getElem_mem hin))]
  by_cases hcw:c < maxW ts
  ·rw [if_pos hcw,if_pos hcw,if_pos ⟨hin,hcw⟩]
  ·rw [if_neg hcw,if_pos (by omega),if_neg (fun h => hcw h.2)]
 ·rw [dif_neg hin,dif_neg hin,if_pos (by omega),if_neg (fun h => hin h.1),rep_get _ _ _ hc]
theorem gridR_right {ts:List (List UInt8)} (h:ts.all isTx = true):Right (ts.length + 1) (maxW ts + 1) (gridR ts) ∧ ∀ i c,i < ts.length → c < maxW ts → valAt (gridR ts) (i,c) = valAt (grid0 ts) (i,c):=by
 obtain ⟨z1,z2⟩:=grid0_zero (ts:=ts)
 exact fill_right (grid0_nn h) z1 z2
theorem rowsV_rest {ts:List (List UInt8)} (h:ts.all isTx = true) (h40:¬ 40 < ts.length):restG (ts.length + 1) (maxW ts + 1) (valsG (rowsW ts)) = gridR ts:=by
 obtain ⟨hr,hv⟩:=gridR_right h
 have hgo:=vals_gow (rowsW_sok h h40)
 rw [rowsW_len] at hgo
 refine rest_right hr ⟨hgo,fun i c hi hc => ?_⟩ fun S hS hL => clos_cross hS ts.length (maxW ts) fun p hp => ?_
 ·rw [rowsV_at hi hc]
  split
  ·rename_i hh
   exact .inr (hv i c hh.1 hh.2).symm
  ·exact .inl rfl
 ·obtain ⟨h1,h2,h3⟩:=hL p hp
  have e:valAt (valsG (rowsW ts)) (p.1,p.2) = -1:=h3
  rw [rowsV_at h1 h2] at e
  by_cases hh:p.1 < ts.length ∧ p.2 < maxW ts
  ·exfalso
   rw [if_pos hh] at e
   have:=(grid0_nn h).nn p.1 p.2 h1 h2
   omega
  ·omega
def writeR (ts:List (List UInt8)):List UInt8 × Int :=
 if 40 < ts.length then ([],2) else if ts.all isTx then (textG (bytesG (gridR ts)),0) else ([],1)
theorem write_eq (ts:List (List UInt8)):writeG ts = writeR ts:=by
 unfold writeG writeR
 split
 ·rfl
 ·rename_i h40
  split
  ·rename_i h
   rw [rowsV_rest h h40]
  ·rfl
end Go.Proofs.YtdoidahbimonhaaDoor

namespace Go.Proofs.YtdoidahbimonhaaDoor
open Go Go.V
def byAt (g:List (List UInt8)) (p:Nat × Nat):UInt8:=(g.getD p.1 []).getD p.2 0
def upRow (f:Nat → UInt8) (i:Nat) (ms:List (Int × Int)) (row:List UInt8):List UInt8:=ms.foldl (fun r m => if m.1 = (i:Int) ∧ 0 ≤ m.2 ∧ m.2 < (r.length:Int) then r.set m.2.toNat (f m.2.toNat) else r) row
theorem upRow_len (f:Nat → UInt8) (i:Nat) (ms:List (Int × Int)):∀ (row:List UInt8),(upRow f i ms row).length = row.length:=by
 induction ms with
 | nil => intro row; rfl
 | cons m ms ih =>
  intro row
  show (upRow f i ms (if m.1 = (i:Int) ∧ 0 ≤ m.2 ∧ m.2 < (row.length:Int) then row.set m.2.toNat (f m.2.toNat) else row)).length = _
  rw [ih]
  split
  ·rw [List.length_set]
  ·rfl
theorem setB (l:List UInt8) (i:Nat) (v:UInt8) (k:Nat) (hi:i < l.length):(l.set i v).getD k 0 = if k = i then v else l.getD k 0:=by
 rw [List.getD_eq_getElem?_getD,List.getElem?_set]
 by_cases h:i = k
 ·subst h; rw [if_pos rfl,if_pos hi,if_pos rfl]; rfl
 ·rw [if_neg h,if_neg (fun e => h e.symm),List.getD_eq_getElem?_getD]
theorem upRow_at (f:Nat → UInt8) (i:Nat) (ms:List (Int × Int)) {k:Nat}:∀ (row:List UInt8),k < row.length → (((i:Int),(k:Int)) ∈ ms → (upRow f i ms row).getD k 0 = f k) ∧ (((i:Int),(k:Int)) ∉ ms → (upRow f i ms row).getD k 0 = row.getD k 0):=by
 induction ms with
 | nil => intro row hk; exact ⟨fun h => (by cases h),fun _ => rfl⟩
 | cons m ms ih =>
  intro row hk
  have e:upRow f i (m :: ms) row = upRow f i ms (if m.1 = (i:Int) ∧ 0 ≤ m.2 ∧ m.2 < (row.length:Int) then row.set m.2.toNat (f m.2.toNat) else row):=rfl
  rw [e]
  have hl:k < (if m.1 = (i:Int) ∧ 0 ≤ m.2 ∧ m.2 < (row.length:Int) then row.set m.2.toNat (f m.2.toNat) else row).length:=by
   split
   ·rw [List.length_set]; exact hk
   ·exact hk
  obtain ⟨i1,i2⟩:=ih _ hl
  constructor
  ·intro hm
   by_cases hw:((i:Int),(k:Int)) ∈ ms
   ·exact i1 hw
   ·have hme:m = ((i:Int),(k:Int)):=((List.mem_cons.1 hm).resolve_right hw).symm
    rw [i2 hw,hme,if_pos ⟨rfl,Int.natCast_nonneg _,by simp only; omega⟩]
    rw [setB _ _ _ _ (by simp only; omega)]
    simp
  ·intro hm
   have hw:((i:Int),(k:Int)) ∉ ms:=fun h => hm (List.mem_cons_of_mem _ h)
   rw [i2 hw]
   split
   ·rename_i hc
    obtain ⟨c1,c2,c3⟩:=hc
    rw [setB _ _ _ _ (by omega),if_neg]
    intro hk2
    refine hm (List.mem_cons.2 (.inl (Prod.ext c1.symm ?_)))
    simp only; omega
   ·rfl
def upR (f:Nat → Nat → UInt8) (rows:List (List UInt8)) (ms:List (Int × Int)):List (List UInt8):=(List.range rows.length).map fun i => upRow (f i) i ms (rows.getD i [])
theorem upR_len (f:Nat → Nat → UInt8) (rows:List (List UInt8)) (ms:List (Int × Int)):(upR f rows ms).length = rows.length:=by simp [upR]
theorem upR_get {f:Nat → Nat → UInt8} {rows:List (List UInt8)} {ms:List (Int × Int)} {i:Nat} (h:i < rows.length):(upR f rows ms).getD i [] = upRow (f i) i ms (rows.getD i []):=by
 unfold upR
 rw [List.getD_eq_getElem?_getD,List.getElem?_map,List.getElem?_range h]; rfl
theorem getD_mem {α:Type} {l:List α} {i:Nat} (d:α) (h:i < l.length):l.getD i d ∈ l:=by
 rw [List.getD_eq_getElem?_getD,List.getElem?_eq_getElem h]; exact List.getElem_mem h
theorem sok_of {rows:List (List UInt8)} {n w:Nat} (hn:rows.length = n) (h0:0 < n) (h41:n ≤ 41) (h2:2 ≤ w) (h32:w ≤ 32) (hr:∀ i,i < n → (rows.getD i []).length = w) (hb:∀ i k,i < n → k < w → BOk (byAt rows (i,k))):SOk rows w:=by
 subst hn
 have hg:∀ i (hi:i < rows.length),rows.getD i [] = rows[i]:=fun i hi => by rw [List.getD_eq_getElem?_getD,List.getElem?_eq_getElem hi]; rfl
 refine ⟨h0,h41,h2,h32,fun l hl => ?_,fun l hl b hb' => ?_⟩
 ·obtain ⟨i,hi,rfl⟩:=List.getElem_of_mem hl
  rw [← hg i hi]; exact hr i hi
 ·obtain ⟨i,hi,rfl⟩:=List.getElem_of_mem hl
  obtain ⟨k,hk,rfl⟩:=List.getElem_of_mem hb'
  have hw:=hr i hi
  rw [hg i hi] at hw
  have:=hb i k hi (by omega)
  unfold byAt at this
  simp only [hg i hi] at this
  rwa [List.getD_eq_getElem?_getD,List.getElem?_eq_getElem hk] at this
theorem SOk.at {rows:List (List UInt8)} {w:Nat} (h:SOk rows w) {i k:Nat} (hi:i < rows.length) (hk:k < w):(rows.getD i []).length = w ∧ BOk (byAt rows (i,k)) ∧ valAt (valsG rows) (i,k) = vq (byAt rows (i,k)):=by
 have hg:rows.getD i [] = rows[i]:=by rw [List.getD_eq_getElem?_getD,List.getElem?_eq_getElem hi]; rfl
 have hl:=h.row _ (List.getElem_mem hi)
 have hk2:k < (rows[i]).length:=by omega
 refine ⟨by rw [hg,hl],?_,?_⟩
 ·unfold byAt
  simp only [hg]
  rw [List.getD_eq_getElem?_getD,List.getElem?_eq_getElem hk2]
  exact h.byte _ (List.getElem_mem hi) _ (List.getElem_mem hk2)
 ·unfold byAt valAt valsG
  simp only
  rw [map_getD hi,map_getD hk2,hg,List.getD_eq_getElem?_getD,List.getElem?_eq_getElem hk2]; rfl
theorem upR_at {f:Nat → Nat → UInt8} {rows:List (List UInt8)} {ms:List (Int × Int)} {w i k:Nat} (h:SOk rows w) (hi:i < rows.length) (hk:k < w):(((i:Int),(k:Int)) ∈ ms → byAt (upR f rows ms) (i,k) = f i k) ∧ (((i:Int),(k:Int)) ∉ ms → byAt (upR f rows ms) (i,k) = byAt rows (i,k)):=by
 unfold byAt
 simp only
 rw [upR_get hi]
 exact upRow_at (f i) i ms _ (by rw [(h.at hi hk).1]; exact hk)
theorem upR_sok {f:Nat → Nat → UInt8} {rows:List (List UInt8)} {ms:List (Int × Int)} {w:Nat} (h:SOk rows w) (hf:∀ i k,i < rows.length → k < w → ((i:Int),(k:Int)) ∈ ms → BOk (f i k)):SOk (upR f rows ms) w:=by
 refine sok_of (upR_len _ _ _) h.pos h.len h.w2 h.w32 (fun i hi => ?_) fun i k hi hk => ?_
 ·rw [upR_get hi,upRow_len]
  have:=h.w2
  exact (h.at (k:=0) hi (by omega)).1
 ·obtain ⟨a1,a2⟩:=upR_at (f:=f) (ms:=ms) h hi hk
  by_cases hm:((i:Int),(k:Int)) ∈ ms
  ·rw [a1 hm]; exact hf i k hi hk hm
  ·rw [a2 hm]; exact (h.at hi hk).2.1
theorem upR_val {f:Nat → Nat → UInt8} {rows:List (List UInt8)} {ms:List (Int × Int)} {w i k:Nat} (h:SOk rows w) (hf:∀ i k,i < rows.length → k < w → ((i:Int),(k:Int)) ∈ ms → BOk (f i k)) (hi:i < rows.length) (hk:k < w):(((i:Int),(k:Int)) ∈ ms → valAt (valsG (upR f rows ms)) (i,k) = vq (f i k)) ∧ (((i:Int),(k:Int)) ∉ ms → valAt (valsG (upR f rows ms)) (i,k) = valAt (valsG rows) (i,k)):=by
 obtain ⟨a1,a2⟩:=upR_at (f:=f) (ms:=ms) h hi hk
 have h2:=(upR_sok h hf).at (i:=i) (k:=k) (by rw [upR_len]; exact hi) hk
 constructor
 ·intro hm; rw [h2.2.2,a1 hm]
 ·intro hm; rw [h2.2.2,a2 hm,(h.at hi hk).2.2]
section
variable {rows:List (List UInt8)} {w:Nat}
theorem sheet_rest (h:SOk rows w):sheetG rows = restG rows.length w (valsG rows):=by unfold sheetG; rw [h.hd]
theorem whole_right (h:SOk rows w) {G:List (List Int)} (hG:Right rows.length w G) (hr:restG rows.length w (valsG rows) = G):wholeG (textG rows) = (G,0):=by
 unfold wholeG
 rw [parse_text h]
 simp only
 rw [h.hd,sheet_rest h,hr,if_pos (noLost_iff.2 hG.full),if_pos]
 unfold noLack
 rw [List.all_eq_true]
 intro l hl
 rw [hG.sum l hl]; rfl
theorem mend_right (h:SOk rows w) {G:List (List Int)} (hG:Right rows.length w G) (hr:restG rows.length w (valsG rows) = G):mendG (textG rows) = (textG (bytesG G),0):=by
 unfold mendG
 rw [whole_right h hG hr,if_pos rfl]
end
def bookB (ts:List (List UInt8)):List (List UInt8):=bytesG (gridR ts)
structure BookOk (ts:List (List UInt8)):Prop where
 tx:ts.all isTx = true
 le:¬ 40 < ts.length
theorem vals_bytes {n w:Nat} {G:List (List Int)} (h:Right n w G):valsG (bytesG G) = G:=by
 unfold valsG bytesG
 rw [List.map_map]
 conv => rhs; rw [← List.map_id G]
 refine List.map_congr_left fun l hl => ?_
 simp only [Function.comp,List.map_map,id]
 conv => rhs; rw [← List.map_id l]
 refine List.map_congr_left fun v hv => ?_
 obtain ⟨i,hi,rfl⟩:=List.getElem_of_mem hl
 obtain ⟨k,hk,rfl⟩:=List.getElem_of_mem hv
 have hi2:i < n:=by rw [← h.gow.len]; exact hi
 have hg:G.getD i [] = G[i]:=by rw [List.getD_eq_getElem?_getD,List.getElem?_eq_getElem hi]; rfl
 have hw:=h.gow.row i hi2
 rw [hg] at hw
 have h1:=h.gow.val i k hi2 (by omega)
 have h2:=h.full i k hi2 (by omega)
 have e:valAt G (i,k) = (G[i])[k]:=by
  unfold valAt
  simp only [hg]
  rw [List.getD_eq_getElem?_getD,List.getElem?_eq_getElem hk]; rfl
 rw [e] at h1 h2
 exact (sgn_ok ⟨by omega,h1.2⟩).2
section
variable {ts:List (List UInt8)}
theorem BookOk.right (h:BookOk ts):Right (ts.length + 1) (maxW ts + 1) (gridR ts):=(gridR_right h.tx).1
theorem bookB_len (h:BookOk ts):(bookB ts).length = ts.length + 1:=by
 unfold bookB
 rw [bytesG_len,h.right.gow.len]
theorem BookOk.wid (h:BookOk ts):1 ≤ maxW ts ∧ maxW ts ≤ 31:=by
 refine ⟨(maxW_ge ts).1,maxW_le (by omega) fun s hs => ?_⟩
 have:=isTx_len (List.all_eq_true.1 h.tx s hs)
 omega
theorem BookOk.vals (h:BookOk ts):valsG (bookB ts) = gridR ts:=vals_bytes h.right
theorem bookB_at (h:BookOk ts) {i k:Nat} (hi:i < ts.length + 1) (hk:k < maxW ts + 1):byAt (bookB ts) (i,k) = sgn (valAt (gridR ts) (i,k)):=by
 have hg:=h.right.gow
 have hi2:i < (gridR ts).length:=by rw [hg.len]; exact hi
 have hr:(gridR ts).getD i [] = (gridR ts)[i]:=by rw [List.getD_eq_getElem?_getD,List.getElem?_eq_getElem hi2]; rfl
 have hw:=hg.row i hi
 rw [hr] at hw
 have hk2:k < ((gridR ts)[i]).length:=by omega
 unfold byAt bookB bytesG valAt
 simp only
 rw [map_getD hi2,map_getD hk2,hr,List.getD_eq_getElem?_getD,List.getElem?_eq_getElem hk2]; rfl
theorem BookOk.sok (h:BookOk ts):SOk (bookB ts) (maxW ts + 1):=by
 have hw:=h.wid
 have hle:=h.le
 refine sok_of (bookB_len h) (by omega) (by omega) (by omega) (by omega) (fun i hi => ?_) fun i k hi hk => ?_
 ·have:=h.right.gow.bytes _ (getD_mem (l:=bookB ts) [] (by rw [bookB_len h]; exact hi))
  exact this
 ·rw [bookB_at h hi hk]
  have h1:=h.right.gow.val i k hi hk
  have h2:=h.right.full i k hi hk
  exact (sgn_ok ⟨by omega,h1.2⟩).1
theorem write_book (h:BookOk ts):writeG ts = (textG (bookB ts),0):=by
 rw [write_eq]
 unfold writeR
 rw [if_neg h.le,if_pos h.tx]; rfl
theorem book_row (h:BookOk ts) {i:Nat} (hi:i < ts.length):∃ c,(bookB ts).getD i [] = rowB (maxW ts) ts[i] ++ [c]:=by
 have hs:=h.sok
 have hbl:=bookB_len h
 have hw:=h.wid
 have hrl:=(hs.at (i:=i) (k:=0) (by omega) (by omega)).1
 have htx:=List.all_eq_true.1 h.tx _ (List.getElem_mem hi)
 have hsl:=(maxW_ge ts).2 _ (List.getElem_mem hi)
 have hbl2:=rowB_len hsl
 refine ⟨((bookB ts).getD i []).getD (maxW ts) 0,?_⟩
 apply List.ext_getElem
 ·rw [hrl,List.length_append,hbl2]; rfl
 ·intro k h1 h2
  rw [hrl] at h1
  by_cases hk:k < maxW ts
  ·rw [List.getElem_append_left (by omega)]
   have e:=bookB_at h (i:=i) (k:=k) (by omega) h1
   have e2:=(gridR_right h.tx).2 i k hi hk
   rw [e2] at e
   unfold byAt at e
   simp only at e
   rw [List.getD_eq_getElem?_getD (i:=k),List.getElem?_eq_getElem (by rw [hrl]; exact h1)] at e
   rw [show ((bookB ts).getD i [])[k] = _ from e]
   unfold valAt
   simp only [grid0_row]
   rw [dif_pos hi]
   unfold rowZ
   rw [tail_get,if_pos (show k < ((rowB (maxW ts) ts[i]).map vq).length by rw [List.length_map,hbl2]; exact hk),map_getD (show k < (rowB (maxW ts) ts[i]).length by rw [hbl2]; exact hk)]
   have hok:BOk (rowB (maxW ts) ts[i])[k]:=rowW_ok (w:=maxW ts) htx _ (by unfold rowW; exact List.mem_append_left _ (List.getElem_mem _))
   exact sgn_vq hok
  ·have hk:k = maxW ts:=by omega
   subst hk
   rw [List.getElem_append_right (by omega)]
   simp only [hbl2,Nat.sub_self,List.getElem_cons_zero]
   rw [List.getD_eq_getElem?_getD (i:=maxW ts),List.getElem?_eq_getElem (by rw [hrl]; exact h1)]; rfl
theorem trim_row (s:List UInt8) (j:Nat):trimR 32 (s ++ 124 :: List.replicate j 32) = s ++ [124]:=by
 induction j with
 | zero => rw [List.replicate_zero,trimR_snoc,if_neg (by decide)]
 | succ j ih =>
  rw [List.replicate_succ',← List.cons_append,← List.append_assoc,trimR_snoc,if_pos rfl,ih]
theorem read_book (h:BookOk ts) {rows:List (List UInt8)} (hr:SOk rows (maxW ts + 1)) (hl:rows.length = ts.length + 1) (hg:restG (ts.length + 1) (maxW ts + 1) (valsG rows) = gridR ts):readG (textG rows) = (ts,0) ∧ mendG (textG rows) = (textG (bookB ts),0):=by
 have hR:=h.right
 rw [← hl] at hR hg
 refine ⟨?_,mend_right hr hR hg⟩
 have hbl:=bookB_len h
 have hrow:∀ i (hi:i < ts.length),txtR ((bookB ts).getD i []) = ts[i] ∧ isTxR ((bookB ts).getD i []) = true:=fun i hi => by
  obtain ⟨c,hc⟩:=book_row h hi
  have hT:rowT ((bookB ts).getD i []) = ts[i] ++ [124]:=by
   unfold rowT
   rw [hc,List.dropLast_concat]
   exact trim_row _ _
  have he:endsB (ts[i] ++ [124]) 124 = true:=by unfold endsB; simp
  refine ⟨?_,by unfold isTxR; rw [hT]; exact he⟩
  unfold txtR cutB
  rw [hT,if_pos he,List.dropLast_concat]
 have hdl:(bookB ts).dropLast.length = ts.length:=by rw [List.length_dropLast,hbl]; rfl
 have hdg:∀ i (hi:i < (bookB ts).dropLast.length),(bookB ts).dropLast[i] = (bookB ts).getD i []:=fun i hi => by
  rw [List.getElem_dropLast,List.getD_eq_getElem?_getD,List.getElem?_eq_getElem (by omega)]; rfl
 unfold readG
 rw [whole_right hr hR hg,if_pos rfl]
 show (if (bookB ts).dropLast.all isTxR = true then ((bookB ts).dropLast.map txtR,(0:Int)) else ([],143)) = (ts,0)
 rw [if_pos]
 ·refine Prod.ext ?_ rfl
  apply List.ext_getElem
  ·simp only [List.length_map]; exact hdl
  ·intro i h1 h2
   simp only [List.getElem_map]
   rw [hdg]
   exact (hrow i h2).1
 ·rw [List.all_eq_true]
  intro l hm
  obtain ⟨i,hi,rfl⟩:=List.getElem_of_mem hm
  rw [hdg]
  exact (hrow i (by omega)).2
def spo (ts:List (List UInt8)) (ms:List (Int × Int)):List (List UInt8):=upR (fun _ _ => 63) (bookB ts) ms
theorem bok63:BOk 63:=by unfold BOk; decide
theorem spo_sok (h:BookOk ts) (ms:List (Int × Int)):SOk (spo ts ms) (maxW ts + 1):=upR_sok h.sok fun _ _ _ _ _ => bok63
theorem spo_len (h:BookOk ts) (ms:List (Int × Int)):(spo ts ms).length = ts.length + 1:=by unfold spo; rw [upR_len,bookB_len h]
theorem spo_val (h:BookOk ts) (ms:List (Int × Int)) {i k:Nat} (hi:i < ts.length + 1) (hk:k < maxW ts + 1):(((i:Int),(k:Int)) ∈ ms → valAt (valsG (spo ts ms)) (i,k) = -1) ∧ (((i:Int),(k:Int)) ∉ ms → valAt (valsG (spo ts ms)) (i,k) = valAt (gridR ts) (i,k)):=by
 have:=upR_val (f:=fun _ _ => 63) (ms:=ms) h.sok (fun _ _ _ _ _ => bok63) (i:=i) (k:=k) (by rw [bookB_len h]; exact hi) hk
 rw [h.vals] at this
 exact this
theorem spo_part (h:BookOk ts) (ms:List (Int × Int)):Part (ts.length + 1) (maxW ts + 1) (gridR ts) (valsG (spo ts ms)):=by
 have:=vals_gow (spo_sok h ms)
 rw [spo_len h] at this
 refine ⟨this,fun i k hi hk => ?_⟩
 obtain ⟨a1,a2⟩:=spo_val h ms hi hk
 by_cases hm:((i:Int),(k:Int)) ∈ ms
 ·exact .inl (a1 hm)
 ·exact .inr (a2 hm)
theorem spo_read (h:BookOk ts) (ms:List (Int × Int)) (h0:∀ S,Clos S → (∀ q,S q → Lost (ts.length + 1) (maxW ts + 1) (valsG (spo ts ms)) q) → ∀ p,¬ S p):readG (textG (spo ts ms)) = (ts,0) ∧ mendG (textG (spo ts ms)) = (textG (bookB ts),0) :=
 read_book h (spo_sok h ms) (spo_len h ms) (rest_right h.right (spo_part h ms) h0)
end
end Go.Proofs.YtdoidahbimonhaaDoor

namespace Go.Proofs.YtdoidahbimonhaaDoor
open Go Go.V
attribute [local go_sem] Nat.reduceEqDiff Nat.reduceAdd Nat.reduceMul reduceIte Nat.reduceLeDiff Nat.reduceLT Nat.reduceBEq reduceCtorEq
def icst (p:Nat × Nat):Int × Int:=((p.1:Int),(p.2:Int))
end Go.Proofs.YtdoidahbimonhaaDoor

namespace Go.Proofs.YtdoidahbimonhaaDoor
open Go Go.V
section
variable {ts:List (List UInt8)}
end
end Go.Proofs.YtdoidahbimonhaaDoor

namespace Go.Proofs.YtdoidahbimonhaaDoor
open Go Go.V
attribute [local go_sem] Nat.reduceEqDiff Nat.reduceAdd Nat.reduceMul reduceIte Nat.reduceLeDiff Nat.reduceLT Nat.reduceBEq reduceCtorEq
end Go.Proofs.YtdoidahbimonhaaDoor

namespace Go.Proofs.YtdoidahbimonhaaDoor
open Go Go.V
attribute [local go_sem] Nat.reduceEqDiff Nat.reduceAdd Nat.reduceMul reduceIte Nat.reduceLeDiff Nat.reduceLT Nat.reduceBEq reduceCtorEq
end Go.Proofs.YtdoidahbimonhaaDoor

namespace Go.Proofs.YtdoidahbimonhaaDoor
open Go Go.V
abbrev o14_0:List Ins:=[⟨some 4,.mv (.k (.c (.bool false))),none,true⟩]
abbrev o14_1:List Ins:=[⟨some 6,.mv (.t 0),none,true⟩,
 ⟨some 7,.len (.t 6),none,true⟩,
 ⟨some 8,.mv (.t 1),none,true⟩,
 ⟨some 9,.len (.t 8),none,true⟩,
 ⟨some 10,.bin .neq (.t 7) (.t 9),none,true⟩]
abbrev o14_2:List Ins:=[⟨some 4,.mv (.k (.c (.bool false))),none,true⟩]
abbrev v14_3:VC:=(.seq (.ops o14_2) .ret)
abbrev v14_4:VC:=(.cond (.t 10) v14_3 .skip)
abbrev o14_5:List Ins:=[⟨some 5,.mv (.k (.c (.int .i64 0))),none,true⟩]
abbrev o14_6:List Ins:=[⟨some 11,.mv (.t 5),none,true⟩,
 ⟨some 12,.mv (.t 0),none,true⟩,
 ⟨some 13,.len (.t 12),none,true⟩,
 ⟨some 14,.bin .lss (.t 11) (.t 13),none,true⟩]
abbrev v14_7:VC:=(.cond (.t 14) .skip (.exit 0))
abbrev o14_8:List Ins:=[⟨some 17,.mv (.t 0),none,false⟩,
 ⟨some 18,.mv (.t 5),none,false⟩,
 ⟨some 19,.ia 1 (.t 17) (.t 18),none,false⟩,
 ⟨some 20,.ld true 1 (.t 19),none,false⟩,
 ⟨some 21,.mv (.t 1),none,false⟩,
 ⟨some 22,.mv (.t 5),none,false⟩,
 ⟨some 23,.ia 1 (.t 21) (.t 22),none,false⟩,
 ⟨some 24,.ld true 1 (.t 23),none,false⟩,
 ⟨some 25,.prim (.sbin .neq) [(.t 20),(.t 24)],none,true⟩]
abbrev o14_9:List Ins:=[⟨some 4,.mv (.k (.c (.bool false))),none,true⟩]
abbrev v14_10:VC:=(.seq (.ops o14_9) .ret)
abbrev v14_11:VC:=(.cond (.t 25) v14_10 .skip)
abbrev v14_12:VC:=(.seq (.dops o14_8) v14_11)
abbrev o14_13:List Ins:=[⟨some 15,.mv (.t 5),none,true⟩,
 ⟨some 16,.bin .add (.t 15) (.k (.c (.int .i64 1))),none,true⟩,
 ⟨some 5,.mv (.t 16),none,true⟩]
abbrev v14_14:VC:=(.seq (.block 1 v14_12) (.ops o14_13))
abbrev v14_15:VC:=(.seq (.seq (.ops o14_6) v14_7) v14_14)
-- K14_1: changed and kept: [5]
abbrev K14_1:List Nat:=[0,1]
abbrev v14_16:VC:=(.loop v14_15)
abbrev v14_17:VC:=(.block 0 v14_16)
abbrev o14_18:List Ins:=[⟨some 4,.mv (.k (.c (.bool true))),none,true⟩]
abbrev v14_19:VC:=(.seq (.ops o14_18) .ret)
abbrev v14_20:VC:=(.seq (.seq (.ops o14_5) v14_17) v14_19)
abbrev v14_21:VC:=(.seq (.seq (.ops o14_1) v14_4) v14_20)
def ir14:FC:=⟨2,26,[.t 4],(.seq (.ops o14_0) v14_21)⟩
theorem c14:compM Tryd.prog [] 14 = some ir14:=by kernel_rfl
attribute [local go_sem] Nat.reduceEqDiff Nat.reduceAdd Nat.reduceMul reduceIte Nat.reduceLeDiff Nat.reduceLT Nat.reduceBEq reduceCtorEq
theorem same21 (a b:List (List UInt8)) (ha:a.length ≤ 1000000):FSpec Tryd.prog 14 [.c (strsV a),.c (strsV b)] (bv (a == b)):=by
 have hmax:maxLen = 9223372036854775807:=rfl
 refine FSpec_of c14 (Nat.le_refl _) (by decide) fun C hP hN hC hL => ?_; rw [init_st]
 simp only [ir14,strsV]
 (repeat ((first | refine Va ?_ | refine Vb ?_ | refine Vc ?_ | refine Vd ?_ | refine Ve ?_ | refine Vf ?_); (try simp only [go_sem,hP,List.length_map]); (repeat refine qJ ?_)))
 by_cases hl:a.length = b.length
 ·(refine WV_cond rfl (fun h => ?_) (fun h => ?_))
  ·simp [hl] at h
  (repeat ((first | refine Va ?_ | refine Vb ?_ | refine Vc ?_ | refine Vd ?_ | refine Ve ?_ | refine Vf ?_); (try simp only [go_sem,hP]); (repeat refine qJ ?_)))
  refine WV_loopK K14_1 [] (fun k:Nat => k ≤ a.length ∧ ∀ m (hm:m < a.length) (hm2:m < b.length),m < k → a[m] = b[m]) (fun k => a.length - k) (fun k => [(5,iv k)]) (fun _ => []) 0 ⟨Nat.zero_le _,fun m _ _ h => by omega⟩ ?_ ?_
  ·exact Sub_au
  ·intro k ⟨hk0,hke⟩
   simp only [go_sem]
   (repeat ((first | refine Va ?_ | refine Vb ?_ | refine Vc ?_ | refine Vd ?_ | refine Ve ?_ | refine Vf ?_); (try simp only [go_sem,hP,List.length_map]); (repeat refine qJ ?_)))
   (refine WV_cond rfl (fun h => ?_) (fun h => ?_))
   ·have hk:k < a.length:=by simpa using h
    have hkb:k < b.length:=by omega
    have hw2:=w64 (n:=(k:Int) + 1) (by omega) (by omega)
    (refine WV_skip ?_; simp only [go_sem])
    refine WV_seq_ (WV_block (WV_seq_ ?_))
    (refine WV_op ?_; simp only [go_sem,hP,map_getD hk,map_getD hkb,List.length_map,Int.toNat_natCast,Int.ofNat_lt,hk,hkb,Int.natCast_nonneg]; (repeat refine qJ ?_))
    by_cases he:a[k] = b[k]
    ·(refine WV_cond rfl (fun h => ?_) (fun h => ?_))
     ·simp [he] at h
     ·(repeat ((first | refine Va ?_ | refine Vb ?_ | refine Vc ?_ | refine Vd ?_ | refine Ve ?_ | refine Vf ?_); (try simp only [go_sem,hP,hw2]); (repeat refine qJ ?_)))
      refine ⟨k + 1,⟨by omega,fun m hm hm2 hmk => ?_⟩,by omega,?_⟩
      ·by_cases e2:m = k
       ·subst e2; exact he
       ·exact hke m hm hm2 (by omega)
      ·exact Sub_au
    ·have hne:(a == b) = false:=by
      rw [beq_eq_false_iff_ne]
      rintro rfl
      exact he rfl
     rw [hne]
     (refine WV_cond rfl (fun h => ?_) (fun h => ?_))
     ·(repeat ((first | refine Va ?_ | refine Vb ?_ | refine Vc ?_ | refine Vd ?_ | refine Ve ?_ | refine Vf ?_); (try simp only [go_sem,hP]); (repeat refine qJ ?_)))
      (refine WV_ret ?_; simp only [thenQ,inQ,RetQ,RetOk,resAll,resA]; simp only [go_sem,tupA,AV.port,AV.portL,exists_eq_left']; (first | exact AVle.of rfl | refine AVle.of ?_ | skip))
     ·simp [he] at h
   ·have hk:k = a.length:=by simp at h; omega
    subst hk
    have heq:(a == b) = true:=by
     rw [beq_iff_eq]
     exact List.ext_getElem hl fun m h1 h2 => hke m h1 h2 h1
    rw [heq]
    (repeat ((first | refine Va ?_ | refine Vb ?_ | refine Vc ?_ | refine Vd ?_ | refine Ve ?_ | refine Vf ?_); (try simp only [go_sem,hP]); (repeat refine qJ ?_)))
    (refine WV_ret ?_; simp only [thenQ,inQ,RetQ,RetOk,resAll,resA]; simp only [go_sem,tupA,AV.port,AV.portL,exists_eq_left']; (first | exact AVle.of rfl | refine AVle.of ?_ | skip))
 ·have hne:(a == b) = false:=by
   rw [beq_eq_false_iff_ne]
   rintro rfl
   exact hl rfl
  rw [hne]
  (refine WV_cond rfl (fun h => ?_) (fun h => ?_))
  ·(repeat ((first | refine Va ?_ | refine Vb ?_ | refine Vc ?_ | refine Vd ?_ | refine Ve ?_ | refine Vf ?_); (try simp only [go_sem,hP]); (repeat refine qJ ?_)))
   (refine WV_ret ?_; simp only [thenQ,inQ,RetQ,RetOk,resAll,resA]; simp only [go_sem,tupA,AV.port,AV.portL,exists_eq_left']; (first | exact AVle.of rfl | refine AVle.of ?_ | skip))
  ·simp at h; omega
end Go.Proofs.YtdoidahbimonhaaDoor

namespace Go.Proofs.YtdoidahbimonhaaDoor
open Go Go.V
section
variable {ts:List (List UInt8)}
theorem text_len {rows:List (List UInt8)} {w:Nat} (h:SOk rows w):(textG rows).length ≤ 1353:=by
 have h1:=textG_length rows w h.row
 have h2:rows.length * (w + 1) ≤ 41 * 33:=Nat.mul_le_mul h.len (by have:=h.w32; omega)
 omega
end
end Go.Proofs.YtdoidahbimonhaaDoor

namespace Go.Proofs.YtdoidahbimonhaaDoor
open Go Go.V
attribute [local go_sem] Nat.reduceEqDiff Nat.reduceAdd Nat.reduceMul reduceIte Nat.reduceLeDiff Nat.reduceLT Nat.reduceBEq reduceCtorEq
theorem three_free {L:List (Int × Int)} (h:L.length ≤ 3):∀ S,Clos S → (∀ q,S q → icst q ∈ L) → ∀ p,¬ S p:=by
 intro S hc hS
 refine clos_three hc (L.map fun m => (m.1.toNat,m.2.toNat)) (by rw [List.length_map]; exact h) fun p hp => ?_
 exact List.mem_map.2 ⟨icst p,hS p hp,by unfold icst; simp⟩
end Go.Proofs.YtdoidahbimonhaaDoor

namespace Go.Proofs.YtdoidahbimonhaaDoor
open Go Go.V
abbrev o54_0:List Ins:=[⟨some 6,.mv (.k (.c (.bool false))),none,true⟩]
abbrev o54_1:List Ins:=[⟨some 7,.mv (.t 1),none,true⟩,
 ⟨some 8,.mv (.t 0),none,true⟩,
 ⟨some 9,.bin .leq (.t 7) (.t 8),none,true⟩,
 ⟨some 10,.mv (.t 9),none,true⟩,
 ⟨some 11,.mv (.t 0),(some (10,true)),true⟩,
 ⟨some 12,.mv (.t 2),(some (10,true)),true⟩,
 ⟨some 13,.bin .leq (.t 11) (.t 12),(some (10,true)),true⟩,
 ⟨some 14,.pick (.t 10) (.t 13) (.k (.c (.bool false))),none,true⟩,
 ⟨some 6,.mv (.t 14),none,true⟩]
abbrev v54_2:VC:=(.seq (.ops o54_1) .ret)
def ir54:FC:=⟨3,15,[.t 6],(.seq (.ops o54_0) v54_2)⟩
abbrev o29_0:List Ins:=[⟨some 2,.mv (.k (.c (.bool false))),none,true⟩]
abbrev o29_1:List Ins:=[⟨some 3,.mv (.t 0),none,true⟩,
 ⟨some 4,.call (.k (.fn 54 [])) [(.t 3),(.k (.c (.int .i64 0))),(.k (.c (.int .i64 99999)))],none,true⟩,
 ⟨some 2,.mv (.t 4),none,true⟩]
abbrev v29_2:VC:=(.seq (.ops o29_1) .ret)
def ir29:FC:=⟨1,5,[.t 2],(.seq (.ops o29_0) v29_2)⟩
abbrev o32_0:List Ins:=[⟨some 2,.box 8 (.t 0),none,true⟩,
 ⟨some 4,.mv (.k (.c (.bool false))),none,true⟩]
abbrev o32_1:List Ins:=[⟨some 5,.mv (.t 1),none,true⟩,
 ⟨some 6,.fa 0 (.t 2),none,true⟩,
 ⟨some 7,.fa 0 (.t 6),none,true⟩,
 ⟨some 8,.ld true 1 (.t 7),none,true⟩,
 ⟨some 9,.fa 0 (.t 2),none,true⟩,
 ⟨some 10,.fa 1 (.t 9),none,true⟩,
 ⟨some 11,.ld true 1 (.t 10),none,true⟩,
 ⟨some 12,.bin .mul (.t 8) (.t 11),none,true⟩,
 ⟨some 13,.bin .sub (.t 12) (.k (.c (.int .i64 1))),none,true⟩,
 ⟨some 14,.call (.k (.fn 54 [])) [(.t 5),(.k (.c (.int .i64 0))),(.t 13)],none,true⟩,
 ⟨some 4,.mv (.t 14),none,true⟩]
abbrev v32_2:VC:=(.seq (.ops o32_1) .ret)
def ir32:FC:=⟨2,15,[.t 4],(.seq (.ops o32_0) v32_2)⟩
abbrev o77_0:List Ins:=[⟨some 2,.box 8 (.t 0),none,true⟩,
 ⟨some 4,.mv (.k (.c (.int .i64 0))),none,true⟩]
abbrev o77_1:List Ins:=[⟨some 6,.mv (.t 1),none,true⟩,
 ⟨some 7,.fa 0 (.t 2),none,true⟩,
 ⟨some 8,.fa 5 (.t 7),none,true⟩,
 ⟨some 9,.ld true 1 (.t 8),none,true⟩,
 ⟨some 10,.bin .geq (.t 6) (.t 9),none,true⟩,
 ⟨some 5,.mv (.t 10),none,true⟩]
abbrev o77_2:List Ins:=[⟨some 4,.mv (.k (.c (.int .i64 3))),none,true⟩]
abbrev v77_3:VC:=(.seq (.ops o77_2) .ret)
abbrev o77_4:List Ins:=[⟨some 12,.mv (.t 1),none,true⟩,
 ⟨some 13,.fa 0 (.t 2),none,true⟩,
 ⟨some 14,.fa 4 (.t 13),none,true⟩,
 ⟨some 15,.ld true 1 (.t 14),none,true⟩,
 ⟨some 16,.bin .geq (.t 12) (.t 15),none,true⟩,
 ⟨some 11,.mv (.t 16),none,true⟩]
abbrev o77_5:List Ins:=[⟨some 4,.mv (.k (.c (.int .i64 2))),none,true⟩]
abbrev v77_6:VC:=(.seq (.ops o77_5) .ret)
abbrev o77_7:List Ins:=[⟨some 18,.mv (.t 1),none,true⟩,
 ⟨some 19,.fa 0 (.t 2),none,true⟩,
 ⟨some 20,.fa 2 (.t 19),none,true⟩,
 ⟨some 21,.ld true 1 (.t 20),none,true⟩,
 ⟨some 22,.fa 0 (.t 2),none,true⟩,
 ⟨some 23,.fa 3 (.t 22),none,true⟩,
 ⟨some 24,.ld true 1 (.t 23),none,true⟩,
 ⟨some 25,.bin .sub (.t 21) (.t 24),none,true⟩,
 ⟨some 26,.fa 0 (.t 2),none,true⟩,
 ⟨some 27,.fa 2 (.t 26),none,true⟩,
 ⟨some 28,.ld true 1 (.t 27),none,true⟩,
 ⟨some 29,.fa 0 (.t 2),none,true⟩,
 ⟨some 30,.fa 3 (.t 29),none,true⟩,
 ⟨some 31,.ld true 1 (.t 30),none,true⟩,
 ⟨some 32,.bin .add (.t 28) (.t 31),none,true⟩,
 ⟨some 33,.call (.k (.fn 54 [])) [(.t 18),(.t 25),(.t 32)],none,true⟩,
 ⟨some 17,.mv (.t 33),none,true⟩]
abbrev o77_8:List Ins:=[⟨some 4,.mv (.k (.c (.int .i64 1))),none,true⟩]
abbrev v77_9:VC:=(.seq (.ops o77_8) .ret)
abbrev v77_10:VC:=(.cond (.t 17) v77_9 .skip)
abbrev v77_11:VC:=(.seq (.ops o77_7) v77_10)
abbrev v77_12:VC:=(.cond (.t 11) v77_6 v77_11)
abbrev v77_13:VC:=(.seq (.ops o77_4) v77_12)
abbrev v77_14:VC:=(.cond (.t 5) v77_3 v77_13)
abbrev v77_15:VC:=(.seq (.ops o77_1) v77_14)
abbrev o77_16:List Ins:=[⟨some 4,.mv (.k (.c (.int .i64 0))),none,true⟩]
abbrev v77_17:VC:=(.seq (.ops o77_16) .ret)
abbrev v77_18:VC:=(.seq (.block 0 v77_15) v77_17)
def ir77:FC:=⟨2,34,[.t 4],(.seq (.ops o77_0) v77_18)⟩
theorem c54:compM Tryd.prog [] 54 = some ir54:=by kernel_rfl
theorem c29:compM Tryd.prog [] 29 = some ir29:=by kernel_rfl
theorem c32:compM Tryd.prog [] 32 = some ir32:=by kernel_rfl
theorem c77:compM Tryd.prog [] 77 = some ir77:=by kernel_rfl
attribute [local go_sem] Nat.reduceEqDiff Nat.reduceAdd Nat.reduceMul reduceIte Nat.reduceLeDiff Nat.reduceLT Nat.reduceBEq reduceCtorEq
structure Tr where
 le:Int
 nu:Int
 pi:Int
 sl:Int
 ga:Int
 pa:Int
 sp:Int
 ti:List Int
def isC (l:List Int):CD:=.sl 1 (l.map fun n => [.int .i64 n])
def Tr.cds (p:Tr):List CD:=[.int .i64 p.le,.int .i64 p.nu,.int .i64 p.pi,.int .i64 p.sl,.int .i64 p.ga,.int .i64 p.pa,.int .i64 p.sp,isC p.ti]
def Tr.avs (p:Tr):List AV:=[iv p.le,iv p.nu,iv p.pi,iv p.sl,iv p.ga,iv p.pa,iv p.sp,.c (isC p.ti)]
structure TrOk (p:Tr):Prop where
 le:1 ≤ p.le ∧ p.le ≤ 5
 nu:1 ≤ p.nu ∧ p.nu ≤ 5
 pi:1 ≤ p.pi ∧ p.pi ≤ 99
 sl:0 ≤ p.sl ∧ p.sl ≤ p.pi - 1
 pa:1 ≤ p.pa ∧ p.pa ≤ 999
 ga:p.pi + p.sl + 1 ≤ p.ga ∧ p.ga ≤ p.pa - 1
 sp:0 ≤ p.sp ∧ p.sp ≤ 3
 len:p.ti.length ≤ 24
 tm:∀ n ∈ p.ti,0 ≤ n ∧ n ≤ 99999
 up:p.ti.Pairwise (· < ·)
def inB (n a b:Int):Bool:=decide (a ≤ n) && decide (n ≤ b)
theorem within54 (n a b:Int):FSpec Tryd.prog 54 [iv n,iv a,iv b] (.c (.bool (inB n a b))):=by
 refine FSpec_of c54 (Nat.le_refl _) (by decide) fun C hP hN hC hL => ?_; rw [init_st]
 simp only [ir54]
 (repeat ((first | refine Va ?_ | refine Vb ?_ | refine Vc ?_ | refine Vd ?_ | refine Ve ?_ | refine Vf ?_); (try simp only [go_sem,hP]); (repeat refine qJ ?_)))
 (refine WV_ret ?_; simp only [thenQ,inQ,RetQ,RetOk,resAll,resA]; simp only [go_sem,tupA,AV.port,AV.portL,exists_eq_left']; (first | exact AVle.of rfl | refine AVle.of ?_ | skip))
theorem isTime29 (n:Int):FSpec Tryd.prog 29 [iv n] (.c (.bool (inB n 0 99999))):=by
 refine FSpec_of c29 (Nat.le_refl _) (by decide) fun C hP hN hC hL => ?_; rw [init_st]
 simp only [ir29]
 (repeat ((first | refine Va ?_ | refine Vb ?_ | refine Vc ?_ | refine Vd ?_ | refine Ve ?_ | refine Vf ?_); (try simp only [go_sem,hP]); (repeat refine qJ ?_)))
 (refine AS_pu (within54 n 0 99999) ?_; simp only [go_sem,hP]; (repeat refine qJ ?_); (repeat ((first | refine Va ?_ | refine Vb ?_ | refine Vc ?_ | refine Vd ?_ | refine Ve ?_ | refine Vf ?_); (try simp only [go_sem,hP]); (repeat refine qJ ?_))))
 (refine WV_ret ?_; simp only [thenQ,inQ,RetQ,RetOk,resAll,resA]; simp only [go_sem,tupA,AV.port,AV.portL,exists_eq_left']; (first | exact AVle.of rfl | refine AVle.of ?_ | skip))
theorem mul5 {a b:Int} (ha:1 ≤ a ∧ a ≤ 5) (hb:1 ≤ b ∧ b ≤ 5):1 ≤ a * b ∧ a * b ≤ 25:=by
 obtain ⟨a1,a2⟩:=ha
 obtain ⟨b1,b2⟩:=hb
 have h1:a = 1 ∨ a = 2 ∨ a = 3 ∨ a = 4 ∨ a = 5:=by omega
 rcases h1 with rfl | rfl | rfl | rfl | rfl <;> omega
theorem isSel32 {p:Tr} (hp:TrOk p) (n:Int):FSpec Tryd.prog 32 [.agg p.avs,iv n] (.c (.bool (inB n 0 (p.le * p.nu - 1)))):=by
 have hm:=mul5 hp.le hp.nu
 have w1:=w64 (n:=p.le * p.nu) (by omega) (by omega)
 have w2:=w64 (n:=p.le * p.nu - 1) (by omega) (by omega)
 refine FSpec_of c32 (Nat.le_refl _) (by decide) fun C hP hN hC hL => ?_; rw [init_st]
 simp only [ir32,Tr.avs]
 (repeat ((first | refine Va ?_ | refine Vb ?_ | refine Vc ?_ | refine Vd ?_ | refine Ve ?_ | refine Vf ?_); (try simp only [go_sem,hP,w1,w2]); (repeat refine qJ ?_)))
 (refine AS_pu (within54 n 0 (p.le * p.nu - 1)) ?_; simp only [go_sem,hP]; (repeat refine qJ ?_); (repeat ((first | refine Va ?_ | refine Vb ?_ | refine Vc ?_ | refine Vd ?_ | refine Ve ?_ | refine Vf ?_); (try simp only [go_sem,hP]); (repeat refine qJ ?_))))
 (refine WV_ret ?_; simp only [thenQ,inQ,RetQ,RetOk,resAll,resA]; simp only [go_sem,tupA,AV.port,AV.portL,exists_eq_left']; (first | exact AVle.of rfl | refine AVle.of ?_ | skip))
def saysT (p:Tr) (d:Int):Int:=if p.pa ≤ d then 3 else if p.ga ≤ d then 2 else if inB d (p.pi - p.sl) (p.pi + p.sl) = true then 1 else 0
theorem says77 {p:Tr} (hp:TrOk p) (d:Int):FSpec Tryd.prog 77 [.agg p.avs,iv d] (iv (saysT p d)):=by
 have h1:=hp.pi
 have h2:=hp.sl
 have w1:=w64 (n:=p.pi - p.sl) (by omega) (by omega)
 have w2:=w64 (n:=p.pi + p.sl) (by omega) (by omega)
 refine FSpec_of c77 (Nat.le_refl _) (by decide) fun C hP hN hC hL => ?_; rw [init_st]
 simp only [ir77,Tr.avs]
 (repeat ((first | refine Va ?_ | refine Vb ?_ | refine Vc ?_ | refine Vd ?_ | refine Ve ?_ | refine Vf ?_); (try simp only [go_sem,hP]); (repeat refine qJ ?_)))
 by_cases a1:p.pa ≤ d
 ·have hs:saysT p d = 3:=by unfold saysT; rw [if_pos a1]
  rw [hs]
  (refine WV_cond rfl (fun h => ?_) (fun h => ?_))
  ·(repeat ((first | refine Va ?_ | refine Vb ?_ | refine Vc ?_ | refine Vd ?_ | refine Ve ?_ | refine Vf ?_); (try simp only [go_sem,hP]); (repeat refine qJ ?_)))
   (refine WV_ret ?_; simp only [thenQ,inQ,RetQ,RetOk,resAll,resA]; simp only [go_sem,tupA,AV.port,AV.portL,exists_eq_left']; (first | exact AVle.of rfl | refine AVle.of ?_ | skip))
  ·simp at h; omega
 ·(refine WV_cond rfl (fun h => ?_) (fun h => ?_))
  ·simp at h; omega
  (repeat ((first | refine Va ?_ | refine Vb ?_ | refine Vc ?_ | refine Vd ?_ | refine Ve ?_ | refine Vf ?_); (try simp only [go_sem,hP]); (repeat refine qJ ?_)))
  by_cases a2:p.ga ≤ d
  ·have hs:saysT p d = 2:=by unfold saysT; rw [if_neg a1,if_pos a2]
   rw [hs]
   (refine WV_cond rfl (fun h => ?_) (fun h => ?_))
   ·(repeat ((first | refine Va ?_ | refine Vb ?_ | refine Vc ?_ | refine Vd ?_ | refine Ve ?_ | refine Vf ?_); (try simp only [go_sem,hP]); (repeat refine qJ ?_)))
    (refine WV_ret ?_; simp only [thenQ,inQ,RetQ,RetOk,resAll,resA]; simp only [go_sem,tupA,AV.port,AV.portL,exists_eq_left']; (first | exact AVle.of rfl | refine AVle.of ?_ | skip))
   ·simp at h; omega
  ·(refine WV_cond rfl (fun h => ?_) (fun h => ?_))
   ·simp at h; omega
   (repeat ((first | refine Va ?_ | refine Vb ?_ | refine Vc ?_ | refine Vd ?_ | refine Ve ?_ | refine Vf ?_); (try simp only [go_sem,hP,w1,w2]); (repeat refine qJ ?_)))
   (refine AS_pu (within54 d (p.pi - p.sl) (p.pi + p.sl)) ?_; simp only [go_sem,hP,w1,w2]; (repeat refine qJ ?_); (repeat ((first | refine Va ?_ | refine Vb ?_ | refine Vc ?_ | refine Vd ?_ | refine Ve ?_ | refine Vf ?_); (try simp only [go_sem,hP,w1,w2]); (repeat refine qJ ?_))))
   by_cases a3:inB d (p.pi - p.sl) (p.pi + p.sl) = true
   ·have hs:saysT p d = 1:=by unfold saysT; rw [if_neg a1,if_neg a2,if_pos a3]
    rw [hs,a3]
    (refine WV_cond rfl (fun h => ?_) (fun h => ?_))
    ·(repeat ((first | refine Va ?_ | refine Vb ?_ | refine Vc ?_ | refine Vd ?_ | refine Ve ?_ | refine Vf ?_); (try simp only [go_sem,hP]); (repeat refine qJ ?_)))
     (refine WV_ret ?_; simp only [thenQ,inQ,RetQ,RetOk,resAll,resA]; simp only [go_sem,tupA,AV.port,AV.portL,exists_eq_left']; (first | exact AVle.of rfl | refine AVle.of ?_ | skip))
    ·simp at h
   ·have hs:saysT p d = 0:=by unfold saysT; rw [if_neg a1,if_neg a2,if_neg a3]
    have a3:inB d (p.pi - p.sl) (p.pi + p.sl) = false:=by simpa using a3
    rw [hs,a3]
    (refine WV_cond rfl (fun h => ?_) (fun h => ?_))
    ·simp at h
    ·(repeat ((first | refine Va ?_ | refine Vb ?_ | refine Vc ?_ | refine Vd ?_ | refine Ve ?_ | refine Vf ?_); (try simp only [go_sem,hP]); (repeat refine qJ ?_)))
     (refine WV_ret ?_; simp only [thenQ,inQ,RetQ,RetOk,resAll,resA]; simp only [go_sem,tupA,AV.port,AV.portL,exists_eq_left']; (first | exact AVle.of rfl | refine AVle.of ?_ | skip))
end Go.Proofs.YtdoidahbimonhaaDoor

namespace Go.Proofs.YtdoidahbimonhaaDoor
open Go Go.V
abbrev o76_0:List Ins:=[⟨some 3,.mv (.k (.c (.bool false))),none,true⟩]
abbrev o76_1:List Ins:=[⟨some 4,.ld true 1 (.t 0),none,true⟩,
 ⟨some 5,.fa 0 (.t 1),none,true⟩,
 ⟨some 6,.ld true 1 (.t 5),none,true⟩,
 ⟨some 7,.bin .sub (.t 6) (.k (.c (.int .i64 1))),none,true⟩,
 ⟨some 8,.fa 0 (.t 2),none,true⟩,
 ⟨some 9,.fa 1 (.t 8),none,true⟩,
 ⟨some 10,.ld true 1 (.t 9),none,true⟩,
 ⟨some 11,.bin .mul (.t 7) (.t 10),none,true⟩,
 ⟨some 12,.fa 1 (.t 1),none,true⟩,
 ⟨some 13,.ld true 1 (.t 12),none,true⟩,
 ⟨some 14,.bin .add (.t 11) (.t 13),none,true⟩,
 ⟨some 15,.bin .sub (.t 14) (.k (.c (.int .i64 1))),none,true⟩,
 ⟨some 16,.bsl 3 1 [(.t 15)],none,true⟩,
 ⟨some 17,.app 3 1 8 (.t 4) (.t 16),none,true⟩,
 ⟨none,.st 1 (.t 0) (.t 17),none,true⟩]
abbrev o76_2:List Ins:=[⟨some 18,.fa 0 (.t 1),none,true⟩,
 ⟨some 19,.ld true 1 (.t 18),none,true⟩,
 ⟨some 20,.fa 0 (.t 2),none,true⟩,
 ⟨some 21,.fa 0 (.t 20),none,true⟩,
 ⟨some 22,.ld true 1 (.t 21),none,true⟩,
 ⟨some 23,.call (.k (.fn 54 [])) [(.t 19),(.k (.c (.int .i64 1))),(.t 22)],none,true⟩,
 ⟨some 24,.mv (.t 23),none,true⟩,
 ⟨some 25,.fa 1 (.t 1),(some (24,true)),true⟩,
 ⟨some 26,.ld true 1 (.t 25),(some (24,true)),true⟩,
 ⟨some 27,.fa 0 (.t 2),(some (24,true)),true⟩,
 ⟨some 28,.fa 1 (.t 27),(some (24,true)),true⟩,
 ⟨some 29,.ld true 1 (.t 28),(some (24,true)),true⟩,
 ⟨some 30,.call (.k (.fn 54 [])) [(.t 26),(.k (.c (.int .i64 1))),(.t 29)],(some (24,true)),true⟩,
 ⟨some 31,.pick (.t 24) (.t 30) (.k (.c (.bool false))),none,true⟩,
 ⟨some 3,.mv (.t 31),none,true⟩]
abbrev v76_3:VC:=(.seq (.ops o76_2) .ret)
abbrev v76_4:VC:=(.seq (.ops o76_1) v76_3)
def ir76:FC:=⟨3,32,[.t 3],(.seq (.ops o76_0) v76_4)⟩
theorem c76:compM Tryd.prog [] 76 = some ir76:=by kernel_rfl
attribute [local go_sem] Nat.reduceEqDiff Nat.reduceAdd Nat.reduceMul reduceIte Nat.reduceLeDiff Nat.reduceLT Nat.reduceBEq reduceCtorEq
def endN (p:Tr) (g:Int × Int):Int:=(g.1 - 1) * p.nu + g.2 - 1
def okE (p:Tr) (g:Int × Int):Bool:=inB g.1 1 p.le && inB g.2 1 p.nu
def isG (l:List Int):List (List CD):=l.map fun n => [CD.int .i64 n]
theorem isG_one (l:List Int):((isG l).all fun e => e.length == 1) = true:=by
 rw [List.all_eq_true]; intro e he; obtain ⟨n,_,rfl⟩:=List.mem_map.1 he; rfl
theorem isG_len (l:List Int):(isG l).length = l.length:=List.length_map _
theorem isG_snoc (l:List Int) (n:Int):isG (l ++ [n]) = isG l ++ [[.int .i64 n]]:=by simp [isG]
theorem mul99 {a b:Int} (ha:0 ≤ a ∧ a ≤ 99) (hb:1 ≤ b ∧ b ≤ 5):0 ≤ a * b ∧ a * b ≤ 495:=by
 obtain ⟨b1,b2⟩:=hb
 have h1:b = 1 ∨ b = 2 ∨ b = 3 ∨ b = 4 ∨ b = 5:=by omega
 rcases h1 with rfl | rfl | rfl | rfl | rfl <;> omega
set_option maxHeartbeats 4000000 in
theorem end76 {p:Tr} (hp:TrOk p) (l:List Int) (g:Int × Int) (hl:l.length ≤ 100) (h1:1 ≤ g.1 ∧ g.1 ≤ 99) (h2:0 ≤ g.2 ∧ g.2 ≤ 99):FSpecL Tryd.prog 76 [.bp 1000 0,.bp 1002 0,.bp 1003 0] [.box [.gr 1001],.grow 3 1 (isG l),.box [iv g.1,iv g.2],.box p.avs] [] (fun r l' => r = .c (.bool (okE p g)) ∧ l' = [.box [.gr 1001],.grow 3 1 (isG (l ++ [endN p g])),.box [iv g.1,iv g.2],.box p.avs]):=by
 have hm:=mul99 (a:=g.1 - 1) (by omega) hp.nu
 have w1:=w64 (n:=g.1 - 1) (by omega) (by omega)
 have w2:=w64 (n:=(g.1 - 1) * p.nu) (by omega) (by omega)
 have w3:=w64 (n:=(g.1 - 1) * p.nu + g.2) (by omega) (by omega)
 have w4:=w64 (n:=(g.1 - 1) * p.nu + g.2 - 1) (by omega) (by omega)
 have n1:=isG_one l
 have n2:=isG_len l
 have hmax:maxLen = 9223372036854775807:=rfl
 refine FSpecL_ofX c76 (by first | simp | exact Nat.le_of_ble_eq_true rfl) (Nat.le_refl _) (by decide) (by decide) fun C hP hN hC hpin hL => ?_; rw [init_env',ownW_upd (by first | simp | exact Nat.le_of_ble_eq_true rfl)]; simp only [ir76,updL,updLo,List.map_nil,List.map_cons,Nat.reduceAdd,]
 simp only [Tr.avs]
 (repeat ((first | refine Va ?_ | refine Vb ?_ | refine Vc ?_ | refine Vd ?_ | refine Ve ?_ | refine Vf ?_); (try simp only [go_sem,hP,w1,w2,w3,w4,n1,n2]); (repeat refine qJ ?_)))
 (refine AS_pu (within54 g.1 1 p.le) ?_; simp only [go_sem,hP]; (repeat refine qJ ?_); (repeat ((first | refine Va ?_ | refine Vb ?_ | refine Vc ?_ | refine Vd ?_ | refine Ve ?_ | refine Vf ?_); (try simp only [go_sem,hP]); (repeat refine qJ ?_))))
 (refine AG_pu (fun hG => within54 g.2 1 p.nu) ?_; simp only [go_sem,hP]; (repeat refine qJ ?_); (repeat ((first | refine Va ?_ | refine Vb ?_ | refine Vc ?_ | refine Vd ?_ | refine Ve ?_ | refine Vf ?_); (try simp only [go_sem,hP]); (repeat refine qJ ?_))))
 refine WV_keep [0,1,2,3] ?_
 simp only [go_sem]
 refine WV_moveP 17 1001 (by decide) (fun hq => by have h2:false = true:=hpin 1001 hq; cases h2) rfl ?_
 unfold rnO
 simp only [go_sem,rnP_upd,rnE_upd,rnE_e0,rnP_o0,AV.rn,AV.rnL,Ob.rn]
 rw [← isG_snoc]
 (refine WV_ret ?_; simp only [thenQ,inQ,RetQL,RetOkL,resAll,resA]; simp only [go_sem,tupA,AV.keepP,AV.keepPL]; refine ⟨_,[.box [.gr 1001],.grow 3 1 (isG (l ++ [endN p g])),.box [iv g.1,iv g.2],.box p.avs],rfl,KeepL_mk rfl rfl ?_ ?_ rfl,?_⟩)
 ·simp only [go_sem,keepAll,Ob.keepP,AV.keepP,AV.keepPL,Tr.avs]
  rfl
 ·simp only [go_sem,winAll]
 ·exact ⟨rfl,rfl⟩
def stepT (p:Tr) (d:Int) (x:List Int × Int × Int):Option (List Int × Int × Int) :=
 if saysT p d = 1 then (if 0 < x.2.2 then some (x.1,x.2.1,x.2.2 + 1) else some (x.1,x.2.1 + 1,x.2.2))
 else if saysT p d = 2 then (if 0 < x.2.2 then none else some (x.1,x.2.1,1))
 else if saysT p d = 3 then (if okE p x.2 = true then some (x.1 ++ [endN p x.2],1,0) else none) else none
def stT (p:Tr) (ts:List Int):Nat → Option (List Int × Int × Int)
 | 0 => some ([],0,0)
 | i + 1 => if i = 0 then some ([],1,0) else match stT p ts i with | none => none | some x => stepT p (ts.getD i 0 - ts.getD (i - 1) 0) x
def listT (p:Tr) (ts:List Int):Option (List Int):=match stT p ts ts.length with
 | none => none
 | some x => if ts.length = 0 then some [] else if okE p x.2 = true then some (x.1 ++ [endN p x.2]) else none
theorem stepT_ok {p:Tr} {d:Int} {x y:List Int × Int × Int} (h:stepT p d x = some y) {i:Nat} (h1:x.1.length ≤ i ∧ 1 ≤ x.2.1 ∧ x.2.1 ≤ i ∧ 0 ≤ x.2.2 ∧ x.2.2 ≤ i):y.1.length ≤ i + 1 ∧ 1 ≤ y.2.1 ∧ y.2.1 ≤ (i + 1:Nat) ∧ 0 ≤ y.2.2 ∧ y.2.2 ≤ (i + 1:Nat):=by
 unfold stepT at h
 split at h
 ·split at h <;> (simp only [Option.some.injEq] at h; subst h; simp only; omega)
 ·split at h
  ·split at h
   ·cases h
   ·simp only [Option.some.injEq] at h; subst h; simp only; omega
  ·split at h
   ·split at h
    ·simp only [Option.some.injEq] at h; subst h; simp only [List.length_append,List.length_cons,List.length_nil]; omega
    ·cases h
   ·cases h
theorem stT_ok {p:Tr} {ts:List Int}:∀ {i:Nat} {x:List Int × Int × Int},stT p ts (i + 1) = some x → x.1.length ≤ i + 1 ∧ 1 ≤ x.2.1 ∧ x.2.1 ≤ (i + 1:Nat) ∧ 0 ≤ x.2.2 ∧ x.2.2 ≤ (i + 1:Nat)
 | 0,x,h => by
  simp only [stT,if_true,Option.some.injEq] at h
  subst h; simp
 | i + 1,x,h => by
  unfold stT at h
  rw [if_neg (by omega)] at h
  split at h
  ·cases h
  ·rename_i y hy
   exact stepT_ok h (stT_ok hy)
theorem stT_none {p:Tr} {ts:List Int} {i:Nat} (hi:0 < i) (h:stT p ts i = none):∀ k,stT p ts (i + k) = none
 | 0 => h
 | k + 1 => by
  have:=stT_none hi h k
  rw [← Nat.add_assoc]
  unfold stT
  rw [if_neg (by omega),this]
def listV (r:Option (List Int)):AV:=.tup [.c (isC (r.getD [])),.c (.bool r.isSome)]
abbrev o60_0:List Ins:=[⟨some 2,.box 8 (.t 0),none,true⟩,
 ⟨some 4,.alloc [(.c (.raw (.slice none 0 0)))],none,true⟩,
 ⟨some 5,.mv (.k (.c (.bool false))),none,true⟩]
abbrev o60_1:List Ins:=[⟨some 6,.alloc [(.c (.int .i64 0)),(.c (.int .i64 0))],none,true⟩]
abbrev o60_2:List Ins:=[⟨some 10,.mkfn 76 [(.t 4),(.t 6),(.t 2)],none,true⟩,
 ⟨some 7,.mv (.t 10),none,true⟩]
abbrev o60_3:List Ins:=[⟨some 11,.mv (.t 1),none,true⟩,
 ⟨some 12,.len (.t 11),none,true⟩,
 ⟨some 13,.mv (.k (.c (.int .i64 0))),none,true⟩]
abbrev o60_4:List Ins:=[⟨some 14,.bin .lss (.t 13) (.t 12),none,true⟩]
abbrev o60_5:List Ins:=[⟨some 15,.mv (.t 13),none,true⟩,
 ⟨some 16,.ia 1 (.t 11) (.t 13),none,true⟩,
 ⟨some 17,.ld true 1 (.t 16),none,true⟩,
 ⟨some 8,.mv (.t 15),none,true⟩,
 ⟨some 9,.mv (.t 17),none,true⟩]
abbrev o60_6:List Ins:=[⟨some 18,.mv (.t 8),none,true⟩,
 ⟨some 19,.bin .eql (.t 18) (.k (.c (.int .i64 0))),none,true⟩]
abbrev o60_7:List Ins:=[⟨some 20,.bld [(.c (.int .i64 0)),(.c (.int .i64 0))] [(0,1,(.k (.c (.int .i64 1))))],none,true⟩,
 ⟨none,.st 2 (.t 6) (.t 20),none,true⟩]
abbrev v60_8:VC:=(.seq (.ops o60_7) (.exit 1))
abbrev v60_9:VC:=(.cond (.t 19) v60_8 .skip)
abbrev o60_10:List Ins:=[⟨some 21,.ld false 8 (.t 2),none,false⟩,
 ⟨some 22,.mv (.t 9),none,false⟩,
 ⟨some 23,.mv (.t 1),none,false⟩,
 ⟨some 24,.mv (.t 8),none,false⟩,
 ⟨some 25,.bin .sub (.t 24) (.k (.c (.int .i64 1))),none,false⟩,
 ⟨some 26,.ia 1 (.t 23) (.t 25),none,false⟩,
 ⟨some 27,.ld true 1 (.t 26),none,false⟩,
 ⟨some 28,.bin .sub (.t 22) (.t 27),none,false⟩,
 ⟨some 29,.call (.k (.fn 77 [])) [(.t 21),(.t 28)],none,true⟩]
abbrev o60_11:List Ins:=[⟨some 31,.bin .eql (.t 29) (.k (.c (.int .i64 1))),none,true⟩,
 ⟨some 30,.mv (.t 31),none,true⟩]
abbrev o60_12:List Ins:=[⟨some 32,.fa 1 (.t 6),none,true⟩,
 ⟨some 33,.ld true 1 (.t 32),none,true⟩,
 ⟨some 34,.bin .gtr (.t 33) (.k (.c (.int .i64 0))),none,true⟩]
abbrev o60_13:List Ins:=[⟨some 35,.fa 1 (.t 6),none,true⟩,
 ⟨some 36,.ld true 1 (.t 35),none,true⟩,
 ⟨some 37,.bin .add (.t 36) (.k (.c (.int .i64 1))),none,true⟩,
 ⟨some 38,.fa 1 (.t 6),none,true⟩,
 ⟨none,.st 1 (.t 38) (.t 37),none,true⟩]
abbrev o60_14:List Ins:=[⟨some 39,.fa 0 (.t 6),none,true⟩,
 ⟨some 40,.ld true 1 (.t 39),none,true⟩,
 ⟨some 41,.bin .add (.t 40) (.k (.c (.int .i64 1))),none,true⟩,
 ⟨some 42,.fa 0 (.t 6),none,true⟩,
 ⟨none,.st 1 (.t 42) (.t 41),none,true⟩]
abbrev v60_15:VC:=(.cond (.t 34) (.ops o60_13) (.ops o60_14))
abbrev v60_16:VC:=(.seq (.ops o60_12) v60_15)
abbrev o60_17:List Ins:=[⟨some 44,.bin .eql (.t 29) (.k (.c (.int .i64 2))),none,true⟩,
 ⟨some 43,.mv (.t 44),none,true⟩]
abbrev o60_18:List Ins:=[⟨some 45,.fa 1 (.t 6),none,true⟩,
 ⟨some 46,.ld true 1 (.t 45),none,true⟩,
 ⟨some 47,.bin .gtr (.t 46) (.k (.c (.int .i64 0))),none,true⟩]
abbrev o60_19:List Ins:=[⟨none,.st 1 (.t 4) (.k (.c (.raw (.slice none 0 0)))),none,true⟩,
 ⟨some 5,.mv (.k (.c (.bool false))),none,true⟩]
abbrev v60_20:VC:=(.seq (.ops o60_19) .ret)
abbrev v60_21:VC:=(.cond (.t 47) v60_20 .skip)
abbrev o60_22:List Ins:=[⟨some 48,.fa 1 (.t 6),none,true⟩,
 ⟨none,.st 1 (.t 48) (.k (.c (.int .i64 1))),none,true⟩]
abbrev v60_23:VC:=(.seq (.seq (.ops o60_18) v60_21) (.ops o60_22))
abbrev o60_24:List Ins:=[⟨some 50,.bin .eql (.t 29) (.k (.c (.int .i64 3))),none,true⟩,
 ⟨some 49,.mv (.t 50),none,true⟩]
abbrev o60_25:List Ins:=[⟨some 51,.mv (.t 7),none,true⟩,
 ⟨some 52,.call (.t 51) [],none,true⟩,
 ⟨some 53,.un .not (.t 52),none,true⟩]
abbrev o60_26:List Ins:=[⟨none,.st 1 (.t 4) (.k (.c (.raw (.slice none 0 0)))),none,true⟩,
 ⟨some 5,.mv (.k (.c (.bool false))),none,true⟩]
abbrev v60_27:VC:=(.seq (.ops o60_26) .ret)
abbrev v60_28:VC:=(.cond (.t 53) v60_27 .skip)
abbrev o60_29:List Ins:=[⟨some 54,.bld [(.c (.int .i64 0)),(.c (.int .i64 0))] [(0,1,(.k (.c (.int .i64 1))))],none,true⟩,
 ⟨none,.st 2 (.t 6) (.t 54),none,true⟩]
abbrev v60_30:VC:=(.seq (.seq (.ops o60_25) v60_28) (.ops o60_29))
abbrev o60_31:List Ins:=[⟨none,.st 1 (.t 4) (.k (.c (.raw (.slice none 0 0)))),none,true⟩,
 ⟨some 5,.mv (.k (.c (.bool false))),none,true⟩]
abbrev v60_32:VC:=(.seq (.ops o60_31) .ret)
abbrev v60_33:VC:=(.cond (.t 49) v60_30 v60_32)
abbrev v60_34:VC:=(.seq (.ops o60_24) v60_33)
abbrev v60_35:VC:=(.cond (.t 43) v60_23 v60_34)
abbrev v60_36:VC:=(.seq (.ops o60_17) v60_35)
abbrev v60_37:VC:=(.cond (.t 30) v60_16 v60_36)
abbrev v60_38:VC:=(.seq (.ops o60_11) v60_37)
abbrev v60_39:VC:=(.block 2 v60_38)
abbrev v60_40:VC:=(.seq (.dops o60_10) v60_39)
abbrev v60_41:VC:=(.seq (.seq (.ops o60_6) v60_9) v60_40)
abbrev v60_42:VC:=(.seq (.ops o60_5) v60_41)
abbrev o60_43:List Ins:=[⟨some 55,.bin .add (.t 13) (.k (.c (.int .i64 1))),none,true⟩,
 ⟨some 13,.mv (.t 55),none,true⟩]
abbrev v60_44:VC:=(.seq (.block 1 v60_42) (.ops o60_43))
abbrev v60_45:VC:=(.seq (.cond (.t 14) .skip (.exit 0)) v60_44)
abbrev v60_46:VC:=(.seq (.ops o60_4) v60_45)
-- K60_1: changed and kept: [13]
abbrev v60_47:VC:=(.loop v60_46)
abbrev v60_48:VC:=(.block 0 v60_47)
abbrev o60_49:List Ins:=[⟨some 56,.mv (.t 1),none,true⟩,
 ⟨some 57,.len (.t 56),none,true⟩,
 ⟨some 58,.bin .gtr (.t 57) (.k (.c (.int .i64 0))),none,true⟩,
 ⟨some 59,.mv (.t 58),none,true⟩,
 ⟨some 60,.mv (.t 7),(some (59,true)),true⟩,
 ⟨some 61,.call (.t 60) [],(some (59,true)),true⟩,
 ⟨some 62,.un .not (.t 61),(some (59,true)),true⟩,
 ⟨some 63,.pick (.t 59) (.t 62) (.k (.c (.bool false))),none,true⟩]
abbrev o60_50:List Ins:=[⟨none,.st 1 (.t 4) (.k (.c (.raw (.slice none 0 0)))),none,true⟩,
 ⟨some 5,.mv (.k (.c (.bool false))),none,true⟩]
abbrev v60_51:VC:=(.seq (.ops o60_50) .ret)
abbrev v60_52:VC:=(.cond (.t 63) v60_51 .skip)
abbrev o60_53:List Ins:=[⟨some 64,.ld true 1 (.t 4),none,true⟩,
 ⟨none,.st 1 (.t 4) (.t 64),none,true⟩,
 ⟨some 5,.mv (.k (.c (.bool true))),none,true⟩]
abbrev v60_54:VC:=(.seq (.ops o60_53) .ret)
abbrev v60_55:VC:=(.seq (.seq (.ops o60_49) v60_52) v60_54)
abbrev v60_56:VC:=(.seq (.seq (.ops o60_3) v60_48) v60_55)
abbrev v60_57:VC:=(.seq (.ops o60_2) v60_56)
abbrev v60_58:VC:=(.seq (.ops o60_1) v60_57)
def ir60:FC:=⟨2,65,[.cell 4 true 1,.t 5],(.seq (.ops o60_0) v60_58)⟩
theorem c60:compM Tryd.prog [] 60 = some ir60:=by kernel_rfl
set_option maxRecDepth 20000 in
set_option maxHeartbeats 16000000 in
theorem list60 {p:Tr} (hp:TrOk p) (ts:List Int) (hl:ts.length ≤ 40) (ht:∀ n ∈ ts,0 ≤ n ∧ n ≤ 99999):FSpec Tryd.prog 60 [.agg p.avs,.c (isC ts)] (listV (listT p ts)):=by
 have hmax:maxLen = 9223372036854775807:=rfl
 refine FSpec_of c60 (Nat.le_refl _) (by decide) fun C hP hN hC hL => ?_; rw [init_st]
 simp only [ir60,Tr.avs,isC]
 (repeat ((first | refine Va ?_ | refine Vb ?_ | refine Vc ?_ | refine Vd ?_ | refine Ve ?_ | refine Vf ?_); (try simp only [go_sem,hP]); (repeat refine qJ ?_)))
 refine WV_nilbox 4 0 31 3 1 (by decide) (by decide) (by decide) rfl rfl rfl ?_
 simp only [go_sem]
 obtain ⟨PV,hPV⟩ : ∃ PV,PV = p.avs:=⟨_,rfl⟩
 refine WV_loopS (fun q:Nat × (List Int × Int × Int) => ⟨upd (upd (upd (upd (upd (upd (upd (upd e0 1 (.c (.sl 1 (ts.map fun n => [.int .i64 n])))) 2 (.bp 2 0)) 4 (.bp 4 0)) 6 (.bp 6 0)) 7 (.fn 76 [.bp 4 0,.bp 6 0,.bp 2 0])) 11 (.c (.sl 1 (ts.map fun n => [.int .i64 n])))) 12 (iv ts.length)) 13 (iv q.1),upd (upd (upd (upd o0 2 (.box p.avs)) 4 (.box [.gr 31])) 31 (.grow 3 1 (isG q.2.1))) 6 (.box [iv q.2.2.1,iv q.2.2.2])⟩) (fun q => q.1 ≤ ts.length ∧ stT p ts q.1 = some q.2) (fun q => ts.length - q.1) (0,[],0,0) ⟨Nat.zero_le _,rfl⟩ ?_ ?_
 ·(refine Sub_of (by simp only [go_sem]; ((repeat' (first | exact EnvLe_e0 _ _ | refine EnvLe_upd ?_ ?_)) <;> ((try simp only [upd_app,e0_app,o0_app,Nat.reduceEqDiff,reduceIte]); first | exact AWk.refl _ _ | exact AWk.int (by omega) | exact AWk.int (by rw [w64 (by omega) (by omega)]; omega) | exact AWk.grow rfl | exact AWk.nil _ | exact AWk.of (by simp [isG,Tr.avs,isC])))) (by simp only [go_sem]; exact ObjLe_au))
 rintro ⟨i,out,ga,gb⟩ ⟨hi0,hst⟩
 simp only at hi0 hst ⊢
 (repeat ((first | refine Va ?_ | refine Vb ?_ | refine Vc ?_ | refine Vd ?_ | refine Ve ?_ | refine Vf ?_); (try simp only [go_sem,hP]); (repeat refine qJ ?_)))
 (refine WV_cond rfl (fun h => ?_) (fun h => ?_))
 ·have hi:i < ts.length:=by simpa using h
  have hw2:=w64 (n:=(i:Int) + 1) (by omega) (by omega)
  have hgd:(ts.map fun n => [CD.int .i64 n]).getD i [] = [.int .i64 ts[i]]:=map_getD hi
  (refine WV_skip ?_; simp only [go_sem])
  refine WV_seq_ (WV_block (WV_seq_ ?_))
  (refine WV_op ?_; simp only [go_sem,hP,hgd,List.length_map,Int.toNat_natCast,Int.ofNat_lt,hi,Int.natCast_nonneg]; (repeat refine qJ ?_))
  refine WV_seq_ (WV_seq_ ?_)
  (refine WV_op ?_; simp only [go_sem,hP]; (repeat refine qJ ?_))
  by_cases hz:i = 0
  ·subst hz
   (refine WV_cond rfl (fun h => ?_) (fun h => ?_))
   ·(repeat ((first | refine Va ?_ | refine Vb ?_ | refine Vc ?_ | refine Vd ?_ | refine Ve ?_ | refine Vf ?_); (try simp only [go_sem,hP,hw2]); (repeat refine qJ ?_)))
    simp only [stT,Option.some.injEq,Prod.mk.injEq] at hst
    obtain ⟨rfl,rfl,rfl⟩:=hst
    refine ⟨(1,[],1,0),⟨by simp only; omega,rfl⟩,by simp only; omega,?_⟩
    exact Sub_au
   ·simp at h
  ·have hi1:i - 1 < ts.length:=by omega
   have hgp:(ts.map fun n => [CD.int .i64 n]).getD (i - 1) [] = [.int .i64 ts[i - 1]]:=map_getD hi1
   have hm1:=ht _ (List.getElem_mem hi)
   have hm2:=ht _ (List.getElem_mem hi1)
   have hx1:ts.getD i 0 = ts[i]:=by rw [List.getD_eq_getElem?_getD,List.getElem?_eq_getElem hi]; rfl
   have hx2:ts.getD (i - 1) 0 = ts[i - 1]:=by rw [List.getD_eq_getElem?_getD,List.getElem?_eq_getElem hi1]; rfl
   have hn:stT p ts (i + 1) = stepT p (ts[i] - ts[i - 1]) (out,ga,gb):=by
    conv => lhs; unfold stT
    rw [if_neg hz,hst,hx1,hx2]
   obtain ⟨j,rfl⟩ : ∃ j,i = j + 1:=⟨i - 1,by omega⟩
   obtain ⟨b1,b2,b3,b4,b5⟩:=stT_ok hst
   simp only at b1 b2 b3 b4 b5
   have hfail:stT p ts (j + 1 + 1) = none → listT p ts = none:=fun h => by
    unfold listT
    have:=stT_none (by omega) h (ts.length - (j + 1 + 1))
    rw [show j + 1 + 1 + (ts.length - (j + 1 + 1)) = ts.length by omega] at this
    rw [this]
   clear hgd hx1 hx2
   have hgd:(ts.map fun n => [CD.int .i64 n]).getD (j + 1) [] = [.int .i64 ts[j + 1]]:=map_getD hi
   generalize ts[j + 1] = a at hgd hm1 hn
   generalize ts[j + 1 - 1] = b at hgp hm2 hn
   have wd:=w64 (n:=a - b) (by omega) (by omega)
   have wi:=w64 (n:=((j + 1:Nat):Int) - 1) (by omega) (by omega)
   have ei:(((j + 1:Nat):Int) - 1).toNat = j + 1 - 1:=by omega
   have ew1:=w64 (n:=ga + 1) (by omega) (by omega)
   have ew2:=w64 (n:=gb + 1) (by omega) (by omega)
   have hsy:=says77 hp (a - b)
   have hend:=end76 hp out (ga,gb) (by omega) (by simp only; omega) (by simp only; omega)
   (refine WV_cond rfl (fun h => ?_) (fun h => ?_))
   ·simp at h
    omega
   (refine WV_skip ?_; simp only [go_sem])
   refine WV_seq_ ?_
   (refine WV_op ?_; simp only [go_sem,hP,hgp,List.length_map,Int.toNat_natCast,Int.ofNat_lt,hi,hi1,Int.natCast_nonneg,wd,wi,ei,Tr.avs]; (repeat refine qJ ?_))
   refine AS_pu hsy ?_
   simp only [go_sem,hP]
   (repeat refine qJ ?_)
   have hsv:stepT p (a - b) (out,ga,gb) = if saysT p (a - b) = 1 then (if 0 < gb then some (out,ga,gb + 1) else some (out,ga + 1,gb)) else if saysT p (a - b) = 2 then (if 0 < gb then none else some (out,ga,1)) else if saysT p (a - b) = 3 then (if okE p (ga,gb) = true then some (out ++ [endN p (ga,gb)],1,0) else none) else none:=rfl
   rw [hsv] at hn
   generalize saysT p (a - b) = sv at hn
   (repeat ((first | refine Va ?_ | refine Vb ?_ | refine Vc ?_ | refine Vd ?_ | refine Ve ?_ | refine Vf ?_); (try simp only [go_sem,hP]); (repeat refine qJ ?_)))
   by_cases s1:sv = 1
   ·rw [if_pos s1] at hn
    subst s1
    (refine WV_cond rfl (fun h => ?_) (fun h => ?_))
    ·(repeat ((first | refine Va ?_ | refine Vb ?_ | refine Vc ?_ | refine Vd ?_ | refine Ve ?_ | refine Vf ?_); (try simp only [go_sem,hP]); (repeat refine qJ ?_)))
     by_cases hg:0 < gb
     ·rw [if_pos hg] at hn
      (refine WV_cond rfl (fun h => ?_) (fun h => ?_))
      ·(repeat ((first | refine Va ?_ | refine Vb ?_ | refine Vc ?_ | refine Vd ?_ | refine Ve ?_ | refine Vf ?_); (try simp only [go_sem,hP,ew2,hw2]); (repeat refine qJ ?_)))
       refine ⟨(j + 1 + 1,out,ga,gb + 1),⟨by simp only; omega,hn⟩,by simp only; omega,?_⟩
       exact Sub_au
      ·simp at h; omega
     ·rw [if_neg hg] at hn
      (refine WV_cond rfl (fun h => ?_) (fun h => ?_))
      ·simp at h; omega
      ·(repeat ((first | refine Va ?_ | refine Vb ?_ | refine Vc ?_ | refine Vd ?_ | refine Ve ?_ | refine Vf ?_); (try simp only [go_sem,hP,ew1,hw2]); (repeat refine qJ ?_)))
       refine ⟨(j + 1 + 1,out,ga + 1,gb),⟨by simp only; omega,hn⟩,by simp only; omega,?_⟩
       exact Sub_au
    ·simp at h
   rw [if_neg s1] at hn
   (refine WV_cond rfl (fun h => ?_) (fun h => ?_))
   ·simp at h; exact (s1 h).elim
   (repeat ((first | refine Va ?_ | refine Vb ?_ | refine Vc ?_ | refine Vd ?_ | refine Ve ?_ | refine Vf ?_); (try simp only [go_sem,hP]); (repeat refine qJ ?_)))
   by_cases s2:sv = 2
   ·rw [if_pos s2] at hn
    subst s2
    (refine WV_cond rfl (fun h => ?_) (fun h => ?_))
    ·(repeat ((first | refine Va ?_ | refine Vb ?_ | refine Vc ?_ | refine Vd ?_ | refine Ve ?_ | refine Vf ?_); (try simp only [go_sem,hP]); (repeat refine qJ ?_)))
     by_cases hg:0 < gb
     ·rw [if_pos hg] at hn
      rw [hfail hn]
      (refine WV_cond rfl (fun h => ?_) (fun h => ?_))
      ·(repeat ((first | refine Va ?_ | refine Vb ?_ | refine Vc ?_ | refine Vd ?_ | refine Ve ?_ | refine Vf ?_); (try simp only [go_sem,hP]); (repeat refine qJ ?_)))
       (refine WV_ret ?_; simp only [thenQ,inQ,RetQ,RetOk,resAll,resA]; simp only [go_sem,tupA,AV.port,AV.portL,exists_eq_left'])
       exact AVle.tup ⟨_,_,rfl,AVle.nil 1,_,_,rfl,AVle.refl _,rfl⟩
      ·simp at h; omega
     ·rw [if_neg hg] at hn
      (refine WV_cond rfl (fun h => ?_) (fun h => ?_))
      ·simp at h; omega
      ·(repeat ((first | refine Va ?_ | refine Vb ?_ | refine Vc ?_ | refine Vd ?_ | refine Ve ?_ | refine Vf ?_); (try simp only [go_sem,hP,hw2]); (repeat refine qJ ?_)))
       refine ⟨(j + 1 + 1,out,ga,1),⟨by simp only; omega,hn⟩,by simp only; omega,?_⟩
       exact Sub_au
    ·simp at h
   rw [if_neg s2] at hn
   (refine WV_cond rfl (fun h => ?_) (fun h => ?_))
   ·simp at h; exact (s2 h).elim
   (repeat ((first | refine Va ?_ | refine Vb ?_ | refine Vc ?_ | refine Vd ?_ | refine Ve ?_ | refine Vf ?_); (try simp only [go_sem,hP]); (repeat refine qJ ?_)))
   by_cases s3:sv = 3
   ·rw [if_pos s3] at hn
    subst s3
    (refine WV_cond rfl (fun h => ?_) (fun h => ?_))
    ·(repeat ((first | refine Va ?_ | refine Vb ?_ | refine Vc ?_ | refine Vd ?_ | refine Ve ?_ | refine Vf ?_); (try simp only [go_sem,hP]); (repeat refine qJ ?_)))
     (refine AS_lend [4,31,6,2] (hend) rfl rfl rfl (by decide) rfl (by simp only [go_sem,obsLend,Ob.lend,AV.lend,AV.lendL,Tr.avs]) ?_)
     rintro r l' ⟨rfl,rfl⟩
     (refine ⟨_,_,rfl,(by simp only [obsBack,Ob.back,AV.back,AV.backL,Tr.avs]; rfl),?_⟩; simp only [go_sem,hP,ownBack,Tr.avs])
     (repeat ((first | refine Va ?_ | refine Vb ?_ | refine Vc ?_ | refine Vd ?_ | refine Ve ?_ | refine Vf ?_); (try simp only [go_sem,hP]); (repeat refine qJ ?_)))
     by_cases hok:okE p (ga,gb) = true
     ·rw [if_pos hok] at hn
      rw [hok]
      (refine WV_cond rfl (fun h => ?_) (fun h => ?_))
      ·simp at h
      ·(repeat ((first | refine Va ?_ | refine Vb ?_ | refine Vc ?_ | refine Vd ?_ | refine Ve ?_ | refine Vf ?_); (try simp only [go_sem,hP,hw2]); (repeat refine qJ ?_)))
       refine ⟨(j + 1 + 1,out ++ [endN p (ga,gb)],1,0),⟨by simp only; omega,hn⟩,by simp only; omega,?_⟩
       exact Sub_au
     ·rw [if_neg hok] at hn
      have hok:okE p (ga,gb) = false:=by simpa using hok
      rw [hok,hfail hn]
      (refine WV_cond rfl (fun h => ?_) (fun h => ?_))
      ·(repeat ((first | refine Va ?_ | refine Vb ?_ | refine Vc ?_ | refine Vd ?_ | refine Ve ?_ | refine Vf ?_); (try simp only [go_sem,hP]); (repeat refine qJ ?_)))
       (refine WV_ret ?_; simp only [thenQ,inQ,RetQ,RetOk,resAll,resA]; simp only [go_sem,tupA,AV.port,AV.portL,exists_eq_left'])
       exact AVle.tup ⟨_,_,rfl,AVle.nil 1,_,_,rfl,AVle.refl _,rfl⟩
      ·simp at h
    ·simp at h
   rw [if_neg s3] at hn
   rw [hfail hn]
   (refine WV_cond rfl (fun h => ?_) (fun h => ?_))
   ·simp at h; exact (s3 h).elim
   (repeat ((first | refine Va ?_ | refine Vb ?_ | refine Vc ?_ | refine Vd ?_ | refine Ve ?_ | refine Vf ?_); (try simp only [go_sem,hP]); (repeat refine qJ ?_)))
   (refine WV_ret ?_; simp only [thenQ,inQ,RetQ,RetOk,resAll,resA]; simp only [go_sem,tupA,AV.port,AV.portL,exists_eq_left'])
   exact AVle.tup ⟨_,_,rfl,AVle.nil 1,_,_,rfl,AVle.refl _,rfl⟩
 ·have hi:i = ts.length:=by simp at h; omega
  subst hi
  refine WV_exit ?_
  simp only [thenQ,inQ,reduceIte,beq_self_eq_true]
  have hlt:listT p ts = if ts.length = 0 then some [] else if okE p (ga,gb) = true then some (out ++ [endN p (ga,gb)]) else none:=by
   unfold listT; rw [hst]
  by_cases h0:ts.length = 0
  ·rw [hlt,if_pos h0]
   rw [h0] at hst ⊢
   simp only [stT,Option.some.injEq,Prod.mk.injEq] at hst
   obtain ⟨rfl,rfl,rfl⟩:=hst
   have hd0:decide ((0:Int) < ((0:Nat):Int)) = false:=rfl
   (repeat ((first | refine Va ?_ | refine Vb ?_ | refine Vc ?_ | refine Vd ?_ | refine Ve ?_ | refine Vf ?_); (try simp only [go_sem,hP,List.length_map,h0,hd0]); (repeat refine qJ ?_)))
   (refine AG_skip ?_; simp only [go_sem,hP]; (repeat refine qJ ?_); (repeat ((first | refine Va ?_ | refine Vb ?_ | refine Vc ?_ | refine Vd ?_ | refine Ve ?_ | refine Vf ?_); (try simp only [go_sem,hP]); (repeat refine qJ ?_))))
   (refine WV_cond rfl (fun h => ?_) (fun h => ?_))
   ·simp at h
   (repeat ((first | refine Va ?_ | refine Vb ?_ | refine Vc ?_ | refine Vd ?_ | refine Ve ?_ | refine Vf ?_); (try simp only [go_sem,hP]); (repeat refine qJ ?_)))
   (refine WV_ret ?_; simp only [thenQ,inQ,RetQ,RetOk,resAll,resA]; simp only [go_sem,tupA,AV.port,AV.portL,exists_eq_left'])
   exact AVle.refl _
  ·rw [hlt,if_neg h0]
   have hpos:0 < ts.length:=by omega
   obtain ⟨j,hj⟩ : ∃ j,ts.length = j + 1:=⟨ts.length - 1,by omega⟩
   rw [hj] at hst
   obtain ⟨b1,b2,b3,b4,b5⟩:=stT_ok hst
   simp only at b1 b2 b3 b4 b5
   have hend:=end76 hp out (ga,gb) (by omega) (by simp only; omega) (by simp only; omega)
   have hd0:decide ((0:Int) < (ts.length:Int)) = true:=by rw [decide_eq_true_eq]; omega
   (repeat ((first | refine Va ?_ | refine Vb ?_ | refine Vc ?_ | refine Vd ?_ | refine Ve ?_ | refine Vf ?_); (try simp only [go_sem,hP,List.length_map,hd0]); (repeat refine qJ ?_)))
   refine .inr (.inr ?_)
   (refine AS_lend [4,31,6,2] (hend) rfl rfl rfl (by decide) rfl (by simp only [go_sem,obsLend,Ob.lend,AV.lend,AV.lendL,Tr.avs]) ?_)
   rintro r l' ⟨rfl,rfl⟩
   (refine ⟨_,_,rfl,(by simp only [obsBack,Ob.back,AV.back,AV.backL,Tr.avs]; rfl),?_⟩; simp only [go_sem,hP,ownBack,Tr.avs])
   (repeat ((first | refine Va ?_ | refine Vb ?_ | refine Vc ?_ | refine Vd ?_ | refine Ve ?_ | refine Vf ?_); (try simp only [go_sem,hP]); (repeat refine qJ ?_)))
   by_cases hok:okE p (ga,gb) = true
   ·rw [if_pos hok,hok]
    (refine WV_cond rfl (fun h => ?_) (fun h => ?_))
    ·simp at h
    ·(repeat ((first | refine Va ?_ | refine Vb ?_ | refine Vc ?_ | refine Vd ?_ | refine Ve ?_ | refine Vf ?_); (try simp only [go_sem,hP]); (repeat refine qJ ?_)))
     (refine WV_ret ?_; simp only [thenQ,inQ,RetQ,RetOk,resAll,resA]; simp only [go_sem,tupA,AV.port,AV.portL,exists_eq_left'])
     exact AVle.refl _
   ·rw [if_neg hok]
    have hok:okE p (ga,gb) = false:=by simpa using hok
    rw [hok]
    (refine WV_cond rfl (fun h => ?_) (fun h => ?_))
    ·(repeat ((first | refine Va ?_ | refine Vb ?_ | refine Vc ?_ | refine Vd ?_ | refine Ve ?_ | refine Vf ?_); (try simp only [go_sem,hP]); (repeat refine qJ ?_)))
     (refine WV_ret ?_; simp only [thenQ,inQ,RetQ,RetOk,resAll,resA]; simp only [go_sem,tupA,AV.port,AV.portL,exists_eq_left'])
     exact AVle.tup ⟨_,_,rfl,AVle.nil 1,_,_,rfl,AVle.refl _,rfl⟩
    ·simp at h
end Go.Proofs.YtdoidahbimonhaaDoor

namespace Go.Proofs.YtdoidahbimonhaaDoor
open Go Go.V
abbrev o59_0:List Ins:=[⟨some 4,.mv (.k (.c (.bool false))),none,true⟩]
abbrev o59_1:List Ins:=[⟨some 5,.mv (.t 0),none,true⟩,
 ⟨some 6,.mv (.t 1),none,true⟩,
 ⟨some 7,.bin .shr (.t 5) (.t 6),none,true⟩,
 ⟨some 8,.bin .and (.t 7) (.k (.c (.int .u64 1))),none,true⟩,
 ⟨some 9,.bin .eql (.t 8) (.k (.c (.int .u64 1))),none,true⟩,
 ⟨some 4,.mv (.t 9),none,true⟩]
abbrev v59_2:VC:=(.seq (.ops o59_1) .ret)
def ir59:FC:=⟨2,10,[.t 4],(.seq (.ops o59_0) v59_2)⟩
abbrev o58_0:List Ins:=[⟨some 4,.mv (.k (.c (.bool false))),none,true⟩]
abbrev o58_1:List Ins:=[⟨some 5,.mv (.k (.c (.raw (.slice none 0 0)))),none,true⟩]
abbrev o58_2:List Ins:=[⟨some 10,.fa 0 (.t 1),none,true⟩,
 ⟨some 11,.fa 7 (.t 10),none,true⟩,
 ⟨some 12,.ld true 1 (.t 11),none,true⟩,
 ⟨some 13,.len (.t 12),none,true⟩,
 ⟨some 14,.mv (.k (.c (.int .i64 0))),none,true⟩]
abbrev o58_3:List Ins:=[⟨some 15,.bin .lss (.t 14) (.t 13),none,true⟩]
abbrev o58_4:List Ins:=[⟨some 16,.mv (.t 14),none,true⟩,
 ⟨some 17,.ia 1 (.t 12) (.t 14),none,true⟩,
 ⟨some 18,.ld true 1 (.t 17),none,true⟩,
 ⟨some 6,.mv (.t 16),none,true⟩,
 ⟨some 7,.mv (.t 18),none,true⟩]
abbrev o58_5:List Ins:=[⟨some 19,.mv (.t 0),none,true⟩,
 ⟨some 20,.mv (.t 6),none,true⟩,
 ⟨some 21,.call (.k (.fn 59 [])) [(.t 19),(.t 20)],none,true⟩,
 ⟨some 22,.un .not (.t 21),none,true⟩]
abbrev o58_6:List Ins:=[⟨some 23,.mv (.t 5),none,true⟩,
 ⟨some 24,.mv (.t 7),none,true⟩,
 ⟨some 25,.bsl 3 1 [(.t 24)],none,true⟩,
 ⟨some 26,.app 3 1 8 (.t 23) (.t 25),none,true⟩,
 ⟨some 5,.mv (.t 26),none,true⟩]
abbrev v58_7:VC:=(.cond (.t 22) (.ops o58_6) .skip)
abbrev v58_8:VC:=(.seq (.ops o58_5) v58_7)
abbrev v58_9:VC:=(.seq (.ops o58_4) v58_8)
abbrev o58_10:List Ins:=[⟨some 27,.bin .add (.t 14) (.k (.c (.int .i64 1))),none,true⟩,
 ⟨some 14,.mv (.t 27),none,true⟩]
abbrev v58_11:VC:=(.seq (.block 1 v58_9) (.ops o58_10))
abbrev v58_12:VC:=(.seq (.cond (.t 15) .skip (.exit 0)) v58_11)
abbrev v58_13:VC:=(.seq (.ops o58_3) v58_12)
-- K58_1: changed and kept: [14,5]
abbrev v58_14:VC:=(.loop v58_13)
abbrev v58_15:VC:=(.block 0 v58_14)
abbrev o58_16:List Ins:=[⟨some 29,.ld false 8 (.t 1),none,true⟩,
 ⟨some 30,.mv (.t 5),none,true⟩,
 ⟨some 31,.call (.k (.fn 60 [])) [(.t 29),(.t 30)],none,true⟩,
 ⟨some 28,.mv (.t 31),none,true⟩,
 ⟨some 32,.ext (.t 28) 0,none,true⟩,
 ⟨some 33,.ext (.t 28) 1,none,true⟩,
 ⟨some 8,.mv (.t 32),none,true⟩,
 ⟨some 9,.mv (.t 33),none,true⟩]
abbrev o58_17:List Ins:=[⟨some 34,.mv (.t 9),none,true⟩,
 ⟨some 35,.un .not (.t 34),none,true⟩,
 ⟨some 36,.mv (.t 35),none,true⟩,
 ⟨some 37,.ld true 1 (.t 2),(some (36,false)),true⟩,
 ⟨some 38,.mv (.t 0),(some (36,false)),true⟩,
 ⟨some 39,.mv (.t 8),(some (36,false)),true⟩,
 ⟨some 40,.bld [(.c (.int .u64 0)),(.c (.raw (.slice none 0 0)))] [(0,1,(.t 38)),(1,1,(.t 39))],(some (36,false)),true⟩,
 ⟨some 41,.call (.t 37) [(.t 40)],(some (36,false)),true⟩,
 ⟨some 42,.pick (.t 36) (.k (.c (.bool true))) (.t 41),none,true⟩,
 ⟨some 4,.mv (.t 42),none,true⟩]
abbrev v58_18:VC:=(.seq (.ops o58_17) .ret)
abbrev v58_19:VC:=(.seq (.ops o58_16) v58_18)
abbrev v58_20:VC:=(.seq (.seq (.ops o58_2) v58_15) v58_19)
abbrev v58_21:VC:=(.seq (.ops o58_1) v58_20)
def ir58:FC:=⟨3,43,[.t 4],(.seq (.ops o58_0) v58_21)⟩
theorem c59:compM Tryd.prog [] 59 = some ir59:=by kernel_rfl
theorem c58:compM Tryd.prog [] 58 = some ir58:=by kernel_rfl
attribute [local go_sem] Nat.reduceEqDiff Nat.reduceAdd Nat.reduceMul reduceIte Nat.reduceLeDiff Nat.reduceLT Nat.reduceBEq reduceCtorEq
def hasS (s:Int) (k:Nat):Bool:=Go.bits .and .u64 (s / 2 ^ k) 1 == 1
theorem has59 (s:Int) (k:Nat) (hk:k ≤ 63):FSpec Tryd.prog 59 [.c (.int .u64 s),iv k] (.c (.bool (hasS s k))):=by
 have h1:(Go.IntKind.u64).bits = 64:=rfl
 refine FSpec_of c59 (Nat.le_refl _) (by decide) fun C hP hN hC hL => ?_; rw [init_st]
 simp only [ir59]
 (repeat ((first | refine Va ?_ | refine Vb ?_ | refine Vc ?_ | refine Vd ?_ | refine Ve ?_ | refine Vf ?_); (try simp only [go_sem,hP,h1,Int.toNat_natCast]); (repeat refine qJ ?_)))
 (refine WV_ret ?_; simp only [thenQ,inQ,RetQ,RetOk,resAll,resA]; simp only [go_sem,tupA,AV.port,AV.portL,exists_eq_left']; (first | exact AVle.of rfl | refine AVle.of ?_ | skip))
def leftK (ts:List Int) (s:Int):Nat → List Int
 | 0 => []
 | k + 1 => leftK ts s k ++ (if hasS s k = true then [] else [ts.getD k 0])
def leftT (ts:List Int) (s:Int):List Int:=leftK ts s ts.length
theorem leftK_len (ts:List Int) (s:Int):∀ k,(leftK ts s k).length ≤ k
 | 0 => Nat.le_refl _
 | k + 1 => by
  have:=leftK_len ts s k
  unfold leftK
  rw [List.length_append]
  split <;> simp <;> omega
theorem leftK_mem (ts:List Int) (s:Int):∀ k,k ≤ ts.length → ∀ n ∈ leftK ts s k,n ∈ ts
 | 0,_,n,h => by cases h
 | k + 1,hk,n,h => by
  unfold leftK at h
  rcases List.mem_append.1 h with h | h
  ·exact leftK_mem ts s k (by omega) n h
  ·split at h
   ·cases h
   ·rw [List.mem_singleton.1 h,List.getD_eq_getElem?_getD,List.getElem?_eq_getElem (by omega)]; exact List.getElem_mem _
def entR (s:Int) (l:List Int):Ent:=⟨[.agg [.c (.int .u64 s),.c (isC l)]],[],bv true⟩
def entsR (p:Tr) (s:Int):List Ent:=match listT p (leftT p.ti s) with | some l => [entR s l] | none => []
set_option maxRecDepth 20000 in
set_option maxHeartbeats 8000000 in
theorem yield58 {p:Tr} (hp:TrOk p) (g:Gst) (s:Int) (rem:List Ent):FSpecL Tryd.prog 58 [.c (.int .u64 s),.c (.pt p.cds),.c (.pt [.raw g.fv])] [.guest g (entsR p s ++ rem)] [] (fun r l' => r = bv true ∧ l' = [.guest g rem]):=by
 have hmax:maxLen = 9223372036854775807:=rfl
 have h24:=hp.len
 refine FSpecL_of c58 (by first | simp | exact Nat.le_of_ble_eq_true rfl) (Nat.le_refl _) (by decide) (by decide) fun C hP hN hC hL => ?_; rw [init_env',ownW_upd (by first | simp | exact Nat.le_of_ble_eq_true rfl)]; simp only [ir58,updL,updLo,List.map_nil,List.map_cons,Nat.reduceAdd,]
 simp only [Tr.cds,isC]
 (repeat ((first | refine Va ?_ | refine Vb ?_ | refine Vc ?_ | refine Vd ?_ | refine Ve ?_ | refine Vf ?_); (try simp only [go_sem,hP]); (repeat refine qJ ?_)))
 refine WV_nilslot 5 26 3 1 (by decide) (by decide) rfl rfl ?_
 simp only [go_sem]
 have hl:p.ti.length ≤ 24:=hp.len
 refine WV_loopS (fun k:Nat => ⟨upd (upd (upd (upd (upd (upd (upd e0 0 (.c (.int .u64 s))) 1 (.c (.pt p.cds))) 2 (.c (.pt [.raw g.fv]))) 5 (.gr 26)) 12 (.c (isC p.ti))) 13 (iv p.ti.length)) 14 (iv k),upd (upd o0 1000 (.guest g (entsR p s ++ rem))) 26 (.grow 3 1 (isG (leftK p.ti s k)))⟩) (fun k => k ≤ p.ti.length) (fun k => p.ti.length - k) 0 (Nat.zero_le _) ?_ ?_
 ·(refine Sub_of (by simp only [go_sem]; ((repeat' (first | exact EnvLe_e0 _ _ | refine EnvLe_upd ?_ ?_)) <;> ((try simp only [upd_app,e0_app,o0_app,Nat.reduceEqDiff,reduceIte]); first | exact AWk.refl _ _ | exact AWk.int (by omega) | exact AWk.int (by rw [w64 (by omega) (by omega)]; omega) | exact AWk.grow rfl | exact AWk.nil _ | exact AWk.of (by simp [isG,leftK,isC,Tr.cds])))) (by simp only [go_sem]; exact ObjLe_au))
 intro k hk
 (repeat ((first | refine Va ?_ | refine Vb ?_ | refine Vc ?_ | refine Vd ?_ | refine Ve ?_ | refine Vf ?_); (try simp only [go_sem,hP]); (repeat refine qJ ?_)))
 (refine WV_cond rfl (fun h => ?_) (fun h => ?_))
 ·have hi:k < p.ti.length:=by simpa using h
  have hw:=w64 (n:=(k:Int) + 1) (by omega) (by omega)
  have hgd:(p.ti.map fun n => [CD.int .i64 n]).getD k [] = [.int .i64 p.ti[k]]:=map_getD hi
  (repeat ((first | refine Va ?_ | refine Vb ?_ | refine Vc ?_ | refine Vd ?_ | refine Ve ?_ | refine Vf ?_); (try simp only [go_sem,hP,hgd,List.length_map,Int.toNat_natCast,Int.ofNat_lt,hi,Int.natCast_nonneg]); (repeat refine qJ ?_)))
  have hx:p.ti.getD k 0 = p.ti[k]:=by rw [List.getD_eq_getElem?_getD,List.getElem?_eq_getElem hi]; rfl
  have hn:leftK p.ti s (k + 1) = leftK p.ti s k ++ (if hasS s k = true then [] else [p.ti[k]]):=by rw [← hx]; rfl
  generalize p.ti[k] = a at hgd hn
  have n1:=isG_one (leftK p.ti s k)
  have n2:=isG_len (leftK p.ti s k)
  have n3:=leftK_len p.ti s k
  (refine AS_pu (has59 s k (by omega)) ?_; simp only [go_sem,hP]; (repeat refine qJ ?_); (repeat ((first | refine Va ?_ | refine Vb ?_ | refine Vc ?_ | refine Vd ?_ | refine Ve ?_ | refine Vf ?_); (try simp only [go_sem,hP]); (repeat refine qJ ?_))))
  by_cases hb:hasS s k = true
  ·rw [if_pos hb,List.append_nil] at hn
   rw [hb]
   (refine WV_cond rfl (fun h => ?_) (fun h => ?_))
   ·simp at h
   (repeat ((first | refine Va ?_ | refine Vb ?_ | refine Vc ?_ | refine Vd ?_ | refine Ve ?_ | refine Vf ?_); (try simp only [go_sem,hP,hw]); (repeat refine qJ ?_)))
   refine ⟨k + 1,by omega,by omega,?_⟩
   rw [hn]
   exact Sub_au
  ·rw [if_neg hb] at hn
   have hb:hasS s k = false:=by simpa using hb
   rw [hb]
   (refine WV_cond rfl (fun h => ?_) (fun h => ?_))
   ·(repeat ((first | refine Va ?_ | refine Vb ?_ | refine Vc ?_ | refine Vd ?_ | refine Ve ?_ | refine Vf ?_); (try simp only [go_sem,hP,hw,n1,n2]); (repeat refine qJ ?_)))
    refine ⟨k + 1,by omega,by omega,?_⟩
    rw [hn,isG_snoc]
    exact Sub_au
   ·simp at h
 ·have hi:k = p.ti.length:=by simp at h; omega
  subst hi
  refine WV_exit ?_
  simp only [thenQ,inQ,reduceIte,beq_self_eq_true]
  have hls:=list60 hp (leftT p.ti s) (by have:=leftK_len p.ti s p.ti.length; unfold leftT; omega) (fun n hn => hp.tm n (leftK_mem p.ti s _ (Nat.le_refl _) n hn))
  have e8:List.map AV.c (List.take 8 p.cds) = p.avs:=rfl
  have e9:8 ≤ p.cds.length:=Nat.le_refl _
  have hls':FSpec Tryd.prog 60 [.agg p.avs,.c (.sl 1 (isG (leftK p.ti s p.ti.length)))] (listV (listT p (leftT p.ti s))):=hls
  unfold entsR
  (repeat ((first | refine Va ?_ | refine Vb ?_ | refine Vc ?_ | refine Vd ?_ | refine Ve ?_ | refine Vf ?_); (try simp only [go_sem,hP,e8,e9]); (repeat refine qJ ?_)))
  refine AS_pu hls' ?_
  cases hlt:listT p (leftT p.ti s) with
  | none =>
   simp only [listV,Option.getD_none,Option.isSome_none]
   simp only [go_sem,hP]
   (repeat refine qJ ?_)
   (repeat ((first | refine Va ?_ | refine Vb ?_ | refine Vc ?_ | refine Vd ?_ | refine Ve ?_ | refine Vf ?_); (try simp only [go_sem,hP]); (repeat refine qJ ?_)))
   (refine AG_skip ?_; simp only [go_sem,hP]; (repeat refine qJ ?_); (repeat ((first | refine Va ?_ | refine Vb ?_ | refine Vc ?_ | refine Vd ?_ | refine Ve ?_ | refine Vf ?_); (try simp only [go_sem,hP]); (repeat refine qJ ?_))))
   (refine WV_ret ?_; simp only [thenQ,inQ,RetQL,RetOkL,resAll,resA]; simp only [go_sem,tupA,AV.keepP,AV.keepPL]; refine ⟨_,[.guest g rem],rfl,KeepL_mk rfl rfl ?_ ?_ rfl,?_⟩)
   ·simp only [go_sem,keepAll,Ob.keepP,AV.keepP,AV.keepPL]
   ·simp only [go_sem,winAll]
   ·exact ⟨rfl,rfl⟩
  | some l =>
   simp only [listV,Option.getD_some,Option.isSome_some]
   simp only [go_sem,hP]
   (repeat refine qJ ?_)
   (repeat ((first | refine Va ?_ | refine Vb ?_ | refine Vc ?_ | refine Vd ?_ | refine Ve ?_ | refine Vf ?_); (try simp only [go_sem,hP]); (repeat refine qJ ?_)))
   refine .inr (.inr ?_)
   refine AS_guest 1000 [] (e:=entR s l) rfl rfl rfl rfl (by decide) rfl ?_ ?_
   ·exact trivial
   simp only [go_sem,hP,entR]
   (repeat refine qJ ?_)
   (repeat ((first | refine Va ?_ | refine Vb ?_ | refine Vc ?_ | refine Vd ?_ | refine Ve ?_ | refine Vf ?_); (try simp only [go_sem,hP]); (repeat refine qJ ?_)))
   (refine WV_ret ?_; simp only [thenQ,inQ,RetQL,RetOkL,resAll,resA]; simp only [go_sem,tupA,AV.keepP,AV.keepPL]; refine ⟨_,[.guest g rem],rfl,KeepL_mk rfl rfl ?_ ?_ rfl,?_⟩)
   ·simp only [go_sem,keepAll,Ob.keepP,AV.keepP,AV.keepPL]
   ·simp only [go_sem,winAll]
   ·exact ⟨rfl,rfl⟩
end Go.Proofs.YtdoidahbimonhaaDoor

namespace Go.Proofs.YtdoidahbimonhaaDoor
open Go Go.V
abbrev o57_0:List Ins:=[⟨some 5,.box 8 (.t 0),none,true⟩,
 ⟨some 10,.mv (.k (.c (.bool false))),none,true⟩]
abbrev o57_1:List Ins:=[⟨some 12,.mv (.t 3),none,true⟩,
 ⟨some 13,.bin .eql (.t 12) (.k (.c (.int .i64 0))),none,true⟩]
abbrev o57_2:List Ins:=[⟨some 14,.mv (.t 4),none,true⟩,
 ⟨some 15,.mv (.t 1),none,true⟩,
 ⟨some 16,.call (.t 14) [(.t 15)],none,true⟩,
 ⟨some 10,.mv (.t 16),none,true⟩]
abbrev v57_3:VC:=(.seq (.ops o57_2) .ret)
abbrev v57_4:VC:=(.cond (.t 13) v57_3 .skip)
abbrev o57_5:List Ins:=[⟨some 17,.mv (.t 2),none,true⟩,
 ⟨some 11,.mv (.t 17),none,true⟩]
abbrev o57_6:List Ins:=[⟨some 18,.mv (.t 11),none,true⟩,
 ⟨some 19,.fa 0 (.t 5),none,true⟩,
 ⟨some 20,.fa 7 (.t 19),none,true⟩,
 ⟨some 21,.ld true 1 (.t 20),none,true⟩,
 ⟨some 22,.len (.t 21),none,true⟩,
 ⟨some 23,.bin .lss (.t 18) (.t 22),none,true⟩]
abbrev v57_7:VC:=(.cond (.t 23) .skip (.exit 0))
abbrev o57_8:List Ins:=[⟨some 26,.ld false 8 (.t 5),none,false⟩,
 ⟨some 27,.mv (.t 1),none,false⟩,
 ⟨some 28,.mv (.t 11),none,false⟩,
 ⟨some 29,.bin .shl (.k (.c (.int .u64 1))) (.t 28),none,false⟩,
 ⟨some 30,.bin .or (.t 27) (.t 29),none,false⟩,
 ⟨some 31,.mv (.t 11),none,false⟩,
 ⟨some 32,.bin .add (.t 31) (.k (.c (.int .i64 1))),none,false⟩,
 ⟨some 33,.mv (.t 3),none,false⟩,
 ⟨some 34,.bin .sub (.t 33) (.k (.c (.int .i64 1))),none,false⟩,
 ⟨some 35,.mv (.t 4),none,false⟩,
 ⟨some 36,.call (.k (.fn 57 [])) [(.t 26),(.t 30),(.t 32),(.t 34),(.t 35)],none,true⟩,
 ⟨some 37,.un .not (.t 36),none,true⟩]
abbrev o57_9:List Ins:=[⟨some 10,.mv (.k (.c (.bool false))),none,true⟩]
abbrev v57_10:VC:=(.seq (.ops o57_9) .ret)
abbrev v57_11:VC:=(.cond (.t 37) v57_10 .skip)
abbrev v57_12:VC:=(.seq (.dops o57_8) v57_11)
abbrev o57_13:List Ins:=[⟨some 24,.mv (.t 11),none,true⟩,
 ⟨some 25,.bin .add (.t 24) (.k (.c (.int .i64 1))),none,true⟩,
 ⟨some 11,.mv (.t 25),none,true⟩]
abbrev v57_14:VC:=(.seq (.block 1 v57_12) (.ops o57_13))
abbrev v57_15:VC:=(.seq (.seq (.ops o57_6) v57_7) v57_14)
-- K57_1: changed and kept: [11]
abbrev v57_16:VC:=(.loop v57_15)
abbrev v57_17:VC:=(.block 0 v57_16)
abbrev o57_18:List Ins:=[⟨some 10,.mv (.k (.c (.bool true))),none,true⟩]
abbrev v57_19:VC:=(.seq (.ops o57_18) .ret)
abbrev v57_20:VC:=(.seq (.seq (.ops o57_5) v57_17) v57_19)
abbrev v57_21:VC:=(.seq (.seq (.ops o57_1) v57_4) v57_20)
def ir57:FC:=⟨5,38,[.t 10],(.seq (.ops o57_0) v57_21)⟩
theorem c57:compM Tryd.prog [36] 57 = some ir57:=by kernel_rfl
attribute [local go_sem] Nat.reduceEqDiff Nat.reduceAdd Nat.reduceMul reduceIte Nat.reduceLeDiff Nat.reduceLT Nat.reduceBEq reduceCtorEq
def orS (s:Int) (k:Nat):Int:=Go.bits .or .u64 s (Go.IntKind.wrap .u64 (1 * 2 ^ k))
def setsT (n:Nat):Nat → Int → Nat → List Int
 | 0,s,_ => [s]
 | c + 1,s,f => (List.range' f (n - f)).flatMap fun k => setsT n c (orS s k) (k + 1)
def entsS (p:Tr) (l:List Int):List Ent:=l.flatMap (entsR p)
theorem entsS_app (p:Tr) (a b:List Int):entsS p (a ++ b) = entsS p a ++ entsS p b:=by simp [entsS]
def restS (n c:Nat) (s:Int) (k:Nat):List Int:=(List.range' k (n - k)).flatMap fun i => setsT n c (orS s i) (i + 1)
theorem restS_step {n k:Nat} (c:Nat) (s:Int) (h:k < n):restS n c s k = setsT n c (orS s k) (k + 1) ++ restS n c s (k + 1):=by
 unfold restS
 rw [show n - k = (n - (k + 1)) + 1 by omega,List.range'_succ]
 simp
theorem restS_end {n k:Nat} (c:Nat) (s:Int) (h:n ≤ k):restS n c s k = []:=by unfold restS; rw [show n - k = 0 by omega]; rfl
set_option maxRecDepth 20000 in
set_option maxHeartbeats 8000000 in
theorem sets57 {p:Tr} (hp:TrOk p) (g:Gst):∀ (c:Nat) (s:Int) (f:Nat) (rem:List Ent),c ≤ 3 → f ≤ 24 → FSpecL Tryd.prog 57 [.agg p.avs,.c (.int .u64 s),iv f,iv c,.fn 58 [.c (.pt p.cds),.c (.pt [.raw g.fv])]] [.guest g (entsS p (setsT p.ti.length c s f) ++ rem)] [] (fun r l' => r = bv true ∧ l' = [.guest g rem]):=by
 intro c
 induction c with
 | zero =>
  intro s f rem hc hf
  have hy:=yield58 hp g s rem
  refine FSpecL_of c57 (by first | simp | exact Nat.le_of_ble_eq_true rfl) (Nat.le_refl _) (by decide) (by decide) fun C hP hN hC hL => ?_; rw [init_env',ownW_upd (by first | simp | exact Nat.le_of_ble_eq_true rfl)]; simp only [ir57,updL,updLo,List.map_nil,List.map_cons,Nat.reduceAdd,]
  simp only [Tr.avs]
  (repeat ((first | refine Va ?_ | refine Vb ?_ | refine Vc ?_ | refine Vd ?_ | refine Ve ?_ | refine Vf ?_); (try simp only [go_sem,hP]); (repeat refine qJ ?_)))
  (refine WV_cond rfl (fun h => ?_) (fun h => ?_))
  ·have he:entsS p (setsT p.ti.length 0 s f) = entsR p s:=by simp [entsS,setsT]
   rw [he]
   (repeat ((first | refine Va ?_ | refine Vb ?_ | refine Vc ?_ | refine Vd ?_ | refine Ve ?_ | refine Vf ?_); (try simp only [go_sem,hP]); (repeat refine qJ ?_)))
   (refine AS_lend [1000] (hy) rfl rfl rfl (by decide) rfl (by simp only [go_sem,obsLend,Ob.lend,AV.lend,AV.lendL]) ?_)
   rintro r l' ⟨rfl,rfl⟩
   (refine ⟨_,_,rfl,(by simp only [obsBack,Ob.back,AV.back,AV.backL,]; rfl),?_⟩; simp only [go_sem,hP,ownBack])
   (repeat ((first | refine Va ?_ | refine Vb ?_ | refine Vc ?_ | refine Vd ?_ | refine Ve ?_ | refine Vf ?_); (try simp only [go_sem,hP]); (repeat refine qJ ?_)))
   (refine WV_ret ?_; simp only [thenQ,inQ,RetQL,RetOkL,resAll,resA]; simp only [go_sem,tupA,AV.keepP,AV.keepPL]; refine ⟨_,[.guest g rem],rfl,KeepL_mk rfl rfl ?_ ?_ rfl,?_⟩)
   ·simp only [go_sem,keepAll,Ob.keepP,AV.keepP,AV.keepPL]
   ·simp only [go_sem,winAll]
   ·exact ⟨rfl,rfl⟩
  ·simp at h
 | succ c ih =>
  intro s f rem hc hf
  have hl:p.ti.length ≤ 24:=hp.len
  refine FSpecL_of c57 (by first | simp | exact Nat.le_of_ble_eq_true rfl) (Nat.le_refl _) (by decide) (by decide) fun C hP hN hC hL => ?_; rw [init_env',ownW_upd (by first | simp | exact Nat.le_of_ble_eq_true rfl)]; simp only [ir57,updL,updLo,List.map_nil,List.map_cons,Nat.reduceAdd,]
  simp only [Tr.avs]
  (repeat ((first | refine Va ?_ | refine Vb ?_ | refine Vc ?_ | refine Vd ?_ | refine Ve ?_ | refine Vf ?_); (try simp only [go_sem,hP]); (repeat refine qJ ?_)))
  (refine WV_cond rfl (fun h => ?_) (fun h => ?_))
  ·simp at h
   omega
  have he:entsS p (setsT p.ti.length (c + 1) s f) = entsS p (restS p.ti.length c s f):=rfl
  rw [he]
  (repeat ((first | refine Va ?_ | refine Vb ?_ | refine Vc ?_ | refine Vd ?_ | refine Ve ?_ | refine Vf ?_); (try simp only [go_sem,hP]); (repeat refine qJ ?_)))
  refine WV_loopS (fun k:Nat => ⟨upd (upd (upd (upd (upd (upd e0 0 (.agg p.avs)) 1 (.c (.int .u64 s))) 3 (iv ((c + 1:Nat):Int))) 4 (.fn 58 [.c (.pt p.cds),.c (.pt [.raw g.fv])])) 5 (.bp 5 0)) 11 (iv k),upd (upd o0 1000 (.guest g (entsS p (restS p.ti.length c s k) ++ rem))) 5 (.box p.avs)⟩) (fun k => k ≤ 24) (fun k => 24 - k) f hf ?_ ?_
  ·(refine Sub_of (by simp only [go_sem]; ((repeat' (first | exact EnvLe_e0 _ _ | refine EnvLe_upd ?_ ?_)) <;> ((try simp only [upd_app,e0_app,o0_app,Nat.reduceEqDiff,reduceIte]); first | exact AWk.refl _ _ | exact AWk.int (by omega) | exact AWk.int (by rw [w64 (by omega) (by omega)]; omega) | exact AWk.grow rfl | exact AWk.nil _ | exact AWk.of (by simp [Tr.avs])))) (by simp only [go_sem]; exact ObjLe_au))
  intro k hk
  (repeat ((first | refine Va ?_ | refine Vb ?_ | refine Vc ?_ | refine Vd ?_ | refine Ve ?_ | refine Vf ?_); (try simp only [go_sem,hP,Tr.avs]); (repeat refine qJ ?_)))
  (refine WV_cond rfl (fun h => ?_) (fun h => ?_))
  ·have hi:k < p.ti.length:=by simpa [isC] using h
   have hw:=w64 (n:=(k:Int) + 1) (by omega) (by omega)
   have hw2:=w64 (n:=((c + 1:Nat):Int) - 1) (by omega) (by omega)
   have h1:(Go.IntKind.u64).bits = 64:=rfl
   (repeat ((first | refine Va ?_ | refine Vb ?_ | refine Vc ?_ | refine Vd ?_ | refine Ve ?_ | refine Vf ?_); (try simp only [go_sem,hP,hw,hw2,h1,Int.toNat_natCast]); (repeat refine qJ ?_)))
   have hx:=ih (orS s k) (k + 1) (entsS p (restS p.ti.length c s (k + 1)) ++ rem) (by omega) (by omega)
   rw [← List.append_assoc,← entsS_app,← restS_step c s hi] at hx
   have e1:((c + 1:Nat):Int) - 1 = (c:Int):=by omega
   have e2:(k:Int) + 1 = ((k + 1:Nat):Int):=by omega
   rw [e1,e2]
   (refine AS_lend [1000] (hx) rfl rfl rfl (by decide) rfl (by simp only [go_sem,obsLend,Ob.lend,AV.lend,AV.lendL]) ?_)
   rintro r l' ⟨rfl,rfl⟩
   (refine ⟨_,_,rfl,(by simp only [obsBack,Ob.back,AV.back,AV.backL,]; rfl),?_⟩; simp only [go_sem,hP,ownBack])
   (repeat ((first | refine Va ?_ | refine Vb ?_ | refine Vc ?_ | refine Vd ?_ | refine Ve ?_ | refine Vf ?_); (try simp only [go_sem,hP,hw]); (repeat refine qJ ?_)))
   (refine WV_cond rfl (fun h => ?_) (fun h => ?_))
   ·simp at h
   (repeat ((first | refine Va ?_ | refine Vb ?_ | refine Vc ?_ | refine Vd ?_ | refine Ve ?_ | refine Vf ?_); (try simp only [go_sem,hP,hw]); (repeat refine qJ ?_)))
   refine ⟨k + 1,by omega,by omega,?_⟩
   exact Sub_au
  ·have hi:p.ti.length ≤ k:=by simpa [isC] using h
   rw [restS_end c s hi]
   refine WV_exit ?_
   simp only [thenQ,inQ,reduceIte,beq_self_eq_true]
   (repeat ((first | refine Va ?_ | refine Vb ?_ | refine Vc ?_ | refine Vd ?_ | refine Ve ?_ | refine Vf ?_); (try simp only [go_sem,hP]); (repeat refine qJ ?_)))
   (refine WV_ret ?_; simp only [thenQ,inQ,RetQL,RetOkL,resAll,resA]; simp only [go_sem,tupA,AV.keepP,AV.keepPL]; refine ⟨_,[.guest g rem],rfl,KeepL_mk rfl rfl ?_ ?_ rfl,?_⟩)
   ·simp only [go_sem,keepAll,Ob.keepP,AV.keepP,AV.keepPL]
    rfl
   ·simp only [go_sem,winAll]
   ·exact ⟨rfl,rfl⟩
end Go.Proofs.YtdoidahbimonhaaDoor

namespace Go.Proofs.YtdoidahbimonhaaDoor
open Go Go.V
abbrev o56_0:List Ins:=[⟨some 3,.box 1 (.t 0),none,true⟩]
abbrev o56_1:List Ins:=[⟨some 4,.ld false 8 (.t 1),none,true⟩,
 ⟨some 5,.ld true 1 (.t 2),none,true⟩,
 ⟨some 6,.mkfn 58 [(.t 1),(.t 3)],none,true⟩,
 ⟨some 7,.call (.k (.fn 57 [])) [(.t 4),(.k (.c (.int .u64 0))),(.k (.c (.int .i64 0))),(.t 5),(.t 6)],none,true⟩]
def ir56:FC:=⟨3,8,[],(.seq (.ops o56_0) (.ops o56_1))⟩
abbrev o36_0:List Ins:=[⟨some 2,.box 8 (.t 0),none,true⟩,
 ⟨some 3,.box 1 (.t 1),none,true⟩,
 ⟨some 4,.mv (.k (.c (.raw .nilFunc))),none,true⟩]
abbrev o36_1:List Ins:=[⟨some 5,.mkfn 56 [(.t 2),(.t 3)],none,true⟩,
 ⟨some 4,.mv (.t 5),none,true⟩]
abbrev v36_2:VC:=(.seq (.ops o36_1) .ret)
def ir36:FC:=⟨2,6,[.t 4],(.seq (.ops o36_0) v36_2)⟩
abbrev o35_0:List Ins:=[⟨some 2,.box 1 (.t 0),none,true⟩,
 ⟨some 4,.mv (.k (.c (.raw (.slice none 0 0)))),none,true⟩]
abbrev o35_1:List Ins:=[⟨some 6,.mv (.t 1),none,true⟩]
abbrev o35_2:List Ins:=[⟨some 8,.ld true 1 (.t 2),none,true⟩,
 ⟨some 9,.ld false 2 (.t 5),none,true⟩,
 ⟨some 10,.bslv 73 2 [(.t 9)],none,true⟩,
 ⟨some 11,.appv 73 2 32 (.t 8) (.t 10),none,true⟩,
 ⟨none,.st 1 (.t 2) (.t 11),none,true⟩]
abbrev v35_3:VC:=(.block 1 (.ops o35_2))
abbrev o35_4:List Ins:=[⟨some 5,.alloc [(.c (.int .u64 0)),(.c (.raw (.slice none 0 0)))],none,true⟩,
 ⟨none,.st 2 (.t 5) (.t 7),none,true⟩]
abbrev v35_5:VC:=(.rng (.t 6) [7] (.ops o35_4) v35_3)
abbrev v35_6:VC:=(.block 0 v35_5)
abbrev o35_7:List Ins:=[⟨some 12,.ld true 1 (.t 2),none,true⟩,
 ⟨some 4,.mv (.t 12),none,true⟩]
abbrev v35_8:VC:=(.seq (.ops o35_7) .ret)
abbrev v35_9:VC:=(.seq (.seq (.ops o35_1) v35_6) v35_8)
def ir35:FC:=⟨2,13,[.t 4],(.seq (.ops o35_0) v35_9)⟩
theorem c56:compM Tryd.prog [] 56 = some ir56:=by kernel_rfl
theorem c36:compM Tryd.prog [] 36 = some ir36:=by kernel_rfl
theorem c35:compM Tryd.prog [100010,100011] 35 = some ir35:=by kernel_rfl
attribute [local go_sem] Nat.reduceEqDiff Nat.reduceAdd Nat.reduceMul reduceIte Nat.reduceLeDiff Nat.reduceLT Nat.reduceBEq reduceCtorEq
def allS (p:Tr) (c:Nat):List Int:=setsT p.ti.length c 0 0
def entsC (p:Tr) (c:Nat):List Ent:=entsS p (allS p c)
theorem readings56 {p:Tr} (hp:TrOk p) (c:Nat) (hc:c ≤ 3) (g:Gst) (rem:List Ent):FSpecL Tryd.prog 56 [.c (.raw g.fv),.c (.pt p.cds),.c (.pt [.int .i64 c])] [.guest g (entsC p c ++ rem)] [] (fun _ l' => l' = [.guest g rem]):=by
 have hs:=sets57 hp g c 0 0 rem hc (by omega)
 have e8:List.map AV.c (List.take 8 p.cds) = p.avs:=rfl
 have e9:8 ≤ p.cds.length:=Nat.le_refl _
 refine FSpecL_of c56 (by first | simp | exact Nat.le_of_ble_eq_true rfl) (Nat.le_refl _) (by decide) (by decide) fun C hP hN hC hL => ?_; rw [init_env',ownW_upd (by first | simp | exact Nat.le_of_ble_eq_true rfl)]; simp only [ir56,updL,updLo,List.map_nil,List.map_cons,Nat.reduceAdd,]
 refine WV_seq_ ?_
 (refine WV_op ?_; simp only [go_sem,hP]; (repeat refine qJ ?_))
 refine WV_freeze 3 (ds:=[.raw g.fv]) rfl rfl ?_
 simp only [go_sem,List.drop_zero]
 (repeat ((first | refine Va ?_ | refine Vb ?_ | refine Vc ?_ | refine Vd ?_ | refine Ve ?_ | refine Vf ?_); (try simp only [go_sem,hP,e8,e9]); (repeat refine qJ ?_)))
 change FSpecL Tryd.prog 57 _ [.guest g (entsC p c ++ rem)] [] _ at hs
 (refine AS_lend [1000] (hs) rfl rfl rfl (by decide) rfl (by simp only [go_sem,obsLend,Ob.lend,AV.lend,AV.lendL]) ?_)
 rintro r l' ⟨rfl,rfl⟩
 (refine ⟨_,_,rfl,(by simp only [obsBack,Ob.back,AV.back,AV.backL,]; rfl),?_⟩; simp only [go_sem,hP,ownBack])
 (repeat ((first | refine Va ?_ | refine Vb ?_ | refine Vc ?_ | refine Vd ?_ | refine Ve ?_ | refine Vf ?_); (try simp only [go_sem,hP]); (repeat refine qJ ?_)))
 ((try simp only [thenQ,inQ,RetQL,RetOkL,resAll,resA]); (try simp only [go_sem,tupA,AV.keepP,AV.keepPL]); refine ⟨_,[.guest g rem],rfl,KeepL_mk rfl rfl ?_ ?_ rfl,?_⟩)
 ·simp only [go_sem,keepAll,Ob.keepP,AV.keepP,AV.keepPL]
 ·simp only [go_sem,winAll]
 ·rfl
theorem readings36 (p:Tr) (c:Nat):FSpec Tryd.prog 36 [.agg p.avs,iv c] (.fn 56 [.c (.pt p.cds),.c (.pt [.int .i64 c])]):=by
 refine FSpec_of c36 (Nat.le_refl _) (by decide) fun C hP hN hC hL => ?_; rw [init_st]
 simp only [ir36]
 refine WV_seq_ ?_
 (refine WV_op ?_; simp only [go_sem,hP,Tr.avs]; (repeat refine qJ ?_))
 refine WV_freeze 2 (ds:=p.cds) rfl rfl ?_
 simp only [go_sem,List.drop_zero]
 refine WV_freeze 3 (ds:=[.int .i64 c]) rfl rfl ?_
 simp only [go_sem,List.drop_zero]
 (repeat ((first | refine Va ?_ | refine Vb ?_ | refine Vc ?_ | refine Vd ?_ | refine Ve ?_ | refine Vf ?_); (try simp only [go_sem,hP]); (repeat refine qJ ?_)))
 (refine WV_ret ?_; simp only [thenQ,inQ,RetQ,RetOk,resAll,resA]; simp only [go_sem,tupA,AV.port,AV.portL,exists_eq_left']; (first | exact AVle.of rfl | refine AVle.of ?_ | skip))
def entQ (x:Int × List Int):Ent:=entR x.1 x.2
def readsL (p:Tr) (l:List Int):List (Int × List Int):=l.filterMap fun s => (listT p (leftT p.ti s)).map fun y => (s,y)
def readsC (p:Tr) (c:Nat):List (Int × List Int):=readsL p (allS p c)
theorem entsS_map (p:Tr):∀ l,entsS p l = (readsL p l).map entQ
 | [] => rfl
 | s :: l => by
  have ih:=entsS_map p l
  unfold entsS readsL at ih ⊢
  rw [List.flatMap_cons,List.filterMap_cons,ih]
  unfold entsR
  cases listT p (leftT p.ti s) <;> rfl
theorem entsC_map (p:Tr) (c:Nat):entsC p c = (readsC p c).map entQ:=entsS_map p _
def rdC (x:Int × List Int):List CD:=[.int .u64 x.1,isC x.2]
def rdsC (l:List (Int × List Int)):List (List CD):=l.map rdC
theorem rdsC_len (l):(rdsC l).length = l.length:=List.length_map _
def arrQ (arr:Option Value):CD:=match arr with | some v => .raw v | none => .raw (.slice none 0 0)
def ArrOk (l:List (Int × List Int)) (arr:Option Value):Prop:=(l = [] ∧ arr = none) ∨ (l ≠ [] ∧ ∃ v,arr = some v)
def KeptQ (l0 pre:List (Int × List Int)) (l:List Ob):Prop:=∃ arr,ArrOk (l0 ++ pre) arr ∧ l = [.box [.c (arrQ arr)],harr rdC 2 (l0 ++ pre) arr]
theorem prgL_nonQ (d:Nat):∀ j:Nat,AV.prgL d (List.replicate j .non) = List.replicate j .non
 | 0 => rfl
 | j + 1 => by simp only [List.replicate_succ,AV.prgL,AV.prg,prgL_nonQ d j]
theorem rdC_two (x:Int × List Int):(rdC x).length = 2:=rfl
set_option maxRecDepth 20000 in
set_option maxHeartbeats 8000000 in
theorem append35 {p:Tr} (hp:TrOk p) (c:Nat) (hc:c ≤ 3) (l0:List (Int × List Int)) (arr:Option Value) (harr0:ArrOk l0 arr) (hl:l0.length + (readsC p c).length ≤ 100000):FSpecL Tryd.prog 35 [.c (arrQ arr),.fn 56 [.c (.pt p.cds),.c (.pt [.int .i64 c])]] [harr rdC 2 l0 arr] [] (fun r l' => ∃ arr',ArrOk (l0 ++ readsC p c) arr' ∧ r = .c (arrQ arr') ∧ l' = [harr rdC 2 (l0 ++ readsC p c) arr']):=by
 have hmax:maxLen = 9223372036854775807:=rfl
 refine FSpecL_of c35 (by first | simp | exact Nat.le_of_ble_eq_true rfl) (Nat.le_refl _) (by decide) (by decide) fun C hP hN hC hL => ?_; rw [init_env',ownW_upd (by first | simp | exact Nat.le_of_ble_eq_true rfl)]; simp only [ir35,updL,updLo,List.map_nil,List.map_cons,Nat.reduceAdd,]
 (repeat ((first | refine Va ?_ | refine Vb ?_ | refine Vc ?_ | refine Vd ?_ | refine Ve ?_ | refine Vf ?_); (try simp only [go_sem,hP]); (repeat refine qJ ?_)))
 refine WV_keep [2,6] ?_
 simp only [go_sem]
 refine WV_rng hC (L:=[2,1000]) (l:=[.box [.c (arrQ arr)],harr rdC 2 l0 arr]) (env':=lendF [2,1000] _ _) (rem:=(readsC p c).map entQ) (Fin:=fun pend lf => pend = none ∧ KeptQ l0 (readsC p c) lf) rfl rfl rfl (by decide) (by decide) ?_ (by rw [hN]; decide) (lendF_ok _ _ _) (fun g' => ?_) ?_ ?_
 ·simp only [go_sem,obsLend,Ob.lend,AV.lendL,AV.lend,harr]
 ·have:=readings56 hp c hc g' []
  rw [List.append_nil,entsC_map] at this
  rw [hP]; exact ⟨_,this,fun _ _ h => h⟩
 ·refine RunR_rel entQ (KeptQ l0) (readsC p c) (fun p l h => ?_) (fun t _ => ⟨rfl,rfl⟩) (fun pre x post lo hts hlo => ?_) (readsC p c) [] _ rfl ⟨arr,by rwa [List.append_nil],by rw [List.append_nil]⟩
  ·obtain ⟨arr,_,rfl⟩:=h; rfl
  have hpl:pre.length < (readsC p c).length:=by rw [hts]; simp
  obtain ⟨ar,hok,rfl⟩:=hlo
  have hne:l0 ++ (pre ++ [x]) ≠ []:=by simp
  have hass:l0 ++ pre ++ [x] = l0 ++ (pre ++ [x]):=List.append_assoc _ _ _
  have hll:(l0 ++ pre).length < 100000:=by rw [List.length_append]; omega
  simp only [KeptQ]
  generalize l0 ++ pre = cur at hok hass hll ⊢
  generalize l0 ++ (pre ++ [x]) = nxt at hne hass ⊢
  intro C1 h1 h2 h3 h4
  have hP0:=hP
  replace hP:=h1.trans hP0
  rw [ownW_upd (by simp)]
  simp only [go_sem,lendF_upd,lendF_e0,AV.lend,AV.lendL,Option.getD_some,Option.getD_none,List.zip_cons_cons,List.zip_nil_right,updLo,entQ,entR,harr]
  (repeat ((first | refine Va ?_ | refine Vb ?_ | refine Vc ?_ | refine Vd ?_ | refine Ve ?_ | refine Vf ?_); (try simp only [go_sem,hP]); (repeat refine qJ ?_)))
  intro C2 h1 h2 h3 h4
  replace hP:=h1.trans hP0
  refine WV_block ?_
  have hfin:∀ (y:Value) (env:Nat → AV) (own:Nat → Ob),own 1000 = .box [.c (.raw y)] → own 1001 = harr rdC 2 nxt (some y) → ∃ j l',jumpOf .normal = some j ∧ KeepL [.box [.c (arrQ ar)],harr rdC 2 cur ar] [] ⟨env,own⟩ l' ∧ j = none ∧ ∃ arr',ArrOk nxt arr' ∧ l' = [.box [.c (arrQ arr')],harr rdC 2 nxt arr']:=by
   intro y env own e1 e2
   refine ⟨none,[.box [.c (arrQ (some y))],harr rdC 2 nxt (some y)],rfl,KeepL_mk rfl rfl ?_ trivial rfl,rfl,some y,.inr ⟨hne,y,rfl⟩,rfl⟩
   simp only [keepAll,Nat.reduceAdd,e1,e2,harr,arrQ,Ob.keepP,AV.keepP,AV.keepPL,Option.map_some,and_self]
  rcases hok with ⟨rfl,rfl⟩ | ⟨hne0,v,rfl⟩
  ·(refine WV_split 4 ?_; simp only [List.take_succ_cons,List.take_zero,List.take_nil,List.drop_succ_cons,List.drop_zero,List.drop_nil]; simp only [go_sem,hP,arrQ,harr,prgL_nonQ]; (repeat refine qJ ?_))
   intro cap j q1 q2 q3
   rw [List.nil_append] at hass
   subst hass
   refine SOps_giveA 1001 11 11 (F:=rdC) (sz:=2) (l:=[x]) (l0:=[]) (j:=j) (cap:=cap) (by decide) rfl rfl rfl (by simp) (by simpa using q3) fun y => ?_
   (refine SOps_ops ?_; simp only [go_sem,hP,harr]; (repeat refine qJ ?_))
   exact hfin y _ _ (by rfl) (by rfl)
  ·(refine WV_split 1 ?_; simp only [List.take_succ_cons,List.take_zero,List.take_nil,List.drop_succ_cons,List.drop_zero,List.drop_nil]; simp only [go_sem,hP,arrQ,harr]; (repeat refine qJ ?_))
   refine SOps_takeA 1001 601 8 (F:=rdC) (sz:=2) (l:=cur) (x:=v) (by decide) rfl rfl (by decide) rfl ?_
   intro cap0 j0 p1 p2 p3
   simp only [go_sem,harr]
   have hcl:(cellsG rdC cur j0).length = cur.length * 2 + j0:=cellsG_len rdC_two cur j0
   have htk:(cellsG rdC cur j0).take (cur.length * 2) = cellsG rdC cur 0:=cellsG_take rdC_two cur j0
   have hz:∀ j1,AV.prgL 11 (cellsG rdC cur 0 ++ [.c (.int .u64 x.1),.c (isC x.2)] ++ List.replicate j1 .non) = cellsG rdC (cur ++ [x]) j1:=fun j1 => by
    have e:cellsG rdC cur 0 ++ [.c (.int .u64 x.1),.c (isC x.2)] ++ List.replicate j1 .non = cellsG rdC (cur ++ [x]) j1:=cellsG_snoc cur x j1
    rw [e,prg_cellsG]
   (refine SOps_split 3 ?_; simp only [List.take_succ_cons,List.take_zero,List.take_nil,List.drop_succ_cons,List.drop_zero,List.drop_nil]; simp only [go_sem,hP,harr,hcl,htk,hz]; (repeat refine qJ ?_))
   intro cap j q1 q2 q3
   subst hass
   refine SOps_giveA 1001 11 11 (F:=rdC) (sz:=2) (l:=cur ++ [x]) (l0:=cur) (j:=j) (cap:=cap) (by decide) rfl rfl (by rw [List.length_append]; rfl) (by simp) (by rw [List.length_append]; exact q3) fun y => ?_
   (refine SOps_ops ?_; simp only [go_sem,hP,harr]; (repeat refine qJ ?_))
   exact hfin y _ _ (by rfl) (by rfl)
 ·rintro _ _ ⟨rfl,ar,hok,rfl⟩
  refine ⟨_,rfl,rfl,?_⟩
  simp only [go_sem,exitOf,ownBack,harr]
  (repeat ((first | refine Va ?_ | refine Vb ?_ | refine Vc ?_ | refine Vd ?_ | refine Ve ?_ | refine Vf ?_); (try simp only [go_sem,hP]); (repeat refine qJ ?_)))
  (refine WV_ret ?_; simp only [thenQ,inQ,RetQL,RetOkL,resAll,resA]; simp only [go_sem,tupA,AV.keepP,AV.keepPL]; refine ⟨_,[harr rdC 2 (l0 ++ readsC p c) ar],rfl,KeepL_mk rfl rfl ?_ ?_ rfl,?_⟩)
  ·simp only [go_sem,keepAll,Ob.keepP,AV.keepP,AV.keepPL,harr]
  ·simp only [go_sem,winAll]
  ·exact ⟨ar,hok,rfl,rfl⟩
end Go.Proofs.YtdoidahbimonhaaDoor

namespace Go.Proofs.YtdoidahbimonhaaDoor
open Go Go.V
abbrev o28_0:List Ins:=[⟨some 1,.box 8 (.t 0),none,true⟩,
 ⟨some 2,.mv (.k (.c (.int .i64 0))),none,true⟩]
abbrev o28_1:List Ins:=[⟨some 7,.fa 0 (.t 1),none,true⟩,
 ⟨some 8,.ld true 1 (.t 7),none,true⟩,
 ⟨some 9,.bld [(.c (.int .i64 0)),(.c (.int .i64 0)),(.c (.int .i64 0))] [(0,1,(.t 8)),(1,1,(.k (.c (.int .i64 1)))),(2,1,(.k (.c (.int .i64 5))))],none,true⟩,
 ⟨some 10,.fa 1 (.t 1),none,true⟩,
 ⟨some 11,.ld true 1 (.t 10),none,true⟩,
 ⟨some 12,.bld [(.c (.int .i64 0)),(.c (.int .i64 0)),(.c (.int .i64 0))] [(0,1,(.t 11)),(1,1,(.k (.c (.int .i64 1)))),(2,1,(.k (.c (.int .i64 5))))],none,true⟩,
 ⟨some 13,.fa 2 (.t 1),none,true⟩,
 ⟨some 14,.ld true 1 (.t 13),none,true⟩,
 ⟨some 15,.bld [(.c (.int .i64 0)),(.c (.int .i64 0)),(.c (.int .i64 0))] [(0,1,(.t 14)),(1,1,(.k (.c (.int .i64 1)))),(2,1,(.k (.c (.int .i64 99))))],none,true⟩,
 ⟨some 16,.fa 3 (.t 1),none,true⟩,
 ⟨some 17,.ld true 1 (.t 16),none,true⟩,
 ⟨some 18,.fa 2 (.t 1),none,true⟩,
 ⟨some 19,.ld true 1 (.t 18),none,true⟩,
 ⟨some 20,.bin .sub (.t 19) (.k (.c (.int .i64 1))),none,true⟩,
 ⟨some 21,.bld [(.c (.int .i64 0)),(.c (.int .i64 0)),(.c (.int .i64 0))] [(0,1,(.t 17)),(1,1,(.k (.c (.int .i64 0)))),(2,1,(.t 20))],none,true⟩,
 ⟨some 22,.fa 4 (.t 1),none,true⟩,
 ⟨some 23,.ld true 1 (.t 22),none,true⟩,
 ⟨some 24,.fa 2 (.t 1),none,true⟩,
 ⟨some 25,.ld true 1 (.t 24),none,true⟩,
 ⟨some 26,.fa 3 (.t 1),none,true⟩,
 ⟨some 27,.ld true 1 (.t 26),none,true⟩,
 ⟨some 28,.bin .add (.t 25) (.t 27),none,true⟩,
 ⟨some 29,.bin .add (.t 28) (.k (.c (.int .i64 1))),none,true⟩,
 ⟨some 30,.fa 5 (.t 1),none,true⟩,
 ⟨some 31,.ld true 1 (.t 30),none,true⟩,
 ⟨some 32,.bin .sub (.t 31) (.k (.c (.int .i64 1))),none,true⟩,
 ⟨some 33,.bld [(.c (.int .i64 0)),(.c (.int .i64 0)),(.c (.int .i64 0))] [(0,1,(.t 23)),(1,1,(.t 29)),(2,1,(.t 32))],none,true⟩,
 ⟨some 34,.fa 5 (.t 1),none,true⟩,
 ⟨some 35,.ld true 1 (.t 34),none,true⟩,
 ⟨some 36,.bld [(.c (.int .i64 0)),(.c (.int .i64 0)),(.c (.int .i64 0))] [(0,1,(.t 35)),(1,1,(.k (.c (.int .i64 0)))),(2,1,(.k (.c (.int .i64 999))))],none,true⟩,
 ⟨some 37,.fa 6 (.t 1),none,true⟩,
 ⟨some 38,.ld true 1 (.t 37),none,true⟩,
 ⟨some 39,.bld [(.c (.int .i64 0)),(.c (.int .i64 0)),(.c (.int .i64 0))] [(0,1,(.t 38)),(1,1,(.k (.c (.int .i64 0)))),(2,1,(.k (.c (.int .i64 3))))],none,true⟩,
 ⟨some 40,.fa 7 (.t 1),none,true⟩,
 ⟨some 41,.ld true 1 (.t 40),none,true⟩,
 ⟨some 42,.len (.t 41),none,true⟩,
 ⟨some 43,.bld [(.c (.int .i64 0)),(.c (.int .i64 0)),(.c (.int .i64 0))] [(0,1,(.t 42)),(1,1,(.k (.c (.int .i64 0)))),(2,1,(.k (.c (.int .i64 24))))],none,true⟩,
 ⟨some 44,.raw (.build 106 #[(0,(.tmp 9)),(1,(.tmp 12)),(2,(.tmp 15)),(3,(.tmp 21)),(4,(.tmp 33)),(5,(.tmp 36)),(6,(.tmp 39)),(7,(.tmp 43))]),none,true⟩,
 ⟨some 45,.mv (.k (.c (.int .i64 0))),none,true⟩]
abbrev o28_2:List Ins:=[⟨some 46,.bin .lss (.t 45) (.k (.c (.int .i64 8))),none,true⟩]
abbrev o28_3:List Ins:=[⟨some 47,.raw (.index 106 (.tmp 44) (.tmp 45)),none,true⟩,
 ⟨some 4,.alloc [(.c (.int .i64 0)),(.c (.int .i64 0)),(.c (.int .i64 0))],none,true⟩,
 ⟨none,.st 3 (.t 4) (.t 47),none,true⟩]
abbrev o28_4:List Ins:=[⟨some 48,.fa 0 (.t 4),none,true⟩,
 ⟨some 49,.ld true 1 (.t 48),none,true⟩,
 ⟨some 50,.fa 1 (.t 4),none,true⟩,
 ⟨some 51,.ld true 1 (.t 50),none,true⟩,
 ⟨some 52,.fa 2 (.t 4),none,true⟩,
 ⟨some 53,.ld true 1 (.t 52),none,true⟩,
 ⟨some 54,.call (.k (.fn 54 [])) [(.t 49),(.t 51),(.t 53)],none,true⟩,
 ⟨some 55,.un .not (.t 54),none,true⟩]
abbrev o28_5:List Ins:=[⟨some 2,.mv (.k (.c (.int .i64 130))),none,true⟩]
abbrev v28_6:VC:=(.seq (.ops o28_5) .ret)
abbrev v28_7:VC:=(.cond (.t 55) v28_6 .skip)
abbrev v28_8:VC:=(.seq (.ops o28_4) v28_7)
abbrev v28_9:VC:=(.seq (.ops o28_3) v28_8)
abbrev o28_10:List Ins:=[⟨some 56,.bin .add (.t 45) (.k (.c (.int .i64 1))),none,true⟩,
 ⟨some 45,.mv (.t 56),none,true⟩]
abbrev v28_11:VC:=(.seq (.block 1 v28_9) (.ops o28_10))
abbrev v28_12:VC:=(.seq (.cond (.t 46) .skip (.exit 0)) v28_11)
abbrev v28_13:VC:=(.seq (.ops o28_2) v28_12)
-- K28_1: changed and kept: [45]
abbrev v28_14:VC:=(.loop v28_13)
abbrev v28_15:VC:=(.block 0 v28_14)
abbrev o28_16:List Ins:=[⟨some 57,.fa 7 (.t 1),none,true⟩,
 ⟨some 58,.ld true 1 (.t 57),none,true⟩,
 ⟨some 59,.len (.t 58),none,true⟩,
 ⟨some 60,.mv (.k (.c (.int .i64 0))),none,true⟩]
abbrev o28_17:List Ins:=[⟨some 61,.bin .lss (.t 60) (.t 59),none,true⟩]
abbrev o28_18:List Ins:=[⟨some 62,.mv (.t 60),none,true⟩,
 ⟨some 63,.ia 1 (.t 58) (.t 60),none,true⟩,
 ⟨some 64,.ld true 1 (.t 63),none,true⟩,
 ⟨some 5,.mv (.t 62),none,true⟩,
 ⟨some 6,.mv (.t 64),none,true⟩]
abbrev o28_19:List Ins:=[⟨some 65,.mv (.t 6),none,true⟩,
 ⟨some 66,.call (.k (.fn 54 [])) [(.t 65),(.k (.c (.int .i64 0))),(.k (.c (.int .i64 99999)))],none,true⟩,
 ⟨some 67,.un .not (.t 66),none,true⟩,
 ⟨some 68,.mv (.t 67),none,true⟩,
 ⟨some 69,.mv (.t 5),(some (68,false)),true⟩,
 ⟨some 70,.bin .gtr (.t 69) (.k (.c (.int .i64 0))),(some (68,false)),true⟩,
 ⟨some 71,.mv (.t 70),(some (68,false)),true⟩,
 ⟨some 72,.mv (.t 6),(some (71,true)),true⟩,
 ⟨some 73,.fa 7 (.t 1),(some (71,true)),true⟩,
 ⟨some 74,.ld true 1 (.t 73),(some (71,true)),true⟩,
 ⟨some 75,.mv (.t 5),(some (71,true)),true⟩,
 ⟨some 76,.bin .sub (.t 75) (.k (.c (.int .i64 1))),(some (71,true)),true⟩,
 ⟨some 77,.ia 1 (.t 74) (.t 76),(some (71,true)),true⟩,
 ⟨some 78,.ld true 1 (.t 77),(some (71,true)),true⟩,
 ⟨some 79,.bin .leq (.t 72) (.t 78),(some (71,true)),true⟩,
 ⟨some 80,.pick (.t 71) (.t 79) (.k (.c (.bool false))),(some (68,false)),true⟩,
 ⟨some 81,.pick (.t 68) (.k (.c (.bool true))) (.t 80),none,true⟩]
abbrev o28_20:List Ins:=[⟨some 2,.mv (.k (.c (.int .i64 130))),none,true⟩]
abbrev v28_21:VC:=(.seq (.ops o28_20) .ret)
abbrev v28_22:VC:=(.cond (.t 81) v28_21 .skip)
abbrev v28_23:VC:=(.seq (.ops o28_19) v28_22)
abbrev v28_24:VC:=(.seq (.ops o28_18) v28_23)
abbrev o28_25:List Ins:=[⟨some 82,.bin .add (.t 60) (.k (.c (.int .i64 1))),none,true⟩,
 ⟨some 60,.mv (.t 82),none,true⟩]
abbrev v28_26:VC:=(.seq (.block 3 v28_24) (.ops o28_25))
abbrev v28_27:VC:=(.seq (.cond (.t 61) .skip (.exit 2)) v28_26)
abbrev v28_28:VC:=(.seq (.ops o28_17) v28_27)
-- K28_2: changed and kept: [60]
abbrev v28_29:VC:=(.loop v28_28)
abbrev v28_30:VC:=(.block 2 v28_29)
abbrev o28_31:List Ins:=[⟨some 2,.mv (.k (.c (.int .i64 0))),none,true⟩]
abbrev v28_32:VC:=(.seq (.ops o28_31) .ret)
abbrev v28_33:VC:=(.seq (.seq (.ops o28_16) v28_30) v28_32)
abbrev v28_34:VC:=(.seq (.seq (.ops o28_1) v28_15) v28_33)
def ir28:FC:=⟨1,83,[.t 2],(.seq (.ops o28_0) v28_34)⟩
theorem c28:compM Tryd.prog [] 28 = some ir28:=by kernel_rfl
attribute [local go_sem] Nat.reduceEqDiff Nat.reduceAdd Nat.reduceMul reduceIte Nat.reduceLeDiff Nat.reduceLT Nat.reduceBEq reduceCtorEq
def chkA (p:Tr):List AV:=[iv p.le,iv 1,iv 5,iv p.nu,iv 1,iv 5,iv p.pi,iv 1,iv 99,iv p.sl,iv 0,iv (p.pi - 1),iv p.ga,iv (p.pi + p.sl + 1),iv (p.pa - 1),iv p.pa,iv 0,iv 999,iv p.sp,iv 0,iv 3,iv p.ti.length,iv 0,iv 24]
theorem chk_at {p:Tr} (hp:TrOk p):∀ i:Nat,i < 8 → ∃ a b c:Int,((chkA p).drop (i * 3)).take 3 = [iv a,iv b,iv c] ∧ inB a b c = true:=by
 have h1:=hp.le
 have h2:=hp.nu
 have h3:=hp.pi
 have h4:=hp.sl
 have h5:=hp.pa
 have h6:=hp.ga
 have h7:=hp.sp
 have h8:=hp.len
 intro i hi
 have:i = 0 ∨ i = 1 ∨ i = 2 ∨ i = 3 ∨ i = 4 ∨ i = 5 ∨ i = 6 ∨ i = 7:=by omega
 rcases this with rfl | rfl | rfl | rfl | rfl | rfl | rfl | rfl <;> refine ⟨_,_,_,rfl,?_⟩ <;> unfold inB <;> rw [Bool.and_eq_true,decide_eq_true_eq,decide_eq_true_eq] <;> omega
set_option maxRecDepth 20000 in
set_option maxHeartbeats 8000000 in
theorem check28 {p:Tr} (hp:TrOk p):FSpec Tryd.prog 28 [.agg p.avs] (iv 0):=by
 have h1:=hp.le
 have h2:=hp.nu
 have h3:=hp.pi
 have h4:=hp.sl
 have h5:=hp.pa
 have h6:=hp.ga
 have h8:=hp.len
 have w1:=w64 (n:=p.pi - 1) (by omega) (by omega)
 have w2:=w64 (n:=p.pi + p.sl) (by omega) (by omega)
 have w3:=w64 (n:=p.pi + p.sl + 1) (by omega) (by omega)
 have w4:=w64 (n:=p.pa - 1) (by omega) (by omega)
 have hcl:(p.ti.map fun n => [CD.int .i64 n]).length = p.ti.length:=List.length_map _
 refine FSpec_of c28 (Nat.le_refl _) (by decide) fun C hP hN hC hL => ?_; rw [init_st]
 simp only [ir28]
 refine WV_seq_ ?_
 (refine WV_op ?_; simp only [go_sem,hP,Tr.avs]; (repeat refine qJ ?_))
 refine WV_seq_ (WV_seq_ ?_)
 (refine WV_op ?_; simp only [go_sem,hP,isC,w1,w2,w3,w4,hcl]; (repeat refine qJ ?_))
 refine raw_bldA (e:=105) (n:=8) (sz:=3) (z:=List.replicate 24 (iv 0)) (ps:=[(0,3,.t 9),(3,3,.t 12),(6,3,.t 15),(9,3,.t 21),(12,3,.t 33),(15,3,.t 36),(18,3,.t 39),(21,3,.t 43)]) (r:=chkA p) (by kernel_rfl) (by kernel_rfl) (by kernel_rfl) rfl ?_ rfl ?_ ?_
 ·intro i q hq
  have:i = 0 ∨ i = 1 ∨ i = 2 ∨ i = 3 ∨ i = 4 ∨ i = 5 ∨ i = 6 ∨ i = 7 ∨ 8 ≤ i:=by omega
  rcases this with rfl | rfl | rfl | rfl | rfl | rfl | rfl | rfl | h
  case inr.inr.inr.inr.inr.inr.inr.inr => rw [List.getElem?_eq_none (by exact h)] at hq; cases hq
  all_goals (cases hq; exact ⟨_,rfl,rfl⟩)
 ·simp only [go_sem]
 simp only [go_sem,hP]
 refine WV_keep [1,44,45] ?_
 simp only [go_sem]
 generalize hcs:chkA p = cs
 have hat:=chk_at hp
 rw [hcs] at hat
 have hprg:∀ d,AV.prgL d cs = cs:=fun d => by rw [← hcs]; rfl
 clear hcs
 refine WV_block ?_
 have hov:∀ i:Nat,i < p.ti.length → inB (p.ti.getD i 0) 0 99999 = true:=fun i hi => by
  have:=hp.tm (p.ti.getD i 0) (by rw [List.getD_eq_getElem?_getD,List.getElem?_eq_getElem hi]; exact List.getElem_mem _)
  unfold inB; rw [Bool.and_eq_true,decide_eq_true_eq,decide_eq_true_eq]; exact this
 have hup:∀ i:Nat,i + 1 < p.ti.length → p.ti.getD i 0 < p.ti.getD (i + 1) 0:=fun i hi => by
  have:=List.pairwise_iff_getElem.1 hp.up i (i + 1) (by omega) hi (by omega)
  rw [List.getD_eq_getElem?_getD,List.getElem?_eq_getElem (by omega),List.getD_eq_getElem?_getD,List.getElem?_eq_getElem hi]; exact this
 have hga:∀ i:Nat,i < p.ti.length → (p.ti.map fun n => [CD.int .i64 n]).getD i [] = [.int .i64 (p.ti.getD i 0)]:=fun i hi => by
  rw [map_getD hi,List.getD_eq_getElem?_getD,List.getElem?_eq_getElem hi]; rfl
 refine WV_loopS (fun k:Nat => ⟨upd (upd (upd e0 45 (iv k)) 44 (.agg cs)) 1 (.bp 1 0),upd o0 1 (.box p.avs)⟩) (fun k => k ≤ 8) (fun k => 8 - k) 0 (Nat.zero_le _) ?_ ?_
 ·(refine Sub_of (by simp only [go_sem]; ((repeat' (first | exact EnvLe_e0 _ _ | refine EnvLe_upd ?_ ?_)) <;> ((try simp only [upd_app,e0_app,o0_app,Nat.reduceEqDiff,reduceIte]); first | exact AWk.refl _ _ | exact AWk.int (by omega) | exact AWk.int (by rw [w64 (by omega) (by omega)]; omega) | exact AWk.grow rfl | exact AWk.nil _ | exact AWk.of (by simp [Tr.avs,isC])))) (by simp only [go_sem]; exact ObjLe_au))
 ·intro k hk
  (repeat ((first | refine Va ?_ | refine Vb ?_ | refine Vc ?_ | refine Vd ?_ | refine Ve ?_ | refine Vf ?_); (try simp only [go_sem,hP]); (repeat refine qJ ?_)))
  (refine WV_cond rfl (fun h => ?_) (fun h => ?_))
  ·have hi:k < 8:=by simp at h; omega
   have hw:=w64 (n:=(k:Int) + 1) (by omega) (by omega)
   obtain ⟨a,b,c,ht,hin⟩:=hat k hi
   (refine WV_skip ?_; simp only [go_sem])
   refine WV_seq_ (WV_block (WV_seq_ ?_))
   (refine WV_op ?_; simp only [go_sem,hP]; (repeat refine qJ ?_))
   refine raw_idxA (e:=105) (n:=8) (sz:=3) (x':=.t 44) (i':=.t 45) (k:=.i64) (j:=k) (cs:=cs) (by kernel_rfl) (by kernel_rfl) (by kernel_rfl) rfl rfl rfl rfl rfl rfl (by omega) ?_
   simp only [go_sem,hP,Int.toNat_natCast,ht]
   (repeat refine qJ ?_)
   (repeat ((first | refine Va ?_ | refine Vb ?_ | refine Vc ?_ | refine Vd ?_ | refine Ve ?_ | refine Vf ?_); (try simp only [go_sem,hP]); (repeat refine qJ ?_)))
   (refine AS_pu (within54 a b c) ?_; simp only [go_sem,hP]; (repeat refine qJ ?_); (repeat ((first | refine Va ?_ | refine Vb ?_ | refine Vc ?_ | refine Vd ?_ | refine Ve ?_ | refine Vf ?_); (try simp only [go_sem,hP]); (repeat refine qJ ?_))))
   rw [hin]
   (refine WV_cond rfl (fun h => ?_) (fun h => ?_))
   ·simp at h
   (repeat ((first | refine Va ?_ | refine Vb ?_ | refine Vc ?_ | refine Vd ?_ | refine Ve ?_ | refine Vf ?_); (try simp only [go_sem,hP,hw]); (repeat refine qJ ?_)))
   refine ⟨k + 1,by omega,by omega,?_⟩
   simp only [hprg]
   exact Sub_au
  ·have hi:k = 8:=by simp at h; omega
   subst hi
   refine WV_exit ?_
   simp only [thenQ,inQ,reduceIte,beq_self_eq_true]
   (repeat ((first | refine Va ?_ | refine Vb ?_ | refine Vc ?_ | refine Vd ?_ | refine Ve ?_ | refine Vf ?_); (try simp only [go_sem,hP,Tr.avs,isC,hcl]); (repeat refine qJ ?_)))
   refine WV_loopS (fun k:Nat => ⟨upd (upd (upd (upd e0 1 (.bp 1 0)) 58 (.c (isC p.ti))) 59 (iv p.ti.length)) 60 (iv k),upd o0 1 (.box p.avs)⟩) (fun k => k ≤ p.ti.length) (fun k => p.ti.length - k) 0 (Nat.zero_le _) ?_ ?_
   ·(refine Sub_of (by simp only [go_sem]; ((repeat' (first | exact EnvLe_e0 _ _ | refine EnvLe_upd ?_ ?_)) <;> ((try simp only [upd_app,e0_app,o0_app,Nat.reduceEqDiff,reduceIte]); first | exact AWk.refl _ _ | exact AWk.int (by omega) | exact AWk.int (by rw [w64 (by omega) (by omega)]; omega) | exact AWk.grow rfl | exact AWk.nil _ | exact AWk.of (by simp [Tr.avs,isC])))) (by simp only [go_sem]; exact ObjLe_au))
   ·intro k hk
    (repeat ((first | refine Va ?_ | refine Vb ?_ | refine Vc ?_ | refine Vd ?_ | refine Ve ?_ | refine Vf ?_); (try simp only [go_sem,hP]); (repeat refine qJ ?_)))
    (refine WV_cond rfl (fun h => ?_) (fun h => ?_))
    ·have hi:k < p.ti.length:=by simpa using h
     have hw:=w64 (n:=(k:Int) + 1) (by omega) (by omega)
     have hgd:=hga k hi
     have hin:=hov k hi
     by_cases hz:k = 0
     ·subst hz
      have hd0:decide ((0:Int) < ((0:Nat):Int)) = false:=rfl
      (repeat ((first | refine Va ?_ | refine Vb ?_ | refine Vc ?_ | refine Vd ?_ | refine Ve ?_ | refine Vf ?_); (try simp only [go_sem,hP,hgd,isC,hcl,Int.toNat_natCast,Int.ofNat_lt,hi,Int.natCast_nonneg,Tr.avs,hd0]); (repeat refine qJ ?_)))
      have he0:(Go.IntKind.i64.wrap (((0:Nat):Int) - 1)).toNat = 0:=rfl
      (refine AS_pu (within54 (p.ti.getD 0 0) 0 99999) ?_; simp only [go_sem,hP,hin,hd0,he0,hgd,Tr.avs,isC]; (repeat refine qJ ?_); (repeat ((first | refine Va ?_ | refine Vb ?_ | refine Vc ?_ | refine Vd ?_ | refine Ve ?_ | refine Vf ?_); (try simp only [go_sem,hP,hin,hd0,he0,hgd,Tr.avs,isC]); (repeat refine qJ ?_))))
      (refine WV_cond rfl (fun h => ?_) (fun h => ?_))
      ·simp at h
      (repeat ((first | refine Va ?_ | refine Vb ?_ | refine Vc ?_ | refine Vd ?_ | refine Ve ?_ | refine Vf ?_); (try simp only [go_sem,hP,hw]); (repeat refine qJ ?_)))
      refine ⟨0 + 1,by omega,by omega,?_⟩
      (refine Sub_of (by simp only [go_sem]; ((repeat' (first | exact EnvLe_e0 _ _ | refine EnvLe_upd ?_ ?_)) <;> ((try simp only [upd_app,e0_app,o0_app,Nat.reduceEqDiff,reduceIte]); first | exact AWk.refl _ _ | exact AWk.int (by omega) | exact AWk.int (by rw [w64 (by omega) (by omega)]; omega) | exact AWk.grow rfl | exact AWk.nil _ | exact AWk.of (by simp [Tr.avs,isC])))) (by simp only [go_sem]; exact ObjLe_au))
     ·obtain ⟨j,rfl⟩ : ∃ j,k = j + 1:=⟨k - 1,by omega⟩
      have hgp:=hga j (by omega)
      have hlt:=hup j hi
      have wi:=w64 (n:=((j + 1:Nat):Int) - 1) (by omega) (by omega)
      have ei:(((j + 1:Nat):Int) - 1).toNat = j:=by omega
      have hd1:decide ((0:Int) < ((j + 1:Nat):Int)) = true:=by rw [decide_eq_true_eq]; omega
      have hle:decide (p.ti.getD (j + 1) 0 ≤ p.ti.getD j 0) = false:=by rw [decide_eq_false_iff_not]; omega
      (repeat ((first | refine Va ?_ | refine Vb ?_ | refine Vc ?_ | refine Vd ?_ | refine Ve ?_ | refine Vf ?_); (try simp only [go_sem,hP,hgd,isC,hcl,Int.toNat_natCast,Int.ofNat_lt,hi,Int.natCast_nonneg,wi,ei,hgp,hd1,hle,Tr.avs]); (repeat refine qJ ?_)))
      (refine AS_pu (within54 (p.ti.getD (j + 1) 0) 0 99999) ?_; simp only [go_sem,hP,hin,wi,ei,hgp,hd1,hle,Tr.avs,isC,hcl]; (repeat refine qJ ?_); (repeat ((first | refine Va ?_ | refine Vb ?_ | refine Vc ?_ | refine Vd ?_ | refine Ve ?_ | refine Vf ?_); (try simp only [go_sem,hP,hin,wi,ei,hgp,hd1,hle,Tr.avs,isC,hcl]); (repeat refine qJ ?_))))
      (refine WV_cond rfl (fun h => ?_) (fun h => ?_))
      ·simp at h
      (repeat ((first | refine Va ?_ | refine Vb ?_ | refine Vc ?_ | refine Vd ?_ | refine Ve ?_ | refine Vf ?_); (try simp only [go_sem,hP,hw]); (repeat refine qJ ?_)))
      refine ⟨j + 1 + 1,by omega,by omega,?_⟩
      (refine Sub_of (by simp only [go_sem]; ((repeat' (first | exact EnvLe_e0 _ _ | refine EnvLe_upd ?_ ?_)) <;> ((try simp only [upd_app,e0_app,o0_app,Nat.reduceEqDiff,reduceIte]); first | exact AWk.refl _ _ | exact AWk.int (by omega) | exact AWk.int (by rw [w64 (by omega) (by omega)]; omega) | exact AWk.grow rfl | exact AWk.nil _ | exact AWk.of (by simp [Tr.avs,isC])))) (by simp only [go_sem]; exact ObjLe_au))
    ·(repeat ((first | refine Va ?_ | refine Vb ?_ | refine Vc ?_ | refine Vd ?_ | refine Ve ?_ | refine Vf ?_); (try simp only [go_sem,hP]); (repeat refine qJ ?_)))
     (refine WV_ret ?_; simp only [thenQ,inQ,RetQ,RetOk,resAll,resA]; simp only [go_sem,tupA,AV.port,AV.portL,exists_eq_left'])
     exact AVle.refl _
end Go.Proofs.YtdoidahbimonhaaDoor
