/-
  Contracts of the layer's functions, of the laws' helpers and of the law; conditions: as each theorem states.
-/
import Derived.Test.YtlmfdmlochpfcaaDoorU5
import Derived.Test.YtlmfdmlochpfcaaDoorV3
import Derived.Test.YtlmfdmlochpfcaaDoorU4
set_option linter.unusedVariables false
set_option linter.unusedSimpArgs false
namespace Go.Proofs.YtlmfdmlochpfcaaDoor
open Go Go.V
abbrev o24_0:List Ins:=[⟨some 2,.mv (.k (.c (.str []))),none,true⟩,
 ⟨some 3,.mv (.k (.c (.int .i64 0))),none,true⟩]
abbrev o24_1:List Ins:=[⟨some 11,.mv (.t 0),none,true⟩,
 ⟨some 12,.len (.t 11),none,true⟩,
 ⟨some 13,.bin .gtr (.t 12) (.k (.c (.int .i64 40))),none,true⟩]
abbrev o24_2:List Ins:=[⟨some 2,.mv (.k (.c (.str []))),none,true⟩,
 ⟨some 3,.mv (.k (.c (.int .i64 2))),none,true⟩]
abbrev v24_3:VC:=(.seq (.ops o24_2) .ret)
abbrev v24_4:VC:=(.cond (.t 13) v24_3 .skip)
abbrev o24_5:List Ins:=[⟨some 4,.mv (.k (.c (.int .i64 1))),none,true⟩]
abbrev o24_6:List Ins:=[⟨some 14,.mv (.t 0),none,true⟩,
 ⟨some 15,.len (.t 14),none,true⟩,
 ⟨some 16,.mv (.k (.c (.int .i64 0))),none,true⟩]
abbrev o24_7:List Ins:=[⟨some 17,.bin .lss (.t 16) (.t 15),none,true⟩]
abbrev o24_8:List Ins:=[⟨some 18,.ia 1 (.t 14) (.t 16),none,true⟩,
 ⟨some 19,.ld true 1 (.t 18),none,true⟩,
 ⟨some 6,.mv (.t 19),none,true⟩]
abbrev o24_9:List Ins:=[⟨some 20,.mv (.t 6),none,true⟩,
 ⟨some 21,.call (.k (.fn 54 [])) [(.t 20)],none,true⟩,
 ⟨some 22,.un .not (.t 21),none,true⟩]
abbrev o24_10:List Ins:=[⟨some 2,.mv (.k (.c (.str []))),none,true⟩,
 ⟨some 3,.mv (.k (.c (.int .i64 1))),none,true⟩]
abbrev v24_11:VC:=(.seq (.ops o24_10) .ret)
abbrev v24_12:VC:=(.cond (.t 22) v24_11 .skip)
abbrev o24_13:List Ins:=[⟨some 23,.mv (.t 4),none,true⟩,
 ⟨some 24,.mv (.t 6),none,true⟩,
 ⟨some 25,.prim .slen [(.t 24)],none,true⟩,
 ⟨some 26,.bin .add (.t 25) (.k (.c (.int .i64 1))),none,true⟩,
 ⟨some 27,.mm true (.t 23) (.t 26),none,true⟩,
 ⟨some 4,.mv (.t 27),none,true⟩]
abbrev v24_14:VC:=(.seq (.seq (.ops o24_9) v24_12) (.ops o24_13))
abbrev v24_15:VC:=(.seq (.ops o24_8) v24_14)
abbrev o24_16:List Ins:=[⟨some 28,.bin .add (.t 16) (.k (.c (.int .i64 1))),none,true⟩,
 ⟨some 16,.mv (.t 28),none,true⟩]
abbrev v24_17:VC:=(.seq (.block 1 v24_15) (.ops o24_16))
abbrev v24_18:VC:=(.seq (.cond (.t 17) .skip (.exit 0)) v24_17)
abbrev v24_19:VC:=(.seq (.ops o24_7) v24_18)
-- K24_1: changed and kept: [16,4]
abbrev K24_1:List Nat:=[0,14,15]
abbrev v24_20:VC:=(.loop v24_19)
abbrev v24_21:VC:=(.block 0 v24_20)
abbrev o24_22:List Ins:=[⟨some 7,.mv (.k (.c (.raw (.slice none 0 0)))),none,true⟩]
abbrev o24_23:List Ins:=[⟨some 29,.mv (.t 0),none,true⟩,
 ⟨some 30,.len (.t 29),none,true⟩,
 ⟨some 31,.mv (.k (.c (.int .i64 0))),none,true⟩]
abbrev o24_24:List Ins:=[⟨some 32,.bin .lss (.t 31) (.t 30),none,true⟩]
abbrev o24_25:List Ins:=[⟨some 33,.ia 1 (.t 29) (.t 31),none,true⟩,
 ⟨some 34,.ld true 1 (.t 33),none,true⟩,
 ⟨some 9,.mv (.t 34),none,true⟩]
abbrev o24_26:List Ins:=[⟨some 35,.mv (.t 9),none,true⟩,
 ⟨some 36,.raw (.convert 9 68 (.tmp 35)),none,true⟩,
 ⟨some 37,.bsl 5 1 [(.k (.c (.int .u8 124)))],none,true⟩,
 ⟨some 38,.appv 5 1 1 (.t 36) (.t 37),none,true⟩,
 ⟨some 10,.mv (.t 38),none,true⟩]
abbrev o24_27:List Ins:=[⟨some 39,.mv (.t 10),none,true⟩,
 ⟨some 40,.len (.t 39),none,true⟩,
 ⟨some 41,.mv (.t 4),none,true⟩,
 ⟨some 42,.bin .lss (.t 40) (.t 41),none,true⟩]
abbrev v24_28:VC:=(.cond (.t 42) .skip (.exit 4))
abbrev o24_29:List Ins:=[⟨some 43,.mv (.t 10),none,true⟩,
 ⟨some 44,.bsl 5 1 [(.k (.c (.int .u8 32)))],none,true⟩,
 ⟨some 45,.appv 5 1 1 (.t 43) (.t 44),none,true⟩,
 ⟨some 10,.mv (.t 45),none,true⟩]
abbrev v24_30:VC:=(.block 5 (.ops o24_29))
abbrev v24_31:VC:=(.seq (.seq (.ops o24_27) v24_28) v24_30)
-- K24_3: changed and kept: [10]
abbrev v24_32:VC:=(.loop v24_31)
abbrev o24_33:List Ins:=[⟨some 46,.mv (.t 7),none,true⟩,
 ⟨some 47,.mv (.t 10),none,true⟩,
 ⟨some 48,.bsl 5 1 [(.k (.c (.int .u8 63)))],none,true⟩,
 ⟨some 49,.appv 5 1 1 (.t 47) (.t 48),none,true⟩,
 ⟨some 50,.bslv 68 1 [(.t 49)],none,true⟩,
 ⟨some 51,.appv 68 1 24 (.t 46) (.t 50),none,true⟩,
 ⟨some 7,.mv (.t 51),none,true⟩]
abbrev v24_34:VC:=(.seq (.block 4 v24_32) (.ops o24_33))
abbrev v24_35:VC:=(.seq (.ops o24_26) v24_34)
abbrev v24_36:VC:=(.seq (.ops o24_25) v24_35)
abbrev o24_37:List Ins:=[⟨some 52,.bin .add (.t 31) (.k (.c (.int .i64 1))),none,true⟩,
 ⟨some 31,.mv (.t 52),none,true⟩]
abbrev v24_38:VC:=(.seq (.block 3 v24_36) (.ops o24_37))
abbrev v24_39:VC:=(.seq (.cond (.t 32) .skip (.exit 2)) v24_38)
abbrev v24_40:VC:=(.seq (.ops o24_24) v24_39)
-- K24_2: changed and kept: [31,7]
abbrev v24_41:VC:=(.loop v24_40)
abbrev v24_42:VC:=(.block 2 v24_41)
abbrev o24_43:List Ins:=[⟨some 53,.mv (.t 7),none,true⟩,
 ⟨some 54,.bsl 5 1 [(.k (.c (.int .u8 63)))],none,true⟩,
 ⟨some 55,.mv (.t 4),none,true⟩,
 ⟨some 56,.bin .add (.t 55) (.k (.c (.int .i64 1))),none,true⟩,
 ⟨some 57,.call (.k (.fn 55 [])) [(.t 54),(.t 56)],none,true⟩,
 ⟨some 58,.bslv 68 1 [(.t 57)],none,true⟩,
 ⟨some 59,.appv 68 1 24 (.t 53) (.t 58),none,true⟩,
 ⟨some 7,.mv (.t 59),none,true⟩]
abbrev o24_44:List Ins:=[⟨some 60,.mv (.t 7),none,true⟩,
 ⟨some 61,.call (.k (.fn 56 [])) [(.t 60)],none,true⟩]
abbrev o24_45:List Ins:=[⟨some 62,.mv (.t 7),none,true⟩,
 ⟨some 63,.call (.k (.fn 45 [])) [(.t 62)],none,true⟩,
 ⟨some 2,.mv (.t 63),none,true⟩,
 ⟨some 3,.mv (.k (.c (.int .i64 0))),none,true⟩]
abbrev v24_46:VC:=(.seq (.ops o24_45) .ret)
abbrev v24_47:VC:=(.seq (.ops o24_44) v24_46)
abbrev v24_48:VC:=(.seq (.ops o24_43) v24_47)
abbrev v24_49:VC:=(.seq (.seq (.ops o24_23) v24_42) v24_48)
abbrev v24_50:VC:=(.seq (.ops o24_22) v24_49)
abbrev v24_51:VC:=(.seq (.seq (.ops o24_6) v24_21) v24_50)
abbrev v24_52:VC:=(.seq (.ops o24_5) v24_51)
abbrev v24_53:VC:=(.seq (.seq (.ops o24_1) v24_4) v24_52)
def ir24:FC:=⟨1,64,[.t 2,.t 3],(.seq (.ops o24_0) v24_53)⟩
theorem c24:compM Tryd.prog [100038,100045,100049,100050,100051,100058,100059] 24 = some ir24:=by kernel_rfl
attribute [local go_sem] Nat.reduceEqDiff Nat.reduceAdd Nat.reduceMul reduceIte Nat.reduceLeDiff Nat.reduceLT Nat.reduceBEq reduceCtorEq
theorem bcells_take (s:List UInt8) (j:Nat):List.take (s.length * 1) (cellsG bcd s j) = cellsG bcd s 0:=cellsG_take bcd_one s j
theorem bcells_snoc (s:List UInt8) (b:UInt8) (j:Nat):cellsG bcd s 0 ++ [.c (.int .u8 b.toNat)] ++ List.replicate j .non = cellsG bcd (s ++ [b]) j:=by simp [cellsG,flatG,bcd]
theorem bcells_app (d:Nat) (s:List UInt8) (b:UInt8) (j:Nat):AV.prgL d (cellsG bcd s 0 ++ List.map AV.c [[CD.int .u8 (b.toNat:Int)]].flatten ++ List.replicate j .non) = cellsG bcd (s ++ [b]) j:=by
 have:=bcells_snoc s b j
 rw [← prg_cellsG bcd d (s ++ [b]) j,← this]; rfl
def maxW (ts:List (List UInt8)):Nat:=ts.foldl (fun m s => max m (s.length + 1)) 1
theorem maxW_snoc {ts:List (List UInt8)} {k:Nat} (h:k < ts.length):maxW (ts.take (k + 1)) = max (maxW (ts.take k)) (ts[k].length + 1):=by
 unfold maxW
 rw [List.take_succ_eq_append_getElem h,List.foldl_append]; rfl
theorem foldW_ge:∀ (ts:List (List UInt8)) (m:Nat),m ≤ ts.foldl (fun m s => max m (s.length + 1)) m ∧ ∀ s ∈ ts,s.length + 1 ≤ ts.foldl (fun m s => max m (s.length + 1)) m
 | [],m => ⟨Nat.le_refl _,fun s h => by cases h⟩
 | t :: ts,m => by
  obtain ⟨h1,h2⟩:=foldW_ge ts (max m (t.length + 1))
  refine ⟨by simp only [List.foldl_cons]; omega,fun s hs => ?_⟩
  simp only [List.foldl_cons]
  rcases List.mem_cons.1 hs with rfl | hs
  ·omega
  ·exact h2 s hs
theorem maxW_ge (ts:List (List UInt8)):1 ≤ maxW ts ∧ ∀ s ∈ ts,s.length + 1 ≤ maxW ts:=foldW_ge ts 1
theorem foldW_le (b:Nat):∀ (ts:List (List UInt8)) (m:Nat),m ≤ b → (∀ s ∈ ts,s.length + 1 ≤ b) → ts.foldl (fun m s => max m (s.length + 1)) m ≤ b
 | [],m,h,_ => h
 | t :: ts,m,h,h2 => foldW_le b ts _ (by have:=h2 t (by simp); simp only; omega) fun s hs => h2 s (by simp [hs])
theorem maxW_le {ts:List (List UInt8)} {b:Nat} (h1:1 ≤ b) (h:∀ s ∈ ts,s.length + 1 ≤ b):maxW ts ≤ b:=foldW_le b ts 1 h1 h
def rowB (w:Nat) (s:List UInt8):List UInt8:=s ++ 124 :: List.replicate (w - (s.length + 1)) 32
def rowW (w:Nat) (s:List UInt8):List UInt8:=rowB w s ++ [63]
def rowsW (ts:List (List UInt8)):List (List UInt8):=ts.map (rowW (maxW ts)) ++ [List.replicate (maxW ts + 1) 63]
def writeG (ts:List (List UInt8)):List UInt8 × Int :=
 if 40 < ts.length then ([],2) else if ts.all isTx then (textG (bytesG (restG (ts.length + 1) (maxW ts + 1) (valsG (rowsW ts)))),0) else ([],1)
theorem isTx_len {s:List UInt8} (h:isTx s = true):s.length ≤ 30:=by
 unfold isTx at h
 simp only [Bool.and_eq_true,decide_eq_true_eq] at h
 exact h.2
theorem rowW_len {w:Nat} {s:List UInt8} (h:s.length + 1 ≤ w):(rowW w s).length = w + 1:=by simp [rowW,rowB]; omega
theorem rowW_ok {w:Nat} {s:List UInt8} (h:isTx s = true):∀ b ∈ rowW w s,BOk b:=by
 intro b hb
 unfold rowW rowB at hb
 simp only [List.mem_append,List.mem_cons,List.mem_replicate,List.not_mem_nil,or_false] at hb
 rcases hb with (hb | rfl | ⟨_,rfl⟩) | rfl
 ·unfold isTx at h
  simp only [Bool.and_eq_true] at h
  have:=List.all_eq_true.1 h.1 b hb
  exact okB_ok (by unfold okB; rw [this]; simp)
 ·unfold BOk; decide
 ·unfold BOk; decide
 ·unfold BOk; decide
theorem rowsW_len (ts:List (List UInt8)):(rowsW ts).length = ts.length + 1:=by simp [rowsW]
theorem rowsW_row {ts:List (List UInt8)}:∀ l ∈ rowsW ts,l.length = maxW ts + 1:=by
 intro l hl
 unfold rowsW at hl
 rcases List.mem_append.1 hl with hl | hl
 ·obtain ⟨s,hs,rfl⟩:=List.mem_map.1 hl
  exact rowW_len ((maxW_ge ts).2 s hs)
 ·simp only [List.mem_singleton] at hl
  subst hl; simp
theorem rowsW_byte {ts:List (List UInt8)} (h:ts.all isTx = true):∀ l ∈ rowsW ts,∀ b ∈ l,BOk b:=by
 intro l hl b hb
 unfold rowsW at hl
 rcases List.mem_append.1 hl with hl | hl
 ·obtain ⟨s,hs,rfl⟩:=List.mem_map.1 hl
  exact rowW_ok (List.all_eq_true.1 h s hs) b hb
 ·simp only [List.mem_singleton] at hl
  subst hl
  rw [List.eq_of_mem_replicate hb]
  unfold BOk; decide
theorem rowsW_sok {ts:List (List UInt8)} (h:ts.all isTx = true) (h40:¬ 40 < ts.length):SOk (rowsW ts) (maxW ts + 1):=by
 have h1:=(maxW_ge ts).1
 have h2:=maxW_le (ts:=ts) (b:=31) (by omega) fun s hs => by have:=isTx_len (List.all_eq_true.1 h s hs); omega
 exact ⟨by rw [rowsW_len]; omega,by rw [rowsW_len]; omega,by omega,by omega,rowsW_row,rowsW_byte h⟩
set_option maxRecDepth 20000 in
set_option maxHeartbeats 16000000 in
theorem write24 (ts:List (List UInt8)) (hts:∀ s ∈ ts,s.length ≤ 1000000) (htl:ts.length ≤ 1000000):FSpec Tryd.prog 24 [.c (strsV ts)] (.tup [.c (.str (writeG ts).1),iv (writeG ts).2]):=by
 have hmax:maxLen = 9223372036854775807:=rfl
 refine FSpec_ofP c24 (Nat.le_refl _) (by decide) fun C hP hN hC hpin hL => ?_; rw [init_st]
 simp only [ir24,strsV]
 (repeat ((first | refine Va ?_ | refine Vb ?_ | refine Vc ?_ | refine Vd ?_ | refine Ve ?_ | refine Vf ?_); (try simp only [go_sem,hP,List.length_map]); (repeat refine qJ ?_)))
 by_cases h40:40 < ts.length
 ·have hwr:writeG ts = ([],2):=by unfold writeG; rw [if_pos h40]
  rw [hwr]
  (refine WV_cond rfl (fun h => ?_) (fun h => ?_))
  ·(repeat ((first | refine Va ?_ | refine Vb ?_ | refine Vc ?_ | refine Vd ?_ | refine Ve ?_ | refine Vf ?_); (try simp only [go_sem,hP]); (repeat refine qJ ?_)))
   (refine WV_ret ?_; simp only [thenQ,inQ,RetQ,RetOk,resAll,resA]; simp only [go_sem,tupA,AV.port,AV.portL,exists_eq_left'])
   exact AVle.refl _
  ·simp at h; omega
 have hwr:writeG ts = if ts.all isTx then (textG (bytesG (restG (ts.length + 1) (maxW ts + 1) (valsG (rowsW ts)))),0) else ([],1):=by unfold writeG; rw [if_neg h40]
 rw [hwr]
 (refine WV_cond rfl (fun h => ?_) (fun h => ?_))
 ·simp at h; omega
 (repeat ((first | refine Va ?_ | refine Vb ?_ | refine Vc ?_ | refine Vd ?_ | refine Ve ?_ | refine Vf ?_); (try simp only [go_sem,hP,List.length_map]); (repeat refine qJ ?_)))
 refine WV_loopK K24_1 [] (fun k:Nat => k ≤ ts.length ∧ (ts.take k).all isTx = true) (fun k => ts.length - k) (fun k => [(16,iv k),(4,iv (maxW (ts.take k)))]) (fun _ => []) 0 ⟨Nat.zero_le _,rfl⟩ ?_ ?_
 ·(refine Sub_of (by simp only [go_sem]; ((repeat' (first | exact EnvLe_e0 _ _ | refine EnvLe_upd ?_ ?_)) <;> ((try simp only [upd_app,e0_app,o0_app,Nat.reduceEqDiff,reduceIte]); first | exact AWk.refl _ _ | exact AWk.int (by omega) | exact AWk.int (by rw [w64 (by omega) (by omega)]; omega) | exact AWk.grow rfl | exact AWk.nil _ | exact AWk.of (by simp [maxW])))) (by simp only [go_sem]; exact ObjLe_au))
 ·intro k ⟨hk0,hall⟩
  simp only [go_sem]
  (repeat ((first | refine Va ?_ | refine Vb ?_ | refine Vc ?_ | refine Vd ?_ | refine Ve ?_ | refine Vf ?_); (try simp only [go_sem,hP]); (repeat refine qJ ?_)))
  (refine WV_cond rfl (fun h => ?_) (fun h => ?_))
  ·have hk:k < ts.length:=by simpa using h
   have hsn:=maxW_snoc hk
   have has:=all_snoc isTx hk
   have hlk:=hts _ (List.getElem_mem hk)
   have hw0:=maxW_ge (ts.take k)
   have hmwl:maxW (ts.take k) ≤ 1000001:=maxW_le (by omega) fun s hs => by have:=hts s (List.mem_of_mem_take hs); omega
   have hw2:=w64 (n:=(k:Int) + 1) (by omega) (by omega)
   have hw3:=w64 (n:=((ts[k]).length:Int) + 1) (by omega) (by omega)
   (repeat ((first | refine Va ?_ | refine Vb ?_ | refine Vc ?_ | refine Vd ?_ | refine Ve ?_ | refine Vf ?_); (try simp only [go_sem,hP,map_getD hk,Int.toNat_natCast,Int.ofNat_lt,hk,Int.natCast_nonneg,List.length_map]); (repeat refine qJ ?_)))
   (refine AS_pu (istext54 ts[k] (by omega)) ?_; simp only [go_sem,hP]; (repeat refine qJ ?_); (repeat ((first | refine Va ?_ | refine Vb ?_ | refine Vc ?_ | refine Vd ?_ | refine Ve ?_ | refine Vf ?_); (try simp only [go_sem,hP]); (repeat refine qJ ?_))))
   by_cases htx:isTx ts[k] = true
   ·rw [hall,htx] at has
    rw [htx]
    (refine WV_cond rfl (fun h => ?_) (fun h => ?_))
    ·simp at h
    (repeat ((first | refine Va ?_ | refine Vb ?_ | refine Vc ?_ | refine Vd ?_ | refine Ve ?_ | refine Vf ?_); (try simp only [go_sem,hP,hw2,hw3]); (repeat refine qJ ?_)))
    refine ⟨k + 1,⟨by omega,has⟩,by omega,?_⟩
    rw [hsn]
    (refine Sub_of (by simp only [go_sem]; ((repeat' (first | exact EnvLe_e0 _ _ | refine EnvLe_upd ?_ ?_)) <;> ((try simp only [upd_app,e0_app,o0_app,Nat.reduceEqDiff,reduceIte]); first | exact AWk.refl _ _ | exact AWk.int (by omega) | exact AWk.int (by rw [w64 (by omega) (by omega)]; omega) | exact AWk.grow rfl | exact AWk.nil _ | exact AWk.of (by simp; omega)))) (by simp only [go_sem]; exact ObjLe_au))
   ·have hna:ts.all isTx = false:=all_take_false isTx hk (by simpa using htx)
    rw [hna,if_neg (by simp)]
    (refine WV_cond rfl (fun h => ?_) (fun h => ?_))
    ·(repeat ((first | refine Va ?_ | refine Vb ?_ | refine Vc ?_ | refine Vd ?_ | refine Ve ?_ | refine Vf ?_); (try simp only [go_sem,hP]); (repeat refine qJ ?_)))
     (refine WV_ret ?_; simp only [thenQ,inQ,RetQ,RetOk,resAll,resA]; simp only [go_sem,tupA,AV.port,AV.portL,exists_eq_left'])
     exact AVle.refl _
    ·simp at h; exact (htx h).elim
  ·have hk:k = ts.length:=by simp at h; omega
   subst hk
   rw [List.take_length] at hall ⊢
   rw [hall,if_pos rfl]
   have hlen:∀ s ∈ ts,s.length ≤ 30:=fun s hs => isTx_len (List.all_eq_true.1 hall s hs)
   have hmw:=maxW_le (ts:=ts) (b:=31) (by omega) fun s hs => by have:=hlen s hs; omega
   have hmg:=maxW_ge ts
   have hsok:=rowsW_sok hall h40
   have hrws:rowsW ts = ts.map (rowW (maxW ts)) ++ [List.replicate (maxW ts + 1) 63]:=rfl
   clear hwr htl hts
   generalize hw:maxW ts = w at hmw hmg hsok hrws
   (repeat ((first | refine Va ?_ | refine Vb ?_ | refine Vc ?_ | refine Vd ?_ | refine Ve ?_ | refine Vf ?_); (try simp only [go_sem,hP,List.length_map]); (repeat refine qJ ?_)))
   refine WV_loopS (fun p:List BRow × AV × Ob => ⟨upd (upd (upd (upd (upd e0 4 (iv w)) 29 (.c (.sl 1 (List.map (fun t => [CD.str t]) ts)))) 30 (iv ts.length)) 31 (iv p.1.length)) 7 p.2.1,fam 1001 bcd p.1 (upd o0 51 p.2.2)⟩) (fun p => p.1.length ≤ ts.length ∧ p.1.map Row.l = (ts.take p.1.length).map (rowW w) ∧ GrowG 1001 51 p.1 p.2.1 p.2.2) (fun p => ts.length - p.1.length) ([],.c (.raw (.slice none 0 0)),.none) ⟨Nat.zero_le _,rfl,GrowG.nil _ _⟩ ?_ ?_
   ·refine Sub_of (by exact EnvLe_au) ?_
    rw [fam_nil]
    exact ObjLe_au
   ·rintro ⟨R,y,x⟩ ⟨hr0,hrl,hg⟩
    simp only at hr0 hrl hg ⊢
    (repeat ((first | refine Va ?_ | refine Vb ?_ | refine Vc ?_ | refine Vd ?_ | refine Ve ?_ | refine Vf ?_); (try simp only [go_sem,hP]); (repeat refine qJ ?_)))
    have hyd:=hg.dg.1
    have hyv:=hg.dg.2
    have gp:∀ d,d ≠ 51 → d < 1001 → AV.prg d y = y ∧ Ob.prg d x = x:=fun d h1 h2 => hg.prg h1 h2
    obtain ⟨o1,ho1⟩ : ∃ o1,o1 = upd o0 51 x:=⟨_,rfl⟩
    have gq:∀ d,d ≠ 51 → d < 1001 → prgO d o1 = o1:=fun d h1 h2 => by rw [ho1,prgO_upd,prgO_o0,(gp d h1 h2).2]
    have gz:∀ d,d ≠ 51 → o1 d = .none:=fun d h1 => by rw [ho1,upd_app,if_neg h1]; rfl
    have p36:=gp 36 (by decide) (by decide)
    have q36:prgO 36 o1 = o1:=gq 36 (by decide) (by decide)
    have z36:o1 36 = .none:=gz 36 (by decide)
    have p37:=gp 37 (by decide) (by decide)
    have q37:prgO 37 o1 = o1:=gq 37 (by decide) (by decide)
    have z37:o1 37 = .none:=gz 37 (by decide)
    have p38:=gp 38 (by decide) (by decide)
    have q38:prgO 38 o1 = o1:=gq 38 (by decide) (by decide)
    have z38:o1 38 = .none:=gz 38 (by decide)
    have p44:=gp 44 (by decide) (by decide)
    have q44:prgO 44 o1 = o1:=gq 44 (by decide) (by decide)
    have z44:o1 44 = .none:=gz 44 (by decide)
    have p45:=gp 45 (by decide) (by decide)
    have q45:prgO 45 o1 = o1:=gq 45 (by decide) (by decide)
    have z45:o1 45 = .none:=gz 45 (by decide)
    have p48:=gp 48 (by decide) (by decide)
    have q48:prgO 48 o1 = o1:=gq 48 (by decide) (by decide)
    have z48:o1 48 = .none:=gz 48 (by decide)
    have p49:=gp 49 (by decide) (by decide)
    have q49:prgO 49 o1 = o1:=gq 49 (by decide) (by decide)
    have z49:o1 49 = .none:=gz 49 (by decide)
    rw [← ho1]
    (refine WV_cond rfl (fun h => ?_) (fun h => ?_))
    ·have hk:R.length < ts.length:=by simpa using h
     have hl30:=hlen _ (List.getElem_mem hk)
     have hlw:=hmg.2 _ (List.getElem_mem hk)
     have hw2:=w64 (n:=(R.length:Int) + 1) (by omega) (by omega)
     generalize hs:ts[R.length] = s at hl30 hlw
     (refine WV_skip ?_; simp only [go_sem])
     refine WV_seq_ (WV_block (WV_seq_ ?_))
     (refine WV_op ?_; simp only [go_sem,hP,map_getD hk,Int.toNat_natCast,Int.ofNat_lt,hk,Int.natCast_nonneg,List.length_map,hs]; (repeat refine qJ ?_))
     refine WV_keep [4,7,9,29,30,31] ?_
     simp only [go_sem]
     refine WV_seq_ ?_
     (refine WV_op ?_; simp only [go_sem,hP]; (repeat refine qJ ?_))
     refine raw_sb (x':=.t 35) (e:=5) (by kernel_rfl) (by kernel_rfl) (by kernel_rfl) rfl rfl rfl (by show (fam 1001 bcd R o1 36).isNone = true; rw [fam_lo (by decide),z36]; rfl) (by omega) ?_
     intro cap j k1 k2 k3
     simp only [go_sem,prg_cellsG,prgO_fam,p36,p37,p38,q36,q37,q38,z36,z37,z38,fam_upd,fam_lo]
     refine ⟨by rw [cellsG_len bcd_one]; omega,by omega,by omega,?_⟩
     intro cap1 j1 q1 q2 q3
     rw [bcells_take,show (124:Int) = ((UInt8.toNat 124:Nat):Int) from rfl,bcells_app]
     have rny:=hg.rn (d:=38) (n:=45) (by decide) (by decide) (by decide) (by decide)
     have rno:rnP 38 45 o1 = o1:=by rw [ho1,rnP_upd,rnP_o0,rny.2]
     refine WV_keep [4,7,10,29,30,31] ?_
     simp only [go_sem]
     refine WV_move' 38 45 (by decide) (by decide) (by rw [fam_lo (by decide)]; simp only [upd_app,Nat.reduceEqDiff,if_false]; exact z45) ?_
     unfold rnO
     rw [rnP_fam,fam_lo (by decide),fam_upd (by decide),fam_upd (by decide)]
     simp only [go_sem,rnP_upd,rnE_upd,rnE_e0,rnP_o0,rn_cellsG,rn_non,AV.rn,AV.rnL,rny,rno,rn_boxO]
     refine WV_seq_ (WV_block ?_)
     have hlen1:(s ++ [124]).length = s.length + 1:=by simp
     refine WV_loopS (fun p:List UInt8 × Nat × Nat => ⟨upd (upd (upd (upd (upd (upd e0 4 (iv w)) 29 (.c (.sl 1 (List.map (fun t => [CD.str t]) ts)))) 30 (iv ts.length)) 31 (iv R.length)) 7 y) 10 (.vw 1 45 0 p.1.length p.2.1),fam 1001 bcd R (upd o1 45 (.box (cellsG bcd p.1 p.2.2)))⟩) (fun p => p.1.length ≤ w ∧ (∃ m,p.1 = s ++ 124 :: List.replicate m 32) ∧ p.1.length ≤ p.2.1 ∧ p.2.1 ≤ maxLen ∧ p.2.1 ≤ p.1.length + p.2.2) (fun p => w - p.1.length) (s ++ [124],cap1,j1) ⟨by simp only; rw [hlen1]; exact hlw,⟨0,rfl⟩,by simp only; rw [hlen1]; exact q1,q2,by simp only; rw [hlen1]; omega⟩ ?_ ?_
     ·simp only [hlen1]
      refine Sub_of ?_ (ObjLe_fam ?_)
      ·exact EnvLe_au
      ·intro n
       by_cases e45:n = 45
       ·subst e45; left; simp [upd_app]
       by_cases e36:n = 36
       ·subst e36; right; simpa [upd_app] using z36
       by_cases e37:n = 37
       ·subst e37; right; simpa [upd_app] using z37
       by_cases e38:n = 38
       ·subst e38; right; simpa [upd_app] using z38
       left; simp [upd_app,e36,e37,e38,e45]
     ·rintro ⟨l,c,j2⟩ ⟨i1,⟨m,i2⟩,i3,i4,i5⟩
      simp only at i1 i2 i3 i4 i5 ⊢
      (repeat ((first | refine Va ?_ | refine Vb ?_ | refine Vc ?_ | refine Vd ?_ | refine Ve ?_ | refine Vf ?_); (try simp only [go_sem,hP]); (repeat refine qJ ?_)))
      (refine WV_cond rfl (fun h => ?_) (fun h => ?_))
      ·have hlt:l.length < w:=by simpa using h
       (refine WV_skip ?_; simp only [go_sem])
       refine WV_block ?_
       (refine WV_op ?_; simp only [go_sem,hP,fam_lo,fam_upd,prgO_fam,p44,q44,p45,q45,z44,z45,prg_cellsG]; (repeat refine qJ ?_))
       refine ⟨by rw [cellsG_len bcd_one]; omega,by omega,by omega,?_⟩
       intro c3 j3 u1 u2 u3
       rw [bcells_take,show (32:Int) = ((UInt8.toNat 32:Nat):Int) from rfl,bcells_app]
       have hl1:(l ++ [32]).length = l.length + 1:=by simp
       refine ⟨(l ++ [32],c3,j3),⟨by simp only; omega,⟨m + 1,by simp only; rw [i2,List.replicate_succ']; simp⟩,by simp only; omega,u2,by simp only; omega⟩,by simp only; omega,?_⟩
       simp only [hl1]
       refine Sub_of ?_ (ObjLe_fam ?_)
       ·exact EnvLe_au
       ·intro n
        by_cases e45:n = 45
        ·subst e45; left; simp [upd_app]
        by_cases e44:n = 44
        ·subst e44; right; simpa [upd_app] using z44
        left; simp [upd_app,e44,e45]
      ·have hlt:l.length = w:=by simp at h; omega
       refine WV_exit ?_
       simp only [thenQ,inQ,reduceIte,beq_self_eq_true]
       (refine WV_split 4 ?_; simp only [List.take_succ_cons,List.take_zero,List.take_nil,List.drop_succ_cons,List.drop_zero,List.drop_nil]; simp only [go_sem,hP,fam_lo,fam_upd,prgO_fam,p48,q48,p49,q49,z45,z48,z49,prg_cellsG,hyd,hyv]; (repeat refine qJ ?_))
       refine ⟨hyd,by rw [cellsG_len bcd_one]; omega,by omega,by omega,?_⟩
       intro c3 j3 u1 u2 u3
       rw [bcells_take,show (63:Int) = ((UInt8.toNat 63:Nat):Int) from rfl,bcells_app]
       have hl2:l ++ [63] = rowW w s:=by
        unfold rowW rowB
        rw [i2] at hlt ⊢
        simp at hlt
        congr 3
        congr 1
        omega
       have hl3:(l ++ [63]).length = l.length + 1:=by simp
       refine SOps_addrow (cds:=bcd) (b:=1001) (D:=51) (E:=49) (B:=50) (tr:=49) (tg:=46) (R:=R) (l:=l ++ [63]) (j:=j3) (cap:=c3) (y:=y) (x:=x) [4,29,30,31] hpin (by decide) (by decide) (by decide) (by decide) (by decide) (by decide) (by rw [hl3]; rfl) (by show AV.prg 49 (AV.prg 48 y.dv) = y; rw [hyv,p48.1,p49.1]) (by decide) hg ?_ (by omega) (by decide) (by rfl) hg.any ?_
       ·rw [ho1]
        refine ObjLe_fam fun n => ?_
        by_cases e49:n = 49
        ·subst e49; left; simp [upd_app]
        by_cases e51:n = 51
        ·subst e51; left; simp [upd_app]
        right; simp [upd_app,e49,e51,o0_app]
       intro c4 j4 v1 v2 v3
       refine SOps_ops ?_
       simp only [go_sem,keepE]
       (repeat ((first | refine Va ?_ | refine Vb ?_ | refine Vc ?_ | refine Vd ?_ | refine Ve ?_ | refine Vf ?_); (try simp only [go_sem,hP,hw2]); (repeat refine qJ ?_)))
       have hrl2:(R ++ [(⟨l ++ [63],j3,c3⟩ : BRow)]).length = R.length + 1:=by simp
       refine ⟨(R ++ [⟨l ++ [63],j3,c3⟩],.vw 1 51 0 (R.length + 1) c4,.box (refs 1001 1 0 (R ++ [⟨l ++ [63],j3,c3⟩]) ++ List.replicate j4 .non)),⟨by simp only [hrl2]; omega,?_,?_⟩,by simp only [hrl2]; omega,?_⟩
       ·simp only [hrl2,List.map_append,hrl,List.map_cons,List.map_nil]
        rw [List.take_succ_eq_append_getElem hk,List.map_append,hs,hl2]; rfl
       ·rw [← hrl2]
        exact GrowG.some (by simp) (by rw [hrl2]; exact v1) v2 (by rw [hrl2]; omega)
       ·simp only [hrl2]
        refine Sub_of ?_ (ObjLe.rfl' _)
        exact EnvLe_au
    ·have hk:R.length = ts.length:=by simp at h; omega
     rw [hk,List.take_length] at hrl
     refine WV_exit ?_
     simp only [thenQ,inQ,reduceIte,beq_self_eq_true]
     rw [ho1]
     refine WV_regrow (b:=1001) (D:=51) (D':=59) (t:=7) [4] (by decide) (by decide) (by decide) hpin hg ?_ ?_
     ·rfl
     clear hg hyd hyv gp
     intro y' x' hg
     have hyd:=hg.dg.1
     have hyv:=hg.dg.2
     simp only [go_sem,keepE]
     have hw2:=w64 (n:=(w:Int) + 1) (by omega) (by omega)
     have hre:=repeat55 (w + 1) (by omega)
     obtain ⟨o2,ho2⟩ : ∃ o2,o2 = upd o0 59 x':=⟨_,rfl⟩
     have gp:∀ d,d ≠ 59 → d < 1001 → AV.prg d y' = y' ∧ Ob.prg d x' = x':=fun d h1 h2 => hg.prg h1 h2
     have gq:∀ d,d ≠ 59 → d < 1001 → prgO d o2 = o2:=fun d h1 h2 => by rw [ho2,prgO_upd,prgO_o0,(gp d h1 h2).2]
     have gz:∀ d,d ≠ 59 → o2 d = .none:=fun d h1 => by rw [ho2,upd_app,if_neg h1]; rfl
     have p54:=gp 54 (by decide) (by decide)
     have q54:=gq 54 (by decide) (by decide)
     have z54:=gz 54 (by decide)
     have p57:=gp 57 (by decide) (by decide)
     have q57:=gq 57 (by decide) (by decide)
     have z57:=gz 57 (by decide)
     rw [← ho2]
     refine WV_seq_ ?_
     (refine WV_split 5 ?_; simp only [List.take_succ_cons,List.take_zero,List.take_nil,List.drop_succ_cons,List.drop_zero,List.drop_nil]; simp only [go_sem,hP,hw2,fam_lo,fam_upd,prgO_fam,p54,q54,z54,hyd,hyv]; (repeat refine qJ ?_))
     refine ⟨hyd,?_⟩
     have hre2:FSpecN Tryd.prog 55 [.c (.sl 1 [[.int .u8 63]]),iv ((w:Int) + 1)] (fun r os => r = .vw 1 1000 0 (w + 1) (w + 1) ∧ ∃ j,os = [.box (cellsG bcd (List.replicate (w + 1) 63) j)]):=hre
     refine AS_new hre2 rfl rfl rfl ?_ ?_
     ·simp only [go_sem,fam_lo,AV.portL,AV.port]
     rintro r os ⟨rfl,j,rfl⟩
     refine ⟨[57],.vw 1 57 0 (w + 1) (w + 1),[.box (cellsG bcd (List.replicate (w + 1) 63) j)],by decide,rfl,?_,rfl,?_,?_⟩
     ·simp only [List.all_cons,List.all_nil,Bool.and_true]
      show (decide (57 < 1000) && (fam 1001 bcd R (upd o2 54 (Ob.grow 5 1 [[CD.int IntKind.u8 63]])) 57).isNone) = true
      rw [fam_lo (by decide),upd_app,if_neg (by decide),z57]; rfl
     ·simp only [go_sem,obsBack,Ob.back,back_cellsG]
     simp only [go_sem,prgEs,prgOs,ownBack,p57,q57,fam_lo,fam_upd,prgO_fam]
     have hll:(List.replicate (w + 1) (63:UInt8)).length = w + 1:=by simp
     refine SOps_addrow (cds:=bcd) (b:=1001) (D:=59) (E:=57) (B:=58) (tr:=57) (tg:=53) (R:=R) (l:=List.replicate (w + 1) 63) (j:=j) (cap:=w + 1) (y:=y') (x:=x') [4] hpin (by decide) (by decide) (by decide) (by decide) (by decide) (by decide) (by rw [hll]; rfl) (by show AV.prg 57 (AV.prg 54 y'.dv) = y'; rw [hyv,p54.1,p57.1]) (by decide) hg ?_ (by omega) (by decide) (by rfl) hg.any ?_
     ·rw [ho2]
      refine ObjLe_fam fun n => ?_
      by_cases e57:n = 57
      ·subst e57; left; simp [upd_app]
      by_cases e59:n = 59
      ·subst e59; left; simp [upd_app]
      right; simp [upd_app,e57,e59,o0_app]
     intro c4 j4 v1 v2 v3
     refine SOps_ops ?_
     simp only [go_sem,keepE]
     obtain ⟨R1,hR1⟩ : ∃ R1,R1 = R ++ [(⟨List.replicate (w + 1) 63,j,w + 1⟩ : BRow)]:=⟨_,rfl⟩
     have hr1l:R1.length = R.length + 1:=by rw [hR1]; simp
     have hr1m:R1.map Row.l = rowsW ts:=by rw [hR1,List.map_append,hrl,hrws]; rfl
     rw [← hR1,← hr1l]
     rw [← hr1m] at hsok
     obtain ⟨hok1,hbr1⟩:=hsok.rok
     refine WV_grown (t:=7) [4] (by decide) hpin rfl rfl ?_
     simp only [go_sem,keepE]
     refine WV_seq_ ?_
     (refine WV_op ?_; simp only [go_sem,hP]; (repeat refine qJ ?_))
     refine AS_grid (restore56 (j:=j4) (gcap:=c4) hok1 hbr1 (by omega)) rfl rfl rfl ?_ ?_
     ·simp only [List.map_cons,List.map_nil,List.append_nil]
      simp only [go_sem,AV.lendL,lend_grid]
     rintro r l' ⟨rfl,R2,m1,m2,m3,m4,m5,rfl⟩
     refine ⟨R2,m1,rfl,rfl,?_⟩
     rw [← m1]
     have hgr2:R2.map Row.l = bytesG (restG (ts.length + 1) (w + 1) (valsG (rowsW ts))):=by
      rw [← hr1m,← gv_vals,show ts.length + 1 = R1.length by omega,← m5,gv_vals,bytes_vals m3.mem]
     have hSw:∀ l ∈ R2.map Row.l,l.length = w + 1:=by
      intro l hl
      obtain ⟨r,hr,rfl⟩:=List.mem_map.1 hl
      obtain ⟨q,hq,rfl⟩:=List.getElem_of_mem hr
      exact m2.row q hq
     have hst:=string45 (rows:=R2.map Row.l) (fun l hl e => by have:=hSw l hl; rw [e] at this; simp at this) (fun e => by have:=congrArg List.length e; simp at this; rw [this] at m1; simp at m1; omega) (by rw [List.length_map]; omega) (fun l hl => by rw [hSw l hl]; omega)
     refine WV_keep [7] ?_
     simp only [go_sem]
     refine WV_frzGrid (fun n ds hn => ?_) (fun n ds hn => frzO_o0 _ _) ?_
     ·have hn3:¬ (1000:Nat) = n:=by omega
      simp only [go_sem,AV.frz]
      simp only [hn3,if_false]
     simp only [frzE_upd,frzE_e0,frz_grid]
     rw [hgr2] at hst ⊢
     (repeat ((first | refine Va ?_ | refine Vb ?_ | refine Vc ?_ | refine Vd ?_ | refine Ve ?_ | refine Vf ?_); (try simp only [go_sem,hP]); (repeat refine qJ ?_)))
     (refine AS_pu (hst) ?_; simp only [go_sem,hP]; (repeat refine qJ ?_); (repeat ((first | refine Va ?_ | refine Vb ?_ | refine Vc ?_ | refine Vd ?_ | refine Ve ?_ | refine Vf ?_); (try simp only [go_sem,hP]); (repeat refine qJ ?_))))
     (refine WV_ret ?_; simp only [thenQ,inQ,RetQ,RetOk,resAll,resA]; simp only [go_sem,tupA,AV.port,AV.portL,exists_eq_left'])
     exact AVle.refl _
end Go.Proofs.YtlmfdmlochpfcaaDoor

namespace Go.Proofs.YtlmfdmlochpfcaaDoor
open Go Go.V
attribute [local go_sem] Nat.reduceEqDiff Nat.reduceAdd Nat.reduceMul reduceIte Nat.reduceLeDiff Nat.reduceLT Nat.reduceBEq reduceCtorEq
abbrev IRow:=Row Int
def gi (R:List IRow):List (List Int):=R.map Row.l
end Go.Proofs.YtlmfdmlochpfcaaDoor

namespace Go.Proofs.YtlmfdmlochpfcaaDoor
open Go Go.V
attribute [local go_sem] Nat.reduceEqDiff Nat.reduceAdd Nat.reduceMul reduceIte Nat.reduceLeDiff Nat.reduceLT Nat.reduceBEq reduceCtorEq
theorem GOk.gow {g:List (List Int)} (h:GOk g):GOw g.length (wid g) g:=⟨rfl,h.row,h.val⟩
theorem line_pos (g:List (List Int)) (i:Nat) (b:Bool):lineP g i b = posL g.length (wid g) i b:=rfl
end Go.Proofs.YtlmfdmlochpfcaaDoor

namespace Go.Proofs.YtlmfdmlochpfcaaDoor
open Go Go.V
attribute [local go_sem] Nat.reduceEqDiff Nat.reduceAdd Nat.reduceMul reduceIte Nat.reduceLeDiff Nat.reduceLT Nat.reduceBEq reduceCtorEq
end Go.Proofs.YtlmfdmlochpfcaaDoor

namespace Go.Proofs.YtlmfdmlochpfcaaDoor
open Go Go.V
theorem okB_iff {b:UInt8}:okB b = true ↔ BOk b:=by
 refine ⟨okB_ok,fun h => ?_⟩
 unfold BOk at h
 unfold okB valB
 simp only [Bool.or_eq_true,decide_eq_true_eq]
 by_cases h63:b.toNat = 63
 ·exact .inl h63
 ·right
  rw [if_neg (by omega)]
  split <;> omega
theorem textG_cons (l:List UInt8) (t:List (List UInt8)):textG (l :: t) = l ++ 10 :: textG t:=by simp [textG]
theorem ends_split {s:List UInt8} {b:UInt8} (h:endsB s b = true):s = s.dropLast ++ [b]:=by
 unfold endsB at h
 have h1:s.getLast? = some b:=by simpa using h
 have hne:s ≠ []:=by rintro rfl; cases h1
 rw [List.getLast?_eq_some_getLast hne,Option.some.injEq] at h1
 rw [← h1,List.dropLast_concat_getLast]
theorem segB_append (b:UInt8):∀ (l t:List UInt8),b ∉ l → segB b (l ++ b :: t) = l :: segB b t
 | [],t,_ => by simp [segB]
 | y :: l,t,h => by
  have hy:y ≠ b:=fun e => h (by simp [e])
  have ih:=segB_append b l t fun e => h (by simp [e])
  have e:segB b (y :: (l ++ b :: t)) = match segB b (l ++ b :: t) with | h :: t => (y :: h) :: t | [] => [[y]]:=by
   rw [segB,if_neg hy]; rfl
  rw [List.cons_append,e,ih]
theorem segB_last (b:UInt8):∀ (l:List UInt8),b ∉ l → segB b l = [l]
 | [],_ => rfl
 | y :: l,h => by
  have hy:y ≠ b:=fun e => h (by simp [e])
  have ih:=segB_last b l fun e => h (by simp [e])
  unfold segB
  rw [if_neg (by simpa using hy),ih]
theorem text_seg:∀ (rows:List (List UInt8)),rows ≠ [] → (∀ l ∈ rows,(10:UInt8) ∉ l) → endsB (textG rows) 10 = true ∧ segB 10 (textG rows).dropLast = rows
 | [],h,_ => (h rfl).elim
 | [l],_,h => by
  have e:textG [l] = l ++ [10]:=by simp [textG]
  rw [e]
  refine ⟨by simp [endsB],?_⟩
  rw [List.dropLast_concat]
  exact segB_last 10 l (h l (by simp))
 | l :: m :: t,_,h => by
  obtain ⟨h1,h2⟩:=text_seg (m :: t) (by simp) fun x hx => h x (by simp [hx])
  have hne:textG (m :: t) ≠ []:=by rw [textG_cons]; simp
  have e:textG (l :: m :: t) = l ++ 10 :: textG (m :: t):=textG_cons l (m :: t)
  rw [e]
  constructor
  ·have h3:=ends_split h1
   unfold endsB
   rw [h3,← List.cons_append,← List.append_assoc,List.getLast?_concat]
   simp
  ·have e2:(l ++ 10 :: textG (m :: t)).dropLast = l ++ 10 :: (textG (m :: t)).dropLast:=by
    rw [List.dropLast_append_of_ne_nil (by simp),List.dropLast_cons_of_ne_nil hne]
   rw [e2,segB_append 10 l _ (h l (by simp)),h2]
theorem textG_length (rows:List (List UInt8)) (w:Nat) (h:∀ l ∈ rows,l.length = w):(textG rows).length = rows.length * (w + 1):=by
 induction rows with
 | nil => simp [textG]
 | cons l t ih =>
  rw [textG_cons,List.length_append,List.length_cons,ih (fun x hx => h x (by simp [hx])),h l (by simp),List.length_cons,Nat.succ_mul]
  omega
theorem BOk.ne10 {b:UInt8} (h:BOk b):b ≠ 10:=by
 rintro rfl
 unfold BOk at h
 simp at h
theorem SOk.nl {rows:List (List UInt8)} {w:Nat} (h:SOk rows w):∀ l ∈ rows,(10:UInt8) ∉ l:=fun l hl hm => (h.byte l hl 10 hm).ne10 rfl
theorem allOk_of {w:Nat}:∀ (k:Nat) (t:List (List UInt8)),(∀ l ∈ t,2 ≤ l.length ∧ l.length ≤ 32 ∧ l.length = w ∧ ∀ b ∈ l,BOk b) → k + t.length ≤ 41 → allOk w k t = true
 | k,[],_,_ => rfl
 | k,l :: t,h,hk => by
  simp only [List.length_cons] at hk
  simp only [allOk,Bool.and_eq_true]
  refine ⟨?_,allOk_of (k + 1) t (fun x hx => h x (by simp [hx])) (by omega)⟩
  obtain ⟨h1,h2,h3,h4⟩:=h l (by simp)
  unfold okSeg
  simp only [Bool.and_eq_true,decide_eq_true_eq]
  exact ⟨⟨⟨⟨h1,h2⟩,h3⟩,by omega⟩,List.all_eq_true.2 fun b hb => okB_iff.2 (h4 b hb)⟩
theorem parse_text {rows:List (List UInt8)} {w:Nat} (h:SOk rows w):parseP (textG rows) = some rows:=by
 have hne:rows ≠ []:=by rintro rfl; exact absurd h.pos (by simp)
 obtain ⟨h1,h2⟩:=text_seg rows hne h.nl
 unfold parseP
 rw [if_pos h1,h2]
 have hw:(rows.headD []).length = w:=by
  cases rows with
  | nil => exact (hne rfl).elim
  | cons l t => exact h.row l (by simp)
 rw [hw,if_pos]
 have h3:=h.w2
 have h4:=h.w32
 exact allOk_of 0 rows (fun l hl => ⟨by rw [h.row l hl]; exact h3,by rw [h.row l hl]; exact h4,h.row l hl,h.byte l hl⟩) (by have:=h.len; omega)
end Go.Proofs.YtlmfdmlochpfcaaDoor

namespace Go.Proofs.YtlmfdmlochpfcaaDoor
open Go Go.V
attribute [local go_sem] Nat.reduceEqDiff Nat.reduceAdd Nat.reduceMul reduceIte Nat.reduceLeDiff Nat.reduceLT Nat.reduceBEq reduceCtorEq
end Go.Proofs.YtlmfdmlochpfcaaDoor

namespace Go.Proofs.YtlmfdmlochpfcaaDoor
open Go Go.V
attribute [local go_sem] Nat.reduceEqDiff Nat.reduceAdd Nat.reduceMul reduceIte Nat.reduceLeDiff Nat.reduceLT Nat.reduceBEq reduceCtorEq
end Go.Proofs.YtlmfdmlochpfcaaDoor

namespace Go.Proofs.YtlmfdmlochpfcaaDoor
open Go Go.V
namespace W
end W
attribute [local go_sem] Nat.reduceEqDiff Nat.reduceAdd Nat.reduceMul reduceIte Nat.reduceLeDiff Nat.reduceLT Nat.reduceBEq reduceCtorEq
end Go.Proofs.YtlmfdmlochpfcaaDoor

namespace Go.Proofs.YtlmfdmlochpfcaaDoor
open Go Go.V
attribute [local go_sem] Nat.reduceEqDiff Nat.reduceAdd Nat.reduceMul reduceIte Nat.reduceLeDiff Nat.reduceLT Nat.reduceBEq reduceCtorEq
theorem SOk.hd {rows:List (List UInt8)} {w:Nat} (h:SOk rows w):(rows.headD []).length = w:=by
 cases rows with
 | nil => exact absurd h.pos (by simp)
 | cons l t => exact h.row l (by simp)
end Go.Proofs.YtlmfdmlochpfcaaDoor

namespace Go.Proofs.YtlmfdmlochpfcaaDoor
open Go Go.V
attribute [local go_sem] Nat.reduceEqDiff Nat.reduceAdd Nat.reduceMul reduceIte Nat.reduceLeDiff Nat.reduceLT Nat.reduceBEq reduceCtorEq
end Go.Proofs.YtlmfdmlochpfcaaDoor

namespace Go.Proofs.YtlmfdmlochpfcaaDoor
open Go Go.V
def Lost (n w:Nat) (g:List (List Int)) (p:Nat × Nat):Prop:=p.1 < n ∧ p.2 < w ∧ valAt g p = -1
def Clos (S:Nat × Nat → Prop):Prop:=∀ p,S p → (∃ q,S q ∧ q ≠ p ∧ q.1 = p.1) ∧ (∃ q,S q ∧ q ≠ p ∧ q.2 = p.2)
theorem posL_mem {n w i:Nat} {b:Bool} {p:Nat × Nat}:p ∈ posL n w i b ↔ if b then p.1 = i ∧ p.2 < w else p.2 = i ∧ p.1 < n:=by
 unfold posL
 cases b
 ·simp only [Bool.false_eq_true,if_false,List.mem_map,List.mem_range]
  constructor
  ·rintro ⟨k,hk,rfl⟩; exact ⟨rfl,hk⟩
  ·rintro ⟨rfl,h⟩; exact ⟨p.1,h,rfl⟩
 ·simp only [if_true,List.mem_map,List.mem_range]
  constructor
  ·rintro ⟨k,hk,rfl⟩; exact ⟨rfl,hk⟩
  ·rintro ⟨rfl,h⟩; exact ⟨p.2,h,rfl⟩
theorem posL_row_mem {n w i:Nat} {p:Nat × Nat}:p ∈ posL n w i true ↔ p.1 = i ∧ p.2 < w:=by rw [posL_mem]; simp
theorem posL_col_mem {n w i:Nat} {p:Nat × Nat}:p ∈ posL n w i false ↔ p.2 = i ∧ p.1 < n:=by rw [posL_mem]; simp
theorem allP_mem {n w:Nat} {l:List (Nat × Nat)}:l ∈ allP n w ↔ (∃ i,i < n ∧ l = posL n w i true) ∨ (∃ k,k < w ∧ l = posL n w k false):=by
 simp only [allP,List.mem_append,List.mem_map,List.mem_range]
 constructor
 ·rintro (⟨i,h,rfl⟩ | ⟨i,h,rfl⟩)
  ·exact .inl ⟨i,h,rfl⟩
  ·exact .inr ⟨i,h,rfl⟩
 ·rintro (⟨i,h,rfl⟩ | ⟨i,h,rfl⟩)
  ·exact .inl ⟨i,h,rfl⟩
  ·exact .inr ⟨i,h,rfl⟩
theorem lostL_mem {g:List (List Int)} {l:List (Nat × Nat)} {p:Nat × Nat}:p ∈ lostL g l ↔ p ∈ l ∧ valAt g p = -1:=by simp [lostL]
theorem posL_nodup (n w i:Nat) (b:Bool):(posL n w i b).Nodup:=by
 unfold posL
 cases b
 ·simp only [Bool.false_eq_true,if_false]
  exact List.pairwise_map.2 (List.nodup_range.imp fun h e => h (by simpa using e))
 ·simp only [if_true]
  exact List.pairwise_map.2 (List.nodup_range.imp fun h e => h (by simpa using e))
theorem allP_nodup {n w:Nat} {l:List (Nat × Nat)} (h:l ∈ allP n w):l.Nodup:=by
 rcases allP_mem.1 h with ⟨i,_,rfl⟩ | ⟨i,_,rfl⟩ <;> exact posL_nodup _ _ _ _
theorem step_clos {n w:Nat} {g g':List (List Int)} (h:GOw n w g) (hs:stepG n w g = some g') {S:Nat × Nat → Prop} (hc:Clos S) (hS:∀ p,S p → Lost n w g p):∀ p,S p → Lost n w g' p:=by
 obtain ⟨l,p,hl,_,hlo,hpl,hv,rfl,_,_⟩:=stepG_some h hs
 intro q hq
 obtain ⟨h1,h2,h3⟩:=hS q hq
 refine ⟨h1,h2,?_⟩
 rw [valAt_set]
 split
 ·rename_i he
  obtain ⟨rfl,_,_⟩:=he
  exfalso
  obtain ⟨⟨a,ha,hne,hr⟩,⟨b,hb,hne2,hr2⟩⟩:=hc p hq
  have key:∀ a,S a → a ∈ l → a = p:=fun a ha hal => by
   have:a ∈ lostL g l:=lostL_mem.2 ⟨hal,(hS a ha).2.2⟩
   rw [hlo] at this; simpa using this
  rcases allP_mem.1 hl with ⟨i,hi,rfl⟩ | ⟨k,hk,rfl⟩
  ·have:=posL_row_mem.1 hpl
   exact hne (key a ha (posL_row_mem.2 ⟨hr.trans this.1,(hS a ha).2.1⟩))
  ·have:=posL_col_mem.1 hpl
   exact hne2 (key b hb (posL_col_mem.2 ⟨hr2.trans this.1,(hS b hb).1⟩))
 ·exact h3
theorem two_lost {g:List (List Int)} {l:List (Nat × Nat)} (hnd:l.Nodup) {p:Nat × Nat} (hp:p ∈ l) (hv:valAt g p = -1) (h1:(lostL g l).length ≠ 1):∃ q,q ∈ l ∧ valAt g q = -1 ∧ q ≠ p:=by
 refine Classical.byContradiction fun hq => h1 ?_
 have hnd2:(lostL g l).Nodup:=hnd.filter _
 have hall:∀ q ∈ lostL g l,q = p:=fun q hq' => by
  obtain ⟨a,b⟩:=lostL_mem.1 hq'
  exact Classical.byContradiction fun hne => hq ⟨q,a,b,hne⟩
 have hmem:p ∈ lostL g l:=lostL_mem.2 ⟨hp,hv⟩
 generalize lostL g l = L at hnd2 hall hmem
 match L,hnd2,hall,hmem with
 | [a],_,_,_ => rfl
 | a :: b :: t,hnd2,hall,_ =>
  have h1:=hall a (by simp)
  have h2:=hall b (by simp)
  rw [h1,h2] at hnd2
  simp at hnd2
theorem end_clos {n w:Nat} {g:List (List Int)} (hs:stepG n w g = none):Clos (Lost n w g):=by
 have hn:∀ l ∈ allP n w,(lostL g l).length ≠ 1:=by
  unfold stepG at hs
  split at hs
  ·cases hs
  ·rename_i hf
   intro l hl h1
   have:=List.find?_eq_none.1 hf l hl
   simp [oneL,h1] at this
 rintro p ⟨h1,h2,h3⟩
 constructor
 ·obtain ⟨q,q1,q2,q3⟩:=two_lost (posL_nodup n w p.1 true) (posL_row_mem.2 ⟨rfl,h2⟩) h3 (hn _ (allP_mem.2 (.inl ⟨p.1,h1,rfl⟩)))
  have:=posL_row_mem.1 q1
  exact ⟨q,⟨by omega,this.2,q2⟩,q3,this.1⟩
 ·obtain ⟨q,q1,q2,q3⟩:=two_lost (posL_nodup n w p.2 false) (posL_col_mem.2 ⟨rfl,h1⟩) h3 (hn _ (allP_mem.2 (.inr ⟨p.2,h2,rfl⟩)))
  have:=posL_col_mem.1 q1
  exact ⟨q,⟨this.2,by omega,q2⟩,q3,this.1⟩
theorem restG_ind {n w:Nat} {M:List (List Int) → Prop} (hM:∀ g g',GOw n w g → M g → stepG n w g = some g' → M g'):∀ (k:Nat) (g:List (List Int)),nlost g = k → GOw n w g → M g → M (restG n w g) ∧ stepG n w (restG n w g) = none
 | 0,g,hk,h,hm => by
  cases hs:stepG n w g with
  | none => rw [restG_end hs]; exact ⟨hm,hs⟩
  | some g' => obtain ⟨_,_,_,_,_,_,_,_,_,hn⟩:=stepG_some h hs; omega
 | k + 1,g,hk,h,hm => by
  cases hs:stepG n w g with
  | none => rw [restG_end hs]; exact ⟨hm,hs⟩
  | some g' =>
   obtain ⟨_,_,_,_,_,_,_,_,hg,hn⟩:=stepG_some h hs
   rw [restG_step h hs]
   exact restG_ind hM k g' (by omega) hg (hM g g' h hm hs)
theorem restG_fin {n w:Nat} {g:List (List Int)} (h:GOw n w g):stepG n w (restG n w g) = none:=(restG_ind (M:=fun _ => True) (fun _ _ _ _ _ => trivial) _ g rfl h trivial).2
theorem step_less {n w:Nat} {g g':List (List Int)} (h:GOw n w g) (hs:stepG n w g = some g') {p:Nat × Nat} (hp:Lost n w g' p):Lost n w g p:=by
 obtain ⟨l,q,hl,_,hlo,hpl,hv,rfl,_,_⟩:=stepG_some h hs
 obtain ⟨h1,h2,h3⟩:=hp
 refine ⟨h1,h2,?_⟩
 rw [valAt_set] at h3
 split at h3
 ·have:=lack_rng g l; omega
 ·exact h3
theorem rest_core {n w:Nat} {g:List (List Int)} (h:GOw n w g) (p:Nat × Nat):Lost n w (restG n w g) p ↔ ∃ S,Clos S ∧ (∀ q,S q → Lost n w g q) ∧ S p:=by
 constructor
 ·intro hp
  refine ⟨Lost n w (restG n w g),end_clos (restG_fin h),?_,hp⟩
  exact (restG_ind (M:=fun g' => ∀ q,Lost n w g' q → Lost n w g q) (fun a b ha hm hs q hq => hm q (step_less ha hs hq)) _ g rfl h (fun _ h => h)).1
 ·rintro ⟨S,hc,hS,hp⟩
  exact (restG_ind (M:=fun g' => ∀ q,S q → Lost n w g' q) (fun a b ha hm hs => step_clos ha hs hc hm) _ g rfl h hS).1 p hp
structure Right (n w:Nat) (G:List (List Int)):Prop where
 gow:GOw n w G
 full:∀ i k,i < n → k < w → valAt G (i,k) ≠ -1
 sum:∀ l ∈ allP n w,lackL G l = 0
structure Part (n w:Nat) (G g:List (List Int)):Prop where
 gow:GOw n w g
 val:∀ i k,i < n → k < w → valAt g (i,k) = -1 ∨ valAt g (i,k) = valAt G (i,k)
theorem sumL_app (g:List (List Int)) (a b:List (Nat × Nat)):sumL g (a ++ b) = sumL g a + sumL g b:=by simp [sumL]
theorem sumL_cons (g:List (List Int)) (m:Nat × Nat) (b:List (Nat × Nat)):sumL g (m :: b) = (if valAt g m = -1 then 0 else valAt g m) + sumL g b:=by simp [sumL]
theorem sumL_congr {g G:List (List Int)} {l:List (Nat × Nat)} (h:∀ m ∈ l,valAt g m = valAt G m):sumL g l = sumL G l:=by
 unfold sumL
 congr 1
 exact List.map_congr_left fun m hm => by rw [h m hm]
theorem part_lack {n w:Nat} {G g:List (List Int)} (hG:Right n w G) (hp:Part n w G g) {l:List (Nat × Nat)} (hl:l ∈ allP n w) {p:Nat × Nat} (hlo:lostL g l = [p]):lackL g l = valAt G p:=by
 obtain ⟨A,q,B,e,hA,hB,hq,hlo2⟩:=lost_one (g:=g) (ps:=l) (by rw [hlo]; rfl)
 rw [hlo] at hlo2
 simp only [List.cons.injEq,and_true] at hlo2
 subst hlo2
 have hin:=allP_in hl
 have hin2:∀ m ∈ l,valAt g m ≠ -1 → valAt g m = valAt G m:=fun m hm hv => by
  obtain ⟨h1,h2⟩:=hin m hm
  rcases hp.val m.1 m.2 h1 h2 with h | h
  ·exact (hv h).elim
  ·exact h
 have hA2:sumL g A = sumL G A:=sumL_congr fun m hm => hin2 m (by rw [e]; simp [hm]) (hA m hm)
 have hB2:sumL g B = sumL G B:=sumL_congr fun m hm => hin2 m (by rw [e]; simp [hm]) (hB m hm)
 have hz:=hG.sum l hl
 have hpin:=hin p (by rw [e]; simp)
 have hf:=hG.full p.1 p.2 hpin.1 hpin.2
 have hv:=hG.gow.val p.1 p.2 hpin.1 hpin.2
 have hf':valAt G p ≠ -1:=hf
 have hv':-1 ≤ valAt G p ∧ valAt G p < 94:=hv
 unfold lackL at hz ⊢
 rw [e,sumL_app,sumL_cons] at hz ⊢
 rw [if_pos hq,hA2,hB2]
 rw [if_neg hf'] at hz
 omega
theorem part_step {n w:Nat} {G g g':List (List Int)} (hG:Right n w G) (hp:Part n w G g) (hs:stepG n w g = some g'):Part n w G g':=by
 obtain ⟨l,p,hl,_,hlo,hpl,hv,rfl,hg,_⟩:=stepG_some hp.gow hs
 refine ⟨hg,fun i k hi hk => ?_⟩
 rw [valAt_set]
 split
 ·rename_i he
  obtain ⟨rfl,_,_⟩:=he
  exact .inr (part_lack hG hp hl hlo)
 ·exact hp.val i k hi hk
theorem part_rest {n w:Nat} {G g:List (List Int)} (hG:Right n w G) (hp:Part n w G g):Part n w G (restG n w g) :=
 (restG_ind (M:=Part n w G) (fun _ _ _ hm hs => part_step hG hm hs) _ g rfl hp.gow hp).1
theorem grid_ext {n w:Nat} {g G:List (List Int)} (hg:GOw n w g) (hG:GOw n w G) (h:∀ i k,i < n → k < w → valAt g (i,k) = valAt G (i,k)):g = G:=by
 apply List.ext_getElem
 ·rw [hg.len,hG.len]
 ·intro i h1 h2
  have hi:i < n:=by rw [← hg.len]; exact h1
  have r1:=hg.row i hi
  have r2:=hG.row i hi
  have e1:g.getD i [] = g[i]:=by rw [List.getD_eq_getElem?_getD,List.getElem?_eq_getElem h1]; rfl
  have e2:G.getD i [] = G[i]:=by rw [List.getD_eq_getElem?_getD,List.getElem?_eq_getElem h2]; rfl
  rw [e1] at r1
  rw [e2] at r2
  apply List.ext_getElem
  ·rw [r1,r2]
  ·intro k h3 h4
   have:=h i k hi (by omega)
   unfold valAt at this
   simp only [e1,e2] at this
   rw [List.getD_eq_getElem?_getD,List.getElem?_eq_getElem h3,List.getD_eq_getElem?_getD,List.getElem?_eq_getElem h4] at this
   exact this
theorem rest_right {n w:Nat} {G g:List (List Int)} (hG:Right n w G) (hp:Part n w G g) (h0:∀ S,Clos S → (∀ q,S q → Lost n w g q) → ∀ p,¬ S p):restG n w g = G:=by
 have hr:=part_rest hG hp
 refine grid_ext hr.gow hG.gow fun i k hi hk => ?_
 rcases hr.val i k hi hk with h | h
 ·obtain ⟨S,hc,hS,hp'⟩:=(rest_core hp.gow (i,k)).1 ⟨hi,hk,h⟩
  exact (h0 S hc hS _ hp').elim
 ·exact h
theorem clos_cross {S:Nat × Nat → Prop} (hc:Clos S) (a c:Nat) (hS:∀ p,S p → p.1 = a ∨ p.2 = c):∀ p,¬ S p:=by
 have h1:∀ p,S p → p.1 = a:=fun p hp => by
  rcases hS p hp with h | h
  ·exact h
  ·obtain ⟨⟨q,hq,n1,e1⟩,_⟩:=hc p hp
   rcases hS q hq with h2 | h2
   ·rw [← e1]; exact h2
   ·exact (n1 (Prod.ext e1 (h2.trans h.symm))).elim
 intro p hp
 obtain ⟨_,⟨r,hr,n2,e2⟩⟩:=hc p hp
 exact n2 (Prod.ext ((h1 r hr).trans (h1 p hp).symm) e2)
end Go.Proofs.YtlmfdmlochpfcaaDoor

namespace Go.Proofs.YtlmfdmlochpfcaaDoor
open Go Go.V
end Go.Proofs.YtlmfdmlochpfcaaDoor

namespace Go.Proofs.YtlmfdmlochpfcaaDoor
open Go Go.V
end Go.Proofs.YtlmfdmlochpfcaaDoor

namespace Go.Proofs.YtlmfdmlochpfcaaDoor
open Go Go.V
def pt (x:Nat):Int:=if x < 41 then x else -1 - ((x - 41:Nat):Int)
end Go.Proofs.YtlmfdmlochpfcaaDoor

namespace Go.Proofs.YtlmfdmlochpfcaaDoor
open Go Go.V
end Go.Proofs.YtlmfdmlochpfcaaDoor

namespace Go.Proofs.YtlmfdmlochpfcaaDoor
open Go Go.V
end Go.Proofs.YtlmfdmlochpfcaaDoor

namespace Go.Proofs.YtlmfdmlochpfcaaDoor
open Go Go.V
def tot (g:List (List Int)) (l:List (Nat × Nat)):Int:=(l.map (valAt g)).sum
theorem sumL_tot {g:List (List Int)} {l:List (Nat × Nat)} (h:∀ m ∈ l,valAt g m ≠ -1):sumL g l = tot g l:=by
 unfold sumL tot
 congr 1
 exact List.map_congr_left fun m hm => by rw [if_neg (h m hm)]
theorem lack_tot {g:List (List Int)} {l:List (Nat × Nat)} (h:∀ m ∈ l,valAt g m ≠ -1):lackL g l = 0 ↔ tot g l % 94 = 0:=by
 unfold lackL
 rw [sumL_tot h]
 omega
theorem tot_congr {g G:List (List Int)} {l:List (Nat × Nat)} (h:∀ m ∈ l,valAt g m = valAt G m):tot g l = tot G l:=by
 unfold tot
 congr 1
 exact List.map_congr_left h
theorem tot_cons (g:List (List Int)) (m:Nat × Nat) (l:List (Nat × Nat)):tot g (m :: l) = valAt g m + tot g l:=by simp [tot]
theorem tot_not {g:List (List Int)} {p:Nat × Nat} {v:Int} {l:List (Nat × Nat)} (h:p ∉ l):tot (setG g p v) l = tot g l:=tot_congr fun m hm => by
 rw [valAt_set,if_neg]
 rintro ⟨rfl,_⟩
 exact h hm
theorem tot_set {n w:Nat} {g:List (List Int)} (hg:GOw n w g) {p:Nat × Nat} (h1:p.1 < n) (h2:p.2 < w) {v:Int}:∀ {l:List (Nat × Nat)},l.Nodup → p ∈ l → tot (setG g p v) l = tot g l - valAt g p + v
 | [],_,hm => by cases hm
 | m :: l,hn,hm => by
  rw [List.nodup_cons] at hn
  rw [tot_cons,tot_cons,valAt_set]
  by_cases he:p = m
  ·subst he
   rw [tot_not hn.1,if_pos ⟨rfl,by rw [hg.len]; exact h1,by rw [hg.row _ h1]; exact h2⟩]
   omega
  ·have hm2:p ∈ l:=by
    rcases List.mem_cons.1 hm with h | h
    ·exact (he h).elim
    ·exact h
   rw [tot_set hg h1 h2 hn.2 hm2,if_neg (fun h => he h.1)]
   omega
structure NN (n w:Nat) (g:List (List Int)):Prop where
 gow:GOw n w g
 nn:∀ i k,i < n → k < w → 0 ≤ valAt g (i,k)
theorem NN.set {n w:Nat} {g:List (List Int)} (h:NN n w g) (p:Nat × Nat) {v:Int} (hv:0 ≤ v ∧ v < 94):NN n w (setG g p v):=by
 refine ⟨setG_ok h.gow p (by omega),fun i k hi hk => ?_⟩
 rw [valAt_set]
 split
 ·exact hv.1
 ·exact h.nn i k hi hk
theorem NN.ne {n w:Nat} {g:List (List Int)} (h:NN n w g) {l:List (Nat × Nat)} (hl:l ∈ allP n w):∀ m ∈ l,valAt g m ≠ -1:=fun m hm => by
 obtain ⟨h1,h2⟩:=allP_in hl m hm
 have:=h.nn m.1 m.2 h1 h2
 have e:valAt g m = valAt g (m.1,m.2):=rfl
 omega
theorem NN.line {n w:Nat} {g:List (List Int)} (h:NN n w g) (h0:0 < n) (i:Nat) (b:Bool):lineP g i b = posL n w i b:=by
 rw [line_pos,h.gow.len]
 have:wid g = w:=by unfold wid; exact h.gow.row 0 h0
 rw [this]
theorem tot_lack {n w:Nat} {g:List (List Int)} (h:NN n w g) {l:List (Nat × Nat)} (hl:l ∈ allP n w) {p:Nat × Nat} (hp:p ∈ l) (hz:valAt g p = 0):tot (setG g p (lackL g l)) l % 94 = 0:=by
 obtain ⟨h1,h2⟩:=allP_in hl p hp
 rw [tot_set h.gow h1 h2 (allP_nodup hl) hp,hz]
 unfold lackL
 rw [sumL_tot (h.ne hl)]
 omega
def rowsF (w k:Nat) (g:List (List Int)):List (List Int):=(List.range k).foldl (fun g i => setG g (i,w) (lackL g (lineP g i true))) g
theorem rowsF_succ (w k:Nat) (g:List (List Int)):rowsF w (k + 1) g = setG (rowsF w k g) (k,w) (lackL (rowsF w k g) (lineP (rowsF w k g) k true)):=by
 unfold rowsF
 rw [List.range_succ,List.foldl_append]; rfl
def colsF (n k:Nat) (g:List (List Int)):List (List Int):=(List.range k).foldl (fun g c => setG g (n,c) (lackL g (lineP g c false))) g
theorem colsF_succ (n k:Nat) (g:List (List Int)):colsF n (k + 1) g = setG (colsF n k g) (n,k) (lackL (colsF n k g) (lineP (colsF n k g) k false)):=by
 unfold colsF
 rw [List.range_succ,List.foldl_append]; rfl
theorem rowsF_inv {N w:Nat} {g:List (List Int)} (h:NN N (w + 1) g) (hz:∀ i,i < N → valAt g (i,w) = 0) (h0:0 < N):∀ k,k ≤ N → NN N (w + 1) (rowsF w k g) ∧ (∀ i,i < k → tot (rowsF w k g) (posL N (w + 1) i true) % 94 = 0) ∧ ∀ i c,(k ≤ i ∨ c ≠ w) → valAt (rowsF w k g) (i,c) = valAt g (i,c)
 | 0,_ => ⟨h,fun i hi => by omega,fun _ _ _ => rfl⟩
 | k + 1,hk => by
  obtain ⟨h1,h2,h3⟩:=rowsF_inv h hz h0 k (by omega)
  rw [rowsF_succ,h1.line h0]
  have hl:posL N (w + 1) k true ∈ allP N (w + 1):=allP_mem.2 (.inl ⟨k,by omega,rfl⟩)
  refine ⟨h1.set _ (lack_rng _ _),fun i hi => ?_,fun i c hic => ?_⟩
  ·by_cases hik:i = k
   ·subst hik
    exact tot_lack h1 hl (posL_row_mem.2 ⟨rfl,Nat.lt_succ_self w⟩) (by rw [h3 _ _ (.inl (Nat.le_refl _))]; exact hz _ (by omega))
   ·rw [tot_not]
    ·exact h2 i (by omega)
    ·intro hm
     have:=(posL_row_mem.1 hm).1
     simp only at this
     omega
  ·rw [valAt_set,if_neg,h3 i c (by omega)]
   rintro ⟨he,_⟩
   obtain ⟨rfl,rfl⟩:=Prod.mk.inj he
   omega
theorem colsF_inv {n W:Nat} {g:List (List Int)} (h:NN (n + 1) W g) (hz:∀ c,c < W → valAt g (n,c) = 0):∀ k,k ≤ W → NN (n + 1) W (colsF n k g) ∧ (∀ c,c < k → tot (colsF n k g) (posL (n + 1) W c false) % 94 = 0) ∧ ∀ i c,(i ≠ n ∨ k ≤ c) → valAt (colsF n k g) (i,c) = valAt g (i,c)
 | 0,_ => ⟨h,fun i hi => by omega,fun _ _ _ => rfl⟩
 | k + 1,hk => by
  obtain ⟨h1,h2,h3⟩:=colsF_inv h hz k (by omega)
  rw [colsF_succ,h1.line (Nat.succ_pos n)]
  have hl:posL (n + 1) W k false ∈ allP (n + 1) W:=allP_mem.2 (.inr ⟨k,by omega,rfl⟩)
  refine ⟨h1.set _ (lack_rng _ _),fun c hc => ?_,fun i c hic => ?_⟩
  ·by_cases hik:c = k
   ·subst hik
    exact tot_lack h1 hl (posL_col_mem.2 ⟨rfl,Nat.lt_succ_self n⟩) (by rw [h3 _ _ (.inr (Nat.le_refl _))]; exact hz _ (by omega))
   ·rw [tot_not]
    ·exact h2 c (by omega)
    ·intro hm
     have:=(posL_col_mem.1 hm).1
     simp only at this
     omega
  ·rw [valAt_set,if_neg,h3 i c (by omega)]
   rintro ⟨he,_⟩
   obtain ⟨rfl,rfl⟩:=Prod.mk.inj he
   omega
def sumR (f:Nat → Int):Nat → Int
 | 0 => 0
 | k + 1 => sumR f k + f k
theorem sumR_zero (k:Nat):sumR (fun _ => 0) k = 0:=by
 induction k with
 | zero => rfl
 | succ k ih => simp [sumR,ih]
theorem sumR_add (f h:Nat → Int) (k:Nat):sumR (fun c => f c + h c) k = sumR f k + sumR h k:=by
 induction k with
 | zero => rfl
 | succ k ih => simp only [sumR,ih]; omega
theorem sumR_swap (f:Nat → Nat → Int) (w:Nat):∀ n,sumR (fun i => sumR (f i) w) n = sumR (fun c => sumR (fun i => f i c) n) w
 | 0 => by simp only [sumR]; exact (sumR_zero w).symm
 | n + 1 => by
  simp only [sumR]
  rw [sumR_swap f w n,← sumR_add]
theorem sumR_mod {f:Nat → Int}:∀ {k:Nat},(∀ i,i < k → f i % 94 = 0) → sumR f k % 94 = 0
 | 0,_ => rfl
 | k + 1,h => by
  have h1:=sumR_mod (k:=k) fun i hi => h i (by omega)
  have h2:=h k (by omega)
  simp only [sumR]
  omega
theorem sumR_range (f:Nat → Int) (k:Nat):((List.range k).map f).sum = sumR f k:=by
 induction k with
 | zero => rfl
 | succ k ih => rw [List.range_succ,List.map_append,List.sum_append,ih]; simp [sumR]
theorem tot_row (g:List (List Int)) (n w i:Nat):tot g (posL n w i true) = sumR (fun c => valAt g (i,c)) w:=by
 unfold tot posL
 rw [if_pos rfl,List.map_map,← sumR_range]; rfl
theorem tot_col (g:List (List Int)) (n w c:Nat):tot g (posL n w c false) = sumR (fun i => valAt g (i,c)) n:=by
 unfold tot posL
 rw [if_neg (by decide),List.map_map,← sumR_range]; rfl
theorem fill_right {n w:Nat} {g:List (List Int)} (h:NN (n + 1) (w + 1) g) (hz:∀ i,i < n + 1 → valAt g (i,w) = 0) (hl:∀ c,c < w + 1 → valAt g (n,c) = 0) :
  Right (n + 1) (w + 1) (colsF n (w + 1) (rowsF w n g)) ∧ ∀ i c,i < n → c < w → valAt (colsF n (w + 1) (rowsF w n g)) (i,c) = valAt g (i,c):=by
 obtain ⟨a1,a2,a3⟩:=rowsF_inv h hz (Nat.succ_pos n) n (by omega)
 obtain ⟨b1,b2,b3⟩:=colsF_inv a1 (fun c hc => by rw [a3 n c (.inl (Nat.le_refl _))]; exact hl c hc) (w + 1) (Nat.le_refl _)
 refine ⟨⟨b1.gow,fun i k hi hk => by have:=b1.nn i k hi hk; omega,fun l hm => ?_⟩,fun i c hi hc => by rw [b3 i c (.inl (by omega)),a3 i c (.inr (by omega))]⟩
 rw [lack_tot (b1.ne hm)]
 have hrow:∀ i,i < n → tot (colsF n (w + 1) (rowsF w n g)) (posL (n + 1) (w + 1) i true) % 94 = 0:=fun i hi => by
  rw [← a2 i hi]
  congr 1
  exact tot_congr fun m hm => by
   have:=(posL_row_mem.1 hm).1
   have e:=b3 m.1 m.2 (.inl (by omega))
   exact e
 rcases allP_mem.1 hm with ⟨i,hi,rfl⟩ | ⟨c,hc,rfl⟩
 ·by_cases hin:i = n
  ·subst hin
   have hsw:=sumR_swap (fun i' c => valAt (colsF i (w + 1) (rowsF w i g)) (i',c)) (w + 1) (i + 1)
   have hr:=sumR_mod (f:=fun c => sumR (fun i' => valAt (colsF i (w + 1) (rowsF w i g)) (i',c)) (i + 1)) (k:=w + 1) fun c hc => by
    have:=b2 c hc
    rwa [tot_col] at this
   rw [← hsw] at hr
   have hr2:=sumR_mod (f:=fun i' => sumR (fun c => valAt (colsF i (w + 1) (rowsF w i g)) (i',c)) (w + 1)) (k:=i) fun i' hi' => by
    have:=hrow i' hi'
    rwa [tot_row] at this
   rw [tot_row]
   simp only [sumR] at hr
   simp only [sumR] at hr2 ⊢
   omega
  ·exact hrow i (by omega)
 ·exact b2 c hc
def rowZ (w:Nat) (s:List UInt8):List Int:=(rowB w s).map vq ++ [0]
def grid0 (ts:List (List UInt8)):List (List Int):=ts.map (rowZ (maxW ts)) ++ [List.replicate (maxW ts + 1) 0]
def gridR (ts:List (List UInt8)):List (List Int):=colsF ts.length (maxW ts + 1) (rowsF (maxW ts) ts.length (grid0 ts))
theorem getD_snoc {α β:Type} (f:α → β) (l:List α) (b d:β) (i:Nat):(l.map f ++ [b]).getD i d = if h:i < l.length then f l[i] else if i = l.length then b else d:=by
 rw [List.getD_eq_getElem?_getD]
 by_cases h:i < l.length
 ·rw [dif_pos h,List.getElem?_append_left (by simpa using h),List.getElem?_map,List.getElem?_eq_getElem h]; rfl
 ·rw [dif_neg h,List.getElem?_append_right (by simp; omega)]
  by_cases h2:i = l.length
  ·rw [if_pos h2,h2]; simp
  ·rw [if_neg h2,List.getElem?_eq_none (by simp; omega)]; rfl
theorem rowB_len {w:Nat} {s:List UInt8} (h:s.length + 1 ≤ w):(rowB w s).length = w:=by simp [rowB]; omega
theorem valB_vq {b:UInt8} (h:0 ≤ valB b):vq b = valB b:=by
 unfold vq
 split
 ·rename_i h63
  have:b = 63:=UInt8.toNat_inj.1 h63
  subst this
  exact absurd h (by decide)
 ·rfl
theorem rowB_nn {w:Nat} {s:List UInt8} (h:isTx s = true):∀ b ∈ rowB w s,0 ≤ vq b ∧ vq b < 94:=by
 intro b hb
 have hok:BOk b:=rowW_ok (w:=w) h b (by unfold rowW; simp [hb])
 refine ⟨?_,(vq_rng hok).2⟩
 unfold rowB at hb
 simp only [List.mem_append,List.mem_cons,List.mem_replicate] at hb
 rcases hb with hb | rfl | ⟨_,rfl⟩
 ·unfold isTx at h
  simp only [Bool.and_eq_true] at h
  have:=List.all_eq_true.1 h.1 b hb
  simp only [decide_eq_true_eq] at this
  rw [valB_vq this]; exact this
 ·decide
 ·decide
theorem grid0_row {ts:List (List UInt8)} {i:Nat}:(grid0 ts).getD i [] = if h:i < ts.length then rowZ (maxW ts) ts[i] else if i = ts.length then List.replicate (maxW ts + 1) 0 else []:=getD_snoc _ _ _ _ _
theorem rowsV_row {ts:List (List UInt8)} {i:Nat}:(valsG (rowsW ts)).getD i [] = if h:i < ts.length then (rowB (maxW ts) ts[i]).map vq ++ [-1] else if i = ts.length then List.replicate (maxW ts + 1) (-1) else []:=by
 have e:valsG (rowsW ts) = ts.map (fun s => (rowB (maxW ts) s).map vq ++ [-1]) ++ [List.replicate (maxW ts + 1) (-1)]:=by
  unfold valsG rowsW
  rw [List.map_append,List.map_map]
  congr 1
  ·refine List.map_congr_left fun s _ => ?_
   simp only [Function.comp,rowW,List.map_append,List.map_cons,List.map_nil]
   rfl
  ·simp only [List.map_cons,List.map_nil,List.map_replicate]
   rfl
 rw [e]
 exact getD_snoc _ _ _ _ _
theorem tail_get (l:List Int) (x:Int) (k:Nat):(l ++ [x]).getD k 0 = if k < l.length then l.getD k 0 else if k = l.length then x else 0:=by
 rw [List.getD_eq_getElem?_getD]
 by_cases h:k < l.length
 ·rw [if_pos h,List.getElem?_append_left h,List.getD_eq_getElem?_getD]
 ·rw [if_neg h,List.getElem?_append_right (by omega)]
  by_cases h2:k = l.length
  ·rw [if_pos h2,h2]; simp
  ·rw [if_neg h2,List.getElem?_eq_none (by simp; omega)]; rfl
theorem rep_get (n k:Nat) (x:Int) (h:k < n):(List.replicate n x).getD k 0 = x:=by
 rw [List.getD_eq_getElem?_getD,List.getElem?_replicate,if_pos h]; rfl
theorem grid0_nn {ts:List (List UInt8)} (h:ts.all isTx = true):NN (ts.length + 1) (maxW ts + 1) (grid0 ts):=by
 have hw:=(maxW_ge ts).2
 have hv:∀ i k,i < ts.length + 1 → k < maxW ts + 1 → 0 ≤ valAt (grid0 ts) (i,k) ∧ valAt (grid0 ts) (i,k) < 94:=by
  intro i k hi hk
  unfold valAt
  simp only [grid0_row]
  by_cases hin:i < ts.length
  ·rw [dif_pos hin]
   unfold rowZ
   rw [tail_get]
   have hl:=rowB_len (hw _ (List.getElem_mem hin))
   by_cases hkw:k < maxW ts
   ·rw [if_pos (by rw [List.length_map,hl]; exact hkw),map_getD (by rw [hl]; exact hkw)]
    exact rowB_nn (List.all_eq_true.1 h _ (List.getElem_mem hin)) _ (List.getElem_mem _)
   ·rw [if_neg (by rw [List.length_map,hl]; exact hkw)]
    split <;> omega
  ·rw [dif_neg hin,if_pos (by omega),rep_get _ _ _ hk]; omega
 refine ⟨⟨by simp [grid0],fun i hi => ?_,fun i k hi hk => by have:=hv i k hi hk; omega⟩,fun i k hi hk => (hv i k hi hk).1⟩
 rw [grid0_row]
 by_cases hin:i < ts.length
 ·rw [dif_pos hin]
  unfold rowZ
  rw [List.length_append,List.length_map,rowB_len (hw _ (List.getElem_mem hin))]; rfl
 ·rw [dif_neg hin,if_pos (by omega)]; simp
theorem grid0_zero {ts:List (List UInt8)}:(∀ i,i < ts.length + 1 → valAt (grid0 ts) (i,maxW ts) = 0) ∧ ∀ c,c < maxW ts + 1 → valAt (grid0 ts) (ts.length,c) = 0:=by
 have hw:=(maxW_ge ts).2
 constructor
 ·intro i hi
  unfold valAt
  simp only [grid0_row]
  by_cases hin:i < ts.length
  ·rw [dif_pos hin]
   unfold rowZ
   rw [tail_get,List.length_map,rowB_len (hw _ (List.getElem_mem hin)),if_neg (by omega),if_pos rfl]
  ·rw [dif_neg hin,if_pos (by omega),rep_get _ _ _ (by omega)]
 ·intro c hc
  unfold valAt
  simp only [grid0_row]
  rw [dif_neg (by omega),if_pos (by simp),rep_get _ _ _ hc]
theorem rowsV_at {ts:List (List UInt8)} {i c:Nat} (hi:i < ts.length + 1) (hc:c < maxW ts + 1):valAt (valsG (rowsW ts)) (i,c) = if i < ts.length ∧ c < maxW ts then valAt (grid0 ts) (i,c) else -1:=by
 have hw:=(maxW_ge ts).2
 unfold valAt
 simp only [grid0_row,rowsV_row]
 by_cases hin:i < ts.length
 ·rw [dif_pos hin,dif_pos hin]
  unfold rowZ
  rw [tail_get,tail_get,List.length_map,rowB_len (hw _ (List.getElem_mem hin))]
  by_cases hcw:c < maxW ts
  ·rw [if_pos hcw,if_pos hcw,if_pos ⟨hin,hcw⟩]
  ·rw [if_neg hcw,if_pos (by omega),if_neg (fun h => hcw h.2)]
 ·rw [dif_neg hin,dif_neg hin,if_pos (by omega),if_neg (fun h => hin h.1),rep_get _ _ _ hc]
theorem gridR_right {ts:List (List UInt8)} (h:ts.all isTx = true):Right (ts.length + 1) (maxW ts + 1) (gridR ts) ∧ ∀ i c,i < ts.length → c < maxW ts → valAt (gridR ts) (i,c) = valAt (grid0 ts) (i,c):=by
 obtain ⟨z1,z2⟩:=grid0_zero (ts:=ts)
 exact fill_right (grid0_nn h) z1 z2
theorem rowsV_rest {ts:List (List UInt8)} (h:ts.all isTx = true) (h40:¬ 40 < ts.length):restG (ts.length + 1) (maxW ts + 1) (valsG (rowsW ts)) = gridR ts:=by
 obtain ⟨hr,hv⟩:=gridR_right h
 have hgo:=vals_gow (rowsW_sok h h40)
 rw [rowsW_len] at hgo
 refine rest_right hr ⟨hgo,fun i c hi hc => ?_⟩ fun S hS hL => clos_cross hS ts.length (maxW ts) fun p hp => ?_
 ·rw [rowsV_at hi hc]
  split
  ·rename_i hh
   exact .inr (hv i c hh.1 hh.2).symm
  ·exact .inl rfl
 ·obtain ⟨h1,h2,h3⟩:=hL p hp
  have e:valAt (valsG (rowsW ts)) (p.1,p.2) = -1:=h3
  rw [rowsV_at h1 h2] at e
  by_cases hh:p.1 < ts.length ∧ p.2 < maxW ts
  ·exfalso
   rw [if_pos hh] at e
   have:=(grid0_nn h).nn p.1 p.2 h1 h2
   omega
  ·omega
def writeR (ts:List (List UInt8)):List UInt8 × Int :=
 if 40 < ts.length then ([],2) else if ts.all isTx then (textG (bytesG (gridR ts)),0) else ([],1)
theorem write_eq (ts:List (List UInt8)):writeG ts = writeR ts:=by
 unfold writeG writeR
 split
 ·rfl
 ·rename_i h40
  split
  ·rename_i h
   rw [rowsV_rest h h40]
  ·rfl
end Go.Proofs.YtlmfdmlochpfcaaDoor

namespace Go.Proofs.YtlmfdmlochpfcaaDoor
open Go Go.V
def byAt (g:List (List UInt8)) (p:Nat × Nat):UInt8:=(g.getD p.1 []).getD p.2 0
def upRow (f:Nat → UInt8) (i:Nat) (ms:List (Int × Int)) (row:List UInt8):List UInt8:=ms.foldl (fun r m => if m.1 = (i:Int) ∧ 0 ≤ m.2 ∧ m.2 < (r.length:Int) then r.set m.2.toNat (f m.2.toNat) else r) row
theorem upRow_snoc (f:Nat → UInt8) (i:Nat) (ms:List (Int × Int)) (m:Int × Int) (row:List UInt8):upRow f i (ms ++ [m]) row = if m.1 = (i:Int) ∧ 0 ≤ m.2 ∧ m.2 < ((upRow f i ms row).length:Int) then (upRow f i ms row).set m.2.toNat (f m.2.toNat) else upRow f i ms row:=by
 unfold upRow; rw [List.foldl_append]; rfl
theorem upRow_len (f:Nat → UInt8) (i:Nat) (ms:List (Int × Int)):∀ (row:List UInt8),(upRow f i ms row).length = row.length:=by
 induction ms with
 | nil => intro row; rfl
 | cons m ms ih =>
  intro row
  show (upRow f i ms (if m.1 = (i:Int) ∧ 0 ≤ m.2 ∧ m.2 < (row.length:Int) then row.set m.2.toNat (f m.2.toNat) else row)).length = _
  rw [ih]
  split
  ·rw [List.length_set]
  ·rfl
theorem setB (l:List UInt8) (i:Nat) (v:UInt8) (k:Nat) (hi:i < l.length):(l.set i v).getD k 0 = if k = i then v else l.getD k 0:=by
 rw [List.getD_eq_getElem?_getD,List.getElem?_set]
 by_cases h:i = k
 ·subst h; rw [if_pos rfl,if_pos hi,if_pos rfl]; rfl
 ·rw [if_neg h,if_neg (fun e => h e.symm),List.getD_eq_getElem?_getD]
theorem upRow_at (f:Nat → UInt8) (i:Nat) (ms:List (Int × Int)) {k:Nat}:∀ (row:List UInt8),k < row.length → (((i:Int),(k:Int)) ∈ ms → (upRow f i ms row).getD k 0 = f k) ∧ (((i:Int),(k:Int)) ∉ ms → (upRow f i ms row).getD k 0 = row.getD k 0):=by
 induction ms with
 | nil => intro row hk; exact ⟨fun h => (by cases h),fun _ => rfl⟩
 | cons m ms ih =>
  intro row hk
  have e:upRow f i (m :: ms) row = upRow f i ms (if m.1 = (i:Int) ∧ 0 ≤ m.2 ∧ m.2 < (row.length:Int) then row.set m.2.toNat (f m.2.toNat) else row):=rfl
  rw [e]
  have hl:k < (if m.1 = (i:Int) ∧ 0 ≤ m.2 ∧ m.2 < (row.length:Int) then row.set m.2.toNat (f m.2.toNat) else row).length:=by
   split
   ·rw [List.length_set]; exact hk
   ·exact hk
  obtain ⟨i1,i2⟩:=ih _ hl
  constructor
  ·intro hm
   by_cases hw:((i:Int),(k:Int)) ∈ ms
   ·exact i1 hw
   ·have hme:m = ((i:Int),(k:Int)):=((List.mem_cons.1 hm).resolve_right hw).symm
    rw [i2 hw,hme,if_pos ⟨rfl,Int.natCast_nonneg _,by simp only; omega⟩]
    rw [setB _ _ _ _ (by simp only; omega)]
    simp
  ·intro hm
   have hw:((i:Int),(k:Int)) ∉ ms:=fun h => hm (List.mem_cons_of_mem _ h)
   rw [i2 hw]
   split
   ·rename_i hc
    obtain ⟨c1,c2,c3⟩:=hc
    rw [setB _ _ _ _ (by omega),if_neg]
    intro hk2
    refine hm (List.mem_cons.2 (.inl (Prod.ext c1.symm ?_)))
    simp only; omega
   ·rfl
def upR (f:Nat → Nat → UInt8) (rows:List (List UInt8)) (ms:List (Int × Int)):List (List UInt8):=(List.range rows.length).map fun i => upRow (f i) i ms (rows.getD i [])
theorem upR_len (f:Nat → Nat → UInt8) (rows:List (List UInt8)) (ms:List (Int × Int)):(upR f rows ms).length = rows.length:=by simp [upR]
theorem upR_get {f:Nat → Nat → UInt8} {rows:List (List UInt8)} {ms:List (Int × Int)} {i:Nat} (h:i < rows.length):(upR f rows ms).getD i [] = upRow (f i) i ms (rows.getD i []):=by
 unfold upR
 rw [List.getD_eq_getElem?_getD,List.getElem?_map,List.getElem?_range h]; rfl
theorem getD_mem {α:Type} {l:List α} {i:Nat} (d:α) (h:i < l.length):l.getD i d ∈ l:=by
 rw [List.getD_eq_getElem?_getD,List.getElem?_eq_getElem h]; exact List.getElem_mem h
theorem sok_of {rows:List (List UInt8)} {n w:Nat} (hn:rows.length = n) (h0:0 < n) (h41:n ≤ 41) (h2:2 ≤ w) (h32:w ≤ 32) (hr:∀ i,i < n → (rows.getD i []).length = w) (hb:∀ i k,i < n → k < w → BOk (byAt rows (i,k))):SOk rows w:=by
 subst hn
 have hg:∀ i (hi:i < rows.length),rows.getD i [] = rows[i]:=fun i hi => by rw [List.getD_eq_getElem?_getD,List.getElem?_eq_getElem hi]; rfl
 refine ⟨h0,h41,h2,h32,fun l hl => ?_,fun l hl b hb' => ?_⟩
 ·obtain ⟨i,hi,rfl⟩:=List.getElem_of_mem hl
  rw [← hg i hi]; exact hr i hi
 ·obtain ⟨i,hi,rfl⟩:=List.getElem_of_mem hl
  obtain ⟨k,hk,rfl⟩:=List.getElem_of_mem hb'
  have hw:=hr i hi
  rw [hg i hi] at hw
  have:=hb i k hi (by omega)
  unfold byAt at this
  simp only [hg i hi] at this
  rwa [List.getD_eq_getElem?_getD,List.getElem?_eq_getElem hk] at this
theorem SOk.at {rows:List (List UInt8)} {w:Nat} (h:SOk rows w) {i k:Nat} (hi:i < rows.length) (hk:k < w):(rows.getD i []).length = w ∧ BOk (byAt rows (i,k)) ∧ valAt (valsG rows) (i,k) = vq (byAt rows (i,k)):=by
 have hg:rows.getD i [] = rows[i]:=by rw [List.getD_eq_getElem?_getD,List.getElem?_eq_getElem hi]; rfl
 have hl:=h.row _ (List.getElem_mem hi)
 have hk2:k < (rows[i]).length:=by omega
 refine ⟨by rw [hg,hl],?_,?_⟩
 ·unfold byAt
  simp only [hg]
  rw [List.getD_eq_getElem?_getD,List.getElem?_eq_getElem hk2]
  exact h.byte _ (List.getElem_mem hi) _ (List.getElem_mem hk2)
 ·unfold byAt valAt valsG
  simp only
  rw [map_getD hi,map_getD hk2,hg,List.getD_eq_getElem?_getD,List.getElem?_eq_getElem hk2]; rfl
theorem upR_at {f:Nat → Nat → UInt8} {rows:List (List UInt8)} {ms:List (Int × Int)} {w i k:Nat} (h:SOk rows w) (hi:i < rows.length) (hk:k < w):(((i:Int),(k:Int)) ∈ ms → byAt (upR f rows ms) (i,k) = f i k) ∧ (((i:Int),(k:Int)) ∉ ms → byAt (upR f rows ms) (i,k) = byAt rows (i,k)):=by
 unfold byAt
 simp only
 rw [upR_get hi]
 exact upRow_at (f i) i ms _ (by rw [(h.at hi hk).1]; exact hk)
theorem upR_sok {f:Nat → Nat → UInt8} {rows:List (List UInt8)} {ms:List (Int × Int)} {w:Nat} (h:SOk rows w) (hf:∀ i k,i < rows.length → k < w → ((i:Int),(k:Int)) ∈ ms → BOk (f i k)):SOk (upR f rows ms) w:=by
 refine sok_of (upR_len _ _ _) h.pos h.len h.w2 h.w32 (fun i hi => ?_) fun i k hi hk => ?_
 ·rw [upR_get hi,upRow_len]
  have:=h.w2
  exact (h.at (k:=0) hi (by omega)).1
 ·obtain ⟨a1,a2⟩:=upR_at (f:=f) (ms:=ms) h hi hk
  by_cases hm:((i:Int),(k:Int)) ∈ ms
  ·rw [a1 hm]; exact hf i k hi hk hm
  ·rw [a2 hm]; exact (h.at hi hk).2.1
section
variable {rows:List (List UInt8)} {w:Nat}
end
def bookB (ts:List (List UInt8)):List (List UInt8):=bytesG (gridR ts)
structure BookOk (ts:List (List UInt8)):Prop where
 tx:ts.all isTx = true
 le:¬ 40 < ts.length
theorem vals_bytes {n w:Nat} {G:List (List Int)} (h:Right n w G):valsG (bytesG G) = G:=by
 unfold valsG bytesG
 rw [List.map_map]
 conv => rhs; rw [← List.map_id G]
 refine List.map_congr_left fun l hl => ?_
 simp only [Function.comp,List.map_map,id]
 conv => rhs; rw [← List.map_id l]
 refine List.map_congr_left fun v hv => ?_
 obtain ⟨i,hi,rfl⟩:=List.getElem_of_mem hl
 obtain ⟨k,hk,rfl⟩:=List.getElem_of_mem hv
 have hi2:i < n:=by rw [← h.gow.len]; exact hi
 have hg:G.getD i [] = G[i]:=by rw [List.getD_eq_getElem?_getD,List.getElem?_eq_getElem hi]; rfl
 have hw:=h.gow.row i hi2
 rw [hg] at hw
 have h1:=h.gow.val i k hi2 (by omega)
 have h2:=h.full i k hi2 (by omega)
 have e:valAt G (i,k) = (G[i])[k]:=by
  unfold valAt
  simp only [hg]
  rw [List.getD_eq_getElem?_getD,List.getElem?_eq_getElem hk]; rfl
 rw [e] at h1 h2
 exact (sgn_ok ⟨by omega,h1.2⟩).2
section
variable {ts:List (List UInt8)}
theorem BookOk.right (h:BookOk ts):Right (ts.length + 1) (maxW ts + 1) (gridR ts):=(gridR_right h.tx).1
theorem bookB_len (h:BookOk ts):(bookB ts).length = ts.length + 1:=by
 unfold bookB
 rw [bytesG_len,h.right.gow.len]
theorem BookOk.wid (h:BookOk ts):1 ≤ maxW ts ∧ maxW ts ≤ 31:=by
 refine ⟨(maxW_ge ts).1,maxW_le (by omega) fun s hs => ?_⟩
 have:=isTx_len (List.all_eq_true.1 h.tx s hs)
 omega
theorem BookOk.vals (h:BookOk ts):valsG (bookB ts) = gridR ts:=vals_bytes h.right
theorem bookB_at (h:BookOk ts) {i k:Nat} (hi:i < ts.length + 1) (hk:k < maxW ts + 1):byAt (bookB ts) (i,k) = sgn (valAt (gridR ts) (i,k)):=by
 have hg:=h.right.gow
 have hi2:i < (gridR ts).length:=by rw [hg.len]; exact hi
 have hr:(gridR ts).getD i [] = (gridR ts)[i]:=by rw [List.getD_eq_getElem?_getD,List.getElem?_eq_getElem hi2]; rfl
 have hw:=hg.row i hi
 rw [hr] at hw
 have hk2:k < ((gridR ts)[i]).length:=by omega
 unfold byAt bookB bytesG valAt
 simp only
 rw [map_getD hi2,map_getD hk2,hr,List.getD_eq_getElem?_getD,List.getElem?_eq_getElem hk2]; rfl
theorem BookOk.sok (h:BookOk ts):SOk (bookB ts) (maxW ts + 1):=by
 have hw:=h.wid
 have hle:=h.le
 refine sok_of (bookB_len h) (by omega) (by omega) (by omega) (by omega) (fun i hi => ?_) fun i k hi hk => ?_
 ·have:=h.right.gow.bytes _ (getD_mem (l:=bookB ts) [] (by rw [bookB_len h]; exact hi))
  exact this
 ·rw [bookB_at h hi hk]
  have h1:=h.right.gow.val i k hi hk
  have h2:=h.right.full i k hi hk
  exact (sgn_ok ⟨by omega,h1.2⟩).1
theorem write_book (h:BookOk ts):writeG ts = (textG (bookB ts),0):=by
 rw [write_eq]
 unfold writeR
 rw [if_neg h.le,if_pos h.tx]; rfl
def spo (ts:List (List UInt8)) (ms:List (Int × Int)):List (List UInt8):=upR (fun _ _ => 63) (bookB ts) ms
theorem bok63:BOk 63:=by unfold BOk; decide
theorem spo_sok (h:BookOk ts) (ms:List (Int × Int)):SOk (spo ts ms) (maxW ts + 1):=upR_sok h.sok fun _ _ _ _ _ => bok63
theorem spo_len (h:BookOk ts) (ms:List (Int × Int)):(spo ts ms).length = ts.length + 1:=by unfold spo; rw [upR_len,bookB_len h]
end
end Go.Proofs.YtlmfdmlochpfcaaDoor

namespace Go.Proofs.YtlmfdmlochpfcaaDoor
open Go Go.V
abbrev o32_0:List Ins:=[⟨some 3,.box 2 (.t 1),none,true⟩,
 ⟨some 4,.mv (.k (.c (.bool false))),none,true⟩]
abbrev o32_1:List Ins:=[⟨some 5,.mv (.k (.c (.int .i64 0))),none,true⟩]
abbrev o32_2:List Ins:=[⟨some 6,.mv (.t 5),none,true⟩,
 ⟨some 7,.mv (.t 0),none,true⟩,
 ⟨some 8,.len (.t 7),none,true⟩,
 ⟨some 9,.bin .lss (.t 6) (.t 8),none,true⟩]
abbrev v32_3:VC:=(.cond (.t 9) .skip (.exit 0))
abbrev o32_4:List Ins:=[⟨some 12,.mv (.t 0),none,false⟩,
 ⟨some 13,.mv (.t 5),none,false⟩,
 ⟨some 14,.ia 2 (.t 12) (.t 13),none,false⟩,
 ⟨some 15,.ld false 2 (.t 14),none,false⟩,
 ⟨some 16,.ld false 2 (.t 3),none,false⟩,
 ⟨some 17,.seq false [(0,true),(1,true)] (.t 15) (.t 16),none,true⟩]
abbrev o32_5:List Ins:=[⟨some 4,.mv (.k (.c (.bool true))),none,true⟩]
abbrev v32_6:VC:=(.seq (.ops o32_5) .ret)
abbrev v32_7:VC:=(.cond (.t 17) v32_6 .skip)
abbrev v32_8:VC:=(.seq (.dops o32_4) v32_7)
abbrev o32_9:List Ins:=[⟨some 10,.mv (.t 5),none,true⟩,
 ⟨some 11,.bin .add (.t 10) (.k (.c (.int .i64 1))),none,true⟩,
 ⟨some 5,.mv (.t 11),none,true⟩]
abbrev v32_10:VC:=(.seq (.block 1 v32_8) (.ops o32_9))
abbrev v32_11:VC:=(.seq (.seq (.ops o32_2) v32_3) v32_10)
-- K32_1: changed and kept: [5]
abbrev K32_1:List Nat:=[0,3]
abbrev v32_12:VC:=(.loop v32_11)
abbrev v32_13:VC:=(.block 0 v32_12)
abbrev o32_14:List Ins:=[⟨some 4,.mv (.k (.c (.bool false))),none,true⟩]
abbrev v32_15:VC:=(.seq (.ops o32_14) .ret)
abbrev v32_16:VC:=(.seq (.seq (.ops o32_1) v32_13) v32_15)
def ir32:FC:=⟨2,18,[.t 4],(.seq (.ops o32_0) v32_16)⟩
theorem c32:compM Tryd.prog [] 32 = some ir32:=by kernel_rfl
attribute [local go_sem] Nat.reduceEqDiff Nat.reduceAdd Nat.reduceMul reduceIte Nat.reduceLeDiff Nat.reduceLT Nat.reduceBEq reduceCtorEq
def placeC (m:Int × Int):List CD:=[.int .i64 m.1,.int .i64 m.2]
def placesC (l:List (Int × Int)):CD:=.sl 2 (l.map placeC)
def icst (p:Nat × Nat):Int × Int:=((p.1:Int),(p.2:Int))
theorem places_two (l:List (Int × Int)):((l.map placeC).all fun e => e.length == 2) = true:=by
 rw [List.all_eq_true]; intro e he; obtain ⟨n,_,rfl⟩:=List.mem_map.1 he; rfl
theorem pr_eq (a b:Int × Int):(a.1 == b.1 && (a.2 == b.2 && true)) = decide (a = b):=by
 rw [Bool.and_true,Bool.eq_iff_iff]
 simp only [Bool.and_eq_true,beq_iff_eq,decide_eq_true_eq]
 exact ⟨fun h => Prod.ext h.1 h.2,fun h => h ▸ ⟨rfl,rfl⟩⟩
theorem has32 (l:List (Int × Int)) (m:Int × Int) (hl:l.length ≤ 1000000000):FSpec Tryd.prog 32 [.c (placesC l),.agg ((placeC m).map .c)] (bv (l.contains m)):=by
 have hmax:maxLen = 9223372036854775807:=rfl
 refine FSpec_of c32 (Nat.le_refl _) (by decide) fun C hP hN hC hL => ?_; rw [init_st]
 simp only [ir32,placesC,placeC,List.map_cons,List.map_nil]
 (repeat ((first | refine Va ?_ | refine Vb ?_ | refine Vc ?_ | refine Vd ?_ | refine Ve ?_ | refine Vf ?_); (try simp only [go_sem,hP]); (repeat refine qJ ?_)))
 refine WV_loopK K32_1 [] (fun k:Nat => k ≤ l.length ∧ (l.take k).contains m = false) (fun k => l.length - k) (fun k => [(5,iv k)]) (fun _ => []) 0 ⟨Nat.zero_le _,rfl⟩ ?_ ?_
 ·exact Sub_au
 ·intro k ⟨hk0,hc⟩
  simp only [go_sem]
  (repeat ((first | refine Va ?_ | refine Vb ?_ | refine Vc ?_ | refine Vd ?_ | refine Ve ?_ | refine Vf ?_); (try simp only [go_sem,hP,List.length_map]); (repeat refine qJ ?_)))
  (refine WV_cond rfl (fun h => ?_) (fun h => ?_))
  ·have hk:k < l.length:=by simpa using h
   have hw2:=w64 (n:=(k:Int) + 1) (by omega) (by omega)
   have hg:(l.map placeC).getD k [] = placeC l[k]:=map_getD hk
   (refine WV_skip ?_; simp only [go_sem])
   refine WV_seq_ (WV_block (WV_seq_ ?_))
   (refine WV_op ?_; simp only [go_sem,hP,hg,placeC,pr_eq,List.length_map,Int.toNat_natCast,Int.ofNat_lt,hk,Int.natCast_nonneg]; (repeat refine qJ ?_))
   have hts:=List.take_succ_eq_append_getElem hk
   by_cases he:l[k] = m
   ·have hct:l.contains m = true:=by
     rw [List.contains_iff_mem,← he]; exact List.getElem_mem hk
    rw [hct]
    (refine WV_cond rfl (fun h => ?_) (fun h => ?_))
    ·(repeat ((first | refine Va ?_ | refine Vb ?_ | refine Vc ?_ | refine Vd ?_ | refine Ve ?_ | refine Vf ?_); (try simp only [go_sem,hP]); (repeat refine qJ ?_)))
     (refine WV_ret ?_; simp only [thenQ,inQ,RetQ,RetOk,resAll,resA]; simp only [go_sem,tupA,AV.port,AV.portL,exists_eq_left']; (first | exact AVle.of rfl | refine AVle.of ?_ | skip))
    ·simp [he] at h
   ·(refine WV_cond rfl (fun h => ?_) (fun h => ?_))
    ·simp at h; exact (he (Prod.ext h.1 h.2)).elim
    ·(repeat ((first | refine Va ?_ | refine Vb ?_ | refine Vc ?_ | refine Vd ?_ | refine Ve ?_ | refine Vf ?_); (try simp only [go_sem,hP,hw2]); (repeat refine qJ ?_)))
     refine ⟨k + 1,⟨by omega,?_⟩,by omega,?_⟩
     ·rw [hts,List.contains_eq_mem,decide_eq_false_iff_not]
      rw [List.contains_eq_mem,decide_eq_false_iff_not] at hc
      intro hm
      rcases List.mem_append.1 hm with hm | hm
      ·exact hc hm
      ·exact he (List.mem_singleton.1 hm).symm
     ·exact Sub_au
  ·have hk:k = l.length:=by simp at h; omega
   subst hk
   rw [List.take_length] at hc
   rw [hc]
   (repeat ((first | refine Va ?_ | refine Vb ?_ | refine Vc ?_ | refine Vd ?_ | refine Ve ?_ | refine Vf ?_); (try simp only [go_sem,hP]); (repeat refine qJ ?_)))
   (refine WV_ret ?_; simp only [thenQ,inQ,RetQ,RetOk,resAll,resA]; simp only [go_sem,tupA,AV.port,AV.portL,exists_eq_left']; (first | exact AVle.of rfl | refine AVle.of ?_ | skip))
end Go.Proofs.YtlmfdmlochpfcaaDoor

namespace Go.Proofs.YtlmfdmlochpfcaaDoor
open Go Go.V
section
variable {ts:List (List UInt8)}
end
end Go.Proofs.YtlmfdmlochpfcaaDoor

namespace Go.Proofs.YtlmfdmlochpfcaaDoor
open Go Go.V
abbrev o19_0:List Ins:=[⟨some 6,.mv (.k (.c (.str []))),none,true⟩]
abbrev o19_1:List Ins:=[⟨some 7,.mv (.k (.c (.str []))),none,true⟩]
abbrev o19_2:List Ins:=[⟨some 8,.mv (.k (.c (.int .i64 0))),none,true⟩]
abbrev o19_3:List Ins:=[⟨some 11,.mv (.t 8),none,true⟩,
 ⟨some 12,.mv (.t 0),none,true⟩,
 ⟨some 13,.len (.t 12),none,true⟩,
 ⟨some 14,.bin .lss (.t 11) (.t 13),none,true⟩]
abbrev v19_4:VC:=(.cond (.t 14) .skip (.exit 0))
abbrev o19_5:List Ins:=[⟨some 17,.mv (.t 0),none,true⟩,
 ⟨some 18,.mv (.t 8),none,true⟩,
 ⟨some 19,.ia 1 (.t 17) (.t 18),none,true⟩,
 ⟨some 20,.ld true 1 (.t 19),none,true⟩,
 ⟨some 21,.raw (.convert 9 68 (.tmp 20)),none,true⟩,
 ⟨some 9,.mv (.t 21),none,true⟩]
abbrev o19_6:List Ins:=[⟨some 10,.mv (.k (.c (.int .i64 0))),none,true⟩]
abbrev o19_7:List Ins:=[⟨some 22,.mv (.t 10),none,true⟩,
 ⟨some 23,.mv (.t 1),none,true⟩,
 ⟨some 24,.len (.t 23),none,true⟩,
 ⟨some 25,.bin .lss (.t 22) (.t 24),none,true⟩]
abbrev v19_8:VC:=(.cond (.t 25) .skip (.exit 2))
abbrev o19_9:List Ins:=[⟨some 28,.mv (.t 1),none,true⟩,
 ⟨some 29,.mv (.t 10),none,true⟩,
 ⟨some 30,.ia 2 (.t 28) (.t 29),none,true⟩,
 ⟨some 31,.fa 0 (.t 30),none,true⟩,
 ⟨some 32,.ld true 1 (.t 31),none,true⟩,
 ⟨some 33,.mv (.t 8),none,true⟩,
 ⟨some 34,.bin .eql (.t 32) (.t 33),none,true⟩,
 ⟨some 35,.mv (.t 34),none,true⟩,
 ⟨some 36,.mv (.t 1),(some (35,true)),true⟩,
 ⟨some 37,.mv (.t 10),(some (35,true)),true⟩,
 ⟨some 38,.ia 2 (.t 36) (.t 37),(some (35,true)),true⟩,
 ⟨some 39,.fa 1 (.t 38),(some (35,true)),true⟩,
 ⟨some 40,.ld true 1 (.t 39),(some (35,true)),true⟩,
 ⟨some 41,.bin .geq (.t 40) (.k (.c (.int .i64 0))),(some (35,true)),true⟩,
 ⟨some 42,.pick (.t 35) (.t 41) (.k (.c (.bool false))),none,true⟩,
 ⟨some 43,.mv (.t 42),none,true⟩,
 ⟨some 44,.mv (.t 1),(some (43,true)),true⟩,
 ⟨some 45,.mv (.t 10),(some (43,true)),true⟩,
 ⟨some 46,.ia 2 (.t 44) (.t 45),(some (43,true)),true⟩,
 ⟨some 47,.fa 1 (.t 46),(some (43,true)),true⟩,
 ⟨some 48,.ld true 1 (.t 47),(some (43,true)),true⟩,
 ⟨some 49,.mv (.t 9),(some (43,true)),true⟩,
 ⟨some 50,.len (.t 49),(some (43,true)),true⟩,
 ⟨some 51,.bin .lss (.t 48) (.t 50),(some (43,true)),true⟩,
 ⟨some 52,.pick (.t 43) (.t 51) (.k (.c (.bool false))),none,true⟩]
abbrev o19_10:List Ins:=[⟨some 53,.mv (.t 9),none,true⟩,
 ⟨some 54,.mv (.t 1),none,true⟩,
 ⟨some 55,.mv (.t 10),none,true⟩,
 ⟨some 56,.ia 2 (.t 54) (.t 55),none,true⟩,
 ⟨some 57,.fa 1 (.t 56),none,true⟩,
 ⟨some 58,.ld true 1 (.t 57),none,true⟩,
 ⟨some 59,.mv (.t 2),none,true⟩,
 ⟨some 60,.ia 1 (.t 53) (.t 58),none,true⟩,
 ⟨none,.st 1 (.t 60) (.t 59),none,true⟩]
abbrev v19_11:VC:=(.cond (.t 52) (.ops o19_10) .skip)
abbrev v19_12:VC:=(.seq (.ops o19_9) v19_11)
abbrev o19_13:List Ins:=[⟨some 26,.mv (.t 10),none,true⟩,
 ⟨some 27,.bin .add (.t 26) (.k (.c (.int .i64 1))),none,true⟩,
 ⟨some 10,.mv (.t 27),none,true⟩]
abbrev v19_14:VC:=(.seq (.block 3 v19_12) (.ops o19_13))
abbrev v19_15:VC:=(.seq (.seq (.ops o19_7) v19_8) v19_14)
-- K19_2: changed and kept: [10]
abbrev v19_16:VC:=(.loop v19_15)
abbrev v19_17:VC:=(.block 2 v19_16)
abbrev o19_18:List Ins:=[⟨some 61,.mv (.t 7),none,true⟩,
 ⟨some 62,.mv (.t 9),none,true⟩,
 ⟨some 63,.raw (.convert 68 9 (.tmp 62)),none,true⟩,
 ⟨some 64,.prim (.sbin .add) [(.t 63),(.k (.c (.str [10])))],none,true⟩,
 ⟨some 65,.prim (.sbin .add) [(.t 61),(.t 64)],none,true⟩,
 ⟨some 7,.mv (.t 65),none,true⟩]
abbrev v19_19:VC:=(.seq (.seq (.ops o19_6) v19_17) (.ops o19_18))
abbrev v19_20:VC:=(.seq (.ops o19_5) v19_19)
abbrev o19_21:List Ins:=[⟨some 15,.mv (.t 8),none,true⟩,
 ⟨some 16,.bin .add (.t 15) (.k (.c (.int .i64 1))),none,true⟩,
 ⟨some 8,.mv (.t 16),none,true⟩]
abbrev v19_22:VC:=(.seq (.block 1 v19_20) (.ops o19_21))
abbrev v19_23:VC:=(.seq (.seq (.ops o19_3) v19_4) v19_22)
-- K19_1: changed and kept: [8,7]
abbrev v19_24:VC:=(.loop v19_23)
abbrev v19_25:VC:=(.block 0 v19_24)
abbrev o19_26:List Ins:=[⟨some 66,.mv (.t 7),none,true⟩,
 ⟨some 6,.mv (.t 66),none,true⟩]
abbrev v19_27:VC:=(.seq (.ops o19_26) .ret)
abbrev v19_28:VC:=(.seq (.seq (.ops o19_2) v19_25) v19_27)
abbrev v19_29:VC:=(.seq (.ops o19_1) v19_28)
def ir19:FC:=⟨3,67,[.t 6],(.seq (.ops o19_0) v19_29)⟩
theorem c19:compM Tryd.prog [] 19 = some ir19:=by kernel_rfl
attribute [local go_sem] Nat.reduceEqDiff Nat.reduceAdd Nat.reduceMul reduceIte Nat.reduceLeDiff Nat.reduceLT Nat.reduceBEq reduceCtorEq
theorem upR_take {f:Nat → Nat → UInt8} {rows:List (List UInt8)} {ms:List (Int × Int)} {k:Nat} (h:k < rows.length):(upR f rows ms).take (k + 1) = (upR f rows ms).take k ++ [upRow (f k) k ms rows[k]]:=by
 have hl:k < (upR f rows ms).length:=by rw [upR_len]; exact h
 rw [List.take_succ_eq_append_getElem hl]
 congr 2
 have:=upR_get (f:=f) (ms:=ms) h
 rw [List.getD_eq_getElem?_getD,List.getElem?_eq_getElem hl,List.getD_eq_getElem?_getD,List.getElem?_eq_getElem h] at this
 exact this
theorem textG_app (a:List (List UInt8)) (l:List UInt8):textG (a ++ [l]) = textG a ++ (l ++ [10]):=by
 unfold textG; rw [List.flatMap_append]; simp
theorem upR_rows {f:Nat → Nat → UInt8} {rows:List (List UInt8)} {ms:List (Int × Int)} {b:Nat} (h:∀ l ∈ rows,l.length ≤ b):∀ l ∈ upR f rows ms,l.length ≤ b:=by
 intro l hl
 unfold upR at hl
 obtain ⟨i,hi,rfl⟩:=List.mem_map.1 hl
 have hi:=List.mem_range.1 hi
 rw [upRow_len]
 exact h _ (getD_mem [] hi)
theorem bcells_set {l:List UInt8} {k:Nat} (h:k < l.length) (j:Nat) (v:UInt8):(cellsG bcd l j).set k (.c (.int .u8 (v.toNat:Int))) = cellsG bcd (l.set k v) j:=by
 have hcs:=cellsG_set (cds:=bcd) bcd_one (l:=l) (k:=k) h j 0 (by decide) (.int .u8 v.toNat) v rfl
 rwa [Nat.mul_one,Nat.add_zero] at hcs
set_option maxRecDepth 20000 in
set_option maxHeartbeats 16000000 in
theorem spoilt19 (rows:List (List UInt8)) (ms:List (Int × Int)) (b:UInt8) (hr:rows.length ≤ 100) (hrl:∀ l ∈ rows,l.length ≤ 100) (hm:ms.length ≤ 1000000):FSpec Tryd.prog 19 [.c (strsV rows),.c (placesC ms),.c (.int .u8 (b.toNat:Int))] (sv (textG (upR (fun _ _ => b) rows ms))):=by
 have hmax:maxLen = 9223372036854775807:=rfl
 have hul:=upR_rows (f:=fun _ _ => b) (ms:=ms) hrl
 have hlu:=upR_len (fun _ _ => b) rows ms
 have hsn:=@upR_take (fun _ _ => b) rows ms
 refine FSpec_of c19 (Nat.le_refl _) (by decide) fun C hP hN hC hL => ?_; rw [init_st]
 simp only [ir19,strsV]
 (repeat ((first | refine Va ?_ | refine Vb ?_ | refine Vc ?_ | refine Vd ?_ | refine Ve ?_ | refine Vf ?_); (try simp only [go_sem,hP]); (repeat refine qJ ?_)))
 refine WV_loopS (fun k:Nat => ⟨upd (upd (upd (upd (upd e0 0 (.c (.sl 1 (rows.map fun t => [CD.str t])))) 1 (.c (placesC ms))) 2 (.c (.int .u8 b.toNat))) 8 (iv k)) 7 (sv (textG ((upR (fun _ _ => b) rows ms).take k))),o0⟩) (fun k => k ≤ rows.length) (fun k => rows.length - k) 0 (Nat.zero_le _) ?_ ?_
 ·(refine Sub_of (by simp only [go_sem]; ((repeat' (first | exact EnvLe_e0 _ _ | refine EnvLe_upd ?_ ?_)) <;> ((try simp only [upd_app,e0_app,o0_app,Nat.reduceEqDiff,reduceIte]); first | exact AWk.refl _ _ | exact AWk.int (by omega) | exact AWk.int (by rw [w64 (by omega) (by omega)]; omega) | exact AWk.grow rfl | exact AWk.nil _ | exact AWk.of (by simp [textG])))) (by simp only [go_sem]; exact ObjLe_au))
 ·intro k hk0
  have htl:=textG_len (rows:=upR (fun _ _ => b) rows ms) 100 hul k
  have htl2:k * 101 ≤ 100 * 101:=Nat.mul_le_mul (by omega) (Nat.le_refl _)
  (repeat ((first | refine Va ?_ | refine Vb ?_ | refine Vc ?_ | refine Vd ?_ | refine Ve ?_ | refine Vf ?_); (try simp only [go_sem,hP,List.length_map]); (repeat refine qJ ?_)))
  (refine WV_cond rfl (fun h => ?_) (fun h => ?_))
  ·have hk:k < rows.length:=by simpa using h
   have hw2:=w64 (n:=(k:Int) + 1) (by omega) (by omega)
   have hs:=hsn hk
   have hrk:=hrl _ (List.getElem_mem hk)
   generalize hT:textG ((upR (fun _ _ => b) rows ms).take k) = T at htl
   have hT2:textG ((upR (fun _ _ => b) rows ms).take (k + 1)) = T ++ (upRow (fun _ => b) k ms rows[k] ++ [10]):=by rw [hs,textG_app,hT]
   generalize hrow:rows[k] = row at hrk hT2
   (refine WV_skip ?_; simp only [go_sem])
   refine WV_seq_ (WV_block (WV_seq_ ?_))
   (refine WV_op ?_; simp only [go_sem,hP,map_getD hk,hrow,Int.toNat_natCast,Int.ofNat_lt,hk,Int.natCast_nonneg,List.length_map]; (repeat refine qJ ?_))
   refine raw_sb (s:=row) (x':=.t 20) (e:=5) (by kernel_rfl) (by kernel_rfl) (by kernel_rfl) rfl rfl rfl rfl (by omega) ?_
   intro cap j k1 k2 k3
   simp only [go_sem]
   (repeat ((first | refine Va ?_ | refine Vb ?_ | refine Vc ?_ | refine Vd ?_ | refine Ve ?_ | refine Vf ?_); (try simp only [go_sem,hP]); (repeat refine qJ ?_)))
   refine WV_loopS (fun i:Nat => ⟨upd (upd (upd (upd (upd (upd (upd e0 0 (.c (.sl 1 (rows.map fun t => [CD.str t])))) 1 (.c (placesC ms))) 2 (.c (.int .u8 b.toNat))) 8 (iv k)) 7 (sv T)) 9 (.vw 1 21 0 row.length cap)) 10 (iv i),upd o0 21 (.box (cellsG bcd (upRow (fun _ => b) k (ms.take i) row) j))⟩) (fun i => i ≤ ms.length) (fun i => ms.length - i) 0 (Nat.zero_le _) ?_ ?_
   ·(refine Sub_of (by simp only [go_sem]; ((repeat' (first | exact EnvLe_e0 _ _ | refine EnvLe_upd ?_ ?_)) <;> ((try simp only [upd_app,e0_app,o0_app,Nat.reduceEqDiff,reduceIte]); first | exact AWk.refl _ _ | exact AWk.int (by omega) | exact AWk.int (by rw [w64 (by omega) (by omega)]; omega) | exact AWk.grow rfl | exact AWk.nil _ | exact AWk.of (by simp [upRow])))) (by simp only [go_sem]; exact ObjLe_au))
   ·intro i hi0
    have hur:=upRow_len (fun _ => b) k (ms.take i) row
    (repeat ((first | refine Va ?_ | refine Vb ?_ | refine Vc ?_ | refine Vd ?_ | refine Ve ?_ | refine Vf ?_); (try simp only [go_sem,hP,placesC,List.length_map]); (repeat refine qJ ?_)))
    (refine WV_cond rfl (fun h => ?_) (fun h => ?_))
    ·have hi:i < ms.length:=by simpa using h
     have hw3:=w64 (n:=(i:Int) + 1) (by omega) (by omega)
     have hgd:(ms.map placeC).getD i [] = placeC ms[i]:=map_getD hi
     have hus:=upRow_snoc (fun _ => b) k (ms.take i) ms[i] row
     rw [← List.take_succ_eq_append_getElem hi,hur] at hus
     generalize ms[i] = m at hgd hus
     (refine WV_skip ?_; simp only [go_sem])
     refine WV_seq_ (WV_block (WV_seq_ ?_))
     (refine WV_op ?_; simp only [go_sem,hP,hgd,placesC,placeC,Int.toNat_natCast,Int.ofNat_lt,hi,Int.natCast_nonneg,List.length_map]; (repeat refine qJ ?_))
     by_cases hc:m.1 = (k:Int) ∧ 0 ≤ m.2 ∧ m.2 < (row.length:Int)
     ·rw [if_pos hc] at hus
      obtain ⟨c1,c2,c3⟩:=hc
      have hmt:m.2.toNat < row.length:=by omega
      have hset:=bcells_set (l:=upRow (fun _ => b) k (ms.take i) row) (k:=m.2.toNat) (by omega) j b
      have hcl:m.2.toNat < (cellsG bcd (upRow (fun _ => b) k (ms.take i) row) j).length:=by rw [cellsG_len bcd_one]; omega
      rw [← hus] at hset
      (refine WV_cond rfl (fun h => ?_) (fun h => ?_))
      ·(repeat ((first | refine Va ?_ | refine Vb ?_ | refine Vc ?_ | refine Vd ?_ | refine Ve ?_ | refine Vf ?_); (try simp only [go_sem,hP,hgd,placesC,placeC,Int.toNat_natCast,Int.ofNat_lt,hi,Int.natCast_nonneg,List.length_map,c2,c3,hmt,hcl,Nat.mul_one,Nat.zero_add,Nat.add_zero,hset,hw3]); (repeat refine qJ ?_)))
       refine ⟨i + 1,by omega,by omega,?_⟩
       (refine Sub_of (by simp only [go_sem]; ((repeat' (first | exact EnvLe_e0 _ _ | refine EnvLe_upd ?_ ?_)) <;> ((try simp only [upd_app,e0_app,o0_app,Nat.reduceEqDiff,reduceIte]); first | exact AWk.refl _ _ | exact AWk.int (by omega) | exact AWk.int (by rw [w64 (by omega) (by omega)]; omega) | exact AWk.grow rfl | exact AWk.nil _ | exact AWk.of (by simp [placesC])))) (by simp only [go_sem]; exact ObjLe_au))
      ·simp [c1,c2,c3] at h
     ·rw [if_neg hc] at hus
      (refine WV_cond rfl (fun h => ?_) (fun h => ?_))
      ·simp at h; exact (hc ⟨h.1.1,h.1.2,h.2⟩).elim
      ·(repeat ((first | refine Va ?_ | refine Vb ?_ | refine Vc ?_ | refine Vd ?_ | refine Ve ?_ | refine Vf ?_); (try simp only [go_sem,hP,hw3]); (repeat refine qJ ?_)))
       refine ⟨i + 1,by omega,by omega,?_⟩
       rw [hus]
       (refine Sub_of (by simp only [go_sem]; ((repeat' (first | exact EnvLe_e0 _ _ | refine EnvLe_upd ?_ ?_)) <;> ((try simp only [upd_app,e0_app,o0_app,Nat.reduceEqDiff,reduceIte]); first | exact AWk.refl _ _ | exact AWk.int (by omega) | exact AWk.int (by rw [w64 (by omega) (by omega)]; omega) | exact AWk.grow rfl | exact AWk.nil _ | exact AWk.of (by simp [placesC])))) (by simp only [go_sem]; exact ObjLe_au))
    ·have hi:i = ms.length:=by simp at h; omega
     subst hi
     rw [List.take_length] at hur ⊢
     refine WV_exit ?_
     simp only [thenQ,inQ,reduceIte,beq_self_eq_true]
     (refine WV_op ?_; simp only [go_sem,hP]; (repeat refine qJ ?_))
     refine raw_bs (s:=upRow (fun _ => b) k ms row) (x':=.t 62) (e:=5) (by kernel_rfl) (by kernel_rfl) (by kernel_rfl) rfl rfl ?_ ?_
     ·show AV.vport _ (.vw 1 21 0 row.length cap) = _
      unfold AV.vport
      rw [← hur,elemsV_cellsG bcd_one _ 21 (upRow (fun _ => b) k ms row) j cap (by rfl)]
      rfl
     have hlt:(T ++ (upRow (fun _ => b) k ms row ++ [10])).length ≤ 2000000:=by simp; omega
     have hlt2:(upRow (fun _ => b) k ms row ++ [(10:UInt8)]).length ≤ 2000000:=by simp; omega
     simp only [go_sem,List.length_cons,List.length_nil]
     (repeat refine qJ ?_)
     (repeat ((first | refine Va ?_ | refine Vb ?_ | refine Vc ?_ | refine Vd ?_ | refine Ve ?_ | refine Vf ?_); (try simp only [go_sem,hP,hw2]); (repeat refine qJ ?_)))
     refine ⟨k + 1,by omega,by omega,?_⟩
     rw [hT2]
     (refine Sub_of (by simp only [go_sem]; ((repeat' (first | exact EnvLe_e0 _ _ | refine EnvLe_upd ?_ ?_)) <;> ((try simp only [upd_app,e0_app,o0_app,Nat.reduceEqDiff,reduceIte]); first | exact AWk.refl _ _ | exact AWk.int (by omega) | exact AWk.int (by rw [w64 (by omega) (by omega)]; omega) | exact AWk.grow rfl | exact AWk.nil _ | exact AWk.of (by simp [placesC])))) (by simp only [go_sem]; exact ObjLe_au))
  ·have hk:k = rows.length:=by simp at h; omega
   subst hk
   rw [List.take_of_length_le (by rw [hlu]; exact Nat.le_refl _)]
   (repeat ((first | refine Va ?_ | refine Vb ?_ | refine Vc ?_ | refine Vd ?_ | refine Ve ?_ | refine Vf ?_); (try simp only [go_sem,hP]); (repeat refine qJ ?_)))
   (refine WV_ret ?_; simp only [thenQ,inQ,RetQ,RetOk,resAll,resA]; simp only [go_sem,tupA,AV.port,AV.portL,exists_eq_left']; (first | exact AVle.of rfl | refine AVle.of ?_ | skip))
end Go.Proofs.YtlmfdmlochpfcaaDoor

namespace Go.Proofs.YtlmfdmlochpfcaaDoor
open Go Go.V
abbrev o17_0:List Ins:=[⟨some 2,.mv (.k (.c (.str []))),none,true⟩,
 ⟨some 3,.mv (.k (.c (.raw (.slice none 0 0)))),none,true⟩,
 ⟨some 4,.mv (.k (.c (.bool false))),none,true⟩]
abbrev o17_1:List Ins:=[⟨some 11,.mv (.t 0),none,true⟩,
 ⟨some 12,.call (.k (.fn 24 [])) [(.t 11)],none,true⟩,
 ⟨some 10,.mv (.t 12),none,true⟩,
 ⟨some 13,.ext (.t 10) 0,none,true⟩,
 ⟨some 14,.ext (.t 10) 1,none,true⟩,
 ⟨some 5,.mv (.t 13),none,true⟩,
 ⟨some 6,.mv (.t 14),none,true⟩]
abbrev o17_2:List Ins:=[⟨some 15,.mv (.t 6),none,true⟩,
 ⟨some 16,.bin .neq (.t 15) (.k (.c (.int .i64 0))),none,true⟩,
 ⟨some 17,.mv (.t 16),none,true⟩,
 ⟨some 18,.mv (.t 5),(some (17,false)),true⟩,
 ⟨some 19,.call (.k (.fn 26 [])) [(.t 18)],(some (17,false)),true⟩,
 ⟨some 20,.pick (.t 17) (.k (.c (.bool true))) (.t 19),none,true⟩]
abbrev o17_3:List Ins:=[⟨some 2,.mv (.k (.c (.str []))),none,true⟩,
 ⟨some 3,.mv (.k (.c (.raw (.slice none 0 0)))),none,true⟩,
 ⟨some 4,.mv (.k (.c (.bool false))),none,true⟩]
abbrev v17_4:VC:=(.seq (.ops o17_3) .ret)
abbrev v17_5:VC:=(.cond (.t 20) v17_4 .skip)
abbrev o17_6:List Ins:=[⟨some 7,.mv (.k (.c (.int .i64 0))),none,true⟩]
abbrev o17_7:List Ins:=[⟨some 8,.mv (.k (.c (.int .i64 0))),none,true⟩]
abbrev o17_8:List Ins:=[⟨some 21,.mv (.t 8),none,true⟩,
 ⟨some 22,.mv (.t 5),none,true⟩,
 ⟨some 23,.prim .slen [(.t 22)],none,true⟩,
 ⟨some 24,.bin .lss (.t 21) (.t 23),none,true⟩]
abbrev v17_9:VC:=(.cond (.t 24) .skip (.exit 0))
abbrev o17_10:List Ins:=[⟨some 27,.mv (.t 5),none,true⟩,
 ⟨some 28,.mv (.t 8),none,true⟩,
 ⟨some 29,.prim .sidx [(.t 27),(.t 28)],none,true⟩,
 ⟨some 30,.bin .eql (.t 29) (.k (.c (.int .u8 10))),none,true⟩]
abbrev o17_11:List Ins:=[⟨some 31,.mv (.t 3),none,true⟩,
 ⟨some 32,.mv (.t 5),none,true⟩,
 ⟨some 33,.mv (.t 7),none,true⟩,
 ⟨some 34,.mv (.t 8),none,true⟩,
 ⟨some 35,.prim (.sslc true true) [(.t 32),(.t 33),(.t 34)],none,true⟩,
 ⟨some 36,.bsl 9 1 [(.t 35)],none,true⟩,
 ⟨some 37,.app 9 1 16 (.t 31) (.t 36),none,true⟩,
 ⟨some 3,.mv (.t 37),none,true⟩]
abbrev o17_12:List Ins:=[⟨some 38,.mv (.t 8),none,true⟩,
 ⟨some 39,.bin .add (.t 38) (.k (.c (.int .i64 1))),none,true⟩,
 ⟨some 7,.mv (.t 39),none,true⟩]
abbrev v17_13:VC:=(.seq (.ops o17_11) (.ops o17_12))
abbrev v17_14:VC:=(.cond (.t 30) v17_13 .skip)
abbrev v17_15:VC:=(.seq (.ops o17_10) v17_14)
abbrev o17_16:List Ins:=[⟨some 25,.mv (.t 8),none,true⟩,
 ⟨some 26,.bin .add (.t 25) (.k (.c (.int .i64 1))),none,true⟩,
 ⟨some 8,.mv (.t 26),none,true⟩]
abbrev v17_17:VC:=(.seq (.block 1 v17_15) (.ops o17_16))
abbrev v17_18:VC:=(.seq (.seq (.ops o17_8) v17_9) v17_17)
-- K17_1: changed and kept: [8,3,7]
abbrev v17_19:VC:=(.loop v17_18)
abbrev v17_20:VC:=(.block 0 v17_19)
abbrev o17_21:List Ins:=[⟨some 40,.mv (.t 7),none,true⟩,
 ⟨some 41,.mv (.t 5),none,true⟩,
 ⟨some 42,.prim .slen [(.t 41)],none,true⟩,
 ⟨some 43,.bin .neq (.t 40) (.t 42),none,true⟩,
 ⟨some 44,.mv (.t 43),none,true⟩,
 ⟨some 45,.mv (.t 3),(some (44,false)),true⟩,
 ⟨some 46,.len (.t 45),(some (44,false)),true⟩,
 ⟨some 47,.mv (.t 0),(some (44,false)),true⟩,
 ⟨some 48,.len (.t 47),(some (44,false)),true⟩,
 ⟨some 49,.bin .add (.t 48) (.k (.c (.int .i64 1))),(some (44,false)),true⟩,
 ⟨some 50,.bin .neq (.t 46) (.t 49),(some (44,false)),true⟩,
 ⟨some 51,.pick (.t 44) (.k (.c (.bool true))) (.t 50),none,true⟩]
abbrev o17_22:List Ins:=[⟨some 2,.mv (.k (.c (.str []))),none,true⟩,
 ⟨some 3,.mv (.k (.c (.raw (.slice none 0 0)))),none,true⟩,
 ⟨some 4,.mv (.k (.c (.bool false))),none,true⟩]
abbrev v17_23:VC:=(.seq (.ops o17_22) .ret)
abbrev v17_24:VC:=(.cond (.t 51) v17_23 .skip)
abbrev o17_25:List Ins:=[⟨some 9,.mv (.k (.c (.int .i64 0))),none,true⟩]
abbrev o17_26:List Ins:=[⟨some 52,.mv (.t 9),none,true⟩,
 ⟨some 53,.mv (.t 3),none,true⟩,
 ⟨some 54,.len (.t 53),none,true⟩,
 ⟨some 55,.bin .lss (.t 52) (.t 54),none,true⟩]
abbrev v17_27:VC:=(.cond (.t 55) .skip (.exit 2))
abbrev o17_28:List Ins:=[⟨some 58,.mv (.t 3),none,false⟩,
 ⟨some 59,.mv (.t 9),none,false⟩,
 ⟨some 60,.ia 1 (.t 58) (.t 59),none,false⟩,
 ⟨some 61,.ld true 1 (.t 60),none,false⟩,
 ⟨some 62,.prim .slen [(.t 61)],none,false⟩,
 ⟨some 63,.mv (.t 3),none,false⟩,
 ⟨some 64,.ia 1 (.t 63) (.k (.c (.int .i64 0))),none,false⟩,
 ⟨some 65,.ld true 1 (.t 64),none,false⟩,
 ⟨some 66,.prim .slen [(.t 65)],none,false⟩,
 ⟨some 67,.bin .neq (.t 62) (.t 66),none,true⟩,
 ⟨some 68,.mv (.t 67),none,true⟩,
 ⟨some 69,.mv (.t 3),(some (68,false)),false⟩,
 ⟨some 70,.mv (.t 9),(some (68,false)),false⟩,
 ⟨some 71,.ia 1 (.t 69) (.t 70),(some (68,false)),true⟩,
 ⟨some 72,.ld true 1 (.t 71),(some (68,false)),true⟩,
 ⟨some 73,.prim .slen [(.t 72)],(some (68,false)),true⟩,
 ⟨some 74,.bin .lss (.t 73) (.k (.c (.int .i64 2))),(some (68,false)),true⟩,
 ⟨some 75,.pick (.t 68) (.k (.c (.bool true))) (.t 74),none,true⟩]
abbrev o17_29:List Ins:=[⟨some 2,.mv (.k (.c (.str []))),none,true⟩,
 ⟨some 3,.mv (.k (.c (.raw (.slice none 0 0)))),none,true⟩,
 ⟨some 4,.mv (.k (.c (.bool false))),none,true⟩]
abbrev v17_30:VC:=(.seq (.ops o17_29) .ret)
abbrev v17_31:VC:=(.cond (.t 75) v17_30 .skip)
abbrev v17_32:VC:=(.seq (.dops o17_28) v17_31)
abbrev o17_33:List Ins:=[⟨some 56,.mv (.t 9),none,true⟩,
 ⟨some 57,.bin .add (.t 56) (.k (.c (.int .i64 1))),none,true⟩,
 ⟨some 9,.mv (.t 57),none,true⟩]
abbrev v17_34:VC:=(.seq (.block 3 v17_32) (.ops o17_33))
abbrev v17_35:VC:=(.seq (.seq (.ops o17_26) v17_27) v17_34)
-- K17_2: changed and kept: [9,3]
abbrev v17_36:VC:=(.loop v17_35)
abbrev v17_37:VC:=(.block 2 v17_36)
abbrev o17_38:List Ins:=[⟨some 76,.mv (.t 5),none,true⟩,
 ⟨some 77,.mv (.t 3),none,true⟩,
 ⟨some 2,.mv (.t 76),none,true⟩,
 ⟨some 3,.mv (.t 77),none,true⟩,
 ⟨some 4,.mv (.k (.c (.bool true))),none,true⟩]
abbrev v17_39:VC:=(.seq (.ops o17_38) .ret)
abbrev v17_40:VC:=(.seq (.seq (.ops o17_25) v17_37) v17_39)
abbrev v17_41:VC:=(.seq (.seq (.ops o17_21) v17_24) v17_40)
abbrev v17_42:VC:=(.seq (.seq (.ops o17_7) v17_20) v17_41)
abbrev v17_43:VC:=(.seq (.ops o17_6) v17_42)
abbrev v17_44:VC:=(.seq (.seq (.ops o17_2) v17_5) v17_43)
abbrev v17_45:VC:=(.seq (.ops o17_1) v17_44)
def ir17:FC:=⟨1,78,[.t 2,.t 3,.t 4],(.seq (.ops o17_0) v17_45)⟩
theorem c17:compM Tryd.prog [] 17 = some ir17:=by kernel_rfl
attribute [local go_sem] Nat.reduceEqDiff Nat.reduceAdd Nat.reduceMul reduceIte Nat.reduceLeDiff Nat.reduceLT Nat.reduceBEq reduceCtorEq
def lnK (s:List UInt8):Nat → List (List UInt8) × Nat
 | 0 => ([],0)
 | i + 1 => if s.getD i 0 = 10 then ((lnK s i).1 ++ [(s.take i).drop (lnK s i).2],i + 1) else lnK s i
theorem lnK_le (s:List UInt8):∀ i,(lnK s i).2 ≤ i ∧ (lnK s i).1.length ≤ i
 | 0 => ⟨Nat.le_refl _,Nat.le_refl _⟩
 | i + 1 => by
  have:=lnK_le s i
  unfold lnK
  split
  ·simp only [List.length_append,List.length_cons,List.length_nil]; omega
  ·omega
theorem lnK_pre (a c:List UInt8):∀ i,i ≤ a.length → lnK (a ++ c) i = lnK a i
 | 0,_ => rfl
 | i + 1,h => by
  have ih:=lnK_pre a c i (by omega)
  unfold lnK
  rw [ih,List.getD_eq_getElem?_getD,List.getElem?_append_left (by omega),← List.getD_eq_getElem?_getD,List.take_append_of_le_length (by omega)]
theorem lnK_line {T l c:List UInt8} {p:List (List UInt8) × Nat} (h:lnK T T.length = p) (hl:(10:UInt8) ∉ l):∀ i,i ≤ l.length → lnK (T ++ (l ++ c)) (T.length + i) = p
 | 0,_ => by rw [Nat.add_zero,lnK_pre _ _ _ (Nat.le_refl _),h]
 | i + 1,hi => by
  have ih:=lnK_line (c:=c) h hl i (by omega)
  rw [← Nat.add_assoc]
  unfold lnK
  rw [if_neg,ih]
  rw [List.getD_eq_getElem?_getD,List.getElem?_append_right (by omega),Nat.add_sub_cancel_left,List.getElem?_append_left (by omega),List.getElem?_eq_getElem (by omega)]
  exact fun e => hl (e ▸ List.getElem_mem _)
theorem lnK_snoc {T l:List UInt8} {rows:List (List UInt8)} (h:lnK T T.length = (rows,T.length)) (hl:(10:UInt8) ∉ l):lnK (T ++ (l ++ [10])) (T ++ (l ++ [10])).length = (rows ++ [l],(T ++ (l ++ [10])).length):=by
 have h1:=lnK_line (c:=[10]) h hl l.length (Nat.le_refl _)
 have e:(T ++ (l ++ [(10:UInt8)])).length = (T.length + l.length) + 1:=by simp; omega
 rw [e]
 unfold lnK
 rw [if_pos,h1]
 ·refine Prod.ext ?_ rfl
  simp only
  congr 2
  rw [← List.append_assoc,List.take_append_of_le_length (by simp),List.take_of_length_le (by simp),List.drop_append_of_le_length (by simp),List.drop_of_length_le (by simp),List.nil_append]
 ·rw [List.getD_eq_getElem?_getD,List.getElem?_append_right (by omega),Nat.add_sub_cancel_left,List.getElem?_append_right (by omega),Nat.sub_self]; rfl
theorem lnK_text:∀ (k:Nat) (rows:List (List UInt8)),rows.length = k → (∀ l ∈ rows,(10:UInt8) ∉ l) → lnK (textG rows) (textG rows).length = (rows,(textG rows).length)
 | 0,rows,hk,_ => by
  have:=List.eq_nil_of_length_eq_zero hk
  subst this; rfl
 | k + 1,rows,hk,h => by
  have hne:rows ≠ []:=fun e => by rw [e] at hk; simp at hk
  have hd:=List.dropLast_concat_getLast hne
  have ih:=lnK_text k rows.dropLast (by rw [List.length_dropLast,hk]; rfl) fun l hl => h l ((List.dropLast_sublist rows).subset hl)
  have hl:=h _ (List.getLast_mem hne)
  generalize rows.getLast hne = l at hd hl
  generalize rows.dropLast = R at hd ih
  subst hd
  have e:textG (R ++ [l]) = textG R ++ (l ++ [10]):=by unfold textG; rw [List.flatMap_append]; simp
  rw [e]
  exact lnK_snoc ih hl
theorem SOk.no10 {rows:List (List UInt8)} {w:Nat} (h:SOk rows w):∀ l ∈ rows,(10:UInt8) ∉ l:=by
 intro l hl hc
 have:=h.byte l hl 10 hc
 unfold BOk at this
 revert this; decide
theorem lines_sok {rows:List (List UInt8)} {w:Nat} (h:SOk rows w):lnK (textG rows) (textG rows).length = (rows,(textG rows).length):=lnK_text _ rows rfl h.no10
theorem lnK_succ {s:List UInt8} {i:Nat} (h:i < s.length):lnK s (i + 1) = if s[i] = 10 then ((lnK s i).1 ++ [(s.take i).drop (lnK s i).2],i + 1) else lnK s i:=by
 conv => lhs; unfold lnK
 rw [str_at h]
set_option maxRecDepth 20000 in
set_option maxHeartbeats 16000000 in
theorem good17 {ts:List (List UInt8)} (hts:∀ s ∈ ts,s.length ≤ 1000000) (htl:ts.length ≤ 1000000) {rows:List (List UInt8)} {w:Nat} (hok:SOk rows w) (hrl:rows.length = ts.length + 1) (hwr:FSpec Tryd.prog 24 [.c (strsV ts)] (.tup [.c (.str (textG rows)),iv 0])):FSpec Tryd.prog 17 [.c (strsV ts)] (.tup [sv (textG rows),.c (strsV rows),bv true]):=by
 have hmax:maxLen = 9223372036854775807:=rfl
 have hln:=lines_sok hok
 have h41:=hok.len
 have h32:=hok.w32
 have h2:=hok.w2
 have htl2:=textG_length rows w hok.row
 have htl3:rows.length * (w + 1) ≤ 41 * 33:=Nat.mul_le_mul h41 (by omega)
 have hrow:=hok.row
 generalize hS:textG rows = s at hln htl2 hwr ⊢
 have hs2:s.length ≤ 1353:=by omega
 have hlg:=large26 s
 refine FSpec_ofP c17 (Nat.le_refl _) (by decide) fun C hP hN hC hpin hL => ?_; rw [init_st]
 simp only [ir17,strsV]
 (repeat ((first | refine Va ?_ | refine Vb ?_ | refine Vc ?_ | refine Vd ?_ | refine Ve ?_ | refine Vf ?_); (try simp only [go_sem,hP]); (repeat refine qJ ?_)))
 have hwr':FSpec Tryd.prog 24 [.c (.sl 1 (ts.map fun t => [CD.str t]))] (.tup [.c (.str s),iv 0]):=hwr
 (refine AS_pu (hwr') ?_; simp only [go_sem,hP]; (repeat refine qJ ?_); (repeat ((first | refine Va ?_ | refine Vb ?_ | refine Vc ?_ | refine Vd ?_ | refine Ve ?_ | refine Vf ?_); (try simp only [go_sem,hP]); (repeat refine qJ ?_))))
 (refine AG_pu (fun hG => hlg) ?_; simp only [go_sem,hP]; (repeat refine qJ ?_); (repeat ((first | refine Va ?_ | refine Vb ?_ | refine Vc ?_ | refine Vd ?_ | refine Ve ?_ | refine Vf ?_); (try simp only [go_sem,hP]); (repeat refine qJ ?_))))
 (refine WV_cond rfl (fun h => ?_) (fun h => ?_))
 ·simp at h; omega
 (repeat ((first | refine Va ?_ | refine Vb ?_ | refine Vc ?_ | refine Vd ?_ | refine Ve ?_ | refine Vf ?_); (try simp only [go_sem,hP]); (repeat refine qJ ?_)))
 refine WV_nilslot 3 37 9 1 (by decide) (by decide) rfl rfl ?_
 simp only [go_sem]
 refine WV_loopS (fun k:Nat => ⟨upd (upd (upd (upd (upd e0 0 (.c (.sl 1 (ts.map fun t => [CD.str t])))) 5 (sv s)) 8 (iv k)) 7 (iv (lnK s k).2)) 3 (.gr 37),upd o0 37 (.grow 9 1 ((lnK s k).1.map fun r => [CD.str r]))⟩) (fun k => k ≤ s.length) (fun k => s.length - k) 0 (Nat.zero_le _) ?_ ?_
 ·(refine Sub_of (by simp only [go_sem]; ((repeat' (first | exact EnvLe_e0 _ _ | refine EnvLe_upd ?_ ?_)) <;> ((try simp only [upd_app,e0_app,o0_app,Nat.reduceEqDiff,reduceIte]); first | exact AWk.refl _ _ | exact AWk.int (by omega) | exact AWk.int (by rw [w64 (by omega) (by omega)]; omega) | exact AWk.grow rfl | exact AWk.nil _ | exact AWk.of (by simp [lnK])))) (by simp only [go_sem]; exact ObjLe_au))
 intro k hk0
 (repeat ((first | refine Va ?_ | refine Vb ?_ | refine Vc ?_ | refine Vd ?_ | refine Ve ?_ | refine Vf ?_); (try simp only [go_sem,hP]); (repeat refine qJ ?_)))
 (refine WV_cond rfl (fun h => ?_) (fun h => ?_))
 ·have hk:k < s.length:=by simpa using h
  have hst:=str_at hk
  have hsn:=lnK_succ hk
  have hw2:=w64 (n:=(k:Int) + 1) (by omega) (by omega)
  obtain ⟨q1,q2⟩:=lnK_le s k
  have n1:=strs_one (lnK s k).1
  generalize lnK s k = p at hsn q1 q2 n1
  generalize s[k] = c at hst hsn
  (refine WV_skip ?_; simp only [go_sem])
  refine WV_seq_ (WV_block (WV_seq_ ?_))
  (refine WV_op ?_; simp only [go_sem,hP,hst,Int.toNat_natCast,Int.ofNat_lt,hk,Int.natCast_nonneg]; (repeat refine qJ ?_))
  by_cases hc:c = 10
  ·subst hc
   rw [if_pos rfl,List.drop_take] at hsn
   (refine WV_cond rfl (fun h => ?_) (fun h => ?_))
   ·(repeat ((first | refine Va ?_ | refine Vb ?_ | refine Vc ?_ | refine Vd ?_ | refine Ve ?_ | refine Vf ?_); (try simp only [go_sem,hP,Int.toNat_natCast,n1,List.length_map,hw2]); (repeat refine qJ ?_)))
    refine ⟨k + 1,by omega,by omega,?_⟩
    rw [hsn]
    exact Sub_au
   ·simp at h
  ·have hcb:((c.toNat:Int) == 10) = false:=by
    rw [beq_eq_false_iff_ne]
    exact fun e => hc (UInt8.toNat_inj.1 (by show _ = 10; omega))
   rw [if_neg hc] at hsn
   (refine WV_cond rfl (fun h => ?_) (fun h => ?_))
   ·rw [hcb] at h; simp at h
   ·(repeat ((first | refine Va ?_ | refine Vb ?_ | refine Vc ?_ | refine Vd ?_ | refine Ve ?_ | refine Vf ?_); (try simp only [go_sem,hP,hw2]); (repeat refine qJ ?_)))
    refine ⟨k + 1,by omega,by omega,?_⟩
    rw [hsn]
    exact Sub_au
 have hk:k = s.length:=by simp at h; omega
 subst hk
 rw [hln]
 have hw3:=w64 (n:=(ts.length:Int) + 1) (by omega) (by omega)
 have hrr:((rows.length:Int) != (ts.length:Int) + 1) = false:=by rw [hrl]; simp
 refine WV_exit ?_
 simp only [thenQ,inQ,reduceIte,beq_self_eq_true]
 (repeat ((first | refine Va ?_ | refine Vb ?_ | refine Vc ?_ | refine Vd ?_ | refine Ve ?_ | refine Vf ?_); (try simp only [go_sem,hP,List.length_map,hw3,hrr]); (repeat refine qJ ?_)))
 (refine WV_cond rfl (fun h => ?_) (fun h => ?_))
 ·simp at h
 (repeat ((first | refine Va ?_ | refine Vb ?_ | refine Vc ?_ | refine Vd ?_ | refine Ve ?_ | refine Vf ?_); (try simp only [go_sem,hP]); (repeat refine qJ ?_)))
 refine WV_loopS (fun k:Nat => ⟨upd (upd (upd e0 5 (sv s)) 9 (iv k)) 3 (.gr 37),upd o0 37 (.grow 9 1 (rows.map fun r => [CD.str r]))⟩) (fun k => k ≤ rows.length) (fun k => rows.length - k) 0 (Nat.zero_le _) ?_ ?_
 ·exact Sub_au
 intro k hk0
 (repeat ((first | refine Va ?_ | refine Vb ?_ | refine Vc ?_ | refine Vd ?_ | refine Ve ?_ | refine Vf ?_); (try simp only [go_sem,hP,List.length_map]); (repeat refine qJ ?_)))
 (refine WV_cond rfl (fun h => ?_) (fun h => ?_))
 ·have hk:k < rows.length:=by simpa using h
  have h0:0 < rows.length:=by omega
  have hw2:=w64 (n:=(k:Int) + 1) (by omega) (by omega)
  have hl1:=hrow _ (List.getElem_mem hk)
  have hl2:=hrow _ (List.getElem_mem h0)
  have g1:(rows.map fun r => [CD.str r]).getD k [] = [CD.str rows[k]]:=map_getD hk
  have g2:(rows.map fun r => [CD.str r]).getD (Int.toNat 0) [] = [CD.str rows[0]]:=map_getD h0
  generalize rows[k] = a at g1 hl1
  generalize rows[0] = b at g2 hl2
  (refine WV_skip ?_; simp only [go_sem])
  refine WV_seq_ (WV_block (WV_seq_ ?_))
  (refine WV_op ?_; simp only [go_sem,hP,g1,g2,Int.toNat_natCast,Int.ofNat_lt,hk,h0,Int.natCast_nonneg,List.length_map,hl1,hl2]; (repeat refine qJ ?_))
  (refine WV_cond rfl (fun h => ?_) (fun h => ?_))
  ·simp at h; omega
  ·(repeat ((first | refine Va ?_ | refine Vb ?_ | refine Vc ?_ | refine Vd ?_ | refine Ve ?_ | refine Vf ?_); (try simp only [go_sem,hP,hw2]); (repeat refine qJ ?_)))
   refine ⟨k + 1,by omega,by omega,?_⟩
   exact Sub_au
 ·have hk:k = rows.length:=by simp at h; omega
  subst hk
  (repeat ((first | refine Va ?_ | refine Vb ?_ | refine Vc ?_ | refine Vd ?_ | refine Ve ?_ | refine Vf ?_); (try simp only [go_sem,hP]); (repeat refine qJ ?_)))
  (refine WV_ret ?_; simp only [thenQ,inQ,RetQ,RetOk,resAll,resA]; simp only [go_sem,tupA,AV.port,AV.portL,exists_eq_left']; (first | exact AVle.of rfl | refine AVle.of ?_ | skip))
end Go.Proofs.YtlmfdmlochpfcaaDoor

namespace Go.Proofs.YtlmfdmlochpfcaaDoor
open Go Go.V
abbrev o21_0:List Ins:=[⟨some 4,.mv (.k (.c (.bool false))),none,true⟩]
abbrev o21_1:List Ins:=[⟨some 6,.mv (.t 0),none,true⟩,
 ⟨some 7,.len (.t 6),none,true⟩,
 ⟨some 8,.mv (.t 1),none,true⟩,
 ⟨some 9,.len (.t 8),none,true⟩,
 ⟨some 10,.bin .neq (.t 7) (.t 9),none,true⟩]
abbrev o21_2:List Ins:=[⟨some 4,.mv (.k (.c (.bool false))),none,true⟩]
abbrev v21_3:VC:=(.seq (.ops o21_2) .ret)
abbrev v21_4:VC:=(.cond (.t 10) v21_3 .skip)
abbrev o21_5:List Ins:=[⟨some 5,.mv (.k (.c (.int .i64 0))),none,true⟩]
abbrev o21_6:List Ins:=[⟨some 11,.mv (.t 5),none,true⟩,
 ⟨some 12,.mv (.t 0),none,true⟩,
 ⟨some 13,.len (.t 12),none,true⟩,
 ⟨some 14,.bin .lss (.t 11) (.t 13),none,true⟩]
abbrev v21_7:VC:=(.cond (.t 14) .skip (.exit 0))
abbrev o21_8:List Ins:=[⟨some 17,.mv (.t 0),none,false⟩,
 ⟨some 18,.mv (.t 5),none,false⟩,
 ⟨some 19,.ia 1 (.t 17) (.t 18),none,false⟩,
 ⟨some 20,.ld true 1 (.t 19),none,false⟩,
 ⟨some 21,.mv (.t 1),none,false⟩,
 ⟨some 22,.mv (.t 5),none,false⟩,
 ⟨some 23,.ia 1 (.t 21) (.t 22),none,false⟩,
 ⟨some 24,.ld true 1 (.t 23),none,false⟩,
 ⟨some 25,.prim (.sbin .neq) [(.t 20),(.t 24)],none,true⟩]
abbrev o21_9:List Ins:=[⟨some 4,.mv (.k (.c (.bool false))),none,true⟩]
abbrev v21_10:VC:=(.seq (.ops o21_9) .ret)
abbrev v21_11:VC:=(.cond (.t 25) v21_10 .skip)
abbrev v21_12:VC:=(.seq (.dops o21_8) v21_11)
abbrev o21_13:List Ins:=[⟨some 15,.mv (.t 5),none,true⟩,
 ⟨some 16,.bin .add (.t 15) (.k (.c (.int .i64 1))),none,true⟩,
 ⟨some 5,.mv (.t 16),none,true⟩]
abbrev v21_14:VC:=(.seq (.block 1 v21_12) (.ops o21_13))
abbrev v21_15:VC:=(.seq (.seq (.ops o21_6) v21_7) v21_14)
-- K21_1: changed and kept: [5]
abbrev K21_1:List Nat:=[0,1]
abbrev v21_16:VC:=(.loop v21_15)
abbrev v21_17:VC:=(.block 0 v21_16)
abbrev o21_18:List Ins:=[⟨some 4,.mv (.k (.c (.bool true))),none,true⟩]
abbrev v21_19:VC:=(.seq (.ops o21_18) .ret)
abbrev v21_20:VC:=(.seq (.seq (.ops o21_5) v21_17) v21_19)
abbrev v21_21:VC:=(.seq (.seq (.ops o21_1) v21_4) v21_20)
def ir21:FC:=⟨2,26,[.t 4],(.seq (.ops o21_0) v21_21)⟩
abbrev o16_0:List Ins:=[⟨some 0,.mv (.k (.c (.bool false))),none,true⟩]
abbrev o16_1:List Ins:=[⟨some 13,.bsl 9 1 [(.k (.c (.str [97,98]))),(.k (.c (.str [99])))],none,true⟩,
 ⟨some 14,.call (.k (.fn 24 [])) [(.t 13)],none,true⟩,
 ⟨some 12,.mv (.t 14),none,true⟩,
 ⟨some 15,.ext (.t 12) 0,none,true⟩,
 ⟨some 16,.ext (.t 12) 1,none,true⟩,
 ⟨some 1,.mv (.t 15),none,true⟩,
 ⟨some 2,.mv (.t 16),none,true⟩]
abbrev o16_2:List Ins:=[⟨some 18,.call (.k (.fn 18 [])) [(.k (.c (.str [97,63,63,95,10,99,124,32,64,10,91,65,63,33,10])))],none,true⟩,
 ⟨some 17,.mv (.t 18),none,true⟩,
 ⟨some 19,.ext (.t 17) 0,none,true⟩,
 ⟨some 20,.ext (.t 17) 1,none,true⟩,
 ⟨some 3,.mv (.t 19),none,true⟩,
 ⟨some 4,.mv (.t 20),none,true⟩]
abbrev o16_3:List Ins:=[⟨some 22,.call (.k (.fn 20 [])) [(.k (.c (.str [97,98,124,95,10,99,124,32,64,10,91,65,35,33,10])))],none,true⟩,
 ⟨some 21,.mv (.t 22),none,true⟩,
 ⟨some 23,.ext (.t 21) 0,none,true⟩,
 ⟨some 24,.ext (.t 21) 1,none,true⟩,
 ⟨some 5,.mv (.t 23),none,true⟩,
 ⟨some 6,.mv (.t 24),none,true⟩]
abbrev o16_4:List Ins:=[⟨some 26,.call (.k (.fn 31 [])) [(.k (.c (.str [63,63,124,95,10,63,63,32,64,10,91,65,35,33,10])))],none,true⟩,
 ⟨some 25,.mv (.t 26),none,true⟩,
 ⟨some 27,.ext (.t 25) 0,none,true⟩,
 ⟨some 28,.ext (.t 25) 1,none,true⟩,
 ⟨some 7,.mv (.t 27),none,true⟩,
 ⟨some 8,.mv (.t 28),none,true⟩]
abbrev o16_5:List Ins:=[⟨some 30,.call (.k (.fn 23 [])) [(.k (.c (.str [97,98,124,95,10,100,124,32,64,10,91,65,35,33,10])))],none,true⟩,
 ⟨some 29,.mv (.t 30),none,true⟩,
 ⟨some 31,.ext (.t 29) 0,none,true⟩,
 ⟨some 32,.ext (.t 29) 1,none,true⟩,
 ⟨some 33,.ext (.t 29) 2,none,true⟩,
 ⟨some 9,.alloc [(.c (.int .i64 0)),(.c (.int .i64 0))],none,true⟩,
 ⟨none,.st 2 (.t 9) (.t 31),none,true⟩,
 ⟨some 10,.mv (.t 32),none,true⟩,
 ⟨some 11,.mv (.t 33),none,true⟩]
abbrev o16_6:List Ins:=[⟨some 34,.mv (.t 2),none,true⟩,
 ⟨some 35,.bin .eql (.t 34) (.k (.c (.int .i64 0))),none,true⟩,
 ⟨some 36,.mv (.t 35),none,true⟩,
 ⟨some 37,.mv (.t 4),(some (36,true)),true⟩,
 ⟨some 38,.bin .eql (.t 37) (.k (.c (.int .i64 0))),(some (36,true)),true⟩,
 ⟨some 39,.pick (.t 36) (.t 38) (.k (.c (.bool false))),none,true⟩,
 ⟨some 40,.mv (.t 39),none,true⟩,
 ⟨some 41,.mv (.t 6),(some (40,true)),true⟩,
 ⟨some 42,.bin .eql (.t 41) (.k (.c (.int .i64 0))),(some (40,true)),true⟩,
 ⟨some 43,.pick (.t 40) (.t 42) (.k (.c (.bool false))),none,true⟩,
 ⟨some 44,.mv (.t 43),none,true⟩,
 ⟨some 45,.mv (.t 8),(some (44,true)),true⟩,
 ⟨some 46,.bin .eql (.t 45) (.k (.c (.int .i64 0))),(some (44,true)),true⟩,
 ⟨some 47,.pick (.t 44) (.t 46) (.k (.c (.bool false))),none,true⟩,
 ⟨some 48,.mv (.t 47),none,true⟩,
 ⟨some 49,.mv (.t 11),(some (48,true)),true⟩,
 ⟨some 50,.bin .eql (.t 49) (.k (.c (.int .i64 0))),(some (48,true)),true⟩,
 ⟨some 51,.pick (.t 48) (.t 50) (.k (.c (.bool false))),none,true⟩,
 ⟨some 52,.mv (.t 51),none,true⟩,
 ⟨some 53,.mv (.t 1),(some (52,true)),true⟩,
 ⟨some 54,.prim (.sbin .eql) [(.t 53),(.k (.c (.str [97,98,124,95,10,99,124,32,64,10,91,65,35,33,10])))],(some (52,true)),true⟩,
 ⟨some 55,.pick (.t 52) (.t 54) (.k (.c (.bool false))),none,true⟩,
 ⟨some 56,.mv (.t 55),none,true⟩,
 ⟨some 57,.mv (.t 3),(some (56,true)),true⟩,
 ⟨some 58,.prim (.sbin .eql) [(.t 57),(.k (.c (.str [97,98,124,95,10,99,124,32,64,10,91,65,35,33,10])))],(some (56,true)),true⟩,
 ⟨some 59,.pick (.t 56) (.t 58) (.k (.c (.bool false))),none,true⟩,
 ⟨some 60,.mv (.t 59),none,true⟩,
 ⟨some 61,.mv (.t 5),(some (60,true)),true⟩,
 ⟨some 62,.bsl 9 1 [(.k (.c (.str [97,98]))),(.k (.c (.str [99])))],(some (60,true)),true⟩,
 ⟨some 63,.call (.k (.fn 21 [])) [(.t 61),(.t 62)],(some (60,true)),true⟩,
 ⟨some 64,.pick (.t 60) (.t 63) (.k (.c (.bool false))),none,true⟩,
 ⟨some 65,.mv (.t 64),none,true⟩,
 ⟨some 66,.mv (.t 7),(some (65,true)),true⟩,
 ⟨some 67,.bin .eql (.t 66) (.k (.c (.int .i64 1))),(some (65,true)),true⟩,
 ⟨some 68,.pick (.t 65) (.t 67) (.k (.c (.bool false))),none,true⟩,
 ⟨some 69,.mv (.t 68),none,true⟩,
 ⟨some 70,.ld false 2 (.t 9),(some (69,true)),true⟩,
 ⟨some 71,.bld [(.c (.int .i64 0)),(.c (.int .i64 0))] [(0,1,(.k (.c (.int .i64 1))))],(some (69,true)),true⟩,
 ⟨some 72,.seq false [(0,true),(1,true)] (.t 70) (.t 71),(some (69,true)),true⟩,
 ⟨some 73,.pick (.t 69) (.t 72) (.k (.c (.bool false))),none,true⟩,
 ⟨some 74,.mv (.t 73),none,true⟩,
 ⟨some 75,.mv (.t 10),(some (74,true)),true⟩,
 ⟨some 76,.prim (.sbin .eql) [(.t 75),(.k (.c (.str [97,98,124,95,10,99,124,32,64,10,91,65,35,33,10])))],(some (74,true)),true⟩,
 ⟨some 77,.pick (.t 74) (.t 76) (.k (.c (.bool false))),none,true⟩,
 ⟨some 0,.mv (.t 77),none,true⟩]
abbrev v16_7:VC:=(.seq (.ops o16_6) .ret)
abbrev v16_8:VC:=(.seq (.ops o16_5) v16_7)
abbrev v16_9:VC:=(.seq (.ops o16_4) v16_8)
abbrev v16_10:VC:=(.seq (.ops o16_3) v16_9)
abbrev v16_11:VC:=(.seq (.ops o16_2) v16_10)
abbrev v16_12:VC:=(.seq (.ops o16_1) v16_11)
def ir16:FC:=⟨0,78,[.t 0],(.seq (.ops o16_0) v16_12)⟩
theorem c21:compM Tryd.prog [] 21 = some ir21:=by kernel_rfl
theorem c16:compM Tryd.prog [] 16 = some ir16:=by kernel_rfl
attribute [local go_sem] Nat.reduceEqDiff Nat.reduceAdd Nat.reduceMul reduceIte Nat.reduceLeDiff Nat.reduceLT Nat.reduceBEq reduceCtorEq
theorem same21 (a b:List (List UInt8)) (ha:a.length ≤ 1000000):FSpec Tryd.prog 21 [.c (strsV a),.c (strsV b)] (bv (a == b)):=by
 have hmax:maxLen = 9223372036854775807:=rfl
 refine FSpec_of c21 (Nat.le_refl _) (by decide) fun C hP hN hC hL => ?_; rw [init_st]
 simp only [ir21,strsV]
 (repeat ((first | refine Va ?_ | refine Vb ?_ | refine Vc ?_ | refine Vd ?_ | refine Ve ?_ | refine Vf ?_); (try simp only [go_sem,hP,List.length_map]); (repeat refine qJ ?_)))
 by_cases hl:a.length = b.length
 ·(refine WV_cond rfl (fun h => ?_) (fun h => ?_))
  ·simp [hl] at h
  (repeat ((first | refine Va ?_ | refine Vb ?_ | refine Vc ?_ | refine Vd ?_ | refine Ve ?_ | refine Vf ?_); (try simp only [go_sem,hP]); (repeat refine qJ ?_)))
  refine WV_loopK K21_1 [] (fun k:Nat => k ≤ a.length ∧ ∀ m (hm:m < a.length) (hm2:m < b.length),m < k → a[m] = b[m]) (fun k => a.length - k) (fun k => [(5,iv k)]) (fun _ => []) 0 ⟨Nat.zero_le _,fun m _ _ h => by omega⟩ ?_ ?_
  ·exact Sub_au
  ·intro k ⟨hk0,hke⟩
   simp only [go_sem]
   (repeat ((first | refine Va ?_ | refine Vb ?_ | refine Vc ?_ | refine Vd ?_ | refine Ve ?_ | refine Vf ?_); (try simp only [go_sem,hP,List.length_map]); (repeat refine qJ ?_)))
   (refine WV_cond rfl (fun h => ?_) (fun h => ?_))
   ·have hk:k < a.length:=by simpa using h
    have hkb:k < b.length:=by omega
    have hw2:=w64 (n:=(k:Int) + 1) (by omega) (by omega)
    (refine WV_skip ?_; simp only [go_sem])
    refine WV_seq_ (WV_block (WV_seq_ ?_))
    (refine WV_op ?_; simp only [go_sem,hP,map_getD hk,map_getD hkb,List.length_map,Int.toNat_natCast,Int.ofNat_lt,hk,hkb,Int.natCast_nonneg]; (repeat refine qJ ?_))
    by_cases he:a[k] = b[k]
    ·(refine WV_cond rfl (fun h => ?_) (fun h => ?_))
     ·simp [he] at h
     ·(repeat ((first | refine Va ?_ | refine Vb ?_ | refine Vc ?_ | refine Vd ?_ | refine Ve ?_ | refine Vf ?_); (try simp only [go_sem,hP,hw2]); (repeat refine qJ ?_)))
      refine ⟨k + 1,⟨by omega,fun m hm hm2 hmk => ?_⟩,by omega,?_⟩
      ·by_cases e2:m = k
       ·subst e2; exact he
       ·exact hke m hm hm2 (by omega)
      ·exact Sub_au
    ·have hne:(a == b) = false:=by
      rw [beq_eq_false_iff_ne]
      rintro rfl
      exact he rfl
     rw [hne]
     (refine WV_cond rfl (fun h => ?_) (fun h => ?_))
     ·(repeat ((first | refine Va ?_ | refine Vb ?_ | refine Vc ?_ | refine Vd ?_ | refine Ve ?_ | refine Vf ?_); (try simp only [go_sem,hP]); (repeat refine qJ ?_)))
      (refine WV_ret ?_; simp only [thenQ,inQ,RetQ,RetOk,resAll,resA]; simp only [go_sem,tupA,AV.port,AV.portL,exists_eq_left']; (first | exact AVle.of rfl | refine AVle.of ?_ | skip))
     ·simp [he] at h
   ·have hk:k = a.length:=by simp at h; omega
    subst hk
    have heq:(a == b) = true:=by
     rw [beq_iff_eq]
     exact List.ext_getElem hl fun m h1 h2 => hke m h1 h2 h1
    rw [heq]
    (repeat ((first | refine Va ?_ | refine Vb ?_ | refine Vc ?_ | refine Vd ?_ | refine Ve ?_ | refine Vf ?_); (try simp only [go_sem,hP]); (repeat refine qJ ?_)))
    (refine WV_ret ?_; simp only [thenQ,inQ,RetQ,RetOk,resAll,resA]; simp only [go_sem,tupA,AV.port,AV.portL,exists_eq_left']; (first | exact AVle.of rfl | refine AVle.of ?_ | skip))
 ·have hne:(a == b) = false:=by
   rw [beq_eq_false_iff_ne]
   rintro rfl
   exact hl rfl
  rw [hne]
  (refine WV_cond rfl (fun h => ?_) (fun h => ?_))
  ·(repeat ((first | refine Va ?_ | refine Vb ?_ | refine Vc ?_ | refine Vd ?_ | refine Ve ?_ | refine Vf ?_); (try simp only [go_sem,hP]); (repeat refine qJ ?_)))
   (refine WV_ret ?_; simp only [thenQ,inQ,RetQ,RetOk,resAll,resA]; simp only [go_sem,tupA,AV.port,AV.portL,exists_eq_left']; (first | exact AVle.of rfl | refine AVle.of ?_ | skip))
  ·simp at h; omega
def ex1:List UInt8:=[97,98,124,95,10,99,124,32,64,10,91,65,35,33,10]
theorem ex_write:writeG [[97,98],[99]] = (ex1,0):=by kernel_rfl
theorem ex_mend:mendG [97,63,63,95,10,99,124,32,64,10,91,65,63,33,10] = (ex1,0):=by kernel_rfl
theorem ex_read:readG ex1 = ([[97,98],[99]],0):=by kernel_rfl
theorem ex_left:leftG [63,63,124,95,10,63,63,32,64,10,91,65,35,33,10] = ([(0,0),(0,1),(1,0),(1,1)],0):=by kernel_rfl
theorem ex_wrong:wrongG [97,98,124,95,10,100,124,32,64,10,91,65,35,33,10] = ((1,0),ex1,0):=by kernel_rfl
theorem Conn.inv {ms:List (Nat × Nat)} (f:Int → Bool) (h:∀ m ∈ ms,f m.1 = f (-1 - m.2)) {x y:Int} (hc:Conn ms x y):f x = f y:=by
 induction hc with
 | refl x => rfl
 | edge hm => exact h _ hm
 | symm _ ih => exact ih.symm
 | trans _ _ ih1 ih2 => exact ih1.trans ih2
theorem ex_circ:(circ [(0,0),(0,1),(1,0),(1,1)]).length = 1:=by
 have h0:¬ Conn ([(0,0),(0,1),(1,0),(1,1)].take 0) ((0:Nat):Int) (-1 - ((0:Nat):Int)):=fun h => by
  have:=h.inv (fun x => decide (x = 0)) (by decide)
  revert this; decide
 have h1:¬ Conn ([(0,0),(0,1),(1,0),(1,1)].take 1) ((0:Nat):Int) (-1 - ((1:Nat):Int)):=fun h => by
  have:=h.inv (fun x => decide (x = 0 ∨ x = -1)) (by decide)
  revert this; decide
 have h2:¬ Conn ([(0,0),(0,1),(1,0),(1,1)].take 2) ((1:Nat):Int) (-1 - ((0:Nat):Int)):=fun h => by
  have:=h.inv (fun x => decide (x = 1)) (by decide)
  revert this; decide
 have h3:Conn ([(0,0),(0,1),(1,0),(1,1)].take 3) ((1:Nat):Int) (-1 - ((1:Nat):Int)):=by
  have e0:Conn ([(0,0),(0,1),(1,0),(1,1)].take 3) ((0:Nat):Int) (-1 - ((0:Nat):Int)):=.edge (m:=(0,0)) (by simp)
  have e1:Conn ([(0,0),(0,1),(1,0),(1,1)].take 3) ((0:Nat):Int) (-1 - ((1:Nat):Int)):=.edge (m:=(0,1)) (by simp)
  have e2:Conn ([(0,0),(0,1),(1,0),(1,1)].take 3) ((1:Nat):Int) (-1 - ((0:Nat):Int)):=.edge (m:=(1,0)) (by simp)
  exact e2.trans (e0.symm.trans e1)
 unfold circ
 show (circK _ 4).length = 1
 rw [circK_snoc (k:=3) (m:=(1,1)) rfl,circK_snoc (k:=2) (m:=(1,0)) rfl,circK_snoc (k:=1) (m:=(0,1)) rfl,circK_snoc (k:=0) (m:=(0,0)) rfl,if_pos h3,if_neg h2,if_neg h1,if_neg h0]
 rfl
set_option maxRecDepth 20000 in
set_option maxHeartbeats 8000000 in
theorem works16:FSpec Tryd.prog 16 [] (bv true):=by
 have hmax:maxLen = 9223372036854775807:=rfl
 have h1:=write24 [[97,98],[99]] (by simp) (by simp)
 have h2:=mend18 [97,63,63,95,10,99,124,32,64,10,91,65,63,33,10] (by simp)
 have h3:=read20 ex1 (by decide)
 have h4:=fewest31 [63,63,124,95,10,63,63,32,64,10,91,65,35,33,10] (by simp)
 have h5:=wrong23 [97,98,124,95,10,100,124,32,64,10,91,65,35,33,10] (by simp)
 have h6:=same21 [[97,98],[99]] [[97,98],[99]] (by simp)
 rw [ex_write] at h1
 rw [ex_mend] at h2
 rw [ex_read] at h3
 rw [ex_left,ex_circ] at h4
 rw [ex_wrong] at h5
 have h6':FSpec Tryd.prog 21 [.c (.sl 1 [[.str [97,98]],[.str [99]]]),.c (.sl 1 [[.str [97,98]],[.str [99]]])] (bv true):=h6
 have h1':FSpec Tryd.prog 24 [.c (.sl 1 [[.str [97,98]],[.str [99]]])] (.tup [.c (.str ex1),iv 0]):=h1
 unfold ex1 at h1' h2 h3 h5
 clear h1 h6
 refine FSpec_of c16 (Nat.le_refl _) (by decide) fun C hP hN hC hL => ?_; rw [init_st]
 simp only [ir16]
 (repeat ((first | refine Va ?_ | refine Vb ?_ | refine Vc ?_ | refine Vd ?_ | refine Ve ?_ | refine Vf ?_); (try simp only [go_sem,hP]); (repeat refine qJ ?_)))
 (refine AS_pu (h1') ?_; simp only [go_sem,hP]; (repeat refine qJ ?_); (repeat ((first | refine Va ?_ | refine Vb ?_ | refine Vc ?_ | refine Vd ?_ | refine Ve ?_ | refine Vf ?_); (try simp only [go_sem,hP]); (repeat refine qJ ?_))))
 (refine AS_pu (h2) ?_; simp only [go_sem,hP]; (repeat refine qJ ?_); (repeat ((first | refine Va ?_ | refine Vb ?_ | refine Vc ?_ | refine Vd ?_ | refine Ve ?_ | refine Vf ?_); (try simp only [go_sem,hP]); (repeat refine qJ ?_))))
 (refine AS_pu (h3) ?_; simp only [go_sem,hP]; (repeat refine qJ ?_); (repeat ((first | refine Va ?_ | refine Vb ?_ | refine Vc ?_ | refine Vd ?_ | refine Ve ?_ | refine Vf ?_); (try simp only [go_sem,hP]); (repeat refine qJ ?_))))
 (refine AS_pu (h4) ?_; simp only [go_sem,hP]; (repeat refine qJ ?_); (repeat ((first | refine Va ?_ | refine Vb ?_ | refine Vc ?_ | refine Vd ?_ | refine Ve ?_ | refine Vf ?_); (try simp only [go_sem,hP]); (repeat refine qJ ?_))))
 (refine AS_pu (h5) ?_; simp only [go_sem,hP,beq_self_eq_true,Bool.and_self,Bool.true_and,true_implies,Bool.true_eq_false,false_implies,and_true]; (repeat refine qJ ?_); (repeat ((first | refine Va ?_ | refine Vb ?_ | refine Vc ?_ | refine Vd ?_ | refine Ve ?_ | refine Vf ?_); (try simp only [go_sem,hP,beq_self_eq_true,Bool.and_self,Bool.true_and,true_implies,Bool.true_eq_false,false_implies,and_true]); (repeat refine qJ ?_))))
 (refine AG_pu (fun hG => h6') ?_; simp only [go_sem,hP,beq_self_eq_true,Bool.and_self,Bool.true_and,true_implies,Bool.true_eq_false,false_implies,and_true]; (repeat refine qJ ?_); (repeat ((first | refine Va ?_ | refine Vb ?_ | refine Vc ?_ | refine Vd ?_ | refine Ve ?_ | refine Vf ?_); (try simp only [go_sem,hP,beq_self_eq_true,Bool.and_self,Bool.true_and,true_implies,Bool.true_eq_false,false_implies,and_true]); (repeat refine qJ ?_))))
 (refine WV_ret ?_; simp only [thenQ,inQ,RetQ,RetOk,resAll,resA]; simp only [go_sem,tupA,AV.port,AV.portL,exists_eq_left'])
 exact AVle.of rfl
end Go.Proofs.YtlmfdmlochpfcaaDoor

namespace Go.Proofs.YtlmfdmlochpfcaaDoor
open Go Go.V
theorem can_len {ts:List (List UInt8)} (h:canT ts = true):ts.length ≤ 60 ∧ ∀ s ∈ ts,s.length ≤ 200:=by
 unfold canT at h
 simp only [Bool.and_eq_true,decide_eq_true_eq,List.all_eq_true] at h
 exact h
theorem book_of {ts:List (List UInt8)} (h:errT ts = 0):BookOk ts:=by
 unfold errT at h
 split at h
 ·cases h
 ·split at h
  ·exact ⟨by assumption,by assumption⟩
  ·cases h
section
variable {ts:List (List UInt8)}
theorem good_book (h:BookOk ts) (hc:canT ts = true):FSpec Tryd.prog 17 [.c (strsV ts)] (.tup [sv (textG (bookB ts)),.c (strsV (bookB ts)),bv true]):=by
 obtain ⟨h1,h2⟩:=can_len hc
 have hw:=write24 ts (fun s hs => by have:=h2 s hs; omega) (by omega)
 rw [write_book h] at hw
 exact good17 (fun s hs => by have:=h2 s hs; omega) (by omega) h.sok (bookB_len h) hw
theorem text_len {rows:List (List UInt8)} {w:Nat} (h:SOk rows w):(textG rows).length ≤ 1353:=by
 have h1:=textG_length rows w h.row
 have h2:rows.length * (w + 1) ≤ 41 * 33:=Nat.mul_le_mul h.len (by have:=h.w32; omega)
 omega
theorem rows_le {rows:List (List UInt8)} {w:Nat} (h:SOk rows w):rows.length ≤ 100 ∧ ∀ l ∈ rows,l.length ≤ 100:=by
 have:=h.len
 have:=h.w32
 exact ⟨by omega,fun l hl => by have:=h.row l hl; omega⟩
theorem spoilt_book (h:BookOk ts) (ms:List (Int × Int)) (hm:ms.length ≤ 1000000):FSpec Tryd.prog 19 [.c (strsV (bookB ts)),.c (placesC ms),.c (.int .u8 63)] (sv (textG (spo ts ms))):=by
 obtain ⟨h1,h2⟩:=rows_le h.sok
 exact spoilt19 (bookB ts) ms 63 h1 h2 hm
end
end Go.Proofs.YtlmfdmlochpfcaaDoor

namespace Go.Proofs.YtlmfdmlochpfcaaDoor
open Go Go.V
section
variable {ts:List (List UInt8)}
theorem spo_at (h:BookOk ts) (ms:List (Int × Int)) {i k:Nat} (hi:i < ts.length + 1) (hk:k < maxW ts + 1):(icst (i,k) ∈ ms → byAt (spo ts ms) (i,k) = 63) ∧ (icst (i,k) ∉ ms → byAt (spo ts ms) (i,k) = byAt (bookB ts) (i,k)):=upR_at (f:=fun _ _ => 63) (ms:=ms) h.sok (by rw [bookB_len h]; exact hi) hk
theorem book_ne63 (h:BookOk ts) {i k:Nat} (hi:i < ts.length + 1) (hk:k < maxW ts + 1):byAt (bookB ts) (i,k) ≠ 63:=by
 have h1:=(h.sok.at (i:=i) (k:=k) (by rw [bookB_len h]; exact hi) hk).2.2
 rw [h.vals] at h1
 intro hc
 rw [hc] at h1
 exact h.right.full i k hi hk h1
theorem join_book (h:BookOk ts) {a b:List (Int × Int)} (hd:∀ m ∈ a,m ∉ b):joinG (textG (spo ts a)) (textG (spo ts b)) = (textG (bookB ts),0):=by
 have sa:=spo_sok h a
 have sb:=spo_sok h b
 have la:=spo_len h a
 have lb:=spo_len h b
 have hs:=h.sok
 have hl:=bookB_len h
 have hok:okJ (ts.length + 1) (maxW ts + 1) (spo ts a) (spo ts b) = true:=by
  unfold okJ
  rw [List.all_eq_true]
  intro i hi
  have hi:=List.mem_range.1 hi
  rw [List.all_eq_true]
  intro k hk
  have hk:=List.mem_range.1 hk
  obtain ⟨a1,a2⟩:=spo_at h a hi hk
  obtain ⟨b1,b2⟩:=spo_at h b hi hk
  show jok (byAt (spo ts a) (i,k)) (byAt (spo ts b) (i,k)) = true
  unfold jok
  by_cases ha:icst (i,k) ∈ a
  ·rw [a1 ha]; rfl
  ·by_cases hb:icst (i,k) ∈ b
   ·rw [b1 hb]; simp
   ·rw [a2 ha,b2 hb]; simp
 have hmg:mergeG (ts.length + 1) (maxW ts + 1) (spo ts a) (spo ts b) = bookB ts:=by
  unfold mergeG
  apply List.ext_getElem
  ·rw [List.length_map,List.length_range,hl]
  ·intro i h1 h2
   have hi:i < ts.length + 1:=by rw [← hl]; exact h2
   have hrow:(bookB ts).getD i [] = (bookB ts)[i]:=by rw [List.getD_eq_getElem?_getD,List.getElem?_eq_getElem h2]; rfl
   have hw:=(hs.at (i:=i) (k:=0) h2 (Nat.succ_pos _)).1
   rw [hrow] at hw
   rw [List.getElem_map,List.getElem_range]
   apply List.ext_getElem
   ·rw [List.length_map,List.length_range,hw]
   ·intro k h3 h4
    have hk:k < maxW ts + 1:=by rw [← hw]; exact h4
    rw [List.getElem_map,List.getElem_range]
    have hB:byAt (bookB ts) (i,k) = (bookB ts)[i][k]:=by
     unfold byAt
     simp only [hrow]
     rw [List.getD_eq_getElem?_getD,List.getElem?_eq_getElem h4]; rfl
    rw [← hB]
    obtain ⟨a1,a2⟩:=spo_at h a hi hk
    obtain ⟨b1,b2⟩:=spo_at h b hi hk
    show jn (byAt (spo ts a) (i,k)) (byAt (spo ts b) (i,k)) = _
    unfold jn
    by_cases ha:icst (i,k) ∈ a
    ·rw [a1 ha,if_pos rfl,b2 (hd _ ha)]
    ·rw [a2 ha,if_neg (book_ne63 h hi hk)]
 unfold joinG
 rw [parse_text sa,parse_text sb]
 simp only
 rw [sa.hd,sb.hd,la,lb,if_pos ⟨rfl,rfl⟩,hok,if_pos rfl,hmg]
end
def copS (p:List (Int × Int) × List (Int × Int)) (k:Nat) (m:Int × Int):List (Int × Int) × List (Int × Int) :=
 if k % 3 = 0 ∧ p.1.contains m = false then (p.1,p.2 ++ [m]) else if p.2.contains m = false then (p.1 ++ [m],p.2) else p
def copK (ms:List (Int × Int)):Nat → List (Int × Int) × List (Int × Int)
 | 0 => ([],[])
 | k + 1 => copS (copK ms k) k (ms.getD k (0,0))
theorem copK_succ {ms:List (Int × Int)} {k:Nat} (h:k < ms.length):copK ms (k + 1) = copS (copK ms k) k ms[k]:=by
 show copS (copK ms k) k (ms.getD k (0,0)) = _
 rw [List.getD_eq_getElem?_getD,List.getElem?_eq_getElem h]; rfl
theorem copK_ok (ms:List (Int × Int)):∀ k,(∀ m ∈ (copK ms k).1,m ∉ (copK ms k).2) ∧ (copK ms k).1.length + (copK ms k).2.length ≤ k
 | 0 => ⟨fun m hm => (by cases hm),Nat.le_refl _⟩
 | k + 1 => by
  obtain ⟨h1,h2⟩:=copK_ok ms k
  show (∀ m ∈ (copS (copK ms k) k (ms.getD k (0,0))).1,_) ∧ _
  have e:copK ms (k + 1) = copS (copK ms k) k (ms.getD k (0,0)):=rfl
  rw [e]
  generalize ms.getD k (0,0) = t
  generalize copK ms k = p at h1 h2
  unfold copS
  have key:∀ l:List (Int × Int),l.contains t = false → t ∉ l:=fun l h hm => by
   rw [List.contains_eq_mem,decide_eq_false_iff_not] at h; exact h hm
  split
  ·rename_i hc
   refine ⟨fun m hm hm2 => ?_,by simp; omega⟩
   rcases List.mem_append.1 hm2 with hm2 | hm2
   ·exact h1 m hm hm2
   ·exact key _ hc.2 (by rw [← List.mem_singleton.1 hm2]; exact hm)
  ·split
   ·rename_i hc
    refine ⟨fun m hm hm2 => ?_,by simp; omega⟩
    rcases List.mem_append.1 hm with hm | hm
    ·exact h1 m hm hm2
    ·exact key _ hc (by rw [← List.mem_singleton.1 hm]; exact hm2)
   ·exact ⟨h1,by omega⟩
end Go.Proofs.YtlmfdmlochpfcaaDoor

namespace Go.Proofs.YtlmfdmlochpfcaaDoor
open Go Go.V
abbrev o12_0:List Ins:=[⟨some 4,.mv (.k (.c (.bool false))),none,true⟩]
abbrev o12_1:List Ins:=[⟨some 17,.mv (.t 0),none,true⟩,
 ⟨some 18,.call (.k (.fn 14 [])) [(.t 17)],none,true⟩,
 ⟨some 19,.un .not (.t 18),none,true⟩,
 ⟨some 20,.mv (.t 19),none,true⟩,
 ⟨some 21,.mv (.t 0),(some (20,false)),true⟩,
 ⟨some 22,.call (.k (.fn 15 [])) [(.t 21)],(some (20,false)),true⟩,
 ⟨some 23,.bin .neq (.t 22) (.k (.c (.int .i64 0))),(some (20,false)),true⟩,
 ⟨some 24,.pick (.t 20) (.k (.c (.bool true))) (.t 23),none,true⟩,
 ⟨some 25,.mv (.t 24),none,true⟩,
 ⟨some 26,.mv (.t 1),(some (25,false)),true⟩,
 ⟨some 27,.len (.t 26),(some (25,false)),true⟩,
 ⟨some 28,.bin .gtr (.t 27) (.k (.c (.int .i64 200))),(some (25,false)),true⟩,
 ⟨some 29,.pick (.t 25) (.k (.c (.bool true))) (.t 28),none,true⟩]
abbrev o12_2:List Ins:=[⟨some 30,.call (.k (.fn 16 [])) [],none,true⟩,
 ⟨some 4,.mv (.t 30),none,true⟩]
abbrev v12_3:VC:=(.seq (.ops o12_2) .ret)
abbrev v12_4:VC:=(.cond (.t 29) v12_3 .skip)
abbrev o12_5:List Ins:=[⟨some 32,.mv (.t 0),none,true⟩,
 ⟨some 33,.call (.k (.fn 17 [])) [(.t 32)],none,true⟩,
 ⟨some 31,.mv (.t 33),none,true⟩,
 ⟨some 34,.ext (.t 31) 0,none,true⟩,
 ⟨some 35,.ext (.t 31) 1,none,true⟩,
 ⟨some 36,.ext (.t 31) 2,none,true⟩,
 ⟨some 5,.mv (.t 34),none,true⟩,
 ⟨some 6,.mv (.t 35),none,true⟩,
 ⟨some 7,.mv (.t 36),none,true⟩]
abbrev o12_6:List Ins:=[⟨some 37,.mv (.t 7),none,true⟩,
 ⟨some 38,.un .not (.t 37),none,true⟩]
abbrev o12_7:List Ins:=[⟨some 4,.mv (.k (.c (.bool false))),none,true⟩]
abbrev v12_8:VC:=(.seq (.ops o12_7) .ret)
abbrev v12_9:VC:=(.cond (.t 38) v12_8 .skip)
abbrev o12_10:List Ins:=[⟨some 8,.mv (.k (.c (.raw (.slice none 0 0)))),none,true⟩,
 ⟨some 9,.mv (.k (.c (.raw (.slice none 0 0)))),none,true⟩]
abbrev o12_11:List Ins:=[⟨some 10,.mv (.k (.c (.int .i64 0))),none,true⟩]
abbrev o12_12:List Ins:=[⟨some 39,.mv (.t 10),none,true⟩,
 ⟨some 40,.mv (.t 1),none,true⟩,
 ⟨some 41,.len (.t 40),none,true⟩,
 ⟨some 42,.bin .lss (.t 39) (.t 41),none,true⟩]
abbrev v12_13:VC:=(.cond (.t 42) .skip (.exit 0))
abbrev o12_14:List Ins:=[⟨some 45,.mv (.t 10),none,true⟩,
 ⟨some 46,.bin .rem (.t 45) (.k (.c (.int .i64 3))),none,true⟩,
 ⟨some 47,.bin .eql (.t 46) (.k (.c (.int .i64 0))),none,true⟩,
 ⟨some 48,.mv (.t 47),none,true⟩,
 ⟨some 49,.mv (.t 8),(some (48,true)),true⟩,
 ⟨some 50,.mv (.t 1),(some (48,true)),true⟩,
 ⟨some 51,.mv (.t 10),(some (48,true)),true⟩,
 ⟨some 52,.ia 2 (.t 50) (.t 51),(some (48,true)),true⟩,
 ⟨some 53,.ld false 2 (.t 52),(some (48,true)),true⟩,
 ⟨some 54,.call (.k (.fn 32 [])) [(.t 49),(.t 53)],(some (48,true)),true⟩,
 ⟨some 55,.un .not (.t 54),(some (48,true)),true⟩,
 ⟨some 56,.pick (.t 48) (.t 55) (.k (.c (.bool false))),none,true⟩]
abbrev o12_15:List Ins:=[⟨some 57,.mv (.t 9),none,true⟩,
 ⟨some 58,.mv (.t 1),none,true⟩,
 ⟨some 59,.mv (.t 10),none,true⟩,
 ⟨some 60,.ia 2 (.t 58) (.t 59),none,true⟩,
 ⟨some 61,.ld false 2 (.t 60),none,true⟩,
 ⟨some 62,.bsl 31 2 [(.t 61)],none,true⟩,
 ⟨some 63,.app 31 2 16 (.t 57) (.t 62),none,true⟩,
 ⟨some 9,.mv (.t 63),none,true⟩]
abbrev o12_16:List Ins:=[⟨some 64,.mv (.t 9),none,true⟩,
 ⟨some 65,.mv (.t 1),none,true⟩,
 ⟨some 66,.mv (.t 10),none,true⟩,
 ⟨some 67,.ia 2 (.t 65) (.t 66),none,true⟩,
 ⟨some 68,.ld false 2 (.t 67),none,true⟩,
 ⟨some 69,.call (.k (.fn 32 [])) [(.t 64),(.t 68)],none,true⟩,
 ⟨some 70,.un .not (.t 69),none,true⟩]
abbrev o12_17:List Ins:=[⟨some 71,.mv (.t 8),none,true⟩,
 ⟨some 72,.mv (.t 1),none,true⟩,
 ⟨some 73,.mv (.t 10),none,true⟩,
 ⟨some 74,.ia 2 (.t 72) (.t 73),none,true⟩,
 ⟨some 75,.ld false 2 (.t 74),none,true⟩,
 ⟨some 76,.bsl 31 2 [(.t 75)],none,true⟩,
 ⟨some 77,.app 31 2 16 (.t 71) (.t 76),none,true⟩,
 ⟨some 8,.mv (.t 77),none,true⟩]
abbrev v12_18:VC:=(.cond (.t 70) (.ops o12_17) .skip)
abbrev v12_19:VC:=(.seq (.ops o12_16) v12_18)
abbrev v12_20:VC:=(.cond (.t 56) (.ops o12_15) v12_19)
abbrev v12_21:VC:=(.seq (.ops o12_14) v12_20)
abbrev o12_22:List Ins:=[⟨some 43,.mv (.t 10),none,true⟩,
 ⟨some 44,.bin .add (.t 43) (.k (.c (.int .i64 1))),none,true⟩,
 ⟨some 10,.mv (.t 44),none,true⟩]
abbrev v12_23:VC:=(.seq (.block 1 v12_21) (.ops o12_22))
abbrev v12_24:VC:=(.seq (.seq (.ops o12_12) v12_13) v12_23)
-- K12_1: changed and kept: [10,8,9]
abbrev v12_25:VC:=(.loop v12_24)
abbrev v12_26:VC:=(.block 0 v12_25)
abbrev o12_27:List Ins:=[⟨some 78,.mv (.t 6),none,true⟩,
 ⟨some 79,.mv (.t 8),none,true⟩,
 ⟨some 80,.call (.k (.fn 19 [])) [(.t 78),(.t 79),(.k (.c (.int .u8 63)))],none,true⟩,
 ⟨some 81,.mv (.t 6),none,true⟩,
 ⟨some 82,.mv (.t 9),none,true⟩,
 ⟨some 83,.call (.k (.fn 19 [])) [(.t 81),(.t 82),(.k (.c (.int .u8 63)))],none,true⟩,
 ⟨some 11,.mv (.t 80),none,true⟩,
 ⟨some 12,.mv (.t 83),none,true⟩]
abbrev o12_28:List Ins:=[⟨some 85,.mv (.t 11),none,true⟩,
 ⟨some 86,.mv (.t 12),none,true⟩,
 ⟨some 87,.call (.k (.fn 41 [])) [(.t 85),(.t 86)],none,true⟩,
 ⟨some 84,.mv (.t 87),none,true⟩,
 ⟨some 88,.ext (.t 84) 0,none,true⟩,
 ⟨some 89,.ext (.t 84) 1,none,true⟩,
 ⟨some 13,.mv (.t 88),none,true⟩,
 ⟨some 14,.mv (.t 89),none,true⟩]
abbrev o12_29:List Ins:=[⟨some 91,.mv (.t 12),none,true⟩,
 ⟨some 92,.mv (.t 11),none,true⟩,
 ⟨some 93,.call (.k (.fn 41 [])) [(.t 91),(.t 92)],none,true⟩,
 ⟨some 90,.mv (.t 93),none,true⟩,
 ⟨some 94,.ext (.t 90) 0,none,true⟩,
 ⟨some 95,.ext (.t 90) 1,none,true⟩,
 ⟨some 15,.mv (.t 94),none,true⟩,
 ⟨some 16,.mv (.t 95),none,true⟩]
abbrev o12_30:List Ins:=[⟨some 96,.mv (.t 14),none,true⟩,
 ⟨some 97,.bin .eql (.t 96) (.k (.c (.int .i64 0))),none,true⟩,
 ⟨some 98,.mv (.t 97),none,true⟩,
 ⟨some 99,.mv (.t 16),(some (98,true)),true⟩,
 ⟨some 100,.bin .eql (.t 99) (.k (.c (.int .i64 0))),(some (98,true)),true⟩,
 ⟨some 101,.pick (.t 98) (.t 100) (.k (.c (.bool false))),none,true⟩,
 ⟨some 102,.mv (.t 101),none,true⟩,
 ⟨some 103,.mv (.t 13),(some (102,true)),true⟩,
 ⟨some 104,.mv (.t 5),(some (102,true)),true⟩,
 ⟨some 105,.prim (.sbin .eql) [(.t 103),(.t 104)],(some (102,true)),true⟩,
 ⟨some 106,.pick (.t 102) (.t 105) (.k (.c (.bool false))),none,true⟩,
 ⟨some 107,.mv (.t 106),none,true⟩,
 ⟨some 108,.mv (.t 15),(some (107,true)),true⟩,
 ⟨some 109,.mv (.t 5),(some (107,true)),true⟩,
 ⟨some 110,.prim (.sbin .eql) [(.t 108),(.t 109)],(some (107,true)),true⟩,
 ⟨some 111,.pick (.t 107) (.t 110) (.k (.c (.bool false))),none,true⟩,
 ⟨some 112,.mv (.t 111),none,true⟩,
 ⟨some 113,.call (.k (.fn 16 [])) [],(some (112,true)),true⟩,
 ⟨some 114,.pick (.t 112) (.t 113) (.k (.c (.bool false))),none,true⟩,
 ⟨some 4,.mv (.t 114),none,true⟩]
abbrev v12_31:VC:=(.seq (.ops o12_30) .ret)
abbrev v12_32:VC:=(.seq (.ops o12_29) v12_31)
abbrev v12_33:VC:=(.seq (.ops o12_28) v12_32)
abbrev v12_34:VC:=(.seq (.ops o12_27) v12_33)
abbrev v12_35:VC:=(.seq (.seq (.ops o12_11) v12_26) v12_34)
abbrev v12_36:VC:=(.seq (.ops o12_10) v12_35)
abbrev v12_37:VC:=(.seq (.seq (.ops o12_6) v12_9) v12_36)
abbrev v12_38:VC:=(.seq (.ops o12_5) v12_37)
abbrev v12_39:VC:=(.seq (.seq (.ops o12_1) v12_4) v12_38)
def ir12:FC:=⟨2,115,[.t 4],(.seq (.ops o12_0) v12_39)⟩
theorem c12:compM Tryd.prog [] 12 = some ir12:=by kernel_rfl
attribute [local go_sem] Nat.reduceEqDiff Nat.reduceAdd Nat.reduceMul reduceIte Nat.reduceLeDiff Nat.reduceLT Nat.reduceBEq reduceCtorEq
set_option maxRecDepth 20000 in
set_option maxHeartbeats 16000000 in
theorem bookCopies12 (ts:List (List UInt8)) (ms:List (Int × Int)):FSpec Tryd.prog 12 [.c (strsV ts),.c (placesC ms)] (bv true):=by
 have hmax:maxLen = 9223372036854775807:=rfl
 have hwk:=works16
 have hcan:=can14 ts
 refine FSpec_of c12 (Nat.le_refl _) (by decide) fun C hP hN hC hL => ?_; rw [init_st]
 simp only [ir12]
 (repeat ((first | refine Va ?_ | refine Vb ?_ | refine Vc ?_ | refine Vd ?_ | refine Ve ?_ | refine Vf ?_); (try simp only [go_sem,hP]); (repeat refine qJ ?_)))
 (refine AS_pu (hcan) ?_; simp only [go_sem,hP]; (repeat refine qJ ?_); (repeat ((first | refine Va ?_ | refine Vb ?_ | refine Vc ?_ | refine Vd ?_ | refine Ve ?_ | refine Vf ?_); (try simp only [go_sem,hP]); (repeat refine qJ ?_))))
 by_cases hc:canT ts = true
 case neg =>
  have hc:canT ts = false:=by simpa using hc
  rw [hc]
  (refine AG_skip ?_; simp only [go_sem,hP,placesC,List.length_map]; (repeat refine qJ ?_); (repeat ((first | refine Va ?_ | refine Vb ?_ | refine Vc ?_ | refine Vd ?_ | refine Ve ?_ | refine Vf ?_); (try simp only [go_sem,hP,placesC,List.length_map]); (repeat refine qJ ?_))))
  (refine WV_cond rfl (fun h => ?_) (fun h => ?_))
  ·(repeat ((first | refine Va ?_ | refine Vb ?_ | refine Vc ?_ | refine Vd ?_ | refine Ve ?_ | refine Vf ?_); (try simp only [go_sem,hP]); (repeat refine qJ ?_)))
   (refine AS_pu (hwk) ?_; simp only [go_sem,hP]; (repeat refine qJ ?_); (repeat ((first | refine Va ?_ | refine Vb ?_ | refine Vc ?_ | refine Vd ?_ | refine Ve ?_ | refine Vf ?_); (try simp only [go_sem,hP]); (repeat refine qJ ?_))))
   (refine WV_ret ?_; simp only [thenQ,inQ,RetQ,RetOk,resAll,resA]; simp only [go_sem,tupA,AV.port,AV.portL,exists_eq_left']; (first | exact AVle.of rfl | refine AVle.of ?_ | skip))
  ·simp at h
 obtain ⟨hl1,hl2⟩:=can_len hc
 have har:=aretexts15 ts fun s hs => by have:=hl2 s hs; omega
 rw [hc]
 (refine AG_pu (fun hG => har) ?_; simp only [go_sem,hP,placesC,List.length_map]; (repeat refine qJ ?_); (repeat ((first | refine Va ?_ | refine Vb ?_ | refine Vc ?_ | refine Vd ?_ | refine Ve ?_ | refine Vf ?_); (try simp only [go_sem,hP,placesC,List.length_map]); (repeat refine qJ ?_))))
 (refine WV_cond rfl (fun h => ?_) (fun h => ?_))
 ·(repeat ((first | refine Va ?_ | refine Vb ?_ | refine Vc ?_ | refine Vd ?_ | refine Ve ?_ | refine Vf ?_); (try simp only [go_sem,hP]); (repeat refine qJ ?_)))
  (refine AS_pu (hwk) ?_; simp only [go_sem,hP]; (repeat refine qJ ?_); (repeat ((first | refine Va ?_ | refine Vb ?_ | refine Vc ?_ | refine Vd ?_ | refine Ve ?_ | refine Vf ?_); (try simp only [go_sem,hP]); (repeat refine qJ ?_))))
  (refine WV_ret ?_; simp only [thenQ,inQ,RetQ,RetOk,resAll,resA]; simp only [go_sem,tupA,AV.port,AV.portL,exists_eq_left']; (first | exact AVle.of rfl | refine AVle.of ?_ | skip))
 have h':errT ts = 0 ∧ ms.length ≤ 200:=by
  simp at h
  exact ⟨h.1,by omega⟩
 obtain ⟨he,hm200⟩:=h'
 clear h
 have hb:=book_of he
 have hgd:=good_book hb hc
 (refine WV_skip ?_; simp only [go_sem])
 refine WV_keep [0,1] ?_
 simp only [go_sem]
 (repeat ((first | refine Va ?_ | refine Vb ?_ | refine Vc ?_ | refine Vd ?_ | refine Ve ?_ | refine Vf ?_); (try simp only [go_sem,hP]); (repeat refine qJ ?_)))
 (refine AS_pu (hgd) ?_; simp only [go_sem,hP]; (repeat refine qJ ?_); (repeat ((first | refine Va ?_ | refine Vb ?_ | refine Vc ?_ | refine Vd ?_ | refine Ve ?_ | refine Vf ?_); (try simp only [go_sem,hP]); (repeat refine qJ ?_))))
 (refine WV_cond rfl (fun h => ?_) (fun h => ?_))
 ·simp at h
 (repeat ((first | refine Va ?_ | refine Vb ?_ | refine Vc ?_ | refine Vd ?_ | refine Ve ?_ | refine Vf ?_); (try simp only [go_sem,hP]); (repeat refine qJ ?_)))
 refine WV_nilslot 8 77 31 2 (by decide) (by decide) rfl rfl ?_
 simp only [go_sem]
 refine WV_nilslot 9 63 31 2 (by decide) (by decide) rfl rfl ?_
 simp only [go_sem]
 refine WV_loopS (fun k:Nat => ⟨upd (upd (upd (upd (upd (upd e0 1 (.c (.sl 2 (ms.map placeC)))) 5 (sv (textG (bookB ts)))) 6 (.c (strsV (bookB ts)))) 10 (iv k)) 8 (.gr 77)) 9 (.gr 63),upd (upd o0 77 (.grow 31 2 ((copK ms k).1.map placeC))) 63 (.grow 31 2 ((copK ms k).2.map placeC))⟩) (fun k => k ≤ ms.length) (fun k => ms.length - k) 0 (Nat.zero_le _) ?_ ?_
 ·(refine Sub_of (by simp only [go_sem]; ((repeat' (first | exact EnvLe_e0 _ _ | refine EnvLe_upd ?_ ?_)) <;> ((try simp only [upd_app,e0_app,o0_app,Nat.reduceEqDiff,reduceIte]); first | exact AWk.refl _ _ | exact AWk.int (by omega) | exact AWk.int (by rw [w64 (by omega) (by omega)]; omega) | exact AWk.grow rfl | exact AWk.nil _ | exact AWk.of (by simp [copK])))) (by simp only [go_sem]; exact ObjLe_au))
 intro k hk0
 (repeat ((first | refine Va ?_ | refine Vb ?_ | refine Vc ?_ | refine Vd ?_ | refine Ve ?_ | refine Vf ?_); (try simp only [go_sem,hP,List.length_map]); (repeat refine qJ ?_)))
 (refine WV_cond rfl (fun h => ?_) (fun h => ?_))
 ·have hk:k < ms.length:=by simpa using h
  have hw2:=w64 (n:=(k:Int) + 1) (by omega) (by omega)
  have hgt:(ms.map placeC).getD k [] = placeC ms[k]:=map_getD hk
  have hsn:=copK_succ hk
  obtain ⟨_,hcl⟩:=copK_ok ms k
  have n1:=places_two (copK ms k).1
  have n2:=places_two (copK ms k).2
  generalize ms[k] = t at hgt hsn
  generalize copK ms k = p at hsn hcl n1 n2
  obtain ⟨A,B⟩:=p
  simp only at hcl n1 n2 hsn ⊢
  have c1:=has32 A t (by omega)
  have c2:=has32 B t (by omega)
  have c1':FSpec Tryd.prog 32 [.c (.sl 2 (A.map placeC)),.agg [.c (.int .i64 t.1),.c (.int .i64 t.2)]] (bv (A.contains t)):=c1
  have c2':FSpec Tryd.prog 32 [.c (.sl 2 (B.map placeC)),.agg [.c (.int .i64 t.1),.c (.int .i64 t.2)]] (bv (B.contains t)):=c2
  have hsa:(A ++ [t]).map placeC = A.map placeC ++ [[.int .i64 t.1,.int .i64 t.2]]:=by rw [List.map_append]; rfl
  have hsb:(B ++ [t]).map placeC = B.map placeC ++ [[.int .i64 t.1,.int .i64 t.2]]:=by rw [List.map_append]; rfl
  unfold copS at hsn
  simp only at hsn
  have hrm:(((k:Int).tmod 3) == 0) = decide (k % 3 = 0):=by
   rw [show (k:Int).tmod 3 = ((k % 3:Nat):Int) from rfl,Bool.eq_iff_iff,beq_iff_eq,decide_eq_true_eq]; omega
  (refine WV_skip ?_; simp only [go_sem])
  refine WV_seq_ (WV_block (WV_seq_ ?_))
  (refine WV_op ?_; simp only [go_sem,hP,hgt,placeC,Int.toNat_natCast,Int.ofNat_lt,hk,Int.natCast_nonneg,List.length_map,hrm]; (repeat refine qJ ?_))
  (refine AG_pu (fun hG => c1') ?_; simp only [go_sem,hP]; (repeat refine qJ ?_); (repeat ((first | refine Va ?_ | refine Vb ?_ | refine Vc ?_ | refine Vd ?_ | refine Ve ?_ | refine Vf ?_); (try simp only [go_sem,hP]); (repeat refine qJ ?_))))
  by_cases hq:k % 3 = 0 ∧ A.contains t = false
  ·rw [if_pos hq] at hsn
   obtain ⟨q1,q2⟩:=hq
   rw [q2]
   (refine WV_cond rfl (fun h => ?_) (fun h => ?_))
   ·(repeat ((first | refine Va ?_ | refine Vb ?_ | refine Vc ?_ | refine Vd ?_ | refine Ve ?_ | refine Vf ?_); (try simp only [go_sem,hP,hgt,placeC,Int.toNat_natCast,Int.ofNat_lt,hk,Int.natCast_nonneg,List.length_map,n2,hw2]); (repeat refine qJ ?_)))
    refine ⟨k + 1,by omega,by omega,?_⟩
    rw [hsn]
    simp only [hsb]
    (refine Sub_of (by simp only [go_sem]; ((repeat' (first | exact EnvLe_e0 _ _ | refine EnvLe_upd ?_ ?_)) <;> ((try simp only [upd_app,e0_app,o0_app,Nat.reduceEqDiff,reduceIte]); first | exact AWk.refl _ _ | exact AWk.int (by omega) | exact AWk.int (by rw [w64 (by omega) (by omega)]; omega) | exact AWk.grow rfl | exact AWk.nil _ | exact AWk.of (by simp [strsV])))) (by simp only [go_sem]; exact ObjLe_au))
   ·simp [q1] at h
  ·rw [if_neg hq] at hsn
   (refine WV_cond rfl (fun h => ?_) (fun h => ?_))
   ·simp at h
    exact (hq ⟨h.1,by rw [List.contains_eq_mem,decide_eq_false_iff_not]; exact h.2⟩).elim
   (repeat ((first | refine Va ?_ | refine Vb ?_ | refine Vc ?_ | refine Vd ?_ | refine Ve ?_ | refine Vf ?_); (try simp only [go_sem,hP,hgt,placeC,Int.toNat_natCast,Int.ofNat_lt,hk,Int.natCast_nonneg,List.length_map]); (repeat refine qJ ?_)))
   (refine AS_pu (c2') ?_; simp only [go_sem,hP]; (repeat refine qJ ?_); (repeat ((first | refine Va ?_ | refine Vb ?_ | refine Vc ?_ | refine Vd ?_ | refine Ve ?_ | refine Vf ?_); (try simp only [go_sem,hP]); (repeat refine qJ ?_))))
   by_cases hbc:B.contains t = false
   ·rw [if_pos hbc] at hsn
    rw [hbc]
    (refine WV_cond rfl (fun h => ?_) (fun h => ?_))
    ·(repeat ((first | refine Va ?_ | refine Vb ?_ | refine Vc ?_ | refine Vd ?_ | refine Ve ?_ | refine Vf ?_); (try simp only [go_sem,hP,hgt,placeC,Int.toNat_natCast,Int.ofNat_lt,hk,Int.natCast_nonneg,List.length_map,n1,hw2]); (repeat refine qJ ?_)))
     refine ⟨k + 1,by omega,by omega,?_⟩
     rw [hsn]
     simp only [hsa]
     (refine Sub_of (by simp only [go_sem]; ((repeat' (first | exact EnvLe_e0 _ _ | refine EnvLe_upd ?_ ?_)) <;> ((try simp only [upd_app,e0_app,o0_app,Nat.reduceEqDiff,reduceIte]); first | exact AWk.refl _ _ | exact AWk.int (by omega) | exact AWk.int (by rw [w64 (by omega) (by omega)]; omega) | exact AWk.grow rfl | exact AWk.nil _ | exact AWk.of (by simp [strsV])))) (by simp only [go_sem]; exact ObjLe_au))
    ·simp at h
   ·rw [if_neg hbc] at hsn
    have hbc:B.contains t = true:=by simpa using hbc
    rw [hbc]
    (refine WV_cond rfl (fun h => ?_) (fun h => ?_))
    ·simp at h
    ·(repeat ((first | refine Va ?_ | refine Vb ?_ | refine Vc ?_ | refine Vd ?_ | refine Ve ?_ | refine Vf ?_); (try simp only [go_sem,hP,hw2]); (repeat refine qJ ?_)))
     refine ⟨k + 1,by omega,by omega,?_⟩
     rw [hsn]
     (refine Sub_of (by simp only [go_sem]; ((repeat' (first | exact EnvLe_e0 _ _ | refine EnvLe_upd ?_ ?_)) <;> ((try simp only [upd_app,e0_app,o0_app,Nat.reduceEqDiff,reduceIte]); first | exact AWk.refl _ _ | exact AWk.int (by omega) | exact AWk.int (by rw [w64 (by omega) (by omega)]; omega) | exact AWk.grow rfl | exact AWk.nil _ | exact AWk.of (by simp [strsV])))) (by simp only [go_sem]; exact ObjLe_au))
 have hk:k = ms.length:=by simp at h; omega
 subst hk
 obtain ⟨hdj,hcl⟩:=copK_ok ms ms.length
 generalize copK ms ms.length = p at hdj hcl
 obtain ⟨A,B⟩:=p
 simp only at hdj hcl ⊢
 have h1:=spoilt_book hb A (by omega)
 have h2:=spoilt_book hb B (by omega)
 have t1:=text_len (spo_sok hb A)
 have t2:=text_len (spo_sok hb B)
 have j1:=join41 (textG (spo ts A)) (textG (spo ts B)) (by omega) (by omega)
 have j2:=join41 (textG (spo ts B)) (textG (spo ts A)) (by omega) (by omega)
 rw [join_book hb hdj] at j1
 rw [join_book hb fun m hm hma => hdj m hma hm] at j2
 have h1':FSpec Tryd.prog 19 [.c (strsV (bookB ts)),.c (.sl 2 (A.map placeC)),.c (.int .u8 63)] (sv (textG (spo ts A))):=h1
 have h2':FSpec Tryd.prog 19 [.c (strsV (bookB ts)),.c (.sl 2 (B.map placeC)),.c (.int .u8 63)] (sv (textG (spo ts B))):=h2
 refine WV_exit ?_
 simp only [thenQ,inQ,reduceIte,beq_self_eq_true]
 (repeat ((first | refine Va ?_ | refine Vb ?_ | refine Vc ?_ | refine Vd ?_ | refine Ve ?_ | refine Vf ?_); (try simp only [go_sem,hP]); (repeat refine qJ ?_)))
 (refine AS_pu (h1') ?_; simp only [go_sem,hP]; (repeat refine qJ ?_); (repeat ((first | refine Va ?_ | refine Vb ?_ | refine Vc ?_ | refine Vd ?_ | refine Ve ?_ | refine Vf ?_); (try simp only [go_sem,hP]); (repeat refine qJ ?_))))
 (refine AS_pu (h2') ?_; simp only [go_sem,hP]; (repeat refine qJ ?_); (repeat ((first | refine Va ?_ | refine Vb ?_ | refine Vc ?_ | refine Vd ?_ | refine Ve ?_ | refine Vf ?_); (try simp only [go_sem,hP]); (repeat refine qJ ?_))))
 (refine AS_pu (j1) ?_; simp only [go_sem,hP]; (repeat refine qJ ?_); (repeat ((first | refine Va ?_ | refine Vb ?_ | refine Vc ?_ | refine Vd ?_ | refine Ve ?_ | refine Vf ?_); (try simp only [go_sem,hP]); (repeat refine qJ ?_))))
 (refine AS_pu (j2) ?_; simp only [go_sem,hP]; (repeat refine qJ ?_); (repeat ((first | refine Va ?_ | refine Vb ?_ | refine Vc ?_ | refine Vd ?_ | refine Ve ?_ | refine Vf ?_); (try simp only [go_sem,hP]); (repeat refine qJ ?_))))
 (refine AG_pu (fun hG => hwk) ?_; simp only [go_sem,hP,beq_self_eq_true,Bool.and_self,Bool.true_and,true_implies,Bool.true_eq_false,false_implies,and_true]; (repeat refine qJ ?_); (repeat ((first | refine Va ?_ | refine Vb ?_ | refine Vc ?_ | refine Vd ?_ | refine Ve ?_ | refine Vf ?_); (try simp only [go_sem,hP,beq_self_eq_true,Bool.and_self,Bool.true_and,true_implies,Bool.true_eq_false,false_implies,and_true]); (repeat refine qJ ?_))))
 (refine WV_ret ?_; simp only [thenQ,inQ,RetQ,RetOk,resAll,resA]; simp only [go_sem,tupA,AV.port,AV.portL,exists_eq_left']; (first | exact AVle.of rfl | refine AVle.of ?_ | skip))
end Go.Proofs.YtlmfdmlochpfcaaDoor
