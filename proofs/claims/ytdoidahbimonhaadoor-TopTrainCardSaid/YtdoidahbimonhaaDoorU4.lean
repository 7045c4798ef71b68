/-
  Contracts of the layer's functions, of the laws' helpers and of the law; conditions: as each theorem states.
-/
import Derived.Test.YtdoidahbimonhaaDoorV3
import Derived.Test.YtdoidahbimonhaaDoorChecked
import Derived.Shelf.Strings.Builder1
import Derived.Laws.AppendOwn
import Derived.BigCall
import Derived.WalkKit
set_option linter.unusedVariables false
set_option linter.unusedSimpArgs false
namespace Go.Proofs.YtdoidahbimonhaaDoor
open Go Go.V
abbrev o38_0:List Ins:=[⟨some 2,.mv (.k (.c (.int .i64 0))),none,true⟩]
abbrev o38_1:List Ins:=[⟨some 4,.mv (.t 0),none,true⟩,
 ⟨some 5,.bin .lss (.t 4) (.k (.c (.int .u8 32))),none,true⟩,
 ⟨some 6,.mv (.t 5),none,true⟩,
 ⟨some 7,.mv (.t 0),(some (6,false)),true⟩,
 ⟨some 8,.bin .gtr (.t 7) (.k (.c (.int .u8 126))),(some (6,false)),true⟩,
 ⟨some 9,.pick (.t 6) (.k (.c (.bool true))) (.t 8),none,true⟩,
 ⟨some 10,.mv (.t 9),none,true⟩,
 ⟨some 11,.mv (.t 0),(some (10,false)),true⟩,
 ⟨some 12,.bin .eql (.t 11) (.k (.c (.int .u8 63))),(some (10,false)),true⟩,
 ⟨some 13,.pick (.t 10) (.k (.c (.bool true))) (.t 12),none,true⟩,
 ⟨some 3,.mv (.t 13),none,true⟩]
abbrev o38_2:List Ins:=[⟨some 2,.mv (.k (.c (.int .i64 (-1)))),none,true⟩]
abbrev v38_3:VC:=(.seq (.ops o38_2) .ret)
abbrev o38_4:List Ins:=[⟨some 15,.mv (.t 0),none,true⟩,
 ⟨some 16,.bin .lss (.t 15) (.k (.c (.int .u8 63))),none,true⟩,
 ⟨some 14,.mv (.t 16),none,true⟩]
abbrev o38_5:List Ins:=[⟨some 17,.mv (.t 0),none,true⟩,
 ⟨some 18,.prim (.conv .i64) [(.t 17)],none,true⟩,
 ⟨some 19,.bin .sub (.t 18) (.k (.c (.int .i64 32))),none,true⟩,
 ⟨some 2,.mv (.t 19),none,true⟩]
abbrev v38_6:VC:=(.seq (.ops o38_5) .ret)
abbrev v38_7:VC:=(.cond (.t 14) v38_6 .skip)
abbrev v38_8:VC:=(.seq (.ops o38_4) v38_7)
abbrev v38_9:VC:=(.cond (.t 3) v38_3 v38_8)
abbrev v38_10:VC:=(.seq (.ops o38_1) v38_9)
abbrev o38_11:List Ins:=[⟨some 20,.mv (.t 0),none,true⟩,
 ⟨some 21,.prim (.conv .i64) [(.t 20)],none,true⟩,
 ⟨some 22,.bin .sub (.t 21) (.k (.c (.int .i64 32))),none,true⟩,
 ⟨some 23,.bin .sub (.t 22) (.k (.c (.int .i64 1))),none,true⟩,
 ⟨some 2,.mv (.t 23),none,true⟩]
abbrev v38_12:VC:=(.seq (.ops o38_11) .ret)
abbrev v38_13:VC:=(.seq (.block 0 v38_10) v38_12)
def ir38:FC:=⟨1,24,[.t 2],(.seq (.ops o38_0) v38_13)⟩
abbrev o21_0:List Ins:=[⟨some 2,.mv (.k (.c (.bool false))),none,true⟩]
abbrev o21_1:List Ins:=[⟨some 4,.mv (.t 0),none,true⟩,
 ⟨some 5,.prim .slen [(.t 4)],none,true⟩,
 ⟨some 6,.mv (.k (.c (.int .i64 0))),none,true⟩]
abbrev o21_2:List Ins:=[⟨some 7,.bin .lss (.t 6) (.t 5),none,true⟩]
abbrev o21_3:List Ins:=[⟨some 8,.mv (.t 6),none,true⟩,
 ⟨some 3,.mv (.t 8),none,true⟩]
abbrev o21_4:List Ins:=[⟨some 9,.mv (.t 0),none,true⟩,
 ⟨some 10,.mv (.t 3),none,true⟩,
 ⟨some 11,.prim .sidx [(.t 9),(.t 10)],none,true⟩,
 ⟨some 12,.call (.k (.fn 38 [])) [(.t 11)],none,true⟩,
 ⟨some 13,.bin .lss (.t 12) (.k (.c (.int .i64 0))),none,true⟩]
abbrev o21_5:List Ins:=[⟨some 2,.mv (.k (.c (.bool false))),none,true⟩]
abbrev v21_6:VC:=(.seq (.ops o21_5) .ret)
abbrev v21_7:VC:=(.cond (.t 13) v21_6 .skip)
abbrev v21_8:VC:=(.seq (.ops o21_4) v21_7)
abbrev v21_9:VC:=(.seq (.ops o21_3) v21_8)
abbrev o21_10:List Ins:=[⟨some 14,.bin .add (.t 6) (.k (.c (.int .i64 1))),none,true⟩,
 ⟨some 6,.mv (.t 14),none,true⟩]
abbrev v21_11:VC:=(.seq (.block 1 v21_9) (.ops o21_10))
abbrev v21_12:VC:=(.seq (.cond (.t 7) .skip (.exit 0)) v21_11)
abbrev v21_13:VC:=(.seq (.ops o21_2) v21_12)
-- K21_1: changed and kept: [6]
abbrev K21_1:List Nat:=[0,5]
abbrev v21_14:VC:=(.loop v21_13)
abbrev v21_15:VC:=(.block 0 v21_14)
abbrev o21_16:List Ins:=[⟨some 15,.mv (.t 0),none,true⟩,
 ⟨some 16,.prim .slen [(.t 15)],none,true⟩,
 ⟨some 17,.bin .leq (.t 16) (.k (.c (.int .i64 30))),none,true⟩,
 ⟨some 2,.mv (.t 17),none,true⟩]
abbrev v21_17:VC:=(.seq (.ops o21_16) .ret)
abbrev v21_18:VC:=(.seq (.seq (.ops o21_1) v21_15) v21_17)
def ir21:FC:=⟨1,18,[.t 2],(.seq (.ops o21_0) v21_18)⟩
abbrev o69_0:List Ins:=[⟨some 2,.mv (.k (.c (.int .u8 0))),none,true⟩]
abbrev o69_1:List Ins:=[⟨some 4,.mv (.t 0),none,true⟩,
 ⟨some 5,.bin .add (.t 4) (.k (.c (.int .i64 32))),none,true⟩,
 ⟨some 6,.prim (.conv .u8) [(.t 5)],none,true⟩,
 ⟨some 3,.mv (.t 6),none,true⟩]
abbrev o69_2:List Ins:=[⟨some 7,.mv (.t 3),none,true⟩,
 ⟨some 8,.bin .geq (.t 7) (.k (.c (.int .u8 63))),none,true⟩]
abbrev o69_3:List Ins:=[⟨some 9,.mv (.t 3),none,true⟩,
 ⟨some 10,.bin .add (.t 9) (.k (.c (.int .u8 1))),none,true⟩,
 ⟨some 3,.mv (.t 10),none,true⟩]
abbrev v69_4:VC:=(.cond (.t 8) (.ops o69_3) .skip)
abbrev o69_5:List Ins:=[⟨some 11,.mv (.t 3),none,true⟩,
 ⟨some 2,.mv (.t 11),none,true⟩]
abbrev v69_6:VC:=(.seq (.ops o69_5) .ret)
abbrev v69_7:VC:=(.seq (.seq (.ops o69_2) v69_4) v69_6)
abbrev v69_8:VC:=(.seq (.ops o69_1) v69_7)
def ir69:FC:=⟨1,12,[.t 2],(.seq (.ops o69_0) v69_8)⟩
theorem c38:compM Tryd.prog [] 38 = some ir38:=by kernel_rfl
theorem c21:compM Tryd.prog [] 21 = some ir21:=by kernel_rfl
theorem c69:compM Tryd.prog [] 69 = some ir69:=by kernel_rfl
attribute [local go_sem] Nat.reduceEqDiff Nat.reduceAdd Nat.reduceMul reduceIte Nat.reduceLeDiff Nat.reduceLT Nat.reduceBEq reduceCtorEq
abbrev iv (n:Int):AV:=.c (.int .i64 n)
abbrev bv (b:Bool):AV:=.c (.bool b)
abbrev u8 (b:UInt8):AV:=.c (.int .u8 b.toNat)
abbrev sv (s:List UInt8):AV:=.c (.str s)
def valB (b:UInt8):Int:=if b.toNat < 32 ∨ 126 < b.toNat ∨ b.toNat = 63 then -1 else if b.toNat < 63 then b.toNat - 32 else b.toNat - 33
def sgn (n:Int):UInt8:=if n = -1 then 63 else if n < 31 then UInt8.ofNat (n + 32).toNat else UInt8.ofNat (n + 33).toNat
theorem sgn_nat {n:Int} (h:0 ≤ n ∧ n < 94):((sgn n).toNat:Int) = if n < 31 then n + 32 else n + 33:=by
 unfold sgn
 rw [if_neg (by omega)]
 split
 ·rw [UInt8.toNat_ofNat']
  omega
 ·rw [UInt8.toNat_ofNat']
  omega
theorem wrap_u8 {n:Int} (h:0 ≤ n ∧ n < 256):IntKind.u8.wrap n = n:=by
 simp [IntKind.wrap,IntKind.bits,IntKind.signed]
 omega
theorem value79 (b:UInt8):FSpec Tryd.prog 38 [u8 b] (iv (valB b)):=by
 have hb:b.toNat < 256:=b.toNat_lt
 have hwb:=w64 (n:=(b.toNat:Int)) (by omega) (by omega)
 have hw1:=w64 (n:=(b.toNat:Int) - 32) (by omega) (by omega)
 have hw2:=w64 (n:=(b.toNat:Int) - 32 - 1) (by omega) (by omega)
 refine FSpec_of c38 (Nat.le_refl _) (by decide) fun C hP hN hC hL => ?_; rw [init_st]
 simp only [ir38]
 (repeat ((first | refine Va ?_ | refine Vb ?_ | refine Vc ?_ | refine Vd ?_ | refine Ve ?_ | refine Vf ?_); (try simp only [go_sem,hP]); (repeat refine qJ ?_)))
 (refine WV_cond rfl (fun h => ?_) (fun h => ?_))
 ·have h:b.toNat < 32 ∨ 126 < b.toNat ∨ b.toNat = 63:=by simp at h; omega
  have e:valB b = -1:=by unfold valB; rw [if_pos h]
  rw [e]
  (repeat ((first | refine Va ?_ | refine Vb ?_ | refine Vc ?_ | refine Vd ?_ | refine Ve ?_ | refine Vf ?_); (try simp only [go_sem,hP]); (repeat refine qJ ?_)))
  (refine WV_ret ?_; simp only [thenQ,inQ,RetQ,RetOk,resAll,resA]; simp only [go_sem,tupA,AV.port,AV.portL,exists_eq_left']; (first | exact AVle.of rfl | refine AVle.of ?_ | skip))
 ·have h:¬ (b.toNat < 32 ∨ 126 < b.toNat ∨ b.toNat = 63):=by simp at h; omega
  (repeat ((first | refine Va ?_ | refine Vb ?_ | refine Vc ?_ | refine Vd ?_ | refine Ve ?_ | refine Vf ?_); (try simp only [go_sem,hP,hwb]); (repeat refine qJ ?_)))
  (refine WV_cond rfl (fun h => ?_) (fun h => ?_))
  ·have h3:b.toNat < 63:=by simp at h; omega
   have e:valB b = b.toNat - 32:=by unfold valB; rw [if_neg (by assumption),if_pos h3]
   rw [e]
   (repeat ((first | refine Va ?_ | refine Vb ?_ | refine Vc ?_ | refine Vd ?_ | refine Ve ?_ | refine Vf ?_); (try simp only [go_sem,hP,hwb,hw1]); (repeat refine qJ ?_)))
   (refine WV_ret ?_; simp only [thenQ,inQ,RetQ,RetOk,resAll,resA]; simp only [go_sem,tupA,AV.port,AV.portL,exists_eq_left']; (first | exact AVle.of rfl | refine AVle.of ?_ | skip))
  ·have h3:¬ b.toNat < 63:=by simp at h; omega
   have e:valB b = b.toNat - 32 - 1:=by unfold valB; rw [if_neg (by assumption),if_neg h3]; omega
   rw [e]
   (repeat ((first | refine Va ?_ | refine Vb ?_ | refine Vc ?_ | refine Vd ?_ | refine Ve ?_ | refine Vf ?_); (try simp only [go_sem,hP,hwb,hw1,hw2]); (repeat refine qJ ?_)))
   (refine WV_ret ?_; simp only [thenQ,inQ,RetQ,RetOk,resAll,resA]; simp only [go_sem,tupA,AV.port,AV.portL,exists_eq_left']; (first | exact AVle.of rfl | refine AVle.of ?_ | skip))
theorem sign82 {n:Int} (h:0 ≤ n ∧ n < 94):FSpec Tryd.prog 69 [iv n] (u8 (sgn n)):=by
 have hw1:=w64 (n:=n + 32) (by omega) (by omega)
 have hu1:=wrap_u8 (n:=n + 32) (by omega)
 have hu2:=wrap_u8 (n:=n + 32 + 1) (by omega)
 have hs:=sgn_nat h
 refine FSpec_of c69 (Nat.le_refl _) (by decide) fun C hP hN hC hL => ?_; rw [init_st]
 simp only [ir69]
 (repeat ((first | refine Va ?_ | refine Vb ?_ | refine Vc ?_ | refine Vd ?_ | refine Ve ?_ | refine Vf ?_); (try simp only [go_sem,hP,hw1,hu1]); (repeat refine qJ ?_)))
 (refine WV_cond rfl (fun h => ?_) (fun h => ?_))
 ·have h3:¬ n < 31:=by simp at h; omega
  have e:u8 (sgn n) = .c (.int .u8 (n + 32 + 1)):=by show AV.c (.int .u8 _) = _; rw [hs,if_neg h3,show n + 33 = n + 32 + 1 by omega]
  rw [e]
  (repeat ((first | refine Va ?_ | refine Vb ?_ | refine Vc ?_ | refine Vd ?_ | refine Ve ?_ | refine Vf ?_); (try simp only [go_sem,hP,hw1,hu1,hu2]); (repeat refine qJ ?_)))
  (refine WV_ret ?_; simp only [thenQ,inQ,RetQ,RetOk,resAll,resA]; simp only [go_sem,tupA,AV.port,AV.portL,exists_eq_left']; (first | exact AVle.of rfl | refine AVle.of ?_ | skip))
 ·have h3:n < 31:=by simp at h; omega
  have e:u8 (sgn n) = .c (.int .u8 (n + 32)):=by show AV.c (.int .u8 _) = _; rw [hs,if_pos h3]
  rw [e]
  (repeat ((first | refine Va ?_ | refine Vb ?_ | refine Vc ?_ | refine Vd ?_ | refine Ve ?_ | refine Vf ?_); (try simp only [go_sem,hP,hw1,hu1]); (repeat refine qJ ?_)))
  (refine WV_ret ?_; simp only [thenQ,inQ,RetQ,RetOk,resAll,resA]; simp only [go_sem,tupA,AV.port,AV.portL,exists_eq_left']; (first | exact AVle.of rfl | refine AVle.of ?_ | skip))
end Go.Proofs.YtdoidahbimonhaaDoor

namespace Go.Proofs.YtdoidahbimonhaaDoor
open Go Go.V
attribute [local go_sem] Nat.reduceEqDiff Nat.reduceAdd Nat.reduceMul reduceIte Nat.reduceLeDiff Nat.reduceLT Nat.reduceBEq reduceCtorEq
def isTx (s:List UInt8):Bool:=s.all (fun b => decide (0 ≤ valB b)) && decide (s.length ≤ 30)
theorem str_at {s:List UInt8} {k:Nat} (h:k < s.length):s.getD k 0 = s[k]:=by
 rw [List.getD_eq_getElem?_getD,List.getElem?_eq_getElem h]; rfl
theorem all_take {α:Type} {p:α → Bool} {l:List α} (h:∀ k (hk:k < l.length),p l[k] = true):l.all p = true:=by
 rw [List.all_eq_true]
 intro x hx
 obtain ⟨k,hk,rfl⟩:=List.getElem_of_mem hx
 exact h k hk
theorem all_not {α:Type} {p:α → Bool} {l:List α} {k:Nat} (hk:k < l.length) (h:p l[k] = false):l.all p = false:=by
 rw [Bool.eq_false_iff]
 intro hc
 rw [List.all_eq_true] at hc
 rw [hc _ (List.getElem_mem hk)] at h
 cases h
set_option maxHeartbeats 2000000 in
theorem istext54 (s:List UInt8) (hs:s.length ≤ maxLen):FSpec Tryd.prog 21 [sv s] (bv (isTx s)):=by
 have hmax:maxLen = 9223372036854775807:=rfl
 refine FSpec_of c21 (Nat.le_refl _) (by decide) fun C hP hN hC hL => ?_; rw [init_st]
 simp only [ir21]
 (repeat ((first | refine Va ?_ | refine Vb ?_ | refine Vc ?_ | refine Vd ?_ | refine Ve ?_ | refine Vf ?_); (try simp only [go_sem,hP]); (repeat refine qJ ?_)))
 refine WV_loopK K21_1 [] (fun k:Nat => k ≤ s.length ∧ ∀ j (hj:j < s.length),j < k → 0 ≤ valB s[j]) (fun k => s.length - k) (fun k => [(6,iv k)]) (fun _ => []) 0 ⟨Nat.zero_le _,fun _ _ h => by omega⟩ ?_ ?_
 ·exact Sub_au
 ·intro k ⟨hk1,hk2⟩
  simp only [go_sem]
  (repeat ((first | refine Va ?_ | refine Vb ?_ | refine Vc ?_ | refine Vd ?_ | refine Ve ?_ | refine Vf ?_); (try simp only [go_sem,hP]); (repeat refine qJ ?_)))
  (refine WV_cond rfl (fun h => ?_) (fun h => ?_))
  ·have h:k < s.length:=by simpa using h
   have hw2:=w64 (n:=(k:Int) + 1) (by omega) (by omega)
   (repeat ((first | refine Va ?_ | refine Vb ?_ | refine Vc ?_ | refine Vd ?_ | refine Ve ?_ | refine Vf ?_); (try simp only [go_sem,hP,Int.toNat_natCast,Int.ofNat_lt,h,Int.natCast_nonneg,str_at h]); (repeat refine qJ ?_)))
   (refine AS_pu (value79 s[k]) ?_; simp only [go_sem,hP]; (repeat refine qJ ?_); (repeat ((first | refine Va ?_ | refine Vb ?_ | refine Vc ?_ | refine Vd ?_ | refine Ve ?_ | refine Vf ?_); (try simp only [go_sem,hP]); (repeat refine qJ ?_))))
   (refine WV_cond rfl (fun h => ?_) (fun h => ?_))
   ·have hb:valB s[k] < 0:=by simpa using h
    have e:isTx s = false:=by
     unfold isTx
     rw [all_not (k:=k) (by assumption) (by simp; omega)]
     rfl
    rw [e]
    (repeat ((first | refine Va ?_ | refine Vb ?_ | refine Vc ?_ | refine Vd ?_ | refine Ve ?_ | refine Vf ?_); (try simp only [go_sem,hP]); (repeat refine qJ ?_)))
    (refine WV_ret ?_; simp only [thenQ,inQ,RetQ,RetOk,resAll,resA]; simp only [go_sem,tupA,AV.port,AV.portL,exists_eq_left']; (first | exact AVle.of rfl | refine AVle.of ?_ | skip))
   ·have hb:¬ valB s[k] < 0:=by simpa using h
    (repeat ((first | refine Va ?_ | refine Vb ?_ | refine Vc ?_ | refine Vd ?_ | refine Ve ?_ | refine Vf ?_); (try simp only [go_sem,hP,hw2]); (repeat refine qJ ?_)))
    refine ⟨k + 1,⟨by omega,fun j hj hjk => ?_⟩,by omega,?_⟩
    ·rcases Nat.lt_or_ge j k with h1 | h1
     ·exact hk2 j hj h1
     ·have:j = k:=by omega
      subst this
      omega
    ·exact Sub_au
  ·have h:k = s.length:=by simp at h; omega
   subst h
   have e:isTx s = decide (s.length ≤ 30):=by
    unfold isTx
    rw [all_take fun k hk => by simpa using hk2 k hk hk]
    simp
   rw [e]
   (repeat ((first | refine Va ?_ | refine Vb ?_ | refine Vc ?_ | refine Vd ?_ | refine Ve ?_ | refine Vf ?_); (try simp only [go_sem,hP]); (repeat refine qJ ?_)))
   (refine WV_ret ?_; simp only [thenQ,inQ,RetQ,RetOk,resAll,resA]; simp only [go_sem,tupA,AV.port,AV.portL,exists_eq_left']; (first | exact AVle.of rfl | refine AVle.of ?_ | skip))
   simp; omega
end Go.Proofs.YtdoidahbimonhaaDoor

namespace Go.Proofs.YtdoidahbimonhaaDoor
open Go Go.V
attribute [local go_sem] Nat.reduceEqDiff Nat.reduceAdd Nat.reduceMul reduceIte Nat.reduceLeDiff Nat.reduceLT Nat.reduceBEq reduceCtorEq
theorem map_getD {α β:Type} {l:List α} {f:α → β} {k:Nat} {d:β} (h:k < l.length):(l.map f).getD k d = f l[k]:=by
 simp [h]
end Go.Proofs.YtdoidahbimonhaaDoor

namespace Go.Proofs.YtdoidahbimonhaaDoor
open Go Go.V
attribute [local go_sem] Nat.reduceEqDiff Nat.reduceAdd Nat.reduceMul reduceIte Nat.reduceLeDiff Nat.reduceLT Nat.reduceBEq reduceCtorEq
def wid (g:List (List Int)):Nat:=(g.getD 0 []).length
def lineP (g:List (List Int)) (n:Nat) (row:Bool):List (Nat × Nat):=if row then (List.range (wid g)).map fun i => (n,i) else (List.range g.length).map fun i => (i,n)
end Go.Proofs.YtdoidahbimonhaaDoor

namespace Go.Proofs.YtdoidahbimonhaaDoor
open Go Go.V
attribute [local go_sem] Nat.reduceEqDiff Nat.reduceAdd Nat.reduceMul reduceIte Nat.reduceLeDiff Nat.reduceLT Nat.reduceBEq reduceCtorEq
def valAt (g:List (List Int)) (m:Nat × Nat):Int:=(g.getD m.1 []).getD m.2 0
def inG (g:List (List Int)) (m:Nat × Nat):Prop:=m.1 < g.length ∧ m.2 < (g.getD m.1 []).length ∧ -1 ≤ valAt g m ∧ valAt g m < 94
def sumL (g:List (List Int)) (l:List (Nat × Nat)):Int:=(l.map fun m => if valAt g m = -1 then 0 else valAt g m).sum
def lostL (g:List (List Int)) (l:List (Nat × Nat)):List (Nat × Nat):=l.filter fun m => valAt g m == -1
def lackL (g:List (List Int)) (l:List (Nat × Nat)):Int:=(94 - sumL g l % 94) % 94
theorem sumL_snoc (g:List (List Int)) (l:List (Nat × Nat)) (m:Nat × Nat):sumL g (l ++ [m]) = sumL g l + if valAt g m = -1 then 0 else valAt g m:=by simp [sumL]
theorem lostL_snoc (g:List (List Int)) (l:List (Nat × Nat)) (m:Nat × Nat):lostL g (l ++ [m]) = lostL g l ++ if valAt g m = -1 then [m] else []:=by
 unfold lostL
 rw [List.filter_append]
 by_cases h:valAt g m = -1 <;> simp [h]
theorem sumL_ok {g:List (List Int)}:∀ {l:List (Nat × Nat)},(∀ m ∈ l,inG g m) → 0 ≤ sumL g l ∧ sumL g l ≤ 93 * l.length
 | [],_ => by simp [sumL]
 | m :: l,h => by
  have ih:=sumL_ok (l:=l) fun x hx => h x (by simp [hx])
  have hm:=(h m (by simp)).2.2
  simp only [sumL,List.map_cons,List.sum_cons,List.length_cons] at ih ⊢
  split <;> omega
end Go.Proofs.YtdoidahbimonhaaDoor

namespace Go.Proofs.YtdoidahbimonhaaDoor
open Go Go.V
attribute [local go_sem] Nat.reduceEqDiff Nat.reduceAdd Nat.reduceMul reduceIte Nat.reduceLeDiff Nat.reduceLT Nat.reduceBEq reduceCtorEq
end Go.Proofs.YtdoidahbimonhaaDoor

namespace Go.Proofs.YtdoidahbimonhaaDoor
open Go Go.V
attribute [local go_sem] Nat.reduceEqDiff Nat.reduceAdd Nat.reduceMul reduceIte Nat.reduceLeDiff Nat.reduceLT Nat.reduceBEq reduceCtorEq
end Go.Proofs.YtdoidahbimonhaaDoor

namespace Go.Proofs.YtdoidahbimonhaaDoor
open Go Go.V
abbrev o67_0:List Ins:=[⟨some 4,.mv (.k (.c (.raw (.slice none 0 0)))),none,true⟩]
abbrev o67_1:List Ins:=[⟨some 6,.mv (.t 0),none,true⟩,
 ⟨some 7,.mv (.t 1),none,true⟩,
 ⟨some 8,.ia 1 (.t 6) (.t 7),none,true⟩,
 ⟨some 9,.ld true 1 (.t 8),none,true⟩,
 ⟨some 10,.len (.t 9),none,true⟩,
 ⟨some 11,.mv (.k (.c (.int .i64 0))),none,true⟩]
abbrev o67_2:List Ins:=[⟨some 12,.bin .lss (.t 11) (.t 10),none,true⟩]
abbrev o67_3:List Ins:=[⟨some 13,.mv (.t 11),none,true⟩,
 ⟨some 5,.mv (.t 13),none,true⟩]
abbrev o67_4:List Ins:=[⟨some 14,.mv (.t 4),none,true⟩,
 ⟨some 15,.mv (.t 0),none,true⟩,
 ⟨some 16,.mv (.t 1),none,true⟩,
 ⟨some 17,.ia 1 (.t 15) (.t 16),none,true⟩,
 ⟨some 18,.ld true 1 (.t 17),none,true⟩,
 ⟨some 19,.mv (.t 5),none,true⟩,
 ⟨some 20,.ia 1 (.t 18) (.t 19),none,true⟩,
 ⟨some 21,.bsl 125 1 [(.t 20)],none,true⟩,
 ⟨some 22,.app 125 1 8 (.t 14) (.t 21),none,true⟩,
 ⟨some 4,.mv (.t 22),none,true⟩]
abbrev v67_5:VC:=(.seq (.ops o67_3) (.ops o67_4))
abbrev o67_6:List Ins:=[⟨some 23,.bin .add (.t 11) (.k (.c (.int .i64 1))),none,true⟩,
 ⟨some 11,.mv (.t 23),none,true⟩]
abbrev v67_7:VC:=(.seq (.block 1 v67_5) (.ops o67_6))
abbrev v67_8:VC:=(.seq (.cond (.t 12) .skip (.exit 0)) v67_7)
abbrev v67_9:VC:=(.seq (.ops o67_2) v67_8)
-- K67_1: changed and kept: [11,4]
abbrev v67_10:VC:=(.loop v67_9)
abbrev v67_11:VC:=(.block 0 v67_10)
abbrev o67_12:List Ins:=[⟨some 24,.mv (.t 4),none,true⟩,
 ⟨some 4,.mv (.t 24),none,true⟩]
abbrev v67_13:VC:=(.seq (.ops o67_12) .ret)
abbrev v67_14:VC:=(.seq (.seq (.ops o67_1) v67_11) v67_13)
def ir67:FC:=⟨2,25,[.t 4],(.seq (.ops o67_0) v67_14)⟩
abbrev o68_0:List Ins:=[⟨some 4,.mv (.k (.c (.raw (.slice none 0 0)))),none,true⟩]
abbrev o68_1:List Ins:=[⟨some 6,.mv (.t 0),none,true⟩,
 ⟨some 7,.len (.t 6),none,true⟩,
 ⟨some 8,.mv (.k (.c (.int .i64 0))),none,true⟩]
abbrev o68_2:List Ins:=[⟨some 9,.bin .lss (.t 8) (.t 7),none,true⟩]
abbrev o68_3:List Ins:=[⟨some 10,.mv (.t 8),none,true⟩,
 ⟨some 5,.mv (.t 10),none,true⟩]
abbrev o68_4:List Ins:=[⟨some 11,.mv (.t 4),none,true⟩,
 ⟨some 12,.mv (.t 0),none,true⟩,
 ⟨some 13,.mv (.t 5),none,true⟩,
 ⟨some 14,.ia 1 (.t 12) (.t 13),none,true⟩,
 ⟨some 15,.ld true 1 (.t 14),none,true⟩,
 ⟨some 16,.mv (.t 1),none,true⟩,
 ⟨some 17,.ia 1 (.t 15) (.t 16),none,true⟩,
 ⟨some 18,.bsl 125 1 [(.t 17)],none,true⟩,
 ⟨some 19,.app 125 1 8 (.t 11) (.t 18),none,true⟩,
 ⟨some 4,.mv (.t 19),none,true⟩]
abbrev v68_5:VC:=(.seq (.ops o68_3) (.ops o68_4))
abbrev o68_6:List Ins:=[⟨some 20,.bin .add (.t 8) (.k (.c (.int .i64 1))),none,true⟩,
 ⟨some 8,.mv (.t 20),none,true⟩]
abbrev v68_7:VC:=(.seq (.block 1 v68_5) (.ops o68_6))
abbrev v68_8:VC:=(.seq (.cond (.t 9) .skip (.exit 0)) v68_7)
abbrev v68_9:VC:=(.seq (.ops o68_2) v68_8)
-- K68_1: changed and kept: [8,4]
abbrev v68_10:VC:=(.loop v68_9)
abbrev v68_11:VC:=(.block 0 v68_10)
abbrev o68_12:List Ins:=[⟨some 21,.mv (.t 4),none,true⟩,
 ⟨some 4,.mv (.t 21),none,true⟩]
abbrev v68_13:VC:=(.seq (.ops o68_12) .ret)
abbrev v68_14:VC:=(.seq (.seq (.ops o68_1) v68_11) v68_13)
def ir68:FC:=⟨2,22,[.t 4],(.seq (.ops o68_0) v68_14)⟩
abbrev o42_0:List Ins:=[⟨some 2,.mv (.k (.c (.raw (.slice none 0 0)))),none,true⟩]
abbrev o42_1:List Ins:=[⟨some 5,.mv (.t 0),none,true⟩,
 ⟨some 6,.len (.t 5),none,true⟩,
 ⟨some 7,.mv (.k (.c (.int .i64 0))),none,true⟩]
abbrev o42_2:List Ins:=[⟨some 8,.bin .lss (.t 7) (.t 6),none,true⟩]
abbrev o42_3:List Ins:=[⟨some 9,.mv (.t 7),none,true⟩,
 ⟨some 3,.mv (.t 9),none,true⟩]
abbrev o42_4:List Ins:=[⟨some 10,.mv (.t 2),none,true⟩,
 ⟨some 11,.mv (.t 0),none,true⟩,
 ⟨some 12,.mv (.t 3),none,true⟩,
 ⟨some 13,.call (.k (.fn 67 [])) [(.t 11),(.t 12)],none,true⟩,
 ⟨some 14,.bsl 85 1 [(.t 13)],none,true⟩,
 ⟨some 15,.app 85 1 24 (.t 10) (.t 14),none,true⟩,
 ⟨some 2,.mv (.t 15),none,true⟩]
abbrev v42_5:VC:=(.seq (.ops o42_3) (.ops o42_4))
abbrev o42_6:List Ins:=[⟨some 16,.bin .add (.t 7) (.k (.c (.int .i64 1))),none,true⟩,
 ⟨some 7,.mv (.t 16),none,true⟩]
abbrev v42_7:VC:=(.seq (.block 1 v42_5) (.ops o42_6))
abbrev v42_8:VC:=(.seq (.cond (.t 8) .skip (.exit 0)) v42_7)
abbrev v42_9:VC:=(.seq (.ops o42_2) v42_8)
-- K42_1: changed and kept: [7,2]
abbrev v42_10:VC:=(.loop v42_9)
abbrev v42_11:VC:=(.block 0 v42_10)
abbrev o42_12:List Ins:=[⟨some 17,.mv (.t 0),none,true⟩,
 ⟨some 18,.ia 1 (.t 17) (.k (.c (.int .i64 0))),none,true⟩,
 ⟨some 19,.ld true 1 (.t 18),none,true⟩,
 ⟨some 20,.len (.t 19),none,true⟩,
 ⟨some 21,.mv (.k (.c (.int .i64 0))),none,true⟩]
abbrev o42_13:List Ins:=[⟨some 22,.bin .lss (.t 21) (.t 20),none,true⟩]
abbrev o42_14:List Ins:=[⟨some 23,.mv (.t 21),none,true⟩,
 ⟨some 4,.mv (.t 23),none,true⟩]
abbrev o42_15:List Ins:=[⟨some 24,.mv (.t 2),none,true⟩,
 ⟨some 25,.mv (.t 0),none,true⟩,
 ⟨some 26,.mv (.t 4),none,true⟩,
 ⟨some 27,.call (.k (.fn 68 [])) [(.t 25),(.t 26)],none,true⟩,
 ⟨some 28,.bsl 85 1 [(.t 27)],none,true⟩,
 ⟨some 29,.app 85 1 24 (.t 24) (.t 28),none,true⟩,
 ⟨some 2,.mv (.t 29),none,true⟩]
abbrev v42_16:VC:=(.seq (.ops o42_14) (.ops o42_15))
abbrev o42_17:List Ins:=[⟨some 30,.bin .add (.t 21) (.k (.c (.int .i64 1))),none,true⟩,
 ⟨some 21,.mv (.t 30),none,true⟩]
abbrev v42_18:VC:=(.seq (.block 3 v42_16) (.ops o42_17))
abbrev v42_19:VC:=(.seq (.cond (.t 22) .skip (.exit 2)) v42_18)
abbrev v42_20:VC:=(.seq (.ops o42_13) v42_19)
-- K42_2: changed and kept: [21,2]
abbrev v42_21:VC:=(.loop v42_20)
abbrev v42_22:VC:=(.block 2 v42_21)
abbrev o42_23:List Ins:=[⟨some 31,.mv (.t 2),none,true⟩,
 ⟨some 2,.mv (.t 31),none,true⟩]
abbrev v42_24:VC:=(.seq (.ops o42_23) .ret)
abbrev v42_25:VC:=(.seq (.seq (.ops o42_12) v42_22) v42_24)
abbrev v42_26:VC:=(.seq (.seq (.ops o42_1) v42_11) v42_25)
def ir42:FC:=⟨1,32,[.t 2],(.seq (.ops o42_0) v42_26)⟩
theorem c67:compM Tryd.prog [] 67 = some ir67:=by kernel_rfl
theorem c68:compM Tryd.prog [] 68 = some ir68:=by kernel_rfl
theorem c42:compM Tryd.prog [] 42 = some ir42:=by kernel_rfl
attribute [local go_sem] Nat.reduceEqDiff Nat.reduceAdd Nat.reduceMul reduceIte Nat.reduceLeDiff Nat.reduceLT Nat.reduceBEq reduceCtorEq
abbrev BRow:=Row UInt8
structure ROk (R:List BRow) (w:Nat):Prop where
 len:R.length ≤ 41
 wid:w ≤ 32
 row:∀ i (h:i < R.length),(R[i]).l.length = w
def ptrB (bs:Nat → Nat) (p:Nat × Nat):List CD:=[.raw (ptrV (bs (p.1 + 1)) p.2)]
def lineV (bs:Nat → Nat) (ps:List (Nat × Nat)):CD:=.sl 1 (ps.map (ptrB bs))
def posL (n w i:Nat) (row:Bool):List (Nat × Nat):=if row then (List.range w).map fun k => (i,k) else (List.range n).map fun k => (k,i)
theorem ptrB_one (bs:Nat → Nat) (l:List (Nat × Nat)):((l.map (ptrB bs)).all fun e => e.length == 1) = true:=by
 rw [List.all_eq_true]; intro e he; obtain ⟨n,_,rfl⟩:=List.mem_map.1 he; rfl
theorem bcd_one (a:UInt8):(bcd a).length = 1:=rfl
theorem refs_glen (R:List BRow) (j:Nat):(refs 1001 1 0 R ++ List.replicate j AV.non).length = R.length + j:=by simp [refs_len]
theorem posL_row (n i k:Nat):posL n (k + 1) i true = posL n k i true ++ [(i,k)]:=by simp [posL,List.range_succ]
theorem posL_col (w i k:Nat):posL (k + 1) w i false = posL k w i false ++ [(k,i)]:=by simp [posL,List.range_succ]
set_option maxRecDepth 20000 in
set_option maxHeartbeats 4000000 in
theorem row52 (bs:Nat → Nat) {R:List BRow} {w:Nat} (hR:ROk R w) {j gcap i:Nat} (hi:i < R.length):FSpecB Tryd.prog 67 bs [.vw 1 1000 0 R.length gcap,iv i] (gridL bcd 1 R j) (fun r l' => r = .c (lineV bs (posL R.length w i true)) ∧ l' = gridL bcd 1 R j):=by
 have hmax:maxLen = 9223372036854775807:=rfl
 have hl:=hR.len
 have hw:=hR.wid
 have hrow:=hR.row i hi
 refine FSpecB_of c67 gridL_bx (by rw [gridL_len]; omega) (Nat.le_refl _) (by decide) (by decide) fun C hP hN hC hat hL => ?_
 rw [init_env',ownW_grid (by omega)]
 simp only [ir67,updL,Nat.reduceAdd]
 rw [gridL_len] at hat
 obtain ⟨hp1,hp2⟩:=hat (i + 1) (by omega)
 rw [show 1000 + (i + 1) = i + 1001 from by omega] at hp1 hp2
 (repeat ((first | refine Va ?_ | refine Vb ?_ | refine Vc ?_ | refine Vd ?_ | refine Ve ?_ | refine Vf ?_); (try simp only [go_sem,hP,gown_grid,gown_row hi,Row.ob_box,gridOb,Ob.isBox,refs_get hi,refs_glen,hrow,Int.toNat_natCast,Nat.mul_one,Nat.zero_add,hi,Int.ofNat_lt,Int.natCast_nonneg]); (repeat refine qJ ?_)))
 refine WV_nilslot 4 22 125 1 (by decide) (by decide) (by rw [gown_lo (by decide)]; rfl) rfl ?_
 rw [prgO_gown (by decide),gown_upd (by decide)]
 simp only [go_sem]
 refine WV_loopS (fun k:Nat => ⟨upd (upd (upd (upd (upd e0 0 (.vw 1 1000 0 R.length gcap)) 1 (iv i)) 10 (iv w)) 4 (.gr 22)) 11 (iv k),gown bcd 1 R j (upd o0 22 (.grow 125 1 ((posL R.length k i true).map (ptrB bs))))⟩) (fun k => k ≤ w) (fun k => w - k) 0 (Nat.zero_le _) ?_ ?_
 ·exact Sub_of (by exact EnvLe_au) (ObLe_gown (by exact ObjLe_au))
 ·intro k hk
  (repeat ((first | refine Va ?_ | refine Vb ?_ | refine Vc ?_ | refine Vd ?_ | refine Ve ?_ | refine Vf ?_); (try simp only [go_sem,hP]); (repeat refine qJ ?_)))
  (refine WV_cond rfl (fun h => ?_) (fun h => ?_))
  ·have hk2:k < w:=by simpa using h
   have hw2:=w64 (n:=(k:Int) + 1) (by omega) (by omega)
   have h1:=ptrB_one bs (posL R.length k i true)
   have hpl:((posL R.length k i true).map (ptrB bs)).length = k:=by simp [posL]
   have hsn:(posL R.length (k + 1) i true).map (ptrB bs) = (posL R.length k i true).map (ptrB bs) ++ [ptrB bs (i,k)]:=by rw [posL_row,List.map_append]; rfl
   (refine WV_skip ?_; simp only [go_sem])
   refine WV_seq_ (WV_block (WV_seq_ ?_))
   (refine WV_op ?_; simp only [go_sem,hP]; (repeat refine qJ ?_))
   (refine WV_split 7 ?_; simp only [List.take_succ_cons,List.take_zero,List.take_nil,List.drop_succ_cons,List.drop_zero,List.drop_nil]; simp only [go_sem,hP,gown_grid,gown_row hi,Row.ob_box,gridOb,Ob.isBox,refs_get hi,refs_glen,hrow,Int.toNat_natCast,Nat.mul_one,Nat.zero_add,hi,hk2,Int.ofNat_lt,Int.natCast_nonneg]; (repeat refine qJ ?_))
   refine SOps_raw (i + 1001) k (bs (i + 1)) 20 hp1 hp2 rfl ?_
   (refine SOps_ops ?_; simp only [go_sem,hP,gown_lo,gown_upd,prgO_gown,h1,hpl,ptrB]; (repeat refine qJ ?_))
   (repeat ((first | refine Va ?_ | refine Vb ?_ | refine Vc ?_ | refine Vd ?_ | refine Ve ?_ | refine Vf ?_); (try simp only [go_sem,hP,hw2,gown_lo]); (repeat refine qJ ?_)))
   refine ⟨k + 1,by omega,by omega,?_⟩
   rw [hsn]
   exact Sub_of (by exact EnvLe_au) (ObLe_gown (by exact ObjLe_au))
  ·have h:k = w:=by simp at h; omega
   subst h
   (repeat ((first | refine Va ?_ | refine Vb ?_ | refine Vc ?_ | refine Vd ?_ | refine Ve ?_ | refine Vf ?_); (try simp only [go_sem,hP,gown_lo]); (repeat refine qJ ?_)))
   (refine WV_ret ?_; simp only [thenQ,inQ,RetQL,RetOkL,resAll,resA]; simp only [go_sem,tupA,AV.keepP,AV.keepPL,gown_lo]; refine ⟨_,gridL bcd 1 R j,rfl,KeepL_grid rfl (by omega),?_⟩)
   exact ⟨rfl,rfl⟩
set_option maxRecDepth 20000 in
set_option maxHeartbeats 4000000 in
theorem column81 (bs:Nat → Nat) {R:List BRow} {w:Nat} (hR:ROk R w) {j gcap c:Nat} (hc:c < w):FSpecB Tryd.prog 68 bs [.vw 1 1000 0 R.length gcap,iv c] (gridL bcd 1 R j) (fun r l' => r = .c (lineV bs (posL R.length w c false)) ∧ l' = gridL bcd 1 R j):=by
 have hmax:maxLen = 9223372036854775807:=rfl
 have hl:=hR.len
 have hw:=hR.wid
 refine FSpecB_of c68 gridL_bx (by rw [gridL_len]; omega) (Nat.le_refl _) (by decide) (by decide) fun C hP hN hC hat hL => ?_
 rw [init_env',ownW_grid (by omega)]
 simp only [ir68,updL,Nat.reduceAdd]
 rw [gridL_len] at hat
 (repeat ((first | refine Va ?_ | refine Vb ?_ | refine Vc ?_ | refine Vd ?_ | refine Ve ?_ | refine Vf ?_); (try simp only [go_sem,hP,gown_grid,gridOb,Ob.isBox]); (repeat refine qJ ?_)))
 refine WV_nilslot 4 19 125 1 (by decide) (by decide) (by rw [gown_lo (by decide)]; rfl) rfl ?_
 rw [prgO_gown (by decide),gown_upd (by decide)]
 simp only [go_sem]
 refine WV_loopS (fun k:Nat => ⟨upd (upd (upd (upd (upd e0 0 (.vw 1 1000 0 R.length gcap)) 1 (iv c)) 7 (iv R.length)) 4 (.gr 19)) 8 (iv k),gown bcd 1 R j (upd o0 19 (.grow 125 1 ((posL k w c false).map (ptrB bs))))⟩) (fun k => k ≤ R.length) (fun k => R.length - k) 0 (Nat.zero_le _) ?_ ?_
 ·exact Sub_of (by exact EnvLe_au) (ObLe_gown (by exact ObjLe_au))
 ·intro k hk
  (repeat ((first | refine Va ?_ | refine Vb ?_ | refine Vc ?_ | refine Vd ?_ | refine Ve ?_ | refine Vf ?_); (try simp only [go_sem,hP]); (repeat refine qJ ?_)))
  (refine WV_cond rfl (fun h => ?_) (fun h => ?_))
  ·have hk2:k < R.length:=by simpa using h
   have hw2:=w64 (n:=(k:Int) + 1) (by omega) (by omega)
   have hrow:=hR.row k hk2
   obtain ⟨hp1,hp2⟩:=hat (k + 1) (by omega)
   rw [show 1000 + (k + 1) = k + 1001 from by omega] at hp1 hp2
   have h1:=ptrB_one bs (posL k w c false)
   have hpl:((posL k w c false).map (ptrB bs)).length = k:=by simp [posL]
   have hsn:(posL (k + 1) w c false).map (ptrB bs) = (posL k w c false).map (ptrB bs) ++ [ptrB bs (k,c)]:=by rw [posL_col,List.map_append]; rfl
   (refine WV_skip ?_; simp only [go_sem])
   refine WV_seq_ (WV_block (WV_seq_ ?_))
   (refine WV_op ?_; simp only [go_sem,hP]; (repeat refine qJ ?_))
   (refine WV_split 7 ?_; simp only [List.take_succ_cons,List.take_zero,List.take_nil,List.drop_succ_cons,List.drop_zero,List.drop_nil]; simp only [go_sem,hP,gown_grid,gown_row hk2,Row.ob_box,gridOb,Ob.isBox,refs_get hk2,refs_glen,hrow,Int.toNat_natCast,Nat.mul_one,Nat.zero_add,hc,hk2,Int.ofNat_lt,Int.natCast_nonneg]; (repeat refine qJ ?_))
   refine SOps_raw (k + 1001) c (bs (k + 1)) 17 hp1 hp2 rfl ?_
   (refine SOps_ops ?_; simp only [go_sem,hP,gown_lo,gown_upd,prgO_gown,h1,hpl,ptrB]; (repeat refine qJ ?_))
   (repeat ((first | refine Va ?_ | refine Vb ?_ | refine Vc ?_ | refine Vd ?_ | refine Ve ?_ | refine Vf ?_); (try simp only [go_sem,hP,hw2,gown_lo]); (repeat refine qJ ?_)))
   refine ⟨k + 1,by omega,by omega,?_⟩
   rw [hsn]
   exact Sub_of (by exact EnvLe_au) (ObLe_gown (by exact ObjLe_au))
  ·have h:k = R.length:=by simp at h; omega
   subst h
   (repeat ((first | refine Va ?_ | refine Vb ?_ | refine Vc ?_ | refine Vd ?_ | refine Ve ?_ | refine Vf ?_); (try simp only [go_sem,hP,gown_lo]); (repeat refine qJ ?_)))
   (refine WV_ret ?_; simp only [thenQ,inQ,RetQL,RetOkL,resAll,resA]; simp only [go_sem,tupA,AV.keepP,AV.keepPL,gown_lo]; refine ⟨_,gridL bcd 1 R j,rfl,KeepL_grid rfl (by omega),?_⟩)
   exact ⟨rfl,rfl⟩
def allP (n w:Nat):List (List (Nat × Nat)):=(List.range n).map (fun i => posL n w i true) ++ (List.range w).map fun k => posL n w k false
def linesV (bs:Nat → Nat) (L:List (List (Nat × Nat))):CD:=.sl 1 (L.map fun l => [lineV bs l])
def lcd (bs:Nat → Nat) (l:List (Nat × Nat)):List CD:=[lineV bs l]
theorem lcd_one (bs:Nat → Nat) (l:List (List (Nat × Nat))):((l.map (lcd bs)).all fun e => e.length == 1) = true:=by
 rw [List.all_eq_true]; intro e he; obtain ⟨n,_,rfl⟩:=List.mem_map.1 he; rfl
def allQ (n w k i:Nat):List (List (Nat × Nat)):=(List.range k).map (fun i => posL n w i true) ++ (List.range i).map fun k => posL n w k false
theorem allQ_row (n w k:Nat):allQ n w (k + 1) 0 = allQ n w k 0 ++ [posL n w k true]:=by simp [allQ,List.range_succ]
theorem allQ_col (n w k i:Nat):allQ n w k (i + 1) = allQ n w k i ++ [posL n w i false]:=by simp [allQ,List.range_succ]
theorem allQ_len (n w k i:Nat):(allQ n w k i).length = k + i:=by simp [allQ]
set_option maxRecDepth 20000 in
set_option maxHeartbeats 4000000 in
theorem lines50 (bs:Nat → Nat) {R:List BRow} {w:Nat} (hR:ROk R w) (hn:0 < R.length) {j gcap:Nat}:FSpecB Tryd.prog 42 bs [.vw 1 1000 0 R.length gcap] (gridL bcd 1 R j) (fun r l' => r = .c (linesV bs (allP R.length w)) ∧ l' = gridL bcd 1 R j):=by
 have hmax:maxLen = 9223372036854775807:=rfl
 have hl:=hR.len
 have hw:=hR.wid
 have hr0:=hR.row 0 hn
 refine FSpecB_of c42 gridL_bx (by rw [gridL_len]; omega) (Nat.le_refl _) (by decide) (by decide) fun C hP hN hC hat hL => ?_
 rw [init_env',ownW_grid (by omega)]
 simp only [ir42,updL,Nat.reduceAdd]
 rw [gridL_len] at hat
 (repeat ((first | refine Va ?_ | refine Vb ?_ | refine Vc ?_ | refine Vd ?_ | refine Ve ?_ | refine Vf ?_); (try simp only [go_sem,hP,gown_grid,gridOb,Ob.isBox]); (repeat refine qJ ?_)))
 refine WV_nilslot 2 15 85 1 (by decide) (by decide) (by rw [gown_lo (by decide)]; rfl) rfl ?_
 rw [prgO_gown (by decide),gown_upd (by decide)]
 simp only [go_sem]
 refine WV_loopS (fun k:Nat => ⟨upd (upd (upd (upd e0 0 (.vw 1 1000 0 R.length gcap)) 6 (iv R.length)) 2 (.gr 15)) 7 (iv k),gown bcd 1 R j (upd o0 15 (.grow 85 1 ((allQ R.length w k 0).map (lcd bs))))⟩) (fun k => k ≤ R.length) (fun k => R.length - k) 0 (Nat.zero_le _) ?_ ?_
 ·exact Sub_of (by exact EnvLe_au) (ObLe_gown (by exact ObjLe_au))
 ·intro k hk
  (repeat ((first | refine Va ?_ | refine Vb ?_ | refine Vc ?_ | refine Vd ?_ | refine Ve ?_ | refine Vf ?_); (try simp only [go_sem,hP]); (repeat refine qJ ?_)))
  (refine WV_cond rfl (fun h => ?_) (fun h => ?_))
  ·have hk2:k < R.length:=by simpa using h
   have hw2:=w64 (n:=(k:Int) + 1) (by omega) (by omega)
   have h1:=lcd_one bs (allQ R.length w k 0)
   have hpl:((allQ R.length w k 0).map (lcd bs)).length = k:=by rw [List.length_map,allQ_len]; rfl
   have hsn:(allQ R.length w (k + 1) 0).map (lcd bs) = (allQ R.length w k 0).map (lcd bs) ++ [lcd bs (posL R.length w k true)]:=by rw [allQ_row,List.map_append]; rfl
   (refine WV_skip ?_; simp only [go_sem])
   refine WV_seq_ (WV_block (WV_seq_ ?_))
   (refine WV_op ?_; simp only [go_sem,hP]; (repeat refine qJ ?_))
   (refine WV_split 3 ?_; simp only [List.take_succ_cons,List.take_zero,List.take_nil,List.drop_succ_cons,List.drop_zero,List.drop_nil]; simp only [go_sem,hP]; (repeat refine qJ ?_))
   (refine SOps_grid hP (row52 bs hR hk2) hat rfl rfl rfl (by simp only [List.map_cons,List.map_nil,List.append_nil,List.nil_append,List.cons_append]; simp only [go_sem,AV.lendL,lend_grid,AV.lend]; first | done | rfl) ?_)
   rintro r l' ⟨rfl,rfl⟩
   refine ⟨R,rfl,rfl,rfl,?_⟩
   (refine SOps_ops ?_; simp only [go_sem,hP,gown_lo,gown_upd,prgO_gown,h1,hpl]; (repeat refine qJ ?_))
   (repeat ((first | refine Va ?_ | refine Vb ?_ | refine Vc ?_ | refine Vd ?_ | refine Ve ?_ | refine Vf ?_); (try simp only [go_sem,hP,hw2,gown_lo]); (repeat refine qJ ?_)))
   refine ⟨k + 1,by omega,by omega,?_⟩
   rw [hsn]
   exact Sub_of (by exact EnvLe_au) (ObLe_gown (by exact ObjLe_au))
  ·have h:k = R.length:=by simp at h; omega
   subst h
   (repeat ((first | refine Va ?_ | refine Vb ?_ | refine Vc ?_ | refine Vd ?_ | refine Ve ?_ | refine Vf ?_); (try simp only [go_sem,hP,gown_grid,gown_row hn,Row.ob_box,gridOb,Ob.isBox,refs_get hn,refs_glen,hr0,Int.toNat_zero,Nat.mul_one,Nat.zero_add,Nat.zero_mul,hn,Int.ofNat_lt,Int.natCast_nonneg,Nat.add_zero]); (repeat refine qJ ?_)))
   refine WV_move' 15 29 (by decide) (by decide) (by rw [gown_lo (by decide)]; rfl) ?_
   rw [rnO_gown (by decide) (by decide)]
   simp only [go_sem]
   refine WV_loopS (fun k:Nat => ⟨upd (upd (upd (upd e0 0 (.vw 1 1000 0 R.length gcap)) 20 (iv w)) 2 (.gr 29)) 21 (iv k),gown bcd 1 R j (upd o0 29 (.grow 85 1 ((allQ R.length w R.length k).map (lcd bs))))⟩) (fun k => k ≤ w) (fun k => w - k) 0 (Nat.zero_le _) ?_ ?_
   ·exact Sub_of (by exact EnvLe_au) (ObLe_gown (by exact ObjLe_au))
   ·intro k hk
    (repeat ((first | refine Va ?_ | refine Vb ?_ | refine Vc ?_ | refine Vd ?_ | refine Ve ?_ | refine Vf ?_); (try simp only [go_sem,hP]); (repeat refine qJ ?_)))
    (refine WV_cond rfl (fun h => ?_) (fun h => ?_))
    ·have hk2:k < w:=by simpa using h
     have hw2:=w64 (n:=(k:Int) + 1) (by omega) (by omega)
     have h1:=lcd_one bs (allQ R.length w R.length k)
     have hpl:((allQ R.length w R.length k).map (lcd bs)).length = R.length + k:=by rw [List.length_map,allQ_len]
     have hsn:(allQ R.length w R.length (k + 1)).map (lcd bs) = (allQ R.length w R.length k).map (lcd bs) ++ [lcd bs (posL R.length w k false)]:=by rw [allQ_col,List.map_append]; rfl
     (refine WV_skip ?_; simp only [go_sem])
     refine WV_seq_ (WV_block (WV_seq_ ?_))
     (refine WV_op ?_; simp only [go_sem,hP]; (repeat refine qJ ?_))
     (refine WV_split 3 ?_; simp only [List.take_succ_cons,List.take_zero,List.take_nil,List.drop_succ_cons,List.drop_zero,List.drop_nil]; simp only [go_sem,hP]; (repeat refine qJ ?_))
     (refine SOps_grid hP (column81 bs hR hk2) hat rfl rfl rfl (by simp only [List.map_cons,List.map_nil,List.append_nil,List.nil_append,List.cons_append]; simp only [go_sem,AV.lendL,lend_grid,AV.lend]; first | done | rfl) ?_)
     rintro r l' ⟨rfl,rfl⟩
     refine ⟨R,rfl,rfl,rfl,?_⟩
     (refine SOps_ops ?_; simp only [go_sem,hP,gown_lo,gown_upd,prgO_gown,h1,hpl]; (repeat refine qJ ?_))
     (repeat ((first | refine Va ?_ | refine Vb ?_ | refine Vc ?_ | refine Vd ?_ | refine Ve ?_ | refine Vf ?_); (try simp only [go_sem,hP,hw2,gown_lo]); (repeat refine qJ ?_)))
     refine ⟨k + 1,by omega,by omega,?_⟩
     rw [hsn]
     exact Sub_of (by exact EnvLe_au) (ObLe_gown (by exact ObjLe_au))
    ·have h:k = w:=by simp at h; omega
     subst h
     (repeat ((first | refine Va ?_ | refine Vb ?_ | refine Vc ?_ | refine Vd ?_ | refine Ve ?_ | refine Vf ?_); (try simp only [go_sem,hP,gown_lo]); (repeat refine qJ ?_)))
     (refine WV_ret ?_; simp only [thenQ,inQ,RetQL,RetOkL,resAll,resA]; simp only [go_sem,tupA,AV.keepP,AV.keepPL,gown_lo]; refine ⟨_,gridL bcd 1 R j,rfl,KeepL_grid rfl (by omega),?_⟩)
     exact ⟨rfl,rfl⟩
end Go.Proofs.YtdoidahbimonhaaDoor

namespace Go.Proofs.YtdoidahbimonhaaDoor
open Go Go.V
abbrev o48_0:List Ins:=[⟨some 2,.mv (.k (.c (.int .i64 0))),none,true⟩,
 ⟨some 3,.mv (.k (.c (.int .i64 0))),none,true⟩]
abbrev o48_1:List Ins:=[⟨some 6,.mv (.t 0),none,true⟩,
 ⟨some 7,.len (.t 6),none,true⟩,
 ⟨some 8,.mv (.k (.c (.int .i64 0))),none,true⟩]
abbrev o48_2:List Ins:=[⟨some 9,.bin .lss (.t 8) (.t 7),none,true⟩]
abbrev o48_3:List Ins:=[⟨some 10,.ia 1 (.t 6) (.t 8),none,true⟩,
 ⟨some 11,.ld true 1 (.t 10),none,true⟩,
 ⟨some 5,.mv (.t 11),none,true⟩]
abbrev o48_4:List Ins:=[⟨some 12,.mv (.t 5),none,true⟩,
 ⟨some 13,.nilc (.t 12),none,true⟩,
 ⟨some 14,.ld true 1 (.t 13),none,true⟩,
 ⟨some 15,.bin .eql (.t 14) (.k (.c (.int .u8 63))),none,true⟩]
abbrev o48_5:List Ins:=[⟨some 16,.mv (.t 2),none,true⟩,
 ⟨some 17,.bin .add (.t 16) (.k (.c (.int .i64 1))),none,true⟩,
 ⟨some 2,.mv (.t 17),none,true⟩]
abbrev o48_6:List Ins:=[⟨some 18,.mv (.t 3),none,true⟩,
 ⟨some 19,.mv (.t 5),none,true⟩,
 ⟨some 20,.nilc (.t 19),none,true⟩,
 ⟨some 21,.ld true 1 (.t 20),none,true⟩,
 ⟨some 22,.call (.k (.fn 38 [])) [(.t 21)],none,true⟩,
 ⟨some 23,.bin .sub (.t 18) (.t 22),none,true⟩,
 ⟨some 3,.mv (.t 23),none,true⟩]
abbrev v48_7:VC:=(.cond (.t 15) (.ops o48_5) (.ops o48_6))
abbrev v48_8:VC:=(.seq (.ops o48_4) v48_7)
abbrev v48_9:VC:=(.seq (.ops o48_3) v48_8)
abbrev o48_10:List Ins:=[⟨some 24,.bin .add (.t 8) (.k (.c (.int .i64 1))),none,true⟩,
 ⟨some 8,.mv (.t 24),none,true⟩]
abbrev v48_11:VC:=(.seq (.block 1 v48_9) (.ops o48_10))
abbrev v48_12:VC:=(.seq (.cond (.t 9) .skip (.exit 0)) v48_11)
abbrev v48_13:VC:=(.seq (.ops o48_2) v48_12)
-- K48_1: changed and kept: [8,2,3]
abbrev v48_14:VC:=(.loop v48_13)
abbrev v48_15:VC:=(.block 0 v48_14)
abbrev o48_16:List Ins:=[⟨some 25,.mv (.t 2),none,true⟩,
 ⟨some 26,.mv (.t 3),none,true⟩,
 ⟨some 27,.bin .rem (.t 26) (.k (.c (.int .i64 94))),none,true⟩,
 ⟨some 28,.bin .add (.t 27) (.k (.c (.int .i64 94))),none,true⟩,
 ⟨some 29,.bin .rem (.t 28) (.k (.c (.int .i64 94))),none,true⟩,
 ⟨some 2,.mv (.t 25),none,true⟩,
 ⟨some 3,.mv (.t 29),none,true⟩]
abbrev v48_17:VC:=(.seq (.ops o48_16) .ret)
abbrev v48_18:VC:=(.seq (.seq (.ops o48_1) v48_15) v48_17)
def ir48:FC:=⟨1,30,[.t 2,.t 3],(.seq (.ops o48_0) v48_18)⟩
theorem c48:compM Tryd.prog [] 48 = some ir48:=by kernel_rfl
attribute [local go_sem] Nat.reduceEqDiff Nat.reduceAdd Nat.reduceMul reduceIte Nat.reduceLeDiff Nat.reduceLT Nat.reduceBEq reduceCtorEq
def BOk (b:UInt8):Prop:=32 ≤ b.toNat ∧ b.toNat ≤ 126
def vq (b:UInt8):Int:=if b.toNat = 63 then -1 else valB b
def gv (R:List BRow):List (List Int):=R.map fun r => r.l.map vq
def BRs (R:List BRow):Prop:=∀ i (h:i < R.length) k (hk:k < (R[i]).l.length),BOk (R[i]).l[k]
theorem vq_lost {b:UInt8} (h:BOk b):vq b = -1 ↔ b.toNat = 63:=by
 unfold BOk at h
 unfold vq valB
 split
 ·simp; omega
 ·rw [if_neg (by omega)]
  split <;> omega
theorem vq_rng {b:UInt8} (h:BOk b):-1 ≤ vq b ∧ vq b < 94:=by
 unfold BOk at h
 unfold vq valB
 split
 ·simp
 ·rw [if_neg (by omega)]
  split <;> omega
theorem gv_len (R:List BRow):(gv R).length = R.length:=by simp [gv]
theorem gv_row {R:List BRow} {i:Nat} (h:i < R.length):(gv R).getD i [] = (R[i]).l.map vq:=by
 unfold gv; exact map_getD h
theorem gv_at {R:List BRow} {i k:Nat} (h:i < R.length) (hk:k < (R[i]).l.length):valAt (gv R) (i,k) = vq (R[i]).l[k]:=by
 unfold valAt
 simp only
 rw [gv_row h,map_getD hk]
def InR (R:List BRow) (ps:List (Nat × Nat)):Prop:=∀ p ∈ ps,∃ h:p.1 < R.length,p.2 < (R[p.1]).l.length
theorem InR.inG {R:List BRow} (hb:BRs R) {ps:List (Nat × Nat)} (h:InR R ps):∀ m ∈ ps,inG (gv R) m:=by
 intro m hm
 obtain ⟨h1,h2⟩:=h m hm
 refine ⟨by rw [gv_len]; exact h1,by rw [gv_row h1]; simpa using h2,?_⟩
 rw [show valAt (gv R) m = vq (R[m.1]).l[m.2] from gv_at h1 h2]
 exact vq_rng (hb _ _ _ _)
theorem bcell {l:List UInt8} {k:Nat} (h:k < l.length) (j:Nat) (x:AV):(cellsG bcd l j).getD k x = u8 l[k]:=by
 have:=cellsG_get (cds:=bcd) bcd_one h j 0 (d:=.int .u8 l[k].toNat) rfl x
 simpa using this
theorem bcell_lt {l:List UInt8} {k:Nat} (h:k < l.length) (j:Nat):k < (cellsG bcd l j).length:=by rw [cellsG_len bcd_one]; omega
theorem lack_tmod {s:Int} (h:0 ≤ s):((-s).tmod 94 + 94).tmod 94 = (94 - s % 94) % 94:=by
 rw [Int.neg_tmod,Int.tmod_eq_emod_of_nonneg h,Int.tmod_eq_emod_of_nonneg (by omega)]
 congr 1; omega
theorem beq63 (b:UInt8):((b.toNat:Int) == 63) = decide (b.toNat = 63):=by
 rw [Bool.eq_iff_iff]; simp; omega
set_option maxRecDepth 20000 in
set_option maxHeartbeats 4000000 in
theorem state69 (bs:Nat → Nat) {R:List BRow} {w:Nat} (hR:ROk R w) (hb:BRs R) {ps:List (Nat × Nat)} (hin:InR R ps) (hpl:ps.length ≤ 100) {j:Nat}:FSpecB Tryd.prog 48 bs [.c (lineV bs ps)] (gridL bcd 1 R j) (fun r l' => r = .tup [iv (lostL (gv R) ps).length,iv (lackL (gv R) ps)] ∧ l' = gridL bcd 1 R j):=by
 have hmax:maxLen = 9223372036854775807:=rfl
 have hl:=hR.len
 have hG:=hin.inG hb
 refine FSpecB_of c48 gridL_bx (by rw [gridL_len]; omega) (Nat.le_refl _) (by decide) (by decide) fun C hP hN hC hat hL => ?_
 rw [init_env',ownW_grid (by omega)]
 simp only [ir48,updL,Nat.reduceAdd]
 rw [gridL_len] at hat
 (repeat ((first | refine Va ?_ | refine Vb ?_ | refine Vc ?_ | refine Vd ?_ | refine Ve ?_ | refine Vf ?_); (try simp only [go_sem,hP,lineV,List.length_map]); (repeat refine qJ ?_)))
 refine WV_loopS (fun k:Nat => ⟨upd (upd (upd (upd (upd e0 6 (.c (lineV bs ps))) 7 (iv ps.length)) 8 (iv k)) 2 (iv (lostL (gv R) (ps.take k)).length)) 3 (iv (-(sumL (gv R) (ps.take k)))),gown bcd 1 R j o0⟩) (fun k => k ≤ ps.length) (fun k => ps.length - k) 0 (Nat.zero_le _) ?_ ?_
 ·exact Sub_of (by ((repeat' (first | exact EnvLe_e0 _ _ | refine EnvLe_upd ?_ ?_)) <;> ((try simp only [upd_app,e0_app,o0_app,Nat.reduceEqDiff,reduceIte]); first | exact AWk.refl _ _ | exact AWk.int (by omega) | exact AWk.int (by rw [w64 (by omega) (by omega)]; omega) | exact AWk.grow rfl | exact AWk.nil _ | exact AWk.of (by simp [sumL,lostL])))) (ObLe_gown (by exact ObjLe_au))
 ·intro k hk
  (repeat ((first | refine Va ?_ | refine Vb ?_ | refine Vc ?_ | refine Vd ?_ | refine Ve ?_ | refine Vf ?_); (try simp only [go_sem,hP]); (repeat refine qJ ?_)))
  (refine WV_cond rfl (fun h => ?_) (fun h => ?_))
  ·have hk2:k < ps.length:=by simpa using h
   have hw2:=w64 (n:=(k:Int) + 1) (by omega) (by omega)
   obtain ⟨i1,i2⟩:=hin _ (List.getElem_mem hk2)
   obtain ⟨hp1,hp2⟩:=hat ((ps[k]).1 + 1) (by omega)
   rw [show 1000 + ((ps[k]).1 + 1) = (ps[k]).1 + 1001 from by omega] at hp1 hp2
   have hs0:=sumL_ok (g:=gv R) (l:=ps.take k) fun m hm => hG m (List.mem_of_mem_take hm)
   have htl:(ps.take k).length ≤ 100:=by rw [List.length_take]; omega
   have hll:(lostL (gv R) (ps.take k)).length ≤ 100:=Nat.le_trans (List.length_filter_le _ _) htl
   have hva:valAt (gv R) ps[k] = vq (R[(ps[k]).1]).l[(ps[k]).2]:=gv_at i1 i2
   have hbo:=hb _ i1 _ i2
   have hsn:=sumL_snoc (gv R) (ps.take k) ps[k]
   have hln:=lostL_snoc (gv R) (ps.take k) ps[k]
   rw [← List.take_succ_eq_append_getElem hk2,hva] at hsn hln
   have hrg:=vq_rng hbo
   (refine WV_skip ?_; simp only [go_sem])
   refine WV_seq_ (WV_block (WV_seq_ ?_))
   (refine WV_op ?_; simp only [go_sem,hP,lineV,map_getD hk2,ptrB,List.length_map,Int.toNat_natCast,Int.ofNat_lt,hk2,Int.natCast_nonneg]; (repeat refine qJ ?_))
   refine WV_unraw ((ps[k]).1 + 1001) (ps[k]).2 (bs ((ps[k]).1 + 1)) 5 hp1 hp2 rfl ?_
   simp only [go_sem]
   generalize hcb:(R[(ps[k]).1]).l[(ps[k]).2] = b at hsn hln hrg hbo
   (repeat ((first | refine Va ?_ | refine Vb ?_ | refine Vc ?_ | refine Vd ?_ | refine Ve ?_ | refine Vf ?_); (try simp only [go_sem,hP,gown_row i1,Row.ob_box,bcell i2,bcell_lt i2,hcb,beq63]); (repeat refine qJ ?_)))
   (refine WV_cond rfl (fun h => ?_) (fun h => ?_))
   ·have hv:vq b = -1:=(vq_lost hbo).2 (by simpa using h)
    rw [if_pos hv] at hsn hln
    have hw3:=w64 (n:=((lostL (gv R) (ps.take k)).length:Int) + 1) (by omega) (by omega)
    (repeat ((first | refine Va ?_ | refine Vb ?_ | refine Vc ?_ | refine Vd ?_ | refine Ve ?_ | refine Vf ?_); (try simp only [go_sem,hP,hw2,hw3]); (repeat refine qJ ?_)))
    refine ⟨k + 1,by omega,by omega,?_⟩
    rw [hsn,hln,List.length_append,Int.add_zero]
    exact Sub_of (by exact EnvLe_au) (ObLe_gown (by exact ObjLe_au))
   ·have hv:¬ vq b = -1:=fun hc => by rw [vq_lost hbo] at hc; simp [hc] at h
    have hvb:valB b = vq b:=by unfold vq; rw [if_neg (by simpa using h)]
    rw [if_neg hv] at hsn hln
    (repeat ((first | refine Va ?_ | refine Vb ?_ | refine Vc ?_ | refine Vd ?_ | refine Ve ?_ | refine Vf ?_); (try simp only [go_sem,hP,gown_row i1,Row.ob_box,bcell i2,bcell_lt i2,hcb]); (repeat refine qJ ?_)))
    (refine AS_pu (value79 b) ?_; simp only [go_sem,hP]; (repeat refine qJ ?_); (repeat ((first | refine Va ?_ | refine Vb ?_ | refine Vc ?_ | refine Vd ?_ | refine Ve ?_ | refine Vf ?_); (try simp only [go_sem,hP]); (repeat refine qJ ?_))))
    have hw3:=w64 (n:=-(sumL (gv R) (ps.take k)) - valB b) (by omega) (by omega)
    (repeat ((first | refine Va ?_ | refine Vb ?_ | refine Vc ?_ | refine Vd ?_ | refine Ve ?_ | refine Vf ?_); (try simp only [go_sem,hP,hw2,hw3]); (repeat refine qJ ?_)))
    refine ⟨k + 1,by omega,by omega,?_⟩
    rw [hsn,hln,List.append_nil,hvb,Int.neg_add]
    exact Sub_of (by ((repeat' (first | exact EnvLe_e0 _ _ | refine EnvLe_upd ?_ ?_)) <;> ((try simp only [upd_app,e0_app,o0_app,Nat.reduceEqDiff,reduceIte]); first | exact AWk.refl _ _ | exact AWk.int (by omega) | exact AWk.int (by rw [w64 (by omega) (by omega)]; omega) | exact AWk.grow rfl | exact AWk.nil _ | exact AWk.of (by simp [Int.sub_eq_add_neg])))) (ObLe_gown (by exact ObjLe_au))
  ·have h:k = ps.length:=by simp at h; omega
   subst h
   have hs0:=sumL_ok hG
   rw [List.take_length]
   have e:=lack_tmod hs0.1
   have hr1:-93 ≤ (-sumL (gv R) ps).tmod 94 ∧ (-sumL (gv R) ps).tmod 94 ≤ 0:=by
    rw [Int.neg_tmod,Int.tmod_eq_emod_of_nonneg hs0.1]; omega
   have hw3:=w64 (n:=(-sumL (gv R) ps).tmod 94 + 94) (by omega) (by omega)
   (repeat ((first | refine Va ?_ | refine Vb ?_ | refine Vc ?_ | refine Vd ?_ | refine Ve ?_ | refine Vf ?_); (try simp only [go_sem,hP,hw3,e]); (repeat refine qJ ?_)))
   (refine WV_ret ?_; simp only [thenQ,inQ,RetQL,RetOkL,resAll,resA]; simp only [go_sem,tupA,AV.keepP,AV.keepPL,gown_lo]; refine ⟨_,gridL bcd 1 R j,rfl,KeepL_grid rfl (by omega),?_⟩)
   exact ⟨rfl,rfl⟩
end Go.Proofs.YtdoidahbimonhaaDoor

namespace Go.Proofs.YtdoidahbimonhaaDoor
open Go Go.V
abbrev o43_0:List Ins:=[⟨some 2,.mv (.k (.c (.bool false))),none,true⟩]
abbrev o43_1:List Ins:=[⟨some 8,.mv (.t 0),none,true⟩,
 ⟨some 9,.call (.k (.fn 48 [])) [(.t 8)],none,true⟩,
 ⟨some 7,.mv (.t 9),none,true⟩,
 ⟨some 10,.ext (.t 7) 0,none,true⟩,
 ⟨some 11,.ext (.t 7) 1,none,true⟩,
 ⟨some 3,.mv (.t 10),none,true⟩,
 ⟨some 4,.mv (.t 11),none,true⟩]
abbrev o43_2:List Ins:=[⟨some 12,.mv (.t 3),none,true⟩,
 ⟨some 13,.bin .neq (.t 12) (.k (.c (.int .i64 1))),none,true⟩]
abbrev o43_3:List Ins:=[⟨some 2,.mv (.k (.c (.bool false))),none,true⟩]
abbrev v43_4:VC:=(.seq (.ops o43_3) .ret)
abbrev v43_5:VC:=(.cond (.t 13) v43_4 .skip)
abbrev o43_6:List Ins:=[⟨some 14,.mv (.t 0),none,true⟩,
 ⟨some 15,.len (.t 14),none,true⟩,
 ⟨some 16,.mv (.k (.c (.int .i64 0))),none,true⟩]
abbrev o43_7:List Ins:=[⟨some 17,.bin .lss (.t 16) (.t 15),none,true⟩]
abbrev o43_8:List Ins:=[⟨some 18,.ia 1 (.t 14) (.t 16),none,true⟩,
 ⟨some 19,.ld true 1 (.t 18),none,true⟩,
 ⟨some 6,.mv (.t 19),none,true⟩]
abbrev o43_9:List Ins:=[⟨some 20,.mv (.t 6),none,true⟩,
 ⟨some 21,.nilc (.t 20),none,true⟩,
 ⟨some 22,.ld true 1 (.t 21),none,true⟩,
 ⟨some 23,.bin .eql (.t 22) (.k (.c (.int .u8 63))),none,true⟩]
abbrev o43_10:List Ins:=[⟨some 24,.mv (.t 6),none,true⟩,
 ⟨some 25,.mv (.t 4),none,true⟩,
 ⟨some 26,.call (.k (.fn 69 [])) [(.t 25)],none,true⟩,
 ⟨some 27,.nilc (.t 24),none,true⟩,
 ⟨none,.st 1 (.t 27) (.t 26),none,true⟩]
abbrev v43_11:VC:=(.cond (.t 23) (.ops o43_10) .skip)
abbrev v43_12:VC:=(.seq (.ops o43_9) v43_11)
abbrev v43_13:VC:=(.seq (.ops o43_8) v43_12)
abbrev o43_14:List Ins:=[⟨some 28,.bin .add (.t 16) (.k (.c (.int .i64 1))),none,true⟩,
 ⟨some 16,.mv (.t 28),none,true⟩]
abbrev v43_15:VC:=(.seq (.block 1 v43_13) (.ops o43_14))
abbrev v43_16:VC:=(.seq (.cond (.t 17) .skip (.exit 0)) v43_15)
abbrev v43_17:VC:=(.seq (.ops o43_7) v43_16)
-- K43_1: changed and kept: [16]
abbrev v43_18:VC:=(.loop v43_17)
abbrev v43_19:VC:=(.block 0 v43_18)
abbrev o43_20:List Ins:=[⟨some 2,.mv (.k (.c (.bool true))),none,true⟩]
abbrev v43_21:VC:=(.seq (.ops o43_20) .ret)
abbrev v43_22:VC:=(.seq (.seq (.ops o43_6) v43_19) v43_21)
abbrev v43_23:VC:=(.seq (.seq (.ops o43_2) v43_5) v43_22)
abbrev v43_24:VC:=(.seq (.ops o43_1) v43_23)
def ir43:FC:=⟨1,29,[.t 2],(.seq (.ops o43_0) v43_24)⟩
theorem c43:compM Tryd.prog [] 43 = some ir43:=by kernel_rfl
attribute [local go_sem] Nat.reduceEqDiff Nat.reduceAdd Nat.reduceMul reduceIte Nat.reduceLeDiff Nat.reduceLT Nat.reduceBEq reduceCtorEq
def putB (R:List BRow) (p:Nat × Nat) (v:UInt8):List BRow:=if h:p.1 < R.length then R.set p.1 ⟨(R[p.1]).l.set p.2 v,(R[p.1]).j,(R[p.1]).cap⟩ else R
theorem putB_eq {R:List BRow} {p:Nat × Nat} (v:UInt8) (h:p.1 < R.length):putB R p v = R.set p.1 ⟨(R[p.1]).l.set p.2 v,(R[p.1]).j,(R[p.1]).cap⟩:=dif_pos h
theorem putB_len (R:List BRow) (p:Nat × Nat) (v:UInt8):(putB R p v).length = R.length:=by unfold putB; split <;> simp
theorem putB_refs (R:List BRow) (p:Nat × Nat) (v:UInt8):refs 1001 1 0 (putB R p v) = refs 1001 1 0 R:=by
 unfold putB
 split
 ·rename_i h
  exact refs_set h _ (by simp) rfl
 ·rfl
theorem putB_row {R:List BRow} {p:Nat × Nat} {v:UInt8} {i:Nat} (h:i < R.length) (h':i < (putB R p v).length):((putB R p v)[i]).l = if i = p.1 then (R[i]).l.set p.2 v else (R[i]).l:=by
 unfold putB
 split
 ·rename_i hp
  simp only [List.getElem_set]
  split
  ·rename_i e; subst e; rw [if_pos rfl]
  ·rename_i e; rw [if_neg (fun h => e h.symm)]
 ·rename_i hp
  rw [if_neg (by omega)]
theorem putB_ok {R:List BRow} {w:Nat} (hR:ROk R w) (p:Nat × Nat) (v:UInt8):ROk (putB R p v) w:=by
 refine ⟨by rw [putB_len]; exact hR.len,hR.wid,fun i h => ?_⟩
 have hi:i < R.length:=by rwa [putB_len] at h
 rw [putB_row hi h]
 split
 ·rw [List.length_set]; exact hR.row i hi
 ·exact hR.row i hi
theorem putB_bytes {R:List BRow} (hb:BRs R) (p:Nat × Nat) {v:UInt8} (hv:BOk v):BRs (putB R p v):=by
 intro i h k hk
 have hi:i < R.length:=by rwa [putB_len] at h
 have e:=putB_row hi h (v:=v) (p:=p)
 have:((putB R p v)[i]).l[k] = (if i = p.1 then (R[i]).l.set p.2 v else (R[i]).l)[k]'(by rw [← e]; exact hk):=by simp only [e]
 rw [this]
 by_cases hip:i = p.1
 ·simp only [hip,if_true,List.getElem_set]
  split
  ·exact hv
  ·simp only [← hip]; exact hb i hi _ _
 ·simp only [hip,if_false]
  exact hb i hi _ _
def setG (g:List (List Int)) (p:Nat × Nat) (v:Int):List (List Int):=g.set p.1 ((g.getD p.1 []).set p.2 v)
theorem putB_gv {R:List BRow} {p:Nat × Nat} {v:UInt8} (h:p.1 < R.length):gv (putB R p v) = setG (gv R) p (vq v):=by
 unfold setG
 rw [gv_row h,putB_eq v h]
 unfold gv
 rw [List.map_set,List.map_set]
theorem gown_put {R:List BRow} {p:Nat × Nat} {v:UInt8} (h:p.1 < R.length) (hk:p.2 < (R[p.1]).l.length) (j:Nat) (o:Nat → Ob):upd (gown bcd 1 R j o) (p.1 + 1001) (.box ((cellsG bcd (R[p.1]).l (R[p.1]).j).set p.2 (u8 v))) = gown bcd 1 (putB R p v) j o:=by
 have:=cellsG_set (cds:=bcd) bcd_one hk (R[p.1]).j 0 (by decide) (.int .u8 v.toNat) v rfl
 rw [Nat.mul_one,Nat.add_zero] at this
 rw [this]
 have e:gridOb 1 (putB R p v) j = gridOb 1 R j:=by unfold gridOb; rw [putB_refs]
 unfold gown
 rw [e,putB_eq v h]
 exact fam_set h ⟨(R[p.1]).l.set p.2 v,(R[p.1]).j,(R[p.1]).cap⟩
theorem sgn_ok {n:Int} (h:0 ≤ n ∧ n < 94):BOk (sgn n) ∧ vq (sgn n) = n:=by
 have h1:=sgn_nat h
 unfold BOk vq valB
 split at h1
 ·refine ⟨by omega,?_⟩
  rw [if_neg (by omega),if_neg (by omega),if_pos (by omega)]; omega
 ·refine ⟨by omega,?_⟩
  rw [if_neg (by omega),if_neg (by omega),if_neg (by omega)]; omega
theorem lack_rng (g:List (List Int)) (l:List (Nat × Nat)):0 ≤ lackL g l ∧ lackL g l < 94:=by unfold lackL; omega
theorem lost_one {g:List (List Int)} {ps:List (Nat × Nat)} (h:(lostL g ps).length = 1):∃ A p B,ps = A ++ p :: B ∧ (∀ q ∈ A,valAt g q ≠ -1) ∧ (∀ q ∈ B,valAt g q ≠ -1) ∧ valAt g p = -1 ∧ lostL g ps = [p]:=by
 induction ps with
 | nil => simp [lostL] at h
 | cons q ps ih =>
  by_cases hq:valAt g q = -1
  ·have e:lostL g (q :: ps) = q :: lostL g ps:=by simp [lostL,hq]
   rw [e] at h
   have h0:lostL g ps = []:=List.eq_nil_of_length_eq_zero (by simpa using h)
   refine ⟨[],q,ps,rfl,by simp,fun r hr hv => ?_,hq,by rw [e,h0]⟩
   have:r ∈ lostL g ps:=by simp [lostL,hr,hv]
   rw [h0] at this; cases this
  ·have e:lostL g (q :: ps) = lostL g ps:=by simp [lostL,hq]
   rw [e] at h
   obtain ⟨A,p,B,rfl,h1,h2,h3,h4⟩:=ih h
   refine ⟨q :: A,p,B,rfl,fun r hr => ?_,h2,h3,by rw [e,h4]⟩
   rcases List.mem_cons.1 hr with rfl | hr
   ·exact hq
   ·exact h1 r hr
theorem getD_setI {α:Type} (l:List α) (i k:Nat) (a d:α):(l.set i a).getD k d = if i = k ∧ i < l.length then a else l.getD k d:=by
 rw [List.getD_eq_getElem?_getD,List.getElem?_set,List.getD_eq_getElem?_getD]
 by_cases h:i = k
 ·subst h
  by_cases h2:i < l.length
  ·simp [h2]
  ·simp [h2]
 ·simp [h]
theorem valAt_set (g:List (List Int)) (p q:Nat × Nat) (v:Int):valAt (setG g p v) q = if p = q ∧ p.1 < g.length ∧ p.2 < (g.getD p.1 []).length then v else valAt g q:=by
 obtain ⟨p1,p2⟩:=p
 obtain ⟨q1,q2⟩:=q
 unfold setG valAt
 simp only [getD_setI,Prod.mk.injEq]
 by_cases h1:p1 = q1
 ·subst h1
  by_cases h2:p1 < g.length
  ·simp only [true_and,h2,if_true,getD_setI]
  ·simp only [true_and,h2,and_false,false_and,if_false]
 ·simp only [h1,false_and,if_false]
def fillR (R:List BRow) (ps:List (Nat × Nat)):List BRow:=if (lostL (gv R) ps).length = 1 then putB R ((lostL (gv R) ps).getD 0 (0,0)) (sgn (lackL (gv R) ps)) else R
set_option maxRecDepth 20000 in
set_option maxHeartbeats 8000000 in
theorem fill53 (bs:Nat → Nat) {R:List BRow} {w:Nat} (hR:ROk R w) (hb:BRs R) {ps:List (Nat × Nat)} (hin:InR R ps) (hpl:ps.length ≤ 100) {j:Nat}:FSpecB Tryd.prog 43 bs [.c (lineV bs ps)] (gridL bcd 1 R j) (fun r l' => r = bv (decide ((lostL (gv R) ps).length = 1)) ∧ l' = gridL bcd 1 (fillR R ps) j):=by
 have hmax:maxLen = 9223372036854775807:=rfl
 have hl:=hR.len
 have hG:=hin.inG hb
 refine FSpecB_of c43 gridL_bx (by rw [gridL_len]; omega) (Nat.le_refl _) (by decide) (by decide) fun C hP hN hC hat hL => ?_
 rw [init_env',ownW_grid (by omega)]
 simp only [ir43,updL,Nat.reduceAdd]
 rw [gridL_len] at hat
 refine WV_seq_ ?_
 (refine WV_op ?_; simp only [go_sem,hP]; (repeat refine qJ ?_))
 refine WV_seq_ ?_
 (refine WV_split 1 ?_; simp only [List.take_succ_cons,List.take_zero,List.take_nil,List.drop_succ_cons,List.drop_zero,List.drop_nil]; simp only [go_sem,hP]; (repeat refine qJ ?_))
 (refine SOps_grid hP (state69 bs hR hb hin hpl) hat rfl rfl rfl (by simp only [List.map_cons,List.map_nil,List.append_nil,List.nil_append,List.cons_append]; simp only [go_sem,AV.lendL,lend_grid,AV.lend]; first | done | rfl) ?_)
 rintro r l' ⟨rfl,rfl⟩
 refine ⟨R,rfl,rfl,rfl,?_⟩
 (refine SOps_ops ?_; simp only [go_sem,hP]; (repeat refine qJ ?_))
 (repeat ((first | refine Va ?_ | refine Vb ?_ | refine Vc ?_ | refine Vd ?_ | refine Ve ?_ | refine Vf ?_); (try simp only [go_sem,hP]); (repeat refine qJ ?_)))
 have hone:((((lostL (gv R) ps).length:Nat):Int) != 1) = !decide ((lostL (gv R) ps).length = 1):=by
  rw [Bool.eq_iff_iff]; simp; omega
 rw [hone]
 by_cases h1:(lostL (gv R) ps).length = 1
 ·rw [decide_eq_true h1]
  obtain ⟨A,p,B,hps,hA,hB,hp,hlo⟩:=lost_one h1
  have hsg:=sgn_ok (lack_rng (gv R) ps)
  have hfR:fillR R ps = putB R p (sgn (lackL (gv R) ps)):=by unfold fillR; rw [if_pos h1,hlo]; rfl
  rw [hfR]
  generalize hv:sgn (lackL (gv R) ps) = v at hsg
  have hpin:∃ h:p.1 < R.length,p.2 < (R[p.1]).l.length:=hin p (by rw [hps]; simp)
  obtain ⟨p1,p2⟩:=hpin
  have hpv:valAt (gv R) p = vq (R[p.1]).l[p.2]:=gv_at p1 p2
  obtain ⟨RR,hRR⟩ : ∃ RR:Nat → List BRow,RR = fun k => if k ≤ A.length then R else putB R p v:=⟨_,rfl⟩
  have hRok:∀ k,ROk (RR k) w:=fun k => by rw [hRR]; simp only; split <;> first | exact hR | exact putB_ok hR p v
  have hRb:∀ k,BRs (RR k):=fun k => by rw [hRR]; simp only; split <;> first | exact hb | exact putB_bytes hb p hsg.1
  have hRl:∀ k,(RR k).length = R.length:=fun k => by rw [hRR]; simp only; split <;> first | rfl | exact putB_len R p v
  have hin2:∀ k q,q ∈ ps → ∃ h:q.1 < (RR k).length,q.2 < ((RR k)[q.1]).l.length:=fun k q hq => by
   obtain ⟨h1,h2⟩:=hin q hq
   have h3:q.1 < (RR k).length:=by rw [hRl]; exact h1
   exact ⟨h3,by rw [(hRok k).row _ h3,← hR.row _ h1]; exact h2⟩
  have fact:∀ k (hk:k < ps.length) (h3:(ps[k]).1 < (RR k).length) (h4:(ps[k]).2 < ((RR k)[(ps[k]).1]).l.length),(((RR k)[(ps[k]).1]).l[(ps[k]).2]).toNat = 63 ↔ k = A.length:=by
   intro k hk h3 h4
   rw [← vq_lost (hRb k _ h3 _ h4),← gv_at h3 h4]
   rcases Nat.lt_trichotomy k A.length with hlt | heq | hgt
   ·have hm:ps[k] ∈ A:=by
     have:ps[k] = A[k]:=by simp only [hps]; exact List.getElem_append_left hlt
     rw [this]; exact List.getElem_mem hlt
    have e:RR k = R:=by rw [hRR]; simp only; rw [if_pos (by omega)]
    rw [e]
    exact ⟨fun hv => (hA _ hm hv).elim,fun hc => by omega⟩
   ·have hm:ps[k] = p:=by
     simp only [hps]; rw [List.getElem_append_right (by omega)]; simp [heq]
    have e:RR k = R:=by rw [hRR]; simp only; rw [if_pos (by omega)]
    rw [e]
    exact ⟨fun _ => heq,fun _ => by rw [show ((ps[k]).1,(ps[k]).2) = ps[k] from rfl,hm]; exact hp⟩
   ·have hm:ps[k] ∈ B:=by
     have:ps[k] = (p :: B)[k - A.length]'(by rw [hps] at hk; simp at hk ⊢; omega):=by simp only [hps]; exact List.getElem_append_right (by omega)
     rw [this]
     obtain ⟨n,hn⟩ : ∃ n,k - A.length = n + 1:=⟨k - A.length - 1,by omega⟩
     simp only [hn,List.getElem_cons_succ]
     exact List.getElem_mem _
    have e:RR k = putB R p v:=by rw [hRR]; simp only; rw [if_neg (by omega)]
    rw [e,putB_gv p1,valAt_set,if_neg (fun hc => hB _ hm (by rw [show ps[k] = ((ps[k]).1,(ps[k]).2) from rfl,← hc.1]; exact hp))]
    exact ⟨fun hv => (hB _ hm hv).elim,fun hc => by omega⟩
  (refine WV_cond rfl (fun h => ?_) (fun h => ?_))
  ·simp at h
  ·(repeat ((first | refine Va ?_ | refine Vb ?_ | refine Vc ?_ | refine Vd ?_ | refine Ve ?_ | refine Vf ?_); (try simp only [go_sem,hP,lineV,List.length_map]); (repeat refine qJ ?_)))
   refine WV_loopS (fun k:Nat => ⟨upd (upd (upd (upd e0 4 (iv (lackL (gv R) ps))) 14 (.c (lineV bs ps))) 15 (iv ps.length)) 16 (iv k),gown bcd 1 (RR k) j o0⟩) (fun k => k ≤ ps.length) (fun k => ps.length - k) 0 (Nat.zero_le _) ?_ ?_
   ·rw [show RR 0 = R by rw [hRR]; simp]
    exact Sub_of (by exact EnvLe_au) (ObLe_gown (by exact ObjLe_au))
   ·intro k hk
    (repeat ((first | refine Va ?_ | refine Vb ?_ | refine Vc ?_ | refine Vd ?_ | refine Ve ?_ | refine Vf ?_); (try simp only [go_sem,hP]); (repeat refine qJ ?_)))
    (refine WV_cond rfl (fun h => ?_) (fun h => ?_))
    ·have hk2:k < ps.length:=by simpa using h
     have hw2:=w64 (n:=(k:Int) + 1) (by omega) (by omega)
     obtain ⟨i1,i2⟩:=hin2 k _ (List.getElem_mem hk2)
     obtain ⟨hp1,hp2⟩:=hat ((ps[k]).1 + 1) (by rw [← hRl k]; omega)
     rw [show 1000 + ((ps[k]).1 + 1) = (ps[k]).1 + 1001 from by omega] at hp1 hp2
     have hf:=fact k hk2 i1 i2
     generalize hcb:((RR k)[(ps[k]).1]).l[(ps[k]).2] = b at hf
     (refine WV_skip ?_; simp only [go_sem])
     refine WV_seq_ (WV_block (WV_seq_ ?_))
     (refine WV_op ?_; simp only [go_sem,hP,lineV,map_getD hk2,ptrB,List.length_map,Int.toNat_natCast,Int.ofNat_lt,hk2,Int.natCast_nonneg]; (repeat refine qJ ?_))
     refine WV_unraw ((ps[k]).1 + 1001) (ps[k]).2 (bs ((ps[k]).1 + 1)) 6 hp1 hp2 rfl ?_
     simp only [go_sem]
     (repeat ((first | refine Va ?_ | refine Vb ?_ | refine Vc ?_ | refine Vd ?_ | refine Ve ?_ | refine Vf ?_); (try simp only [go_sem,hP,gown_row i1,Row.ob_box,bcell i2,bcell_lt i2,hcb,beq63]); (repeat refine qJ ?_)))
     (refine WV_cond rfl (fun h => ?_) (fun h => ?_))
     ·have hkA:k = A.length:=hf.1 (by simpa using h)
      have hpk:ps[k] = p:=by
       simp only [hps]; rw [List.getElem_append_right (by omega)]; simp [hkA]
      have hsg2:=sign82 (lack_rng (gv R) ps)
      rw [hv] at hsg2
      have e0':RR k = R:=by rw [hRR]; simp only; rw [if_pos (by omega)]
      have e1:RR (k + 1) = putB R p v:=by rw [hRR]; simp only; rw [if_neg (by omega)]
      rw [hpk,e0']
      have hcl:=bcell_lt p2 (R[p.1]).j
      (repeat ((first | refine Va ?_ | refine Vb ?_ | refine Vc ?_ | refine Vd ?_ | refine Ve ?_ | refine Vf ?_); (try simp only [go_sem,hP,Row.ob_box]); (repeat refine qJ ?_)))
      (refine AS_pu (hsg2) ?_; simp only [go_sem,hP,gown_row p1,Row.ob_box,bcell_lt p2,gown_put p1 p2]; (repeat refine qJ ?_); (repeat ((first | refine Va ?_ | refine Vb ?_ | refine Vc ?_ | refine Vd ?_ | refine Ve ?_ | refine Vf ?_); (try simp only [go_sem,hP,gown_row p1,Row.ob_box,bcell_lt p2,gown_put p1 p2]); (repeat refine qJ ?_))))
      (repeat ((first | refine Va ?_ | refine Vb ?_ | refine Vc ?_ | refine Vd ?_ | refine Ve ?_ | refine Vf ?_); (try simp only [go_sem,hP,hw2]); (repeat refine qJ ?_)))
      refine ⟨k + 1,by omega,by omega,?_⟩
      rw [e1]
      exact Sub_of (by exact EnvLe_au) (ObLe_gown (by exact ObjLe_au))
     ·have hkA:k ≠ A.length:=fun hc => by rw [hf.2 hc] at h; simp at h
      have e1:RR (k + 1) = RR k:=by
       rw [hRR]; simp only
       by_cases hlt:k < A.length
       ·rw [if_pos (by omega),if_pos (by omega)]
       ·rw [if_neg (by omega),if_neg (by omega)]
      (repeat ((first | refine Va ?_ | refine Vb ?_ | refine Vc ?_ | refine Vd ?_ | refine Ve ?_ | refine Vf ?_); (try simp only [go_sem,hP,hw2]); (repeat refine qJ ?_)))
      refine ⟨k + 1,by omega,by omega,?_⟩
      rw [e1]
      exact Sub_of (by exact EnvLe_au) (ObLe_gown (by exact ObjLe_au))
    ·have h:k = ps.length:=by simp at h; omega
     subst h
     have e1:RR ps.length = putB R p v:=by rw [hRR]; simp only; rw [if_neg (by rw [hps]; simp)]
     rw [e1]
     (repeat ((first | refine Va ?_ | refine Vb ?_ | refine Vc ?_ | refine Vd ?_ | refine Ve ?_ | refine Vf ?_); (try simp only [go_sem,hP]); (repeat refine qJ ?_)))
     (refine WV_ret ?_; simp only [thenQ,inQ,RetQL,RetOkL,resAll,resA]; simp only [go_sem,tupA,AV.keepP,AV.keepPL,gown_lo]; refine ⟨_,gridL bcd 1 (putB R p v) j,rfl,KeepL_grid (putB_len R p v) (by omega),?_⟩)
     exact ⟨rfl,rfl⟩
 ·rw [decide_eq_false h1]
  have hfR:fillR R ps = R:=by unfold fillR; rw [if_neg h1]
  rw [hfR]
  (refine WV_cond rfl (fun h => ?_) (fun h => ?_))
  ·(repeat ((first | refine Va ?_ | refine Vb ?_ | refine Vc ?_ | refine Vd ?_ | refine Ve ?_ | refine Vf ?_); (try simp only [go_sem,hP]); (repeat refine qJ ?_)))
   (refine WV_ret ?_; simp only [thenQ,inQ,RetQL,RetOkL,resAll,resA]; simp only [go_sem,tupA,AV.keepP,AV.keepPL,gown_lo]; refine ⟨_,gridL bcd 1 R j,rfl,KeepL_grid rfl (by omega),?_⟩)
   exact ⟨rfl,rfl⟩
  ·simp at h
end Go.Proofs.YtdoidahbimonhaaDoor

namespace Go.Proofs.YtdoidahbimonhaaDoor
open Go Go.V
abbrev o66_0:List Ins:=[⟨some 4,.mv (.k (.c (.int .i64 0))),none,true⟩]
abbrev o66_1:List Ins:=[⟨some 6,.mv (.t 0),none,true⟩,
 ⟨some 7,.len (.t 6),none,true⟩,
 ⟨some 8,.mv (.k (.c (.int .i64 0))),none,true⟩]
abbrev o66_2:List Ins:=[⟨some 9,.bin .lss (.t 8) (.t 7),none,true⟩]
abbrev o66_3:List Ins:=[⟨some 10,.mv (.t 8),none,true⟩,
 ⟨some 5,.mv (.t 10),none,true⟩]
abbrev o66_4:List Ins:=[⟨some 11,.mv (.t 1),none,true⟩,
 ⟨some 12,.mv (.t 0),none,true⟩,
 ⟨some 13,.mv (.t 5),none,true⟩,
 ⟨some 14,.ia 1 (.t 12) (.t 13),none,true⟩,
 ⟨some 15,.ld true 1 (.t 14),none,true⟩,
 ⟨some 16,.call (.t 11) [(.t 15)],none,true⟩]
abbrev o66_5:List Ins:=[⟨some 17,.mv (.t 5),none,true⟩,
 ⟨some 4,.mv (.t 17),none,true⟩]
abbrev v66_6:VC:=(.seq (.ops o66_5) .ret)
abbrev v66_7:VC:=(.cond (.t 16) v66_6 .skip)
abbrev v66_8:VC:=(.seq (.ops o66_4) v66_7)
abbrev v66_9:VC:=(.seq (.ops o66_3) v66_8)
abbrev o66_10:List Ins:=[⟨some 18,.bin .add (.t 8) (.k (.c (.int .i64 1))),none,true⟩,
 ⟨some 8,.mv (.t 18),none,true⟩]
abbrev v66_11:VC:=(.seq (.block 1 v66_9) (.ops o66_10))
abbrev v66_12:VC:=(.seq (.cond (.t 9) .skip (.exit 0)) v66_11)
abbrev v66_13:VC:=(.seq (.ops o66_2) v66_12)
-- K66_1: changed and kept: [8]
abbrev v66_14:VC:=(.loop v66_13)
abbrev v66_15:VC:=(.block 0 v66_14)
abbrev o66_16:List Ins:=[⟨some 4,.mv (.k (.c (.int .i64 (-1)))),none,true⟩]
abbrev v66_17:VC:=(.seq (.ops o66_16) .ret)
abbrev v66_18:VC:=(.seq (.seq (.ops o66_1) v66_15) v66_17)
def ir66:FC:=⟨2,19,[.t 4],(.seq (.ops o66_0) v66_18)⟩
abbrev o41_0:List Ins:=[⟨some 4,.mv (.k (.c (.bool false))),none,true⟩]
abbrev o41_1:List Ins:=[⟨some 5,.mv (.t 0),none,true⟩,
 ⟨some 6,.mv (.t 1),none,true⟩,
 ⟨some 7,.call (.k (.fn 66 [])) [(.t 5),(.t 6)],none,true⟩,
 ⟨some 8,.bin .geq (.t 7) (.k (.c (.int .i64 0))),none,true⟩,
 ⟨some 4,.mv (.t 8),none,true⟩]
abbrev v41_2:VC:=(.seq (.ops o41_1) .ret)
def ir41:FC:=⟨2,9,[.t 4],(.seq (.ops o41_0) v41_2)⟩
theorem c66:compM Tryd.prog [] 66 = some ir66:=by kernel_rfl
theorem c41:compM Tryd.prog [] 41 = some ir41:=by kernel_rfl
attribute [local go_sem] Nat.reduceEqDiff Nat.reduceAdd Nat.reduceMul reduceIte Nat.reduceLeDiff Nat.reduceLT Nat.reduceBEq reduceCtorEq
def oneL (g:List (List Int)) (l:List (Nat × Nat)):Bool:=(lostL g l).length == 1
structure LOk (R:List BRow) (LL:List (List (Nat × Nat))):Prop where
 inr:∀ l ∈ LL,InR R l
 len:∀ l ∈ LL,l.length ≤ 100
 many:LL.length ≤ 1000
theorem oneL_dec (g:List (List Int)) (l:List (Nat × Nat)):decide ((lostL g l).length = 1) = oneL g l:=by unfold oneL; rw [Bool.eq_iff_iff]; simp
def idxL (g:List (List Int)) (LL:List (List (Nat × Nat))):Int:=match LL.findIdx? (oneL g) with | some i => i | none => -1
def fillA (R:List BRow) (LL:List (List (Nat × Nat))):List BRow:=match LL.find? (oneL (gv R)) with | some l => fillR R l | none => R
theorem fillR_not {R:List BRow} {l:List (Nat × Nat)} (h:oneL (gv R) l = false):fillR R l = R:=by
 unfold fillR; rw [if_neg]; intro hc; unfold oneL at h; rw [hc] at h; simp at h
theorem fillR_len (R:List BRow) (l:List (Nat × Nat)):(fillR R l).length = R.length:=by unfold fillR; split <;> first | exact putB_len _ _ _ | rfl
theorem fillA_len (R:List BRow) (LL:List (List (Nat × Nat))):(fillA R LL).length = R.length:=by unfold fillA; split <;> first | exact fillR_len _ _ | rfl
set_option maxRecDepth 20000 in
set_option maxHeartbeats 8000000 in
theorem index99 (bs:Nat → Nat) {R:List BRow} {w:Nat} (hR:ROk R w) (hb:BRs R) {LL:List (List (Nat × Nat))} (hL0:LOk R LL) {j:Nat}:FSpecB Tryd.prog 66 bs [.c (linesV bs LL),.fn 43 []] (gridL bcd 1 R j) (fun r l' => r = iv (idxL (gv R) LL) ∧ l' = gridL bcd 1 (fillA R LL) j):=by
 have hmax:maxLen = 9223372036854775807:=rfl
 have hl:=hR.len
 have hmany:=hL0.many
 refine FSpecB_of c66 gridL_bx (by rw [gridL_len]; omega) (Nat.le_refl _) (by decide) (by decide) fun C hP hN hC hat hL => ?_
 rw [init_env',ownW_grid (by omega)]
 simp only [ir66,updL,Nat.reduceAdd]
 rw [gridL_len] at hat
 (repeat ((first | refine Va ?_ | refine Vb ?_ | refine Vc ?_ | refine Vd ?_ | refine Ve ?_ | refine Vf ?_); (try simp only [go_sem,hP,linesV,List.length_map]); (repeat refine qJ ?_)))
 refine WV_loopS (fun k:Nat => ⟨upd (upd (upd (upd e0 0 (.c (linesV bs LL))) 1 (.fn 43 [])) 7 (iv LL.length)) 8 (iv k),gown bcd 1 R j o0⟩) (fun k => k ≤ LL.length ∧ ∀ i (h:i < LL.length),i < k → oneL (gv R) LL[i] = false) (fun k => LL.length - k) 0 ⟨Nat.zero_le _,fun _ _ h => by omega⟩ ?_ ?_
 ·exact Sub_of (by exact EnvLe_au) (ObLe_gown (by exact ObjLe_au))
 ·intro k ⟨hk,hbef⟩
  (repeat ((first | refine Va ?_ | refine Vb ?_ | refine Vc ?_ | refine Vd ?_ | refine Ve ?_ | refine Vf ?_); (try simp only [go_sem,hP]); (repeat refine qJ ?_)))
  (refine WV_cond rfl (fun h => ?_) (fun h => ?_))
  ·have hk2:k < LL.length:=by simpa using h
   have hw2:=w64 (n:=(k:Int) + 1) (by omega) (by omega)
   have hm:=List.getElem_mem hk2
   have hfi:=fill53 bs hR hb (hL0.inr _ hm) (hL0.len _ hm) (j:=j)
   rw [oneL_dec] at hfi
   (refine WV_skip ?_; simp only [go_sem])
   refine WV_seq_ (WV_block (WV_seq_ ?_))
   (refine WV_op ?_; simp only [go_sem,hP]; (repeat refine qJ ?_))
   refine WV_seq_ ?_
   (refine WV_split 5 ?_; simp only [List.take_succ_cons,List.take_zero,List.take_nil,List.drop_succ_cons,List.drop_zero,List.drop_nil]; simp only [go_sem,hP,linesV,map_getD hk2,List.length_map,Int.toNat_natCast,Int.ofNat_lt,hk2,Int.natCast_nonneg]; (repeat refine qJ ?_))
   (refine SOps_grid hP (hfi) hat rfl rfl rfl (by simp only [List.map_cons,List.map_nil,List.append_nil,List.nil_append,List.cons_append]; simp only [go_sem,AV.lendL,lend_grid,AV.lend]; first | done | rfl) ?_)
   rintro r l' ⟨rfl,rfl⟩
   refine ⟨fillR R LL[k],fillR_len _ _,rfl,rfl,?_⟩
   (refine SOps_ops ?_; simp only [go_sem,hP]; (repeat refine qJ ?_))
   (refine WV_cond rfl (fun h => ?_) (fun h => ?_))
   ·have e1:LL.findIdx? (oneL (gv R)) = some k:=by
     rw [List.findIdx?_eq_some_iff_getElem]
     exact ⟨hk2,h,fun i hi => by simp [hbef i (by omega) hi]⟩
    have e2:LL.find? (oneL (gv R)) = some LL[k]:=by
     rw [List.find?_eq_some_iff_getElem]
     exact ⟨h,k,hk2,rfl,fun i hi => by simp [hbef i (by omega) hi]⟩
    have e3:idxL (gv R) LL = k:=by unfold idxL; rw [e1]
    have e4:fillA R LL = fillR R LL[k]:=by unfold fillA; rw [e2]
    rw [e3,e4]
    (repeat ((first | refine Va ?_ | refine Vb ?_ | refine Vc ?_ | refine Vd ?_ | refine Ve ?_ | refine Vf ?_); (try simp only [go_sem,hP]); (repeat refine qJ ?_)))
    (refine WV_ret ?_; simp only [thenQ,inQ,RetQL,RetOkL,resAll,resA]; simp only [go_sem,tupA,AV.keepP,AV.keepPL,gown_lo]; refine ⟨_,gridL bcd 1 (fillR R LL[k]) j,rfl,KeepL_grid (fillR_len R LL[k]) (by omega),?_⟩)
    exact ⟨rfl,rfl⟩
   ·rw [fillR_not h]
    (repeat ((first | refine Va ?_ | refine Vb ?_ | refine Vc ?_ | refine Vd ?_ | refine Ve ?_ | refine Vf ?_); (try simp only [go_sem,hP,hw2]); (repeat refine qJ ?_)))
    refine ⟨k + 1,⟨by omega,fun i hi hik => ?_⟩,by omega,?_⟩
    ·rcases Nat.lt_or_ge i k with h1 | h1
     ·exact hbef i hi h1
     ·have:i = k:=by omega
      subst this
      exact h
    ·exact Sub_of (by ((repeat' (first | exact EnvLe_e0 _ _ | refine EnvLe_upd ?_ ?_)) <;> ((try simp only [upd_app,e0_app,o0_app,Nat.reduceEqDiff,reduceIte]); first | exact AWk.refl _ _ | exact AWk.int (by omega) | exact AWk.int (by rw [w64 (by omega) (by omega)]; omega) | exact AWk.grow rfl | exact AWk.nil _ | exact AWk.of (by simp [linesV])))) (ObLe_gown (by exact ObjLe_au))
  ·have h:k = LL.length:=by simp at h; omega
   subst h
   have hall:∀ l ∈ LL,oneL (gv R) l = false:=fun l hl => by
    obtain ⟨i,hi,rfl⟩:=List.getElem_of_mem hl
    exact hbef i hi hi
   have e3:idxL (gv R) LL = -1:=by
    unfold idxL
    rw [List.findIdx?_eq_none_iff.2 hall]
   have e4:fillA R LL = R:=by
    unfold fillA
    rw [List.find?_eq_none.2 fun l hl => by simp [hall l hl]]
   rw [e3,e4]
   (repeat ((first | refine Va ?_ | refine Vb ?_ | refine Vc ?_ | refine Vd ?_ | refine Ve ?_ | refine Vf ?_); (try simp only [go_sem,hP]); (repeat refine qJ ?_)))
   (refine WV_ret ?_; simp only [thenQ,inQ,RetQL,RetOkL,resAll,resA]; simp only [go_sem,tupA,AV.keepP,AV.keepPL,gown_lo]; refine ⟨_,gridL bcd 1 R j,rfl,KeepL_grid rfl (by omega),?_⟩)
   exact ⟨rfl,rfl⟩
theorem idxL_ge (g:List (List Int)) (LL:List (List (Nat × Nat))):decide (idxL g LL ≥ 0) = (LL.find? (oneL g)).isSome:=by
 unfold idxL
 cases h:LL.findIdx? (oneL g) with
 | none =>
  rw [List.findIdx?_eq_none_iff] at h
  rw [List.find?_eq_none.2 fun l hl => by simp [h l hl]]
  rfl
 | some i =>
  obtain ⟨hi,h1,_⟩:=List.findIdx?_eq_some_iff_getElem.1 h
  have:(LL.find? (oneL g)).isSome = true:=by rw [List.find?_isSome]; exact ⟨_,List.getElem_mem hi,h1⟩
  rw [this]; simp
set_option maxRecDepth 20000 in
set_option maxHeartbeats 8000000 in
theorem contains85 (bs:Nat → Nat) {R:List BRow} {w:Nat} (hR:ROk R w) (hb:BRs R) {LL:List (List (Nat × Nat))} (hL0:LOk R LL) {j:Nat}:FSpecB Tryd.prog 41 bs [.c (linesV bs LL),.fn 43 []] (gridL bcd 1 R j) (fun r l' => r = bv (LL.find? (oneL (gv R))).isSome ∧ l' = gridL bcd 1 (fillA R LL) j):=by
 have hmax:maxLen = 9223372036854775807:=rfl
 have hl:=hR.len
 refine FSpecB_of c41 gridL_bx (by rw [gridL_len]; omega) (Nat.le_refl _) (by decide) (by decide) fun C hP hN hC hat hL => ?_
 rw [init_env',ownW_grid (by omega)]
 simp only [ir41,updL,Nat.reduceAdd]
 rw [gridL_len] at hat
 refine WV_seq_ ?_
 (refine WV_op ?_; simp only [go_sem,hP]; (repeat refine qJ ?_))
 refine WV_seq_ ?_
 (refine WV_split 2 ?_; simp only [List.take_succ_cons,List.take_zero,List.take_nil,List.drop_succ_cons,List.drop_zero,List.drop_nil]; simp only [go_sem,hP]; (repeat refine qJ ?_))
 (refine SOps_grid hP (index99 bs hR hb hL0) hat rfl rfl rfl (by simp only [List.map_cons,List.map_nil,List.append_nil,List.nil_append,List.cons_append]; simp only [go_sem,AV.lendL,lend_grid,AV.lend]; first | done | rfl) ?_)
 rintro r l' ⟨rfl,rfl⟩
 refine ⟨_,fillA_len _ _,rfl,rfl,?_⟩
 (refine SOps_ops ?_; simp only [go_sem,hP,idxL_ge]; (repeat refine qJ ?_))
 (refine WV_ret ?_; simp only [thenQ,inQ,RetQL,RetOkL,resAll,resA]; simp only [go_sem,tupA,AV.keepP,AV.keepPL,gown_lo]; refine ⟨_,gridL bcd 1 (fillA R LL) j,rfl,KeepL_grid (fillA_len R LL) (by omega),?_⟩)
 exact ⟨rfl,rfl⟩
end Go.Proofs.YtdoidahbimonhaaDoor

namespace Go.Proofs.YtdoidahbimonhaaDoor
open Go Go.V
abbrev o23_0:List Ins:=[⟨some 2,.mv (.t 0),none,true⟩,
 ⟨some 3,.call (.k (.fn 42 [])) [(.t 2)],none,true⟩,
 ⟨some 4,.call (.k (.fn 41 [])) [(.t 3),(.k (.fn 43 []))],none,true⟩]
abbrev v23_1:VC:=(.cond (.t 4) .skip (.exit 0))
abbrev v23_2:VC:=(.block 1 .skip)
abbrev v23_3:VC:=(.seq (.seq (.ops o23_0) v23_1) v23_2)
-- K23_1: changed and kept: []
abbrev v23_4:VC:=(.loop v23_3)
def ir23:FC:=⟨1,5,[],(.block 0 v23_4)⟩
theorem c23:compM Tryd.prog [] 23 = some ir23:=by kernel_rfl
attribute [local go_sem] Nat.reduceEqDiff Nat.reduceAdd Nat.reduceMul reduceIte Nat.reduceLeDiff Nat.reduceLT Nat.reduceBEq reduceCtorEq
def nlost (g:List (List Int)):Nat:=(g.map fun r => r.count (-1)).sum
theorem sum_set:∀ (l:List Nat) (i a:Nat) (h:i < l.length),(l.set i a).sum + l[i] = l.sum + a
 | x :: l,0,a,_ => by simp; omega
 | x :: l,i + 1,a,h => by
  have:=sum_set l i a (by simpa using h)
  simp only [List.set_cons_succ,List.sum_cons,List.getElem_cons_succ]; omega
theorem count_set:∀ (r:List Int) (k:Nat) (v:Int) (h:k < r.length),r[k] = -1 → v ≠ -1 → (r.set k v).count (-1) + 1 = r.count (-1)
 | x :: r,0,v,_,hx,hv => by
  simp at hx; subst hx
  simp [List.count_cons,hv]
 | x :: r,k + 1,v,h,hx,hv => by
  have:=count_set r k v (by simpa using h) (by simpa using hx) hv
  simp only [List.set_cons_succ,List.count_cons]; omega
theorem nlost_set {g:List (List Int)} {p:Nat × Nat} {v:Int} (h:inG g p) (hp:valAt g p = -1) (hv:v ≠ -1):nlost (setG g p v) + 1 = nlost g:=by
 obtain ⟨h1,h2,_⟩:=h
 have hgr:g.getD p.1 [] = g[p.1]:=by rw [List.getD_eq_getElem?_getD,List.getElem?_eq_getElem h1]; rfl
 unfold nlost setG
 rw [List.map_set]
 have hm:p.1 < (g.map fun r => r.count (-1)).length:=by simpa using h1
 have e:=sum_set _ p.1 (((g.getD p.1 []).set p.2 v).count (-1)) hm
 rw [hgr] at h2 e ⊢
 have hval:(g[p.1])[p.2] = -1:=by
  unfold valAt at hp
  rw [hgr,List.getD_eq_getElem?_getD,List.getElem?_eq_getElem h2] at hp
  exact hp
 have e2:=count_set (g[p.1]) p.2 v h2 hval hv
 simp only [List.getElem_map] at e
 omega
def stepG (n w:Nat) (g:List (List Int)):Option (List (List Int)):=match (allP n w).find? (oneL g) with
 | some l => some (setG g ((lostL g l).getD 0 (0,0)) (lackL g l))
 | none => none
def restN (n w:Nat):Nat → List (List Int) → List (List Int)
 | 0,g => g
 | k + 1,g => match stepG n w g with | some g' => restN n w k g' | none => g
def restG (n w:Nat) (g:List (List Int)):List (List Int):=restN n w (nlost g) g
structure GOw (n w:Nat) (g:List (List Int)):Prop where
 len:g.length = n
 row:∀ i,i < n → (g.getD i []).length = w
 val:∀ i k,i < n → k < w → -1 ≤ valAt g (i,k) ∧ valAt g (i,k) < 94
theorem GOw.inG {n w:Nat} {g:List (List Int)} (h:GOw n w g) {p:Nat × Nat} (h1:p.1 < n) (h2:p.2 < w):inG g p:=⟨by rw [h.len]; exact h1,by rw [h.row _ h1]; exact h2,h.val _ _ h1 h2⟩
theorem allP_in {n w:Nat} {l:List (Nat × Nat)} (h:l ∈ allP n w):∀ p ∈ l,p.1 < n ∧ p.2 < w:=by
 intro p hp
 simp only [allP,List.mem_append,List.mem_map,List.mem_range] at h
 rcases h with ⟨i,hi,rfl⟩ | ⟨k,hk,rfl⟩
 ·simp only [posL,if_true,List.mem_map,List.mem_range] at hp
  obtain ⟨k,hk,rfl⟩:=hp
  exact ⟨hi,hk⟩
 ·simp only [posL,Bool.false_eq_true,if_false,List.mem_map,List.mem_range] at hp
  obtain ⟨i,hi,rfl⟩:=hp
  exact ⟨hi,hk⟩
theorem setG_len (g:List (List Int)) (p:Nat × Nat) (v:Int):(setG g p v).length = g.length:=by simp [setG]
theorem setG_row (g:List (List Int)) (p:Nat × Nat) (v:Int) (i:Nat):((setG g p v).getD i []).length = (g.getD i []).length:=by
 unfold setG
 rw [getD_setI]
 split
 ·rename_i h; rw [List.length_set,h.1]
 ·rfl
theorem setG_ok {n w:Nat} {g:List (List Int)} (h:GOw n w g) (p:Nat × Nat) {v:Int} (hv:-1 ≤ v ∧ v < 94):GOw n w (setG g p v):=by
 refine ⟨by rw [setG_len]; exact h.len,fun i hi => by rw [setG_row]; exact h.row i hi,fun i k hi hk => ?_⟩
 rw [valAt_set]
 split
 ·exact hv
 ·exact h.val i k hi hk
theorem stepG_some {n w:Nat} {g g':List (List Int)} (h:GOw n w g) (hs:stepG n w g = some g'):∃ l p,l ∈ allP n w ∧ (allP n w).find? (oneL g) = some l ∧ lostL g l = [p] ∧ p ∈ l ∧ valAt g p = -1 ∧ g' = setG g p (lackL g l) ∧ GOw n w g' ∧ nlost g' + 1 = nlost g:=by
 unfold stepG at hs
 split at hs
 ·rename_i l hl
  simp only [Option.some.injEq] at hs
  subst hs
  have hm:=List.mem_of_find?_eq_some hl
  have h1:=List.find?_some hl
  obtain ⟨A,p,B,e,_,_,hp,hlo⟩:=lost_one (g:=g) (ps:=l) (by simpa [oneL] using h1)
  have hpl:p ∈ l:=by rw [e]; simp
  have hlr:=lack_rng g l
  rw [hlo]
  have hin:=allP_in hm p hpl
  exact ⟨l,p,hm,hl,hlo,hpl,hp,rfl,setG_ok h p (by omega),nlost_set (h.inG hin.1 hin.2) hp (show lackL g l ≠ -1 by omega)⟩
 ·cases hs
theorem restG_step {n w:Nat} {g g':List (List Int)} (h:GOw n w g) (hs:stepG n w g = some g'):restG n w g = restG n w g':=by
 obtain ⟨_,_,_,_,_,_,_,_,_,hn⟩:=stepG_some h hs
 unfold restG
 rw [← hn]
 simp only [restN,hs]
theorem restG_end {n w:Nat} {g:List (List Int)} (hs:stepG n w g = none):restG n w g = g:=by
 unfold restG
 cases nlost g with
 | zero => rfl
 | succ k => simp only [restN,hs]
theorem ROk.gow {R:List BRow} {w:Nat} (hR:ROk R w) (hb:BRs R):GOw R.length w (gv R):=by
 refine ⟨gv_len R,fun i hi => by rw [gv_row hi,List.length_map,hR.row i hi],fun i k hi hk => ?_⟩
 have hk':k < (R[i]).l.length:=by rw [hR.row i hi]; exact hk
 rw [gv_at hi hk']
 exact vq_rng (hb i hi k hk')
theorem LOk_all {R:List BRow} {w:Nat} (hR:ROk R w):LOk R (allP R.length w):=by
 have h1:=hR.len
 have h2:=hR.wid
 refine ⟨fun l hl => ?_,fun l hl => ?_,by simp [allP]; omega⟩
 ·intro p hp
  obtain ⟨k1,k2⟩:=allP_in hl p hp
  exact ⟨k1,by rw [hR.row _ k1]; exact k2⟩
 ·simp only [allP,List.mem_append,List.mem_map,List.mem_range] at hl
  rcases hl with ⟨i,hi,rfl⟩ | ⟨k,hk,rfl⟩
  ·simp [posL]; omega
  ·simp [posL]; omega
theorem fillA_gv {R:List BRow} {w:Nat} (hR:ROk R w) (hb:BRs R):(match stepG R.length w (gv R) with | some g' => gv (fillA R (allP R.length w)) = g' | none => True) ∧ ((allP R.length w).find? (oneL (gv R))).isSome = (stepG R.length w (gv R)).isSome ∧ ROk (fillA R (allP R.length w)) w ∧ BRs (fillA R (allP R.length w)):=by
 unfold stepG fillA
 cases hf:(allP R.length w).find? (oneL (gv R)) with
 | none => exact ⟨trivial,rfl,hR,hb⟩
 | some l =>
  have hm:=List.mem_of_find?_eq_some hf
  have h1:=List.find?_some hf
  have h2:(lostL (gv R) l).length = 1:=by simpa [oneL] using h1
  obtain ⟨A,p,B,e,_,_,hp,hlo⟩:=lost_one h2
  have hin:=allP_in hm p (by rw [e]; simp)
  have hsg:=sgn_ok (lack_rng (gv R) l)
  simp only [fillR,h2,if_true,hlo]
  refine ⟨?_,rfl,putB_ok hR _ _,putB_bytes hb _ hsg.1⟩
  show gv (putB R p _) = setG (gv R) p _
  rw [putB_gv hin.1,hsg.2]
set_option maxRecDepth 20000 in
set_option maxHeartbeats 8000000 in
theorem restore56B (bs:Nat → Nat) {R:List BRow} {w:Nat} (hR:ROk R w) (hb:BRs R) (hn:0 < R.length) {j gcap:Nat}:FSpecB Tryd.prog 23 bs [.vw 1 1000 0 R.length gcap] (gridL bcd 1 R j) (fun r l' => r = .tup [] ∧ ∃ R',R'.length = R.length ∧ ROk R' w ∧ BRs R' ∧ refs 1001 1 0 R' = refs 1001 1 0 R ∧ gv R' = restG R.length w (gv R) ∧ l' = gridL bcd 1 R' j):=by
 have hmax:maxLen = 9223372036854775807:=rfl
 have hl:=hR.len
 refine FSpecB_of c23 gridL_bx (by rw [gridL_len]; omega) (Nat.le_refl _) (by decide) (by decide) fun C hP hN hC hat hL => ?_
 rw [init_env',ownW_grid (by omega)]
 simp only [ir23,updL,Nat.reduceAdd]
 rw [gridL_len] at hat
 (repeat ((first | refine Va ?_ | refine Vb ?_ | refine Vc ?_ | refine Vd ?_ | refine Ve ?_ | refine Vf ?_); (try simp only [go_sem,hP]); (repeat refine qJ ?_)))
 refine WV_loopS (fun S:List BRow => ⟨upd e0 0 (.vw 1 1000 0 R.length gcap),gown bcd 1 S j o0⟩) (fun S => S.length = R.length ∧ ROk S w ∧ BRs S ∧ refs 1001 1 0 S = refs 1001 1 0 R ∧ restG R.length w (gv S) = restG R.length w (gv R)) (fun S => nlost (gv S)) R ⟨rfl,hR,hb,rfl,rfl⟩ ?_ ?_
 ·exact Sub_of (by exact EnvLe_au) (ObLe_gown (by exact ObjLe_au))
 ·intro S ⟨s1,s2,s3,s4,s5⟩
  have hat':AtP C bs (S.length + 1):=by rw [s1]; exact hat
  have hfg:=fillA_gv s2 s3
  have hgow:=s2.gow s3
  have hlin:=lines50 bs s2 (by omega) (j:=j) (gcap:=gcap)
  rw [s1] at hlin hfg hgow
  have hcon:=contains85 bs s2 s3 (LOk_all s2) (j:=j)
  rw [s1] at hcon
  replace hat:=hat'
  refine WV_seq_ (WV_seq_ ?_)
  (refine WV_split 1 ?_; simp only [List.take_succ_cons,List.take_zero,List.take_nil,List.drop_succ_cons,List.drop_zero,List.drop_nil]; simp only [go_sem,hP]; (repeat refine qJ ?_))
  (refine SOps_grid hP (hlin) hat rfl rfl rfl (by simp only [List.map_cons,List.map_nil,List.append_nil,List.nil_append,List.cons_append]; simp only [go_sem,AV.lendL,lend_grid,AV.lend]; first | done | rfl) ?_)
  rintro r l' ⟨rfl,rfl⟩
  refine ⟨S,rfl,rfl,rfl,?_⟩
  simp only [go_sem]
  (refine SOps_grid hP (hcon) hat rfl rfl rfl (by simp only [List.map_cons,List.map_nil,List.append_nil,List.nil_append,List.cons_append]; simp only [go_sem,AV.lendL,lend_grid,AV.lend]; first | done | rfl) ?_)
  rintro r l' ⟨rfl,rfl⟩
  refine ⟨_,fillA_len _ _,rfl,rfl,?_⟩
  refine SOps_nil ?_
  simp only [go_sem]
  rw [hfg.2.1]
  cases hst:stepG R.length w (gv S) with
  | some g' =>
   have hfg1:=hfg.1
   rw [hst] at hfg1
   simp only at hfg1
   obtain ⟨_,_,_,_,_,_,_,_,_,hnl⟩:=stepG_some hgow hst
   (refine WV_cond rfl (fun h => ?_) (fun h => ?_))
   ·(repeat ((first | refine Va ?_ | refine Vb ?_ | refine Vc ?_ | refine Vd ?_ | refine Ve ?_ | refine Vf ?_); (try simp only [go_sem,hP]); (repeat refine qJ ?_)))
    refine ⟨fillA S (allP R.length w),⟨(fillA_len _ _).trans s1,hfg.2.2.1,hfg.2.2.2,?_,?_⟩,?_,?_⟩
    ·rw [← s4]
     unfold fillA fillR
     split <;> (try split) <;> first | exact putB_refs _ _ _ | rfl
    ·rw [hfg1,← s5,restG_step hgow hst]
    ·rw [hfg1]; omega
    ·exact Sub_of (by exact EnvLe_au) (ObLe_gown (by exact ObjLe_au))
   ·simp at h
  | none =>
   have hfn:(allP R.length w).find? (oneL (gv S)) = none:=by
    have:=hfg.2.1
    rw [hst] at this
    simpa using this
   have e4:fillA S (allP R.length w) = S:=by unfold fillA; rw [hfn]
   rw [e4]
   (refine WV_cond rfl (fun h => ?_) (fun h => ?_))
   ·simp at h
   ·refine WV_exit ?_
    simp only [thenQ,inQ,RetQL,RetOkL,resAll,resA,reduceIte,beq_self_eq_true]
    simp only [go_sem,tupA,AV.keepP,AV.keepPL,gown_lo]
    refine ⟨_,gridL bcd 1 S j,rfl,KeepL_grid s1 (by omega),rfl,S,s1,s2,s3,s4,?_,rfl⟩
    rw [← s5,restG_end hst]
end Go.Proofs.YtdoidahbimonhaaDoor

namespace Go.Proofs.YtdoidahbimonhaaDoor
open Go Go.V
abbrev o92_0:List Ins:=[⟨some 4,.mv (.k (.c (.int .i64 0))),none,true⟩]
abbrev o92_1:List Ins:=[⟨some 5,.mv (.t 0),none,true⟩,
 ⟨some 6,.mv (.t 1),none,true⟩,
 ⟨some 7,.call (.k (.fn 94 [])) [(.t 5),(.t 6)],none,true⟩,
 ⟨some 4,.mv (.t 7),none,true⟩]
abbrev v92_2:VC:=(.seq (.ops o92_1) .ret)
def ir92:FC:=⟨2,8,[.t 4],(.seq (.ops o92_0) v92_2)⟩
abbrev o91_0:List Ins:=[⟨some 4,.mv (.k (.c (.int .i64 0))),none,true⟩]
abbrev o91_1:List Ins:=[⟨some 14,.mv (.t 1),none,true⟩,
 ⟨some 15,.prim .slen [(.t 14)],none,true⟩,
 ⟨some 5,.mv (.t 15),none,true⟩]
abbrev o91_2:List Ins:=[⟨some 17,.mv (.t 5),none,true⟩,
 ⟨some 18,.bin .eql (.t 17) (.k (.c (.int .i64 0))),none,true⟩,
 ⟨some 19,.mv (.t 18),none,true⟩,
 ⟨some 20,.mv (.t 1),(some (19,false)),true⟩,
 ⟨some 21,.mv (.t 0),(some (19,false)),true⟩,
 ⟨some 22,.prim (.sbin .eql) [(.t 20),(.t 21)],(some (19,false)),true⟩,
 ⟨some 23,.pick (.t 19) (.k (.c (.bool true))) (.t 22),none,true⟩,
 ⟨some 16,.mv (.t 23),none,true⟩]
abbrev o91_3:List Ins:=[⟨some 4,.mv (.k (.c (.int .i64 0))),none,true⟩]
abbrev v91_4:VC:=(.seq (.ops o91_3) .ret)
abbrev o91_5:List Ins:=[⟨some 25,.mv (.t 5),none,true⟩,
 ⟨some 26,.bin .eql (.t 25) (.k (.c (.int .i64 1))),none,true⟩,
 ⟨some 24,.mv (.t 26),none,true⟩]
abbrev o91_6:List Ins:=[⟨some 27,.mv (.t 0),none,true⟩,
 ⟨some 28,.mv (.t 1),none,true⟩,
 ⟨some 29,.prim .sidx [(.t 28),(.k (.c (.int .i64 0)))],none,true⟩,
 ⟨some 30,.call (.k (.fn 92 [])) [(.t 27),(.t 29)],none,true⟩,
 ⟨some 4,.mv (.t 30),none,true⟩]
abbrev v91_7:VC:=(.seq (.ops o91_6) .ret)
abbrev o91_8:List Ins:=[⟨some 32,.mv (.t 5),none,true⟩,
 ⟨some 33,.mv (.t 0),none,true⟩,
 ⟨some 34,.prim .slen [(.t 33)],none,true⟩,
 ⟨some 35,.bin .geq (.t 32) (.t 34),none,true⟩,
 ⟨some 31,.mv (.t 35),none,true⟩]
abbrev o91_9:List Ins:=[⟨some 4,.mv (.k (.c (.int .i64 (-1)))),none,true⟩]
abbrev v91_10:VC:=(.seq (.ops o91_9) .ret)
abbrev o91_11:List Ins:=[⟨some 37,.mv (.t 5),none,true⟩,
 ⟨some 38,.raw (.load 3 (.global 0)),none,true⟩,
 ⟨some 39,.bin .leq (.t 37) (.t 38),none,true⟩,
 ⟨some 40,.mv (.t 39),none,true⟩,
 ⟨some 41,.mv (.t 0),(some (40,true)),true⟩,
 ⟨some 42,.prim .slen [(.t 41)],(some (40,true)),true⟩,
 ⟨some 43,.bin .leq (.t 42) (.k (.c (.int .i64 64))),(some (40,true)),true⟩,
 ⟨some 44,.pick (.t 40) (.t 43) (.k (.c (.bool false))),none,true⟩,
 ⟨some 36,.mv (.t 44),none,true⟩]
abbrev o91_12:List Ins:=[⟨some 45,.mv (.t 0),none,true⟩,
 ⟨some 46,.mv (.t 1),none,true⟩,
 ⟨some 47,.call (.k (.fn 90 [])) [(.t 45),(.t 46)],none,true⟩,
 ⟨some 4,.mv (.t 47),none,true⟩]
abbrev v91_13:VC:=(.seq (.ops o91_12) .ret)
abbrev v91_14:VC:=(.cond (.t 36) v91_13 .skip)
abbrev v91_15:VC:=(.seq (.ops o91_11) v91_14)
abbrev v91_16:VC:=(.cond (.t 31) v91_10 v91_15)
abbrev v91_17:VC:=(.seq (.ops o91_8) v91_16)
abbrev v91_18:VC:=(.cond (.t 24) v91_7 v91_17)
abbrev v91_19:VC:=(.seq (.ops o91_5) v91_18)
abbrev v91_20:VC:=(.cond (.t 16) v91_4 v91_19)
abbrev v91_21:VC:=(.seq (.ops o91_2) v91_20)
abbrev o91_22:List Ins:=[⟨some 48,.mv (.t 1),none,true⟩,
 ⟨some 49,.prim .sidx [(.t 48),(.k (.c (.int .i64 0)))],none,true⟩,
 ⟨some 6,.mv (.t 49),none,true⟩]
abbrev o91_23:List Ins:=[⟨some 50,.mv (.t 1),none,true⟩,
 ⟨some 51,.prim .sidx [(.t 50),(.k (.c (.int .i64 1)))],none,true⟩,
 ⟨some 7,.mv (.t 51),none,true⟩]
abbrev o91_24:List Ins:=[⟨some 8,.mv (.k (.c (.int .i64 0))),none,true⟩]
abbrev o91_25:List Ins:=[⟨some 52,.mv (.t 0),none,true⟩,
 ⟨some 53,.prim .slen [(.t 52)],none,true⟩,
 ⟨some 54,.mv (.t 5),none,true⟩,
 ⟨some 55,.bin .sub (.t 53) (.t 54),none,true⟩,
 ⟨some 56,.bin .add (.t 55) (.k (.c (.int .i64 1))),none,true⟩,
 ⟨some 9,.mv (.t 56),none,true⟩]
abbrev o91_26:List Ins:=[⟨some 10,.mv (.k (.c (.int .i64 0))),none,true⟩]
abbrev o91_27:List Ins:=[⟨some 57,.mv (.t 8),none,true⟩,
 ⟨some 58,.mv (.t 9),none,true⟩,
 ⟨some 59,.bin .lss (.t 57) (.t 58),none,true⟩]
abbrev v91_28:VC:=(.cond (.t 59) .skip (.exit 1))
abbrev o91_29:List Ins:=[⟨some 60,.mv (.t 0),none,true⟩,
 ⟨some 61,.mv (.t 8),none,true⟩,
 ⟨some 62,.prim .sidx [(.t 60),(.t 61)],none,true⟩,
 ⟨some 63,.mv (.t 6),none,true⟩,
 ⟨some 64,.bin .neq (.t 62) (.t 63),none,true⟩]
abbrev o91_30:List Ins:=[⟨some 65,.mv (.t 0),none,true⟩,
 ⟨some 66,.mv (.t 8),none,true⟩,
 ⟨some 67,.bin .add (.t 66) (.k (.c (.int .i64 1))),none,true⟩,
 ⟨some 68,.mv (.t 9),none,true⟩,
 ⟨some 69,.prim (.sslc true true) [(.t 65),(.t 67),(.t 68)],none,true⟩,
 ⟨some 70,.mv (.t 6),none,true⟩,
 ⟨some 71,.call (.k (.fn 92 [])) [(.t 69),(.t 70)],none,true⟩,
 ⟨some 11,.mv (.t 71),none,true⟩]
abbrev o91_31:List Ins:=[⟨some 72,.mv (.t 11),none,true⟩,
 ⟨some 73,.bin .lss (.t 72) (.k (.c (.int .i64 0))),none,true⟩]
abbrev o91_32:List Ins:=[⟨some 4,.mv (.k (.c (.int .i64 (-1)))),none,true⟩]
abbrev v91_33:VC:=(.seq (.ops o91_32) .ret)
abbrev v91_34:VC:=(.cond (.t 73) v91_33 .skip)
abbrev o91_35:List Ins:=[⟨some 74,.mv (.t 8),none,true⟩,
 ⟨some 75,.mv (.t 11),none,true⟩,
 ⟨some 76,.bin .add (.t 75) (.k (.c (.int .i64 1))),none,true⟩,
 ⟨some 77,.bin .add (.t 74) (.t 76),none,true⟩,
 ⟨some 8,.mv (.t 77),none,true⟩]
abbrev v91_36:VC:=(.seq (.seq (.ops o91_31) v91_34) (.ops o91_35))
abbrev v91_37:VC:=(.seq (.ops o91_30) v91_36)
abbrev v91_38:VC:=(.cond (.t 64) v91_37 .skip)
abbrev o91_39:List Ins:=[⟨some 78,.mv (.t 0),none,true⟩,
 ⟨some 79,.mv (.t 8),none,true⟩,
 ⟨some 80,.bin .add (.t 79) (.k (.c (.int .i64 1))),none,true⟩,
 ⟨some 81,.prim .sidx [(.t 78),(.t 80)],none,true⟩,
 ⟨some 82,.mv (.t 7),none,true⟩,
 ⟨some 83,.bin .eql (.t 81) (.t 82),none,true⟩,
 ⟨some 84,.mv (.t 83),none,true⟩,
 ⟨some 85,.mv (.t 0),(some (84,true)),true⟩,
 ⟨some 86,.mv (.t 8),(some (84,true)),true⟩,
 ⟨some 87,.mv (.t 8),(some (84,true)),true⟩,
 ⟨some 88,.mv (.t 5),(some (84,true)),true⟩,
 ⟨some 89,.bin .add (.t 87) (.t 88),(some (84,true)),true⟩,
 ⟨some 90,.prim (.sslc true true) [(.t 85),(.t 86),(.t 89)],(some (84,true)),true⟩,
 ⟨some 91,.mv (.t 1),(some (84,true)),true⟩,
 ⟨some 92,.prim (.sbin .eql) [(.t 90),(.t 91)],(some (84,true)),true⟩,
 ⟨some 93,.pick (.t 84) (.t 92) (.k (.c (.bool false))),none,true⟩]
abbrev o91_40:List Ins:=[⟨some 94,.mv (.t 8),none,true⟩,
 ⟨some 4,.mv (.t 94),none,true⟩]
abbrev v91_41:VC:=(.seq (.ops o91_40) .ret)
abbrev v91_42:VC:=(.cond (.t 93) v91_41 .skip)
abbrev o91_43:List Ins:=[⟨some 95,.mv (.t 8),none,true⟩,
 ⟨some 96,.bin .add (.t 95) (.k (.c (.int .i64 1))),none,true⟩,
 ⟨some 8,.mv (.t 96),none,true⟩]
abbrev o91_44:List Ins:=[⟨some 97,.mv (.t 10),none,true⟩,
 ⟨some 98,.bin .add (.t 97) (.k (.c (.int .i64 1))),none,true⟩,
 ⟨some 10,.mv (.t 98),none,true⟩]
abbrev o91_45:List Ins:=[⟨some 99,.mv (.t 5),none,true⟩,
 ⟨some 100,.raw (.load 3 (.global 0)),none,true⟩,
 ⟨some 101,.bin .leq (.t 99) (.t 100),none,true⟩,
 ⟨some 102,.mv (.t 101),none,true⟩,
 ⟨some 103,.mv (.t 10),(some (102,true)),true⟩,
 ⟨some 104,.mv (.t 8),(some (102,true)),true⟩,
 ⟨some 105,.call (.k (.fn 89 [])) [(.t 104)],(some (102,true)),true⟩,
 ⟨some 106,.bin .gtr (.t 103) (.t 105),(some (102,true)),true⟩,
 ⟨some 107,.pick (.t 102) (.t 106) (.k (.c (.bool false))),none,true⟩]
abbrev o91_46:List Ins:=[⟨some 108,.mv (.t 0),none,true⟩,
 ⟨some 109,.mv (.t 8),none,true⟩,
 ⟨some 110,.prim (.sslc true false) [(.t 108),(.t 109)],none,true⟩,
 ⟨some 111,.mv (.t 1),none,true⟩,
 ⟨some 112,.call (.k (.fn 90 [])) [(.t 110),(.t 111)],none,true⟩,
 ⟨some 12,.mv (.t 112),none,true⟩]
abbrev o91_47:List Ins:=[⟨some 113,.mv (.t 12),none,true⟩,
 ⟨some 114,.bin .geq (.t 113) (.k (.c (.int .i64 0))),none,true⟩]
abbrev o91_48:List Ins:=[⟨some 115,.mv (.t 12),none,true⟩,
 ⟨some 116,.mv (.t 8),none,true⟩,
 ⟨some 117,.bin .add (.t 115) (.t 116),none,true⟩,
 ⟨some 4,.mv (.t 117),none,true⟩]
abbrev v91_49:VC:=(.seq (.ops o91_48) .ret)
abbrev v91_50:VC:=(.cond (.t 114) v91_49 .skip)
abbrev o91_51:List Ins:=[⟨some 4,.mv (.k (.c (.int .i64 (-1)))),none,true⟩]
abbrev v91_52:VC:=(.seq (.ops o91_51) .ret)
abbrev v91_53:VC:=(.seq (.seq (.ops o91_47) v91_50) v91_52)
abbrev v91_54:VC:=(.seq (.ops o91_46) v91_53)
abbrev o91_55:List Ins:=[⟨some 118,.mv (.t 5),none,true⟩,
 ⟨some 119,.raw (.load 3 (.global 0)),none,true⟩,
 ⟨some 120,.bin .gtr (.t 118) (.t 119),none,true⟩,
 ⟨some 121,.mv (.t 120),none,true⟩,
 ⟨some 122,.mv (.t 10),(some (121,true)),true⟩,
 ⟨some 123,.mv (.t 8),(some (121,true)),true⟩,
 ⟨some 124,.bin .shr (.t 123) (.k (.c (.int .u64 4))),(some (121,true)),true⟩,
 ⟨some 125,.bin .add (.k (.c (.int .i64 4))) (.t 124),(some (121,true)),true⟩,
 ⟨some 126,.bin .geq (.t 122) (.t 125),(some (121,true)),true⟩,
 ⟨some 127,.pick (.t 121) (.t 126) (.k (.c (.bool false))),none,true⟩,
 ⟨some 128,.mv (.t 127),none,true⟩,
 ⟨some 129,.mv (.t 8),(some (128,true)),true⟩,
 ⟨some 130,.mv (.t 9),(some (128,true)),true⟩,
 ⟨some 131,.bin .lss (.t 129) (.t 130),(some (128,true)),true⟩,
 ⟨some 132,.pick (.t 128) (.t 131) (.k (.c (.bool false))),none,true⟩]
abbrev o91_56:List Ins:=[⟨some 133,.mv (.t 0),none,true⟩,
 ⟨some 134,.mv (.t 8),none,true⟩,
 ⟨some 135,.prim (.sslc true false) [(.t 133),(.t 134)],none,true⟩,
 ⟨some 136,.mv (.t 1),none,true⟩,
 ⟨some 137,.call (.k (.fn 93 [])) [(.t 135),(.t 136)],none,true⟩,
 ⟨some 13,.mv (.t 137),none,true⟩]
abbrev o91_57:List Ins:=[⟨some 138,.mv (.t 13),none,true⟩,
 ⟨some 139,.bin .lss (.t 138) (.k (.c (.int .i64 0))),none,true⟩]
abbrev o91_58:List Ins:=[⟨some 4,.mv (.k (.c (.int .i64 (-1)))),none,true⟩]
abbrev v91_59:VC:=(.seq (.ops o91_58) .ret)
abbrev v91_60:VC:=(.cond (.t 139) v91_59 .skip)
abbrev o91_61:List Ins:=[⟨some 140,.mv (.t 8),none,true⟩,
 ⟨some 141,.mv (.t 13),none,true⟩,
 ⟨some 142,.bin .add (.t 140) (.t 141),none,true⟩,
 ⟨some 4,.mv (.t 142),none,true⟩]
abbrev v91_62:VC:=(.seq (.ops o91_61) .ret)
abbrev v91_63:VC:=(.seq (.seq (.ops o91_57) v91_60) v91_62)
abbrev v91_64:VC:=(.seq (.ops o91_56) v91_63)
abbrev v91_65:VC:=(.cond (.t 132) v91_64 .skip)
abbrev v91_66:VC:=(.seq (.ops o91_55) v91_65)
abbrev v91_67:VC:=(.cond (.t 107) v91_54 v91_66)
abbrev v91_68:VC:=(.seq (.ops o91_45) v91_67)
abbrev v91_69:VC:=(.seq (.ops o91_44) v91_68)
abbrev v91_70:VC:=(.seq (.ops o91_43) v91_69)
abbrev v91_71:VC:=(.seq (.seq (.ops o91_39) v91_42) v91_70)
abbrev v91_72:VC:=(.seq (.seq (.ops o91_29) v91_38) v91_71)
abbrev v91_73:VC:=(.block 2 v91_72)
abbrev v91_74:VC:=(.seq (.seq (.ops o91_27) v91_28) v91_73)
-- K91_1: changed and kept: [8,10]
abbrev v91_75:VC:=(.loop v91_74)
abbrev o91_76:List Ins:=[⟨some 4,.mv (.k (.c (.int .i64 (-1)))),none,true⟩]
abbrev v91_77:VC:=(.seq (.ops o91_76) .ret)
abbrev v91_78:VC:=(.seq (.block 1 v91_75) v91_77)
abbrev v91_79:VC:=(.seq (.ops o91_26) v91_78)
abbrev v91_80:VC:=(.seq (.ops o91_25) v91_79)
abbrev v91_81:VC:=(.seq (.ops o91_24) v91_80)
abbrev v91_82:VC:=(.seq (.ops o91_23) v91_81)
abbrev v91_83:VC:=(.seq (.ops o91_22) v91_82)
abbrev v91_84:VC:=(.seq (.block 0 v91_21) v91_83)
abbrev v91_85:VC:=(.seq (.ops o91_1) v91_84)
def ir91:FC:=⟨2,143,[.t 4],(.seq (.ops o91_0) v91_85)⟩
abbrev o85_0:List Ins:=[⟨some 4,.mv (.k (.c (.int .i64 0))),none,true⟩]
abbrev o85_1:List Ins:=[⟨some 5,.mv (.t 0),none,true⟩,
 ⟨some 6,.mv (.t 1),none,true⟩,
 ⟨some 7,.call (.k (.fn 91 [])) [(.t 5),(.t 6)],none,true⟩,
 ⟨some 4,.mv (.t 7),none,true⟩]
abbrev v85_2:VC:=(.seq (.ops o85_1) .ret)
def ir85:FC:=⟨2,8,[.t 4],(.seq (.ops o85_0) v85_2)⟩
abbrev o75_0:List Ins:=[⟨some 4,.mv (.k (.c (.bool false))),none,true⟩]
abbrev o75_1:List Ins:=[⟨some 5,.mv (.t 0),none,true⟩,
 ⟨some 6,.prim .slen [(.t 5)],none,true⟩,
 ⟨some 7,.mv (.t 1),none,true⟩,
 ⟨some 8,.prim .slen [(.t 7)],none,true⟩,
 ⟨some 9,.bin .geq (.t 6) (.t 8),none,true⟩,
 ⟨some 10,.mv (.t 9),none,true⟩,
 ⟨some 11,.mv (.t 0),(some (10,true)),true⟩,
 ⟨some 12,.mv (.t 0),(some (10,true)),true⟩,
 ⟨some 13,.prim .slen [(.t 12)],(some (10,true)),true⟩,
 ⟨some 14,.mv (.t 1),(some (10,true)),true⟩,
 ⟨some 15,.prim .slen [(.t 14)],(some (10,true)),true⟩,
 ⟨some 16,.bin .sub (.t 13) (.t 15),(some (10,true)),true⟩,
 ⟨some 17,.prim (.sslc true false) [(.t 11),(.t 16)],(some (10,true)),true⟩,
 ⟨some 18,.mv (.t 1),(some (10,true)),true⟩,
 ⟨some 19,.prim (.sbin .eql) [(.t 17),(.t 18)],(some (10,true)),true⟩,
 ⟨some 20,.pick (.t 10) (.t 19) (.k (.c (.bool false))),none,true⟩,
 ⟨some 4,.mv (.t 20),none,true⟩]
abbrev v75_2:VC:=(.seq (.ops o75_1) .ret)
def ir75:FC:=⟨2,21,[.t 4],(.seq (.ops o75_0) v75_2)⟩
abbrev o53_0:List Ins:=[⟨some 4,.mv (.k (.c (.str []))),none,true⟩,
 ⟨some 5,.mv (.k (.c (.bool false))),none,true⟩]
abbrev o53_1:List Ins:=[⟨some 6,.mv (.t 0),none,true⟩,
 ⟨some 7,.mv (.t 1),none,true⟩,
 ⟨some 8,.call (.k (.fn 75 [])) [(.t 6),(.t 7)],none,true⟩,
 ⟨some 9,.un .not (.t 8),none,true⟩]
abbrev o53_2:List Ins:=[⟨some 10,.mv (.t 0),none,true⟩,
 ⟨some 4,.mv (.t 10),none,true⟩,
 ⟨some 5,.mv (.k (.c (.bool false))),none,true⟩]
abbrev v53_3:VC:=(.seq (.ops o53_2) .ret)
abbrev v53_4:VC:=(.cond (.t 9) v53_3 .skip)
abbrev o53_5:List Ins:=[⟨some 11,.mv (.t 0),none,true⟩,
 ⟨some 12,.mv (.t 0),none,true⟩,
 ⟨some 13,.prim .slen [(.t 12)],none,true⟩,
 ⟨some 14,.mv (.t 1),none,true⟩,
 ⟨some 15,.prim .slen [(.t 14)],none,true⟩,
 ⟨some 16,.bin .sub (.t 13) (.t 15),none,true⟩,
 ⟨some 17,.prim (.sslc false true) [(.t 11),(.t 16)],none,true⟩,
 ⟨some 4,.mv (.t 17),none,true⟩,
 ⟨some 5,.mv (.k (.c (.bool true))),none,true⟩]
abbrev v53_6:VC:=(.seq (.ops o53_5) .ret)
abbrev v53_7:VC:=(.seq (.seq (.ops o53_1) v53_4) v53_6)
def ir53:FC:=⟨2,18,[.t 4,.t 5],(.seq (.ops o53_0) v53_7)⟩
abbrev o27_0:List Ins:=[⟨some 4,.mv (.k (.c (.str []))),none,true⟩,
 ⟨some 5,.mv (.k (.c (.bool false))),none,true⟩]
abbrev o27_1:List Ins:=[⟨some 6,.mv (.t 0),none,true⟩,
 ⟨some 7,.mv (.t 1),none,true⟩,
 ⟨some 8,.call (.k (.fn 53 [])) [(.t 6),(.t 7)],none,true⟩,
 ⟨some 9,.ext (.t 8) 0,none,true⟩,
 ⟨some 10,.ext (.t 8) 1,none,true⟩,
 ⟨some 4,.mv (.t 9),none,true⟩,
 ⟨some 5,.mv (.t 10),none,true⟩]
abbrev v27_2:VC:=(.seq (.ops o27_1) .ret)
def ir27:FC:=⟨2,11,[.t 4,.t 5],(.seq (.ops o27_0) v27_2)⟩
theorem c92:compM Tryd.prog [] 92 = some ir92:=by kernel_rfl
theorem c91:compM Tryd.prog [] 91 = some ir91:=by kernel_rfl
theorem c85:compM Tryd.prog [] 85 = some ir85:=by kernel_rfl
theorem c75:compM Tryd.prog [] 75 = some ir75:=by kernel_rfl
theorem c53:compM Tryd.prog [] 53 = some ir53:=by kernel_rfl
theorem c27:compM Tryd.prog [] 27 = some ir27:=by kernel_rfl
attribute [local go_sem] Nat.reduceEqDiff Nat.reduceAdd Nat.reduceMul reduceIte Nat.reduceLeDiff Nat.reduceLT Nat.reduceBEq reduceCtorEq
abbrev idxB (s:List UInt8) (b:UInt8):Int:=Lib.indexByte s b
theorem byte_back (b:UInt8):(((b.toNat:Int)).toNat).toUInt8 = b:=by
 simp
theorem indexString112 {K:V.St → Prop} {σ:V.St} {d:Option Nat} {f:X} {xs:List X} {s:List UInt8} {b:UInt8} (h1:(σ.val f).dg = true) (h2:(xs.all fun x => (σ.val x).dg) = true) (h3:(σ.val f).dv = .fn 94 []) (h4:AV.portL σ.own (xs.map fun x => (σ.val x).dv) = some [sv s,u8 b]) (hK:K (σ.put d (iv (idxB s b)))):ACallS Tryd.prog d f xs K σ:=by
 refine AS_extern (fn:=(Tryd.prog.funcs[94]?).get (by kernel_rfl)) (e:=Extern.BytealgIndexByte.indexByte) (by simp) (by kernel_rfl) (by kernel_rfl) (by kernel_rfl) (by kernel_rfl) rfl (fun w M vs hr => ?_) h1 h2 h3 h4 hK
 simp only [RepAs,RepA,RepC] at hr
 obtain ⟨v1,_,rfl,rfl,v2,_,rfl,rfl,rfl⟩:=hr
 have:=Lib.run_indexByteString (P:=Tryd.prog) ⟨s.toArray⟩ (b.toNat:Int) w
 rw [byte_back] at this
 exact ⟨_,this,by simp only [RepA,RepC]⟩
theorem index105 (s:List UInt8) (b:UInt8):FSpec Tryd.prog 92 [sv s,u8 b] (iv (idxB s b)):=by
 refine FSpec_of c92 (Nat.le_refl _) (by decide) fun C hP hN hC hL => ?_; rw [init_st]
 simp only [ir92]
 (repeat ((first | refine Va ?_ | refine Vb ?_ | refine Vc ?_ | refine Vd ?_ | refine Ve ?_ | refine Vf ?_); (try simp only [go_sem,hP]); (repeat refine qJ ?_)))
 refine indexString112 rfl rfl rfl rfl ?_
 simp only [go_sem,hP]
 (repeat ((first | refine Va ?_ | refine Vb ?_ | refine Vc ?_ | refine Vd ?_ | refine Ve ?_ | refine Vf ?_); (try simp only [go_sem,hP]); (repeat refine qJ ?_)))
 (refine WV_ret ?_; simp only [thenQ,inQ,RetQ,RetOk,resAll,resA]; simp only [go_sem,tupA,AV.port,AV.portL,exists_eq_left']; (first | exact AVle.of rfl | refine AVle.of ?_ | skip))
theorem index96 (s:List UInt8) (b:UInt8):FSpec Tryd.prog 91 [sv s,sv [b]] (iv (idxB s b)):=by
 refine FSpec_of c91 (Nat.le_refl _) (by decide) fun C hP hN hC hL => ?_; rw [init_st]
 simp only [ir91]
 (repeat ((first | refine Va ?_ | refine Vb ?_ | refine Vc ?_ | refine Vd ?_ | refine Ve ?_ | refine Vf ?_); (try simp only [go_sem,hP]); (repeat refine qJ ?_)))
 simp only [List.length_singleton,Int.natCast_one,Int.reduceBEq]
 (refine WV_cond rfl (fun h => ?_) (fun h => ?_))
 ·have hb:[b] = s:=by simpa using h
  subst hb
  (repeat ((first | refine Va ?_ | refine Vb ?_ | refine Vc ?_ | refine Vd ?_ | refine Ve ?_ | refine Vf ?_); (try simp only [go_sem,hP]); (repeat refine qJ ?_)))
  have e:idxB [b] b = 0:=by simp [idxB,Lib.indexByte]
  rw [e]
  (refine WV_ret ?_; simp only [thenQ,inQ,RetQ,RetOk,resAll,resA]; simp only [go_sem,tupA,AV.port,AV.portL,exists_eq_left']; (first | exact AVle.of rfl | refine AVle.of ?_ | skip))
 ·(repeat ((first | refine Va ?_ | refine Vb ?_ | refine Vc ?_ | refine Vd ?_ | refine Ve ?_ | refine Vf ?_); (try simp only [go_sem,hP]); (repeat refine qJ ?_)))
  simp only [List.length_singleton,Int.natCast_one,Int.reduceBEq]
  (refine WV_cond rfl (fun h => ?_) (fun h => ?_))
  ·(repeat ((first | refine Va ?_ | refine Vb ?_ | refine Vc ?_ | refine Vd ?_ | refine Ve ?_ | refine Vf ?_); (try simp only [go_sem,hP,List.length_singleton,Int.natCast_one,Int.reduceLT]); (repeat refine qJ ?_)))
   (refine AS_pu (index105 s b) ?_; simp only [go_sem,hP]; (repeat refine qJ ?_); (repeat ((first | refine Va ?_ | refine Vb ?_ | refine Vc ?_ | refine Vd ?_ | refine Ve ?_ | refine Vf ?_); (try simp only [go_sem,hP]); (repeat refine qJ ?_))))
   (refine WV_ret ?_; simp only [thenQ,inQ,RetQ,RetOk,resAll,resA]; simp only [go_sem,tupA,AV.port,AV.portL,exists_eq_left']; (first | exact AVle.of rfl | refine AVle.of ?_ | skip))
  ·simp at h
theorem index80 (s:List UInt8) (b:UInt8):FSpec Tryd.prog 85 [sv s,sv [b]] (iv (idxB s b)):=by
 refine FSpec_of c85 (Nat.le_refl _) (by decide) fun C hP hN hC hL => ?_; rw [init_st]
 simp only [ir85]
 (repeat ((first | refine Va ?_ | refine Vb ?_ | refine Vc ?_ | refine Vd ?_ | refine Ve ?_ | refine Vf ?_); (try simp only [go_sem,hP]); (repeat refine qJ ?_)))
 (refine AS_pu (index96 s b) ?_; simp only [go_sem,hP]; (repeat refine qJ ?_); (repeat ((first | refine Va ?_ | refine Vb ?_ | refine Vc ?_ | refine Vd ?_ | refine Ve ?_ | refine Vf ?_); (try simp only [go_sem,hP]); (repeat refine qJ ?_))))
 (refine WV_ret ?_; simp only [thenQ,inQ,RetQ,RetOk,resAll,resA]; simp only [go_sem,tupA,AV.port,AV.portL,exists_eq_left']; (first | exact AVle.of rfl | refine AVle.of ?_ | skip))
def endsB (s:List UInt8) (b:UInt8):Bool:=s.getLast? == some b
theorem endsB_drop (s:List UInt8) (b:UInt8) (h:1 ≤ s.length):(s.drop (s.length - 1) == [b]) = endsB s b:=by
 unfold endsB
 have e:s.drop (s.length - 1) = [s[s.length - 1]]:=by
  rw [List.drop_eq_getElem_cons (by omega),List.drop_of_length_le (by omega)]
 rw [e,List.getLast?_eq_getElem?,List.getElem?_eq_getElem (by omega),Bool.eq_iff_iff]
 simp
theorem hassuffix94 (s:List UInt8) (b:UInt8) (hs:s.length ≤ maxLen):FSpec Tryd.prog 75 [sv s,sv [b]] (bv (endsB s b)):=by
 have hmax:maxLen = 9223372036854775807:=rfl
 refine FSpec_of c75 (Nat.le_refl _) (by decide) fun C hP hN hC hL => ?_; rw [init_st]
 simp only [ir75]
 have hw:=w64 (n:=(s.length:Int) - 1) (by omega) (by omega)
 by_cases h0:1 ≤ s.length
 ·have hd:decide ((s.length:Int) ≥ 1) = true:=by simp; omega
  have he:=endsB_drop s b h0
  have ht:((s.length:Int) - 1).toNat = s.length - 1:=by omega
  (repeat ((first | refine Va ?_ | refine Vb ?_ | refine Vc ?_ | refine Vd ?_ | refine Ve ?_ | refine Vf ?_); (try simp only [go_sem,hP,hw,List.length_singleton,Int.natCast_one,hd,ht,he]); (repeat refine qJ ?_)))
  (refine WV_ret ?_; simp only [thenQ,inQ,RetQ,RetOk,resAll,resA]; simp only [go_sem,tupA,AV.port,AV.portL,exists_eq_left']; (first | exact AVle.of rfl | refine AVle.of ?_ | skip))
 ·have hs0:s = []:=List.eq_nil_of_length_eq_zero (by omega)
  subst hs0
  (repeat ((first | refine Va ?_ | refine Vb ?_ | refine Vc ?_ | refine Vd ?_ | refine Ve ?_ | refine Vf ?_); (try simp only [go_sem,hP,List.length_singleton,Int.natCast_one,List.length_nil]); (repeat refine qJ ?_)))
  have e:((decide ((1:Int) ≤ ((0:Nat):Int))) && ([]:List UInt8) == [b]) = endsB [] b:=by simp [endsB]
  rw [e]
  (refine WV_ret ?_; simp only [thenQ,inQ,RetQ,RetOk,resAll,resA]; simp only [go_sem,tupA,AV.port,AV.portL,exists_eq_left']; (first | exact AVle.of rfl | refine AVle.of ?_ | skip))
def cutB (s:List UInt8) (b:UInt8):List UInt8:=if endsB s b then s.dropLast else s
theorem cutsuffix77 (s:List UInt8) (b:UInt8) (hs:s.length ≤ maxLen):FSpec Tryd.prog 53 [sv s,sv [b]] (.tup [sv (cutB s b),bv (endsB s b)]):=by
 have hmax:maxLen = 9223372036854775807:=rfl
 refine FSpec_of c53 (Nat.le_refl _) (by decide) fun C hP hN hC hL => ?_; rw [init_st]
 simp only [ir53]
 have hw:=w64 (n:=(s.length:Int) - 1) (by omega) (by omega)
 have ht:((s.length:Int) - 1).toNat = s.length - 1:=by omega
 (repeat ((first | refine Va ?_ | refine Vb ?_ | refine Vc ?_ | refine Vd ?_ | refine Ve ?_ | refine Vf ?_); (try simp only [go_sem,hP]); (repeat refine qJ ?_)))
 (refine AS_pu (hassuffix94 s b hs) ?_; simp only [go_sem,hP]; (repeat refine qJ ?_); (repeat ((first | refine Va ?_ | refine Vb ?_ | refine Vc ?_ | refine Vd ?_ | refine Ve ?_ | refine Vf ?_); (try simp only [go_sem,hP]); (repeat refine qJ ?_))))
 by_cases he:endsB s b = true
 ·have h0:1 ≤ s.length:=by
   cases s with
   | nil => simp [endsB] at he
   | cons x s => simp
  have hc:cutB s b = s.take (s.length - 1):=by unfold cutB; rw [if_pos he,List.dropLast_eq_take]
  rw [hc,he]
  (refine WV_cond rfl (fun h => ?_) (fun h => ?_))
  ·simp at h
  ·(repeat ((first | refine Va ?_ | refine Vb ?_ | refine Vc ?_ | refine Vd ?_ | refine Ve ?_ | refine Vf ?_); (try simp only [go_sem,hP,hw,List.length_singleton,Int.natCast_one,ht]); (repeat refine qJ ?_)))
   (refine WV_ret ?_; simp only [thenQ,inQ,RetQ,RetOk,resAll,resA]; simp only [go_sem,tupA,AV.port,AV.portL,exists_eq_left']; (first | exact AVle.of rfl | refine AVle.of ?_ | skip))
 ·have hc:cutB s b = s:=by unfold cutB; rw [if_neg he]
  have he':endsB s b = false:=by simpa using he
  rw [hc,he']
  (refine WV_cond rfl (fun h => ?_) (fun h => ?_))
  ·(repeat ((first | refine Va ?_ | refine Vb ?_ | refine Vc ?_ | refine Vd ?_ | refine Ve ?_ | refine Vf ?_); (try simp only [go_sem,hP]); (repeat refine qJ ?_)))
   (refine WV_ret ?_; simp only [thenQ,inQ,RetQ,RetOk,resAll,resA]; simp only [go_sem,tupA,AV.port,AV.portL,exists_eq_left']; (first | exact AVle.of rfl | refine AVle.of ?_ | skip))
  ·simp at h
theorem cutsuffix47 (s:List UInt8) (b:UInt8) (hs:s.length ≤ maxLen):FSpec Tryd.prog 27 [sv s,sv [b]] (.tup [sv (cutB s b),bv (endsB s b)]):=by
 refine FSpec_of c27 (Nat.le_refl _) (by decide) fun C hP hN hC hL => ?_; rw [init_st]
 simp only [ir27]
 (repeat ((first | refine Va ?_ | refine Vb ?_ | refine Vc ?_ | refine Vd ?_ | refine Ve ?_ | refine Vf ?_); (try simp only [go_sem,hP]); (repeat refine qJ ?_)))
 (refine AS_pu (cutsuffix77 s b hs) ?_; simp only [go_sem,hP]; (repeat refine qJ ?_); (repeat ((first | refine Va ?_ | refine Vb ?_ | refine Vc ?_ | refine Vd ?_ | refine Ve ?_ | refine Vf ?_); (try simp only [go_sem,hP]); (repeat refine qJ ?_))))
 (refine WV_ret ?_; simp only [thenQ,inQ,RetQ,RetOk,resAll,resA]; simp only [go_sem,tupA,AV.port,AV.portL,exists_eq_left']; (first | exact AVle.of rfl | refine AVle.of ?_ | skip))
end Go.Proofs.YtdoidahbimonhaaDoor

namespace Go.Proofs.YtdoidahbimonhaaDoor
open Go Go.V
abbrev o80_0:List Ins:=[⟨some 3,.box 1 (.t 0),none,true⟩,
 ⟨some 4,.box 1 (.t 1),none,true⟩,
 ⟨some 5,.box 1 (.t 2),none,true⟩,
 ⟨some 6,.mv (.k (.c (.raw .nilFunc))),none,true⟩]
abbrev o80_1:List Ins:=[⟨some 7,.mkfn 84 [(.t 4),(.t 3),(.t 5)],none,true⟩,
 ⟨some 6,.mv (.t 7),none,true⟩]
abbrev v80_2:VC:=(.seq (.ops o80_1) .ret)
def ir80:FC:=⟨3,8,[.t 6],(.seq (.ops o80_0) v80_2)⟩
abbrev o71_0:List Ins:=[⟨some 4,.mv (.k (.c (.raw .nilFunc))),none,true⟩]
abbrev o71_1:List Ins:=[⟨some 5,.mv (.t 0),none,true⟩,
 ⟨some 6,.mv (.t 1),none,true⟩,
 ⟨some 7,.call (.k (.fn 80 [])) [(.t 5),(.t 6),(.k (.c (.int .i64 0)))],none,true⟩,
 ⟨some 4,.mv (.t 7),none,true⟩]
abbrev v71_2:VC:=(.seq (.ops o71_1) .ret)
def ir71:FC:=⟨2,8,[.t 4],(.seq (.ops o71_0) v71_2)⟩
abbrev o84_0:List Ins:=[⟨some 9,.ld true 1 (.t 1),none,true⟩,
 ⟨some 10,.prim .slen [(.t 9)],none,true⟩,
 ⟨some 11,.bin .eql (.t 10) (.k (.c (.int .i64 0))),none,true⟩]
abbrev o84_1:List Ins:=[⟨some 12,.ld true 1 (.t 2),none,true⟩,
 ⟨some 13,.prim .slen [(.t 12)],none,true⟩,
 ⟨some 14,.bin .gtr (.t 13) (.k (.c (.int .i64 0))),none,true⟩]
abbrev v84_2:VC:=(.cond (.t 14) .skip (.exit 0))
abbrev o84_3:List Ins:=[⟨some 16,.ld true 1 (.t 2),none,true⟩,
 ⟨some 17,.call (.k (.fn 82 [])) [(.t 16)],none,true⟩,
 ⟨some 15,.mv (.t 17),none,true⟩,
 ⟨some 18,.ext (.t 15) 0,none,true⟩,
 ⟨some 19,.ext (.t 15) 1,none,true⟩,
 ⟨some 5,.mv (.t 18),none,true⟩,
 ⟨some 6,.mv (.t 19),none,true⟩]
abbrev o84_4:List Ins:=[⟨some 20,.mv (.t 0),none,true⟩,
 ⟨some 21,.ld true 1 (.t 2),none,true⟩,
 ⟨some 22,.mv (.t 6),none,true⟩,
 ⟨some 23,.prim (.sslc false true) [(.t 21),(.t 22)],none,true⟩,
 ⟨some 24,.call (.t 20) [(.t 23)],none,true⟩,
 ⟨some 25,.un .not (.t 24),none,true⟩]
abbrev v84_5:VC:=(.cond (.t 25) .ret .skip)
abbrev o84_6:List Ins:=[⟨some 26,.ld true 1 (.t 2),none,true⟩,
 ⟨some 27,.mv (.t 6),none,true⟩,
 ⟨some 28,.prim (.sslc true false) [(.t 26),(.t 27)],none,true⟩,
 ⟨none,.st 1 (.t 2) (.t 28),none,true⟩]
abbrev v84_7:VC:=(.seq (.seq (.ops o84_4) v84_5) (.ops o84_6))
abbrev v84_8:VC:=(.seq (.ops o84_3) v84_7)
abbrev v84_9:VC:=(.block 1 v84_8)
abbrev v84_10:VC:=(.seq (.seq (.ops o84_1) v84_2) v84_9)
-- K84_1: changed and kept: []
abbrev v84_11:VC:=(.loop v84_10)
abbrev v84_12:VC:=(.seq (.block 0 v84_11) .ret)
abbrev v84_13:VC:=(.cond (.t 11) v84_12 .skip)
abbrev o84_14:List Ins:=[⟨some 29,.ld true 1 (.t 2),none,true⟩,
 ⟨some 30,.ld true 1 (.t 1),none,true⟩,
 ⟨some 31,.call (.k (.fn 85 [])) [(.t 29),(.t 30)],none,true⟩,
 ⟨some 7,.mv (.t 31),none,true⟩]
abbrev o84_15:List Ins:=[⟨some 32,.mv (.t 7),none,true⟩,
 ⟨some 33,.bin .lss (.t 32) (.k (.c (.int .i64 0))),none,true⟩]
abbrev v84_16:VC:=(.cond (.t 33) (.exit 2) .skip)
abbrev o84_17:List Ins:=[⟨some 34,.ld true 1 (.t 2),none,true⟩,
 ⟨some 35,.mv (.t 7),none,true⟩,
 ⟨some 36,.ld true 1 (.t 3),none,true⟩,
 ⟨some 37,.bin .add (.t 35) (.t 36),none,true⟩,
 ⟨some 38,.prim (.sslc false true) [(.t 34),(.t 37)],none,true⟩,
 ⟨some 8,.mv (.t 38),none,true⟩]
abbrev o84_18:List Ins:=[⟨some 39,.mv (.t 0),none,true⟩,
 ⟨some 40,.mv (.t 8),none,true⟩,
 ⟨some 41,.call (.t 39) [(.t 40)],none,true⟩,
 ⟨some 42,.un .not (.t 41),none,true⟩]
abbrev v84_19:VC:=(.cond (.t 42) .ret .skip)
abbrev o84_20:List Ins:=[⟨some 43,.ld true 1 (.t 2),none,true⟩,
 ⟨some 44,.mv (.t 7),none,true⟩,
 ⟨some 45,.ld true 1 (.t 1),none,true⟩,
 ⟨some 46,.prim .slen [(.t 45)],none,true⟩,
 ⟨some 47,.bin .add (.t 44) (.t 46),none,true⟩,
 ⟨some 48,.prim (.sslc true false) [(.t 43),(.t 47)],none,true⟩,
 ⟨none,.st 1 (.t 2) (.t 48),none,true⟩]
abbrev v84_21:VC:=(.seq (.seq (.ops o84_18) v84_19) (.ops o84_20))
abbrev v84_22:VC:=(.seq (.ops o84_17) v84_21)
abbrev v84_23:VC:=(.seq (.seq (.ops o84_15) v84_16) v84_22)
abbrev v84_24:VC:=(.seq (.ops o84_14) v84_23)
abbrev v84_25:VC:=(.block 3 v84_24)
-- K84_2: changed and kept: []
abbrev v84_26:VC:=(.loop v84_25)
abbrev o84_27:List Ins:=[⟨some 49,.mv (.t 0),none,true⟩,
 ⟨some 50,.ld true 1 (.t 2),none,true⟩,
 ⟨some 51,.call (.t 49) [(.t 50)],none,true⟩]
abbrev v84_28:VC:=(.seq (.block 2 v84_26) (.ops o84_27))
def ir84:FC:=⟨4,52,[],(.seq (.seq (.ops o84_0) v84_13) v84_28)⟩
theorem c80:compM Tryd.prog [] 80 = some ir80:=by kernel_rfl
theorem c71:compM Tryd.prog [] 71 = some ir71:=by kernel_rfl
theorem c84:compM Tryd.prog [] 84 = some ir84:=by kernel_rfl
attribute [local go_sem] Nat.reduceEqDiff Nat.reduceAdd Nat.reduceMul reduceIte Nat.reduceLeDiff Nat.reduceLT Nat.reduceBEq reduceCtorEq
def segB (b:UInt8):List UInt8 → List (List UInt8)
 | [] => [[]]
 | x :: s => if x = b then [] :: segB b s else match segB b s with | h :: t => (x :: h) :: t | [] => [[x]]
theorem segB_ne (b:UInt8):∀ s,segB b s ≠ []
 | [] => by simp [segB]
 | x :: s => by
  unfold segB
  split
  ·simp
  ·split <;> simp
theorem segB_none (b:UInt8):∀ s,idxB s b < 0 → segB b s = [s]
 | [],_ => rfl
 | x :: s,h => by
  have hge:=Lib.indexByte_ge s b
  have e:idxB (x :: s) b = if x == b then 0 else if Lib.indexByte s b == -1 then -1 else Lib.indexByte s b + 1:=rfl
  rw [e] at h
  by_cases hx:x = b
  ·simp [hx] at h
  ·have h1:(x == b) = false:=by simpa using hx
   rw [h1] at h
   simp only [Bool.false_eq_true,if_false] at h
   split at h
   ·rename_i h3
    have h4:Lib.indexByte s b = -1:=by simpa using h3
    have ih:=segB_none b s (by unfold idxB; omega)
    simp [segB,hx,ih]
   ·rename_i h3
    have:Lib.indexByte s b ≠ -1:=by simpa using h3
    omega
theorem segB_some (b:UInt8):∀ s,0 ≤ idxB s b → (idxB s b).toNat < s.length ∧ segB b s = s.take (idxB s b).toNat :: segB b (s.drop ((idxB s b).toNat + 1))
 | [],h => by simp [idxB,Lib.indexByte] at h
 | x :: s,h => by
  have hge:=Lib.indexByte_ge s b
  have e:idxB (x :: s) b = if x == b then 0 else if Lib.indexByte s b == -1 then -1 else Lib.indexByte s b + 1:=rfl
  rw [e] at h ⊢
  by_cases hx:x = b
  ·simp [hx,segB]
  ·have h1:(x == b) = false:=by simpa using hx
   rw [h1] at h ⊢
   simp only [Bool.false_eq_true,if_false] at h ⊢
   split at h
   ·omega
   ·rename_i h3
    have h3':Lib.indexByte s b ≠ -1:=by simpa using h3
    obtain ⟨k1,k2⟩:=segB_some b s (by unfold idxB; omega)
    unfold idxB at k1 k2
    rw [if_neg h3]
    have e2:(Lib.indexByte s b + 1).toNat = (Lib.indexByte s b).toNat + 1:=by omega
    rw [e2]
    refine ⟨by simpa using k1,?_⟩
    simp only [segB,hx,if_false,List.take_succ_cons,List.drop_succ_cons]
    rw [k2]
theorem splitseq95 (s sep:List UInt8) (n:Int):FSpecN Tryd.prog 80 [sv s,sv sep,iv n] (fun r os => r = .fn 84 [.bp 1000 0,.bp 1001 0,.bp 1002 0] ∧ os = [.box [sv sep],.box [sv s],.box [iv n]]):=by
 refine FSpecN_of c80 (Nat.le_refl _) (by decide) fun C hP hN hC hL => ?_; rw [init_st]
 simp only [ir80]
 (repeat ((first | refine Va ?_ | refine Vb ?_ | refine Vc ?_ | refine Vd ?_ | refine Ve ?_ | refine Vf ?_); (try simp only [go_sem,hP]); (repeat refine qJ ?_)))
 (refine WV_ret ?_; simp only [thenQ,inQ,RetQN,RetOkN,resAll,resA]; simp only [go_sem,tupA])
 refine ⟨[4,3,5],_,_,_,by decide,by decide,rfl,AVle.refl _,rfl,rfl,rfl⟩
theorem splitseq78 (s sep:List UInt8):FSpecN Tryd.prog 71 [sv s,sv sep] (fun r os => r = .fn 84 [.bp 1000 0,.bp 1001 0,.bp 1002 0] ∧ os = [.box [sv sep],.box [sv s],.box [iv 0]]):=by
 refine FSpecN_of c71 (Nat.le_refl _) (by decide) fun C hP hN hC hL => ?_; rw [init_st]
 simp only [ir71]
 (repeat ((first | refine Va ?_ | refine Vb ?_ | refine Vc ?_ | refine Vd ?_ | refine Ve ?_ | refine Vf ?_); (try simp only [go_sem,hP]); (repeat refine qJ ?_)))
 refine AS_new (splitseq95 s sep 0) rfl rfl rfl rfl ?_
 rintro r os ⟨rfl,rfl⟩
 refine ⟨[20,21,22],_,_,by decide,rfl,rfl,rfl,rfl,?_⟩
 simp only [go_sem,hP,ownBack]
 (repeat ((first | refine Va ?_ | refine Vb ?_ | refine Vc ?_ | refine Vd ?_ | refine Ve ?_ | refine Vf ?_); (try simp only [go_sem,hP]); (repeat refine qJ ?_)))
 (refine WV_ret ?_; simp only [thenQ,inQ,RetQN,RetOkN,resAll,resA]; simp only [go_sem,tupA])
 refine ⟨[20,21,22],_,_,_,by decide,by decide,rfl,AVle.refl _,rfl,rfl,rfl⟩
def entS (x:List UInt8) (r:Bool):Ent:=⟨[sv x],[],bv r⟩
inductive OkRem:List (List UInt8) → List Ent → Prop
 | last (x:List UInt8) (r:Bool):OkRem [x] [entS x r]
 | stop (x:List UInt8) (l:List (List UInt8)):OkRem (x :: l) [entS x false]
 | more (x:List UInt8) (l:List (List UInt8)) (rem:List Ent):OkRem l rem → OkRem (x :: l) (entS x true :: rem)
theorem okRem_one {x:List UInt8} {rem:List Ent} (h:OkRem [x] rem):∃ r,rem = [entS x r]:=by
 cases h with
 | last _ r => exact ⟨r,rfl⟩
 | stop => exact ⟨false,rfl⟩
 | more _ _ rem h => cases h
theorem okRem_cons {x:List UInt8} {l:List (List UInt8)} {rem:List Ent} (h:OkRem (x :: l) rem) (hl:l ≠ []):rem = [entS x false] ∨ ∃ rem2,rem = entS x true :: rem2 ∧ OkRem l rem2:=by
 cases h with
 | last _ r => exact (hl rfl).elim
 | stop => exact .inl rfl
 | more _ _ rem h => exact .inr ⟨rem,rfl,h⟩
set_option maxRecDepth 20000 in
set_option maxHeartbeats 4000000 in
theorem split104 (g:Gst) (b:UInt8) {s:List UInt8} (hs:s.length ≤ 100000) {rem:List Ent} (hrem:OkRem (segB b s) rem):FSpecL Tryd.prog 84 [.c (.raw g.fv),.bp 1001 0,.bp 1002 0,.bp 1003 0] [.guest g rem,.box [sv [b]],.box [sv s],.box [iv 0]] [] (fun r l' => r = .tup [] ∧ ∃ s',l' = [.guest g [],.box [sv [b]],.box [sv s'],.box [iv 0]]):=by
 have hmax:maxLen = 9223372036854775807:=rfl
 refine FSpecL_of c84 (by first | simp | exact Nat.le_of_ble_eq_true rfl) (Nat.le_refl _) (by decide) (by decide) fun C hP hN hC hL => ?_; rw [init_env',ownW_upd (by first | simp | exact Nat.le_of_ble_eq_true rfl)]; simp only [ir84,updL,updLo,List.map_nil,List.map_cons,Nat.reduceAdd,]
 (repeat ((first | refine Va ?_ | refine Vb ?_ | refine Vc ?_ | refine Vd ?_ | refine Ve ?_ | refine Vf ?_); (try simp only [go_sem,hP,List.length_singleton,Int.natCast_one,Int.reduceBEq]); (repeat refine qJ ?_)))
 (refine WV_cond rfl (fun h => ?_) (fun h => ?_))
 ·simp at h
 ·(repeat ((first | refine Va ?_ | refine Vb ?_ | refine Vc ?_ | refine Vd ?_ | refine Ve ?_ | refine Vf ?_); (try simp only [go_sem,hP]); (repeat refine qJ ?_)))
  refine WV_loopS (fun p:List UInt8 × List Ent => ⟨upd (upd (upd (upd e0 0 (.c (.raw g.fv))) 1 (.bp 1001 0)) 2 (.bp 1002 0)) 3 (.bp 1003 0),upd (upd (upd (upd o0 1000 (.guest g p.2)) 1001 (.box [sv [b]])) 1002 (.box [sv p.1])) 1003 (.box [iv 0])⟩) (fun p => OkRem (segB b p.1) p.2 ∧ p.1.length ≤ 100000) (fun p => p.1.length) (s,rem) ⟨hrem,hs⟩ ?_ ?_
  ·exact Sub_au
  rintro ⟨s',rem'⟩ ⟨hr,hs'⟩
  simp only at hr hs'
  (repeat ((first | refine Va ?_ | refine Vb ?_ | refine Vc ?_ | refine Vd ?_ | refine Ve ?_ | refine Vf ?_); (try simp only [go_sem,hP]); (repeat refine qJ ?_)))
  (refine AS_pu (index80 s' b) ?_; simp only [go_sem,hP]; (repeat refine qJ ?_); (repeat ((first | refine Va ?_ | refine Vb ?_ | refine Vc ?_ | refine Vd ?_ | refine Ve ?_ | refine Vf ?_); (try simp only [go_sem,hP]); (repeat refine qJ ?_))))
  (refine WV_cond rfl (fun h => ?_) (fun h => ?_))
  ·have hlt:idxB s' b < 0:=by simpa using h
   rw [segB_none b s' hlt] at hr
   obtain ⟨r,rfl⟩:=okRem_one hr
   (repeat ((first | refine Va ?_ | refine Vb ?_ | refine Vc ?_ | refine Vd ?_ | refine Ve ?_ | refine Vf ?_); (try simp only [go_sem,hP]); (repeat refine qJ ?_)))
   refine AS_guest 1000 [] (e:=entS s' r) (rem:=[]) rfl rfl rfl rfl (by decide) rfl trivial ?_
   simp only [go_sem,hP]
   ((try simp only [thenQ,inQ,RetQL,RetOkL,resAll,resA]); (try simp only [go_sem,tupA,AV.keepP,AV.keepPL]); refine ⟨_,[.guest g [],.box [sv [b]],.box [sv s'],.box [iv 0]],rfl,KeepL_mk rfl rfl ?_ ?_ rfl,?_⟩)
   ·simp only [go_sem,keepAll,Ob.keepP,AV.keepP,AV.keepPL]
   ·trivial
   ·exact ⟨rfl,s',rfl⟩
  ·have hge:0 ≤ idxB s' b:=by simpa using h
   obtain ⟨k1,k2⟩:=segB_some b s' hge
   rw [k2] at hr
   obtain ⟨i,hi⟩ : ∃ i:Nat,idxB s' b = i:=⟨(idxB s' b).toNat,by omega⟩
   rw [hi] at k1 hr
   simp only [Int.toNat_natCast] at k1 hr
   have hw1:=w64 (n:=(i:Int)) (by omega) (by omega)
   have hw2:=w64 (n:=(i:Int) + 1) (by omega) (by omega)
   rw [hi]
   (repeat ((first | refine Va ?_ | refine Vb ?_ | refine Vc ?_ | refine Vd ?_ | refine Ve ?_ | refine Vf ?_); (try simp only [go_sem,hP,hw1,Int.add_zero,Int.toNat_natCast]); (repeat refine qJ ?_)))
   rcases okRem_cons hr (segB_ne b _) with rfl | ⟨rem2,rfl,hr2⟩
   ·refine AS_guest 1000 [] (e:=entS (s'.take i) false) (rem:=[]) rfl rfl rfl rfl (by decide) rfl trivial ?_
    simp only [go_sem,hP,entS]
    (refine WV_cond rfl (fun h => ?_) (fun h => ?_))
    ·refine WV_ret ?_
     simp only [go_sem]
     ((try simp only [thenQ,inQ,RetQL,RetOkL,resAll,resA]); (try simp only [go_sem,tupA,AV.keepP,AV.keepPL]); refine ⟨_,[.guest g [],.box [sv [b]],.box [sv s'],.box [iv 0]],rfl,KeepL_mk rfl rfl ?_ ?_ rfl,?_⟩)
     ·simp only [go_sem,keepAll,Ob.keepP,AV.keepP,AV.keepPL]
     ·trivial
     ·exact ⟨rfl,s',rfl⟩
    ·simp at h
   ·refine AS_guest 1000 [] (e:=entS (s'.take i) true) (rem:=rem2) rfl rfl rfl rfl (by decide) rfl trivial ?_
    simp only [go_sem,hP,entS]
    (refine WV_cond rfl (fun h => ?_) (fun h => ?_))
    ·simp at h
    ·have ht1:((i:Int) + 1).toNat = i + 1:=by omega
     (repeat ((first | refine Va ?_ | refine Vb ?_ | refine Vc ?_ | refine Vd ?_ | refine Ve ?_ | refine Vf ?_); (try simp only [go_sem,hP,hw2,List.length_singleton,Int.natCast_one,ht1]); (repeat refine qJ ?_)))
     refine ⟨(s'.drop (i + 1),rem2),⟨hr2,by rw [List.length_drop]; omega⟩,by simp only [List.length_drop]; omega,?_⟩
     exact Sub_au
end Go.Proofs.YtdoidahbimonhaaDoor

namespace Go.Proofs.YtdoidahbimonhaaDoor
open Go Go.V
abbrev o47_0:List Ins:=[⟨some 2,.alloc [(.c (.raw (.slice none 0 0)))],none,true⟩,
 ⟨some 3,.alloc [(.c (.int .i64 0))],none,true⟩]
abbrev o47_1:List Ins:=[⟨some 10,.mv (.t 0),none,true⟩,
 ⟨some 11,.call (.k (.fn 27 [])) [(.t 10),(.k (.c (.str [10])))],none,true⟩,
 ⟨some 9,.mv (.t 11),none,true⟩,
 ⟨some 12,.ext (.t 9) 0,none,true⟩,
 ⟨some 13,.ext (.t 9) 1,none,true⟩,
 ⟨some 4,.mv (.t 12),none,true⟩,
 ⟨some 5,.mv (.t 13),none,true⟩]
abbrev o47_2:List Ins:=[⟨some 14,.mv (.t 5),none,true⟩,
 ⟨some 15,.un .not (.t 14),none,true⟩]
abbrev o47_3:List Ins:=[⟨none,.st 1 (.t 2) (.k (.c (.raw (.slice none 0 0)))),none,true⟩,
 ⟨none,.st 1 (.t 3) (.k (.c (.int .i64 140))),none,true⟩]
abbrev v47_4:VC:=(.seq (.ops o47_3) .ret)
abbrev v47_5:VC:=(.cond (.t 15) v47_4 .skip)
abbrev o47_6:List Ins:=[⟨some 6,.alloc [(.c (.raw (.slice none 0 0)))],none,true⟩]
abbrev o47_7:List Ins:=[⟨some 16,.mv (.t 4),none,true⟩,
 ⟨some 17,.call (.k (.fn 71 [])) [(.t 16),(.k (.c (.str [10])))],none,true⟩]
abbrev o47_8:List Ins:=[⟨some 19,.ld true 1 (.t 6),none,true⟩,
 ⟨some 20,.mv (.t 7),none,true⟩,
 ⟨some 21,.raw (.convert 9 51 (.tmp 20)),none,true⟩,
 ⟨some 22,.bslv 51 1 [(.t 21)],none,true⟩,
 ⟨some 23,.appv 51 1 24 (.t 19) (.t 22),none,true⟩,
 ⟨none,.st 1 (.t 6) (.t 23),none,true⟩]
abbrev o47_9:List Ins:=[⟨some 24,.mv (.t 7),none,true⟩,
 ⟨some 25,.prim .slen [(.t 24)],none,true⟩,
 ⟨some 26,.bin .lss (.t 25) (.k (.c (.int .i64 2))),none,true⟩,
 ⟨some 27,.mv (.t 26),none,true⟩,
 ⟨some 28,.mv (.t 7),(some (27,false)),true⟩,
 ⟨some 29,.prim .slen [(.t 28)],(some (27,false)),true⟩,
 ⟨some 30,.bin .gtr (.t 29) (.k (.c (.int .i64 32))),(some (27,false)),true⟩,
 ⟨some 31,.pick (.t 27) (.k (.c (.bool true))) (.t 30),none,true⟩,
 ⟨some 32,.mv (.t 31),none,true⟩,
 ⟨some 33,.mv (.t 7),(some (32,false)),true⟩,
 ⟨some 34,.prim .slen [(.t 33)],(some (32,false)),true⟩,
 ⟨some 35,.ld true 1 (.t 6),(some (32,false)),true⟩,
 ⟨some 36,.ia 1 (.t 35) (.k (.c (.int .i64 0))),(some (32,false)),true⟩,
 ⟨some 37,.ld true 1 (.t 36),(some (32,false)),true⟩,
 ⟨some 38,.len (.t 37),(some (32,false)),true⟩,
 ⟨some 39,.bin .neq (.t 34) (.t 38),(some (32,false)),true⟩,
 ⟨some 40,.pick (.t 32) (.k (.c (.bool true))) (.t 39),none,true⟩,
 ⟨some 41,.mv (.t 40),none,true⟩,
 ⟨some 42,.ld true 1 (.t 6),(some (41,false)),true⟩,
 ⟨some 43,.len (.t 42),(some (41,false)),true⟩,
 ⟨some 44,.bin .gtr (.t 43) (.k (.c (.int .i64 41))),(some (41,false)),true⟩,
 ⟨some 45,.pick (.t 41) (.k (.c (.bool true))) (.t 44),none,true⟩]
abbrev o47_10:List Ins:=[⟨none,.st 1 (.t 2) (.k (.c (.raw (.slice none 0 0)))),none,true⟩,
 ⟨none,.st 1 (.t 3) (.k (.c (.int .i64 140))),none,true⟩]
abbrev v47_11:VC:=(.seq (.ops o47_10) .ret)
abbrev v47_12:VC:=(.cond (.t 45) v47_11 .skip)
abbrev o47_13:List Ins:=[⟨some 46,.mv (.t 7),none,true⟩,
 ⟨some 47,.prim .slen [(.t 46)],none,true⟩,
 ⟨some 48,.mv (.k (.c (.int .i64 0))),none,true⟩]
abbrev o47_14:List Ins:=[⟨some 49,.bin .lss (.t 48) (.t 47),none,true⟩]
abbrev o47_15:List Ins:=[⟨some 50,.mv (.t 48),none,true⟩,
 ⟨some 8,.mv (.t 50),none,true⟩]
abbrev o47_16:List Ins:=[⟨some 51,.mv (.t 7),none,true⟩,
 ⟨some 52,.mv (.t 8),none,true⟩,
 ⟨some 53,.prim .sidx [(.t 51),(.t 52)],none,true⟩,
 ⟨some 54,.bin .neq (.t 53) (.k (.c (.int .u8 63))),none,true⟩,
 ⟨some 55,.mv (.t 54),none,true⟩,
 ⟨some 56,.mv (.t 7),(some (55,true)),true⟩,
 ⟨some 57,.mv (.t 8),(some (55,true)),true⟩,
 ⟨some 58,.prim .sidx [(.t 56),(.t 57)],(some (55,true)),true⟩,
 ⟨some 59,.call (.k (.fn 38 [])) [(.t 58)],(some (55,true)),true⟩,
 ⟨some 60,.bin .lss (.t 59) (.k (.c (.int .i64 0))),(some (55,true)),true⟩,
 ⟨some 61,.pick (.t 55) (.t 60) (.k (.c (.bool false))),none,true⟩]
abbrev o47_17:List Ins:=[⟨none,.st 1 (.t 2) (.k (.c (.raw (.slice none 0 0)))),none,true⟩,
 ⟨none,.st 1 (.t 3) (.k (.c (.int .i64 140))),none,true⟩]
abbrev v47_18:VC:=(.seq (.ops o47_17) .ret)
abbrev v47_19:VC:=(.cond (.t 61) v47_18 .skip)
abbrev v47_20:VC:=(.seq (.ops o47_16) v47_19)
abbrev v47_21:VC:=(.seq (.ops o47_15) v47_20)
abbrev o47_22:List Ins:=[⟨some 62,.bin .add (.t 48) (.k (.c (.int .i64 1))),none,true⟩,
 ⟨some 48,.mv (.t 62),none,true⟩]
abbrev v47_23:VC:=(.seq (.block 3 v47_21) (.ops o47_22))
abbrev v47_24:VC:=(.seq (.cond (.t 49) .skip (.exit 2)) v47_23)
abbrev v47_25:VC:=(.seq (.ops o47_14) v47_24)
-- K47_2: changed and kept: [48]
abbrev v47_26:VC:=(.loop v47_25)
abbrev v47_27:VC:=(.block 2 v47_26)
abbrev v47_28:VC:=(.seq (.ops o47_13) v47_27)
abbrev v47_29:VC:=(.seq (.seq (.ops o47_9) v47_12) v47_28)
abbrev v47_30:VC:=(.seq (.ops o47_8) v47_29)
abbrev v47_31:VC:=(.block 1 v47_30)
abbrev o47_32:List Ins:=[⟨some 7,.mv (.t 18),none,true⟩]
abbrev v47_33:VC:=(.rng (.t 17) [18] (.ops o47_32) v47_31)
abbrev v47_34:VC:=(.block 0 v47_33)
abbrev o47_35:List Ins:=[⟨some 63,.ld true 1 (.t 6),none,true⟩,
 ⟨none,.st 1 (.t 2) (.t 63),none,true⟩,
 ⟨none,.st 1 (.t 3) (.k (.c (.int .i64 0))),none,true⟩]
abbrev v47_36:VC:=(.seq (.ops o47_35) .ret)
abbrev v47_37:VC:=(.seq (.seq (.ops o47_7) v47_34) v47_36)
abbrev v47_38:VC:=(.seq (.ops o47_6) v47_37)
abbrev v47_39:VC:=(.seq (.seq (.ops o47_2) v47_5) v47_38)
abbrev v47_40:VC:=(.seq (.ops o47_1) v47_39)
def ir47:FC:=⟨1,64,[.cell 2 true 1,.cell 3 true 1],(.seq (.ops o47_0) v47_40)⟩
theorem c47:compM Tryd.prog [100022,100023] 47 = some ir47:=by kernel_rfl
attribute [local go_sem] Nat.reduceEqDiff Nat.reduceAdd Nat.reduceMul reduceIte Nat.reduceLeDiff Nat.reduceLT Nat.reduceBEq reduceCtorEq
def okB (b:UInt8):Bool:=decide (b.toNat = 63) || decide (0 ≤ valB b)
def okSeg (w k:Nat) (l:List UInt8):Bool:=decide (2 ≤ l.length) && decide (l.length ≤ 32) && decide (l.length = w) && decide (k ≤ 41) && l.all okB
def remF (w:Nat):Nat → List (List UInt8) → List Ent
 | _,[] => []
 | k,l :: t => if okSeg w (k + 1) l then entS l true :: remF w (k + 1) t else [entS l false]
theorem remF_ok (w:Nat):∀ (k:Nat) (l:List (List UInt8)),l ≠ [] → OkRem l (remF w k l)
 | k,[],h => (h rfl).elim
 | k,[x],_ => by
  unfold remF
  split
  ·exact .last x true
  ·exact .stop x []
 | k,x :: y :: t,_ => by
  unfold remF
  split
  ·exact .more x _ _ (remF_ok w (k + 1) (y :: t) (by simp))
  ·exact .stop x _
def nilC:CD:=.raw (.slice none 0 0)
def arrC (arr:Option Value):CD:=match arr with | some v => .raw v | none => .raw (.slice none 0 0)
def objP (rows:List RB) (arr:Option Value):List Ob:=[.box [.c nilC],.box [iv 0],.box [.c (arrC arr)],hold rows arr]
def envP:Nat → AV:=upd (upd (upd e0 2 (.bp 1000 0)) 3 (.bp 1001 0)) 6 (.bp 1002 0)
def badP (l':List Ob):Prop:=∃ rows v,l' = [.box [.c nilC],.box [iv 140],.box [.c (.raw v)],hold rows (some v)]
def PostP (rows:List RB) (l:List UInt8) (ok:Bool) (j:Option Exit) (l':List Ob):Prop :=
 if ok then j = none ∧ ∃ rows' v,rows'.map RB.l = rows.map RB.l ++ [l] ∧ l' = objP rows' (some v) else j = some .ret ∧ badP l'
def headW (rows:List RB) (l:List UInt8):Nat:=match rows with | [] => l.length | r :: _ => r.l.length
theorem prgL_non (d:Nat):∀ j:Nat,AV.prgL d (List.replicate j .non) = List.replicate j .non
 | 0 => rfl
 | j + 1 => by simp only [List.replicate_succ,AV.prgL,AV.prg,prgL_non d j]
theorem cells_one (r:RB) (j:Nat):cellsG RB.cd [r] j = .c (.raw r.val) :: List.replicate j .non:=rfl
theorem cells_snoc (rows:List RB) (r:RB) (j:Nat):cellsG RB.cd (rows ++ [r]) j = cellsG RB.cd rows 0 ++ (.c (.raw r.val) :: List.replicate j .non):=by simp [cellsG,flatG,RB.cd]
theorem rcd_one (r:RB):(r.cd).length = 1:=rfl
theorem okB_eq (b:UInt8):((!(((b.toNat:Int)) == 63)) && decide (valB b < 0)) = !okB b:=by
 unfold okB
 rw [Bool.eq_iff_iff]
 simp
 omega
set_option maxRecDepth 20000 in
set_option maxHeartbeats 8000000 in
theorem roundP {rows:List RB} {arr:Option Value} {l:List UInt8} {w:Nat} (hl:l.length ≤ 100000) (hrl:rows.length ≤ 41) (harr:(rows = [] ∧ arr = none) ∨ (rows ≠ [] ∧ ∃ v,arr = some v)) (hw:headW rows l = w) :
  Rnd Tryd.prog 64 [18] (.ops o47_32) v47_31 envP (entS l (okSeg w (rows.length + 1) l)) (objP rows arr) (PostP rows l (okSeg w (rows.length + 1) l)):=by
 have hmax:maxLen = 9223372036854775807:=rfl
 intro C1 h1 h2 h3 h4
 have hP:=h1
 rw [ownW_upd (by simp [objP])]
 simp only [go_sem,List.zip_cons_cons,List.zip_nil_right,updLo,entS,envP,objP]
 (repeat ((first | refine Va ?_ | refine Vb ?_ | refine Vc ?_ | refine Vd ?_ | refine Ve ?_ | refine Vf ?_); (try simp only [go_sem,hP]); (repeat refine qJ ?_)))
 intro C h1 h2 h3 h4
 replace hP:=h1
 refine WV_block ?_
 -- the state behind the first region
 have tail:∀ (b o:Nat) (rcap cap j:Nat),rows.length + 1 ≤ cap → cap ≤ maxLen → cap ≤ rows.length + 1 + j →
   WV C v47_29 (inQ 1 fun ex σ2 => ∃ j l',jumpOf ex = some j ∧ KeepL (objP rows arr) [] σ2 l' ∧ PostP rows l (okSeg w (rows.length + 1) l) j l')
    (⟨upd (upd (upd (upd e0 2 (.bp 1000 0)) 3 (.bp 1001 0)) 6 (.bp 1002 0)) 7 (sv l),upd (upd (upd (upd (upd o0 1000 (.box [.c nilC])) 1001 (.box [iv 0])) 1002 (.box [.vw 1 23 0 (rows.length + 1) cap])) 23 (.box (cellsG RB.cd (rows ++ [⟨b,o,l,rcap⟩]) j))) 1003 (hold (rows ++ [⟨b,o,l,rcap⟩]) none)⟩ : V.St):=by
  intro b o rcap cap j k1 k2 k3
  obtain ⟨b0,o0,c0,X,hc0⟩ : ∃ b0 o0 c0 X,cellsG RB.cd (rows ++ [⟨b,o,l,rcap⟩]) j = .c (.raw (.slice (some ⟨b0,o0,none⟩) w c0)) :: X:=by
   cases rows with
   | nil => simp only [headW] at hw; subst hw; exact ⟨b,o,rcap,_,rfl⟩
   | cons r t => simp only [headW] at hw; subst hw; exact ⟨r.b,r.o,r.cap,_,rfl⟩
  have hgive:∀ {v:VC} {Q:Exit → V.St → Prop} {env:Nat → AV} {own:Nat → Ob},own 1003 = hold (rows ++ [⟨b,o,l,rcap⟩]) none → own 23 = .box (.c (.raw (.slice (some ⟨b0,o0,none⟩) w c0)) :: X) → own 1002 = .box [.vw 1 23 0 (rows.length + 1) cap] →
    (∀ x,WV C v Q ⟨env,upd (upd (upd own 1002 (.box [.c (.raw x)])) 23 .none) 1003 (hold (rows ++ [⟨b,o,l,rcap⟩]) (some x))⟩) → WV C v Q ⟨env,own⟩:=by
   intro v Q env own e1 e2 e3 e4
   exact WV_giveB 1003 23 1002 (j:=j) (cap:=cap) (rows:=rows ++ [⟨b,o,l,rcap⟩]) (by decide) e1 (by rw [hc0]; exact e2) (by decide) (by decide) (by rw [List.length_append]; exact e3) (by simp) (by simp; omega) e4
  have hmap:(rows ++ [(⟨b,o,l,rcap⟩ : RB)]).map RB.l = rows.map RB.l ++ [l]:=by simp
  rw [hc0]
  generalize hrr:rows ++ [(⟨b,o,l,rcap⟩ : RB)] = rows' at hgive hmap
  have hkeep:∀ (n:Int) (x:Value) (env:Nat → AV) (own:Nat → Ob),own 1000 = .box [.c nilC] → own 1001 = .box [iv n] → own 1002 = .box [.c (.raw x)] → own 1003 = hold rows' (some x) → KeepL (objP rows arr) [] ⟨env,own⟩ [.box [.c nilC],.box [iv n],.box [.c (.raw x)],hold rows' (some x)]:=by
   intro n x env own e1 e2 e3 e4
   refine KeepL_mk rfl rfl ?_ trivial rfl
   simp only [keepAll,Nat.reduceAdd,e1,e2,e3,e4,hold,Ob.keepP,AV.keepP,AV.keepPL,Option.map_some,and_self]
  have hbad:okSeg w (rows.length + 1) l = false → ∀ (x:Value) (env:Nat → AV) (own:Nat → Ob),own 1000 = .box [.c nilC] → own 1001 = .box [iv 140] → own 1002 = .box [.c (.raw x)] → own 1003 = hold rows' (some x) → ∃ jj l',jumpOf .ret = some jj ∧ KeepL (objP rows arr) [] ⟨env,own⟩ l' ∧ PostP rows l (okSeg w (rows.length + 1) l) jj l':=by
   intro hf x env own e1 e2 e3 e4
   refine ⟨some .ret,_,rfl,hkeep 140 x env own e1 e2 e3 e4,?_⟩
   unfold PostP
   rw [hf]
   exact ⟨rfl,rows',x,rfl⟩
  refine WV_seq_ (WV_seq_ ?_)
  (refine WV_op ?_; simp only [go_sem,hP,List.getD_cons_zero,List.length_cons,hold]; (repeat refine qJ ?_))
  (refine WV_cond rfl (fun h => ?_) (fun h => ?_))
  ·have hf:okSeg w (rows.length + 1) l = false:=by
    unfold okSeg
    rw [Bool.eq_false_iff]
    intro hc
    simp only [Bool.and_eq_true,decide_eq_true_eq] at hc
    obtain ⟨⟨⟨⟨q1,q2⟩,q3⟩,q4⟩,_⟩:=hc
    simp [q3] at h
    omega
   (repeat ((first | refine Va ?_ | refine Vb ?_ | refine Vc ?_ | refine Vd ?_ | refine Ve ?_ | refine Vf ?_); (try simp only [go_sem,hP,hold]); (repeat refine qJ ?_)))
   refine hgive (by rfl) (by rfl) (by rfl) fun x => ?_
   refine WV_ret ?_
   exact hbad hf x _ _ (by rfl) (by rfl) (by rfl) (by rfl)
  ·have hh:2 ≤ l.length ∧ l.length ≤ 32 ∧ l.length = w ∧ rows.length + 1 ≤ 41:=by
    simp at h
    omega
   (refine WV_skip ?_; simp only [go_sem])
   refine WV_keep [2,3,6,7] ?_
   simp only [go_sem]
   (repeat ((first | refine Va ?_ | refine Vb ?_ | refine Vc ?_ | refine Vd ?_ | refine Ve ?_ | refine Vf ?_); (try simp only [go_sem,hP]); (repeat refine qJ ?_)))
   refine WV_loopS (fun i:Nat => ⟨upd (upd (upd (upd (upd (upd e0 2 (.bp 1000 0)) 3 (.bp 1001 0)) 6 (.bp 1002 0)) 7 (sv l)) 47 (iv l.length)) 48 (iv i),upd (upd (upd (upd (upd V.o0 1000 (.box [.c nilC])) 1001 (.box [iv 0])) 1002 (.box [.vw 1 23 0 (rows.length + 1) cap])) 23 (.box (.c (.raw (.slice (some ⟨b0,o0,none⟩) w c0)) :: X))) 1003 (hold rows' none)⟩) (fun i => i ≤ l.length ∧ ∀ k (hk:k < l.length),k < i → okB l[k] = true) (fun i => l.length - i) 0 ⟨Nat.zero_le _,fun _ _ h => by omega⟩ ?_ ?_
   ·simp only [hold]
    exact Sub_au
   ·intro i ⟨hi1,hi2⟩
    (repeat ((first | refine Va ?_ | refine Vb ?_ | refine Vc ?_ | refine Vd ?_ | refine Ve ?_ | refine Vf ?_); (try simp only [go_sem,hP]); (repeat refine qJ ?_)))
    (refine WV_cond rfl (fun h => ?_) (fun h => ?_))
    ·have hi:i < l.length:=by simpa using h
     have hw2:=w64 (n:=(i:Int) + 1) (by omega) (by omega)
     (repeat ((first | refine Va ?_ | refine Vb ?_ | refine Vc ?_ | refine Vd ?_ | refine Ve ?_ | refine Vf ?_); (try simp only [go_sem,hP,Int.toNat_natCast,Int.ofNat_lt,hi,Int.natCast_nonneg,str_at hi]); (repeat refine qJ ?_)))
     (refine AG_pu (fun hG => value79 l[i]) ?_; simp only [go_sem,hP]; (repeat refine qJ ?_); (repeat ((first | refine Va ?_ | refine Vb ?_ | refine Vc ?_ | refine Vd ?_ | refine Ve ?_ | refine Vf ?_); (try simp only [go_sem,hP]); (repeat refine qJ ?_))))
     (refine WV_cond rfl (fun h => ?_) (fun h => ?_))
     ·have hnb:okB l[i] = false:=by
       have:=okB_eq l[i]
       rw [show (((l[i]).toNat:Int) != 63) = !(((l[i]).toNat:Int) == 63) from rfl,this] at h
       simpa using h
      have hf:okSeg w (rows.length + 1) l = false:=by
       unfold okSeg
       rw [all_not (k:=i) (by assumption) hnb,Bool.and_false]
      (repeat ((first | refine Va ?_ | refine Vb ?_ | refine Vc ?_ | refine Vd ?_ | refine Ve ?_ | refine Vf ?_); (try simp only [go_sem,hP,hold]); (repeat refine qJ ?_)))
      refine hgive (by rfl) (by rfl) (by rfl) fun x => ?_
      refine WV_ret ?_
      exact hbad hf x _ _ (by rfl) (by rfl) (by rfl) (by rfl)
     ·have hnb:okB l[i] = true:=by
       have:=okB_eq l[i]
       rw [show (((l[i]).toNat:Int) != 63) = !(((l[i]).toNat:Int) == 63) from rfl,this] at h
       simpa using h
      (repeat ((first | refine Va ?_ | refine Vb ?_ | refine Vc ?_ | refine Vd ?_ | refine Ve ?_ | refine Vf ?_); (try simp only [go_sem,hP,hw2]); (repeat refine qJ ?_)))
      refine ⟨i + 1,⟨by omega,fun k hk hki => ?_⟩,by omega,?_⟩
      ·rcases Nat.lt_or_ge k i with h1 | h1
       ·exact hi2 k hk h1
       ·have:k = i:=by omega
        subst this
        exact hnb
      ·simp only [hold]
       exact Sub_au
    ·have hi:i = l.length:=by simp at h; omega
     subst hi
     refine hgive (by rfl) (by rfl) (by rfl) fun x => ?_
     refine WV_exit ?_
     have hok:okSeg w (rows.length + 1) l = true:=by
      unfold okSeg
      simp only [Bool.and_eq_true,decide_eq_true_eq]
      exact ⟨⟨⟨⟨hh.1,hh.2.1⟩,hh.2.2.1⟩,hh.2.2.2⟩,all_take fun k hk => hi2 k hk hk⟩
     refine ⟨none,_,rfl,hkeep 0 x _ _ (by rfl) (by rfl) (by rfl) (by rfl),?_⟩
     unfold PostP
     rw [hok]
     exact ⟨rfl,rows',x,hmap,rfl⟩
 rcases harr with ⟨rfl,rfl⟩ | ⟨hne,v,rfl⟩
 ·refine WV_seq_ ?_
  (refine WV_split 3 ?_; simp only [List.take_succ_cons,List.take_zero,List.take_nil,List.drop_succ_cons,List.drop_zero,List.drop_nil]; simp only [go_sem,hP,arrC,hold]; (repeat refine qJ ?_))
  refine raw_sb (x':=.t 20) (e:=5) (by kernel_rfl) (by kernel_rfl) (by kernel_rfl) rfl rfl rfl rfl (by omega) ?_
  intro cap j k1 k2 k3
  simp only [go_sem,prg_cellsG,hold]
  refine SOps_absorb 1003 21 21 (rows:=[]) (by decide) rfl rfl rfl k3 ?_
  intro b o
  (refine SOps_ops ?_; simp only [go_sem,hP,RB.val,hold,prgL_non]; (repeat refine qJ ?_))
  intro cap1 j1 q1 q2 q3
  refine WV_sub ?_ (tail b o cap cap1 j1 (by simpa using q1) q2 (by simp; omega))
  simp only [List.nil_append,cells_one,hold,List.length_nil,RB.val]
  exact Sub_au
 ·refine WV_takeB 1003 601 1002 (by decide) rfl rfl (by decide) (by decide) (by decide) rfl ?_
  intro cap0 j0 p1 p2 p3
  simp only [go_sem,hold]
  refine WV_seq_ ?_
  (refine WV_split 3 ?_; simp only [List.take_succ_cons,List.take_zero,List.take_nil,List.drop_succ_cons,List.drop_zero,List.drop_nil]; simp only [go_sem,hP,hold]; (repeat refine qJ ?_))
  refine raw_sb (x':=.t 20) (e:=5) (by kernel_rfl) (by kernel_rfl) (by kernel_rfl) rfl rfl rfl rfl (by omega) ?_
  intro cap j k1 k2 k3
  simp only [go_sem,prg_cellsG,hold]
  refine SOps_absorb 1003 21 21 (rows:=rows) (by decide) rfl rfl rfl k3 ?_
  intro b o
  have hcl:(cellsG RB.cd rows j0).length = rows.length + j0:=by rw [cellsG_len rcd_one]; omega
  have htk:(cellsG RB.cd rows j0).take (rows.length * 1) = cellsG RB.cd rows 0:=cellsG_take rcd_one rows j0
  rw [Nat.mul_one] at htk
  have hz:∀ j1,AV.prgL 23 (cellsG RB.cd rows 0 ++ [.c (.raw (.slice (some ⟨b,o,none⟩) l.length cap))] ++ List.replicate j1 .non) = cellsG RB.cd (rows ++ [⟨b,o,l,cap⟩]) j1:=fun j1 => by
   have e:cellsG RB.cd rows 0 ++ [.c (.raw (.slice (some ⟨b,o,none⟩) l.length cap))] ++ List.replicate j1 .non = cellsG RB.cd (rows ++ [⟨b,o,l,cap⟩]) j1:=by rw [cells_snoc,List.append_assoc]; rfl
   rw [e,prg_cellsG]
  (refine SOps_ops ?_; simp only [go_sem,hP,RB.val,hold,prgL_non,prg_cellsG,hcl,htk,Nat.mul_one,hz]; (repeat refine qJ ?_))
  intro cap1 j1 q1 q2 q3
  refine WV_sub ?_ (tail b o cap cap1 j1 q1 q2 q3)
  simp only [hold]
  exact Sub_au
end Go.Proofs.YtdoidahbimonhaaDoor

namespace Go.Proofs.YtdoidahbimonhaaDoor
open Go Go.V
attribute [local go_sem] Nat.reduceEqDiff Nat.reduceAdd Nat.reduceMul reduceIte Nat.reduceLeDiff Nat.reduceLT Nat.reduceBEq reduceCtorEq
def allOk (w:Nat):Nat → List (List UInt8) → Bool
 | _,[] => true
 | k,l :: t => okSeg w (k + 1) l && allOk w (k + 1) t
def parseP (s:List UInt8):Option (List (List UInt8)) :=
 if endsB s 10 then (if allOk ((segB 10 s.dropLast).headD []).length 0 (segB 10 s.dropLast) then some (segB 10 s.dropLast) else none) else none
def FinP (w:Nat) (segs:List (List UInt8)) (pend:Option Exit) (lf:List Ob):Prop :=
 (pend = none ∧ allOk w 0 segs = true ∧ ∃ rows v,rows.map RB.l = segs ∧ lf = objP rows (some v)) ∨ (pend = some .ret ∧ allOk w 0 segs = false ∧ badP lf)
theorem objP_solid (rows:List RB) (arr:Option Value):(objP rows arr).all (Ob.solid (objP rows arr).length) = true:=rfl
theorem runP (w:Nat) (segs:List (List UInt8)) (hlen:∀ l ∈ segs,l.length ≤ 100000) (hw:(segs.headD []).length = w):∀ (t:List (List UInt8)) (rows:List RB) (arr:Option Value),segs = rows.map RB.l ++ t → allOk w 0 segs = allOk w rows.length t → rows.length ≤ 41 → (t = [] → rows ≠ []) →
  ((rows = [] ∧ arr = none) ∨ (rows ≠ [] ∧ ∃ v,arr = some v)) → RunR Tryd.prog 64 [18] (.ops o47_32) v47_31 envP (FinP w segs) (remF w rows.length t) (objP rows arr)
 | [],rows,arr,h1,h2,_,h4,h5 => by
  rcases h5 with ⟨h,_⟩ | ⟨_,v,rfl⟩
  ·exact (h4 rfl h).elim
  ·exact ⟨objP_solid _ _,.inl ⟨rfl,h2,rows,v,by simpa using h1.symm,rfl⟩⟩
 | l :: t,rows,arr,h1,h2,h3,_,h5 => by
  have hml:l ∈ segs:=by rw [h1]; simp
  have hw':headW rows l = w:=by
   rw [← hw,h1]
   cases rows <;> rfl
  have hr:=roundP (hlen l hml) h3 h5 hw'
  unfold remF
  by_cases hok:okSeg w (rows.length + 1) l = true
  ·rw [if_pos hok]
   rw [hok] at hr
   refine ⟨objP_solid _ _,rfl,true,rfl,?_⟩
   intro C k1 k2 k3 k4
   refine (hr C k1 k2 k3 k4).mono fun ex σ1 hq => ⟨hq.1,fun C' q1 q2 q3 q4 => (hq.2 C' q1 q2 q3 q4).mono fun ex σ2 hq => ?_⟩
   obtain ⟨j,l',m1,m2,m3⟩:=hq
   unfold PostP at m3
   rw [if_pos rfl] at m3
   obtain ⟨rfl,rows',v,m4,rfl⟩:=m3
   have hlr:rows'.length = rows.length + 1:=by have:=congrArg List.length m4; simpa using this
   refine ⟨none,_,m1,m2,.inl ⟨rfl,rfl,?_⟩⟩
   have hne:rows' ≠ []:=fun h => by rw [h] at hlr; simp at hlr
   have:=runP w segs hlen hw t rows' (some v) (by rw [m4,h1]; simp) (by rw [h2,hlr]; simp only [allOk,hok,Bool.true_and]) (by
    unfold okSeg at hok
    simp only [Bool.and_eq_true,decide_eq_true_eq] at hok
    omega) (fun _ => hne) (.inr ⟨hne,v,rfl⟩)
   rw [hlr] at this
   exact this
  ·have hok':okSeg w (rows.length + 1) l = false:=by simpa using hok
   rw [if_neg hok]
   rw [hok'] at hr
   refine ⟨objP_solid _ _,rfl,false,rfl,?_⟩
   intro C k1 k2 k3 k4
   refine (hr C k1 k2 k3 k4).mono fun ex σ1 hq => ⟨hq.1,fun C' q1 q2 q3 q4 => (hq.2 C' q1 q2 q3 q4).mono fun ex σ2 hq => ?_⟩
   obtain ⟨j,l',m1,m2,m3⟩:=hq
   unfold PostP at m3
   rw [if_neg (by simp)] at m3
   obtain ⟨rfl,m4⟩:=m3
   have hb:=m4
   obtain ⟨rows',v,rfl⟩:=m4
   exact ⟨_,_,m1,m2,.inr ⟨.ret,rfl,rfl,rfl,rfl,.inr ⟨rfl,by rw [h2]; simp only [allOk,hok',Bool.false_and],hb⟩⟩⟩
theorem allOk_len (w:Nat):∀ (k:Nat) (t:List (List UInt8)),allOk w k t = true → t.length = 0 ∨ k + t.length ≤ 41
 | k,[],_ => .inl rfl
 | k,l :: t,h => by
  simp only [allOk,Bool.and_eq_true] at h
  have h1:=h.1
  unfold okSeg at h1
  simp only [Bool.and_eq_true,decide_eq_true_eq] at h1
  rcases allOk_len w (k + 1) t h.2 with h2 | h2
  ·right; simp only [List.length_cons]; omega
  ·right; simp only [List.length_cons]; omega
def PostParse (s:List UInt8) (r:AV) (os:List Ob):Prop :=
 match parseP s with
 | none => r = .tup [.c nilC,iv 140] ∧ os = []
 | some segs => ∃ (R:List BRow) (j cap:Nat),R.map Row.l = segs ∧ R.length ≤ cap ∧ cap ≤ maxLen ∧ cap ≤ R.length + j ∧ (∀ r ∈ R,r.l.length ≤ r.cap ∧ r.cap ≤ maxLen ∧ r.cap ≤ r.l.length + r.j) ∧ r = .tup [.vw 1 1000 0 R.length cap,iv 0] ∧ os = gridL bcd 1 R j
theorem seg_len (b:UInt8):∀ (s:List UInt8),∀ l ∈ segB b s,l.length ≤ s.length
 | [],l,h => by simp [segB] at h; subst h; simp
 | x :: s,l,h => by
  have ih:=seg_len b s
  unfold segB at h
  split at h
  ·rcases List.mem_cons.1 h with rfl | h
   ·simp
   ·have:=ih l h; simp; omega
  ·split at h
   ·rename_i y t e
    rw [e] at ih
    rcases List.mem_cons.1 h with rfl | h
    ·have:=ih y (by simp); simp; omega
    ·have:=ih l (by simp [h]); simp; omega
   ·rcases List.mem_cons.1 h with rfl | h
    ·simp
    ·cases h
theorem ownBack_le (f:Nat → Ob):∀ (L:List Nat) (os:List Ob),ObjLe (ownBack f L os) (ownBack V.o0 L os)
 | [],os => fun n => .inr (by cases os <;> rfl)
 | m :: L,[] => fun n => .inr rfl
 | m :: L,o :: os => fun n => by
  simp only [ownBack,upd]
  split
  ·exact .inl rfl
  ·exact ownBack_le f L os n
set_option maxRecDepth 20000 in
set_option maxHeartbeats 8000000 in
theorem parse48 (s:List UInt8) (hs:s.length ≤ 100000):FSpecN Tryd.prog 47 [sv s] (PostParse s):=by
 have hmax:maxLen = 9223372036854775807:=rfl
 refine FSpecN_ofP c47 (Nat.le_refl _) (by decide) fun C hP hN hC hpin hL => ?_; rw [init_st]
 simp only [ir47]
 (repeat ((first | refine Va ?_ | refine Vb ?_ | refine Vc ?_ | refine Vd ?_ | refine Ve ?_ | refine Vf ?_); (try simp only [go_sem,hP]); (repeat refine qJ ?_)))
 (refine AS_pu (cutsuffix47 s 10 (by omega)) ?_; simp only [go_sem,hP]; (repeat refine qJ ?_); (repeat ((first | refine Va ?_ | refine Vb ?_ | refine Vc ?_ | refine Vd ?_ | refine Ve ?_ | refine Vf ?_); (try simp only [go_sem,hP]); (repeat refine qJ ?_))))
 by_cases he:endsB s 10 = true
 ·rw [he]
  (refine WV_cond rfl (fun h => ?_) (fun h => ?_))
  ·simp at h
  ·have hc:cutB s 10 = s.dropLast:=by unfold cutB; rw [if_pos he]
   rw [hc]
   (repeat ((first | refine Va ?_ | refine Vb ?_ | refine Vc ?_ | refine Vd ?_ | refine Ve ?_ | refine Vf ?_); (try simp only [go_sem,hP]); (repeat refine qJ ?_)))
   refine AS_new (splitseq78 s.dropLast [10]) rfl rfl rfl rfl ?_
   rintro r os ⟨rfl,rfl⟩
   refine ⟨[610,611,612],_,_,by decide,rfl,rfl,rfl,rfl,?_⟩
   simp only [go_sem,hP,ownBack]
   refine WV_block ?_
   refine WV_hold0 600 rfl (by decide) ?_
   refine WV_keep [2,3,6,17] ?_
   simp only [go_sem,hold]
   have hpp:parseP s = if allOk ((segB 10 s.dropLast).headD []).length 0 (segB 10 s.dropLast) then some (segB 10 s.dropLast) else none:=by unfold parseP; rw [if_pos he]
   generalize hsg:segB 10 s.dropLast = segs at hpp
   have hsne:segs ≠ []:=by rw [← hsg]; exact segB_ne _ _
   have hslen:∀ l ∈ segs,l.length ≤ 100000:=fun l hl => by
    rw [← hsg] at hl
    have:=seg_len 10 _ l hl
    rw [List.length_dropLast] at this
    omega
   generalize hwd:(segs.headD []).length = w at hpp
   have hrun:=runP w segs hslen hwd segs [] none rfl rfl (by simp) (fun h => (hsne h).elim) (.inl ⟨rfl,rfl⟩)
   refine WV_rngC hC (L:=[2,3,6,600]) (L2:=[610,611,612]) (l:=objP [] none) (l2:=[.box [sv [10]],.box [sv s.dropLast],.box [iv 0]]) (env':=envP) (rem:=remF w 0 segs) (Fin:=FinP w segs) rfl rfl rfl (by decide) rfl (by decide) ?_ ?_ (by decide) rfl (by rw [hN]; decide) ?_ (fun g' => ?_) (by rw [hP,hN]; exact hrun) ?_
   ·intro i n hi
    match i,hi with
    | 0,hi => simp at hi; subst hi; rfl
    | 1,hi => simp at hi; subst hi; rfl
    | 2,hi => simp at hi; subst hi; rfl
    | i + 3,hi => simp at hi
   ·intro o ho
    simp only [List.mem_cons,List.not_mem_nil,or_false] at ho
    rcases ho with rfl | rfl | rfl <;> exact ⟨_,rfl,rfl⟩
   ·intro t
    unfold envP
    simp only [upd]
    split
    ·rename_i h; subst h; exact .inr rfl
    ·split
     ·rename_i h; subst h; exact .inr rfl
     ·split
      ·rename_i h; subst h; exact .inr rfl
      ·exact .inl rfl
   ·rw [hP]
    refine ⟨_,split104 g' 10 (by rw [List.length_dropLast]; omega) (rem:=remF w 0 segs) (by rw [hsg]; exact remF_ok w 0 segs hsne),?_⟩
    rintro r l' ⟨_,s',rfl⟩
    exact ⟨_,rfl⟩
   ·rintro pend lf (⟨rfl,hok,rows,v,hrows,rfl⟩ | ⟨rfl,hok,rows,v,rfl⟩)
    ·rw [hok,if_pos rfl] at hpp
     refine ⟨[.box [.c nilC],.box [iv 0],.box [.c (.raw v)],hold rows (some v)],rfl,rfl,?_⟩
     refine WV_sub (σ':=⟨upd (upd (upd e0 6 (.bp 6 0)) 3 (.bp 3 0)) 2 (.bp 2 0),ownBack V.o0 [2,3,6,600] [.box [.c nilC],.box [iv 0],.box [.c (.raw v)],hold rows (some v)]⟩) (Sub_of (by exact EnvLe_au) (ownBack_le _ _ _)) ?_
     simp only [go_sem,ownBack,hold]
     (repeat ((first | refine Va ?_ | refine Vb ?_ | refine Vc ?_ | refine Vd ?_ | refine Ve ?_ | refine Vf ?_); (try simp only [go_sem,hP]); (repeat refine qJ ?_)))
     have hrne:rows ≠ []:=fun h => by rw [h] at hrows; exact hsne hrows.symm
     have hgn:∀ n ∈ gnum rows.length,1000 ≤ n:=fun n hn => by
      simp only [gnum,List.mem_append,List.mem_singleton] at hn
      rcases hn with rfl | hn
      ·exact Nat.le_refl _
      ·have:=rng_mem hn; omega
     refine WV_explode 600 2 (rows:=rows) (x:=v) rfl (by decide) (by decide) (by decide) rfl (fun n hn => ⟨hpin n,?_⟩) ?_ ?_ ?_
     ·have:=hgn n hn
      simp only [upd_app,o0_app]
      rw [if_neg (by omega),if_neg (by omega),if_neg (by omega),if_neg (by omega),if_neg (by omega),if_neg (by omega)]
      rfl
     ·refine prgEs_stay fun n hn => ?_
      have:=hgn n hn
      obtain ⟨k,rfl⟩ : ∃ k,n = k + 1000:=⟨n - 1000,by omega⟩
      simp only [prgE_upd',prgE_e0,AV.prg,ne_add (show (6:Nat) < 1000 by decide),ne_add (show (3:Nat) < 1000 by decide),ne_add (show (2:Nat) < 1000 by decide),if_false]
     ·refine prgOs_stay fun n hn => ?_
      simp only [prgO_upd,prgO_o0,Ob.prg,AV.prg,AV.prgL]
     ·intro R j cap hR k1 k2 k3 k4
      refine WV_ret ?_
      simp only [thenQ,inQ,RetQN,RetOkN,resAll,resA]
      have hRl:R.length = segs.length:=by rw [← hrows]; have:=congrArg List.length hR; simpa using this
      have hal:=allOk_len w 0 segs hok
      simp only [go_sem,tupA,gown_lo]
      refine ⟨gnum R.length,.tup [.vw 1 1000 0 R.length cap,iv 0],_,_,gnum_nodup _,by rw [gnum_len]; omega,?_,AVle.refl _,obsLend_grid (by omega),?_⟩
      ·rw [AV.lend]
       simp only [AV.lendL]
       rw [lend_grid]
       rfl
      ·unfold PostParse
       rw [hpp]
       exact ⟨R,j,cap,hR.trans hrows,k1,k2,k3,k4,rfl,rfl⟩
    ·rw [hok,if_neg (by simp)] at hpp
     refine ⟨[.box [.c nilC],.box [iv 140],.box [.c (.raw v)],hold rows (some v)],rfl,rfl,?_⟩
     simp only [exitOf,thenQ,inQ,RetQN,RetOkN,resAll,resA]
     simp only [go_sem,ownBack,tupA]
     refine ⟨[],_,_,_,List.nodup_nil,by simp,rfl,AVle.refl _,rfl,?_⟩
     unfold PostParse
     rw [hpp]
     exact ⟨rfl,rfl⟩
 ·have he':endsB s 10 = false:=by simpa using he
  rw [he']
  have hp:parseP s = none:=by unfold parseP; rw [if_neg he]
  (refine WV_cond rfl (fun h => ?_) (fun h => ?_))
  ·(repeat ((first | refine Va ?_ | refine Vb ?_ | refine Vc ?_ | refine Vd ?_ | refine Ve ?_ | refine Vf ?_); (try simp only [go_sem,hP]); (repeat refine qJ ?_)))
   refine WV_ret ?_
   simp only [thenQ,inQ,RetQN,RetOkN,resAll,resA]
   simp only [go_sem,tupA]
   refine ⟨[],_,_,_,List.nodup_nil,by simp,rfl,AVle.refl _,rfl,?_⟩
   unfold PostParse
   rw [hp]
   exact ⟨rfl,rfl⟩
  ·simp at h
end Go.Proofs.YtdoidahbimonhaaDoor

namespace Go.Proofs.YtdoidahbimonhaaDoor
open Go Go.V
attribute [local go_sem] Nat.reduceEqDiff Nat.reduceAdd Nat.reduceMul reduceIte Nat.reduceLeDiff Nat.reduceLT Nat.reduceBEq reduceCtorEq
theorem okB_ok {b:UInt8} (h:okB b = true):BOk b:=by
 unfold okB valB at h
 unfold BOk
 simp only [Bool.or_eq_true,decide_eq_true_eq] at h
 rcases h with h | h
 ·omega
 ·split at h
  ·omega
  ·omega
structure SOk (rows:List (List UInt8)) (w:Nat):Prop where
 pos:0 < rows.length
 len:rows.length ≤ 41
 w2:2 ≤ w
 w32:w ≤ 32
 row:∀ l ∈ rows,l.length = w
 byte:∀ l ∈ rows,∀ b ∈ l,BOk b
theorem allOk_row (w:Nat):∀ (k:Nat) (t:List (List UInt8)),allOk w k t = true → ∀ l ∈ t,(2 ≤ l.length ∧ l.length ≤ 32 ∧ l.length = w) ∧ ∀ b ∈ l,BOk b
 | k,[],_,l,hl => by cases hl
 | k,x :: t,h,l,hl => by
  simp only [allOk,Bool.and_eq_true] at h
  rcases List.mem_cons.1 hl with rfl | hl
  ·have h1:=h.1
   unfold okSeg at h1
   simp only [Bool.and_eq_true,decide_eq_true_eq] at h1
   obtain ⟨⟨⟨⟨q1,q2⟩,q3⟩,q4⟩,q5⟩:=h1
   exact ⟨⟨q1,q2,q3⟩,fun b hb => okB_ok (List.all_eq_true.1 q5 b hb)⟩
  ·exact allOk_row w (k + 1) t h.2 l hl
theorem parse_ok {s:List UInt8} {rows:List (List UInt8)} (h:parseP s = some rows):SOk rows (rows.headD []).length:=by
 unfold parseP at h
 split at h
 ·split at h
  ·rename_i h1
   simp only [Option.some.injEq] at h
   subst h
   generalize hsg:segB 10 s.dropLast = segs at h1
   have hne:segs ≠ []:=by rw [← hsg]; exact segB_ne _ _
   have hal:=allOk_len _ 0 segs h1
   have har:=allOk_row _ 0 segs h1
   cases segs with
   | nil => exact (hne rfl).elim
   | cons x t =>
    have hx:=(har x (by simp)).1
    refine ⟨by simp,by simp at hal ⊢; omega,hx.1,hx.2.1,fun l hl => (har l hl).1.2.2,fun l hl => (har l hl).2⟩
  ·cases h
 ·cases h
def valsG (rows:List (List UInt8)):List (List Int):=rows.map fun l => l.map vq
def bytesG (g:List (List Int)):List (List UInt8):=g.map fun l => l.map sgn
theorem sgn_vq {b:UInt8} (h:BOk b):sgn (vq b) = b:=by
 have h0:=h
 unfold BOk at h
 by_cases h63:b.toNat = 63
 ·have:b = 63:=UInt8.toNat_inj.1 h63
  subst this; rfl
 ·have hr:=vq_rng h0
  have hne:vq b ≠ -1:=fun hc => h63 ((vq_lost h0).1 hc)
  have:=sgn_nat (n:=vq b) (by omega)
  apply UInt8.toNat_inj.1
  unfold vq valB at this ⊢
  rw [if_neg h63,if_neg (by omega)] at this ⊢
  split at this <;> rename_i h1
  ·rw [if_pos h1]
   split at this <;> omega
  ·rw [if_neg h1]
   split at this <;> omega
theorem bytes_vals {rows:List (List UInt8)} (h:∀ l ∈ rows,∀ b ∈ l,BOk b):bytesG (valsG rows) = rows:=by
 unfold bytesG valsG
 rw [List.map_map]
 conv => rhs; rw [← List.map_id rows]
 refine List.map_congr_left fun l hl => ?_
 simp only [Function.comp,List.map_map,id]
 conv => rhs; rw [← List.map_id l]
 exact List.map_congr_left fun b hb => sgn_vq (h l hl b hb)
theorem gv_vals (R:List BRow):gv R = valsG (R.map Row.l):=by simp [gv,valsG]
theorem SOk.rok {R:List BRow} {w:Nat} (h:SOk (R.map Row.l) w):ROk R w ∧ BRs R:=by
 have hm:∀ i (hi:i < R.length),(R[i]).l ∈ R.map Row.l:=fun i hi => List.mem_map_of_mem (List.getElem_mem hi)
 exact ⟨⟨by simpa using h.len,h.w32,fun i hi => h.row _ (hm i hi)⟩,fun i hi k hk => h.byte _ (hm i hi) _ (List.getElem_mem hk)⟩
theorem BRs.mem {R:List BRow} (h:BRs R):∀ l ∈ R.map Row.l,∀ b ∈ l,BOk b:=by
 intro l hl b hb
 obtain ⟨r,hr,rfl⟩:=List.mem_map.1 hl
 obtain ⟨i,hi,rfl⟩:=List.getElem_of_mem hr
 obtain ⟨k,hk,rfl⟩:=List.getElem_of_mem hb
 exact h i hi k hk
def sheetG (rows:List (List UInt8)):List (List Int):=restG rows.length (rows.headD []).length (valsG rows)
def noLost (n w:Nat) (g:List (List Int)):Bool:=(allP n w).all fun l => (lostL g l).length == 0
def noLack (n w:Nat) (g:List (List Int)):Bool:=(allP n w).all fun l => lackL g l == 0
def wholeG (s:List UInt8):List (List Int) × Int:=match parseP s with
 | none => ([],140)
 | some rows => if noLost rows.length (rows.headD []).length (sheetG rows) then (sheetG rows,if noLack rows.length (rows.headD []).length (sheetG rows) then 0 else 142) else ([],141)
theorem restore56 {R:List BRow} {w:Nat} (hR:ROk R w) (hb:BRs R) (hn:0 < R.length) {j gcap:Nat}:FSpecL Tryd.prog 23 [.vw 1 1000 0 R.length gcap] (gridL bcd 1 R j) [] (fun r l' => r = .tup [] ∧ ∃ R',R'.length = R.length ∧ ROk R' w ∧ BRs R' ∧ refs 1001 1 0 R' = refs 1001 1 0 R ∧ gv R' = restG R.length w (gv R) ∧ l' = gridL bcd 1 R' j) :=
 FSpecL_ofB gridL_bx fun bs => restore56B bs hR hb hn
theorem SOps_parse {C:Ctx} {d:Option Nat} {f:X} {xs:List X} {t:Bool} {is:List Ins} {K:V.St → Prop} {env:Nat → AV} {own:Nat → Ob} {s:List UInt8} (hP:C.P = Tryd.prog) (hpin:∀ n,¬ C.pin n) (hs:s.length ≤ 100000)
  (h1:(V.St.val ⟨env,own⟩ f).dg = true) (h2:(xs.all fun x => (V.St.val ⟨env,own⟩ x).dg) = true) (h3:(V.St.val ⟨env,own⟩ f).dv = .fn 47 []) (h4:AV.portL own (xs.map (fun x => (V.St.val ⟨env,own⟩ x).dv) ++ []) = some [sv s])
  (hE:∀ n,1000 ≤ n → prgE n env = env) (hO:∀ n,1000 ≤ n → prgO n own = own ∧ own n = .none)
  (k0:parseP s = none → SOps C is K (V.St.put ⟨env,own⟩ d (.tup [.c nilC,iv 140])))
  (k1:∀ (R:List BRow) (j cap:Nat),parseP s = some (R.map Row.l) → R.length ≤ cap → cap ≤ maxLen → SOps C is K (V.St.put ⟨env,gown bcd 1 R j own⟩ d (.tup [.vw 1 1000 0 R.length cap,iv 0]))):SOps C (⟨d,.call f xs,none,t⟩ :: is) K ⟨env,own⟩:=by
 refine SOps_callP ⟨47,[],[sv s],PostParse s,h1,h2,h3,h4,by rw [hP]; exact parse48 s hs,fun r os hp => ?_⟩
 unfold PostParse at hp
 split at hp
 ·rename_i he
  obtain ⟨rfl,rfl⟩:=hp
  exact ⟨[],_,_,List.nodup_nil,rfl,fun n hn => (by cases hn),rfl,rfl,k0 he⟩
 ·rename_i segs he
  obtain ⟨R,j,cap,q1,q2,q3,q4,q5,rfl,rfl⟩:=hp
  refine ⟨gnum R.length,.tup [.vw 1 1000 0 R.length cap,iv 0],gridL bcd 1 R j,gnum_nodup _,by rw [gnum_len,gridL_len],fun n hn => ⟨hpin n,?_⟩,?_,obsBack_grid,?_⟩
  ·show (own n).isNone = true
   rw [(hO n (gnum_ge hn)).2]; rfl
  ·rw [AV.back]
   simp only [AV.backL]
   have e:(AV.vw 1 1000 0 R.length cap).back (gnum R.length) = some (.vw 1 1000 0 R.length cap):=by
    simp only [AV.back]
    rw [if_pos (Nat.le_refl _)]
    rfl
   rw [e]; rfl
  ·have e1:prgEs (gnum R.length) env = env:=prgEs_stay fun n hn => hE n (gnum_ge hn)
   have e2:prgOs (gnum R.length) own = own:=prgOs_stay fun n hn => (hO n (gnum_ge hn)).1
   show SOps C is K (V.St.put ⟨prgEs (gnum R.length) env,ownBack (prgOs (gnum R.length) own) (gnum R.length) (gridL bcd 1 R j)⟩ d _)
   rw [e1,e2,ownBack_new]
   exact k1 R j cap (by rw [he,q1]) q2 q3
end Go.Proofs.YtdoidahbimonhaaDoor

namespace Go.Proofs.YtdoidahbimonhaaDoor
open Go Go.V
abbrev o25_0:List Ins:=[⟨some 2,.mv (.k (.c (.raw (.slice none 0 0)))),none,true⟩,
 ⟨some 3,.mv (.k (.c (.int .i64 0))),none,true⟩]
abbrev o25_1:List Ins:=[⟨some 12,.mv (.t 0),none,true⟩,
 ⟨some 13,.call (.k (.fn 47 [])) [(.t 12)],none,true⟩,
 ⟨some 11,.mv (.t 13),none,true⟩,
 ⟨some 14,.ext (.t 11) 0,none,true⟩,
 ⟨some 15,.ext (.t 11) 1,none,true⟩,
 ⟨some 4,.mv (.t 14),none,true⟩,
 ⟨some 5,.mv (.t 15),none,true⟩]
abbrev o25_2:List Ins:=[⟨some 16,.mv (.t 5),none,true⟩,
 ⟨some 17,.bin .neq (.t 16) (.k (.c (.int .i64 0))),none,true⟩]
abbrev o25_3:List Ins:=[⟨some 18,.mv (.t 5),none,true⟩,
 ⟨some 2,.mv (.k (.c (.raw (.slice none 0 0)))),none,true⟩,
 ⟨some 3,.mv (.t 18),none,true⟩]
abbrev v25_4:VC:=(.seq (.ops o25_3) .ret)
abbrev v25_5:VC:=(.cond (.t 17) v25_4 .skip)
abbrev o25_6:List Ins:=[⟨some 19,.mv (.t 4),none,true⟩,
 ⟨some 20,.call (.k (.fn 23 [])) [(.t 19)],none,true⟩]
abbrev o25_7:List Ins:=[⟨some 6,.mv (.k (.c (.int .i64 0))),none,true⟩]
abbrev o25_8:List Ins:=[⟨some 21,.mv (.t 4),none,true⟩,
 ⟨some 22,.call (.k (.fn 42 [])) [(.t 21)],none,true⟩,
 ⟨some 23,.len (.t 22),none,true⟩,
 ⟨some 24,.mv (.k (.c (.int .i64 0))),none,true⟩]
abbrev o25_9:List Ins:=[⟨some 25,.bin .lss (.t 24) (.t 23),none,true⟩]
abbrev o25_10:List Ins:=[⟨some 26,.ia 1 (.t 22) (.t 24),none,true⟩,
 ⟨some 27,.ld true 1 (.t 26),none,true⟩,
 ⟨some 8,.mv (.t 27),none,true⟩]
abbrev o25_11:List Ins:=[⟨some 29,.mv (.t 8),none,true⟩,
 ⟨some 30,.call (.k (.fn 48 [])) [(.t 29)],none,true⟩,
 ⟨some 28,.mv (.t 30),none,true⟩,
 ⟨some 31,.ext (.t 28) 0,none,true⟩,
 ⟨some 32,.ext (.t 28) 1,none,true⟩,
 ⟨some 9,.mv (.t 31),none,true⟩,
 ⟨some 10,.mv (.t 32),none,true⟩]
abbrev o25_12:List Ins:=[⟨some 34,.mv (.t 9),none,true⟩,
 ⟨some 35,.bin .gtr (.t 34) (.k (.c (.int .i64 0))),none,true⟩,
 ⟨some 33,.mv (.t 35),none,true⟩]
abbrev o25_13:List Ins:=[⟨some 2,.mv (.k (.c (.raw (.slice none 0 0)))),none,true⟩,
 ⟨some 3,.mv (.k (.c (.int .i64 141))),none,true⟩]
abbrev v25_14:VC:=(.seq (.ops o25_13) .ret)
abbrev o25_15:List Ins:=[⟨some 37,.mv (.t 10),none,true⟩,
 ⟨some 38,.bin .gtr (.t 37) (.k (.c (.int .i64 0))),none,true⟩,
 ⟨some 36,.mv (.t 38),none,true⟩]
abbrev o25_16:List Ins:=[⟨some 6,.mv (.k (.c (.int .i64 142))),none,true⟩]
abbrev v25_17:VC:=(.cond (.t 36) (.ops o25_16) .skip)
abbrev v25_18:VC:=(.seq (.ops o25_15) v25_17)
abbrev v25_19:VC:=(.cond (.t 33) v25_14 v25_18)
abbrev v25_20:VC:=(.seq (.ops o25_12) v25_19)
abbrev v25_21:VC:=(.block 2 v25_20)
abbrev v25_22:VC:=(.seq (.ops o25_11) v25_21)
abbrev v25_23:VC:=(.seq (.ops o25_10) v25_22)
abbrev o25_24:List Ins:=[⟨some 39,.bin .add (.t 24) (.k (.c (.int .i64 1))),none,true⟩,
 ⟨some 24,.mv (.t 39),none,true⟩]
abbrev v25_25:VC:=(.seq (.block 1 v25_23) (.ops o25_24))
abbrev v25_26:VC:=(.seq (.cond (.t 25) .skip (.exit 0)) v25_25)
abbrev v25_27:VC:=(.seq (.ops o25_9) v25_26)
-- K25_1: changed and kept: [24,6]
abbrev v25_28:VC:=(.loop v25_27)
abbrev v25_29:VC:=(.block 0 v25_28)
abbrev o25_30:List Ins:=[⟨some 40,.mv (.t 4),none,true⟩,
 ⟨some 41,.mv (.t 6),none,true⟩,
 ⟨some 2,.mv (.t 40),none,true⟩,
 ⟨some 3,.mv (.t 41),none,true⟩]
abbrev v25_31:VC:=(.seq (.ops o25_30) .ret)
abbrev v25_32:VC:=(.seq (.seq (.ops o25_8) v25_29) v25_31)
abbrev v25_33:VC:=(.seq (.ops o25_7) v25_32)
abbrev v25_34:VC:=(.seq (.ops o25_6) v25_33)
abbrev v25_35:VC:=(.seq (.seq (.ops o25_2) v25_5) v25_34)
abbrev v25_36:VC:=(.seq (.ops o25_1) v25_35)
def ir25:FC:=⟨1,42,[.t 2,.t 3],(.seq (.ops o25_0) v25_36)⟩
theorem c25:compM Tryd.prog [] 25 = some ir25:=by kernel_rfl
attribute [local go_sem] Nat.reduceEqDiff Nat.reduceAdd Nat.reduceMul reduceIte Nat.reduceLeDiff Nat.reduceLT Nat.reduceBEq reduceCtorEq
theorem all_snoc {α:Type} (f:α → Bool) {l:List α} {k:Nat} (h:k < l.length):(l.take (k + 1)).all f = ((l.take k).all f && f l[k]):=by
 rw [List.take_succ_eq_append_getElem h,List.all_append]; simp
theorem all_take_false {α:Type} (f:α → Bool) {l:List α} {k:Nat} (h:k < l.length) (hf:f l[k] = false):l.all f = false:=by
 rw [Bool.eq_false_iff]
 intro hc
 rw [List.all_eq_true.1 hc _ (List.getElem_mem h)] at hf
 cases hf
set_option maxRecDepth 20000 in
set_option maxHeartbeats 8000000 in
theorem whole44 (s:List UInt8) (hs:s.length ≤ 100000):FSpec Tryd.prog 25 [sv s] (.tup [.c (gridD (bytesG (wholeG s).1)),iv (wholeG s).2]):=by
 have hmax:maxLen = 9223372036854775807:=rfl
 refine FSpec_ofP c25 (Nat.le_refl _) (by decide) fun C hP hN hC hpin hL => ?_; rw [init_st]
 simp only [ir25]
 refine WV_seq_ ?_
 (refine WV_op ?_; simp only [go_sem,hP]; (repeat refine qJ ?_))
 refine WV_seq_ ?_
 (refine WV_split 1 ?_; simp only [List.take_succ_cons,List.take_zero,List.take_nil,List.drop_succ_cons,List.drop_zero,List.drop_nil]; simp only [go_sem,hP]; (repeat refine qJ ?_))
 refine SOps_parse hP hpin hs rfl rfl rfl rfl (fun n hn => ?_) (fun n hn => ?_) (fun hp => ?_) (fun R j cap hp hcap hmx => ?_)
 ·obtain ⟨k,rfl⟩ : ∃ k,n = k + 1000:=⟨n - 1000,by omega⟩
  simp only [prgE_upd',prgE_e0,AV.prg]
 ·exact ⟨prgO_o0 _,rfl⟩
 ·have hwh:wholeG s = ([],140):=by unfold wholeG; rw [hp]
  rw [hwh]
  (refine SOps_ops ?_; simp only [go_sem,hP]; (repeat refine qJ ?_))
  (repeat ((first | refine Va ?_ | refine Vb ?_ | refine Vc ?_ | refine Vd ?_ | refine Ve ?_ | refine Vf ?_); (try simp only [go_sem,hP]); (repeat refine qJ ?_)))
  (refine WV_cond rfl (fun h => ?_) (fun h => ?_))
  ·(repeat ((first | refine Va ?_ | refine Vb ?_ | refine Vc ?_ | refine Vd ?_ | refine Ve ?_ | refine Vf ?_); (try simp only [go_sem,hP]); (repeat refine qJ ?_)))
   (refine WV_ret ?_; simp only [thenQ,inQ,RetQ,RetOk,resAll,resA]; simp only [go_sem,tupA,AV.port,AV.portL,exists_eq_left'])
   refine AVle.tup ?_
   exact ⟨_,_,rfl,AVle.nil 1,_,_,rfl,AVle.refl _,rfl⟩
  ·simp at h
 ·have hok:=parse_ok hp
  have hw:(List.map Row.l R).headD [] = (R.map Row.l).headD []:=rfl
  have hwh:wholeG s = if noLost (R.map Row.l).length ((R.map Row.l).headD []).length (sheetG (R.map Row.l)) then (sheetG (R.map Row.l),if noLack (R.map Row.l).length ((R.map Row.l).headD []).length (sheetG (R.map Row.l)) then 0 else 142) else ([],141):=by unfold wholeG; rw [hp]
  have hsh:sheetG (R.map Row.l) = restG (R.map Row.l).length ((R.map Row.l).headD []).length (gv R):=by unfold sheetG; rw [gv_vals]
  obtain ⟨hR,hb⟩:=hok.rok
  have hn:0 < R.length:=by simpa using hok.pos
  rw [List.length_map] at hwh hsh
  rw [hsh] at hwh
  generalize ((R.map Row.l).headD []).length = w at hok hwh hsh hR
  (refine SOps_ops ?_; simp only [go_sem,hP]; (repeat refine qJ ?_))
  (repeat ((first | refine Va ?_ | refine Vb ?_ | refine Vc ?_ | refine Vd ?_ | refine Ve ?_ | refine Vf ?_); (try simp only [go_sem,hP]); (repeat refine qJ ?_)))
  (refine WV_cond rfl (fun h => ?_) (fun h => ?_))
  ·simp at h
  (repeat ((first | refine Va ?_ | refine Vb ?_ | refine Vc ?_ | refine Vd ?_ | refine Ve ?_ | refine Vf ?_); (try simp only [go_sem,hP]); (repeat refine qJ ?_)))
  refine AS_grid (restore56 (j:=j) (gcap:=cap) hR hb hn) rfl rfl rfl ?_ ?_
  ·simp only [List.map_cons,List.map_nil,List.append_nil]
   simp only [go_sem,AV.lendL,lend_grid]
  rintro r l' ⟨rfl,R',e1,hR',hb',e2,e3,rfl⟩
  refine ⟨R',e1,rfl,rfl,?_⟩
  rw [← e3] at hwh
  clear e3 hsh hb hR
  rw [← e1] at hwh
  have hn':0 < R'.length:=by omega
  have hlin:=fun bs => lines50 bs hR' hn' (j:=j) (gcap:=cap)
  have hLL:=LOk_all hR'
  generalize hLd:allP R'.length w = LL at hLL hlin
  have hwh':wholeG s = if LL.all fun l => (lostL (gv R') l).length == 0 then (gv R',if LL.all fun l => lackL (gv R') l == 0 then 0 else 142) else ([],141):=by
   rw [hwh]; unfold noLost noLack; rw [hLd]
  rw [← e1]
  refine WV_seq_ ?_
  (refine WV_op ?_; simp only [go_sem,hP]; (repeat refine qJ ?_))
  refine WV_pinGrid (by rw [hN]; decide) (fun C' bs cP cN cO hat => ?_)
  have hP':=cP.trans hP
  have hN':=cN.trans hN
  have hC':=cO hC
  clear hpin
  replace hP:=hP'
  refine WV_seq_ (WV_seq_ ?_)
  (refine WV_split 1 ?_; simp only [List.take_succ_cons,List.take_zero,List.take_nil,List.drop_succ_cons,List.drop_zero,List.drop_nil]; simp only [go_sem,hP]; (repeat refine qJ ?_))
  (refine SOps_grid hP (hlin bs) hat rfl rfl rfl (by simp only [List.map_cons,List.map_nil,List.append_nil,List.nil_append,List.cons_append]; simp only [go_sem,AV.lendL,lend_grid,AV.lend]; first | done | rfl) ?_)
  rintro r l' ⟨rfl,rfl⟩
  refine ⟨R',rfl,rfl,rfl,?_⟩
  have hmany:=hLL.many
  (refine SOps_ops ?_; simp only [go_sem,hP,linesV]; (repeat refine qJ ?_))
  refine WV_block ?_
  refine WV_loopS (fun k:Nat => ⟨upd (upd (upd (upd (upd e0 4 (.vw 1 1000 0 R'.length cap)) 22 (.c (linesV bs LL))) 23 (iv LL.length)) 24 (iv k)) 6 (iv (if (LL.take k).all fun l => lackL (gv R') l == 0 then 0 else 142)),gown bcd 1 R' j o0⟩) (fun k => k ≤ LL.length ∧ (LL.take k).all (fun l => (lostL (gv R') l).length == 0) = true) (fun k => LL.length - k) 0 ⟨Nat.zero_le _,by simp⟩ ?_ ?_
  ·exact Sub_of (by exact EnvLe_au) (ObLe_gown (by exact ObjLe_au))
  ·intro k ⟨hk,hk1⟩
   (repeat ((first | refine Va ?_ | refine Vb ?_ | refine Vc ?_ | refine Vd ?_ | refine Ve ?_ | refine Vf ?_); (try simp only [go_sem,hP]); (repeat refine qJ ?_)))
   (refine WV_cond rfl (fun h => ?_) (fun h => ?_))
   ·have hk2:k < LL.length:=by simpa using h
    have hw2:=w64 (n:=(k:Int) + 1) (by omega) (by omega)
    have hmem:=List.getElem_mem hk2
    have hsn:=all_snoc (fun l => (lostL (gv R') l).length == 0) hk2
    have hsn2:=all_snoc (fun l => lackL (gv R') l == 0) hk2
    have hlk:=lack_rng (gv R') LL[k]
    have hst:=state69 bs hR' hb' (hLL.inr _ hmem) (hLL.len _ hmem) (j:=j)
    generalize hll:(lostL (gv R') LL[k]).length = nl at hsn hst
    generalize hla:lackL (gv R') LL[k] = la at hsn2 hst hlk
    (refine WV_skip ?_; simp only [go_sem])
    refine WV_seq_ (WV_block (WV_seq_ ?_))
    (refine WV_op ?_; simp only [go_sem,hP,linesV,map_getD hk2,lcd,List.length_map,Int.toNat_natCast,Int.ofNat_lt,hk2,Int.natCast_nonneg]; (repeat refine qJ ?_))
    refine WV_seq_ ?_
    (refine WV_split 1 ?_; simp only [List.take_succ_cons,List.take_zero,List.take_nil,List.drop_succ_cons,List.drop_zero,List.drop_nil]; simp only [go_sem,hP]; (repeat refine qJ ?_))
    (refine SOps_grid hP (hst) hat rfl rfl rfl (by simp only [List.map_cons,List.map_nil,List.append_nil,List.nil_append,List.cons_append]; simp only [go_sem,AV.lendL,lend_grid,AV.lend]; first | done | rfl) ?_)
    rintro r l' ⟨rfl,rfl⟩
    refine ⟨R',rfl,rfl,rfl,?_⟩
    (refine SOps_ops ?_; simp only [go_sem,hP]; (repeat refine qJ ?_))
    (repeat ((first | refine Va ?_ | refine Vb ?_ | refine Vc ?_ | refine Vd ?_ | refine Ve ?_ | refine Vf ?_); (try simp only [go_sem,hP]); (repeat refine qJ ?_)))
    by_cases h0:nl = 0
    ·subst h0
     have hk3:(LL.take (k + 1)).all (fun l => (lostL (gv R') l).length == 0) = true:=by rw [hsn,hk1]; rfl
     (refine WV_cond rfl (fun h => ?_) (fun h => ?_))
     ·simp at h
     ·(repeat ((first | refine Va ?_ | refine Vb ?_ | refine Vc ?_ | refine Vd ?_ | refine Ve ?_ | refine Vf ?_); (try simp only [go_sem,hP]); (repeat refine qJ ?_)))
      by_cases hla0:la = 0
      ·subst hla0
       (refine WV_cond rfl (fun h => ?_) (fun h => ?_))
       ·simp at h
       ·(repeat ((first | refine Va ?_ | refine Vb ?_ | refine Vc ?_ | refine Vd ?_ | refine Ve ?_ | refine Vf ?_); (try simp only [go_sem,hP,hw2]); (repeat refine qJ ?_)))
        refine ⟨k + 1,⟨by omega,hk3⟩,by omega,?_⟩
        rw [hsn2,show ((0:Int) == 0) = true from rfl,Bool.and_true]
        exact Sub_of (by exact EnvLe_au) (ObLe_gown (by exact ObjLe_au))
      ·(refine WV_cond rfl (fun h => ?_) (fun h => ?_))
       ·(repeat ((first | refine Va ?_ | refine Vb ?_ | refine Vc ?_ | refine Vd ?_ | refine Ve ?_ | refine Vf ?_); (try simp only [go_sem,hP,hw2]); (repeat refine qJ ?_)))
        refine ⟨k + 1,⟨by omega,hk3⟩,by omega,?_⟩
        rw [hsn2,show (la == 0) = false from by simpa using hla0,Bool.and_false]
        exact Sub_of (by exact EnvLe_au) (ObLe_gown (by exact ObjLe_au))
       ·simp at h; omega
    ·have hall:=all_take_false (fun l => (lostL (gv R') l).length == 0) hk2 (by rw [hll]; simpa using h0)
     rw [hall,if_neg (by simp)] at hwh'
     rw [hwh']
     (refine WV_cond rfl (fun h => ?_) (fun h => ?_))
     ·(repeat ((first | refine Va ?_ | refine Vb ?_ | refine Vc ?_ | refine Vd ?_ | refine Ve ?_ | refine Vf ?_); (try simp only [go_sem,hP]); (repeat refine qJ ?_)))
      (refine WV_ret ?_; simp only [thenQ,inQ,RetQ,RetOk,resAll,resA]; simp only [go_sem,tupA,AV.port,AV.portL,exists_eq_left'])
      refine AVle.tup ?_
      exact ⟨_,_,rfl,AVle.nil 1,_,_,rfl,AVle.refl _,rfl⟩
     ·simp at h; omega
   ·have h:k = LL.length:=by simp at h; omega
    subst h
    rw [List.take_length] at hk1 ⊢
    rw [hk1,if_pos rfl] at hwh'
    rw [hwh']
    (repeat ((first | refine Va ?_ | refine Vb ?_ | refine Vc ?_ | refine Vd ?_ | refine Ve ?_ | refine Vf ?_); (try simp only [go_sem,hP]); (repeat refine qJ ?_)))
    refine WV_frzGrid (fun n ds hn => ?_) (fun n ds hn => frzO_o0 _ _) ?_
    ·have hn3:¬ (1000:Nat) = n:=by omega
     simp only [go_sem,AV.frz]
     simp only [hn3,if_false]
    simp only [frzE_upd,frzE_e0,frz_grid]
    rw [gv_vals,bytes_vals hb'.mem]
    (refine WV_ret ?_; simp only [thenQ,inQ,RetQ,RetOk,resAll,resA]; simp only [go_sem,tupA,AV.port,AV.portL,exists_eq_left'])
    exact AVle.refl _
end Go.Proofs.YtdoidahbimonhaaDoor

namespace Go.Proofs.YtdoidahbimonhaaDoor
open Go Go.V
attribute [local go_sem] Nat.reduceEqDiff Nat.reduceAdd Nat.reduceMul reduceIte Nat.reduceLeDiff Nat.reduceLT Nat.reduceBEq reduceCtorEq
end Go.Proofs.YtdoidahbimonhaaDoor

namespace Go.Proofs.YtdoidahbimonhaaDoor
open Go Go.V
attribute [local go_sem] Nat.reduceEqDiff Nat.reduceAdd Nat.reduceMul reduceIte Nat.reduceLeDiff Nat.reduceLT Nat.reduceBEq reduceCtorEq
end Go.Proofs.YtdoidahbimonhaaDoor

namespace Go.Proofs.YtdoidahbimonhaaDoor
open Go Go.V
attribute [local go_sem] Nat.reduceEqDiff Nat.reduceAdd Nat.reduceMul reduceIte Nat.reduceLeDiff Nat.reduceLT Nat.reduceBEq reduceCtorEq
end Go.Proofs.YtdoidahbimonhaaDoor

namespace Go.Proofs.YtdoidahbimonhaaDoor
open Go Go.V
attribute [local go_sem] Nat.reduceEqDiff Nat.reduceAdd Nat.reduceMul reduceIte Nat.reduceLeDiff Nat.reduceLT Nat.reduceBEq reduceCtorEq
end Go.Proofs.YtdoidahbimonhaaDoor

namespace Go.Proofs.YtdoidahbimonhaaDoor
open Go Go.V
attribute [local go_sem] Nat.reduceEqDiff Nat.reduceAdd Nat.reduceMul reduceIte Nat.reduceLeDiff Nat.reduceLT Nat.reduceBEq reduceCtorEq
end Go.Proofs.YtdoidahbimonhaaDoor

namespace Go.Proofs.YtdoidahbimonhaaDoor
open Go Go.V
attribute [local go_sem] Nat.reduceEqDiff Nat.reduceAdd Nat.reduceMul reduceIte Nat.reduceLeDiff Nat.reduceLT Nat.reduceBEq reduceCtorEq
end Go.Proofs.YtdoidahbimonhaaDoor

namespace Go.Proofs.YtdoidahbimonhaaDoor
open Go Go.V Go.Shelf Go.RowKit
theorem bInfo98:(Tryd.prog.info? 90).map (·.size) = some 2:=by kernel_rfl
theorem bLies98:liesAt Tryd.prog Tryd.prog.depth 90 (2 / Tryd.prog.cellsOf 90) 0 90 1 = true:=by kernel_rfl
theorem bInfo5:(Tryd.prog.info? 5).map (fun i => (i.zero,i.size,i.bytes)) = some (some (.int .u8 0),1,1):=by kernel_rfl
theorem bT96:Tryd.prog.underlying 88 = some (.pointer 90):=by kernel_rfl
theorem bT139:Tryd.prog.underlying 139 = some .unsafePointer:=by kernel_rfl
theorem bT68:Tryd.prog.underlying 51 = some (.slice 5):=by kernel_rfl
theorem bT9:Tryd.prog.underlying 9 = some .string:=by kernel_rfl
set_option maxHeartbeats 1000000 in
set_option maxRecDepth 100000 in
theorem copyCheck_used (b:Nat) (w:World) (h0:w.cell? ⟨b,0,none⟩ = some (.pointer (some ⟨b,0,none⟩))) :
  Calls Tryd.prog 70 #[.pointer (some ⟨b,0,none⟩)] w fun e w' => e = .returned (.tuple #[]) ∧ w' = w:=by
 obtain ⟨j,hj,_⟩:=Option.map_eq_some_iff.1 bInfo98
 go_enter Tryd.func70,Tryd.ntmps70
 go_wp2
 rw [Lib.run_neq_ptr_same w _ bT96 hj]
 go_wp2
 go_end0
 exact ⟨rfl,rfl⟩
set_option maxHeartbeats 1000000 in
set_option maxRecDepth 100000 in
theorem copyCheck_fresh (b:Nat) (w:World) (h0:w.cell? ⟨b,0,none⟩ = some (.pointer none)) (hsh:w.shape? b = some (90,2)) (hfz:w.frozen? ⟨b,0,none⟩ = false) :
  Calls Tryd.prog 70 #[.pointer (some ⟨b,0,none⟩)] w fun e w' => e = .returned (.tuple #[]) ∧ w' = w.setCell ⟨b,0,none⟩ (.pointer (some ⟨b,0,none⟩)):=by
 obtain ⟨j,hj,hjs⟩:=Option.map_eq_some_iff.1 bInfo98
 go_enter Tryd.func70,Tryd.ntmps70
 go_wp2
 rw [Lib.run_to_unsafe w ⟨b,0,none⟩ bT96 bT139 hj (by rw [hjs]; decide) hsh (Nat.zero_lt_succ 1)]
 simp only [Result.andThen]
 rw [Oper.upon_value]
 go_wp2
 rw [run_callFunc_extern Tryd.func79 (by kernel_rfl) (by kernel_rfl) (by kernel_rfl) (e:=Extern.AbiNoEscape.same) (by kernel_rfl)]
 rw [Lib.run_noEscape]
 simp only [Result.andThen]
 rw [Oper.upon_value]
 go_wp2
 rw [Lib.run_from_unsafe w ⟨b,0,none⟩ bT139 bT96 hj hsh bLies98]
 simp only [Result.andThen]
 rw [Oper.upon_value]
 go_wp2
 go_end0
 exact ⟨rfl,rfl⟩
theorem copyCheck90 (B b:Nat) (bs:List Value) (w:World) (h:Lib.IsBuilder 90 5 B b bs w) :
  Calls Tryd.prog 70 #[.pointer (some ⟨b,0,none⟩)] w fun e w' => e = .returned (.tuple #[]) ∧ (Lib.BuilderAt 90 5 B b (.pointer (some ⟨b,0,none⟩)) bs w' ∧ Below B w w'):=by
 rcases h with h | h
 ·refine (copyCheck_fresh b w h.cell0 h.shape h.frozen0).mono ?_
  rintro e w' ⟨rfl,rfl⟩
  exact ⟨rfl,h.used _,(Below.refl B w).setCell (p:=⟨b,0,none⟩) h.1 _⟩
 ·refine (copyCheck_used b w h.cell0).mono ?_
  rintro e w' ⟨rfl,rfl⟩
  exact ⟨rfl,h,Below.refl B _⟩
set_option maxHeartbeats 2000000 in
set_option maxRecDepth 100000 in
theorem writeS71 (B b:Nat) (bs:List Value) (s:ByteArray) (w:World) (h:Lib.IsBuilder 90 5 B b bs w) (hlen:bs.length + s.size ≤ 140737488355328) (hBw:B ≤ w.heap.size) :
  Calls Tryd.prog 45 #[.pointer (some ⟨b,0,none⟩),.string s] w fun e w' => e = .returned (.tuple #[.int .i64 s.size,.nilIface]) ∧ (Lib.BuilderAt 90 5 B b (.pointer (some ⟨b,0,none⟩)) (bs ++ Lib.strCells s) w' ∧ Below B w w'):=by
 obtain ⟨i0,hi,hz0,hz1,hz2⟩:=info_parts bInfo5
 go_enter Tryd.func45,Tryd.ntmps45
 go_wp2_with (go_at_call 70; refine (copyCheck90 B b bs _ h).mono ?_)
 rintro e w1 ⟨rfl,h1,hb1⟩
 obtain ⟨hB,v,hbk,hown,hne⟩:=h1
 have c0:w1.cell? ⟨b,0,none⟩ = some (.pointer (some ⟨b,0,none⟩)):=by rw [Lib.cell_of_heap hbk]; rfl
 have c1:w1.cell? ⟨b,1,none⟩ = some v:=by rw [Lib.cell_of_heap hbk]; rfl
 go_wp2_with (at_builtin; refine Lib.wpList_append_own_string _ rfl _ _ 51 9 rfl B 5 i0 bT68 bT9 hi hz0 hz1 hz2 _ _ _ rfl hown s rfl ?c3 ?c4 ?c5 ?_)
 case c3 => unfold maxLen; omega
 case c4 => omega
 case c5 => have:=hb1.size; omega
 intro v' w2 hown' hgrow _
 have hlt:b < w1.heap.size:=by
  rcases Nat.lt_or_ge b w1.heap.size with h' | h'
  ·exact h'
  ·simp [Array.getElem?_eq_none h'] at hbk
 have hb2:w2.heap[b]? = some (.cells #[.pointer (some ⟨b,0,none⟩),v] 90 (0,0)):=by
  rw [hgrow.block b hlt (fun e => hne e.symm)]
  exact hbk
 have d0:w2.cell? ⟨b,0,none⟩ = some (.pointer (some ⟨b,0,none⟩)):=by rw [Lib.cell_of_heap hb2]; rfl
 have d1:w2.cell? ⟨b,1,none⟩ = some v:=by rw [Lib.cell_of_heap hb2]; rfl
 have f1:w2.frozen? ⟨b,1,none⟩ = false:=Lib.frozen_of_heap hb2 1
 obtain ⟨ao,n',cap,rfl⟩ : ∃ ao n' cap,v' = .slice ao n' cap:=by
  rcases hown'.2 with ⟨hv,_⟩ | ⟨g,cap,cur,hv,_⟩
  ·exact ⟨_,_,_,hv⟩
  ·exact ⟨_,_,_,hv⟩
 go_wp2
 go_ret2
 refine ⟨rfl,?_,?_⟩
 ·exact Lib.BuilderAt.put (T:=90) (e:=5) hB hb2 (bs':=bs ++ Lib.strCells s) (by simpa [Lib.strCells_length] using hown') (by decide)
 ·exact (hb1.grown hgrow (by have:=hb1.size; omega) (fun k hk => (hown.lt k hk).1)).setCell (p:=⟨b,1,none⟩) hB _
end Go.Proofs.YtdoidahbimonhaaDoor

namespace Go.Proofs.YtdoidahbimonhaaDoor
open Go Go.V Go.Shelf Go.RowKit
set_option maxHeartbeats 2000000 in
set_option maxRecDepth 100000 in
theorem write70 (B b:Nat) (bs:List Value) (ad:Addr) (m c:Nat) (news:List Value) (w:World) (h:Lib.IsBuilder 90 5 B b bs w)
  (hl:news.length = m) (hnews:∀ j u,news[j]? = some u → w.cell? (ad.add j) = some u) (hadB:ad.block < B) (h1:∀ u ∈ news,u.oneCell' = true)
  (hlen:bs.length + m ≤ 140737488355328) (hBw:B ≤ w.heap.size) :
  Calls Tryd.prog 44 #[.pointer (some ⟨b,0,none⟩),.slice (some ad) m c] w fun e w' => e = .returned (.tuple #[.int .i64 m,.nilIface]) ∧ (Lib.BuilderAt 90 5 B b (.pointer (some ⟨b,0,none⟩)) (bs ++ news) w' ∧ Below B w w'):=by
 obtain ⟨i0,hi,hz0,hz1,hz2⟩:=info_parts bInfo5
 go_enter Tryd.func44,Tryd.ntmps44
 go_wp2_with (go_at_call 70; refine (copyCheck90 B b bs _ h).mono ?_)
 rintro e w1 ⟨rfl,h1',hb1⟩
 obtain ⟨hB,v,hbk,hown,hne⟩:=h1'
 have c0:w1.cell? ⟨b,0,none⟩ = some (.pointer (some ⟨b,0,none⟩)):=by rw [Lib.cell_of_heap hbk]; rfl
 have c1:w1.cell? ⟨b,1,none⟩ = some v:=by rw [Lib.cell_of_heap hbk]; rfl
 have hnews1:∀ j u,news[j]? = some u → w1.cell? (ad.add j) = some u:=fun j u hj => by rw [hb1.cell (p:=ad.add j) (by unfold Addr.add; split <;> exact hadB)]; exact hnews j u hj
 go_wp2_with (at_builtin; refine wpList_append_own _ rfl _ _ 51 rfl B 5 i0 (.int .u8 0) 1 1 bT68 hi hz0 hz1 hz2 rfl (by decide) _ _ _ rfl hown ad m c news rfl (by omega) hnews1 h1 ?c3 ?c4 ?c5 ?_)
 case c3 => unfold maxLen; omega
 case c4 => omega
 case c5 => have:=hb1.size; omega
 intro v' w2 hown' hgrow _
 have hlt:b < w1.heap.size:=by
  rcases Nat.lt_or_ge b w1.heap.size with h' | h'
  ·exact h'
  ·simp [Array.getElem?_eq_none h'] at hbk
 have hb2:w2.heap[b]? = some (.cells #[.pointer (some ⟨b,0,none⟩),v] 90 (0,0)):=by
  rw [hgrow.block b hlt (fun e => hne e.symm)]
  exact hbk
 have d0:w2.cell? ⟨b,0,none⟩ = some (.pointer (some ⟨b,0,none⟩)):=by rw [Lib.cell_of_heap hb2]; rfl
 have d1:w2.cell? ⟨b,1,none⟩ = some v:=by rw [Lib.cell_of_heap hb2]; rfl
 have f1:w2.frozen? ⟨b,1,none⟩ = false:=Lib.frozen_of_heap hb2 1
 obtain ⟨ao,n',cap,rfl⟩ : ∃ ao n' cap,v' = .slice ao n' cap:=by
  rcases hown'.2 with ⟨hv,_⟩ | ⟨g,cap,cur,hv,_⟩
  ·exact ⟨_,_,_,hv⟩
  ·exact ⟨_,_,_,hv⟩
 go_wp2
 go_ret2
 refine ⟨rfl,?_,?_⟩
 ·exact Lib.BuilderAt.put (T:=90) (e:=5) hB hb2 (bs':=bs ++ news) (by simpa [hl] using hown') (by decide)
 ·exact (hb1.grown hgrow (by have:=hb1.size; omega) (fun k hk => (hown.lt k hk).1)).setCell (p:=⟨b,1,none⟩) hB _
def bRen:Ren:=⟨fun x => match x with | 169 => 46 | n => n,fun x => match x with | 70 => 88 | 72 => 90 | 37 => 51 | 127 => 125 | n => n,fun x => x⟩
theorem bLays:Lays.n169 Tryd.prog bRen:=by
 constructor <;> first | kernel_rfl | (intro w; kernel_rfl)
theorem bExtra:Builder.Extra Tryd.prog bRen where
 sizeBuilder:=by kernel_rfl
 liesBuilder:=by kernel_rfl
 t5:=by kernel_rfl
 a5:=by intro w; kernel_rfl
 z5:=by intro w; kernel_rfl
 v5:=by intro w; kernel_rfl
 infoByte:=by kernel_rfl
 cellsByte:=by kernel_rfl
 sizeByte:=by kernel_rfl
 neB5:=by decide
theorem string72 (B b:Nat) (l:List UInt8) (w:World) (h:Lib.IsBuilder 90 5 B b (Lib.byteCells l) w) (hBw:B ≤ w.heap.size) :
  Calls Tryd.prog 46 #[.pointer (some ⟨b,0,none⟩)] w fun e w' => e = .returned (.string ⟨l.toArray⟩) ∧ Below B w w':=Any.Builder_String_any bLays bExtra B b l w h hBw
end Go.Proofs.YtdoidahbimonhaaDoor

namespace Go.Proofs.YtdoidahbimonhaaDoor
open Go Go.V Go.Shelf Go.RowKit
abbrev o24_0:List Ins:=[⟨some 2,.mv (.k (.c (.str []))),none,true⟩]
abbrev o24_1:List Ins:=[⟨some 3,.alloc [(.c (.raw (.pointer none))),(.c (.raw (.slice none 0 0)))],none,true⟩]
abbrev o24_2:List Ins:=[⟨some 6,.mv (.t 0),none,true⟩,
 ⟨some 7,.len (.t 6),none,true⟩,
 ⟨some 8,.mv (.k (.c (.int .i64 0))),none,true⟩]
abbrev o24_3:List Ins:=[⟨some 9,.bin .lss (.t 8) (.t 7),none,true⟩]
abbrev o24_4:List Ins:=[⟨some 10,.ia 1 (.t 6) (.t 8),none,true⟩,
 ⟨some 11,.ld true 1 (.t 10),none,true⟩,
 ⟨some 5,.mv (.t 11),none,true⟩]
abbrev o24_5:List Ins:=[⟨some 12,.mv (.t 5),none,true⟩,
 ⟨some 13,.call (.k (.fn 44 [])) [(.t 3),(.t 12)],none,true⟩]
abbrev o24_6:List Ins:=[⟨some 14,.call (.k (.fn 45 [])) [(.t 3),(.k (.c (.str [10])))],none,true⟩]
abbrev v24_7:VC:=(.seq (.ops o24_5) (.ops o24_6))
abbrev v24_8:VC:=(.seq (.ops o24_4) v24_7)
abbrev o24_9:List Ins:=[⟨some 15,.bin .add (.t 8) (.k (.c (.int .i64 1))),none,true⟩,
 ⟨some 8,.mv (.t 15),none,true⟩]
abbrev v24_10:VC:=(.seq (.block 1 v24_8) (.ops o24_9))
abbrev v24_11:VC:=(.seq (.cond (.t 9) .skip (.exit 0)) v24_10)
abbrev v24_12:VC:=(.seq (.ops o24_3) v24_11)
-- K24_1: changed and kept: [8]
abbrev v24_13:VC:=(.loop v24_12)
abbrev v24_14:VC:=(.block 0 v24_13)
abbrev o24_15:List Ins:=[⟨some 16,.call (.k (.fn 46 [])) [(.t 3)],none,true⟩,
 ⟨some 2,.mv (.t 16),none,true⟩]
abbrev v24_16:VC:=(.seq (.ops o24_15) .ret)
abbrev v24_17:VC:=(.seq (.seq (.ops o24_2) v24_14) v24_16)
abbrev v24_18:VC:=(.seq (.ops o24_1) v24_17)
def ir24:FC:=⟨1,17,[.t 2],(.seq (.ops o24_0) v24_18)⟩
theorem c24:compM Tryd.prog [] 24 = some ir24:=by kernel_rfl
def textG (rows:List (List UInt8)):List UInt8:=rows.flatMap fun l => l ++ [10]
theorem textG_snoc {rows:List (List UInt8)} {k:Nat} (h:k < rows.length):textG (rows.take (k + 1)) = textG (rows.take k) ++ (rows[k] ++ [10]):=by
 unfold textG
 rw [List.take_succ_eq_append_getElem h,List.flatMap_append]; simp
theorem textG_len {rows:List (List UInt8)} (m:Nat) (h:∀ l ∈ rows,l.length ≤ m):∀ k,(textG (rows.take k)).length ≤ k * (m + 1)
 | 0 => by simp [textG]
 | k + 1 => by
  have ih:=textG_len m h k
  by_cases hk:k < rows.length
  ·rw [textG_snoc hk,List.length_append,List.length_append]
   have:=h _ (List.getElem_mem hk)
   rw [Nat.add_mul]; simp; omega
  ·rw [List.take_of_length_le (by omega)] at ih ⊢
   rw [Nat.add_mul]; omega
theorem cell_lt' {w:World} {a:Addr} {u:Value} (h:w.cell? a = some u):a.block < w.heap.size:=by
 rcases Nat.lt_or_ge a.block w.heap.size with h' | h'
 ·exact h'
 ·simp [World.cell?,Array.getElem?_eq_none h'] at h
theorem add_block (a:Addr) (n:Nat):(a.add n).block = a.block:=by unfold Addr.add; split <;> rfl
theorem bytes_cell {w:World} {M:Cells} {l:List UInt8} {ad:Addr} (h:RepE w M 1 (l.map bcd) ad):∀ j u,(Lib.byteCells l)[j]? = some u → w.cell? (ad.add j) = some u:=by
 intro j u hj
 simp only [Lib.byteCells,List.getElem?_map,Option.map_eq_some_iff] at hj
 obtain ⟨b,hb,rfl⟩:=hj
 have hjl:j < l.length:=(List.getElem?_eq_some_iff.1 hb).1
 have:=(RepE.get _ _ j h (by simpa using hjl)).2
 rw [List.getD_eq_getElem?_getD,List.getElem?_map,hb] at this
 simp only [Option.map_some,Option.getD_some,bcd,RepL,RepC,Nat.mul_one] at this
 obtain ⟨⟨u,h1,_,rfl⟩,_⟩:=this
 exact h1
theorem grid_cells {w:World} {M:Cells} {rows:List (List UInt8)} {v:Value} (h:RepC w M (gridD rows) v) (hne:∀ l ∈ rows,l ≠ []) (hr:rows ≠ []) :
  ∃ ad cap,v = .slice (some ad) rows.length cap ∧ rows.length ≤ cap ∧ cap ≤ maxLen ∧ ∀ k (hk:k < rows.length),∃ adk ck,w.cell? (ad.add k) = some (.slice (some adk) (rows[k]).length ck) ∧ adk.block < w.heap.size ∧ (∀ j u,(Lib.byteCells rows[k])[j]? = some u → w.cell? (adk.add j) = some u):=by
 simp only [gridD,rowsD,RepC] at h
 obtain ⟨A,cap,rfl,h1,h2,h3⟩:=h
 rcases h3 with h3 | ⟨ad,rfl,h3⟩
 ·simp at h3; exact (hr h3).elim
 rw [List.length_map] at h1
 refine ⟨ad,cap,by simp,h1,h2,fun k hk => ?_⟩
 have hrk:=(RepE.get _ _ k h3 (by simpa using hk)).2
 rw [List.getD_eq_getElem?_getD,List.getElem?_map,List.getElem?_eq_getElem hk] at hrk
 simp only [Option.map_some,Option.getD_some,RepL,RepC,Nat.mul_one] at hrk
 obtain ⟨⟨u,k1,_,A',ck,rfl,k2,k3,k4⟩,_⟩:=hrk
 have hnk:=hne _ (List.getElem_mem hk)
 rcases k4 with k4 | ⟨adk,rfl,k4⟩
 ·simp at k4; exact (hnk k4).elim
 have hb:=bytes_cell k4
 have h0:0 < (rows[k]).length:=List.length_pos_iff.2 hnk
 have hc0:=hb 0 (.int .u8 ((rows[k])[0]).toNat) (by simp [Lib.byteCells,h0])
 refine ⟨adk,ck,by simpa using k1,?_,hb⟩
 have:=cell_lt' hc0
 rwa [add_block] at this
theorem byteOne (l:List UInt8):∀ u ∈ Lib.byteCells l,u.oneCell' = true:=by
 intro v hv
 simp only [Lib.byteCells,List.mem_map] at hv
 obtain ⟨b,_,rfl⟩:=hv
 rfl
set_option maxHeartbeats 4000000 in
set_option maxRecDepth 1000000 in
theorem string_walk {w:World} {M:Cells} {rows:List (List UInt8)} {v:Value} (h:RepC w M (gridD rows) v) (hne:∀ l ∈ rows,l ≠ []) (hr:rows ≠ []) (hlen:rows.length ≤ 100000) (hlw:∀ l ∈ rows,l.length ≤ 100000) :
  Calls Tryd.prog 24 #[v] w fun e w' => e = .returned (.string ⟨(textG rows).toArray⟩) ∧ Below w.heap.size w w':=by
 obtain ⟨ad,cap,rfl,hc1,hc2,hc⟩:=grid_cells h hne hr
 have hmax:maxLen = 9223372036854775807:=rfl
 go_enter Tryd.func24,Tryd.ntmps24
 go_wp2
 go_loopw [8] (fun vi wr => ∃ k:Nat,vi = .int .i64 k ∧ k ≤ rows.length ∧ Lib.IsBuilder 90 5 w.heap.size w.heap.size (Lib.byteCells (textG (rows.take k))) wr ∧ Below w.heap.size w wr) (fun vi _ => rows.length - (intOf vi).toNat)
 case atStart =>
  exact ⟨0,rfl,Nat.zero_le _,Lib.fresh_isBuilder 90 5 w,(Below.refl _ w).alloc (Nat.le_refl _) _⟩
 case round =>
  obtain ⟨k,rfl,hk,hI,hbw⟩:=hrel
  by_cases hk2:k < rows.length
  ·obtain ⟨adk,ck,g1,g2,g3⟩:=hc k hk2
   have g1':wr.cell? (ad.add k) = some (.slice (some adk) (rows[k]).length ck):=by rw [hbw.cell (by rw [add_block]; have:=cell_lt' g1; rwa [add_block] at this)]; exact g1
   have g3':∀ j u,(Lib.byteCells rows[k])[j]? = some u → wr.cell? (adk.add j) = some u:=fun j u hj => by rw [hbw.cell (by rw [add_block]; exact g2)]; exact g3 j u hj
   have hl1:=textG_len 100000 hlw k
   have hl2:=hlw _ (List.getElem_mem hk2)
   have hl3:k * 100001 ≤ 100000 * 100001:=Nat.mul_le_mul (by omega) (Nat.le_refl _)
   go_wp2_with (go_at_call 44; refine (write70 w.heap.size w.heap.size _ adk (rows[k]).length ck (Lib.byteCells rows[k]) _ hI (Lib.byteCells_length _) g3' g2 (byteOne _) (by rw [Lib.byteCells_length]; omega) hbw.size).mono ?_)
   rintro e W1 ⟨rfl,h1,b1⟩
   go_wp2_with (go_at_call 45; refine (writeS71 w.heap.size w.heap.size _ _ _ (Or.inr h1) (by rw [List.length_append,Lib.byteCells_length,Lib.byteCells_length]; show _ + 1 ≤ _; omega) (Nat.le_trans hbw.size b1.size)).mono ?_)
   rintro e W2 ⟨rfl,h2,b2⟩
   go_wp2
   go_roundw
   case rel =>
    refine ⟨k + 1,by go_num,by omega,?_,(hbw.trans b1).trans b2⟩
    have e:Lib.byteCells (textG (rows.take (k + 1))) = Lib.byteCells (textG (rows.take k)) ++ Lib.byteCells rows[k] ++ Lib.byteCells [10]:=by
     rw [textG_snoc hk2,Lib.byteCells_append,Lib.byteCells_append,List.append_assoc]
    rw [e]
    exact Or.inr h2
   case measure => simp [intOf]; omega
  ·go_wp2_with (go_at_call 46; refine (string72 w.heap.size w.heap.size _ _ hI hbw.size).mono ?_)
   rintro e W1 ⟨rfl,b1⟩
   go_wp2
   go_ret
   have hk3:k = rows.length:=by omega
   subst hk3
   rw [List.take_length]
   exact ⟨rfl,hbw.trans b1⟩
theorem string45 {rows:List (List UInt8)} (hne:∀ l ∈ rows,l ≠ []) (hr:rows ≠ []) (hlen:rows.length ≤ 100000) (hlw:∀ l ∈ rows,l.length ≤ 100000):FSpec Tryd.prog 24 [.c (gridD rows)] (.c (.str (textG rows))):=by
 refine ⟨(body_call c24).1,fun w M vs hM hrep => ?_⟩
 simp only [RepAs,RepA] at hrep
 obtain ⟨v,vs',rfl,h1,rfl⟩:=hrep
 refine (string_walk h1 hne hr hlen hlw).mono ?_
 rintro e w' ⟨rfl,hb⟩
 exact ⟨_,rfl,by simp only [RepA,RepC],hb⟩
end Go.Proofs.YtdoidahbimonhaaDoor

namespace Go.Proofs.YtdoidahbimonhaaDoor
open Go Go.V
attribute [local go_sem] Nat.reduceEqDiff Nat.reduceAdd Nat.reduceMul reduceIte Nat.reduceLeDiff Nat.reduceLT Nat.reduceBEq reduceCtorEq
theorem restN_gow {n w:Nat}:∀ (k:Nat) (g:List (List Int)),GOw n w g → GOw n w (restN n w k g)
 | 0,g,h => h
 | k + 1,g,h => by
  unfold restN
  cases hs:stepG n w g with
  | none => exact h
  | some g' =>
   obtain ⟨_,_,_,_,_,_,_,_,h2,_⟩:=stepG_some h hs
   exact restN_gow k g' h2
theorem restG_gow {n w:Nat} {g:List (List Int)} (h:GOw n w g):GOw n w (restG n w g):=restN_gow _ _ h
theorem vals_gow {rows:List (List UInt8)} {w:Nat} (h:SOk rows w):GOw rows.length w (valsG rows):=by
 have hl:(valsG rows).length = rows.length:=by simp [valsG]
 have hg:∀ i (hi:i < rows.length),(valsG rows).getD i [] = (rows[i]).map vq:=fun i hi => by
  rw [List.getD_eq_getElem?_getD,List.getElem?_eq_getElem (by rw [hl]; exact hi)]
  simp [valsG]
 refine ⟨hl,fun i hi => by rw [hg i hi,List.length_map]; exact h.row _ (List.getElem_mem hi),fun i k hi hk => ?_⟩
 have hk':k < (rows[i]).length:=by rw [h.row _ (List.getElem_mem hi)]; exact hk
 unfold valAt
 rw [hg i hi,map_getD hk']
 exact vq_rng (h.byte _ (List.getElem_mem hi) _ (List.getElem_mem hk'))
theorem sheet_gow {rows:List (List UInt8)} {w:Nat} (h:SOk rows w) (hw:(rows.headD []).length = w):GOw rows.length w (sheetG rows):=by
 unfold sheetG
 rw [hw]
 exact restG_gow (vals_gow h)
theorem bytesG_len (g:List (List Int)):(bytesG g).length = g.length:=by simp [bytesG]
theorem GOw.bytes {n w:Nat} {g:List (List Int)} (h:GOw n w g):∀ l ∈ bytesG g,l.length = w:=by
 intro l hl
 simp only [bytesG,List.mem_map] at hl
 obtain ⟨r,hr,rfl⟩:=hl
 obtain ⟨i,hi,rfl⟩:=List.getElem_of_mem hr
 have:=h.row i (by rw [← h.len]; exact hi)
 rw [List.getD_eq_getElem?_getD,List.getElem?_eq_getElem hi] at this
 rw [List.length_map]
 exact this
theorem whole_some {s:List UInt8} (h:(wholeG s).2 = 0):∃ rows w,parseP s = some rows ∧ SOk rows w ∧ (rows.headD []).length = w ∧ (wholeG s).1 = sheetG rows ∧ GOw rows.length w (sheetG rows) ∧ noLost rows.length w (sheetG rows) = true ∧ noLack rows.length w (sheetG rows) = true:=by
 unfold wholeG at h ⊢
 cases hp:parseP s with
 | none => rw [hp] at h; cases h
 | some rows =>
  rw [hp] at h
  simp only at h ⊢
  have hok:=parse_ok hp
  by_cases h1:noLost rows.length (rows.headD []).length (sheetG rows) = true
  ·rw [if_pos h1] at h ⊢
   simp only at h
   by_cases h2:noLack rows.length (rows.headD []).length (sheetG rows) = true
   ·exact ⟨rows,_,rfl,hok,rfl,rfl,sheet_gow hok rfl,h1,h2⟩
   ·rw [if_neg h2] at h; cases h
  ·rw [if_neg h1] at h; cases h
def mendG (s:List UInt8):List UInt8 × Int:=if (wholeG s).2 = 0 then (textG (bytesG (wholeG s).1),0) else ([],(wholeG s).2)
end Go.Proofs.YtdoidahbimonhaaDoor

namespace Go.Proofs.YtdoidahbimonhaaDoor
open Go Go.V
abbrev o49_0:List Ins:=[⟨some 4,.mv (.k (.c (.str []))),none,true⟩]
abbrev o49_1:List Ins:=[⟨some 5,.mv (.t 0),none,true⟩,
 ⟨some 6,.prim .slen [(.t 5)],none,true⟩,
 ⟨some 7,.bin .gtr (.t 6) (.k (.c (.int .i64 0))),none,true⟩,
 ⟨some 8,.mv (.t 7),none,true⟩,
 ⟨some 9,.mv (.t 0),(some (8,true)),true⟩,
 ⟨some 10,.mv (.t 0),(some (8,true)),true⟩,
 ⟨some 11,.prim .slen [(.t 10)],(some (8,true)),true⟩,
 ⟨some 12,.bin .sub (.t 11) (.k (.c (.int .i64 1))),(some (8,true)),true⟩,
 ⟨some 13,.prim .sidx [(.t 9),(.t 12)],(some (8,true)),true⟩,
 ⟨some 14,.mv (.t 1),(some (8,true)),true⟩,
 ⟨some 15,.bin .eql (.t 13) (.t 14),(some (8,true)),true⟩,
 ⟨some 16,.pick (.t 8) (.t 15) (.k (.c (.bool false))),none,true⟩]
abbrev v49_2:VC:=(.cond (.t 16) .skip (.exit 0))
abbrev o49_3:List Ins:=[⟨some 17,.mv (.t 0),none,true⟩,
 ⟨some 18,.mv (.t 0),none,true⟩,
 ⟨some 19,.prim .slen [(.t 18)],none,true⟩,
 ⟨some 20,.bin .sub (.t 19) (.k (.c (.int .i64 1))),none,true⟩,
 ⟨some 21,.prim (.sslc false true) [(.t 17),(.t 20)],none,true⟩,
 ⟨some 0,.mv (.t 21),none,true⟩]
abbrev v49_4:VC:=(.block 1 (.ops o49_3))
abbrev v49_5:VC:=(.seq (.seq (.ops o49_1) v49_2) v49_4)
-- K49_1: changed and kept: [0]
abbrev v49_6:VC:=(.loop v49_5)
abbrev o49_7:List Ins:=[⟨some 22,.mv (.t 0),none,true⟩,
 ⟨some 4,.mv (.t 22),none,true⟩]
abbrev v49_8:VC:=(.seq (.ops o49_7) .ret)
abbrev v49_9:VC:=(.seq (.block 0 v49_6) v49_8)
def ir49:FC:=⟨2,23,[.t 4],(.seq (.ops o49_0) v49_9)⟩
abbrev o26_0:List Ins:=[⟨some 4,.mv (.k (.c (.str []))),none,true⟩]
abbrev o26_1:List Ins:=[⟨some 7,.mv (.t 0),none,true⟩,
 ⟨some 8,.prim (.sbin .eql) [(.t 7),(.k (.c (.str [])))],none,true⟩,
 ⟨some 9,.mv (.t 8),none,true⟩,
 ⟨some 10,.mv (.t 1),(some (9,false)),true⟩,
 ⟨some 11,.prim (.sbin .eql) [(.t 10),(.k (.c (.str [])))],(some (9,false)),true⟩,
 ⟨some 12,.pick (.t 9) (.k (.c (.bool true))) (.t 11),none,true⟩]
abbrev o26_2:List Ins:=[⟨some 13,.mv (.t 0),none,true⟩,
 ⟨some 4,.mv (.t 13),none,true⟩]
abbrev v26_3:VC:=(.seq (.ops o26_2) .ret)
abbrev v26_4:VC:=(.cond (.t 12) v26_3 .skip)
abbrev o26_5:List Ins:=[⟨some 14,.mv (.t 1),none,true⟩,
 ⟨some 15,.prim .slen [(.t 14)],none,true⟩,
 ⟨some 16,.bin .eql (.t 15) (.k (.c (.int .i64 1))),none,true⟩,
 ⟨some 17,.mv (.t 16),none,true⟩,
 ⟨some 18,.mv (.t 1),(some (17,true)),true⟩,
 ⟨some 19,.prim .sidx [(.t 18),(.k (.c (.int .i64 0)))],(some (17,true)),true⟩,
 ⟨some 20,.bin .lss (.t 19) (.k (.c (.int .u8 128))),(some (17,true)),true⟩,
 ⟨some 21,.pick (.t 17) (.t 20) (.k (.c (.bool false))),none,true⟩]
abbrev o26_6:List Ins:=[⟨some 22,.mv (.t 0),none,true⟩,
 ⟨some 23,.mv (.t 1),none,true⟩,
 ⟨some 24,.prim .sidx [(.t 23),(.k (.c (.int .i64 0)))],none,true⟩,
 ⟨some 25,.call (.k (.fn 49 [])) [(.t 22),(.t 24)],none,true⟩,
 ⟨some 4,.mv (.t 25),none,true⟩]
abbrev v26_7:VC:=(.seq (.ops o26_6) .ret)
abbrev v26_8:VC:=(.cond (.t 21) v26_7 .skip)
abbrev o26_9:List Ins:=[⟨some 27,.mv (.t 1),none,true⟩,
 ⟨some 28,.call (.k (.fn 50 [])) [(.t 27)],none,true⟩,
 ⟨some 26,.mv (.t 28),none,true⟩,
 ⟨some 29,.ext (.t 26) 0,none,true⟩,
 ⟨some 30,.ext (.t 26) 1,none,true⟩,
 ⟨some 5,.alloc [(.c (.bool false)),(.c (.bool false)),(.c (.bool false)),(.c (.bool false)),(.c (.bool false)),(.c (.bool false)),(.c (.bool false)),(.c (.bool false)),(.c (.bool false)),(.c (.bool false)),(.c (.bool false)),(.c (.bool false)),(.c (.bool false)),(.c (.bool false)),(.c (.bool false)),(.c (.bool false)),(.c (.bool false)),(.c (.bool false)),(.c (.bool false)),(.c (.bool false)),(.c (.bool false)),(.c (.bool false)),(.c (.bool false)),(.c (.bool false)),(.c (.bool false)),(.c (.bool false)),(.c (.bool false)),(.c (.bool false)),(.c (.bool false)),(.c (.bool false)),(.c (.bool false)),(.c (.bool false)),(.c (.bool false)),(.c (.bool false)),(.c (.bool false)),(.c (.bool false)),(.c (.bool false)),(.c (.bool false)),(.c (.bool false)),(.c (.bool false)),(.c (.bool false)),(.c (.bool false)),(.c (.bool false)),(.c (.bool false)),(.c (.bool false)),(.c (.bool false)),(.c (.bool false)),(.c (.bool false)),(.c (.bool false)),(.c (.bool false)),(.c (.bool false)),(.c (.bool false)),(.c (.bool false)),(.c (.bool false)),(.c (.bool false)),(.c (.bool false)),(.c (.bool false)),(.c (.bool false)),(.c (.bool false)),(.c (.bool false)),(.c (.bool false)),(.c (.bool false)),(.c (.bool false)),(.c (.bool false)),(.c (.bool false)),(.c (.bool false)),(.c (.bool false)),(.c (.bool false)),(.c (.bool false)),(.c (.bool false)),(.c (.bool false)),(.c (.bool false)),(.c (.bool false)),(.c (.bool false)),(.c (.bool false)),(.c (.bool false)),(.c (.bool false)),(.c (.bool false)),(.c (.bool false)),(.c (.bool false)),(.c (.bool false)),(.c (.bool false)),(.c (.bool false)),(.c (.bool false)),(.c (.bool false)),(.c (.bool false)),(.c (.bool false)),(.c (.bool false)),(.c (.bool false)),(.c (.bool false)),(.c (.bool false)),(.c (.bool false)),(.c (.bool false)),(.c (.bool false)),(.c (.bool false)),(.c (.bool false)),(.c (.bool false)),(.c (.bool false)),(.c (.bool false)),(.c (.bool false)),(.c (.bool false)),(.c (.bool false)),(.c (.bool false)),(.c (.bool false)),(.c (.bool false)),(.c (.bool false)),(.c (.bool false)),(.c (.bool false)),(.c (.bool false)),(.c (.bool false)),(.c (.bool false)),(.c (.bool false)),(.c (.bool false)),(.c (.bool false)),(.c (.bool false)),(.c (.bool false)),(.c (.bool false)),(.c (.bool false)),(.c (.bool false)),(.c (.bool false)),(.c (.bool false)),(.c (.bool false)),(.c (.bool false)),(.c (.bool false)),(.c (.bool false)),(.c (.bool false)),(.c (.bool false)),(.c (.bool false)),(.c (.bool false)),(.c (.bool false)),(.c (.bool false)),(.c (.bool false)),(.c (.bool false)),(.c (.bool false)),(.c (.bool false)),(.c (.bool false)),(.c (.bool false)),(.c (.bool false)),(.c (.bool false)),(.c (.bool false)),(.c (.bool false)),(.c (.bool false)),(.c (.bool false)),(.c (.bool false)),(.c (.bool false)),(.c (.bool false)),(.c (.bool false)),(.c (.bool false)),(.c (.bool false)),(.c (.bool false)),(.c (.bool false)),(.c (.bool false)),(.c (.bool false)),(.c (.bool false)),(.c (.bool false)),(.c (.bool false)),(.c (.bool false)),(.c (.bool false)),(.c (.bool false)),(.c (.bool false)),(.c (.bool false)),(.c (.bool false)),(.c (.bool false)),(.c (.bool false)),(.c (.bool false)),(.c (.bool false)),(.c (.bool false)),(.c (.bool false)),(.c (.bool false)),(.c (.bool false)),(.c (.bool false)),(.c (.bool false)),(.c (.bool false)),(.c (.bool false)),(.c (.bool false)),(.c (.bool false)),(.c (.bool false)),(.c (.bool false)),(.c (.bool false)),(.c (.bool false)),(.c (.bool false)),(.c (.bool false)),(.c (.bool false)),(.c (.bool false)),(.c (.bool false)),(.c (.bool false)),(.c (.bool false)),(.c (.bool false)),(.c (.bool false)),(.c (.bool false)),(.c (.bool false)),(.c (.bool false)),(.c (.bool false)),(.c (.bool false)),(.c (.bool false)),(.c (.bool false)),(.c (.bool false)),(.c (.bool false)),(.c (.bool false)),(.c (.bool false)),(.c (.bool false)),(.c (.bool false)),(.c (.bool false)),(.c (.bool false)),(.c (.bool false)),(.c (.bool false)),(.c (.bool false)),(.c (.bool false)),(.c (.bool false)),(.c (.bool false)),(.c (.bool false)),(.c (.bool false)),(.c (.bool false)),(.c (.bool false)),(.c (.bool false)),(.c (.bool false)),(.c (.bool false)),(.c (.bool false)),(.c (.bool false)),(.c (.bool false)),(.c (.bool false)),(.c (.bool false)),(.c (.bool false)),(.c (.bool false)),(.c (.bool false)),(.c (.bool false)),(.c (.bool false)),(.c (.bool false)),(.c (.bool false)),(.c (.bool false)),(.c (.bool false)),(.c (.bool false)),(.c (.bool false)),(.c (.bool false)),(.c (.bool false)),(.c (.bool false)),(.c (.bool false)),(.c (.bool false)),(.c (.bool false)),(.c (.bool false)),(.c (.bool false)),(.c (.bool false)),(.c (.bool false)),(.c (.bool false)),(.c (.bool false)),(.c (.bool false)),(.c (.bool false)),(.c (.bool false)),(.c (.bool false)),(.c (.bool false)),(.c (.bool false)),(.c (.bool false)),(.c (.bool false)),(.c (.bool false)),(.c (.bool false)),(.c (.bool false))],none,true⟩,
 ⟨none,.st 256 (.t 5) (.t 29),none,true⟩,
 ⟨some 6,.mv (.t 30),none,true⟩]
abbrev o26_10:List Ins:=[⟨some 31,.mv (.t 6),none,true⟩]
abbrev o26_11:List Ins:=[⟨some 32,.mv (.t 0),none,true⟩,
 ⟨some 33,.call (.k (.fn 51 [])) [(.t 32),(.t 5)],none,true⟩,
 ⟨some 4,.mv (.t 33),none,true⟩]
abbrev v26_12:VC:=(.seq (.ops o26_11) .ret)
abbrev v26_13:VC:=(.cond (.t 31) v26_12 .skip)
abbrev v26_14:VC:=(.seq (.ops o26_10) v26_13)
abbrev o26_15:List Ins:=[⟨some 34,.mv (.t 0),none,true⟩,
 ⟨some 35,.mv (.t 1),none,true⟩,
 ⟨some 36,.call (.k (.fn 52 [])) [(.t 34),(.t 35)],none,true⟩,
 ⟨some 4,.mv (.t 36),none,true⟩]
abbrev v26_16:VC:=(.seq (.ops o26_15) .ret)
abbrev v26_17:VC:=(.seq (.seq (.ops o26_9) v26_14) v26_16)
abbrev v26_18:VC:=(.seq (.seq (.ops o26_5) v26_8) v26_17)
abbrev v26_19:VC:=(.seq (.seq (.ops o26_1) v26_4) v26_18)
def ir26:FC:=⟨2,37,[.t 4],(.seq (.ops o26_0) v26_19)⟩
theorem c49:compM Tryd.prog [] 49 = some ir49:=by kernel_rfl
theorem c26:compM Tryd.prog [] 26 = some ir26:=by kernel_rfl
attribute [local go_sem] Nat.reduceEqDiff Nat.reduceAdd Nat.reduceMul reduceIte Nat.reduceLeDiff Nat.reduceLT Nat.reduceBEq reduceCtorEq
def trimR (b:UInt8) (s:List UInt8):List UInt8:=(s.reverse.dropWhile (· == b)).reverse
theorem trimR_snoc (b:UInt8) (s:List UInt8) (c:UInt8):trimR b (s ++ [c]) = if c = b then trimR b s else s ++ [c]:=by
 unfold trimR
 simp only [List.reverse_append,List.reverse_cons,List.reverse_nil,List.nil_append,List.singleton_append,List.dropWhile_cons,beq_iff_eq]
 split
 ·rfl
 ·simp
set_option maxRecDepth 20000 in
set_option maxHeartbeats 4000000 in
theorem trimright73 (s:List UInt8) (b:UInt8) (hs:s.length ≤ maxLen):FSpec Tryd.prog 49 [sv s,u8 b] (sv (trimR b s)):=by
 have hmax:maxLen = 9223372036854775807:=rfl
 refine FSpec_of c49 (Nat.le_refl _) (by decide) fun C hP hN hC hL => ?_; rw [init_st]
 simp only [ir49]
 refine WV_seq_ ?_
 (refine WV_op ?_; simp only [go_sem,hP]; (repeat refine qJ ?_))
 refine WV_seq_ (WV_block ?_)
 refine WV_loopS (fun t:List UInt8 => ⟨upd (upd e0 0 (sv t)) 1 (u8 b),o0⟩) (fun t => t.length ≤ s.length ∧ trimR b t = trimR b s) (fun t => t.length) s ⟨Nat.le_refl _,rfl⟩ ?_ ?_
 ·exact Sub_au
 ·rintro t ⟨h1,h2⟩
  rcases List.eq_nil_or_concat t with rfl | ⟨t0,c,rfl⟩
  ·(repeat ((first | refine Va ?_ | refine Vb ?_ | refine Vc ?_ | refine Vd ?_ | refine Ve ?_ | refine Vf ?_); (try simp only [go_sem,hP]); (repeat refine qJ ?_)))
   (refine WV_cond rfl (fun h => ?_) (fun h => ?_))
   ·simp at h
   ·(refine WV_exit ?_; simp only [go_sem])
    (repeat ((first | refine Va ?_ | refine Vb ?_ | refine Vc ?_ | refine Vd ?_ | refine Ve ?_ | refine Vf ?_); (try simp only [go_sem,hP]); (repeat refine qJ ?_)))
    rw [← h2]
    (refine WV_ret ?_; simp only [thenQ,inQ,RetQ,RetOk,resAll,resA]; simp only [go_sem,tupA,AV.port,AV.portL,exists_eq_left']; (first | exact AVle.of rfl | refine AVle.of ?_ | skip))
  ·rw [List.concat_eq_append] at h1 h2 ⊢
   have hl:(t0 ++ [c]).length = t0.length + 1:=by simp
   rw [hl] at h1
   have hw:=w64 (n:=((t0.length + 1:Nat):Int) - 1) (by omega) (by omega)
   have hn:(((t0.length + 1:Nat):Int) - 1).toNat = t0.length:=by omega
   have hg:(t0 ++ [c]).getD t0.length 0 = c:=by simp
   have hcb:(((c.toNat:Nat):Int) == ((b.toNat:Nat):Int)) = decide (c = b):=by
    rw [Bool.eq_iff_iff]; simp [← UInt8.toNat_inj]; omega
   have hp:decide (((t0.length + 1:Nat):Int) > 0) = true:=by simp
   rw [trimR_snoc] at h2
   (repeat ((first | refine Va ?_ | refine Vb ?_ | refine Vc ?_ | refine Vd ?_ | refine Ve ?_ | refine Vf ?_); (try simp only [go_sem,hP,hl,hw,hn,hg,hp,hcb]); (repeat refine qJ ?_)))
   by_cases hc:c = b
   ·rw [if_pos hc] at h2
    have htk:(t0 ++ [c]).take t0.length = t0:=by simp
    (refine WV_cond rfl (fun h => ?_) (fun h => ?_))
    ·(repeat ((first | refine Va ?_ | refine Vb ?_ | refine Vc ?_ | refine Vd ?_ | refine Ve ?_ | refine Vf ?_); (try simp only [go_sem,hP,hl,hw,hn,htk]); (repeat refine qJ ?_)))
     refine ⟨t0,⟨by omega,h2⟩,by omega,?_⟩
     exact Sub_au
    ·simp at h; exact (h hc).elim
   ·rw [if_neg hc] at h2
    (refine WV_cond rfl (fun h => ?_) (fun h => ?_))
    ·simp at h; exact (hc h).elim
    ·(refine WV_exit ?_; simp only [go_sem])
     (repeat ((first | refine Va ?_ | refine Vb ?_ | refine Vc ?_ | refine Vd ?_ | refine Ve ?_ | refine Vf ?_); (try simp only [go_sem,hP]); (repeat refine qJ ?_)))
     rw [← h2]
     (refine WV_ret ?_; simp only [thenQ,inQ,RetQ,RetOk,resAll,resA]; simp only [go_sem,tupA,AV.port,AV.portL,exists_eq_left']; (first | exact AVle.of rfl | refine AVle.of ?_ | skip))
theorem trimright46 (s:List UInt8) (b:UInt8) (hs:s.length ≤ maxLen) (hb:b.toNat < 128):FSpec Tryd.prog 26 [sv s,sv [b]] (sv (trimR b s)):=by
 have hmax:maxLen = 9223372036854775807:=rfl
 refine FSpec_of c26 (Nat.le_refl _) (by decide) fun C hP hN hC hL => ?_; rw [init_st]
 simp only [ir26]
 (repeat ((first | refine Va ?_ | refine Vb ?_ | refine Vc ?_ | refine Vd ?_ | refine Ve ?_ | refine Vf ?_); (try simp only [go_sem,hP]); (repeat refine qJ ?_)))
 have hb1:([b] == []) = false:=rfl
 rw [hb1,Bool.or_false]
 by_cases h0:s = []
 ·subst h0
  (refine WV_cond rfl (fun h => ?_) (fun h => ?_))
  ·(repeat ((first | refine Va ?_ | refine Vb ?_ | refine Vc ?_ | refine Vd ?_ | refine Ve ?_ | refine Vf ?_); (try simp only [go_sem,hP]); (repeat refine qJ ?_)))
   (refine WV_ret ?_; simp only [thenQ,inQ,RetQ,RetOk,resAll,resA]; simp only [go_sem,tupA,AV.port,AV.portL,exists_eq_left']; (first | exact AVle.of rfl | refine AVle.of ?_ | skip))
  ·simp at h
 ·have h0':(s == []) = false:=by simpa using h0
  rw [h0']
  have hb2:decide (((b.toNat:Nat):Int) < 128) = true:=by simp; omega
  (refine WV_cond rfl (fun h => ?_) (fun h => ?_))
  ·simp at h
  ·(repeat ((first | refine Va ?_ | refine Vb ?_ | refine Vc ?_ | refine Vd ?_ | refine Ve ?_ | refine Vf ?_); (try simp only [go_sem,hP,List.length_singleton,hb2,List.getD_cons_zero]); (repeat refine qJ ?_)))
   (refine WV_cond rfl (fun h => ?_) (fun h => ?_))
   ·(repeat ((first | refine Va ?_ | refine Vb ?_ | refine Vc ?_ | refine Vd ?_ | refine Ve ?_ | refine Vf ?_); (try simp only [go_sem,hP,List.length_singleton,List.getD_cons_zero]); (repeat refine qJ ?_)))
    (refine AS_pu (trimright73 s b hs) ?_; simp only [go_sem,hP]; (repeat refine qJ ?_); (repeat ((first | refine Va ?_ | refine Vb ?_ | refine Vc ?_ | refine Vd ?_ | refine Ve ?_ | refine Vf ?_); (try simp only [go_sem,hP]); (repeat refine qJ ?_))))
    (refine WV_ret ?_; simp only [thenQ,inQ,RetQ,RetOk,resAll,resA]; simp only [go_sem,tupA,AV.port,AV.portL,exists_eq_left']; (first | exact AVle.of rfl | refine AVle.of ?_ | skip))
   ·simp at h; omega
end Go.Proofs.YtdoidahbimonhaaDoor
