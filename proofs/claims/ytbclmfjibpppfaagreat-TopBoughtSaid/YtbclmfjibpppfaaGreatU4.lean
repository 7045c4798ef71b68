/-
  Contracts of the layer's functions, of the laws' helpers and of the law; conditions: as each theorem states.
-/
import Derived.Test.YtbclmfjibpppfaaGreatV2
import Derived.Test.YtbclmfjibpppfaaGreatV3
import Derived.Test.YtbclmfjibpppfaaGreatChecked
import Derived.DeepKeys5
set_option linter.unusedVariables false
set_option linter.unusedSimpArgs false
namespace Go.V
abbrev JS (d:Nat) (i:I):Ins:=⟨some d,i,none,true⟩
abbrev JN (i:I):Ins:=⟨none,i,none,true⟩
abbrev JF (d:Nat) (i:I):Ins:=⟨some d,i,none,false⟩
abbrev JE (i:I):Ins:=⟨none,i,none,false⟩
abbrev JG (d:Nat) (i:I) (g:Nat) (b:Bool):Ins:=⟨some d,i,some (g,b),true⟩
abbrev JH (d:Nat) (i:I) (g:Nat) (b:Bool):Ins:=⟨some d,i,some (g,b),false⟩
abbrev Jm (x:Nat):I:=.mv (.t x)
abbrev Jf (o x:Nat):I:=.fa o (.t x)
abbrev Jl (x:Nat):I:=.ld true 1 (.t x)
abbrev JL (n x:Nat):I:=.ld false n (.t x)
abbrev Jb (o:BinOp) (x y:Nat):I:=.bin o (.t x) (.t y)
abbrev Jk (o:BinOp) (x:Nat) (n:Int):I:=.bin o (.t x) (.k (.c (.int .i64 n)))
abbrev Je (x i:Nat):I:=.ext (.t x) i
abbrev Jn (x:Nat):I:=.len (.t x)
abbrev Ji (n:Int):I:=.mv (.k (.c (.int .i64 n)))
abbrev JB (b:Bool):I:=.mv (.k (.c (.bool b)))
abbrev Js (n x y:Nat):I:=.st n (.t x) (.t y)
abbrev Ja (n x i:Nat):I:=.ia n (.t x) (.t i)
abbrev Jc (f:FuncId) (l:List X):I:=.call (.k (.fn f [])) l
abbrev Jo (x y:Nat):I:=.pick (.t x) (.k (.c (.bool true))) (.t y)
abbrev Jp (x y:Nat):I:=.pick (.t x) (.t y) (.k (.c (.bool false)))
abbrev Jz (n:Int):AV:=.c (.int .i64 n)
abbrev J0:AV:=.c (.raw (.slice none 0 0))
end Go.V

/-
 Routes as data,and what comes of them: plain.
-/
namespace Go.Proofs.YtbclmfjibpppfaaGreat
open Go Go.V
abbrev iv (n:Int):AV:=.c (.int .i64 n)
def ints (l:List Int):CD:=.sl 1 (l.map fun n => [.int .i64 n])
def within (n lo hi:Int):Bool:=decide (lo ≤ n) && decide (n ≤ hi)
theorem ints_lens {l:List Int} (h:(ints l).lens):l.length ≤ 9223372036854775807:=by
 simp only [ints,CD.lens,List.length_map,maxLen] at h; omega
theorem map_getD {α β:Type} {l:List α} {f:α → β} {k:Nat} {d:β} (h:k < l.length):(l.map f).getD k d = f l[k]:=by
 simp [h]
theorem take_all {α:Type} {l:List α} {k:Nat} (p:α → Bool) (h:k < l.length):(l.take (k + 1)).all p = ((l.take k).all p && p l[k]):=by
 rw [List.take_succ_eq_append_getElem h,List.all_append]; simp [List.all_cons]
theorem ibeq (a b:Nat):((a:Int) == (b:Int)) = (a == b):=by rw [Bool.eq_iff_iff]; simp; omega
theorem ibne (a b:Nat):((a:Int) != (b:Int)) = !(a == b):=by rw [bne,ibeq]
end Go.Proofs.YtbclmfjibpppfaaGreat

namespace Go.Proofs.YtbclmfjibpppfaaGreat
open Go Go.V
abbrev o31_0:List Ins:=[JS 6 (JB false)]
abbrev o31_1:List Ins:=[JS 7 (Jm 1),JS 8 (Jm 0),JS 9 (Jb .leq 7 8),JS 10 (Jm 9),JG 11 (Jm 0) 10 true,JG 12 (Jm 2) 10 true,JG 13 (Jb .leq 11 12) 10 true,JS 14 (Jp 10 13),JS 6 (Jm 14)]
abbrev v31_2:VC:=(.seq (.ops o31_1) .ret)
def ir31:FC:=⟨3,15,[.t 6],(.seq (.ops o31_0) v31_2)⟩
abbrev o63_0:List Ins:=[JS 6 (JB false)]
abbrev o63_1:List Ins:=[JS 9 (Jm 0),JS 10 (Jn 9),JS 11 (Ji 0)]
abbrev o63_2:List Ins:=[JS 12 (Jb .lss 11 10)]
abbrev o63_3:List Ins:=[JS 13 (Jm 11),JS 14 (Ja 1 9 11),JS 15 (Jl 14),JS 7 (Jm 13),JS 8 (Jm 15)]
abbrev o63_4:List Ins:=[JS 16 (Jm 8),JS 17 (Jm 2),JS 18 (Jc 31 [.t 16,(.k (Jz 1)),.t 17]),JS 19 (.un .not (.t 18)),JS 20 (Jm 19),JG 21 (Jm 7) 20 false,JG 22 (Jk .gtr 21 0) 20 false,JG 23 (Jm 22) 20 false,JG 24 (Jm 8) 23 true,JG 25 (Jm 0) 23 true,JG 26 (Jm 7) 23 true,JG 27 (Jk .sub 26 1) 23 true,JG 28 (Ja 1 25 27) 23 true,JG 29 (Jl 28) 23 true,JG 30 (Jb .leq 24 29) 23 true,JG 31 (Jp 23 30) 20 false,JS 32 (Jo 20 31)]
abbrev o63_5:List Ins:=[JS 6 (JB false)]
abbrev v63_6:VC:=(.seq (.ops o63_5) .ret)
abbrev v63_7:VC:=(.cond (.t 32) v63_6 .skip)
abbrev v63_8:VC:=(.seq (.ops o63_4) v63_7)
abbrev v63_9:VC:=(.seq (.ops o63_3) v63_8)
abbrev o63_10:List Ins:=[JS 33 (Jk .add 11 1),JS 11 (Jm 33)]
abbrev v63_11:VC:=(.seq (.block 1 v63_9) (.ops o63_10))
abbrev v63_12:VC:=(.seq (.cond (.t 12) .skip (.exit 0)) v63_11)
abbrev v63_13:VC:=(.seq (.ops o63_2) v63_12)
-- K63_1: changed and kept: [11]
abbrev v63_14:VC:=(.loop v63_13)
abbrev v63_15:VC:=(.block 0 v63_14)
abbrev o63_16:List Ins:=[JS 34 (Jm 0),JS 35 (Jn 34),JS 36 (Jm 1),JS 37 (Jb .leq 35 36),JS 6 (Jm 37)]
abbrev v63_17:VC:=(.seq (.ops o63_16) .ret)
abbrev v63_18:VC:=(.seq (.seq (.ops o63_1) v63_15) v63_17)
def ir63:FC:=⟨3,38,[.t 6],(.seq (.ops o63_0) v63_18)⟩
theorem c31:compM Tryz.prog [] 31 = some ir31:=by kernel_rfl
theorem c63:compM Tryz.prog [] 63 = some ir63:=by kernel_rfl
attribute [local go_sem] Nat.reduceEqDiff Nat.reduceAdd Nat.reduceMul reduceIte Nat.reduceLeDiff Nat.reduceLT Nat.reduceBEq reduceCtorEq
structure Wh where
 ro:Int
 no:List Int
 co:List Int
def Wh.avs (w:Wh):List AV:=[.c (.int .i64 w.ro),.c (ints w.no),.c (ints w.co)]
def Wh.av (w:Wh):AV:=.agg w.avs
theorem ints_get {l:List Int} {i:Nat} (hi:i < l.length):(l.map fun n => [CD.int .i64 n]).getD i [] = [.int .i64 (l.getD i 0)]:=by
 rw [map_getD hi,List.getD_eq_getElem?_getD,List.getElem?_eq_getElem hi]; rfl
theorem within50 (a b c:Int):FSpec Tryz.prog 31 [iv a,iv b,iv c] (.c (.bool (within a b c))):=by
 refine FSpec_of c31 (Nat.le_refl _) (by decide) fun C hP hN hC hL => ?_; rw [init_st]
 simp only [ir31]
 (repeat ((first | refine Va ?_ | refine Vb ?_ | refine Vc ?_ | refine Vd ?_ | refine Ve ?_ | refine Vf ?_); (try simp only [go_sem,hP]); (repeat refine qJ ?_)))
 (refine WV_ret ?_; simp only [thenQ,inQ,RetQ,RetOk,resAll,resA]; simp only [go_sem,tupA,AV.port,AV.portL,exists_eq_left']; (first | exact AVle.of rfl | refine AVle.of ?_ | skip))
def risK (lo hi:Int) (l:List Int):Nat → Bool
 | 0 => true
 | k + 1 => risK lo hi l k && (within (l.getD k 0) lo hi && (decide (k = 0) || decide (l.getD (k - 1) 0 < l.getD k 0)))
theorem risK_false {lo hi:Int} {l:List Int}:∀ {k m:Nat},risK lo hi l k = false → k ≤ m → risK lo hi l m = false
 | k,0,h,hm => by rwa [show k = 0 by omega] at h
 | k,m + 1,h,hm => by
  rcases Nat.lt_or_ge m k with h1 | h1
  ·rwa [show k = m + 1 by omega] at h
  ·unfold risK; rw [risK_false h h1]; rfl
def risB (lo hi:Int) (l:List Int):Bool:=risK lo hi l l.length
theorem risB_in {lo hi:Int} {l:List Int} (h:risB lo hi l = true):∀ n ∈ l,lo ≤ n ∧ n ≤ hi:=by
 have key:∀ k,risK lo hi l k = true → ∀ i,i < k → lo ≤ l.getD i 0 ∧ l.getD i 0 ≤ hi:=by
  intro k
  induction k with
  | zero => intro _ i hi; omega
  | succ k ih =>
   intro h i hi
   simp only [risK,Bool.and_eq_true,within,decide_eq_true_eq] at h
   rcases Nat.lt_or_ge i k with h1 | h1
   ·exact ih h.1 i h1
   ·rw [show i = k by omega]; exact h.2.1
 intro n hn
 obtain ⟨i,hi,rfl⟩:=List.getElem_of_mem hn
 have:=key _ h i hi
 rwa [List.getD_eq_getElem?_getD,List.getElem?_eq_getElem hi] at this
theorem risK_ge {lo hi:Int} {l:List Int}:∀ k,risK lo hi l k = true → ∀ i:Nat,i < k → lo + i ≤ l.getD i 0
 | 0,_,i,hi => by omega
 | k + 1,h,i,hi => by
  simp only [risK,Bool.and_eq_true,Bool.or_eq_true,within,decide_eq_true_eq] at h
  have ih:=risK_ge k h.1
  rcases Nat.lt_or_ge i k with h1 | h1
  ·exact ih i h1
  ·obtain rfl:i = k:=by omega
   rcases h.2.2 with h2 | h2
   ·subst h2; have:=h.2.1.1; omega
   ·rcases Nat.eq_zero_or_pos i with h3 | h3
    ·subst h3; have:=h.2.1.1; omega
    ·have:=ih (i - 1) (by omega)
     omega
theorem risB_len {hi:Int} {l:List Int} (h:risB 1 hi l = true) (h0:0 ≤ hi):(l.length:Int) ≤ hi:=by
 rcases Nat.eq_zero_or_pos l.length with h1 | h1
 ·omega
 ·have h2:=risK_ge _ h (l.length - 1) (by omega)
  have h3:=risB_in h (l.getD (l.length - 1) 0) (by rw [List.getD_eq_getElem?_getD,List.getElem?_eq_getElem (by omega)]; exact List.getElem_mem _)
  omega
set_option maxHeartbeats 8000000 in
theorem rising51 (l:List Int) (many most:Int):FSpec Tryz.prog 63 [.c (ints l),iv many,iv most] (.c (.bool (risB 1 most l && decide ((l.length:Int) ≤ many)))):=by
 refine FSpec_of c63 (Nat.le_refl _) (by decide) fun C hP hN hC hL => ?_; rw [init_st]
 have hl:l.length ≤ 9223372036854775807:=by simp only [AV.lensL,AV.lens] at hL; exact ints_lens hL.1
 simp only [ir63]
 (repeat ((first | refine Va ?_ | refine Vb ?_ | refine Vc ?_ | refine Vd ?_ | refine Ve ?_ | refine Vf ?_); (try simp only [go_sem,hP]); (repeat refine qJ ?_)))
 refine WV_loopS (fun k:Nat => ⟨upd (upd (upd (upd (upd (upd e0 0 (.c (ints l))) 1 (iv many)) 2 (iv most)) 9 (.c (ints l))) 10 (iv l.length)) 11 (iv k),o0⟩) (fun k => k ≤ l.length ∧ risK 1 most l k = true) (fun k => l.length - k) 0 ⟨Nat.zero_le _,rfl⟩ ?_ ?_
 ·(refine Sub_of (by simp only [go_sem]; ((repeat' (first | exact EnvLe_e0 _ _ | refine EnvLe_upd ?_ ?_)) <;> ((try simp only [upd_app,e0_app,o0_app,Nat.reduceEqDiff,reduceIte]); first | exact AWk.refl _ _ | exact AWk.int (by omega) | exact AWk.int (by rw [w64 (by omega) (by omega)]; omega) | exact AWk.grow rfl | exact AWk.nil _ | exact AWk.of (by simp [ints])))) (by simp only [go_sem]; exact ObjLe_au))
 rintro k ⟨hk,hr⟩
 (repeat ((first | refine Va ?_ | refine Vb ?_ | refine Vc ?_ | refine Vd ?_ | refine Ve ?_ | refine Vf ?_); (try simp only [go_sem,hP,ints,List.length_map]); (repeat refine qJ ?_)))
 (refine WV_cond rfl (fun h => ?_) (fun h => ?_))
 ·have hi:k < l.length:=by simpa using h
  have hw:=w64 (n:=(k:Int) + 1) (by omega) (by omega)
  have hgd:=ints_get hi
  have hs:risK 1 most l (k + 1) = (within (l.getD k 0) 1 most && (decide (k = 0) || decide (l.getD (k - 1) 0 < l.getD k 0))):=by
   conv => lhs; unfold risK
   rw [hr]; rfl
  have hfail:risK 1 most l (k + 1) = false → risB 1 most l = false:=fun h => risK_false h hi
  generalize l.getD k 0 = a at hgd hs
  have hz0:(Go.IntKind.i64.wrap (((0:Nat):Int) - 1)).toNat = 0:=rfl
  by_cases hz:k = 0
  ·subst hz
   have hd0:decide ((0:Int) < ((0:Nat):Int)) = false:=rfl
   have hs:risK 1 most l (0 + 1) = within a 1 most:=by rw [hs]; simp
   (repeat ((first | refine Va ?_ | refine Vb ?_ | refine Vc ?_ | refine Vd ?_ | refine Ve ?_ | refine Vf ?_); (try simp only [go_sem,hP,hgd,ints,List.length_map,Int.toNat_natCast,Int.ofNat_lt,hi,Int.natCast_nonneg,hd0,hz0]); (repeat refine qJ ?_)))
   (refine AS_pu (within50 a 1 most) ?_; simp only [go_sem,hP,hd0,hz0,hgd,ints,List.length_map,Int.toNat_natCast]; (repeat refine qJ ?_); (repeat ((first | refine Va ?_ | refine Vb ?_ | refine Vc ?_ | refine Vd ?_ | refine Ve ?_ | refine Vf ?_); (try simp only [go_sem,hP,hd0,hz0,hgd,ints,List.length_map,Int.toNat_natCast]); (repeat refine qJ ?_))))
   by_cases hin:within a 1 most = true
   ·rw [hin] at hs
    (refine WV_cond rfl (fun h => ?_) (fun h => ?_))
    ·simp [hin] at h
    (repeat ((first | refine Va ?_ | refine Vb ?_ | refine Vc ?_ | refine Vd ?_ | refine Ve ?_ | refine Vf ?_); (try simp only [go_sem,hP,hw]); (repeat refine qJ ?_)))
    refine ⟨0 + 1,⟨by omega,hs⟩,by omega,?_⟩
    (refine Sub_of (by simp only [go_sem]; ((repeat' (first | exact EnvLe_e0 _ _ | refine EnvLe_upd ?_ ?_)) <;> ((try simp only [upd_app,e0_app,o0_app,Nat.reduceEqDiff,reduceIte]); first | exact AWk.refl _ _ | exact AWk.int (by omega) | exact AWk.int (by rw [w64 (by omega) (by omega)]; omega) | exact AWk.grow rfl | exact AWk.nil _ | exact AWk.of (by simp [ints])))) (by simp only [go_sem]; exact ObjLe_au))
   ·have hin:within a 1 most = false:=by simpa using hin
    rw [hin] at hs
    rw [hfail hs]
    (refine WV_cond rfl (fun h => ?_) (fun h => ?_))
    ·(repeat ((first | refine Va ?_ | refine Vb ?_ | refine Vc ?_ | refine Vd ?_ | refine Ve ?_ | refine Vf ?_); (try simp only [go_sem,hP]); (repeat refine qJ ?_)))
     (refine WV_ret ?_; simp only [thenQ,inQ,RetQ,RetOk,resAll,resA]; simp only [go_sem,tupA,AV.port,AV.portL,exists_eq_left']; (first | exact AVle.of rfl | refine AVle.of ?_ | skip))
    ·simp [hin] at h
  ·have hgp:=ints_get (l:=l) (i:=k - 1) (by omega)
   generalize l.getD (k - 1) 0 = b at hgp hs
   have hd1:decide ((0:Int) < (k:Int)) = true:=by rw [decide_eq_true_eq]; omega
   have wi:=w64 (n:=(k:Int) - 1) (by omega) (by omega)
   have ei:((k:Int) - 1).toNat = k - 1:=by omega
   have hlt:(k:Int) - 1 < (l.length:Int):=by omega
   have hge:(0:Int) ≤ (k:Int) - 1:=by omega
   have hs:risK 1 most l (k + 1) = (within a 1 most && decide (b < a)):=by rw [hs]; simp [hz]
   (repeat ((first | refine Va ?_ | refine Vb ?_ | refine Vc ?_ | refine Vd ?_ | refine Ve ?_ | refine Vf ?_); (try simp only [go_sem,hP,hgd,ints,List.length_map,Int.toNat_natCast,Int.ofNat_lt,hi,Int.natCast_nonneg,hd1]); (repeat refine qJ ?_)))
   (refine AS_pu (within50 a 1 most) ?_; simp only [go_sem,hP,hd1,hgd,hgp,wi,ei,hlt,hge,ints,List.length_map,Int.toNat_natCast,Int.ofNat_lt,hi,Int.natCast_nonneg]; (repeat refine qJ ?_); (repeat ((first | refine Va ?_ | refine Vb ?_ | refine Vc ?_ | refine Vd ?_ | refine Ve ?_ | refine Vf ?_); (try simp only [go_sem,hP,hd1,hgd,hgp,wi,ei,hlt,hge,ints,List.length_map,Int.toNat_natCast,Int.ofNat_lt,hi,Int.natCast_nonneg]); (repeat refine qJ ?_))))
   by_cases hin:(within a 1 most && decide (b < a)) = true
   ·rw [hin] at hs
    rw [Bool.and_eq_true,decide_eq_true_eq] at hin
    (refine WV_cond rfl (fun h => ?_) (fun h => ?_))
    ·rw [hin.1] at h; simp at h; omega
    (repeat ((first | refine Va ?_ | refine Vb ?_ | refine Vc ?_ | refine Vd ?_ | refine Ve ?_ | refine Vf ?_); (try simp only [go_sem,hP,hw]); (repeat refine qJ ?_)))
    refine ⟨k + 1,⟨by omega,hs⟩,by omega,?_⟩
    (refine Sub_of (by simp only [go_sem]; ((repeat' (first | exact EnvLe_e0 _ _ | refine EnvLe_upd ?_ ?_)) <;> ((try simp only [upd_app,e0_app,o0_app,Nat.reduceEqDiff,reduceIte]); first | exact AWk.refl _ _ | exact AWk.int (by omega) | exact AWk.int (by rw [w64 (by omega) (by omega)]; omega) | exact AWk.grow rfl | exact AWk.nil _ | exact AWk.of (by simp [ints])))) (by simp only [go_sem]; exact ObjLe_au))
   ·have hin:(within a 1 most && decide (b < a)) = false:=by simpa using hin
    rw [hin] at hs
    rw [hfail hs]
    (refine WV_cond rfl (fun h => ?_) (fun h => ?_))
    ·(repeat ((first | refine Va ?_ | refine Vb ?_ | refine Vc ?_ | refine Vd ?_ | refine Ve ?_ | refine Vf ?_); (try simp only [go_sem,hP]); (repeat refine qJ ?_)))
     (refine WV_ret ?_; simp only [thenQ,inQ,RetQ,RetOk,resAll,resA]; simp only [go_sem,tupA,AV.port,AV.portL,exists_eq_left']; (first | exact AVle.of rfl | refine AVle.of ?_ | skip))
    ·cases h1:within a 1 most with
     | false => rw [h1] at h; simp at h
     | true => rw [h1] at h hin; simp at h hin; omega
 ·have hi:k = l.length:=by simp at h; omega
  subst hi
  unfold risB
  rw [hr]
  (repeat ((first | refine Va ?_ | refine Vb ?_ | refine Vc ?_ | refine Vd ?_ | refine Ve ?_ | refine Vf ?_); (try simp only [go_sem,hP,ints,List.length_map]); (repeat refine qJ ?_)))
  (refine WV_ret ?_; simp only [thenQ,inQ,RetQ,RetOk,resAll,resA]; simp only [go_sem,tupA,AV.port,AV.portL,exists_eq_left']; (first | exact AVle.of rfl | refine AVle.of ?_ | skip))
end Go.Proofs.YtbclmfjibpppfaaGreat

namespace Go.Proofs.YtbclmfjibpppfaaGreat
open Go Go.V
abbrev o49_0:List Ins:=[JS 1 (.box 3 (.t 0)),JS 2 (Ji 0)]
abbrev o49_1:List Ins:=[JS 3 (Jf 0 1),JS 4 (Jl 3),JS 5 (Jc 31 [.t 4,(.k (Jz 1)),(.k (Jz 200))]),JS 6 (.un .not (.t 5)),JS 7 (Jm 6),JG 8 (Jf 1 1) 7 false,JG 9 (Jl 8) 7 false,JG 10 (Jf 0 1) 7 false,JG 11 (Jl 10) 7 false,JG 12 (Jc 63 [.t 9,(.k (Jz 12)),.t 11]) 7 false,JG 13 (.un .not (.t 12)) 7 false,JS 14 (Jo 7 13),JS 15 (Jm 14),JG 16 (Jf 2 1) 15 false,JG 17 (Jl 16) 15 false,JG 18 (Jc 63 [.t 17,(.k (Jz 4)),(.k (Jz 100))]) 15 false,JG 19 (.un .not (.t 18)) 15 false,JS 20 (Jo 15 19)]
abbrev o49_2:List Ins:=[JS 2 (Ji 10)]
abbrev v49_3:VC:=(.seq (.ops o49_2) .ret)
abbrev v49_4:VC:=(.cond (.t 20) v49_3 .skip)
abbrev o49_5:List Ins:=[JS 2 (Ji 0)]
abbrev v49_6:VC:=(.seq (.ops o49_5) .ret)
abbrev v49_7:VC:=(.seq (.seq (.ops o49_1) v49_4) v49_6)
def ir49:FC:=⟨1,21,[.t 2],(.seq (.ops o49_0) v49_7)⟩
abbrev o50_0:List Ins:=[JS 3 (.box 3 (.t 0)),JS 6 (Ji 0),JS 7 (Ji 0)]
abbrev o50_1:List Ins:=[JS 11 (Jm 1),JS 12 (Jm 2),JS 13 (Jb .add 11 12),JS 8 (Jm 13)]
abbrev o50_2:List Ins:=[JS 14 (Jf 0 3),JS 15 (Jf 1 14),JS 16 (Jl 15),JS 17 (Jn 16),JS 18 (Ji 0)]
abbrev o50_3:List Ins:=[JS 19 (Jb .lss 18 17)]
abbrev o50_4:List Ins:=[JS 20 (Ja 1 16 18),JS 21 (Jl 20),JS 10 (Jm 21)]
abbrev o50_5:List Ins:=[JF 22 (Jm 7),JF 23 (Jm 8),JF 24 (Jm 10),JF 25 (Jb .sub 23 24),JF 26 (Jf 0 3),JF 27 (Jf 0 26),JF 28 (Jl 27),JF 29 (Jb .add 25 28),JF 30 (Jf 0 3),JF 31 (Jf 0 30),JF 32 (Jl 31),JF 33 (Jb .quo 29 32),JF 34 (Jm 1),JF 35 (Jm 10),JF 36 (Jb .sub 34 35),JF 37 (Jf 0 3),JF 38 (Jf 0 37),JF 39 (Jl 38),JF 40 (Jb .add 36 39),JF 41 (Jf 0 3),JF 42 (Jf 0 41),JF 43 (Jl 42),JF 44 (Jb .quo 40 43),JF 45 (Jb .sub 33 44),JS 46 (Jb .add 22 45),JS 7 (Jm 46)]
abbrev v50_6:VC:=(.seq (.ops o50_4) (.dops o50_5))
abbrev o50_7:List Ins:=[JS 47 (Jk .add 18 1),JS 18 (Jm 47)]
abbrev v50_8:VC:=(.seq (.block 1 v50_6) (.ops o50_7))
abbrev v50_9:VC:=(.seq (.cond (.t 19) .skip (.exit 0)) v50_8)
abbrev v50_10:VC:=(.seq (.ops o50_3) v50_9)
-- K50_1: changed and kept: [18,7]
abbrev K50_1:List Nat:=[1,3,8,16,17]
abbrev v50_11:VC:=(.loop v50_10)
abbrev v50_12:VC:=(.block 0 v50_11)
abbrev o50_13:List Ins:=[JS 48 (Jm 8),JS 49 (Jf 0 3),JS 50 (Jf 0 49),JS 51 (Jl 50),JS 52 (Jb .rem 48 51),JS 53 (Jm 7),JS 6 (Jm 52),JS 7 (Jm 53)]
abbrev v50_14:VC:=(.seq (.ops o50_13) .ret)
abbrev v50_15:VC:=(.seq (.seq (.ops o50_2) v50_12) v50_14)
abbrev v50_16:VC:=(.seq (.ops o50_1) v50_15)
def ir50:FC:=⟨3,54,[.t 6,.t 7],(.seq (.ops o50_0) v50_16)⟩
abbrev o88_0:List Ins:=[JS 2 (.box 3 (.t 0)),JS 4 (JB false)]
abbrev o88_1:List Ins:=[JS 5 (Jm 1),JS 6 (Jf 0 2),JS 7 (Jf 0 6),JS 8 (Jl 7),JS 9 (Jk .sub 8 1),JS 10 (Jc 31 [.t 5,(.k (Jz 0)),.t 9]),JS 4 (Jm 10)]
abbrev v88_2:VC:=(.seq (.ops o88_1) .ret)
def ir88:FC:=⟨2,11,[.t 4],(.seq (.ops o88_0) v88_2)⟩
abbrev o95_0:List Ins:=[JS 2 (.box 3 (.t 0)),JS 4 (JB false)]
abbrev o95_1:List Ins:=[JS 5 (Jm 1),JS 6 (Jf 0 2),JS 7 (Jf 2 6),JS 8 (Jl 7),JS 9 (Jn 8),JS 10 (Jk .sub 9 1),JS 11 (Jc 31 [.t 5,(.k (Jz 0)),.t 10]),JS 4 (Jm 11)]
abbrev v95_2:VC:=(.seq (.ops o95_1) .ret)
def ir95:FC:=⟨2,12,[.t 4],(.seq (.ops o95_0) v95_2)⟩
abbrev o90_0:List Ins:=[JS 2 (.box 3 (.t 0)),JS 4 (JB false)]
abbrev o90_1:List Ins:=[JS 5 (Jm 1),JS 6 (Jk .eql 5 (-1)),JS 7 (Jm 6),JG 8 (JL 3 2) 7 false,JG 9 (Jm 1) 7 false,JG 10 (Jc 95 [.t 8,.t 9]) 7 false,JS 11 (Jo 7 10),JS 4 (Jm 11)]
abbrev v90_2:VC:=(.seq (.ops o90_1) .ret)
def ir90:FC:=⟨2,12,[.t 4],(.seq (.ops o90_0) v90_2)⟩
theorem c49:compM Tryz.prog [] 49 = some ir49:=by kernel_rfl
theorem c50:compM Tryz.prog [] 50 = some ir50:=by kernel_rfl
theorem c88:compM Tryz.prog [] 88 = some ir88:=by kernel_rfl
theorem c95:compM Tryz.prog [] 95 = some ir95:=by kernel_rfl
theorem c90:compM Tryz.prog [] 90 = some ir90:=by kernel_rfl
attribute [local go_sem] Nat.reduceEqDiff Nat.reduceAdd Nat.reduceMul reduceIte Nat.reduceLeDiff Nat.reduceLT Nat.reduceBEq reduceCtorEq
def whB (w:Wh):Bool:=within w.ro 1 200 && (risB 1 w.ro w.no && decide ((w.no.length:Int) ≤ 12)) && (risB 1 100 w.co && decide ((w.co.length:Int) ≤ 4))
structure WhOk (w:Wh):Prop where
 ro:1 ≤ w.ro ∧ w.ro ≤ 200
 no:∀ n ∈ w.no,1 ≤ n ∧ n ≤ w.ro
 nl:w.no.length ≤ 12
 nr:(w.no.length:Int) ≤ w.ro
 co:∀ n ∈ w.co,1 ≤ n ∧ n ≤ 100
 cl:w.co.length ≤ 4
theorem whB_ok {w:Wh} (h:whB w = true):WhOk w:=by
 simp only [whB,Bool.and_eq_true,decide_eq_true_eq,within] at h
 exact ⟨h.1.1,risB_in h.1.2.1,by omega,risB_len h.1.2.1 (by omega),risB_in h.2.1,by omega⟩
def whE (w:Wh):Int:=if whB w then 0 else 10
theorem check36 (w:Wh):FSpec Tryz.prog 49 [w.av] (iv (whE w)):=by
 refine FSpec_of c49 (Nat.le_refl _) (by decide) fun C hP hN hC hL => ?_; rw [init_st]
 simp only [ir49,Wh.av,Wh.avs]
 (repeat ((first | refine Va ?_ | refine Vb ?_ | refine Vc ?_ | refine Vd ?_ | refine Ve ?_ | refine Vf ?_); (try simp only [go_sem,hP,Wh.avs,ints]); (repeat refine qJ ?_)))
 (refine AS_pu (within50 w.ro 1 200) ?_; simp only [go_sem,hP,ints]; (repeat refine qJ ?_); (repeat ((first | refine Va ?_ | refine Vb ?_ | refine Vc ?_ | refine Vd ?_ | refine Ve ?_ | refine Vf ?_); (try simp only [go_sem,hP,ints]); (repeat refine qJ ?_))))
 by_cases h1:within w.ro 1 200 = true
 ·simp only [go_sem,h1]
  (refine AG_pu (fun hG => rising51 w.no 12 w.ro) ?_; simp only [go_sem,hP,ints,h1]; (repeat refine qJ ?_); (repeat ((first | refine Va ?_ | refine Vb ?_ | refine Vc ?_ | refine Vd ?_ | refine Ve ?_ | refine Vf ?_); (try simp only [go_sem,hP,ints,h1]); (repeat refine qJ ?_))))
  by_cases h2:(risB 1 w.ro w.no && decide ((w.no.length:Int) ≤ 12)) = true
  ·simp only [go_sem,h2]
   (refine AG_pu (fun hG => rising51 w.co 4 100) ?_; simp only [go_sem,hP,ints,h1,h2]; (repeat refine qJ ?_); (repeat ((first | refine Va ?_ | refine Vb ?_ | refine Vc ?_ | refine Vd ?_ | refine Ve ?_ | refine Vf ?_); (try simp only [go_sem,hP,ints,h1,h2]); (repeat refine qJ ?_))))
   by_cases h3:(risB 1 100 w.co && decide ((w.co.length:Int) ≤ 4)) = true
   ·(refine WV_cond rfl (fun h => ?_) (fun h => ?_))
    ·simp [h3] at h
    ·(repeat ((first | refine Va ?_ | refine Vb ?_ | refine Vc ?_ | refine Vd ?_ | refine Ve ?_ | refine Vf ?_); (try simp only [go_sem,hP]); (repeat refine qJ ?_)))
     have:whE w = 0:=by unfold whE whB; rw [h1,h2,h3]; rfl
     rw [this]
     (refine WV_ret ?_; simp only [thenQ,inQ,RetQ,RetOk,resAll,resA]; simp only [go_sem,tupA,AV.port,AV.portL,exists_eq_left']; (first | exact AVle.of rfl | refine AVle.of ?_ | skip))
   ·have h3:(risB 1 100 w.co && decide ((w.co.length:Int) ≤ 4)) = false:=by simpa using h3
    have:whE w = 10:=by unfold whE whB; rw [h1,h2,h3]; rfl
    rw [this]
    (refine WV_cond rfl (fun h => ?_) (fun h => ?_))
    ·(repeat ((first | refine Va ?_ | refine Vb ?_ | refine Vc ?_ | refine Vd ?_ | refine Ve ?_ | refine Vf ?_); (try simp only [go_sem,hP]); (repeat refine qJ ?_)))
     (refine WV_ret ?_; simp only [thenQ,inQ,RetQ,RetOk,resAll,resA]; simp only [go_sem,tupA,AV.port,AV.portL,exists_eq_left']; (first | exact AVle.of rfl | refine AVle.of ?_ | skip))
    ·simp [h3] at h
  ·have h2:(risB 1 w.ro w.no && decide ((w.no.length:Int) ≤ 12)) = false:=by simpa using h2
   have:whE w = 10:=by unfold whE whB; rw [h1,h2]; rfl
   rw [this]
   simp only [go_sem,h2]
   (refine AG_skip ?_; simp only [go_sem,hP]; (repeat refine qJ ?_); (repeat ((first | refine Va ?_ | refine Vb ?_ | refine Vc ?_ | refine Vd ?_ | refine Ve ?_ | refine Vf ?_); (try simp only [go_sem,hP]); (repeat refine qJ ?_))))
   (refine WV_cond rfl (fun h => ?_) (fun h => ?_))
   ·(repeat ((first | refine Va ?_ | refine Vb ?_ | refine Vc ?_ | refine Vd ?_ | refine Ve ?_ | refine Vf ?_); (try simp only [go_sem,hP]); (repeat refine qJ ?_)))
    (refine WV_ret ?_; simp only [thenQ,inQ,RetQ,RetOk,resAll,resA]; simp only [go_sem,tupA,AV.port,AV.portL,exists_eq_left']; (first | exact AVle.of rfl | refine AVle.of ?_ | skip))
   ·simp at h
 ·have h1:within w.ro 1 200 = false:=by simpa using h1
  have:whE w = 10:=by unfold whE whB; rw [h1]; rfl
  rw [this]
  simp only [go_sem,h1]
  (refine AG_skip ?_; simp only [go_sem,hP]; (repeat refine qJ ?_); (repeat ((first | refine Va ?_ | refine Vb ?_ | refine Vc ?_ | refine Vd ?_ | refine Ve ?_ | refine Vf ?_); (try simp only [go_sem,hP]); (repeat refine qJ ?_))))
  (refine AG_skip ?_; simp only [go_sem,hP]; (repeat refine qJ ?_); (repeat ((first | refine Va ?_ | refine Vb ?_ | refine Vc ?_ | refine Vd ?_ | refine Ve ?_ | refine Vf ?_); (try simp only [go_sem,hP]); (repeat refine qJ ?_))))
  (refine WV_cond rfl (fun h => ?_) (fun h => ?_))
  ·(repeat ((first | refine Va ?_ | refine Vb ?_ | refine Vc ?_ | refine Vd ?_ | refine Ve ?_ | refine Vf ?_); (try simp only [go_sem,hP]); (repeat refine qJ ?_)))
   (refine WV_ret ?_; simp only [thenQ,inQ,RetQ,RetOk,resAll,resA]; simp only [go_sem,tupA,AV.port,AV.portL,exists_eq_left']; (first | exact AVle.of rfl | refine AVle.of ?_ | skip))
  ·simp at h
def hits (r p c n:Int):Int:=(p + c - n + r) / r - (p - n + r) / r
def plK (w:Wh) (p c:Int) (k:Nat):Int:=((w.no.take k).map (hits w.ro p c)).sum
def plays (w:Wh) (p c:Int):Int:=(w.no.map (hits w.ro p c)).sum
theorem hits_ok {r p c n:Int} (hr:1 ≤ r) (hc:0 ≤ c):0 ≤ hits r p c n ∧ hits r p c n ≤ c / r + 1:=by
 unfold hits
 have h1:(p - n + r) / r ≤ (p + c - n + r) / r:=Int.ediv_le_ediv (by omega) (by omega)
 refine ⟨by omega,?_⟩
 have h2:=Int.lt_ediv_add_one_mul_self (p - n + r) (b:=r) (by omega)
 have h3:=Int.lt_ediv_add_one_mul_self c (b:=r) (by omega)
 have h4:(p + c - n + r) / r < (p - n + r) / r + c / r + 2:=by
  refine Int.ediv_lt_of_lt_mul (by omega) ?_
  rw [Int.add_mul] at h2 h3
  rw [Int.add_mul,Int.add_mul]
  omega
 omega
theorem sum_hits {r p c:Int} (hr:1 ≤ r) (hc:0 ≤ c):∀ l:List Int,0 ≤ (l.map (hits r p c)).sum ∧ (l.map (hits r p c)).sum ≤ l.length * (c / r + 1)
 | [] => by simp
 | n :: l => by
  have h1:=hits_ok (p:=p) (n:=n) hr hc
  have h2:=sum_hits (p:=p) hr hc l
  simp only [List.map_cons,List.sum_cons,List.length_cons,Int.natCast_add,Int.natCast_one,Int.add_mul,Int.one_mul]
  omega
theorem plK_ok {w:Wh} (hw:WhOk w) {p c:Int} (hc:0 ≤ c) (k:Nat):0 ≤ plK w p c k ∧ plK w p c k ≤ c + 12:=by
 have h1:=sum_hits (p:=p) hw.ro.1 hc (w.no.take k)
 refine ⟨h1.1,Int.le_trans h1.2 ?_⟩
 have hl:((w.no.take k).length:Int) ≤ w.no.length:=by rw [List.length_take]; omega
 have h0:0 ≤ c / w.ro:=Int.ediv_nonneg hc (by have:=hw.ro; omega)
 have h2:((w.no.take k).length:Int) * (c / w.ro) ≤ w.ro * (c / w.ro):=Int.mul_le_mul_of_nonneg_right (by have:=hw.nr; omega) h0
 have h3:w.ro * (c / w.ro) ≤ c:=by have:=Int.mul_ediv_add_emod c w.ro; have:=Int.emod_nonneg c (b:=w.ro) (by have:=hw.ro; omega); omega
 have:=hw.nl
 rw [Int.mul_add,Int.mul_one]
 omega
theorem plays_K (w:Wh) (p c:Int):plays w p c = plK w p c w.no.length:=by unfold plays plK; rw [List.take_length]
theorem plays_ok {w:Wh} (hw:WhOk w) {p c:Int} (hc:0 ≤ c):0 ≤ plays w p c ∧ plays w p c ≤ c + 12:=by rw [plays_K]; exact plK_ok hw hc _
theorem plK_succ {w:Wh} {p c:Int} {k:Nat} (h:k < w.no.length):plK w p c (k + 1) = plK w p c k + hits w.ro p c (w.no.getD k 0):=by
 unfold plK
 rw [List.take_succ_eq_append_getElem h,List.map_append,List.sum_append,List.getD_eq_getElem?_getD,List.getElem?_eq_getElem h]
 simp
theorem tdv {a r:Int} (h:0 ≤ a):a.tdiv r = a / r:=Int.tdiv_eq_ediv_of_nonneg h
set_option maxHeartbeats 8000000 in
theorem turn84 {w:Wh} (hw:WhOk w) {p c:Int} (hp:0 ≤ p ∧ p < w.ro) (hc:0 ≤ c ∧ c ≤ 100000):FSpec Tryz.prog 50 [w.av,iv p,iv c] (.tup [iv ((p + c) % w.ro),iv (plays w p c)]):=by
 have hro:=hw.ro
 have hl:=hw.nl
 have w1:=w64 (n:=p + c) (by omega) (by omega)
 refine FSpec_of c50 (Nat.le_refl _) (by decide) fun C hP hN hC hL => ?_; rw [init_st]
 simp only [ir50,Wh.av,Wh.avs]
 (repeat ((first | refine Va ?_ | refine Vb ?_ | refine Vc ?_ | refine Vd ?_ | refine Ve ?_ | refine Vf ?_); (try simp only [go_sem,hP,Wh.avs,ints,w1]); (repeat refine qJ ?_)))
 (refine WV_loopK K50_1 [] (fun k:Nat => k ≤ w.no.length) (fun k => w.no.length - k) (fun k => [(18,iv k),(7,iv (plK w p c k))]) (fun _ => []) 0 (Nat.zero_le _) ?_ ?_)
 ·(refine Sub_of (by simp only [go_sem]; ((repeat' (first | exact EnvLe_e0 _ _ | refine EnvLe_upd ?_ ?_)) <;> ((try simp only [upd_app,e0_app,o0_app,Nat.reduceEqDiff,reduceIte]); first | exact AWk.refl _ _ | exact AWk.int (by omega) | exact AWk.int (by rw [w64 (by omega) (by omega)]; omega) | exact AWk.grow rfl | exact AWk.nil _ | exact AWk.of (by simp [plK])))) (by simp only [go_sem]; exact ObjLe_au))
 ·intro k hk
  (repeat ((first | refine Va ?_ | refine Vb ?_ | refine Vc ?_ | refine Vd ?_ | refine Ve ?_ | refine Vf ?_); (try simp only [go_sem,hP]); (repeat refine qJ ?_)))
  (refine WV_cond rfl (fun h => ?_) (fun h => ?_))
  ·have hi:k < w.no.length:=by simpa using h
   have hgd:=ints_get hi
   have hs:=plK_succ (p:=p) (c:=c) hi
   have hb1:=plK_ok hw (p:=p) hc.1 k
   have hb2:=plK_ok hw (p:=p) hc.1 (k + 1)
   have hn:=hw.no (w.no.getD k 0) (by rw [List.getD_eq_getElem?_getD,List.getElem?_eq_getElem hi]; exact List.getElem_mem _)
   generalize w.no.getD k 0 = n at hgd hs hn
   have hh:=hits_ok (p:=p) (n:=n) hro.1 hc.1
   have w2:=w64 (n:=p + c - n) (by omega) (by omega)
   have w3:=w64 (n:=p + c - n + w.ro) (by omega) (by omega)
   have w4:=w64 (n:=p - n) (by omega) (by omega)
   have w5:=w64 (n:=p - n + w.ro) (by omega) (by omega)
   have t1:=tdv (a:=p + c - n + w.ro) (r:=w.ro) (by omega)
   have t2:=tdv (a:=p - n + w.ro) (r:=w.ro) (by omega)
   have q1:0 ≤ (p + c - n + w.ro) / w.ro ∧ (p + c - n + w.ro) / w.ro ≤ p + c - n + w.ro:=⟨Int.ediv_nonneg (by omega) (by omega),Int.ediv_le_self _ (by omega)⟩
   have q2:0 ≤ (p - n + w.ro) / w.ro ∧ (p - n + w.ro) / w.ro ≤ p - n + w.ro:=⟨Int.ediv_nonneg (by omega) (by omega),Int.ediv_le_self _ (by omega)⟩
   have w6:=w64 (n:=(p + c - n + w.ro) / w.ro) (by omega) (by omega)
   have w7:=w64 (n:=(p - n + w.ro) / w.ro) (by omega) (by omega)
   have w8:IntKind.i64.wrap ((p + c - n + w.ro) / w.ro - (p - n + w.ro) / w.ro) = hits w.ro p c n:=w64 (by omega) (by omega)
   have w9:IntKind.i64.wrap (plK w p c k + hits w.ro p c n) = plK w p c (k + 1):=by rw [hs]; exact w64 (by omega) (by omega)
   have w10:=w64 (n:=(k:Int) + 1) (by omega) (by omega)
   have hz:w.ro ≠ 0:=by omega
   (repeat ((first | refine Va ?_ | refine Vb ?_ | refine Vc ?_ | refine Vd ?_ | refine Ve ?_ | refine Vf ?_); (try simp only [go_sem,hP,hgd,ints,List.length_map,Int.toNat_natCast,Int.ofNat_lt,hi,Int.natCast_nonneg,w1,w2,w3,w4,w5,t1,t2,w6,w7,w8,w9,w10,hz]); (repeat refine qJ ?_)))
   refine ⟨k + 1,by omega,by omega,?_⟩
   exact Sub_au
  ·have hi:k = w.no.length:=by simp at h; omega
   subst hi
   have hz:w.ro ≠ 0:=by omega
   have m1:(p + c).tmod w.ro = (p + c) % w.ro:=Int.tmod_eq_emod_of_nonneg (by omega)
   have w2:=w64 (n:=(p + c) % w.ro) (by have:=Int.emod_nonneg (p + c) hz; omega) (by have:=Int.emod_lt_of_pos (p + c) (b:=w.ro) (by omega); omega)
   (repeat ((first | refine Va ?_ | refine Vb ?_ | refine Vc ?_ | refine Vd ?_ | refine Ve ?_ | refine Vf ?_); (try simp only [go_sem,hP,m1,w2,hz]); (repeat refine qJ ?_)))
   rw [plays_K]
   (refine WV_ret ?_; simp only [thenQ,inQ,RetQ,RetOk,resAll,resA]; simp only [go_sem,tupA,AV.port,AV.portL,exists_eq_left']; (first | exact AVle.of rfl | refine AVle.of ?_ | skip))
theorem isPlace75 {w:Wh} (hw:WhOk w) (p:Int):FSpec Tryz.prog 88 [w.av,iv p] (.c (.bool (within p 0 (w.ro - 1)))):=by
 have hro:=hw.ro
 have w1:=w64 (n:=w.ro - 1) (by omega) (by omega)
 refine FSpec_of c88 (Nat.le_refl _) (by decide) fun C hP hN hC hL => ?_; rw [init_st]
 simp only [ir88,Wh.av,Wh.avs]
 (repeat ((first | refine Va ?_ | refine Vb ?_ | refine Vc ?_ | refine Vd ?_ | refine Ve ?_ | refine Vf ?_); (try simp only [go_sem,hP,Wh.avs,ints,w1]); (repeat refine qJ ?_)))
 (refine AS_pu (within50 p 0 (w.ro - 1)) ?_; simp only [go_sem,hP]; (repeat refine qJ ?_); (repeat ((first | refine Va ?_ | refine Vb ?_ | refine Vc ?_ | refine Vd ?_ | refine Ve ?_ | refine Vf ?_); (try simp only [go_sem,hP]); (repeat refine qJ ?_))))
 (refine WV_ret ?_; simp only [thenQ,inQ,RetQ,RetOk,resAll,resA]; simp only [go_sem,tupA,AV.port,AV.portL,exists_eq_left']; (first | exact AVle.of rfl | refine AVle.of ?_ | skip))
theorem isKind83 {w:Wh} (hw:WhOk w) (n:Int):FSpec Tryz.prog 95 [w.av,iv n] (.c (.bool (within n 0 (w.co.length - 1)))):=by
 have hcl:=hw.cl
 have w1:=w64 (n:=(w.co.length:Int) - 1) (by omega) (by omega)
 refine FSpec_of c95 (Nat.le_refl _) (by decide) fun C hP hN hC hL => ?_; rw [init_st]
 simp only [ir95,Wh.av,Wh.avs]
 (repeat ((first | refine Va ?_ | refine Vb ?_ | refine Vc ?_ | refine Vd ?_ | refine Ve ?_ | refine Vf ?_); (try simp only [go_sem,hP,Wh.avs,ints,w1,List.length_map]); (repeat refine qJ ?_)))
 (refine AS_pu (within50 n 0 (w.co.length - 1)) ?_; simp only [go_sem,hP,w1]; (repeat refine qJ ?_); (repeat ((first | refine Va ?_ | refine Vb ?_ | refine Vc ?_ | refine Vd ?_ | refine Ve ?_ | refine Vf ?_); (try simp only [go_sem,hP,w1]); (repeat refine qJ ?_))))
 (refine WV_ret ?_; simp only [thenQ,inQ,RetQ,RetOk,resAll,resA]; simp only [go_sem,tupA,AV.port,AV.portL,exists_eq_left']; (first | exact AVle.of rfl | refine AVle.of ?_ | skip))
def actB (w:Wh) (n:Int):Bool:=(n == -1) || within n 0 (w.co.length - 1)
theorem isAct77 {w:Wh} (hw:WhOk w) (n:Int):FSpec Tryz.prog 90 [w.av,iv n] (.c (.bool (actB w n))):=by
 have hcl:=hw.cl
 refine FSpec_of c90 (Nat.le_refl _) (by decide) fun C hP hN hC hL => ?_; rw [init_st]
 simp only [ir90,Wh.av,Wh.avs]
 (repeat ((first | refine Va ?_ | refine Vb ?_ | refine Vc ?_ | refine Vd ?_ | refine Ve ?_ | refine Vf ?_); (try simp only [go_sem,hP,Wh.avs,ints]); (repeat refine qJ ?_)))
 by_cases h1:n = -1
 ·subst h1
  have hb:((-1:Int) == -1) = true:=rfl
  (repeat ((first | refine Va ?_ | refine Vb ?_ | refine Vc ?_ | refine Vd ?_ | refine Ve ?_ | refine Vf ?_); (try simp only [go_sem,hP,hb]); (repeat refine qJ ?_)))
  (refine AG_skip ?_; simp only [go_sem,hP]; (repeat refine qJ ?_); (repeat ((first | refine Va ?_ | refine Vb ?_ | refine Vc ?_ | refine Vd ?_ | refine Ve ?_ | refine Vf ?_); (try simp only [go_sem,hP]); (repeat refine qJ ?_))))
  (refine WV_ret ?_; simp only [thenQ,inQ,RetQ,RetOk,resAll,resA]; simp only [go_sem,tupA,AV.port,AV.portL,exists_eq_left',actB,hb]; (first | exact AVle.of rfl | refine AVle.of ?_ | skip))
 ·have hb:(n == -1) = false:=by simpa using h1
  simp only [go_sem,hb]
  (refine AG_pu (fun hG => isKind83 hw n) ?_; simp only [go_sem,hP,Wh.av,Wh.avs,ints,hb]; (repeat refine qJ ?_); (repeat ((first | refine Va ?_ | refine Vb ?_ | refine Vc ?_ | refine Vd ?_ | refine Ve ?_ | refine Vf ?_); (try simp only [go_sem,hP,Wh.av,Wh.avs,ints,hb]); (repeat refine qJ ?_))))
  (refine WV_ret ?_; simp only [thenQ,inQ,RetQ,RetOk,resAll,resA]; simp only [go_sem,tupA,AV.port,AV.portL,exists_eq_left',actB,hb,Bool.false_or]; (first | exact AVle.of rfl | refine AVle.of ?_ | skip))
end Go.Proofs.YtbclmfjibpppfaaGreat

namespace Go.Proofs.YtbclmfjibpppfaaGreat
open Go Go.V
abbrev o32_0:List Ins:=[JS 3 (.box 3 (.t 0)),JS 4 (.box 2 (.t 1)),JS 6 (.alloc [Jz 0,Jz 0])]
abbrev o32_1:List Ins:=[JS 10 (Jm 2),JS 11 (Jk .neq 10 (-1)),JS 9 (Jm 11)]
abbrev o32_2:List Ins:=[JF 13 (JL 3 3),JF 14 (Jf 0 4),JF 15 (Jl 14),JF 16 (Jf 0 3),JF 17 (Jf 2 16),JF 18 (Jl 17),JF 19 (Jm 2),JF 20 (Ja 1 18 19),JF 21 (Jl 20),JS 22 (Jc 50 [.t 13,.t 15,.t 21]),JS 12 (Jm 22),JF 23 (Je 12 0),JF 24 (Je 12 1),JF 7 (Jm 23),JS 8 (Jm 24)]
abbrev o32_3:List Ins:=[JS 25 (Jm 7),JS 26 (Jf 1 4),JS 27 (Jl 26),JS 28 (Jm 8),JS 29 (Jb .add 27 28),JS 30 (.bld [Jz 0,Jz 0] [(0,1,(.t 25)),(1,1,(.t 29))]),JN (Js 2 6 30)]
abbrev v32_4:VC:=(.seq (.ops o32_3) .ret)
abbrev v32_5:VC:=(.seq (.dops o32_2) v32_4)
abbrev o32_6:List Ins:=[JS 32 (Jf 1 4),JS 33 (Jl 32),JS 34 (Jk .gtr 33 0),JS 31 (Jm 34)]
abbrev o32_7:List Ins:=[JS 35 (Jf 1 4),JS 36 (Jl 35),JS 37 (Jk .sub 36 1),JS 38 (.bld [Jz 0,Jz 0] [(1,1,(.t 37))]),JN (Js 2 6 38)]
abbrev v32_8:VC:=(.seq (.ops o32_7) .ret)
abbrev v32_9:VC:=(.cond (.t 31) v32_8 .skip)
abbrev v32_10:VC:=(.seq (.ops o32_6) v32_9)
abbrev v32_11:VC:=(.cond (.t 9) v32_5 v32_10)
abbrev v32_12:VC:=(.seq (.ops o32_1) v32_11)
abbrev o32_13:List Ins:=[JS 39 (JL 2 4),JN (Js 2 6 39)]
abbrev v32_14:VC:=(.seq (.ops o32_13) .ret)
abbrev v32_15:VC:=(.seq (.block 0 v32_12) v32_14)
def ir32:FC:=⟨3,40,[.cell 6 false 2],(.seq (.ops o32_0) v32_15)⟩
abbrev o79_0:List Ins:=[JS 4 (Ji 0)]
abbrev o79_1:List Ins:=[JS 6 (Jm 0),JS 7 (Jn 6),JS 8 (Ji 0)]
abbrev o79_2:List Ins:=[JS 9 (Jb .lss 8 7)]
abbrev o79_3:List Ins:=[JS 10 (Jm 8),JS 5 (Jm 10)]
abbrev o79_4:List Ins:=[JS 11 (Jm 1),JS 12 (Jm 0),JS 13 (Jm 5),JS 14 (Ja 1 12 13),JS 15 (Jl 14),JS 16 (.call (.t 11) [.t 15])]
abbrev o79_5:List Ins:=[JS 17 (Jm 5),JS 4 (Jm 17)]
abbrev v79_6:VC:=(.seq (.ops o79_5) .ret)
abbrev v79_7:VC:=(.cond (.t 16) v79_6 .skip)
abbrev v79_8:VC:=(.seq (.ops o79_4) v79_7)
abbrev v79_9:VC:=(.seq (.ops o79_3) v79_8)
abbrev o79_10:List Ins:=[JS 18 (Jk .add 8 1),JS 8 (Jm 18)]
abbrev v79_11:VC:=(.seq (.block 1 v79_9) (.ops o79_10))
abbrev v79_12:VC:=(.seq (.cond (.t 9) .skip (.exit 0)) v79_11)
abbrev v79_13:VC:=(.seq (.ops o79_2) v79_12)
-- K79_1: changed and kept: [8]
abbrev K79_1:List Nat:=[0,1,7]
abbrev v79_14:VC:=(.loop v79_13)
abbrev v79_15:VC:=(.block 0 v79_14)
abbrev o79_16:List Ins:=[JS 4 (Ji (-1))]
abbrev v79_17:VC:=(.seq (.ops o79_16) .ret)
abbrev v79_18:VC:=(.seq (.seq (.ops o79_1) v79_15) v79_17)
def ir79:FC:=⟨2,19,[.t 4],(.seq (.ops o79_0) v79_18)⟩
abbrev o69_0:List Ins:=[JS 4 (JB false)]
abbrev o69_1:List Ins:=[JS 5 (Jm 0),JS 6 (Jm 1),JS 7 (Jc 79 [.t 5,.t 6]),JS 8 (Jk .geq 7 0),JS 4 (Jm 8)]
abbrev v69_2:VC:=(.seq (.ops o69_1) .ret)
def ir69:FC:=⟨2,9,[.t 4],(.seq (.ops o69_0) v69_2)⟩
theorem c32:compM Tryz.prog [] 32 = some ir32:=by kernel_rfl
theorem c79:compM Tryz.prog [] 79 = some ir79:=by kernel_rfl
theorem c69:compM Tryz.prog [] 69 = some ir69:=by kernel_rfl
attribute [local go_sem] Nat.reduceEqDiff Nat.reduceAdd Nat.reduceMul reduceIte Nat.reduceLeDiff Nat.reduceLT Nat.reduceBEq reduceCtorEq
def actP (w:Wh) (pl cr a:Int):Int × Int:=if a = -1 then (if 0 < cr then (0,cr - 1) else (pl,cr)) else ((pl + w.co.getD a.toNat 0) % w.ro,cr + plays w pl (w.co.getD a.toNat 0))
theorem co_at {w:Wh} (hw:WhOk w) {a:Int} (h:0 ≤ a ∧ a ≤ w.co.length - 1):1 ≤ w.co.getD a.toNat 0 ∧ w.co.getD a.toNat 0 ≤ 100:=by
 have hi:a.toNat < w.co.length:=by omega
 exact hw.co _ (by rw [List.getD_eq_getElem?_getD,List.getElem?_eq_getElem hi]; exact List.getElem_mem _)
set_option maxHeartbeats 8000000 in
theorem act78 {w:Wh} (hw:WhOk w) {pl cr a:Int} (hp:0 ≤ pl ∧ pl < w.ro) (hc:0 ≤ cr ∧ cr ≤ 1000000) (ha:actB w a = true):FSpec Tryz.prog 32 [w.av,.agg [iv pl,iv cr],iv a] (.agg [iv (actP w pl cr a).1,iv (actP w pl cr a).2]):=by
 have hcl:=hw.cl
 refine FSpec_of c32 (Nat.le_refl _) (by decide) fun C hP hN hC hL => ?_; rw [init_st]
 simp only [ir32,Wh.av,Wh.avs]
 (repeat ((first | refine Va ?_ | refine Vb ?_ | refine Vc ?_ | refine Vd ?_ | refine Ve ?_ | refine Vf ?_); (try simp only [go_sem,hP,Wh.avs,ints]); (repeat refine qJ ?_)))
 by_cases h1:a = -1
 ·subst h1
  have hb:((-1:Int) != -1) = false:=rfl
  simp only [go_sem,hb]
  (refine WV_cond rfl (fun h => ?_) (fun h => ?_))
  ·simp at h
  ·(repeat ((first | refine Va ?_ | refine Vb ?_ | refine Vc ?_ | refine Vd ?_ | refine Ve ?_ | refine Vf ?_); (try simp only [go_sem,hP,hb]); (repeat refine qJ ?_)))
   by_cases h2:0 < cr
   ·have w1:=w64 (n:=cr - 1) (by omega) (by omega)
    (refine WV_cond rfl (fun h => ?_) (fun h => ?_))
    ·(repeat ((first | refine Va ?_ | refine Vb ?_ | refine Vc ?_ | refine Vd ?_ | refine Ve ?_ | refine Vf ?_); (try simp only [go_sem,hP,w1]); (repeat refine qJ ?_)))
     (refine WV_ret ?_; simp only [thenQ,inQ,RetQ,RetOk,resAll,resA]; simp only [go_sem,tupA,AV.port,AV.portL,exists_eq_left',actP,h2,if_true]; (first | exact AVle.of rfl | refine AVle.of ?_ | skip))
    ·simp at h; omega
   ·(refine WV_cond rfl (fun h => ?_) (fun h => ?_))
    ·simp at h; omega
    ·(repeat ((first | refine Va ?_ | refine Vb ?_ | refine Vc ?_ | refine Vd ?_ | refine Ve ?_ | refine Vf ?_); (try simp only [go_sem,hP]); (repeat refine qJ ?_)))
     (refine WV_ret ?_; simp only [thenQ,inQ,RetQ,RetOk,resAll,resA]; simp only [go_sem,tupA,AV.port,AV.portL,exists_eq_left',actP,h2,if_true,if_false]; (first | exact AVle.of rfl | refine AVle.of ?_ | skip))
 ·have hk:0 ≤ a ∧ a ≤ w.co.length - 1:=by
   simp only [actB,Bool.or_eq_true,within,Bool.and_eq_true,decide_eq_true_eq,beq_iff_eq] at ha
   rcases ha with h | h
   ·exact absurd h h1
   ·exact h
  have hb:(a != -1) = true:=by simpa using h1
  have hi:a.toNat < w.co.length:=by omega
  have hi2:a < (w.co.length:Int):=by omega
  have hgd:=ints_get hi
  have hco:=co_at hw hk
  have hb1:=plays_ok hw (p:=pl) (c:=w.co.getD a.toNat 0) (by omega)
  have e1:actP w pl cr a = ((pl + w.co.getD a.toNat 0) % w.ro,cr + plays w pl (w.co.getD a.toNat 0)):=by unfold actP; rw [if_neg h1]
  have w1:=w64 (n:=cr + plays w pl (w.co.getD a.toNat 0)) (by omega) (by omega)
  rw [e1]
  generalize w.co.getD a.toNat 0 = c at *
  simp only [go_sem,hb]
  (refine WV_cond rfl (fun h => ?_) (fun h => ?_))
  ·(repeat ((first | refine Va ?_ | refine Vb ?_ | refine Vc ?_ | refine Vd ?_ | refine Ve ?_ | refine Vf ?_); (try simp only [go_sem,hP,hgd,ints,List.length_map,hi2,hk.1]); (repeat refine qJ ?_)))
   (refine AS_pu (turn84 hw hp (by omega:0 ≤ c ∧ c ≤ 100000)) ?_; simp only [go_sem,hP,Wh.av,Wh.avs,ints,w1]; (repeat refine qJ ?_); (repeat ((first | refine Va ?_ | refine Vb ?_ | refine Vc ?_ | refine Vd ?_ | refine Ve ?_ | refine Vf ?_); (try simp only [go_sem,hP,Wh.av,Wh.avs,ints,w1]); (repeat refine qJ ?_))))
   (refine WV_ret ?_; simp only [thenQ,inQ,RetQ,RetOk,resAll,resA]; simp only [go_sem,tupA,AV.port,AV.portL,exists_eq_left']; (first | exact AVle.of rfl | refine AVle.of ?_ | skip))
  ·simp at h
def idxP (p:Int → Bool) (l:List Int):Int:=match l.findIdx? p with | some i => i | none => -1
theorem idxP_ge (p:Int → Bool) (l:List Int):decide (idxP p l ≥ 0) = l.any p:=by
 unfold idxP
 cases h:l.findIdx? p with
 | none =>
  rw [List.findIdx?_eq_none_iff] at h
  have:l.any p = false:=by rw [List.any_eq_false]; intro x hx; simp [h x hx]
  rw [this]; rfl
 | some i =>
  obtain ⟨hi,h1,_⟩:=List.findIdx?_eq_some_iff_getElem.1 h
  have:l.any p = true:=by rw [List.any_eq_true]; exact ⟨_,List.getElem_mem hi,h1⟩
  rw [this]; simp
theorem getD_at {l:List Int} {k:Nat} (h:k < l.length):l.getD k 0 = l[k]:=by rw [List.getD_eq_getElem?_getD,List.getElem?_eq_getElem h]; rfl
set_option maxHeartbeats 8000000 in
theorem index52 (l:List Int) (f:FuncId) (p:Int → Bool) (hf:∀ n ∈ l,FSpec Tryz.prog f [iv n] (.c (.bool (p n)))):FSpec Tryz.prog 79 [.c (ints l),.fn f []] (iv (idxP p l)):=by
 refine FSpec_of c79 (Nat.le_refl _) (by decide) fun C hP hN hC hL => ?_; rw [init_st]
 have hl:l.length ≤ 9223372036854775807:=by simp only [AV.lensL,AV.lens] at hL; exact ints_lens hL.1
 simp only [ir79]
 (repeat ((first | refine Va ?_ | refine Vb ?_ | refine Vc ?_ | refine Vd ?_ | refine Ve ?_ | refine Vf ?_); (try simp only [go_sem,hP,ints,List.length_map]); (repeat refine qJ ?_)))
 refine WV_loopS (fun k:Nat => ⟨upd (upd (upd (upd e0 0 (.c (ints l))) 1 (.fn f [])) 7 (iv l.length)) 8 (iv k),o0⟩) (fun k => k ≤ l.length ∧ ∀ i (h:i < l.length),i < k → p l[i] = false) (fun k => l.length - k) 0 ⟨Nat.zero_le _,fun _ _ h => by omega⟩ ?_ ?_
 ·(refine Sub_of (by simp only [go_sem]; ((repeat' (first | exact EnvLe_e0 _ _ | refine EnvLe_upd ?_ ?_)) <;> ((try simp only [upd_app,e0_app,o0_app,Nat.reduceEqDiff,reduceIte]); first | exact AWk.refl _ _ | exact AWk.int (by omega) | exact AWk.int (by rw [w64 (by omega) (by omega)]; omega) | exact AWk.grow rfl | exact AWk.nil _ | exact AWk.of (by simp [ints])))) (by simp only [go_sem]; exact ObjLe_au))
 rintro k ⟨hk,hr⟩
 (repeat ((first | refine Va ?_ | refine Vb ?_ | refine Vc ?_ | refine Vd ?_ | refine Ve ?_ | refine Vf ?_); (try simp only [go_sem,hP]); (repeat refine qJ ?_)))
 (refine WV_cond rfl (fun h => ?_) (fun h => ?_))
 ·have hi:k < l.length:=by simpa using h
  have hw:=w64 (n:=(k:Int) + 1) (by omega) (by omega)
  have hgd:=ints_get hi
  rw [getD_at hi] at hgd
  (repeat ((first | refine Va ?_ | refine Vb ?_ | refine Vc ?_ | refine Vd ?_ | refine Ve ?_ | refine Vf ?_); (try simp only [go_sem,hP,hgd,ints,List.length_map,Int.toNat_natCast,Int.ofNat_lt,hi,Int.natCast_nonneg]); (repeat refine qJ ?_)))
  (refine AS_pu (hf l[k] (List.getElem_mem hi)) ?_; simp only [go_sem,hP]; (repeat refine qJ ?_); (repeat ((first | refine Va ?_ | refine Vb ?_ | refine Vc ?_ | refine Vd ?_ | refine Ve ?_ | refine Vf ?_); (try simp only [go_sem,hP]); (repeat refine qJ ?_))))
  (refine WV_cond rfl (fun h => ?_) (fun h => ?_))
  ·have e1:l.findIdx? p = some k:=by
    rw [List.findIdx?_eq_some_iff_getElem]
    exact ⟨hi,h,fun i hi2 => by simp [hr i (by omega) hi2]⟩
   have e3:idxP p l = k:=by unfold idxP; rw [e1]
   rw [e3]
   (repeat ((first | refine Va ?_ | refine Vb ?_ | refine Vc ?_ | refine Vd ?_ | refine Ve ?_ | refine Vf ?_); (try simp only [go_sem,hP]); (repeat refine qJ ?_)))
   (refine WV_ret ?_; simp only [thenQ,inQ,RetQ,RetOk,resAll,resA]; simp only [go_sem,tupA,AV.port,AV.portL,exists_eq_left']; (first | exact AVle.of rfl | refine AVle.of ?_ | skip))
  ·(repeat ((first | refine Va ?_ | refine Vb ?_ | refine Vc ?_ | refine Vd ?_ | refine Ve ?_ | refine Vf ?_); (try simp only [go_sem,hP,hw]); (repeat refine qJ ?_)))
   refine ⟨k + 1,⟨by omega,fun i hi2 hik => ?_⟩,by omega,?_⟩
   ·rcases Nat.lt_or_ge i k with h1 | h1
    ·exact hr i hi2 h1
    ·have:i = k:=by omega
     subst this; exact h
   ·(refine Sub_of (by simp only [go_sem]; ((repeat' (first | exact EnvLe_e0 _ _ | refine EnvLe_upd ?_ ?_)) <;> ((try simp only [upd_app,e0_app,o0_app,Nat.reduceEqDiff,reduceIte]); first | exact AWk.refl _ _ | exact AWk.int (by omega) | exact AWk.int (by rw [w64 (by omega) (by omega)]; omega) | exact AWk.grow rfl | exact AWk.nil _ | exact AWk.of (by simp [ints])))) (by simp only [go_sem]; exact ObjLe_au))
 ·have hi:k = l.length:=by simp at h; omega
  subst hi
  have e3:idxP p l = -1:=by
   unfold idxP
   rw [List.findIdx?_eq_none_iff.2 fun x hx => by obtain ⟨i,hi,rfl⟩:=List.getElem_of_mem hx; exact hr i hi hi]
  rw [e3]
  (repeat ((first | refine Va ?_ | refine Vb ?_ | refine Vc ?_ | refine Vd ?_ | refine Ve ?_ | refine Vf ?_); (try simp only [go_sem,hP]); (repeat refine qJ ?_)))
  (refine WV_ret ?_; simp only [thenQ,inQ,RetQ,RetOk,resAll,resA]; simp only [go_sem,tupA,AV.port,AV.portL,exists_eq_left']; (first | exact AVle.of rfl | refine AVle.of ?_ | skip))
theorem contains38 (l:List Int) (f:FuncId) (p:Int → Bool) (hf:∀ n ∈ l,FSpec Tryz.prog f [iv n] (.c (.bool (p n)))):FSpec Tryz.prog 69 [.c (ints l),.fn f []] (.c (.bool (l.any p))):=by
 refine FSpec_of c69 (Nat.le_refl _) (by decide) fun C hP hN hC hL => ?_; rw [init_st]
 simp only [ir69]
 (repeat ((first | refine Va ?_ | refine Vb ?_ | refine Vc ?_ | refine Vd ?_ | refine Ve ?_ | refine Vf ?_); (try simp only [go_sem,hP,ints]); (repeat refine qJ ?_)))
 (refine AS_pu (index52 l f p hf) ?_; simp only [go_sem,hP,idxP_ge]; (repeat refine qJ ?_); (repeat ((first | refine Va ?_ | refine Vb ?_ | refine Vc ?_ | refine Vd ?_ | refine Ve ?_ | refine Vf ?_); (try simp only [go_sem,hP,idxP_ge]); (repeat refine qJ ?_))))
 (refine WV_ret ?_; simp only [thenQ,inQ,RetQ,RetOk,resAll,resA]; simp only [go_sem,tupA,AV.port,AV.portL,exists_eq_left',idxP_ge]; (first | exact AVle.of rfl | refine AVle.of ?_ | skip))
end Go.Proofs.YtbclmfjibpppfaaGreat

namespace Go.Proofs.YtbclmfjibpppfaaGreat
open Go Go.V
abbrev o94_0:List Ins:=[JS 3 (JB false)]
abbrev o94_1:List Ins:=[JS 4 (Jl 1),JS 5 (Jm 0),JS 6 (.call (.t 4) [.t 5]),JS 7 (.un .not (.t 6)),JS 3 (Jm 7)]
abbrev v94_2:VC:=(.seq (.ops o94_1) .ret)
def ir94:FC:=⟨2,8,[.t 3],(.seq (.ops o94_0) v94_2)⟩
abbrev o89_0:List Ins:=[JS 3 (.box 1 (.t 1)),JS 4 (JB false)]
abbrev o89_1:List Ins:=[JS 5 (Jm 0),JS 6 (Jn 5),JS 7 (Jk .leq 6 20),JS 8 (Jm 7),JG 9 (Jm 0) 8 true,JG 10 (.mkfn 94 [.t 3]) 8 true,JG 11 (Jc 69 [.t 9,.t 10]) 8 true,JG 12 (.un .not (.t 11)) 8 true,JS 13 (Jp 8 12),JS 4 (Jm 13)]
abbrev v89_2:VC:=(.seq (.ops o89_1) .ret)
def ir89:FC:=⟨2,14,[.t 4],(.seq (.ops o89_0) v89_2)⟩
theorem c94:compM Tryz.prog [] 94 = some ir94:=by kernel_rfl
theorem c89:compM Tryz.prog [] 89 = some ir89:=by kernel_rfl
attribute [local go_sem] Nat.reduceEqDiff Nat.reduceAdd Nat.reduceMul reduceIte Nat.reduceLeDiff Nat.reduceLT Nat.reduceBEq reduceCtorEq
def entP (p:Int → Bool) (n:Int):Ent:=⟨[iv n],[],.c (.bool (p n))⟩
theorem not82 (p:Int → Bool) (n:Int) (g:Gst) (rem:List Ent):FSpecL Tryz.prog 94 [iv n,.bp 1000 0] [.box [.c (.raw g.fv)],.guest g (entP p n :: rem)] [] (fun r l' => r = .c (.bool (!p n)) ∧ l' = [.box [.c (.raw g.fv)],.guest g rem]):=by
 refine FSpecL_of c94 (by first | simp | exact Nat.le_of_ble_eq_true rfl) (Nat.le_refl _) (by decide) (by decide) fun C hP hN hC hL => ?_; rw [init_env',ownW_upd (by first | simp | exact Nat.le_of_ble_eq_true rfl)]; simp only [ir94,updL,updLo,List.map_nil,List.map_cons,Nat.reduceAdd,]
 (repeat ((first | refine Va ?_ | refine Vb ?_ | refine Vc ?_ | refine Vd ?_ | refine Ve ?_ | refine Vf ?_); (try simp only [go_sem,hP]); (repeat refine qJ ?_)))
 refine AS_guest 1001 [] (g:=g) (e:=entP p n) (rem:=rem) rfl rfl rfl rfl (by decide) rfl trivial ?_
 simp only [go_sem,hP,entP]
 (repeat ((first | refine Va ?_ | refine Vb ?_ | refine Vc ?_ | refine Vd ?_ | refine Ve ?_ | refine Vf ?_); (try simp only [go_sem,hP]); (repeat refine qJ ?_)))
 (refine WV_ret ?_; simp only [thenQ,inQ,RetQL,RetOkL,resAll,resA]; simp only [go_sem,tupA,AV.keepP,AV.keepPL]; refine ⟨_,[.box [.c (.raw g.fv)],.guest g rem],rfl,KeepL_mk rfl rfl ?_ ?_ rfl,?_⟩)
 ·simp only [go_sem,keepAll,Ob.keepP,AV.keepP,AV.keepPL]
 ·trivial
 ·exact ⟨rfl,rfl⟩
set_option maxHeartbeats 8000000 in
theorem index52b (p:Int → Bool) (l:List Int) (g:Gst):FSpecL Tryz.prog 79 [.c (ints l),.fn 94 [.bp 1000 0]] [.box [.c (.raw g.fv)],.guest g (l.map (entP p))] [] (fun r l' => r = iv (idxP (fun n => !p n) l) ∧ ∃ rem,l' = [.box [.c (.raw g.fv)],.guest g rem]):=by
 refine FSpecL_of c79 (by first | simp | exact Nat.le_of_ble_eq_true rfl) (Nat.le_refl _) (by decide) (by decide) fun C hP hN hC hL => ?_; rw [init_env',ownW_upd (by first | simp | exact Nat.le_of_ble_eq_true rfl)]; simp only [ir79,updL,updLo,List.map_nil,List.map_cons,Nat.reduceAdd,]
 have hl:l.length ≤ 9223372036854775807:=by simp only [AV.lensL,AV.lens] at hL; exact ints_lens hL.1
 (repeat ((first | refine Va ?_ | refine Vb ?_ | refine Vc ?_ | refine Vd ?_ | refine Ve ?_ | refine Vf ?_); (try simp only [go_sem,hP,ints,List.length_map]); (repeat refine qJ ?_)))
 refine WV_loopK K79_1 [1001] (fun k:Nat => k ≤ l.length ∧ ∀ i (h:i < l.length),i < k → p l[i] = true) (fun k => l.length - k) (fun k => [(8,iv k)]) (fun k => [(1001,.guest g ((l.drop k).map (entP p)))]) 0 ⟨Nat.zero_le _,fun _ _ h => by omega⟩ ?_ ?_
 ·(refine Sub_of (by simp only [go_sem]; ((repeat' (first | exact EnvLe_e0 _ _ | refine EnvLe_upd ?_ ?_)) <;> ((try simp only [upd_app,e0_app,o0_app,Nat.reduceEqDiff,reduceIte]); first | exact AWk.refl _ _ | exact AWk.int (by omega) | exact AWk.int (by rw [w64 (by omega) (by omega)]; omega) | exact AWk.grow rfl | exact AWk.nil _ | exact AWk.of (by simp [ints])))) (by simp only [go_sem]; exact ObjLe_au))
 rintro k ⟨hk,hr⟩
 (repeat ((first | refine Va ?_ | refine Vb ?_ | refine Vc ?_ | refine Vd ?_ | refine Ve ?_ | refine Vf ?_); (try simp only [go_sem,hP]); (repeat refine qJ ?_)))
 (refine WV_cond rfl (fun h => ?_) (fun h => ?_))
 ·have hi:k < l.length:=by simpa using h
  have hw:=w64 (n:=(k:Int) + 1) (by omega) (by omega)
  have hgd:=ints_get hi
  rw [getD_at hi] at hgd
  have hdr:(l.drop k).map (entP p) = entP p l[k] :: (l.drop (k + 1)).map (entP p):=by rw [List.drop_eq_getElem_cons hi]; rfl
  rw [hdr]
  (repeat ((first | refine Va ?_ | refine Vb ?_ | refine Vc ?_ | refine Vd ?_ | refine Ve ?_ | refine Vf ?_); (try simp only [go_sem,hP,hgd,ints,List.length_map,Int.toNat_natCast,Int.ofNat_lt,hi,Int.natCast_nonneg]); (repeat refine qJ ?_)))
  refine AS_lend [1000,1001] (not82 p l[k] g _) rfl rfl rfl (by decide) rfl rfl ?_
  rintro r l' ⟨rfl,rfl⟩
  refine ⟨_,_,rfl,rfl,?_⟩
  simp only [go_sem,hP,ownBack]
  (repeat ((first | refine Va ?_ | refine Vb ?_ | refine Vc ?_ | refine Vd ?_ | refine Ve ?_ | refine Vf ?_); (try simp only [go_sem,hP]); (repeat refine qJ ?_)))
  (refine WV_cond rfl (fun h => ?_) (fun h => ?_))
  ·have h:p l[k] = false:=by simpa using h
   have e1:l.findIdx? (fun n => !p n) = some k:=by
    rw [List.findIdx?_eq_some_iff_getElem]
    exact ⟨hi,by simp [h],fun i hi2 => by simp [hr i (by omega) hi2]⟩
   have e3:idxP (fun n => !p n) l = k:=by unfold idxP; rw [e1]
   rw [e3]
   (repeat ((first | refine Va ?_ | refine Vb ?_ | refine Vc ?_ | refine Vd ?_ | refine Ve ?_ | refine Vf ?_); (try simp only [go_sem,hP]); (repeat refine qJ ?_)))
   (refine WV_ret ?_; simp only [thenQ,inQ,RetQL,RetOkL,resAll,resA]; simp only [go_sem,tupA,AV.keepP,AV.keepPL]; refine ⟨_,[.box [.c (.raw g.fv)],.guest g ((l.drop (k + 1)).map (entP p))],rfl,KeepL_mk rfl rfl ?_ ?_ rfl,?_⟩)
   ·simp only [go_sem,keepAll,Ob.keepP,AV.keepP,AV.keepPL]
   ·trivial
   ·exact ⟨rfl,_,rfl⟩
  ·have h:p l[k] = true:=by simpa using h
   (repeat ((first | refine Va ?_ | refine Vb ?_ | refine Vc ?_ | refine Vd ?_ | refine Ve ?_ | refine Vf ?_); (try simp only [go_sem,hP,hw]); (repeat refine qJ ?_)))
   refine ⟨k + 1,⟨by omega,fun i hi2 hik => ?_⟩,by omega,?_⟩
   ·rcases Nat.lt_or_ge i k with h1 | h1
    ·exact hr i hi2 h1
    ·have:i = k:=by omega
     subst this; exact h
   ·(refine Sub_of (by simp only [go_sem]; ((repeat' (first | exact EnvLe_e0 _ _ | refine EnvLe_upd ?_ ?_)) <;> ((try simp only [upd_app,e0_app,o0_app,Nat.reduceEqDiff,reduceIte]); first | exact AWk.refl _ _ | exact AWk.int (by omega) | exact AWk.int (by rw [w64 (by omega) (by omega)]; omega) | exact AWk.grow rfl | exact AWk.nil _ | exact AWk.of (by simp [ints])))) (by simp only [go_sem]; exact ObjLe_au))
 ·have hi:k = l.length:=by simp at h; omega
  subst hi
  have e3:idxP (fun n => !p n) l = -1:=by
   unfold idxP
   rw [List.findIdx?_eq_none_iff.2 fun x hx => by obtain ⟨i,hi,rfl⟩:=List.getElem_of_mem hx; simp [hr i hi hi]]
  rw [e3]
  (repeat ((first | refine Va ?_ | refine Vb ?_ | refine Vc ?_ | refine Vd ?_ | refine Ve ?_ | refine Vf ?_); (try simp only [go_sem,hP]); (repeat refine qJ ?_)))
  (refine WV_ret ?_; simp only [thenQ,inQ,RetQL,RetOkL,resAll,resA]; simp only [go_sem,tupA,AV.keepP,AV.keepPL]; refine ⟨_,[.box [.c (.raw g.fv)],.guest g ((l.drop l.length).map (entP p))],rfl,KeepL_mk rfl rfl ?_ ?_ rfl,?_⟩)
  ·simp only [go_sem,keepAll,Ob.keepP,AV.keepP,AV.keepPL]
  ·trivial
  ·exact ⟨rfl,_,rfl⟩
theorem contains38b (p:Int → Bool) (l:List Int) (g:Gst):FSpecL Tryz.prog 69 [.c (ints l),.fn 94 [.bp 1000 0]] [.box [.c (.raw g.fv)],.guest g (l.map (entP p))] [] (fun r l' => r = .c (.bool (l.any fun n => !p n)) ∧ ∃ rem,l' = [.box [.c (.raw g.fv)],.guest g rem]):=by
 refine FSpecL_of c69 (by first | simp | exact Nat.le_of_ble_eq_true rfl) (Nat.le_refl _) (by decide) (by decide) fun C hP hN hC hL => ?_; rw [init_env',ownW_upd (by first | simp | exact Nat.le_of_ble_eq_true rfl)]; simp only [ir69,updL,updLo,List.map_nil,List.map_cons,Nat.reduceAdd,]
 (repeat ((first | refine Va ?_ | refine Vb ?_ | refine Vc ?_ | refine Vd ?_ | refine Ve ?_ | refine Vf ?_); (try simp only [go_sem,hP,ints]); (repeat refine qJ ?_)))
 refine AS_lend [1000,1001] (index52b p l g) rfl rfl rfl (by decide) rfl rfl ?_
 rintro r l' ⟨rfl,rem,rfl⟩
 refine ⟨_,_,rfl,rfl,?_⟩
 simp only [go_sem,hP,ownBack]
 (repeat ((first | refine Va ?_ | refine Vb ?_ | refine Vc ?_ | refine Vd ?_ | refine Ve ?_ | refine Vf ?_); (try simp only [go_sem,hP]); (repeat refine qJ ?_)))
 (refine WV_ret ?_; simp only [thenQ,inQ,RetQL,RetOkL,resAll,resA]; simp only [go_sem,tupA,AV.keepP,AV.keepPL]; refine ⟨_,[.box [.c (.raw g.fv)],.guest g rem],rfl,KeepL_mk rfl rfl ?_ ?_ rfl,?_⟩)
 ·simp only [go_sem,keepAll,Ob.keepP,AV.keepP,AV.keepPL]
 ·trivial
 ·exact ⟨by rw [← idxP_ge],_,rfl⟩
theorem all_not (p:Int → Bool) (l:List Int):(!l.any fun n => !p n) = l.all p:=by
 induction l with
 | nil => rfl
 | cons n l ih => simp only [List.any_cons,List.all_cons,Bool.not_or,Bool.not_not,ih]
def allB (p:Int → Bool) (l:List Int):Bool:=decide ((l.length:Int) ≤ 20) && l.all p
theorem all76 (p:Int → Bool) (l:List Int) (g:Gst):FSpecL Tryz.prog 89 [.c (ints l),.c (.raw g.fv)] [.guest g (l.map (entP p))] [] (fun r l' => r = .c (.bool (allB p l)) ∧ ∃ rem,l' = [.guest g rem]):=by
 refine FSpecL_of c89 (by first | simp | exact Nat.le_of_ble_eq_true rfl) (Nat.le_refl _) (by decide) (by decide) fun C hP hN hC hL => ?_; rw [init_env',ownW_upd (by first | simp | exact Nat.le_of_ble_eq_true rfl)]; simp only [ir89,updL,updLo,List.map_nil,List.map_cons,Nat.reduceAdd,]
 (repeat ((first | refine Va ?_ | refine Vb ?_ | refine Vc ?_ | refine Vd ?_ | refine Ve ?_ | refine Vf ?_); (try simp only [go_sem,hP,ints,List.length_map]); (repeat refine qJ ?_)))
 refine .inr (.inr ⟨fun hG => ?_,fun hG => ?_⟩)
 ·refine AS_lend [3,1000] (contains38b p l g) rfl (by simp [hG,go_sem]) rfl (by decide) rfl rfl ?_
  rintro r l' ⟨rfl,rem,rfl⟩
  refine ⟨_,_,rfl,rfl,?_⟩
  simp only [go_sem,hP,ownBack,hG]
  (repeat ((first | refine Va ?_ | refine Vb ?_ | refine Vc ?_ | refine Vd ?_ | refine Ve ?_ | refine Vf ?_); (try simp only [go_sem,hP,hG]); (repeat refine qJ ?_)))
  (refine WV_ret ?_; simp only [thenQ,inQ,RetQL,RetOkL,resAll,resA]; simp only [go_sem,tupA,AV.keepP,AV.keepPL]; refine ⟨_,[.guest g rem],rfl,KeepL_mk rfl rfl ?_ ?_ rfl,?_⟩)
  ·simp only [go_sem,keepAll,Ob.keepP,AV.keepP,AV.keepPL]
  ·trivial
  ·exact ⟨by unfold allB; rw [hG,← all_not]; rfl,_,rfl⟩
 ·simp only [go_sem,hP,hG]
  (repeat ((first | refine Va ?_ | refine Vb ?_ | refine Vc ?_ | refine Vd ?_ | refine Ve ?_ | refine Vf ?_); (try simp only [go_sem,hP,hG]); (repeat refine qJ ?_)))
  (refine WV_ret ?_; simp only [thenQ,inQ,RetQL,RetOkL,resAll,resA]; simp only [go_sem,tupA,AV.keepP,AV.keepPL]; refine ⟨_,[.guest g (l.map (entP p))],rfl,KeepL_mk rfl rfl ?_ ?_ rfl,?_⟩)
  ·simp only [go_sem,keepAll,Ob.keepP,AV.keepP,AV.keepPL]
  ·trivial
  ·exact ⟨by unfold allB; rw [hG]; rfl,_,rfl⟩
end Go.Proofs.YtbclmfjibpppfaaGreat

namespace Go.Proofs.YtbclmfjibpppfaaGreat
open Go Go.V
abbrev o87_0:List Ins:=[JS 3 (.box 3 (.t 0)),JS 4 (JB false)]
abbrev o87_1:List Ins:=[JS 5 (JL 3 3),JS 6 (Jf 0 1),JS 7 (Jl 6),JS 8 (Jc 88 [.t 5,.t 7]),JS 9 (Jm 8),JG 10 (Jf 1 1) 9 true,JG 11 (Jl 10) 9 true,JG 12 (Jc 31 [.t 11,(.k (Jz 0)),(.k (Jz 20))]) 9 true,JS 13 (Jp 9 12),JS 14 (Jm 13),JG 15 (Jl 2) 14 true,JG 16 (JL 3 3) 14 true,JG 17 (.raw (.makeFunc (.func 90) #[(.tmp 16)] #[])) 14 true,JG 18 (Jc 89 [.t 15,.t 17]) 14 true,JS 19 (Jp 14 18),JS 4 (Jm 19)]
abbrev v87_2:VC:=(.seq (.ops o87_1) .ret)
def ir87:FC:=⟨3,20,[.t 4],(.seq (.ops o87_0) v87_2)⟩
theorem c87:compM Tryz.prog [] 87 = some ir87:=by kernel_rfl
attribute [local go_sem] Nat.reduceEqDiff Nat.reduceAdd Nat.reduceMul reduceIte Nat.reduceLeDiff Nat.reduceLT Nat.reduceBEq reduceCtorEq
def runB (w:Wh) (pl cr:Int) (acts:List Int):Bool:=within pl 0 (w.ro - 1) && within cr 0 20 && allB (actB w) acts
set_option maxHeartbeats 8000000 in
theorem run74 {w:Wh} (hw:WhOk w) (pl cr:Int) (acts:List Int):FSpecL Tryz.prog 87 [w.av,.bp 1000 0,.bp 1001 0] [.box [iv pl,iv cr],.box [.c (ints acts)]] [] (fun r l' => r = .c (.bool (runB w pl cr acts)) ∧ l' = [.box [iv pl,iv cr],.box [.c (ints acts)]]):=by
 refine FSpecL_of c87 (by first | simp | exact Nat.le_of_ble_eq_true rfl) (Nat.le_refl _) (by decide) (by decide) fun C hP hN hC hL => ?_; rw [init_env',ownW_upd (by first | simp | exact Nat.le_of_ble_eq_true rfl)]; simp only [ir87,updL,updLo,List.map_nil,List.map_cons,Nat.reduceAdd,]
 simp only [Wh.av,Wh.avs]
 (repeat ((first | refine Va ?_ | refine Vb ?_ | refine Vc ?_ | refine Vd ?_ | refine Ve ?_ | refine Vf ?_); (try simp only [go_sem,hP,Wh.avs,ints]); (repeat refine qJ ?_)))
 (refine AS_pu (isPlace75 hw pl) ?_; simp only [go_sem,hP,Wh.av,Wh.avs,ints]; (repeat refine qJ ?_); (repeat ((first | refine Va ?_ | refine Vb ?_ | refine Vc ?_ | refine Vd ?_ | refine Ve ?_ | refine Vf ?_); (try simp only [go_sem,hP,Wh.av,Wh.avs,ints]); (repeat refine qJ ?_))))
 by_cases h1:within pl 0 (w.ro - 1) = true
 ·simp only [go_sem,h1]
  (refine AG_pu (fun hG => within50 cr 0 20) ?_; simp only [go_sem,hP,h1]; (repeat refine qJ ?_); (repeat ((first | refine Va ?_ | refine Vb ?_ | refine Vc ?_ | refine Vd ?_ | refine Ve ?_ | refine Vf ?_); (try simp only [go_sem,hP,h1]); (repeat refine qJ ?_))))
  by_cases h2:within cr 0 20 = true
  ·simp only [go_sem,h1,h2]
   (repeat ((first | refine Va ?_ | refine Vb ?_ | refine Vc ?_ | refine Vd ?_ | refine Ve ?_ | refine Vf ?_); (try simp only [go_sem,hP,h1,h2]); (repeat refine qJ ?_)))
   refine raw_bound (av:=w.av) (acts.map (entP (actB w))) rfl rfl rfl rfl rfl ?_ ?_
   ·intro e he
    obtain ⟨n,_,rfl⟩:=List.mem_map.1 he
    exact ⟨rfl,rfl,isAct77 hw n⟩
   intro g
   simp only [go_sem,hP]
   refine .inr (.inr ?_)
   refine AS_lend [17] (all76 (actB w) acts g) rfl rfl rfl (by decide) rfl rfl ?_
   rintro r l' ⟨rfl,rem,rfl⟩
   refine ⟨_,_,rfl,rfl,?_⟩
   simp only [go_sem,hP,ownBack]
   (repeat ((first | refine Va ?_ | refine Vb ?_ | refine Vc ?_ | refine Vd ?_ | refine Ve ?_ | refine Vf ?_); (try simp only [go_sem,hP]); (repeat refine qJ ?_)))
   (refine WV_ret ?_; simp only [thenQ,inQ,RetQL,RetOkL,resAll,resA]; simp only [go_sem,tupA,AV.keepP,AV.keepPL]; refine ⟨_,[.box [iv pl,iv cr],.box [.c (ints acts)]],rfl,KeepL_mk rfl rfl ?_ ?_ rfl,?_⟩)
   ·simp only [go_sem,keepAll,Ob.keepP,AV.keepP,AV.keepPL,ints]
   ·trivial
   ·exact ⟨by unfold runB; rw [h1,h2]; rfl,rfl⟩
  ·have h2:within cr 0 20 = false:=by simpa using h2
   simp only [go_sem,h2]
   (repeat ((first | refine Va ?_ | refine Vb ?_ | refine Vc ?_ | refine Vd ?_ | refine Ve ?_ | refine Vf ?_); (try simp only [go_sem,hP,h2]); (repeat refine qJ ?_)))
   (refine AG_skip ?_; simp only [go_sem,hP]; (repeat refine qJ ?_); (repeat ((first | refine Va ?_ | refine Vb ?_ | refine Vc ?_ | refine Vd ?_ | refine Ve ?_ | refine Vf ?_); (try simp only [go_sem,hP]); (repeat refine qJ ?_))))
   (refine WV_ret ?_; simp only [thenQ,inQ,RetQL,RetOkL,resAll,resA]; simp only [go_sem,tupA,AV.keepP,AV.keepPL]; refine ⟨_,[.box [iv pl,iv cr],.box [.c (ints acts)]],rfl,KeepL_mk rfl rfl ?_ ?_ rfl,?_⟩)
   ·simp only [go_sem,keepAll,Ob.keepP,AV.keepP,AV.keepPL,ints]
   ·trivial
   ·exact ⟨by unfold runB; rw [h1,h2]; rfl,rfl⟩
 ·have h1:within pl 0 (w.ro - 1) = false:=by simpa using h1
  simp only [go_sem,h1]
  (refine AG_skip ?_; simp only [go_sem,hP]; (repeat refine qJ ?_); (repeat ((first | refine Va ?_ | refine Vb ?_ | refine Vc ?_ | refine Vd ?_ | refine Ve ?_ | refine Vf ?_); (try simp only [go_sem,hP]); (repeat refine qJ ?_))))
  (refine AG_skip ?_; simp only [go_sem,hP]; (repeat refine qJ ?_); (repeat ((first | refine Va ?_ | refine Vb ?_ | refine Vc ?_ | refine Vd ?_ | refine Ve ?_ | refine Vf ?_); (try simp only [go_sem,hP]); (repeat refine qJ ?_))))
  (refine WV_ret ?_; simp only [thenQ,inQ,RetQL,RetOkL,resAll,resA]; simp only [go_sem,tupA,AV.keepP,AV.keepPL]; refine ⟨_,[.box [iv pl,iv cr],.box [.c (ints acts)]],rfl,KeepL_mk rfl rfl ?_ ?_ rfl,?_⟩)
  ·simp only [go_sem,keepAll,Ob.keepP,AV.keepP,AV.keepPL,ints]
  ·trivial
  ·exact ⟨by unfold runB; rw [h1]; rfl,rfl⟩
end Go.Proofs.YtbclmfjibpppfaaGreat

namespace Go.Proofs.YtbclmfjibpppfaaGreat
open Go Go.V
abbrev o29_0:List Ins:=[JS 2 (.box 3 (.t 0)),JS 4 (.alloc [Jz 0,J0,J0]),JS 5 (Ji 0)]
abbrev o29_1:List Ins:=[JS 7 (JL 3 2),JS 8 (Jc 49 [.t 7]),JS 6 (Jm 8)]
abbrev o29_2:List Ins:=[JS 9 (Jm 6),JS 10 (Jk .neq 9 0)]
abbrev o29_3:List Ins:=[JS 11 (.bld [Jz 0,J0,J0] []),JS 12 (Jm 6),JN (Js 3 4 11),JS 5 (Jm 12)]
abbrev v29_4:VC:=(.seq (.ops o29_3) .ret)
abbrev v29_5:VC:=(.cond (.t 10) v29_4 .skip)
abbrev v29_6:VC:=(.seq (.ops o29_2) v29_5)
abbrev o29_7:List Ins:=[JS 13 (Jm 1),JS 14 (JL 3 2),JS 15 (.bld [Jz 0,J0,J0] [(0,3,(.t 14))]),JS 16 (.call (.t 13) [.t 15]),JS 17 (.un .not (.t 16))]
abbrev o29_8:List Ins:=[JS 18 (.bld [Jz 0,J0,J0] []),JN (Js 3 4 18),JS 5 (Ji 1)]
abbrev v29_9:VC:=(.seq (.ops o29_8) .ret)
abbrev v29_10:VC:=(.cond (.t 17) v29_9 .skip)
abbrev o29_11:List Ins:=[JS 19 (JL 3 2),JS 20 (.bld [Jz 0,J0,J0] [(0,3,(.t 19))]),JN (Js 3 4 20),JS 5 (Ji 0)]
abbrev v29_12:VC:=(.seq (.ops o29_11) .ret)
abbrev v29_13:VC:=(.seq (.seq (.ops o29_7) v29_10) v29_12)
abbrev v29_14:VC:=(.seq (.seq (.ops o29_1) v29_6) v29_13)
def ir29:FC:=⟨2,21,[.cell 4 false 3,.t 5],(.seq (.ops o29_0) v29_14)⟩
abbrev o82_0:List Ins:=[JS 3 (.box 3 (.t 0)),JS 4 (.box 2 (.t 1)),JS 5 (.box 1 (.t 2)),JS 6 (.alloc [Jz 0,Jz 0]),JS 7 (Ji 0),JS 8 (Ji 0)]
abbrev o82_1:List Ins:=[JS 13 (JL 3 3),JS 14 (.mkfn 87 [.t 4,.t 5]),JS 15 (Jc 29 [.t 13,.t 14]),JS 12 (Jm 15),JS 16 (Je 12 0),JS 17 (Je 12 1),JS 9 (.alloc [Jz 0,J0,J0]),JN (Js 3 9 16),JS 8 (Jm 17)]
abbrev o82_2:List Ins:=[JS 18 (Jm 8),JS 19 (Jk .neq 18 0)]
abbrev o82_3:List Ins:=[JS 20 (.bld [Jz 0,Jz 0] []),JS 21 (Jm 8),JN (Js 2 6 20),JS 7 (Ji 0),JS 8 (Jm 21)]
abbrev v82_4:VC:=(.seq (.ops o82_3) .ret)
abbrev v82_5:VC:=(.cond (.t 19) v82_4 .skip)
abbrev o82_6:List Ins:=[JS 22 (Jl 5),JS 23 (Jn 22),JS 24 (Ji 0)]
abbrev o82_7:List Ins:=[JS 25 (Jb .lss 24 23)]
abbrev o82_8:List Ins:=[JS 26 (Ja 1 22 24),JS 27 (Jl 26),JS 11 (Jm 27)]
abbrev o82_9:List Ins:=[JS 28 (Jm 11),JS 29 (Jk .eql 28 (-1)),JS 30 (Jm 29),JG 31 (Jf 1 4) 30 true,JG 32 (Jl 31) 30 true,JG 33 (Jk .gtr 32 0) 30 true,JS 34 (Jp 30 33)]
abbrev o82_10:List Ins:=[JS 35 (Jm 7),JS 36 (Jk .add 35 1),JS 7 (Jm 36)]
abbrev v82_11:VC:=(.cond (.t 34) (.ops o82_10) .skip)
abbrev o82_12:List Ins:=[JS 37 (JL 3 9),JS 38 (JL 2 4),JS 39 (Jm 11),JS 40 (Jc 32 [.t 37,.t 38,.t 39]),JN (Js 2 4 40)]
abbrev v82_13:VC:=(.seq (.seq (.ops o82_9) v82_11) (.ops o82_12))
abbrev v82_14:VC:=(.seq (.ops o82_8) v82_13)
abbrev o82_15:List Ins:=[JS 41 (Jk .add 24 1),JS 24 (Jm 41)]
abbrev v82_16:VC:=(.seq (.block 1 v82_14) (.ops o82_15))
abbrev v82_17:VC:=(.seq (.cond (.t 25) .skip (.exit 0)) v82_16)
abbrev v82_18:VC:=(.seq (.ops o82_7) v82_17)
-- K82_1: changed and kept: [24,7]
abbrev K82_1:List Nat:=[4,6,9,22,23]
abbrev v82_19:VC:=(.loop v82_18)
abbrev v82_20:VC:=(.block 0 v82_19)
abbrev o82_21:List Ins:=[JS 42 (JL 2 4),JS 43 (Jm 7),JN (Js 2 6 42),JS 7 (Jm 43),JS 8 (Ji 0)]
abbrev v82_22:VC:=(.seq (.ops o82_21) .ret)
abbrev v82_23:VC:=(.seq (.seq (.ops o82_6) v82_20) v82_22)
abbrev v82_24:VC:=(.seq (.seq (.ops o82_2) v82_5) v82_23)
abbrev v82_25:VC:=(.seq (.ops o82_1) v82_24)
def ir82:FC:=⟨3,44,[.cell 6 false 2,.t 7,.t 8],(.seq (.ops o82_0) v82_25)⟩
theorem c29:compM Tryz.prog [] 29 = some ir29:=by kernel_rfl
theorem c82:compM Tryz.prog [] 82 = some ir82:=by kernel_rfl
attribute [local go_sem] Nat.reduceEqDiff Nat.reduceAdd Nat.reduceMul reduceIte Nat.reduceLeDiff Nat.reduceLT Nat.reduceBEq reduceCtorEq
def openE (w:Wh) (b:Bool):Int:=if whB w then (if b then 0 else 1) else 10
def whZ:AV:=.agg [.c (.int .i64 0),.c (.raw (.slice none 0 0)),.c (.raw (.slice none 0 0))]
theorem open73 (w:Wh) (pl cr:Int) (acts:List Int):FSpecL Tryz.prog 29 [w.av,.fn 87 [.bp 1000 0,.bp 1001 0]] [.box [iv pl,iv cr],.box [.c (ints acts)]] [] (fun r l' => r = .tup [if openE w (runB w pl cr acts) = 0 then w.av else whZ,iv (openE w (runB w pl cr acts))] ∧ l' = [.box [iv pl,iv cr],.box [.c (ints acts)]]):=by
 refine FSpecL_of c29 (by first | simp | exact Nat.le_of_ble_eq_true rfl) (Nat.le_refl _) (by decide) (by decide) fun C hP hN hC hL => ?_; rw [init_env',ownW_upd (by first | simp | exact Nat.le_of_ble_eq_true rfl)]; simp only [ir29,updL,updLo,List.map_nil,List.map_cons,Nat.reduceAdd,]
 simp only [Wh.av,Wh.avs]
 (repeat ((first | refine Va ?_ | refine Vb ?_ | refine Vc ?_ | refine Vd ?_ | refine Ve ?_ | refine Vf ?_); (try simp only [go_sem,hP,Wh.avs,ints]); (repeat refine qJ ?_)))
 (refine AS_pu (check36 w) ?_; simp only [go_sem,hP,Wh.av,Wh.avs,ints]; (repeat refine qJ ?_); (repeat ((first | refine Va ?_ | refine Vb ?_ | refine Vc ?_ | refine Vd ?_ | refine Ve ?_ | refine Vf ?_); (try simp only [go_sem,hP,Wh.av,Wh.avs,ints]); (repeat refine qJ ?_))))
 by_cases h1:whB w = true
 ·have e0:whE w = 0:=by unfold whE; rw [if_pos h1]
  rw [e0]
  (refine WV_cond rfl (fun h => ?_) (fun h => ?_))
  ·simp at h
  ·(repeat ((first | refine Va ?_ | refine Vb ?_ | refine Vc ?_ | refine Vd ?_ | refine Ve ?_ | refine Vf ?_); (try simp only [go_sem,hP]); (repeat refine qJ ?_)))
   refine AS_lend [1000,1001] (run74 (whB_ok h1) pl cr acts) rfl rfl rfl (by decide) rfl rfl ?_
   rintro r l' ⟨rfl,rfl⟩
   refine ⟨_,_,rfl,rfl,?_⟩
   simp only [go_sem,hP,ownBack]
   (repeat ((first | refine Va ?_ | refine Vb ?_ | refine Vc ?_ | refine Vd ?_ | refine Ve ?_ | refine Vf ?_); (try simp only [go_sem,hP]); (repeat refine qJ ?_)))
   by_cases h2:runB w pl cr acts = true
   ·have e1:openE w (runB w pl cr acts) = 0:=by unfold openE; rw [if_pos h1,if_pos h2]
    rw [e1]
    (refine WV_cond rfl (fun h => ?_) (fun h => ?_))
    ·rw [h2] at h; simp at h
    ·(repeat ((first | refine Va ?_ | refine Vb ?_ | refine Vc ?_ | refine Vd ?_ | refine Ve ?_ | refine Vf ?_); (try simp only [go_sem,hP]); (repeat refine qJ ?_)))
     (refine WV_ret ?_; simp only [thenQ,inQ,RetQL,RetOkL,resAll,resA]; simp only [go_sem,tupA,AV.keepP,AV.keepPL]; refine ⟨_,[.box [iv pl,iv cr],.box [.c (ints acts)]],rfl,KeepL_mk rfl rfl ?_ ?_ rfl,?_⟩)
     ·simp only [go_sem,keepAll,Ob.keepP,AV.keepP,AV.keepPL,ints]
     ·trivial
     ·exact ⟨rfl,rfl⟩
   ·have h2:runB w pl cr acts = false:=by simpa using h2
    have e1:openE w (runB w pl cr acts) = 1:=by unfold openE; rw [if_pos h1,h2]; rfl
    rw [e1]
    (refine WV_cond rfl (fun h => ?_) (fun h => ?_))
    ·(repeat ((first | refine Va ?_ | refine Vb ?_ | refine Vc ?_ | refine Vd ?_ | refine Ve ?_ | refine Vf ?_); (try simp only [go_sem,hP]); (repeat refine qJ ?_)))
     (refine WV_ret ?_; simp only [thenQ,inQ,RetQL,RetOkL,resAll,resA]; simp only [go_sem,tupA,AV.keepP,AV.keepPL]; refine ⟨_,[.box [iv pl,iv cr],.box [.c (ints acts)]],rfl,KeepL_mk rfl rfl ?_ ?_ rfl,?_⟩)
     ·simp only [go_sem,keepAll,Ob.keepP,AV.keepP,AV.keepPL,ints]
     ·trivial
     ·exact ⟨rfl,rfl⟩
    ·rw [h2] at h; simp at h
 ·have h1:whB w = false:=by simpa using h1
  have e0:whE w = 10:=by unfold whE; rw [h1]; rfl
  have e1:∀ b,openE w b = 10:=fun b => by unfold openE; rw [h1]; rfl
  rw [e0,e1]
  (refine WV_cond rfl (fun h => ?_) (fun h => ?_))
  ·(repeat ((first | refine Va ?_ | refine Vb ?_ | refine Vc ?_ | refine Vd ?_ | refine Ve ?_ | refine Vf ?_); (try simp only [go_sem,hP]); (repeat refine qJ ?_)))
   (refine WV_ret ?_; simp only [thenQ,inQ,RetQL,RetOkL,resAll,resA]; simp only [go_sem,tupA,AV.keepP,AV.keepPL]; refine ⟨_,[.box [iv pl,iv cr],.box [.c (ints acts)]],rfl,KeepL_mk rfl rfl ?_ ?_ rfl,?_⟩)
   ·simp only [go_sem,keepAll,Ob.keepP,AV.keepP,AV.keepPL,ints]
   ·trivial
   ·exact ⟨rfl,rfl⟩
  ·simp at h
def stepR (w:Wh) (s:Int × Int × Int) (a:Int):Int × Int × Int:=((actP w s.1 s.2.1 a).1,(actP w s.1 s.2.1 a).2,s.2.2 + if a = -1 ∧ 0 < s.2.1 then 1 else 0)
def runS (w:Wh) (pl cr:Int) (acts:List Int):Int × Int × Int:=acts.foldl (stepR w) (pl,cr,0)
theorem actP_ok {w:Wh} (hw:WhOk w) {pl cr a:Int} (hp:0 ≤ pl ∧ pl < w.ro) (hc:0 ≤ cr) (ha:actB w a = true):(0 ≤ (actP w pl cr a).1 ∧ (actP w pl cr a).1 < w.ro) ∧ 0 ≤ (actP w pl cr a).2 ∧ (actP w pl cr a).2 ≤ cr + 112:=by
 have hro:=hw.ro
 unfold actP
 by_cases h1:a = -1
 ·rw [if_pos h1]
  split
  ·exact ⟨⟨by simp,by simp; omega⟩,by simp; omega,by simp; omega⟩
  ·exact ⟨hp,hc,by simp; omega⟩
 ·rw [if_neg h1]
  have hk:0 ≤ a ∧ a ≤ w.co.length - 1:=by
   simp only [actB,Bool.or_eq_true,within,Bool.and_eq_true,decide_eq_true_eq,beq_iff_eq] at ha
   rcases ha with h | h
   ·exact absurd h h1
   ·exact h
  have hco:=co_at hw hk
  have hb:=plays_ok hw (p:=pl) (c:=w.co.getD a.toNat 0) (by omega)
  refine ⟨⟨Int.emod_nonneg _ (by omega),Int.emod_lt_of_pos _ (by omega)⟩,?_,?_⟩ <;> simp only <;> omega
theorem runS_ok {w:Wh} (hw:WhOk w) {pl cr:Int} (hp:0 ≤ pl ∧ pl < w.ro) (hc:0 ≤ cr):∀ (acts:List Int) (s:Int × Int × Int),(0 ≤ s.1 ∧ s.1 < w.ro) → 0 ≤ s.2.1 → 0 ≤ s.2.2 → acts.all (actB w) = true →
  (0 ≤ (acts.foldl (stepR w) s).1 ∧ (acts.foldl (stepR w) s).1 < w.ro) ∧ (0 ≤ (acts.foldl (stepR w) s).2.1 ∧ (acts.foldl (stepR w) s).2.1 ≤ s.2.1 + 112 * acts.length) ∧ (0 ≤ (acts.foldl (stepR w) s).2.2 ∧ (acts.foldl (stepR w) s).2.2 ≤ s.2.2 + acts.length)
 | [],s,h1,h2,h3,_ => by simp only [List.foldl_nil,List.length_nil]; omega
 | a :: acts,s,h1,h2,h3,h4 => by
  simp only [List.all_cons,Bool.and_eq_true] at h4
  have h5:=actP_ok hw h1 h2 h4.1
  have h6:=runS_ok hw hp hc acts (stepR w s a) h5.1 h5.2.1 (by simp only [stepR]; split <;> omega) h4.2
  simp only [List.foldl_cons,List.length_cons]
  simp only [stepR] at h6 ⊢
  refine ⟨h6.1,⟨h6.2.1.1,by omega⟩,h6.2.2.1,?_⟩
  have:=h6.2.2.2
  split at this <;> (rename_i hc; simp only [hc,if_true,if_false] at *; omega)
theorem runS_succ {w:Wh} {pl cr:Int} {acts:List Int} {k:Nat} (h:k < acts.length):runS w pl cr (acts.take (k + 1)) = stepR w (runS w pl cr (acts.take k)) acts[k]:=by
 unfold runS
 rw [List.take_succ_eq_append_getElem h,List.foldl_append]; rfl
def runP (w:Wh) (pl cr:Int) (acts:List Int):(Int × Int × Int) × Int:=if openE w (runB w pl cr acts) = 0 then (runS w pl cr acts,0) else ((0,0,0),openE w (runB w pl cr acts))
set_option maxHeartbeats 8000000 in
theorem run69 (w:Wh) (pl cr:Int) (acts:List Int):FSpec Tryz.prog 82 [w.av,.agg [iv pl,iv cr],.c (ints acts)] (.tup [.agg [iv (runP w pl cr acts).1.1,iv (runP w pl cr acts).1.2.1],iv (runP w pl cr acts).1.2.2,iv (runP w pl cr acts).2]):=by
 refine FSpec_of c82 (Nat.le_refl _) (by decide) fun C hP hN hC hL => ?_; rw [init_st]
 simp only [ir82,Wh.av,Wh.avs]
 (repeat ((first | refine Va ?_ | refine Vb ?_ | refine Vc ?_ | refine Vd ?_ | refine Ve ?_ | refine Vf ?_); (try simp only [go_sem,hP,Wh.avs,ints]); (repeat refine qJ ?_)))
 refine AS_lend [4,5] (open73 w pl cr acts) rfl rfl rfl (by decide) rfl rfl ?_
 rintro r l' ⟨rfl,rfl⟩
 by_cases h1:openE w (runB w pl cr acts) = 0
 ·have e1:runP w pl cr acts = (runS w pl cr acts,0):=by unfold runP; rw [if_pos h1]
  rw [e1,if_pos h1,h1]
  have hb:whB w = true ∧ runB w pl cr acts = true:=by
   unfold openE at h1
   split at h1
   ·split at h1
    ·rename_i a b; exact ⟨a,b⟩
    ·cases h1
   ·cases h1
  have hw:=whB_ok hb.1
  have hro:=hw.ro
  have hb2:=hb.2
  simp only [runB,allB,within,Bool.and_eq_true,decide_eq_true_eq] at hb2
  refine ⟨_,_,rfl,rfl,?_⟩
  simp only [go_sem,hP,ownBack]
  (repeat ((first | refine Va ?_ | refine Vb ?_ | refine Vc ?_ | refine Vd ?_ | refine Ve ?_ | refine Vf ?_); (try simp only [go_sem,hP]); (repeat refine qJ ?_)))
  (refine WV_cond rfl (fun h => ?_) (fun h => ?_))
  ·simp at h
  ·(repeat ((first | refine Va ?_ | refine Vb ?_ | refine Vc ?_ | refine Vd ?_ | refine Ve ?_ | refine Vf ?_); (try simp only [go_sem,hP,List.length_map]); (repeat refine qJ ?_)))
   refine WV_loopK K82_1 [4] (fun k:Nat => k ≤ acts.length) (fun k => acts.length - k) (fun k => [(24,iv k),(7,iv (runS w pl cr (acts.take k)).2.2)]) (fun k => [(4,.box [iv (runS w pl cr (acts.take k)).1,iv (runS w pl cr (acts.take k)).2.1])]) 0 (Nat.zero_le _) ?_ ?_
   ·(refine Sub_of (by simp only [go_sem]; ((repeat' (first | exact EnvLe_e0 _ _ | refine EnvLe_upd ?_ ?_)) <;> ((try simp only [upd_app,e0_app,o0_app,Nat.reduceEqDiff,reduceIte]); first | exact AWk.refl _ _ | exact AWk.int (by omega) | exact AWk.int (by rw [w64 (by omega) (by omega)]; omega) | exact AWk.grow rfl | exact AWk.nil _ | exact AWk.of (by simp [runS])))) (by simp only [go_sem]; exact ObjLe_au))
   ·intro k hk
    (repeat ((first | refine Va ?_ | refine Vb ?_ | refine Vc ?_ | refine Vd ?_ | refine Ve ?_ | refine Vf ?_); (try simp only [go_sem,hP]); (repeat refine qJ ?_)))
    (refine WV_cond rfl (fun h => ?_) (fun h => ?_))
    ·have hi:k < acts.length:=by simpa using h
     have hgd:=ints_get hi
     rw [getD_at hi] at hgd
     have hall:actB w acts[k] = true:=List.all_eq_true.1 hb2.2.2 _ (List.getElem_mem hi)
     have hok:=runS_ok hw (pl:=pl) (cr:=cr) (by omega) (by omega) (acts.take k) (pl,cr,0) (by simp only; omega) (by simp only; omega) (by simp) (List.all_eq_true.2 fun x hx => List.all_eq_true.1 hb2.2.2 x (List.mem_of_mem_take hx))
     rw [show (acts.take k).foldl (stepR w) (pl,cr,0) = runS w pl cr (acts.take k) from rfl] at hok
     have hsu:=runS_succ (w:=w) (pl:=pl) (cr:=cr) hi
     have hlen:((acts.take k).length:Int) = k:=by rw [List.length_take]; omega
     rw [hlen] at hok
     generalize runS w pl cr (acts.take k) = s at hok hsu
     obtain ⟨s1,s2,s3⟩:=s
     simp only at hok
     have hk20:(k:Int) < 20:=by omega
     have w1:=w64 (n:=(k:Int) + 1) (by omega) (by omega)
     have w2:=w64 (n:=s3 + 1) (by omega) (by omega)
     have hact:=act78 hw (pl:=s1) (cr:=s2) (a:=acts[k]) hok.1 (by omega) hall
     generalize acts[k] = x at *
     (repeat ((first | refine Va ?_ | refine Vb ?_ | refine Vc ?_ | refine Vd ?_ | refine Ve ?_ | refine Vf ?_); (try simp only [go_sem,hP,hgd,ints,List.length_map,Int.toNat_natCast,Int.ofNat_lt,hi,Int.natCast_nonneg]); (repeat refine qJ ?_)))
     by_cases hm:x = -1 ∧ 0 < s2
     ·have e2:runS w pl cr (acts.take (k + 1)) = ((actP w s1 s2 x).1,(actP w s1 s2 x).2,s3 + 1):=by rw [hsu]; simp only [stepR,hm,and_self,if_true]
      (refine WV_cond rfl (fun h => ?_) (fun h => ?_))
      ·(repeat ((first | refine Va ?_ | refine Vb ?_ | refine Vc ?_ | refine Vd ?_ | refine Ve ?_ | refine Vf ?_); (try simp only [go_sem,hP,w2]); (repeat refine qJ ?_)))
       (refine AS_pu (hact) ?_; simp only [go_sem,hP,Wh.av,Wh.avs,ints]; (repeat refine qJ ?_); (repeat ((first | refine Va ?_ | refine Vb ?_ | refine Vc ?_ | refine Vd ?_ | refine Ve ?_ | refine Vf ?_); (try simp only [go_sem,hP,Wh.av,Wh.avs,ints]); (repeat refine qJ ?_))))
       (repeat ((first | refine Va ?_ | refine Vb ?_ | refine Vc ?_ | refine Vd ?_ | refine Ve ?_ | refine Vf ?_); (try simp only [go_sem,hP,w1]); (repeat refine qJ ?_)))
       refine ⟨k + 1,by omega,by omega,?_⟩
       rw [e2]
       exact Sub_au
      ·exfalso; simp only [hm.1] at h; simp at h; omega
     ·have e2:runS w pl cr (acts.take (k + 1)) = ((actP w s1 s2 x).1,(actP w s1 s2 x).2,s3):=by rw [hsu]; simp only [stepR,hm,if_false,Int.add_zero]
      (refine WV_cond rfl (fun h => ?_) (fun h => ?_))
      ·exfalso; apply hm; simp at h; exact h
      ·(repeat ((first | refine Va ?_ | refine Vb ?_ | refine Vc ?_ | refine Vd ?_ | refine Ve ?_ | refine Vf ?_); (try simp only [go_sem,hP]); (repeat refine qJ ?_)))
       (refine AS_pu (hact) ?_; simp only [go_sem,hP,Wh.av,Wh.avs,ints]; (repeat refine qJ ?_); (repeat ((first | refine Va ?_ | refine Vb ?_ | refine Vc ?_ | refine Vd ?_ | refine Ve ?_ | refine Vf ?_); (try simp only [go_sem,hP,Wh.av,Wh.avs,ints]); (repeat refine qJ ?_))))
       (repeat ((first | refine Va ?_ | refine Vb ?_ | refine Vc ?_ | refine Vd ?_ | refine Ve ?_ | refine Vf ?_); (try simp only [go_sem,hP,w1]); (repeat refine qJ ?_)))
       refine ⟨k + 1,by omega,by omega,?_⟩
       rw [e2]
       exact Sub_au
    ·have hi:k = acts.length:=by simp at h; omega
     subst hi
     rw [List.take_length]
     (repeat ((first | refine Va ?_ | refine Vb ?_ | refine Vc ?_ | refine Vd ?_ | refine Ve ?_ | refine Vf ?_); (try simp only [go_sem,hP]); (repeat refine qJ ?_)))
     (refine WV_ret ?_; simp only [thenQ,inQ,RetQ,RetOk,resAll,resA]; simp only [go_sem,tupA,AV.port,AV.portL,exists_eq_left']; (first | exact AVle.of rfl | refine AVle.of ?_ | skip))
 ·have e1:runP w pl cr acts = ((0,0,0),openE w (runB w pl cr acts)):=by unfold runP; rw [if_neg h1]
  rw [e1,if_neg h1]
  generalize openE w (runB w pl cr acts) = e at *
  refine ⟨_,_,rfl,rfl,?_⟩
  simp only [go_sem,hP,ownBack,whZ]
  (repeat ((first | refine Va ?_ | refine Vb ?_ | refine Vc ?_ | refine Vd ?_ | refine Ve ?_ | refine Vf ?_); (try simp only [go_sem,hP]); (repeat refine qJ ?_)))
  (refine WV_cond rfl (fun h => ?_) (fun h => ?_))
  ·(repeat ((first | refine Va ?_ | refine Vb ?_ | refine Vc ?_ | refine Vd ?_ | refine Ve ?_ | refine Vf ?_); (try simp only [go_sem,hP]); (repeat refine qJ ?_)))
   (refine WV_ret ?_; simp only [thenQ,inQ,RetQ,RetOk,resAll,resA]; simp only [go_sem,tupA,AV.port,AV.portL,exists_eq_left']; (first | exact AVle.of rfl | refine AVle.of ?_ | skip))
  ·simp at h; exact absurd h h1
end Go.Proofs.YtbclmfjibpppfaaGreat

namespace Go.Proofs.YtbclmfjibpppfaaGreat
open Go Go.V
abbrev o30_0:List Ins:=[JS 2 (.box 3 (.t 0)),JS 3 (JB false)]
abbrev o30_1:List Ins:=[JS 4 (Jl 1),JS 5 (Jc 31 [.t 4,(.k (Jz 1)),(.k (Jz 20))]),JS 3 (Jm 5)]
abbrev v30_2:VC:=(.seq (.ops o30_1) .ret)
def ir30:FC:=⟨2,6,[.t 3],(.seq (.ops o30_0) v30_2)⟩
theorem c30:compM Tryz.prog [] 30 = some ir30:=by kernel_rfl
attribute [local go_sem] Nat.reduceEqDiff Nat.reduceAdd Nat.reduceMul reduceIte Nat.reduceLeDiff Nat.reduceLT Nat.reduceBEq reduceCtorEq
theorem chp30 (w:Wh) (n:Int):FSpecL Tryz.prog 30 [w.av,.bp 1000 0] [.box [iv n]] [] (fun r l' => r = .c (.bool (within n 1 20)) ∧ l' = [.box [iv n]]):=by
 refine FSpecL_of c30 (by first | simp | exact Nat.le_of_ble_eq_true rfl) (Nat.le_refl _) (by decide) (by decide) fun C hP hN hC hL => ?_; rw [init_env',ownW_upd (by first | simp | exact Nat.le_of_ble_eq_true rfl)]; simp only [ir30,updL,updLo,List.map_nil,List.map_cons,Nat.reduceAdd,]
 simp only [Wh.av,Wh.avs]
 (repeat ((first | refine Va ?_ | refine Vb ?_ | refine Vc ?_ | refine Vd ?_ | refine Ve ?_ | refine Vf ?_); (try simp only [go_sem,hP,Wh.avs,ints]); (repeat refine qJ ?_)))
 (refine AS_pu (within50 n 1 20) ?_; simp only [go_sem,hP]; (repeat refine qJ ?_); (repeat ((first | refine Va ?_ | refine Vb ?_ | refine Vc ?_ | refine Vd ?_ | refine Ve ?_ | refine Vf ?_); (try simp only [go_sem,hP]); (repeat refine qJ ?_))))
 (repeat ((first | refine Va ?_ | refine Vb ?_ | refine Vc ?_ | refine Vd ?_ | refine Ve ?_ | refine Vf ?_); (try simp only [go_sem,hP]); (repeat refine qJ ?_)))
 (refine WV_ret ?_; simp only [thenQ,inQ,RetQL,RetOkL,resAll,resA]; simp only [go_sem,tupA,AV.keepP,AV.keepPL]; refine ⟨_,[.box [iv n]],rfl,KeepL_mk rfl rfl ?_ ?_ rfl,?_⟩)
 ·simp only [go_sem,keepAll,Ob.keepP,AV.keepP,AV.keepPL]
 ·trivial
 ·exact ⟨rfl,rfl⟩
theorem openC29 (w:Wh) (n:Int):FSpecL Tryz.prog 29 [w.av,.fn 30 [.bp 1000 0]] [.box [iv n]] [] (fun r l' => r = .tup [if openE w (within n 1 20) = 0 then w.av else whZ,iv (openE w (within n 1 20))] ∧ l' = [.box [iv n]]):=by
 refine FSpecL_of c29 (by first | simp | exact Nat.le_of_ble_eq_true rfl) (Nat.le_refl _) (by decide) (by decide) fun C hP hN hC hL => ?_; rw [init_env',ownW_upd (by first | simp | exact Nat.le_of_ble_eq_true rfl)]; simp only [ir29,updL,updLo,List.map_nil,List.map_cons,Nat.reduceAdd,]
 simp only [Wh.av,Wh.avs]
 (repeat ((first | refine Va ?_ | refine Vb ?_ | refine Vc ?_ | refine Vd ?_ | refine Ve ?_ | refine Vf ?_); (try simp only [go_sem,hP,Wh.avs,ints]); (repeat refine qJ ?_)))
 (refine AS_pu (check36 w) ?_; simp only [go_sem,hP,Wh.av,Wh.avs,ints]; (repeat refine qJ ?_); (repeat ((first | refine Va ?_ | refine Vb ?_ | refine Vc ?_ | refine Vd ?_ | refine Ve ?_ | refine Vf ?_); (try simp only [go_sem,hP,Wh.av,Wh.avs,ints]); (repeat refine qJ ?_))))
 by_cases h1:whB w = true
 ·have e0:whE w = 0:=by unfold whE; rw [if_pos h1]
  rw [e0]
  (refine WV_cond rfl (fun h => ?_) (fun h => ?_))
  ·simp at h
  ·(repeat ((first | refine Va ?_ | refine Vb ?_ | refine Vc ?_ | refine Vd ?_ | refine Ve ?_ | refine Vf ?_); (try simp only [go_sem,hP]); (repeat refine qJ ?_)))
   refine AS_lend [1000] (chp30 w n) rfl rfl rfl (by decide) rfl rfl ?_
   rintro r l' ⟨rfl,rfl⟩
   refine ⟨_,_,rfl,rfl,?_⟩
   simp only [go_sem,hP,ownBack]
   (repeat ((first | refine Va ?_ | refine Vb ?_ | refine Vc ?_ | refine Vd ?_ | refine Ve ?_ | refine Vf ?_); (try simp only [go_sem,hP]); (repeat refine qJ ?_)))
   by_cases h2:within n 1 20 = true
   ·have e1:openE w (within n 1 20) = 0:=by unfold openE; rw [if_pos h1,if_pos h2]
    rw [e1]
    (refine WV_cond rfl (fun h => ?_) (fun h => ?_))
    ·rw [h2] at h; simp at h
    ·(repeat ((first | refine Va ?_ | refine Vb ?_ | refine Vc ?_ | refine Vd ?_ | refine Ve ?_ | refine Vf ?_); (try simp only [go_sem,hP]); (repeat refine qJ ?_)))
     (refine WV_ret ?_; simp only [thenQ,inQ,RetQL,RetOkL,resAll,resA]; simp only [go_sem,tupA,AV.keepP,AV.keepPL]; refine ⟨_,[.box [iv n]],rfl,KeepL_mk rfl rfl ?_ ?_ rfl,?_⟩)
     ·simp only [go_sem,keepAll,Ob.keepP,AV.keepP,AV.keepPL,ints]
     ·trivial
     ·exact ⟨rfl,rfl⟩
   ·have h2:within n 1 20 = false:=by simpa using h2
    have e1:openE w (within n 1 20) = 1:=by unfold openE; rw [if_pos h1,h2]; rfl
    rw [e1]
    (refine WV_cond rfl (fun h => ?_) (fun h => ?_))
    ·(repeat ((first | refine Va ?_ | refine Vb ?_ | refine Vc ?_ | refine Vd ?_ | refine Ve ?_ | refine Vf ?_); (try simp only [go_sem,hP]); (repeat refine qJ ?_)))
     (refine WV_ret ?_; simp only [thenQ,inQ,RetQL,RetOkL,resAll,resA]; simp only [go_sem,tupA,AV.keepP,AV.keepPL]; refine ⟨_,[.box [iv n]],rfl,KeepL_mk rfl rfl ?_ ?_ rfl,?_⟩)
     ·simp only [go_sem,keepAll,Ob.keepP,AV.keepP,AV.keepPL,ints]
     ·trivial
     ·exact ⟨rfl,rfl⟩
    ·rw [h2] at h; simp at h
 ·have h1:whB w = false:=by simpa using h1
  have e0:whE w = 10:=by unfold whE; rw [h1]; rfl
  have e1:∀ b,openE w b = 10:=fun b => by unfold openE; rw [h1]; rfl
  rw [e0,e1]
  (refine WV_cond rfl (fun h => ?_) (fun h => ?_))
  ·(repeat ((first | refine Va ?_ | refine Vb ?_ | refine Vc ?_ | refine Vd ?_ | refine Ve ?_ | refine Vf ?_); (try simp only [go_sem,hP]); (repeat refine qJ ?_)))
   (refine WV_ret ?_; simp only [thenQ,inQ,RetQL,RetOkL,resAll,resA]; simp only [go_sem,tupA,AV.keepP,AV.keepPL]; refine ⟨_,[.box [iv n]],rfl,KeepL_mk rfl rfl ?_ ?_ rfl,?_⟩)
   ·simp only [go_sem,keepAll,Ob.keepP,AV.keepP,AV.keepPL,ints]
   ·trivial
   ·exact ⟨rfl,rfl⟩
  ·simp at h
end Go.Proofs.YtbclmfjibpppfaaGreat

namespace Go.Proofs.YtbclmfjibpppfaaGreat
open Go Go.V
abbrev o68_0:List Ins:=[JS 6 (JB false)]
abbrev o68_1:List Ins:=[JS 7 (Jm 1),JS 8 (Jm 0),JS 9 (Jb .leq 7 8),JS 10 (Jm 9),JG 11 (Jm 0) 10 true,JG 12 (Jm 2) 10 true,JG 13 (Jb .leq 11 12) 10 true,JS 14 (Jp 10 13),JS 6 (Jm 14)]
abbrev v68_2:VC:=(.seq (.ops o68_1) .ret)
def ir68:FC:=⟨3,15,[.t 6],(.seq (.ops o68_0) v68_2)⟩
abbrev o70_0:List Ins:=[JS 2 (JB false)]
abbrev o70_1:List Ins:=[JS 3 (Jm 0),JS 4 (Jc 68 [.t 3,(.k (Jz 0)),(.k (Jz 12))]),JS 5 (.un .not (.t 4)),JS 2 (Jm 5)]
abbrev v70_2:VC:=(.seq (.ops o70_1) .ret)
def ir70:FC:=⟨1,6,[.t 2],(.seq (.ops o70_0) v70_2)⟩
abbrev o59_0:List Ins:=[JS 1 (.box 8 (.t 0)),JS 2 (Ji 0)]
abbrev o59_1:List Ins:=[JS 8 (Jf 0 1),JS 9 (JL 3 8),JS 10 (Jc 49 [.t 9]),JS 11 (Jk .neq 10 0),JS 12 (Jm 11),JG 13 (Jf 6 1) 12 false,JG 14 (Jl 13) 12 false,JG 15 (Jc 68 [.t 14,(.k (Jz 0)),(.k (Jz 9999))]) 12 false,JG 16 (.un .not (.t 15)) 12 false,JS 17 (Jo 12 16),JS 18 (Jm 17),JG 19 (Jf 7 1) 18 false,JG 20 (Jl 19) 18 false,JG 21 (Jc 68 [.t 20,(.k (Jz 0)),(.k (Jz 9))]) 18 false,JG 22 (.un .not (.t 21)) 18 false,JS 23 (Jo 18 22)]
abbrev o59_2:List Ins:=[JS 2 (Ji 50)]
abbrev v59_3:VC:=(.seq (.ops o59_2) .ret)
abbrev v59_4:VC:=(.cond (.t 23) v59_3 .skip)
abbrev o59_5:List Ins:=[JS 3 (Ji 0)]
abbrev o59_6:List Ins:=[JS 24 (Jf 3 1),JS 25 (Jl 24),JS 26 (Jf 4 1),JS 27 (Jl 26),JS 28 (Jf 5 1),JS 29 (Jl 28),JS 30 (.raw (.build 134 #[(0,(.tmp 25)),(1,(.tmp 27)),(2,(.tmp 29))])),JS 31 (Ji 0)]
abbrev o59_7:List Ins:=[JS 32 (Jk .lss 31 3)]
abbrev o59_8:List Ins:=[JS 33 (.raw (.index 134 (.tmp 30) (.tmp 31))),JS 5 (Jm 33)]
abbrev o59_9:List Ins:=[JS 34 (Jm 5),JS 35 (Jn 34),JS 36 (Jf 0 1),JS 37 (Jf 2 36),JS 38 (Jl 37),JS 39 (Jn 38),JS 40 (Jb .neq 35 39),JS 41 (Jm 40),JG 42 (Jm 5) 41 false,JG 43 (Jc 69 [.t 42,(.k (.fn 70 []))]) 41 false,JS 44 (Jo 41 43)]
abbrev o59_10:List Ins:=[JS 2 (Ji 50)]
abbrev v59_11:VC:=(.seq (.ops o59_10) .ret)
abbrev v59_12:VC:=(.cond (.t 44) v59_11 .skip)
abbrev v59_13:VC:=(.seq (.ops o59_9) v59_12)
abbrev v59_14:VC:=(.seq (.ops o59_8) v59_13)
abbrev o59_15:List Ins:=[JS 45 (Jk .add 31 1),JS 31 (Jm 45)]
abbrev v59_16:VC:=(.seq (.block 1 v59_14) (.ops o59_15))
abbrev v59_17:VC:=(.seq (.cond (.t 32) .skip (.exit 0)) v59_16)
abbrev v59_18:VC:=(.seq (.ops o59_7) v59_17)
-- K59_1: changed and kept: [31]
abbrev v59_19:VC:=(.loop v59_18)
abbrev v59_20:VC:=(.block 0 v59_19)
abbrev o59_21:List Ins:=[JS 46 (Jf 3 1),JS 47 (Jl 46),JS 48 (Jn 47),JS 49 (Ji 0)]
abbrev o59_22:List Ins:=[JS 50 (Jb .lss 49 48)]
abbrev o59_23:List Ins:=[JS 51 (Jm 49),JS 52 (Ja 1 47 49),JS 53 (Jl 52),JS 6 (Jm 51),JS 7 (Jm 53)]
abbrev o59_24:List Ins:=[JS 54 (Jf 4 1),JS 55 (Jl 54),JS 56 (Jm 6),JS 57 (Ja 1 55 56),JS 58 (Jl 57),JS 59 (Jm 7),JS 60 (Jb .gtr 58 59)]
abbrev o59_25:List Ins:=[JS 2 (Ji 50)]
abbrev v59_26:VC:=(.seq (.ops o59_25) .ret)
abbrev v59_27:VC:=(.cond (.t 60) v59_26 .skip)
abbrev o59_28:List Ins:=[JS 61 (Jm 3),JS 62 (Jm 7),JS 63 (Jf 5 1),JS 64 (Jl 63),JS 65 (Jm 6),JS 66 (Ja 1 64 65),JS 67 (Jl 66),JS 68 (Jb .add 62 67),JS 69 (Jb .add 61 68),JS 3 (Jm 69)]
abbrev v59_29:VC:=(.seq (.seq (.ops o59_24) v59_27) (.ops o59_28))
abbrev v59_30:VC:=(.seq (.ops o59_23) v59_29)
abbrev o59_31:List Ins:=[JS 70 (Jk .add 49 1),JS 49 (Jm 70)]
abbrev v59_32:VC:=(.seq (.block 3 v59_30) (.ops o59_31))
abbrev v59_33:VC:=(.seq (.cond (.t 50) .skip (.exit 2)) v59_32)
abbrev v59_34:VC:=(.seq (.ops o59_22) v59_33)
-- K59_2: changed and kept: [49,3]
abbrev K59_2:List Nat:=[1,47,48]
abbrev v59_35:VC:=(.loop v59_34)
abbrev v59_36:VC:=(.block 2 v59_35)
abbrev o59_37:List Ins:=[JS 71 (Jm 3),JS 72 (Jk .gtr 71 12)]
abbrev o59_38:List Ins:=[JS 2 (Ji 50)]
abbrev v59_39:VC:=(.seq (.ops o59_38) .ret)
abbrev v59_40:VC:=(.cond (.t 72) v59_39 .skip)
abbrev o59_41:List Ins:=[JS 2 (Ji 0)]
abbrev v59_42:VC:=(.seq (.ops o59_41) .ret)
abbrev v59_43:VC:=(.seq (.seq (.ops o59_37) v59_40) v59_42)
abbrev v59_44:VC:=(.seq (.seq (.ops o59_21) v59_36) v59_43)
abbrev v59_45:VC:=(.seq (.seq (.ops o59_6) v59_20) v59_44)
abbrev v59_46:VC:=(.seq (.ops o59_5) v59_45)
abbrev v59_47:VC:=(.seq (.seq (.ops o59_1) v59_4) v59_46)
def ir59:FC:=⟨1,73,[.t 2],(.seq (.ops o59_0) v59_47)⟩
theorem c68:compM Tryz.prog [] 68 = some ir68:=by kernel_rfl
theorem c70:compM Tryz.prog [] 70 = some ir70:=by kernel_rfl
theorem c59:compM Tryz.prog [] 59 = some ir59:=by kernel_rfl
attribute [local go_sem] Nat.reduceEqDiff Nat.reduceAdd Nat.reduceMul reduceIte Nat.reduceLeDiff Nat.reduceLT Nat.reduceBEq reduceCtorEq
structure Bx where
 wh:Wh
 fo:List Int
 ma:List Int
 sl:List Int
 pl:Int
 sk:Int
def Bx.cds (b:Bx):List CD:=[.int .i64 b.wh.ro,ints b.wh.no,ints b.wh.co,ints b.fo,ints b.ma,ints b.sl,.int .i64 b.pl,.int .i64 b.sk]
def Bx.avs (b:Bx):List AV:=[.c (.int .i64 b.wh.ro),.c (ints b.wh.no),.c (ints b.wh.co),.c (ints b.fo),.c (ints b.ma),.c (ints b.sl),.c (.int .i64 b.pl),.c (.int .i64 b.sk)]
def Bx.av (b:Bx):AV:=.agg b.avs
theorem within37 (a b c:Int):FSpec Tryz.prog 68 [iv a,iv b,iv c] (.c (.bool (within a b c))):=by
 refine FSpec_of c68 (Nat.le_refl _) (by decide) fun C hP hN hC hL => ?_; rw [init_st]
 simp only [ir68]
 (repeat ((first | refine Va ?_ | refine Vb ?_ | refine Vc ?_ | refine Vd ?_ | refine Ve ?_ | refine Vf ?_); (try simp only [go_sem,hP]); (repeat refine qJ ?_)))
 (refine WV_ret ?_; simp only [thenQ,inQ,RetQ,RetOk,resAll,resA]; simp only [go_sem,tupA,AV.port,AV.portL,exists_eq_left']; (first | exact AVle.of rfl | refine AVle.of ?_ | skip))
def put12 (n:Int):Bool:=!within n 0 12
theorem over39 (n:Int):FSpec Tryz.prog 70 [iv n] (.c (.bool (put12 n))):=by
 refine FSpec_of c70 (Nat.le_refl _) (by decide) fun C hP hN hC hL => ?_; rw [init_st]
 simp only [ir70]
 (repeat ((first | refine Va ?_ | refine Vb ?_ | refine Vc ?_ | refine Vd ?_ | refine Ve ?_ | refine Vf ?_); (try simp only [go_sem,hP]); (repeat refine qJ ?_)))
 (refine AS_pu (within37 n 0 12) ?_; simp only [go_sem,hP]; (repeat refine qJ ?_); (repeat ((first | refine Va ?_ | refine Vb ?_ | refine Vc ?_ | refine Vd ?_ | refine Ve ?_ | refine Vf ?_); (try simp only [go_sem,hP]); (repeat refine qJ ?_))))
 (refine WV_ret ?_; simp only [thenQ,inQ,RetQ,RetOk,resAll,resA]; simp only [go_sem,tupA,AV.port,AV.portL,exists_eq_left']; (first | exact AVle.of rfl | refine AVle.of ?_ | skip))
def lstB (w:Wh) (l:List Int):Bool:=!(!(l.length == w.co.length) || l.any put12)
def mkK (fo ma:List Int):Nat → Bool
 | 0 => true
 | k + 1 => mkK fo ma k && decide (ma.getD k 0 ≤ fo.getD k 0)
def sumK (a b:List Int):Nat → Int
 | 0 => 0
 | k + 1 => sumK a b k + (a.getD k 0 + b.getD k 0)
def bxB (b:Bx):Bool:=whB b.wh && within b.pl 0 9999 && within b.sk 0 9 && lstB b.wh b.fo && lstB b.wh b.ma && lstB b.wh b.sl && mkK b.fo b.ma b.fo.length && decide (sumK b.fo b.sl b.fo.length ≤ 12)
def bxE (b:Bx):Int:=if bxB b then 0 else 50
theorem mkK_false {fo ma:List Int}:∀ {k m:Nat},mkK fo ma k = false → k ≤ m → mkK fo ma m = false
 | k,0,h,hm => by rwa [show k = 0 by omega] at h
 | k,m + 1,h,hm => by
  rcases Nat.lt_or_ge m k with h1 | h1
  ·rwa [show k = m + 1 by omega] at h
  ·unfold mkK; rw [mkK_false h h1]; rfl
theorem lstB_ok {w:Wh} {l:List Int} (h:lstB w l = true):l.length = w.co.length ∧ ∀ n ∈ l,0 ≤ n ∧ n ≤ 12:=by
 simp only [lstB,Bool.not_or,Bool.not_not,Bool.and_eq_true,beq_iff_eq,Bool.not_eq_true',List.any_eq_false,put12,within,decide_eq_true_eq] at h
 exact ⟨h.1,fun n hn => by have:=h.2 n hn; simpa using this⟩
theorem getD_in {l:List Int} {k:Nat} {P:Int → Prop} (h:∀ n ∈ l,P n) (hk:k < l.length):P (l.getD k 0):=by rw [getD_at hk]; exact h _ (List.getElem_mem hk)
theorem sumK_ok {a b:List Int} (ha:∀ n ∈ a,0 ≤ n ∧ n ≤ 12) (hb:∀ n ∈ b,0 ≤ n ∧ n ≤ 12):∀ k:Nat,k ≤ a.length → k ≤ b.length → 0 ≤ sumK a b k ∧ sumK a b k ≤ 24 * k
 | 0,_,_ => by simp [sumK]
 | k + 1,h1,h2 => by
  have ih:=sumK_ok ha hb k (by omega) (by omega)
  have e1:=getD_in ha (k:=k) (by omega)
  have e2:=getD_in hb (k:=k) (by omega)
  simp only [sumK]
  omega
set_option maxHeartbeats 8000000 in
theorem check28 (b:Bx):FSpec Tryz.prog 59 [b.av] (iv (bxE b)):=by
 refine FSpec_of c59 (Nat.le_refl _) (by decide) fun C hP hN hC hL => ?_; rw [init_st]
 simp only [ir59,Bx.av,Bx.avs]
 (repeat ((first | refine Va ?_ | refine Vb ?_ | refine Vc ?_ | refine Vd ?_ | refine Ve ?_ | refine Vf ?_); (try simp only [go_sem,hP,Bx.avs,ints]); (repeat refine qJ ?_)))
 (refine AS_pu (check36 b.wh) ?_; simp only [go_sem,hP,Wh.av,Wh.avs,ints]; (repeat refine qJ ?_); (repeat ((first | refine Va ?_ | refine Vb ?_ | refine Vc ?_ | refine Vd ?_ | refine Ve ?_ | refine Vf ?_); (try simp only [go_sem,hP,Wh.av,Wh.avs,ints]); (repeat refine qJ ?_))))
 have hE:∀ {c:Bool},bxB b = c → bxE b = if c then 0 else 50:=fun h => by unfold bxE; rw [h]
 by_cases h1:whB b.wh = true
 case neg =>
  have h1:whB b.wh = false:=by simpa using h1
  have e0:whE b.wh = 10:=by unfold whE; rw [h1]; rfl
  have e1:bxE b = 50:=hE (c:=false) (by unfold bxB; rw [h1]; rfl)
  rw [e0,e1]
  (refine AG_skip ?_; simp only [go_sem,hP]; (repeat refine qJ ?_); (repeat ((first | refine Va ?_ | refine Vb ?_ | refine Vc ?_ | refine Vd ?_ | refine Ve ?_ | refine Vf ?_); (try simp only [go_sem,hP]); (repeat refine qJ ?_))))
  (refine AG_skip ?_; simp only [go_sem,hP]; (repeat refine qJ ?_); (repeat ((first | refine Va ?_ | refine Vb ?_ | refine Vc ?_ | refine Vd ?_ | refine Ve ?_ | refine Vf ?_); (try simp only [go_sem,hP]); (repeat refine qJ ?_))))
  (refine WV_cond rfl (fun h => ?_) (fun h => ?_))
  ·(repeat ((first | refine Va ?_ | refine Vb ?_ | refine Vc ?_ | refine Vd ?_ | refine Ve ?_ | refine Vf ?_); (try simp only [go_sem,hP]); (repeat refine qJ ?_)))
   (refine WV_ret ?_; simp only [thenQ,inQ,RetQ,RetOk,resAll,resA]; simp only [go_sem,tupA,AV.port,AV.portL,exists_eq_left']; (first | exact AVle.of rfl | refine AVle.of ?_ | skip))
  ·simp at h
 have e0:whE b.wh = 0:=by unfold whE; rw [if_pos h1]
 rw [e0]
 have hb0:((0:Int) != 0) = false:=rfl
 have hw:=whB_ok h1
 have hcl:=hw.cl
 simp only [go_sem,hb0]
 (refine AG_pu (fun hG => within37 b.pl 0 9999) ?_; simp only [go_sem,hP,hb0]; (repeat refine qJ ?_); (repeat ((first | refine Va ?_ | refine Vb ?_ | refine Vc ?_ | refine Vd ?_ | refine Ve ?_ | refine Vf ?_); (try simp only [go_sem,hP,hb0]); (repeat refine qJ ?_))))
 by_cases h2:within b.pl 0 9999 = true
 case neg =>
  have h2:within b.pl 0 9999 = false:=by simpa using h2
  have e1:bxE b = 50:=hE (c:=false) (by unfold bxB; rw [h1,h2]; rfl)
  rw [e1]
  simp only [go_sem,h2,hb0]
  (refine AG_skip ?_; simp only [go_sem,hP]; (repeat refine qJ ?_); (repeat ((first | refine Va ?_ | refine Vb ?_ | refine Vc ?_ | refine Vd ?_ | refine Ve ?_ | refine Vf ?_); (try simp only [go_sem,hP]); (repeat refine qJ ?_))))
  (refine WV_cond rfl (fun h => ?_) (fun h => ?_))
  ·(repeat ((first | refine Va ?_ | refine Vb ?_ | refine Vc ?_ | refine Vd ?_ | refine Ve ?_ | refine Vf ?_); (try simp only [go_sem,hP]); (repeat refine qJ ?_)))
   (refine WV_ret ?_; simp only [thenQ,inQ,RetQ,RetOk,resAll,resA]; simp only [go_sem,tupA,AV.port,AV.portL,exists_eq_left']; (first | exact AVle.of rfl | refine AVle.of ?_ | skip))
  ·simp at h
 simp only [go_sem,h2,hb0]
 (refine AG_pu (fun hG => within37 b.sk 0 9) ?_; simp only [go_sem,hP,h2,hb0]; (repeat refine qJ ?_); (repeat ((first | refine Va ?_ | refine Vb ?_ | refine Vc ?_ | refine Vd ?_ | refine Ve ?_ | refine Vf ?_); (try simp only [go_sem,hP,h2,hb0]); (repeat refine qJ ?_))))
 by_cases h3:within b.sk 0 9 = true
 case neg =>
  have h3:within b.sk 0 9 = false:=by simpa using h3
  have e1:bxE b = 50:=hE (c:=false) (by unfold bxB; rw [h1,h2,h3]; rfl)
  rw [e1]
  (refine WV_cond rfl (fun h => ?_) (fun h => ?_))
  ·(repeat ((first | refine Va ?_ | refine Vb ?_ | refine Vc ?_ | refine Vd ?_ | refine Ve ?_ | refine Vf ?_); (try simp only [go_sem,hP]); (repeat refine qJ ?_)))
   (refine WV_ret ?_; simp only [thenQ,inQ,RetQ,RetOk,resAll,resA]; simp only [go_sem,tupA,AV.port,AV.portL,exists_eq_left']; (first | exact AVle.of rfl | refine AVle.of ?_ | skip))
  ·rw [h3] at h; simp at h
 (refine WV_cond rfl (fun h => ?_) (fun h => ?_))
 ·rw [h3] at h; simp at h
 clear h
 (repeat ((first | refine Va ?_ | refine Vb ?_ | refine Vc ?_ | refine Vd ?_ | refine Ve ?_ | refine Vf ?_); (try simp only [go_sem,hP]); (repeat refine qJ ?_)))
 refine raw_bldA (e:=26) (n:=3) (sz:=1) (z:=List.replicate 3 (.c (.raw (.slice none 0 0)))) (ps:=[(0,1,.t 25),(1,1,.t 27),(2,1,.t 29)]) (r:=[b.fo,b.ma,b.sl].map fun l => .c (ints l)) (by kernel_rfl) (by kernel_rfl) (by kernel_rfl) rfl ?_ rfl ?_ ?_
 ·intro i q hq
  have:i = 0 ∨ i = 1 ∨ i = 2 ∨ 3 ≤ i:=by omega
  rcases this with rfl | rfl | rfl | h
  case inr.inr.inr => rw [List.getElem?_eq_none (by exact h)] at hq; cases hq
  all_goals (cases hq; exact ⟨_,rfl,rfl⟩)
 ·simp only [go_sem]
 simp only [go_sem,hP]
 (repeat ((first | refine Va ?_ | refine Vb ?_ | refine Vc ?_ | refine Vd ?_ | refine Ve ?_ | refine Vf ?_); (try simp only [go_sem,hP]); (repeat refine qJ ?_)))
 have hin:∀ l ∈ [b.fo,b.ma,b.sl],lstB b.wh l = false → bxB b = false:=fun l hl h => by
  unfold bxB
  simp only [List.mem_cons,List.not_mem_nil,or_false] at hl
  rcases hl with rfl | rfl | rfl <;> rw [h] <;> simp
 refine WV_loopK [1,3,30] [] (fun k:Nat => k ≤ 3 ∧ ([b.fo,b.ma,b.sl].take k).all (lstB b.wh) = true) (fun k => 3 - k) (fun k => [(31,iv k)]) (fun _ => []) 0 ⟨by omega,rfl⟩ ?_ ?_
 ·exact Sub_au
 ·rintro k ⟨hk,hr⟩
  (repeat ((first | refine Va ?_ | refine Vb ?_ | refine Vc ?_ | refine Vd ?_ | refine Ve ?_ | refine Vf ?_); (try simp only [go_sem,hP]); (repeat refine qJ ?_)))
  (refine WV_cond rfl (fun h => ?_) (fun h => ?_))
  ·have hi:k < 3:=by simp at h; omega
   have hi2:k < [b.fo,b.ma,b.sl].length:=hi
   obtain ⟨l,hl⟩ : ∃ l,[b.fo,b.ma,b.sl][k]? = some l:=⟨_,List.getElem?_eq_getElem hi2⟩
   have hc:[AV.c (ints b.fo),.c (ints b.ma),.c (ints b.sl)][((k:Int)).toNat]? = some (.c (ints l)):=by
    have:=congrArg (Option.map fun l => AV.c (ints l)) hl
    rwa [← List.getElem?_map] at this
   have hlm:=List.mem_of_getElem? hl
   have hts:([b.fo,b.ma,b.sl].take (k + 1)).all (lstB b.wh) = lstB b.wh l:=by
    rw [List.take_add_one,hl,List.all_append,hr]; simp
   have w1:=w64 (n:=(k:Int) + 1) (by omega) (by omega)
   (refine WV_skip ?_; simp only [go_sem])
   refine WV_seq_ (WV_block (WV_seq_ ?_))
   (refine WV_op ?_; simp only [go_sem,hP]; (repeat refine qJ ?_))
   refine raw_idx1 (e:=26) (n:=3) (x':=.t 30) (i':=.t 31) (k:=.i64) (j:=k) (by kernel_rfl) (by kernel_rfl) (by kernel_rfl) rfl rfl rfl rfl rfl rfl (by omega) hc ?_
   have hne:((l.length:Int) != (b.wh.co.length:Int)) = !(l.length == b.wh.co.length):=ibne _ _
   simp only [go_sem,hP]
   (repeat ((first | refine Va ?_ | refine Vb ?_ | refine Vc ?_ | refine Vd ?_ | refine Ve ?_ | refine Vf ?_); (try simp only [go_sem,hP,ints,List.length_map,hne]); (repeat refine qJ ?_)))
   by_cases hl2:l.length = b.wh.co.length
   ·have hb2:(l.length == b.wh.co.length) = true:=by simpa using hl2
    simp only [go_sem,hb2]
    (refine AG_pu (fun hG => contains38 l 70 put12 (fun n _ => over39 n)) ?_; simp only [go_sem,hP,ints,hb2]; (repeat refine qJ ?_); (repeat ((first | refine Va ?_ | refine Vb ?_ | refine Vc ?_ | refine Vd ?_ | refine Ve ?_ | refine Vf ?_); (try simp only [go_sem,hP,ints,hb2]); (repeat refine qJ ?_))))
    by_cases h5:l.any put12 = true
    ·have e1:lstB b.wh l = false:=by unfold lstB; rw [hb2,h5]; rfl
     have e2:bxE b = 50:=hE (c:=false) (hin l hlm e1)
     rw [e2]
     (refine WV_cond rfl (fun h => ?_) (fun h => ?_))
     ·(repeat ((first | refine Va ?_ | refine Vb ?_ | refine Vc ?_ | refine Vd ?_ | refine Ve ?_ | refine Vf ?_); (try simp only [go_sem,hP]); (repeat refine qJ ?_)))
      (refine WV_ret ?_; simp only [thenQ,inQ,RetQ,RetOk,resAll,resA]; simp only [go_sem,tupA,AV.port,AV.portL,exists_eq_left']; (first | exact AVle.of rfl | refine AVle.of ?_ | skip))
     ·rw [h5] at h; simp at h
    ·have h5:l.any put12 = false:=by simpa using h5
     have e1:lstB b.wh l = true:=by unfold lstB; rw [hb2,h5]; rfl
     (refine WV_cond rfl (fun h => ?_) (fun h => ?_))
     ·rw [h5] at h; simp at h
     ·(repeat ((first | refine Va ?_ | refine Vb ?_ | refine Vc ?_ | refine Vd ?_ | refine Ve ?_ | refine Vf ?_); (try simp only [go_sem,hP,w1]); (repeat refine qJ ?_)))
      refine ⟨k + 1,⟨by omega,by rw [hts,e1]⟩,by omega,?_⟩
      (refine Sub_of (by simp only [go_sem]; ((repeat' (first | exact EnvLe_e0 _ _ | refine EnvLe_upd ?_ ?_)) <;> ((try simp only [upd_app,e0_app,o0_app,Nat.reduceEqDiff,reduceIte]); first | exact AWk.refl _ _ | exact AWk.int (by omega) | exact AWk.int (by rw [w64 (by omega) (by omega)]; omega) | exact AWk.grow rfl | exact AWk.nil _ | exact AWk.of (by simp [ints])))) (by simp only [go_sem]; exact ObjLe_au))
   ·have hb2:(l.length == b.wh.co.length) = false:=by simpa using hl2
    have e1:lstB b.wh l = false:=by unfold lstB; rw [hb2]; rfl
    have e2:bxE b = 50:=hE (c:=false) (hin l hlm e1)
    rw [e2]
    simp only [go_sem,hb2]
    (refine AG_skip ?_; simp only [go_sem,hP]; (repeat refine qJ ?_); (repeat ((first | refine Va ?_ | refine Vb ?_ | refine Vc ?_ | refine Vd ?_ | refine Ve ?_ | refine Vf ?_); (try simp only [go_sem,hP]); (repeat refine qJ ?_))))
    (refine WV_cond rfl (fun h => ?_) (fun h => ?_))
    ·(repeat ((first | refine Va ?_ | refine Vb ?_ | refine Vc ?_ | refine Vd ?_ | refine Ve ?_ | refine Vf ?_); (try simp only [go_sem,hP]); (repeat refine qJ ?_)))
     (refine WV_ret ?_; simp only [thenQ,inQ,RetQ,RetOk,resAll,resA]; simp only [go_sem,tupA,AV.port,AV.portL,exists_eq_left']; (first | exact AVle.of rfl | refine AVle.of ?_ | skip))
    ·simp at h
  ·have hi:k = 3:=by simp at h; omega
   subst hi
   simp only [List.take_succ_cons,List.take_zero,List.all_cons,List.all_nil,Bool.and_true,Bool.and_eq_true] at hr
   obtain ⟨g1,g2,g3⟩:=hr
   have k1:=lstB_ok g1
   have k2:=lstB_ok g2
   have k3:=lstB_ok g3
   have hbx:bxB b = (mkK b.fo b.ma b.fo.length && decide (sumK b.fo b.sl b.fo.length ≤ 12)):=by unfold bxB; rw [h1,h2,h3,g1,g2,g3]; rfl
   (repeat ((first | refine Va ?_ | refine Vb ?_ | refine Vc ?_ | refine Vd ?_ | refine Ve ?_ | refine Vf ?_); (try simp only [go_sem,hP,ints,List.length_map]); (repeat refine qJ ?_)))
   refine WV_loopK K59_2 [] (fun k:Nat => k ≤ b.fo.length ∧ mkK b.fo b.ma k = true) (fun k => b.fo.length - k) (fun k => [(49,iv k),(3,iv (sumK b.fo b.sl k))]) (fun _ => []) 0 ⟨by omega,rfl⟩ ?_ ?_
   ·(refine Sub_of (by simp only [go_sem]; ((repeat' (first | exact EnvLe_e0 _ _ | refine EnvLe_upd ?_ ?_)) <;> ((try simp only [upd_app,e0_app,o0_app,Nat.reduceEqDiff,reduceIte]); first | exact AWk.refl _ _ | exact AWk.int (by omega) | exact AWk.int (by rw [w64 (by omega) (by omega)]; omega) | exact AWk.grow rfl | exact AWk.nil _ | exact AWk.of (by simp [sumK])))) (by simp only [go_sem]; exact ObjLe_au))
   ·rintro k ⟨hk,hr⟩
    (repeat ((first | refine Va ?_ | refine Vb ?_ | refine Vc ?_ | refine Vd ?_ | refine Ve ?_ | refine Vf ?_); (try simp only [go_sem,hP]); (repeat refine qJ ?_)))
    (refine WV_cond rfl (fun h => ?_) (fun h => ?_))
    ·have hi:k < b.fo.length:=by simpa using h
     have hi2:k < b.ma.length:=by omega
     have hi3:k < b.sl.length:=by omega
     have gf:=ints_get hi
     have gm:=ints_get hi2
     have gs:=ints_get hi3
     have hs:=sumK_ok k1.2 k3.2 k (by omega) (by omega)
     have rf:=getD_in k1.2 hi
     have rm:=getD_in k2.2 hi2
     have rs:=getD_in k3.2 hi3
     have hms:mkK b.fo b.ma (k + 1) = decide (b.ma.getD k 0 ≤ b.fo.getD k 0):=by
      conv => lhs; unfold mkK
      rw [hr]; rfl
     have hss:sumK b.fo b.sl (k + 1) = sumK b.fo b.sl k + (b.fo.getD k 0 + b.sl.getD k 0):=rfl
     have w1:=w64 (n:=(k:Int) + 1) (by omega) (by omega)
     have w2:=w64 (n:=b.fo.getD k 0 + b.sl.getD k 0) (by omega) (by omega)
     have w3:=w64 (n:=sumK b.fo b.sl k + (b.fo.getD k 0 + b.sl.getD k 0)) (by omega) (by omega)
     have hfail:mkK b.fo b.ma (k + 1) = false → bxB b = false:=fun h => by rw [hbx,mkK_false h hi]; rfl
     generalize b.fo.getD k 0 = x at *
     generalize b.ma.getD k 0 = y at *
     generalize b.sl.getD k 0 = z at *
     (repeat ((first | refine Va ?_ | refine Vb ?_ | refine Vc ?_ | refine Vd ?_ | refine Ve ?_ | refine Vf ?_); (try simp only [go_sem,hP,gf,gm,gs,ints,List.length_map,Int.toNat_natCast,Int.ofNat_lt,hi,hi2,hi3,Int.natCast_nonneg]); (repeat refine qJ ?_)))
     by_cases hxy:y ≤ x
     ·(refine WV_cond rfl (fun h => ?_) (fun h => ?_))
      ·simp at h; omega
      ·(repeat ((first | refine Va ?_ | refine Vb ?_ | refine Vc ?_ | refine Vd ?_ | refine Ve ?_ | refine Vf ?_); (try simp only [go_sem,hP,gf,gm,gs,ints,List.length_map,Int.toNat_natCast,Int.ofNat_lt,hi,hi2,hi3,Int.natCast_nonneg,w1,w2,w3]); (repeat refine qJ ?_)))
       refine ⟨k + 1,⟨by omega,by rw [hms]; simpa using hxy⟩,by omega,?_⟩
       rw [hss]
       (refine Sub_of (by simp only [go_sem]; ((repeat' (first | exact EnvLe_e0 _ _ | refine EnvLe_upd ?_ ?_)) <;> ((try simp only [upd_app,e0_app,o0_app,Nat.reduceEqDiff,reduceIte]); first | exact AWk.refl _ _ | exact AWk.int (by omega) | exact AWk.int (by rw [w64 (by omega) (by omega)]; omega) | exact AWk.grow rfl | exact AWk.nil _ | exact AWk.of (by simp [ints])))) (by simp only [go_sem]; exact ObjLe_au))
     ·have e2:bxE b = 50:=hE (c:=false) (hfail (by rw [hms]; simpa using hxy))
      rw [e2]
      (refine WV_cond rfl (fun h => ?_) (fun h => ?_))
      ·(repeat ((first | refine Va ?_ | refine Vb ?_ | refine Vc ?_ | refine Vd ?_ | refine Ve ?_ | refine Vf ?_); (try simp only [go_sem,hP]); (repeat refine qJ ?_)))
       (refine WV_ret ?_; simp only [thenQ,inQ,RetQ,RetOk,resAll,resA]; simp only [go_sem,tupA,AV.port,AV.portL,exists_eq_left']; (first | exact AVle.of rfl | refine AVle.of ?_ | skip))
      ·simp at h; omega
    ·have hi:k = b.fo.length:=by simp at h; omega
     subst hi
     rw [hr] at hbx
     (repeat ((first | refine Va ?_ | refine Vb ?_ | refine Vc ?_ | refine Vd ?_ | refine Ve ?_ | refine Vf ?_); (try simp only [go_sem,hP]); (repeat refine qJ ?_)))
     by_cases hs:sumK b.fo b.sl b.fo.length ≤ 12
     ·have e2:bxE b = 0:=hE (c:=true) (by rw [hbx]; simpa using hs)
      rw [e2]
      (refine WV_cond rfl (fun h => ?_) (fun h => ?_))
      ·simp at h; omega
      ·(repeat ((first | refine Va ?_ | refine Vb ?_ | refine Vc ?_ | refine Vd ?_ | refine Ve ?_ | refine Vf ?_); (try simp only [go_sem,hP]); (repeat refine qJ ?_)))
       (refine WV_ret ?_; simp only [thenQ,inQ,RetQ,RetOk,resAll,resA]; simp only [go_sem,tupA,AV.port,AV.portL,exists_eq_left']; (first | exact AVle.of rfl | refine AVle.of ?_ | skip))
     ·have e2:bxE b = 50:=hE (c:=false) (by rw [hbx]; simpa using hs)
      rw [e2]
      (refine WV_cond rfl (fun h => ?_) (fun h => ?_))
      ·(repeat ((first | refine Va ?_ | refine Vb ?_ | refine Vc ?_ | refine Vd ?_ | refine Ve ?_ | refine Vf ?_); (try simp only [go_sem,hP]); (repeat refine qJ ?_)))
       (refine WV_ret ?_; simp only [thenQ,inQ,RetQ,RetOk,resAll,resA]; simp only [go_sem,tupA,AV.port,AV.portL,exists_eq_left']; (first | exact AVle.of rfl | refine AVle.of ?_ | skip))
      ·simp at h; omega
end Go.Proofs.YtbclmfjibpppfaaGreat

namespace Go.Proofs.YtbclmfjibpppfaaGreat
open Go Go.V
abbrev o47_0:List Ins:=[JS 1 (.box 8 (.t 0)),JS 2 (.mv (.k (.c (.raw (.pointer none))))),JS 3 (Ji 0)]
abbrev o47_1:List Ins:=[JS 5 (JL 8 1),JS 6 (Jc 59 [.t 5]),JS 4 (Jm 6)]
abbrev o47_2:List Ins:=[JS 7 (Jm 4),JS 8 (Jk .neq 7 0)]
abbrev o47_3:List Ins:=[JS 9 (Jm 4),JS 2 (.mv (.k (.c (.raw (.pointer none))))),JS 3 (Jm 9)]
abbrev v47_4:VC:=(.seq (.ops o47_3) .ret)
abbrev v47_5:VC:=(.cond (.t 8) v47_4 .skip)
abbrev v47_6:VC:=(.seq (.ops o47_2) v47_5)
abbrev o47_7:List Ins:=[JS 10 (JL 8 1),JS 11 (.bld [Jz 0,J0,J0,J0,J0,J0,Jz 0,Jz 0] [(0,8,(.t 10))]),JS 12 (.box 8 (.t 11)),JS 2 (Jm 12),JS 3 (Ji 0)]
abbrev v47_8:VC:=(.seq (.ops o47_7) .ret)
abbrev v47_9:VC:=(.seq (.seq (.ops o47_1) v47_6) v47_8)
def ir47:FC:=⟨1,13,[.t 2,.t 3],(.seq (.ops o47_0) v47_9)⟩
abbrev o28_0:List Ins:=[JS 4 (Ji 0)]
abbrev o28_1:List Ins:=[JS 5 (Ji 0)]
abbrev o28_2:List Ins:=[JS 8 (Jm 1),JS 9 (Jn 8),JS 10 (Ji 0)]
abbrev o28_3:List Ins:=[JS 11 (Jb .lss 10 9)]
abbrev o28_4:List Ins:=[JS 12 (Jm 10),JS 13 (Ja 1 8 10),JS 14 (Jl 13),JS 6 (Jm 12),JS 7 (Jm 14)]
abbrev o28_5:List Ins:=[JS 15 (Jm 5),JS 16 (Jm 7),JS 17 (Jm 0),JS 18 (.nilc (.t 17)),JS 19 (Jf 0 18),JS 20 (Jf 0 19),JS 21 (Jf 2 20),JS 22 (Jl 21),JS 23 (Jm 6),JS 24 (Ja 1 22 23),JS 25 (Jl 24),JS 26 (Jb .mul 16 25),JS 27 (Jb .add 15 26),JS 5 (Jm 27)]
abbrev v28_6:VC:=(.seq (.ops o28_4) (.ops o28_5))
abbrev o28_7:List Ins:=[JS 28 (Jk .add 10 1),JS 10 (Jm 28)]
abbrev v28_8:VC:=(.seq (.block 1 v28_6) (.ops o28_7))
abbrev v28_9:VC:=(.seq (.cond (.t 11) .skip (.exit 0)) v28_8)
abbrev v28_10:VC:=(.seq (.ops o28_3) v28_9)
-- K28_1: changed and kept: [10,5]
abbrev K28_1:List Nat:=[0,8,9]
abbrev v28_11:VC:=(.loop v28_10)
abbrev v28_12:VC:=(.block 0 v28_11)
abbrev o28_13:List Ins:=[JS 29 (Jm 5),JS 4 (Jm 29)]
abbrev v28_14:VC:=(.seq (.ops o28_13) .ret)
abbrev v28_15:VC:=(.seq (.seq (.ops o28_2) v28_12) v28_14)
abbrev v28_16:VC:=(.seq (.ops o28_1) v28_15)
def ir28:FC:=⟨2,30,[.t 4],(.seq (.ops o28_0) v28_16)⟩
abbrev o72_0:List Ins:=[JS 2 (.alloc [Jz 0,Jz 0,Jz 0,Jz 0])]
abbrev o72_1:List Ins:=[JS 3 (.alloc [Jz 0,Jz 0,Jz 0,Jz 0])]
abbrev o72_2:List Ins:=[JS 6 (Jm 0),JS 7 (.nilc (.t 6)),JS 8 (Jf 0 7),JS 9 (Jf 3 8),JS 10 (Jl 9),JS 11 (Jn 10),JS 12 (Ji 0)]
abbrev o72_3:List Ins:=[JS 13 (Jb .lss 12 11)]
abbrev o72_4:List Ins:=[JS 14 (Jm 12),JS 15 (Ja 1 10 12),JS 16 (Jl 15),JS 4 (Jm 14),JS 5 (Jm 16)]
abbrev o72_5:List Ins:=[JS 17 (Jm 4),JS 18 (Jm 5),JS 19 (Jm 0),JS 20 (.nilc (.t 19)),JS 21 (Jf 0 20),JS 22 (Jf 5 21),JS 23 (Jl 22),JS 24 (Jm 4),JS 25 (Ja 1 23 24),JS 26 (Jl 25),JS 27 (Jb .add 18 26),JS 28 (.iap 4 1 (.t 3) (.t 17)),JN (Js 1 28 27)]
abbrev v72_6:VC:=(.seq (.ops o72_4) (.ops o72_5))
abbrev o72_7:List Ins:=[JS 29 (Jk .add 12 1),JS 12 (Jm 29)]
abbrev v72_8:VC:=(.seq (.block 1 v72_6) (.ops o72_7))
abbrev v72_9:VC:=(.seq (.cond (.t 13) .skip (.exit 0)) v72_8)
abbrev v72_10:VC:=(.seq (.ops o72_3) v72_9)
-- K72_1: changed and kept: [12]
abbrev K72_1:List Nat:=[0,2,3,10,11]
abbrev v72_11:VC:=(.loop v72_10)
abbrev v72_12:VC:=(.block 0 v72_11)
abbrev o72_13:List Ins:=[JS 30 (JL 4 3),JN (Js 4 2 30)]
abbrev v72_14:VC:=(.seq (.ops o72_13) .ret)
abbrev v72_15:VC:=(.seq (.seq (.ops o72_2) v72_12) v72_14)
abbrev v72_16:VC:=(.seq (.ops o72_1) v72_15)
def ir72:FC:=⟨1,31,[.cell 2 false 4],(.seq (.ops o72_0) v72_16)⟩
theorem c47:compM Tryz.prog [] 47 = some ir47:=by kernel_rfl
theorem c28:compM Tryz.prog [] 28 = some ir28:=by kernel_rfl
theorem c72:compM Tryz.prog [] 72 = some ir72:=by kernel_rfl
attribute [local go_sem] Nat.reduceEqDiff Nat.reduceAdd Nat.reduceMul reduceIte Nat.reduceLeDiff Nat.reduceLT Nat.reduceBEq reduceCtorEq
structure BxOk (b:Bx):Prop where
 wh:WhOk b.wh
 pl:0 ≤ b.pl ∧ b.pl ≤ 9999
 sk:0 ≤ b.sk ∧ b.sk ≤ 9
 fl:b.fo.length = b.wh.co.length
 fo:∀ n ∈ b.fo,0 ≤ n ∧ n ≤ 12
 ml:b.ma.length = b.wh.co.length
 ma:∀ n ∈ b.ma,0 ≤ n ∧ n ≤ 12
 sl:b.sl.length = b.wh.co.length
 sn:∀ n ∈ b.sl,0 ≤ n ∧ n ≤ 12
 mm:mkK b.fo b.ma b.fo.length = true
 sum:sumK b.fo b.sl b.fo.length ≤ 12
theorem bxB_ok {b:Bx} (h:bxB b = true):BxOk b:=by
 simp only [bxB,Bool.and_eq_true,decide_eq_true_eq,within] at h
 obtain ⟨⟨⟨⟨⟨⟨⟨h1,h2⟩,h3⟩,h4⟩,h5⟩,h6⟩,h7⟩,h8⟩:=h
 have k1:=lstB_ok h4
 have k2:=lstB_ok h5
 have k3:=lstB_ok h6
 exact ⟨whB_ok h1,h2,h3,k1.1,k1.2,k2.1,k2.2,k3.1,k3.2,h7,h8⟩
def bxPt (b:Bx):AV:=if bxB b then .c (.pt b.cds) else .c (.raw (.pointer none))
theorem open24 (b:Bx):FSpec Tryz.prog 47 [b.av] (.tup [bxPt b,iv (bxE b)]):=by
 refine FSpec_of c47 (Nat.le_refl _) (by decide) fun C hP hN hC hL => ?_; rw [init_st]
 simp only [ir47,Bx.av,Bx.avs]
 (repeat ((first | refine Va ?_ | refine Vb ?_ | refine Vc ?_ | refine Vd ?_ | refine Ve ?_ | refine Vf ?_); (try simp only [go_sem,hP,Bx.avs,ints]); (repeat refine qJ ?_)))
 (refine AS_pu (check28 b) ?_; simp only [go_sem,hP,Bx.av,Bx.avs,ints]; (repeat refine qJ ?_); (repeat ((first | refine Va ?_ | refine Vb ?_ | refine Vc ?_ | refine Vd ?_ | refine Ve ?_ | refine Vf ?_); (try simp only [go_sem,hP,Bx.av,Bx.avs,ints]); (repeat refine qJ ?_))))
 by_cases h1:bxB b = true
 ·have e0:bxE b = 0:=by unfold bxE; rw [if_pos h1]
  have e1:bxPt b = .c (.pt b.cds):=by unfold bxPt; rw [if_pos h1]
  rw [e0,e1]
  (refine WV_cond rfl (fun h => ?_) (fun h => ?_))
  ·simp at h
  ·(repeat ((first | refine Va ?_ | refine Vb ?_ | refine Vc ?_ | refine Vd ?_ | refine Ve ?_ | refine Vf ?_); (try simp only [go_sem,hP]); (repeat refine qJ ?_)))
   refine WV_freeze 12 (ds:=b.cds) rfl rfl ?_
   simp only [go_sem]
   (refine WV_ret ?_; simp only [thenQ,inQ,RetQ,RetOk,resAll,resA]; simp only [go_sem,tupA,AV.port,AV.portL,exists_eq_left']; (first | exact AVle.of rfl | refine AVle.of ?_ | skip))
 ·have h1:bxB b = false:=by simpa using h1
  have e0:bxE b = 50:=by unfold bxE; rw [h1]; rfl
  have e1:bxPt b = .c (.raw (.pointer none)):=by unfold bxPt; rw [h1]; rfl
  rw [e0,e1]
  (refine WV_cond rfl (fun h => ?_) (fun h => ?_))
  ·(repeat ((first | refine Va ?_ | refine Vb ?_ | refine Vc ?_ | refine Vd ?_ | refine Ve ?_ | refine Vf ?_); (try simp only [go_sem,hP]); (repeat refine qJ ?_)))
   (refine WV_ret ?_; simp only [thenQ,inQ,RetQ,RetOk,resAll,resA]; simp only [go_sem,tupA,AV.port,AV.portL,exists_eq_left']; (first | exact AVle.of rfl | refine AVle.of ?_ | skip))
  ·simp at h
def worthK (w:Wh) (l:List Int):Nat → Int
 | 0 => 0
 | k + 1 => worthK w l k + l.getD k 0 * w.co.getD k 0
def worth (w:Wh) (l:List Int):Int:=worthK w l l.length
theorem worthK_ok {w:Wh} (hw:WhOk w) {l:List Int} (hl:l.length ≤ w.co.length) (hn:∀ n ∈ l,0 ≤ n ∧ n ≤ 14):∀ k:Nat,k ≤ l.length → 0 ≤ worthK w l k ∧ worthK w l k ≤ 1400 * k
 | 0,_ => by simp [worthK]
 | k + 1,h => by
  have ih:=worthK_ok hw hl hn k (by omega)
  have e1:=getD_in hn (k:=k) (by omega)
  have e2:=getD_in hw.co (k:=k) (by omega)
  simp only [worthK]
  have h1:0 ≤ l.getD k 0 * w.co.getD k 0:=Int.mul_nonneg (by omega) (by omega)
  have h2:l.getD k 0 * w.co.getD k 0 ≤ 14 * 100:=Int.mul_le_mul e1.2 e2.2 (by omega) (by omega)
  omega
theorem worth_ok {w:Wh} (hw:WhOk w) {l:List Int} (hl:l.length ≤ w.co.length) (hn:∀ n ∈ l,0 ≤ n ∧ n ≤ 14):0 ≤ worth w l ∧ worth w l ≤ 5600:=by
 have:=worthK_ok hw hl hn l.length (Nat.le_refl _)
 have:=hw.cl
 unfold worth
 omega
set_option maxHeartbeats 8000000 in
theorem worth25 {b:Bx} (hw:WhOk b.wh) {l:List Int} (hl:l.length ≤ b.wh.co.length) (hn:∀ n ∈ l,0 ≤ n ∧ n ≤ 14):FSpec Tryz.prog 28 [.c (.pt b.cds),.c (ints l)] (iv (worth b.wh l)):=by
 have hcl:=hw.cl
 refine FSpec_of c28 (Nat.le_refl _) (by decide) fun C hP hN hC hL => ?_; rw [init_st]
 simp only [ir28]
 (repeat ((first | refine Va ?_ | refine Vb ?_ | refine Vc ?_ | refine Vd ?_ | refine Ve ?_ | refine Vf ?_); (try simp only [go_sem,hP,ints,List.length_map]); (repeat refine qJ ?_)))
 (refine WV_loopK K28_1 [] (fun k:Nat => k ≤ l.length) (fun k => l.length - k) (fun k => [(10,iv k),(5,iv (worthK b.wh l k))]) (fun _ => []) 0 (Nat.zero_le _) ?_ ?_)
 ·(refine Sub_of (by simp only [go_sem]; ((repeat' (first | exact EnvLe_e0 _ _ | refine EnvLe_upd ?_ ?_)) <;> ((try simp only [upd_app,e0_app,o0_app,Nat.reduceEqDiff,reduceIte]); first | exact AWk.refl _ _ | exact AWk.int (by omega) | exact AWk.int (by rw [w64 (by omega) (by omega)]; omega) | exact AWk.grow rfl | exact AWk.nil _ | exact AWk.of (by simp [worthK])))) (by simp only [go_sem]; exact ObjLe_au))
 ·intro k hk
  (repeat ((first | refine Va ?_ | refine Vb ?_ | refine Vc ?_ | refine Vd ?_ | refine Ve ?_ | refine Vf ?_); (try simp only [go_sem,hP]); (repeat refine qJ ?_)))
  (refine WV_cond rfl (fun h => ?_) (fun h => ?_))
  ·have hi:k < l.length:=by simpa using h
   have hi2:k < b.wh.co.length:=by omega
   have g1:=ints_get hi
   have g2:=ints_get hi2
   have e1:=getD_in hn hi
   have e2:=getD_in hw.co hi2
   have hb:=worthK_ok hw hl hn k (by omega)
   have hs:worthK b.wh l (k + 1) = worthK b.wh l k + l.getD k 0 * b.wh.co.getD k 0:=rfl
   generalize l.getD k 0 = x at *
   generalize b.wh.co.getD k 0 = y at *
   have h1:0 ≤ x * y:=Int.mul_nonneg (by omega) (by omega)
   have h2:x * y ≤ 14 * 100:=Int.mul_le_mul e1.2 e2.2 (by omega) (by omega)
   have w1:=w64 (n:=(k:Int) + 1) (by omega) (by omega)
   have w2:=w64 (n:=x * y) (by omega) (by omega)
   have w3:=w64 (n:=worthK b.wh l k + x * y) (by omega) (by omega)
   (repeat ((first | refine Va ?_ | refine Vb ?_ | refine Vc ?_ | refine Vd ?_ | refine Ve ?_ | refine Vf ?_); (try simp only [go_sem,hP,g1,g2,ints,Bx.cds,List.length_map,Int.toNat_natCast,Int.ofNat_lt,hi,hi2,Int.natCast_nonneg,w1,w2,w3]); (repeat refine qJ ?_)))
   refine ⟨k + 1,by omega,by omega,?_⟩
   rw [hs]
   (refine Sub_of (by simp only [go_sem]; ((repeat' (first | exact EnvLe_e0 _ _ | refine EnvLe_upd ?_ ?_)) <;> ((try simp only [upd_app,e0_app,o0_app,Nat.reduceEqDiff,reduceIte]); first | exact AWk.refl _ _ | exact AWk.int (by omega) | exact AWk.int (by rw [w64 (by omega) (by omega)]; omega) | exact AWk.grow rfl | exact AWk.nil _ | exact AWk.of (by simp [ints])))) (by simp only [go_sem]; exact ObjLe_au))
  ·have hi:k = l.length:=by simp at h; omega
   subst hi
   (repeat ((first | refine Va ?_ | refine Vb ?_ | refine Vc ?_ | refine Vd ?_ | refine Ve ?_ | refine Vf ?_); (try simp only [go_sem,hP]); (repeat refine qJ ?_)))
   (refine WV_ret ?_; simp only [thenQ,inQ,RetQ,RetOk,resAll,resA]; simp only [go_sem,tupA,AV.port,AV.portL,exists_eq_left',worth]; (first | exact AVle.of rfl | refine AVle.of ?_ | skip))
theorem bxPt_no {b:Bx} (h:bxB b = false):bxPt b = .c (.raw (.pointer none)):=by unfold bxPt; rw [h]; rfl
theorem bxPt_ok {b:Bx} (h:bxB b = true):bxPt b = .c (.pt b.cds):=by unfold bxPt; rw [if_pos h]
theorem bxE_no {b:Bx} (h:bxB b = false):bxE b = 50:=by unfold bxE; rw [h]; rfl
theorem bxE_ok {b:Bx} (h:bxB b = true):bxE b = 0:=by unfold bxE; rw [if_pos h]
def bagOf (l:List Int):List Int:=[l.getD 0 0,l.getD 1 0,l.getD 2 0,l.getD 3 0]
def bagAv (a:List Int):List AV:=a.map fun n => .c (.int .i64 n)
def addL (a b:List Int):List Int:=List.zipWith (· + ·) a b
def putL (b:Bx):List Int:=addL b.fo b.sl
theorem bag_snoc {n:Int}:∀ {p:List Int},p.length < 4 → (bagAv (bagOf p)).set p.length (.c (.int .i64 n)) = bagAv (bagOf (p ++ [n]))
 | [],_ => rfl
 | [a],_ => rfl
 | [a,b],_ => rfl
 | [a,b,c],_ => rfl
 | a :: b :: c :: d :: p,h => by simp at h; omega
set_option maxHeartbeats 8000000 in
theorem put61 {b:Bx} (hb:BxOk b):FSpec Tryz.prog 72 [.c (.pt b.cds)] (.agg (bagAv (bagOf (putL b)))):=by
 have hcl:=hb.wh.cl
 have hfl:=hb.fl
 have hsl:=hb.sl
 refine FSpec_of c72 (Nat.le_refl _) (by decide) fun C hP hN hC hL => ?_; rw [init_st]
 simp only [ir72]
 (repeat ((first | refine Va ?_ | refine Vb ?_ | refine Vc ?_ | refine Vd ?_ | refine Ve ?_ | refine Vf ?_); (try simp only [go_sem,hP,Bx.cds,ints,List.length_map]); (repeat refine qJ ?_)))
 refine WV_loopK K72_1 [3] (fun k:Nat => k ≤ b.fo.length) (fun k => b.fo.length - k) (fun k => [(12,iv k)]) (fun k => [(3,.box (bagAv (bagOf ((putL b).take k))))]) 0 (by omega) ?_ ?_
 ·exact Sub_au
 ·intro k hk
  (repeat ((first | refine Va ?_ | refine Vb ?_ | refine Vc ?_ | refine Vd ?_ | refine Ve ?_ | refine Vf ?_); (try simp only [go_sem,hP,bagAv,bagOf,List.map_cons,List.map_nil]); (repeat refine qJ ?_)))
  (refine WV_cond rfl (fun h => ?_) (fun h => ?_))
  ·have hi:k < b.fo.length:=by simpa using h
   have hi2:k < b.sl.length:=by omega
   have g1:=ints_get hi
   have g2:=ints_get hi2
   have e1:=getD_in hb.fo hi
   have e2:=getD_in hb.sn hi2
   have hs:(putL b).take (k + 1) = (putL b).take k ++ [b.fo.getD k 0 + b.sl.getD k 0]:=by
    have hp:k < (putL b).length:=by simp [putL,addL]; omega
    rw [List.take_succ_eq_append_getElem hp]
    simp only [putL,addL,List.getElem_zipWith,getD_at hi,getD_at hi2]
   have hlk:((putL b).take k).length = k:=by simp [putL,addL]; omega
   generalize (putL b).take k = p at hs hlk
   generalize b.fo.getD k 0 = x at *
   generalize b.sl.getD k 0 = y at *
   have w1:=w64 (n:=(k:Int) + 1) (by omega) (by omega)
   have w2:=w64 (n:=x + y) (by omega) (by omega)
   have hk4:(k:Int) < 4:=by omega
   (repeat ((first | refine Va ?_ | refine Vb ?_ | refine Vc ?_ | refine Vd ?_ | refine Ve ?_ | refine Vf ?_); (try simp only [go_sem,hP,g1,g2,ints,Bx.cds,List.length_map,Int.toNat_natCast,Int.ofNat_lt,hi,hi2,Int.natCast_nonneg,w1,w2,hk4]); (repeat refine qJ ?_)))
   refine ⟨k + 1,by omega,by omega,?_⟩
   rw [hs]
   have hset:=bag_snoc (p:=p) (n:=x + y) (by omega)
   rw [hlk] at hset
   simp only [bagAv,bagOf,List.map_cons,List.map_nil] at hset
   rw [Nat.mul_one,hset]
   (refine Sub_of (by simp only [go_sem]; ((repeat' (first | exact EnvLe_e0 _ _ | refine EnvLe_upd ?_ ?_)) <;> ((try simp only [upd_app,e0_app,o0_app,Nat.reduceEqDiff,reduceIte]); first | exact AWk.refl _ _ | exact AWk.int (by omega) | exact AWk.int (by rw [w64 (by omega) (by omega)]; omega) | exact AWk.grow rfl | exact AWk.nil _ | exact AWk.of (by simp [ints])))) (by simp only [go_sem]; exact ObjLe_au))
  ·have hi:k = b.fo.length:=by simp at h; omega
   subst hi
   rw [List.take_of_length_le (by simp [putL,addL]; omega)]
   (repeat ((first | refine Va ?_ | refine Vb ?_ | refine Vc ?_ | refine Vd ?_ | refine Ve ?_ | refine Vf ?_); (try simp only [go_sem,hP]); (repeat refine qJ ?_)))
   (refine WV_ret ?_; simp only [thenQ,inQ,RetQ,RetOk,resAll,resA]; simp only [go_sem,tupA,AV.port,AV.portL,exists_eq_left']; (first | exact AVle.of rfl | refine AVle.of ?_ | skip))
end Go.Proofs.YtbclmfjibpppfaaGreat

namespace Go.Proofs.YtbclmfjibpppfaaGreat
open Go Go.V
attribute [local go_sem] Nat.reduceEqDiff Nat.reduceAdd Nat.reduceMul reduceIte Nat.reduceLeDiff Nat.reduceLT Nat.reduceBEq reduceCtorEq
structure Pt where
 pl:Int
 cr:Int
 a:Int
 b:Int
 c:Int
 d:Int
 bo:Int
 deriving DecidableEq
def Pt.l (p:Pt):List Int:=[p.pl,p.cr,p.a,p.b,p.c,p.d,p.bo]
theorem Pt.inj {p q:Pt} (h:p.l = q.l):p = q:=by
 cases p; cases q
 simp only [Pt.l,List.cons.injEq,and_true] at h
 simp only [Pt.mk.injEq]
 exact h
theorem ptLaw:KLaw Tryz.prog 148 (fun v => ∃ l,keyOf Tryz.prog 148 v = some l):=KLaw.wide (deep_law_gate (by kernel_rfl) (Nat.le_of_ble_eq_true (by kernel_rfl)) (Nat.le_of_ble_eq_true (by kernel_rfl)) (by kernel_rfl) (by kernel_rfl))
def i64 (n:Int):Prop:=-9223372036854775808 ≤ n ∧ n ≤ 9223372036854775807
theorem wf64 {n:Int} (h:i64 n):(Lit.int .i64 n).wf = true:=by
 simp only [Lit.wf,Bool.and_eq_true,decide_eq_true_eq]; exact h
set_option maxRecDepth 100000 in
theorem ptKey {p:Pt} (h1:i64 p.pl) (h2:i64 p.cr) (h3:i64 p.a) (h4:i64 p.b) (h5:i64 p.c) (h6:i64 p.d) (h7:i64 p.bo):∃ l,keyOf Tryz.prog 148 (kval true p.l) = some l:=by
 have u3:Tryz.prog.underlying 3 = some (.int .i64):=by kernel_rfl
 have u100:Tryz.prog.underlying 137 = some (.array 4 3):=by kernel_rfl
 have u111:Tryz.prog.underlying 74 = some (.struct (Tryz.prog.fieldsOf 74)):=by kernel_rfl
 have u113:Tryz.prog.underlying 148 = some (.struct (Tryz.prog.fieldsOf 148)):=by kernel_rfl
 have c3:Tryz.prog.cellsOf 3 = 1:=by kernel_rfl
 have c100:Tryz.prog.cellsOf 137 = 4:=by kernel_rfl
 have c111:Tryz.prog.cellsOf 74 = 2:=by kernel_rfl
 have c113:Tryz.prog.cellsOf 148 = 7:=by kernel_rfl
 have k3:∀ (n:Nat) (x:Int),i64 x → Tryz.prog.keyLits (n + 1) 3 [.int .i64 x] = some [.int .i64 x]:=fun n x h => by
  simp [Program.keyLits,u3,wf64 h]
 have k100:∀ (n:Nat),Tryz.prog.keyLits (n + 2) 137 [.int .i64 p.a,.int .i64 p.b,.int .i64 p.c,.int .i64 p.d] = some [.int .i64 p.a,.int .i64 p.b,.int .i64 p.c,.int .i64 p.d]:=fun n => by
  have hr:List.range 4 = [0,1,2,3]:=rfl
  have e:Tryz.prog.keyLits (n + 2) 137 [.int .i64 p.a,.int .i64 p.b,.int .i64 p.c,.int .i64 p.d] = if [Value.int .i64 p.a,.int .i64 p.b,.int .i64 p.c,.int .i64 p.d].length = Tryz.prog.cellsOf 137 then ((List.range 4).mapM fun i => Tryz.prog.keyLits (n + 1) 3 (([Value.int .i64 p.a,.int .i64 p.b,.int .i64 p.c,.int .i64 p.d].drop (i * Tryz.prog.cellsOf 3)).take (Tryz.prog.cellsOf 3))).map List.flatten else none:=by
   conv => lhs; unfold Program.keyLits
   simp only [u100]
  rw [e,c100,c3,if_pos (by rfl),hr]
  simp [k3 n _ h3,k3 n _ h4,k3 n _ h5,k3 n _ h6]
 have k111:∀ (n:Nat),Tryz.prog.keyLits (n + 2) 74 [.int .i64 p.pl,.int .i64 p.cr] = some [.int .i64 p.pl,.int .i64 p.cr]:=fun n => by
  have hf:((Tryz.prog.fieldsOf 74).toList.map fun f => (f.type,f.offset)) = [(3,0),(3,1)]:=by kernel_rfl
  have hb:(Tryz.prog.fieldsOf 74).all (·.name != "_") = true:=by kernel_rfl
  have e:Tryz.prog.keyLits (n + 2) 74 [.int .i64 p.pl,.int .i64 p.cr] = (((Tryz.prog.fieldsOf 74).toList.map fun f => (f.type,f.offset)).mapM fun q => Tryz.prog.keyLits (n + 1) q.1 (([Value.int .i64 p.pl,.int .i64 p.cr].drop q.2).take (Tryz.prog.cellsOf q.1))).map List.flatten:=by
   conv => lhs; unfold Program.keyLits
   simp only [u111]
   rw [if_pos ⟨by rw [c111]; rfl,hb⟩,List.mapM_map]
   rfl
  rw [e,hf]
  simp [c3,k3 n _ h1,k3 n _ h2]
 have k113:∀ (n:Nat),Tryz.prog.keyLits (n + 3) 148 [.int .i64 p.pl,.int .i64 p.cr,.int .i64 p.a,.int .i64 p.b,.int .i64 p.c,.int .i64 p.d,.int .i64 p.bo] = some [.int .i64 p.pl,.int .i64 p.cr,.int .i64 p.a,.int .i64 p.b,.int .i64 p.c,.int .i64 p.d,.int .i64 p.bo]:=fun n => by
  have hf:((Tryz.prog.fieldsOf 148).toList.map fun f => (f.type,f.offset)) = [(74,0),(137,2),(3,6)]:=by kernel_rfl
  have hb:(Tryz.prog.fieldsOf 148).all (·.name != "_") = true:=by kernel_rfl
  have e:Tryz.prog.keyLits (n + 3) 148 [.int .i64 p.pl,.int .i64 p.cr,.int .i64 p.a,.int .i64 p.b,.int .i64 p.c,.int .i64 p.d,.int .i64 p.bo] = (((Tryz.prog.fieldsOf 148).toList.map fun f => (f.type,f.offset)).mapM fun q => Tryz.prog.keyLits (n + 2) q.1 (([Value.int .i64 p.pl,.int .i64 p.cr,.int .i64 p.a,.int .i64 p.b,.int .i64 p.c,.int .i64 p.d,.int .i64 p.bo].drop q.2).take (Tryz.prog.cellsOf q.1))).map List.flatten:=by
   conv => lhs; unfold Program.keyLits
   simp only [u113]
   rw [if_pos ⟨by rw [c113]; rfl,hb⟩,List.mapM_map]
   rfl
  rw [e,hf]
  simp [c3,c100,c111,k3 (n + 1) _ h7,k100 n,k111 n]
 have ht:Tryz.prog.keyType 148 = true:=by kernel_rfl
 have hsz:3 ≤ Tryz.prog.types.size + 1:=Nat.le_of_ble_eq_true (by kernel_rfl)
 obtain ⟨n,hn⟩ : ∃ n,Tryz.prog.types.size + 1 = n + 3:=⟨Tryz.prog.types.size + 1 - 3,by omega⟩
 have hk:=k113 n
 rw [← hn] at hk
 have hfo:(kval true p.l).formed Tryz.prog 148 = true:=by
  simp only [kval,if_true,Value.formed,u113,c113]
  rfl
 have key:keyOf Tryz.prog 148 (kval true p.l) = ((Tryz.prog.keyLits (Tryz.prog.types.size + 1) 148 (kval true p.l).cells.toList).map fun ls => Lit.string (keyBytes ls)):=by
  unfold keyOf
  rw [u113]
  simp only [ht,hfo,Bool.and_self,if_true]
 have hc:(kval true p.l).cells.toList = [.int .i64 p.pl,.int .i64 p.cr,.int .i64 p.a,.int .i64 p.b,.int .i64 p.c,.int .i64 p.d,.int .i64 p.bo]:=rfl
 rw [hc,hk] at key
 exact ⟨_,key⟩
end Go.Proofs.YtbclmfjibpppfaaGreat

namespace Go.Proofs.YtbclmfjibpppfaaGreat
open Go Go.V
abbrev o81_0:List Ins:=[JS 1 (.box 4 (.t 0)),JS 2 (Ji 0)]
abbrev o81_1:List Ins:=[JS 3 (Ji 0)]
abbrev o81_2:List Ins:=[JS 6 (JL 4 1),JS 7 (Ji 0)]
abbrev o81_3:List Ins:=[JS 8 (Jk .lss 7 4)]
abbrev o81_4:List Ins:=[JS 9 (.raw (.index 137 (.tmp 6) (.tmp 7))),JS 5 (Jm 9)]
abbrev o81_5:List Ins:=[JS 10 (Jm 3),JS 11 (Jm 5),JS 12 (Jb .add 10 11),JS 3 (Jm 12)]
abbrev v81_6:VC:=(.seq (.ops o81_4) (.ops o81_5))
abbrev o81_7:List Ins:=[JS 13 (Jk .add 7 1),JS 7 (Jm 13)]
abbrev v81_8:VC:=(.seq (.block 1 v81_6) (.ops o81_7))
abbrev v81_9:VC:=(.seq (.cond (.t 8) .skip (.exit 0)) v81_8)
abbrev v81_10:VC:=(.seq (.ops o81_3) v81_9)
-- K81_1: changed and kept: [7,3]
abbrev v81_11:VC:=(.loop v81_10)
abbrev v81_12:VC:=(.block 0 v81_11)
abbrev o81_13:List Ins:=[JS 14 (Jm 3),JS 2 (Jm 14)]
abbrev v81_14:VC:=(.seq (.ops o81_13) .ret)
abbrev v81_15:VC:=(.seq (.seq (.ops o81_2) v81_12) v81_14)
abbrev v81_16:VC:=(.seq (.ops o81_1) v81_15)
def ir81:FC:=⟨1,15,[.t 2],(.seq (.ops o81_0) v81_16)⟩
abbrev o80_0:List Ins:=[JS 7 (.box 7 (.t 1))]
abbrev o80_1:List Ins:=[JF 10 (Jf 0 7),JF 11 (Jf 1 10),JF 12 (Jl 11),JF 13 (JL 4 2),JF 14 (Jc 81 [.t 13]),JF 15 (Jf 2 7),JF 16 (JL 4 15),JF 17 (Jc 81 [.t 16]),JF 18 (Jb .sub 14 17),JS 19 (.mm false (.t 12) (.t 18)),JS 20 (Jf 0 7),JS 21 (Jf 1 20),JN (Js 1 21 19)]
abbrev o80_2:List Ins:=[JS 23 (Jl 3),JS 24 (JL 7 7),JS 25 (.raw (.lookup 139 (.tmp 23) (.tmp 24) true)),JS 22 (Jm 25),JS 26 (Je 22 0),JS 27 (Je 22 1),JS 8 (.alloc [Jz 0,Jz 0,Jz 0,Jz 0,Jz 0,Jz 0,Jz 0,Jz 0]),JN (Js 8 8 26),JS 9 (Jm 27)]
abbrev o80_3:List Ins:=[JS 28 (Jm 9),JS 29 (.un .not (.t 28))]
abbrev o80_4:List Ins:=[JS 30 (Jl 3),JS 31 (JL 7 7),JS 32 (Jm 0),JS 33 (JL 7 4),JS 34 (.bld [Jz 0,Jz 0,Jz 0,Jz 0,Jz 0,Jz 0,Jz 0,Jz 0] [(0,1,(.t 32)),(1,7,(.t 33))]),JN (.raw (.mapUpdate 139 (.tmp 30) (.tmp 31) (.tmp 34)))]
abbrev o80_5:List Ins:=[JS 35 (Jl 5),JS 36 (JL 7 7),JS 37 (.bsl 148 7 [.t 36]),JS 38 (.app 148 7 56 (.t 35) (.t 37)),JN (Js 1 5 38)]
abbrev v80_6:VC:=(.seq (.ops o80_4) (.ops o80_5))
abbrev v80_7:VC:=(.cond (.t 29) v80_6 .skip)
abbrev v80_8:VC:=(.seq (.ops o80_3) v80_7)
abbrev v80_9:VC:=(.seq (.ops o80_2) v80_8)
abbrev v80_10:VC:=(.seq (.dops o80_1) v80_9)
def ir80:FC:=⟨6,39,[],(.seq (.ops o80_0) v80_10)⟩
theorem c81:compM Tryz.prog [] 81 = some ir81:=by kernel_rfl
theorem c80:compM Tryz.prog [] 80 = some ir80:=by kernel_rfl
attribute [local go_sem] Nat.reduceEqDiff Nat.reduceAdd Nat.reduceMul reduceIte Nat.reduceLeDiff Nat.reduceLT Nat.reduceBEq reduceCtorEq
structure Bag where
 a:Int
 b:Int
 c:Int
 d:Int
 deriving DecidableEq
def Bag.l (x:Bag):List Int:=[x.a,x.b,x.c,x.d]
def Bag.many (x:Bag):Int:=x.a + x.b + x.c + x.d
structure BagOk (x:Bag):Prop where
 a:0 ≤ x.a ∧ x.a ≤ 14
 b:0 ≤ x.b ∧ x.b ≤ 14
 c:0 ≤ x.c ∧ x.c ≤ 14
 d:0 ≤ x.d ∧ x.d ≤ 14
 m:x.a + x.b + x.c + x.d ≤ 14
def Pt.bag (p:Pt):Bag:=⟨p.a,p.b,p.c,p.d⟩
theorem many68 {x:Bag} (hx:BagOk x):FSpec Tryz.prog 81 [.agg (bagAv x.l)] (iv x.many):=by
 obtain ⟨h1,h2,h3,h4,h5⟩:=hx
 refine FSpec_of c81 (Nat.le_refl _) (by decide) fun C hP hN hC hL => ?_; rw [init_st]
 simp only [ir81,bagAv,Bag.l,List.map_cons,List.map_nil]
 (repeat ((first | refine Va ?_ | refine Vb ?_ | refine Vc ?_ | refine Vd ?_ | refine Ve ?_ | refine Vf ?_); (try simp only [go_sem,hP]); (repeat refine qJ ?_)))
 refine WV_loopK [6] [] (fun k:Nat => k ≤ 4) (fun k => 4 - k) (fun k => [(7,iv k),(3,iv ((x.l.take k).sum))]) (fun _ => []) 0 (by omega) ?_ ?_
 ·(refine Sub_of (by simp only [go_sem]; ((repeat' (first | exact EnvLe_e0 _ _ | refine EnvLe_upd ?_ ?_)) <;> ((try simp only [upd_app,e0_app,o0_app,Nat.reduceEqDiff,reduceIte]); first | exact AWk.refl _ _ | exact AWk.int (by omega) | exact AWk.int (by rw [w64 (by omega) (by omega)]; omega) | exact AWk.grow rfl | exact AWk.nil _ | exact AWk.of (by simp [Bag.l])))) (by simp only [go_sem]; exact ObjLe_au))
 ·intro k hk
  (repeat ((first | refine Va ?_ | refine Vb ?_ | refine Vc ?_ | refine Vd ?_ | refine Ve ?_ | refine Vf ?_); (try simp only [go_sem,hP]); (repeat refine qJ ?_)))
  (refine WV_cond rfl (fun h => ?_) (fun h => ?_))
  ·have hi:k < 4:=by simp at h; omega
   obtain ⟨v,hv⟩ : ∃ v,x.l[k]? = some v:=⟨_,List.getElem?_eq_getElem hi⟩
   have hc:[AV.c (.int .i64 x.a),.c (.int .i64 x.b),.c (.int .i64 x.c),.c (.int .i64 x.d)][((k:Int)).toNat]? = some (.c (.int .i64 v)):=by
    have:=congrArg (Option.map fun n => AV.c (.int .i64 n)) hv
    rwa [← List.getElem?_map] at this
   have hs:(x.l.take (k + 1)).sum = (x.l.take k).sum + v:=by rw [List.take_add_one,hv,List.sum_append]; simp
   have hb:0 ≤ (x.l.take k).sum ∧ (x.l.take k).sum ≤ 42 ∧ 0 ≤ v ∧ v ≤ 14:=by
    have:k = 0 ∨ k = 1 ∨ k = 2 ∨ k = 3:=by omega
    rcases this with rfl | rfl | rfl | rfl <;> simp [Bag.l] at hv ⊢ <;> omega
   generalize (x.l.take k).sum = s at hs hb
   have w1:=w64 (n:=(k:Int) + 1) (by omega) (by omega)
   have w2:=w64 (n:=s + v) (by omega) (by omega)
   refine WV_skip ?_
   simp only [thenQ_normal]
   refine WV_seq_ (WV_block (WV_seq_ ?_))
   (refine WV_op ?_; simp only [go_sem,hP]; (repeat refine qJ ?_))
   refine raw_idx1 (e:=3) (n:=4) (x':=.t 6) (i':=.t 7) (k:=.i64) (j:=k) (by kernel_rfl) (by kernel_rfl) (by kernel_rfl) rfl rfl rfl rfl rfl rfl (by omega) hc ?_
   simp only [go_sem,hP]
   (repeat ((first | refine Va ?_ | refine Vb ?_ | refine Vc ?_ | refine Vd ?_ | refine Ve ?_ | refine Vf ?_); (try simp only [go_sem,hP,w1,w2]); (repeat refine qJ ?_)))
   refine ⟨k + 1,by omega,by omega,?_⟩
   rw [hs]
   exact Sub_au
  ·have hi:k = 4:=by simp at h; omega
   subst hi
   (repeat ((first | refine Va ?_ | refine Vb ?_ | refine Vc ?_ | refine Vd ?_ | refine Ve ?_ | refine Vf ?_); (try simp only [go_sem,hP]); (repeat refine qJ ?_)))
   (refine WV_ret ?_; simp only [thenQ,inQ,RetQ,RetOk,resAll,resA]; simp only [go_sem,tupA,AV.port,AV.portL,exists_eq_left',Bag.l,Bag.many]; (first | exact AVle.of rfl | refine AVle.of ?_ | skip))
   simp [Bag.l,Bag.many]; omega
def trim (A:Bag) (y:Pt):Pt:={ y with cr:=min y.cr (A.many - y.bag.many) }
abbrev Seen:=List (Pt × Int × Pt)
def gl (S:Seen):GL:=S.map fun e => (e.1.l,e.2.1 :: e.2.2.l)
def sks (S:Seen):List Pt:=S.map (·.1)
theorem glook_gl (S:Seen) (p:Pt):glook (gl S) p.l = (S.find? fun e => e.1 = p).map fun e => e.2.1 :: e.2.2.l:=by
 unfold glook gl
 rw [List.find?_map,Option.map_map]
 have:((fun q:List Int × List Int => q.1 == p.l) ∘ fun e:Pt × Int × Pt => (e.1.l,e.2.1 :: e.2.2.l)) = fun e => decide (e.1 = p):=by
  funext e
  simp only [Function.comp_apply]
  rw [Bool.eq_iff_iff]
  simp only [beq_iff_eq,decide_eq_true_eq]
  exact ⟨fun h => Pt.inj h,fun h => by rw [h]⟩
 rw [this]; rfl
theorem glook_is (S:Seen) (p:Pt):(glook (gl S) p.l).isSome = decide (p ∈ sks S):=by
 rw [glook_gl,Option.isSome_map,Bool.eq_iff_iff,List.find?_isSome,decide_eq_true_eq]
 simp only [sks,List.mem_map,decide_eq_true_eq]
theorem gput_gl {S:Seen} {p:Pt} (h:p ∉ sks S) (act:Int) (x:Pt):gput (gl S) p.l (act :: x.l) = gl (S ++ [(p,act,x)]):=by
 have h0:glook (gl S) p.l = none:=by
  have:=glook_is S p
  rw [decide_eq_false h] at this
  cases hg:glook (gl S) p.l with
  | none => rfl
  | some v => rw [hg] at this; cases this
 rw [gput_new h0]
 simp [gl]
def addS (A:Bag) (act:Int) (x:Pt) (s:Seen × List Pt) (y:Pt):Seen × List Pt:=if trim A y ∈ sks s.1 then s else (s.1 ++ [(trim A y,act,x)],s.2 ++ [trim A y])
structure PtOk (R:Int) (A:Bag) (p:Pt):Prop where
 pl:0 ≤ p.pl ∧ p.pl < R
 cr:0 ≤ p.cr ∧ p.cr ≤ 2000
 a:0 ≤ p.a ∧ p.a ≤ A.a
 b:0 ≤ p.b ∧ p.b ≤ A.b
 c:0 ≤ p.c ∧ p.c ≤ A.c
 d:0 ≤ p.d ∧ p.d ≤ A.d
 bo:0 ≤ p.bo ∧ p.bo ≤ 112 * p.bag.many
theorem PtOk.key {R:Int} {A:Bag} (hA:BagOk A) (hR:R ≤ 200) {p:Pt} (h:PtOk R A p):∃ l,keyOf Tryz.prog 148 (kval true p.l) = some l:=by
 obtain ⟨a1,a2,a3,a4,a5⟩:=hA
 obtain ⟨h1,h2,h3,h4,h5,h6,h7⟩:=h
 simp only [Pt.bag,Bag.many] at h7
 refine ptKey ⟨?_,?_⟩ ⟨?_,?_⟩ ⟨?_,?_⟩ ⟨?_,?_⟩ ⟨?_,?_⟩ ⟨?_,?_⟩ ⟨?_,?_⟩ <;> omega
theorem PtOk.trim {R:Int} {A:Bag} {p:Pt} (h:PtOk R A p):PtOk R A (trim A p):=by
 obtain ⟨h1,h2,h3,h4,h5,h6,h7⟩:=h
 refine ⟨h1,?_,h3,h4,h5,h6,h7⟩
 show 0 ≤ min p.cr (A.many - p.bag.many) ∧ min p.cr (A.many - p.bag.many) ≤ 2000
 simp only [Pt.bag,Bag.many]
 omega
def qls (q:List Pt):List (List Int):=q.map Pt.l
def SOk (R:Int) (A:Bag) (S:Seen):Prop:=∀ e ∈ S,PtOk R A e.1
theorem qls_len (q:List Pt):∀ y ∈ qls q,y.length = 7:=fun y hy => by
 obtain ⟨p,_,rfl⟩:=List.mem_map.1 hy; rfl
theorem ql1 (z:Pt):∀ y ∈ [z.l],y.length = 7:=qls_len [z]
theorem gl_keys {R:Int} {A:Bag} (hA:BagOk A) (hR:R ≤ 200) {S:Seen} (hS:SOk R A S):∀ p ∈ gl S,∃ l,keyOf Tryz.prog 148 (kval true p.1) = some l:=fun p hp => by
 obtain ⟨e,he,rfl⟩:=List.mem_map.1 hp
 exact (hS e he).key hA hR
set_option maxHeartbeats 8000000 in
set_option maxRecDepth 20000 in
theorem add67 {R:Int} {A:Bag} (hA:BagOk A) (hR:R ≤ 200) (act:Int) {y:Pt} (hy:PtOk R A y) (x:Pt) {S:Seen} (hS:SOk R A S) {q:List Pt} (bm bq off cap:Nat) (h1:q.length + 1 ≤ maxLen) (h2:(q.length + 1) * 56 ≤ 140737488355328) :
  FSpecL Tryz.prog 80 [iv act,kav true y.l,.bp 1000 0,.bp 1001 0,.bp 1002 0,.bp 1003 0] [.box (bagAv A.l),.box [.c (.raw (.map (some bm)))],.box (bagAv x.l),.box [qv bq off q.length cap],gmap true true (gl S) bm,qO 148 7 (qls q) bq off cap] []
   (fun r l' => r = .tup [] ∧ ∃ bq' off' cap',l' = [.box (bagAv A.l),.box [.c (.raw (.map (some bm)))],.box (bagAv x.l),.box [qv bq' off' (addS A act x (S,q) y).2.length cap'],gmap true true (gl (addS A act x (S,q) y).1) bm,qO 148 7 (qls (addS A act x (S,q) y).2) bq' off' cap']):=by
 refine FSpecL_of c80 (by first | simp | exact Nat.le_of_ble_eq_true rfl) (Nat.le_refl _) (by decide) (by decide) fun C hP hN hC hL => ?_; rw [init_env',ownW_upd (by first | simp | exact Nat.le_of_ble_eq_true rfl)]; simp only [ir80,updL,updLo,List.map_nil,List.map_cons,Nat.reduceAdd,]
 simp only [kav,if_true,Pt.l,bagAv,Bag.l,List.map_cons,List.map_nil]
 (repeat ((first | refine Va ?_ | refine Vb ?_ | refine Vc ?_ | refine Vd ?_ | refine Ve ?_ | refine Vf ?_); (try simp only [go_sem,hP]); (repeat refine qJ ?_)))
 have hyb:BagOk y.bag:=by
  obtain ⟨a1,a2,a3,a4,a5⟩:=hA
  obtain ⟨_,_,h3,h4,h5,h6,_⟩:=hy
  exact ⟨⟨h3.1,by simp only [Pt.bag]; omega⟩,⟨h4.1,by simp only [Pt.bag]; omega⟩,⟨h5.1,by simp only [Pt.bag]; omega⟩,⟨h6.1,by simp only [Pt.bag]; omega⟩,by simp only [Pt.bag]; omega⟩
 have w1:IntKind.i64.wrap (A.many - y.bag.many) = A.many - y.bag.many:=by
  obtain ⟨a1,a2,a3,a4,a5⟩:=hA
  obtain ⟨b1,b2,b3,b4,b5⟩:=hyb
  exact w64 (by simp only [Bag.many]; omega) (by simp only [Bag.many]; omega)
 (refine ACall_of (many68 hA) rfl rfl rfl rfl rfl ?_; simp only [go_sem,hP,w1]; (repeat refine qJ ?_); (repeat ((first | refine Va ?_ | refine Vb ?_ | refine Vc ?_ | refine Vd ?_ | refine Ve ?_ | refine Vf ?_); (try simp only [go_sem,hP,w1]); (repeat refine qJ ?_))))
 (refine ACall_of (many68 hyb) rfl rfl rfl rfl rfl ?_; simp only [go_sem,hP,w1]; (repeat refine qJ ?_); (repeat ((first | refine Va ?_ | refine Vb ?_ | refine Vc ?_ | refine Vd ?_ | refine Ve ?_ | refine Vf ?_); (try simp only [go_sem,hP,w1]); (repeat refine qJ ?_))))
 have hk:=hy.trim.key hA hR
 obtain ⟨z,hz⟩ : ∃ z,z = trim A y:=⟨_,rfl⟩
 rw [← hz] at hk
 refine raw_lookG (ka:=true) (va:=true) (n:=1004) (b:=bm) (l:=gl S) (key:=z.l) (zs:=[0,0,0,0,0,0,0,0]) (k:=148) (e:=150) (x':=.t 23) (i':=.t 24) (by kernel_rfl) ptLaw (by kernel_rfl) rfl rfl rfl rfl rfl (by rw [hz]; rfl) rfl hk (gl_keys hA hR hS) (fun p _ h => kval_inj h) ?_
 rw [glook_is]
 obtain ⟨ys,hys,hyl⟩ : ∃ ys:List Int,ys = (glook (gl S) z.l).getD [0,0,0,0,0,0,0,0] ∧ ys.length = 8:=by
  refine ⟨_,rfl,?_⟩
  rw [glook_gl]
  cases S.find? fun e => decide (e.1 = z) <;> rfl
 rw [← hys]
 obtain ⟨y0,y1,y2,y3,y4,y5,y6,y7,rfl⟩ : ∃ y0 y1 y2 y3 y4 y5 y6 y7,ys = [y0,y1,y2,y3,y4,y5,y6,y7]:=by
  match ys,hyl with
  | [y0,y1,y2,y3,y4,y5,y6,y7],_ => exact ⟨_,_,_,_,_,_,_,_,rfl⟩
 clear hys hyl
 simp only [go_sem,hP,kav,if_true]
 (repeat ((first | refine Va ?_ | refine Vb ?_ | refine Vc ?_ | refine Vd ?_ | refine Ve ?_ | refine Vf ?_); (try simp only [go_sem,hP]); (repeat refine qJ ?_)))
 by_cases hin:z ∈ sks S
 ·have hd:decide (z ∈ sks S) = true:=decide_eq_true hin
  have he:addS A act x (S,q) y = (S,q):=by unfold addS; rw [← hz]; rw [if_pos hin]
  rw [he]
  (refine WV_cond rfl (fun h => ?_) (fun h => ?_))
  ·rw [hd] at h; simp at h
  ·(repeat ((first | refine Va ?_ | refine Vb ?_ | refine Vc ?_ | refine Vd ?_ | refine Ve ?_ | refine Vf ?_); (try simp only [go_sem,hP]); (repeat refine qJ ?_)))
   ((try simp only [thenQ,inQ,RetQL,RetOkL,resAll,resA]); (try simp only [go_sem,tupA,AV.keepP,AV.keepPL]); refine ⟨_,[.box (bagAv A.l),.box [.c (.raw (.map (some bm)))],.box (bagAv x.l),.box [qv bq off q.length cap],gmap true true (gl S) bm,qO 148 7 (qls q) bq off cap],rfl,KeepL_mk rfl rfl ?_ ?_ rfl,?_⟩)
   ·simp only [go_sem,keepAll,Ob.keepP,AV.keepP,AV.keepPL,bagAv,Bag.l,Pt.l]
   ·trivial
   ·exact ⟨rfl,_,_,_,rfl⟩
 ·have hd:decide (z ∈ sks S) = false:=decide_eq_false hin
  have he:addS A act x (S,q) y = (S ++ [(z,act,x)],q ++ [z]):=by unfold addS; rw [← hz]; rw [if_neg hin]
  rw [he]
  (refine WV_cond rfl (fun h => ?_) (fun h => ?_))
  ·(repeat ((first | refine Va ?_ | refine Vb ?_ | refine Vc ?_ | refine Vd ?_ | refine Ve ?_ | refine Vf ?_); (try simp only [go_sem,hP]); (repeat refine qJ ?_)))
   refine raw_putG (ka:=true) (va:=true) (n:=1004) (b:=bm) (l:=gl S) (key:=z.l) (val:=act :: x.l) (k:=148) (e:=150) (x':=.t 30) (i':=.t 31) (v':=.t 34) (.inl rfl) (by kernel_rfl) ptLaw rfl rfl rfl rfl rfl rfl rfl (by rw [hz]; rfl) rfl rfl hk (gl_keys hA hR hS) (fun p _ h => kval_inj h) ?_
   rw [gput_gl hin]
   simp only [go_sem,hP]
   (repeat ((first | refine Va ?_ | refine Vb ?_ | refine Vc ?_ | refine Vd ?_ | refine Ve ?_ | refine Vf ?_); (try simp only [go_sem,hP]); (repeat refine qJ ?_)))
   refine raw_qapp (n:=1005) (b:=bq) (off:=off) (cap:=cap) (m:=q.length) (xs:=qls q) (ys:=[z.l]) rfl rfl rfl (List.length_map ..) (by rw [hz]; rfl) rfl (ql1 z) h1 h2 ?_
   intro bq' off' cap'
   rw [show qls q ++ [z.l] = qls (q ++ [z]) by simp [qls]]
   simp only [go_sem,hP]
   ((try simp only [thenQ,inQ,RetQL,RetOkL,resAll,resA]); (try simp only [go_sem,tupA,AV.keepP,AV.keepPL]); refine ⟨_,[.box (bagAv A.l),.box [.c (.raw (.map (some bm)))],.box (bagAv x.l),.box [qv bq' off' (q.length + 1) cap'],gmap true true (gl (S ++ [(z,act,x)])) bm,qO 148 7 (qls (q ++ [z])) bq' off' cap'],rfl,KeepL_mk rfl rfl ?_ ?_ rfl,?_⟩)
   ·simp only [go_sem,keepAll,Ob.keepP,AV.keepP,AV.keepPL,bagAv,Bag.l,Pt.l]
   ·trivial
   ·exact ⟨rfl,_,_,_,rfl⟩
  ·rw [hd] at h; simp at h
end Go.Proofs.YtbclmfjibpppfaaGreat

/-
 The walk over all points,plain.
-/
namespace Go.Proofs.YtbclmfjibpppfaaGreat
open Go Go.V
theorem nodup_lt:∀ (n:Nat) (l:List Nat),l.Nodup → (∀ x ∈ l,x < n) → l.length ≤ n
 | 0,l,_,h => by
  cases l with
  | nil => simp
  | cons x l => have:=h x (by simp); omega
 | n + 1,l,hn,h => by
  have h1:=nodup_lt n (l.erase n) (hn.erase n) fun x hx => by
   have h2:=h x (List.mem_of_mem_erase hx)
   have h3:x ≠ n:=fun e => by subst e; exact (List.Nodup.not_mem_erase hn) hx
   omega
  rw [List.length_erase] at h1
  split at h1 <;> omega
def Pt.code (p:Pt):Nat:=(((((p.pl.toNat * 15 + p.cr.toNat) * 15 + p.a.toNat) * 15 + p.b.toNat) * 15 + p.c.toNat) * 15 + p.d.toNat) * 1569 + p.bo.toNat
def PtIn (R:Int) (A:Bag) (p:Pt):Prop:=PtOk R A p ∧ p.cr ≤ 14
theorem PtIn.code_lt {R:Int} {A:Bag} (hA:BagOk A) (hR:R ≤ 200) {p:Pt} (h:PtIn R A p):p.code < 238291875000:=by
 obtain ⟨a1,a2,a3,a4,a5⟩:=hA
 obtain ⟨⟨h1,h2,h3,h4,h5,h6,h7⟩,h8⟩:=h
 simp only [Pt.bag,Bag.many] at h7
 unfold Pt.code
 have e1:p.pl.toNat * 15 + p.cr.toNat < 3000:=by omega
 generalize p.pl.toNat * 15 + p.cr.toNat = u1 at e1 ⊢
 have e2:u1 * 15 + p.a.toNat < 45000:=by omega
 generalize u1 * 15 + p.a.toNat = u2 at e2 ⊢
 have e3:u2 * 15 + p.b.toNat < 675000:=by omega
 generalize u2 * 15 + p.b.toNat = u3 at e3 ⊢
 have e4:u3 * 15 + p.c.toNat < 10125000:=by omega
 generalize u3 * 15 + p.c.toNat = u4 at e4 ⊢
 have e5:u4 * 15 + p.d.toNat < 151875000:=by omega
 generalize u4 * 15 + p.d.toNat = u5 at e5 ⊢
 omega
theorem rad {n u v a b:Nat} (ha:a < n) (hb:b < n) (h:u * n + a = v * n + b):u = v ∧ a = b:=by
 have h1:(u * n + a) / n = u:=by rw [Nat.add_comm,Nat.add_mul_div_right _ _ (by omega),Nat.div_eq_of_lt ha]; omega
 have h2:(v * n + b) / n = v:=by rw [Nat.add_comm,Nat.add_mul_div_right _ _ (by omega),Nat.div_eq_of_lt hb]; omega
 have h3:u = v:=by rw [← h1,h,h2]
 subst h3
 exact ⟨rfl,by omega⟩
theorem code_inj {R:Int} {A:Bag} (hA:BagOk A) {p q:Pt} (hp:PtIn R A p) (hq:PtIn R A q) (h:p.code = q.code):p = q:=by
 obtain ⟨a1,a2,a3,a4,a5⟩:=hA
 obtain ⟨⟨h1,h2,h3,h4,h5,h6,h7⟩,h8⟩:=hp
 obtain ⟨⟨k1,k2,k3,k4,k5,k6,k7⟩,k8⟩:=hq
 simp only [Pt.bag,Bag.many] at h7 k7
 have m1:p.bo.toNat < 1569 ∧ q.bo.toNat < 1569:=⟨by omega,by omega⟩
 have m2:p.d.toNat < 15 ∧ q.d.toNat < 15:=⟨by omega,by omega⟩
 have m3:p.c.toNat < 15 ∧ q.c.toNat < 15:=⟨by omega,by omega⟩
 have m4:p.b.toNat < 15 ∧ q.b.toNat < 15:=⟨by omega,by omega⟩
 have m5:p.a.toNat < 15 ∧ q.a.toNat < 15:=⟨by omega,by omega⟩
 have m6:p.cr.toNat < 15 ∧ q.cr.toNat < 15:=⟨by omega,by omega⟩
 rw [Pt.code,Pt.code] at h
 obtain ⟨c5,d1⟩:=rad m1.1 m1.2 h
 obtain ⟨c4,d2⟩:=rad m2.1 m2.2 c5
 obtain ⟨c3,d3⟩:=rad m3.1 m3.2 c4
 obtain ⟨c2,d4⟩:=rad m4.1 m4.2 c3
 obtain ⟨c1,d5⟩:=rad m5.1 m5.2 c2
 obtain ⟨c0,d6⟩:=rad m6.1 m6.2 c1
 have tn:∀ {x y:Int},0 ≤ x → 0 ≤ y → x.toNat = y.toNat → x = y:=fun {x y} hx hy e => by rw [← Int.toNat_of_nonneg hx,← Int.toNat_of_nonneg hy,e]
 have e1:=tn h1.1 k1.1 c0
 have e2:=tn h2.1 k2.1 d6
 have e3:=tn h3.1 k3.1 d5
 have e4:=tn h4.1 k4.1 d4
 have e5:=tn h5.1 k5.1 d3
 have e6:=tn h6.1 k6.1 d2
 have e7:=tn h7.1 k7.1 d1
 cases p; cases q
 simp only at e1 e2 e3 e4 e5 e6 e7
 subst e1 e2 e3 e4 e5 e6 e7
 rfl
def Bag.at (x:Bag) (k:Nat):Int:=x.l.getD k 0
def Bag.inc (x:Bag):Nat → Bag
 | 0 => { x with a:=x.a + 1 }
 | 1 => { x with b:=x.b + 1 }
 | 2 => { x with c:=x.c + 1 }
 | 3 => { x with d:=x.d + 1 }
 | _ => x
def Pt.with (p:Pt) (pl cr:Int) (x:Bag) (bo:Int):Pt:=⟨pl,cr,x.a,x.b,x.c,x.d,bo⟩
def selN (x:Pt):List (Int × Pt):=if 0 < x.cr ∧ 0 < x.pl then [(-1,x.with 0 (x.cr - 1) x.bag x.bo)] else []
def coinN (w:Wh) (A:Bag) (x:Pt) (k:Nat):List (Int × Pt) :=
 if x.bag.at k = A.at k then [] else [((k:Int),x.with ((x.pl + w.co.getD k 0) % w.ro) (x.cr + plays w x.pl (w.co.getD k 0)) (x.bag.inc k) (x.bo + plays w x.pl (w.co.getD k 0)))]
def coinsN (w:Wh) (A:Bag) (x:Pt) (n:Nat):List (Int × Pt):=(List.range n).flatMap (coinN w A x)
def addAll (A:Bag) (x:Pt) (l:List (Int × Pt)) (s:Seen × List Pt):Seen × List Pt:=l.foldl (fun s e => addS A e.1 x s e.2) s
def expand (w:Wh) (A:Bag) (x:Pt) (s:Seen × List Pt):Seen × List Pt:=addAll A x (coinsN w A x w.co.length) (addAll A x (selN x) s)
def bfs (w:Wh) (A:Bag):Nat → Seen × List Pt → Seen
 | 0,s => s.1
 | n + 1,s => match s.2 with | [] => s.1 | x :: q => bfs w A n (expand w A x (s.1,q))
def p00:Pt:=⟨0,0,0,0,0,0,0⟩
def walkS (w:Wh) (A:Bag):Seen:=bfs w A 476583750002 ([(p00,-2,p00)],[p00])
theorem bfs_nil (w:Wh) (A:Bag) (n:Nat) (S:Seen):bfs w A n (S,[]) = S:=by cases n <;> rfl
structure SeenOk (R:Int) (A:Bag) (s:Seen × List Pt):Prop where
 inn:∀ e ∈ s.1,PtIn R A e.1
 nd:(sks s.1).Nodup
 sub:∀ x ∈ s.2,x ∈ sks s.1
 qn:s.2.Nodup
theorem SeenOk.len {R:Int} {A:Bag} (hA:BagOk A) (hR:R ≤ 200) {s:Seen × List Pt} (h:SeenOk R A s):s.1.length ≤ 238291875000 ∧ s.2.length ≤ 238291875000:=by
 have key:∀ l:List Pt,l.Nodup → (∀ x ∈ l,PtIn R A x) → l.length ≤ 238291875000:=fun l hn hl => by
  have h1:=nodup_lt 238291875000 (l.map Pt.code) ?_ ?_
  ·simpa using h1
  ·rw [List.nodup_iff_pairwise_ne] at hn ⊢
   rw [List.pairwise_map]
   exact (List.Pairwise.imp_of_mem (fun {a b} ha hb hab hc => hab (code_inj hA (hl a ha) (hl b hb) hc)) hn)
  ·intro c hc
   obtain ⟨p,hp,rfl⟩:=List.mem_map.1 hc
   exact (hl p hp).code_lt hA hR
 have hin:∀ x ∈ sks s.1,PtIn R A x:=fun x hx => by
  obtain ⟨e,he,rfl⟩:=List.mem_map.1 hx
  exact h.inn e he
 refine ⟨?_,key _ h.qn fun x hx => hin x (h.sub x hx)⟩
 have:=key (sks s.1) h.nd hin
 simpa [sks] using this
theorem trim_in {R:Int} {A:Bag} (hA:BagOk A) {y:Pt} (hy:PtOk R A y):PtIn R A (trim A y):=by
 refine ⟨hy.trim,?_⟩
 obtain ⟨a1,a2,a3,a4,a5⟩:=hA
 obtain ⟨h1,h2,h3,h4,h5,h6,h7⟩:=hy
 show min y.cr (A.many - y.bag.many) ≤ 14
 simp only [Pt.bag,Bag.many]
 omega
theorem addS_ok {R:Int} {A:Bag} (hA:BagOk A) {act:Int} {x y:Pt} {s:Seen × List Pt} (h:SeenOk R A s) (hy:PtOk R A y):SeenOk R A (addS A act x s y):=by
 unfold addS
 split
 ·exact h
 ·rename_i hn
  refine ⟨fun e he => ?_,?_,fun z hz => ?_,?_⟩
  ·rcases List.mem_append.1 he with h1 | h1
   ·exact h.inn e h1
   ·simp only [List.mem_singleton] at h1; subst h1; exact trim_in hA hy
  ·simp only [sks,List.map_append,List.map_cons,List.map_nil]
   rw [List.nodup_append]
   refine ⟨h.nd,by simp,fun a ha b hb => ?_⟩
   simp only [List.mem_singleton] at hb
   subst hb
   exact fun e => hn (e ▸ ha)
  ·simp only [sks,List.map_append,List.mem_append,List.map_cons,List.map_nil,List.mem_singleton]
   rcases List.mem_append.1 hz with h1 | h1
   ·exact .inl (h.sub z h1)
   ·exact .inr (by simpa using h1)
  ·rw [List.nodup_append]
   refine ⟨h.qn,by simp,fun a ha b hb => ?_⟩
   simp only [List.mem_singleton] at hb
   subst hb
   exact fun e => hn (e ▸ h.sub a ha)
theorem addS_len {A:Bag} {act:Int} {x y:Pt} {s:Seen × List Pt}:(addS A act x s y).2.length + s.1.length = s.2.length + (addS A act x s y).1.length:=by
 unfold addS; split <;> simp; omega
theorem addAll_ok {R:Int} {A:Bag} (hA:BagOk A) {x:Pt}:∀ {l:List (Int × Pt)} {s:Seen × List Pt},SeenOk R A s → (∀ e ∈ l,PtOk R A e.2) → SeenOk R A (addAll A x l s) ∧ (addAll A x l s).2.length + s.1.length = s.2.length + (addAll A x l s).1.length
 | [],s,h,_ => ⟨h,rfl⟩
 | e :: l,s,h,hl => by
  have h1:=addS_ok (act:=e.1) (x:=x) hA h (hl e (by simp))
  have h2:=addAll_ok hA (x:=x) (l:=l) h1 fun e' he' => hl e' (by simp [he'])
  have h3:=addS_len (A:=A) (act:=e.1) (x:=x) (y:=e.2) (s:=s)
  refine ⟨h2.1,?_⟩
  have h4:=h2.2
  simp only [addAll,List.foldl_cons] at h4 ⊢
  omega
theorem Bag.at_inc {A:Bag} (hA:BagOk A) {R:Int} {x:Pt} (hx:PtOk R A x) {k:Nat} (hk:k < 4) (hne:x.bag.at k ≠ A.at k):x.bag.at k < A.at k:=by
 obtain ⟨h1,h2,h3,h4,h5,h6,h7⟩:=hx
 have:k = 0 ∨ k = 1 ∨ k = 2 ∨ k = 3:=by omega
 rcases this with rfl | rfl | rfl | rfl <;> simp only [Bag.at,Bag.l,Pt.bag,List.getD_cons_zero,List.getD_cons_succ] at hne ⊢ <;> omega
theorem coinN_ok {w:Wh} (hw:WhOk w) {A:Bag} (hA:BagOk A) {x:Pt} (hx:PtIn w.ro A x) {k:Nat} (hk:k < w.co.length):∀ e ∈ coinN w A x k,PtOk w.ro A e.2:=by
 intro e he
 unfold coinN at he
 split at he
 ·cases he
 rename_i hne
 simp only [List.mem_singleton] at he
 subst he
 have hro:=hw.ro
 have hcl:=hw.cl
 have hlt:=Bag.at_inc hA hx.1 (by omega) hne
 have hco:1 ≤ w.co.getD k 0 ∧ w.co.getD k 0 ≤ 100:=getD_in hw.co hk
 have hp:=plays_ok hw (p:=x.pl) (c:=w.co.getD k 0) (by omega)
 generalize w.co.getD k 0 = c at hco hp
 obtain ⟨⟨h1,h2,h3,h4,h5,h6,h7⟩,h8⟩:=hx
 have e1:=Int.emod_nonneg (x.pl + c) (b:=w.ro) (by omega)
 have e2:=Int.emod_lt_of_pos (x.pl + c) (b:=w.ro) (by omega)
 have:k = 0 ∨ k = 1 ∨ k = 2 ∨ k = 3:=by omega
 simp only [Pt.bag,Bag.many] at h7
 rcases this with rfl | rfl | rfl | rfl <;> simp only [Bag.at,Bag.l,Pt.bag,List.getD_cons_zero,List.getD_cons_succ] at hlt <;>
  (refine ⟨⟨e1,e2⟩,⟨?_,?_⟩,⟨?_,?_⟩,⟨?_,?_⟩,⟨?_,?_⟩,⟨?_,?_⟩,⟨?_,?_⟩⟩ <;> simp only [Pt.with,Bag.inc,Pt.bag,Bag.many] <;> omega)
theorem selN_ok {w:Wh} (hw:WhOk w) {A:Bag} {x:Pt} (hx:PtIn w.ro A x):∀ e ∈ selN x,PtOk w.ro A e.2:=by
 intro e he
 unfold selN at he
 split at he
 ·simp only [List.mem_singleton] at he
  subst he
  have hro:=hw.ro
  obtain ⟨⟨h1,h2,h3,h4,h5,h6,h7⟩,h8⟩:=hx
  exact ⟨⟨by simp [Pt.with],by simp [Pt.with]; omega⟩,⟨by simp [Pt.with]; omega,by simp [Pt.with]; omega⟩,h3,h4,h5,h6,h7⟩
 ·cases he
theorem coinsN_ok {w:Wh} (hw:WhOk w) {A:Bag} (hA:BagOk A) {x:Pt} (hx:PtIn w.ro A x) {n:Nat} (hn:n ≤ w.co.length):∀ e ∈ coinsN w A x n,PtOk w.ro A e.2:=by
 intro e he
 obtain ⟨k,hk,h⟩:=List.mem_flatMap.1 he
 exact coinN_ok hw hA hx (by have:=List.mem_range.1 hk; omega) e h
theorem SeenOk.tail {R:Int} {A:Bag} {S:Seen} {x:Pt} {q:List Pt} (h:SeenOk R A (S,x :: q)):SeenOk R A (S,q):=⟨h.inn,h.nd,fun y hy => h.sub y (by simp [hy]),(List.nodup_cons.1 h.qn).2⟩
theorem SeenOk.of_mem {R:Int} {A:Bag} {s:Seen × List Pt} (h:SeenOk R A s) {x:Pt} (hx:x ∈ sks s.1):PtIn R A x:=by
 obtain ⟨e,he,rfl⟩:=List.mem_map.1 hx
 exact h.inn e he
theorem coinsN_succ (w:Wh) (A:Bag) (x:Pt) (n:Nat):coinsN w A x (n + 1) = coinsN w A x n ++ coinN w A x n:=by simp [coinsN,List.range_succ]
theorem addAll_app (A:Bag) (x:Pt) (l m:List (Int × Pt)) (s:Seen × List Pt):addAll A x (l ++ m) s = addAll A x m (addAll A x l s):=by simp [addAll]
theorem expand_ok {w:Wh} (hw:WhOk w) {A:Bag} (hA:BagOk A) {S:Seen} {x:Pt} {q:List Pt} (h:SeenOk w.ro A (S,x :: q)):SeenOk w.ro A (expand w A x (S,q)) ∧ (expand w A x (S,q)).2.length + S.length = q.length + (expand w A x (S,q)).1.length:=by
 have hx:=h.of_mem (h.sub x (by simp))
 have h1:=addAll_ok hA (x:=x) h.tail (selN_ok hw hx)
 have h2:=addAll_ok hA (x:=x) h1.1 (coinsN_ok hw hA hx (Nat.le_refl _))
 refine ⟨h2.1,?_⟩
 have a1:=h1.2
 have a2:=h2.2
 unfold expand
 simp only at a1 a2 ⊢
 omega
theorem start_ok {w:Wh} (hw:WhOk w) {A:Bag} (hA:BagOk A):SeenOk w.ro A ([(p00,-2,p00)],[p00]):=by
 have hro:=hw.ro
 obtain ⟨a1,a2,a3,a4,a5⟩:=hA
 refine ⟨fun e he => ?_,by simp [sks],fun x hx => by simpa [sks] using hx,by simp⟩
 simp only [List.mem_singleton] at he
 subst he
 exact ⟨⟨⟨by simp [p00],by simp [p00]; omega⟩,⟨by simp [p00],by simp [p00]⟩,⟨by simp [p00],by simp [p00]; omega⟩,⟨by simp [p00],by simp [p00]; omega⟩,⟨by simp [p00],by simp [p00]; omega⟩,⟨by simp [p00],by simp [p00]; omega⟩,⟨by simp [p00],by simp [p00,Pt.bag,Bag.many]⟩⟩,by simp [p00]⟩
theorem addAll_le {A:Bag} {x:Pt}:∀ {l:List (Int × Pt)} {s:Seen × List Pt},s.1.length ≤ (addAll A x l s).1.length
 | [],s => Nat.le_refl _
 | e :: l,s => by
  have h1:=addAll_le (A:=A) (x:=x) (l:=l) (s:=addS A e.1 x s e.2)
  have h2:s.1.length ≤ (addS A e.1 x s e.2).1.length:=by unfold addS; split <;> simp
  simp only [addAll,List.foldl_cons] at h1 ⊢
  omega
def left (s:Seen × List Pt):Nat:=2 * (238291875000 - s.1.length) + s.2.length
theorem left_expand {w:Wh} (hw:WhOk w) {A:Bag} (hA:BagOk A) {S:Seen} {x:Pt} {q:List Pt} (h:SeenOk w.ro A (S,x :: q)):left (expand w A x (S,q)) < left (S,x :: q):=by
 have h1:=expand_ok hw hA h
 have h2:=h1.1.len hA hw.ro.2
 have h3:=h.len hA hw.ro.2
 have h4:=h1.2
 have h5:S.length ≤ (expand w A x (S,q)).1.length:=by
  unfold expand
  have a1:=addAll_le (A:=A) (x:=x) (l:=selN x) (s:=(S,q))
  have a2:=addAll_le (A:=A) (x:=x) (l:=coinsN w A x w.co.length) (s:=addAll A x (selN x) (S,q))
  exact Nat.le_trans a1 a2
 simp only [left,List.length_cons] at *
 omega
end Go.Proofs.YtbclmfjibpppfaaGreat

/-
 The cheapest plays,plain: all points by what they cost.
-/
namespace Go.Proofs.YtbclmfjibpppfaaGreat
open Go Go.V
structure Cp where
 pl:Int
 cr:Int
 bo:Int
 deriving DecidableEq
def Cp.l (p:Cp):List Int:=[p.pl,p.cr,p.bo]
theorem Cp.inj {p q:Cp} (h:p.l = q.l):p = q:=by
 cases p; cases q
 simp only [Cp.l,List.cons.injEq,and_true] at h
 simp only [Cp.mk.injEq]
 exact h
def stds (x:Cp):List (Int × Int):=(x.pl,x.cr) :: (if 0 < x.cr ∧ 0 < x.pl then [(0,x.cr - 1)] else [])
def nxt (w:Wh) (n:Int) (x:Cp) (s:Int × Int) (k:Nat):Cp:=⟨(s.1 + w.co.getD k 0) % w.ro,min (s.2 + plays w s.1 (w.co.getD k 0)) n,x.bo + plays w s.1 (w.co.getD k 0)⟩
def coK (w:Wh) (k:Nat):Nat:=(w.co.getD k 0).toNat
inductive Rch (w:Wh) (n:Int):Nat → Cp → Prop
 | st:Rch w n 0 ⟨0,0,0⟩
 | go {t:Nat} {x:Cp} {s:Int × Int} {k:Nat}:Rch w n t x → x.bo < n → s ∈ stds x → k < w.co.length → Rch w n (t + coK w k) (nxt w n x s k)
structure CpOk (w:Wh) (p:Cp):Prop where
 pl:0 ≤ p.pl ∧ p.pl < w.ro
 cr:0 ≤ p.cr ∧ p.cr ≤ 20
 bo:0 ≤ p.bo ∧ p.bo ≤ 132
theorem coK_in {w:Wh} (hw:WhOk w) {k:Nat} (hk:k < w.co.length):1 ≤ coK w k ∧ coK w k ≤ 100 ∧ ((coK w k:Nat):Int) = w.co.getD k 0 ∧ 1 ≤ w.co.getD k 0 ∧ w.co.getD k 0 ≤ 100:=by
 have:=getD_in hw.co hk
 unfold coK
 omega
theorem stds_ok {w:Wh} (hw:WhOk w) {x:Cp} (hx:CpOk w x) {s:Int × Int} (hs:s ∈ stds x):(0 ≤ s.1 ∧ s.1 < w.ro) ∧ 0 ≤ s.2 ∧ s.2 ≤ 20:=by
 have hro:=hw.ro
 obtain ⟨h1,h2,_⟩:=hx
 unfold stds at hs
 rcases List.mem_cons.1 hs with rfl | hs
 ·exact ⟨h1,h2⟩
 ·split at hs
  ·rename_i hc
   simp only [List.mem_singleton] at hs
   subst hs
   exact ⟨⟨by simp,by simp only; omega⟩,by simp only; omega,by simp only; omega⟩
  ·cases hs
theorem nxt_ok {w:Wh} (hw:WhOk w) {n:Int} (hn:1 ≤ n ∧ n ≤ 20) {x:Cp} (hx:CpOk w x) (hb:x.bo < n) {s:Int × Int} (hs:s ∈ stds x) {k:Nat} (hk:k < w.co.length):CpOk w (nxt w n x s k):=by
 have hro:=hw.ro
 obtain ⟨h1,h2,h3⟩:=stds_ok hw hx hs
 obtain ⟨c1,c2,c3,c4,c5⟩:=coK_in hw hk
 have hp:=plays_ok hw (p:=s.1) (c:=w.co.getD k 0) (by omega)
 have hbo:=hx.bo
 refine ⟨⟨Int.emod_nonneg _ (by omega),Int.emod_lt_of_pos _ (by omega)⟩,?_,?_⟩
 ·simp only [nxt]; omega
 ·simp only [nxt]; omega
theorem Rch.ok {w:Wh} (hw:WhOk w) {n:Int} (hn:1 ≤ n ∧ n ≤ 20) {t:Nat} {p:Cp} (h:Rch w n t p):CpOk w p:=by
 induction h with
 | st => have:=hw.ro; exact ⟨⟨by simp,by simp only; omega⟩,⟨by simp,by simp⟩,⟨by simp,by simp⟩⟩
 | go h1 h2 h3 h4 ih => exact nxt_ok hw hn ih h2 h3 h4
def Cp.code (p:Cp):Nat:=(p.pl.toNat * 21 + p.cr.toNat) * 133 + p.bo.toNat
theorem CpOk.code_lt {w:Wh} (hw:WhOk w) {p:Cp} (h:CpOk w p):p.code < 558600:=by
 have hro:=hw.ro
 obtain ⟨h1,h2,h3⟩:=h
 unfold Cp.code
 omega
theorem Cp.code_inj {w:Wh} {p q:Cp} (hp:CpOk w p) (hq:CpOk w q) (h:p.code = q.code):p = q:=by
 obtain ⟨h1,h2,h3⟩:=hp
 obtain ⟨k1,k2,k3⟩:=hq
 unfold Cp.code at h
 cases p; cases q
 simp only at *
 simp only [Cp.mk.injEq]
 omega
def mem (rows:List CRow) (d:Nat) (p:Cp):Prop:=∃ r,rows[d]? = some r ∧ p.l ∈ r.xs
def Suc (w:Wh) (n:Int) (rows:List CRow) (x:Cp) (f:Nat):Prop:=∀ s ∈ stds x,∀ k < w.co.length,mem rows (f + coK w k) (nxt w n x s k)
theorem mem_set {rows:List CRow} {d:Nat} {r r':CRow} {y:Cp} (hd:rows[d]? = some r) (hr:r'.xs = r.xs ++ [y.l]):mem (rows.set d r') d y ∧ ∀ e q,mem rows e q → mem (rows.set d r') e q:=by
 have hlt:=(List.getElem?_eq_some_iff.1 hd).1
 constructor
 ·exact ⟨r',by simp [hlt],by rw [hr]; simp⟩
 ·rintro e q ⟨s,h1,h2⟩
  by_cases he:d = e
  ·subst he
   rw [hd] at h1
   have:=Option.some.inj h1
   subst this
   exact ⟨r',by simp [hlt],by rw [hr]; exact List.mem_append_left _ h2⟩
  ·exact ⟨s,by rw [List.getElem?_set_ne he]; exact h1,h2⟩
def SndR (w:Wh) (n:Int) (rows:List CRow):Prop:=∀ d r,rows[d]? = some r → ∀ x ∈ r.xs,∃ p:Cp,x = p.l ∧ Rch w n d p
theorem SndR.set {w:Wh} {n:Int} {rows:List CRow} (h:SndR w n rows) {d:Nat} {r r':CRow} {y:Cp} (hd:rows[d]? = some r) (hr:r'.xs = r.xs ++ [y.l]) (hy:Rch w n d y):SndR w n (rows.set d r'):=by
 have hlt:=(List.getElem?_eq_some_iff.1 hd).1
 intro e s hs x hx
 by_cases he:d = e
 ·subst he
  have:r' = s:=by simpa [hlt] using hs
  subst this
  rw [hr] at hx
  rcases List.mem_append.1 hx with hx | hx
  ·exact h d r hd x hx
  ·simp only [List.mem_singleton] at hx
   exact ⟨y,hx,hy⟩
 ·rw [List.getElem?_set_ne he] at hs
  exact h e s hs x hx
theorem SndR.mem {w:Wh} {n:Int} {rows:List CRow} (h:SndR w n rows) {d:Nat} {p:Cp} (hm:mem rows d p):Rch w n d p:=by
 obtain ⟨r,h1,h2⟩:=hm
 obtain ⟨q,hq,h3⟩:=h d r h1 _ h2
 rw [Cp.inj hq]; exact h3
structure Prog (w:Wh) (n:Int) (x:Cp) (c N:Nat) (rows0 rows:List CRow) (i k:Nat):Prop where
 le:∀ d p,mem rows0 d p → mem rows d p
 len:rows.length = rows0.length
 same:∀ d,d ≤ c → rows[d]? = rows0[d]?
 snd:SndR w n rows
 lens:∀ r ∈ rows,r.xs.length ≤ N + 4 * i + k
 dn:∀ i' k',(i' < i ∧ k' < w.co.length ∨ i' = i ∧ k' < k) → ∀ s,(stds x)[i']? = some s → mem rows (c + coK w k') (nxt w n x s k')
theorem Prog.start {w:Wh} {n:Int} {x:Cp} {c N:Nat} {rows:List CRow} (h:SndR w n rows) (hl:∀ r ∈ rows,r.xs.length ≤ N):Prog w n x c N rows rows 0 0 :=
 ⟨fun _ _ h => h,rfl,fun _ _ => rfl,h,fun r hr => by have:=hl r hr; omega,fun i' k' h => by omega⟩
theorem Prog.step {w:Wh} (hw:WhOk w) {n:Int} {x:Cp} {c N:Nat} {rows0 rows:List CRow} {i k:Nat} (h:Prog w n x c N rows0 rows i k) (hx:Rch w n c x) (hb:x.bo < n) (hk:k < w.co.length) {s:Int × Int} (hs:(stds x)[i]? = some s) {r r':CRow} (hr:rows[c + coK w k]? = some r) (hr':r'.xs = r.xs ++ [(nxt w n x s k).l]) :
  Prog w n x c N rows0 (rows.set (c + coK w k) r') i (k + 1):=by
 have hc:=coK_in hw hk
 obtain ⟨m1,m2⟩:=mem_set (y:=nxt w n x s k) hr hr'
 refine ⟨fun d p hp => m2 _ _ (h.le d p hp),by rw [List.length_set]; exact h.len,fun d hd => by rw [List.getElem?_set_ne (by omega)]; exact h.same d hd,h.snd.set hr hr' (.go hx hb (List.mem_of_getElem? hs) hk),fun q hq => ?_,fun i' k' hik s' hs' => ?_⟩
 ·rcases List.mem_or_eq_of_mem_set hq with hq | rfl
  ·have:=h.lens q hq; omega
  ·have:=h.lens r (List.mem_of_getElem? hr)
   rw [hr',List.length_append,List.length_singleton]; omega
 ·by_cases hlast:i' = i ∧ k' = k
  ·obtain ⟨rfl,rfl⟩:=hlast
   rw [hs] at hs'
   rw [← Option.some.inj hs']
   exact m1
  ·exact m2 _ _ (h.dn i' k' (by omega) s' hs')
theorem Prog.turn {w:Wh} (hw:WhOk w) {n:Int} {x:Cp} {c N:Nat} {rows0 rows:List CRow} {i:Nat} (h:Prog w n x c N rows0 rows i w.co.length):Prog w n x c N rows0 rows (i + 1) 0 :=
 ⟨h.le,h.len,h.same,h.snd,fun r hr => by have:=h.lens r hr; have:=hw.cl; omega,fun i' k' hik => h.dn i' k' (by omega)⟩
theorem Prog.suc {w:Wh} {n:Int} {x:Cp} {c N:Nat} {rows0 rows:List CRow} (h:Prog w n x c N rows0 rows (stds x).length 0):Suc w n rows x c:=fun s hs k hk => by
 obtain ⟨i,hi⟩:=List.getElem?_of_mem hs
 exact h.dn i k (.inl ⟨(List.getElem?_eq_some_iff.1 hi).1,hk⟩) s hi
theorem stds_len (x:Cp):(stds x).length ≤ 2:=by
 unfold stds
 split <;> simp
abbrev Cks:=List (Cp × Int)
def cks (S:Cks):List Cp:=S.map (·.1)
def gl3 (S:Cks):GL:=S.map fun e => (e.1.l,[e.2])
def clook (S:Cks) (x:Cp):Option Int:=(S.find? fun e => e.1 = x).map (·.2)
def cput (S:Cks) (x:Cp) (v:Int):Cks:=if (clook S x).isSome = true then S.map (fun e => if e.1 = x then (x,v) else e) else S ++ [(x,v)]
theorem glook_gl3 (S:Cks) (x:Cp):glook (gl3 S) x.l = (clook S x).map fun v => [v]:=by
 unfold glook gl3 clook
 rw [List.find?_map,Option.map_map,Option.map_map]
 have:((fun q:List Int × List Int => q.1 == x.l) ∘ fun e:Cp × Int => (e.1.l,[e.2])) = fun e => decide (e.1 = x):=by
  funext e
  simp only [Function.comp_apply]
  rw [Bool.eq_iff_iff]
  simp only [beq_iff_eq,decide_eq_true_eq]
  exact ⟨fun h => Cp.inj h,fun h => by rw [h]⟩
 rw [this]; rfl
theorem gput_gl3 (S:Cks) (x:Cp) (v:Int):gput (gl3 S) x.l [v] = gl3 (cput S x v):=by
 unfold gput cput
 rw [glook_gl3,Option.isSome_map]
 split
 ·simp only [gl3,List.map_map]
  refine List.map_congr_left fun e _ => ?_
  simp only [Function.comp_apply]
  by_cases he:e.1 = x
  ·rw [if_pos he,if_pos (by rw [he])]
  ·rw [if_neg he,if_neg fun h => he (Cp.inj h)]
 ·simp [gl3]
theorem clook_mem {S:Cks} {x:Cp}:(clook S x).isSome = true ↔ x ∈ cks S:=by
 unfold clook cks
 rw [Option.isSome_map,List.find?_isSome]
 simp only [List.mem_map,decide_eq_true_eq]
theorem clook_get {S:Cks} {x:Cp} {v:Int} (h:clook S x = some v):(x,v) ∈ S:=by
 unfold clook at h
 obtain ⟨e,he,rfl⟩:=Option.map_eq_some_iff.1 h
 have h1:=List.mem_of_find?_eq_some he
 have h2:e.1 = x:=by simpa using List.find?_some he
 rw [← h2]; exact h1
theorem cput_keys {S:Cks} {x:Cp} {v:Int}:cks (cput S x v) = if x ∈ cks S then cks S else cks S ++ [x]:=by
 unfold cput
 by_cases h:x ∈ cks S
 ·rw [if_pos (clook_mem.2 h),if_pos h]
  unfold cks
  rw [List.map_map]
  refine List.map_congr_left fun e _ => ?_
  simp only [Function.comp_apply]
  split
  ·rename_i he; exact he.symm
  ·rfl
 ·rw [if_neg (fun h' => h (clook_mem.1 h')),if_neg h]
  simp [cks]
theorem cput_vals {S:Cks} {x:Cp} {v:Int} {Q:Int → Prop} (hv:Q v) (h:∀ e ∈ S,Q e.2):∀ e ∈ cput S x v,Q e.2:=by
 unfold cput
 split
 ·intro e he
  obtain ⟨a,ha,rfl⟩:=List.mem_map.1 he
  split
  ·exact hv
  ·exact h a ha
 ·intro e he
  rcases List.mem_append.1 he with he | he
  ·exact h e he
  ·simp only [List.mem_singleton] at he; subst he; exact hv
theorem cput_len {S:Cks} {x:Cp} {v:Int}:(cput S x v).length = if x ∈ cks S then S.length else S.length + 1:=by
 have h:=congrArg List.length (cput_keys (S:=S) (x:=x) (v:=v))
 have e1:∀ T:Cks,(cks T).length = T.length:=fun T => by simp [cks]
 rw [e1] at h
 rw [h]
 by_cases h:x ∈ cks S
 ·rw [if_pos h,if_pos h,e1]
 ·rw [if_neg h,if_neg h,List.length_append,e1]; rfl
structure CInv (w:Wh) (n:Int) (rows:List CRow) (S:Cks) (c j:Nat):Prop where
 snd:SndR w n rows
 st:mem rows 0 ⟨0,0,0⟩
 key:∀ x ∈ cks S,CpOk w x ∧ ∃ f,f ≤ c ∧ Suc w n rows x f
 old:∀ d x,d < c → mem rows d x → x.bo < n ∧ ∃ f,f ≤ d ∧ Suc w n rows x f
 now:∀ i r (x:Cp),i < j → rows[c]? = some r → r.xs[i]? = some x.l → x.bo < n ∧ x ∈ cks S
 nod:(cks S).Nodup
 lens:∀ r ∈ rows,r.xs.length ≤ 8 * S.length + 1
 vals:∀ e ∈ S,1 ≤ e.2 ∧ e.2 ≤ (c * 4468801 + j:Nat)
theorem CInv.slen {w:Wh} (hw:WhOk w) {n:Int} {rows:List CRow} {S:Cks} {c j:Nat} (h:CInv w n rows S c j):S.length ≤ 558600:=by
 have h1:((cks S).map Cp.code).Nodup:=by
  refine (List.pairwise_map.2 ?_:List.Pairwise (· ≠ ·) _)
  refine h.nod.imp_of_mem fun {a b} ha hb hab he => hab ?_
  exact Cp.code_inj (h.key a ha).1 (h.key b hb).1 he
 have h2:=nodup_lt 558600 _ h1 fun x hx => by
  obtain ⟨p,hp,rfl⟩:=List.mem_map.1 hx
  exact (h.key p hp).1.code_lt hw
 simpa [cks] using h2
theorem CInv.comp {w:Wh} (hw:WhOk w) {n:Int} {rows:List CRow} {S:Cks} {c j:Nat} (h:CInv w n rows S c j) {t:Nat} {y:Cp} (hy:Rch w n t y):t ≤ c → ∃ d,d ≤ t ∧ mem rows d y:=by
 induction hy with
 | st => exact fun _ => ⟨0,Nat.le_refl _,h.st⟩
 | go h1 h2 h3 h4 ih =>
  intro hc
  have hk:=coK_in hw h4
  obtain ⟨d,hd,hm⟩:=ih (by omega)
  obtain ⟨_,f,hf,hs⟩:=h.old d _ (by omega) hm
  exact ⟨f + coK w _,by omega,hs _ h3 _ h4⟩
def HitC (w:Wh) (n:Int) (t:Nat):Prop:=∃ y,Rch w n t y ∧ n ≤ y.bo
theorem CInv.nohit {w:Wh} (hw:WhOk w) {n:Int} {rows:List CRow} {S:Cks} {c j:Nat} (h:CInv w n rows S c j) {t:Nat} (ht:t < c):¬ HitC w n t:=by
 rintro ⟨y,hy,hb⟩
 obtain ⟨d,hd,hm⟩:=h.comp hw hy (by omega)
 have:=(h.old d y (by omega) hm).1
 omega
theorem CInv.start {w:Wh} {n:Int} {r:CRow} (hr:r.xs = [[0,0,0]]):CInv w n [r] [] 0 0:=by
 refine ⟨?_,⟨r,rfl,by rw [hr]; simp [Cp.l]⟩,(fun x hx => by cases hx),(fun d x hd => by omega),(fun i r x hi => by omega),List.nodup_nil,?_,fun e he => by cases he⟩
 ·intro d s hs x hx
  match d with
  | 0 =>
   have:r = s:=by simpa using hs
   subst this
   rw [hr] at hx
   simp only [List.mem_singleton] at hx
   exact ⟨⟨0,0,0⟩,hx,.st⟩
  | d + 1 => simp at hs
 ·intro q hq
  simp only [List.mem_singleton] at hq
  subst hq
  rw [hr]; simp
theorem mem_app {rows:List CRow} {d:Nat} {p:Cp}:mem (rows ++ [CRow.nil]) d p ↔ mem rows d p:=by
 constructor
 ·rintro ⟨r,h1,h2⟩
  rw [List.getElem?_append] at h1
  split at h1
  ·exact ⟨r,h1,h2⟩
  ·have:r = CRow.nil:=by have:=List.mem_of_getElem? h1; simpa using this
   subst this
   cases h2
 ·rintro ⟨r,h1,h2⟩
  exact ⟨r,by rw [List.getElem?_append_left (List.getElem?_eq_some_iff.1 h1).1]; exact h1,h2⟩
theorem CInv.grow {w:Wh} {n:Int} {rows:List CRow} {S:Cks} {c:Nat} (h:CInv w n rows S c 0):CInv w n (rows ++ [CRow.nil]) S c 0:=by
 have hs:∀ x f,Suc w n rows x f → Suc w n (rows ++ [CRow.nil]) x f:=fun x f h s hs k hk => mem_app.2 (h s hs k hk)
 refine ⟨fun d r hr x hx => ?_,mem_app.2 h.st,fun x hx => ?_,fun d x hd hm => ?_,fun i r x hi => by omega,h.nod,fun r hr => ?_,h.vals⟩
 ·rw [List.getElem?_append] at hr
  split at hr
  ·exact h.snd d r hr x hx
  ·have:r = CRow.nil:=by have:=List.mem_of_getElem? hr; simpa using this
   subst this
   cases hx
 ·obtain ⟨h1,f,h2,h3⟩:=h.key x hx
  exact ⟨h1,f,h2,hs _ _ h3⟩
 ·obtain ⟨h1,f,h2,h3⟩:=h.old d x hd (mem_app.1 hm)
  exact ⟨h1,f,h2,hs _ _ h3⟩
 ·rcases List.mem_append.1 hr with hr | hr
  ·exact h.lens r hr
  ·simp only [List.mem_singleton] at hr; subst hr; simp [CRow.nil]
theorem CInv.again {w:Wh} {n:Int} {rows:List CRow} {S:Cks} {c j:Nat} (h:CInv w n rows S c j) {r:CRow} {x:Cp} (hr:rows[c]? = some r) (hx:r.xs[j]? = some x.l) (hb:x.bo < n) (hk:x ∈ cks S) {v:Int} (hv:clook S x = some v):CInv w n rows (cput S x (v + 1)) c (j + 1):=by
 have e1:cks (cput S x (v + 1)) = cks S:=by rw [cput_keys,if_pos hk]
 have e2:(cput S x (v + 1)).length = S.length:=by rw [cput_len,if_pos hk]
 have hvv:=h.vals _ (clook_get hv)
 refine ⟨h.snd,h.st,by rw [e1]; exact h.key,h.old,fun i q y hi hq hy => ?_,by rw [e1]; exact h.nod,by rw [e2]; exact h.lens,cput_vals (Q:=fun z => 1 ≤ z ∧ z ≤ (c * 4468801 + (j + 1):Nat)) ⟨by simp only at hvv; omega,by simp only at hvv; omega⟩ fun e he => by have:=h.vals e he; omega⟩
 rw [e1]
 rw [hr] at hq
 have:=Option.some.inj hq
 subst this
 by_cases hij:i = j
 ·subst hij
  rw [hx] at hy
  have:=Cp.inj (Option.some.inj hy)
  subst this
  exact ⟨hb,hk⟩
 ·exact h.now i r y (by omega) hr hy
theorem CInv.fresh {w:Wh} (hw:WhOk w) {n:Int} (hn:1 ≤ n ∧ n ≤ 20) {rows0 rows:List CRow} {S:Cks} {c j:Nat} (h:CInv w n rows0 S c j) {r:CRow} {x:Cp} (hr:rows0[c]? = some r) (hx:r.xs[j]? = some x.l) (hb:x.bo < n) (hk:x ∉ cks S) (hp:Prog w n x c (8 * S.length + 1) rows0 rows (stds x).length 0):CInv w n rows (cput S x 1) c (j + 1):=by
 have e1:cks (cput S x 1) = cks S ++ [x]:=by rw [cput_keys,if_neg hk]
 have e2:(cput S x 1).length = S.length + 1:=by rw [cput_len,if_neg hk]
 have hs:∀ x f,Suc w n rows0 x f → Suc w n rows x f:=fun x f h s hs k hk => hp.le _ _ (h s hs k hk)
 have hxr:Rch w n c x:=h.snd.mem ⟨r,hr,List.mem_of_getElem? hx⟩
 have hkey:∀ y ∈ cks S ++ [x],CpOk w y ∧ ∃ f,f ≤ c ∧ Suc w n rows y f:=fun y hy => by
  rcases List.mem_append.1 hy with hy | hy
  ·obtain ⟨h1,f,h2,h3⟩:=h.key y hy
   exact ⟨h1,f,h2,hs _ _ h3⟩
  ·simp only [List.mem_singleton] at hy
   subst hy
   exact ⟨hxr.ok hw hn,c,Nat.le_refl _,hp.suc⟩
 have hback:∀ d y,d ≤ c → mem rows d y → mem rows0 d y:=fun d y hd ⟨q,hq,hy⟩ => ⟨q,by rw [← hp.same d hd]; exact hq,hy⟩
 refine ⟨hp.snd,hp.le _ _ h.st,by rw [e1]; exact hkey,fun d y hd hm => ?_,fun i q y hi hq hy => ?_,?_,fun q hq => ?_,cput_vals (Q:=fun z => 1 ≤ z ∧ z ≤ (c * 4468801 + (j + 1):Nat)) ⟨by omega,by omega⟩ fun e he => by have:=h.vals e he; omega⟩
 ·obtain ⟨h1,f,h2,h3⟩:=h.old d y hd (hback d y (by omega) hm)
  exact ⟨h1,f,h2,hs _ _ h3⟩
 ·rw [hp.same c (Nat.le_refl _),hr] at hq
  have:=Option.some.inj hq
  subst this
  rw [e1]
  by_cases hij:i = j
  ·subst hij
   rw [hx] at hy
   have:=Cp.inj (Option.some.inj hy)
   subst this
   exact ⟨hb,by simp⟩
  ·obtain ⟨h1,h2⟩:=h.now i r y (by omega) hr hy
   exact ⟨h1,List.mem_append_left _ h2⟩
 ·rw [e1]
  refine List.nodup_append.2 ⟨h.nod,by simp,fun a ha b hb => ?_⟩
  simp only [List.mem_singleton] at hb
  subst hb
  exact fun e => hk (e ▸ ha)
 ·have h1:=hp.lens q hq
  have h2:=stds_len x
  rw [e2]; omega
theorem CInv.next {w:Wh} (hw:WhOk w) {n:Int} {rows:List CRow} {S:Cks} {c:Nat} {r:CRow} (hr:rows[c]? = some r) (h:CInv w n rows S c r.xs.length):CInv w n rows S (c + 1) 0:=by
 have hsl:=h.slen hw
 have hrl:=h.lens r (List.mem_of_getElem? hr)
 refine ⟨h.snd,h.st,fun x hx => ?_,fun d x hd hm => ?_,fun i q x hi => by omega,h.nod,h.lens,fun e he => ?_⟩
 ·obtain ⟨h1,f,h2,h3⟩:=h.key x hx
  exact ⟨h1,f,by omega,h3⟩
 ·by_cases hdc:d = c
  ·subst hdc
   obtain ⟨q,hq,hx⟩:=hm
   rw [hr] at hq
   have:=Option.some.inj hq
   subst this
   obtain ⟨i,hi⟩:=List.getElem?_of_mem hx
   obtain ⟨h1,h2⟩:=h.now i r x (List.getElem?_eq_some_iff.1 hi).1 hr hi
   obtain ⟨_,f,h3,h4⟩:=h.key x h2
   exact ⟨h1,f,h3,h4⟩
  ·exact h.old d x (by omega) hm
 ·obtain ⟨v1,v2⟩:=h.vals e he
  have e1:(c + 1) * 4468801 + 0 = c * 4468801 + 4468801:=by rw [Nat.succ_mul]
  rw [e1]
  refine ⟨v1,Int.le_trans v2 ?_⟩
  exact Int.ofNat_le.2 (Nat.add_le_add_left (by omega) _)
def sumH (w:Wh) (T:Int):Int:=(w.no.map fun m => (T - m + w.ro) / w.ro).sum
theorem sum_sub {l:List Int} {f g:Int → Int}:(l.map fun m => f m - g m).sum = (l.map f).sum - (l.map g).sum:=by
 induction l with
 | nil => simp
 | cons a l ih => simp only [List.map_cons,List.sum_cons,ih]; omega
theorem plays_sum {w:Wh} (hw:WhOk w) {T c:Int}:plays w (T % w.ro) c = sumH w (T + c) - sumH w T:=by
 have hro:=hw.ro
 unfold plays sumH
 rw [← sum_sub]
 refine congrArg List.sum (List.map_congr_left fun m _ => ?_)
 unfold hits
 have h1:=Int.emod_add_mul_ediv T w.ro
 have e1:T + c - m + w.ro = (T % w.ro + c - m + w.ro) + (T / w.ro) * w.ro:=by rw [Int.mul_comm]; omega
 have e2:T - m + w.ro = (T % w.ro - m + w.ro) + (T / w.ro) * w.ro:=by rw [Int.mul_comm]; omega
 rw [e1,e2,Int.add_mul_ediv_right _ _ (by omega),Int.add_mul_ediv_right _ _ (by omega)]
 omega
theorem sumH_zero {w:Wh} (hw:WhOk w):sumH w 0 = 0:=by
 have hro:=hw.ro
 unfold sumH
 have:∀ l:List Int,(∀ m ∈ l,1 ≤ m ∧ m ≤ w.ro) → (l.map fun m => (0 - m + w.ro) / w.ro).sum = 0:=by
  intro l
  induction l with
  | nil => intro _; rfl
  | cons a l ih =>
   intro h
   have ha:=h a (by simp)
   rw [List.map_cons,List.sum_cons,ih fun m hm => h m (by simp [hm]),Int.ediv_eq_zero_of_lt (by omega) (by omega)]
   rfl
 exact this w.no hw.no
theorem sumH_ge {w:Wh} (hw:WhOk w) (hno:w.no ≠ []) {T:Int} (hT:0 ≤ T):T / w.ro ≤ sumH w T:=by
 have hro:=hw.ro
 have hpos:∀ l:List Int,(∀ m ∈ l,1 ≤ m ∧ m ≤ w.ro) → 0 ≤ (l.map fun m => (T - m + w.ro) / w.ro).sum:=by
  intro l
  induction l with
  | nil => intro _; simp
  | cons a l ih =>
   intro h
   have ha:=h a (by simp)
   have h2:=ih fun m hm => h m (by simp [hm])
   have h3:0 ≤ (T - a + w.ro) / w.ro:=Int.ediv_nonneg (by omega) (by omega)
   rw [List.map_cons,List.sum_cons]; omega
 unfold sumH
 cases hl:w.no with
 | nil => exact absurd hl hno
 | cons a l =>
  have hno:=hw.no
  rw [hl] at hno
  have ha:=hno a (by simp)
  have h2:=hpos l fun m hm => hno m (by simp [hm])
  have h3:T / w.ro ≤ (T - a + w.ro) / w.ro:=Int.ediv_le_ediv (by omega) (by omega)
  rw [List.map_cons,List.sum_cons]; omega
theorem hit_some {w:Wh} (hw:WhOk w) {n:Int} (hn:1 ≤ n ∧ n ≤ 20) (hno:w.no ≠ []) (hco:w.co ≠ []):∃ t,t ≤ 400000 ∧ HitC w n t:=by
 have hro:=hw.ro
 have h0:0 < w.co.length:=List.length_pos_iff.2 hco
 have hk:=coK_in hw h0
 have hrun:∀ m:Nat,(∃ t,t ≤ m * coK w 0 ∧ HitC w n t) ∨ ∃ cr,Rch w n (m * coK w 0) ⟨((m * coK w 0:Nat):Int) % w.ro,cr,sumH w ((m * coK w 0:Nat):Int)⟩:=by
  intro m
  induction m with
  | zero =>
   refine .inr ⟨0,?_⟩
   have e1:((0 * coK w 0:Nat):Int) = 0:=by simp
   rw [e1,sumH_zero hw]
   have e2:(0:Int) % w.ro = 0:=by simp
   rw [e2,Nat.zero_mul]
   exact .st
  | succ m ih =>
   have hle:m * coK w 0 ≤ (m + 1) * coK w 0:=Nat.mul_le_mul_right _ (by omega)
   rcases ih with ⟨t,ht,hh⟩ | ⟨cr,hr⟩
   ·exact .inl ⟨t,by omega,hh⟩
   ·by_cases hb:n ≤ sumH w ((m * coK w 0:Nat):Int)
    ·exact .inl ⟨_,hle,_,hr,hb⟩
    ·have hg:=Rch.go (s:=(((m * coK w 0:Nat):Int) % w.ro,cr)) (k:=0) hr (by simp only; omega) (by simp [stds]) h0
     have e1:(m + 1) * coK w 0 = m * coK w 0 + coK w 0:=by rw [Nat.add_mul]; omega
     have e2:(((m + 1) * coK w 0:Nat):Int) = ((m * coK w 0:Nat):Int) + w.co.getD 0 0:=by rw [e1,Int.natCast_add,hk.2.2.1]
     refine .inr ⟨min (cr + plays w (((m * coK w 0:Nat):Int) % w.ro) (w.co.getD 0 0)) n,?_⟩
     rw [e1,← e1,e2]
     rw [e1]
     have e3:(((m * coK w 0:Nat):Int) + w.co.getD 0 0) % w.ro = (((m * coK w 0:Nat):Int) % w.ro + w.co.getD 0 0) % w.ro:=by rw [Int.emod_add_emod]
     have e4:sumH w (((m * coK w 0:Nat):Int) + w.co.getD 0 0) = sumH w ((m * coK w 0:Nat):Int) + plays w (((m * coK w 0:Nat):Int) % w.ro) (w.co.getD 0 0):=by rw [plays_sum hw]; omega
     rw [e3,e4]
     exact hg
 have hM:n.toNat * w.ro.toNat ≤ 20 * 200:=Nat.mul_le_mul (by omega) (by omega)
 have hMc:n.toNat * w.ro.toNat * coK w 0 ≤ 20 * 200 * 100:=Nat.mul_le_mul hM hk.2.1
 rcases hrun (n.toNat * w.ro.toNat) with ⟨t,ht,hh⟩ | ⟨cr,hr⟩
 ·exact ⟨t,by omega,hh⟩
 ·refine ⟨_,by omega,_,hr,?_⟩
  have h1:=sumH_ge hw hno (T:=((n.toNat * w.ro.toNat * coK w 0:Nat):Int)) (by omega)
  have h2:n * w.ro ≤ ((n.toNat * w.ro.toNat * coK w 0:Nat):Int):=by
   have h3:n.toNat * w.ro.toNat * 1 ≤ n.toNat * w.ro.toNat * coK w 0:=Nat.mul_le_mul_left _ hk.1
   have h4:((n.toNat * w.ro.toNat:Nat):Int) = n * w.ro:=by rw [Int.natCast_mul,Int.toNat_of_nonneg (by omega),Int.toNat_of_nonneg (by omega)]
   omega
  have h3:n ≤ ((n.toNat * w.ro.toNat * coK w 0:Nat):Int) / w.ro:=Int.le_ediv_of_mul_le (by omega) h2
  simp only
  omega
open Classical in
noncomputable def cheapN (w:Wh) (n:Int):Nat:=if h:∃ t,HitC w n t ∧ ∀ u,u < t → ¬ HitC w n u then Classical.choose h else 0
theorem cheapN_eq {w:Wh} {n:Int} {t:Nat} (h1:HitC w n t) (h2:∀ u,u < t → ¬ HitC w n u):cheapN w n = t:=by
 have h:∃ t,HitC w n t ∧ ∀ u,u < t → ¬ HitC w n u:=⟨t,h1,h2⟩
 unfold cheapN
 rw [dif_pos h]
 obtain ⟨k1,k2⟩:=Classical.choose_spec h
 rcases Nat.lt_trichotomy (Classical.choose h) t with hl | he | hg
 ·exact absurd k1 (h2 _ hl)
 ·exact he
 ·exact absurd h1 (k2 _ hg)
noncomputable def cheapP (w:Wh) (n:Int):Int × Int:=if openE w (within n 1 20) = 0 then (if w.co = [] ∨ w.no = [] then (0,3) else ((cheapN w n:Nat),0)) else (0,openE w (within n 1 20))
end Go.Proofs.YtbclmfjibpppfaaGreat

namespace Go.Proofs.YtbclmfjibpppfaaGreat
open Go Go.V
theorem cpLaw:KLaw Tryz.prog 76 (fun v => ∃ l,keyOf Tryz.prog 76 v = some l):=KLaw.wide (deep_law_gate (by kernel_rfl) (Nat.le_of_ble_eq_true (by kernel_rfl)) (Nat.le_of_ble_eq_true (by kernel_rfl)) (by kernel_rfl) (by kernel_rfl))
set_option maxRecDepth 100000 in
theorem cpKey {p:Cp} (h1:i64 p.pl) (h2:i64 p.cr) (h3:i64 p.bo):∃ l,keyOf Tryz.prog 76 (kval true p.l) = some l:=by
 have u3:Tryz.prog.underlying 3 = some (.int .i64):=by kernel_rfl
 have u74:Tryz.prog.underlying 74 = some (.struct (Tryz.prog.fieldsOf 74)):=by kernel_rfl
 have u76:Tryz.prog.underlying 76 = some (.struct (Tryz.prog.fieldsOf 76)):=by kernel_rfl
 have d3:Tryz.prog.cellsOf 3 = 1:=by kernel_rfl
 have d74:Tryz.prog.cellsOf 74 = 2:=by kernel_rfl
 have d76:Tryz.prog.cellsOf 76 = 3:=by kernel_rfl
 have k3:∀ (n:Nat) (x:Int),i64 x → Tryz.prog.keyLits (n + 1) 3 [.int .i64 x] = some [.int .i64 x]:=fun n x h => by
  simp [Program.keyLits,u3,wf64 h]
 have k74:∀ (n:Nat),Tryz.prog.keyLits (n + 2) 74 [.int .i64 p.pl,.int .i64 p.cr] = some [.int .i64 p.pl,.int .i64 p.cr]:=fun n => by
  have hf:((Tryz.prog.fieldsOf 74).toList.map fun f => (f.type,f.offset)) = [(3,0),(3,1)]:=by kernel_rfl
  have hb:(Tryz.prog.fieldsOf 74).all (·.name != "_") = true:=by kernel_rfl
  have e:Tryz.prog.keyLits (n + 2) 74 [.int .i64 p.pl,.int .i64 p.cr] = (((Tryz.prog.fieldsOf 74).toList.map fun f => (f.type,f.offset)).mapM fun q => Tryz.prog.keyLits (n + 1) q.1 (([Value.int .i64 p.pl,.int .i64 p.cr].drop q.2).take (Tryz.prog.cellsOf q.1))).map List.flatten:=by
   conv => lhs; unfold Program.keyLits
   simp only [u74]
   rw [if_pos ⟨by rw [d74]; rfl,hb⟩,List.mapM_map]
   rfl
  rw [e,hf]
  simp [d3,k3 n _ h1,k3 n _ h2]
 have k76:∀ (n:Nat),Tryz.prog.keyLits (n + 3) 76 [.int .i64 p.pl,.int .i64 p.cr,.int .i64 p.bo] = some [.int .i64 p.pl,.int .i64 p.cr,.int .i64 p.bo]:=fun n => by
  have hf:((Tryz.prog.fieldsOf 76).toList.map fun f => (f.type,f.offset)) = [(74,0),(3,2)]:=by kernel_rfl
  have hb:(Tryz.prog.fieldsOf 76).all (·.name != "_") = true:=by kernel_rfl
  have e:Tryz.prog.keyLits (n + 3) 76 [.int .i64 p.pl,.int .i64 p.cr,.int .i64 p.bo] = (((Tryz.prog.fieldsOf 76).toList.map fun f => (f.type,f.offset)).mapM fun q => Tryz.prog.keyLits (n + 2) q.1 (([Value.int .i64 p.pl,.int .i64 p.cr,.int .i64 p.bo].drop q.2).take (Tryz.prog.cellsOf q.1))).map List.flatten:=by
   conv => lhs; unfold Program.keyLits
   simp only [u76]
   rw [if_pos ⟨by rw [d76]; rfl,hb⟩,List.mapM_map]
   rfl
  rw [e,hf]
  simp [d3,d74,k3 (n + 1) _ h3,k74 n]
 have ht:Tryz.prog.keyType 76 = true:=by kernel_rfl
 have hsz:3 ≤ Tryz.prog.types.size + 1:=Nat.le_of_ble_eq_true (by kernel_rfl)
 obtain ⟨n,hn⟩ : ∃ n,Tryz.prog.types.size + 1 = n + 3:=⟨Tryz.prog.types.size + 1 - 3,by omega⟩
 have hk:=k76 n
 rw [← hn] at hk
 have hfo:(kval true p.l).formed Tryz.prog 76 = true:=by
  simp only [kval,if_true,Value.formed,u76,d76]
  rfl
 have key:keyOf Tryz.prog 76 (kval true p.l) = ((Tryz.prog.keyLits (Tryz.prog.types.size + 1) 76 (kval true p.l).cells.toList).map fun ls => Lit.string (keyBytes ls)):=by
  unfold keyOf
  rw [u76]
  simp only [ht,hfo,Bool.and_self,if_true]
 have hc:(kval true p.l).cells.toList = [.int .i64 p.pl,.int .i64 p.cr,.int .i64 p.bo]:=rfl
 rw [hc,hk] at key
 exact ⟨_,key⟩
theorem CpOk.key {w:Wh} (hw:WhOk w) {p:Cp} (h:CpOk w p):∃ l,keyOf Tryz.prog 76 (kval true p.l) = some l:=by
 have hro:=hw.ro
 obtain ⟨h1,h2,h3⟩:=h
 refine cpKey ⟨?_,?_⟩ ⟨?_,?_⟩ ⟨?_,?_⟩ <;> omega
theorem gl3_keys {w:Wh} (hw:WhOk w) {S:Cks} (hS:∀ x ∈ cks S,CpOk w x):∀ p ∈ gl3 S,∃ l,keyOf Tryz.prog 76 (kval true p.1) = some l:=fun p hp => by
 obtain ⟨e,he,rfl⟩:=List.mem_map.1 hp
 exact (hS e.1 (List.mem_map_of_mem he)).key hw
end Go.Proofs.YtbclmfjibpppfaaGreat
