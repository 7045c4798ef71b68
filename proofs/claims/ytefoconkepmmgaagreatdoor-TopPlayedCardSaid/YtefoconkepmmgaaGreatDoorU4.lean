/-
  Contracts of the layer's functions, of the laws' helpers and of the law; conditions: as each theorem states.
-/
import Derived.Test.YtefoconkepmmgaaGreatDoorV2
import Derived.Test.YtefoconkepmmgaaGreatDoorV3
import Derived.Test.YtefoconkepmmgaaGreatDoorChecked
import Derived.Shelf.Strings.Split
import Derived.Shelf.Strings.Prefix
import Derived.Shelf.Strconv.Atoi
import Derived.Lib.AtoiErrMem
set_option linter.unusedVariables false
set_option linter.unusedSimpArgs false
namespace Go.V
abbrev JS (d:Nat) (i:I):Ins:=⟨some d,i,none,true⟩
abbrev JN (i:I):Ins:=⟨none,i,none,true⟩
abbrev JF (d:Nat) (i:I):Ins:=⟨some d,i,none,false⟩
abbrev JE (i:I):Ins:=⟨none,i,none,false⟩
abbrev JG (d:Nat) (i:I) (g:Nat) (b:Bool):Ins:=⟨some d,i,some (g,b),true⟩
abbrev JH (d:Nat) (i:I) (g:Nat) (b:Bool):Ins:=⟨some d,i,some (g,b),false⟩
abbrev Jm (x:Nat):I:=.mv (.t x)
abbrev Jf (o x:Nat):I:=.fa o (.t x)
abbrev Jl (x:Nat):I:=.ld true 1 (.t x)
abbrev JL (n x:Nat):I:=.ld false n (.t x)
abbrev Jb (o:BinOp) (x y:Nat):I:=.bin o (.t x) (.t y)
abbrev Jk (o:BinOp) (x:Nat) (n:Int):I:=.bin o (.t x) (.k (.c (.int .i64 n)))
abbrev Je (x i:Nat):I:=.ext (.t x) i
abbrev Jn (x:Nat):I:=.len (.t x)
abbrev Ji (n:Int):I:=.mv (.k (.c (.int .i64 n)))
abbrev JB (b:Bool):I:=.mv (.k (.c (.bool b)))
abbrev Js (n x y:Nat):I:=.st n (.t x) (.t y)
abbrev Ja (n x i:Nat):I:=.ia n (.t x) (.t i)
abbrev Jc (f:FuncId) (l:List X):I:=.call (.k (.fn f [])) l
abbrev Jo (x y:Nat):I:=.pick (.t x) (.k (.c (.bool true))) (.t y)
abbrev Jp (x y:Nat):I:=.pick (.t x) (.t y) (.k (.c (.bool false)))
abbrev Jz (n:Int):AV:=.c (.int .i64 n)
abbrev J0:AV:=.c (.raw (.slice none 0 0))
end Go.V

/-
 Routes as data,and what comes of them: plain.
-/
namespace Go.Proofs.YtefoconkepmmgaaGreatDoor
open Go Go.V
abbrev iv (n:Int):AV:=.c (.int .i64 n)
def ints (l:List Int):CD:=.sl 1 (l.map fun n => [.int .i64 n])
def within (n lo hi:Int):Bool:=decide (lo ≤ n) && decide (n ≤ hi)
theorem ints_lens {l:List Int} (h:(ints l).lens):l.length ≤ 9223372036854775807:=by
 simp only [ints,CD.lens,List.length_map,maxLen] at h; omega
theorem map_getD {α β:Type} {l:List α} {f:α → β} {k:Nat} {d:β} (h:k < l.length):(l.map f).getD k d = f l[k]:=by
 simp [h]
theorem take_all {α:Type} {l:List α} {k:Nat} (p:α → Bool) (h:k < l.length):(l.take (k + 1)).all p = ((l.take k).all p && p l[k]):=by
 rw [List.take_succ_eq_append_getElem h,List.all_append]; simp [List.all_cons]
theorem ibeq (a b:Nat):((a:Int) == (b:Int)) = (a == b):=by rw [Bool.eq_iff_iff]; simp; omega
theorem ibne (a b:Nat):((a:Int) != (b:Int)) = !(a == b):=by rw [bne,ibeq]
end Go.Proofs.YtefoconkepmmgaaGreatDoor

namespace Go.Proofs.YtefoconkepmmgaaGreatDoor
open Go Go.V
abbrev o33_0:List Ins:=[JS 6 (JB false)]
abbrev o33_1:List Ins:=[JS 7 (Jm 1),JS 8 (Jm 0),JS 9 (Jb .leq 7 8),JS 10 (Jm 9),JG 11 (Jm 0) 10 true,JG 12 (Jm 2) 10 true,JG 13 (Jb .leq 11 12) 10 true,JS 14 (Jp 10 13),JS 6 (Jm 14)]
abbrev v33_2:VC:=(.seq (.ops o33_1) .ret)
def ir33:FC:=⟨3,15,[.t 6],(.seq (.ops o33_0) v33_2)⟩
abbrev o71_0:List Ins:=[JS 6 (JB false)]
abbrev o71_1:List Ins:=[JS 9 (Jm 0),JS 10 (Jn 9),JS 11 (Ji 0)]
abbrev o71_2:List Ins:=[JS 12 (Jb .lss 11 10)]
abbrev o71_3:List Ins:=[JS 13 (Jm 11),JS 14 (Ja 1 9 11),JS 15 (Jl 14),JS 7 (Jm 13),JS 8 (Jm 15)]
abbrev o71_4:List Ins:=[JS 16 (Jm 8),JS 17 (Jm 2),JS 18 (Jc 33 [.t 16,(.k (Jz 1)),.t 17]),JS 19 (.un .not (.t 18)),JS 20 (Jm 19),JG 21 (Jm 7) 20 false,JG 22 (Jk .gtr 21 0) 20 false,JG 23 (Jm 22) 20 false,JG 24 (Jm 8) 23 true,JG 25 (Jm 0) 23 true,JG 26 (Jm 7) 23 true,JG 27 (Jk .sub 26 1) 23 true,JG 28 (Ja 1 25 27) 23 true,JG 29 (Jl 28) 23 true,JG 30 (Jb .leq 24 29) 23 true,JG 31 (Jp 23 30) 20 false,JS 32 (Jo 20 31)]
abbrev o71_5:List Ins:=[JS 6 (JB false)]
abbrev v71_6:VC:=(.seq (.ops o71_5) .ret)
abbrev v71_7:VC:=(.cond (.t 32) v71_6 .skip)
abbrev v71_8:VC:=(.seq (.ops o71_4) v71_7)
abbrev v71_9:VC:=(.seq (.ops o71_3) v71_8)
abbrev o71_10:List Ins:=[JS 33 (Jk .add 11 1),JS 11 (Jm 33)]
abbrev v71_11:VC:=(.seq (.block 1 v71_9) (.ops o71_10))
abbrev v71_12:VC:=(.seq (.cond (.t 12) .skip (.exit 0)) v71_11)
abbrev v71_13:VC:=(.seq (.ops o71_2) v71_12)
-- K71_1: changed and kept: [11]
abbrev v71_14:VC:=(.loop v71_13)
abbrev v71_15:VC:=(.block 0 v71_14)
abbrev o71_16:List Ins:=[JS 34 (Jm 0),JS 35 (Jn 34),JS 36 (Jm 1),JS 37 (Jb .leq 35 36),JS 6 (Jm 37)]
abbrev v71_17:VC:=(.seq (.ops o71_16) .ret)
abbrev v71_18:VC:=(.seq (.seq (.ops o71_1) v71_15) v71_17)
def ir71:FC:=⟨3,38,[.t 6],(.seq (.ops o71_0) v71_18)⟩
theorem c33:compM Tryz.prog [] 33 = some ir33:=by kernel_rfl
theorem c71:compM Tryz.prog [] 71 = some ir71:=by kernel_rfl
attribute [local go_sem] Nat.reduceEqDiff Nat.reduceAdd Nat.reduceMul reduceIte Nat.reduceLeDiff Nat.reduceLT Nat.reduceBEq reduceCtorEq
structure Wh where
 ro:Int
 no:List Int
 co:List Int
def Wh.avs (w:Wh):List AV:=[.c (.int .i64 w.ro),.c (ints w.no),.c (ints w.co)]
def Wh.av (w:Wh):AV:=.agg w.avs
theorem ints_get {l:List Int} {i:Nat} (hi:i < l.length):(l.map fun n => [CD.int .i64 n]).getD i [] = [.int .i64 (l.getD i 0)]:=by
 rw [map_getD hi,List.getD_eq_getElem?_getD,List.getElem?_eq_getElem hi]; rfl
theorem within50 (a b c:Int):FSpec Tryz.prog 33 [iv a,iv b,iv c] (.c (.bool (within a b c))):=by
 refine FSpec_of c33 (Nat.le_refl _) (by decide) fun C hP hN hC hL => ?_; rw [init_st]
 simp only [ir33]
 (repeat ((first | refine Va ?_ | refine Vb ?_ | refine Vc ?_ | refine Vd ?_ | refine Ve ?_ | refine Vf ?_); (try simp only [go_sem,hP]); (repeat refine qJ ?_)))
 (refine WV_ret ?_; simp only [thenQ,inQ,RetQ,RetOk,resAll,resA]; simp only [go_sem,tupA,AV.port,AV.portL,exists_eq_left']; (first | exact AVle.of rfl | refine AVle.of ?_ | skip))
def risK (lo hi:Int) (l:List Int):Nat → Bool
 | 0 => true
 | k + 1 => risK lo hi l k && (within (l.getD k 0) lo hi && (decide (k = 0) || decide (l.getD (k - 1) 0 < l.getD k 0)))
theorem risK_false {lo hi:Int} {l:List Int}:∀ {k m:Nat},risK lo hi l k = false → k ≤ m → risK lo hi l m = false
 | k,0,h,hm => by rwa [show k = 0 by omega] at h
 | k,m + 1,h,hm => by
  rcases Nat.lt_or_ge m k with h1 | h1
  ·rwa [show k = m + 1 by omega] at h
  ·unfold risK; rw [risK_false h h1]; rfl
def risB (lo hi:Int) (l:List Int):Bool:=risK lo hi l l.length
theorem risB_in {lo hi:Int} {l:List Int} (h:risB lo hi l = true):∀ n ∈ l,lo ≤ n ∧ n ≤ hi:=by
 have key:∀ k,risK lo hi l k = true → ∀ i,i < k → lo ≤ l.getD i 0 ∧ l.getD i 0 ≤ hi:=by
  intro k
  induction k with
  | zero => intro _ i hi; omega
  | succ k ih =>
   intro h i hi
   simp only [risK,Bool.and_eq_true,within,decide_eq_true_eq] at h
   rcases Nat.lt_or_ge i k with h1 | h1
   ·exact ih h.1 i h1
   ·rw [show i = k by omega]; exact h.2.1
 intro n hn
 obtain ⟨i,hi,rfl⟩:=List.getElem_of_mem hn
 have:=key _ h i hi
 rwa [List.getD_eq_getElem?_getD,List.getElem?_eq_getElem hi] at this
theorem risK_ge {lo hi:Int} {l:List Int}:∀ k,risK lo hi l k = true → ∀ i:Nat,i < k → lo + i ≤ l.getD i 0
 | 0,_,i,hi => by omega
 | k + 1,h,i,hi => by
  simp only [risK,Bool.and_eq_true,Bool.or_eq_true,within,decide_eq_true_eq] at h
  have ih:=risK_ge k h.1
  rcases Nat.lt_or_ge i k with h1 | h1
  ·exact ih i h1
  ·obtain rfl:i = k:=by omega
   rcases h.2.2 with h2 | h2
   ·subst h2; have:=h.2.1.1; omega
   ·rcases Nat.eq_zero_or_pos i with h3 | h3
    ·subst h3; have:=h.2.1.1; omega
    ·have:=ih (i - 1) (by omega)
     omega
theorem risB_len {hi:Int} {l:List Int} (h:risB 1 hi l = true) (h0:0 ≤ hi):(l.length:Int) ≤ hi:=by
 rcases Nat.eq_zero_or_pos l.length with h1 | h1
 ·omega
 ·have h2:=risK_ge _ h (l.length - 1) (by omega)
  have h3:=risB_in h (l.getD (l.length - 1) 0) (by rw [List.getD_eq_getElem?_getD,List.getElem?_eq_getElem (by omega)]; exact List.getElem_mem _)
  omega
set_option maxHeartbeats 8000000 in
theorem rising51 (l:List Int) (many most:Int):FSpec Tryz.prog 71 [.c (ints l),iv many,iv most] (.c (.bool (risB 1 most l && decide ((l.length:Int) ≤ many)))):=by
 refine FSpec_of c71 (Nat.le_refl _) (by decide) fun C hP hN hC hL => ?_; rw [init_st]
 have hl:l.length ≤ 9223372036854775807:=by simp only [AV.lensL,AV.lens] at hL; exact ints_lens hL.1
 simp only [ir71]
 (repeat ((first | refine Va ?_ | refine Vb ?_ | refine Vc ?_ | refine Vd ?_ | refine Ve ?_ | refine Vf ?_); (try simp only [go_sem,hP]); (repeat refine qJ ?_)))
 refine WV_loopS (fun k:Nat => ⟨upd (upd (upd (upd (upd (upd e0 0 (.c (ints l))) 1 (iv many)) 2 (iv most)) 9 (.c (ints l))) 10 (iv l.length)) 11 (iv k),o0⟩) (fun k => k ≤ l.length ∧ risK 1 most l k = true) (fun k => l.length - k) 0 ⟨Nat.zero_le _,rfl⟩ ?_ ?_
 ·(refine Sub_of (by simp only [go_sem]; ((repeat' (first | exact EnvLe_e0 _ _ | refine EnvLe_upd ?_ ?_)) <;> ((try simp only [upd_app,e0_app,o0_app,Nat.reduceEqDiff,reduceIte]); first | exact AWk.refl _ _ | exact AWk.int (by omega) | exact AWk.int (by rw [w64 (by omega) (by omega)]; omega) | exact AWk.grow rfl | exact AWk.nil _ | exact AWk.of (by simp [ints])))) (by simp only [go_sem]; exact ObjLe_au))
 rintro k ⟨hk,hr⟩
 (repeat ((first | refine Va ?_ | refine Vb ?_ | refine Vc ?_ | refine Vd ?_ | refine Ve ?_ | refine Vf ?_); (try simp only [go_sem,hP,ints,List.length_map]); (repeat refine qJ ?_)))
 (refine WV_cond rfl (fun h => ?_) (fun h => ?_))
 ·have hi:k < l.length:=by simpa using h
  have hw:=w64 (n:=(k:Int) + 1) (by omega) (by omega)
  have hgd:=ints_get hi
  have hs:risK 1 most l (k + 1) = (within (l.getD k 0) 1 most && (decide (k = 0) || decide (l.getD (k - 1) 0 < l.getD k 0))):=by
   conv => lhs; unfold risK
   rw [hr]; rfl
  have hfail:risK 1 most l (k + 1) = false → risB 1 most l = false:=fun h => risK_false h hi
  generalize l.getD k 0 = a at hgd hs
  have hz0:(Go.IntKind.i64.wrap (((0:Nat):Int) - 1)).toNat = 0:=rfl
  by_cases hz:k = 0
  ·subst hz
   have hd0:decide ((0:Int) < ((0:Nat):Int)) = false:=rfl
   have hs:risK 1 most l (0 + 1) = within a 1 most:=by rw [hs]; simp
   (repeat ((first | refine Va ?_ | refine Vb ?_ | refine Vc ?_ | refine Vd ?_ | refine Ve ?_ | refine Vf ?_); (try simp only [go_sem,hP,hgd,ints,List.length_map,Int.toNat_natCast,Int.ofNat_lt,hi,Int.natCast_nonneg,hd0,hz0]); (repeat refine qJ ?_)))
   (refine AS_pu (within50 a 1 most) ?_; simp only [go_sem,hP,hd0,hz0,hgd,ints,List.length_map,Int.toNat_natCast]; (repeat refine qJ ?_); (repeat ((first | refine Va ?_ | refine Vb ?_ | refine Vc ?_ | refine Vd ?_ | refine Ve ?_ | refine Vf ?_); (try simp only [go_sem,hP,hd0,hz0,hgd,ints,List.length_map,Int.toNat_natCast]); (repeat refine qJ ?_))))
   by_cases hin:within a 1 most = true
   ·rw [hin] at hs
    (refine WV_cond rfl (fun h => ?_) (fun h => ?_))
    ·simp [hin] at h
    (repeat ((first | refine Va ?_ | refine Vb ?_ | refine Vc ?_ | refine Vd ?_ | refine Ve ?_ | refine Vf ?_); (try simp only [go_sem,hP,hw]); (repeat refine qJ ?_)))
    refine ⟨0 + 1,⟨by omega,hs⟩,by omega,?_⟩
    (refine Sub_of (by simp only [go_sem]; ((repeat' (first | exact EnvLe_e0 _ _ | refine EnvLe_upd ?_ ?_)) <;> ((try simp only [upd_app,e0_app,o0_app,Nat.reduceEqDiff,reduceIte]); first | exact AWk.refl _ _ | exact AWk.int (by omega) | exact AWk.int (by rw [w64 (by omega) (by omega)]; omega) | exact AWk.grow rfl | exact AWk.nil _ | exact AWk.of (by simp [ints])))) (by simp only [go_sem]; exact ObjLe_au))
   ·have hin:within a 1 most = false:=by simpa using hin
    rw [hin] at hs
    rw [hfail hs]
    (refine WV_cond rfl (fun h => ?_) (fun h => ?_))
    ·(repeat ((first | refine Va ?_ | refine Vb ?_ | refine Vc ?_ | refine Vd ?_ | refine Ve ?_ | refine Vf ?_); (try simp only [go_sem,hP]); (repeat refine qJ ?_)))
     (refine WV_ret ?_; simp only [thenQ,inQ,RetQ,RetOk,resAll,resA]; simp only [go_sem,tupA,AV.port,AV.portL,exists_eq_left']; (first | exact AVle.of rfl | refine AVle.of ?_ | skip))
    ·simp [hin] at h
  ·have hgp:=ints_get (l:=l) (i:=k - 1) (by omega)
   generalize l.getD (k - 1) 0 = b at hgp hs
   have hd1:decide ((0:Int) < (k:Int)) = true:=by rw [decide_eq_true_eq]; omega
   have wi:=w64 (n:=(k:Int) - 1) (by omega) (by omega)
   have ei:((k:Int) - 1).toNat = k - 1:=by omega
   have hlt:(k:Int) - 1 < (l.length:Int):=by omega
   have hge:(0:Int) ≤ (k:Int) - 1:=by omega
   have hs:risK 1 most l (k + 1) = (within a 1 most && decide (b < a)):=by rw [hs]; simp [hz]
   (repeat ((first | refine Va ?_ | refine Vb ?_ | refine Vc ?_ | refine Vd ?_ | refine Ve ?_ | refine Vf ?_); (try simp only [go_sem,hP,hgd,ints,List.length_map,Int.toNat_natCast,Int.ofNat_lt,hi,Int.natCast_nonneg,hd1]); (repeat refine qJ ?_)))
   (refine AS_pu (within50 a 1 most) ?_; simp only [go_sem,hP,hd1,hgd,hgp,wi,ei,hlt,hge,ints,List.length_map,Int.toNat_natCast,Int.ofNat_lt,hi,Int.natCast_nonneg]; (repeat refine qJ ?_); (repeat ((first | refine Va ?_ | refine Vb ?_ | refine Vc ?_ | refine Vd ?_ | refine Ve ?_ | refine Vf ?_); (try simp only [go_sem,hP,hd1,hgd,hgp,wi,ei,hlt,hge,ints,List.length_map,Int.toNat_natCast,Int.ofNat_lt,hi,Int.natCast_nonneg]); (repeat refine qJ ?_))))
   by_cases hin:(within a 1 most && decide (b < a)) = true
   ·rw [hin] at hs
    rw [Bool.and_eq_true,decide_eq_true_eq] at hin
    (refine WV_cond rfl (fun h => ?_) (fun h => ?_))
    ·rw [hin.1] at h; simp at h; omega
    (repeat ((first | refine Va ?_ | refine Vb ?_ | refine Vc ?_ | refine Vd ?_ | refine Ve ?_ | refine Vf ?_); (try simp only [go_sem,hP,hw]); (repeat refine qJ ?_)))
    refine ⟨k + 1,⟨by omega,hs⟩,by omega,?_⟩
    (refine Sub_of (by simp only [go_sem]; ((repeat' (first | exact EnvLe_e0 _ _ | refine EnvLe_upd ?_ ?_)) <;> ((try simp only [upd_app,e0_app,o0_app,Nat.reduceEqDiff,reduceIte]); first | exact AWk.refl _ _ | exact AWk.int (by omega) | exact AWk.int (by rw [w64 (by omega) (by omega)]; omega) | exact AWk.grow rfl | exact AWk.nil _ | exact AWk.of (by simp [ints])))) (by simp only [go_sem]; exact ObjLe_au))
   ·have hin:(within a 1 most && decide (b < a)) = false:=by simpa using hin
    rw [hin] at hs
    rw [hfail hs]
    (refine WV_cond rfl (fun h => ?_) (fun h => ?_))
    ·(repeat ((first | refine Va ?_ | refine Vb ?_ | refine Vc ?_ | refine Vd ?_ | refine Ve ?_ | refine Vf ?_); (try simp only [go_sem,hP]); (repeat refine qJ ?_)))
     (refine WV_ret ?_; simp only [thenQ,inQ,RetQ,RetOk,resAll,resA]; simp only [go_sem,tupA,AV.port,AV.portL,exists_eq_left']; (first | exact AVle.of rfl | refine AVle.of ?_ | skip))
    ·cases h1:within a 1 most with
     | false => rw [h1] at h; simp at h
     | true => rw [h1] at h hin; simp at h hin; omega
 ·have hi:k = l.length:=by simp at h; omega
  subst hi
  unfold risB
  rw [hr]
  (repeat ((first | refine Va ?_ | refine Vb ?_ | refine Vc ?_ | refine Vd ?_ | refine Ve ?_ | refine Vf ?_); (try simp only [go_sem,hP,ints,List.length_map]); (repeat refine qJ ?_)))
  (refine WV_ret ?_; simp only [thenQ,inQ,RetQ,RetOk,resAll,resA]; simp only [go_sem,tupA,AV.port,AV.portL,exists_eq_left']; (first | exact AVle.of rfl | refine AVle.of ?_ | skip))
end Go.Proofs.YtefoconkepmmgaaGreatDoor

namespace Go.Proofs.YtefoconkepmmgaaGreatDoor
open Go Go.V
abbrev o56_0:List Ins:=[JS 1 (.box 3 (.t 0)),JS 2 (Ji 0)]
abbrev o56_1:List Ins:=[JS 3 (Jf 0 1),JS 4 (Jl 3),JS 5 (Jc 33 [.t 4,(.k (Jz 1)),(.k (Jz 200))]),JS 6 (.un .not (.t 5)),JS 7 (Jm 6),JG 8 (Jf 1 1) 7 false,JG 9 (Jl 8) 7 false,JG 10 (Jf 0 1) 7 false,JG 11 (Jl 10) 7 false,JG 12 (Jc 71 [.t 9,(.k (Jz 12)),.t 11]) 7 false,JG 13 (.un .not (.t 12)) 7 false,JS 14 (Jo 7 13),JS 15 (Jm 14),JG 16 (Jf 2 1) 15 false,JG 17 (Jl 16) 15 false,JG 18 (Jc 71 [.t 17,(.k (Jz 4)),(.k (Jz 100))]) 15 false,JG 19 (.un .not (.t 18)) 15 false,JS 20 (Jo 15 19)]
abbrev o56_2:List Ins:=[JS 2 (Ji 10)]
abbrev v56_3:VC:=(.seq (.ops o56_2) .ret)
abbrev v56_4:VC:=(.cond (.t 20) v56_3 .skip)
abbrev o56_5:List Ins:=[JS 2 (Ji 0)]
abbrev v56_6:VC:=(.seq (.ops o56_5) .ret)
abbrev v56_7:VC:=(.seq (.seq (.ops o56_1) v56_4) v56_6)
def ir56:FC:=⟨1,21,[.t 2],(.seq (.ops o56_0) v56_7)⟩
abbrev o60_0:List Ins:=[JS 3 (.box 3 (.t 0)),JS 6 (Ji 0),JS 7 (Ji 0)]
abbrev o60_1:List Ins:=[JS 11 (Jm 1),JS 12 (Jm 2),JS 13 (Jb .add 11 12),JS 8 (Jm 13)]
abbrev o60_2:List Ins:=[JS 14 (Jf 0 3),JS 15 (Jf 1 14),JS 16 (Jl 15),JS 17 (Jn 16),JS 18 (Ji 0)]
abbrev o60_3:List Ins:=[JS 19 (Jb .lss 18 17)]
abbrev o60_4:List Ins:=[JS 20 (Ja 1 16 18),JS 21 (Jl 20),JS 10 (Jm 21)]
abbrev o60_5:List Ins:=[JF 22 (Jm 7),JF 23 (Jm 8),JF 24 (Jm 10),JF 25 (Jb .sub 23 24),JF 26 (Jf 0 3),JF 27 (Jf 0 26),JF 28 (Jl 27),JF 29 (Jb .add 25 28),JF 30 (Jf 0 3),JF 31 (Jf 0 30),JF 32 (Jl 31),JF 33 (Jb .quo 29 32),JF 34 (Jm 1),JF 35 (Jm 10),JF 36 (Jb .sub 34 35),JF 37 (Jf 0 3),JF 38 (Jf 0 37),JF 39 (Jl 38),JF 40 (Jb .add 36 39),JF 41 (Jf 0 3),JF 42 (Jf 0 41),JF 43 (Jl 42),JF 44 (Jb .quo 40 43),JF 45 (Jb .sub 33 44),JS 46 (Jb .add 22 45),JS 7 (Jm 46)]
abbrev v60_6:VC:=(.seq (.ops o60_4) (.dops o60_5))
abbrev o60_7:List Ins:=[JS 47 (Jk .add 18 1),JS 18 (Jm 47)]
abbrev v60_8:VC:=(.seq (.block 1 v60_6) (.ops o60_7))
abbrev v60_9:VC:=(.seq (.cond (.t 19) .skip (.exit 0)) v60_8)
abbrev v60_10:VC:=(.seq (.ops o60_3) v60_9)
-- K60_1: changed and kept: [18,7]
abbrev K60_1:List Nat:=[1,3,8,16,17]
abbrev v60_11:VC:=(.loop v60_10)
abbrev v60_12:VC:=(.block 0 v60_11)
abbrev o60_13:List Ins:=[JS 48 (Jm 8),JS 49 (Jf 0 3),JS 50 (Jf 0 49),JS 51 (Jl 50),JS 52 (Jb .rem 48 51),JS 53 (Jm 7),JS 6 (Jm 52),JS 7 (Jm 53)]
abbrev v60_14:VC:=(.seq (.ops o60_13) .ret)
abbrev v60_15:VC:=(.seq (.seq (.ops o60_2) v60_12) v60_14)
abbrev v60_16:VC:=(.seq (.ops o60_1) v60_15)
def ir60:FC:=⟨3,54,[.t 6,.t 7],(.seq (.ops o60_0) v60_16)⟩
abbrev o32_0:List Ins:=[JS 2 (.box 3 (.t 0)),JS 4 (JB false)]
abbrev o32_1:List Ins:=[JS 5 (Jm 1),JS 6 (Jf 0 2),JS 7 (Jf 0 6),JS 8 (Jl 7),JS 9 (Jk .sub 8 1),JS 10 (Jc 33 [.t 5,(.k (Jz 0)),.t 9]),JS 4 (Jm 10)]
abbrev v32_2:VC:=(.seq (.ops o32_1) .ret)
def ir32:FC:=⟨2,11,[.t 4],(.seq (.ops o32_0) v32_2)⟩
abbrev o59_0:List Ins:=[JS 2 (.box 3 (.t 0)),JS 4 (JB false)]
abbrev o59_1:List Ins:=[JS 5 (Jm 1),JS 6 (Jf 0 2),JS 7 (Jf 2 6),JS 8 (Jl 7),JS 9 (Jn 8),JS 10 (Jk .sub 9 1),JS 11 (Jc 33 [.t 5,(.k (Jz 0)),.t 10]),JS 4 (Jm 11)]
abbrev v59_2:VC:=(.seq (.ops o59_1) .ret)
def ir59:FC:=⟨2,12,[.t 4],(.seq (.ops o59_0) v59_2)⟩
abbrev o35_0:List Ins:=[JS 2 (.box 3 (.t 0)),JS 4 (JB false)]
abbrev o35_1:List Ins:=[JS 5 (Jm 1),JS 6 (Jk .eql 5 (-1)),JS 7 (Jm 6),JG 8 (JL 3 2) 7 false,JG 9 (Jm 1) 7 false,JG 10 (Jc 59 [.t 8,.t 9]) 7 false,JS 11 (Jo 7 10),JS 4 (Jm 11)]
abbrev v35_2:VC:=(.seq (.ops o35_1) .ret)
def ir35:FC:=⟨2,12,[.t 4],(.seq (.ops o35_0) v35_2)⟩
theorem c56:compM Tryz.prog [] 56 = some ir56:=by kernel_rfl
theorem c60:compM Tryz.prog [] 60 = some ir60:=by kernel_rfl
theorem c32:compM Tryz.prog [] 32 = some ir32:=by kernel_rfl
theorem c59:compM Tryz.prog [] 59 = some ir59:=by kernel_rfl
theorem c35:compM Tryz.prog [] 35 = some ir35:=by kernel_rfl
attribute [local go_sem] Nat.reduceEqDiff Nat.reduceAdd Nat.reduceMul reduceIte Nat.reduceLeDiff Nat.reduceLT Nat.reduceBEq reduceCtorEq
def whB (w:Wh):Bool:=within w.ro 1 200 && (risB 1 w.ro w.no && decide ((w.no.length:Int) ≤ 12)) && (risB 1 100 w.co && decide ((w.co.length:Int) ≤ 4))
structure WhOk (w:Wh):Prop where
 ro:1 ≤ w.ro ∧ w.ro ≤ 200
 no:∀ n ∈ w.no,1 ≤ n ∧ n ≤ w.ro
 nl:w.no.length ≤ 12
 nr:(w.no.length:Int) ≤ w.ro
 co:∀ n ∈ w.co,1 ≤ n ∧ n ≤ 100
 cl:w.co.length ≤ 4
theorem whB_ok {w:Wh} (h:whB w = true):WhOk w:=by
 simp only [whB,Bool.and_eq_true,decide_eq_true_eq,within] at h
 exact ⟨h.1.1,risB_in h.1.2.1,by omega,risB_len h.1.2.1 (by omega),risB_in h.2.1,by omega⟩
def whE (w:Wh):Int:=if whB w then 0 else 10
theorem check36 (w:Wh):FSpec Tryz.prog 56 [w.av] (iv (whE w)):=by
 refine FSpec_of c56 (Nat.le_refl _) (by decide) fun C hP hN hC hL => ?_; rw [init_st]
 simp only [ir56,Wh.av,Wh.avs]
 (repeat ((first | refine Va ?_ | refine Vb ?_ | refine Vc ?_ | refine Vd ?_ | refine Ve ?_ | refine Vf ?_); (try simp only [go_sem,hP,Wh.avs,ints]); (repeat refine qJ ?_)))
 (refine AS_pu (within50 w.ro 1 200) ?_; simp only [go_sem,hP,ints]; (repeat refine qJ ?_); (repeat ((first | refine Va ?_ | refine Vb ?_ | refine Vc ?_ | refine Vd ?_ | refine Ve ?_ | refine Vf ?_); (try simp only [go_sem,hP,ints]); (repeat refine qJ ?_))))
 by_cases h1:within w.ro 1 200 = true
 ·simp only [go_sem,h1]
  (refine AG_pu (fun hG => rising51 w.no 12 w.ro) ?_; simp only [go_sem,hP,ints,h1]; (repeat refine qJ ?_); (repeat ((first | refine Va ?_ | refine Vb ?_ | refine Vc ?_ | refine Vd ?_ | refine Ve ?_ | refine Vf ?_); (try simp only [go_sem,hP,ints,h1]); (repeat refine qJ ?_))))
  by_cases h2:(risB 1 w.ro w.no && decide ((w.no.length:Int) ≤ 12)) = true
  ·simp only [go_sem,h2]
   (refine AG_pu (fun hG => rising51 w.co 4 100) ?_; simp only [go_sem,hP,ints,h1,h2]; (repeat refine qJ ?_); (repeat ((first | refine Va ?_ | refine Vb ?_ | refine Vc ?_ | refine Vd ?_ | refine Ve ?_ | refine Vf ?_); (try simp only [go_sem,hP,ints,h1,h2]); (repeat refine qJ ?_))))
   by_cases h3:(risB 1 100 w.co && decide ((w.co.length:Int) ≤ 4)) = true
   ·(refine WV_cond rfl (fun h => ?_) (fun h => ?_))
    ·simp [h3] at h
    ·(repeat ((first | refine Va ?_ | refine Vb ?_ | refine Vc ?_ | refine Vd ?_ | refine Ve ?_ | refine Vf ?_); (try simp only [go_sem,hP]); (repeat refine qJ ?_)))
     have:whE w = 0:=by unfold whE whB; rw [h1,h2,h3]; rfl
     rw [this]
     (refine WV_ret ?_; simp only [thenQ,inQ,RetQ,RetOk,resAll,resA]; simp only [go_sem,tupA,AV.port,AV.portL,exists_eq_left']; (first | exact AVle.of rfl | refine AVle.of ?_ | skip))
   ·have h3:(risB 1 100 w.co && decide ((w.co.length:Int) ≤ 4)) = false:=by simpa using h3
    have:whE w = 10:=by unfold whE whB; rw [h1,h2,h3]; rfl
    rw [this]
    (refine WV_cond rfl (fun h => ?_) (fun h => ?_))
    ·(repeat ((first | refine Va ?_ | refine Vb ?_ | refine Vc ?_ | refine Vd ?_ | refine Ve ?_ | refine Vf ?_); (try simp only [go_sem,hP]); (repeat refine qJ ?_)))
     (refine WV_ret ?_; simp only [thenQ,inQ,RetQ,RetOk,resAll,resA]; simp only [go_sem,tupA,AV.port,AV.portL,exists_eq_left']; (first | exact AVle.of rfl | refine AVle.of ?_ | skip))
    ·simp [h3] at h
  ·have h2:(risB 1 w.ro w.no && decide ((w.no.length:Int) ≤ 12)) = false:=by simpa using h2
   have:whE w = 10:=by unfold whE whB; rw [h1,h2]; rfl
   rw [this]
   simp only [go_sem,h2]
   (refine AG_skip ?_; simp only [go_sem,hP]; (repeat refine qJ ?_); (repeat ((first | refine Va ?_ | refine Vb ?_ | refine Vc ?_ | refine Vd ?_ | refine Ve ?_ | refine Vf ?_); (try simp only [go_sem,hP]); (repeat refine qJ ?_))))
   (refine WV_cond rfl (fun h => ?_) (fun h => ?_))
   ·(repeat ((first | refine Va ?_ | refine Vb ?_ | refine Vc ?_ | refine Vd ?_ | refine Ve ?_ | refine Vf ?_); (try simp only [go_sem,hP]); (repeat refine qJ ?_)))
    (refine WV_ret ?_; simp only [thenQ,inQ,RetQ,RetOk,resAll,resA]; simp only [go_sem,tupA,AV.port,AV.portL,exists_eq_left']; (first | exact AVle.of rfl | refine AVle.of ?_ | skip))
   ·simp at h
 ·have h1:within w.ro 1 200 = false:=by simpa using h1
  have:whE w = 10:=by unfold whE whB; rw [h1]; rfl
  rw [this]
  simp only [go_sem,h1]
  (refine AG_skip ?_; simp only [go_sem,hP]; (repeat refine qJ ?_); (repeat ((first | refine Va ?_ | refine Vb ?_ | refine Vc ?_ | refine Vd ?_ | refine Ve ?_ | refine Vf ?_); (try simp only [go_sem,hP]); (repeat refine qJ ?_))))
  (refine AG_skip ?_; simp only [go_sem,hP]; (repeat refine qJ ?_); (repeat ((first | refine Va ?_ | refine Vb ?_ | refine Vc ?_ | refine Vd ?_ | refine Ve ?_ | refine Vf ?_); (try simp only [go_sem,hP]); (repeat refine qJ ?_))))
  (refine WV_cond rfl (fun h => ?_) (fun h => ?_))
  ·(repeat ((first | refine Va ?_ | refine Vb ?_ | refine Vc ?_ | refine Vd ?_ | refine Ve ?_ | refine Vf ?_); (try simp only [go_sem,hP]); (repeat refine qJ ?_)))
   (refine WV_ret ?_; simp only [thenQ,inQ,RetQ,RetOk,resAll,resA]; simp only [go_sem,tupA,AV.port,AV.portL,exists_eq_left']; (first | exact AVle.of rfl | refine AVle.of ?_ | skip))
  ·simp at h
def hits (r p c n:Int):Int:=(p + c - n + r) / r - (p - n + r) / r
def plK (w:Wh) (p c:Int) (k:Nat):Int:=((w.no.take k).map (hits w.ro p c)).sum
def plays (w:Wh) (p c:Int):Int:=(w.no.map (hits w.ro p c)).sum
theorem hits_ok {r p c n:Int} (hr:1 ≤ r) (hc:0 ≤ c):0 ≤ hits r p c n ∧ hits r p c n ≤ c / r + 1:=by
 unfold hits
 have h1:(p - n + r) / r ≤ (p + c - n + r) / r:=Int.ediv_le_ediv (by omega) (by omega)
 refine ⟨by omega,?_⟩
 have h2:=Int.lt_ediv_add_one_mul_self (p - n + r) (b:=r) (by omega)
 have h3:=Int.lt_ediv_add_one_mul_self c (b:=r) (by omega)
 have h4:(p + c - n + r) / r < (p - n + r) / r + c / r + 2:=by
  refine Int.ediv_lt_of_lt_mul (by omega) ?_
  rw [Int.add_mul] at h2 h3
  rw [Int.add_mul,Int.add_mul]
  omega
 omega
theorem sum_hits {r p c:Int} (hr:1 ≤ r) (hc:0 ≤ c):∀ l:List Int,0 ≤ (l.map (hits r p c)).sum ∧ (l.map (hits r p c)).sum ≤ l.length * (c / r + 1)
 | [] => by simp
 | n :: l => by
  have h1:=hits_ok (p:=p) (n:=n) hr hc
  have h2:=sum_hits (p:=p) hr hc l
  simp only [List.map_cons,List.sum_cons,List.length_cons,Int.natCast_add,Int.natCast_one,Int.add_mul,Int.one_mul]
  omega
theorem plK_ok {w:Wh} (hw:WhOk w) {p c:Int} (hc:0 ≤ c) (k:Nat):0 ≤ plK w p c k ∧ plK w p c k ≤ c + 12:=by
 have h1:=sum_hits (p:=p) hw.ro.1 hc (w.no.take k)
 refine ⟨h1.1,Int.le_trans h1.2 ?_⟩
 have hl:((w.no.take k).length:Int) ≤ w.no.length:=by rw [List.length_take]; omega
 have h0:0 ≤ c / w.ro:=Int.ediv_nonneg hc (by have:=hw.ro; omega)
 have h2:((w.no.take k).length:Int) * (c / w.ro) ≤ w.ro * (c / w.ro):=Int.mul_le_mul_of_nonneg_right (by have:=hw.nr; omega) h0
 have h3:w.ro * (c / w.ro) ≤ c:=by have:=Int.mul_ediv_add_emod c w.ro; have:=Int.emod_nonneg c (b:=w.ro) (by have:=hw.ro; omega); omega
 have:=hw.nl
 rw [Int.mul_add,Int.mul_one]
 omega
theorem plays_K (w:Wh) (p c:Int):plays w p c = plK w p c w.no.length:=by unfold plays plK; rw [List.take_length]
theorem plays_ok {w:Wh} (hw:WhOk w) {p c:Int} (hc:0 ≤ c):0 ≤ plays w p c ∧ plays w p c ≤ c + 12:=by rw [plays_K]; exact plK_ok hw hc _
theorem plK_succ {w:Wh} {p c:Int} {k:Nat} (h:k < w.no.length):plK w p c (k + 1) = plK w p c k + hits w.ro p c (w.no.getD k 0):=by
 unfold plK
 rw [List.take_succ_eq_append_getElem h,List.map_append,List.sum_append,List.getD_eq_getElem?_getD,List.getElem?_eq_getElem h]
 simp
theorem tdv {a r:Int} (h:0 ≤ a):a.tdiv r = a / r:=Int.tdiv_eq_ediv_of_nonneg h
set_option maxHeartbeats 8000000 in
theorem turn84 {w:Wh} (hw:WhOk w) {p c:Int} (hp:0 ≤ p ∧ p < w.ro) (hc:0 ≤ c ∧ c ≤ 100000):FSpec Tryz.prog 60 [w.av,iv p,iv c] (.tup [iv ((p + c) % w.ro),iv (plays w p c)]):=by
 have hro:=hw.ro
 have hl:=hw.nl
 have w1:=w64 (n:=p + c) (by omega) (by omega)
 refine FSpec_of c60 (Nat.le_refl _) (by decide) fun C hP hN hC hL => ?_; rw [init_st]
 simp only [ir60,Wh.av,Wh.avs]
 (repeat ((first | refine Va ?_ | refine Vb ?_ | refine Vc ?_ | refine Vd ?_ | refine Ve ?_ | refine Vf ?_); (try simp only [go_sem,hP,Wh.avs,ints,w1]); (repeat refine qJ ?_)))
 (refine WV_loopK K60_1 [] (fun k:Nat => k ≤ w.no.length) (fun k => w.no.length - k) (fun k => [(18,iv k),(7,iv (plK w p c k))]) (fun _ => []) 0 (Nat.zero_le _) ?_ ?_)
 ·(refine Sub_of (by simp only [go_sem]; ((repeat' (first | exact EnvLe_e0 _ _ | refine EnvLe_upd ?_ ?_)) <;> ((try simp only [upd_app,e0_app,o0_app,Nat.reduceEqDiff,reduceIte]); first | exact AWk.refl _ _ | exact AWk.int (by omega) | exact AWk.int (by rw [w64 (by omega) (by omega)]; omega) | exact AWk.grow rfl | exact AWk.nil _ | exact AWk.of (by simp [plK])))) (by simp only [go_sem]; exact ObjLe_au))
 ·intro k hk
  (repeat ((first | refine Va ?_ | refine Vb ?_ | refine Vc ?_ | refine Vd ?_ | refine Ve ?_ | refine Vf ?_); (try simp only [go_sem,hP]); (repeat refine qJ ?_)))
  (refine WV_cond rfl (fun h => ?_) (fun h => ?_))
  ·have hi:k < w.no.length:=by simpa using h
   have hgd:=ints_get hi
   have hs:=plK_succ (p:=p) (c:=c) hi
   have hb1:=plK_ok hw (p:=p) hc.1 k
   have hb2:=plK_ok hw (p:=p) hc.1 (k + 1)
   have hn:=hw.no (w.no.getD k 0) (by rw [List.getD_eq_getElem?_getD,List.getElem?_eq_getElem hi]; exact List.getElem_mem _)
   generalize w.no.getD k 0 = n at hgd hs hn
   have hh:=hits_ok (p:=p) (n:=n) hro.1 hc.1
   have w2:=w64 (n:=p + c - n) (by omega) (by omega)
   have w3:=w64 (n:=p + c - n + w.ro) (by omega) (by omega)
   have w4:=w64 (n:=p - n) (by omega) (by omega)
   have w5:=w64 (n:=p - n + w.ro) (by omega) (by omega)
   have t1:=tdv (a:=p + c - n + w.ro) (r:=w.ro) (by omega)
   have t2:=tdv (a:=p - n + w.ro) (r:=w.ro) (by omega)
   have q1:0 ≤ (p + c - n + w.ro) / w.ro ∧ (p + c - n + w.ro) / w.ro ≤ p + c - n + w.ro:=⟨Int.ediv_nonneg (by omega) (by omega),Int.ediv_le_self _ (by omega)⟩
   have q2:0 ≤ (p - n + w.ro) / w.ro ∧ (p - n + w.ro) / w.ro ≤ p - n + w.ro:=⟨Int.ediv_nonneg (by omega) (by omega),Int.ediv_le_self _ (by omega)⟩
   have w6:=w64 (n:=(p + c - n + w.ro) / w.ro) (by omega) (by omega)
   have w7:=w64 (n:=(p - n + w.ro) / w.ro) (by omega) (by omega)
   have w8:IntKind.i64.wrap ((p + c - n + w.ro) / w.ro - (p - n + w.ro) / w.ro) = hits w.ro p c n:=w64 (by omega) (by omega)
   have w9:IntKind.i64.wrap (plK w p c k + hits w.ro p c n) = plK w p c (k + 1):=by rw [hs]; exact w64 (by omega) (by omega)
   have w10:=w64 (n:=(k:Int) + 1) (by omega) (by omega)
   have hz:w.ro ≠ 0:=by omega
   (repeat ((first | refine Va ?_ | refine Vb ?_ | refine Vc ?_ | refine Vd ?_ | refine Ve ?_ | refine Vf ?_); (try simp only [go_sem,hP,hgd,ints,List.length_map,Int.toNat_natCast,Int.ofNat_lt,hi,Int.natCast_nonneg,w1,w2,w3,w4,w5,t1,t2,w6,w7,w8,w9,w10,hz]); (repeat refine qJ ?_)))
   refine ⟨k + 1,by omega,by omega,?_⟩
   exact Sub_au
  ·have hi:k = w.no.length:=by simp at h; omega
   subst hi
   have hz:w.ro ≠ 0:=by omega
   have m1:(p + c).tmod w.ro = (p + c) % w.ro:=Int.tmod_eq_emod_of_nonneg (by omega)
   have w2:=w64 (n:=(p + c) % w.ro) (by have:=Int.emod_nonneg (p + c) hz; omega) (by have:=Int.emod_lt_of_pos (p + c) (b:=w.ro) (by omega); omega)
   (repeat ((first | refine Va ?_ | refine Vb ?_ | refine Vc ?_ | refine Vd ?_ | refine Ve ?_ | refine Vf ?_); (try simp only [go_sem,hP,m1,w2,hz]); (repeat refine qJ ?_)))
   rw [plays_K]
   (refine WV_ret ?_; simp only [thenQ,inQ,RetQ,RetOk,resAll,resA]; simp only [go_sem,tupA,AV.port,AV.portL,exists_eq_left']; (first | exact AVle.of rfl | refine AVle.of ?_ | skip))
theorem isPlace75 {w:Wh} (hw:WhOk w) (p:Int):FSpec Tryz.prog 32 [w.av,iv p] (.c (.bool (within p 0 (w.ro - 1)))):=by
 have hro:=hw.ro
 have w1:=w64 (n:=w.ro - 1) (by omega) (by omega)
 refine FSpec_of c32 (Nat.le_refl _) (by decide) fun C hP hN hC hL => ?_; rw [init_st]
 simp only [ir32,Wh.av,Wh.avs]
 (repeat ((first | refine Va ?_ | refine Vb ?_ | refine Vc ?_ | refine Vd ?_ | refine Ve ?_ | refine Vf ?_); (try simp only [go_sem,hP,Wh.avs,ints,w1]); (repeat refine qJ ?_)))
 (refine AS_pu (within50 p 0 (w.ro - 1)) ?_; simp only [go_sem,hP]; (repeat refine qJ ?_); (repeat ((first | refine Va ?_ | refine Vb ?_ | refine Vc ?_ | refine Vd ?_ | refine Ve ?_ | refine Vf ?_); (try simp only [go_sem,hP]); (repeat refine qJ ?_))))
 (refine WV_ret ?_; simp only [thenQ,inQ,RetQ,RetOk,resAll,resA]; simp only [go_sem,tupA,AV.port,AV.portL,exists_eq_left']; (first | exact AVle.of rfl | refine AVle.of ?_ | skip))
theorem isKind83 {w:Wh} (hw:WhOk w) (n:Int):FSpec Tryz.prog 59 [w.av,iv n] (.c (.bool (within n 0 (w.co.length - 1)))):=by
 have hcl:=hw.cl
 have w1:=w64 (n:=(w.co.length:Int) - 1) (by omega) (by omega)
 refine FSpec_of c59 (Nat.le_refl _) (by decide) fun C hP hN hC hL => ?_; rw [init_st]
 simp only [ir59,Wh.av,Wh.avs]
 (repeat ((first | refine Va ?_ | refine Vb ?_ | refine Vc ?_ | refine Vd ?_ | refine Ve ?_ | refine Vf ?_); (try simp only [go_sem,hP,Wh.avs,ints,w1,List.length_map]); (repeat refine qJ ?_)))
 (refine AS_pu (within50 n 0 (w.co.length - 1)) ?_; simp only [go_sem,hP,w1]; (repeat refine qJ ?_); (repeat ((first | refine Va ?_ | refine Vb ?_ | refine Vc ?_ | refine Vd ?_ | refine Ve ?_ | refine Vf ?_); (try simp only [go_sem,hP,w1]); (repeat refine qJ ?_))))
 (refine WV_ret ?_; simp only [thenQ,inQ,RetQ,RetOk,resAll,resA]; simp only [go_sem,tupA,AV.port,AV.portL,exists_eq_left']; (first | exact AVle.of rfl | refine AVle.of ?_ | skip))
def actB (w:Wh) (n:Int):Bool:=(n == -1) || within n 0 (w.co.length - 1)
theorem isAct77 {w:Wh} (hw:WhOk w) (n:Int):FSpec Tryz.prog 35 [w.av,iv n] (.c (.bool (actB w n))):=by
 have hcl:=hw.cl
 refine FSpec_of c35 (Nat.le_refl _) (by decide) fun C hP hN hC hL => ?_; rw [init_st]
 simp only [ir35,Wh.av,Wh.avs]
 (repeat ((first | refine Va ?_ | refine Vb ?_ | refine Vc ?_ | refine Vd ?_ | refine Ve ?_ | refine Vf ?_); (try simp only [go_sem,hP,Wh.avs,ints]); (repeat refine qJ ?_)))
 by_cases h1:n = -1
 ·subst h1
  have hb:((-1:Int) == -1) = true:=rfl
  (repeat ((first | refine Va ?_ | refine Vb ?_ | refine Vc ?_ | refine Vd ?_ | refine Ve ?_ | refine Vf ?_); (try simp only [go_sem,hP,hb]); (repeat refine qJ ?_)))
  (refine AG_skip ?_; simp only [go_sem,hP]; (repeat refine qJ ?_); (repeat ((first | refine Va ?_ | refine Vb ?_ | refine Vc ?_ | refine Vd ?_ | refine Ve ?_ | refine Vf ?_); (try simp only [go_sem,hP]); (repeat refine qJ ?_))))
  (refine WV_ret ?_; simp only [thenQ,inQ,RetQ,RetOk,resAll,resA]; simp only [go_sem,tupA,AV.port,AV.portL,exists_eq_left',actB,hb]; (first | exact AVle.of rfl | refine AVle.of ?_ | skip))
 ·have hb:(n == -1) = false:=by simpa using h1
  simp only [go_sem,hb]
  (refine AG_pu (fun hG => isKind83 hw n) ?_; simp only [go_sem,hP,Wh.av,Wh.avs,ints,hb]; (repeat refine qJ ?_); (repeat ((first | refine Va ?_ | refine Vb ?_ | refine Vc ?_ | refine Vd ?_ | refine Ve ?_ | refine Vf ?_); (try simp only [go_sem,hP,Wh.av,Wh.avs,ints,hb]); (repeat refine qJ ?_))))
  (refine WV_ret ?_; simp only [thenQ,inQ,RetQ,RetOk,resAll,resA]; simp only [go_sem,tupA,AV.port,AV.portL,exists_eq_left',actB,hb,Bool.false_or]; (first | exact AVle.of rfl | refine AVle.of ?_ | skip))
end Go.Proofs.YtefoconkepmmgaaGreatDoor

namespace Go.Proofs.YtefoconkepmmgaaGreatDoor
open Go Go.V
abbrev o36_0:List Ins:=[JS 3 (.box 3 (.t 0)),JS 4 (.box 2 (.t 1)),JS 6 (.alloc [Jz 0,Jz 0])]
abbrev o36_1:List Ins:=[JS 10 (Jm 2),JS 11 (Jk .neq 10 (-1)),JS 9 (Jm 11)]
abbrev o36_2:List Ins:=[JF 13 (JL 3 3),JF 14 (Jf 0 4),JF 15 (Jl 14),JF 16 (Jf 0 3),JF 17 (Jf 2 16),JF 18 (Jl 17),JF 19 (Jm 2),JF 20 (Ja 1 18 19),JF 21 (Jl 20),JS 22 (Jc 60 [.t 13,.t 15,.t 21]),JS 12 (Jm 22),JF 23 (Je 12 0),JF 24 (Je 12 1),JF 7 (Jm 23),JS 8 (Jm 24)]
abbrev o36_3:List Ins:=[JS 25 (Jm 7),JS 26 (Jf 1 4),JS 27 (Jl 26),JS 28 (Jm 8),JS 29 (Jb .add 27 28),JS 30 (.bld [Jz 0,Jz 0] [(0,1,(.t 25)),(1,1,(.t 29))]),JN (Js 2 6 30)]
abbrev v36_4:VC:=(.seq (.ops o36_3) .ret)
abbrev v36_5:VC:=(.seq (.dops o36_2) v36_4)
abbrev o36_6:List Ins:=[JS 32 (Jf 1 4),JS 33 (Jl 32),JS 34 (Jk .gtr 33 0),JS 31 (Jm 34)]
abbrev o36_7:List Ins:=[JS 35 (Jf 1 4),JS 36 (Jl 35),JS 37 (Jk .sub 36 1),JS 38 (.bld [Jz 0,Jz 0] [(1,1,(.t 37))]),JN (Js 2 6 38)]
abbrev v36_8:VC:=(.seq (.ops o36_7) .ret)
abbrev v36_9:VC:=(.cond (.t 31) v36_8 .skip)
abbrev v36_10:VC:=(.seq (.ops o36_6) v36_9)
abbrev v36_11:VC:=(.cond (.t 9) v36_5 v36_10)
abbrev v36_12:VC:=(.seq (.ops o36_1) v36_11)
abbrev o36_13:List Ins:=[JS 39 (JL 2 4),JN (Js 2 6 39)]
abbrev v36_14:VC:=(.seq (.ops o36_13) .ret)
abbrev v36_15:VC:=(.seq (.block 0 v36_12) v36_14)
def ir36:FC:=⟨3,40,[.cell 6 false 2],(.seq (.ops o36_0) v36_15)⟩
abbrev o72_0:List Ins:=[JS 4 (Ji 0)]
abbrev o72_1:List Ins:=[JS 6 (Jm 0),JS 7 (Jn 6),JS 8 (Ji 0)]
abbrev o72_2:List Ins:=[JS 9 (Jb .lss 8 7)]
abbrev o72_3:List Ins:=[JS 10 (Jm 8),JS 5 (Jm 10)]
abbrev o72_4:List Ins:=[JS 11 (Jm 1),JS 12 (Jm 0),JS 13 (Jm 5),JS 14 (Ja 1 12 13),JS 15 (Jl 14),JS 16 (.call (.t 11) [.t 15])]
abbrev o72_5:List Ins:=[JS 17 (Jm 5),JS 4 (Jm 17)]
abbrev v72_6:VC:=(.seq (.ops o72_5) .ret)
abbrev v72_7:VC:=(.cond (.t 16) v72_6 .skip)
abbrev v72_8:VC:=(.seq (.ops o72_4) v72_7)
abbrev v72_9:VC:=(.seq (.ops o72_3) v72_8)
abbrev o72_10:List Ins:=[JS 18 (Jk .add 8 1),JS 8 (Jm 18)]
abbrev v72_11:VC:=(.seq (.block 1 v72_9) (.ops o72_10))
abbrev v72_12:VC:=(.seq (.cond (.t 9) .skip (.exit 0)) v72_11)
abbrev v72_13:VC:=(.seq (.ops o72_2) v72_12)
-- K72_1: changed and kept: [8]
abbrev K72_1:List Nat:=[0,1,7]
abbrev v72_14:VC:=(.loop v72_13)
abbrev v72_15:VC:=(.block 0 v72_14)
abbrev o72_16:List Ins:=[JS 4 (Ji (-1))]
abbrev v72_17:VC:=(.seq (.ops o72_16) .ret)
abbrev v72_18:VC:=(.seq (.seq (.ops o72_1) v72_15) v72_17)
def ir72:FC:=⟨2,19,[.t 4],(.seq (.ops o72_0) v72_18)⟩
abbrev o57_0:List Ins:=[JS 4 (JB false)]
abbrev o57_1:List Ins:=[JS 5 (Jm 0),JS 6 (Jm 1),JS 7 (Jc 72 [.t 5,.t 6]),JS 8 (Jk .geq 7 0),JS 4 (Jm 8)]
abbrev v57_2:VC:=(.seq (.ops o57_1) .ret)
def ir57:FC:=⟨2,9,[.t 4],(.seq (.ops o57_0) v57_2)⟩
theorem c36:compM Tryz.prog [] 36 = some ir36:=by kernel_rfl
theorem c72:compM Tryz.prog [] 72 = some ir72:=by kernel_rfl
theorem c57:compM Tryz.prog [] 57 = some ir57:=by kernel_rfl
attribute [local go_sem] Nat.reduceEqDiff Nat.reduceAdd Nat.reduceMul reduceIte Nat.reduceLeDiff Nat.reduceLT Nat.reduceBEq reduceCtorEq
def actP (w:Wh) (pl cr a:Int):Int × Int:=if a = -1 then (if 0 < cr then (0,cr - 1) else (pl,cr)) else ((pl + w.co.getD a.toNat 0) % w.ro,cr + plays w pl (w.co.getD a.toNat 0))
theorem co_at {w:Wh} (hw:WhOk w) {a:Int} (h:0 ≤ a ∧ a ≤ w.co.length - 1):1 ≤ w.co.getD a.toNat 0 ∧ w.co.getD a.toNat 0 ≤ 100:=by
 have hi:a.toNat < w.co.length:=by omega
 exact hw.co _ (by rw [List.getD_eq_getElem?_getD,List.getElem?_eq_getElem hi]; exact List.getElem_mem _)
set_option maxHeartbeats 8000000 in
theorem act78 {w:Wh} (hw:WhOk w) {pl cr a:Int} (hp:0 ≤ pl ∧ pl < w.ro) (hc:0 ≤ cr ∧ cr ≤ 1000000) (ha:actB w a = true):FSpec Tryz.prog 36 [w.av,.agg [iv pl,iv cr],iv a] (.agg [iv (actP w pl cr a).1,iv (actP w pl cr a).2]):=by
 have hcl:=hw.cl
 refine FSpec_of c36 (Nat.le_refl _) (by decide) fun C hP hN hC hL => ?_; rw [init_st]
 simp only [ir36,Wh.av,Wh.avs]
 (repeat ((first | refine Va ?_ | refine Vb ?_ | refine Vc ?_ | refine Vd ?_ | refine Ve ?_ | refine Vf ?_); (try simp only [go_sem,hP,Wh.avs,ints]); (repeat refine qJ ?_)))
 by_cases h1:a = -1
 ·subst h1
  have hb:((-1:Int) != -1) = false:=rfl
  simp only [go_sem,hb]
  (refine WV_cond rfl (fun h => ?_) (fun h => ?_))
  ·simp at h
  ·(repeat ((first | refine Va ?_ | refine Vb ?_ | refine Vc ?_ | refine Vd ?_ | refine Ve ?_ | refine Vf ?_); (try simp only [go_sem,hP,hb]); (repeat refine qJ ?_)))
   by_cases h2:0 < cr
   ·have w1:=w64 (n:=cr - 1) (by omega) (by omega)
    (refine WV_cond rfl (fun h => ?_) (fun h => ?_))
    ·(repeat ((first | refine Va ?_ | refine Vb ?_ | refine Vc ?_ | refine Vd ?_ | refine Ve ?_ | refine Vf ?_); (try simp only [go_sem,hP,w1]); (repeat refine qJ ?_)))
     (refine WV_ret ?_; simp only [thenQ,inQ,RetQ,RetOk,resAll,resA]; simp only [go_sem,tupA,AV.port,AV.portL,exists_eq_left',actP,h2,if_true]; (first | exact AVle.of rfl | refine AVle.of ?_ | skip))
    ·simp at h; omega
   ·(refine WV_cond rfl (fun h => ?_) (fun h => ?_))
    ·simp at h; omega
    ·(repeat ((first | refine Va ?_ | refine Vb ?_ | refine Vc ?_ | refine Vd ?_ | refine Ve ?_ | refine Vf ?_); (try simp only [go_sem,hP]); (repeat refine qJ ?_)))
     (refine WV_ret ?_; simp only [thenQ,inQ,RetQ,RetOk,resAll,resA]; simp only [go_sem,tupA,AV.port,AV.portL,exists_eq_left',actP,h2,if_true,if_false]; (first | exact AVle.of rfl | refine AVle.of ?_ | skip))
 ·have hk:0 ≤ a ∧ a ≤ w.co.length - 1:=by
   simp only [actB,Bool.or_eq_true,within,Bool.and_eq_true,decide_eq_true_eq,beq_iff_eq] at ha
   rcases ha with h | h
   ·exact absurd h h1
   ·exact h
  have hb:(a != -1) = true:=by simpa using h1
  have hi:a.toNat < w.co.length:=by omega
  have hi2:a < (w.co.length:Int):=by omega
  have hgd:=ints_get hi
  have hco:=co_at hw hk
  have hb1:=plays_ok hw (p:=pl) (c:=w.co.getD a.toNat 0) (by omega)
  have e1:actP w pl cr a = ((pl + w.co.getD a.toNat 0) % w.ro,cr + plays w pl (w.co.getD a.toNat 0)):=by unfold actP; rw [if_neg h1]
  have w1:=w64 (n:=cr + plays w pl (w.co.getD a.toNat 0)) (by omega) (by omega)
  rw [e1]
  generalize w.co.getD a.toNat 0 = c at *
  simp only [go_sem,hb]
  (refine WV_cond rfl (fun h => ?_) (fun h => ?_))
  ·(repeat ((first | refine Va ?_ | refine Vb ?_ | refine Vc ?_ | refine Vd ?_ | refine Ve ?_ | refine Vf ?_); (try simp only [go_sem,hP,hgd,ints,List.length_map,hi2,hk.1]); (repeat refine qJ ?_)))
   (refine AS_pu (turn84 hw hp (by omega:0 ≤ c ∧ c ≤ 100000)) ?_; simp only [go_sem,hP,Wh.av,Wh.avs,ints,w1]; (repeat refine qJ ?_); (repeat ((first | refine Va ?_ | refine Vb ?_ | refine Vc ?_ | refine Vd ?_ | refine Ve ?_ | refine Vf ?_); (try simp only [go_sem,hP,Wh.av,Wh.avs,ints,w1]); (repeat refine qJ ?_))))
   (refine WV_ret ?_; simp only [thenQ,inQ,RetQ,RetOk,resAll,resA]; simp only [go_sem,tupA,AV.port,AV.portL,exists_eq_left']; (first | exact AVle.of rfl | refine AVle.of ?_ | skip))
  ·simp at h
def idxP (p:Int → Bool) (l:List Int):Int:=match l.findIdx? p with | some i => i | none => -1
theorem idxP_ge (p:Int → Bool) (l:List Int):decide (idxP p l ≥ 0) = l.any p:=by
 unfold idxP
 cases h:l.findIdx? p with
 | none =>
  rw [List.findIdx?_eq_none_iff] at h
  have:l.any p = false:=by rw [List.any_eq_false]; intro x hx; simp [h x hx]
  rw [this]; rfl
 | some i =>
  obtain ⟨hi,h1,_⟩:=List.findIdx?_eq_some_iff_getElem.1 h
  have:l.any p = true:=by rw [List.any_eq_true]; exact ⟨_,List.getElem_mem hi,h1⟩
  rw [this]; simp
theorem getD_at {l:List Int} {k:Nat} (h:k < l.length):l.getD k 0 = l[k]:=by rw [List.getD_eq_getElem?_getD,List.getElem?_eq_getElem h]; rfl
set_option maxHeartbeats 8000000 in
theorem index52 (l:List Int) (f:FuncId) (p:Int → Bool) (hf:∀ n ∈ l,FSpec Tryz.prog f [iv n] (.c (.bool (p n)))):FSpec Tryz.prog 72 [.c (ints l),.fn f []] (iv (idxP p l)):=by
 refine FSpec_of c72 (Nat.le_refl _) (by decide) fun C hP hN hC hL => ?_; rw [init_st]
 have hl:l.length ≤ 9223372036854775807:=by simp only [AV.lensL,AV.lens] at hL; exact ints_lens hL.1
 simp only [ir72]
 (repeat ((first | refine Va ?_ | refine Vb ?_ | refine Vc ?_ | refine Vd ?_ | refine Ve ?_ | refine Vf ?_); (try simp only [go_sem,hP,ints,List.length_map]); (repeat refine qJ ?_)))
 refine WV_loopS (fun k:Nat => ⟨upd (upd (upd (upd e0 0 (.c (ints l))) 1 (.fn f [])) 7 (iv l.length)) 8 (iv k),o0⟩) (fun k => k ≤ l.length ∧ ∀ i (h:i < l.length),i < k → p l[i] = false) (fun k => l.length - k) 0 ⟨Nat.zero_le _,fun _ _ h => by omega⟩ ?_ ?_
 ·(refine Sub_of (by simp only [go_sem]; ((repeat' (first | exact EnvLe_e0 _ _ | refine EnvLe_upd ?_ ?_)) <;> ((try simp only [upd_app,e0_app,o0_app,Nat.reduceEqDiff,reduceIte]); first | exact AWk.refl _ _ | exact AWk.int (by omega) | exact AWk.int (by rw [w64 (by omega) (by omega)]; omega) | exact AWk.grow rfl | exact AWk.nil _ | exact AWk.of (by simp [ints])))) (by simp only [go_sem]; exact ObjLe_au))
 rintro k ⟨hk,hr⟩
 (repeat ((first | refine Va ?_ | refine Vb ?_ | refine Vc ?_ | refine Vd ?_ | refine Ve ?_ | refine Vf ?_); (try simp only [go_sem,hP]); (repeat refine qJ ?_)))
 (refine WV_cond rfl (fun h => ?_) (fun h => ?_))
 ·have hi:k < l.length:=by simpa using h
  have hw:=w64 (n:=(k:Int) + 1) (by omega) (by omega)
  have hgd:=ints_get hi
  rw [getD_at hi] at hgd
  (repeat ((first | refine Va ?_ | refine Vb ?_ | refine Vc ?_ | refine Vd ?_ | refine Ve ?_ | refine Vf ?_); (try simp only [go_sem,hP,hgd,ints,List.length_map,Int.toNat_natCast,Int.ofNat_lt,hi,Int.natCast_nonneg]); (repeat refine qJ ?_)))
  (refine AS_pu (hf l[k] (List.getElem_mem hi)) ?_; simp only [go_sem,hP]; (repeat refine qJ ?_); (repeat ((first | refine Va ?_ | refine Vb ?_ | refine Vc ?_ | refine Vd ?_ | refine Ve ?_ | refine Vf ?_); (try simp only [go_sem,hP]); (repeat refine qJ ?_))))
  (refine WV_cond rfl (fun h => ?_) (fun h => ?_))
  ·have e1:l.findIdx? p = some k:=by
    rw [List.findIdx?_eq_some_iff_getElem]
    exact ⟨hi,h,fun i hi2 => by simp [hr i (by omega) hi2]⟩
   have e3:idxP p l = k:=by unfold idxP; rw [e1]
   rw [e3]
   (repeat ((first | refine Va ?_ | refine Vb ?_ | refine Vc ?_ | refine Vd ?_ | refine Ve ?_ | refine Vf ?_); (try simp only [go_sem,hP]); (repeat refine qJ ?_)))
   (refine WV_ret ?_; simp only [thenQ,inQ,RetQ,RetOk,resAll,resA]; simp only [go_sem,tupA,AV.port,AV.portL,exists_eq_left']; (first | exact AVle.of rfl | refine AVle.of ?_ | skip))
  ·(repeat ((first | refine Va ?_ | refine Vb ?_ | refine Vc ?_ | refine Vd ?_ | refine Ve ?_ | refine Vf ?_); (try simp only [go_sem,hP,hw]); (repeat refine qJ ?_)))
   refine ⟨k + 1,⟨by omega,fun i hi2 hik => ?_⟩,by omega,?_⟩
   ·rcases Nat.lt_or_ge i k with h1 | h1
    ·exact hr i hi2 h1
    ·have:i = k:=by omega
     subst this; exact h
   ·(refine Sub_of (by simp only [go_sem]; ((repeat' (first | exact EnvLe_e0 _ _ | refine EnvLe_upd ?_ ?_)) <;> ((try simp only [upd_app,e0_app,o0_app,Nat.reduceEqDiff,reduceIte]); first | exact AWk.refl _ _ | exact AWk.int (by omega) | exact AWk.int (by rw [w64 (by omega) (by omega)]; omega) | exact AWk.grow rfl | exact AWk.nil _ | exact AWk.of (by simp [ints])))) (by simp only [go_sem]; exact ObjLe_au))
 ·have hi:k = l.length:=by simp at h; omega
  subst hi
  have e3:idxP p l = -1:=by
   unfold idxP
   rw [List.findIdx?_eq_none_iff.2 fun x hx => by obtain ⟨i,hi,rfl⟩:=List.getElem_of_mem hx; exact hr i hi hi]
  rw [e3]
  (repeat ((first | refine Va ?_ | refine Vb ?_ | refine Vc ?_ | refine Vd ?_ | refine Ve ?_ | refine Vf ?_); (try simp only [go_sem,hP]); (repeat refine qJ ?_)))
  (refine WV_ret ?_; simp only [thenQ,inQ,RetQ,RetOk,resAll,resA]; simp only [go_sem,tupA,AV.port,AV.portL,exists_eq_left']; (first | exact AVle.of rfl | refine AVle.of ?_ | skip))
theorem contains38 (l:List Int) (f:FuncId) (p:Int → Bool) (hf:∀ n ∈ l,FSpec Tryz.prog f [iv n] (.c (.bool (p n)))):FSpec Tryz.prog 57 [.c (ints l),.fn f []] (.c (.bool (l.any p))):=by
 refine FSpec_of c57 (Nat.le_refl _) (by decide) fun C hP hN hC hL => ?_; rw [init_st]
 simp only [ir57]
 (repeat ((first | refine Va ?_ | refine Vb ?_ | refine Vc ?_ | refine Vd ?_ | refine Ve ?_ | refine Vf ?_); (try simp only [go_sem,hP,ints]); (repeat refine qJ ?_)))
 (refine AS_pu (index52 l f p hf) ?_; simp only [go_sem,hP,idxP_ge]; (repeat refine qJ ?_); (repeat ((first | refine Va ?_ | refine Vb ?_ | refine Vc ?_ | refine Vd ?_ | refine Ve ?_ | refine Vf ?_); (try simp only [go_sem,hP,idxP_ge]); (repeat refine qJ ?_))))
 (refine WV_ret ?_; simp only [thenQ,inQ,RetQ,RetOk,resAll,resA]; simp only [go_sem,tupA,AV.port,AV.portL,exists_eq_left',idxP_ge]; (first | exact AVle.of rfl | refine AVle.of ?_ | skip))
end Go.Proofs.YtefoconkepmmgaaGreatDoor

namespace Go.Proofs.YtefoconkepmmgaaGreatDoor
open Go Go.V
abbrev o58_0:List Ins:=[JS 3 (JB false)]
abbrev o58_1:List Ins:=[JS 4 (Jl 1),JS 5 (Jm 0),JS 6 (.call (.t 4) [.t 5]),JS 7 (.un .not (.t 6)),JS 3 (Jm 7)]
abbrev v58_2:VC:=(.seq (.ops o58_1) .ret)
def ir58:FC:=⟨2,8,[.t 3],(.seq (.ops o58_0) v58_2)⟩
abbrev o34_0:List Ins:=[JS 3 (.box 1 (.t 1)),JS 4 (JB false)]
abbrev o34_1:List Ins:=[JS 5 (Jm 0),JS 6 (Jn 5),JS 7 (Jk .leq 6 20),JS 8 (Jm 7),JG 9 (Jm 0) 8 true,JG 10 (.mkfn 58 [.t 3]) 8 true,JG 11 (Jc 57 [.t 9,.t 10]) 8 true,JG 12 (.un .not (.t 11)) 8 true,JS 13 (Jp 8 12),JS 4 (Jm 13)]
abbrev v34_2:VC:=(.seq (.ops o34_1) .ret)
def ir34:FC:=⟨2,14,[.t 4],(.seq (.ops o34_0) v34_2)⟩
theorem c58:compM Tryz.prog [] 58 = some ir58:=by kernel_rfl
theorem c34:compM Tryz.prog [] 34 = some ir34:=by kernel_rfl
attribute [local go_sem] Nat.reduceEqDiff Nat.reduceAdd Nat.reduceMul reduceIte Nat.reduceLeDiff Nat.reduceLT Nat.reduceBEq reduceCtorEq
def entP (p:Int → Bool) (n:Int):Ent:=⟨[iv n],[],.c (.bool (p n))⟩
theorem not82 (p:Int → Bool) (n:Int) (g:Gst) (rem:List Ent):FSpecL Tryz.prog 58 [iv n,.bp 1000 0] [.box [.c (.raw g.fv)],.guest g (entP p n :: rem)] [] (fun r l' => r = .c (.bool (!p n)) ∧ l' = [.box [.c (.raw g.fv)],.guest g rem]):=by
 refine FSpecL_of c58 (by first | simp | exact Nat.le_of_ble_eq_true rfl) (Nat.le_refl _) (by decide) (by decide) fun C hP hN hC hL => ?_; rw [init_env',ownW_upd (by first | simp | exact Nat.le_of_ble_eq_true rfl)]; simp only [ir58,updL,updLo,List.map_nil,List.map_cons,Nat.reduceAdd,]
 (repeat ((first | refine Va ?_ | refine Vb ?_ | refine Vc ?_ | refine Vd ?_ | refine Ve ?_ | refine Vf ?_); (try simp only [go_sem,hP]); (repeat refine qJ ?_)))
 refine AS_guest 1001 [] (g:=g) (e:=entP p n) (rem:=rem) rfl rfl rfl rfl (by decide) rfl trivial ?_
 simp only [go_sem,hP,entP]
 (repeat ((first | refine Va ?_ | refine Vb ?_ | refine Vc ?_ | refine Vd ?_ | refine Ve ?_ | refine Vf ?_); (try simp only [go_sem,hP]); (repeat refine qJ ?_)))
 (refine WV_ret ?_; simp only [thenQ,inQ,RetQL,RetOkL,resAll,resA]; simp only [go_sem,tupA,AV.keepP,AV.keepPL]; refine ⟨_,[.box [.c (.raw g.fv)],.guest g rem],rfl,KeepL_mk rfl rfl ?_ ?_ rfl,?_⟩)
 ·simp only [go_sem,keepAll,Ob.keepP,AV.keepP,AV.keepPL]
 ·trivial
 ·exact ⟨rfl,rfl⟩
set_option maxHeartbeats 8000000 in
theorem index52b (p:Int → Bool) (l:List Int) (g:Gst):FSpecL Tryz.prog 72 [.c (ints l),.fn 58 [.bp 1000 0]] [.box [.c (.raw g.fv)],.guest g (l.map (entP p))] [] (fun r l' => r = iv (idxP (fun n => !p n) l) ∧ ∃ rem,l' = [.box [.c (.raw g.fv)],.guest g rem]):=by
 refine FSpecL_of c72 (by first | simp | exact Nat.le_of_ble_eq_true rfl) (Nat.le_refl _) (by decide) (by decide) fun C hP hN hC hL => ?_; rw [init_env',ownW_upd (by first | simp | exact Nat.le_of_ble_eq_true rfl)]; simp only [ir72,updL,updLo,List.map_nil,List.map_cons,Nat.reduceAdd,]
 have hl:l.length ≤ 9223372036854775807:=by simp only [AV.lensL,AV.lens] at hL; exact ints_lens hL.1
 (repeat ((first | refine Va ?_ | refine Vb ?_ | refine Vc ?_ | refine Vd ?_ | refine Ve ?_ | refine Vf ?_); (try simp only [go_sem,hP,ints,List.length_map]); (repeat refine qJ ?_)))
 refine WV_loopK K72_1 [1001] (fun k:Nat => k ≤ l.length ∧ ∀ i (h:i < l.length),i < k → p l[i] = true) (fun k => l.length - k) (fun k => [(8,iv k)]) (fun k => [(1001,.guest g ((l.drop k).map (entP p)))]) 0 ⟨Nat.zero_le _,fun _ _ h => by omega⟩ ?_ ?_
 ·(refine Sub_of (by simp only [go_sem]; ((repeat' (first | exact EnvLe_e0 _ _ | refine EnvLe_upd ?_ ?_)) <;> ((try simp only [upd_app,e0_app,o0_app,Nat.reduceEqDiff,reduceIte]); first | exact AWk.refl _ _ | exact AWk.int (by omega) | exact AWk.int (by rw [w64 (by omega) (by omega)]; omega) | exact AWk.grow rfl | exact AWk.nil _ | exact AWk.of (by simp [ints])))) (by simp only [go_sem]; exact ObjLe_au))
 rintro k ⟨hk,hr⟩
 (repeat ((first | refine Va ?_ | refine Vb ?_ | refine Vc ?_ | refine Vd ?_ | refine Ve ?_ | refine Vf ?_); (try simp only [go_sem,hP]); (repeat refine qJ ?_)))
 (refine WV_cond rfl (fun h => ?_) (fun h => ?_))
 ·have hi:k < l.length:=by simpa using h
  have hw:=w64 (n:=(k:Int) + 1) (by omega) (by omega)
  have hgd:=ints_get hi
  rw [getD_at hi] at hgd
  have hdr:(l.drop k).map (entP p) = entP p l[k] :: (l.drop (k + 1)).map (entP p):=by rw [List.drop_eq_getElem_cons hi]; rfl
  rw [hdr]
  (repeat ((first | refine Va ?_ | refine Vb ?_ | refine Vc ?_ | refine Vd ?_ | refine Ve ?_ | refine Vf ?_); (try simp only [go_sem,hP,hgd,ints,List.length_map,Int.toNat_natCast,Int.ofNat_lt,hi,Int.natCast_nonneg]); (repeat refine qJ ?_)))
  refine AS_lend [1000,1001] (not82 p l[k] g _) rfl rfl rfl (by decide) rfl rfl ?_
  rintro r l' ⟨rfl,rfl⟩
  refine ⟨_,_,rfl,rfl,?_⟩
  simp only [go_sem,hP,ownBack]
  (repeat ((first | refine Va ?_ | refine Vb ?_ | refine Vc ?_ | refine Vd ?_ | refine Ve ?_ | refine Vf ?_); (try simp only [go_sem,hP]); (repeat refine qJ ?_)))
  (refine WV_cond rfl (fun h => ?_) (fun h => ?_))
  ·have h:p l[k] = false:=by simpa using h
   have e1:l.findIdx? (fun n => !p n) = some k:=by
    rw [List.findIdx?_eq_some_iff_getElem]
    exact ⟨hi,by simp [h],fun i hi2 => by simp [hr i (by omega) hi2]⟩
   have e3:idxP (fun n => !p n) l = k:=by unfold idxP; rw [e1]
   rw [e3]
   (repeat ((first | refine Va ?_ | refine Vb ?_ | refine Vc ?_ | refine Vd ?_ | refine Ve ?_ | refine Vf ?_); (try simp only [go_sem,hP]); (repeat refine qJ ?_)))
   (refine WV_ret ?_; simp only [thenQ,inQ,RetQL,RetOkL,resAll,resA]; simp only [go_sem,tupA,AV.keepP,AV.keepPL]; refine ⟨_,[.box [.c (.raw g.fv)],.guest g ((l.drop (k + 1)).map (entP p))],rfl,KeepL_mk rfl rfl ?_ ?_ rfl,?_⟩)
   ·simp only [go_sem,keepAll,Ob.keepP,AV.keepP,AV.keepPL]
   ·trivial
   ·exact ⟨rfl,_,rfl⟩
  ·have h:p l[k] = true:=by simpa using h
   (repeat ((first | refine Va ?_ | refine Vb ?_ | refine Vc ?_ | refine Vd ?_ | refine Ve ?_ | refine Vf ?_); (try simp only [go_sem,hP,hw]); (repeat refine qJ ?_)))
   refine ⟨k + 1,⟨by omega,fun i hi2 hik => ?_⟩,by omega,?_⟩
   ·rcases Nat.lt_or_ge i k with h1 | h1
    ·exact hr i hi2 h1
    ·have:i = k:=by omega
     subst this; exact h
   ·(refine Sub_of (by simp only [go_sem]; ((repeat' (first | exact EnvLe_e0 _ _ | refine EnvLe_upd ?_ ?_)) <;> ((try simp only [upd_app,e0_app,o0_app,Nat.reduceEqDiff,reduceIte]); first | exact AWk.refl _ _ | exact AWk.int (by omega) | exact AWk.int (by rw [w64 (by omega) (by omega)]; omega) | exact AWk.grow rfl | exact AWk.nil _ | exact AWk.of (by simp [ints])))) (by simp only [go_sem]; exact ObjLe_au))
 ·have hi:k = l.length:=by simp at h; omega
  subst hi
  have e3:idxP (fun n => !p n) l = -1:=by
   unfold idxP
   rw [List.findIdx?_eq_none_iff.2 fun x hx => by obtain ⟨i,hi,rfl⟩:=List.getElem_of_mem hx; simp [hr i hi hi]]
  rw [e3]
  (repeat ((first | refine Va ?_ | refine Vb ?_ | refine Vc ?_ | refine Vd ?_ | refine Ve ?_ | refine Vf ?_); (try simp only [go_sem,hP]); (repeat refine qJ ?_)))
  (refine WV_ret ?_; simp only [thenQ,inQ,RetQL,RetOkL,resAll,resA]; simp only [go_sem,tupA,AV.keepP,AV.keepPL]; refine ⟨_,[.box [.c (.raw g.fv)],.guest g ((l.drop l.length).map (entP p))],rfl,KeepL_mk rfl rfl ?_ ?_ rfl,?_⟩)
  ·simp only [go_sem,keepAll,Ob.keepP,AV.keepP,AV.keepPL]
  ·trivial
  ·exact ⟨rfl,_,rfl⟩
theorem contains38b (p:Int → Bool) (l:List Int) (g:Gst):FSpecL Tryz.prog 57 [.c (ints l),.fn 58 [.bp 1000 0]] [.box [.c (.raw g.fv)],.guest g (l.map (entP p))] [] (fun r l' => r = .c (.bool (l.any fun n => !p n)) ∧ ∃ rem,l' = [.box [.c (.raw g.fv)],.guest g rem]):=by
 refine FSpecL_of c57 (by first | simp | exact Nat.le_of_ble_eq_true rfl) (Nat.le_refl _) (by decide) (by decide) fun C hP hN hC hL => ?_; rw [init_env',ownW_upd (by first | simp | exact Nat.le_of_ble_eq_true rfl)]; simp only [ir57,updL,updLo,List.map_nil,List.map_cons,Nat.reduceAdd,]
 (repeat ((first | refine Va ?_ | refine Vb ?_ | refine Vc ?_ | refine Vd ?_ | refine Ve ?_ | refine Vf ?_); (try simp only [go_sem,hP,ints]); (repeat refine qJ ?_)))
 refine AS_lend [1000,1001] (index52b p l g) rfl rfl rfl (by decide) rfl rfl ?_
 rintro r l' ⟨rfl,rem,rfl⟩
 refine ⟨_,_,rfl,rfl,?_⟩
 simp only [go_sem,hP,ownBack]
 (repeat ((first | refine Va ?_ | refine Vb ?_ | refine Vc ?_ | refine Vd ?_ | refine Ve ?_ | refine Vf ?_); (try simp only [go_sem,hP]); (repeat refine qJ ?_)))
 (refine WV_ret ?_; simp only [thenQ,inQ,RetQL,RetOkL,resAll,resA]; simp only [go_sem,tupA,AV.keepP,AV.keepPL]; refine ⟨_,[.box [.c (.raw g.fv)],.guest g rem],rfl,KeepL_mk rfl rfl ?_ ?_ rfl,?_⟩)
 ·simp only [go_sem,keepAll,Ob.keepP,AV.keepP,AV.keepPL]
 ·trivial
 ·exact ⟨by rw [← idxP_ge],_,rfl⟩
theorem all_not (p:Int → Bool) (l:List Int):(!l.any fun n => !p n) = l.all p:=by
 induction l with
 | nil => rfl
 | cons n l ih => simp only [List.any_cons,List.all_cons,Bool.not_or,Bool.not_not,ih]
def allB (p:Int → Bool) (l:List Int):Bool:=decide ((l.length:Int) ≤ 20) && l.all p
theorem all76 (p:Int → Bool) (l:List Int) (g:Gst):FSpecL Tryz.prog 34 [.c (ints l),.c (.raw g.fv)] [.guest g (l.map (entP p))] [] (fun r l' => r = .c (.bool (allB p l)) ∧ ∃ rem,l' = [.guest g rem]):=by
 refine FSpecL_of c34 (by first | simp | exact Nat.le_of_ble_eq_true rfl) (Nat.le_refl _) (by decide) (by decide) fun C hP hN hC hL => ?_; rw [init_env',ownW_upd (by first | simp | exact Nat.le_of_ble_eq_true rfl)]; simp only [ir34,updL,updLo,List.map_nil,List.map_cons,Nat.reduceAdd,]
 (repeat ((first | refine Va ?_ | refine Vb ?_ | refine Vc ?_ | refine Vd ?_ | refine Ve ?_ | refine Vf ?_); (try simp only [go_sem,hP,ints,List.length_map]); (repeat refine qJ ?_)))
 refine .inr (.inr ⟨fun hG => ?_,fun hG => ?_⟩)
 ·refine AS_lend [3,1000] (contains38b p l g) rfl (by simp [hG,go_sem]) rfl (by decide) rfl rfl ?_
  rintro r l' ⟨rfl,rem,rfl⟩
  refine ⟨_,_,rfl,rfl,?_⟩
  simp only [go_sem,hP,ownBack,hG]
  (repeat ((first | refine Va ?_ | refine Vb ?_ | refine Vc ?_ | refine Vd ?_ | refine Ve ?_ | refine Vf ?_); (try simp only [go_sem,hP,hG]); (repeat refine qJ ?_)))
  (refine WV_ret ?_; simp only [thenQ,inQ,RetQL,RetOkL,resAll,resA]; simp only [go_sem,tupA,AV.keepP,AV.keepPL]; refine ⟨_,[.guest g rem],rfl,KeepL_mk rfl rfl ?_ ?_ rfl,?_⟩)
  ·simp only [go_sem,keepAll,Ob.keepP,AV.keepP,AV.keepPL]
  ·trivial
  ·exact ⟨by unfold allB; rw [hG,← all_not]; rfl,_,rfl⟩
 ·simp only [go_sem,hP,hG]
  (repeat ((first | refine Va ?_ | refine Vb ?_ | refine Vc ?_ | refine Vd ?_ | refine Ve ?_ | refine Vf ?_); (try simp only [go_sem,hP,hG]); (repeat refine qJ ?_)))
  (refine WV_ret ?_; simp only [thenQ,inQ,RetQL,RetOkL,resAll,resA]; simp only [go_sem,tupA,AV.keepP,AV.keepPL]; refine ⟨_,[.guest g (l.map (entP p))],rfl,KeepL_mk rfl rfl ?_ ?_ rfl,?_⟩)
  ·simp only [go_sem,keepAll,Ob.keepP,AV.keepP,AV.keepPL]
  ·trivial
  ·exact ⟨by unfold allB; rw [hG]; rfl,_,rfl⟩
end Go.Proofs.YtefoconkepmmgaaGreatDoor

namespace Go.Proofs.YtefoconkepmmgaaGreatDoor
open Go Go.V
abbrev o31_0:List Ins:=[JS 3 (.box 3 (.t 0)),JS 4 (JB false)]
abbrev o31_1:List Ins:=[JS 5 (JL 3 3),JS 6 (Jf 0 1),JS 7 (Jl 6),JS 8 (Jc 32 [.t 5,.t 7]),JS 9 (Jm 8),JG 10 (Jf 1 1) 9 true,JG 11 (Jl 10) 9 true,JG 12 (Jc 33 [.t 11,(.k (Jz 0)),(.k (Jz 20))]) 9 true,JS 13 (Jp 9 12),JS 14 (Jm 13),JG 15 (Jl 2) 14 true,JG 16 (JL 3 3) 14 true,JG 17 (.raw (.makeFunc (.func 35) #[(.tmp 16)] #[])) 14 true,JG 18 (Jc 34 [.t 15,.t 17]) 14 true,JS 19 (Jp 14 18),JS 4 (Jm 19)]
abbrev v31_2:VC:=(.seq (.ops o31_1) .ret)
def ir31:FC:=⟨3,20,[.t 4],(.seq (.ops o31_0) v31_2)⟩
theorem c31:compM Tryz.prog [] 31 = some ir31:=by kernel_rfl
attribute [local go_sem] Nat.reduceEqDiff Nat.reduceAdd Nat.reduceMul reduceIte Nat.reduceLeDiff Nat.reduceLT Nat.reduceBEq reduceCtorEq
def runB (w:Wh) (pl cr:Int) (acts:List Int):Bool:=within pl 0 (w.ro - 1) && within cr 0 20 && allB (actB w) acts
set_option maxHeartbeats 8000000 in
theorem run74 {w:Wh} (hw:WhOk w) (pl cr:Int) (acts:List Int):FSpecL Tryz.prog 31 [w.av,.bp 1000 0,.bp 1001 0] [.box [iv pl,iv cr],.box [.c (ints acts)]] [] (fun r l' => r = .c (.bool (runB w pl cr acts)) ∧ l' = [.box [iv pl,iv cr],.box [.c (ints acts)]]):=by
 refine FSpecL_of c31 (by first | simp | exact Nat.le_of_ble_eq_true rfl) (Nat.le_refl _) (by decide) (by decide) fun C hP hN hC hL => ?_; rw [init_env',ownW_upd (by first | simp | exact Nat.le_of_ble_eq_true rfl)]; simp only [ir31,updL,updLo,List.map_nil,List.map_cons,Nat.reduceAdd,]
 simp only [Wh.av,Wh.avs]
 (repeat ((first | refine Va ?_ | refine Vb ?_ | refine Vc ?_ | refine Vd ?_ | refine Ve ?_ | refine Vf ?_); (try simp only [go_sem,hP,Wh.avs,ints]); (repeat refine qJ ?_)))
 (refine AS_pu (isPlace75 hw pl) ?_; simp only [go_sem,hP,Wh.av,Wh.avs,ints]; (repeat refine qJ ?_); (repeat ((first | refine Va ?_ | refine Vb ?_ | refine Vc ?_ | refine Vd ?_ | refine Ve ?_ | refine Vf ?_); (try simp only [go_sem,hP,Wh.av,Wh.avs,ints]); (repeat refine qJ ?_))))
 by_cases h1:within pl 0 (w.ro - 1) = true
 ·simp only [go_sem,h1]
  (refine AG_pu (fun hG => within50 cr 0 20) ?_; simp only [go_sem,hP,h1]; (repeat refine qJ ?_); (repeat ((first | refine Va ?_ | refine Vb ?_ | refine Vc ?_ | refine Vd ?_ | refine Ve ?_ | refine Vf ?_); (try simp only [go_sem,hP,h1]); (repeat refine qJ ?_))))
  by_cases h2:within cr 0 20 = true
  ·simp only [go_sem,h1,h2]
   (repeat ((first | refine Va ?_ | refine Vb ?_ | refine Vc ?_ | refine Vd ?_ | refine Ve ?_ | refine Vf ?_); (try simp only [go_sem,hP,h1,h2]); (repeat refine qJ ?_)))
   refine raw_bound (av:=w.av) (acts.map (entP (actB w))) rfl rfl rfl rfl rfl ?_ ?_
   ·intro e he
    obtain ⟨n,_,rfl⟩:=List.mem_map.1 he
    exact ⟨rfl,rfl,isAct77 hw n⟩
   intro g
   simp only [go_sem,hP]
   refine .inr (.inr ?_)
   refine AS_lend [17] (all76 (actB w) acts g) rfl rfl rfl (by decide) rfl rfl ?_
   rintro r l' ⟨rfl,rem,rfl⟩
   refine ⟨_,_,rfl,rfl,?_⟩
   simp only [go_sem,hP,ownBack]
   (repeat ((first | refine Va ?_ | refine Vb ?_ | refine Vc ?_ | refine Vd ?_ | refine Ve ?_ | refine Vf ?_); (try simp only [go_sem,hP]); (repeat refine qJ ?_)))
   (refine WV_ret ?_; simp only [thenQ,inQ,RetQL,RetOkL,resAll,resA]; simp only [go_sem,tupA,AV.keepP,AV.keepPL]; refine ⟨_,[.box [iv pl,iv cr],.box [.c (ints acts)]],rfl,KeepL_mk rfl rfl ?_ ?_ rfl,?_⟩)
   ·simp only [go_sem,keepAll,Ob.keepP,AV.keepP,AV.keepPL,ints]
   ·trivial
   ·exact ⟨by unfold runB; rw [h1,h2]; rfl,rfl⟩
  ·have h2:within cr 0 20 = false:=by simpa using h2
   simp only [go_sem,h2]
   (repeat ((first | refine Va ?_ | refine Vb ?_ | refine Vc ?_ | refine Vd ?_ | refine Ve ?_ | refine Vf ?_); (try simp only [go_sem,hP,h2]); (repeat refine qJ ?_)))
   (refine AG_skip ?_; simp only [go_sem,hP]; (repeat refine qJ ?_); (repeat ((first | refine Va ?_ | refine Vb ?_ | refine Vc ?_ | refine Vd ?_ | refine Ve ?_ | refine Vf ?_); (try simp only [go_sem,hP]); (repeat refine qJ ?_))))
   (refine WV_ret ?_; simp only [thenQ,inQ,RetQL,RetOkL,resAll,resA]; simp only [go_sem,tupA,AV.keepP,AV.keepPL]; refine ⟨_,[.box [iv pl,iv cr],.box [.c (ints acts)]],rfl,KeepL_mk rfl rfl ?_ ?_ rfl,?_⟩)
   ·simp only [go_sem,keepAll,Ob.keepP,AV.keepP,AV.keepPL,ints]
   ·trivial
   ·exact ⟨by unfold runB; rw [h1,h2]; rfl,rfl⟩
 ·have h1:within pl 0 (w.ro - 1) = false:=by simpa using h1
  simp only [go_sem,h1]
  (refine AG_skip ?_; simp only [go_sem,hP]; (repeat refine qJ ?_); (repeat ((first | refine Va ?_ | refine Vb ?_ | refine Vc ?_ | refine Vd ?_ | refine Ve ?_ | refine Vf ?_); (try simp only [go_sem,hP]); (repeat refine qJ ?_))))
  (refine AG_skip ?_; simp only [go_sem,hP]; (repeat refine qJ ?_); (repeat ((first | refine Va ?_ | refine Vb ?_ | refine Vc ?_ | refine Vd ?_ | refine Ve ?_ | refine Vf ?_); (try simp only [go_sem,hP]); (repeat refine qJ ?_))))
  (refine WV_ret ?_; simp only [thenQ,inQ,RetQL,RetOkL,resAll,resA]; simp only [go_sem,tupA,AV.keepP,AV.keepPL]; refine ⟨_,[.box [iv pl,iv cr],.box [.c (ints acts)]],rfl,KeepL_mk rfl rfl ?_ ?_ rfl,?_⟩)
  ·simp only [go_sem,keepAll,Ob.keepP,AV.keepP,AV.keepPL,ints]
  ·trivial
  ·exact ⟨by unfold runB; rw [h1]; rfl,rfl⟩
end Go.Proofs.YtefoconkepmmgaaGreatDoor

namespace Go.Proofs.YtefoconkepmmgaaGreatDoor
open Go Go.V
abbrev o30_0:List Ins:=[JS 2 (.box 3 (.t 0)),JS 4 (.alloc [Jz 0,J0,J0]),JS 5 (Ji 0)]
abbrev o30_1:List Ins:=[JS 7 (JL 3 2),JS 8 (Jc 56 [.t 7]),JS 6 (Jm 8)]
abbrev o30_2:List Ins:=[JS 9 (Jm 6),JS 10 (Jk .neq 9 0)]
abbrev o30_3:List Ins:=[JS 11 (.bld [Jz 0,J0,J0] []),JS 12 (Jm 6),JN (Js 3 4 11),JS 5 (Jm 12)]
abbrev v30_4:VC:=(.seq (.ops o30_3) .ret)
abbrev v30_5:VC:=(.cond (.t 10) v30_4 .skip)
abbrev v30_6:VC:=(.seq (.ops o30_2) v30_5)
abbrev o30_7:List Ins:=[JS 13 (Jm 1),JS 14 (JL 3 2),JS 15 (.bld [Jz 0,J0,J0] [(0,3,(.t 14))]),JS 16 (.call (.t 13) [.t 15]),JS 17 (.un .not (.t 16))]
abbrev o30_8:List Ins:=[JS 18 (.bld [Jz 0,J0,J0] []),JN (Js 3 4 18),JS 5 (Ji 1)]
abbrev v30_9:VC:=(.seq (.ops o30_8) .ret)
abbrev v30_10:VC:=(.cond (.t 17) v30_9 .skip)
abbrev o30_11:List Ins:=[JS 19 (JL 3 2),JS 20 (.bld [Jz 0,J0,J0] [(0,3,(.t 19))]),JN (Js 3 4 20),JS 5 (Ji 0)]
abbrev v30_12:VC:=(.seq (.ops o30_11) .ret)
abbrev v30_13:VC:=(.seq (.seq (.ops o30_7) v30_10) v30_12)
abbrev v30_14:VC:=(.seq (.seq (.ops o30_1) v30_6) v30_13)
def ir30:FC:=⟨2,21,[.cell 4 false 3,.t 5],(.seq (.ops o30_0) v30_14)⟩
abbrev o12_0:List Ins:=[JS 3 (.box 3 (.t 0)),JS 4 (.box 2 (.t 1)),JS 5 (.box 1 (.t 2)),JS 6 (.alloc [Jz 0,Jz 0]),JS 7 (Ji 0),JS 8 (Ji 0)]
abbrev o12_1:List Ins:=[JS 13 (JL 3 3),JS 14 (.mkfn 31 [.t 4,.t 5]),JS 15 (Jc 30 [.t 13,.t 14]),JS 12 (Jm 15),JS 16 (Je 12 0),JS 17 (Je 12 1),JS 9 (.alloc [Jz 0,J0,J0]),JN (Js 3 9 16),JS 8 (Jm 17)]
abbrev o12_2:List Ins:=[JS 18 (Jm 8),JS 19 (Jk .neq 18 0)]
abbrev o12_3:List Ins:=[JS 20 (.bld [Jz 0,Jz 0] []),JS 21 (Jm 8),JN (Js 2 6 20),JS 7 (Ji 0),JS 8 (Jm 21)]
abbrev v12_4:VC:=(.seq (.ops o12_3) .ret)
abbrev v12_5:VC:=(.cond (.t 19) v12_4 .skip)
abbrev o12_6:List Ins:=[JS 22 (Jl 5),JS 23 (Jn 22),JS 24 (Ji 0)]
abbrev o12_7:List Ins:=[JS 25 (Jb .lss 24 23)]
abbrev o12_8:List Ins:=[JS 26 (Ja 1 22 24),JS 27 (Jl 26),JS 11 (Jm 27)]
abbrev o12_9:List Ins:=[JS 28 (Jm 11),JS 29 (Jk .eql 28 (-1)),JS 30 (Jm 29),JG 31 (Jf 1 4) 30 true,JG 32 (Jl 31) 30 true,JG 33 (Jk .gtr 32 0) 30 true,JS 34 (Jp 30 33)]
abbrev o12_10:List Ins:=[JS 35 (Jm 7),JS 36 (Jk .add 35 1),JS 7 (Jm 36)]
abbrev v12_11:VC:=(.cond (.t 34) (.ops o12_10) .skip)
abbrev o12_12:List Ins:=[JS 37 (JL 3 9),JS 38 (JL 2 4),JS 39 (Jm 11),JS 40 (Jc 36 [.t 37,.t 38,.t 39]),JN (Js 2 4 40)]
abbrev v12_13:VC:=(.seq (.seq (.ops o12_9) v12_11) (.ops o12_12))
abbrev v12_14:VC:=(.seq (.ops o12_8) v12_13)
abbrev o12_15:List Ins:=[JS 41 (Jk .add 24 1),JS 24 (Jm 41)]
abbrev v12_16:VC:=(.seq (.block 1 v12_14) (.ops o12_15))
abbrev v12_17:VC:=(.seq (.cond (.t 25) .skip (.exit 0)) v12_16)
abbrev v12_18:VC:=(.seq (.ops o12_7) v12_17)
-- K12_1: changed and kept: [24,7]
abbrev K12_1:List Nat:=[4,6,9,22,23]
abbrev v12_19:VC:=(.loop v12_18)
abbrev v12_20:VC:=(.block 0 v12_19)
abbrev o12_21:List Ins:=[JS 42 (JL 2 4),JS 43 (Jm 7),JN (Js 2 6 42),JS 7 (Jm 43),JS 8 (Ji 0)]
abbrev v12_22:VC:=(.seq (.ops o12_21) .ret)
abbrev v12_23:VC:=(.seq (.seq (.ops o12_6) v12_20) v12_22)
abbrev v12_24:VC:=(.seq (.seq (.ops o12_2) v12_5) v12_23)
abbrev v12_25:VC:=(.seq (.ops o12_1) v12_24)
def ir12:FC:=⟨3,44,[.cell 6 false 2,.t 7,.t 8],(.seq (.ops o12_0) v12_25)⟩
theorem c30:compM Tryz.prog [] 30 = some ir30:=by kernel_rfl
theorem c12:compM Tryz.prog [] 12 = some ir12:=by kernel_rfl
attribute [local go_sem] Nat.reduceEqDiff Nat.reduceAdd Nat.reduceMul reduceIte Nat.reduceLeDiff Nat.reduceLT Nat.reduceBEq reduceCtorEq
def openE (w:Wh) (b:Bool):Int:=if whB w then (if b then 0 else 1) else 10
def whZ:AV:=.agg [.c (.int .i64 0),.c (.raw (.slice none 0 0)),.c (.raw (.slice none 0 0))]
theorem open73 (w:Wh) (pl cr:Int) (acts:List Int):FSpecL Tryz.prog 30 [w.av,.fn 31 [.bp 1000 0,.bp 1001 0]] [.box [iv pl,iv cr],.box [.c (ints acts)]] [] (fun r l' => r = .tup [if openE w (runB w pl cr acts) = 0 then w.av else whZ,iv (openE w (runB w pl cr acts))] ∧ l' = [.box [iv pl,iv cr],.box [.c (ints acts)]]):=by
 refine FSpecL_of c30 (by first | simp | exact Nat.le_of_ble_eq_true rfl) (Nat.le_refl _) (by decide) (by decide) fun C hP hN hC hL => ?_; rw [init_env',ownW_upd (by first | simp | exact Nat.le_of_ble_eq_true rfl)]; simp only [ir30,updL,updLo,List.map_nil,List.map_cons,Nat.reduceAdd,]
 simp only [Wh.av,Wh.avs]
 (repeat ((first | refine Va ?_ | refine Vb ?_ | refine Vc ?_ | refine Vd ?_ | refine Ve ?_ | refine Vf ?_); (try simp only [go_sem,hP,Wh.avs,ints]); (repeat refine qJ ?_)))
 (refine AS_pu (check36 w) ?_; simp only [go_sem,hP,Wh.av,Wh.avs,ints]; (repeat refine qJ ?_); (repeat ((first | refine Va ?_ | refine Vb ?_ | refine Vc ?_ | refine Vd ?_ | refine Ve ?_ | refine Vf ?_); (try simp only [go_sem,hP,Wh.av,Wh.avs,ints]); (repeat refine qJ ?_))))
 by_cases h1:whB w = true
 ·have e0:whE w = 0:=by unfold whE; rw [if_pos h1]
  rw [e0]
  (refine WV_cond rfl (fun h => ?_) (fun h => ?_))
  ·simp at h
  ·(repeat ((first | refine Va ?_ | refine Vb ?_ | refine Vc ?_ | refine Vd ?_ | refine Ve ?_ | refine Vf ?_); (try simp only [go_sem,hP]); (repeat refine qJ ?_)))
   refine AS_lend [1000,1001] (run74 (whB_ok h1) pl cr acts) rfl rfl rfl (by decide) rfl rfl ?_
   rintro r l' ⟨rfl,rfl⟩
   refine ⟨_,_,rfl,rfl,?_⟩
   simp only [go_sem,hP,ownBack]
   (repeat ((first | refine Va ?_ | refine Vb ?_ | refine Vc ?_ | refine Vd ?_ | refine Ve ?_ | refine Vf ?_); (try simp only [go_sem,hP]); (repeat refine qJ ?_)))
   by_cases h2:runB w pl cr acts = true
   ·have e1:openE w (runB w pl cr acts) = 0:=by unfold openE; rw [if_pos h1,if_pos h2]
    rw [e1]
    (refine WV_cond rfl (fun h => ?_) (fun h => ?_))
    ·rw [h2] at h; simp at h
    ·(repeat ((first | refine Va ?_ | refine Vb ?_ | refine Vc ?_ | refine Vd ?_ | refine Ve ?_ | refine Vf ?_); (try simp only [go_sem,hP]); (repeat refine qJ ?_)))
     (refine WV_ret ?_; simp only [thenQ,inQ,RetQL,RetOkL,resAll,resA]; simp only [go_sem,tupA,AV.keepP,AV.keepPL]; refine ⟨_,[.box [iv pl,iv cr],.box [.c (ints acts)]],rfl,KeepL_mk rfl rfl ?_ ?_ rfl,?_⟩)
     ·simp only [go_sem,keepAll,Ob.keepP,AV.keepP,AV.keepPL,ints]
     ·trivial
     ·exact ⟨rfl,rfl⟩
   ·have h2:runB w pl cr acts = false:=by simpa using h2
    have e1:openE w (runB w pl cr acts) = 1:=by unfold openE; rw [if_pos h1,h2]; rfl
    rw [e1]
    (refine WV_cond rfl (fun h => ?_) (fun h => ?_))
    ·(repeat ((first | refine Va ?_ | refine Vb ?_ | refine Vc ?_ | refine Vd ?_ | refine Ve ?_ | refine Vf ?_); (try simp only [go_sem,hP]); (repeat refine qJ ?_)))
     (refine WV_ret ?_; simp only [thenQ,inQ,RetQL,RetOkL,resAll,resA]; simp only [go_sem,tupA,AV.keepP,AV.keepPL]; refine ⟨_,[.box [iv pl,iv cr],.box [.c (ints acts)]],rfl,KeepL_mk rfl rfl ?_ ?_ rfl,?_⟩)
     ·simp only [go_sem,keepAll,Ob.keepP,AV.keepP,AV.keepPL,ints]
     ·trivial
     ·exact ⟨rfl,rfl⟩
    ·rw [h2] at h; simp at h
 ·have h1:whB w = false:=by simpa using h1
  have e0:whE w = 10:=by unfold whE; rw [h1]; rfl
  have e1:∀ b,openE w b = 10:=fun b => by unfold openE; rw [h1]; rfl
  rw [e0,e1]
  (refine WV_cond rfl (fun h => ?_) (fun h => ?_))
  ·(repeat ((first | refine Va ?_ | refine Vb ?_ | refine Vc ?_ | refine Vd ?_ | refine Ve ?_ | refine Vf ?_); (try simp only [go_sem,hP]); (repeat refine qJ ?_)))
   (refine WV_ret ?_; simp only [thenQ,inQ,RetQL,RetOkL,resAll,resA]; simp only [go_sem,tupA,AV.keepP,AV.keepPL]; refine ⟨_,[.box [iv pl,iv cr],.box [.c (ints acts)]],rfl,KeepL_mk rfl rfl ?_ ?_ rfl,?_⟩)
   ·simp only [go_sem,keepAll,Ob.keepP,AV.keepP,AV.keepPL,ints]
   ·trivial
   ·exact ⟨rfl,rfl⟩
  ·simp at h
def stepR (w:Wh) (s:Int × Int × Int) (a:Int):Int × Int × Int:=((actP w s.1 s.2.1 a).1,(actP w s.1 s.2.1 a).2,s.2.2 + if a = -1 ∧ 0 < s.2.1 then 1 else 0)
def runS (w:Wh) (pl cr:Int) (acts:List Int):Int × Int × Int:=acts.foldl (stepR w) (pl,cr,0)
theorem actP_ok {w:Wh} (hw:WhOk w) {pl cr a:Int} (hp:0 ≤ pl ∧ pl < w.ro) (hc:0 ≤ cr) (ha:actB w a = true):(0 ≤ (actP w pl cr a).1 ∧ (actP w pl cr a).1 < w.ro) ∧ 0 ≤ (actP w pl cr a).2 ∧ (actP w pl cr a).2 ≤ cr + 112:=by
 have hro:=hw.ro
 unfold actP
 by_cases h1:a = -1
 ·rw [if_pos h1]
  split
  ·exact ⟨⟨by simp,by simp; omega⟩,by simp; omega,by simp; omega⟩
  ·exact ⟨hp,hc,by simp; omega⟩
 ·rw [if_neg h1]
  have hk:0 ≤ a ∧ a ≤ w.co.length - 1:=by
   simp only [actB,Bool.or_eq_true,within,Bool.and_eq_true,decide_eq_true_eq,beq_iff_eq] at ha
   rcases ha with h | h
   ·exact absurd h h1
   ·exact h
  have hco:=co_at hw hk
  have hb:=plays_ok hw (p:=pl) (c:=w.co.getD a.toNat 0) (by omega)
  refine ⟨⟨Int.emod_nonneg _ (by omega),Int.emod_lt_of_pos _ (by omega)⟩,?_,?_⟩ <;> simp only <;> omega
theorem runS_ok {w:Wh} (hw:WhOk w) {pl cr:Int} (hp:0 ≤ pl ∧ pl < w.ro) (hc:0 ≤ cr):∀ (acts:List Int) (s:Int × Int × Int),(0 ≤ s.1 ∧ s.1 < w.ro) → 0 ≤ s.2.1 → 0 ≤ s.2.2 → acts.all (actB w) = true →
  (0 ≤ (acts.foldl (stepR w) s).1 ∧ (acts.foldl (stepR w) s).1 < w.ro) ∧ (0 ≤ (acts.foldl (stepR w) s).2.1 ∧ (acts.foldl (stepR w) s).2.1 ≤ s.2.1 + 112 * acts.length) ∧ (0 ≤ (acts.foldl (stepR w) s).2.2 ∧ (acts.foldl (stepR w) s).2.2 ≤ s.2.2 + acts.length)
 | [],s,h1,h2,h3,_ => by simp only [List.foldl_nil,List.length_nil]; omega
 | a :: acts,s,h1,h2,h3,h4 => by
  simp only [List.all_cons,Bool.and_eq_true] at h4
  have h5:=actP_ok hw h1 h2 h4.1
  have h6:=runS_ok hw hp hc acts (stepR w s a) h5.1 h5.2.1 (by simp only [stepR]; split <;> omega) h4.2
  simp only [List.foldl_cons,List.length_cons]
  simp only [stepR] at h6 ⊢
  refine ⟨h6.1,⟨h6.2.1.1,by omega⟩,h6.2.2.1,?_⟩
  have:=h6.2.2.2
  split at this <;> (rename_i hc; simp only [hc,if_true,if_false] at *; omega)
theorem runS_succ {w:Wh} {pl cr:Int} {acts:List Int} {k:Nat} (h:k < acts.length):runS w pl cr (acts.take (k + 1)) = stepR w (runS w pl cr (acts.take k)) acts[k]:=by
 unfold runS
 rw [List.take_succ_eq_append_getElem h,List.foldl_append]; rfl
def runP (w:Wh) (pl cr:Int) (acts:List Int):(Int × Int × Int) × Int:=if openE w (runB w pl cr acts) = 0 then (runS w pl cr acts,0) else ((0,0,0),openE w (runB w pl cr acts))
set_option maxHeartbeats 8000000 in
theorem run69 (w:Wh) (pl cr:Int) (acts:List Int):FSpec Tryz.prog 12 [w.av,.agg [iv pl,iv cr],.c (ints acts)] (.tup [.agg [iv (runP w pl cr acts).1.1,iv (runP w pl cr acts).1.2.1],iv (runP w pl cr acts).1.2.2,iv (runP w pl cr acts).2]):=by
 refine FSpec_of c12 (Nat.le_refl _) (by decide) fun C hP hN hC hL => ?_; rw [init_st]
 simp only [ir12,Wh.av,Wh.avs]
 (repeat ((first | refine Va ?_ | refine Vb ?_ | refine Vc ?_ | refine Vd ?_ | refine Ve ?_ | refine Vf ?_); (try simp only [go_sem,hP,Wh.avs,ints]); (repeat refine qJ ?_)))
 refine AS_lend [4,5] (open73 w pl cr acts) rfl rfl rfl (by decide) rfl rfl ?_
 rintro r l' ⟨rfl,rfl⟩
 by_cases h1:openE w (runB w pl cr acts) = 0
 ·have e1:runP w pl cr acts = (runS w pl cr acts,0):=by unfold runP; rw [if_pos h1]
  rw [e1,if_pos h1,h1]
  have hb:whB w = true ∧ runB w pl cr acts = true:=by
   unfold openE at h1
   split at h1
   ·split at h1
    ·rename_i a b; exact ⟨a,b⟩
    ·cases h1
   ·cases h1
  have hw:=whB_ok hb.1
  have hro:=hw.ro
  have hb2:=hb.2
  simp only [runB,allB,within,Bool.and_eq_true,decide_eq_true_eq] at hb2
  refine ⟨_,_,rfl,rfl,?_⟩
  simp only [go_sem,hP,ownBack]
  (repeat ((first | refine Va ?_ | refine Vb ?_ | refine Vc ?_ | refine Vd ?_ | refine Ve ?_ | refine Vf ?_); (try simp only [go_sem,hP]); (repeat refine qJ ?_)))
  (refine WV_cond rfl (fun h => ?_) (fun h => ?_))
  ·simp at h
  ·(repeat ((first | refine Va ?_ | refine Vb ?_ | refine Vc ?_ | refine Vd ?_ | refine Ve ?_ | refine Vf ?_); (try simp only [go_sem,hP,List.length_map]); (repeat refine qJ ?_)))
   refine WV_loopK K12_1 [4] (fun k:Nat => k ≤ acts.length) (fun k => acts.length - k) (fun k => [(24,iv k),(7,iv (runS w pl cr (acts.take k)).2.2)]) (fun k => [(4,.box [iv (runS w pl cr (acts.take k)).1,iv (runS w pl cr (acts.take k)).2.1])]) 0 (Nat.zero_le _) ?_ ?_
   ·(refine Sub_of (by simp only [go_sem]; ((repeat' (first | exact EnvLe_e0 _ _ | refine EnvLe_upd ?_ ?_)) <;> ((try simp only [upd_app,e0_app,o0_app,Nat.reduceEqDiff,reduceIte]); first | exact AWk.refl _ _ | exact AWk.int (by omega) | exact AWk.int (by rw [w64 (by omega) (by omega)]; omega) | exact AWk.grow rfl | exact AWk.nil _ | exact AWk.of (by simp [runS])))) (by simp only [go_sem]; exact ObjLe_au))
   ·intro k hk
    (repeat ((first | refine Va ?_ | refine Vb ?_ | refine Vc ?_ | refine Vd ?_ | refine Ve ?_ | refine Vf ?_); (try simp only [go_sem,hP]); (repeat refine qJ ?_)))
    (refine WV_cond rfl (fun h => ?_) (fun h => ?_))
    ·have hi:k < acts.length:=by simpa using h
     have hgd:=ints_get hi
     rw [getD_at hi] at hgd
     have hall:actB w acts[k] = true:=List.all_eq_true.1 hb2.2.2 _ (List.getElem_mem hi)
     have hok:=runS_ok hw (pl:=pl) (cr:=cr) (by omega) (by omega) (acts.take k) (pl,cr,0) (by simp only; omega) (by simp only; omega) (by simp) (List.all_eq_true.2 fun x hx => List.all_eq_true.1 hb2.2.2 x (List.mem_of_mem_take hx))
     rw [show (acts.take k).foldl (stepR w) (pl,cr,0) = runS w pl cr (acts.take k) from rfl] at hok
     have hsu:=runS_succ (w:=w) (pl:=pl) (cr:=cr) hi
     have hlen:((acts.take k).length:Int) = k:=by rw [List.length_take]; omega
     rw [hlen] at hok
     generalize runS w pl cr (acts.take k) = s at hok hsu
     obtain ⟨s1,s2,s3⟩:=s
     simp only at hok
     have hk20:(k:Int) < 20:=by omega
     have w1:=w64 (n:=(k:Int) + 1) (by omega) (by omega)
     have w2:=w64 (n:=s3 + 1) (by omega) (by omega)
     have hact:=act78 hw (pl:=s1) (cr:=s2) (a:=acts[k]) hok.1 (by omega) hall
     generalize acts[k] = x at *
     (repeat ((first | refine Va ?_ | refine Vb ?_ | refine Vc ?_ | refine Vd ?_ | refine Ve ?_ | refine Vf ?_); (try simp only [go_sem,hP,hgd,ints,List.length_map,Int.toNat_natCast,Int.ofNat_lt,hi,Int.natCast_nonneg]); (repeat refine qJ ?_)))
     by_cases hm:x = -1 ∧ 0 < s2
     ·have e2:runS w pl cr (acts.take (k + 1)) = ((actP w s1 s2 x).1,(actP w s1 s2 x).2,s3 + 1):=by rw [hsu]; simp only [stepR,hm,and_self,if_true]
      (refine WV_cond rfl (fun h => ?_) (fun h => ?_))
      ·(repeat ((first | refine Va ?_ | refine Vb ?_ | refine Vc ?_ | refine Vd ?_ | refine Ve ?_ | refine Vf ?_); (try simp only [go_sem,hP,w2]); (repeat refine qJ ?_)))
       (refine AS_pu (hact) ?_; simp only [go_sem,hP,Wh.av,Wh.avs,ints]; (repeat refine qJ ?_); (repeat ((first | refine Va ?_ | refine Vb ?_ | refine Vc ?_ | refine Vd ?_ | refine Ve ?_ | refine Vf ?_); (try simp only [go_sem,hP,Wh.av,Wh.avs,ints]); (repeat refine qJ ?_))))
       (repeat ((first | refine Va ?_ | refine Vb ?_ | refine Vc ?_ | refine Vd ?_ | refine Ve ?_ | refine Vf ?_); (try simp only [go_sem,hP,w1]); (repeat refine qJ ?_)))
       refine ⟨k + 1,by omega,by omega,?_⟩
       rw [e2]
       exact Sub_au
      ·exfalso; simp only [hm.1] at h; simp at h; omega
     ·have e2:runS w pl cr (acts.take (k + 1)) = ((actP w s1 s2 x).1,(actP w s1 s2 x).2,s3):=by rw [hsu]; simp only [stepR,hm,if_false,Int.add_zero]
      (refine WV_cond rfl (fun h => ?_) (fun h => ?_))
      ·exfalso; apply hm; simp at h; exact h
      ·(repeat ((first | refine Va ?_ | refine Vb ?_ | refine Vc ?_ | refine Vd ?_ | refine Ve ?_ | refine Vf ?_); (try simp only [go_sem,hP]); (repeat refine qJ ?_)))
       (refine AS_pu (hact) ?_; simp only [go_sem,hP,Wh.av,Wh.avs,ints]; (repeat refine qJ ?_); (repeat ((first | refine Va ?_ | refine Vb ?_ | refine Vc ?_ | refine Vd ?_ | refine Ve ?_ | refine Vf ?_); (try simp only [go_sem,hP,Wh.av,Wh.avs,ints]); (repeat refine qJ ?_))))
       (repeat ((first | refine Va ?_ | refine Vb ?_ | refine Vc ?_ | refine Vd ?_ | refine Ve ?_ | refine Vf ?_); (try simp only [go_sem,hP,w1]); (repeat refine qJ ?_)))
       refine ⟨k + 1,by omega,by omega,?_⟩
       rw [e2]
       exact Sub_au
    ·have hi:k = acts.length:=by simp at h; omega
     subst hi
     rw [List.take_length]
     (repeat ((first | refine Va ?_ | refine Vb ?_ | refine Vc ?_ | refine Vd ?_ | refine Ve ?_ | refine Vf ?_); (try simp only [go_sem,hP]); (repeat refine qJ ?_)))
     (refine WV_ret ?_; simp only [thenQ,inQ,RetQ,RetOk,resAll,resA]; simp only [go_sem,tupA,AV.port,AV.portL,exists_eq_left']; (first | exact AVle.of rfl | refine AVle.of ?_ | skip))
 ·have e1:runP w pl cr acts = ((0,0,0),openE w (runB w pl cr acts)):=by unfold runP; rw [if_neg h1]
  rw [e1,if_neg h1]
  generalize openE w (runB w pl cr acts) = e at *
  refine ⟨_,_,rfl,rfl,?_⟩
  simp only [go_sem,hP,ownBack,whZ]
  (repeat ((first | refine Va ?_ | refine Vb ?_ | refine Vc ?_ | refine Vd ?_ | refine Ve ?_ | refine Vf ?_); (try simp only [go_sem,hP]); (repeat refine qJ ?_)))
  (refine WV_cond rfl (fun h => ?_) (fun h => ?_))
  ·(repeat ((first | refine Va ?_ | refine Vb ?_ | refine Vc ?_ | refine Vd ?_ | refine Ve ?_ | refine Vf ?_); (try simp only [go_sem,hP]); (repeat refine qJ ?_)))
   (refine WV_ret ?_; simp only [thenQ,inQ,RetQ,RetOk,resAll,resA]; simp only [go_sem,tupA,AV.port,AV.portL,exists_eq_left']; (first | exact AVle.of rfl | refine AVle.of ?_ | skip))
  ·simp at h; exact absurd h h1
end Go.Proofs.YtefoconkepmmgaaGreatDoor

namespace Go.Proofs.YtefoconkepmmgaaGreatDoor
open Go Go.V
abbrev o62_0:List Ins:=[JS 6 (JB false)]
abbrev o62_1:List Ins:=[JS 7 (Jm 1),JS 8 (Jm 0),JS 9 (Jb .leq 7 8),JS 10 (Jm 9),JG 11 (Jm 0) 10 true,JG 12 (Jm 2) 10 true,JG 13 (Jb .leq 11 12) 10 true,JS 14 (Jp 10 13),JS 6 (Jm 14)]
abbrev v62_2:VC:=(.seq (.ops o62_1) .ret)
def ir62:FC:=⟨3,15,[.t 6],(.seq (.ops o62_0) v62_2)⟩
abbrev o63_0:List Ins:=[JS 2 (JB false)]
abbrev o63_1:List Ins:=[JS 3 (Jm 0),JS 4 (Jc 62 [.t 3,(.k (Jz 0)),(.k (Jz 12))]),JS 5 (.un .not (.t 4)),JS 2 (Jm 5)]
abbrev v63_2:VC:=(.seq (.ops o63_1) .ret)
def ir63:FC:=⟨1,6,[.t 2],(.seq (.ops o63_0) v63_2)⟩
abbrev o48_0:List Ins:=[JS 1 (.box 8 (.t 0)),JS 2 (Ji 0)]
abbrev o48_1:List Ins:=[JS 8 (Jf 0 1),JS 9 (JL 3 8),JS 10 (Jc 56 [.t 9]),JS 11 (Jk .neq 10 0),JS 12 (Jm 11),JG 13 (Jf 6 1) 12 false,JG 14 (Jl 13) 12 false,JG 15 (Jc 62 [.t 14,(.k (Jz 0)),(.k (Jz 9999))]) 12 false,JG 16 (.un .not (.t 15)) 12 false,JS 17 (Jo 12 16),JS 18 (Jm 17),JG 19 (Jf 7 1) 18 false,JG 20 (Jl 19) 18 false,JG 21 (Jc 62 [.t 20,(.k (Jz 0)),(.k (Jz 9))]) 18 false,JG 22 (.un .not (.t 21)) 18 false,JS 23 (Jo 18 22)]
abbrev o48_2:List Ins:=[JS 2 (Ji 50)]
abbrev v48_3:VC:=(.seq (.ops o48_2) .ret)
abbrev v48_4:VC:=(.cond (.t 23) v48_3 .skip)
abbrev o48_5:List Ins:=[JS 3 (Ji 0)]
abbrev o48_6:List Ins:=[JS 24 (Jf 3 1),JS 25 (Jl 24),JS 26 (Jf 4 1),JS 27 (Jl 26),JS 28 (Jf 5 1),JS 29 (Jl 28),JS 30 (.raw (.build 108 #[(0,(.tmp 25)),(1,(.tmp 27)),(2,(.tmp 29))])),JS 31 (Ji 0)]
abbrev o48_7:List Ins:=[JS 32 (Jk .lss 31 3)]
abbrev o48_8:List Ins:=[JS 33 (.raw (.index 108 (.tmp 30) (.tmp 31))),JS 5 (Jm 33)]
abbrev o48_9:List Ins:=[JS 34 (Jm 5),JS 35 (Jn 34),JS 36 (Jf 0 1),JS 37 (Jf 2 36),JS 38 (Jl 37),JS 39 (Jn 38),JS 40 (Jb .neq 35 39),JS 41 (Jm 40),JG 42 (Jm 5) 41 false,JG 43 (Jc 57 [.t 42,(.k (.fn 63 []))]) 41 false,JS 44 (Jo 41 43)]
abbrev o48_10:List Ins:=[JS 2 (Ji 50)]
abbrev v48_11:VC:=(.seq (.ops o48_10) .ret)
abbrev v48_12:VC:=(.cond (.t 44) v48_11 .skip)
abbrev v48_13:VC:=(.seq (.ops o48_9) v48_12)
abbrev v48_14:VC:=(.seq (.ops o48_8) v48_13)
abbrev o48_15:List Ins:=[JS 45 (Jk .add 31 1),JS 31 (Jm 45)]
abbrev v48_16:VC:=(.seq (.block 1 v48_14) (.ops o48_15))
abbrev v48_17:VC:=(.seq (.cond (.t 32) .skip (.exit 0)) v48_16)
abbrev v48_18:VC:=(.seq (.ops o48_7) v48_17)
-- K48_1: changed and kept: [31]
abbrev v48_19:VC:=(.loop v48_18)
abbrev v48_20:VC:=(.block 0 v48_19)
abbrev o48_21:List Ins:=[JS 46 (Jf 3 1),JS 47 (Jl 46),JS 48 (Jn 47),JS 49 (Ji 0)]
abbrev o48_22:List Ins:=[JS 50 (Jb .lss 49 48)]
abbrev o48_23:List Ins:=[JS 51 (Jm 49),JS 52 (Ja 1 47 49),JS 53 (Jl 52),JS 6 (Jm 51),JS 7 (Jm 53)]
abbrev o48_24:List Ins:=[JS 54 (Jf 4 1),JS 55 (Jl 54),JS 56 (Jm 6),JS 57 (Ja 1 55 56),JS 58 (Jl 57),JS 59 (Jm 7),JS 60 (Jb .gtr 58 59)]
abbrev o48_25:List Ins:=[JS 2 (Ji 50)]
abbrev v48_26:VC:=(.seq (.ops o48_25) .ret)
abbrev v48_27:VC:=(.cond (.t 60) v48_26 .skip)
abbrev o48_28:List Ins:=[JS 61 (Jm 3),JS 62 (Jm 7),JS 63 (Jf 5 1),JS 64 (Jl 63),JS 65 (Jm 6),JS 66 (Ja 1 64 65),JS 67 (Jl 66),JS 68 (Jb .add 62 67),JS 69 (Jb .add 61 68),JS 3 (Jm 69)]
abbrev v48_29:VC:=(.seq (.seq (.ops o48_24) v48_27) (.ops o48_28))
abbrev v48_30:VC:=(.seq (.ops o48_23) v48_29)
abbrev o48_31:List Ins:=[JS 70 (Jk .add 49 1),JS 49 (Jm 70)]
abbrev v48_32:VC:=(.seq (.block 3 v48_30) (.ops o48_31))
abbrev v48_33:VC:=(.seq (.cond (.t 50) .skip (.exit 2)) v48_32)
abbrev v48_34:VC:=(.seq (.ops o48_22) v48_33)
-- K48_2: changed and kept: [49,3]
abbrev K48_2:List Nat:=[1,47,48]
abbrev v48_35:VC:=(.loop v48_34)
abbrev v48_36:VC:=(.block 2 v48_35)
abbrev o48_37:List Ins:=[JS 71 (Jm 3),JS 72 (Jk .gtr 71 12)]
abbrev o48_38:List Ins:=[JS 2 (Ji 50)]
abbrev v48_39:VC:=(.seq (.ops o48_38) .ret)
abbrev v48_40:VC:=(.cond (.t 72) v48_39 .skip)
abbrev o48_41:List Ins:=[JS 2 (Ji 0)]
abbrev v48_42:VC:=(.seq (.ops o48_41) .ret)
abbrev v48_43:VC:=(.seq (.seq (.ops o48_37) v48_40) v48_42)
abbrev v48_44:VC:=(.seq (.seq (.ops o48_21) v48_36) v48_43)
abbrev v48_45:VC:=(.seq (.seq (.ops o48_6) v48_20) v48_44)
abbrev v48_46:VC:=(.seq (.ops o48_5) v48_45)
abbrev v48_47:VC:=(.seq (.seq (.ops o48_1) v48_4) v48_46)
def ir48:FC:=⟨1,73,[.t 2],(.seq (.ops o48_0) v48_47)⟩
theorem c62:compM Tryz.prog [] 62 = some ir62:=by kernel_rfl
theorem c63:compM Tryz.prog [] 63 = some ir63:=by kernel_rfl
theorem c48:compM Tryz.prog [] 48 = some ir48:=by kernel_rfl
attribute [local go_sem] Nat.reduceEqDiff Nat.reduceAdd Nat.reduceMul reduceIte Nat.reduceLeDiff Nat.reduceLT Nat.reduceBEq reduceCtorEq
structure Bx where
 wh:Wh
 fo:List Int
 ma:List Int
 sl:List Int
 pl:Int
 sk:Int
def Bx.cds (b:Bx):List CD:=[.int .i64 b.wh.ro,ints b.wh.no,ints b.wh.co,ints b.fo,ints b.ma,ints b.sl,.int .i64 b.pl,.int .i64 b.sk]
def Bx.avs (b:Bx):List AV:=[.c (.int .i64 b.wh.ro),.c (ints b.wh.no),.c (ints b.wh.co),.c (ints b.fo),.c (ints b.ma),.c (ints b.sl),.c (.int .i64 b.pl),.c (.int .i64 b.sk)]
def Bx.av (b:Bx):AV:=.agg b.avs
theorem within37 (a b c:Int):FSpec Tryz.prog 62 [iv a,iv b,iv c] (.c (.bool (within a b c))):=by
 refine FSpec_of c62 (Nat.le_refl _) (by decide) fun C hP hN hC hL => ?_; rw [init_st]
 simp only [ir62]
 (repeat ((first | refine Va ?_ | refine Vb ?_ | refine Vc ?_ | refine Vd ?_ | refine Ve ?_ | refine Vf ?_); (try simp only [go_sem,hP]); (repeat refine qJ ?_)))
 (refine WV_ret ?_; simp only [thenQ,inQ,RetQ,RetOk,resAll,resA]; simp only [go_sem,tupA,AV.port,AV.portL,exists_eq_left']; (first | exact AVle.of rfl | refine AVle.of ?_ | skip))
def put12 (n:Int):Bool:=!within n 0 12
theorem over39 (n:Int):FSpec Tryz.prog 63 [iv n] (.c (.bool (put12 n))):=by
 refine FSpec_of c63 (Nat.le_refl _) (by decide) fun C hP hN hC hL => ?_; rw [init_st]
 simp only [ir63]
 (repeat ((first | refine Va ?_ | refine Vb ?_ | refine Vc ?_ | refine Vd ?_ | refine Ve ?_ | refine Vf ?_); (try simp only [go_sem,hP]); (repeat refine qJ ?_)))
 (refine AS_pu (within37 n 0 12) ?_; simp only [go_sem,hP]; (repeat refine qJ ?_); (repeat ((first | refine Va ?_ | refine Vb ?_ | refine Vc ?_ | refine Vd ?_ | refine Ve ?_ | refine Vf ?_); (try simp only [go_sem,hP]); (repeat refine qJ ?_))))
 (refine WV_ret ?_; simp only [thenQ,inQ,RetQ,RetOk,resAll,resA]; simp only [go_sem,tupA,AV.port,AV.portL,exists_eq_left']; (first | exact AVle.of rfl | refine AVle.of ?_ | skip))
def lstB (w:Wh) (l:List Int):Bool:=!(!(l.length == w.co.length) || l.any put12)
def mkK (fo ma:List Int):Nat → Bool
 | 0 => true
 | k + 1 => mkK fo ma k && decide (ma.getD k 0 ≤ fo.getD k 0)
def sumK (a b:List Int):Nat → Int
 | 0 => 0
 | k + 1 => sumK a b k + (a.getD k 0 + b.getD k 0)
def bxB (b:Bx):Bool:=whB b.wh && within b.pl 0 9999 && within b.sk 0 9 && lstB b.wh b.fo && lstB b.wh b.ma && lstB b.wh b.sl && mkK b.fo b.ma b.fo.length && decide (sumK b.fo b.sl b.fo.length ≤ 12)
def bxE (b:Bx):Int:=if bxB b then 0 else 50
theorem mkK_false {fo ma:List Int}:∀ {k m:Nat},mkK fo ma k = false → k ≤ m → mkK fo ma m = false
 | k,0,h,hm => by rwa [show k = 0 by omega] at h
 | k,m + 1,h,hm => by
  rcases Nat.lt_or_ge m k with h1 | h1
  ·rwa [show k = m + 1 by omega] at h
  ·unfold mkK; rw [mkK_false h h1]; rfl
theorem lstB_ok {w:Wh} {l:List Int} (h:lstB w l = true):l.length = w.co.length ∧ ∀ n ∈ l,0 ≤ n ∧ n ≤ 12:=by
 simp only [lstB,Bool.not_or,Bool.not_not,Bool.and_eq_true,beq_iff_eq,Bool.not_eq_true',List.any_eq_false,put12,within,decide_eq_true_eq] at h
 exact ⟨h.1,fun n hn => by have:=h.2 n hn; simpa using this⟩
theorem getD_in {l:List Int} {k:Nat} {P:Int → Prop} (h:∀ n ∈ l,P n) (hk:k < l.length):P (l.getD k 0):=by rw [getD_at hk]; exact h _ (List.getElem_mem hk)
theorem sumK_ok {a b:List Int} (ha:∀ n ∈ a,0 ≤ n ∧ n ≤ 12) (hb:∀ n ∈ b,0 ≤ n ∧ n ≤ 12):∀ k:Nat,k ≤ a.length → k ≤ b.length → 0 ≤ sumK a b k ∧ sumK a b k ≤ 24 * k
 | 0,_,_ => by simp [sumK]
 | k + 1,h1,h2 => by
  have ih:=sumK_ok ha hb k (by omega) (by omega)
  have e1:=getD_in ha (k:=k) (by omega)
  have e2:=getD_in hb (k:=k) (by omega)
  simp only [sumK]
  omega
set_option maxHeartbeats 8000000 in
theorem check28 (b:Bx):FSpec Tryz.prog 48 [b.av] (iv (bxE b)):=by
 refine FSpec_of c48 (Nat.le_refl _) (by decide) fun C hP hN hC hL => ?_; rw [init_st]
 simp only [ir48,Bx.av,Bx.avs]
 (repeat ((first | refine Va ?_ | refine Vb ?_ | refine Vc ?_ | refine Vd ?_ | refine Ve ?_ | refine Vf ?_); (try simp only [go_sem,hP,Bx.avs,ints]); (repeat refine qJ ?_)))
 (refine AS_pu (check36 b.wh) ?_; simp only [go_sem,hP,Wh.av,Wh.avs,ints]; (repeat refine qJ ?_); (repeat ((first | refine Va ?_ | refine Vb ?_ | refine Vc ?_ | refine Vd ?_ | refine Ve ?_ | refine Vf ?_); (try simp only [go_sem,hP,Wh.av,Wh.avs,ints]); (repeat refine qJ ?_))))
 have hE:∀ {c:Bool},bxB b = c → bxE b = if c then 0 else 50:=fun h => by unfold bxE; rw [h]
 by_cases h1:whB b.wh = true
 case neg =>
  have h1:whB b.wh = false:=by simpa using h1
  have e0:whE b.wh = 10:=by unfold whE; rw [h1]; rfl
  have e1:bxE b = 50:=hE (c:=false) (by unfold bxB; rw [h1]; rfl)
  rw [e0,e1]
  (refine AG_skip ?_; simp only [go_sem,hP]; (repeat refine qJ ?_); (repeat ((first | refine Va ?_ | refine Vb ?_ | refine Vc ?_ | refine Vd ?_ | refine Ve ?_ | refine Vf ?_); (try simp only [go_sem,hP]); (repeat refine qJ ?_))))
  (refine AG_skip ?_; simp only [go_sem,hP]; (repeat refine qJ ?_); (repeat ((first | refine Va ?_ | refine Vb ?_ | refine Vc ?_ | refine Vd ?_ | refine Ve ?_ | refine Vf ?_); (try simp only [go_sem,hP]); (repeat refine qJ ?_))))
  (refine WV_cond rfl (fun h => ?_) (fun h => ?_))
  ·(repeat ((first | refine Va ?_ | refine Vb ?_ | refine Vc ?_ | refine Vd ?_ | refine Ve ?_ | refine Vf ?_); (try simp only [go_sem,hP]); (repeat refine qJ ?_)))
   (refine WV_ret ?_; simp only [thenQ,inQ,RetQ,RetOk,resAll,resA]; simp only [go_sem,tupA,AV.port,AV.portL,exists_eq_left']; (first | exact AVle.of rfl | refine AVle.of ?_ | skip))
  ·simp at h
 have e0:whE b.wh = 0:=by unfold whE; rw [if_pos h1]
 rw [e0]
 have hb0:((0:Int) != 0) = false:=rfl
 have hw:=whB_ok h1
 have hcl:=hw.cl
 simp only [go_sem,hb0]
 (refine AG_pu (fun hG => within37 b.pl 0 9999) ?_; simp only [go_sem,hP,hb0]; (repeat refine qJ ?_); (repeat ((first | refine Va ?_ | refine Vb ?_ | refine Vc ?_ | refine Vd ?_ | refine Ve ?_ | refine Vf ?_); (try simp only [go_sem,hP,hb0]); (repeat refine qJ ?_))))
 by_cases h2:within b.pl 0 9999 = true
 case neg =>
  have h2:within b.pl 0 9999 = false:=by simpa using h2
  have e1:bxE b = 50:=hE (c:=false) (by unfold bxB; rw [h1,h2]; rfl)
  rw [e1]
  simp only [go_sem,h2,hb0]
  (refine AG_skip ?_; simp only [go_sem,hP]; (repeat refine qJ ?_); (repeat ((first | refine Va ?_ | refine Vb ?_ | refine Vc ?_ | refine Vd ?_ | refine Ve ?_ | refine Vf ?_); (try simp only [go_sem,hP]); (repeat refine qJ ?_))))
  (refine WV_cond rfl (fun h => ?_) (fun h => ?_))
  ·(repeat ((first | refine Va ?_ | refine Vb ?_ | refine Vc ?_ | refine Vd ?_ | refine Ve ?_ | refine Vf ?_); (try simp only [go_sem,hP]); (repeat refine qJ ?_)))
   (refine WV_ret ?_; simp only [thenQ,inQ,RetQ,RetOk,resAll,resA]; simp only [go_sem,tupA,AV.port,AV.portL,exists_eq_left']; (first | exact AVle.of rfl | refine AVle.of ?_ | skip))
  ·simp at h
 simp only [go_sem,h2,hb0]
 (refine AG_pu (fun hG => within37 b.sk 0 9) ?_; simp only [go_sem,hP,h2,hb0]; (repeat refine qJ ?_); (repeat ((first | refine Va ?_ | refine Vb ?_ | refine Vc ?_ | refine Vd ?_ | refine Ve ?_ | refine Vf ?_); (try simp only [go_sem,hP,h2,hb0]); (repeat refine qJ ?_))))
 by_cases h3:within b.sk 0 9 = true
 case neg =>
  have h3:within b.sk 0 9 = false:=by simpa using h3
  have e1:bxE b = 50:=hE (c:=false) (by unfold bxB; rw [h1,h2,h3]; rfl)
  rw [e1]
  (refine WV_cond rfl (fun h => ?_) (fun h => ?_))
  ·(repeat ((first | refine Va ?_ | refine Vb ?_ | refine Vc ?_ | refine Vd ?_ | refine Ve ?_ | refine Vf ?_); (try simp only [go_sem,hP]); (repeat refine qJ ?_)))
   (refine WV_ret ?_; simp only [thenQ,inQ,RetQ,RetOk,resAll,resA]; simp only [go_sem,tupA,AV.port,AV.portL,exists_eq_left']; (first | exact AVle.of rfl | refine AVle.of ?_ | skip))
  ·rw [h3] at h; simp at h
 (refine WV_cond rfl (fun h => ?_) (fun h => ?_))
 ·rw [h3] at h; simp at h
 clear h
 (repeat ((first | refine Va ?_ | refine Vb ?_ | refine Vc ?_ | refine Vd ?_ | refine Ve ?_ | refine Vf ?_); (try simp only [go_sem,hP]); (repeat refine qJ ?_)))
 refine raw_bldA (e:=22) (n:=3) (sz:=1) (z:=List.replicate 3 (.c (.raw (.slice none 0 0)))) (ps:=[(0,1,.t 25),(1,1,.t 27),(2,1,.t 29)]) (r:=[b.fo,b.ma,b.sl].map fun l => .c (ints l)) (by kernel_rfl) (by kernel_rfl) (by kernel_rfl) rfl ?_ rfl ?_ ?_
 ·intro i q hq
  have:i = 0 ∨ i = 1 ∨ i = 2 ∨ 3 ≤ i:=by omega
  rcases this with rfl | rfl | rfl | h
  case inr.inr.inr => rw [List.getElem?_eq_none (by exact h)] at hq; cases hq
  all_goals (cases hq; exact ⟨_,rfl,rfl⟩)
 ·simp only [go_sem]
 simp only [go_sem,hP]
 (repeat ((first | refine Va ?_ | refine Vb ?_ | refine Vc ?_ | refine Vd ?_ | refine Ve ?_ | refine Vf ?_); (try simp only [go_sem,hP]); (repeat refine qJ ?_)))
 have hin:∀ l ∈ [b.fo,b.ma,b.sl],lstB b.wh l = false → bxB b = false:=fun l hl h => by
  unfold bxB
  simp only [List.mem_cons,List.not_mem_nil,or_false] at hl
  rcases hl with rfl | rfl | rfl <;> rw [h] <;> simp
 refine WV_loopK [1,3,30] [] (fun k:Nat => k ≤ 3 ∧ ([b.fo,b.ma,b.sl].take k).all (lstB b.wh) = true) (fun k => 3 - k) (fun k => [(31,iv k)]) (fun _ => []) 0 ⟨by omega,rfl⟩ ?_ ?_
 ·exact Sub_au
 ·rintro k ⟨hk,hr⟩
  (repeat ((first | refine Va ?_ | refine Vb ?_ | refine Vc ?_ | refine Vd ?_ | refine Ve ?_ | refine Vf ?_); (try simp only [go_sem,hP]); (repeat refine qJ ?_)))
  (refine WV_cond rfl (fun h => ?_) (fun h => ?_))
  ·have hi:k < 3:=by simp at h; omega
   have hi2:k < [b.fo,b.ma,b.sl].length:=hi
   obtain ⟨l,hl⟩ : ∃ l,[b.fo,b.ma,b.sl][k]? = some l:=⟨_,List.getElem?_eq_getElem hi2⟩
   have hc:[AV.c (ints b.fo),.c (ints b.ma),.c (ints b.sl)][((k:Int)).toNat]? = some (.c (ints l)):=by
    have:=congrArg (Option.map fun l => AV.c (ints l)) hl
    rwa [← List.getElem?_map] at this
   have hlm:=List.mem_of_getElem? hl
   have hts:([b.fo,b.ma,b.sl].take (k + 1)).all (lstB b.wh) = lstB b.wh l:=by
    rw [List.take_add_one,hl,List.all_append,hr]; simp
   have w1:=w64 (n:=(k:Int) + 1) (by omega) (by omega)
   (refine WV_skip ?_; simp only [go_sem])
   refine WV_seq_ (WV_block (WV_seq_ ?_))
   (refine WV_op ?_; simp only [go_sem,hP]; (repeat refine qJ ?_))
   refine raw_idx1 (e:=22) (n:=3) (x':=.t 30) (i':=.t 31) (k:=.i64) (j:=k) (by kernel_rfl) (by kernel_rfl) (by kernel_rfl) rfl rfl rfl rfl rfl rfl (by omega) hc ?_
   have hne:((l.length:Int) != (b.wh.co.length:Int)) = !(l.length == b.wh.co.length):=ibne _ _
   simp only [go_sem,hP]
   (repeat ((first | refine Va ?_ | refine Vb ?_ | refine Vc ?_ | refine Vd ?_ | refine Ve ?_ | refine Vf ?_); (try simp only [go_sem,hP,ints,List.length_map,hne]); (repeat refine qJ ?_)))
   by_cases hl2:l.length = b.wh.co.length
   ·have hb2:(l.length == b.wh.co.length) = true:=by simpa using hl2
    simp only [go_sem,hb2]
    (refine AG_pu (fun hG => contains38 l 63 put12 (fun n _ => over39 n)) ?_; simp only [go_sem,hP,ints,hb2]; (repeat refine qJ ?_); (repeat ((first | refine Va ?_ | refine Vb ?_ | refine Vc ?_ | refine Vd ?_ | refine Ve ?_ | refine Vf ?_); (try simp only [go_sem,hP,ints,hb2]); (repeat refine qJ ?_))))
    by_cases h5:l.any put12 = true
    ·have e1:lstB b.wh l = false:=by unfold lstB; rw [hb2,h5]; rfl
     have e2:bxE b = 50:=hE (c:=false) (hin l hlm e1)
     rw [e2]
     (refine WV_cond rfl (fun h => ?_) (fun h => ?_))
     ·(repeat ((first | refine Va ?_ | refine Vb ?_ | refine Vc ?_ | refine Vd ?_ | refine Ve ?_ | refine Vf ?_); (try simp only [go_sem,hP]); (repeat refine qJ ?_)))
      (refine WV_ret ?_; simp only [thenQ,inQ,RetQ,RetOk,resAll,resA]; simp only [go_sem,tupA,AV.port,AV.portL,exists_eq_left']; (first | exact AVle.of rfl | refine AVle.of ?_ | skip))
     ·rw [h5] at h; simp at h
    ·have h5:l.any put12 = false:=by simpa using h5
     have e1:lstB b.wh l = true:=by unfold lstB; rw [hb2,h5]; rfl
     (refine WV_cond rfl (fun h => ?_) (fun h => ?_))
     ·rw [h5] at h; simp at h
     ·(repeat ((first | refine Va ?_ | refine Vb ?_ | refine Vc ?_ | refine Vd ?_ | refine Ve ?_ | refine Vf ?_); (try simp only [go_sem,hP,w1]); (repeat refine qJ ?_)))
      refine ⟨k + 1,⟨by omega,by rw [hts,e1]⟩,by omega,?_⟩
      (refine Sub_of (by simp only [go_sem]; ((repeat' (first | exact EnvLe_e0 _ _ | refine EnvLe_upd ?_ ?_)) <;> ((try simp only [upd_app,e0_app,o0_app,Nat.reduceEqDiff,reduceIte]); first | exact AWk.refl _ _ | exact AWk.int (by omega) | exact AWk.int (by rw [w64 (by omega) (by omega)]; omega) | exact AWk.grow rfl | exact AWk.nil _ | exact AWk.of (by simp [ints])))) (by simp only [go_sem]; exact ObjLe_au))
   ·have hb2:(l.length == b.wh.co.length) = false:=by simpa using hl2
    have e1:lstB b.wh l = false:=by unfold lstB; rw [hb2]; rfl
    have e2:bxE b = 50:=hE (c:=false) (hin l hlm e1)
    rw [e2]
    simp only [go_sem,hb2]
    (refine AG_skip ?_; simp only [go_sem,hP]; (repeat refine qJ ?_); (repeat ((first | refine Va ?_ | refine Vb ?_ | refine Vc ?_ | refine Vd ?_ | refine Ve ?_ | refine Vf ?_); (try simp only [go_sem,hP]); (repeat refine qJ ?_))))
    (refine WV_cond rfl (fun h => ?_) (fun h => ?_))
    ·(repeat ((first | refine Va ?_ | refine Vb ?_ | refine Vc ?_ | refine Vd ?_ | refine Ve ?_ | refine Vf ?_); (try simp only [go_sem,hP]); (repeat refine qJ ?_)))
     (refine WV_ret ?_; simp only [thenQ,inQ,RetQ,RetOk,resAll,resA]; simp only [go_sem,tupA,AV.port,AV.portL,exists_eq_left']; (first | exact AVle.of rfl | refine AVle.of ?_ | skip))
    ·simp at h
  ·have hi:k = 3:=by simp at h; omega
   subst hi
   simp only [List.take_succ_cons,List.take_zero,List.all_cons,List.all_nil,Bool.and_true,Bool.and_eq_true] at hr
   obtain ⟨g1,g2,g3⟩:=hr
   have k1:=lstB_ok g1
   have k2:=lstB_ok g2
   have k3:=lstB_ok g3
   have hbx:bxB b = (mkK b.fo b.ma b.fo.length && decide (sumK b.fo b.sl b.fo.length ≤ 12)):=by unfold bxB; rw [h1,h2,h3,g1,g2,g3]; rfl
   (repeat ((first | refine Va ?_ | refine Vb ?_ | refine Vc ?_ | refine Vd ?_ | refine Ve ?_ | refine Vf ?_); (try simp only [go_sem,hP,ints,List.length_map]); (repeat refine qJ ?_)))
   refine WV_loopK K48_2 [] (fun k:Nat => k ≤ b.fo.length ∧ mkK b.fo b.ma k = true) (fun k => b.fo.length - k) (fun k => [(49,iv k),(3,iv (sumK b.fo b.sl k))]) (fun _ => []) 0 ⟨by omega,rfl⟩ ?_ ?_
   ·(refine Sub_of (by simp only [go_sem]; ((repeat' (first | exact EnvLe_e0 _ _ | refine EnvLe_upd ?_ ?_)) <;> ((try simp only [upd_app,e0_app,o0_app,Nat.reduceEqDiff,reduceIte]); first | exact AWk.refl _ _ | exact AWk.int (by omega) | exact AWk.int (by rw [w64 (by omega) (by omega)]; omega) | exact AWk.grow rfl | exact AWk.nil _ | exact AWk.of (by simp [sumK])))) (by simp only [go_sem]; exact ObjLe_au))
   ·rintro k ⟨hk,hr⟩
    (repeat ((first | refine Va ?_ | refine Vb ?_ | refine Vc ?_ | refine Vd ?_ | refine Ve ?_ | refine Vf ?_); (try simp only [go_sem,hP]); (repeat refine qJ ?_)))
    (refine WV_cond rfl (fun h => ?_) (fun h => ?_))
    ·have hi:k < b.fo.length:=by simpa using h
     have hi2:k < b.ma.length:=by omega
     have hi3:k < b.sl.length:=by omega
     have gf:=ints_get hi
     have gm:=ints_get hi2
     have gs:=ints_get hi3
     have hs:=sumK_ok k1.2 k3.2 k (by omega) (by omega)
     have rf:=getD_in k1.2 hi
     have rm:=getD_in k2.2 hi2
     have rs:=getD_in k3.2 hi3
     have hms:mkK b.fo b.ma (k + 1) = decide (b.ma.getD k 0 ≤ b.fo.getD k 0):=by
      conv => lhs; unfold mkK
      rw [hr]; rfl
     have hss:sumK b.fo b.sl (k + 1) = sumK b.fo b.sl k + (b.fo.getD k 0 + b.sl.getD k 0):=rfl
     have w1:=w64 (n:=(k:Int) + 1) (by omega) (by omega)
     have w2:=w64 (n:=b.fo.getD k 0 + b.sl.getD k 0) (by omega) (by omega)
     have w3:=w64 (n:=sumK b.fo b.sl k + (b.fo.getD k 0 + b.sl.getD k 0)) (by omega) (by omega)
     have hfail:mkK b.fo b.ma (k + 1) = false → bxB b = false:=fun h => by rw [hbx,mkK_false h hi]; rfl
     generalize b.fo.getD k 0 = x at *
     generalize b.ma.getD k 0 = y at *
     generalize b.sl.getD k 0 = z at *
     (repeat ((first | refine Va ?_ | refine Vb ?_ | refine Vc ?_ | refine Vd ?_ | refine Ve ?_ | refine Vf ?_); (try simp only [go_sem,hP,gf,gm,gs,ints,List.length_map,Int.toNat_natCast,Int.ofNat_lt,hi,hi2,hi3,Int.natCast_nonneg]); (repeat refine qJ ?_)))
     by_cases hxy:y ≤ x
     ·(refine WV_cond rfl (fun h => ?_) (fun h => ?_))
      ·simp at h; omega
      ·(repeat ((first | refine Va ?_ | refine Vb ?_ | refine Vc ?_ | refine Vd ?_ | refine Ve ?_ | refine Vf ?_); (try simp only [go_sem,hP,gf,gm,gs,ints,List.length_map,Int.toNat_natCast,Int.ofNat_lt,hi,hi2,hi3,Int.natCast_nonneg,w1,w2,w3]); (repeat refine qJ ?_)))
       refine ⟨k + 1,⟨by omega,by rw [hms]; simpa using hxy⟩,by omega,?_⟩
       rw [hss]
       (refine Sub_of (by simp only [go_sem]; ((repeat' (first | exact EnvLe_e0 _ _ | refine EnvLe_upd ?_ ?_)) <;> ((try simp only [upd_app,e0_app,o0_app,Nat.reduceEqDiff,reduceIte]); first | exact AWk.refl _ _ | exact AWk.int (by omega) | exact AWk.int (by rw [w64 (by omega) (by omega)]; omega) | exact AWk.grow rfl | exact AWk.nil _ | exact AWk.of (by simp [ints])))) (by simp only [go_sem]; exact ObjLe_au))
     ·have e2:bxE b = 50:=hE (c:=false) (hfail (by rw [hms]; simpa using hxy))
      rw [e2]
      (refine WV_cond rfl (fun h => ?_) (fun h => ?_))
      ·(repeat ((first | refine Va ?_ | refine Vb ?_ | refine Vc ?_ | refine Vd ?_ | refine Ve ?_ | refine Vf ?_); (try simp only [go_sem,hP]); (repeat refine qJ ?_)))
       (refine WV_ret ?_; simp only [thenQ,inQ,RetQ,RetOk,resAll,resA]; simp only [go_sem,tupA,AV.port,AV.portL,exists_eq_left']; (first | exact AVle.of rfl | refine AVle.of ?_ | skip))
      ·simp at h; omega
    ·have hi:k = b.fo.length:=by simp at h; omega
     subst hi
     rw [hr] at hbx
     (repeat ((first | refine Va ?_ | refine Vb ?_ | refine Vc ?_ | refine Vd ?_ | refine Ve ?_ | refine Vf ?_); (try simp only [go_sem,hP]); (repeat refine qJ ?_)))
     by_cases hs:sumK b.fo b.sl b.fo.length ≤ 12
     ·have e2:bxE b = 0:=hE (c:=true) (by rw [hbx]; simpa using hs)
      rw [e2]
      (refine WV_cond rfl (fun h => ?_) (fun h => ?_))
      ·simp at h; omega
      ·(repeat ((first | refine Va ?_ | refine Vb ?_ | refine Vc ?_ | refine Vd ?_ | refine Ve ?_ | refine Vf ?_); (try simp only [go_sem,hP]); (repeat refine qJ ?_)))
       (refine WV_ret ?_; simp only [thenQ,inQ,RetQ,RetOk,resAll,resA]; simp only [go_sem,tupA,AV.port,AV.portL,exists_eq_left']; (first | exact AVle.of rfl | refine AVle.of ?_ | skip))
     ·have e2:bxE b = 50:=hE (c:=false) (by rw [hbx]; simpa using hs)
      rw [e2]
      (refine WV_cond rfl (fun h => ?_) (fun h => ?_))
      ·(repeat ((first | refine Va ?_ | refine Vb ?_ | refine Vc ?_ | refine Vd ?_ | refine Ve ?_ | refine Vf ?_); (try simp only [go_sem,hP]); (repeat refine qJ ?_)))
       (refine WV_ret ?_; simp only [thenQ,inQ,RetQ,RetOk,resAll,resA]; simp only [go_sem,tupA,AV.port,AV.portL,exists_eq_left']; (first | exact AVle.of rfl | refine AVle.of ?_ | skip))
      ·simp at h; omega
end Go.Proofs.YtefoconkepmmgaaGreatDoor

namespace Go.Proofs.YtefoconkepmmgaaGreatDoor
open Go Go.V
attribute [local go_sem] Nat.reduceEqDiff Nat.reduceAdd Nat.reduceMul reduceIte Nat.reduceLeDiff Nat.reduceLT Nat.reduceBEq reduceCtorEq
structure BxOk (b:Bx):Prop where
 wh:WhOk b.wh
 pl:0 ≤ b.pl ∧ b.pl ≤ 9999
 sk:0 ≤ b.sk ∧ b.sk ≤ 9
 fl:b.fo.length = b.wh.co.length
 fo:∀ n ∈ b.fo,0 ≤ n ∧ n ≤ 12
 ml:b.ma.length = b.wh.co.length
 ma:∀ n ∈ b.ma,0 ≤ n ∧ n ≤ 12
 sl:b.sl.length = b.wh.co.length
 sn:∀ n ∈ b.sl,0 ≤ n ∧ n ≤ 12
 mm:mkK b.fo b.ma b.fo.length = true
 sum:sumK b.fo b.sl b.fo.length ≤ 12
theorem bxB_ok {b:Bx} (h:bxB b = true):BxOk b:=by
 simp only [bxB,Bool.and_eq_true,decide_eq_true_eq,within] at h
 obtain ⟨⟨⟨⟨⟨⟨⟨h1,h2⟩,h3⟩,h4⟩,h5⟩,h6⟩,h7⟩,h8⟩:=h
 have k1:=lstB_ok h4
 have k2:=lstB_ok h5
 have k3:=lstB_ok h6
 exact ⟨whB_ok h1,h2,h3,k1.1,k1.2,k2.1,k2.2,k3.1,k3.2,h7,h8⟩
def addL (a b:List Int):List Int:=List.zipWith (· + ·) a b
def putL (b:Bx):List Int:=addL b.fo b.sl
end Go.Proofs.YtefoconkepmmgaaGreatDoor

namespace Go.Proofs.YtefoconkepmmgaaGreatDoor
open Go Go.V
abbrev o46_0:List Ins:=[JS 6 (JB false)]
abbrev o46_1:List Ins:=[JS 7 (Jm 0),JS 8 (Jm 1),JS 9 (Jb .geq 7 8),JS 10 (Jm 9),JG 11 (Jm 0) 10 true,JG 12 (Jm 2) 10 true,JG 13 (Jb .leq 11 12) 10 true,JS 14 (Jp 10 13),JS 6 (Jm 14)]
abbrev v46_2:VC:=(.seq (.ops o46_1) .ret)
def ir46:FC:=⟨3,15,[.t 6],(.seq (.ops o46_0) v46_2)⟩
abbrev o42_0:List Ins:=[JS 6 (JB false)]
abbrev o42_1:List Ins:=[JS 7 (Jm 0),JS 8 (Jm 1),JS 9 (Jm 2),JS 10 (Jc 46 [.t 7,.t 8,.t 9]),JS 6 (Jm 10)]
abbrev v42_2:VC:=(.seq (.ops o42_1) .ret)
def ir42:FC:=⟨3,11,[.t 6],(.seq (.ops o42_0) v42_2)⟩
abbrev o61_0:List Ins:=[JS 6 (JB false)]
abbrev o61_1:List Ins:=[JS 7 (Ji 0)]
abbrev o61_2:List Ins:=[JS 8 (Jm 7),JS 9 (Jm 0),JS 10 (Jn 9),JS 11 (Jb .lss 8 10)]
abbrev v61_3:VC:=(.cond (.t 11) .skip (.exit 0))
abbrev o61_4:List Ins:=[JF 14 (Jm 0),JF 15 (Jm 7),JF 16 (Ja 1 14 15),JF 17 (Jl 16),JF 18 (Jm 1),JF 19 (Jm 2),JS 20 (Jc 46 [.t 17,.t 18,.t 19]),JS 21 (.un .not (.t 20)),JS 22 (Jm 21),JG 23 (Jm 7) 22 false,JG 24 (Jk .gtr 23 0) 22 false,JG 25 (Jm 24) 22 false,JH 26 (Jm 0) 25 true,JH 27 (Jm 7) 25 true,JH 28 (Ja 1 26 27) 25 true,JH 29 (Jl 28) 25 true,JH 30 (Jm 0) 25 true,JH 31 (Jm 7) 25 true,JH 32 (Jk .sub 31 1) 25 true,JH 33 (Ja 1 30 32) 25 true,JH 34 (Jl 33) 25 true,JG 35 (Jb .leq 29 34) 25 true,JG 36 (Jp 25 35) 22 false,JS 37 (Jo 22 36)]
abbrev o61_5:List Ins:=[JS 6 (JB false)]
abbrev v61_6:VC:=(.seq (.ops o61_5) .ret)
abbrev v61_7:VC:=(.cond (.t 37) v61_6 .skip)
abbrev v61_8:VC:=(.seq (.dops o61_4) v61_7)
abbrev o61_9:List Ins:=[JS 12 (Jm 7),JS 13 (Jk .add 12 1),JS 7 (Jm 13)]
abbrev v61_10:VC:=(.seq (.block 1 v61_8) (.ops o61_9))
abbrev v61_11:VC:=(.seq (.seq (.ops o61_2) v61_3) v61_10)
-- K61_1: changed and kept: [7]
abbrev K61_1:List Nat:=[0,1,2]
abbrev v61_12:VC:=(.loop v61_11)
abbrev v61_13:VC:=(.block 0 v61_12)
abbrev o61_14:List Ins:=[JS 6 (JB true)]
abbrev v61_15:VC:=(.seq (.ops o61_14) .ret)
abbrev v61_16:VC:=(.seq (.seq (.ops o61_1) v61_13) v61_15)
def ir61:FC:=⟨3,38,[.t 6],(.seq (.ops o61_0) v61_16)⟩
abbrev o40_0:List Ins:=[JS 1 (.box 3 (.t 0)),JS 2 (Ji 0)]
abbrev o40_1:List Ins:=[JS 3 (Jf 0 1),JS 4 (Jl 3),JS 5 (Jc 46 [.t 4,(.k (Jz 1)),(.k (Jz 200))]),JS 6 (.un .not (.t 5)),JS 7 (Jm 6),JG 8 (Jf 1 1) 7 false,JG 9 (Jl 8) 7 false,JG 10 (Jn 9) 7 false,JG 11 (Jk .gtr 10 12) 7 false,JS 12 (Jo 7 11),JS 13 (Jm 12),JG 14 (Jf 1 1) 13 false,JG 15 (Jl 14) 13 false,JG 16 (Jf 0 1) 13 false,JG 17 (Jl 16) 13 false,JG 18 (Jc 61 [.t 15,(.k (Jz 1)),.t 17]) 13 false,JG 19 (.un .not (.t 18)) 13 false,JS 20 (Jo 13 19),JS 21 (Jm 20),JG 22 (Jf 2 1) 21 false,JG 23 (Jl 22) 21 false,JG 24 (Jn 23) 21 false,JG 25 (Jk .gtr 24 4) 21 false,JS 26 (Jo 21 25),JS 27 (Jm 26),JG 28 (Jf 2 1) 27 false,JG 29 (Jl 28) 27 false,JG 30 (Jc 61 [.t 29,(.k (Jz 1)),(.k (Jz 100))]) 27 false,JG 31 (.un .not (.t 30)) 27 false,JS 32 (Jo 27 31)]
abbrev o40_2:List Ins:=[JS 2 (Ji 10)]
abbrev v40_3:VC:=(.seq (.ops o40_2) .ret)
abbrev v40_4:VC:=(.cond (.t 32) v40_3 .skip)
abbrev o40_5:List Ins:=[JS 2 (Ji 0)]
abbrev v40_6:VC:=(.seq (.ops o40_5) .ret)
abbrev v40_7:VC:=(.seq (.seq (.ops o40_1) v40_4) v40_6)
def ir40:FC:=⟨1,33,[.t 2],(.seq (.ops o40_0) v40_7)⟩
abbrev o43_0:List Ins:=[JS 4 (.mv (.k J0))]
abbrev o43_1:List Ins:=[JS 5 (.mv (.k J0))]
abbrev o43_2:List Ins:=[JS 6 (Ji 0)]
abbrev o43_3:List Ins:=[JS 7 (Jm 6),JS 8 (Jm 0),JS 9 (Jn 8),JS 10 (Jb .lss 7 9)]
abbrev v43_4:VC:=(.cond (.t 10) .skip (.exit 0))
abbrev o43_5:List Ins:=[JF 13 (Jm 5),JF 14 (Jm 0),JF 15 (Jm 6),JF 16 (Ja 1 14 15),JF 17 (Jl 16),JF 18 (Jm 1),JF 19 (Jm 6),JF 20 (Ja 1 18 19),JF 21 (Jl 20),JF 22 (Jb .add 17 21),JF 23 (.bsl 3 1 [.t 22]),JS 24 (.app 3 1 8 (.t 13) (.t 23)),JS 5 (Jm 24)]
abbrev o43_6:List Ins:=[JS 11 (Jm 6),JS 12 (Jk .add 11 1),JS 6 (Jm 12)]
abbrev v43_7:VC:=(.seq (.block 1 (.dops o43_5)) (.ops o43_6))
abbrev v43_8:VC:=(.seq (.seq (.ops o43_3) v43_4) v43_7)
-- K43_1: changed and kept: [6,5]
abbrev K43_1:List Nat:=[0,1]
abbrev v43_9:VC:=(.loop v43_8)
abbrev v43_10:VC:=(.block 0 v43_9)
abbrev o43_11:List Ins:=[JS 25 (Jm 5),JS 4 (Jm 25)]
abbrev v43_12:VC:=(.seq (.ops o43_11) .ret)
abbrev v43_13:VC:=(.seq (.seq (.ops o43_2) v43_10) v43_12)
abbrev v43_14:VC:=(.seq (.ops o43_1) v43_13)
def ir43:FC:=⟨2,26,[.t 4],(.seq (.ops o43_0) v43_14)⟩
theorem c46:compM Tryz.prog [] 46 = some ir46:=by kernel_rfl
theorem c42:compM Tryz.prog [] 42 = some ir42:=by kernel_rfl
theorem c61:compM Tryz.prog [] 61 = some ir61:=by kernel_rfl
theorem c40:compM Tryz.prog [] 40 = some ir40:=by kernel_rfl
theorem c43:compM Tryz.prog [] 43 = some ir43:=by kernel_rfl
attribute [local go_sem] Nat.reduceEqDiff Nat.reduceAdd Nat.reduceMul reduceIte Nat.reduceLeDiff Nat.reduceLT Nat.reduceBEq reduceCtorEq
def i1s (l:List Int):List (List CD):=l.map fun n => [.int .i64 n]
theorem within33 (a b c:Int):FSpec Tryz.prog 46 [iv a,iv b,iv c] (.c (.bool (within a b c))):=by
 refine FSpec_of c46 (Nat.le_refl _) (by decide) fun C hP hN hC hL => ?_; rw [init_st]
 simp only [ir46]
 (repeat ((first | refine Va ?_ | refine Vb ?_ | refine Vc ?_ | refine Vd ?_ | refine Ve ?_ | refine Vf ?_); (try simp only [go_sem,hP]); (repeat refine qJ ?_)))
 (refine WV_ret ?_; simp only [thenQ,inQ,RetQ,RetOk,resAll,resA]; simp only [go_sem,tupA,AV.port,AV.portL,exists_eq_left']; (first | exact AVle.of rfl | refine AVle.of ?_ | skip))
theorem within22 (a b c:Int):FSpec Tryz.prog 42 [iv a,iv b,iv c] (.c (.bool (within a b c))):=by
 refine FSpec_of c42 (Nat.le_refl _) (by decide) fun C hP hN hC hL => ?_; rw [init_st]
 simp only [ir42]
 (repeat ((first | refine Va ?_ | refine Vb ?_ | refine Vc ?_ | refine Vd ?_ | refine Ve ?_ | refine Vf ?_); (try simp only [go_sem,hP]); (repeat refine qJ ?_)))
 (refine AS_pu (within33 a b c) ?_; simp only [go_sem,hP]; (repeat refine qJ ?_); (repeat ((first | refine Va ?_ | refine Vb ?_ | refine Vc ?_ | refine Vd ?_ | refine Ve ?_ | refine Vf ?_); (try simp only [go_sem,hP]); (repeat refine qJ ?_))))
 (refine WV_ret ?_; simp only [thenQ,inQ,RetQ,RetOk,resAll,resA]; simp only [go_sem,tupA,AV.port,AV.portL,exists_eq_left']; (first | exact AVle.of rfl | refine AVle.of ?_ | skip))
set_option maxHeartbeats 8000000 in
theorem rising34 (l:List Int) (lo most:Int):FSpec Tryz.prog 61 [.c (ints l),iv lo,iv most] (.c (.bool (risB lo most l))):=by
 refine FSpec_of c61 (Nat.le_refl _) (by decide) fun C hP hN hC hL => ?_; rw [init_st]
 have hl:l.length ≤ 9223372036854775807:=by simp only [AV.lensL,AV.lens] at hL; exact ints_lens hL.1
 simp only [ir61]
 (repeat ((first | refine Va ?_ | refine Vb ?_ | refine Vc ?_ | refine Vd ?_ | refine Ve ?_ | refine Vf ?_); (try simp only [go_sem,hP]); (repeat refine qJ ?_)))
 refine WV_loopK K61_1 [] (fun k:Nat => k ≤ l.length ∧ risK lo most l k = true) (fun k => l.length - k) (fun k => [(7,iv k)]) (fun _ => []) 0 ⟨Nat.zero_le _,rfl⟩ ?_ ?_
 ·(refine Sub_of (by simp only [go_sem]; ((repeat' (first | exact EnvLe_e0 _ _ | refine EnvLe_upd ?_ ?_)) <;> ((try simp only [upd_app,e0_app,o0_app,Nat.reduceEqDiff,reduceIte]); first | exact AWk.refl _ _ | exact AWk.int (by omega) | exact AWk.int (by rw [w64 (by omega) (by omega)]; omega) | exact AWk.grow rfl | exact AWk.nil _ | exact AWk.of (by simp [ints])))) (by simp only [go_sem]; exact ObjLe_au))
 rintro k ⟨hk,hr⟩
 (repeat ((first | refine Va ?_ | refine Vb ?_ | refine Vc ?_ | refine Vd ?_ | refine Ve ?_ | refine Vf ?_); (try simp only [go_sem,hP,ints,List.length_map]); (repeat refine qJ ?_)))
 (refine WV_cond rfl (fun h => ?_) (fun h => ?_))
 ·have hi:k < l.length:=by simpa using h
  have hw:=w64 (n:=(k:Int) + 1) (by omega) (by omega)
  have hgd:=ints_get hi
  have hs:risK lo most l (k + 1) = (within (l.getD k 0) lo most && (decide (k = 0) || decide (l.getD (k - 1) 0 < l.getD k 0))):=by
   conv => lhs; unfold risK
   rw [hr]; rfl
  have hfail:risK lo most l (k + 1) = false → risB lo most l = false:=fun h => risK_false h hi
  generalize l.getD k 0 = a at hgd hs
  have hz0:(Go.IntKind.i64.wrap (((0:Nat):Int) - 1)).toNat = 0:=rfl
  by_cases hz:k = 0
  ·subst hz
   have hd0:decide ((0:Int) < ((0:Nat):Int)) = false:=rfl
   have hs:risK lo most l (0 + 1) = within a lo most:=by rw [hs]; simp
   (repeat ((first | refine Va ?_ | refine Vb ?_ | refine Vc ?_ | refine Vd ?_ | refine Ve ?_ | refine Vf ?_); (try simp only [go_sem,hP,hgd,ints,List.length_map,Int.toNat_natCast,Int.ofNat_lt,hi,Int.natCast_nonneg,hd0,hz0]); (repeat refine qJ ?_)))
   (refine AS_pu (within33 a lo most) ?_; simp only [go_sem,hP,hd0,hz0,hgd,ints,List.length_map,Int.toNat_natCast]; (repeat refine qJ ?_); (repeat ((first | refine Va ?_ | refine Vb ?_ | refine Vc ?_ | refine Vd ?_ | refine Ve ?_ | refine Vf ?_); (try simp only [go_sem,hP,hd0,hz0,hgd,ints,List.length_map,Int.toNat_natCast]); (repeat refine qJ ?_))))
   by_cases hin:within a lo most = true
   ·rw [hin] at hs
    (refine WV_cond rfl (fun h => ?_) (fun h => ?_))
    ·simp [hin] at h
    (repeat ((first | refine Va ?_ | refine Vb ?_ | refine Vc ?_ | refine Vd ?_ | refine Ve ?_ | refine Vf ?_); (try simp only [go_sem,hP,hw]); (repeat refine qJ ?_)))
    refine ⟨0 + 1,⟨by omega,hs⟩,by omega,?_⟩
    (refine Sub_of (by simp only [go_sem]; ((repeat' (first | exact EnvLe_e0 _ _ | refine EnvLe_upd ?_ ?_)) <;> ((try simp only [upd_app,e0_app,o0_app,Nat.reduceEqDiff,reduceIte]); first | exact AWk.refl _ _ | exact AWk.int (by omega) | exact AWk.int (by rw [w64 (by omega) (by omega)]; omega) | exact AWk.grow rfl | exact AWk.nil _ | exact AWk.of (by simp [ints])))) (by simp only [go_sem]; exact ObjLe_au))
   ·have hin:within a lo most = false:=by simpa using hin
    rw [hin] at hs
    rw [hfail hs]
    (refine WV_cond rfl (fun h => ?_) (fun h => ?_))
    ·(repeat ((first | refine Va ?_ | refine Vb ?_ | refine Vc ?_ | refine Vd ?_ | refine Ve ?_ | refine Vf ?_); (try simp only [go_sem,hP]); (repeat refine qJ ?_)))
     (refine WV_ret ?_; simp only [thenQ,inQ,RetQ,RetOk,resAll,resA]; simp only [go_sem,tupA,AV.port,AV.portL,exists_eq_left']; (first | exact AVle.of rfl | refine AVle.of ?_ | skip))
    ·simp [hin] at h
  ·have hgp:=ints_get (l:=l) (i:=k - 1) (by omega)
   generalize l.getD (k - 1) 0 = b at hgp hs
   have hd1:decide ((0:Int) < (k:Int)) = true:=by rw [decide_eq_true_eq]; omega
   have wi:=w64 (n:=(k:Int) - 1) (by omega) (by omega)
   have ei:((k:Int) - 1).toNat = k - 1:=by omega
   have hlt:(k:Int) - 1 < (l.length:Int):=by omega
   have hge:(0:Int) ≤ (k:Int) - 1:=by omega
   have hs:risK lo most l (k + 1) = (within a lo most && decide (b < a)):=by rw [hs]; simp [hz]
   (repeat ((first | refine Va ?_ | refine Vb ?_ | refine Vc ?_ | refine Vd ?_ | refine Ve ?_ | refine Vf ?_); (try simp only [go_sem,hP,hgd,ints,List.length_map,Int.toNat_natCast,Int.ofNat_lt,hi,Int.natCast_nonneg,hd1]); (repeat refine qJ ?_)))
   (refine AS_pu (within33 a lo most) ?_; simp only [go_sem,hP,hd1,hgd,hgp,wi,ei,hlt,hge,ints,List.length_map,Int.toNat_natCast,Int.ofNat_lt,hi,Int.natCast_nonneg]; (repeat refine qJ ?_); (repeat ((first | refine Va ?_ | refine Vb ?_ | refine Vc ?_ | refine Vd ?_ | refine Ve ?_ | refine Vf ?_); (try simp only [go_sem,hP,hd1,hgd,hgp,wi,ei,hlt,hge,ints,List.length_map,Int.toNat_natCast,Int.ofNat_lt,hi,Int.natCast_nonneg]); (repeat refine qJ ?_))))
   by_cases hin:(within a lo most && decide (b < a)) = true
   ·rw [hin] at hs
    rw [Bool.and_eq_true,decide_eq_true_eq] at hin
    (refine WV_cond rfl (fun h => ?_) (fun h => ?_))
    ·rw [hin.1] at h; simp at h; omega
    (repeat ((first | refine Va ?_ | refine Vb ?_ | refine Vc ?_ | refine Vd ?_ | refine Ve ?_ | refine Vf ?_); (try simp only [go_sem,hP,hw]); (repeat refine qJ ?_)))
    refine ⟨k + 1,⟨by omega,hs⟩,by omega,?_⟩
    (refine Sub_of (by simp only [go_sem]; ((repeat' (first | exact EnvLe_e0 _ _ | refine EnvLe_upd ?_ ?_)) <;> ((try simp only [upd_app,e0_app,o0_app,Nat.reduceEqDiff,reduceIte]); first | exact AWk.refl _ _ | exact AWk.int (by omega) | exact AWk.int (by rw [w64 (by omega) (by omega)]; omega) | exact AWk.grow rfl | exact AWk.nil _ | exact AWk.of (by simp [ints])))) (by simp only [go_sem]; exact ObjLe_au))
   ·have hin:(within a lo most && decide (b < a)) = false:=by simpa using hin
    rw [hin] at hs
    rw [hfail hs]
    (refine WV_cond rfl (fun h => ?_) (fun h => ?_))
    ·(repeat ((first | refine Va ?_ | refine Vb ?_ | refine Vc ?_ | refine Vd ?_ | refine Ve ?_ | refine Vf ?_); (try simp only [go_sem,hP]); (repeat refine qJ ?_)))
     (refine WV_ret ?_; simp only [thenQ,inQ,RetQ,RetOk,resAll,resA]; simp only [go_sem,tupA,AV.port,AV.portL,exists_eq_left']; (first | exact AVle.of rfl | refine AVle.of ?_ | skip))
    ·cases h1:within a lo most with
     | false => rw [h1] at h; simp at h
     | true => rw [h1] at h hin; simp at h hin; omega
 ·have hi:k = l.length:=by simp at h; omega
  subst hi
  unfold risB
  rw [hr]
  (repeat ((first | refine Va ?_ | refine Vb ?_ | refine Vc ?_ | refine Vd ?_ | refine Ve ?_ | refine Vf ?_); (try simp only [go_sem,hP,ints,List.length_map]); (repeat refine qJ ?_)))
  (refine WV_ret ?_; simp only [thenQ,inQ,RetQ,RetOk,resAll,resA]; simp only [go_sem,tupA,AV.port,AV.portL,exists_eq_left']; (first | exact AVle.of rfl | refine AVle.of ?_ | skip))
theorem check20 (w:Wh):FSpec Tryz.prog 40 [w.av] (iv (whE w)):=by
 refine FSpec_of c40 (Nat.le_refl _) (by decide) fun C hP hN hC hL => ?_; rw [init_st]
 simp only [ir40,Wh.av,Wh.avs]
 (repeat ((first | refine Va ?_ | refine Vb ?_ | refine Vc ?_ | refine Vd ?_ | refine Ve ?_ | refine Vf ?_); (try simp only [go_sem,hP,Wh.avs,ints]); (repeat refine qJ ?_)))
 (refine AS_pu (within33 w.ro 1 200) ?_; simp only [go_sem,hP,ints,List.length_map]; (repeat refine qJ ?_); (repeat ((first | refine Va ?_ | refine Vb ?_ | refine Vc ?_ | refine Vd ?_ | refine Ve ?_ | refine Vf ?_); (try simp only [go_sem,hP,ints,List.length_map]); (repeat refine qJ ?_))))
 have hbad:whB w = false → whE w = 10:=fun h => by unfold whE; rw [h]; rfl
 by_cases h1:within w.ro 1 200 = true
 case neg =>
  have h1:within w.ro 1 200 = false:=by simpa using h1
  rw [hbad (by unfold whB; rw [h1]; rfl)]
  simp only [go_sem,h1]
  (refine AG_skip ?_; simp only [go_sem,hP,List.length_map]; (repeat refine qJ ?_); (repeat ((first | refine Va ?_ | refine Vb ?_ | refine Vc ?_ | refine Vd ?_ | refine Ve ?_ | refine Vf ?_); (try simp only [go_sem,hP,List.length_map]); (repeat refine qJ ?_))))
  (refine AG_skip ?_; simp only [go_sem,hP,List.length_map]; (repeat refine qJ ?_); (repeat ((first | refine Va ?_ | refine Vb ?_ | refine Vc ?_ | refine Vd ?_ | refine Ve ?_ | refine Vf ?_); (try simp only [go_sem,hP,List.length_map]); (repeat refine qJ ?_))))
  (refine WV_cond rfl (fun h => ?_) (fun h => ?_))
  ·(repeat ((first | refine Va ?_ | refine Vb ?_ | refine Vc ?_ | refine Vd ?_ | refine Ve ?_ | refine Vf ?_); (try simp only [go_sem,hP]); (repeat refine qJ ?_)))
   (refine WV_ret ?_; simp only [thenQ,inQ,RetQ,RetOk,resAll,resA]; simp only [go_sem,tupA,AV.port,AV.portL,exists_eq_left']; (first | exact AVle.of rfl | refine AVle.of ?_ | skip))
  ·simp at h
 by_cases h2:(w.no.length:Int) ≤ 12
 case neg =>
  have d2:decide ((12:Int) < (w.no.length:Int)) = true:=by rw [decide_eq_true_eq]; omega
  rw [hbad (by unfold whB; rw [decide_eq_false h2]; simp)]
  simp only [go_sem,h1,d2]
  (refine AG_skip ?_; simp only [go_sem,hP,d2,List.length_map]; (repeat refine qJ ?_); (repeat ((first | refine Va ?_ | refine Vb ?_ | refine Vc ?_ | refine Vd ?_ | refine Ve ?_ | refine Vf ?_); (try simp only [go_sem,hP,d2,List.length_map]); (repeat refine qJ ?_))))
  (refine AG_skip ?_; simp only [go_sem,hP,d2,List.length_map]; (repeat refine qJ ?_); (repeat ((first | refine Va ?_ | refine Vb ?_ | refine Vc ?_ | refine Vd ?_ | refine Ve ?_ | refine Vf ?_); (try simp only [go_sem,hP,d2,List.length_map]); (repeat refine qJ ?_))))
  (refine WV_cond rfl (fun h => ?_) (fun h => ?_))
  ·(repeat ((first | refine Va ?_ | refine Vb ?_ | refine Vc ?_ | refine Vd ?_ | refine Ve ?_ | refine Vf ?_); (try simp only [go_sem,hP]); (repeat refine qJ ?_)))
   (refine WV_ret ?_; simp only [thenQ,inQ,RetQ,RetOk,resAll,resA]; simp only [go_sem,tupA,AV.port,AV.portL,exists_eq_left']; (first | exact AVle.of rfl | refine AVle.of ?_ | skip))
  ·simp at h
 have d2:decide ((12:Int) < (w.no.length:Int)) = false:=by rw [decide_eq_false_iff_not]; omega
 simp only [go_sem,h1,d2]
 (refine AG_pu (fun hG => rising34 w.no 1 w.ro) ?_; simp only [go_sem,hP,ints,h1,d2,List.length_map]; (repeat refine qJ ?_); (repeat ((first | refine Va ?_ | refine Vb ?_ | refine Vc ?_ | refine Vd ?_ | refine Ve ?_ | refine Vf ?_); (try simp only [go_sem,hP,ints,h1,d2,List.length_map]); (repeat refine qJ ?_))))
 by_cases h3:risB 1 w.ro w.no = true
 case neg =>
  have h3:risB 1 w.ro w.no = false:=by simpa using h3
  rw [hbad (by unfold whB; rw [h3]; simp)]
  simp only [go_sem,h3]
  (refine AG_skip ?_; simp only [go_sem,hP,List.length_map]; (repeat refine qJ ?_); (repeat ((first | refine Va ?_ | refine Vb ?_ | refine Vc ?_ | refine Vd ?_ | refine Ve ?_ | refine Vf ?_); (try simp only [go_sem,hP,List.length_map]); (repeat refine qJ ?_))))
  (refine WV_cond rfl (fun h => ?_) (fun h => ?_))
  ·(repeat ((first | refine Va ?_ | refine Vb ?_ | refine Vc ?_ | refine Vd ?_ | refine Ve ?_ | refine Vf ?_); (try simp only [go_sem,hP]); (repeat refine qJ ?_)))
   (refine WV_ret ?_; simp only [thenQ,inQ,RetQ,RetOk,resAll,resA]; simp only [go_sem,tupA,AV.port,AV.portL,exists_eq_left']; (first | exact AVle.of rfl | refine AVle.of ?_ | skip))
  ·simp at h
 by_cases h4:(w.co.length:Int) ≤ 4
 case neg =>
  have d4:decide ((4:Int) < (w.co.length:Int)) = true:=by rw [decide_eq_true_eq]; omega
  rw [hbad (by unfold whB; rw [decide_eq_false h4]; simp)]
  simp only [go_sem,h3,d4]
  (refine AG_skip ?_; simp only [go_sem,hP,d4,List.length_map]; (repeat refine qJ ?_); (repeat ((first | refine Va ?_ | refine Vb ?_ | refine Vc ?_ | refine Vd ?_ | refine Ve ?_ | refine Vf ?_); (try simp only [go_sem,hP,d4,List.length_map]); (repeat refine qJ ?_))))
  (refine WV_cond rfl (fun h => ?_) (fun h => ?_))
  ·(repeat ((first | refine Va ?_ | refine Vb ?_ | refine Vc ?_ | refine Vd ?_ | refine Ve ?_ | refine Vf ?_); (try simp only [go_sem,hP]); (repeat refine qJ ?_)))
   (refine WV_ret ?_; simp only [thenQ,inQ,RetQ,RetOk,resAll,resA]; simp only [go_sem,tupA,AV.port,AV.portL,exists_eq_left']; (first | exact AVle.of rfl | refine AVle.of ?_ | skip))
  ·simp at h
 have d4:decide ((4:Int) < (w.co.length:Int)) = false:=by rw [decide_eq_false_iff_not]; omega
 simp only [go_sem,h3,d4]
 (refine AG_pu (fun hG => rising34 w.co 1 100) ?_; simp only [go_sem,hP,ints,h3,d4,List.length_map]; (repeat refine qJ ?_); (repeat ((first | refine Va ?_ | refine Vb ?_ | refine Vc ?_ | refine Vd ?_ | refine Ve ?_ | refine Vf ?_); (try simp only [go_sem,hP,ints,h3,d4,List.length_map]); (repeat refine qJ ?_))))
 by_cases h5:risB 1 100 w.co = true
 ·have:whE w = 0:=by unfold whE whB; rw [h1,h3,h5,decide_eq_true h2,decide_eq_true h4]; rfl
  rw [this]
  (refine WV_cond rfl (fun h => ?_) (fun h => ?_))
  ·simp [h5] at h
  ·(repeat ((first | refine Va ?_ | refine Vb ?_ | refine Vc ?_ | refine Vd ?_ | refine Ve ?_ | refine Vf ?_); (try simp only [go_sem,hP]); (repeat refine qJ ?_)))
   (refine WV_ret ?_; simp only [thenQ,inQ,RetQ,RetOk,resAll,resA]; simp only [go_sem,tupA,AV.port,AV.portL,exists_eq_left']; (first | exact AVle.of rfl | refine AVle.of ?_ | skip))
 ·have h5:risB 1 100 w.co = false:=by simpa using h5
  rw [hbad (by unfold whB; rw [h5]; simp)]
  (refine WV_cond rfl (fun h => ?_) (fun h => ?_))
  ·(repeat ((first | refine Va ?_ | refine Vb ?_ | refine Vc ?_ | refine Vd ?_ | refine Ve ?_ | refine Vf ?_); (try simp only [go_sem,hP]); (repeat refine qJ ?_)))
   (refine WV_ret ?_; simp only [thenQ,inQ,RetQ,RetOk,resAll,resA]; simp only [go_sem,tupA,AV.port,AV.portL,exists_eq_left']; (first | exact AVle.of rfl | refine AVle.of ?_ | skip))
  ·simp [h5] at h
theorem both23 {a b:List Int} (hl:a.length = b.length) (h5:a.length ≤ 5) (ha:∀ n ∈ a,0 ≤ n ∧ n ≤ 12) (hb:∀ n ∈ b,0 ≤ n ∧ n ≤ 12):FSpec Tryz.prog 43 [.c (ints a),.c (ints b)] (.c (ints (addL a b))):=by
 have hmax:maxLen = 9223372036854775807:=rfl
 have hal:(addL a b).length = a.length:=by simp [addL]; omega
 refine FSpec_of c43 (Nat.le_refl _) (by decide) fun C hP hN hC hL => ?_; rw [init_st]
 simp only [ir43]
 (repeat ((first | refine Va ?_ | refine Vb ?_ | refine Vc ?_ | refine Vd ?_ | refine Ve ?_ | refine Vf ?_); (try simp only [go_sem,hP,ints,List.length_map]); (repeat refine qJ ?_)))
 refine WV_nilslot 5 24 3 1 (by decide) (by decide) rfl rfl ?_
 simp only [go_sem]
 refine WV_loopK K43_1 [24] (fun k:Nat => k ≤ a.length) (fun k => a.length - k) (fun k => [(6,iv k),(5,.gr 24)]) (fun k => [(24,.grow 3 1 (i1s ((addL a b).take k)))]) 0 (by omega) ?_ ?_
 ·(refine Sub_of (by simp only [go_sem]; ((repeat' (first | exact EnvLe_e0 _ _ | refine EnvLe_upd ?_ ?_)) <;> ((try simp only [upd_app,e0_app,o0_app,Nat.reduceEqDiff,reduceIte]); first | exact AWk.refl _ _ | exact AWk.int (by omega) | exact AWk.int (by rw [w64 (by omega) (by omega)]; omega) | exact AWk.grow rfl | exact AWk.nil _ | exact AWk.of (by simp [i1s])))) (by simp only [go_sem]; exact ObjLe_au))
 ·intro k hk
  (repeat ((first | refine Va ?_ | refine Vb ?_ | refine Vc ?_ | refine Vd ?_ | refine Ve ?_ | refine Vf ?_); (try simp only [go_sem,hP,ints,List.length_map]); (repeat refine qJ ?_)))
  (refine WV_cond rfl (fun h => ?_) (fun h => ?_))
  ·have hi:k < a.length:=by simpa using h
   have hi2:k < b.length:=by omega
   have g1:=ints_get hi
   have g2:=ints_get hi2
   have e1:=getD_in ha hi
   have e2:=getD_in hb hi2
   have hs:i1s ((addL a b).take (k + 1)) = i1s ((addL a b).take k) ++ [[.int .i64 (a.getD k 0 + b.getD k 0)]]:=by
    rw [List.take_succ_eq_append_getElem (by omega)]
    simp only [i1s,List.map_append,List.map_cons,List.map_nil,addL,List.getElem_zipWith,getD_at hi,getD_at hi2]
   have hlk:(i1s ((addL a b).take k)).length = k:=by simp [i1s,hal]; omega
   have hon:((i1s ((addL a b).take k)).all fun e => e.length == 1) = true:=by rw [List.all_eq_true]; intro e he; obtain ⟨n,_,rfl⟩:=List.mem_map.1 he; rfl
   generalize i1s ((addL a b).take k) = L at hs hlk hon
   generalize a.getD k 0 = x at *
   generalize b.getD k 0 = y at *
   have w1:=w64 (n:=(k:Int) + 1) (by omega) (by omega)
   have w2:=w64 (n:=x + y) (by omega) (by omega)
   (repeat ((first | refine Va ?_ | refine Vb ?_ | refine Vc ?_ | refine Vd ?_ | refine Ve ?_ | refine Vf ?_); (try simp only [go_sem,hP,g1,g2,ints,List.length_map,Int.toNat_natCast,Int.ofNat_lt,hi,hi2,Int.natCast_nonneg,w1,w2,hlk,hon]); (repeat refine qJ ?_)))
   refine ⟨k + 1,by omega,by omega,?_⟩
   rw [hs]
   exact Sub_au
  ·have hi:k = a.length:=by simp at h; omega
   subst hi
   rw [List.take_of_length_le (by omega)]
   (repeat ((first | refine Va ?_ | refine Vb ?_ | refine Vc ?_ | refine Vd ?_ | refine Ve ?_ | refine Vf ?_); (try simp only [go_sem,hP]); (repeat refine qJ ?_)))
   (refine WV_ret ?_; simp only [thenQ,inQ,RetQ,RetOk,resAll,resA]; simp only [go_sem,tupA,AV.port,AV.portL,exists_eq_left']; (first | exact AVle.of rfl | refine AVle.of ?_ | skip))
end Go.Proofs.YtefoconkepmmgaaGreatDoor

namespace Go.Proofs.YtefoconkepmmgaaGreatDoor
open Go Go.V
abbrev o41_0:List Ins:=[JS 2 (.box 3 (.t 0)),JS 4 (JB false)]
abbrev o41_1:List Ins:=[JS 7 (Jm 1),JS 8 (Jn 7),JS 9 (Jf 2 2),JS 10 (Jl 9),JS 11 (Jn 10),JS 12 (Jb .neq 8 11)]
abbrev o41_2:List Ins:=[JS 4 (JB false)]
abbrev v41_3:VC:=(.seq (.ops o41_2) .ret)
abbrev v41_4:VC:=(.cond (.t 12) v41_3 .skip)
abbrev o41_5:List Ins:=[JS 5 (Ji 0)]
abbrev o41_6:List Ins:=[JS 6 (Ji 0)]
abbrev o41_7:List Ins:=[JS 13 (Jm 6),JS 14 (Jm 1),JS 15 (Jn 14),JS 16 (Jb .lss 13 15)]
abbrev v41_8:VC:=(.cond (.t 16) .skip (.exit 0))
abbrev o41_9:List Ins:=[JS 19 (Jm 1),JS 20 (Jm 6),JS 21 (Ja 1 19 20),JS 22 (Jl 21),JS 23 (Jc 46 [.t 22,(.k (Jz 0)),(.k (Jz 12))]),JS 24 (.un .not (.t 23))]
abbrev o41_10:List Ins:=[JS 4 (JB false)]
abbrev v41_11:VC:=(.seq (.ops o41_10) .ret)
abbrev v41_12:VC:=(.cond (.t 24) v41_11 .skip)
abbrev o41_13:List Ins:=[JS 25 (Jm 5),JS 26 (Jm 1),JS 27 (Jm 6),JS 28 (Ja 1 26 27),JS 29 (Jl 28),JS 30 (Jb .add 25 29),JS 5 (Jm 30)]
abbrev v41_14:VC:=(.seq (.seq (.ops o41_9) v41_12) (.ops o41_13))
abbrev o41_15:List Ins:=[JS 17 (Jm 6),JS 18 (Jk .add 17 1),JS 6 (Jm 18)]
abbrev v41_16:VC:=(.seq (.block 1 v41_14) (.ops o41_15))
abbrev v41_17:VC:=(.seq (.seq (.ops o41_7) v41_8) v41_16)
-- K41_1: changed and kept: [6,5]
abbrev K41_1:List Nat:=[1]
abbrev v41_18:VC:=(.loop v41_17)
abbrev v41_19:VC:=(.block 0 v41_18)
abbrev o41_20:List Ins:=[JS 31 (Jm 5),JS 32 (Jk .leq 31 12),JS 4 (Jm 32)]
abbrev v41_21:VC:=(.seq (.ops o41_20) .ret)
abbrev v41_22:VC:=(.seq (.seq (.ops o41_6) v41_19) v41_21)
abbrev v41_23:VC:=(.seq (.ops o41_5) v41_22)
abbrev v41_24:VC:=(.seq (.seq (.ops o41_1) v41_4) v41_23)
def ir41:FC:=⟨2,33,[.t 4],(.seq (.ops o41_0) v41_24)⟩
abbrev o55_0:List Ins:=[JS 1 (.box 3 (.t 0)),JS 2 (.alloc [Jz 0,J0,J0])]
abbrev t55_1:OT:=(.cons (JF 3 (Jf 0 1)) (.cons (JF 4 (Jl 3)) (.cons (JF 6 (Jf 1 1)) (.cons (JF 7 (Jl 6)) (.cons (JF 10 (Jf 2 1)) (.cons (JF 11 (Jl 10)) (.br [(.cons (JF 5 (.bsl 3 1 [])) (.br [(.cons (JF 8 (.app 3 1 8 (.t 5) (.t 7))) (.cons (JF 9 (.bsl 3 1 [])) (.cons (JF 12 (.app 3 1 8 (.t 9) (.t 11))) (.cons (JS 13 (.bld [Jz 0,J0,J0] [(0,1,(.t 4)),(1,1,(.t 8)),(2,1,(.t 12))])) (.cons (JN (Js 3 2 13)) .nil))))),(.cons (JF 9 (.bsl 3 1 [])) (.cons (JF 8 (.app 3 1 8 (.t 5) (.t 7))) (.cons (JF 12 (.app 3 1 8 (.t 9) (.t 11))) (.cons (JS 13 (.bld [Jz 0,J0,J0] [(0,1,(.t 4)),(1,1,(.t 8)),(2,1,(.t 12))])) (.cons (JN (Js 3 2 13)) .nil)))))])),(.cons (JF 9 (.bsl 3 1 [])) (.cons (JF 5 (.bsl 3 1 [])) (.cons (JF 8 (.app 3 1 8 (.t 5) (.t 7))) (.cons (JF 12 (.app 3 1 8 (.t 9) (.t 11))) (.cons (JS 13 (.bld [Jz 0,J0,J0] [(0,1,(.t 4)),(1,1,(.t 8)),(2,1,(.t 12))])) (.cons (JN (Js 3 2 13)) .nil))))))])))))))
abbrev v55_2:VC:=(.seq (.drw t55_1) .ret)
def ir55:FC:=⟨1,14,[.cell 2 false 3],(.seq (.ops o55_0) v55_2)⟩
abbrev o28_0:List Ins:=[JS 1 (.box 8 (.t 0)),JS 2 (.alloc [Jz 0,J0,J0,J0,J0,J0,Jz 0,Jz 0])]
abbrev o28_1:List Ins:=[JS 4 (JL 8 1),JS 3 (.alloc [Jz 0,J0,J0,J0,J0,J0,Jz 0,Jz 0]),JN (Js 8 3 4)]
abbrev o28_2:List Ins:=[JS 5 (Jf 0 1),JS 6 (JL 3 5),JS 7 (Jc 55 [.t 6]),JS 8 (Jf 0 3),JN (Js 3 8 7)]
abbrev t28_3:OT:=(.cons (JF 10 (Jf 3 1)) (.cons (JF 11 (Jl 10)) (.cons (JF 14 (Jf 4 1)) (.cons (JF 15 (Jl 14)) (.cons (JF 18 (Jf 5 1)) (.cons (JF 19 (Jl 18)) (.br [(.cons (JF 9 (.bsl 3 1 [])) (.br [(.cons (JF 12 (.app 3 1 8 (.t 9) (.t 11))) (.cons (JF 21 (Jf 3 3)) (.br [(.cons (JF 13 (.bsl 3 1 [])) (.br [(.cons (JF 16 (.app 3 1 8 (.t 13) (.t 15))) (.cons (JF 17 (.bsl 3 1 [])) (.cons (JF 20 (.app 3 1 8 (.t 17) (.t 19))) (.cons (JN (Js 1 21 12)) (.cons (JS 22 (Jf 4 3)) (.cons (JN (Js 1 22 16)) (.cons (JS 23 (Jf 5 3)) (.cons (JN (Js 1 23 20)) .nil)))))))),(.cons (JF 17 (.bsl 3 1 [])) (.cons (JF 16 (.app 3 1 8 (.t 13) (.t 15))) (.cons (JF 20 (.app 3 1 8 (.t 17) (.t 19))) (.cons (JN (Js 1 21 12)) (.cons (JS 22 (Jf 4 3)) (.cons (JN (Js 1 22 16)) (.cons (JS 23 (Jf 5 3)) (.cons (JN (Js 1 23 20)) .nil))))))))])),(.cons (JF 17 (.bsl 3 1 [])) (.cons (JF 13 (.bsl 3 1 [])) (.cons (JF 16 (.app 3 1 8 (.t 13) (.t 15))) (.cons (JF 20 (.app 3 1 8 (.t 17) (.t 19))) (.cons (JN (Js 1 21 12)) (.cons (JS 22 (Jf 4 3)) (.cons (JN (Js 1 22 16)) (.cons (JS 23 (Jf 5 3)) (.cons (JN (Js 1 23 20)) .nil)))))))))]))),(.cons (JF 13 (.bsl 3 1 [])) (.br [(.cons (JF 12 (.app 3 1 8 (.t 9) (.t 11))) (.cons (JF 21 (Jf 3 3)) (.br [(.cons (JF 16 (.app 3 1 8 (.t 13) (.t 15))) (.cons (JF 17 (.bsl 3 1 [])) (.cons (JF 20 (.app 3 1 8 (.t 17) (.t 19))) (.cons (JN (Js 1 21 12)) (.cons (JS 22 (Jf 4 3)) (.cons (JN (Js 1 22 16)) (.cons (JS 23 (Jf 5 3)) (.cons (JN (Js 1 23 20)) .nil)))))))),(.cons (JF 17 (.bsl 3 1 [])) (.cons (JF 16 (.app 3 1 8 (.t 13) (.t 15))) (.cons (JF 20 (.app 3 1 8 (.t 17) (.t 19))) (.cons (JN (Js 1 21 12)) (.cons (JS 22 (Jf 4 3)) (.cons (JN (Js 1 22 16)) (.cons (JS 23 (Jf 5 3)) (.cons (JN (Js 1 23 20)) .nil))))))))]))),(.cons (JF 17 (.bsl 3 1 [])) (.cons (JF 12 (.app 3 1 8 (.t 9) (.t 11))) (.cons (JF 16 (.app 3 1 8 (.t 13) (.t 15))) (.cons (JF 20 (.app 3 1 8 (.t 17) (.t 19))) (.cons (JF 21 (Jf 3 3)) (.cons (JN (Js 1 21 12)) (.cons (JS 22 (Jf 4 3)) (.cons (JN (Js 1 22 16)) (.cons (JS 23 (Jf 5 3)) (.cons (JN (Js 1 23 20)) .nil))))))))))])),(.cons (JF 17 (.bsl 3 1 [])) (.br [(.cons (JF 12 (.app 3 1 8 (.t 9) (.t 11))) (.cons (JF 13 (.bsl 3 1 [])) (.cons (JF 16 (.app 3 1 8 (.t 13) (.t 15))) (.cons (JF 20 (.app 3 1 8 (.t 17) (.t 19))) (.cons (JF 21 (Jf 3 3)) (.cons (JN (Js 1 21 12)) (.cons (JS 22 (Jf 4 3)) (.cons (JN (Js 1 22 16)) (.cons (JS 23 (Jf 5 3)) (.cons (JN (Js 1 23 20)) .nil)))))))))),(.cons (JF 13 (.bsl 3 1 [])) (.cons (JF 12 (.app 3 1 8 (.t 9) (.t 11))) (.cons (JF 16 (.app 3 1 8 (.t 13) (.t 15))) (.cons (JF 20 (.app 3 1 8 (.t 17) (.t 19))) (.cons (JF 21 (Jf 3 3)) (.cons (JN (Js 1 21 12)) (.cons (JS 22 (Jf 4 3)) (.cons (JN (Js 1 22 16)) (.cons (JS 23 (Jf 5 3)) (.cons (JN (Js 1 23 20)) .nil))))))))))]))])),(.cons (JF 13 (.bsl 3 1 [])) (.br [(.cons (JF 9 (.bsl 3 1 [])) (.br [(.cons (JF 12 (.app 3 1 8 (.t 9) (.t 11))) (.cons (JF 21 (Jf 3 3)) (.br [(.cons (JF 16 (.app 3 1 8 (.t 13) (.t 15))) (.cons (JF 17 (.bsl 3 1 [])) (.cons (JF 20 (.app 3 1 8 (.t 17) (.t 19))) (.cons (JN (Js 1 21 12)) (.cons (JS 22 (Jf 4 3)) (.cons (JN (Js 1 22 16)) (.cons (JS 23 (Jf 5 3)) (.cons (JN (Js 1 23 20)) .nil)))))))),(.cons (JF 17 (.bsl 3 1 [])) (.cons (JF 16 (.app 3 1 8 (.t 13) (.t 15))) (.cons (JF 20 (.app 3 1 8 (.t 17) (.t 19))) (.cons (JN (Js 1 21 12)) (.cons (JS 22 (Jf 4 3)) (.cons (JN (Js 1 22 16)) (.cons (JS 23 (Jf 5 3)) (.cons (JN (Js 1 23 20)) .nil))))))))]))),(.cons (JF 17 (.bsl 3 1 [])) (.cons (JF 12 (.app 3 1 8 (.t 9) (.t 11))) (.cons (JF 16 (.app 3 1 8 (.t 13) (.t 15))) (.cons (JF 20 (.app 3 1 8 (.t 17) (.t 19))) (.cons (JF 21 (Jf 3 3)) (.cons (JN (Js 1 21 12)) (.cons (JS 22 (Jf 4 3)) (.cons (JN (Js 1 22 16)) (.cons (JS 23 (Jf 5 3)) (.cons (JN (Js 1 23 20)) .nil))))))))))])),(.cons (JF 17 (.bsl 3 1 [])) (.cons (JF 9 (.bsl 3 1 [])) (.cons (JF 12 (.app 3 1 8 (.t 9) (.t 11))) (.cons (JF 16 (.app 3 1 8 (.t 13) (.t 15))) (.cons (JF 20 (.app 3 1 8 (.t 17) (.t 19))) (.cons (JF 21 (Jf 3 3)) (.cons (JN (Js 1 21 12)) (.cons (JS 22 (Jf 4 3)) (.cons (JN (Js 1 22 16)) (.cons (JS 23 (Jf 5 3)) (.cons (JN (Js 1 23 20)) .nil)))))))))))])),(.cons (JF 17 (.bsl 3 1 [])) (.br [(.cons (JF 9 (.bsl 3 1 [])) (.br [(.cons (JF 12 (.app 3 1 8 (.t 9) (.t 11))) (.cons (JF 13 (.bsl 3 1 [])) (.cons (JF 16 (.app 3 1 8 (.t 13) (.t 15))) (.cons (JF 20 (.app 3 1 8 (.t 17) (.t 19))) (.cons (JF 21 (Jf 3 3)) (.cons (JN (Js 1 21 12)) (.cons (JS 22 (Jf 4 3)) (.cons (JN (Js 1 22 16)) (.cons (JS 23 (Jf 5 3)) (.cons (JN (Js 1 23 20)) .nil)))))))))),(.cons (JF 13 (.bsl 3 1 [])) (.cons (JF 12 (.app 3 1 8 (.t 9) (.t 11))) (.cons (JF 16 (.app 3 1 8 (.t 13) (.t 15))) (.cons (JF 20 (.app 3 1 8 (.t 17) (.t 19))) (.cons (JF 21 (Jf 3 3)) (.cons (JN (Js 1 21 12)) (.cons (JS 22 (Jf 4 3)) (.cons (JN (Js 1 22 16)) (.cons (JS 23 (Jf 5 3)) (.cons (JN (Js 1 23 20)) .nil))))))))))])),(.cons (JF 13 (.bsl 3 1 [])) (.cons (JF 9 (.bsl 3 1 [])) (.cons (JF 12 (.app 3 1 8 (.t 9) (.t 11))) (.cons (JF 16 (.app 3 1 8 (.t 13) (.t 15))) (.cons (JF 20 (.app 3 1 8 (.t 17) (.t 19))) (.cons (JF 21 (Jf 3 3)) (.cons (JN (Js 1 21 12)) (.cons (JS 22 (Jf 4 3)) (.cons (JN (Js 1 22 16)) (.cons (JS 23 (Jf 5 3)) (.cons (JN (Js 1 23 20)) .nil)))))))))))]))])))))))
abbrev o28_4:List Ins:=[JS 24 (JL 8 3),JN (Js 8 2 24)]
abbrev v28_5:VC:=(.seq (.ops o28_4) .ret)
abbrev v28_6:VC:=(.seq (.drw t28_3) v28_5)
abbrev v28_7:VC:=(.seq (.ops o28_2) v28_6)
abbrev v28_8:VC:=(.seq (.ops o28_1) v28_7)
def ir28:FC:=⟨1,25,[.cell 2 false 8],(.seq (.ops o28_0) v28_8)⟩
theorem c41:compM Tryz.prog [] 41 = some ir41:=by kernel_rfl
theorem c55:compM Tryz.prog [] 55 = some ir55:=by kernel_rfl
theorem c28:compM Tryz.prog [] 28 = some ir28:=by kernel_rfl
attribute [local go_sem] Nat.reduceEqDiff Nat.reduceAdd Nat.reduceMul reduceIte Nat.reduceLeDiff Nat.reduceLT Nat.reduceBEq reduceCtorEq
def purB (w:Wh) (l:List Int):Bool:=lstB w l && decide (l.sum ≤ 12)
theorem purse21 {w:Wh} (hw:WhOk w) (l:List Int):FSpec Tryz.prog 41 [w.av,.c (ints l)] (.c (.bool (purB w l))):=by
 have hcl:=hw.cl
 refine FSpec_of c41 (Nat.le_refl _) (by decide) fun C hP hN hC hL => ?_; rw [init_st]
 simp only [ir41,Wh.av,Wh.avs]
 have hne:((l.length:Int) != (w.co.length:Int)) = !(l.length == w.co.length):=ibne _ _
 (repeat ((first | refine Va ?_ | refine Vb ?_ | refine Vc ?_ | refine Vd ?_ | refine Ve ?_ | refine Vf ?_); (try simp only [go_sem,hP,Wh.avs,ints,List.length_map,hne]); (repeat refine qJ ?_)))
 by_cases hlen:l.length = w.co.length
 case neg =>
  have hb2:(l.length == w.co.length) = false:=by simpa using hlen
  have e1:purB w l = false:=by unfold purB lstB; rw [hb2]; rfl
  rw [e1]
  (refine WV_cond rfl (fun h => ?_) (fun h => ?_))
  ·(repeat ((first | refine Va ?_ | refine Vb ?_ | refine Vc ?_ | refine Vd ?_ | refine Ve ?_ | refine Vf ?_); (try simp only [go_sem,hP]); (repeat refine qJ ?_)))
   (refine WV_ret ?_; simp only [thenQ,inQ,RetQ,RetOk,resAll,resA]; simp only [go_sem,tupA,AV.port,AV.portL,exists_eq_left']; (first | exact AVle.of rfl | refine AVle.of ?_ | skip))
  ·simp [hb2] at h
 have hb2:(l.length == w.co.length) = true:=by simpa using hlen
 (refine WV_cond rfl (fun h => ?_) (fun h => ?_))
 ·simp [hb2] at h
 have hlst:lstB w l = l.all fun n => within n 0 12:=by
  unfold lstB
  rw [hb2,Bool.not_true,Bool.false_or,List.not_any_eq_all_not]
  congr 1; funext n; simp [put12]
 (repeat ((first | refine Va ?_ | refine Vb ?_ | refine Vc ?_ | refine Vd ?_ | refine Ve ?_ | refine Vf ?_); (try simp only [go_sem,hP,ints,List.length_map]); (repeat refine qJ ?_)))
 refine WV_loopK K41_1 [] (fun k:Nat => k ≤ l.length ∧ (∀ n ∈ l.take k,within n 0 12 = true) ∧ 0 ≤ (l.take k).sum ∧ (l.take k).sum ≤ 12 * k) (fun k => l.length - k) (fun k => [(6,iv k),(5,iv (l.take k).sum)]) (fun _ => []) 0 ⟨by omega,by simp,by simp,by simp⟩ ?_ ?_
 ·exact Sub_au
 ·rintro k ⟨hk,hin,hs1,hs2⟩
  (repeat ((first | refine Va ?_ | refine Vb ?_ | refine Vc ?_ | refine Vd ?_ | refine Ve ?_ | refine Vf ?_); (try simp only [go_sem,hP,ints,List.length_map]); (repeat refine qJ ?_)))
  (refine WV_cond rfl (fun h => ?_) (fun h => ?_))
  ·have hi:k < l.length:=by simpa using h
   have g1:=ints_get hi
   have hm:l.getD k 0 ∈ l:=by rw [getD_at hi]; exact List.getElem_mem _
   have hs:(l.take (k + 1)).sum = (l.take k).sum + l.getD k 0:=by rw [List.take_succ_eq_append_getElem hi,List.sum_append,getD_at hi]; simp
   have ht:∀ n ∈ l.take (k + 1),n ∈ l.take k ∨ n = l.getD k 0:=fun n hn => by
    rw [List.take_succ_eq_append_getElem hi,List.mem_append,List.mem_singleton] at hn
    rw [getD_at hi]; exact hn
   generalize l.getD k 0 = x at *
   generalize (l.take k).sum = y at *
   (repeat ((first | refine Va ?_ | refine Vb ?_ | refine Vc ?_ | refine Vd ?_ | refine Ve ?_ | refine Vf ?_); (try simp only [go_sem,hP,g1,ints,List.length_map,Int.toNat_natCast,Int.ofNat_lt,hi,Int.natCast_nonneg]); (repeat refine qJ ?_)))
   (refine AS_pu (within33 x 0 12) ?_; simp only [go_sem,hP,ints]; (repeat refine qJ ?_); (repeat ((first | refine Va ?_ | refine Vb ?_ | refine Vc ?_ | refine Vd ?_ | refine Ve ?_ | refine Vf ?_); (try simp only [go_sem,hP,ints]); (repeat refine qJ ?_))))
   by_cases hx:within x 0 12 = true
   ·have hx2:0 ≤ x ∧ x ≤ 12:=by simpa [within] using hx
    have w1:=w64 (n:=(k:Int) + 1) (by omega) (by omega)
    have w2:=w64 (n:=y + x) (by omega) (by omega)
    (refine WV_cond rfl (fun h => ?_) (fun h => ?_))
    ·simp [hx] at h
    (repeat ((first | refine Va ?_ | refine Vb ?_ | refine Vc ?_ | refine Vd ?_ | refine Ve ?_ | refine Vf ?_); (try simp only [go_sem,hP,g1,ints,List.length_map,Int.toNat_natCast,Int.ofNat_lt,hi,Int.natCast_nonneg,w1,w2]); (repeat refine qJ ?_)))
    refine ⟨k + 1,⟨by omega,fun n hn => ?_,by omega,by omega⟩,by omega,?_⟩
    ·rcases ht n hn with h1 | rfl
     ·exact hin n h1
     ·exact hx
    ·rw [hs]
     (refine Sub_of (by simp only [go_sem]; ((repeat' (first | exact EnvLe_e0 _ _ | refine EnvLe_upd ?_ ?_)) <;> ((try simp only [upd_app,e0_app,o0_app,Nat.reduceEqDiff,reduceIte]); first | exact AWk.refl _ _ | exact AWk.int (by omega) | exact AWk.int (by rw [w64 (by omega) (by omega)]; omega) | exact AWk.grow rfl | exact AWk.nil _ | exact AWk.of (by simp [ints])))) (by simp only [go_sem]; exact ObjLe_au))
   ·have hx:within x 0 12 = false:=by simpa using hx
    have e1:purB w l = false:=by
     unfold purB
     rw [hlst,List.all_eq_false.2 ⟨x,hm,by simp [hx]⟩]; rfl
    rw [e1]
    (refine WV_cond rfl (fun h => ?_) (fun h => ?_))
    ·(repeat ((first | refine Va ?_ | refine Vb ?_ | refine Vc ?_ | refine Vd ?_ | refine Ve ?_ | refine Vf ?_); (try simp only [go_sem,hP]); (repeat refine qJ ?_)))
     (refine WV_ret ?_; simp only [thenQ,inQ,RetQ,RetOk,resAll,resA]; simp only [go_sem,tupA,AV.port,AV.portL,exists_eq_left']; (first | exact AVle.of rfl | refine AVle.of ?_ | skip))
    ·simp [hx] at h
  ·have hi:k = l.length:=by simp at h; omega
   subst hi
   rw [List.take_length] at hin ⊢
   have e1:purB w l = decide (l.sum ≤ 12):=by unfold purB; rw [hlst,List.all_eq_true.2 hin]; rfl
   rw [e1]
   (repeat ((first | refine Va ?_ | refine Vb ?_ | refine Vc ?_ | refine Vd ?_ | refine Ve ?_ | refine Vf ?_); (try simp only [go_sem,hP]); (repeat refine qJ ?_)))
   (refine WV_ret ?_; simp only [thenQ,inQ,RetQ,RetOk,resAll,resA]; simp only [go_sem,tupA,AV.port,AV.portL,exists_eq_left']; (first | exact AVle.of rfl | refine AVle.of ?_ | skip))
theorem ones (l:List Int):((l.map fun n => [CD.int .i64 n]).all fun e => e.length == 1) = true:=by
 rw [List.all_eq_true]; intro e he; obtain ⟨n,_,rfl⟩:=List.mem_map.1 he; rfl
set_option maxHeartbeats 8000000 in
theorem copy26 {w:Wh} (h1:w.no.length ≤ 1000) (h2:w.co.length ≤ 1000):FSpec Tryz.prog 55 [w.av] w.av:=by
 have hmax:maxLen = 9223372036854775807:=rfl
 refine FSpec_of c55 (Nat.le_refl _) (by decide) fun C hP hN hC hL => ?_; rw [init_st]
 simp only [ir55,Wh.av,Wh.avs]
 (repeat ((first | refine Va ?_ | refine Vb ?_ | refine Vc ?_ | refine Vd ?_ | refine Ve ?_ | refine Vf ?_); (try simp only [go_sem,hP,Wh.avs,ints,List.length_map]); (repeat refine qJ ?_)))
 (refine WV_drw ?_; simp only [go_sem,hP,ints,List.length_map,ones]; (repeat' (refine And.intro ?_ ?_)))
 all_goals first | omega | skip
 all_goals ((refine WV_ret ?_; simp only [thenQ,inQ,RetQ,RetOk,resAll,resA]; simp only [go_sem,tupA,AV.port,AV.portL,exists_eq_left',ints]; (first | exact AVle.of rfl | refine AVle.of ?_ | skip)))
set_option maxHeartbeats 16000000 in
set_option maxRecDepth 20000 in
theorem copy10 {b:Bx} (h1:b.wh.no.length ≤ 1000) (h2:b.wh.co.length ≤ 1000) (h3:b.fo.length ≤ 1000) (h4:b.ma.length ≤ 1000) (h5:b.sl.length ≤ 1000):FSpec Tryz.prog 28 [b.av] b.av:=by
 have hmax:maxLen = 9223372036854775807:=rfl
 refine FSpec_of c28 (Nat.le_refl _) (by decide) fun C hP hN hC hL => ?_; rw [init_st]
 simp only [ir28,Bx.av,Bx.avs]
 (repeat ((first | refine Va ?_ | refine Vb ?_ | refine Vc ?_ | refine Vd ?_ | refine Ve ?_ | refine Vf ?_); (try simp only [go_sem,hP,Bx.avs,ints,List.length_map]); (repeat refine qJ ?_)))
 (refine AS_pu (copy26 h1 h2) ?_; simp only [go_sem,hP,Wh.av,Wh.avs,ints,List.length_map]; (repeat refine qJ ?_); (repeat ((first | refine Va ?_ | refine Vb ?_ | refine Vc ?_ | refine Vd ?_ | refine Ve ?_ | refine Vf ?_); (try simp only [go_sem,hP,Wh.av,Wh.avs,ints,List.length_map]); (repeat refine qJ ?_))))
 (refine WV_drw ?_; simp only [go_sem,hP,ints,List.length_map,ones]; (repeat' (refine And.intro ?_ ?_)))
 all_goals first | omega | skip
 all_goals ((repeat ((first | refine Va ?_ | refine Vb ?_ | refine Vc ?_ | refine Vd ?_ | refine Ve ?_ | refine Vf ?_); (try simp only [go_sem,hP]); (repeat refine qJ ?_))))
 all_goals ((refine WV_ret ?_; simp only [thenQ,inQ,RetQ,RetOk,resAll,resA]; simp only [go_sem,tupA,AV.port,AV.portL,exists_eq_left',ints]; (first | exact AVle.of rfl | refine AVle.of ?_ | skip)))
end Go.Proofs.YtefoconkepmmgaaGreatDoor

namespace Go.Proofs.YtefoconkepmmgaaGreatDoor
open Go Go.V
abbrev o86_0:List Ins:=[JS 1 (.box 1 (.t 0)),JS 2 (.alloc [Jz 0,(.c (.raw .nilIface))])]
abbrev o86_1:List Ins:=[JS 3 (.mkfn 113 [.t 1]),JS 4 (.raw (.makeInterface 99 (.tmp 3))),JS 5 (.bld [Jz 0,(.c (.raw .nilIface))] [(1,1,(.t 4))]),JN (Js 2 2 5)]
abbrev v86_2:VC:=(.seq (.ops o86_1) .ret)
def ir86:FC:=⟨1,6,[.cell 2 false 2],(.seq (.ops o86_0) v86_2)⟩
abbrev o93_0:List Ins:=[JS 1 (.box 1 (.t 0)),JS 2 (.alloc [Jz 0,(.c (.raw .nilIface))])]
abbrev o93_1:List Ins:=[JS 3 (.mkfn 121 [.t 1]),JS 4 (.raw (.makeInterface 99 (.tmp 3))),JS 5 (.bld [Jz 0,(.c (.raw .nilIface))] [(1,1,(.t 4))]),JN (Js 2 2 5)]
abbrev v93_2:VC:=(.seq (.ops o93_1) .ret)
def ir93:FC:=⟨1,6,[.cell 2 false 2],(.seq (.ops o93_0) v93_2)⟩
abbrev o95_0:List Ins:=[JS 1 (.box 1 (.t 0)),JS 2 (.alloc [Jz 0,(.c (.raw .nilIface))])]
abbrev o95_1:List Ins:=[JS 3 (.mkfn 124 [.t 1]),JS 4 (.raw (.makeInterface 99 (.tmp 3))),JS 5 (.bld [Jz 0,(.c (.raw .nilIface))] [(1,1,(.t 4))]),JN (Js 2 2 5)]
abbrev v95_2:VC:=(.seq (.ops o95_1) .ret)
def ir95:FC:=⟨1,6,[.cell 2 false 2],(.seq (.ops o95_0) v95_2)⟩
theorem c86:compM Tryz.prog [] 86 = some ir86:=by kernel_rfl
theorem c93:compM Tryz.prog [] 93 = some ir93:=by kernel_rfl
theorem c95:compM Tryz.prog [] 95 = some ir95:=by kernel_rfl
attribute [local go_sem] Nat.reduceEqDiff Nat.reduceAdd Nat.reduceMul reduceIte Nat.reduceLeDiff Nat.reduceLT Nat.reduceBEq reduceCtorEq
theorem plays86 (f:FuncId):FSpecN Tryz.prog 86 [.fn f []] (fun r os => ∃ b:Nat,r = .agg [iv 0,.c (.raw (.iface 99 (fnV 113 [ptrV b 0])))] ∧ os = [vbox (fnV f []) b]):=by
 refine FSpecN_of c86 (Nat.le_refl _) (by decide) fun C hP hN hC hL => ?_; rw [init_st]
 simp only [ir86]
 (refine WV_sop ?_; simp only [go_sem,hP]; (repeat refine qJ ?_))
 refine WV_holdE 10 (by decide) (by simp only [go_sem]) ?_
 simp only [go_sem]
 refine WV_vbox 10 1 1 (v:=fnV f []) (by decide) (by simp only [go_sem]) (by simp only [go_sem]) (by simp only [go_sem]) (fun w M loc u h => rep_fn0 h) fun b => ?_
 simp only [go_sem]
 refine WV_sub (σ':=⟨upd (upd e0 1 (.c (.raw (ptrV b 0)))) 2 (.bp 2 0),upd (upd o0 2 (.box [iv 0,.c (.raw .nilIface)])) 10 (vbox (fnV f []) b)⟩) (Sub_of (by simp only [go_sem]; exact EnvLe_au) (by simp only [go_sem]; exact ObjLe_au)) ?_
 (repeat ((first | refine Va ?_ | refine Vb ?_ | refine Vc ?_ | refine Vd ?_ | refine Ve ?_ | refine Vf ?_); (try simp only [go_sem,hP]); (repeat refine qJ ?_)))
 refine raw_mkI (v:=fnV 113 [ptrV b 0]) (by kernel_rfl) rfl rfl (fun w M loc u h => rep_fn1 h) ?_
 simp only [go_sem,hP]
 (repeat ((first | refine Va ?_ | refine Vb ?_ | refine Vc ?_ | refine Vd ?_ | refine Ve ?_ | refine Vf ?_); (try simp only [go_sem,hP]); (repeat refine qJ ?_)))
 (refine WV_ret ?_; simp only [thenQ,inQ,RetQN,RetOkN,resAll,resA]; simp only [go_sem,tupA])
 exact ⟨[10],_,_,_,by simp,by simp,rfl,AVle.refl _,rfl,b,rfl,rfl⟩
theorem boxes93 (f:FuncId):FSpecN Tryz.prog 93 [.fn f []] (fun r os => ∃ b:Nat,r = .agg [iv 0,.c (.raw (.iface 99 (fnV 121 [ptrV b 0])))] ∧ os = [vbox (fnV f []) b]):=by
 refine FSpecN_of c93 (Nat.le_refl _) (by decide) fun C hP hN hC hL => ?_; rw [init_st]
 simp only [ir93]
 (refine WV_sop ?_; simp only [go_sem,hP]; (repeat refine qJ ?_))
 refine WV_holdE 10 (by decide) (by simp only [go_sem]) ?_
 simp only [go_sem]
 refine WV_vbox 10 1 1 (v:=fnV f []) (by decide) (by simp only [go_sem]) (by simp only [go_sem]) (by simp only [go_sem]) (fun w M loc u h => rep_fn0 h) fun b => ?_
 simp only [go_sem]
 refine WV_sub (σ':=⟨upd (upd e0 1 (.c (.raw (ptrV b 0)))) 2 (.bp 2 0),upd (upd o0 2 (.box [iv 0,.c (.raw .nilIface)])) 10 (vbox (fnV f []) b)⟩) (Sub_of (by simp only [go_sem]; exact EnvLe_au) (by simp only [go_sem]; exact ObjLe_au)) ?_
 (repeat ((first | refine Va ?_ | refine Vb ?_ | refine Vc ?_ | refine Vd ?_ | refine Ve ?_ | refine Vf ?_); (try simp only [go_sem,hP]); (repeat refine qJ ?_)))
 refine raw_mkI (v:=fnV 121 [ptrV b 0]) (by kernel_rfl) rfl rfl (fun w M loc u h => rep_fn1 h) ?_
 simp only [go_sem,hP]
 (repeat ((first | refine Va ?_ | refine Vb ?_ | refine Vc ?_ | refine Vd ?_ | refine Ve ?_ | refine Vf ?_); (try simp only [go_sem,hP]); (repeat refine qJ ?_)))
 (refine WV_ret ?_; simp only [thenQ,inQ,RetQN,RetOkN,resAll,resA]; simp only [go_sem,tupA])
 exact ⟨[10],_,_,_,by simp,by simp,rfl,AVle.refl _,rfl,b,rfl,rfl⟩
theorem box95 (f:FuncId):FSpecN Tryz.prog 95 [.fn f []] (fun r os => ∃ b:Nat,r = .agg [iv 0,.c (.raw (.iface 99 (fnV 124 [ptrV b 0])))] ∧ os = [vbox (fnV f []) b]):=by
 refine FSpecN_of c95 (Nat.le_refl _) (by decide) fun C hP hN hC hL => ?_; rw [init_st]
 simp only [ir95]
 (refine WV_sop ?_; simp only [go_sem,hP]; (repeat refine qJ ?_))
 refine WV_holdE 10 (by decide) (by simp only [go_sem]) ?_
 simp only [go_sem]
 refine WV_vbox 10 1 1 (v:=fnV f []) (by decide) (by simp only [go_sem]) (by simp only [go_sem]) (by simp only [go_sem]) (fun w M loc u h => rep_fn0 h) fun b => ?_
 simp only [go_sem]
 refine WV_sub (σ':=⟨upd (upd e0 1 (.c (.raw (ptrV b 0)))) 2 (.bp 2 0),upd (upd o0 2 (.box [iv 0,.c (.raw .nilIface)])) 10 (vbox (fnV f []) b)⟩) (Sub_of (by simp only [go_sem]; exact EnvLe_au) (by simp only [go_sem]; exact ObjLe_au)) ?_
 (repeat ((first | refine Va ?_ | refine Vb ?_ | refine Vc ?_ | refine Vd ?_ | refine Ve ?_ | refine Vf ?_); (try simp only [go_sem,hP]); (repeat refine qJ ?_)))
 refine raw_mkI (v:=fnV 124 [ptrV b 0]) (by kernel_rfl) rfl rfl (fun w M loc u h => rep_fn1 h) ?_
 simp only [go_sem,hP]
 (repeat ((first | refine Va ?_ | refine Vb ?_ | refine Vc ?_ | refine Vd ?_ | refine Ve ?_ | refine Vf ?_); (try simp only [go_sem,hP]); (repeat refine qJ ?_)))
 (refine WV_ret ?_; simp only [thenQ,inQ,RetQN,RetOkN,resAll,resA]; simp only [go_sem,tupA])
 exact ⟨[10],_,_,_,by simp,by simp,rfl,AVle.refl _,rfl,b,rfl,rfl⟩
end Go.Proofs.YtefoconkepmmgaaGreatDoor

namespace Go.Proofs.YtefoconkepmmgaaGreatDoor
open Go Go.V
abbrev o67_0:List Ins:=[JS 0 (.mv (.k (.c (.raw (.map none)))))]
abbrev o67_1:List Ins:=[JS 1 (.raw (.makeMap 111 none)),JS 2 (.raw (.makeInterface 103 (.func 74))),JS 3 (.bld [Jz 0,(.c (.raw .nilIface))] [(0,1,(.k (Jz 1))),(1,1,(.t 2))]),⟨none,.raw (.insert 111 (.tmp 1) (.const (.string ⟨#[99,111,105,110]⟩)) (.tmp 3)),none,true⟩,JS 4 (.raw (.makeInterface 103 (.func 76))),JS 5 (.bld [Jz 0,(.c (.raw .nilIface))] [(0,1,(.k (Jz 1))),(1,1,(.t 4))]),⟨none,.raw (.insert 111 (.tmp 1) (.const (.string ⟨#[109,97,114,107]⟩)) (.tmp 5)),none,true⟩,JS 6 (.raw (.makeInterface 103 (.func 77))),JS 7 (.bld [Jz 0,(.c (.raw .nilIface))] [(0,1,(.k (Jz 1))),(1,1,(.t 6))]),⟨none,.raw (.insert 111 (.tmp 1) (.const (.string ⟨#[115,108,117,103]⟩)) (.tmp 7)),none,true⟩,JS 8 (.raw (.makeInterface 103 (.func 78))),JS 9 (.bld [Jz 0,(.c (.raw .nilIface))] [(0,1,(.k (Jz 2))),(1,1,(.t 8))]),⟨none,.raw (.insert 111 (.tmp 1) (.const (.string ⟨#[112,114,101,115,115]⟩)) (.tmp 9)),none,true⟩,JS 10 (.raw (.makeInterface 103 (.func 79))),JS 11 (.bld [Jz 0,(.c (.raw .nilIface))] [(0,1,(.k (Jz 1))),(1,1,(.t 10))]),⟨none,.raw (.insert 111 (.tmp 1) (.const (.string ⟨#[108,111,115,101]⟩)) (.tmp 11)),none,true⟩,JS 12 (.raw (.makeInterface 103 (.func 80))),JS 13 (.bld [Jz 0,(.c (.raw .nilIface))] [(0,1,(.k (Jz 1))),(1,1,(.t 12))]),⟨none,.raw (.insert 111 (.tmp 1) (.const (.string ⟨#[115,107,105,112,115]⟩)) (.tmp 13)),none,true⟩,JS 14 (.raw (.makeInterface 103 (.func 81))),JS 15 (.bld [Jz 0,(.c (.raw .nilIface))] [(0,1,(.k (Jz 0))),(1,1,(.t 14))]),⟨none,.raw (.insert 111 (.tmp 1) (.const (.string ⟨#[101,109,112,116,121]⟩)) (.tmp 15)),none,true⟩,JS 16 (.raw (.makeInterface 99 (.func 82))),JS 17 (.bld [Jz 0,(.c (.raw .nilIface))] [(0,1,(.k (Jz 0))),(1,1,(.t 16))]),⟨none,.raw (.insert 111 (.tmp 1) (.const (.string ⟨#[115,116,97,110,100]⟩)) (.tmp 17)),none,true⟩,JS 18 (.raw (.makeInterface 99 (.func 83))),JS 19 (.bld [Jz 0,(.c (.raw .nilIface))] [(0,1,(.k (Jz 1))),(1,1,(.t 18))]),⟨none,.raw (.insert 111 (.tmp 1) (.const (.string ⟨#[103,105,118,101,115]⟩)) (.tmp 19)),none,true⟩,JS 20 (.raw (.makeInterface 99 (.func 84))),JS 21 (.bld [Jz 0,(.c (.raw .nilIface))] [(0,1,(.k (Jz 1))),(1,1,(.t 20))]),⟨none,.raw (.insert 111 (.tmp 1) (.const (.string ⟨#[99,104,101,97,112,101,115,116]⟩)) (.tmp 21)),none,true⟩,JS 22 (.raw (.makeInterface 99 (.func 85))),JS 23 (.bld [Jz 0,(.c (.raw .nilIface))] [(0,1,(.k (Jz 1))),(1,1,(.t 22))]),⟨none,.raw (.insert 111 (.tmp 1) (.const (.string ⟨#[119,97,105,116]⟩)) (.tmp 23)),none,true⟩,JS 24 (Jc 86 [(.k (.fn 87 []))]),⟨none,.raw (.insert 111 (.tmp 1) (.const (.string ⟨#[108,111,110,103,101,115,116]⟩)) (.tmp 24)),none,true⟩,JS 25 (Jc 86 [(.k (.fn 88 []))]),⟨none,.raw (.insert 111 (.tmp 1) (.const (.string ⟨#[101,110,100]⟩)) (.tmp 25)),none,true⟩,JS 26 (.raw (.makeInterface 99 (.func 89))),JS 27 (.bld [Jz 0,(.c (.raw .nilIface))] [(0,1,(.k (Jz 1))),(1,1,(.t 26))]),⟨none,.raw (.insert 111 (.tmp 1) (.const (.string ⟨#[97,116]⟩)) (.tmp 27)),none,true⟩,JS 28 (.raw (.makeInterface 99 (.func 90))),JS 29 (.bld [Jz 0,(.c (.raw .nilIface))] [(0,1,(.k (Jz 2))),(1,1,(.t 28))]),⟨none,.raw (.insert 111 (.tmp 1) (.const (.string ⟨#[108,97,116,101,115,116]⟩)) (.tmp 29)),none,true⟩,JS 30 (Jc 86 [(.k (.fn 91 []))]),⟨none,.raw (.insert 111 (.tmp 1) (.const (.string ⟨#[115,111,111,110,101,115,116]⟩)) (.tmp 30)),none,true⟩,JS 31 (.raw (.makeInterface 99 (.func 92))),JS 32 (.bld [Jz 0,(.c (.raw .nilIface))] [(0,1,(.k (Jz 0))),(1,1,(.t 31))]),⟨none,.raw (.insert 111 (.tmp 1) (.const (.string ⟨#[99,97,115,104]⟩)) (.tmp 32)),none,true⟩,JS 33 (Jc 93 [(.k (.fn 94 []))]),⟨none,.raw (.insert 111 (.tmp 1) (.const (.string ⟨#[99,97,110]⟩)) (.tmp 33)),none,true⟩,JS 34 (Jc 95 [(.k (.fn 96 []))]),⟨none,.raw (.insert 111 (.tmp 1) (.const (.string ⟨#[109,105,115,115,105,110,103]⟩)) (.tmp 34)),none,true⟩,JS 35 (Jc 93 [(.k (.fn 97 []))]),⟨none,.raw (.insert 111 (.tmp 1) (.const (.string ⟨#[119,104,105,99,104]⟩)) (.tmp 35)),none,true⟩,JS 36 (Jc 95 [(.k (.fn 98 []))]),⟨none,.raw (.insert 111 (.tmp 1) (.const (.string ⟨#[115,107,105,112,112,101,100]⟩)) (.tmp 36)),none,true⟩,JS 37 (Jc 95 [(.k (.fn 99 []))]),⟨none,.raw (.insert 111 (.tmp 1) (.const (.string ⟨#[115,104,111,114,116]⟩)) (.tmp 37)),none,true⟩,JS 38 (Jm 1),JS 0 (Jm 38)]
abbrev v67_2:VC:=(.seq (.ops o67_1) .ret)
def ir67:FC:=⟨0,39,[.t 0],(.seq (.ops o67_0) v67_2)⟩
theorem c67:compM Tryz.prog [] 67 = some ir67:=by kernel_rfl
attribute [local go_sem] Nat.reduceEqDiff Nat.reduceAdd Nat.reduceMul reduceIte Nat.reduceLeDiff Nat.reduceLT Nat.reduceBEq reduceCtorEq
def wv (n:Int) (t:Nat) (v:Value):Value:=.agg #[.int .i64 n,.iface t v]
theorem insW {σ:St} {K:St → Prop} (n:Nat) {b s:Nat} {l:SL} {key:ByteArray} {m:Int} {t:TypeId} {v:Value} (hown:σ.own n = smap l b) (hm:σ.env 1 = .c (.raw (.map (some b)))) (hs:σ.env s = .agg [iv m,.c (.raw (.iface t v))])
  (hlen:decide (key.data.toList.length ≤ 100) = true) (hls:(l.all fun p => decide (p.1.length ≤ 100)) = true) (hnew:slook l key.data.toList = none) (hK:K ⟨σ.env,upd σ.own n (smap (l ++ [(key.data.toList,wv m t v)]) b)⟩):RawI Tryz.prog none (.raw (.insert 111 (.tmp 1) (.const (.string key)) (.tmp s))) K σ:=by
 have hml:100 ≤ maxLen:=by decide
 refine raw_putS (k:=9) (e:=95) (x':=.t 1) (i':=.k (.c (.str key.data.toList))) (v':=.t s) (val:=wv m t v) (.inr rfl) (by kernel_rfl) (by kernel_rfl) rfl rfl rfl ?_ rfl ?_ ?_ rfl ?_ hown ?_ ?_ hnew hK
 ·simp only [go_sem,hm]
 ·simp only [go_sem,hs]
 ·simp only [go_sem,hm]
 ·intro w M loc u h
  simp only [go_sem,hs,RepA,RepAs,RepC] at h
  obtain ⟨l,rfl,v1,vs,rfl,rfl,v2,vs2,rfl,⟨rfl,_⟩,rfl⟩:=h
  rfl
 ·exact Nat.le_trans (of_decide_eq_true hlen) hml
 ·intro p hp
  exact Nat.le_trans (of_decide_eq_true (List.all_eq_true.1 hls p hp)) hml
theorem mkW {σ:St} {K:St → Prop} {d:Nat} {t f:Nat} (ht:(Tryz.prog.underlying t).map notI = some true) (hK:K (σ.put (some d) (.c (.raw (.iface t (fnV f [])))))):RawI Tryz.prog (some d) (.raw (.makeInterface t (.func f))) K σ :=
 raw_mkI (x':=.k (.fn f [])) ht rfl rfl (fun w M loc u h => rep_fn0 h) hK
theorem u103:(Tryz.prog.underlying 103).map notI = some true:=by kernel_rfl
theorem u99:(Tryz.prog.underlying 99).map notI = some true:=by kernel_rfl
def wTab (q:Nat → Nat):SL:=[
 ([99,111,105,110],wv 1 103 (fnV 74 [])),
 ([109,97,114,107],wv 1 103 (fnV 76 [])),
 ([115,108,117,103],wv 1 103 (fnV 77 [])),
 ([112,114,101,115,115],wv 2 103 (fnV 78 [])),
 ([108,111,115,101],wv 1 103 (fnV 79 [])),
 ([115,107,105,112,115],wv 1 103 (fnV 80 [])),
 ([101,109,112,116,121],wv 0 103 (fnV 81 [])),
 ([115,116,97,110,100],wv 0 99 (fnV 82 [])),
 ([103,105,118,101,115],wv 1 99 (fnV 83 [])),
 ([99,104,101,97,112,101,115,116],wv 1 99 (fnV 84 [])),
 ([119,97,105,116],wv 1 99 (fnV 85 [])),
 ([108,111,110,103,101,115,116],wv 0 99 (fnV 113 [ptrV (q 0) 0])),
 ([101,110,100],wv 0 99 (fnV 113 [ptrV (q 1) 0])),
 ([97,116],wv 1 99 (fnV 89 [])),
 ([108,97,116,101,115,116],wv 2 99 (fnV 90 [])),
 ([115,111,111,110,101,115,116],wv 0 99 (fnV 113 [ptrV (q 2) 0])),
 ([99,97,115,104],wv 0 99 (fnV 92 [])),
 ([99,97,110],wv 0 99 (fnV 121 [ptrV (q 3) 0])),
 ([109,105,115,115,105,110,103],wv 0 99 (fnV 124 [ptrV (q 4) 0])),
 ([119,104,105,99,104],wv 0 99 (fnV 121 [ptrV (q 5) 0])),
 ([115,107,105,112,112,101,100],wv 0 99 (fnV 124 [ptrV (q 6) 0])),
 ([115,104,111,114,116],wv 0 99 (fnV 124 [ptrV (q 7) 0]))]
def wObs (b:Nat) (q:Nat → Nat):List Ob:=[smap (wTab q) b,vbox (fnV 87 []) (q 0),vbox (fnV 88 []) (q 1),vbox (fnV 91 []) (q 2),vbox (fnV 94 []) (q 3),vbox (fnV 96 []) (q 4),vbox (fnV 97 []) (q 5),vbox (fnV 98 []) (q 6),vbox (fnV 99 []) (q 7)]
set_option maxRecDepth 100000 in
set_option maxHeartbeats 2000000 in
theorem words67:FSpecN Tryz.prog 67 [] (fun r os => ∃ (b:Nat) (q:Nat → Nat),r = .c (.raw (.map (some b))) ∧ os = wObs b q):=by
 refine FSpecN_of c67 (Nat.le_refl _) (by decide) fun C hP hN hC hL => ?_; rw [init_st]
 simp only [ir67]
 (refine WV_sop ?_; simp only [go_sem,hP]; (repeat refine qJ ?_))
 refine WV_sop ?_
 simp only [go_sem,hP]
 (repeat refine qJ ?_)
 refine raw_mkS rfl fun b => ?_
 simp only [go_sem,hP]
 (repeat refine qJ ?_)
 (repeat (first | (refine mkW u103 ?_; simp only [go_sem,hP]; (repeat refine qJ ?_)) | (refine mkW u99 ?_; simp only [go_sem,hP]; (repeat refine qJ ?_)) | (refine insW 1 rfl rfl rfl rfl rfl rfl ?_; simp only [go_sem,hP]; (repeat refine qJ ?_))))
 refine AS_new (plays86 87) rfl rfl rfl rfl ?_
 rintro r os ⟨b0,rfl,rfl⟩
 refine ⟨[101],_,_,by simp,rfl,rfl,rfl,rfl,?_⟩
 simp only [go_sem,hP,ownBack]
 (repeat refine qJ ?_)
 (repeat (first | (refine mkW u103 ?_; simp only [go_sem,hP]; (repeat refine qJ ?_)) | (refine mkW u99 ?_; simp only [go_sem,hP]; (repeat refine qJ ?_)) | (refine insW 1 rfl rfl rfl rfl rfl rfl ?_; simp only [go_sem,hP]; (repeat refine qJ ?_))))
 refine AS_new (plays86 88) rfl rfl rfl rfl ?_
 rintro r os ⟨b1,rfl,rfl⟩
 refine ⟨[102],_,_,by simp,rfl,rfl,rfl,rfl,?_⟩
 simp only [go_sem,hP,ownBack]
 (repeat refine qJ ?_)
 (repeat (first | (refine mkW u103 ?_; simp only [go_sem,hP]; (repeat refine qJ ?_)) | (refine mkW u99 ?_; simp only [go_sem,hP]; (repeat refine qJ ?_)) | (refine insW 1 rfl rfl rfl rfl rfl rfl ?_; simp only [go_sem,hP]; (repeat refine qJ ?_))))
 refine AS_new (plays86 91) rfl rfl rfl rfl ?_
 rintro r os ⟨b2,rfl,rfl⟩
 refine ⟨[103],_,_,by simp,rfl,rfl,rfl,rfl,?_⟩
 simp only [go_sem,hP,ownBack]
 (repeat refine qJ ?_)
 (repeat (first | (refine mkW u103 ?_; simp only [go_sem,hP]; (repeat refine qJ ?_)) | (refine mkW u99 ?_; simp only [go_sem,hP]; (repeat refine qJ ?_)) | (refine insW 1 rfl rfl rfl rfl rfl rfl ?_; simp only [go_sem,hP]; (repeat refine qJ ?_))))
 refine AS_new (boxes93 94) rfl rfl rfl rfl ?_
 rintro r os ⟨b3,rfl,rfl⟩
 refine ⟨[104],_,_,by simp,rfl,rfl,rfl,rfl,?_⟩
 simp only [go_sem,hP,ownBack]
 (repeat refine qJ ?_)
 (repeat (first | (refine mkW u103 ?_; simp only [go_sem,hP]; (repeat refine qJ ?_)) | (refine mkW u99 ?_; simp only [go_sem,hP]; (repeat refine qJ ?_)) | (refine insW 1 rfl rfl rfl rfl rfl rfl ?_; simp only [go_sem,hP]; (repeat refine qJ ?_))))
 refine AS_new (box95 96) rfl rfl rfl rfl ?_
 rintro r os ⟨b4,rfl,rfl⟩
 refine ⟨[105],_,_,by simp,rfl,rfl,rfl,rfl,?_⟩
 simp only [go_sem,hP,ownBack]
 (repeat refine qJ ?_)
 (repeat (first | (refine mkW u103 ?_; simp only [go_sem,hP]; (repeat refine qJ ?_)) | (refine mkW u99 ?_; simp only [go_sem,hP]; (repeat refine qJ ?_)) | (refine insW 1 rfl rfl rfl rfl rfl rfl ?_; simp only [go_sem,hP]; (repeat refine qJ ?_))))
 refine AS_new (boxes93 97) rfl rfl rfl rfl ?_
 rintro r os ⟨b5,rfl,rfl⟩
 refine ⟨[106],_,_,by simp,rfl,rfl,rfl,rfl,?_⟩
 simp only [go_sem,hP,ownBack]
 (repeat refine qJ ?_)
 (repeat (first | (refine mkW u103 ?_; simp only [go_sem,hP]; (repeat refine qJ ?_)) | (refine mkW u99 ?_; simp only [go_sem,hP]; (repeat refine qJ ?_)) | (refine insW 1 rfl rfl rfl rfl rfl rfl ?_; simp only [go_sem,hP]; (repeat refine qJ ?_))))
 refine AS_new (box95 98) rfl rfl rfl rfl ?_
 rintro r os ⟨b6,rfl,rfl⟩
 refine ⟨[107],_,_,by simp,rfl,rfl,rfl,rfl,?_⟩
 simp only [go_sem,hP,ownBack]
 (repeat refine qJ ?_)
 (repeat (first | (refine mkW u103 ?_; simp only [go_sem,hP]; (repeat refine qJ ?_)) | (refine mkW u99 ?_; simp only [go_sem,hP]; (repeat refine qJ ?_)) | (refine insW 1 rfl rfl rfl rfl rfl rfl ?_; simp only [go_sem,hP]; (repeat refine qJ ?_))))
 refine AS_new (box95 99) rfl rfl rfl rfl ?_
 rintro r os ⟨b7,rfl,rfl⟩
 refine ⟨[108],_,_,by simp,rfl,rfl,rfl,rfl,?_⟩
 simp only [go_sem,hP,ownBack]
 (repeat refine qJ ?_)
 (repeat (first | (refine mkW u103 ?_; simp only [go_sem,hP]; (repeat refine qJ ?_)) | (refine mkW u99 ?_; simp only [go_sem,hP]; (repeat refine qJ ?_)) | (refine insW 1 rfl rfl rfl rfl rfl rfl ?_; simp only [go_sem,hP]; (repeat refine qJ ?_))))
 (refine WV_ret ?_; simp only [thenQ,inQ,RetQN,RetOkN,resAll,resA]; simp only [go_sem,tupA])
 exact ⟨[1,101,102,103,104,105,106,107,108],_,_,_,by simp,by simp,rfl,AVle.refl _,rfl,b,fun i => [b0,b1,b2,b3,b4,b5,b6,b7].getD i 0,rfl,rfl⟩
end Go.Proofs.YtefoconkepmmgaaGreatDoor

namespace Go.Proofs.YtefoconkepmmgaaGreatDoor
open Go Go.V Go.RowKit Go.Shelf
abbrev o66_0:List Ins:=[JS 4 (.mv (.k J0))]
abbrev o66_1:List Ins:=[JS 5 (Jm 0),JS 6 (Jm 1),JS 7 (Jc 73 [.t 5,.t 6,(.k (Jz 0)),(.k (Jz (-1)))]),JS 4 (Jm 7)]
abbrev v66_2:VC:=(.seq (.ops o66_1) .ret)
def ir66:FC:=⟨2,8,[.t 4],(.seq (.ops o66_0) v66_2)⟩
theorem c66:compM Tryz.prog [] 66 = some ir66:=by kernel_rfl
attribute [local go_sem] Nat.reduceEqDiff Nat.reduceAdd Nat.reduceMul reduceIte Nat.reduceLeDiff Nat.reduceLT Nat.reduceBEq reduceCtorEq
def renTrim:Ren:=⟨fun | 101 => 100 | 208 => 130 | 206 => 159 | n => n,
 fun x => x,
 fun x => x⟩
def renSplit:Ren:=⟨fun | 221 => 73 | 268 => 106 | 138 => 107 | 143 => 108 | 195 => 136 | 197 => 137 | 218 => 138 | 219 => 139 | 260 => 171 | 217 => 172 | 225 => 173 | 224 => 174 | 267 => 175 | 266 => 199 | 314 => 200 | n => n,
 fun | 31 => 40 | 105 => 174 | 46 => 232 | 119 => 257 | 139 => 260 | 138 => 259 | 146 => 261 | 51 => 254 | n => n,
 fun | 1 => 0 | 3 => 4 | 4 => 5 | n => n⟩
def renAtoi:Ren:=⟨fun | 172 => 101 | 244 => 131 | 245 => 132 | 247 => 160 | 279 => 161 | 280 => 162 | 281 => 163 | 282 => 164 | 287 => 191 | 316 => 192 | 171 => 69 | 205 => 193 | 321 => 208 | 322 => 209 | 243 => 102 | 246 => 133 | 283 => 165 | 284 => 166 | 285 => 167 | 286 => 168 | 129 => 195 | 317 => 194 | 318 => 196 | 319 => 197 | 320 => 198 | 337 => 210 | 338 => 211 | n => n,
 fun | 75 => 127 | 76 => 128 | 167 => 216 | 37 => 63 | 85 => 217 | 168 => 219 | 53 => 223 | 175 => 247 | 46 => 232 | 210 => 250 | 127 => 173 | 145 => 271 | 143 => 269 | 171 => 222 | 173 => 226 | 212 => 253 | 51 => 254 | 213 => 255 | 232 => 280 | 233 => 281 | 80 => 134 | n => n,
 fun | 15 => 1 | 16 => 2 | 17 => 3 | 18 => 6 | 19 => 7 | n => n⟩
theorem callable_of {P:Program} {f:Nat} {B:Func} (h:P.funcs[f]? = some B) (hb:B.body.isSome = true) (hn:(B.name == "runtime.NumGoroutine") = false):callable P f :=
 ⟨_,h,hb,by simpa using hn⟩
theorem layTrim:Lays.n101 Tryz.prog renTrim:=by
 constructor <;> first | kernel_rfl | (intro w; kernel_rfl)
theorem laySplit:Lays.n221 Tryz.prog renSplit:=by
 constructor <;> first | kernel_rfl | (intro w; kernel_rfl)
theorem layAtoi:Lays.n172 Tryz.prog renAtoi:=by
 constructor <;> first | kernel_rfl | (intro w; kernel_rfl)
theorem trim100 (s p:List UInt8):FSpec Tryz.prog 100 [.c (.str s),.c (.str p)] (.c (.str (Lib.trimPrefix s p))):=by
 refine ⟨callable_of layTrim.f101 (by kernel_rfl) (by kernel_rfl),fun w M vs hM hr => ?_⟩
 simp only [RepAs,RepA,RepC] at hr
 obtain ⟨_,_,rfl,rfl,_,_,rfl,rfl,rfl⟩:=hr
 refine (Any.strings_TrimPrefix layTrim ⟨s.toArray⟩ ⟨p.toArray⟩ w).mono ?_
 rintro e w' ⟨rfl,rfl⟩
 exact ⟨_,rfl,by simp only [RepA,RepC],rfl,rfl,rfl,Nat.le_refl _,fun k _ => rfl⟩
theorem atoi101 {s:List UInt8} {n:Int} (hl:s.length ≤ 18) (h:Lib.atoi s = some n):FSpec Tryz.prog 101 [.c (.str s)] (.tup [iv n,.c (.raw .nilIface)]):=by
 refine ⟨callable_of layAtoi.f172 (by kernel_rfl) (by kernel_rfl),fun w M vs hM hr => ?_⟩
 simp only [RepAs,RepA,RepC] at hr
 obtain ⟨_,_,rfl,rfl,rfl⟩:=hr
 refine (Any.strconv_Atoi layAtoi ⟨s.toArray⟩ n (by simpa [ByteArray.size] using hl) h w).mono ?_
 rintro e w' ⟨rfl,t,rfl⟩
 refine ⟨_,rfl,?_,Lib.bytesWorld_below w _ _⟩
 simp only [RepA,RepAs,RepC]
 exact ⟨[_,_],rfl,_,_,rfl,rfl,_,_,rfl,⟨rfl,rfl⟩,rfl⟩
theorem reps_strs {w:World} {M:Cells} {loc:Nat → Value}:∀ (l:List (List UInt8)),RepAs w M loc (l.map fun s => .c (.str s)) (l.map sv)
 | [] => by simp [RepAs]
 | s :: l => by
  simp only [List.map_cons,RepAs,RepA,RepC]
  exact ⟨_,_,rfl,rfl,reps_strs l⟩
theorem flat_strs:∀ l:List (List UInt8),(l.map fun s => [CD.str s]).flatten.map AV.c = l.map fun s => AV.c (.str s)
 | [] => rfl
 | x :: l => by simp only [List.map_cons,List.flatten_cons,List.map_append,flat_strs l]; rfl
def cutL (s:List UInt8):List (List UInt8):=Lib.split s [32]
def strsC (l:List (List UInt8)):CD:=.sl 1 (l.map fun x => [.str x])
theorem split73 {s:List UInt8} (hs:s.length < 4294967281):FSpec Tryz.prog 73 [.c (.str s),.c (.str [32]),iv 0,iv (-1)] (.c (strsC (cutL s))):=by
 refine ⟨callable_of laySplit.f221 (by kernel_rfl) (by kernel_rfl),fun w M vs hM hr => ?_⟩
 simp only [RepAs,RepA,RepC] at hr
 obtain ⟨_,_,rfl,rfl,_,_,rfl,rfl,_,_,rfl,rfl,_,_,rfl,rfl,rfl⟩:=hr
 obtain ⟨S,hS⟩ : ∃ S:ByteArray,S = ⟨s.toArray⟩:=⟨_,rfl⟩
 have hSd:S.data.toList = s:=by rw [hS]
 have hSs:S.size = s.length:=by rw [hS]; simp [ByteArray.size]
 rw [← hS]
 have h1:1 ≤ (⟨#[32]⟩ : ByteArray).size:=Nat.le_refl 1
 have hle:=Lib.countB_le ⟨#[32]⟩ h1 S.size S (Nat.le_refl _)
 have hlen:=Lib.splitB_all ⟨#[32]⟩ h1 0 _ S rfl
 have c:=Any.strings_genSplit_core laySplit (by kernel_rfl) S ⟨#[32]⟩ 0 (-1) (Lib.countB S ⟨#[32]⟩ + 1) w (by omega) h1 (Nat.zero_le _)
  (fun x c hx => (Any.strings_Index_one { laySplit with } x 32 _).mono fun e w' ⟨he,hw⟩ => ⟨by rw [he]; show _ = Ending.returned (Value.int .i64 (Lib.index x.data.toList [32])); rw [Lib.index_one],hw⟩)
  ((Any.strings_Count_one { laySplit with } S 32 w).mono fun e w' ⟨he,hw⟩ => ⟨by rw [he]; show _ = Ending.returned (Value.int .i64 ((Lib.count S.data.toList [32]:Nat):Int)); rw [Lib.count_one]; rfl,hw⟩)
  (by decide) (by decide) (by rw [if_pos (by decide)]; omega)
 rw [Nat.add_sub_cancel,hlen] at c
 have e2:Lib.cellsOf (Lib.splitB ⟨#[32]⟩ 0 (Lib.countB S ⟨#[32]⟩) S) (Lib.countB S ⟨#[32]⟩ + 1) = ((Lib.splitB ⟨#[32]⟩ 0 (Lib.countB S ⟨#[32]⟩) S).map Value.string).toArray:=by rw [← hlen]; exact Lib.cellsOf_full _
 rw [e2] at c
 have e3:(Lib.splitB ⟨#[32]⟩ 0 (Lib.countB S ⟨#[32]⟩) S).map Value.string = (cutL s).map sv:=by
  have:=Lib.splitB_data ⟨#[32]⟩ 0 (Lib.countB S ⟨#[32]⟩) S
  unfold cutL Lib.split
  rw [← hSd]
  rw [← this,List.map_map]
  rfl
 have e4:(cutL s).length = Lib.countB S ⟨#[32]⟩ + 1:=by
  have:=congrArg List.length e3
  simpa [hlen] using this.symm
 rw [e3,← e4] at c
 refine (show Calls Tryz.prog 73 _ w _ from c).mono ?_
 rintro e w' ⟨rfl,rfl⟩
 refine ⟨_,rfl,?_,(Below.refl _ _).alloc (Nat.le_refl _) _⟩
 have hmax:s.length ≤ maxLen:=by have:maxLen = 9223372036854775807:=rfl; omega
 simp only [RepA,RepC,strsC,List.length_map]
 refine ⟨_,_,rfl,Nat.le_refl _,?_,.inr ⟨_,rfl,?_⟩⟩
 ·have:maxLen = 9223372036854775807:=rfl
  omega
 ·refine repE_of _ ((cutL s).map sv) 0 (fun e he => ?_) ?_ (fun j u hj => ?_) (fun j hj hm => ?_)
  ·obtain ⟨n,_,rfl⟩:=List.mem_map.1 he; rfl
  ·rw [flat_strs]; exact reps_strs _
  ·rw [cell_of_row _ _ _ _ _ _ (heap_alloc_new w _),Nat.zero_add,← Array.getElem?_toList]
   exact hj
  ·have:=hM _ _ hm; omega
theorem split66 {s:List UInt8} (hs:s.length < 4294967281):FSpec Tryz.prog 66 [.c (.str s),.c (.str [32])] (.c (strsC (cutL s))):=by
 refine FSpec_of c66 (Nat.le_refl _) (by decide) fun C hP hN hC hL => ?_; rw [init_st]
 simp only [ir66]
 (repeat ((first | refine Va ?_ | refine Vb ?_ | refine Vc ?_ | refine Vd ?_ | refine Ve ?_ | refine Vf ?_); (try simp only [go_sem,hP]); (repeat refine qJ ?_)))
 (refine AS_pu (split73 hs) ?_; simp only [go_sem,hP]; (repeat refine qJ ?_); (repeat ((first | refine Va ?_ | refine Vb ?_ | refine Vc ?_ | refine Vd ?_ | refine Ve ?_ | refine Vf ?_); (try simp only [go_sem,hP]); (repeat refine qJ ?_))))
 (repeat ((first | refine Va ?_ | refine Vb ?_ | refine Vc ?_ | refine Vd ?_ | refine Ve ?_ | refine Vf ?_); (try simp only [go_sem,hP]); (repeat refine qJ ?_)))
 (refine WV_ret ?_; simp only [thenQ,inQ,RetQ,RetOk,resAll,resA]; simp only [go_sem,tupA,AV.port,AV.portL,exists_eq_left']; (first | exact AVle.of rfl | refine AVle.of ?_ | skip))
end Go.Proofs.YtefoconkepmmgaaGreatDoor

namespace Go.Proofs.YtefoconkepmmgaaGreatDoor
open Go Go.V
abbrev o68_0:List Ins:=[JS 2 (Ji 0),JS 3 (JB false)]
abbrev o68_1:List Ins:=[JS 8 (Jm 0),JS 9 (Jc 100 [.t 8,(.k (.c (.str [45])))]),JS 4 (Jm 9)]
abbrev o68_2:List Ins:=[JS 10 (Jm 4),JS 11 (.prim .slen [.t 10]),JS 12 (Jk .eql 11 0),JS 13 (Jm 12),JG 14 (Jm 4) 13 false,JG 15 (.prim .slen [.t 14]) 13 false,JG 16 (Jk .gtr 15 9) 13 false,JS 17 (Jo 13 16),JS 18 (Jm 17),JG 19 (Jm 4) 18 false,JG 20 (.prim .sidx [.t 19,(.k (Jz 0))]) 18 false,JG 21 (.bin .eql (.t 20) (.k (.c (.int .u8 48)))) 18 false,JG 22 (Jm 21) 18 false,JG 23 (Jm 4) 22 true,JG 24 (.prim .slen [.t 23]) 22 true,JG 25 (Jk .gtr 24 1) 22 true,JG 26 (Jm 25) 22 true,JG 27 (Jm 0) 26 false,JG 28 (.prim .slen [.t 27]) 26 false,JG 29 (Jk .gtr 28 1) 26 false,JG 30 (Jo 26 29) 22 true,JG 31 (Jp 22 30) 18 false,JS 32 (Jo 18 31)]
abbrev o68_3:List Ins:=[JS 2 (Ji 0),JS 3 (JB false)]
abbrev v68_4:VC:=(.seq (.ops o68_3) .ret)
abbrev v68_5:VC:=(.cond (.t 32) v68_4 .skip)
abbrev o68_6:List Ins:=[JS 33 (Jm 4),JS 34 (.prim .slen [.t 33]),JS 35 (Ji 0)]
abbrev o68_7:List Ins:=[JS 36 (Jb .lss 35 34)]
abbrev o68_8:List Ins:=[JS 37 (Jm 35),JS 5 (Jm 37)]
abbrev o68_9:List Ins:=[JS 38 (Jm 4),JS 39 (Jm 5),JS 40 (.prim .sidx [.t 38,.t 39]),JS 41 (.bin .lss (.t 40) (.k (.c (.int .u8 48)))),JS 42 (Jm 41),JG 43 (Jm 4) 42 false,JG 44 (Jm 5) 42 false,JG 45 (.prim .sidx [.t 43,.t 44]) 42 false,JG 46 (.bin .gtr (.t 45) (.k (.c (.int .u8 57)))) 42 false,JS 47 (Jo 42 46)]
abbrev o68_10:List Ins:=[JS 2 (Ji 0),JS 3 (JB false)]
abbrev v68_11:VC:=(.seq (.ops o68_10) .ret)
abbrev v68_12:VC:=(.cond (.t 47) v68_11 .skip)
abbrev v68_13:VC:=(.seq (.ops o68_9) v68_12)
abbrev v68_14:VC:=(.seq (.ops o68_8) v68_13)
abbrev o68_15:List Ins:=[JS 48 (Jk .add 35 1),JS 35 (Jm 48)]
abbrev v68_16:VC:=(.seq (.block 1 v68_14) (.ops o68_15))
abbrev v68_17:VC:=(.seq (.cond (.t 36) .skip (.exit 0)) v68_16)
abbrev v68_18:VC:=(.seq (.ops o68_7) v68_17)
-- K68_1: changed and kept: [35]
abbrev v68_19:VC:=(.loop v68_18)
abbrev v68_20:VC:=(.block 0 v68_19)
abbrev o68_21:List Ins:=[JS 50 (Jm 0),JS 51 (Jc 101 [.t 50]),JS 49 (Jm 51),JS 52 (Je 49 0),JS 53 (Je 49 1),JS 6 (Jm 52),JS 7 (Jm 53)]
abbrev t68_22:OT:=(.cons (JF 55 (Jm 7)) (.br [(.cons (JF 54 (Jm 6)) (.br [(.cons (JS 56 (.raw (.binOp .eql 127 (.tmp 55) (.const .nilIface) 127))) (.cons (JF 2 (Jm 54)) (.cons (JS 3 (Jm 56)) .nil))),(.cons (JF 2 (Jm 54)) (.cons (JS 56 (.raw (.binOp .eql 127 (.tmp 55) (.const .nilIface) 127))) (.cons (JS 3 (Jm 56)) .nil)))])),(.cons (JS 56 (.raw (.binOp .eql 127 (.tmp 55) (.const .nilIface) 127))) (.cons (JF 54 (Jm 6)) (.cons (JF 2 (Jm 54)) (.cons (JS 3 (Jm 56)) .nil))))]))
abbrev v68_23:VC:=(.seq (.drw t68_22) .ret)
abbrev v68_24:VC:=(.seq (.ops o68_21) v68_23)
abbrev v68_25:VC:=(.seq (.seq (.ops o68_6) v68_20) v68_24)
abbrev v68_26:VC:=(.seq (.seq (.ops o68_2) v68_5) v68_25)
abbrev v68_27:VC:=(.seq (.ops o68_1) v68_26)
def ir68:FC:=⟨1,57,[.t 2,.t 3],(.seq (.ops o68_0) v68_27)⟩
theorem c68:compM Tryz.prog [] 68 = some ir68:=by kernel_rfl
attribute [local go_sem] Nat.reduceEqDiff Nat.reduceAdd Nat.reduceMul reduceIte Nat.reduceLeDiff Nat.reduceLT Nat.reduceBEq reduceCtorEq
def digs (s:List UInt8):List UInt8:=Lib.trimPrefix s [45]
def dgt (b:UInt8):Bool:=decide (48 ≤ b.toNat) && decide (b.toNat ≤ 57)
def numBad (s:List UInt8):Bool:=(((digs s).length:Int) == 0 || decide (9 < ((digs s).length:Int)) || ((((digs s).getD 0 0).toNat:Int) == 48 && (decide (1 < ((digs s).length:Int)) || decide (1 < (s.length:Int)))))
def numOk (s:List UInt8):Bool:=!numBad s && (digs s).all dgt
def numV (s:List UInt8):Int:=if numOk s then (Lib.atoi s).getD 0 else 0
theorem take_succ_all (p:UInt8 → Bool):∀ (l:List UInt8) (k:Nat),k < l.length → (l.take (k + 1)).all p = ((l.take k).all p && p (l.getD k 0))
 | [],k,h => by simp at h
 | b :: l,0,_ => by simp
 | b :: l,k + 1,h => by
  have:=take_succ_all p l k (by simpa using h)
  simp only [List.take_succ_cons,List.all_cons,this,List.getD_cons_succ,Bool.and_assoc]
theorem decFrom_all:∀ (l:List UInt8) (acc:Nat),l.all dgt = true → ∃ m,Lib.decFrom acc l = some m
 | [],acc,_ => ⟨acc,rfl⟩
 | b :: l,acc,h => by
  simp only [List.all_cons,Bool.and_eq_true] at h
  have hb:Lib.digitVal b = some (b.toNat - 48):=by
   have:=h.1
   unfold dgt at this
   simp only [Bool.and_eq_true,decide_eq_true_eq] at this
   unfold Lib.digitVal
   rw [if_pos this]
  obtain ⟨m,hm⟩:=decFrom_all l (acc * 10 + (b.toNat - 48)) h.2
  exact ⟨m,by unfold Lib.decFrom; rw [hb]; exact hm⟩
theorem numOk_len {s:List UInt8} (h:numOk s = true):0 < (digs s).length ∧ (digs s).length ≤ 9 ∧ s.length ≤ 10 ∧ (digs s).all dgt = true:=by
 unfold numOk at h
 rw [Bool.and_eq_true] at h
 obtain ⟨h1,h2⟩:=h
 have hb':numBad s = false:=by simpa using h1
 unfold numBad at hb'; simp at hb'
 have h3:=List.length_pos_iff.2 hb'.1.1
 have h4:s.length ≤ (digs s).length + 1:=by unfold digs Lib.trimPrefix; split <;> simp; omega
 exact ⟨h3,by omega,by omega,h2⟩
theorem atoi_ok {s:List UInt8} (h:numOk s = true):Lib.atoi s = some (numV s):=by
 obtain ⟨h1,h2,h3,h4⟩:=numOk_len h
 have:∃ n,Lib.atoi s = some n:=by
  cases s with
  | nil => exact absurd h1 (by simp [digs,Lib.trimPrefix])
  | cons b r =>
   unfold Lib.atoi
   by_cases hb:b = 45
   ·subst hb
    have hd:digs (45 :: r) = r:=by simp [digs,Lib.trimPrefix,Lib.hasPrefix]
    rw [hd] at h1 h4
    obtain ⟨m,hm⟩:=decFrom_all r 0 h4
    have:r.isEmpty = false:=by cases r <;> simp at h1 ⊢
    simp [Lib.decNat,this,hm]
   ·have hd:digs (b :: r) = b :: r:=by
     have:(45:UInt8) ≠ b:=fun e => hb e.symm
     simp [digs,Lib.trimPrefix,Lib.hasPrefix,this]
    rw [hd] at h4
    obtain ⟨m,hm⟩:=decFrom_all (b :: r) 0 h4
    have h43:b ≠ 43:=by
     rintro rfl
     simp [dgt] at h4
    simp [Lib.decNat,hb,h43,hm]
 obtain ⟨n,hn⟩:=this
 unfold numV
 rw [if_pos h,hn]; rfl
theorem number68 {s:List UInt8} (hs:s.length ≤ 1000):FSpec Tryz.prog 68 [.c (.str s)] (.tup [iv (numV s),.c (.bool (numOk s))]):=by
 have hm:maxLen = 9223372036854775807:=rfl
 have hdl:(digs s).length ≤ s.length:=by unfold digs Lib.trimPrefix; split <;> simp
 refine FSpec_of c68 (Nat.le_refl _) (by decide) fun C hP hN hC hL => ?_; rw [init_st]
 simp only [ir68]
 (repeat ((first | refine Va ?_ | refine Vb ?_ | refine Vc ?_ | refine Vd ?_ | refine Ve ?_ | refine Vf ?_); (try simp only [go_sem,hP]); (repeat refine qJ ?_)))
 (refine AS_pu (trim100 s [45]) ?_; simp only [go_sem,hP]; (repeat refine qJ ?_); (repeat ((first | refine Va ?_ | refine Vb ?_ | refine Vc ?_ | refine Vd ?_ | refine Ve ?_ | refine Vf ?_); (try simp only [go_sem,hP]); (repeat refine qJ ?_))))
 rw [show Lib.trimPrefix s [45] = digs s from rfl]
 refine ⟨fun h => ⟨h,Int.le_refl 0,by simp at h; have:=List.length_pos_iff.2 h.1; omega⟩,fun h => ⟨h,fun h2 => ⟨h,by simp [h2]⟩⟩,fun h => ⟨h,fun h2 => ⟨h,h2⟩⟩,fun h => by rw [h]; rfl,?_⟩
 refine WV_sub (σ':=⟨upd (upd (upd (upd (upd e0 0 (.c (.str s))) 4 (.c (.str (digs s)))) 32 (.c (.bool (numBad s)))) 2 (iv 0)) 3 (.c (.bool false)),o0⟩) (Sub_of (by simp only [go_sem]; ((repeat' (first | exact EnvLe_e0 _ _ | refine EnvLe_upd ?_ ?_)) <;> ((try simp only [upd_app,e0_app,o0_app,Nat.reduceEqDiff,reduceIte]); first | exact AWk.refl _ _ | exact AWk.int (by omega) | exact AWk.int (by rw [w64 (by omega) (by omega)]; omega) | exact AWk.grow rfl | exact AWk.nil _ | exact AWk.of (by rfl)))) (by simp only [go_sem]; exact ObjLe_au)) ?_
 by_cases hb:numBad s = true
 ·have hok:numOk s = false:=by unfold numOk; rw [hb]; rfl
  have hv:numV s = 0:=by unfold numV; rw [hok]; rfl
  rw [hok,hv]
  (repeat ((first | refine Va ?_ | refine Vb ?_ | refine Vc ?_ | refine Vd ?_ | refine Ve ?_ | refine Vf ?_); (try simp only [go_sem,hP]); (repeat refine qJ ?_)))
  (refine WV_cond rfl (fun h => ?_) (fun h => ?_))
  ·(repeat ((first | refine Va ?_ | refine Vb ?_ | refine Vc ?_ | refine Vd ?_ | refine Ve ?_ | refine Vf ?_); (try simp only [go_sem,hP]); (repeat refine qJ ?_)))
   (refine WV_ret ?_; simp only [thenQ,inQ,RetQ,RetOk,resAll,resA]; simp only [go_sem,tupA,AV.port,AV.portL,exists_eq_left']; (first | exact AVle.of rfl | refine AVle.of ?_ | skip))
  ·rw [hb] at h; cases h
 ·have hb':numBad s = false:=by simpa using hb
  have hd9:(digs s).length ≤ 9:=by
   unfold numBad at hb'; simp at hb'; omega
  have hd0:0 < (digs s).length:=by
   unfold numBad at hb'; simp at hb'; exact List.length_pos_iff.2 hb'.1.1
  (repeat ((first | refine Va ?_ | refine Vb ?_ | refine Vc ?_ | refine Vd ?_ | refine Ve ?_ | refine Vf ?_); (try simp only [go_sem,hP]); (repeat refine qJ ?_)))
  (refine WV_cond rfl (fun h => ?_) (fun h => ?_))
  ·exact absurd h hb
  (repeat ((first | refine Va ?_ | refine Vb ?_ | refine Vc ?_ | refine Vd ?_ | refine Ve ?_ | refine Vf ?_); (try simp only [go_sem,hP]); (repeat refine qJ ?_)))
  refine WV_loopS (fun k:Nat => ⟨upd (upd (upd (upd (upd (upd e0 0 (.c (.str s))) 4 (.c (.str (digs s)))) 2 (iv 0)) 3 (.c (.bool false))) 34 (iv (digs s).length)) 35 (iv k),o0⟩) (fun k => k ≤ (digs s).length ∧ ((digs s).take k).all dgt = true) (fun k => (digs s).length - k) 0 ⟨Nat.zero_le _,rfl⟩ ?_ ?_
  ·exact Sub_au
  rintro k ⟨hk,hr⟩
  (repeat ((first | refine Va ?_ | refine Vb ?_ | refine Vc ?_ | refine Vd ?_ | refine Ve ?_ | refine Vf ?_); (try simp only [go_sem,hP]); (repeat refine qJ ?_)))
  (refine WV_cond rfl (fun h => ?_) (fun h => ?_))
  ·have hi:k < (digs s).length:=by simpa using h
   have hw:=w64 (n:=(k:Int) + 1) (by omega) (by omega)
   have hts:=take_succ_all dgt (digs s) k hi
   rw [hr,Bool.true_and] at hts
   have hfail:dgt ((digs s).getD k 0) = false → numOk s = false:=fun h => by
    unfold numOk
    have:(digs s).all dgt = false:=by
     cases hx:(digs s).all dgt with
     | false => rfl
     | true =>
      have:=List.all_eq_true.1 hx ((digs s).getD k 0) (by rw [List.getD_eq_getElem?_getD,List.getElem?_eq_getElem hi]; exact List.getElem_mem hi)
      rw [h] at this; cases this
    rw [this,Bool.and_false]
   (repeat ((first | refine Va ?_ | refine Vb ?_ | refine Vc ?_ | refine Vd ?_ | refine Ve ?_ | refine Vf ?_); (try simp only [go_sem,hP,Int.toNat_natCast]); (repeat refine qJ ?_)))
   by_cases hdg:dgt ((digs s).getD k 0) = true
   ·rw [hdg] at hts
    unfold dgt at hdg
    simp only [Bool.and_eq_true,decide_eq_true_eq] at hdg
    generalize (digs s).getD k 0 = z at hdg ⊢
    (refine WV_cond rfl (fun h => ?_) (fun h => ?_))
    ·simp at h; omega
    (repeat ((first | refine Va ?_ | refine Vb ?_ | refine Vc ?_ | refine Vd ?_ | refine Ve ?_ | refine Vf ?_); (try simp only [go_sem,hP,hw]); (repeat refine qJ ?_)))
    refine ⟨k + 1,⟨by omega,hts⟩,by omega,?_⟩
    exact Sub_au
   ·have hdg':dgt ((digs s).getD k 0) = false:=by simpa using hdg
    have hok:=hfail hdg'
    have hv:numV s = 0:=by unfold numV; rw [hok]; rfl
    rw [hok,hv]
    unfold dgt at hdg'
    simp only [Bool.and_eq_false_iff,decide_eq_false_iff_not] at hdg'
    generalize (digs s).getD k 0 = z at hdg' ⊢
    (refine WV_cond rfl (fun h => ?_) (fun h => ?_))
    ·(repeat ((first | refine Va ?_ | refine Vb ?_ | refine Vc ?_ | refine Vd ?_ | refine Ve ?_ | refine Vf ?_); (try simp only [go_sem,hP]); (repeat refine qJ ?_)))
     (refine WV_ret ?_; simp only [thenQ,inQ,RetQ,RetOk,resAll,resA]; simp only [go_sem,tupA,AV.port,AV.portL,exists_eq_left']; (first | exact AVle.of rfl | refine AVle.of ?_ | skip))
    ·simp at h; omega
  ·have hkl:k = (digs s).length:=by
    have:¬ (k < (digs s).length):=by simpa using h
    omega
   subst hkl
   rw [List.take_length] at hr
   have hok:numOk s = true:=by unfold numOk; rw [hb',hr]; rfl
   have h10:=numOk_len hok
   rw [hok]
   (repeat ((first | refine Va ?_ | refine Vb ?_ | refine Vc ?_ | refine Vd ?_ | refine Ve ?_ | refine Vf ?_); (try simp only [go_sem,hP]); (repeat refine qJ ?_)))
   (refine AS_pu (atoi101 (by omega) (atoi_ok hok)) ?_; simp only [go_sem,hP]; (repeat refine qJ ?_); (repeat ((first | refine Va ?_ | refine Vb ?_ | refine Vc ?_ | refine Vd ?_ | refine Ve ?_ | refine Vf ?_); (try simp only [go_sem,hP]); (repeat refine qJ ?_))))
   (repeat ((first | refine Va ?_ | refine Vb ?_ | refine Vc ?_ | refine Vd ?_ | refine Ve ?_ | refine Vf ?_); (try simp only [go_sem,hP]); (repeat refine qJ ?_)))
   refine WV_drw ?_
   simp only [go_sem,hP]
   (repeat' (refine And.intro ?_ ?_))
   all_goals (
    refine raw_eqN (by kernel_rfl) rfl rfl rfl ?_
    simp only [go_sem,hP]
    (try (refine ⟨?_,?_⟩ <;> first | trivial | skip))
    all_goals (try ((refine WV_ret ?_; simp only [thenQ,inQ,RetQ,RetOk,resAll,resA]; simp only [go_sem,tupA,AV.port,AV.portL,exists_eq_left']; (first | exact AVle.of rfl | refine AVle.of ?_ | skip)))))
end Go.Proofs.YtefoconkepmmgaaGreatDoor
