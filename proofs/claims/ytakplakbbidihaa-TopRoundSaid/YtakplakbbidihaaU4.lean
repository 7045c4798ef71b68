/-
  Contracts of the layer's functions, of the laws' helpers and of the law; conditions: as each theorem states.
-/
import Derived.Test.YtakplakbbidihaaV3
import Derived.Test.YtakplakbbidihaaChecked
import Derived.DeepKeys5
set_option linter.unusedVariables false
set_option linter.unusedSimpArgs false
/-
 Routes as data,and what comes of them: plain.
-/
namespace Go.Proofs.Ytakplakbbidihaa
open Go Go.V
abbrev iv (n:Int):AV:=.c (.int .i64 n)
def ints (l:List Int):CD:=.sl 1 (l.map fun n => [.int .i64 n])
structure Stop where
 op:Int
 cl:Int
 st:Int
 ca:Int
 deriving DecidableEq,Inhabited
structure Route where
 stops:List Stop
 drive:List (List Int)
 start:Int
 deriving DecidableEq,Inhabited
def Stop.cds (s:Stop):List CD:=[.int .i64 s.op,.int .i64 s.cl,.int .i64 s.st,.int .i64 s.ca]
def stopsC (l:List Stop):CD:=.sl 4 (l.map Stop.cds)
def driveC (l:List (List Int)):CD:=.sl 1 (l.map fun x => [ints x])
def Route.cds (r:Route):List CD:=[stopsC r.stops,driveC r.drive,.int .i64 r.start]
def Route.av (r:Route):AV:=.agg [.c (stopsC r.stops),.c (driveC r.drive),.c (.int .i64 r.start)]
def within (n lo hi:Int):Bool:=decide (lo ≤ n) && decide (n ≤ hi)
def okStop (s:Stop):Bool:=decide (0 ≤ s.op) && decide (s.op ≤ s.cl) && decide (s.cl ≤ 1440) && within s.st 0 1440 && within s.ca 0 99999
def okCell (i k:Nat) (n:Int):Bool:=within n 0 999 && (!(i == k) || n == 0)
def okRow (w i:Nat) (l:List Int):Bool:=l.length == w && l.zipIdx.all fun p => okCell i p.2 p.1
def Route.ok (r:Route):Bool:=decide (r.stops.length ≤ 7) && r.drive.length == r.stops.length + 1 && within r.start 0 1440 && r.stops.all okStop && r.drive.zipIdx.all fun p => okRow r.drive.length p.2 p.1
theorem ints_lens {l:List Int} (h:(ints l).lens):l.length ≤ 9223372036854775807:=by
 simp only [ints,CD.lens,List.length_map,maxLen] at h; omega
theorem stopsC_lens {l:List Stop} (h:(stopsC l).lens):l.length ≤ 9223372036854775807:=by
 simp only [stopsC,CD.lens,List.length_map,maxLen] at h; omega
theorem driveC_lens {l:List (List Int)} (h:(driveC l).lens):l.length ≤ 9223372036854775807 ∧ ∀ x ∈ l,x.length ≤ 9223372036854775807:=by
 simp only [driveC,CD.lens,List.length_map,maxLen,CD.lensE_mem] at h
 refine ⟨by omega,fun x hx => ints_lens (h.2 [ints x] (List.mem_map.2 ⟨x,hx,rfl⟩) _ (by simp))⟩
theorem Route.lens {r:Route} {xs:List AV} (h:AV.lensL (r.av :: xs)):r.stops.length ≤ 9223372036854775807 ∧ r.drive.length ≤ 9223372036854775807 ∧ ∀ x ∈ r.drive,x.length ≤ 9223372036854775807:=by
 simp only [AV.lensL,Route.av,AV.lens] at h
 exact ⟨stopsC_lens h.1.1,(driveC_lens h.1.2.1).1,(driveC_lens h.1.2.1).2⟩
theorem map_getD {α β:Type} {l:List α} {f:α → β} {k:Nat} {d:β} (h:k < l.length):(l.map f).getD k d = f l[k]:=by
 simp [h]
theorem take_all {α:Type} {l:List α} {k:Nat} (p:α → Bool) (h:k < l.length):(l.take (k + 1)).all p = ((l.take k).all p && p l[k]):=by
 rw [List.take_succ_eq_append_getElem h,List.all_append]; simp [List.all_cons]
theorem ints_scal (l:List Int):((l.map fun n => [CD.int .i64 n]).all fun e => e.all CD.scal) = true:=by
 rw [List.all_eq_true]; intro e he; obtain ⟨n,_,rfl⟩:=List.mem_map.1 he; rfl
theorem ibeq (a b:Nat):((a:Int) == (b:Int)) = (a == b):=by rw [Bool.eq_iff_iff]; simp; omega
theorem ibne (a b:Nat):((a:Int) != (b:Int)) = !(a == b):=by rw [bne,ibeq]
theorem take_zipIdx {α:Type} {l:List α} {k:Nat} (p:α × Nat → Bool) (h:k < l.length):(l.zipIdx.take (k + 1)).all p = ((l.zipIdx.take k).all p && p (l[k],k)):=by
 rw [List.take_succ_eq_append_getElem (by simpa using h),List.all_append]; simp [List.all_cons]
theorem okRow_eq {w i:Nat} {l:List Int} (hi:i < w):okRow w i l = (l.length == w && l.getD i 0 == 0 && l.all fun n => within n 0 999):=by
 unfold okRow
 by_cases hl:l.length = w
 ·subst hl
  rw [Bool.eq_iff_iff]
  simp only [beq_self_eq_true,Bool.true_and,List.all_eq_true,Bool.and_eq_true,beq_iff_eq]
  constructor
  ·intro h
   refine ⟨?_,fun n hn => ?_⟩
   ·have:=h (l[i],i) (by rw [List.mem_zipIdx_iff_getElem?]; simp [hi])
    simp only [okCell,beq_self_eq_true,Bool.not_true,Bool.false_or,Bool.and_eq_true,beq_iff_eq] at this
    simpa [hi] using this.2
   ·obtain ⟨k,hk,rfl⟩:=List.mem_iff_getElem.1 hn
    have:=h (l[k],k) (by rw [List.mem_zipIdx_iff_getElem?]; simp [hk])
    simp only [okCell,Bool.and_eq_true] at this
    exact this.1
  ·rintro ⟨h1,h2⟩ ⟨n,k⟩ hp
   rw [List.mem_zipIdx_iff_getElem?] at hp
   simp only [okCell,Bool.and_eq_true,Bool.or_eq_true,Bool.not_eq_true',beq_eq_false_iff_ne,beq_iff_eq]
   refine ⟨h2 n (List.mem_of_getElem? hp),?_⟩
   by_cases hik:i = k
   ·subst hik
    right
    rw [List.getD_eq_getElem?_getD,hp] at h1
    exact h1
   ·exact .inl hik
 ·have:(l.length == w) = false:=by simpa using hl
  rw [this]; simp
theorem g0_eq (a b:Nat) (w:Bool) (h:a ≤ 9223372036854775807):(decide ((a:Int) ≤ 7) && (b:Int) == IntKind.i64.wrap ((a:Int) + 1) && w) = (decide (a ≤ 7) && b == a + 1 && w):=by
 by_cases h7:a ≤ 7
 ·rw [w64 (by omega) (by omega)]
  have e1:decide ((a:Int) ≤ 7) = decide (a ≤ 7):=by simp; omega
  have e2:((b:Int) == (a:Int) + 1) = (b == a + 1):=by rw [Bool.eq_iff_iff]; simp; omega
  rw [e1,e2]
 ·have e1:decide ((a:Int) ≤ 7) = false:=by simp; omega
  have e2:decide (a ≤ 7) = false:=by simpa using h7
  rw [e1,e2]; rfl
end Go.Proofs.Ytakplakbbidihaa

namespace Go.Proofs.Ytakplakbbidihaa
open Go Go.V
abbrev o50_0:List Ins:=[⟨some 6,.mv (.k (.c (.bool false))),none,true⟩]
abbrev o50_1:List Ins:=[⟨some 7,.mv (.t 1),none,true⟩,
 ⟨some 8,.mv (.t 0),none,true⟩,
 ⟨some 9,.bin .leq (.t 7) (.t 8),none,true⟩,
 ⟨some 10,.mv (.t 9),none,true⟩,
 ⟨some 11,.mv (.t 0),(some (10,true)),true⟩,
 ⟨some 12,.mv (.t 2),(some (10,true)),true⟩,
 ⟨some 13,.bin .leq (.t 11) (.t 12),(some (10,true)),true⟩,
 ⟨some 14,.pick (.t 10) (.t 13) (.k (.c (.bool false))),none,true⟩,
 ⟨some 6,.mv (.t 14),none,true⟩]
abbrev v50_2:VC:=(.seq (.ops o50_1) .ret)
def ir50:FC:=⟨3,15,[.t 6],(.seq (.ops o50_0) v50_2)⟩
abbrev o51_0:List Ins:=[⟨some 6,.mv (.k (.c (.bool false))),none,true⟩]
abbrev o51_1:List Ins:=[⟨some 9,.mv (.t 0),none,true⟩,
 ⟨some 10,.len (.t 9),none,true⟩,
 ⟨some 11,.mv (.k (.c (.int .i64 0))),none,true⟩]
abbrev o51_2:List Ins:=[⟨some 12,.bin .lss (.t 11) (.t 10),none,true⟩]
abbrev o51_3:List Ins:=[⟨some 13,.mv (.t 11),none,true⟩,
 ⟨some 14,.ia 1 (.t 9) (.t 11),none,true⟩,
 ⟨some 15,.ld true 1 (.t 14),none,true⟩,
 ⟨some 7,.mv (.t 13),none,true⟩,
 ⟨some 8,.mv (.t 15),none,true⟩]
abbrev o51_4:List Ins:=[⟨some 16,.mv (.t 8),none,true⟩,
 ⟨some 17,.mv (.t 2),none,true⟩,
 ⟨some 18,.call (.k (.fn 50 [])) [(.t 16),(.k (.c (.int .i64 1))),(.t 17)],none,true⟩,
 ⟨some 19,.un .not (.t 18),none,true⟩,
 ⟨some 20,.mv (.t 19),none,true⟩,
 ⟨some 21,.mv (.t 7),(some (20,false)),true⟩,
 ⟨some 22,.bin .gtr (.t 21) (.k (.c (.int .i64 0))),(some (20,false)),true⟩,
 ⟨some 23,.mv (.t 22),(some (20,false)),true⟩,
 ⟨some 24,.mv (.t 8),(some (23,true)),true⟩,
 ⟨some 25,.mv (.t 0),(some (23,true)),true⟩,
 ⟨some 26,.mv (.t 7),(some (23,true)),true⟩,
 ⟨some 27,.bin .sub (.t 26) (.k (.c (.int .i64 1))),(some (23,true)),true⟩,
 ⟨some 28,.ia 1 (.t 25) (.t 27),(some (23,true)),true⟩,
 ⟨some 29,.ld true 1 (.t 28),(some (23,true)),true⟩,
 ⟨some 30,.bin .leq (.t 24) (.t 29),(some (23,true)),true⟩,
 ⟨some 31,.pick (.t 23) (.t 30) (.k (.c (.bool false))),(some (20,false)),true⟩,
 ⟨some 32,.pick (.t 20) (.k (.c (.bool true))) (.t 31),none,true⟩]
abbrev o51_5:List Ins:=[⟨some 6,.mv (.k (.c (.bool false))),none,true⟩]
abbrev v51_6:VC:=(.seq (.ops o51_5) .ret)
abbrev v51_7:VC:=(.cond (.t 32) v51_6 .skip)
abbrev v51_8:VC:=(.seq (.ops o51_4) v51_7)
abbrev v51_9:VC:=(.seq (.ops o51_3) v51_8)
abbrev o51_10:List Ins:=[⟨some 33,.bin .add (.t 11) (.k (.c (.int .i64 1))),none,true⟩,
 ⟨some 11,.mv (.t 33),none,true⟩]
abbrev v51_11:VC:=(.seq (.block 1 v51_9) (.ops o51_10))
abbrev v51_12:VC:=(.seq (.cond (.t 12) .skip (.exit 0)) v51_11)
abbrev v51_13:VC:=(.seq (.ops o51_2) v51_12)
-- K51_1: changed and kept: [11]
abbrev v51_14:VC:=(.loop v51_13)
abbrev v51_15:VC:=(.block 0 v51_14)
abbrev o51_16:List Ins:=[⟨some 34,.mv (.t 0),none,true⟩,
 ⟨some 35,.len (.t 34),none,true⟩,
 ⟨some 36,.mv (.t 1),none,true⟩,
 ⟨some 37,.bin .leq (.t 35) (.t 36),none,true⟩,
 ⟨some 6,.mv (.t 37),none,true⟩]
abbrev v51_17:VC:=(.seq (.ops o51_16) .ret)
abbrev v51_18:VC:=(.seq (.seq (.ops o51_1) v51_15) v51_17)
def ir51:FC:=⟨3,38,[.t 6],(.seq (.ops o51_0) v51_18)⟩
theorem c50:compM Try.prog [] 50 = some ir50:=by kernel_rfl
theorem c51:compM Try.prog [] 51 = some ir51:=by kernel_rfl
attribute [local go_sem] Nat.reduceEqDiff Nat.reduceAdd Nat.reduceMul reduceIte Nat.reduceLeDiff Nat.reduceLT Nat.reduceBEq reduceCtorEq
structure Wh where
 ro:Int
 no:List Int
 co:List Int
def Wh.avs (w:Wh):List AV:=[.c (.int .i64 w.ro),.c (ints w.no),.c (ints w.co)]
def Wh.av (w:Wh):AV:=.agg w.avs
theorem ints_get {l:List Int} {i:Nat} (hi:i < l.length):(l.map fun n => [CD.int .i64 n]).getD i [] = [.int .i64 (l.getD i 0)]:=by
 rw [map_getD hi,List.getD_eq_getElem?_getD,List.getElem?_eq_getElem hi]; rfl
theorem within50 (a b c:Int):FSpec Try.prog 50 [iv a,iv b,iv c] (.c (.bool (within a b c))):=by
 refine FSpec_of c50 (Nat.le_refl _) (by decide) fun C hP hN hC hL => ?_; rw [init_st]
 simp only [ir50]
 (repeat ((first | refine Va ?_ | refine Vb ?_ | refine Vc ?_ | refine Vd ?_ | refine Ve ?_ | refine Vf ?_); (try simp only [go_sem,hP]); (repeat refine qJ ?_)))
 (refine WV_ret ?_; simp only [thenQ,inQ,RetQ,RetOk,resAll,resA]; simp only [go_sem,tupA,AV.port,AV.portL,exists_eq_left']; (first | exact AVle.of rfl | refine AVle.of ?_ | skip))
def risK (lo hi:Int) (l:List Int):Nat → Bool
 | 0 => true
 | k + 1 => risK lo hi l k && (within (l.getD k 0) lo hi && (decide (k = 0) || decide (l.getD (k - 1) 0 < l.getD k 0)))
theorem risK_false {lo hi:Int} {l:List Int}:∀ {k m:Nat},risK lo hi l k = false → k ≤ m → risK lo hi l m = false
 | k,0,h,hm => by rwa [show k = 0 by omega] at h
 | k,m + 1,h,hm => by
  rcases Nat.lt_or_ge m k with h1 | h1
  ·rwa [show k = m + 1 by omega] at h
  ·unfold risK; rw [risK_false h h1]; rfl
def risB (lo hi:Int) (l:List Int):Bool:=risK lo hi l l.length
theorem risB_in {lo hi:Int} {l:List Int} (h:risB lo hi l = true):∀ n ∈ l,lo ≤ n ∧ n ≤ hi:=by
 have key:∀ k,risK lo hi l k = true → ∀ i,i < k → lo ≤ l.getD i 0 ∧ l.getD i 0 ≤ hi:=by
  intro k
  induction k with
  | zero => intro _ i hi; omega
  | succ k ih =>
   intro h i hi
   simp only [risK,Bool.and_eq_true,within,decide_eq_true_eq] at h
   rcases Nat.lt_or_ge i k with h1 | h1
   ·exact ih h.1 i h1
   ·rw [show i = k by omega]; exact h.2.1
 intro n hn
 obtain ⟨i,hi,rfl⟩:=List.getElem_of_mem hn
 have:=key _ h i hi
 rwa [List.getD_eq_getElem?_getD,List.getElem?_eq_getElem hi] at this
theorem risK_ge {lo hi:Int} {l:List Int}:∀ k,risK lo hi l k = true → ∀ i:Nat,i < k → lo + i ≤ l.getD i 0
 | 0,_,i,hi => by omega
 | k + 1,h,i,hi => by
  simp only [risK,Bool.and_eq_true,Bool.or_eq_true,within,decide_eq_true_eq] at h
  have ih:=risK_ge k h.1
  rcases Nat.lt_or_ge i k with h1 | h1
  ·exact ih i h1
  ·obtain rfl:i = k:=by omega
   rcases h.2.2 with h2 | h2
   ·subst h2; have:=h.2.1.1; omega
   ·rcases Nat.eq_zero_or_pos i with h3 | h3
    ·subst h3; have:=h.2.1.1; omega
    ·have:=ih (i - 1) (by omega)
     omega
theorem risB_len {hi:Int} {l:List Int} (h:risB 1 hi l = true) (h0:0 ≤ hi):(l.length:Int) ≤ hi:=by
 rcases Nat.eq_zero_or_pos l.length with h1 | h1
 ·omega
 ·have h2:=risK_ge _ h (l.length - 1) (by omega)
  have h3:=risB_in h (l.getD (l.length - 1) 0) (by rw [List.getD_eq_getElem?_getD,List.getElem?_eq_getElem (by omega)]; exact List.getElem_mem _)
  omega
set_option maxHeartbeats 8000000 in
theorem rising51 (l:List Int) (many most:Int):FSpec Try.prog 51 [.c (ints l),iv many,iv most] (.c (.bool (risB 1 most l && decide ((l.length:Int) ≤ many)))):=by
 refine FSpec_of c51 (Nat.le_refl _) (by decide) fun C hP hN hC hL => ?_; rw [init_st]
 have hl:l.length ≤ 9223372036854775807:=by simp only [AV.lensL,AV.lens] at hL; exact ints_lens hL.1
 simp only [ir51]
 (repeat ((first | refine Va ?_ | refine Vb ?_ | refine Vc ?_ | refine Vd ?_ | refine Ve ?_ | refine Vf ?_); (try simp only [go_sem,hP]); (repeat refine qJ ?_)))
 refine WV_loopS (fun k:Nat => ⟨upd (upd (upd (upd (upd (upd e0 0 (.c (ints l))) 1 (iv many)) 2 (iv most)) 9 (.c (ints l))) 10 (iv l.length)) 11 (iv k),o0⟩) (fun k => k ≤ l.length ∧ risK 1 most l k = true) (fun k => l.length - k) 0 ⟨Nat.zero_le _,rfl⟩ ?_ ?_
 ·(refine Sub_of (by simp only [go_sem]; ((repeat' (first | exact EnvLe_e0 _ _ | refine EnvLe_upd ?_ ?_)) <;> ((try simp only [upd_app,e0_app,o0_app,Nat.reduceEqDiff,reduceIte]); first | exact AWk.refl _ _ | exact AWk.int (by omega) | exact AWk.int (by rw [w64 (by omega) (by omega)]; omega) | exact AWk.grow rfl | exact AWk.nil _ | exact AWk.of (by simp [ints])))) (by simp only [go_sem]; exact ObjLe_au))
 rintro k ⟨hk,hr⟩
 (repeat ((first | refine Va ?_ | refine Vb ?_ | refine Vc ?_ | refine Vd ?_ | refine Ve ?_ | refine Vf ?_); (try simp only [go_sem,hP,ints,List.length_map]); (repeat refine qJ ?_)))
 (refine WV_cond rfl (fun h => ?_) (fun h => ?_))
 ·have hi:k < l.length:=by simpa using h
  have hw:=w64 (n:=(k:Int) + 1) (by omega) (by omega)
  have hgd:=ints_get hi
  have hs:risK 1 most l (k + 1) = (within (l.getD k 0) 1 most && (decide (k = 0) || decide (l.getD (k - 1) 0 < l.getD k 0))):=by
   conv => lhs; unfold risK
   rw [hr]; rfl
  have hfail:risK 1 most l (k + 1) = false → risB 1 most l = false:=fun h => risK_false h hi
  generalize l.getD k 0 = a at hgd hs
  have hz0:(Go.IntKind.i64.wrap (((0:Nat):Int) - 1)).toNat = 0:=rfl
  by_cases hz:k = 0
  ·subst hz
   have hd0:decide ((0:Int) < ((0:Nat):Int)) = false:=rfl
   have hs:risK 1 most l (0 + 1) = within a 1 most:=by rw [hs]; simp
   (repeat ((first | refine Va ?_ | refine Vb ?_ | refine Vc ?_ | refine Vd ?_ | refine Ve ?_ | refine Vf ?_); (try simp only [go_sem,hP,hgd,ints,List.length_map,Int.toNat_natCast,Int.ofNat_lt,hi,Int.natCast_nonneg,hd0,hz0]); (repeat refine qJ ?_)))
   (refine AS_pu (within50 a 1 most) ?_; simp only [go_sem,hP,hd0,hz0,hgd,ints,List.length_map,Int.toNat_natCast]; (repeat refine qJ ?_); (repeat ((first | refine Va ?_ | refine Vb ?_ | refine Vc ?_ | refine Vd ?_ | refine Ve ?_ | refine Vf ?_); (try simp only [go_sem,hP,hd0,hz0,hgd,ints,List.length_map,Int.toNat_natCast]); (repeat refine qJ ?_))))
   by_cases hin:within a 1 most = true
   ·rw [hin] at hs
    (refine WV_cond rfl (fun h => ?_) (fun h => ?_))
    ·simp [hin] at h
    (repeat ((first | refine Va ?_ | refine Vb ?_ | refine Vc ?_ | refine Vd ?_ | refine Ve ?_ | refine Vf ?_); (try simp only [go_sem,hP,hw]); (repeat refine qJ ?_)))
    refine ⟨0 + 1,⟨by omega,hs⟩,by omega,?_⟩
    (refine Sub_of (by simp only [go_sem]; ((repeat' (first | exact EnvLe_e0 _ _ | refine EnvLe_upd ?_ ?_)) <;> ((try simp only [upd_app,e0_app,o0_app,Nat.reduceEqDiff,reduceIte]); first | exact AWk.refl _ _ | exact AWk.int (by omega) | exact AWk.int (by rw [w64 (by omega) (by omega)]; omega) | exact AWk.grow rfl | exact AWk.nil _ | exact AWk.of (by simp [ints])))) (by simp only [go_sem]; exact ObjLe_au))
   ·have hin:within a 1 most = false:=by simpa using hin
    rw [hin] at hs
    rw [hfail hs]
    (refine WV_cond rfl (fun h => ?_) (fun h => ?_))
    ·(repeat ((first | refine Va ?_ | refine Vb ?_ | refine Vc ?_ | refine Vd ?_ | refine Ve ?_ | refine Vf ?_); (try simp only [go_sem,hP]); (repeat refine qJ ?_)))
     (refine WV_ret ?_; simp only [thenQ,inQ,RetQ,RetOk,resAll,resA]; simp only [go_sem,tupA,AV.port,AV.portL,exists_eq_left']; (first | exact AVle.of rfl | refine AVle.of ?_ | skip))
    ·simp [hin] at h
  ·have hgp:=ints_get (l:=l) (i:=k - 1) (by omega)
   generalize l.getD (k - 1) 0 = b at hgp hs
   have hd1:decide ((0:Int) < (k:Int)) = true:=by rw [decide_eq_true_eq]; omega
   have wi:=w64 (n:=(k:Int) - 1) (by omega) (by omega)
   have ei:((k:Int) - 1).toNat = k - 1:=by omega
   have hlt:(k:Int) - 1 < (l.length:Int):=by omega
   have hge:(0:Int) ≤ (k:Int) - 1:=by omega
   have hs:risK 1 most l (k + 1) = (within a 1 most && decide (b < a)):=by rw [hs]; simp [hz]
   (repeat ((first | refine Va ?_ | refine Vb ?_ | refine Vc ?_ | refine Vd ?_ | refine Ve ?_ | refine Vf ?_); (try simp only [go_sem,hP,hgd,ints,List.length_map,Int.toNat_natCast,Int.ofNat_lt,hi,Int.natCast_nonneg,hd1]); (repeat refine qJ ?_)))
   (refine AS_pu (within50 a 1 most) ?_; simp only [go_sem,hP,hd1,hgd,hgp,wi,ei,hlt,hge,ints,List.length_map,Int.toNat_natCast,Int.ofNat_lt,hi,Int.natCast_nonneg]; (repeat refine qJ ?_); (repeat ((first | refine Va ?_ | refine Vb ?_ | refine Vc ?_ | refine Vd ?_ | refine Ve ?_ | refine Vf ?_); (try simp only [go_sem,hP,hd1,hgd,hgp,wi,ei,hlt,hge,ints,List.length_map,Int.toNat_natCast,Int.ofNat_lt,hi,Int.natCast_nonneg]); (repeat refine qJ ?_))))
   by_cases hin:(within a 1 most && decide (b < a)) = true
   ·rw [hin] at hs
    rw [Bool.and_eq_true,decide_eq_true_eq] at hin
    (refine WV_cond rfl (fun h => ?_) (fun h => ?_))
    ·rw [hin.1] at h; simp at h; omega
    (repeat ((first | refine Va ?_ | refine Vb ?_ | refine Vc ?_ | refine Vd ?_ | refine Ve ?_ | refine Vf ?_); (try simp only [go_sem,hP,hw]); (repeat refine qJ ?_)))
    refine ⟨k + 1,⟨by omega,hs⟩,by omega,?_⟩
    (refine Sub_of (by simp only [go_sem]; ((repeat' (first | exact EnvLe_e0 _ _ | refine EnvLe_upd ?_ ?_)) <;> ((try simp only [upd_app,e0_app,o0_app,Nat.reduceEqDiff,reduceIte]); first | exact AWk.refl _ _ | exact AWk.int (by omega) | exact AWk.int (by rw [w64 (by omega) (by omega)]; omega) | exact AWk.grow rfl | exact AWk.nil _ | exact AWk.of (by simp [ints])))) (by simp only [go_sem]; exact ObjLe_au))
   ·have hin:(within a 1 most && decide (b < a)) = false:=by simpa using hin
    rw [hin] at hs
    rw [hfail hs]
    (refine WV_cond rfl (fun h => ?_) (fun h => ?_))
    ·(repeat ((first | refine Va ?_ | refine Vb ?_ | refine Vc ?_ | refine Vd ?_ | refine Ve ?_ | refine Vf ?_); (try simp only [go_sem,hP]); (repeat refine qJ ?_)))
     (refine WV_ret ?_; simp only [thenQ,inQ,RetQ,RetOk,resAll,resA]; simp only [go_sem,tupA,AV.port,AV.portL,exists_eq_left']; (first | exact AVle.of rfl | refine AVle.of ?_ | skip))
    ·cases h1:within a 1 most with
     | false => rw [h1] at h; simp at h
     | true => rw [h1] at h hin; simp at h hin; omega
 ·have hi:k = l.length:=by simp at h; omega
  subst hi
  unfold risB
  rw [hr]
  (repeat ((first | refine Va ?_ | refine Vb ?_ | refine Vc ?_ | refine Vd ?_ | refine Ve ?_ | refine Vf ?_); (try simp only [go_sem,hP,ints,List.length_map]); (repeat refine qJ ?_)))
  (refine WV_ret ?_; simp only [thenQ,inQ,RetQ,RetOk,resAll,resA]; simp only [go_sem,tupA,AV.port,AV.portL,exists_eq_left']; (first | exact AVle.of rfl | refine AVle.of ?_ | skip))
end Go.Proofs.Ytakplakbbidihaa

namespace Go.Proofs.Ytakplakbbidihaa
open Go Go.V
abbrev o36_0:List Ins:=[⟨some 1,.box 3 (.t 0),none,true⟩,
 ⟨some 2,.mv (.k (.c (.int .i64 0))),none,true⟩]
abbrev o36_1:List Ins:=[⟨some 3,.fa 0 (.t 1),none,true⟩,
 ⟨some 4,.ld true 1 (.t 3),none,true⟩,
 ⟨some 5,.call (.k (.fn 50 [])) [(.t 4),(.k (.c (.int .i64 1))),(.k (.c (.int .i64 200)))],none,true⟩,
 ⟨some 6,.un .not (.t 5),none,true⟩,
 ⟨some 7,.mv (.t 6),none,true⟩,
 ⟨some 8,.fa 1 (.t 1),(some (7,false)),true⟩,
 ⟨some 9,.ld true 1 (.t 8),(some (7,false)),true⟩,
 ⟨some 10,.fa 0 (.t 1),(some (7,false)),true⟩,
 ⟨some 11,.ld true 1 (.t 10),(some (7,false)),true⟩,
 ⟨some 12,.call (.k (.fn 51 [])) [(.t 9),(.k (.c (.int .i64 12))),(.t 11)],(some (7,false)),true⟩,
 ⟨some 13,.un .not (.t 12),(some (7,false)),true⟩,
 ⟨some 14,.pick (.t 7) (.k (.c (.bool true))) (.t 13),none,true⟩,
 ⟨some 15,.mv (.t 14),none,true⟩,
 ⟨some 16,.fa 2 (.t 1),(some (15,false)),true⟩,
 ⟨some 17,.ld true 1 (.t 16),(some (15,false)),true⟩,
 ⟨some 18,.call (.k (.fn 51 [])) [(.t 17),(.k (.c (.int .i64 4))),(.k (.c (.int .i64 100)))],(some (15,false)),true⟩,
 ⟨some 19,.un .not (.t 18),(some (15,false)),true⟩,
 ⟨some 20,.pick (.t 15) (.k (.c (.bool true))) (.t 19),none,true⟩]
abbrev o36_2:List Ins:=[⟨some 2,.mv (.k (.c (.int .i64 10))),none,true⟩]
abbrev v36_3:VC:=(.seq (.ops o36_2) .ret)
abbrev v36_4:VC:=(.cond (.t 20) v36_3 .skip)
abbrev o36_5:List Ins:=[⟨some 2,.mv (.k (.c (.int .i64 0))),none,true⟩]
abbrev v36_6:VC:=(.seq (.ops o36_5) .ret)
abbrev v36_7:VC:=(.seq (.seq (.ops o36_1) v36_4) v36_6)
def ir36:FC:=⟨1,21,[.t 2],(.seq (.ops o36_0) v36_7)⟩
abbrev o84_0:List Ins:=[⟨some 3,.box 3 (.t 0),none,true⟩,
 ⟨some 6,.mv (.k (.c (.int .i64 0))),none,true⟩,
 ⟨some 7,.mv (.k (.c (.int .i64 0))),none,true⟩]
abbrev o84_1:List Ins:=[⟨some 11,.mv (.t 1),none,true⟩,
 ⟨some 12,.mv (.t 2),none,true⟩,
 ⟨some 13,.bin .add (.t 11) (.t 12),none,true⟩,
 ⟨some 8,.mv (.t 13),none,true⟩]
abbrev o84_2:List Ins:=[⟨some 14,.fa 0 (.t 3),none,true⟩,
 ⟨some 15,.fa 1 (.t 14),none,true⟩,
 ⟨some 16,.ld true 1 (.t 15),none,true⟩,
 ⟨some 17,.len (.t 16),none,true⟩,
 ⟨some 18,.mv (.k (.c (.int .i64 0))),none,true⟩]
abbrev o84_3:List Ins:=[⟨some 19,.bin .lss (.t 18) (.t 17),none,true⟩]
abbrev o84_4:List Ins:=[⟨some 20,.ia 1 (.t 16) (.t 18),none,true⟩,
 ⟨some 21,.ld true 1 (.t 20),none,true⟩,
 ⟨some 10,.mv (.t 21),none,true⟩]
abbrev o84_5:List Ins:=[⟨some 22,.mv (.t 7),none,false⟩,
 ⟨some 23,.mv (.t 8),none,false⟩,
 ⟨some 24,.mv (.t 10),none,false⟩,
 ⟨some 25,.bin .sub (.t 23) (.t 24),none,false⟩,
 ⟨some 26,.fa 0 (.t 3),none,false⟩,
 ⟨some 27,.fa 0 (.t 26),none,false⟩,
 ⟨some 28,.ld true 1 (.t 27),none,false⟩,
 ⟨some 29,.bin .add (.t 25) (.t 28),none,false⟩,
 ⟨some 30,.fa 0 (.t 3),none,false⟩,
 ⟨some 31,.fa 0 (.t 30),none,false⟩,
 ⟨some 32,.ld true 1 (.t 31),none,false⟩,
 ⟨some 33,.bin .quo (.t 29) (.t 32),none,false⟩,
 ⟨some 34,.mv (.t 1),none,false⟩,
 ⟨some 35,.mv (.t 10),none,false⟩,
 ⟨some 36,.bin .sub (.t 34) (.t 35),none,false⟩,
 ⟨some 37,.fa 0 (.t 3),none,false⟩,
 ⟨some 38,.fa 0 (.t 37),none,false⟩,
 ⟨some 39,.ld true 1 (.t 38),none,false⟩,
 ⟨some 40,.bin .add (.t 36) (.t 39),none,false⟩,
 ⟨some 41,.fa 0 (.t 3),none,false⟩,
 ⟨some 42,.fa 0 (.t 41),none,false⟩,
 ⟨some 43,.ld true 1 (.t 42),none,false⟩,
 ⟨some 44,.bin .quo (.t 40) (.t 43),none,false⟩,
 ⟨some 45,.bin .sub (.t 33) (.t 44),none,false⟩,
 ⟨some 46,.bin .add (.t 22) (.t 45),none,true⟩,
 ⟨some 7,.mv (.t 46),none,true⟩]
abbrev v84_6:VC:=(.seq (.ops o84_4) (.dops o84_5))
abbrev o84_7:List Ins:=[⟨some 47,.bin .add (.t 18) (.k (.c (.int .i64 1))),none,true⟩,
 ⟨some 18,.mv (.t 47),none,true⟩]
abbrev v84_8:VC:=(.seq (.block 1 v84_6) (.ops o84_7))
abbrev v84_9:VC:=(.seq (.cond (.t 19) .skip (.exit 0)) v84_8)
abbrev v84_10:VC:=(.seq (.ops o84_3) v84_9)
-- K84_1: changed and kept: [18,7]
abbrev K84_1:List Nat:=[1,3,8,16,17]
abbrev v84_11:VC:=(.loop v84_10)
abbrev v84_12:VC:=(.block 0 v84_11)
abbrev o84_13:List Ins:=[⟨some 48,.mv (.t 8),none,true⟩,
 ⟨some 49,.fa 0 (.t 3),none,true⟩,
 ⟨some 50,.fa 0 (.t 49),none,true⟩,
 ⟨some 51,.ld true 1 (.t 50),none,true⟩,
 ⟨some 52,.bin .rem (.t 48) (.t 51),none,true⟩,
 ⟨some 53,.mv (.t 7),none,true⟩,
 ⟨some 6,.mv (.t 52),none,true⟩,
 ⟨some 7,.mv (.t 53),none,true⟩]
abbrev v84_14:VC:=(.seq (.ops o84_13) .ret)
abbrev v84_15:VC:=(.seq (.seq (.ops o84_2) v84_12) v84_14)
abbrev v84_16:VC:=(.seq (.ops o84_1) v84_15)
def ir84:FC:=⟨3,54,[.t 6,.t 7],(.seq (.ops o84_0) v84_16)⟩
abbrev o75_0:List Ins:=[⟨some 2,.box 3 (.t 0),none,true⟩,
 ⟨some 4,.mv (.k (.c (.bool false))),none,true⟩]
abbrev o75_1:List Ins:=[⟨some 5,.mv (.t 1),none,true⟩,
 ⟨some 6,.fa 0 (.t 2),none,true⟩,
 ⟨some 7,.fa 0 (.t 6),none,true⟩,
 ⟨some 8,.ld true 1 (.t 7),none,true⟩,
 ⟨some 9,.bin .sub (.t 8) (.k (.c (.int .i64 1))),none,true⟩,
 ⟨some 10,.call (.k (.fn 50 [])) [(.t 5),(.k (.c (.int .i64 0))),(.t 9)],none,true⟩,
 ⟨some 4,.mv (.t 10),none,true⟩]
abbrev v75_2:VC:=(.seq (.ops o75_1) .ret)
def ir75:FC:=⟨2,11,[.t 4],(.seq (.ops o75_0) v75_2)⟩
abbrev o83_0:List Ins:=[⟨some 2,.box 3 (.t 0),none,true⟩,
 ⟨some 4,.mv (.k (.c (.bool false))),none,true⟩]
abbrev o83_1:List Ins:=[⟨some 5,.mv (.t 1),none,true⟩,
 ⟨some 6,.fa 0 (.t 2),none,true⟩,
 ⟨some 7,.fa 2 (.t 6),none,true⟩,
 ⟨some 8,.ld true 1 (.t 7),none,true⟩,
 ⟨some 9,.len (.t 8),none,true⟩,
 ⟨some 10,.bin .sub (.t 9) (.k (.c (.int .i64 1))),none,true⟩,
 ⟨some 11,.call (.k (.fn 50 [])) [(.t 5),(.k (.c (.int .i64 0))),(.t 10)],none,true⟩,
 ⟨some 4,.mv (.t 11),none,true⟩]
abbrev v83_2:VC:=(.seq (.ops o83_1) .ret)
def ir83:FC:=⟨2,12,[.t 4],(.seq (.ops o83_0) v83_2)⟩
abbrev o77_0:List Ins:=[⟨some 2,.box 3 (.t 0),none,true⟩,
 ⟨some 4,.mv (.k (.c (.bool false))),none,true⟩]
abbrev o77_1:List Ins:=[⟨some 5,.mv (.t 1),none,true⟩,
 ⟨some 6,.bin .eql (.t 5) (.k (.c (.int .i64 (-1)))),none,true⟩,
 ⟨some 7,.mv (.t 6),none,true⟩,
 ⟨some 8,.ld false 3 (.t 2),(some (7,false)),true⟩,
 ⟨some 9,.mv (.t 1),(some (7,false)),true⟩,
 ⟨some 10,.call (.k (.fn 83 [])) [(.t 8),(.t 9)],(some (7,false)),true⟩,
 ⟨some 11,.pick (.t 7) (.k (.c (.bool true))) (.t 10),none,true⟩,
 ⟨some 4,.mv (.t 11),none,true⟩]
abbrev v77_2:VC:=(.seq (.ops o77_1) .ret)
def ir77:FC:=⟨2,12,[.t 4],(.seq (.ops o77_0) v77_2)⟩
theorem c36:compM Try.prog [] 36 = some ir36:=by kernel_rfl
theorem c84:compM Try.prog [] 84 = some ir84:=by kernel_rfl
theorem c75:compM Try.prog [] 75 = some ir75:=by kernel_rfl
theorem c83:compM Try.prog [] 83 = some ir83:=by kernel_rfl
theorem c77:compM Try.prog [] 77 = some ir77:=by kernel_rfl
attribute [local go_sem] Nat.reduceEqDiff Nat.reduceAdd Nat.reduceMul reduceIte Nat.reduceLeDiff Nat.reduceLT Nat.reduceBEq reduceCtorEq
def whB (w:Wh):Bool:=within w.ro 1 200 && (risB 1 w.ro w.no && decide ((w.no.length:Int) ≤ 12)) && (risB 1 100 w.co && decide ((w.co.length:Int) ≤ 4))
structure WhOk (w:Wh):Prop where
 ro:1 ≤ w.ro ∧ w.ro ≤ 200
 no:∀ n ∈ w.no,1 ≤ n ∧ n ≤ w.ro
 nl:w.no.length ≤ 12
 nr:(w.no.length:Int) ≤ w.ro
 co:∀ n ∈ w.co,1 ≤ n ∧ n ≤ 100
 cl:w.co.length ≤ 4
theorem whB_ok {w:Wh} (h:whB w = true):WhOk w:=by
 simp only [whB,Bool.and_eq_true,decide_eq_true_eq,within] at h
 exact ⟨h.1.1,risB_in h.1.2.1,by omega,risB_len h.1.2.1 (by omega),risB_in h.2.1,by omega⟩
def whE (w:Wh):Int:=if whB w then 0 else 10
theorem check36 (w:Wh):FSpec Try.prog 36 [w.av] (iv (whE w)):=by
 refine FSpec_of c36 (Nat.le_refl _) (by decide) fun C hP hN hC hL => ?_; rw [init_st]
 simp only [ir36,Wh.av,Wh.avs]
 (repeat ((first | refine Va ?_ | refine Vb ?_ | refine Vc ?_ | refine Vd ?_ | refine Ve ?_ | refine Vf ?_); (try simp only [go_sem,hP,Wh.avs,ints]); (repeat refine qJ ?_)))
 (refine AS_pu (within50 w.ro 1 200) ?_; simp only [go_sem,hP,ints]; (repeat refine qJ ?_); (repeat ((first | refine Va ?_ | refine Vb ?_ | refine Vc ?_ | refine Vd ?_ | refine Ve ?_ | refine Vf ?_); (try simp only [go_sem,hP,ints]); (repeat refine qJ ?_))))
 by_cases h1:within w.ro 1 200 = true
 ·simp only [go_sem,h1]
  (refine AG_pu (fun hG => rising51 w.no 12 w.ro) ?_; simp only [go_sem,hP,ints,h1]; (repeat refine qJ ?_); (repeat ((first | refine Va ?_ | refine Vb ?_ | refine Vc ?_ | refine Vd ?_ | refine Ve ?_ | refine Vf ?_); (try simp only [go_sem,hP,ints,h1]); (repeat refine qJ ?_))))
  by_cases h2:(risB 1 w.ro w.no && decide ((w.no.length:Int) ≤ 12)) = true
  ·simp only [go_sem,h2]
   (refine AG_pu (fun hG => rising51 w.co 4 100) ?_; simp only [go_sem,hP,ints,h1,h2]; (repeat refine qJ ?_); (repeat ((first | refine Va ?_ | refine Vb ?_ | refine Vc ?_ | refine Vd ?_ | refine Ve ?_ | refine Vf ?_); (try simp only [go_sem,hP,ints,h1,h2]); (repeat refine qJ ?_))))
   by_cases h3:(risB 1 100 w.co && decide ((w.co.length:Int) ≤ 4)) = true
   ·(refine WV_cond rfl (fun h => ?_) (fun h => ?_))
    ·simp [h3] at h
    ·(repeat ((first | refine Va ?_ | refine Vb ?_ | refine Vc ?_ | refine Vd ?_ | refine Ve ?_ | refine Vf ?_); (try simp only [go_sem,hP]); (repeat refine qJ ?_)))
     have:whE w = 0:=by unfold whE whB; rw [h1,h2,h3]; rfl
     rw [this]
     (refine WV_ret ?_; simp only [thenQ,inQ,RetQ,RetOk,resAll,resA]; simp only [go_sem,tupA,AV.port,AV.portL,exists_eq_left']; (first | exact AVle.of rfl | refine AVle.of ?_ | skip))
   ·have h3:(risB 1 100 w.co && decide ((w.co.length:Int) ≤ 4)) = false:=by simpa using h3
    have:whE w = 10:=by unfold whE whB; rw [h1,h2,h3]; rfl
    rw [this]
    (refine WV_cond rfl (fun h => ?_) (fun h => ?_))
    ·(repeat ((first | refine Va ?_ | refine Vb ?_ | refine Vc ?_ | refine Vd ?_ | refine Ve ?_ | refine Vf ?_); (try simp only [go_sem,hP]); (repeat refine qJ ?_)))
     (refine WV_ret ?_; simp only [thenQ,inQ,RetQ,RetOk,resAll,resA]; simp only [go_sem,tupA,AV.port,AV.portL,exists_eq_left']; (first | exact AVle.of rfl | refine AVle.of ?_ | skip))
    ·simp [h3] at h
  ·have h2:(risB 1 w.ro w.no && decide ((w.no.length:Int) ≤ 12)) = false:=by simpa using h2
   have:whE w = 10:=by unfold whE whB; rw [h1,h2]; rfl
   rw [this]
   simp only [go_sem,h2]
   (refine AG_skip ?_; simp only [go_sem,hP]; (repeat refine qJ ?_); (repeat ((first | refine Va ?_ | refine Vb ?_ | refine Vc ?_ | refine Vd ?_ | refine Ve ?_ | refine Vf ?_); (try simp only [go_sem,hP]); (repeat refine qJ ?_))))
   (refine WV_cond rfl (fun h => ?_) (fun h => ?_))
   ·(repeat ((first | refine Va ?_ | refine Vb ?_ | refine Vc ?_ | refine Vd ?_ | refine Ve ?_ | refine Vf ?_); (try simp only [go_sem,hP]); (repeat refine qJ ?_)))
    (refine WV_ret ?_; simp only [thenQ,inQ,RetQ,RetOk,resAll,resA]; simp only [go_sem,tupA,AV.port,AV.portL,exists_eq_left']; (first | exact AVle.of rfl | refine AVle.of ?_ | skip))
   ·simp at h
 ·have h1:within w.ro 1 200 = false:=by simpa using h1
  have:whE w = 10:=by unfold whE whB; rw [h1]; rfl
  rw [this]
  simp only [go_sem,h1]
  (refine AG_skip ?_; simp only [go_sem,hP]; (repeat refine qJ ?_); (repeat ((first | refine Va ?_ | refine Vb ?_ | refine Vc ?_ | refine Vd ?_ | refine Ve ?_ | refine Vf ?_); (try simp only [go_sem,hP]); (repeat refine qJ ?_))))
  (refine AG_skip ?_; simp only [go_sem,hP]; (repeat refine qJ ?_); (repeat ((first | refine Va ?_ | refine Vb ?_ | refine Vc ?_ | refine Vd ?_ | refine Ve ?_ | refine Vf ?_); (try simp only [go_sem,hP]); (repeat refine qJ ?_))))
  (refine WV_cond rfl (fun h => ?_) (fun h => ?_))
  ·(repeat ((first | refine Va ?_ | refine Vb ?_ | refine Vc ?_ | refine Vd ?_ | refine Ve ?_ | refine Vf ?_); (try simp only [go_sem,hP]); (repeat refine qJ ?_)))
   (refine WV_ret ?_; simp only [thenQ,inQ,RetQ,RetOk,resAll,resA]; simp only [go_sem,tupA,AV.port,AV.portL,exists_eq_left']; (first | exact AVle.of rfl | refine AVle.of ?_ | skip))
  ·simp at h
def hits (r p c n:Int):Int:=(p + c - n + r) / r - (p - n + r) / r
def plK (w:Wh) (p c:Int) (k:Nat):Int:=((w.no.take k).map (hits w.ro p c)).sum
def plays (w:Wh) (p c:Int):Int:=(w.no.map (hits w.ro p c)).sum
theorem hits_ok {r p c n:Int} (hr:1 ≤ r) (hc:0 ≤ c):0 ≤ hits r p c n ∧ hits r p c n ≤ c / r + 1:=by
 unfold hits
 have h1:(p - n + r) / r ≤ (p + c - n + r) / r:=Int.ediv_le_ediv (by omega) (by omega)
 refine ⟨by omega,?_⟩
 have h2:=Int.lt_ediv_add_one_mul_self (p - n + r) (b:=r) (by omega)
 have h3:=Int.lt_ediv_add_one_mul_self c (b:=r) (by omega)
 have h4:(p + c - n + r) / r < (p - n + r) / r + c / r + 2:=by
  refine Int.ediv_lt_of_lt_mul (by omega) ?_
  rw [Int.add_mul] at h2 h3
  rw [Int.add_mul,Int.add_mul]
  omega
 omega
theorem sum_hits {r p c:Int} (hr:1 ≤ r) (hc:0 ≤ c):∀ l:List Int,0 ≤ (l.map (hits r p c)).sum ∧ (l.map (hits r p c)).sum ≤ l.length * (c / r + 1)
 | [] => by simp
 | n :: l => by
  have h1:=hits_ok (p:=p) (n:=n) hr hc
  have h2:=sum_hits (p:=p) hr hc l
  simp only [List.map_cons,List.sum_cons,List.length_cons,Int.natCast_add,Int.natCast_one,Int.add_mul,Int.one_mul]
  omega
theorem plK_ok {w:Wh} (hw:WhOk w) {p c:Int} (hc:0 ≤ c) (k:Nat):0 ≤ plK w p c k ∧ plK w p c k ≤ c + 12:=by
 have h1:=sum_hits (p:=p) hw.ro.1 hc (w.no.take k)
 refine ⟨h1.1,Int.le_trans h1.2 ?_⟩
 have hl:((w.no.take k).length:Int) ≤ w.no.length:=by rw [List.length_take]; omega
 have h0:0 ≤ c / w.ro:=Int.ediv_nonneg hc (by have:=hw.ro; omega)
 have h2:((w.no.take k).length:Int) * (c / w.ro) ≤ w.ro * (c / w.ro):=Int.mul_le_mul_of_nonneg_right (by have:=hw.nr; omega) h0
 have h3:w.ro * (c / w.ro) ≤ c:=by have:=Int.mul_ediv_add_emod c w.ro; have:=Int.emod_nonneg c (b:=w.ro) (by have:=hw.ro; omega); omega
 have:=hw.nl
 rw [Int.mul_add,Int.mul_one]
 omega
theorem plays_K (w:Wh) (p c:Int):plays w p c = plK w p c w.no.length:=by unfold plays plK; rw [List.take_length]
theorem plays_ok {w:Wh} (hw:WhOk w) {p c:Int} (hc:0 ≤ c):0 ≤ plays w p c ∧ plays w p c ≤ c + 12:=by rw [plays_K]; exact plK_ok hw hc _
theorem plK_succ {w:Wh} {p c:Int} {k:Nat} (h:k < w.no.length):plK w p c (k + 1) = plK w p c k + hits w.ro p c (w.no.getD k 0):=by
 unfold plK
 rw [List.take_succ_eq_append_getElem h,List.map_append,List.sum_append,List.getD_eq_getElem?_getD,List.getElem?_eq_getElem h]
 simp
theorem tdv {a r:Int} (h:0 ≤ a):a.tdiv r = a / r:=Int.tdiv_eq_ediv_of_nonneg h
set_option maxHeartbeats 8000000 in
theorem turn84 {w:Wh} (hw:WhOk w) {p c:Int} (hp:0 ≤ p ∧ p < w.ro) (hc:0 ≤ c ∧ c ≤ 100000):FSpec Try.prog 84 [w.av,iv p,iv c] (.tup [iv ((p + c) % w.ro),iv (plays w p c)]):=by
 have hro:=hw.ro
 have hl:=hw.nl
 have w1:=w64 (n:=p + c) (by omega) (by omega)
 refine FSpec_of c84 (Nat.le_refl _) (by decide) fun C hP hN hC hL => ?_; rw [init_st]
 simp only [ir84,Wh.av,Wh.avs]
 (repeat ((first | refine Va ?_ | refine Vb ?_ | refine Vc ?_ | refine Vd ?_ | refine Ve ?_ | refine Vf ?_); (try simp only [go_sem,hP,Wh.avs,ints,w1]); (repeat refine qJ ?_)))
 (refine WV_loopK K84_1 [] (fun k:Nat => k ≤ w.no.length) (fun k => w.no.length - k) (fun k => [(18,iv k),(7,iv (plK w p c k))]) (fun _ => []) 0 (Nat.zero_le _) ?_ ?_)
 ·(refine Sub_of (by simp only [go_sem]; ((repeat' (first | exact EnvLe_e0 _ _ | refine EnvLe_upd ?_ ?_)) <;> ((try simp only [upd_app,e0_app,o0_app,Nat.reduceEqDiff,reduceIte]); first | exact AWk.refl _ _ | exact AWk.int (by omega) | exact AWk.int (by rw [w64 (by omega) (by omega)]; omega) | exact AWk.grow rfl | exact AWk.nil _ | exact AWk.of (by simp [plK])))) (by simp only [go_sem]; exact ObjLe_au))
 ·intro k hk
  (repeat ((first | refine Va ?_ | refine Vb ?_ | refine Vc ?_ | refine Vd ?_ | refine Ve ?_ | refine Vf ?_); (try simp only [go_sem,hP]); (repeat refine qJ ?_)))
  (refine WV_cond rfl (fun h => ?_) (fun h => ?_))
  ·have hi:k < w.no.length:=by simpa using h
   have hgd:=ints_get hi
   have hs:=plK_succ (p:=p) (c:=c) hi
   have hb1:=plK_ok hw (p:=p) hc.1 k
   have hb2:=plK_ok hw (p:=p) hc.1 (k + 1)
   have hn:=hw.no (w.no.getD k 0) (by rw [List.getD_eq_getElem?_getD,List.getElem?_eq_getElem hi]; exact List.getElem_mem _)
   generalize w.no.getD k 0 = n at hgd hs hn
   have hh:=hits_ok (p:=p) (n:=n) hro.1 hc.1
   have w2:=w64 (n:=p + c - n) (by omega) (by omega)
   have w3:=w64 (n:=p + c - n + w.ro) (by omega) (by omega)
   have w4:=w64 (n:=p - n) (by omega) (by omega)
   have w5:=w64 (n:=p - n + w.ro) (by omega) (by omega)
   have t1:=tdv (a:=p + c - n + w.ro) (r:=w.ro) (by omega)
   have t2:=tdv (a:=p - n + w.ro) (r:=w.ro) (by omega)
   have q1:0 ≤ (p + c - n + w.ro) / w.ro ∧ (p + c - n + w.ro) / w.ro ≤ p + c - n + w.ro:=⟨Int.ediv_nonneg (by omega) (by omega),Int.ediv_le_self _ (by omega)⟩
   have q2:0 ≤ (p - n + w.ro) / w.ro ∧ (p - n + w.ro) / w.ro ≤ p - n + w.ro:=⟨Int.ediv_nonneg (by omega) (by omega),Int.ediv_le_self _ (by omega)⟩
   have w6:=w64 (n:=(p + c - n + w.ro) / w.ro) (by omega) (by omega)
   have w7:=w64 (n:=(p - n + w.ro) / w.ro) (by omega) (by omega)
   have w8:IntKind.i64.wrap ((p + c - n + w.ro) / w.ro - (p - n + w.ro) / w.ro) = hits w.ro p c n:=w64 (by omega) (by omega)
   have w9:IntKind.i64.wrap (plK w p c k + hits w.ro p c n) = plK w p c (k + 1):=by rw [hs]; exact w64 (by omega) (by omega)
   have w10:=w64 (n:=(k:Int) + 1) (by omega) (by omega)
   have hz:w.ro ≠ 0:=by omega
   (repeat ((first | refine Va ?_ | refine Vb ?_ | refine Vc ?_ | refine Vd ?_ | refine Ve ?_ | refine Vf ?_); (try simp only [go_sem,hP,hgd,ints,List.length_map,Int.toNat_natCast,Int.ofNat_lt,hi,Int.natCast_nonneg,w1,w2,w3,w4,w5,t1,t2,w6,w7,w8,w9,w10,hz]); (repeat refine qJ ?_)))
   refine ⟨k + 1,by omega,by omega,?_⟩
   exact Sub_au
  ·have hi:k = w.no.length:=by simp at h; omega
   subst hi
   have hz:w.ro ≠ 0:=by omega
   have m1:(p + c).tmod w.ro = (p + c) % w.ro:=Int.tmod_eq_emod_of_nonneg (by omega)
   have w2:=w64 (n:=(p + c) % w.ro) (by have:=Int.emod_nonneg (p + c) hz; omega) (by have:=Int.emod_lt_of_pos (p + c) (b:=w.ro) (by omega); omega)
   (repeat ((first | refine Va ?_ | refine Vb ?_ | refine Vc ?_ | refine Vd ?_ | refine Ve ?_ | refine Vf ?_); (try simp only [go_sem,hP,m1,w2,hz]); (repeat refine qJ ?_)))
   rw [plays_K]
   (refine WV_ret ?_; simp only [thenQ,inQ,RetQ,RetOk,resAll,resA]; simp only [go_sem,tupA,AV.port,AV.portL,exists_eq_left']; (first | exact AVle.of rfl | refine AVle.of ?_ | skip))
theorem isPlace75 {w:Wh} (hw:WhOk w) (p:Int):FSpec Try.prog 75 [w.av,iv p] (.c (.bool (within p 0 (w.ro - 1)))):=by
 have hro:=hw.ro
 have w1:=w64 (n:=w.ro - 1) (by omega) (by omega)
 refine FSpec_of c75 (Nat.le_refl _) (by decide) fun C hP hN hC hL => ?_; rw [init_st]
 simp only [ir75,Wh.av,Wh.avs]
 (repeat ((first | refine Va ?_ | refine Vb ?_ | refine Vc ?_ | refine Vd ?_ | refine Ve ?_ | refine Vf ?_); (try simp only [go_sem,hP,Wh.avs,ints,w1]); (repeat refine qJ ?_)))
 (refine AS_pu (within50 p 0 (w.ro - 1)) ?_; simp only [go_sem,hP]; (repeat refine qJ ?_); (repeat ((first | refine Va ?_ | refine Vb ?_ | refine Vc ?_ | refine Vd ?_ | refine Ve ?_ | refine Vf ?_); (try simp only [go_sem,hP]); (repeat refine qJ ?_))))
 (refine WV_ret ?_; simp only [thenQ,inQ,RetQ,RetOk,resAll,resA]; simp only [go_sem,tupA,AV.port,AV.portL,exists_eq_left']; (first | exact AVle.of rfl | refine AVle.of ?_ | skip))
theorem isKind83 {w:Wh} (hw:WhOk w) (n:Int):FSpec Try.prog 83 [w.av,iv n] (.c (.bool (within n 0 (w.co.length - 1)))):=by
 have hcl:=hw.cl
 have w1:=w64 (n:=(w.co.length:Int) - 1) (by omega) (by omega)
 refine FSpec_of c83 (Nat.le_refl _) (by decide) fun C hP hN hC hL => ?_; rw [init_st]
 simp only [ir83,Wh.av,Wh.avs]
 (repeat ((first | refine Va ?_ | refine Vb ?_ | refine Vc ?_ | refine Vd ?_ | refine Ve ?_ | refine Vf ?_); (try simp only [go_sem,hP,Wh.avs,ints,w1,List.length_map]); (repeat refine qJ ?_)))
 (refine AS_pu (within50 n 0 (w.co.length - 1)) ?_; simp only [go_sem,hP,w1]; (repeat refine qJ ?_); (repeat ((first | refine Va ?_ | refine Vb ?_ | refine Vc ?_ | refine Vd ?_ | refine Ve ?_ | refine Vf ?_); (try simp only [go_sem,hP,w1]); (repeat refine qJ ?_))))
 (refine WV_ret ?_; simp only [thenQ,inQ,RetQ,RetOk,resAll,resA]; simp only [go_sem,tupA,AV.port,AV.portL,exists_eq_left']; (first | exact AVle.of rfl | refine AVle.of ?_ | skip))
def actB (w:Wh) (n:Int):Bool:=(n == -1) || within n 0 (w.co.length - 1)
theorem isAct77 {w:Wh} (hw:WhOk w) (n:Int):FSpec Try.prog 77 [w.av,iv n] (.c (.bool (actB w n))):=by
 have hcl:=hw.cl
 refine FSpec_of c77 (Nat.le_refl _) (by decide) fun C hP hN hC hL => ?_; rw [init_st]
 simp only [ir77,Wh.av,Wh.avs]
 (repeat ((first | refine Va ?_ | refine Vb ?_ | refine Vc ?_ | refine Vd ?_ | refine Ve ?_ | refine Vf ?_); (try simp only [go_sem,hP,Wh.avs,ints]); (repeat refine qJ ?_)))
 by_cases h1:n = -1
 ·subst h1
  have hb:((-1:Int) == -1) = true:=rfl
  (repeat ((first | refine Va ?_ | refine Vb ?_ | refine Vc ?_ | refine Vd ?_ | refine Ve ?_ | refine Vf ?_); (try simp only [go_sem,hP,hb]); (repeat refine qJ ?_)))
  (refine AG_skip ?_; simp only [go_sem,hP]; (repeat refine qJ ?_); (repeat ((first | refine Va ?_ | refine Vb ?_ | refine Vc ?_ | refine Vd ?_ | refine Ve ?_ | refine Vf ?_); (try simp only [go_sem,hP]); (repeat refine qJ ?_))))
  (refine WV_ret ?_; simp only [thenQ,inQ,RetQ,RetOk,resAll,resA]; simp only [go_sem,tupA,AV.port,AV.portL,exists_eq_left',actB,hb]; (first | exact AVle.of rfl | refine AVle.of ?_ | skip))
 ·have hb:(n == -1) = false:=by simpa using h1
  simp only [go_sem,hb]
  (refine AG_pu (fun hG => isKind83 hw n) ?_; simp only [go_sem,hP,Wh.av,Wh.avs,ints,hb]; (repeat refine qJ ?_); (repeat ((first | refine Va ?_ | refine Vb ?_ | refine Vc ?_ | refine Vd ?_ | refine Ve ?_ | refine Vf ?_); (try simp only [go_sem,hP,Wh.av,Wh.avs,ints,hb]); (repeat refine qJ ?_))))
  (refine WV_ret ?_; simp only [thenQ,inQ,RetQ,RetOk,resAll,resA]; simp only [go_sem,tupA,AV.port,AV.portL,exists_eq_left',actB,hb,Bool.false_or]; (first | exact AVle.of rfl | refine AVle.of ?_ | skip))
end Go.Proofs.Ytakplakbbidihaa

namespace Go.Proofs.Ytakplakbbidihaa
open Go Go.V
abbrev o78_0:List Ins:=[⟨some 3,.box 3 (.t 0),none,true⟩,
 ⟨some 4,.box 2 (.t 1),none,true⟩,
 ⟨some 6,.alloc [(.c (.int .i64 0)),(.c (.int .i64 0))],none,true⟩]
abbrev o78_1:List Ins:=[⟨some 10,.mv (.t 2),none,true⟩,
 ⟨some 11,.bin .neq (.t 10) (.k (.c (.int .i64 (-1)))),none,true⟩,
 ⟨some 9,.mv (.t 11),none,true⟩]
abbrev o78_2:List Ins:=[⟨some 13,.ld false 3 (.t 3),none,false⟩,
 ⟨some 14,.fa 0 (.t 4),none,false⟩,
 ⟨some 15,.ld true 1 (.t 14),none,false⟩,
 ⟨some 16,.fa 0 (.t 3),none,false⟩,
 ⟨some 17,.fa 2 (.t 16),none,false⟩,
 ⟨some 18,.ld true 1 (.t 17),none,false⟩,
 ⟨some 19,.mv (.t 2),none,false⟩,
 ⟨some 20,.ia 1 (.t 18) (.t 19),none,false⟩,
 ⟨some 21,.ld true 1 (.t 20),none,false⟩,
 ⟨some 22,.call (.k (.fn 84 [])) [(.t 13),(.t 15),(.t 21)],none,true⟩,
 ⟨some 12,.mv (.t 22),none,true⟩,
 ⟨some 23,.ext (.t 12) 0,none,false⟩,
 ⟨some 24,.ext (.t 12) 1,none,false⟩,
 ⟨some 7,.mv (.t 23),none,false⟩,
 ⟨some 8,.mv (.t 24),none,true⟩]
abbrev o78_3:List Ins:=[⟨some 25,.mv (.t 7),none,true⟩,
 ⟨some 26,.fa 1 (.t 4),none,true⟩,
 ⟨some 27,.ld true 1 (.t 26),none,true⟩,
 ⟨some 28,.mv (.t 8),none,true⟩,
 ⟨some 29,.bin .add (.t 27) (.t 28),none,true⟩,
 ⟨some 30,.bld [(.c (.int .i64 0)),(.c (.int .i64 0))] [(0,1,(.t 25)),(1,1,(.t 29))],none,true⟩,
 ⟨none,.st 2 (.t 6) (.t 30),none,true⟩]
abbrev v78_4:VC:=(.seq (.ops o78_3) .ret)
abbrev v78_5:VC:=(.seq (.dops o78_2) v78_4)
abbrev o78_6:List Ins:=[⟨some 32,.fa 1 (.t 4),none,true⟩,
 ⟨some 33,.ld true 1 (.t 32),none,true⟩,
 ⟨some 34,.bin .gtr (.t 33) (.k (.c (.int .i64 0))),none,true⟩,
 ⟨some 31,.mv (.t 34),none,true⟩]
abbrev o78_7:List Ins:=[⟨some 35,.fa 1 (.t 4),none,true⟩,
 ⟨some 36,.ld true 1 (.t 35),none,true⟩,
 ⟨some 37,.bin .sub (.t 36) (.k (.c (.int .i64 1))),none,true⟩,
 ⟨some 38,.bld [(.c (.int .i64 0)),(.c (.int .i64 0))] [(1,1,(.t 37))],none,true⟩,
 ⟨none,.st 2 (.t 6) (.t 38),none,true⟩]
abbrev v78_8:VC:=(.seq (.ops o78_7) .ret)
abbrev v78_9:VC:=(.cond (.t 31) v78_8 .skip)
abbrev v78_10:VC:=(.seq (.ops o78_6) v78_9)
abbrev v78_11:VC:=(.cond (.t 9) v78_5 v78_10)
abbrev v78_12:VC:=(.seq (.ops o78_1) v78_11)
abbrev o78_13:List Ins:=[⟨some 39,.ld false 2 (.t 4),none,true⟩,
 ⟨none,.st 2 (.t 6) (.t 39),none,true⟩]
abbrev v78_14:VC:=(.seq (.ops o78_13) .ret)
abbrev v78_15:VC:=(.seq (.block 0 v78_12) v78_14)
def ir78:FC:=⟨3,40,[.cell 6 false 2],(.seq (.ops o78_0) v78_15)⟩
abbrev o52_0:List Ins:=[⟨some 4,.mv (.k (.c (.int .i64 0))),none,true⟩]
abbrev o52_1:List Ins:=[⟨some 6,.mv (.t 0),none,true⟩,
 ⟨some 7,.len (.t 6),none,true⟩,
 ⟨some 8,.mv (.k (.c (.int .i64 0))),none,true⟩]
abbrev o52_2:List Ins:=[⟨some 9,.bin .lss (.t 8) (.t 7),none,true⟩]
abbrev o52_3:List Ins:=[⟨some 10,.mv (.t 8),none,true⟩,
 ⟨some 5,.mv (.t 10),none,true⟩]
abbrev o52_4:List Ins:=[⟨some 11,.mv (.t 1),none,true⟩,
 ⟨some 12,.mv (.t 0),none,true⟩,
 ⟨some 13,.mv (.t 5),none,true⟩,
 ⟨some 14,.ia 1 (.t 12) (.t 13),none,true⟩,
 ⟨some 15,.ld true 1 (.t 14),none,true⟩,
 ⟨some 16,.call (.t 11) [(.t 15)],none,true⟩]
abbrev o52_5:List Ins:=[⟨some 17,.mv (.t 5),none,true⟩,
 ⟨some 4,.mv (.t 17),none,true⟩]
abbrev v52_6:VC:=(.seq (.ops o52_5) .ret)
abbrev v52_7:VC:=(.cond (.t 16) v52_6 .skip)
abbrev v52_8:VC:=(.seq (.ops o52_4) v52_7)
abbrev v52_9:VC:=(.seq (.ops o52_3) v52_8)
abbrev o52_10:List Ins:=[⟨some 18,.bin .add (.t 8) (.k (.c (.int .i64 1))),none,true⟩,
 ⟨some 8,.mv (.t 18),none,true⟩]
abbrev v52_11:VC:=(.seq (.block 1 v52_9) (.ops o52_10))
abbrev v52_12:VC:=(.seq (.cond (.t 9) .skip (.exit 0)) v52_11)
abbrev v52_13:VC:=(.seq (.ops o52_2) v52_12)
-- K52_1: changed and kept: [8]
abbrev K52_1:List Nat:=[0,1,7]
abbrev v52_14:VC:=(.loop v52_13)
abbrev v52_15:VC:=(.block 0 v52_14)
abbrev o52_16:List Ins:=[⟨some 4,.mv (.k (.c (.int .i64 (-1)))),none,true⟩]
abbrev v52_17:VC:=(.seq (.ops o52_16) .ret)
abbrev v52_18:VC:=(.seq (.seq (.ops o52_1) v52_15) v52_17)
def ir52:FC:=⟨2,19,[.t 4],(.seq (.ops o52_0) v52_18)⟩
abbrev o38_0:List Ins:=[⟨some 4,.mv (.k (.c (.bool false))),none,true⟩]
abbrev o38_1:List Ins:=[⟨some 5,.mv (.t 0),none,true⟩,
 ⟨some 6,.mv (.t 1),none,true⟩,
 ⟨some 7,.call (.k (.fn 52 [])) [(.t 5),(.t 6)],none,true⟩,
 ⟨some 8,.bin .geq (.t 7) (.k (.c (.int .i64 0))),none,true⟩,
 ⟨some 4,.mv (.t 8),none,true⟩]
abbrev v38_2:VC:=(.seq (.ops o38_1) .ret)
def ir38:FC:=⟨2,9,[.t 4],(.seq (.ops o38_0) v38_2)⟩
theorem c78:compM Try.prog [] 78 = some ir78:=by kernel_rfl
theorem c52:compM Try.prog [] 52 = some ir52:=by kernel_rfl
theorem c38:compM Try.prog [] 38 = some ir38:=by kernel_rfl
attribute [local go_sem] Nat.reduceEqDiff Nat.reduceAdd Nat.reduceMul reduceIte Nat.reduceLeDiff Nat.reduceLT Nat.reduceBEq reduceCtorEq
def actP (w:Wh) (pl cr a:Int):Int × Int:=if a = -1 then (if 0 < cr then (0,cr - 1) else (pl,cr)) else ((pl + w.co.getD a.toNat 0) % w.ro,cr + plays w pl (w.co.getD a.toNat 0))
theorem co_at {w:Wh} (hw:WhOk w) {a:Int} (h:0 ≤ a ∧ a ≤ w.co.length - 1):1 ≤ w.co.getD a.toNat 0 ∧ w.co.getD a.toNat 0 ≤ 100:=by
 have hi:a.toNat < w.co.length:=by omega
 exact hw.co _ (by rw [List.getD_eq_getElem?_getD,List.getElem?_eq_getElem hi]; exact List.getElem_mem _)
set_option maxHeartbeats 8000000 in
theorem act78 {w:Wh} (hw:WhOk w) {pl cr a:Int} (hp:0 ≤ pl ∧ pl < w.ro) (hc:0 ≤ cr ∧ cr ≤ 1000000) (ha:actB w a = true):FSpec Try.prog 78 [w.av,.agg [iv pl,iv cr],iv a] (.agg [iv (actP w pl cr a).1,iv (actP w pl cr a).2]):=by
 have hcl:=hw.cl
 refine FSpec_of c78 (Nat.le_refl _) (by decide) fun C hP hN hC hL => ?_; rw [init_st]
 simp only [ir78,Wh.av,Wh.avs]
 (repeat ((first | refine Va ?_ | refine Vb ?_ | refine Vc ?_ | refine Vd ?_ | refine Ve ?_ | refine Vf ?_); (try simp only [go_sem,hP,Wh.avs,ints]); (repeat refine qJ ?_)))
 by_cases h1:a = -1
 ·subst h1
  have hb:((-1:Int) != -1) = false:=rfl
  simp only [go_sem,hb]
  (refine WV_cond rfl (fun h => ?_) (fun h => ?_))
  ·simp at h
  ·(repeat ((first | refine Va ?_ | refine Vb ?_ | refine Vc ?_ | refine Vd ?_ | refine Ve ?_ | refine Vf ?_); (try simp only [go_sem,hP,hb]); (repeat refine qJ ?_)))
   by_cases h2:0 < cr
   ·have w1:=w64 (n:=cr - 1) (by omega) (by omega)
    (refine WV_cond rfl (fun h => ?_) (fun h => ?_))
    ·(repeat ((first | refine Va ?_ | refine Vb ?_ | refine Vc ?_ | refine Vd ?_ | refine Ve ?_ | refine Vf ?_); (try simp only [go_sem,hP,w1]); (repeat refine qJ ?_)))
     (refine WV_ret ?_; simp only [thenQ,inQ,RetQ,RetOk,resAll,resA]; simp only [go_sem,tupA,AV.port,AV.portL,exists_eq_left',actP,h2,if_true]; (first | exact AVle.of rfl | refine AVle.of ?_ | skip))
    ·simp at h; omega
   ·(refine WV_cond rfl (fun h => ?_) (fun h => ?_))
    ·simp at h; omega
    ·(repeat ((first | refine Va ?_ | refine Vb ?_ | refine Vc ?_ | refine Vd ?_ | refine Ve ?_ | refine Vf ?_); (try simp only [go_sem,hP]); (repeat refine qJ ?_)))
     (refine WV_ret ?_; simp only [thenQ,inQ,RetQ,RetOk,resAll,resA]; simp only [go_sem,tupA,AV.port,AV.portL,exists_eq_left',actP,h2,if_true,if_false]; (first | exact AVle.of rfl | refine AVle.of ?_ | skip))
 ·have hk:0 ≤ a ∧ a ≤ w.co.length - 1:=by
   simp only [actB,Bool.or_eq_true,within,Bool.and_eq_true,decide_eq_true_eq,beq_iff_eq] at ha
   rcases ha with h | h
   ·exact absurd h h1
   ·exact h
  have hb:(a != -1) = true:=by simpa using h1
  have hi:a.toNat < w.co.length:=by omega
  have hi2:a < (w.co.length:Int):=by omega
  have hgd:=ints_get hi
  have hco:=co_at hw hk
  have hb1:=plays_ok hw (p:=pl) (c:=w.co.getD a.toNat 0) (by omega)
  have e1:actP w pl cr a = ((pl + w.co.getD a.toNat 0) % w.ro,cr + plays w pl (w.co.getD a.toNat 0)):=by unfold actP; rw [if_neg h1]
  have w1:=w64 (n:=cr + plays w pl (w.co.getD a.toNat 0)) (by omega) (by omega)
  rw [e1]
  generalize w.co.getD a.toNat 0 = c at *
  simp only [go_sem,hb]
  (refine WV_cond rfl (fun h => ?_) (fun h => ?_))
  ·(repeat ((first | refine Va ?_ | refine Vb ?_ | refine Vc ?_ | refine Vd ?_ | refine Ve ?_ | refine Vf ?_); (try simp only [go_sem,hP,hgd,ints,List.length_map,hi2,hk.1]); (repeat refine qJ ?_)))
   (refine AS_pu (turn84 hw hp (by omega:0 ≤ c ∧ c ≤ 100000)) ?_; simp only [go_sem,hP,Wh.av,Wh.avs,ints,w1]; (repeat refine qJ ?_); (repeat ((first | refine Va ?_ | refine Vb ?_ | refine Vc ?_ | refine Vd ?_ | refine Ve ?_ | refine Vf ?_); (try simp only [go_sem,hP,Wh.av,Wh.avs,ints,w1]); (repeat refine qJ ?_))))
   (refine WV_ret ?_; simp only [thenQ,inQ,RetQ,RetOk,resAll,resA]; simp only [go_sem,tupA,AV.port,AV.portL,exists_eq_left']; (first | exact AVle.of rfl | refine AVle.of ?_ | skip))
  ·simp at h
def idxP (p:Int → Bool) (l:List Int):Int:=match l.findIdx? p with | some i => i | none => -1
theorem idxP_ge (p:Int → Bool) (l:List Int):decide (idxP p l ≥ 0) = l.any p:=by
 unfold idxP
 cases h:l.findIdx? p with
 | none =>
  rw [List.findIdx?_eq_none_iff] at h
  have:l.any p = false:=by rw [List.any_eq_false]; intro x hx; simp [h x hx]
  rw [this]; rfl
 | some i =>
  obtain ⟨hi,h1,_⟩:=List.findIdx?_eq_some_iff_getElem.1 h
  have:l.any p = true:=by rw [List.any_eq_true]; exact ⟨_,List.getElem_mem hi,h1⟩
  rw [this]; simp
theorem getD_at {l:List Int} {k:Nat} (h:k < l.length):l.getD k 0 = l[k]:=by rw [List.getD_eq_getElem?_getD,List.getElem?_eq_getElem h]; rfl
set_option maxHeartbeats 8000000 in
theorem index52 (l:List Int) (f:FuncId) (p:Int → Bool) (hf:∀ n ∈ l,FSpec Try.prog f [iv n] (.c (.bool (p n)))):FSpec Try.prog 52 [.c (ints l),.fn f []] (iv (idxP p l)):=by
 refine FSpec_of c52 (Nat.le_refl _) (by decide) fun C hP hN hC hL => ?_; rw [init_st]
 have hl:l.length ≤ 9223372036854775807:=by simp only [AV.lensL,AV.lens] at hL; exact ints_lens hL.1
 simp only [ir52]
 (repeat ((first | refine Va ?_ | refine Vb ?_ | refine Vc ?_ | refine Vd ?_ | refine Ve ?_ | refine Vf ?_); (try simp only [go_sem,hP,ints,List.length_map]); (repeat refine qJ ?_)))
 refine WV_loopS (fun k:Nat => ⟨upd (upd (upd (upd e0 0 (.c (ints l))) 1 (.fn f [])) 7 (iv l.length)) 8 (iv k),o0⟩) (fun k => k ≤ l.length ∧ ∀ i (h:i < l.length),i < k → p l[i] = false) (fun k => l.length - k) 0 ⟨Nat.zero_le _,fun _ _ h => by omega⟩ ?_ ?_
 ·(refine Sub_of (by simp only [go_sem]; ((repeat' (first | exact EnvLe_e0 _ _ | refine EnvLe_upd ?_ ?_)) <;> ((try simp only [upd_app,e0_app,o0_app,Nat.reduceEqDiff,reduceIte]); first | exact AWk.refl _ _ | exact AWk.int (by omega) | exact AWk.int (by rw [w64 (by omega) (by omega)]; omega) | exact AWk.grow rfl | exact AWk.nil _ | exact AWk.of (by simp [ints])))) (by simp only [go_sem]; exact ObjLe_au))
 rintro k ⟨hk,hr⟩
 (repeat ((first | refine Va ?_ | refine Vb ?_ | refine Vc ?_ | refine Vd ?_ | refine Ve ?_ | refine Vf ?_); (try simp only [go_sem,hP]); (repeat refine qJ ?_)))
 (refine WV_cond rfl (fun h => ?_) (fun h => ?_))
 ·have hi:k < l.length:=by simpa using h
  have hw:=w64 (n:=(k:Int) + 1) (by omega) (by omega)
  have hgd:=ints_get hi
  rw [getD_at hi] at hgd
  (repeat ((first | refine Va ?_ | refine Vb ?_ | refine Vc ?_ | refine Vd ?_ | refine Ve ?_ | refine Vf ?_); (try simp only [go_sem,hP,hgd,ints,List.length_map,Int.toNat_natCast,Int.ofNat_lt,hi,Int.natCast_nonneg]); (repeat refine qJ ?_)))
  (refine AS_pu (hf l[k] (List.getElem_mem hi)) ?_; simp only [go_sem,hP]; (repeat refine qJ ?_); (repeat ((first | refine Va ?_ | refine Vb ?_ | refine Vc ?_ | refine Vd ?_ | refine Ve ?_ | refine Vf ?_); (try simp only [go_sem,hP]); (repeat refine qJ ?_))))
  (refine WV_cond rfl (fun h => ?_) (fun h => ?_))
  ·have e1:l.findIdx? p = some k:=by
    rw [List.findIdx?_eq_some_iff_getElem]
    exact ⟨hi,h,fun i hi2 => by simp [hr i (by omega) hi2]⟩
   have e3:idxP p l = k:=by unfold idxP; rw [e1]
   rw [e3]
   (repeat ((first | refine Va ?_ | refine Vb ?_ | refine Vc ?_ | refine Vd ?_ | refine Ve ?_ | refine Vf ?_); (try simp only [go_sem,hP]); (repeat refine qJ ?_)))
   (refine WV_ret ?_; simp only [thenQ,inQ,RetQ,RetOk,resAll,resA]; simp only [go_sem,tupA,AV.port,AV.portL,exists_eq_left']; (first | exact AVle.of rfl | refine AVle.of ?_ | skip))
  ·(repeat ((first | refine Va ?_ | refine Vb ?_ | refine Vc ?_ | refine Vd ?_ | refine Ve ?_ | refine Vf ?_); (try simp only [go_sem,hP,hw]); (repeat refine qJ ?_)))
   refine ⟨k + 1,⟨by omega,fun i hi2 hik => ?_⟩,by omega,?_⟩
   ·rcases Nat.lt_or_ge i k with h1 | h1
    ·exact hr i hi2 h1
    ·have:i = k:=by omega
     subst this; exact h
   ·(refine Sub_of (by simp only [go_sem]; ((repeat' (first | exact EnvLe_e0 _ _ | refine EnvLe_upd ?_ ?_)) <;> ((try simp only [upd_app,e0_app,o0_app,Nat.reduceEqDiff,reduceIte]); first | exact AWk.refl _ _ | exact AWk.int (by omega) | exact AWk.int (by rw [w64 (by omega) (by omega)]; omega) | exact AWk.grow rfl | exact AWk.nil _ | exact AWk.of (by simp [ints])))) (by simp only [go_sem]; exact ObjLe_au))
 ·have hi:k = l.length:=by simp at h; omega
  subst hi
  have e3:idxP p l = -1:=by
   unfold idxP
   rw [List.findIdx?_eq_none_iff.2 fun x hx => by obtain ⟨i,hi,rfl⟩:=List.getElem_of_mem hx; exact hr i hi hi]
  rw [e3]
  (repeat ((first | refine Va ?_ | refine Vb ?_ | refine Vc ?_ | refine Vd ?_ | refine Ve ?_ | refine Vf ?_); (try simp only [go_sem,hP]); (repeat refine qJ ?_)))
  (refine WV_ret ?_; simp only [thenQ,inQ,RetQ,RetOk,resAll,resA]; simp only [go_sem,tupA,AV.port,AV.portL,exists_eq_left']; (first | exact AVle.of rfl | refine AVle.of ?_ | skip))
theorem contains38 (l:List Int) (f:FuncId) (p:Int → Bool) (hf:∀ n ∈ l,FSpec Try.prog f [iv n] (.c (.bool (p n)))):FSpec Try.prog 38 [.c (ints l),.fn f []] (.c (.bool (l.any p))):=by
 refine FSpec_of c38 (Nat.le_refl _) (by decide) fun C hP hN hC hL => ?_; rw [init_st]
 simp only [ir38]
 (repeat ((first | refine Va ?_ | refine Vb ?_ | refine Vc ?_ | refine Vd ?_ | refine Ve ?_ | refine Vf ?_); (try simp only [go_sem,hP,ints]); (repeat refine qJ ?_)))
 (refine AS_pu (index52 l f p hf) ?_; simp only [go_sem,hP,idxP_ge]; (repeat refine qJ ?_); (repeat ((first | refine Va ?_ | refine Vb ?_ | refine Vc ?_ | refine Vd ?_ | refine Ve ?_ | refine Vf ?_); (try simp only [go_sem,hP,idxP_ge]); (repeat refine qJ ?_))))
 (refine WV_ret ?_; simp only [thenQ,inQ,RetQ,RetOk,resAll,resA]; simp only [go_sem,tupA,AV.port,AV.portL,exists_eq_left',idxP_ge]; (first | exact AVle.of rfl | refine AVle.of ?_ | skip))
end Go.Proofs.Ytakplakbbidihaa

namespace Go.Proofs.Ytakplakbbidihaa
open Go Go.V
abbrev o82_0:List Ins:=[⟨some 3,.mv (.k (.c (.bool false))),none,true⟩]
abbrev o82_1:List Ins:=[⟨some 4,.ld true 1 (.t 1),none,true⟩,
 ⟨some 5,.mv (.t 0),none,true⟩,
 ⟨some 6,.call (.t 4) [(.t 5)],none,true⟩,
 ⟨some 7,.un .not (.t 6),none,true⟩,
 ⟨some 3,.mv (.t 7),none,true⟩]
abbrev v82_2:VC:=(.seq (.ops o82_1) .ret)
def ir82:FC:=⟨2,8,[.t 3],(.seq (.ops o82_0) v82_2)⟩
abbrev o76_0:List Ins:=[⟨some 3,.box 1 (.t 1),none,true⟩,
 ⟨some 4,.mv (.k (.c (.bool false))),none,true⟩]
abbrev o76_1:List Ins:=[⟨some 5,.mv (.t 0),none,true⟩,
 ⟨some 6,.len (.t 5),none,true⟩,
 ⟨some 7,.bin .leq (.t 6) (.k (.c (.int .i64 20))),none,true⟩,
 ⟨some 8,.mv (.t 7),none,true⟩,
 ⟨some 9,.mv (.t 0),(some (8,true)),true⟩,
 ⟨some 10,.mkfn 82 [(.t 3)],(some (8,true)),true⟩,
 ⟨some 11,.call (.k (.fn 38 [])) [(.t 9),(.t 10)],(some (8,true)),true⟩,
 ⟨some 12,.un .not (.t 11),(some (8,true)),true⟩,
 ⟨some 13,.pick (.t 8) (.t 12) (.k (.c (.bool false))),none,true⟩,
 ⟨some 4,.mv (.t 13),none,true⟩]
abbrev v76_2:VC:=(.seq (.ops o76_1) .ret)
def ir76:FC:=⟨2,14,[.t 4],(.seq (.ops o76_0) v76_2)⟩
theorem c82:compM Try.prog [] 82 = some ir82:=by kernel_rfl
theorem c76:compM Try.prog [] 76 = some ir76:=by kernel_rfl
attribute [local go_sem] Nat.reduceEqDiff Nat.reduceAdd Nat.reduceMul reduceIte Nat.reduceLeDiff Nat.reduceLT Nat.reduceBEq reduceCtorEq
def entP (p:Int → Bool) (n:Int):Ent:=⟨[iv n],[],.c (.bool (p n))⟩
theorem not82 (p:Int → Bool) (n:Int) (g:Gst) (rem:List Ent):FSpecL Try.prog 82 [iv n,.bp 1000 0] [.box [.c (.raw g.fv)],.guest g (entP p n :: rem)] [] (fun r l' => r = .c (.bool (!p n)) ∧ l' = [.box [.c (.raw g.fv)],.guest g rem]):=by
 refine FSpecL_of c82 (by first | simp | exact Nat.le_of_ble_eq_true rfl) (Nat.le_refl _) (by decide) (by decide) fun C hP hN hC hL => ?_; rw [init_env',ownW_upd (by first | simp | exact Nat.le_of_ble_eq_true rfl)]; simp only [ir82,updL,updLo,List.map_nil,List.map_cons,Nat.reduceAdd,]
 (repeat ((first | refine Va ?_ | refine Vb ?_ | refine Vc ?_ | refine Vd ?_ | refine Ve ?_ | refine Vf ?_); (try simp only [go_sem,hP]); (repeat refine qJ ?_)))
 refine AS_guest 1001 [] (g:=g) (e:=entP p n) (rem:=rem) rfl rfl rfl rfl (by decide) rfl trivial ?_
 simp only [go_sem,hP,entP]
 (repeat ((first | refine Va ?_ | refine Vb ?_ | refine Vc ?_ | refine Vd ?_ | refine Ve ?_ | refine Vf ?_); (try simp only [go_sem,hP]); (repeat refine qJ ?_)))
 (refine WV_ret ?_; simp only [thenQ,inQ,RetQL,RetOkL,resAll,resA]; simp only [go_sem,tupA,AV.keepP,AV.keepPL]; refine ⟨_,[.box [.c (.raw g.fv)],.guest g rem],rfl,KeepL_mk rfl rfl ?_ ?_ rfl,?_⟩)
 ·simp only [go_sem,keepAll,Ob.keepP,AV.keepP,AV.keepPL]
 ·trivial
 ·exact ⟨rfl,rfl⟩
set_option maxHeartbeats 8000000 in
theorem index52b (p:Int → Bool) (l:List Int) (g:Gst):FSpecL Try.prog 52 [.c (ints l),.fn 82 [.bp 1000 0]] [.box [.c (.raw g.fv)],.guest g (l.map (entP p))] [] (fun r l' => r = iv (idxP (fun n => !p n) l) ∧ ∃ rem,l' = [.box [.c (.raw g.fv)],.guest g rem]):=by
 refine FSpecL_of c52 (by first | simp | exact Nat.le_of_ble_eq_true rfl) (Nat.le_refl _) (by decide) (by decide) fun C hP hN hC hL => ?_; rw [init_env',ownW_upd (by first | simp | exact Nat.le_of_ble_eq_true rfl)]; simp only [ir52,updL,updLo,List.map_nil,List.map_cons,Nat.reduceAdd,]
 have hl:l.length ≤ 9223372036854775807:=by simp only [AV.lensL,AV.lens] at hL; exact ints_lens hL.1
 (repeat ((first | refine Va ?_ | refine Vb ?_ | refine Vc ?_ | refine Vd ?_ | refine Ve ?_ | refine Vf ?_); (try simp only [go_sem,hP,ints,List.length_map]); (repeat refine qJ ?_)))
 refine WV_loopK K52_1 [1001] (fun k:Nat => k ≤ l.length ∧ ∀ i (h:i < l.length),i < k → p l[i] = true) (fun k => l.length - k) (fun k => [(8,iv k)]) (fun k => [(1001,.guest g ((l.drop k).map (entP p)))]) 0 ⟨Nat.zero_le _,fun _ _ h => by omega⟩ ?_ ?_
 ·(refine Sub_of (by simp only [go_sem]; ((repeat' (first | exact EnvLe_e0 _ _ | refine EnvLe_upd ?_ ?_)) <;> ((try simp only [upd_app,e0_app,o0_app,Nat.reduceEqDiff,reduceIte]); first | exact AWk.refl _ _ | exact AWk.int (by omega) | exact AWk.int (by rw [w64 (by omega) (by omega)]; omega) | exact AWk.grow rfl | exact AWk.nil _ | exact AWk.of (by simp [ints])))) (by simp only [go_sem]; exact ObjLe_au))
 rintro k ⟨hk,hr⟩
 (repeat ((first | refine Va ?_ | refine Vb ?_ | refine Vc ?_ | refine Vd ?_ | refine Ve ?_ | refine Vf ?_); (try simp only [go_sem,hP]); (repeat refine qJ ?_)))
 (refine WV_cond rfl (fun h => ?_) (fun h => ?_))
 ·have hi:k < l.length:=by simpa using h
  have hw:=w64 (n:=(k:Int) + 1) (by omega) (by omega)
  have hgd:=ints_get hi
  rw [getD_at hi] at hgd
  have hdr:(l.drop k).map (entP p) = entP p l[k] :: (l.drop (k + 1)).map (entP p):=by rw [List.drop_eq_getElem_cons hi]; rfl
  rw [hdr]
  (repeat ((first | refine Va ?_ | refine Vb ?_ | refine Vc ?_ | refine Vd ?_ | refine Ve ?_ | refine Vf ?_); (try simp only [go_sem,hP,hgd,ints,List.length_map,Int.toNat_natCast,Int.ofNat_lt,hi,Int.natCast_nonneg]); (repeat refine qJ ?_)))
  refine AS_lend [1000,1001] (not82 p l[k] g _) rfl rfl rfl (by decide) rfl rfl ?_
  rintro r l' ⟨rfl,rfl⟩
  refine ⟨_,_,rfl,rfl,?_⟩
  simp only [go_sem,hP,ownBack]
  (repeat ((first | refine Va ?_ | refine Vb ?_ | refine Vc ?_ | refine Vd ?_ | refine Ve ?_ | refine Vf ?_); (try simp only [go_sem,hP]); (repeat refine qJ ?_)))
  (refine WV_cond rfl (fun h => ?_) (fun h => ?_))
  ·have h:p l[k] = false:=by simpa using h
   have e1:l.findIdx? (fun n => !p n) = some k:=by
    rw [List.findIdx?_eq_some_iff_getElem]
    exact ⟨hi,by simp [h],fun i hi2 => by simp [hr i (by omega) hi2]⟩
   have e3:idxP (fun n => !p n) l = k:=by unfold idxP; rw [e1]
   rw [e3]
   (repeat ((first | refine Va ?_ | refine Vb ?_ | refine Vc ?_ | refine Vd ?_ | refine Ve ?_ | refine Vf ?_); (try simp only [go_sem,hP]); (repeat refine qJ ?_)))
   (refine WV_ret ?_; simp only [thenQ,inQ,RetQL,RetOkL,resAll,resA]; simp only [go_sem,tupA,AV.keepP,AV.keepPL]; refine ⟨_,[.box [.c (.raw g.fv)],.guest g ((l.drop (k + 1)).map (entP p))],rfl,KeepL_mk rfl rfl ?_ ?_ rfl,?_⟩)
   ·simp only [go_sem,keepAll,Ob.keepP,AV.keepP,AV.keepPL]
   ·trivial
   ·exact ⟨rfl,_,rfl⟩
  ·have h:p l[k] = true:=by simpa using h
   (repeat ((first | refine Va ?_ | refine Vb ?_ | refine Vc ?_ | refine Vd ?_ | refine Ve ?_ | refine Vf ?_); (try simp only [go_sem,hP,hw]); (repeat refine qJ ?_)))
   refine ⟨k + 1,⟨by omega,fun i hi2 hik => ?_⟩,by omega,?_⟩
   ·rcases Nat.lt_or_ge i k with h1 | h1
    ·exact hr i hi2 h1
    ·have:i = k:=by omega
     subst this; exact h
   ·(refine Sub_of (by simp only [go_sem]; ((repeat' (first | exact EnvLe_e0 _ _ | refine EnvLe_upd ?_ ?_)) <;> ((try simp only [upd_app,e0_app,o0_app,Nat.reduceEqDiff,reduceIte]); first | exact AWk.refl _ _ | exact AWk.int (by omega) | exact AWk.int (by rw [w64 (by omega) (by omega)]; omega) | exact AWk.grow rfl | exact AWk.nil _ | exact AWk.of (by simp [ints])))) (by simp only [go_sem]; exact ObjLe_au))
 ·have hi:k = l.length:=by simp at h; omega
  subst hi
  have e3:idxP (fun n => !p n) l = -1:=by
   unfold idxP
   rw [List.findIdx?_eq_none_iff.2 fun x hx => by obtain ⟨i,hi,rfl⟩:=List.getElem_of_mem hx; simp [hr i hi hi]]
  rw [e3]
  (repeat ((first | refine Va ?_ | refine Vb ?_ | refine Vc ?_ | refine Vd ?_ | refine Ve ?_ | refine Vf ?_); (try simp only [go_sem,hP]); (repeat refine qJ ?_)))
  (refine WV_ret ?_; simp only [thenQ,inQ,RetQL,RetOkL,resAll,resA]; simp only [go_sem,tupA,AV.keepP,AV.keepPL]; refine ⟨_,[.box [.c (.raw g.fv)],.guest g ((l.drop l.length).map (entP p))],rfl,KeepL_mk rfl rfl ?_ ?_ rfl,?_⟩)
  ·simp only [go_sem,keepAll,Ob.keepP,AV.keepP,AV.keepPL]
  ·trivial
  ·exact ⟨rfl,_,rfl⟩
theorem contains38b (p:Int → Bool) (l:List Int) (g:Gst):FSpecL Try.prog 38 [.c (ints l),.fn 82 [.bp 1000 0]] [.box [.c (.raw g.fv)],.guest g (l.map (entP p))] [] (fun r l' => r = .c (.bool (l.any fun n => !p n)) ∧ ∃ rem,l' = [.box [.c (.raw g.fv)],.guest g rem]):=by
 refine FSpecL_of c38 (by first | simp | exact Nat.le_of_ble_eq_true rfl) (Nat.le_refl _) (by decide) (by decide) fun C hP hN hC hL => ?_; rw [init_env',ownW_upd (by first | simp | exact Nat.le_of_ble_eq_true rfl)]; simp only [ir38,updL,updLo,List.map_nil,List.map_cons,Nat.reduceAdd,]
 (repeat ((first | refine Va ?_ | refine Vb ?_ | refine Vc ?_ | refine Vd ?_ | refine Ve ?_ | refine Vf ?_); (try simp only [go_sem,hP,ints]); (repeat refine qJ ?_)))
 refine AS_lend [1000,1001] (index52b p l g) rfl rfl rfl (by decide) rfl rfl ?_
 rintro r l' ⟨rfl,rem,rfl⟩
 refine ⟨_,_,rfl,rfl,?_⟩
 simp only [go_sem,hP,ownBack]
 (repeat ((first | refine Va ?_ | refine Vb ?_ | refine Vc ?_ | refine Vd ?_ | refine Ve ?_ | refine Vf ?_); (try simp only [go_sem,hP]); (repeat refine qJ ?_)))
 (refine WV_ret ?_; simp only [thenQ,inQ,RetQL,RetOkL,resAll,resA]; simp only [go_sem,tupA,AV.keepP,AV.keepPL]; refine ⟨_,[.box [.c (.raw g.fv)],.guest g rem],rfl,KeepL_mk rfl rfl ?_ ?_ rfl,?_⟩)
 ·simp only [go_sem,keepAll,Ob.keepP,AV.keepP,AV.keepPL]
 ·trivial
 ·exact ⟨by rw [← idxP_ge],_,rfl⟩
theorem all_not (p:Int → Bool) (l:List Int):(!l.any fun n => !p n) = l.all p:=by
 induction l with
 | nil => rfl
 | cons n l ih => simp only [List.any_cons,List.all_cons,Bool.not_or,Bool.not_not,ih]
def allB (p:Int → Bool) (l:List Int):Bool:=decide ((l.length:Int) ≤ 20) && l.all p
theorem all76 (p:Int → Bool) (l:List Int) (g:Gst):FSpecL Try.prog 76 [.c (ints l),.c (.raw g.fv)] [.guest g (l.map (entP p))] [] (fun r l' => r = .c (.bool (allB p l)) ∧ ∃ rem,l' = [.guest g rem]):=by
 refine FSpecL_of c76 (by first | simp | exact Nat.le_of_ble_eq_true rfl) (Nat.le_refl _) (by decide) (by decide) fun C hP hN hC hL => ?_; rw [init_env',ownW_upd (by first | simp | exact Nat.le_of_ble_eq_true rfl)]; simp only [ir76,updL,updLo,List.map_nil,List.map_cons,Nat.reduceAdd,]
 (repeat ((first | refine Va ?_ | refine Vb ?_ | refine Vc ?_ | refine Vd ?_ | refine Ve ?_ | refine Vf ?_); (try simp only [go_sem,hP,ints,List.length_map]); (repeat refine qJ ?_)))
 refine .inr (.inr ⟨fun hG => ?_,fun hG => ?_⟩)
 ·refine AS_lend [3,1000] (contains38b p l g) rfl (by simp [hG,go_sem]) rfl (by decide) rfl rfl ?_
  rintro r l' ⟨rfl,rem,rfl⟩
  refine ⟨_,_,rfl,rfl,?_⟩
  simp only [go_sem,hP,ownBack,hG]
  (repeat ((first | refine Va ?_ | refine Vb ?_ | refine Vc ?_ | refine Vd ?_ | refine Ve ?_ | refine Vf ?_); (try simp only [go_sem,hP,hG]); (repeat refine qJ ?_)))
  (refine WV_ret ?_; simp only [thenQ,inQ,RetQL,RetOkL,resAll,resA]; simp only [go_sem,tupA,AV.keepP,AV.keepPL]; refine ⟨_,[.guest g rem],rfl,KeepL_mk rfl rfl ?_ ?_ rfl,?_⟩)
  ·simp only [go_sem,keepAll,Ob.keepP,AV.keepP,AV.keepPL]
  ·trivial
  ·exact ⟨by unfold allB; rw [hG,← all_not]; rfl,_,rfl⟩
 ·simp only [go_sem,hP,hG]
  (repeat ((first | refine Va ?_ | refine Vb ?_ | refine Vc ?_ | refine Vd ?_ | refine Ve ?_ | refine Vf ?_); (try simp only [go_sem,hP,hG]); (repeat refine qJ ?_)))
  (refine WV_ret ?_; simp only [thenQ,inQ,RetQL,RetOkL,resAll,resA]; simp only [go_sem,tupA,AV.keepP,AV.keepPL]; refine ⟨_,[.guest g (l.map (entP p))],rfl,KeepL_mk rfl rfl ?_ ?_ rfl,?_⟩)
  ·simp only [go_sem,keepAll,Ob.keepP,AV.keepP,AV.keepPL]
  ·trivial
  ·exact ⟨by unfold allB; rw [hG]; rfl,_,rfl⟩
end Go.Proofs.Ytakplakbbidihaa

namespace Go.Proofs.Ytakplakbbidihaa
open Go Go.V
abbrev o74_0:List Ins:=[⟨some 3,.box 3 (.t 0),none,true⟩,
 ⟨some 4,.mv (.k (.c (.bool false))),none,true⟩]
abbrev o74_1:List Ins:=[⟨some 5,.ld false 3 (.t 3),none,true⟩,
 ⟨some 6,.fa 0 (.t 1),none,true⟩,
 ⟨some 7,.ld true 1 (.t 6),none,true⟩,
 ⟨some 8,.call (.k (.fn 75 [])) [(.t 5),(.t 7)],none,true⟩,
 ⟨some 9,.mv (.t 8),none,true⟩,
 ⟨some 10,.fa 1 (.t 1),(some (9,true)),true⟩,
 ⟨some 11,.ld true 1 (.t 10),(some (9,true)),true⟩,
 ⟨some 12,.call (.k (.fn 50 [])) [(.t 11),(.k (.c (.int .i64 0))),(.k (.c (.int .i64 20)))],(some (9,true)),true⟩,
 ⟨some 13,.pick (.t 9) (.t 12) (.k (.c (.bool false))),none,true⟩,
 ⟨some 14,.mv (.t 13),none,true⟩,
 ⟨some 15,.ld true 1 (.t 2),(some (14,true)),true⟩,
 ⟨some 16,.ld false 3 (.t 3),(some (14,true)),true⟩,
 ⟨some 17,.raw (.makeFunc (.func 77) #[(.tmp 16)] #[]),(some (14,true)),true⟩,
 ⟨some 18,.call (.k (.fn 76 [])) [(.t 15),(.t 17)],(some (14,true)),true⟩,
 ⟨some 19,.pick (.t 14) (.t 18) (.k (.c (.bool false))),none,true⟩,
 ⟨some 4,.mv (.t 19),none,true⟩]
abbrev v74_2:VC:=(.seq (.ops o74_1) .ret)
def ir74:FC:=⟨3,20,[.t 4],(.seq (.ops o74_0) v74_2)⟩
theorem c74:compM Try.prog [] 74 = some ir74:=by kernel_rfl
attribute [local go_sem] Nat.reduceEqDiff Nat.reduceAdd Nat.reduceMul reduceIte Nat.reduceLeDiff Nat.reduceLT Nat.reduceBEq reduceCtorEq
def runB (w:Wh) (pl cr:Int) (acts:List Int):Bool:=within pl 0 (w.ro - 1) && within cr 0 20 && allB (actB w) acts
set_option maxHeartbeats 8000000 in
theorem run74 {w:Wh} (hw:WhOk w) (pl cr:Int) (acts:List Int):FSpecL Try.prog 74 [w.av,.bp 1000 0,.bp 1001 0] [.box [iv pl,iv cr],.box [.c (ints acts)]] [] (fun r l' => r = .c (.bool (runB w pl cr acts)) ∧ l' = [.box [iv pl,iv cr],.box [.c (ints acts)]]):=by
 refine FSpecL_of c74 (by first | simp | exact Nat.le_of_ble_eq_true rfl) (Nat.le_refl _) (by decide) (by decide) fun C hP hN hC hL => ?_; rw [init_env',ownW_upd (by first | simp | exact Nat.le_of_ble_eq_true rfl)]; simp only [ir74,updL,updLo,List.map_nil,List.map_cons,Nat.reduceAdd,]
 simp only [Wh.av,Wh.avs]
 (repeat ((first | refine Va ?_ | refine Vb ?_ | refine Vc ?_ | refine Vd ?_ | refine Ve ?_ | refine Vf ?_); (try simp only [go_sem,hP,Wh.avs,ints]); (repeat refine qJ ?_)))
 (refine AS_pu (isPlace75 hw pl) ?_; simp only [go_sem,hP,Wh.av,Wh.avs,ints]; (repeat refine qJ ?_); (repeat ((first | refine Va ?_ | refine Vb ?_ | refine Vc ?_ | refine Vd ?_ | refine Ve ?_ | refine Vf ?_); (try simp only [go_sem,hP,Wh.av,Wh.avs,ints]); (repeat refine qJ ?_))))
 by_cases h1:within pl 0 (w.ro - 1) = true
 ·simp only [go_sem,h1]
  (refine AG_pu (fun hG => within50 cr 0 20) ?_; simp only [go_sem,hP,h1]; (repeat refine qJ ?_); (repeat ((first | refine Va ?_ | refine Vb ?_ | refine Vc ?_ | refine Vd ?_ | refine Ve ?_ | refine Vf ?_); (try simp only [go_sem,hP,h1]); (repeat refine qJ ?_))))
  by_cases h2:within cr 0 20 = true
  ·simp only [go_sem,h1,h2]
   (repeat ((first | refine Va ?_ | refine Vb ?_ | refine Vc ?_ | refine Vd ?_ | refine Ve ?_ | refine Vf ?_); (try simp only [go_sem,hP,h1,h2]); (repeat refine qJ ?_)))
   refine raw_bound (av:=w.av) (acts.map (entP (actB w))) rfl rfl rfl rfl rfl ?_ ?_
   ·intro e he
    obtain ⟨n,_,rfl⟩:=List.mem_map.1 he
    exact ⟨rfl,rfl,isAct77 hw n⟩
   intro g
   simp only [go_sem,hP]
   refine .inr (.inr ?_)
   refine AS_lend [17] (all76 (actB w) acts g) rfl rfl rfl (by decide) rfl rfl ?_
   rintro r l' ⟨rfl,rem,rfl⟩
   refine ⟨_,_,rfl,rfl,?_⟩
   simp only [go_sem,hP,ownBack]
   (repeat ((first | refine Va ?_ | refine Vb ?_ | refine Vc ?_ | refine Vd ?_ | refine Ve ?_ | refine Vf ?_); (try simp only [go_sem,hP]); (repeat refine qJ ?_)))
   (refine WV_ret ?_; simp only [thenQ,inQ,RetQL,RetOkL,resAll,resA]; simp only [go_sem,tupA,AV.keepP,AV.keepPL]; refine ⟨_,[.box [iv pl,iv cr],.box [.c (ints acts)]],rfl,KeepL_mk rfl rfl ?_ ?_ rfl,?_⟩)
   ·simp only [go_sem,keepAll,Ob.keepP,AV.keepP,AV.keepPL,ints]
   ·trivial
   ·exact ⟨by unfold runB; rw [h1,h2]; rfl,rfl⟩
  ·have h2:within cr 0 20 = false:=by simpa using h2
   simp only [go_sem,h2]
   (repeat ((first | refine Va ?_ | refine Vb ?_ | refine Vc ?_ | refine Vd ?_ | refine Ve ?_ | refine Vf ?_); (try simp only [go_sem,hP,h2]); (repeat refine qJ ?_)))
   (refine AG_skip ?_; simp only [go_sem,hP]; (repeat refine qJ ?_); (repeat ((first | refine Va ?_ | refine Vb ?_ | refine Vc ?_ | refine Vd ?_ | refine Ve ?_ | refine Vf ?_); (try simp only [go_sem,hP]); (repeat refine qJ ?_))))
   (refine WV_ret ?_; simp only [thenQ,inQ,RetQL,RetOkL,resAll,resA]; simp only [go_sem,tupA,AV.keepP,AV.keepPL]; refine ⟨_,[.box [iv pl,iv cr],.box [.c (ints acts)]],rfl,KeepL_mk rfl rfl ?_ ?_ rfl,?_⟩)
   ·simp only [go_sem,keepAll,Ob.keepP,AV.keepP,AV.keepPL,ints]
   ·trivial
   ·exact ⟨by unfold runB; rw [h1,h2]; rfl,rfl⟩
 ·have h1:within pl 0 (w.ro - 1) = false:=by simpa using h1
  simp only [go_sem,h1]
  (refine AG_skip ?_; simp only [go_sem,hP]; (repeat refine qJ ?_); (repeat ((first | refine Va ?_ | refine Vb ?_ | refine Vc ?_ | refine Vd ?_ | refine Ve ?_ | refine Vf ?_); (try simp only [go_sem,hP]); (repeat refine qJ ?_))))
  (refine AG_skip ?_; simp only [go_sem,hP]; (repeat refine qJ ?_); (repeat ((first | refine Va ?_ | refine Vb ?_ | refine Vc ?_ | refine Vd ?_ | refine Ve ?_ | refine Vf ?_); (try simp only [go_sem,hP]); (repeat refine qJ ?_))))
  (refine WV_ret ?_; simp only [thenQ,inQ,RetQL,RetOkL,resAll,resA]; simp only [go_sem,tupA,AV.keepP,AV.keepPL]; refine ⟨_,[.box [iv pl,iv cr],.box [.c (ints acts)]],rfl,KeepL_mk rfl rfl ?_ ?_ rfl,?_⟩)
  ·simp only [go_sem,keepAll,Ob.keepP,AV.keepP,AV.keepPL,ints]
  ·trivial
  ·exact ⟨by unfold runB; rw [h1]; rfl,rfl⟩
end Go.Proofs.Ytakplakbbidihaa

namespace Go.Proofs.Ytakplakbbidihaa
open Go Go.V
abbrev o73_0:List Ins:=[⟨some 2,.box 3 (.t 0),none,true⟩,
 ⟨some 4,.alloc [(.c (.int .i64 0)),(.c (.raw (.slice none 0 0))),(.c (.raw (.slice none 0 0)))],none,true⟩,
 ⟨some 5,.mv (.k (.c (.int .i64 0))),none,true⟩]
abbrev o73_1:List Ins:=[⟨some 7,.ld false 3 (.t 2),none,true⟩,
 ⟨some 8,.call (.k (.fn 36 [])) [(.t 7)],none,true⟩,
 ⟨some 6,.mv (.t 8),none,true⟩]
abbrev o73_2:List Ins:=[⟨some 9,.mv (.t 6),none,true⟩,
 ⟨some 10,.bin .neq (.t 9) (.k (.c (.int .i64 0))),none,true⟩]
abbrev o73_3:List Ins:=[⟨some 11,.bld [(.c (.int .i64 0)),(.c (.raw (.slice none 0 0))),(.c (.raw (.slice none 0 0)))] [],none,true⟩,
 ⟨some 12,.mv (.t 6),none,true⟩,
 ⟨none,.st 3 (.t 4) (.t 11),none,true⟩,
 ⟨some 5,.mv (.t 12),none,true⟩]
abbrev v73_4:VC:=(.seq (.ops o73_3) .ret)
abbrev v73_5:VC:=(.cond (.t 10) v73_4 .skip)
abbrev v73_6:VC:=(.seq (.ops o73_2) v73_5)
abbrev o73_7:List Ins:=[⟨some 13,.mv (.t 1),none,true⟩,
 ⟨some 14,.ld false 3 (.t 2),none,true⟩,
 ⟨some 15,.bld [(.c (.int .i64 0)),(.c (.raw (.slice none 0 0))),(.c (.raw (.slice none 0 0)))] [(0,3,(.t 14))],none,true⟩,
 ⟨some 16,.call (.t 13) [(.t 15)],none,true⟩,
 ⟨some 17,.un .not (.t 16),none,true⟩]
abbrev o73_8:List Ins:=[⟨some 18,.bld [(.c (.int .i64 0)),(.c (.raw (.slice none 0 0))),(.c (.raw (.slice none 0 0)))] [],none,true⟩,
 ⟨none,.st 3 (.t 4) (.t 18),none,true⟩,
 ⟨some 5,.mv (.k (.c (.int .i64 1))),none,true⟩]
abbrev v73_9:VC:=(.seq (.ops o73_8) .ret)
abbrev v73_10:VC:=(.cond (.t 17) v73_9 .skip)
abbrev o73_11:List Ins:=[⟨some 19,.ld false 3 (.t 2),none,true⟩,
 ⟨some 20,.bld [(.c (.int .i64 0)),(.c (.raw (.slice none 0 0))),(.c (.raw (.slice none 0 0)))] [(0,3,(.t 19))],none,true⟩,
 ⟨none,.st 3 (.t 4) (.t 20),none,true⟩,
 ⟨some 5,.mv (.k (.c (.int .i64 0))),none,true⟩]
abbrev v73_12:VC:=(.seq (.ops o73_11) .ret)
abbrev v73_13:VC:=(.seq (.seq (.ops o73_7) v73_10) v73_12)
abbrev v73_14:VC:=(.seq (.seq (.ops o73_1) v73_6) v73_13)
def ir73:FC:=⟨2,21,[.cell 4 false 3,.t 5],(.seq (.ops o73_0) v73_14)⟩
abbrev o69_0:List Ins:=[⟨some 3,.box 3 (.t 0),none,true⟩,
 ⟨some 4,.box 2 (.t 1),none,true⟩,
 ⟨some 5,.box 1 (.t 2),none,true⟩,
 ⟨some 6,.alloc [(.c (.int .i64 0)),(.c (.int .i64 0))],none,true⟩,
 ⟨some 7,.mv (.k (.c (.int .i64 0))),none,true⟩,
 ⟨some 8,.mv (.k (.c (.int .i64 0))),none,true⟩]
abbrev o69_1:List Ins:=[⟨some 13,.ld false 3 (.t 3),none,true⟩,
 ⟨some 14,.mkfn 74 [(.t 4),(.t 5)],none,true⟩,
 ⟨some 15,.call (.k (.fn 73 [])) [(.t 13),(.t 14)],none,true⟩,
 ⟨some 12,.mv (.t 15),none,true⟩,
 ⟨some 16,.ext (.t 12) 0,none,true⟩,
 ⟨some 17,.ext (.t 12) 1,none,true⟩,
 ⟨some 9,.alloc [(.c (.int .i64 0)),(.c (.raw (.slice none 0 0))),(.c (.raw (.slice none 0 0)))],none,true⟩,
 ⟨none,.st 3 (.t 9) (.t 16),none,true⟩,
 ⟨some 8,.mv (.t 17),none,true⟩]
abbrev o69_2:List Ins:=[⟨some 18,.mv (.t 8),none,true⟩,
 ⟨some 19,.bin .neq (.t 18) (.k (.c (.int .i64 0))),none,true⟩]
abbrev o69_3:List Ins:=[⟨some 20,.bld [(.c (.int .i64 0)),(.c (.int .i64 0))] [],none,true⟩,
 ⟨some 21,.mv (.t 8),none,true⟩,
 ⟨none,.st 2 (.t 6) (.t 20),none,true⟩,
 ⟨some 7,.mv (.k (.c (.int .i64 0))),none,true⟩,
 ⟨some 8,.mv (.t 21),none,true⟩]
abbrev v69_4:VC:=(.seq (.ops o69_3) .ret)
abbrev v69_5:VC:=(.cond (.t 19) v69_4 .skip)
abbrev o69_6:List Ins:=[⟨some 22,.ld true 1 (.t 5),none,true⟩,
 ⟨some 23,.len (.t 22),none,true⟩,
 ⟨some 24,.mv (.k (.c (.int .i64 0))),none,true⟩]
abbrev o69_7:List Ins:=[⟨some 25,.bin .lss (.t 24) (.t 23),none,true⟩]
abbrev o69_8:List Ins:=[⟨some 26,.ia 1 (.t 22) (.t 24),none,true⟩,
 ⟨some 27,.ld true 1 (.t 26),none,true⟩,
 ⟨some 11,.mv (.t 27),none,true⟩]
abbrev o69_9:List Ins:=[⟨some 28,.mv (.t 11),none,true⟩,
 ⟨some 29,.bin .eql (.t 28) (.k (.c (.int .i64 (-1)))),none,true⟩,
 ⟨some 30,.mv (.t 29),none,true⟩,
 ⟨some 31,.fa 1 (.t 4),(some (30,true)),true⟩,
 ⟨some 32,.ld true 1 (.t 31),(some (30,true)),true⟩,
 ⟨some 33,.bin .gtr (.t 32) (.k (.c (.int .i64 0))),(some (30,true)),true⟩,
 ⟨some 34,.pick (.t 30) (.t 33) (.k (.c (.bool false))),none,true⟩]
abbrev o69_10:List Ins:=[⟨some 35,.mv (.t 7),none,true⟩,
 ⟨some 36,.bin .add (.t 35) (.k (.c (.int .i64 1))),none,true⟩,
 ⟨some 7,.mv (.t 36),none,true⟩]
abbrev v69_11:VC:=(.cond (.t 34) (.ops o69_10) .skip)
abbrev o69_12:List Ins:=[⟨some 37,.ld false 3 (.t 9),none,true⟩,
 ⟨some 38,.ld false 2 (.t 4),none,true⟩,
 ⟨some 39,.mv (.t 11),none,true⟩,
 ⟨some 40,.call (.k (.fn 78 [])) [(.t 37),(.t 38),(.t 39)],none,true⟩,
 ⟨none,.st 2 (.t 4) (.t 40),none,true⟩]
abbrev v69_13:VC:=(.seq (.seq (.ops o69_9) v69_11) (.ops o69_12))
abbrev v69_14:VC:=(.seq (.ops o69_8) v69_13)
abbrev o69_15:List Ins:=[⟨some 41,.bin .add (.t 24) (.k (.c (.int .i64 1))),none,true⟩,
 ⟨some 24,.mv (.t 41),none,true⟩]
abbrev v69_16:VC:=(.seq (.block 1 v69_14) (.ops o69_15))
abbrev v69_17:VC:=(.seq (.cond (.t 25) .skip (.exit 0)) v69_16)
abbrev v69_18:VC:=(.seq (.ops o69_7) v69_17)
-- K69_1: changed and kept: [24,7]
abbrev K69_1:List Nat:=[4,6,9,22,23]
abbrev v69_19:VC:=(.loop v69_18)
abbrev v69_20:VC:=(.block 0 v69_19)
abbrev o69_21:List Ins:=[⟨some 42,.ld false 2 (.t 4),none,true⟩,
 ⟨some 43,.mv (.t 7),none,true⟩,
 ⟨none,.st 2 (.t 6) (.t 42),none,true⟩,
 ⟨some 7,.mv (.t 43),none,true⟩,
 ⟨some 8,.mv (.k (.c (.int .i64 0))),none,true⟩]
abbrev v69_22:VC:=(.seq (.ops o69_21) .ret)
abbrev v69_23:VC:=(.seq (.seq (.ops o69_6) v69_20) v69_22)
abbrev v69_24:VC:=(.seq (.seq (.ops o69_2) v69_5) v69_23)
abbrev v69_25:VC:=(.seq (.ops o69_1) v69_24)
def ir69:FC:=⟨3,44,[.cell 6 false 2,.t 7,.t 8],(.seq (.ops o69_0) v69_25)⟩
theorem c73:compM Try.prog [] 73 = some ir73:=by kernel_rfl
theorem c69:compM Try.prog [] 69 = some ir69:=by kernel_rfl
attribute [local go_sem] Nat.reduceEqDiff Nat.reduceAdd Nat.reduceMul reduceIte Nat.reduceLeDiff Nat.reduceLT Nat.reduceBEq reduceCtorEq
def openE (w:Wh) (b:Bool):Int:=if whB w then (if b then 0 else 1) else 10
def whZ:AV:=.agg [.c (.int .i64 0),.c (.raw (.slice none 0 0)),.c (.raw (.slice none 0 0))]
theorem open73 (w:Wh) (pl cr:Int) (acts:List Int):FSpecL Try.prog 73 [w.av,.fn 74 [.bp 1000 0,.bp 1001 0]] [.box [iv pl,iv cr],.box [.c (ints acts)]] [] (fun r l' => r = .tup [if openE w (runB w pl cr acts) = 0 then w.av else whZ,iv (openE w (runB w pl cr acts))] ∧ l' = [.box [iv pl,iv cr],.box [.c (ints acts)]]):=by
 refine FSpecL_of c73 (by first | simp | exact Nat.le_of_ble_eq_true rfl) (Nat.le_refl _) (by decide) (by decide) fun C hP hN hC hL => ?_; rw [init_env',ownW_upd (by first | simp | exact Nat.le_of_ble_eq_true rfl)]; simp only [ir73,updL,updLo,List.map_nil,List.map_cons,Nat.reduceAdd,]
 simp only [Wh.av,Wh.avs]
 (repeat ((first | refine Va ?_ | refine Vb ?_ | refine Vc ?_ | refine Vd ?_ | refine Ve ?_ | refine Vf ?_); (try simp only [go_sem,hP,Wh.avs,ints]); (repeat refine qJ ?_)))
 (refine AS_pu (check36 w) ?_; simp only [go_sem,hP,Wh.av,Wh.avs,ints]; (repeat refine qJ ?_); (repeat ((first | refine Va ?_ | refine Vb ?_ | refine Vc ?_ | refine Vd ?_ | refine Ve ?_ | refine Vf ?_); (try simp only [go_sem,hP,Wh.av,Wh.avs,ints]); (repeat refine qJ ?_))))
 by_cases h1:whB w = true
 ·have e0:whE w = 0:=by unfold whE; rw [if_pos h1]
  rw [e0]
  (refine WV_cond rfl (fun h => ?_) (fun h => ?_))
  ·simp at h
  ·(repeat ((first | refine Va ?_ | refine Vb ?_ | refine Vc ?_ | refine Vd ?_ | refine Ve ?_ | refine Vf ?_); (try simp only [go_sem,hP]); (repeat refine qJ ?_)))
   refine AS_lend [1000,1001] (run74 (whB_ok h1) pl cr acts) rfl rfl rfl (by decide) rfl rfl ?_
   rintro r l' ⟨rfl,rfl⟩
   refine ⟨_,_,rfl,rfl,?_⟩
   simp only [go_sem,hP,ownBack]
   (repeat ((first | refine Va ?_ | refine Vb ?_ | refine Vc ?_ | refine Vd ?_ | refine Ve ?_ | refine Vf ?_); (try simp only [go_sem,hP]); (repeat refine qJ ?_)))
   by_cases h2:runB w pl cr acts = true
   ·have e1:openE w (runB w pl cr acts) = 0:=by unfold openE; rw [if_pos h1,if_pos h2]
    rw [e1]
    (refine WV_cond rfl (fun h => ?_) (fun h => ?_))
    ·rw [h2] at h; simp at h
    ·(repeat ((first | refine Va ?_ | refine Vb ?_ | refine Vc ?_ | refine Vd ?_ | refine Ve ?_ | refine Vf ?_); (try simp only [go_sem,hP]); (repeat refine qJ ?_)))
     (refine WV_ret ?_; simp only [thenQ,inQ,RetQL,RetOkL,resAll,resA]; simp only [go_sem,tupA,AV.keepP,AV.keepPL]; refine ⟨_,[.box [iv pl,iv cr],.box [.c (ints acts)]],rfl,KeepL_mk rfl rfl ?_ ?_ rfl,?_⟩)
     ·simp only [go_sem,keepAll,Ob.keepP,AV.keepP,AV.keepPL,ints]
     ·trivial
     ·exact ⟨rfl,rfl⟩
   ·have h2:runB w pl cr acts = false:=by simpa using h2
    have e1:openE w (runB w pl cr acts) = 1:=by unfold openE; rw [if_pos h1,h2]; rfl
    rw [e1]
    (refine WV_cond rfl (fun h => ?_) (fun h => ?_))
    ·(repeat ((first | refine Va ?_ | refine Vb ?_ | refine Vc ?_ | refine Vd ?_ | refine Ve ?_ | refine Vf ?_); (try simp only [go_sem,hP]); (repeat refine qJ ?_)))
     (refine WV_ret ?_; simp only [thenQ,inQ,RetQL,RetOkL,resAll,resA]; simp only [go_sem,tupA,AV.keepP,AV.keepPL]; refine ⟨_,[.box [iv pl,iv cr],.box [.c (ints acts)]],rfl,KeepL_mk rfl rfl ?_ ?_ rfl,?_⟩)
     ·simp only [go_sem,keepAll,Ob.keepP,AV.keepP,AV.keepPL,ints]
     ·trivial
     ·exact ⟨rfl,rfl⟩
    ·rw [h2] at h; simp at h
 ·have h1:whB w = false:=by simpa using h1
  have e0:whE w = 10:=by unfold whE; rw [h1]; rfl
  have e1:∀ b,openE w b = 10:=fun b => by unfold openE; rw [h1]; rfl
  rw [e0,e1]
  (refine WV_cond rfl (fun h => ?_) (fun h => ?_))
  ·(repeat ((first | refine Va ?_ | refine Vb ?_ | refine Vc ?_ | refine Vd ?_ | refine Ve ?_ | refine Vf ?_); (try simp only [go_sem,hP]); (repeat refine qJ ?_)))
   (refine WV_ret ?_; simp only [thenQ,inQ,RetQL,RetOkL,resAll,resA]; simp only [go_sem,tupA,AV.keepP,AV.keepPL]; refine ⟨_,[.box [iv pl,iv cr],.box [.c (ints acts)]],rfl,KeepL_mk rfl rfl ?_ ?_ rfl,?_⟩)
   ·simp only [go_sem,keepAll,Ob.keepP,AV.keepP,AV.keepPL,ints]
   ·trivial
   ·exact ⟨rfl,rfl⟩
  ·simp at h
def stepR (w:Wh) (s:Int × Int × Int) (a:Int):Int × Int × Int:=((actP w s.1 s.2.1 a).1,(actP w s.1 s.2.1 a).2,s.2.2 + if a = -1 ∧ 0 < s.2.1 then 1 else 0)
def runS (w:Wh) (pl cr:Int) (acts:List Int):Int × Int × Int:=acts.foldl (stepR w) (pl,cr,0)
theorem actP_ok {w:Wh} (hw:WhOk w) {pl cr a:Int} (hp:0 ≤ pl ∧ pl < w.ro) (hc:0 ≤ cr) (ha:actB w a = true):(0 ≤ (actP w pl cr a).1 ∧ (actP w pl cr a).1 < w.ro) ∧ 0 ≤ (actP w pl cr a).2 ∧ (actP w pl cr a).2 ≤ cr + 112:=by
 have hro:=hw.ro
 unfold actP
 by_cases h1:a = -1
 ·rw [if_pos h1]
  split
  ·exact ⟨⟨by simp,by simp; omega⟩,by simp; omega,by simp; omega⟩
  ·exact ⟨hp,hc,by simp; omega⟩
 ·rw [if_neg h1]
  have hk:0 ≤ a ∧ a ≤ w.co.length - 1:=by
   simp only [actB,Bool.or_eq_true,within,Bool.and_eq_true,decide_eq_true_eq,beq_iff_eq] at ha
   rcases ha with h | h
   ·exact absurd h h1
   ·exact h
  have hco:=co_at hw hk
  have hb:=plays_ok hw (p:=pl) (c:=w.co.getD a.toNat 0) (by omega)
  refine ⟨⟨Int.emod_nonneg _ (by omega),Int.emod_lt_of_pos _ (by omega)⟩,?_,?_⟩ <;> simp only <;> omega
theorem runS_ok {w:Wh} (hw:WhOk w) {pl cr:Int} (hp:0 ≤ pl ∧ pl < w.ro) (hc:0 ≤ cr):∀ (acts:List Int) (s:Int × Int × Int),(0 ≤ s.1 ∧ s.1 < w.ro) → 0 ≤ s.2.1 → 0 ≤ s.2.2 → acts.all (actB w) = true →
  (0 ≤ (acts.foldl (stepR w) s).1 ∧ (acts.foldl (stepR w) s).1 < w.ro) ∧ (0 ≤ (acts.foldl (stepR w) s).2.1 ∧ (acts.foldl (stepR w) s).2.1 ≤ s.2.1 + 112 * acts.length) ∧ (0 ≤ (acts.foldl (stepR w) s).2.2 ∧ (acts.foldl (stepR w) s).2.2 ≤ s.2.2 + acts.length)
 | [],s,h1,h2,h3,_ => by simp only [List.foldl_nil,List.length_nil]; omega
 | a :: acts,s,h1,h2,h3,h4 => by
  simp only [List.all_cons,Bool.and_eq_true] at h4
  have h5:=actP_ok hw h1 h2 h4.1
  have h6:=runS_ok hw hp hc acts (stepR w s a) h5.1 h5.2.1 (by simp only [stepR]; split <;> omega) h4.2
  simp only [List.foldl_cons,List.length_cons]
  simp only [stepR] at h6 ⊢
  refine ⟨h6.1,⟨h6.2.1.1,by omega⟩,h6.2.2.1,?_⟩
  have:=h6.2.2.2
  split at this <;> (rename_i hc; simp only [hc,if_true,if_false] at *; omega)
theorem runS_succ {w:Wh} {pl cr:Int} {acts:List Int} {k:Nat} (h:k < acts.length):runS w pl cr (acts.take (k + 1)) = stepR w (runS w pl cr (acts.take k)) acts[k]:=by
 unfold runS
 rw [List.take_succ_eq_append_getElem h,List.foldl_append]; rfl
def runP (w:Wh) (pl cr:Int) (acts:List Int):(Int × Int × Int) × Int:=if openE w (runB w pl cr acts) = 0 then (runS w pl cr acts,0) else ((0,0,0),openE w (runB w pl cr acts))
set_option maxHeartbeats 8000000 in
theorem run69 (w:Wh) (pl cr:Int) (acts:List Int):FSpec Try.prog 69 [w.av,.agg [iv pl,iv cr],.c (ints acts)] (.tup [.agg [iv (runP w pl cr acts).1.1,iv (runP w pl cr acts).1.2.1],iv (runP w pl cr acts).1.2.2,iv (runP w pl cr acts).2]):=by
 refine FSpec_of c69 (Nat.le_refl _) (by decide) fun C hP hN hC hL => ?_; rw [init_st]
 simp only [ir69,Wh.av,Wh.avs]
 (repeat ((first | refine Va ?_ | refine Vb ?_ | refine Vc ?_ | refine Vd ?_ | refine Ve ?_ | refine Vf ?_); (try simp only [go_sem,hP,Wh.avs,ints]); (repeat refine qJ ?_)))
 refine AS_lend [4,5] (open73 w pl cr acts) rfl rfl rfl (by decide) rfl rfl ?_
 rintro r l' ⟨rfl,rfl⟩
 by_cases h1:openE w (runB w pl cr acts) = 0
 ·have e1:runP w pl cr acts = (runS w pl cr acts,0):=by unfold runP; rw [if_pos h1]
  rw [e1,if_pos h1,h1]
  have hb:whB w = true ∧ runB w pl cr acts = true:=by
   unfold openE at h1
   split at h1
   ·split at h1
    ·rename_i a b; exact ⟨a,b⟩
    ·cases h1
   ·cases h1
  have hw:=whB_ok hb.1
  have hro:=hw.ro
  have hb2:=hb.2
  simp only [runB,allB,within,Bool.and_eq_true,decide_eq_true_eq] at hb2
  refine ⟨_,_,rfl,rfl,?_⟩
  simp only [go_sem,hP,ownBack]
  (repeat ((first | refine Va ?_ | refine Vb ?_ | refine Vc ?_ | refine Vd ?_ | refine Ve ?_ | refine Vf ?_); (try simp only [go_sem,hP]); (repeat refine qJ ?_)))
  (refine WV_cond rfl (fun h => ?_) (fun h => ?_))
  ·simp at h
  ·(repeat ((first | refine Va ?_ | refine Vb ?_ | refine Vc ?_ | refine Vd ?_ | refine Ve ?_ | refine Vf ?_); (try simp only [go_sem,hP,List.length_map]); (repeat refine qJ ?_)))
   refine WV_loopK K69_1 [4] (fun k:Nat => k ≤ acts.length) (fun k => acts.length - k) (fun k => [(24,iv k),(7,iv (runS w pl cr (acts.take k)).2.2)]) (fun k => [(4,.box [iv (runS w pl cr (acts.take k)).1,iv (runS w pl cr (acts.take k)).2.1])]) 0 (Nat.zero_le _) ?_ ?_
   ·(refine Sub_of (by simp only [go_sem]; ((repeat' (first | exact EnvLe_e0 _ _ | refine EnvLe_upd ?_ ?_)) <;> ((try simp only [upd_app,e0_app,o0_app,Nat.reduceEqDiff,reduceIte]); first | exact AWk.refl _ _ | exact AWk.int (by omega) | exact AWk.int (by rw [w64 (by omega) (by omega)]; omega) | exact AWk.grow rfl | exact AWk.nil _ | exact AWk.of (by simp [runS])))) (by simp only [go_sem]; exact ObjLe_au))
   ·intro k hk
    (repeat ((first | refine Va ?_ | refine Vb ?_ | refine Vc ?_ | refine Vd ?_ | refine Ve ?_ | refine Vf ?_); (try simp only [go_sem,hP]); (repeat refine qJ ?_)))
    (refine WV_cond rfl (fun h => ?_) (fun h => ?_))
    ·have hi:k < acts.length:=by simpa using h
     have hgd:=ints_get hi
     rw [getD_at hi] at hgd
     have hall:actB w acts[k] = true:=List.all_eq_true.1 hb2.2.2 _ (List.getElem_mem hi)
     have hok:=runS_ok hw (pl:=pl) (cr:=cr) (by omega) (by omega) (acts.take k) (pl,cr,0) (by simp only; omega) (by simp only; omega) (by simp) (List.all_eq_true.2 fun x hx => List.all_eq_true.1 hb2.2.2 x (List.mem_of_mem_take hx))
     rw [show (acts.take k).foldl (stepR w) (pl,cr,0) = runS w pl cr (acts.take k) from rfl] at hok
     have hsu:=runS_succ (w:=w) (pl:=pl) (cr:=cr) hi
     have hlen:((acts.take k).length:Int) = k:=by rw [List.length_take]; omega
     rw [hlen] at hok
     generalize runS w pl cr (acts.take k) = s at hok hsu
     obtain ⟨s1,s2,s3⟩:=s
     simp only at hok
     have hk20:(k:Int) < 20:=by omega
     have w1:=w64 (n:=(k:Int) + 1) (by omega) (by omega)
     have w2:=w64 (n:=s3 + 1) (by omega) (by omega)
     have hact:=act78 hw (pl:=s1) (cr:=s2) (a:=acts[k]) hok.1 (by omega) hall
     generalize acts[k] = x at *
     (repeat ((first | refine Va ?_ | refine Vb ?_ | refine Vc ?_ | refine Vd ?_ | refine Ve ?_ | refine Vf ?_); (try simp only [go_sem,hP,hgd,ints,List.length_map,Int.toNat_natCast,Int.ofNat_lt,hi,Int.natCast_nonneg]); (repeat refine qJ ?_)))
     by_cases hm:x = -1 ∧ 0 < s2
     ·have e2:runS w pl cr (acts.take (k + 1)) = ((actP w s1 s2 x).1,(actP w s1 s2 x).2,s3 + 1):=by rw [hsu]; simp only [stepR,hm,and_self,if_true]
      (refine WV_cond rfl (fun h => ?_) (fun h => ?_))
      ·(repeat ((first | refine Va ?_ | refine Vb ?_ | refine Vc ?_ | refine Vd ?_ | refine Ve ?_ | refine Vf ?_); (try simp only [go_sem,hP,w2]); (repeat refine qJ ?_)))
       (refine AS_pu (hact) ?_; simp only [go_sem,hP,Wh.av,Wh.avs,ints]; (repeat refine qJ ?_); (repeat ((first | refine Va ?_ | refine Vb ?_ | refine Vc ?_ | refine Vd ?_ | refine Ve ?_ | refine Vf ?_); (try simp only [go_sem,hP,Wh.av,Wh.avs,ints]); (repeat refine qJ ?_))))
       (repeat ((first | refine Va ?_ | refine Vb ?_ | refine Vc ?_ | refine Vd ?_ | refine Ve ?_ | refine Vf ?_); (try simp only [go_sem,hP,w1]); (repeat refine qJ ?_)))
       refine ⟨k + 1,by omega,by omega,?_⟩
       rw [e2]
       exact Sub_au
      ·exfalso; simp only [hm.1] at h; simp at h; omega
     ·have e2:runS w pl cr (acts.take (k + 1)) = ((actP w s1 s2 x).1,(actP w s1 s2 x).2,s3):=by rw [hsu]; simp only [stepR,hm,if_false,Int.add_zero]
      (refine WV_cond rfl (fun h => ?_) (fun h => ?_))
      ·exfalso; apply hm; simp at h; exact h
      ·(repeat ((first | refine Va ?_ | refine Vb ?_ | refine Vc ?_ | refine Vd ?_ | refine Ve ?_ | refine Vf ?_); (try simp only [go_sem,hP]); (repeat refine qJ ?_)))
       (refine AS_pu (hact) ?_; simp only [go_sem,hP,Wh.av,Wh.avs,ints]; (repeat refine qJ ?_); (repeat ((first | refine Va ?_ | refine Vb ?_ | refine Vc ?_ | refine Vd ?_ | refine Ve ?_ | refine Vf ?_); (try simp only [go_sem,hP,Wh.av,Wh.avs,ints]); (repeat refine qJ ?_))))
       (repeat ((first | refine Va ?_ | refine Vb ?_ | refine Vc ?_ | refine Vd ?_ | refine Ve ?_ | refine Vf ?_); (try simp only [go_sem,hP,w1]); (repeat refine qJ ?_)))
       refine ⟨k + 1,by omega,by omega,?_⟩
       rw [e2]
       exact Sub_au
    ·have hi:k = acts.length:=by simp at h; omega
     subst hi
     rw [List.take_length]
     (repeat ((first | refine Va ?_ | refine Vb ?_ | refine Vc ?_ | refine Vd ?_ | refine Ve ?_ | refine Vf ?_); (try simp only [go_sem,hP]); (repeat refine qJ ?_)))
     (refine WV_ret ?_; simp only [thenQ,inQ,RetQ,RetOk,resAll,resA]; simp only [go_sem,tupA,AV.port,AV.portL,exists_eq_left']; (first | exact AVle.of rfl | refine AVle.of ?_ | skip))
 ·have e1:runP w pl cr acts = ((0,0,0),openE w (runB w pl cr acts)):=by unfold runP; rw [if_neg h1]
  rw [e1,if_neg h1]
  generalize openE w (runB w pl cr acts) = e at *
  refine ⟨_,_,rfl,rfl,?_⟩
  simp only [go_sem,hP,ownBack,whZ]
  (repeat ((first | refine Va ?_ | refine Vb ?_ | refine Vc ?_ | refine Vd ?_ | refine Ve ?_ | refine Vf ?_); (try simp only [go_sem,hP]); (repeat refine qJ ?_)))
  (refine WV_cond rfl (fun h => ?_) (fun h => ?_))
  ·(repeat ((first | refine Va ?_ | refine Vb ?_ | refine Vc ?_ | refine Vd ?_ | refine Ve ?_ | refine Vf ?_); (try simp only [go_sem,hP]); (repeat refine qJ ?_)))
   (refine WV_ret ?_; simp only [thenQ,inQ,RetQ,RetOk,resAll,resA]; simp only [go_sem,tupA,AV.port,AV.portL,exists_eq_left']; (first | exact AVle.of rfl | refine AVle.of ?_ | skip))
  ·simp at h; exact absurd h h1
end Go.Proofs.Ytakplakbbidihaa

namespace Go.Proofs.Ytakplakbbidihaa
open Go Go.V
abbrev o37_0:List Ins:=[⟨some 6,.mv (.k (.c (.bool false))),none,true⟩]
abbrev o37_1:List Ins:=[⟨some 7,.mv (.t 1),none,true⟩,
 ⟨some 8,.mv (.t 0),none,true⟩,
 ⟨some 9,.bin .leq (.t 7) (.t 8),none,true⟩,
 ⟨some 10,.mv (.t 9),none,true⟩,
 ⟨some 11,.mv (.t 0),(some (10,true)),true⟩,
 ⟨some 12,.mv (.t 2),(some (10,true)),true⟩,
 ⟨some 13,.bin .leq (.t 11) (.t 12),(some (10,true)),true⟩,
 ⟨some 14,.pick (.t 10) (.t 13) (.k (.c (.bool false))),none,true⟩,
 ⟨some 6,.mv (.t 14),none,true⟩]
abbrev v37_2:VC:=(.seq (.ops o37_1) .ret)
def ir37:FC:=⟨3,15,[.t 6],(.seq (.ops o37_0) v37_2)⟩
abbrev o39_0:List Ins:=[⟨some 2,.mv (.k (.c (.bool false))),none,true⟩]
abbrev o39_1:List Ins:=[⟨some 3,.mv (.t 0),none,true⟩,
 ⟨some 4,.call (.k (.fn 37 [])) [(.t 3),(.k (.c (.int .i64 0))),(.k (.c (.int .i64 12)))],none,true⟩,
 ⟨some 5,.un .not (.t 4),none,true⟩,
 ⟨some 2,.mv (.t 5),none,true⟩]
abbrev v39_2:VC:=(.seq (.ops o39_1) .ret)
def ir39:FC:=⟨1,6,[.t 2],(.seq (.ops o39_0) v39_2)⟩
abbrev o28_0:List Ins:=[⟨some 1,.box 8 (.t 0),none,true⟩,
 ⟨some 2,.mv (.k (.c (.int .i64 0))),none,true⟩]
abbrev o28_1:List Ins:=[⟨some 8,.fa 0 (.t 1),none,true⟩,
 ⟨some 9,.ld false 3 (.t 8),none,true⟩,
 ⟨some 10,.call (.k (.fn 36 [])) [(.t 9)],none,true⟩,
 ⟨some 11,.bin .neq (.t 10) (.k (.c (.int .i64 0))),none,true⟩,
 ⟨some 12,.mv (.t 11),none,true⟩,
 ⟨some 13,.fa 6 (.t 1),(some (12,false)),true⟩,
 ⟨some 14,.ld true 1 (.t 13),(some (12,false)),true⟩,
 ⟨some 15,.call (.k (.fn 37 [])) [(.t 14),(.k (.c (.int .i64 0))),(.k (.c (.int .i64 9999)))],(some (12,false)),true⟩,
 ⟨some 16,.un .not (.t 15),(some (12,false)),true⟩,
 ⟨some 17,.pick (.t 12) (.k (.c (.bool true))) (.t 16),none,true⟩,
 ⟨some 18,.mv (.t 17),none,true⟩,
 ⟨some 19,.fa 7 (.t 1),(some (18,false)),true⟩,
 ⟨some 20,.ld true 1 (.t 19),(some (18,false)),true⟩,
 ⟨some 21,.call (.k (.fn 37 [])) [(.t 20),(.k (.c (.int .i64 0))),(.k (.c (.int .i64 9)))],(some (18,false)),true⟩,
 ⟨some 22,.un .not (.t 21),(some (18,false)),true⟩,
 ⟨some 23,.pick (.t 18) (.k (.c (.bool true))) (.t 22),none,true⟩]
abbrev o28_2:List Ins:=[⟨some 2,.mv (.k (.c (.int .i64 50))),none,true⟩]
abbrev v28_3:VC:=(.seq (.ops o28_2) .ret)
abbrev v28_4:VC:=(.cond (.t 23) v28_3 .skip)
abbrev o28_5:List Ins:=[⟨some 3,.mv (.k (.c (.int .i64 0))),none,true⟩]
abbrev o28_6:List Ins:=[⟨some 24,.fa 3 (.t 1),none,true⟩,
 ⟨some 25,.ld true 1 (.t 24),none,true⟩,
 ⟨some 26,.fa 4 (.t 1),none,true⟩,
 ⟨some 27,.ld true 1 (.t 26),none,true⟩,
 ⟨some 28,.fa 5 (.t 1),none,true⟩,
 ⟨some 29,.ld true 1 (.t 28),none,true⟩,
 ⟨some 30,.raw (.build 72 #[(0,(.tmp 25)),(1,(.tmp 27)),(2,(.tmp 29))]),none,true⟩,
 ⟨some 31,.mv (.k (.c (.int .i64 0))),none,true⟩]
abbrev o28_7:List Ins:=[⟨some 32,.bin .lss (.t 31) (.k (.c (.int .i64 3))),none,true⟩]
abbrev o28_8:List Ins:=[⟨some 33,.raw (.index 72 (.tmp 30) (.tmp 31)),none,true⟩,
 ⟨some 5,.mv (.t 33),none,true⟩]
abbrev o28_9:List Ins:=[⟨some 34,.mv (.t 5),none,true⟩,
 ⟨some 35,.len (.t 34),none,true⟩,
 ⟨some 36,.fa 0 (.t 1),none,true⟩,
 ⟨some 37,.fa 2 (.t 36),none,true⟩,
 ⟨some 38,.ld true 1 (.t 37),none,true⟩,
 ⟨some 39,.len (.t 38),none,true⟩,
 ⟨some 40,.bin .neq (.t 35) (.t 39),none,true⟩,
 ⟨some 41,.mv (.t 40),none,true⟩,
 ⟨some 42,.mv (.t 5),(some (41,false)),true⟩,
 ⟨some 43,.call (.k (.fn 38 [])) [(.t 42),(.k (.fn 39 []))],(some (41,false)),true⟩,
 ⟨some 44,.pick (.t 41) (.k (.c (.bool true))) (.t 43),none,true⟩]
abbrev o28_10:List Ins:=[⟨some 2,.mv (.k (.c (.int .i64 50))),none,true⟩]
abbrev v28_11:VC:=(.seq (.ops o28_10) .ret)
abbrev v28_12:VC:=(.cond (.t 44) v28_11 .skip)
abbrev v28_13:VC:=(.seq (.ops o28_9) v28_12)
abbrev v28_14:VC:=(.seq (.ops o28_8) v28_13)
abbrev o28_15:List Ins:=[⟨some 45,.bin .add (.t 31) (.k (.c (.int .i64 1))),none,true⟩,
 ⟨some 31,.mv (.t 45),none,true⟩]
abbrev v28_16:VC:=(.seq (.block 1 v28_14) (.ops o28_15))
abbrev v28_17:VC:=(.seq (.cond (.t 32) .skip (.exit 0)) v28_16)
abbrev v28_18:VC:=(.seq (.ops o28_7) v28_17)
-- K28_1: changed and kept: [31]
abbrev v28_19:VC:=(.loop v28_18)
abbrev v28_20:VC:=(.block 0 v28_19)
abbrev o28_21:List Ins:=[⟨some 46,.fa 3 (.t 1),none,true⟩,
 ⟨some 47,.ld true 1 (.t 46),none,true⟩,
 ⟨some 48,.len (.t 47),none,true⟩,
 ⟨some 49,.mv (.k (.c (.int .i64 0))),none,true⟩]
abbrev o28_22:List Ins:=[⟨some 50,.bin .lss (.t 49) (.t 48),none,true⟩]
abbrev o28_23:List Ins:=[⟨some 51,.mv (.t 49),none,true⟩,
 ⟨some 52,.ia 1 (.t 47) (.t 49),none,true⟩,
 ⟨some 53,.ld true 1 (.t 52),none,true⟩,
 ⟨some 6,.mv (.t 51),none,true⟩,
 ⟨some 7,.mv (.t 53),none,true⟩]
abbrev o28_24:List Ins:=[⟨some 54,.fa 4 (.t 1),none,true⟩,
 ⟨some 55,.ld true 1 (.t 54),none,true⟩,
 ⟨some 56,.mv (.t 6),none,true⟩,
 ⟨some 57,.ia 1 (.t 55) (.t 56),none,true⟩,
 ⟨some 58,.ld true 1 (.t 57),none,true⟩,
 ⟨some 59,.mv (.t 7),none,true⟩,
 ⟨some 60,.bin .gtr (.t 58) (.t 59),none,true⟩]
abbrev o28_25:List Ins:=[⟨some 2,.mv (.k (.c (.int .i64 50))),none,true⟩]
abbrev v28_26:VC:=(.seq (.ops o28_25) .ret)
abbrev v28_27:VC:=(.cond (.t 60) v28_26 .skip)
abbrev o28_28:List Ins:=[⟨some 61,.mv (.t 3),none,true⟩,
 ⟨some 62,.mv (.t 7),none,true⟩,
 ⟨some 63,.fa 5 (.t 1),none,true⟩,
 ⟨some 64,.ld true 1 (.t 63),none,true⟩,
 ⟨some 65,.mv (.t 6),none,true⟩,
 ⟨some 66,.ia 1 (.t 64) (.t 65),none,true⟩,
 ⟨some 67,.ld true 1 (.t 66),none,true⟩,
 ⟨some 68,.bin .add (.t 62) (.t 67),none,true⟩,
 ⟨some 69,.bin .add (.t 61) (.t 68),none,true⟩,
 ⟨some 3,.mv (.t 69),none,true⟩]
abbrev v28_29:VC:=(.seq (.seq (.ops o28_24) v28_27) (.ops o28_28))
abbrev v28_30:VC:=(.seq (.ops o28_23) v28_29)
abbrev o28_31:List Ins:=[⟨some 70,.bin .add (.t 49) (.k (.c (.int .i64 1))),none,true⟩,
 ⟨some 49,.mv (.t 70),none,true⟩]
abbrev v28_32:VC:=(.seq (.block 3 v28_30) (.ops o28_31))
abbrev v28_33:VC:=(.seq (.cond (.t 50) .skip (.exit 2)) v28_32)
abbrev v28_34:VC:=(.seq (.ops o28_22) v28_33)
-- K28_2: changed and kept: [49,3]
abbrev K28_2:List Nat:=[1,47,48]
abbrev v28_35:VC:=(.loop v28_34)
abbrev v28_36:VC:=(.block 2 v28_35)
abbrev o28_37:List Ins:=[⟨some 71,.mv (.t 3),none,true⟩,
 ⟨some 72,.bin .gtr (.t 71) (.k (.c (.int .i64 12))),none,true⟩]
abbrev o28_38:List Ins:=[⟨some 2,.mv (.k (.c (.int .i64 50))),none,true⟩]
abbrev v28_39:VC:=(.seq (.ops o28_38) .ret)
abbrev v28_40:VC:=(.cond (.t 72) v28_39 .skip)
abbrev o28_41:List Ins:=[⟨some 2,.mv (.k (.c (.int .i64 0))),none,true⟩]
abbrev v28_42:VC:=(.seq (.ops o28_41) .ret)
abbrev v28_43:VC:=(.seq (.seq (.ops o28_37) v28_40) v28_42)
abbrev v28_44:VC:=(.seq (.seq (.ops o28_21) v28_36) v28_43)
abbrev v28_45:VC:=(.seq (.seq (.ops o28_6) v28_20) v28_44)
abbrev v28_46:VC:=(.seq (.ops o28_5) v28_45)
abbrev v28_47:VC:=(.seq (.seq (.ops o28_1) v28_4) v28_46)
def ir28:FC:=⟨1,73,[.t 2],(.seq (.ops o28_0) v28_47)⟩
theorem c37:compM Try.prog [] 37 = some ir37:=by kernel_rfl
theorem c39:compM Try.prog [] 39 = some ir39:=by kernel_rfl
theorem c28:compM Try.prog [] 28 = some ir28:=by kernel_rfl
attribute [local go_sem] Nat.reduceEqDiff Nat.reduceAdd Nat.reduceMul reduceIte Nat.reduceLeDiff Nat.reduceLT Nat.reduceBEq reduceCtorEq
structure Bx where
 wh:Wh
 fo:List Int
 ma:List Int
 sl:List Int
 pl:Int
 sk:Int
def Bx.cds (b:Bx):List CD:=[.int .i64 b.wh.ro,ints b.wh.no,ints b.wh.co,ints b.fo,ints b.ma,ints b.sl,.int .i64 b.pl,.int .i64 b.sk]
def Bx.avs (b:Bx):List AV:=[.c (.int .i64 b.wh.ro),.c (ints b.wh.no),.c (ints b.wh.co),.c (ints b.fo),.c (ints b.ma),.c (ints b.sl),.c (.int .i64 b.pl),.c (.int .i64 b.sk)]
def Bx.av (b:Bx):AV:=.agg b.avs
theorem within37 (a b c:Int):FSpec Try.prog 37 [iv a,iv b,iv c] (.c (.bool (within a b c))):=by
 refine FSpec_of c37 (Nat.le_refl _) (by decide) fun C hP hN hC hL => ?_; rw [init_st]
 simp only [ir37]
 (repeat ((first | refine Va ?_ | refine Vb ?_ | refine Vc ?_ | refine Vd ?_ | refine Ve ?_ | refine Vf ?_); (try simp only [go_sem,hP]); (repeat refine qJ ?_)))
 (refine WV_ret ?_; simp only [thenQ,inQ,RetQ,RetOk,resAll,resA]; simp only [go_sem,tupA,AV.port,AV.portL,exists_eq_left']; (first | exact AVle.of rfl | refine AVle.of ?_ | skip))
def put12 (n:Int):Bool:=!within n 0 12
theorem over39 (n:Int):FSpec Try.prog 39 [iv n] (.c (.bool (put12 n))):=by
 refine FSpec_of c39 (Nat.le_refl _) (by decide) fun C hP hN hC hL => ?_; rw [init_st]
 simp only [ir39]
 (repeat ((first | refine Va ?_ | refine Vb ?_ | refine Vc ?_ | refine Vd ?_ | refine Ve ?_ | refine Vf ?_); (try simp only [go_sem,hP]); (repeat refine qJ ?_)))
 (refine AS_pu (within37 n 0 12) ?_; simp only [go_sem,hP]; (repeat refine qJ ?_); (repeat ((first | refine Va ?_ | refine Vb ?_ | refine Vc ?_ | refine Vd ?_ | refine Ve ?_ | refine Vf ?_); (try simp only [go_sem,hP]); (repeat refine qJ ?_))))
 (refine WV_ret ?_; simp only [thenQ,inQ,RetQ,RetOk,resAll,resA]; simp only [go_sem,tupA,AV.port,AV.portL,exists_eq_left']; (first | exact AVle.of rfl | refine AVle.of ?_ | skip))
def lstB (w:Wh) (l:List Int):Bool:=!(!(l.length == w.co.length) || l.any put12)
def mkK (fo ma:List Int):Nat → Bool
 | 0 => true
 | k + 1 => mkK fo ma k && decide (ma.getD k 0 ≤ fo.getD k 0)
def sumK (a b:List Int):Nat → Int
 | 0 => 0
 | k + 1 => sumK a b k + (a.getD k 0 + b.getD k 0)
def bxB (b:Bx):Bool:=whB b.wh && within b.pl 0 9999 && within b.sk 0 9 && lstB b.wh b.fo && lstB b.wh b.ma && lstB b.wh b.sl && mkK b.fo b.ma b.fo.length && decide (sumK b.fo b.sl b.fo.length ≤ 12)
def bxE (b:Bx):Int:=if bxB b then 0 else 50
theorem mkK_false {fo ma:List Int}:∀ {k m:Nat},mkK fo ma k = false → k ≤ m → mkK fo ma m = false
 | k,0,h,hm => by rwa [show k = 0 by omega] at h
 | k,m + 1,h,hm => by
  rcases Nat.lt_or_ge m k with h1 | h1
  ·rwa [show k = m + 1 by omega] at h
  ·unfold mkK; rw [mkK_false h h1]; rfl
theorem lstB_ok {w:Wh} {l:List Int} (h:lstB w l = true):l.length = w.co.length ∧ ∀ n ∈ l,0 ≤ n ∧ n ≤ 12:=by
 simp only [lstB,Bool.not_or,Bool.not_not,Bool.and_eq_true,beq_iff_eq,Bool.not_eq_true',List.any_eq_false,put12,within,decide_eq_true_eq] at h
 exact ⟨h.1,fun n hn => by have:=h.2 n hn; simpa using this⟩
theorem getD_in {l:List Int} {k:Nat} {P:Int → Prop} (h:∀ n ∈ l,P n) (hk:k < l.length):P (l.getD k 0):=by rw [getD_at hk]; exact h _ (List.getElem_mem hk)
theorem sumK_ok {a b:List Int} (ha:∀ n ∈ a,0 ≤ n ∧ n ≤ 12) (hb:∀ n ∈ b,0 ≤ n ∧ n ≤ 12):∀ k:Nat,k ≤ a.length → k ≤ b.length → 0 ≤ sumK a b k ∧ sumK a b k ≤ 24 * k
 | 0,_,_ => by simp [sumK]
 | k + 1,h1,h2 => by
  have ih:=sumK_ok ha hb k (by omega) (by omega)
  have e1:=getD_in ha (k:=k) (by omega)
  have e2:=getD_in hb (k:=k) (by omega)
  simp only [sumK]
  omega
set_option maxHeartbeats 8000000 in
theorem check28 (b:Bx):FSpec Try.prog 28 [b.av] (iv (bxE b)):=by
 refine FSpec_of c28 (Nat.le_refl _) (by decide) fun C hP hN hC hL => ?_; rw [init_st]
 simp only [ir28,Bx.av,Bx.avs]
 (repeat ((first | refine Va ?_ | refine Vb ?_ | refine Vc ?_ | refine Vd ?_ | refine Ve ?_ | refine Vf ?_); (try simp only [go_sem,hP,Bx.avs,ints]); (repeat refine qJ ?_)))
 (refine AS_pu (check36 b.wh) ?_; simp only [go_sem,hP,Wh.av,Wh.avs,ints]; (repeat refine qJ ?_); (repeat ((first | refine Va ?_ | refine Vb ?_ | refine Vc ?_ | refine Vd ?_ | refine Ve ?_ | refine Vf ?_); (try simp only [go_sem,hP,Wh.av,Wh.avs,ints]); (repeat refine qJ ?_))))
 have hE:∀ {c:Bool},bxB b = c → bxE b = if c then 0 else 50:=fun h => by unfold bxE; rw [h]
 by_cases h1:whB b.wh = true
 case neg =>
  have h1:whB b.wh = false:=by simpa using h1
  have e0:whE b.wh = 10:=by unfold whE; rw [h1]; rfl
  have e1:bxE b = 50:=hE (c:=false) (by unfold bxB; rw [h1]; rfl)
  rw [e0,e1]
  (refine AG_skip ?_; simp only [go_sem,hP]; (repeat refine qJ ?_); (repeat ((first | refine Va ?_ | refine Vb ?_ | refine Vc ?_ | refine Vd ?_ | refine Ve ?_ | refine Vf ?_); (try simp only [go_sem,hP]); (repeat refine qJ ?_))))
  (refine AG_skip ?_; simp only [go_sem,hP]; (repeat refine qJ ?_); (repeat ((first | refine Va ?_ | refine Vb ?_ | refine Vc ?_ | refine Vd ?_ | refine Ve ?_ | refine Vf ?_); (try simp only [go_sem,hP]); (repeat refine qJ ?_))))
  (refine WV_cond rfl (fun h => ?_) (fun h => ?_))
  ·(repeat ((first | refine Va ?_ | refine Vb ?_ | refine Vc ?_ | refine Vd ?_ | refine Ve ?_ | refine Vf ?_); (try simp only [go_sem,hP]); (repeat refine qJ ?_)))
   (refine WV_ret ?_; simp only [thenQ,inQ,RetQ,RetOk,resAll,resA]; simp only [go_sem,tupA,AV.port,AV.portL,exists_eq_left']; (first | exact AVle.of rfl | refine AVle.of ?_ | skip))
  ·simp at h
 have e0:whE b.wh = 0:=by unfold whE; rw [if_pos h1]
 rw [e0]
 have hb0:((0:Int) != 0) = false:=rfl
 have hw:=whB_ok h1
 have hcl:=hw.cl
 simp only [go_sem,hb0]
 (refine AG_pu (fun hG => within37 b.pl 0 9999) ?_; simp only [go_sem,hP,hb0]; (repeat refine qJ ?_); (repeat ((first | refine Va ?_ | refine Vb ?_ | refine Vc ?_ | refine Vd ?_ | refine Ve ?_ | refine Vf ?_); (try simp only [go_sem,hP,hb0]); (repeat refine qJ ?_))))
 by_cases h2:within b.pl 0 9999 = true
 case neg =>
  have h2:within b.pl 0 9999 = false:=by simpa using h2
  have e1:bxE b = 50:=hE (c:=false) (by unfold bxB; rw [h1,h2]; rfl)
  rw [e1]
  simp only [go_sem,h2,hb0]
  (refine AG_skip ?_; simp only [go_sem,hP]; (repeat refine qJ ?_); (repeat ((first | refine Va ?_ | refine Vb ?_ | refine Vc ?_ | refine Vd ?_ | refine Ve ?_ | refine Vf ?_); (try simp only [go_sem,hP]); (repeat refine qJ ?_))))
  (refine WV_cond rfl (fun h => ?_) (fun h => ?_))
  ·(repeat ((first | refine Va ?_ | refine Vb ?_ | refine Vc ?_ | refine Vd ?_ | refine Ve ?_ | refine Vf ?_); (try simp only [go_sem,hP]); (repeat refine qJ ?_)))
   (refine WV_ret ?_; simp only [thenQ,inQ,RetQ,RetOk,resAll,resA]; simp only [go_sem,tupA,AV.port,AV.portL,exists_eq_left']; (first | exact AVle.of rfl | refine AVle.of ?_ | skip))
  ·simp at h
 simp only [go_sem,h2,hb0]
 (refine AG_pu (fun hG => within37 b.sk 0 9) ?_; simp only [go_sem,hP,h2,hb0]; (repeat refine qJ ?_); (repeat ((first | refine Va ?_ | refine Vb ?_ | refine Vc ?_ | refine Vd ?_ | refine Ve ?_ | refine Vf ?_); (try simp only [go_sem,hP,h2,hb0]); (repeat refine qJ ?_))))
 by_cases h3:within b.sk 0 9 = true
 case neg =>
  have h3:within b.sk 0 9 = false:=by simpa using h3
  have e1:bxE b = 50:=hE (c:=false) (by unfold bxB; rw [h1,h2,h3]; rfl)
  rw [e1]
  (refine WV_cond rfl (fun h => ?_) (fun h => ?_))
  ·(repeat ((first | refine Va ?_ | refine Vb ?_ | refine Vc ?_ | refine Vd ?_ | refine Ve ?_ | refine Vf ?_); (try simp only [go_sem,hP]); (repeat refine qJ ?_)))
   (refine WV_ret ?_; simp only [thenQ,inQ,RetQ,RetOk,resAll,resA]; simp only [go_sem,tupA,AV.port,AV.portL,exists_eq_left']; (first | exact AVle.of rfl | refine AVle.of ?_ | skip))
  ·rw [h3] at h; simp at h
 (refine WV_cond rfl (fun h => ?_) (fun h => ?_))
 ·rw [h3] at h; simp at h
 clear h
 (repeat ((first | refine Va ?_ | refine Vb ?_ | refine Vc ?_ | refine Vd ?_ | refine Ve ?_ | refine Vf ?_); (try simp only [go_sem,hP]); (repeat refine qJ ?_)))
 refine raw_bldA (e:=31) (n:=3) (sz:=1) (z:=List.replicate 3 (.c (.raw (.slice none 0 0)))) (ps:=[(0,1,.t 25),(1,1,.t 27),(2,1,.t 29)]) (r:=[b.fo,b.ma,b.sl].map fun l => .c (ints l)) (by kernel_rfl) (by kernel_rfl) (by kernel_rfl) rfl ?_ rfl ?_ ?_
 ·intro i q hq
  have:i = 0 ∨ i = 1 ∨ i = 2 ∨ 3 ≤ i:=by omega
  rcases this with rfl | rfl | rfl | h
  case inr.inr.inr => rw [List.getElem?_eq_none (by exact h)] at hq; cases hq
  all_goals (cases hq; exact ⟨_,rfl,rfl⟩)
 ·simp only [go_sem]
 simp only [go_sem,hP]
 (repeat ((first | refine Va ?_ | refine Vb ?_ | refine Vc ?_ | refine Vd ?_ | refine Ve ?_ | refine Vf ?_); (try simp only [go_sem,hP]); (repeat refine qJ ?_)))
 have hin:∀ l ∈ [b.fo,b.ma,b.sl],lstB b.wh l = false → bxB b = false:=fun l hl h => by
  unfold bxB
  simp only [List.mem_cons,List.not_mem_nil,or_false] at hl
  rcases hl with rfl | rfl | rfl <;> rw [h] <;> simp
 refine WV_loopK [1,3,30] [] (fun k:Nat => k ≤ 3 ∧ ([b.fo,b.ma,b.sl].take k).all (lstB b.wh) = true) (fun k => 3 - k) (fun k => [(31,iv k)]) (fun _ => []) 0 ⟨by omega,rfl⟩ ?_ ?_
 ·exact Sub_au
 ·rintro k ⟨hk,hr⟩
  (repeat ((first | refine Va ?_ | refine Vb ?_ | refine Vc ?_ | refine Vd ?_ | refine Ve ?_ | refine Vf ?_); (try simp only [go_sem,hP]); (repeat refine qJ ?_)))
  (refine WV_cond rfl (fun h => ?_) (fun h => ?_))
  ·have hi:k < 3:=by simp at h; omega
   have hi2:k < [b.fo,b.ma,b.sl].length:=hi
   obtain ⟨l,hl⟩ : ∃ l,[b.fo,b.ma,b.sl][k]? = some l:=⟨_,List.getElem?_eq_getElem hi2⟩
   have hc:[AV.c (ints b.fo),.c (ints b.ma),.c (ints b.sl)][((k:Int)).toNat]? = some (.c (ints l)):=by
    have:=congrArg (Option.map fun l => AV.c (ints l)) hl
    rwa [← List.getElem?_map] at this
   have hlm:=List.mem_of_getElem? hl
   have hts:([b.fo,b.ma,b.sl].take (k + 1)).all (lstB b.wh) = lstB b.wh l:=by
    rw [List.take_add_one,hl,List.all_append,hr]; simp
   have w1:=w64 (n:=(k:Int) + 1) (by omega) (by omega)
   (refine WV_skip ?_; simp only [go_sem])
   refine WV_seq_ (WV_block (WV_seq_ ?_))
   (refine WV_op ?_; simp only [go_sem,hP]; (repeat refine qJ ?_))
   refine raw_idx1 (e:=31) (n:=3) (x':=.t 30) (i':=.t 31) (k:=.i64) (j:=k) (by kernel_rfl) (by kernel_rfl) (by kernel_rfl) rfl rfl rfl rfl rfl rfl (by omega) hc ?_
   have hne:((l.length:Int) != (b.wh.co.length:Int)) = !(l.length == b.wh.co.length):=ibne _ _
   simp only [go_sem,hP]
   (repeat ((first | refine Va ?_ | refine Vb ?_ | refine Vc ?_ | refine Vd ?_ | refine Ve ?_ | refine Vf ?_); (try simp only [go_sem,hP,ints,List.length_map,hne]); (repeat refine qJ ?_)))
   by_cases hl2:l.length = b.wh.co.length
   ·have hb2:(l.length == b.wh.co.length) = true:=by simpa using hl2
    simp only [go_sem,hb2]
    (refine AG_pu (fun hG => contains38 l 39 put12 (fun n _ => over39 n)) ?_; simp only [go_sem,hP,ints,hb2]; (repeat refine qJ ?_); (repeat ((first | refine Va ?_ | refine Vb ?_ | refine Vc ?_ | refine Vd ?_ | refine Ve ?_ | refine Vf ?_); (try simp only [go_sem,hP,ints,hb2]); (repeat refine qJ ?_))))
    by_cases h5:l.any put12 = true
    ·have e1:lstB b.wh l = false:=by unfold lstB; rw [hb2,h5]; rfl
     have e2:bxE b = 50:=hE (c:=false) (hin l hlm e1)
     rw [e2]
     (refine WV_cond rfl (fun h => ?_) (fun h => ?_))
     ·(repeat ((first | refine Va ?_ | refine Vb ?_ | refine Vc ?_ | refine Vd ?_ | refine Ve ?_ | refine Vf ?_); (try simp only [go_sem,hP]); (repeat refine qJ ?_)))
      (refine WV_ret ?_; simp only [thenQ,inQ,RetQ,RetOk,resAll,resA]; simp only [go_sem,tupA,AV.port,AV.portL,exists_eq_left']; (first | exact AVle.of rfl | refine AVle.of ?_ | skip))
     ·rw [h5] at h; simp at h
    ·have h5:l.any put12 = false:=by simpa using h5
     have e1:lstB b.wh l = true:=by unfold lstB; rw [hb2,h5]; rfl
     (refine WV_cond rfl (fun h => ?_) (fun h => ?_))
     ·rw [h5] at h; simp at h
     ·(repeat ((first | refine Va ?_ | refine Vb ?_ | refine Vc ?_ | refine Vd ?_ | refine Ve ?_ | refine Vf ?_); (try simp only [go_sem,hP,w1]); (repeat refine qJ ?_)))
      refine ⟨k + 1,⟨by omega,by rw [hts,e1]⟩,by omega,?_⟩
      (refine Sub_of (by simp only [go_sem]; ((repeat' (first | exact EnvLe_e0 _ _ | refine EnvLe_upd ?_ ?_)) <;> ((try simp only [upd_app,e0_app,o0_app,Nat.reduceEqDiff,reduceIte]); first | exact AWk.refl _ _ | exact AWk.int (by omega) | exact AWk.int (by rw [w64 (by omega) (by omega)]; omega) | exact AWk.grow rfl | exact AWk.nil _ | exact AWk.of (by simp [ints])))) (by simp only [go_sem]; exact ObjLe_au))
   ·have hb2:(l.length == b.wh.co.length) = false:=by simpa using hl2
    have e1:lstB b.wh l = false:=by unfold lstB; rw [hb2]; rfl
    have e2:bxE b = 50:=hE (c:=false) (hin l hlm e1)
    rw [e2]
    simp only [go_sem,hb2]
    (refine AG_skip ?_; simp only [go_sem,hP]; (repeat refine qJ ?_); (repeat ((first | refine Va ?_ | refine Vb ?_ | refine Vc ?_ | refine Vd ?_ | refine Ve ?_ | refine Vf ?_); (try simp only [go_sem,hP]); (repeat refine qJ ?_))))
    (refine WV_cond rfl (fun h => ?_) (fun h => ?_))
    ·(repeat ((first | refine Va ?_ | refine Vb ?_ | refine Vc ?_ | refine Vd ?_ | refine Ve ?_ | refine Vf ?_); (try simp only [go_sem,hP]); (repeat refine qJ ?_)))
     (refine WV_ret ?_; simp only [thenQ,inQ,RetQ,RetOk,resAll,resA]; simp only [go_sem,tupA,AV.port,AV.portL,exists_eq_left']; (first | exact AVle.of rfl | refine AVle.of ?_ | skip))
    ·simp at h
  ·have hi:k = 3:=by simp at h; omega
   subst hi
   simp only [List.take_succ_cons,List.take_zero,List.all_cons,List.all_nil,Bool.and_true,Bool.and_eq_true] at hr
   obtain ⟨g1,g2,g3⟩:=hr
   have k1:=lstB_ok g1
   have k2:=lstB_ok g2
   have k3:=lstB_ok g3
   have hbx:bxB b = (mkK b.fo b.ma b.fo.length && decide (sumK b.fo b.sl b.fo.length ≤ 12)):=by unfold bxB; rw [h1,h2,h3,g1,g2,g3]; rfl
   (repeat ((first | refine Va ?_ | refine Vb ?_ | refine Vc ?_ | refine Vd ?_ | refine Ve ?_ | refine Vf ?_); (try simp only [go_sem,hP,ints,List.length_map]); (repeat refine qJ ?_)))
   refine WV_loopK K28_2 [] (fun k:Nat => k ≤ b.fo.length ∧ mkK b.fo b.ma k = true) (fun k => b.fo.length - k) (fun k => [(49,iv k),(3,iv (sumK b.fo b.sl k))]) (fun _ => []) 0 ⟨by omega,rfl⟩ ?_ ?_
   ·(refine Sub_of (by simp only [go_sem]; ((repeat' (first | exact EnvLe_e0 _ _ | refine EnvLe_upd ?_ ?_)) <;> ((try simp only [upd_app,e0_app,o0_app,Nat.reduceEqDiff,reduceIte]); first | exact AWk.refl _ _ | exact AWk.int (by omega) | exact AWk.int (by rw [w64 (by omega) (by omega)]; omega) | exact AWk.grow rfl | exact AWk.nil _ | exact AWk.of (by simp [sumK])))) (by simp only [go_sem]; exact ObjLe_au))
   ·rintro k ⟨hk,hr⟩
    (repeat ((first | refine Va ?_ | refine Vb ?_ | refine Vc ?_ | refine Vd ?_ | refine Ve ?_ | refine Vf ?_); (try simp only [go_sem,hP]); (repeat refine qJ ?_)))
    (refine WV_cond rfl (fun h => ?_) (fun h => ?_))
    ·have hi:k < b.fo.length:=by simpa using h
     have hi2:k < b.ma.length:=by omega
     have hi3:k < b.sl.length:=by omega
     have gf:=ints_get hi
     have gm:=ints_get hi2
     have gs:=ints_get hi3
     have hs:=sumK_ok k1.2 k3.2 k (by omega) (by omega)
     have rf:=getD_in k1.2 hi
     have rm:=getD_in k2.2 hi2
     have rs:=getD_in k3.2 hi3
     have hms:mkK b.fo b.ma (k + 1) = decide (b.ma.getD k 0 ≤ b.fo.getD k 0):=by
      conv => lhs; unfold mkK
      rw [hr]; rfl
     have hss:sumK b.fo b.sl (k + 1) = sumK b.fo b.sl k + (b.fo.getD k 0 + b.sl.getD k 0):=rfl
     have w1:=w64 (n:=(k:Int) + 1) (by omega) (by omega)
     have w2:=w64 (n:=b.fo.getD k 0 + b.sl.getD k 0) (by omega) (by omega)
     have w3:=w64 (n:=sumK b.fo b.sl k + (b.fo.getD k 0 + b.sl.getD k 0)) (by omega) (by omega)
     have hfail:mkK b.fo b.ma (k + 1) = false → bxB b = false:=fun h => by rw [hbx,mkK_false h hi]; rfl
     generalize b.fo.getD k 0 = x at *
     generalize b.ma.getD k 0 = y at *
     generalize b.sl.getD k 0 = z at *
     (repeat ((first | refine Va ?_ | refine Vb ?_ | refine Vc ?_ | refine Vd ?_ | refine Ve ?_ | refine Vf ?_); (try simp only [go_sem,hP,gf,gm,gs,ints,List.length_map,Int.toNat_natCast,Int.ofNat_lt,hi,hi2,hi3,Int.natCast_nonneg]); (repeat refine qJ ?_)))
     by_cases hxy:y ≤ x
     ·(refine WV_cond rfl (fun h => ?_) (fun h => ?_))
      ·simp at h; omega
      ·(repeat ((first | refine Va ?_ | refine Vb ?_ | refine Vc ?_ | refine Vd ?_ | refine Ve ?_ | refine Vf ?_); (try simp only [go_sem,hP,gf,gm,gs,ints,List.length_map,Int.toNat_natCast,Int.ofNat_lt,hi,hi2,hi3,Int.natCast_nonneg,w1,w2,w3]); (repeat refine qJ ?_)))
       refine ⟨k + 1,⟨by omega,by rw [hms]; simpa using hxy⟩,by omega,?_⟩
       rw [hss]
       (refine Sub_of (by simp only [go_sem]; ((repeat' (first | exact EnvLe_e0 _ _ | refine EnvLe_upd ?_ ?_)) <;> ((try simp only [upd_app,e0_app,o0_app,Nat.reduceEqDiff,reduceIte]); first | exact AWk.refl _ _ | exact AWk.int (by omega) | exact AWk.int (by rw [w64 (by omega) (by omega)]; omega) | exact AWk.grow rfl | exact AWk.nil _ | exact AWk.of (by simp [ints])))) (by simp only [go_sem]; exact ObjLe_au))
     ·have e2:bxE b = 50:=hE (c:=false) (hfail (by rw [hms]; simpa using hxy))
      rw [e2]
      (refine WV_cond rfl (fun h => ?_) (fun h => ?_))
      ·(repeat ((first | refine Va ?_ | refine Vb ?_ | refine Vc ?_ | refine Vd ?_ | refine Ve ?_ | refine Vf ?_); (try simp only [go_sem,hP]); (repeat refine qJ ?_)))
       (refine WV_ret ?_; simp only [thenQ,inQ,RetQ,RetOk,resAll,resA]; simp only [go_sem,tupA,AV.port,AV.portL,exists_eq_left']; (first | exact AVle.of rfl | refine AVle.of ?_ | skip))
      ·simp at h; omega
    ·have hi:k = b.fo.length:=by simp at h; omega
     subst hi
     rw [hr] at hbx
     (repeat ((first | refine Va ?_ | refine Vb ?_ | refine Vc ?_ | refine Vd ?_ | refine Ve ?_ | refine Vf ?_); (try simp only [go_sem,hP]); (repeat refine qJ ?_)))
     by_cases hs:sumK b.fo b.sl b.fo.length ≤ 12
     ·have e2:bxE b = 0:=hE (c:=true) (by rw [hbx]; simpa using hs)
      rw [e2]
      (refine WV_cond rfl (fun h => ?_) (fun h => ?_))
      ·simp at h; omega
      ·(repeat ((first | refine Va ?_ | refine Vb ?_ | refine Vc ?_ | refine Vd ?_ | refine Ve ?_ | refine Vf ?_); (try simp only [go_sem,hP]); (repeat refine qJ ?_)))
       (refine WV_ret ?_; simp only [thenQ,inQ,RetQ,RetOk,resAll,resA]; simp only [go_sem,tupA,AV.port,AV.portL,exists_eq_left']; (first | exact AVle.of rfl | refine AVle.of ?_ | skip))
     ·have e2:bxE b = 50:=hE (c:=false) (by rw [hbx]; simpa using hs)
      rw [e2]
      (refine WV_cond rfl (fun h => ?_) (fun h => ?_))
      ·(repeat ((first | refine Va ?_ | refine Vb ?_ | refine Vc ?_ | refine Vd ?_ | refine Ve ?_ | refine Vf ?_); (try simp only [go_sem,hP]); (repeat refine qJ ?_)))
       (refine WV_ret ?_; simp only [thenQ,inQ,RetQ,RetOk,resAll,resA]; simp only [go_sem,tupA,AV.port,AV.portL,exists_eq_left']; (first | exact AVle.of rfl | refine AVle.of ?_ | skip))
      ·simp at h; omega
end Go.Proofs.Ytakplakbbidihaa

namespace Go.Proofs.Ytakplakbbidihaa
open Go Go.V
abbrev o24_0:List Ins:=[⟨some 1,.box 8 (.t 0),none,true⟩,
 ⟨some 2,.mv (.k (.c (.raw (.pointer none)))),none,true⟩,
 ⟨some 3,.mv (.k (.c (.int .i64 0))),none,true⟩]
abbrev o24_1:List Ins:=[⟨some 5,.ld false 8 (.t 1),none,true⟩,
 ⟨some 6,.call (.k (.fn 28 [])) [(.t 5)],none,true⟩,
 ⟨some 4,.mv (.t 6),none,true⟩]
abbrev o24_2:List Ins:=[⟨some 7,.mv (.t 4),none,true⟩,
 ⟨some 8,.bin .neq (.t 7) (.k (.c (.int .i64 0))),none,true⟩]
abbrev o24_3:List Ins:=[⟨some 9,.mv (.t 4),none,true⟩,
 ⟨some 2,.mv (.k (.c (.raw (.pointer none)))),none,true⟩,
 ⟨some 3,.mv (.t 9),none,true⟩]
abbrev v24_4:VC:=(.seq (.ops o24_3) .ret)
abbrev v24_5:VC:=(.cond (.t 8) v24_4 .skip)
abbrev v24_6:VC:=(.seq (.ops o24_2) v24_5)
abbrev o24_7:List Ins:=[⟨some 10,.ld false 8 (.t 1),none,true⟩,
 ⟨some 11,.bld [(.c (.int .i64 0)),(.c (.raw (.slice none 0 0))),(.c (.raw (.slice none 0 0))),(.c (.raw (.slice none 0 0))),(.c (.raw (.slice none 0 0))),(.c (.raw (.slice none 0 0))),(.c (.int .i64 0)),(.c (.int .i64 0))] [(0,8,(.t 10))],none,true⟩,
 ⟨some 12,.box 8 (.t 11),none,true⟩,
 ⟨some 2,.mv (.t 12),none,true⟩,
 ⟨some 3,.mv (.k (.c (.int .i64 0))),none,true⟩]
abbrev v24_8:VC:=(.seq (.ops o24_7) .ret)
abbrev v24_9:VC:=(.seq (.seq (.ops o24_1) v24_6) v24_8)
def ir24:FC:=⟨1,13,[.t 2,.t 3],(.seq (.ops o24_0) v24_9)⟩
abbrev o25_0:List Ins:=[⟨some 4,.mv (.k (.c (.int .i64 0))),none,true⟩]
abbrev o25_1:List Ins:=[⟨some 5,.mv (.k (.c (.int .i64 0))),none,true⟩]
abbrev o25_2:List Ins:=[⟨some 8,.mv (.t 1),none,true⟩,
 ⟨some 9,.len (.t 8),none,true⟩,
 ⟨some 10,.mv (.k (.c (.int .i64 0))),none,true⟩]
abbrev o25_3:List Ins:=[⟨some 11,.bin .lss (.t 10) (.t 9),none,true⟩]
abbrev o25_4:List Ins:=[⟨some 12,.mv (.t 10),none,true⟩,
 ⟨some 13,.ia 1 (.t 8) (.t 10),none,true⟩,
 ⟨some 14,.ld true 1 (.t 13),none,true⟩,
 ⟨some 6,.mv (.t 12),none,true⟩,
 ⟨some 7,.mv (.t 14),none,true⟩]
abbrev o25_5:List Ins:=[⟨some 15,.mv (.t 5),none,true⟩,
 ⟨some 16,.mv (.t 7),none,true⟩,
 ⟨some 17,.mv (.t 0),none,true⟩,
 ⟨some 18,.nilc (.t 17),none,true⟩,
 ⟨some 19,.fa 0 (.t 18),none,true⟩,
 ⟨some 20,.fa 0 (.t 19),none,true⟩,
 ⟨some 21,.fa 2 (.t 20),none,true⟩,
 ⟨some 22,.ld true 1 (.t 21),none,true⟩,
 ⟨some 23,.mv (.t 6),none,true⟩,
 ⟨some 24,.ia 1 (.t 22) (.t 23),none,true⟩,
 ⟨some 25,.ld true 1 (.t 24),none,true⟩,
 ⟨some 26,.bin .mul (.t 16) (.t 25),none,true⟩,
 ⟨some 27,.bin .add (.t 15) (.t 26),none,true⟩,
 ⟨some 5,.mv (.t 27),none,true⟩]
abbrev v25_6:VC:=(.seq (.ops o25_4) (.ops o25_5))
abbrev o25_7:List Ins:=[⟨some 28,.bin .add (.t 10) (.k (.c (.int .i64 1))),none,true⟩,
 ⟨some 10,.mv (.t 28),none,true⟩]
abbrev v25_8:VC:=(.seq (.block 1 v25_6) (.ops o25_7))
abbrev v25_9:VC:=(.seq (.cond (.t 11) .skip (.exit 0)) v25_8)
abbrev v25_10:VC:=(.seq (.ops o25_3) v25_9)
-- K25_1: changed and kept: [10,5]
abbrev K25_1:List Nat:=[0,8,9]
abbrev v25_11:VC:=(.loop v25_10)
abbrev v25_12:VC:=(.block 0 v25_11)
abbrev o25_13:List Ins:=[⟨some 29,.mv (.t 5),none,true⟩,
 ⟨some 4,.mv (.t 29),none,true⟩]
abbrev v25_14:VC:=(.seq (.ops o25_13) .ret)
abbrev v25_15:VC:=(.seq (.seq (.ops o25_2) v25_12) v25_14)
abbrev v25_16:VC:=(.seq (.ops o25_1) v25_15)
def ir25:FC:=⟨2,30,[.t 4],(.seq (.ops o25_0) v25_16)⟩
abbrev o9_0:List Ins:=[⟨some 1,.box 8 (.t 0),none,true⟩,
 ⟨some 2,.mv (.k (.c (.int .i64 0))),none,true⟩,
 ⟨some 3,.mv (.k (.c (.int .i64 0))),none,true⟩,
 ⟨some 4,.mv (.k (.c (.int .i64 0))),none,true⟩,
 ⟨some 5,.mv (.k (.c (.int .i64 0))),none,true⟩]
abbrev o9_1:List Ins:=[⟨some 8,.ld false 8 (.t 1),none,true⟩,
 ⟨some 9,.call (.k (.fn 24 [])) [(.t 8)],none,true⟩,
 ⟨some 7,.mv (.t 9),none,true⟩,
 ⟨some 10,.ext (.t 7) 0,none,true⟩,
 ⟨some 11,.ext (.t 7) 1,none,true⟩,
 ⟨some 6,.mv (.t 10),none,true⟩,
 ⟨some 5,.mv (.t 11),none,true⟩]
abbrev o9_2:List Ins:=[⟨some 12,.mv (.t 5),none,true⟩,
 ⟨some 13,.bin .neq (.t 12) (.k (.c (.int .i64 0))),none,true⟩]
abbrev o9_3:List Ins:=[⟨some 14,.mv (.t 5),none,true⟩,
 ⟨some 2,.mv (.k (.c (.int .i64 0))),none,true⟩,
 ⟨some 3,.mv (.k (.c (.int .i64 0))),none,true⟩,
 ⟨some 4,.mv (.k (.c (.int .i64 0))),none,true⟩,
 ⟨some 5,.mv (.t 14),none,true⟩]
abbrev v9_4:VC:=(.seq (.ops o9_3) .ret)
abbrev v9_5:VC:=(.cond (.t 13) v9_4 .skip)
abbrev o9_6:List Ins:=[⟨some 15,.mv (.t 6),none,true⟩,
 ⟨some 16,.fa 4 (.t 1),none,true⟩,
 ⟨some 17,.ld true 1 (.t 16),none,true⟩,
 ⟨some 18,.call (.k (.fn 25 [])) [(.t 15),(.t 17)],none,true⟩,
 ⟨some 3,.mv (.t 18),none,true⟩]
abbrev o9_7:List Ins:=[⟨some 19,.mv (.t 6),none,false⟩,
 ⟨some 20,.fa 3 (.t 1),none,false⟩,
 ⟨some 21,.ld true 1 (.t 20),none,false⟩,
 ⟨some 22,.call (.k (.fn 25 [])) [(.t 19),(.t 21)],none,false⟩,
 ⟨some 23,.mv (.t 3),none,false⟩,
 ⟨some 24,.bin .sub (.t 22) (.t 23),none,false⟩,
 ⟨some 25,.mv (.t 3),none,false⟩,
 ⟨some 26,.mv (.t 6),none,false⟩,
 ⟨some 27,.fa 5 (.t 1),none,false⟩,
 ⟨some 28,.ld true 1 (.t 27),none,false⟩,
 ⟨some 29,.call (.k (.fn 25 [])) [(.t 26),(.t 28)],none,false⟩,
 ⟨some 2,.mv (.t 24),none,false⟩,
 ⟨some 3,.mv (.t 25),none,true⟩,
 ⟨some 4,.mv (.t 29),none,true⟩,
 ⟨some 5,.mv (.k (.c (.int .i64 0))),none,true⟩]
abbrev v9_8:VC:=(.seq (.dops o9_7) .ret)
abbrev v9_9:VC:=(.seq (.ops o9_6) v9_8)
abbrev v9_10:VC:=(.seq (.seq (.ops o9_2) v9_5) v9_9)
abbrev v9_11:VC:=(.seq (.ops o9_1) v9_10)
def ir9:FC:=⟨1,30,[.t 2,.t 3,.t 4,.t 5],(.seq (.ops o9_0) v9_11)⟩
abbrev o61_0:List Ins:=[⟨some 2,.alloc [(.c (.int .i64 0)),(.c (.int .i64 0)),(.c (.int .i64 0)),(.c (.int .i64 0))],none,true⟩]
abbrev o61_1:List Ins:=[⟨some 3,.alloc [(.c (.int .i64 0)),(.c (.int .i64 0)),(.c (.int .i64 0)),(.c (.int .i64 0))],none,true⟩]
abbrev o61_2:List Ins:=[⟨some 6,.mv (.t 0),none,true⟩,
 ⟨some 7,.nilc (.t 6),none,true⟩,
 ⟨some 8,.fa 0 (.t 7),none,true⟩,
 ⟨some 9,.fa 3 (.t 8),none,true⟩,
 ⟨some 10,.ld true 1 (.t 9),none,true⟩,
 ⟨some 11,.len (.t 10),none,true⟩,
 ⟨some 12,.mv (.k (.c (.int .i64 0))),none,true⟩]
abbrev o61_3:List Ins:=[⟨some 13,.bin .lss (.t 12) (.t 11),none,true⟩]
abbrev o61_4:List Ins:=[⟨some 14,.mv (.t 12),none,true⟩,
 ⟨some 15,.ia 1 (.t 10) (.t 12),none,true⟩,
 ⟨some 16,.ld true 1 (.t 15),none,true⟩,
 ⟨some 4,.mv (.t 14),none,true⟩,
 ⟨some 5,.mv (.t 16),none,true⟩]
abbrev o61_5:List Ins:=[⟨some 17,.mv (.t 4),none,true⟩,
 ⟨some 18,.mv (.t 5),none,true⟩,
 ⟨some 19,.mv (.t 0),none,true⟩,
 ⟨some 20,.nilc (.t 19),none,true⟩,
 ⟨some 21,.fa 0 (.t 20),none,true⟩,
 ⟨some 22,.fa 5 (.t 21),none,true⟩,
 ⟨some 23,.ld true 1 (.t 22),none,true⟩,
 ⟨some 24,.mv (.t 4),none,true⟩,
 ⟨some 25,.ia 1 (.t 23) (.t 24),none,true⟩,
 ⟨some 26,.ld true 1 (.t 25),none,true⟩,
 ⟨some 27,.bin .add (.t 18) (.t 26),none,true⟩,
 ⟨some 28,.iap 4 1 (.t 3) (.t 17),none,true⟩,
 ⟨none,.st 1 (.t 28) (.t 27),none,true⟩]
abbrev v61_6:VC:=(.seq (.ops o61_4) (.ops o61_5))
abbrev o61_7:List Ins:=[⟨some 29,.bin .add (.t 12) (.k (.c (.int .i64 1))),none,true⟩,
 ⟨some 12,.mv (.t 29),none,true⟩]
abbrev v61_8:VC:=(.seq (.block 1 v61_6) (.ops o61_7))
abbrev v61_9:VC:=(.seq (.cond (.t 13) .skip (.exit 0)) v61_8)
abbrev v61_10:VC:=(.seq (.ops o61_3) v61_9)
-- K61_1: changed and kept: [12]
abbrev K61_1:List Nat:=[0,2,3,10,11]
abbrev v61_11:VC:=(.loop v61_10)
abbrev v61_12:VC:=(.block 0 v61_11)
abbrev o61_13:List Ins:=[⟨some 30,.ld false 4 (.t 3),none,true⟩,
 ⟨none,.st 4 (.t 2) (.t 30),none,true⟩]
abbrev v61_14:VC:=(.seq (.ops o61_13) .ret)
abbrev v61_15:VC:=(.seq (.seq (.ops o61_2) v61_12) v61_14)
abbrev v61_16:VC:=(.seq (.ops o61_1) v61_15)
def ir61:FC:=⟨1,31,[.cell 2 false 4],(.seq (.ops o61_0) v61_16)⟩
theorem c24:compM Try.prog [] 24 = some ir24:=by kernel_rfl
theorem c25:compM Try.prog [] 25 = some ir25:=by kernel_rfl
theorem c9:compM Try.prog [] 9 = some ir9:=by kernel_rfl
theorem c61:compM Try.prog [] 61 = some ir61:=by kernel_rfl
attribute [local go_sem] Nat.reduceEqDiff Nat.reduceAdd Nat.reduceMul reduceIte Nat.reduceLeDiff Nat.reduceLT Nat.reduceBEq reduceCtorEq
structure BxOk (b:Bx):Prop where
 wh:WhOk b.wh
 pl:0 ≤ b.pl ∧ b.pl ≤ 9999
 sk:0 ≤ b.sk ∧ b.sk ≤ 9
 fl:b.fo.length = b.wh.co.length
 fo:∀ n ∈ b.fo,0 ≤ n ∧ n ≤ 12
 ml:b.ma.length = b.wh.co.length
 ma:∀ n ∈ b.ma,0 ≤ n ∧ n ≤ 12
 sl:b.sl.length = b.wh.co.length
 sn:∀ n ∈ b.sl,0 ≤ n ∧ n ≤ 12
 mm:mkK b.fo b.ma b.fo.length = true
 sum:sumK b.fo b.sl b.fo.length ≤ 12
theorem bxB_ok {b:Bx} (h:bxB b = true):BxOk b:=by
 simp only [bxB,Bool.and_eq_true,decide_eq_true_eq,within] at h
 obtain ⟨⟨⟨⟨⟨⟨⟨h1,h2⟩,h3⟩,h4⟩,h5⟩,h6⟩,h7⟩,h8⟩:=h
 have k1:=lstB_ok h4
 have k2:=lstB_ok h5
 have k3:=lstB_ok h6
 exact ⟨whB_ok h1,h2,h3,k1.1,k1.2,k2.1,k2.2,k3.1,k3.2,h7,h8⟩
def bxPt (b:Bx):AV:=if bxB b then .c (.pt b.cds) else .c (.raw (.pointer none))
theorem open24 (b:Bx):FSpec Try.prog 24 [b.av] (.tup [bxPt b,iv (bxE b)]):=by
 refine FSpec_of c24 (Nat.le_refl _) (by decide) fun C hP hN hC hL => ?_; rw [init_st]
 simp only [ir24,Bx.av,Bx.avs]
 (repeat ((first | refine Va ?_ | refine Vb ?_ | refine Vc ?_ | refine Vd ?_ | refine Ve ?_ | refine Vf ?_); (try simp only [go_sem,hP,Bx.avs,ints]); (repeat refine qJ ?_)))
 (refine AS_pu (check28 b) ?_; simp only [go_sem,hP,Bx.av,Bx.avs,ints]; (repeat refine qJ ?_); (repeat ((first | refine Va ?_ | refine Vb ?_ | refine Vc ?_ | refine Vd ?_ | refine Ve ?_ | refine Vf ?_); (try simp only [go_sem,hP,Bx.av,Bx.avs,ints]); (repeat refine qJ ?_))))
 by_cases h1:bxB b = true
 ·have e0:bxE b = 0:=by unfold bxE; rw [if_pos h1]
  have e1:bxPt b = .c (.pt b.cds):=by unfold bxPt; rw [if_pos h1]
  rw [e0,e1]
  (refine WV_cond rfl (fun h => ?_) (fun h => ?_))
  ·simp at h
  ·(repeat ((first | refine Va ?_ | refine Vb ?_ | refine Vc ?_ | refine Vd ?_ | refine Ve ?_ | refine Vf ?_); (try simp only [go_sem,hP]); (repeat refine qJ ?_)))
   refine WV_freeze 12 (ds:=b.cds) rfl rfl ?_
   simp only [go_sem]
   (refine WV_ret ?_; simp only [thenQ,inQ,RetQ,RetOk,resAll,resA]; simp only [go_sem,tupA,AV.port,AV.portL,exists_eq_left']; (first | exact AVle.of rfl | refine AVle.of ?_ | skip))
 ·have h1:bxB b = false:=by simpa using h1
  have e0:bxE b = 50:=by unfold bxE; rw [h1]; rfl
  have e1:bxPt b = .c (.raw (.pointer none)):=by unfold bxPt; rw [h1]; rfl
  rw [e0,e1]
  (refine WV_cond rfl (fun h => ?_) (fun h => ?_))
  ·(repeat ((first | refine Va ?_ | refine Vb ?_ | refine Vc ?_ | refine Vd ?_ | refine Ve ?_ | refine Vf ?_); (try simp only [go_sem,hP]); (repeat refine qJ ?_)))
   (refine WV_ret ?_; simp only [thenQ,inQ,RetQ,RetOk,resAll,resA]; simp only [go_sem,tupA,AV.port,AV.portL,exists_eq_left']; (first | exact AVle.of rfl | refine AVle.of ?_ | skip))
  ·simp at h
def worthK (w:Wh) (l:List Int):Nat → Int
 | 0 => 0
 | k + 1 => worthK w l k + l.getD k 0 * w.co.getD k 0
def worth (w:Wh) (l:List Int):Int:=worthK w l l.length
theorem worthK_ok {w:Wh} (hw:WhOk w) {l:List Int} (hl:l.length ≤ w.co.length) (hn:∀ n ∈ l,0 ≤ n ∧ n ≤ 14):∀ k:Nat,k ≤ l.length → 0 ≤ worthK w l k ∧ worthK w l k ≤ 1400 * k
 | 0,_ => by simp [worthK]
 | k + 1,h => by
  have ih:=worthK_ok hw hl hn k (by omega)
  have e1:=getD_in hn (k:=k) (by omega)
  have e2:=getD_in hw.co (k:=k) (by omega)
  simp only [worthK]
  have h1:0 ≤ l.getD k 0 * w.co.getD k 0:=Int.mul_nonneg (by omega) (by omega)
  have h2:l.getD k 0 * w.co.getD k 0 ≤ 14 * 100:=Int.mul_le_mul e1.2 e2.2 (by omega) (by omega)
  omega
theorem worth_ok {w:Wh} (hw:WhOk w) {l:List Int} (hl:l.length ≤ w.co.length) (hn:∀ n ∈ l,0 ≤ n ∧ n ≤ 14):0 ≤ worth w l ∧ worth w l ≤ 5600:=by
 have:=worthK_ok hw hl hn l.length (Nat.le_refl _)
 have:=hw.cl
 unfold worth
 omega
set_option maxHeartbeats 8000000 in
theorem worth25 {b:Bx} (hw:WhOk b.wh) {l:List Int} (hl:l.length ≤ b.wh.co.length) (hn:∀ n ∈ l,0 ≤ n ∧ n ≤ 14):FSpec Try.prog 25 [.c (.pt b.cds),.c (ints l)] (iv (worth b.wh l)):=by
 have hcl:=hw.cl
 refine FSpec_of c25 (Nat.le_refl _) (by decide) fun C hP hN hC hL => ?_; rw [init_st]
 simp only [ir25]
 (repeat ((first | refine Va ?_ | refine Vb ?_ | refine Vc ?_ | refine Vd ?_ | refine Ve ?_ | refine Vf ?_); (try simp only [go_sem,hP,ints,List.length_map]); (repeat refine qJ ?_)))
 (refine WV_loopK K25_1 [] (fun k:Nat => k ≤ l.length) (fun k => l.length - k) (fun k => [(10,iv k),(5,iv (worthK b.wh l k))]) (fun _ => []) 0 (Nat.zero_le _) ?_ ?_)
 ·(refine Sub_of (by simp only [go_sem]; ((repeat' (first | exact EnvLe_e0 _ _ | refine EnvLe_upd ?_ ?_)) <;> ((try simp only [upd_app,e0_app,o0_app,Nat.reduceEqDiff,reduceIte]); first | exact AWk.refl _ _ | exact AWk.int (by omega) | exact AWk.int (by rw [w64 (by omega) (by omega)]; omega) | exact AWk.grow rfl | exact AWk.nil _ | exact AWk.of (by simp [worthK])))) (by simp only [go_sem]; exact ObjLe_au))
 ·intro k hk
  (repeat ((first | refine Va ?_ | refine Vb ?_ | refine Vc ?_ | refine Vd ?_ | refine Ve ?_ | refine Vf ?_); (try simp only [go_sem,hP]); (repeat refine qJ ?_)))
  (refine WV_cond rfl (fun h => ?_) (fun h => ?_))
  ·have hi:k < l.length:=by simpa using h
   have hi2:k < b.wh.co.length:=by omega
   have g1:=ints_get hi
   have g2:=ints_get hi2
   have e1:=getD_in hn hi
   have e2:=getD_in hw.co hi2
   have hb:=worthK_ok hw hl hn k (by omega)
   have hs:worthK b.wh l (k + 1) = worthK b.wh l k + l.getD k 0 * b.wh.co.getD k 0:=rfl
   generalize l.getD k 0 = x at *
   generalize b.wh.co.getD k 0 = y at *
   have h1:0 ≤ x * y:=Int.mul_nonneg (by omega) (by omega)
   have h2:x * y ≤ 14 * 100:=Int.mul_le_mul e1.2 e2.2 (by omega) (by omega)
   have w1:=w64 (n:=(k:Int) + 1) (by omega) (by omega)
   have w2:=w64 (n:=x * y) (by omega) (by omega)
   have w3:=w64 (n:=worthK b.wh l k + x * y) (by omega) (by omega)
   (repeat ((first | refine Va ?_ | refine Vb ?_ | refine Vc ?_ | refine Vd ?_ | refine Ve ?_ | refine Vf ?_); (try simp only [go_sem,hP,g1,g2,ints,Bx.cds,List.length_map,Int.toNat_natCast,Int.ofNat_lt,hi,hi2,Int.natCast_nonneg,w1,w2,w3]); (repeat refine qJ ?_)))
   refine ⟨k + 1,by omega,by omega,?_⟩
   rw [hs]
   (refine Sub_of (by simp only [go_sem]; ((repeat' (first | exact EnvLe_e0 _ _ | refine EnvLe_upd ?_ ?_)) <;> ((try simp only [upd_app,e0_app,o0_app,Nat.reduceEqDiff,reduceIte]); first | exact AWk.refl _ _ | exact AWk.int (by omega) | exact AWk.int (by rw [w64 (by omega) (by omega)]; omega) | exact AWk.grow rfl | exact AWk.nil _ | exact AWk.of (by simp [ints])))) (by simp only [go_sem]; exact ObjLe_au))
  ·have hi:k = l.length:=by simp at h; omega
   subst hi
   (repeat ((first | refine Va ?_ | refine Vb ?_ | refine Vc ?_ | refine Vd ?_ | refine Ve ?_ | refine Vf ?_); (try simp only [go_sem,hP]); (repeat refine qJ ?_)))
   (refine WV_ret ?_; simp only [thenQ,inQ,RetQ,RetOk,resAll,resA]; simp only [go_sem,tupA,AV.port,AV.portL,exists_eq_left',worth]; (first | exact AVle.of rfl | refine AVle.of ?_ | skip))
def cashP (b:Bx):Int × Int × Int × Int:=if bxB b then (worth b.wh b.fo - worth b.wh b.ma,worth b.wh b.ma,worth b.wh b.sl,0) else (0,0,0,50)
theorem le14 {l:List Int} (h:∀ n ∈ l,0 ≤ n ∧ n ≤ 12):∀ n ∈ l,0 ≤ n ∧ n ≤ 14:=fun n hn => by have:=h n hn; omega
theorem bxPt_no {b:Bx} (h:bxB b = false):bxPt b = .c (.raw (.pointer none)):=by unfold bxPt; rw [h]; rfl
theorem bxPt_ok {b:Bx} (h:bxB b = true):bxPt b = .c (.pt b.cds):=by unfold bxPt; rw [if_pos h]
theorem bxE_no {b:Bx} (h:bxB b = false):bxE b = 50:=by unfold bxE; rw [h]; rfl
theorem bxE_ok {b:Bx} (h:bxB b = true):bxE b = 0:=by unfold bxE; rw [if_pos h]
theorem cash9 (b:Bx):FSpec Try.prog 9 [b.av] (.tup [iv (cashP b).1,iv (cashP b).2.1,iv (cashP b).2.2.1,iv (cashP b).2.2.2]):=by
 refine FSpec_of c9 (Nat.le_refl _) (by decide) fun C hP hN hC hL => ?_; rw [init_st]
 simp only [ir9,Bx.av,Bx.avs]
 (repeat ((first | refine Va ?_ | refine Vb ?_ | refine Vc ?_ | refine Vd ?_ | refine Ve ?_ | refine Vf ?_); (try simp only [go_sem,hP,Bx.avs,ints]); (repeat refine qJ ?_)))
 have ho:=open24 b
 by_cases h1:bxB b = true
 ·rw [bxE_ok h1,bxPt_ok h1] at ho
  have e1:cashP b = (worth b.wh b.fo - worth b.wh b.ma,worth b.wh b.ma,worth b.wh b.sl,0):=by unfold cashP; rw [if_pos h1]
  have hb:=bxB_ok h1
  have f1:=worth_ok hb.wh (Nat.le_of_eq hb.fl) (le14 hb.fo)
  have f2:=worth_ok hb.wh (Nat.le_of_eq hb.ml) (le14 hb.ma)
  have w1:=w64 (n:=worth b.wh b.fo - worth b.wh b.ma) (by omega) (by omega)
  rw [e1]
  (refine AS_pu (ho) ?_; simp only [go_sem,hP,Bx.av,Bx.avs,ints]; (repeat refine qJ ?_); (repeat ((first | refine Va ?_ | refine Vb ?_ | refine Vc ?_ | refine Vd ?_ | refine Ve ?_ | refine Vf ?_); (try simp only [go_sem,hP,Bx.av,Bx.avs,ints]); (repeat refine qJ ?_))))
  (refine WV_cond rfl (fun h => ?_) (fun h => ?_))
  ·simp at h
  ·(repeat ((first | refine Va ?_ | refine Vb ?_ | refine Vc ?_ | refine Vd ?_ | refine Ve ?_ | refine Vf ?_); (try simp only [go_sem,hP]); (repeat refine qJ ?_)))
   (refine AS_pu (worth25 hb.wh (Nat.le_of_eq hb.ml) (le14 hb.ma)) ?_; simp only [go_sem,hP,ints]; (repeat refine qJ ?_); (repeat ((first | refine Va ?_ | refine Vb ?_ | refine Vc ?_ | refine Vd ?_ | refine Ve ?_ | refine Vf ?_); (try simp only [go_sem,hP,ints]); (repeat refine qJ ?_))))
   (refine ACall_of (worth25 hb.wh (Nat.le_of_eq hb.fl) (le14 hb.fo)) rfl rfl rfl rfl rfl ?_; simp only [go_sem,hP,ints,w1]; (repeat refine qJ ?_); (repeat ((first | refine Va ?_ | refine Vb ?_ | refine Vc ?_ | refine Vd ?_ | refine Ve ?_ | refine Vf ?_); (try simp only [go_sem,hP,ints,w1]); (repeat refine qJ ?_))))
   (refine ACall_of (worth25 hb.wh (Nat.le_of_eq hb.sl) (le14 hb.sn)) rfl rfl rfl rfl rfl ?_; simp only [go_sem,hP,ints]; (repeat refine qJ ?_); (repeat ((first | refine Va ?_ | refine Vb ?_ | refine Vc ?_ | refine Vd ?_ | refine Ve ?_ | refine Vf ?_); (try simp only [go_sem,hP,ints]); (repeat refine qJ ?_))))
   (refine WV_ret ?_; simp only [thenQ,inQ,RetQ,RetOk,resAll,resA]; simp only [go_sem,tupA,AV.port,AV.portL,exists_eq_left']; (first | exact AVle.of rfl | refine AVle.of ?_ | skip))
 ·have h1:bxB b = false:=by simpa using h1
  rw [bxE_no h1,bxPt_no h1] at ho
  have e1:cashP b = (0,0,0,50):=by unfold cashP; rw [h1]; rfl
  rw [e1]
  (refine AS_pu (ho) ?_; simp only [go_sem,hP,Bx.av,Bx.avs,ints]; (repeat refine qJ ?_); (repeat ((first | refine Va ?_ | refine Vb ?_ | refine Vc ?_ | refine Vd ?_ | refine Ve ?_ | refine Vf ?_); (try simp only [go_sem,hP,Bx.av,Bx.avs,ints]); (repeat refine qJ ?_))))
  (refine WV_cond rfl (fun h => ?_) (fun h => ?_))
  ·(repeat ((first | refine Va ?_ | refine Vb ?_ | refine Vc ?_ | refine Vd ?_ | refine Ve ?_ | refine Vf ?_); (try simp only [go_sem,hP]); (repeat refine qJ ?_)))
   (refine WV_ret ?_; simp only [thenQ,inQ,RetQ,RetOk,resAll,resA]; simp only [go_sem,tupA,AV.port,AV.portL,exists_eq_left']; (first | exact AVle.of rfl | refine AVle.of ?_ | skip))
  ·simp at h
def bagOf (l:List Int):List Int:=[l.getD 0 0,l.getD 1 0,l.getD 2 0,l.getD 3 0]
def bagAv (a:List Int):List AV:=a.map fun n => .c (.int .i64 n)
def addL (a b:List Int):List Int:=List.zipWith (· + ·) a b
def putL (b:Bx):List Int:=addL b.fo b.sl
theorem bag_snoc {n:Int}:∀ {p:List Int},p.length < 4 → (bagAv (bagOf p)).set p.length (.c (.int .i64 n)) = bagAv (bagOf (p ++ [n]))
 | [],_ => rfl
 | [a],_ => rfl
 | [a,b],_ => rfl
 | [a,b,c],_ => rfl
 | a :: b :: c :: d :: p,h => by simp at h; omega
set_option maxHeartbeats 8000000 in
theorem put61 {b:Bx} (hb:BxOk b):FSpec Try.prog 61 [.c (.pt b.cds)] (.agg (bagAv (bagOf (putL b)))):=by
 have hcl:=hb.wh.cl
 have hfl:=hb.fl
 have hsl:=hb.sl
 refine FSpec_of c61 (Nat.le_refl _) (by decide) fun C hP hN hC hL => ?_; rw [init_st]
 simp only [ir61]
 (repeat ((first | refine Va ?_ | refine Vb ?_ | refine Vc ?_ | refine Vd ?_ | refine Ve ?_ | refine Vf ?_); (try simp only [go_sem,hP,Bx.cds,ints,List.length_map]); (repeat refine qJ ?_)))
 refine WV_loopK K61_1 [3] (fun k:Nat => k ≤ b.fo.length) (fun k => b.fo.length - k) (fun k => [(12,iv k)]) (fun k => [(3,.box (bagAv (bagOf ((putL b).take k))))]) 0 (by omega) ?_ ?_
 ·exact Sub_au
 ·intro k hk
  (repeat ((first | refine Va ?_ | refine Vb ?_ | refine Vc ?_ | refine Vd ?_ | refine Ve ?_ | refine Vf ?_); (try simp only [go_sem,hP,bagAv,bagOf,List.map_cons,List.map_nil]); (repeat refine qJ ?_)))
  (refine WV_cond rfl (fun h => ?_) (fun h => ?_))
  ·have hi:k < b.fo.length:=by simpa using h
   have hi2:k < b.sl.length:=by omega
   have g1:=ints_get hi
   have g2:=ints_get hi2
   have e1:=getD_in hb.fo hi
   have e2:=getD_in hb.sn hi2
   have hs:(putL b).take (k + 1) = (putL b).take k ++ [b.fo.getD k 0 + b.sl.getD k 0]:=by
    have hp:k < (putL b).length:=by simp [putL,addL]; omega
    rw [List.take_succ_eq_append_getElem hp]
    simp only [putL,addL,List.getElem_zipWith,getD_at hi,getD_at hi2]
   have hlk:((putL b).take k).length = k:=by simp [putL,addL]; omega
   generalize (putL b).take k = p at hs hlk
   generalize b.fo.getD k 0 = x at *
   generalize b.sl.getD k 0 = y at *
   have w1:=w64 (n:=(k:Int) + 1) (by omega) (by omega)
   have w2:=w64 (n:=x + y) (by omega) (by omega)
   have hk4:(k:Int) < 4:=by omega
   (repeat ((first | refine Va ?_ | refine Vb ?_ | refine Vc ?_ | refine Vd ?_ | refine Ve ?_ | refine Vf ?_); (try simp only [go_sem,hP,g1,g2,ints,Bx.cds,List.length_map,Int.toNat_natCast,Int.ofNat_lt,hi,hi2,Int.natCast_nonneg,w1,w2,hk4]); (repeat refine qJ ?_)))
   refine ⟨k + 1,by omega,by omega,?_⟩
   rw [hs]
   have hset:=bag_snoc (p:=p) (n:=x + y) (by omega)
   rw [hlk] at hset
   simp only [bagAv,bagOf,List.map_cons,List.map_nil] at hset
   rw [Nat.mul_one,hset]
   (refine Sub_of (by simp only [go_sem]; ((repeat' (first | exact EnvLe_e0 _ _ | refine EnvLe_upd ?_ ?_)) <;> ((try simp only [upd_app,e0_app,o0_app,Nat.reduceEqDiff,reduceIte]); first | exact AWk.refl _ _ | exact AWk.int (by omega) | exact AWk.int (by rw [w64 (by omega) (by omega)]; omega) | exact AWk.grow rfl | exact AWk.nil _ | exact AWk.of (by simp [ints])))) (by simp only [go_sem]; exact ObjLe_au))
  ·have hi:k = b.fo.length:=by simp at h; omega
   subst hi
   rw [List.take_of_length_le (by simp [putL,addL]; omega)]
   (repeat ((first | refine Va ?_ | refine Vb ?_ | refine Vc ?_ | refine Vd ?_ | refine Ve ?_ | refine Vf ?_); (try simp only [go_sem,hP]); (repeat refine qJ ?_)))
   (refine WV_ret ?_; simp only [thenQ,inQ,RetQ,RetOk,resAll,resA]; simp only [go_sem,tupA,AV.port,AV.portL,exists_eq_left']; (first | exact AVle.of rfl | refine AVle.of ?_ | skip))
end Go.Proofs.Ytakplakbbidihaa

namespace Go.Proofs.Ytakplakbbidihaa
open Go Go.V
attribute [local go_sem] Nat.reduceEqDiff Nat.reduceAdd Nat.reduceMul reduceIte Nat.reduceLeDiff Nat.reduceLT Nat.reduceBEq reduceCtorEq
structure Pt where
 pl:Int
 cr:Int
 a:Int
 b:Int
 c:Int
 d:Int
 bo:Int
 deriving DecidableEq
def Pt.l (p:Pt):List Int:=[p.pl,p.cr,p.a,p.b,p.c,p.d,p.bo]
theorem Pt.inj {p q:Pt} (h:p.l = q.l):p = q:=by
 cases p; cases q
 simp only [Pt.l,List.cons.injEq,and_true] at h
 simp only [Pt.mk.injEq]
 exact h
theorem ptLaw:KLaw Try.prog 113 (fun v => ∃ l,keyOf Try.prog 113 v = some l):=KLaw.wide (deep_law_gate (by kernel_rfl) (Nat.le_of_ble_eq_true (by kernel_rfl)) (Nat.le_of_ble_eq_true (by kernel_rfl)) (by kernel_rfl) (by kernel_rfl))
def i64 (n:Int):Prop:=-9223372036854775808 ≤ n ∧ n ≤ 9223372036854775807
theorem wf64 {n:Int} (h:i64 n):(Lit.int .i64 n).wf = true:=by
 simp only [Lit.wf,Bool.and_eq_true,decide_eq_true_eq]; exact h
set_option maxRecDepth 100000 in
theorem ptKey {p:Pt} (h1:i64 p.pl) (h2:i64 p.cr) (h3:i64 p.a) (h4:i64 p.b) (h5:i64 p.c) (h6:i64 p.d) (h7:i64 p.bo):∃ l,keyOf Try.prog 113 (kval true p.l) = some l:=by
 have u3:Try.prog.underlying 3 = some (.int .i64):=by kernel_rfl
 have u100:Try.prog.underlying 100 = some (.array 4 3):=by kernel_rfl
 have u111:Try.prog.underlying 111 = some (.struct (Try.prog.fieldsOf 111)):=by kernel_rfl
 have u113:Try.prog.underlying 113 = some (.struct (Try.prog.fieldsOf 113)):=by kernel_rfl
 have c3:Try.prog.cellsOf 3 = 1:=by kernel_rfl
 have c100:Try.prog.cellsOf 100 = 4:=by kernel_rfl
 have c111:Try.prog.cellsOf 111 = 2:=by kernel_rfl
 have c113:Try.prog.cellsOf 113 = 7:=by kernel_rfl
 have k3:∀ (n:Nat) (x:Int),i64 x → Try.prog.keyLits (n + 1) 3 [.int .i64 x] = some [.int .i64 x]:=fun n x h => by
  simp [Program.keyLits,u3,wf64 h]
 have k100:∀ (n:Nat),Try.prog.keyLits (n + 2) 100 [.int .i64 p.a,.int .i64 p.b,.int .i64 p.c,.int .i64 p.d] = some [.int .i64 p.a,.int .i64 p.b,.int .i64 p.c,.int .i64 p.d]:=fun n => by
  have hr:List.range 4 = [0,1,2,3]:=rfl
  have e:Try.prog.keyLits (n + 2) 100 [.int .i64 p.a,.int .i64 p.b,.int .i64 p.c,.int .i64 p.d] = if [Value.int .i64 p.a,.int .i64 p.b,.int .i64 p.c,.int .i64 p.d].length = Try.prog.cellsOf 100 then ((List.range 4).mapM fun i => Try.prog.keyLits (n + 1) 3 (([Value.int .i64 p.a,.int .i64 p.b,.int .i64 p.c,.int .i64 p.d].drop (i * Try.prog.cellsOf 3)).take (Try.prog.cellsOf 3))).map List.flatten else none:=by
   conv => lhs; unfold Program.keyLits
   simp only [u100]
  rw [e,c100,c3,if_pos (by rfl),hr]
  simp [k3 n _ h3,k3 n _ h4,k3 n _ h5,k3 n _ h6]
 have k111:∀ (n:Nat),Try.prog.keyLits (n + 2) 111 [.int .i64 p.pl,.int .i64 p.cr] = some [.int .i64 p.pl,.int .i64 p.cr]:=fun n => by
  have hf:((Try.prog.fieldsOf 111).toList.map fun f => (f.type,f.offset)) = [(3,0),(3,1)]:=by kernel_rfl
  have hb:(Try.prog.fieldsOf 111).all (·.name != "_") = true:=by kernel_rfl
  have e:Try.prog.keyLits (n + 2) 111 [.int .i64 p.pl,.int .i64 p.cr] = (((Try.prog.fieldsOf 111).toList.map fun f => (f.type,f.offset)).mapM fun q => Try.prog.keyLits (n + 1) q.1 (([Value.int .i64 p.pl,.int .i64 p.cr].drop q.2).take (Try.prog.cellsOf q.1))).map List.flatten:=by
   conv => lhs; unfold Program.keyLits
   simp only [u111]
   rw [if_pos ⟨by rw [c111]; rfl,hb⟩,List.mapM_map]
   rfl
  rw [e,hf]
  simp [c3,k3 n _ h1,k3 n _ h2]
 have k113:∀ (n:Nat),Try.prog.keyLits (n + 3) 113 [.int .i64 p.pl,.int .i64 p.cr,.int .i64 p.a,.int .i64 p.b,.int .i64 p.c,.int .i64 p.d,.int .i64 p.bo] = some [.int .i64 p.pl,.int .i64 p.cr,.int .i64 p.a,.int .i64 p.b,.int .i64 p.c,.int .i64 p.d,.int .i64 p.bo]:=fun n => by
  have hf:((Try.prog.fieldsOf 113).toList.map fun f => (f.type,f.offset)) = [(111,0),(100,2),(3,6)]:=by kernel_rfl
  have hb:(Try.prog.fieldsOf 113).all (·.name != "_") = true:=by kernel_rfl
  have e:Try.prog.keyLits (n + 3) 113 [.int .i64 p.pl,.int .i64 p.cr,.int .i64 p.a,.int .i64 p.b,.int .i64 p.c,.int .i64 p.d,.int .i64 p.bo] = (((Try.prog.fieldsOf 113).toList.map fun f => (f.type,f.offset)).mapM fun q => Try.prog.keyLits (n + 2) q.1 (([Value.int .i64 p.pl,.int .i64 p.cr,.int .i64 p.a,.int .i64 p.b,.int .i64 p.c,.int .i64 p.d,.int .i64 p.bo].drop q.2).take (Try.prog.cellsOf q.1))).map List.flatten:=by
   conv => lhs; unfold Program.keyLits
   simp only [u113]
   rw [if_pos ⟨by rw [c113]; rfl,hb⟩,List.mapM_map]
   rfl
  rw [e,hf]
  simp [c3,c100,c111,k3 (n + 1) _ h7,k100 n,k111 n]
 have ht:Try.prog.keyType 113 = true:=by kernel_rfl
 have hsz:3 ≤ Try.prog.types.size + 1:=Nat.le_of_ble_eq_true (by kernel_rfl)
 obtain ⟨n,hn⟩ : ∃ n,Try.prog.types.size + 1 = n + 3:=⟨Try.prog.types.size + 1 - 3,by omega⟩
 have hk:=k113 n
 rw [← hn] at hk
 have hfo:(kval true p.l).formed Try.prog 113 = true:=by
  simp only [kval,if_true,Value.formed,u113,c113]
  rfl
 have key:keyOf Try.prog 113 (kval true p.l) = ((Try.prog.keyLits (Try.prog.types.size + 1) 113 (kval true p.l).cells.toList).map fun ls => Lit.string (keyBytes ls)):=by
  unfold keyOf
  rw [u113]
  simp only [ht,hfo,Bool.and_self,if_true]
 have hc:(kval true p.l).cells.toList = [.int .i64 p.pl,.int .i64 p.cr,.int .i64 p.a,.int .i64 p.b,.int .i64 p.c,.int .i64 p.d,.int .i64 p.bo]:=rfl
 rw [hc,hk] at key
 exact ⟨_,key⟩
end Go.Proofs.Ytakplakbbidihaa

namespace Go.Proofs.Ytakplakbbidihaa
open Go Go.V
abbrev o68_0:List Ins:=[⟨some 1,.box 4 (.t 0),none,true⟩,
 ⟨some 2,.mv (.k (.c (.int .i64 0))),none,true⟩]
abbrev o68_1:List Ins:=[⟨some 3,.mv (.k (.c (.int .i64 0))),none,true⟩]
abbrev o68_2:List Ins:=[⟨some 6,.ld false 4 (.t 1),none,true⟩,
 ⟨some 7,.mv (.k (.c (.int .i64 0))),none,true⟩]
abbrev o68_3:List Ins:=[⟨some 8,.bin .lss (.t 7) (.k (.c (.int .i64 4))),none,true⟩]
abbrev o68_4:List Ins:=[⟨some 9,.raw (.index 100 (.tmp 6) (.tmp 7)),none,true⟩,
 ⟨some 5,.mv (.t 9),none,true⟩]
abbrev o68_5:List Ins:=[⟨some 10,.mv (.t 3),none,true⟩,
 ⟨some 11,.mv (.t 5),none,true⟩,
 ⟨some 12,.bin .add (.t 10) (.t 11),none,true⟩,
 ⟨some 3,.mv (.t 12),none,true⟩]
abbrev v68_6:VC:=(.seq (.ops o68_4) (.ops o68_5))
abbrev o68_7:List Ins:=[⟨some 13,.bin .add (.t 7) (.k (.c (.int .i64 1))),none,true⟩,
 ⟨some 7,.mv (.t 13),none,true⟩]
abbrev v68_8:VC:=(.seq (.block 1 v68_6) (.ops o68_7))
abbrev v68_9:VC:=(.seq (.cond (.t 8) .skip (.exit 0)) v68_8)
abbrev v68_10:VC:=(.seq (.ops o68_3) v68_9)
-- K68_1: changed and kept: [7,3]
abbrev v68_11:VC:=(.loop v68_10)
abbrev v68_12:VC:=(.block 0 v68_11)
abbrev o68_13:List Ins:=[⟨some 14,.mv (.t 3),none,true⟩,
 ⟨some 2,.mv (.t 14),none,true⟩]
abbrev v68_14:VC:=(.seq (.ops o68_13) .ret)
abbrev v68_15:VC:=(.seq (.seq (.ops o68_2) v68_12) v68_14)
abbrev v68_16:VC:=(.seq (.ops o68_1) v68_15)
def ir68:FC:=⟨1,15,[.t 2],(.seq (.ops o68_0) v68_16)⟩
abbrev o67_0:List Ins:=[⟨some 7,.box 7 (.t 1),none,true⟩]
abbrev o67_1:List Ins:=[⟨some 10,.fa 0 (.t 7),none,false⟩,
 ⟨some 11,.fa 1 (.t 10),none,false⟩,
 ⟨some 12,.ld true 1 (.t 11),none,false⟩,
 ⟨some 13,.ld false 4 (.t 2),none,false⟩,
 ⟨some 14,.call (.k (.fn 68 [])) [(.t 13)],none,false⟩,
 ⟨some 15,.fa 2 (.t 7),none,false⟩,
 ⟨some 16,.ld false 4 (.t 15),none,false⟩,
 ⟨some 17,.call (.k (.fn 68 [])) [(.t 16)],none,false⟩,
 ⟨some 18,.bin .sub (.t 14) (.t 17),none,false⟩,
 ⟨some 19,.mm false (.t 12) (.t 18),none,true⟩,
 ⟨some 20,.fa 0 (.t 7),none,true⟩,
 ⟨some 21,.fa 1 (.t 20),none,true⟩,
 ⟨none,.st 1 (.t 21) (.t 19),none,true⟩]
abbrev o67_2:List Ins:=[⟨some 23,.ld true 1 (.t 3),none,true⟩,
 ⟨some 24,.ld false 7 (.t 7),none,true⟩,
 ⟨some 25,.raw (.lookup 102 (.tmp 23) (.tmp 24) true),none,true⟩,
 ⟨some 22,.mv (.t 25),none,true⟩,
 ⟨some 26,.ext (.t 22) 0,none,true⟩,
 ⟨some 27,.ext (.t 22) 1,none,true⟩,
 ⟨some 8,.alloc [(.c (.int .i64 0)),(.c (.int .i64 0)),(.c (.int .i64 0)),(.c (.int .i64 0)),(.c (.int .i64 0)),(.c (.int .i64 0)),(.c (.int .i64 0)),(.c (.int .i64 0))],none,true⟩,
 ⟨none,.st 8 (.t 8) (.t 26),none,true⟩,
 ⟨some 9,.mv (.t 27),none,true⟩]
abbrev o67_3:List Ins:=[⟨some 28,.mv (.t 9),none,true⟩,
 ⟨some 29,.un .not (.t 28),none,true⟩]
abbrev o67_4:List Ins:=[⟨some 30,.ld true 1 (.t 3),none,true⟩,
 ⟨some 31,.ld false 7 (.t 7),none,true⟩,
 ⟨some 32,.mv (.t 0),none,true⟩,
 ⟨some 33,.ld false 7 (.t 4),none,true⟩,
 ⟨some 34,.bld [(.c (.int .i64 0)),(.c (.int .i64 0)),(.c (.int .i64 0)),(.c (.int .i64 0)),(.c (.int .i64 0)),(.c (.int .i64 0)),(.c (.int .i64 0)),(.c (.int .i64 0))] [(0,1,(.t 32)),(1,7,(.t 33))],none,true⟩,
 ⟨none,.raw (.mapUpdate 102 (.tmp 30) (.tmp 31) (.tmp 34)),none,true⟩]
abbrev o67_5:List Ins:=[⟨some 35,.ld true 1 (.t 5),none,true⟩,
 ⟨some 36,.ld false 7 (.t 7),none,true⟩,
 ⟨some 37,.bsl 113 7 [(.t 36)],none,true⟩,
 ⟨some 38,.app 113 7 56 (.t 35) (.t 37),none,true⟩,
 ⟨none,.st 1 (.t 5) (.t 38),none,true⟩]
abbrev v67_6:VC:=(.seq (.ops o67_4) (.ops o67_5))
abbrev v67_7:VC:=(.cond (.t 29) v67_6 .skip)
abbrev v67_8:VC:=(.seq (.ops o67_3) v67_7)
abbrev v67_9:VC:=(.seq (.ops o67_2) v67_8)
abbrev v67_10:VC:=(.seq (.dops o67_1) v67_9)
def ir67:FC:=⟨6,39,[],(.seq (.ops o67_0) v67_10)⟩
theorem c68:compM Try.prog [] 68 = some ir68:=by kernel_rfl
theorem c67:compM Try.prog [] 67 = some ir67:=by kernel_rfl
attribute [local go_sem] Nat.reduceEqDiff Nat.reduceAdd Nat.reduceMul reduceIte Nat.reduceLeDiff Nat.reduceLT Nat.reduceBEq reduceCtorEq
structure Bag where
 a:Int
 b:Int
 c:Int
 d:Int
 deriving DecidableEq
def Bag.l (x:Bag):List Int:=[x.a,x.b,x.c,x.d]
def Bag.many (x:Bag):Int:=x.a + x.b + x.c + x.d
structure BagOk (x:Bag):Prop where
 a:0 ≤ x.a ∧ x.a ≤ 14
 b:0 ≤ x.b ∧ x.b ≤ 14
 c:0 ≤ x.c ∧ x.c ≤ 14
 d:0 ≤ x.d ∧ x.d ≤ 14
 m:x.a + x.b + x.c + x.d ≤ 14
def Pt.bag (p:Pt):Bag:=⟨p.a,p.b,p.c,p.d⟩
theorem many68 {x:Bag} (hx:BagOk x):FSpec Try.prog 68 [.agg (bagAv x.l)] (iv x.many):=by
 obtain ⟨h1,h2,h3,h4,h5⟩:=hx
 refine FSpec_of c68 (Nat.le_refl _) (by decide) fun C hP hN hC hL => ?_; rw [init_st]
 simp only [ir68,bagAv,Bag.l,List.map_cons,List.map_nil]
 (repeat ((first | refine Va ?_ | refine Vb ?_ | refine Vc ?_ | refine Vd ?_ | refine Ve ?_ | refine Vf ?_); (try simp only [go_sem,hP]); (repeat refine qJ ?_)))
 refine WV_loopK [6] [] (fun k:Nat => k ≤ 4) (fun k => 4 - k) (fun k => [(7,iv k),(3,iv ((x.l.take k).sum))]) (fun _ => []) 0 (by omega) ?_ ?_
 ·(refine Sub_of (by simp only [go_sem]; ((repeat' (first | exact EnvLe_e0 _ _ | refine EnvLe_upd ?_ ?_)) <;> ((try simp only [upd_app,e0_app,o0_app,Nat.reduceEqDiff,reduceIte]); first | exact AWk.refl _ _ | exact AWk.int (by omega) | exact AWk.int (by rw [w64 (by omega) (by omega)]; omega) | exact AWk.grow rfl | exact AWk.nil _ | exact AWk.of (by simp [Bag.l])))) (by simp only [go_sem]; exact ObjLe_au))
 ·intro k hk
  (repeat ((first | refine Va ?_ | refine Vb ?_ | refine Vc ?_ | refine Vd ?_ | refine Ve ?_ | refine Vf ?_); (try simp only [go_sem,hP]); (repeat refine qJ ?_)))
  (refine WV_cond rfl (fun h => ?_) (fun h => ?_))
  ·have hi:k < 4:=by simp at h; omega
   obtain ⟨v,hv⟩ : ∃ v,x.l[k]? = some v:=⟨_,List.getElem?_eq_getElem hi⟩
   have hc:[AV.c (.int .i64 x.a),.c (.int .i64 x.b),.c (.int .i64 x.c),.c (.int .i64 x.d)][((k:Int)).toNat]? = some (.c (.int .i64 v)):=by
    have:=congrArg (Option.map fun n => AV.c (.int .i64 n)) hv
    rwa [← List.getElem?_map] at this
   have hs:(x.l.take (k + 1)).sum = (x.l.take k).sum + v:=by rw [List.take_add_one,hv,List.sum_append]; simp
   have hb:0 ≤ (x.l.take k).sum ∧ (x.l.take k).sum ≤ 42 ∧ 0 ≤ v ∧ v ≤ 14:=by
    have:k = 0 ∨ k = 1 ∨ k = 2 ∨ k = 3:=by omega
    rcases this with rfl | rfl | rfl | rfl <;> simp [Bag.l] at hv ⊢ <;> omega
   generalize (x.l.take k).sum = s at hs hb
   have w1:=w64 (n:=(k:Int) + 1) (by omega) (by omega)
   have w2:=w64 (n:=s + v) (by omega) (by omega)
   refine WV_skip ?_
   simp only [thenQ_normal]
   refine WV_seq_ (WV_block (WV_seq_ ?_))
   (refine WV_op ?_; simp only [go_sem,hP]; (repeat refine qJ ?_))
   refine raw_idx1 (e:=3) (n:=4) (x':=.t 6) (i':=.t 7) (k:=.i64) (j:=k) (by kernel_rfl) (by kernel_rfl) (by kernel_rfl) rfl rfl rfl rfl rfl rfl (by omega) hc ?_
   simp only [go_sem,hP]
   (repeat ((first | refine Va ?_ | refine Vb ?_ | refine Vc ?_ | refine Vd ?_ | refine Ve ?_ | refine Vf ?_); (try simp only [go_sem,hP,w1,w2]); (repeat refine qJ ?_)))
   refine ⟨k + 1,by omega,by omega,?_⟩
   rw [hs]
   exact Sub_au
  ·have hi:k = 4:=by simp at h; omega
   subst hi
   (repeat ((first | refine Va ?_ | refine Vb ?_ | refine Vc ?_ | refine Vd ?_ | refine Ve ?_ | refine Vf ?_); (try simp only [go_sem,hP]); (repeat refine qJ ?_)))
   (refine WV_ret ?_; simp only [thenQ,inQ,RetQ,RetOk,resAll,resA]; simp only [go_sem,tupA,AV.port,AV.portL,exists_eq_left',Bag.l,Bag.many]; (first | exact AVle.of rfl | refine AVle.of ?_ | skip))
   simp [Bag.l,Bag.many]; omega
def trim (A:Bag) (y:Pt):Pt:={ y with cr:=min y.cr (A.many - y.bag.many) }
abbrev Seen:=List (Pt × Int × Pt)
def gl (S:Seen):GL:=S.map fun e => (e.1.l,e.2.1 :: e.2.2.l)
def sks (S:Seen):List Pt:=S.map (·.1)
theorem glook_gl (S:Seen) (p:Pt):glook (gl S) p.l = (S.find? fun e => e.1 = p).map fun e => e.2.1 :: e.2.2.l:=by
 unfold glook gl
 rw [List.find?_map,Option.map_map]
 have:((fun q:List Int × List Int => q.1 == p.l) ∘ fun e:Pt × Int × Pt => (e.1.l,e.2.1 :: e.2.2.l)) = fun e => decide (e.1 = p):=by
  funext e
  simp only [Function.comp_apply]
  rw [Bool.eq_iff_iff]
  simp only [beq_iff_eq,decide_eq_true_eq]
  exact ⟨fun h => Pt.inj h,fun h => by rw [h]⟩
 rw [this]; rfl
theorem glook_is (S:Seen) (p:Pt):(glook (gl S) p.l).isSome = decide (p ∈ sks S):=by
 rw [glook_gl,Option.isSome_map,Bool.eq_iff_iff,List.find?_isSome,decide_eq_true_eq]
 simp only [sks,List.mem_map,decide_eq_true_eq]
theorem gput_gl {S:Seen} {p:Pt} (h:p ∉ sks S) (act:Int) (x:Pt):gput (gl S) p.l (act :: x.l) = gl (S ++ [(p,act,x)]):=by
 have h0:glook (gl S) p.l = none:=by
  have:=glook_is S p
  rw [decide_eq_false h] at this
  cases hg:glook (gl S) p.l with
  | none => rfl
  | some v => rw [hg] at this; cases this
 rw [gput_new h0]
 simp [gl]
def addS (A:Bag) (act:Int) (x:Pt) (s:Seen × List Pt) (y:Pt):Seen × List Pt:=if trim A y ∈ sks s.1 then s else (s.1 ++ [(trim A y,act,x)],s.2 ++ [trim A y])
structure PtOk (R:Int) (A:Bag) (p:Pt):Prop where
 pl:0 ≤ p.pl ∧ p.pl < R
 cr:0 ≤ p.cr ∧ p.cr ≤ 2000
 a:0 ≤ p.a ∧ p.a ≤ A.a
 b:0 ≤ p.b ∧ p.b ≤ A.b
 c:0 ≤ p.c ∧ p.c ≤ A.c
 d:0 ≤ p.d ∧ p.d ≤ A.d
 bo:0 ≤ p.bo ∧ p.bo ≤ 112 * p.bag.many
theorem PtOk.key {R:Int} {A:Bag} (hA:BagOk A) (hR:R ≤ 200) {p:Pt} (h:PtOk R A p):∃ l,keyOf Try.prog 113 (kval true p.l) = some l:=by
 obtain ⟨a1,a2,a3,a4,a5⟩:=hA
 obtain ⟨h1,h2,h3,h4,h5,h6,h7⟩:=h
 simp only [Pt.bag,Bag.many] at h7
 refine ptKey ⟨?_,?_⟩ ⟨?_,?_⟩ ⟨?_,?_⟩ ⟨?_,?_⟩ ⟨?_,?_⟩ ⟨?_,?_⟩ ⟨?_,?_⟩ <;> omega
theorem PtOk.trim {R:Int} {A:Bag} {p:Pt} (h:PtOk R A p):PtOk R A (trim A p):=by
 obtain ⟨h1,h2,h3,h4,h5,h6,h7⟩:=h
 refine ⟨h1,?_,h3,h4,h5,h6,h7⟩
 show 0 ≤ min p.cr (A.many - p.bag.many) ∧ min p.cr (A.many - p.bag.many) ≤ 2000
 simp only [Pt.bag,Bag.many]
 omega
def qls (q:List Pt):List (List Int):=q.map Pt.l
def SOk (R:Int) (A:Bag) (S:Seen):Prop:=∀ e ∈ S,PtOk R A e.1
theorem qls_len (q:List Pt):∀ y ∈ qls q,y.length = 7:=fun y hy => by
 obtain ⟨p,_,rfl⟩:=List.mem_map.1 hy; rfl
theorem ql1 (z:Pt):∀ y ∈ [z.l],y.length = 7:=qls_len [z]
theorem gl_keys {R:Int} {A:Bag} (hA:BagOk A) (hR:R ≤ 200) {S:Seen} (hS:SOk R A S):∀ p ∈ gl S,∃ l,keyOf Try.prog 113 (kval true p.1) = some l:=fun p hp => by
 obtain ⟨e,he,rfl⟩:=List.mem_map.1 hp
 exact (hS e he).key hA hR
set_option maxHeartbeats 8000000 in
set_option maxRecDepth 20000 in
theorem add67 {R:Int} {A:Bag} (hA:BagOk A) (hR:R ≤ 200) (act:Int) {y:Pt} (hy:PtOk R A y) (x:Pt) {S:Seen} (hS:SOk R A S) {q:List Pt} (bm bq off cap:Nat) (h1:q.length + 1 ≤ maxLen) (h2:(q.length + 1) * 56 ≤ 140737488355328) :
  FSpecL Try.prog 67 [iv act,kav true y.l,.bp 1000 0,.bp 1001 0,.bp 1002 0,.bp 1003 0] [.box (bagAv A.l),.box [.c (.raw (.map (some bm)))],.box (bagAv x.l),.box [qv bq off q.length cap],gmap true true (gl S) bm,qO 113 7 (qls q) bq off cap] []
   (fun r l' => r = .tup [] ∧ ∃ bq' off' cap',l' = [.box (bagAv A.l),.box [.c (.raw (.map (some bm)))],.box (bagAv x.l),.box [qv bq' off' (addS A act x (S,q) y).2.length cap'],gmap true true (gl (addS A act x (S,q) y).1) bm,qO 113 7 (qls (addS A act x (S,q) y).2) bq' off' cap']):=by
 refine FSpecL_of c67 (by first | simp | exact Nat.le_of_ble_eq_true rfl) (Nat.le_refl _) (by decide) (by decide) fun C hP hN hC hL => ?_; rw [init_env',ownW_upd (by first | simp | exact Nat.le_of_ble_eq_true rfl)]; simp only [ir67,updL,updLo,List.map_nil,List.map_cons,Nat.reduceAdd,]
 simp only [kav,if_true,Pt.l,bagAv,Bag.l,List.map_cons,List.map_nil]
 (repeat ((first | refine Va ?_ | refine Vb ?_ | refine Vc ?_ | refine Vd ?_ | refine Ve ?_ | refine Vf ?_); (try simp only [go_sem,hP]); (repeat refine qJ ?_)))
 have hyb:BagOk y.bag:=by
  obtain ⟨a1,a2,a3,a4,a5⟩:=hA
  obtain ⟨_,_,h3,h4,h5,h6,_⟩:=hy
  exact ⟨⟨h3.1,by simp only [Pt.bag]; omega⟩,⟨h4.1,by simp only [Pt.bag]; omega⟩,⟨h5.1,by simp only [Pt.bag]; omega⟩,⟨h6.1,by simp only [Pt.bag]; omega⟩,by simp only [Pt.bag]; omega⟩
 have w1:IntKind.i64.wrap (A.many - y.bag.many) = A.many - y.bag.many:=by
  obtain ⟨a1,a2,a3,a4,a5⟩:=hA
  obtain ⟨b1,b2,b3,b4,b5⟩:=hyb
  exact w64 (by simp only [Bag.many]; omega) (by simp only [Bag.many]; omega)
 (refine ACall_of (many68 hA) rfl rfl rfl rfl rfl ?_; simp only [go_sem,hP,w1]; (repeat refine qJ ?_); (repeat ((first | refine Va ?_ | refine Vb ?_ | refine Vc ?_ | refine Vd ?_ | refine Ve ?_ | refine Vf ?_); (try simp only [go_sem,hP,w1]); (repeat refine qJ ?_))))
 (refine ACall_of (many68 hyb) rfl rfl rfl rfl rfl ?_; simp only [go_sem,hP,w1]; (repeat refine qJ ?_); (repeat ((first | refine Va ?_ | refine Vb ?_ | refine Vc ?_ | refine Vd ?_ | refine Ve ?_ | refine Vf ?_); (try simp only [go_sem,hP,w1]); (repeat refine qJ ?_))))
 have hk:=hy.trim.key hA hR
 obtain ⟨z,hz⟩ : ∃ z,z = trim A y:=⟨_,rfl⟩
 rw [← hz] at hk
 refine raw_lookG (ka:=true) (va:=true) (n:=1004) (b:=bm) (l:=gl S) (key:=z.l) (zs:=[0,0,0,0,0,0,0,0]) (k:=113) (e:=115) (x':=.t 23) (i':=.t 24) (by kernel_rfl) ptLaw (by kernel_rfl) rfl rfl rfl rfl rfl (by rw [hz]; rfl) rfl hk (gl_keys hA hR hS) (fun p _ h => kval_inj h) ?_
 rw [glook_is]
 obtain ⟨ys,hys,hyl⟩ : ∃ ys:List Int,ys = (glook (gl S) z.l).getD [0,0,0,0,0,0,0,0] ∧ ys.length = 8:=by
  refine ⟨_,rfl,?_⟩
  rw [glook_gl]
  cases S.find? fun e => decide (e.1 = z) <;> rfl
 rw [← hys]
 obtain ⟨y0,y1,y2,y3,y4,y5,y6,y7,rfl⟩ : ∃ y0 y1 y2 y3 y4 y5 y6 y7,ys = [y0,y1,y2,y3,y4,y5,y6,y7]:=by
  match ys,hyl with
  | [y0,y1,y2,y3,y4,y5,y6,y7],_ => exact ⟨_,_,_,_,_,_,_,_,rfl⟩
 clear hys hyl
 simp only [go_sem,hP,kav,if_true]
 (repeat ((first | refine Va ?_ | refine Vb ?_ | refine Vc ?_ | refine Vd ?_ | refine Ve ?_ | refine Vf ?_); (try simp only [go_sem,hP]); (repeat refine qJ ?_)))
 by_cases hin:z ∈ sks S
 ·have hd:decide (z ∈ sks S) = true:=decide_eq_true hin
  have he:addS A act x (S,q) y = (S,q):=by unfold addS; rw [← hz]; rw [if_pos hin]
  rw [he]
  (refine WV_cond rfl (fun h => ?_) (fun h => ?_))
  ·rw [hd] at h; simp at h
  ·(repeat ((first | refine Va ?_ | refine Vb ?_ | refine Vc ?_ | refine Vd ?_ | refine Ve ?_ | refine Vf ?_); (try simp only [go_sem,hP]); (repeat refine qJ ?_)))
   ((try simp only [thenQ,inQ,RetQL,RetOkL,resAll,resA]); (try simp only [go_sem,tupA,AV.keepP,AV.keepPL]); refine ⟨_,[.box (bagAv A.l),.box [.c (.raw (.map (some bm)))],.box (bagAv x.l),.box [qv bq off q.length cap],gmap true true (gl S) bm,qO 113 7 (qls q) bq off cap],rfl,KeepL_mk rfl rfl ?_ ?_ rfl,?_⟩)
   ·simp only [go_sem,keepAll,Ob.keepP,AV.keepP,AV.keepPL,bagAv,Bag.l,Pt.l]
   ·trivial
   ·exact ⟨rfl,_,_,_,rfl⟩
 ·have hd:decide (z ∈ sks S) = false:=decide_eq_false hin
  have he:addS A act x (S,q) y = (S ++ [(z,act,x)],q ++ [z]):=by unfold addS; rw [← hz]; rw [if_neg hin]
  rw [he]
  (refine WV_cond rfl (fun h => ?_) (fun h => ?_))
  ·(repeat ((first | refine Va ?_ | refine Vb ?_ | refine Vc ?_ | refine Vd ?_ | refine Ve ?_ | refine Vf ?_); (try simp only [go_sem,hP]); (repeat refine qJ ?_)))
   refine raw_putG (ka:=true) (va:=true) (n:=1004) (b:=bm) (l:=gl S) (key:=z.l) (val:=act :: x.l) (k:=113) (e:=115) (x':=.t 30) (i':=.t 31) (v':=.t 34) (.inl rfl) (by kernel_rfl) ptLaw rfl rfl rfl rfl rfl rfl rfl (by rw [hz]; rfl) rfl rfl hk (gl_keys hA hR hS) (fun p _ h => kval_inj h) ?_
   rw [gput_gl hin]
   simp only [go_sem,hP]
   (repeat ((first | refine Va ?_ | refine Vb ?_ | refine Vc ?_ | refine Vd ?_ | refine Ve ?_ | refine Vf ?_); (try simp only [go_sem,hP]); (repeat refine qJ ?_)))
   refine raw_qapp (n:=1005) (b:=bq) (off:=off) (cap:=cap) (m:=q.length) (xs:=qls q) (ys:=[z.l]) rfl rfl rfl (List.length_map ..) (by rw [hz]; rfl) rfl (ql1 z) h1 h2 ?_
   intro bq' off' cap'
   rw [show qls q ++ [z.l] = qls (q ++ [z]) by simp [qls]]
   simp only [go_sem,hP]
   ((try simp only [thenQ,inQ,RetQL,RetOkL,resAll,resA]); (try simp only [go_sem,tupA,AV.keepP,AV.keepPL]); refine ⟨_,[.box (bagAv A.l),.box [.c (.raw (.map (some bm)))],.box (bagAv x.l),.box [qv bq' off' (q.length + 1) cap'],gmap true true (gl (S ++ [(z,act,x)])) bm,qO 113 7 (qls (q ++ [z])) bq' off' cap'],rfl,KeepL_mk rfl rfl ?_ ?_ rfl,?_⟩)
   ·simp only [go_sem,keepAll,Ob.keepP,AV.keepP,AV.keepPL,bagAv,Bag.l,Pt.l]
   ·trivial
   ·exact ⟨rfl,_,_,_,rfl⟩
  ·rw [hd] at h; simp at h
end Go.Proofs.Ytakplakbbidihaa

/-
 The walk over all points,plain.
-/
namespace Go.Proofs.Ytakplakbbidihaa
open Go Go.V
theorem nodup_lt:∀ (n:Nat) (l:List Nat),l.Nodup → (∀ x ∈ l,x < n) → l.length ≤ n
 | 0,l,_,h => by
  cases l with
  | nil => simp
  | cons x l => have:=h x (by simp); omega
 | n + 1,l,hn,h => by
  have h1:=nodup_lt n (l.erase n) (hn.erase n) fun x hx => by
   have h2:=h x (List.mem_of_mem_erase hx)
   have h3:x ≠ n:=fun e => by subst e; exact (List.Nodup.not_mem_erase hn) hx
   omega
  rw [List.length_erase] at h1
  split at h1 <;> omega
def Pt.code (p:Pt):Nat:=(((((p.pl.toNat * 15 + p.cr.toNat) * 15 + p.a.toNat) * 15 + p.b.toNat) * 15 + p.c.toNat) * 15 + p.d.toNat) * 1569 + p.bo.toNat
def PtIn (R:Int) (A:Bag) (p:Pt):Prop:=PtOk R A p ∧ p.cr ≤ 14
theorem PtIn.code_lt {R:Int} {A:Bag} (hA:BagOk A) (hR:R ≤ 200) {p:Pt} (h:PtIn R A p):p.code < 238291875000:=by
 obtain ⟨a1,a2,a3,a4,a5⟩:=hA
 obtain ⟨⟨h1,h2,h3,h4,h5,h6,h7⟩,h8⟩:=h
 simp only [Pt.bag,Bag.many] at h7
 unfold Pt.code
 have e1:p.pl.toNat * 15 + p.cr.toNat < 3000:=by omega
 generalize p.pl.toNat * 15 + p.cr.toNat = u1 at e1 ⊢
 have e2:u1 * 15 + p.a.toNat < 45000:=by omega
 generalize u1 * 15 + p.a.toNat = u2 at e2 ⊢
 have e3:u2 * 15 + p.b.toNat < 675000:=by omega
 generalize u2 * 15 + p.b.toNat = u3 at e3 ⊢
 have e4:u3 * 15 + p.c.toNat < 10125000:=by omega
 generalize u3 * 15 + p.c.toNat = u4 at e4 ⊢
 have e5:u4 * 15 + p.d.toNat < 151875000:=by omega
 generalize u4 * 15 + p.d.toNat = u5 at e5 ⊢
 omega
theorem rad {n u v a b:Nat} (ha:a < n) (hb:b < n) (h:u * n + a = v * n + b):u = v ∧ a = b:=by
 have h1:(u * n + a) / n = u:=by rw [Nat.add_comm,Nat.add_mul_div_right _ _ (by omega),Nat.div_eq_of_lt ha]; omega
 have h2:(v * n + b) / n = v:=by rw [Nat.add_comm,Nat.add_mul_div_right _ _ (by omega),Nat.div_eq_of_lt hb]; omega
 have h3:u = v:=by rw [← h1,h,h2]
 subst h3
 exact ⟨rfl,by omega⟩
theorem code_inj {R:Int} {A:Bag} (hA:BagOk A) {p q:Pt} (hp:PtIn R A p) (hq:PtIn R A q) (h:p.code = q.code):p = q:=by
 obtain ⟨a1,a2,a3,a4,a5⟩:=hA
 obtain ⟨⟨h1,h2,h3,h4,h5,h6,h7⟩,h8⟩:=hp
 obtain ⟨⟨k1,k2,k3,k4,k5,k6,k7⟩,k8⟩:=hq
 simp only [Pt.bag,Bag.many] at h7 k7
 have m1:p.bo.toNat < 1569 ∧ q.bo.toNat < 1569:=⟨by omega,by omega⟩
 have m2:p.d.toNat < 15 ∧ q.d.toNat < 15:=⟨by omega,by omega⟩
 have m3:p.c.toNat < 15 ∧ q.c.toNat < 15:=⟨by omega,by omega⟩
 have m4:p.b.toNat < 15 ∧ q.b.toNat < 15:=⟨by omega,by omega⟩
 have m5:p.a.toNat < 15 ∧ q.a.toNat < 15:=⟨by omega,by omega⟩
 have m6:p.cr.toNat < 15 ∧ q.cr.toNat < 15:=⟨by omega,by omega⟩
 rw [Pt.code,Pt.code] at h
 obtain ⟨c5,d1⟩:=rad m1.1 m1.2 h
 obtain ⟨c4,d2⟩:=rad m2.1 m2.2 c5
 obtain ⟨c3,d3⟩:=rad m3.1 m3.2 c4
 obtain ⟨c2,d4⟩:=rad m4.1 m4.2 c3
 obtain ⟨c1,d5⟩:=rad m5.1 m5.2 c2
 obtain ⟨c0,d6⟩:=rad m6.1 m6.2 c1
 have tn:∀ {x y:Int},0 ≤ x → 0 ≤ y → x.toNat = y.toNat → x = y:=fun {x y} hx hy e => by rw [← Int.toNat_of_nonneg hx,← Int.toNat_of_nonneg hy,e]
 have e1:=tn h1.1 k1.1 c0
 have e2:=tn h2.1 k2.1 d6
 have e3:=tn h3.1 k3.1 d5
 have e4:=tn h4.1 k4.1 d4
 have e5:=tn h5.1 k5.1 d3
 have e6:=tn h6.1 k6.1 d2
 have e7:=tn h7.1 k7.1 d1
 cases p; cases q
 simp only at e1 e2 e3 e4 e5 e6 e7
 subst e1 e2 e3 e4 e5 e6 e7
 rfl
def Bag.at (x:Bag) (k:Nat):Int:=x.l.getD k 0
def Bag.inc (x:Bag):Nat → Bag
 | 0 => { x with a:=x.a + 1 }
 | 1 => { x with b:=x.b + 1 }
 | 2 => { x with c:=x.c + 1 }
 | 3 => { x with d:=x.d + 1 }
 | _ => x
def Pt.with (p:Pt) (pl cr:Int) (x:Bag) (bo:Int):Pt:=⟨pl,cr,x.a,x.b,x.c,x.d,bo⟩
def selN (x:Pt):List (Int × Pt):=if 0 < x.cr ∧ 0 < x.pl then [(-1,x.with 0 (x.cr - 1) x.bag x.bo)] else []
def coinN (w:Wh) (A:Bag) (x:Pt) (k:Nat):List (Int × Pt) :=
 if x.bag.at k = A.at k then [] else [((k:Int),x.with ((x.pl + w.co.getD k 0) % w.ro) (x.cr + plays w x.pl (w.co.getD k 0)) (x.bag.inc k) (x.bo + plays w x.pl (w.co.getD k 0)))]
def coinsN (w:Wh) (A:Bag) (x:Pt) (n:Nat):List (Int × Pt):=(List.range n).flatMap (coinN w A x)
def addAll (A:Bag) (x:Pt) (l:List (Int × Pt)) (s:Seen × List Pt):Seen × List Pt:=l.foldl (fun s e => addS A e.1 x s e.2) s
def expand (w:Wh) (A:Bag) (x:Pt) (s:Seen × List Pt):Seen × List Pt:=addAll A x (coinsN w A x w.co.length) (addAll A x (selN x) s)
def bfs (w:Wh) (A:Bag):Nat → Seen × List Pt → Seen
 | 0,s => s.1
 | n + 1,s => match s.2 with | [] => s.1 | x :: q => bfs w A n (expand w A x (s.1,q))
def p00:Pt:=⟨0,0,0,0,0,0,0⟩
def walkS (w:Wh) (A:Bag):Seen:=bfs w A 476583750002 ([(p00,-2,p00)],[p00])
theorem bfs_nil (w:Wh) (A:Bag) (n:Nat) (S:Seen):bfs w A n (S,[]) = S:=by cases n <;> rfl
structure SeenOk (R:Int) (A:Bag) (s:Seen × List Pt):Prop where
 inn:∀ e ∈ s.1,PtIn R A e.1
 nd:(sks s.1).Nodup
 sub:∀ x ∈ s.2,x ∈ sks s.1
 qn:s.2.Nodup
theorem SeenOk.len {R:Int} {A:Bag} (hA:BagOk A) (hR:R ≤ 200) {s:Seen × List Pt} (h:SeenOk R A s):s.1.length ≤ 238291875000 ∧ s.2.length ≤ 238291875000:=by
 have key:∀ l:List Pt,l.Nodup → (∀ x ∈ l,PtIn R A x) → l.length ≤ 238291875000:=fun l hn hl => by
  have h1:=nodup_lt 238291875000 (l.map Pt.code) ?_ ?_
  ·simpa using h1
  ·rw [List.nodup_iff_pairwise_ne] at hn ⊢
   rw [List.pairwise_map]
   exact (List.Pairwise.imp_of_mem (fun {a b} ha hb hab hc => hab (code_inj hA (hl a ha) (hl b hb) hc)) hn)
  ·intro c hc
   obtain ⟨p,hp,rfl⟩:=List.mem_map.1 hc
   exact (hl p hp).code_lt hA hR
 have hin:∀ x ∈ sks s.1,PtIn R A x:=fun x hx => by
  obtain ⟨e,he,rfl⟩:=List.mem_map.1 hx
  exact h.inn e he
 refine ⟨?_,key _ h.qn fun x hx => hin x (h.sub x hx)⟩
 have:=key (sks s.1) h.nd hin
 simpa [sks] using this
theorem trim_in {R:Int} {A:Bag} (hA:BagOk A) {y:Pt} (hy:PtOk R A y):PtIn R A (trim A y):=by
 refine ⟨hy.trim,?_⟩
 obtain ⟨a1,a2,a3,a4,a5⟩:=hA
 obtain ⟨h1,h2,h3,h4,h5,h6,h7⟩:=hy
 show min y.cr (A.many - y.bag.many) ≤ 14
 simp only [Pt.bag,Bag.many]
 omega
theorem addS_ok {R:Int} {A:Bag} (hA:BagOk A) {act:Int} {x y:Pt} {s:Seen × List Pt} (h:SeenOk R A s) (hy:PtOk R A y):SeenOk R A (addS A act x s y):=by
 unfold addS
 split
 ·exact h
 ·rename_i hn
  refine ⟨fun e he => ?_,?_,fun z hz => ?_,?_⟩
  ·rcases List.mem_append.1 he with h1 | h1
   ·exact h.inn e h1
   ·simp only [List.mem_singleton] at h1; subst h1; exact trim_in hA hy
  ·simp only [sks,List.map_append,List.map_cons,List.map_nil]
   rw [List.nodup_append]
   refine ⟨h.nd,by simp,fun a ha b hb => ?_⟩
   simp only [List.mem_singleton] at hb
   subst hb
   exact fun e => hn (e ▸ ha)
  ·simp only [sks,List.map_append,List.mem_append,List.map_cons,List.map_nil,List.mem_singleton]
   rcases List.mem_append.1 hz with h1 | h1
   ·exact .inl (h.sub z h1)
   ·exact .inr (by simpa using h1)
  ·rw [List.nodup_append]
   refine ⟨h.qn,by simp,fun a ha b hb => ?_⟩
   simp only [List.mem_singleton] at hb
   subst hb
   exact fun e => hn (e ▸ h.sub a ha)
theorem addS_len {A:Bag} {act:Int} {x y:Pt} {s:Seen × List Pt}:(addS A act x s y).2.length + s.1.length = s.2.length + (addS A act x s y).1.length:=by
 unfold addS; split <;> simp; omega
theorem addAll_ok {R:Int} {A:Bag} (hA:BagOk A) {x:Pt}:∀ {l:List (Int × Pt)} {s:Seen × List Pt},SeenOk R A s → (∀ e ∈ l,PtOk R A e.2) → SeenOk R A (addAll A x l s) ∧ (addAll A x l s).2.length + s.1.length = s.2.length + (addAll A x l s).1.length
 | [],s,h,_ => ⟨h,rfl⟩
 | e :: l,s,h,hl => by
  have h1:=addS_ok (act:=e.1) (x:=x) hA h (hl e (by simp))
  have h2:=addAll_ok hA (x:=x) (l:=l) h1 fun e' he' => hl e' (by simp [he'])
  have h3:=addS_len (A:=A) (act:=e.1) (x:=x) (y:=e.2) (s:=s)
  refine ⟨h2.1,?_⟩
  have h4:=h2.2
  simp only [addAll,List.foldl_cons] at h4 ⊢
  omega
theorem Bag.at_inc {A:Bag} (hA:BagOk A) {R:Int} {x:Pt} (hx:PtOk R A x) {k:Nat} (hk:k < 4) (hne:x.bag.at k ≠ A.at k):x.bag.at k < A.at k:=by
 obtain ⟨h1,h2,h3,h4,h5,h6,h7⟩:=hx
 have:k = 0 ∨ k = 1 ∨ k = 2 ∨ k = 3:=by omega
 rcases this with rfl | rfl | rfl | rfl <;> simp only [Bag.at,Bag.l,Pt.bag,List.getD_cons_zero,List.getD_cons_succ] at hne ⊢ <;> omega
theorem coinN_ok {w:Wh} (hw:WhOk w) {A:Bag} (hA:BagOk A) {x:Pt} (hx:PtIn w.ro A x) {k:Nat} (hk:k < w.co.length):∀ e ∈ coinN w A x k,PtOk w.ro A e.2:=by
 intro e he
 unfold coinN at he
 split at he
 ·cases he
 rename_i hne
 simp only [List.mem_singleton] at he
 subst he
 have hro:=hw.ro
 have hcl:=hw.cl
 have hlt:=Bag.at_inc hA hx.1 (by omega) hne
 have hco:1 ≤ w.co.getD k 0 ∧ w.co.getD k 0 ≤ 100:=getD_in hw.co hk
 have hp:=plays_ok hw (p:=x.pl) (c:=w.co.getD k 0) (by omega)
 generalize w.co.getD k 0 = c at hco hp
 obtain ⟨⟨h1,h2,h3,h4,h5,h6,h7⟩,h8⟩:=hx
 have e1:=Int.emod_nonneg (x.pl + c) (b:=w.ro) (by omega)
 have e2:=Int.emod_lt_of_pos (x.pl + c) (b:=w.ro) (by omega)
 have:k = 0 ∨ k = 1 ∨ k = 2 ∨ k = 3:=by omega
 simp only [Pt.bag,Bag.many] at h7
 rcases this with rfl | rfl | rfl | rfl <;> simp only [Bag.at,Bag.l,Pt.bag,List.getD_cons_zero,List.getD_cons_succ] at hlt <;>
  (refine ⟨⟨e1,e2⟩,⟨?_,?_⟩,⟨?_,?_⟩,⟨?_,?_⟩,⟨?_,?_⟩,⟨?_,?_⟩,⟨?_,?_⟩⟩ <;> simp only [Pt.with,Bag.inc,Pt.bag,Bag.many] <;> omega)
theorem selN_ok {w:Wh} (hw:WhOk w) {A:Bag} {x:Pt} (hx:PtIn w.ro A x):∀ e ∈ selN x,PtOk w.ro A e.2:=by
 intro e he
 unfold selN at he
 split at he
 ·simp only [List.mem_singleton] at he
  subst he
  have hro:=hw.ro
  obtain ⟨⟨h1,h2,h3,h4,h5,h6,h7⟩,h8⟩:=hx
  exact ⟨⟨by simp [Pt.with],by simp [Pt.with]; omega⟩,⟨by simp [Pt.with]; omega,by simp [Pt.with]; omega⟩,h3,h4,h5,h6,h7⟩
 ·cases he
theorem coinsN_ok {w:Wh} (hw:WhOk w) {A:Bag} (hA:BagOk A) {x:Pt} (hx:PtIn w.ro A x) {n:Nat} (hn:n ≤ w.co.length):∀ e ∈ coinsN w A x n,PtOk w.ro A e.2:=by
 intro e he
 obtain ⟨k,hk,h⟩:=List.mem_flatMap.1 he
 exact coinN_ok hw hA hx (by have:=List.mem_range.1 hk; omega) e h
theorem SeenOk.tail {R:Int} {A:Bag} {S:Seen} {x:Pt} {q:List Pt} (h:SeenOk R A (S,x :: q)):SeenOk R A (S,q):=⟨h.inn,h.nd,fun y hy => h.sub y (by simp [hy]),(List.nodup_cons.1 h.qn).2⟩
theorem SeenOk.of_mem {R:Int} {A:Bag} {s:Seen × List Pt} (h:SeenOk R A s) {x:Pt} (hx:x ∈ sks s.1):PtIn R A x:=by
 obtain ⟨e,he,rfl⟩:=List.mem_map.1 hx
 exact h.inn e he
theorem coinsN_succ (w:Wh) (A:Bag) (x:Pt) (n:Nat):coinsN w A x (n + 1) = coinsN w A x n ++ coinN w A x n:=by simp [coinsN,List.range_succ]
theorem addAll_app (A:Bag) (x:Pt) (l m:List (Int × Pt)) (s:Seen × List Pt):addAll A x (l ++ m) s = addAll A x m (addAll A x l s):=by simp [addAll]
theorem expand_ok {w:Wh} (hw:WhOk w) {A:Bag} (hA:BagOk A) {S:Seen} {x:Pt} {q:List Pt} (h:SeenOk w.ro A (S,x :: q)):SeenOk w.ro A (expand w A x (S,q)) ∧ (expand w A x (S,q)).2.length + S.length = q.length + (expand w A x (S,q)).1.length:=by
 have hx:=h.of_mem (h.sub x (by simp))
 have h1:=addAll_ok hA (x:=x) h.tail (selN_ok hw hx)
 have h2:=addAll_ok hA (x:=x) h1.1 (coinsN_ok hw hA hx (Nat.le_refl _))
 refine ⟨h2.1,?_⟩
 have a1:=h1.2
 have a2:=h2.2
 unfold expand
 simp only at a1 a2 ⊢
 omega
theorem start_ok {w:Wh} (hw:WhOk w) {A:Bag} (hA:BagOk A):SeenOk w.ro A ([(p00,-2,p00)],[p00]):=by
 have hro:=hw.ro
 obtain ⟨a1,a2,a3,a4,a5⟩:=hA
 refine ⟨fun e he => ?_,by simp [sks],fun x hx => by simpa [sks] using hx,by simp⟩
 simp only [List.mem_singleton] at he
 subst he
 exact ⟨⟨⟨by simp [p00],by simp [p00]; omega⟩,⟨by simp [p00],by simp [p00]⟩,⟨by simp [p00],by simp [p00]; omega⟩,⟨by simp [p00],by simp [p00]; omega⟩,⟨by simp [p00],by simp [p00]; omega⟩,⟨by simp [p00],by simp [p00]; omega⟩,⟨by simp [p00],by simp [p00,Pt.bag,Bag.many]⟩⟩,by simp [p00]⟩
theorem addAll_le {A:Bag} {x:Pt}:∀ {l:List (Int × Pt)} {s:Seen × List Pt},s.1.length ≤ (addAll A x l s).1.length
 | [],s => Nat.le_refl _
 | e :: l,s => by
  have h1:=addAll_le (A:=A) (x:=x) (l:=l) (s:=addS A e.1 x s e.2)
  have h2:s.1.length ≤ (addS A e.1 x s e.2).1.length:=by unfold addS; split <;> simp
  simp only [addAll,List.foldl_cons] at h1 ⊢
  omega
def left (s:Seen × List Pt):Nat:=2 * (238291875000 - s.1.length) + s.2.length
theorem left_expand {w:Wh} (hw:WhOk w) {A:Bag} (hA:BagOk A) {S:Seen} {x:Pt} {q:List Pt} (h:SeenOk w.ro A (S,x :: q)):left (expand w A x (S,q)) < left (S,x :: q):=by
 have h1:=expand_ok hw hA h
 have h2:=h1.1.len hA hw.ro.2
 have h3:=h.len hA hw.ro.2
 have h4:=h1.2
 have h5:S.length ≤ (expand w A x (S,q)).1.length:=by
  unfold expand
  have a1:=addAll_le (A:=A) (x:=x) (l:=selN x) (s:=(S,q))
  have a2:=addAll_le (A:=A) (x:=x) (l:=coinsN w A x w.co.length) (s:=addAll A x (selN x) (S,q))
  exact Nat.le_trans a1 a2
 simp only [left,List.length_cons] at *
 omega
end Go.Proofs.Ytakplakbbidihaa

namespace Go.Proofs.Ytakplakbbidihaa
open Go Go.V
abbrev o62_0:List Ins:=[⟨some 3,.box 4 (.t 1),none,true⟩,
 ⟨some 4,.mv (.k (.c (.raw (.map none)))),none,true⟩]
abbrev o62_1:List Ins:=[⟨some 17,.raw (.makeMap 102 none),none,true⟩,
 ⟨some 18,.bld [(.c (.int .i64 0)),(.c (.int .i64 0)),(.c (.int .i64 0)),(.c (.int .i64 0)),(.c (.int .i64 0)),(.c (.int .i64 0)),(.c (.int .i64 0))] [],none,true⟩,
 ⟨some 19,.bld [(.c (.int .i64 0)),(.c (.int .i64 0)),(.c (.int .i64 0)),(.c (.int .i64 0)),(.c (.int .i64 0)),(.c (.int .i64 0)),(.c (.int .i64 0)),(.c (.int .i64 0))] [(0,1,(.k (.c (.int .i64 (-2)))))],none,true⟩,
 ⟨none,.raw (.insert 102 (.tmp 17) (.tmp 18) (.tmp 19)),none,true⟩,
 ⟨some 20,.mv (.t 17),none,true⟩,
 ⟨some 5,.alloc [(.c (.raw (.map none)))],none,true⟩,
 ⟨none,.st 1 (.t 5) (.t 20),none,true⟩]
abbrev o62_2:List Ins:=[⟨some 21,.bld [(.c (.int .i64 0)),(.c (.int .i64 0)),(.c (.int .i64 0)),(.c (.int .i64 0)),(.c (.int .i64 0)),(.c (.int .i64 0)),(.c (.int .i64 0))] [],none,true⟩,
 ⟨some 22,.bsl 113 7 [(.t 21)],none,true⟩,
 ⟨some 6,.alloc [(.c (.raw (.slice none 0 0)))],none,true⟩,
 ⟨none,.st 1 (.t 6) (.t 22),none,true⟩]
abbrev o62_3:List Ins:=[⟨some 23,.ld true 1 (.t 6),none,true⟩,
 ⟨some 24,.len (.t 23),none,true⟩,
 ⟨some 25,.bin .gtr (.t 24) (.k (.c (.int .i64 0))),none,true⟩]
abbrev v62_4:VC:=(.cond (.t 25) .skip (.exit 0))
abbrev o62_5:List Ins:=[⟨some 26,.ld true 1 (.t 6),none,true⟩,
 ⟨some 27,.ia 7 (.t 26) (.k (.c (.int .i64 0))),none,true⟩,
 ⟨some 28,.ld false 7 (.t 27),none,true⟩,
 ⟨some 7,.alloc [(.c (.int .i64 0)),(.c (.int .i64 0)),(.c (.int .i64 0)),(.c (.int .i64 0)),(.c (.int .i64 0)),(.c (.int .i64 0)),(.c (.int .i64 0))],none,true⟩,
 ⟨none,.st 7 (.t 7) (.t 28),none,true⟩]
abbrev o62_6:List Ins:=[⟨some 29,.ld true 1 (.t 6),none,true⟩,
 ⟨some 30,.slc 7 (.t 29) (some (.k (.c (.int .i64 1)))) none,none,true⟩,
 ⟨none,.st 1 (.t 6) (.t 30),none,true⟩]
abbrev o62_7:List Ins:=[⟨some 31,.mkfn 67 [(.t 3),(.t 5),(.t 7),(.t 6)],none,true⟩,
 ⟨some 8,.mv (.t 31),none,true⟩]
abbrev o62_8:List Ins:=[⟨some 32,.fa 0 (.t 7),none,true⟩,
 ⟨some 33,.fa 1 (.t 32),none,true⟩,
 ⟨some 34,.ld true 1 (.t 33),none,true⟩,
 ⟨some 35,.bin .gtr (.t 34) (.k (.c (.int .i64 0))),none,true⟩,
 ⟨some 36,.mv (.t 35),none,true⟩,
 ⟨some 37,.fa 0 (.t 7),(some (36,true)),true⟩,
 ⟨some 38,.fa 0 (.t 37),(some (36,true)),true⟩,
 ⟨some 39,.ld true 1 (.t 38),(some (36,true)),true⟩,
 ⟨some 40,.bin .gtr (.t 39) (.k (.c (.int .i64 0))),(some (36,true)),true⟩,
 ⟨some 41,.pick (.t 36) (.t 40) (.k (.c (.bool false))),none,true⟩]
abbrev t62_9:OT:=(.cons ⟨some 43,.mv (.t 0),none,false⟩
 (.cons ⟨some 44,.nilc (.t 43),none,false⟩
 (.cons ⟨some 45,.fa 0 (.t 44),none,false⟩
 (.cons ⟨some 46,.fa 0 (.t 45),none,false⟩
 (.cons ⟨some 47,.ld false 3 (.t 46),none,false⟩
 (.cons ⟨some 48,.fa 0 (.t 7),none,false⟩
 (.cons ⟨some 49,.fa 0 (.t 48),none,false⟩
 (.cons ⟨some 50,.ld true 1 (.t 49),none,false⟩
 (.cons ⟨some 51,.bld [(.c (.int .i64 0)),(.c (.int .i64 0))] [(0,1,(.t 50)),(1,1,(.k (.c (.int .i64 1))))],none,false⟩
 (.br [(.cons ⟨some 52,.bsl 3 1 [(.k (.c (.int .i64 (-1))))],none,false⟩
  (.cons ⟨some 9,.alloc [(.c (.int .i64 0)),(.c (.int .i64 0))],none,false⟩
  (.cons ⟨some 53,.call (.k (.fn 69 [])) [(.t 47),(.t 51),(.t 52)],none,false⟩
  (.cons ⟨some 42,.mv (.t 53),none,false⟩
  (.cons ⟨some 54,.ext (.t 42) 0,none,false⟩
  (.cons ⟨some 55,.ext (.t 42) 1,none,false⟩
  (.cons ⟨some 56,.ext (.t 42) 2,none,false⟩
  (.cons ⟨none,.st 2 (.t 9) (.t 54),none,false⟩
  (.cons ⟨some 10,.mv (.t 55),none,false⟩
  (.cons ⟨some 11,.mv (.t 56),none,true⟩
  .nil)))))))))),(.cons ⟨some 9,.alloc [(.c (.int .i64 0)),(.c (.int .i64 0))],none,false⟩
  (.cons ⟨some 52,.bsl 3 1 [(.k (.c (.int .i64 (-1))))],none,false⟩
  (.cons ⟨some 53,.call (.k (.fn 69 [])) [(.t 47),(.t 51),(.t 52)],none,false⟩
  (.cons ⟨some 42,.mv (.t 53),none,false⟩
  (.cons ⟨some 54,.ext (.t 42) 0,none,false⟩
  (.cons ⟨some 55,.ext (.t 42) 1,none,false⟩
  (.cons ⟨some 56,.ext (.t 42) 2,none,false⟩
  (.cons ⟨none,.st 2 (.t 9) (.t 54),none,false⟩
  (.cons ⟨some 10,.mv (.t 55),none,false⟩
  (.cons ⟨some 11,.mv (.t 56),none,true⟩
  .nil))))))))))]))))))))))
abbrev o62_10:List Ins:=[⟨some 57,.mv (.t 8),none,true⟩,
 ⟨some 58,.fa 0 (.t 9),none,true⟩,
 ⟨some 59,.ld true 1 (.t 58),none,true⟩,
 ⟨some 60,.fa 0 (.t 7),none,true⟩,
 ⟨some 61,.fa 1 (.t 60),none,true⟩,
 ⟨some 62,.ld true 1 (.t 61),none,true⟩,
 ⟨some 63,.bin .sub (.t 62) (.k (.c (.int .i64 1))),none,true⟩,
 ⟨some 64,.bld [(.c (.int .i64 0)),(.c (.int .i64 0))] [(0,1,(.t 59)),(1,1,(.t 63))],none,true⟩,
 ⟨some 65,.fa 2 (.t 7),none,true⟩,
 ⟨some 66,.ld false 4 (.t 65),none,true⟩,
 ⟨some 67,.fa 6 (.t 7),none,true⟩,
 ⟨some 68,.ld true 1 (.t 67),none,true⟩,
 ⟨some 69,.bld [(.c (.int .i64 0)),(.c (.int .i64 0)),(.c (.int .i64 0)),(.c (.int .i64 0)),(.c (.int .i64 0)),(.c (.int .i64 0)),(.c (.int .i64 0))] [(0,2,(.t 64)),(2,4,(.t 66)),(6,1,(.t 68))],none,true⟩,
 ⟨some 70,.call (.t 57) [(.k (.c (.int .i64 (-1)))),(.t 69)],none,true⟩]
abbrev v62_11:VC:=(.seq (.drw t62_9) (.ops o62_10))
abbrev v62_12:VC:=(.cond (.t 41) v62_11 .skip)
abbrev o62_13:List Ins:=[⟨some 71,.mv (.t 0),none,true⟩,
 ⟨some 72,.nilc (.t 71),none,true⟩,
 ⟨some 73,.fa 0 (.t 72),none,true⟩,
 ⟨some 74,.fa 0 (.t 73),none,true⟩,
 ⟨some 75,.fa 2 (.t 74),none,true⟩,
 ⟨some 76,.ld true 1 (.t 75),none,true⟩,
 ⟨some 77,.len (.t 76),none,true⟩,
 ⟨some 78,.mv (.k (.c (.int .i64 0))),none,true⟩]
abbrev o62_14:List Ins:=[⟨some 79,.bin .lss (.t 78) (.t 77),none,true⟩]
abbrev o62_15:List Ins:=[⟨some 80,.mv (.t 78),none,true⟩,
 ⟨some 12,.mv (.t 80),none,true⟩]
abbrev o62_16:List Ins:=[⟨some 81,.mv (.t 12),none,false⟩,
 ⟨some 82,.fa 2 (.t 7),none,false⟩,
 ⟨some 83,.iap 4 1 (.t 82) (.t 81),none,false⟩,
 ⟨some 84,.ld true 1 (.t 83),none,false⟩,
 ⟨some 85,.mv (.t 12),none,false⟩,
 ⟨some 86,.iap 4 1 (.t 3) (.t 85),none,false⟩,
 ⟨some 87,.ld true 1 (.t 86),none,false⟩,
 ⟨some 88,.bin .eql (.t 84) (.t 87),none,true⟩]
abbrev v62_17:VC:=(.cond (.t 88) (.exit 3) .skip)
abbrev t62_18:OT:=(.cons ⟨some 90,.mv (.t 0),none,false⟩
 (.cons ⟨some 91,.nilc (.t 90),none,false⟩
 (.cons ⟨some 92,.fa 0 (.t 91),none,false⟩
 (.cons ⟨some 93,.fa 0 (.t 92),none,false⟩
 (.cons ⟨some 94,.ld false 3 (.t 93),none,false⟩
 (.cons ⟨some 95,.fa 0 (.t 7),none,false⟩
 (.cons ⟨some 96,.fa 0 (.t 95),none,false⟩
 (.cons ⟨some 97,.ld true 1 (.t 96),none,false⟩
 (.cons ⟨some 98,.bld [(.c (.int .i64 0)),(.c (.int .i64 0))] [(0,1,(.t 97))],none,false⟩
 (.cons ⟨some 99,.mv (.t 12),none,false⟩
 (.br [(.cons ⟨some 100,.bsl 3 1 [(.t 99)],none,false⟩
  (.cons ⟨some 13,.alloc [(.c (.int .i64 0)),(.c (.int .i64 0))],none,false⟩
  (.cons ⟨some 101,.call (.k (.fn 69 [])) [(.t 94),(.t 98),(.t 100)],none,false⟩
  (.cons ⟨some 89,.mv (.t 101),none,false⟩
  (.cons ⟨some 102,.ext (.t 89) 0,none,false⟩
  (.cons ⟨some 103,.ext (.t 89) 1,none,false⟩
  (.cons ⟨some 104,.ext (.t 89) 2,none,false⟩
  (.cons ⟨none,.st 2 (.t 13) (.t 102),none,false⟩
  (.cons ⟨some 14,.mv (.t 103),none,false⟩
  (.cons ⟨some 15,.mv (.t 104),none,true⟩
  .nil)))))))))),(.cons ⟨some 13,.alloc [(.c (.int .i64 0)),(.c (.int .i64 0))],none,false⟩
  (.cons ⟨some 100,.bsl 3 1 [(.t 99)],none,false⟩
  (.cons ⟨some 101,.call (.k (.fn 69 [])) [(.t 94),(.t 98),(.t 100)],none,false⟩
  (.cons ⟨some 89,.mv (.t 101),none,false⟩
  (.cons ⟨some 102,.ext (.t 89) 0,none,false⟩
  (.cons ⟨some 103,.ext (.t 89) 1,none,false⟩
  (.cons ⟨some 104,.ext (.t 89) 2,none,false⟩
  (.cons ⟨none,.st 2 (.t 13) (.t 102),none,false⟩
  (.cons ⟨some 14,.mv (.t 103),none,false⟩
  (.cons ⟨some 15,.mv (.t 104),none,true⟩
  .nil))))))))))])))))))))))
abbrev o62_19:List Ins:=[⟨some 105,.fa 0 (.t 13),none,true⟩,
 ⟨some 106,.ld true 1 (.t 105),none,true⟩,
 ⟨some 107,.fa 0 (.t 7),none,true⟩,
 ⟨some 108,.fa 1 (.t 107),none,true⟩,
 ⟨some 109,.ld true 1 (.t 108),none,true⟩,
 ⟨some 110,.fa 1 (.t 13),none,true⟩,
 ⟨some 111,.ld true 1 (.t 110),none,true⟩,
 ⟨some 112,.bin .add (.t 109) (.t 111),none,true⟩,
 ⟨some 113,.bld [(.c (.int .i64 0)),(.c (.int .i64 0))] [(0,1,(.t 106)),(1,1,(.t 112))],none,true⟩,
 ⟨some 114,.fa 2 (.t 7),none,true⟩,
 ⟨some 115,.ld false 4 (.t 114),none,true⟩,
 ⟨some 116,.fa 6 (.t 7),none,true⟩,
 ⟨some 117,.ld true 1 (.t 116),none,true⟩,
 ⟨some 118,.fa 1 (.t 13),none,true⟩,
 ⟨some 119,.ld true 1 (.t 118),none,true⟩,
 ⟨some 120,.bin .add (.t 117) (.t 119),none,true⟩,
 ⟨some 121,.bld [(.c (.int .i64 0)),(.c (.int .i64 0)),(.c (.int .i64 0)),(.c (.int .i64 0)),(.c (.int .i64 0)),(.c (.int .i64 0)),(.c (.int .i64 0))] [(0,2,(.t 113)),(2,4,(.t 115)),(6,1,(.t 120))],none,true⟩,
 ⟨some 16,.alloc [(.c (.int .i64 0)),(.c (.int .i64 0)),(.c (.int .i64 0)),(.c (.int .i64 0)),(.c (.int .i64 0)),(.c (.int .i64 0)),(.c (.int .i64 0))],none,true⟩,
 ⟨none,.st 7 (.t 16) (.t 121),none,true⟩]
abbrev o62_20:List Ins:=[⟨some 122,.mv (.t 12),none,true⟩,
 ⟨some 123,.fa 2 (.t 16),none,true⟩,
 ⟨some 124,.iap 4 1 (.t 123) (.t 122),none,true⟩,
 ⟨some 125,.ld true 1 (.t 124),none,true⟩,
 ⟨some 126,.bin .add (.t 125) (.k (.c (.int .i64 1))),none,true⟩,
 ⟨some 127,.fa 2 (.t 16),none,true⟩,
 ⟨some 128,.iap 4 1 (.t 127) (.t 122),none,true⟩,
 ⟨none,.st 1 (.t 128) (.t 126),none,true⟩]
abbrev o62_21:List Ins:=[⟨some 129,.mv (.t 8),none,true⟩,
 ⟨some 130,.mv (.t 12),none,true⟩,
 ⟨some 131,.ld false 7 (.t 16),none,true⟩,
 ⟨some 132,.call (.t 129) [(.t 130),(.t 131)],none,true⟩]
abbrev v62_22:VC:=(.seq (.ops o62_20) (.ops o62_21))
abbrev v62_23:VC:=(.seq (.ops o62_19) v62_22)
abbrev v62_24:VC:=(.seq (.drw t62_18) v62_23)
abbrev v62_25:VC:=(.seq (.seq (.dops o62_16) v62_17) v62_24)
abbrev v62_26:VC:=(.seq (.ops o62_15) v62_25)
abbrev o62_27:List Ins:=[⟨some 133,.bin .add (.t 78) (.k (.c (.int .i64 1))),none,true⟩,
 ⟨some 78,.mv (.t 133),none,true⟩]
abbrev v62_28:VC:=(.seq (.block 3 v62_26) (.ops o62_27))
abbrev v62_29:VC:=(.seq (.cond (.t 79) .skip (.exit 2)) v62_28)
abbrev v62_30:VC:=(.seq (.ops o62_14) v62_29)
-- K62_2: changed and kept: [78]
abbrev K62_2:List Nat:=[0,3,5,6,7,8,77]
abbrev v62_31:VC:=(.loop v62_30)
abbrev v62_32:VC:=(.block 2 v62_31)
abbrev v62_33:VC:=(.seq (.ops o62_13) v62_32)
abbrev v62_34:VC:=(.seq (.seq (.ops o62_8) v62_12) v62_33)
abbrev v62_35:VC:=(.seq (.ops o62_7) v62_34)
abbrev v62_36:VC:=(.seq (.ops o62_6) v62_35)
abbrev v62_37:VC:=(.seq (.ops o62_5) v62_36)
abbrev v62_38:VC:=(.block 1 v62_37)
abbrev v62_39:VC:=(.seq (.seq (.ops o62_3) v62_4) v62_38)
-- K62_1: changed and kept: []
abbrev K62_1:List Nat:=[0,3,5,6]
abbrev v62_40:VC:=(.loop v62_39)
abbrev o62_41:List Ins:=[⟨some 134,.ld true 1 (.t 5),none,true⟩,
 ⟨some 4,.mv (.t 134),none,true⟩]
abbrev v62_42:VC:=(.seq (.ops o62_41) .ret)
abbrev v62_43:VC:=(.seq (.block 0 v62_40) v62_42)
abbrev v62_44:VC:=(.seq (.ops o62_2) v62_43)
abbrev v62_45:VC:=(.seq (.ops o62_1) v62_44)
def ir62:FC:=⟨2,135,[.t 4],(.seq (.ops o62_0) v62_45)⟩
theorem c62:compM Try.prog [] 62 = some ir62:=by kernel_rfl
attribute [local go_sem] Nat.reduceEqDiff Nat.reduceAdd Nat.reduceMul reduceIte Nat.reduceLeDiff Nat.reduceLT Nat.reduceBEq reduceCtorEq
theorem run_sel {w:Wh} (hwb:whB w = true) {pl:Int} (hp:0 ≤ pl ∧ pl < w.ro):runP w pl 1 [-1] = ((0,0,1),0):=by
 have h1:runB w pl 1 [-1] = true:=by
  simp only [runB,within,allB,actB,List.length_singleton,List.all_cons,List.all_nil,Bool.and_eq_true,decide_eq_true_eq]
  exact ⟨⟨by omega,by omega⟩,by omega,rfl,trivial⟩
 unfold runP openE
 rw [hwb,h1]
 rfl
theorem run_coin {w:Wh} (hwb:whB w = true) {pl:Int} (hp:0 ≤ pl ∧ pl < w.ro) {k:Nat} (hk:k < w.co.length):runP w pl 0 [(k:Int)] = (((pl + w.co.getD k 0) % w.ro,plays w pl (w.co.getD k 0),0),0):=by
 have hne:(k:Int) ≠ -1:=by omega
 have h1:runB w pl 0 [(k:Int)] = true:=by
  simp only [runB,within,allB,actB,List.length_singleton,List.all_cons,List.all_nil,Bool.and_eq_true,Bool.or_eq_true,decide_eq_true_eq,beq_iff_eq,Bool.and_true]
  exact ⟨⟨by omega,by omega⟩,by omega,.inr (by omega)⟩
 unfold runP openE
 rw [hwb,h1]
 simp only [if_true,runS,List.foldl_cons,List.foldl_nil,stepR,actP,hne,if_false,false_and,Int.toNat_natCast,Int.add_zero,Int.zero_add]
theorem WV_then {C:Ctx} {v w:VC} {Q:Exit → St → Prop} {σ:St} {R:St → Prop} (h:∀ σ',R σ' → WV C w Q σ') (h2:WV C v (thenQ R Q) σ):WV C v (thenQ (WV C w Q) Q) σ:=h2.mono fun e σ' hq => by
 cases e
 ·exact h _ hq
 all_goals exact hq
def walkPost (w:Wh) (A:Bag) (r:AV) (os:List Ob):Prop:=∃ bm,r = .c (.raw (.map (some bm))) ∧ os = [gmap true true (gl (walkS w A)) bm]
def wstE (b:Bx):Nat → AV:=upd (upd (upd (upd (upd (upd e0 0 (.c (.pt b.cds))) 3 (.bp 3 0)) 5 (.bp 5 0)) 6 (.bp 6 0)) 7 (.bp 7 0)) 8 (.fn 67 [.bp 3 0,.bp 5 0,.bp 7 0,.bp 6 0])
def wstO (A:Bag) (bm:Nat) (x:Pt) (s:Seen × List Pt) (bv off cap:Nat):Nat → Ob:=upd (upd (upd (upd (upd (upd o0 3 (.box (bagAv A.l))) 5 (.box [.c (.raw (.map (some bm)))])) 7 (.box (bagAv x.l))) 17 (gmap true true (gl s.1) bm)) 22 (qO 113 7 (qls s.2) bv off cap)) 6 (.box [qv bv off s.2.length cap])
theorem at_pt (x:Pt) {k:Nat} (hk:k < 4):[AV.c (.int .i64 x.pl),.c (.int .i64 x.cr),.c (.int .i64 x.a),.c (.int .i64 x.b),.c (.int .i64 x.c),.c (.int .i64 x.d),.c (.int .i64 x.bo)].getD (2 + k) .non = .c (.int .i64 (x.bag.at k)):=by
 have:k = 0 ∨ k = 1 ∨ k = 2 ∨ k = 3:=by omega
 rcases this with rfl | rfl | rfl | rfl <;> rfl
theorem at_bag (x:Bag) {k:Nat} (hk:k < 4):[AV.c (.int .i64 x.a),.c (.int .i64 x.b),.c (.int .i64 x.c),.c (.int .i64 x.d)].getD k .non = .c (.int .i64 (x.at k)):=by
 have:k = 0 ∨ k = 1 ∨ k = 2 ∨ k = 3:=by omega
 rcases this with rfl | rfl | rfl | rfl <;> rfl
theorem set_pt (x:Pt) {k:Nat} (hk:k < 4) (pl cr bo:Int):[AV.c (.int .i64 pl),.c (.int .i64 cr),.c (.int .i64 x.a),.c (.int .i64 x.b),.c (.int .i64 x.c),.c (.int .i64 x.d),.c (.int .i64 bo)].set (2 + k) (.c (.int .i64 (x.bag.at k + 1))) = bagAv (x.with pl cr (x.bag.inc k) bo).l:=by
 have:k = 0 ∨ k = 1 ∨ k = 2 ∨ k = 3:=by omega
 rcases this with rfl | rfl | rfl | rfl <;> rfl
theorem at_pt2 (x:Pt) {k:Nat} (hk:k < 4) (pl cr bo:Int):[AV.c (.int .i64 pl),.c (.int .i64 cr),.c (.int .i64 x.a),.c (.int .i64 x.b),.c (.int .i64 x.c),.c (.int .i64 x.d),.c (.int .i64 bo)].getD (2 + k) .non = .c (.int .i64 (x.bag.at k)):=at_pt ⟨pl,cr,x.a,x.b,x.c,x.d,bo⟩ hk
set_option maxHeartbeats 8000000 in
set_option maxRecDepth 20000 in
theorem kinds62 {C:Ctx} (hP:C.P = Try.prog) {b:Bx} (hwb:whB b.wh = true) {A:Bag} (hA:BagOk A) {bm:Nat} {x:Pt} (hx:PtIn b.wh.ro A x) {s0:Seen × List Pt} (hs0:SeenOk b.wh.ro A s0) {bv0 off0 cap0:Nat} {Q:Exit → St → Prop}
  (hQ:∀ σ' bv off cap,Sub σ' ⟨wstE b,wstO A bm x (addAll A x (coinsN b.wh A x b.wh.co.length) s0) bv off cap⟩ → Q .normal σ'):WV C v62_33 Q ⟨wstE b,wstO A bm x s0 bv0 off0 cap0⟩:=by
 have hw:=whB_ok hwb
 have hro:=hw.ro
 have hcl:=hw.cl
 simp only [wstE,wstO,bagAv,Bag.l,Pt.l,List.map_cons,List.map_nil]
 (repeat ((first | refine Va ?_ | refine Vb ?_ | refine Vc ?_ | refine Vd ?_ | refine Ve ?_ | refine Vf ?_); (try simp only [go_sem,hP,Bx.cds,ints,List.length_map]); (repeat refine qJ ?_)))
 refine WV_loopK K62_2 [17,22,6] (fun i:Nat × (Seen × List Pt) × Nat × Nat × Nat => i.1 ≤ b.wh.co.length ∧ i.2.1 = addAll A x (coinsN b.wh A x i.1) s0) (fun i => b.wh.co.length - i.1) (fun i => [(78,iv i.1)])
  (fun i => [(17,gmap true true (gl i.2.1.1) bm),(22,qO 113 7 (qls i.2.1.2) i.2.2.1 i.2.2.2.1 i.2.2.2.2),(6,.box [qv i.2.2.1 i.2.2.2.1 i.2.1.2.length i.2.2.2.2])]) (0,s0,bv0,off0,cap0) ⟨Nat.zero_le _,rfl⟩ ?_ ?_
 ·exact Sub_au
 rintro ⟨k,s,bv,off,cap⟩ ⟨hk,hs⟩
 simp only at hk hs
 (repeat ((first | refine Va ?_ | refine Vb ?_ | refine Vc ?_ | refine Vd ?_ | refine Ve ?_ | refine Vf ?_); (try simp only [go_sem,hP]); (repeat refine qJ ?_)))
 (refine WV_cond rfl (fun h => ?_) (fun h => ?_))
 ·have hi:k < b.wh.co.length:=by simpa using h
  clear h
  have hok:SeenOk b.wh.ro A s:=by rw [hs]; exact (addAll_ok hA hs0 (coinsN_ok hw hA hx hk)).1
  have hlen:=hok.len hA hro.2
  have hk4:k < 4:=by omega
  have g1:=at_pt x hk4
  have g2:=at_bag A hk4
  have hsu:∀ y:Int × Pt,coinN b.wh A x k = [y] → addAll A x (coinsN b.wh A x (k + 1)) s0 = addS A y.1 x s y.2:=fun y hy => by
   rw [coinsN_succ,addAll_app,← hs,hy]; rfl
  have hsn:coinN b.wh A x k = [] → addAll A x (coinsN b.wh A x (k + 1)) s0 = s:=fun hy => by
   rw [coinsN_succ,addAll_app,← hs,hy]; rfl
  have w1:=w64 (n:=(k:Int) + 1) (by omega) (by omega)
  (repeat ((first | refine Va ?_ | refine Vb ?_ | refine Vc ?_ | refine Vd ?_ | refine Ve ?_ | refine Vf ?_); (try simp only [go_sem,hP,g1,g2,Int.toNat_natCast,Nat.mul_one]); (repeat refine qJ ?_)))
  by_cases hne:x.bag.at k = A.at k
  ·have hsk:=hsn (by unfold coinN; rw [if_pos hne])
   (refine WV_cond rfl (fun h => ?_) (fun h => ?_))
   ·(repeat ((first | refine Va ?_ | refine Vb ?_ | refine Vc ?_ | refine Vd ?_ | refine Ve ?_ | refine Vf ?_); (try simp only [go_sem,hP,w1]); (repeat refine qJ ?_)))
    refine ⟨(k + 1,s,bv,off,cap),⟨hi,hsk.symm⟩,by simp only; omega,?_⟩
    exact Sub_au
   ·simp [hne] at h
  ·have hlt:=Bag.at_inc hA hx.1 hk4 hne
   (refine WV_cond rfl (fun h => ?_) (fun h => ?_))
   ·simp at h; exact absurd h hne
   ·clear h
    have hco:1 ≤ b.wh.co.getD k 0 ∧ b.wh.co.getD k 0 ≤ 100:=getD_in hw.co hi
    have hpb:=plays_ok hw (p:=x.pl) (c:=b.wh.co.getD k 0) (by omega)
    have hxa:=hx.1
    have hx14:=hx.2
    have hbo:=hxa.bo
    have hmany:0 ≤ x.bag.many ∧ x.bag.many ≤ 14:=by
     obtain ⟨a1,a2,a3,a4,a5⟩:=hA
     obtain ⟨_,_,h3,h4,h5,h6,_⟩:=hxa
     simp only [Pt.bag,Bag.many]; omega
    have hat:0 ≤ x.bag.at k ∧ x.bag.at k ≤ 14:=by
     obtain ⟨a1,a2,a3,a4,a5⟩:=hA
     obtain ⟨_,_,h3,h4,h5,h6,_⟩:=hxa
     have:k = 0 ∨ k = 1 ∨ k = 2 ∨ k = 3:=by omega
     rcases this with rfl | rfl | rfl | rfl <;> simp only [Bag.at,Bag.l,Pt.bag,List.getD_cons_zero,List.getD_cons_succ] <;> omega
    have hrun:=run69 b.wh x.pl 0 [(k:Int)]
    rw [run_coin hwb hxa.pl hi] at hrun
    have hcn:coinN b.wh A x k = [((k:Int),x.with ((x.pl + b.wh.co.getD k 0) % b.wh.ro) (x.cr + plays b.wh x.pl (b.wh.co.getD k 0)) (x.bag.inc k) (x.bo + plays b.wh x.pl (b.wh.co.getD k 0)))]:=by unfold coinN; rw [if_neg hne]
    have hsk:=hsu _ hcn
    have hyo:=coinN_ok hw hA hx hi _ (by rw [hcn]; exact List.mem_singleton.2 rfl)
    simp only at hsk hyo
    have w2:=w64 (n:=x.cr + plays b.wh x.pl (b.wh.co.getD k 0)) (by have:=hxa.cr; omega) (by omega)
    have w3:=w64 (n:=x.bo + plays b.wh x.pl (b.wh.co.getD k 0)) (by omega) (by omega)
    have w4:=w64 (n:=x.bag.at k + 1) (by omega) (by omega)
    have hset:=set_pt x hk4 ((x.pl + b.wh.co.getD k 0) % b.wh.ro) (x.cr + plays b.wh x.pl (b.wh.co.getD k 0)) (x.bo + plays b.wh x.pl (b.wh.co.getD k 0))
    have hgt:=at_pt2 x hk4 ((x.pl + b.wh.co.getD k 0) % b.wh.ro) (x.cr + plays b.wh x.pl (b.wh.co.getD k 0)) (x.bo + plays b.wh x.pl (b.wh.co.getD k 0))
    generalize x.with ((x.pl + b.wh.co.getD k 0) % b.wh.ro) (x.cr + plays b.wh x.pl (b.wh.co.getD k 0)) (x.bag.inc k) (x.bo + plays b.wh x.pl (b.wh.co.getD k 0)) = y at hset hsk hyo
    generalize (x.pl + b.wh.co.getD k 0) % b.wh.ro = np at *
    generalize plays b.wh x.pl (b.wh.co.getD k 0) = gp at *
    have hhl:s.2.length + 1 ≤ maxLen:=by have:maxLen = 9223372036854775807:=rfl; omega
    have hadd:=add67 hA hro.2 (k:Int) hyo x (S:=s.1) (fun e he => (hok.inn e he).1) (q:=s.2) bm bv off cap hhl (by omega)
    simp only [bagAv,Pt.l,List.map_cons,List.map_nil] at hset
    clear hsu hsn hcn
    (repeat ((first | refine Va ?_ | refine Vb ?_ | refine Vc ?_ | refine Vd ?_ | refine Ve ?_ | refine Vf ?_); (try simp only [go_sem,hP]); (repeat refine qJ ?_)))
    (refine WV_drw ?_; simp only [go_sem,hP,g1,g2,Int.toNat_natCast,Nat.mul_one]; (repeat' (refine And.intro ?_ ?_)))
    all_goals (
     (refine ACall_of (hrun) rfl rfl rfl rfl rfl ?_; simp only [go_sem,hP,Wh.av,Wh.avs,ints,w2,w3,w4,hgt,hset,Int.toNat_natCast,Nat.mul_one]; (repeat refine qJ ?_); (repeat ((first | refine Va ?_ | refine Vb ?_ | refine Vc ?_ | refine Vd ?_ | refine Ve ?_ | refine Vf ?_); (try simp only [go_sem,hP,Wh.av,Wh.avs,ints,w2,w3,w4,hgt,hset,Int.toNat_natCast,Nat.mul_one]); (repeat refine qJ ?_))))
     refine AS_lend [3,5,7,6,17,22] hadd rfl rfl rfl (by decide) rfl rfl ?_
     rintro r l' ⟨rfl,bv',off',cap',rfl⟩
     refine ⟨_,_,rfl,rfl,?_⟩
     simp only [go_sem,hP,ownBack,bagAv,Bag.l,Pt.l,List.map_cons,List.map_nil]
     (repeat ((first | refine Va ?_ | refine Vb ?_ | refine Vc ?_ | refine Vd ?_ | refine Ve ?_ | refine Vf ?_); (try simp only [go_sem,hP,w1]); (repeat refine qJ ?_)))
     refine ⟨(k + 1,addS A k x s y,bv',off',cap'),⟨hi,hsk.symm⟩,by simp only; omega,?_⟩
     exact Sub_au)
 ·have hi:k = b.wh.co.length:=by simp at h; omega
  subst hi
  subst hs
  (repeat ((first | refine Va ?_ | refine Vb ?_ | refine Vc ?_ | refine Vd ?_ | refine Ve ?_ | refine Vf ?_); (try simp only [go_sem,hP]); (repeat refine qJ ?_)))
  refine hQ _ bv off cap ?_
  simp only [wstE,wstO,bagAv,Bag.l,Pt.l,List.map_cons,List.map_nil,Bx.cds,ints]
  exact Sub_au
set_option maxHeartbeats 8000000 in
set_option maxRecDepth 20000 in
theorem walk62 {b:Bx} (hwb:whB b.wh = true) {A:Bag} (hA:BagOk A):FSpecN Try.prog 62 [.c (.pt b.cds),.agg (bagAv A.l)] (walkPost b.wh A):=by
 have hw:=whB_ok hwb
 have hro:=hw.ro
 refine FSpecN_of c62 (Nat.le_refl _) (by decide) fun C hP hN hC hL => ?_; rw [init_st]
 simp only [ir62,Bx.cds,ints,bagAv,Bag.l,List.map_cons,List.map_nil]
 (repeat ((first | refine Va ?_ | refine Vb ?_ | refine Vc ?_ | refine Vd ?_ | refine Ve ?_ | refine Vf ?_); (try simp only [go_sem,hP]); (repeat refine qJ ?_)))
 refine raw_mkG true true rfl ?_
 intro bm
 simp only [go_sem,hP]
 (repeat ((first | refine Va ?_ | refine Vb ?_ | refine Vc ?_ | refine Vd ?_ | refine Ve ?_ | refine Vf ?_); (try simp only [go_sem,hP]); (repeat refine qJ ?_)))
 have hst:=start_ok hw hA
 have hk0:=(hst.inn (p00,-2,p00) (by simp)).1.key hA hro.2
 refine raw_putG (ka:=true) (va:=true) (n:=17) (b:=bm) (l:=gl []) (key:=p00.l) (val:=-2 :: p00.l) (k:=113) (e:=115) (x':=.t 17) (i':=.t 18) (v':=.t 19) (.inr rfl) (by kernel_rfl) ptLaw rfl rfl rfl rfl rfl rfl rfl rfl rfl rfl hk0 (gl_keys hA hro.2 (S:=[]) (fun e he => by cases he)) (fun p _ h => kval_inj h) ?_
 rw [gput_gl (by simp [sks])]
 simp only [go_sem,hP,List.nil_append]
 refine WV_seq_ ?_
 (refine WV_split 1 ?_; simp only [List.take_succ_cons,List.take_zero,List.take_nil,List.drop_succ_cons,List.drop_zero,List.drop_nil]; simp only [go_sem,hP]; (repeat refine qJ ?_))
 refine SOps_rawI rfl ?_
 refine raw_qbsl (xs:=[p00.l]) rfl rfl rfl (ql1 p00) ?_
 intro bq
 simp only [go_sem,hP]
 (refine SOps_ops ?_; simp only [go_sem,hP]; (repeat refine qJ ?_))
 refine WV_seq_ (WV_block ?_)
 refine WV_loopK K62_1 [17,22,6] (fun i:Seen × List Pt × Nat × Nat × Nat => SeenOk b.wh.ro A (i.1,i.2.1) ∧ ∃ n,left (i.1,i.2.1) ≤ n ∧ bfs b.wh A n (i.1,i.2.1) = walkS b.wh A) (fun i => left (i.1,i.2.1)) (fun _ => [])
  (fun i => [(17,gmap true true (gl i.1) bm),(22,qO 113 7 (qls i.2.1) i.2.2.1 i.2.2.2.1 i.2.2.2.2),(6,.box [qv i.2.2.1 i.2.2.2.1 i.2.1.length i.2.2.2.2])]) ([(p00,-2,p00)],[p00],bq,0,1) ⟨hst,476583750002,by simp [left],by rw [walkS]⟩ ?_ ?_
 ·exact Sub_au
 rintro ⟨S,q,bv,off,cap⟩ ⟨hok,n,hn,hbfs⟩
 simp only at hok hn hbfs
 (repeat ((first | refine Va ?_ | refine Vb ?_ | refine Vc ?_ | refine Vd ?_ | refine Ve ?_ | refine Vf ?_); (try simp only [go_sem,hP]); (repeat refine qJ ?_)))
 (refine WV_cond rfl (fun h => ?_) (fun h => ?_))
 ·cases q with
  | nil => simp at h
  | cons x q =>
  clear h
  have hlen:=hok.len hA hro.2
  have hx:=hok.of_mem (hok.sub x (by simp))
  (repeat ((first | refine Va ?_ | refine Vb ?_ | refine Vc ?_ | refine Vd ?_ | refine Ve ?_ | refine Vf ?_); (try simp only [go_sem,hP]); (repeat refine qJ ?_)))
  refine raw_ia (b:=bv) (off:=off) (n:=(x :: q).length) (cap:=cap) rfl rfl rfl rfl (Int.le_refl 0) (by simp) ?_
  simp only [go_sem,hP]
  refine raw_qld (n:=22) (b:=bv) (off:=off) (cap:=cap) (i:=0) (e:=113) (xs:=qls (x :: q)) (r:=x.l) rfl rfl rfl rfl ?_
  simp only [go_sem,hP,Pt.l,List.map_cons,List.map_nil]
  (repeat ((first | refine Va ?_ | refine Vb ?_ | refine Vc ?_ | refine Vd ?_ | refine Ve ?_ | refine Vf ?_); (try simp only [go_sem,hP]); (repeat refine qJ ?_)))
  refine raw_qslc (n:=22) (b:=bv) (off:=off) (cap:=cap) (l:=1) (m:=(x :: q).length) (e:=113) (xs:=qls (x :: q)) rfl rfl rfl (List.length_map ..) rfl rfl (by simp) ?_
  intro off1
  have e1:(qls (x :: q)).drop 1 = qls q:=rfl
  have e2:(x :: q).length - 1 = q.length:=rfl
  rw [e1,e2]
  simp only [go_sem,hP]
  (repeat ((first | refine Va ?_ | refine Vb ?_ | refine Vc ?_ | refine Vd ?_ | refine Ve ?_ | refine Vf ?_); (try simp only [go_sem,hP]); (repeat refine qJ ?_)))
  have hexp:=expand_ok hw hA hok
  have hlft:=left_expand hw hA hok
  have ht:=hok.tail
  have hsel:=selN_ok hw hx
  have hs1:=addAll_ok hA (x:=x) ht hsel
  have hl1:=hs1.1.len hA hro.2
  refine WV_then (R:=fun σ' => ∃ bv1 off2 cap1,Sub σ' ⟨wstE b,wstO A bm x (addAll A x (selN x) (S,q)) bv1 off2 cap1⟩) ?_ ?_
  ·rintro σ' ⟨bv1,off2,cap1,hsub⟩
   refine WV_sub hsub (kinds62 hP hwb hA hx hs1.1 fun σ2 bv3 off3 cap3 hsub2 => ?_)
   obtain ⟨m,rfl⟩ : ∃ m,n = m + 1:=⟨n - 1,by omega⟩
   refine ⟨((expand b.wh A x (S,q)).1,(expand b.wh A x (S,q)).2,bv3,off3,cap3),⟨hexp.1,m,(show left (expand b.wh A x (S,q)) ≤ m by omega),hbfs⟩,hlft,?_⟩
   refine hsub2.trans ?_
   rw [show addAll A x (coinsN b.wh A x b.wh.co.length) (addAll A x (selN x) (S,q)) = expand b.wh A x (S,q) from rfl]
   generalize expand b.wh A x (S,q) = s2
   simp only [wstE,wstO,bagAv,Bag.l,Pt.l,List.map_cons,List.map_nil,Bx.cds,ints]
   exact Sub_au
  ·have hxa:=hx.1
   by_cases hse:0 < x.cr ∧ 0 < x.pl
   ·have hsl:selN x = [(-1,x.with 0 (x.cr - 1) x.bag x.bo)]:=by unfold selN; rw [if_pos hse]
    have hsy:addAll A x (selN x) (S,q) = addS A (-1) x (S,q) (x.with 0 (x.cr - 1) x.bag x.bo):=by rw [hsl]; rfl
    have hyo:=hsel _ (by rw [hsl]; exact List.mem_singleton.2 rfl)
    simp only at hyo
    have hrun:=run69 b.wh x.pl 1 [-1]
    rw [run_sel hwb hxa.pl] at hrun
    have w2:=w64 (n:=x.cr - 1) (by have:=hxa.cr; omega) (by have:=hxa.cr; omega)
    have hhl:q.length + 1 ≤ maxLen:=by have:maxLen = 9223372036854775807:=rfl; simp only [List.length_cons] at hlen; omega
    have hadd:=add67 hA hro.2 (-1) hyo x (S:=S) (fun e he => (hok.inn e he).1) (q:=q) bm bv off1 (cap - 1) hhl (by simp only [List.length_cons] at hlen; omega)
    rw [hsy]
    (refine WV_cond rfl (fun h => ?_) (fun h => ?_))
    ·(repeat ((first | refine Va ?_ | refine Vb ?_ | refine Vc ?_ | refine Vd ?_ | refine Ve ?_ | refine Vf ?_); (try simp only [go_sem,hP]); (repeat refine qJ ?_)))
     (refine WV_drw ?_; simp only [go_sem,hP]; (repeat' (refine And.intro ?_ ?_)))
     all_goals (
      (refine ACall_of (hrun) rfl rfl rfl rfl rfl ?_; simp only [go_sem,hP,Wh.av,Wh.avs,ints,w2]; (repeat refine qJ ?_); (repeat ((first | refine Va ?_ | refine Vb ?_ | refine Vc ?_ | refine Vd ?_ | refine Ve ?_ | refine Vf ?_); (try simp only [go_sem,hP,Wh.av,Wh.avs,ints,w2]); (repeat refine qJ ?_))))
      refine AS_lend [3,5,7,6,17,22] hadd rfl rfl rfl (by decide) rfl rfl ?_
      rintro r l' ⟨rfl,bv',off',cap',rfl⟩
      refine ⟨_,_,rfl,rfl,?_⟩
      generalize addS A (-1) x (S,q) (x.with 0 (x.cr - 1) x.bag x.bo) = s2
      simp only [go_sem,hP,ownBack,bagAv,Bag.l,Pt.l,List.map_cons,List.map_nil]
      refine ⟨bv',off',cap',?_⟩
      simp only [wstE,wstO,bagAv,Bag.l,Pt.l,List.map_cons,List.map_nil,Bx.cds,ints]
      exact Sub_au)
    ·exfalso; simp [hse.1,hse.2] at h
   ·have hsl:selN x = []:=by unfold selN; rw [if_neg hse]
    have hsy:addAll A x (selN x) (S,q) = (S,q):=by rw [hsl]; rfl
    rw [hsy]
    (refine WV_cond rfl (fun h => ?_) (fun h => ?_))
    ·exfalso; apply hse; simpa using h
    ·(repeat ((first | refine Va ?_ | refine Vb ?_ | refine Vc ?_ | refine Vd ?_ | refine Ve ?_ | refine Vf ?_); (try simp only [go_sem,hP]); (repeat refine qJ ?_)))
     refine ⟨bv,off1,cap - 1,?_⟩
     simp only [wstE,wstO,bagAv,Bag.l,Pt.l,List.map_cons,List.map_nil,Bx.cds,ints]
     exact Sub_au
 ·cases q with
  | cons x q => simp at h
  | nil =>
  rw [bfs_nil] at hbfs
  subst hbfs
  (repeat ((first | refine Va ?_ | refine Vb ?_ | refine Vc ?_ | refine Vd ?_ | refine Ve ?_ | refine Vf ?_); (try simp only [go_sem,hP]); (repeat refine qJ ?_)))
  (refine WV_ret ?_; simp only [thenQ,inQ,RetQN,RetOkN,resAll,resA]; simp only [go_sem,tupA])
  refine ⟨[17],_,_,_,by simp,by simp,rfl,AVle.refl _,rfl,bm,rfl,rfl⟩
end Go.Proofs.Ytakplakbbidihaa
