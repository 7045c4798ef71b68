/-
  Contracts of the layer's functions, of the laws' helpers and of the law; conditions: as each theorem states.
-/
import Derived.Test.YtakplakbbidihaaU6
set_option linter.unusedVariables false
set_option linter.unusedSimpArgs false
namespace Go.Proofs.Ytakplakbbidihaa
open Go Go.V
attribute [local go_sem] Nat.reduceEqDiff Nat.reduceAdd Nat.reduceMul reduceIte Nat.reduceLeDiff Nat.reduceLT Nat.reduceBEq reduceCtorEq
set_option maxHeartbeats 4000000 in
theorem shutF (r:Route):FSpecF Try.prog 15 [r.av] (.tup [.c (ints (shutS r).1),iv (shutS r).2]):=by
 refine FSpecF_of c15 (Nat.le_refl _) (by decide) fun C hP hN hC hL => ?_
 simp only [ir15,Route.av]
 (repeat ((first | refine Va ?_ | refine Vb ?_ | refine Vc ?_ | refine Vd ?_ | refine Ve ?_ | refine Vf ?_); (try simp only [go_sem,hP]); (repeat refine qJ ?_)))
 (refine AS_pu (rcheck_spec r) ?_; simp only [go_sem,hP,Route.av]; (repeat refine qJ ?_); (repeat ((first | refine Va ?_ | refine Vb ?_ | refine Vc ?_ | refine Vd ?_ | refine Ve ?_ | refine Vf ?_); (try simp only [go_sem,hP,Route.av]); (repeat refine qJ ?_))))
 by_cases hok:r.ok = true
 ·have hr:=Route.ok_spec hok
  have hn7:=hr.n7
  simp only [hok,if_true]
  (refine WV_cond rfl (fun h => ?_) (fun h => ?_))
  ·simp at h
  ·clear h
   have hsl:(r.stops.length:Int) = (r.n:Int):=rfl
   refine WV_freeze 1 (ds:=r.cds) rfl rfl ?_
   (repeat ((first | refine Va ?_ | refine Vb ?_ | refine Vc ?_ | refine Vd ?_ | refine Ve ?_ | refine Vf ?_); (try simp only [go_sem,hP]); (repeat refine qJ ?_)))
   (refine AS_pu (tours66 r) ?_; simp only [go_sem,hP]; (repeat refine qJ ?_); (repeat ((first | refine Va ?_ | refine Vb ?_ | refine Vc ?_ | refine Vd ?_ | refine Ve ?_ | refine Vf ?_); (try simp only [go_sem,hP]); (repeat refine qJ ?_))))
   refine WV_keep K15_1 ?_
   simp only [go_sem]
   refine WV_rng hC (L:=[5]) (l:=[.box (seenC (lasts []))]) (env':=lendF [5] _ _) (rem:=(goods r).map (entT r)) (Fin:=fun pend lf => pend = none ∧ lf = [.box (seenC (lasts (goods r)))]) rfl rfl rfl (by decide) (by decide) ?_ (by rw [hN]; decide) (lendF_ok _ _ _) (fun g' => ?_) ?_ ?_
   ·simp only [go_sem,obsLend,Ob.lend,AV.lendL,AV.lend]
    rfl
   ·rw [hP]; exact ⟨_,tours74 hr g',fun _ _ h => h⟩
   ·refine RunR_pre (entT r) (fun pre => [.box (seenC (lasts pre))]) (goods r) (fun p => rfl) (fun t _ => ⟨rfl,rfl⟩) (fun pre p post hts => ?_) (goods r) [] rfl
    have hpo:=goods_ok hr p (by rw [hts]; simp)
    have hple:=goods_len hr (p:=p) (by rw [hts]; simp)
    have hprg:∀ d,AV.prgL d (cellsT p.1) = cellsT p.1:=fun d => prgL_pure d (cellsT_pure _)
    simp only [lasts_snoc]
    intro C1 h1 h2 h3 h4
    have hP0:=hP
    replace hP:=h1.trans hP0
    rw [ownW_upd (by simp)]
    generalize lasts pre = s
    have hpsg:∀ d s,AV.prgL d (seenC s) = seenC s:=fun d s => prgL_pure d (seenC_pure _)
    simp only [go_sem,lendF_upd,lendF_e0,AV.lend,AV.lendL,Option.getD_some,Option.getD_none,List.zip_cons_cons,List.zip_nil_right,updLo,entT,vanv]
    (repeat ((first | refine Va ?_ | refine Vb ?_ | refine Vc ?_ | refine Vd ?_ | refine Ve ?_ | refine Vf ?_); (try simp only [go_sem,hP,hpsg]); (repeat refine qJ ?_)))
    intro C2 h1 h2 h3 h4
    replace hP:=h1.trans hP0
    (repeat ((first | refine Va ?_ | refine Vb ?_ | refine Vc ?_ | refine Vd ?_ | refine Ve ?_ | refine Vf ?_); (try simp only [go_sem,hP,hprg,hpsg]); (repeat refine qJ ?_)))
    (refine WV_cond rfl (fun h => ?_) (fun h => ?_))
    ·have h:0 < p.1.length:=by simpa using h
     obtain ⟨m,hm⟩ : ∃ m,p.1.length = m + 1:=⟨p.1.length - 1,by omega⟩
     have hml:m < p.1.length:=by omega
     have hkk:=hpo.2.1 _ (List.getElem_mem hml)
     have hm7:p.1[m] < 7:=by omega
     have hla:p.1.getLast? = some p.1[m]:=by rw [List.getLast?_eq_getElem?,hm,Nat.add_sub_cancel,List.getElem?_eq_getElem]
     have hw:=w64 (n:=((m + 1:Nat):Int) - 1) (by omega) (by omega)
     have ew:((m + 1:Nat):Int) - 1 = (m:Int):=by omega
     rw [ew] at hw
     rw [hla]
     simp only [Option.map_some,Option.toList_some]
     (repeat ((first | refine Va ?_ | refine Vb ?_ | refine Vc ?_ | refine Vd ?_ | refine Ve ?_ | refine Vf ?_); (try simp only [go_sem,hP,hprg,hpsg,hm,ew,hw,cellsT_len,cellsT_getD hml,Int.toNat_natCast,Nat.mul_one,Int.natCast_nonneg,seenC_len,seenC_set _ hm7]); (repeat refine qJ ?_)))
     refine ⟨none,_,rfl,?_,rfl,rfl⟩
     refine KeepL_mk rfl rfl ?_ ?_ rfl
     ·simp only [go_sem,keepAll,Ob.keepP,keepPL_pure (seenC_pure _) (seenC_solid _)]
     ·simp only [go_sem,winAll]
    ·have h:p.1 = []:=by simpa using h
     rw [h]
     simp only [List.getLast?_nil,Option.map_none,Option.toList_none,List.append_nil]
     (repeat ((first | refine Va ?_ | refine Vb ?_ | refine Vc ?_ | refine Vd ?_ | refine Ve ?_ | refine Vf ?_); (try simp only [go_sem,hP]); (repeat refine qJ ?_)))
     refine ⟨none,_,rfl,?_,rfl,rfl⟩
     refine KeepL_mk rfl rfl ?_ ?_ rfl
     ·simp only [go_sem,keepAll,Ob.keepP,keepPL_pure (seenC_pure _) (seenC_solid _)]
     ·simp only [go_sem,winAll]
   ·rintro _ _ ⟨rfl,rfl⟩
    have hbk:=backs_pure (L:=[5]) (seenC_pure (lasts (goods r)))
    refine ⟨[.box (seenC (lasts (goods r)))],by simp only [obsBack,Ob.back,hbk]; rfl,rfl,?_⟩
    simp only [go_sem,exitOf,ownBack]
    (repeat ((first | refine Va ?_ | refine Vb ?_ | refine Vc ?_ | refine Vd ?_ | refine Ve ?_ | refine Vf ?_); (try simp only [go_sem,hP,Route.cds,stopsC]); (repeat refine qJ ?_)))
    generalize hs:lasts (goods r) = s
    have hpsg:∀ d s,AV.prgL d (seenC s) = seenC s:=fun d s => prgL_pure d (seenC_pure _)
    refine WV_nilslot 7 40 3 1 (by decide) (by decide) rfl rfl ?_
    simp only [go_sem,hpsg]
    have hmax:maxLen = 9223372036854775807:=rfl
    refine WV_loopK K15_2 [5,40] (fun k:Nat => k ≤ r.n) (fun k => r.n - k) (fun k => [(30,iv k),(7,.gr 40)]) (fun k => [(5,.box (seenC s)),(40,.grow 3 1 ((shutL s k).map fun n => [.int .i64 n]))]) 0 (Nat.zero_le _) ?_ ?_
    ·exact Sub_au
    ·intro k hk
     have hsll:=shutL_len s k
     simp only [go_sem,hpsg]
     (repeat ((first | refine Va ?_ | refine Vb ?_ | refine Vc ?_ | refine Vd ?_ | refine Ve ?_ | refine Vf ?_); (try simp only [go_sem,hP,hpsg]); (repeat refine qJ ?_)))
     (refine WV_cond rfl (fun h => ?_) (fun h => ?_))
     ·have h:k < r.n:=by rw [hsl] at h; simpa using h
      have hk7:k < 7:=by omega
      have hw2:=w64 (n:=(k:Int) + 1) (by omega) (by omega)
      (repeat ((first | refine Va ?_ | refine Vb ?_ | refine Vc ?_ | refine Vd ?_ | refine Ve ?_ | refine Vf ?_); (try simp only [go_sem,hP,hpsg,Int.toNat_natCast,Nat.mul_one,Int.natCast_nonneg,seenC_len,seenC_get _ hk7,hw2]); (repeat refine qJ ?_)))
      (refine WV_cond rfl (fun h => ?_) (fun h => ?_))
      ·have h:¬ (k:Int) ∈ s:=by simpa using h
       have e:=shutL_succ s k
       rw [if_neg h] at e
       (repeat ((first | refine Va ?_ | refine Vb ?_ | refine Vc ?_ | refine Vd ?_ | refine Ve ?_ | refine Vf ?_); (try simp only [go_sem,hP,hpsg,hw2]); (repeat refine qJ ?_)))
       refine ⟨k + 1,by omega,by omega,?_⟩
       rw [e]
       exact Sub_au
      ·have h:(k:Int) ∈ s:=by simpa using h
       have e:=shutL_succ s k
       rw [if_pos h,List.append_nil] at e
       (repeat ((first | refine Va ?_ | refine Vb ?_ | refine Vc ?_ | refine Vd ?_ | refine Ve ?_ | refine Vf ?_); (try simp only [go_sem,hP,hpsg,hw2]); (repeat refine qJ ?_)))
       refine ⟨k + 1,by omega,by omega,?_⟩
       rw [e]
       exact Sub_au
     ·have h:k = r.n:=by rw [hsl] at h; simp at h; omega
      subst h
      (repeat ((first | refine Va ?_ | refine Vb ?_ | refine Vc ?_ | refine Vd ?_ | refine Ve ?_ | refine Vf ?_); (try simp only [go_sem,hP,hpsg]); (repeat refine qJ ?_)))
      (refine WV_ret ?_; simp only [thenQ,inQ,RetQF,RetOkF,resAll,resA]; simp only [go_sem,tupA,AV.fport,AV.fportL,CD.scal,exists_eq_left']; refine And.intro (by ((repeat' (first | exact NoWin_o0 | refine NoWin_upd (fun cs h => by cases h) ?_)))) ?_)
      rw [if_pos (ints_scal _)]
      simp only [shutS,hok,if_true,hs,ints]
      exact ⟨_,rfl,AVle.refl _⟩
 ·have hok:r.ok = false:=by simpa using hok
  simp only [hok,Bool.false_eq_true,if_false]
  (refine WV_cond rfl (fun h => ?_) (fun h => ?_))
  ·(repeat ((first | refine Va ?_ | refine Vb ?_ | refine Vc ?_ | refine Vd ?_ | refine Ve ?_ | refine Vf ?_); (try simp only [go_sem,hP]); (repeat refine qJ ?_)))
   (refine WV_ret ?_; simp only [thenQ,inQ,RetQF,RetOkF,resAll,resA]; simp only [go_sem,tupA,AV.fport,AV.fportL,CD.scal,exists_eq_left']; refine And.intro (by ((repeat' (first | exact NoWin_o0 | refine NoWin_upd (fun cs h => by cases h) ?_)))) ?_)
   simp only [shutS,hok,Bool.false_eq_true,if_false]
   exact AVle.tup (AVles.cons (AVle.nil 1) (AVles.refl _))
  ·simp at h
theorem wayF (r:Route):FSpecF Try.prog 14 [r.av] (.tup [.non,iv (wayS r).2]):=by
 refine ⟨(way18 r).1,fun w vs h => ((way18 r).2 w _ vs (fun _ _ h => h.elim) h).mono ?_⟩
 rintro e w' ⟨v,rfl,hv,hb⟩
 refine ⟨v,rfl,?_,hb⟩
 simp only [RepA,RepAs,RepC] at hv ⊢
 obtain ⟨l,rfl,a,l2,rfl,_,h2⟩:=hv
 exact ⟨_,rfl,a,l2,rfl,trivial,h2⟩
end Go.Proofs.Ytakplakbbidihaa

namespace Go.Proofs.Ytakplakbbidihaa
open Go Go.V
namespace W2
abbrev o6_0:List Ins:=[⟨some 1,.box 3 (.t 0),none,true⟩,
 ⟨some 2,.alloc [(.c (.raw (.slice none 0 0))),(.c (.raw (.slice none 0 0))),(.c (.int .i64 0))],none,true⟩]
abbrev o6_1:List Ins:=[⟨some 5,.ld false 3 (.t 1),none,true⟩,
 ⟨some 3,.alloc [(.c (.raw (.slice none 0 0))),(.c (.raw (.slice none 0 0))),(.c (.int .i64 0))],none,true⟩,
 ⟨none,.st 3 (.t 3) (.t 5),none,true⟩]
abbrev o6_2:List Ins:=[⟨some 6,.bsl 42 4 [],none,true⟩,
 ⟨some 7,.fa 0 (.t 1),none,true⟩,
 ⟨some 8,.ld true 1 (.t 7),none,true⟩,
 ⟨some 9,.appv 42 4 32 (.t 6) (.t 8),none,true⟩,
 ⟨some 10,.fa 0 (.t 3),none,true⟩,
 ⟨none,.st 1 (.t 10) (.t 9),none,true⟩,
 ⟨some 11,.fa 1 (.t 3),none,true⟩,
 ⟨none,.st 1 (.t 11) (.k (.c (.raw (.slice none 0 0)))),none,true⟩]
abbrev o6_3:List Ins:=[⟨some 4,.mv (.k (.c (.int .i64 0))),none,true⟩]
abbrev o6_4:List Ins:=[⟨some 12,.mv (.t 4),none,true⟩,
 ⟨some 13,.fa 1 (.t 1),none,true⟩,
 ⟨some 14,.ld true 1 (.t 13),none,true⟩,
 ⟨some 15,.len (.t 14),none,true⟩,
 ⟨some 16,.bin .lss (.t 12) (.t 15),none,true⟩]
abbrev v6_5:VC:=(.cond (.t 16) .skip (.exit 0))
abbrev o6_6:List Ins:=[⟨some 19,.fa 1 (.t 3),none,false⟩,
 ⟨some 20,.ld true 1 (.t 19),none,false⟩,
 ⟨some 21,.bsl 3 1 [],none,false⟩,
 ⟨some 22,.fa 1 (.t 1),none,false⟩,
 ⟨some 23,.ld true 1 (.t 22),none,false⟩,
 ⟨some 24,.mv (.t 4),none,false⟩,
 ⟨some 25,.ia 1 (.t 23) (.t 24),none,false⟩,
 ⟨some 26,.ld true 1 (.t 25),none,false⟩,
 ⟨some 27,.app 3 1 8 (.t 21) (.t 26),none,false⟩,
 ⟨some 28,.bsl 31 1 [(.t 27)],none,false⟩,
 ⟨some 29,.app 31 1 24 (.t 20) (.t 28),none,true⟩,
 ⟨some 30,.fa 1 (.t 3),none,true⟩,
 ⟨none,.st 1 (.t 30) (.t 29),none,true⟩]
abbrev o6_7:List Ins:=[⟨some 17,.mv (.t 4),none,true⟩,
 ⟨some 18,.bin .add (.t 17) (.k (.c (.int .i64 1))),none,true⟩,
 ⟨some 4,.mv (.t 18),none,true⟩]
abbrev v6_8:VC:=(.seq (.block 1 (.dops o6_6)) (.ops o6_7))
abbrev v6_9:VC:=(.seq (.seq (.ops o6_4) v6_5) v6_8)
-- K6_1: changed and kept: [4]
abbrev K6_1:List Nat:=[1,2,3]
abbrev v6_10:VC:=(.loop v6_9)
abbrev v6_11:VC:=(.block 0 v6_10)
abbrev o6_12:List Ins:=[⟨some 31,.ld false 3 (.t 3),none,true⟩,
 ⟨none,.st 3 (.t 2) (.t 31),none,true⟩]
abbrev v6_13:VC:=(.seq (.ops o6_12) .ret)
abbrev v6_14:VC:=(.seq (.seq (.ops o6_3) v6_11) v6_13)
abbrev v6_15:VC:=(.seq (.ops o6_2) v6_14)
abbrev v6_16:VC:=(.seq (.ops o6_1) v6_15)
def ir6:FC:=⟨1,32,[.cell 2 false 3],(.seq (.ops o6_0) v6_16)⟩
theorem c6:compM Try.prog [100009] 6 = some ir6:=by kernel_rfl
end W2
attribute [local go_sem] Nat.reduceEqDiff Nat.reduceAdd Nat.reduceMul reduceIte Nat.reduceLeDiff Nat.reduceLT Nat.reduceBEq reduceCtorEq
def copyQ (r:Route) (res:AV) (os:List Ob):Prop:=∃ cap j,r.stops.length ≤ cap ∧ cap ≤ maxLen ∧ cap * 4 ≤ r.stops.length * 4 + j ∧ res = .agg [.vw 4 1000 0 r.stops.length cap,.c (driveC r.drive),iv r.start] ∧ os = [.box (cellsG Stop.cds r.stops j)]
set_option maxRecDepth 20000 in
set_option maxHeartbeats 8000000 in
theorem copyS6 (r:Route) (h0:r.stops ≠ []) (hnear:near r = true):FSpecN Try.prog 6 [r.av] (copyQ r):=by
 obtain ⟨hn1,hn2,hn3⟩:=near_eq hnear
 have hmax:maxLen = 9223372036854775807:=rfl
 have hl0:(r.stops.length = 0) = False:=by simpa using h0
 refine FSpecN_of W2.c6 (Nat.le_refl _) (by decide) fun C hP hN hC hL => ?_
 simp only [W2.ir6,Route.av]
 (repeat ((first | refine Va ?_ | refine Vb ?_ | refine Vc ?_ | refine Vd ?_ | refine Ve ?_ | refine Vf ?_); (try simp only [go_sem,hP,stopsC,stops_four,List.length_map,hl0]); (repeat refine qJ ?_)))
 (repeat' (refine And.intro ?_ ?_))
 all_goals try omega
 all_goals
  intro cap j q1 q2 q3
  refine WV_freeze 1 (ds:=r.cds) rfl rfl ?_
  simp only [go_sem,stops_cells,prg_cellsG,frz_cellsG]
  refine WV_nilbox 3 1 29 31 1 (by decide) (by decide) (by decide) rfl rfl rfl ?_
  simp only [go_sem,prg_cellsG]
  refine WV_seq_ (WV_seq_ ?_)
  (refine WV_op ?_; simp only [go_sem,hP]; (repeat refine qJ ?_))
  refine WV_block ?_
  refine WV_loopK K6_1 [2,3,6,9,29] (fun k:Nat => k ≤ r.drive.length) (fun k => r.drive.length - k) (fun k => [(4,iv k)])
   (fun k => [(29,.grow 31 1 ((r.drive.take k).map fun x => [ints x])),(3,.box [.vw 4 9 0 r.stops.length cap,.gr 29,iv r.start]),(9,.box (cellsG Stop.cds r.stops j)),(2,.box [.c (.raw (.slice none 0 0)),.c (.raw (.slice none 0 0)),iv 0])]) 0 (Nat.zero_le _) ?_ ?_
  ·exact Sub_au
  ·intro k hk
   have htl:(r.drive.take k).length ≤ 20:=by rw [List.length_take]; omega
   simp only [go_sem]
   (repeat ((first | refine Va ?_ | refine Vb ?_ | refine Vc ?_ | refine Vd ?_ | refine Ve ?_ | refine Vf ?_); (try simp only [go_sem,hP,Route.cds,driveC]); (repeat refine qJ ?_)))
   (refine WV_cond rfl (fun h => ?_) (fun h => ?_))
   ·have h:k < r.drive.length:=by simpa using h
    have hrow:=hn3 _ (List.getElem_mem h)
    have hw2:=w64 (n:=(k:Int) + 1) (by omega) (by omega)
    (repeat ((first | refine Va ?_ | refine Vb ?_ | refine Vc ?_ | refine Vd ?_ | refine Ve ?_ | refine Vf ?_); (try simp only [go_sem,hP,Route.cds,driveC,Int.toNat_natCast,map_getD h,List.length_map,Int.ofNat_lt,h,Int.natCast_nonneg,ints,ints_one,intss_one,hw2,prg_cellsG]); (repeat refine qJ ?_)))
    refine ⟨k + 1,by omega,by omega,?_⟩
    rw [List.take_succ_eq_append_getElem (by assumption),List.map_append]
    (refine Sub_of (by simp only [go_sem]; ((repeat' (first | exact EnvLe_e0 _ _ | refine EnvLe_upd ?_ ?_)) <;> ((try simp only [upd_app,e0_app,o0_app,Nat.reduceEqDiff,reduceIte]); first | exact AWk.refl _ _ | exact AWk.int (by omega) | exact AWk.int (by rw [w64 (by omega) (by omega)]; omega) | exact AWk.grow rfl | exact AWk.nil _ | exact AWk.of (by simp [ints])))) (by simp only [go_sem]; exact ObjLe_au))
   ·have h:k = r.drive.length:=by simp at h; omega
    subst h
    rw [List.take_length]
    (repeat ((first | refine Va ?_ | refine Vb ?_ | refine Vc ?_ | refine Vd ?_ | refine Ve ?_ | refine Vf ?_); (try simp only [go_sem,hP,prg_cellsG]); (repeat refine qJ ?_)))
    (refine WV_ret ?_; simp only [thenQ,inQ,RetQN,RetOkN,resAll,resA]; simp only [go_sem,tupA])
    refine ⟨[9],_,_,[.box (cellsG Stop.cds r.stops j)],by simp,by simp,rfl,AVle.refl _,?_,cap,j,q1,q2,q3,rfl,rfl⟩
    simp only [go_sem,obsLend,Ob.lend,lend_cellsG]
end Go.Proofs.Ytakplakbbidihaa

/-
 The collector's round: plain.
-/
namespace Go.Proofs.Ytakplakbbidihaa
open Go Go.V
theorem ext_self (r:Route):∀ (f:Nat) (t:List Nat) (v:Van),(t,v) ∈ ext r f t v
 | 0,t,v => by simp [ext]
 | f + 1,t,v => by simp [ext]
theorem ext_last (r:Route):∀ (f:Nat) (t:List Nat) (v:Van),∀ p ∈ ext r f t v,∀ k ∈ p.1,k ∈ t ∨ ∃ q ∈ ext r f t v,q.1.getLast? = some k
 | 0,t,v,p,hp,k,hk => by simp only [ext,List.mem_singleton] at hp; subst hp; exact .inl hk
 | f + 1,t,v,p,hp,k,hk => by
  simp only [ext,List.mem_cons,List.mem_flatMap,List.mem_range] at hp
  rcases hp with rfl | ⟨j,hj,hp⟩
  ·exact .inl hk
  ·have hsub:(if j ∈ t then [] else if (visit r v j).2.2 then ext r f (t ++ [j]) (visit r v j).1 else []) ⊆ ext r (f + 1) t v:=fun q hq => by
    simp only [ext,List.mem_cons,List.mem_flatMap,List.mem_range]
    exact .inr ⟨j,hj,hq⟩
   have hp':=hp
   split at hp'
   ·cases hp'
   ·rename_i hnj
    split at hp'
    ·rename_i hv
     rw [if_neg hnj,if_pos hv] at hsub
     rcases ext_last r f _ _ p hp' k hk with h | ⟨q,hq,hl⟩
     ·rcases List.mem_append.1 h with h | h
      ·exact .inl h
      ·simp only [List.mem_singleton] at h
       subst h
       exact .inr ⟨_,hsub (ext_self r f _ _),by simp⟩
     ·exact .inr ⟨q,hsub hq,hl⟩
    ·cases hp'
theorem goods_last {r:Route} {p:List Nat × Van} (hp:p ∈ goods r) {k:Nat} (hk:k ∈ p.1):(k:Int) ∈ lasts (goods r):=by
 rcases ext_last r _ _ _ p hp k hk with h | ⟨q,hq,hl⟩
 ·cases h
 ·unfold lasts
  rw [List.mem_filterMap]
  exact ⟨q,hq,by rw [hl]; rfl⟩
structure SameWay (r s:Route):Prop where
 n:s.n = r.n
 d:s.drive = r.drive
 t:s.start = r.start
 st:∀ k,(s.s k).op = (r.s k).op ∧ (s.s k).cl = (r.s k).cl ∧ (s.s k).st = (r.s k).st
theorem SameWay.wdrv {r s:Route} (h:SameWay r s) (v:Van) (k:Nat):drv s v k = drv r v k:=by
 unfold drv Route.d; rw [h.d]
theorem SameWay.wvis {r s:Route} (h:SameWay r s) (v:Van) (k:Nat):visit s v k = visit r v k:=by
 obtain ⟨h1,h2,h3⟩:=h.st k
 unfold visit; rw [h.wdrv,h1,h2,h3]
theorem SameWay.wext {r s:Route} (h:SameWay r s):∀ (f:Nat) (t:List Nat) (v:Van),ext s f t v = ext r f t v
 | 0,t,v => rfl
 | f + 1,t,v => by
  simp only [Go.Proofs.Ytakplakbbidihaa.ext,h.n]
  congr 2
  funext k
  rw [h.wvis,SameWay.wext h f]
theorem SameWay.wgoods {r s:Route} (h:SameWay r s):goods s = goods r:=by
 unfold Go.Proofs.Ytakplakbbidihaa.goods
 rw [h.n,show leave s = leave r by unfold leave; rw [h.n,h.t],h.wext]
theorem max_spec:∀ (l:List Int) (a:Int),a ≤ l.foldl max a ∧ (∀ x ∈ l,x ≤ l.foldl max a) ∧ ∀ M,a ≤ M → (∀ x ∈ l,x ≤ M) → l.foldl max a ≤ M
 | [],a => ⟨Int.le_refl _,by simp,fun M h _ => h⟩
 | y :: l,a => by
  obtain ⟨h1,h2,h3⟩:=max_spec l (max a y)
  simp only [List.foldl_cons]
  refine ⟨by omega,fun x hx => ?_,fun M h hM => h3 M ?_ fun x hx => hM x (by simp [hx])⟩
  ·rcases List.mem_cons.1 hx with rfl | hx
   ·omega
   ·exact h2 x hx
  ·have:=hM y (by simp); omega
theorem mostB_spec (r:Route) (l:List (List Nat × Van)):0 ≤ mostB r l ∧ (∀ p ∈ l,cashS r p.1 ≤ mostB r l) ∧ ∀ M,0 ≤ M → (∀ p ∈ l,cashS r p.1 ≤ M) → mostB r l ≤ M:=by
 obtain ⟨h1,h2,h3⟩:=max_spec (l.map fun p => cashS r p.1) 0
 refine ⟨h1,fun p hp => h2 _ (List.mem_map.2 ⟨p,hp,rfl⟩),fun M h hM => h3 M h fun x hx => ?_⟩
 obtain ⟨p,hp,rfl⟩:=List.mem_map.1 hx
 exact hM p hp
theorem one_sum (n a:Nat) (f:Nat → Int) (h:a < n):((List.range n).map fun k => if k = a then f k else 0).sum = f a:=by
 induction n with
 | zero => omega
 | succ n ih =>
  rw [List.range_succ,List.map_append,List.sum_append]
  simp only [List.map_cons,List.map_nil,List.sum_cons,List.sum_nil]
  by_cases hn:a = n
  ·subst hn
   have:((List.range a).map fun k => if k = a then f k else 0).sum = 0:=by
    have key:∀ m,m ≤ a → ((List.range m).map fun k => if k = a then f k else 0).sum = 0:=by
     intro m
     induction m with
     | zero => intro _; rfl
     | succ m ih =>
      intro hm
      rw [List.range_succ,List.map_append,List.sum_append,ih (by omega)]
      simp only [List.map_cons,List.map_nil,List.sum_cons,List.sum_nil]
      rw [if_neg (by omega)]; rfl
    exact key a (Nat.le_refl _)
   rw [this,if_pos rfl]; omega
  ·rw [ih (by omega),if_neg (by omega)]; omega
theorem add_sum (n:Nat) (f g:Nat → Int):((List.range n).map fun k => f k + g k).sum = ((List.range n).map f).sum + ((List.range n).map g).sum:=by
 induction n with
 | zero => rfl
 | succ n ih =>
  simp only [List.range_succ,List.map_append,List.sum_append,List.map_cons,List.map_nil,List.sum_cons,List.sum_nil] at ih ⊢
  omega
theorem le_sum (n:Nat) (f g:Nat → Int) (h:∀ k,k < n → f k ≤ g k):((List.range n).map f).sum ≤ ((List.range n).map g).sum:=by
 induction n with
 | zero => simp
 | succ n ih =>
  have h1:=ih fun k hk => h k (by omega)
  have h2:=h n (by omega)
  simp only [List.range_succ,List.map_append,List.sum_append,List.map_cons,List.map_nil,List.sum_cons,List.sum_nil]
  omega
theorem tour_sum (n:Nat) (f:Nat → Int):∀ (t:List Nat),t.Nodup → (∀ k ∈ t,k < n) → (t.map f).sum = ((List.range n).map fun k => if k ∈ t then f k else 0).sum
 | [],_,_ => by
  have:=le_sum n (fun k => if k ∈ ([]:List Nat) then f k else 0) (fun _ => 0) (fun k _ => by simp)
  have h2:=le_sum n (fun _ => 0) (fun k => if k ∈ ([]:List Nat) then f k else 0) (fun k _ => by simp)
  have h3:((List.range n).map fun _ => (0:Int)).sum = 0:=by
   have key:∀ l:List Nat,(l.map fun _ => (0:Int)).sum = 0:=by
    intro l; induction l with
    | nil => rfl
    | cons a l ih => simp only [List.map_cons,List.sum_cons,ih]; rfl
   exact key _
  simp only [List.map_nil,List.sum_nil]
  omega
 | a :: t,hn,hl => by
  have h1:=tour_sum n f t (List.nodup_cons.1 hn).2 fun k hk => hl k (by simp [hk])
  have ha:=hl a (by simp)
  have hna:=(List.nodup_cons.1 hn).1
  have h2:(fun k => if k ∈ a :: t then f k else 0) = fun k => (if k = a then f k else 0) + (if k ∈ t then f k else 0):=by
   funext k
   by_cases h:k = a
   ·subst h
    rw [if_pos (by simp),if_pos rfl,if_neg hna]; omega
   ·by_cases h2:k ∈ t
    ·rw [if_pos (by simp [h2]),if_neg h,if_pos h2]; omega
    ·rw [if_neg (by simp [h,h2]),if_neg h,if_neg h2]; rfl
  rw [h2,add_sum,one_sum n a f ha,List.map_cons,List.sum_cons,h1]
def totS (r:Route):Int:=((List.range r.n).map fun k => (r.s k).ca).sum
theorem cash_le {r:Route} (hr:RouteOk r) {p:List Nat × Van} (hp:p ∈ goods r):cashS r p.1 ≤ totS r:=by
 obtain ⟨h1,h2,_⟩:=goods_ok hr p hp
 unfold cashS totS
 rw [tour_sum r.n (fun k => (r.s k).ca) p.1 h1 h2]
 refine le_sum _ _ _ fun k hk => ?_
 have:=hr.stop k hk
 split <;> omega
theorem cash_all {r:Route} (hr:RouteOk r) {p:List Nat × Van} (hp:p ∈ goods r) (hl:p.1.length = r.n):cashS r p.1 = totS r:=by
 obtain ⟨h1,h2,_⟩:=goods_ok hr p hp
 unfold cashS totS
 rw [tour_sum r.n (fun k => (r.s k).ca) p.1 h1 h2]
 have hall:∀ k,k < r.n → k ∈ p.1:=fun k hk => by
  by_cases h:k ∈ p.1
  ·exact h
  ·have:=tour_len (n:=r.n) (t:=k :: p.1) (List.nodup_cons.2 ⟨h,h1⟩) (fun j hj => by
    rcases List.mem_cons.1 hj with rfl | hj
    ·exact hk
    ·exact h2 j hj)
   simp only [List.length_cons] at this; omega
 refine Int.le_antisymm (le_sum _ _ _ fun k hk => ?_) (le_sum _ _ _ fun k hk => ?_)
 ·rw [if_pos (hall k hk)]; exact Int.le_refl _
 ·rw [if_pos (hall k hk)]; exact Int.le_refl _
theorem tot_nn {r:Route} (hr:RouteOk r):0 ≤ totS r:=by
 have h:=le_sum r.n (fun _ => 0) (fun k => (r.s k).ca) fun k hk => (hr.stop k hk).2.2.2.2.2.1
 have h3:((List.range r.n).map fun _ => (0:Int)).sum = 0:=by
  have key:∀ l:List Nat,(l.map fun _ => (0:Int)).sum = 0:=by
   intro l; induction l with
   | nil => rfl
   | cons a l ih => simp only [List.map_cons,List.sum_cons,ih]; rfl
  exact key _
 unfold totS; omega
theorem most_law {r:Route} (hr:RouteOk r):0 ≤ mostB r (goods r) ∧ mostB r (goods r) ≤ totS r ∧ (wholes r ≠ [] → mostB r (goods r) = totS r) ∧ ((shutL (lasts (goods r)) r.n).length = r.n → mostB r (goods r) = 0):=by
 obtain ⟨h1,h2,h3⟩:=mostB_spec r (goods r)
 have hle:=h3 (totS r) (tot_nn hr) fun p hp => cash_le hr hp
 refine ⟨h1,hle,fun hw => ?_,fun hs => ?_⟩
 ·obtain ⟨p,hp⟩:=List.exists_mem_of_ne_nil _ hw
  simp only [wholes,List.mem_filter,isW,Bool.not_eq_true',decide_eq_false_iff_not] at hp
  have hl:=goods_len hr hp.1
  have:=cash_all hr hp.1 (by omega)
  have:=h2 p hp.1
  omega
 ·have hno:∀ k,k < r.n → ¬ (k:Int) ∈ lasts (goods r):=fun k hk hm => by
   unfold shutL at hs
   have h5:=List.length_filter_lt_length_iff_exists (p:=fun n => !decide (n ∈ lasts (goods r))) (l:=(List.range r.n).map fun (n:Nat) => (n:Int))
   have h6:=h5.2 ⟨(k:Int),List.mem_map.2 ⟨k,List.mem_range.2 hk,rfl⟩,by simp [hm]⟩
   simp only [List.length_map,List.length_range] at h6
   omega
  have h4:=h3 0 (Int.le_refl _) fun p hp => by
   have hp0:p.1 = []:=by
    cases hp1:p.1 with
    | nil => rfl
    | cons a t =>
     have ha:a ∈ p.1:=by rw [hp1]; simp
     exact absurd (goods_last hp ha) (hno a ((goods_ok hr p hp).2.1 a ha))
   rw [hp0]; exact Int.le_refl _
  omega
theorem most_less {r s:Route} (hr:RouteOk r) (hs:RouteOk s) (h:SameWay r s) {x:Nat} (hx:(s.s x).ca = 0) (hoth:∀ k,k ≠ x → (s.s k).ca = (r.s k).ca) (hx0:0 ≤ (r.s x).ca) :
  mostB s (goods s) ≤ mostB r (goods r) ∧ mostB r (goods r) - (r.s x).ca ≤ mostB s (goods s) ∧ (¬ (x:Int) ∈ lasts (goods r) → mostB s (goods s) = mostB r (goods r)):=by
 rw [h.wgoods]
 obtain ⟨h1,h2,h3⟩:=mostB_spec r (goods r)
 obtain ⟨k1,k2,k3⟩:=mostB_spec s (goods r)
 have hc:∀ p ∈ goods r,cashS s p.1 ≤ cashS r p.1 ∧ cashS r p.1 - (r.s x).ca ≤ cashS s p.1 ∧ (x ∉ p.1 → cashS s p.1 = cashS r p.1):=fun p hp => by
  have hnd:=(goods_ok hr p hp).1
  generalize p.1 = t at hnd
  have key:∀ t:List Nat,t.Nodup → cashS s t ≤ cashS r t ∧ (x ∈ t → cashS r t - (r.s x).ca = cashS s t) ∧ (x ∉ t → cashS s t = cashS r t):=by
   intro t
   induction t with
   | nil => intro _; exact ⟨Int.le_refl _,by simp,fun _ => rfl⟩
   | cons a t ih =>
    intro hn
    obtain ⟨i1,i2,i3⟩:=ih (List.nodup_cons.1 hn).2
    have hna:=(List.nodup_cons.1 hn).1
    simp only [cashS,List.map_cons,List.sum_cons] at i1 i2 i3 ⊢
    by_cases ha:a = x
    ·subst ha
     have:=i3 hna
     rw [hx]
     refine ⟨by omega,fun _ => by omega,fun hnm => absurd (by simp) hnm⟩
    ·rw [hoth a ha]
     refine ⟨by omega,fun hm => ?_,fun hm => ?_⟩
     ·rcases List.mem_cons.1 hm with e | hm
      ·exact absurd e.symm ha
      ·have:=i2 hm; omega
     ·have:=i3 (fun hm2 => hm (by simp [hm2])); omega
  obtain ⟨a1,a2,a3⟩:=key t hnd
  refine ⟨a1,?_,a3⟩
  by_cases hm:x ∈ t
  ·have:=a2 hm; omega
  ·have:=a3 hm; omega
 have l1:=k3 (mostB r (goods r)) h1 fun p hp => Int.le_trans (hc p hp).1 (h2 p hp)
 refine ⟨l1,?_,fun hnl => ?_⟩
 ·have:=h3 (mostB s (goods r) + (r.s x).ca) (by omega) fun p hp => by
   have h5:=(hc p hp).2.1
   have h6:=k2 p hp
   omega
  omega
 ·have:=h3 (mostB s (goods r)) k1 fun p hp => by
   have hnx:x ∉ p.1:=fun hm => hnl (goods_last hp hm)
   rw [← (hc p hp).2.2 hnx]
   exact k2 p hp
  omega
end Go.Proofs.Ytakplakbbidihaa

namespace Go.Proofs.Ytakplakbbidihaa
open Go Go.V
abbrev o5_0:List Ins:=[⟨some 0,.mv (.k (.c (.bool false))),none,true⟩]
abbrev o5_1:List Ins:=[⟨some 4,.call (.k (.fn 17 [])) [],none,true⟩,
 ⟨some 5,.call (.k (.fn 13 [])) [(.t 4)],none,true⟩,
 ⟨some 3,.mv (.t 5),none,true⟩,
 ⟨some 6,.ext (.t 3) 0,none,true⟩,
 ⟨some 7,.ext (.t 3) 1,none,true⟩,
 ⟨some 1,.mv (.t 6),none,true⟩,
 ⟨some 2,.mv (.t 7),none,true⟩]
abbrev o5_2:List Ins:=[⟨some 8,.mv (.t 2),none,true⟩,
 ⟨some 9,.bin .eql (.t 8) (.k (.c (.int .i64 0))),none,true⟩,
 ⟨some 10,.mv (.t 9),none,true⟩,
 ⟨some 11,.mv (.t 1),(some (10,true)),true⟩,
 ⟨some 12,.bin .eql (.t 11) (.k (.c (.int .i64 1600))),(some (10,true)),true⟩,
 ⟨some 13,.pick (.t 10) (.t 12) (.k (.c (.bool false))),none,true⟩,
 ⟨some 0,.mv (.t 13),none,true⟩]
abbrev v5_3:VC:=(.seq (.ops o5_2) .ret)
abbrev v5_4:VC:=(.seq (.ops o5_1) v5_3)
def ir5:FC:=⟨0,14,[.t 0],(.seq (.ops o5_0) v5_4)⟩
theorem c5:compM Try.prog [] 5 = some ir5:=by kernel_rfl
attribute [local go_sem] Nat.reduceEqDiff Nat.reduceAdd Nat.reduceMul reduceIte Nat.reduceLeDiff Nat.reduceLT Nat.reduceBEq reduceCtorEq
theorem ex_most:mostS exR = (1600,0):=by kernel_rfl
theorem collected5:FSpec Try.prog 5 [] (.c (.bool true)):=by
 have hm:=most41 exR
 rw [ex_most] at hm
 refine FSpec_of c5 (Nat.le_refl _) (by decide) fun C hP hN hC hL => ?_; rw [init_st]
 simp only [ir5]
 (repeat ((first | refine Va ?_ | refine Vb ?_ | refine Vc ?_ | refine Vd ?_ | refine Ve ?_ | refine Vf ?_); (try simp only [go_sem,hP]); (repeat refine qJ ?_)))
 (refine AS_pu (example49) ?_; simp only [go_sem,hP]; (repeat refine qJ ?_); (repeat ((first | refine Va ?_ | refine Vb ?_ | refine Vc ?_ | refine Vd ?_ | refine Ve ?_ | refine Vf ?_); (try simp only [go_sem,hP]); (repeat refine qJ ?_))))
 (refine AS_pu (hm) ?_; simp only [go_sem,hP,Route.av]; (repeat refine qJ ?_); (repeat ((first | refine Va ?_ | refine Vb ?_ | refine Vc ?_ | refine Vd ?_ | refine Ve ?_ | refine Vf ?_); (try simp only [go_sem,hP,Route.av]); (repeat refine qJ ?_))))
 (refine WV_ret ?_; simp only [thenQ,inQ,RetQ,RetOk,resAll,resA]; simp only [go_sem,tupA,AV.port,AV.portL,exists_eq_left']; (first | exact AVle.of rfl | refine AVle.of ?_ | skip))
def cshK (bs:List Bx) (k:Nat):Int:=((bs[k]?).map fun b => (cashP b).1).getD 0
theorem cshK_at {bs:List Bx} {k:Nat} (h:k < bs.length):cshK bs k = (cashP bs[k]).1:=by simp [cshK,h]
def stK (l:List Stop) (bs:List Bx):Nat → List Stop
 | 0 => l
 | k + 1 => (stK l bs k).set k { (stK l bs k).getD k default with ca:=cshK bs k }
theorem stK_len (l:List Stop) (bs:List Bx):∀ k,(stK l bs k).length = l.length
 | 0 => rfl
 | k + 1 => by simp only [stK,List.length_set,stK_len l bs k]
theorem stK_at (l:List Stop) (bs:List Bx):∀ (k i:Nat),i < l.length → (stK l bs k).getD i default = if i < k then { l.getD i default with ca:=cshK bs i } else l.getD i default
 | 0,i,hi => by simp [stK]
 | k + 1,i,hi => by
  have ih:=stK_at l bs k
  have hl:=stK_len l bs k
  simp only [stK,List.getD_eq_getElem?_getD,List.getElem?_set] at ih ⊢
  by_cases hik:k = i
  ·subst hik
   have h1:=ih k hi
   rw [if_neg (by omega)] at h1
   rw [if_pos rfl,if_pos (by omega),if_pos (by omega),Option.getD_some,h1]
  ·rw [if_neg hik,ih i hi]
   by_cases h:i < k
   ·rw [if_pos h,if_pos (by omega)]
   ·rw [if_neg h,if_neg (by omega)]
def rWith (r:Route) (l:List Stop):Route:={ r with stops:=l }
theorem same_with {r:Route} {l:List Stop} (hl:l.length = r.stops.length) (h:∀ i,i < r.stops.length → (l.getD i default).op = (r.stops.getD i default).op ∧ (l.getD i default).cl = (r.stops.getD i default).cl ∧ (l.getD i default).st = (r.stops.getD i default).st):SameWay r (rWith r l):=by
 refine ⟨hl,rfl,rfl,fun k => ?_⟩
 by_cases hk:k < r.stops.length
 ·exact h k hk
 ·have e1:(rWith r l).s k = default:=by show l.getD k default = default; rw [List.getD_eq_getElem?_getD,List.getElem?_eq_none (by omega)]; rfl
  have e2:r.s k = default:=by show r.stops.getD k default = default; rw [List.getD_eq_getElem?_getD,List.getElem?_eq_none (by omega)]; rfl
  rw [e1,e2]; exact ⟨rfl,rfl,rfl⟩
theorem sum_cash (bs:List Bx):∀ k,k ≤ bs.length → (sumS (bs.take k)).1 = ((List.range k).map (cshK bs)).sum
 | 0,_ => by simp [sumS]
 | k + 1,h => by
  have ih:=sum_cash bs k (by omega)
  rw [List.take_succ_eq_append_getElem (by omega),sumS_snoc,List.range_succ,List.map_append,List.sum_append,← ih,← cshK_at]
  simp
def noCa (l:List Stop) (x:Nat):List Stop:=l.set x { l.getD x default with ca:=0 }
theorem noCa_at (l:List Stop) (x i:Nat) (hi:i < l.length):(noCa l x).getD i default = if i = x then { l.getD i default with ca:=0 } else l.getD i default:=by
 unfold noCa
 simp only [List.getD_eq_getElem?_getD,List.getElem?_set]
 by_cases h:x = i
 ·subst h; rw [if_pos rfl,if_pos (by omega),if_pos rfl]; rfl
 ·rw [if_neg h,if_neg (fun e => h e.symm)]
theorem ok_noCa {r:Route} (h:r.ok = true) (x:Nat):(rWith r (noCa r.stops x)).ok = true:=by
 simp only [Route.ok,Bool.and_eq_true,decide_eq_true_eq,beq_iff_eq] at h ⊢
 obtain ⟨⟨⟨⟨h1,h2⟩,h3⟩,h4⟩,h5⟩:=h
 have hl:(noCa r.stops x).length = r.stops.length:=by simp [noCa]
 refine ⟨⟨⟨⟨by show (noCa r.stops x).length ≤ 7; omega,by show r.drive.length = (noCa r.stops x).length + 1; omega⟩,h3⟩,?_⟩,h5⟩
 show (noCa r.stops x).all okStop = true
 rw [List.all_eq_true] at h4 ⊢
 intro s hs
 obtain ⟨i,hi,rfl⟩:=List.mem_iff_getElem.1 hs
 have hi2:i < r.stops.length:=by omega
 have e:=noCa_at r.stops x i hi2
 rw [List.getD_eq_getElem?_getD,List.getElem?_eq_getElem hi,Option.getD_some] at e
 have hm:=h4 _ (List.getElem_mem hi2)
 have e2:r.stops.getD i default = r.stops[i]:=by rw [List.getD_eq_getElem?_getD,List.getElem?_eq_getElem hi2]; rfl
 rw [e,e2]
 split
 ·simp only [okStop,Bool.and_eq_true,decide_eq_true_eq,within] at hm ⊢
  omega
 ·exact hm
end Go.Proofs.Ytakplakbbidihaa

namespace Go.Proofs.Ytakplakbbidihaa
open Go Go.V
abbrev o3_0:List Ins:=[⟨some 3,.box 3 (.t 0),none,true⟩,
 ⟨some 6,.mv (.k (.c (.bool false))),none,true⟩]
abbrev o3_1:List Ins:=[⟨some 25,.ld false 3 (.t 3),none,true⟩,
 ⟨some 26,.call (.k (.fn 4 [])) [(.t 25)],none,true⟩,
 ⟨some 27,.mv (.t 26),none,true⟩,
 ⟨some 28,.mv (.t 1),(some (27,false)),true⟩,
 ⟨some 29,.len (.t 28),(some (27,false)),true⟩,
 ⟨some 30,.fa 0 (.t 3),(some (27,false)),true⟩,
 ⟨some 31,.ld true 1 (.t 30),(some (27,false)),true⟩,
 ⟨some 32,.len (.t 31),(some (27,false)),true⟩,
 ⟨some 33,.bin .neq (.t 29) (.t 32),(some (27,false)),true⟩,
 ⟨some 34,.pick (.t 27) (.k (.c (.bool true))) (.t 33),none,true⟩,
 ⟨some 35,.mv (.t 34),none,true⟩,
 ⟨some 36,.mv (.t 1),(some (35,false)),true⟩,
 ⟨some 37,.len (.t 36),(some (35,false)),true⟩,
 ⟨some 38,.bin .gtr (.t 37) (.k (.c (.int .i64 5))),(some (35,false)),true⟩,
 ⟨some 39,.pick (.t 35) (.k (.c (.bool true))) (.t 38),none,true⟩]
abbrev o3_2:List Ins:=[⟨some 40,.call (.k (.fn 5 [])) [],none,true⟩,
 ⟨some 6,.mv (.t 40),none,true⟩]
abbrev v3_3:VC:=(.seq (.ops o3_2) .ret)
abbrev v3_4:VC:=(.cond (.t 39) v3_3 .skip)
abbrev o3_5:List Ins:=[⟨some 41,.ld false 3 (.t 3),none,true⟩,
 ⟨some 42,.call (.k (.fn 6 [])) [(.t 41)],none,true⟩,
 ⟨some 7,.alloc [(.c (.raw (.slice none 0 0))),(.c (.raw (.slice none 0 0))),(.c (.int .i64 0))],none,true⟩,
 ⟨none,.st 3 (.t 7) (.t 42),none,true⟩]
abbrev o3_6:List Ins:=[⟨some 8,.mv (.k (.c (.int .i64 0))),none,true⟩]
abbrev o3_7:List Ins:=[⟨some 43,.mv (.t 8),none,true⟩,
 ⟨some 44,.mv (.t 1),none,true⟩,
 ⟨some 45,.len (.t 44),none,true⟩,
 ⟨some 46,.bin .lss (.t 43) (.t 45),none,true⟩]
abbrev v3_8:VC:=(.cond (.t 46) .skip (.exit 0))
abbrev o3_9:List Ins:=[⟨some 49,.mv (.t 1),none,true⟩,
 ⟨some 50,.mv (.t 8),none,true⟩,
 ⟨some 51,.ia 8 (.t 49) (.t 50),none,true⟩,
 ⟨some 52,.ld false 8 (.t 51),none,true⟩,
 ⟨some 53,.call (.k (.fn 7 [])) [(.t 52)],none,true⟩,
 ⟨some 54,.mv (.t 53),none,true⟩,
 ⟨some 55,.mv (.t 1),(some (54,false)),true⟩,
 ⟨some 56,.mv (.t 8),(some (54,false)),true⟩,
 ⟨some 57,.ia 8 (.t 55) (.t 56),(some (54,false)),true⟩,
 ⟨some 58,.ld false 8 (.t 57),(some (54,false)),true⟩,
 ⟨some 59,.call (.k (.fn 8 [])) [(.t 58)],(some (54,false)),true⟩,
 ⟨some 60,.bin .neq (.t 59) (.k (.c (.int .i64 0))),(some (54,false)),true⟩,
 ⟨some 61,.pick (.t 54) (.k (.c (.bool true))) (.t 60),none,true⟩]
abbrev o3_10:List Ins:=[⟨some 62,.call (.k (.fn 5 [])) [],none,true⟩,
 ⟨some 6,.mv (.t 62),none,true⟩]
abbrev v3_11:VC:=(.seq (.ops o3_10) .ret)
abbrev v3_12:VC:=(.cond (.t 61) v3_11 .skip)
abbrev o3_13:List Ins:=[⟨some 64,.mv (.t 1),none,true⟩,
 ⟨some 65,.mv (.t 8),none,true⟩,
 ⟨some 66,.ia 8 (.t 64) (.t 65),none,true⟩,
 ⟨some 67,.ld false 8 (.t 66),none,true⟩,
 ⟨some 68,.call (.k (.fn 10 [])) [(.t 67)],none,true⟩,
 ⟨some 69,.call (.k (.fn 9 [])) [(.t 68)],none,true⟩,
 ⟨some 63,.mv (.t 69),none,true⟩,
 ⟨some 70,.ext (.t 63) 0,none,true⟩,
 ⟨some 71,.ext (.t 63) 1,none,true⟩,
 ⟨some 72,.ext (.t 63) 2,none,true⟩,
 ⟨some 73,.ext (.t 63) 3,none,true⟩,
 ⟨some 9,.mv (.t 70),none,true⟩,
 ⟨some 10,.mv (.t 71),none,true⟩,
 ⟨some 11,.mv (.t 72),none,true⟩,
 ⟨some 12,.mv (.t 73),none,true⟩]
abbrev o3_14:List Ins:=[⟨some 74,.mv (.t 12),none,true⟩,
 ⟨some 75,.bin .neq (.t 74) (.k (.c (.int .i64 0))),none,true⟩,
 ⟨some 76,.mv (.t 75),none,true⟩,
 ⟨some 77,.mv (.t 9),(some (76,false)),true⟩,
 ⟨some 78,.bin .lss (.t 77) (.k (.c (.int .i64 0))),(some (76,false)),true⟩,
 ⟨some 79,.pick (.t 76) (.k (.c (.bool true))) (.t 78),none,true⟩,
 ⟨some 80,.mv (.t 79),none,true⟩,
 ⟨some 81,.mv (.t 9),(some (80,false)),true⟩,
 ⟨some 82,.bin .gtr (.t 81) (.k (.c (.int .i64 99999))),(some (80,false)),true⟩,
 ⟨some 83,.pick (.t 80) (.k (.c (.bool true))) (.t 82),none,true⟩]
abbrev o3_15:List Ins:=[⟨some 6,.mv (.k (.c (.bool false))),none,true⟩]
abbrev v3_16:VC:=(.seq (.ops o3_15) .ret)
abbrev v3_17:VC:=(.cond (.t 83) v3_16 .skip)
abbrev o3_18:List Ins:=[⟨some 84,.fa 0 (.t 7),none,true⟩,
 ⟨some 85,.ld true 1 (.t 84),none,true⟩,
 ⟨some 86,.mv (.t 8),none,true⟩,
 ⟨some 87,.mv (.t 9),none,true⟩,
 ⟨some 88,.ia 4 (.t 85) (.t 86),none,true⟩,
 ⟨some 89,.fa 3 (.t 88),none,true⟩,
 ⟨none,.st 1 (.t 89) (.t 87),none,true⟩]
abbrev v3_19:VC:=(.seq (.seq (.ops o3_14) v3_17) (.ops o3_18))
abbrev v3_20:VC:=(.seq (.ops o3_13) v3_19)
abbrev v3_21:VC:=(.seq (.seq (.ops o3_9) v3_12) v3_20)
abbrev o3_22:List Ins:=[⟨some 47,.mv (.t 8),none,true⟩,
 ⟨some 48,.bin .add (.t 47) (.k (.c (.int .i64 1))),none,true⟩,
 ⟨some 8,.mv (.t 48),none,true⟩]
abbrev v3_23:VC:=(.seq (.block 1 v3_21) (.ops o3_22))
abbrev v3_24:VC:=(.seq (.seq (.ops o3_7) v3_8) v3_23)
-- K3_1: changed and kept: [8]
abbrev K3_1:List Nat:=[1,2,7]
abbrev v3_25:VC:=(.loop v3_24)
abbrev v3_26:VC:=(.block 0 v3_25)
abbrev o3_27:List Ins:=[⟨some 90,.ld false 3 (.t 7),none,true⟩,
 ⟨some 91,.call (.k (.fn 11 [])) [(.t 90)],none,true⟩,
 ⟨some 92,.bin .neq (.t 91) (.k (.c (.int .i64 0))),none,true⟩]
abbrev o3_28:List Ins:=[⟨some 93,.call (.k (.fn 5 [])) [],none,true⟩,
 ⟨some 6,.mv (.t 93),none,true⟩]
abbrev v3_29:VC:=(.seq (.ops o3_28) .ret)
abbrev v3_30:VC:=(.cond (.t 92) v3_29 .skip)
abbrev o3_31:List Ins:=[⟨some 95,.mv (.t 1),none,true⟩,
 ⟨some 96,.call (.k (.fn 12 [])) [(.t 95)],none,true⟩,
 ⟨some 94,.mv (.t 96),none,true⟩,
 ⟨some 97,.ext (.t 94) 0,none,true⟩,
 ⟨some 98,.ext (.t 94) 1,none,true⟩,
 ⟨some 99,.ext (.t 94) 2,none,true⟩,
 ⟨some 100,.ext (.t 94) 3,none,true⟩,
 ⟨some 13,.mv (.t 97),none,true⟩,
 ⟨some 14,.mv (.t 98),none,true⟩,
 ⟨some 15,.mv (.t 99),none,true⟩,
 ⟨some 16,.mv (.t 100),none,true⟩]
abbrev o3_32:List Ins:=[⟨some 102,.ld false 3 (.t 7),none,true⟩,
 ⟨some 103,.call (.k (.fn 13 [])) [(.t 102)],none,true⟩,
 ⟨some 101,.mv (.t 103),none,true⟩,
 ⟨some 104,.ext (.t 101) 0,none,true⟩,
 ⟨some 105,.ext (.t 101) 1,none,true⟩,
 ⟨some 17,.mv (.t 104),none,true⟩,
 ⟨some 18,.mv (.t 105),none,true⟩]
abbrev o3_33:List Ins:=[⟨some 107,.ld false 3 (.t 7),none,true⟩,
 ⟨some 108,.call (.k (.fn 14 [])) [(.t 107)],none,true⟩,
 ⟨some 106,.mv (.t 108),none,true⟩,
 ⟨some 109,.ext (.t 106) 0,none,true⟩,
 ⟨some 110,.ext (.t 106) 1,none,true⟩,
 ⟨some 19,.mv (.t 109),none,true⟩,
 ⟨some 20,.mv (.t 110),none,true⟩]
abbrev o3_34:List Ins:=[⟨some 112,.ld false 3 (.t 7),none,true⟩,
 ⟨some 113,.call (.k (.fn 15 [])) [(.t 112)],none,true⟩,
 ⟨some 111,.mv (.t 113),none,true⟩,
 ⟨some 114,.ext (.t 111) 0,none,true⟩,
 ⟨some 115,.ext (.t 111) 1,none,true⟩,
 ⟨some 21,.mv (.t 114),none,true⟩,
 ⟨some 22,.mv (.t 115),none,true⟩]
abbrev o3_35:List Ins:=[⟨some 116,.mv (.t 16),none,true⟩,
 ⟨some 117,.bin .neq (.t 116) (.k (.c (.int .i64 0))),none,true⟩,
 ⟨some 118,.mv (.t 117),none,true⟩,
 ⟨some 119,.mv (.t 18),(some (118,false)),true⟩,
 ⟨some 120,.bin .neq (.t 119) (.k (.c (.int .i64 0))),(some (118,false)),true⟩,
 ⟨some 121,.pick (.t 118) (.k (.c (.bool true))) (.t 120),none,true⟩,
 ⟨some 122,.mv (.t 121),none,true⟩,
 ⟨some 123,.mv (.t 20),(some (122,false)),true⟩,
 ⟨some 124,.bin .neq (.t 123) (.k (.c (.int .i64 0))),(some (122,false)),true⟩,
 ⟨some 125,.mv (.t 124),(some (122,false)),true⟩,
 ⟨some 126,.mv (.t 20),(some (125,true)),true⟩,
 ⟨some 127,.bin .neq (.t 126) (.k (.c (.int .i64 3))),(some (125,true)),true⟩,
 ⟨some 128,.pick (.t 125) (.t 127) (.k (.c (.bool false))),(some (122,false)),true⟩,
 ⟨some 129,.pick (.t 122) (.k (.c (.bool true))) (.t 128),none,true⟩,
 ⟨some 130,.mv (.t 129),none,true⟩,
 ⟨some 131,.mv (.t 22),(some (130,false)),true⟩,
 ⟨some 132,.bin .neq (.t 131) (.k (.c (.int .i64 0))),(some (130,false)),true⟩,
 ⟨some 133,.pick (.t 130) (.k (.c (.bool true))) (.t 132),none,true⟩,
 ⟨some 134,.mv (.t 133),none,true⟩,
 ⟨some 135,.mv (.t 17),(some (134,false)),true⟩,
 ⟨some 136,.bin .lss (.t 135) (.k (.c (.int .i64 0))),(some (134,false)),true⟩,
 ⟨some 137,.pick (.t 134) (.k (.c (.bool true))) (.t 136),none,true⟩,
 ⟨some 138,.mv (.t 137),none,true⟩,
 ⟨some 139,.mv (.t 17),(some (138,false)),true⟩,
 ⟨some 140,.mv (.t 13),(some (138,false)),true⟩,
 ⟨some 141,.bin .gtr (.t 139) (.t 140),(some (138,false)),true⟩,
 ⟨some 142,.pick (.t 138) (.k (.c (.bool true))) (.t 141),none,true⟩,
 ⟨some 143,.mv (.t 142),none,true⟩,
 ⟨some 144,.mv (.t 20),(some (143,false)),true⟩,
 ⟨some 145,.bin .eql (.t 144) (.k (.c (.int .i64 0))),(some (143,false)),true⟩,
 ⟨some 146,.mv (.t 145),(some (143,false)),true⟩,
 ⟨some 147,.mv (.t 17),(some (146,true)),true⟩,
 ⟨some 148,.mv (.t 13),(some (146,true)),true⟩,
 ⟨some 149,.bin .neq (.t 147) (.t 148),(some (146,true)),true⟩,
 ⟨some 150,.pick (.t 146) (.t 149) (.k (.c (.bool false))),(some (143,false)),true⟩,
 ⟨some 151,.pick (.t 143) (.k (.c (.bool true))) (.t 150),none,true⟩,
 ⟨some 152,.mv (.t 151),none,true⟩,
 ⟨some 153,.mv (.t 21),(some (152,false)),true⟩,
 ⟨some 154,.len (.t 153),(some (152,false)),true⟩,
 ⟨some 155,.mv (.t 1),(some (152,false)),true⟩,
 ⟨some 156,.len (.t 155),(some (152,false)),true⟩,
 ⟨some 157,.bin .gtr (.t 154) (.t 156),(some (152,false)),true⟩,
 ⟨some 158,.pick (.t 152) (.k (.c (.bool true))) (.t 157),none,true⟩,
 ⟨some 159,.mv (.t 158),none,true⟩,
 ⟨some 160,.mv (.t 21),(some (159,false)),true⟩,
 ⟨some 161,.len (.t 160),(some (159,false)),true⟩,
 ⟨some 162,.mv (.t 1),(some (159,false)),true⟩,
 ⟨some 163,.len (.t 162),(some (159,false)),true⟩,
 ⟨some 164,.bin .eql (.t 161) (.t 163),(some (159,false)),true⟩,
 ⟨some 165,.mv (.t 164),(some (159,false)),true⟩,
 ⟨some 166,.mv (.t 17),(some (165,true)),true⟩,
 ⟨some 167,.bin .neq (.t 166) (.k (.c (.int .i64 0))),(some (165,true)),true⟩,
 ⟨some 168,.pick (.t 165) (.t 167) (.k (.c (.bool false))),(some (159,false)),true⟩,
 ⟨some 169,.pick (.t 159) (.k (.c (.bool true))) (.t 168),none,true⟩]
abbrev o3_36:List Ins:=[⟨some 6,.mv (.k (.c (.bool false))),none,true⟩]
abbrev v3_37:VC:=(.seq (.ops o3_36) .ret)
abbrev v3_38:VC:=(.cond (.t 169) v3_37 .skip)
abbrev o3_39:List Ins:=[⟨some 170,.mv (.t 2),none,true⟩,
 ⟨some 171,.bin .lss (.t 170) (.k (.c (.int .i64 0))),none,true⟩,
 ⟨some 172,.mv (.t 171),none,true⟩,
 ⟨some 173,.mv (.t 2),(some (172,false)),true⟩,
 ⟨some 174,.mv (.t 1),(some (172,false)),true⟩,
 ⟨some 175,.len (.t 174),(some (172,false)),true⟩,
 ⟨some 176,.bin .geq (.t 173) (.t 175),(some (172,false)),true⟩,
 ⟨some 177,.pick (.t 172) (.k (.c (.bool true))) (.t 176),none,true⟩]
abbrev o3_40:List Ins:=[⟨some 178,.call (.k (.fn 5 [])) [],none,true⟩,
 ⟨some 6,.mv (.t 178),none,true⟩]
abbrev v3_41:VC:=(.seq (.ops o3_40) .ret)
abbrev v3_42:VC:=(.cond (.t 177) v3_41 .skip)
abbrev o3_43:List Ins:=[⟨some 179,.fa 0 (.t 7),none,true⟩,
 ⟨some 180,.ld true 1 (.t 179),none,true⟩,
 ⟨some 181,.mv (.t 2),none,true⟩,
 ⟨some 182,.ia 4 (.t 180) (.t 181),none,true⟩,
 ⟨some 183,.fa 3 (.t 182),none,true⟩,
 ⟨some 184,.ld true 1 (.t 183),none,true⟩,
 ⟨some 23,.mv (.t 184),none,true⟩]
abbrev o3_44:List Ins:=[⟨some 185,.fa 0 (.t 7),none,true⟩,
 ⟨some 186,.ld true 1 (.t 185),none,true⟩,
 ⟨some 187,.mv (.t 2),none,true⟩,
 ⟨some 188,.ia 4 (.t 186) (.t 187),none,true⟩,
 ⟨some 189,.fa 3 (.t 188),none,true⟩,
 ⟨none,.st 1 (.t 189) (.k (.c (.int .i64 0))),none,true⟩]
abbrev o3_45:List Ins:=[⟨some 191,.ld false 3 (.t 7),none,true⟩,
 ⟨some 192,.call (.k (.fn 13 [])) [(.t 191)],none,true⟩,
 ⟨some 190,.mv (.t 192),none,true⟩,
 ⟨some 193,.ext (.t 190) 0,none,true⟩,
 ⟨some 194,.ext (.t 190) 1,none,true⟩,
 ⟨some 24,.mv (.t 193),none,true⟩,
 ⟨some 16,.mv (.t 194),none,true⟩]
abbrev o3_46:List Ins:=[⟨some 195,.mv (.t 16),none,true⟩,
 ⟨some 196,.bin .eql (.t 195) (.k (.c (.int .i64 0))),none,true⟩,
 ⟨some 197,.mv (.t 196),none,true⟩,
 ⟨some 198,.mv (.t 24),(some (197,true)),true⟩,
 ⟨some 199,.mv (.t 17),(some (197,true)),true⟩,
 ⟨some 200,.bin .leq (.t 198) (.t 199),(some (197,true)),true⟩,
 ⟨some 201,.pick (.t 197) (.t 200) (.k (.c (.bool false))),none,true⟩,
 ⟨some 202,.mv (.t 201),none,true⟩,
 ⟨some 203,.mv (.t 24),(some (202,true)),true⟩,
 ⟨some 204,.mv (.t 17),(some (202,true)),true⟩,
 ⟨some 205,.mv (.t 23),(some (202,true)),true⟩,
 ⟨some 206,.bin .sub (.t 204) (.t 205),(some (202,true)),true⟩,
 ⟨some 207,.bin .geq (.t 203) (.t 206),(some (202,true)),true⟩,
 ⟨some 208,.pick (.t 202) (.t 207) (.k (.c (.bool false))),none,true⟩,
 ⟨some 209,.mv (.t 208),none,true⟩,
 ⟨some 210,.mv (.t 21),(some (209,true)),true⟩,
 ⟨some 211,.mv (.t 2),(some (209,true)),true⟩,
 ⟨some 212,.call (.k (.fn 16 [])) [(.t 210),(.t 211)],(some (209,true)),true⟩,
 ⟨some 213,.un .not (.t 212),(some (209,true)),true⟩,
 ⟨some 214,.mv (.t 213),(some (209,true)),true⟩,
 ⟨some 215,.mv (.t 24),(some (214,false)),true⟩,
 ⟨some 216,.mv (.t 17),(some (214,false)),true⟩,
 ⟨some 217,.bin .eql (.t 215) (.t 216),(some (214,false)),true⟩,
 ⟨some 218,.pick (.t 214) (.k (.c (.bool true))) (.t 217),(some (209,true)),true⟩,
 ⟨some 219,.pick (.t 209) (.t 218) (.k (.c (.bool false))),none,true⟩,
 ⟨some 220,.mv (.t 219),none,true⟩,
 ⟨some 221,.call (.k (.fn 5 [])) [],(some (220,true)),true⟩,
 ⟨some 222,.pick (.t 220) (.t 221) (.k (.c (.bool false))),none,true⟩,
 ⟨some 6,.mv (.t 222),none,true⟩]
abbrev v3_47:VC:=(.seq (.ops o3_46) .ret)
abbrev v3_48:VC:=(.seq (.ops o3_45) v3_47)
abbrev v3_49:VC:=(.seq (.ops o3_44) v3_48)
abbrev v3_50:VC:=(.seq (.ops o3_43) v3_49)
abbrev v3_51:VC:=(.seq (.seq (.ops o3_39) v3_42) v3_50)
abbrev v3_52:VC:=(.seq (.seq (.ops o3_35) v3_38) v3_51)
abbrev v3_53:VC:=(.seq (.ops o3_34) v3_52)
abbrev v3_54:VC:=(.seq (.ops o3_33) v3_53)
abbrev v3_55:VC:=(.seq (.ops o3_32) v3_54)
abbrev v3_56:VC:=(.seq (.ops o3_31) v3_55)
abbrev v3_57:VC:=(.seq (.seq (.ops o3_27) v3_30) v3_56)
abbrev v3_58:VC:=(.seq (.seq (.ops o3_6) v3_26) v3_57)
abbrev v3_59:VC:=(.seq (.ops o3_5) v3_58)
abbrev v3_60:VC:=(.seq (.seq (.ops o3_1) v3_4) v3_59)
def ir3:FC:=⟨3,223,[.t 6],(.seq (.ops o3_0) v3_60)⟩
theorem c3:compM Try.prog [] 3 = some ir3:=by kernel_rfl
attribute [local go_sem] Nat.reduceEqDiff Nat.reduceAdd Nat.reduceMul reduceIte Nat.reduceLeDiff Nat.reduceLT Nat.reduceBEq reduceCtorEq
theorem cash_nn {b:Bx} (h:refOk b = true):(cashP b).2.2.2 = 0 ∧ 0 ≤ (cashP b).1 ∧ (cashP b).1 ≤ 5600:=by
 have hbx:=ref_bx h
 have hb:=bxB_ok hbx
 have e1:cashP b = (worth b.wh b.fo - worth b.wh b.ma,worth b.wh b.ma,worth b.wh b.sl,0):=by unfold cashP; rw [if_pos hbx]
 have hc:=cash_ok b
 refine ⟨by rw [e1],?_,hc.2⟩
 rw [e1]
 have hl:b.fo.length = b.ma.length:=hb.fl.trans hb.ml.symm
 have key:∀ k,k ≤ b.fo.length → worthK b.wh b.ma k ≤ worthK b.wh b.fo k:=by
  intro k
  induction k with
  | zero => intro _; exact Int.le_refl _
  | succ k ih =>
   intro hk
   have h1:=ih (by omega)
   have hm:b.ma.getD k 0 ≤ b.fo.getD k 0:=by
    have h2:=hb.mm
    cases h3:mkK b.fo b.ma (k + 1) with
    | false => rw [mkK_false h3 hk] at h2; cases h2
    | true => simp only [mkK,Bool.and_eq_true,decide_eq_true_eq] at h3; exact h3.2
   have hco:=getD_in hb.wh.co (k:=k) (by have:=hb.fl; omega)
   have h4:=Int.mul_le_mul_of_nonneg_right hm (show 0 ≤ b.wh.co.getD k 0 by omega)
   simp only [worthK]; omega
 have:=key b.fo.length (Nat.le_refl _)
 show 0 ≤ worth b.wh b.fo - worth b.wh b.ma
 unfold worth
 rw [← hl]; omega
theorem cells_set (j:Nat) (c:Int):∀ (l:List Stop) (k:Nat),k < l.length → (cellsG Stop.cds l j).set (k * 4 + 3) (.c (.int .i64 c)) = cellsG Stop.cds (l.set k { l.getD k default with ca:=c }) j
 | s :: l,0,_ => rfl
 | s :: l,k + 1,h => by
  have ih:=cells_set j c l k (by simpa using h)
  rw [show (k + 1) * 4 + 3 = (k * 4 + 3) + 4 by omega]
  have e:cellsG Stop.cds (s :: l) j = .c (.int .i64 s.op) :: .c (.int .i64 s.cl) :: .c (.int .i64 s.st) :: .c (.int .i64 s.ca) :: cellsG Stop.cds l j:=rfl
  rw [e]
  simp only [List.set_cons_succ,List.getD_cons_succ]
  rw [ih]
  rfl
theorem cells_ca (j:Nat):∀ (l:List Stop) (k:Nat),k < l.length → (cellsG Stop.cds l j).getD (k * 4 + 3) .non = .c (.int .i64 (l.getD k default).ca)
 | s :: l,0,_ => rfl
 | s :: l,k + 1,h => by
  have ih:=cells_ca j l k (by simpa using h)
  rw [show (k + 1) * 4 + 3 = (k * 4 + 3) + 4 by omega]
  have e:cellsG Stop.cds (s :: l) j = .c (.int .i64 s.op) :: .c (.int .i64 s.cl) :: .c (.int .i64 s.st) :: .c (.int .i64 s.ca) :: cellsG Stop.cds l j:=rfl
  rw [e]
  simp only [List.getD_cons_succ]
  exact ih
theorem cells_len4 (j:Nat) (l:List Stop):(cellsG Stop.cds l j).length = l.length * 4 + j:=cellsG_len (m:=4) (cds:=Stop.cds) (fun _ => rfl) l j
set_option maxHeartbeats 16000000 in
set_option maxRecDepth 20000 in
theorem round3 (r:Route) (bs:List Bx) (x:Int) (h0:r.stops ≠ []):FSpec Try.prog 3 [r.av,.c (bxC bs),iv x] (.c (.bool true)):=by
 refine FSpec_of c3 (Nat.le_refl _) (by decide) fun C hP hN hC hL => ?_; rw [init_st]
 obtain ⟨hl1,hl2,hl3⟩:=Route.lens hL
 simp only [ir3,Route.av,bxC]
 have hne:((bs.length:Int) != (r.stops.length:Int)) = !(bs.length == r.stops.length):=ibne _ _
 (repeat ((first | refine Va ?_ | refine Vb ?_ | refine Vc ?_ | refine Vd ?_ | refine Ve ?_ | refine Vf ?_); (try simp only [go_sem,hP,stopsC,List.length_map]); (repeat refine qJ ?_)))
 (refine AS_pu (far19 r) ?_; simp only [go_sem,hP,Route.av,stopsC,List.length_map,hne]; (repeat refine qJ ?_); (repeat ((first | refine Va ?_ | refine Vb ?_ | refine Vc ?_ | refine Vd ?_ | refine Ve ?_ | refine Vf ?_); (try simp only [go_sem,hP,Route.av,stopsC,List.length_map,hne]); (repeat refine qJ ?_))))
 (refine WV_cond rfl (fun h => ?_) (fun h => ?_))
 ·(repeat ((first | refine Va ?_ | refine Vb ?_ | refine Vc ?_ | refine Vd ?_ | refine Ve ?_ | refine Vf ?_); (try simp only [go_sem,hP]); (repeat refine qJ ?_)))
  (refine AS_pu (collected5) ?_; simp only [go_sem,hP]; (repeat refine qJ ?_); (repeat ((first | refine Va ?_ | refine Vb ?_ | refine Vc ?_ | refine Vd ?_ | refine Ve ?_ | refine Vf ?_); (try simp only [go_sem,hP]); (repeat refine qJ ?_))))
  (refine WV_ret ?_; simp only [thenQ,inQ,RetQ,RetOk,resAll,resA]; simp only [go_sem,tupA,AV.port,AV.portL,exists_eq_left']; (first | exact AVle.of rfl | refine AVle.of ?_ | skip))
 have hcs:farS r = false ∧ bs.length = r.stops.length ∧ bs.length ≤ 5:=by
  cases hf:farS r with
  | true => rw [hf] at h; simp at h
  | false =>
   rw [hf] at h
   simp at h
   refine ⟨rfl,?_,?_⟩ <;> omega
 obtain ⟨hfar,hlen,hl5⟩:=hcs
 have hnear:near r = true:=by
  cases hn:near r with
  | true => rfl
  | false => unfold farS at hfar; rw [hn] at hfar; cases hfar
 (repeat ((first | refine Va ?_ | refine Vb ?_ | refine Vc ?_ | refine Vd ?_ | refine Ve ?_ | refine Vf ?_); (try simp only [go_sem,hP]); (repeat refine qJ ?_)))
 refine AS_new (copyS6 r h0 hnear) rfl rfl rfl rfl ?_
 rintro _ _ ⟨cap,j,q1,q2,q3,rfl,rfl⟩
 refine ⟨[42],_,_,by simp,rfl,rfl,rfl,(by simp only [obsBack,Ob.back,back_cellsG]; rfl),?_⟩
 simp only [go_sem,hP,ownBack,prg_cellsG]
 refine WV_keep [1,2,7] ?_
 simp only [go_sem]
 have hcl0:∀ k,(stK r.stops bs k).length = r.stops.length:=stK_len r.stops bs
 generalize hST:stK r.stops bs = ST at hcl0
 have hST0:ST 0 = r.stops:=by rw [← hST]; rfl
 have hSTs:∀ k,ST (k + 1) = (ST k).set k { (ST k).getD k default with ca:=cshK bs k }:=fun k => by rw [← hST]; rfl
 refine WV_seq_ (WV_seq_ ?_)
 (refine WV_op ?_; simp only [go_sem,hP]; (repeat refine qJ ?_))
 refine WV_block ?_
 refine WV_loopK K3_1 [3,42,7] (fun k:Nat => k ≤ bs.length ∧ ∀ b ∈ bs.take k,refOk b = true) (fun k => bs.length - k) (fun k => [(8,iv k),(2,iv x)])
  (fun k => [(42,.box (cellsG Stop.cds (ST k) j)),(7,.box [.vw 4 42 0 r.stops.length cap,.c (driveC r.drive),iv r.start])]) 0 ⟨by omega,by simp⟩ ?_ ?_
 ·rw [hST0]
  exact Sub_au
 ·rintro k ⟨hk,hin⟩
  (repeat ((first | refine Va ?_ | refine Vb ?_ | refine Vc ?_ | refine Vd ?_ | refine Ve ?_ | refine Vf ?_); (try simp only [go_sem,hP,List.length_map]); (repeat refine qJ ?_)))
  (refine WV_cond rfl (fun h => ?_) (fun h => ?_))
  ·have hi:k < bs.length:=by simpa using h
   have hi4:k < (ST k).length:=by rw [hcl0]; omega
   have w1:=w64 (n:=(k:Int) + 1) (by omega) (by omega)
   obtain ⟨b,hb⟩ : ∃ b,b = bs[k]:=⟨_,rfl⟩
   have hgd:(bs.map Bx.cds).getD k [] = b.cds:=by rw [List.getD_eq_getElem?_getD,List.getElem?_map,List.getElem?_eq_getElem hi,hb]; rfl
   have hck:cshK bs k = (cashP b).1:=by rw [cshK_at hi,← hb]
   (repeat ((first | refine Va ?_ | refine Vb ?_ | refine Vc ?_ | refine Vd ?_ | refine Ve ?_ | refine Vf ?_); (try simp only [go_sem,hP,hgd,Bx.cds,ints,List.length_map,Int.toNat_natCast,Int.ofNat_lt,hi,Int.natCast_nonneg]); (repeat refine qJ ?_)))
   (refine AS_pu (far7 b) ?_; simp only [go_sem,hP,Bx.av,Bx.avs,ints,List.length_map,hgd,Bx.cds,Int.toNat_natCast,Int.ofNat_lt,hi,Int.natCast_nonneg]; (repeat refine qJ ?_); (repeat ((first | refine Va ?_ | refine Vb ?_ | refine Vc ?_ | refine Vd ?_ | refine Ve ?_ | refine Vf ?_); (try simp only [go_sem,hP,Bx.av,Bx.avs,ints,List.length_map,hgd,Bx.cds,Int.toNat_natCast,Int.ofNat_lt,hi,Int.natCast_nonneg]); (repeat refine qJ ?_))))
   by_cases hfb:farBx b = true
   ·simp only [go_sem,hfb]
    (refine AG_skip ?_; simp only [go_sem,hP,List.length_map]; (repeat refine qJ ?_); (repeat ((first | refine Va ?_ | refine Vb ?_ | refine Vc ?_ | refine Vd ?_ | refine Ve ?_ | refine Vf ?_); (try simp only [go_sem,hP,List.length_map]); (repeat refine qJ ?_))))
    (refine WV_cond rfl (fun h => ?_) (fun h => ?_))
    ·(repeat ((first | refine Va ?_ | refine Vb ?_ | refine Vc ?_ | refine Vd ?_ | refine Ve ?_ | refine Vf ?_); (try simp only [go_sem,hP]); (repeat refine qJ ?_)))
     (refine AS_pu (collected5) ?_; simp only [go_sem,hP]; (repeat refine qJ ?_); (repeat ((first | refine Va ?_ | refine Vb ?_ | refine Vc ?_ | refine Vd ?_ | refine Ve ?_ | refine Vf ?_); (try simp only [go_sem,hP]); (repeat refine qJ ?_))))
     (refine WV_ret ?_; simp only [thenQ,inQ,RetQ,RetOk,resAll,resA]; simp only [go_sem,tupA,AV.port,AV.portL,exists_eq_left']; (first | exact AVle.of rfl | refine AVle.of ?_ | skip))
    ·simp at h
   have hfb:farBx b = false:=by simpa using hfb
   simp only [go_sem,hfb]
   (refine AG_pu (fun hG => check8 b) ?_; simp only [go_sem,hP,Bx.av,Bx.avs,ints,List.length_map,hfb]; (repeat refine qJ ?_); (repeat ((first | refine Va ?_ | refine Vb ?_ | refine Vc ?_ | refine Vd ?_ | refine Ve ?_ | refine Vf ?_); (try simp only [go_sem,hP,Bx.av,Bx.avs,ints,List.length_map,hfb]); (repeat refine qJ ?_))))
   by_cases hre:refOk b = true
   case neg =>
    have hre:refOk b = false:=by simpa using hre
    have e1:chkB b = 50:=by unfold chkB; rw [hre]; rfl
    rw [e1]
    (refine WV_cond rfl (fun h => ?_) (fun h => ?_))
    ·(repeat ((first | refine Va ?_ | refine Vb ?_ | refine Vc ?_ | refine Vd ?_ | refine Ve ?_ | refine Vf ?_); (try simp only [go_sem,hP]); (repeat refine qJ ?_)))
     (refine AS_pu (collected5) ?_; simp only [go_sem,hP]; (repeat refine qJ ?_); (repeat ((first | refine Va ?_ | refine Vb ?_ | refine Vc ?_ | refine Vd ?_ | refine Ve ?_ | refine Vf ?_); (try simp only [go_sem,hP]); (repeat refine qJ ?_))))
     (refine WV_ret ?_; simp only [thenQ,inQ,RetQ,RetOk,resAll,resA]; simp only [go_sem,tupA,AV.port,AV.portL,exists_eq_left']; (first | exact AVle.of rfl | refine AVle.of ?_ | skip))
    ·simp at h
   have e1:chkB b = 0:=by unfold chkB; rw [if_pos hre]
   rw [e1]
   (refine WV_cond rfl (fun h => ?_) (fun h => ?_))
   ·simp at h
   clear h
   have hbx:=bxB_ok (ref_bx hre)
   have hcn:=cash_nn hre
   have hcl:=hbx.wh.cl
   have hnl:=hbx.wh.nl
   have hf1:=hbx.fl
   have hf2:=hbx.ml
   have hf3:=hbx.sl
   (repeat ((first | refine Va ?_ | refine Vb ?_ | refine Vc ?_ | refine Vd ?_ | refine Ve ?_ | refine Vf ?_); (try simp only [go_sem,hP,hgd,Bx.cds,ints,List.length_map,Int.toNat_natCast,Int.ofNat_lt,hi,Int.natCast_nonneg]); (repeat refine qJ ?_)))
   have hno1:∀ l:List Int,(∀ n ∈ l,0 ≤ n ∧ n ≤ 12) → True:=fun _ _ => trivial
   (refine AS_pu (copy10 (b:=b) (by omega) (by omega) (by omega) (by omega) (by omega)) ?_; simp only [go_sem,hP,Bx.av,Bx.avs,ints,List.length_map]; (repeat refine qJ ?_); (repeat ((first | refine Va ?_ | refine Vb ?_ | refine Vc ?_ | refine Vd ?_ | refine Ve ?_ | refine Vf ?_); (try simp only [go_sem,hP,Bx.av,Bx.avs,ints,List.length_map]); (repeat refine qJ ?_))))
   (refine AS_pu (cash9 b) ?_; simp only [go_sem,hP,Bx.av,Bx.avs,ints,List.length_map]; (repeat refine qJ ?_); (repeat ((first | refine Va ?_ | refine Vb ?_ | refine Vc ?_ | refine Vd ?_ | refine Ve ?_ | refine Vf ?_); (try simp only [go_sem,hP,Bx.av,Bx.avs,ints,List.length_map]); (repeat refine qJ ?_))))
   rw [hcn.1]
   have hz0:((0:Int) != 0) = false:=rfl
   have hge:decide ((cashP b).1 < 0) = false:=by rw [decide_eq_false_iff_not]; omega
   have hle:decide ((99999:Int) < (cashP b).1) = false:=by rw [decide_eq_false_iff_not]; omega
   (repeat ((first | refine Va ?_ | refine Vb ?_ | refine Vc ?_ | refine Vd ?_ | refine Ve ?_ | refine Vf ?_); (try simp only [go_sem,hP,hz0,hge,hle]); (repeat refine qJ ?_)))
   (refine WV_cond rfl (fun h => ?_) (fun h => ?_))
   ·exfalso
    simp at h
    omega
   clear h
   have hsz:=cells_set j (cashP b).1 (ST k) k hi4
   have hcl4:=cells_len4 j (ST k)
   have hkn:k < r.stops.length:=by omega
   have hk4:k * 4 + 3 < (cellsG Stop.cds (ST k) j).length:=by rw [hcl4]; omega
   (repeat ((first | refine Va ?_ | refine Vb ?_ | refine Vc ?_ | refine Vd ?_ | refine Ve ?_ | refine Vf ?_); (try simp only [go_sem,hP,hsz,hk4,hkn,List.length_map,Int.toNat_natCast,Int.ofNat_lt,hi,Int.natCast_nonneg,Nat.zero_add,w1]); (repeat refine qJ ?_)))
   refine ⟨k + 1,⟨by omega,fun y hy => ?_⟩,by omega,?_⟩
   ·rw [List.take_succ_eq_append_getElem hi,List.mem_append,List.mem_singleton] at hy
    rcases hy with hy | hy
    ·exact hin y hy
    ·rw [hy,← hb]; exact hre
   ·rw [hSTs,hck]
    exact Sub_au
  ·have hi:k = bs.length:=by simp at h; omega
   subst hi
   rw [List.take_length] at hin
   clear h hk
   have hll:=hcl0 bs.length
   have hst:∀ i,i < r.stops.length → (ST bs.length).getD i default = { r.stops.getD i default with ca:=cshK bs i }:=fun i hi => by
    have:=stK_at r.stops bs bs.length i hi
    rw [hST,if_pos (by omega)] at this
    exact this
   generalize ST bs.length = l1 at hll hst
   obtain ⟨r1,hr1⟩ : ∃ r1,r1 = rWith r l1:=⟨_,rfl⟩
   have hav:r1.av = .agg [.c (.sl 4 (l1.map Stop.cds)),.c (driveC r.drive),.c (.int .i64 r.start)]:=by rw [hr1]; rfl
   have hel:∀ own:Nat → Ob,own 42 = .box (cellsG Stop.cds l1 j) → AV.elemsV own (.vw 4 42 0 r.stops.length cap) = some (4,l1.map Stop.cds):=fun own h => by
    have:=elemsV_cellsG (m:=4) (cds:=Stop.cds) (fun _ => rfl) own 42 l1 j cap h
    rwa [hll] at this
   (repeat ((first | refine Va ?_ | refine Vb ?_ | refine Vc ?_ | refine Vd ?_ | refine Ve ?_ | refine Vf ?_); (try simp only [go_sem,hP,prg_cellsG]); (repeat refine qJ ?_)))
   refine AS_vol (check_spec r1) rfl rfl rfl rfl (by simp only [go_sem,AV.vportL,AV.vport]; rw [hel _ rfl,hav]; rfl) rfl ?_
   simp only [go_sem,hP]
   (repeat ((first | refine Va ?_ | refine Vb ?_ | refine Vc ?_ | refine Vd ?_ | refine Ve ?_ | refine Vf ?_); (try simp only [go_sem,hP,prg_cellsG]); (repeat refine qJ ?_)))
   by_cases hok:r1.ok = true
   case neg =>
    have hok:r1.ok = false:=by simpa using hok
    (refine WV_cond rfl (fun h => ?_) (fun h => ?_))
    ·(repeat ((first | refine Va ?_ | refine Vb ?_ | refine Vc ?_ | refine Vd ?_ | refine Ve ?_ | refine Vf ?_); (try simp only [go_sem,hP]); (repeat refine qJ ?_)))
     (refine AS_pu (collected5) ?_; simp only [go_sem,hP]; (repeat refine qJ ?_); (repeat ((first | refine Va ?_ | refine Vb ?_ | refine Vc ?_ | refine Vd ?_ | refine Ve ?_ | refine Vf ?_); (try simp only [go_sem,hP]); (repeat refine qJ ?_))))
     (refine WV_ret ?_; simp only [thenQ,inQ,RetQ,RetOk,resAll,resA]; simp only [go_sem,tupA,AV.port,AV.portL,exists_eq_left']; (first | exact AVle.of rfl | refine AVle.of ?_ | skip))
    ·simp [hok] at h
   (refine WV_cond rfl (fun h => ?_) (fun h => ?_))
   ·simp [hok] at h
   clear h
   have hR:=Route.ok_spec hok
   refine WV_keep [1,2,7] ?_
   simp only [go_sem]
   have hn1:r1.n = r.stops.length:=by rw [hr1]; exact hll
   have hca:∀ k,k < r1.n → (r1.s k).ca = cshK bs k:=fun k hk => by
    rw [hr1]
    show (l1.getD k default).ca = _
    rw [hst k (by omega)]
   have htot:(sumS bs).1 = totS r1:=by
    have h1:=sum_cash bs bs.length (Nat.le_refl _)
    rw [List.take_length] at h1
    rw [h1,totS,hn1,← hlen]
    congr 1
    refine List.map_congr_left fun k hk => ?_
    exact (hca k (by rw [hn1,← hlen]; exact List.mem_range.1 hk)).symm
   have hTb:totS r1 ≤ 5600 * bs.length:=by rw [← htot]; exact (sumS_ok bs).1
   have hbad:badE bs = 0:=by
    unfold badE
    have:bs.find? (fun b => bxE b != 0) = none:=by
     rw [List.find?_eq_none]
     intro y hy; simp [bxE_ok (ref_bx (hin y hy))]
    rw [this]
   have hsum:=sum12 bs
   have hsp:sumP bs = (totS r1,(sumS bs).2.1,(sumS bs).2.2,0):=by
    unfold sumP
    rw [if_neg (by omega),hbad,if_neg (by decide),htot]
   rw [hsp] at hsum
   have hmost:=most41 r1
   have hmp:mostS r1 = (mostB r1 (goods r1),0):=by unfold mostS; rw [if_pos hok]
   rw [hmp] at hmost
   have hway:=wayF r1
   have hwp:(wayS r1).2 = if wholes r1 = [] then 3 else 0:=by
    unfold wayS
    by_cases hw:wholes r1 = []
    ·have e1:someE r1 = 3:=by unfold someE; rw [if_pos hok,if_pos hw]
     rw [if_neg (by rw [e1]; decide),if_pos hw]; exact e1
    ·have e1:someE r1 = 0:=by unfold someE; rw [if_pos hok,if_neg hw]
     rw [if_pos e1,if_neg hw]
   rw [hwp] at hway
   have hshut:=shutF r1
   have hsh:shutS r1 = (shutL (lasts (goods r1)) r1.n,0):=by unfold shutS; rw [if_pos hok]
   rw [hsh] at hshut
   obtain ⟨m1,m2,m3,m4⟩:=most_law hR
   have hsl:=shutL_len (lasts (goods r1)) r1.n
   have hmem:∀ k:Nat,k < r1.n → ((k:Int) ∈ shutL (lasts (goods r1)) r1.n ↔ ¬ (k:Int) ∈ lasts (goods r1)):=fun k hk => by
    unfold shutL
    rw [List.mem_filter,List.mem_map]
    simp only [Bool.not_eq_true',decide_eq_false_iff_not]
    exact ⟨fun h => h.2,fun h => ⟨⟨k,List.mem_range.2 hk,rfl⟩,h⟩⟩
   obtain ⟨g,hg⟩ : ∃ g:Int,g = if wholes r1 = [] then 3 else 0:=⟨_,rfl⟩
   rw [← hg] at hway
   have hg0:(g = 0 ∧ mostB r1 (goods r1) = totS r1) ∨ g = 3:=by
    by_cases hw:wholes r1 = []
    ·right; rw [hg,if_pos hw]
    ·left; exact ⟨by rw [hg,if_neg hw],m3 hw⟩
   clear hg hwp
   have hless:=fun (s:Route) (hs:RouteOk s) (h:SameWay r1 s) (y:Nat) (hx:(s.s y).ca = 0) => most_less hR hs h (x:=y) hx
   generalize hM:mostB r1 (goods r1) = M at *
   generalize hSL:shutL (lasts (goods r1)) r1.n = L at *
   generalize totS r1 = T at *
   have hva:∀ {own:Nat → Ob},own 42 = .box (cellsG Stop.cds l1 j) → AV.vportL own [.agg [.vw 4 42 0 r.stops.length cap,.c (driveC r.drive),iv r.start]] = some [r1.av]:=fun {own} h => by
    simp only [go_sem,AV.vportL,AV.vport]
    rw [hel _ h,hav]; rfl
   (repeat ((first | refine Va ?_ | refine Vb ?_ | refine Vc ?_ | refine Vd ?_ | refine Ve ?_ | refine Vf ?_); (try simp only [go_sem,hP,prg_cellsG]); (repeat refine qJ ?_)))
   (refine AS_pu (hsum) ?_; simp only [go_sem,hP,bxC,prg_cellsG]; (repeat refine qJ ?_); (repeat ((first | refine Va ?_ | refine Vb ?_ | refine Vc ?_ | refine Vd ?_ | refine Ve ?_ | refine Vf ?_); (try simp only [go_sem,hP,bxC,prg_cellsG]); (repeat refine qJ ?_))))
   refine AS_vol hmost rfl rfl rfl rfl (hva rfl) rfl ?_
   simp only [go_sem,hP]
   (repeat ((first | refine Va ?_ | refine Vb ?_ | refine Vc ?_ | refine Vd ?_ | refine Ve ?_ | refine Vf ?_); (try simp only [go_sem,hP,prg_cellsG]); (repeat refine qJ ?_)))
   refine AS_fresh hway rfl rfl rfl (hva rfl) rfl ?_
   simp only [go_sem,hP]
   (repeat ((first | refine Va ?_ | refine Vb ?_ | refine Vc ?_ | refine Vd ?_ | refine Ve ?_ | refine Vf ?_); (try simp only [go_sem,hP,prg_cellsG]); (repeat refine qJ ?_)))
   refine AS_fresh hshut rfl rfl rfl (hva rfl) rfl ?_
   simp only [go_sem,hP]
   (repeat ((first | refine Va ?_ | refine Vb ?_ | refine Vc ?_ | refine Vd ?_ | refine Ve ?_ | refine Vf ?_); (try simp only [go_sem,hP,prg_cellsG,ints,List.length_map]); (repeat refine qJ ?_)))
   (refine WV_cond rfl (fun h => ?_) (fun h => ?_))
   ·exfalso
    rcases hg0 with ⟨rfl,rfl⟩ | rfl
    ·simp at h
     omega
    ·simp at h
     omega
   clear h
   refine WV_keep [1,2,7,17,21] ?_
   simp only [go_sem]
   (repeat ((first | refine Va ?_ | refine Vb ?_ | refine Vc ?_ | refine Vd ?_ | refine Ve ?_ | refine Vf ?_); (try simp only [go_sem,hP,List.length_map]); (repeat refine qJ ?_)))
   (refine WV_cond rfl (fun h => ?_) (fun h => ?_))
   ·(repeat ((first | refine Va ?_ | refine Vb ?_ | refine Vc ?_ | refine Vd ?_ | refine Ve ?_ | refine Vf ?_); (try simp only [go_sem,hP]); (repeat refine qJ ?_)))
    (refine AS_pu (collected5) ?_; simp only [go_sem,hP]; (repeat refine qJ ?_); (repeat ((first | refine Va ?_ | refine Vb ?_ | refine Vc ?_ | refine Vd ?_ | refine Ve ?_ | refine Vf ?_); (try simp only [go_sem,hP]); (repeat refine qJ ?_))))
    (refine WV_ret ?_; simp only [thenQ,inQ,RetQ,RetOk,resAll,resA]; simp only [go_sem,tupA,AV.port,AV.portL,exists_eq_left']; (first | exact AVle.of rfl | refine AVle.of ?_ | skip))
   have hx:0 ≤ x ∧ x < bs.length:=by simp at h; omega
   clear h
   obtain ⟨m,rfl⟩ : ∃ m:Nat,x = (m:Int):=⟨x.toNat,by omega⟩
   have hml:m < l1.length:=by omega
   have hmn:m < r.stops.length:=by omega
   have hgc:=cells_ca j l1 m hml
   have hsz:(cellsG Stop.cds l1 j).set (m * 4 + 3) (.c (.int .i64 0)) = cellsG Stop.cds (noCa l1 m) j:=cells_set j 0 l1 m hml
   have hcl4:=cells_len4 j l1
   have hm4:m * 4 + 3 < (cellsG Stop.cds l1 j).length:=by rw [hcl4]; omega
   have hcm:(l1.getD m default).ca = cshK bs m:=by rw [hst m hmn]
   rw [hcm] at hgc
   have hs1:r1.stops = l1:=by rw [hr1]; rfl
   have hl2n:(noCa l1 m).length = r.stops.length:=by unfold noCa; rw [List.length_set]; exact hll
   obtain ⟨r2,hr2⟩ : ∃ r2,r2 = rWith r1 (noCa r1.stops m):=⟨_,rfl⟩
   have hok2:r2.ok = true:=by rw [hr2]; exact ok_noCa hok m
   have hav2:r2.av = .agg [.c (.sl 4 ((noCa l1 m).map Stop.cds)),.c (driveC r.drive),.c (.int .i64 r.start)]:=by rw [hr2,hs1,hr1]; rfl
   have hel2:∀ own:Nat → Ob,own 42 = .box (cellsG Stop.cds (noCa l1 m) j) → AV.elemsV own (.vw 4 42 0 r.stops.length cap) = some (4,(noCa l1 m).map Stop.cds):=fun own h => by
    have:=elemsV_cellsG (m:=4) (cds:=Stop.cds) (fun _ => rfl) own 42 (noCa l1 m) j cap h
    rwa [hl2n] at this
   have hva2:∀ {own:Nat → Ob},own 42 = .box (cellsG Stop.cds (noCa l1 m) j) → AV.vportL own [.agg [.vw 4 42 0 r.stops.length cap,.c (driveC r.drive),iv r.start]] = some [r2.av]:=fun {own} h => by
    simp only [go_sem,AV.vportL,AV.vport]
    rw [hel2 _ h,hav2]; rfl
   have hat2:∀ k,k < l1.length → (r2.s k) = if k = m then { l1.getD k default with ca:=0 } else l1.getD k default:=fun k hk => by
    rw [hr2,hs1]
    exact noCa_at l1 m k hk
   have hs1k:∀ k,r1.s k = l1.getD k default:=fun k => by rw [hr1]; rfl
   have hsame:SameWay r1 r2:=by
    rw [hr2]
    refine same_with (by rw [hs1,hl2n,hll]) fun i hi => ?_
    rw [hs1] at hi ⊢
    rw [noCa_at l1 m i hi]
    split <;> exact ⟨rfl,rfl,rfl⟩
   obtain ⟨k1,k2,k3⟩:=hless r2 (Route.ok_spec hok2) hsame m (by rw [hat2 m hml,if_pos rfl]) (fun k hk => by
    by_cases hkl:k < l1.length
    ·rw [hat2 k hkl,if_neg hk,hs1k]
    ·have e1:r2.s k = default:=by rw [hr2,hs1]; show (noCa l1 m).getD k default = default; rw [List.getD_eq_getElem?_getD,List.getElem?_eq_none (by omega)]; rfl
     have e2:r1.s k = default:=by rw [hs1k,List.getD_eq_getElem?_getD,List.getElem?_eq_none (by omega)]; rfl
     rw [e1,e2]) (by have:=(hR.stop m (by omega)).2.2.2.2.2.1; exact this)
   rw [hs1k,hcm] at k2
   have hcb:0 ≤ cshK bs m ∧ cshK bs m ≤ 99999:=by
    have:=(hR.stop m (by omega)).2.2.2.2.2
    rw [hs1k,hcm] at this
    omega
   have hmost2:=most41 r2
   have hmp2:mostS r2 = (mostB r2 (goods r2),0):=by unfold mostS; rw [if_pos hok2]
   rw [hmp2] at hmost2
   have hlm:=hmem m (by omega)
   have hin47:=in47 L (m:Int)
   have hM2:(mostB r2 (goods r2) == M) = true ∨ (m:Int) ∉ L:=by
    by_cases hh:(m:Int) ∈ L
    ·left; rw [beq_iff_eq]; exact k3 (hlm.1 hh)
    ·exact .inr hh
   generalize mostB r2 (goods r2) = M2 at *
   generalize cshK bs m = c at *
   have hMb:M ≤ 28000:=by omega
   have w1:=w64 (n:=M - c) (by omega) (by omega)
   have d1:decide (M2 ≤ M) = true:=by rw [decide_eq_true_eq]; exact k1
   have d2:decide (M - c ≤ M2) = true:=by rw [decide_eq_true_eq]; exact k2
   have z0:((0:Int) == 0) = true:=rfl
   (refine WV_skip ?_; simp only [go_sem])
   refine WV_keep [2,7,17,21] ?_
   simp only [go_sem]
   have hmi:(m:Int) < (r.stops.length:Int):=by omega
   (repeat ((first | refine Va ?_ | refine Vb ?_ | refine Vc ?_ | refine Vd ?_ | refine Ve ?_ | refine Vf ?_); (try simp only [go_sem,hP,hgc,hsz,hm4,hmi,List.length_map,Int.toNat_natCast,Int.ofNat_lt,Int.natCast_nonneg,Nat.zero_add,hmn]); (repeat refine qJ ?_)))
   refine AS_vol hmost2 rfl rfl rfl rfl (hva2 rfl) rfl ?_
   simp only [go_sem,hP]
   (repeat ((first | refine Va ?_ | refine Vb ?_ | refine Vc ?_ | refine Vd ?_ | refine Ve ?_ | refine Vf ?_); (try simp only [go_sem,hP,prg_cellsG,z0,d1,d2,w1]); (repeat refine qJ ?_)))
   by_cases hmm:(m:Int) ∈ L
   ·have hE:(M2 == M) = true:=by
     rcases hM2 with h | h
     ·exact h
     ·exact absurd hmm h
    rw [decide_eq_true hmm] at hin47
    (refine AG_pu (fun hG => hin47) ?_; simp only [go_sem,hP,ints,hE,z0,d1,d2,w1]; (repeat refine qJ ?_); (repeat ((first | refine Va ?_ | refine Vb ?_ | refine Vc ?_ | refine Vd ?_ | refine Ve ?_ | refine Vf ?_); (try simp only [go_sem,hP,ints,hE,z0,d1,d2,w1]); (repeat refine qJ ?_))))
    (refine AG_pu (fun hG => collected5) ?_; simp only [go_sem,hP,hE]; (repeat refine qJ ?_); (repeat ((first | refine Va ?_ | refine Vb ?_ | refine Vc ?_ | refine Vd ?_ | refine Ve ?_ | refine Vf ?_); (try simp only [go_sem,hP,hE]); (repeat refine qJ ?_))))
    (refine WV_ret ?_; simp only [thenQ,inQ,RetQ,RetOk,resAll,resA]; simp only [go_sem,tupA,AV.port,AV.portL,exists_eq_left']; (first | exact AVle.of rfl | refine AVle.of ?_ | skip))
   ·rw [decide_eq_false hmm] at hin47
    (refine AG_pu (fun hG => hin47) ?_; simp only [go_sem,hP,ints,z0,d1,d2,w1]; (repeat refine qJ ?_); (repeat ((first | refine Va ?_ | refine Vb ?_ | refine Vc ?_ | refine Vd ?_ | refine Ve ?_ | refine Vf ?_); (try simp only [go_sem,hP,ints,z0,d1,d2,w1]); (repeat refine qJ ?_))))
    (refine AG_pu (fun hG => collected5) ?_; simp only [go_sem,hP]; (repeat refine qJ ?_); (repeat ((first | refine Va ?_ | refine Vb ?_ | refine Vc ?_ | refine Vd ?_ | refine Ve ?_ | refine Vf ?_); (try simp only [go_sem,hP]); (repeat refine qJ ?_))))
    (refine WV_ret ?_; simp only [thenQ,inQ,RetQ,RetOk,resAll,resA]; simp only [go_sem,tupA,AV.port,AV.portL,exists_eq_left']; (first | exact AVle.of rfl | refine AVle.of ?_ | skip))
set_option maxHeartbeats 16000000 in
set_option maxRecDepth 20000 in
theorem round30 (r:Route) (bs:List Bx) (x:Int) (h0:r.stops = []):FSpec Try.prog 3 [r.av,.c (bxC bs),iv x] (.c (.bool true)):=by
 refine FSpec_of c3 (Nat.le_refl _) (by decide) fun C hP hN hC hL => ?_; rw [init_st]
 obtain ⟨hl1,hl2,hl3⟩:=Route.lens hL
 have hcp:=copy17 r
 simp only [ir3,Route.av,bxC,h0] at hcp ⊢
 have hne:((bs.length:Int) != (([]:List Stop).length:Int)) = !(bs.length == ([]:List Stop).length):=ibne _ _
 have hfs:=far19 r
 simp only [Route.av,h0] at hfs
 (repeat ((first | refine Va ?_ | refine Vb ?_ | refine Vc ?_ | refine Vd ?_ | refine Ve ?_ | refine Vf ?_); (try simp only [go_sem,hP,stopsC,List.length_map,List.map_nil]); (repeat refine qJ ?_)))
 (refine AS_pu (hfs) ?_; simp only [go_sem,hP,stopsC,List.length_map,hne,List.map_nil]; (repeat refine qJ ?_); (repeat ((first | refine Va ?_ | refine Vb ?_ | refine Vc ?_ | refine Vd ?_ | refine Ve ?_ | refine Vf ?_); (try simp only [go_sem,hP,stopsC,List.length_map,hne,List.map_nil]); (repeat refine qJ ?_))))
 (refine WV_cond rfl (fun h => ?_) (fun h => ?_))
 ·(repeat ((first | refine Va ?_ | refine Vb ?_ | refine Vc ?_ | refine Vd ?_ | refine Ve ?_ | refine Vf ?_); (try simp only [go_sem,hP]); (repeat refine qJ ?_)))
  (refine AS_pu (collected5) ?_; simp only [go_sem,hP]; (repeat refine qJ ?_); (repeat ((first | refine Va ?_ | refine Vb ?_ | refine Vc ?_ | refine Vd ?_ | refine Ve ?_ | refine Vf ?_); (try simp only [go_sem,hP]); (repeat refine qJ ?_))))
  (refine WV_ret ?_; simp only [thenQ,inQ,RetQ,RetOk,resAll,resA]; simp only [go_sem,tupA,AV.port,AV.portL,exists_eq_left']; (first | exact AVle.of rfl | refine AVle.of ?_ | skip))
 have hcs:farS r = false ∧ bs = []:=by
  cases hf:farS r with
  | true => rw [hf] at h; simp at h
  | false =>
   rw [hf] at h
   simp at h
   exact ⟨rfl,h.1⟩
 obtain ⟨hfar,rfl⟩:=hcs
 clear h
 have hnear:near r = true:=by
  cases hn:near r with
  | true => rfl
  | false => unfold farS at hfar; rw [hn] at hfar; cases hfar
 have hck:=check_spec r
 have hmo:=most41 r
 have hwa:=way18 r
 have hsh:=shut42 r
 have hsm:=sum12 []
 have hsp:sumP [] = (0,0,0,0):=rfl
 have hcp2:=hcp hnear
 rw [hsp] at hsm
 simp only [Route.av,h0,stopsC,List.map_nil,bxC] at hck hmo hwa hsh hsm hcp2
 have hz:((0:Nat):Int) = 0:=rfl
 (repeat ((first | refine Va ?_ | refine Vb ?_ | refine Vc ?_ | refine Vd ?_ | refine Ve ?_ | refine Vf ?_); (try simp only [go_sem,hP]); (repeat refine qJ ?_)))
 (refine AS_pu (hcp2) ?_; simp only [go_sem,hP]; (repeat refine qJ ?_); (repeat ((first | refine Va ?_ | refine Vb ?_ | refine Vc ?_ | refine Vd ?_ | refine Ve ?_ | refine Vf ?_); (try simp only [go_sem,hP]); (repeat refine qJ ?_))))
 refine WV_loopK K3_1 [] (fun _:Unit => True) (fun _ => 0) (fun _ => [(8,iv 0),(2,iv x)]) (fun _ => []) () trivial ?_ ?_
 ·exact Sub_au
 intro _ _
 (repeat ((first | refine Va ?_ | refine Vb ?_ | refine Vc ?_ | refine Vd ?_ | refine Ve ?_ | refine Vf ?_); (try simp only [go_sem,hP]); (repeat refine qJ ?_)))
 (refine WV_cond rfl (fun h => ?_) (fun h => ?_))
 ·simp at h
 clear h
 (repeat ((first | refine Va ?_ | refine Vb ?_ | refine Vc ?_ | refine Vd ?_ | refine Ve ?_ | refine Vf ?_); (try simp only [go_sem,hP]); (repeat refine qJ ?_)))
 (refine AS_pu (hck) ?_; simp only [go_sem,hP]; (repeat refine qJ ?_); (repeat ((first | refine Va ?_ | refine Vb ?_ | refine Vc ?_ | refine Vd ?_ | refine Ve ?_ | refine Vf ?_); (try simp only [go_sem,hP]); (repeat refine qJ ?_))))
 by_cases hok:r.ok = true
 case neg =>
  have hok:r.ok = false:=by simpa using hok
  (refine WV_cond rfl (fun h => ?_) (fun h => ?_))
  ·(repeat ((first | refine Va ?_ | refine Vb ?_ | refine Vc ?_ | refine Vd ?_ | refine Ve ?_ | refine Vf ?_); (try simp only [go_sem,hP]); (repeat refine qJ ?_)))
   (refine AS_pu (collected5) ?_; simp only [go_sem,hP]; (repeat refine qJ ?_); (repeat ((first | refine Va ?_ | refine Vb ?_ | refine Vc ?_ | refine Vd ?_ | refine Ve ?_ | refine Vf ?_); (try simp only [go_sem,hP]); (repeat refine qJ ?_))))
   (refine WV_ret ?_; simp only [thenQ,inQ,RetQ,RetOk,resAll,resA]; simp only [go_sem,tupA,AV.port,AV.portL,exists_eq_left']; (first | exact AVle.of rfl | refine AVle.of ?_ | skip))
  ·simp [hok] at h
 (refine WV_cond rfl (fun h => ?_) (fun h => ?_))
 ·simp [hok] at h
 clear h
 have hR:=Route.ok_spec hok
 have hn:r.n = 0:=by unfold Route.n; rw [h0]; rfl
 have hT:totS r = 0:=by unfold totS; rw [hn]; rfl
 obtain ⟨m1,m2,m3,m4⟩:=most_law hR
 rw [hT] at m2
 have hM:mostB r (goods r) = 0:=by omega
 have hmp:mostS r = (0,0):=by unfold mostS; rw [if_pos hok,hM]
 have hwp:(wayS r).2 = 0 ∨ (wayS r).2 = 3:=by
  unfold wayS
  by_cases hw:wholes r = []
  ·have e1:someE r = 3:=by unfold someE; rw [if_pos hok,if_pos hw]
   rw [if_neg (by rw [e1]; decide)]; exact .inr e1
  ·have e1:someE r = 0:=by unfold someE; rw [if_pos hok,if_neg hw]
   rw [if_pos e1]; exact .inl rfl
 have hshp:shutS r = ([],0):=by unfold shutS; rw [if_pos hok,hn]; rfl
 rw [hmp] at hmo
 rw [hshp] at hsh
 generalize (wayS r).2 = g at hwp hwa
 generalize (wayS r).1 = wy at hwa
 refine WV_keep [1,2,7] ?_
 simp only [go_sem]
 (repeat ((first | refine Va ?_ | refine Vb ?_ | refine Vc ?_ | refine Vd ?_ | refine Ve ?_ | refine Vf ?_); (try simp only [go_sem,hP]); (repeat refine qJ ?_)))
 (refine AS_pu (hsm) ?_; simp only [go_sem,hP]; (repeat refine qJ ?_); (repeat ((first | refine Va ?_ | refine Vb ?_ | refine Vc ?_ | refine Vd ?_ | refine Ve ?_ | refine Vf ?_); (try simp only [go_sem,hP]); (repeat refine qJ ?_))))
 (refine AS_pu (hmo) ?_; simp only [go_sem,hP]; (repeat refine qJ ?_); (repeat ((first | refine Va ?_ | refine Vb ?_ | refine Vc ?_ | refine Vd ?_ | refine Ve ?_ | refine Vf ?_); (try simp only [go_sem,hP]); (repeat refine qJ ?_))))
 (refine AS_pu (hwa) ?_; simp only [go_sem,hP]; (repeat refine qJ ?_); (repeat ((first | refine Va ?_ | refine Vb ?_ | refine Vc ?_ | refine Vd ?_ | refine Ve ?_ | refine Vf ?_); (try simp only [go_sem,hP]); (repeat refine qJ ?_))))
 (refine AS_pu (hsh) ?_; simp only [go_sem,hP,ints,List.map_nil]; (repeat refine qJ ?_); (repeat ((first | refine Va ?_ | refine Vb ?_ | refine Vc ?_ | refine Vd ?_ | refine Ve ?_ | refine Vf ?_); (try simp only [go_sem,hP,ints,List.map_nil]); (repeat refine qJ ?_))))
 (refine WV_cond rfl (fun h => ?_) (fun h => ?_))
 ·exfalso
  rcases hwp with rfl | rfl <;> simp at h
 refine WV_keep [1,2,7] ?_
 simp only [go_sem]
 (repeat ((first | refine Va ?_ | refine Vb ?_ | refine Vc ?_ | refine Vd ?_ | refine Ve ?_ | refine Vf ?_); (try simp only [go_sem,hP]); (repeat refine qJ ?_)))
 (refine WV_cond rfl (fun h => ?_) (fun h => ?_))
 ·(repeat ((first | refine Va ?_ | refine Vb ?_ | refine Vc ?_ | refine Vd ?_ | refine Ve ?_ | refine Vf ?_); (try simp only [go_sem,hP]); (repeat refine qJ ?_)))
  (refine AS_pu (collected5) ?_; simp only [go_sem,hP]; (repeat refine qJ ?_); (repeat ((first | refine Va ?_ | refine Vb ?_ | refine Vc ?_ | refine Vd ?_ | refine Ve ?_ | refine Vf ?_); (try simp only [go_sem,hP]); (repeat refine qJ ?_))))
  (refine WV_ret ?_; simp only [thenQ,inQ,RetQ,RetOk,resAll,resA]; simp only [go_sem,tupA,AV.port,AV.portL,exists_eq_left']; (first | exact AVle.of rfl | refine AVle.of ?_ | skip))
 ·exfalso
  simp at h
  omega
theorem topRound3 (r:Route) (bs:List Bx) (x:Int):FSpec Try.prog 3 [r.av,.c (bxC bs),iv x] (.c (.bool true)):=by
 by_cases h0:r.stops = []
 ·exact round30 r bs x h0
 ·exact round3 r bs x h0
end Go.Proofs.Ytakplakbbidihaa
