/-
  Contracts of the layer's functions, of the laws' helpers and of the law; conditions: as each theorem states.
-/
import Derived.Test.YtakplakbbidihaaU4
import Derived.Test.YtakplakbbidihaaV3
import Derived.Shelf.SlIterI.Nil
import Derived.Shelf.SortM.Plain
import Derived.Shelf.SortM.SortNone
import Derived.Shelf.Slices.Reverse
import Derived.Sort.OwnSortedInts
import Derived.Test.YtakplakbbidihaaChecked
set_option linter.unusedVariables false
set_option linter.unusedSimpArgs false
namespace Go.Proofs.Ytakplakbbidihaa
open Go Go.V
abbrev o63_0:List Ins:=[⟨some 3,.box 4 (.t 1),none,true⟩,
 ⟨some 4,.mv (.k (.c (.raw (.map none)))),none,true⟩]
abbrev o63_1:List Ins:=[⟨some 9,.raw (.makeMap 104 none),none,true⟩,
 ⟨some 5,.mv (.t 9),none,true⟩]
abbrev o63_2:List Ins:=[⟨some 10,.mv (.t 0),none,true⟩,
 ⟨some 11,.raw (.range 102 (.tmp 10)),none,true⟩]
abbrev o63_3:List Ins:=[⟨some 12,.raw (.next (.tmp 11) false),none,true⟩,
 ⟨some 13,.ext (.t 12) 0,none,true⟩]
abbrev o63_4:List Ins:=[⟨some 14,.raw (.entry (.tmp 11)),none,true⟩,
 ⟨some 15,.ext (.t 14) 0,none,true⟩,
 ⟨some 6,.alloc [(.c (.int .i64 0)),(.c (.int .i64 0)),(.c (.int .i64 0)),(.c (.int .i64 0)),(.c (.int .i64 0)),(.c (.int .i64 0)),(.c (.int .i64 0))],none,true⟩,
 ⟨none,.st 7 (.t 6) (.t 15),none,true⟩]
abbrev o63_5:List Ins:=[⟨some 17,.mv (.t 5),none,true⟩,
 ⟨some 18,.fa 6 (.t 6),none,true⟩,
 ⟨some 19,.ld true 1 (.t 18),none,true⟩,
 ⟨some 20,.raw (.lookup 104 (.tmp 17) (.tmp 19) true),none,true⟩,
 ⟨some 16,.mv (.t 20),none,true⟩,
 ⟨some 21,.ext (.t 16) 0,none,true⟩,
 ⟨some 22,.ext (.t 16) 1,none,true⟩,
 ⟨some 7,.alloc [(.c (.int .i64 0)),(.c (.int .i64 0)),(.c (.int .i64 0)),(.c (.int .i64 0)),(.c (.int .i64 0)),(.c (.int .i64 0)),(.c (.int .i64 0))],none,true⟩,
 ⟨none,.st 7 (.t 7) (.t 21),none,true⟩,
 ⟨some 8,.mv (.t 22),none,true⟩]
abbrev o63_6:List Ins:=[⟨some 23,.fa 2 (.t 6),none,true⟩,
 ⟨some 24,.ld false 4 (.t 23),none,true⟩,
 ⟨some 25,.ld false 4 (.t 3),none,true⟩,
 ⟨some 26,.raw (.binOp .eql 100 (.tmp 24) (.tmp 25) 100),none,true⟩,
 ⟨some 27,.mv (.t 26),none,true⟩,
 ⟨some 28,.mv (.t 8),(some (27,true)),true⟩,
 ⟨some 29,.un .not (.t 28),(some (27,true)),true⟩,
 ⟨some 30,.mv (.t 29),(some (27,true)),true⟩,
 ⟨some 31,.fa 0 (.t 6),(some (30,false)),true⟩,
 ⟨some 32,.fa 0 (.t 31),(some (30,false)),true⟩,
 ⟨some 33,.ld true 1 (.t 32),(some (30,false)),true⟩,
 ⟨some 34,.fa 0 (.t 7),(some (30,false)),true⟩,
 ⟨some 35,.fa 0 (.t 34),(some (30,false)),true⟩,
 ⟨some 36,.ld true 1 (.t 35),(some (30,false)),true⟩,
 ⟨some 37,.bin .lss (.t 33) (.t 36),(some (30,false)),true⟩,
 ⟨some 38,.pick (.t 30) (.k (.c (.bool true))) (.t 37),(some (27,true)),true⟩,
 ⟨some 39,.mv (.t 38),(some (27,true)),true⟩,
 ⟨some 40,.fa 0 (.t 6),(some (39,false)),true⟩,
 ⟨some 41,.fa 0 (.t 40),(some (39,false)),true⟩,
 ⟨some 42,.ld true 1 (.t 41),(some (39,false)),true⟩,
 ⟨some 43,.fa 0 (.t 7),(some (39,false)),true⟩,
 ⟨some 44,.fa 0 (.t 43),(some (39,false)),true⟩,
 ⟨some 45,.ld true 1 (.t 44),(some (39,false)),true⟩,
 ⟨some 46,.bin .eql (.t 42) (.t 45),(some (39,false)),true⟩,
 ⟨some 47,.mv (.t 46),(some (39,false)),true⟩,
 ⟨some 48,.fa 0 (.t 6),(some (47,true)),true⟩,
 ⟨some 49,.fa 1 (.t 48),(some (47,true)),true⟩,
 ⟨some 50,.ld true 1 (.t 49),(some (47,true)),true⟩,
 ⟨some 51,.fa 0 (.t 7),(some (47,true)),true⟩,
 ⟨some 52,.fa 1 (.t 51),(some (47,true)),true⟩,
 ⟨some 53,.ld true 1 (.t 52),(some (47,true)),true⟩,
 ⟨some 54,.bin .lss (.t 50) (.t 53),(some (47,true)),true⟩,
 ⟨some 55,.pick (.t 47) (.t 54) (.k (.c (.bool false))),(some (39,false)),true⟩,
 ⟨some 56,.pick (.t 39) (.k (.c (.bool true))) (.t 55),(some (27,true)),true⟩,
 ⟨some 57,.pick (.t 27) (.t 56) (.k (.c (.bool false))),none,true⟩]
abbrev o63_7:List Ins:=[⟨some 58,.mv (.t 5),none,true⟩,
 ⟨some 59,.fa 6 (.t 6),none,true⟩,
 ⟨some 60,.ld true 1 (.t 59),none,true⟩,
 ⟨some 61,.ld false 7 (.t 6),none,true⟩,
 ⟨none,.raw (.mapUpdate 104 (.tmp 58) (.tmp 60) (.tmp 61)),none,true⟩]
abbrev v63_8:VC:=(.cond (.t 57) (.ops o63_7) .skip)
abbrev v63_9:VC:=(.seq (.ops o63_6) v63_8)
abbrev v63_10:VC:=(.seq (.ops o63_5) v63_9)
abbrev v63_11:VC:=(.seq (.ops o63_4) v63_10)
abbrev v63_12:VC:=(.block 1 v63_11)
abbrev v63_13:VC:=(.seq (.cond (.t 13) .skip (.exit 0)) v63_12)
abbrev v63_14:VC:=(.seq (.ops o63_3) v63_13)
-- K63_1: changed and kept: []
abbrev v63_15:VC:=(.loop v63_14)
abbrev v63_16:VC:=(.block 0 v63_15)
abbrev o63_17:List Ins:=[⟨some 62,.mv (.t 5),none,true⟩,
 ⟨some 4,.mv (.t 62),none,true⟩]
abbrev v63_18:VC:=(.seq (.ops o63_17) .ret)
abbrev v63_19:VC:=(.seq (.seq (.ops o63_2) v63_16) v63_18)
abbrev v63_20:VC:=(.seq (.ops o63_1) v63_19)
def ir63:FC:=⟨2,63,[.t 4],(.seq (.ops o63_0) v63_20)⟩
theorem c63:compM Try.prog [] 63 = some ir63:=by kernel_rfl
attribute [local go_sem] Nat.reduceEqDiff Nat.reduceAdd Nat.reduceMul reduceIte Nat.reduceLeDiff Nat.reduceLT Nat.reduceBEq reduceCtorEq
abbrev Ends:=List (Int × Pt)
def gl2 (D:Ends):GL:=D.map fun e => ([e.1],e.2.l)
def dlook (D:Ends) (n:Int):Option Pt:=(D.find? fun e => e.1 = n).map (·.2)
def dput (D:Ends) (n:Int) (p:Pt):Ends:=if (dlook D n).isSome = true then D.map (fun e => if e.1 = n then (n,p) else e) else D ++ [(n,p)]
theorem glook_gl2 (D:Ends) (n:Int):glook (gl2 D) [n] = (dlook D n).map Pt.l:=by
 unfold glook gl2 dlook
 rw [List.find?_map,Option.map_map,Option.map_map]
 have:((fun q:List Int × List Int => q.1 == [n]) ∘ fun e:Int × Pt => ([e.1],e.2.l)) = fun e => decide (e.1 = n):=by
  funext e
  simp only [Function.comp_apply]
  rw [Bool.eq_iff_iff]
  simp
 rw [this]; rfl
theorem gput_gl2 (D:Ends) (n:Int) (p:Pt):gput (gl2 D) [n] p.l = gl2 (dput D n p):=by
 unfold gput dput
 rw [glook_gl2,Option.isSome_map]
 split
 ·simp only [gl2,List.map_map]
  refine List.map_congr_left fun e _ => ?_
  simp only [Function.comp_apply]
  by_cases h:e.1 = n
  ·simp [h]
  ·simp [h]
 ·simp [gl2]
def endB (D:Ends) (x:Pt):Bool:=match dlook D x.bo with | none => true | some o => decide (x.pl < o.pl) || (x.pl == o.pl && decide (x.cr < o.cr))
def endS (A:Bag) (D:Ends) (e:Pt × Int × Pt):Ends:=if (decide (e.1.bag = A) && endB D e.1) = true then dput D e.1.bo e.1 else D
theorem bag_eqb (x A:Bag):(x.a == A.a && (x.b == A.b && (x.c == A.c && x.d == A.d))) = decide (x = A):=by
 rw [Bool.eq_iff_iff]
 cases x; cases A
 simp
theorem gl_split {R:Seen} {pre post:GL} {k v:List Int} (h:gl R = pre ++ (k,v) :: post):∃ A e B,R = A ++ e :: B ∧ pre = gl A ∧ post = gl B ∧ k = e.1.l ∧ v = e.2.1 :: e.2.2.l:=by
 unfold gl at h
 obtain ⟨A,r2,rfl,h1,h2⟩:=List.map_eq_append_iff.1 h
 obtain ⟨e,B,rfl,h3,h4⟩:=List.map_eq_cons_iff.1 h2
 simp only [Prod.mk.injEq] at h3
 exact ⟨A,e,B,rfl,h1.symm,h4.symm,h3.1.symm,h3.2.symm⟩
def EndsOf (S:Seen) (A:Bag) (D:Ends):Prop:=∃ ord:Seen,ord.Perm S ∧ D = ord.foldl (endS A) []
theorem intLaw:KLaw Try.prog 3 (fun v => ∃ n,v = .int .i64 n):=KLaw.int (by kernel_rfl)
theorem gl2_keys (D:Ends):∀ p ∈ gl2 D,∃ n,kval false p.1 = .int .i64 n:=fun p hp => by
 obtain ⟨e,_,rfl⟩:=List.mem_map.1 hp
 exact ⟨_,rfl⟩
theorem gl2_inj (D:Ends) (n:Int):∀ p ∈ gl2 D,kval false p.1 = kval false [n] → p.1 = [n]:=fun p hp h => by
 obtain ⟨e,_,rfl⟩:=List.mem_map.1 hp
 simp only [kval,Bool.false_eq_true,if_false,List.headD_cons,Value.int.injEq,true_and] at h
 simp [h]
set_option maxHeartbeats 8000000 in
set_option maxRecDepth 20000 in
theorem ends63 {S:Seen} {A:Bag} (bm:Nat):FSpecL Try.prog 63 [.c (.raw (.map (some bm))),.agg (bagAv A.l)] [gmap true true (gl S) bm,empO] [] (fun r l' => ∃ be D,r = .c (.raw (.map (some be))) ∧ l' = [gmap true true (gl S) bm,gmap false true (gl2 D) be] ∧ EndsOf S A D):=by
 refine FSpecL_ofX c63 (by first | simp | exact Nat.le_of_ble_eq_true rfl) (Nat.le_refl _) (by decide) (by decide) fun C hP hN hC hpin hL => ?_; rw [init_env',ownW_upd (by first | simp | exact Nat.le_of_ble_eq_true rfl)]; simp only [ir63,updL,updLo,List.map_nil,List.map_cons,Nat.reduceAdd,]
 simp only [bagAv,Bag.l,List.map_cons,List.map_nil]
 (repeat ((first | refine Va ?_ | refine Vb ?_ | refine Vc ?_ | refine Vd ?_ | refine Ve ?_ | refine Vf ?_); (try simp only [go_sem,hP]); (repeat refine qJ ?_)))
 refine raw_mkG false true rfl ?_
 intro be
 simp only [go_sem,hP]
 refine WV_seq_ (WV_openG 1000 (ka:=true) (va:=true) (l:=gl S) (b:=bm) rfl ?_)
 intro es clock hst hes
 simp only [go_sem]
 (repeat ((first | refine Va ?_ | refine Vb ?_ | refine Vc ?_ | refine Vd ?_ | refine Ve ?_ | refine Vf ?_); (try simp only [go_sem,hP]); (repeat refine qJ ?_)))
 refine raw_rangeE (n:=1000) (b:=bm) (clock:=clock) (es:=es) (k:=113) (e:=115) (x':=.t 10) (by kernel_rfl) rfl rfl rfl rfl rfl ?_
 intro r
 simp only [go_sem,hP]
 (repeat ((first | refine Va ?_ | refine Vb ?_ | refine Vc ?_ | refine Vd ?_ | refine Ve ?_ | refine Vf ?_); (try simp only [go_sem,hP]); (repeat refine qJ ?_)))
 refine WV_loopK [3,5,11] [11,9] (fun i:Array Nat × Seen × Seen => (i.2.2 ++ i.2.1).Perm S ∧ restOf true true es i.1 (gl i.2.1)) (fun i => i.2.1.length) (fun _ => []) (fun i => [(11,iterE r bm clock i.1 clock),(9,gmap false true (gl2 (i.2.2.foldl (endS A) [])) be)]) (#[],S,[]) ⟨by simp,restOf_all hes⟩ ?_ ?_
 ·exact Sub_au
 rintro ⟨seen,R,done⟩ ⟨hp,hr⟩
 simp only at hp hr
 (repeat ((first | refine Va ?_ | refine Vb ?_ | refine Vc ?_ | refine Vd ?_ | refine Ve ?_ | refine Vf ?_); (try simp only [go_sem,hP]); (repeat refine qJ ?_)))
 refine raw_nextR (n:=1000) (m:=11) (b:=bm) (r:=r) (clock:=clock) (es:=es) (ka:=true) (va:=true) (l:=gl S) (rest:=gl R) (x':=.t 11) rfl rfl rfl rfl rfl hst rfl rfl hes hr (fun h0 => ?_) fun e pre k v post hsp hem hek hev hr2 => ?_
 ·have hR:R = []:=List.map_eq_nil_iff.1 h0
  subst hR
  rw [List.append_nil] at hp
  simp only [go_sem,hP]
  (repeat ((first | refine Va ?_ | refine Vb ?_ | refine Vc ?_ | refine Vd ?_ | refine Ve ?_ | refine Vf ?_); (try simp only [go_sem,hP]); (repeat refine qJ ?_)))
  (refine WV_cond rfl (fun h => ?_) (fun h => ?_))
  ·cases h
  ·(repeat ((first | refine Va ?_ | refine Vb ?_ | refine Vc ?_ | refine Vd ?_ | refine Ve ?_ | refine Vf ?_); (try simp only [go_sem,hP]); (repeat refine qJ ?_)))
   refine WV_closeG 1000 true true (gl S) (es:=es) (clock:=clock) rfl hst hes ?_
   refine WV_keep [4] ?_
   simp only [go_sem]
   refine WV_drop 1001 ?_
   refine WV_moveP 9 1001 (by decide) (fun hq => by have h2:false = true:=hpin 1001 hq; cases h2) rfl ?_
   unfold rnO
   simp only [go_sem,rnP_upd,rnE_upd,rnE_e0,rnP_o0,AV.rn,AV.rnL,Ob.rn]
   (refine WV_ret ?_; simp only [thenQ,inQ,RetQL,RetOkL,resAll,resA]; simp only [go_sem,tupA,AV.keepP,AV.keepPL]; refine ⟨_,[gmap true true (gl S) bm,gmap false true (gl2 (List.foldl (endS A) [] done)) be],rfl,KeepL_mk rfl rfl ?_ ?_ rfl,?_⟩)
   ·simp only [go_sem,keepAll,Ob.keepP,AV.keepP,AV.keepPL]
   ·trivial
   ·exact ⟨_,_,rfl,rfl,done,hp,rfl⟩
 ·obtain ⟨B1,en,B2,rfl,rfl,rfl,rfl,rfl⟩:=gl_split hsp
  have hgl:gl B1 ++ gl B2 = gl (B1 ++ B2):=by simp [gl]
  rw [hgl] at hr2
  have hp2:((done ++ [en]) ++ (B1 ++ B2)).Perm S:=by
   refine List.Perm.trans ?_ hp
   rw [List.append_assoc]
   refine List.Perm.append_left done ?_
   exact (List.perm_middle (a:=en) (l₁:=B1) (l₂:=B2)).symm
  have hfo:(done ++ [en]).foldl (endS A) [] = endS A (done.foldl (endS A) []) en:=by rw [List.foldl_append]; rfl
  have hlen:(B1 ++ B2).length < B1.length + (B2.length + 1):=by simp
  generalize done.foldl (endS A) [] = D at *
  obtain ⟨x,act,from_⟩:=en
  simp only at hek hev
  simp only [go_sem,hP,kav,if_true,Pt.l,List.map_cons,List.map_nil]
  (repeat ((first | refine Va ?_ | refine Vb ?_ | refine Vc ?_ | refine Vd ?_ | refine Ve ?_ | refine Vf ?_); (try simp only [go_sem,hP]); (repeat refine qJ ?_)))
  (refine WV_cond rfl (fun h => ?_) (fun h => ?_))
  ·(repeat ((first | refine Va ?_ | refine Vb ?_ | refine Vc ?_ | refine Vd ?_ | refine Ve ?_ | refine Vf ?_); (try simp only [go_sem,hP]); (repeat refine qJ ?_)))
   refine raw_entryE (n:=1000) (m:=11) (b:=bm) (r:=r) (clock:=clock) (since:=clock) (es:=es) (e:=e) (ka:=true) (va:=true) (k:=x.l) (v:=act :: from_.l) (x':=.t 11) rfl rfl rfl rfl rfl hst hem hek hev ?_
   simp only [go_sem,hP,kav,if_true,Pt.l,List.map_cons,List.map_nil]
   (repeat ((first | refine Va ?_ | refine Vb ?_ | refine Vc ?_ | refine Vd ?_ | refine Ve ?_ | refine Vf ?_); (try simp only [go_sem,hP]); (repeat refine qJ ?_)))
   have hzl:∃ y0 y1 y2 y3 y4 y5 y6:Int,(glook (gl2 D) [x.bo]).getD [0,0,0,0,0,0,0] = [y0,y1,y2,y3,y4,y5,y6] ∧ endB D x = (!(glook (gl2 D) [x.bo]).isSome || (decide (x.pl < y0) || (x.pl == y0 && decide (x.cr < y1)))):=by
    rw [glook_gl2]
    unfold endB
    cases dlook D x.bo with
    | none => exact ⟨_,_,_,_,_,_,_,rfl,rfl⟩
    | some o => exact ⟨_,_,_,_,_,_,_,rfl,rfl⟩
   obtain ⟨y0,y1,y2,y3,y4,y5,y6,hz1,hz2⟩:=hzl
   refine raw_lookG (ka:=false) (va:=true) (n:=9) (b:=be) (l:=gl2 D) (key:=[x.bo]) (zs:=[0,0,0,0,0,0,0]) (k:=3) (e:=113) (x':=.t 17) (i':=.t 19) (by kernel_rfl) intLaw (by kernel_rfl) rfl rfl rfl rfl rfl rfl rfl ⟨_,rfl⟩ (gl2_keys D) (gl2_inj D _) ?_
   rw [hz1]
   generalize (glook (gl2 D) [x.bo]).isSome = is at *
   simp only [go_sem,hP,kav,if_true,List.map_cons,List.map_nil]
   (repeat ((first | refine Va ?_ | refine Vb ?_ | refine Vc ?_ | refine Vd ?_ | refine Ve ?_ | refine Vf ?_); (try simp only [go_sem,hP]); (repeat refine qJ ?_)))
   refine raw_eqA (e:=3) (k:=.i64) (x':=.t 24) (y':=.t 25) (by kernel_rfl) (by kernel_rfl) (by kernel_rfl) (by kernel_rfl) (by kernel_rfl) rfl rfl rfl rfl rfl rfl ?_
   have hbe:(x.a == A.a && (x.b == A.b && (x.c == A.c && x.d == A.d))) = decide (x.bag = A):=bag_eqb x.bag A
   rw [hbe]
   have hend:endS A D (x,act,from_) = if (decide (x.bag = A) && endB D x) = true then dput D x.bo x else D:=rfl
   rw [hz2] at hend
   generalize decide (x.bag = A) = eq at hend
   cases eq with
   | false =>
    simp only [Bool.false_and,Bool.false_eq_true,if_false] at hend
    simp only [go_sem,hP]
    (repeat ((first | refine Va ?_ | refine Vb ?_ | refine Vc ?_ | refine Vd ?_ | refine Ve ?_ | refine Vf ?_); (try simp only [go_sem,hP]); (repeat refine qJ ?_)))
    (refine WV_cond rfl (fun h => ?_) (fun h => ?_))
    ·cases h
    ·(repeat ((first | refine Va ?_ | refine Vb ?_ | refine Vc ?_ | refine Vd ?_ | refine Ve ?_ | refine Vf ?_); (try simp only [go_sem,hP]); (repeat refine qJ ?_)))
     refine ⟨(seen.push e.born,B1 ++ B2,done ++ [(x,act,from_)]),⟨hp2,hr2⟩,hlen,?_⟩
     rw [hfo,hend]
     exact Sub_au
   | true =>
    simp only [Bool.true_and] at hend
    cases is with
    | false =>
     simp only [Bool.not_false,Bool.true_or,if_true] at hend
     simp only [go_sem,hP]
     (repeat ((first | refine Va ?_ | refine Vb ?_ | refine Vc ?_ | refine Vd ?_ | refine Ve ?_ | refine Vf ?_); (try simp only [go_sem,hP]); (repeat refine qJ ?_)))
     (refine WV_cond rfl (fun h => ?_) (fun h => ?_))
     ·(repeat ((first | refine Va ?_ | refine Vb ?_ | refine Vc ?_ | refine Vd ?_ | refine Ve ?_ | refine Vf ?_); (try simp only [go_sem,hP]); (repeat refine qJ ?_)))
      refine raw_putG (ka:=false) (va:=true) (n:=9) (b:=be) (l:=gl2 D) (key:=[x.bo]) (val:=x.l) (k:=3) (e:=113) (x':=.t 58) (i':=.t 60) (v':=.t 61) (.inl rfl) (by kernel_rfl) intLaw rfl rfl rfl rfl rfl rfl rfl rfl rfl rfl ⟨_,rfl⟩ (gl2_keys D) (gl2_inj D _) ?_
      rw [gput_gl2]
      simp only [go_sem,hP]
      refine ⟨(seen.push e.born,B1 ++ B2,done ++ [(x,act,from_)]),⟨hp2,hr2⟩,hlen,?_⟩
      rw [hfo,hend]
      exact Sub_au
     ·cases h
    | true =>
     simp only [Bool.not_true,Bool.false_or] at hend
     simp only [go_sem,hP]
     (repeat ((first | refine Va ?_ | refine Vb ?_ | refine Vc ?_ | refine Vd ?_ | refine Ve ?_ | refine Vf ?_); (try simp only [go_sem,hP]); (repeat refine qJ ?_)))
     refine ⟨fun h1 => ⟨h1,fun h2 => ⟨h1,h2⟩⟩,fun h1 => by rw [h1]; rfl,?_⟩
     by_cases hc:(decide (x.pl < y0) || (x.pl == y0 && decide (x.cr < y1))) = true
     ·rw [if_pos hc] at hend
      (refine WV_cond rfl (fun h => ?_) (fun h => ?_))
      ·(repeat ((first | refine Va ?_ | refine Vb ?_ | refine Vc ?_ | refine Vd ?_ | refine Ve ?_ | refine Vf ?_); (try simp only [go_sem,hP]); (repeat refine qJ ?_)))
       refine raw_putG (ka:=false) (va:=true) (n:=9) (b:=be) (l:=gl2 D) (key:=[x.bo]) (val:=x.l) (k:=3) (e:=113) (x':=.t 58) (i':=.t 60) (v':=.t 61) (.inl rfl) (by kernel_rfl) intLaw rfl rfl rfl rfl rfl rfl rfl rfl rfl rfl ⟨_,rfl⟩ (gl2_keys D) (gl2_inj D _) ?_
       rw [gput_gl2]
       simp only [go_sem,hP]
       refine ⟨(seen.push e.born,B1 ++ B2,done ++ [(x,act,from_)]),⟨hp2,hr2⟩,hlen,?_⟩
       rw [hfo,hend]
       exact Sub_au
      ·exfalso; simp at h hc; omega
     ·rw [if_neg hc] at hend
      (refine WV_cond rfl (fun h => ?_) (fun h => ?_))
      ·exfalso; simp at h hc; omega
      ·(repeat ((first | refine Va ?_ | refine Vb ?_ | refine Vc ?_ | refine Vd ?_ | refine Ve ?_ | refine Vf ?_); (try simp only [go_sem,hP]); (repeat refine qJ ?_)))
       refine ⟨(seen.push e.born,B1 ++ B2,done ++ [(x,act,from_)]),⟨hp2,hr2⟩,hlen,?_⟩
       rw [hfo,hend]
       exact Sub_au
  ·cases h
end Go.Proofs.Ytakplakbbidihaa

namespace Go.Proofs.Ytakplakbbidihaa
open Go Go.V
abbrev o65_0:List Ins:=[⟨some 1,.box 1 (.t 0),none,true⟩,
 ⟨some 2,.mv (.k (.c (.raw .nilFunc))),none,true⟩]
abbrev o65_1:List Ins:=[⟨some 3,.mkfn 72 [(.t 1)],none,true⟩,
 ⟨some 2,.mv (.t 3),none,true⟩]
abbrev v65_2:VC:=(.seq (.ops o65_1) .ret)
def ir65:FC:=⟨1,4,[.t 2],(.seq (.ops o65_0) v65_2)⟩
theorem c65:compM Try.prog [] 65 = some ir65:=by kernel_rfl
attribute [local go_sem] Nat.reduceEqDiff Nat.reduceAdd Nat.reduceMul reduceIte Nat.reduceLeDiff Nat.reduceLT Nat.reduceBEq reduceCtorEq
def keysD (D:Ends):List Int:=D.map (·.1)
structure EndsOk (S:Seen) (A:Bag) (D:Ends):Prop where
 nd:(keysD D).Nodup
 src:∀ e ∈ D,e.1 = e.2.bo ∧ e.2.bag = A ∧ e.2 ∈ sks S
theorem dlook_some {D:Ends} {n:Int} {p:Pt} (h:dlook D n = some p):(n,p) ∈ D:=by
 unfold dlook at h
 rw [Option.map_eq_some_iff] at h
 obtain ⟨e,he,rfl⟩:=h
 have h1:=List.find?_some he
 simp only [decide_eq_true_eq] at h1
 subst h1
 exact List.mem_of_find?_eq_some he
theorem dlook_of {D:Ends} {n:Int} (h:n ∈ keysD D):∃ p,dlook D n = some p:=by
 unfold keysD at h
 obtain ⟨e,he,rfl⟩:=List.mem_map.1 h
 cases hd:dlook D e.1 with
 | some p => exact ⟨p,rfl⟩
 | none =>
  unfold dlook at hd
  rw [Option.map_eq_none_iff,List.find?_eq_none] at hd
  have:=hd e he
  simp at this
theorem dput_keys {D:Ends} {n:Int} {p:Pt}:keysD (dput D n p) = if n ∈ keysD D then keysD D else keysD D ++ [n]:=by
 unfold dput
 by_cases h:n ∈ keysD D
 ·obtain ⟨q,hq⟩:=dlook_of h
  rw [if_pos h,hq]
  simp only [Option.isSome_some,if_true,keysD,List.map_map]
  refine List.map_congr_left fun e _ => ?_
  simp only [Function.comp_apply]
  split
  ·rename_i h2; exact h2.symm
  ·rfl
 ·have:dlook D n = none:=by
   cases hd:dlook D n with
   | none => rfl
   | some q => exact absurd (List.mem_map.2 ⟨_,dlook_some hd,rfl⟩) h
  rw [if_neg h,this]
  simp [keysD]
theorem EndsOk.nil {S:Seen} {A:Bag}:EndsOk S A []:=⟨List.nodup_nil,fun e h => by cases h⟩
theorem EndsOk.put {S:Seen} {A:Bag} {D:Ends} (h:EndsOk S A D) {x:Pt} (hx:x.bag = A) (hs:x ∈ sks S):EndsOk S A (dput D x.bo x):=by
 refine ⟨?_,fun e he => ?_⟩
 ·rw [dput_keys]
  split
  ·exact h.nd
  ·rename_i h2
   rw [List.nodup_append]
   exact ⟨h.nd,by simp,fun a ha b hb => by simp only [List.mem_singleton] at hb; subst hb; intro hab; subst hab; exact h2 ha⟩
 ·unfold dput at he
  split at he
  ·obtain ⟨e',he',rfl⟩:=List.mem_map.1 he
   split
   ·exact ⟨rfl,hx,hs⟩
   ·exact h.src e' he'
  ·rcases List.mem_append.1 he with h1 | h1
   ·exact h.src e h1
   ·simp only [List.mem_singleton] at h1; subst h1; exact ⟨rfl,hx,hs⟩
theorem EndsOf.ok {S:Seen} {A:Bag} {D:Ends} (h:EndsOf S A D):EndsOk S A D:=by
 obtain ⟨ord,hp,rfl⟩:=h
 have key:∀ (l:Seen) (D:Ends),(∀ e ∈ l,e ∈ S) → EndsOk S A D → EndsOk S A (l.foldl (endS A) D):=by
  intro l
  induction l with
  | nil => intro D _ h; exact h
  | cons e l ih =>
   intro D hl h
   rw [List.foldl_cons]
   refine ih _ (fun y hy => hl y (by simp [hy])) ?_
   unfold endS
   split
   ·rename_i hc
    simp only [Bool.and_eq_true,decide_eq_true_eq] at hc
    exact h.put hc.1 (List.mem_map.2 ⟨e,hl e (by simp),rfl⟩)
   ·exact h
 exact key ord [] (fun e he => hp.subset he) .nil
theorem EndsOk.len {S:Seen} {A:Bag} {D:Ends} (h:EndsOk S A D) (hb:∀ e ∈ S,0 ≤ e.1.bo ∧ e.1.bo ≤ 2000):D.length ≤ 2001 ∧ ∀ e ∈ D,0 ≤ e.1 ∧ e.1 ≤ 2000:=by
 have hr:∀ e ∈ D,0 ≤ e.1 ∧ e.1 ≤ 2000:=fun e he => by
  obtain ⟨h1,_,h3⟩:=h.src e he
  obtain ⟨y,hy,hye⟩:=List.mem_map.1 h3
  have:=hb y hy
  rw [h1,← hye]; exact this
 refine ⟨?_,hr⟩
 have:=nodup_lt 2001 ((keysD D).map Int.toNat) ?_ ?_
 ·simpa [keysD] using this
 ·rw [List.nodup_iff_pairwise_ne,List.pairwise_map]
  refine (List.nodup_iff_pairwise_ne.1 h.nd).imp_of_mem fun {a b} ha hb' hne e => hne ?_
  obtain ⟨x,hx,rfl⟩:=List.mem_map.1 ha
  obtain ⟨y,hy,rfl⟩:=List.mem_map.1 hb'
  have:=hr x hx; have:=hr y hy
  omega
 ·intro x hx
  obtain ⟨y,hy,rfl⟩:=List.mem_map.1 hx
  obtain ⟨z,hz,rfl⟩:=List.mem_map.1 hy
  have:=hr z hz
  omega
theorem keys65 (be:Nat):FSpecN Try.prog 65 [.c (.raw (.map (some be)))] (fun r os => r = .fn 72 [.bp 1000 0] ∧ os = [.box [.c (.raw (.map (some be)))]]):=by
 refine FSpecN_of c65 (Nat.le_refl _) (by decide) fun C hP hN hC hL => ?_; rw [init_st]
 simp only [ir65]
 (repeat ((first | refine Va ?_ | refine Vb ?_ | refine Vc ?_ | refine Vd ?_ | refine Ve ?_ | refine Vf ?_); (try simp only [go_sem,hP]); (repeat refine qJ ?_)))
 refine WV_keep [1,2] ?_
 simp only [go_sem]
 (refine WV_ret ?_; simp only [thenQ,inQ,RetQN,RetOkN,resAll,resA]; simp only [go_sem,tupA])
 exact ⟨[1],_,_,_,by simp,by simp,rfl,AVle.refl _,rfl,rfl,rfl⟩
end Go.Proofs.Ytakplakbbidihaa

namespace Go.Proofs.Ytakplakbbidihaa
open Go Go.V Go.RowKit Go.Maps Go.Sort Go.Shelf Go.WideElems
abbrev o64_0:List Ins:=[⟨some 2,.mv (.k (.c (.raw (.slice none 0 0)))),none,true⟩]
abbrev o64_1:List Ins:=[⟨some 4,.mv (.t 0),none,true⟩,
 ⟨some 5,.call (.k (.fn 70 [])) [(.t 4)],none,true⟩,
 ⟨some 3,.mv (.t 5),none,true⟩]
abbrev o64_2:List Ins:=[⟨some 6,.mv (.t 3),none,true⟩,
 ⟨some 7,.call (.k (.fn 71 [])) [(.t 6)],none,true⟩]
abbrev o64_3:List Ins:=[⟨some 8,.mv (.t 3),none,true⟩,
 ⟨some 2,.mv (.t 8),none,true⟩]
abbrev v64_4:VC:=(.seq (.ops o64_3) .ret)
abbrev v64_5:VC:=(.seq (.ops o64_2) v64_4)
abbrev v64_6:VC:=(.seq (.ops o64_1) v64_5)
def ir64:FC:=⟨1,9,[.t 2],(.seq (.ops o64_0) v64_6)⟩
theorem c64:compM Try.prog [] 64 = some ir64:=by kernel_rfl
def renK:Ren:=⟨fun | 7 => 65 | 10 => 72 | n => n,fun | 23 => 104 | 26 => 3 | 3 => 113 | 28 => 108 | 27 => 107 | 33 => 74 | n => n,fun x => x⟩
def renS:Ren:=⟨fun | 6 => 64 | 8 => 70 | 9 => 71 | 11 => 79 | 13 => 81 | 12 => 80 | 23 => 94 | 24 => 95 | 14 => 85 | 15 => 86 | 16 => 87 | 17 => 88 | 18 => 89 | 19 => 90 | 20 => 91 | 21 => 92 | 22 => 93 | 25 => 96 | 26 => 97 | 27 => 98 | 28 => 99 | 29 => 100 | 30 => 101 | 31 => 102 | n => n,
 fun | 26 => 3 | 28 => 108 | 24 => 31 | 3 => 3 | 37 => 132 | 48 => 144 | 50 => 146 | 40 => 137 | 39 => 136 | 45 => 141 | 51 => 147 | 55 => 151 | 57 => 153 | 58 => 133 | 33 => 74 | n => n,fun x => x⟩
def renT:Ren:=⟨fun | 5 => 71 | 8 => 81 | 7 => 80 | 19 => 94 | 20 => 95 | 10 => 85 | 11 => 86 | 12 => 87 | 13 => 88 | 14 => 89 | 15 => 90 | 16 => 91 | 17 => 92 | 18 => 93 | 30 => 96 | 31 => 97 | 32 => 98 | 33 => 99 | 34 => 100 | 35 => 101 | 40 => 102 | n => n,
 fun | 23 => 31 | 25 => 3 | 32 => 132 | 22 => 31 | 44 => 144 | 46 => 146 | 36 => 137 | 35 => 136 | 41 => 141 | 53 => 147 | 57 => 151 | 63 => 153 | 64 => 133 | n => n,fun x => x⟩
theorem bears_of {P:Program} {f:Nat} {B:Func} (h:(P.funcs[f]?).map (fun g => { g with name := "" }) = some { B with name := "" }) (hn:(P.funcs[f]?).map (fun g => g.name == "runtime.NumGoroutine") = some false):Bears P f B:=by
 cases hg:P.funcs[f]? with
 | none => rw [hg] at h; cases h
 | some g =>
  rw [hg,Option.map_some,Option.some.injEq] at h hn
  refine ⟨g.name,hn,?_⟩
  rw [hg]
  have h2:=congrArg (fun x:Func => { x with name:=g.name }) h
  exact congrArg some h2
theorem layK:SlLaysZI.n7 Try.prog renK:=by
 constructor <;> first | exact bears_of (by kernel_rfl) (by kernel_rfl) | kernel_rfl | (intro w; kernel_rfl)
theorem layS:SlLaysZI.n6 Try.prog renS:=by
 constructor <;> first | exact bears_of (by kernel_rfl) (by kernel_rfl) | kernel_rfl | (intro w; kernel_rfl)
theorem layT:SlLaysM.n5 Try.prog renT:=by
 constructor <;> first | exact bears_of (by kernel_rfl) (by kernel_rfl) | kernel_rfl | (intro w; kernel_rfl)
theorem sortsS (m:Nat):AnyZI.SortsIn Try.prog renS Fence.wide m :=
 ⟨fun blk off cap ss W hH hblk hsz => callsIn_wide.2 (AnyM.slices_Sort_int layT blk off cap ss W hH hblk hsz),fun p cap W => callsIn_wide.2 (AnyM.slices_Sort_int_none layT p cap W)⟩
def srt (l:List Int):List Int:=l.mergeSort fun x y => decide (x ≤ y)
theorem srt_mem {l:List Int} {n:Int}:n ∈ srt l ↔ n ∈ l:=by unfold srt; rw [List.mem_mergeSort]
theorem srt_perm {l l':List Int} (h:l.Perm l'):srt l = srt l':=mergeSort_of_perm_i h
def rAny (_:Value):Option (DataW Unit × List MemPlace):=some (.nil,[])
theorem flat_ints:∀ l:List Int,(l.map fun n => [CD.int .i64 n]).flatten.map AV.c = l.map fun n => AV.c (.int .i64 n)
 | [] => rfl
 | x :: l => by simp only [List.map_cons,List.flatten_cons,List.map_append,flat_ints l]; rfl
theorem ints_rep {w:World} {M:Cells} {loc:Nat → Value} {l:List Int} {v:Value} {B:Nat} {e:TypeId} (h:w.ownsRow B e 1 v l.length (l.map encZ)) (hM:∀ b o,M b o → b < B):RepA w M loc (.c (ints l)) v:=by
 obtain ⟨_,h | ⟨g,cap,cur,rfl,hB,hb,h1,h2,h3,h4⟩⟩:=h
 ·obtain ⟨rfl,h0⟩:=h
  have:l = []:=List.eq_nil_of_length_eq_zero h0
  subst this
  simp only [RepA,RepC,ints]
  exact ⟨none,0,rfl,Nat.le_refl _,Nat.zero_le _,.inl rfl⟩
 ·simp only [RepA,RepC,ints,List.length_map]
  refine ⟨_,cap,rfl,h1,h2,.inr ⟨_,rfl,?_⟩⟩
  refine repE_of _ (l.map encZ) 0 (fun e he => ?_) ?_ (fun j u hj => ?_) (fun j hj hm => ?_)
  ·obtain ⟨n,_,rfl⟩:=List.mem_map.1 he; rfl
  ·have:=(reps_ints (w:=w) (M:=M) (loc:=fun _ => undef) l (l.map encZ)).2 rfl
   rw [flat_ints l]
   exact this
  ·rw [cell_of_row w g _ cur e (0,0) hb,Nat.zero_add,← Array.getElem?_toList]
   rw [← h4,List.getElem?_take] at hj
   split at hj
   ·exact hj
   ·cases hj
  ·have:=hM _ _ hm; omega
theorem fit_ends {D:Ends} {es:Array MapEntry} {clock:Nat} (hst:MapKept.Stamped es clock) (hes:es.toList.map (fun e => (e.key,e.val)) = gvals false true (gl2 D)) (hl:D.length ≤ 2001) (hr:∀ e ∈ D,0 ≤ e.1 ∧ e.1 ≤ 2000) :
  Fit Try.prog 3 rAny es clock ∧ (es.toList.map (rg Try.prog 3 rAny)).map (fun p => Go.intOf p.1) = keysD D:=by
 have hk:∀ n:Int,0 ≤ n ∧ n ≤ 2000 → keyOf Try.prog 3 (.int .i64 n) = some (.int .i64 n):=fun n hn => by
  have hu:Try.prog.underlying 3 = some (.int .i64):=by kernel_rfl
  have hw:(Lit.int .i64 n).wf = true:=WalkArith.wf_i64 ⟨by omega,by omega⟩
  simp [keyOf,hu,mapKey,hw]
 have hlen:es.size = D.length:=by
  have:=congrArg List.length hes
  simpa [gvals,gl2] using this
 have hkey:es.toList.map (fun e => e.key) = D.map fun e => Value.int .i64 e.1:=by
  have:=congrArg (List.map Prod.fst) hes
  simpa [gvals,gl2,kval,Function.comp_def] using this
 refine ⟨⟨by rw [hlen]; simp only [maxLen]; omega,hst,fun x hx => ?_⟩,?_⟩
 ·have:x.key ∈ es.toList.map fun e => e.key:=List.mem_map.2 ⟨x,hx,rfl⟩
  rw [hkey] at this
  obtain ⟨e,he,hxe⟩:=List.mem_map.1 this
  unfold WideElems.rd
  rw [← hxe,hk _ (hr e he)]
  exact ⟨_,rfl⟩
 ·have h2:∀ (l:List MapEntry) (D:Ends),(∀ e ∈ D,0 ≤ e.1 ∧ e.1 ≤ 2000) → l.map (fun e => e.key) = D.map (fun e => Value.int .i64 e.1) → (l.map (rg Try.prog 3 rAny)).map (fun p => Go.intOf p.1) = keysD D:=by
   intro l
   induction l with
   | nil => intro D _ h; cases D with
    | nil => rfl
    | cons => cases h
   | cons x l ih =>
    intro D hD h
    cases D with
    | nil => cases h
    | cons e D =>
     simp only [List.map_cons,List.cons.injEq] at h
     have:=ih D (fun y hy => hD y (by simp [hy])) h.2
     simp only [List.map_cons,keysD,List.cons.injEq]
     refine ⟨?_,this⟩
     unfold rg WideElems.rd
     rw [h.1,hk _ (hD e (by simp))]
     rfl
  exact h2 _ _ hr hkey
set_option maxHeartbeats 1000000 in
theorem sorted64 {D:Ends} (hl:D.length ≤ 2001) (hr:∀ e ∈ D,0 ≤ e.1 ∧ e.1 ≤ 2000) (be:Nat):FSpecL Try.prog 64 [.fn 72 [.bp 1000 0]] [.box [.c (.raw (.map (some be)))],gmap false true (gl2 D) be] [] (fun r l' => r = .c (ints (srt (keysD D))) ∧ l' = [.box [.c (.raw (.map (some be)))],gmap false true (gl2 D) be]):=by
 refine FSpecL_keep (body_call c64).1 (Nat.le_of_ble_eq_true rfl) fun w M loc vs hLO hrep => ?_
 have h0:ObOk Try.prog (fun _ => True) w (AddM M _ loc) loc (loc 1000) (.box [.c (.raw (.map (some be)))]):=hLO.objs 1000
 have h1:ObOk Try.prog (fun _ => True) w (AddM M _ loc) loc (loc 1001) (gmap false true (gl2 D) be):=hLO.objs 1001
 obtain ⟨b,l,e,hb1,_,hb2,hb3⟩:=h0
 obtain ⟨_,L,_,⟨_,_,es,clock,hm,hst,hes⟩,_⟩:=h1
 simp only [RepAs,RepA,RepC] at hb3 hrep
 obtain ⟨x,xs,hl1,⟨hx,_⟩,hxs⟩:=hb3
 subst hxs; subst hx; subst hl1
 obtain ⟨fv,_,rfl,⟨caps,rfl,y,ys,rfl,⟨b',hb',rfl⟩,rfl⟩,rfl⟩:=hrep
 obtain rfl:b' = b:=by rw [hb1] at hb'; simpa using hb'.symm
 obtain ⟨F,hkeys⟩:=fit_ends hst hes hl hr
 obtain ⟨D0,hD0⟩ : ∃ D0,D0 = (DataW.map ((es.toList.map (rg Try.prog 3 rAny)).foldr DataW.insert []):DataW Unit):=⟨_,rfl⟩
 have hown:w.ownsMap Try.prog 3 rAny be es.size D0:=⟨es,clock,hm,F,Nat.le_refl _,hD0⟩
 have hsize:Maps.size D0 ≤ 2001:=by
  rw [hD0,Maps.size_eq,length_sorted,List.length_map]
  have:=congrArg List.length hes
  simp [gvals,gl2] at this
  simp; omega
 have hperm:(intKeys D0).Perm (keysD D):=by
  rw [← hkeys,hD0]
  exact (WideShapes.sorted_perm _).map _
 have hcell:w.cell? ⟨b',0,none⟩ = some (.map (some be)):=by rw [cell_of_row w b' _ _ _ _ hb2.1]; rfl
 have hlt:b' < w.heap.size:=cell_lt (p:=⟨b',0,none⟩) (by rw [hcell]; rfl)
 have hseq:SeqGives Fence.wide 2 Try.prog 72 #[.pointer (some ⟨b',0,none⟩)] encZ (fun ss => ss.Perm (intKeys D0)) (Maps.size D0) w :=
  AnyZI.keys_gives (ρ:=renK) { layK with } Fence.wide _ trivial rfl (by omega) b' be es.size D0 w hlt hcell hown
 have cS:=AnyZI.sorted_in layS Fence.wide 5 trivial trivial trivial trivial rfl (by omega) (sortsS _) (show Enters Try.prog 71 from layT.f5.enters rfl) 72 #[.pointer (some ⟨b',0,none⟩)] trivial (show Enters Try.prog 72 from layK.f10.enters rfl) _ _ (by simp only [maxLen]; omega) (by omega) _ hseq
 have cT:Calls Try.prog 64 _ _ _:=(callsIn_wide (n:=5)).1 cS
 refine cT.mono ?_
 rintro e w' ⟨v,ss,rfl,hS,hrow,_,hb⟩
 refine ⟨v,_,rfl,rfl,hb,fun M' hM' => ?_⟩
 have h5:srt ss = srt (keysD D):=srt_perm (hS.trans hperm)
 rw [← h5]
 have h6:(srt ss).length = ss.length:=List.length_mergeSort _
 rw [← h6] at hrow
 exact ints_rep hrow hM'
end Go.Proofs.Ytakplakbbidihaa

namespace Go.Proofs.Ytakplakbbidihaa
open Go Go.V Go.RowKit Go.Maps Go.Sort Go.Shelf
abbrev o66_0:List Ins:=[⟨some 4,.mv (.t 0),none,true⟩,
 ⟨some 5,.len (.t 4),none,true⟩,
 ⟨some 6,.bin .sub (.t 5) (.k (.c (.int .i64 1))),none,true⟩,
 ⟨some 2,.mv (.k (.c (.int .i64 0))),none,true⟩,
 ⟨some 3,.mv (.t 6),none,true⟩]
abbrev o66_1:List Ins:=[⟨some 7,.mv (.t 2),none,true⟩,
 ⟨some 8,.mv (.t 3),none,true⟩,
 ⟨some 9,.bin .lss (.t 7) (.t 8),none,true⟩]
abbrev v66_2:VC:=(.cond (.t 9) .skip (.exit 0))
abbrev o66_3:List Ins:=[⟨some 14,.mv (.t 0),none,false⟩,
 ⟨some 15,.mv (.t 2),none,false⟩,
 ⟨some 16,.mv (.t 0),none,false⟩,
 ⟨some 17,.mv (.t 3),none,false⟩,
 ⟨some 18,.mv (.t 0),none,false⟩,
 ⟨some 19,.mv (.t 3),none,false⟩,
 ⟨some 20,.ia 1 (.t 18) (.t 19),none,false⟩,
 ⟨some 21,.ld true 1 (.t 20),none,false⟩,
 ⟨some 22,.mv (.t 0),none,false⟩,
 ⟨some 23,.mv (.t 2),none,false⟩,
 ⟨some 24,.ia 1 (.t 22) (.t 23),none,false⟩,
 ⟨some 25,.ld true 1 (.t 24),none,false⟩,
 ⟨some 26,.ia 1 (.t 14) (.t 15),none,false⟩,
 ⟨none,.st 1 (.t 26) (.t 21),none,false⟩,
 ⟨some 27,.ia 1 (.t 16) (.t 17),none,true⟩,
 ⟨none,.st 1 (.t 27) (.t 25),none,true⟩]
abbrev o66_4:List Ins:=[⟨some 10,.mv (.t 2),none,true⟩,
 ⟨some 11,.bin .add (.t 10) (.k (.c (.int .i64 1))),none,true⟩,
 ⟨some 12,.mv (.t 3),none,true⟩,
 ⟨some 13,.bin .sub (.t 12) (.k (.c (.int .i64 1))),none,true⟩,
 ⟨some 2,.mv (.t 11),none,true⟩,
 ⟨some 3,.mv (.t 13),none,true⟩]
abbrev v66_5:VC:=(.seq (.block 1 (.dops o66_3)) (.ops o66_4))
abbrev v66_6:VC:=(.seq (.seq (.ops o66_1) v66_2) v66_5)
-- K66_1: changed and kept: [2,3]
abbrev v66_7:VC:=(.loop v66_6)
abbrev v66_8:VC:=(.block 0 v66_7)
def ir66:FC:=⟨1,28,[],(.seq (.ops o66_0) v66_8)⟩
theorem c66:compM Try.prog [] 66 = some ir66:=by kernel_rfl
def renR:Ren:=⟨fun | 112 => 66 | n => n,fun | 28 => 31 | n => n,fun x => x⟩
theorem layR:Lays.n112 Try.prog renR:=by
 constructor <;> first | kernel_rfl | (intro w; kernel_rfl)
def cI (zs:List Int) (j:Nat):List AV:=(zs.map fun n => AV.c (.int .i64 n)) ++ List.replicate j .non
theorem cI_len (zs:List Int) (j:Nat):(cI zs j).length = zs.length + j:=by simp [cI]
theorem nons_rep {w:World} {M:Cells} {loc:Nat → Value}:∀ {j:Nat} {l:List Value},RepAs w M loc (List.replicate j .non) l ↔ l.length = j
 | 0,l => by simp [RepAs]
 | j + 1,l => by
  simp only [List.replicate_succ,RepAs,RepA]
  constructor
  ·rintro ⟨v,vs,rfl,_,h⟩
   rw [List.length_cons,nons_rep.1 h]
  ·intro h
   cases l with
   | nil => cases h
   | cons v vs => exact ⟨v,vs,rfl,trivial,nons_rep.2 (by simpa using h)⟩
theorem cI_rep {w:World} {M:Cells} {loc:Nat → Value} {zs:List Int} {j:Nat} {l:List Value}:RepAs w M loc (cI zs j) l ↔ ∃ rest,l = zs.map encZ ++ rest ∧ rest.length = j:=by
 constructor
 ·intro h
  obtain ⟨l1,l2,rfl,h1,h2⟩:=RepAs.split h
  rw [reps_ints] at h1
  exact ⟨l2,by rw [h1],nons_rep.1 h2⟩
 ·rintro ⟨rest,rfl,h⟩
  exact RepAs.append ((reps_ints _ _).2 rfl) (nons_rep.2 h)
theorem put_cells {zs ts:List Int} (h:ts.length = zs.length) (rest:List Value):(putCells encZ 0 ts.toArray (zs.map encZ ++ rest).toArray).toList = ts.map encZ ++ rest:=by
 apply List.ext_getElem?
 intro j
 by_cases hj:j < ts.length
 ·rw [List.getElem?_append_left (by simpa using hj),Array.getElem?_toList]
  have hj2:j < (zs.map encZ ++ rest).length:=by simp; omega
  simp only [putCells,Array.getElem?_mapIdx,List.getElem?_toArray,List.size_toArray,Nat.zero_le,true_and,Nat.zero_add,hj,if_true,List.getElem?_eq_getElem hj2,Option.map_some]
  simp [hj]
 ·rw [List.getElem?_append_right (by simpa using hj),Array.getElem?_toList]
  simp only [putCells,Array.getElem?_mapIdx,List.getElem?_toArray,List.size_toArray,Nat.zero_le,true_and,Nat.zero_add,hj,if_false,List.length_map]
  rw [List.getElem?_append_right (by simp; omega),List.length_map,h]
  cases rest[j - zs.length]? <;> rfl
theorem reverse66 (zs:List Int) (j cap:Nat):FSpecL Try.prog 66 [.vw 1 1000 0 zs.length cap] [.box (cI zs j)] [] (fun r l' => r = .tup [] ∧ l' = [.box (cI zs.reverse j)]):=by
 refine ⟨(body_call c66).1,Nat.le_of_ble_eq_true rfl,fun w M loc vs hM hLO hrep => ?_⟩
 have h0:ObOk Try.prog (fun _ => True) w (AddM M _ loc) loc (loc 1000) (.box (cI zs j)):=hLO.objs 1000
 obtain ⟨b,l,e,hb1,_,hb2,hb3⟩:=h0
 obtain ⟨rest,rfl,hj⟩:=cI_rep.1 hb3
 simp only [RepAs,RepA] at hrep
 obtain ⟨v,_,rfl,⟨b',o,hb1',rfl,ho,hle,hcm⟩,rfl⟩:=hrep
 obtain rfl:b' = b:=by rw [hb1] at hb1'; simpa using hb1'.symm
 by_cases hz:zs = []
 ·subst hz
  refine (Any.slices_Reverse_int_empty layR (some ⟨b',o,none⟩) cap w).mono ?_
  rintro e' w' ⟨rfl,rfl⟩
  exact ⟨_,.tup [],_,loc,rfl,⟨rfl,rfl⟩,rfl,⟨rfl,rfl,rfl,Nat.le_refl _,fun _ _ _ => rfl⟩,Keeps.refl _ _,hLO,fun n b h => .inl ⟨n,h⟩,fun n h => ⟨h,rfl⟩,by simp only [RepA]; exact ⟨[],rfl,by simp [RepAs]⟩⟩
 have hlen:0 < zs.length:=List.length_pos_iff.2 hz
 obtain rfl:o = 0:=ho (by omega)
 have hlt:=hb2.lt
 have hH:Holds encZ w b' 0 zs.toArray:=fun k hk => by
  have hk':k < zs.length:=by simpa using hk
  refine ⟨?_,?_⟩
  ·rw [cell_of_row w b' _ _ _ _ hb2.1]
   simp [hk',List.getElem?_append_left]
  ·rw [Nat.zero_add]; exact hb2.free (by simp; omega)
 refine (Any.slices_Reverse_int layR b' 0 cap zs w hH (by have:maxLen = 9223372036854775807:=rfl; omega)).mono ?_
 rintro e' w' ⟨rfl,n,hw'⟩
 obtain ⟨os,hos⟩ : ∃ os:Array Obj,os = #[]:=⟨_,rfl⟩
 have hgw:w' = grow (putRow encZ (Sort.ahead w n) b' 0 zs.reverse.toArray) os:=by rw [hw',hos]; unfold grow; rw [Array.append_empty]
 have hgb:=grownBy_sortedI (w:=w) (g:=b') (n:=n) (os:=os) zs.reverse.toArray
 have hhp:=heap_sortedI (n:=n) (os:=os) zs.reverse.toArray hb2.1
 rw [← hgw] at hgb hhp
 have hput:=put_cells (zs:=zs) (ts:=zs.reverse) (by simp) rest
 have hat:AtC w' b' (zs.reverse.map encZ ++ rest) e:=⟨by rw [hhp,← hput],by have:=hb2.2; simpa using this⟩
 have hblk:∀ k,k < w.heap.size → k ≠ b' → w'.heap[k]? = w.heap[k]?:=fun k hk hne => hgb.block k hk (fun h => hne (Option.some.inj h))
 have hmut:∀ o,AddM M (ownW [.box (cI zs j)] []) loc b' o:=fun o => .inr ⟨1000,by show (Ob.box _).mut (loc 1000) b' o; rw [hb1]; rfl⟩
 have hown:∀ n,n ≠ 1000 → ownW [.box (cI zs.reverse j)] [] n = ownW [.box (cI zs j)] [] n:=by
  intro n hn
  simp only [ownW,ownL]
  split
  ·rfl
  ·split
   ·rw [show n - 1000 = (n - 1001) + 1 by omega]; rfl
   ·rfl
 have hhas:∀ n b,(ownW [.box (cI zs.reverse j)] [] n).has (loc n) b ↔ (ownW [.box (cI zs j)] [] n).has (loc n) b:=by
  intro n b
  by_cases hn:n = 1000
  ·subst hn
   show (Ob.box _).has (loc 1000) b ↔ (Ob.box _).has (loc 1000) b
   rw [hb1]; exact Iff.rfl
  ·rw [hown n hn]
 have hmm:∀ b o,AddM M (ownW [.box (cI zs.reverse j)] []) loc b o → AddM M (ownW [.box (cI zs j)] []) loc b o:=by
  rintro b o (h | ⟨n,h⟩)
  ·exact .inl h
  ·refine .inr ⟨n,?_⟩
   by_cases hn:n = 1000
   ·subst hn
    have h':(Ob.box (cI zs.reverse j)).mut (loc 1000) b o:=h
    show (Ob.box _).mut (loc 1000) b o
    rw [hb1] at h' ⊢; exact h'
   ·rwa [hown n hn] at h
 have hk:Keeps w w' (AddM M (ownW [.box (cI zs j)] []) loc) (AddM M (ownW [.box (cI zs.reverse j)] []) loc) :=
  ⟨fun p hp hm => World.cell?_of_block (hblk _ (cell_lt hp) fun hpb => hm (hpb ▸ hmut p.off)),fun p hp hm h => hm (hmm _ _ h)⟩
 have hno:∀ n b,n ≠ 1000 → (ownW [.box (cI zs j)] [] n).has (loc n) b → b ≠ b':=fun n b hn h hb => by
  subst hb
  exact hLO.disj n 1000 b hn h (by show (Ob.box _).has (loc 1000) b; rw [hb1]; rfl)
 refine ⟨_,.tup [],_,loc,rfl,⟨rfl,rfl⟩,rfl,⟨hgb.os,hgb.tape,hgb.output,hgb.size,fun k hk hf => hblk k hk fun hkb => hf ⟨1000,by show (Ob.box _).has (loc 1000) k; rw [hb1]; exact hkb.symm⟩⟩,hk,⟨fun n => ?_,fun n m b hnm h1 h2 => hLO.disj n m b hnm ((hhas n b).1 h1) ((hhas m b).1 h2)⟩,fun n b h => ?_,fun n h => ?_,by simp only [RepA]; exact ⟨[],rfl,by simp [RepAs]⟩⟩
 ·by_cases hn:n = 1000
  ·subst hn
   exact ⟨b',_,e,hb1,trivial,hat,cI_rep.2 ⟨rest,rfl,hj⟩⟩
  ·rw [hown n hn]
   exact ObOk.keep' hk hgb.size (fun b hb => hblk b ((hLO.objs n).lt hb) (hno n b hn hb)) (hLO.objs n)
 ·have h2:(ownW [.box (cI zs j)] [] n).has (loc n) b:=(hhas n b).1 (by
   simp only [ownW]
   split
   ·rename_i h3
    simp only [ownL] at h
    rw [if_pos (by omega),show n - 1000 = (n - 1001) + 1 by omega] at h
    exact h.elim
   ·exact h)
  refine .inl ⟨n,?_⟩
  simp only [ownW] at h2
  split at h2
  ·exact h2.elim
  ·exact h2
 ·by_cases hn:n = 1000
  ·subst hn; exact ⟨rfl,rfl⟩
  ·rw [hown n hn]; exact ⟨h,rfl⟩
end Go.Proofs.Ytakplakbbidihaa

/-
 What led to a point: plain.
-/
namespace Go.Proofs.Ytakplakbbidihaa
open Go Go.V
def Bk (S:Seen):Prop:=∀ pre e post,S = pre ++ e :: post → e.2.1 = -2 ∨ e.2.2 ∈ sks pre
theorem Bk.snoc {S:Seen} (h:Bk S) {p x:Pt} {act:Int} (hx:x ∈ sks S):Bk (S ++ [(p,act,x)]):=by
 intro pre e post he
 rcases List.eq_nil_or_concat post with rfl | ⟨post',y,rfl⟩
 ·obtain ⟨rfl,h2⟩:=List.append_inj' he rfl
  simp only [List.cons.injEq,and_true] at h2
  subst h2
  exact .inr hx
 ·rw [List.concat_eq_append,← List.cons_append,← List.append_assoc] at he
  exact h pre e post' (List.append_inj' he rfl).1
theorem addS_sub {A:Bag} {act:Int} {x y z:Pt} {s:Seen × List Pt} (h:z ∈ sks s.1):z ∈ sks (addS A act x s y).1:=by
 unfold addS; split
 ·exact h
 ·simp only [sks,List.map_append,List.mem_append]; exact .inl h
theorem addAll_bk {A:Bag} {x:Pt}:∀ {l:List (Int × Pt)} {s:Seen × List Pt},Bk s.1 → x ∈ sks s.1 → Bk (addAll A x l s).1 ∧ x ∈ sks (addAll A x l s).1
 | [],s,h,hx => ⟨h,hx⟩
 | e :: l,s,h,hx => by
  have h1:Bk (addS A e.1 x s e.2).1:=by
   unfold addS; split
   ·exact h
   ·exact h.snoc hx
  exact addAll_bk (l:=l) h1 (addS_sub hx)
theorem expand_bk {w:Wh} {A:Bag} {x:Pt} {s:Seen × List Pt} (h:Bk s.1) (hx:x ∈ sks s.1):Bk (expand w A x s).1:=by
 have h1:=addAll_bk (A:=A) (x:=x) (l:=selN x) h hx
 exact (addAll_bk h1.1 h1.2).1
theorem bfs_bk {w:Wh} (hw:WhOk w) {A:Bag} (hA:BagOk A):∀ (n:Nat) (s:Seen × List Pt),SeenOk w.ro A s → Bk s.1 → Bk (bfs w A n s) ∧ (∀ e ∈ bfs w A n s,PtIn w.ro A e.1)
 | 0,s,h,hb => ⟨hb,h.inn⟩
 | n + 1,(S,[]),h,hb => ⟨hb,h.inn⟩
 | n + 1,(S,x :: q),h,hb => bfs_bk hw hA n _ (expand_ok hw hA h).1 (expand_bk (s:=(S,q)) hb (h.sub x (by simp)))
theorem bfs_len {w:Wh} (hw:WhOk w) {A:Bag} (hA:BagOk A):∀ (n:Nat) (s:Seen × List Pt),SeenOk w.ro A s → (bfs w A n s).length ≤ 238291875000
 | 0,s,h => (h.len hA hw.ro.2).1
 | n + 1,(S,[]),h => (h.len hA hw.ro.2).1
 | n + 1,(S,x :: q),h => bfs_len hw hA n _ (expand_ok hw hA h).1
theorem walk_bk {w:Wh} (hw:WhOk w) {A:Bag} (hA:BagOk A):Bk (walkS w A) ∧ (∀ e ∈ walkS w A,PtIn w.ro A e.1) ∧ (walkS w A).length ≤ 238291875000:=by
 have h0:Bk [(p00,(-2:Int),p00)]:=by
  intro pre e post he
  cases pre with
  | nil => simp only [List.nil_append,List.cons.injEq] at he; rw [← he.1]; exact .inl rfl
  | cons y pre => simp at he
 have h1:=bfs_bk hw hA 476583750002 _ (start_ok hw hA) h0
 exact ⟨h1.1,h1.2,bfs_len hw hA _ _ (start_ok hw hA)⟩
theorem look_pre {S pre post:Seen} {e:Pt × Int × Pt} (hS:S = pre ++ e :: post) {p:Pt} (hp:p ∈ sks pre):∃ pre' e' post',S = pre' ++ e' :: post' ∧ pre'.length < pre.length ∧ glook (gl S) p.l = some (e'.2.1 :: e'.2.2.l):=by
 obtain ⟨y,hy,hyp⟩:=List.mem_map.1 hp
 cases hf:pre.find? (fun e => e.1 = p) with
 | none =>
  rw [List.find?_eq_none] at hf
  have:=hf y hy
  simp [hyp] at this
 | some e' =>
  obtain ⟨h1,A,B,rfl,h2⟩:=List.find?_eq_some_iff_append.1 hf
  refine ⟨A,e',B ++ e :: post,by rw [hS]; simp,by simp,?_⟩
  rw [glook_gl,hS]
  rw [List.find?_append,hf]
  rfl
theorem look_any {S:Seen} {p:Pt} (hp:p ∈ sks S):∃ pre e post,S = pre ++ e :: post ∧ glook (gl S) p.l = some (e.2.1 :: e.2.2.l):=by
 obtain ⟨y,hy,hyp⟩:=List.mem_map.1 hp
 cases hf:S.find? (fun e => e.1 = p) with
 | none =>
  rw [List.find?_eq_none] at hf
  have:=hf y hy
  simp [hyp] at this
 | some e =>
  obtain ⟨h1,A,B,hS,h2⟩:=List.find?_eq_some_iff_append.1 hf
  refine ⟨A,e,B,hS,?_⟩
  rw [glook_gl,hf]
  rfl
def hitB (b:Bx) (A:Bag):Bool:=(walkS b.wh A).any fun e => decide (e.1.bag = A) && within e.1.bo b.pl (b.pl + b.sk)
theorem dput_has {D:Ends} {n:Int} {p:Pt}:n ∈ keysD (dput D n p):=by
 rw [dput_keys]
 split
 ·assumption
 ·simp
theorem keysD_all {S:Seen} {A:Bag} {D:Ends} (h:EndsOf S A D) (n:Int):n ∈ keysD D ↔ ∃ e ∈ S,e.1.bag = A ∧ e.1.bo = n:=by
 constructor
 ·intro hn
  obtain ⟨e,he,rfl⟩:=List.mem_map.1 hn
  obtain ⟨h1,h2,h3⟩:=h.ok.src e he
  obtain ⟨y,hy,hye⟩:=List.mem_map.1 h3
  exact ⟨y,hy,by rw [hye]; exact h2,by rw [hye]; exact h1.symm⟩
 ·rintro ⟨e,he,hA,rfl⟩
  obtain ⟨ord,hp,rfl⟩:=h
  have mono:∀ (l:Seen) (D:Ends) (n:Int),n ∈ keysD D → n ∈ keysD (l.foldl (endS A) D):=by
   intro l
   induction l with
   | nil => intro D n h; exact h
   | cons x l ih =>
    intro D n h
    rw [List.foldl_cons]
    refine ih _ n ?_
    unfold endS
    split
    ·rw [dput_keys]; split
     ·exact h
     ·simp [h]
    ·exact h
  obtain ⟨l1,l2,rfl⟩:=List.append_of_mem (hp.symm.subset he)
  rw [List.foldl_append,List.foldl_cons]
  refine mono l2 _ _ ?_
  generalize l1.foldl (endS A) [] = D1
  unfold endS
  split
  ·exact dput_has
  ·rename_i hc
   simp only [hA,decide_true,Bool.true_and] at hc
   unfold endB at hc
   split at hc
   ·exact absurd rfl hc
   ·rename_i o ho
    have:=dlook_some ho
    exact List.mem_map.2 ⟨_,this,rfl⟩
theorem hit_iff {b:Bx} {A:Bag} {D:Ends} (h:EndsOf (walkS b.wh A) A D):hitB b A = (srt (keysD D)).any fun n => within n b.pl (b.pl + b.sk):=by
 rw [Bool.eq_iff_iff,List.any_eq_true]
 simp only [hitB,List.any_eq_true,Bool.and_eq_true,decide_eq_true_eq]
 constructor
 ·rintro ⟨e,he,h1,h2⟩
  exact ⟨e.1.bo,srt_mem.2 ((keysD_all h _).2 ⟨e,he,h1,rfl⟩),h2⟩
 ·rintro ⟨n,hn,h2⟩
  obtain ⟨e,he,h1,rfl⟩:=(keysD_all h _).1 (srt_mem.1 hn)
  exact ⟨e,he,h1,h2⟩
def pur (b:Bx) (p:List Int):Bag:=⟨(putL b).getD 0 0 + p.getD 0 0,(putL b).getD 1 0 + p.getD 1 0,(putL b).getD 2 0 + p.getD 2 0,(putL b).getD 3 0 + p.getD 3 0⟩
structure PurOk (b:Bx) (p:List Int):Prop where
 len:p.length ≤ b.wh.co.length
 nn:∀ n ∈ p,0 ≤ n
 sum:p.sum ≤ 2
theorem getD_nn {p:List Int} (h:∀ n ∈ p,0 ≤ n) (k:Nat):0 ≤ p.getD k 0:=by
 rw [List.getD_eq_getElem?_getD]
 cases hk:p[k]? with
 | none => simp
 | some n => exact h n (List.mem_of_getElem? hk)
theorem sum4:∀ {p:List Int},p.length ≤ 4 → p.sum = p.getD 0 0 + p.getD 1 0 + p.getD 2 0 + p.getD 3 0
 | [],_ => rfl
 | [a],_ => by simp
 | [a,b],_ => by simp
 | [a,b,c],_ => by simp; omega
 | [a,b,c,d],_ => by simp; omega
 | a :: b :: c :: d :: e :: l,h => by simp at h
theorem addL_at:∀ {a b:List Int} (_:a.length = b.length) (k:Nat),(addL a b).getD k 0 = if k < a.length then a.getD k 0 + b.getD k 0 else 0
 | [],[],_,k => by simp [addL]
 | x :: a,y :: b,h,0 => by simp [addL]
 | x :: a,y :: b,h,k + 1 => by
  have:=addL_at (a:=a) (b:=b) (by simpa using h) k
  unfold addL at this ⊢
  rw [List.zipWith_cons_cons,List.getD_cons_succ,this,List.getD_cons_succ,List.getD_cons_succ]
  simp
theorem put_sum {b:Bx} (hb:BxOk b):(∀ k,0 ≤ (putL b).getD k 0) ∧ (putL b).getD 0 0 + (putL b).getD 1 0 + (putL b).getD 2 0 + (putL b).getD 3 0 ≤ 12:=by
 have hl:=hb.fl.trans hb.sl.symm
 have hcl:=hb.wh.cl
 have hfl:=hb.fl
 have hs:=hb.sum
 have g1:=fun k => getD_nn (fun n hn => (hb.fo n hn).1) k
 have g2:=fun k => getD_nn (fun n hn => (hb.sn n hn).1) k
 have g:∀ k,(putL b).getD k 0 = if k < b.fo.length then b.fo.getD k 0 + b.sl.getD k 0 else 0:=addL_at hl
 refine ⟨fun k => ?_,?_⟩
 ·rw [g k]; have:=g1 k; have:=g2 k; split <;> omega
 ·rw [g 0,g 1,g 2,g 3]
  have h4:b.fo.length = 0 ∨ b.fo.length = 1 ∨ b.fo.length = 2 ∨ b.fo.length = 3 ∨ b.fo.length = 4:=by omega
  rcases h4 with h | h | h | h | h <;> rw [h] at hs ⊢ <;> simp only [sumK] at hs <;> simp only [Nat.reduceLT,Nat.lt_irrefl,if_true,if_false] <;> omega
theorem pur_ok {b:Bx} (hb:BxOk b) {p:List Int} (hp:PurOk b p):BagOk (pur b p):=by
 obtain ⟨h1,h2⟩:=put_sum hb
 have hcl:=hb.wh.cl
 have hs:=sum4 (p:=p) (by have:=hp.len; omega)
 have h3:=hp.sum
 have g:=getD_nn hp.nn
 have a0:=h1 0; have a1:=h1 1; have a2:=h1 2; have a3:=h1 3
 have b0:=g 0; have b1:=g 1; have b2:=g 2; have b3:=g 3
 unfold pur
 constructor <;> simp only <;> omega
end Go.Proofs.Ytakplakbbidihaa

namespace Go.Proofs.Ytakplakbbidihaa
open Go Go.V
abbrev o59_0:List Ins:=[⟨some 4,.mv (.k (.c (.raw (.slice none 0 0)))),none,true⟩,
 ⟨some 5,.mv (.k (.c (.bool false))),none,true⟩]
abbrev o59_1:List Ins:=[⟨some 15,.mv (.t 0),none,true⟩,
 ⟨some 16,.call (.k (.fn 61 [])) [(.t 15)],none,true⟩,
 ⟨some 6,.alloc [(.c (.int .i64 0)),(.c (.int .i64 0)),(.c (.int .i64 0)),(.c (.int .i64 0))],none,true⟩,
 ⟨none,.st 4 (.t 6) (.t 16),none,true⟩]
abbrev o59_2:List Ins:=[⟨some 17,.mv (.t 1),none,true⟩,
 ⟨some 18,.len (.t 17),none,true⟩,
 ⟨some 19,.mv (.k (.c (.int .i64 0))),none,true⟩]
abbrev o59_3:List Ins:=[⟨some 20,.bin .lss (.t 19) (.t 18),none,true⟩]
abbrev o59_4:List Ins:=[⟨some 21,.mv (.t 19),none,true⟩,
 ⟨some 22,.ia 1 (.t 17) (.t 19),none,true⟩,
 ⟨some 23,.ld true 1 (.t 22),none,true⟩,
 ⟨some 7,.mv (.t 21),none,true⟩,
 ⟨some 8,.mv (.t 23),none,true⟩]
abbrev o59_5:List Ins:=[⟨some 24,.mv (.t 7),none,true⟩,
 ⟨some 25,.iap 4 1 (.t 6) (.t 24),none,true⟩,
 ⟨some 26,.ld true 1 (.t 25),none,true⟩,
 ⟨some 27,.mv (.t 8),none,true⟩,
 ⟨some 28,.bin .add (.t 26) (.t 27),none,true⟩,
 ⟨some 29,.iap 4 1 (.t 6) (.t 24),none,true⟩,
 ⟨none,.st 1 (.t 29) (.t 28),none,true⟩]
abbrev v59_6:VC:=(.seq (.ops o59_4) (.ops o59_5))
abbrev o59_7:List Ins:=[⟨some 30,.bin .add (.t 19) (.k (.c (.int .i64 1))),none,true⟩,
 ⟨some 19,.mv (.t 30),none,true⟩]
abbrev v59_8:VC:=(.seq (.block 1 v59_6) (.ops o59_7))
abbrev v59_9:VC:=(.seq (.cond (.t 20) .skip (.exit 0)) v59_8)
abbrev v59_10:VC:=(.seq (.ops o59_3) v59_9)
-- K59_1: changed and kept: [19]
abbrev K59_1:List Nat:=[0,6,17,18]
abbrev v59_11:VC:=(.loop v59_10)
abbrev v59_12:VC:=(.block 0 v59_11)
abbrev o59_13:List Ins:=[⟨some 31,.mv (.t 0),none,true⟩,
 ⟨some 32,.ld false 4 (.t 6),none,true⟩,
 ⟨some 33,.call (.k (.fn 62 [])) [(.t 31),(.t 32)],none,true⟩,
 ⟨some 9,.mv (.t 33),none,true⟩]
abbrev o59_14:List Ins:=[⟨some 34,.mv (.t 9),none,true⟩,
 ⟨some 35,.ld false 4 (.t 6),none,true⟩,
 ⟨some 36,.call (.k (.fn 63 [])) [(.t 34),(.t 35)],none,true⟩,
 ⟨some 10,.mv (.t 36),none,true⟩]
abbrev o59_15:List Ins:=[⟨some 37,.mv (.t 10),none,true⟩,
 ⟨some 38,.call (.k (.fn 65 [])) [(.t 37)],none,true⟩,
 ⟨some 39,.call (.k (.fn 64 [])) [(.t 38)],none,true⟩,
 ⟨some 40,.len (.t 39),none,true⟩,
 ⟨some 41,.mv (.k (.c (.int .i64 0))),none,true⟩]
abbrev o59_16:List Ins:=[⟨some 42,.bin .lss (.t 41) (.t 40),none,true⟩]
abbrev o59_17:List Ins:=[⟨some 43,.ia 1 (.t 39) (.t 41),none,true⟩,
 ⟨some 44,.ld true 1 (.t 43),none,true⟩,
 ⟨some 12,.mv (.t 44),none,true⟩]
abbrev o59_18:List Ins:=[⟨some 45,.mv (.t 12),none,false⟩,
 ⟨some 46,.mv (.t 0),none,false⟩,
 ⟨some 47,.nilc (.t 46),none,false⟩,
 ⟨some 48,.fa 0 (.t 47),none,false⟩,
 ⟨some 49,.fa 6 (.t 48),none,false⟩,
 ⟨some 50,.ld true 1 (.t 49),none,false⟩,
 ⟨some 51,.mv (.t 0),none,false⟩,
 ⟨some 52,.nilc (.t 51),none,false⟩,
 ⟨some 53,.fa 0 (.t 52),none,false⟩,
 ⟨some 54,.fa 6 (.t 53),none,false⟩,
 ⟨some 55,.ld true 1 (.t 54),none,false⟩,
 ⟨some 56,.mv (.t 0),none,false⟩,
 ⟨some 57,.nilc (.t 56),none,false⟩,
 ⟨some 58,.fa 0 (.t 57),none,false⟩,
 ⟨some 59,.fa 7 (.t 58),none,false⟩,
 ⟨some 60,.ld true 1 (.t 59),none,false⟩,
 ⟨some 61,.bin .add (.t 55) (.t 60),none,false⟩,
 ⟨some 62,.call (.k (.fn 37 [])) [(.t 45),(.t 50),(.t 61)],none,true⟩,
 ⟨some 63,.un .not (.t 62),none,true⟩]
abbrev v59_19:VC:=(.cond (.t 63) (.exit 3) .skip)
abbrev o59_20:List Ins:=[⟨some 13,.mv (.k (.c (.raw (.slice none 0 0)))),none,true⟩]
abbrev o59_21:List Ins:=[⟨some 64,.mv (.t 9),none,true⟩,
 ⟨some 65,.mv (.t 10),none,true⟩,
 ⟨some 66,.mv (.t 12),none,true⟩,
 ⟨some 67,.raw (.lookup 104 (.tmp 65) (.tmp 66) false),none,true⟩,
 ⟨some 68,.raw (.lookup 102 (.tmp 64) (.tmp 67) false),none,true⟩,
 ⟨some 14,.alloc [(.c (.int .i64 0)),(.c (.int .i64 0)),(.c (.int .i64 0)),(.c (.int .i64 0)),(.c (.int .i64 0)),(.c (.int .i64 0)),(.c (.int .i64 0)),(.c (.int .i64 0))],none,true⟩,
 ⟨none,.st 8 (.t 14) (.t 68),none,true⟩]
abbrev o59_22:List Ins:=[⟨some 69,.fa 0 (.t 14),none,true⟩,
 ⟨some 70,.ld true 1 (.t 69),none,true⟩,
 ⟨some 71,.bin .neq (.t 70) (.k (.c (.int .i64 (-2)))),none,true⟩]
abbrev v59_23:VC:=(.cond (.t 71) .skip (.exit 4))
abbrev o59_24:List Ins:=[⟨some 76,.mv (.t 13),none,true⟩,
 ⟨some 77,.fa 0 (.t 14),none,true⟩,
 ⟨some 78,.ld true 1 (.t 77),none,true⟩,
 ⟨some 79,.bsl 3 1 [(.t 78)],none,true⟩,
 ⟨some 80,.appv 3 1 8 (.t 76) (.t 79),none,true⟩,
 ⟨some 13,.mv (.t 80),none,true⟩]
abbrev o59_25:List Ins:=[⟨some 81,.ld false 8 (.t 14),none,true⟩]
abbrev o59_26:List Ins:=[⟨some 14,.alloc [(.c (.int .i64 0)),(.c (.int .i64 0)),(.c (.int .i64 0)),(.c (.int .i64 0)),(.c (.int .i64 0)),(.c (.int .i64 0)),(.c (.int .i64 0)),(.c (.int .i64 0))],none,true⟩,
 ⟨none,.st 8 (.t 14) (.t 81),none,true⟩]
abbrev o59_27:List Ins:=[⟨some 72,.mv (.t 9),none,true⟩,
 ⟨some 73,.fa 1 (.t 14),none,true⟩,
 ⟨some 74,.ld false 7 (.t 73),none,true⟩,
 ⟨some 75,.raw (.lookup 102 (.tmp 72) (.tmp 74) false),none,true⟩,
 ⟨none,.st 8 (.t 14) (.t 75),none,true⟩]
abbrev v59_28:VC:=(.seq (.seq (.ops o59_25) (.ops o59_26)) (.ops o59_27))
abbrev v59_29:VC:=(.seq (.block 5 (.ops o59_24)) v59_28)
abbrev v59_30:VC:=(.seq (.seq (.ops o59_22) v59_23) v59_29)
-- K59_3: changed and kept: [14,13]
abbrev K59_3:List Nat:=[9]
abbrev v59_31:VC:=(.loop v59_30)
abbrev v59_32:VC:=(.block 4 v59_31)
abbrev o59_33:List Ins:=[⟨some 82,.mv (.t 13),none,true⟩,
 ⟨some 83,.call (.k (.fn 66 [])) [(.t 82)],none,true⟩]
abbrev o59_34:List Ins:=[⟨some 84,.mv (.t 13),none,true⟩,
 ⟨some 4,.mv (.t 84),none,true⟩,
 ⟨some 5,.mv (.k (.c (.bool true))),none,true⟩]
abbrev v59_35:VC:=(.seq (.ops o59_34) .ret)
abbrev v59_36:VC:=(.seq (.ops o59_33) v59_35)
abbrev v59_37:VC:=(.seq (.seq (.ops o59_21) v59_32) v59_36)
abbrev v59_38:VC:=(.seq (.ops o59_20) v59_37)
abbrev v59_39:VC:=(.seq (.seq (.dops o59_18) v59_19) v59_38)
abbrev v59_40:VC:=(.seq (.ops o59_17) v59_39)
abbrev o59_41:List Ins:=[⟨some 85,.bin .add (.t 41) (.k (.c (.int .i64 1))),none,true⟩,
 ⟨some 41,.mv (.t 85),none,true⟩]
abbrev v59_42:VC:=(.seq (.block 3 v59_40) (.ops o59_41))
abbrev v59_43:VC:=(.seq (.cond (.t 42) .skip (.exit 2)) v59_42)
abbrev v59_44:VC:=(.seq (.ops o59_16) v59_43)
-- K59_2: changed and kept: [41]
abbrev K59_2:List Nat:=[0,9,10,39,40]
abbrev v59_45:VC:=(.loop v59_44)
abbrev v59_46:VC:=(.block 2 v59_45)
abbrev o59_47:List Ins:=[⟨some 4,.mv (.k (.c (.raw (.slice none 0 0)))),none,true⟩,
 ⟨some 5,.mv (.k (.c (.bool false))),none,true⟩]
abbrev v59_48:VC:=(.seq (.ops o59_47) .ret)
abbrev v59_49:VC:=(.seq (.seq (.ops o59_15) v59_46) v59_48)
abbrev v59_50:VC:=(.seq (.ops o59_14) v59_49)
abbrev v59_51:VC:=(.seq (.ops o59_13) v59_50)
abbrev v59_52:VC:=(.seq (.seq (.ops o59_2) v59_12) v59_51)
abbrev v59_53:VC:=(.seq (.ops o59_1) v59_52)
def ir59:FC:=⟨2,86,[.t 4,.t 5],(.seq (.ops o59_0) v59_53)⟩
theorem c59:compM Try.prog [100080] 59 = some ir59:=by kernel_rfl
attribute [local go_sem] Nat.reduceEqDiff Nat.reduceAdd Nat.reduceMul reduceIte Nat.reduceLeDiff Nat.reduceLT Nat.reduceBEq reduceCtorEq
def purK (b:Bx) (p:List Int) (k:Nat):List Int:=[(putL b).getD 0 0 + (p.take k).getD 0 0,(putL b).getD 1 0 + (p.take k).getD 1 0,(putL b).getD 2 0 + (p.take k).getD 2 0,(putL b).getD 3 0 + (p.take k).getD 3 0]
theorem purK_zero (b:Bx) (p:List Int):purK b p 0 = bagOf (putL b):=by simp [purK,bagOf]
theorem purK_all (b:Bx) (p:List Int):purK b p p.length = (pur b p).l:=by simp [purK,pur,Bag.l]
theorem take_at {p:List Int} {k i:Nat}:(p.take k).getD i 0 = if i < k then p.getD i 0 else 0:=by
 rw [List.getD_eq_getElem?_getD,List.getD_eq_getElem?_getD,List.getElem?_take]
 split <;> rfl
theorem purK_succ (b:Bx) (p:List Int) {k:Nat} (hk:k < 4):(bagAv (purK b p k)).set k (iv ((purK b p k).getD k 0 + p.getD k 0)) = bagAv (purK b p (k + 1)):=by
 have:k = 0 ∨ k = 1 ∨ k = 2 ∨ k = 3:=by omega
 rcases this with rfl | rfl | rfl | rfl <;> simp [purK,bagAv,take_at,List.getD_eq_getElem?_getD,List.getElem?_take]
theorem bagAv_at (b:Bx) (p:List Int) {k j:Nat} (hk:j < 4):(bagAv (purK b p k)).getD j .non = iv ((purK b p k).getD j 0):=by
 have:j = 0 ∨ j = 1 ∨ j = 2 ∨ j = 3:=by omega
 rcases this with rfl | rfl | rfl | rfl <;> simp [purK,bagAv]
theorem pur_at {b:Bx} (hb:BxOk b) {p:List Int} (hp:PurOk b p) {k:Nat} (hk:k < 4):0 ≤ (purK b p k).getD k 0 ∧ (purK b p k).getD k 0 ≤ 14 ∧ 0 ≤ p.getD k 0 ∧ p.getD k 0 ≤ 2:=by
 obtain ⟨h1,h2⟩:=put_sum hb
 have hcl:=hb.wh.cl
 have hs:=sum4 (p:=p) (by have:=hp.len; omega)
 have h3:=hp.sum
 have g:=getD_nn hp.nn
 have a0:=h1 0; have a1:=h1 1; have a2:=h1 2; have a3:=h1 3
 have b0:=g 0; have b1:=g 1; have b2:=g 2; have b3:=g 3
 have:k = 0 ∨ k = 1 ∨ k = 2 ∨ k = 3:=by omega
 rcases this with rfl | rfl | rfl | rfl <;> simp only [purK,take_at,List.getD_cons_zero,List.getD_cons_succ,Nat.lt_irrefl,if_false] <;> omega
theorem look_mem {S:Seen} {q:Pt} (h:q ∈ sks S):(q,((S.find? fun e => e.1 = q).map (·.2)).getD (0,p00)) ∈ S:=by
 obtain ⟨y,hy,hyp⟩:=List.mem_map.1 h
 cases hf:S.find? (fun e => e.1 = q) with
 | none =>
  rw [List.find?_eq_none] at hf
  have:=hf y hy
  simp [hyp] at this
 | some e =>
  have h1:=List.find?_some hf
  simp only [decide_eq_true_eq] at h1
  have h2:=List.mem_of_find?_eq_some hf
  simp only [Option.map_some,Option.getD_some]
  rw [← h1]; exact h2
def accV (acts:List Int) (cap:Nat):AV:=if acts = [] then .c (.raw (.slice none 0 0)) else .vw 1 80 0 acts.length cap
def accO (acts:List Int) (j:Nat):Ob:=if acts = [] then .none else .box (cI acts j)
def stepAv (e:Pt × Int × Pt):List AV:=[iv e.2.1,iv e.2.2.pl,iv e.2.2.cr,iv e.2.2.a,iv e.2.2.b,iv e.2.2.c,iv e.2.2.d,iv e.2.2.bo]
theorem cI_prg (d:Nat):∀ (zs:List Int) (j:Nat),AV.prgL d (cI zs j) = cI zs j
 | [],0 => rfl
 | [],j + 1 => by
  have:=cI_prg d [] j
  simp only [cI,List.map_nil,List.nil_append,List.replicate_succ,AV.prgL,AV.prg] at this ⊢
  rw [this]
 | z :: zs,j => by
  have:=cI_prg d zs j
  simp only [cI,List.map_cons,List.cons_append,AV.prgL,AV.prg] at this ⊢
  rw [this]
theorem cI_lend (L:List Nat) (own:Nat → Ob):∀ (zs:List Int) (j:Nat),AV.lendL 1000 L own (cI zs j) = some (cI zs j)
 | [],0 => rfl
 | [],j + 1 => by
  have:=cI_lend L own [] j
  simp only [cI,List.map_nil,List.nil_append,List.replicate_succ,AV.lendL,AV.lend] at this ⊢
  rw [this]
 | z :: zs,j => by
  have:=cI_lend L own zs j
  simp only [cI,List.map_cons,List.cons_append,AV.lendL,AV.lend] at this ⊢
  rw [this]
theorem cI_back (L:List Nat):∀ (zs:List Int) (j:Nat),AV.backL L (cI zs j) = some (cI zs j)
 | [],0 => rfl
 | [],j + 1 => by
  have:=cI_back L [] j
  simp only [cI,List.map_nil,List.nil_append,List.replicate_succ,AV.backL,AV.back] at this ⊢
  rw [this]
 | z :: zs,j => by
  have:=cI_back L zs j
  simp only [cI,List.map_cons,List.cons_append,AV.backL,AV.back] at this ⊢
  rw [this]
theorem cI_c (zs:List Int) (j:Nat):cI zs j = (zs.map (CD.int .i64)).map .c ++ List.replicate j .non:=by simp [cI,Function.comp_def]
theorem grp1 {α:Type}:∀ l:List α,grp 1 l.length l = l.map fun x => [x]
 | [] => rfl
 | a :: l => by simp [grp,grp1 l]
theorem grpI (n:Nat) (zs:List Int) (h:zs.length = n):(if n * 1 ≤ zs.length then AV.c (CD.sl 1 (grp 1 n (List.take (n * 1) (zs.map (CD.int .i64))))) else AV.non) = .c (ints zs):=by
 subst h
 rw [if_pos (by omega),Nat.mul_one,List.take_of_length_le (by simp)]
 have:=grp1 (zs.map (CD.int .i64))
 rw [List.length_map] at this
 rw [this,List.map_map]
 rfl
theorem nil66:FSpec Try.prog 66 [.c (.raw (.slice none 0 0))] (.tup []):=by
 refine FSpec_of c66 (Nat.le_refl _) (by decide) fun C hP hN hC hL => ?_; rw [init_st]
 simp only [ir66]
 (repeat ((first | refine Va ?_ | refine Vb ?_ | refine Vc ?_ | refine Vd ?_ | refine Ve ?_ | refine Vf ?_); (try simp only [go_sem,hP]); (repeat refine qJ ?_)))
 refine WV_loopK [] [] (fun k:Unit => True) (fun _ => 0) (fun k => [(2,iv 0),(3,iv (-1))]) (fun _ => []) () trivial ?_ ?_
 ·exact Sub_au
 ·intro _ _
  (repeat ((first | refine Va ?_ | refine Vb ?_ | refine Vc ?_ | refine Vd ?_ | refine Ve ?_ | refine Vf ?_); (try simp only [go_sem,hP]); (repeat refine qJ ?_)))
  (refine WV_cond rfl (fun h => ?_) (fun h => ?_))
  ·simp at h
  ·(repeat ((first | refine Va ?_ | refine Vb ?_ | refine Vc ?_ | refine Vd ?_ | refine Ve ?_ | refine Vf ?_); (try simp only [go_sem,hP]); (repeat refine qJ ?_)))
   simp only [thenQ,inQ,RetQ,RetOk,resAll,resA]
   simp only [go_sem,tupA,AV.port,AV.portL,exists_eq_left']
   exact AVle.of rfl
set_option maxHeartbeats 8000000 in
set_option maxRecDepth 20000 in
theorem explain59 {b : Bx} (hwb : whB b.wh = true) (hb : BxOk b) {p : List Int} (hp : PurOk b p) : FSpecN Try.prog 59 [.c (.pt b.cds), .c (ints p)] (fun r os => os = [] ∧ ∃ acts, r = .tup [.c (ints acts), .c (.bool (hitB b (pur b p)))]) := by
  have hA := pur_ok hb hp
  have hcl := hb.wh.cl
  have hpl := hp.len
  refine FSpecN_of c59 (Nat.le_refl _) (by decide) fun C hP hN hC hL => ?_; rw [init_st]
  simp only [ir59, ints]
  (repeat ((first | refine Va ?_ | refine Vb ?_ | refine Vc ?_ | refine Vd ?_ | refine Ve ?_ | refine Vf ?_); (try simp only [go_sem, hP]); (repeat refine qJ ?_)))
  (refine AS_pu (put61 hb) ?_; simp only [go_sem, hP, bagAv, bagOf, List.map_cons, List.map_nil, List.length_map]; (repeat refine qJ ?_); (repeat ((first | refine Va ?_ | refine Vb ?_ | refine Vc ?_ | refine Vd ?_ | refine Ve ?_ | refine Vf ?_); (try simp only [go_sem, hP, bagAv, bagOf, List.map_cons, List.map_nil, List.length_map]); (repeat refine qJ ?_))))
  refine WV_loopK K59_1 [6] (fun k : Nat => k ≤ p.length) (fun k => p.length - k) (fun k => [(19, iv k)]) (fun k => [(6, .box (bagAv (purK b p k)))]) 0 (by omega) ?_ ?_
  · rw [purK_zero]
    (refine Sub_of (by simp only [go_sem]; ((repeat' (first | exact EnvLe_e0 _ _ | refine EnvLe_upd ?_ ?_)) <;> ((try simp only [upd_app, e0_app, o0_app, Nat.reduceEqDiff, reduceIte]); first | exact AWk.refl _ _ | exact AWk.int (by omega) | exact AWk.int (by rw [w64 (by omega) (by omega)]; omega) | exact AWk.grow rfl | exact AWk.nil _ | exact AWk.of (by simp [bagAv, bagOf])))) (by simp only [go_sem]; exact ObjLe_au))
  · intro k hk
    (repeat ((first | refine Va ?_ | refine Vb ?_ | refine Vc ?_ | refine Vd ?_ | refine Ve ?_ | refine Vf ?_); (try simp only [go_sem, hP]); (repeat refine qJ ?_)))
    (refine WV_cond rfl (fun h => ?_) (fun h => ?_))
    · have hi : k < p.length := by simpa using h
      have g1 := ints_get hi
      have hsu := purK_succ b p (k := k) (by omega)
      have hat := bagAv_at b p (k := k) (j := k) (by omega)
      have hb1 : 0 ≤ (purK b p k).getD k 0 ∧ (purK b p k).getD k 0 ≤ 14 ∧ 0 ≤ p.getD k 0 ∧ p.getD k 0 ≤ 2 := pur_at hb hp (by omega)
      have hlen : (bagAv (purK b p k)).length = 4 := rfl
      generalize (purK b p k).getD k 0 = x at hsu hat hb1
      generalize p.getD k 0 = y at g1 hsu hb1
      generalize bagAv (purK b p k) = B at hsu hat hlen
      have w1 := w64 (n := (k : Int) + 1) (by omega) (by omega)
      have w2 := w64 (n := x + y) (by omega) (by omega)
      have hk4 : (k : Int) < 4 := by omega
      have hk5 : k < B.length := by omega
      (repeat ((first | refine Va ?_ | refine Vb ?_ | refine Vc ?_ | refine Vd ?_ | refine Ve ?_ | refine Vf ?_); (try simp only [go_sem, hP, g1, List.length_map, Int.toNat_natCast, Int.ofNat_lt, hi, Int.natCast_nonneg, w1, w2, hk4, hk5, Nat.mul_one, hat]); (repeat refine qJ ?_)))
      refine ⟨k + 1, by omega, by omega, ?_⟩
      rw [hsu]
      exact Sub_au
    · have hi : k = p.length := by simp at h; omega
      subst hi
      rw [purK_all]
      clear h hk
      have htk : List.take 4 (bagAv (pur b p).l) = bagAv (pur b p).l := rfl
      have hln : (bagAv (pur b p).l).length = 4 := rfl
      have hpg : ∀ n, AV.prgL n (bagAv (pur b p).l) = bagAv (pur b p).l := fun n => rfl
      (repeat ((first | refine Va ?_ | refine Vb ?_ | refine Vc ?_ | refine Vd ?_ | refine Ve ?_ | refine Vf ?_); (try simp only [go_sem, hP, htk, hln]); (repeat refine qJ ?_)))
      refine AS_new (walk62 hwb hA) rfl rfl rfl rfl ?_
      rintro _ _ ⟨bm, rfl, rfl⟩
      refine ⟨[33], _, _, by simp, rfl, rfl, rfl, rfl, ?_⟩
      simp only [go_sem, hP, ownBack, hpg]
      refine WV_keep [0, 6, 9] ?_
      simp only [go_sem]
      refine WV_holdE 36 (by decide) rfl ?_
      simp only [go_sem, hpg]
      (repeat ((first | refine Va ?_ | refine Vb ?_ | refine Vc ?_ | refine Vd ?_ | refine Ve ?_ | refine Vf ?_); (try simp only [go_sem, hP, htk, hln]); (repeat refine qJ ?_)))
      refine AS_lend [33, 36] (ends63 bm) rfl rfl rfl (by decide) rfl rfl ?_
      rintro r l' ⟨be, D, rfl, rfl, hD⟩
      refine ⟨_, _, rfl, rfl, ?_⟩
      have hin := walk_bk hb.wh hA
      have hdl := hD.ok.len (fun e he => by have := (hin.2.1 e he).1.bo; have h5 := hA.m; have h6 := (hin.2.1 e he).1; have h7 := h6.a; have h8 := h6.b; have h9 := h6.c; have h10 := h6.d; simp only [Pt.bag, Bag.many] at this; omega)
      have hlook := fun n => dlook_of (D := D) (n := n)
      have hok := hD.ok
      simp only [go_sem, hP, ownBack]
      (repeat ((first | refine Va ?_ | refine Vb ?_ | refine Vc ?_ | refine Vd ?_ | refine Ve ?_ | refine Vf ?_); (try simp only [go_sem, hP]); (repeat refine qJ ?_)))
      refine AS_new (keys65 be) rfl rfl rfl rfl ?_
      rintro _ _ ⟨rfl, rfl⟩
      refine ⟨[38], _, _, by simp, rfl, rfl, rfl, rfl, ?_⟩
      simp only [go_sem, hP, ownBack]
      refine AS_lend [38, 36] (sorted64 hdl.1 hdl.2 be) rfl rfl rfl (by decide) rfl rfl ?_
      rintro r l' ⟨rfl, rfl⟩
      refine ⟨_, _, rfl, rfl, ?_⟩
      have hsr : ∀ n ∈ srt (keysD D), (0 ≤ n ∧ n ≤ 2000) ∧ ∃ q, dlook D n = some q ∧ q ∈ sks (walkS b.wh (pur b p)) := fun n hn => by
        have hn2 := srt_mem.1 hn
        obtain ⟨q, hq⟩ := hlook n hn2
        have h3 := hok.src _ (dlook_some hq)
        refine ⟨?_, q, hq, h3.2.2⟩
        exact hdl.2 _ (dlook_some hq)
      have hhit := hit_iff hD
      have hlk : (srt (keysD D)).length ≤ 2001 := by unfold srt; rw [List.length_mergeSort]; simpa [keysD] using hdl.1
      generalize srt (keysD D) = Ls at hsr hhit hlk
      generalize hS : walkS b.wh (pur b p) = S at *
      simp only [go_sem, hP, ownBack, ints, List.length_map]
      (repeat ((first | refine Va ?_ | refine Vb ?_ | refine Vc ?_ | refine Vd ?_ | refine Ve ?_ | refine Vf ?_); (try simp only [go_sem, hP, ints, List.length_map]); (repeat refine qJ ?_)))
      refine WV_loopK K59_2 [6, 33, 36, 38] (fun k : Nat => k ≤ Ls.length ∧ ∀ n ∈ Ls.take k, within n b.pl (b.pl + b.sk) = false) (fun k => Ls.length - k) (fun k => [(41, iv k)]) (fun _ => [(33, gmap true true (gl S) bm), (36, gmap false true (gl2 D) be)]) 0 ⟨by omega, by simp⟩ ?_ ?_
      · exact Sub_au
      rintro k ⟨hk, hno⟩
      (repeat ((first | refine Va ?_ | refine Vb ?_ | refine Vc ?_ | refine Vd ?_ | refine Ve ?_ | refine Vf ?_); (try simp only [go_sem, hP]); (repeat refine qJ ?_)))
      (refine WV_cond rfl (fun h => ?_) (fun h => ?_))
      · have hi : k < Ls.length := by simpa using h
        have g1 := ints_get hi
        obtain ⟨n, hn⟩ : ∃ n, n = Ls.getD k 0 := ⟨_, rfl⟩
        rw [← hn] at g1
        have hnm : n ∈ Ls := by rw [hn, List.getD_eq_getElem?_getD, List.getElem?_eq_getElem hi]; exact List.getElem_mem _
        obtain ⟨hnb, q, hq, hqs⟩ := hsr n hnm
        have hpl := hb.pl
        have hsk := hb.sk
        have w1 := w64 (n := (k : Int) + 1) (by omega) (by omega)
        have w2 := w64 (n := b.pl + b.sk) (by omega) (by omega)
        have e6 : List.drop 6 b.cds = [.int .i64 b.pl, .int .i64 b.sk] := rfl
        have e7 : List.drop 7 b.cds = [.int .i64 b.sk] := rfl
        have e8 : b.cds.length = 8 := rfl
        (repeat ((first | refine Va ?_ | refine Vb ?_ | refine Vc ?_ | refine Vd ?_ | refine Ve ?_ | refine Vf ?_); (try simp only [go_sem, hP, g1, List.length_map, Int.toNat_natCast, Int.ofNat_lt, hi, Int.natCast_nonneg, e6, e7, e8, w2]); (repeat refine qJ ?_)))
        (refine AS_pu (within37 n b.pl (b.pl + b.sk)) ?_; simp only [go_sem, hP, w2]; (repeat refine qJ ?_); (repeat ((first | refine Va ?_ | refine Vb ?_ | refine Vc ?_ | refine Vd ?_ | refine Ve ?_ | refine Vf ?_); (try simp only [go_sem, hP, w2]); (repeat refine qJ ?_))))
        cases hwn : within n b.pl (b.pl + b.sk) with
        | false =>
          (refine WV_cond rfl (fun h => ?_) (fun h => ?_))
          · (repeat ((first | refine Va ?_ | refine Vb ?_ | refine Vc ?_ | refine Vd ?_ | refine Ve ?_ | refine Vf ?_); (try simp only [go_sem, hP, w1]); (repeat refine qJ ?_)))
            refine ⟨k + 1, ⟨by omega, fun m hm => ?_⟩, by omega, ?_⟩
            · rw [List.take_succ_eq_append_getElem hi, List.mem_append, List.mem_singleton] at hm
              rcases hm with hm | hm
              · exact hno m hm
              · have : n = Ls[k] := by rw [hn, List.getD_eq_getElem?_getD, List.getElem?_eq_getElem hi]; rfl
                rw [hm, ← this]; exact hwn
            · exact Sub_au
          · simp at h
        | true =>
          have hflag : hitB b (pur b p) = true := by rw [hhit, List.any_eq_true]; exact ⟨n, hnm, hwn⟩
          (refine WV_cond rfl (fun h => ?_) (fun h => ?_))
          · simp at h
          · refine WV_keep [9, 10, 12] ?_
            simp only [go_sem]
            (repeat ((first | refine Va ?_ | refine Vb ?_ | refine Vc ?_ | refine Vd ?_ | refine Ve ?_ | refine Vf ?_); (try simp only [go_sem, hP]); (repeat refine qJ ?_)))
            have hqp := hin.2.1 _ (look_mem hqs)
            refine raw_lookN (n := 36) (b := be) (ka := false) (va := true) (l := gl2 D) (key := [n]) (zs := [0, 0, 0, 0, 0, 0, 0]) (k := 3) (e := 113) (by kernel_rfl) intLaw (by kernel_rfl) rfl rfl rfl rfl rfl rfl rfl ⟨_, rfl⟩ (gl2_keys D) (gl2_inj D _) ?_
            rw [glook_gl2, hq, Option.map_some, Option.getD_some]
            simp only [go_sem, hP]
            refine raw_lookN (n := 33) (b := bm) (ka := true) (va := true) (l := gl S) (key := q.l) (zs := [0, 0, 0, 0, 0, 0, 0, 0]) (k := 113) (e := 115) (by kernel_rfl) ptLaw (by kernel_rfl) rfl rfl rfl rfl rfl rfl rfl (hqp.1.key hA hb.wh.ro.2) (gl_keys hA hb.wh.ro.2 fun e he => (hin.2.1 e he).1) (fun p _ h => kval_inj h) ?_
            obtain ⟨pre, e, post, hpre, hgl⟩ := look_any hqs
            rw [hgl, Option.getD_some]
            simp only [go_sem, hP, kav, if_true, Pt.l, List.map_cons, List.map_nil]
            (repeat ((first | refine Va ?_ | refine Vb ?_ | refine Vc ?_ | refine Vd ?_ | refine Ve ?_ | refine Vf ?_); (try simp only [go_sem, hP]); (repeat refine qJ ?_)))
            refine WV_loopK K59_3 [14, 80] (fun i : List Int × Nat × Nat × Seen × (Pt × Int × Pt) × Seen => S = i.2.2.2.1 ++ i.2.2.2.2.1 :: i.2.2.2.2.2 ∧ i.1.length + i.2.2.2.1.length ≤ S.length ∧ (i.1 ≠ [] → i.1.length ≤ i.2.1 ∧ i.2.1 ≤ maxLen ∧ i.2.1 ≤ i.1.length + i.2.2.1)) (fun i => i.2.2.2.1.length)
              (fun i => [(14, .bp 14 0), (13, accV i.1 i.2.1)]) (fun i => [(14, .box (stepAv i.2.2.2.2.1)), (80, accO i.1 i.2.2.1)]) ([], 0, 0, pre, e, post) ⟨hpre, by rw [hpre]; simp, by simp⟩ ?_ ?_
            · (refine Sub_of (by simp only [go_sem]; ((repeat' (first | exact EnvLe_e0 _ _ | refine EnvLe_upd ?_ ?_)) <;> ((try simp only [upd_app, e0_app, o0_app, Nat.reduceEqDiff, reduceIte]); first | exact AWk.refl _ _ | exact AWk.int (by omega) | exact AWk.int (by rw [w64 (by omega) (by omega)]; omega) | exact AWk.grow rfl | exact AWk.nil _ | exact AWk.of (by simp [accV, accO, stepAv])))) (by simp only [go_sem]; exact ObjLe_au))
            rintro ⟨acts, cap, j, pre1, ⟨e1, act, x⟩, post1⟩ ⟨hs1, hlen, hcap⟩
            simp only at hs1 hlen hcap
            simp only [stepAv]
            (repeat ((first | refine Va ?_ | refine Vb ?_ | refine Vc ?_ | refine Vd ?_ | refine Ve ?_ | refine Vf ?_); (try simp only [go_sem, hP]); (repeat refine qJ ?_)))
            (refine WV_cond rfl (fun h => ?_) (fun h => ?_))
            · have hne : act ≠ -2 := by simpa using h
              have hx : x ∈ sks pre1 := by
                rcases hin.1 pre1 _ post1 hs1 with h5 | h5
                · exact absurd h5 hne
                · exact h5
              have hln1 : acts.length + 1 ≤ 238291875000 := by have := hin.2.2; have h6 : 0 < pre1.length := by cases pre1 with | nil => cases hx | cons a l => simp
                                                               omega
              (refine WV_skip ?_; simp only [go_sem])
              refine WV_seq_ (WV_then (R := fun σ' => ∃ cap' j', (acts.length + 1 ≤ cap' ∧ cap' ≤ maxLen ∧ cap' ≤ acts.length + 1 + j') ∧ Sub σ' ⟨upd (upd (upd e0 9 (.c (.raw (.map (some bm))))) 14 (.bp 14 0)) 13 (.vw 1 80 0 (acts.length + 1) cap'), upd (upd (upd (upd o0 33 (gmap true true (gl S) bm)) 36 (gmap false true (gl2 D) be)) 14 (.box (stepAv (e1, act, x)))) 80 (.box (cI (acts ++ [act]) j'))⟩) ?_ (WV_block ?_))
              · rintro σ' ⟨cap', j', hcp, hsub⟩
                refine WV_sub hsub ?_
                simp only [stepAv]
                refine WV_seq_ (WV_seq_ ?_)
                (refine WV_op ?_; simp only [go_sem, hP]; (repeat refine qJ ?_))
                refine WV_drop 14 ?_
                (repeat ((first | refine Va ?_ | refine Vb ?_ | refine Vc ?_ | refine Vd ?_ | refine Ve ?_ | refine Vf ?_); (try simp only [go_sem, hP]); (repeat refine qJ ?_)))
                obtain ⟨pre2, e2, post2, hs2, hlt2, hgl2⟩ := look_pre hs1 hx
                have hxp := hin.2.1 _ (look_mem (by rw [hs1]; simp only [sks, List.map_append, List.mem_append]; exact .inl hx))
                refine raw_lookN (n := 33) (b := bm) (ka := true) (va := true) (l := gl S) (key := x.l) (zs := [0, 0, 0, 0, 0, 0, 0, 0]) (k := 113) (e := 115) (by kernel_rfl) ptLaw (by kernel_rfl) rfl rfl rfl rfl rfl rfl rfl (hxp.1.key hA hb.wh.ro.2) (gl_keys hA hb.wh.ro.2 fun e he => (hin.2.1 e he).1) (fun p _ h => kval_inj h) ?_
                rw [hgl2, Option.getD_some]
                simp only [go_sem, hP, kav, if_true, Pt.l, List.map_cons, List.map_nil]
                (repeat ((first | refine Va ?_ | refine Vb ?_ | refine Vc ?_ | refine Vd ?_ | refine Ve ?_ | refine Vf ?_); (try simp only [go_sem, hP]); (repeat refine qJ ?_)))
                have hne2 : acts ++ [act] ≠ [] := by simp
                refine ⟨(acts ++ [act], cap', j', pre2, e2, post2), ⟨hs2, by simp only [List.length_append, List.length_cons, List.length_nil]; omega, fun _ => by simpa using hcp⟩, hlt2, ?_⟩
                simp only [accV, accO, if_neg hne2, stepAv, List.length_append, List.length_cons, List.length_nil, Nat.zero_add]
                rw [cI_prg]
                exact Sub_au
              · by_cases hnil : acts = []
                · subst hnil
                  simp only [accV, accO, if_true, List.nil_append, List.length_nil, Nat.zero_add]
                  (refine WV_split 4 ?_; simp only [List.take_succ_cons, List.take_zero, List.take_nil, List.drop_succ_cons, List.drop_zero, List.drop_nil]; simp only [go_sem, hP]; (repeat refine qJ ?_))
                  (refine SOps_ops ?_; simp only [go_sem, hP]; (repeat refine qJ ?_))
                  refine ⟨by decide, fun cap' j' q1 q2 q3 => ⟨cap', j', ⟨q1, q2, by omega⟩, ?_⟩⟩
                  rw [show AV.prgL 80 (List.map AV.c [[CD.int .i64 act]].flatten ++ List.replicate j' .non) = cI [act] j' from cI_prg 80 [act] j']
                  (refine Sub_of (by simp only [go_sem]; ((repeat' (first | exact EnvLe_e0 _ _ | refine EnvLe_upd ?_ ?_)) <;> ((try simp only [upd_app, e0_app, o0_app, Nat.reduceEqDiff, reduceIte]); first | exact AWk.refl _ _ | exact AWk.int (by omega) | exact AWk.int (by rw [w64 (by omega) (by omega)]; omega) | exact AWk.grow rfl | exact AWk.nil _ | exact AWk.of (by simp [stepAv])))) (by simp only [go_sem]; exact ObjLe_au))
                · simp only [accV, accO, if_neg hnil]
                  have hl1 := cI_len acts j
                  have htk1 : (cI acts j).take (acts.length * 1) = acts.map fun n => .c (.int .i64 n) := by unfold cI; rw [Nat.mul_one, List.take_left' (by simp)]
                  have hpg2 := fun d => cI_prg d acts j
                  obtain ⟨c1, c2, c3⟩ := hcap hnil
                  (refine WV_split 4 ?_; simp only [List.take_succ_cons, List.take_zero, List.take_nil, List.drop_succ_cons, List.drop_zero, List.drop_nil]; simp only [go_sem, hP]; (repeat refine qJ ?_))
                  (refine SOps_ops ?_; simp only [go_sem, hP, hl1, htk1, hpg2]; (repeat refine qJ ?_))
                  have hmax : maxLen = 9223372036854775807 := rfl
                  refine ⟨by omega, by omega, fun cap' j' q1 q2 q3 => ⟨cap', j', ⟨q1, q2, by omega⟩, ?_⟩⟩
                  have hcI : (acts.map fun n => AV.c (.int .i64 n)) ++ List.map AV.c [[CD.int .i64 act]].flatten ++ List.replicate j' .non = cI (acts ++ [act]) j' := by simp [cI]
                  rw [hcI, cI_prg]
                  (refine Sub_of (by simp only [go_sem]; ((repeat' (first | exact EnvLe_e0 _ _ | refine EnvLe_upd ?_ ?_)) <;> ((try simp only [upd_app, e0_app, o0_app, Nat.reduceEqDiff, reduceIte]); first | exact AWk.refl _ _ | exact AWk.int (by omega) | exact AWk.int (by rw [w64 (by omega) (by omega)]; omega) | exact AWk.grow rfl | exact AWk.nil _ | exact AWk.of (by simp [stepAv])))) (by simp only [go_sem]; exact ObjLe_au))
            · rw [hflag]
              by_cases hnil : acts = []
              · simp only [accV, accO, if_pos hnil]
                (repeat ((first | refine Va ?_ | refine Vb ?_ | refine Vc ?_ | refine Vd ?_ | refine Ve ?_ | refine Vf ?_); (try simp only [go_sem, hP]); (repeat refine qJ ?_)))
                (refine AS_pu (nil66) ?_; simp only [go_sem, hP]; (repeat refine qJ ?_); (repeat ((first | refine Va ?_ | refine Vb ?_ | refine Vc ?_ | refine Vd ?_ | refine Ve ?_ | refine Vf ?_); (try simp only [go_sem, hP]); (repeat refine qJ ?_))))
                (refine WV_ret ?_; simp only [thenQ, inQ, RetQN, RetOkN, resAll, resA]; simp only [go_sem, tupA])
                refine ⟨[], _, .tup [.c (ints []), .c (.bool true)], [], by simp, by simp, rfl, AVle.tup ?_, rfl, rfl, [], rfl⟩
                exact ⟨_, _, rfl, AVle.nil 1, _, _, rfl, AVle.refl _, rfl⟩
              · simp only [accV, accO, if_neg hnil]
                have hle := fun L own => cI_lend L own acts j
                have hba := fun L => cI_back L acts.reverse j
                (repeat ((first | refine Va ?_ | refine Vb ?_ | refine Vc ?_ | refine Vd ?_ | refine Ve ?_ | refine Vf ?_); (try simp only [go_sem, hP]); (repeat refine qJ ?_)))
                refine AS_lend [80] (reverse66 acts j cap) rfl rfl rfl (by decide) rfl (by simp only [go_sem, obsLend, Ob.lend, hle]) ?_
                rintro r l' ⟨rfl, rfl⟩
                refine ⟨_, _, rfl, (by simp only [obsBack, Ob.back, hba]; rfl), ?_⟩
                simp only [go_sem, hP, ownBack]
                refine WV_freezeJ 80 (ds := acts.reverse.map (CD.int .i64)) (junk := List.replicate j .non) (show Ob.box (cI acts.reverse j) = _ by rw [cI_c]) ?_
                simp only [go_sem, hP]
                rw [grpI acts.length acts.reverse (List.length_reverse ..)]
                (repeat ((first | refine Va ?_ | refine Vb ?_ | refine Vc ?_ | refine Vd ?_ | refine Ve ?_ | refine Vf ?_); (try simp only [go_sem, hP]); (repeat refine qJ ?_)))
                (refine WV_ret ?_; simp only [thenQ, inQ, RetQN, RetOkN, resAll, resA]; simp only [go_sem, tupA])
                refine ⟨[], _, _, [], by simp, by simp, rfl, AVle.refl _, rfl, rfl, acts.reverse, rfl⟩
      · have hi : k = Ls.length := by simp at h; omega
        subst hi
        have hflag : hitB b (pur b p) = false := by
          rw [hhit, List.any_eq_false]
          intro n hn
          rw [hno n (by rw [List.take_length]; exact hn)]; simp
        rw [hflag]
        (repeat ((first | refine Va ?_ | refine Vb ?_ | refine Vc ?_ | refine Vd ?_ | refine Ve ?_ | refine Vf ?_); (try simp only [go_sem, hP]); (repeat refine qJ ?_)))
        (refine WV_ret ?_; simp only [thenQ, inQ, RetQN, RetOkN, resAll, resA]; simp only [go_sem, tupA])
        refine ⟨[], _, .tup [.c (ints []), .c (.bool false)], [], by simp, by simp, rfl, AVle.tup ?_, rfl, rfl, [], rfl⟩
        exact ⟨_, _, rfl, AVle.nil 1, _, _, rfl, AVle.refl _, rfl⟩
end Go.Proofs.Ytakplakbbidihaa

namespace Go.Proofs.Ytakplakbbidihaa
open Go Go.V
abbrev o58_0:List Ins:=[⟨some 6,.ld true 1 (.t 1),none,true⟩,
 ⟨some 7,.len (.t 6),none,true⟩,
 ⟨some 8,.bin .gtr (.t 7) (.k (.c (.int .i64 0))),none,true⟩,
 ⟨some 9,.mv (.t 8),none,true⟩,
 ⟨some 10,.ld true 1 (.t 2),(some (9,true)),false⟩,
 ⟨some 11,.mv (.t 0),(some (9,true)),false⟩,
 ⟨some 12,.call (.k (.fn 25 [])) [(.t 10),(.t 11)],(some (9,true)),false⟩,
 ⟨some 13,.ld true 1 (.t 2),(some (9,true)),false⟩,
 ⟨some 14,.ld true 1 (.t 1),(some (9,true)),false⟩,
 ⟨some 15,.ia 2 (.t 14) (.k (.c (.int .i64 0))),(some (9,true)),false⟩,
 ⟨some 16,.fa 0 (.t 15),(some (9,true)),false⟩,
 ⟨some 17,.ld true 1 (.t 16),(some (9,true)),false⟩,
 ⟨some 18,.call (.k (.fn 25 [])) [(.t 13),(.t 17)],(some (9,true)),true⟩,
 ⟨some 19,.bin .gtr (.t 12) (.t 18),(some (9,true)),true⟩,
 ⟨some 20,.pick (.t 9) (.t 19) (.k (.c (.bool false))),none,true⟩]
abbrev v58_1:VC:=(.cond (.t 20) .ret .skip)
abbrev o58_2:List Ins:=[⟨some 22,.ld true 1 (.t 2),none,true⟩,
 ⟨some 23,.mv (.t 0),none,true⟩,
 ⟨some 24,.call (.k (.fn 59 [])) [(.t 22),(.t 23)],none,true⟩,
 ⟨some 21,.mv (.t 24),none,true⟩,
 ⟨some 25,.ext (.t 21) 0,none,true⟩,
 ⟨some 26,.ext (.t 21) 1,none,true⟩,
 ⟨some 4,.mv (.t 25),none,true⟩,
 ⟨some 5,.mv (.t 26),none,true⟩]
abbrev o58_3:List Ins:=[⟨some 27,.mv (.t 5),none,true⟩,
 ⟨some 28,.un .not (.t 27),none,true⟩]
abbrev v58_4:VC:=(.cond (.t 28) .ret .skip)
abbrev o58_5:List Ins:=[⟨some 29,.ld true 1 (.t 1),none,true⟩,
 ⟨some 30,.len (.t 29),none,true⟩,
 ⟨some 31,.bin .gtr (.t 30) (.k (.c (.int .i64 0))),none,true⟩,
 ⟨some 32,.mv (.t 31),none,true⟩,
 ⟨some 33,.ld true 1 (.t 2),(some (32,true)),false⟩,
 ⟨some 34,.mv (.t 0),(some (32,true)),false⟩,
 ⟨some 35,.call (.k (.fn 25 [])) [(.t 33),(.t 34)],(some (32,true)),false⟩,
 ⟨some 36,.ld true 1 (.t 2),(some (32,true)),false⟩,
 ⟨some 37,.ld true 1 (.t 1),(some (32,true)),false⟩,
 ⟨some 38,.ia 2 (.t 37) (.k (.c (.int .i64 0))),(some (32,true)),false⟩,
 ⟨some 39,.fa 0 (.t 38),(some (32,true)),false⟩,
 ⟨some 40,.ld true 1 (.t 39),(some (32,true)),false⟩,
 ⟨some 41,.call (.k (.fn 25 [])) [(.t 36),(.t 40)],(some (32,true)),true⟩,
 ⟨some 42,.bin .lss (.t 35) (.t 41),(some (32,true)),true⟩,
 ⟨some 43,.pick (.t 32) (.t 42) (.k (.c (.bool false))),none,true⟩]
abbrev o58_6:List Ins:=[⟨none,.st 1 (.t 1) (.k (.c (.raw (.slice none 0 0)))),none,true⟩]
abbrev v58_7:VC:=(.cond (.t 43) (.ops o58_6) .skip)
abbrev o58_8:List Ins:=[⟨some 44,.ld true 1 (.t 1),none,true⟩,
 ⟨some 45,.mv (.t 0),none,true⟩,
 ⟨some 46,.mv (.t 4),none,true⟩,
 ⟨some 47,.bld [(.c (.raw (.slice none 0 0))),(.c (.raw (.slice none 0 0)))] [(0,1,(.t 45)),(1,1,(.t 46))],none,true⟩,
 ⟨some 48,.bsl 79 2 [(.t 47)],none,true⟩,
 ⟨some 49,.app 79 2 48 (.t 44) (.t 48),none,true⟩,
 ⟨none,.st 1 (.t 1) (.t 49),none,true⟩]
abbrev v58_9:VC:=(.seq (.seq (.dops o58_5) v58_7) (.ops o58_8))
abbrev v58_10:VC:=(.seq (.seq (.ops o58_3) v58_4) v58_9)
abbrev v58_11:VC:=(.seq (.ops o58_2) v58_10)
def ir58:FC:=⟨3,50,[],(.seq (.seq (.dops o58_0) v58_1) v58_11)⟩
theorem c58:compM Try.prog [] 58 = some ir58:=by kernel_rfl
attribute [local go_sem] Nat.reduceEqDiff Nat.reduceAdd Nat.reduceMul reduceIte Nat.reduceLeDiff Nat.reduceLT Nat.reduceBEq reduceCtorEq
abbrev Gaps:=List (List Int × List Int)
def gapC (g:List Int × List Int):List CD:=[ints g.1,ints g.2]
def gapsC (G:Gaps):List (List CD):=G.map gapC
theorem gapsC_len (G:Gaps):(gapsC G).length = G.length:=List.length_map _
theorem gapsC_two (G:Gaps):((gapsC G).all fun e => e.length == 2) = true:=by
 rw [List.all_eq_true]; intro e he; obtain ⟨n,_,rfl⟩:=List.mem_map.1 he; rfl
theorem gapsC_snoc (G:Gaps) (g:List Int × List Int):gapsC (G ++ [g]) = gapsC G ++ [[ints g.1,ints g.2]]:=by simp [gapsC,gapC]
def fndS (b:Bx) (F:List (List Int)) (p:List Int):List (List Int) :=
 if decide (0 < F.length) && decide (worth b.wh (F.getD 0 []) < worth b.wh p) then F
 else if hitB b (pur b p) then (if decide (0 < F.length) && decide (worth b.wh p < worth b.wh (F.getD 0 [])) then [p] else F ++ [p]) else F
def gpur (G:Gaps):List (List Int):=G.map (·.1)
theorem gpur_snoc (G:Gaps) (g:List Int × List Int):gpur (G ++ [g]) = gpur G ++ [g.1]:=by simp [gpur]
theorem pur14 {b:Bx} {p:List Int} (hp:PurOk b p):∀ n ∈ p,0 ≤ n ∧ n ≤ 14:=fun n hn => by
 have h1:=hp.nn n hn
 have h2:n ≤ p.sum:=by
  have key:∀ l:List Int,(∀ x ∈ l,0 ≤ x) → ∀ n ∈ l,n ≤ l.sum ∧ 0 ≤ l.sum:=by
   intro l
   induction l with
   | nil => intro _ n hn; cases hn
   | cons a l ih =>
    intro h n hn
    have h0:0 ≤ l.sum:=by
     cases l with
     | nil => simp
     | cons c l => exact (ih (fun x hx => h x (by simp [hx])) c (by simp)).2
    have ha:=h a (by simp)
    simp only [List.sum_cons]
    rcases List.mem_cons.1 hn with rfl | hn
    ·omega
    ·have:=(ih (fun x hx => h x (by simp [hx])) n hn).1; omega
  exact (key p hp.nn n hn).1
 have:=hp.sum
 omega
structure GapsOk (b:Bx) (G:Gaps):Prop where
 ok:∀ g ∈ G,PurOk b g.1
 len:G.length ≤ 100000
theorem drop_sub {env:Nat → AV} {own:Nat → Ob} (n:Nat):Sub ⟨env,own⟩ ⟨env,upd own n .none⟩:=Sub_of (fun s => AWk.refl _ _) (fun m => by
 show upd own n .none m = own m ∨ upd own n .none m = .none
 rw [upd_app]
 split
 ·exact .inr rfl
 ·exact .inl rfl)
set_option maxHeartbeats 8000000 in
set_option maxRecDepth 20000 in
theorem found58 {b:Bx} (hwb:whB b.wh = true) (hb:BxOk b) {p:List Int} (hp:PurOk b p) {G:Gaps} (hG:GapsOk b G):FSpecL Try.prog 58 [.c (ints p),.bp 1000 0,.bp 1001 0] [.box [.gr 1002],.box [.c (.pt b.cds)],.grow 79 2 (gapsC G)] []
  (fun r l' => r = .tup [] ∧ ∃ G',gpur G' = fndS b (gpur G) p ∧ l' = [.box [.gr 1002],.box [.c (.pt b.cds)],.grow 79 2 (gapsC G')]):=by
 have hmax:maxLen = 9223372036854775807:=rfl
 have hGl:=hG.len
 have hwp:=worth25 hb.wh hp.len (pur14 hp)
 have hex:=explain59 hwb hb hp
 obtain ⟨Post,hPost⟩ : ∃ Post:AV → List Ob → Prop,Post = fun r l' => r = .tup [] ∧ ∃ G',gpur G' = fndS b (gpur G) p ∧ l' = [.box [.gr 1002],.box [.c (.pt b.cds)],.grow 79 2 (gapsC G')]:=⟨_,rfl⟩
 rw [← hPost]
 have hfn:∀ G',gpur G' = fndS b (gpur G) p → Post (.tup []) [.box [.gr 1002],.box [.c (.pt b.cds)],.grow 79 2 (gapsC G')]:=fun G' h => by rw [hPost]; exact ⟨rfl,G',h,rfl⟩
 clear hPost
 refine FSpecL_ofX c58 (by first | simp | exact Nat.le_of_ble_eq_true rfl) (Nat.le_refl _) (by decide) (by decide) fun C hP hN hC hpin hL => ?_; rw [init_env',ownW_upd (by first | simp | exact Nat.le_of_ble_eq_true rfl)]; simp only [ir58,updL,updLo,List.map_nil,List.map_cons,Nat.reduceAdd,]
 -- one gap more
 have app:∀ acts,gpur (G ++ [(p,acts)]) = fndS b (gpur G) p → WV C (.ops o58_8) (RetQL [] [.box [.gr 1002],.box [.c (.pt b.cds)],.grow 79 2 (gapsC G)] [] Post) ⟨upd (upd (upd e0 4 (.c (ints acts))) 1 (.bp 1000 0)) 0 (.c (ints p)),upd (upd (upd o0 1000 (.box [.gr 1002])) 1001 (.box [.c (.pt b.cds)])) 1002 (.grow 79 2 (gapsC G))⟩:=fun acts hg => by
  have n1:=gapsC_len G
  have n2:=gapsC_two G
  have n3:=gapsC_snoc G (p,acts)
  have hpa:=hfn _ hg
  refine WV_post ?_
  (repeat ((first | refine Va ?_ | refine Vb ?_ | refine Vc ?_ | refine Vd ?_ | refine Ve ?_ | refine Vf ?_); (try simp only [go_sem,hP,n1,n2]); (repeat refine qJ ?_)))
  refine ⟨_,fun a w hg => Gam_move (d:=49) (n:=1002) (by decide) (fun hq => by have h2:false = true:=hpin 1002 hq; cases h2) rfl hg,?_⟩
  unfold rnO
  simp only [go_sem,rnP_upd,rnE_upd,rnE_e0,rnP_o0,AV.rn,AV.rnL,Ob.rn]
  rw [← n3]
  ((try simp only [thenQ,inQ,RetQL,RetOkL,resAll,resA]); (try simp only [go_sem,tupA,AV.keepP,AV.keepPL]); refine ⟨_,[.box [.gr 1002],.box [.c (.pt b.cds)],.grow 79 2 (gapsC (G ++ [(p,acts)]))],rfl,KeepL_mk rfl rfl ?_ ?_ rfl,?_⟩)
  ·simp only [go_sem,keepAll,Ob.keepP,AV.keepP,AV.keepPL]
  ·trivial
  ·exact hpa
 have one:∀ acts,gpur [(p,acts)] = fndS b (gpur G) p → WV C (.ops o58_8) (RetQL [] [.box [.gr 1002],.box [.c (.pt b.cds)],.grow 79 2 (gapsC G)] [] Post) ⟨upd (upd (upd e0 4 (.c (ints acts))) 1 (.bp 1000 0)) 0 (.c (ints p)),upd (upd (upd o0 1000 (.box [.c (.raw (.slice none 0 0))])) 1001 (.box [.c (.pt b.cds)])) 1002 (.grow 79 2 (gapsC G))⟩:=fun acts hg => by
  have hpa:=hfn _ hg
  refine WV_post ?_
  (repeat ((first | refine Va ?_ | refine Vb ?_ | refine Vc ?_ | refine Vd ?_ | refine Ve ?_ | refine Vf ?_); (try simp only [go_sem,hP]); (repeat refine qJ ?_)))
  refine ⟨_,fun a w hg => Gam_move (d:=49) (n:=1002) (by decide) (fun hq => by have h2:false = true:=hpin 1002 hq; cases h2) rfl (drop_sub 1002 C a w hg),?_⟩
  unfold rnO
  simp only [go_sem,rnP_upd,rnE_upd,rnE_e0,rnP_o0,AV.rn,AV.rnL,Ob.rn]
  ((try simp only [thenQ,inQ,RetQL,RetOkL,resAll,resA]); (try simp only [go_sem,tupA,AV.keepP,AV.keepPL]); refine ⟨_,[.box [.gr 1002],.box [.c (.pt b.cds)],.grow 79 2 (gapsC [(p,acts)])],rfl,KeepL_mk rfl rfl ?_ ?_ rfl,?_⟩)
  ·simp only [go_sem,keepAll,Ob.keepP,AV.keepP,AV.keepPL,gapsC,gapC,List.map_cons,List.map_nil]
  ·trivial
  ·exact hpa
 cases G with
 | nil =>
  have e0:gapsC [] = []:=rfl
  have d0:decide ((0:Int) < ((0:Nat):Int)) = false:=rfl
  have hfn1:∀ a,hitB b (pur b p) = true → gpur ([] ++ [(p,a)]) = fndS b (gpur []) p:=fun a h => by simp [gpur,fndS,h]
  have hfn0:hitB b (pur b p) = false → gpur [] = fndS b (gpur []) p:=fun h => by simp [gpur,fndS,h]
  rw [e0] at app ⊢
  (repeat ((first | refine Va ?_ | refine Vb ?_ | refine Vc ?_ | refine Vd ?_ | refine Ve ?_ | refine Vf ?_); (try simp only [go_sem,hP,d0]); (repeat refine qJ ?_)))
  refine ACallG_skip (iv 0) rfl ?_
  simp only [go_sem,hP,d0]
  (repeat ((first | refine Va ?_ | refine Vb ?_ | refine Vc ?_ | refine Vd ?_ | refine Ve ?_ | refine Vf ?_); (try simp only [go_sem,hP,d0]); (repeat refine qJ ?_)))
  (refine AG_skip ?_; simp only [go_sem,hP,d0]; (repeat refine qJ ?_); (repeat ((first | refine Va ?_ | refine Vb ?_ | refine Vc ?_ | refine Vd ?_ | refine Ve ?_ | refine Vf ?_); (try simp only [go_sem,hP,d0]); (repeat refine qJ ?_))))
  refine WV_keep [0,1,2,20] ?_
  simp only [go_sem]
  (refine WV_cond rfl (fun h => ?_) (fun h => ?_))
  ·simp at h
  (repeat ((first | refine Va ?_ | refine Vb ?_ | refine Vc ?_ | refine Vd ?_ | refine Ve ?_ | refine Vf ?_); (try simp only [go_sem,hP,d0]); (repeat refine qJ ?_)))
  refine AS_new hex rfl rfl rfl rfl ?_
  rintro _ _ ⟨rfl,acts,rfl⟩
  refine ⟨[],_,_,by simp,rfl,rfl,rfl,rfl,?_⟩
  simp only [go_sem,hP,ownBack]
  have hap:=app acts
  generalize hitB b (pur b p) = hit at hfn1 hfn0
  cases hit with
  | false =>
   have h0:=hfn [] (hfn0 rfl)
   (repeat ((first | refine Va ?_ | refine Vb ?_ | refine Vc ?_ | refine Vd ?_ | refine Ve ?_ | refine Vf ?_); (try simp only [go_sem,hP,d0]); (repeat refine qJ ?_)))
   (refine WV_cond rfl (fun h => ?_) (fun h => ?_))
   ·(refine WV_ret ?_; simp only [thenQ,inQ,RetQL,RetOkL,resAll,resA]; simp only [go_sem,tupA,AV.keepP,AV.keepPL]; refine ⟨_,[.box [.gr 1002],.box [.c (.pt b.cds)],.grow 79 2 []],rfl,KeepL_mk rfl rfl ?_ ?_ rfl,?_⟩)
    ·simp only [go_sem,keepAll,Ob.keepP,AV.keepP,AV.keepPL]
    ·trivial
    ·exact h0
   ·simp at h
  | true =>
   have h0:=app acts (hfn1 acts rfl)
   (repeat ((first | refine Va ?_ | refine Vb ?_ | refine Vc ?_ | refine Vd ?_ | refine Ve ?_ | refine Vf ?_); (try simp only [go_sem,hP,d0]); (repeat refine qJ ?_)))
   (refine WV_cond rfl (fun h => ?_) (fun h => ?_))
   ·simp at h
   (repeat ((first | refine Va ?_ | refine Vb ?_ | refine Vc ?_ | refine Vd ?_ | refine Ve ?_ | refine Vf ?_); (try simp only [go_sem,hP,d0]); (repeat refine qJ ?_)))
   refine ACallG_skip (iv 0) rfl ?_
   simp only [go_sem,hP,d0]
   (repeat ((first | refine Va ?_ | refine Vb ?_ | refine Vc ?_ | refine Vd ?_ | refine Ve ?_ | refine Vf ?_); (try simp only [go_sem,hP,d0]); (repeat refine qJ ?_)))
   (refine AG_skip ?_; simp only [go_sem,hP,d0]; (repeat refine qJ ?_); (repeat ((first | refine Va ?_ | refine Vb ?_ | refine Vc ?_ | refine Vd ?_ | refine Ve ?_ | refine Vf ?_); (try simp only [go_sem,hP,d0]); (repeat refine qJ ?_))))
   (refine WV_cond rfl (fun h => ?_) (fun h => ?_))
   ·simp at h
   ·refine WV_skip ?_
    simp only [go_sem,d0]
    exact WV_keep [0,1,4] h0
 | cons g0 G0 =>
  obtain ⟨p0,a0,hp0,hg0,hgp,hl0⟩ : ∃ p0 a0,PurOk b p0 ∧ (gapsC (g0 :: G0)).getD 0 [] = [ints p0,ints a0] ∧ (gpur (g0 :: G0)).getD 0 [] = p0 ∧ 0 < (gpur (g0 :: G0)).length:=⟨g0.1,g0.2,hG.ok _ (by simp),rfl,rfl,by simp [gpur]⟩
  have d1:decide ((0:Int) < (((g0 :: G0).length:Nat):Int)) = true:=by simp
  generalize g0 :: G0 = G at *
  have n1:=gapsC_len G
  have n2:=gapsC_two G
  have hnp:0 < G.length:=by simpa [gpur] using hl0
  have hf:fndS b (gpur G) p = if decide (worth b.wh p0 < worth b.wh p) then gpur G else if hitB b (pur b p) then (if decide (worth b.wh p < worth b.wh p0) then [p] else gpur G ++ [p]) else gpur G:=by
   unfold fndS
   rw [hgp,decide_eq_true hl0,Bool.true_and,Bool.true_and]
  have hw0:=worth25 hb.wh hp0.len (pur14 hp0)
  rw [hf] at hfn app one
  (repeat ((first | refine Va ?_ | refine Vb ?_ | refine Vc ?_ | refine Vd ?_ | refine Ve ?_ | refine Vf ?_); (try simp only [go_sem,hP,n1,d1]); (repeat refine qJ ?_)))
  (refine ACallG_of (fun hG => hwp) rfl (fun hG => by simp only [go_sem,hG]) rfl rfl rfl ?_; simp only [go_sem,hP,n1,n2,d1,hg0,Int.toNat_zero,hnp]; (repeat refine qJ ?_); (repeat ((first | refine Va ?_ | refine Vb ?_ | refine Vc ?_ | refine Vd ?_ | refine Ve ?_ | refine Vf ?_); (try simp only [go_sem,hP,n1,n2,d1,hg0,Int.toNat_zero,hnp]); (repeat refine qJ ?_))))
  (refine AG_pu (fun hG => hw0) ?_; simp only [go_sem,hP,n1,n2,d1]; (repeat refine qJ ?_); (repeat ((first | refine Va ?_ | refine Vb ?_ | refine Vc ?_ | refine Vd ?_ | refine Ve ?_ | refine Vf ?_); (try simp only [go_sem,hP,n1,n2,d1]); (repeat refine qJ ?_))))
  refine WV_keep [0,1,2,20] ?_
  simp only [go_sem]
  by_cases hgt:worth b.wh p0 < worth b.wh p
  ·have h0:=hfn G (by rw [decide_eq_true hgt,if_pos rfl])
   (refine WV_cond rfl (fun h => ?_) (fun h => ?_))
   ·(refine WV_ret ?_; simp only [thenQ,inQ,RetQL,RetOkL,resAll,resA]; simp only [go_sem,tupA,AV.keepP,AV.keepPL]; refine ⟨_,[.box [.gr 1002],.box [.c (.pt b.cds)],.grow 79 2 (gapsC G)],rfl,KeepL_mk rfl rfl ?_ ?_ rfl,?_⟩)
    ·simp only [go_sem,keepAll,Ob.keepP,AV.keepP,AV.keepPL]
    ·trivial
    ·exact h0
   ·simp [hgt] at h
  rw [decide_eq_false hgt,if_neg (by decide)] at hfn app one
  (refine WV_cond rfl (fun h => ?_) (fun h => ?_))
  ·simp [hgt] at h
  (repeat ((first | refine Va ?_ | refine Vb ?_ | refine Vc ?_ | refine Vd ?_ | refine Ve ?_ | refine Vf ?_); (try simp only [go_sem,hP,n1,d1]); (repeat refine qJ ?_)))
  refine AS_new hex rfl rfl rfl rfl ?_
  rintro _ _ ⟨rfl,acts,rfl⟩
  refine ⟨[],_,_,by simp,rfl,rfl,rfl,rfl,?_⟩
  simp only [go_sem,hP,ownBack]
  have hap:=app acts
  have hon:=one acts
  generalize hitB b (pur b p) = hit at hfn hap hon
  cases hit with
  | false =>
   have h0:=hfn G rfl
   (repeat ((first | refine Va ?_ | refine Vb ?_ | refine Vc ?_ | refine Vd ?_ | refine Ve ?_ | refine Vf ?_); (try simp only [go_sem,hP,n1,d1]); (repeat refine qJ ?_)))
   (refine WV_cond rfl (fun h => ?_) (fun h => ?_))
   ·(refine WV_ret ?_; simp only [thenQ,inQ,RetQL,RetOkL,resAll,resA]; simp only [go_sem,tupA,AV.keepP,AV.keepPL]; refine ⟨_,[.box [.gr 1002],.box [.c (.pt b.cds)],.grow 79 2 (gapsC G)],rfl,KeepL_mk rfl rfl ?_ ?_ rfl,?_⟩)
    ·simp only [go_sem,keepAll,Ob.keepP,AV.keepP,AV.keepPL]
    ·trivial
    ·exact h0
   ·simp at h
  | true =>
   rw [if_pos rfl] at hap hon
   (repeat ((first | refine Va ?_ | refine Vb ?_ | refine Vc ?_ | refine Vd ?_ | refine Ve ?_ | refine Vf ?_); (try simp only [go_sem,hP,n1,d1]); (repeat refine qJ ?_)))
   (refine WV_cond rfl (fun h => ?_) (fun h => ?_))
   ·simp at h
   (repeat ((first | refine Va ?_ | refine Vb ?_ | refine Vc ?_ | refine Vd ?_ | refine Ve ?_ | refine Vf ?_); (try simp only [go_sem,hP,n1,d1]); (repeat refine qJ ?_)))
   (refine ACallG_of (fun hG => hwp) rfl (fun hG => by simp only [go_sem,hG]) rfl rfl rfl ?_; simp only [go_sem,hP,n1,n2,d1,hg0,Int.toNat_zero,hnp]; (repeat refine qJ ?_); (repeat ((first | refine Va ?_ | refine Vb ?_ | refine Vc ?_ | refine Vd ?_ | refine Ve ?_ | refine Vf ?_); (try simp only [go_sem,hP,n1,n2,d1,hg0,Int.toNat_zero,hnp]); (repeat refine qJ ?_))))
   (refine AG_pu (fun hG => hw0) ?_; simp only [go_sem,hP,n1,n2,d1]; (repeat refine qJ ?_); (repeat ((first | refine Va ?_ | refine Vb ?_ | refine Vc ?_ | refine Vd ?_ | refine Ve ?_ | refine Vf ?_); (try simp only [go_sem,hP,n1,n2,d1]); (repeat refine qJ ?_))))
   by_cases hlt:worth b.wh p < worth b.wh p0
   ·rw [decide_eq_true hlt,if_pos rfl] at hon
    (refine WV_cond rfl (fun h => ?_) (fun h => ?_))
    ·(refine WV_op ?_; simp only [go_sem,hP]; (repeat refine qJ ?_))
     refine WV_sub ?_ (hon rfl)
     exact Sub_au
    ·simp [hlt] at h
   ·rw [decide_eq_false hlt,if_neg (by decide)] at hap
    (refine WV_cond rfl (fun h => ?_) (fun h => ?_))
    ·simp [hlt] at h
    ·refine WV_skip ?_
     simp only [go_sem,n1]
     exact WV_keep [0,1,4] (hap (gpur_snoc G (p,acts)))
end Go.Proofs.Ytakplakbbidihaa

/-
 Vans and rides: plain.
-/
namespace Go.Proofs.Ytakplakbbidihaa
open Go Go.V
structure Van where
 at_:Nat
 now:Int
 long:Int
 deriving DecidableEq,Inhabited
def vanv (r:Route) (v:Van):AV:=.agg [.c (.pt r.cds),iv v.at_,iv v.now,iv v.long]
def Route.n (r:Route):Nat:=r.stops.length
def Route.d (r:Route) (i j:Nat):Int:=(r.drive.getD i []).getD j 0
def Route.s (r:Route) (i:Nat):Stop:=r.stops.getD i default
def leave (r:Route):Van:=⟨r.n,r.start,0⟩
def drv (r:Route) (v:Van) (to:Nat):Van:=⟨to,v.now + r.d v.at_ to,v.long + r.d v.at_ to⟩
def visit (r:Route) (v:Van) (k:Nat):Van × Int × Bool :=
 if (r.s k).cl < (drv r v k).now then (drv r v k,0,false)
 else ({ drv r v k with now:=max (drv r v k).now (r.s k).op + (r.s k).st },max (drv r v k).now (r.s k).op,true)
structure RouteOk (r:Route):Prop where
 n7:r.n ≤ 7
 dl:r.drive.length = r.n + 1
 st:0 ≤ r.start ∧ r.start ≤ 1440
 stop:∀ k,k < r.n → 0 ≤ (r.s k).op ∧ (r.s k).op ≤ (r.s k).cl ∧ (r.s k).cl ≤ 1440 ∧ 0 ≤ (r.s k).st ∧ (r.s k).st ≤ 1440 ∧ 0 ≤ (r.s k).ca ∧ (r.s k).ca ≤ 99999
 row:∀ i,i < r.n + 1 → (r.drive.getD i []).length = r.n + 1
 cell:∀ i j,i < r.n + 1 → j < r.n + 1 → 0 ≤ r.d i j ∧ r.d i j ≤ 999
 diag:∀ i,i < r.n + 1 → r.d i i = 0
theorem Route.ok_spec {r:Route} (h:r.ok = true):RouteOk r:=by
 simp only [Route.ok,Bool.and_eq_true,decide_eq_true_eq,beq_iff_eq] at h
 obtain ⟨⟨⟨⟨h1,h2⟩,h3⟩,h4⟩,h5⟩:=h
 have hrow:∀ i,i < r.n + 1 → okRow (r.n + 1) i (r.drive.getD i []) = true:=by
  intro i hi
  have hi':i < r.drive.length:=by unfold Route.n at hi; omega
  have:=List.all_eq_true.1 h5 (r.drive[i],i) (by rw [List.mem_zipIdx_iff_getElem?]; simp [hi'])
  rw [h2] at this
  rw [List.getD_eq_getElem?_getD,List.getElem?_eq_getElem hi']
  exact this
 have hr2:∀ i,i < r.n + 1 → (r.drive.getD i []).length = r.n + 1 ∧ (r.drive.getD i []).getD i 0 = 0 ∧ ∀ n ∈ r.drive.getD i [],within n 0 999 = true:=by
  intro i hi
  have:=hrow i hi
  rw [okRow_eq hi] at this
  simp only [Bool.and_eq_true,beq_iff_eq,List.all_eq_true] at this
  exact ⟨this.1.1,this.1.2,this.2⟩
 refine ⟨h1,h2,by simpa [within] using h3,fun k hk => ?_,fun i hi => (hr2 i hi).1,fun i j hi hj => ?_,fun i hi => (hr2 i hi).2.1⟩
 ·have hk':k < r.stops.length:=hk
  have:=List.all_eq_true.1 h4 r.stops[k] (List.getElem_mem hk')
  have e:r.s k = r.stops[k]:=by simp [Route.s,hk']
  rw [e]
  simp [okStop,within] at this
  omega
 ·have hj':j < (r.drive.getD i []).length:=by rw [(hr2 i hi).1]; exact hj
  have:=(hr2 i hi).2.2 _ (List.getElem_mem hj')
  have e:r.d i j = (r.drive.getD i [])[j]:=by simp only [Route.d]; rw [List.getD_eq_getElem?_getD (l:=r.drive.getD i []),List.getElem?_eq_getElem hj']; rfl
  rw [e]
  simpa [within] using this
structure VanOk (r:Route) (v:Van) (k:Nat):Prop where
 at_:v.at_ < r.n + 1
 now:0 ≤ v.now ∧ v.now ≤ 2880
 long:0 ≤ v.long ∧ v.long ≤ 999 * k
theorem leave_ok {r:Route} (h:RouteOk r):VanOk r (leave r) 0:=⟨by simp [leave],by have:=h.st; simp [leave]; omega,by simp [leave]⟩
theorem visit_ok {r:Route} (h:RouteOk r) {v:Van} {k i:Nat} (hv:VanOk r v i) (hk:k < r.n) (hm:(visit r v k).2.2 = true):VanOk r (visit r v k).1 (i + 1):=by
 have hc:=h.cell v.at_ k hv.at_ (by omega)
 have hs:=h.stop k hk
 have h1:=hv.now
 have h2:=hv.long
 unfold visit at hm ⊢
 split at hm
 ·cases hm
 ·rename_i hcl
  rw [if_neg hcl]
  simp only [drv] at hcl ⊢
  exact ⟨by simp only; omega,by simp only; omega,by simp only; omega⟩
def seenC (l:List Int):List AV:=(List.range 7).map fun (j:Nat) => .c (.bool (decide ((j:Int) ∈ l)))
theorem seenC_len (l:List Int):(seenC l).length = 7:=by simp [seenC]
theorem seenC_get (l:List Int) {j:Nat} (h:j < 7) (d:AV):(seenC l).getD j d = .c (.bool (decide ((j:Int) ∈ l))):=by
 unfold seenC
 rw [List.getD_eq_getElem?_getD,List.getElem?_map,List.getElem?_range h]; rfl
theorem seenC_set (l:List Int) {j:Nat} (h:j < 7):(seenC l).set j (.c (.bool true)) = seenC (l ++ [(j:Int)]):=by
 apply List.ext_getElem
 ·simp [seenC]
 ·intro n h1 h2
  have hn:n < 7:=by simpa [seenC] using h1
  rw [List.getElem_set]
  split
  ·rename_i e; subst e; simp [seenC]
  ·rename_i e
   have:¬ (n:Int) = (j:Int):=by omega
   simp [seenC,this]
def home (r:Route) (ks:List Nat) (v:Van):Van:=if ks = [] then v else drv r v r.n
def nats (l:List Nat):CD:=ints (l.map fun (n:Nat) => (n:Int))
def ext (r:Route):Nat → List Nat → Van → List (List Nat × Van)
 | 0,t,v => [(t,v)]
 | f + 1,t,v => (t,v) :: (List.range r.n).flatMap fun k => if k ∈ t then [] else if (visit r v k).2.2 then ext r f (t ++ [k]) (visit r v k).1 else []
def goods (r:Route):List (List Nat × Van):=ext r (r.n + 1) [] (leave r)
def cellsT (t:List Nat):List AV:=t.map fun (k:Nat) => iv (k:Int)
def entT (r:Route) (p:List Nat × Van):Ent:=⟨[.vw 1 2000 0 p.1.length r.n,vanv r p.2],[cellsT p.1],.c (.bool true)⟩
theorem cellsT_len (t:List Nat):(cellsT t).length = t.length:=by simp [cellsT]
theorem cellsT_pure (t:List Nat):AV.pureL (cellsT t) = true:=by
 induction t with
 | nil => rfl
 | cons a t ih => simp only [cellsT,List.map_cons,AV.pureL,AV.pureB,Bool.true_and]; exact ih
theorem toCD_cells (own:Nat → Ob) (t:List Nat):(cellsT t).mapM (AV.toCD own) = some (t.map fun (k:Nat) => CD.int .i64 (k:Int)):=by
 induction t with
 | nil => rfl
 | cons a t ih => simp only [cellsT,List.map_cons,List.mapM_cons,AV.toCD,Option.pure_def,Option.bind_eq_bind,Option.bind_some] at ih ⊢; rw [ih]; rfl
theorem grp_one {α:Type}:∀ l:List α,grp 1 l.length l = l.map fun x => [x]
 | [] => rfl
 | a :: l => by simp [grp,grp_one l]
theorem elemsV_T {own:Nat → Ob} {n:Nat} {t:List Nat} {junk:List AV} {len cap:Nat} (h:(own n).cellsR = some (cellsT t ++ junk)) (hl:len = t.length):AV.elemsV own (.vw 1 n 0 len cap) = some (1,(t.map fun (k:Nat) => (k:Int)).map fun n => [CD.int .i64 n]):=by
 subst hl
 simp only [AV.elemsV,h]
 rw [if_pos (by simp [cellsT_len])]
 simp only [List.drop_zero,Nat.mul_one]
 rw [List.take_left' (cellsT_len t),toCD_cells]
 simp only [Option.map_some]
 have:=grp_one (t.map fun (k:Nat) => CD.int .i64 (k:Int))
 rw [List.length_map] at this
 rw [this,List.map_map,List.map_map]
 rfl
theorem cellsT_solid (t:List Nat):AV.isSolidL (cellsT t) = true:=by
 induction t with
 | nil => rfl
 | cons a t ih => simp only [cellsT,List.map_cons,AV.isSolidL,AV.isSolid,Bool.true_and]; exact ih
theorem pureL_append {a b:List AV} (ha:AV.pureL a = true) (hb:AV.pureL b = true):AV.pureL (a ++ b) = true:=by
 induction a with
 | nil => exact hb
 | cons x a ih => simp only [AV.pureL,Bool.and_eq_true,List.cons_append] at ha ⊢; exact ⟨ha.1,ih ha.2⟩
theorem solidL_append {a b:List AV} (ha:AV.isSolidL a = true) (hb:AV.isSolidL b = true):AV.isSolidL (a ++ b) = true:=by
 induction a with
 | nil => exact hb
 | cons x a ih => simp only [AV.isSolidL,Bool.and_eq_true,List.cons_append] at ha ⊢; exact ⟨ha.1,ih ha.2⟩
theorem cellsT_set (t:List Nat) (a:AV) (junk:List AV) (k:Nat):(cellsT t ++ a :: junk).set t.length (iv (k:Int)) = cellsT (t ++ [k]) ++ junk:=by
 have h:=cellsT_len t
 rw [List.set_append,if_neg (by omega),show t.length - (cellsT t).length = 0 from by omega]
 simp [cellsT]
theorem tour_len {n:Nat} {t:List Nat} (h:t.Nodup) (hl:∀ k ∈ t,k < n):t.length ≤ n:=by
 have:=h.length_le_of_subset (l₂:=List.range n) (fun k hk => List.mem_range.2 (hl k hk))
 simpa using this
theorem mem_cast {t:List Nat} {k:Nat}:decide ((k:Int) ∈ t.map fun (k:Nat) => (k:Int)) = decide (k ∈ t):=by
 rw [decide_eq_decide,List.mem_map]
 constructor
 ·rintro ⟨a,ha,e⟩; have:a = k:=by omega
  exact this ▸ ha
 ·intro h; exact ⟨k,h,rfl⟩
def isW (r:Route) (p:List Nat × Van):Bool:=!decide (p.1.length < r.n)
def atHome (r:Route) (p:List Nat × Van):Van:=home r p.1 p.2
def wholes (r:Route):List (List Nat × Van):=(goods r).filter (isW r)
def entW (r:Route) (p:List Nat × Van):Ent:=⟨[.vw 1 2000 0 p.1.length r.n,vanv r (atHome r p)],[cellsT p.1],.tup []⟩
theorem ext_ok {r:Route} (hr:RouteOk r):∀ (f:Nat) (t:List Nat) (v:Van),t.Nodup → (∀ k ∈ t,k < r.n) → VanOk r v t.length → ∀ p ∈ ext r f t v,p.1.Nodup ∧ (∀ k ∈ p.1,k < r.n) ∧ VanOk r p.2 p.1.length
 | 0,t,v,h1,h2,h3,p,hp => by simp only [ext,List.mem_singleton] at hp; subst hp; exact ⟨h1,h2,h3⟩
 | f + 1,t,v,h1,h2,h3,p,hp => by
  simp only [ext,List.mem_cons,List.mem_flatMap,List.mem_range] at hp
  rcases hp with rfl | ⟨k,hk,hp⟩
  ·exact ⟨h1,h2,h3⟩
  ·split at hp
   ·cases hp
   ·rename_i hnk
    split at hp
    ·rename_i hv
     refine ext_ok hr f (t ++ [k]) _ ?_ ?_ ?_ p hp
     ·rw [List.nodup_append]
      exact ⟨h1,by simp,fun a ha b hb => by simp at hb; subst hb; rintro rfl; exact hnk ha⟩
     ·intro j hj
      rcases List.mem_append.1 hj with hj | hj
      ·exact h2 j hj
      ·simp at hj; omega
     ·simpa using visit_ok hr h3 hk hv
    ·cases hp
theorem goods_ok {r:Route} (hr:RouteOk r):∀ p ∈ goods r,p.1.Nodup ∧ (∀ k ∈ p.1,k < r.n) ∧ VanOk r p.2 p.1.length :=
 ext_ok hr _ [] _ List.nodup_nil (by simp) (leave_ok hr)
theorem goods_len {r:Route} (hr:RouteOk r) {p:List Nat × Van} (hp:p ∈ goods r):p.1.length ≤ r.n:=tour_len (goods_ok hr p hp).1 (goods_ok hr p hp).2.1
theorem ext_count (r:Route) (hn:r.n ≤ 7):∀ (f:Nat) (t:List Nat) (v:Van),(ext r f t v).length ≤ 8 ^ f
 | 0,t,v => by simp [ext]
 | f + 1,t,v => by
  have ih:=ext_count r hn f
  have h:∀ l:List Nat,(l.flatMap fun k => if k ∈ t then [] else if (visit r v k).2.2 then ext r f (t ++ [k]) (visit r v k).1 else []).length ≤ l.length * 8 ^ f:=by
   intro l
   induction l with
   | nil => simp
   | cons a l ihl =>
    rw [List.flatMap_cons,List.length_append,List.length_cons,Nat.add_mul]
    have:(if a ∈ t then [] else if (visit r v a).2.2 then ext r f (t ++ [a]) (visit r v a).1 else []).length ≤ 8 ^ f:=by
     split
     ·simp
     ·split
      ·exact ih _ _
      ·simp
    omega
  have:=h (List.range r.n)
  simp only [List.length_range] at this
  simp only [ext,List.length_cons]
  have h8:8 ^ (f + 1) = 8 * 8 ^ f:=by rw [Nat.pow_succ,Nat.mul_comm]
  have hp:0 < 8 ^ f:=Nat.pow_pos (by decide)
  have h7:r.n * 8 ^ f ≤ 7 * 8 ^ f:=Nat.mul_le_mul_right _ hn
  omega
theorem goods_count {r:Route} (hn:r.n ≤ 7):(goods r).length ≤ 16777216:=by
 refine Nat.le_trans (ext_count r hn _ _ _) ?_
 exact Nat.le_trans (Nat.pow_le_pow_right (by decide) (show r.n + 1 ≤ 8 by omega)) (by decide)
end Go.Proofs.Ytakplakbbidihaa

namespace Go.Proofs.Ytakplakbbidihaa
open Go Go.V
abbrev o44_0:List Ins:=[⟨some 4,.mv (.k (.c (.bool false))),none,true⟩]
abbrev o44_1:List Ins:=[⟨some 5,.mv (.t 0),none,true⟩,
 ⟨some 6,.mv (.t 1),none,true⟩,
 ⟨some 7,.call (.k (.fn 54 [])) [(.t 5),(.t 6)],none,true⟩,
 ⟨some 8,.bin .geq (.t 7) (.k (.c (.int .i64 0))),none,true⟩,
 ⟨some 4,.mv (.t 8),none,true⟩]
abbrev v44_2:VC:=(.seq (.ops o44_1) .ret)
def ir44:FC:=⟨2,9,[.t 4],(.seq (.ops o44_0) v44_2)⟩
abbrev o54_0:List Ins:=[⟨some 4,.mv (.k (.c (.int .i64 0))),none,true⟩]
abbrev o54_1:List Ins:=[⟨some 6,.mv (.t 0),none,true⟩,
 ⟨some 7,.len (.t 6),none,true⟩,
 ⟨some 8,.mv (.k (.c (.int .i64 0))),none,true⟩]
abbrev o54_2:List Ins:=[⟨some 9,.bin .lss (.t 8) (.t 7),none,true⟩]
abbrev o54_3:List Ins:=[⟨some 10,.mv (.t 8),none,true⟩,
 ⟨some 5,.mv (.t 10),none,true⟩]
abbrev o54_4:List Ins:=[⟨some 11,.mv (.t 1),none,true⟩,
 ⟨some 12,.mv (.t 0),none,true⟩,
 ⟨some 13,.mv (.t 5),none,true⟩,
 ⟨some 14,.ia 1 (.t 12) (.t 13),none,true⟩,
 ⟨some 15,.ld true 1 (.t 14),none,true⟩,
 ⟨some 16,.bin .eql (.t 11) (.t 15),none,true⟩]
abbrev o54_5:List Ins:=[⟨some 17,.mv (.t 5),none,true⟩,
 ⟨some 4,.mv (.t 17),none,true⟩]
abbrev v54_6:VC:=(.seq (.ops o54_5) .ret)
abbrev v54_7:VC:=(.cond (.t 16) v54_6 .skip)
abbrev v54_8:VC:=(.seq (.ops o54_4) v54_7)
abbrev v54_9:VC:=(.seq (.ops o54_3) v54_8)
abbrev o54_10:List Ins:=[⟨some 18,.bin .add (.t 8) (.k (.c (.int .i64 1))),none,true⟩,
 ⟨some 8,.mv (.t 18),none,true⟩]
abbrev v54_11:VC:=(.seq (.block 1 v54_9) (.ops o54_10))
abbrev v54_12:VC:=(.seq (.cond (.t 9) .skip (.exit 0)) v54_11)
abbrev v54_13:VC:=(.seq (.ops o54_2) v54_12)
-- K54_1: changed and kept: [8]
abbrev K54_1:List Nat:=[0,1,7]
abbrev v54_14:VC:=(.loop v54_13)
abbrev v54_15:VC:=(.block 0 v54_14)
abbrev o54_16:List Ins:=[⟨some 4,.mv (.k (.c (.int .i64 (-1)))),none,true⟩]
abbrev v54_17:VC:=(.seq (.ops o54_16) .ret)
abbrev v54_18:VC:=(.seq (.seq (.ops o54_1) v54_15) v54_17)
def ir54:FC:=⟨2,19,[.t 4],(.seq (.ops o54_0) v54_18)⟩
abbrev o49_0:List Ins:=[⟨some 2,.mv (.k (.c (.raw (.slice none 0 0)))),none,true⟩]
abbrev o49_1:List Ins:=[⟨some 3,.mv (.t 0),none,true⟩,
 ⟨some 4,.nils false (.t 3),none,true⟩]
abbrev o49_2:List Ins:=[⟨some 2,.mv (.k (.c (.raw (.slice none 0 0)))),none,true⟩]
abbrev v49_3:VC:=(.seq (.ops o49_2) .ret)
abbrev v49_4:VC:=(.cond (.t 4) v49_3 .skip)
abbrev o49_5:List Ins:=[⟨some 5,.bsl 3 1 [],none,true⟩,
 ⟨some 6,.mv (.t 0),none,true⟩,
 ⟨some 7,.app 3 1 8 (.t 5) (.t 6),none,true⟩,
 ⟨some 2,.mv (.t 7),none,true⟩]
abbrev v49_6:VC:=(.seq (.ops o49_5) .ret)
abbrev v49_7:VC:=(.seq (.seq (.ops o49_1) v49_4) v49_6)
def ir49:FC:=⟨1,8,[.t 2],(.seq (.ops o49_0) v49_7)⟩
theorem c44:compM Try.prog [] 44 = some ir44:=by kernel_rfl
theorem c54:compM Try.prog [] 54 = some ir54:=by kernel_rfl
theorem c49:compM Try.prog [] 49 = some ir49:=by kernel_rfl
attribute [local go_sem] Nat.reduceEqDiff Nat.reduceAdd Nat.reduceMul reduceIte Nat.reduceLeDiff Nat.reduceLT Nat.reduceBEq reduceCtorEq
theorem index78 (l:List Int) (n:Int):∃ k:Int,(k < 0 ↔ n ∉ l) ∧ FSpec Try.prog 54 [.c (ints l),iv n] (iv k):=by
 refine ⟨(match l.findIdx? (· == n) with | some k => (k:Int) | none => -1),?_,?_⟩
 ·cases h:l.findIdx? (· == n) with
  | none => simp only [List.findIdx?_eq_none_iff] at h; simp; intro hn; have:=h n hn; simp at this
  | some k =>
   simp only [List.findIdx?_eq_some_iff_getElem] at h
   obtain ⟨hk,h1,_⟩:=h
   simp only [beq_iff_eq] at h1
   simp
   constructor
   ·intro; omega
   ·intro hc; exact (hc (h1 ▸ List.getElem_mem hk)).elim
 ·refine FSpec_of c54 (Nat.le_refl _) (by decide) fun C hP hN hC hL => ?_; rw [init_st]
  have hl:l.length ≤ 9223372036854775807:=by simp only [AV.lensL,AV.lens] at hL; exact ints_lens hL.1
  simp only [ir54]
  (repeat ((first | refine Va ?_ | refine Vb ?_ | refine Vc ?_ | refine Vd ?_ | refine Ve ?_ | refine Vf ?_); (try simp only [go_sem,hP,ints]); (repeat refine qJ ?_)))
  (refine WV_loopK K54_1 [] (fun k:Nat => k ≤ l.length ∧ ∀ j (hj:j < l.length),j < k → l[j] ≠ n) (fun k => l.length - k) (fun k => [(8,iv k)]) (fun _ => []) 0 ⟨Nat.zero_le _,by omega⟩ ?_ ?_)
  ·exact Sub_au
  ·intro k ⟨hk,hn⟩
   simp only [go_sem]
   (repeat ((first | refine Va ?_ | refine Vb ?_ | refine Vc ?_ | refine Vd ?_ | refine Ve ?_ | refine Vf ?_); (try simp only [go_sem,hP]); (repeat refine qJ ?_)))
   (refine WV_cond rfl (fun h => ?_) (fun h => ?_))
   ·simp only [decide_eq_true_eq,Int.ofNat_lt] at h
    (repeat ((first | refine Va ?_ | refine Vb ?_ | refine Vc ?_ | refine Vd ?_ | refine Ve ?_ | refine Vf ?_); (try simp only [go_sem,hP,Int.toNat_natCast,map_getD h,Int.ofNat_lt,h,Int.natCast_nonneg]); (repeat refine qJ ?_)))
    refine WV_cond rfl (fun h2 => ?_) (fun h2 => ?_)
    ·simp only [beq_iff_eq] at h2
     have e:l.findIdx? (· == n) = some k:=by
      rw [List.findIdx?_eq_some_iff_getElem]
      exact ⟨h,by simp [h2],fun j hj => by have:=hn j (by omega) hj; simpa using this⟩
     (repeat ((first | refine Va ?_ | refine Vb ?_ | refine Vc ?_ | refine Vd ?_ | refine Ve ?_ | refine Vf ?_); (try simp only [go_sem,hP]); (repeat refine qJ ?_)))
     (refine WV_ret ?_; simp only [thenQ,inQ,RetQ,RetOk,resAll,resA]; simp only [go_sem,tupA,AV.port,AV.portL,exists_eq_left']; (first | exact AVle.of rfl | refine AVle.of ?_ | skip))
     rw [e]
    ·simp only [beq_eq_false_iff_ne,ne_eq] at h2
     (repeat ((first | refine Va ?_ | refine Vb ?_ | refine Vc ?_ | refine Vd ?_ | refine Ve ?_ | refine Vf ?_); (try simp only [go_sem,hP]); (repeat refine qJ ?_)))
     refine ⟨k + 1,⟨by omega,fun j hj hjk => ?_⟩,by omega,?_⟩
     ·rcases Nat.lt_or_ge j k with h1 | h1
      ·exact hn j hj h1
      ·have:j = k:=by omega
       subst this
       exact fun e => h2 e.symm
     ·exact Sub_au
   ·simp only [decide_eq_false_iff_not,Int.ofNat_lt] at h
    have e:l.findIdx? (· == n) = none:=by
     rw [List.findIdx?_eq_none_iff]
     intro x hx
     obtain ⟨j,hj,rfl⟩:=List.mem_iff_getElem.1 hx
     simpa using hn j hj (by omega)
    (repeat ((first | refine Va ?_ | refine Vb ?_ | refine Vc ?_ | refine Vd ?_ | refine Ve ?_ | refine Vf ?_); (try simp only [go_sem,hP]); (repeat refine qJ ?_)))
    (refine WV_ret ?_; simp only [thenQ,inQ,RetQ,RetOk,resAll,resA]; simp only [go_sem,tupA,AV.port,AV.portL,exists_eq_left']; (first | exact AVle.of rfl | refine AVle.of ?_ | skip))
    rw [e]
theorem contains76 (l:List Int) (n:Int):FSpec Try.prog 44 [.c (ints l),iv n] (.c (.bool (decide (n ∈ l)))):=by
 obtain ⟨k,hk,hs⟩:=index78 l n
 refine FSpec_of c44 (Nat.le_refl _) (by decide) fun C hP hN hC hL => ?_; rw [init_st]
 simp only [ir44]
 (repeat ((first | refine Va ?_ | refine Vb ?_ | refine Vc ?_ | refine Vd ?_ | refine Ve ?_ | refine Vf ?_); (try simp only [go_sem,hP]); (repeat refine qJ ?_)))
 (refine AS_pu (hs) ?_; simp only [go_sem,hP]; (repeat refine qJ ?_); (repeat ((first | refine Va ?_ | refine Vb ?_ | refine Vc ?_ | refine Vd ?_ | refine Ve ?_ | refine Vf ?_); (try simp only [go_sem,hP]); (repeat refine qJ ?_))))
 (refine WV_ret ?_; simp only [thenQ,inQ,RetQ,RetOk,resAll,resA]; simp only [go_sem,tupA,AV.port,AV.portL,exists_eq_left']; (first | exact AVle.of rfl | refine AVle.of ?_ | skip))
 simp only [AV.c.injEq,CD.bool.injEq,decide_eq_decide]
 by_cases h:n ∈ l <;> simp [h] at hk ⊢ <;> omega
theorem clone70 (l:List Int) (hlen:l.length ≤ 1000):FSpecF Try.prog 49 [.c (ints l)] (.c (ints l)):=by
 refine FSpecF_of c49 (Nat.le_refl _) (by decide) fun C hP hN hC hL => ?_
 have hmax:maxLen = 9223372036854775807:=rfl
 simp only [ir49,ints]
 cases l with
 | nil =>
  (repeat ((first | refine Va ?_ | refine Vb ?_ | refine Vc ?_ | refine Vd ?_ | refine Ve ?_ | refine Vf ?_); (try simp only [go_sem,hP]); (repeat refine qJ ?_)))
  intro b
  (repeat ((first | refine Va ?_ | refine Vb ?_ | refine Vc ?_ | refine Vd ?_ | refine Ve ?_ | refine Vf ?_); (try simp only [go_sem,hP]); (repeat refine qJ ?_)))
  (refine WV_cond rfl (fun h => ?_) (fun h => ?_))
  ·(repeat ((first | refine Va ?_ | refine Vb ?_ | refine Vc ?_ | refine Vd ?_ | refine Ve ?_ | refine Vf ?_); (try simp only [go_sem,hP]); (repeat refine qJ ?_)))
   (refine WV_ret ?_; simp only [thenQ,inQ,RetQF,RetOkF,resAll,resA]; simp only [go_sem,tupA,AV.fport,AV.fportL,CD.scal,exists_eq_left']; refine And.intro (by ((repeat' (first | exact NoWin_o0 | refine NoWin_upd (fun cs h => by cases h) ?_)))) ?_)
   exact AVle.nil 1
  ·(repeat ((first | refine Va ?_ | refine Vb ?_ | refine Vc ?_ | refine Vd ?_ | refine Ve ?_ | refine Vf ?_); (try simp only [go_sem,hP]); (repeat refine qJ ?_)))
   (refine WV_ret ?_; simp only [thenQ,inQ,RetQF,RetOkF,resAll,resA]; simp only [go_sem,tupA,AV.fport,AV.fportL,CD.scal,exists_eq_left']; refine And.intro (by ((repeat' (first | exact NoWin_o0 | refine NoWin_upd (fun cs h => by cases h) ?_)))) ?_; (first | exact AVle.of rfl | refine AVle.of ?_ | skip))
 | cons a l =>
  simp only [List.length_cons] at hlen
  (repeat ((first | refine Va ?_ | refine Vb ?_ | refine Vc ?_ | refine Vd ?_ | refine Ve ?_ | refine Vf ?_); (try simp only [go_sem,hP]); (repeat refine qJ ?_)))
  (refine WV_cond rfl (fun h => ?_) (fun h => ?_))
  ·cases h
  ·(repeat ((first | refine Va ?_ | refine Vb ?_ | refine Vc ?_ | refine Vd ?_ | refine Ve ?_ | refine Vf ?_); (try simp only [go_sem,hP]); (repeat refine qJ ?_)))
   (refine WV_ret ?_; simp only [thenQ,inQ,RetQF,RetOkF,resAll,resA]; simp only [go_sem,tupA,AV.fport,AV.fportL,CD.scal,exists_eq_left',ints_scal]; refine And.intro (by ((repeat' (first | exact NoWin_o0 | refine NoWin_upd (fun cs h => by cases h) ?_)))) ?_)
   exact AVle.refl _
end Go.Proofs.Ytakplakbbidihaa

namespace Go.Proofs.Ytakplakbbidihaa
open Go Go.V
abbrev o57_0:List Ins:=[⟨some 9,.mv (.t 1),none,true⟩,
 ⟨some 10,.len (.t 9),none,true⟩,
 ⟨some 11,.mv (.t 0),none,true⟩,
 ⟨some 12,.nilc (.t 11),none,true⟩,
 ⟨some 13,.fa 0 (.t 12),none,true⟩,
 ⟨some 14,.fa 0 (.t 13),none,true⟩,
 ⟨some 15,.fa 2 (.t 14),none,true⟩,
 ⟨some 16,.ld true 1 (.t 15),none,true⟩,
 ⟨some 17,.len (.t 16),none,true⟩,
 ⟨some 18,.bin .eql (.t 10) (.t 17),none,true⟩]
abbrev o57_1:List Ins:=[⟨some 19,.mv (.t 3),none,true⟩,
 ⟨some 20,.mv (.t 1),none,true⟩,
 ⟨some 21,.call (.t 19) [(.t 20)],none,true⟩]
abbrev v57_2:VC:=(.seq (.ops o57_1) .ret)
abbrev v57_3:VC:=(.cond (.t 18) v57_2 .skip)
abbrev o57_4:List Ins:=[⟨some 22,.mv (.t 2),none,true⟩,
 ⟨some 23,.bin .add (.t 22) (.k (.c (.int .i64 1))),none,true⟩,
 ⟨some 24,.mv (.k (.c (.int .i64 0))),none,true⟩]
abbrev o57_5:List Ins:=[⟨some 25,.bin .lss (.t 24) (.t 23),none,true⟩]
abbrev o57_6:List Ins:=[⟨some 26,.mv (.t 24),none,true⟩,
 ⟨some 8,.mv (.t 26),none,true⟩]
abbrev o57_7:List Ins:=[⟨some 27,.mv (.t 0),none,true⟩,
 ⟨some 28,.mv (.t 1),none,true⟩,
 ⟨some 29,.call (.k (.fn 49 [])) [(.t 28)],none,true⟩,
 ⟨some 30,.mv (.t 8),none,true⟩,
 ⟨some 31,.bsl 3 1 [(.t 30)],none,true⟩,
 ⟨some 32,.app 3 1 8 (.t 29) (.t 31),none,true⟩,
 ⟨some 33,.mv (.t 2),none,true⟩,
 ⟨some 34,.mv (.t 8),none,true⟩,
 ⟨some 35,.bin .sub (.t 33) (.t 34),none,true⟩,
 ⟨some 36,.mv (.t 3),none,true⟩,
 ⟨some 37,.call (.k (.fn 57 [])) [(.t 27),(.t 32),(.t 35),(.t 36)],none,true⟩]
abbrev v57_8:VC:=(.seq (.ops o57_6) (.ops o57_7))
abbrev o57_9:List Ins:=[⟨some 38,.bin .add (.t 24) (.k (.c (.int .i64 1))),none,true⟩,
 ⟨some 24,.mv (.t 38),none,true⟩]
abbrev v57_10:VC:=(.seq (.block 1 v57_8) (.ops o57_9))
abbrev v57_11:VC:=(.seq (.cond (.t 25) .skip (.exit 0)) v57_10)
abbrev v57_12:VC:=(.seq (.ops o57_5) v57_11)
-- K57_1: changed and kept: [24]
abbrev K57_1:List Nat:=[0,1,2,3,23]
abbrev v57_13:VC:=(.loop v57_12)
abbrev v57_14:VC:=(.block 0 v57_13)
abbrev v57_15:VC:=(.seq (.ops o57_4) v57_14)
def ir57:FC:=⟨4,39,[],(.seq (.seq (.ops o57_0) v57_3) v57_15)⟩
theorem c57:compM Try.prog [] 57 = some ir57:=by kernel_rfl
attribute [local go_sem] Nat.reduceEqDiff Nat.reduceAdd Nat.reduceMul reduceIte Nat.reduceLeDiff Nat.reduceLT Nat.reduceBEq reduceCtorEq
def pursL:Nat → List Int → Nat → List (List Int)
 | 0,p,_ => [p]
 | m + 1,p,lf => (List.range (lf + 1)).flatMap fun (n:Nat) => pursL m (p ++ [(n:Int)]) (lf - n)
theorem fndS_len (b:Bx) (F:List (List Int)) (p:List Int):(fndS b F p).length ≤ F.length + 1:=by
 unfold fndS; split
 ·omega
 ·split
  ·split <;> simp
  ·omega
theorem fndS_mem {b:Bx} {F:List (List Int)} {p q:List Int} (h:q ∈ fndS b F p):q ∈ F ∨ q = p:=by
 unfold fndS at h
 split at h
 ·exact .inl h
 ·split at h
  ·split at h
   ·exact .inr (by simpa using h)
   ·rcases List.mem_append.1 h with h | h
    ·exact .inl h
    ·exact .inr (by simpa using h)
  ·exact .inl h
theorem fold_len (b:Bx):∀ (l:List (List Int)) (F:List (List Int)),(l.foldl (fndS b) F).length ≤ F.length + l.length
 | [],F => Nat.le_refl _
 | p :: l,F => by
  have h1:=fold_len b l (fndS b F p)
  have h2:=fndS_len b F p
  simp only [List.foldl_cons,List.length_cons]; omega
theorem fold_mem {b:Bx}:∀ {l:List (List Int)} {F:List (List Int)} {q:List Int},q ∈ l.foldl (fndS b) F → q ∈ F ∨ q ∈ l
 | [],F,q,h => .inl h
 | p :: l,F,q,h => by
  rcases fold_mem (l:=l) h with h | h
  ·rcases fndS_mem h with h | rfl
   ·exact .inl h
   ·exact .inr (by simp)
  ·exact .inr (by simp [h])
theorem pursL_ok {b:Bx}:∀ (m:Nat) (p:List Int) (lf:Nat),p.length + m = b.wh.co.length → (∀ n ∈ p,0 ≤ n) → p.sum + lf ≤ 2 → ∀ q ∈ pursL m p lf,PurOk b q
 | 0,p,lf,h1,h2,h3,q,hq => by
  simp only [pursL,List.mem_singleton] at hq
  subst hq
  exact ⟨by omega,h2,by omega⟩
 | m + 1,p,lf,h1,h2,h3,q,hq => by
  simp only [pursL,List.mem_flatMap,List.mem_range] at hq
  obtain ⟨n,hn,hq⟩:=hq
  refine pursL_ok m _ _ (by simp; omega) (fun x hx => ?_) ?_ q hq
  ·rcases List.mem_append.1 hx with h | h
   ·exact h2 x h
   ·simp only [List.mem_singleton] at h; omega
  ·simp; omega
def pursN (m:Nat) (p:List Int) (lf k:Nat):List (List Int):=(List.range k).flatMap fun (n:Nat) => pursL m (p ++ [(n:Int)]) (lf - n)
theorem pursN_succ (m:Nat) (p:List Int) (lf k:Nat):pursN m p lf (k + 1) = pursN m p lf k ++ pursL m (p ++ [(k:Int)]) (lf - k):=by simp [pursN,List.range_succ]
theorem pursN_le (m:Nat) (p:List Int) (lf:Nat):∀ k j:Nat,(pursN m p lf k).length ≤ (pursN m p lf (k + j)).length
 | k,0 => Nat.le_refl _
 | k,j + 1 => by
  have:=pursN_le m p lf k j
  rw [← Nat.add_assoc,pursN_succ,List.length_append]; omega
def i1s (l:List Int):List (List CD):=l.map fun n => [.int .i64 n]
theorem cloneN (p:List Int) (hlen:p.length ≤ 1000):FSpecN Try.prog 49 [.c (ints p)] (fun r os => r = .gr 1000 ∧ os = [.grow 3 1 (i1s p)]):=by
 have hmax:maxLen = 9223372036854775807:=rfl
 refine FSpecN_of c49 (Nat.le_refl _) (by decide) fun C hP hN hC hL => ?_; rw [init_st]
 simp only [ir49,ints]
 cases p with
 | nil =>
  (repeat ((first | refine Va ?_ | refine Vb ?_ | refine Vc ?_ | refine Vd ?_ | refine Ve ?_ | refine Vf ?_); (try simp only [go_sem,hP]); (repeat refine qJ ?_)))
  intro b
  (repeat ((first | refine Va ?_ | refine Vb ?_ | refine Vc ?_ | refine Vd ?_ | refine Ve ?_ | refine Vf ?_); (try simp only [go_sem,hP]); (repeat refine qJ ?_)))
  (refine WV_cond rfl (fun h => ?_) (fun h => ?_))
  ·refine WV_seq_ ?_
   (refine WV_op ?_; simp only [go_sem,hP]; (repeat refine qJ ?_))
   refine WV_nilslot 2 7 3 1 (by decide) (by decide) rfl rfl ?_
   simp only [go_sem]
   (refine WV_ret ?_; simp only [thenQ,inQ,RetQN,RetOkN,resAll,resA]; simp only [go_sem,tupA])
   exact ⟨[7],_,_,_,by simp,by simp,rfl,AVle.refl _,rfl,rfl,rfl⟩
  ·(repeat ((first | refine Va ?_ | refine Vb ?_ | refine Vc ?_ | refine Vd ?_ | refine Ve ?_ | refine Vf ?_); (try simp only [go_sem,hP]); (repeat refine qJ ?_)))
   (refine WV_ret ?_; simp only [thenQ,inQ,RetQN,RetOkN,resAll,resA]; simp only [go_sem,tupA])
   exact ⟨[7],_,_,_,by simp,by simp,rfl,AVle.refl _,rfl,rfl,rfl⟩
 | cons a l =>
  simp only [List.length_cons] at hlen
  (repeat ((first | refine Va ?_ | refine Vb ?_ | refine Vc ?_ | refine Vd ?_ | refine Ve ?_ | refine Vf ?_); (try simp only [go_sem,hP]); (repeat refine qJ ?_)))
  (refine WV_cond rfl (fun h => ?_) (fun h => ?_))
  ·cases h
  ·(repeat ((first | refine Va ?_ | refine Vb ?_ | refine Vc ?_ | refine Vd ?_ | refine Ve ?_ | refine Vf ?_); (try simp only [go_sem,hP]); (repeat refine qJ ?_)))
   (refine WV_ret ?_; simp only [thenQ,inQ,RetQN,RetOkN,resAll,resA]; simp only [go_sem,tupA])
   exact ⟨[7],_,_,_,by simp,by simp,rfl,AVle.refl _,rfl,rfl,rfl⟩
def gobs (b:Bx) (G:Gaps):List Ob:=[.box [.gr 1002],.box [.c (.pt b.cds)],.grow 79 2 (gapsC G)]
set_option maxHeartbeats 8000000 in
set_option maxRecDepth 20000 in
theorem gaps57 {b:Bx} (hwb:whB b.wh = true) (hb:BxOk b):∀ (m:Nat) (p:List Int) (lf:Nat) (G:Gaps),p.length + m = b.wh.co.length → (∀ n ∈ p,0 ≤ n) → p.sum + lf ≤ 2 → (∀ q ∈ gpur G,PurOk b q) → G.length + (pursL m p lf).length ≤ 100000 →
  FSpecL Try.prog 57 [.c (.pt b.cds),.c (ints p),iv lf,.fn 58 [.bp 1000 0,.bp 1001 0]] (gobs b G) [] (fun r l' => r = .tup [] ∧ ∃ G',gpur G' = (pursL m p lf).foldl (fndS b) (gpur G) ∧ l' = gobs b G'):=by
 intro m
 induction m with
 | zero =>
  intro p lf G hm hn hs hG hc
  have hcl:=hb.wh.cl
  have hok:GapsOk b G:=⟨fun g hg => hG _ (List.mem_map.2 ⟨g,hg,rfl⟩),by simp [pursL] at hc; omega⟩
  have hfo:=found58 hwb hb (p:=p) ⟨by omega,hn,by omega⟩ hok
  have e2:List.drop 2 b.cds = [ints b.wh.co,ints b.fo,ints b.ma,ints b.sl,.int .i64 b.pl,.int .i64 b.sk]:=rfl
  have e8:b.cds.length = 8:=rfl
  have hl1:((ints p:CD)) = .sl 1 (p.map fun n => [.int .i64 n]):=rfl
  have hleq:(p.length:Int) = (b.wh.co.length:Int):=by omega
  unfold gobs
  refine FSpecL_of c57 (by first | simp | exact Nat.le_of_ble_eq_true rfl) (Nat.le_refl _) (by decide) (by decide) fun C hP hN hC hL => ?_; rw [init_env',ownW_upd (by first | simp | exact Nat.le_of_ble_eq_true rfl)]; simp only [ir57,updL,updLo,List.map_nil,List.map_cons,Nat.reduceAdd,]
  rw [hl1]
  (repeat ((first | refine Va ?_ | refine Vb ?_ | refine Vc ?_ | refine Vd ?_ | refine Ve ?_ | refine Vf ?_); (try simp only [go_sem,hP,e2,e8,ints,List.length_map,hleq]); (repeat refine qJ ?_)))
  (refine WV_cond rfl (fun h => ?_) (fun h => ?_))
  ·(repeat ((first | refine Va ?_ | refine Vb ?_ | refine Vc ?_ | refine Vd ?_ | refine Ve ?_ | refine Vf ?_); (try simp only [go_sem,hP]); (repeat refine qJ ?_)))
   refine AS_lend [1000,1001,1002] hfo rfl rfl rfl (by decide) rfl rfl ?_
   rintro r l' ⟨rfl,G',hG',rfl⟩
   refine ⟨_,_,rfl,rfl,?_⟩
   simp only [go_sem,hP,ownBack]
   (repeat ((first | refine Va ?_ | refine Vb ?_ | refine Vc ?_ | refine Vd ?_ | refine Ve ?_ | refine Vf ?_); (try simp only [go_sem,hP]); (repeat refine qJ ?_)))
   (refine WV_ret ?_; simp only [thenQ,inQ,RetQL,RetOkL,resAll,resA]; simp only [go_sem,tupA,AV.keepP,AV.keepPL]; refine ⟨_,gobs b G',rfl,KeepL_mk rfl rfl ?_ ?_ rfl,?_⟩)
   ·simp only [go_sem,keepAll,Ob.keepP,AV.keepP,AV.keepPL,gobs]
   ·trivial
   ·exact ⟨rfl,G',hG',rfl⟩
  ·simp at h
 | succ m ih =>
  intro p lf G hm hn hs hG hc
  have hmax:maxLen = 9223372036854775807:=rfl
  have hcl:=hb.wh.cl
  have e2:List.drop 2 b.cds = [ints b.wh.co,ints b.fo,ints b.ma,ints b.sl,.int .i64 b.pl,.int .i64 b.sk]:=rfl
  have e8:b.cds.length = 8:=rfl
  have hl1:((ints p:CD)) = .sl 1 (p.map fun n => [.int .i64 n]):=rfl
  have hsum:0 ≤ p.sum:=by
   have key:∀ l:List Int,(∀ x ∈ l,0 ≤ x) → 0 ≤ l.sum:=by
    intro l
    induction l with
    | nil => intro _; simp
    | cons a l ih => intro h; have:=ih fun x hx => h x (by simp [hx]); have:=h a (by simp); simp only [List.sum_cons]; omega
   exact key p hn
  have hne:(p.length:Int) ≠ (b.wh.co.length:Int):=by omega
  have w0:=w64 (n:=(lf:Int) + 1) (by omega) (by omega)
  have hcp:=cloneN p (by omega)
  rw [hl1] at hcp
  unfold gobs
  refine FSpecL_of c57 (by first | simp | exact Nat.le_of_ble_eq_true rfl) (Nat.le_refl _) (by decide) (by decide) fun C hP hN hC hL => ?_; rw [init_env',ownW_upd (by first | simp | exact Nat.le_of_ble_eq_true rfl)]; simp only [ir57,updL,updLo,List.map_nil,List.map_cons,Nat.reduceAdd,]
  rw [hl1]
  (repeat ((first | refine Va ?_ | refine Vb ?_ | refine Vc ?_ | refine Vd ?_ | refine Ve ?_ | refine Vf ?_); (try simp only [go_sem,hP,e2,e8,ints,List.length_map]); (repeat refine qJ ?_)))
  (refine WV_cond rfl (fun h => ?_) (fun h => ?_))
  ·exact absurd (by simpa using h) hne
  (repeat ((first | refine Va ?_ | refine Vb ?_ | refine Vc ?_ | refine Vd ?_ | refine Ve ?_ | refine Vf ?_); (try simp only [go_sem,hP,w0]); (repeat refine qJ ?_)))
  refine WV_loopK K57_1 [1002] (fun i:Nat × Gaps => i.1 ≤ lf + 1 ∧ gpur i.2 = (pursN m p lf i.1).foldl (fndS b) (gpur G)) (fun i => lf + 1 - i.1) (fun i => [(24,iv i.1)]) (fun i => [(1002,.grow 79 2 (gapsC i.2))]) (0,G) ⟨by omega,rfl⟩ ?_ ?_
  ·exact Sub_au
  rintro ⟨k,H⟩ ⟨hk,hH⟩
  simp only at hk hH
  (repeat ((first | refine Va ?_ | refine Vb ?_ | refine Vc ?_ | refine Vd ?_ | refine Ve ?_ | refine Vf ?_); (try simp only [go_sem,hP]); (repeat refine qJ ?_)))
  (refine WV_cond rfl (fun h => ?_) (fun h => ?_))
  ·have hi:k < lf + 1:=by simp at h; omega
   have w1:=w64 (n:=(k:Int) + 1) (by omega) (by omega)
   have w2:IntKind.i64.wrap ((lf:Int) - (k:Int)) = ((lf - k:Nat):Int):=by rw [w64 (by omega) (by omega)]; omega
   have hsn:i1s p ++ [[CD.int .i64 (k:Int)]] = (p ++ [(k:Int)]).map fun n => [CD.int .i64 n]:=by simp [i1s]
   have hln:(i1s p).length = p.length:=List.length_map _
   have hon:((i1s p).all fun e => e.length == 1) = true:=by rw [List.all_eq_true]; intro e he; obtain ⟨n,_,rfl⟩:=List.mem_map.1 he; rfl
   have hih:=ih (p ++ [(k:Int)]) (lf - k) H (by simp; omega) (fun x hx => by
    rcases List.mem_append.1 hx with h | h
    ·exact hn x h
    ·simp only [List.mem_singleton] at h; omega) (by simp; omega) (fun q hq => by
    rw [hH] at hq
    rcases fold_mem hq with h | h
    ·exact hG q h
    ·refine pursL_ok (m + 1) p lf hm hn hs q ?_
     simp only [pursN,List.mem_flatMap,List.mem_range] at h
     simp only [pursL,List.mem_flatMap,List.mem_range]
     obtain ⟨n,h1,h2⟩:=h
     exact ⟨n,by omega,h2⟩) (by
    have h1:H.length = (gpur H).length:=by simp [gpur]
    have h2:=fold_len b (pursN m p lf k) (gpur G)
    have h3:=pursN_le m p lf (k + 1) (lf - k)
    rw [show k + 1 + (lf - k) = lf + 1 by omega,pursN_succ,List.length_append] at h3
    have h4:pursL (m + 1) p lf = pursN m p lf (lf + 1):=rfl
    have h5:(gpur G).length = G.length:=by simp [gpur]
    rw [h4] at hc
    rw [hH] at h1
    omega)
   (repeat ((first | refine Va ?_ | refine Vb ?_ | refine Vc ?_ | refine Vd ?_ | refine Ve ?_ | refine Vf ?_); (try simp only [go_sem,hP,w1]); (repeat refine qJ ?_)))
   refine AS_new hcp rfl rfl rfl rfl ?_
   rintro _ _ ⟨rfl,rfl⟩
   refine ⟨[29],_,_,by simp,rfl,rfl,rfl,rfl,?_⟩
   simp only [go_sem,hP,ownBack]
   (repeat ((first | refine Va ?_ | refine Vb ?_ | refine Vc ?_ | refine Vd ?_ | refine Ve ?_ | refine Vf ?_); (try simp only [go_sem,hP,w1,w2,hln,hon]); (repeat refine qJ ?_)))
   refine ⟨⟨by omega,by omega⟩,?_⟩
   refine AS_lend [1000,1001,1002] hih rfl rfl rfl (by decide) (by simp only [go_sem,AV.lendL,AV.lend,hsn,w2,ints]) rfl ?_
   rintro r l' ⟨rfl,H',hH',rfl⟩
   refine ⟨_,_,rfl,rfl,?_⟩
   simp only [go_sem,hP,ownBack]
   (repeat ((first | refine Va ?_ | refine Vb ?_ | refine Vc ?_ | refine Vd ?_ | refine Ve ?_ | refine Vf ?_); (try simp only [go_sem,hP,w1]); (repeat refine qJ ?_)))
   refine ⟨(k + 1,H'),⟨by omega,?_⟩,by omega,?_⟩
   ·simp only
    rw [hH',hH,pursN_succ,List.foldl_append]
   ·exact Sub_au
  ·have hi:k = lf + 1:=by simp at h; omega
   subst hi
   (repeat ((first | refine Va ?_ | refine Vb ?_ | refine Vc ?_ | refine Vd ?_ | refine Ve ?_ | refine Vf ?_); (try simp only [go_sem,hP]); (repeat refine qJ ?_)))
   ((try simp only [thenQ,inQ,RetQL,RetOkL,resAll,resA]); (try simp only [go_sem,tupA,AV.keepP,AV.keepPL]); refine ⟨_,gobs b H,rfl,KeepL_mk rfl rfl ?_ ?_ rfl,?_⟩)
   ·simp only [go_sem,keepAll,Ob.keepP,AV.keepP,AV.keepPL,gobs]
   ·trivial
   ·exact ⟨rfl,H,hH,rfl⟩
end Go.Proofs.Ytakplakbbidihaa

namespace Go.Proofs.Ytakplakbbidihaa
open Go Go.V
abbrev o53_0:List Ins:=[⟨some 1,.box 1 (.t 0),none,true⟩,
 ⟨some 2,.mv (.k (.c (.raw (.slice none 0 0)))),none,true⟩]
abbrev o53_1:List Ins:=[⟨some 3,.alloc [(.c (.raw (.slice none 0 0)))],none,true⟩]
abbrev o53_2:List Ins:=[⟨some 4,.ld true 1 (.t 1),none,true⟩,
 ⟨some 5,.mkfn 58 [(.t 3),(.t 1)],none,true⟩,
 ⟨some 6,.call (.k (.fn 57 [])) [(.t 4),(.k (.c (.raw (.slice none 0 0)))),(.k (.c (.int .i64 2))),(.t 5)],none,true⟩]
abbrev o53_3:List Ins:=[⟨some 7,.ld true 1 (.t 3),none,true⟩,
 ⟨some 2,.mv (.t 7),none,true⟩]
abbrev v53_4:VC:=(.seq (.ops o53_3) .ret)
abbrev v53_5:VC:=(.seq (.ops o53_2) v53_4)
abbrev v53_6:VC:=(.seq (.ops o53_1) v53_5)
def ir53:FC:=⟨1,8,[.t 2],(.seq (.ops o53_0) v53_6)⟩
abbrev o40_0:List Ins:=[⟨some 1,.box 8 (.t 0),none,true⟩,
 ⟨some 2,.mv (.k (.c (.raw (.pointer none)))),none,true⟩,
 ⟨some 3,.mv (.k (.c (.raw (.slice none 0 0)))),none,true⟩,
 ⟨some 4,.mv (.k (.c (.int .i64 0))),none,true⟩]
abbrev o40_1:List Ins:=[⟨some 9,.ld false 8 (.t 1),none,true⟩,
 ⟨some 10,.call (.k (.fn 24 [])) [(.t 9)],none,true⟩,
 ⟨some 8,.mv (.t 10),none,true⟩,
 ⟨some 11,.ext (.t 8) 0,none,true⟩,
 ⟨some 12,.ext (.t 8) 1,none,true⟩,
 ⟨some 5,.mv (.t 11),none,true⟩,
 ⟨some 6,.mv (.t 12),none,true⟩]
abbrev o40_2:List Ins:=[⟨some 13,.mv (.t 6),none,true⟩,
 ⟨some 14,.bin .neq (.t 13) (.k (.c (.int .i64 0))),none,true⟩]
abbrev o40_3:List Ins:=[⟨some 15,.mv (.t 6),none,true⟩,
 ⟨some 2,.mv (.k (.c (.raw (.pointer none)))),none,true⟩,
 ⟨some 3,.mv (.k (.c (.raw (.slice none 0 0)))),none,true⟩,
 ⟨some 4,.mv (.t 15),none,true⟩]
abbrev v40_4:VC:=(.seq (.ops o40_3) .ret)
abbrev v40_5:VC:=(.cond (.t 14) v40_4 .skip)
abbrev o40_6:List Ins:=[⟨some 16,.mv (.t 5),none,true⟩,
 ⟨some 17,.call (.k (.fn 53 [])) [(.t 16)],none,true⟩,
 ⟨some 7,.mv (.t 17),none,true⟩]
abbrev o40_7:List Ins:=[⟨some 18,.mv (.t 7),none,true⟩,
 ⟨some 19,.len (.t 18),none,true⟩,
 ⟨some 20,.bin .eql (.t 19) (.k (.c (.int .i64 0))),none,true⟩]
abbrev o40_8:List Ins:=[⟨some 2,.mv (.k (.c (.raw (.pointer none)))),none,true⟩,
 ⟨some 3,.mv (.k (.c (.raw (.slice none 0 0)))),none,true⟩,
 ⟨some 4,.mv (.k (.c (.int .i64 3))),none,true⟩]
abbrev v40_9:VC:=(.seq (.ops o40_8) .ret)
abbrev v40_10:VC:=(.cond (.t 20) v40_9 .skip)
abbrev o40_11:List Ins:=[⟨some 21,.mv (.t 5),none,true⟩,
 ⟨some 22,.mv (.t 7),none,true⟩,
 ⟨some 2,.mv (.t 21),none,true⟩,
 ⟨some 3,.mv (.t 22),none,true⟩,
 ⟨some 4,.mv (.k (.c (.int .i64 0))),none,true⟩]
abbrev v40_12:VC:=(.seq (.ops o40_11) .ret)
abbrev v40_13:VC:=(.seq (.seq (.ops o40_7) v40_10) v40_12)
abbrev v40_14:VC:=(.seq (.ops o40_6) v40_13)
abbrev v40_15:VC:=(.seq (.seq (.ops o40_2) v40_5) v40_14)
abbrev v40_16:VC:=(.seq (.ops o40_1) v40_15)
def ir40:FC:=⟨1,23,[.t 2,.t 3,.t 4],(.seq (.ops o40_0) v40_16)⟩
abbrev o29_0:List Ins:=[⟨some 1,.box 8 (.t 0),none,true⟩,
 ⟨some 2,.mv (.k (.c (.int .i64 0))),none,true⟩,
 ⟨some 3,.mv (.k (.c (.int .i64 0))),none,true⟩]
abbrev o29_1:List Ins:=[⟨some 8,.ld false 8 (.t 1),none,true⟩,
 ⟨some 9,.call (.k (.fn 40 [])) [(.t 8)],none,true⟩,
 ⟨some 7,.mv (.t 9),none,true⟩,
 ⟨some 10,.ext (.t 7) 0,none,true⟩,
 ⟨some 11,.ext (.t 7) 1,none,true⟩,
 ⟨some 12,.ext (.t 7) 2,none,true⟩,
 ⟨some 4,.mv (.t 10),none,true⟩,
 ⟨some 5,.mv (.t 11),none,true⟩,
 ⟨some 6,.mv (.t 12),none,true⟩]
abbrev o29_2:List Ins:=[⟨some 13,.mv (.t 6),none,true⟩,
 ⟨some 14,.bin .neq (.t 13) (.k (.c (.int .i64 0))),none,true⟩]
abbrev o29_3:List Ins:=[⟨some 15,.mv (.t 6),none,true⟩,
 ⟨some 2,.mv (.k (.c (.int .i64 0))),none,true⟩,
 ⟨some 3,.mv (.t 15),none,true⟩]
abbrev v29_4:VC:=(.seq (.ops o29_3) .ret)
abbrev v29_5:VC:=(.cond (.t 14) v29_4 .skip)
abbrev o29_6:List Ins:=[⟨some 16,.mv (.t 4),none,true⟩,
 ⟨some 17,.mv (.t 5),none,true⟩,
 ⟨some 18,.ia 2 (.t 17) (.k (.c (.int .i64 0))),none,true⟩,
 ⟨some 19,.fa 0 (.t 18),none,true⟩,
 ⟨some 20,.ld true 1 (.t 19),none,true⟩,
 ⟨some 21,.call (.k (.fn 25 [])) [(.t 16),(.t 20)],none,true⟩,
 ⟨some 2,.mv (.t 21),none,true⟩,
 ⟨some 3,.mv (.k (.c (.int .i64 0))),none,true⟩]
abbrev v29_7:VC:=(.seq (.ops o29_6) .ret)
abbrev v29_8:VC:=(.seq (.seq (.ops o29_2) v29_5) v29_7)
abbrev v29_9:VC:=(.seq (.ops o29_1) v29_8)
def ir29:FC:=⟨1,22,[.t 2,.t 3],(.seq (.ops o29_0) v29_9)⟩
theorem c53:compM Try.prog [] 53 = some ir53:=by kernel_rfl
theorem c40:compM Try.prog [] 40 = some ir40:=by kernel_rfl
theorem c29:compM Try.prog [] 29 = some ir29:=by kernel_rfl
attribute [local go_sem] Nat.reduceEqDiff Nat.reduceAdd Nat.reduceMul reduceIte Nat.reduceLeDiff Nat.reduceLT Nat.reduceBEq reduceCtorEq
theorem FSpecL_args {P:Program} {f:FuncId} {args args':List AV} {l:List Ob} {wl:List (List AV)} {Post:AV → List Ob → Prop} (ha:∀ w M loc vs,RepAs w M loc args' vs → RepAs w M loc args vs) (h:FSpecL P f args l wl Post):FSpecL P f args' l wl Post :=
 ⟨h.1,h.2.1,fun w M loc vs h1 h2 h3 => h.2.2 w M loc vs h1 h2 (ha _ _ _ _ h3)⟩
def fndAll (b:Bx):List (List Int):=(pursL b.wh.co.length [] 2).foldl (fndS b) []
theorem pursL_len:∀ (m:Nat) (p:List Int) (lf:Nat),lf ≤ 2 → (pursL m p lf).length ≤ 3 ^ m
 | 0,p,lf,_ => by simp [pursL]
 | m + 1,p,lf,h => by
  have key:∀ k,k ≤ lf + 1 → (pursN m p lf k).length ≤ k * 3 ^ m:=by
   intro k
   induction k with
   | zero => intro _; simp [pursN]
   | succ k ih =>
    intro hk
    have h1:=ih (by omega)
    have h2:=pursL_len m (p ++ [(k:Int)]) (lf - k) (by omega)
    rw [pursN_succ,List.length_append,Nat.add_mul]; omega
  have h1:=key (lf + 1) (Nat.le_refl _)
  have h2:(lf + 1) * 3 ^ m ≤ 3 * 3 ^ m:=Nat.mul_le_mul_right _ (by omega)
  have h3:(pursL (m + 1) p lf).length = (pursN m p lf (lf + 1)).length:=rfl
  rw [h3,Nat.pow_succ]; omega
theorem missing53 {b:Bx} (hwb:whB b.wh = true) (hb:BxOk b):FSpecN Try.prog 53 [.c (.pt b.cds)] (fun r os => os = [] ∧ ∃ G,gpur G = fndAll b ∧ r = .c (.sl 2 (gapsC G))):=by
 have hcl:=hb.wh.cl
 have hlen:=pursL_len b.wh.co.length [] 2 (Nat.le_refl _)
 have h81:3 ^ b.wh.co.length ≤ 81:=Nat.pow_le_pow_right (n:=3) (by omega) hcl
 have hgp:=FSpecL_args (args':=[.c (.pt b.cds),.c (.raw (.slice none 0 0)),iv 2,.fn 58 [.bp 1000 0,.bp 1001 0]]) (fun w M loc vs h => by
  simp only [RepAs,RepA,RepC] at h ⊢
  obtain ⟨v,vs,rfl,h1,v2,vs2,rfl,⟨rfl,_⟩,h3⟩:=h
  exact ⟨v,_,rfl,h1,_,vs2,rfl,⟨none,0,rfl,Nat.le_refl _,Nat.zero_le _,.inl rfl⟩,h3⟩) (gaps57 hwb hb b.wh.co.length [] 2 [] (by simp) (by simp) (by simp) (by simp [gpur]) (by simp only [List.length_nil]; omega))
 refine FSpecN_of c53 (Nat.le_refl _) (by decide) fun C hP hN hC hL => ?_; rw [init_st]
 simp only [ir53]
 refine WV_seq_ ?_
 (refine WV_op ?_; simp only [go_sem,hP]; (repeat refine qJ ?_))
 refine WV_seq_ ?_
 (refine WV_op ?_; simp only [go_sem,hP]; (repeat refine qJ ?_))
 refine WV_nilbox 3 0 603 79 2 (by decide) (by decide) (by decide) rfl rfl rfl ?_
 simp only [go_sem]
 (repeat ((first | refine Va ?_ | refine Vb ?_ | refine Vc ?_ | refine Vd ?_ | refine Ve ?_ | refine Vf ?_); (try simp only [go_sem,hP]); (repeat refine qJ ?_)))
 refine AS_lend [3,1,603] hgp rfl rfl rfl (by decide) rfl rfl ?_
 rintro r l' ⟨rfl,G,hG,rfl⟩
 refine ⟨_,_,rfl,rfl,?_⟩
 have n1:=gapsC_len G
 have n2:=gapsC_two G
 simp only [go_sem,hP,ownBack]
 (repeat ((first | refine Va ?_ | refine Vb ?_ | refine Vc ?_ | refine Vd ?_ | refine Ve ?_ | refine Vf ?_); (try simp only [go_sem,hP,n1,n2]); (repeat refine qJ ?_)))
 (refine WV_ret ?_; simp only [thenQ,inQ,RetQN,RetOkN,resAll,resA]; simp only [go_sem,tupA])
 exact ⟨[],_,_,[],by simp,by simp,rfl,AVle.refl _,rfl,rfl,G,hG,rfl⟩
def nilP:AV:=.c (.raw (.pointer none))
def nilS:AV:=.c (.raw (.slice none 0 0))
inductive Settled (b:Bx):AV → Prop
 | bad (h:bxB b = false):Settled b (.tup [nilP,nilS,iv (bxE b)])
 | none (h:bxB b = true) (h2:fndAll b = []):Settled b (.tup [nilP,nilS,iv 3])
 | some (h:bxB b = true) (G:Gaps) (hG:gpur G = fndAll b) (h2:fndAll b ≠ []):Settled b (.tup [.c (.pt b.cds),.c (.sl 2 (gapsC G)),iv 0])
theorem settle40 (b:Bx):FSpecN Try.prog 40 [b.av] (fun r os => os = [] ∧ Settled b r):=by
 refine FSpecN_of c40 (Nat.le_refl _) (by decide) fun C hP hN hC hL => ?_; rw [init_st]
 simp only [ir40,Bx.av,Bx.avs,ints]
 have ho:=open24 b
 by_cases h1:bxB b = true
 ·have hb:=bxB_ok h1
  have hwb:whB b.wh = true:=by
   simp only [bxB,Bool.and_eq_true] at h1
   exact h1.1.1.1.1.1.1.1
  rw [bxE_ok h1,bxPt_ok h1] at ho
  (repeat ((first | refine Va ?_ | refine Vb ?_ | refine Vc ?_ | refine Vd ?_ | refine Ve ?_ | refine Vf ?_); (try simp only [go_sem,hP]); (repeat refine qJ ?_)))
  (refine AS_pu (ho) ?_; simp only [go_sem,hP,Bx.av,Bx.avs,ints]; (repeat refine qJ ?_); (repeat ((first | refine Va ?_ | refine Vb ?_ | refine Vc ?_ | refine Vd ?_ | refine Ve ?_ | refine Vf ?_); (try simp only [go_sem,hP,Bx.av,Bx.avs,ints]); (repeat refine qJ ?_))))
  (refine WV_cond rfl (fun h => ?_) (fun h => ?_))
  ·simp at h
  (repeat ((first | refine Va ?_ | refine Vb ?_ | refine Vc ?_ | refine Vd ?_ | refine Ve ?_ | refine Vf ?_); (try simp only [go_sem,hP]); (repeat refine qJ ?_)))
  refine AS_new (missing53 hwb hb) rfl rfl rfl rfl ?_
  rintro _ _ ⟨rfl,G,hG,rfl⟩
  refine ⟨[],_,_,by simp,rfl,rfl,rfl,rfl,?_⟩
  have n1:=gapsC_len G
  simp only [go_sem,hP,ownBack]
  (repeat ((first | refine Va ?_ | refine Vb ?_ | refine Vc ?_ | refine Vd ?_ | refine Ve ?_ | refine Vf ?_); (try simp only [go_sem,hP,n1]); (repeat refine qJ ?_)))
  have hgl:(fndAll b).length = G.length:=by rw [← hG]; simp [gpur]
  (refine WV_cond rfl (fun h => ?_) (fun h => ?_))
  ·have hz:fndAll b = []:=List.eq_nil_of_length_eq_zero (by simp at h; rw [hgl,h]; rfl)
   (repeat ((first | refine Va ?_ | refine Vb ?_ | refine Vc ?_ | refine Vd ?_ | refine Ve ?_ | refine Vf ?_); (try simp only [go_sem,hP]); (repeat refine qJ ?_)))
   (refine WV_ret ?_; simp only [thenQ,inQ,RetQN,RetOkN,resAll,resA]; simp only [go_sem,tupA])
   exact ⟨[],_,_,[],by simp,by simp,rfl,AVle.refl _,rfl,rfl,.none h1 hz⟩
  ·have hz:fndAll b ≠ []:=fun e => by rw [e] at hgl; simp at h; exact h (List.eq_nil_of_length_eq_zero hgl.symm)
   (repeat ((first | refine Va ?_ | refine Vb ?_ | refine Vc ?_ | refine Vd ?_ | refine Ve ?_ | refine Vf ?_); (try simp only [go_sem,hP]); (repeat refine qJ ?_)))
   (refine WV_ret ?_; simp only [thenQ,inQ,RetQN,RetOkN,resAll,resA]; simp only [go_sem,tupA])
   exact ⟨[],_,_,[],by simp,by simp,rfl,AVle.refl _,rfl,rfl,.some h1 G hG hz⟩
 ·have h1:bxB b = false:=by simpa using h1
  have hne:bxE b ≠ 0:=by rw [bxE_no h1]; decide
  rw [bxPt_no h1] at ho
  (repeat ((first | refine Va ?_ | refine Vb ?_ | refine Vc ?_ | refine Vd ?_ | refine Ve ?_ | refine Vf ?_); (try simp only [go_sem,hP]); (repeat refine qJ ?_)))
  (refine AS_pu (ho) ?_; simp only [go_sem,hP,Bx.av,Bx.avs,ints]; (repeat refine qJ ?_); (repeat ((first | refine Va ?_ | refine Vb ?_ | refine Vc ?_ | refine Vd ?_ | refine Ve ?_ | refine Vf ?_); (try simp only [go_sem,hP,Bx.av,Bx.avs,ints]); (repeat refine qJ ?_))))
  (refine WV_cond rfl (fun h => ?_) (fun h => ?_))
  ·(repeat ((first | refine Va ?_ | refine Vb ?_ | refine Vc ?_ | refine Vd ?_ | refine Ve ?_ | refine Vf ?_); (try simp only [go_sem,hP]); (repeat refine qJ ?_)))
   (refine WV_ret ?_; simp only [thenQ,inQ,RetQN,RetOkN,resAll,resA]; simp only [go_sem,tupA])
   exact ⟨[],_,_,[],by simp,by simp,rfl,AVle.refl _,rfl,rfl,.bad h1⟩
  ·simp at h; exact absurd h hne
def missB (b:Bx):Int × Int:=if bxB b then (if fndAll b = [] then (0,3) else (worth b.wh ((fndAll b).getD 0 []),0)) else (0,bxE b)
theorem fndAll_ok {b:Bx}:∀ q ∈ fndAll b,PurOk b q:=fun q hq => by
 rcases fold_mem hq with h | h
 ·cases h
 ·exact pursL_ok b.wh.co.length [] 2 (by simp) (by simp) (by simp) q h
theorem missing29 (b:Bx):FSpec Try.prog 29 [b.av] (.tup [iv (missB b).1,iv (missB b).2]):=by
 refine FSpec_of c29 (Nat.le_refl _) (by decide) fun C hP hN hC hL => ?_; rw [init_st]
 simp only [ir29,Bx.av,Bx.avs,ints]
 (repeat ((first | refine Va ?_ | refine Vb ?_ | refine Vc ?_ | refine Vd ?_ | refine Ve ?_ | refine Vf ?_); (try simp only [go_sem,hP]); (repeat refine qJ ?_)))
 refine AS_new (settle40 b) rfl rfl rfl (by simp only [Bx.av,Bx.avs,ints]; rfl) ?_
 rintro r os ⟨rfl,hr⟩
 cases hr with
 | bad h1 =>
  have hne:bxE b ≠ 0:=by rw [bxE_no h1]; decide
  have hm:missB b = (0,bxE b):=by unfold missB; rw [h1]; rfl
  rw [hm]
  refine ⟨[],_,_,by simp,rfl,rfl,rfl,rfl,?_⟩
  simp only [go_sem,hP,ownBack]
  (repeat ((first | refine Va ?_ | refine Vb ?_ | refine Vc ?_ | refine Vd ?_ | refine Ve ?_ | refine Vf ?_); (try simp only [go_sem,hP]); (repeat refine qJ ?_)))
  (refine WV_cond rfl (fun h => ?_) (fun h => ?_))
  ·(repeat ((first | refine Va ?_ | refine Vb ?_ | refine Vc ?_ | refine Vd ?_ | refine Ve ?_ | refine Vf ?_); (try simp only [go_sem,hP]); (repeat refine qJ ?_)))
   (refine WV_ret ?_; simp only [thenQ,inQ,RetQ,RetOk,resAll,resA]; simp only [go_sem,tupA,AV.port,AV.portL,exists_eq_left']; (first | exact AVle.of rfl | refine AVle.of ?_ | skip))
  ·simp at h; exact absurd h hne
 | none h1 h2 =>
  have hm:missB b = (0,3):=by unfold missB; rw [if_pos h1,if_pos h2]
  rw [hm]
  refine ⟨[],_,_,by simp,rfl,rfl,rfl,rfl,?_⟩
  simp only [go_sem,hP,ownBack]
  (repeat ((first | refine Va ?_ | refine Vb ?_ | refine Vc ?_ | refine Vd ?_ | refine Ve ?_ | refine Vf ?_); (try simp only [go_sem,hP]); (repeat refine qJ ?_)))
  (refine WV_cond rfl (fun h => ?_) (fun h => ?_))
  ·(repeat ((first | refine Va ?_ | refine Vb ?_ | refine Vc ?_ | refine Vd ?_ | refine Ve ?_ | refine Vf ?_); (try simp only [go_sem,hP]); (repeat refine qJ ?_)))
   (refine WV_ret ?_; simp only [thenQ,inQ,RetQ,RetOk,resAll,resA]; simp only [go_sem,tupA,AV.port,AV.portL,exists_eq_left']; (first | exact AVle.of rfl | refine AVle.of ?_ | skip))
  ·simp at h
 | some h1 G hG h2 =>
  have hb:=bxB_ok h1
  have hm:missB b = (worth b.wh ((fndAll b).getD 0 []),0):=by unfold missB; rw [if_pos h1,if_neg h2]
  rw [hm]
  have n1:=gapsC_len G
  have hl:0 < G.length:=by
   have:0 < (gpur G).length:=by rw [hG]; exact List.length_pos_iff.2 h2
   simpa [gpur] using this
  obtain ⟨p0,a0,hp0,hg0,hgp⟩ : ∃ p0 a0,PurOk b p0 ∧ (gapsC G).getD 0 [] = [ints p0,ints a0] ∧ (fndAll b).getD 0 [] = p0:=by
   cases G with
   | nil => simp at hl
   | cons g G => exact ⟨g.1,g.2,fndAll_ok _ (by rw [← hG]; simp [gpur]),rfl,by rw [← hG]; rfl⟩
  rw [hgp]
  refine ⟨[],_,_,by simp,rfl,rfl,rfl,rfl,?_⟩
  simp only [go_sem,hP,ownBack]
  (repeat ((first | refine Va ?_ | refine Vb ?_ | refine Vc ?_ | refine Vd ?_ | refine Ve ?_ | refine Vf ?_); (try simp only [go_sem,hP,n1]); (repeat refine qJ ?_)))
  (refine WV_cond rfl (fun h => ?_) (fun h => ?_))
  ·simp at h
  (repeat ((first | refine Va ?_ | refine Vb ?_ | refine Vc ?_ | refine Vd ?_ | refine Ve ?_ | refine Vf ?_); (try simp only [go_sem,hP,n1,hg0,hl,Int.toNat_zero]); (repeat refine qJ ?_)))
  (refine AS_pu (worth25 hb.wh hp0.len (pur14 hp0)) ?_; simp only [go_sem,hP]; (repeat refine qJ ?_); (repeat ((first | refine Va ?_ | refine Vb ?_ | refine Vc ?_ | refine Vd ?_ | refine Ve ?_ | refine Vf ?_); (try simp only [go_sem,hP]); (repeat refine qJ ?_))))
  (refine WV_ret ?_; simp only [thenQ,inQ,RetQ,RetOk,resAll,resA]; simp only [go_sem,tupA,AV.port,AV.portL,exists_eq_left']; (first | exact AVle.of rfl | refine AVle.of ?_ | skip))
end Go.Proofs.Ytakplakbbidihaa

namespace Go.Proofs.Ytakplakbbidihaa
open Go Go.V
abbrev o12_0:List Ins:=[⟨some 2,.mv (.k (.c (.int .i64 0))),none,true⟩,
 ⟨some 3,.mv (.k (.c (.int .i64 0))),none,true⟩,
 ⟨some 4,.mv (.k (.c (.int .i64 0))),none,true⟩,
 ⟨some 5,.mv (.k (.c (.int .i64 0))),none,true⟩]
abbrev o12_1:List Ins:=[⟨some 17,.mv (.t 0),none,true⟩,
 ⟨some 18,.len (.t 17),none,true⟩,
 ⟨some 19,.bin .gtr (.t 18) (.k (.c (.int .i64 5))),none,true⟩]
abbrev o12_2:List Ins:=[⟨some 2,.mv (.k (.c (.int .i64 0))),none,true⟩,
 ⟨some 3,.mv (.k (.c (.int .i64 0))),none,true⟩,
 ⟨some 4,.mv (.k (.c (.int .i64 0))),none,true⟩,
 ⟨some 5,.mv (.k (.c (.int .i64 2))),none,true⟩]
abbrev v12_3:VC:=(.seq (.ops o12_2) .ret)
abbrev v12_4:VC:=(.cond (.t 19) v12_3 .skip)
abbrev o12_5:List Ins:=[⟨some 20,.mv (.t 0),none,true⟩,
 ⟨some 21,.len (.t 20),none,true⟩,
 ⟨some 22,.mv (.k (.c (.int .i64 0))),none,true⟩]
abbrev o12_6:List Ins:=[⟨some 23,.bin .lss (.t 22) (.t 21),none,true⟩]
abbrev o12_7:List Ins:=[⟨some 24,.ia 8 (.t 20) (.t 22),none,true⟩,
 ⟨some 25,.ld false 8 (.t 24),none,true⟩,
 ⟨some 7,.alloc [(.c (.int .i64 0)),(.c (.raw (.slice none 0 0))),(.c (.raw (.slice none 0 0))),(.c (.raw (.slice none 0 0))),(.c (.raw (.slice none 0 0))),(.c (.raw (.slice none 0 0))),(.c (.int .i64 0)),(.c (.int .i64 0))],none,true⟩,
 ⟨none,.st 8 (.t 7) (.t 25),none,true⟩]
abbrev o12_8:List Ins:=[⟨some 26,.ld false 8 (.t 7),none,true⟩,
 ⟨some 27,.call (.k (.fn 28 [])) [(.t 26)],none,true⟩,
 ⟨some 8,.mv (.t 27),none,true⟩]
abbrev o12_9:List Ins:=[⟨some 28,.mv (.t 8),none,true⟩,
 ⟨some 29,.bin .neq (.t 28) (.k (.c (.int .i64 0))),none,true⟩]
abbrev o12_10:List Ins:=[⟨some 30,.mv (.t 8),none,true⟩,
 ⟨some 2,.mv (.k (.c (.int .i64 0))),none,true⟩,
 ⟨some 3,.mv (.k (.c (.int .i64 0))),none,true⟩,
 ⟨some 4,.mv (.k (.c (.int .i64 0))),none,true⟩,
 ⟨some 5,.mv (.t 30),none,true⟩]
abbrev v12_11:VC:=(.seq (.ops o12_10) .ret)
abbrev v12_12:VC:=(.cond (.t 29) v12_11 .skip)
abbrev v12_13:VC:=(.seq (.ops o12_9) v12_12)
abbrev v12_14:VC:=(.seq (.ops o12_8) v12_13)
abbrev v12_15:VC:=(.seq (.ops o12_7) v12_14)
abbrev o12_16:List Ins:=[⟨some 31,.bin .add (.t 22) (.k (.c (.int .i64 1))),none,true⟩,
 ⟨some 22,.mv (.t 31),none,true⟩]
abbrev v12_17:VC:=(.seq (.block 1 v12_15) (.ops o12_16))
abbrev v12_18:VC:=(.seq (.cond (.t 23) .skip (.exit 0)) v12_17)
abbrev v12_19:VC:=(.seq (.ops o12_6) v12_18)
-- K12_1: changed and kept: [22,2,3,4]
abbrev K12_1:List Nat:=[0,20,21]
abbrev v12_20:VC:=(.loop v12_19)
abbrev v12_21:VC:=(.block 0 v12_20)
abbrev o12_22:List Ins:=[⟨some 32,.mv (.t 0),none,true⟩,
 ⟨some 33,.len (.t 32),none,true⟩,
 ⟨some 34,.mv (.k (.c (.int .i64 0))),none,true⟩]
abbrev o12_23:List Ins:=[⟨some 35,.bin .lss (.t 34) (.t 33),none,true⟩]
abbrev o12_24:List Ins:=[⟨some 36,.ia 8 (.t 32) (.t 34),none,true⟩,
 ⟨some 37,.ld false 8 (.t 36),none,true⟩,
 ⟨some 10,.alloc [(.c (.int .i64 0)),(.c (.raw (.slice none 0 0))),(.c (.raw (.slice none 0 0))),(.c (.raw (.slice none 0 0))),(.c (.raw (.slice none 0 0))),(.c (.raw (.slice none 0 0))),(.c (.int .i64 0)),(.c (.int .i64 0))],none,true⟩,
 ⟨none,.st 8 (.t 10) (.t 37),none,true⟩]
abbrev o12_25:List Ins:=[⟨some 39,.ld false 8 (.t 10),none,true⟩,
 ⟨some 40,.call (.k (.fn 9 [])) [(.t 39)],none,true⟩,
 ⟨some 38,.mv (.t 40),none,true⟩,
 ⟨some 41,.ext (.t 38) 0,none,true⟩,
 ⟨some 42,.ext (.t 38) 1,none,true⟩,
 ⟨some 43,.ext (.t 38) 2,none,true⟩,
 ⟨some 44,.ext (.t 38) 3,none,true⟩,
 ⟨some 11,.mv (.t 41),none,true⟩,
 ⟨some 12,.mv (.t 42),none,true⟩,
 ⟨some 13,.mv (.t 43),none,true⟩,
 ⟨some 14,.mv (.t 44),none,true⟩]
abbrev o12_26:List Ins:=[⟨some 45,.mv (.t 2),none,true⟩,
 ⟨some 46,.mv (.t 11),none,true⟩,
 ⟨some 47,.bin .add (.t 45) (.t 46),none,true⟩,
 ⟨some 2,.mv (.t 47),none,true⟩]
abbrev o12_27:List Ins:=[⟨some 49,.ld false 8 (.t 10),none,true⟩,
 ⟨some 50,.call (.k (.fn 29 [])) [(.t 49)],none,true⟩,
 ⟨some 48,.mv (.t 50),none,true⟩,
 ⟨some 51,.ext (.t 48) 0,none,true⟩,
 ⟨some 52,.ext (.t 48) 1,none,true⟩,
 ⟨some 15,.mv (.t 51),none,true⟩,
 ⟨some 16,.mv (.t 52),none,true⟩]
abbrev o12_28:List Ins:=[⟨some 53,.mv (.t 16),none,true⟩,
 ⟨some 54,.bin .eql (.t 53) (.k (.c (.int .i64 0))),none,true⟩]
abbrev o12_29:List Ins:=[⟨some 55,.mv (.t 3),none,true⟩,
 ⟨some 56,.mv (.t 15),none,true⟩,
 ⟨some 57,.bin .add (.t 55) (.t 56),none,true⟩,
 ⟨some 3,.mv (.t 57),none,true⟩]
abbrev o12_30:List Ins:=[⟨some 58,.mv (.t 4),none,true⟩,
 ⟨some 59,.bin .add (.t 58) (.k (.c (.int .i64 1))),none,true⟩,
 ⟨some 4,.mv (.t 59),none,true⟩]
abbrev v12_31:VC:=(.cond (.t 54) (.ops o12_29) (.ops o12_30))
abbrev v12_32:VC:=(.seq (.ops o12_28) v12_31)
abbrev v12_33:VC:=(.seq (.ops o12_27) v12_32)
abbrev v12_34:VC:=(.seq (.ops o12_26) v12_33)
abbrev v12_35:VC:=(.seq (.ops o12_25) v12_34)
abbrev v12_36:VC:=(.seq (.ops o12_24) v12_35)
abbrev o12_37:List Ins:=[⟨some 60,.bin .add (.t 34) (.k (.c (.int .i64 1))),none,true⟩,
 ⟨some 34,.mv (.t 60),none,true⟩]
abbrev v12_38:VC:=(.seq (.block 3 v12_36) (.ops o12_37))
abbrev v12_39:VC:=(.seq (.cond (.t 35) .skip (.exit 2)) v12_38)
abbrev v12_40:VC:=(.seq (.ops o12_23) v12_39)
-- K12_2: changed and kept: [34,2,3,4]
abbrev K12_2:List Nat:=[32,33]
abbrev v12_41:VC:=(.loop v12_40)
abbrev v12_42:VC:=(.block 2 v12_41)
abbrev o12_43:List Ins:=[⟨some 61,.mv (.t 2),none,true⟩,
 ⟨some 62,.mv (.t 3),none,true⟩,
 ⟨some 63,.mv (.t 4),none,true⟩,
 ⟨some 2,.mv (.t 61),none,true⟩,
 ⟨some 3,.mv (.t 62),none,true⟩,
 ⟨some 4,.mv (.t 63),none,true⟩,
 ⟨some 5,.mv (.k (.c (.int .i64 0))),none,true⟩]
abbrev v12_44:VC:=(.seq (.ops o12_43) .ret)
abbrev v12_45:VC:=(.seq (.seq (.ops o12_22) v12_42) v12_44)
abbrev v12_46:VC:=(.seq (.seq (.ops o12_5) v12_21) v12_45)
abbrev v12_47:VC:=(.seq (.seq (.ops o12_1) v12_4) v12_46)
def ir12:FC:=⟨1,64,[.t 2,.t 3,.t 4,.t 5],(.seq (.ops o12_0) v12_47)⟩
theorem c12:compM Try.prog [] 12 = some ir12:=by kernel_rfl
attribute [local go_sem] Nat.reduceEqDiff Nat.reduceAdd Nat.reduceMul reduceIte Nat.reduceLeDiff Nat.reduceLT Nat.reduceBEq reduceCtorEq
def bxC (bs:List Bx):CD:=.sl 8 (bs.map Bx.cds)
def badE (bs:List Bx):Int:=match bs.find? (fun b => bxE b != 0) with | some b => bxE b | none => 0
def sumS (bs:List Bx):Int × Int × Int:=bs.foldl (fun s b => (s.1 + (cashP b).1,(if (missB b).2 == 0 then s.2.1 + (missB b).1 else s.2.1),(if (missB b).2 == 0 then s.2.2 else s.2.2 + 1))) (0,0,0)
def sumP (bs:List Bx):Int × Int × Int × Int :=
 if 5 < bs.length then (0,0,0,2) else if badE bs ≠ 0 then (0,0,0,badE bs) else ((sumS bs).1,(sumS bs).2.1,(sumS bs).2.2,0)
theorem sumS_snoc (bs:List Bx) (b:Bx):sumS (bs ++ [b]) = ((sumS bs).1 + (cashP b).1,(if (missB b).2 == 0 then (sumS bs).2.1 + (missB b).1 else (sumS bs).2.1),(if (missB b).2 == 0 then (sumS bs).2.2 else (sumS bs).2.2 + 1)):=by simp only [sumS,List.foldl_append,List.foldl_cons,List.foldl_nil]
theorem cash_ok (b:Bx):-5600 ≤ (cashP b).1 ∧ (cashP b).1 ≤ 5600:=by
 unfold cashP
 split
 ·rename_i h
  have hb:=bxB_ok h
  have f1:=worth_ok hb.wh (Nat.le_of_eq hb.fl) (le14 hb.fo)
  have f2:=worth_ok hb.wh (Nat.le_of_eq hb.ml) (le14 hb.ma)
  simp only; omega
 ·simp
theorem miss_ok (b:Bx):0 ≤ (missB b).1 ∧ (missB b).1 ≤ 5600:=by
 unfold missB
 split
 ·rename_i h
  have hb:=bxB_ok h
  split
  ·simp
  ·rename_i h2
   have hm:(fndAll b).getD 0 [] ∈ fndAll b:=by
    cases hf:fndAll b with
    | nil => exact absurd hf h2
    | cons a l => simp
   have hp:=fndAll_ok _ hm
   exact worth_ok hb.wh hp.len (pur14 hp)
 ·simp
theorem sumS_ok:∀ (bs:List Bx),(sumS bs).1 ≤ 5600 * bs.length ∧ -(5600 * (bs.length:Int)) ≤ (sumS bs).1 ∧ 0 ≤ (sumS bs).2.1 ∧ (sumS bs).2.1 ≤ 5600 * bs.length ∧ 0 ≤ (sumS bs).2.2 ∧ (sumS bs).2.2 ≤ bs.length:=by
 intro bs
 rw [← List.reverse_reverse bs]
 generalize bs.reverse = l
 induction l with
 | nil => simp [sumS]
 | cons b l ih =>
  rw [List.reverse_cons,sumS_snoc]
  have h1:=cash_ok b
  have h2:=miss_ok b
  simp only [List.length_append,List.length_cons,List.length_nil,List.length_reverse] at ih ⊢
  refine ⟨?_,?_,?_,?_,?_,?_⟩ <;> (try simp only) <;> (try split) <;> omega
theorem sum12 (bs:List Bx):FSpec Try.prog 12 [.c (bxC bs)] (.tup [iv (sumP bs).1,iv (sumP bs).2.1,iv (sumP bs).2.2.1,iv (sumP bs).2.2.2]):=by
 refine FSpec_of c12 (Nat.le_refl _) (by decide) fun C hP hN hC hL => ?_; rw [init_st]
 simp only [ir12,bxC]
 (repeat ((first | refine Va ?_ | refine Vb ?_ | refine Vc ?_ | refine Vd ?_ | refine Ve ?_ | refine Vf ?_); (try simp only [go_sem,hP,List.length_map]); (repeat refine qJ ?_)))
 (refine WV_cond rfl (fun h => ?_) (fun h => ?_))
 ·have h:5 < bs.length:=by simp at h; omega
  have e:sumP bs = (0,0,0,2):=by unfold sumP; rw [if_pos h]
  rw [e]
  (repeat ((first | refine Va ?_ | refine Vb ?_ | refine Vc ?_ | refine Vd ?_ | refine Ve ?_ | refine Vf ?_); (try simp only [go_sem,hP]); (repeat refine qJ ?_)))
  (refine WV_ret ?_; simp only [thenQ,inQ,RetQ,RetOk,resAll,resA]; simp only [go_sem,tupA,AV.port,AV.portL,exists_eq_left']; (first | exact AVle.of rfl | refine AVle.of ?_ | skip))
 have h5:bs.length ≤ 5:=by simp at h; omega
 (repeat ((first | refine Va ?_ | refine Vb ?_ | refine Vc ?_ | refine Vd ?_ | refine Ve ?_ | refine Vf ?_); (try simp only [go_sem,hP,List.length_map]); (repeat refine qJ ?_)))
 refine WV_loopK K12_1 [] (fun k:Nat => k ≤ bs.length ∧ ∀ b ∈ bs.take k,bxE b = 0) (fun k => bs.length - k) (fun k => [(22,iv k),(2,iv 0),(3,iv 0),(4,iv 0)]) (fun _ => []) 0 ⟨by omega,by simp⟩ ?_ ?_
 ·exact Sub_au
 ·rintro k ⟨hk,hall⟩
  (repeat ((first | refine Va ?_ | refine Vb ?_ | refine Vc ?_ | refine Vd ?_ | refine Ve ?_ | refine Vf ?_); (try simp only [go_sem,hP]); (repeat refine qJ ?_)))
  (refine WV_cond rfl (fun h => ?_) (fun h => ?_))
  ·have hi:k < bs.length:=by simpa using h
   have w1:=w64 (n:=(k:Int) + 1) (by omega) (by omega)
   obtain ⟨b,hb⟩ : ∃ b,b = bs[k]:=⟨_,rfl⟩
   have hgd:(bs.map Bx.cds).getD k [] = b.cds:=by rw [List.getD_eq_getElem?_getD,List.getElem?_map,List.getElem?_eq_getElem hi,hb]; rfl
   have e8:b.cds.length = 8:=rfl
   have hcv:(List.take 8 b.cds).map AV.c = b.avs:=rfl
   (repeat ((first | refine Va ?_ | refine Vb ?_ | refine Vc ?_ | refine Vd ?_ | refine Ve ?_ | refine Vf ?_); (try simp only [go_sem,hP,hgd,Bx.cds,ints,List.length_map,Int.toNat_natCast,Int.ofNat_lt,hi,Int.natCast_nonneg]); (repeat refine qJ ?_)))
   (refine AS_pu (check28 b) ?_; simp only [go_sem,hP,Bx.av,Bx.avs,ints]; (repeat refine qJ ?_); (repeat ((first | refine Va ?_ | refine Vb ?_ | refine Vc ?_ | refine Vd ?_ | refine Ve ?_ | refine Vf ?_); (try simp only [go_sem,hP,Bx.av,Bx.avs,ints]); (repeat refine qJ ?_))))
   by_cases hz:bxE b = 0
   ·(refine WV_cond rfl (fun h => ?_) (fun h => ?_))
    ·simp [hz] at h
    ·(repeat ((first | refine Va ?_ | refine Vb ?_ | refine Vc ?_ | refine Vd ?_ | refine Ve ?_ | refine Vf ?_); (try simp only [go_sem,hP,w1]); (repeat refine qJ ?_)))
     refine ⟨k + 1,⟨by omega,fun x hx => ?_⟩,by omega,?_⟩
     ·rw [List.take_succ_eq_append_getElem hi,List.mem_append,List.mem_singleton] at hx
      rcases hx with hx | hx
      ·exact hall x hx
      ·rw [hx,← hb]; exact hz
     ·exact Sub_au
   ·have e:sumP bs = (0,0,0,bxE b):=by
     have hbad:badE bs = bxE b:=by
      unfold badE
      have:bs.find? (fun b => bxE b != 0) = some b:=by
       rw [List.find?_eq_some_iff_append]
       refine ⟨by simpa using hz,bs.take k,bs.drop (k + 1),?_,fun x hx => by simp [hall x hx]⟩
       rw [hb,List.getElem_cons_drop,List.take_append_drop]
      rw [this]
     unfold sumP
     rw [if_neg (by omega),hbad,if_pos hz]
    rw [e]
    (refine WV_cond rfl (fun h => ?_) (fun h => ?_))
    ·(repeat ((first | refine Va ?_ | refine Vb ?_ | refine Vc ?_ | refine Vd ?_ | refine Ve ?_ | refine Vf ?_); (try simp only [go_sem,hP]); (repeat refine qJ ?_)))
     (refine WV_ret ?_; simp only [thenQ,inQ,RetQ,RetOk,resAll,resA]; simp only [go_sem,tupA,AV.port,AV.portL,exists_eq_left']; (first | exact AVle.of rfl | refine AVle.of ?_ | skip))
    ·simp at h; exact absurd h hz
  ·have hi:k = bs.length:=by simp at h; omega
   subst hi
   rw [List.take_length] at hall
   have hbad:badE bs = 0:=by
    unfold badE
    have:bs.find? (fun b => bxE b != 0) = none:=by
     rw [List.find?_eq_none]
     intro x hx; simp [hall x hx]
    rw [this]
   have e:sumP bs = ((sumS bs).1,(sumS bs).2.1,(sumS bs).2.2,0):=by
    unfold sumP
    rw [if_neg (by omega),hbad,if_neg (by decide)]
   rw [e]
   clear h hk
   (repeat ((first | refine Va ?_ | refine Vb ?_ | refine Vc ?_ | refine Vd ?_ | refine Ve ?_ | refine Vf ?_); (try simp only [go_sem,hP,List.length_map]); (repeat refine qJ ?_)))
   refine WV_loopK K12_2 [] (fun k:Nat => k ≤ bs.length) (fun k => bs.length - k) (fun k => [(34,iv k),(2,iv (sumS (bs.take k)).1),(3,iv (sumS (bs.take k)).2.1),(4,iv (sumS (bs.take k)).2.2)]) (fun _ => []) 0 (by omega) ?_ ?_
   ·(refine Sub_of (by simp only [go_sem]; ((repeat' (first | exact EnvLe_e0 _ _ | refine EnvLe_upd ?_ ?_)) <;> ((try simp only [upd_app,e0_app,o0_app,Nat.reduceEqDiff,reduceIte]); first | exact AWk.refl _ _ | exact AWk.int (by omega) | exact AWk.int (by rw [w64 (by omega) (by omega)]; omega) | exact AWk.grow rfl | exact AWk.nil _ | exact AWk.of (by simp [sumS])))) (by simp only [go_sem]; exact ObjLe_au))
   ·intro k hk
    (repeat ((first | refine Va ?_ | refine Vb ?_ | refine Vc ?_ | refine Vd ?_ | refine Ve ?_ | refine Vf ?_); (try simp only [go_sem,hP]); (repeat refine qJ ?_)))
    (refine WV_cond rfl (fun h => ?_) (fun h => ?_))
    ·have hi:k < bs.length:=by simpa using h
     obtain ⟨b,hb⟩ : ∃ b,b = bs[k]:=⟨_,rfl⟩
     have hgd:(bs.map Bx.cds).getD k [] = b.cds:=by rw [List.getD_eq_getElem?_getD,List.getElem?_map,List.getElem?_eq_getElem hi,hb]; rfl
     have e8:b.cds.length = 8:=rfl
     have hcv:(List.take 8 b.cds).map AV.c = b.avs:=rfl
     have hsn:sumS (bs.take (k + 1)) = ((sumS (bs.take k)).1 + (cashP b).1,(if (missB b).2 == 0 then (sumS (bs.take k)).2.1 + (missB b).1 else (sumS (bs.take k)).2.1),(if (missB b).2 == 0 then (sumS (bs.take k)).2.2 else (sumS (bs.take k)).2.2 + 1)):=by rw [List.take_succ_eq_append_getElem hi,sumS_snoc,← hb]
     have hsb:=sumS_ok (bs.take k)
     rw [List.length_take_of_le hk] at hsb
     have hcb:=cash_ok b
     have hmb:=miss_ok b
     have w1:=w64 (n:=(k:Int) + 1) (by omega) (by omega)
     have w2:=w64 (n:=(sumS (bs.take k)).1 + (cashP b).1) (by omega) (by omega)
     have w3:=w64 (n:=(sumS (bs.take k)).2.1 + (missB b).1) (by omega) (by omega)
     have w4:=w64 (n:=(sumS (bs.take k)).2.2 + 1) (by omega) (by omega)
     (repeat ((first | refine Va ?_ | refine Vb ?_ | refine Vc ?_ | refine Vd ?_ | refine Ve ?_ | refine Vf ?_); (try simp only [go_sem,hP,hgd,Bx.cds,ints,List.length_map,Int.toNat_natCast,Int.ofNat_lt,hi,Int.natCast_nonneg]); (repeat refine qJ ?_)))
     (refine AS_pu (cash9 b) ?_; simp only [go_sem,hP,Bx.av,Bx.avs,ints,w2]; (repeat refine qJ ?_); (repeat ((first | refine Va ?_ | refine Vb ?_ | refine Vc ?_ | refine Vd ?_ | refine Ve ?_ | refine Vf ?_); (try simp only [go_sem,hP,Bx.av,Bx.avs,ints,w2]); (repeat refine qJ ?_))))
     (refine AS_pu (missing29 b) ?_; simp only [go_sem,hP,Bx.av,Bx.avs,ints]; (repeat refine qJ ?_); (repeat ((first | refine Va ?_ | refine Vb ?_ | refine Vc ?_ | refine Vd ?_ | refine Ve ?_ | refine Vf ?_); (try simp only [go_sem,hP,Bx.av,Bx.avs,ints]); (repeat refine qJ ?_))))
     (refine WV_cond rfl (fun h => ?_) (fun h => ?_))
     ·(repeat ((first | refine Va ?_ | refine Vb ?_ | refine Vc ?_ | refine Vd ?_ | refine Ve ?_ | refine Vf ?_); (try simp only [go_sem,hP,w1,w3]); (repeat refine qJ ?_)))
      refine ⟨k + 1,by omega,by omega,?_⟩
      rw [hsn]
      simp only [h,if_true]
      exact Sub_au
     ·(repeat ((first | refine Va ?_ | refine Vb ?_ | refine Vc ?_ | refine Vd ?_ | refine Ve ?_ | refine Vf ?_); (try simp only [go_sem,hP,w1,w4]); (repeat refine qJ ?_)))
      refine ⟨k + 1,by omega,by omega,?_⟩
      rw [hsn]
      simp only [h,Bool.false_eq_true,if_false]
      exact Sub_au
    ·have hi:k = bs.length:=by simp at h; omega
     subst hi
     rw [List.take_length]
     (repeat ((first | refine Va ?_ | refine Vb ?_ | refine Vc ?_ | refine Vd ?_ | refine Ve ?_ | refine Vf ?_); (try simp only [go_sem,hP]); (repeat refine qJ ?_)))
     (refine WV_ret ?_; simp only [thenQ,inQ,RetQ,RetOk,resAll,resA]; simp only [go_sem,tupA,AV.port,AV.portL,exists_eq_left']; (first | exact AVle.of rfl | refine AVle.of ?_ | skip))
end Go.Proofs.Ytakplakbbidihaa

namespace Go.Proofs.Ytakplakbbidihaa
open Go Go.V
abbrev o33_0:List Ins:=[⟨some 6,.mv (.k (.c (.bool false))),none,true⟩]
abbrev o33_1:List Ins:=[⟨some 7,.mv (.t 0),none,true⟩,
 ⟨some 8,.mv (.t 1),none,true⟩,
 ⟨some 9,.bin .geq (.t 7) (.t 8),none,true⟩,
 ⟨some 10,.mv (.t 9),none,true⟩,
 ⟨some 11,.mv (.t 0),(some (10,true)),true⟩,
 ⟨some 12,.mv (.t 2),(some (10,true)),true⟩,
 ⟨some 13,.bin .leq (.t 11) (.t 12),(some (10,true)),true⟩,
 ⟨some 14,.pick (.t 10) (.t 13) (.k (.c (.bool false))),none,true⟩,
 ⟨some 6,.mv (.t 14),none,true⟩]
abbrev v33_2:VC:=(.seq (.ops o33_1) .ret)
def ir33:FC:=⟨3,15,[.t 6],(.seq (.ops o33_0) v33_2)⟩
abbrev o22_0:List Ins:=[⟨some 6,.mv (.k (.c (.bool false))),none,true⟩]
abbrev o22_1:List Ins:=[⟨some 7,.mv (.t 0),none,true⟩,
 ⟨some 8,.mv (.t 1),none,true⟩,
 ⟨some 9,.mv (.t 2),none,true⟩,
 ⟨some 10,.call (.k (.fn 33 [])) [(.t 7),(.t 8),(.t 9)],none,true⟩,
 ⟨some 6,.mv (.t 10),none,true⟩]
abbrev v22_2:VC:=(.seq (.ops o22_1) .ret)
def ir22:FC:=⟨3,11,[.t 6],(.seq (.ops o22_0) v22_2)⟩
abbrev o34_0:List Ins:=[⟨some 6,.mv (.k (.c (.bool false))),none,true⟩]
abbrev o34_1:List Ins:=[⟨some 7,.mv (.k (.c (.int .i64 0))),none,true⟩]
abbrev o34_2:List Ins:=[⟨some 8,.mv (.t 7),none,true⟩,
 ⟨some 9,.mv (.t 0),none,true⟩,
 ⟨some 10,.len (.t 9),none,true⟩,
 ⟨some 11,.bin .lss (.t 8) (.t 10),none,true⟩]
abbrev v34_3:VC:=(.cond (.t 11) .skip (.exit 0))
abbrev o34_4:List Ins:=[⟨some 14,.mv (.t 0),none,false⟩,
 ⟨some 15,.mv (.t 7),none,false⟩,
 ⟨some 16,.ia 1 (.t 14) (.t 15),none,false⟩,
 ⟨some 17,.ld true 1 (.t 16),none,false⟩,
 ⟨some 18,.mv (.t 1),none,false⟩,
 ⟨some 19,.mv (.t 2),none,false⟩,
 ⟨some 20,.call (.k (.fn 33 [])) [(.t 17),(.t 18),(.t 19)],none,true⟩,
 ⟨some 21,.un .not (.t 20),none,true⟩,
 ⟨some 22,.mv (.t 21),none,true⟩,
 ⟨some 23,.mv (.t 7),(some (22,false)),true⟩,
 ⟨some 24,.bin .gtr (.t 23) (.k (.c (.int .i64 0))),(some (22,false)),true⟩,
 ⟨some 25,.mv (.t 24),(some (22,false)),true⟩,
 ⟨some 26,.mv (.t 0),(some (25,true)),false⟩,
 ⟨some 27,.mv (.t 7),(some (25,true)),false⟩,
 ⟨some 28,.ia 1 (.t 26) (.t 27),(some (25,true)),false⟩,
 ⟨some 29,.ld true 1 (.t 28),(some (25,true)),false⟩,
 ⟨some 30,.mv (.t 0),(some (25,true)),false⟩,
 ⟨some 31,.mv (.t 7),(some (25,true)),false⟩,
 ⟨some 32,.bin .sub (.t 31) (.k (.c (.int .i64 1))),(some (25,true)),false⟩,
 ⟨some 33,.ia 1 (.t 30) (.t 32),(some (25,true)),false⟩,
 ⟨some 34,.ld true 1 (.t 33),(some (25,true)),false⟩,
 ⟨some 35,.bin .leq (.t 29) (.t 34),(some (25,true)),true⟩,
 ⟨some 36,.pick (.t 25) (.t 35) (.k (.c (.bool false))),(some (22,false)),true⟩,
 ⟨some 37,.pick (.t 22) (.k (.c (.bool true))) (.t 36),none,true⟩]
abbrev o34_5:List Ins:=[⟨some 6,.mv (.k (.c (.bool false))),none,true⟩]
abbrev v34_6:VC:=(.seq (.ops o34_5) .ret)
abbrev v34_7:VC:=(.cond (.t 37) v34_6 .skip)
abbrev v34_8:VC:=(.seq (.dops o34_4) v34_7)
abbrev o34_9:List Ins:=[⟨some 12,.mv (.t 7),none,true⟩,
 ⟨some 13,.bin .add (.t 12) (.k (.c (.int .i64 1))),none,true⟩,
 ⟨some 7,.mv (.t 13),none,true⟩]
abbrev v34_10:VC:=(.seq (.block 1 v34_8) (.ops o34_9))
abbrev v34_11:VC:=(.seq (.seq (.ops o34_2) v34_3) v34_10)
-- K34_1: changed and kept: [7]
abbrev K34_1:List Nat:=[0,1,2]
abbrev v34_12:VC:=(.loop v34_11)
abbrev v34_13:VC:=(.block 0 v34_12)
abbrev o34_14:List Ins:=[⟨some 6,.mv (.k (.c (.bool true))),none,true⟩]
abbrev v34_15:VC:=(.seq (.ops o34_14) .ret)
abbrev v34_16:VC:=(.seq (.seq (.ops o34_1) v34_13) v34_15)
def ir34:FC:=⟨3,38,[.t 6],(.seq (.ops o34_0) v34_16)⟩
abbrev o20_0:List Ins:=[⟨some 1,.box 3 (.t 0),none,true⟩,
 ⟨some 2,.mv (.k (.c (.int .i64 0))),none,true⟩]
abbrev o20_1:List Ins:=[⟨some 3,.fa 0 (.t 1),none,true⟩,
 ⟨some 4,.ld true 1 (.t 3),none,true⟩,
 ⟨some 5,.call (.k (.fn 33 [])) [(.t 4),(.k (.c (.int .i64 1))),(.k (.c (.int .i64 200)))],none,true⟩,
 ⟨some 6,.un .not (.t 5),none,true⟩,
 ⟨some 7,.mv (.t 6),none,true⟩,
 ⟨some 8,.fa 1 (.t 1),(some (7,false)),true⟩,
 ⟨some 9,.ld true 1 (.t 8),(some (7,false)),true⟩,
 ⟨some 10,.len (.t 9),(some (7,false)),true⟩,
 ⟨some 11,.bin .gtr (.t 10) (.k (.c (.int .i64 12))),(some (7,false)),true⟩,
 ⟨some 12,.pick (.t 7) (.k (.c (.bool true))) (.t 11),none,true⟩,
 ⟨some 13,.mv (.t 12),none,true⟩,
 ⟨some 14,.fa 1 (.t 1),(some (13,false)),true⟩,
 ⟨some 15,.ld true 1 (.t 14),(some (13,false)),true⟩,
 ⟨some 16,.fa 0 (.t 1),(some (13,false)),true⟩,
 ⟨some 17,.ld true 1 (.t 16),(some (13,false)),true⟩,
 ⟨some 18,.call (.k (.fn 34 [])) [(.t 15),(.k (.c (.int .i64 1))),(.t 17)],(some (13,false)),true⟩,
 ⟨some 19,.un .not (.t 18),(some (13,false)),true⟩,
 ⟨some 20,.pick (.t 13) (.k (.c (.bool true))) (.t 19),none,true⟩,
 ⟨some 21,.mv (.t 20),none,true⟩,
 ⟨some 22,.fa 2 (.t 1),(some (21,false)),true⟩,
 ⟨some 23,.ld true 1 (.t 22),(some (21,false)),true⟩,
 ⟨some 24,.len (.t 23),(some (21,false)),true⟩,
 ⟨some 25,.bin .gtr (.t 24) (.k (.c (.int .i64 4))),(some (21,false)),true⟩,
 ⟨some 26,.pick (.t 21) (.k (.c (.bool true))) (.t 25),none,true⟩,
 ⟨some 27,.mv (.t 26),none,true⟩,
 ⟨some 28,.fa 2 (.t 1),(some (27,false)),true⟩,
 ⟨some 29,.ld true 1 (.t 28),(some (27,false)),true⟩,
 ⟨some 30,.call (.k (.fn 34 [])) [(.t 29),(.k (.c (.int .i64 1))),(.k (.c (.int .i64 100)))],(some (27,false)),true⟩,
 ⟨some 31,.un .not (.t 30),(some (27,false)),true⟩,
 ⟨some 32,.pick (.t 27) (.k (.c (.bool true))) (.t 31),none,true⟩]
abbrev o20_2:List Ins:=[⟨some 2,.mv (.k (.c (.int .i64 10))),none,true⟩]
abbrev v20_3:VC:=(.seq (.ops o20_2) .ret)
abbrev v20_4:VC:=(.cond (.t 32) v20_3 .skip)
abbrev o20_5:List Ins:=[⟨some 2,.mv (.k (.c (.int .i64 0))),none,true⟩]
abbrev v20_6:VC:=(.seq (.ops o20_5) .ret)
abbrev v20_7:VC:=(.seq (.seq (.ops o20_1) v20_4) v20_6)
def ir20:FC:=⟨1,33,[.t 2],(.seq (.ops o20_0) v20_7)⟩
abbrev o18_0:List Ins:=[⟨some 2,.mv (.k (.c (.int .i64 0))),none,true⟩]
abbrev o18_1:List Ins:=[⟨some 3,.mv (.k (.c (.int .i64 0))),none,true⟩]
abbrev o18_2:List Ins:=[⟨some 4,.mv (.k (.c (.int .i64 0))),none,true⟩]
abbrev o18_3:List Ins:=[⟨some 5,.mv (.t 4),none,true⟩,
 ⟨some 6,.mv (.t 0),none,true⟩,
 ⟨some 7,.len (.t 6),none,true⟩,
 ⟨some 8,.bin .lss (.t 5) (.t 7),none,true⟩]
abbrev v18_4:VC:=(.cond (.t 8) .skip (.exit 0))
abbrev o18_5:List Ins:=[⟨some 11,.mv (.t 3),none,true⟩,
 ⟨some 12,.mv (.t 0),none,true⟩,
 ⟨some 13,.mv (.t 4),none,true⟩,
 ⟨some 14,.ia 1 (.t 12) (.t 13),none,true⟩,
 ⟨some 15,.ld true 1 (.t 14),none,true⟩,
 ⟨some 16,.bin .add (.t 11) (.t 15),none,true⟩,
 ⟨some 3,.mv (.t 16),none,true⟩]
abbrev o18_6:List Ins:=[⟨some 9,.mv (.t 4),none,true⟩,
 ⟨some 10,.bin .add (.t 9) (.k (.c (.int .i64 1))),none,true⟩,
 ⟨some 4,.mv (.t 10),none,true⟩]
abbrev v18_7:VC:=(.seq (.block 1 (.ops o18_5)) (.ops o18_6))
abbrev v18_8:VC:=(.seq (.seq (.ops o18_3) v18_4) v18_7)
-- K18_1: changed and kept: [4,3]
abbrev K18_1:List Nat:=[0]
abbrev v18_9:VC:=(.loop v18_8)
abbrev v18_10:VC:=(.block 0 v18_9)
abbrev o18_11:List Ins:=[⟨some 17,.mv (.t 3),none,true⟩,
 ⟨some 2,.mv (.t 17),none,true⟩]
abbrev v18_12:VC:=(.seq (.ops o18_11) .ret)
abbrev v18_13:VC:=(.seq (.seq (.ops o18_2) v18_10) v18_12)
abbrev v18_14:VC:=(.seq (.ops o18_1) v18_13)
def ir18:FC:=⟨1,18,[.t 2],(.seq (.ops o18_0) v18_14)⟩
abbrev o23_0:List Ins:=[⟨some 4,.mv (.k (.c (.raw (.slice none 0 0)))),none,true⟩]
abbrev o23_1:List Ins:=[⟨some 5,.mv (.k (.c (.raw (.slice none 0 0)))),none,true⟩]
abbrev o23_2:List Ins:=[⟨some 6,.mv (.k (.c (.int .i64 0))),none,true⟩]
abbrev o23_3:List Ins:=[⟨some 7,.mv (.t 6),none,true⟩,
 ⟨some 8,.mv (.t 0),none,true⟩,
 ⟨some 9,.len (.t 8),none,true⟩,
 ⟨some 10,.bin .lss (.t 7) (.t 9),none,true⟩]
abbrev v23_4:VC:=(.cond (.t 10) .skip (.exit 0))
abbrev o23_5:List Ins:=[⟨some 13,.mv (.t 5),none,false⟩,
 ⟨some 14,.mv (.t 0),none,false⟩,
 ⟨some 15,.mv (.t 6),none,false⟩,
 ⟨some 16,.ia 1 (.t 14) (.t 15),none,false⟩,
 ⟨some 17,.ld true 1 (.t 16),none,false⟩,
 ⟨some 18,.mv (.t 1),none,false⟩,
 ⟨some 19,.mv (.t 6),none,false⟩,
 ⟨some 20,.ia 1 (.t 18) (.t 19),none,false⟩,
 ⟨some 21,.ld true 1 (.t 20),none,false⟩,
 ⟨some 22,.bin .add (.t 17) (.t 21),none,false⟩,
 ⟨some 23,.bsl 3 1 [(.t 22)],none,false⟩,
 ⟨some 24,.app 3 1 8 (.t 13) (.t 23),none,true⟩,
 ⟨some 5,.mv (.t 24),none,true⟩]
abbrev o23_6:List Ins:=[⟨some 11,.mv (.t 6),none,true⟩,
 ⟨some 12,.bin .add (.t 11) (.k (.c (.int .i64 1))),none,true⟩,
 ⟨some 6,.mv (.t 12),none,true⟩]
abbrev v23_7:VC:=(.seq (.block 1 (.dops o23_5)) (.ops o23_6))
abbrev v23_8:VC:=(.seq (.seq (.ops o23_3) v23_4) v23_7)
-- K23_1: changed and kept: [6,5]
abbrev K23_1:List Nat:=[0,1]
abbrev v23_9:VC:=(.loop v23_8)
abbrev v23_10:VC:=(.block 0 v23_9)
abbrev o23_11:List Ins:=[⟨some 25,.mv (.t 5),none,true⟩,
 ⟨some 4,.mv (.t 25),none,true⟩]
abbrev v23_12:VC:=(.seq (.ops o23_11) .ret)
abbrev v23_13:VC:=(.seq (.seq (.ops o23_2) v23_10) v23_12)
abbrev v23_14:VC:=(.seq (.ops o23_1) v23_13)
def ir23:FC:=⟨2,26,[.t 4],(.seq (.ops o23_0) v23_14)⟩
theorem c33:compM Try.prog [] 33 = some ir33:=by kernel_rfl
theorem c22:compM Try.prog [] 22 = some ir22:=by kernel_rfl
theorem c34:compM Try.prog [] 34 = some ir34:=by kernel_rfl
theorem c20:compM Try.prog [] 20 = some ir20:=by kernel_rfl
theorem c18:compM Try.prog [] 18 = some ir18:=by kernel_rfl
theorem c23:compM Try.prog [] 23 = some ir23:=by kernel_rfl
attribute [local go_sem] Nat.reduceEqDiff Nat.reduceAdd Nat.reduceMul reduceIte Nat.reduceLeDiff Nat.reduceLT Nat.reduceBEq reduceCtorEq
theorem within33 (a b c:Int):FSpec Try.prog 33 [iv a,iv b,iv c] (.c (.bool (within a b c))):=by
 refine FSpec_of c33 (Nat.le_refl _) (by decide) fun C hP hN hC hL => ?_; rw [init_st]
 simp only [ir33]
 (repeat ((first | refine Va ?_ | refine Vb ?_ | refine Vc ?_ | refine Vd ?_ | refine Ve ?_ | refine Vf ?_); (try simp only [go_sem,hP]); (repeat refine qJ ?_)))
 (refine WV_ret ?_; simp only [thenQ,inQ,RetQ,RetOk,resAll,resA]; simp only [go_sem,tupA,AV.port,AV.portL,exists_eq_left']; (first | exact AVle.of rfl | refine AVle.of ?_ | skip))
theorem within22 (a b c:Int):FSpec Try.prog 22 [iv a,iv b,iv c] (.c (.bool (within a b c))):=by
 refine FSpec_of c22 (Nat.le_refl _) (by decide) fun C hP hN hC hL => ?_; rw [init_st]
 simp only [ir22]
 (repeat ((first | refine Va ?_ | refine Vb ?_ | refine Vc ?_ | refine Vd ?_ | refine Ve ?_ | refine Vf ?_); (try simp only [go_sem,hP]); (repeat refine qJ ?_)))
 (refine AS_pu (within33 a b c) ?_; simp only [go_sem,hP]; (repeat refine qJ ?_); (repeat ((first | refine Va ?_ | refine Vb ?_ | refine Vc ?_ | refine Vd ?_ | refine Ve ?_ | refine Vf ?_); (try simp only [go_sem,hP]); (repeat refine qJ ?_))))
 (refine WV_ret ?_; simp only [thenQ,inQ,RetQ,RetOk,resAll,resA]; simp only [go_sem,tupA,AV.port,AV.portL,exists_eq_left']; (first | exact AVle.of rfl | refine AVle.of ?_ | skip))
set_option maxHeartbeats 8000000 in
theorem rising34 (l:List Int) (lo most:Int):FSpec Try.prog 34 [.c (ints l),iv lo,iv most] (.c (.bool (risB lo most l))):=by
 refine FSpec_of c34 (Nat.le_refl _) (by decide) fun C hP hN hC hL => ?_; rw [init_st]
 have hl:l.length ≤ 9223372036854775807:=by simp only [AV.lensL,AV.lens] at hL; exact ints_lens hL.1
 simp only [ir34]
 (repeat ((first | refine Va ?_ | refine Vb ?_ | refine Vc ?_ | refine Vd ?_ | refine Ve ?_ | refine Vf ?_); (try simp only [go_sem,hP]); (repeat refine qJ ?_)))
 refine WV_loopK K34_1 [] (fun k:Nat => k ≤ l.length ∧ risK lo most l k = true) (fun k => l.length - k) (fun k => [(7,iv k)]) (fun _ => []) 0 ⟨Nat.zero_le _,rfl⟩ ?_ ?_
 ·(refine Sub_of (by simp only [go_sem]; ((repeat' (first | exact EnvLe_e0 _ _ | refine EnvLe_upd ?_ ?_)) <;> ((try simp only [upd_app,e0_app,o0_app,Nat.reduceEqDiff,reduceIte]); first | exact AWk.refl _ _ | exact AWk.int (by omega) | exact AWk.int (by rw [w64 (by omega) (by omega)]; omega) | exact AWk.grow rfl | exact AWk.nil _ | exact AWk.of (by simp [ints])))) (by simp only [go_sem]; exact ObjLe_au))
 rintro k ⟨hk,hr⟩
 (repeat ((first | refine Va ?_ | refine Vb ?_ | refine Vc ?_ | refine Vd ?_ | refine Ve ?_ | refine Vf ?_); (try simp only [go_sem,hP,ints,List.length_map]); (repeat refine qJ ?_)))
 (refine WV_cond rfl (fun h => ?_) (fun h => ?_))
 ·have hi:k < l.length:=by simpa using h
  have hw:=w64 (n:=(k:Int) + 1) (by omega) (by omega)
  have hgd:=ints_get hi
  have hs:risK lo most l (k + 1) = (within (l.getD k 0) lo most && (decide (k = 0) || decide (l.getD (k - 1) 0 < l.getD k 0))):=by
   conv => lhs; unfold risK
   rw [hr]; rfl
  have hfail:risK lo most l (k + 1) = false → risB lo most l = false:=fun h => risK_false h hi
  generalize l.getD k 0 = a at hgd hs
  have hz0:(Go.IntKind.i64.wrap (((0:Nat):Int) - 1)).toNat = 0:=rfl
  by_cases hz:k = 0
  ·subst hz
   have hd0:decide ((0:Int) < ((0:Nat):Int)) = false:=rfl
   have hs:risK lo most l (0 + 1) = within a lo most:=by rw [hs]; simp
   (repeat ((first | refine Va ?_ | refine Vb ?_ | refine Vc ?_ | refine Vd ?_ | refine Ve ?_ | refine Vf ?_); (try simp only [go_sem,hP,hgd,ints,List.length_map,Int.toNat_natCast,Int.ofNat_lt,hi,Int.natCast_nonneg,hd0,hz0]); (repeat refine qJ ?_)))
   (refine AS_pu (within33 a lo most) ?_; simp only [go_sem,hP,hd0,hz0,hgd,ints,List.length_map,Int.toNat_natCast]; (repeat refine qJ ?_); (repeat ((first | refine Va ?_ | refine Vb ?_ | refine Vc ?_ | refine Vd ?_ | refine Ve ?_ | refine Vf ?_); (try simp only [go_sem,hP,hd0,hz0,hgd,ints,List.length_map,Int.toNat_natCast]); (repeat refine qJ ?_))))
   by_cases hin:within a lo most = true
   ·rw [hin] at hs
    (refine WV_cond rfl (fun h => ?_) (fun h => ?_))
    ·simp [hin] at h
    (repeat ((first | refine Va ?_ | refine Vb ?_ | refine Vc ?_ | refine Vd ?_ | refine Ve ?_ | refine Vf ?_); (try simp only [go_sem,hP,hw]); (repeat refine qJ ?_)))
    refine ⟨0 + 1,⟨by omega,hs⟩,by omega,?_⟩
    (refine Sub_of (by simp only [go_sem]; ((repeat' (first | exact EnvLe_e0 _ _ | refine EnvLe_upd ?_ ?_)) <;> ((try simp only [upd_app,e0_app,o0_app,Nat.reduceEqDiff,reduceIte]); first | exact AWk.refl _ _ | exact AWk.int (by omega) | exact AWk.int (by rw [w64 (by omega) (by omega)]; omega) | exact AWk.grow rfl | exact AWk.nil _ | exact AWk.of (by simp [ints])))) (by simp only [go_sem]; exact ObjLe_au))
   ·have hin:within a lo most = false:=by simpa using hin
    rw [hin] at hs
    rw [hfail hs]
    (refine WV_cond rfl (fun h => ?_) (fun h => ?_))
    ·(repeat ((first | refine Va ?_ | refine Vb ?_ | refine Vc ?_ | refine Vd ?_ | refine Ve ?_ | refine Vf ?_); (try simp only [go_sem,hP]); (repeat refine qJ ?_)))
     (refine WV_ret ?_; simp only [thenQ,inQ,RetQ,RetOk,resAll,resA]; simp only [go_sem,tupA,AV.port,AV.portL,exists_eq_left']; (first | exact AVle.of rfl | refine AVle.of ?_ | skip))
    ·simp [hin] at h
  ·have hgp:=ints_get (l:=l) (i:=k - 1) (by omega)
   generalize l.getD (k - 1) 0 = b at hgp hs
   have hd1:decide ((0:Int) < (k:Int)) = true:=by rw [decide_eq_true_eq]; omega
   have wi:=w64 (n:=(k:Int) - 1) (by omega) (by omega)
   have ei:((k:Int) - 1).toNat = k - 1:=by omega
   have hlt:(k:Int) - 1 < (l.length:Int):=by omega
   have hge:(0:Int) ≤ (k:Int) - 1:=by omega
   have hs:risK lo most l (k + 1) = (within a lo most && decide (b < a)):=by rw [hs]; simp [hz]
   (repeat ((first | refine Va ?_ | refine Vb ?_ | refine Vc ?_ | refine Vd ?_ | refine Ve ?_ | refine Vf ?_); (try simp only [go_sem,hP,hgd,ints,List.length_map,Int.toNat_natCast,Int.ofNat_lt,hi,Int.natCast_nonneg,hd1]); (repeat refine qJ ?_)))
   (refine AS_pu (within33 a lo most) ?_; simp only [go_sem,hP,hd1,hgd,hgp,wi,ei,hlt,hge,ints,List.length_map,Int.toNat_natCast,Int.ofNat_lt,hi,Int.natCast_nonneg]; (repeat refine qJ ?_); (repeat ((first | refine Va ?_ | refine Vb ?_ | refine Vc ?_ | refine Vd ?_ | refine Ve ?_ | refine Vf ?_); (try simp only [go_sem,hP,hd1,hgd,hgp,wi,ei,hlt,hge,ints,List.length_map,Int.toNat_natCast,Int.ofNat_lt,hi,Int.natCast_nonneg]); (repeat refine qJ ?_))))
   by_cases hin:(within a lo most && decide (b < a)) = true
   ·rw [hin] at hs
    rw [Bool.and_eq_true,decide_eq_true_eq] at hin
    (refine WV_cond rfl (fun h => ?_) (fun h => ?_))
    ·rw [hin.1] at h; simp at h; omega
    (repeat ((first | refine Va ?_ | refine Vb ?_ | refine Vc ?_ | refine Vd ?_ | refine Ve ?_ | refine Vf ?_); (try simp only [go_sem,hP,hw]); (repeat refine qJ ?_)))
    refine ⟨k + 1,⟨by omega,hs⟩,by omega,?_⟩
    (refine Sub_of (by simp only [go_sem]; ((repeat' (first | exact EnvLe_e0 _ _ | refine EnvLe_upd ?_ ?_)) <;> ((try simp only [upd_app,e0_app,o0_app,Nat.reduceEqDiff,reduceIte]); first | exact AWk.refl _ _ | exact AWk.int (by omega) | exact AWk.int (by rw [w64 (by omega) (by omega)]; omega) | exact AWk.grow rfl | exact AWk.nil _ | exact AWk.of (by simp [ints])))) (by simp only [go_sem]; exact ObjLe_au))
   ·have hin:(within a lo most && decide (b < a)) = false:=by simpa using hin
    rw [hin] at hs
    rw [hfail hs]
    (refine WV_cond rfl (fun h => ?_) (fun h => ?_))
    ·(repeat ((first | refine Va ?_ | refine Vb ?_ | refine Vc ?_ | refine Vd ?_ | refine Ve ?_ | refine Vf ?_); (try simp only [go_sem,hP]); (repeat refine qJ ?_)))
     (refine WV_ret ?_; simp only [thenQ,inQ,RetQ,RetOk,resAll,resA]; simp only [go_sem,tupA,AV.port,AV.portL,exists_eq_left']; (first | exact AVle.of rfl | refine AVle.of ?_ | skip))
    ·cases h1:within a lo most with
     | false => rw [h1] at h; simp at h
     | true => rw [h1] at h hin; simp at h hin; omega
 ·have hi:k = l.length:=by simp at h; omega
  subst hi
  unfold risB
  rw [hr]
  (repeat ((first | refine Va ?_ | refine Vb ?_ | refine Vc ?_ | refine Vd ?_ | refine Ve ?_ | refine Vf ?_); (try simp only [go_sem,hP,ints,List.length_map]); (repeat refine qJ ?_)))
  (refine WV_ret ?_; simp only [thenQ,inQ,RetQ,RetOk,resAll,resA]; simp only [go_sem,tupA,AV.port,AV.portL,exists_eq_left']; (first | exact AVle.of rfl | refine AVle.of ?_ | skip))
theorem check20 (w:Wh):FSpec Try.prog 20 [w.av] (iv (whE w)):=by
 refine FSpec_of c20 (Nat.le_refl _) (by decide) fun C hP hN hC hL => ?_; rw [init_st]
 simp only [ir20,Wh.av,Wh.avs]
 (repeat ((first | refine Va ?_ | refine Vb ?_ | refine Vc ?_ | refine Vd ?_ | refine Ve ?_ | refine Vf ?_); (try simp only [go_sem,hP,Wh.avs,ints]); (repeat refine qJ ?_)))
 (refine AS_pu (within33 w.ro 1 200) ?_; simp only [go_sem,hP,ints,List.length_map]; (repeat refine qJ ?_); (repeat ((first | refine Va ?_ | refine Vb ?_ | refine Vc ?_ | refine Vd ?_ | refine Ve ?_ | refine Vf ?_); (try simp only [go_sem,hP,ints,List.length_map]); (repeat refine qJ ?_))))
 have hbad:whB w = false → whE w = 10:=fun h => by unfold whE; rw [h]; rfl
 by_cases h1:within w.ro 1 200 = true
 case neg =>
  have h1:within w.ro 1 200 = false:=by simpa using h1
  rw [hbad (by unfold whB; rw [h1]; rfl)]
  simp only [go_sem,h1]
  (refine AG_skip ?_; simp only [go_sem,hP,List.length_map]; (repeat refine qJ ?_); (repeat ((first | refine Va ?_ | refine Vb ?_ | refine Vc ?_ | refine Vd ?_ | refine Ve ?_ | refine Vf ?_); (try simp only [go_sem,hP,List.length_map]); (repeat refine qJ ?_))))
  (refine AG_skip ?_; simp only [go_sem,hP,List.length_map]; (repeat refine qJ ?_); (repeat ((first | refine Va ?_ | refine Vb ?_ | refine Vc ?_ | refine Vd ?_ | refine Ve ?_ | refine Vf ?_); (try simp only [go_sem,hP,List.length_map]); (repeat refine qJ ?_))))
  (refine WV_cond rfl (fun h => ?_) (fun h => ?_))
  ·(repeat ((first | refine Va ?_ | refine Vb ?_ | refine Vc ?_ | refine Vd ?_ | refine Ve ?_ | refine Vf ?_); (try simp only [go_sem,hP]); (repeat refine qJ ?_)))
   (refine WV_ret ?_; simp only [thenQ,inQ,RetQ,RetOk,resAll,resA]; simp only [go_sem,tupA,AV.port,AV.portL,exists_eq_left']; (first | exact AVle.of rfl | refine AVle.of ?_ | skip))
  ·simp at h
 by_cases h2:(w.no.length:Int) ≤ 12
 case neg =>
  have d2:decide ((12:Int) < (w.no.length:Int)) = true:=by rw [decide_eq_true_eq]; omega
  rw [hbad (by unfold whB; rw [decide_eq_false h2]; simp)]
  simp only [go_sem,h1,d2]
  (refine AG_skip ?_; simp only [go_sem,hP,d2,List.length_map]; (repeat refine qJ ?_); (repeat ((first | refine Va ?_ | refine Vb ?_ | refine Vc ?_ | refine Vd ?_ | refine Ve ?_ | refine Vf ?_); (try simp only [go_sem,hP,d2,List.length_map]); (repeat refine qJ ?_))))
  (refine AG_skip ?_; simp only [go_sem,hP,d2,List.length_map]; (repeat refine qJ ?_); (repeat ((first | refine Va ?_ | refine Vb ?_ | refine Vc ?_ | refine Vd ?_ | refine Ve ?_ | refine Vf ?_); (try simp only [go_sem,hP,d2,List.length_map]); (repeat refine qJ ?_))))
  (refine WV_cond rfl (fun h => ?_) (fun h => ?_))
  ·(repeat ((first | refine Va ?_ | refine Vb ?_ | refine Vc ?_ | refine Vd ?_ | refine Ve ?_ | refine Vf ?_); (try simp only [go_sem,hP]); (repeat refine qJ ?_)))
   (refine WV_ret ?_; simp only [thenQ,inQ,RetQ,RetOk,resAll,resA]; simp only [go_sem,tupA,AV.port,AV.portL,exists_eq_left']; (first | exact AVle.of rfl | refine AVle.of ?_ | skip))
  ·simp at h
 have d2:decide ((12:Int) < (w.no.length:Int)) = false:=by rw [decide_eq_false_iff_not]; omega
 simp only [go_sem,h1,d2]
 (refine AG_pu (fun hG => rising34 w.no 1 w.ro) ?_; simp only [go_sem,hP,ints,h1,d2,List.length_map]; (repeat refine qJ ?_); (repeat ((first | refine Va ?_ | refine Vb ?_ | refine Vc ?_ | refine Vd ?_ | refine Ve ?_ | refine Vf ?_); (try simp only [go_sem,hP,ints,h1,d2,List.length_map]); (repeat refine qJ ?_))))
 by_cases h3:risB 1 w.ro w.no = true
 case neg =>
  have h3:risB 1 w.ro w.no = false:=by simpa using h3
  rw [hbad (by unfold whB; rw [h3]; simp)]
  simp only [go_sem,h3]
  (refine AG_skip ?_; simp only [go_sem,hP,List.length_map]; (repeat refine qJ ?_); (repeat ((first | refine Va ?_ | refine Vb ?_ | refine Vc ?_ | refine Vd ?_ | refine Ve ?_ | refine Vf ?_); (try simp only [go_sem,hP,List.length_map]); (repeat refine qJ ?_))))
  (refine WV_cond rfl (fun h => ?_) (fun h => ?_))
  ·(repeat ((first | refine Va ?_ | refine Vb ?_ | refine Vc ?_ | refine Vd ?_ | refine Ve ?_ | refine Vf ?_); (try simp only [go_sem,hP]); (repeat refine qJ ?_)))
   (refine WV_ret ?_; simp only [thenQ,inQ,RetQ,RetOk,resAll,resA]; simp only [go_sem,tupA,AV.port,AV.portL,exists_eq_left']; (first | exact AVle.of rfl | refine AVle.of ?_ | skip))
  ·simp at h
 by_cases h4:(w.co.length:Int) ≤ 4
 case neg =>
  have d4:decide ((4:Int) < (w.co.length:Int)) = true:=by rw [decide_eq_true_eq]; omega
  rw [hbad (by unfold whB; rw [decide_eq_false h4]; simp)]
  simp only [go_sem,h3,d4]
  (refine AG_skip ?_; simp only [go_sem,hP,d4,List.length_map]; (repeat refine qJ ?_); (repeat ((first | refine Va ?_ | refine Vb ?_ | refine Vc ?_ | refine Vd ?_ | refine Ve ?_ | refine Vf ?_); (try simp only [go_sem,hP,d4,List.length_map]); (repeat refine qJ ?_))))
  (refine WV_cond rfl (fun h => ?_) (fun h => ?_))
  ·(repeat ((first | refine Va ?_ | refine Vb ?_ | refine Vc ?_ | refine Vd ?_ | refine Ve ?_ | refine Vf ?_); (try simp only [go_sem,hP]); (repeat refine qJ ?_)))
   (refine WV_ret ?_; simp only [thenQ,inQ,RetQ,RetOk,resAll,resA]; simp only [go_sem,tupA,AV.port,AV.portL,exists_eq_left']; (first | exact AVle.of rfl | refine AVle.of ?_ | skip))
  ·simp at h
 have d4:decide ((4:Int) < (w.co.length:Int)) = false:=by rw [decide_eq_false_iff_not]; omega
 simp only [go_sem,h3,d4]
 (refine AG_pu (fun hG => rising34 w.co 1 100) ?_; simp only [go_sem,hP,ints,h3,d4,List.length_map]; (repeat refine qJ ?_); (repeat ((first | refine Va ?_ | refine Vb ?_ | refine Vc ?_ | refine Vd ?_ | refine Ve ?_ | refine Vf ?_); (try simp only [go_sem,hP,ints,h3,d4,List.length_map]); (repeat refine qJ ?_))))
 by_cases h5:risB 1 100 w.co = true
 ·have:whE w = 0:=by unfold whE whB; rw [h1,h3,h5,decide_eq_true h2,decide_eq_true h4]; rfl
  rw [this]
  (refine WV_cond rfl (fun h => ?_) (fun h => ?_))
  ·simp [h5] at h
  ·(repeat ((first | refine Va ?_ | refine Vb ?_ | refine Vc ?_ | refine Vd ?_ | refine Ve ?_ | refine Vf ?_); (try simp only [go_sem,hP]); (repeat refine qJ ?_)))
   (refine WV_ret ?_; simp only [thenQ,inQ,RetQ,RetOk,resAll,resA]; simp only [go_sem,tupA,AV.port,AV.portL,exists_eq_left']; (first | exact AVle.of rfl | refine AVle.of ?_ | skip))
 ·have h5:risB 1 100 w.co = false:=by simpa using h5
  rw [hbad (by unfold whB; rw [h5]; simp)]
  (refine WV_cond rfl (fun h => ?_) (fun h => ?_))
  ·(repeat ((first | refine Va ?_ | refine Vb ?_ | refine Vc ?_ | refine Vd ?_ | refine Ve ?_ | refine Vf ?_); (try simp only [go_sem,hP]); (repeat refine qJ ?_)))
   (refine WV_ret ?_; simp only [thenQ,inQ,RetQ,RetOk,resAll,resA]; simp only [go_sem,tupA,AV.port,AV.portL,exists_eq_left']; (first | exact AVle.of rfl | refine AVle.of ?_ | skip))
  ·simp [h5] at h
theorem total18 {l:List Int} (hl:l.length ≤ 100) (hn:∀ n ∈ l,0 ≤ n ∧ n ≤ 100):FSpec Try.prog 18 [.c (ints l)] (iv l.sum):=by
 refine FSpec_of c18 (Nat.le_refl _) (by decide) fun C hP hN hC hL => ?_; rw [init_st]
 simp only [ir18]
 (repeat ((first | refine Va ?_ | refine Vb ?_ | refine Vc ?_ | refine Vd ?_ | refine Ve ?_ | refine Vf ?_); (try simp only [go_sem,hP,ints,List.length_map]); (repeat refine qJ ?_)))
 refine WV_loopK K18_1 [] (fun k:Nat => k ≤ l.length ∧ 0 ≤ (l.take k).sum ∧ (l.take k).sum ≤ 100 * k) (fun k => l.length - k) (fun k => [(4,iv k),(3,iv (l.take k).sum)]) (fun _ => []) 0 ⟨by omega,by simp,by simp⟩ ?_ ?_
 ·exact Sub_au
 ·rintro k ⟨hk,hs1,hs2⟩
  (repeat ((first | refine Va ?_ | refine Vb ?_ | refine Vc ?_ | refine Vd ?_ | refine Ve ?_ | refine Vf ?_); (try simp only [go_sem,hP,ints,List.length_map]); (repeat refine qJ ?_)))
  (refine WV_cond rfl (fun h => ?_) (fun h => ?_))
  ·have hi:k < l.length:=by simpa using h
   have g1:=ints_get hi
   have e1:=getD_in hn hi
   have hs:(l.take (k + 1)).sum = (l.take k).sum + l.getD k 0:=by rw [List.take_succ_eq_append_getElem hi,List.sum_append,getD_at hi]; simp
   generalize l.getD k 0 = x at *
   generalize (l.take k).sum = y at *
   have w1:=w64 (n:=(k:Int) + 1) (by omega) (by omega)
   have w2:=w64 (n:=y + x) (by omega) (by omega)
   (repeat ((first | refine Va ?_ | refine Vb ?_ | refine Vc ?_ | refine Vd ?_ | refine Ve ?_ | refine Vf ?_); (try simp only [go_sem,hP,g1,ints,List.length_map,Int.toNat_natCast,Int.ofNat_lt,hi,Int.natCast_nonneg,w1,w2]); (repeat refine qJ ?_)))
   refine ⟨k + 1,⟨by omega,by omega,by omega⟩,by omega,?_⟩
   rw [hs]
   (refine Sub_of (by simp only [go_sem]; ((repeat' (first | exact EnvLe_e0 _ _ | refine EnvLe_upd ?_ ?_)) <;> ((try simp only [upd_app,e0_app,o0_app,Nat.reduceEqDiff,reduceIte]); first | exact AWk.refl _ _ | exact AWk.int (by omega) | exact AWk.int (by rw [w64 (by omega) (by omega)]; omega) | exact AWk.grow rfl | exact AWk.nil _ | exact AWk.of (by simp [ints])))) (by simp only [go_sem]; exact ObjLe_au))
  ·have hi:k = l.length:=by simp at h; omega
   subst hi
   rw [List.take_length]
   (repeat ((first | refine Va ?_ | refine Vb ?_ | refine Vc ?_ | refine Vd ?_ | refine Ve ?_ | refine Vf ?_); (try simp only [go_sem,hP]); (repeat refine qJ ?_)))
   (refine WV_ret ?_; simp only [thenQ,inQ,RetQ,RetOk,resAll,resA]; simp only [go_sem,tupA,AV.port,AV.portL,exists_eq_left']; (first | exact AVle.of rfl | refine AVle.of ?_ | skip))
theorem both23 {a b:List Int} (hl:a.length = b.length) (h5:a.length ≤ 5) (ha:∀ n ∈ a,0 ≤ n ∧ n ≤ 12) (hb:∀ n ∈ b,0 ≤ n ∧ n ≤ 12):FSpec Try.prog 23 [.c (ints a),.c (ints b)] (.c (ints (addL a b))):=by
 have hmax:maxLen = 9223372036854775807:=rfl
 have hal:(addL a b).length = a.length:=by simp [addL]; omega
 refine FSpec_of c23 (Nat.le_refl _) (by decide) fun C hP hN hC hL => ?_; rw [init_st]
 simp only [ir23]
 (repeat ((first | refine Va ?_ | refine Vb ?_ | refine Vc ?_ | refine Vd ?_ | refine Ve ?_ | refine Vf ?_); (try simp only [go_sem,hP,ints,List.length_map]); (repeat refine qJ ?_)))
 refine WV_nilslot 5 24 3 1 (by decide) (by decide) rfl rfl ?_
 simp only [go_sem]
 refine WV_loopK K23_1 [24] (fun k:Nat => k ≤ a.length) (fun k => a.length - k) (fun k => [(6,iv k),(5,.gr 24)]) (fun k => [(24,.grow 3 1 (i1s ((addL a b).take k)))]) 0 (by omega) ?_ ?_
 ·(refine Sub_of (by simp only [go_sem]; ((repeat' (first | exact EnvLe_e0 _ _ | refine EnvLe_upd ?_ ?_)) <;> ((try simp only [upd_app,e0_app,o0_app,Nat.reduceEqDiff,reduceIte]); first | exact AWk.refl _ _ | exact AWk.int (by omega) | exact AWk.int (by rw [w64 (by omega) (by omega)]; omega) | exact AWk.grow rfl | exact AWk.nil _ | exact AWk.of (by simp [i1s])))) (by simp only [go_sem]; exact ObjLe_au))
 ·intro k hk
  (repeat ((first | refine Va ?_ | refine Vb ?_ | refine Vc ?_ | refine Vd ?_ | refine Ve ?_ | refine Vf ?_); (try simp only [go_sem,hP,ints,List.length_map]); (repeat refine qJ ?_)))
  (refine WV_cond rfl (fun h => ?_) (fun h => ?_))
  ·have hi:k < a.length:=by simpa using h
   have hi2:k < b.length:=by omega
   have g1:=ints_get hi
   have g2:=ints_get hi2
   have e1:=getD_in ha hi
   have e2:=getD_in hb hi2
   have hs:i1s ((addL a b).take (k + 1)) = i1s ((addL a b).take k) ++ [[.int .i64 (a.getD k 0 + b.getD k 0)]]:=by
    rw [List.take_succ_eq_append_getElem (by omega)]
    simp only [i1s,List.map_append,List.map_cons,List.map_nil,addL,List.getElem_zipWith,getD_at hi,getD_at hi2]
   have hlk:(i1s ((addL a b).take k)).length = k:=by simp [i1s,hal]; omega
   have hon:((i1s ((addL a b).take k)).all fun e => e.length == 1) = true:=by rw [List.all_eq_true]; intro e he; obtain ⟨n,_,rfl⟩:=List.mem_map.1 he; rfl
   generalize i1s ((addL a b).take k) = L at hs hlk hon
   generalize a.getD k 0 = x at *
   generalize b.getD k 0 = y at *
   have w1:=w64 (n:=(k:Int) + 1) (by omega) (by omega)
   have w2:=w64 (n:=x + y) (by omega) (by omega)
   (repeat ((first | refine Va ?_ | refine Vb ?_ | refine Vc ?_ | refine Vd ?_ | refine Ve ?_ | refine Vf ?_); (try simp only [go_sem,hP,g1,g2,ints,List.length_map,Int.toNat_natCast,Int.ofNat_lt,hi,hi2,Int.natCast_nonneg,w1,w2,hlk,hon]); (repeat refine qJ ?_)))
   refine ⟨k + 1,by omega,by omega,?_⟩
   rw [hs]
   exact Sub_au
  ·have hi:k = a.length:=by simp at h; omega
   subst hi
   rw [List.take_of_length_le (by omega)]
   (repeat ((first | refine Va ?_ | refine Vb ?_ | refine Vc ?_ | refine Vd ?_ | refine Ve ?_ | refine Vf ?_); (try simp only [go_sem,hP]); (repeat refine qJ ?_)))
   (refine WV_ret ?_; simp only [thenQ,inQ,RetQ,RetOk,resAll,resA]; simp only [go_sem,tupA,AV.port,AV.portL,exists_eq_left']; (first | exact AVle.of rfl | refine AVle.of ?_ | skip))
end Go.Proofs.Ytakplakbbidihaa
