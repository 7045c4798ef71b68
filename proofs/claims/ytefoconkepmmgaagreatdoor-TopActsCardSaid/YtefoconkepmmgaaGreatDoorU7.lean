/-
  Contracts of the layer's functions, of the laws' helpers and of the law; conditions: as each theorem states.
-/
import Derived.Test.YtefoconkepmmgaaGreatDoorU6
import Derived.Test.YtefoconkepmmgaaGreatDoorU5
import Derived.Test.YtefoconkepmmgaaGreatDoorV2
set_option linter.unusedVariables false
set_option linter.unusedSimpArgs false
namespace Go.Proofs.YtefoconkepmmgaaGreatDoor
open Go Go.V
abbrev o5_0:List Ins:=[JS 2 (.box 15 (.t 0)),JS 4 (JB false)]
abbrev o5_1:List Ins:=[JS 9 (Jf 10 2),JS 10 (JL 5 9),JS 11 (Jc 17 [.t 10]),JS 12 (Jm 11),JG 13 (Jm 1) 12 false,JG 14 (Jn 13) 12 false,JG 15 (Jk .gtr 14 60) 12 false,JS 16 (Jo 12 15),JS 17 (Jm 16),JG 18 (Jf 0 2) 17 false,JG 19 (Jf 3 18) 17 false,JG 20 (Jl 19) 17 false,JG 21 (Jn 20) 17 false,JG 22 (Jk .gtr 21 40) 17 false,JS 23 (Jo 17 22),JS 24 (Jm 23),JG 25 (Jf 0 2) 24 false,JG 26 (Jf 4 25) 24 false,JG 27 (Jl 26) 24 false,JG 28 (Jn 27) 24 false,JG 29 (Jk .gtr 28 40) 24 false,JS 30 (Jo 24 29),JS 31 (Jm 30),JG 32 (Jf 0 2) 31 false,JG 33 (Jf 5 32) 31 false,JG 34 (Jl 33) 31 false,JG 35 (Jn 34) 31 false,JG 36 (Jk .gtr 35 40) 31 false,JS 37 (Jo 31 36),JS 38 (Jm 37),JG 39 (Jf 0 2) 38 false,JG 40 (Jf 0 39) 38 false,JG 41 (Jf 1 40) 38 false,JG 42 (Jl 41) 38 false,JG 43 (Jn 42) 38 false,JG 44 (Jk .gtr 43 40) 38 false,JS 45 (Jo 38 44),JS 46 (Jm 45),JG 47 (Jf 0 2) 46 false,JG 48 (Jf 0 47) 46 false,JG 49 (Jf 2 48) 46 false,JG 50 (Jl 49) 46 false,JG 51 (Jn 50) 46 false,JG 52 (Jk .gtr 51 40) 46 false,JS 53 (Jo 46 52)]
abbrev o5_2:List Ins:=[JS 4 (JB true)]
abbrev v5_3:VC:=(.seq (.ops o5_2) .ret)
abbrev v5_4:VC:=(.cond (.t 53) v5_3 .skip)
abbrev o5_5:List Ins:=[JS 5 (Ji 0)]
abbrev o5_6:List Ins:=[JS 54 (Jm 5),JS 55 (Jm 1),JS 56 (Jn 55),JS 57 (Jb .lss 54 56)]
abbrev v5_7:VC:=(.cond (.t 57) .skip (.exit 0))
abbrev o5_8:List Ins:=[JS 60 (Jm 1),JS 61 (Jm 5),JS 62 (Ja 1 60 61),JS 63 (Jl 62),JS 64 (.prim .slen [.t 63]),JS 65 (Jk .gtr 64 200),JS 66 (Jm 65),JG 67 (Jm 1) 66 false,JG 68 (Jm 5) 66 false,JG 69 (Ja 1 67 68) 66 false,JG 70 (Jl 69) 66 false,JG 71 (Jc 18 [.t 70]) 66 false,JG 72 (Jm 71) 66 false,JG 73 (Jf 10 2) 72 true,JG 74 (Jf 0 73) 72 true,JG 75 (Jl 74) 72 true,JG 76 (Jn 75) 72 true,JG 77 (Jk .gtr 76 4) 72 true,JG 78 (Jp 72 77) 66 false,JS 79 (Jo 66 78)]
abbrev o5_9:List Ins:=[JS 4 (JB true)]
abbrev v5_10:VC:=(.seq (.ops o5_9) .ret)
abbrev v5_11:VC:=(.cond (.t 79) v5_10 .skip)
abbrev o5_12:List Ins:=[JS 81 (Jm 1),JS 82 (Jm 5),JS 83 (Ja 1 81 82),JS 84 (Jl 83),JS 85 (Jc 19 [.t 84]),JS 80 (Jm 85),JS 86 (Je 80 0),JS 87 (Je 80 1),JS 88 (Je 80 2),JS 6 (Jm 86),JS 7 (Jm 87),JS 8 (Jm 88)]
abbrev o5_13:List Ins:=[JS 89 (Jm 8),JS 90 (Jm 89),JG 91 (Jm 6) 90 true,JG 92 (.prim (.sbin .eql) [.t 91,(.k (.c (.str [108,97,116,101,115,116])))]) 90 true,JS 93 (Jp 90 92),JS 94 (Jm 93),JG 95 (Jm 7) 94 true,JG 96 (.ia 1 (.t 95) (.k (Jz 1))) 94 true,JG 97 (Jl 96) 94 true,JG 98 (Jk .gtr 97 400) 94 true,JS 99 (Jp 94 98),JS 100 (Jm 99),JG 101 (Jm 7) 100 true,JG 102 (.ia 1 (.t 101) (.k (Jz 1))) 100 true,JG 103 (Jl 102) 100 true,JG 104 (Jk .leq 103 9999) 100 true,JS 105 (Jp 100 104)]
abbrev o5_14:List Ins:=[JS 4 (JB true)]
abbrev v5_15:VC:=(.seq (.ops o5_14) .ret)
abbrev v5_16:VC:=(.cond (.t 105) v5_15 .skip)
abbrev v5_17:VC:=(.seq (.ops o5_13) v5_16)
abbrev v5_18:VC:=(.seq (.ops o5_12) v5_17)
abbrev v5_19:VC:=(.seq (.seq (.ops o5_8) v5_11) v5_18)
abbrev o5_20:List Ins:=[JS 58 (Jm 5),JS 59 (Jk .add 58 1),JS 5 (Jm 59)]
abbrev v5_21:VC:=(.seq (.block 1 v5_19) (.ops o5_20))
abbrev v5_22:VC:=(.seq (.seq (.ops o5_6) v5_7) v5_21)
-- K5_1: changed and kept: [5]
abbrev v5_23:VC:=(.loop v5_22)
abbrev v5_24:VC:=(.block 0 v5_23)
abbrev o5_25:List Ins:=[JS 106 (JL 15 2),JS 107 (Jm 1),JS 108 (Jc 20 [.t 106,.t 107]),JS 4 (Jm 108)]
abbrev v5_26:VC:=(.seq (.ops o5_25) .ret)
abbrev v5_27:VC:=(.seq (.seq (.ops o5_5) v5_24) v5_26)
abbrev v5_28:VC:=(.seq (.seq (.ops o5_1) v5_4) v5_27)
def ir5:FC:=⟨2,109,[.t 4],(.seq (.ops o5_0) v5_28)⟩
theorem c5:compM Tryz.prog [] 5 = some ir5:=by kernel_rfl
attribute [local go_sem] Nat.reduceEqDiff Nat.reduceAdd Nat.reduceMul reduceIte Nat.reduceLeDiff Nat.reduceLT Nat.reduceBEq reduceCtorEq
def farHead (b:Bar) (l:List (List UInt8)):Bool:=farB b.tray || decide ((60:Int) < l.length) || decide ((40:Int) < b.box.fo.length) || decide ((40:Int) < b.box.ma.length) || decide ((40:Int) < b.box.sl.length) || decide ((40:Int) < b.box.wh.no.length) || decide ((40:Int) < b.box.wh.co.length)
def farL (b:Bar) (s:List UInt8):Bool:=decide ((200:Int) < s.length) || (heavyB s && decide ((4:Int) < b.tray.recs.length)) || latB s
def farS (b:Bar) (l:List (List UInt8)):Bool:=farHead b l || (l.any (farL b) || richB b l)
theorem any_snoc {α:Type} (p:α → Bool) {l:List α} {k:Nat} (h:k < l.length) (d:α):(l.take (k + 1)).any p = ((l.take k).any p || p (l.getD k d)):=by
 rw [List.take_succ_eq_append_getElem h,List.any_append,List.getD_eq_getElem?_getD,List.getElem?_eq_getElem h]
 simp
set_option maxRecDepth 100000 in
set_option maxHeartbeats 4000000 in
theorem far5 (b:Bar) (l:List (List UInt8)):FSpec Tryz.prog 5 [b.av,.c (strsC l)] (.c (.bool (farS b l))):=by
 have hm:maxLen = 9223372036854775807:=rfl
 have hf:=far28 b.tray
 simp only [Tray.av] at hf
 refine FSpec_of c5 (Nat.le_refl _) (by decide) fun C hP hN hC hL => ?_; rw [init_st]
 simp only [ir5,Bar.av,Bar.avs]
 (repeat ((first | refine Va ?_ | refine Vb ?_ | refine Vc ?_ | refine Vd ?_ | refine Ve ?_ | refine Vf ?_); (try simp only [go_sem,hP]); (repeat refine qJ ?_)))
 (refine AS_pu (hf) ?_; simp only [go_sem,hP,strsC,ints,List.length_map]; (repeat refine qJ ?_); (repeat ((first | refine Va ?_ | refine Vb ?_ | refine Vc ?_ | refine Vd ?_ | refine Ve ?_ | refine Vf ?_); (try simp only [go_sem,hP,strsC,ints,List.length_map]); (repeat refine qJ ?_))))
 refine WV_sub (σ':=⟨upd (upd (upd (upd e0 1 (.c (strsC l))) 2 (.bp 2 0)) 4 (.c (.bool false))) 53 (.c (.bool (farHead b l))),upd o0 2 (.box b.avs)⟩) (Sub_of (by (try simp only [go_sem]); ((repeat' (first | exact EnvLe_e0 _ _ | refine EnvLe_upd ?_ ?_)) <;> ((try simp only [upd_app,e0_app,o0_app,Nat.reduceEqDiff,reduceIte]); first | exact AWk.refl _ _ | exact AWk.int (by omega) | exact AWk.int (by rw [w64 (by omega) (by omega)]; omega) | exact AWk.grow rfl | exact AWk.nil _ | exact AWk.of (by rfl)))) (by unfold Bar.avs; (try simp only [go_sem]); exact ObjLe_au)) ?_
 unfold farS
 cases hh:farHead b l with
 | true =>
  (refine WV_cond rfl (fun h => ?_) (fun h => ?_))
  ·(repeat ((first | refine Va ?_ | refine Vb ?_ | refine Vc ?_ | refine Vd ?_ | refine Ve ?_ | refine Vf ?_); (try simp only [go_sem,hP]); (repeat refine qJ ?_)))
   (refine WV_ret ?_; simp only [thenQ,inQ,RetQ,RetOk,resAll,resA]; simp only [go_sem,tupA,AV.port,AV.portL,exists_eq_left']; (first | exact AVle.of rfl | refine AVle.of ?_ | skip))
  ·cases h
 | false =>
  have hl:l.length ≤ 60:=by
   unfold farHead at hh
   simp only [Bool.or_eq_false_iff,decide_eq_false_iff_not] at hh
   omega
  have hrc:b.tray.recs.length ≤ 40:=by
   unfold farHead farB at hh
   simp only [Bool.or_eq_false_iff,decide_eq_false_iff_not] at hh
   have:=hh.1.1.1.1.1.1.1
   unfold Tray.n at this
   omega
  (refine WV_cond rfl (fun h => ?_) (fun h => ?_))
  ·cases h
  clear h
  (repeat ((first | refine Va ?_ | refine Vb ?_ | refine Vc ?_ | refine Vd ?_ | refine Ve ?_ | refine Vf ?_); (try simp only [go_sem,hP]); (repeat refine qJ ?_)))
  refine WV_loopS (fun k:Nat => ⟨upd (upd (upd (upd e0 1 (.c (strsC l))) 2 (.bp 2 0)) 4 (.c (.bool false))) 5 (iv k),upd o0 2 (.box b.avs)⟩) (fun k => k ≤ l.length ∧ (l.take k).any (farL b) = false) (fun k => l.length - k) 0 ⟨Nat.zero_le _,rfl⟩ ?_ ?_
  ·refine Sub_of (by (try simp only [go_sem]); ((repeat' (first | exact EnvLe_e0 _ _ | refine EnvLe_upd ?_ ?_)) <;> ((try simp only [upd_app,e0_app,o0_app,Nat.reduceEqDiff,reduceIte]); first | exact AWk.refl _ _ | exact AWk.int (by omega) | exact AWk.int (by rw [w64 (by omega) (by omega)]; omega) | exact AWk.grow rfl | exact AWk.nil _ | exact AWk.of (by rfl)))) (by unfold Bar.avs; (try simp only [go_sem]); exact ObjLe_au)
  rintro k ⟨hk,hr⟩
  unfold Bar.avs
  (repeat ((first | refine Va ?_ | refine Vb ?_ | refine Vc ?_ | refine Vd ?_ | refine Ve ?_ | refine Vf ?_); (try simp only [go_sem,hP,strsC,List.length_map]); (repeat refine qJ ?_)))
  (refine WV_cond rfl (fun h => ?_) (fun h => ?_))
  ·have hi:k < l.length:=by simpa using h
   clear h
   have hg:=strs_at hi
   have hsn:=any_snoc (farL b) hi []
   rw [hr,Bool.false_or] at hsn
   have hw0:=w64 (n:=(k:Int) + 1) (by omega) (by omega)
   have hin:l.getD k [] ∈ l:=by rw [List.getD_eq_getElem?_getD,List.getElem?_eq_getElem hi]; exact List.getElem_mem hi
   have hfar:farL b (l.getD k []) = true → (l.any (farL b) || richB b l) = true:=fun h => by
    rw [List.any_eq_true.2 ⟨_,hin,h⟩]; rfl
   generalize l.getD k [] = s at hg hsn hin hfar
   (repeat ((first | refine Va ?_ | refine Vb ?_ | refine Vc ?_ | refine Vd ?_ | refine Ve ?_ | refine Vf ?_); (try simp only [go_sem,hP,hg,List.length_map,Int.toNat_natCast]); (repeat refine qJ ?_)))
   by_cases hs:s.length ≤ 200
   ·have hhv:=heavy18 (s:=s) (by omega)
    have hs':decide ((200:Int) < s.length) = false:=decide_eq_false (by omega)
    rw [hs']
    (refine AG_pu (fun hG => hhv) ?_; simp only [go_sem,hP,recsC,List.length_map]; (repeat refine qJ ?_); (repeat ((first | refine Va ?_ | refine Vb ?_ | refine Vc ?_ | refine Vd ?_ | refine Ve ?_ | refine Vf ?_); (try simp only [go_sem,hP,recsC,List.length_map]); (repeat refine qJ ?_))))
    refine WV_sub (σ':=⟨upd (upd (upd (upd (upd e0 1 (.c (strsC l))) 2 (.bp 2 0)) 4 (.c (.bool false))) 5 (iv k)) 79 (.c (.bool (heavyB s && decide ((4:Int) < b.tray.recs.length)))),upd o0 2 (.box b.avs)⟩) (Sub_of (by (try simp only [go_sem]); ((repeat' (first | exact EnvLe_e0 _ _ | refine EnvLe_upd ?_ ?_)) <;> ((try simp only [upd_app,e0_app,o0_app,Nat.reduceEqDiff,reduceIte]); first | exact AWk.refl _ _ | exact AWk.int (by omega) | exact AWk.int (by rw [w64 (by omega) (by omega)]; omega) | exact AWk.grow rfl | exact AWk.nil _ | exact AWk.of (by rfl)))) (by unfold Bar.avs; (try simp only [go_sem]); exact ObjLe_au)) ?_
    (refine WV_cond rfl (fun h => ?_) (fun h => ?_))
    ·rw [hfar (by unfold farL; rw [h]; simp)]
     (repeat ((first | refine Va ?_ | refine Vb ?_ | refine Vc ?_ | refine Vd ?_ | refine Ve ?_ | refine Vf ?_); (try simp only [go_sem,hP]); (repeat refine qJ ?_)))
     (refine WV_ret ?_; simp only [thenQ,inQ,RetQ,RetOk,resAll,resA]; simp only [go_sem,tupA,AV.port,AV.portL,exists_eq_left']; (first | exact AVle.of rfl | refine AVle.of ?_ | skip))
    ·have hlat:farL b s = latB s:=by unfold farL; rw [hs',h]; rfl
     rw [hlat] at hsn hfar
     clear h
     have hp:=rparse19 (s:=s) (by omega)
     unfold parseR at hp
     unfold Bar.avs
     (repeat ((first | refine Va ?_ | refine Vb ?_ | refine Vc ?_ | refine Vd ?_ | refine Ve ?_ | refine Vf ?_); (try simp only [go_sem,hP,strsC,hg,List.length_map,Int.toNat_natCast]); (repeat refine qJ ?_)))
     cases hps:parseS s with
     | none =>
      have hlb:latB s = false:=by unfold latB; rw [hps]
      rw [hps] at hp
      (refine AS_pu (hp) ?_; simp only [go_sem,hP]; (repeat refine qJ ?_); (repeat ((first | refine Va ?_ | refine Vb ?_ | refine Vc ?_ | refine Vd ?_ | refine Ve ?_ | refine Vf ?_); (try simp only [go_sem,hP]); (repeat refine qJ ?_))))
      refine WV_cond rfl (fun h => ?_) (fun h => ?_)
      ·cases h
      (repeat ((first | refine Va ?_ | refine Vb ?_ | refine Vc ?_ | refine Vd ?_ | refine Ve ?_ | refine Vf ?_); (try simp only [go_sem,hP,hw0]); (repeat refine qJ ?_)))
      refine ⟨k + 1,⟨by omega,hsn.trans hlb⟩,by omega,?_⟩
      refine Sub_of (by simp only [go_sem]; ((repeat' (first | exact EnvLe_e0 _ _ | refine EnvLe_upd ?_ ?_)) <;> ((try simp only [upd_app,e0_app,o0_app,Nat.reduceEqDiff,reduceIte]); first | exact AWk.refl _ _ | exact AWk.int (by omega) | exact AWk.int (by rw [w64 (by omega) (by omega)]; omega) | exact AWk.grow rfl | exact AWk.nil _ | exact AWk.of (by rfl)))) (by simp only [go_sem]; exact ObjLe_au)
     | some wn =>
      obtain ⟨w,ns⟩:=wn
      have hl:=parse_len hps
      have hlb:latB s = ((w == latestS) && decide (400 < ns.getD 1 0) && decide (ns.getD 1 0 ≤ 9999)):=by unfold latB; rw [hps]
      rw [hps] at hp
      simp only at hp
      cases hw:(w == latestS) with
      | true =>
       have hl2:1 < ns.length:=by
        rw [eq_of_beq hw] at hl
        have:manyW latestS = 2:=rfl
        omega
       have hgn:=ints_get hl2
       rw [hw] at hlb
       unfold latestS at hw
       generalize ns.getD 1 0 = x at hgn hlb
       (refine AS_pu (hp) ?_; simp only [go_sem,hP,ints,List.length_map,hgn,hw,Int.toNat_one]; (repeat refine qJ ?_); (repeat ((first | refine Va ?_ | refine Vb ?_ | refine Vc ?_ | refine Vd ?_ | refine Ve ?_ | refine Vf ?_); (try simp only [go_sem,hP,ints,List.length_map,hgn,hw,Int.toNat_one]); (repeat refine qJ ?_))))
       rw [Bool.true_and] at hlb
       refine WV_cond rfl (fun h => ?_) (fun h => ?_)
       ·rw [hfar (hlb.trans h)]
        (repeat ((first | refine Va ?_ | refine Vb ?_ | refine Vc ?_ | refine Vd ?_ | refine Ve ?_ | refine Vf ?_); (try simp only [go_sem,hP]); (repeat refine qJ ?_)))
        (refine WV_ret ?_; simp only [thenQ,inQ,RetQ,RetOk,resAll,resA]; simp only [go_sem,tupA,AV.port,AV.portL,exists_eq_left']; (first | exact AVle.of rfl | refine AVle.of ?_ | skip))
       ·rw [h] at hlb
        (repeat ((first | refine Va ?_ | refine Vb ?_ | refine Vc ?_ | refine Vd ?_ | refine Ve ?_ | refine Vf ?_); (try simp only [go_sem,hP,hw0]); (repeat refine qJ ?_)))
        refine ⟨k + 1,⟨by omega,hsn.trans hlb⟩,by omega,?_⟩
        refine Sub_of (by simp only [go_sem]; ((repeat' (first | exact EnvLe_e0 _ _ | refine EnvLe_upd ?_ ?_)) <;> ((try simp only [upd_app,e0_app,o0_app,Nat.reduceEqDiff,reduceIte]); first | exact AWk.refl _ _ | exact AWk.int (by omega) | exact AWk.int (by rw [w64 (by omega) (by omega)]; omega) | exact AWk.grow rfl | exact AWk.nil _ | exact AWk.of (by rfl)))) (by simp only [go_sem]; exact ObjLe_au)
      | false =>
       rw [hw] at hlb
       unfold latestS at hw
       rcases ns with _ | ⟨a,_ | ⟨c,r⟩⟩
       all_goals (
        (refine AS_pu (hp) ?_; simp only [go_sem,hP,ints,hw,List.map_cons,List.map_nil,Int.toNat_one,gd0,gd1,gd2]; (repeat refine qJ ?_); (repeat ((first | refine Va ?_ | refine Vb ?_ | refine Vc ?_ | refine Vd ?_ | refine Ve ?_ | refine Vf ?_); (try simp only [go_sem,hP,ints,hw,List.map_cons,List.map_nil,Int.toNat_one,gd0,gd1,gd2]); (repeat refine qJ ?_)))))
       all_goals (
        refine WV_cond rfl (fun h => ?_) (fun h => ?_)
        ·cases h
        (repeat ((first | refine Va ?_ | refine Vb ?_ | refine Vc ?_ | refine Vd ?_ | refine Ve ?_ | refine Vf ?_); (try simp only [go_sem,hP,hw0]); (repeat refine qJ ?_)))
        refine ⟨k + 1,⟨by omega,hsn.trans hlb⟩,by omega,?_⟩
        refine Sub_of (by simp only [go_sem]; ((repeat' (first | exact EnvLe_e0 _ _ | refine EnvLe_upd ?_ ?_)) <;> ((try simp only [upd_app,e0_app,o0_app,Nat.reduceEqDiff,reduceIte]); first | exact AWk.refl _ _ | exact AWk.int (by omega) | exact AWk.int (by rw [w64 (by omega) (by omega)]; omega) | exact AWk.grow rfl | exact AWk.nil _ | exact AWk.of (by rfl)))) (by simp only [go_sem]; exact ObjLe_au))
   ·have hs':decide ((200:Int) < s.length) = true:=decide_eq_true (by omega)
    have hft:farL b s = true:=by unfold farL; rw [hs']; rfl
    rw [hs',hfar hft]
    (refine AG_skip ?_; simp only [go_sem,hP]; (repeat refine qJ ?_); (repeat ((first | refine Va ?_ | refine Vb ?_ | refine Vc ?_ | refine Vd ?_ | refine Ve ?_ | refine Vf ?_); (try simp only [go_sem,hP]); (repeat refine qJ ?_))))
    (refine WV_cond rfl (fun h => ?_) (fun h => ?_))
    ·(repeat ((first | refine Va ?_ | refine Vb ?_ | refine Vc ?_ | refine Vd ?_ | refine Ve ?_ | refine Vf ?_); (try simp only [go_sem,hP]); (repeat refine qJ ?_)))
     (refine WV_ret ?_; simp only [thenQ,inQ,RetQ,RetOk,resAll,resA]; simp only [go_sem,tupA,AV.port,AV.portL,exists_eq_left']; (first | exact AVle.of rfl | refine AVle.of ?_ | skip))
    ·cases h
  ·have hkl:k = l.length:=by
    have:¬ (k < l.length):=by simpa using h
    omega
   subst hkl
   rw [List.take_length] at hr
   have hs:∀ s ∈ l,s.length ≤ 1000:=fun s hs => by
    have:=List.any_eq_false.1 hr s hs
    unfold farL at this
    simp at this
    omega
   have hrich:=rich20 b hl hs
   simp only [Bar.av,Bar.avs,strsC] at hrich
   rw [hr,Bool.false_or]
   (repeat ((first | refine Va ?_ | refine Vb ?_ | refine Vc ?_ | refine Vd ?_ | refine Ve ?_ | refine Vf ?_); (try simp only [go_sem,hP]); (repeat refine qJ ?_)))
   (refine AS_pu (hrich) ?_; simp only [go_sem,hP]; (repeat refine qJ ?_); (repeat ((first | refine Va ?_ | refine Vb ?_ | refine Vc ?_ | refine Vd ?_ | refine Ve ?_ | refine Vf ?_); (try simp only [go_sem,hP]); (repeat refine qJ ?_))))
   (refine WV_ret ?_; simp only [thenQ,inQ,RetQ,RetOk,resAll,resA]; simp only [go_sem,tupA,AV.port,AV.portL,exists_eq_left']; (first | exact AVle.of rfl | refine AVle.of ?_ | skip))
end Go.Proofs.YtefoconkepmmgaaGreatDoor

namespace Go.Proofs.YtefoconkepmmgaaGreatDoor
open Go Go.V
abbrev o145_0:List Ins:=[JS 4 (Jm 0),JS 5 (Jm 1),JS 6 (.nilc (.t 4)),JS 7 (Jf 8 6),JS 8 (Jf 2 7),JN (Js 1 8 5)]
abbrev o145_1:List Ins:=[JF 9 (Jm 0),JF 10 (Jm 0),JF 11 (.nilc (.t 10)),JF 12 (Jf 11 11),JF 13 (Jf 0 12),JF 14 (Jl 13),JF 15 (Jm 0),JF 16 (.nilc (.t 15)),JF 17 (Jf 8 16),JF 18 (JL 3 17),JF 19 (Jm 0),JF 20 (.nilc (.t 19)),JF 21 (Jf 7 20),JF 22 (Jl 21),JF 23 (.bld [Jz 0,Jz 0,Jz 0,Jz 0] [(0,3,(.t 18)),(3,1,(.t 22))]),JF 24 (.bsl 194 4 [.t 23]),JF 25 (.app 194 4 32 (.t 14) (.t 24)),JS 26 (.nilc (.t 9)),JS 27 (Jf 11 26),JS 28 (Jf 0 27),JN (Js 1 28 25)]
def ir145:FC:=⟨2,29,[],(.seq (.ops o145_0) (.dops o145_1))⟩
abbrev o177_0:List Ins:=[JS 2 (Jm 0),JS 3 (.nilc (.t 2)),JS 4 (Jf 5 3),JS 5 (Jl 4),JS 6 (Jn 5),JS 7 (Jk .gtr 6 0),JS 8 (Jm 7),JH 9 (Jm 0) 8 true,JH 10 (.nilc (.t 9)) 8 true,JH 11 (Jf 5 10) 8 true,JH 12 (Jl 11) 8 true,JH 13 (.ia 2 (.t 12) (.k (Jz 0))) 8 true,JH 14 (Jf 1 13) 8 true,JH 15 (Jl 14) 8 true,JH 16 (Jm 0) 8 true,JH 17 (.nilc (.t 16)) 8 true,JH 18 (Jf 7 17) 8 true,JH 19 (Jl 18) 8 true,JG 20 (Jb .leq 15 19) 8 true,JS 21 (Jp 8 20)]
abbrev v177_1:VC:=(.cond (.t 21) .skip (.exit 0))
abbrev o177_2:List Ins:=[JF 22 (Jm 0),JF 23 (.nilc (.t 22)),JF 24 (Jf 6 23),JF 25 (Jl 24),JF 26 (Jm 0),JF 27 (.nilc (.t 26)),JF 28 (Jf 5 27),JF 29 (Jl 28),JF 30 (.ia 2 (.t 29) (.k (Jz 0))),JF 31 (Jf 0 30),JF 32 (Jl 31),JS 33 (Ja 1 25 32),JN (.st 1 (.t 33) (.k (.c (.bool true))))]
abbrev o177_3:List Ins:=[JS 34 (Jm 0),JS 35 (Jm 0),JS 36 (.nilc (.t 35)),JS 37 (Jf 5 36),JS 38 (Jl 37),JS 39 (.slc 2 (.t 38) (some (.k (Jz 1))) none),JS 40 (.nilc (.t 34)),JS 41 (Jf 5 40),JN (Js 1 41 39)]
abbrev v177_4:VC:=(.seq (.dops o177_2) (.ops o177_3))
abbrev v177_5:VC:=(.block 1 v177_4)
abbrev v177_6:VC:=(.seq (.seq (.dops o177_0) v177_1) v177_5)
-- K177_1: changed and kept: []
abbrev K177_1:List Nat:=[0]
abbrev v177_7:VC:=(.loop v177_6)
def ir177:FC:=⟨1,42,[],(.block 0 v177_7)⟩
abbrev o178_0:List Ins:=[JS 4 (JB false)]
abbrev o178_1:List Ins:=[JS 5 (Jm 0),JS 6 (Jm 1),JS 7 (Jc 203 [.t 5,.t 6]),JS 8 (Jk .geq 7 0),JS 4 (Jm 8)]
abbrev v178_2:VC:=(.seq (.ops o178_1) .ret)
def ir178:FC:=⟨2,9,[.t 4],(.seq (.ops o178_0) v178_2)⟩
abbrev o203_0:List Ins:=[JS 4 (Ji 0)]
abbrev o203_1:List Ins:=[JS 6 (Jm 0),JS 7 (Jn 6),JS 8 (Ji 0)]
abbrev o203_2:List Ins:=[JS 9 (Jb .lss 8 7)]
abbrev o203_3:List Ins:=[JS 10 (Jm 8),JS 5 (Jm 10)]
abbrev o203_4:List Ins:=[JS 11 (Jm 1),JS 12 (Jm 0),JS 13 (Jm 5),JS 14 (Ja 1 12 13),JS 15 (Jl 14),JS 16 (.eqs false (.t 11) (.t 15))]
abbrev o203_5:List Ins:=[JS 17 (Jm 5),JS 4 (Jm 17)]
abbrev v203_6:VC:=(.seq (.ops o203_5) .ret)
abbrev v203_7:VC:=(.cond (.t 16) v203_6 .skip)
abbrev v203_8:VC:=(.seq (.ops o203_4) v203_7)
abbrev v203_9:VC:=(.seq (.ops o203_3) v203_8)
abbrev o203_10:List Ins:=[JS 18 (Jk .add 8 1),JS 8 (Jm 18)]
abbrev v203_11:VC:=(.seq (.block 1 v203_9) (.ops o203_10))
abbrev v203_12:VC:=(.seq (.cond (.t 9) .skip (.exit 0)) v203_11)
abbrev v203_13:VC:=(.seq (.ops o203_2) v203_12)
-- K203_1: changed and kept: [8]
abbrev K203_1:List Nat:=[0,1,7]
abbrev v203_14:VC:=(.loop v203_13)
abbrev v203_15:VC:=(.block 0 v203_14)
abbrev o203_16:List Ins:=[JS 4 (Ji (-1))]
abbrev v203_17:VC:=(.seq (.ops o203_16) .ret)
abbrev v203_18:VC:=(.seq (.seq (.ops o203_1) v203_15) v203_17)
def ir203:FC:=⟨2,19,[.t 4],(.seq (.ops o203_0) v203_18)⟩
abbrev o179_0:List Ins:=[JS 2 (.box 5 (.t 0)),JS 4 (Ji 0)]
abbrev o179_1:List Ins:=[JS 5 (Jm 1),JS 6 (Jk .rem 5 2),JS 7 (Jk .eql 6 0)]
abbrev o179_2:List Ins:=[JS 8 (Jf 0 2),JS 9 (Jl 8),JS 10 (Jm 1),JS 11 (Jk .quo 10 2),JS 12 (Ja 2 9 11),JS 13 (Jf 0 12),JS 14 (Jl 13),JS 4 (Jm 14)]
abbrev v179_3:VC:=(.seq (.ops o179_2) .ret)
abbrev v179_4:VC:=(.cond (.t 7) v179_3 .skip)
abbrev o179_5:List Ins:=[JS 15 (Jf 0 2),JS 16 (Jl 15),JS 17 (Jm 1),JS 18 (Jk .quo 17 2),JS 19 (Ja 2 16 18),JS 20 (Jf 1 19),JS 21 (Jl 20),JS 4 (Jm 21)]
abbrev v179_6:VC:=(.seq (.ops o179_5) .ret)
abbrev v179_7:VC:=(.seq (.seq (.ops o179_1) v179_4) v179_6)
def ir179:FC:=⟨2,22,[.t 4],(.seq (.ops o179_0) v179_7)⟩
theorem c145:compM Tryz.prog [] 145 = some ir145:=by kernel_rfl
theorem c177:compM Tryz.prog [] 177 = some ir177:=by kernel_rfl
theorem c178:compM Tryz.prog [] 178 = some ir178:=by kernel_rfl
theorem c203:compM Tryz.prog [] 203 = some ir203:=by kernel_rfl
theorem c179:compM Tryz.prog [] 179 = some ir179:=by kernel_rfl
attribute [local go_sem] Nat.reduceEqDiff Nat.reduceAdd Nat.reduceMul reduceIte Nat.reduceLeDiff Nat.reduceLT Nat.reduceBEq reduceCtorEq
def bcd (b:Bool):List CD:=[.bool b]
theorem bcd_one (b:Bool):(bcd b).length = 1:=rfl
def carC (t:Tray) (s:Cs):List AV:=[.c (recsC t.recs),iv t.at_,iv t.way,iv t.step,.c (prsC t.pres),.c (prsC s.q),.vw 1 1001 0 (2 * t.n) (2 * t.n),iv s.now,iv s.at_,iv (wayI s.up),iv s.side,.gr 1002,.gr 1003,iv s.steps,iv s.end_]
def carO (t:Tray) (s:Cs):List Ob:=[.box (carC t s),.box (cellsG bcd s.pins 0),.grow 194 4 (s.spells.map Sp.cds),.grow 148 2 (s.plays.map Pr.cds)]
theorem sps_four (l:List Sp):((l.map Sp.cds).all fun e => e.length == 4) = true:=by
 rw [List.all_eq_true]; intro e he; obtain ⟨n,_,rfl⟩:=List.mem_map.1 he; rfl
theorem carO_place2 (t:Tray) (s:Cs):(ownW (carO t s) [] 1002).isPlace = false:=rfl
theorem carO_place3 (t:Tray) (s:Cs):(ownW (carO t s) [] 1003).isPlace = false:=rfl
set_option maxRecDepth 20000 in
set_option maxHeartbeats 8000000 in
theorem mark71 (t:Tray) (s:Cs) (side:Int) (h1:s.spells.length ≤ 5000) :
  FSpecL Tryz.prog 145 [.bp 1000 0,iv side] (carO t s) [] (fun res l' => res = .tup [] ∧ l' = carO t (s.mark side)):=by
 have hmax:maxLen = 9223372036854775807:=rfl
 have hs4:=sps_four s.spells
 refine FSpecL_ofX c145 (by first | simp | exact Nat.le_of_ble_eq_true rfl) (Nat.le_refl _) (by decide) (by decide) fun C hP hN hC hpin hL => ?_; rw [init_env',ownW_upd (by first | simp | exact Nat.le_of_ble_eq_true rfl)]; simp only [ir145,updL,updLo,List.map_nil,List.map_cons,Nat.reduceAdd,carO,carC]
 refine WV_post ?_
 (repeat ((first | refine Va ?_ | refine Vb ?_ | refine Vc ?_ | refine Vd ?_ | refine Ve ?_ | refine Vf ?_); (try simp only [go_sem,hP,hs4,List.length_append,List.length_map]); (repeat refine qJ ?_)))
 refine ⟨_,fun a w hg => Gam_move (d:=25) (n:=1002) (by decide) (fun h => by have:=hpin 1002 h; rw [carO_place2] at this; cases this) rfl hg,?_⟩
 simp only [go_sem]
 ((try simp only [thenQ,inQ,RetQL,RetOkL,resAll,resA]); (try simp only [go_sem,tupA,AV.keepP,AV.keepPL]); refine ⟨_,carO t (s.mark side),rfl,KeepL_mk rfl rfl ?_ ?_ rfl,?_⟩)
 ·simp only [go_sem,keepAll,Ob.keepP,AV.keepP,AV.keepPL,carO,carC,Cs.mark,List.map_append,Sp.cds]
 ·simp only [go_sem,winAll]
 ·exact ⟨rfl,rfl⟩
def idxB (v:Bool):List Bool → Int → Int
 | [],_ => -1
 | b :: l,k => if v == b then k else idxB v l (k + 1)
theorem idxB_any:∀ (l:List Bool) (k:Int),0 ≤ k → decide (0 ≤ idxB true l k) = !(l.all (!·))
 | [],k,_ => rfl
 | b :: l,k,hk => by
  cases b
  ·have e:idxB true (false :: l) k = idxB true l (k + 1):=rfl
   rw [e,idxB_any l (k + 1) (by omega)]
   rfl
  ·have e:idxB true (true :: l) k = k:=rfl
   rw [e]
   simp; omega
set_option maxHeartbeats 4000000 in
theorem index89 (l:List Bool) (v:Bool) (hl:l.length ≤ 1000):FSpec Tryz.prog 203 [.c (.sl 1 (l.map bcd)),bv v] (iv (idxB v l 0)):=by
 refine FSpec_of c203 (Nat.le_refl _) (by decide) fun C hP hN hC hL => ?_; rw [init_st]
 simp only [ir203]
 (repeat ((first | refine Va ?_ | refine Vb ?_ | refine Vc ?_ | refine Vd ?_ | refine Ve ?_ | refine Vf ?_); (try simp only [go_sem,hP,List.length_map]); (repeat refine qJ ?_)))
 (refine WV_loopK K203_1 [] (fun k:Nat => k ≤ l.length ∧ idxB v l 0 = idxB v (l.drop k) k) (fun k => l.length - k) (fun k => [(8,iv k)]) (fun _ => []) 0 ⟨Nat.zero_le _,rfl⟩ ?_ ?_)
 ·exact Sub_au
 ·intro k ⟨hk,hx⟩
  simp only [go_sem]
  (repeat ((first | refine Va ?_ | refine Vb ?_ | refine Vc ?_ | refine Vd ?_ | refine Ve ?_ | refine Vf ?_); (try simp only [go_sem,hP]); (repeat refine qJ ?_)))
  (refine WV_cond rfl (fun h => ?_) (fun h => ?_))
  ·have h:k < l.length:=by simpa using h
   have hI:(k:Int) < (l.length:Int):=by omega
   have hw2:=w64 (n:=(k:Int) + 1) (by omega) (by omega)
   rw [List.drop_eq_getElem_cons h] at hx
   simp only [idxB] at hx
   (repeat ((first | refine Va ?_ | refine Vb ?_ | refine Vc ?_ | refine Vd ?_ | refine Ve ?_ | refine Vf ?_); (try simp only [go_sem,hP,map_getD h,hI,List.length_map,bcd]); (repeat refine qJ ?_)))
   cases hb:(v == l[k])
   ·rw [hb] at hx
    (refine WV_cond rfl (fun h => ?_) (fun h => ?_))
    ·simp at h
    ·(repeat ((first | refine Va ?_ | refine Vb ?_ | refine Vc ?_ | refine Vd ?_ | refine Ve ?_ | refine Vf ?_); (try simp only [go_sem,hP,hw2]); (repeat refine qJ ?_)))
     refine ⟨k + 1,⟨by omega,by rw [hx]; rfl⟩,by omega,?_⟩
     exact Sub_au
   ·rw [hb] at hx
    (refine WV_cond rfl (fun h => ?_) (fun h => ?_))
    ·(repeat ((first | refine Va ?_ | refine Vb ?_ | refine Vc ?_ | refine Vd ?_ | refine Ve ?_ | refine Vf ?_); (try simp only [go_sem,hP]); (repeat refine qJ ?_)))
     (refine WV_ret ?_; simp only [thenQ,inQ,RetQ,RetOk,resAll,resA]; simp only [go_sem,tupA,AV.port,AV.portL,exists_eq_left']; (first | exact AVle.of rfl | refine AVle.of ?_ | skip))
     rw [hx]; rfl
    ·simp at h
  ·have h:k = l.length:=by simp at h; omega
   subst h
   (repeat ((first | refine Va ?_ | refine Vb ?_ | refine Vc ?_ | refine Vd ?_ | refine Ve ?_ | refine Vf ?_); (try simp only [go_sem,hP]); (repeat refine qJ ?_)))
   (refine WV_ret ?_; simp only [thenQ,inQ,RetQ,RetOk,resAll,resA]; simp only [go_sem,tupA,AV.port,AV.portL,exists_eq_left']; (first | exact AVle.of rfl | refine AVle.of ?_ | skip))
   rw [hx,List.drop_length]
   rfl
theorem contains82 (l:List Bool) (hl:l.length ≤ 1000):FSpec Tryz.prog 178 [.c (.sl 1 (l.map bcd)),bv true] (bv (!(l.all (!·)))):=by
 refine FSpec_of c178 (Nat.le_refl _) (by decide) fun C hP hN hC hL => ?_; rw [init_st]
 simp only [ir178]
 (repeat ((first | refine Va ?_ | refine Vb ?_ | refine Vc ?_ | refine Vd ?_ | refine Ve ?_ | refine Vf ?_); (try simp only [go_sem,hP]); (repeat refine qJ ?_)))
 (refine AS_pu (index89 l true hl) ?_; simp only [go_sem,hP]; (repeat refine qJ ?_); (repeat ((first | refine Va ?_ | refine Vb ?_ | refine Vc ?_ | refine Vd ?_ | refine Ve ?_ | refine Vf ?_); (try simp only [go_sem,hP]); (repeat refine qJ ?_))))
 (refine WV_ret ?_; simp only [thenQ,inQ,RetQ,RetOk,resAll,resA]; simp only [go_sem,tupA,AV.port,AV.portL,exists_eq_left']; (first | exact AVle.of rfl | refine AVle.of ?_ | skip))
 exact congrArg (fun b => AV.c (CD.bool b)) (idxB_any l 0 (Int.le_refl _))
theorem last83 {t:Tray} (ht:TrayOk t) (s:Nat) (hs:s < 2 * t.n):FSpec Tryz.prog 179 [t.av,iv s] (iv (secs t s)):=by
 have hn6:=ht.n6
 have e1:((s:Int)).tmod 2 = ((s % 2:Nat):Int):=by rw [Int.tmod_eq_emod_of_nonneg (by omega)]; omega
 have e2:((s:Int)).tdiv 2 = ((s / 2:Nat):Int):=by rw [Int.tdiv_eq_ediv_of_nonneg (by omega)]; omega
 have hk:s / 2 < t.recs.length:=by show s / 2 < t.n; omega
 have hI:((s / 2:Nat):Int) < (t.recs.length:Int):=by omega
 have w1:=w64 (n:=((s / 2:Nat):Int)) (by omega) (by omega)
 have hrc:t.rc (s / 2) = t.recs[s / 2]:=by unfold Tray.rc; simp [hk]
 refine FSpec_of c179 (Nat.le_refl _) (by decide) fun C hP hN hC hL => ?_; rw [init_st]
 simp only [ir179,Tray.av]
 (repeat ((first | refine Va ?_ | refine Vb ?_ | refine Vc ?_ | refine Vd ?_ | refine Ve ?_ | refine Vf ?_); (try simp only [go_sem,hP,e1]); (repeat refine qJ ?_)))
 (refine WV_cond rfl (fun h => ?_) (fun h => ?_))
 ·have h:s % 2 = 0:=by simp at h; omega
  (repeat ((first | refine Va ?_ | refine Vb ?_ | refine Vc ?_ | refine Vd ?_ | refine Ve ?_ | refine Vf ?_); (try simp only [go_sem,hP,e2,w1,recsC,List.length_map,hI,map_getD hk,Rec.cds,Int.natCast_nonneg]); (repeat refine qJ ?_)))
  (refine WV_ret ?_; simp only [thenQ,inQ,RetQ,RetOk,resAll,resA]; simp only [go_sem,tupA,AV.port,AV.portL,exists_eq_left']; (first | exact AVle.of rfl | refine AVle.of ?_ | skip))
  rw [secs,if_pos h,hrc]
 ·have h:¬ s % 2 = 0:=by simp at h; omega
  (repeat ((first | refine Va ?_ | refine Vb ?_ | refine Vc ?_ | refine Vd ?_ | refine Ve ?_ | refine Vf ?_); (try simp only [go_sem,hP,e2,w1,recsC,List.length_map,hI,map_getD hk,Rec.cds,Int.natCast_nonneg]); (repeat refine qJ ?_)))
  (refine WV_ret ?_; simp only [thenQ,inQ,RetQ,RetOk,resAll,resA]; simp only [go_sem,tupA,AV.port,AV.portL,exists_eq_left']; (first | exact AVle.of rfl | refine AVle.of ?_ | skip))
  rw [secs,if_neg h,hrc]
set_option maxRecDepth 20000 in
set_option maxHeartbeats 8000000 in
theorem press81 {t:Tray} (ht:TrayOk t) {s:Cs} (hs:CsOk t s) (hq:s.q.length ≤ 1000) :
  FSpecL Tryz.prog 177 [.bp 1000 0] (carO t s) [] (fun res l' => res = .tup [] ∧ l' = carO t s.press):=by
 have hn6:=ht.n6
 have hp:=hs.pins
 have hqo:=hs.q
 refine FSpecL_of c177 (by first | simp | exact Nat.le_of_ble_eq_true rfl) (Nat.le_refl _) (by decide) (by decide) fun C hP hN hC hL => ?_; rw [init_env',ownW_upd (by first | simp | exact Nat.le_of_ble_eq_true rfl)]; simp only [ir177,updL,updLo,List.map_nil,List.map_cons,Nat.reduceAdd,carO,carC]
 (repeat ((first | refine Va ?_ | refine Vb ?_ | refine Vc ?_ | refine Vd ?_ | refine Ve ?_ | refine Vf ?_); (try simp only [go_sem,hP]); (repeat refine qJ ?_)))
 refine WV_loopK K177_1 [1000,1001] (fun p:List Pr × List Bool => p.1.length ≤ 1000 ∧ p.2.length = 2 * t.n ∧ (∀ x ∈ p.1,0 ≤ x.side ∧ x.side < 2 * (t.n:Int)) ∧ pressQ s.now s.q s.pins = pressQ s.now p.1 p.2) (fun p => p.1.length) (fun _ => [])
  (fun p => [(1000,.box (carC t { s with q:=p.1,pins:=p.2 })),(1001,.box (cellsG bcd p.2 0))]) (s.q,s.pins) ⟨hq,hp,fun x hx => (hqo x hx).1,rfl⟩ ?_ ?_
 ·simp only [carC]
  exact Sub_au
 ·rintro ⟨q,pins⟩ ⟨hl,hpl,hqs,hpq⟩
  simp only at hl hpl hqs hpq
  simp only [go_sem,carC]
  cases q with
  | nil =>
   (repeat ((first | refine Va ?_ | refine Vb ?_ | refine Vc ?_ | refine Vd ?_ | refine Ve ?_ | refine Vf ?_); (try simp only [go_sem,hP,prsC,List.map_nil,List.length_nil,Int.natCast_zero]); (repeat refine qJ ?_)))
   (refine WV_cond rfl (fun h => ?_) (fun h => ?_))
   ·simp at h
   ·(refine WV_exit ?_; simp only [go_sem])
    ((try simp only [thenQ,inQ,RetQL,RetOkL,resAll,resA]); (try simp only [go_sem,tupA,AV.keepP,AV.keepPL]); refine ⟨_,carO t s.press,rfl,KeepL_mk rfl rfl ?_ ?_ rfl,?_⟩)
    ·have e1:s.press.q = []:=by simp only [Cs.press,hpq]; rfl
     have e2:s.press.pins = pins:=by simp only [Cs.press,hpq]; rfl
     simp only [carO,carC,e1,e2]
     simp only [go_sem,keepAll,Ob.keepP,AV.keepP,AV.keepPL,Cs.press,prsC,List.map_nil]
    ·simp only [go_sem,winAll]
    ·exact ⟨rfl,rfl⟩
  | cons p q =>
   have hps:=hqs p (by simp)
   have hlen:q.length + 1 ≤ 1000:=hl
   have hd:decide ((0:Int) < ((q.length + 1:Nat):Int)) = true:=by simp
   have e1:(((q.length + 1:Nat):Int)).toNat = q.length + 1:=by omega
   have e2:(q.map Pr.cds).take q.length = q.map Pr.cds:=List.take_of_length_le (by simp)
   have hI:(0:Int) < ((q.length + 1:Nat):Int):=by omega
   have hI1:(1:Int) ≤ ((q.length + 1:Nat):Int):=by omega
   have z1:((0:Int)).toNat = 0:=rfl
   have z2:((1:Int)).toNat = 1:=rfl
   simp only [pressQ] at hpq
   (repeat ((first | refine Va ?_ | refine Vb ?_ | refine Vc ?_ | refine Vd ?_ | refine Ve ?_ | refine Vf ?_); (try simp only [go_sem,hP,prsC,List.map_cons,List.length_cons,hd,hI,z1,Pr.cds]); (repeat refine qJ ?_)))
   (refine WV_cond rfl (fun h => ?_) (fun h => ?_))
   ·have h:p.time ≤ s.now:=by simpa using h
    rw [if_pos h] at hpq
    have hk:p.side.toNat < pins.length:=by omega
    have hcl:(cellsG bcd pins 0).length = 2 * t.n:=by rw [cellsG_len bcd_one,hpl]; omega
    have hset:(cellsG bcd pins 0).set p.side.toNat (.c (.bool true)) = cellsG bcd (pins.set p.side.toNat true) 0:=by
     have:=cellsG_set bcd_one hk 0 0 (by decide) (.bool true) true rfl
     rwa [Nat.mul_one,Nat.add_zero] at this
    have hI2:p.side < ((2 * t.n:Nat):Int):=by omega
    have hc1:p.side.toNat < 2 * t.n:=by omega
    have hc2:p.side.toNat + 1 ≤ 2 * t.n:=by omega
    (repeat ((first | refine Va ?_ | refine Vb ?_ | refine Vc ?_ | refine Vd ?_ | refine Ve ?_ | refine Vf ?_); (try simp only [go_sem,hP,prsC,List.map_cons,List.length_cons,hI,hI1,z1,z2,e1,e2,hps.1,hI2,hcl,hc1,hc2,hset,Pr.cds]); (repeat refine qJ ?_)))
    refine ⟨(q,pins.set p.side.toNat true),⟨by simp only; omega,by simpa using hpl,fun x hx => hqs x (by simp [hx]),hpq⟩,by simp,?_⟩
    simp only [carC,prsC]
    exact Sub_au
   ·have h:¬ p.time ≤ s.now:=by simpa using h
    rw [if_neg h] at hpq
    (refine WV_exit ?_; simp only [go_sem])
    ((try simp only [thenQ,inQ,RetQL,RetOkL,resAll,resA]); (try simp only [go_sem,tupA,AV.keepP,AV.keepPL]); refine ⟨_,carO t s.press,rfl,KeepL_mk rfl rfl ?_ ?_ rfl,?_⟩)
    ·have e1:s.press.q = p :: q:=by simp only [Cs.press,hpq]
     have e2:s.press.pins = pins:=by simp only [Cs.press,hpq]
     simp only [carO,carC,e1,e2]
     simp only [go_sem,keepAll,Ob.keepP,AV.keepP,AV.keepPL,Cs.press,prsC,List.map_cons,Pr.cds]
    ·simp only [go_sem,winAll]
    ·exact ⟨rfl,rfl⟩
end Go.Proofs.YtefoconkepmmgaaGreatDoor

namespace Go.Proofs.YtefoconkepmmgaaGreatDoor
open Go Go.V
abbrev o180_0:List Ins:=[JF 3 (Jm 0),JF 4 (.nilc (.t 3)),JF 5 (Jf 8 4),JF 6 (Jf 0 5),JF 7 (Jl 6),JF 8 (Jm 0),JF 9 (.nilc (.t 8)),JF 10 (Jf 8 9),JF 11 (Jf 1 10),JF 12 (Jl 11),JS 13 (Jb .add 7 12),JS 2 (Jm 13)]
abbrev o180_1:List Ins:=[JS 14 (Jm 2),JS 15 (Jk .geq 14 0),JS 16 (Jm 15),JG 17 (Jm 2) 16 true,JG 18 (Jm 0) 16 true,JG 19 (.nilc (.t 18)) 16 true,JG 20 (Jf 0 19) 16 true,JG 21 (Jf 0 20) 16 true,JG 22 (Jl 21) 16 true,JG 23 (Jn 22) 16 true,JG 24 (Jb .lss 17 23) 16 true,JS 25 (Jp 16 24)]
abbrev o180_2:List Ins:=[JS 26 (Jm 0),JS 27 (Jm 2),JS 28 (.nilc (.t 26)),JS 29 (Jf 8 28),JS 30 (Jf 0 29),JN (Js 1 30 27)]
abbrev o180_3:List Ins:=[JF 31 (Jm 0),JF 32 (.nilc (.t 31)),JF 33 (Jf 7 32),JF 34 (Jl 33),JF 35 (Jm 0),JF 36 (.nilc (.t 35)),JF 37 (Jf 0 36),JF 38 (Jf 3 37),JF 39 (Jl 38),JS 40 (Jb .add 34 39),JS 41 (.nilc (.t 31)),JS 42 (Jf 7 41),JN (Js 1 42 40)]
abbrev o180_4:List Ins:=[JS 43 (Jm 0),JS 44 (.nilc (.t 43)),JS 45 (Jf 11 44),JS 46 (Jf 2 45),JS 47 (Jl 46),JS 48 (Jk .add 47 1),JS 49 (.nilc (.t 43)),JS 50 (Jf 11 49),JS 51 (Jf 2 50),JN (Js 1 51 48)]
abbrev v180_5:VC:=(.seq (.dops o180_3) (.ops o180_4))
abbrev v180_6:VC:=(.seq (.ops o180_2) v180_5)
abbrev o180_7:List Ins:=[JS 52 (Jm 0),JS 53 (Jm 0),JS 54 (.nilc (.t 53)),JS 55 (Jf 8 54),JS 56 (Jf 1 55),JS 57 (Jl 56),JS 58 (.un .neg (.t 57)),JS 59 (.nilc (.t 52)),JS 60 (Jf 8 59),JS 61 (Jf 1 60),JN (Js 1 61 58)]
abbrev v180_8:VC:=(.cond (.t 25) v180_6 (.ops o180_7))
abbrev v180_9:VC:=(.seq (.ops o180_1) v180_8)
abbrev o180_10:List Ins:=[JS 62 (Jm 0),JS 63 (Jc 145 [.t 62,(.k (Jz (-1)))])]
def ir180:FC:=⟨1,64,[],(.seq (.seq (.dops o180_0) v180_9) (.ops o180_10))⟩
theorem c180:compM Tryz.prog [] 180 = some ir180:=by kernel_rfl
attribute [local go_sem] Nat.reduceEqDiff Nat.reduceAdd Nat.reduceMul reduceIte Nat.reduceLeDiff Nat.reduceLT Nat.reduceBEq reduceCtorEq
set_option maxRecDepth 20000 in
set_option maxHeartbeats 16000000 in
theorem next84 {t:Tray} (ht:TrayOk t) {s:Cs} (hs:CsOk t s) (h1:s.spells.length ≤ 5000) (h2:s.now ≤ 1000000) (h3:0 ≤ s.steps ∧ s.steps ≤ 1000000) :
  FSpecL Tryz.prog 180 [.bp 1000 0] (carO t s) [] (fun res l' => res = .tup [] ∧ l' = carO t (s.next t)):=by
 have hn6:=ht.n6
 have hat:=hs.at_
 have hnow:=hs.now
 have hst:=ht.step
 have hnl:t.recs.length = t.n:=rfl
 have w1:=w64 (n:=s.now + t.step) (by omega) (by omega)
 have w2:=w64 (n:=s.steps + 1) (by omega) (by omega)
 refine FSpecL_of c180 (by first | simp | exact Nat.le_of_ble_eq_true rfl) (Nat.le_refl _) (by decide) (by decide) fun C hP hN hC hL => ?_; rw [init_env',ownW_upd (by first | simp | exact Nat.le_of_ble_eq_true rfl)]; simp only [ir180,updL,updLo,List.map_nil,List.map_cons,Nat.reduceAdd,carO,carC]
 cases hu:s.up
 ·have hw:wayI false = -1:=rfl
  have hwn:IntKind.i64.wrap (0 - -1) = 1:=by decide
  have w3:=w64 (n:=(s.at_:Int) + -1) (by omega) (by omega)
  have hI2:decide ((s.at_:Int) + -1 < (t.n:Int)) = true:=by simp; omega
  by_cases h0:0 < s.at_
  ·have ea:(s.at_:Int) + -1 = ((s.at_ - 1:Nat):Int):=by omega
   rw [ea] at w3 hI2
   have em:s.move t = { s with at_:=s.at_ - 1,now:=s.now + t.step,steps:=s.steps + 1 }:=by simp [Cs.move,hu,h0]
   have hmk:=mark71 t { s with at_:=s.at_ - 1,now:=s.now + t.step,steps:=s.steps + 1 } (-1) h1
   (repeat ((first | refine Va ?_ | refine Vb ?_ | refine Vc ?_ | refine Vd ?_ | refine Ve ?_ | refine Vf ?_); (try simp only [go_sem,hP,hw,ea,w3,recsC,List.length_map,hnl,hI2]); (repeat refine qJ ?_)))
   (refine WV_cond rfl (fun h => ?_) (fun h => ?_))
   ·(repeat ((first | refine Va ?_ | refine Vb ?_ | refine Vc ?_ | refine Vd ?_ | refine Ve ?_ | refine Vf ?_); (try simp only [go_sem,hP,w1,w2]); (repeat refine qJ ?_)))
    (refine AS_lend [1000,1001,1002,1003] (hmk) rfl rfl rfl (by decide) rfl (by simp only [go_sem,obsLend,Ob.lend,AV.lend,AV.lendL,carO,carC,hu,hw,recsC]) ?_)
    rintro r l' ⟨rfl,rfl⟩
    (refine ⟨_,_,rfl,(by simp only [carO,carC,obsBack,Ob.back,AV.back,AV.backL,back_cellsG,hu,hw]; rfl),?_⟩; simp only [go_sem,hP,ownBack,hu,hw])
    ((try simp only [thenQ,inQ,RetQL,RetOkL,resAll,resA]); (try simp only [go_sem,tupA,AV.keepP,AV.keepPL]); refine ⟨_,carO t (s.next t),rfl,KeepL_mk rfl rfl ?_ ?_ rfl,?_⟩)
    ·simp only [Cs.next,em]
     simp only [go_sem,keepAll,Ob.keepP,AV.keepP,AV.keepPL,carO,carC,Cs.mark,hu,hw,recsC]
    ·simp only [go_sem,winAll]
    ·exact ⟨rfl,rfl⟩
   ·simp at h
  ·have ea:s.at_ = 0:=by omega
   have em:s.move t = { s with up:=true }:=by simp [Cs.move,hu,h0]
   have hmk:=mark71 t { s with up:=true } (-1) h1
   have hd:decide ((0:Int) ≤ (s.at_:Int) + -1) = false:=by simp; omega
   (repeat ((first | refine Va ?_ | refine Vb ?_ | refine Vc ?_ | refine Vd ?_ | refine Ve ?_ | refine Vf ?_); (try simp only [go_sem,hP,hw,w3,recsC,List.length_map,hnl,hI2,hd]); (repeat refine qJ ?_)))
   (refine WV_cond rfl (fun h => ?_) (fun h => ?_))
   ·simp at h
   ·(repeat ((first | refine Va ?_ | refine Vb ?_ | refine Vc ?_ | refine Vd ?_ | refine Ve ?_ | refine Vf ?_); (try simp only [go_sem,hP,hwn]); (repeat refine qJ ?_)))
    (refine AS_lend [1000,1001,1002,1003] (hmk) rfl rfl rfl (by decide) rfl (by simp only [go_sem,obsLend,Ob.lend,AV.lend,AV.lendL,carO,carC,hu,hw,wayI,recsC]) ?_)
    rintro r l' ⟨rfl,rfl⟩
    (refine ⟨_,_,rfl,(by simp only [carO,carC,obsBack,Ob.back,AV.back,AV.backL,back_cellsG,hu,hw]; rfl),?_⟩; simp only [go_sem,hP,ownBack,hu,hw])
    ((try simp only [thenQ,inQ,RetQL,RetOkL,resAll,resA]); (try simp only [go_sem,tupA,AV.keepP,AV.keepPL]); refine ⟨_,carO t (s.next t),rfl,KeepL_mk rfl rfl ?_ ?_ rfl,?_⟩)
    ·simp only [Cs.next,em]
     simp only [go_sem,keepAll,Ob.keepP,AV.keepP,AV.keepPL,carO,carC,Cs.mark,wayI,recsC]
    ·simp only [go_sem,winAll]
    ·exact ⟨rfl,rfl⟩
 ·have hw:wayI true = 1:=rfl
  have hwn:IntKind.i64.wrap (0 - 1) = -1:=by decide
  have w3:=w64 (n:=(s.at_:Int) + 1) (by omega) (by omega)
  have hI2:decide ((0:Int) ≤ (s.at_:Int) + 1) = true:=by simp; omega
  by_cases h0:s.at_ + 1 < t.n
  ·have ea:(s.at_:Int) + 1 = ((s.at_ + 1:Nat):Int):=by omega
   rw [ea] at w3 hI2
   have em:s.move t = { s with at_:=s.at_ + 1,now:=s.now + t.step,steps:=s.steps + 1 }:=by simp [Cs.move,hu,h0]
   have hmk:=mark71 t { s with at_:=s.at_ + 1,now:=s.now + t.step,steps:=s.steps + 1 } (-1) h1
   have hd:decide (((s.at_ + 1:Nat):Int) < (t.n:Int)) = true:=by simp; omega
   (repeat ((first | refine Va ?_ | refine Vb ?_ | refine Vc ?_ | refine Vd ?_ | refine Ve ?_ | refine Vf ?_); (try simp only [go_sem,hP,hw,ea,w3,recsC,List.length_map,hnl,hI2,hd]); (repeat refine qJ ?_)))
   (refine WV_cond rfl (fun h => ?_) (fun h => ?_))
   ·(repeat ((first | refine Va ?_ | refine Vb ?_ | refine Vc ?_ | refine Vd ?_ | refine Ve ?_ | refine Vf ?_); (try simp only [go_sem,hP,w1,w2]); (repeat refine qJ ?_)))
    (refine AS_lend [1000,1001,1002,1003] (hmk) rfl rfl rfl (by decide) rfl (by simp only [go_sem,obsLend,Ob.lend,AV.lend,AV.lendL,carO,carC,hu,hw,recsC]) ?_)
    rintro r l' ⟨rfl,rfl⟩
    (refine ⟨_,_,rfl,(by simp only [carO,carC,obsBack,Ob.back,AV.back,AV.backL,back_cellsG,hu,hw]; rfl),?_⟩; simp only [go_sem,hP,ownBack,hu,hw])
    ((try simp only [thenQ,inQ,RetQL,RetOkL,resAll,resA]); (try simp only [go_sem,tupA,AV.keepP,AV.keepPL]); refine ⟨_,carO t (s.next t),rfl,KeepL_mk rfl rfl ?_ ?_ rfl,?_⟩)
    ·simp only [Cs.next,em]
     simp only [go_sem,keepAll,Ob.keepP,AV.keepP,AV.keepPL,carO,carC,Cs.mark,hu,hw,recsC]
    ·simp only [go_sem,winAll]
    ·exact ⟨rfl,rfl⟩
   ·simp at h
  ·have em:s.move t = { s with up:=false }:=by simp [Cs.move,hu,h0]
   have hmk:=mark71 t { s with up:=false } (-1) h1
   have hd:decide ((s.at_:Int) + 1 < (t.n:Int)) = false:=by simp; omega
   (repeat ((first | refine Va ?_ | refine Vb ?_ | refine Vc ?_ | refine Vd ?_ | refine Ve ?_ | refine Vf ?_); (try simp only [go_sem,hP,hw,w3,recsC,List.length_map,hnl,hI2,hd]); (repeat refine qJ ?_)))
   (refine WV_cond rfl (fun h => ?_) (fun h => ?_))
   ·simp at h
   ·(repeat ((first | refine Va ?_ | refine Vb ?_ | refine Vc ?_ | refine Vd ?_ | refine Ve ?_ | refine Vf ?_); (try simp only [go_sem,hP,hwn]); (repeat refine qJ ?_)))
    (refine AS_lend [1000,1001,1002,1003] (hmk) rfl rfl rfl (by decide) rfl (by simp only [go_sem,obsLend,Ob.lend,AV.lend,AV.lendL,carO,carC,hu,hw,wayI,recsC]) ?_)
    rintro r l' ⟨rfl,rfl⟩
    (refine ⟨_,_,rfl,(by simp only [carO,carC,obsBack,Ob.back,AV.back,AV.backL,back_cellsG,hu,hw]; rfl),?_⟩; simp only [go_sem,hP,ownBack,hu,hw])
    ((try simp only [thenQ,inQ,RetQL,RetOkL,resAll,resA]); (try simp only [go_sem,tupA,AV.keepP,AV.keepPL]); refine ⟨_,carO t (s.next t),rfl,KeepL_mk rfl rfl ?_ ?_ rfl,?_⟩)
    ·simp only [Cs.next,em]
     simp only [go_sem,keepAll,Ob.keepP,AV.keepP,AV.keepPL,carO,carC,Cs.mark,wayI,recsC]
    ·simp only [go_sem,winAll]
    ·exact ⟨rfl,rfl⟩
end Go.Proofs.YtefoconkepmmgaaGreatDoor

namespace Go.Proofs.YtefoconkepmmgaaGreatDoor
open Go Go.V
abbrev o146_0:List Ins:=[JS 2 (JB false)]
abbrev o146_1:List Ins:=[JS 4 (Jm 0),JS 5 (Jc 177 [.t 4])]
abbrev o146_2:List Ins:=[JS 6 (Jm 0),JS 7 (.nilc (.t 6)),JS 8 (Jf 6 7),JS 9 (Jl 8),JS 10 (Jc 178 [.t 9,(.k (.c (.bool true)))]),JS 11 (.un .not (.t 10))]
abbrev o146_3:List Ins:=[JS 12 (Jm 0),JS 13 (.nilc (.t 12)),JS 14 (Jf 5 13),JS 15 (Jl 14),JS 16 (Jn 15),JS 17 (Jk .eql 16 0)]
abbrev o146_4:List Ins:=[JS 2 (JB false)]
abbrev v146_5:VC:=(.seq (.ops o146_4) .ret)
abbrev v146_6:VC:=(.cond (.t 17) v146_5 .skip)
abbrev o146_7:List Ins:=[JS 18 (Jm 0),JS 19 (Jm 0),JS 20 (.nilc (.t 19)),JS 21 (Jf 5 20),JS 22 (Jl 21),JS 23 (.ia 2 (.t 22) (.k (Jz 0))),JS 24 (Jf 1 23),JS 25 (Jl 24),JS 26 (.nilc (.t 18)),JS 27 (Jf 7 26),JN (Js 1 27 25)]
abbrev o146_8:List Ins:=[JS 2 (JB true)]
abbrev v146_9:VC:=(.seq (.ops o146_8) .ret)
abbrev v146_10:VC:=(.seq (.ops o146_7) v146_9)
abbrev v146_11:VC:=(.seq (.seq (.ops o146_3) v146_6) v146_10)
abbrev v146_12:VC:=(.cond (.t 11) v146_11 .skip)
abbrev o146_13:List Ins:=[JS 28 (Jm 0),JS 29 (.nilc (.t 28)),JS 30 (Jf 8 29),JS 31 (Jf 0 30),JS 32 (Jl 31),JS 33 (.bin .mul (.k (Jz 2)) (.t 32)),JS 3 (Jm 33)]
abbrev o146_14:List Ins:=[JS 34 (Jm 0),JS 35 (.nilc (.t 34)),JS 36 (Jf 8 35),JS 37 (Jf 1 36),JS 38 (Jl 37),JS 39 (Jk .lss 38 0)]
abbrev o146_15:List Ins:=[JS 40 (Jm 3),JS 41 (Jk .add 40 1),JS 3 (Jm 41)]
abbrev v146_16:VC:=(.cond (.t 39) (.ops o146_15) .skip)
abbrev o146_17:List Ins:=[JS 42 (Jm 0),JS 43 (.nilc (.t 42)),JS 44 (Jf 6 43),JS 45 (Jl 44),JS 46 (Jm 3),JS 47 (Ja 1 45 46),JS 48 (Jl 47)]
abbrev o146_18:List Ins:=[JS 49 (Jm 0),JS 50 (.nilc (.t 49)),JS 51 (Jf 6 50),JS 52 (Jl 51),JS 53 (Jm 3),JS 54 (Ja 1 52 53),JN (.st 1 (.t 54) (.k (.c (.bool false))))]
abbrev o146_19:List Ins:=[JF 55 (Jm 0),JF 56 (Jm 0),JF 57 (.nilc (.t 56)),JF 58 (Jf 11 57),JF 59 (Jf 1 58),JF 60 (Jl 59),JF 61 (Jm 3),JF 62 (Jm 0),JF 63 (.nilc (.t 62)),JF 64 (Jf 7 63),JF 65 (Jl 64),JF 66 (.bld [Jz 0,Jz 0] [(0,1,(.t 61)),(1,1,(.t 65))]),JF 67 (.bsl 148 2 [.t 66]),JF 68 (.app 148 2 16 (.t 60) (.t 67)),JS 69 (.nilc (.t 55)),JS 70 (Jf 11 69),JS 71 (Jf 1 70),JN (Js 1 71 68)]
abbrev o146_20:List Ins:=[JS 72 (Jm 0),JS 73 (Jm 3),JS 74 (Jc 145 [.t 72,.t 73])]
abbrev o146_21:List Ins:=[JF 75 (Jm 0),JF 76 (.nilc (.t 75)),JF 77 (Jf 7 76),JF 78 (Jl 77),JF 79 (Jm 0),JF 80 (.nilc (.t 79)),JF 81 (Jf 0 80),JF 82 (JL 5 81),JF 83 (Jm 3),JF 84 (Jc 179 [.t 82,.t 83]),JS 85 (Jb .add 78 84),JS 86 (.nilc (.t 75)),JS 87 (Jf 7 86),JN (Js 1 87 85)]
abbrev o146_22:List Ins:=[JS 88 (Jm 0),JS 89 (Jm 0),JS 90 (.nilc (.t 89)),JS 91 (Jf 7 90),JS 92 (Jl 91),JS 93 (.nilc (.t 88)),JS 94 (Jf 11 93),JS 95 (Jf 3 94),JN (Js 1 95 92)]
abbrev o146_23:List Ins:=[JS 96 (Jm 0),JS 97 (Jc 145 [.t 96,(.k (Jz (-1)))])]
abbrev v146_24:VC:=(.seq (.ops o146_22) (.ops o146_23))
abbrev v146_25:VC:=(.seq (.dops o146_21) v146_24)
abbrev v146_26:VC:=(.seq (.ops o146_20) v146_25)
abbrev v146_27:VC:=(.seq (.dops o146_19) v146_26)
abbrev v146_28:VC:=(.seq (.ops o146_18) v146_27)
abbrev v146_29:VC:=(.cond (.t 48) v146_28 .skip)
abbrev o146_30:List Ins:=[JS 98 (Jm 0),JS 99 (Jc 180 [.t 98])]
abbrev o146_31:List Ins:=[JS 2 (JB true)]
abbrev v146_32:VC:=(.seq (.ops o146_31) .ret)
abbrev v146_33:VC:=(.seq (.ops o146_30) v146_32)
abbrev v146_34:VC:=(.seq (.seq (.ops o146_17) v146_29) v146_33)
abbrev v146_35:VC:=(.seq (.seq (.ops o146_14) v146_16) v146_34)
abbrev v146_36:VC:=(.seq (.ops o146_13) v146_35)
abbrev v146_37:VC:=(.seq (.seq (.ops o146_2) v146_12) v146_36)
abbrev v146_38:VC:=(.seq (.ops o146_1) v146_37)
def ir146:FC:=⟨1,100,[.t 2],(.seq (.ops o146_0) v146_38)⟩
theorem c146:compM Tryz.prog [] 146 = some ir146:=by kernel_rfl
attribute [local go_sem] Nat.reduceEqDiff Nat.reduceAdd Nat.reduceMul reduceIte Nat.reduceLeDiff Nat.reduceLT Nat.reduceBEq reduceCtorEq
def actPQ (t:Tray) (s:Cs) (res:AV) (l':List Ob):Prop:=(s.act t = none ∧ res = bv false ∧ l' = carO t s.press) ∨ ∃ s',s.act t = some s' ∧ res = bv true ∧ l' = carO t s'
theorem pressQ_le (now:Int):∀ (q:List Pr) (pins:List Bool),(pressQ now q pins).1.length ≤ q.length:=fun q pins => by
 obtain ⟨k,hk⟩:=pressQ_suffix now q pins
 rw [hk,List.length_drop]; omega
set_option maxRecDepth 20000 in
set_option maxHeartbeats 16000000 in
theorem act72 {t:Tray} (ht:TrayOk t) {s:Cs} (hs:CsOk t s) (hq:s.q.length ≤ 1000) (h1:s.spells.length ≤ 4900) (h2:s.now ≤ 900000) (h3:0 ≤ s.steps ∧ s.steps ≤ 900000) (h4:s.plays.length ≤ 5000) :
  FSpecL Tryz.prog 146 [.bp 1000 0] (carO t s) [] (actPQ t s):=by
 have hmax:maxLen = 9223372036854775807:=rfl
 have hn6:=ht.n6
 have hpr:=press81 ht hs hq
 have hs1:=hs.press
 have hact:s.act t = s.press.act1 t:=rfl
 have hq1:s.press.q.length ≤ 1000:=Nat.le_trans (pressQ_le _ _ _) hq
 have e1:s.press.spells = s.spells:=rfl
 have e2:s.press.now = s.now:=rfl
 have e3:s.press.steps = s.steps:=rfl
 have e4:s.press.plays = s.plays:=rfl
 rw [← e1] at h1
 rw [← e2] at h2
 rw [← e3] at h3
 rw [← e4] at h4
 refine FSpecL_ofX c146 (by first | simp | exact Nat.le_of_ble_eq_true rfl) (Nat.le_refl _) (by decide) (by decide) fun C hP hN hC hpin hL => ?_; rw [init_env',ownW_upd (by first | simp | exact Nat.le_of_ble_eq_true rfl)]; simp only [ir146,updL,updLo,List.map_nil,List.map_cons,Nat.reduceAdd,carO,carC]
 refine WV_post ?_
 (repeat ((first | refine Va ?_ | refine Vb ?_ | refine Vc ?_ | refine Vd ?_ | refine Ve ?_ | refine Vf ?_); (try simp only [go_sem,hP]); (repeat refine qJ ?_)))
 (refine AS_lend [1000,1001,1002,1003] (hpr) rfl rfl rfl (by decide) rfl (by simp only [go_sem,obsLend,Ob.lend,AV.lend,AV.lendL,carO,carC]) ?_)
 rintro r l' ⟨rfl,rfl⟩
 (refine ⟨_,_,rfl,(by simp only [carO,carC,obsBack,Ob.back,AV.back,AV.backL,back_cellsG,]; rfl),?_⟩; simp only [go_sem,hP,ownBack])
 have hpost:∀ r l',actPQ t s r l' = ((s.press.act1 t = none ∧ r = bv false ∧ l' = carO t s.press) ∨ ∃ s',s.press.act1 t = some s' ∧ r = bv true ∧ l' = carO t s'):=fun r l' => by unfold actPQ; rw [hact]
 generalize s.press = s1 at *
 have hpl:=hs1.pins
 have hat:=hs1.at_
 have hel:∀ own:Nat → Ob,own 1001 = .box (cellsG bcd s1.pins 0) → AV.elemsV own (.vw 1 1001 0 (2 * t.n) (2 * t.n)) = some (1,s1.pins.map bcd):=fun own h => by
  have:=elemsV_cellsG bcd_one own 1001 s1.pins 0 (2 * t.n) h
  rwa [hpl] at this
 (repeat ((first | refine Va ?_ | refine Vb ?_ | refine Vc ?_ | refine Vd ?_ | refine Ve ?_ | refine Vf ?_); (try simp only [go_sem,hP]); (repeat refine qJ ?_)))
 refine AS_vol (contains82 s1.pins (by omega)) rfl rfl rfl rfl ?_ rfl ?_
 ·show AV.vportL _ [.vw 1 1001 0 (2 * t.n) (2 * t.n),bv true] = _
  simp only [AV.vportL,AV.vport]
  rw [hel]
  ·rfl
  ·rfl
 simp only [go_sem,hP]
 (repeat ((first | refine Va ?_ | refine Vb ?_ | refine Vc ?_ | refine Vd ?_ | refine Ve ?_ | refine Vf ?_); (try simp only [go_sem,hP]); (repeat refine qJ ?_)))
 cases hall:s1.pins.all (!·)
 rotate_left
 ·-- nothing is asked for
  (refine WV_cond rfl (fun h => ?_) (fun h => ?_))
  ·cases hqq:s1.q with
   | nil =>
    have ha:s1.act1 t = none:=by unfold Cs.act1; rw [if_pos hall,hqq]
    (repeat ((first | refine Va ?_ | refine Vb ?_ | refine Vc ?_ | refine Vd ?_ | refine Ve ?_ | refine Vf ?_); (try simp only [go_sem,hP,prsC,hqq,List.map_nil,List.length_nil,Int.natCast_zero,beq_self_eq_true]); (repeat refine qJ ?_)))
    (refine WV_cond rfl (fun h => ?_) (fun h => ?_))
    ·(repeat ((first | refine Va ?_ | refine Vb ?_ | refine Vc ?_ | refine Vd ?_ | refine Ve ?_ | refine Vf ?_); (try simp only [go_sem,hP]); (repeat refine qJ ?_)))
     refine WV_ret ?_
     refine ⟨_,fun a w hg => hg,?_⟩
     ((try simp only [thenQ,inQ,RetQL,RetOkL,resAll,resA]); (try simp only [go_sem,tupA,AV.keepP,AV.keepPL]); refine ⟨_,carO t s1,rfl,KeepL_mk rfl rfl ?_ ?_ rfl,?_⟩)
     ·simp only [go_sem,keepAll,Ob.keepP,AV.keepP,AV.keepPL,carO,carC,prsC,hqq,List.map_nil]
     ·simp only [go_sem,winAll]
     ·rw [hpost]; exact .inl ⟨ha,rfl,rfl⟩
    ·simp at h
   | cons p q =>
    have ha:s1.act1 t = some { s1 with now:=p.time }:=by unfold Cs.act1; rw [if_pos hall,hqq]
    have hd:(((q.length + 1:Nat):Int) == 0) = false:=by simp; omega
    have hI:(0:Int) < ((q.length + 1:Nat):Int):=by omega
    have z1:((0:Int)).toNat = 0:=rfl
    (repeat ((first | refine Va ?_ | refine Vb ?_ | refine Vc ?_ | refine Vd ?_ | refine Ve ?_ | refine Vf ?_); (try simp only [go_sem,hP,prsC,hqq,List.map_cons,List.length_cons,hd]); (repeat refine qJ ?_)))
    (refine WV_cond rfl (fun h => ?_) (fun h => ?_))
    ·simp at h
    ·(repeat ((first | refine Va ?_ | refine Vb ?_ | refine Vc ?_ | refine Vd ?_ | refine Ve ?_ | refine Vf ?_); (try simp only [go_sem,hP,prsC,hqq,List.map_cons,List.length_cons,hI,z1,Pr.cds]); (repeat refine qJ ?_)))
     refine WV_ret ?_
     refine ⟨_,fun a w hg => hg,?_⟩
     ((try simp only [thenQ,inQ,RetQL,RetOkL,resAll,resA]); (try simp only [go_sem,tupA,AV.keepP,AV.keepPL]); refine ⟨_,carO t { s1 with now:=p.time },rfl,KeepL_mk rfl rfl ?_ ?_ rfl,?_⟩)
     ·simp only [go_sem,keepAll,Ob.keepP,AV.keepP,AV.keepPL,carO,carC,prsC,hqq,List.map_cons,Pr.cds]
     ·simp only [go_sem,winAll]
     ·rw [hpost]; exact .inr ⟨_,ha,rfl,rfl⟩
  ·simp at h
 ·(refine WV_cond rfl (fun h => ?_) (fun h => ?_))
  ·simp at h
  have ha:s1.act1 t = some ((s1.play t).next t):=by unfold Cs.act1; rw [if_neg (by rw [hall]; decide)]
  have hpos:=pos_lt hs1
  have hsec:=secs_ok ht hpos
  have hlast:=last83 ht s1.pos hpos
  have hnow:=hs1.now
  have hcl:(cellsG bcd s1.pins 0).length = 2 * t.n:=by rw [cellsG_len bcd_one,hpl]; omega
  have hpk:s1.pos < s1.pins.length:=by omega
  have hget:∀ x,(cellsG bcd s1.pins 0).getD s1.pos x = bv (s1.pins.getD s1.pos false):=fun x => by
   have:=cellsG_get bcd_one hpk 0 0 (d:=.bool s1.pins[s1.pos]) rfl x
   rw [Nat.mul_one,Nat.add_zero] at this
   rw [this]
   simp [hpk]
  have hI2:(s1.pos:Int) < ((2 * t.n:Nat):Int):=by omega
  have hc2:s1.pos + 1 ≤ 2 * t.n:=by omega
  have hside:(bif decide (wayI s1.up < 0) then 2 * (s1.at_:Int) + 1 else 2 * (s1.at_:Int)) = (s1.pos:Int):=by
   unfold Cs.pos sideAt wayI
   cases s1.up <;> simp <;> omega
  have wa:=w64 (n:=2 * (s1.at_:Int)) (by omega) (by omega)
  have wb:=w64 (n:=2 * (s1.at_:Int) + 1) (by omega) (by omega)
  have hplayOk:CsOk t (s1.play t) ∧ (s1.play t).spells.length ≤ 5000 ∧ (s1.play t).now ≤ 1000000 ∧ 0 ≤ (s1.play t).steps ∧ (s1.play t).steps ≤ 1000000:=by
   obtain ⟨p1,p2,p3,p4⟩:=play_pins t s1
   have hn:=play_now ht hs1
   refine ⟨⟨by rw [p3]; exact hat,by rw [p1,List.length_set]; exact hpl,by rw [p2]; exact hs1.q,by omega,by rw [p2]; exact hs1.sorted⟩,?_,by omega,by omega,by omega⟩
   unfold Cs.play
   split
   ·simp [Cs.play2,Cs.play1,Cs.mark]; omega
   ·omega
  have hnx:=next84 ht hplayOk.1 hplayOk.2.1 hplayOk.2.2.1 hplayOk.2.2.2
  have hset:(cellsG bcd s1.pins 0).set s1.pos (.c (.bool false)) = cellsG bcd (s1.pins.set s1.pos false) 0:=by
   have:=cellsG_set bcd_one hpk 0 0 (by decide) (.bool false) false rfl
   rwa [Nat.mul_one,Nat.add_zero] at this
  have hnl:t.recs.length = t.n:=rfl
  have wc:=w64 (n:=s1.now + secs t s1.pos) (by omega) (by omega)
  have htail:WV C v146_34 (fun e σ' => ∃ σ'',(∀ a w,Gam C σ' a w → Gam C σ'' a w) ∧ RetQL [RV.t 2] (carO t s) [] (actPQ t s) e σ'')
    ⟨upd (upd e0 0 (.bp 1000 0)) 3 (iv s1.pos),upd (upd (upd (upd o0 1000 (.box (carC t s1))) 1001 (.box (cellsG bcd s1.pins 0))) 1002 (.grow 194 4 (s1.spells.map Sp.cds))) 1003 (.grow 148 2 (s1.plays.map Pr.cds))⟩:=by
   simp only [carC]
   (repeat ((first | refine Va ?_ | refine Vb ?_ | refine Vc ?_ | refine Vd ?_ | refine Ve ?_ | refine Vf ?_); (try simp only [go_sem,hP,hI2,hpk,hcl,hget]); (repeat refine qJ ?_)))
   cases hpp:s1.pins.getD s1.pos false
   ·have hpl1:s1.play t = s1:=by unfold Cs.play; rw [hpp]; rfl
    rw [hpl1] at hnx ha
    (refine WV_cond rfl (fun h => ?_) (fun h => ?_))
    ·simp at h
    (repeat ((first | refine Va ?_ | refine Vb ?_ | refine Vc ?_ | refine Vd ?_ | refine Ve ?_ | refine Vf ?_); (try simp only [go_sem,hP]); (repeat refine qJ ?_)))
    (refine AS_lend [1000,1001,1002,1003] (hnx) rfl rfl rfl (by decide) rfl (by simp only [go_sem,obsLend,Ob.lend,AV.lend,AV.lendL,carO,carC]) ?_)
    rintro r l' ⟨rfl,rfl⟩
    (refine ⟨_,_,rfl,(by simp only [carO,carC,obsBack,Ob.back,AV.back,AV.backL,back_cellsG,]; rfl),?_⟩; simp only [go_sem,hP,ownBack])
    (repeat ((first | refine Va ?_ | refine Vb ?_ | refine Vc ?_ | refine Vd ?_ | refine Ve ?_ | refine Vf ?_); (try simp only [go_sem,hP]); (repeat refine qJ ?_)))
    refine WV_ret ?_
    refine ⟨_,fun a w hg => hg,?_⟩
    ((try simp only [thenQ,inQ,RetQL,RetOkL,resAll,resA]); (try simp only [go_sem,tupA,AV.keepP,AV.keepPL]); refine ⟨_,carO t (s1.next t),rfl,KeepL_mk rfl rfl ?_ ?_ rfl,?_⟩)
    ·simp only [go_sem,keepAll,Ob.keepP,AV.keepP,AV.keepPL,carO,carC]
    ·simp only [go_sem,winAll]
    ·rw [hpost]; exact .inr ⟨_,ha,rfl,rfl⟩
   ·have hpl1:s1.play t = (s1.play1).play2 t:=by unfold Cs.play; rw [hpp]; rfl
    rw [hpl1] at hnx ha
    have hm1:=mark71 t { s1 with pins:=s1.pins.set s1.pos false,plays:=s1.plays ++ [⟨s1.pos,s1.now⟩] } s1.pos (by simp only; omega)
    have hm2:=mark71 t { s1.play1 with now:=s1.now + secs t s1.pos,end_:=s1.now + secs t s1.pos } (-1) (by simp [Cs.play1,Cs.mark]; omega)
    have e1:({ s1 with pins:=s1.pins.set s1.pos false,plays:=s1.plays ++ [⟨s1.pos,s1.now⟩] }:Cs).mark s1.pos = s1.play1:=rfl
    have e2:({ s1.play1 with now:=s1.now + secs t s1.pos,end_:=s1.now + secs t s1.pos }:Cs).mark (-1) = (s1.play1).play2 t:=rfl
    (refine WV_cond rfl (fun h => ?_) (fun h => ?_))
    ·(repeat ((first | refine Va ?_ | refine Vb ?_ | refine Vc ?_ | refine Vd ?_ | refine Ve ?_ | refine Vf ?_); (try simp only [go_sem,hP,hI2,hpk,hcl,hset,List.length_map]); (repeat refine qJ ?_)))
     (refine AS_lend [1000,1001,1002,68] (hm1) rfl rfl rfl (by decide) rfl (by simp only [go_sem,obsLend,Ob.lend,AV.lend,AV.lendL,carO,carC,List.map_append,Pr.cds]) ?_)
     rintro r l' ⟨rfl,rfl⟩
     rw [e1]
     (refine ⟨_,_,rfl,(by simp only [carO,carC,obsBack,Ob.back,AV.back,AV.backL,back_cellsG,]; rfl),?_⟩; simp only [go_sem,hP,ownBack])
     have g1:(s1.play1).spells = s1.spells ++ [⟨s1.at_,wayI s1.up,s1.pos,s1.now⟩]:=rfl
     have g2:(s1.play1).plays = s1.plays ++ [⟨s1.pos,s1.now⟩]:=rfl
     (repeat ((first | refine Va ?_ | refine Vb ?_ | refine Vc ?_ | refine Vd ?_ | refine Ve ?_ | refine Vf ?_); (try simp only [go_sem,hP,hP,Cs.play1,Cs.mark]); (repeat refine qJ ?_)))
     (refine ACall_of (hlast) rfl rfl rfl rfl rfl ?_; simp only [go_sem,hP,Tray.av,wc]; (repeat refine qJ ?_); (repeat ((first | refine Va ?_ | refine Vb ?_ | refine Vc ?_ | refine Vd ?_ | refine Ve ?_ | refine Vf ?_); (try simp only [go_sem,hP,Tray.av,wc]); (repeat refine qJ ?_))))
     (refine AS_lend [1000,1001,1002,68] (hm2) rfl rfl rfl (by decide) rfl (by simp only [go_sem,obsLend,Ob.lend,AV.lend,AV.lendL,carO,carC,Cs.play1,Cs.mark]) ?_)
     rintro r l' ⟨rfl,rfl⟩
     rw [e2]
     (refine ⟨_,_,rfl,(by simp only [carO,carC,obsBack,Ob.back,AV.back,AV.backL,back_cellsG,Cs.play2,Cs.play1,Cs.mark]; rfl),?_⟩; simp only [go_sem,hP,ownBack,Cs.play2,Cs.play1,Cs.mark])
     (repeat ((first | refine Va ?_ | refine Vb ?_ | refine Vc ?_ | refine Vd ?_ | refine Ve ?_ | refine Vf ?_); (try simp only [go_sem,hP]); (repeat refine qJ ?_)))
     (refine AS_lend [1000,1001,1002,68] (hnx) rfl rfl rfl (by decide) rfl (by simp only [go_sem,obsLend,Ob.lend,AV.lend,AV.lendL,carO,carC,Cs.play2,Cs.play1,Cs.mark]) ?_)
     rintro r l' ⟨rfl,rfl⟩
     generalize (s1.play1.play2 t).next t = s2 at *
     (refine ⟨_,_,rfl,(by simp only [carO,carC,obsBack,Ob.back,AV.back,AV.backL,back_cellsG,]; rfl),?_⟩; simp only [go_sem,hP,ownBack])
     (repeat ((first | refine Va ?_ | refine Vb ?_ | refine Vc ?_ | refine Vd ?_ | refine Ve ?_ | refine Vf ?_); (try simp only [go_sem,hP]); (repeat refine qJ ?_)))
     refine WV_ret ?_
     refine ⟨_,fun a w hg => Gam_move (d:=68) (n:=1003) (by decide) (fun h => by have:=hpin 1003 h; rw [carO_place3] at this; cases this) rfl hg,?_⟩
     simp only [go_sem]
     ((try simp only [thenQ,inQ,RetQL,RetOkL,resAll,resA]); (try simp only [go_sem,tupA,AV.keepP,AV.keepPL]); refine ⟨_,carO t s2,rfl,KeepL_mk rfl rfl ?_ ?_ rfl,?_⟩)
     ·simp only [go_sem,keepAll,Ob.keepP,AV.keepP,AV.keepPL,carO,carC]
     ·simp only [go_sem,winAll]
     ·rw [hpost]; exact .inr ⟨_,ha,rfl,rfl⟩
    ·simp at h
  simp only [carC] at htail
  cases hu:s1.up
  ·rw [hu] at htail
   have hw:wayI false = -1:=rfl
   have hp2:2 * (s1.at_:Int) + 1 = (s1.pos:Int):=by unfold Cs.pos sideAt; rw [hu]; simp
   rw [hp2] at wb
   rw [hw] at htail
   (repeat ((first | refine Va ?_ | refine Vb ?_ | refine Vc ?_ | refine Vd ?_ | refine Ve ?_ | refine Vf ?_); (try simp only [go_sem,hP,wa,hw]); (repeat refine qJ ?_)))
   (refine WV_cond rfl (fun h => ?_) (fun h => ?_))
   ·(refine WV_op ?_; simp only [go_sem,hP,wb,hp2]; (repeat refine qJ ?_))
    exact WV_sub (Sub_of (by simp only [go_sem]; exact EnvLe_au) (by simp only [go_sem]; exact ObjLe_au)) htail
   ·simp at h
  ·rw [hu] at htail
   have hw:wayI true = 1:=rfl
   have hp2:2 * (s1.at_:Int) = (s1.pos:Int):=by unfold Cs.pos sideAt; rw [hu]; simp
   rw [hp2] at wa
   rw [hw] at htail
   (repeat ((first | refine Va ?_ | refine Vb ?_ | refine Vc ?_ | refine Vd ?_ | refine Ve ?_ | refine Vf ?_); (try simp only [go_sem,hP,wa,hw,hp2]); (repeat refine qJ ?_)))
   (refine WV_cond rfl (fun h => ?_) (fun h => ?_))
   ·simp at h
   ·(refine WV_skip ?_; simp only [go_sem])
    exact WV_sub (Sub_of (by simp only [go_sem]; exact EnvLe_au) (by simp only [go_sem]; exact ObjLe_au)) htail
end Go.Proofs.YtefoconkepmmgaaGreatDoor

namespace Go.Proofs.YtefoconkepmmgaaGreatDoor
open Go Go.V
namespace W
abbrev o115_0:List Ins:=[JS 1 (.box 5 (.t 0)),JS 2 (.alloc [J0,J0,Jz 0,Jz 0])]
abbrev o115_1:List Ins:=[JF 4 (JL 5 1),JF 5 (Jf 4 1),JF 6 (Jl 5),JF 8 (Jf 0 1),JF 9 (Jl 8),JF 10 (Jn 9),JF 11 (.bin .mul (.k (Jz 2)) (.t 10)),JF 12 (.mks 4 1 1 [(.c (.bool false))] (.t 11) (.t 11)),JF 13 (Jf 1 1),JF 14 (Jl 13),JF 15 (Jf 2 1),JF 16 (Jl 15),JF 17 (.bld [Jz 0,Jz 0,Jz 0] [(0,1,(.t 14)),(1,1,(.t 16)),(2,1,(.k (Jz (-1))))]),JS 7 (.calln (.k (.fn 52 [])) [.t 6]),JS 18 (.bld [J0,Jz 0,Jz 0,Jz 0,J0,J0,J0,Jz 0,Jz 0,Jz 0,Jz 0,J0,J0,Jz 0,Jz 0] [(0,5,(.t 4)),(5,1,(.t 7)),(6,1,(.t 12)),(8,3,(.t 17))]),JS 19 (.box 15 (.t 18)),JS 3 (Jm 19)]
abbrev o115_2:List Ins:=[JS 20 (Jm 3),JS 21 (.nilc (.t 20)),JS 22 (Jf 5 21),JS 23 (Jl 22),JS 24 (Jc 143 [.t 23,(.k (.fn 144 []))])]
abbrev o115_3:List Ins:=[JS 25 (Jm 3),JS 26 (Jc 145 [.t 25,(.k (Jz (-1)))])]
abbrev o115_4:List Ins:=[JS 27 (Jm 3),JS 28 (Jc 146 [.t 27])]
abbrev v115_5:VC:=(.cond (.t 28) .skip (.exit 0))
abbrev v115_6:VC:=(.block 1 .skip)
abbrev v115_7:VC:=(.seq (.seq (.ops o115_4) v115_5) v115_6)
-- K115_1: changed and kept: []
abbrev K115_1:List Nat:=[2,3]
abbrev v115_8:VC:=(.loop v115_7)
abbrev o115_9:List Ins:=[JS 29 (Jm 3),JS 30 (.nilc (.t 29)),JS 31 (Jf 11 30),JS 32 (JL 4 31),JN (Js 4 2 32)]
abbrev v115_10:VC:=(.seq (.ops o115_9) .ret)
abbrev v115_11:VC:=(.seq (.block 0 v115_8) v115_10)
abbrev v115_12:VC:=(.seq (.ops o115_3) v115_11)
abbrev v115_13:VC:=(.seq (.ops o115_2) v115_12)
abbrev v115_14:VC:=(.seq (.dops o115_1) v115_13)
def ir115:FC:=⟨1,33,[.cell 2 false 4],(.seq (.ops o115_0) v115_14)⟩
theorem c115:compM Tryz.prog [300007] 115 = some ir115:=by kernel_rfl
end W
abbrev o115_0:List Ins:=[JS 1 (.box 5 (.t 0)),JS 2 (.alloc [J0,J0,Jz 0,Jz 0])]
abbrev o115_1:List Ins:=[JF 4 (JL 5 1),JF 5 (Jf 4 1),JF 6 (Jl 5),JF 8 (Jf 0 1),JF 9 (Jl 8),JF 10 (Jn 9),JF 11 (.bin .mul (.k (Jz 2)) (.t 10)),JF 12 (.mks 4 1 1 [(.c (.bool false))] (.t 11) (.t 11)),JF 7 (Jc 52 [.t 6]),JF 13 (Jf 1 1),JF 14 (Jl 13),JF 15 (Jf 2 1),JF 16 (Jl 15),JF 17 (.bld [Jz 0,Jz 0,Jz 0] [(0,1,(.t 14)),(1,1,(.t 16)),(2,1,(.k (Jz (-1))))]),JS 18 (.bld [J0,Jz 0,Jz 0,Jz 0,J0,J0,J0,Jz 0,Jz 0,Jz 0,Jz 0,J0,J0,Jz 0,Jz 0] [(0,5,(.t 4)),(5,1,(.t 7)),(6,1,(.t 12)),(8,3,(.t 17))]),JS 19 (.box 15 (.t 18)),JS 3 (Jm 19)]
abbrev o115_2:List Ins:=[JS 20 (Jm 3),JS 21 (.nilc (.t 20)),JS 22 (Jf 5 21),JS 23 (Jl 22),JS 24 (Jc 143 [.t 23,(.k (.fn 144 []))])]
abbrev o115_3:List Ins:=[JS 25 (Jm 3),JS 26 (Jc 145 [.t 25,(.k (Jz (-1)))])]
abbrev o115_4:List Ins:=[JS 27 (Jm 3),JS 28 (Jc 146 [.t 27])]
abbrev v115_5:VC:=(.cond (.t 28) .skip (.exit 0))
abbrev v115_6:VC:=(.block 1 .skip)
abbrev v115_7:VC:=(.seq (.seq (.ops o115_4) v115_5) v115_6)
-- K115_1: changed and kept: []
abbrev K115_1:List Nat:=[2,3]
abbrev v115_8:VC:=(.loop v115_7)
abbrev o115_9:List Ins:=[JS 29 (Jm 3),JS 30 (.nilc (.t 29)),JS 31 (Jf 11 30),JS 32 (JL 4 31),JN (Js 4 2 32)]
abbrev v115_10:VC:=(.seq (.ops o115_9) .ret)
abbrev v115_11:VC:=(.seq (.block 0 v115_8) v115_10)
abbrev v115_12:VC:=(.seq (.ops o115_3) v115_11)
abbrev v115_13:VC:=(.seq (.ops o115_2) v115_12)
abbrev v115_14:VC:=(.seq (.dops o115_1) v115_13)
def ir115:FC:=⟨1,33,[.cell 2 false 4],(.seq (.ops o115_0) v115_14)⟩
theorem c115:compM Tryz.prog [] 115 = some ir115:=by kernel_rfl
attribute [local go_sem] Nat.reduceEqDiff Nat.reduceAdd Nat.reduceMul reduceIte Nat.reduceLeDiff Nat.reduceLT Nat.reduceBEq reduceCtorEq
def spsC (l:List Sp):CD:=.sl 4 (l.map Sp.cds)
def Cs.run (s:Cs):AV:=.agg [.c (spsC s.spells),.c (prsC s.plays),iv s.steps,iv s.end_]
def carD (t:Tray) (s:Cs):List AV:=[.c (recsC t.recs),iv t.at_,iv t.way,iv t.step,.c (prsC t.pres),.c (prsC s.q),.vw 1 12 0 (2 * t.n) (2 * t.n),iv s.now,iv s.at_,iv (wayI s.up),iv s.side,.gr 81,.gr 82,iv s.steps,iv s.end_]
def zero4:List AV:=[.c (.raw (.slice none 0 0)),.c (.raw (.slice none 0 0)),.c (.int .i64 0),.c (.int .i64 0)]
set_option maxRecDepth 20000 in
set_option maxHeartbeats 16000000 in
theorem tail54 {C:Ctx} (hP:C.P = Tryz.prog) {t:Tray} (ht:TrayOk t) {q:List Pr} (hq:q.Perm t.pres) (hqs:q.Pairwise fun a b => a.time ≤ b.time) :
  WV C v115_12 (RetQ [.cell 2 false 4] (goesWith t q).run) ⟨upd (upd e0 2 (.bp 2 0)) 3 (.bp 19 0),upd (upd (upd (upd (upd o0 2 (.box zero4)) 12 (.box (cellsG bcd (start t q).pins 0))) 19 (.box (carD t (start t q)))) 81 (.grow 194 4 [])) 82 (.grow 148 2 [])⟩:=by
 have hm0:=mark71 t (start t q) (-1) (by simp [start])
 have hs0:=start_okQ ht hq hqs
 have hql:q.length ≤ 13:=by rw [hq.length_eq]; exact ht.p13
 have hmu:=start_mu ht hql
 have hgw:goesWith t q = iter t 250 ((start t q).mark (-1)):=rfl
 have b1:((start t q).mark (-1)).spells.length = 1:=rfl
 have b2:((start t q).mark (-1)).plays.length = 0:=rfl
 have b3:((start t q).mark (-1)).now = 0:=rfl
 have b4:((start t q).mark (-1)).steps = 0:=rfl
 have b5:((start t q).mark (-1)).q.length ≤ 13:=hql
 have hsp:(start t q).spells = []:=rfl
 have hpl:(start t q).plays = []:=rfl
 rw [hgw]
 simp only [carD,zero4]
 (repeat ((first | refine Va ?_ | refine Vb ?_ | refine Vc ?_ | refine Vd ?_ | refine Ve ?_ | refine Vf ?_); (try simp only [go_sem,hP]); (repeat refine qJ ?_)))
 (refine AS_lend [19,12,81,82] (hm0) rfl rfl rfl (by decide) rfl (by simp only [go_sem,obsLend,Ob.lend,AV.lend,AV.lendL,carO,carC,hsp,hpl,List.map_nil]) ?_)
 rintro r l' ⟨rfl,rfl⟩
 generalize (start t q).mark (-1) = s0 at *
 (refine ⟨_,_,rfl,(by simp only [carO,carC,obsBack,Ob.back,AV.back,AV.backL,back_cellsG,]; rfl),?_⟩; simp only [go_sem,hP,ownBack])
 (repeat ((first | refine Va ?_ | refine Vb ?_ | refine Vc ?_ | refine Vd ?_ | refine Ve ?_ | refine Vf ?_); (try simp only [go_sem,hP]); (repeat refine qJ ?_)))
 refine WV_loopK K115_1 [12,19,81,82] (fun p:Nat × Cs => CsOk t p.2 ∧ iter t 250 s0 = iter t (250 - p.1) p.2 ∧ mu t p.2 + p.1 ≤ 200 ∧ p.2.now ≤ 10000 + 1059 * (p.1:Int) ∧ p.2.spells.length ≤ 1 + 3 * p.1 ∧ p.2.plays.length ≤ p.1 ∧ (0 ≤ p.2.steps ∧ p.2.steps ≤ (p.1:Int)) ∧ p.2.q.length ≤ 13) (fun p => mu t p.2) (fun _ => [])
  (fun p => [(12,.box (cellsG bcd p.2.pins 0)),(19,.box (carD t p.2)),(81,.grow 194 4 (p.2.spells.map Sp.cds)),(82,.grow 148 2 (p.2.plays.map Pr.cds))]) (0,s0) ⟨hs0,rfl,by simpa using hmu,by rw [b3]; simp,by rw [b1]; simp,by rw [b2]; simp,by rw [b4]; simp,b5⟩ ?_ ?_
 ·simp only [carD]
  exact Sub_au
 ·rintro ⟨k,s⟩ ⟨i1,i2,i3,i4,i5,i6,i7,i8⟩
  simp only at i1 i2 i3 i4 i5 i6 i7 i8
  have hact:=act72 ht i1 (by omega) (by omega) (by omega) (by omega) (by omega)
  simp only [go_sem,carD]
  (repeat ((first | refine Va ?_ | refine Vb ?_ | refine Vc ?_ | refine Vd ?_ | refine Ve ?_ | refine Vf ?_); (try simp only [go_sem,hP]); (repeat refine qJ ?_)))
  (refine AS_lend [19,12,81,82] (hact) rfl rfl rfl (by decide) rfl (by simp only [go_sem,obsLend,Ob.lend,AV.lend,AV.lendL,carO,carC]) ?_)
  rintro r l' (⟨ha,rfl,rfl⟩ | ⟨s',ha,rfl,rfl⟩)
  ·have hend:iter t (250 - k) s = s.press:=by
    obtain ⟨m,hm⟩ : ∃ m,250 - k = m + 1:=⟨249 - k,by omega⟩
    rw [hm]; simp only [iter,ha]
   rw [hend] at i2
   rw [i2]
   generalize s.press = s2 at *
   (refine ⟨_,_,rfl,(by simp only [carO,carC,obsBack,Ob.back,AV.back,AV.backL,back_cellsG,]; rfl),?_⟩; simp only [go_sem,hP,ownBack])
   (repeat ((first | refine Va ?_ | refine Vb ?_ | refine Vc ?_ | refine Vd ?_ | refine Ve ?_ | refine Vf ?_); (try simp only [go_sem,hP]); (repeat refine qJ ?_)))
   (refine WV_cond rfl (fun h => ?_) (fun h => ?_))
   ·simp at h
   ·(refine WV_exit ?_; simp only [go_sem])
    (repeat ((first | refine Va ?_ | refine Vb ?_ | refine Vc ?_ | refine Vd ?_ | refine Ve ?_ | refine Vf ?_); (try simp only [go_sem,hP]); (repeat refine qJ ?_)))
    (refine WV_ret ?_; simp only [thenQ,inQ,RetQ,RetOk,resAll,resA]; simp only [go_sem,tupA,AV.port,AV.portL,exists_eq_left']; (first | exact AVle.of rfl | refine AVle.of ?_ | skip))
  ·have hend:iter t (250 - k) s = iter t (250 - (k + 1)) s':=by
    obtain ⟨m,hm⟩ : ∃ m,250 - k = m + 1:=⟨249 - k,by omega⟩
    rw [hm,show 250 - (k + 1) = m from by omega]; simp only [iter,ha]
   have hg:=act_grown ht i1 ha
   have hmu':=act_mu i1 ha
   have hok':=act_ok ht i1 ha
   (refine ⟨_,_,rfl,(by simp only [carO,carC,obsBack,Ob.back,AV.back,AV.backL,back_cellsG,]; rfl),?_⟩; simp only [go_sem,hP,ownBack])
   (repeat ((first | refine Va ?_ | refine Vb ?_ | refine Vc ?_ | refine Vd ?_ | refine Ve ?_ | refine Vf ?_); (try simp only [go_sem,hP]); (repeat refine qJ ?_)))
   (refine WV_cond rfl (fun h => ?_) (fun h => ?_))
   ·(repeat ((first | refine Va ?_ | refine Vb ?_ | refine Vc ?_ | refine Vd ?_ | refine Ve ?_ | refine Vf ?_); (try simp only [go_sem,hP]); (repeat refine qJ ?_)))
    refine ⟨(k + 1,s'),⟨hok',by rw [i2,hend],by simp only; omega,?_,?_,?_,?_,?_⟩,by simp only; omega,?_⟩
    ·rcases hg.now with h | h <;> (simp only; omega)
    ·have:=hg.spells; simp only; omega
    ·have:=hg.plays; simp only; omega
    ·have:=hg.steps; simp only; omega
    ·have:=hg.q; simp only; omega
    ·simp only [carD]
     exact Sub_au
   ·simp at h
theorem bools_zero (n:Nat):(List.replicate n [bv false]).flatten = cellsG bcd (List.replicate n false) 0:=by
 have:∀ n,(List.replicate n [bv false]).flatten = (flatG bcd (List.replicate n false)).map .c:=by
  intro n
  induction n with
  | zero => rfl
  | succ n ih =>
   simp only [List.replicate_succ,List.flatten_cons,ih,flatG_cons]
   rfl
 rw [this]
 simp [cellsG]
theorem ins87e:FSpec Tryz.prog 201 [.c (prsC []),iv 0,iv 0,.fn 144 []] (.tup []):=by
 have w0:IntKind.i64.wrap (0 + 1) = 1:=by decide
 refine FSpec_of c201 (Nat.le_refl _) (by decide) fun C hP hN hC hL => ?_; rw [init_st]
 simp only [ir201,prsC,List.map_nil]
 (repeat ((first | refine Va ?_ | refine Vb ?_ | refine Vc ?_ | refine Vd ?_ | refine Ve ?_ | refine Vf ?_); (try simp only [go_sem,hP,w0]); (repeat refine qJ ?_)))
 refine WV_loopK K201_1 [] (fun _:Unit => True) (fun _ => 0) (fun _ => [(8,iv 1)]) (fun _ => []) () trivial ?_ ?_
 ·exact Sub_au
 ·rintro - -
  simp only [go_sem]
  (repeat ((first | refine Va ?_ | refine Vb ?_ | refine Vc ?_ | refine Vd ?_ | refine Ve ?_ | refine Vf ?_); (try simp only [go_sem,hP]); (repeat refine qJ ?_)))
  (refine WV_cond rfl (fun h => ?_) (fun h => ?_))
  ·simp at h
  ·(refine WV_exit ?_; simp only [go_sem])
   exact ⟨trivial,_,rfl,AVle.of rfl⟩
theorem stable80e:FSpec Tryz.prog 176 [.c (prsC []),iv 0,.fn 144 []] (.tup []):=by
 refine FSpec_of c176 (Nat.le_refl _) (by decide) fun C hP hN hC hL => ?_; rw [init_st]
 simp only [ir176,prsC,List.map_nil]
 (repeat ((first | refine Va ?_ | refine Vb ?_ | refine Vc ?_ | refine Vd ?_ | refine Ve ?_ | refine Vf ?_); (try simp only [go_sem,hP]); (repeat refine qJ ?_)))
 refine WV_loopK K176_1 [] (fun _:Unit => True) (fun _ => 0) (fun _ => [(7,iv 0),(8,iv 20)]) (fun _ => []) () trivial ?_ ?_
 ·exact Sub_au
 ·rintro - -
  simp only [go_sem]
  (repeat ((first | refine Va ?_ | refine Vb ?_ | refine Vc ?_ | refine Vd ?_ | refine Ve ?_ | refine Vf ?_); (try simp only [go_sem,hP]); (repeat refine qJ ?_)))
  (refine WV_cond rfl (fun h => ?_) (fun h => ?_))
  ·simp at h
  ·(refine WV_exit ?_; simp only [go_sem])
   (repeat ((first | refine Va ?_ | refine Vb ?_ | refine Vc ?_ | refine Vd ?_ | refine Ve ?_ | refine Vf ?_); (try simp only [go_sem,hP]); (repeat refine qJ ?_)))
   (refine AS_pu (ins87e) ?_; simp only [go_sem,hP]; (repeat refine qJ ?_); (repeat ((first | refine Va ?_ | refine Vb ?_ | refine Vc ?_ | refine Vd ?_ | refine Ve ?_ | refine Vf ?_); (try simp only [go_sem,hP]); (repeat refine qJ ?_))))
   refine WV_loopK K176_2 [] (fun _:Unit => True) (fun _ => 0) (fun _ => [(6,iv 20)]) (fun _ => []) () trivial ?_ ?_
   ·exact Sub_au
   ·rintro - -
    simp only [go_sem]
    (repeat ((first | refine Va ?_ | refine Vb ?_ | refine Vc ?_ | refine Vd ?_ | refine Ve ?_ | refine Vf ?_); (try simp only [go_sem,hP]); (repeat refine qJ ?_)))
    (refine WV_cond rfl (fun h => ?_) (fun h => ?_))
    ·simp at h
    ·(refine WV_exit ?_; simp only [go_sem])
     exact ⟨trivial,_,rfl,AVle.of rfl⟩
theorem sort69e:FSpec Tryz.prog 143 [.c (prsC []),.fn 144 []] (.tup []):=by
 refine FSpec_of c143 (Nat.le_refl _) (by decide) fun C hP hN hC hL => ?_; rw [init_st]
 simp only [ir143,prsC,List.map_nil]
 (repeat ((first | refine Va ?_ | refine Vb ?_ | refine Vc ?_ | refine Vd ?_ | refine Ve ?_ | refine Vf ?_); (try simp only [go_sem,hP,List.length_nil,Int.natCast_zero]); (repeat refine qJ ?_)))
 (refine AS_pu (stable80e) ?_; simp only [go_sem,hP]; (repeat refine qJ ?_); (repeat ((first | refine Va ?_ | refine Vb ?_ | refine Vc ?_ | refine Vd ?_ | refine Ve ?_ | refine Vf ?_); (try simp only [go_sem,hP]); (repeat refine qJ ?_))))
 exact ⟨_,rfl,AVle.of rfl⟩
set_option maxRecDepth 20000 in
set_option maxHeartbeats 16000000 in
theorem goes54e {t:Tray} (ht:TrayOk t) (hp:t.pres = []):FSpec Tryz.prog 115 [t.av] (goesS t).run:=by
 have hn6:=ht.n6
 have hnl:t.recs.length = t.n:=rfl
 have hat:=ht.at_
 have hmax:maxLen = 9223372036854775807:=rfl
 have w1:=w64 (n:=2 * (t.n:Int)) (by omega) (by omega)
 have ew:(2 * (t.n:Int)).toNat = 2 * t.n:=by omega
 have hway:wayI (t.way == 1) = t.way:=by rcases ht.way with h | h <;> rw [h] <;> rfl
 have hg:goesS t = goesWith t []:=by unfold goesS; rw [hp]; rfl
 have hcl:=clone56 ([]:List Pr) (by simp)
 refine FSpec_of c115 (Nat.le_refl _) (by decide) fun C hP hN hC hL => ?_; rw [init_st]
 have htl:=tail54 hP ht (q:=[]) (by rw [hp]) List.Pairwise.nil
 rw [← hg] at htl
 simp only [ir115,Tray.av,hp]
 have hat2:(((t.at_.toNat:Nat):Int)) = t.at_:=by omega
 simp only [carD,zero4,start,hway,hp,hat2,List.map_nil] at htl
 (repeat ((first | refine Va ?_ | refine Vb ?_ | refine Vc ?_ | refine Vd ?_ | refine Ve ?_ | refine Vf ?_); (try simp only [go_sem,hP,recsC,List.length_map,hnl,w1,ew,bools_zero]); (repeat refine qJ ?_)))
 refine ACall_of hcl rfl rfl rfl rfl rfl ?_
 simp only [go_sem,hP]
 (repeat refine qJ ?_)
 refine WV_nilbox 19 11 81 194 4 (by decide) (by decide) (by decide) rfl rfl rfl ?_
 simp only [go_sem]
 refine WV_nilbox 19 12 82 148 2 (by decide) (by decide) (by decide) rfl rfl rfl ?_
 simp only [go_sem]
 (repeat ((first | refine Va ?_ | refine Vb ?_ | refine Vc ?_ | refine Vd ?_ | refine Ve ?_ | refine Vf ?_); (try simp only [go_sem,hP,prsC,List.map_nil]); (repeat refine qJ ?_)))
 refine AS_pure sort69e rfl rfl rfl rfl rfl ?_
 simp only [go_sem,hP]
 (repeat refine qJ ?_)
 exact WV_sub (Sub_of (by simp only [go_sem]; exact EnvLe_au) (by simp only [go_sem]; exact ObjLe_au)) htl
theorem prs_grp (l:List Pr):grp 2 l.length ((flatG Pr.cds l).take (l.length * 2)) = l.map Pr.cds:=grp_cellsG pr_two l
theorem prs_fit (l:List Pr):(l.length * 2 ≤ (flatG Pr.cds l).length) = True:=by rw [flatG_len pr_two]; simp
set_option maxRecDepth 20000 in
set_option maxHeartbeats 16000000 in
theorem goes54n {t:Tray} (ht:TrayOk t) (hp:t.pres ≠ []):FSpec Tryz.prog 115 [t.av] (goesS t).run:=by
 have hn6:=ht.n6
 have hnl:t.recs.length = t.n:=rfl
 have hat:=ht.at_
 have hmax:maxLen = 9223372036854775807:=rfl
 have w1:=w64 (n:=2 * (t.n:Int)) (by omega) (by omega)
 have ew:(2 * (t.n:Int)).toNat = 2 * t.n:=by omega
 have hway:wayI (t.way == 1) = t.way:=by rcases ht.way with h | h <;> rw [h] <;> rfl
 have hpl:0 < t.pres.length:=List.length_pos_iff.2 hp
 have h13:=ht.p13
 have hg:goesS t = goesWith t (sortT t.pres):=rfl
 refine FSpec_of W.c115 (Nat.le_refl _) (by decide) fun C hP hN hC hL => ?_
 have htl:=tail54 hP ht (q:=sortT t.pres) (sortT_perm t.pres) (sortT_sorted t.pres)
 rw [← hg] at htl
 simp only [W.ir115,Tray.av]
 have hat2:(((t.at_.toNat:Nat):Int)) = t.at_:=by omega
 simp only [carD,zero4,start,hway,hat2,List.map_nil] at htl
 (repeat ((first | refine Va ?_ | refine Vb ?_ | refine Vc ?_ | refine Vd ?_ | refine Ve ?_ | refine Vf ?_); (try simp only [go_sem,hP,recsC,List.length_map,hnl,w1,ew,bools_zero]); (repeat refine qJ ?_)))
 refine AM_new (cloneN56 t.pres (by omega) hp) (by decide) rfl rfl rfl rfl rfl ?_
 rintro res os ⟨cap,j,h1,h2,h3,rfl,rfl⟩
 refine ⟨_,.vw 2 7 0 t.pres.length cap,.box (cellsG Pr.cds t.pres j),rfl,rfl,by simp only [Ob.back,back_cellsG]; rfl,?_⟩
 simp only [go_sem,hP]
 (repeat refine qJ ?_)
 refine WV_nilbox 19 11 81 194 4 (by decide) (by decide) (by decide) rfl rfl rfl ?_
 simp only [go_sem]
 refine WV_nilbox 19 12 82 148 2 (by decide) (by decide) (by decide) rfl rfl rfl ?_
 simp only [go_sem]
 (repeat ((first | refine Va ?_ | refine Vb ?_ | refine Vc ?_ | refine Vd ?_ | refine Ve ?_ | refine Vf ?_); (try simp only [go_sem,hP]); (repeat refine qJ ?_)))
 refine AS_lend [7] (sort69 (jk:=j) hpl (by omega) rfl (fun p hp => (ht.pres p hp).2)) rfl rfl rfl (by decide) rfl (by simp only [go_sem,obsLend,Ob.lend,AV.lend,AV.lendL]) ?_
 rintro r l' ⟨rfl,l,hl,rfl⟩
 refine ⟨_,_,rfl,(by simp only [obsBack,Ob.back,back_cellsG]; rfl),?_⟩
 simp only [go_sem,hP,ownBack]
 have hso:arr t.pres l = sortT t.pres:=by rw [ordered_eq hl]; rfl
 rw [hso]
 have hSl:=sortT_len t.pres
 have hgr:=prs_grp (sortT t.pres)
 have hfl:=prs_fit (sortT t.pres)
 rw [hSl] at hgr hfl
 refine WV_freezeJ 7 (ds:=flatG Pr.cds (sortT t.pres)) (junk:=List.replicate j .non) rfl ?_
 simp only [go_sem,hfl,hgr]
 exact WV_sub (Sub_of (by simp only [go_sem]; exact EnvLe_au) (by simp only [go_sem]; exact ObjLe_au)) htl
theorem goes54 {t:Tray} (ht:TrayOk t):FSpec Tryz.prog 115 [t.av] (goesS t).run:=by
 by_cases hp:t.pres = []
 ·exact goes54e ht hp
 ·exact goes54n ht hp
end Go.Proofs.YtefoconkepmmgaaGreatDoor

/-
 What is true of a run: each press is served,the plays do not overlap: plain.
-/
namespace Go.Proofs.YtefoconkepmmgaaGreatDoor
open Go Go.V
def secsI (t:Tray) (s:Int):Int:=secs t s.toNat
def trues (l:List Bool):Nat:=l.countP id
structure Inv (t:Tray) (s:Cs):Prop where
 srv:∀ p ∈ t.pres,p ∈ s.q ∨ (p.time ≤ s.now ∧ (s.pins.getD p.side.toNat false = true ∨ ∃ x ∈ s.plays,x.side = p.side ∧ p.time ≤ x.time))
 ply:∀ x ∈ s.plays,0 ≤ x.side ∧ x.side < 2 * (t.n:Int) ∧ 0 ≤ x.time ∧ x.time + secsI t x.side ≤ s.now
 spc:s.plays.Pairwise fun a b => a.time + secsI t a.side ≤ b.time
 end_:s.end_ = match s.plays.getLast? with | none => 0 | some x => x.time + secsI t x.side
 cnt:s.plays.length + trues s.pins + s.q.length ≤ t.pres.length
end Go.Proofs.YtefoconkepmmgaaGreatDoor

namespace Go.Proofs.YtefoconkepmmgaaGreatDoor
open Go Go.V
attribute [local go_sem] Nat.reduceEqDiff Nat.reduceAdd Nat.reduceMul reduceIte Nat.reduceLeDiff Nat.reduceLT Nat.reduceBEq reduceCtorEq
def pressedE (t:Tray):Int:=if t.ok then (if t.pres.length = 0 then 3 else 0) else 20
theorem pressed_zero {t:Tray} (h:pressedE t = 0):t.ok = true ∧ t.pres.length ≠ 0:=by
 unfold pressedE at h
 cases hok:t.ok
 ·simp [hok] at h
 ·refine ⟨rfl,fun h0 => ?_⟩
  simp [hok,h0] at h
def endR (t:Tray):Int × Int:=if pressedE t = 0 then ((goesS t).end_,0) else (0,pressedE t)
end Go.Proofs.YtefoconkepmmgaaGreatDoor

/-
 One way up and down: no press waits longer than a whole round,and each play serves a press: plain.
-/
namespace Go.Proofs.YtefoconkepmmgaaGreatDoor
open Go Go.V
end Go.Proofs.YtefoconkepmmgaaGreatDoor

namespace Go.Proofs.YtefoconkepmmgaaGreatDoor
open Go Go.V
abbrev o114_0:List Ins:=[JS 1 (.box 5 (.t 0)),JS 2 (Ji 0)]
abbrev o114_1:List Ins:=[JS 4 (JL 5 1),JS 5 (Jc 49 [.t 4]),JS 3 (Jm 5)]
abbrev o114_2:List Ins:=[JS 6 (Jm 3),JS 7 (Jk .neq 6 0)]
abbrev o114_3:List Ins:=[JS 8 (Jm 3),JS 2 (Jm 8)]
abbrev v114_4:VC:=(.seq (.ops o114_3) .ret)
abbrev v114_5:VC:=(.cond (.t 7) v114_4 .skip)
abbrev v114_6:VC:=(.seq (.ops o114_2) v114_5)
abbrev o114_7:List Ins:=[JS 9 (Jf 4 1),JS 10 (Jl 9),JS 11 (Jn 10),JS 12 (Jk .eql 11 0)]
abbrev o114_8:List Ins:=[JS 2 (Ji 3)]
abbrev v114_9:VC:=(.seq (.ops o114_8) .ret)
abbrev v114_10:VC:=(.cond (.t 12) v114_9 .skip)
abbrev o114_11:List Ins:=[JS 2 (Ji 0)]
abbrev v114_12:VC:=(.seq (.ops o114_11) .ret)
abbrev v114_13:VC:=(.seq (.seq (.ops o114_7) v114_10) v114_12)
abbrev v114_14:VC:=(.seq (.seq (.ops o114_1) v114_6) v114_13)
def ir114:FC:=⟨1,13,[.t 2],(.seq (.ops o114_0) v114_14)⟩
abbrev o88_0:List Ins:=[JS 1 (.box 5 (.t 0)),JS 2 (Ji 0),JS 3 (Ji 0)]
abbrev o88_1:List Ins:=[JS 5 (JL 5 1),JS 6 (Jc 114 [.t 5]),JS 4 (Jm 6)]
abbrev o88_2:List Ins:=[JS 7 (Jm 4),JS 8 (Jk .neq 7 0)]
abbrev o88_3:List Ins:=[JS 9 (Jm 4),JS 2 (Ji 0),JS 3 (Jm 9)]
abbrev v88_4:VC:=(.seq (.ops o88_3) .ret)
abbrev v88_5:VC:=(.cond (.t 8) v88_4 .skip)
abbrev v88_6:VC:=(.seq (.ops o88_2) v88_5)
abbrev o88_7:List Ins:=[JS 10 (JL 5 1),JS 11 (Jc 115 [.t 10]),JS 12 (.fld true 1 3 (.t 11)),JS 2 (Jm 12),JS 3 (Ji 0)]
abbrev v88_8:VC:=(.seq (.ops o88_7) .ret)
abbrev v88_9:VC:=(.seq (.seq (.ops o88_1) v88_6) v88_8)
def ir88:FC:=⟨1,13,[.t 2,.t 3],(.seq (.ops o88_0) v88_9)⟩
theorem c114:compM Tryz.prog [] 114 = some ir114:=by kernel_rfl
theorem c88:compM Tryz.prog [] 88 = some ir88:=by kernel_rfl
attribute [local go_sem] Nat.reduceEqDiff Nat.reduceAdd Nat.reduceMul reduceIte Nat.reduceLeDiff Nat.reduceLT Nat.reduceBEq reduceCtorEq
theorem pressed62 (t:Tray):FSpec Tryz.prog 114 [t.av] (iv (pressedE t)):=by
 have hck:=check40 t
 unfold pressedE
 cases hok:t.ok
 ·simp only [hok,Bool.false_eq_true,if_false] at hck ⊢
  refine FSpec_of c114 (Nat.le_refl _) (by decide) fun C hP hN hC hL => ?_; rw [init_st]
  simp only [ir114,Tray.av]
  (repeat ((first | refine Va ?_ | refine Vb ?_ | refine Vc ?_ | refine Vd ?_ | refine Ve ?_ | refine Vf ?_); (try simp only [go_sem,hP]); (repeat refine qJ ?_)))
  (refine AS_pu (hck) ?_; simp only [go_sem,hP,Tray.av]; (repeat refine qJ ?_); (repeat ((first | refine Va ?_ | refine Vb ?_ | refine Vc ?_ | refine Vd ?_ | refine Ve ?_ | refine Vf ?_); (try simp only [go_sem,hP,Tray.av]); (repeat refine qJ ?_))))
  (refine WV_cond rfl (fun h => ?_) (fun h => ?_))
  ·(repeat ((first | refine Va ?_ | refine Vb ?_ | refine Vc ?_ | refine Vd ?_ | refine Ve ?_ | refine Vf ?_); (try simp only [go_sem,hP]); (repeat refine qJ ?_)))
   (refine WV_ret ?_; simp only [thenQ,inQ,RetQ,RetOk,resAll,resA]; simp only [go_sem,tupA,AV.port,AV.portL,exists_eq_left']; (first | exact AVle.of rfl | refine AVle.of ?_ | skip))
  ·simp at h
 ·simp only [hok,if_true] at hck ⊢
  refine FSpec_of c114 (Nat.le_refl _) (by decide) fun C hP hN hC hL => ?_; rw [init_st]
  simp only [ir114,Tray.av]
  (repeat ((first | refine Va ?_ | refine Vb ?_ | refine Vc ?_ | refine Vd ?_ | refine Ve ?_ | refine Vf ?_); (try simp only [go_sem,hP]); (repeat refine qJ ?_)))
  (refine AS_pu (hck) ?_; simp only [go_sem,hP,Tray.av]; (repeat refine qJ ?_); (repeat ((first | refine Va ?_ | refine Vb ?_ | refine Vc ?_ | refine Vd ?_ | refine Ve ?_ | refine Vf ?_); (try simp only [go_sem,hP,Tray.av]); (repeat refine qJ ?_))))
  (refine WV_cond rfl (fun h => ?_) (fun h => ?_))
  ·simp at h
  ·(repeat ((first | refine Va ?_ | refine Vb ?_ | refine Vc ?_ | refine Vd ?_ | refine Ve ?_ | refine Vf ?_); (try simp only [go_sem,hP,prsC,List.length_map]); (repeat refine qJ ?_)))
   (refine WV_cond rfl (fun h => ?_) (fun h => ?_))
   ·have h:t.pres.length = 0:=by simpa using h
    (repeat ((first | refine Va ?_ | refine Vb ?_ | refine Vc ?_ | refine Vd ?_ | refine Ve ?_ | refine Vf ?_); (try simp only [go_sem,hP]); (repeat refine qJ ?_)))
    (refine WV_ret ?_; simp only [thenQ,inQ,RetQ,RetOk,resAll,resA]; simp only [go_sem,tupA,AV.port,AV.portL,exists_eq_left']; (first | exact AVle.of rfl | refine AVle.of ?_ | skip))
    rw [if_pos h]
   ·have h:¬ t.pres.length = 0:=by simpa using h
    (repeat ((first | refine Va ?_ | refine Vb ?_ | refine Vc ?_ | refine Vd ?_ | refine Ve ?_ | refine Vf ?_); (try simp only [go_sem,hP]); (repeat refine qJ ?_)))
    (refine WV_ret ?_; simp only [thenQ,inQ,RetQ,RetOk,resAll,resA]; simp only [go_sem,tupA,AV.port,AV.portL,exists_eq_left']; (first | exact AVle.of rfl | refine AVle.of ?_ | skip))
    rw [if_neg h]
theorem end38 (t:Tray):FSpec Tryz.prog 88 [t.av] (.tup [iv (endR t).1,iv (endR t).2]):=by
 have hck:=pressed62 t
 unfold endR
 by_cases h0:pressedE t = 0
 ·rw [if_pos h0]
  rw [h0] at hck
  have hgo:=goes54 (Tray.ok_spec (pressed_zero h0).1).1
  refine FSpec_of c88 (Nat.le_refl _) (by decide) fun C hP hN hC hL => ?_; rw [init_st]
  simp only [ir88,Tray.av]
  (repeat ((first | refine Va ?_ | refine Vb ?_ | refine Vc ?_ | refine Vd ?_ | refine Ve ?_ | refine Vf ?_); (try simp only [go_sem,hP]); (repeat refine qJ ?_)))
  (refine AS_pu (hck) ?_; simp only [go_sem,hP,Tray.av]; (repeat refine qJ ?_); (repeat ((first | refine Va ?_ | refine Vb ?_ | refine Vc ?_ | refine Vd ?_ | refine Ve ?_ | refine Vf ?_); (try simp only [go_sem,hP,Tray.av]); (repeat refine qJ ?_))))
  (refine WV_cond rfl (fun h => ?_) (fun h => ?_))
  ·simp at h
  ·(repeat ((first | refine Va ?_ | refine Vb ?_ | refine Vc ?_ | refine Vd ?_ | refine Ve ?_ | refine Vf ?_); (try simp only [go_sem,hP]); (repeat refine qJ ?_)))
   (refine AS_pu (hgo) ?_; simp only [go_sem,hP,Tray.av,Cs.run]; (repeat refine qJ ?_); (repeat ((first | refine Va ?_ | refine Vb ?_ | refine Vc ?_ | refine Vd ?_ | refine Ve ?_ | refine Vf ?_); (try simp only [go_sem,hP,Tray.av,Cs.run]); (repeat refine qJ ?_))))
   (refine WV_ret ?_; simp only [thenQ,inQ,RetQ,RetOk,resAll,resA]; simp only [go_sem,tupA,AV.port,AV.portL,exists_eq_left']; (first | exact AVle.of rfl | refine AVle.of ?_ | skip))
 ·rw [if_neg h0]
  have hb:(pressedE t != 0) = true:=by simpa using h0
  refine FSpec_of c88 (Nat.le_refl _) (by decide) fun C hP hN hC hL => ?_; rw [init_st]
  simp only [ir88,Tray.av]
  (repeat ((first | refine Va ?_ | refine Vb ?_ | refine Vc ?_ | refine Vd ?_ | refine Ve ?_ | refine Vf ?_); (try simp only [go_sem,hP]); (repeat refine qJ ?_)))
  (refine AS_pu (hck) ?_; simp only [go_sem,hP,Tray.av,hb]; (repeat refine qJ ?_); (repeat ((first | refine Va ?_ | refine Vb ?_ | refine Vc ?_ | refine Vd ?_ | refine Ve ?_ | refine Vf ?_); (try simp only [go_sem,hP,Tray.av,hb]); (repeat refine qJ ?_))))
  (refine WV_cond rfl (fun h => ?_) (fun h => ?_))
  ·(repeat ((first | refine Va ?_ | refine Vb ?_ | refine Vc ?_ | refine Vd ?_ | refine Ve ?_ | refine Vf ?_); (try simp only [go_sem,hP]); (repeat refine qJ ?_)))
   (refine WV_ret ?_; simp only [thenQ,inQ,RetQ,RetOk,resAll,resA]; simp only [go_sem,tupA,AV.port,AV.portL,exists_eq_left']; (first | exact AVle.of rfl | refine AVle.of ?_ | skip))
  ·simp at h
end Go.Proofs.YtefoconkepmmgaaGreatDoor

namespace Go.Proofs.YtefoconkepmmgaaGreatDoor
open Go Go.V
variable {tb:Obj}
abbrev o47_0:List Ins:=[JS 0 (.alloc [J0,Jz 0,Jz 0,Jz 0,J0]),JS 1 (.alloc [J0,Jz 0,Jz 0,Jz 0,J0])]
abbrev o47_1:List Ins:=[JS 2 (.bld [Jz 0,Jz 0] [(0,1,(.k (Jz 100))),(1,1,(.k (Jz 90)))]),JS 3 (.bld [Jz 0,Jz 0] [(0,1,(.k (Jz 120))),(1,1,(.k (Jz 80)))]),JS 4 (.bld [Jz 0,Jz 0] [(0,1,(.k (Jz 60))),(1,1,(.k (Jz 70)))]),JS 5 (.bsl 84 2 [.t 2,.t 3,.t 4]),JS 6 (.bld [Jz 0,Jz 0] [(0,1,(.k (Jz 3)))]),JS 7 (.bld [Jz 0,Jz 0] [(0,1,(.k (Jz 4))),(1,1,(.k (Jz 10)))]),JS 8 (.bld [Jz 0,Jz 0] [(1,1,(.k (Jz 12)))]),JS 9 (.bld [Jz 0,Jz 0] [(0,1,(.k (Jz 3))),(1,1,(.k (Jz 50)))]),JS 10 (.bld [Jz 0,Jz 0] [(1,1,(.k (Jz 300)))]),JS 11 (.bsl 48 2 [.t 6,.t 7,.t 8,.t 9,.t 10]),JS 12 (.bld [J0,Jz 0,Jz 0,Jz 0,J0] [(0,1,(.t 5)),(2,1,(.k (Jz 1))),(3,1,(.k (Jz 5))),(4,1,(.t 11))]),JN (Js 5 0 12)]
abbrev o47_2:List Ins:=[JS 13 (.bld [Jz 0,Jz 0] [(0,1,(.k (Jz 10))),(1,1,(.k (Jz 20)))]),JS 14 (.bld [Jz 0,Jz 0] [(0,1,(.k (Jz 30))),(1,1,(.k (Jz 40)))]),JS 15 (.bsl 84 2 [.t 13,.t 14]),JS 16 (.bld [Jz 0,Jz 0] [(0,1,(.k (Jz 3)))]),JS 17 (.bsl 48 2 [.t 16]),JS 18 (.bld [J0,Jz 0,Jz 0,Jz 0,J0] [(0,1,(.t 15)),(2,1,(.k (Jz (-1)))),(3,1,(.k (Jz 60))),(4,1,(.t 17))]),JN (Js 5 1 18)]
abbrev t47_3:OT:=(.cons (JF 19 (JL 5 0)) (.br [(.cons (JF 20 (JL 5 1)) (.cons (JE (Js 5 0 19)) (.cons (JN (Js 5 1 20)) .nil))),(.cons (JE (Js 5 0 19)) (.cons (JF 20 (JL 5 1)) (.cons (JN (Js 5 1 20)) .nil)))]))
abbrev v47_4:VC:=(.seq (.drw t47_3) .ret)
abbrev v47_5:VC:=(.seq (.ops o47_2) v47_4)
abbrev v47_6:VC:=(.seq (.ops o47_1) v47_5)
def ir47:FC:=⟨0,21,[.cell 0 false 5,.cell 1 false 5],(.seq (.ops o47_0) v47_6)⟩
abbrev o24_0:List Ins:=[JS 0 (.alloc [Jz 0,J0,J0,J0,J0,J0,Jz 0,Jz 0,Jz 0,Jz 0,J0,Jz 0,Jz 0,Jz 0,J0])]
abbrev o24_1:List Ins:=[JS 5 (Jc 47 []),JS 4 (Jm 5),JS 6 (Je 4 0),JS 7 (Je 4 1),JS 1 (.alloc [J0,Jz 0,Jz 0,Jz 0,J0]),JS 2 (.alloc [J0,Jz 0,Jz 0,Jz 0,J0]),JN (Js 5 1 6),JN (Js 5 2 7)]
abbrev o24_2:List Ins:=[JS 8 (Jf 4 1),JN (.st 1 (.t 8) (.k J0))]
abbrev o24_3:List Ins:=[JS 9 (.bsl 3 1 [(.k (Jz 10)),(.k (Jz 20)),(.k (Jz 25))]),JS 10 (.bsl 3 1 [(.k (Jz 5)),(.k (Jz 10)),(.k (Jz 25))]),JS 11 (.bld [Jz 0,J0,J0] [(0,1,(.k (Jz 50))),(1,1,(.t 9)),(2,1,(.t 10))]),JS 3 (.alloc [Jz 0,J0,J0]),JN (Js 3 3 11)]
abbrev o24_4:List Ins:=[JS 12 (JL 3 3),JS 13 (.bsl 3 1 [(.k (Jz 0)),(.k (Jz 0)),(.k (Jz 0))]),JS 14 (.bsl 3 1 [(.k (Jz 0)),(.k (Jz 0)),(.k (Jz 0))]),JS 15 (.bsl 3 1 [(.k (Jz 0)),(.k (Jz 0)),(.k (Jz 0))]),JS 16 (.bld [Jz 0,J0,J0,J0,J0,J0,Jz 0,Jz 0] [(0,3,(.t 12)),(3,1,(.t 13)),(4,1,(.t 14)),(5,1,(.t 15))]),JS 17 (JL 5 1),JS 18 (.bld [Jz 0,J0,J0,J0,J0,J0,Jz 0,Jz 0,Jz 0,Jz 0,J0,Jz 0,Jz 0,Jz 0,J0] [(0,8,(.t 16)),(10,5,(.t 17))]),JN (Js 15 0 18)]
abbrev v24_5:VC:=(.seq (.ops o24_4) .ret)
abbrev v24_6:VC:=(.seq (.ops o24_3) v24_5)
abbrev v24_7:VC:=(.seq (.ops o24_2) v24_6)
abbrev v24_8:VC:=(.seq (.ops o24_1) v24_7)
def ir24:FC:=⟨0,19,[.cell 0 false 15],(.seq (.ops o24_0) v24_8)⟩
theorem c47:compM Tryz.prog [] 47 = some ir47:=by kernel_rfl
theorem c24:compM Tryz.prog [] 24 = some ir24:=by kernel_rfl
attribute [local go_sem] Nat.reduceEqDiff Nat.reduceAdd Nat.reduceMul reduceIte Nat.reduceLeDiff Nat.reduceLT Nat.reduceBEq reduceCtorEq
def endS:List UInt8:=[101,110,100]
def exT:Tray:=⟨[⟨100,90⟩,⟨120,80⟩,⟨60,70⟩],0,1,5,[⟨3,0⟩,⟨4,10⟩,⟨0,12⟩,⟨3,50⟩,⟨0,300⟩]⟩
def exU:Tray:=⟨[⟨10,20⟩,⟨30,40⟩],0,-1,60,[⟨3,0⟩]⟩
theorem example47:FSpec Tryz.prog 47 [] (.tup [exT.av,exU.av]):=by
 refine FSpec_of c47 (Nat.le_refl _) (by decide) fun C hP hN hC hL => ?_; rw [init_st]
 simp only [ir47]
 (repeat ((first | refine Va ?_ | refine Vb ?_ | refine Vc ?_ | refine Vd ?_ | refine Ve ?_ | refine Vf ?_); (try simp only [go_sem,hP]); (repeat refine qJ ?_)))
 refine WV_drw ?_
 simp only [go_sem,hP]
 (repeat' (refine And.intro ?_ ?_))
 all_goals (first | omega | skip)
 all_goals ((repeat ((first | refine Va ?_ | refine Vb ?_ | refine Vc ?_ | refine Vd ?_ | refine Ve ?_ | refine Vf ?_); (try simp only [go_sem,hP]); (repeat refine qJ ?_))))
 all_goals ((refine WV_ret ?_; simp only [thenQ,inQ,RetQ,RetOk,resAll,resA]; simp only [go_sem,tupA,AV.port,AV.portL,exists_eq_left']; (first | exact AVle.of rfl | refine AVle.of ?_ | skip)))
def exB:Bar:=⟨⟨⟨50,[10,20,25],[5,10,25]⟩,[0,0,0],[0,0,0],[0,0,0],0,0⟩,0,0,⟨[⟨100,90⟩,⟨120,80⟩,⟨60,70⟩],0,1,5,[]⟩⟩
theorem example24:FSpec Tryz.prog 24 [] exB.av:=by
 have h:=example47
 simp only [exT,exU,Tray.av,recsC,prsC,List.map_cons,List.map_nil,Rec.cds,Pr.cds] at h
 refine FSpec_of c24 (Nat.le_refl _) (by decide) fun C hP hN hC hL => ?_; rw [init_st]
 simp only [ir24]
 (repeat ((first | refine Va ?_ | refine Vb ?_ | refine Vc ?_ | refine Vd ?_ | refine Ve ?_ | refine Vf ?_); (try simp only [go_sem,hP]); (repeat refine qJ ?_)))
 (refine AS_pu (h) ?_; simp only [go_sem,hP]; (repeat refine qJ ?_); (repeat ((first | refine Va ?_ | refine Vb ?_ | refine Vc ?_ | refine Vd ?_ | refine Ve ?_ | refine Vf ?_); (try simp only [go_sem,hP]); (repeat refine qJ ?_))))
 (refine WV_ret ?_; simp only [thenQ,inQ,RetQ,RetOk,resAll,resA]; simp only [go_sem,tupA,AV.port,AV.portL,exists_eq_left'])
 refine AVle.agg ?_
 (repeat' (first | exact AVles.refl [] | exact AVle.refl _ | exact AVle.nil 2 | refine AVles.cons ?_ ?_))
def askS (w:List UInt8) (b:Bar) (_:List Int):List Int × Int:=if w == endS then ([(endR b.tray).1],(endR b.tray).2) else ([],0)
def giveS (w:List UInt8) (b:Bar) (ns:List Int):Option Bar:=if w == coinS then coinB b (ns.getD 0 0) else pressB b (ns.getD 0 0) (ns.getD 1 0)
def lineK:Bar → List UInt8 → List UInt8 × Bar:=lineS askS giveS
theorem barLn {b:Bar} (h:barB b = true):BarLn b:=by
 unfold barB at h
 simp only [Bool.and_eq_true] at h
 have h1:=bxB_ok h.1
 obtain ⟨h2,h3⟩:=Tray.ok_spec h.2.1
 have e1:=h1.wh.nl
 have e2:=h1.wh.cl
 have e3:=h1.fl
 have e4:=h1.ml
 have e5:=h1.sl
 have e6:=h2.n6
 unfold Tray.n at e6
 exact ⟨by omega,by omega,by omega,by omega,by omega,by omega,by omega⟩
theorem line_press {b:Bar} (hB:barB b = true) {s:List UInt8} {x y:Int} (hs:s.length ≤ 1000) (hp:parseS s = some (pressS,[x,y])):LineC tb b s (lineK b s) ∧ lineK b s = chgS b (pressB b x y):=by
 have e:lineK b s = chgS b (pressB b x y):=by
  unfold lineK lineS
  rw [hp]
  have hw:wLook pressS = some ⟨2,103,78,none⟩:=rfl
  have hg:giveS pressS b [x,y] = pressB b x y:=rfl
  simp only [hw,hg]
  rfl
 rw [e]
 exact ⟨linePress (barLn hB) hs hp,rfl⟩
theorem line_coin {b:Bar} (hB:barB b = true) (hne:b.box.fo ≠ []) {s:List UInt8} {x:Int} (hs:s.length ≤ 1000) (hp:parseS s = some (coinS,[x])):LineC tb b s (lineK b s) ∧ lineK b s = chgS b (coinB b x):=by
 have e:lineK b s = chgS b (coinB b x):=by
  unfold lineK lineS
  rw [hp]
  have hw:wLook coinS = some ⟨1,103,74,none⟩:=rfl
  have hg:giveS coinS b [x] = coinB b x:=rfl
  simp only [hw,hg]
  rfl
 rw [e]
 exact ⟨lineCoin (barLn hB) hB hne hs hp,rfl⟩
theorem line_end {b:Bar} (hB:barB b = true) {s:List UInt8} (hs:s.length ≤ 1000) (hp:parseS s = some (endS,[])) (hi:i64 (endR b.tray).1):LineC tb b s (lineK b s) ∧ lineK b s = (ansS [(endR b.tray).1] (endR b.tray).2,b):=by
 have hw:wLook endS = some ⟨0,99,113,some 1⟩:=rfl
 have e:lineK b s = (ansS [(endR b.tray).1] (endR b.tray).2,b):=by
  unfold lineK lineS
  rw [hp]
  have hg:askS endS b [] = ([(endR b.tray).1],(endR b.tray).2):=rfl
  simp only [hw,hg]
  rfl
 rw [e]
 exact ⟨lineAsk1 (barLn hB) hs hp (i:=1) (by omega) hw (by simp) (by simpa using hi) fun q => clos113 (f:=88) (end38 b.tray) (ints []),rfl⟩
end Go.Proofs.YtefoconkepmmgaaGreatDoor

namespace Go.Proofs.YtefoconkepmmgaaGreatDoor
open Go Go.V
variable {tb:Obj}
abbrev o7_0:List Ins:=[JS 0 (JB false)]
abbrev o7_1:List Ins:=[JS 5 (Jc 24 []),JS 6 (.bsl 9 1 [(.k (.c (.str [99,111,105,110,32,49]))),(.k (.c (.str [112,114,101,115,115,32,51,32,48]))),(.k (.c (.str [101,110,100])))]),JS 7 (Jc 10 [.t 5,.t 6]),JS 4 (Jm 7),JS 8 (Je 4 0),JS 9 (Je 4 1),JS 10 (Je 4 2),JS 2 (.alloc [Jz 0,J0,J0,J0,J0,J0,Jz 0,Jz 0,Jz 0,Jz 0,J0,Jz 0,Jz 0,Jz 0,J0]),JS 1 (Jm 8),JN (Js 15 2 9),JS 3 (Jm 10)]
abbrev o7_2:List Ins:=[JS 11 (Jm 3),JS 12 (Jk .eql 11 0),JS 13 (Jm 12),JG 14 (Jm 1) 13 true,JG 15 (Jn 14) 13 true,JG 16 (Jk .eql 15 3) 13 true,JS 17 (Jp 13 16),JS 18 (Jm 17),JG 19 (Jm 1) 18 true,JG 20 (.ia 1 (.t 19) (.k (Jz 0))) 18 true,JG 21 (Jl 20) 18 true,JG 22 (.prim (.sbin .eql) [.t 21,(.k (.c (.str [121,101,115])))]) 18 true,JS 23 (Jp 18 22),JS 24 (Jm 23),JG 25 (Jm 1) 24 true,JG 26 (.ia 1 (.t 25) (.k (Jz 1))) 24 true,JG 27 (Jl 26) 24 true,JG 28 (.prim (.sbin .eql) [.t 27,(.k (.c (.str [121,101,115])))]) 24 true,JS 29 (Jp 24 28),JS 30 (Jm 29),JG 31 (Jm 1) 30 true,JG 32 (.ia 1 (.t 31) (.k (Jz 2))) 30 true,JG 33 (Jl 32) 30 true,JG 34 (.prim (.sbin .eql) [.t 33,(.k (.c (.str [57,53])))]) 30 true,JS 35 (Jp 30 34),JS 0 (Jm 35)]
abbrev v7_3:VC:=(.seq (.ops o7_2) .ret)
abbrev v7_4:VC:=(.seq (.ops o7_1) v7_3)
def ir7:FC:=⟨0,36,[.t 0],(.seq (.ops o7_0) v7_4)⟩
theorem c7:compM Tryz.prog [] 7 = some ir7:=by kernel_rfl
attribute [local go_sem] Nat.reduceEqDiff Nat.reduceAdd Nat.reduceMul reduceIte Nat.reduceLeDiff Nat.reduceLT Nat.reduceBEq reduceCtorEq
def k1:List UInt8:=[99,111,105,110,32,49]
def k2:List UInt8:=[112,114,101,115,115,32,51,32,48]
def k3:List UInt8:=[101,110,100]
def exB1:Bar:={ exB with pl:=10,cr:=1,box:={ exB.box with pl:=1,fo:=[0,1,0] } }
def exB2:Bar:={ exB1 with pl:=0,cr:=0,tray:={ exB.tray with pres:=[⟨3,0⟩] } }
theorem pk1:parseS k1 = some (coinS,[1]):=by kernel_rfl
theorem pk2:parseS k2 = some (pressS,[3,0]):=by kernel_rfl
theorem pk3:parseS k3 = some (endS,[]):=by kernel_rfl
theorem ck1:chgS exB (coinB exB 1) = (yesS,exB1):=by kernel_rfl
theorem ck2:chgS exB1 (pressB exB1 3 0) = (yesS,exB2):=by kernel_rfl
theorem ck3:endR exB2.tray = (95,0):=by kernel_rfl
theorem dk3:ansS [95] 0 = [57,53]:=by
 have h:Lib.itoa 95 = [57,53]:=by
  rw [show (95:Int) = ((95:Nat):Int) from rfl,Lib.itoa_nonneg,Lib.decDigits_two (by decide) (by decide)]; rfl
 unfold ansS
 rw [if_neg (by decide),if_neg (by decide),List.map_cons,h]; rfl
theorem bk0:barB exB = true:=by kernel_rfl
theorem bk1:barB exB1 = true:=by kernel_rfl
theorem bk2:barB exB2 = true:=by kernel_rfl
theorem lk1:LineC tb exB k1 (lineK exB k1) ∧ lineK exB k1 = (yesS,exB1):=by
 have:=line_coin (tb:=tb) bk0 (by decide) (s:=k1) (by decide) pk1
 exact ⟨this.1,this.2.trans ck1⟩
theorem lk2:LineC tb exB1 k2 (lineK exB1 k2) ∧ lineK exB1 k2 = (yesS,exB2):=by
 have:=line_press (tb:=tb) bk1 (s:=k2) (by decide) pk2
 exact ⟨this.1,this.2.trans ck2⟩
theorem lk3:LineC tb exB2 k3 (lineK exB2 k3) ∧ lineK exB2 k3 = ([57,53],exB2):=by
 have:=line_end (tb:=tb) bk2 (s:=k3) (by decide) pk3 (by rw [ck3]; exact ⟨by decide,by decide⟩)
 rw [ck3,dk3] at this
 exact this
theorem kept7:FSpecL Tryz.prog 7 [] [(tabO tb)] [] (fun r l' => r = .c (.bool true) ∧ l' = [(tabO tb)]):=by
 have hr:=run10 (tb:=tb) (F:=lineK) (barLn bk0) bk0 (l:=[k1,k2,k3]) (by decide) (by
  intro k hk
  have:k = 0 ∨ k = 1 ∨ k = 2:=by simp at hk; omega
  have e1:(runL lineK exB [k1]).2 = exB1:=by show (lineK exB k1).2 = exB1; rw [(lk1 (tb:=tb)).2]
  have e2:(runL lineK exB [k1,k2]).2 = exB2:=by show (lineK (lineK exB k1).2 k2).2 = exB2; rw [(lk1 (tb:=tb)).2,(lk2 (tb:=tb)).2]
  rcases this with rfl | rfl | rfl
  ·exact lk1.1
  ·show LineC tb (runL lineK exB [k1]).2 k2 (lineK (runL lineK exB [k1]).2 k2)
   rw [e1]; exact lk2.1
  ·show LineC tb (runL lineK exB [k1,k2]).2 k3 (lineK (runL lineK exB [k1,k2]).2 k3)
   rw [e2]; exact lk3.1)
 have e3:runL lineK exB [k1,k2,k3] = ([yesS,yesS,[57,53]],exB2):=by
  show ([(lineK exB k1).1] ++ [(lineK (lineK exB k1).2 k2).1] ++ [(lineK (lineK (lineK exB k1).2 k2).2 k3).1],(lineK (lineK (lineK exB k1).2 k2).2 k3).2) = _
  rw [(lk1 (tb:=tb)).2,(lk2 (tb:=tb)).2,(lk3 (tb:=tb)).2]
  rfl
 rw [e3] at hr
 have hex:=example24
 simp only [Bar.av,Bar.avs] at hex hr
 simp only [strsC,List.map_cons,List.map_nil,k1,k2,k3,yesS] at hr
 generalize exB2 = b2 at hr
 generalize exB = b0 at hr hex
 refine FSpecL_of c7 (by first | simp | exact Nat.le_of_ble_eq_true rfl) (Nat.le_refl _) (by decide) (by decide) fun C hP hN hC hL => ?_; rw [init_env',ownW_upd (by first | simp | exact Nat.le_of_ble_eq_true rfl)]; simp only [ir7,updL,updLo,List.map_nil,List.map_cons,Nat.reduceAdd,]
 (repeat ((first | refine Va ?_ | refine Vb ?_ | refine Vc ?_ | refine Vd ?_ | refine Ve ?_ | refine Vf ?_); (try simp only [go_sem,hP]); (repeat refine qJ ?_)))
 (refine AS_pu (hex) ?_; simp only [go_sem,hP]; (repeat refine qJ ?_); (repeat ((first | refine Va ?_ | refine Vb ?_ | refine Vc ?_ | refine Vd ?_ | refine Ve ?_ | refine Vf ?_); (try simp only [go_sem,hP]); (repeat refine qJ ?_))))
 refine AS_lend [1000] hr rfl rfl rfl (by decide) rfl rfl ?_
 rintro r l' ⟨rfl,rfl⟩
 refine ⟨_,_,rfl,rfl,?_⟩
 simp only [go_sem,hP,ownBack]
 (repeat refine qJ ?_)
 have q0:([[CD.str [121,101,115]],[CD.str [121,101,115]],[CD.str [57,53]]].getD (Int.toNat 0) []).getD 0 default = CD.str [121,101,115]:=rfl
 have q1:([[CD.str [121,101,115]],[CD.str [121,101,115]],[CD.str [57,53]]].getD (Int.toNat 1) []).getD 0 default = CD.str [121,101,115]:=rfl
 have q2:([[CD.str [121,101,115]],[CD.str [121,101,115]],[CD.str [57,53]]].getD (Int.toNat 2) []).getD 0 default = CD.str [57,53]:=rfl
 (repeat ((first | refine Va ?_ | refine Vb ?_ | refine Vc ?_ | refine Vd ?_ | refine Ve ?_ | refine Vf ?_); (try simp only [go_sem,hP,q0,q1,q2]); (repeat refine qJ ?_)))
 (refine WV_ret ?_; simp only [thenQ,inQ,RetQL,RetOkL,resAll,resA]; simp only [go_sem,tupA,AV.keepP,AV.keepPL]; refine ⟨_,[(tabO tb)],rfl,KeepL_mk rfl rfl ?_ ?_ rfl,?_⟩)
 ·simp only [go_sem,keepAll,Ob.keepP,AV.keepP,AV.keepPL]
 ·trivial
 ·exact ⟨rfl,rfl⟩
end Go.Proofs.YtefoconkepmmgaaGreatDoor

namespace Go.Proofs.YtefoconkepmmgaaGreatDoor
open Go Go.V
variable {tb:Obj}
attribute [local go_sem] Nat.reduceEqDiff Nat.reduceAdd Nat.reduceMul reduceIte Nat.reduceLeDiff Nat.reduceLT Nat.reduceBEq reduceCtorEq
def pre1:List UInt8:=[112,114,101,115,115,32,48,32]
def pre2:List UInt8:=[99,111,105,110,32]
def actL (i:Nat) (a:Int):List UInt8:=if a < 0 then pre1 ++ textS i else pre2 ++ textS a
def scrK (acts:List Int) (k:Nat):List (List UInt8):=(List.range k).map fun i => actL i (acts.getD i 0)
theorem scr_take (acts:List Int) {k n:Nat} (h:k ≤ n):(scrK acts n).take k = scrK acts k:=by
 unfold scrK
 rw [← List.map_take,List.take_range,Nat.min_eq_left h]
theorem scr_get (acts:List Int) {k n:Nat} (h:k < n):(scrK acts n).getD k [] = actL k (acts.getD k 0):=by
 unfold scrK
 rw [List.getD_eq_getElem?_getD,List.getElem?_map,List.getElem?_range h]
 rfl
theorem scr_len (acts:List Int) (n:Nat):(scrK acts n).length = n:=by unfold scrK; simp
theorem scr_succ (acts:List Int) (k:Nat):scrK acts (k + 1) = scrK acts k ++ [actL k (acts.getD k 0)]:=by
 unfold scrK
 rw [List.range_succ,List.map_append]; rfl
theorem text_small {n:Nat} (h:n < 100):textS (n:Int) = if n < 10 then [UInt8.ofNat (48 + n)] else [UInt8.ofNat (48 + n / 10),UInt8.ofNat (48 + n % 10)]:=by
 unfold textS
 rw [if_neg (by omega),Int.toNat_natCast]
 split
 ·rw [Lib.decDigits_one (by assumption)]
 ·rw [Lib.decDigits_two (by assumption) h]
theorem parse_press {i:Nat} (h:i < 12):parseS (pre1 ++ textS i) = some (pressS,[0,(i:Int)]):=by
 rw [text_small (by omega)]
 have:i = 0 ∨ i = 1 ∨ i = 2 ∨ i = 3 ∨ i = 4 ∨ i = 5 ∨ i = 6 ∨ i = 7 ∨ i = 8 ∨ i = 9 ∨ i = 10 ∨ i = 11:=by omega
 rcases this with rfl | rfl | rfl | rfl | rfl | rfl | rfl | rfl | rfl | rfl | rfl | rfl <;> (show _ = _; kernel_rfl)
theorem parse_coin {a:Int} (h:0 ≤ a ∧ a < 4):parseS (pre2 ++ textS a) = some (coinS,[a]):=by
 have:a = 0 ∨ a = 1 ∨ a = 2 ∨ a = 3:=by omega
 rcases this with rfl | rfl | rfl | rfl
 ·rw [show (0:Int) = ((0:Nat):Int) from rfl,text_small (by omega)]; show _ = _; kernel_rfl
 ·rw [show (1:Int) = ((1:Nat):Int) from rfl,text_small (by omega)]; show _ = _; kernel_rfl
 ·rw [show (2:Int) = ((2:Nat):Int) from rfl,text_small (by omega)]; show _ = _; kernel_rfl
 ·rw [show (3:Int) = ((3:Nat):Int) from rfl,text_small (by omega)]; show _ = _; kernel_rfl
def doneK (acts:List Int) (ans:List (List UInt8)):Nat → List Int
 | 0 => []
 | k + 1 => doneK acts ans k ++ if ans.getD k [] == yesS then [acts.getD k 0] else []
def prsK (acts:List Int) (ans:List (List UInt8)):Nat → Int
 | 0 => 0
 | k + 1 => prsK acts ans k + if (ans.getD k [] == yesS) && decide (acts.getD k 0 < 0) then 1 else 0
def startB (b:Bar):Bar:={ emptyB b with tray:={ b.tray with pres:=[] } }
theorem run_of {w:Wh} {pl cr:Int} {acts:List Int} {s:Int × Int × Int} (h:runP w pl cr acts = (s,0)):runS w pl cr acts = s:=by
 unfold runP at h
 split at h
 ·exact congrArg Prod.fst h
 ·rename_i hx
  exact absurd (congrArg Prod.snd h) hx
theorem runS_snoc (w:Wh) (pl cr:Int) (l:List Int) (a:Int):runS w pl cr (l ++ [a]) = stepR w (runS w pl cr l) a:=by
 unfold runS
 rw [List.foldl_append]; rfl
theorem step_of {w:Wh} {pl cr md a:Int} {pl' cr' m':Int} (h:runS w pl cr [a] = (pl',cr',m')):stepR w (pl,cr,md) a = (pl',cr',md + m'):=by
 have h2:stepR w (pl,cr,0) a = (pl',cr',m'):=h
 unfold stepR at h2 ⊢
 simp only [Prod.mk.injEq] at h2 ⊢
 refine ⟨h2.1,h2.2.1,?_⟩
 rw [← h2.2.2]; omega
structure ActOk (w:Wh) (acts:List Int) (k:Nat) (st:List (List UInt8) × Bar):Prop where
 ok:barB st.2 = true
 wh:st.2.box.wh = w
 run:runS w 0 0 (doneK acts st.1 k) = (st.2.pl,st.2.cr,prsK acts st.1 k)
 prs:(st.2.tray.pres.length:Int) = prsK acts st.1 k
 pls:st.2.box.pl = prsK acts st.1 k + st.2.cr
 len:st.1.length = k
 ans:∀ i,i < k → st.1.getD i [] = yesS ∨ st.1.getD i [] = noS
 dn:∀ a ∈ doneK acts st.1 k,-1 ≤ a ∧ a < (w.co.length:Int)
 dl:(doneK acts st.1 k).length ≤ k
theorem doneK_app (acts:List Int) (l:List (List UInt8)) (x:List UInt8):∀ k,k ≤ l.length → doneK acts (l ++ [x]) k = doneK acts l k ∧ prsK acts (l ++ [x]) k = prsK acts l k
 | 0,_ => ⟨rfl,rfl⟩
 | k + 1,h => by
  have ih:=doneK_app acts l x k (by omega)
  have hg:(l ++ [x]).getD k [] = l.getD k []:=by rw [List.getD_eq_getElem?_getD,List.getElem?_append_left (by omega),List.getD_eq_getElem?_getD]
  simp only [doneK,prsK,ih.1,ih.2,hg,and_self]
theorem getD_last (l:List (List UInt8)) (x:List UInt8) {k:Nat} (h:l.length = k):(l ++ [x]).getD k [] = x:=by
 subst h
 rw [List.getD_eq_getElem?_getD,List.getElem?_append_right (Nat.le_refl _),Nat.sub_self]; rfl
theorem act_no {w:Wh} {acts:List Int} {k:Nat} {st:List (List UInt8) × Bar} (h:ActOk w acts k st):ActOk w acts (k + 1) (st.1 ++ [noS],st.2):=by
 obtain ⟨e1,e2⟩:=doneK_app acts st.1 noS k (by rw [h.len]; exact Nat.le_refl _)
 have hl:=getD_last st.1 noS h.len
 have hne:(noS == yesS) = false:=rfl
 have d1:doneK acts (st.1 ++ [noS]) (k + 1) = doneK acts st.1 k:=by simp only [doneK,e1,hl,hne]; simp
 have d2:prsK acts (st.1 ++ [noS]) (k + 1) = prsK acts st.1 k:=by simp only [prsK,e2,hl,hne]; simp
 refine ⟨h.ok,h.wh,by rw [d1,d2]; exact h.run,by rw [d2]; exact h.prs,by rw [d2]; exact h.pls,by simp [h.len],fun i hi => ?_,by rw [d1]; exact h.dn,by rw [d1]; have:=h.dl; omega⟩
 by_cases hik:i = k
 ·subst hik; right; exact hl
 ·have:=h.ans i (by omega)
  have hg:(st.1 ++ [noS]).getD i [] = st.1.getD i []:=by rw [List.getD_eq_getElem?_getD,List.getElem?_append_left (by rw [h.len]; omega),List.getD_eq_getElem?_getD]
  simp only
  rw [hg]; exact this
theorem act_yes {w:Wh} {acts:List Int} {k:Nat} {st:List (List UInt8) × Bar} (h:ActOk w acts k st) {b':Bar} (hB:barB b' = true) (hw:b'.box.wh = st.2.box.wh) {d:Int} (hd:d = if acts.getD k 0 < 0 then 1 else 0) (ha:-1 ≤ acts.getD k 0 ∧ acts.getD k 0 < (w.co.length:Int))
  (hr:runS w st.2.pl st.2.cr [acts.getD k 0] = (b'.pl,b'.cr,d)) (hp:(b'.tray.pres.length:Int) = st.2.tray.pres.length + d) (hpl:b'.box.pl = st.2.box.pl + d + (b'.cr - st.2.cr)):ActOk w acts (k + 1) (st.1 ++ [yesS],b'):=by
 obtain ⟨e1,e2⟩:=doneK_app acts st.1 yesS k (by rw [h.len]; exact Nat.le_refl _)
 have hl:=getD_last st.1 yesS h.len
 have hne:(yesS == yesS) = true:=rfl
 have d1:doneK acts (st.1 ++ [yesS]) (k + 1) = doneK acts st.1 k ++ [acts.getD k 0]:=by simp only [doneK,e1,hl,hne]; simp
 have d2:prsK acts (st.1 ++ [yesS]) (k + 1) = prsK acts st.1 k + d:=by
  simp only [prsK,e2,hl,hne,Bool.true_and,decide_eq_true_eq]; rw [hd]
 have h1:=h.prs
 have h2:=h.pls
 refine ⟨hB,hw.trans h.wh,?_,by rw [d2]; simp only; omega,by rw [d2]; simp only; omega,by simp [h.len],fun i hi => ?_,?_,by rw [d1]; have:=h.dl; simp only [List.length_append,List.length_cons,List.length_nil]; omega⟩
 ·rw [d1,d2,runS_snoc,h.run]
  exact step_of hr
 ·by_cases hik:i = k
  ·subst hik; left; exact hl
  ·have:=h.ans i (by omega)
   have hg:(st.1 ++ [yesS]).getD i [] = st.1.getD i []:=by rw [List.getD_eq_getElem?_getD,List.getElem?_append_left (by rw [h.len]; omega),List.getD_eq_getElem?_getD]
   simp only
   rw [hg]; exact this
 ·rw [d1]
  intro a hm
  rcases List.mem_append.1 hm with hm | hm
  ·exact h.dn a hm
  ·rw [List.mem_singleton.1 hm]; exact ha
theorem runS_one (w:Wh) (pl cr a:Int):runS w pl cr [a] = ((actP w pl cr a).1,(actP w pl cr a).2,if a = -1 ∧ 0 < cr then 1 else 0):=by
 show stepR w (pl,cr,0) a = _
 unfold stepR
 simp only [Int.zero_add]
theorem act_step {w:Wh} {acts:List Int} {k:Nat} {st:List (List UInt8) × Bar} (hk:k < 12) (hw4:w.co.length ≤ 4) (ha:-1 ≤ acts.getD k 0 ∧ acts.getD k 0 < (w.co.length:Int)) (h:ActOk w acts k st) :
  LineC tb st.2 (actL k (acts.getD k 0)) (lineK st.2 (actL k (acts.getD k 0))) ∧ ActOk w acts (k + 1) (st.1 ++ [(lineK st.2 (actL k (acts.getD k 0))).1],(lineK st.2 (actL k (acts.getD k 0))).2):=by
 have hB:=h.ok
 have hwh:=h.wh
 obtain ⟨a,ha'⟩ : ∃ a,acts.getD k 0 = a:=⟨_,rfl⟩
 by_cases hneg:a < 0
 ·have ham:a = -1:=by rw [ha'] at ha; omega
  have hpp:=parse_press hk
  have hline:actL k a = pre1 ++ textS k:=by unfold actL; rw [if_pos hneg]
  have hlen:(pre1 ++ textS (k:Int)).length ≤ 1000:=by
   have:=textS_len (n:=(k:Int)) (by omega) (by omega)
   rw [List.length_append]
   have:pre1.length = 8:=rfl
   omega
  rw [ha',hline]
  obtain ⟨l1,l2⟩:=line_press (tb:=tb) hB hlen hpp
  refine ⟨l1,?_⟩
  rw [l2]
  cases hq:pressB st.2 0 (k:Int) with
  | none => exact act_no h
  | some b' =>
   cases hbb:barB b' with
   | false => simp only [chgS,hbb]; exact act_no h
   | true =>
    simp only [chgS,hbb,if_true]
    unfold pressB at hq
    split at hq
    ·rename_i hc
     obtain ⟨_,hc2,hc3⟩:=hc
     generalize hR:runP st.2.box.wh st.2.pl st.2.cr [-1] = R at hq hc2 hc3
     obtain ⟨⟨pl',cr',md⟩,e⟩:=R
     simp only at hc2 hc3
     subst hc2
     have hS:=run_of hR
     have h1:=runS_one st.2.box.wh st.2.pl st.2.cr (-1)
     rw [hS] at h1
     simp only [Prod.mk.injEq,true_and] at h1
     obtain ⟨h1a,h1b,h1c⟩:=h1
     have hcr:0 < st.2.cr:=by
      by_cases hx:0 < st.2.cr
      ·exact hx
      ·rw [if_neg hx] at h1c; exact absurd h1c hc3
     rw [if_pos hcr] at h1c
     have hact:actP st.2.box.wh st.2.pl st.2.cr (-1) = (0,st.2.cr - 1):=by unfold actP; rw [if_pos rfl,if_pos hcr]
     rw [hact] at h1b
     simp only at h1b
     simp only [Option.some.injEq] at hq
     subst hq
     refine act_yes h hbb rfl (d:=1) (by rw [ha',if_pos hneg]) ha ?_ (by simp) (by simp only; omega)
     rw [ha',ham,← hwh,hS,h1c]
    ·cases hq
 ·have hpp:=parse_coin (a:=a) (by rw [ha'] at ha; omega)
  have hline:actL k a = pre2 ++ textS a:=by unfold actL; rw [if_neg hneg]
  have hlen:(pre2 ++ textS a).length ≤ 1000:=by
   have:=textS_len (n:=a) (by omega) (by rw [ha'] at ha; omega)
   rw [List.length_append]
   have:pre2.length = 5:=rfl
   omega
  have hne:st.2.box.fo ≠ []:=by
   unfold barB at hB
   simp only [Bool.and_eq_true] at hB
   have:=(bxB_ok hB.1).fl
   intro h0
   rw [h0,hwh] at this
   rw [ha'] at ha
   simp at this; omega
  rw [ha',hline]
  obtain ⟨l1,l2⟩:=line_coin (tb:=tb) hB hne hlen hpp
  refine ⟨l1,?_⟩
  rw [l2]
  cases hq:coinB st.2 a with
  | none => exact act_no h
  | some b' =>
   cases hbb:barB b' with
   | false => simp only [chgS,hbb]; exact act_no h
   | true =>
    simp only [chgS,hbb,if_true]
    unfold coinB at hq
    split at hq
    ·rename_i hc
     obtain ⟨hc0,hc1,hc2⟩:=hc
     generalize hR:runP st.2.box.wh st.2.pl st.2.cr [a] = R at hq hc2
     obtain ⟨⟨pl',cr',md⟩,e⟩:=R
     simp only at hc2
     subst hc2
     have hS:=run_of hR
     have h1:=runS_one st.2.box.wh st.2.pl st.2.cr a
     rw [hS] at h1
     simp only [Prod.mk.injEq] at h1
     obtain ⟨h1a,h1b,h1c⟩:=h1
     rw [if_neg (by omega)] at h1c
     simp only [Option.some.injEq] at hq
     subst hq
     refine act_yes h hbb rfl (d:=0) (by rw [ha',if_neg hneg]) ha ?_ (by simp) (by simp only; omega)
     rw [ha',← hwh,hS,h1c]
    ·cases hq
theorem start_ok {b:Bar} (hb:barB b = true):barB (startB b) = true:=by
 unfold barB at hb ⊢
 simp only [Bool.and_eq_true,decide_eq_true_eq] at hb ⊢
 obtain ⟨h1,h2,h3,h4,h5,h6⟩:=hb
 have hok:=bxB_ok h1
 have hro:=hok.wh.ro
 refine ⟨?_,?_,Int.le_refl 0,?_,Int.le_refl 0,(by decide:(0:Int) ≤ 20)⟩
 ·have hz:lstB b.box.wh (List.replicate b.box.wh.co.length 0) = true:=by
   unfold lstB
   rw [List.length_replicate,beq_self_eq_true,Bool.not_true,Bool.false_or,Bool.not_eq_true',List.any_eq_false]
   intro n hn
   rw [List.eq_of_mem_replicate hn]
   decide
  have hg:∀ k,(List.replicate b.box.wh.co.length (0:Int)).getD k 0 = 0:=fun k => by
   rw [List.getD_eq_getElem?_getD,List.getElem?_replicate]
   split <;> rfl
  have hm:∀ k,mkK (List.replicate b.box.wh.co.length 0) (List.replicate b.box.wh.co.length 0) k = true:=by
   intro k
   induction k with
   | zero => rfl
   | succ k ih => simp only [mkK,ih,hg]; rfl
  have hs:∀ k,sumK (List.replicate b.box.wh.co.length 0) (List.replicate b.box.wh.co.length 0) k = 0:=by
   intro k
   induction k with
   | zero => rfl
   | succ k ih => simp only [sumK,ih,hg]; rfl
  have h0:within 0 0 9999 = true:=rfl
  show bxB ⟨b.box.wh,_,_,_,0,b.box.sk⟩ = true
  unfold bxB at h1 ⊢
  simp only [Bool.and_eq_true] at h1
  simp only [hz,hm,hs,h0,h1.1.1.1.1.1.1.1,h1.1.1.1.1.1.2]
  rfl
 ·show Tray.ok { b.tray with pres:=[] } = true
  unfold Tray.ok at h2 ⊢
  simp only [Bool.and_eq_true] at h2
  have e1:Tray.okHead { b.tray with pres:=[] } = true:=h2.1.1.1
  rw [e1]
  simp only [h2.1.1.2]
  rfl
 ·show (0:Int) < b.box.wh.ro
  omega
theorem acts_run {b:Bar} (hb:barB b = true) {acts:List Int} (hl:acts.length ≤ 12) (ha:∀ k,k < acts.length → -1 ≤ acts.getD k 0 ∧ acts.getD k 0 < (b.box.wh.co.length:Int)):∀ k,k ≤ acts.length → ActOk b.box.wh acts k (runL lineK (startB b) (scrK acts k))
 | 0,_ => ⟨start_ok hb,rfl,rfl,rfl,rfl,rfl,fun i hi => by omega,fun a h => (by cases h),Nat.le_refl _⟩
 | k + 1,hk => by
  have ih:=acts_run hb hl ha k (by omega)
  have hw4:b.box.wh.co.length ≤ 4:=by
   unfold barB at hb
   simp only [Bool.and_eq_true] at hb
   exact (bxB_ok hb.1).wh.cl
  have hs:=(act_step (tb:=.pending #[] 0) (by omega) hw4 (ha k (by omega)) ih).2
  rw [scr_succ]
  unfold runL at hs ⊢
  rw [List.foldl_append]
  exact hs
end Go.Proofs.YtefoconkepmmgaaGreatDoor

namespace Go.Proofs.YtefoconkepmmgaaGreatDoor
open Go Go.V
variable {tb:Obj}
abbrev o3_0:List Ins:=[JS 2 (.box 15 (.t 0)),JS 4 (JB false)]
abbrev o3_1:List Ins:=[JS 16 (Jm 1),JS 17 (Jn 16),JS 18 (Jk .gtr 17 12),JS 19 (Jm 18),JG 20 (JL 15 2) 19 false,JG 21 (Jc 5 [.t 20,(.k J0)]) 19 false,JS 22 (Jo 19 21),JS 23 (Jm 22),JG 24 (JL 15 2) 23 false,JG 25 (Jc 6 [.t 24]) 23 false,JG 26 (Jk .neq 25 0) 23 false,JS 27 (Jo 23 26)]
abbrev o3_2:List Ins:=[JS 28 (Jc 7 []),JS 4 (Jm 28)]
abbrev v3_3:VC:=(.seq (.ops o3_2) .ret)
abbrev v3_4:VC:=(.cond (.t 27) v3_3 .skip)
abbrev o3_5:List Ins:=[JS 29 (JL 15 2),JS 30 (Jc 8 [.t 29]),JS 5 (.alloc [Jz 0,J0,J0,J0,J0,J0,Jz 0,Jz 0,Jz 0,Jz 0,J0,Jz 0,Jz 0,Jz 0,J0]),JN (Js 15 5 30)]
abbrev o3_6:List Ins:=[JS 31 (Jf 10 5),JS 32 (Jf 4 31),JN (.st 1 (.t 32) (.k J0))]
abbrev o3_7:List Ins:=[JS 6 (.mv (.k J0))]
abbrev o3_8:List Ins:=[JS 7 (Ji 0)]
abbrev o3_9:List Ins:=[JS 33 (Jm 7),JS 34 (Jm 1),JS 35 (Jn 34),JS 36 (Jb .lss 33 35)]
abbrev v3_10:VC:=(.cond (.t 36) .skip (.exit 0))
abbrev o3_11:List Ins:=[JF 49 (Jm 1),JF 50 (Jm 7),JS 51 (Ja 1 49 50),JS 52 (Jl 51),JS 53 (Jk .lss 52 (-1)),JS 54 (Jm 53),JH 55 (Jm 1) 54 false,JH 56 (Jm 7) 54 false,JH 57 (Ja 1 55 56) 54 false,JH 58 (Jl 57) 54 false,JH 59 (Jf 0 2) 54 false,JH 60 (Jf 0 59) 54 false,JH 61 (Jf 2 60) 54 false,JH 62 (Jl 61) 54 false,JH 63 (Jn 62) 54 false,JG 64 (Jb .geq 58 63) 54 false,JS 65 (Jo 54 64),JS 48 (Jm 65)]
abbrev o3_12:List Ins:=[JS 66 (Jc 7 []),JS 4 (Jm 66)]
abbrev v3_13:VC:=(.seq (.ops o3_12) .ret)
abbrev o3_14:List Ins:=[JS 68 (Jm 1),JS 69 (Jm 7),JS 70 (Ja 1 68 69),JS 71 (Jl 70),JS 72 (Jk .lss 71 0),JS 67 (Jm 72)]
abbrev o3_15:List Ins:=[JS 73 (Jm 6),JS 74 (Jm 7),JS 75 (Jc 9 [.t 74]),JS 76 (.prim (.sbin .add) [(.k (.c (.str [112,114,101,115,115,32,48,32]))),.t 75]),JS 77 (.bsl 9 1 [.t 76]),JS 78 (.app 9 1 16 (.t 73) (.t 77)),JS 6 (Jm 78)]
abbrev o3_16:List Ins:=[JS 39 (Jm 6),JS 40 (Jm 1),JS 41 (Jm 7),JS 42 (Ja 1 40 41),JS 43 (Jl 42),JS 44 (Jc 9 [.t 43]),JS 45 (.prim (.sbin .add) [(.k (.c (.str [99,111,105,110,32]))),.t 44]),JS 46 (.bsl 9 1 [.t 45]),JS 47 (.app 9 1 16 (.t 39) (.t 46)),JS 6 (Jm 47)]
abbrev v3_17:VC:=(.cond (.t 67) (.ops o3_15) (.ops o3_16))
abbrev v3_18:VC:=(.seq (.ops o3_14) v3_17)
abbrev v3_19:VC:=(.cond (.t 48) v3_13 v3_18)
abbrev v3_20:VC:=(.seq (.dops o3_11) v3_19)
abbrev v3_21:VC:=(.block 2 v3_20)
abbrev o3_22:List Ins:=[JS 37 (Jm 7),JS 38 (Jk .add 37 1),JS 7 (Jm 38)]
abbrev v3_23:VC:=(.seq (.block 1 v3_21) (.ops o3_22))
abbrev v3_24:VC:=(.seq (.seq (.ops o3_9) v3_10) v3_23)
-- K3_1: changed and kept: [7,6]
abbrev v3_25:VC:=(.loop v3_24)
abbrev v3_26:VC:=(.block 0 v3_25)
abbrev o3_27:List Ins:=[JS 79 (JL 15 5),JS 80 (Jm 6),JS 81 (Jc 5 [.t 79,.t 80])]
abbrev o3_28:List Ins:=[JS 82 (Jc 7 []),JS 4 (Jm 82)]
abbrev v3_29:VC:=(.seq (.ops o3_28) .ret)
abbrev v3_30:VC:=(.cond (.t 81) v3_29 .skip)
abbrev o3_31:List Ins:=[JS 84 (JL 15 5),JS 85 (Jc 11 [.t 84]),JS 86 (Jm 6),JS 87 (Jc 10 [.t 85,.t 86]),JS 83 (Jm 87),JS 88 (Je 83 0),JS 89 (Je 83 1),JS 90 (Je 83 2),JS 9 (.alloc [Jz 0,J0,J0,J0,J0,J0,Jz 0,Jz 0,Jz 0,Jz 0,J0,Jz 0,Jz 0,Jz 0,J0]),JS 8 (Jm 88),JN (Js 15 9 89),JS 10 (Jm 90)]
abbrev o3_32:List Ins:=[JS 91 (Jm 10),JS 92 (Jk .neq 91 0),JS 93 (Jm 92),JG 94 (Jm 8) 93 false,JG 95 (Jn 94) 93 false,JG 96 (Jm 1) 93 false,JG 97 (Jn 96) 93 false,JG 98 (Jb .neq 95 97) 93 false,JS 99 (Jo 93 98),JS 100 (Jm 99),JG 101 (JL 15 9) 100 false,JG 102 (Jc 6 [.t 101]) 100 false,JG 103 (Jk .neq 102 0) 100 false,JS 104 (Jo 100 103)]
abbrev o3_33:List Ins:=[JS 4 (JB false)]
abbrev v3_34:VC:=(.seq (.ops o3_33) .ret)
abbrev v3_35:VC:=(.cond (.t 104) v3_34 .skip)
abbrev o3_36:List Ins:=[JS 11 (.mv (.k J0))]
abbrev o3_37:List Ins:=[JS 12 (Ji 0)]
abbrev o3_38:List Ins:=[JS 13 (Ji 0)]
abbrev o3_39:List Ins:=[JS 105 (Jm 13),JS 106 (Jm 8),JS 107 (Jn 106),JS 108 (Jb .lss 105 107)]
abbrev v3_40:VC:=(.cond (.t 108) .skip (.exit 3))
abbrev o3_41:List Ins:=[JS 111 (Jm 8),JS 112 (Jm 13),JS 113 (Ja 1 111 112),JS 114 (Jl 113),JS 115 (.prim (.sbin .neq) [.t 114,(.k (.c (.str [121,101,115])))]),JS 116 (Jm 115),JG 117 (Jm 8) 116 true,JG 118 (Jm 13) 116 true,JG 119 (Ja 1 117 118) 116 true,JG 120 (Jl 119) 116 true,JG 121 (.prim (.sbin .neq) [.t 120,(.k (.c (.str [110,111])))]) 116 true,JS 122 (Jp 116 121)]
abbrev o3_42:List Ins:=[JS 4 (JB false)]
abbrev v3_43:VC:=(.seq (.ops o3_42) .ret)
abbrev v3_44:VC:=(.cond (.t 122) v3_43 .skip)
abbrev o3_45:List Ins:=[JS 123 (Jm 8),JS 124 (Jm 13),JS 125 (Ja 1 123 124),JS 126 (Jl 125),JS 127 (.prim (.sbin .eql) [.t 126,(.k (.c (.str [121,101,115])))])]
abbrev o3_46:List Ins:=[JS 128 (Jm 11),JS 129 (Jm 1),JS 130 (Jm 13),JS 131 (Ja 1 129 130),JS 132 (Jl 131),JS 133 (.bsl 3 1 [.t 132]),JS 134 (.app 3 1 8 (.t 128) (.t 133)),JS 11 (Jm 134)]
abbrev o3_47:List Ins:=[JS 135 (Jm 1),JS 136 (Jm 13),JS 137 (Ja 1 135 136),JS 138 (Jl 137),JS 139 (Jk .lss 138 0)]
abbrev o3_48:List Ins:=[JS 140 (Jm 12),JS 141 (Jk .add 140 1),JS 12 (Jm 141)]
abbrev v3_49:VC:=(.cond (.t 139) (.ops o3_48) .skip)
abbrev v3_50:VC:=(.seq (.ops o3_47) v3_49)
abbrev v3_51:VC:=(.seq (.ops o3_46) v3_50)
abbrev v3_52:VC:=(.cond (.t 127) v3_51 .skip)
abbrev v3_53:VC:=(.seq (.ops o3_45) v3_52)
abbrev v3_54:VC:=(.seq (.seq (.ops o3_41) v3_44) v3_53)
abbrev o3_55:List Ins:=[JS 109 (Jm 13),JS 110 (Jk .add 109 1),JS 13 (Jm 110)]
abbrev v3_56:VC:=(.seq (.block 4 v3_54) (.ops o3_55))
abbrev v3_57:VC:=(.seq (.seq (.ops o3_39) v3_40) v3_56)
-- K3_2: changed and kept: [13,11,12]
abbrev v3_58:VC:=(.loop v3_57)
abbrev v3_59:VC:=(.block 3 v3_58)
abbrev o3_60:List Ins:=[JS 143 (Jf 0 5),JS 144 (Jf 0 143),JS 145 (JL 3 144),JS 146 (.bld [Jz 0,Jz 0] []),JS 147 (Jm 11),JS 148 (Jc 12 [.t 145,.t 146,.t 147]),JS 142 (Jm 148),JS 149 (Je 142 0),JS 150 (Je 142 1),JS 151 (Je 142 2),JS 14 (.alloc [Jz 0,Jz 0]),JN (Js 2 14 149),JS 15 (Jm 150),JS 10 (Jm 151)]
abbrev o3_61:List Ins:=[JS 152 (Jm 10),JS 153 (Jk .eql 152 0),JS 154 (Jm 153),JG 155 (JL 2 14) 154 true,JG 156 (Jf 8 9) 154 true,JG 157 (JL 2 156) 154 true,JG 158 (.seq false [(0,true),(1,true)] (.t 155) (.t 157)) 154 true,JS 159 (Jp 154 158),JS 160 (Jm 159),JG 161 (Jm 15) 160 true,JG 162 (Jm 12) 160 true,JG 163 (Jb .eql 161 162) 160 true,JS 164 (Jp 160 163),JS 165 (Jm 164),JG 166 (Jf 10 9) 165 true,JG 167 (Jf 4 166) 165 true,JG 168 (Jl 167) 165 true,JG 169 (Jn 168) 165 true,JG 170 (Jm 12) 165 true,JG 171 (Jb .eql 169 170) 165 true,JS 172 (Jp 165 171),JS 173 (Jm 172),JG 174 (Jf 0 9) 173 true,JG 175 (Jf 6 174) 173 true,JG 176 (Jl 175) 173 true,JG 177 (Jm 12) 173 true,JG 178 (Jf 1 14) 173 true,JG 179 (Jl 178) 173 true,JG 180 (Jb .add 177 179) 173 true,JG 181 (Jb .eql 176 180) 173 true,JS 182 (Jp 173 181),JS 183 (Jm 182),JG 184 (Jc 7 []) 183 true,JS 185 (Jp 183 184),JS 4 (Jm 185)]
abbrev v3_62:VC:=(.seq (.ops o3_61) .ret)
abbrev v3_63:VC:=(.seq (.ops o3_60) v3_62)
abbrev v3_64:VC:=(.seq (.seq (.ops o3_38) v3_59) v3_63)
abbrev v3_65:VC:=(.seq (.ops o3_37) v3_64)
abbrev v3_66:VC:=(.seq (.ops o3_36) v3_65)
abbrev v3_67:VC:=(.seq (.seq (.ops o3_32) v3_35) v3_66)
abbrev v3_68:VC:=(.seq (.ops o3_31) v3_67)
abbrev v3_69:VC:=(.seq (.seq (.ops o3_27) v3_30) v3_68)
abbrev v3_70:VC:=(.seq (.seq (.ops o3_8) v3_26) v3_69)
abbrev v3_71:VC:=(.seq (.ops o3_7) v3_70)
abbrev v3_72:VC:=(.seq (.ops o3_6) v3_71)
abbrev v3_73:VC:=(.seq (.ops o3_5) v3_72)
abbrev v3_74:VC:=(.seq (.seq (.ops o3_1) v3_4) v3_73)
def ir3:FC:=⟨2,186,[.t 4],(.seq (.ops o3_0) v3_74)⟩
theorem c3:compM Tryz.prog [] 3 = some ir3:=by kernel_rfl
attribute [local go_sem] Nat.reduceEqDiff Nat.reduceAdd Nat.reduceMul reduceIte Nat.reduceLeDiff Nat.reduceLT Nat.reduceBEq reduceCtorEq
theorem acts_end {b:Bar} (hb:barB b = true) {acts:List Int} (hl:acts.length ≤ 12) {st:List (List UInt8) × Bar} (h:ActOk b.box.wh acts acts.length st):runP b.box.wh 0 0 (doneK acts st.1 acts.length) = ((st.2.pl,st.2.cr,prsK acts st.1 acts.length),0):=by
 unfold barB at hb
 simp only [Bool.and_eq_true,decide_eq_true_eq] at hb
 have hok:=bxB_ok hb.1
 have hro:=hok.wh.ro
 have hwB:whB b.box.wh = true:=by
  have:=hb.1
  unfold bxB at this
  simp only [Bool.and_eq_true] at this
  exact this.1.1.1.1.1.1.1
 have hd:=h.dn
 have hdl:=h.dl
 have hall:allB (actB b.box.wh) (doneK acts st.1 acts.length) = true:=by
  unfold allB
  rw [decide_eq_true (by omega),Bool.true_and,List.all_eq_true]
  intro a ha
  have:=hd a ha
  unfold actB within
  simp only [Bool.or_eq_true,Bool.and_eq_true,decide_eq_true_eq,beq_iff_eq]
  omega
 have hrb:runB b.box.wh 0 0 (doneK acts st.1 acts.length) = true:=by
  unfold runB
  rw [hall,Bool.and_true]
  unfold within
  simp; omega
 unfold runP openE
 rw [hrb,hwB,h.run]
 rfl
theorem done_len (acts:List Int) (ans:List (List UInt8)):∀ k:Nat,(doneK acts ans k).length ≤ k
 | 0 => Nat.le_refl _
 | k + 1 => by
  have:=done_len acts ans k
  simp only [doneK]
  split <;> simp <;> omega
theorem prs_bound (acts:List Int) (ans:List (List UInt8)):∀ k:Nat,0 ≤ prsK acts ans k ∧ prsK acts ans k ≤ k
 | 0 => ⟨Int.le_refl 0,Int.le_refl 0⟩
 | k + 1 => by
  have:=prs_bound acts ans k
  simp only [prsK]
  split <;> omega
theorem far5n (b:Bar):FSpec Tryz.prog 5 [b.av,.c (.raw (.slice none 0 0))] (.c (.bool (farS b []))):=FSpec.le (far5 b []) (AVles.cons (AVle.refl _) (AVles.cons (AVle.nil 1) (AVles.refl []))) (AVle.refl _)
set_option maxRecDepth 100000 in
set_option maxHeartbeats 8000000 in
theorem acts3 (b:Bar) (acts:List Int):FSpecL Tryz.prog 3 [b.av,.c (ints acts)] [(tabO tb)] [] (fun r l' => r = .c (.bool true) ∧ l' = [(tabO tb)]):=by
 have hm:maxLen = 9223372036854775807:=rfl
 have hf:=far5n b
 have hc:=rcheck6 b
 simp only [Bar.av,Bar.avs] at hf hc
 refine FSpecL_of c3 (by first | simp | exact Nat.le_of_ble_eq_true rfl) (Nat.le_refl _) (by decide) (by decide) fun C hP hN hC hL => ?_; rw [init_env',ownW_upd (by first | simp | exact Nat.le_of_ble_eq_true rfl)]; simp only [ir3,updL,updLo,List.map_nil,List.map_cons,Nat.reduceAdd,]
 simp only [Bar.av,Bar.avs]
 (repeat ((first | refine Va ?_ | refine Vb ?_ | refine Vc ?_ | refine Vd ?_ | refine Ve ?_ | refine Vf ?_); (try simp only [go_sem,hP,ints,List.length_map]); (repeat refine qJ ?_)))
 by_cases hl:¬ acts.length ≤ 12
 ·have e1:decide ((12:Int) < acts.length) = true:=decide_eq_true (by omega)
  rw [e1]
  (refine AG_skip ?_; simp only [go_sem,hP]; (repeat refine qJ ?_); (repeat ((first | refine Va ?_ | refine Vb ?_ | refine Vc ?_ | refine Vd ?_ | refine Ve ?_ | refine Vf ?_); (try simp only [go_sem,hP]); (repeat refine qJ ?_))))
  (refine AG_skip ?_; simp only [go_sem,hP]; (repeat refine qJ ?_); (repeat ((first | refine Va ?_ | refine Vb ?_ | refine Vc ?_ | refine Vd ?_ | refine Ve ?_ | refine Vf ?_); (try simp only [go_sem,hP]); (repeat refine qJ ?_))))
  (refine WV_cond rfl (fun h => ?_) (fun h => ?_))
  ·(repeat ((first | refine Va ?_ | refine Vb ?_ | refine Vc ?_ | refine Vd ?_ | refine Ve ?_ | refine Vf ?_); (try simp only [go_sem,hP]); (repeat refine qJ ?_)))
   (refine AS_lend [1000] (kept7 (tb:=tb)) rfl rfl rfl (by decide) rfl rfl ?_; intro r l' hh; obtain ⟨rfl,rfl⟩:=hh; refine ⟨_,_,rfl,rfl,?_⟩; simp only [go_sem,hP,ownBack]; (repeat refine qJ ?_); (repeat ((first | refine Va ?_ | refine Vb ?_ | refine Vc ?_ | refine Vd ?_ | refine Ve ?_ | refine Vf ?_); (try simp only [go_sem,hP]); (repeat refine qJ ?_))); (refine WV_ret ?_; simp only [thenQ,inQ,RetQL,RetOkL,resAll,resA]; simp only [go_sem,tupA,AV.keepP,AV.keepPL]; refine ⟨_,[(tabO tb)],rfl,KeepL_mk rfl rfl ?_ ?_ rfl,?_⟩); (all_goals (first | exact ⟨rfl,rfl⟩ | trivial | (simp only [go_sem,keepAll,Ob.keepP,AV.keepP,AV.keepPL]; done))))
  ·cases h
 have hl:=Decidable.of_not_not hl
 have e1:decide ((12:Int) < acts.length) = false:=decide_eq_false (by omega)
 rw [e1]
 (refine AG_pu (fun hG => hf) ?_; simp only [go_sem,hP]; (repeat refine qJ ?_); (repeat ((first | refine Va ?_ | refine Vb ?_ | refine Vc ?_ | refine Vd ?_ | refine Ve ?_ | refine Vf ?_); (try simp only [go_sem,hP]); (repeat refine qJ ?_))))
 cases hfar:farS b [] with
 | true =>
  (refine AG_skip ?_; simp only [go_sem,hP]; (repeat refine qJ ?_); (repeat ((first | refine Va ?_ | refine Vb ?_ | refine Vc ?_ | refine Vd ?_ | refine Ve ?_ | refine Vf ?_); (try simp only [go_sem,hP]); (repeat refine qJ ?_))))
  (refine WV_cond rfl (fun h => ?_) (fun h => ?_))
  ·(repeat ((first | refine Va ?_ | refine Vb ?_ | refine Vc ?_ | refine Vd ?_ | refine Ve ?_ | refine Vf ?_); (try simp only [go_sem,hP]); (repeat refine qJ ?_)))
   (refine AS_lend [1000] (kept7 (tb:=tb)) rfl rfl rfl (by decide) rfl rfl ?_; intro r l' hh; obtain ⟨rfl,rfl⟩:=hh; refine ⟨_,_,rfl,rfl,?_⟩; simp only [go_sem,hP,ownBack]; (repeat refine qJ ?_); (repeat ((first | refine Va ?_ | refine Vb ?_ | refine Vc ?_ | refine Vd ?_ | refine Ve ?_ | refine Vf ?_); (try simp only [go_sem,hP]); (repeat refine qJ ?_))); (refine WV_ret ?_; simp only [thenQ,inQ,RetQL,RetOkL,resAll,resA]; simp only [go_sem,tupA,AV.keepP,AV.keepPL]; refine ⟨_,[(tabO tb)],rfl,KeepL_mk rfl rfl ?_ ?_ rfl,?_⟩); (all_goals (first | exact ⟨rfl,rfl⟩ | trivial | (simp only [go_sem,keepAll,Ob.keepP,AV.keepP,AV.keepPL]; done))))
  ·cases h
 | false =>
 (refine AG_pu (fun hG => hc) ?_; simp only [go_sem,hP]; (repeat refine qJ ?_); (repeat ((first | refine Va ?_ | refine Vb ?_ | refine Vc ?_ | refine Vd ?_ | refine Ve ?_ | refine Vf ?_); (try simp only [go_sem,hP]); (repeat refine qJ ?_))))
 unfold barE
 cases hB:barB b with
 | false =>
  (refine WV_cond rfl (fun h => ?_) (fun h => ?_))
  ·(repeat ((first | refine Va ?_ | refine Vb ?_ | refine Vc ?_ | refine Vd ?_ | refine Ve ?_ | refine Vf ?_); (try simp only [go_sem,hP]); (repeat refine qJ ?_)))
   (refine AS_lend [1000] (kept7 (tb:=tb)) rfl rfl rfl (by decide) rfl rfl ?_; intro r l' hh; obtain ⟨rfl,rfl⟩:=hh; refine ⟨_,_,rfl,rfl,?_⟩; simp only [go_sem,hP,ownBack]; (repeat refine qJ ?_); (repeat ((first | refine Va ?_ | refine Vb ?_ | refine Vc ?_ | refine Vd ?_ | refine Ve ?_ | refine Vf ?_); (try simp only [go_sem,hP]); (repeat refine qJ ?_))); (refine WV_ret ?_; simp only [thenQ,inQ,RetQL,RetOkL,resAll,resA]; simp only [go_sem,tupA,AV.keepP,AV.keepPL]; refine ⟨_,[(tabO tb)],rfl,KeepL_mk rfl rfl ?_ ?_ rfl,?_⟩); (all_goals (first | exact ⟨rfl,rfl⟩ | trivial | (simp only [go_sem,keepAll,Ob.keepP,AV.keepP,AV.keepPL]; done))))
  ·cases h
 | true =>
 (refine WV_cond rfl (fun h => ?_) (fun h => ?_))
 ·cases h
 clear h
 have hbl:=barLn hB
 have hem:=emptied8 hbl
 simp only [Bar.av,Bar.avs] at hem
 (repeat ((first | refine Va ?_ | refine Vb ?_ | refine Vc ?_ | refine Vd ?_ | refine Ve ?_ | refine Vf ?_); (try simp only [go_sem,hP]); (repeat refine qJ ?_)))
 (refine AS_pu (hem) ?_; simp only [go_sem,hP]; (repeat refine qJ ?_); (repeat ((first | refine Va ?_ | refine Vb ?_ | refine Vc ?_ | refine Vd ?_ | refine Ve ?_ | refine Vf ?_); (try simp only [go_sem,hP]); (repeat refine qJ ?_))))
 refine WV_nilslot 6 47 9 1 (by decide) (by decide) rfl rfl ?_
 simp only [go_sem]
 refine WV_loopS (fun k:Nat => ⟨upd (upd (upd (upd (upd (upd e0 1 (.c (ints acts))) 2 (.bp 2 0)) 4 (.c (.bool false))) 5 (.bp 5 0)) 6 (.gr 47)) 7 (iv k),upd (upd (upd (upd o0 1000 (tabO tb)) 2 (.box b.avs)) 5 (.box ((startB b).avsP (.c (.raw (.slice none 0 0)))))) 47 (.grow 9 1 ((scrK acts k).map fun x => [CD.str x]))⟩) (fun k => k ≤ acts.length ∧ ∀ i,i < k → -1 ≤ acts.getD i 0 ∧ acts.getD i 0 < (b.box.wh.co.length:Int)) (fun k => acts.length - k) 0 ⟨Nat.zero_le _,fun i hi => by omega⟩ ?_ ?_
 ·refine Sub_of (by (try simp only [go_sem]); ((repeat' (first | exact EnvLe_e0 _ _ | refine EnvLe_upd ?_ ?_)) <;> ((try simp only [upd_app,e0_app,o0_app,Nat.reduceEqDiff,reduceIte]); first | exact AWk.refl _ _ | exact AWk.int (by omega) | exact AWk.int (by rw [w64 (by omega) (by omega)]; omega) | exact AWk.grow rfl | exact AWk.nil _ | exact AWk.of (by rfl)))) (by unfold Bar.avsP Bar.avs ints; (try simp only [go_sem]); exact ObjLe_au)
 rintro k ⟨hk,hr⟩
 unfold Bar.avsP Bar.avs
 (repeat ((first | refine Va ?_ | refine Vb ?_ | refine Vc ?_ | refine Vd ?_ | refine Ve ?_ | refine Vf ?_); (try simp only [go_sem,hP,ints,List.length_map]); (repeat refine qJ ?_)))
 (refine WV_cond rfl (fun h => ?_) (fun h => ?_))
 ·have hi:k < acts.length:=by simpa using h
  clear h
  have hg:=ints_get hi
  have hw0:=w64 (n:=(k:Int) + 1) (by omega) (by omega)
  have hss:=scr_succ acts k
  have hsl:=scr_len acts k
  have hstep:-1 ≤ acts.getD k 0 ∧ acts.getD k 0 < (b.box.wh.co.length:Int) → ∀ i,i < k + 1 → -1 ≤ acts.getD i 0 ∧ acts.getD i 0 < (b.box.wh.co.length:Int):=fun h i hi => by
   by_cases hik:i = k
   ·subst hik; exact h
   ·exact hr i (by omega)
  have hco4:b.box.wh.co.length ≤ 4:=by
   unfold barB at hB
   simp only [Bool.and_eq_true] at hB
   exact (bxB_ok hB.1).wh.cl
  unfold actL at hss
  generalize acts.getD k 0 = a at hg hss hstep
  (repeat ((first | refine Va ?_ | refine Vb ?_ | refine Vc ?_ | refine Vd ?_ | refine Ve ?_ | refine Vf ?_); (try simp only [go_sem,hP,hg,List.length_map,Int.toNat_natCast]); (repeat refine qJ ?_)))
  by_cases hin:¬ (-1 ≤ a ∧ a < (b.box.wh.co.length:Int))
  ·(refine WV_cond rfl (fun h => ?_) (fun h => ?_))
   ·(repeat ((first | refine Va ?_ | refine Vb ?_ | refine Vc ?_ | refine Vd ?_ | refine Ve ?_ | refine Vf ?_); (try simp only [go_sem,hP]); (repeat refine qJ ?_)))
    (refine AS_lend [1000] (kept7 (tb:=tb)) rfl rfl rfl (by decide) rfl rfl ?_; intro r l' hh; obtain ⟨rfl,rfl⟩:=hh; refine ⟨_,_,rfl,rfl,?_⟩; simp only [go_sem,hP,ownBack]; (repeat refine qJ ?_); (repeat ((first | refine Va ?_ | refine Vb ?_ | refine Vc ?_ | refine Vd ?_ | refine Ve ?_ | refine Vf ?_); (try simp only [go_sem,hP]); (repeat refine qJ ?_))); (refine WV_ret ?_; simp only [thenQ,inQ,RetQL,RetOkL,resAll,resA]; simp only [go_sem,tupA,AV.keepP,AV.keepPL]; refine ⟨_,[(tabO tb)],rfl,KeepL_mk rfl rfl ?_ ?_ rfl,?_⟩); (all_goals (first | exact ⟨rfl,rfl⟩ | trivial | (simp only [go_sem,keepAll,Ob.keepP,AV.keepP,AV.keepPL]; done))))
   ·exfalso; simp at h; omega
  have hin:=Decidable.of_not_not hin
  (refine WV_cond rfl (fun h => ?_) (fun h => ?_))
  ·exfalso; simp at h; omega
  clear h
  have hstep:=hstep hin
  (repeat ((first | refine Va ?_ | refine Vb ?_ | refine Vc ?_ | refine Vd ?_ | refine Ve ?_ | refine Vf ?_); (try simp only [go_sem,hP,hg,List.length_map,Int.toNat_natCast]); (repeat refine qJ ?_)))
  by_cases hneg:a < 0
  ·rw [if_pos hneg] at hss
   have htx:=text9 (n:=(k:Int)) (by omega) (by omega)
   have htl:=textS_len (n:=(k:Int)) (by omega) (by omega)
   generalize textS (k:Int) = tx at hss htx htl
   (refine WV_cond rfl (fun h => ?_) (fun h => ?_))
   ·(refine WV_op ?_; simp only [go_sem,hP]; (repeat refine qJ ?_))
    refine AS_pu htx ?_
    simp only [go_sem,hP,List.length_map,hsl,List.length_cons,List.length_nil]
    (repeat refine qJ ?_)
    refine WV_move' 78 47 (by decide) (by decide) rfl ?_
    simp only [go_sem]
    (repeat ((first | refine Va ?_ | refine Vb ?_ | refine Vc ?_ | refine Vd ?_ | refine Ve ?_ | refine Vf ?_); (try simp only [go_sem,hP,hw0]); (repeat refine qJ ?_)))
    refine ⟨k + 1,⟨by omega,hstep⟩,by omega,?_⟩
    rw [hss,List.map_append]
    refine Sub_of (by simp only [go_sem]; ((repeat' (first | exact EnvLe_e0 _ _ | refine EnvLe_upd ?_ ?_)) <;> ((try simp only [upd_app,e0_app,o0_app,Nat.reduceEqDiff,reduceIte]); first | exact AWk.refl _ _ | exact AWk.int (by omega) | exact AWk.int (by rw [w64 (by omega) (by omega)]; omega) | exact AWk.grow rfl | exact AWk.nil _ | exact AWk.of (by rfl)))) (by simp only [go_sem,List.map_cons,List.map_nil]; exact ObjLe_au)
   ·exfalso; simp at h; omega
  ·rw [if_neg hneg] at hss
   have htx:=text9 (n:=a) (by omega) (by omega)
   have htl:=textS_len (n:=a) (by omega) (by omega)
   generalize textS a = tx at hss htx htl
   (refine WV_cond rfl (fun h => ?_) (fun h => ?_))
   ·exfalso; simp at h; omega
   ·(refine WV_op ?_; simp only [go_sem,hP,hg,List.length_map,Int.toNat_natCast]; (repeat refine qJ ?_))
    refine AS_pu htx ?_
    simp only [go_sem,hP,List.length_map,hsl,List.length_cons,List.length_nil]
    (repeat refine qJ ?_)
    (repeat ((first | refine Va ?_ | refine Vb ?_ | refine Vc ?_ | refine Vd ?_ | refine Ve ?_ | refine Vf ?_); (try simp only [go_sem,hP,hw0]); (repeat refine qJ ?_)))
    refine ⟨k + 1,⟨by omega,hstep⟩,by omega,?_⟩
    rw [hss,List.map_append]
    refine Sub_of (by simp only [go_sem]; ((repeat' (first | exact EnvLe_e0 _ _ | refine EnvLe_upd ?_ ?_)) <;> ((try simp only [upd_app,e0_app,o0_app,Nat.reduceEqDiff,reduceIte]); first | exact AWk.refl _ _ | exact AWk.int (by omega) | exact AWk.int (by rw [w64 (by omega) (by omega)]; omega) | exact AWk.grow rfl | exact AWk.nil _ | exact AWk.of (by rfl)))) (by simp only [go_sem,List.map_cons,List.map_nil]; exact ObjLe_au)
 ·have hkl:k = acts.length:=by
   have:¬ (k < acts.length):=by simpa using h
   omega
  subst hkl
  have hrange:=hr
  have hfar2:FSpec Tryz.prog 5 [.agg ((startB b).avsP (.c (.raw (.slice none 0 0)))),.c (strsC (scrK acts acts.length))] (.c (.bool (farS (startB b) (scrK acts acts.length)))):=FSpec.le (far5 (startB b) (scrK acts acts.length)) (AVles.cons (AVle.agg (by unfold Bar.avsP Bar.avs; (repeat' (first | exact AVles.refl [] | exact AVle.refl _ | exact AVle.nil 2 | refine AVles.cons ?_ ?_)))) (AVles.refl _)) (AVle.refl _)
  have hsok:=start_ok hB
  have hcp:FSpec Tryz.prog 11 [.agg ((startB b).avsP (.c (.raw (.slice none 0 0))))] (startB b).av:=FSpec.le (copy11 (barLn hsok)) (AVles.cons (AVle.agg (by unfold Bar.avsP Bar.avs; (repeat' (first | exact AVles.refl [] | exact AVle.refl _ | exact AVle.nil 2 | refine AVles.cons ?_ ?_)))) (AVles.refl [])) (AVle.refl _)
  have hrn:=run10 (tb:=tb) (F:=lineK) (barLn hsok) hsok (l:=scrK acts acts.length) (by rw [scr_len]; omega) (by
   intro k hk
   rw [scr_len] at hk
   rw [scr_take acts (by omega),scr_get acts hk]
   have hw4:b.box.wh.co.length ≤ 4:=by
    unfold barB at hB
    simp only [Bool.and_eq_true] at hB
    exact (bxB_ok hB.1).wh.cl
   exact (act_step (by omega) hw4 (hr k hk) (acts_run hB hl hr k (by omega))).1)
  have hact:=acts_run hB hl hr acts.length (Nat.le_refl _)
  have hend:=acts_end hB hl hact
  generalize runL lineK (startB b) (scrK acts acts.length) = R at hrn hact hend
  have hwh:(startB b).box.wh = b.box.wh:=rfl
  rw [← hwh] at hact hend
  generalize farS (startB b) (scrK acts acts.length) = fr at hfar2
  generalize scrK acts acts.length = scr at hfar2 hrn
  simp only [Bar.av,Bar.avsP,Bar.avs,strsC] at hfar2 hcp hrn
  generalize startB b = sb at hfar2 hcp hrn hact hend
  (repeat ((first | refine Va ?_ | refine Vb ?_ | refine Vc ?_ | refine Vd ?_ | refine Ve ?_ | refine Vf ?_); (try simp only [go_sem,hP]); (repeat refine qJ ?_)))
  (refine AS_pu (hfar2) ?_; simp only [go_sem,hP]; (repeat refine qJ ?_); (repeat ((first | refine Va ?_ | refine Vb ?_ | refine Vc ?_ | refine Vd ?_ | refine Ve ?_ | refine Vf ?_); (try simp only [go_sem,hP]); (repeat refine qJ ?_))))
  cases fr with
  | true =>
   (refine WV_cond rfl (fun h => ?_) (fun h => ?_))
   ·(repeat ((first | refine Va ?_ | refine Vb ?_ | refine Vc ?_ | refine Vd ?_ | refine Ve ?_ | refine Vf ?_); (try simp only [go_sem,hP]); (repeat refine qJ ?_)))
    (refine AS_lend [1000] (kept7 (tb:=tb)) rfl rfl rfl (by decide) rfl rfl ?_; intro r l' hh; obtain ⟨rfl,rfl⟩:=hh; refine ⟨_,_,rfl,rfl,?_⟩; simp only [go_sem,hP,ownBack]; (repeat refine qJ ?_); (repeat ((first | refine Va ?_ | refine Vb ?_ | refine Vc ?_ | refine Vd ?_ | refine Ve ?_ | refine Vf ?_); (try simp only [go_sem,hP]); (repeat refine qJ ?_))); (refine WV_ret ?_; simp only [thenQ,inQ,RetQL,RetOkL,resAll,resA]; simp only [go_sem,tupA,AV.keepP,AV.keepPL]; refine ⟨_,[(tabO tb)],rfl,KeepL_mk rfl rfl ?_ ?_ rfl,?_⟩); (all_goals (first | exact ⟨rfl,rfl⟩ | trivial | (simp only [go_sem,keepAll,Ob.keepP,AV.keepP,AV.keepPL]; done))))
   ·cases h
  | false =>
  (refine WV_cond rfl (fun h => ?_) (fun h => ?_))
  ·cases h
  clear h
  (repeat ((first | refine Va ?_ | refine Vb ?_ | refine Vc ?_ | refine Vd ?_ | refine Ve ?_ | refine Vf ?_); (try simp only [go_sem,hP]); (repeat refine qJ ?_)))
  (refine AS_pu (hcp) ?_; simp only [go_sem,hP]; (repeat refine qJ ?_); (repeat ((first | refine Va ?_ | refine Vb ?_ | refine Vc ?_ | refine Vd ?_ | refine Ve ?_ | refine Vf ?_); (try simp only [go_sem,hP]); (repeat refine qJ ?_))))
  refine AS_lend [1000] hrn rfl rfl rfl (by decide) rfl rfl ?_
  rintro r l' ⟨rfl,rfl⟩
  refine ⟨_,_,rfl,rfl,?_⟩
  simp only [go_sem,hP,ownBack]
  (repeat refine qJ ?_)
  have hck2:=rcheck6 R.2
  have hE2:barE R.2 = 0:=by unfold barE; rw [if_pos hact.ok]
  rw [hE2] at hck2
  simp only [Bar.av,Bar.avs] at hck2
  have hln:=hact.len
  have hln2:(R.1.map fun x => [CD.str x]).length = acts.length:=by rw [List.length_map,hln]
  obtain ⟨ans,bb⟩:=R
  simp only at hln hln2 hck2
  have hob:=hact.ok
  unfold barB at hob
  simp only [Bool.and_eq_true,decide_eq_true_eq] at hob
  have hprb:=prs_bound acts ans
  (repeat ((first | refine Va ?_ | refine Vb ?_ | refine Vc ?_ | refine Vd ?_ | refine Ve ?_ | refine Vf ?_); (try simp only [go_sem,hP,ints,List.length_map,hln]); (repeat refine qJ ?_)))
  (refine AG_pu (fun hG => hck2) ?_; simp only [go_sem,hP]; (repeat refine qJ ?_); (repeat ((first | refine Va ?_ | refine Vb ?_ | refine Vc ?_ | refine Vd ?_ | refine Ve ?_ | refine Vf ?_); (try simp only [go_sem,hP]); (repeat refine qJ ?_))))
  have hz:((acts.length:Int) != (acts.length:Int)) = false:=by simp
  rw [hz]
  (refine WV_cond rfl (fun h => ?_) (fun h => ?_))
  ·cases h
  clear h
  (repeat ((first | refine Va ?_ | refine Vb ?_ | refine Vc ?_ | refine Vd ?_ | refine Ve ?_ | refine Vf ?_); (try simp only [go_sem,hP]); (repeat refine qJ ?_)))
  refine WV_nilslot 11 134 3 1 (by decide) (by decide) rfl rfl ?_
  simp only [go_sem]
  refine WV_loopS (fun k:Nat => ⟨upd (upd (upd (upd (upd (upd (upd (upd e0 1 (.c (ints acts))) 4 (.c (.bool false))) 5 (.bp 5 0)) 8 (.c (strsC ans))) 9 (.bp 9 0)) 11 (.gr 134)) 12 (iv (prsK acts ans k))) 13 (iv k),upd (upd (upd (upd o0 1000 (tabO tb)) 5 (.box (sb.avsP (.c (.raw (.slice none 0 0)))))) 9 (.box bb.avs)) 134 (.grow 3 1 ((doneK acts ans k).map fun n => [CD.int .i64 n]))⟩) (fun k => k ≤ acts.length) (fun k => acts.length - k) 0 (Nat.zero_le _) ?_ ?_
  ·refine Sub_of (by (try simp only [go_sem]); ((repeat' (first | exact EnvLe_e0 _ _ | refine EnvLe_upd ?_ ?_)) <;> ((try simp only [upd_app,e0_app,o0_app,Nat.reduceEqDiff,reduceIte]); first | exact AWk.refl _ _ | exact AWk.int (by omega) | exact AWk.int (by rw [w64 (by omega) (by omega)]; omega) | exact AWk.grow rfl | exact AWk.nil _ | exact AWk.of (by rfl)))) (by unfold Bar.avsP Bar.avs; (try simp only [go_sem]); exact ObjLe_au)
  intro k hk
  unfold Bar.avsP Bar.avs
  have hpk:=hprb k
  have hdl:=hact.dl
  (repeat ((first | refine Va ?_ | refine Vb ?_ | refine Vc ?_ | refine Vd ?_ | refine Ve ?_ | refine Vf ?_); (try simp only [go_sem,hP,strsC,ints,List.length_map,hln]); (repeat refine qJ ?_)))
  (refine WV_cond rfl (fun h => ?_) (fun h => ?_))
  ·have hi:k < acts.length:=by simpa using h
   clear h
   have hg:=ints_get hi
   have hga:=strs_at (l:=ans) (k:=k) (by omega)
   have hw0:=w64 (n:=(k:Int) + 1) (by omega) (by omega)
   have hw1:=w64 (n:=prsK acts ans k + 1) (by omega) (by omega)
   have hans:=hact.ans k hi
   have hdk:(doneK acts ans k).length ≤ k:=done_len acts ans k
   have hd1:doneK acts ans (k + 1) = doneK acts ans k ++ if ans.getD k [] == yesS then [acts.getD k 0] else []:=rfl
   have hp1:prsK acts ans (k + 1) = prsK acts ans k + if (ans.getD k [] == yesS) && decide (acts.getD k 0 < 0) then 1 else 0:=rfl
   simp only at hans
   generalize acts.getD k 0 = a at hg hd1 hp1
   generalize ans.getD k [] = s at hga hans hd1 hp1
   (repeat ((first | refine Va ?_ | refine Vb ?_ | refine Vc ?_ | refine Vd ?_ | refine Ve ?_ | refine Vf ?_); (try simp only [go_sem,hP,hga,List.length_map,Int.toNat_natCast,hln]); (repeat refine qJ ?_)))
   rcases hans with rfl | rfl
   ·have d1:doneK acts ans (k + 1) = doneK acts ans k ++ [a]:=by rw [hd1]; rfl
    refine WV_cond rfl (fun h => ?_) (fun h => ?_)
    ·exact absurd h (by decide)
    clear h
    (repeat ((first | refine Va ?_ | refine Vb ?_ | refine Vc ?_ | refine Vd ?_ | refine Ve ?_ | refine Vf ?_); (try simp only [go_sem,hP,hga,List.length_map,Int.toNat_natCast,hln]); (repeat refine qJ ?_)))
    refine WV_cond rfl (fun h => ?_) (fun h => ?_)
    rotate_left
    ·exact absurd h (by decide)
    clear h
    (repeat ((first | refine Va ?_ | refine Vb ?_ | refine Vc ?_ | refine Vd ?_ | refine Ve ?_ | refine Vf ?_); (try simp only [go_sem,hP,hg,List.length_map,Int.toNat_natCast]); (repeat refine qJ ?_)))
    by_cases hneg:a < 0
    ·have p1:prsK acts ans (k + 1) = prsK acts ans k + 1:=by rw [hp1,show (yesS == yesS) = true from rfl,decide_eq_true hneg]; rfl
     (refine WV_cond rfl (fun h => ?_) (fun h => ?_))
     ·(repeat ((first | refine Va ?_ | refine Vb ?_ | refine Vc ?_ | refine Vd ?_ | refine Ve ?_ | refine Vf ?_); (try simp only [go_sem,hP,hw0,hw1]); (repeat refine qJ ?_)))
      refine ⟨k + 1,by omega,by omega,?_⟩
      rw [d1,p1,List.map_append]
      refine Sub_of (by simp only [go_sem]; ((repeat' (first | exact EnvLe_e0 _ _ | refine EnvLe_upd ?_ ?_)) <;> ((try simp only [upd_app,e0_app,o0_app,Nat.reduceEqDiff,reduceIte]); first | exact AWk.refl _ _ | exact AWk.int (by omega) | exact AWk.int (by rw [w64 (by omega) (by omega)]; omega) | exact AWk.grow rfl | exact AWk.nil _ | exact AWk.of (by rfl)))) (by simp only [go_sem,List.map_cons,List.map_nil]; exact ObjLe_au)
     ·exfalso; simp at h; omega
    ·have p1:prsK acts ans (k + 1) = prsK acts ans k:=by rw [hp1,decide_eq_false hneg,Bool.and_false]; simp
     (refine WV_cond rfl (fun h => ?_) (fun h => ?_))
     ·exfalso; simp at h; omega
     ·(repeat ((first | refine Va ?_ | refine Vb ?_ | refine Vc ?_ | refine Vd ?_ | refine Ve ?_ | refine Vf ?_); (try simp only [go_sem,hP,hw0,hw1]); (repeat refine qJ ?_)))
      refine ⟨k + 1,by omega,by omega,?_⟩
      rw [d1,p1,List.map_append]
      refine Sub_of (by simp only [go_sem]; ((repeat' (first | exact EnvLe_e0 _ _ | refine EnvLe_upd ?_ ?_)) <;> ((try simp only [upd_app,e0_app,o0_app,Nat.reduceEqDiff,reduceIte]); first | exact AWk.refl _ _ | exact AWk.int (by omega) | exact AWk.int (by rw [w64 (by omega) (by omega)]; omega) | exact AWk.grow rfl | exact AWk.nil _ | exact AWk.of (by rfl)))) (by simp only [go_sem,List.map_cons,List.map_nil]; exact ObjLe_au)
   ·have d1:doneK acts ans (k + 1) = doneK acts ans k:=by rw [hd1,show (noS == yesS) = false from rfl]; simp
    have p1:prsK acts ans (k + 1) = prsK acts ans k:=by rw [hp1,show (noS == yesS) = false from rfl,Bool.false_and]; simp
    refine WV_cond rfl (fun h => ?_) (fun h => ?_)
    ·exact absurd h (by decide)
    clear h
    (repeat ((first | refine Va ?_ | refine Vb ?_ | refine Vc ?_ | refine Vd ?_ | refine Ve ?_ | refine Vf ?_); (try simp only [go_sem,hP,hga,List.length_map,Int.toNat_natCast,hln]); (repeat refine qJ ?_)))
    refine WV_cond rfl (fun h => ?_) (fun h => ?_)
    ·exact absurd h (by decide)
    clear h
    (repeat ((first | refine Va ?_ | refine Vb ?_ | refine Vc ?_ | refine Vd ?_ | refine Ve ?_ | refine Vf ?_); (try simp only [go_sem,hP,hw0]); (repeat refine qJ ?_)))
    refine ⟨k + 1,by omega,by omega,?_⟩
    rw [d1,p1]
    refine Sub_of (by simp only [go_sem]; ((repeat' (first | exact EnvLe_e0 _ _ | refine EnvLe_upd ?_ ?_)) <;> ((try simp only [upd_app,e0_app,o0_app,Nat.reduceEqDiff,reduceIte]); first | exact AWk.refl _ _ | exact AWk.int (by omega) | exact AWk.int (by rw [w64 (by omega) (by omega)]; omega) | exact AWk.grow rfl | exact AWk.nil _ | exact AWk.of (by rfl)))) (by simp only [go_sem]; exact ObjLe_au)
  ·have hkl:k = acts.length:=by
    have:¬ (k < acts.length):=by simpa using h
    omega
   subst hkl
   have hrun:=run69 sb.box.wh 0 0 (doneK acts ans acts.length)
   simp only at hend
   rw [hend] at hrun
   simp only [Wh.av,Wh.avs,ints] at hrun
   have hpr:=hact.prs
   have hpl:=hact.pls
   simp only at hpr hpl
   have hprl:((bb.tray.pres.map Pr.cds).length:Int) = prsK acts ans acts.length:=by rw [List.length_map]; exact hpr
   have wpl:=w64 (n:=prsK acts ans acts.length + bb.cr) (by omega) (by omega)
   (repeat ((first | refine Va ?_ | refine Vb ?_ | refine Vc ?_ | refine Vd ?_ | refine Ve ?_ | refine Vf ?_); (try simp only [go_sem,hP]); (repeat refine qJ ?_)))
   (refine AS_pu (hrun) ?_; simp only [go_sem,hP,prsC,hprl,hpr,wpl,hpl,beq_self_eq_true,Bool.and_self,Bool.and_true]; (repeat refine qJ ?_); (repeat ((first | refine Va ?_ | refine Vb ?_ | refine Vc ?_ | refine Vd ?_ | refine Ve ?_ | refine Vf ?_); (try simp only [go_sem,hP,prsC,hprl,hpr,wpl,hpl,beq_self_eq_true,Bool.and_self,Bool.and_true]); (repeat refine qJ ?_))))
   simp only [go_sem,hP,beq_self_eq_true,Bool.and_self,Bool.and_true]
   refine .inr (.inr ?_)
   (refine AS_lend [1000] (kept7 (tb:=tb)) rfl rfl rfl (by decide) rfl rfl ?_; intro r l' hh; obtain ⟨rfl,rfl⟩:=hh; refine ⟨_,_,rfl,rfl,?_⟩; simp only [go_sem,hP,ownBack]; (repeat refine qJ ?_); (repeat ((first | refine Va ?_ | refine Vb ?_ | refine Vc ?_ | refine Vd ?_ | refine Ve ?_ | refine Vf ?_); (try simp only [go_sem,hP]); (repeat refine qJ ?_))); (refine WV_ret ?_; simp only [thenQ,inQ,RetQL,RetOkL,resAll,resA]; simp only [go_sem,tupA,AV.keepP,AV.keepPL]; refine ⟨_,[(tabO tb)],rfl,KeepL_mk rfl rfl ?_ ?_ rfl,?_⟩); (all_goals (first | exact ⟨rfl,rfl⟩ | trivial | (simp only [go_sem,keepAll,Ob.keepP,AV.keepP,AV.keepPL]; done))))
end Go.Proofs.YtefoconkepmmgaaGreatDoor
