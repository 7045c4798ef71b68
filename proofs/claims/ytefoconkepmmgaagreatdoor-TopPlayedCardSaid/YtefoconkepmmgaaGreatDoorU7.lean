/-
  Contracts of the layer's functions, of the laws' helpers and of the law; conditions: as each theorem states.
-/
import Derived.Test.YtefoconkepmmgaaGreatDoorU6
import Derived.Test.YtefoconkepmmgaaGreatDoorU5
import Derived.Test.YtefoconkepmmgaaGreatDoorV2
set_option linter.unusedVariables false
set_option linter.unusedSimpArgs false
namespace Go.Proofs.YtefoconkepmmgaaGreatDoor
open Go Go.V
abbrev o5_0:List Ins:=[JS 2 (.box 15 (.t 0)),JS 4 (JB false)]
abbrev o5_1:List Ins:=[JS 9 (Jf 10 2),JS 10 (JL 5 9),JS 11 (Jc 17 [.t 10]),JS 12 (Jm 11),JG 13 (Jm 1) 12 false,JG 14 (Jn 13) 12 false,JG 15 (Jk .gtr 14 60) 12 false,JS 16 (Jo 12 15),JS 17 (Jm 16),JG 18 (Jf 0 2) 17 false,JG 19 (Jf 3 18) 17 false,JG 20 (Jl 19) 17 false,JG 21 (Jn 20) 17 false,JG 22 (Jk .gtr 21 40) 17 false,JS 23 (Jo 17 22),JS 24 (Jm 23),JG 25 (Jf 0 2) 24 false,JG 26 (Jf 4 25) 24 false,JG 27 (Jl 26) 24 false,JG 28 (Jn 27) 24 false,JG 29 (Jk .gtr 28 40) 24 false,JS 30 (Jo 24 29),JS 31 (Jm 30),JG 32 (Jf 0 2) 31 false,JG 33 (Jf 5 32) 31 false,JG 34 (Jl 33) 31 false,JG 35 (Jn 34) 31 false,JG 36 (Jk .gtr 35 40) 31 false,JS 37 (Jo 31 36),JS 38 (Jm 37),JG 39 (Jf 0 2) 38 false,JG 40 (Jf 0 39) 38 false,JG 41 (Jf 1 40) 38 false,JG 42 (Jl 41) 38 false,JG 43 (Jn 42) 38 false,JG 44 (Jk .gtr 43 40) 38 false,JS 45 (Jo 38 44),JS 46 (Jm 45),JG 47 (Jf 0 2) 46 false,JG 48 (Jf 0 47) 46 false,JG 49 (Jf 2 48) 46 false,JG 50 (Jl 49) 46 false,JG 51 (Jn 50) 46 false,JG 52 (Jk .gtr 51 40) 46 false,JS 53 (Jo 46 52)]
abbrev o5_2:List Ins:=[JS 4 (JB true)]
abbrev v5_3:VC:=(.seq (.ops o5_2) .ret)
abbrev v5_4:VC:=(.cond (.t 53) v5_3 .skip)
abbrev o5_5:List Ins:=[JS 5 (Ji 0)]
abbrev o5_6:List Ins:=[JS 54 (Jm 5),JS 55 (Jm 1),JS 56 (Jn 55),JS 57 (Jb .lss 54 56)]
abbrev v5_7:VC:=(.cond (.t 57) .skip (.exit 0))
abbrev o5_8:List Ins:=[JS 60 (Jm 1),JS 61 (Jm 5),JS 62 (Ja 1 60 61),JS 63 (Jl 62),JS 64 (.prim .slen [.t 63]),JS 65 (Jk .gtr 64 200),JS 66 (Jm 65),JG 67 (Jm 1) 66 false,JG 68 (Jm 5) 66 false,JG 69 (Ja 1 67 68) 66 false,JG 70 (Jl 69) 66 false,JG 71 (Jc 18 [.t 70]) 66 false,JG 72 (Jm 71) 66 false,JG 73 (Jf 10 2) 72 true,JG 74 (Jf 0 73) 72 true,JG 75 (Jl 74) 72 true,JG 76 (Jn 75) 72 true,JG 77 (Jk .gtr 76 4) 72 true,JG 78 (Jp 72 77) 66 false,JS 79 (Jo 66 78)]
abbrev o5_9:List Ins:=[JS 4 (JB true)]
abbrev v5_10:VC:=(.seq (.ops o5_9) .ret)
abbrev v5_11:VC:=(.cond (.t 79) v5_10 .skip)
abbrev o5_12:List Ins:=[JS 81 (Jm 1),JS 82 (Jm 5),JS 83 (Ja 1 81 82),JS 84 (Jl 83),JS 85 (Jc 19 [.t 84]),JS 80 (Jm 85),JS 86 (Je 80 0),JS 87 (Je 80 1),JS 88 (Je 80 2),JS 6 (Jm 86),JS 7 (Jm 87),JS 8 (Jm 88)]
abbrev o5_13:List Ins:=[JS 89 (Jm 8),JS 90 (Jm 89),JG 91 (Jm 6) 90 true,JG 92 (.prim (.sbin .eql) [.t 91,(.k (.c (.str [108,97,116,101,115,116])))]) 90 true,JS 93 (Jp 90 92),JS 94 (Jm 93),JG 95 (Jm 7) 94 true,JG 96 (.ia 1 (.t 95) (.k (Jz 1))) 94 true,JG 97 (Jl 96) 94 true,JG 98 (Jk .gtr 97 400) 94 true,JS 99 (Jp 94 98),JS 100 (Jm 99),JG 101 (Jm 7) 100 true,JG 102 (.ia 1 (.t 101) (.k (Jz 1))) 100 true,JG 103 (Jl 102) 100 true,JG 104 (Jk .leq 103 9999) 100 true,JS 105 (Jp 100 104)]
abbrev o5_14:List Ins:=[JS 4 (JB true)]
abbrev v5_15:VC:=(.seq (.ops o5_14) .ret)
abbrev v5_16:VC:=(.cond (.t 105) v5_15 .skip)
abbrev v5_17:VC:=(.seq (.ops o5_13) v5_16)
abbrev v5_18:VC:=(.seq (.ops o5_12) v5_17)
abbrev v5_19:VC:=(.seq (.seq (.ops o5_8) v5_11) v5_18)
abbrev o5_20:List Ins:=[JS 58 (Jm 5),JS 59 (Jk .add 58 1),JS 5 (Jm 59)]
abbrev v5_21:VC:=(.seq (.block 1 v5_19) (.ops o5_20))
abbrev v5_22:VC:=(.seq (.seq (.ops o5_6) v5_7) v5_21)
-- K5_1: changed and kept: [5]
abbrev v5_23:VC:=(.loop v5_22)
abbrev v5_24:VC:=(.block 0 v5_23)
abbrev o5_25:List Ins:=[JS 106 (JL 15 2),JS 107 (Jm 1),JS 108 (Jc 20 [.t 106,.t 107]),JS 4 (Jm 108)]
abbrev v5_26:VC:=(.seq (.ops o5_25) .ret)
abbrev v5_27:VC:=(.seq (.seq (.ops o5_5) v5_24) v5_26)
abbrev v5_28:VC:=(.seq (.seq (.ops o5_1) v5_4) v5_27)
def ir5:FC:=⟨2,109,[.t 4],(.seq (.ops o5_0) v5_28)⟩
theorem c5:compM Tryz.prog [] 5 = some ir5:=by kernel_rfl
attribute [local go_sem] Nat.reduceEqDiff Nat.reduceAdd Nat.reduceMul reduceIte Nat.reduceLeDiff Nat.reduceLT Nat.reduceBEq reduceCtorEq
def farHead (b:Bar) (l:List (List UInt8)):Bool:=farB b.tray || decide ((60:Int) < l.length) || decide ((40:Int) < b.box.fo.length) || decide ((40:Int) < b.box.ma.length) || decide ((40:Int) < b.box.sl.length) || decide ((40:Int) < b.box.wh.no.length) || decide ((40:Int) < b.box.wh.co.length)
def farL (b:Bar) (s:List UInt8):Bool:=decide ((200:Int) < s.length) || (heavyB s && decide ((4:Int) < b.tray.recs.length)) || latB s
def farS (b:Bar) (l:List (List UInt8)):Bool:=farHead b l || (l.any (farL b) || richB b l)
theorem any_snoc {α:Type} (p:α → Bool) {l:List α} {k:Nat} (h:k < l.length) (d:α):(l.take (k + 1)).any p = ((l.take k).any p || p (l.getD k d)):=by
 rw [List.take_succ_eq_append_getElem h,List.any_append,List.getD_eq_getElem?_getD,List.getElem?_eq_getElem h]
 simp
set_option maxRecDepth 100000 in
set_option maxHeartbeats 4000000 in
theorem far5 (b:Bar) (l:List (List UInt8)):FSpec Tryz.prog 5 [b.av,.c (strsC l)] (.c (.bool (farS b l))):=by
 have hm:maxLen = 9223372036854775807:=rfl
 have hf:=far28 b.tray
 simp only [Tray.av] at hf
 refine FSpec_of c5 (Nat.le_refl _) (by decide) fun C hP hN hC hL => ?_; rw [init_st]
 simp only [ir5,Bar.av,Bar.avs]
 (repeat ((first | refine Va ?_ | refine Vb ?_ | refine Vc ?_ | refine Vd ?_ | refine Ve ?_ | refine Vf ?_); (try simp only [go_sem,hP]); (repeat refine qJ ?_)))
 (refine AS_pu (hf) ?_; simp only [go_sem,hP,strsC,ints,List.length_map]; (repeat refine qJ ?_); (repeat ((first | refine Va ?_ | refine Vb ?_ | refine Vc ?_ | refine Vd ?_ | refine Ve ?_ | refine Vf ?_); (try simp only [go_sem,hP,strsC,ints,List.length_map]); (repeat refine qJ ?_))))
 refine WV_sub (σ':=⟨upd (upd (upd (upd e0 1 (.c (strsC l))) 2 (.bp 2 0)) 4 (.c (.bool false))) 53 (.c (.bool (farHead b l))),upd o0 2 (.box b.avs)⟩) (Sub_of (by (try simp only [go_sem]); ((repeat' (first | exact EnvLe_e0 _ _ | refine EnvLe_upd ?_ ?_)) <;> ((try simp only [upd_app,e0_app,o0_app,Nat.reduceEqDiff,reduceIte]); first | exact AWk.refl _ _ | exact AWk.int (by omega) | exact AWk.int (by rw [w64 (by omega) (by omega)]; omega) | exact AWk.grow rfl | exact AWk.nil _ | exact AWk.of (by rfl)))) (by unfold Bar.avs; (try simp only [go_sem]); exact ObjLe_au)) ?_
 unfold farS
 cases hh:farHead b l with
 | true =>
  (refine WV_cond rfl (fun h => ?_) (fun h => ?_))
  ·(repeat ((first | refine Va ?_ | refine Vb ?_ | refine Vc ?_ | refine Vd ?_ | refine Ve ?_ | refine Vf ?_); (try simp only [go_sem,hP]); (repeat refine qJ ?_)))
   (refine WV_ret ?_; simp only [thenQ,inQ,RetQ,RetOk,resAll,resA]; simp only [go_sem,tupA,AV.port,AV.portL,exists_eq_left']; (first | exact AVle.of rfl | refine AVle.of ?_ | skip))
  ·cases h
 | false =>
  have hl:l.length ≤ 60:=by
   unfold farHead at hh
   simp only [Bool.or_eq_false_iff,decide_eq_false_iff_not] at hh
   omega
  have hrc:b.tray.recs.length ≤ 40:=by
   unfold farHead farB at hh
   simp only [Bool.or_eq_false_iff,decide_eq_false_iff_not] at hh
   have:=hh.1.1.1.1.1.1.1
   unfold Tray.n at this
   omega
  (refine WV_cond rfl (fun h => ?_) (fun h => ?_))
  ·cases h
  clear h
  (repeat ((first | refine Va ?_ | refine Vb ?_ | refine Vc ?_ | refine Vd ?_ | refine Ve ?_ | refine Vf ?_); (try simp only [go_sem,hP]); (repeat refine qJ ?_)))
  refine WV_loopS (fun k:Nat => ⟨upd (upd (upd (upd e0 1 (.c (strsC l))) 2 (.bp 2 0)) 4 (.c (.bool false))) 5 (iv k),upd o0 2 (.box b.avs)⟩) (fun k => k ≤ l.length ∧ (l.take k).any (farL b) = false) (fun k => l.length - k) 0 ⟨Nat.zero_le _,rfl⟩ ?_ ?_
  ·refine Sub_of (by (try simp only [go_sem]); ((repeat' (first | exact EnvLe_e0 _ _ | refine EnvLe_upd ?_ ?_)) <;> ((try simp only [upd_app,e0_app,o0_app,Nat.reduceEqDiff,reduceIte]); first | exact AWk.refl _ _ | exact AWk.int (by omega) | exact AWk.int (by rw [w64 (by omega) (by omega)]; omega) | exact AWk.grow rfl | exact AWk.nil _ | exact AWk.of (by rfl)))) (by unfold Bar.avs; (try simp only [go_sem]); exact ObjLe_au)
  rintro k ⟨hk,hr⟩
  unfold Bar.avs
  (repeat ((first | refine Va ?_ | refine Vb ?_ | refine Vc ?_ | refine Vd ?_ | refine Ve ?_ | refine Vf ?_); (try simp only [go_sem,hP,strsC,List.length_map]); (repeat refine qJ ?_)))
  (refine WV_cond rfl (fun h => ?_) (fun h => ?_))
  ·have hi:k < l.length:=by simpa using h
   clear h
   have hg:=strs_at hi
   have hsn:=any_snoc (farL b) hi []
   rw [hr,Bool.false_or] at hsn
   have hw0:=w64 (n:=(k:Int) + 1) (by omega) (by omega)
   have hin:l.getD k [] ∈ l:=by rw [List.getD_eq_getElem?_getD,List.getElem?_eq_getElem hi]; exact List.getElem_mem hi
   have hfar:farL b (l.getD k []) = true → (l.any (farL b) || richB b l) = true:=fun h => by
    rw [List.any_eq_true.2 ⟨_,hin,h⟩]; rfl
   generalize l.getD k [] = s at hg hsn hin hfar
   (repeat ((first | refine Va ?_ | refine Vb ?_ | refine Vc ?_ | refine Vd ?_ | refine Ve ?_ | refine Vf ?_); (try simp only [go_sem,hP,hg,List.length_map,Int.toNat_natCast]); (repeat refine qJ ?_)))
   by_cases hs:s.length ≤ 200
   ·have hhv:=heavy18 (s:=s) (by omega)
    have hs':decide ((200:Int) < s.length) = false:=decide_eq_false (by omega)
    rw [hs']
    (refine AG_pu (fun hG => hhv) ?_; simp only [go_sem,hP,recsC,List.length_map]; (repeat refine qJ ?_); (repeat ((first | refine Va ?_ | refine Vb ?_ | refine Vc ?_ | refine Vd ?_ | refine Ve ?_ | refine Vf ?_); (try simp only [go_sem,hP,recsC,List.length_map]); (repeat refine qJ ?_))))
    refine WV_sub (σ':=⟨upd (upd (upd (upd (upd e0 1 (.c (strsC l))) 2 (.bp 2 0)) 4 (.c (.bool false))) 5 (iv k)) 79 (.c (.bool (heavyB s && decide ((4:Int) < b.tray.recs.length)))),upd o0 2 (.box b.avs)⟩) (Sub_of (by (try simp only [go_sem]); ((repeat' (first | exact EnvLe_e0 _ _ | refine EnvLe_upd ?_ ?_)) <;> ((try simp only [upd_app,e0_app,o0_app,Nat.reduceEqDiff,reduceIte]); first | exact AWk.refl _ _ | exact AWk.int (by omega) | exact AWk.int (by rw [w64 (by omega) (by omega)]; omega) | exact AWk.grow rfl | exact AWk.nil _ | exact AWk.of (by rfl)))) (by unfold Bar.avs; (try simp only [go_sem]); exact ObjLe_au)) ?_
    (refine WV_cond rfl (fun h => ?_) (fun h => ?_))
    ·rw [hfar (by unfold farL; rw [h]; simp)]
     (repeat ((first | refine Va ?_ | refine Vb ?_ | refine Vc ?_ | refine Vd ?_ | refine Ve ?_ | refine Vf ?_); (try simp only [go_sem,hP]); (repeat refine qJ ?_)))
     (refine WV_ret ?_; simp only [thenQ,inQ,RetQ,RetOk,resAll,resA]; simp only [go_sem,tupA,AV.port,AV.portL,exists_eq_left']; (first | exact AVle.of rfl | refine AVle.of ?_ | skip))
    ·have hlat:farL b s = latB s:=by unfold farL; rw [hs',h]; rfl
     rw [hlat] at hsn hfar
     clear h
     have hp:=rparse19 (s:=s) (by omega)
     unfold parseR at hp
     unfold Bar.avs
     (repeat ((first | refine Va ?_ | refine Vb ?_ | refine Vc ?_ | refine Vd ?_ | refine Ve ?_ | refine Vf ?_); (try simp only [go_sem,hP,strsC,hg,List.length_map,Int.toNat_natCast]); (repeat refine qJ ?_)))
     cases hps:parseS s with
     | none =>
      have hlb:latB s = false:=by unfold latB; rw [hps]
      rw [hps] at hp
      (refine AS_pu (hp) ?_; simp only [go_sem,hP]; (repeat refine qJ ?_); (repeat ((first | refine Va ?_ | refine Vb ?_ | refine Vc ?_ | refine Vd ?_ | refine Ve ?_ | refine Vf ?_); (try simp only [go_sem,hP]); (repeat refine qJ ?_))))
      refine WV_cond rfl (fun h => ?_) (fun h => ?_)
      ·cases h
      (repeat ((first | refine Va ?_ | refine Vb ?_ | refine Vc ?_ | refine Vd ?_ | refine Ve ?_ | refine Vf ?_); (try simp only [go_sem,hP,hw0]); (repeat refine qJ ?_)))
      refine ⟨k + 1,⟨by omega,hsn.trans hlb⟩,by omega,?_⟩
      refine Sub_of (by simp only [go_sem]; ((repeat' (first | exact EnvLe_e0 _ _ | refine EnvLe_upd ?_ ?_)) <;> ((try simp only [upd_app,e0_app,o0_app,Nat.reduceEqDiff,reduceIte]); first | exact AWk.refl _ _ | exact AWk.int (by omega) | exact AWk.int (by rw [w64 (by omega) (by omega)]; omega) | exact AWk.grow rfl | exact AWk.nil _ | exact AWk.of (by rfl)))) (by simp only [go_sem]; exact ObjLe_au)
     | some wn =>
      obtain ⟨w,ns⟩:=wn
      have hl:=parse_len hps
      have hlb:latB s = ((w == latestS) && decide (400 < ns.getD 1 0) && decide (ns.getD 1 0 ≤ 9999)):=by unfold latB; rw [hps]
      rw [hps] at hp
      simp only at hp
      cases hw:(w == latestS) with
      | true =>
       have hl2:1 < ns.length:=by
        rw [eq_of_beq hw] at hl
        have:manyW latestS = 2:=rfl
        omega
       have hgn:=ints_get hl2
       rw [hw] at hlb
       unfold latestS at hw
       generalize ns.getD 1 0 = x at hgn hlb
       (refine AS_pu (hp) ?_; simp only [go_sem,hP,ints,List.length_map,hgn,hw,Int.toNat_one]; (repeat refine qJ ?_); (repeat ((first | refine Va ?_ | refine Vb ?_ | refine Vc ?_ | refine Vd ?_ | refine Ve ?_ | refine Vf ?_); (try simp only [go_sem,hP,ints,List.length_map,hgn,hw,Int.toNat_one]); (repeat refine qJ ?_))))
       rw [Bool.true_and] at hlb
       refine WV_cond rfl (fun h => ?_) (fun h => ?_)
       ·rw [hfar (hlb.trans h)]
        (repeat ((first | refine Va ?_ | refine Vb ?_ | refine Vc ?_ | refine Vd ?_ | refine Ve ?_ | refine Vf ?_); (try simp only [go_sem,hP]); (repeat refine qJ ?_)))
        (refine WV_ret ?_; simp only [thenQ,inQ,RetQ,RetOk,resAll,resA]; simp only [go_sem,tupA,AV.port,AV.portL,exists_eq_left']; (first | exact AVle.of rfl | refine AVle.of ?_ | skip))
       ·rw [h] at hlb
        (repeat ((first | refine Va ?_ | refine Vb ?_ | refine Vc ?_ | refine Vd ?_ | refine Ve ?_ | refine Vf ?_); (try simp only [go_sem,hP,hw0]); (repeat refine qJ ?_)))
        refine ⟨k + 1,⟨by omega,hsn.trans hlb⟩,by omega,?_⟩
        refine Sub_of (by simp only [go_sem]; ((repeat' (first | exact EnvLe_e0 _ _ | refine EnvLe_upd ?_ ?_)) <;> ((try simp only [upd_app,e0_app,o0_app,Nat.reduceEqDiff,reduceIte]); first | exact AWk.refl _ _ | exact AWk.int (by omega) | exact AWk.int (by rw [w64 (by omega) (by omega)]; omega) | exact AWk.grow rfl | exact AWk.nil _ | exact AWk.of (by rfl)))) (by simp only [go_sem]; exact ObjLe_au)
      | false =>
       rw [hw] at hlb
       unfold latestS at hw
       rcases ns with _ | ⟨a,_ | ⟨c,r⟩⟩
       all_goals (
        (refine AS_pu (hp) ?_; simp only [go_sem,hP,ints,hw,List.map_cons,List.map_nil,Int.toNat_one,gd0,gd1,gd2]; (repeat refine qJ ?_); (repeat ((first | refine Va ?_ | refine Vb ?_ | refine Vc ?_ | refine Vd ?_ | refine Ve ?_ | refine Vf ?_); (try simp only [go_sem,hP,ints,hw,List.map_cons,List.map_nil,Int.toNat_one,gd0,gd1,gd2]); (repeat refine qJ ?_)))))
       all_goals (
        refine WV_cond rfl (fun h => ?_) (fun h => ?_)
        ·cases h
        (repeat ((first | refine Va ?_ | refine Vb ?_ | refine Vc ?_ | refine Vd ?_ | refine Ve ?_ | refine Vf ?_); (try simp only [go_sem,hP,hw0]); (repeat refine qJ ?_)))
        refine ⟨k + 1,⟨by omega,hsn.trans hlb⟩,by omega,?_⟩
        refine Sub_of (by simp only [go_sem]; ((repeat' (first | exact EnvLe_e0 _ _ | refine EnvLe_upd ?_ ?_)) <;> ((try simp only [upd_app,e0_app,o0_app,Nat.reduceEqDiff,reduceIte]); first | exact AWk.refl _ _ | exact AWk.int (by omega) | exact AWk.int (by rw [w64 (by omega) (by omega)]; omega) | exact AWk.grow rfl | exact AWk.nil _ | exact AWk.of (by rfl)))) (by simp only [go_sem]; exact ObjLe_au))
   ·have hs':decide ((200:Int) < s.length) = true:=decide_eq_true (by omega)
    have hft:farL b s = true:=by unfold farL; rw [hs']; rfl
    rw [hs',hfar hft]
    (refine AG_skip ?_; simp only [go_sem,hP]; (repeat refine qJ ?_); (repeat ((first | refine Va ?_ | refine Vb ?_ | refine Vc ?_ | refine Vd ?_ | refine Ve ?_ | refine Vf ?_); (try simp only [go_sem,hP]); (repeat refine qJ ?_))))
    (refine WV_cond rfl (fun h => ?_) (fun h => ?_))
    ·(repeat ((first | refine Va ?_ | refine Vb ?_ | refine Vc ?_ | refine Vd ?_ | refine Ve ?_ | refine Vf ?_); (try simp only [go_sem,hP]); (repeat refine qJ ?_)))
     (refine WV_ret ?_; simp only [thenQ,inQ,RetQ,RetOk,resAll,resA]; simp only [go_sem,tupA,AV.port,AV.portL,exists_eq_left']; (first | exact AVle.of rfl | refine AVle.of ?_ | skip))
    ·cases h
  ·have hkl:k = l.length:=by
    have:¬ (k < l.length):=by simpa using h
    omega
   subst hkl
   rw [List.take_length] at hr
   have hs:∀ s ∈ l,s.length ≤ 1000:=fun s hs => by
    have:=List.any_eq_false.1 hr s hs
    unfold farL at this
    simp at this
    omega
   have hrich:=rich20 b hl hs
   simp only [Bar.av,Bar.avs,strsC] at hrich
   rw [hr,Bool.false_or]
   (repeat ((first | refine Va ?_ | refine Vb ?_ | refine Vc ?_ | refine Vd ?_ | refine Ve ?_ | refine Vf ?_); (try simp only [go_sem,hP]); (repeat refine qJ ?_)))
   (refine AS_pu (hrich) ?_; simp only [go_sem,hP]; (repeat refine qJ ?_); (repeat ((first | refine Va ?_ | refine Vb ?_ | refine Vc ?_ | refine Vd ?_ | refine Ve ?_ | refine Vf ?_); (try simp only [go_sem,hP]); (repeat refine qJ ?_))))
   (refine WV_ret ?_; simp only [thenQ,inQ,RetQ,RetOk,resAll,resA]; simp only [go_sem,tupA,AV.port,AV.portL,exists_eq_left']; (first | exact AVle.of rfl | refine AVle.of ?_ | skip))
end Go.Proofs.YtefoconkepmmgaaGreatDoor

namespace Go.Proofs.YtefoconkepmmgaaGreatDoor
open Go Go.V
abbrev o145_0:List Ins:=[JS 4 (Jm 0),JS 5 (Jm 1),JS 6 (.nilc (.t 4)),JS 7 (Jf 8 6),JS 8 (Jf 2 7),JN (Js 1 8 5)]
abbrev o145_1:List Ins:=[JF 9 (Jm 0),JF 10 (Jm 0),JF 11 (.nilc (.t 10)),JF 12 (Jf 11 11),JF 13 (Jf 0 12),JF 14 (Jl 13),JF 15 (Jm 0),JF 16 (.nilc (.t 15)),JF 17 (Jf 8 16),JF 18 (JL 3 17),JF 19 (Jm 0),JF 20 (.nilc (.t 19)),JF 21 (Jf 7 20),JF 22 (Jl 21),JF 23 (.bld [Jz 0,Jz 0,Jz 0,Jz 0] [(0,3,(.t 18)),(3,1,(.t 22))]),JF 24 (.bsl 194 4 [.t 23]),JF 25 (.app 194 4 32 (.t 14) (.t 24)),JS 26 (.nilc (.t 9)),JS 27 (Jf 11 26),JS 28 (Jf 0 27),JN (Js 1 28 25)]
def ir145:FC:=⟨2,29,[],(.seq (.ops o145_0) (.dops o145_1))⟩
abbrev o177_0:List Ins:=[JS 2 (Jm 0),JS 3 (.nilc (.t 2)),JS 4 (Jf 5 3),JS 5 (Jl 4),JS 6 (Jn 5),JS 7 (Jk .gtr 6 0),JS 8 (Jm 7),JH 9 (Jm 0) 8 true,JH 10 (.nilc (.t 9)) 8 true,JH 11 (Jf 5 10) 8 true,JH 12 (Jl 11) 8 true,JH 13 (.ia 2 (.t 12) (.k (Jz 0))) 8 true,JH 14 (Jf 1 13) 8 true,JH 15 (Jl 14) 8 true,JH 16 (Jm 0) 8 true,JH 17 (.nilc (.t 16)) 8 true,JH 18 (Jf 7 17) 8 true,JH 19 (Jl 18) 8 true,JG 20 (Jb .leq 15 19) 8 true,JS 21 (Jp 8 20)]
abbrev v177_1:VC:=(.cond (.t 21) .skip (.exit 0))
abbrev o177_2:List Ins:=[JF 22 (Jm 0),JF 23 (.nilc (.t 22)),JF 24 (Jf 6 23),JF 25 (Jl 24),JF 26 (Jm 0),JF 27 (.nilc (.t 26)),JF 28 (Jf 5 27),JF 29 (Jl 28),JF 30 (.ia 2 (.t 29) (.k (Jz 0))),JF 31 (Jf 0 30),JF 32 (Jl 31),JS 33 (Ja 1 25 32),JN (.st 1 (.t 33) (.k (.c (.bool true))))]
abbrev o177_3:List Ins:=[JS 34 (Jm 0),JS 35 (Jm 0),JS 36 (.nilc (.t 35)),JS 37 (Jf 5 36),JS 38 (Jl 37),JS 39 (.slc 2 (.t 38) (some (.k (Jz 1))) none),JS 40 (.nilc (.t 34)),JS 41 (Jf 5 40),JN (Js 1 41 39)]
abbrev v177_4:VC:=(.seq (.dops o177_2) (.ops o177_3))
abbrev v177_5:VC:=(.block 1 v177_4)
abbrev v177_6:VC:=(.seq (.seq (.dops o177_0) v177_1) v177_5)
-- K177_1: changed and kept: []
abbrev K177_1:List Nat:=[0]
abbrev v177_7:VC:=(.loop v177_6)
def ir177:FC:=⟨1,42,[],(.block 0 v177_7)⟩
abbrev o178_0:List Ins:=[JS 4 (JB false)]
abbrev o178_1:List Ins:=[JS 5 (Jm 0),JS 6 (Jm 1),JS 7 (Jc 203 [.t 5,.t 6]),JS 8 (Jk .geq 7 0),JS 4 (Jm 8)]
abbrev v178_2:VC:=(.seq (.ops o178_1) .ret)
def ir178:FC:=⟨2,9,[.t 4],(.seq (.ops o178_0) v178_2)⟩
abbrev o203_0:List Ins:=[JS 4 (Ji 0)]
abbrev o203_1:List Ins:=[JS 6 (Jm 0),JS 7 (Jn 6),JS 8 (Ji 0)]
abbrev o203_2:List Ins:=[JS 9 (Jb .lss 8 7)]
abbrev o203_3:List Ins:=[JS 10 (Jm 8),JS 5 (Jm 10)]
abbrev o203_4:List Ins:=[JS 11 (Jm 1),JS 12 (Jm 0),JS 13 (Jm 5),JS 14 (Ja 1 12 13),JS 15 (Jl 14),JS 16 (.eqs false (.t 11) (.t 15))]
abbrev o203_5:List Ins:=[JS 17 (Jm 5),JS 4 (Jm 17)]
abbrev v203_6:VC:=(.seq (.ops o203_5) .ret)
abbrev v203_7:VC:=(.cond (.t 16) v203_6 .skip)
abbrev v203_8:VC:=(.seq (.ops o203_4) v203_7)
abbrev v203_9:VC:=(.seq (.ops o203_3) v203_8)
abbrev o203_10:List Ins:=[JS 18 (Jk .add 8 1),JS 8 (Jm 18)]
abbrev v203_11:VC:=(.seq (.block 1 v203_9) (.ops o203_10))
abbrev v203_12:VC:=(.seq (.cond (.t 9) .skip (.exit 0)) v203_11)
abbrev v203_13:VC:=(.seq (.ops o203_2) v203_12)
-- K203_1: changed and kept: [8]
abbrev K203_1:List Nat:=[0,1,7]
abbrev v203_14:VC:=(.loop v203_13)
abbrev v203_15:VC:=(.block 0 v203_14)
abbrev o203_16:List Ins:=[JS 4 (Ji (-1))]
abbrev v203_17:VC:=(.seq (.ops o203_16) .ret)
abbrev v203_18:VC:=(.seq (.seq (.ops o203_1) v203_15) v203_17)
def ir203:FC:=⟨2,19,[.t 4],(.seq (.ops o203_0) v203_18)⟩
abbrev o179_0:List Ins:=[JS 2 (.box 5 (.t 0)),JS 4 (Ji 0)]
abbrev o179_1:List Ins:=[JS 5 (Jm 1),JS 6 (Jk .rem 5 2),JS 7 (Jk .eql 6 0)]
abbrev o179_2:List Ins:=[JS 8 (Jf 0 2),JS 9 (Jl 8),JS 10 (Jm 1),JS 11 (Jk .quo 10 2),JS 12 (Ja 2 9 11),JS 13 (Jf 0 12),JS 14 (Jl 13),JS 4 (Jm 14)]
abbrev v179_3:VC:=(.seq (.ops o179_2) .ret)
abbrev v179_4:VC:=(.cond (.t 7) v179_3 .skip)
abbrev o179_5:List Ins:=[JS 15 (Jf 0 2),JS 16 (Jl 15),JS 17 (Jm 1),JS 18 (Jk .quo 17 2),JS 19 (Ja 2 16 18),JS 20 (Jf 1 19),JS 21 (Jl 20),JS 4 (Jm 21)]
abbrev v179_6:VC:=(.seq (.ops o179_5) .ret)
abbrev v179_7:VC:=(.seq (.seq (.ops o179_1) v179_4) v179_6)
def ir179:FC:=⟨2,22,[.t 4],(.seq (.ops o179_0) v179_7)⟩
theorem c145:compM Tryz.prog [] 145 = some ir145:=by kernel_rfl
theorem c177:compM Tryz.prog [] 177 = some ir177:=by kernel_rfl
theorem c178:compM Tryz.prog [] 178 = some ir178:=by kernel_rfl
theorem c203:compM Tryz.prog [] 203 = some ir203:=by kernel_rfl
theorem c179:compM Tryz.prog [] 179 = some ir179:=by kernel_rfl
attribute [local go_sem] Nat.reduceEqDiff Nat.reduceAdd Nat.reduceMul reduceIte Nat.reduceLeDiff Nat.reduceLT Nat.reduceBEq reduceCtorEq
def bcd (b:Bool):List CD:=[.bool b]
theorem bcd_one (b:Bool):(bcd b).length = 1:=rfl
def carC (t:Tray) (s:Cs):List AV:=[.c (recsC t.recs),iv t.at_,iv t.way,iv t.step,.c (prsC t.pres),.c (prsC s.q),.vw 1 1001 0 (2 * t.n) (2 * t.n),iv s.now,iv s.at_,iv (wayI s.up),iv s.side,.gr 1002,.gr 1003,iv s.steps,iv s.end_]
def carO (t:Tray) (s:Cs):List Ob:=[.box (carC t s),.box (cellsG bcd s.pins 0),.grow 194 4 (s.spells.map Sp.cds),.grow 148 2 (s.plays.map Pr.cds)]
theorem sps_four (l:List Sp):((l.map Sp.cds).all fun e => e.length == 4) = true:=by
 rw [List.all_eq_true]; intro e he; obtain ⟨n,_,rfl⟩:=List.mem_map.1 he; rfl
theorem carO_place2 (t:Tray) (s:Cs):(ownW (carO t s) [] 1002).isPlace = false:=rfl
theorem carO_place3 (t:Tray) (s:Cs):(ownW (carO t s) [] 1003).isPlace = false:=rfl
set_option maxRecDepth 20000 in
set_option maxHeartbeats 8000000 in
theorem mark71 (t:Tray) (s:Cs) (side:Int) (h1:s.spells.length ≤ 5000) :
  FSpecL Tryz.prog 145 [.bp 1000 0,iv side] (carO t s) [] (fun res l' => res = .tup [] ∧ l' = carO t (s.mark side)):=by
 have hmax:maxLen = 9223372036854775807:=rfl
 have hs4:=sps_four s.spells
 refine FSpecL_ofX c145 (by first | simp | exact Nat.le_of_ble_eq_true rfl) (Nat.le_refl _) (by decide) (by decide) fun C hP hN hC hpin hL => ?_; rw [init_env',ownW_upd (by first | simp | exact Nat.le_of_ble_eq_true rfl)]; simp only [ir145,updL,updLo,List.map_nil,List.map_cons,Nat.reduceAdd,carO,carC]
 refine WV_post ?_
 (repeat ((first | refine Va ?_ | refine Vb ?_ | refine Vc ?_ | refine Vd ?_ | refine Ve ?_ | refine Vf ?_); (try simp only [go_sem,hP,hs4,List.length_append,List.length_map]); (repeat refine qJ ?_)))
 refine ⟨_,fun a w hg => Gam_move (d:=25) (n:=1002) (by decide) (fun h => by have:=hpin 1002 h; rw [carO_place2] at this; cases this) rfl hg,?_⟩
 simp only [go_sem]
 ((try simp only [thenQ,inQ,RetQL,RetOkL,resAll,resA]); (try simp only [go_sem,tupA,AV.keepP,AV.keepPL]); refine ⟨_,carO t (s.mark side),rfl,KeepL_mk rfl rfl ?_ ?_ rfl,?_⟩)
 ·simp only [go_sem,keepAll,Ob.keepP,AV.keepP,AV.keepPL,carO,carC,Cs.mark,List.map_append,Sp.cds]
 ·simp only [go_sem,winAll]
 ·exact ⟨rfl,rfl⟩
def idxB (v:Bool):List Bool → Int → Int
 | [],_ => -1
 | b :: l,k => if v == b then k else idxB v l (k + 1)
theorem idxB_any:∀ (l:List Bool) (k:Int),0 ≤ k → decide (0 ≤ idxB true l k) = !(l.all (!·))
 | [],k,_ => rfl
 | b :: l,k,hk => by
  cases b
  ·have e:idxB true (false :: l) k = idxB true l (k + 1):=rfl
   rw [e,idxB_any l (k + 1) (by omega)]
   rfl
  ·have e:idxB true (true :: l) k = k:=rfl
   rw [e]
   simp; omega
set_option maxHeartbeats 4000000 in
theorem index89 (l:List Bool) (v:Bool) (hl:l.length ≤ 1000):FSpec Tryz.prog 203 [.c (.sl 1 (l.map bcd)),bv v] (iv (idxB v l 0)):=by
 refine FSpec_of c203 (Nat.le_refl _) (by decide) fun C hP hN hC hL => ?_; rw [init_st]
 simp only [ir203]
 (repeat ((first | refine Va ?_ | refine Vb ?_ | refine Vc ?_ | refine Vd ?_ | refine Ve ?_ | refine Vf ?_); (try simp only [go_sem,hP,List.length_map]); (repeat refine qJ ?_)))
 (refine WV_loopK K203_1 [] (fun k:Nat => k ≤ l.length ∧ idxB v l 0 = idxB v (l.drop k) k) (fun k => l.length - k) (fun k => [(8,iv k)]) (fun _ => []) 0 ⟨Nat.zero_le _,rfl⟩ ?_ ?_)
 ·exact Sub_au
 ·intro k ⟨hk,hx⟩
  simp only [go_sem]
  (repeat ((first | refine Va ?_ | refine Vb ?_ | refine Vc ?_ | refine Vd ?_ | refine Ve ?_ | refine Vf ?_); (try simp only [go_sem,hP]); (repeat refine qJ ?_)))
  (refine WV_cond rfl (fun h => ?_) (fun h => ?_))
  ·have h:k < l.length:=by simpa using h
   have hI:(k:Int) < (l.length:Int):=by omega
   have hw2:=w64 (n:=(k:Int) + 1) (by omega) (by omega)
   rw [List.drop_eq_getElem_cons h] at hx
   simp only [idxB] at hx
   (repeat ((first | refine Va ?_ | refine Vb ?_ | refine Vc ?_ | refine Vd ?_ | refine Ve ?_ | refine Vf ?_); (try simp only [go_sem,hP,map_getD h,hI,List.length_map,bcd]); (repeat refine qJ ?_)))
   cases hb:(v == l[k])
   ·rw [hb] at hx
    (refine WV_cond rfl (fun h => ?_) (fun h => ?_))
    ·simp at h
    ·(repeat ((first | refine Va ?_ | refine Vb ?_ | refine Vc ?_ | refine Vd ?_ | refine Ve ?_ | refine Vf ?_); (try simp only [go_sem,hP,hw2]); (repeat refine qJ ?_)))
     refine ⟨k + 1,⟨by omega,by rw [hx]; rfl⟩,by omega,?_⟩
     exact Sub_au
   ·rw [hb] at hx
    (refine WV_cond rfl (fun h => ?_) (fun h => ?_))
    ·(repeat ((first | refine Va ?_ | refine Vb ?_ | refine Vc ?_ | refine Vd ?_ | refine Ve ?_ | refine Vf ?_); (try simp only [go_sem,hP]); (repeat refine qJ ?_)))
     (refine WV_ret ?_; simp only [thenQ,inQ,RetQ,RetOk,resAll,resA]; simp only [go_sem,tupA,AV.port,AV.portL,exists_eq_left']; (first | exact AVle.of rfl | refine AVle.of ?_ | skip))
     rw [hx]; rfl
    ·simp at h
  ·have h:k = l.length:=by simp at h; omega
   subst h
   (repeat ((first | refine Va ?_ | refine Vb ?_ | refine Vc ?_ | refine Vd ?_ | refine Ve ?_ | refine Vf ?_); (try simp only [go_sem,hP]); (repeat refine qJ ?_)))
   (refine WV_ret ?_; simp only [thenQ,inQ,RetQ,RetOk,resAll,resA]; simp only [go_sem,tupA,AV.port,AV.portL,exists_eq_left']; (first | exact AVle.of rfl | refine AVle.of ?_ | skip))
   rw [hx,List.drop_length]
   rfl
theorem contains82 (l:List Bool) (hl:l.length ≤ 1000):FSpec Tryz.prog 178 [.c (.sl 1 (l.map bcd)),bv true] (bv (!(l.all (!·)))):=by
 refine FSpec_of c178 (Nat.le_refl _) (by decide) fun C hP hN hC hL => ?_; rw [init_st]
 simp only [ir178]
 (repeat ((first | refine Va ?_ | refine Vb ?_ | refine Vc ?_ | refine Vd ?_ | refine Ve ?_ | refine Vf ?_); (try simp only [go_sem,hP]); (repeat refine qJ ?_)))
 (refine AS_pu (index89 l true hl) ?_; simp only [go_sem,hP]; (repeat refine qJ ?_); (repeat ((first | refine Va ?_ | refine Vb ?_ | refine Vc ?_ | refine Vd ?_ | refine Ve ?_ | refine Vf ?_); (try simp only [go_sem,hP]); (repeat refine qJ ?_))))
 (refine WV_ret ?_; simp only [thenQ,inQ,RetQ,RetOk,resAll,resA]; simp only [go_sem,tupA,AV.port,AV.portL,exists_eq_left']; (first | exact AVle.of rfl | refine AVle.of ?_ | skip))
 exact congrArg (fun b => AV.c (CD.bool b)) (idxB_any l 0 (Int.le_refl _))
theorem last83 {t:Tray} (ht:TrayOk t) (s:Nat) (hs:s < 2 * t.n):FSpec Tryz.prog 179 [t.av,iv s] (iv (secs t s)):=by
 have hn6:=ht.n6
 have e1:((s:Int)).tmod 2 = ((s % 2:Nat):Int):=by rw [Int.tmod_eq_emod_of_nonneg (by omega)]; omega
 have e2:((s:Int)).tdiv 2 = ((s / 2:Nat):Int):=by rw [Int.tdiv_eq_ediv_of_nonneg (by omega)]; omega
 have hk:s / 2 < t.recs.length:=by show s / 2 < t.n; omega
 have hI:((s / 2:Nat):Int) < (t.recs.length:Int):=by omega
 have w1:=w64 (n:=((s / 2:Nat):Int)) (by omega) (by omega)
 have hrc:t.rc (s / 2) = t.recs[s / 2]:=by unfold Tray.rc; simp [hk]
 refine FSpec_of c179 (Nat.le_refl _) (by decide) fun C hP hN hC hL => ?_; rw [init_st]
 simp only [ir179,Tray.av]
 (repeat ((first | refine Va ?_ | refine Vb ?_ | refine Vc ?_ | refine Vd ?_ | refine Ve ?_ | refine Vf ?_); (try simp only [go_sem,hP,e1]); (repeat refine qJ ?_)))
 (refine WV_cond rfl (fun h => ?_) (fun h => ?_))
 ·have h:s % 2 = 0:=by simp at h; omega
  (repeat ((first | refine Va ?_ | refine Vb ?_ | refine Vc ?_ | refine Vd ?_ | refine Ve ?_ | refine Vf ?_); (try simp only [go_sem,hP,e2,w1,recsC,List.length_map,hI,map_getD hk,Rec.cds,Int.natCast_nonneg]); (repeat refine qJ ?_)))
  (refine WV_ret ?_; simp only [thenQ,inQ,RetQ,RetOk,resAll,resA]; simp only [go_sem,tupA,AV.port,AV.portL,exists_eq_left']; (first | exact AVle.of rfl | refine AVle.of ?_ | skip))
  rw [secs,if_pos h,hrc]
 ·have h:¬ s % 2 = 0:=by simp at h; omega
  (repeat ((first | refine Va ?_ | refine Vb ?_ | refine Vc ?_ | refine Vd ?_ | refine Ve ?_ | refine Vf ?_); (try simp only [go_sem,hP,e2,w1,recsC,List.length_map,hI,map_getD hk,Rec.cds,Int.natCast_nonneg]); (repeat refine qJ ?_)))
  (refine WV_ret ?_; simp only [thenQ,inQ,RetQ,RetOk,resAll,resA]; simp only [go_sem,tupA,AV.port,AV.portL,exists_eq_left']; (first | exact AVle.of rfl | refine AVle.of ?_ | skip))
  rw [secs,if_neg h,hrc]
set_option maxRecDepth 20000 in
set_option maxHeartbeats 8000000 in
theorem press81 {t:Tray} (ht:TrayOk t) {s:Cs} (hs:CsOk t s) (hq:s.q.length ≤ 1000) :
  FSpecL Tryz.prog 177 [.bp 1000 0] (carO t s) [] (fun res l' => res = .tup [] ∧ l' = carO t s.press):=by
 have hn6:=ht.n6
 have hp:=hs.pins
 have hqo:=hs.q
 refine FSpecL_of c177 (by first | simp | exact Nat.le_of_ble_eq_true rfl) (Nat.le_refl _) (by decide) (by decide) fun C hP hN hC hL => ?_; rw [init_env',ownW_upd (by first | simp | exact Nat.le_of_ble_eq_true rfl)]; simp only [ir177,updL,updLo,List.map_nil,List.map_cons,Nat.reduceAdd,carO,carC]
 (repeat ((first | refine Va ?_ | refine Vb ?_ | refine Vc ?_ | refine Vd ?_ | refine Ve ?_ | refine Vf ?_); (try simp only [go_sem,hP]); (repeat refine qJ ?_)))
 refine WV_loopK K177_1 [1000,1001] (fun p:List Pr × List Bool => p.1.length ≤ 1000 ∧ p.2.length = 2 * t.n ∧ (∀ x ∈ p.1,0 ≤ x.side ∧ x.side < 2 * (t.n:Int)) ∧ pressQ s.now s.q s.pins = pressQ s.now p.1 p.2) (fun p => p.1.length) (fun _ => [])
  (fun p => [(1000,.box (carC t { s with q:=p.1,pins:=p.2 })),(1001,.box (cellsG bcd p.2 0))]) (s.q,s.pins) ⟨hq,hp,fun x hx => (hqo x hx).1,rfl⟩ ?_ ?_
 ·simp only [carC]
  exact Sub_au
 ·rintro ⟨q,pins⟩ ⟨hl,hpl,hqs,hpq⟩
  simp only at hl hpl hqs hpq
  simp only [go_sem,carC]
  cases q with
  | nil =>
   (repeat ((first | refine Va ?_ | refine Vb ?_ | refine Vc ?_ | refine Vd ?_ | refine Ve ?_ | refine Vf ?_); (try simp only [go_sem,hP,prsC,List.map_nil,List.length_nil,Int.natCast_zero]); (repeat refine qJ ?_)))
   (refine WV_cond rfl (fun h => ?_) (fun h => ?_))
   ·simp at h
   ·(refine WV_exit ?_; simp only [go_sem])
    ((try simp only [thenQ,inQ,RetQL,RetOkL,resAll,resA]); (try simp only [go_sem,tupA,AV.keepP,AV.keepPL]); refine ⟨_,carO t s.press,rfl,KeepL_mk rfl rfl ?_ ?_ rfl,?_⟩)
    ·have e1:s.press.q = []:=by simp only [Cs.press,hpq]; rfl
     have e2:s.press.pins = pins:=by simp only [Cs.press,hpq]; rfl
     simp only [carO,carC,e1,e2]
     simp only [go_sem,keepAll,Ob.keepP,AV.keepP,AV.keepPL,Cs.press,prsC,List.map_nil]
    ·simp only [go_sem,winAll]
    ·exact ⟨rfl,rfl⟩
  | cons p q =>
   have hps:=hqs p (by simp)
   have hlen:q.length + 1 ≤ 1000:=hl
   have hd:decide ((0:Int) < ((q.length + 1:Nat):Int)) = true:=by simp
   have e1:(((q.length + 1:Nat):Int)).toNat = q.length + 1:=by omega
   have e2:(q.map Pr.cds).take q.length = q.map Pr.cds:=List.take_of_length_le (by simp)
   have hI:(0:Int) < ((q.length + 1:Nat):Int):=by omega
   have hI1:(1:Int) ≤ ((q.length + 1:Nat):Int):=by omega
   have z1:((0:Int)).toNat = 0:=rfl
   have z2:((1:Int)).toNat = 1:=rfl
   simp only [pressQ] at hpq
   (repeat ((first | refine Va ?_ | refine Vb ?_ | refine Vc ?_ | refine Vd ?_ | refine Ve ?_ | refine Vf ?_); (try simp only [go_sem,hP,prsC,List.map_cons,List.length_cons,hd,hI,z1,Pr.cds]); (repeat refine qJ ?_)))
   (refine WV_cond rfl (fun h => ?_) (fun h => ?_))
   ·have h:p.time ≤ s.now:=by simpa using h
    rw [if_pos h] at hpq
    have hk:p.side.toNat < pins.length:=by omega
    have hcl:(cellsG bcd pins 0).length = 2 * t.n:=by rw [cellsG_len bcd_one,hpl]; omega
    have hset:(cellsG bcd pins 0).set p.side.toNat (.c (.bool true)) = cellsG bcd (pins.set p.side.toNat true) 0:=by
     have:=cellsG_set bcd_one hk 0 0 (by decide) (.bool true) true rfl
     rwa [Nat.mul_one,Nat.add_zero] at this
    have hI2:p.side < ((2 * t.n:Nat):Int):=by omega
    have hc1:p.side.toNat < 2 * t.n:=by omega
    have hc2:p.side.toNat + 1 ≤ 2 * t.n:=by omega
    (repeat ((first | refine Va ?_ | refine Vb ?_ | refine Vc ?_ | refine Vd ?_ | refine Ve ?_ | refine Vf ?_); (try simp only [go_sem,hP,prsC,List.map_cons,List.length_cons,hI,hI1,z1,z2,e1,e2,hps.1,hI2,hcl,hc1,hc2,hset,Pr.cds]); (repeat refine qJ ?_)))
    refine ⟨(q,pins.set p.side.toNat true),⟨by simp only; omega,by simpa using hpl,fun x hx => hqs x (by simp [hx]),hpq⟩,by simp,?_⟩
    simp only [carC,prsC]
    exact Sub_au
   ·have h:¬ p.time ≤ s.now:=by simpa using h
    rw [if_neg h] at hpq
    (refine WV_exit ?_; simp only [go_sem])
    ((try simp only [thenQ,inQ,RetQL,RetOkL,resAll,resA]); (try simp only [go_sem,tupA,AV.keepP,AV.keepPL]); refine ⟨_,carO t s.press,rfl,KeepL_mk rfl rfl ?_ ?_ rfl,?_⟩)
    ·have e1:s.press.q = p :: q:=by simp only [Cs.press,hpq]
     have e2:s.press.pins = pins:=by simp only [Cs.press,hpq]
     simp only [carO,carC,e1,e2]
     simp only [go_sem,keepAll,Ob.keepP,AV.keepP,AV.keepPL,Cs.press,prsC,List.map_cons,Pr.cds]
    ·simp only [go_sem,winAll]
    ·exact ⟨rfl,rfl⟩
end Go.Proofs.YtefoconkepmmgaaGreatDoor

namespace Go.Proofs.YtefoconkepmmgaaGreatDoor
open Go Go.V
abbrev o180_0:List Ins:=[JF 3 (Jm 0),JF 4 (.nilc (.t 3)),JF 5 (Jf 8 4),JF 6 (Jf 0 5),JF 7 (Jl 6),JF 8 (Jm 0),JF 9 (.nilc (.t 8)),JF 10 (Jf 8 9),JF 11 (Jf 1 10),JF 12 (Jl 11),JS 13 (Jb .add 7 12),JS 2 (Jm 13)]
abbrev o180_1:List Ins:=[JS 14 (Jm 2),JS 15 (Jk .geq 14 0),JS 16 (Jm 15),JG 17 (Jm 2) 16 true,JG 18 (Jm 0) 16 true,JG 19 (.nilc (.t 18)) 16 true,JG 20 (Jf 0 19) 16 true,JG 21 (Jf 0 20) 16 true,JG 22 (Jl 21) 16 true,JG 23 (Jn 22) 16 true,JG 24 (Jb .lss 17 23) 16 true,JS 25 (Jp 16 24)]
abbrev o180_2:List Ins:=[JS 26 (Jm 0),JS 27 (Jm 2),JS 28 (.nilc (.t 26)),JS 29 (Jf 8 28),JS 30 (Jf 0 29),JN (Js 1 30 27)]
abbrev o180_3:List Ins:=[JF 31 (Jm 0),JF 32 (.nilc (.t 31)),JF 33 (Jf 7 32),JF 34 (Jl 33),JF 35 (Jm 0),JF 36 (.nilc (.t 35)),JF 37 (Jf 0 36),JF 38 (Jf 3 37),JF 39 (Jl 38),JS 40 (Jb .add 34 39),JS 41 (.nilc (.t 31)),JS 42 (Jf 7 41),JN (Js 1 42 40)]
abbrev o180_4:List Ins:=[JS 43 (Jm 0),JS 44 (.nilc (.t 43)),JS 45 (Jf 11 44),JS 46 (Jf 2 45),JS 47 (Jl 46),JS 48 (Jk .add 47 1),JS 49 (.nilc (.t 43)),JS 50 (Jf 11 49),JS 51 (Jf 2 50),JN (Js 1 51 48)]
abbrev v180_5:VC:=(.seq (.dops o180_3) (.ops o180_4))
abbrev v180_6:VC:=(.seq (.ops o180_2) v180_5)
abbrev o180_7:List Ins:=[JS 52 (Jm 0),JS 53 (Jm 0),JS 54 (.nilc (.t 53)),JS 55 (Jf 8 54),JS 56 (Jf 1 55),JS 57 (Jl 56),JS 58 (.un .neg (.t 57)),JS 59 (.nilc (.t 52)),JS 60 (Jf 8 59),JS 61 (Jf 1 60),JN (Js 1 61 58)]
abbrev v180_8:VC:=(.cond (.t 25) v180_6 (.ops o180_7))
abbrev v180_9:VC:=(.seq (.ops o180_1) v180_8)
abbrev o180_10:List Ins:=[JS 62 (Jm 0),JS 63 (Jc 145 [.t 62,(.k (Jz (-1)))])]
def ir180:FC:=⟨1,64,[],(.seq (.seq (.dops o180_0) v180_9) (.ops o180_10))⟩
theorem c180:compM Tryz.prog [] 180 = some ir180:=by kernel_rfl
attribute [local go_sem] Nat.reduceEqDiff Nat.reduceAdd Nat.reduceMul reduceIte Nat.reduceLeDiff Nat.reduceLT Nat.reduceBEq reduceCtorEq
set_option maxRecDepth 20000 in
set_option maxHeartbeats 16000000 in
theorem next84 {t:Tray} (ht:TrayOk t) {s:Cs} (hs:CsOk t s) (h1:s.spells.length ≤ 5000) (h2:s.now ≤ 1000000) (h3:0 ≤ s.steps ∧ s.steps ≤ 1000000) :
  FSpecL Tryz.prog 180 [.bp 1000 0] (carO t s) [] (fun res l' => res = .tup [] ∧ l' = carO t (s.next t)):=by
 have hn6:=ht.n6
 have hat:=hs.at_
 have hnow:=hs.now
 have hst:=ht.step
 have hnl:t.recs.length = t.n:=rfl
 have w1:=w64 (n:=s.now + t.step) (by omega) (by omega)
 have w2:=w64 (n:=s.steps + 1) (by omega) (by omega)
 refine FSpecL_of c180 (by first | simp | exact Nat.le_of_ble_eq_true rfl) (Nat.le_refl _) (by decide) (by decide) fun C hP hN hC hL => ?_; rw [init_env',ownW_upd (by first | simp | exact Nat.le_of_ble_eq_true rfl)]; simp only [ir180,updL,updLo,List.map_nil,List.map_cons,Nat.reduceAdd,carO,carC]
 cases hu:s.up
 ·have hw:wayI false = -1:=rfl
  have hwn:IntKind.i64.wrap (0 - -1) = 1:=by decide
  have w3:=w64 (n:=(s.at_:Int) + -1) (by omega) (by omega)
  have hI2:decide ((s.at_:Int) + -1 < (t.n:Int)) = true:=by simp; omega
  by_cases h0:0 < s.at_
  ·have ea:(s.at_:Int) + -1 = ((s.at_ - 1:Nat):Int):=by omega
   rw [ea] at w3 hI2
   have em:s.move t = { s with at_:=s.at_ - 1,now:=s.now + t.step,steps:=s.steps + 1 }:=by simp [Cs.move,hu,h0]
   have hmk:=mark71 t { s with at_:=s.at_ - 1,now:=s.now + t.step,steps:=s.steps + 1 } (-1) h1
   (repeat ((first | refine Va ?_ | refine Vb ?_ | refine Vc ?_ | refine Vd ?_ | refine Ve ?_ | refine Vf ?_); (try simp only [go_sem,hP,hw,ea,w3,recsC,List.length_map,hnl,hI2]); (repeat refine qJ ?_)))
   (refine WV_cond rfl (fun h => ?_) (fun h => ?_))
   ·(repeat ((first | refine Va ?_ | refine Vb ?_ | refine Vc ?_ | refine Vd ?_ | refine Ve ?_ | refine Vf ?_); (try simp only [go_sem,hP,w1,w2]); (repeat refine qJ ?_)))
    (refine AS_lend [1000,1001,1002,1003] (hmk) rfl rfl rfl (by decide) rfl (by simp only [go_sem,obsLend,Ob.lend,AV.lend,AV.lendL,carO,carC,hu,hw,recsC]) ?_)
    rintro r l' ⟨rfl,rfl⟩
    (refine ⟨_,_,rfl,(by simp only [carO,carC,obsBack,Ob.back,AV.back,AV.backL,back_cellsG,hu,hw]; rfl),?_⟩; simp only [go_sem,hP,ownBack,hu,hw])
    ((try simp only [thenQ,inQ,RetQL,RetOkL,resAll,resA]); (try simp only [go_sem,tupA,AV.keepP,AV.keepPL]); refine ⟨_,carO t (s.next t),rfl,KeepL_mk rfl rfl ?_ ?_ rfl,?_⟩)
    ·simp only [Cs.next,em]
     simp only [go_sem,keepAll,Ob.keepP,AV.keepP,AV.keepPL,carO,carC,Cs.mark,hu,hw,recsC]
    ·simp only [go_sem,winAll]
    ·exact ⟨rfl,rfl⟩
   ·simp at h
  ·have ea:s.at_ = 0:=by omega
   have em:s.move t = { s with up:=true }:=by simp [Cs.move,hu,h0]
   have hmk:=mark71 t { s with up:=true } (-1) h1
   have hd:decide ((0:Int) ≤ (s.at_:Int) + -1) = false:=by simp; omega
   (repeat ((first | refine Va ?_ | refine Vb ?_ | refine Vc ?_ | refine Vd ?_ | refine Ve ?_ | refine Vf ?_); (try simp only [go_sem,hP,hw,w3,recsC,List.length_map,hnl,hI2,hd]); (repeat refine qJ ?_)))
   (refine WV_cond rfl (fun h => ?_) (fun h => ?_))
   ·simp at h
   ·(repeat ((first | refine Va ?_ | refine Vb ?_ | refine Vc ?_ | refine Vd ?_ | refine Ve ?_ | refine Vf ?_); (try simp only [go_sem,hP,hwn]); (repeat refine qJ ?_)))
    (refine AS_lend [1000,1001,1002,1003] (hmk) rfl rfl rfl (by decide) rfl (by simp only [go_sem,obsLend,Ob.lend,AV.lend,AV.lendL,carO,carC,hu,hw,wayI,recsC]) ?_)
    rintro r l' ⟨rfl,rfl⟩
    (refine ⟨_,_,rfl,(by simp only [carO,carC,obsBack,Ob.back,AV.back,AV.backL,back_cellsG,hu,hw]; rfl),?_⟩; simp only [go_sem,hP,ownBack,hu,hw])
    ((try simp only [thenQ,inQ,RetQL,RetOkL,resAll,resA]); (try simp only [go_sem,tupA,AV.keepP,AV.keepPL]); refine ⟨_,carO t (s.next t),rfl,KeepL_mk rfl rfl ?_ ?_ rfl,?_⟩)
    ·simp only [Cs.next,em]
     simp only [go_sem,keepAll,Ob.keepP,AV.keepP,AV.keepPL,carO,carC,Cs.mark,wayI,recsC]
    ·simp only [go_sem,winAll]
    ·exact ⟨rfl,rfl⟩
 ·have hw:wayI true = 1:=rfl
  have hwn:IntKind.i64.wrap (0 - 1) = -1:=by decide
  have w3:=w64 (n:=(s.at_:Int) + 1) (by omega) (by omega)
  have hI2:decide ((0:Int) ≤ (s.at_:Int) + 1) = true:=by simp; omega
  by_cases h0:s.at_ + 1 < t.n
  ·have ea:(s.at_:Int) + 1 = ((s.at_ + 1:Nat):Int):=by omega
   rw [ea] at w3 hI2
   have em:s.move t = { s with at_:=s.at_ + 1,now:=s.now + t.step,steps:=s.steps + 1 }:=by simp [Cs.move,hu,h0]
   have hmk:=mark71 t { s with at_:=s.at_ + 1,now:=s.now + t.step,steps:=s.steps + 1 } (-1) h1
   have hd:decide (((s.at_ + 1:Nat):Int) < (t.n:Int)) = true:=by simp; omega
   (repeat ((first | refine Va ?_ | refine Vb ?_ | refine Vc ?_ | refine Vd ?_ | refine Ve ?_ | refine Vf ?_); (try simp only [go_sem,hP,hw,ea,w3,recsC,List.length_map,hnl,hI2,hd]); (repeat refine qJ ?_)))
   (refine WV_cond rfl (fun h => ?_) (fun h => ?_))
   ·(repeat ((first | refine Va ?_ | refine Vb ?_ | refine Vc ?_ | refine Vd ?_ | refine Ve ?_ | refine Vf ?_); (try simp only [go_sem,hP,w1,w2]); (repeat refine qJ ?_)))
    (refine AS_lend [1000,1001,1002,1003] (hmk) rfl rfl rfl (by decide) rfl (by simp only [go_sem,obsLend,Ob.lend,AV.lend,AV.lendL,carO,carC,hu,hw,recsC]) ?_)
    rintro r l' ⟨rfl,rfl⟩
    (refine ⟨_,_,rfl,(by simp only [carO,carC,obsBack,Ob.back,AV.back,AV.backL,back_cellsG,hu,hw]; rfl),?_⟩; simp only [go_sem,hP,ownBack,hu,hw])
    ((try simp only [thenQ,inQ,RetQL,RetOkL,resAll,resA]); (try simp only [go_sem,tupA,AV.keepP,AV.keepPL]); refine ⟨_,carO t (s.next t),rfl,KeepL_mk rfl rfl ?_ ?_ rfl,?_⟩)
    ·simp only [Cs.next,em]
     simp only [go_sem,keepAll,Ob.keepP,AV.keepP,AV.keepPL,carO,carC,Cs.mark,hu,hw,recsC]
    ·simp only [go_sem,winAll]
    ·exact ⟨rfl,rfl⟩
   ·simp at h
  ·have em:s.move t = { s with up:=false }:=by simp [Cs.move,hu,h0]
   have hmk:=mark71 t { s with up:=false } (-1) h1
   have hd:decide ((s.at_:Int) + 1 < (t.n:Int)) = false:=by simp; omega
   (repeat ((first | refine Va ?_ | refine Vb ?_ | refine Vc ?_ | refine Vd ?_ | refine Ve ?_ | refine Vf ?_); (try simp only [go_sem,hP,hw,w3,recsC,List.length_map,hnl,hI2,hd]); (repeat refine qJ ?_)))
   (refine WV_cond rfl (fun h => ?_) (fun h => ?_))
   ·simp at h
   ·(repeat ((first | refine Va ?_ | refine Vb ?_ | refine Vc ?_ | refine Vd ?_ | refine Ve ?_ | refine Vf ?_); (try simp only [go_sem,hP,hwn]); (repeat refine qJ ?_)))
    (refine AS_lend [1000,1001,1002,1003] (hmk) rfl rfl rfl (by decide) rfl (by simp only [go_sem,obsLend,Ob.lend,AV.lend,AV.lendL,carO,carC,hu,hw,wayI,recsC]) ?_)
    rintro r l' ⟨rfl,rfl⟩
    (refine ⟨_,_,rfl,(by simp only [carO,carC,obsBack,Ob.back,AV.back,AV.backL,back_cellsG,hu,hw]; rfl),?_⟩; simp only [go_sem,hP,ownBack,hu,hw])
    ((try simp only [thenQ,inQ,RetQL,RetOkL,resAll,resA]); (try simp only [go_sem,tupA,AV.keepP,AV.keepPL]); refine ⟨_,carO t (s.next t),rfl,KeepL_mk rfl rfl ?_ ?_ rfl,?_⟩)
    ·simp only [Cs.next,em]
     simp only [go_sem,keepAll,Ob.keepP,AV.keepP,AV.keepPL,carO,carC,Cs.mark,wayI,recsC]
    ·simp only [go_sem,winAll]
    ·exact ⟨rfl,rfl⟩
end Go.Proofs.YtefoconkepmmgaaGreatDoor

namespace Go.Proofs.YtefoconkepmmgaaGreatDoor
open Go Go.V
abbrev o146_0:List Ins:=[JS 2 (JB false)]
abbrev o146_1:List Ins:=[JS 4 (Jm 0),JS 5 (Jc 177 [.t 4])]
abbrev o146_2:List Ins:=[JS 6 (Jm 0),JS 7 (.nilc (.t 6)),JS 8 (Jf 6 7),JS 9 (Jl 8),JS 10 (Jc 178 [.t 9,(.k (.c (.bool true)))]),JS 11 (.un .not (.t 10))]
abbrev o146_3:List Ins:=[JS 12 (Jm 0),JS 13 (.nilc (.t 12)),JS 14 (Jf 5 13),JS 15 (Jl 14),JS 16 (Jn 15),JS 17 (Jk .eql 16 0)]
abbrev o146_4:List Ins:=[JS 2 (JB false)]
abbrev v146_5:VC:=(.seq (.ops o146_4) .ret)
abbrev v146_6:VC:=(.cond (.t 17) v146_5 .skip)
abbrev o146_7:List Ins:=[JS 18 (Jm 0),JS 19 (Jm 0),JS 20 (.nilc (.t 19)),JS 21 (Jf 5 20),JS 22 (Jl 21),JS 23 (.ia 2 (.t 22) (.k (Jz 0))),JS 24 (Jf 1 23),JS 25 (Jl 24),JS 26 (.nilc (.t 18)),JS 27 (Jf 7 26),JN (Js 1 27 25)]
abbrev o146_8:List Ins:=[JS 2 (JB true)]
abbrev v146_9:VC:=(.seq (.ops o146_8) .ret)
abbrev v146_10:VC:=(.seq (.ops o146_7) v146_9)
abbrev v146_11:VC:=(.seq (.seq (.ops o146_3) v146_6) v146_10)
abbrev v146_12:VC:=(.cond (.t 11) v146_11 .skip)
abbrev o146_13:List Ins:=[JS 28 (Jm 0),JS 29 (.nilc (.t 28)),JS 30 (Jf 8 29),JS 31 (Jf 0 30),JS 32 (Jl 31),JS 33 (.bin .mul (.k (Jz 2)) (.t 32)),JS 3 (Jm 33)]
abbrev o146_14:List Ins:=[JS 34 (Jm 0),JS 35 (.nilc (.t 34)),JS 36 (Jf 8 35),JS 37 (Jf 1 36),JS 38 (Jl 37),JS 39 (Jk .lss 38 0)]
abbrev o146_15:List Ins:=[JS 40 (Jm 3),JS 41 (Jk .add 40 1),JS 3 (Jm 41)]
abbrev v146_16:VC:=(.cond (.t 39) (.ops o146_15) .skip)
abbrev o146_17:List Ins:=[JS 42 (Jm 0),JS 43 (.nilc (.t 42)),JS 44 (Jf 6 43),JS 45 (Jl 44),JS 46 (Jm 3),JS 47 (Ja 1 45 46),JS 48 (Jl 47)]
abbrev o146_18:List Ins:=[JS 49 (Jm 0),JS 50 (.nilc (.t 49)),JS 51 (Jf 6 50),JS 52 (Jl 51),JS 53 (Jm 3),JS 54 (Ja 1 52 53),JN (.st 1 (.t 54) (.k (.c (.bool false))))]
abbrev o146_19:List Ins:=[JF 55 (Jm 0),JF 56 (Jm 0),JF 57 (.nilc (.t 56)),JF 58 (Jf 11 57),JF 59 (Jf 1 58),JF 60 (Jl 59),JF 61 (Jm 3),JF 62 (Jm 0),JF 63 (.nilc (.t 62)),JF 64 (Jf 7 63),JF 65 (Jl 64),JF 66 (.bld [Jz 0,Jz 0] [(0,1,(.t 61)),(1,1,(.t 65))]),JF 67 (.bsl 148 2 [.t 66]),JF 68 (.app 148 2 16 (.t 60) (.t 67)),JS 69 (.nilc (.t 55)),JS 70 (Jf 11 69),JS 71 (Jf 1 70),JN (Js 1 71 68)]
abbrev o146_20:List Ins:=[JS 72 (Jm 0),JS 73 (Jm 3),JS 74 (Jc 145 [.t 72,.t 73])]
abbrev o146_21:List Ins:=[JF 75 (Jm 0),JF 76 (.nilc (.t 75)),JF 77 (Jf 7 76),JF 78 (Jl 77),JF 79 (Jm 0),JF 80 (.nilc (.t 79)),JF 81 (Jf 0 80),JF 82 (JL 5 81),JF 83 (Jm 3),JF 84 (Jc 179 [.t 82,.t 83]),JS 85 (Jb .add 78 84),JS 86 (.nilc (.t 75)),JS 87 (Jf 7 86),JN (Js 1 87 85)]
abbrev o146_22:List Ins:=[JS 88 (Jm 0),JS 89 (Jm 0),JS 90 (.nilc (.t 89)),JS 91 (Jf 7 90),JS 92 (Jl 91),JS 93 (.nilc (.t 88)),JS 94 (Jf 11 93),JS 95 (Jf 3 94),JN (Js 1 95 92)]
abbrev o146_23:List Ins:=[JS 96 (Jm 0),JS 97 (Jc 145 [.t 96,(.k (Jz (-1)))])]
abbrev v146_24:VC:=(.seq (.ops o146_22) (.ops o146_23))
abbrev v146_25:VC:=(.seq (.dops o146_21) v146_24)
abbrev v146_26:VC:=(.seq (.ops o146_20) v146_25)
abbrev v146_27:VC:=(.seq (.dops o146_19) v146_26)
abbrev v146_28:VC:=(.seq (.ops o146_18) v146_27)
abbrev v146_29:VC:=(.cond (.t 48) v146_28 .skip)
abbrev o146_30:List Ins:=[JS 98 (Jm 0),JS 99 (Jc 180 [.t 98])]
abbrev o146_31:List Ins:=[JS 2 (JB true)]
abbrev v146_32:VC:=(.seq (.ops o146_31) .ret)
abbrev v146_33:VC:=(.seq (.ops o146_30) v146_32)
abbrev v146_34:VC:=(.seq (.seq (.ops o146_17) v146_29) v146_33)
abbrev v146_35:VC:=(.seq (.seq (.ops o146_14) v146_16) v146_34)
abbrev v146_36:VC:=(.seq (.ops o146_13) v146_35)
abbrev v146_37:VC:=(.seq (.seq (.ops o146_2) v146_12) v146_36)
abbrev v146_38:VC:=(.seq (.ops o146_1) v146_37)
def ir146:FC:=⟨1,100,[.t 2],(.seq (.ops o146_0) v146_38)⟩
theorem c146:compM Tryz.prog [] 146 = some ir146:=by kernel_rfl
attribute [local go_sem] Nat.reduceEqDiff Nat.reduceAdd Nat.reduceMul reduceIte Nat.reduceLeDiff Nat.reduceLT Nat.reduceBEq reduceCtorEq
def actPQ (t:Tray) (s:Cs) (res:AV) (l':List Ob):Prop:=(s.act t = none ∧ res = bv false ∧ l' = carO t s.press) ∨ ∃ s',s.act t = some s' ∧ res = bv true ∧ l' = carO t s'
theorem pressQ_le (now:Int):∀ (q:List Pr) (pins:List Bool),(pressQ now q pins).1.length ≤ q.length:=fun q pins => by
 obtain ⟨k,hk⟩:=pressQ_suffix now q pins
 rw [hk,List.length_drop]; omega
set_option maxRecDepth 20000 in
set_option maxHeartbeats 16000000 in
theorem act72 {t:Tray} (ht:TrayOk t) {s:Cs} (hs:CsOk t s) (hq:s.q.length ≤ 1000) (h1:s.spells.length ≤ 4900) (h2:s.now ≤ 900000) (h3:0 ≤ s.steps ∧ s.steps ≤ 900000) (h4:s.plays.length ≤ 5000) :
  FSpecL Tryz.prog 146 [.bp 1000 0] (carO t s) [] (actPQ t s):=by
 have hmax:maxLen = 9223372036854775807:=rfl
 have hn6:=ht.n6
 have hpr:=press81 ht hs hq
 have hs1:=hs.press
 have hact:s.act t = s.press.act1 t:=rfl
 have hq1:s.press.q.length ≤ 1000:=Nat.le_trans (pressQ_le _ _ _) hq
 have e1:s.press.spells = s.spells:=rfl
 have e2:s.press.now = s.now:=rfl
 have e3:s.press.steps = s.steps:=rfl
 have e4:s.press.plays = s.plays:=rfl
 rw [← e1] at h1
 rw [← e2] at h2
 rw [← e3] at h3
 rw [← e4] at h4
 refine FSpecL_ofX c146 (by first | simp | exact Nat.le_of_ble_eq_true rfl) (Nat.le_refl _) (by decide) (by decide) fun C hP hN hC hpin hL => ?_; rw [init_env',ownW_upd (by first | simp | exact Nat.le_of_ble_eq_true rfl)]; simp only [ir146,updL,updLo,List.map_nil,List.map_cons,Nat.reduceAdd,carO,carC]
 refine WV_post ?_
 (repeat ((first | refine Va ?_ | refine Vb ?_ | refine Vc ?_ | refine Vd ?_ | refine Ve ?_ | refine Vf ?_); (try simp only [go_sem,hP]); (repeat refine qJ ?_)))
 (refine AS_lend [1000,1001,1002,1003] (hpr) rfl rfl rfl (by decide) rfl (by simp only [go_sem,obsLend,Ob.lend,AV.lend,AV.lendL,carO,carC]) ?_)
 rintro r l' ⟨rfl,rfl⟩
 (refine ⟨_,_,rfl,(by simp only [carO,carC,obsBack,Ob.back,AV.back,AV.backL,back_cellsG,]; rfl),?_⟩; simp only [go_sem,hP,ownBack])
 have hpost:∀ r l',actPQ t s r l' = ((s.press.act1 t = none ∧ r = bv false ∧ l' = carO t s.press) ∨ ∃ s',s.press.act1 t = some s' ∧ r = bv true ∧ l' = carO t s'):=fun r l' => by unfold actPQ; rw [hact]
 generalize s.press = s1 at *
 have hpl:=hs1.pins
 have hat:=hs1.at_
 have hel:∀ own:Nat → Ob,own 1001 = .box (cellsG bcd s1.pins 0) → AV.elemsV own (.vw 1 1001 0 (2 * t.n) (2 * t.n)) = some (1,s1.pins.map bcd):=fun own h => by
  have:=elemsV_cellsG bcd_one own 1001 s1.pins 0 (2 * t.n) h
  rwa [hpl] at this
 (repeat ((first | refine Va ?_ | refine Vb ?_ | refine Vc ?_ | refine Vd ?_ | refine Ve ?_ | refine Vf ?_); (try simp only [go_sem,hP]); (repeat refine qJ ?_)))
 refine AS_vol (contains82 s1.pins (by omega)) rfl rfl rfl rfl ?_ rfl ?_
 ·show AV.vportL _ [.vw 1 1001 0 (2 * t.n) (2 * t.n),bv true] = _
  simp only [AV.vportL,AV.vport]
  rw [hel]
  ·rfl
  ·rfl
 simp only [go_sem,hP]
 (repeat ((first | refine Va ?_ | refine Vb ?_ | refine Vc ?_ | refine Vd ?_ | refine Ve ?_ | refine Vf ?_); (try simp only [go_sem,hP]); (repeat refine qJ ?_)))
 cases hall:s1.pins.all (!·)
 rotate_left
 ·-- nothing is asked for
  (refine WV_cond rfl (fun h => ?_) (fun h => ?_))
  ·cases hqq:s1.q with
   | nil =>
    have ha:s1.act1 t = none:=by unfold Cs.act1; rw [if_pos hall,hqq]
    (repeat ((first | refine Va ?_ | refine Vb ?_ | refine Vc ?_ | refine Vd ?_ | refine Ve ?_ | refine Vf ?_); (try simp only [go_sem,hP,prsC,hqq,List.map_nil,List.length_nil,Int.natCast_zero,beq_self_eq_true]); (repeat refine qJ ?_)))
    (refine WV_cond rfl (fun h => ?_) (fun h => ?_))
    ·(repeat ((first | refine Va ?_ | refine Vb ?_ | refine Vc ?_ | refine Vd ?_ | refine Ve ?_ | refine Vf ?_); (try simp only [go_sem,hP]); (repeat refine qJ ?_)))
     refine WV_ret ?_
     refine ⟨_,fun a w hg => hg,?_⟩
     ((try simp only [thenQ,inQ,RetQL,RetOkL,resAll,resA]); (try simp only [go_sem,tupA,AV.keepP,AV.keepPL]); refine ⟨_,carO t s1,rfl,KeepL_mk rfl rfl ?_ ?_ rfl,?_⟩)
     ·simp only [go_sem,keepAll,Ob.keepP,AV.keepP,AV.keepPL,carO,carC,prsC,hqq,List.map_nil]
     ·simp only [go_sem,winAll]
     ·rw [hpost]; exact .inl ⟨ha,rfl,rfl⟩
    ·simp at h
   | cons p q =>
    have ha:s1.act1 t = some { s1 with now:=p.time }:=by unfold Cs.act1; rw [if_pos hall,hqq]
    have hd:(((q.length + 1:Nat):Int) == 0) = false:=by simp; omega
    have hI:(0:Int) < ((q.length + 1:Nat):Int):=by omega
    have z1:((0:Int)).toNat = 0:=rfl
    (repeat ((first | refine Va ?_ | refine Vb ?_ | refine Vc ?_ | refine Vd ?_ | refine Ve ?_ | refine Vf ?_); (try simp only [go_sem,hP,prsC,hqq,List.map_cons,List.length_cons,hd]); (repeat refine qJ ?_)))
    (refine WV_cond rfl (fun h => ?_) (fun h => ?_))
    ·simp at h
    ·(repeat ((first | refine Va ?_ | refine Vb ?_ | refine Vc ?_ | refine Vd ?_ | refine Ve ?_ | refine Vf ?_); (try simp only [go_sem,hP,prsC,hqq,List.map_cons,List.length_cons,hI,z1,Pr.cds]); (repeat refine qJ ?_)))
     refine WV_ret ?_
     refine ⟨_,fun a w hg => hg,?_⟩
     ((try simp only [thenQ,inQ,RetQL,RetOkL,resAll,resA]); (try simp only [go_sem,tupA,AV.keepP,AV.keepPL]); refine ⟨_,carO t { s1 with now:=p.time },rfl,KeepL_mk rfl rfl ?_ ?_ rfl,?_⟩)
     ·simp only [go_sem,keepAll,Ob.keepP,AV.keepP,AV.keepPL,carO,carC,prsC,hqq,List.map_cons,Pr.cds]
     ·simp only [go_sem,winAll]
     ·rw [hpost]; exact .inr ⟨_,ha,rfl,rfl⟩
  ·simp at h
 ·(refine WV_cond rfl (fun h => ?_) (fun h => ?_))
  ·simp at h
  have ha:s1.act1 t = some ((s1.play t).next t):=by unfold Cs.act1; rw [if_neg (by rw [hall]; decide)]
  have hpos:=pos_lt hs1
  have hsec:=secs_ok ht hpos
  have hlast:=last83 ht s1.pos hpos
  have hnow:=hs1.now
  have hcl:(cellsG bcd s1.pins 0).length = 2 * t.n:=by rw [cellsG_len bcd_one,hpl]; omega
  have hpk:s1.pos < s1.pins.length:=by omega
  have hget:∀ x,(cellsG bcd s1.pins 0).getD s1.pos x = bv (s1.pins.getD s1.pos false):=fun x => by
   have:=cellsG_get bcd_one hpk 0 0 (d:=.bool s1.pins[s1.pos]) rfl x
   rw [Nat.mul_one,Nat.add_zero] at this
   rw [this]
   simp [hpk]
  have hI2:(s1.pos:Int) < ((2 * t.n:Nat):Int):=by omega
  have hc2:s1.pos + 1 ≤ 2 * t.n:=by omega
  have hside:(bif decide (wayI s1.up < 0) then 2 * (s1.at_:Int) + 1 else 2 * (s1.at_:Int)) = (s1.pos:Int):=by
   unfold Cs.pos sideAt wayI
   cases s1.up <;> simp <;> omega
  have wa:=w64 (n:=2 * (s1.at_:Int)) (by omega) (by omega)
  have wb:=w64 (n:=2 * (s1.at_:Int) + 1) (by omega) (by omega)
  have hplayOk:CsOk t (s1.play t) ∧ (s1.play t).spells.length ≤ 5000 ∧ (s1.play t).now ≤ 1000000 ∧ 0 ≤ (s1.play t).steps ∧ (s1.play t).steps ≤ 1000000:=by
   obtain ⟨p1,p2,p3,p4⟩:=play_pins t s1
   have hn:=play_now ht hs1
   refine ⟨⟨by rw [p3]; exact hat,by rw [p1,List.length_set]; exact hpl,by rw [p2]; exact hs1.q,by omega,by rw [p2]; exact hs1.sorted⟩,?_,by omega,by omega,by omega⟩
   unfold Cs.play
   split
   ·simp [Cs.play2,Cs.play1,Cs.mark]; omega
   ·omega
  have hnx:=next84 ht hplayOk.1 hplayOk.2.1 hplayOk.2.2.1 hplayOk.2.2.2
  have hset:(cellsG bcd s1.pins 0).set s1.pos (.c (.bool false)) = cellsG bcd (s1.pins.set s1.pos false) 0:=by
   have:=cellsG_set bcd_one hpk 0 0 (by decide) (.bool false) false rfl
   rwa [Nat.mul_one,Nat.add_zero] at this
  have hnl:t.recs.length = t.n:=rfl
  have wc:=w64 (n:=s1.now + secs t s1.pos) (by omega) (by omega)
  have htail:WV C v146_34 (fun e σ' => ∃ σ'',(∀ a w,Gam C σ' a w → Gam C σ'' a w) ∧ RetQL [RV.t 2] (carO t s) [] (actPQ t s) e σ'')
    ⟨upd (upd e0 0 (.bp 1000 0)) 3 (iv s1.pos),upd (upd (upd (upd o0 1000 (.box (carC t s1))) 1001 (.box (cellsG bcd s1.pins 0))) 1002 (.grow 194 4 (s1.spells.map Sp.cds))) 1003 (.grow 148 2 (s1.plays.map Pr.cds))⟩:=by
   simp only [carC]
   (repeat ((first | refine Va ?_ | refine Vb ?_ | refine Vc ?_ | refine Vd ?_ | refine Ve ?_ | refine Vf ?_); (try simp only [go_sem,hP,hI2,hpk,hcl,hget]); (repeat refine qJ ?_)))
   cases hpp:s1.pins.getD s1.pos false
   ·have hpl1:s1.play t = s1:=by unfold Cs.play; rw [hpp]; rfl
    rw [hpl1] at hnx ha
    (refine WV_cond rfl (fun h => ?_) (fun h => ?_))
    ·simp at h
    (repeat ((first | refine Va ?_ | refine Vb ?_ | refine Vc ?_ | refine Vd ?_ | refine Ve ?_ | refine Vf ?_); (try simp only [go_sem,hP]); (repeat refine qJ ?_)))
    (refine AS_lend [1000,1001,1002,1003] (hnx) rfl rfl rfl (by decide) rfl (by simp only [go_sem,obsLend,Ob.lend,AV.lend,AV.lendL,carO,carC]) ?_)
    rintro r l' ⟨rfl,rfl⟩
    (refine ⟨_,_,rfl,(by simp only [carO,carC,obsBack,Ob.back,AV.back,AV.backL,back_cellsG,]; rfl),?_⟩; simp only [go_sem,hP,ownBack])
    (repeat ((first | refine Va ?_ | refine Vb ?_ | refine Vc ?_ | refine Vd ?_ | refine Ve ?_ | refine Vf ?_); (try simp only [go_sem,hP]); (repeat refine qJ ?_)))
    refine WV_ret ?_
    refine ⟨_,fun a w hg => hg,?_⟩
    ((try simp only [thenQ,inQ,RetQL,RetOkL,resAll,resA]); (try simp only [go_sem,tupA,AV.keepP,AV.keepPL]); refine ⟨_,carO t (s1.next t),rfl,KeepL_mk rfl rfl ?_ ?_ rfl,?_⟩)
    ·simp only [go_sem,keepAll,Ob.keepP,AV.keepP,AV.keepPL,carO,carC]
    ·simp only [go_sem,winAll]
    ·rw [hpost]; exact .inr ⟨_,ha,rfl,rfl⟩
   ·have hpl1:s1.play t = (s1.play1).play2 t:=by unfold Cs.play; rw [hpp]; rfl
    rw [hpl1] at hnx ha
    have hm1:=mark71 t { s1 with pins:=s1.pins.set s1.pos false,plays:=s1.plays ++ [⟨s1.pos,s1.now⟩] } s1.pos (by simp only; omega)
    have hm2:=mark71 t { s1.play1 with now:=s1.now + secs t s1.pos,end_:=s1.now + secs t s1.pos } (-1) (by simp [Cs.play1,Cs.mark]; omega)
    have e1:({ s1 with pins:=s1.pins.set s1.pos false,plays:=s1.plays ++ [⟨s1.pos,s1.now⟩] }:Cs).mark s1.pos = s1.play1:=rfl
    have e2:({ s1.play1 with now:=s1.now + secs t s1.pos,end_:=s1.now + secs t s1.pos }:Cs).mark (-1) = (s1.play1).play2 t:=rfl
    (refine WV_cond rfl (fun h => ?_) (fun h => ?_))
    ·(repeat ((first | refine Va ?_ | refine Vb ?_ | refine Vc ?_ | refine Vd ?_ | refine Ve ?_ | refine Vf ?_); (try simp only [go_sem,hP,hI2,hpk,hcl,hset,List.length_map]); (repeat refine qJ ?_)))
     (refine AS_lend [1000,1001,1002,68] (hm1) rfl rfl rfl (by decide) rfl (by simp only [go_sem,obsLend,Ob.lend,AV.lend,AV.lendL,carO,carC,List.map_append,Pr.cds]) ?_)
     rintro r l' ⟨rfl,rfl⟩
     rw [e1]
     (refine ⟨_,_,rfl,(by simp only [carO,carC,obsBack,Ob.back,AV.back,AV.backL,back_cellsG,]; rfl),?_⟩; simp only [go_sem,hP,ownBack])
     have g1:(s1.play1).spells = s1.spells ++ [⟨s1.at_,wayI s1.up,s1.pos,s1.now⟩]:=rfl
     have g2:(s1.play1).plays = s1.plays ++ [⟨s1.pos,s1.now⟩]:=rfl
     (repeat ((first | refine Va ?_ | refine Vb ?_ | refine Vc ?_ | refine Vd ?_ | refine Ve ?_ | refine Vf ?_); (try simp only [go_sem,hP,hP,Cs.play1,Cs.mark]); (repeat refine qJ ?_)))
     (refine ACall_of (hlast) rfl rfl rfl rfl rfl ?_; simp only [go_sem,hP,Tray.av,wc]; (repeat refine qJ ?_); (repeat ((first | refine Va ?_ | refine Vb ?_ | refine Vc ?_ | refine Vd ?_ | refine Ve ?_ | refine Vf ?_); (try simp only [go_sem,hP,Tray.av,wc]); (repeat refine qJ ?_))))
     (refine AS_lend [1000,1001,1002,68] (hm2) rfl rfl rfl (by decide) rfl (by simp only [go_sem,obsLend,Ob.lend,AV.lend,AV.lendL,carO,carC,Cs.play1,Cs.mark]) ?_)
     rintro r l' ⟨rfl,rfl⟩
     rw [e2]
     (refine ⟨_,_,rfl,(by simp only [carO,carC,obsBack,Ob.back,AV.back,AV.backL,back_cellsG,Cs.play2,Cs.play1,Cs.mark]; rfl),?_⟩; simp only [go_sem,hP,ownBack,Cs.play2,Cs.play1,Cs.mark])
     (repeat ((first | refine Va ?_ | refine Vb ?_ | refine Vc ?_ | refine Vd ?_ | refine Ve ?_ | refine Vf ?_); (try simp only [go_sem,hP]); (repeat refine qJ ?_)))
     (refine AS_lend [1000,1001,1002,68] (hnx) rfl rfl rfl (by decide) rfl (by simp only [go_sem,obsLend,Ob.lend,AV.lend,AV.lendL,carO,carC,Cs.play2,Cs.play1,Cs.mark]) ?_)
     rintro r l' ⟨rfl,rfl⟩
     generalize (s1.play1.play2 t).next t = s2 at *
     (refine ⟨_,_,rfl,(by simp only [carO,carC,obsBack,Ob.back,AV.back,AV.backL,back_cellsG,]; rfl),?_⟩; simp only [go_sem,hP,ownBack])
     (repeat ((first | refine Va ?_ | refine Vb ?_ | refine Vc ?_ | refine Vd ?_ | refine Ve ?_ | refine Vf ?_); (try simp only [go_sem,hP]); (repeat refine qJ ?_)))
     refine WV_ret ?_
     refine ⟨_,fun a w hg => Gam_move (d:=68) (n:=1003) (by decide) (fun h => by have:=hpin 1003 h; rw [carO_place3] at this; cases this) rfl hg,?_⟩
     simp only [go_sem]
     ((try simp only [thenQ,inQ,RetQL,RetOkL,resAll,resA]); (try simp only [go_sem,tupA,AV.keepP,AV.keepPL]); refine ⟨_,carO t s2,rfl,KeepL_mk rfl rfl ?_ ?_ rfl,?_⟩)
     ·simp only [go_sem,keepAll,Ob.keepP,AV.keepP,AV.keepPL,carO,carC]
     ·simp only [go_sem,winAll]
     ·rw [hpost]; exact .inr ⟨_,ha,rfl,rfl⟩
    ·simp at h
  simp only [carC] at htail
  cases hu:s1.up
  ·rw [hu] at htail
   have hw:wayI false = -1:=rfl
   have hp2:2 * (s1.at_:Int) + 1 = (s1.pos:Int):=by unfold Cs.pos sideAt; rw [hu]; simp
   rw [hp2] at wb
   rw [hw] at htail
   (repeat ((first | refine Va ?_ | refine Vb ?_ | refine Vc ?_ | refine Vd ?_ | refine Ve ?_ | refine Vf ?_); (try simp only [go_sem,hP,wa,hw]); (repeat refine qJ ?_)))
   (refine WV_cond rfl (fun h => ?_) (fun h => ?_))
   ·(refine WV_op ?_; simp only [go_sem,hP,wb,hp2]; (repeat refine qJ ?_))
    exact WV_sub (Sub_of (by simp only [go_sem]; exact EnvLe_au) (by simp only [go_sem]; exact ObjLe_au)) htail
   ·simp at h
  ·rw [hu] at htail
   have hw:wayI true = 1:=rfl
   have hp2:2 * (s1.at_:Int) = (s1.pos:Int):=by unfold Cs.pos sideAt; rw [hu]; simp
   rw [hp2] at wa
   rw [hw] at htail
   (repeat ((first | refine Va ?_ | refine Vb ?_ | refine Vc ?_ | refine Vd ?_ | refine Ve ?_ | refine Vf ?_); (try simp only [go_sem,hP,wa,hw,hp2]); (repeat refine qJ ?_)))
   (refine WV_cond rfl (fun h => ?_) (fun h => ?_))
   ·simp at h
   ·(refine WV_skip ?_; simp only [go_sem])
    exact WV_sub (Sub_of (by simp only [go_sem]; exact EnvLe_au) (by simp only [go_sem]; exact ObjLe_au)) htail
end Go.Proofs.YtefoconkepmmgaaGreatDoor

namespace Go.Proofs.YtefoconkepmmgaaGreatDoor
open Go Go.V
namespace W
abbrev o115_0:List Ins:=[JS 1 (.box 5 (.t 0)),JS 2 (.alloc [J0,J0,Jz 0,Jz 0])]
abbrev o115_1:List Ins:=[JF 4 (JL 5 1),JF 5 (Jf 4 1),JF 6 (Jl 5),JF 8 (Jf 0 1),JF 9 (Jl 8),JF 10 (Jn 9),JF 11 (.bin .mul (.k (Jz 2)) (.t 10)),JF 12 (.mks 4 1 1 [(.c (.bool false))] (.t 11) (.t 11)),JF 13 (Jf 1 1),JF 14 (Jl 13),JF 15 (Jf 2 1),JF 16 (Jl 15),JF 17 (.bld [Jz 0,Jz 0,Jz 0] [(0,1,(.t 14)),(1,1,(.t 16)),(2,1,(.k (Jz (-1))))]),JS 7 (.calln (.k (.fn 52 [])) [.t 6]),JS 18 (.bld [J0,Jz 0,Jz 0,Jz 0,J0,J0,J0,Jz 0,Jz 0,Jz 0,Jz 0,J0,J0,Jz 0,Jz 0] [(0,5,(.t 4)),(5,1,(.t 7)),(6,1,(.t 12)),(8,3,(.t 17))]),JS 19 (.box 15 (.t 18)),JS 3 (Jm 19)]
abbrev o115_2:List Ins:=[JS 20 (Jm 3),JS 21 (.nilc (.t 20)),JS 22 (Jf 5 21),JS 23 (Jl 22),JS 24 (Jc 143 [.t 23,(.k (.fn 144 []))])]
abbrev o115_3:List Ins:=[JS 25 (Jm 3),JS 26 (Jc 145 [.t 25,(.k (Jz (-1)))])]
abbrev o115_4:List Ins:=[JS 27 (Jm 3),JS 28 (Jc 146 [.t 27])]
abbrev v115_5:VC:=(.cond (.t 28) .skip (.exit 0))
abbrev v115_6:VC:=(.block 1 .skip)
abbrev v115_7:VC:=(.seq (.seq (.ops o115_4) v115_5) v115_6)
-- K115_1: changed and kept: []
abbrev K115_1:List Nat:=[2,3]
abbrev v115_8:VC:=(.loop v115_7)
abbrev o115_9:List Ins:=[JS 29 (Jm 3),JS 30 (.nilc (.t 29)),JS 31 (Jf 11 30),JS 32 (JL 4 31),JN (Js 4 2 32)]
abbrev v115_10:VC:=(.seq (.ops o115_9) .ret)
abbrev v115_11:VC:=(.seq (.block 0 v115_8) v115_10)
abbrev v115_12:VC:=(.seq (.ops o115_3) v115_11)
abbrev v115_13:VC:=(.seq (.ops o115_2) v115_12)
abbrev v115_14:VC:=(.seq (.dops o115_1) v115_13)
def ir115:FC:=⟨1,33,[.cell 2 false 4],(.seq (.ops o115_0) v115_14)⟩
theorem c115:compM Tryz.prog [300007] 115 = some ir115:=by kernel_rfl
end W
abbrev o115_0:List Ins:=[JS 1 (.box 5 (.t 0)),JS 2 (.alloc [J0,J0,Jz 0,Jz 0])]
abbrev o115_1:List Ins:=[JF 4 (JL 5 1),JF 5 (Jf 4 1),JF 6 (Jl 5),JF 8 (Jf 0 1),JF 9 (Jl 8),JF 10 (Jn 9),JF 11 (.bin .mul (.k (Jz 2)) (.t 10)),JF 12 (.mks 4 1 1 [(.c (.bool false))] (.t 11) (.t 11)),JF 7 (Jc 52 [.t 6]),JF 13 (Jf 1 1),JF 14 (Jl 13),JF 15 (Jf 2 1),JF 16 (Jl 15),JF 17 (.bld [Jz 0,Jz 0,Jz 0] [(0,1,(.t 14)),(1,1,(.t 16)),(2,1,(.k (Jz (-1))))]),JS 18 (.bld [J0,Jz 0,Jz 0,Jz 0,J0,J0,J0,Jz 0,Jz 0,Jz 0,Jz 0,J0,J0,Jz 0,Jz 0] [(0,5,(.t 4)),(5,1,(.t 7)),(6,1,(.t 12)),(8,3,(.t 17))]),JS 19 (.box 15 (.t 18)),JS 3 (Jm 19)]
abbrev o115_2:List Ins:=[JS 20 (Jm 3),JS 21 (.nilc (.t 20)),JS 22 (Jf 5 21),JS 23 (Jl 22),JS 24 (Jc 143 [.t 23,(.k (.fn 144 []))])]
abbrev o115_3:List Ins:=[JS 25 (Jm 3),JS 26 (Jc 145 [.t 25,(.k (Jz (-1)))])]
abbrev o115_4:List Ins:=[JS 27 (Jm 3),JS 28 (Jc 146 [.t 27])]
abbrev v115_5:VC:=(.cond (.t 28) .skip (.exit 0))
abbrev v115_6:VC:=(.block 1 .skip)
abbrev v115_7:VC:=(.seq (.seq (.ops o115_4) v115_5) v115_6)
-- K115_1: changed and kept: []
abbrev K115_1:List Nat:=[2,3]
abbrev v115_8:VC:=(.loop v115_7)
abbrev o115_9:List Ins:=[JS 29 (Jm 3),JS 30 (.nilc (.t 29)),JS 31 (Jf 11 30),JS 32 (JL 4 31),JN (Js 4 2 32)]
abbrev v115_10:VC:=(.seq (.ops o115_9) .ret)
abbrev v115_11:VC:=(.seq (.block 0 v115_8) v115_10)
abbrev v115_12:VC:=(.seq (.ops o115_3) v115_11)
abbrev v115_13:VC:=(.seq (.ops o115_2) v115_12)
abbrev v115_14:VC:=(.seq (.dops o115_1) v115_13)
def ir115:FC:=⟨1,33,[.cell 2 false 4],(.seq (.ops o115_0) v115_14)⟩
theorem c115:compM Tryz.prog [] 115 = some ir115:=by kernel_rfl
attribute [local go_sem] Nat.reduceEqDiff Nat.reduceAdd Nat.reduceMul reduceIte Nat.reduceLeDiff Nat.reduceLT Nat.reduceBEq reduceCtorEq
def spsC (l:List Sp):CD:=.sl 4 (l.map Sp.cds)
def Cs.run (s:Cs):AV:=.agg [.c (spsC s.spells),.c (prsC s.plays),iv s.steps,iv s.end_]
def carD (t:Tray) (s:Cs):List AV:=[.c (recsC t.recs),iv t.at_,iv t.way,iv t.step,.c (prsC t.pres),.c (prsC s.q),.vw 1 12 0 (2 * t.n) (2 * t.n),iv s.now,iv s.at_,iv (wayI s.up),iv s.side,.gr 81,.gr 82,iv s.steps,iv s.end_]
def zero4:List AV:=[.c (.raw (.slice none 0 0)),.c (.raw (.slice none 0 0)),.c (.int .i64 0),.c (.int .i64 0)]
set_option maxRecDepth 20000 in
set_option maxHeartbeats 16000000 in
theorem tail54 {C:Ctx} (hP:C.P = Tryz.prog) {t:Tray} (ht:TrayOk t) {q:List Pr} (hq:q.Perm t.pres) (hqs:q.Pairwise fun a b => a.time ≤ b.time) :
  WV C v115_12 (RetQ [.cell 2 false 4] (goesWith t q).run) ⟨upd (upd e0 2 (.bp 2 0)) 3 (.bp 19 0),upd (upd (upd (upd (upd o0 2 (.box zero4)) 12 (.box (cellsG bcd (start t q).pins 0))) 19 (.box (carD t (start t q)))) 81 (.grow 194 4 [])) 82 (.grow 148 2 [])⟩:=by
 have hm0:=mark71 t (start t q) (-1) (by simp [start])
 have hs0:=start_okQ ht hq hqs
 have hql:q.length ≤ 13:=by rw [hq.length_eq]; exact ht.p13
 have hmu:=start_mu ht hql
 have hgw:goesWith t q = iter t 250 ((start t q).mark (-1)):=rfl
 have b1:((start t q).mark (-1)).spells.length = 1:=rfl
 have b2:((start t q).mark (-1)).plays.length = 0:=rfl
 have b3:((start t q).mark (-1)).now = 0:=rfl
 have b4:((start t q).mark (-1)).steps = 0:=rfl
 have b5:((start t q).mark (-1)).q.length ≤ 13:=hql
 have hsp:(start t q).spells = []:=rfl
 have hpl:(start t q).plays = []:=rfl
 rw [hgw]
 simp only [carD,zero4]
 (repeat ((first | refine Va ?_ | refine Vb ?_ | refine Vc ?_ | refine Vd ?_ | refine Ve ?_ | refine Vf ?_); (try simp only [go_sem,hP]); (repeat refine qJ ?_)))
 (refine AS_lend [19,12,81,82] (hm0) rfl rfl rfl (by decide) rfl (by simp only [go_sem,obsLend,Ob.lend,AV.lend,AV.lendL,carO,carC,hsp,hpl,List.map_nil]) ?_)
 rintro r l' ⟨rfl,rfl⟩
 generalize (start t q).mark (-1) = s0 at *
 (refine ⟨_,_,rfl,(by simp only [carO,carC,obsBack,Ob.back,AV.back,AV.backL,back_cellsG,]; rfl),?_⟩; simp only [go_sem,hP,ownBack])
 (repeat ((first | refine Va ?_ | refine Vb ?_ | refine Vc ?_ | refine Vd ?_ | refine Ve ?_ | refine Vf ?_); (try simp only [go_sem,hP]); (repeat refine qJ ?_)))
 refine WV_loopK K115_1 [12,19,81,82] (fun p:Nat × Cs => CsOk t p.2 ∧ iter t 250 s0 = iter t (250 - p.1) p.2 ∧ mu t p.2 + p.1 ≤ 200 ∧ p.2.now ≤ 10000 + 1059 * (p.1:Int) ∧ p.2.spells.length ≤ 1 + 3 * p.1 ∧ p.2.plays.length ≤ p.1 ∧ (0 ≤ p.2.steps ∧ p.2.steps ≤ (p.1:Int)) ∧ p.2.q.length ≤ 13) (fun p => mu t p.2) (fun _ => [])
  (fun p => [(12,.box (cellsG bcd p.2.pins 0)),(19,.box (carD t p.2)),(81,.grow 194 4 (p.2.spells.map Sp.cds)),(82,.grow 148 2 (p.2.plays.map Pr.cds))]) (0,s0) ⟨hs0,rfl,by simpa using hmu,by rw [b3]; simp,by rw [b1]; simp,by rw [b2]; simp,by rw [b4]; simp,b5⟩ ?_ ?_
 ·simp only [carD]
  exact Sub_au
 ·rintro ⟨k,s⟩ ⟨i1,i2,i3,i4,i5,i6,i7,i8⟩
  simp only at i1 i2 i3 i4 i5 i6 i7 i8
  have hact:=act72 ht i1 (by omega) (by omega) (by omega) (by omega) (by omega)
  simp only [go_sem,carD]
  (repeat ((first | refine Va ?_ | refine Vb ?_ | refine Vc ?_ | refine Vd ?_ | refine Ve ?_ | refine Vf ?_); (try simp only [go_sem,hP]); (repeat refine qJ ?_)))
  (refine AS_lend [19,12,81,82] (hact) rfl rfl rfl (by decide) rfl (by simp only [go_sem,obsLend,Ob.lend,AV.lend,AV.lendL,carO,carC]) ?_)
  rintro r l' (⟨ha,rfl,rfl⟩ | ⟨s',ha,rfl,rfl⟩)
  ·have hend:iter t (250 - k) s = s.press:=by
    obtain ⟨m,hm⟩ : ∃ m,250 - k = m + 1:=⟨249 - k,by omega⟩
    rw [hm]; simp only [iter,ha]
   rw [hend] at i2
   rw [i2]
   generalize s.press = s2 at *
   (refine ⟨_,_,rfl,(by simp only [carO,carC,obsBack,Ob.back,AV.back,AV.backL,back_cellsG,]; rfl),?_⟩; simp only [go_sem,hP,ownBack])
   (repeat ((first | refine Va ?_ | refine Vb ?_ | refine Vc ?_ | refine Vd ?_ | refine Ve ?_ | refine Vf ?_); (try simp only [go_sem,hP]); (repeat refine qJ ?_)))
   (refine WV_cond rfl (fun h => ?_) (fun h => ?_))
   ·simp at h
   ·(refine WV_exit ?_; simp only [go_sem])
    (repeat ((first | refine Va ?_ | refine Vb ?_ | refine Vc ?_ | refine Vd ?_ | refine Ve ?_ | refine Vf ?_); (try simp only [go_sem,hP]); (repeat refine qJ ?_)))
    (refine WV_ret ?_; simp only [thenQ,inQ,RetQ,RetOk,resAll,resA]; simp only [go_sem,tupA,AV.port,AV.portL,exists_eq_left']; (first | exact AVle.of rfl | refine AVle.of ?_ | skip))
  ·have hend:iter t (250 - k) s = iter t (250 - (k + 1)) s':=by
    obtain ⟨m,hm⟩ : ∃ m,250 - k = m + 1:=⟨249 - k,by omega⟩
    rw [hm,show 250 - (k + 1) = m from by omega]; simp only [iter,ha]
   have hg:=act_grown ht i1 ha
   have hmu':=act_mu i1 ha
   have hok':=act_ok ht i1 ha
   (refine ⟨_,_,rfl,(by simp only [carO,carC,obsBack,Ob.back,AV.back,AV.backL,back_cellsG,]; rfl),?_⟩; simp only [go_sem,hP,ownBack])
   (repeat ((first | refine Va ?_ | refine Vb ?_ | refine Vc ?_ | refine Vd ?_ | refine Ve ?_ | refine Vf ?_); (try simp only [go_sem,hP]); (repeat refine qJ ?_)))
   (refine WV_cond rfl (fun h => ?_) (fun h => ?_))
   ·(repeat ((first | refine Va ?_ | refine Vb ?_ | refine Vc ?_ | refine Vd ?_ | refine Ve ?_ | refine Vf ?_); (try simp only [go_sem,hP]); (repeat refine qJ ?_)))
    refine ⟨(k + 1,s'),⟨hok',by rw [i2,hend],by simp only; omega,?_,?_,?_,?_,?_⟩,by simp only; omega,?_⟩
    ·rcases hg.now with h | h <;> (simp only; omega)
    ·have:=hg.spells; simp only; omega
    ·have:=hg.plays; simp only; omega
    ·have:=hg.steps; simp only; omega
    ·have:=hg.q; simp only; omega
    ·simp only [carD]
     exact Sub_au
   ·simp at h
theorem bools_zero (n:Nat):(List.replicate n [bv false]).flatten = cellsG bcd (List.replicate n false) 0:=by
 have:∀ n,(List.replicate n [bv false]).flatten = (flatG bcd (List.replicate n false)).map .c:=by
  intro n
  induction n with
  | zero => rfl
  | succ n ih =>
   simp only [List.replicate_succ,List.flatten_cons,ih,flatG_cons]
   rfl
 rw [this]
 simp [cellsG]
theorem ins87e:FSpec Tryz.prog 201 [.c (prsC []),iv 0,iv 0,.fn 144 []] (.tup []):=by
 have w0:IntKind.i64.wrap (0 + 1) = 1:=by decide
 refine FSpec_of c201 (Nat.le_refl _) (by decide) fun C hP hN hC hL => ?_; rw [init_st]
 simp only [ir201,prsC,List.map_nil]
 (repeat ((first | refine Va ?_ | refine Vb ?_ | refine Vc ?_ | refine Vd ?_ | refine Ve ?_ | refine Vf ?_); (try simp only [go_sem,hP,w0]); (repeat refine qJ ?_)))
 refine WV_loopK K201_1 [] (fun _:Unit => True) (fun _ => 0) (fun _ => [(8,iv 1)]) (fun _ => []) () trivial ?_ ?_
 ·exact Sub_au
 ·rintro - -
  simp only [go_sem]
  (repeat ((first | refine Va ?_ | refine Vb ?_ | refine Vc ?_ | refine Vd ?_ | refine Ve ?_ | refine Vf ?_); (try simp only [go_sem,hP]); (repeat refine qJ ?_)))
  (refine WV_cond rfl (fun h => ?_) (fun h => ?_))
  ·simp at h
  ·(refine WV_exit ?_; simp only [go_sem])
   exact ⟨trivial,_,rfl,AVle.of rfl⟩
theorem stable80e:FSpec Tryz.prog 176 [.c (prsC []),iv 0,.fn 144 []] (.tup []):=by
 refine FSpec_of c176 (Nat.le_refl _) (by decide) fun C hP hN hC hL => ?_; rw [init_st]
 simp only [ir176,prsC,List.map_nil]
 (repeat ((first | refine Va ?_ | refine Vb ?_ | refine Vc ?_ | refine Vd ?_ | refine Ve ?_ | refine Vf ?_); (try simp only [go_sem,hP]); (repeat refine qJ ?_)))
 refine WV_loopK K176_1 [] (fun _:Unit => True) (fun _ => 0) (fun _ => [(7,iv 0),(8,iv 20)]) (fun _ => []) () trivial ?_ ?_
 ·exact Sub_au
 ·rintro - -
  simp only [go_sem]
  (repeat ((first | refine Va ?_ | refine Vb ?_ | refine Vc ?_ | refine Vd ?_ | refine Ve ?_ | refine Vf ?_); (try simp only [go_sem,hP]); (repeat refine qJ ?_)))
  (refine WV_cond rfl (fun h => ?_) (fun h => ?_))
  ·simp at h
  ·(refine WV_exit ?_; simp only [go_sem])
   (repeat ((first | refine Va ?_ | refine Vb ?_ | refine Vc ?_ | refine Vd ?_ | refine Ve ?_ | refine Vf ?_); (try simp only [go_sem,hP]); (repeat refine qJ ?_)))
   (refine AS_pu (ins87e) ?_; simp only [go_sem,hP]; (repeat refine qJ ?_); (repeat ((first | refine Va ?_ | refine Vb ?_ | refine Vc ?_ | refine Vd ?_ | refine Ve ?_ | refine Vf ?_); (try simp only [go_sem,hP]); (repeat refine qJ ?_))))
   refine WV_loopK K176_2 [] (fun _:Unit => True) (fun _ => 0) (fun _ => [(6,iv 20)]) (fun _ => []) () trivial ?_ ?_
   ·exact Sub_au
   ·rintro - -
    simp only [go_sem]
    (repeat ((first | refine Va ?_ | refine Vb ?_ | refine Vc ?_ | refine Vd ?_ | refine Ve ?_ | refine Vf ?_); (try simp only [go_sem,hP]); (repeat refine qJ ?_)))
    (refine WV_cond rfl (fun h => ?_) (fun h => ?_))
    ·simp at h
    ·(refine WV_exit ?_; simp only [go_sem])
     exact ⟨trivial,_,rfl,AVle.of rfl⟩
theorem sort69e:FSpec Tryz.prog 143 [.c (prsC []),.fn 144 []] (.tup []):=by
 refine FSpec_of c143 (Nat.le_refl _) (by decide) fun C hP hN hC hL => ?_; rw [init_st]
 simp only [ir143,prsC,List.map_nil]
 (repeat ((first | refine Va ?_ | refine Vb ?_ | refine Vc ?_ | refine Vd ?_ | refine Ve ?_ | refine Vf ?_); (try simp only [go_sem,hP,List.length_nil,Int.natCast_zero]); (repeat refine qJ ?_)))
 (refine AS_pu (stable80e) ?_; simp only [go_sem,hP]; (repeat refine qJ ?_); (repeat ((first | refine Va ?_ | refine Vb ?_ | refine Vc ?_ | refine Vd ?_ | refine Ve ?_ | refine Vf ?_); (try simp only [go_sem,hP]); (repeat refine qJ ?_))))
 exact ⟨_,rfl,AVle.of rfl⟩
set_option maxRecDepth 20000 in
set_option maxHeartbeats 16000000 in
theorem goes54e {t:Tray} (ht:TrayOk t) (hp:t.pres = []):FSpec Tryz.prog 115 [t.av] (goesS t).run:=by
 have hn6:=ht.n6
 have hnl:t.recs.length = t.n:=rfl
 have hat:=ht.at_
 have hmax:maxLen = 9223372036854775807:=rfl
 have w1:=w64 (n:=2 * (t.n:Int)) (by omega) (by omega)
 have ew:(2 * (t.n:Int)).toNat = 2 * t.n:=by omega
 have hway:wayI (t.way == 1) = t.way:=by rcases ht.way with h | h <;> rw [h] <;> rfl
 have hg:goesS t = goesWith t []:=by unfold goesS; rw [hp]; rfl
 have hcl:=clone56 ([]:List Pr) (by simp)
 refine FSpec_of c115 (Nat.le_refl _) (by decide) fun C hP hN hC hL => ?_; rw [init_st]
 have htl:=tail54 hP ht (q:=[]) (by rw [hp]) List.Pairwise.nil
 rw [← hg] at htl
 simp only [ir115,Tray.av,hp]
 have hat2:(((t.at_.toNat:Nat):Int)) = t.at_:=by omega
 simp only [carD,zero4,start,hway,hp,hat2,List.map_nil] at htl
 (repeat ((first | refine Va ?_ | refine Vb ?_ | refine Vc ?_ | refine Vd ?_ | refine Ve ?_ | refine Vf ?_); (try simp only [go_sem,hP,recsC,List.length_map,hnl,w1,ew,bools_zero]); (repeat refine qJ ?_)))
 refine ACall_of hcl rfl rfl rfl rfl rfl ?_
 simp only [go_sem,hP]
 (repeat refine qJ ?_)
 refine WV_nilbox 19 11 81 194 4 (by decide) (by decide) (by decide) rfl rfl rfl ?_
 simp only [go_sem]
 refine WV_nilbox 19 12 82 148 2 (by decide) (by decide) (by decide) rfl rfl rfl ?_
 simp only [go_sem]
 (repeat ((first | refine Va ?_ | refine Vb ?_ | refine Vc ?_ | refine Vd ?_ | refine Ve ?_ | refine Vf ?_); (try simp only [go_sem,hP,prsC,List.map_nil]); (repeat refine qJ ?_)))
 refine AS_pure sort69e rfl rfl rfl rfl rfl ?_
 simp only [go_sem,hP]
 (repeat refine qJ ?_)
 exact WV_sub (Sub_of (by simp only [go_sem]; exact EnvLe_au) (by simp only [go_sem]; exact ObjLe_au)) htl
theorem prs_grp (l:List Pr):grp 2 l.length ((flatG Pr.cds l).take (l.length * 2)) = l.map Pr.cds:=grp_cellsG pr_two l
theorem prs_fit (l:List Pr):(l.length * 2 ≤ (flatG Pr.cds l).length) = True:=by rw [flatG_len pr_two]; simp
set_option maxRecDepth 20000 in
set_option maxHeartbeats 16000000 in
theorem goes54n {t:Tray} (ht:TrayOk t) (hp:t.pres ≠ []):FSpec Tryz.prog 115 [t.av] (goesS t).run:=by
 have hn6:=ht.n6
 have hnl:t.recs.length = t.n:=rfl
 have hat:=ht.at_
 have hmax:maxLen = 9223372036854775807:=rfl
 have w1:=w64 (n:=2 * (t.n:Int)) (by omega) (by omega)
 have ew:(2 * (t.n:Int)).toNat = 2 * t.n:=by omega
 have hway:wayI (t.way == 1) = t.way:=by rcases ht.way with h | h <;> rw [h] <;> rfl
 have hpl:0 < t.pres.length:=List.length_pos_iff.2 hp
 have h13:=ht.p13
 have hg:goesS t = goesWith t (sortT t.pres):=rfl
 refine FSpec_of W.c115 (Nat.le_refl _) (by decide) fun C hP hN hC hL => ?_
 have htl:=tail54 hP ht (q:=sortT t.pres) (sortT_perm t.pres) (sortT_sorted t.pres)
 rw [← hg] at htl
 simp only [W.ir115,Tray.av]
 have hat2:(((t.at_.toNat:Nat):Int)) = t.at_:=by omega
 simp only [carD,zero4,start,hway,hat2,List.map_nil] at htl
 (repeat ((first | refine Va ?_ | refine Vb ?_ | refine Vc ?_ | refine Vd ?_ | refine Ve ?_ | refine Vf ?_); (try simp only [go_sem,hP,recsC,List.length_map,hnl,w1,ew,bools_zero]); (repeat refine qJ ?_)))
 refine AM_new (cloneN56 t.pres (by omega) hp) (by decide) rfl rfl rfl rfl rfl ?_
 rintro res os ⟨cap,j,h1,h2,h3,rfl,rfl⟩
 refine ⟨_,.vw 2 7 0 t.pres.length cap,.box (cellsG Pr.cds t.pres j),rfl,rfl,by simp only [Ob.back,back_cellsG]; rfl,?_⟩
 simp only [go_sem,hP]
 (repeat refine qJ ?_)
 refine WV_nilbox 19 11 81 194 4 (by decide) (by decide) (by decide) rfl rfl rfl ?_
 simp only [go_sem]
 refine WV_nilbox 19 12 82 148 2 (by decide) (by decide) (by decide) rfl rfl rfl ?_
 simp only [go_sem]
 (repeat ((first | refine Va ?_ | refine Vb ?_ | refine Vc ?_ | refine Vd ?_ | refine Ve ?_ | refine Vf ?_); (try simp only [go_sem,hP]); (repeat refine qJ ?_)))
 refine AS_lend [7] (sort69 (jk:=j) hpl (by omega) rfl (fun p hp => (ht.pres p hp).2)) rfl rfl rfl (by decide) rfl (by simp only [go_sem,obsLend,Ob.lend,AV.lend,AV.lendL]) ?_
 rintro r l' ⟨rfl,l,hl,rfl⟩
 refine ⟨_,_,rfl,(by simp only [obsBack,Ob.back,back_cellsG]; rfl),?_⟩
 simp only [go_sem,hP,ownBack]
 have hso:arr t.pres l = sortT t.pres:=by rw [ordered_eq hl]; rfl
 rw [hso]
 have hSl:=sortT_len t.pres
 have hgr:=prs_grp (sortT t.pres)
 have hfl:=prs_fit (sortT t.pres)
 rw [hSl] at hgr hfl
 refine WV_freezeJ 7 (ds:=flatG Pr.cds (sortT t.pres)) (junk:=List.replicate j .non) rfl ?_
 simp only [go_sem,hfl,hgr]
 exact WV_sub (Sub_of (by simp only [go_sem]; exact EnvLe_au) (by simp only [go_sem]; exact ObjLe_au)) htl
theorem goes54 {t:Tray} (ht:TrayOk t):FSpec Tryz.prog 115 [t.av] (goesS t).run:=by
 by_cases hp:t.pres = []
 ·exact goes54e ht hp
 ·exact goes54n ht hp
end Go.Proofs.YtefoconkepmmgaaGreatDoor

/-
 What is true of a run: each press is served,the plays do not overlap: plain.
-/
namespace Go.Proofs.YtefoconkepmmgaaGreatDoor
open Go Go.V
def Pressed (s:Cs):Prop:=∀ p ∈ s.q,s.now < p.time
theorem pressed_press {t:Tray} {s:Cs} (h:CsOk t s):Pressed s.press:=by
 intro p hp
 have hs:=h.press.sorted
 cases hq:s.press.q with
 | nil => rw [hq] at hp; cases hp
 | cons a q =>
  have h1:=pressQ_head s.now s.q s.pins a q hq
  rw [hq] at hp hs
  have h2:=(List.pairwise_cons.1 hs).1
  show s.now < p.time
  rcases List.mem_cons.1 hp with rfl | hp
  ·exact h1
  ·have:=h2 p hp; omega
theorem iter_inv {t:Tray} (ht:TrayOk t) (I:Nat → Cs → Prop) (hp:∀ k s,CsOk t s → I k s → I k s.press) (ha:∀ k s s',CsOk t s → Pressed s → I k s → s.act1 t = some s' → I (k + 1) s') :
  ∀ (f k:Nat) (s:Cs),CsOk t s → mu t s < f → mu t s + k ≤ 200 → I k s → ∃ k',k' ≤ 200 ∧ I k' (iter t f s) ∧ (iter t f s).act1 t = none ∧ CsOk t (iter t f s) ∧ Pressed (iter t f s)
 | 0,k,s,_,hf,_,_ => by omega
 | f + 1,k,s,hs,hf,hk,hI => by
  simp only [iter]
  cases e:s.act t with
  | none => exact ⟨k,by omega,hp k s hs hI,e,hs.press,pressed_press hs⟩
  | some s' =>
   have h1:=act_mu hs e
   exact iter_inv ht I hp ha f (k + 1) s' (act_ok ht hs e) (by omega) (by omega) (ha k s.press s' hs.press (pressed_press hs) (hp k s hs hI) e)
theorem goes_inv {t:Tray} (ht:TrayOk t) {q:List Pr} (hq:q.Perm t.pres) (hqs:q.Pairwise fun a b => a.time ≤ b.time) (I:Nat → Cs → Prop) (h0:I 0 ((start t q).mark (-1))) (hp:∀ k s,CsOk t s → I k s → I k s.press)
  (ha:∀ k s s',CsOk t s → Pressed s → I k s → s.act1 t = some s' → I (k + 1) s'):∃ k',k' ≤ 200 ∧ I k' (goesWith t q) ∧ (goesWith t q).act1 t = none ∧ CsOk t (goesWith t q) ∧ Pressed (goesWith t q):=by
 have hm:=start_mu ht (q:=q) (by rw [hq.length_eq]; exact ht.p13)
 exact iter_inv ht I hp ha 250 0 _ (start_okQ ht hq hqs) (by omega) (by omega) h0
theorem act1_none {t:Tray} {s:Cs} (h:s.act1 t = none):s.q = [] ∧ s.pins.all (!·) = true:=by
 unfold Cs.act1 at h
 split at h
 ·rename_i hp
  split at h
  ·rename_i hq; exact ⟨hq,hp⟩
  ·cases h
 ·cases h
theorem act1_cases {t:Tray} {s s':Cs} (h:s.act1 t = some s'):(∃ p q,s.q = p :: q ∧ s.pins.all (!·) = true ∧ s' = { s with now:=p.time }) ∨ (s.pins.all (!·) = false ∧ s' = (s.play t).next t):=by
 unfold Cs.act1 at h
 split at h
 ·rename_i hp
  split at h
  ·cases h
  ·rename_i p q hq
   exact .inl ⟨p,q,hq,hp,(Option.some.inj h).symm⟩
 ·rename_i hp
  exact .inr ⟨by simpa using hp,(Option.some.inj h).symm⟩
theorem next_keeps (t:Tray) (s:Cs):(s.next t).q = s.q ∧ (s.next t).pins = s.pins ∧ (s.next t).plays = s.plays ∧ (s.next t).end_ = s.end_:=by
 obtain ⟨m1,m2,m3,m4,m5⟩:=move_q t s
 exact ⟨m1,m2,m3,m5⟩
theorem next_now {t:Tray} (ht:0 ≤ t.step) (s:Cs):s.now ≤ (s.next t).now ∧ (s.next t).now ≤ s.now + t.step ∧ s.steps ≤ (s.next t).steps ∧ (s.next t).steps ≤ s.steps + 1:=move_now ht s
theorem play_yes {t:Tray} {s:Cs} (h:s.pins.getD s.pos false = true):(s.play t).q = s.q ∧ (s.play t).pins = s.pins.set s.pos false ∧ (s.play t).plays = s.plays ++ [⟨s.pos,s.now⟩] ∧ (s.play t).now = s.now + secs t s.pos ∧ (s.play t).end_ = s.now + secs t s.pos ∧ (s.play t).steps = s.steps:=by
 unfold Cs.play
 rw [if_pos h]
 exact ⟨rfl,rfl,rfl,rfl,rfl,rfl⟩
theorem play_no {t:Tray} {s:Cs} (h:¬ s.pins.getD s.pos false = true):s.play t = s:=by
 unfold Cs.play; rw [if_neg h]
def secsI (t:Tray) (s:Int):Int:=secs t s.toNat
def trues (l:List Bool):Nat:=l.countP id
theorem trues_set_false:∀ {l:List Bool} {k:Nat},l.getD k false = true → trues (l.set k false) + 1 = trues l
 | [],k,h => by simp at h
 | b :: l,0,h => by
  have h:b = true:=by simpa using h
  subst h
  simp [trues]
 | b :: l,k + 1,h => by
  have:=trues_set_false (l:=l) (k:=k) (by simpa using h)
  unfold trues at *
  simp only [List.set_cons_succ,List.countP_cons]
  omega
theorem trues_set_true:∀ (l:List Bool) (k:Nat),trues (l.set k true) ≤ trues l + 1
 | [],k => by simp [trues]
 | b :: l,0 => by
  unfold trues
  simp only [List.set_cons_zero,List.countP_cons]
  cases b <;> simp
 | b :: l,k + 1 => by
  have:=trues_set_true l k
  unfold trues at *
  simp only [List.set_cons_succ,List.countP_cons]
  omega
theorem pressQ_count (now:Int):∀ (q:List Pr) (pins:List Bool),trues (pressQ now q pins).2 + (pressQ now q pins).1.length ≤ trues pins + q.length
 | [],pins => Nat.le_refl _
 | p :: q,pins => by
  simp only [pressQ]
  split
  ·have:=pressQ_count now q (pins.set p.side.toNat true)
   have:=trues_set_true pins p.side.toNat
   simp only [List.length_cons]; omega
  ·exact Nat.le_refl _
theorem getD_set_true {l:List Bool} {i k:Nat} (h:l.getD k false = true):(l.set i true).getD k false = true:=by
 rw [List.getD_eq_getElem?_getD,List.getElem?_set]
 split
 ·rename_i e; subst e
  split
  ·rfl
  ·rename_i h2
   rw [List.getD_eq_getElem?_getD,List.getElem?_eq_none (by omega)] at h; simp at h
 ·rwa [List.getD_eq_getElem?_getD] at h
theorem pressQ_pins (now:Int):∀ (q:List Pr) (pins:List Bool),(∀ p ∈ q,0 ≤ p.side ∧ p.side < (pins.length:Int)) → (∀ k,pins.getD k false = true → (pressQ now q pins).2.getD k false = true) ∧ ∀ p ∈ q,p ∈ (pressQ now q pins).1 ∨ (p.time ≤ now ∧ (pressQ now q pins).2.getD p.side.toNat false = true)
 | [],pins,_ => ⟨fun k h => h,fun p hp => by cases hp⟩
 | a :: q,pins,hl => by
  simp only [pressQ]
  split
  ·rename_i hle
   have ha:=hl a (by simp)
   obtain ⟨i1,i2⟩:=pressQ_pins now q (pins.set a.side.toNat true) fun p hp => by rw [List.length_set]; exact hl p (by simp [hp])
   refine ⟨fun k h => i1 k (getD_set_true h),fun p hp => ?_⟩
   rcases List.mem_cons.1 hp with rfl | hp
   ·right
    refine ⟨hle,i1 _ ?_⟩
    rw [List.getD_eq_getElem?_getD,List.getElem?_set,if_pos rfl,if_pos (by omega)]
    rfl
   ·exact i2 p hp
  ·exact ⟨fun k h => h,fun p hp => .inl hp⟩
structure Inv (t:Tray) (s:Cs):Prop where
 srv:∀ p ∈ t.pres,p ∈ s.q ∨ (p.time ≤ s.now ∧ (s.pins.getD p.side.toNat false = true ∨ ∃ x ∈ s.plays,x.side = p.side ∧ p.time ≤ x.time))
 ply:∀ x ∈ s.plays,0 ≤ x.side ∧ x.side < 2 * (t.n:Int) ∧ 0 ≤ x.time ∧ x.time + secsI t x.side ≤ s.now
 spc:s.plays.Pairwise fun a b => a.time + secsI t a.side ≤ b.time
 end_:s.end_ = match s.plays.getLast? with | none => 0 | some x => x.time + secsI t x.side
 cnt:s.plays.length + trues s.pins + s.q.length ≤ t.pres.length
theorem Inv.press {t:Tray} (ht:TrayOk t) {s:Cs} (hs:CsOk t s) (h:Inv t s):Inv t s.press:=by
 have hl:∀ p ∈ s.q,0 ≤ p.side ∧ p.side < (s.pins.length:Int):=fun p hp => by have:=(hs.q p hp).1; have:=hs.pins; omega
 obtain ⟨h1,h2⟩:=pressQ_pins s.now s.q s.pins hl
 refine ⟨fun p hp => ?_,h.ply,h.spc,h.end_,?_⟩
 ·rcases h.srv p hp with h3 | ⟨h3,h4⟩
  ·rcases h2 p h3 with h5 | ⟨h5,h6⟩
   ·exact .inl h5
   ·exact .inr ⟨h5,.inl h6⟩
  ·rcases h4 with h4 | h4
   ·exact .inr ⟨h3,.inl (h1 _ h4)⟩
   ·exact .inr ⟨h3,.inr h4⟩
 ·have:=pressQ_count s.now s.q s.pins
  have:=h.cnt
  show s.plays.length + trues (pressQ s.now s.q s.pins).2 + (pressQ s.now s.q s.pins).1.length ≤ _
  omega
theorem Inv.act1 {t:Tray} (ht:TrayOk t) {s s':Cs} (hs:CsOk t s) (hpr:Pressed s) (h:Inv t s) (e:s.act1 t = some s'):Inv t s':=by
 rcases act1_cases e with ⟨p,q,hq,hpins,rfl⟩ | ⟨hpins,rfl⟩
 ·have hnow:=hpr p (by rw [hq]; simp)
  refine ⟨fun x hx => ?_,fun x hx => ?_,h.spc,h.end_,h.cnt⟩
  ·rcases h.srv x hx with h3 | ⟨h3,h4⟩
   ·exact .inl h3
   ·exact .inr ⟨by simp only; omega,h4⟩
  ·have:=h.ply x hx; simp only; omega
 ·obtain ⟨n1,n2,n3,n4⟩:=next_keeps t (s.play t)
  obtain ⟨m1,m2,m3,m4⟩:=next_now ht.step.1 (s.play t)
  have hpos:=pos_lt hs
  have hsec:=secs_ok ht hpos
  have hst:=ht.step
  by_cases hp:s.pins.getD s.pos false = true
  ·obtain ⟨p1,p2,p3,p4,p5,p6⟩:=play_yes (t:=t) hp
   have hsI:secsI t ((s.pos:Nat):Int) = secs t s.pos:=by unfold secsI; rw [Int.toNat_natCast]
   refine ⟨fun x hx => ?_,fun x hx => ?_,?_,?_,?_⟩
   ·rw [n1,n2,n3,p1,p2,p3]
    rcases h.srv x hx with h3 | ⟨h3,h4⟩
    ·exact .inl h3
    ·refine .inr ⟨by omega,?_⟩
     rcases h4 with h4 | ⟨y,hy,hy2⟩
     ·by_cases es:s.pos = x.side.toNat
      ·refine .inr ⟨⟨s.pos,s.now⟩,by simp,?_,h3⟩
       have:=(ht.pres x hx).1
       simp only; omega
      ·refine .inl ?_
       rw [List.getD_eq_getElem?_getD,List.getElem?_set,if_neg es,← List.getD_eq_getElem?_getD]
       exact h4
     ·exact .inr ⟨y,by simp [hy],hy2⟩
   ·rw [n3,p3] at hx
    rcases List.mem_append.1 hx with hx | hx
    ·have:=h.ply x hx; omega
    ·simp only [List.mem_singleton] at hx
     subst hx
     have:=hs.now
     simp only [hsI]
     omega
   ·rw [n3,p3]
    refine List.pairwise_append.2 ⟨h.spc,by simp,fun x hx y hy => ?_⟩
    simp only [List.mem_singleton] at hy
    subst hy
    exact (h.ply x hx).2.2.2
   ·rw [n4,p5,n3,p3,List.getLast?_concat]
    simp only [hsI]
   ·rw [n1,n2,n3,p1,p2,p3,List.length_append]
    have:=trues_set_false hp
    have:=h.cnt
    simp only [List.length_cons,List.length_nil]; omega
  ·rw [play_no hp] at n1 n2 n3 n4 m1 m2 m3 m4 ⊢
   refine ⟨fun x hx => ?_,fun x hx => ?_,?_,?_,?_⟩
   ·rw [n1,n2,n3]
    rcases h.srv x hx with h3 | ⟨h3,h4⟩
    ·exact .inl h3
    ·exact .inr ⟨by omega,h4⟩
   ·rw [n3] at hx
    have:=h.ply x hx; omega
   ·rw [n3]; exact h.spc
   ·rw [n4,n3]; exact h.end_
   ·rw [n1,n2,n3]; exact h.cnt
theorem Inv.start {t:Tray} {q:List Pr} (hq:q.Perm t.pres):Inv t ((start t q).mark (-1)):=by
 refine ⟨fun p hp => .inl (hq.mem_iff.2 hp),fun x hx => ?_,List.Pairwise.nil,rfl,?_⟩
 ·cases hx
 ·show 0 + trues (List.replicate (2 * t.n) false) + q.length ≤ _
  have:trues (List.replicate (2 * t.n) false) = 0:=by
   unfold trues; rw [List.countP_eq_zero]; intro a ha; have:=(List.mem_replicate.1 ha).2; simp [this]
  have:=hq.length_eq
  omega
structure RunOk (t:Tray) (s:Cs):Prop where
 inv:Inv t s
 now:s.now ≤ 300000
 steps:0 ≤ s.steps ∧ s.steps ≤ 200
 q:s.q = []
 pins:s.pins.all (!·) = true
 spells:s.spells.length ≤ 1000
theorem run_ok {t:Tray} (ht:TrayOk t) {q:List Pr} (hq:q.Perm t.pres) (hqs:q.Pairwise fun a b => a.time ≤ b.time):RunOk t (goesWith t q):=by
 obtain ⟨k,hk,⟨h1,h2,h3,h4⟩,h5,_,_⟩:=goes_inv ht hq hqs (fun k s => Inv t s ∧ s.now ≤ 10000 + 1059 * (k:Int) ∧ (0 ≤ s.steps ∧ s.steps ≤ (k:Int)) ∧ s.spells.length ≤ 1 + 3 * k) ⟨Inv.start hq,by simp [start,Cs.mark],by simp [start,Cs.mark],by simp [start,Cs.mark]⟩
  (fun k s hs ⟨i1,i2,i3,i4⟩ => ⟨i1.press ht hs,i2,i3,i4⟩)
  (fun k s s' hs hpr ⟨i1,i2,i3,i4⟩ e => by
   have hg:=act1_grown ht hs e
   refine ⟨i1.act1 ht hs hpr e,?_,?_,?_⟩
   ·rcases hg.now with h | h <;> omega
   ·have:=hg.steps; omega
   ·have:=hg.spells; omega)
 obtain ⟨e1,e2⟩:=act1_none h5
 exact ⟨h1,by omega,by omega,e1,e2,by omega⟩
def servesI:List Pr → Pr → Int → Int
 | [],_,_ => -1
 | x :: l,p,k => if x.side = p.side ∧ p.time ≤ x.time then k else servesI l p (k + 1)
theorem servesI_spec (p:Pr):∀ (l:List Pr) (k:Int),(servesI l p k = -1 ∧ ∀ x ∈ l,¬ (x.side = p.side ∧ p.time ≤ x.time)) ∨ ∃ j,∃ h:j < l.length,servesI l p k = k + j ∧ (l[j].side = p.side ∧ p.time ≤ l[j].time) ∧ ∀ i (hi:i < j),¬ ((l[i]'(by omega)).side = p.side ∧ p.time ≤ (l[i]'(by omega)).time)
 | [],k => .inl ⟨rfl,by simp⟩
 | x :: l,k => by
  by_cases h:x.side = p.side ∧ p.time ≤ x.time
  ·refine .inr ⟨0,by simp,?_,h,fun i hi => by omega⟩
   simp only [servesI,if_pos h]; simp
  ·have e:servesI (x :: l) p k = servesI l p (k + 1):=by simp only [servesI,if_neg h]
   rcases servesI_spec p l (k + 1) with ⟨h1,h2⟩ | ⟨j,hj,h1,h2,h3⟩
   ·refine .inl ⟨by rw [e,h1],fun y hy => ?_⟩
    rcases List.mem_cons.1 hy with rfl | hy
    ·exact h
    ·exact h2 y hy
   ·refine .inr ⟨j + 1,by simpa using hj,by rw [e,h1]; omega,h2,fun i hi => ?_⟩
    cases i with
    | zero => exact h
    | succ i => exact h3 i (by omega)
def playsS (t:Tray):List Pr:=(goesS t).plays
theorem served_ok {t:Tray} {s:Cs} (h:RunOk t s) {p:Pr} (hp:p ∈ t.pres):∃ j,∃ h:j < s.plays.length,servesI s.plays p 0 = (j:Int) ∧ (s.plays[j].side = p.side ∧ p.time ≤ s.plays[j].time) ∧ ∀ i (hi:i < j),¬ ((s.plays[i]'(by omega)).side = p.side ∧ p.time ≤ (s.plays[i]'(by omega)).time):=by
 rcases servesI_spec p s.plays 0 with ⟨h1,h2⟩ | ⟨j,hj,h1,h2,h3⟩
 ·exfalso
  rcases h.inv.srv p hp with h3 | ⟨h3,h4⟩
  ·rw [h.q] at h3; cases h3
  ·rcases h4 with h4 | ⟨x,hx,hx2⟩
   ·have hk:p.side.toNat < s.pins.length:=by
     rcases Nat.lt_or_ge p.side.toNat s.pins.length with h | h
     ·exact h
     ·rw [List.getD_eq_getElem?_getD,List.getElem?_eq_none h] at h4; simp at h4
    rw [List.getD_eq_getElem?_getD,List.getElem?_eq_getElem hk] at h4
    have:=List.all_eq_true.1 h.pins _ (List.getElem_mem hk)
    simp at h4
    rw [h4] at this
    cases this
   ·exact h2 x hx hx2
 ·exact ⟨j,hj,by rw [h1]; omega,h2,h3⟩
theorem goes_ok {t:Tray} (ht:TrayOk t):RunOk t (goesS t):=run_ok ht (sortT_perm t.pres) (sortT_sorted t.pres)
end Go.Proofs.YtefoconkepmmgaaGreatDoor

namespace Go.Proofs.YtefoconkepmmgaaGreatDoor
open Go Go.V
attribute [local go_sem] Nat.reduceEqDiff Nat.reduceAdd Nat.reduceMul reduceIte Nat.reduceLeDiff Nat.reduceLT Nat.reduceBEq reduceCtorEq
def prAv (p:Pr):AV:=.agg [iv p.side,iv p.time]
def servesB (p x:Pr):Bool:=(x.side == p.side) && decide (p.time ≤ x.time)
theorem servesI_step (p:Pr) {l:List Pr} {k:Nat} (h:k < l.length):servesI (l.drop k) p (k:Int) = if servesB p l[k] = true then (k:Int) else servesI (l.drop (k + 1)) p ((k + 1:Nat):Int):=by
 rw [List.drop_eq_getElem_cons h]
 simp only [servesI,servesB,Bool.and_eq_true,beq_iff_eq,decide_eq_true_eq]
 split <;> simp
theorem plays_len {t:Tray} (ht:TrayOk t):(playsS t).length ≤ 13:=by
 have:=(goes_ok ht).inv.cnt
 have:=ht.p13
 unfold playsS; omega
def inR (t:Tray) (k:Int):Bool:=within k 0 ((t.pres.length:Int) - 1)
def Tray.pr (t:Tray) (k:Int):Pr:=t.pres.getD k.toNat default
def servedR (t:Tray) (k:Int):Int × List Pr × Int:=if t.ok then (if inR t k then (servesI (playsS t) (t.pr k) 0,playsS t,0) else (0,[],1)) else (0,[],20)
theorem inR_spec {t:Tray} {k:Int} (h:inR t k = true):0 ≤ k ∧ k < (t.pres.length:Int):=by simp [inR,within] at h; omega
def waitV (t:Tray) (k:Int):Int:=((playsS t).getD (servesI (playsS t) (t.pr k) 0).toNat default).time - (t.pr k).time
def waitR (t:Tray) (k:Int):Int × Int:=if (servedR t k).2.2 = 0 then (waitV t k,0) else (0,(servedR t k).2.2)
theorem served_zero {t:Tray} {k:Int} (h:(servedR t k).2.2 = 0):t.ok = true ∧ inR t k = true ∧ servedR t k = (servesI (playsS t) (t.pr k) 0,playsS t,0):=by
 unfold servedR at h ⊢
 cases hok:t.ok <;> cases hin:inR t k <;> simp [hok,hin] at h ⊢
theorem served_get {t:Tray} (ht:TrayOk t) {k:Int} (hk:inR t k = true):∃ j,∃ h:j < (playsS t).length,servesI (playsS t) (t.pr k) 0 = (j:Int) ∧ (playsS t)[j].side = (t.pr k).side ∧ (t.pr k).time ≤ (playsS t)[j].time ∧ waitV t k = (playsS t)[j].time - (t.pr k).time ∧ 0 ≤ (playsS t)[j].time ∧ (playsS t)[j].time ≤ 300000 ∧ 0 ≤ (t.pr k).time ∧ (t.pr k).time ≤ 9999:=by
 obtain ⟨h0,h1⟩:=inR_spec hk
 have hk':k.toNat < t.pres.length:=by omega
 have hpr:t.pr k = t.pres[k.toNat]:=by simp [Tray.pr,hk']
 have hm:t.pr k ∈ t.pres:=by rw [hpr]; exact List.getElem_mem hk'
 have hg:=goes_ok ht
 obtain ⟨j,hj,h2,h3,h4⟩:=served_ok hg hm
 have hpl:=hg.inv.ply _ (List.getElem_mem hj)
 have hsc:=secs_ok ht (s:=((goesS t).plays[j]).side.toNat) (by omega)
 have hno:=hg.now
 have hpp:=(ht.pres _ hm).2
 refine ⟨j,hj,h2,h3.1,h3.2,?_,hpl.2.2.1,?_,hpp⟩
 ·show ((goesS t).plays.getD (servesI (goesS t).plays (t.pr k) 0).toNat default).time - (t.pr k).time = (goesS t).plays[j].time - (t.pr k).time
  rw [h2,Int.toNat_natCast,List.getD_eq_getElem?_getD,List.getElem?_eq_getElem hj]
  rfl
 ·have:=hpl.2.2.2
  unfold secsI at this
  show ((goesS t).plays[j]).time ≤ _
  omega
def pressedE (t:Tray):Int:=if t.ok then (if t.pres.length = 0 then 3 else 0) else 20
theorem pressed_zero {t:Tray} (h:pressedE t = 0):t.ok = true ∧ t.pres.length ≠ 0:=by
 unfold pressedE at h
 cases hok:t.ok
 ·simp [hok] at h
 ·refine ⟨rfl,fun h0 => ?_⟩
  simp [hok,h0] at h
def endR (t:Tray):Int × Int:=if pressedE t = 0 then ((goesS t).end_,0) else (0,pressedE t)
end Go.Proofs.YtefoconkepmmgaaGreatDoor

/-
 One way up and down: no press waits longer than a whole round,and each play serves a press: plain.
-/
namespace Go.Proofs.YtefoconkepmmgaaGreatDoor
open Go Go.V
def sideC (n c:Nat):Nat:=if c < n then 2 * c else 2 * (2 * n - 1 - c) + 1
theorem sideC_cyc {n k:Nat} (up:Bool) (h:k < n):sideC n (cyc n k up) = sideAt k up:=by
 unfold sideC cyc sideAt
 cases up
 ·simp only [Bool.false_eq_true,if_false]; split <;> omega
 ·simp only [if_true]; split <;> omega
def goC (t:Tray) (c:Nat):Int:=if c + 1 = t.n ∨ c + 1 = 2 * t.n then 0 else t.step
def costC (t:Tray) (c:Nat):Int:=secs t (sideC t.n c) + goC t c
def preC (t:Tray):Nat → Int
 | 0 => 0
 | k + 1 => preC t k + costC t k
def roundC (t:Tray):Int:=preC t (2 * t.n)
def timeC (t:Tray) (c d:Nat):Int:=if c ≤ d then preC t d - preC t c else roundC t - preC t c + preC t d
theorem sideC_lt {n c:Nat} (h:c < 2 * n):sideC n c < 2 * n:=by unfold sideC; split <;> omega
theorem costC_nonneg {t:Tray} (ht:TrayOk t) {c:Nat} (h:c < 2 * t.n):0 ≤ costC t c:=by
 have h1:=secs_ok ht (sideC_lt h)
 have h2:=ht.step
 unfold costC goC; split <;> omega
theorem preC_mono {t:Tray} (ht:TrayOk t) {a:Nat}:∀ (k:Nat),a + k ≤ 2 * t.n → preC t a ≤ preC t (a + k)
 | 0,_ => Int.le_refl _
 | k + 1,h => by
  have h1:=preC_mono ht (a:=a) k (by omega)
  have h2:=costC_nonneg ht (c:=a + k) (by omega)
  rw [← Nat.add_assoc]
  show _ ≤ preC t (a + k) + costC t (a + k)
  omega
theorem preC_le {t:Tray} (ht:TrayOk t) {a b:Nat} (h:a ≤ b) (hb:b ≤ 2 * t.n):preC t a ≤ preC t b:=by
 have:=preC_mono ht (a:=a) (b - a) (by omega)
 rwa [show a + (b - a) = b from by omega] at this
theorem preC_nonneg {t:Tray} (ht:TrayOk t) {a:Nat} (h:a ≤ 2 * t.n):0 ≤ preC t a:=preC_le ht (Nat.zero_le a) h
theorem timeC_le {t:Tray} (ht:TrayOk t) {c d:Nat} (hc:c < 2 * t.n) (hd:d < 2 * t.n):timeC t c d ≤ roundC t:=by
 have h1:=preC_le ht (a:=d) (b:=2 * t.n) (by omega) (by omega)
 have h2:=preC_nonneg ht (a:=c) (by omega)
 unfold timeC roundC at *
 split
 ·omega
 ·have:=preC_le ht (a:=d) (b:=c) (by omega) (by omega); omega
theorem timeC_self (t:Tray) (c:Nat):timeC t c c = 0:=by unfold timeC; rw [if_pos (Nat.le_refl _)]; omega
theorem timeC_next {t:Tray} (ht:TrayOk t) {c d:Nat} (hc:c < 2 * t.n) (hd:d < 2 * t.n):timeC t (cycNext t.n c) d + costC t c ≤ roundC t ∧ (c ≠ d → timeC t (cycNext t.n c) d + costC t c = timeC t c d):=by
 have hs:preC t (c + 1) = preC t c + costC t c:=rfl
 have h0:preC t 0 = 0:=rfl
 have h1:=preC_nonneg ht (a:=c) (by omega)
 unfold cycNext
 by_cases e:c + 1 = 2 * t.n
 ·rw [if_pos e]
  have h2:=preC_le ht (a:=d) (b:=c) (by omega) (by omega)
  have h3:roundC t = preC t (c + 1):=by unfold roundC; rw [e]
  have h4:timeC t 0 d = preC t d:=by unfold timeC; rw [if_pos (Nat.zero_le _)]; omega
  refine ⟨by omega,fun hne => ?_⟩
  rw [h4]; unfold timeC; rw [if_neg (by omega)]; omega
 ·rw [if_neg e]
  by_cases hcd:c + 1 ≤ d
  ·have h2:=preC_le ht (a:=d) (b:=2 * t.n) (by omega) (by omega)
   have h4:timeC t (c + 1) d = preC t d - preC t (c + 1):=by unfold timeC; rw [if_pos hcd]
   refine ⟨by unfold roundC; omega,fun hne => ?_⟩
   rw [h4]; unfold timeC; rw [if_pos (by omega)]; omega
  ·have h2:=preC_le ht (a:=d) (b:=c) (by omega) (by omega)
   have h4:timeC t (c + 1) d = roundC t - preC t (c + 1) + preC t d:=by unfold timeC; rw [if_neg hcd]
   refine ⟨by omega,fun hne => ?_⟩
   rw [h4]; unfold timeC; rw [if_neg (by omega)]; omega
theorem move_time {t:Tray} {s:Cs} (h:s.at_ < t.n):(s.move t).now = s.now + goC t (s.c t):=by
 unfold Cs.move Cs.c cyc goC
 cases s.up
 ·simp only [Bool.false_eq_true,if_false]
  by_cases h0:0 < s.at_
  ·rw [if_pos h0,if_neg (by omega)]
  ·rw [if_neg h0,if_pos (by omega)]; simp
 ·simp only [if_true]
  by_cases h0:s.at_ + 1 < t.n
  ·rw [if_pos h0,if_neg (by omega)]
  ·rw [if_neg h0,if_pos (by omega)]; simp
theorem pressQ_from (now:Int):∀ (q:List Pr) (pins:List Bool) (k:Nat),(pressQ now q pins).2.getD k false = true → pins.getD k false = true ∨ ∃ p ∈ q,p.side.toNat = k ∧ p.time ≤ now
 | [],pins,k,h => .inl h
 | a :: q,pins,k,h => by
  simp only [pressQ] at h
  split at h
  ·rename_i hle
   rcases pressQ_from now q _ k h with h1 | ⟨p,hp,h1⟩
   ·by_cases e:a.side.toNat = k
    ·exact .inr ⟨a,by simp,e,hle⟩
    ·left
     rw [List.getD_eq_getElem?_getD,List.getElem?_set,if_neg e,← List.getD_eq_getElem?_getD] at h1
     exact h1
   ·exact .inr ⟨p,by simp [hp],h1⟩
  ·exact .inl h
theorem pressQ_sub (now:Int) (q:List Pr) (pins:List Bool):∀ p ∈ (pressQ now q pins).1,p ∈ q:=by
 obtain ⟨k,hk⟩:=pressQ_suffix now q pins
 intro p hp
 rw [hk] at hp
 exact List.mem_of_mem_drop hp
def PlyOk (t:Tray) (l:List Pr):Prop:=∀ i (h:i < l.length),∃ p ∈ t.pres,p.side = l[i].side ∧ p.time ≤ l[i].time ∧ ∀ j (hj:j < i),(l[j]'(by omega)).side = p.side → (l[j]'(by omega)).time < p.time
structure Due (t:Tray) (s:Cs):Prop where
 due:∀ p ∈ t.pres,((p ∈ s.q ∨ (p.time ≤ s.now ∧ s.pins.getD p.side.toNat false = true)) ∧ s.now + timeC t (s.c t) (cycOf t.n p.side.toNat) ≤ p.time + roundC t) ∨ ∃ x ∈ s.plays,x.side = p.side ∧ p.time ≤ x.time ∧ x.time ≤ p.time + roundC t
 sub:∀ p ∈ s.q,p ∈ t.pres
 late:∀ p ∈ s.q,∀ y ∈ s.plays,y.time < p.time
 pin:∀ k,s.pins.getD k false = true → ∃ p ∈ t.pres,p.side = (k:Int) ∧ p.time ≤ s.now ∧ ∀ y ∈ s.plays,y.side = p.side → y.time < p.time
 ply:PlyOk t s.plays
theorem Due.press {t:Tray} (ht:TrayOk t) {s:Cs} (hs:CsOk t s) (h:Due t s):Due t s.press:=by
 have hl:∀ p ∈ s.q,0 ≤ p.side ∧ p.side < (s.pins.length:Int):=fun p hp => by have:=(hs.q p hp).1; have:=hs.pins; omega
 obtain ⟨h1,h2⟩:=pressQ_pins s.now s.q s.pins hl
 refine ⟨fun p hp => ?_,fun p hp => h.sub p (pressQ_sub _ _ _ p hp),fun p hp => h.late p (pressQ_sub _ _ _ p hp),fun k hk => ?_,h.ply⟩
 ·rcases h.due p hp with ⟨h3,h4⟩ | h3
  ·refine .inl ⟨?_,h4⟩
   rcases h3 with h3 | ⟨h3,h5⟩
   ·rcases h2 p h3 with h5 | ⟨h5,h6⟩
    ·exact .inl h5
    ·exact .inr ⟨h5,h6⟩
   ·exact .inr ⟨h3,h1 _ h5⟩
  ·exact .inr h3
 ·rcases pressQ_from s.now s.q s.pins k hk with h3 | ⟨p,hp,h3,h4⟩
  ·exact h.pin k h3
  ·refine ⟨p,h.sub p hp,?_,h4,fun y hy _ => h.late p hp y hy⟩
   have:=(hl p hp).1; omega
theorem Due.act1 {t:Tray} (ht:TrayOk t) {s s':Cs} (hs:CsOk t s) (hpr:Pressed s) (h:Due t s) (e:s.act1 t = some s'):Due t s':=by
 have hc:s.c t < 2 * t.n:=Cs.c_lt hs
 have hdl:∀ p ∈ t.pres,cycOf t.n p.side.toNat < 2 * t.n:=fun p hp => cycOf_lt (by have:=(ht.pres p hp).1; omega)
 rcases act1_cases e with ⟨p,q,hq,hpins,rfl⟩ | ⟨hpins,rfl⟩
 ·have hnow:=hpr p (by rw [hq]; simp)
  have hall:∀ k,¬ s.pins.getD k false = true:=fun k hk => by
   have hkl:k < s.pins.length:=by
    rcases Nat.lt_or_ge k s.pins.length with h | h
    ·exact h
    ·rw [List.getD_eq_getElem?_getD,List.getElem?_eq_none h] at hk; simp at hk
   rw [List.getD_eq_getElem?_getD,List.getElem?_eq_getElem hkl] at hk
   have:=List.all_eq_true.1 hpins _ (List.getElem_mem hkl)
   simp at hk
   rw [hk] at this; cases this
  refine ⟨fun x hx => ?_,h.sub,h.late,fun k hk => absurd hk (hall k),h.ply⟩
  rcases h.due x hx with ⟨h3,h4⟩ | h3
  ·rcases h3 with h3 | ⟨_,h3⟩
   ·refine .inl ⟨.inl h3,?_⟩
    have h5:=timeC_le ht hc (hdl x hx)
    have h6:p.time ≤ x.time:=by
     have hso:=hs.sorted
     rw [hq] at h3 hso
     rcases List.mem_cons.1 h3 with rfl | h3
     ·exact Int.le_refl _
     ·exact (List.pairwise_cons.1 hso).1 x h3
    show p.time + timeC t (s.c t) _ ≤ _
    omega
   ·exact absurd h3 (hall _)
  ·exact .inr h3
 ·obtain ⟨n1,n2,n3,n4⟩:=next_keeps t (s.play t)
  have hpos:=pos_lt hs
  have hsec:=secs_ok ht hpos
  have ea:(s.play t).at_ = s.at_ ∧ (s.play t).up = s.up:=⟨(play_pins t s).2.2.1,(play_pins t s).2.2.2⟩
  have hat:(s.play t).at_ < t.n:=by rw [ea.1]; exact hs.at_
  have ec:(s.play t).c t = s.c t:=by unfold Cs.c; rw [ea.1,ea.2]
  have hmv:((s.play t).next t).now = (s.play t).now + goC t (s.c t):=by rw [← ec]; exact move_time hat
  have hcn:((s.play t).next t).c t = cycNext t.n (s.c t):=by rw [← ec]; exact (move_c (t:=t) hat).1
  have hps:sideC t.n (s.c t) = s.pos:=sideC_cyc s.up hs.at_
  have hcost:costC t (s.c t) = secs t s.pos + goC t (s.c t):=by unfold costC; rw [hps]
  have hcp:cycOf t.n s.pos = s.c t:=cyc_pos t s
  have hgo:0 ≤ goC t (s.c t):=by have:=ht.step; unfold goC; split <;> omega
  by_cases hp:s.pins.getD s.pos false = true
  ·obtain ⟨p1,p2,p3,p4,p5,p6⟩:=play_yes (t:=t) hp
   refine ⟨fun x hx => ?_,fun x hx => ?_,fun x hx y hy => ?_,fun k hk => ?_,?_⟩
   ·rw [n1,n2,n3,p1,p2,p3,hmv,hcn,p4]
    have hx1:=(ht.pres x hx).1
    obtain ⟨t1,t2⟩:=timeC_next ht hc (hdl x hx)
    rcases h.due x hx with ⟨h3,h4⟩ | ⟨y,hy,hy2⟩
    ·rcases h3 with h3 | ⟨h3,h5⟩
     ·have:=hpr x h3
      exact .inl ⟨.inl h3,by omega⟩
     ·by_cases es:s.pos = x.side.toNat
      ·refine .inr ⟨⟨s.pos,s.now⟩,by simp,by simp only; omega,h3,?_⟩
       rw [← es,hcp,timeC_self] at h4
       simp only; omega
      ·have hne:s.c t ≠ cycOf t.n x.side.toNat:=fun e => es (cycOf_inj hpos (by omega) (by rw [hcp,e]))
       have t3:=t2 hne
       refine .inl ⟨.inr ⟨by omega,?_⟩,by omega⟩
       rw [List.getD_eq_getElem?_getD,List.getElem?_set,if_neg es,← List.getD_eq_getElem?_getD]
       exact h5
    ·exact .inr ⟨y,by simp [hy],hy2⟩
   ·rw [n1,p1] at hx; exact h.sub x hx
   ·rw [n1,p1] at hx
    rw [n3,p3] at hy
    rcases List.mem_append.1 hy with hy | hy
    ·exact h.late x hx y hy
    ·simp only [List.mem_singleton] at hy
     subst hy; exact hpr x hx
   ·rw [n2,p2] at hk
    have hne:s.pos ≠ k:=by
     rintro rfl
     rw [List.getD_eq_getElem?_getD,List.getElem?_set,if_pos rfl] at hk
     split at hk <;> simp at hk
    rw [List.getD_eq_getElem?_getD,List.getElem?_set,if_neg hne,← List.getD_eq_getElem?_getD] at hk
    obtain ⟨p,hp1,hp2,hp3,hp4⟩:=h.pin k hk
    refine ⟨p,hp1,hp2,by rw [hmv,p4]; omega,fun y hy hy2 => ?_⟩
    rw [n3,p3] at hy
    rcases List.mem_append.1 hy with hy | hy
    ·exact hp4 y hy hy2
    ·simp only [List.mem_singleton] at hy
     subst hy
     simp only at hy2; omega
   ·rw [n3,p3]
    intro i hi
    by_cases hil:i < s.plays.length
    ·obtain ⟨p,h1,h2,h3,h4⟩:=h.ply i hil
     refine ⟨p,h1,by rw [List.getElem_append_left hil]; exact h2,by rw [List.getElem_append_left hil]; exact h3,fun j hj => ?_⟩
     rw [List.getElem_append_left (by omega)]
     exact h4 j hj
    ·have hii:i = s.plays.length:=by simp at hi; omega
     subst hii
     obtain ⟨p,hp1,hp2,hp3,hp4⟩:=h.pin s.pos hp
     refine ⟨p,hp1,by simp [hp2],by simp; exact hp3,fun j hj => ?_⟩
     rw [List.getElem_append_left hj]
     exact hp4 _ (List.getElem_mem hj)
  ·rw [play_no hp] at n1 n2 n3 n4 hmv hcn ⊢
   refine ⟨fun x hx => ?_,fun x hx => ?_,fun x hx y hy => ?_,fun k hk => ?_,?_⟩
   ·rw [n1,n2,n3,hmv,hcn]
    have hx1:=(ht.pres x hx).1
    obtain ⟨t1,t2⟩:=timeC_next ht hc (hdl x hx)
    rcases h.due x hx with ⟨h3,h4⟩ | h3
    ·rcases h3 with h3 | ⟨h3,h5⟩
     ·have:=hpr x h3
      exact .inl ⟨.inl h3,by omega⟩
     ·have es:¬ s.pos = x.side.toNat:=fun e => by rw [← e] at h5; exact hp h5
      have hne:s.c t ≠ cycOf t.n x.side.toNat:=fun e => es (cycOf_inj hpos (by omega) (by rw [hcp,e]))
      have t3:=t2 hne
      exact .inl ⟨.inr ⟨by omega,h5⟩,by omega⟩
    ·exact .inr h3
   ·rw [n1] at hx; exact h.sub x hx
   ·rw [n1] at hx
    rw [n3] at hy
    exact h.late x hx y hy
   ·rw [n2] at hk
    obtain ⟨p,hp1,hp2,hp3,hp4⟩:=h.pin k hk
    exact ⟨p,hp1,hp2,by rw [hmv]; omega,fun y hy hy2 => hp4 y (by rwa [n3] at hy) hy2⟩
   ·rw [n3]; exact h.ply
theorem due {t:Tray} (ht:TrayOk t) {q:List Pr} (hq:q.Perm t.pres) (hqs:q.Pairwise fun a b => a.time ≤ b.time):Due t (goesWith t q):=by
 have h0:=start_okQ ht hq hqs
 obtain ⟨k,_,h,_,_,_⟩:=goes_inv ht hq hqs (fun _ s => Due t s) (by
  refine ⟨fun p hp => .inl ⟨.inl (hq.mem_iff.2 hp),?_⟩,fun p hp => hq.mem_iff.1 hp,fun p hp y hy => (by cases hy),fun k hk => ?_,fun i hi => absurd hi (Nat.not_lt_zero i)⟩
  ·have h1:=timeC_le ht (Cs.c_lt h0) (cycOf_lt (n:=t.n) (s:=p.side.toNat) (by have:=(ht.pres p hp).1; omega))
   have h2:=(ht.pres p hp).2
   show (0:Int) + _ ≤ _
   omega
  ·have hk:(List.replicate (2 * t.n) false).getD k false = true:=hk
   rw [List.getD_eq_getElem?_getD,List.getElem?_replicate] at hk
   split at hk <;> simp at hk)
  (fun k s hs h => h.press ht hs) (fun k s s' hs hpr h e => h.act1 ht hs hpr e)
 exact h
theorem wait_round {t:Tray} (ht:TrayOk t) {k:Int} (hk:inR t k = true):waitV t k ≤ roundC t:=by
 have hd:=due ht (sortT_perm t.pres) (sortT_sorted t.pres)
 have hr:=goes_ok ht
 obtain ⟨j,hj,h1,h2,h3,h4,_⟩:=served_get ht hk
 have hkk:=inR_spec hk
 have hp:t.pr k ∈ t.pres:=by
  unfold Tray.pr
  rw [List.getD_eq_getElem?_getD,List.getElem?_eq_getElem (by omega)]
  exact List.getElem_mem _
 obtain ⟨j',hj',h1',h2',h3'⟩:=served_ok hr hp
 have ejj:j' = j:=by
  have:servesI (playsS t) (t.pr k) 0 = (j':Int):=h1'
  omega
 subst ejj
 rcases hd.due _ hp with ⟨h5,_⟩ | ⟨x,hx,hx1,hx2,hx3⟩
 ·exfalso
  have hq:(goesWith t (sortT t.pres)).q = []:=hr.q
  have hpn:(goesWith t (sortT t.pres)).pins.all (!·) = true:=hr.pins
  rcases h5 with h5 | ⟨_,h5⟩
  ·rw [hq] at h5; cases h5
  ·generalize (goesWith t (sortT t.pres)).pins = P at *
   generalize (t.pr k).side.toNat = i at *
   have hkl:i < P.length:=by
    rcases Nat.lt_or_ge i P.length with h | h
    ·exact h
    ·rw [List.getD_eq_getElem?_getD,List.getElem?_eq_none h] at h5; simp at h5
   rw [List.getD_eq_getElem?_getD,List.getElem?_eq_getElem hkl] at h5
   have:=List.all_eq_true.1 hpn _ (List.getElem_mem hkl)
   simp at h5
   rw [h5] at this; cases this
 ·obtain ⟨i,hi,rfl⟩:=List.getElem_of_mem hx
  have hi:i < (playsS t).length:=hi
  have hij:j' ≤ i:=by
   rcases Nat.lt_or_ge i j' with h | h
   ·exact absurd ⟨hx1,hx2⟩ (h3' i h)
   ·exact h
  have hle:(playsS t)[j'].time ≤ (playsS t)[i].time:=by
   rcases Nat.lt_or_ge j' i with h | h
   ·have h6:=List.pairwise_iff_getElem.1 hr.inv.spc j' i hj hi h
    have h7:=hr.inv.ply _ (List.getElem_mem hj)
    have h8:=secs_ok ht (s:=(playsS t)[j'].side.toNat) (by have h7:0 ≤ (playsS t)[j'].side ∧ (playsS t)[j'].side < 2 * (t.n:Int) ∧ _:=h7; omega)
    have h6:(playsS t)[j'].time + secsI t (playsS t)[j'].side ≤ (playsS t)[i].time:=h6
    unfold secsI at h6
    omega
   ·have:j' = i:=by omega
    subst this; exact Int.le_refl _
  have hx3:(playsS t)[i].time ≤ _:=hx3
  omega
def sumT (t:Tray):Nat → Int
 | 0 => 0
 | k + 1 => sumT t k + ((t.rc k).front + (t.rc k).back)
theorem round_sum {t:Tray} (ht:TrayOk t):roundC t = 2 * t.step * ((t.n:Int) - 1) + sumT t t.n:=by
 have h6:=ht.n6
 have h1:=ht.n1
 unfold roundC
 generalize hn:t.n = n at *
 rcases (by omega:n = 1 ∨ n = 2 ∨ n = 3 ∨ n = 4 ∨ n = 5 ∨ n = 6) with rfl | rfl | rfl | rfl | rfl | rfl <;>
  simp [preC,costC,goC,sideC,hn,secs,sumT] <;> omega
end Go.Proofs.YtefoconkepmmgaaGreatDoor

namespace Go.Proofs.YtefoconkepmmgaaGreatDoor
open Go Go.V
abbrev o148_0:List Ins:=[JS 2 (.box 2 (.t 0)),JS 3 (JB false)]
abbrev o148_1:List Ins:=[JS 4 (Jf 0 2),JS 5 (Jl 4),JS 6 (Jf 0 1),JS 7 (Jl 6),JS 8 (Jb .eql 5 7),JS 9 (Jm 8),JG 10 (Jf 1 2) 9 true,JG 11 (Jl 10) 9 true,JG 12 (Jf 1 1) 9 true,JG 13 (Jl 12) 9 true,JG 14 (Jb .geq 11 13) 9 true,JS 15 (Jp 9 14),JS 3 (Jm 15)]
abbrev v148_2:VC:=(.seq (.ops o148_1) .ret)
def ir148:FC:=⟨2,16,[.t 3],(.seq (.ops o148_0) v148_2)⟩
abbrev o147_0:List Ins:=[JS 4 (Ji 0)]
abbrev o147_1:List Ins:=[JS 6 (Jm 0),JS 7 (Jn 6),JS 8 (Ji 0)]
abbrev o147_2:List Ins:=[JS 9 (Jb .lss 8 7)]
abbrev o147_3:List Ins:=[JS 10 (Jm 8),JS 5 (Jm 10)]
abbrev o147_4:List Ins:=[JS 11 (Jm 1),JS 12 (Jm 0),JS 13 (Jm 5),JS 14 (Ja 2 12 13),JS 15 (JL 2 14),JS 16 (.call (.t 11) [.t 15])]
abbrev o147_5:List Ins:=[JS 17 (Jm 5),JS 4 (Jm 17)]
abbrev v147_6:VC:=(.seq (.ops o147_5) .ret)
abbrev v147_7:VC:=(.cond (.t 16) v147_6 .skip)
abbrev v147_8:VC:=(.seq (.ops o147_4) v147_7)
abbrev v147_9:VC:=(.seq (.ops o147_3) v147_8)
abbrev o147_10:List Ins:=[JS 18 (Jk .add 8 1),JS 8 (Jm 18)]
abbrev v147_11:VC:=(.seq (.block 1 v147_9) (.ops o147_10))
abbrev v147_12:VC:=(.seq (.cond (.t 9) .skip (.exit 0)) v147_11)
abbrev v147_13:VC:=(.seq (.ops o147_2) v147_12)
-- K147_1: changed and kept: [8]
abbrev K147_1:List Nat:=[0,1,7]
abbrev v147_14:VC:=(.loop v147_13)
abbrev v147_15:VC:=(.block 0 v147_14)
abbrev o147_16:List Ins:=[JS 4 (Ji (-1))]
abbrev v147_17:VC:=(.seq (.ops o147_16) .ret)
abbrev v147_18:VC:=(.seq (.seq (.ops o147_1) v147_15) v147_17)
def ir147:FC:=⟨2,19,[.t 4],(.seq (.ops o147_0) v147_18)⟩
abbrev o116_0:List Ins:=[JS 3 (.box 2 (.t 1)),JS 4 (Ji 0)]
abbrev o116_1:List Ins:=[JS 5 (Jm 0),JS 6 (.mkfn 148 [.t 3]),JS 7 (Jc 147 [.t 5,.t 6]),JS 4 (Jm 7)]
abbrev v116_2:VC:=(.seq (.ops o116_1) .ret)
def ir116:FC:=⟨2,8,[.t 4],(.seq (.ops o116_0) v116_2)⟩
abbrev o142_0:List Ins:=[JS 2 (.box 5 (.t 0)),JS 4 (Ji 0),JS 5 (.mv (.k J0)),JS 6 (Ji 0)]
abbrev o142_1:List Ins:=[JS 9 (JL 5 2),JS 10 (Jc 49 [.t 9]),JS 7 (Jm 10)]
abbrev o142_2:List Ins:=[JS 11 (Jm 7),JS 12 (Jk .neq 11 0)]
abbrev o142_3:List Ins:=[JS 13 (Jm 7),JS 4 (Ji 0),JS 5 (.mv (.k J0)),JS 6 (Jm 13)]
abbrev v142_4:VC:=(.seq (.ops o142_3) .ret)
abbrev v142_5:VC:=(.cond (.t 12) v142_4 .skip)
abbrev v142_6:VC:=(.seq (.ops o142_2) v142_5)
abbrev o142_7:List Ins:=[JS 14 (Jm 1),JS 15 (Jk .lss 14 0),JS 16 (Jm 15),JG 17 (Jm 1) 16 false,JG 18 (Jf 4 2) 16 false,JG 19 (Jl 18) 16 false,JG 20 (Jn 19) 16 false,JG 21 (Jb .geq 17 20) 16 false,JS 22 (Jo 16 21)]
abbrev o142_8:List Ins:=[JS 4 (Ji 0),JS 5 (.mv (.k J0)),JS 6 (Ji 1)]
abbrev v142_9:VC:=(.seq (.ops o142_8) .ret)
abbrev v142_10:VC:=(.cond (.t 22) v142_9 .skip)
abbrev o142_11:List Ins:=[JS 23 (JL 5 2),JS 24 (Jc 115 [.t 23]),JS 25 (.fld true 1 1 (.t 24)),JS 8 (Jm 25)]
abbrev o142_12:List Ins:=[JS 26 (Jm 8),JS 27 (Jf 4 2),JS 28 (Jl 27),JS 29 (Jm 1),JS 30 (Ja 2 28 29),JS 31 (JL 2 30),JS 32 (Jc 116 [.t 26,.t 31]),JS 33 (Jm 8),JS 4 (Jm 32),JS 5 (Jm 33),JS 6 (Ji 0)]
abbrev v142_13:VC:=(.seq (.ops o142_12) .ret)
abbrev v142_14:VC:=(.seq (.ops o142_11) v142_13)
abbrev v142_15:VC:=(.seq (.seq (.ops o142_7) v142_10) v142_14)
abbrev v142_16:VC:=(.seq (.seq (.ops o142_1) v142_6) v142_15)
def ir142:FC:=⟨2,34,[.t 4,.t 5,.t 6],(.seq (.ops o142_0) v142_16)⟩
abbrev o112_0:List Ins:=[JS 2 (.box 5 (.t 0)),JS 4 (Ji 0),JS 5 (Ji 0)]
abbrev o112_1:List Ins:=[JS 10 (JL 5 2),JS 11 (Jm 1),JS 12 (Jc 142 [.t 10,.t 11]),JS 9 (Jm 12),JS 13 (Je 9 0),JS 14 (Je 9 1),JS 15 (Je 9 2),JS 6 (Jm 13),JS 7 (Jm 14),JS 8 (Jm 15)]
abbrev o112_2:List Ins:=[JS 16 (Jm 8),JS 17 (Jk .neq 16 0)]
abbrev o112_3:List Ins:=[JS 18 (Jm 8),JS 4 (Ji 0),JS 5 (Jm 18)]
abbrev v112_4:VC:=(.seq (.ops o112_3) .ret)
abbrev v112_5:VC:=(.cond (.t 17) v112_4 .skip)
abbrev o112_6:List Ins:=[JF 19 (Jm 7),JF 20 (Jm 6),JF 21 (Ja 2 19 20),JF 22 (Jf 1 21),JF 23 (Jl 22),JF 24 (Jf 4 2),JF 25 (Jl 24),JF 26 (Jm 1),JF 27 (Ja 2 25 26),JF 28 (Jf 1 27),JF 29 (Jl 28),JS 30 (Jb .sub 23 29),JS 4 (Jm 30),JS 5 (Ji 0)]
abbrev v112_7:VC:=(.seq (.dops o112_6) .ret)
abbrev v112_8:VC:=(.seq (.seq (.ops o112_2) v112_5) v112_7)
abbrev v112_9:VC:=(.seq (.ops o112_1) v112_8)
def ir112:FC:=⟨2,31,[.t 4,.t 5],(.seq (.ops o112_0) v112_9)⟩
abbrev o114_0:List Ins:=[JS 1 (.box 5 (.t 0)),JS 2 (Ji 0)]
abbrev o114_1:List Ins:=[JS 4 (JL 5 1),JS 5 (Jc 49 [.t 4]),JS 3 (Jm 5)]
abbrev o114_2:List Ins:=[JS 6 (Jm 3),JS 7 (Jk .neq 6 0)]
abbrev o114_3:List Ins:=[JS 8 (Jm 3),JS 2 (Jm 8)]
abbrev v114_4:VC:=(.seq (.ops o114_3) .ret)
abbrev v114_5:VC:=(.cond (.t 7) v114_4 .skip)
abbrev v114_6:VC:=(.seq (.ops o114_2) v114_5)
abbrev o114_7:List Ins:=[JS 9 (Jf 4 1),JS 10 (Jl 9),JS 11 (Jn 10),JS 12 (Jk .eql 11 0)]
abbrev o114_8:List Ins:=[JS 2 (Ji 3)]
abbrev v114_9:VC:=(.seq (.ops o114_8) .ret)
abbrev v114_10:VC:=(.cond (.t 12) v114_9 .skip)
abbrev o114_11:List Ins:=[JS 2 (Ji 0)]
abbrev v114_12:VC:=(.seq (.ops o114_11) .ret)
abbrev v114_13:VC:=(.seq (.seq (.ops o114_7) v114_10) v114_12)
abbrev v114_14:VC:=(.seq (.seq (.ops o114_1) v114_6) v114_13)
def ir114:FC:=⟨1,13,[.t 2],(.seq (.ops o114_0) v114_14)⟩
abbrev o88_0:List Ins:=[JS 1 (.box 5 (.t 0)),JS 2 (Ji 0),JS 3 (Ji 0)]
abbrev o88_1:List Ins:=[JS 5 (JL 5 1),JS 6 (Jc 114 [.t 5]),JS 4 (Jm 6)]
abbrev o88_2:List Ins:=[JS 7 (Jm 4),JS 8 (Jk .neq 7 0)]
abbrev o88_3:List Ins:=[JS 9 (Jm 4),JS 2 (Ji 0),JS 3 (Jm 9)]
abbrev v88_4:VC:=(.seq (.ops o88_3) .ret)
abbrev v88_5:VC:=(.cond (.t 8) v88_4 .skip)
abbrev v88_6:VC:=(.seq (.ops o88_2) v88_5)
abbrev o88_7:List Ins:=[JS 10 (JL 5 1),JS 11 (Jc 115 [.t 10]),JS 12 (.fld true 1 3 (.t 11)),JS 2 (Jm 12),JS 3 (Ji 0)]
abbrev v88_8:VC:=(.seq (.ops o88_7) .ret)
abbrev v88_9:VC:=(.seq (.seq (.ops o88_1) v88_6) v88_8)
def ir88:FC:=⟨1,13,[.t 2,.t 3],(.seq (.ops o88_0) v88_9)⟩
theorem c148:compM Tryz.prog [] 148 = some ir148:=by kernel_rfl
theorem c147:compM Tryz.prog [] 147 = some ir147:=by kernel_rfl
theorem c116:compM Tryz.prog [] 116 = some ir116:=by kernel_rfl
theorem c142:compM Tryz.prog [] 142 = some ir142:=by kernel_rfl
theorem c112:compM Tryz.prog [] 112 = some ir112:=by kernel_rfl
theorem c114:compM Tryz.prog [] 114 = some ir114:=by kernel_rfl
theorem c88:compM Tryz.prog [] 88 = some ir88:=by kernel_rfl
attribute [local go_sem] Nat.reduceEqDiff Nat.reduceAdd Nat.reduceMul reduceIte Nat.reduceLeDiff Nat.reduceLT Nat.reduceBEq reduceCtorEq
theorem serves74 (p x:Pr):FSpec Tryz.prog 148 [prAv x,.c (.pt p.cds)] (.c (.bool (servesB p x))):=by
 refine FSpec_of c148 (Nat.le_refl _) (by decide) fun C hP hN hC hL => ?_; rw [init_st]
 simp only [ir148,prAv,Pr.cds]
 (repeat ((first | refine Va ?_ | refine Vb ?_ | refine Vc ?_ | refine Vd ?_ | refine Ve ?_ | refine Vf ?_); (try simp only [go_sem,hP]); (repeat refine qJ ?_)))
 (refine WV_ret ?_; simp only [thenQ,inQ,RetQ,RetOk,resAll,resA]; simp only [go_sem,tupA,AV.port,AV.portL,exists_eq_left']; (first | exact AVle.of rfl | refine AVle.of ?_ | skip))
set_option maxHeartbeats 4000000 in
theorem index73 (p:Pr) (l:List Pr) (hl:l.length ≤ 100000):FSpec Tryz.prog 147 [.c (prsC l),.fn 148 [.c (.pt p.cds)]] (iv (servesI l p 0)):=by
 refine FSpec_of c147 (Nat.le_refl _) (by decide) fun C hP hN hC hL => ?_; rw [init_st]
 simp only [ir147]
 (repeat ((first | refine Va ?_ | refine Vb ?_ | refine Vc ?_ | refine Vd ?_ | refine Ve ?_ | refine Vf ?_); (try simp only [go_sem,hP,prsC,List.length_map]); (repeat refine qJ ?_)))
 (refine WV_loopK K147_1 [] (fun k:Nat => k ≤ l.length ∧ servesI l p 0 = servesI (l.drop k) p k) (fun k => l.length - k) (fun k => [(8,iv k)]) (fun _ => []) 0 ⟨Nat.zero_le _,rfl⟩ ?_ ?_)
 ·exact Sub_au
 ·intro k ⟨hk,hx⟩
  simp only [go_sem]
  (repeat ((first | refine Va ?_ | refine Vb ?_ | refine Vc ?_ | refine Vd ?_ | refine Ve ?_ | refine Vf ?_); (try simp only [go_sem,hP]); (repeat refine qJ ?_)))
  (refine WV_cond rfl (fun h => ?_) (fun h => ?_))
  ·have h:k < l.length:=by simpa using h
   have hI:(k:Int) < (l.length:Int):=by omega
   have hw2:=w64 (n:=(k:Int) + 1) (by omega) (by omega)
   rw [servesI_step p h] at hx
   have hs:=serves74 p l[k]
   (repeat ((first | refine Va ?_ | refine Vb ?_ | refine Vc ?_ | refine Vd ?_ | refine Ve ?_ | refine Vf ?_); (try simp only [go_sem,hP,map_getD h,hI,List.length_map,Pr.cds,Int.natCast_nonneg]); (repeat refine qJ ?_)))
   (refine AS_pu (hs) ?_; simp only [go_sem,hP,prAv,Pr.cds]; (repeat refine qJ ?_); (repeat ((first | refine Va ?_ | refine Vb ?_ | refine Vc ?_ | refine Vd ?_ | refine Ve ?_ | refine Vf ?_); (try simp only [go_sem,hP,prAv,Pr.cds]); (repeat refine qJ ?_))))
   cases hb:servesB p l[k]
   ·rw [hb] at hx
    (refine WV_cond rfl (fun h => ?_) (fun h => ?_))
    ·simp at h
    ·(repeat ((first | refine Va ?_ | refine Vb ?_ | refine Vc ?_ | refine Vd ?_ | refine Ve ?_ | refine Vf ?_); (try simp only [go_sem,hP,hw2]); (repeat refine qJ ?_)))
     refine ⟨k + 1,⟨by omega,by rw [hx]; rfl⟩,by omega,?_⟩
     exact Sub_au
   ·rw [hb] at hx
    (refine WV_cond rfl (fun h => ?_) (fun h => ?_))
    ·(repeat ((first | refine Va ?_ | refine Vb ?_ | refine Vc ?_ | refine Vd ?_ | refine Ve ?_ | refine Vf ?_); (try simp only [go_sem,hP]); (repeat refine qJ ?_)))
     (refine WV_ret ?_; simp only [thenQ,inQ,RetQ,RetOk,resAll,resA]; simp only [go_sem,tupA,AV.port,AV.portL,exists_eq_left']; (first | exact AVle.of rfl | refine AVle.of ?_ | skip))
     rw [hx]; rfl
    ·simp at h
  ·have h:k = l.length:=by simp at h; omega
   subst h
   (repeat ((first | refine Va ?_ | refine Vb ?_ | refine Vc ?_ | refine Vd ?_ | refine Ve ?_ | refine Vf ?_); (try simp only [go_sem,hP]); (repeat refine qJ ?_)))
   (refine WV_ret ?_; simp only [thenQ,inQ,RetQ,RetOk,resAll,resA]; simp only [go_sem,tupA,AV.port,AV.portL,exists_eq_left']; (first | exact AVle.of rfl | refine AVle.of ?_ | skip))
   rw [hx,List.drop_length]
   rfl
theorem serves57 (l:List Pr) (p:Pr) (hl:l.length ≤ 100000):FSpec Tryz.prog 116 [.c (prsC l),prAv p] (iv (servesI l p 0)):=by
 refine FSpec_of c116 (Nat.le_refl _) (by decide) fun C hP hN hC hL => ?_; rw [init_st]
 simp only [ir116,prAv]
 (refine WV_sop ?_; simp only [go_sem,hP]; (repeat refine qJ ?_))
 refine WV_freeze 3 (ds:=p.cds) rfl rfl ?_
 simp only [go_sem,Pr.cds]
 (repeat ((first | refine Va ?_ | refine Vb ?_ | refine Vc ?_ | refine Vd ?_ | refine Ve ?_ | refine Vf ?_); (try simp only [go_sem,hP]); (repeat refine qJ ?_)))
 (refine AS_pu (index73 p l hl) ?_; simp only [go_sem,hP,Pr.cds]; (repeat refine qJ ?_); (repeat ((first | refine Va ?_ | refine Vb ?_ | refine Vc ?_ | refine Vd ?_ | refine Ve ?_ | refine Vf ?_); (try simp only [go_sem,hP,Pr.cds]); (repeat refine qJ ?_))))
 (refine WV_ret ?_; simp only [thenQ,inQ,RetQ,RetOk,resAll,resA]; simp only [go_sem,tupA,AV.port,AV.portL,exists_eq_left']; (first | exact AVle.of rfl | refine AVle.of ?_ | skip))
theorem served58 (t:Tray) (k:Int):FSpec Tryz.prog 142 [t.av,iv k] (.tup [iv (servedR t k).1,.c (prsC (servedR t k).2.1),iv (servedR t k).2.2]):=by
 have hck:=check40 t
 unfold servedR
 cases hok:t.ok
 ·simp only [hok,Bool.false_eq_true,if_false] at hck ⊢
  refine FSpec_of c142 (Nat.le_refl _) (by decide) fun C hP hN hC hL => ?_; rw [init_st]
  simp only [ir142,Tray.av]
  (repeat ((first | refine Va ?_ | refine Vb ?_ | refine Vc ?_ | refine Vd ?_ | refine Ve ?_ | refine Vf ?_); (try simp only [go_sem,hP]); (repeat refine qJ ?_)))
  (refine AS_pu (hck) ?_; simp only [go_sem,hP,Tray.av]; (repeat refine qJ ?_); (repeat ((first | refine Va ?_ | refine Vb ?_ | refine Vc ?_ | refine Vd ?_ | refine Ve ?_ | refine Vf ?_); (try simp only [go_sem,hP,Tray.av]); (repeat refine qJ ?_))))
  (refine WV_cond rfl (fun h => ?_) (fun h => ?_))
  ·(repeat ((first | refine Va ?_ | refine Vb ?_ | refine Vc ?_ | refine Vd ?_ | refine Ve ?_ | refine Vf ?_); (try simp only [go_sem,hP]); (repeat refine qJ ?_)))
   (refine WV_ret ?_; simp only [thenQ,inQ,RetQ,RetOk,resAll,resA]; simp only [go_sem,tupA,AV.port,AV.portL,exists_eq_left'])
   exact AVle.tup (AVles.cons (AVle.refl _) (AVles.cons (AVle.nil 2) (AVles.refl _)))
  ·simp at h
 simp only [hok,if_true] at hck ⊢
 have ht:=(Tray.ok_spec hok).1
 have hgo:=goes54 ht
 have hpl:=plays_len ht
 cases hin:inR t k
 ·have hb:(decide (k < 0) || decide ((t.pres.length:Int) ≤ k)) = true:=by
   simp only [inR,within,Bool.and_eq_false_iff,decide_eq_false_iff_not] at hin
   simp; omega
  simp only [Bool.false_eq_true,if_false]
  refine FSpec_of c142 (Nat.le_refl _) (by decide) fun C hP hN hC hL => ?_; rw [init_st]
  simp only [ir142,Tray.av]
  (repeat ((first | refine Va ?_ | refine Vb ?_ | refine Vc ?_ | refine Vd ?_ | refine Ve ?_ | refine Vf ?_); (try simp only [go_sem,hP]); (repeat refine qJ ?_)))
  (refine AS_pu (hck) ?_; simp only [go_sem,hP,Tray.av]; (repeat refine qJ ?_); (repeat ((first | refine Va ?_ | refine Vb ?_ | refine Vc ?_ | refine Vd ?_ | refine Ve ?_ | refine Vf ?_); (try simp only [go_sem,hP,Tray.av]); (repeat refine qJ ?_))))
  (refine WV_cond rfl (fun h => ?_) (fun h => ?_))
  ·simp at h
  ·(repeat ((first | refine Va ?_ | refine Vb ?_ | refine Vc ?_ | refine Vd ?_ | refine Ve ?_ | refine Vf ?_); (try simp only [go_sem,hP,prsC,List.length_map,hb]); (repeat refine qJ ?_)))
   (refine WV_cond rfl (fun h => ?_) (fun h => ?_))
   ·(repeat ((first | refine Va ?_ | refine Vb ?_ | refine Vc ?_ | refine Vd ?_ | refine Ve ?_ | refine Vf ?_); (try simp only [go_sem,hP]); (repeat refine qJ ?_)))
    (refine WV_ret ?_; simp only [thenQ,inQ,RetQ,RetOk,resAll,resA]; simp only [go_sem,tupA,AV.port,AV.portL,exists_eq_left'])
    exact AVle.tup (AVles.cons (AVle.refl _) (AVles.cons (AVle.nil 2) (AVles.refl _)))
   ·simp at h
 ·obtain ⟨h0,h1⟩:=inR_spec hin
  have hb:(decide (k < 0) || decide ((t.pres.length:Int) ≤ k)) = false:=by simp; omega
  have hk:k.toNat < t.pres.length:=by omega
  have hpr:t.pr k = t.pres[k.toNat]:=by simp [Tray.pr,hk]
  have hse:=serves57 (playsS t) (t.pr k) (by omega)
  rw [hpr] at hse
  simp only [if_true]
  refine FSpec_of c142 (Nat.le_refl _) (by decide) fun C hP hN hC hL => ?_; rw [init_st]
  simp only [ir142,Tray.av]
  (repeat ((first | refine Va ?_ | refine Vb ?_ | refine Vc ?_ | refine Vd ?_ | refine Ve ?_ | refine Vf ?_); (try simp only [go_sem,hP]); (repeat refine qJ ?_)))
  (refine AS_pu (hck) ?_; simp only [go_sem,hP,Tray.av]; (repeat refine qJ ?_); (repeat ((first | refine Va ?_ | refine Vb ?_ | refine Vc ?_ | refine Vd ?_ | refine Ve ?_ | refine Vf ?_); (try simp only [go_sem,hP,Tray.av]); (repeat refine qJ ?_))))
  (refine WV_cond rfl (fun h => ?_) (fun h => ?_))
  ·simp at h
  ·(repeat ((first | refine Va ?_ | refine Vb ?_ | refine Vc ?_ | refine Vd ?_ | refine Ve ?_ | refine Vf ?_); (try simp only [go_sem,hP,prsC,List.length_map,hb]); (repeat refine qJ ?_)))
   (refine WV_cond rfl (fun h => ?_) (fun h => ?_))
   ·simp at h
   ·(repeat ((first | refine Va ?_ | refine Vb ?_ | refine Vc ?_ | refine Vd ?_ | refine Ve ?_ | refine Vf ?_); (try simp only [go_sem,hP]); (repeat refine qJ ?_)))
    (refine AS_pu (hgo) ?_; simp only [go_sem,hP,Tray.av,Cs.run,prsC,List.length_map,map_getD hk,h0,h1,Pr.cds]; (repeat refine qJ ?_); (repeat ((first | refine Va ?_ | refine Vb ?_ | refine Vc ?_ | refine Vd ?_ | refine Ve ?_ | refine Vf ?_); (try simp only [go_sem,hP,Tray.av,Cs.run,prsC,List.length_map,map_getD hk,h0,h1,Pr.cds]); (repeat refine qJ ?_))))
    (refine AS_pu (hse) ?_; simp only [go_sem,hP,prAv,prsC,playsS]; (repeat refine qJ ?_); (repeat ((first | refine Va ?_ | refine Vb ?_ | refine Vc ?_ | refine Vd ?_ | refine Ve ?_ | refine Vf ?_); (try simp only [go_sem,hP,prAv,prsC,playsS]); (repeat refine qJ ?_))))
    (refine WV_ret ?_; simp only [thenQ,inQ,RetQ,RetOk,resAll,resA]; simp only [go_sem,tupA,AV.port,AV.portL,exists_eq_left']; (first | exact AVle.of rfl | refine AVle.of ?_ | skip))
    rw [hpr]
theorem wait27 (t:Tray) (k:Int):FSpec Tryz.prog 112 [t.av,iv k] (.tup [iv (waitR t k).1,iv (waitR t k).2]):=by
 have hs:=served58 t k
 unfold waitR
 by_cases h0:(servedR t k).2.2 = 0
 ·rw [if_pos h0]
  obtain ⟨hok,hin,he⟩:=served_zero h0
  have ht:=(Tray.ok_spec hok).1
  obtain ⟨j,hj,e1,e2,e3,e4,e5,e6,e7,e8⟩:=served_get ht hin
  obtain ⟨k0,k1⟩:=inR_spec hin
  have hk:k.toNat < t.pres.length:=by omega
  have hpr:t.pr k = t.pres[k.toNat]:=by simp [Tray.pr,hk]
  have hjI:(j:Int) < ((playsS t).length:Int):=by omega
  rw [he,e1] at hs
  rw [e4]
  rw [hpr] at e3 e7 e8 ⊢
  have hw:=w64 (n:=(playsS t)[j].time - t.pres[k.toNat].time) (by omega) (by omega)
  refine FSpec_of c112 (Nat.le_refl _) (by decide) fun C hP hN hC hL => ?_; rw [init_st]
  simp only [ir112,Tray.av]
  (repeat ((first | refine Va ?_ | refine Vb ?_ | refine Vc ?_ | refine Vd ?_ | refine Ve ?_ | refine Vf ?_); (try simp only [go_sem,hP]); (repeat refine qJ ?_)))
  (refine AS_pu (hs) ?_; simp only [go_sem,hP,Tray.av]; (repeat refine qJ ?_); (repeat ((first | refine Va ?_ | refine Vb ?_ | refine Vc ?_ | refine Vd ?_ | refine Ve ?_ | refine Vf ?_); (try simp only [go_sem,hP,Tray.av]); (repeat refine qJ ?_))))
  (refine WV_cond rfl (fun h => ?_) (fun h => ?_))
  ·simp at h
  ·(repeat ((first | refine Va ?_ | refine Vb ?_ | refine Vc ?_ | refine Vd ?_ | refine Ve ?_ | refine Vf ?_); (try simp only [go_sem,hP,prsC,List.length_map,map_getD hj,map_getD hk,hjI,k0,k1,Pr.cds,Int.natCast_nonneg,hw]); (repeat refine qJ ?_)))
   (refine WV_ret ?_; simp only [thenQ,inQ,RetQ,RetOk,resAll,resA]; simp only [go_sem,tupA,AV.port,AV.portL,exists_eq_left']; (first | exact AVle.of rfl | refine AVle.of ?_ | skip))
 ·rw [if_neg h0]
  generalize servedR t k = X at *
  have hb:(X.2.2 != 0) = true:=by simpa using h0
  refine FSpec_of c112 (Nat.le_refl _) (by decide) fun C hP hN hC hL => ?_; rw [init_st]
  simp only [ir112,Tray.av]
  (repeat ((first | refine Va ?_ | refine Vb ?_ | refine Vc ?_ | refine Vd ?_ | refine Ve ?_ | refine Vf ?_); (try simp only [go_sem,hP]); (repeat refine qJ ?_)))
  (refine AS_pu (hs) ?_; simp only [go_sem,hP,Tray.av,hb]; (repeat refine qJ ?_); (repeat ((first | refine Va ?_ | refine Vb ?_ | refine Vc ?_ | refine Vd ?_ | refine Ve ?_ | refine Vf ?_); (try simp only [go_sem,hP,Tray.av,hb]); (repeat refine qJ ?_))))
  (refine WV_cond rfl (fun h => ?_) (fun h => ?_))
  ·(repeat ((first | refine Va ?_ | refine Vb ?_ | refine Vc ?_ | refine Vd ?_ | refine Ve ?_ | refine Vf ?_); (try simp only [go_sem,hP]); (repeat refine qJ ?_)))
   (refine WV_ret ?_; simp only [thenQ,inQ,RetQ,RetOk,resAll,resA]; simp only [go_sem,tupA,AV.port,AV.portL,exists_eq_left']; (first | exact AVle.of rfl | refine AVle.of ?_ | skip))
  ·simp at h
theorem pressed62 (t:Tray):FSpec Tryz.prog 114 [t.av] (iv (pressedE t)):=by
 have hck:=check40 t
 unfold pressedE
 cases hok:t.ok
 ·simp only [hok,Bool.false_eq_true,if_false] at hck ⊢
  refine FSpec_of c114 (Nat.le_refl _) (by decide) fun C hP hN hC hL => ?_; rw [init_st]
  simp only [ir114,Tray.av]
  (repeat ((first | refine Va ?_ | refine Vb ?_ | refine Vc ?_ | refine Vd ?_ | refine Ve ?_ | refine Vf ?_); (try simp only [go_sem,hP]); (repeat refine qJ ?_)))
  (refine AS_pu (hck) ?_; simp only [go_sem,hP,Tray.av]; (repeat refine qJ ?_); (repeat ((first | refine Va ?_ | refine Vb ?_ | refine Vc ?_ | refine Vd ?_ | refine Ve ?_ | refine Vf ?_); (try simp only [go_sem,hP,Tray.av]); (repeat refine qJ ?_))))
  (refine WV_cond rfl (fun h => ?_) (fun h => ?_))
  ·(repeat ((first | refine Va ?_ | refine Vb ?_ | refine Vc ?_ | refine Vd ?_ | refine Ve ?_ | refine Vf ?_); (try simp only [go_sem,hP]); (repeat refine qJ ?_)))
   (refine WV_ret ?_; simp only [thenQ,inQ,RetQ,RetOk,resAll,resA]; simp only [go_sem,tupA,AV.port,AV.portL,exists_eq_left']; (first | exact AVle.of rfl | refine AVle.of ?_ | skip))
  ·simp at h
 ·simp only [hok,if_true] at hck ⊢
  refine FSpec_of c114 (Nat.le_refl _) (by decide) fun C hP hN hC hL => ?_; rw [init_st]
  simp only [ir114,Tray.av]
  (repeat ((first | refine Va ?_ | refine Vb ?_ | refine Vc ?_ | refine Vd ?_ | refine Ve ?_ | refine Vf ?_); (try simp only [go_sem,hP]); (repeat refine qJ ?_)))
  (refine AS_pu (hck) ?_; simp only [go_sem,hP,Tray.av]; (repeat refine qJ ?_); (repeat ((first | refine Va ?_ | refine Vb ?_ | refine Vc ?_ | refine Vd ?_ | refine Ve ?_ | refine Vf ?_); (try simp only [go_sem,hP,Tray.av]); (repeat refine qJ ?_))))
  (refine WV_cond rfl (fun h => ?_) (fun h => ?_))
  ·simp at h
  ·(repeat ((first | refine Va ?_ | refine Vb ?_ | refine Vc ?_ | refine Vd ?_ | refine Ve ?_ | refine Vf ?_); (try simp only [go_sem,hP,prsC,List.length_map]); (repeat refine qJ ?_)))
   (refine WV_cond rfl (fun h => ?_) (fun h => ?_))
   ·have h:t.pres.length = 0:=by simpa using h
    (repeat ((first | refine Va ?_ | refine Vb ?_ | refine Vc ?_ | refine Vd ?_ | refine Ve ?_ | refine Vf ?_); (try simp only [go_sem,hP]); (repeat refine qJ ?_)))
    (refine WV_ret ?_; simp only [thenQ,inQ,RetQ,RetOk,resAll,resA]; simp only [go_sem,tupA,AV.port,AV.portL,exists_eq_left']; (first | exact AVle.of rfl | refine AVle.of ?_ | skip))
    rw [if_pos h]
   ·have h:¬ t.pres.length = 0:=by simpa using h
    (repeat ((first | refine Va ?_ | refine Vb ?_ | refine Vc ?_ | refine Vd ?_ | refine Ve ?_ | refine Vf ?_); (try simp only [go_sem,hP]); (repeat refine qJ ?_)))
    (refine WV_ret ?_; simp only [thenQ,inQ,RetQ,RetOk,resAll,resA]; simp only [go_sem,tupA,AV.port,AV.portL,exists_eq_left']; (first | exact AVle.of rfl | refine AVle.of ?_ | skip))
    rw [if_neg h]
theorem end38 (t:Tray):FSpec Tryz.prog 88 [t.av] (.tup [iv (endR t).1,iv (endR t).2]):=by
 have hck:=pressed62 t
 unfold endR
 by_cases h0:pressedE t = 0
 ·rw [if_pos h0]
  rw [h0] at hck
  have hgo:=goes54 (Tray.ok_spec (pressed_zero h0).1).1
  refine FSpec_of c88 (Nat.le_refl _) (by decide) fun C hP hN hC hL => ?_; rw [init_st]
  simp only [ir88,Tray.av]
  (repeat ((first | refine Va ?_ | refine Vb ?_ | refine Vc ?_ | refine Vd ?_ | refine Ve ?_ | refine Vf ?_); (try simp only [go_sem,hP]); (repeat refine qJ ?_)))
  (refine AS_pu (hck) ?_; simp only [go_sem,hP,Tray.av]; (repeat refine qJ ?_); (repeat ((first | refine Va ?_ | refine Vb ?_ | refine Vc ?_ | refine Vd ?_ | refine Ve ?_ | refine Vf ?_); (try simp only [go_sem,hP,Tray.av]); (repeat refine qJ ?_))))
  (refine WV_cond rfl (fun h => ?_) (fun h => ?_))
  ·simp at h
  ·(repeat ((first | refine Va ?_ | refine Vb ?_ | refine Vc ?_ | refine Vd ?_ | refine Ve ?_ | refine Vf ?_); (try simp only [go_sem,hP]); (repeat refine qJ ?_)))
   (refine AS_pu (hgo) ?_; simp only [go_sem,hP,Tray.av,Cs.run]; (repeat refine qJ ?_); (repeat ((first | refine Va ?_ | refine Vb ?_ | refine Vc ?_ | refine Vd ?_ | refine Ve ?_ | refine Vf ?_); (try simp only [go_sem,hP,Tray.av,Cs.run]); (repeat refine qJ ?_))))
   (refine WV_ret ?_; simp only [thenQ,inQ,RetQ,RetOk,resAll,resA]; simp only [go_sem,tupA,AV.port,AV.portL,exists_eq_left']; (first | exact AVle.of rfl | refine AVle.of ?_ | skip))
 ·rw [if_neg h0]
  have hb:(pressedE t != 0) = true:=by simpa using h0
  refine FSpec_of c88 (Nat.le_refl _) (by decide) fun C hP hN hC hL => ?_; rw [init_st]
  simp only [ir88,Tray.av]
  (repeat ((first | refine Va ?_ | refine Vb ?_ | refine Vc ?_ | refine Vd ?_ | refine Ve ?_ | refine Vf ?_); (try simp only [go_sem,hP]); (repeat refine qJ ?_)))
  (refine AS_pu (hck) ?_; simp only [go_sem,hP,Tray.av,hb]; (repeat refine qJ ?_); (repeat ((first | refine Va ?_ | refine Vb ?_ | refine Vc ?_ | refine Vd ?_ | refine Ve ?_ | refine Vf ?_); (try simp only [go_sem,hP,Tray.av,hb]); (repeat refine qJ ?_))))
  (refine WV_cond rfl (fun h => ?_) (fun h => ?_))
  ·(repeat ((first | refine Va ?_ | refine Vb ?_ | refine Vc ?_ | refine Vd ?_ | refine Ve ?_ | refine Vf ?_); (try simp only [go_sem,hP]); (repeat refine qJ ?_)))
   (refine WV_ret ?_; simp only [thenQ,inQ,RetQ,RetOk,resAll,resA]; simp only [go_sem,tupA,AV.port,AV.portL,exists_eq_left']; (first | exact AVle.of rfl | refine AVle.of ?_ | skip))
  ·simp at h
end Go.Proofs.YtefoconkepmmgaaGreatDoor

namespace Go.Proofs.YtefoconkepmmgaaGreatDoor
open Go Go.V
variable {tb:Obj}
abbrev o47_0:List Ins:=[JS 0 (.alloc [J0,Jz 0,Jz 0,Jz 0,J0]),JS 1 (.alloc [J0,Jz 0,Jz 0,Jz 0,J0])]
abbrev o47_1:List Ins:=[JS 2 (.bld [Jz 0,Jz 0] [(0,1,(.k (Jz 100))),(1,1,(.k (Jz 90)))]),JS 3 (.bld [Jz 0,Jz 0] [(0,1,(.k (Jz 120))),(1,1,(.k (Jz 80)))]),JS 4 (.bld [Jz 0,Jz 0] [(0,1,(.k (Jz 60))),(1,1,(.k (Jz 70)))]),JS 5 (.bsl 84 2 [.t 2,.t 3,.t 4]),JS 6 (.bld [Jz 0,Jz 0] [(0,1,(.k (Jz 3)))]),JS 7 (.bld [Jz 0,Jz 0] [(0,1,(.k (Jz 4))),(1,1,(.k (Jz 10)))]),JS 8 (.bld [Jz 0,Jz 0] [(1,1,(.k (Jz 12)))]),JS 9 (.bld [Jz 0,Jz 0] [(0,1,(.k (Jz 3))),(1,1,(.k (Jz 50)))]),JS 10 (.bld [Jz 0,Jz 0] [(1,1,(.k (Jz 300)))]),JS 11 (.bsl 48 2 [.t 6,.t 7,.t 8,.t 9,.t 10]),JS 12 (.bld [J0,Jz 0,Jz 0,Jz 0,J0] [(0,1,(.t 5)),(2,1,(.k (Jz 1))),(3,1,(.k (Jz 5))),(4,1,(.t 11))]),JN (Js 5 0 12)]
abbrev o47_2:List Ins:=[JS 13 (.bld [Jz 0,Jz 0] [(0,1,(.k (Jz 10))),(1,1,(.k (Jz 20)))]),JS 14 (.bld [Jz 0,Jz 0] [(0,1,(.k (Jz 30))),(1,1,(.k (Jz 40)))]),JS 15 (.bsl 84 2 [.t 13,.t 14]),JS 16 (.bld [Jz 0,Jz 0] [(0,1,(.k (Jz 3)))]),JS 17 (.bsl 48 2 [.t 16]),JS 18 (.bld [J0,Jz 0,Jz 0,Jz 0,J0] [(0,1,(.t 15)),(2,1,(.k (Jz (-1)))),(3,1,(.k (Jz 60))),(4,1,(.t 17))]),JN (Js 5 1 18)]
abbrev t47_3:OT:=(.cons (JF 19 (JL 5 0)) (.br [(.cons (JF 20 (JL 5 1)) (.cons (JE (Js 5 0 19)) (.cons (JN (Js 5 1 20)) .nil))),(.cons (JE (Js 5 0 19)) (.cons (JF 20 (JL 5 1)) (.cons (JN (Js 5 1 20)) .nil)))]))
abbrev v47_4:VC:=(.seq (.drw t47_3) .ret)
abbrev v47_5:VC:=(.seq (.ops o47_2) v47_4)
abbrev v47_6:VC:=(.seq (.ops o47_1) v47_5)
def ir47:FC:=⟨0,21,[.cell 0 false 5,.cell 1 false 5],(.seq (.ops o47_0) v47_6)⟩
abbrev o24_0:List Ins:=[JS 0 (.alloc [Jz 0,J0,J0,J0,J0,J0,Jz 0,Jz 0,Jz 0,Jz 0,J0,Jz 0,Jz 0,Jz 0,J0])]
abbrev o24_1:List Ins:=[JS 5 (Jc 47 []),JS 4 (Jm 5),JS 6 (Je 4 0),JS 7 (Je 4 1),JS 1 (.alloc [J0,Jz 0,Jz 0,Jz 0,J0]),JS 2 (.alloc [J0,Jz 0,Jz 0,Jz 0,J0]),JN (Js 5 1 6),JN (Js 5 2 7)]
abbrev o24_2:List Ins:=[JS 8 (Jf 4 1),JN (.st 1 (.t 8) (.k J0))]
abbrev o24_3:List Ins:=[JS 9 (.bsl 3 1 [(.k (Jz 10)),(.k (Jz 20)),(.k (Jz 25))]),JS 10 (.bsl 3 1 [(.k (Jz 5)),(.k (Jz 10)),(.k (Jz 25))]),JS 11 (.bld [Jz 0,J0,J0] [(0,1,(.k (Jz 50))),(1,1,(.t 9)),(2,1,(.t 10))]),JS 3 (.alloc [Jz 0,J0,J0]),JN (Js 3 3 11)]
abbrev o24_4:List Ins:=[JS 12 (JL 3 3),JS 13 (.bsl 3 1 [(.k (Jz 0)),(.k (Jz 0)),(.k (Jz 0))]),JS 14 (.bsl 3 1 [(.k (Jz 0)),(.k (Jz 0)),(.k (Jz 0))]),JS 15 (.bsl 3 1 [(.k (Jz 0)),(.k (Jz 0)),(.k (Jz 0))]),JS 16 (.bld [Jz 0,J0,J0,J0,J0,J0,Jz 0,Jz 0] [(0,3,(.t 12)),(3,1,(.t 13)),(4,1,(.t 14)),(5,1,(.t 15))]),JS 17 (JL 5 1),JS 18 (.bld [Jz 0,J0,J0,J0,J0,J0,Jz 0,Jz 0,Jz 0,Jz 0,J0,Jz 0,Jz 0,Jz 0,J0] [(0,8,(.t 16)),(10,5,(.t 17))]),JN (Js 15 0 18)]
abbrev v24_5:VC:=(.seq (.ops o24_4) .ret)
abbrev v24_6:VC:=(.seq (.ops o24_3) v24_5)
abbrev v24_7:VC:=(.seq (.ops o24_2) v24_6)
abbrev v24_8:VC:=(.seq (.ops o24_1) v24_7)
def ir24:FC:=⟨0,19,[.cell 0 false 15],(.seq (.ops o24_0) v24_8)⟩
theorem c47:compM Tryz.prog [] 47 = some ir47:=by kernel_rfl
theorem c24:compM Tryz.prog [] 24 = some ir24:=by kernel_rfl
attribute [local go_sem] Nat.reduceEqDiff Nat.reduceAdd Nat.reduceMul reduceIte Nat.reduceLeDiff Nat.reduceLT Nat.reduceBEq reduceCtorEq
def endS:List UInt8:=[101,110,100]
def exT:Tray:=⟨[⟨100,90⟩,⟨120,80⟩,⟨60,70⟩],0,1,5,[⟨3,0⟩,⟨4,10⟩,⟨0,12⟩,⟨3,50⟩,⟨0,300⟩]⟩
def exU:Tray:=⟨[⟨10,20⟩,⟨30,40⟩],0,-1,60,[⟨3,0⟩]⟩
theorem example47:FSpec Tryz.prog 47 [] (.tup [exT.av,exU.av]):=by
 refine FSpec_of c47 (Nat.le_refl _) (by decide) fun C hP hN hC hL => ?_; rw [init_st]
 simp only [ir47]
 (repeat ((first | refine Va ?_ | refine Vb ?_ | refine Vc ?_ | refine Vd ?_ | refine Ve ?_ | refine Vf ?_); (try simp only [go_sem,hP]); (repeat refine qJ ?_)))
 refine WV_drw ?_
 simp only [go_sem,hP]
 (repeat' (refine And.intro ?_ ?_))
 all_goals (first | omega | skip)
 all_goals ((repeat ((first | refine Va ?_ | refine Vb ?_ | refine Vc ?_ | refine Vd ?_ | refine Ve ?_ | refine Vf ?_); (try simp only [go_sem,hP]); (repeat refine qJ ?_))))
 all_goals ((refine WV_ret ?_; simp only [thenQ,inQ,RetQ,RetOk,resAll,resA]; simp only [go_sem,tupA,AV.port,AV.portL,exists_eq_left']; (first | exact AVle.of rfl | refine AVle.of ?_ | skip)))
def exB:Bar:=⟨⟨⟨50,[10,20,25],[5,10,25]⟩,[0,0,0],[0,0,0],[0,0,0],0,0⟩,0,0,⟨[⟨100,90⟩,⟨120,80⟩,⟨60,70⟩],0,1,5,[]⟩⟩
theorem example24:FSpec Tryz.prog 24 [] exB.av:=by
 have h:=example47
 simp only [exT,exU,Tray.av,recsC,prsC,List.map_cons,List.map_nil,Rec.cds,Pr.cds] at h
 refine FSpec_of c24 (Nat.le_refl _) (by decide) fun C hP hN hC hL => ?_; rw [init_st]
 simp only [ir24]
 (repeat ((first | refine Va ?_ | refine Vb ?_ | refine Vc ?_ | refine Vd ?_ | refine Ve ?_ | refine Vf ?_); (try simp only [go_sem,hP]); (repeat refine qJ ?_)))
 (refine AS_pu (h) ?_; simp only [go_sem,hP]; (repeat refine qJ ?_); (repeat ((first | refine Va ?_ | refine Vb ?_ | refine Vc ?_ | refine Vd ?_ | refine Ve ?_ | refine Vf ?_); (try simp only [go_sem,hP]); (repeat refine qJ ?_))))
 (refine WV_ret ?_; simp only [thenQ,inQ,RetQ,RetOk,resAll,resA]; simp only [go_sem,tupA,AV.port,AV.portL,exists_eq_left'])
 refine AVle.agg ?_
 (repeat' (first | exact AVles.refl [] | exact AVle.refl _ | exact AVle.nil 2 | refine AVles.cons ?_ ?_))
def askS (w:List UInt8) (b:Bar) (_:List Int):List Int × Int:=if w == endS then ([(endR b.tray).1],(endR b.tray).2) else ([],0)
def giveS (w:List UInt8) (b:Bar) (ns:List Int):Option Bar:=if w == coinS then coinB b (ns.getD 0 0) else pressB b (ns.getD 0 0) (ns.getD 1 0)
def lineK:Bar → List UInt8 → List UInt8 × Bar:=lineS askS giveS
theorem barLn {b:Bar} (h:barB b = true):BarLn b:=by
 unfold barB at h
 simp only [Bool.and_eq_true] at h
 have h1:=bxB_ok h.1
 obtain ⟨h2,h3⟩:=Tray.ok_spec h.2.1
 have e1:=h1.wh.nl
 have e2:=h1.wh.cl
 have e3:=h1.fl
 have e4:=h1.ml
 have e5:=h1.sl
 have e6:=h2.n6
 unfold Tray.n at e6
 exact ⟨by omega,by omega,by omega,by omega,by omega,by omega,by omega⟩
theorem line_press {b:Bar} (hB:barB b = true) {s:List UInt8} {x y:Int} (hs:s.length ≤ 1000) (hp:parseS s = some (pressS,[x,y])):LineC tb b s (lineK b s) ∧ lineK b s = chgS b (pressB b x y):=by
 have e:lineK b s = chgS b (pressB b x y):=by
  unfold lineK lineS
  rw [hp]
  have hw:wLook pressS = some ⟨2,103,78,none⟩:=rfl
  have hg:giveS pressS b [x,y] = pressB b x y:=rfl
  simp only [hw,hg]
  rfl
 rw [e]
 exact ⟨linePress (barLn hB) hs hp,rfl⟩
theorem line_coin {b:Bar} (hB:barB b = true) (hne:b.box.fo ≠ []) {s:List UInt8} {x:Int} (hs:s.length ≤ 1000) (hp:parseS s = some (coinS,[x])):LineC tb b s (lineK b s) ∧ lineK b s = chgS b (coinB b x):=by
 have e:lineK b s = chgS b (coinB b x):=by
  unfold lineK lineS
  rw [hp]
  have hw:wLook coinS = some ⟨1,103,74,none⟩:=rfl
  have hg:giveS coinS b [x] = coinB b x:=rfl
  simp only [hw,hg]
  rfl
 rw [e]
 exact ⟨lineCoin (barLn hB) hB hne hs hp,rfl⟩
theorem line_end {b:Bar} (hB:barB b = true) {s:List UInt8} (hs:s.length ≤ 1000) (hp:parseS s = some (endS,[])) (hi:i64 (endR b.tray).1):LineC tb b s (lineK b s) ∧ lineK b s = (ansS [(endR b.tray).1] (endR b.tray).2,b):=by
 have hw:wLook endS = some ⟨0,99,113,some 1⟩:=rfl
 have e:lineK b s = (ansS [(endR b.tray).1] (endR b.tray).2,b):=by
  unfold lineK lineS
  rw [hp]
  have hg:askS endS b [] = ([(endR b.tray).1],(endR b.tray).2):=rfl
  simp only [hw,hg]
  rfl
 rw [e]
 exact ⟨lineAsk1 (barLn hB) hs hp (i:=1) (by omega) hw (by simp) (by simpa using hi) fun q => clos113 (f:=88) (end38 b.tray) (ints []),rfl⟩
end Go.Proofs.YtefoconkepmmgaaGreatDoor

namespace Go.Proofs.YtefoconkepmmgaaGreatDoor
open Go Go.V
abbrev o117_0:List Ins:=[JS 2 (.box 5 (.t 0)),JS 4 (.alloc [Jz 0,Jz 0,Jz 0]),JS 5 (Ji 0)]
abbrev o117_1:List Ins:=[JS 11 (JL 5 2),JS 12 (Jc 49 [.t 11]),JS 6 (Jm 12)]
abbrev o117_2:List Ins:=[JS 13 (Jm 6),JS 14 (Jk .neq 13 0)]
abbrev o117_3:List Ins:=[JS 15 (.bld [Jz 0,Jz 0,Jz 0] []),JS 16 (Jm 6),JN (Js 3 4 15),JS 5 (Jm 16)]
abbrev v117_4:VC:=(.seq (.ops o117_3) .ret)
abbrev v117_5:VC:=(.cond (.t 14) v117_4 .skip)
abbrev v117_6:VC:=(.seq (.ops o117_2) v117_5)
abbrev o117_7:List Ins:=[JS 17 (Jm 1),JS 18 (Jc 65 [.t 17]),JS 19 (.un .not (.t 18))]
abbrev o117_8:List Ins:=[JS 20 (.bld [Jz 0,Jz 0,Jz 0] []),JN (Js 3 4 20),JS 5 (Ji 1)]
abbrev v117_9:VC:=(.seq (.ops o117_8) .ret)
abbrev v117_10:VC:=(.cond (.t 19) v117_9 .skip)
abbrev o117_11:List Ins:=[JS 21 (JL 5 2),JS 22 (Jc 115 [.t 21]),JS 23 (.fld true 1 0 (.t 22)),JS 7 (Jm 23)]
abbrev o117_12:List Ins:=[JS 24 (Jm 7),JS 25 (.ia 4 (.t 24) (.k (Jz 0))),JS 26 (Jf 0 25),JS 27 (JL 3 26),JS 8 (.alloc [Jz 0,Jz 0,Jz 0]),JN (Js 3 8 27)]
abbrev o117_13:List Ins:=[JS 28 (Jm 7),JS 29 (Jn 28),JS 30 (Ji 0)]
abbrev o117_14:List Ins:=[JS 31 (Jb .lss 30 29)]
abbrev o117_15:List Ins:=[JS 32 (Ja 4 28 30),JS 33 (JL 4 32),JS 10 (.alloc [Jz 0,Jz 0,Jz 0,Jz 0]),JN (Js 4 10 33)]
abbrev o117_16:List Ins:=[JS 34 (Jf 3 10),JS 35 (Jl 34),JS 36 (Jm 1),JS 37 (Jb .gtr 35 36)]
abbrev v117_17:VC:=(.cond (.t 37) (.exit 0) .skip)
abbrev o117_18:List Ins:=[JS 38 (Jf 0 10),JS 39 (JL 3 38),JN (Js 3 8 39)]
abbrev v117_19:VC:=(.seq (.seq (.ops o117_16) v117_17) (.ops o117_18))
abbrev v117_20:VC:=(.seq (.ops o117_15) v117_19)
abbrev o117_21:List Ins:=[JS 40 (Jk .add 30 1),JS 30 (Jm 40)]
abbrev v117_22:VC:=(.seq (.block 1 v117_20) (.ops o117_21))
abbrev v117_23:VC:=(.seq (.cond (.t 31) .skip (.exit 0)) v117_22)
abbrev v117_24:VC:=(.seq (.ops o117_14) v117_23)
-- K117_1: changed and kept: [30]
abbrev K117_1:List Nat:=[1,4,8,28,29]
abbrev v117_25:VC:=(.loop v117_24)
abbrev v117_26:VC:=(.block 0 v117_25)
abbrev o117_27:List Ins:=[JS 41 (JL 3 8),JN (Js 3 4 41),JS 5 (Ji 0)]
abbrev v117_28:VC:=(.seq (.ops o117_27) .ret)
abbrev v117_29:VC:=(.seq (.seq (.ops o117_13) v117_26) v117_28)
abbrev v117_30:VC:=(.seq (.ops o117_12) v117_29)
abbrev v117_31:VC:=(.seq (.ops o117_11) v117_30)
abbrev v117_32:VC:=(.seq (.seq (.ops o117_7) v117_10) v117_31)
abbrev v117_33:VC:=(.seq (.seq (.ops o117_1) v117_6) v117_32)
def ir117:FC:=⟨2,42,[.cell 4 false 3,.t 5],(.seq (.ops o117_0) v117_33)⟩
theorem c117:compM Tryz.prog [] 117 = some ir117:=by kernel_rfl
attribute [local go_sem] Nat.reduceEqDiff Nat.reduceAdd Nat.reduceMul reduceIte Nat.reduceLeDiff Nat.reduceLT Nat.reduceBEq reduceCtorEq
def standG (x:Int):Sp → List Sp → Sp
 | o,[] => o
 | o,s :: l => if x < s.from_ then o else standG x s l
def spAv (s:Sp):AV:=.agg [iv s.at_,iv s.way,iv s.side]
theorem spells_ne {t:Tray} (ht:TrayOk t) {q:List Pr} (hq:q.Perm t.pres) (hqs:q.Pairwise fun a b => a.time ≤ b.time):∃ l,(goesWith t q).spells = ⟨t.at_.toNat,wayI (t.way == 1),-1,0⟩ :: l:=by
 obtain ⟨k,_,h,_,_,_⟩:=goes_inv ht hq hqs (fun _ s => ∃ l,s.spells = ⟨t.at_.toNat,wayI (t.way == 1),-1,0⟩ :: l) ⟨[],rfl⟩ (fun k s _ h => h)
  (fun k s s' hs hpr ⟨l,hl⟩ e => by
   rcases act1_cases e with ⟨p,q,hq,hpins,rfl⟩ | ⟨hpins,rfl⟩
   ·exact ⟨l,hl⟩
   ·have m4:=(move_q t (s.play t)).2.2.2.1
    have e1:((s.play t).next t).spells = (s.play t).spells ++ [⟨((s.play t).move t).at_,wayI ((s.play t).move t).up,-1,((s.play t).move t).now⟩]:=by
     show ((s.play t).move t).spells ++ _ = _
     rw [m4]
    rw [e1]
    unfold Cs.play
    split
    ·simp only [Cs.play2,Cs.play1,Cs.mark,hl]
     exact ⟨_,rfl⟩
    ·rw [hl]; exact ⟨_,rfl⟩)
 exact h
def standV (t:Tray) (x:Int):Sp:=standG x ((goesS t).spells.headD default) (goesS t).spells
def standR (t:Tray) (x:Int):Sp × Int:=if t.ok then (if isTime x then (standV t x,0) else (⟨0,0,0,0⟩,1)) else (⟨0,0,0,0⟩,20)
theorem standG_step (x:Int) (o:Sp) {l:List Sp} {k:Nat} (h:k < l.length):standG x o (l.drop k) = if x < l[k].from_ then o else standG x l[k] (l.drop (k + 1)):=by
 rw [List.drop_eq_getElem_cons h]; rfl
set_option maxRecDepth 20000 in
set_option maxHeartbeats 8000000 in
theorem stand21 (t:Tray) (x:Int):FSpec Tryz.prog 117 [t.av,iv x] (.tup [spAv (standR t x).1,iv (standR t x).2]):=by
 have hck:=check40 t
 have htm:=istime53 x
 unfold standR
 cases hok:t.ok
 ·simp only [hok,Bool.false_eq_true,if_false] at hck ⊢
  refine FSpec_of c117 (Nat.le_refl _) (by decide) fun C hP hN hC hL => ?_; rw [init_st]
  simp only [ir117,Tray.av]
  (repeat ((first | refine Va ?_ | refine Vb ?_ | refine Vc ?_ | refine Vd ?_ | refine Ve ?_ | refine Vf ?_); (try simp only [go_sem,hP]); (repeat refine qJ ?_)))
  (refine AS_pu (hck) ?_; simp only [go_sem,hP,Tray.av]; (repeat refine qJ ?_); (repeat ((first | refine Va ?_ | refine Vb ?_ | refine Vc ?_ | refine Vd ?_ | refine Ve ?_ | refine Vf ?_); (try simp only [go_sem,hP,Tray.av]); (repeat refine qJ ?_))))
  (refine WV_cond rfl (fun h => ?_) (fun h => ?_))
  ·(repeat ((first | refine Va ?_ | refine Vb ?_ | refine Vc ?_ | refine Vd ?_ | refine Ve ?_ | refine Vf ?_); (try simp only [go_sem,hP]); (repeat refine qJ ?_)))
   (refine WV_ret ?_; simp only [thenQ,inQ,RetQ,RetOk,resAll,resA]; simp only [go_sem,tupA,AV.port,AV.portL,exists_eq_left']; (first | exact AVle.of rfl | refine AVle.of ?_ | skip))
  ·simp at h
 simp only [hok,if_true] at hck ⊢
 have ht:=(Tray.ok_spec hok).1
 have hgo:=goes54 ht
 cases htt:isTime x
 ·rw [htt] at htm
  simp only [Bool.false_eq_true,if_false]
  refine FSpec_of c117 (Nat.le_refl _) (by decide) fun C hP hN hC hL => ?_; rw [init_st]
  simp only [ir117,Tray.av]
  (repeat ((first | refine Va ?_ | refine Vb ?_ | refine Vc ?_ | refine Vd ?_ | refine Ve ?_ | refine Vf ?_); (try simp only [go_sem,hP]); (repeat refine qJ ?_)))
  (refine AS_pu (hck) ?_; simp only [go_sem,hP,Tray.av]; (repeat refine qJ ?_); (repeat ((first | refine Va ?_ | refine Vb ?_ | refine Vc ?_ | refine Vd ?_ | refine Ve ?_ | refine Vf ?_); (try simp only [go_sem,hP,Tray.av]); (repeat refine qJ ?_))))
  (refine WV_cond rfl (fun h => ?_) (fun h => ?_))
  ·simp at h
  ·(repeat ((first | refine Va ?_ | refine Vb ?_ | refine Vc ?_ | refine Vd ?_ | refine Ve ?_ | refine Vf ?_); (try simp only [go_sem,hP]); (repeat refine qJ ?_)))
   (refine AS_pu (htm) ?_; simp only [go_sem,hP]; (repeat refine qJ ?_); (repeat ((first | refine Va ?_ | refine Vb ?_ | refine Vc ?_ | refine Vd ?_ | refine Ve ?_ | refine Vf ?_); (try simp only [go_sem,hP]); (repeat refine qJ ?_))))
   (refine WV_cond rfl (fun h => ?_) (fun h => ?_))
   ·(repeat ((first | refine Va ?_ | refine Vb ?_ | refine Vc ?_ | refine Vd ?_ | refine Ve ?_ | refine Vf ?_); (try simp only [go_sem,hP]); (repeat refine qJ ?_)))
    (refine WV_ret ?_; simp only [thenQ,inQ,RetQ,RetOk,resAll,resA]; simp only [go_sem,tupA,AV.port,AV.portL,exists_eq_left']; (first | exact AVle.of rfl | refine AVle.of ?_ | skip))
   ·simp at h
 ·rw [htt] at htm
  simp only [if_true]
  have hsl:=(goes_ok ht).spells
  unfold standV
  obtain ⟨l1,hl1⟩:=spells_ne ht (sortT_perm t.pres) (sortT_sorted t.pres)
  have hl1:(goesS t).spells = ⟨t.at_.toNat,wayI (t.way == 1),-1,0⟩ :: l1:=hl1
  have h0:0 < (goesS t).spells.length:=by rw [hl1]; simp
  have hhd:(goesS t).spells.headD default = (goesS t).spells[0]:=by simp [hl1]
  rw [hhd]
  generalize hS:(goesS t).spells = S at *
  clear hl1 hhd
  have h0I:(0:Int) < (S.length:Int):=by omega
  have z0:((0:Int)).toNat = 0:=rfl
  refine FSpec_of c117 (Nat.le_refl _) (by decide) fun C hP hN hC hL => ?_; rw [init_st]
  simp only [ir117,Tray.av]
  (repeat ((first | refine Va ?_ | refine Vb ?_ | refine Vc ?_ | refine Vd ?_ | refine Ve ?_ | refine Vf ?_); (try simp only [go_sem,hP]); (repeat refine qJ ?_)))
  (refine AS_pu (hck) ?_; simp only [go_sem,hP,Tray.av]; (repeat refine qJ ?_); (repeat ((first | refine Va ?_ | refine Vb ?_ | refine Vc ?_ | refine Vd ?_ | refine Ve ?_ | refine Vf ?_); (try simp only [go_sem,hP,Tray.av]); (repeat refine qJ ?_))))
  (refine WV_cond rfl (fun h => ?_) (fun h => ?_))
  ·simp at h
  ·(repeat ((first | refine Va ?_ | refine Vb ?_ | refine Vc ?_ | refine Vd ?_ | refine Ve ?_ | refine Vf ?_); (try simp only [go_sem,hP]); (repeat refine qJ ?_)))
   (refine AS_pu (htm) ?_; simp only [go_sem,hP]; (repeat refine qJ ?_); (repeat ((first | refine Va ?_ | refine Vb ?_ | refine Vc ?_ | refine Vd ?_ | refine Ve ?_ | refine Vf ?_); (try simp only [go_sem,hP]); (repeat refine qJ ?_))))
   (refine WV_cond rfl (fun h => ?_) (fun h => ?_))
   ·simp at h
   ·(repeat ((first | refine Va ?_ | refine Vb ?_ | refine Vc ?_ | refine Vd ?_ | refine Ve ?_ | refine Vf ?_); (try simp only [go_sem,hP]); (repeat refine qJ ?_)))
    (refine AS_pu (hgo) ?_; simp only [go_sem,hP,Tray.av,Cs.run,hS,spsC,List.length_map,map_getD h0,h0I,z0,Sp.cds]; (repeat refine qJ ?_); (repeat ((first | refine Va ?_ | refine Vb ?_ | refine Vc ?_ | refine Vd ?_ | refine Ve ?_ | refine Vf ?_); (try simp only [go_sem,hP,Tray.av,Cs.run,hS,spsC,List.length_map,map_getD h0,h0I,z0,Sp.cds]); (repeat refine qJ ?_))))
    refine WV_loopK K117_1 [8,10] (fun p:Nat × Sp => p.1 ≤ S.length ∧ standG x S[0] S = standG x p.2 (S.drop p.1)) (fun p => S.length - p.1) (fun p => [(30,iv p.1)]) (fun p => [(8,.box [iv p.2.at_,iv p.2.way,iv p.2.side])]) (0,S[0]) ⟨Nat.zero_le _,rfl⟩ ?_ ?_
    ·exact Sub_au
    ·rintro ⟨k,o⟩ ⟨hk,hx⟩
     simp only at hk hx
     simp only [go_sem]
     (repeat ((first | refine Va ?_ | refine Vb ?_ | refine Vc ?_ | refine Vd ?_ | refine Ve ?_ | refine Vf ?_); (try simp only [go_sem,hP]); (repeat refine qJ ?_)))
     (refine WV_cond rfl (fun h => ?_) (fun h => ?_))
     ·have hkl:k < S.length:=by simpa using h
      have hI:(k:Int) < (S.length:Int):=by omega
      have hw2:=w64 (n:=(k:Int) + 1) (by omega) (by omega)
      rw [standG_step x o hkl] at hx
      (repeat ((first | refine Va ?_ | refine Vb ?_ | refine Vc ?_ | refine Vd ?_ | refine Ve ?_ | refine Vf ?_); (try simp only [go_sem,hP,map_getD hkl,hI,Int.natCast_nonneg,List.length_map,Sp.cds]); (repeat refine qJ ?_)))
      by_cases hc:x < S[k].from_
      ·rw [if_pos hc] at hx
       rw [decide_eq_true hc]
       (refine WV_cond rfl (fun h => ?_) (fun h => ?_))
       ·(refine WV_exit ?_; simp only [go_sem])
        (repeat ((first | refine Va ?_ | refine Vb ?_ | refine Vc ?_ | refine Vd ?_ | refine Ve ?_ | refine Vf ?_); (try simp only [go_sem,hP]); (repeat refine qJ ?_)))
        (refine WV_ret ?_; simp only [thenQ,inQ,RetQ,RetOk,resAll,resA]; simp only [go_sem,tupA,AV.port,AV.portL,exists_eq_left']; (first | exact AVle.of rfl | refine AVle.of ?_ | skip))
        rw [hx]; rfl
       ·simp at h
      ·rw [if_neg hc] at hx
       rw [decide_eq_false hc]
       (refine WV_cond rfl (fun h => ?_) (fun h => ?_))
       ·simp at h
       ·(repeat ((first | refine Va ?_ | refine Vb ?_ | refine Vc ?_ | refine Vd ?_ | refine Ve ?_ | refine Vf ?_); (try simp only [go_sem,hP,hw2]); (repeat refine qJ ?_)))
        refine ⟨(k + 1,S[k]),⟨by simp only; omega,hx⟩,by simp only; omega,?_⟩
        exact Sub_au
     ·have h:k = S.length:=by simp at h; omega
      subst h
      rw [List.drop_length] at hx
      (refine WV_exit ?_; simp only [go_sem])
      (repeat ((first | refine Va ?_ | refine Vb ?_ | refine Vc ?_ | refine Vd ?_ | refine Ve ?_ | refine Vf ?_); (try simp only [go_sem,hP]); (repeat refine qJ ?_)))
      (refine WV_ret ?_; simp only [thenQ,inQ,RetQ,RetOk,resAll,resA]; simp only [go_sem,tupA,AV.port,AV.portL,exists_eq_left']; (first | exact AVle.of rfl | refine AVle.of ?_ | skip))
      rw [hx]; rfl
end Go.Proofs.YtefoconkepmmgaaGreatDoor

namespace Go.Proofs.YtefoconkepmmgaaGreatDoor
open Go Go.V
variable {tb:Obj}
abbrev o85_0:List Ins:=[JS 4 (.mv (.k J0)),JS 5 (Ji 0)]
abbrev o85_1:List Ins:=[JF 6 (Jm 0),JF 7 (.nilc (.t 6)),JF 8 (Jf 0 7),JF 9 (Jf 10 8),JF 10 (JL 5 9),JF 11 (Jm 1),JF 12 (.ia 1 (.t 11) (.k (Jz 0))),JF 13 (Jl 12),JS 14 (Jc 112 [.t 10,.t 13]),JF 15 (Je 14 0),JF 16 (Je 14 1),JS 17 (Jc 109 [.t 15,.t 16]),JF 18 (Je 17 0),JF 19 (Je 17 1),JS 4 (Jm 18),JS 5 (Jm 19)]
abbrev v85_2:VC:=(.seq (.dops o85_1) .ret)
def ir85:FC:=⟨2,20,[.t 4,.t 5],(.seq (.ops o85_0) v85_2)⟩
abbrev o89_0:List Ins:=[JS 4 (.mv (.k J0)),JS 5 (Ji 0)]
abbrev o89_1:List Ins:=[JF 9 (Jm 0),JF 10 (.nilc (.t 9)),JF 11 (Jf 0 10),JF 12 (Jf 10 11),JF 13 (JL 5 12),JF 14 (Jm 1),JF 15 (.ia 1 (.t 14) (.k (Jz 0))),JF 16 (Jl 15),JF 6 (.alloc [Jz 0,Jz 0,Jz 0]),JF 17 (Jc 117 [.t 13,.t 16]),JF 8 (Jm 17),JF 18 (Je 8 0),JF 19 (Je 8 1),JE (Js 3 6 18),JS 7 (Jm 19)]
abbrev o89_2:List Ins:=[JS 20 (Jf 0 6),JS 21 (Jl 20),JS 22 (Jf 1 6),JS 23 (Jl 22),JS 24 (Jf 2 6),JS 25 (Jl 24),JS 26 (.bsl 3 1 [.t 21,.t 23,.t 25]),JS 27 (Jm 7),JS 4 (Jm 26),JS 5 (Jm 27)]
abbrev v89_3:VC:=(.seq (.ops o89_2) .ret)
abbrev v89_4:VC:=(.seq (.dops o89_1) v89_3)
def ir89:FC:=⟨2,28,[.t 4,.t 5],(.seq (.ops o89_0) v89_4)⟩
theorem c85:compM Tryz.prog [] 85 = some ir85:=by kernel_rfl
theorem c89:compM Tryz.prog [] 89 = some ir89:=by kernel_rfl
attribute [local go_sem] Nat.reduceEqDiff Nat.reduceAdd Nat.reduceMul reduceIte Nat.reduceLeDiff Nat.reduceLT Nat.reduceBEq reduceCtorEq
theorem wait85 (b:Bar) (k:Int):FSpecL Tryz.prog 85 [.bp 1000 0,.c (ints [k])] [.box b.avs] [] (fun r l' => r = .tup [.c (ints [(waitR b.tray k).1]),iv (waitR b.tray k).2] ∧ l' = [.box b.avs]):=by
 have h:=wait27 b.tray k
 simp only [Tray.av] at h
 have h1:=one109 (waitR b.tray k).1 (waitR b.tray k).2
 refine FSpecL_of c85 (by first | simp | exact Nat.le_of_ble_eq_true rfl) (Nat.le_refl _) (by decide) (by decide) fun C hP hN hC hL => ?_; rw [init_env',ownW_upd (by first | simp | exact Nat.le_of_ble_eq_true rfl)]; simp only [ir85,updL,updLo,List.map_nil,List.map_cons,Nat.reduceAdd,]
 simp only [Bar.avs]
 (repeat ((first | refine Va ?_ | refine Vb ?_ | refine Vc ?_ | refine Vd ?_ | refine Ve ?_ | refine Vf ?_); (try simp only [go_sem,hP,ints,List.map_cons,List.map_nil]); (repeat refine qJ ?_)))
 (refine AS_pu (h) ?_; simp only [go_sem,hP]; (repeat refine qJ ?_); (repeat ((first | refine Va ?_ | refine Vb ?_ | refine Vc ?_ | refine Vd ?_ | refine Ve ?_ | refine Vf ?_); (try simp only [go_sem,hP]); (repeat refine qJ ?_))))
 (refine AS_pu (h1) ?_; simp only [go_sem,hP]; (repeat refine qJ ?_); (repeat ((first | refine Va ?_ | refine Vb ?_ | refine Vc ?_ | refine Vd ?_ | refine Ve ?_ | refine Vf ?_); (try simp only [go_sem,hP]); (repeat refine qJ ?_))))
 (refine WV_ret ?_; simp only [thenQ,inQ,RetQL,RetOkL,resAll,resA]; simp only [go_sem,tupA,AV.keepP,AV.keepPL]; refine ⟨_,[.box b.avs],rfl,KeepL_mk rfl rfl ?_ ?_ rfl,?_⟩)
 ·unfold Bar.avs
  simp only [go_sem,keepAll,Ob.keepP,AV.keepP,AV.keepPL]
  rfl
 ·trivial
 ·exact ⟨rfl,rfl⟩
theorem at89 (b:Bar) (x:Int):FSpecL Tryz.prog 89 [.bp 1000 0,.c (ints [x])] [.box b.avs] [] (fun r l' => r = .tup [.c (ints [(standR b.tray x).1.at_,(standR b.tray x).1.way,(standR b.tray x).1.side]),iv (standR b.tray x).2] ∧ l' = [.box b.avs]):=by
 have h:=stand21 b.tray x
 simp only [Tray.av,spAv] at h
 refine FSpecL_of c89 (by first | simp | exact Nat.le_of_ble_eq_true rfl) (Nat.le_refl _) (by decide) (by decide) fun C hP hN hC hL => ?_; rw [init_env',ownW_upd (by first | simp | exact Nat.le_of_ble_eq_true rfl)]; simp only [ir89,updL,updLo,List.map_nil,List.map_cons,Nat.reduceAdd,]
 simp only [Bar.avs]
 (repeat ((first | refine Va ?_ | refine Vb ?_ | refine Vc ?_ | refine Vd ?_ | refine Ve ?_ | refine Vf ?_); (try simp only [go_sem,hP,ints,List.map_cons,List.map_nil]); (repeat refine qJ ?_)))
 (refine ACall_of (h) rfl rfl rfl rfl rfl ?_; simp only [go_sem,hP]; (repeat refine qJ ?_); (repeat ((first | refine Va ?_ | refine Vb ?_ | refine Vc ?_ | refine Vd ?_ | refine Ve ?_ | refine Vf ?_); (try simp only [go_sem,hP]); (repeat refine qJ ?_))))
 (refine WV_ret ?_; simp only [thenQ,inQ,RetQL,RetOkL,resAll,resA]; simp only [go_sem,tupA,AV.keepP,AV.keepPL]; refine ⟨_,[.box b.avs],rfl,KeepL_mk rfl rfl ?_ ?_ rfl,?_⟩)
 ·unfold Bar.avs
  simp only [go_sem,keepAll,Ob.keepP,AV.keepP,AV.keepPL]
  rfl
 ·trivial
 ·exact ⟨rfl,rfl⟩
def waitS:List UInt8:=[119,97,105,116]
def atS:List UInt8:=[97,116]
def askP (w:List UInt8) (b:Bar) (ns:List Int):List Int × Int :=
 if w == waitS then ([(waitR b.tray (ns.getD 0 0)).1],(waitR b.tray (ns.getD 0 0)).2)
 else ([(standR b.tray (ns.getD 0 0)).1.at_,(standR b.tray (ns.getD 0 0)).1.way,(standR b.tray (ns.getD 0 0)).1.side],(standR b.tray (ns.getD 0 0)).2)
def lineP:Bar → List UInt8 → List UInt8 × Bar:=lineS askP giveS
theorem lineP_press {b:Bar} (hB:barB b = true) {s:List UInt8} {x y:Int} (hs:s.length ≤ 1000) (hp:parseS s = some (pressS,[x,y])):LineC tb b s (lineP b s) ∧ lineP b s = chgS b (pressB b x y):=by
 have e:lineP b s = chgS b (pressB b x y):=by
  unfold lineP lineS
  rw [hp]
  have hw:wLook pressS = some ⟨2,103,78,none⟩:=rfl
  have hg:giveS pressS b [x,y] = pressB b x y:=rfl
  simp only [hw,hg]
  rfl
 rw [e]
 exact ⟨linePress (barLn hB) hs hp,rfl⟩
theorem lineP_wait {b:Bar} (hB:barB b = true) {s:List UInt8} {k:Int} (hs:s.length ≤ 1000) (hp:parseS s = some (waitS,[k])) (hi:i64 (waitR b.tray k).1):LineC tb b s (lineP b s) ∧ lineP b s = (ansS [(waitR b.tray k).1] (waitR b.tray k).2,b):=by
 have hw:wLook waitS = some ⟨1,99,85,none⟩:=rfl
 have e:lineP b s = (ansS [(waitR b.tray k).1] (waitR b.tray k).2,b):=by
  unfold lineP lineS
  rw [hp]
  have hg:askP waitS b [k] = ([(waitR b.tray k).1],(waitR b.tray k).2):=rfl
  simp only [hw,hg]
  rfl
 rw [e]
 exact ⟨lineAsk0 (barLn hB) hs hp hw (by simp) (by simpa using hi) (wait85 b k),rfl⟩
theorem lineP_at {b:Bar} (hB:barB b = true) {s:List UInt8} {x:Int} (hs:s.length ≤ 1000) (hp:parseS s = some (atS,[x])) (h1:i64 (standR b.tray x).1.at_) (h2:i64 (standR b.tray x).1.way) (h3:i64 (standR b.tray x).1.side) :
  LineC tb b s (lineP b s) ∧ lineP b s = (ansS [(standR b.tray x).1.at_,(standR b.tray x).1.way,(standR b.tray x).1.side] (standR b.tray x).2,b):=by
 have hw:wLook atS = some ⟨1,99,89,none⟩:=rfl
 have e:lineP b s = (ansS [(standR b.tray x).1.at_,(standR b.tray x).1.way,(standR b.tray x).1.side] (standR b.tray x).2,b):=by
  unfold lineP lineS
  rw [hp]
  have hg:askP atS b [x] = ([(standR b.tray x).1.at_,(standR b.tray x).1.way,(standR b.tray x).1.side],(standR b.tray x).2):=rfl
  simp only [hw,hg]
  rfl
 rw [e]
 refine ⟨lineAsk0 (barLn hB) hs hp hw (by simp) ?_ (at89 b x),rfl⟩
 intro n hn
 simp only [List.mem_cons,List.not_mem_nil,or_false] at hn
 rcases hn with rfl | rfl | rfl
 ·exact h1
 ·exact h2
 ·exact h3
end Go.Proofs.YtefoconkepmmgaaGreatDoor

namespace Go.Proofs.YtefoconkepmmgaaGreatDoor
open Go Go.V
variable {tb:Obj}
abbrev o7_0:List Ins:=[JS 0 (JB false)]
abbrev o7_1:List Ins:=[JS 5 (Jc 24 []),JS 6 (.bsl 9 1 [(.k (.c (.str [99,111,105,110,32,49]))),(.k (.c (.str [112,114,101,115,115,32,51,32,48]))),(.k (.c (.str [101,110,100])))]),JS 7 (Jc 10 [.t 5,.t 6]),JS 4 (Jm 7),JS 8 (Je 4 0),JS 9 (Je 4 1),JS 10 (Je 4 2),JS 2 (.alloc [Jz 0,J0,J0,J0,J0,J0,Jz 0,Jz 0,Jz 0,Jz 0,J0,Jz 0,Jz 0,Jz 0,J0]),JS 1 (Jm 8),JN (Js 15 2 9),JS 3 (Jm 10)]
abbrev o7_2:List Ins:=[JS 11 (Jm 3),JS 12 (Jk .eql 11 0),JS 13 (Jm 12),JG 14 (Jm 1) 13 true,JG 15 (Jn 14) 13 true,JG 16 (Jk .eql 15 3) 13 true,JS 17 (Jp 13 16),JS 18 (Jm 17),JG 19 (Jm 1) 18 true,JG 20 (.ia 1 (.t 19) (.k (Jz 0))) 18 true,JG 21 (Jl 20) 18 true,JG 22 (.prim (.sbin .eql) [.t 21,(.k (.c (.str [121,101,115])))]) 18 true,JS 23 (Jp 18 22),JS 24 (Jm 23),JG 25 (Jm 1) 24 true,JG 26 (.ia 1 (.t 25) (.k (Jz 1))) 24 true,JG 27 (Jl 26) 24 true,JG 28 (.prim (.sbin .eql) [.t 27,(.k (.c (.str [121,101,115])))]) 24 true,JS 29 (Jp 24 28),JS 30 (Jm 29),JG 31 (Jm 1) 30 true,JG 32 (.ia 1 (.t 31) (.k (Jz 2))) 30 true,JG 33 (Jl 32) 30 true,JG 34 (.prim (.sbin .eql) [.t 33,(.k (.c (.str [57,53])))]) 30 true,JS 35 (Jp 30 34),JS 0 (Jm 35)]
abbrev v7_3:VC:=(.seq (.ops o7_2) .ret)
abbrev v7_4:VC:=(.seq (.ops o7_1) v7_3)
def ir7:FC:=⟨0,36,[.t 0],(.seq (.ops o7_0) v7_4)⟩
theorem c7:compM Tryz.prog [] 7 = some ir7:=by kernel_rfl
attribute [local go_sem] Nat.reduceEqDiff Nat.reduceAdd Nat.reduceMul reduceIte Nat.reduceLeDiff Nat.reduceLT Nat.reduceBEq reduceCtorEq
def k1:List UInt8:=[99,111,105,110,32,49]
def k2:List UInt8:=[112,114,101,115,115,32,51,32,48]
def k3:List UInt8:=[101,110,100]
def exB1:Bar:={ exB with pl:=10,cr:=1,box:={ exB.box with pl:=1,fo:=[0,1,0] } }
def exB2:Bar:={ exB1 with pl:=0,cr:=0,tray:={ exB.tray with pres:=[⟨3,0⟩] } }
theorem pk1:parseS k1 = some (coinS,[1]):=by kernel_rfl
theorem pk2:parseS k2 = some (pressS,[3,0]):=by kernel_rfl
theorem pk3:parseS k3 = some (endS,[]):=by kernel_rfl
theorem ck1:chgS exB (coinB exB 1) = (yesS,exB1):=by kernel_rfl
theorem ck2:chgS exB1 (pressB exB1 3 0) = (yesS,exB2):=by kernel_rfl
theorem ck3:endR exB2.tray = (95,0):=by kernel_rfl
theorem dk3:ansS [95] 0 = [57,53]:=by
 have h:Lib.itoa 95 = [57,53]:=by
  rw [show (95:Int) = ((95:Nat):Int) from rfl,Lib.itoa_nonneg,Lib.decDigits_two (by decide) (by decide)]; rfl
 unfold ansS
 rw [if_neg (by decide),if_neg (by decide),List.map_cons,h]; rfl
theorem bk0:barB exB = true:=by kernel_rfl
theorem bk1:barB exB1 = true:=by kernel_rfl
theorem bk2:barB exB2 = true:=by kernel_rfl
theorem lk1:LineC tb exB k1 (lineK exB k1) ∧ lineK exB k1 = (yesS,exB1):=by
 have:=line_coin (tb:=tb) bk0 (by decide) (s:=k1) (by decide) pk1
 exact ⟨this.1,this.2.trans ck1⟩
theorem lk2:LineC tb exB1 k2 (lineK exB1 k2) ∧ lineK exB1 k2 = (yesS,exB2):=by
 have:=line_press (tb:=tb) bk1 (s:=k2) (by decide) pk2
 exact ⟨this.1,this.2.trans ck2⟩
theorem lk3:LineC tb exB2 k3 (lineK exB2 k3) ∧ lineK exB2 k3 = ([57,53],exB2):=by
 have:=line_end (tb:=tb) bk2 (s:=k3) (by decide) pk3 (by rw [ck3]; exact ⟨by decide,by decide⟩)
 rw [ck3,dk3] at this
 exact this
theorem kept7:FSpecL Tryz.prog 7 [] [(tabO tb)] [] (fun r l' => r = .c (.bool true) ∧ l' = [(tabO tb)]):=by
 have hr:=run10 (tb:=tb) (F:=lineK) (barLn bk0) bk0 (l:=[k1,k2,k3]) (by decide) (by
  intro k hk
  have:k = 0 ∨ k = 1 ∨ k = 2:=by simp at hk; omega
  have e1:(runL lineK exB [k1]).2 = exB1:=by show (lineK exB k1).2 = exB1; rw [(lk1 (tb:=tb)).2]
  have e2:(runL lineK exB [k1,k2]).2 = exB2:=by show (lineK (lineK exB k1).2 k2).2 = exB2; rw [(lk1 (tb:=tb)).2,(lk2 (tb:=tb)).2]
  rcases this with rfl | rfl | rfl
  ·exact lk1.1
  ·show LineC tb (runL lineK exB [k1]).2 k2 (lineK (runL lineK exB [k1]).2 k2)
   rw [e1]; exact lk2.1
  ·show LineC tb (runL lineK exB [k1,k2]).2 k3 (lineK (runL lineK exB [k1,k2]).2 k3)
   rw [e2]; exact lk3.1)
 have e3:runL lineK exB [k1,k2,k3] = ([yesS,yesS,[57,53]],exB2):=by
  show ([(lineK exB k1).1] ++ [(lineK (lineK exB k1).2 k2).1] ++ [(lineK (lineK (lineK exB k1).2 k2).2 k3).1],(lineK (lineK (lineK exB k1).2 k2).2 k3).2) = _
  rw [(lk1 (tb:=tb)).2,(lk2 (tb:=tb)).2,(lk3 (tb:=tb)).2]
  rfl
 rw [e3] at hr
 have hex:=example24
 simp only [Bar.av,Bar.avs] at hex hr
 simp only [strsC,List.map_cons,List.map_nil,k1,k2,k3,yesS] at hr
 generalize exB2 = b2 at hr
 generalize exB = b0 at hr hex
 refine FSpecL_of c7 (by first | simp | exact Nat.le_of_ble_eq_true rfl) (Nat.le_refl _) (by decide) (by decide) fun C hP hN hC hL => ?_; rw [init_env',ownW_upd (by first | simp | exact Nat.le_of_ble_eq_true rfl)]; simp only [ir7,updL,updLo,List.map_nil,List.map_cons,Nat.reduceAdd,]
 (repeat ((first | refine Va ?_ | refine Vb ?_ | refine Vc ?_ | refine Vd ?_ | refine Ve ?_ | refine Vf ?_); (try simp only [go_sem,hP]); (repeat refine qJ ?_)))
 (refine AS_pu (hex) ?_; simp only [go_sem,hP]; (repeat refine qJ ?_); (repeat ((first | refine Va ?_ | refine Vb ?_ | refine Vc ?_ | refine Vd ?_ | refine Ve ?_ | refine Vf ?_); (try simp only [go_sem,hP]); (repeat refine qJ ?_))))
 refine AS_lend [1000] hr rfl rfl rfl (by decide) rfl rfl ?_
 rintro r l' ⟨rfl,rfl⟩
 refine ⟨_,_,rfl,rfl,?_⟩
 simp only [go_sem,hP,ownBack]
 (repeat refine qJ ?_)
 have q0:([[CD.str [121,101,115]],[CD.str [121,101,115]],[CD.str [57,53]]].getD (Int.toNat 0) []).getD 0 default = CD.str [121,101,115]:=rfl
 have q1:([[CD.str [121,101,115]],[CD.str [121,101,115]],[CD.str [57,53]]].getD (Int.toNat 1) []).getD 0 default = CD.str [121,101,115]:=rfl
 have q2:([[CD.str [121,101,115]],[CD.str [121,101,115]],[CD.str [57,53]]].getD (Int.toNat 2) []).getD 0 default = CD.str [57,53]:=rfl
 (repeat ((first | refine Va ?_ | refine Vb ?_ | refine Vc ?_ | refine Vd ?_ | refine Ve ?_ | refine Vf ?_); (try simp only [go_sem,hP,q0,q1,q2]); (repeat refine qJ ?_)))
 (refine WV_ret ?_; simp only [thenQ,inQ,RetQL,RetOkL,resAll,resA]; simp only [go_sem,tupA,AV.keepP,AV.keepPL]; refine ⟨_,[(tabO tb)],rfl,KeepL_mk rfl rfl ?_ ?_ rfl,?_⟩)
 ·simp only [go_sem,keepAll,Ob.keepP,AV.keepP,AV.keepPL]
 ·trivial
 ·exact ⟨rfl,rfl⟩
end Go.Proofs.YtefoconkepmmgaaGreatDoor

namespace Go.Proofs.YtefoconkepmmgaaGreatDoor
open Go Go.V
variable {tb:Obj}
attribute [local go_sem] Nat.reduceEqDiff Nat.reduceAdd Nat.reduceMul reduceIte Nat.reduceLeDiff Nat.reduceLT Nat.reduceBEq reduceCtorEq
theorem runS_one (w:Wh) (pl cr a:Int):runS w pl cr [a] = ((actP w pl cr a).1,(actP w pl cr a).2,if a = -1 ∧ 0 < cr then 1 else 0):=by
 show stepR w (pl,cr,0) a = _
 unfold stepR
 simp only [Int.zero_add]
end Go.Proofs.YtefoconkepmmgaaGreatDoor

/-
 The texts of numbers,and lines that are made of them. Plain.
-/
namespace Go.Proofs.YtefoconkepmmgaaGreatDoor
open Go Go.V
theorem dgt_of {n:Nat} (h:n < 10):dgt (UInt8.ofNat (48 + n)) = true:=by
 have:n = 0 ∨ n = 1 ∨ n = 2 ∨ n = 3 ∨ n = 4 ∨ n = 5 ∨ n = 6 ∨ n = 7 ∨ n = 8 ∨ n = 9:=by omega
 rcases this with rfl | rfl | rfl | rfl | rfl | rfl | rfl | rfl | rfl | rfl <;> rfl
theorem val_of {n:Nat} (h:n < 10):((UInt8.ofNat (48 + n)).toNat:Int) - 48 = n:=by
 have:n = 0 ∨ n = 1 ∨ n = 2 ∨ n = 3 ∨ n = 4 ∨ n = 5 ∨ n = 6 ∨ n = 7 ∨ n = 8 ∨ n = 9:=by omega
 rcases this with rfl | rfl | rfl | rfl | rfl | rfl | rfl | rfl | rfl | rfl <;> rfl
theorem dec_all (u:Nat):(Lib.decDigits u).all dgt = true ∧ dv (Lib.decDigits u) = u ∧ Lib.decDigits u ≠ [] ∧ (1 ≤ u → (Lib.decDigits u).getD 0 0 ≠ 48):=by
 induction u using Nat.strongRecOn with
 | _ u ih =>
  by_cases h:u < 10
  ·rw [Lib.decDigits_one h]
   refine ⟨by simp only [List.all_cons,List.all_nil,dgt_of h,Bool.and_true],?_,by simp,fun h1 => ?_⟩
   ·show 10 * (0:Int) + (((UInt8.ofNat (48 + u)).toNat:Int) - 48) = u
    rw [val_of h]; omega
   ·show UInt8.ofNat (48 + u) ≠ 48
    have:u = 1 ∨ u = 2 ∨ u = 3 ∨ u = 4 ∨ u = 5 ∨ u = 6 ∨ u = 7 ∨ u = 8 ∨ u = 9:=by omega
    rcases this with rfl | rfl | rfl | rfl | rfl | rfl | rfl | rfl | rfl <;> decide
  ·obtain ⟨h1,h2,h3,h4⟩:=ih (u / 10) (by omega)
   rw [Lib.decDigits,dif_neg h]
   have hm:u % 10 < 10:=by omega
   refine ⟨by rw [List.all_append,h1]; simp only [List.all_cons,List.all_nil,dgt_of hm,Bool.and_true],?_,by simp,fun _ => ?_⟩
   ·unfold dv at h2 ⊢
    rw [List.foldl_append,h2]
    simp only [List.foldl_cons,List.foldl_nil]
    rw [val_of hm]; omega
   ·have:=h4 (by omega)
    cases hd:Lib.decDigits (u / 10) with
    | nil => exact absurd hd h3
    | cons a l => rw [hd] at this; exact this
theorem dgt_ne {b:UInt8} (h:dgt b = true):b ≠ 32 ∧ b ≠ 45:=by
 constructor <;> (rintro rfl; revert h; decide)
theorem dec_mem {u:Nat} {b:UInt8} (h:b ∈ Lib.decDigits u):b ≠ 32 ∧ b ≠ 45:=dgt_ne (List.all_eq_true.1 (dec_all u).1 b h)
theorem num_dec {u:Nat} (h:u < 1000000000):numOk (Lib.decDigits u) = true ∧ numV (Lib.decDigits u) = u:=by
 obtain ⟨h1,h2,h3,h4⟩:=dec_all u
 have hlen:=digs_lt u 8 (by omega)
 have hb:below (Lib.decDigits u) = false:=by
  unfold below
  cases hd:Lib.decDigits u with
  | nil => rfl
  | cons a l =>
   have:=(dec_mem (u:=u) (b:=a) (by rw [hd]; simp)).2
   simp [this]
 have hd:digs (Lib.decDigits u) = Lib.decDigits u:=by rw [digs_below,hb]; rfl
 have hok:numOk (Lib.decDigits u) = true:=by
  unfold numOk numBad
  rw [hd,h1,Bool.and_true,Bool.not_eq_true']
  have hl:0 < (Lib.decDigits u).length:=List.length_pos_iff.2 h3
  by_cases hz:u = 0
  ·subst hz; rw [Lib.decDigits_one (by omega)]; rfl
  ·have:=h4 (by omega)
   have e:((((Lib.decDigits u).getD 0 0).toNat:Int) == 48) = false:=by
    simp only [beq_eq_false_iff_ne,ne_eq]
    intro h; exact this (UInt8.toNat_inj.1 (Int.ofNat.inj h))
   rw [e]
   simp
   exact ⟨h3,by omega⟩
 refine ⟨hok,?_⟩
 rw [numV_dv hok,hb,hd,h2]; rfl
theorem text_dec {n:Int} (h:0 ≤ n):textS n = Lib.decDigits n.toNat:=by unfold textS; rw [if_neg (by omega)]
theorem itoa_dec {n:Int} (h:0 ≤ n):Lib.itoa n = textS n:=by
 rw [text_dec h]; unfold Lib.itoa; rw [if_neg (by omega)]
theorem num_text {n:Int} (h0:0 ≤ n) (h1:n ≤ 999999999):numOk (textS n) = true ∧ numV (textS n) = n:=by
 rw [text_dec h0]
 have:=num_dec (u:=n.toNat) (by omega)
 exact ⟨this.1,by rw [this.2]; omega⟩
def noSp (s:List UInt8):Prop:=∀ b ∈ s,b ≠ 32
theorem text_noSp {n:Int} (h:0 ≤ n):noSp (textS n):=fun b hb => by rw [text_dec h] at hb; exact (dec_mem hb).1
theorem itoa_noSp (n:Int):noSp (Lib.itoa n):=fun b hb => by
 unfold Lib.itoa at hb
 split at hb
 ·rcases List.mem_cons.1 hb with rfl | hb
  ·decide
  ·exact (dec_mem hb).1
 ·exact (dec_mem hb).1
theorem cut_one {s:List UInt8} (h:noSp s):cutL s = [s]:=cut_nosp fun j hj => h _ (by rw [List.getD_eq_getElem?_getD,List.getElem?_eq_getElem hj]; exact List.getElem_mem hj)
theorem cut_two {w r:List UInt8} (h:noSp w):cutL (w ++ 32 :: r) = w :: cutL r:=by
 have:=cut_at (s:=w ++ 32 :: r) (i:=w.length) (by simp) (by simp) fun j hj => by
  rw [List.getD_eq_getElem?_getD,List.getElem?_append_left hj,List.getElem?_eq_getElem hj]
  exact h _ (List.getElem_mem hj)
 rw [this]
 congr 1
 ·simp
 ·congr 1
  rw [List.drop_append]
  simp
theorem parse1 {w:List UInt8} (hw:noSp w) {e:Wd} (he:wLook w = some e) (hm:e.many = 1) {x:Int} (h0:0 ≤ x) (h1:x ≤ 999999999):parseS (w ++ 32 :: textS x) = some (w,[x]):=by
 obtain ⟨k1,k2⟩:=num_text h0 h1
 unfold parseS
 rw [cut_two hw,cut_one (text_noSp h0)]
 simp only [he]
 rw [if_pos ⟨by rw [hm]; rfl,by simp [k1]⟩]
 simp [k2]
theorem parse2 {w:List UInt8} (hw:noSp w) {e:Wd} (he:wLook w = some e) (hm:e.many = 2) {x y:Int} (h0:0 ≤ x) (h1:x ≤ 999999999) (h2:0 ≤ y) (h3:y ≤ 999999999):parseS (w ++ 32 :: (textS x ++ 32 :: textS y)) = some (w,[x,y]):=by
 obtain ⟨k1,k2⟩:=num_text h0 h1
 obtain ⟨k3,k4⟩:=num_text h2 h3
 unfold parseS
 rw [cut_two hw,cut_two (text_noSp h0),cut_one (text_noSp h2)]
 simp only [he]
 rw [if_pos ⟨by rw [hm]; rfl,by simp [k1,k3]⟩]
 simp [k2,k4]
end Go.Proofs.YtefoconkepmmgaaGreatDoor

/-
 While a side plays,the carriage stands at its place: plain.
-/
namespace Go.Proofs.YtefoconkepmmgaaGreatDoor
open Go Go.V
theorem standG_later {x:Int} {a:Sp} (h:x < a.from_):∀ (l:List Sp) (o:Sp),standG x o (l ++ [a]) = standG x o l
 | [],o => by simp [standG,h]
 | s :: l,o => by
  simp only [List.cons_append,standG]
  split
  ·rfl
  ·exact standG_later h l s
theorem standG_now {x:Int} {a:Sp} (h:a.from_ ≤ x):∀ (l:List Sp) (o:Sp),(∀ e ∈ l,e.from_ ≤ x) → standG x o (l ++ [a]) = a
 | [],o,_ => by simp only [List.nil_append,standG]; rw [if_neg (by omega)]
 | s :: l,o,hl => by
  simp only [List.cons_append,standG]
  rw [if_neg (by have:=hl s (by simp); omega)]
  exact standG_now h l s fun e he => hl e (by simp [he])
def playing (t:Tray) (l:List Pr) (x:Int):Int:=l.foldl (fun w p => if p.time ≤ x ∧ x < p.time + secsI t p.side then p.side else w) (-1)
theorem playing_snoc (t:Tray) (l:List Pr) (p:Pr) (x:Int):playing t (l ++ [p]) x = if p.time ≤ x ∧ x < p.time + secsI t p.side then p.side else playing t l x:=by
 unfold playing; rw [List.foldl_append]; rfl
theorem playing_none {t:Tray} {l:List Pr} {x:Int} (h:∀ p ∈ l,p.time + secsI t p.side ≤ x):playing t l x = -1:=by
 unfold playing
 generalize hw:(-1:Int) = w
 clear hw
 induction l generalizing w with
 | nil => rfl
 | cons p l ih =>
  rw [List.foldl_cons,if_neg (by have:=h p (by simp); omega)]
  exact ih (fun q hq => h q (by simp [hq])) w
structure Shows (t:Tray) (s:Cs) (x:Int) (e:Sp):Prop where
 at_:∃ (k:Nat) (up:Bool),k < t.n ∧ e.at_ = (k:Int) ∧ e.way = wayI up ∧ (e.side = -1 ∨ e.side = (sideAt k up:Int))
 before:x < s.now → e.side = playing t s.plays x
 now:s.now ≤ x → e.side = -1 ∧ e.at_ = (s.at_:Int) ∧ e.way = wayI s.up
structure Stands (t:Tray) (s:Cs):Prop where
 inv:Inv t s
 le:∀ e ∈ s.spells,e.from_ ≤ s.now
 shows:∀ (o:Sp) (x:Int),0 ≤ x → Shows t s x (standG x o s.spells)
theorem Stands.next {t:Tray} {s:Cs} (ht:TrayOk t) (hs:s.at_ < t.n) (hp:∀ p ∈ s.plays,p.time + secsI t p.side ≤ s.now) (h1:∀ e ∈ s.spells,e.from_ ≤ s.now) (h:∀ (o:Sp) (x:Int),0 ≤ x → Shows t s x (standG x o s.spells)) :
  (∀ e ∈ (s.next t).spells,e.from_ ≤ (s.next t).now) ∧ ∀ (o:Sp) (x:Int),0 ≤ x → Shows t (s.next t) x (standG x o (s.next t).spells):=by
 obtain ⟨m1,m2,m3,m4,m5⟩:=move_q t s
 obtain ⟨n1,n2,n3,n4⟩:=move_now ht.step.1 s
 have hat:=(move_c (t:=t) hs).2
 have es:(s.next t).spells = s.spells ++ [⟨((s.move t).at_:Int),wayI (s.move t).up,-1,(s.move t).now⟩]:=by
  show (s.move t).spells ++ _ = _
  rw [m4]
 have en:(s.next t).now = (s.move t).now:=rfl
 have ep:(s.next t).plays = s.plays:=m3
 rw [es,en]
 refine ⟨fun e he => ?_,fun o x hx => ?_⟩
 ·rcases List.mem_append.1 he with he | he
  ·have:=h1 e he; omega
  ·simp only [List.mem_singleton] at he
   subst he; exact Int.le_refl _
 ·by_cases hc:x < (s.move t).now
  ·rw [standG_later (by exact hc)]
   have hh:=h o x hx
   refine ⟨hh.at_,fun _ => ?_,fun hc2 => by rw [en] at hc2; omega⟩
   rw [ep]
   by_cases hc2:x < s.now
   ·exact hh.before hc2
   ·rw [(hh.now (by omega)).1,playing_none fun p hpm => by have:=hp p hpm; omega]
  ·rw [standG_now (by simp only; omega) _ _ fun e he => by have:=h1 e he; omega]
   exact ⟨⟨(s.move t).at_,(s.move t).up,hat,rfl,rfl,.inl rfl⟩,fun hc2 => by rw [en] at hc2; omega,fun _ => ⟨rfl,rfl,rfl⟩⟩
theorem Stands.act1 {t:Tray} (ht:TrayOk t) {s s':Cs} (hs:CsOk t s) (hpr:Pressed s) (h:Stands t s) (e:s.act1 t = some s'):Stands t s':=by
 have hi:=h.inv.act1 ht hs hpr e
 have hpl:=fun p hp => (h.inv.ply p hp).2.2.2
 rcases act1_cases e with ⟨p,q,hq,hpins,rfl⟩ | ⟨hpins,rfl⟩
 ·have hnow:=hpr p (by rw [hq]; simp)
  refine ⟨hi,fun e he => by have:=h.le e he; simp only; omega,fun o x hx => ?_⟩
  have hh:=h.shows o x hx
  refine ⟨hh.at_,fun hc => ?_,fun hc => hh.now (by simp only at hc; omega)⟩
  by_cases hc2:x < s.now
  ·exact hh.before hc2
  ·show (standG x o s.spells).side = playing t s.plays x
   rw [(hh.now (by omega)).1,playing_none fun p hpm => by have:=hpl p hpm; omega]
 ·by_cases hp:s.pins.getD s.pos false = true
  ·have hpos:=pos_lt hs
   have hsec:=secs_ok ht hpos
   have hnow:=hs.now
   have hsI:secsI t ((s.pos:Nat):Int) = secs t s.pos:=by unfold secsI; rw [Int.toNat_natCast]
   have ep:s.play t = (s.play1).play2 t:=by unfold Cs.play; rw [if_pos hp]
   obtain ⟨p1,p2,p3,p4,p5,p6⟩:=play_yes (t:=t) hp
   have ea:(s.play t).at_ = s.at_ ∧ (s.play t).up = s.up:=⟨(play_pins t s).2.2.1,(play_pins t s).2.2.2⟩
   have es:(s.play t).spells = s.spells ++ [⟨s.at_,wayI s.up,s.pos,s.now⟩] ++ [⟨s.at_,wayI s.up,-1,s.now + secs t s.pos⟩]:=by rw [ep]; rfl
   have hk:=Stands.next (s:=s.play t) ht (by rw [ea.1]; exact hs.at_) (fun x hx => by
    rw [p3] at hx; rw [p4]
    rcases List.mem_append.1 hx with hx | hx
    ·have:=hpl x hx; omega
    ·simp only [List.mem_singleton] at hx
     subst hx; simp only [hsI]; omega) (fun e he => by
    rw [es] at he; rw [p4]
    rcases List.mem_append.1 he with he | he
    ·rcases List.mem_append.1 he with he | he
     ·have:=h.le e he; omega
     ·simp only [List.mem_singleton] at he; subst he; simp only; omega
    ·simp only [List.mem_singleton] at he; subst he; simp only; omega) (fun o x hx => by
    rw [es]
    by_cases hc:x < s.now + secs t s.pos
    ·rw [standG_later (by exact hc)]
     by_cases hc2:x < s.now
     ·rw [standG_later (by exact hc2)]
      have hh:=h.shows o x hx
      refine ⟨hh.at_,fun _ => ?_,fun hc3 => by rw [p4] at hc3; omega⟩
      rw [p3,playing_snoc,if_neg (by simp only; omega)]
      exact hh.before hc2
     ·rw [standG_now (by simp only; omega) _ _ fun e he => by have:=h.le e he; omega]
      refine ⟨⟨s.at_,s.up,hs.at_,rfl,rfl,.inr rfl⟩,fun _ => ?_,fun hc3 => by rw [p4] at hc3; omega⟩
      rw [p3,playing_snoc,if_pos (by simp only [hsI]; omega)]
    ·rw [standG_now (by simp only; omega) _ _ fun e he => by
      rcases List.mem_append.1 he with he | he
      ·have:=h.le e he; omega
      ·simp only [List.mem_singleton] at he; subst he; simp only; omega]
     exact ⟨⟨s.at_,s.up,hs.at_,rfl,rfl,.inl rfl⟩,fun hc3 => by rw [p4] at hc3; omega,fun _ => ⟨rfl,by rw [ea.1],by rw [ea.2]⟩⟩)
   exact ⟨hi,hk.1,hk.2⟩
  ·rw [play_no hp] at hi ⊢
   have hk:=Stands.next (s:=s) ht hs.at_ hpl h.le h.shows
   exact ⟨hi,hk.1,hk.2⟩
theorem stands {t:Tray} (ht:TrayOk t) {q:List Pr} (hq:q.Perm t.pres) (hqs:q.Pairwise fun a b => a.time ≤ b.time):Stands t (goesWith t q):=by
 obtain ⟨k,_,h,_,_,_⟩:=goes_inv ht hq hqs (fun _ s => Stands t s) (by
  refine ⟨Inv.start hq,fun e he => ?_,fun o x hx => ?_⟩
  ·have he:e ∈ [(⟨t.at_.toNat,wayI (t.way == 1),-1,0⟩ : Sp)]:=he
   simp only [List.mem_singleton] at he
   subst he; exact Int.le_refl _
  ·have es:((start t q).mark (-1)).spells = [⟨t.at_.toNat,wayI (t.way == 1),-1,0⟩]:=rfl
   have hat:=ht.at_
   rw [es]
   have:standG x o [(⟨t.at_.toNat,wayI (t.way == 1),-1,0⟩ : Sp)] = ⟨t.at_.toNat,wayI (t.way == 1),-1,0⟩:=by simp only [standG]; rw [if_neg (by omega)]
   rw [this]
   exact ⟨⟨t.at_.toNat,t.way == 1,by omega,rfl,rfl,.inl rfl⟩,fun hc => by have:x < 0:=hc; omega,fun _ => ⟨rfl,rfl,rfl⟩⟩)
  (fun k s hs h => ⟨h.inv.press ht hs,h.le,fun o x hx => ⟨(h.shows o x hx).at_,(h.shows o x hx).before,(h.shows o x hx).now⟩⟩)
  (fun k s s' hs hpr h e => h.act1 ht hs hpr e)
 exact h
theorem stand_shows {t:Tray} (ht:TrayOk t) {x:Int} (hx:0 ≤ x):(∃ (k:Nat) (up:Bool),k < t.n ∧ (standV t x).at_ = (k:Int) ∧ (standV t x).way = wayI up ∧ (playing t (playsS t) x = -1 ∨ playing t (playsS t) x = (sideAt k up:Int))) ∧ (standV t x).side = playing t (playsS t) x:=by
 have h:=stands ht (sortT_perm t.pres) (sortT_sorted t.pres)
 have hh:=h.shows ((goesS t).spells.headD default) x hx
 have he:(standV t x).side = playing t (playsS t) x:=by
  by_cases hc:x < (goesS t).now
  ·exact hh.before hc
  ·rw [show playing t (playsS t) x = -1 from playing_none fun p hp => by have:=(h.inv.ply p hp).2.2.2; have hc:¬ x < (goesWith t (sortT t.pres)).now:=hc; omega]
   exact (hh.now (by have hc:¬ x < (goesWith t (sortT t.pres)).now:=hc; omega)).1
 obtain ⟨k,up,h1,h2,h3,h4⟩:=hh.at_
 refine ⟨⟨k,up,h1,h2,h3,?_⟩,he⟩
 rw [← he]; exact h4
end Go.Proofs.YtefoconkepmmgaaGreatDoor

/-
 A press that is served: what Stand shows when its play begins. Plain.
-/
namespace Go.Proofs.YtefoconkepmmgaaGreatDoor
open Go Go.V
theorem playing_at {t:Tray} {pre post:List Pr} {p:Pr} (hs:0 < secsI t p.side) (hpost:∀ q ∈ post,p.time < q.time):playing t (pre ++ p :: post) p.time = p.side:=by
 unfold playing
 rw [List.foldl_append,List.foldl_cons,if_pos (by omega)]
 generalize p.side = s
 revert hpost
 induction post generalizing s with
 | nil => intro _; rfl
 | cons q l ih =>
  intro h
  rw [List.foldl_cons,if_neg (by have:=h q (by simp); omega)]
  exact ih s fun x hx => h x (by simp [hx])
theorem sum_le {t:Tray} (ht:TrayOk t):∀ k,k ≤ t.n → sumT t k ≤ 1998 * k
 | 0,_ => by simp [sumT]
 | k + 1,hk => by
  have:=sum_le ht k (by omega)
  have:=rec_ok ht (k:=k) (by omega)
  simp only [sumT]
  omega
theorem wait_le {t:Tray} (ht:TrayOk t) {k:Int} (hk:inR t k = true):0 ≤ waitV t k ∧ waitV t k ≤ 100000:=by
 obtain ⟨j,hj,_,_,h3,h4,_⟩:=served_get ht hk
 have h1:=wait_round ht hk
 have h2:=round_sum ht
 have h5:=sum_le ht t.n (Nat.le_refl _)
 have hn:=ht.n6
 have hst:=ht.step
 have h6:2 * t.step * ((t.n:Int) - 1) ≤ 2 * 60 * 5:=Int.mul_le_mul (by omega) (by omega) (by have:=ht.n1; omega) (by omega)
 refine ⟨by omega,by omega⟩
theorem wait_shown {t:Tray} (ht:TrayOk t) {k:Int} (hk:inR t k = true):(standV t ((t.pr k).time + waitV t k)).side = (t.pr k).side ∧ (standV t ((t.pr k).time + waitV t k)).at_ = (t.pr k).side.tdiv 2 ∧ ∃ up,(standV t ((t.pr k).time + waitV t k)).way = wayI up:=by
 obtain ⟨j,hj,_,hside,htime,hw,hns,_⟩:=served_get ht hk
 have hinv:=(goes_ok ht).inv
 have hx:(t.pr k).time + waitV t k = (playsS t)[j].time:=by omega
 have hp:=hinv.ply _ (List.getElem_mem hj)
 rw [hx]
 have hsc:=secs_ok ht (s:=((playsS t)[j]).side.toNat) (by have:=hp.2.1; have:=hp.1; have:(playsS t)[j].side < 2 * (t.n:Int):=hp.2.1; omega)
 have hpl:playing t (playsS t) (playsS t)[j].time = (playsS t)[j].side:=by
  have e:playsS t = (playsS t).take j ++ (playsS t)[j] :: (playsS t).drop (j + 1):=by rw [← List.drop_eq_getElem_cons hj,List.take_append_drop]
  conv => lhs; arg 2; rw [e]
  refine playing_at (by unfold secsI; omega) fun q hq => ?_
  have hpw:(playsS t).Pairwise fun a b => a.time + secsI t a.side ≤ b.time:=hinv.spc
  rw [e,List.pairwise_append] at hpw
  have:=(List.pairwise_cons.1 hpw.2.1).1 q hq
  unfold secsI at this
  omega
 obtain ⟨⟨c,up,h1,h2,h3,h4⟩,h5⟩:=stand_shows ht (x:=(playsS t)[j].time) hp.2.2.1
 rw [hpl] at h4 h5
 refine ⟨h5.trans hside,?_,up,h3⟩
 rw [h2,← hside]
 have hge:0 ≤ (playsS t)[j].side:=hp.1
 rcases h4 with h4 | h4
 ·omega
 ·rw [h4]
  unfold sideAt
  rw [Int.tdiv_eq_ediv_of_nonneg (by split <;> omega)]
  split <;> omega
end Go.Proofs.YtefoconkepmmgaaGreatDoor
