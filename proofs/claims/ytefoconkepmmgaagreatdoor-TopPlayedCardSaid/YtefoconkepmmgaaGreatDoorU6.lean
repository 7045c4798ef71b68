/-
  Contracts of the layer's functions, of the laws' helpers and of the law; conditions: as each theorem states.
-/
import Derived.Test.YtefoconkepmmgaaGreatDoorU5
set_option linter.unusedVariables false
set_option linter.unusedSimpArgs false
namespace Go.Proofs.YtefoconkepmmgaaGreatDoor
open Go Go.V
abbrev o109_0:List Ins:=[JS 4 (.mv (.k J0)),JS 5 (Ji 0)]
abbrev o109_1:List Ins:=[JS 6 (Jm 0),JS 7 (.bsl 3 1 [.t 6]),JS 8 (Jm 1),JS 4 (Jm 7),JS 5 (Jm 8)]
abbrev v109_2:VC:=(.seq (.ops o109_1) .ret)
def ir109:FC:=⟨2,9,[.t 4,.t 5],(.seq (.ops o109_0) v109_2)⟩
abbrev o113_0:List Ins:=[JS 5 (.mv (.k J0)),JS 6 (Ji 0)]
abbrev t113_1:OT:=(.br [(.cons (JS 7 (Jl 2)) (.cons (JF 8 (Jm 0)) (.cons (JF 9 (.nilc (.t 8))) (.cons (JF 10 (Jf 0 9)) (.cons (JF 11 (Jf 10 10)) (.cons (JF 12 (JL 5 11)) (.cons (JS 13 (.call (.t 7) [.t 12])) (.cons (JF 14 (Je 13 0)) (.cons (JF 15 (Je 13 1)) (.cons (JS 16 (Jc 109 [.t 14,.t 15])) (.cons (JF 17 (Je 16 0)) (.cons (JF 18 (Je 16 1)) (.cons (JS 5 (Jm 17)) (.cons (JS 6 (Jm 18)) .nil)))))))))))))),(.cons (JF 8 (Jm 0)) (.br [(.cons (JS 7 (Jl 2)) (.cons (JF 9 (.nilc (.t 8))) (.cons (JF 10 (Jf 0 9)) (.cons (JF 11 (Jf 10 10)) (.cons (JF 12 (JL 5 11)) (.cons (JS 13 (.call (.t 7) [.t 12])) (.cons (JF 14 (Je 13 0)) (.cons (JF 15 (Je 13 1)) (.cons (JS 16 (Jc 109 [.t 14,.t 15])) (.cons (JF 17 (Je 16 0)) (.cons (JF 18 (Je 16 1)) (.cons (JS 5 (Jm 17)) (.cons (JS 6 (Jm 18)) .nil))))))))))))),(.cons (JF 9 (.nilc (.t 8))) (.br [(.cons (JS 7 (Jl 2)) (.cons (JF 10 (Jf 0 9)) (.cons (JF 11 (Jf 10 10)) (.cons (JF 12 (JL 5 11)) (.cons (JS 13 (.call (.t 7) [.t 12])) (.cons (JF 14 (Je 13 0)) (.cons (JF 15 (Je 13 1)) (.cons (JS 16 (Jc 109 [.t 14,.t 15])) (.cons (JF 17 (Je 16 0)) (.cons (JF 18 (Je 16 1)) (.cons (JS 5 (Jm 17)) (.cons (JS 6 (Jm 18)) .nil)))))))))))),(.cons (JF 10 (Jf 0 9)) (.br [(.cons (JS 7 (Jl 2)) (.cons (JF 11 (Jf 10 10)) (.cons (JF 12 (JL 5 11)) (.cons (JS 13 (.call (.t 7) [.t 12])) (.cons (JF 14 (Je 13 0)) (.cons (JF 15 (Je 13 1)) (.cons (JS 16 (Jc 109 [.t 14,.t 15])) (.cons (JF 17 (Je 16 0)) (.cons (JF 18 (Je 16 1)) (.cons (JS 5 (Jm 17)) (.cons (JS 6 (Jm 18)) .nil))))))))))),(.cons (JF 11 (Jf 10 10)) (.br [(.cons (JS 7 (Jl 2)) (.cons (JF 12 (JL 5 11)) (.cons (JS 13 (.call (.t 7) [.t 12])) (.cons (JF 14 (Je 13 0)) (.cons (JF 15 (Je 13 1)) (.cons (JS 16 (Jc 109 [.t 14,.t 15])) (.cons (JF 17 (Je 16 0)) (.cons (JF 18 (Je 16 1)) (.cons (JS 5 (Jm 17)) (.cons (JS 6 (Jm 18)) .nil)))))))))),(.cons (JF 12 (JL 5 11)) (.cons (JS 7 (Jl 2)) (.cons (JS 13 (.call (.t 7) [.t 12])) (.cons (JF 14 (Je 13 0)) (.cons (JF 15 (Je 13 1)) (.cons (JS 16 (Jc 109 [.t 14,.t 15])) (.cons (JF 17 (Je 16 0)) (.cons (JF 18 (Je 16 1)) (.cons (JS 5 (Jm 17)) (.cons (JS 6 (Jm 18)) .nil))))))))))]))]))]))]))])
abbrev v113_2:VC:=(.seq (.drw t113_1) .ret)
def ir113:FC:=⟨3,19,[.t 5,.t 6],(.seq (.ops o113_0) v113_2)⟩
theorem c109:compM Tryz.prog [] 109 = some ir109:=by kernel_rfl
theorem c113:compM Tryz.prog [7] 113 = some ir113:=by kernel_rfl
attribute [local go_sem] Nat.reduceEqDiff Nat.reduceAdd Nat.reduceMul reduceIte Nat.reduceLeDiff Nat.reduceLT Nat.reduceBEq reduceCtorEq
theorem one109 (n e:Int):FSpec Tryz.prog 109 [iv n,iv e] (.tup [.c (ints [n]),iv e]):=by
 refine FSpec_of c109 (Nat.le_refl _) (by decide) fun C hP hN hC hL => ?_; rw [init_st]
 simp only [ir109,ints]
 (repeat ((first | refine Va ?_ | refine Vb ?_ | refine Vc ?_ | refine Vd ?_ | refine Ve ?_ | refine Vf ?_); (try simp only [go_sem,hP]); (repeat refine qJ ?_)))
 (refine WV_ret ?_; simp only [thenQ,inQ,RetQ,RetOk,resAll,resA]; simp only [go_sem,tupA,AV.port,AV.portL,exists_eq_left']; (first | exact AVle.of rfl | refine AVle.of ?_ | skip))
theorem clos113 {f:FuncId} {b:Bar} {q:Nat} {n e:Int} (hf:FSpec Tryz.prog f [b.tray.av] (.tup [iv n,iv e])) (x:CD):FSpecL Tryz.prog 113 [.bp 1000 0,.c x,.c (.raw (ptrV q 0))] [.box b.avs,vbox (fnV f []) q] [] (fun r l' => r = .tup [.c (ints [n]),iv e] ∧ l' = [.box b.avs,vbox (fnV f []) q]):=by
 simp only [Tray.av] at hf
 refine FSpecL_of c113 (by first | simp | exact Nat.le_of_ble_eq_true rfl) (Nat.le_refl _) (by decide) (by decide) fun C hP hN hC hL => ?_; rw [init_env',ownW_upd (by first | simp | exact Nat.le_of_ble_eq_true rfl)]; simp only [ir113,updL,updLo,List.map_nil,List.map_cons,Nat.reduceAdd,]
 simp only [Bar.avs]
 (repeat ((first | refine Va ?_ | refine Vb ?_ | refine Vc ?_ | refine Vd ?_ | refine Ve ?_ | refine Vf ?_); (try simp only [go_sem,hP]); (repeat refine qJ ?_)))
 refine WV_thn (fun σ' => Sub σ' ⟨upd (upd e0 5 (.c (ints [n]))) 6 (iv e),upd (upd o0 1000 (.box b.avs)) 1001 (vbox (fnV f []) q)⟩) ?_ ?_
 ·refine WV_drw ?_
  simp only [go_sem,hP]
  (repeat' (refine And.intro ?_ ?_))
  all_goals (
   refine raw_vld (n:=1001) (vr:=.fn f []) rfl rfl rfl (fun w M loc => fn0_rep w M loc f) ?_
   simp only [go_sem,hP]
   refine AS_pu hf ?_
   simp only [go_sem,hP]
   refine AS_pu (one109 n e) ?_
   simp only [go_sem,hP]
   refine Sub_of (by simp only [go_sem]; exact EnvLe_au) (by unfold Bar.avs; simp only [go_sem]; exact ObjLe_au))
 ·intro σ' hs
  refine WV_sub hs ?_
  (refine WV_ret ?_; simp only [thenQ,inQ,RetQL,RetOkL,resAll,resA]; simp only [go_sem,tupA,AV.keepP,AV.keepPL]; refine ⟨_,[.box b.avs,vbox (fnV f []) q],rfl,KeepL_mk rfl rfl ?_ ?_ rfl,?_⟩)
  ·unfold Bar.avs
   simp only [go_sem,keepAll,Ob.keepP,AV.keepP,AV.keepPL]
  ·trivial
  ·exact ⟨rfl,rfl⟩
end Go.Proofs.YtefoconkepmmgaaGreatDoor

namespace Go.Proofs.YtefoconkepmmgaaGreatDoor
open Go Go.V
attribute [local go_sem] Nat.reduceEqDiff Nat.reduceAdd Nat.reduceMul reduceIte Nat.reduceLeDiff Nat.reduceLT Nat.reduceBEq reduceCtorEq
def Bar.avsF (b:Bar) (p:AV):List AV:=[iv b.box.wh.ro,.c (ints b.box.wh.no),.c (ints b.box.wh.co),p,.c (ints b.box.ma),.c (ints b.box.sl),iv b.box.pl,iv b.box.sk,iv b.pl,iv b.cr,.c (recsC b.tray.recs),iv b.tray.at_,iv b.tray.way,iv b.tray.step,.c (prsC b.tray.pres)]
def fGood (b:Bar) (cap j:Nat):Prop:=b.box.fo.length ≤ cap ∧ cap ≤ maxLen ∧ cap ≤ b.box.fo.length + j
def fView (b:Bar) (n k cap:Nat):AV:=if 2 < k then .vw 1 n 0 b.box.fo.length cap else .c (ints b.box.fo)
def fOwn (b:Bar) (k j:Nat):Nat → Ob:=if 2 < k then upd o0 125 (.box (cellsG zc b.box.fo j)) else o0
set_option maxHeartbeats 1000000 in
theorem copiedF {b:Bar} (hb:BarLn b) (hne:b.box.fo ≠ []):FSpecN Tryz.prog 26 [b.av] (fun r os => ∃ cap j,fGood b cap j ∧ r = .agg (b.avsF (.vw 1 1000 0 b.box.fo.length cap)) ∧ os = [.box (cellsG zc b.box.fo j)]):=by
 refine FSpecN_of c26 (Nat.le_refl _) (by decide) fun C hP hN hC hL => ?_; rw [init_st]
 simp only [ir26,Bar.av,Bar.avs]
 (repeat ((first | refine Va ?_ | refine Vb ?_ | refine Vc ?_ | refine Vd ?_ | refine Ve ?_ | refine Vf ?_); (try simp only [go_sem,hP]); (repeat refine qJ ?_)))
 refine raw_bldA (e:=89) (n:=5) (sz:=1) (z:=List.replicate 5 (.c (.raw (.pointer none)))) (ps:=[(0,1,.t 7),(1,1,.t 10),(2,1,.t 12),(3,1,.t 14),(4,1,.t 16)]) (r:=[.bp 1 1,.bp 1 2,.bp 1 3,.bp 1 4,.bp 1 5]) (by kernel_rfl) (by kernel_rfl) (by kernel_rfl) rfl ?_ rfl ?_ ?_
 ·intro i q hq
  have:i = 0 ∨ i = 1 ∨ i = 2 ∨ i = 3 ∨ i = 4 ∨ 5 ≤ i:=by omega
  rcases this with rfl | rfl | rfl | rfl | rfl | h
  case inr.inr.inr.inr.inr => rw [List.getElem?_eq_none (by exact h)] at hq; cases hq
  all_goals (cases hq; exact ⟨_,rfl,rfl⟩)
 ·simp only [go_sem]
 simp only [go_sem,hP]
 (repeat ((first | refine Va ?_ | refine Vb ?_ | refine Vc ?_ | refine Vd ?_ | refine Ve ?_ | refine Vf ?_); (try simp only [go_sem,hP]); (repeat refine qJ ?_)))
 refine WV_loopS (fun p:Nat × Nat × Nat => ⟨upd (upd (upd (upd e0 1 (.bp 1 0)) 2 (.bp 2 0)) 17 (.agg [.bp 1 1,.bp 1 2,.bp 1 3,.bp 1 4,.bp 1 5])) 18 (iv p.1),upd (upd (fOwn b p.1 p.2.2) 1 (.box (b.avsF (fView b 125 p.1 p.2.1)))) 2 (.box [iv 0,.c (.raw (.slice none 0 0)),.c (.raw (.slice none 0 0)),.c (.raw (.slice none 0 0)),.c (.raw (.slice none 0 0)),.c (.raw (.slice none 0 0)),iv 0,iv 0,iv 0,iv 0,.c (.raw (.slice none 0 0)),iv 0,iv 0,iv 0,.c (.raw (.slice none 0 0))])⟩) (fun p => p.1 ≤ 5 ∧ (2 < p.1 → fGood b p.2.1 p.2.2)) (fun p => 5 - p.1) (0,0,0) ⟨Nat.zero_le _,fun h => by cases h⟩ ?_ ?_
 ·refine Sub_of (by simp only [go_sem]; exact EnvLe_au) (by unfold Bar.avsF fView fOwn; simp only [go_sem]; exact ObjLe_au)
 rintro ⟨k,cap,j⟩ ⟨hk,hg⟩
 simp only at hk hg ⊢
 (repeat ((first | refine Va ?_ | refine Vb ?_ | refine Vc ?_ | refine Vd ?_ | refine Ve ?_ | refine Vf ?_); (try simp only [go_sem,hP]); (repeat refine qJ ?_)))
 (refine WV_cond rfl (fun h => ?_) (fun h => ?_))
 ·have hi:k < 5:=by simp at h; omega
  (refine WV_skip ?_; simp only [go_sem])
  refine WV_seq_ (WV_block (WV_seq_ ?_))
  have w1:=w64 (n:=(k:Int) + 1) (by omega) (by omega)
  have:k = 0 ∨ k = 1 ∨ k = 2 ∨ k = 3 ∨ k = 4:=by omega
  have h1:=clone50 _ hb.no
  have h2:=clone50 _ hb.co
  have h3:=clone50 _ hb.fo
  have h4:=clone50 _ hb.ma
  have h5:=clone50 _ hb.sl
  rcases this with rfl | rfl | rfl | rfl | rfl
  ·unfold Bar.avsF fView fOwn
   simp only [go_sem]
   (refine WV_op ?_; simp only [go_sem,hP]; (repeat refine qJ ?_))
   refine raw_idx1 (e:=89) (n:=5) (x':=.t 17) (i':=.t 18) (k:=.i64) (j:=_) (by kernel_rfl) (by kernel_rfl) (by kernel_rfl) rfl rfl rfl rfl rfl rfl (by omega) rfl ?_
   simp only [go_sem,hP]
   (repeat ((first | refine Va ?_ | refine Vb ?_ | refine Vc ?_ | refine Vd ?_ | refine Ve ?_ | refine Vf ?_); (try simp only [go_sem,hP]); (repeat refine qJ ?_)))
   refine AS_pu h1 ?_
   simp only [go_sem,hP]
   (repeat refine qJ ?_)
   (repeat ((first | refine Va ?_ | refine Vb ?_ | refine Vc ?_ | refine Vd ?_ | refine Ve ?_ | refine Vf ?_); (try simp only [go_sem,hP,w1]); (repeat refine qJ ?_)))
   refine ⟨(1,cap,j),⟨by omega,fun h => by simp at h⟩,by simp,Sub_of (by simp only [go_sem]; exact EnvLe_au) (by simp only [go_sem]; exact ObjLe_au)⟩
  ·unfold Bar.avsF fView fOwn
   simp only [go_sem]
   (refine WV_op ?_; simp only [go_sem,hP]; (repeat refine qJ ?_))
   refine raw_idx1 (e:=89) (n:=5) (x':=.t 17) (i':=.t 18) (k:=.i64) (j:=_) (by kernel_rfl) (by kernel_rfl) (by kernel_rfl) rfl rfl rfl rfl rfl rfl (by omega) rfl ?_
   simp only [go_sem,hP]
   (repeat ((first | refine Va ?_ | refine Vb ?_ | refine Vc ?_ | refine Vd ?_ | refine Ve ?_ | refine Vf ?_); (try simp only [go_sem,hP]); (repeat refine qJ ?_)))
   refine AS_pu h2 ?_
   simp only [go_sem,hP]
   (repeat refine qJ ?_)
   (repeat ((first | refine Va ?_ | refine Vb ?_ | refine Vc ?_ | refine Vd ?_ | refine Ve ?_ | refine Vf ?_); (try simp only [go_sem,hP,w1]); (repeat refine qJ ?_)))
   refine ⟨(2,cap,j),⟨by omega,fun h => by simp at h⟩,by simp,Sub_of (by simp only [go_sem]; exact EnvLe_au) (by simp only [go_sem]; exact ObjLe_au)⟩
  ·unfold Bar.avsF fView fOwn
   simp only [go_sem]
   (refine WV_op ?_; simp only [go_sem,hP]; (repeat refine qJ ?_))
   refine raw_idx1 (e:=89) (n:=5) (x':=.t 17) (i':=.t 18) (k:=.i64) (j:=_) (by kernel_rfl) (by kernel_rfl) (by kernel_rfl) rfl rfl rfl rfl rfl rfl (by omega) rfl ?_
   simp only [go_sem,hP]
   (repeat ((first | refine Va ?_ | refine Vb ?_ | refine Vc ?_ | refine Vd ?_ | refine Ve ?_ | refine Vf ?_); (try simp only [go_sem,hP]); (repeat refine qJ ?_)))
   refine AS_new (cloneV50 _ hb.fo hne) rfl rfl rfl rfl ?_
   rintro r os ⟨cap,j,g1,g2,g3,rfl,rfl⟩
   refine ⟨[125],_,_,by simp,rfl,rfl,rfl,(by simp only [go_sem,obsBack,Ob.back,AV.back,AV.backL,back_cellsG]; rfl),?_⟩
   simp only [go_sem,hP,ownBack]
   (repeat refine qJ ?_)
   (repeat ((first | refine Va ?_ | refine Vb ?_ | refine Vc ?_ | refine Vd ?_ | refine Ve ?_ | refine Vf ?_); (try simp only [go_sem,hP,w1]); (repeat refine qJ ?_)))
   refine ⟨(3,cap,j),⟨by omega,fun _ => ⟨g1,g2,g3⟩⟩,by simp,Sub_of (by simp only [go_sem]; exact EnvLe_au) (by simp only [go_sem]; exact ObjLe_au)⟩
  ·unfold Bar.avsF fView fOwn
   simp only [go_sem]
   (refine WV_op ?_; simp only [go_sem,hP]; (repeat refine qJ ?_))
   refine raw_idx1 (e:=89) (n:=5) (x':=.t 17) (i':=.t 18) (k:=.i64) (j:=_) (by kernel_rfl) (by kernel_rfl) (by kernel_rfl) rfl rfl rfl rfl rfl rfl (by omega) rfl ?_
   simp only [go_sem,hP]
   (repeat ((first | refine Va ?_ | refine Vb ?_ | refine Vc ?_ | refine Vd ?_ | refine Ve ?_ | refine Vf ?_); (try simp only [go_sem,hP]); (repeat refine qJ ?_)))
   refine AS_pu h4 ?_
   simp only [go_sem,hP]
   (repeat refine qJ ?_)
   (repeat ((first | refine Va ?_ | refine Vb ?_ | refine Vc ?_ | refine Vd ?_ | refine Ve ?_ | refine Vf ?_); (try simp only [go_sem,hP,w1]); (repeat refine qJ ?_)))
   refine ⟨(4,cap,j),⟨by omega,fun _ => hg (by omega)⟩,by simp,Sub_of (by simp only [go_sem]; exact EnvLe_au) (by simp only [go_sem]; exact ObjLe_au)⟩
  ·unfold Bar.avsF fView fOwn
   simp only [go_sem]
   (refine WV_op ?_; simp only [go_sem,hP]; (repeat refine qJ ?_))
   refine raw_idx1 (e:=89) (n:=5) (x':=.t 17) (i':=.t 18) (k:=.i64) (j:=_) (by kernel_rfl) (by kernel_rfl) (by kernel_rfl) rfl rfl rfl rfl rfl rfl (by omega) rfl ?_
   simp only [go_sem,hP]
   (repeat ((first | refine Va ?_ | refine Vb ?_ | refine Vc ?_ | refine Vd ?_ | refine Ve ?_ | refine Vf ?_); (try simp only [go_sem,hP]); (repeat refine qJ ?_)))
   refine AS_pu h5 ?_
   simp only [go_sem,hP]
   (repeat refine qJ ?_)
   (repeat ((first | refine Va ?_ | refine Vb ?_ | refine Vc ?_ | refine Vd ?_ | refine Ve ?_ | refine Vf ?_); (try simp only [go_sem,hP,w1]); (repeat refine qJ ?_)))
   refine ⟨(5,cap,j),⟨by omega,fun _ => hg (by omega)⟩,by simp,Sub_of (by simp only [go_sem]; exact EnvLe_au) (by simp only [go_sem]; exact ObjLe_au)⟩
 ·have hk5:k = 5:=by simp at h; omega
  subst hk5
  have h6:=clone51 _ hb.rc
  have hgd:=hg (by omega)
  unfold Bar.avsF fView fOwn
  simp only [go_sem]
  (repeat ((first | refine Va ?_ | refine Vb ?_ | refine Vc ?_ | refine Vd ?_ | refine Ve ?_ | refine Vf ?_); (try simp only [go_sem,hP]); (repeat refine qJ ?_)))
  (refine ACall_of (h6) rfl rfl rfl rfl rfl ?_; simp only [go_sem,hP]; (repeat refine qJ ?_); (repeat ((first | refine Va ?_ | refine Vb ?_ | refine Vc ?_ | refine Vd ?_ | refine Ve ?_ | refine Vf ?_); (try simp only [go_sem,hP]); (repeat refine qJ ?_))))
  refine AS_pu (clone56 _ hb.pr) ?_
  simp only [go_sem,hP]
  (repeat refine qJ ?_)
  (repeat ((first | refine Va ?_ | refine Vb ?_ | refine Vc ?_ | refine Vd ?_ | refine Ve ?_ | refine Vf ?_); (try simp only [go_sem,hP]); (repeat refine qJ ?_)))
  (refine WV_ret ?_; simp only [thenQ,inQ,RetQN,RetOkN,resAll,resA]; simp only [go_sem,tupA])
  refine ⟨[125],_,_,_,by simp,by simp,rfl,AVle.refl _,(by simp only [go_sem,obsLend,Ob.lend]),cap,j,hgd,rfl,rfl⟩
end Go.Proofs.YtefoconkepmmgaaGreatDoor

namespace Go.Proofs.YtefoconkepmmgaaGreatDoor
open Go Go.V
abbrev o75_0:List Ins:=[JS 6 (JB false)]
abbrev o75_1:List Ins:=[JS 12 (Jm 1),JS 13 (Jk .lss 12 0),JS 14 (Jm 13),JG 15 (Jm 1) 14 false,JG 16 (Jm 0) 14 false,JG 17 (.nilc (.t 16)) 14 false,JG 18 (Jf 0 17) 14 false,JG 19 (Jf 0 18) 14 false,JG 20 (Jf 0 19) 14 false,JG 21 (Jf 2 20) 14 false,JG 22 (Jl 21) 14 false,JG 23 (Jn 22) 14 false,JG 24 (Jb .geq 15 23) 14 false,JS 25 (Jo 14 24)]
abbrev o75_2:List Ins:=[JS 6 (JB false)]
abbrev v75_3:VC:=(.seq (.ops o75_2) .ret)
abbrev v75_4:VC:=(.cond (.t 25) v75_3 .skip)
abbrev t75_5:OT:=(.cons (JF 27 (Jm 0)) (.cons (JF 28 (.nilc (.t 27))) (.cons (JF 29 (Jf 0 28)) (.cons (JF 30 (Jf 0 29)) (.cons (JF 31 (Jf 0 30)) (.cons (JF 32 (JL 3 31)) (.cons (JF 33 (Jm 0)) (.cons (JF 34 (.nilc (.t 33))) (.cons (JF 35 (Jf 0 34)) (.cons (JF 36 (Jf 8 35)) (.cons (JF 37 (JL 2 36)) (.cons (JF 38 (Jm 1)) (.br [(.cons (JF 39 (.bsl 3 1 [.t 38])) (.cons (JF 7 (.alloc [Jz 0,Jz 0])) (.cons (JF 40 (Jc 12 [.t 32,.t 37,.t 39])) (.cons (JF 26 (Jm 40)) (.cons (JF 41 (Je 26 0)) (.cons (JF 42 (Je 26 1)) (.cons (JF 43 (Je 26 2)) (.cons (JE (Js 2 7 41)) (.cons (JF 8 (Jm 42)) (.cons (JS 9 (Jm 43)) .nil)))))))))),(.cons (JF 7 (.alloc [Jz 0,Jz 0])) (.cons (JF 39 (.bsl 3 1 [.t 38])) (.cons (JF 40 (Jc 12 [.t 32,.t 37,.t 39])) (.cons (JF 26 (Jm 40)) (.cons (JF 41 (Je 26 0)) (.cons (JF 42 (Je 26 1)) (.cons (JF 43 (Je 26 2)) (.cons (JE (Js 2 7 41)) (.cons (JF 8 (Jm 42)) (.cons (JS 9 (Jm 43)) .nil))))))))))])))))))))))))
abbrev o75_6:List Ins:=[JS 44 (Jm 9),JS 45 (Jk .neq 44 0)]
abbrev o75_7:List Ins:=[JS 6 (JB false)]
abbrev v75_8:VC:=(.seq (.ops o75_7) .ret)
abbrev v75_9:VC:=(.cond (.t 45) v75_8 .skip)
abbrev o75_10:List Ins:=[JF 46 (Jm 0),JF 47 (.nilc (.t 46)),JF 48 (Jf 0 47),JF 49 (Jf 0 48),JF 50 (Jf 6 49),JF 51 (Jl 50),JF 52 (Jf 1 7),JF 53 (Jl 52),JF 54 (Jm 0),JF 55 (.nilc (.t 54)),JF 56 (Jf 0 55),JF 57 (Jf 8 56),JF 58 (Jf 1 57),JF 59 (Jl 58),JF 60 (Jb .sub 53 59),JS 61 (Jb .add 51 60),JS 62 (.nilc (.t 46)),JS 63 (Jf 0 62),JS 64 (Jf 0 63),JS 65 (Jf 6 64),JN (Js 1 65 61)]
abbrev o75_11:List Ins:=[JS 66 (Jm 0),JS 67 (JL 2 7),JS 68 (.nilc (.t 66)),JS 69 (Jf 0 68),JS 70 (Jf 8 69),JN (Js 2 70 67)]
abbrev o75_12:List Ins:=[JS 71 (Jm 2),JS 72 (Jn 71),JS 73 (Ji 0)]
abbrev o75_13:List Ins:=[JS 74 (Jb .lss 73 72)]
abbrev o75_14:List Ins:=[JS 75 (Ja 1 71 73),JS 76 (Jl 75),JS 11 (Jm 76)]
abbrev o75_15:List Ins:=[JS 77 (Jm 11),JS 78 (Jm 1),JS 79 (Ja 1 77 78),JS 80 (Jl 79),JS 81 (Jk .add 80 1),JS 82 (Ja 1 77 78),JN (Js 1 82 81)]
abbrev v75_16:VC:=(.seq (.ops o75_14) (.ops o75_15))
abbrev o75_17:List Ins:=[JS 83 (Jk .add 73 1),JS 73 (Jm 83)]
abbrev v75_18:VC:=(.seq (.block 1 v75_16) (.ops o75_17))
abbrev v75_19:VC:=(.seq (.cond (.t 74) .skip (.exit 0)) v75_18)
abbrev v75_20:VC:=(.seq (.ops o75_13) v75_19)
-- K75_1: changed and kept: [73]
abbrev v75_21:VC:=(.loop v75_20)
abbrev v75_22:VC:=(.block 0 v75_21)
abbrev o75_23:List Ins:=[JS 6 (JB true)]
abbrev v75_24:VC:=(.seq (.ops o75_23) .ret)
abbrev v75_25:VC:=(.seq (.seq (.ops o75_12) v75_22) v75_24)
abbrev v75_26:VC:=(.seq (.ops o75_11) v75_25)
abbrev v75_27:VC:=(.seq (.dops o75_10) v75_26)
abbrev v75_28:VC:=(.seq (.seq (.ops o75_6) v75_9) v75_27)
abbrev v75_29:VC:=(.seq (.drw t75_5) v75_28)
abbrev v75_30:VC:=(.seq (.seq (.ops o75_1) v75_4) v75_29)
def ir75:FC:=⟨3,84,[.t 6],(.seq (.ops o75_0) v75_30)⟩
theorem c75:compM Tryz.prog [] 75 = some ir75:=by kernel_rfl
attribute [local go_sem] Nat.reduceEqDiff Nat.reduceAdd Nat.reduceMul reduceIte Nat.reduceLeDiff Nat.reduceLT Nat.reduceBEq reduceCtorEq
def coinB (b:Bar) (kind:Int):Option Bar :=
 if 0 ≤ kind ∧ kind < (b.box.wh.co.length:Int) ∧ (runP b.box.wh b.pl b.cr [kind]).2 = 0 then
  some { b with pl:=(runP b.box.wh b.pl b.cr [kind]).1.1,cr:=(runP b.box.wh b.pl b.cr [kind]).1.2.1,box:={ b.box with pl:=b.box.pl + ((runP b.box.wh b.pl b.cr [kind]).1.2.1 - b.cr),fo:=b.box.fo.set kind.toNat (b.box.fo.getD kind.toNat 0 + 1) } }
 else none
def putPost (b:Bar) (cap j:Nat) (o:Option Bar) (r:AV) (l':List Ob):Prop :=
 match o with
 | none => r = .c (.bool false) ∧ l' = [.box (b.avsF (.vw 1 1001 0 b.box.fo.length cap)),.box (cellsG zc b.box.fo j),.box [.vw 1 1001 0 b.box.fo.length cap]]
 | some b' => r = .c (.bool true) ∧ l' = [.box (b'.avsF (.vw 1 1001 0 b.box.fo.length cap)),.box (cellsG zc b'.box.fo j),.box [.vw 1 1001 0 b.box.fo.length cap]]
theorem coin_bound {b:Bar} (hB:barB b = true) {kind:Int} (hk:0 ≤ kind ∧ kind < (b.box.wh.co.length:Int)) {pl' cr' md e:Int} (hR:runP b.box.wh b.pl b.cr [kind] = ((pl',cr',md),e)) (he:e = 0):0 ≤ cr' ∧ cr' ≤ 1000 ∧ 0 ≤ b.cr ∧ b.cr ≤ 20 ∧ 0 ≤ b.box.pl ∧ b.box.pl ≤ 9999 ∧ b.box.fo.length = b.box.wh.co.length ∧ ∀ n ∈ b.box.fo,0 ≤ n ∧ n ≤ 12:=by
 simp only [barB,bxB,Bool.and_eq_true,decide_eq_true_eq,within] at hB
 obtain ⟨⟨⟨⟨⟨⟨⟨⟨h1,h2⟩,h3⟩,h4⟩,h5⟩,h6⟩,h7⟩,h8⟩,h9,h10,h11,h12,h13⟩:=hB
 have hw:=whB_ok h1
 have hl:=lstB_ok h4
 have ha:actB b.box.wh kind = true:=by
  unfold actB within
  simp only [Bool.or_eq_true,Bool.and_eq_true,decide_eq_true_eq]
  right; omega
 have hs:=actP_ok hw (pl:=b.pl) (cr:=b.cr) (a:=kind) ⟨h10,h11⟩ h12 ha
 have hr:runP b.box.wh b.pl b.cr [kind] = (runS b.box.wh b.pl b.cr [kind],0):=by
  unfold runP at hR ⊢
  split
  ·rfl
  ·rename_i hx
   rw [if_neg hx] at hR
   simp only [Prod.mk.injEq] at hR
   exact absurd (hR.2.trans he) hx
 rw [hr] at hR
 have hcr:cr' = (actP b.box.wh b.pl b.cr kind).2:=by
  have:=congrArg (fun q => q.1.2.1) hR
  exact this.symm
 rw [hcr]
 exact ⟨hs.2.1,by omega,h12,h13,h2.1,h2.2,hl.1,hl.2⟩
theorem put75 {b:Bar} (hb:BarLn b) (hB:barB b = true) (kind:Int) {cap j:Nat} (hg:fGood b cap j):FSpecL Tryz.prog 75 [.bp 1000 0,iv kind,.vw 1 1002 0 1 1] [.box (b.avsF (.vw 1 1001 0 b.box.fo.length cap)),.box (cellsG zc b.box.fo j),.box [.vw 1 1001 0 b.box.fo.length cap]] [] (putPost b cap j (coinB b kind)):=by
 have hm:maxLen = 9223372036854775807:=rfl
 refine FSpecL_of c75 (by first | simp | exact Nat.le_of_ble_eq_true rfl) (Nat.le_refl _) (by decide) (by decide) fun C hP hN hC hL => ?_; rw [init_env',ownW_upd (by first | simp | exact Nat.le_of_ble_eq_true rfl)]; simp only [ir75,updL,updLo,List.map_nil,List.map_cons,Nat.reduceAdd,]
 simp only [Bar.avsF]
 (repeat ((first | refine Va ?_ | refine Vb ?_ | refine Vc ?_ | refine Vd ?_ | refine Ve ?_ | refine Vf ?_); (try simp only [go_sem,hP,ints,List.length_map]); (repeat refine qJ ?_)))
 by_cases hk:0 ≤ kind ∧ kind < (b.box.wh.co.length:Int)
 ·(refine WV_cond rfl (fun h => ?_) (fun h => ?_))
  ·exfalso; simp at h; omega
  ·have hrun:=run69 b.box.wh b.pl b.cr [kind]
   simp only [Wh.av,Wh.avs,ints] at hrun
   generalize hR:runP b.box.wh b.pl b.cr [kind] = R at hrun
   obtain ⟨⟨pl',cr',md⟩,e⟩:=R
   simp only at hrun
   (repeat ((first | refine Va ?_ | refine Vb ?_ | refine Vc ?_ | refine Vd ?_ | refine Ve ?_ | refine Vf ?_); (try simp only [go_sem,hP]); (repeat refine qJ ?_)))
   refine WV_thn (fun σ' => Sub σ' ⟨upd (upd (upd (upd (upd (upd (upd e0 0 (.bp 1000 0)) 1 (iv kind)) 2 (.vw 1 1002 0 1 1)) 6 (.c (.bool false))) 7 (.bp 7 0)) 8 (iv md)) 9 (iv e),upd (upd (upd (upd o0 1000 (.box (b.avsF (.vw 1 1001 0 b.box.fo.length cap)))) 1001 (.box (cellsG zc b.box.fo j))) 1002 (.box [.vw 1 1001 0 b.box.fo.length cap])) 7 (.box [iv pl',iv cr'])⟩) ?_ ?_
   ·refine WV_drw ?_
    simp only [go_sem,hP]
    (repeat' (refine And.intro ?_ ?_))
    all_goals (
     (refine ACall_of (hrun) rfl rfl rfl rfl rfl ?_; simp only [go_sem,hP]; (repeat refine qJ ?_); (repeat ((first | refine Va ?_ | refine Vb ?_ | refine Vc ?_ | refine Vd ?_ | refine Ve ?_ | refine Vf ?_); (try simp only [go_sem,hP]); (repeat refine qJ ?_))))
     refine Sub_of (by simp only [go_sem]; exact EnvLe_au) (by unfold Bar.avsF ints; simp only [go_sem]; exact ObjLe_au))
   ·intro σ' hs
    refine WV_sub hs ?_
    unfold Bar.avsF
    (repeat ((first | refine Va ?_ | refine Vb ?_ | refine Vc ?_ | refine Vd ?_ | refine Ve ?_ | refine Vf ?_); (try simp only [go_sem,hP]); (repeat refine qJ ?_)))
    by_cases he:e = 0
    ·(refine WV_cond rfl (fun h => ?_) (fun h => ?_))
     ·exfalso; simp [he] at h
     ·have hcb:=coin_bound hB hk hR he
      have hyes:coinB b kind = some { b with pl:=pl',cr:=cr',box:={ b.box with pl:=b.box.pl + (cr' - b.cr),fo:=b.box.fo.set kind.toNat (b.box.fo.getD kind.toNat 0 + 1) } }:=by
       unfold coinB; rw [hR,if_pos ⟨hk.1,hk.2,he⟩]
      rw [hyes]
      have w1:=w64 (n:=cr' - b.cr) (by omega) (by omega)
      have w2:=w64 (n:=b.box.pl + (cr' - b.cr)) (by omega) (by omega)
      (repeat ((first | refine Va ?_ | refine Vb ?_ | refine Vc ?_ | refine Vd ?_ | refine Ve ?_ | refine Vf ?_); (try simp only [go_sem,hP,w1,w2]); (repeat refine qJ ?_)))
      have zl:∀ n:Int,(zc n).length = 1:=fun _ => rfl
      have hkn:kind.toNat < b.box.fo.length:=by omega
      have hki:((kind.toNat:Nat):Int) = kind:=by omega
      have hx:=hcb.2.2.2.2.2.2.2 (b.box.fo.getD kind.toNat 0) (by rw [List.getD_eq_getElem?_getD,List.getElem?_eq_getElem hkn]; exact List.getElem_mem hkn)
      have hget:=cellsG_get zl (l:=b.box.fo) hkn j 0 (d:=.int .i64 b.box.fo[kind.toNat]) rfl .non
      have hset:=cellsG_set zl (l:=b.box.fo) hkn j 0 (by decide) (.int .i64 (b.box.fo[kind.toNat] + 1)) (b.box.fo[kind.toNat] + 1) rfl
      have hgd:b.box.fo.getD kind.toNat 0 = b.box.fo[kind.toNat]:=by rw [List.getD_eq_getElem?_getD,List.getElem?_eq_getElem hkn]; rfl
      have hcl:=cellsG_len zl b.box.fo j
      rw [hgd] at hx ⊢
      generalize b.box.fo[kind.toNat] = n at hx hget hset hgd ⊢
      simp only [Nat.mul_one,Nat.add_zero] at hget hset hcl
      refine WV_loopS (fun p:Nat => ⟨upd (upd (upd (upd (upd e0 1 (iv kind)) 6 (.c (.bool false))) 71 (.vw 1 1002 0 1 1)) 72 (iv 1)) 73 (iv p),upd (upd (upd o0 1000 (.box (Bar.avsF { b with pl:=pl',cr:=cr',box:={ b.box with pl:=b.box.pl + (cr' - b.cr) } } (.vw 1 1001 0 b.box.fo.length cap)))) 1001 (.box (cellsG zc (if p = 0 then b.box.fo else b.box.fo.set kind.toNat (n + 1)) j))) 1002 (.box [.vw 1 1001 0 b.box.fo.length cap])⟩) (fun p => p ≤ 1) (fun p => 1 - p) 0 (Nat.zero_le _) ?_ ?_
      ·refine Sub_of (by simp only [go_sem]; exact EnvLe_au) (by unfold Bar.avsF ints; simp only [go_sem]; exact ObjLe_au)
      intro p hp
      unfold Bar.avsF
      have hp01:p = 0 ∨ p = 1:=by omega
      rcases hp01 with rfl | rfl
      ·(repeat ((first | refine Va ?_ | refine Vb ?_ | refine Vc ?_ | refine Vd ?_ | refine Ve ?_ | refine Vf ?_); (try simp only [go_sem,hP]); (repeat refine qJ ?_)))
       (refine WV_cond rfl (fun h => ?_) (fun h => ?_))
       ·have w3:=w64 (n:=n + 1) (by omega) (by omega)
        (repeat ((first | refine Va ?_ | refine Vb ?_ | refine Vc ?_ | refine Vd ?_ | refine Ve ?_ | refine Vf ?_); (try simp only [go_sem,hP,hget,hset,hcl,w3]); (repeat refine qJ ?_)))
        refine ⟨1,by omega,by omega,Sub_of (by simp only [go_sem]; exact EnvLe_au) (by simp only [go_sem]; exact ObjLe_au)⟩
       ·exfalso; simp at h
      ·(repeat ((first | refine Va ?_ | refine Vb ?_ | refine Vc ?_ | refine Vd ?_ | refine Ve ?_ | refine Vf ?_); (try simp only [go_sem,hP]); (repeat refine qJ ?_)))
       (refine WV_cond rfl (fun h => ?_) (fun h => ?_))
       ·exfalso; simp at h
       ·(repeat ((first | refine Va ?_ | refine Vb ?_ | refine Vc ?_ | refine Vd ?_ | refine Ve ?_ | refine Vf ?_); (try simp only [go_sem,hP]); (repeat refine qJ ?_)))
        (refine WV_ret ?_; simp only [thenQ,inQ,RetQL,RetOkL,resAll,resA]; simp only [go_sem,tupA,AV.keepP,AV.keepPL]; refine ⟨_,[.box (Bar.avsF { b with pl:=pl',cr:=cr',box:={ b.box with pl:=b.box.pl + (cr' - b.cr) } } (.vw 1 1001 0 b.box.fo.length cap)),.box (cellsG zc (b.box.fo.set kind.toNat (n + 1)) j),.box [.vw 1 1001 0 b.box.fo.length cap]],rfl,KeepL_mk rfl rfl ?_ ?_ rfl,?_⟩)
        ·unfold Bar.avsF
         simp only [go_sem,keepAll,Ob.keepP,AV.keepP,AV.keepPL,ints,keep_cellsG]
        ·trivial
        ·exact ⟨rfl,rfl⟩
    ·have hno:coinB b kind = none:=by unfold coinB; rw [hR,if_neg]; rintro ⟨_,_,h3⟩; exact he h3
     rw [hno]
     (refine WV_cond rfl (fun h => ?_) (fun h => ?_))
     ·(repeat ((first | refine Va ?_ | refine Vb ?_ | refine Vc ?_ | refine Vd ?_ | refine Ve ?_ | refine Vf ?_); (try simp only [go_sem,hP]); (repeat refine qJ ?_)))
      (refine WV_ret ?_; simp only [thenQ,inQ,RetQL,RetOkL,resAll,resA]; simp only [go_sem,tupA,AV.keepP,AV.keepPL]; refine ⟨_,[.box (b.avsF (.vw 1 1001 0 b.box.fo.length cap)),.box (cellsG zc b.box.fo j),.box [.vw 1 1001 0 b.box.fo.length cap]],rfl,KeepL_mk rfl rfl ?_ ?_ rfl,?_⟩)
      ·unfold Bar.avsF
       simp only [go_sem,keepAll,Ob.keepP,AV.keepP,AV.keepPL,ints,keep_cellsG]
      ·trivial
      ·exact ⟨rfl,rfl⟩
     ·exfalso; simp at h; exact he h
 ·have hno:coinB b kind = none:=by unfold coinB; rw [if_neg]; rintro ⟨h1,h2,_⟩; exact hk ⟨h1,h2⟩
  rw [hno]
  (refine WV_cond rfl (fun h => ?_) (fun h => ?_))
  ·(repeat ((first | refine Va ?_ | refine Vb ?_ | refine Vc ?_ | refine Vd ?_ | refine Ve ?_ | refine Vf ?_); (try simp only [go_sem,hP]); (repeat refine qJ ?_)))
   (refine WV_ret ?_; simp only [thenQ,inQ,RetQL,RetOkL,resAll,resA]; simp only [go_sem,tupA,AV.keepP,AV.keepPL]; refine ⟨_,[.box (b.avsF (.vw 1 1001 0 b.box.fo.length cap)),.box (cellsG zc b.box.fo j),.box [.vw 1 1001 0 b.box.fo.length cap]],rfl,KeepL_mk rfl rfl ?_ ?_ rfl,?_⟩)
   ·unfold Bar.avsF
    simp only [go_sem,keepAll,Ob.keepP,AV.keepP,AV.keepPL,ints,keep_cellsG]
   ·trivial
   ·exact ⟨rfl,rfl⟩
  ·exfalso; simp at h; omega
end Go.Proofs.YtefoconkepmmgaaGreatDoor

namespace Go.Proofs.YtefoconkepmmgaaGreatDoor
open Go Go.V
abbrev o74_0:List Ins:=[JS 4 (JB false)]
abbrev t74_1:OT:=(.cons (JF 9 (Jm 0)) (.cons (JF 10 (.nilc (.t 9))) (.cons (JF 11 (Jf 0 10)) (.cons (JF 12 (Jf 0 11)) (.cons (JF 13 (Jf 3 12)) (.cons (JF 14 (Jl 13)) (.br [(.cons (JF 5 (Jm 0)) (.br [(.cons (JF 6 (Jm 1)) (.br [(.cons (JF 7 (.ia 1 (.t 6) (.k (Jz 0)))) (.br [(.cons (JF 8 (Jl 7)) (.cons (JS 15 (.bslv 22 1 [.t 14])) (.cons (JS 16 (Jc 75 [.t 5,.t 8,.t 15])) (.cons (JS 4 (Jm 16)) .nil)))),(.cons (JS 15 (.bslv 22 1 [.t 14])) (.cons (JF 8 (Jl 7)) (.cons (JS 16 (Jc 75 [.t 5,.t 8,.t 15])) (.cons (JS 4 (Jm 16)) .nil))))])),(.cons (JS 15 (.bslv 22 1 [.t 14])) (.cons (JF 7 (.ia 1 (.t 6) (.k (Jz 0)))) (.cons (JF 8 (Jl 7)) (.cons (JS 16 (Jc 75 [.t 5,.t 8,.t 15])) (.cons (JS 4 (Jm 16)) .nil)))))])),(.cons (JS 15 (.bslv 22 1 [.t 14])) (.cons (JF 6 (Jm 1)) (.cons (JF 7 (.ia 1 (.t 6) (.k (Jz 0)))) (.cons (JF 8 (Jl 7)) (.cons (JS 16 (Jc 75 [.t 5,.t 8,.t 15])) (.cons (JS 4 (Jm 16)) .nil))))))])),(.cons (JF 6 (Jm 1)) (.br [(.cons (JF 5 (Jm 0)) (.br [(.cons (JF 7 (.ia 1 (.t 6) (.k (Jz 0)))) (.br [(.cons (JF 8 (Jl 7)) (.cons (JS 15 (.bslv 22 1 [.t 14])) (.cons (JS 16 (Jc 75 [.t 5,.t 8,.t 15])) (.cons (JS 4 (Jm 16)) .nil)))),(.cons (JS 15 (.bslv 22 1 [.t 14])) (.cons (JF 8 (Jl 7)) (.cons (JS 16 (Jc 75 [.t 5,.t 8,.t 15])) (.cons (JS 4 (Jm 16)) .nil))))])),(.cons (JS 15 (.bslv 22 1 [.t 14])) (.cons (JF 7 (.ia 1 (.t 6) (.k (Jz 0)))) (.cons (JF 8 (Jl 7)) (.cons (JS 16 (Jc 75 [.t 5,.t 8,.t 15])) (.cons (JS 4 (Jm 16)) .nil)))))])),(.cons (JF 7 (.ia 1 (.t 6) (.k (Jz 0)))) (.br [(.cons (JF 5 (Jm 0)) (.br [(.cons (JF 8 (Jl 7)) (.cons (JS 15 (.bslv 22 1 [.t 14])) (.cons (JS 16 (Jc 75 [.t 5,.t 8,.t 15])) (.cons (JS 4 (Jm 16)) .nil)))),(.cons (JS 15 (.bslv 22 1 [.t 14])) (.cons (JF 8 (Jl 7)) (.cons (JS 16 (Jc 75 [.t 5,.t 8,.t 15])) (.cons (JS 4 (Jm 16)) .nil))))])),(.cons (JF 8 (Jl 7)) (.br [(.cons (JF 5 (Jm 0)) (.cons (JS 15 (.bslv 22 1 [.t 14])) (.cons (JS 16 (Jc 75 [.t 5,.t 8,.t 15])) (.cons (JS 4 (Jm 16)) .nil)))),(.cons (JS 15 (.bslv 22 1 [.t 14])) (.cons (JF 5 (Jm 0)) (.cons (JS 16 (Jc 75 [.t 5,.t 8,.t 15])) (.cons (JS 4 (Jm 16)) .nil))))])),(.cons (JS 15 (.bslv 22 1 [.t 14])) (.cons (JF 5 (Jm 0)) (.cons (JF 8 (Jl 7)) (.cons (JS 16 (Jc 75 [.t 5,.t 8,.t 15])) (.cons (JS 4 (Jm 16)) .nil)))))])),(.cons (JS 15 (.bslv 22 1 [.t 14])) (.cons (JF 5 (Jm 0)) (.cons (JF 7 (.ia 1 (.t 6) (.k (Jz 0)))) (.cons (JF 8 (Jl 7)) (.cons (JS 16 (Jc 75 [.t 5,.t 8,.t 15])) (.cons (JS 4 (Jm 16)) .nil))))))])),(.cons (JS 15 (.bslv 22 1 [.t 14])) (.cons (JF 5 (Jm 0)) (.cons (JF 6 (Jm 1)) (.cons (JF 7 (.ia 1 (.t 6) (.k (Jz 0)))) (.cons (JF 8 (Jl 7)) (.cons (JS 16 (Jc 75 [.t 5,.t 8,.t 15])) (.cons (JS 4 (Jm 16)) .nil)))))))])))))))
abbrev v74_2:VC:=(.seq (.drw t74_1) .ret)
def ir74:FC:=⟨2,17,[.t 4],(.seq (.ops o74_0) v74_2)⟩
theorem c74:compM Tryz.prog [100015] 74 = some ir74:=by kernel_rfl
attribute [local go_sem] Nat.reduceEqDiff Nat.reduceAdd Nat.reduceMul reduceIte Nat.reduceLeDiff Nat.reduceLT Nat.reduceBEq reduceCtorEq
def coinPost (b:Bar) (cap j:Nat) (o:Option Bar) (r:AV) (l':List Ob):Prop :=
 match o with
 | none => r = .c (.bool false) ∧ l' = [.box (b.avsF (.vw 1 1001 0 b.box.fo.length cap)),.box (cellsG zc b.box.fo j)]
 | some b' => r = .c (.bool true) ∧ l' = [.box (b'.avsF (.vw 1 1001 0 b.box.fo.length cap)),.box (cellsG zc b'.box.fo j)]
theorem coin74 {b:Bar} (hb:BarLn b) (hB:barB b = true) (kind:Int) {cap j:Nat} (hg:fGood b cap j):FSpecL Tryz.prog 74 [.bp 1000 0,.c (ints [kind])] [.box (b.avsF (.vw 1 1001 0 b.box.fo.length cap)),.box (cellsG zc b.box.fo j)] [] (coinPost b cap j (coinB b kind)):=by
 have hput:=put75 hb hB kind hg
 refine FSpecL_of c74 (by first | simp | exact Nat.le_of_ble_eq_true rfl) (Nat.le_refl _) (by decide) (by decide) fun C hP hN hC hL => ?_; rw [init_env',ownW_upd (by first | simp | exact Nat.le_of_ble_eq_true rfl)]; simp only [ir74,updL,updLo,List.map_nil,List.map_cons,Nat.reduceAdd,]
 simp only [Bar.avsF]
 (repeat ((first | refine Va ?_ | refine Vb ?_ | refine Vc ?_ | refine Vd ?_ | refine Ve ?_ | refine Vf ?_); (try simp only [go_sem,hP]); (repeat refine qJ ?_)))
 refine WV_drw ?_
 simp only [go_sem,hP]
 (repeat' (refine And.intro ?_ ?_))
 all_goals (first | exact Int.le_refl 0 | rfl | exact Int.one_pos | exact Nat.one_pos | skip)
 all_goals (
  refine AS_lend [1000,1001,15] hput rfl rfl rfl (by decide) rfl (by simp only [go_sem,obsLend,Ob.lend,AV.lend,AV.lendL,lend_cellsG,Bar.avsF]; first | done | rfl) ?_
  intro r l' hp
  unfold putPost at hp
  cases hc:coinB b kind with
  | none =>
   rw [hc] at hp
   obtain ⟨rfl,rfl⟩:=hp
   refine ⟨_,_,rfl,(by unfold Bar.avsF; simp only [obsBack,Ob.back,AV.back,AV.backL,back_cellsG]; rfl),?_⟩
   simp only [go_sem,hP,ownBack]
   (repeat ((first | refine Va ?_ | refine Vb ?_ | refine Vc ?_ | refine Vd ?_ | refine Ve ?_ | refine Vf ?_); (try simp only [go_sem,hP]); (repeat refine qJ ?_)))
   (refine WV_ret ?_; simp only [thenQ,inQ,RetQL,RetOkL,resAll,resA]; simp only [go_sem,tupA,AV.keepP,AV.keepPL]; refine ⟨_,[.box (b.avsF (.vw 1 1001 0 b.box.fo.length cap)),.box (cellsG zc b.box.fo j)],rfl,KeepL_mk rfl rfl ?_ ?_ rfl,?_⟩)
   ·unfold Bar.avsF
    simp only [go_sem,keepAll,Ob.keepP,AV.keepP,AV.keepPL,ints,keep_cellsG]
   ·trivial
   ·exact ⟨rfl,rfl⟩
  | some b' =>
   rw [hc] at hp
   obtain ⟨rfl,rfl⟩:=hp
   refine ⟨_,_,rfl,(by unfold Bar.avsF; simp only [obsBack,Ob.back,AV.back,AV.backL,back_cellsG]; rfl),?_⟩
   simp only [go_sem,hP,ownBack]
   (repeat ((first | refine Va ?_ | refine Vb ?_ | refine Vc ?_ | refine Vd ?_ | refine Ve ?_ | refine Vf ?_); (try simp only [go_sem,hP]); (repeat refine qJ ?_)))
   (refine WV_ret ?_; simp only [thenQ,inQ,RetQL,RetOkL,resAll,resA]; simp only [go_sem,tupA,AV.keepP,AV.keepPL]; refine ⟨_,[.box (b'.avsF (.vw 1 1001 0 b.box.fo.length cap)),.box (cellsG zc b'.box.fo j)],rfl,KeepL_mk rfl rfl ?_ ?_ rfl,?_⟩)
   ·unfold Bar.avsF
    simp only [go_sem,keepAll,Ob.keepP,AV.keepP,AV.keepPL,ints,keep_cellsG]
   ·trivial
   ·exact ⟨rfl,rfl⟩)
end Go.Proofs.YtefoconkepmmgaaGreatDoor

namespace Go.Proofs.YtefoconkepmmgaaGreatDoor
open Go Go.V
variable {tb:Obj}
abbrev o27_0:List Ins:=[JS 4 (.mv (.k (.c (.str []))))]
abbrev o27_1:List Ins:=[JS 12 (Jm 1),JS 13 (Jc 53 [.t 12]),JS 11 (Jm 13),JS 14 (Je 11 0),JS 15 (Je 11 1),JS 16 (Je 11 2),JS 5 (.alloc [Jz 0,(.c (.raw .nilIface))]),JN (Js 2 5 14),JS 6 (Jm 15),JS 7 (Jm 16)]
abbrev o27_2:List Ins:=[JS 17 (Jm 7),JS 18 (.un .not (.t 17))]
abbrev o27_3:List Ins:=[JS 4 (.mv (.k (.c (.str [119,104,97,116]))))]
abbrev v27_4:VC:=(.seq (.ops o27_3) .ret)
abbrev v27_5:VC:=(.cond (.t 18) v27_4 .skip)
abbrev o27_6:List Ins:=[JS 19 (Jm 0),JS 20 (.nilc (.t 19)),JS 21 (Jf 0 20),JS 22 (JL 15 21),JS 23 (Jc 26 [.t 22]),JS 24 (.bld [Jz 0,J0,J0,J0,J0,J0,Jz 0,Jz 0,Jz 0,Jz 0,J0,Jz 0,Jz 0,Jz 0,J0] [(0,15,(.t 23))]),JS 8 (.alloc [Jz 0,J0,J0,J0,J0,J0,Jz 0,Jz 0,Jz 0,Jz 0,J0,Jz 0,Jz 0,Jz 0,J0]),JN (Js 15 8 24)]
abbrev o27_7:List Ins:=[JS 25 (Jf 1 5),JS 26 (Jl 25)]
abbrev o27_8:List Ins:=[JS 27 (.raw (.typeAssert (.tmp 26) 20 99 true)),JS 28 (Je 27 1),JS 29 (Je 27 0)]
abbrev o27_9:List Ins:=[JS 9 (Jm 29)]
abbrev o27_10:List Ins:=[JS 30 (Jm 9),JS 31 (Jm 0),JS 32 (Jm 6),JS 33 (.call (.t 30) [.t 31,.t 32]),JS 34 (Je 33 0),JS 35 (Je 33 1),JS 36 (Jc 54 [.t 34,.t 35]),JS 4 (Jm 36)]
abbrev v27_11:VC:=(.seq (.ops o27_10) .ret)
abbrev v27_12:VC:=(.seq (.ops o27_9) v27_11)
abbrev o27_13:List Ins:=[JS 37 (.raw (.typeAssert (.tmp 26) 20 103 true)),JS 38 (Je 37 1),JS 39 (Je 37 0)]
abbrev o27_14:List Ins:=[JS 10 (Jm 39)]
abbrev o27_15:List Ins:=[JS 40 (Jm 10),JS 41 (Jm 6),JS 42 (.call (.t 40) [.t 8,.t 41]),JS 43 (.un .not (.t 42)),JS 44 (Jm 43),JG 45 (Jf 0 8) 44 false,JG 46 (JL 15 45) 44 false,JG 47 (Jc 25 [.t 46]) 44 false,JG 48 (Jk .neq 47 0) 44 false,JS 49 (Jo 44 48)]
abbrev o27_16:List Ins:=[JS 4 (.mv (.k (.c (.str [110,111]))))]
abbrev v27_17:VC:=(.seq (.ops o27_16) .ret)
abbrev v27_18:VC:=(.cond (.t 49) v27_17 .skip)
abbrev v27_19:VC:=(.seq (.ops o27_15) v27_18)
abbrev v27_20:VC:=(.seq (.ops o27_14) v27_19)
abbrev v27_21:VC:=(.cond (.t 38) v27_20 .skip)
abbrev v27_22:VC:=(.seq (.ops o27_13) v27_21)
abbrev v27_23:VC:=(.cond (.t 28) v27_12 v27_22)
abbrev v27_24:VC:=(.seq (.ops o27_8) v27_23)
abbrev v27_25:VC:=(.block 0 v27_24)
abbrev o27_26:List Ins:=[JS 50 (Jm 0),JS 51 (JL 15 8),JS 52 (.nilc (.t 50)),JN (Js 15 52 51)]
abbrev o27_27:List Ins:=[JS 4 (.mv (.k (.c (.str [121,101,115]))))]
abbrev v27_28:VC:=(.seq (.ops o27_27) .ret)
abbrev v27_29:VC:=(.seq (.ops o27_26) v27_28)
abbrev v27_30:VC:=(.seq (.seq (.ops o27_7) v27_25) v27_29)
abbrev v27_31:VC:=(.seq (.ops o27_6) v27_30)
abbrev v27_32:VC:=(.seq (.seq (.ops o27_2) v27_5) v27_31)
abbrev v27_33:VC:=(.seq (.ops o27_1) v27_32)
def ir27:FC:=⟨2,53,[.t 4],(.seq (.ops o27_0) v27_33)⟩
theorem c27:compM Tryz.prog [] 27 = some ir27:=by kernel_rfl
attribute [local go_sem] Nat.reduceEqDiff Nat.reduceAdd Nat.reduceMul reduceIte Nat.reduceLeDiff Nat.reduceLT Nat.reduceBEq reduceCtorEq
def lineS (A:List UInt8 → Bar → List Int → List Int × Int) (G:List UInt8 → Bar → List Int → Option Bar) (b:Bar) (s:List UInt8):List UInt8 × Bar :=
 match parseS s with
 | none => (whatS,b)
 | some (w,ns) => match wLook w with
  | none => (whatS,b)
  | some e => if e.t = 99 then (ansS (A w b ns).1 (A w b ns).2,b) else match G w b ns with
   | none => (noS,b)
   | some b' => if barB b' then (yesS,b') else (noS,b)
def LineC (tb:Obj) (b:Bar) (s:List UInt8) (x:List UInt8 × Bar):Prop:=FSpecL Tryz.prog 27 [.bp 1000 0,.c (.str s)] [.box b.avs,(tabO tb)] [] (fun r l' => r = .c (.str x.1) ∧ l' = [.box x.2.avs,(tabO tb)])
theorem lineAsk0 {b:Bar} (hb:BarLn b) {s w:List UInt8} {ns:List Int} (hs:s.length ≤ 1000) (hp:parseS s = some (w,ns)) {m:Int} {f:Nat} (hw:wLook w = some ⟨m,99,f,none⟩) {l:List Int} {er:Int} (hl:l.length ≤ 10000) (hr:∀ n ∈ l,i64 n)
  (hf:FSpecL Tryz.prog f [.bp 1000 0,.c (ints ns)] [.box b.avs] [] (fun r l' => r = .tup [.c (ints l),iv er] ∧ l' = [.box b.avs])):LineC tb b s (ansS l er,b):=by
 have hcp:=copied26 hb
 simp only [Bar.av,Bar.avs,Bar.avsP] at hcp
 unfold LineC
 refine FSpecL_of c27 (by first | simp | exact Nat.le_of_ble_eq_true rfl) (Nat.le_refl _) (by decide) (by decide) fun C hP hN hC hL => ?_; rw [init_env',ownW_upd (by first | simp | exact Nat.le_of_ble_eq_true rfl)]; simp only [ir27,updL,updLo,List.map_nil,List.map_cons,Nat.reduceAdd,]
 simp only [Bar.avs]
 (repeat ((first | refine Va ?_ | refine Vb ?_ | refine Vc ?_ | refine Vd ?_ | refine Ve ?_ | refine Vf ?_); (try simp only [go_sem,hP]); (repeat refine qJ ?_)))
 refine AS_new (parse53 hs) rfl rfl rfl rfl ?_
 intro r os h
 unfold parsePost at h
 rw [hp] at h
 obtain ⟨q,e,he,rfl,rfl⟩:=h
 rw [hw] at he
 cases he
 refine ⟨[101,102,103,104,105,106,107,108],_,_,by simp,rfl,rfl,rfl,rfl,?_⟩
 simp only [go_sem,hP,ownBack]
 (repeat refine qJ ?_)
 (repeat ((first | refine Va ?_ | refine Vb ?_ | refine Vc ?_ | refine Vd ?_ | refine Ve ?_ | refine Vf ?_); (try simp only [go_sem,hP]); (repeat refine qJ ?_)))
 (refine WV_cond rfl (fun h => ?_) (fun h => ?_))
 ·cases h
 ·clear h
  (repeat ((first | refine Va ?_ | refine Vb ?_ | refine Vc ?_ | refine Vd ?_ | refine Ve ?_ | refine Vf ?_); (try simp only [go_sem,hP]); (repeat refine qJ ?_)))
  refine AS_new hcp rfl rfl rfl rfl ?_
  rintro r os ⟨rfl,rfl⟩
  refine ⟨[110],_,_,by simp,rfl,rfl,rfl,rfl,?_⟩
  simp only [go_sem,hP,ownBack]
  (repeat refine qJ ?_)
  (repeat ((first | refine Va ?_ | refine Vb ?_ | refine Vc ?_ | refine Vd ?_ | refine Ve ?_ | refine Vf ?_); (try simp only [go_sem,hP]); (repeat refine qJ ?_)))
  refine raw_taY (t:=99) (x':=.t 26) (u:=fnV f []) (vr:=.fn f []) (by kernel_rfl) rfl rfl rfl (fun w M loc => fn0_rep w M loc f) ?_
  simp only [go_sem,hP]
  (repeat ((first | refine Va ?_ | refine Vb ?_ | refine Vc ?_ | refine Vd ?_ | refine Ve ?_ | refine Vf ?_); (try simp only [go_sem,hP]); (repeat refine qJ ?_)))
  (refine WV_cond rfl (fun h => ?_) (fun h => ?_))
  ·(repeat ((first | refine Va ?_ | refine Vb ?_ | refine Vc ?_ | refine Vd ?_ | refine Ve ?_ | refine Vf ?_); (try simp only [go_sem,hP]); (repeat refine qJ ?_)))
   refine AS_lend [1000] hf rfl rfl rfl (by decide) rfl (by unfold Bar.avs; simp only [go_sem,obsLend,Ob.lend,AV.lend,AV.lendL]; first | done | rfl) ?_
   rintro r l' ⟨rfl,rfl⟩
   refine ⟨_,_,rfl,(by unfold Bar.avs; simp only [obsBack,Ob.back,AV.back,AV.backL]; rfl),?_⟩
   simp only [go_sem,hP,ownBack]
   (repeat refine qJ ?_)
   (repeat ((first | refine Va ?_ | refine Vb ?_ | refine Vc ?_ | refine Vd ?_ | refine Ve ?_ | refine Vf ?_); (try simp only [go_sem,hP]); (repeat refine qJ ?_)))
   refine AS_lend [1001] (answer54 hl hr er) rfl rfl rfl (by decide) rfl rfl ?_
   rintro r l' ⟨rfl,rfl⟩
   refine ⟨_,_,rfl,rfl,?_⟩
   simp only [go_sem,hP,ownBack]
   (repeat refine qJ ?_)
   (repeat ((first | refine Va ?_ | refine Vb ?_ | refine Vc ?_ | refine Vd ?_ | refine Ve ?_ | refine Vf ?_); (try simp only [go_sem,hP]); (repeat refine qJ ?_)))
   (refine WV_ret ?_; simp only [thenQ,inQ,RetQL,RetOkL,resAll,resA]; simp only [go_sem,tupA,AV.keepP,AV.keepPL]; refine ⟨_,[.box b.avs,(tabO tb)],rfl,KeepL_mk rfl rfl ?_ ?_ rfl,?_⟩)
   ·unfold Bar.avs
    simp only [go_sem,keepAll,Ob.keepP,AV.keepP,AV.keepPL]
   ·trivial
   ·exact ⟨rfl,rfl⟩
  ·cases h
def boxF:List Nat:=[87,88,91,94,96,97,98,99]
theorem lineAsk1 {b:Bar} (hb:BarLn b) {s w:List UInt8} {ns:List Int} (hs:s.length ≤ 1000) (hp:parseS s = some (w,ns)) {m:Int} {f i:Nat} (hi:i < 8) (hw:wLook w = some ⟨m,99,f,some i⟩) {l:List Int} {er:Int} (hl:l.length ≤ 10000) (hr:∀ n ∈ l,i64 n)
  (hf:∀ q:Nat,FSpecL Tryz.prog f [.bp 1000 0,.c (ints ns),.c (.raw (ptrV q 0))] [.box b.avs,vbox (fnV (boxF.getD i 0) []) q] [] (fun r l' => r = .tup [.c (ints l),iv er] ∧ l' = [.box b.avs,vbox (fnV (boxF.getD i 0) []) q])):LineC tb b s (ansS l er,b):=by
 have hcp:=copied26 hb
 simp only [Bar.av,Bar.avs,Bar.avsP] at hcp
 unfold LineC
 refine FSpecL_of c27 (by first | simp | exact Nat.le_of_ble_eq_true rfl) (Nat.le_refl _) (by decide) (by decide) fun C hP hN hC hL => ?_; rw [init_env',ownW_upd (by first | simp | exact Nat.le_of_ble_eq_true rfl)]; simp only [ir27,updL,updLo,List.map_nil,List.map_cons,Nat.reduceAdd,]
 simp only [Bar.avs]
 (repeat ((first | refine Va ?_ | refine Vb ?_ | refine Vc ?_ | refine Vd ?_ | refine Ve ?_ | refine Vf ?_); (try simp only [go_sem,hP]); (repeat refine qJ ?_)))
 refine AS_new (parse53 hs) rfl rfl rfl rfl ?_
 intro r os h
 unfold parsePost at h
 rw [hp] at h
 obtain ⟨q,e,he,rfl,rfl⟩:=h
 rw [hw] at he
 cases he
 refine ⟨[101,102,103,104,105,106,107,108],_,_,by simp,rfl,rfl,rfl,rfl,?_⟩
 simp only [go_sem,hP,ownBack]
 (repeat refine qJ ?_)
 (repeat ((first | refine Va ?_ | refine Vb ?_ | refine Vc ?_ | refine Vd ?_ | refine Ve ?_ | refine Vf ?_); (try simp only [go_sem,hP]); (repeat refine qJ ?_)))
 (refine WV_cond rfl (fun h => ?_) (fun h => ?_))
 ·cases h
 ·clear h
  (repeat ((first | refine Va ?_ | refine Vb ?_ | refine Vc ?_ | refine Vd ?_ | refine Ve ?_ | refine Vf ?_); (try simp only [go_sem,hP]); (repeat refine qJ ?_)))
  refine AS_new hcp rfl rfl rfl rfl ?_
  rintro r os ⟨rfl,rfl⟩
  refine ⟨[110],_,_,by simp,rfl,rfl,rfl,rfl,?_⟩
  simp only [go_sem,hP,ownBack]
  (repeat refine qJ ?_)
  (repeat ((first | refine Va ?_ | refine Vb ?_ | refine Vc ?_ | refine Vd ?_ | refine Ve ?_ | refine Vf ?_); (try simp only [go_sem,hP]); (repeat refine qJ ?_)))
  refine raw_taY (t:=99) (x':=.t 26) (u:=fnV f [ptrV (q i) 0]) (vr:=.fn f [.c (.raw (ptrV (q i) 0))]) (by kernel_rfl) rfl rfl rfl (fun w M loc => fn1_rep w M loc f rfl) ?_
  simp only [go_sem,hP]
  (repeat ((first | refine Va ?_ | refine Vb ?_ | refine Vc ?_ | refine Vd ?_ | refine Ve ?_ | refine Vf ?_); (try simp only [go_sem,hP]); (repeat refine qJ ?_)))
  (refine WV_cond rfl (fun h => ?_) (fun h => ?_))
  ·(repeat ((first | refine Va ?_ | refine Vb ?_ | refine Vc ?_ | refine Vd ?_ | refine Ve ?_ | refine Vf ?_); (try simp only [go_sem,hP]); (repeat refine qJ ?_)))
   have hfi:=hf (q i)
   have hc:i = 0 ∨ i = 1 ∨ i = 2 ∨ i = 3 ∨ i = 4 ∨ i = 5 ∨ i = 6 ∨ i = 7:=by omega
   unfold Bar.avs at hfi
   rcases hc with rfl | rfl | rfl | rfl | rfl | rfl | rfl | rfl
   all_goals (
    first | refine AS_lend [1000,101] hfi rfl rfl rfl (by decide) rfl (by simp only [go_sem,obsLend,Ob.lend,AV.lend,AV.lendL]; first | done | rfl) ?_ | refine AS_lend [1000,102] hfi rfl rfl rfl (by decide) rfl (by simp only [go_sem,obsLend,Ob.lend,AV.lend,AV.lendL]; first | done | rfl) ?_ | refine AS_lend [1000,103] hfi rfl rfl rfl (by decide) rfl (by simp only [go_sem,obsLend,Ob.lend,AV.lend,AV.lendL]; first | done | rfl) ?_ | refine AS_lend [1000,104] hfi rfl rfl rfl (by decide) rfl (by simp only [go_sem,obsLend,Ob.lend,AV.lend,AV.lendL]; first | done | rfl) ?_ | refine AS_lend [1000,105] hfi rfl rfl rfl (by decide) rfl (by simp only [go_sem,obsLend,Ob.lend,AV.lend,AV.lendL]; first | done | rfl) ?_ | refine AS_lend [1000,106] hfi rfl rfl rfl (by decide) rfl (by simp only [go_sem,obsLend,Ob.lend,AV.lend,AV.lendL]; first | done | rfl) ?_ | refine AS_lend [1000,107] hfi rfl rfl rfl (by decide) rfl (by simp only [go_sem,obsLend,Ob.lend,AV.lend,AV.lendL]; first | done | rfl) ?_ | refine AS_lend [1000,108] hfi rfl rfl rfl (by decide) rfl (by simp only [go_sem,obsLend,Ob.lend,AV.lend,AV.lendL]; first | done | rfl) ?_
    rintro r l' ⟨rfl,rfl⟩
    refine ⟨_,_,rfl,(by simp only [obsBack,Ob.back,AV.back,AV.backL]; rfl),?_⟩
    simp only [go_sem,hP,ownBack]
    (repeat refine qJ ?_)
    (repeat ((first | refine Va ?_ | refine Vb ?_ | refine Vc ?_ | refine Vd ?_ | refine Ve ?_ | refine Vf ?_); (try simp only [go_sem,hP]); (repeat refine qJ ?_)))
    refine AS_lend [1001] (answer54 hl hr er) rfl rfl rfl (by decide) rfl rfl ?_
    rintro r l' ⟨rfl,rfl⟩
    refine ⟨_,_,rfl,rfl,?_⟩
    simp only [go_sem,hP,ownBack]
    (repeat refine qJ ?_)
    (repeat ((first | refine Va ?_ | refine Vb ?_ | refine Vc ?_ | refine Vd ?_ | refine Ve ?_ | refine Vf ?_); (try simp only [go_sem,hP]); (repeat refine qJ ?_)))
    (refine WV_ret ?_; simp only [thenQ,inQ,RetQL,RetOkL,resAll,resA]; simp only [go_sem,tupA,AV.keepP,AV.keepPL]; refine ⟨_,[.box b.avs,(tabO tb)],rfl,KeepL_mk rfl rfl ?_ ?_ rfl,?_⟩)
    ·unfold Bar.avs
     simp only [go_sem,keepAll,Ob.keepP,AV.keepP,AV.keepPL]
    ·trivial
    ·exact ⟨rfl,rfl⟩)
  ·cases h
end Go.Proofs.YtefoconkepmmgaaGreatDoor

namespace Go.Proofs.YtefoconkepmmgaaGreatDoor
open Go Go.V
variable {tb:Obj}
attribute [local go_sem] Nat.reduceEqDiff Nat.reduceAdd Nat.reduceMul reduceIte Nat.reduceLeDiff Nat.reduceLT Nat.reduceBEq reduceCtorEq
def pressS:List UInt8:=[112,114,101,115,115]
def coinS:List UInt8:=[99,111,105,110]
def chgS (b:Bar):Option Bar → List UInt8 × Bar
 | none => (noS,b)
 | some b' => if barB b' then (yesS,b') else (noS,b)
theorem linePress {b:Bar} (hb:BarLn b) {s:List UInt8} {x y:Int} (hs:s.length ≤ 1000) (hp:parseS s = some (pressS,[x,y])):LineC tb b s (chgS b (pressB b x y)):=by
 have hw:wLook pressS = some ⟨2,103,78,none⟩:=rfl
 have hcp:=copied26 hb
 simp only [Bar.av,Bar.avs,Bar.avsP] at hcp
 have hps:=press78 hb x y
 unfold LineC
 refine FSpecL_of c27 (by first | simp | exact Nat.le_of_ble_eq_true rfl) (Nat.le_refl _) (by decide) (by decide) fun C hP hN hC hL => ?_; rw [init_env',ownW_upd (by first | simp | exact Nat.le_of_ble_eq_true rfl)]; simp only [ir27,updL,updLo,List.map_nil,List.map_cons,Nat.reduceAdd,]
 simp only [Bar.avs]
 (repeat ((first | refine Va ?_ | refine Vb ?_ | refine Vc ?_ | refine Vd ?_ | refine Ve ?_ | refine Vf ?_); (try simp only [go_sem,hP]); (repeat refine qJ ?_)))
 refine AS_new (parse53 hs) rfl rfl rfl rfl ?_
 intro r os h
 unfold parsePost at h
 rw [hp] at h
 obtain ⟨q,e,he,rfl,rfl⟩:=h
 rw [hw] at he
 cases he
 refine ⟨[101,102,103,104,105,106,107,108],_,_,by simp,rfl,rfl,rfl,rfl,?_⟩
 simp only [go_sem,hP,ownBack]
 (repeat refine qJ ?_)
 (repeat ((first | refine Va ?_ | refine Vb ?_ | refine Vc ?_ | refine Vd ?_ | refine Ve ?_ | refine Vf ?_); (try simp only [go_sem,hP]); (repeat refine qJ ?_)))
 (refine WV_cond rfl (fun h => ?_) (fun h => ?_))
 ·cases h
 ·clear h
  (repeat ((first | refine Va ?_ | refine Vb ?_ | refine Vc ?_ | refine Vd ?_ | refine Ve ?_ | refine Vf ?_); (try simp only [go_sem,hP]); (repeat refine qJ ?_)))
  refine AS_new hcp rfl rfl rfl rfl ?_
  rintro r os ⟨rfl,rfl⟩
  refine ⟨[110],_,_,by simp,rfl,rfl,rfl,rfl,?_⟩
  simp only [go_sem,hP,ownBack]
  (repeat refine qJ ?_)
  (repeat ((first | refine Va ?_ | refine Vb ?_ | refine Vc ?_ | refine Vd ?_ | refine Ve ?_ | refine Vf ?_); (try simp only [go_sem,hP]); (repeat refine qJ ?_)))
  refine raw_taN (t:=99) (t':=103) (z:=.nilFunc) (x':=.t 26) (u:=fnV 78 []) (vr:=.c (.raw .nilFunc)) (by decide) (by kernel_rfl) (by kernel_rfl) rfl rfl rfl (fun w M loc => by simp only [RepA,RepC]; exact ⟨trivial,rfl⟩) ?_
  simp only [go_sem,hP]
  (repeat ((first | refine Va ?_ | refine Vb ?_ | refine Vc ?_ | refine Vd ?_ | refine Ve ?_ | refine Vf ?_); (try simp only [go_sem,hP]); (repeat refine qJ ?_)))
  (refine WV_cond rfl (fun h => ?_) (fun h => ?_))
  ·cases h
  ·clear h
   (repeat ((first | refine Va ?_ | refine Vb ?_ | refine Vc ?_ | refine Vd ?_ | refine Ve ?_ | refine Vf ?_); (try simp only [go_sem,hP]); (repeat refine qJ ?_)))
   refine raw_taY (t:=103) (x':=.t 26) (u:=fnV 78 []) (vr:=.fn 78 []) (by kernel_rfl) rfl rfl rfl (fun w M loc => fn0_rep w M loc 78) ?_
   simp only [go_sem,hP]
   (repeat ((first | refine Va ?_ | refine Vb ?_ | refine Vc ?_ | refine Vd ?_ | refine Ve ?_ | refine Vf ?_); (try simp only [go_sem,hP]); (repeat refine qJ ?_)))
   (refine WV_cond rfl (fun h => ?_) (fun h => ?_))
   ·(repeat ((first | refine Va ?_ | refine Vb ?_ | refine Vc ?_ | refine Vd ?_ | refine Ve ?_ | refine Vf ?_); (try simp only [go_sem,hP]); (repeat refine qJ ?_)))
    refine AS_lend [8,110] hps rfl rfl rfl (by decide) rfl (by unfold Bar.avsP; simp only [go_sem,obsLend,Ob.lend,AV.lend,AV.lendL]; first | done | rfl) ?_
    intro r l' h
    unfold chgPost at h
    cases hq:pressB b x y with
    | none =>
     rw [hq] at h
     obtain ⟨rfl,rfl⟩:=h
     refine ⟨_,_,rfl,(by unfold Bar.avsP; simp only [obsBack,Ob.back,AV.back,AV.backL]; rfl),?_⟩
     simp only [go_sem,hP,ownBack]
     (repeat refine qJ ?_)
     (repeat ((first | refine Va ?_ | refine Vb ?_ | refine Vc ?_ | refine Vd ?_ | refine Ve ?_ | refine Vf ?_); (try simp only [go_sem,hP]); (repeat refine qJ ?_)))
     (refine AG_skip ?_; simp only [go_sem,hP]; (repeat refine qJ ?_); (repeat ((first | refine Va ?_ | refine Vb ?_ | refine Vc ?_ | refine Vd ?_ | refine Ve ?_ | refine Vf ?_); (try simp only [go_sem,hP]); (repeat refine qJ ?_))))
     (refine WV_cond rfl (fun h => ?_) (fun h => ?_))
     ·(repeat ((first | refine Va ?_ | refine Vb ?_ | refine Vc ?_ | refine Vd ?_ | refine Ve ?_ | refine Vf ?_); (try simp only [go_sem,hP]); (repeat refine qJ ?_)))
      (refine WV_ret ?_; simp only [thenQ,inQ,RetQL,RetOkL,resAll,resA]; simp only [go_sem,tupA,AV.keepP,AV.keepPL]; refine ⟨_,[.box b.avs,(tabO tb)],rfl,KeepL_mk rfl rfl ?_ ?_ rfl,?_⟩)
      ·unfold Bar.avs
       simp only [go_sem,keepAll,Ob.keepP,AV.keepP,AV.keepPL]
      ·trivial
      ·exact ⟨rfl,rfl⟩
     ·cases h
    | some b' =>
     rw [hq] at h
     obtain ⟨rfl,rfl⟩:=h
     refine ⟨_,_,rfl,(by unfold Bar.avsP; simp only [obsBack,Ob.back,AV.back,AV.backL]; rfl),?_⟩
     simp only [go_sem,hP,ownBack]
     (repeat refine qJ ?_)
     (repeat ((first | refine Va ?_ | refine Vb ?_ | refine Vc ?_ | refine Vd ?_ | refine Ve ?_ | refine Vf ?_); (try simp only [go_sem,hP]); (repeat refine qJ ?_)))
     have hck:=check25 b'
     simp only [Bar.av,Bar.avs] at hck
     (refine AG_pu (fun hG => hck) ?_; simp only [go_sem,hP]; (repeat refine qJ ?_); (repeat ((first | refine Va ?_ | refine Vb ?_ | refine Vc ?_ | refine Vd ?_ | refine Ve ?_ | refine Vf ?_); (try simp only [go_sem,hP]); (repeat refine qJ ?_))))
     cases hB:barB b' with
     | true =>
      have he:barE b' = 0:=by unfold barE; rw [if_pos hB]
      have hx:chgS b (some b') = (yesS,b'):=by unfold chgS; simp only [hB,if_true]
      rw [he,hx]
      (refine WV_cond rfl (fun h => ?_) (fun h => ?_))
      ·cases h
      ·(repeat ((first | refine Va ?_ | refine Vb ?_ | refine Vc ?_ | refine Vd ?_ | refine Ve ?_ | refine Vf ?_); (try simp only [go_sem,hP]); (repeat refine qJ ?_)))
       (refine WV_ret ?_; simp only [thenQ,inQ,RetQL,RetOkL,resAll,resA]; simp only [go_sem,tupA,AV.keepP,AV.keepPL]; refine ⟨_,[.box b'.avs,(tabO tb)],rfl,KeepL_mk rfl rfl ?_ ?_ rfl,?_⟩)
       ·unfold Bar.avs
        simp only [go_sem,keepAll,Ob.keepP,AV.keepP,AV.keepPL]
        rfl
       ·trivial
       ·exact ⟨rfl,rfl⟩
     | false =>
      have he:barE b' = 120:=by unfold barE; rw [hB]; rfl
      have hx:chgS b (some b') = (noS,b):=by unfold chgS; simp only [hB]; rfl
      rw [he,hx]
      (refine WV_cond rfl (fun h => ?_) (fun h => ?_))
      ·(repeat ((first | refine Va ?_ | refine Vb ?_ | refine Vc ?_ | refine Vd ?_ | refine Ve ?_ | refine Vf ?_); (try simp only [go_sem,hP]); (repeat refine qJ ?_)))
       (refine WV_ret ?_; simp only [thenQ,inQ,RetQL,RetOkL,resAll,resA]; simp only [go_sem,tupA,AV.keepP,AV.keepPL]; refine ⟨_,[.box b.avs,(tabO tb)],rfl,KeepL_mk rfl rfl ?_ ?_ rfl,?_⟩)
       ·unfold Bar.avs
        simp only [go_sem,keepAll,Ob.keepP,AV.keepP,AV.keepPL]
       ·trivial
       ·exact ⟨rfl,rfl⟩
      ·cases h
   ·cases h
end Go.Proofs.YtefoconkepmmgaaGreatDoor

namespace Go.Proofs.YtefoconkepmmgaaGreatDoor
open Go Go.V
variable {tb:Obj}
attribute [local go_sem] Nat.reduceEqDiff Nat.reduceAdd Nat.reduceMul reduceIte Nat.reduceLeDiff Nat.reduceLT Nat.reduceBEq reduceCtorEq
theorem SOps_frzJ {C:Ctx} {is:List Ins} {K:St → Prop} {env:Nat → AV} {own:Nat → Ob} (n:Nat) {ds:List CD} {junk:List AV} (hb:own n = .box (ds.map .c ++ junk)) (h:SOps C is K ⟨frzE n ds env,frzO n ds own⟩):SOps C is K ⟨env,own⟩:=SOps_weak (Sub_freezeJ n ds junk hb C) h
theorem flat_len (l:List Int):(flatG zc l).length = l.length:=zc_len l
theorem flat_grp (l:List Int):CD.sl 1 (grp 1 l.length (List.take l.length (flatG zc l))) = ints l:=by
 have h2:=grp_cellsG (cds:=zc) (m:=1) (fun _ => rfl) l
 rw [Nat.mul_one] at h2
 rw [h2]
 rfl
theorem coin_len {b b':Bar} {x:Int} (h:coinB b x = some b'):b'.box.fo.length = b.box.fo.length:=by
 unfold coinB at h
 split at h
 ·cases h; simp
 ·cases h
theorem lineCoin {b:Bar} (hb:BarLn b) (hB0:barB b = true) (hne:b.box.fo ≠ []) {s:List UInt8} {x:Int} (hs:s.length ≤ 1000) (hp:parseS s = some (coinS,[x])):LineC tb b s (chgS b (coinB b x)):=by
 have hw:wLook coinS = some ⟨1,103,74,none⟩:=rfl
 have hcp:=copiedF hb hne
 simp only [Bar.av,Bar.avs,Bar.avsF] at hcp
 unfold LineC
 refine FSpecL_of c27 (by first | simp | exact Nat.le_of_ble_eq_true rfl) (Nat.le_refl _) (by decide) (by decide) fun C hP hN hC hL => ?_; rw [init_env',ownW_upd (by first | simp | exact Nat.le_of_ble_eq_true rfl)]; simp only [ir27,updL,updLo,List.map_nil,List.map_cons,Nat.reduceAdd,]
 simp only [Bar.avs]
 (repeat ((first | refine Va ?_ | refine Vb ?_ | refine Vc ?_ | refine Vd ?_ | refine Ve ?_ | refine Vf ?_); (try simp only [go_sem,hP]); (repeat refine qJ ?_)))
 refine AS_new (parse53 hs) rfl rfl rfl rfl ?_
 intro r os h
 unfold parsePost at h
 rw [hp] at h
 obtain ⟨q,e,he,rfl,rfl⟩:=h
 rw [hw] at he
 cases he
 refine ⟨[101,102,103,104,105,106,107,108],_,_,by simp,rfl,rfl,rfl,rfl,?_⟩
 simp only [go_sem,hP,ownBack]
 (repeat refine qJ ?_)
 (repeat ((first | refine Va ?_ | refine Vb ?_ | refine Vc ?_ | refine Vd ?_ | refine Ve ?_ | refine Vf ?_); (try simp only [go_sem,hP]); (repeat refine qJ ?_)))
 (refine WV_cond rfl (fun h => ?_) (fun h => ?_))
 ·cases h
 ·clear h
  (repeat ((first | refine Va ?_ | refine Vb ?_ | refine Vc ?_ | refine Vd ?_ | refine Ve ?_ | refine Vf ?_); (try simp only [go_sem,hP]); (repeat refine qJ ?_)))
  refine AS_new hcp rfl rfl rfl rfl ?_
  rintro r os ⟨cap,j,hg,rfl,rfl⟩
  have hps:=coin74 hb hB0 x hg
  refine ⟨[110],_,_,by simp,rfl,rfl,rfl,(by simp only [go_sem,obsBack,Ob.back,AV.back,AV.backL,back_cellsG]; rfl),?_⟩
  simp only [go_sem,hP,ownBack]
  (repeat refine qJ ?_)
  (repeat ((first | refine Va ?_ | refine Vb ?_ | refine Vc ?_ | refine Vd ?_ | refine Ve ?_ | refine Vf ?_); (try simp only [go_sem,hP]); (repeat refine qJ ?_)))
  refine raw_taN (t:=99) (t':=103) (z:=.nilFunc) (x':=.t 26) (u:=fnV 74 []) (vr:=.c (.raw .nilFunc)) (by decide) (by kernel_rfl) (by kernel_rfl) rfl rfl rfl (fun w M loc => by simp only [RepA,RepC]; exact ⟨trivial,rfl⟩) ?_
  simp only [go_sem,hP]
  (repeat ((first | refine Va ?_ | refine Vb ?_ | refine Vc ?_ | refine Vd ?_ | refine Ve ?_ | refine Vf ?_); (try simp only [go_sem,hP]); (repeat refine qJ ?_)))
  (refine WV_cond rfl (fun h => ?_) (fun h => ?_))
  ·cases h
  ·clear h
   (repeat ((first | refine Va ?_ | refine Vb ?_ | refine Vc ?_ | refine Vd ?_ | refine Ve ?_ | refine Vf ?_); (try simp only [go_sem,hP]); (repeat refine qJ ?_)))
   refine raw_taY (t:=103) (x':=.t 26) (u:=fnV 74 []) (vr:=.fn 74 []) (by kernel_rfl) rfl rfl rfl (fun w M loc => fn0_rep w M loc 74) ?_
   simp only [go_sem,hP]
   (repeat ((first | refine Va ?_ | refine Vb ?_ | refine Vc ?_ | refine Vd ?_ | refine Ve ?_ | refine Vf ?_); (try simp only [go_sem,hP]); (repeat refine qJ ?_)))
   (refine WV_cond rfl (fun h => ?_) (fun h => ?_))
   ·refine WV_seq_ ?_
    (refine WV_op ?_; simp only [go_sem,hP]; (repeat refine qJ ?_))
    refine WV_seq_ ?_
    (refine WV_split 3 ?_; simp only [List.take_succ_cons,List.take_zero,List.take_nil,List.drop_succ_cons,List.drop_zero,List.drop_nil]; simp only [go_sem,hP]; (repeat refine qJ ?_))
    refine AS_lend [8,110] hps rfl rfl rfl (by decide) rfl (by unfold Bar.avsF; simp only [go_sem,obsLend,Ob.lend,AV.lend,AV.lendL,lend_cellsG]; first | done | rfl) ?_
    intro r l' h
    unfold coinPost at h
    cases hq:coinB b x with
    | none =>
     rw [hq] at h
     obtain ⟨rfl,rfl⟩:=h
     refine ⟨_,_,rfl,(by unfold Bar.avsF; simp only [obsBack,Ob.back,AV.back,AV.backL,back_cellsG]; rfl),?_⟩
     simp only [go_sem,hP,ownBack]
     unfold cellsG
     refine SOps_frzJ 110 rfl ?_
     simp only [go_sem,flat_len,Nat.le_refl,flat_grp]
     refine SOps_ops ?_
     simp only [go_sem,hP]
     (repeat refine qJ ?_)
     (refine AG_skip ?_; simp only [go_sem,hP]; (repeat refine qJ ?_); (repeat ((first | refine Va ?_ | refine Vb ?_ | refine Vc ?_ | refine Vd ?_ | refine Ve ?_ | refine Vf ?_); (try simp only [go_sem,hP]); (repeat refine qJ ?_))))
     (refine WV_cond rfl (fun h => ?_) (fun h => ?_))
     ·(repeat ((first | refine Va ?_ | refine Vb ?_ | refine Vc ?_ | refine Vd ?_ | refine Ve ?_ | refine Vf ?_); (try simp only [go_sem,hP]); (repeat refine qJ ?_)))
      (refine WV_ret ?_; simp only [thenQ,inQ,RetQL,RetOkL,resAll,resA]; simp only [go_sem,tupA,AV.keepP,AV.keepPL]; refine ⟨_,[.box b.avs,(tabO tb)],rfl,KeepL_mk rfl rfl ?_ ?_ rfl,?_⟩)
      ·unfold Bar.avs
       simp only [go_sem,keepAll,Ob.keepP,AV.keepP,AV.keepPL]
      ·trivial
      ·exact ⟨rfl,rfl⟩
     ·cases h
    | some b' =>
     rw [hq] at h
     obtain ⟨rfl,rfl⟩:=h
     refine ⟨_,_,rfl,(by unfold Bar.avsF; simp only [obsBack,Ob.back,AV.back,AV.backL,back_cellsG]; rfl),?_⟩
     simp only [go_sem,hP,ownBack]
     have hlen:=coin_len hq
     unfold cellsG
     rw [← hlen]
     refine SOps_frzJ 110 rfl ?_
     simp only [go_sem,flat_len,Nat.le_refl,flat_grp]
     refine SOps_ops ?_
     simp only [go_sem,hP]
     (repeat refine qJ ?_)
     have hck:=check25 b'
     simp only [Bar.av,Bar.avs] at hck
     (refine AG_pu (fun hG => hck) ?_; simp only [go_sem,hP]; (repeat refine qJ ?_); (repeat ((first | refine Va ?_ | refine Vb ?_ | refine Vc ?_ | refine Vd ?_ | refine Ve ?_ | refine Vf ?_); (try simp only [go_sem,hP]); (repeat refine qJ ?_))))
     cases hB:barB b' with
     | true =>
      have he:barE b' = 0:=by unfold barE; rw [if_pos hB]
      have hx:chgS b (some b') = (yesS,b'):=by unfold chgS; simp only [hB,if_true]
      rw [he,hx]
      (refine WV_cond rfl (fun h => ?_) (fun h => ?_))
      ·cases h
      ·(repeat ((first | refine Va ?_ | refine Vb ?_ | refine Vc ?_ | refine Vd ?_ | refine Ve ?_ | refine Vf ?_); (try simp only [go_sem,hP]); (repeat refine qJ ?_)))
       (refine WV_ret ?_; simp only [thenQ,inQ,RetQL,RetOkL,resAll,resA]; simp only [go_sem,tupA,AV.keepP,AV.keepPL]; refine ⟨_,[.box b'.avs,(tabO tb)],rfl,KeepL_mk rfl rfl ?_ ?_ rfl,?_⟩)
       ·unfold Bar.avs
        simp only [go_sem,keepAll,Ob.keepP,AV.keepP,AV.keepPL]
       ·trivial
       ·exact ⟨rfl,rfl⟩
     | false =>
      have he:barE b' = 120:=by unfold barE; rw [hB]; rfl
      have hx:chgS b (some b') = (noS,b):=by unfold chgS; simp only [hB]; rfl
      rw [he,hx]
      (refine WV_cond rfl (fun h => ?_) (fun h => ?_))
      ·(repeat ((first | refine Va ?_ | refine Vb ?_ | refine Vc ?_ | refine Vd ?_ | refine Ve ?_ | refine Vf ?_); (try simp only [go_sem,hP]); (repeat refine qJ ?_)))
       (refine WV_ret ?_; simp only [thenQ,inQ,RetQL,RetOkL,resAll,resA]; simp only [go_sem,tupA,AV.keepP,AV.keepPL]; refine ⟨_,[.box b.avs,(tabO tb)],rfl,KeepL_mk rfl rfl ?_ ?_ rfl,?_⟩)
       ·unfold Bar.avs
        simp only [go_sem,keepAll,Ob.keepP,AV.keepP,AV.keepPL]
       ·trivial
       ·exact ⟨rfl,rfl⟩
      ·cases h
   ·cases h
end Go.Proofs.YtefoconkepmmgaaGreatDoor

namespace Go.Proofs.YtefoconkepmmgaaGreatDoor
open Go Go.V
variable {tb:Obj}
abbrev o10_0:List Ins:=[JS 2 (.box 15 (.t 0)),JS 4 (.mv (.k J0)),JS 5 (.alloc [Jz 0,J0,J0,J0,J0,J0,Jz 0,Jz 0,Jz 0,Jz 0,J0,Jz 0,Jz 0,Jz 0,J0]),JS 6 (Ji 0)]
abbrev o10_1:List Ins:=[JS 11 (JL 15 2),JS 12 (Jc 25 [.t 11]),JS 7 (Jm 12)]
abbrev o10_2:List Ins:=[JS 13 (Jm 7),JS 14 (Jk .neq 13 0)]
abbrev o10_3:List Ins:=[JS 15 (.bld [Jz 0,J0,J0,J0,J0,J0,Jz 0,Jz 0,Jz 0,Jz 0,J0,Jz 0,Jz 0,Jz 0,J0] []),JS 16 (Jm 7),JS 4 (.mv (.k J0)),JN (Js 15 5 15),JS 6 (Jm 16)]
abbrev v10_4:VC:=(.seq (.ops o10_3) .ret)
abbrev v10_5:VC:=(.cond (.t 14) v10_4 .skip)
abbrev v10_6:VC:=(.seq (.ops o10_2) v10_5)
abbrev o10_7:List Ins:=[JS 17 (Jm 1),JS 18 (Jn 17),JS 19 (Jk .gtr 18 40)]
abbrev o10_8:List Ins:=[JS 20 (.bld [Jz 0,J0,J0,J0,J0,J0,Jz 0,Jz 0,Jz 0,Jz 0,J0,Jz 0,Jz 0,Jz 0,J0] []),JS 4 (.mv (.k J0)),JN (Js 15 5 20),JS 6 (Ji 2)]
abbrev v10_9:VC:=(.seq (.ops o10_8) .ret)
abbrev v10_10:VC:=(.cond (.t 19) v10_9 .skip)
abbrev o10_11:List Ins:=[JS 21 (JL 15 2),JS 22 (Jc 26 [.t 21]),JS 23 (.bld [Jz 0,J0,J0,J0,J0,J0,Jz 0,Jz 0,Jz 0,Jz 0,J0,Jz 0,Jz 0,Jz 0,J0] [(0,15,(.t 22))]),JS 24 (.box 15 (.t 23)),JS 8 (Jm 24)]
abbrev o10_12:List Ins:=[JS 25 (Jm 1),JS 26 (Jn 25),JS 27 (Ji 0)]
abbrev o10_13:List Ins:=[JS 28 (Jb .lss 27 26)]
abbrev o10_14:List Ins:=[JS 29 (Ja 1 25 27),JS 30 (Jl 29),JS 10 (Jm 30)]
abbrev o10_15:List Ins:=[JS 31 (Jm 4),JS 32 (Jm 8),JS 33 (Jm 10),JS 34 (Jc 27 [.t 32,.t 33]),JS 35 (.bsl 9 1 [.t 34]),JS 36 (.app 9 1 16 (.t 31) (.t 35)),JS 4 (Jm 36)]
abbrev v10_16:VC:=(.seq (.ops o10_14) (.ops o10_15))
abbrev o10_17:List Ins:=[JS 37 (Jk .add 27 1),JS 27 (Jm 37)]
abbrev v10_18:VC:=(.seq (.block 1 v10_16) (.ops o10_17))
abbrev v10_19:VC:=(.seq (.cond (.t 28) .skip (.exit 0)) v10_18)
abbrev v10_20:VC:=(.seq (.ops o10_13) v10_19)
-- K10_1: changed and kept: [27,4]
abbrev v10_21:VC:=(.loop v10_20)
abbrev v10_22:VC:=(.block 0 v10_21)
abbrev o10_23:List Ins:=[JF 38 (Jm 4),JF 39 (Jm 8),JF 40 (.nilc (.t 39)),JF 41 (Jf 0 40),JF 42 (JL 15 41),JF 4 (Jm 38),JN (Js 15 5 42),JS 6 (Ji 0)]
abbrev v10_24:VC:=(.seq (.dops o10_23) .ret)
abbrev v10_25:VC:=(.seq (.seq (.ops o10_12) v10_22) v10_24)
abbrev v10_26:VC:=(.seq (.ops o10_11) v10_25)
abbrev v10_27:VC:=(.seq (.seq (.ops o10_7) v10_10) v10_26)
abbrev v10_28:VC:=(.seq (.seq (.ops o10_1) v10_6) v10_27)
def ir10:FC:=⟨2,43,[.t 4,.cell 5 false 15,.t 6],(.seq (.ops o10_0) v10_28)⟩
theorem c10:compM Tryz.prog [] 10 = some ir10:=by kernel_rfl
attribute [local go_sem] Nat.reduceEqDiff Nat.reduceAdd Nat.reduceMul reduceIte Nat.reduceLeDiff Nat.reduceLT Nat.reduceBEq reduceCtorEq
def runL (F:Bar → List UInt8 → List UInt8 × Bar) (b:Bar) (l:List (List UInt8)):List (List UInt8) × Bar:=l.foldl (fun st s => (st.1 ++ [(F st.2 s).1],(F st.2 s).2)) ([],b)
theorem runL_snoc (F:Bar → List UInt8 → List UInt8 × Bar) (b:Bar) {l:List (List UInt8)} {k:Nat} (h:k < l.length):runL F b (l.take (k + 1)) = ((runL F b (l.take k)).1 ++ [(F (runL F b (l.take k)).2 (l.getD k [])).1],(F (runL F b (l.take k)).2 (l.getD k [])).2):=by
 have hg:l.getD k [] = l[k]:=by rw [List.getD_eq_getElem?_getD,List.getElem?_eq_getElem h]; rfl
 rw [List.take_succ_eq_append_getElem h,hg]
 unfold runL
 rw [List.foldl_append]
 rfl
theorem runL_len (F:Bar → List UInt8 → List UInt8 × Bar) (b:Bar) (l:List (List UInt8)):∀ k,k ≤ l.length → (runL F b (l.take k)).1.length = k
 | 0,_ => rfl
 | k + 1,h => by
  rw [runL_snoc F b (by omega)]
  simp only [List.length_append,List.length_cons,List.length_nil,runL_len F b l k (by omega)]
def lastP (b:Bar):Nat → AV
 | 0 => .gr 110
 | _ + 1 => .c (prsC b.tray.pres)
def zBar:List AV:=[iv 0,.c (.raw (.slice none 0 0)),.c (.raw (.slice none 0 0)),.c (.raw (.slice none 0 0)),.c (.raw (.slice none 0 0)),.c (.raw (.slice none 0 0)),iv 0,iv 0,iv 0,iv 0,.c (.raw (.slice none 0 0)),iv 0,iv 0,iv 0,.c (.raw (.slice none 0 0))]
theorem strs_at {l:List (List UInt8)} {k:Nat} (h:k < l.length):(l.map fun x => [CD.str x]).getD k [] = [CD.str (l.getD k [])]:=strs_get h
set_option maxHeartbeats 1000000 in
theorem run10 {F:Bar → List UInt8 → List UInt8 × Bar} {b:Bar} (hb:BarLn b) (hB:barB b = true) {l:List (List UInt8)} (hl:l.length ≤ 40) (hF:∀ k,k < l.length → LineC tb (runL F b (l.take k)).2 (l.getD k []) (F (runL F b (l.take k)).2 (l.getD k []))) :
  FSpecL Tryz.prog 10 [b.av,.c (strsC l)] [(tabO tb)] [] (fun r l' => r = .tup [.c (strsC (runL F b l).1),(runL F b l).2.av,iv 0] ∧ l' = [(tabO tb)]):=by
 have hm:maxLen = 9223372036854775807:=rfl
 have hck:=check25 b
 have he:barE b = 0:=by unfold barE; rw [if_pos hB]
 rw [he] at hck
 have hcp:=copied26 hb
 simp only [Bar.av,Bar.avs,Bar.avsP] at hcp hck
 refine FSpecL_of c10 (by first | simp | exact Nat.le_of_ble_eq_true rfl) (Nat.le_refl _) (by decide) (by decide) fun C hP hN hC hL => ?_; rw [init_env',ownW_upd (by first | simp | exact Nat.le_of_ble_eq_true rfl)]; simp only [ir10,updL,updLo,List.map_nil,List.map_cons,Nat.reduceAdd,]
 simp only [Bar.av,Bar.avs]
 (repeat ((first | refine Va ?_ | refine Vb ?_ | refine Vc ?_ | refine Vd ?_ | refine Ve ?_ | refine Vf ?_); (try simp only [go_sem,hP]); (repeat refine qJ ?_)))
 (refine AS_pu (hck) ?_; simp only [go_sem,hP]; (repeat refine qJ ?_); (repeat ((first | refine Va ?_ | refine Vb ?_ | refine Vc ?_ | refine Vd ?_ | refine Ve ?_ | refine Vf ?_); (try simp only [go_sem,hP]); (repeat refine qJ ?_))))
 (refine WV_cond rfl (fun h => ?_) (fun h => ?_))
 ·cases h
 ·clear h
  (repeat ((first | refine Va ?_ | refine Vb ?_ | refine Vc ?_ | refine Vd ?_ | refine Ve ?_ | refine Vf ?_); (try simp only [go_sem,hP,strsC,List.length_map]); (repeat refine qJ ?_)))
  (refine WV_cond rfl (fun h => ?_) (fun h => ?_))
  ·exfalso; simp at h; omega
  ·clear h
   (repeat ((first | refine Va ?_ | refine Vb ?_ | refine Vc ?_ | refine Vd ?_ | refine Ve ?_ | refine Vf ?_); (try simp only [go_sem,hP]); (repeat refine qJ ?_)))
   refine AS_new hcp rfl rfl rfl rfl ?_
   rintro r os ⟨rfl,rfl⟩
   refine ⟨[110],_,_,by simp,rfl,rfl,rfl,rfl,?_⟩
   simp only [go_sem,hP,ownBack]
   (repeat refine qJ ?_)
   (repeat ((first | refine Va ?_ | refine Vb ?_ | refine Vc ?_ | refine Vd ?_ | refine Ve ?_ | refine Vf ?_); (try simp only [go_sem,hP,strsC,List.length_map]); (repeat refine qJ ?_)))
   refine WV_nilslot 4 36 9 1 (by decide) (by decide) rfl rfl ?_
   simp only [go_sem]
   refine WV_loopS (fun k:Nat => ⟨upd (upd (upd (upd (upd (upd (upd e0 4 (.gr 36)) 5 (.bp 5 0)) 6 (iv 0)) 8 (.bp 24 0)) 25 (.c (strsC l))) 26 (iv l.length)) 27 (iv k),upd (upd (upd (upd (upd o0 1000 (tabO tb)) 5 (.box zBar)) 110 (.grow 48 2 (b.tray.pres.map Pr.cds))) 24 (.box ((runL F b (l.take k)).2.avsP (lastP (runL F b (l.take k)).2 k)))) 36 (.grow 9 1 ((runL F b (l.take k)).1.map fun x => [CD.str x]))⟩) (fun k => k ≤ l.length) (fun k => l.length - k) 0 (Nat.zero_le _) ?_ ?_
   ·refine Sub_of (by unfold strsC; simp only [go_sem]; exact EnvLe_au) (by simp only [List.take_zero,List.map_nil,runL,List.foldl_nil,lastP]; unfold Bar.avsP zBar; simp only [go_sem]; exact ObjLe_au)
   intro k hk
   have hrl:=runL_len F b l k hk
   (repeat ((first | refine Va ?_ | refine Vb ?_ | refine Vc ?_ | refine Vd ?_ | refine Ve ?_ | refine Vf ?_); (try simp only [go_sem,hP,strsC,List.length_map]); (repeat refine qJ ?_)))
   (refine WV_cond rfl (fun h => ?_) (fun h => ?_))
   ·have hi:k < l.length:=by simpa using h
    have hwk:=w64 (n:=(k:Int) + 1) (by omega) (by omega)
    have hg:=strs_at hi
    have hln:=hF k hi
    have hsn:=runL_snoc F b hi
    have h0:k = 0 → (runL F b (l.take k)).2 = b:=by rintro rfl; rfl
    unfold LineC at hln
    generalize l.getD k [] = s at hg hln hsn
    generalize runL F b (l.take k) = bk at hrl hln hsn h0
    generalize F bk.2 s = fx at hln hsn
    (repeat ((first | refine Va ?_ | refine Vb ?_ | refine Vc ?_ | refine Vd ?_ | refine Ve ?_ | refine Vf ?_); (try simp only [go_sem,hP,hg,List.length_map,Int.toNat_natCast]); (repeat refine qJ ?_)))
    cases k with
    | zero =>
     have h0:=h0 rfl
     obtain ⟨ba,bb⟩:=bk
     simp only at h0
     subst h0
     simp only [lastP]
     unfold Bar.avsP
     refine AS_lend [24,1000] hln rfl rfl rfl (by decide) rfl (by unfold Bar.avs; simp only [go_sem,obsLend,Ob.lend,AV.lend,AV.lendL]; first | done | rfl) ?_
     rintro r l' ⟨rfl,rfl⟩
     refine ⟨_,_,rfl,(by unfold Bar.avs; simp only [obsBack,Ob.back,AV.back,AV.backL]; rfl),?_⟩
     simp only [go_sem,hP,ownBack]
     (repeat refine qJ ?_)
     (repeat ((first | refine Va ?_ | refine Vb ?_ | refine Vc ?_ | refine Vd ?_ | refine Ve ?_ | refine Vf ?_); (try simp only [go_sem,hP,hwk,List.length_map,hrl]); (repeat refine qJ ?_)))
     refine ⟨0 + 1,by omega,by omega,?_⟩
     rw [hsn,List.map_append]
     simp only [lastP]
     unfold zBar
     refine Sub_of (by simp only [go_sem]; exact EnvLe_au) (by simp only [go_sem,List.map_cons,List.map_nil]; exact ObjLe_au)
    | succ k =>
     simp only [lastP]
     unfold Bar.avsP
     refine AS_lend [24,1000] hln rfl rfl rfl (by decide) rfl (by unfold Bar.avs; simp only [go_sem,obsLend,Ob.lend,AV.lend,AV.lendL]; first | done | rfl) ?_
     rintro r l' ⟨rfl,rfl⟩
     refine ⟨_,_,rfl,(by unfold Bar.avs; simp only [obsBack,Ob.back,AV.back,AV.backL]; rfl),?_⟩
     simp only [go_sem,hP,ownBack]
     (repeat refine qJ ?_)
     (repeat ((first | refine Va ?_ | refine Vb ?_ | refine Vc ?_ | refine Vd ?_ | refine Ve ?_ | refine Vf ?_); (try simp only [go_sem,hP,hwk,List.length_map,hrl]); (repeat refine qJ ?_)))
     refine ⟨k + 1 + 1,by omega,by omega,?_⟩
     rw [hsn,List.map_append]
     simp only [lastP]
     unfold zBar
     refine Sub_of (by simp only [go_sem]; exact EnvLe_au) (by simp only [go_sem,List.map_cons,List.map_nil]; exact ObjLe_au)
   ·have hkl:k = l.length:=by
     have:¬ (k < l.length):=by simpa using h
     omega
    subst hkl
    rw [List.take_length] at hrl ⊢
    have h0:l.length = 0 → (runL F b l).2 = b:=fun h => by rw [List.length_eq_zero_iff.1 h]; rfl
    generalize runL F b l = bk at hrl h0
    generalize l.length = n at *
    cases n with
    | zero =>
     have h0:=h0 rfl
     obtain ⟨ba,bb⟩:=bk
     simp only at h0
     subst h0
     simp only [lastP]
     unfold Bar.avsP zBar
     (repeat ((first | refine Va ?_ | refine Vb ?_ | refine Vc ?_ | refine Vd ?_ | refine Ve ?_ | refine Vf ?_); (try simp only [go_sem,hP]); (repeat refine qJ ?_)))
     (refine WV_ret ?_; simp only [thenQ,inQ,RetQL,RetOkL,resAll,resA]; simp only [go_sem,tupA,AV.keepP,AV.keepPL]; refine ⟨_,[(tabO tb)],rfl,KeepL_mk rfl rfl ?_ ?_ rfl,?_⟩)
     ·simp only [go_sem,keepAll,Ob.keepP,AV.keepP,AV.keepPL]
     ·trivial
     ·exact ⟨rfl,rfl⟩
    | succ n =>
     simp only [lastP]
     unfold Bar.avsP zBar
     (repeat ((first | refine Va ?_ | refine Vb ?_ | refine Vc ?_ | refine Vd ?_ | refine Ve ?_ | refine Vf ?_); (try simp only [go_sem,hP]); (repeat refine qJ ?_)))
     (refine WV_ret ?_; simp only [thenQ,inQ,RetQL,RetOkL,resAll,resA]; simp only [go_sem,tupA,AV.keepP,AV.keepPL]; refine ⟨_,[(tabO tb)],rfl,KeepL_mk rfl rfl ?_ ?_ rfl,?_⟩)
     ·simp only [go_sem,keepAll,Ob.keepP,AV.keepP,AV.keepPL]
     ·trivial
     ·exact ⟨rfl,rfl⟩
end Go.Proofs.YtefoconkepmmgaaGreatDoor

namespace Go.Proofs.YtefoconkepmmgaaGreatDoor
open Go Go.V
abbrev o9_0:List Ins:=[JS 2 (.mv (.k (.c (.str []))))]
abbrev o9_1:List Ins:=[JS 3 (Jm 0),JS 4 (Jk .lss 3 0)]
abbrev o9_2:List Ins:=[JS 5 (Jm 0),JS 6 (.mm true (.t 5) (.k (Jz (-999999999)))),JS 7 (.un .neg (.t 6)),JS 8 (Jc 9 [.t 7]),JS 9 (.prim (.sbin .add) [(.k (.c (.str [45]))),.t 8]),JS 2 (Jm 9)]
abbrev v9_3:VC:=(.seq (.ops o9_2) .ret)
abbrev v9_4:VC:=(.cond (.t 4) v9_3 .skip)
abbrev o9_5:List Ins:=[JS 10 (Jm 0),JS 11 (Jk .lss 10 10)]
abbrev o9_6:List Ins:=[JS 12 (Jm 0),JS 13 (.bin .add (.k (Jz 48)) (.t 12)),JS 14 (.prim (.conv .u8) [.t 13]),JS 15 (.bsl 5 1 [.t 14]),JS 16 (.raw (.convert 63 9 (.tmp 15))),JS 2 (Jm 16)]
abbrev v9_7:VC:=(.seq (.ops o9_6) .ret)
abbrev v9_8:VC:=(.cond (.t 11) v9_7 .skip)
abbrev o9_9:List Ins:=[JS 17 (Jm 0),JS 18 (Jk .quo 17 10),JS 19 (Jc 9 [.t 18]),JS 20 (Jm 0),JS 21 (Jk .rem 20 10),JS 22 (Jc 9 [.t 21]),JS 23 (.prim (.sbin .add) [.t 19,.t 22]),JS 2 (Jm 23)]
abbrev v9_10:VC:=(.seq (.ops o9_9) .ret)
abbrev v9_11:VC:=(.seq (.seq (.ops o9_5) v9_8) v9_10)
abbrev v9_12:VC:=(.seq (.seq (.ops o9_1) v9_4) v9_11)
def ir9:FC:=⟨1,24,[.t 2],(.seq (.ops o9_0) v9_12)⟩
theorem c9:compM Tryz.prog [] 9 = some ir9:=by kernel_rfl
attribute [local go_sem] Nat.reduceEqDiff Nat.reduceAdd Nat.reduceMul reduceIte Nat.reduceLeDiff Nat.reduceLT Nat.reduceBEq reduceCtorEq
def textS (n:Int):List UInt8:=if n < 0 then 45 :: Lib.decDigits (-(max n (-999999999))).toNat else Lib.decDigits n.toNat
theorem digs_lt (u:Nat):∀ k,u < 10 ^ (k + 1) → (Lib.decDigits u).length ≤ k + 1
 | 0,h => by rw [Lib.decDigits_one (by simpa using h)]; simp
 | k + 1,h => by
  rw [Lib.decDigits]
  split
  ·simp
  ·have h2:u / 10 < 10 ^ (k + 1):=by rw [Nat.pow_succ] at h; omega
   have:=digs_lt (u / 10) k h2
   simp only [List.length_append,List.length_cons,List.length_nil]
   omega
theorem byte_eq {n:Nat} (h:n < 10):IntKind.u8.wrap (48 + (n:Int)) = ((UInt8.ofNat (48 + n)).toNat:Int):=by
 have:n = 0 ∨ n = 1 ∨ n = 2 ∨ n = 3 ∨ n = 4 ∨ n = 5 ∨ n = 6 ∨ n = 7 ∨ n = 8 ∨ n = 9:=by omega
 rcases this with rfl | rfl | rfl | rfl | rfl | rfl | rfl | rfl | rfl | rfl <;> rfl
theorem text9n (u:Nat) (hu:u < 10 ^ 19) (hu2:u ≤ 9223372036854775807):FSpec Tryz.prog 9 [iv u] (.c (.str (Lib.decDigits u))):=by
 have hm:maxLen = 9223372036854775807:=rfl
 induction u using Nat.strongRecOn with
 | _ u ih =>
  refine FSpec_of c9 (Nat.le_refl _) (by decide) fun C hP hN hC hL => ?_; rw [init_st]
  simp only [ir9]
  (repeat ((first | refine Va ?_ | refine Vb ?_ | refine Vc ?_ | refine Vd ?_ | refine Ve ?_ | refine Vf ?_); (try simp only [go_sem,hP]); (repeat refine qJ ?_)))
  (refine WV_cond rfl (fun h => ?_) (fun h => ?_))
  ·simp at h; omega
  ·clear h
   (repeat ((first | refine Va ?_ | refine Vb ?_ | refine Vc ?_ | refine Vd ?_ | refine Ve ?_ | refine Vf ?_); (try simp only [go_sem,hP]); (repeat refine qJ ?_)))
   by_cases h10:u < 10
   ·rw [Lib.decDigits_one h10]
    have w1:=w64 (n:=48 + (u:Int)) (by omega) (by omega)
    have hb:=byte_eq h10
    (refine WV_cond rfl (fun h => ?_) (fun h => ?_))
    ·(repeat ((first | refine Va ?_ | refine Vb ?_ | refine Vc ?_ | refine Vd ?_ | refine Ve ?_ | refine Vf ?_); (try simp only [go_sem,hP,w1,hb]); (repeat refine qJ ?_)))
     refine raw_bs (e:=5) (x':=.t 15) (s:=[UInt8.ofNat (48 + u)]) (by kernel_rfl) (by kernel_rfl) (by kernel_rfl) rfl rfl rfl ?_
     simp only [go_sem,hP]
     (repeat ((first | refine Va ?_ | refine Vb ?_ | refine Vc ?_ | refine Vd ?_ | refine Ve ?_ | refine Vf ?_); (try simp only [go_sem,hP]); (repeat refine qJ ?_)))
     (refine WV_ret ?_; simp only [thenQ,inQ,RetQ,RetOk,resAll,resA]; simp only [go_sem,tupA,AV.port,AV.portL,exists_eq_left']; (first | exact AVle.of rfl | refine AVle.of ?_ | skip))
    ·simp at h; omega
   ·have h1:=ih (u / 10) (by omega) (by omega) (by omega)
    have h2:=ih (u % 10) (by omega) (by omega) (by omega)
    have hd:Lib.decDigits u = Lib.decDigits (u / 10) ++ Lib.decDigits (u % 10):=by rw [Lib.decDigits,dif_neg h10,Lib.decDigits_one (show u % 10 < 10 by omega)]
    have hl1:=digs_lt (u / 10) 18 (by omega)
    have hl2:=digs_lt (u % 10) 0 (by omega)
    rw [hd]
    have e1:(u:Int).tdiv 10 = ((u / 10:Nat):Int):=by rw [Int.tdiv_eq_ediv_of_nonneg (by omega)]; omega
    have e2:(u:Int).tmod 10 = ((u % 10:Nat):Int):=by rw [Int.tmod_eq_emod_of_nonneg (by omega)]; omega
    have wa:=w64 (n:=((u / 10:Nat):Int)) (by omega) (by omega)
    have wc:=w64 (n:=((u % 10:Nat):Int)) (by omega) (by omega)
    generalize u / 10 = a at *
    generalize u % 10 = c at *
    (refine WV_cond rfl (fun h => ?_) (fun h => ?_))
    ·simp at h; omega
    ·(repeat ((first | refine Va ?_ | refine Vb ?_ | refine Vc ?_ | refine Vd ?_ | refine Ve ?_ | refine Vf ?_); (try simp only [go_sem,hP,e1,e2,wa,wc]); (repeat refine qJ ?_)))
     (refine AS_pu (h1) ?_; simp only [go_sem,hP,e1,e2,wa,wc]; (repeat refine qJ ?_); (repeat ((first | refine Va ?_ | refine Vb ?_ | refine Vc ?_ | refine Vd ?_ | refine Ve ?_ | refine Vf ?_); (try simp only [go_sem,hP,e1,e2,wa,wc]); (repeat refine qJ ?_))))
     (refine AS_pu (h2) ?_; simp only [go_sem,hP,e1,e2,wa,wc]; (repeat refine qJ ?_); (repeat ((first | refine Va ?_ | refine Vb ?_ | refine Vc ?_ | refine Vd ?_ | refine Ve ?_ | refine Vf ?_); (try simp only [go_sem,hP,e1,e2,wa,wc]); (repeat refine qJ ?_))))
     (refine WV_ret ?_; simp only [thenQ,inQ,RetQ,RetOk,resAll,resA]; simp only [go_sem,tupA,AV.port,AV.portL,exists_eq_left']; (first | exact AVle.of rfl | refine AVle.of ?_ | skip))
theorem text9 {n:Int} (h0:0 ≤ n) (h1:n ≤ 9223372036854775807):FSpec Tryz.prog 9 [iv n] (.c (.str (textS n))):=by
 obtain ⟨u,rfl⟩:=Int.eq_ofNat_of_zero_le h0
 have e:textS (u:Int) = Lib.decDigits u:=by unfold textS; rw [if_neg (by omega)]; simp
 rw [e]
 exact text9n u (by omega) (by omega)
theorem textS_len {n:Int} (h0:0 ≤ n) (h1:n ≤ 999999999):(textS n).length ≤ 10:=by
 unfold textS
 rw [if_neg (by omega)]
 have:=digs_lt n.toNat 8 (by omega)
 omega
end Go.Proofs.YtefoconkepmmgaaGreatDoor

namespace Go.Proofs.YtefoconkepmmgaaGreatDoor
open Go Go.V
abbrev o16_0:List Ins:=[JS 2 (.mv (.k J0))]
abbrev o16_1:List Ins:=[JS 3 (.mv (.k J0))]
abbrev o16_2:List Ins:=[JS 4 (Ji 0)]
abbrev o16_3:List Ins:=[JS 5 (Ji 0)]
abbrev o16_4:List Ins:=[JS 6 (Jm 5),JS 7 (Jm 0),JS 8 (.prim .slen [.t 7]),JS 9 (Jb .leq 6 8)]
abbrev v16_5:VC:=(.cond (.t 9) .skip (.exit 0))
abbrev o16_6:List Ins:=[JS 12 (Jm 5),JS 13 (Jm 0),JS 14 (.prim .slen [.t 13]),JS 15 (Jb .eql 12 14),JS 16 (Jm 15),JG 17 (Jm 0) 16 false,JG 18 (Jm 5) 16 false,JG 19 (.prim .sidx [.t 17,.t 18]) 16 false,JG 20 (.bin .eql (.t 19) (.k (.c (.int .u8 32)))) 16 false,JS 21 (Jo 16 20)]
abbrev o16_7:List Ins:=[JS 22 (Jm 3),JS 23 (Jm 0),JS 24 (Jm 4),JS 25 (Jm 5),JS 26 (.prim (.sslc true true) [.t 23,.t 24,.t 25]),JS 27 (.bsl 9 1 [.t 26]),JS 28 (.app 9 1 16 (.t 22) (.t 27)),JS 3 (Jm 28)]
abbrev o16_8:List Ins:=[JS 29 (Jm 5),JS 30 (Jk .add 29 1),JS 4 (Jm 30)]
abbrev v16_9:VC:=(.seq (.ops o16_7) (.ops o16_8))
abbrev v16_10:VC:=(.cond (.t 21) v16_9 .skip)
abbrev v16_11:VC:=(.seq (.ops o16_6) v16_10)
abbrev o16_12:List Ins:=[JS 10 (Jm 5),JS 11 (Jk .add 10 1),JS 5 (Jm 11)]
abbrev v16_13:VC:=(.seq (.block 1 v16_11) (.ops o16_12))
abbrev v16_14:VC:=(.seq (.seq (.ops o16_4) v16_5) v16_13)
-- K16_1: changed and kept: [5,3,4]
abbrev v16_15:VC:=(.loop v16_14)
abbrev v16_16:VC:=(.block 0 v16_15)
abbrev o16_17:List Ins:=[JS 31 (Jm 3),JS 2 (Jm 31)]
abbrev v16_18:VC:=(.seq (.ops o16_17) .ret)
abbrev v16_19:VC:=(.seq (.seq (.ops o16_3) v16_16) v16_18)
abbrev v16_20:VC:=(.seq (.ops o16_2) v16_19)
abbrev v16_21:VC:=(.seq (.ops o16_1) v16_20)
def ir16:FC:=⟨1,32,[.t 2],(.seq (.ops o16_0) v16_21)⟩
theorem c16:compM Tryz.prog [] 16 = some ir16:=by kernel_rfl
attribute [local go_sem] Nat.reduceEqDiff Nat.reduceAdd Nat.reduceMul reduceIte Nat.reduceLeDiff Nat.reduceLT Nat.reduceBEq reduceCtorEq
theorem occ32 (s:List UInt8) (i:Nat):Lib.occAt s [32] i = (s[i]? == some 32):=by
 unfold Lib.occAt
 cases h:s.drop i with
 | nil =>
  have:s.length ≤ i:=by simpa using h
  rw [List.getElem?_eq_none this]; rfl
 | cons b r =>
  have h2:s[i]? = some b:=by
   have:=List.getElem?_drop (xs:=s) (i:=i) (j:=0)
   rw [h] at this
   simpa using this.symm
  rw [h2]
  simp [List.isPrefixOf,BEq.comm]
theorem cut_nosp {s:List UInt8} (h:∀ j,j < s.length → s.getD j 0 ≠ 32):cutL s = [s]:=by
 have hi:Lib.index s [32] = -1:=Lib.index_none fun j hj => by
  rw [occ32]
  by_cases hl:j < s.length
  ·have:=h j hl
   rw [List.getD_eq_getElem?_getD,List.getElem?_eq_getElem hl] at this
   rw [List.getElem?_eq_getElem hl]
   simpa using this
  ·rw [List.getElem?_eq_none (by omega)]; rfl
 unfold cutL Lib.split
 rw [Lib.count_miss hi]
 rfl
theorem cut_at {s:List UInt8} {i:Nat} (hi:i < s.length) (h:s.getD i 0 = 32) (hn:∀ j,j < i → s.getD j 0 ≠ 32):cutL s = s.take i :: cutL (s.drop (i + 1)):=by
 have hx:Lib.index s [32] = i:=Lib.index_first (by omega) (by
  rw [occ32,List.getElem?_eq_getElem hi]
  rw [List.getD_eq_getElem?_getD,List.getElem?_eq_getElem hi] at h
  simpa using h) fun j hj => by
  have:=hn j hj
  rw [List.getD_eq_getElem?_getD,List.getElem?_eq_getElem (by omega)] at this
  rw [occ32,List.getElem?_eq_getElem (by omega)]
  simpa using this
 have:((i:Int) == -1) = false:=by simp
 unfold cutL Lib.split
 rw [Lib.count_hit (by simp) hx,Nat.add_comm 1,Lib.splitK,hx,this]
 rfl
theorem get_drop (s:List UInt8) (a j:Nat):(s.drop a).getD j 0 = s.getD (a + j) 0:=by
 rw [List.getD_eq_getElem?_getD,List.getElem?_drop,List.getD_eq_getElem?_getD]
theorem words16 {s:List UInt8} (hs:s.length ≤ 1000):FSpec Tryz.prog 16 [.c (.str s)] (.c (strsC (cutL s))):=by
 have hm:maxLen = 9223372036854775807:=rfl
 refine FSpec_of c16 (Nat.le_refl _) (by decide) fun C hP hN hC hL => ?_; rw [init_st]
 simp only [ir16]
 (repeat ((first | refine Va ?_ | refine Vb ?_ | refine Vc ?_ | refine Vd ?_ | refine Ve ?_ | refine Vf ?_); (try simp only [go_sem,hP]); (repeat refine qJ ?_)))
 refine WV_nilslot 3 28 9 1 (by decide) (by decide) rfl rfl ?_
 simp only [go_sem]
 refine WV_loopS (fun p:Nat × Nat × List (List UInt8) => ⟨upd (upd (upd (upd (upd e0 0 (.c (.str s))) 2 (.c (.raw (.slice none 0 0)))) 3 (.gr 28)) 4 (iv p.2.1)) 5 (iv p.1),upd o0 28 (.grow 9 1 (p.2.2.map fun x => [CD.str x]))⟩)
  (fun p => p.1 ≤ s.length + 1 ∧ p.2.1 ≤ p.1 ∧ p.2.2.length ≤ p.1 ∧ (∀ j,p.2.1 ≤ j → j < p.1 → j < s.length → s.getD j 0 ≠ 32) ∧ (p.1 ≤ s.length → p.2.2 ++ cutL (s.drop p.2.1) = cutL s) ∧ (p.1 = s.length + 1 → p.2.2 = cutL s)) (fun p => s.length + 1 - p.1) (0,0,[]) ⟨by omega,Nat.le_refl _,Nat.le_refl _,by omega,fun _ => rfl,by omega⟩ ?_ ?_
 ·refine Sub_of (by simp only [go_sem]; exact EnvLe_au) (by simp only [go_sem,List.map_nil]; exact ObjLe_au)
 rintro ⟨i,fr,out⟩ ⟨h1,h2,h3,h3',h5,h6⟩
 simp only at h1 h2 h3 h3' h5 h6 ⊢
 (repeat ((first | refine Va ?_ | refine Vb ?_ | refine Vc ?_ | refine Vd ?_ | refine Ve ?_ | refine Vf ?_); (try simp only [go_sem,hP]); (repeat refine qJ ?_)))
 (refine WV_cond rfl (fun h => ?_) (fun h => ?_))
 ·have hi:i ≤ s.length:=by simpa using h
  clear h6 h
  have wi:=w64 (n:=(i:Int) + 1) (by omega) (by omega)
  (repeat ((first | refine Va ?_ | refine Vb ?_ | refine Vc ?_ | refine Vd ?_ | refine Ve ?_ | refine Vf ?_); (try simp only [go_sem,hP,Int.toNat_natCast]); (repeat refine qJ ?_)))
  by_cases hp:i = s.length ∨ s.getD i 0 = 32
  ·(refine WV_cond rfl (fun h => ?_) (fun h => ?_))
   ·clear h
    (repeat ((first | refine Va ?_ | refine Vb ?_ | refine Vc ?_ | refine Vd ?_ | refine Ve ?_ | refine Vf ?_); (try simp only [go_sem,hP,List.length_map]); (repeat refine qJ ?_)))
    refine ⟨(i + 1,i + 1,out ++ [(s.drop fr).take (i - fr)]),⟨by simp only; omega,Nat.le_refl _,by simp only [List.length_append,List.length_cons,List.length_nil]; omega,fun j hj1 hj2 _ => by simp only at hj1 hj2; omega,fun h => ?_,fun h => ?_⟩,by simp only; omega,?_⟩
    ·simp only at h ⊢
     have h32:s.getD i 0 = 32:=hp.resolve_left (by omega)
     have hcut:=cut_at (s:=s.drop fr) (i:=i - fr) (by rw [List.length_drop]; omega) (by rw [get_drop,Nat.add_sub_cancel' h2]; exact h32) fun j hj => by rw [get_drop]; exact h3' (fr + j) (by omega) (by omega) (by omega)
     rw [List.drop_drop,show fr + (i - fr + 1) = i + 1 by omega] at hcut
     rw [← h5 hi,hcut,List.append_assoc]
     rfl
    ·simp only at h ⊢
     have hil:i = s.length:=by omega
     have hcut:=cut_nosp (s:=s.drop fr) fun j hj => by rw [List.length_drop] at hj; rw [get_drop]; exact h3' (fr + j) (by omega) (by omega) (by omega)
     rw [List.take_of_length_le (by rw [List.length_drop]; omega),← h5 hi,hcut]
    ·rw [List.map_append]
     refine Sub_of (by simp only [go_sem,wi]; exact EnvLe_au) (by simp only [go_sem,List.map_cons,List.map_nil]; exact ObjLe_au)
   ·exfalso
    simp at h
    rcases hp with rfl | hp
    ·exact h.1 rfl
    ·rw [List.getD_eq_getElem?_getD] at hp
     rw [hp] at h
     exact h.2 rfl
  ·(refine WV_cond rfl (fun h => ?_) (fun h => ?_))
   ·exfalso
    simp at h
    rcases h with h | h
    ·exact hp (.inl (by omega))
    ·refine hp (.inr (UInt8.toNat_inj.1 ?_))
     rw [List.getD_eq_getElem?_getD]
     exact Int.ofNat.inj h
   ·(repeat ((first | refine Va ?_ | refine Vb ?_ | refine Vc ?_ | refine Vd ?_ | refine Ve ?_ | refine Vf ?_); (try simp only [go_sem,hP,wi]); (repeat refine qJ ?_)))
    refine ⟨(i + 1,fr,out),⟨by simp only; omega,by simp only; omega,by simp only; omega,fun j hj1 hj2 hj3 => ?_,fun h => h5 (by omega),fun h => by simp only at h; omega⟩,by simp only; omega,?_⟩
    ·simp only at hj1 hj2
     by_cases hji:j = i
     ·subst hji; exact fun h => hp (.inr h)
     ·exact h3' j hj1 (by omega) hj3
    ·refine Sub_of (by simp only [go_sem]; exact EnvLe_au) (by simp only [go_sem]; exact ObjLe_au)
 ·have hi:i = s.length + 1:=by
   have:¬ (i ≤ s.length):=by simpa using h
   omega
  rw [h6 hi]
  (repeat ((first | refine Va ?_ | refine Vb ?_ | refine Vc ?_ | refine Vd ?_ | refine Ve ?_ | refine Vf ?_); (try simp only [go_sem,hP]); (repeat refine qJ ?_)))
  (refine WV_ret ?_; simp only [thenQ,inQ,RetQ,RetOk,resAll,resA]; simp only [go_sem,tupA,AV.port,AV.portL,exists_eq_left']; (first | exact AVle.of rfl | refine AVle.of ?_ | skip))
end Go.Proofs.YtefoconkepmmgaaGreatDoor

namespace Go.Proofs.YtefoconkepmmgaaGreatDoor
open Go Go.V
abbrev o15_0:List Ins:=[JS 2 (Ji 0),JS 3 (JB false)]
abbrev o15_1:List Ins:=[JS 8 (Jm 0),JS 9 (.prim .slen [.t 8]),JS 10 (Jk .gtr 9 0),JS 11 (Jm 10),JG 12 (Jm 0) 11 true,JG 13 (.prim .sidx [.t 12,(.k (Jz 0))]) 11 true,JG 14 (.bin .eql (.t 13) (.k (.c (.int .u8 45)))) 11 true,JS 15 (Jp 11 14),JS 4 (Jm 15)]
abbrev o15_2:List Ins:=[JS 16 (Jm 0),JS 5 (Jm 16)]
abbrev o15_3:List Ins:=[JS 17 (Jm 4)]
abbrev o15_4:List Ins:=[JS 18 (Jm 0),JS 19 (.prim (.sslc true false) [.t 18,(.k (Jz 1))]),JS 5 (Jm 19)]
abbrev v15_5:VC:=(.cond (.t 17) (.ops o15_4) .skip)
abbrev o15_6:List Ins:=[JS 20 (Jm 5),JS 21 (.prim .slen [.t 20]),JS 22 (Jk .lss 21 1),JS 23 (Jm 22),JG 24 (Jm 5) 23 false,JG 25 (.prim .slen [.t 24]) 23 false,JG 26 (Jk .gtr 25 9) 23 false,JS 27 (Jo 23 26),JS 28 (Jm 27),JG 29 (Jm 5) 28 false,JG 30 (.prim .sidx [.t 29,(.k (Jz 0))]) 28 false,JG 31 (.bin .eql (.t 30) (.k (.c (.int .u8 48)))) 28 false,JG 32 (Jm 31) 28 false,JG 33 (Jm 4) 32 true,JG 34 (Jm 33) 32 true,JG 35 (Jm 5) 34 false,JG 36 (.prim .slen [.t 35]) 34 false,JG 37 (Jk .gtr 36 1) 34 false,JG 38 (Jo 34 37) 32 true,JG 39 (Jp 32 38) 28 false,JS 40 (Jo 28 39)]
abbrev o15_7:List Ins:=[JS 2 (Ji 0),JS 3 (JB false)]
abbrev v15_8:VC:=(.seq (.ops o15_7) .ret)
abbrev v15_9:VC:=(.cond (.t 40) v15_8 .skip)
abbrev o15_10:List Ins:=[JS 6 (Ji 0)]
abbrev o15_11:List Ins:=[JS 7 (Ji 0)]
abbrev o15_12:List Ins:=[JS 41 (Jm 7),JS 42 (Jm 5),JS 43 (.prim .slen [.t 42]),JS 44 (Jb .lss 41 43)]
abbrev v15_13:VC:=(.cond (.t 44) .skip (.exit 0))
abbrev o15_14:List Ins:=[JS 47 (Jm 5),JS 48 (Jm 7),JS 49 (.prim .sidx [.t 47,.t 48]),JS 50 (.bin .lss (.t 49) (.k (.c (.int .u8 48)))),JS 51 (Jm 50),JG 52 (Jm 5) 51 false,JG 53 (Jm 7) 51 false,JG 54 (.prim .sidx [.t 52,.t 53]) 51 false,JG 55 (.bin .gtr (.t 54) (.k (.c (.int .u8 57)))) 51 false,JS 56 (Jo 51 55)]
abbrev o15_15:List Ins:=[JS 2 (Ji 0),JS 3 (JB false)]
abbrev v15_16:VC:=(.seq (.ops o15_15) .ret)
abbrev v15_17:VC:=(.cond (.t 56) v15_16 .skip)
abbrev o15_18:List Ins:=[JS 57 (Jm 6),JS 58 (.bin .mul (.k (Jz 10)) (.t 57)),JS 59 (Jm 5),JS 60 (Jm 7),JS 61 (.prim .sidx [.t 59,.t 60]),JS 62 (.bin .sub (.t 61) (.k (.c (.int .u8 48)))),JS 63 (.prim (.conv .i64) [.t 62]),JS 64 (Jb .add 58 63),JS 6 (Jm 64)]
abbrev v15_19:VC:=(.seq (.seq (.ops o15_14) v15_17) (.ops o15_18))
abbrev o15_20:List Ins:=[JS 45 (Jm 7),JS 46 (Jk .add 45 1),JS 7 (Jm 46)]
abbrev v15_21:VC:=(.seq (.block 1 v15_19) (.ops o15_20))
abbrev v15_22:VC:=(.seq (.seq (.ops o15_12) v15_13) v15_21)
-- K15_1: changed and kept: [7,6]
abbrev v15_23:VC:=(.loop v15_22)
abbrev v15_24:VC:=(.block 0 v15_23)
abbrev o15_25:List Ins:=[JS 65 (Jm 4)]
abbrev o15_26:List Ins:=[JS 66 (Jm 6),JS 67 (.un .neg (.t 66)),JS 6 (Jm 67)]
abbrev v15_27:VC:=(.cond (.t 65) (.ops o15_26) .skip)
abbrev o15_28:List Ins:=[JS 68 (Jm 6),JS 2 (Jm 68),JS 3 (JB true)]
abbrev v15_29:VC:=(.seq (.ops o15_28) .ret)
abbrev v15_30:VC:=(.seq (.seq (.ops o15_25) v15_27) v15_29)
abbrev v15_31:VC:=(.seq (.seq (.ops o15_11) v15_24) v15_30)
abbrev v15_32:VC:=(.seq (.ops o15_10) v15_31)
abbrev v15_33:VC:=(.seq (.seq (.ops o15_6) v15_9) v15_32)
abbrev v15_34:VC:=(.seq (.seq (.ops o15_3) v15_5) v15_33)
abbrev v15_35:VC:=(.seq (.ops o15_2) v15_34)
abbrev v15_36:VC:=(.seq (.ops o15_1) v15_35)
def ir15:FC:=⟨1,69,[.t 2,.t 3],(.seq (.ops o15_0) v15_36)⟩
theorem c15:compM Tryz.prog [] 15 = some ir15:=by kernel_rfl
attribute [local go_sem] Nat.reduceEqDiff Nat.reduceAdd Nat.reduceMul reduceIte Nat.reduceLeDiff Nat.reduceLT Nat.reduceBEq reduceCtorEq
def below (s:List UInt8):Bool:=decide (0 < s.length) && decide (s.getD 0 0 = 45)
theorem digs_below (s:List UInt8):digs s = if below s = true then s.drop 1 else s:=by
 unfold digs below Lib.trimPrefix
 cases s with
 | nil => rfl
 | cons b r =>
  by_cases h:b = 45
  ·subst h; rfl
  ·simp [h,List.isPrefixOf,BEq.comm,Lib.hasPrefix]
def dv (l:List UInt8):Int:=l.foldl (fun a b => 10 * a + ((b.toNat:Int) - 48)) 0
theorem dv_snoc {l:List UInt8} {k:Nat} (h:k < l.length):dv (l.take (k + 1)) = 10 * dv (l.take k) + (((l.getD k 0).toNat:Int) - 48):=by
 rw [List.take_succ_eq_append_getElem h,List.getD_eq_getElem?_getD,List.getElem?_eq_getElem h]
 unfold dv
 rw [List.foldl_append]; rfl
theorem dv_dec:∀ (l:List UInt8) (acc m:Nat),Lib.decFrom acc l = some m → l.foldl (fun a b => 10 * a + ((b.toNat:Int) - 48)) (acc:Int) = m
 | [],acc,m,h => by simp only [Lib.decFrom,Option.some.injEq] at h; rw [h]; rfl
 | b :: r,acc,m,h => by
  simp only [Lib.decFrom,Lib.digitVal] at h
  by_cases hb:48 ≤ b.toNat ∧ b.toNat ≤ 57
  ·rw [if_pos hb] at h
   have:=dv_dec r _ m h
   simp only [List.foldl_cons]
   rw [← this]
   congr 1
   omega
  ·rw [if_neg hb] at h; cases h
theorem dv_bound {l:List UInt8}:∀ k,k ≤ l.length → k ≤ 9 → (l.take k).all dgt = true → 0 ≤ dv (l.take k) ∧ dv (l.take k) < 10 ^ k
 | 0,_,_,_ => by simp [dv]
 | k + 1,h,h9,ha => by
  rw [take_succ_all dgt l k (by omega),Bool.and_eq_true] at ha
  have ih:=dv_bound k (by omega) (by omega) ha.1
  have hd:=ha.2
  unfold dgt at hd
  simp only [Bool.and_eq_true,decide_eq_true_eq] at hd
  rw [dv_snoc (by omega),Int.pow_succ]
  omega
theorem numV_dv {s:List UInt8} (h:numOk s = true):numV s = if below s = true then -(dv (digs s)) else dv (digs s):=by
 obtain ⟨h1,h2,h3,h4⟩:=numOk_len h
 have ha:=atoi_ok h
 obtain ⟨m,hm⟩:=decFrom_all (digs s) 0 h4
 have hdv:=dv_dec _ _ _ hm
 change dv (digs s) = m at hdv
 rw [hdv]
 have hne:digs s ≠ []:=fun h => by rw [h] at h1; cases h1
 have hdn:Lib.decNat (digs s) = some m:=by unfold Lib.decNat; rw [List.isEmpty_eq_false_iff.2 hne]; exact hm
 have hb:=digs_below s
 cases s with
 | nil => exact absurd rfl hne
 | cons b r =>
  by_cases h45:b = 45
  ·subst h45
   have e:below (45 :: r) = true:=rfl
   rw [e,if_pos rfl] at hb
   rw [e,if_pos rfl]
   rw [hb] at hdn
   simp only [List.drop_succ_cons,List.drop_zero] at hdn
   simp only [Lib.atoi,beq_self_eq_true,if_true,hdn,Option.map_some,Option.some.injEq] at ha
   exact ha.symm
  ·have e:below (b :: r) = false:=by simp [below,h45]
   rw [e] at hb ⊢
   simp only [Bool.false_eq_true,if_false] at hb ⊢
   rw [hb] at hdn h4
   have h43:b ≠ 43:=by
    rintro rfl
    simp [dgt] at h4
   have e1:(b == 45) = false:=by simpa using h45
   have e2:(b == 43) = false:=by simpa using h43
   simp only [Lib.atoi,e1,e2,hdn,Option.map_some,Bool.false_eq_true,if_false,Option.some.injEq] at ha
   exact ha.symm
theorem wrap_u8 {n:Int} (h:0 ≤ n ∧ n < 256):IntKind.u8.wrap n = n:=by
 simp [IntKind.wrap,IntKind.bits,IntKind.signed]
 omega
theorem rnumber15 {s:List UInt8} (hs:s.length ≤ 1000):FSpec Tryz.prog 15 [.c (.str s)] (.tup [iv (numV s),.c (.bool (numOk s))]):=by
 have hm:maxLen = 9223372036854775807:=rfl
 have hdb:=digs_below s
 have hdl:(digs s).length ≤ s.length:=by unfold digs Lib.trimPrefix; split <;> simp
 refine FSpec_of c15 (Nat.le_refl _) (by decide) fun C hP hN hC hL => ?_; rw [init_st]
 simp only [ir15]
 (repeat ((first | refine Va ?_ | refine Vb ?_ | refine Vc ?_ | refine Vd ?_ | refine Ve ?_ | refine Vf ?_); (try simp only [go_sem,hP]); (repeat refine qJ ?_)))
 have e4:(decide ((0:Int) < s.length) && ((((s.getD (Int.toNat 0) 0).toNat:Nat):Int) == 45)) = below s:=by
  unfold below
  congr 1
  ·exact decide_eq_decide.2 (by omega)
  ·by_cases h:s.getD 0 0 = 45
   ·simp only [Int.toNat_zero,h]; rfl
   ·simp only [Int.toNat_zero,h,decide_false,beq_eq_false_iff_ne,ne_eq]
    intro h2
    exact h (UInt8.toNat_inj.1 (Int.ofNat.inj h2))
 refine WV_thn (fun σ' => Sub σ' ⟨upd (upd (upd (upd (upd e0 0 (.c (.str s))) 2 (iv 0)) 3 (.c (.bool false))) 4 (.c (.bool (below s)))) 5 (.c (.str (digs s))),o0⟩) ?_ ?_
 ·cases hb:below s with
  | true =>
   rw [hb] at e4 hdb
   rw [if_pos rfl] at hdb
   rw [hdb]
   have hl:0 < s.length:=by unfold below at hb; simp only [Bool.and_eq_true,decide_eq_true_eq] at hb; exact hb.1
   (refine WV_cond rfl (fun h => ?_) (fun h => ?_))
   ·(repeat ((first | refine Va ?_ | refine Vb ?_ | refine Vc ?_ | refine Vd ?_ | refine Ve ?_ | refine Vf ?_); (try simp only [go_sem,hP,e4,Int.toNat_one]); (repeat refine qJ ?_)))
    refine Sub_of (by simp only [go_sem,e4,Int.toNat_one]; ((repeat' (first | exact EnvLe_e0 _ _ | refine EnvLe_upd ?_ ?_)) <;> ((try simp only [upd_app,e0_app,o0_app,Nat.reduceEqDiff,reduceIte]); first | exact AWk.refl _ _ | exact AWk.int (by omega) | exact AWk.int (by rw [w64 (by omega) (by omega)]; omega) | exact AWk.grow rfl | exact AWk.nil _ | exact AWk.of (by rfl)))) (by simp only [go_sem]; exact ObjLe_au)
   ·rw [e4] at h; cases h
  | false =>
   rw [hb] at e4 hdb
   rw [if_neg (by decide)] at hdb
   rw [hdb]
   (refine WV_cond rfl (fun h => ?_) (fun h => ?_))
   ·rw [e4] at h; cases h
   ·(repeat ((first | refine Va ?_ | refine Vb ?_ | refine Vc ?_ | refine Vd ?_ | refine Ve ?_ | refine Vf ?_); (try simp only [go_sem,hP,e4]); (repeat refine qJ ?_)))
    refine Sub_of (by simp only [go_sem,e4]; ((repeat' (first | exact EnvLe_e0 _ _ | refine EnvLe_upd ?_ ?_)) <;> ((try simp only [upd_app,e0_app,o0_app,Nat.reduceEqDiff,reduceIte]); first | exact AWk.refl _ _ | exact AWk.int (by omega) | exact AWk.int (by rw [w64 (by omega) (by omega)]; omega) | exact AWk.grow rfl | exact AWk.nil _ | exact AWk.of (by rfl)))) (by simp only [go_sem]; exact ObjLe_au)
 intro σ' hs'
 refine WV_sub hs' ?_
 (repeat ((first | refine Va ?_ | refine Vb ?_ | refine Vc ?_ | refine Vd ?_ | refine Ve ?_ | refine Vf ?_); (try simp only [go_sem,hP]); (repeat refine qJ ?_)))
 refine ⟨fun h => ⟨h,fun h2 => ⟨h,by simp [h2]⟩⟩,fun h => ⟨h,fun h2 => ⟨h,h2⟩⟩,fun h => by rw [h]; rfl,?_⟩
 have eB:(decide (((digs s).length:Int) < 1) || decide (9 < ((digs s).length:Int)) || ((((digs s).getD (Int.toNat 0) 0).toNat:Int) == 48 && (below s || decide (1 < ((digs s).length:Int))))) = numBad s:=by
  unfold numBad
  rw [show decide (((digs s).length:Int) < 1) = (((digs s).length:Int) == 0) from decide_eq_decide.2 (by omega)]
  cases hz:(((digs s).length:Int) == 0) with
  | true => simp only [Bool.true_or]
  | false =>
   have hz':¬ ((digs s).length:Int) = 0:=by simpa using hz
   congr 2
   rw [Bool.eq_iff_iff]
   cases hb:below s with
   | true =>
    rw [hb,if_pos rfl] at hdb
    have:=congrArg List.length hdb
    rw [List.length_drop] at this
    simp; omega
   | false =>
    rw [hb,if_neg (by decide)] at hdb
    rw [hdb]; simp
 refine WV_sub (σ':=⟨upd (upd (upd (upd (upd (upd e0 0 (.c (.str s))) 2 (iv 0)) 3 (.c (.bool false))) 4 (.c (.bool (below s)))) 5 (.c (.str (digs s)))) 40 (.c (.bool (numBad s))),o0⟩) (Sub_of (by simp only [go_sem]; ((repeat' (first | exact EnvLe_e0 _ _ | refine EnvLe_upd ?_ ?_)) <;> ((try simp only [upd_app,e0_app,o0_app,Nat.reduceEqDiff,reduceIte]); first | exact AWk.refl _ _ | exact AWk.int (by omega) | exact AWk.int (by rw [w64 (by omega) (by omega)]; omega) | exact AWk.grow rfl | exact AWk.nil _ | exact AWk.of (by rw [eB])))) (by simp only [go_sem]; exact ObjLe_au)) ?_
 cases hb:numBad s with
 | true =>
  have hok:numOk s = false:=by unfold numOk; rw [hb]; rfl
  have hv:numV s = 0:=by unfold numV; rw [hok]; rfl
  rw [hok,hv]
  (refine WV_cond rfl (fun h => ?_) (fun h => ?_))
  ·(repeat ((first | refine Va ?_ | refine Vb ?_ | refine Vc ?_ | refine Vd ?_ | refine Ve ?_ | refine Vf ?_); (try simp only [go_sem,hP]); (repeat refine qJ ?_)))
   (refine WV_ret ?_; simp only [thenQ,inQ,RetQ,RetOk,resAll,resA]; simp only [go_sem,tupA,AV.port,AV.portL,exists_eq_left']; (first | exact AVle.of rfl | refine AVle.of ?_ | skip))
  ·cases h
 | false =>
  have hd9:(digs s).length ≤ 9:=by
   unfold numBad at hb; simp at hb; omega
  (refine WV_cond rfl (fun h => ?_) (fun h => ?_))
  ·cases h
  clear h
  (repeat ((first | refine Va ?_ | refine Vb ?_ | refine Vc ?_ | refine Vd ?_ | refine Ve ?_ | refine Vf ?_); (try simp only [go_sem,hP]); (repeat refine qJ ?_)))
  refine WV_loopS (fun k:Nat => ⟨upd (upd (upd (upd (upd (upd e0 2 (iv 0)) 3 (.c (.bool false))) 4 (.c (.bool (below s)))) 5 (.c (.str (digs s)))) 6 (iv (dv ((digs s).take k)))) 7 (iv k),o0⟩) (fun k => k ≤ (digs s).length ∧ ((digs s).take k).all dgt = true) (fun k => (digs s).length - k) 0 ⟨Nat.zero_le _,rfl⟩ ?_ ?_
  ·(refine Sub_of (by simp only [go_sem]; ((repeat' (first | exact EnvLe_e0 _ _ | refine EnvLe_upd ?_ ?_)) <;> ((try simp only [upd_app,e0_app,o0_app,Nat.reduceEqDiff,reduceIte]); first | exact AWk.refl _ _ | exact AWk.int (by omega) | exact AWk.int (by rw [w64 (by omega) (by omega)]; omega) | exact AWk.grow rfl | exact AWk.nil _ | exact AWk.of (by rfl)))) (by simp only [go_sem]; exact ObjLe_au))
  rintro k ⟨hk,hr⟩
  have hbd:=dv_bound (l:=digs s) k hk (by omega) hr
  have hpw:(10:Int) ^ k ≤ 1000000000:=by
   have:k = 0 ∨ k = 1 ∨ k = 2 ∨ k = 3 ∨ k = 4 ∨ k = 5 ∨ k = 6 ∨ k = 7 ∨ k = 8 ∨ k = 9:=by omega
   rcases this with rfl | rfl | rfl | rfl | rfl | rfl | rfl | rfl | rfl | rfl <;> decide
  (repeat ((first | refine Va ?_ | refine Vb ?_ | refine Vc ?_ | refine Vd ?_ | refine Ve ?_ | refine Vf ?_); (try simp only [go_sem,hP]); (repeat refine qJ ?_)))
  (refine WV_cond rfl (fun h => ?_) (fun h => ?_))
  ·have hi:k < (digs s).length:=by simpa using h
   have hw:=w64 (n:=(k:Int) + 1) (by omega) (by omega)
   have hts:=take_succ_all dgt (digs s) k hi
   have hsn:=dv_snoc hi
   rw [hr,Bool.true_and] at hts
   have hfail:dgt ((digs s).getD k 0) = false → numOk s = false:=fun h => by
    unfold numOk
    have:(digs s).all dgt = false:=by
     cases hx:(digs s).all dgt with
     | false => rfl
     | true =>
      have:=List.all_eq_true.1 hx ((digs s).getD k 0) (by rw [List.getD_eq_getElem?_getD,List.getElem?_eq_getElem hi]; exact List.getElem_mem hi)
      rw [h] at this; cases this
    rw [this,Bool.and_false]
   obtain ⟨z,hz⟩ : ∃ z,(digs s).getD k 0 = z:=⟨_,rfl⟩
   rw [hz] at hts hsn hfail
   (repeat ((first | refine Va ?_ | refine Vb ?_ | refine Vc ?_ | refine Vd ?_ | refine Ve ?_ | refine Vf ?_); (try simp only [go_sem,hP,Int.toNat_natCast,hz]); (repeat refine qJ ?_)))
   generalize dv ((digs s).take k) = d at hbd hsn ⊢
   by_cases hdg:dgt z = true
   ·rw [hdg] at hts
    unfold dgt at hdg
    simp only [Bool.and_eq_true,decide_eq_true_eq] at hdg
    have w1:IntKind.u8.wrap ((z.toNat:Int) - 48) = (z.toNat:Int) - 48:=wrap_u8 (by omega)
    have w2:=w64 (n:=(z.toNat:Int) - 48) (by omega) (by omega)
    have w3:=w64 (n:=10 * d) (by omega) (by omega)
    have w4:=w64 (n:=10 * d + ((z.toNat:Int) - 48)) (by omega) (by omega)
    (refine WV_cond rfl (fun h => ?_) (fun h => ?_))
    ·simp at h; omega
    (repeat ((first | refine Va ?_ | refine Vb ?_ | refine Vc ?_ | refine Vd ?_ | refine Ve ?_ | refine Vf ?_); (try simp only [go_sem,hP,hw,Int.toNat_natCast,hz,w1,w2,w3,w4]); (repeat refine qJ ?_)))
    refine ⟨k + 1,⟨by omega,hts⟩,by omega,?_⟩
    rw [hsn]
    (refine Sub_of (by simp only [go_sem]; ((repeat' (first | exact EnvLe_e0 _ _ | refine EnvLe_upd ?_ ?_)) <;> ((try simp only [upd_app,e0_app,o0_app,Nat.reduceEqDiff,reduceIte]); first | exact AWk.refl _ _ | exact AWk.int (by omega) | exact AWk.int (by rw [w64 (by omega) (by omega)]; omega) | exact AWk.grow rfl | exact AWk.nil _ | exact AWk.of (by rfl)))) (by simp only [go_sem]; exact ObjLe_au))
   ·have hdg':dgt z = false:=by simpa using hdg
    have hok:=hfail hdg'
    have hv:numV s = 0:=by unfold numV; rw [hok]; rfl
    rw [hok,hv]
    unfold dgt at hdg'
    simp only [Bool.and_eq_false_iff,decide_eq_false_iff_not] at hdg'
    (refine WV_cond rfl (fun h => ?_) (fun h => ?_))
    ·(repeat ((first | refine Va ?_ | refine Vb ?_ | refine Vc ?_ | refine Vd ?_ | refine Ve ?_ | refine Vf ?_); (try simp only [go_sem,hP]); (repeat refine qJ ?_)))
     (refine WV_ret ?_; simp only [thenQ,inQ,RetQ,RetOk,resAll,resA]; simp only [go_sem,tupA,AV.port,AV.portL,exists_eq_left']; (first | exact AVle.of rfl | refine AVle.of ?_ | skip))
    ·simp at h; omega
  ·have hkl:k = (digs s).length:=by
    have:¬ (k < (digs s).length):=by simpa using h
    omega
   subst hkl
   rw [List.take_length] at hr hbd ⊢
   have hok:numOk s = true:=by unfold numOk; rw [hb,hr]; rfl
   have hv:=numV_dv hok
   rw [hok,hv]
   (repeat ((first | refine Va ?_ | refine Vb ?_ | refine Vc ?_ | refine Vd ?_ | refine Ve ?_ | refine Vf ?_); (try simp only [go_sem,hP]); (repeat refine qJ ?_)))
   cases hbl:below s with
   | true =>
    (refine WV_cond rfl (fun h => ?_) (fun h => ?_))
    ·have wn:=w64 (n:=-(dv (digs s))) (by omega) (by omega)
     (repeat ((first | refine Va ?_ | refine Vb ?_ | refine Vc ?_ | refine Vd ?_ | refine Ve ?_ | refine Vf ?_); (try simp only [go_sem,hP,wn,Int.zero_sub]); (repeat refine qJ ?_)))
     (refine WV_ret ?_; simp only [thenQ,inQ,RetQ,RetOk,resAll,resA]; simp only [go_sem,tupA,AV.port,AV.portL,exists_eq_left']; (first | exact AVle.of rfl | refine AVle.of ?_ | skip))
    ·cases h
   | false =>
    (refine WV_cond rfl (fun h => ?_) (fun h => ?_))
    ·cases h
    ·(repeat ((first | refine Va ?_ | refine Vb ?_ | refine Vc ?_ | refine Vd ?_ | refine Ve ?_ | refine Vf ?_); (try simp only [go_sem,hP]); (repeat refine qJ ?_)))
     (refine WV_ret ?_; simp only [thenQ,inQ,RetQ,RetOk,resAll,resA]; simp only [go_sem,tupA,AV.port,AV.portL,exists_eq_left']; (first | exact AVle.of rfl | refine AVle.of ?_ | skip))
end Go.Proofs.YtefoconkepmmgaaGreatDoor

namespace Go.Proofs.YtefoconkepmmgaaGreatDoor
open Go Go.V
abbrev o38_0:List Ins:=[JS 2 (Ji 0)]
abbrev o38_1:List Ins:=[JS 3 (Jm 0)]
abbrev o38_2:List Ins:=[JS 5 (.prim (.sbin .eql) [.t 3,(.k (.c (.str [101,109,112,116,121])))]),JS 4 (Jm 5)]
abbrev o38_3:List Ins:=[JS 6 (.prim (.sbin .eql) [.t 3,(.k (.c (.str [115,116,97,110,100])))]),JS 4 (Jm 6)]
abbrev o38_4:List Ins:=[JS 7 (.prim (.sbin .eql) [.t 3,(.k (.c (.str [108,111,110,103,101,115,116])))]),JS 4 (Jm 7)]
abbrev o38_5:List Ins:=[JS 8 (.prim (.sbin .eql) [.t 3,(.k (.c (.str [101,110,100])))]),JS 4 (Jm 8)]
abbrev o38_6:List Ins:=[JS 9 (.prim (.sbin .eql) [.t 3,(.k (.c (.str [115,111,111,110,101,115,116])))]),JS 4 (Jm 9)]
abbrev o38_7:List Ins:=[JS 10 (.prim (.sbin .eql) [.t 3,(.k (.c (.str [99,97,115,104])))]),JS 4 (Jm 10)]
abbrev o38_8:List Ins:=[JS 11 (.prim (.sbin .eql) [.t 3,(.k (.c (.str [99,97,110])))]),JS 4 (Jm 11)]
abbrev o38_9:List Ins:=[JS 12 (.prim (.sbin .eql) [.t 3,(.k (.c (.str [109,105,115,115,105,110,103])))]),JS 4 (Jm 12)]
abbrev o38_10:List Ins:=[JS 13 (.prim (.sbin .eql) [.t 3,(.k (.c (.str [119,104,105,99,104])))]),JS 4 (Jm 13)]
abbrev o38_11:List Ins:=[JS 14 (.prim (.sbin .eql) [.t 3,(.k (.c (.str [115,107,105,112,112,101,100])))]),JS 4 (Jm 14)]
abbrev o38_12:List Ins:=[JS 15 (.prim (.sbin .eql) [.t 3,(.k (.c (.str [115,104,111,114,116])))]),JS 4 (Jm 15)]
abbrev v38_13:VC:=(.cond (.t 4) .skip (.ops o38_12))
abbrev v38_14:VC:=(.seq (.ops o38_11) v38_13)
abbrev v38_15:VC:=(.cond (.t 4) .skip v38_14)
abbrev v38_16:VC:=(.seq (.ops o38_10) v38_15)
abbrev v38_17:VC:=(.cond (.t 4) .skip v38_16)
abbrev v38_18:VC:=(.seq (.ops o38_9) v38_17)
abbrev v38_19:VC:=(.cond (.t 4) .skip v38_18)
abbrev v38_20:VC:=(.seq (.ops o38_8) v38_19)
abbrev v38_21:VC:=(.cond (.t 4) .skip v38_20)
abbrev v38_22:VC:=(.seq (.ops o38_7) v38_21)
abbrev v38_23:VC:=(.cond (.t 4) .skip v38_22)
abbrev v38_24:VC:=(.seq (.ops o38_6) v38_23)
abbrev v38_25:VC:=(.cond (.t 4) .skip v38_24)
abbrev v38_26:VC:=(.seq (.ops o38_5) v38_25)
abbrev v38_27:VC:=(.cond (.t 4) .skip v38_26)
abbrev v38_28:VC:=(.seq (.ops o38_4) v38_27)
abbrev v38_29:VC:=(.cond (.t 4) .skip v38_28)
abbrev v38_30:VC:=(.seq (.ops o38_3) v38_29)
abbrev v38_31:VC:=(.cond (.t 4) .skip v38_30)
abbrev o38_32:List Ins:=[JS 2 (Ji 0)]
abbrev v38_33:VC:=(.seq (.ops o38_32) .ret)
abbrev o38_34:List Ins:=[JS 17 (.prim (.sbin .eql) [.t 3,(.k (.c (.str [99,111,105,110])))]),JS 16 (Jm 17)]
abbrev o38_35:List Ins:=[JS 18 (.prim (.sbin .eql) [.t 3,(.k (.c (.str [109,97,114,107])))]),JS 16 (Jm 18)]
abbrev o38_36:List Ins:=[JS 19 (.prim (.sbin .eql) [.t 3,(.k (.c (.str [115,108,117,103])))]),JS 16 (Jm 19)]
abbrev o38_37:List Ins:=[JS 20 (.prim (.sbin .eql) [.t 3,(.k (.c (.str [108,111,115,101])))]),JS 16 (Jm 20)]
abbrev o38_38:List Ins:=[JS 21 (.prim (.sbin .eql) [.t 3,(.k (.c (.str [115,107,105,112,115])))]),JS 16 (Jm 21)]
abbrev o38_39:List Ins:=[JS 22 (.prim (.sbin .eql) [.t 3,(.k (.c (.str [103,105,118,101,115])))]),JS 16 (Jm 22)]
abbrev o38_40:List Ins:=[JS 23 (.prim (.sbin .eql) [.t 3,(.k (.c (.str [99,104,101,97,112,101,115,116])))]),JS 16 (Jm 23)]
abbrev o38_41:List Ins:=[JS 24 (.prim (.sbin .eql) [.t 3,(.k (.c (.str [119,97,105,116])))]),JS 16 (Jm 24)]
abbrev o38_42:List Ins:=[JS 25 (.prim (.sbin .eql) [.t 3,(.k (.c (.str [97,116])))]),JS 16 (Jm 25)]
abbrev v38_43:VC:=(.cond (.t 16) .skip (.ops o38_42))
abbrev v38_44:VC:=(.seq (.ops o38_41) v38_43)
abbrev v38_45:VC:=(.cond (.t 16) .skip v38_44)
abbrev v38_46:VC:=(.seq (.ops o38_40) v38_45)
abbrev v38_47:VC:=(.cond (.t 16) .skip v38_46)
abbrev v38_48:VC:=(.seq (.ops o38_39) v38_47)
abbrev v38_49:VC:=(.cond (.t 16) .skip v38_48)
abbrev v38_50:VC:=(.seq (.ops o38_38) v38_49)
abbrev v38_51:VC:=(.cond (.t 16) .skip v38_50)
abbrev v38_52:VC:=(.seq (.ops o38_37) v38_51)
abbrev v38_53:VC:=(.cond (.t 16) .skip v38_52)
abbrev v38_54:VC:=(.seq (.ops o38_36) v38_53)
abbrev v38_55:VC:=(.cond (.t 16) .skip v38_54)
abbrev v38_56:VC:=(.seq (.ops o38_35) v38_55)
abbrev v38_57:VC:=(.cond (.t 16) .skip v38_56)
abbrev o38_58:List Ins:=[JS 2 (Ji 1)]
abbrev v38_59:VC:=(.seq (.ops o38_58) .ret)
abbrev o38_60:List Ins:=[JS 27 (.prim (.sbin .eql) [.t 3,(.k (.c (.str [112,114,101,115,115])))]),JS 26 (Jm 27)]
abbrev o38_61:List Ins:=[JS 28 (.prim (.sbin .eql) [.t 3,(.k (.c (.str [108,97,116,101,115,116])))]),JS 26 (Jm 28)]
abbrev v38_62:VC:=(.cond (.t 26) .skip (.ops o38_61))
abbrev o38_63:List Ins:=[JS 2 (Ji 2)]
abbrev v38_64:VC:=(.seq (.ops o38_63) .ret)
abbrev v38_65:VC:=(.cond (.t 26) v38_64 .skip)
abbrev v38_66:VC:=(.seq (.seq (.ops o38_60) v38_62) v38_65)
abbrev v38_67:VC:=(.cond (.t 16) v38_59 v38_66)
abbrev v38_68:VC:=(.seq (.seq (.ops o38_34) v38_57) v38_67)
abbrev v38_69:VC:=(.cond (.t 4) v38_33 v38_68)
abbrev v38_70:VC:=(.seq (.seq (.ops o38_2) v38_31) v38_69)
abbrev v38_71:VC:=(.block 0 v38_70)
abbrev o38_72:List Ins:=[JS 2 (Ji (-1))]
abbrev v38_73:VC:=(.seq (.ops o38_72) .ret)
abbrev v38_74:VC:=(.seq (.seq (.ops o38_1) v38_71) v38_73)
def ir38:FC:=⟨1,29,[.t 2],(.seq (.ops o38_0) v38_74)⟩
abbrev o19_0:List Ins:=[JS 2 (.mv (.k (.c (.str [])))),JS 3 (.mv (.k J0)),JS 4 (JB false)]
abbrev o19_1:List Ins:=[JS 9 (Jm 0),JS 10 (Jc 16 [.t 9]),JS 5 (Jm 10)]
abbrev o19_2:List Ins:=[JS 11 (Jm 5),JS 12 (.ia 1 (.t 11) (.k (Jz 0))),JS 13 (Jl 12),JS 14 (Jc 38 [.t 13]),JS 15 (Jm 5),JS 16 (Jn 15),JS 17 (Jk .sub 16 1),JS 18 (Jb .neq 14 17)]
abbrev o19_3:List Ins:=[JS 2 (.mv (.k (.c (.str [])))),JS 3 (.mv (.k J0)),JS 4 (JB false)]
abbrev v19_4:VC:=(.seq (.ops o19_3) .ret)
abbrev v19_5:VC:=(.cond (.t 18) v19_4 .skip)
abbrev o19_6:List Ins:=[JS 6 (Ji 1)]
abbrev o19_7:List Ins:=[JS 19 (Jm 6),JS 20 (Jm 5),JS 21 (Jn 20),JS 22 (Jb .lss 19 21)]
abbrev v19_8:VC:=(.cond (.t 22) .skip (.exit 0))
abbrev o19_9:List Ins:=[JS 26 (Jm 5),JS 27 (Jm 6),JS 28 (Ja 1 26 27),JS 29 (Jl 28),JS 30 (Jc 15 [.t 29]),JS 25 (Jm 30),JS 31 (Je 25 0),JS 32 (Je 25 1),JS 7 (Jm 31),JS 8 (Jm 32)]
abbrev o19_10:List Ins:=[JS 33 (Jm 8),JS 34 (.un .not (.t 33))]
abbrev o19_11:List Ins:=[JS 2 (.mv (.k (.c (.str [])))),JS 3 (.mv (.k J0)),JS 4 (JB false)]
abbrev v19_12:VC:=(.seq (.ops o19_11) .ret)
abbrev v19_13:VC:=(.cond (.t 34) v19_12 .skip)
abbrev o19_14:List Ins:=[JS 35 (Jm 3),JS 36 (Jm 7),JS 37 (.bsl 3 1 [.t 36]),JS 38 (.app 3 1 8 (.t 35) (.t 37)),JS 3 (Jm 38)]
abbrev v19_15:VC:=(.seq (.seq (.ops o19_10) v19_13) (.ops o19_14))
abbrev v19_16:VC:=(.seq (.ops o19_9) v19_15)
abbrev o19_17:List Ins:=[JS 23 (Jm 6),JS 24 (Jk .add 23 1),JS 6 (Jm 24)]
abbrev v19_18:VC:=(.seq (.block 1 v19_16) (.ops o19_17))
abbrev v19_19:VC:=(.seq (.seq (.ops o19_7) v19_8) v19_18)
-- K19_1: changed and kept: [6,3]
abbrev v19_20:VC:=(.loop v19_19)
abbrev v19_21:VC:=(.block 0 v19_20)
abbrev o19_22:List Ins:=[JS 39 (Jm 5),JS 40 (.ia 1 (.t 39) (.k (Jz 0))),JS 41 (Jl 40),JS 42 (Jm 3),JS 2 (Jm 41),JS 3 (Jm 42),JS 4 (JB true)]
abbrev v19_23:VC:=(.seq (.ops o19_22) .ret)
abbrev v19_24:VC:=(.seq (.seq (.ops o19_6) v19_21) v19_23)
abbrev v19_25:VC:=(.seq (.seq (.ops o19_2) v19_5) v19_24)
abbrev v19_26:VC:=(.seq (.ops o19_1) v19_25)
def ir19:FC:=⟨1,43,[.t 2,.t 3,.t 4],(.seq (.ops o19_0) v19_26)⟩
theorem c38:compM Tryz.prog [] 38 = some ir38:=by kernel_rfl
theorem c19:compM Tryz.prog [] 19 = some ir19:=by kernel_rfl
attribute [local go_sem] Nat.reduceEqDiff Nat.reduceAdd Nat.reduceMul reduceIte Nat.reduceLeDiff Nat.reduceLT Nat.reduceBEq reduceCtorEq
def manyW (w:List UInt8):Int:=match wLook w with | some e => e.many | none => -1
theorem many_none {w:List UInt8} (h:(wTab0.all fun p => !(w == p.1)) = true):manyW w = -1:=by
 have:wLook w = none:=by
  unfold wLook
  rw [Option.map_eq_none_iff,List.find?_eq_none]
  intro p hp hpw
  have h2:=List.all_eq_true.1 h p hp
  rw [eq_of_beq hpw] at h2
  simp at h2
 unfold manyW
 rw [this]
set_option maxRecDepth 100000 in
theorem many38 {w:List UInt8} (hs:w.length ≤ 1000):FSpec Tryz.prog 38 [.c (.str w)] (iv (manyW w)):=by
 have hm:maxLen = 9223372036854775807:=rfl
 refine FSpec_of c38 (Nat.le_refl _) (by decide) fun C hP hN hC hL => ?_; rw [init_st]
 simp only [ir38]
 (repeat ((first | refine Va ?_ | refine Vb ?_ | refine Vc ?_ | refine Vd ?_ | refine Ve ?_ | refine Vf ?_); (try simp only [go_sem,hP]); (repeat refine qJ ?_)))
 cases h000:(w == [101,109,112,116,121])
 rotate_left
 ·rw [show manyW w = 0 from by rw [eq_of_beq h000]; rfl]
  (repeat (first | (refine WV_cond rfl (fun hh => ?_) (fun hh => ?_); rotate_left; exact absurd hh (by decide)) | ((first | refine Va ?_ | refine Vb ?_ | refine Vc ?_ | refine Vd ?_ | refine Ve ?_ | refine Vf ?_); (try simp only [go_sem,hP]))))
  (refine WV_ret ?_; simp only [thenQ,inQ,RetQ,RetOk,resAll,resA]; simp only [go_sem,tupA,AV.port,AV.portL,exists_eq_left']; (first | exact AVle.of rfl | refine AVle.of ?_ | skip))
 (refine WV_cond rfl (fun hh => ?_) (fun hh => ?_); exact absurd hh (by decide))
 (repeat ((first | refine Va ?_ | refine Vb ?_ | refine Vc ?_ | refine Vd ?_ | refine Ve ?_ | refine Vf ?_); (try simp only [go_sem,hP]); (repeat refine qJ ?_)))
 cases h001:(w == [115,116,97,110,100])
 rotate_left
 ·rw [show manyW w = 0 from by rw [eq_of_beq h001]; rfl]
  (repeat (first | (refine WV_cond rfl (fun hh => ?_) (fun hh => ?_); rotate_left; exact absurd hh (by decide)) | ((first | refine Va ?_ | refine Vb ?_ | refine Vc ?_ | refine Vd ?_ | refine Ve ?_ | refine Vf ?_); (try simp only [go_sem,hP]))))
  (refine WV_ret ?_; simp only [thenQ,inQ,RetQ,RetOk,resAll,resA]; simp only [go_sem,tupA,AV.port,AV.portL,exists_eq_left']; (first | exact AVle.of rfl | refine AVle.of ?_ | skip))
 (refine WV_cond rfl (fun hh => ?_) (fun hh => ?_); exact absurd hh (by decide))
 (repeat ((first | refine Va ?_ | refine Vb ?_ | refine Vc ?_ | refine Vd ?_ | refine Ve ?_ | refine Vf ?_); (try simp only [go_sem,hP]); (repeat refine qJ ?_)))
 cases h002:(w == [108,111,110,103,101,115,116])
 rotate_left
 ·rw [show manyW w = 0 from by rw [eq_of_beq h002]; rfl]
  (repeat (first | (refine WV_cond rfl (fun hh => ?_) (fun hh => ?_); rotate_left; exact absurd hh (by decide)) | ((first | refine Va ?_ | refine Vb ?_ | refine Vc ?_ | refine Vd ?_ | refine Ve ?_ | refine Vf ?_); (try simp only [go_sem,hP]))))
  (refine WV_ret ?_; simp only [thenQ,inQ,RetQ,RetOk,resAll,resA]; simp only [go_sem,tupA,AV.port,AV.portL,exists_eq_left']; (first | exact AVle.of rfl | refine AVle.of ?_ | skip))
 (refine WV_cond rfl (fun hh => ?_) (fun hh => ?_); exact absurd hh (by decide))
 (repeat ((first | refine Va ?_ | refine Vb ?_ | refine Vc ?_ | refine Vd ?_ | refine Ve ?_ | refine Vf ?_); (try simp only [go_sem,hP]); (repeat refine qJ ?_)))
 cases h003:(w == [101,110,100])
 rotate_left
 ·rw [show manyW w = 0 from by rw [eq_of_beq h003]; rfl]
  (repeat (first | (refine WV_cond rfl (fun hh => ?_) (fun hh => ?_); rotate_left; exact absurd hh (by decide)) | ((first | refine Va ?_ | refine Vb ?_ | refine Vc ?_ | refine Vd ?_ | refine Ve ?_ | refine Vf ?_); (try simp only [go_sem,hP]))))
  (refine WV_ret ?_; simp only [thenQ,inQ,RetQ,RetOk,resAll,resA]; simp only [go_sem,tupA,AV.port,AV.portL,exists_eq_left']; (first | exact AVle.of rfl | refine AVle.of ?_ | skip))
 (refine WV_cond rfl (fun hh => ?_) (fun hh => ?_); exact absurd hh (by decide))
 (repeat ((first | refine Va ?_ | refine Vb ?_ | refine Vc ?_ | refine Vd ?_ | refine Ve ?_ | refine Vf ?_); (try simp only [go_sem,hP]); (repeat refine qJ ?_)))
 cases h004:(w == [115,111,111,110,101,115,116])
 rotate_left
 ·rw [show manyW w = 0 from by rw [eq_of_beq h004]; rfl]
  (repeat (first | (refine WV_cond rfl (fun hh => ?_) (fun hh => ?_); rotate_left; exact absurd hh (by decide)) | ((first | refine Va ?_ | refine Vb ?_ | refine Vc ?_ | refine Vd ?_ | refine Ve ?_ | refine Vf ?_); (try simp only [go_sem,hP]))))
  (refine WV_ret ?_; simp only [thenQ,inQ,RetQ,RetOk,resAll,resA]; simp only [go_sem,tupA,AV.port,AV.portL,exists_eq_left']; (first | exact AVle.of rfl | refine AVle.of ?_ | skip))
 (refine WV_cond rfl (fun hh => ?_) (fun hh => ?_); exact absurd hh (by decide))
 (repeat ((first | refine Va ?_ | refine Vb ?_ | refine Vc ?_ | refine Vd ?_ | refine Ve ?_ | refine Vf ?_); (try simp only [go_sem,hP]); (repeat refine qJ ?_)))
 cases h005:(w == [99,97,115,104])
 rotate_left
 ·rw [show manyW w = 0 from by rw [eq_of_beq h005]; rfl]
  (repeat (first | (refine WV_cond rfl (fun hh => ?_) (fun hh => ?_); rotate_left; exact absurd hh (by decide)) | ((first | refine Va ?_ | refine Vb ?_ | refine Vc ?_ | refine Vd ?_ | refine Ve ?_ | refine Vf ?_); (try simp only [go_sem,hP]))))
  (refine WV_ret ?_; simp only [thenQ,inQ,RetQ,RetOk,resAll,resA]; simp only [go_sem,tupA,AV.port,AV.portL,exists_eq_left']; (first | exact AVle.of rfl | refine AVle.of ?_ | skip))
 (refine WV_cond rfl (fun hh => ?_) (fun hh => ?_); exact absurd hh (by decide))
 (repeat ((first | refine Va ?_ | refine Vb ?_ | refine Vc ?_ | refine Vd ?_ | refine Ve ?_ | refine Vf ?_); (try simp only [go_sem,hP]); (repeat refine qJ ?_)))
 cases h006:(w == [99,97,110])
 rotate_left
 ·rw [show manyW w = 0 from by rw [eq_of_beq h006]; rfl]
  (repeat (first | (refine WV_cond rfl (fun hh => ?_) (fun hh => ?_); rotate_left; exact absurd hh (by decide)) | ((first | refine Va ?_ | refine Vb ?_ | refine Vc ?_ | refine Vd ?_ | refine Ve ?_ | refine Vf ?_); (try simp only [go_sem,hP]))))
  (refine WV_ret ?_; simp only [thenQ,inQ,RetQ,RetOk,resAll,resA]; simp only [go_sem,tupA,AV.port,AV.portL,exists_eq_left']; (first | exact AVle.of rfl | refine AVle.of ?_ | skip))
 (refine WV_cond rfl (fun hh => ?_) (fun hh => ?_); exact absurd hh (by decide))
 (repeat ((first | refine Va ?_ | refine Vb ?_ | refine Vc ?_ | refine Vd ?_ | refine Ve ?_ | refine Vf ?_); (try simp only [go_sem,hP]); (repeat refine qJ ?_)))
 cases h007:(w == [109,105,115,115,105,110,103])
 rotate_left
 ·rw [show manyW w = 0 from by rw [eq_of_beq h007]; rfl]
  (repeat (first | (refine WV_cond rfl (fun hh => ?_) (fun hh => ?_); rotate_left; exact absurd hh (by decide)) | ((first | refine Va ?_ | refine Vb ?_ | refine Vc ?_ | refine Vd ?_ | refine Ve ?_ | refine Vf ?_); (try simp only [go_sem,hP]))))
  (refine WV_ret ?_; simp only [thenQ,inQ,RetQ,RetOk,resAll,resA]; simp only [go_sem,tupA,AV.port,AV.portL,exists_eq_left']; (first | exact AVle.of rfl | refine AVle.of ?_ | skip))
 (refine WV_cond rfl (fun hh => ?_) (fun hh => ?_); exact absurd hh (by decide))
 (repeat ((first | refine Va ?_ | refine Vb ?_ | refine Vc ?_ | refine Vd ?_ | refine Ve ?_ | refine Vf ?_); (try simp only [go_sem,hP]); (repeat refine qJ ?_)))
 cases h008:(w == [119,104,105,99,104])
 rotate_left
 ·rw [show manyW w = 0 from by rw [eq_of_beq h008]; rfl]
  (repeat (first | (refine WV_cond rfl (fun hh => ?_) (fun hh => ?_); rotate_left; exact absurd hh (by decide)) | ((first | refine Va ?_ | refine Vb ?_ | refine Vc ?_ | refine Vd ?_ | refine Ve ?_ | refine Vf ?_); (try simp only [go_sem,hP]))))
  (refine WV_ret ?_; simp only [thenQ,inQ,RetQ,RetOk,resAll,resA]; simp only [go_sem,tupA,AV.port,AV.portL,exists_eq_left']; (first | exact AVle.of rfl | refine AVle.of ?_ | skip))
 (refine WV_cond rfl (fun hh => ?_) (fun hh => ?_); exact absurd hh (by decide))
 (repeat ((first | refine Va ?_ | refine Vb ?_ | refine Vc ?_ | refine Vd ?_ | refine Ve ?_ | refine Vf ?_); (try simp only [go_sem,hP]); (repeat refine qJ ?_)))
 cases h009:(w == [115,107,105,112,112,101,100])
 rotate_left
 ·rw [show manyW w = 0 from by rw [eq_of_beq h009]; rfl]
  (repeat (first | (refine WV_cond rfl (fun hh => ?_) (fun hh => ?_); rotate_left; exact absurd hh (by decide)) | ((first | refine Va ?_ | refine Vb ?_ | refine Vc ?_ | refine Vd ?_ | refine Ve ?_ | refine Vf ?_); (try simp only [go_sem,hP]))))
  (refine WV_ret ?_; simp only [thenQ,inQ,RetQ,RetOk,resAll,resA]; simp only [go_sem,tupA,AV.port,AV.portL,exists_eq_left']; (first | exact AVle.of rfl | refine AVle.of ?_ | skip))
 (refine WV_cond rfl (fun hh => ?_) (fun hh => ?_); exact absurd hh (by decide))
 (repeat ((first | refine Va ?_ | refine Vb ?_ | refine Vc ?_ | refine Vd ?_ | refine Ve ?_ | refine Vf ?_); (try simp only [go_sem,hP]); (repeat refine qJ ?_)))
 cases h010:(w == [115,104,111,114,116])
 rotate_left
 ·rw [show manyW w = 0 from by rw [eq_of_beq h010]; rfl]
  (repeat (first | (refine WV_cond rfl (fun hh => ?_) (fun hh => ?_); rotate_left; exact absurd hh (by decide)) | ((first | refine Va ?_ | refine Vb ?_ | refine Vc ?_ | refine Vd ?_ | refine Ve ?_ | refine Vf ?_); (try simp only [go_sem,hP]))))
  (refine WV_ret ?_; simp only [thenQ,inQ,RetQ,RetOk,resAll,resA]; simp only [go_sem,tupA,AV.port,AV.portL,exists_eq_left']; (first | exact AVle.of rfl | refine AVle.of ?_ | skip))
 (refine WV_cond rfl (fun hh => ?_) (fun hh => ?_); exact absurd hh (by decide))
 (repeat ((first | refine Va ?_ | refine Vb ?_ | refine Vc ?_ | refine Vd ?_ | refine Ve ?_ | refine Vf ?_); (try simp only [go_sem,hP]); (repeat refine qJ ?_)))
 cases h100:(w == [99,111,105,110])
 rotate_left
 ·rw [show manyW w = 1 from by rw [eq_of_beq h100]; rfl]
  (repeat (first | (refine WV_cond rfl (fun hh => ?_) (fun hh => ?_); rotate_left; exact absurd hh (by decide)) | ((first | refine Va ?_ | refine Vb ?_ | refine Vc ?_ | refine Vd ?_ | refine Ve ?_ | refine Vf ?_); (try simp only [go_sem,hP]))))
  (refine WV_ret ?_; simp only [thenQ,inQ,RetQ,RetOk,resAll,resA]; simp only [go_sem,tupA,AV.port,AV.portL,exists_eq_left']; (first | exact AVle.of rfl | refine AVle.of ?_ | skip))
 (refine WV_cond rfl (fun hh => ?_) (fun hh => ?_); exact absurd hh (by decide))
 (repeat ((first | refine Va ?_ | refine Vb ?_ | refine Vc ?_ | refine Vd ?_ | refine Ve ?_ | refine Vf ?_); (try simp only [go_sem,hP]); (repeat refine qJ ?_)))
 cases h101:(w == [109,97,114,107])
 rotate_left
 ·rw [show manyW w = 1 from by rw [eq_of_beq h101]; rfl]
  (repeat (first | (refine WV_cond rfl (fun hh => ?_) (fun hh => ?_); rotate_left; exact absurd hh (by decide)) | ((first | refine Va ?_ | refine Vb ?_ | refine Vc ?_ | refine Vd ?_ | refine Ve ?_ | refine Vf ?_); (try simp only [go_sem,hP]))))
  (refine WV_ret ?_; simp only [thenQ,inQ,RetQ,RetOk,resAll,resA]; simp only [go_sem,tupA,AV.port,AV.portL,exists_eq_left']; (first | exact AVle.of rfl | refine AVle.of ?_ | skip))
 (refine WV_cond rfl (fun hh => ?_) (fun hh => ?_); exact absurd hh (by decide))
 (repeat ((first | refine Va ?_ | refine Vb ?_ | refine Vc ?_ | refine Vd ?_ | refine Ve ?_ | refine Vf ?_); (try simp only [go_sem,hP]); (repeat refine qJ ?_)))
 cases h102:(w == [115,108,117,103])
 rotate_left
 ·rw [show manyW w = 1 from by rw [eq_of_beq h102]; rfl]
  (repeat (first | (refine WV_cond rfl (fun hh => ?_) (fun hh => ?_); rotate_left; exact absurd hh (by decide)) | ((first | refine Va ?_ | refine Vb ?_ | refine Vc ?_ | refine Vd ?_ | refine Ve ?_ | refine Vf ?_); (try simp only [go_sem,hP]))))
  (refine WV_ret ?_; simp only [thenQ,inQ,RetQ,RetOk,resAll,resA]; simp only [go_sem,tupA,AV.port,AV.portL,exists_eq_left']; (first | exact AVle.of rfl | refine AVle.of ?_ | skip))
 (refine WV_cond rfl (fun hh => ?_) (fun hh => ?_); exact absurd hh (by decide))
 (repeat ((first | refine Va ?_ | refine Vb ?_ | refine Vc ?_ | refine Vd ?_ | refine Ve ?_ | refine Vf ?_); (try simp only [go_sem,hP]); (repeat refine qJ ?_)))
 cases h103:(w == [108,111,115,101])
 rotate_left
 ·rw [show manyW w = 1 from by rw [eq_of_beq h103]; rfl]
  (repeat (first | (refine WV_cond rfl (fun hh => ?_) (fun hh => ?_); rotate_left; exact absurd hh (by decide)) | ((first | refine Va ?_ | refine Vb ?_ | refine Vc ?_ | refine Vd ?_ | refine Ve ?_ | refine Vf ?_); (try simp only [go_sem,hP]))))
  (refine WV_ret ?_; simp only [thenQ,inQ,RetQ,RetOk,resAll,resA]; simp only [go_sem,tupA,AV.port,AV.portL,exists_eq_left']; (first | exact AVle.of rfl | refine AVle.of ?_ | skip))
 (refine WV_cond rfl (fun hh => ?_) (fun hh => ?_); exact absurd hh (by decide))
 (repeat ((first | refine Va ?_ | refine Vb ?_ | refine Vc ?_ | refine Vd ?_ | refine Ve ?_ | refine Vf ?_); (try simp only [go_sem,hP]); (repeat refine qJ ?_)))
 cases h104:(w == [115,107,105,112,115])
 rotate_left
 ·rw [show manyW w = 1 from by rw [eq_of_beq h104]; rfl]
  (repeat (first | (refine WV_cond rfl (fun hh => ?_) (fun hh => ?_); rotate_left; exact absurd hh (by decide)) | ((first | refine Va ?_ | refine Vb ?_ | refine Vc ?_ | refine Vd ?_ | refine Ve ?_ | refine Vf ?_); (try simp only [go_sem,hP]))))
  (refine WV_ret ?_; simp only [thenQ,inQ,RetQ,RetOk,resAll,resA]; simp only [go_sem,tupA,AV.port,AV.portL,exists_eq_left']; (first | exact AVle.of rfl | refine AVle.of ?_ | skip))
 (refine WV_cond rfl (fun hh => ?_) (fun hh => ?_); exact absurd hh (by decide))
 (repeat ((first | refine Va ?_ | refine Vb ?_ | refine Vc ?_ | refine Vd ?_ | refine Ve ?_ | refine Vf ?_); (try simp only [go_sem,hP]); (repeat refine qJ ?_)))
 cases h105:(w == [103,105,118,101,115])
 rotate_left
 ·rw [show manyW w = 1 from by rw [eq_of_beq h105]; rfl]
  (repeat (first | (refine WV_cond rfl (fun hh => ?_) (fun hh => ?_); rotate_left; exact absurd hh (by decide)) | ((first | refine Va ?_ | refine Vb ?_ | refine Vc ?_ | refine Vd ?_ | refine Ve ?_ | refine Vf ?_); (try simp only [go_sem,hP]))))
  (refine WV_ret ?_; simp only [thenQ,inQ,RetQ,RetOk,resAll,resA]; simp only [go_sem,tupA,AV.port,AV.portL,exists_eq_left']; (first | exact AVle.of rfl | refine AVle.of ?_ | skip))
 (refine WV_cond rfl (fun hh => ?_) (fun hh => ?_); exact absurd hh (by decide))
 (repeat ((first | refine Va ?_ | refine Vb ?_ | refine Vc ?_ | refine Vd ?_ | refine Ve ?_ | refine Vf ?_); (try simp only [go_sem,hP]); (repeat refine qJ ?_)))
 cases h106:(w == [99,104,101,97,112,101,115,116])
 rotate_left
 ·rw [show manyW w = 1 from by rw [eq_of_beq h106]; rfl]
  (repeat (first | (refine WV_cond rfl (fun hh => ?_) (fun hh => ?_); rotate_left; exact absurd hh (by decide)) | ((first | refine Va ?_ | refine Vb ?_ | refine Vc ?_ | refine Vd ?_ | refine Ve ?_ | refine Vf ?_); (try simp only [go_sem,hP]))))
  (refine WV_ret ?_; simp only [thenQ,inQ,RetQ,RetOk,resAll,resA]; simp only [go_sem,tupA,AV.port,AV.portL,exists_eq_left']; (first | exact AVle.of rfl | refine AVle.of ?_ | skip))
 (refine WV_cond rfl (fun hh => ?_) (fun hh => ?_); exact absurd hh (by decide))
 (repeat ((first | refine Va ?_ | refine Vb ?_ | refine Vc ?_ | refine Vd ?_ | refine Ve ?_ | refine Vf ?_); (try simp only [go_sem,hP]); (repeat refine qJ ?_)))
 cases h107:(w == [119,97,105,116])
 rotate_left
 ·rw [show manyW w = 1 from by rw [eq_of_beq h107]; rfl]
  (repeat (first | (refine WV_cond rfl (fun hh => ?_) (fun hh => ?_); rotate_left; exact absurd hh (by decide)) | ((first | refine Va ?_ | refine Vb ?_ | refine Vc ?_ | refine Vd ?_ | refine Ve ?_ | refine Vf ?_); (try simp only [go_sem,hP]))))
  (refine WV_ret ?_; simp only [thenQ,inQ,RetQ,RetOk,resAll,resA]; simp only [go_sem,tupA,AV.port,AV.portL,exists_eq_left']; (first | exact AVle.of rfl | refine AVle.of ?_ | skip))
 (refine WV_cond rfl (fun hh => ?_) (fun hh => ?_); exact absurd hh (by decide))
 (repeat ((first | refine Va ?_ | refine Vb ?_ | refine Vc ?_ | refine Vd ?_ | refine Ve ?_ | refine Vf ?_); (try simp only [go_sem,hP]); (repeat refine qJ ?_)))
 cases h108:(w == [97,116])
 rotate_left
 ·rw [show manyW w = 1 from by rw [eq_of_beq h108]; rfl]
  (repeat (first | (refine WV_cond rfl (fun hh => ?_) (fun hh => ?_); rotate_left; exact absurd hh (by decide)) | ((first | refine Va ?_ | refine Vb ?_ | refine Vc ?_ | refine Vd ?_ | refine Ve ?_ | refine Vf ?_); (try simp only [go_sem,hP]))))
  (refine WV_ret ?_; simp only [thenQ,inQ,RetQ,RetOk,resAll,resA]; simp only [go_sem,tupA,AV.port,AV.portL,exists_eq_left']; (first | exact AVle.of rfl | refine AVle.of ?_ | skip))
 (refine WV_cond rfl (fun hh => ?_) (fun hh => ?_); exact absurd hh (by decide))
 (repeat ((first | refine Va ?_ | refine Vb ?_ | refine Vc ?_ | refine Vd ?_ | refine Ve ?_ | refine Vf ?_); (try simp only [go_sem,hP]); (repeat refine qJ ?_)))
 cases h200:(w == [112,114,101,115,115])
 rotate_left
 ·rw [show manyW w = 2 from by rw [eq_of_beq h200]; rfl]
  (repeat (first | (refine WV_cond rfl (fun hh => ?_) (fun hh => ?_); rotate_left; exact absurd hh (by decide)) | ((first | refine Va ?_ | refine Vb ?_ | refine Vc ?_ | refine Vd ?_ | refine Ve ?_ | refine Vf ?_); (try simp only [go_sem,hP]))))
  (refine WV_ret ?_; simp only [thenQ,inQ,RetQ,RetOk,resAll,resA]; simp only [go_sem,tupA,AV.port,AV.portL,exists_eq_left']; (first | exact AVle.of rfl | refine AVle.of ?_ | skip))
 (refine WV_cond rfl (fun hh => ?_) (fun hh => ?_); exact absurd hh (by decide))
 (repeat ((first | refine Va ?_ | refine Vb ?_ | refine Vc ?_ | refine Vd ?_ | refine Ve ?_ | refine Vf ?_); (try simp only [go_sem,hP]); (repeat refine qJ ?_)))
 cases h201:(w == [108,97,116,101,115,116])
 rotate_left
 ·rw [show manyW w = 2 from by rw [eq_of_beq h201]; rfl]
  (repeat (first | (refine WV_cond rfl (fun hh => ?_) (fun hh => ?_); rotate_left; exact absurd hh (by decide)) | ((first | refine Va ?_ | refine Vb ?_ | refine Vc ?_ | refine Vd ?_ | refine Ve ?_ | refine Vf ?_); (try simp only [go_sem,hP]))))
  (refine WV_ret ?_; simp only [thenQ,inQ,RetQ,RetOk,resAll,resA]; simp only [go_sem,tupA,AV.port,AV.portL,exists_eq_left']; (first | exact AVle.of rfl | refine AVle.of ?_ | skip))
 (refine WV_cond rfl (fun hh => ?_) (fun hh => ?_); exact absurd hh (by decide))
 (repeat ((first | refine Va ?_ | refine Vb ?_ | refine Vc ?_ | refine Vd ?_ | refine Ve ?_ | refine Vf ?_); (try simp only [go_sem,hP]); (repeat refine qJ ?_)))
 rw [many_none (by simp only [wTab0,List.all_cons,List.all_nil,h000,h001,h002,h003,h004,h005,h006,h007,h008,h009,h010,h100,h101,h102,h103,h104,h105,h106,h107,h108,h200,h201,Bool.not_false,Bool.and_self])]
 (refine WV_ret ?_; simp only [thenQ,inQ,RetQ,RetOk,resAll,resA]; simp only [go_sem,tupA,AV.port,AV.portL,exists_eq_left']; (first | exact AVle.of rfl | refine AVle.of ?_ | skip))
theorem many_wM (w:List UInt8) (h:wLook w ≠ none):manyW w = wM w:=by
 unfold manyW wM
 cases hw:wLook w with
 | none => exact absurd hw h
 | some e => rfl
def parseR (s:List UInt8):AV:=match parseS s with
 | some (w,ns) => .tup [.c (.str w),.c (ints ns),.c (.bool true)]
 | none => .tup [.c (.str []),.c (.raw (.slice none 0 0)),.c (.bool false)]
theorem splitK_num (sep:List UInt8):∀ (k:Nat) (s:List UInt8),(Lib.splitK sep 0 k s).length ≤ k + 1
 | 0,s => by simp [Lib.splitK]
 | k + 1,s => by
  unfold Lib.splitK
  split
  ·simp
  ·have:=splitK_num sep k (s.drop ((Lib.index s sep).toNat + sep.length))
   simp only [List.length_cons]
   omega
theorem cutL_len (s:List UInt8):(cutL s).length ≤ s.length + 2:=by
 have h1:=splitK_num [32] (Lib.count s [32]) s
 have h2:=Lib.count_le s [32]
 unfold cutL Lib.split
 omega
theorem rparse19 {s:List UInt8} (hs:s.length ≤ 1000):FSpec Tryz.prog 19 [.c (.str s)] (parseR s):=by
 have hm:maxLen = 9223372036854775807:=rfl
 obtain ⟨w,args,hc⟩:=cut_cons s
 have hsp:=words16 hs
 rw [hc] at hsp
 have hwl:w.length ≤ 1000:=by have:=cut_len (s:=s) (w:=w) (by rw [hc]; exact List.mem_cons_self ..); omega
 refine FSpec_of c19 (Nat.le_refl _) (by decide) fun C hP hN hC hL => ?_; rw [init_st]
 simp only [ir19]
 (repeat ((first | refine Va ?_ | refine Vb ?_ | refine Vc ?_ | refine Vd ?_ | refine Ve ?_ | refine Vf ?_); (try simp only [go_sem,hP]); (repeat refine qJ ?_)))
 have h00:(([CD.str w] :: args.map fun x => [CD.str x]).getD (Int.toNat 0) []).getD 0 default = CD.str w:=rfl
 (refine AS_pu (hsp) ?_; simp only [go_sem,hP,strsC,List.length_map,List.length_cons,h00]; (repeat refine qJ ?_); (repeat ((first | refine Va ?_ | refine Vb ?_ | refine Vc ?_ | refine Vd ?_ | refine Ve ?_ | refine Vf ?_); (try simp only [go_sem,hP,strsC,List.length_map,List.length_cons,h00]); (repeat refine qJ ?_))))
 have hlen:args.length ≤ 2000:=by have:=cutL_len s; rw [hc,List.length_cons] at this; omega
 have wl:=w64 (n:=(((args.length + 1:Nat):Int)) - 1) (by omega) (by omega)
 (refine AS_pu (many38 hwl) ?_; simp only [go_sem,hP,List.length_map,List.length_cons,wl]; (repeat refine qJ ?_); (repeat ((first | refine Va ?_ | refine Vb ?_ | refine Vc ?_ | refine Vd ?_ | refine Ve ?_ | refine Vf ?_); (try simp only [go_sem,hP,List.length_map,List.length_cons,wl]); (repeat refine qJ ?_))))
 by_cases hbad:manyW w ≠ (args.length:Int)
 ·have hno:parseS s = none:=parse_none hc (by
   cases hw:wLook w with
   | none => exact .inl rfl
   | some e => exact .inr (.inl fun h => hbad (by rw [many_wM w (by rw [hw]; simp),h])))
  unfold parseR
  rw [hno]
  (refine WV_cond rfl (fun h => ?_) (fun h => ?_))
  ·(repeat ((first | refine Va ?_ | refine Vb ?_ | refine Vc ?_ | refine Vd ?_ | refine Ve ?_ | refine Vf ?_); (try simp only [go_sem,hP]); (repeat refine qJ ?_)))
   (refine WV_ret ?_; simp only [thenQ,inQ,RetQ,RetOk,resAll,resA]; simp only [go_sem,tupA,AV.port,AV.portL,exists_eq_left']; (first | exact AVle.of rfl | refine AVle.of ?_ | skip))
  ·exfalso
   simp at h
   exact hbad (by omega)
 ·have hmw:manyW w = (args.length:Int):=Decidable.of_not_not hbad
  have hw:∃ e,wLook w = some e:=by
   cases hw:wLook w with
   | none => unfold manyW at hmw; rw [hw] at hmw; simp only at hmw; omega
   | some e => exact ⟨e,rfl⟩
  obtain ⟨e,hw⟩:=hw
  have hem:(args.length:Int) = e.many:=by unfold manyW at hmw; rw [hw] at hmw; exact hmw.symm
  (refine WV_cond rfl (fun h => ?_) (fun h => ?_))
  ·exfalso
   simp at h
   omega
  clear h
  (repeat ((first | refine Va ?_ | refine Vb ?_ | refine Vc ?_ | refine Vd ?_ | refine Ve ?_ | refine Vf ?_); (try simp only [go_sem,hP]); (repeat refine qJ ?_)))
  refine WV_nilslot 3 38 3 1 (by decide) (by decide) rfl rfl ?_
  simp only [go_sem]
  refine WV_loopS (fun k:Nat => ⟨upd (upd (upd (upd (upd e0 2 (.c (.str []))) 3 (.gr 38)) 4 (.c (.bool false))) 5 (.c (strsC (w :: args)))) 6 (iv ((k:Int) + 1)),upd o0 38 (.grow 3 1 (((args.take k).map numV).map fun n => [CD.int .i64 n]))⟩) (fun k => k ≤ args.length ∧ (args.take k).all numOk = true) (fun k => args.length - k) 0 ⟨Nat.zero_le _,rfl⟩ ?_ ?_
  ·refine Sub_of (by (try simp only [go_sem]); ((repeat' (first | exact EnvLe_e0 _ _ | refine EnvLe_upd ?_ ?_)) <;> ((try simp only [upd_app,e0_app,o0_app,Nat.reduceEqDiff,reduceIte]); first | exact AWk.refl _ _ | exact AWk.int (by omega) | exact AWk.int (by rw [w64 (by omega) (by omega)]; omega) | exact AWk.grow rfl | exact AWk.nil _ | exact AWk.of (by rfl)))) (by (try simp only [go_sem]); exact ObjLe_au)
  rintro k ⟨hk,hr⟩
  have w1:((k:Int) + 1).toNat = k + 1:=by omega
  (repeat ((first | refine Va ?_ | refine Vb ?_ | refine Vc ?_ | refine Vd ?_ | refine Ve ?_ | refine Vf ?_); (try simp only [go_sem,hP,strsC,List.length_map,List.length_cons,w1]); (repeat refine qJ ?_)))
  (refine WV_cond rfl (fun h => ?_) (fun h => ?_))
  ·have hi:k < args.length:=by simp at h; omega
   clear h
   have hg:(([CD.str w] :: args.map fun x => [CD.str x]).getD (k + 1) []) = [CD.str (args.getD k [])]:=strs_get hi
   have hal:(args.getD k []).length ≤ 1000:=by
    have:args.getD k [] ∈ cutL s:=by rw [hc,List.getD_eq_getElem?_getD,List.getElem?_eq_getElem hi]; exact List.mem_cons_of_mem _ (List.getElem_mem hi)
    have:=cut_len this
    omega
   have hnum:=rnumber15 hal
   have htk:args.take (k + 1) = args.take k ++ [args.getD k []]:=by rw [List.take_succ_eq_append_getElem hi,List.getD_eq_getElem?_getD,List.getElem?_eq_getElem hi]; rfl
   have hin:args.getD k [] ∈ args:=by rw [List.getD_eq_getElem?_getD,List.getElem?_eq_getElem hi]; exact List.getElem_mem hi
   have hw1:=w64 (n:=(k:Int) + 1 + 1) (by omega) (by omega)
   have htl:(args.take k).length = k:=by rw [List.length_take]; omega
   generalize args.getD k [] = x at hg hnum htk hin
   (repeat ((first | refine Va ?_ | refine Vb ?_ | refine Vc ?_ | refine Vd ?_ | refine Ve ?_ | refine Vf ?_); (try simp only [go_sem,hP,w1,hg,List.length_map,List.length_cons]); (repeat refine qJ ?_)))
   (refine AS_pu (hnum) ?_; simp only [go_sem,hP]; (repeat refine qJ ?_); (repeat ((first | refine Va ?_ | refine Vb ?_ | refine Vc ?_ | refine Vd ?_ | refine Ve ?_ | refine Vf ?_); (try simp only [go_sem,hP]); (repeat refine qJ ?_))))
   cases hx:numOk x with
   | true =>
    (refine WV_cond rfl (fun h => ?_) (fun h => ?_))
    ·cases h
    clear h
    (repeat ((first | refine Va ?_ | refine Vb ?_ | refine Vc ?_ | refine Vd ?_ | refine Ve ?_ | refine Vf ?_); (try simp only [go_sem,hP,hw1,List.length_map,htl]); (repeat refine qJ ?_)))
    refine ⟨k + 1,⟨by omega,?_⟩,by omega,?_⟩
    ·rw [htk,List.all_append,hr]; simp [hx]
    ·rw [htk,List.map_append,List.map_append]
     refine Sub_of (by simp only [go_sem]; exact EnvLe_au) (by simp only [go_sem,List.map_cons,List.map_nil]; exact ObjLe_au)
   | false =>
    have hno:parseS s = none:=parse_none hc (.inr (.inr (by
     cases ha:args.all numOk with
     | false => rfl
     | true => have:=List.all_eq_true.1 ha x hin; rw [hx] at this; cases this)))
    unfold parseR
    rw [hno]
    (refine WV_cond rfl (fun h => ?_) (fun h => ?_))
    ·(repeat ((first | refine Va ?_ | refine Vb ?_ | refine Vc ?_ | refine Vd ?_ | refine Ve ?_ | refine Vf ?_); (try simp only [go_sem,hP]); (repeat refine qJ ?_)))
     (refine WV_ret ?_; simp only [thenQ,inQ,RetQ,RetOk,resAll,resA]; simp only [go_sem,tupA,AV.port,AV.portL,exists_eq_left']; (first | exact AVle.of rfl | refine AVle.of ?_ | skip))
    ·cases h
  ·have hkl:k = args.length:=by
    have:¬ (k < args.length):=by simp at h; omega
    omega
   subst hkl
   rw [List.take_length] at hr ⊢
   have hyes:parseS s = some (w,args.map numV):=by
    unfold parseS
    rw [hc]
    simp only [hw]
    rw [if_pos ⟨hem,hr⟩]
   unfold parseR
   rw [hyes]
   (repeat ((first | refine Va ?_ | refine Vb ?_ | refine Vc ?_ | refine Vd ?_ | refine Ve ?_ | refine Vf ?_); (try simp only [go_sem,hP,h00,List.length_map,List.length_cons]); (repeat refine qJ ?_)))
   (refine WV_ret ?_; simp only [thenQ,inQ,RetQ,RetOk,resAll,resA]; simp only [go_sem,tupA,AV.port,AV.portL,exists_eq_left']; (first | exact AVle.of rfl | refine AVle.of ?_ | skip))
end Go.Proofs.YtefoconkepmmgaaGreatDoor

namespace Go.Proofs.YtefoconkepmmgaaGreatDoor
open Go Go.V
abbrev o45_0:List Ins:=[JS 2 (.box 3 (.t 0)),JS 4 (JB false)]
abbrev o45_1:List Ins:=[JS 5 (Jm 1),JS 6 (Jf 0 2),JS 7 (Jl 6),JS 8 (Jk .sub 7 1),JS 9 (Jc 46 [.t 5,(.k (Jz 0)),.t 8]),JS 4 (Jm 9)]
abbrev v45_2:VC:=(.seq (.ops o45_1) .ret)
def ir45:FC:=⟨2,10,[.t 4],(.seq (.ops o45_0) v45_2)⟩
abbrev o23_0:List Ins:=[JS 2 (.box 3 (.t 0)),JS 3 (.box 2 (.t 1)),JS 4 (JB false)]
abbrev o23_1:List Ins:=[JS 5 (JL 3 2),JS 6 (Jf 0 3),JS 7 (Jl 6),JS 8 (Jc 45 [.t 5,.t 7]),JS 9 (Jm 8),JG 10 (Jf 1 3) 9 true,JG 11 (Jl 10) 9 true,JG 12 (Jc 46 [.t 11,(.k (Jz 0)),(.k (Jz 20))]) 9 true,JS 13 (Jp 9 12),JS 4 (Jm 13)]
abbrev v23_2:VC:=(.seq (.ops o23_1) .ret)
def ir23:FC:=⟨2,14,[.t 4],(.seq (.ops o23_0) v23_2)⟩
abbrev o6_0:List Ins:=[JS 1 (.box 15 (.t 0)),JS 2 (Ji 0)]
abbrev o6_1:List Ins:=[JS 3 (Jf 0 1),JS 4 (JL 8 3),JS 5 (Jc 21 [.t 4]),JS 6 (Jk .neq 5 0),JS 7 (Jm 6),JG 8 (Jf 10 1) 7 false,JG 9 (JL 5 8) 7 false,JG 10 (Jc 22 [.t 9]) 7 false,JG 11 (Jk .neq 10 0) 7 false,JS 12 (Jo 7 11),JS 13 (Jm 12),JG 14 (Jf 0 1) 13 false,JG 15 (Jf 0 14) 13 false,JG 16 (JL 3 15) 13 false,JG 17 (Jf 8 1) 13 false,JG 18 (JL 2 17) 13 false,JG 19 (Jc 23 [.t 16,.t 18]) 13 false,JG 20 (.un .not (.t 19)) 13 false,JS 21 (Jo 13 20)]
abbrev o6_2:List Ins:=[JS 2 (Ji 120)]
abbrev v6_3:VC:=(.seq (.ops o6_2) .ret)
abbrev v6_4:VC:=(.cond (.t 21) v6_3 .skip)
abbrev o6_5:List Ins:=[JS 2 (Ji 0)]
abbrev v6_6:VC:=(.seq (.ops o6_5) .ret)
abbrev v6_7:VC:=(.seq (.seq (.ops o6_1) v6_4) v6_6)
def ir6:FC:=⟨1,22,[.t 2],(.seq (.ops o6_0) v6_7)⟩
theorem c45:compM Tryz.prog [] 45 = some ir45:=by kernel_rfl
theorem c23:compM Tryz.prog [] 23 = some ir23:=by kernel_rfl
theorem c6:compM Tryz.prog [] 6 = some ir6:=by kernel_rfl
attribute [local go_sem] Nat.reduceEqDiff Nat.reduceAdd Nat.reduceMul reduceIte Nat.reduceLeDiff Nat.reduceLT Nat.reduceBEq reduceCtorEq
theorem bx_ref {b:Bx} (h:bxB b = true):refOk b = true:=by
 simp only [bxB,Bool.and_eq_true,decide_eq_true_eq] at h
 obtain ⟨⟨⟨⟨⟨⟨⟨h1,h2⟩,h3⟩,h4⟩,h5⟩,h6⟩,h7⟩,h8⟩:=h
 have k4:=lstB_ok h4
 have k5:=lstB_ok h5
 have k6:=lstB_ok h6
 have hmk:∀ k,mkK b.fo b.ma k = true → ∀ i,i < k → b.ma.getD i 0 ≤ b.fo.getD i 0:=by
  intro k
  induction k with
  | zero => intro _ i hi; omega
  | succ k ih =>
   intro h i hi
   simp only [mkK,Bool.and_eq_true,decide_eq_true_eq] at h
   rcases Nat.lt_or_ge i k with h9 | h9
   ·exact ih h.1 i h9
   ·obtain rfl:i = k:=by omega
    exact h.2
 have hmar:∀ k,k ≤ b.fo.length → marK b k = true:=by
  intro k
  induction k with
  | zero => intro _; rfl
  | succ k ih =>
   intro hk
   have a1:=hmk _ h7 k (by omega)
   have a2:=getD_in k5.2 (k:=k) (by omega)
   simp only [marK,ih (by omega),Bool.true_and,within,Bool.and_eq_true,decide_eq_true_eq]
   omega
 have hsum:∀ k,k ≤ b.fo.length → sumK b.fo b.sl k = ((putL b).take k).sum ∧ (b.fo.take k).sum ≤ sumK b.fo b.sl k ∧ (b.sl.take k).sum ≤ sumK b.fo b.sl k:=by
  intro k
  induction k with
  | zero => intro _; simp [sumK]
  | succ k ih =>
   intro hk
   obtain ⟨i1,i2,i3⟩:=ih (by omega)
   have hp:k < (putL b).length:=by simp [putL,addL]; omega
   have a1:=getD_in k4.2 (k:=k) (by omega)
   have a2:=getD_in k6.2 (k:=k) (by omega)
   rw [List.take_succ_eq_append_getElem hp,List.sum_append,List.take_succ_eq_append_getElem (l:=b.fo) (by omega),List.sum_append,List.take_succ_eq_append_getElem (l:=b.sl) (by omega),List.sum_append,sumK]
   simp only [putL,addL,List.getElem_zipWith,getD_at (l:=b.fo) (k:=k) (by omega),getD_at (l:=b.sl) (k:=k) (by omega)] at a1 a2 i1 ⊢
   simp only [List.sum_cons,List.sum_nil]
   omega
 have hpl:(putL b).length = b.fo.length:=by simp [putL,addL]; omega
 obtain ⟨hs1,hs2,hs3⟩:=hsum b.fo.length (Nat.le_refl _)
 rw [List.take_of_length_le (by omega)] at hs1 hs2 hs3
 have hput:lstB b.wh (putL b) = true:=by
  unfold lstB
  have e1:((putL b).length == b.wh.co.length) = true:=by rw [beq_iff_eq,hpl,k4.1]
  have e2:(putL b).any put12 = false:=by
   rw [List.any_eq_false]
   intro n hn
   have h0:∀ m ∈ putL b,0 ≤ m:=by
    intro m hm
    obtain ⟨i,hi,rfl⟩:=List.mem_iff_getElem.1 hm
    have a1:=getD_in k4.2 (k:=i) (by omega)
    have a2:=getD_in k6.2 (k:=i) (by omega)
    simp only [putL,addL,List.getElem_zipWith]
    rw [getD_at (by omega)] at a1 a2
    omega
   have hle:n ≤ (putL b).sum:=by
    clear hs1 hpl e1
    revert h0 hn
    induction putL b with
    | nil => intro hn; cases hn
    | cons a l ih =>
     intro hn h0
     have hnn:∀ l:List Int,(∀ m ∈ l,0 ≤ m) → 0 ≤ l.sum:=by
      intro l h
      induction l with
      | nil => simp
      | cons a l ih => simp only [List.sum_cons]; have:=h a (by simp); have:=ih fun m hm => h m (by simp [hm]); omega
     simp only [List.sum_cons]
     rcases List.mem_cons.1 hn with rfl | hn
     ·have:=hnn l fun m hm => h0 m (by simp [hm]); omega
     ·have:=ih hn (fun m hm => h0 m (by simp [hm]))
      have:=h0 a (by simp); omega
   have:=h0 n hn
   simp [put12,within]; omega
  rw [e1,e2]; rfl
 unfold refOk purB
 rw [h1,h4,h6,h2,h3,hmar _ (Nat.le_refl _),hput]
 rw [beq_iff_eq.2 (show b.ma.length = b.fo.length by rw [k5.1,k4.1]),decide_eq_true (show b.fo.sum ≤ 12 by omega),decide_eq_true (show b.sl.sum ≤ 12 by omega),decide_eq_true (show (putL b).sum ≤ 12 by omega)]
 rfl
theorem chk_bx (b:Bx):chkB b = if bxB b then 0 else 50:=by
 unfold chkB
 have:refOk b = bxB b:=by
  rw [Bool.eq_iff_iff]
  exact ⟨ref_bx,bx_ref⟩
 rw [this]
theorem isplace45 {w:Wh} (hw:-9223372036854775807 ≤ w.ro ∧ w.ro ≤ 9223372036854775807) (n:Int):FSpec Tryz.prog 45 [w.av,iv n] (.c (.bool (within n 0 (w.ro - 1)))):=by
 have w1:=w64 (n:=w.ro - 1) (by omega) (by omega)
 refine FSpec_of c45 (Nat.le_refl _) (by decide) fun C hP hN hC hL => ?_; rw [init_st]
 simp only [ir45,Wh.av,Wh.avs]
 (repeat ((first | refine Va ?_ | refine Vb ?_ | refine Vc ?_ | refine Vd ?_ | refine Ve ?_ | refine Vf ?_); (try simp only [go_sem,hP,w1]); (repeat refine qJ ?_)))
 (refine AS_pu (within33 n 0 (w.ro - 1)) ?_; simp only [go_sem,hP,w1]; (repeat refine qJ ?_); (repeat ((first | refine Va ?_ | refine Vb ?_ | refine Vc ?_ | refine Vd ?_ | refine Ve ?_ | refine Vf ?_); (try simp only [go_sem,hP,w1]); (repeat refine qJ ?_))))
 (refine WV_ret ?_; simp only [thenQ,inQ,RetQ,RetOk,resAll,resA]; simp only [go_sem,tupA,AV.port,AV.portL,exists_eq_left']; (first | exact AVle.of rfl | refine AVle.of ?_ | skip))
theorem isstand23 {w:Wh} (hw:-9223372036854775807 ≤ w.ro ∧ w.ro ≤ 9223372036854775807) (p c:Int):FSpec Tryz.prog 23 [w.av,.agg [iv p,iv c]] (.c (.bool (within p 0 (w.ro - 1) && within c 0 20))):=by
 have h1:=isplace45 hw p
 simp only [Wh.av,Wh.avs] at h1
 refine FSpec_of c23 (Nat.le_refl _) (by decide) fun C hP hN hC hL => ?_; rw [init_st]
 simp only [ir23,Wh.av,Wh.avs]
 (repeat ((first | refine Va ?_ | refine Vb ?_ | refine Vc ?_ | refine Vd ?_ | refine Ve ?_ | refine Vf ?_); (try simp only [go_sem,hP]); (repeat refine qJ ?_)))
 (refine AS_pu (h1) ?_; simp only [go_sem,hP]; (repeat refine qJ ?_); (repeat ((first | refine Va ?_ | refine Vb ?_ | refine Vc ?_ | refine Vd ?_ | refine Ve ?_ | refine Vf ?_); (try simp only [go_sem,hP]); (repeat refine qJ ?_))))
 (refine AG_pu (fun hG => within33 c 0 20) ?_; simp only [go_sem,hP]; (repeat refine qJ ?_); (repeat ((first | refine Va ?_ | refine Vb ?_ | refine Vc ?_ | refine Vd ?_ | refine Ve ?_ | refine Vf ?_); (try simp only [go_sem,hP]); (repeat refine qJ ?_))))
 (refine WV_ret ?_; simp only [thenQ,inQ,RetQ,RetOk,resAll,resA]; simp only [go_sem,tupA,AV.port,AV.portL,exists_eq_left']; (first | exact AVle.of rfl | refine AVle.of ?_ | skip))
set_option maxRecDepth 100000 in
set_option maxHeartbeats 4000000 in
theorem rcheck6 (b:Bar):FSpec Tryz.prog 6 [b.av] (iv (barE b)):=by
 have h1:=check8 b.box
 have h2:=rcheck41 b.tray
 rw [chk_bx] at h1
 refine FSpec_of c6 (Nat.le_refl _) (by decide) fun C hP hN hC hL => ?_; rw [init_st]
 simp only [ir6,Bar.av,Bar.avs]
 simp only [Bx.av,Bx.avs] at h1
 simp only [Tray.av] at h2
 (repeat ((first | refine Va ?_ | refine Vb ?_ | refine Vc ?_ | refine Vd ?_ | refine Ve ?_ | refine Vf ?_); (try simp only [go_sem,hP]); (repeat refine qJ ?_)))
 cases hbx:bxB b.box with
 | false =>
  have e1:barE b = 120:=by unfold barE barB; rw [hbx]; rfl
  rw [hbx] at h1
  rw [e1]
  (refine AS_pu (h1) ?_; simp only [go_sem,hP]; (repeat refine qJ ?_); (repeat ((first | refine Va ?_ | refine Vb ?_ | refine Vc ?_ | refine Vd ?_ | refine Ve ?_ | refine Vf ?_); (try simp only [go_sem,hP]); (repeat refine qJ ?_))))
  (refine AG_skip ?_; simp only [go_sem,hP]; (repeat refine qJ ?_); (repeat ((first | refine Va ?_ | refine Vb ?_ | refine Vc ?_ | refine Vd ?_ | refine Ve ?_ | refine Vf ?_); (try simp only [go_sem,hP]); (repeat refine qJ ?_))))
  (refine AG_skip ?_; simp only [go_sem,hP]; (repeat refine qJ ?_); (repeat ((first | refine Va ?_ | refine Vb ?_ | refine Vc ?_ | refine Vd ?_ | refine Ve ?_ | refine Vf ?_); (try simp only [go_sem,hP]); (repeat refine qJ ?_))))
  (refine WV_cond rfl (fun h => ?_) (fun h => ?_))
  ·(repeat ((first | refine Va ?_ | refine Vb ?_ | refine Vc ?_ | refine Vd ?_ | refine Ve ?_ | refine Vf ?_); (try simp only [go_sem,hP]); (repeat refine qJ ?_)))
   (refine WV_ret ?_; simp only [thenQ,inQ,RetQ,RetOk,resAll,resA]; simp only [go_sem,tupA,AV.port,AV.portL,exists_eq_left']; (first | exact AVle.of rfl | refine AVle.of ?_ | skip))
  ·cases h
 | true =>
  rw [hbx] at h1
  (refine AS_pu (h1) ?_; simp only [go_sem,hP]; (repeat refine qJ ?_); (repeat ((first | refine Va ?_ | refine Vb ?_ | refine Vc ?_ | refine Vd ?_ | refine Ve ?_ | refine Vf ?_); (try simp only [go_sem,hP]); (repeat refine qJ ?_))))
  (refine AG_pu (fun hG => h2) ?_; simp only [go_sem,hP]; (repeat refine qJ ?_); (repeat ((first | refine Va ?_ | refine Vb ?_ | refine Vc ?_ | refine Vd ?_ | refine Ve ?_ | refine Vf ?_); (try simp only [go_sem,hP]); (repeat refine qJ ?_))))
  have hro:-9223372036854775807 ≤ b.box.wh.ro ∧ b.box.wh.ro ≤ 9223372036854775807:=by
   have:=(bxB_ok hbx).wh.ro
   omega
  have h3:=isstand23 hro b.pl b.cr
  simp only [Wh.av,Wh.avs] at h3
  (refine AG_pu (fun hG => h3) ?_; simp only [go_sem,hP]; (repeat refine qJ ?_); (repeat ((first | refine Va ?_ | refine Vb ?_ | refine Vc ?_ | refine Vd ?_ | refine Ve ?_ | refine Vf ?_); (try simp only [go_sem,hP]); (repeat refine qJ ?_))))
  have hE:barE b = if (b.tray.ok && (within b.pl 0 (b.box.wh.ro - 1) && within b.cr 0 20)) = true then 0 else 120:=by
   have:barB b = (b.tray.ok && (within b.pl 0 (b.box.wh.ro - 1) && within b.cr 0 20)):=by
    unfold barB
    rw [hbx,Bool.true_and]
    congr 1
    rw [Bool.eq_iff_iff]
    simp only [within,Bool.and_eq_true,decide_eq_true_eq]
    omega
   unfold barE
   rw [this]
  rw [hE]
  cases ht:b.tray.ok <;> cases hw:(within b.pl 0 (b.box.wh.ro - 1) && within b.cr 0 20)
  all_goals (refine WV_cond rfl (fun h => ?_) (fun h => ?_))
  all_goals (first | exact absurd h (by decide) | ((repeat ((first | refine Va ?_ | refine Vb ?_ | refine Vc ?_ | refine Vd ?_ | refine Ve ?_ | refine Vf ?_); (try simp only [go_sem,hP]); (repeat refine qJ ?_))); (refine WV_ret ?_; simp only [thenQ,inQ,RetQ,RetOk,resAll,resA]; simp only [go_sem,tupA,AV.port,AV.portL,exists_eq_left']; (first | exact AVle.of rfl | refine AVle.of ?_ | skip)); done))
end Go.Proofs.YtefoconkepmmgaaGreatDoor

namespace Go.Proofs.YtefoconkepmmgaaGreatDoor
open Go Go.V
abbrev o29_0:List Ins:=[JS 1 (.box 5 (.t 0)),JS 2 (.alloc [J0,Jz 0,Jz 0,Jz 0,J0])]
abbrev o29_1:List Ins:=[JS 4 (JL 5 1),JS 3 (.alloc [J0,Jz 0,Jz 0,Jz 0,J0]),JN (Js 5 3 4)]
abbrev t29_2:OT:=(.cons (JF 6 (Jf 0 1)) (.cons (JF 7 (Jl 6)) (.cons (JF 10 (Jf 4 1)) (.cons (JF 11 (Jl 10)) (.br [(.cons (JF 5 (.bsl 84 2 [])) (.br [(.cons (JF 8 (.app 84 2 16 (.t 5) (.t 7))) (.cons (JF 9 (.bsl 48 2 [])) (.cons (JF 12 (.app 48 2 16 (.t 9) (.t 11))) (.cons (JF 13 (Jf 0 3)) (.cons (JN (Js 1 13 8)) (.cons (JS 14 (Jf 4 3)) (.cons (JN (Js 1 14 12)) .nil))))))),(.cons (JF 9 (.bsl 48 2 [])) (.cons (JF 8 (.app 84 2 16 (.t 5) (.t 7))) (.cons (JF 12 (.app 48 2 16 (.t 9) (.t 11))) (.cons (JF 13 (Jf 0 3)) (.cons (JN (Js 1 13 8)) (.cons (JS 14 (Jf 4 3)) (.cons (JN (Js 1 14 12)) .nil)))))))])),(.cons (JF 9 (.bsl 48 2 [])) (.cons (JF 5 (.bsl 84 2 [])) (.cons (JF 8 (.app 84 2 16 (.t 5) (.t 7))) (.cons (JF 12 (.app 48 2 16 (.t 9) (.t 11))) (.cons (JF 13 (Jf 0 3)) (.cons (JN (Js 1 13 8)) (.cons (JS 14 (Jf 4 3)) (.cons (JN (Js 1 14 12)) .nil))))))))])))))
abbrev o29_3:List Ins:=[JS 15 (JL 5 3),JN (Js 5 2 15)]
abbrev v29_4:VC:=(.seq (.ops o29_3) .ret)
abbrev v29_5:VC:=(.seq (.drw t29_2) v29_4)
abbrev v29_6:VC:=(.seq (.ops o29_1) v29_5)
def ir29:FC:=⟨1,16,[.cell 2 false 5],(.seq (.ops o29_0) v29_6)⟩
abbrev o11_0:List Ins:=[JS 1 (.box 15 (.t 0)),JS 2 (.alloc [Jz 0,J0,J0,J0,J0,J0,Jz 0,Jz 0,Jz 0,Jz 0,J0,Jz 0,Jz 0,Jz 0,J0])]
abbrev o11_1:List Ins:=[JF 3 (Jf 0 1),JF 4 (JL 8 3),JF 5 (Jc 28 [.t 4]),JF 6 (Jf 8 1),JF 7 (JL 2 6),JF 8 (Jf 10 1),JF 9 (JL 5 8),JF 10 (Jc 29 [.t 9]),JS 11 (.bld [Jz 0,J0,J0,J0,J0,J0,Jz 0,Jz 0,Jz 0,Jz 0,J0,Jz 0,Jz 0,Jz 0,J0] [(0,8,(.t 5)),(8,2,(.t 7)),(10,5,(.t 10))]),JN (Js 15 2 11)]
abbrev v11_2:VC:=(.seq (.dops o11_1) .ret)
def ir11:FC:=⟨1,12,[.cell 2 false 15],(.seq (.ops o11_0) v11_2)⟩
theorem c29:compM Tryz.prog [] 29 = some ir29:=by kernel_rfl
theorem c11:compM Tryz.prog [] 11 = some ir11:=by kernel_rfl
attribute [local go_sem] Nat.reduceEqDiff Nat.reduceAdd Nat.reduceMul reduceIte Nat.reduceLeDiff Nat.reduceLT Nat.reduceBEq reduceCtorEq
set_option maxRecDepth 20000 in
set_option maxHeartbeats 8000000 in
theorem copy29 (t:Tray) (hn:t.recs.length ≤ 1000) (hp:t.pres.length ≤ 1000):FSpec Tryz.prog 29 [t.av] t.av:=by
 have hmax:maxLen = 9223372036854775807:=rfl
 refine FSpec_of c29 (Nat.le_refl _) (by decide) fun C hP hN hC hL => ?_; rw [init_st]
 simp only [ir29,Tray.av]
 (repeat ((first | refine Va ?_ | refine Vb ?_ | refine Vc ?_ | refine Vd ?_ | refine Ve ?_ | refine Vf ?_); (try simp only [go_sem,hP]); (repeat refine qJ ?_)))
 (refine WV_drw ?_; simp only [go_sem,hP,recsC,prsC,recs_two,prs_two,List.nil_append,List.length_nil,List.length_map]; (repeat' (refine And.intro ?_ ?_)))
 all_goals try omega
 all_goals
  (repeat ((first | refine Va ?_ | refine Vb ?_ | refine Vc ?_ | refine Vd ?_ | refine Ve ?_ | refine Vf ?_); (try simp only [go_sem,hP,recsC,prsC,recs_two,prs_two,List.nil_append,List.length_nil,List.length_map]); (repeat refine qJ ?_)))
  (refine WV_ret ?_; simp only [thenQ,inQ,RetQ,RetOk,resAll,resA]; simp only [go_sem,tupA,AV.port,AV.portL,exists_eq_left']; (first | exact AVle.of rfl | refine AVle.of ?_ | skip))
theorem copy11 {b:Bar} (hb:BarLn b):FSpec Tryz.prog 11 [b.av] b.av:=by
 have h1:=copy10 hb.no hb.co hb.fo hb.ma hb.sl
 have h2:=copy29 b.tray hb.rc hb.pr
 simp only [Bx.av,Bx.avs] at h1
 simp only [Tray.av] at h2
 refine FSpec_of c11 (Nat.le_refl _) (by decide) fun C hP hN hC hL => ?_; rw [init_st]
 simp only [ir11,Bar.av,Bar.avs]
 (repeat ((first | refine Va ?_ | refine Vb ?_ | refine Vc ?_ | refine Vd ?_ | refine Ve ?_ | refine Vf ?_); (try simp only [go_sem,hP]); (repeat refine qJ ?_)))
 (refine ACall_of (h1) rfl rfl rfl rfl rfl ?_; simp only [go_sem,hP]; (repeat refine qJ ?_); (repeat ((first | refine Va ?_ | refine Vb ?_ | refine Vc ?_ | refine Vd ?_ | refine Ve ?_ | refine Vf ?_); (try simp only [go_sem,hP]); (repeat refine qJ ?_))))
 (refine ACall_of (h2) rfl rfl rfl rfl rfl ?_; simp only [go_sem,hP]; (repeat refine qJ ?_); (repeat ((first | refine Va ?_ | refine Vb ?_ | refine Vc ?_ | refine Vd ?_ | refine Ve ?_ | refine Vf ?_); (try simp only [go_sem,hP]); (repeat refine qJ ?_))))
 (refine WV_ret ?_; simp only [thenQ,inQ,RetQ,RetOk,resAll,resA]; simp only [go_sem,tupA,AV.port,AV.portL,exists_eq_left']; (first | exact AVle.of rfl | refine AVle.of ?_ | skip))
end Go.Proofs.YtefoconkepmmgaaGreatDoor

namespace Go.Proofs.YtefoconkepmmgaaGreatDoor
open Go Go.V
abbrev o39_0:List Ins:=[JS 1 (.box 8 (.t 0)),JS 2 (Ji 0)]
abbrev o39_1:List Ins:=[JS 3 (Ji 0)]
abbrev o39_2:List Ins:=[JS 4 (Ji 0)]
abbrev o39_3:List Ins:=[JS 6 (Jm 4),JS 7 (Jf 3 1),JS 8 (Jl 7),JS 9 (Jn 8),JS 10 (Jb .lss 6 9)]
abbrev v39_4:VC:=(.cond (.t 10) .skip (.exit 0))
abbrev o39_5:List Ins:=[JS 13 (Jm 3),JS 14 (Jf 3 1),JS 15 (Jl 14),JS 16 (Jm 4),JS 17 (Ja 1 15 16),JS 18 (Jl 17),JS 19 (Jb .add 13 18),JS 3 (Jm 19)]
abbrev o39_6:List Ins:=[JS 11 (Jm 4),JS 12 (Jk .add 11 1),JS 4 (Jm 12)]
abbrev v39_7:VC:=(.seq (.block 1 (.ops o39_5)) (.ops o39_6))
abbrev v39_8:VC:=(.seq (.seq (.ops o39_3) v39_4) v39_7)
-- K39_1: changed and kept: [4,3]
abbrev v39_9:VC:=(.loop v39_8)
abbrev v39_10:VC:=(.block 0 v39_9)
abbrev o39_11:List Ins:=[JS 5 (Ji 0)]
abbrev o39_12:List Ins:=[JS 20 (Jm 5),JS 21 (Jf 5 1),JS 22 (Jl 21),JS 23 (Jn 22),JS 24 (Jb .lss 20 23)]
abbrev v39_13:VC:=(.cond (.t 24) .skip (.exit 2))
abbrev o39_14:List Ins:=[JS 27 (Jm 3),JS 28 (Jf 5 1),JS 29 (Jl 28),JS 30 (Jm 5),JS 31 (Ja 1 29 30),JS 32 (Jl 31),JS 33 (Jb .add 27 32),JS 3 (Jm 33)]
abbrev o39_15:List Ins:=[JS 25 (Jm 5),JS 26 (Jk .add 25 1),JS 5 (Jm 26)]
abbrev v39_16:VC:=(.seq (.block 3 (.ops o39_14)) (.ops o39_15))
abbrev v39_17:VC:=(.seq (.seq (.ops o39_12) v39_13) v39_16)
-- K39_2: changed and kept: [5,3]
abbrev v39_18:VC:=(.loop v39_17)
abbrev v39_19:VC:=(.block 2 v39_18)
abbrev o39_20:List Ins:=[JS 34 (Jm 3),JS 2 (Jm 34)]
abbrev v39_21:VC:=(.seq (.ops o39_20) .ret)
abbrev v39_22:VC:=(.seq (.seq (.ops o39_11) v39_19) v39_21)
abbrev v39_23:VC:=(.seq (.seq (.ops o39_2) v39_10) v39_22)
abbrev v39_24:VC:=(.seq (.ops o39_1) v39_23)
def ir39:FC:=⟨1,35,[.t 2],(.seq (.ops o39_0) v39_24)⟩
abbrev o18_0:List Ins:=[JS 2 (JB false)]
abbrev o18_1:List Ins:=[JS 7 (Jm 0),JS 8 (Jc 19 [.t 7]),JS 6 (Jm 8),JS 9 (Je 6 0),JS 10 (Je 6 1),JS 11 (Je 6 2),JS 3 (Jm 9),JS 4 (Jm 10),JS 5 (Jm 11)]
abbrev o18_2:List Ins:=[JS 12 (Jm 5),JS 13 (Jm 12),JG 14 (Jm 3) 13 true,JG 15 (.prim (.sbin .eql) [.t 14,(.k (.c (.str [108,97,116,101,115,116])))]) 13 true,JG 16 (Jm 15) 13 true,JG 17 (Jm 4) 16 true,JG 18 (.ia 1 (.t 17) (.k (Jz 1))) 16 true,JG 19 (Jl 18) 16 true,JG 20 (Jk .gtr 19 400) 16 true,JG 21 (Jp 16 20) 13 true,JG 22 (Jm 21) 13 true,JG 23 (Jm 4) 22 true,JG 24 (.ia 1 (.t 23) (.k (Jz 1))) 22 true,JG 25 (Jl 24) 22 true,JG 26 (Jk .leq 25 9999) 22 true,JG 27 (Jp 22 26) 13 true,JG 28 (Jm 27) 13 true,JG 29 (Jm 3) 28 false,JG 30 (.prim (.sbin .eql) [.t 29,(.k (.c (.str [115,111,111,110,101,115,116])))]) 28 false,JG 31 (Jo 28 30) 13 true,JS 32 (Jp 13 31),JS 2 (Jm 32)]
abbrev v18_3:VC:=(.seq (.ops o18_2) .ret)
abbrev v18_4:VC:=(.seq (.ops o18_1) v18_3)
def ir18:FC:=⟨1,33,[.t 2],(.seq (.ops o18_0) v18_4)⟩
theorem c39:compM Tryz.prog [] 39 = some ir39:=by kernel_rfl
theorem c18:compM Tryz.prog [] 18 = some ir18:=by kernel_rfl
attribute [local go_sem] Nat.reduceEqDiff Nat.reduceAdd Nat.reduceMul reduceIte Nat.reduceLeDiff Nat.reduceLT Nat.reduceBEq reduceCtorEq
theorem sum_bound {l:List Int} (h:∀ n ∈ l,0 ≤ n ∧ n ≤ 12):∀ k,k ≤ l.length → 0 ≤ (l.take k).sum ∧ (l.take k).sum ≤ 12 * k
 | 0,_ => by simp
 | k + 1,hk => by
  have ih:=sum_bound h k (by omega)
  have hl:l[k]'(by omega) ∈ l:=List.getElem_mem _
  have:=h _ hl
  rw [List.take_succ_eq_append_getElem (by omega),List.sum_append,List.sum_cons,List.sum_nil]
  omega
theorem sum_snoc {l:List Int} {k:Nat} (h:k < l.length):(l.take (k + 1)).sum = (l.take k).sum + l.getD k 0:=by
 rw [List.take_succ_eq_append_getElem h,List.sum_append,List.getD_eq_getElem?_getD,List.getElem?_eq_getElem h]
 simp
def manyB (b:Bx):Int:=b.fo.sum + b.sl.sum
theorem many39 {b:Bx} (hb:BxOk b):FSpec Tryz.prog 39 [b.av] (iv (manyB b)):=by
 have hm:maxLen = 9223372036854775807:=rfl
 have hcl:=hb.wh.cl
 have hfl:=hb.fl
 have hsl:=hb.sl
 refine FSpec_of c39 (Nat.le_refl _) (by decide) fun C hP hN hC hL => ?_; rw [init_st]
 simp only [ir39,Bx.av,Bx.avs]
 (repeat ((first | refine Va ?_ | refine Vb ?_ | refine Vc ?_ | refine Vd ?_ | refine Ve ?_ | refine Vf ?_); (try simp only [go_sem,hP]); (repeat refine qJ ?_)))
 refine WV_loopS (fun k:Nat => ⟨upd (upd (upd (upd e0 1 (.bp 1 0)) 2 (iv 0)) 3 (iv (b.fo.take k).sum)) 4 (iv k),upd o0 1 (.box b.avs)⟩) (fun k => k ≤ b.fo.length) (fun k => b.fo.length - k) 0 (Nat.zero_le _) ?_ ?_
 ·refine Sub_of (by simp only [go_sem]; ((repeat' (first | exact EnvLe_e0 _ _ | refine EnvLe_upd ?_ ?_)) <;> ((try simp only [upd_app,e0_app,o0_app,Nat.reduceEqDiff,reduceIte]); first | exact AWk.refl _ _ | exact AWk.int (by omega) | exact AWk.int (by rw [w64 (by omega) (by omega)]; omega) | exact AWk.grow rfl | exact AWk.nil _ | exact AWk.of (by rfl)))) (by unfold Bx.avs; simp only [go_sem]; exact ObjLe_au)
 intro k hk
 unfold Bx.avs
 have hbd:=sum_bound hb.fo k hk
 (repeat ((first | refine Va ?_ | refine Vb ?_ | refine Vc ?_ | refine Vd ?_ | refine Ve ?_ | refine Vf ?_); (try simp only [go_sem,hP,ints,List.length_map]); (repeat refine qJ ?_)))
 (refine WV_cond rfl (fun h => ?_) (fun h => ?_))
 ·have hi:k < b.fo.length:=by simpa using h
  have hg:=ints_get hi
  have hw:=w64 (n:=(k:Int) + 1) (by omega) (by omega)
  have hx:=getD_in hb.fo hi
  have hsn:=sum_snoc hi
  have hw2:=w64 (n:=(b.fo.take k).sum + b.fo.getD k 0) (by omega) (by omega)
  (repeat ((first | refine Va ?_ | refine Vb ?_ | refine Vc ?_ | refine Vd ?_ | refine Ve ?_ | refine Vf ?_); (try simp only [go_sem,hP,hg,List.length_map,Int.toNat_natCast,hw,hw2]); (repeat refine qJ ?_)))
  refine ⟨k + 1,by omega,by omega,?_⟩
  rw [hsn]
  refine Sub_of (by simp only [go_sem,hw2]; ((repeat' (first | exact EnvLe_e0 _ _ | refine EnvLe_upd ?_ ?_)) <;> ((try simp only [upd_app,e0_app,o0_app,Nat.reduceEqDiff,reduceIte]); first | exact AWk.refl _ _ | exact AWk.int (by omega) | exact AWk.int (by rw [w64 (by omega) (by omega)]; omega) | exact AWk.grow rfl | exact AWk.nil _ | exact AWk.of (by rfl)))) (by simp only [go_sem]; exact ObjLe_au)
 ·have hkl:k = b.fo.length:=by
   have:¬ (k < b.fo.length):=by simpa using h
   omega
  subst hkl
  rw [List.take_length] at hbd ⊢
  (repeat ((first | refine Va ?_ | refine Vb ?_ | refine Vc ?_ | refine Vd ?_ | refine Ve ?_ | refine Vf ?_); (try simp only [go_sem,hP]); (repeat refine qJ ?_)))
  refine WV_loopS (fun k:Nat => ⟨upd (upd (upd (upd e0 1 (.bp 1 0)) 2 (iv 0)) 3 (iv (b.fo.sum + (b.sl.take k).sum))) 5 (iv k),upd o0 1 (.box b.avs)⟩) (fun k => k ≤ b.sl.length) (fun k => b.sl.length - k) 0 (Nat.zero_le _) ?_ ?_
  ·refine Sub_of (by simp only [go_sem]; simp only [List.take_zero,List.sum_nil,Int.add_zero]; ((repeat' (first | exact EnvLe_e0 _ _ | refine EnvLe_upd ?_ ?_)) <;> ((try simp only [upd_app,e0_app,o0_app,Nat.reduceEqDiff,reduceIte]); first | exact AWk.refl _ _ | exact AWk.int (by omega) | exact AWk.int (by rw [w64 (by omega) (by omega)]; omega) | exact AWk.grow rfl | exact AWk.nil _ | exact AWk.of (by rfl)))) (by unfold Bx.avs ints; simp only [go_sem]; exact ObjLe_au)
  intro k hk
  unfold Bx.avs
  have hbs:=sum_bound hb.sn k hk
  (repeat ((first | refine Va ?_ | refine Vb ?_ | refine Vc ?_ | refine Vd ?_ | refine Ve ?_ | refine Vf ?_); (try simp only [go_sem,hP,ints,List.length_map]); (repeat refine qJ ?_)))
  (refine WV_cond rfl (fun h => ?_) (fun h => ?_))
  ·have hi:k < b.sl.length:=by simpa using h
   have hg:=ints_get hi
   have hw:=w64 (n:=(k:Int) + 1) (by omega) (by omega)
   have hx:=getD_in hb.sn hi
   have hsn:=sum_snoc hi
   have hw2:=w64 (n:=b.fo.sum + (b.sl.take k).sum + b.sl.getD k 0) (by omega) (by omega)
   (repeat ((first | refine Va ?_ | refine Vb ?_ | refine Vc ?_ | refine Vd ?_ | refine Ve ?_ | refine Vf ?_); (try simp only [go_sem,hP,hg,List.length_map,Int.toNat_natCast,hw,hw2]); (repeat refine qJ ?_)))
   refine ⟨k + 1,by omega,by omega,?_⟩
   rw [hsn,← Int.add_assoc]
   refine Sub_of (by simp only [go_sem,hw2]; ((repeat' (first | exact EnvLe_e0 _ _ | refine EnvLe_upd ?_ ?_)) <;> ((try simp only [upd_app,e0_app,o0_app,Nat.reduceEqDiff,reduceIte]); first | exact AWk.refl _ _ | exact AWk.int (by omega) | exact AWk.int (by rw [w64 (by omega) (by omega)]; omega) | exact AWk.grow rfl | exact AWk.nil _ | exact AWk.of (by rfl)))) (by simp only [go_sem]; exact ObjLe_au)
  ·have hkl:k = b.sl.length:=by
    have:¬ (k < b.sl.length):=by simpa using h
    omega
   subst hkl
   rw [List.take_length]
   (repeat ((first | refine Va ?_ | refine Vb ?_ | refine Vc ?_ | refine Vd ?_ | refine Ve ?_ | refine Vf ?_); (try simp only [go_sem,hP]); (repeat refine qJ ?_)))
   (refine WV_ret ?_; simp only [thenQ,inQ,RetQ,RetOk,resAll,resA]; simp only [go_sem,tupA,AV.port,AV.portL,exists_eq_left']; (first | exact AVle.of rfl | refine AVle.of ?_ | skip))
def latestS:List UInt8:=[108,97,116,101,115,116]
def soonestS:List UInt8:=[115,111,111,110,101,115,116]
def latB (s:List UInt8):Bool:=match parseS s with
 | some (w,ns) => (w == latestS) && decide (400 < ns.getD 1 0) && decide (ns.getD 1 0 ≤ 9999)
 | none => false
def heavyB (s:List UInt8):Bool:=match parseS s with
 | some (w,ns) => (w == latestS) && decide (400 < ns.getD 1 0) && decide (ns.getD 1 0 ≤ 9999) || (w == soonestS)
 | none => false
theorem parse_len {s w:List UInt8} {ns:List Int} (h:parseS s = some (w,ns)):(ns.length:Int) = manyW w:=by
 unfold parseS at h
 split at h
 ·cases h
 ·split at h
  ·cases h
  ·rename_i e he
   split at h
   ·rename_i hc
    cases h
    unfold manyW
    rw [he,List.length_map]
    exact hc.1
   ·cases h
theorem gd0:(([]:List (List CD)).getD 1 []).getD 0 default = CD.sl 1 []:=rfl
theorem gd1 (a:List CD):([a].getD 1 []).getD 0 default = CD.sl 1 []:=rfl
theorem gd2 (a c:List CD) (l:List (List CD)):(a :: c :: l).getD 1 [] = c:=rfl
theorem heavy18 {s:List UInt8} (hs:s.length ≤ 1000):FSpec Tryz.prog 18 [.c (.str s)] (.c (.bool (heavyB s))):=by
 have hm:maxLen = 9223372036854775807:=rfl
 have hp:=rparse19 hs
 unfold parseR at hp
 unfold heavyB
 refine FSpec_of c18 (Nat.le_refl _) (by decide) fun C hP hN hC hL => ?_; rw [init_st]
 simp only [ir18]
 (repeat ((first | refine Va ?_ | refine Vb ?_ | refine Vc ?_ | refine Vd ?_ | refine Ve ?_ | refine Vf ?_); (try simp only [go_sem,hP]); (repeat refine qJ ?_)))
 cases h:parseS s with
 | none =>
  rw [h] at hp
  (refine AS_pu (hp) ?_; simp only [go_sem,hP]; (repeat refine qJ ?_); (repeat ((first | refine Va ?_ | refine Vb ?_ | refine Vc ?_ | refine Vd ?_ | refine Ve ?_ | refine Vf ?_); (try simp only [go_sem,hP]); (repeat refine qJ ?_))))
  (refine WV_ret ?_; simp only [thenQ,inQ,RetQ,RetOk,resAll,resA]; simp only [go_sem,tupA,AV.port,AV.portL,exists_eq_left']; (first | exact AVle.of rfl | refine AVle.of ?_ | skip))
 | some wn =>
  obtain ⟨w,ns⟩:=wn
  rw [h] at hp
  have hl:=parse_len h
  simp only at hp ⊢
  have h2:(w == latestS) = true → 1 < ns.length:=fun h => by
   rw [eq_of_beq h] at hl
   have:manyW latestS = 2:=rfl
   omega
  cases hw:(w == latestS) with
  | true =>
   have hl2:=h2 hw
   have hg:=ints_get hl2
   unfold latestS at hw
   generalize ns.getD 1 0 = x at hg
   (refine AS_pu (hp) ?_; simp only [go_sem,hP,ints,List.length_map,hg,hw,Int.toNat_one]; (repeat refine qJ ?_); (repeat ((first | refine Va ?_ | refine Vb ?_ | refine Vc ?_ | refine Vd ?_ | refine Ve ?_ | refine Vf ?_); (try simp only [go_sem,hP,ints,List.length_map,hg,hw,Int.toNat_one]); (repeat refine qJ ?_))))
   (refine WV_ret ?_; simp only [thenQ,inQ,RetQ,RetOk,resAll,resA]; simp only [go_sem,tupA,AV.port,AV.portL,exists_eq_left']; (first | exact AVle.of rfl | refine AVle.of ?_ | skip))
  | false =>
   unfold latestS at hw
   rcases ns with _ | ⟨a,_ | ⟨c,r⟩⟩
   all_goals (
    (refine AS_pu (hp) ?_; simp only [go_sem,hP,ints,hw,List.map_cons,List.map_nil,Int.toNat_one,gd0,gd1,gd2]; (repeat refine qJ ?_); (repeat ((first | refine Va ?_ | refine Vb ?_ | refine Vc ?_ | refine Vd ?_ | refine Ve ?_ | refine Vf ?_); (try simp only [go_sem,hP,ints,hw,List.map_cons,List.map_nil,Int.toNat_one,gd0,gd1,gd2]); (repeat refine qJ ?_))))
    (refine WV_ret ?_; simp only [thenQ,inQ,RetQ,RetOk,resAll,resA]; simp only [go_sem,tupA,AV.port,AV.portL,exists_eq_left']; (first | exact AVle.of rfl | refine AVle.of ?_ | skip)))
end Go.Proofs.YtefoconkepmmgaaGreatDoor

namespace Go.Proofs.YtefoconkepmmgaaGreatDoor
open Go Go.V
abbrev o20_0:List Ins:=[JS 2 (.box 15 (.t 0)),JS 4 (JB false)]
abbrev o20_1:List Ins:=[JS 10 (JL 15 2),JS 11 (Jc 6 [.t 10]),JS 12 (Jk .neq 11 0)]
abbrev o20_2:List Ins:=[JS 4 (JB false)]
abbrev v20_3:VC:=(.seq (.ops o20_2) .ret)
abbrev v20_4:VC:=(.cond (.t 12) v20_3 .skip)
abbrev o20_5:List Ins:=[JS 13 (Jf 0 2),JS 14 (JL 8 13),JS 15 (Jc 39 [.t 14]),JS 5 (Jm 15)]
abbrev o20_6:List Ins:=[JS 6 (Ji 0)]
abbrev o20_7:List Ins:=[JS 16 (Jm 6),JS 17 (Jm 1),JS 18 (Jn 17),JS 19 (Jb .lss 16 18)]
abbrev v20_8:VC:=(.cond (.t 19) .skip (.exit 0))
abbrev o20_9:List Ins:=[JS 23 (Jm 1),JS 24 (Jm 6),JS 25 (Ja 1 23 24),JS 26 (Jl 25),JS 27 (Jc 19 [.t 26]),JS 22 (Jm 27),JS 28 (Je 22 0),JS 29 (Je 22 1),JS 30 (Je 22 2),JS 7 (Jm 28),JS 8 (Jm 29),JS 9 (Jm 30)]
abbrev o20_10:List Ins:=[JS 31 (Jm 9),JS 32 (Jm 31),JG 33 (Jm 7) 32 true,JG 34 (.prim (.sbin .eql) [.t 33,(.k (.c (.str [99,111,105,110])))]) 32 true,JG 35 (Jm 34) 32 true,JG 36 (Jm 7) 35 false,JG 37 (.prim (.sbin .eql) [.t 36,(.k (.c (.str [109,97,114,107])))]) 35 false,JG 38 (Jo 35 37) 32 true,JG 39 (Jm 38) 32 true,JG 40 (Jm 7) 39 false,JG 41 (.prim (.sbin .eql) [.t 40,(.k (.c (.str [115,108,117,103])))]) 39 false,JG 42 (Jo 39 41) 32 true,JS 43 (Jp 32 42)]
abbrev o20_11:List Ins:=[JS 44 (Jm 5),JS 45 (Jk .add 44 1),JS 5 (Jm 45)]
abbrev v20_12:VC:=(.cond (.t 43) (.ops o20_11) .skip)
abbrev v20_13:VC:=(.seq (.ops o20_10) v20_12)
abbrev v20_14:VC:=(.seq (.ops o20_9) v20_13)
abbrev o20_15:List Ins:=[JS 20 (Jm 6),JS 21 (Jk .add 20 1),JS 6 (Jm 21)]
abbrev v20_16:VC:=(.seq (.block 1 v20_14) (.ops o20_15))
abbrev v20_17:VC:=(.seq (.seq (.ops o20_7) v20_8) v20_16)
-- K20_1: changed and kept: [6,5]
abbrev v20_18:VC:=(.loop v20_17)
abbrev v20_19:VC:=(.block 0 v20_18)
abbrev o20_20:List Ins:=[JS 46 (Jm 5),JS 47 (Jk .gtr 46 4),JS 48 (Jm 47),JG 49 (Jf 0 2) 48 false,JG 50 (Jf 3 49) 48 false,JG 51 (Jl 50) 48 false,JG 52 (Jn 51) 48 false,JG 53 (Jk .gtr 52 3) 48 false,JS 54 (Jo 48 53),JS 4 (Jm 54)]
abbrev v20_21:VC:=(.seq (.ops o20_20) .ret)
abbrev v20_22:VC:=(.seq (.seq (.ops o20_6) v20_19) v20_21)
abbrev v20_23:VC:=(.seq (.ops o20_5) v20_22)
abbrev v20_24:VC:=(.seq (.seq (.ops o20_1) v20_4) v20_23)
def ir20:FC:=⟨2,55,[.t 4],(.seq (.ops o20_0) v20_24)⟩
theorem c20:compM Tryz.prog [] 20 = some ir20:=by kernel_rfl
attribute [local go_sem] Nat.reduceEqDiff Nat.reduceAdd Nat.reduceMul reduceIte Nat.reduceLeDiff Nat.reduceLT Nat.reduceBEq reduceCtorEq
def markS:List UInt8:=[109,97,114,107]
def slugS:List UInt8:=[115,108,117,103]
def putsL (s:List UInt8):Bool:=match parseS s with
 | some (w,_) => (w == coinS) || (w == markS) || (w == slugS)
 | none => false
def putN (l:List (List UInt8)):Int:=(l.countP putsL:Nat)
theorem putN_snoc {l:List (List UInt8)} {k:Nat} (h:k < l.length):putN (l.take (k + 1)) = putN (l.take k) + if putsL (l.getD k []) = true then 1 else 0:=by
 unfold putN
 rw [List.take_succ_eq_append_getElem h,List.countP_append,List.getD_eq_getElem?_getD,List.getElem?_eq_getElem h]
 simp only [List.countP_cons,List.countP_nil,Option.getD_some]
 split <;> omega
theorem putN_le (l:List (List UInt8)) (k:Nat):0 ≤ putN (l.take k) ∧ putN (l.take k) ≤ l.length:=by
 unfold putN
 have:=List.countP_le_length (p:=putsL) (l:=l.take k)
 rw [List.length_take] at this
 omega
def richB (b:Bar) (l:List (List UInt8)):Bool:=barB b && (decide (4 < manyB b.box + putN l) || decide ((3:Int) < b.box.fo.length))
set_option maxHeartbeats 1000000 in
theorem rich20 (b:Bar) {l:List (List UInt8)} (hl:l.length ≤ 60) (hs:∀ s ∈ l,s.length ≤ 1000):FSpec Tryz.prog 20 [b.av,.c (strsC l)] (.c (.bool (richB b l))):=by
 have hm:maxLen = 9223372036854775807:=rfl
 have hck:=rcheck6 b
 simp only [Bar.av,Bar.avs] at hck
 refine FSpec_of c20 (Nat.le_refl _) (by decide) fun C hP hN hC hL => ?_; rw [init_st]
 simp only [ir20,Bar.av,Bar.avs]
 (repeat ((first | refine Va ?_ | refine Vb ?_ | refine Vc ?_ | refine Vd ?_ | refine Ve ?_ | refine Vf ?_); (try simp only [go_sem,hP]); (repeat refine qJ ?_)))
 (refine AS_pu (hck) ?_; simp only [go_sem,hP]; (repeat refine qJ ?_); (repeat ((first | refine Va ?_ | refine Vb ?_ | refine Vc ?_ | refine Vd ?_ | refine Ve ?_ | refine Vf ?_); (try simp only [go_sem,hP]); (repeat refine qJ ?_))))
 unfold richB barE
 cases hB:barB b with
 | false =>
  (refine WV_cond rfl (fun h => ?_) (fun h => ?_))
  ·(repeat ((first | refine Va ?_ | refine Vb ?_ | refine Vc ?_ | refine Vd ?_ | refine Ve ?_ | refine Vf ?_); (try simp only [go_sem,hP]); (repeat refine qJ ?_)))
   (refine WV_ret ?_; simp only [thenQ,inQ,RetQ,RetOk,resAll,resA]; simp only [go_sem,tupA,AV.port,AV.portL,exists_eq_left']; (first | exact AVle.of rfl | refine AVle.of ?_ | skip))
  ·cases h
 | true =>
  have hbx:bxB b.box = true:=by unfold barB at hB; simp only [Bool.and_eq_true] at hB; exact hB.1
  have hok:=bxB_ok hbx
  have hmb:=many39 hok
  have s1:=sum_bound hok.fo b.box.fo.length (Nat.le_refl _)
  have s2:=sum_bound hok.sn b.box.sl.length (Nat.le_refl _)
  rw [List.take_length] at s1 s2
  have hcl:=hok.wh.cl
  have hfl:=hok.fl
  have hsl:=hok.sl
  have hmn:0 ≤ manyB b.box ∧ manyB b.box ≤ 1000:=by unfold manyB; omega
  simp only [Bx.av,Bx.avs] at hmb
  (refine WV_cond rfl (fun h => ?_) (fun h => ?_))
  ·cases h
  clear h
  (repeat ((first | refine Va ?_ | refine Vb ?_ | refine Vc ?_ | refine Vd ?_ | refine Ve ?_ | refine Vf ?_); (try simp only [go_sem,hP]); (repeat refine qJ ?_)))
  (refine AS_pu (hmb) ?_; simp only [go_sem,hP]; (repeat refine qJ ?_); (repeat ((first | refine Va ?_ | refine Vb ?_ | refine Vc ?_ | refine Vd ?_ | refine Ve ?_ | refine Vf ?_); (try simp only [go_sem,hP]); (repeat refine qJ ?_))))
  generalize manyB b.box = mb at hmn
  refine WV_loopS (fun k:Nat => ⟨upd (upd (upd (upd (upd e0 1 (.c (strsC l))) 2 (.bp 2 0)) 4 (.c (.bool false))) 5 (iv (mb + putN (l.take k)))) 6 (iv k),upd o0 2 (.box b.avs)⟩) (fun k => k ≤ l.length) (fun k => l.length - k) 0 (Nat.zero_le _) ?_ ?_
  ·refine Sub_of (by (try simp only [go_sem]); ((repeat' (first | exact EnvLe_e0 _ _ | refine EnvLe_upd ?_ ?_)) <;> ((try simp only [upd_app,e0_app,o0_app,Nat.reduceEqDiff,reduceIte]); first | exact AWk.refl _ _ | exact AWk.int (by omega) | exact AWk.int (by rw [w64 (by omega) (by omega)]; omega) | exact AWk.grow rfl | exact AWk.nil _ | exact AWk.of (by unfold putN; simp)))) (by unfold Bar.avs; (try simp only [go_sem]); exact ObjLe_au)
  intro k hk
  have hpn:=putN_le l k
  unfold Bar.avs
  (repeat ((first | refine Va ?_ | refine Vb ?_ | refine Vc ?_ | refine Vd ?_ | refine Ve ?_ | refine Vf ?_); (try simp only [go_sem,hP,strsC,List.length_map]); (repeat refine qJ ?_)))
  (refine WV_cond rfl (fun h => ?_) (fun h => ?_))
  ·have hi:k < l.length:=by simpa using h
   clear h
   have hg:=strs_at hi
   have hsn:=putN_snoc hi
   have hw:=w64 (n:=(k:Int) + 1) (by omega) (by omega)
   have hin:l.getD k [] ∈ l:=by rw [List.getD_eq_getElem?_getD,List.getElem?_eq_getElem hi]; exact List.getElem_mem hi
   generalize l.getD k [] = s at hg hsn hin
   have hp:=rparse19 (hs s hin)
   have hw2:=w64 (n:=mb + putN (l.take k) + 1) (by omega) (by omega)
   unfold parseR at hp
   unfold putsL at hsn
   generalize putN (l.take k) = pn at *
   (repeat ((first | refine Va ?_ | refine Vb ?_ | refine Vc ?_ | refine Vd ?_ | refine Ve ?_ | refine Vf ?_); (try simp only [go_sem,hP,hg,List.length_map,Int.toNat_natCast]); (repeat refine qJ ?_)))
   cases hps:parseS s with
   | none =>
    rw [hps] at hp hsn
    (refine AS_pu (hp) ?_; simp only [go_sem,hP]; (repeat refine qJ ?_); (repeat ((first | refine Va ?_ | refine Vb ?_ | refine Vc ?_ | refine Vd ?_ | refine Ve ?_ | refine Vf ?_); (try simp only [go_sem,hP]); (repeat refine qJ ?_))))
    (refine WV_cond rfl (fun h => ?_) (fun h => ?_))
    ·cases h
    (repeat ((first | refine Va ?_ | refine Vb ?_ | refine Vc ?_ | refine Vd ?_ | refine Ve ?_ | refine Vf ?_); (try simp only [go_sem,hP,hw]); (repeat refine qJ ?_)))
    refine ⟨k + 1,by omega,by omega,?_⟩
    rw [hsn]
    refine Sub_of (by simp only [go_sem]; exact EnvLe_au) (by simp only [go_sem]; exact ObjLe_au)
   | some wn =>
    obtain ⟨w,ns⟩:=wn
    rw [hps] at hp hsn
    simp only at hp hsn
    unfold coinS markS slugS at hsn
    refine AS_pu hp ?_
    cases h1:(w == [99,111,105,110]) <;> cases h2:(w == [109,97,114,107]) <;> cases h3:(w == [115,108,117,103])
    all_goals (
     simp only [h1,h2,h3,Bool.true_or,Bool.or_true,Bool.or_false,Bool.or_self,if_true,Bool.false_eq_true,if_false,Int.add_zero] at hsn
     simp only [go_sem,hP]
     (repeat refine qJ ?_)
     (repeat ((first | refine Va ?_ | refine Vb ?_ | refine Vc ?_ | refine Vd ?_ | refine Ve ?_ | refine Vf ?_); (try simp only [go_sem,hP,h1,h2,h3]); (repeat refine qJ ?_)))
     refine WV_cond rfl (fun h => ?_) (fun h => ?_))
    all_goals (first | exact absurd h (by decide) | skip)
    all_goals (
     (repeat ((first | refine Va ?_ | refine Vb ?_ | refine Vc ?_ | refine Vd ?_ | refine Ve ?_ | refine Vf ?_); (try simp only [go_sem,hP,hw,hw2]); (repeat refine qJ ?_)))
     refine ⟨k + 1,by omega,by omega,?_⟩
     first | rw [hsn,← Int.add_assoc] | rw [hsn]
     refine Sub_of (by simp only [go_sem]; exact EnvLe_au) (by simp only [go_sem]; exact ObjLe_au))
  ·have hkl:k = l.length:=by
    have:¬ (k < l.length):=by simpa using h
    omega
   subst hkl
   rw [List.take_length] at hpn ⊢
   (repeat ((first | refine Va ?_ | refine Vb ?_ | refine Vc ?_ | refine Vd ?_ | refine Ve ?_ | refine Vf ?_); (try simp only [go_sem,hP,ints,List.length_map]); (repeat refine qJ ?_)))
   (refine WV_ret ?_; simp only [thenQ,inQ,RetQ,RetOk,resAll,resA]; simp only [go_sem,tupA,AV.port,AV.portL,exists_eq_left']; (first | exact AVle.of rfl | refine AVle.of ?_ | skip))
end Go.Proofs.YtefoconkepmmgaaGreatDoor
