/-
  Contracts of the layer's functions, of the laws' helpers and of the law; conditions: as each theorem states.
-/
import Derived.Test.YtbclmfjibpppfaaGreatU4
import Derived.Test.YtbclmfjibpppfaaGreatV3
import Derived.Shelf.SlIterI.Nil
import Derived.Shelf.SortM.Plain
import Derived.Shelf.SortM.SortNone
import Derived.Shelf.Slices.Reverse
import Derived.Sort.OwnSortedInts
set_option linter.unusedVariables false
set_option linter.unusedSimpArgs false
namespace Go.Proofs.YtbclmfjibpppfaaGreat
open Go Go.V
abbrev o73_0:List Ins:=[JS 3 (.box 4 (.t 1)),JS 4 (.mv (.k (.c (.raw (.map none)))))]
abbrev o73_1:List Ins:=[JS 17 (.raw (.makeMap 139 none)),JS 18 (.bld [Jz 0,Jz 0,Jz 0,Jz 0,Jz 0,Jz 0,Jz 0] []),JS 19 (.bld [Jz 0,Jz 0,Jz 0,Jz 0,Jz 0,Jz 0,Jz 0,Jz 0] [(0,1,(.k (Jz (-2))))]),JN (.raw (.insert 139 (.tmp 17) (.tmp 18) (.tmp 19))),JS 20 (Jm 17),JS 5 (.alloc [(.c (.raw (.map none)))]),JN (Js 1 5 20)]
abbrev o73_2:List Ins:=[JS 21 (.bld [Jz 0,Jz 0,Jz 0,Jz 0,Jz 0,Jz 0,Jz 0] []),JS 22 (.bsl 148 7 [.t 21]),JS 6 (.alloc [J0]),JN (Js 1 6 22)]
abbrev o73_3:List Ins:=[JS 23 (Jl 6),JS 24 (Jn 23),JS 25 (Jk .gtr 24 0)]
abbrev v73_4:VC:=(.cond (.t 25) .skip (.exit 0))
abbrev o73_5:List Ins:=[JS 26 (Jl 6),JS 27 (.ia 7 (.t 26) (.k (Jz 0))),JS 28 (JL 7 27),JS 7 (.alloc [Jz 0,Jz 0,Jz 0,Jz 0,Jz 0,Jz 0,Jz 0]),JN (Js 7 7 28)]
abbrev o73_6:List Ins:=[JS 29 (Jl 6),JS 30 (.slc 7 (.t 29) (some (.k (Jz 1))) none),JN (Js 1 6 30)]
abbrev o73_7:List Ins:=[JS 31 (.mkfn 80 [.t 3,.t 5,.t 7,.t 6]),JS 8 (Jm 31)]
abbrev o73_8:List Ins:=[JS 32 (Jf 0 7),JS 33 (Jf 1 32),JS 34 (Jl 33),JS 35 (Jk .gtr 34 0),JS 36 (Jm 35),JG 37 (Jf 0 7) 36 true,JG 38 (Jf 0 37) 36 true,JG 39 (Jl 38) 36 true,JG 40 (Jk .gtr 39 0) 36 true,JS 41 (Jp 36 40)]
abbrev t73_9:OT:=(.cons (JF 43 (Jm 0)) (.cons (JF 44 (.nilc (.t 43))) (.cons (JF 45 (Jf 0 44)) (.cons (JF 46 (Jf 0 45)) (.cons (JF 47 (JL 3 46)) (.cons (JF 48 (Jf 0 7)) (.cons (JF 49 (Jf 0 48)) (.cons (JF 50 (Jl 49)) (.cons (JF 51 (.bld [Jz 0,Jz 0] [(0,1,(.t 50)),(1,1,(.k (Jz 1)))])) (.br [(.cons (JF 52 (.bsl 3 1 [(.k (Jz (-1)))])) (.cons (JF 9 (.alloc [Jz 0,Jz 0])) (.cons (JF 53 (Jc 82 [.t 47,.t 51,.t 52])) (.cons (JF 42 (Jm 53)) (.cons (JF 54 (Je 42 0)) (.cons (JF 55 (Je 42 1)) (.cons (JF 56 (Je 42 2)) (.cons (JE (Js 2 9 54)) (.cons (JF 10 (Jm 55)) (.cons (JS 11 (Jm 56)) .nil)))))))))),(.cons (JF 9 (.alloc [Jz 0,Jz 0])) (.cons (JF 52 (.bsl 3 1 [(.k (Jz (-1)))])) (.cons (JF 53 (Jc 82 [.t 47,.t 51,.t 52])) (.cons (JF 42 (Jm 53)) (.cons (JF 54 (Je 42 0)) (.cons (JF 55 (Je 42 1)) (.cons (JF 56 (Je 42 2)) (.cons (JE (Js 2 9 54)) (.cons (JF 10 (Jm 55)) (.cons (JS 11 (Jm 56)) .nil))))))))))]))))))))))
abbrev o73_10:List Ins:=[JS 57 (Jm 8),JS 58 (Jf 0 9),JS 59 (Jl 58),JS 60 (Jf 0 7),JS 61 (Jf 1 60),JS 62 (Jl 61),JS 63 (Jk .sub 62 1),JS 64 (.bld [Jz 0,Jz 0] [(0,1,(.t 59)),(1,1,(.t 63))]),JS 65 (Jf 2 7),JS 66 (JL 4 65),JS 67 (Jf 6 7),JS 68 (Jl 67),JS 69 (.bld [Jz 0,Jz 0,Jz 0,Jz 0,Jz 0,Jz 0,Jz 0] [(0,2,(.t 64)),(2,4,(.t 66)),(6,1,(.t 68))]),JS 70 (.call (.t 57) [(.k (Jz (-1))),.t 69])]
abbrev v73_11:VC:=(.seq (.drw t73_9) (.ops o73_10))
abbrev v73_12:VC:=(.cond (.t 41) v73_11 .skip)
abbrev o73_13:List Ins:=[JS 71 (Jm 0),JS 72 (.nilc (.t 71)),JS 73 (Jf 0 72),JS 74 (Jf 0 73),JS 75 (Jf 2 74),JS 76 (Jl 75),JS 77 (Jn 76),JS 78 (Ji 0)]
abbrev o73_14:List Ins:=[JS 79 (Jb .lss 78 77)]
abbrev o73_15:List Ins:=[JS 80 (Jm 78),JS 12 (Jm 80)]
abbrev o73_16:List Ins:=[JF 81 (Jm 12),JF 82 (Jf 2 7),JF 83 (.iap 4 1 (.t 82) (.t 81)),JF 84 (Jl 83),JF 85 (Jm 12),JF 86 (.iap 4 1 (.t 3) (.t 85)),JF 87 (Jl 86),JS 88 (Jb .eql 84 87)]
abbrev v73_17:VC:=(.cond (.t 88) (.exit 3) .skip)
abbrev t73_18:OT:=(.cons (JF 90 (Jm 0)) (.cons (JF 91 (.nilc (.t 90))) (.cons (JF 92 (Jf 0 91)) (.cons (JF 93 (Jf 0 92)) (.cons (JF 94 (JL 3 93)) (.cons (JF 95 (Jf 0 7)) (.cons (JF 96 (Jf 0 95)) (.cons (JF 97 (Jl 96)) (.cons (JF 98 (.bld [Jz 0,Jz 0] [(0,1,(.t 97))])) (.cons (JF 99 (Jm 12)) (.br [(.cons (JF 100 (.bsl 3 1 [.t 99])) (.cons (JF 13 (.alloc [Jz 0,Jz 0])) (.cons (JF 101 (Jc 82 [.t 94,.t 98,.t 100])) (.cons (JF 89 (Jm 101)) (.cons (JF 102 (Je 89 0)) (.cons (JF 103 (Je 89 1)) (.cons (JF 104 (Je 89 2)) (.cons (JE (Js 2 13 102)) (.cons (JF 14 (Jm 103)) (.cons (JS 15 (Jm 104)) .nil)))))))))),(.cons (JF 13 (.alloc [Jz 0,Jz 0])) (.cons (JF 100 (.bsl 3 1 [.t 99])) (.cons (JF 101 (Jc 82 [.t 94,.t 98,.t 100])) (.cons (JF 89 (Jm 101)) (.cons (JF 102 (Je 89 0)) (.cons (JF 103 (Je 89 1)) (.cons (JF 104 (Je 89 2)) (.cons (JE (Js 2 13 102)) (.cons (JF 14 (Jm 103)) (.cons (JS 15 (Jm 104)) .nil))))))))))])))))))))))
abbrev o73_19:List Ins:=[JS 105 (Jf 0 13),JS 106 (Jl 105),JS 107 (Jf 0 7),JS 108 (Jf 1 107),JS 109 (Jl 108),JS 110 (Jf 1 13),JS 111 (Jl 110),JS 112 (Jb .add 109 111),JS 113 (.bld [Jz 0,Jz 0] [(0,1,(.t 106)),(1,1,(.t 112))]),JS 114 (Jf 2 7),JS 115 (JL 4 114),JS 116 (Jf 6 7),JS 117 (Jl 116),JS 118 (Jf 1 13),JS 119 (Jl 118),JS 120 (Jb .add 117 119),JS 121 (.bld [Jz 0,Jz 0,Jz 0,Jz 0,Jz 0,Jz 0,Jz 0] [(0,2,(.t 113)),(2,4,(.t 115)),(6,1,(.t 120))]),JS 16 (.alloc [Jz 0,Jz 0,Jz 0,Jz 0,Jz 0,Jz 0,Jz 0]),JN (Js 7 16 121)]
abbrev o73_20:List Ins:=[JS 122 (Jm 12),JS 123 (Jf 2 16),JS 124 (.iap 4 1 (.t 123) (.t 122)),JS 125 (Jl 124),JS 126 (Jk .add 125 1),JS 127 (Jf 2 16),JS 128 (.iap 4 1 (.t 127) (.t 122)),JN (Js 1 128 126)]
abbrev o73_21:List Ins:=[JS 129 (Jm 8),JS 130 (Jm 12),JS 131 (JL 7 16),JS 132 (.call (.t 129) [.t 130,.t 131])]
abbrev v73_22:VC:=(.seq (.ops o73_20) (.ops o73_21))
abbrev v73_23:VC:=(.seq (.ops o73_19) v73_22)
abbrev v73_24:VC:=(.seq (.drw t73_18) v73_23)
abbrev v73_25:VC:=(.seq (.seq (.dops o73_16) v73_17) v73_24)
abbrev v73_26:VC:=(.seq (.ops o73_15) v73_25)
abbrev o73_27:List Ins:=[JS 133 (Jk .add 78 1),JS 78 (Jm 133)]
abbrev v73_28:VC:=(.seq (.block 3 v73_26) (.ops o73_27))
abbrev v73_29:VC:=(.seq (.cond (.t 79) .skip (.exit 2)) v73_28)
abbrev v73_30:VC:=(.seq (.ops o73_14) v73_29)
-- K73_2: changed and kept: [78]
abbrev K73_2:List Nat:=[0,3,5,6,7,8,77]
abbrev v73_31:VC:=(.loop v73_30)
abbrev v73_32:VC:=(.block 2 v73_31)
abbrev v73_33:VC:=(.seq (.ops o73_13) v73_32)
abbrev v73_34:VC:=(.seq (.seq (.ops o73_8) v73_12) v73_33)
abbrev v73_35:VC:=(.seq (.ops o73_7) v73_34)
abbrev v73_36:VC:=(.seq (.ops o73_6) v73_35)
abbrev v73_37:VC:=(.seq (.ops o73_5) v73_36)
abbrev v73_38:VC:=(.block 1 v73_37)
abbrev v73_39:VC:=(.seq (.seq (.ops o73_3) v73_4) v73_38)
-- K73_1: changed and kept: []
abbrev K73_1:List Nat:=[0,3,5,6]
abbrev v73_40:VC:=(.loop v73_39)
abbrev o73_41:List Ins:=[JS 134 (Jl 5),JS 4 (Jm 134)]
abbrev v73_42:VC:=(.seq (.ops o73_41) .ret)
abbrev v73_43:VC:=(.seq (.block 0 v73_40) v73_42)
abbrev v73_44:VC:=(.seq (.ops o73_2) v73_43)
abbrev v73_45:VC:=(.seq (.ops o73_1) v73_44)
def ir73:FC:=⟨2,135,[.t 4],(.seq (.ops o73_0) v73_45)⟩
theorem c73:compM Tryz.prog [] 73 = some ir73:=by kernel_rfl
attribute [local go_sem] Nat.reduceEqDiff Nat.reduceAdd Nat.reduceMul reduceIte Nat.reduceLeDiff Nat.reduceLT Nat.reduceBEq reduceCtorEq
theorem run_sel {w:Wh} (hwb:whB w = true) {pl:Int} (hp:0 ≤ pl ∧ pl < w.ro):runP w pl 1 [-1] = ((0,0,1),0):=by
 have h1:runB w pl 1 [-1] = true:=by
  simp only [runB,within,allB,actB,List.length_singleton,List.all_cons,List.all_nil,Bool.and_eq_true,decide_eq_true_eq]
  exact ⟨⟨by omega,by omega⟩,by omega,rfl,trivial⟩
 unfold runP openE
 rw [hwb,h1]
 rfl
theorem run_coin {w:Wh} (hwb:whB w = true) {pl:Int} (hp:0 ≤ pl ∧ pl < w.ro) {k:Nat} (hk:k < w.co.length):runP w pl 0 [(k:Int)] = (((pl + w.co.getD k 0) % w.ro,plays w pl (w.co.getD k 0),0),0):=by
 have hne:(k:Int) ≠ -1:=by omega
 have h1:runB w pl 0 [(k:Int)] = true:=by
  simp only [runB,within,allB,actB,List.length_singleton,List.all_cons,List.all_nil,Bool.and_eq_true,Bool.or_eq_true,decide_eq_true_eq,beq_iff_eq,Bool.and_true]
  exact ⟨⟨by omega,by omega⟩,by omega,.inr (by omega)⟩
 unfold runP openE
 rw [hwb,h1]
 simp only [if_true,runS,List.foldl_cons,List.foldl_nil,stepR,actP,hne,if_false,false_and,Int.toNat_natCast,Int.add_zero,Int.zero_add]
theorem WV_then {C:Ctx} {v w:VC} {Q:Exit → St → Prop} {σ:St} {R:St → Prop} (h:∀ σ',R σ' → WV C w Q σ') (h2:WV C v (thenQ R Q) σ):WV C v (thenQ (WV C w Q) Q) σ:=h2.mono fun e σ' hq => by
 cases e
 ·exact h _ hq
 all_goals exact hq
def walkPost (w:Wh) (A:Bag) (r:AV) (os:List Ob):Prop:=∃ bm,r = .c (.raw (.map (some bm))) ∧ os = [gmap true true (gl (walkS w A)) bm]
def wstE (b:Bx):Nat → AV:=upd (upd (upd (upd (upd (upd e0 0 (.c (.pt b.cds))) 3 (.bp 3 0)) 5 (.bp 5 0)) 6 (.bp 6 0)) 7 (.bp 7 0)) 8 (.fn 80 [.bp 3 0,.bp 5 0,.bp 7 0,.bp 6 0])
def wstO (A:Bag) (bm:Nat) (x:Pt) (s:Seen × List Pt) (bv off cap:Nat):Nat → Ob:=upd (upd (upd (upd (upd (upd o0 3 (.box (bagAv A.l))) 5 (.box [.c (.raw (.map (some bm)))])) 7 (.box (bagAv x.l))) 17 (gmap true true (gl s.1) bm)) 22 (qO 148 7 (qls s.2) bv off cap)) 6 (.box [qv bv off s.2.length cap])
theorem at_pt (x:Pt) {k:Nat} (hk:k < 4):[AV.c (.int .i64 x.pl),.c (.int .i64 x.cr),.c (.int .i64 x.a),.c (.int .i64 x.b),.c (.int .i64 x.c),.c (.int .i64 x.d),.c (.int .i64 x.bo)].getD (2 + k) .non = .c (.int .i64 (x.bag.at k)):=by
 have:k = 0 ∨ k = 1 ∨ k = 2 ∨ k = 3:=by omega
 rcases this with rfl | rfl | rfl | rfl <;> rfl
theorem at_bag (x:Bag) {k:Nat} (hk:k < 4):[AV.c (.int .i64 x.a),.c (.int .i64 x.b),.c (.int .i64 x.c),.c (.int .i64 x.d)].getD k .non = .c (.int .i64 (x.at k)):=by
 have:k = 0 ∨ k = 1 ∨ k = 2 ∨ k = 3:=by omega
 rcases this with rfl | rfl | rfl | rfl <;> rfl
theorem set_pt (x:Pt) {k:Nat} (hk:k < 4) (pl cr bo:Int):[AV.c (.int .i64 pl),.c (.int .i64 cr),.c (.int .i64 x.a),.c (.int .i64 x.b),.c (.int .i64 x.c),.c (.int .i64 x.d),.c (.int .i64 bo)].set (2 + k) (.c (.int .i64 (x.bag.at k + 1))) = bagAv (x.with pl cr (x.bag.inc k) bo).l:=by
 have:k = 0 ∨ k = 1 ∨ k = 2 ∨ k = 3:=by omega
 rcases this with rfl | rfl | rfl | rfl <;> rfl
theorem at_pt2 (x:Pt) {k:Nat} (hk:k < 4) (pl cr bo:Int):[AV.c (.int .i64 pl),.c (.int .i64 cr),.c (.int .i64 x.a),.c (.int .i64 x.b),.c (.int .i64 x.c),.c (.int .i64 x.d),.c (.int .i64 bo)].getD (2 + k) .non = .c (.int .i64 (x.bag.at k)):=at_pt ⟨pl,cr,x.a,x.b,x.c,x.d,bo⟩ hk
set_option maxHeartbeats 8000000 in
set_option maxRecDepth 20000 in
theorem kinds62 {C:Ctx} (hP:C.P = Tryz.prog) {b:Bx} (hwb:whB b.wh = true) {A:Bag} (hA:BagOk A) {bm:Nat} {x:Pt} (hx:PtIn b.wh.ro A x) {s0:Seen × List Pt} (hs0:SeenOk b.wh.ro A s0) {bv0 off0 cap0:Nat} {Q:Exit → St → Prop}
  (hQ:∀ σ' bv off cap,Sub σ' ⟨wstE b,wstO A bm x (addAll A x (coinsN b.wh A x b.wh.co.length) s0) bv off cap⟩ → Q .normal σ'):WV C v73_33 Q ⟨wstE b,wstO A bm x s0 bv0 off0 cap0⟩:=by
 have hw:=whB_ok hwb
 have hro:=hw.ro
 have hcl:=hw.cl
 simp only [wstE,wstO,bagAv,Bag.l,Pt.l,List.map_cons,List.map_nil]
 (repeat ((first | refine Va ?_ | refine Vb ?_ | refine Vc ?_ | refine Vd ?_ | refine Ve ?_ | refine Vf ?_); (try simp only [go_sem,hP,Bx.cds,ints,List.length_map]); (repeat refine qJ ?_)))
 refine WV_loopK K73_2 [17,22,6] (fun i:Nat × (Seen × List Pt) × Nat × Nat × Nat => i.1 ≤ b.wh.co.length ∧ i.2.1 = addAll A x (coinsN b.wh A x i.1) s0) (fun i => b.wh.co.length - i.1) (fun i => [(78,iv i.1)])
  (fun i => [(17,gmap true true (gl i.2.1.1) bm),(22,qO 148 7 (qls i.2.1.2) i.2.2.1 i.2.2.2.1 i.2.2.2.2),(6,.box [qv i.2.2.1 i.2.2.2.1 i.2.1.2.length i.2.2.2.2])]) (0,s0,bv0,off0,cap0) ⟨Nat.zero_le _,rfl⟩ ?_ ?_
 ·exact Sub_au
 rintro ⟨k,s,bv,off,cap⟩ ⟨hk,hs⟩
 simp only at hk hs
 (repeat ((first | refine Va ?_ | refine Vb ?_ | refine Vc ?_ | refine Vd ?_ | refine Ve ?_ | refine Vf ?_); (try simp only [go_sem,hP]); (repeat refine qJ ?_)))
 (refine WV_cond rfl (fun h => ?_) (fun h => ?_))
 ·have hi:k < b.wh.co.length:=by simpa using h
  clear h
  have hok:SeenOk b.wh.ro A s:=by rw [hs]; exact (addAll_ok hA hs0 (coinsN_ok hw hA hx hk)).1
  have hlen:=hok.len hA hro.2
  have hk4:k < 4:=by omega
  have g1:=at_pt x hk4
  have g2:=at_bag A hk4
  have hsu:∀ y:Int × Pt,coinN b.wh A x k = [y] → addAll A x (coinsN b.wh A x (k + 1)) s0 = addS A y.1 x s y.2:=fun y hy => by
   rw [coinsN_succ,addAll_app,← hs,hy]; rfl
  have hsn:coinN b.wh A x k = [] → addAll A x (coinsN b.wh A x (k + 1)) s0 = s:=fun hy => by
   rw [coinsN_succ,addAll_app,← hs,hy]; rfl
  have w1:=w64 (n:=(k:Int) + 1) (by omega) (by omega)
  (repeat ((first | refine Va ?_ | refine Vb ?_ | refine Vc ?_ | refine Vd ?_ | refine Ve ?_ | refine Vf ?_); (try simp only [go_sem,hP,g1,g2,Int.toNat_natCast,Nat.mul_one]); (repeat refine qJ ?_)))
  by_cases hne:x.bag.at k = A.at k
  ·have hsk:=hsn (by unfold coinN; rw [if_pos hne])
   (refine WV_cond rfl (fun h => ?_) (fun h => ?_))
   ·(repeat ((first | refine Va ?_ | refine Vb ?_ | refine Vc ?_ | refine Vd ?_ | refine Ve ?_ | refine Vf ?_); (try simp only [go_sem,hP,w1]); (repeat refine qJ ?_)))
    refine ⟨(k + 1,s,bv,off,cap),⟨hi,hsk.symm⟩,by simp only; omega,?_⟩
    exact Sub_au
   ·simp [hne] at h
  ·have hlt:=Bag.at_inc hA hx.1 hk4 hne
   (refine WV_cond rfl (fun h => ?_) (fun h => ?_))
   ·simp at h; exact absurd h hne
   ·clear h
    have hco:1 ≤ b.wh.co.getD k 0 ∧ b.wh.co.getD k 0 ≤ 100:=getD_in hw.co hi
    have hpb:=plays_ok hw (p:=x.pl) (c:=b.wh.co.getD k 0) (by omega)
    have hxa:=hx.1
    have hx14:=hx.2
    have hbo:=hxa.bo
    have hmany:0 ≤ x.bag.many ∧ x.bag.many ≤ 14:=by
     obtain ⟨a1,a2,a3,a4,a5⟩:=hA
     obtain ⟨_,_,h3,h4,h5,h6,_⟩:=hxa
     simp only [Pt.bag,Bag.many]; omega
    have hat:0 ≤ x.bag.at k ∧ x.bag.at k ≤ 14:=by
     obtain ⟨a1,a2,a3,a4,a5⟩:=hA
     obtain ⟨_,_,h3,h4,h5,h6,_⟩:=hxa
     have:k = 0 ∨ k = 1 ∨ k = 2 ∨ k = 3:=by omega
     rcases this with rfl | rfl | rfl | rfl <;> simp only [Bag.at,Bag.l,Pt.bag,List.getD_cons_zero,List.getD_cons_succ] <;> omega
    have hrun:=run69 b.wh x.pl 0 [(k:Int)]
    rw [run_coin hwb hxa.pl hi] at hrun
    have hcn:coinN b.wh A x k = [((k:Int),x.with ((x.pl + b.wh.co.getD k 0) % b.wh.ro) (x.cr + plays b.wh x.pl (b.wh.co.getD k 0)) (x.bag.inc k) (x.bo + plays b.wh x.pl (b.wh.co.getD k 0)))]:=by unfold coinN; rw [if_neg hne]
    have hsk:=hsu _ hcn
    have hyo:=coinN_ok hw hA hx hi _ (by rw [hcn]; exact List.mem_singleton.2 rfl)
    simp only at hsk hyo
    have w2:=w64 (n:=x.cr + plays b.wh x.pl (b.wh.co.getD k 0)) (by have:=hxa.cr; omega) (by omega)
    have w3:=w64 (n:=x.bo + plays b.wh x.pl (b.wh.co.getD k 0)) (by omega) (by omega)
    have w4:=w64 (n:=x.bag.at k + 1) (by omega) (by omega)
    have hset:=set_pt x hk4 ((x.pl + b.wh.co.getD k 0) % b.wh.ro) (x.cr + plays b.wh x.pl (b.wh.co.getD k 0)) (x.bo + plays b.wh x.pl (b.wh.co.getD k 0))
    have hgt:=at_pt2 x hk4 ((x.pl + b.wh.co.getD k 0) % b.wh.ro) (x.cr + plays b.wh x.pl (b.wh.co.getD k 0)) (x.bo + plays b.wh x.pl (b.wh.co.getD k 0))
    generalize x.with ((x.pl + b.wh.co.getD k 0) % b.wh.ro) (x.cr + plays b.wh x.pl (b.wh.co.getD k 0)) (x.bag.inc k) (x.bo + plays b.wh x.pl (b.wh.co.getD k 0)) = y at hset hsk hyo
    generalize (x.pl + b.wh.co.getD k 0) % b.wh.ro = np at *
    generalize plays b.wh x.pl (b.wh.co.getD k 0) = gp at *
    have hhl:s.2.length + 1 ≤ maxLen:=by have:maxLen = 9223372036854775807:=rfl; omega
    have hadd:=add67 hA hro.2 (k:Int) hyo x (S:=s.1) (fun e he => (hok.inn e he).1) (q:=s.2) bm bv off cap hhl (by omega)
    simp only [bagAv,Pt.l,List.map_cons,List.map_nil] at hset
    clear hsu hsn hcn
    (repeat ((first | refine Va ?_ | refine Vb ?_ | refine Vc ?_ | refine Vd ?_ | refine Ve ?_ | refine Vf ?_); (try simp only [go_sem,hP]); (repeat refine qJ ?_)))
    (refine WV_drw ?_; simp only [go_sem,hP,g1,g2,Int.toNat_natCast,Nat.mul_one]; (repeat' (refine And.intro ?_ ?_)))
    all_goals (
     (refine ACall_of (hrun) rfl rfl rfl rfl rfl ?_; simp only [go_sem,hP,Wh.av,Wh.avs,ints,w2,w3,w4,hgt,hset,Int.toNat_natCast,Nat.mul_one]; (repeat refine qJ ?_); (repeat ((first | refine Va ?_ | refine Vb ?_ | refine Vc ?_ | refine Vd ?_ | refine Ve ?_ | refine Vf ?_); (try simp only [go_sem,hP,Wh.av,Wh.avs,ints,w2,w3,w4,hgt,hset,Int.toNat_natCast,Nat.mul_one]); (repeat refine qJ ?_))))
     refine AS_lend [3,5,7,6,17,22] hadd rfl rfl rfl (by decide) rfl rfl ?_
     rintro r l' ⟨rfl,bv',off',cap',rfl⟩
     refine ⟨_,_,rfl,rfl,?_⟩
     simp only [go_sem,hP,ownBack,bagAv,Bag.l,Pt.l,List.map_cons,List.map_nil]
     (repeat ((first | refine Va ?_ | refine Vb ?_ | refine Vc ?_ | refine Vd ?_ | refine Ve ?_ | refine Vf ?_); (try simp only [go_sem,hP,w1]); (repeat refine qJ ?_)))
     refine ⟨(k + 1,addS A k x s y,bv',off',cap'),⟨hi,hsk.symm⟩,by simp only; omega,?_⟩
     exact Sub_au)
 ·have hi:k = b.wh.co.length:=by simp at h; omega
  subst hi
  subst hs
  (repeat ((first | refine Va ?_ | refine Vb ?_ | refine Vc ?_ | refine Vd ?_ | refine Ve ?_ | refine Vf ?_); (try simp only [go_sem,hP]); (repeat refine qJ ?_)))
  refine hQ _ bv off cap ?_
  simp only [wstE,wstO,bagAv,Bag.l,Pt.l,List.map_cons,List.map_nil,Bx.cds,ints]
  exact Sub_au
set_option maxHeartbeats 8000000 in
set_option maxRecDepth 20000 in
theorem walk62 {b:Bx} (hwb:whB b.wh = true) {A:Bag} (hA:BagOk A):FSpecN Tryz.prog 73 [.c (.pt b.cds),.agg (bagAv A.l)] (walkPost b.wh A):=by
 have hw:=whB_ok hwb
 have hro:=hw.ro
 refine FSpecN_of c73 (Nat.le_refl _) (by decide) fun C hP hN hC hL => ?_; rw [init_st]
 simp only [ir73,Bx.cds,ints,bagAv,Bag.l,List.map_cons,List.map_nil]
 (repeat ((first | refine Va ?_ | refine Vb ?_ | refine Vc ?_ | refine Vd ?_ | refine Ve ?_ | refine Vf ?_); (try simp only [go_sem,hP]); (repeat refine qJ ?_)))
 refine raw_mkG true true rfl ?_
 intro bm
 simp only [go_sem,hP]
 (repeat ((first | refine Va ?_ | refine Vb ?_ | refine Vc ?_ | refine Vd ?_ | refine Ve ?_ | refine Vf ?_); (try simp only [go_sem,hP]); (repeat refine qJ ?_)))
 have hst:=start_ok hw hA
 have hk0:=(hst.inn (p00,-2,p00) (by simp)).1.key hA hro.2
 refine raw_putG (ka:=true) (va:=true) (n:=17) (b:=bm) (l:=gl []) (key:=p00.l) (val:=-2 :: p00.l) (k:=148) (e:=150) (x':=.t 17) (i':=.t 18) (v':=.t 19) (.inr rfl) (by kernel_rfl) ptLaw rfl rfl rfl rfl rfl rfl rfl rfl rfl rfl hk0 (gl_keys hA hro.2 (S:=[]) (fun e he => by cases he)) (fun p _ h => kval_inj h) ?_
 rw [gput_gl (by simp [sks])]
 simp only [go_sem,hP,List.nil_append]
 refine WV_seq_ ?_
 (refine WV_split 1 ?_; simp only [List.take_succ_cons,List.take_zero,List.take_nil,List.drop_succ_cons,List.drop_zero,List.drop_nil]; simp only [go_sem,hP]; (repeat refine qJ ?_))
 refine SOps_rawI rfl ?_
 refine raw_qbsl (xs:=[p00.l]) rfl rfl rfl (ql1 p00) ?_
 intro bq
 simp only [go_sem,hP]
 (refine SOps_ops ?_; simp only [go_sem,hP]; (repeat refine qJ ?_))
 refine WV_seq_ (WV_block ?_)
 refine WV_loopK K73_1 [17,22,6] (fun i:Seen × List Pt × Nat × Nat × Nat => SeenOk b.wh.ro A (i.1,i.2.1) ∧ ∃ n,left (i.1,i.2.1) ≤ n ∧ bfs b.wh A n (i.1,i.2.1) = walkS b.wh A) (fun i => left (i.1,i.2.1)) (fun _ => [])
  (fun i => [(17,gmap true true (gl i.1) bm),(22,qO 148 7 (qls i.2.1) i.2.2.1 i.2.2.2.1 i.2.2.2.2),(6,.box [qv i.2.2.1 i.2.2.2.1 i.2.1.length i.2.2.2.2])]) ([(p00,-2,p00)],[p00],bq,0,1) ⟨hst,476583750002,by simp [left],by rw [walkS]⟩ ?_ ?_
 ·exact Sub_au
 rintro ⟨S,q,bv,off,cap⟩ ⟨hok,n,hn,hbfs⟩
 simp only at hok hn hbfs
 (repeat ((first | refine Va ?_ | refine Vb ?_ | refine Vc ?_ | refine Vd ?_ | refine Ve ?_ | refine Vf ?_); (try simp only [go_sem,hP]); (repeat refine qJ ?_)))
 (refine WV_cond rfl (fun h => ?_) (fun h => ?_))
 ·cases q with
  | nil => simp at h
  | cons x q =>
  clear h
  have hlen:=hok.len hA hro.2
  have hx:=hok.of_mem (hok.sub x (by simp))
  (repeat ((first | refine Va ?_ | refine Vb ?_ | refine Vc ?_ | refine Vd ?_ | refine Ve ?_ | refine Vf ?_); (try simp only [go_sem,hP]); (repeat refine qJ ?_)))
  refine raw_ia (b:=bv) (off:=off) (n:=(x :: q).length) (cap:=cap) rfl rfl rfl rfl (Int.le_refl 0) (by simp) ?_
  simp only [go_sem,hP]
  refine raw_qld (n:=22) (b:=bv) (off:=off) (cap:=cap) (i:=0) (e:=148) (xs:=qls (x :: q)) (r:=x.l) rfl rfl rfl rfl ?_
  simp only [go_sem,hP,Pt.l,List.map_cons,List.map_nil]
  (repeat ((first | refine Va ?_ | refine Vb ?_ | refine Vc ?_ | refine Vd ?_ | refine Ve ?_ | refine Vf ?_); (try simp only [go_sem,hP]); (repeat refine qJ ?_)))
  refine raw_qslc (n:=22) (b:=bv) (off:=off) (cap:=cap) (l:=1) (m:=(x :: q).length) (e:=148) (xs:=qls (x :: q)) rfl rfl rfl (List.length_map ..) rfl rfl (by simp) ?_
  intro off1
  have e1:(qls (x :: q)).drop 1 = qls q:=rfl
  have e2:(x :: q).length - 1 = q.length:=rfl
  rw [e1,e2]
  simp only [go_sem,hP]
  (repeat ((first | refine Va ?_ | refine Vb ?_ | refine Vc ?_ | refine Vd ?_ | refine Ve ?_ | refine Vf ?_); (try simp only [go_sem,hP]); (repeat refine qJ ?_)))
  have hexp:=expand_ok hw hA hok
  have hlft:=left_expand hw hA hok
  have ht:=hok.tail
  have hsel:=selN_ok hw hx
  have hs1:=addAll_ok hA (x:=x) ht hsel
  have hl1:=hs1.1.len hA hro.2
  refine WV_then (R:=fun σ' => ∃ bv1 off2 cap1,Sub σ' ⟨wstE b,wstO A bm x (addAll A x (selN x) (S,q)) bv1 off2 cap1⟩) ?_ ?_
  ·rintro σ' ⟨bv1,off2,cap1,hsub⟩
   refine WV_sub hsub (kinds62 hP hwb hA hx hs1.1 fun σ2 bv3 off3 cap3 hsub2 => ?_)
   obtain ⟨m,rfl⟩ : ∃ m,n = m + 1:=⟨n - 1,by omega⟩
   refine ⟨((expand b.wh A x (S,q)).1,(expand b.wh A x (S,q)).2,bv3,off3,cap3),⟨hexp.1,m,(show left (expand b.wh A x (S,q)) ≤ m by omega),hbfs⟩,hlft,?_⟩
   refine hsub2.trans ?_
   rw [show addAll A x (coinsN b.wh A x b.wh.co.length) (addAll A x (selN x) (S,q)) = expand b.wh A x (S,q) from rfl]
   generalize expand b.wh A x (S,q) = s2
   simp only [wstE,wstO,bagAv,Bag.l,Pt.l,List.map_cons,List.map_nil,Bx.cds,ints]
   exact Sub_au
  ·have hxa:=hx.1
   by_cases hse:0 < x.cr ∧ 0 < x.pl
   ·have hsl:selN x = [(-1,x.with 0 (x.cr - 1) x.bag x.bo)]:=by unfold selN; rw [if_pos hse]
    have hsy:addAll A x (selN x) (S,q) = addS A (-1) x (S,q) (x.with 0 (x.cr - 1) x.bag x.bo):=by rw [hsl]; rfl
    have hyo:=hsel _ (by rw [hsl]; exact List.mem_singleton.2 rfl)
    simp only at hyo
    have hrun:=run69 b.wh x.pl 1 [-1]
    rw [run_sel hwb hxa.pl] at hrun
    have w2:=w64 (n:=x.cr - 1) (by have:=hxa.cr; omega) (by have:=hxa.cr; omega)
    have hhl:q.length + 1 ≤ maxLen:=by have:maxLen = 9223372036854775807:=rfl; simp only [List.length_cons] at hlen; omega
    have hadd:=add67 hA hro.2 (-1) hyo x (S:=S) (fun e he => (hok.inn e he).1) (q:=q) bm bv off1 (cap - 1) hhl (by simp only [List.length_cons] at hlen; omega)
    rw [hsy]
    (refine WV_cond rfl (fun h => ?_) (fun h => ?_))
    ·(repeat ((first | refine Va ?_ | refine Vb ?_ | refine Vc ?_ | refine Vd ?_ | refine Ve ?_ | refine Vf ?_); (try simp only [go_sem,hP]); (repeat refine qJ ?_)))
     (refine WV_drw ?_; simp only [go_sem,hP]; (repeat' (refine And.intro ?_ ?_)))
     all_goals (
      (refine ACall_of (hrun) rfl rfl rfl rfl rfl ?_; simp only [go_sem,hP,Wh.av,Wh.avs,ints,w2]; (repeat refine qJ ?_); (repeat ((first | refine Va ?_ | refine Vb ?_ | refine Vc ?_ | refine Vd ?_ | refine Ve ?_ | refine Vf ?_); (try simp only [go_sem,hP,Wh.av,Wh.avs,ints,w2]); (repeat refine qJ ?_))))
      refine AS_lend [3,5,7,6,17,22] hadd rfl rfl rfl (by decide) rfl rfl ?_
      rintro r l' ⟨rfl,bv',off',cap',rfl⟩
      refine ⟨_,_,rfl,rfl,?_⟩
      generalize addS A (-1) x (S,q) (x.with 0 (x.cr - 1) x.bag x.bo) = s2
      simp only [go_sem,hP,ownBack,bagAv,Bag.l,Pt.l,List.map_cons,List.map_nil]
      refine ⟨bv',off',cap',?_⟩
      simp only [wstE,wstO,bagAv,Bag.l,Pt.l,List.map_cons,List.map_nil,Bx.cds,ints]
      exact Sub_au)
    ·exfalso; simp [hse.1,hse.2] at h
   ·have hsl:selN x = []:=by unfold selN; rw [if_neg hse]
    have hsy:addAll A x (selN x) (S,q) = (S,q):=by rw [hsl]; rfl
    rw [hsy]
    (refine WV_cond rfl (fun h => ?_) (fun h => ?_))
    ·exfalso; apply hse; simpa using h
    ·(repeat ((first | refine Va ?_ | refine Vb ?_ | refine Vc ?_ | refine Vd ?_ | refine Ve ?_ | refine Vf ?_); (try simp only [go_sem,hP]); (repeat refine qJ ?_)))
     refine ⟨bv,off1,cap - 1,?_⟩
     simp only [wstE,wstO,bagAv,Bag.l,Pt.l,List.map_cons,List.map_nil,Bx.cds,ints]
     exact Sub_au
 ·cases q with
  | cons x q => simp at h
  | nil =>
  rw [bfs_nil] at hbfs
  subst hbfs
  (repeat ((first | refine Va ?_ | refine Vb ?_ | refine Vc ?_ | refine Vd ?_ | refine Ve ?_ | refine Vf ?_); (try simp only [go_sem,hP]); (repeat refine qJ ?_)))
  (refine WV_ret ?_; simp only [thenQ,inQ,RetQN,RetOkN,resAll,resA]; simp only [go_sem,tupA])
  refine ⟨[17],_,_,_,by simp,by simp,rfl,AVle.refl _,rfl,bm,rfl,rfl⟩
end Go.Proofs.YtbclmfjibpppfaaGreat

namespace Go.Proofs.YtbclmfjibpppfaaGreat
open Go Go.V
abbrev o13_0:List Ins:=[JS 2 (.box 3 (.t 0)),JS 3 (.box 1 (.t 1)),JS 4 (Ji 0),JS 5 (Ji 0)]
abbrev o13_1:List Ins:=[JS 20 (JL 3 2),JS 21 (.mkfn 30 [.t 3]),JS 22 (Jc 29 [.t 20,.t 21]),JS 19 (Jm 22),JS 23 (Je 19 0),JS 24 (Je 19 1),JS 6 (.alloc [Jz 0,J0,J0]),JN (Js 3 6 23),JS 7 (Jm 24)]
abbrev o13_2:List Ins:=[JS 25 (Jm 7),JS 26 (Jk .neq 25 0)]
abbrev o13_3:List Ins:=[JS 27 (Jm 7),JS 4 (Ji 0),JS 5 (Jm 27)]
abbrev v13_4:VC:=(.seq (.ops o13_3) .ret)
abbrev v13_5:VC:=(.cond (.t 26) v13_4 .skip)
abbrev o13_6:List Ins:=[JS 28 (Jf 2 2),JS 29 (Jl 28),JS 30 (Jn 29),JS 31 (Jk .eql 30 0),JS 32 (Jm 31),JG 33 (Jf 1 2) 32 false,JG 34 (Jl 33) 32 false,JG 35 (Jn 34) 32 false,JG 36 (Jk .eql 35 0) 32 false,JS 37 (Jo 32 36)]
abbrev o13_7:List Ins:=[JS 4 (Ji 0),JS 5 (Ji 3)]
abbrev v13_8:VC:=(.seq (.ops o13_7) .ret)
abbrev v13_9:VC:=(.cond (.t 37) v13_8 .skip)
abbrev o13_10:List Ins:=[JS 38 (.bld [Jz 0,Jz 0,Jz 0] []),JS 39 (.bsl 76 3 [.t 38]),JS 40 (.bslv 77 1 [.t 39]),JS 8 (Jm 40)]
abbrev o13_11:List Ins:=[JS 41 (.raw (.makeMap 79 none)),JS 9 (Jm 41)]
abbrev o13_12:List Ins:=[JS 10 (Ji 0)]
abbrev o13_13:List Ins:=[JS 44 (Jm 8),JS 45 (Jn 44),JS 46 (Jm 10),JS 47 (Jk .add 46 100),JS 48 (Jb .leq 45 47)]
abbrev v13_14:VC:=(.cond (.t 48) .skip (.exit 2))
abbrev o13_15:List Ins:=[JS 49 (Jm 8),JS 50 (.bsl 77 1 [(.k J0)]),JS 51 (.appv 77 1 24 (.t 49) (.t 50)),JS 8 (Jm 51)]
abbrev v13_16:VC:=(.block 3 (.ops o13_15))
abbrev v13_17:VC:=(.seq (.seq (.ops o13_13) v13_14) v13_16)
-- K13_2: changed and kept: [8]
abbrev v13_18:VC:=(.loop v13_17)
abbrev o13_19:List Ins:=[JS 52 (Jm 8),JS 53 (Jm 10),JS 54 (Ja 1 52 53),JS 55 (Jl 54),JS 56 (Jn 55),JS 57 (Ji 0)]
abbrev o13_20:List Ins:=[JS 58 (Jb .lss 57 56)]
abbrev o13_21:List Ins:=[JS 59 (Ja 3 55 57),JS 60 (JL 3 59),JS 12 (.alloc [Jz 0,Jz 0,Jz 0]),JN (Js 3 12 60)]
abbrev o13_22:List Ins:=[JS 61 (Jf 2 12),JS 62 (Jl 61),JS 63 (Jl 3),JS 64 (Jb .geq 62 63)]
abbrev o13_23:List Ins:=[JS 65 (Jm 10),JS 4 (Jm 65),JS 5 (Ji 0)]
abbrev v13_24:VC:=(.seq (.ops o13_23) .ret)
abbrev v13_25:VC:=(.cond (.t 64) v13_24 .skip)
abbrev t13_26:OT:=(.cons (JF 66 (Jm 9)) (.cons (JF 67 (JL 3 12)) (.br [(.cons (JS 68 (.raw (.lookup 79 (.tmp 66) (.tmp 67) false))) (.br [(.cons (JF 69 (Jk .add 68 1)) (.cons (JS 70 (.raw (.mapEntry 79 (.tmp 66) (.tmp 67)))) (.cons (JF 71 (Je 70 1)) (.cons (JN (.raw (.entryStore 79 (.tmp 66) (.tmp 71) (.tmp 69)))) .nil)))),(.cons (JS 70 (.raw (.mapEntry 79 (.tmp 66) (.tmp 67)))) (.cons (JF 69 (Jk .add 68 1)) (.cons (JF 71 (Je 70 1)) (.cons (JN (.raw (.entryStore 79 (.tmp 66) (.tmp 71) (.tmp 69)))) .nil))))])),(.cons (JS 70 (.raw (.mapEntry 79 (.tmp 66) (.tmp 67)))) (.br [(.cons (JS 68 (.raw (.lookup 79 (.tmp 66) (.tmp 67) false))) (.cons (JF 69 (Jk .add 68 1)) (.cons (JF 71 (Je 70 1)) (.cons (JN (.raw (.entryStore 79 (.tmp 66) (.tmp 71) (.tmp 69)))) .nil)))),(.cons (JF 71 (Je 70 1)) (.cons (JS 68 (.raw (.lookup 79 (.tmp 66) (.tmp 67) false))) (.cons (JF 69 (Jk .add 68 1)) (.cons (JN (.raw (.entryStore 79 (.tmp 66) (.tmp 71) (.tmp 69)))) .nil))))]))])))
abbrev o13_27:List Ins:=[JS 72 (Jm 9),JS 73 (JL 3 12),JS 74 (.raw (.lookup 79 (.tmp 72) (.tmp 73) false)),JS 75 (Jk .gtr 74 1)]
abbrev v13_28:VC:=(.cond (.t 75) (.exit 5) .skip)
abbrev v13_29:VC:=(.seq (.ops o13_27) v13_28)
abbrev o13_30:List Ins:=[JS 76 (Jf 0 12),JS 77 (JL 2 76),JS 78 (.bsl 74 2 [.t 77]),JS 13 (Jm 78)]
abbrev o13_31:List Ins:=[JS 79 (Jf 0 12),JS 80 (Jf 1 79),JS 81 (Jl 80),JS 82 (Jk .gtr 81 0),JS 83 (Jm 82),JG 84 (Jf 0 12) 83 true,JG 85 (Jf 0 84) 83 true,JG 86 (Jl 85) 83 true,JG 87 (Jk .gtr 86 0) 83 true,JS 88 (Jp 83 87)]
abbrev o13_32:List Ins:=[JS 89 (Jm 13),JS 90 (JL 3 6),JS 91 (Jf 0 12),JS 92 (JL 2 91),JS 93 (Jc 32 [.t 90,.t 92,(.k (Jz (-1)))]),JS 94 (.bsl 74 2 [.t 93]),JS 95 (.app 74 2 16 (.t 89) (.t 94)),JS 13 (Jm 95)]
abbrev v13_33:VC:=(.cond (.t 88) (.ops o13_32) .skip)
abbrev o13_34:List Ins:=[JS 96 (Jm 13),JS 97 (Jn 96),JS 98 (Ji 0)]
abbrev o13_35:List Ins:=[JS 99 (Jb .lss 98 97)]
abbrev o13_36:List Ins:=[JS 100 (Ja 2 96 98),JS 101 (JL 2 100),JS 15 (.alloc [Jz 0,Jz 0]),JN (Js 2 15 101)]
abbrev o13_37:List Ins:=[JS 102 (Jf 2 2),JS 103 (Jl 102),JS 104 (Jn 103),JS 105 (Ji 0)]
abbrev o13_38:List Ins:=[JS 106 (Jb .lss 105 104)]
abbrev o13_39:List Ins:=[JS 107 (Jm 105),JS 108 (Ja 1 103 105),JS 109 (Jl 108),JS 16 (Jm 107),JS 17 (Jm 109)]
abbrev o13_40:List Ins:=[JF 110 (JL 3 6),JF 111 (JL 2 15),JF 112 (Jm 16),JF 114 (Jf 2 12),JF 115 (Jl 114),JF 18 (.alloc [Jz 0,Jz 0,Jz 0]),JF 113 (Jc 32 [.t 110,.t 111,.t 112]),JF 116 (.bld [Jz 0,Jz 0,Jz 0] [(0,2,(.t 113)),(2,1,(.t 115))]),JN (Js 3 18 116)]
abbrev o13_41:List Ins:=[JS 117 (Jf 2 18),JS 118 (Jl 117),JS 119 (Jf 0 18),JS 120 (Jf 1 119),JS 121 (Jl 120),JS 122 (Jf 1 15),JS 123 (Jl 122),JS 124 (Jb .sub 121 123),JS 125 (Jb .add 118 124),JS 126 (Jf 2 18),JN (Js 1 126 125)]
abbrev o13_42:List Ins:=[JS 127 (Jf 0 18),JS 128 (Jf 1 127),JS 129 (Jl 128),JS 130 (Jl 3),JS 131 (.mm false (.t 129) (.t 130)),JS 132 (Jf 0 18),JS 133 (Jf 1 132),JN (Js 1 133 131)]
abbrev t13_43:OT:=(.cons (JF 138 (Jm 8)) (.cons (JF 139 (Jm 10)) (.cons (JF 140 (Jm 17)) (.cons (JF 141 (Jb .add 139 140)) (.cons (JF 142 (Ja 1 138 141)) (.cons (JF 143 (Jl 142)) (.cons (JF 144 (JL 3 18)) (.cons (JF 145 (.bsl 76 3 [.t 144])) (.br [(.cons (JF 134 (Jm 8)) (.br [(.cons (JF 135 (Jm 10)) (.br [(.cons (JF 136 (Jm 17)) (.br [(.cons (JF 137 (Jb .add 135 136)) (.cons (JS 146 (.app 76 3 24 (.t 143) (.t 145))) (.cons (JS 147 (Ja 1 134 137)) (.cons (JN (Js 1 147 146)) .nil)))),(.cons (JS 146 (.app 76 3 24 (.t 143) (.t 145))) (.cons (JF 137 (Jb .add 135 136)) (.cons (JS 147 (Ja 1 134 137)) (.cons (JN (Js 1 147 146)) .nil))))])),(.cons (JS 146 (.app 76 3 24 (.t 143) (.t 145))) (.cons (JF 136 (Jm 17)) (.cons (JF 137 (Jb .add 135 136)) (.cons (JS 147 (Ja 1 134 137)) (.cons (JN (Js 1 147 146)) .nil)))))])),(.cons (JF 136 (Jm 17)) (.br [(.cons (JF 135 (Jm 10)) (.br [(.cons (JF 137 (Jb .add 135 136)) (.cons (JS 146 (.app 76 3 24 (.t 143) (.t 145))) (.cons (JS 147 (Ja 1 134 137)) (.cons (JN (Js 1 147 146)) .nil)))),(.cons (JS 146 (.app 76 3 24 (.t 143) (.t 145))) (.cons (JF 137 (Jb .add 135 136)) (.cons (JS 147 (Ja 1 134 137)) (.cons (JN (Js 1 147 146)) .nil))))])),(.cons (JS 146 (.app 76 3 24 (.t 143) (.t 145))) (.cons (JF 135 (Jm 10)) (.cons (JF 137 (Jb .add 135 136)) (.cons (JS 147 (Ja 1 134 137)) (.cons (JN (Js 1 147 146)) .nil)))))])),(.cons (JS 146 (.app 76 3 24 (.t 143) (.t 145))) (.cons (JF 135 (Jm 10)) (.cons (JF 136 (Jm 17)) (.cons (JF 137 (Jb .add 135 136)) (.cons (JS 147 (Ja 1 134 137)) (.cons (JN (Js 1 147 146)) .nil))))))])),(.cons (JF 135 (Jm 10)) (.br [(.cons (JF 134 (Jm 8)) (.br [(.cons (JF 136 (Jm 17)) (.br [(.cons (JF 137 (Jb .add 135 136)) (.cons (JS 146 (.app 76 3 24 (.t 143) (.t 145))) (.cons (JS 147 (Ja 1 134 137)) (.cons (JN (Js 1 147 146)) .nil)))),(.cons (JS 146 (.app 76 3 24 (.t 143) (.t 145))) (.cons (JF 137 (Jb .add 135 136)) (.cons (JS 147 (Ja 1 134 137)) (.cons (JN (Js 1 147 146)) .nil))))])),(.cons (JS 146 (.app 76 3 24 (.t 143) (.t 145))) (.cons (JF 136 (Jm 17)) (.cons (JF 137 (Jb .add 135 136)) (.cons (JS 147 (Ja 1 134 137)) (.cons (JN (Js 1 147 146)) .nil)))))])),(.cons (JF 136 (Jm 17)) (.br [(.cons (JF 134 (Jm 8)) (.br [(.cons (JF 137 (Jb .add 135 136)) (.cons (JS 146 (.app 76 3 24 (.t 143) (.t 145))) (.cons (JS 147 (Ja 1 134 137)) (.cons (JN (Js 1 147 146)) .nil)))),(.cons (JS 146 (.app 76 3 24 (.t 143) (.t 145))) (.cons (JF 137 (Jb .add 135 136)) (.cons (JS 147 (Ja 1 134 137)) (.cons (JN (Js 1 147 146)) .nil))))])),(.cons (JF 137 (Jb .add 135 136)) (.br [(.cons (JF 134 (Jm 8)) (.cons (JS 146 (.app 76 3 24 (.t 143) (.t 145))) (.cons (JS 147 (Ja 1 134 137)) (.cons (JN (Js 1 147 146)) .nil)))),(.cons (JS 146 (.app 76 3 24 (.t 143) (.t 145))) (.cons (JF 134 (Jm 8)) (.cons (JS 147 (Ja 1 134 137)) (.cons (JN (Js 1 147 146)) .nil))))])),(.cons (JS 146 (.app 76 3 24 (.t 143) (.t 145))) (.cons (JF 134 (Jm 8)) (.cons (JF 137 (Jb .add 135 136)) (.cons (JS 147 (Ja 1 134 137)) (.cons (JN (Js 1 147 146)) .nil)))))])),(.cons (JS 146 (.app 76 3 24 (.t 143) (.t 145))) (.cons (JF 134 (Jm 8)) (.cons (JF 136 (Jm 17)) (.cons (JF 137 (Jb .add 135 136)) (.cons (JS 147 (Ja 1 134 137)) (.cons (JN (Js 1 147 146)) .nil))))))])),(.cons (JF 136 (Jm 17)) (.br [(.cons (JF 134 (Jm 8)) (.br [(.cons (JF 135 (Jm 10)) (.br [(.cons (JF 137 (Jb .add 135 136)) (.cons (JS 146 (.app 76 3 24 (.t 143) (.t 145))) (.cons (JS 147 (Ja 1 134 137)) (.cons (JN (Js 1 147 146)) .nil)))),(.cons (JS 146 (.app 76 3 24 (.t 143) (.t 145))) (.cons (JF 137 (Jb .add 135 136)) (.cons (JS 147 (Ja 1 134 137)) (.cons (JN (Js 1 147 146)) .nil))))])),(.cons (JS 146 (.app 76 3 24 (.t 143) (.t 145))) (.cons (JF 135 (Jm 10)) (.cons (JF 137 (Jb .add 135 136)) (.cons (JS 147 (Ja 1 134 137)) (.cons (JN (Js 1 147 146)) .nil)))))])),(.cons (JF 135 (Jm 10)) (.br [(.cons (JF 134 (Jm 8)) (.br [(.cons (JF 137 (Jb .add 135 136)) (.cons (JS 146 (.app 76 3 24 (.t 143) (.t 145))) (.cons (JS 147 (Ja 1 134 137)) (.cons (JN (Js 1 147 146)) .nil)))),(.cons (JS 146 (.app 76 3 24 (.t 143) (.t 145))) (.cons (JF 137 (Jb .add 135 136)) (.cons (JS 147 (Ja 1 134 137)) (.cons (JN (Js 1 147 146)) .nil))))])),(.cons (JF 137 (Jb .add 135 136)) (.br [(.cons (JF 134 (Jm 8)) (.cons (JS 146 (.app 76 3 24 (.t 143) (.t 145))) (.cons (JS 147 (Ja 1 134 137)) (.cons (JN (Js 1 147 146)) .nil)))),(.cons (JS 146 (.app 76 3 24 (.t 143) (.t 145))) (.cons (JF 134 (Jm 8)) (.cons (JS 147 (Ja 1 134 137)) (.cons (JN (Js 1 147 146)) .nil))))])),(.cons (JS 146 (.app 76 3 24 (.t 143) (.t 145))) (.cons (JF 134 (Jm 8)) (.cons (JF 137 (Jb .add 135 136)) (.cons (JS 147 (Ja 1 134 137)) (.cons (JN (Js 1 147 146)) .nil)))))])),(.cons (JS 146 (.app 76 3 24 (.t 143) (.t 145))) (.cons (JF 134 (Jm 8)) (.cons (JF 135 (Jm 10)) (.cons (JF 137 (Jb .add 135 136)) (.cons (JS 147 (Ja 1 134 137)) (.cons (JN (Js 1 147 146)) .nil))))))])),(.cons (JS 146 (.app 76 3 24 (.t 143) (.t 145))) (.cons (JF 134 (Jm 8)) (.cons (JF 135 (Jm 10)) (.cons (JF 136 (Jm 17)) (.cons (JF 137 (Jb .add 135 136)) (.cons (JS 147 (Ja 1 134 137)) (.cons (JN (Js 1 147 146)) .nil)))))))])))))))))
abbrev v13_44:VC:=(.seq (.ops o13_42) (.drw t13_43))
abbrev v13_45:VC:=(.seq (.ops o13_41) v13_44)
abbrev v13_46:VC:=(.seq (.dops o13_40) v13_45)
abbrev v13_47:VC:=(.seq (.ops o13_39) v13_46)
abbrev o13_48:List Ins:=[JS 148 (Jk .add 105 1),JS 105 (Jm 148)]
abbrev v13_49:VC:=(.seq (.block 9 v13_47) (.ops o13_48))
abbrev v13_50:VC:=(.seq (.cond (.t 106) .skip (.exit 8)) v13_49)
abbrev v13_51:VC:=(.seq (.ops o13_38) v13_50)
-- K13_5: changed and kept: [105]
abbrev v13_52:VC:=(.loop v13_51)
abbrev v13_53:VC:=(.block 8 v13_52)
abbrev v13_54:VC:=(.seq (.ops o13_37) v13_53)
abbrev v13_55:VC:=(.seq (.ops o13_36) v13_54)
abbrev o13_56:List Ins:=[JS 149 (Jk .add 98 1),JS 98 (Jm 149)]
abbrev v13_57:VC:=(.seq (.block 7 v13_55) (.ops o13_56))
abbrev v13_58:VC:=(.seq (.cond (.t 99) .skip (.exit 6)) v13_57)
abbrev v13_59:VC:=(.seq (.ops o13_35) v13_58)
-- K13_4: changed and kept: [98]
abbrev v13_60:VC:=(.loop v13_59)
abbrev v13_61:VC:=(.block 6 v13_60)
abbrev v13_62:VC:=(.seq (.ops o13_34) v13_61)
abbrev v13_63:VC:=(.seq (.seq (.ops o13_31) v13_33) v13_62)
abbrev v13_64:VC:=(.seq (.ops o13_30) v13_63)
abbrev v13_65:VC:=(.seq (.seq (.drw t13_26) v13_29) v13_64)
abbrev v13_66:VC:=(.seq (.seq (.ops o13_22) v13_25) v13_65)
abbrev v13_67:VC:=(.seq (.ops o13_21) v13_66)
abbrev o13_68:List Ins:=[JS 150 (Jk .add 57 1),JS 57 (Jm 150)]
abbrev v13_69:VC:=(.seq (.block 5 v13_67) (.ops o13_68))
abbrev v13_70:VC:=(.seq (.cond (.t 58) .skip (.exit 4)) v13_69)
abbrev v13_71:VC:=(.seq (.ops o13_20) v13_70)
-- K13_3: changed and kept: [57]
abbrev v13_72:VC:=(.loop v13_71)
abbrev v13_73:VC:=(.block 4 v13_72)
abbrev v13_74:VC:=(.seq (.ops o13_19) v13_73)
abbrev v13_75:VC:=(.seq (.block 2 v13_18) v13_74)
abbrev o13_76:List Ins:=[JS 42 (Jm 10),JS 43 (Jk .add 42 1),JS 10 (Jm 43)]
abbrev v13_77:VC:=(.seq (.block 1 v13_75) (.ops o13_76))
-- K13_1: changed and kept: [8,10]
abbrev v13_78:VC:=(.loop v13_77)
abbrev v13_79:VC:=(.block 0 v13_78)
abbrev v13_80:VC:=(.seq (.ops o13_12) v13_79)
abbrev v13_81:VC:=(.seq (.ops o13_11) v13_80)
abbrev v13_82:VC:=(.seq (.ops o13_10) v13_81)
abbrev v13_83:VC:=(.seq (.seq (.ops o13_6) v13_9) v13_82)
abbrev v13_84:VC:=(.seq (.seq (.ops o13_2) v13_5) v13_83)
abbrev v13_85:VC:=(.seq (.ops o13_1) v13_84)
def ir13:FC:=⟨2,151,[.t 4,.t 5],(.seq (.ops o13_0) v13_85)⟩
theorem c13:compM Tryz.prog [100040,100051,146] 13 = some ir13:=by kernel_rfl
attribute [local go_sem] Nat.reduceEqDiff Nat.reduceAdd Nat.reduceMul reduceIte Nat.reduceLeDiff Nat.reduceLT Nat.reduceBEq reduceCtorEq
theorem actP_coin (w:Wh) (pl cr:Int) (k:Nat):actP w pl cr (k:Int) = ((pl + w.co.getD k 0) % w.ro,cr + plays w pl (w.co.getD k 0)):=by
 have hne:(k:Int) ≠ -1:=by omega
 unfold actP
 rw [if_neg hne,Int.toNat_natCast]
def scd (s:Int × Int):List CD:=[.int .i64 s.1,.int .i64 s.2]
def cRows (rows:List CRow):Ob:=rO 76 3 rows
def cArr (rows:List CRow) (q:Nat):Ob:=.box (cellsG CRow.cd rows q)
attribute [local go_sem] cRows cArr rO
theorem cd_one (r:CRow):r.cd.length = 1:=rfl
theorem cg_get {R:List CRow} {k:Nat} {r:CRow} (hr:R[k]? = some r) (q:Nat) (x:AV):(cellsG CRow.cd R q).getD k x = .c (.raw r.hd):=by
 obtain ⟨h1,h2⟩:=List.getElem?_eq_some_iff.1 hr
 have:=cellsG_get (cds:=CRow.cd) cd_one h1 q 0 (d:=.raw r.hd) (by rw [h2]; rfl) x
 simpa using this
theorem cg_set {R:List CRow} {k:Nat} (h:k < R.length) (q:Nat) (r':CRow):(cellsG CRow.cd R q).set k (.c (.raw r'.hd)) = cellsG CRow.cd (R.set k r') q:=by
 have:=cellsG_set (cds:=CRow.cd) cd_one h q 0 (by omega) (.raw r'.hd) r' (by simp [CRow.cd])
 simpa using this
theorem cg_len (R:List CRow) (q:Nat):(cellsG CRow.cd R q).length = R.length + q:=by rw [cellsG_len cd_one]; omega
def chE (c L cap bm:Nat):Nat → AV:=upd (upd (upd (upd (upd (upd e0 2 (.bp 2 0)) 3 (.bp 3 0)) 6 (.bp 6 0)) 8 (.vw 1 51 0 L cap)) 9 (.c (.raw (.map (some bm))))) 10 (iv c)
def chO (w:Wh) (n:Int) (rows:List CRow) (q:Nat) (S:Cks) (bm:Nat):Nat → Ob:=upd (upd (upd (upd (upd (upd o0 2 (.box w.avs)) 3 (.box [iv n])) 6 (.box w.avs)) 41 (gmap true false (gl3 S) bm)) 39 (cRows rows)) 51 (cArr rows q)
def rE (f:Nat → AV) (hd:Value) (rl j:Int):Nat → AV:=upd (upd (upd f 55 (.c (.raw hd))) 56 (iv rl)) 57 (iv j)
def rwE (f:Nat → AV) (hd:Value) (rl j:Int):Nat → AV:=upd (rE f hd rl j) 12 (.bp 12 0)
def rwO (f:Nat → Ob) (x:Cp):Nat → Ob:=upd f 12 (.box [iv x.pl,iv x.cr,iv x.bo])
def stE (f:Nat → AV) (sl i:Int):Nat → AV:=upd (upd (upd (upd f 13 (.gr 78)) 96 (.gr 78)) 97 (iv sl)) 98 (iv i)
def stO (f:Nat → Ob) (x:Cp):Nat → Ob:=upd f 78 (.grow 74 2 ((stds x).map scd))
def kE (f:Nat → AV) (w:Wh) (k:Nat):Nat → AV:=upd (upd (upd (upd (upd (upd f 15 (.bp 15 0)) 103 (.c (ints w.co))) 104 (iv w.co.length)) 105 (iv k)) 17 (iv (coK w k))) 18 (.bp 18 0)
def kO (f:Nat → Ob) (s:Int × Int):Nat → Ob:=upd f 15 (.box [iv s.1,iv s.2])
set_option maxHeartbeats 8000000 in
set_option maxRecDepth 20000 in
theorem put43 {C:Ctx} (hP:C.P = Tryz.prog) {w:Wh} {n:Int} {c:Nat} (hc:c ≤ 400000) {x y:Cp} {k:Nat} (hk:coK w k ≤ 100) {R:List CRow} {r:CRow} (hr:R[c + coK w k]? = some r) (hrl:r.xs.length ≤ 5000000) (hRl:R.length = c + 101) {q cap bm:Nat} (hcap:c + 101 ≤ cap ∧ cap ≤ c + 101 + q) {S:Cks} {s:Int × Int} {hd:Value} {rl j sl i:Int} {Q:Exit → St → Prop}
  (hQ:∀ σ' r',r'.xs = r.xs ++ [y.l] → Sub σ' ⟨kE (stE (rwE (chE c (c + 101) cap bm) hd rl j) sl i) w k,kO (stO (rwO (chO w n (R.set (c + coK w k) r') q S bm) x) x) s⟩ → Q .normal σ') :
  WV C (.drw t13_43) Q ⟨kE (stE (rwE (chE c (c + 101) cap bm) hd rl j) sl i) w k,upd (kO (stO (rwO (chO w n R q S bm) x) x) s) 18 (.box [iv y.pl,iv y.cr,iv y.bo])⟩:=by
 have w4:=w64 (n:=((c + coK w k:Nat):Int)) (by omega) (by omega)
 have e7:(c:Int) + ((coK w k:Nat):Int) = ((c + coK w k:Nat):Int):=by omega
 have hge:=cg_get hr q .non
 have hcl:=cg_len R q
 have hklt:c + coK w k < R.length:=by omega
 have hm1:r.xs.length + [y.l].length ≤ maxLen:=by have:maxLen = 9223372036854775807:=rfl; simp only [List.length_singleton]; omega
 have hm2:(r.xs.length + [y.l].length) * 24 ≤ 140737488355328:=by simp only [List.length_singleton]; omega
 refine WV_drwC ?_
 simp only [kE,kO,stE,rwE,rE,chE,stO,rwO,chO,Wh.avs]
 refine CTree_split 8 ?_
 simp only [OT.takeL,OT.dropL]
 simp only [go_sem,hP,e7,w4,hge,Int.toNat_natCast,Nat.mul_one]
 refine ⟨⟨by omega,by omega⟩,by rw [hcl]; omega,?_⟩
 repeat' (first | with_reducible refine CTree_nil ?_ | with_reducible refine CTree_br ?_ | with_reducible refine CTrees_cons ?_ ?_ | with_reducible exact CTrees_nil | (refine CTree_rawI (d:=some 146) rfl (raw_rapp (n:=39) (k:=c + coK w k) (ys:=[y.l]) hr rfl rfl rfl rfl (Nat.one_pos) (fun z hz => by simp only [List.mem_singleton] at hz; subst hz; rfl) rfl hm1 hm2 ?_); intro r' hr' _; simp only [go_sem,hP]) | (refine CTree_split 1 ?_; simp only [OT.takeL,OT.dropL]; simp only [go_sem,hP,e7,w4,Int.toNat_natCast,Nat.mul_one]; (try refine ⟨⟨by omega,by omega⟩,?_⟩); (try refine ⟨by rw [hcl]; omega,?_⟩)))
 all_goals (
  refine hQ _ r' hr' ?_
  rw [cg_set hklt q r']
  simp only [kE,kO,stE,rwE,rE,chE,stO,rwO,chO,Wh.avs]
  exact Sub_au)
set_option maxHeartbeats 8000000 in
set_option maxRecDepth 20000 in
theorem kindsC {C:Ctx} (hP:C.P = Tryz.prog) {w:Wh} (hw:WhOk w) {n:Int} (hn:1 ≤ n ∧ n ≤ 20) {c:Nat} (hc:c ≤ 400000) {x:Cp} (hx:Rch w n c x) (hb:x.bo < n) {i:Nat} {s:Int × Int} (hs:(stds x)[i]? = some s) {N:Nat} (hN:N ≤ 4468801) {rows0 rows:List CRow} (hl0:rows0.length = c + 101) (hpr:Prog w n x c N rows0 rows i 0) {q cap bm:Nat} (hcap:c + 101 ≤ cap ∧ cap ≤ c + 101 + q) {S:Cks} {hd:Value} {rl j sl:Int} {Q:Exit → St → Prop}
  (hQ:∀ σ' rows',Prog w n x c N rows0 rows' i w.co.length → Sub σ' ⟨stE (rwE (chE c (c + 101) cap bm) hd rl j) sl i,stO (rwO (chO w n rows' q S bm) x) x⟩ → Q .normal σ') :
  WV C v13_54 Q ⟨upd (stE (rwE (chE c (c + 101) cap bm) hd rl j) sl i) 15 (.bp 15 0),upd (stO (rwO (chO w n rows q S bm) x) x) 15 (.box [iv s.1,iv s.2])⟩:=by
 have hro:=hw.ro
 have hcl:=hw.cl
 have hxo:=hx.ok hw hn
 have hxb:=hxo.bo
 have hi2:i < 2:=by have:=(List.getElem?_eq_some_iff.1 hs).1; have:=stds_len x; omega
 have hso:=stds_ok hw hxo (List.mem_of_getElem? hs)
 simp only [stE,rwE,rE,chE,stO,rwO,chO,Wh.avs]
 (repeat ((first | refine Va ?_ | refine Vb ?_ | refine Vc ?_ | refine Vd ?_ | refine Ve ?_ | refine Vf ?_); (try simp only [go_sem,hP,Wh.avs,ints,List.length_map]); (repeat refine qJ ?_)))
 refine WV_loopK [2,3,6,8,9,10,12,13,15,55,56,57,96,97,98,103,104] [39,51] (fun i0:Nat × List CRow => i0.1 ≤ w.co.length ∧ Prog w n x c N rows0 i0.2 i i0.1) (fun i0 => w.co.length - i0.1) (fun i0 => [(105,iv i0.1)]) (fun i0 => [(39,cRows i0.2),(51,cArr i0.2 q)]) (0,rows) ⟨Nat.zero_le _,hpr⟩ ?_ ?_
 ·exact Sub_au
 rintro ⟨k,R⟩ ⟨hk,hR⟩
 simp only at hk hR
 (repeat ((first | refine Va ?_ | refine Vb ?_ | refine Vc ?_ | refine Vd ?_ | refine Ve ?_ | refine Vf ?_); (try simp only [go_sem,hP]); (repeat refine qJ ?_)))
 (refine WV_cond rfl (fun h => ?_) (fun h => ?_))
 ·have hi:k < w.co.length:=by simpa using h
  clear h
  have hco:=coK_in hw hi
  have hpb:=plays_ok hw (p:=s.1) (c:=w.co.getD k 0) (by omega)
  have w1:=w64 (n:=(k:Int) + 1) (by omega) (by omega)
  have hact:=act78 hw (pl:=s.1) (cr:=s.2) (a:=(k:Int)) hso.1 ⟨hso.2.1,by omega⟩ (by unfold actB; simp [within]; omega)
  rw [actP_coin] at hact
  have hlt:c + coK w k < R.length:=by rw [hR.len,hl0]; omega
  obtain ⟨r,hr⟩ : ∃ r,R[c + coK w k]? = some r:=⟨_,List.getElem?_eq_getElem hlt⟩
  have hrl:=hR.lens r (List.mem_of_getElem? hr)
  have w2:=w64 (n:=s.2 + plays w s.1 (w.co.getD k 0) - s.2) (by omega) (by omega)
  have w3:=w64 (n:=x.bo + (s.2 + plays w s.1 (w.co.getD k 0) - s.2)) (by omega) (by omega)
  have w4:=w64 (n:=(c:Int) + w.co.getD k 0) (by omega) (by omega)
  have e5:s.2 + plays w s.1 (w.co.getD k 0) - s.2 = plays w s.1 (w.co.getD k 0):=by omega
  rw [e5] at w2 w3
  have e6:w.co.getD k 0 = ((coK w k:Nat):Int):=hco.2.2.1.symm
  have g1:((w.co.map fun n => [CD.int .i64 n]).getD k []).getD 0 default = .int .i64 ((coK w k:Nat):Int):=by rw [← e6]; simp [hi]
  rw [e6] at hact w2 w3 w4 e5 hpb
  (repeat ((first | refine Va ?_ | refine Vb ?_ | refine Vc ?_ | refine Vd ?_ | refine Ve ?_ | refine Vf ?_); (try simp only [go_sem,hP,g1,Int.toNat_natCast,Nat.mul_one]); (repeat refine qJ ?_)))
  (refine ACall_of (hact) rfl rfl rfl rfl rfl ?_; simp only [go_sem,hP,Wh.av,Wh.avs,ints,w2,w3,w4,e5]; (repeat refine qJ ?_); (repeat ((first | refine Va ?_ | refine Vb ?_ | refine Vc ?_ | refine Vd ?_ | refine Ve ?_ | refine Vf ?_); (try simp only [go_sem,hP,Wh.av,Wh.avs,ints,w2,w3,w4,e5]); (repeat refine qJ ?_))))
  have e7:(c:Int) + ((coK w k:Nat):Int) = ((c + coK w k:Nat):Int):=by omega
  rw [e7] at w4
  have hge:=cg_get hr q .non
  have hcl:=cg_len R q
  have hRl:=hR.len
  generalize hnx:nxt w n x s k = y at *
  refine WV_sub (σ':=⟨kE (stE (rwE (chE c (c + 101) cap bm) hd rl j) sl i) w k,upd (kO (stO (rwO (chO w n R q S bm) x) x) s) 18 (.box [iv y.pl,iv y.cr,iv y.bo])⟩) (Sub_of (by simp only [kE,stE,rwE,rE,chE,ints,← hnx,nxt,go_sem]; exact EnvLe_au) (by simp only [kO,stO,rwO,chO,Wh.avs,ints,← hnx,nxt,go_sem,e6]; exact ObjLe_au)) ?_
  refine put43 hP hc (by omega) hr (by omega) (by omega) hcap fun σ' r' hr' hsub => ?_
  have hstep:=hR.step hw hx hb hi hs hr (hnx ▸ hr')
  refine WV_sub hsub ?_
  generalize R.set (c + coK w k) r' = R2 at hstep
  simp only [kE,kO,stE,rwE,rE,chE,stO,rwO,chO,Wh.avs,ints]
  (repeat ((first | refine Va ?_ | refine Vb ?_ | refine Vc ?_ | refine Vd ?_ | refine Ve ?_ | refine Vf ?_); (try simp only [go_sem,hP,w1]); (repeat refine qJ ?_)))
  refine ⟨(k + 1,R2),⟨hi,hstep⟩,by simp only; omega,?_⟩
  exact Sub_au
 ·have hi:k = w.co.length:=by simp at h; omega
  subst hi
  (repeat ((first | refine Va ?_ | refine Vb ?_ | refine Vc ?_ | refine Vd ?_ | refine Ve ?_ | refine Vf ?_); (try simp only [go_sem,hP]); (repeat refine qJ ?_)))
  refine hQ _ R hR ?_
  simp only [stE,rwE,rE,chE,stO,rwO,chO,Wh.avs,ints]
  exact Sub_au
end Go.Proofs.YtbclmfjibpppfaaGreat

namespace Go.Proofs.YtbclmfjibpppfaaGreat
open Go Go.V
attribute [local go_sem] Nat.reduceEqDiff Nat.reduceAdd Nat.reduceMul reduceIte Nat.reduceLeDiff Nat.reduceLT Nat.reduceBEq reduceCtorEq
attribute [local go_sem] cRows cArr rO
theorem scd_get {x:Cp} {i:Nat} {s:Int × Int} (hs:(stds x)[i]? = some s):((stds x).map scd).getD i [] = [.int .i64 s.1,.int .i64 s.2]:=by
 rw [List.getD_eq_getElem?_getD,List.getElem?_map,hs]; rfl
set_option maxHeartbeats 8000000 in
set_option maxRecDepth 20000 in
theorem standsC {C:Ctx} (hP:C.P = Tryz.prog) {w:Wh} (hw:WhOk w) {n:Int} (hn:1 ≤ n ∧ n ≤ 20) {c:Nat} (hc:c ≤ 400000) {x:Cp} (hx:Rch w n c x) (hb:x.bo < n) {N:Nat} (hN:N ≤ 4468801) {rows0:List CRow} (hl0:rows0.length = c + 101) (hpr:Prog w n x c N rows0 rows0 0 0) {q cap bm:Nat} (hcap:c + 101 ≤ cap ∧ cap ≤ c + 101 + q) {S:Cks} {hd:Value} {rl j:Int} {Q:Exit → St → Prop}
  (hQ:∀ σ' rows',Prog w n x c N rows0 rows' (stds x).length 0 → Sub σ' ⟨rwE (chE c (c + 101) cap bm) hd rl j,rwO (chO w n rows' q S bm) x⟩ → Q .normal σ') :
  WV C v13_62 Q ⟨upd (rwE (chE c (c + 101) cap bm) hd rl j) 13 (.gr 78),stO (rwO (chO w n rows0 q S bm) x) x⟩:=by
 have hsl:=stds_len x
 simp only [rwE,rE,chE,stO,rwO,chO,Wh.avs]
 (repeat ((first | refine Va ?_ | refine Vb ?_ | refine Vc ?_ | refine Vd ?_ | refine Ve ?_ | refine Vf ?_); (try simp only [go_sem,hP,List.length_map]); (repeat refine qJ ?_)))
 refine WV_loopK [2,3,6,8,9,10,12,13,55,56,57,96,97] [39,51] (fun i0:Nat × List CRow => i0.1 ≤ (stds x).length ∧ Prog w n x c N rows0 i0.2 i0.1 0) (fun i0 => (stds x).length - i0.1) (fun i0 => [(98,iv i0.1)]) (fun i0 => [(39,cRows i0.2),(51,cArr i0.2 q)]) (0,rows0) ⟨Nat.zero_le _,hpr⟩ ?_ ?_
 ·exact Sub_au
 rintro ⟨i,R⟩ ⟨hi,hR⟩
 simp only at hi hR
 (repeat ((first | refine Va ?_ | refine Vb ?_ | refine Vc ?_ | refine Vd ?_ | refine Ve ?_ | refine Vf ?_); (try simp only [go_sem,hP]); (repeat refine qJ ?_)))
 (refine WV_cond rfl (fun h => ?_) (fun h => ?_))
 ·have hi:i < (stds x).length:=by simpa using h
  clear h
  obtain ⟨s,hs⟩ : ∃ s,(stds x)[i]? = some s:=⟨_,List.getElem?_eq_getElem hi⟩
  have hg:=scd_get hs
  have w1:=w64 (n:=(i:Int) + 1) (by omega) (by omega)
  refine WV_skip ?_
  simp only [go_sem]
  refine WV_seq_ (WV_block (WV_seq_ ?_))
  (refine WV_op ?_; simp only [go_sem,hP,hg,List.length_map,Int.toNat_natCast,Nat.mul_one]; (repeat refine qJ ?_))
  refine WV_sub (σ':=⟨upd (stE (rwE (chE c (c + 101) cap bm) hd rl j) (stds x).length i) 15 (.bp 15 0),upd (stO (rwO (chO w n R q S bm) x) x) 15 (.box [iv s.1,iv s.2])⟩) (Sub_of (by simp only [stE,rwE,rE,chE,go_sem]; exact EnvLe_au) (by simp only [stO,rwO,chO,Wh.avs,go_sem]; exact ObjLe_au)) ?_
  refine kindsC hP hw hn hc hx hb hs hN hl0 hR hcap fun σ' R2 hR2 hsub => ?_
  have hstep:=hR2.turn hw
  refine WV_sub hsub ?_
  simp only [stE,rwE,rE,chE,stO,rwO,chO,Wh.avs]
  (repeat ((first | refine Va ?_ | refine Vb ?_ | refine Vc ?_ | refine Vd ?_ | refine Ve ?_ | refine Vf ?_); (try simp only [go_sem,hP,w1]); (repeat refine qJ ?_)))
  refine ⟨(i + 1,R2),⟨hi,hstep⟩,by simp only; omega,?_⟩
  exact Sub_au
 ·have hi:i = (stds x).length:=by simp at h; omega
  subst hi
  (repeat ((first | refine Va ?_ | refine Vb ?_ | refine Vc ?_ | refine Vd ?_ | refine Ve ?_ | refine Vf ?_); (try simp only [go_sem,hP]); (repeat refine qJ ?_)))
  refine hQ _ R hR ?_
  simp only [rwE,rE,chE,rwO,chO,Wh.avs]
  exact Sub_au
end Go.Proofs.YtbclmfjibpppfaaGreat

namespace Go.Proofs.YtbclmfjibpppfaaGreat
open Go Go.V
attribute [local go_sem] Nat.reduceEqDiff Nat.reduceAdd Nat.reduceMul reduceIte Nat.reduceLeDiff Nat.reduceLT Nat.reduceBEq reduceCtorEq
attribute [local go_sem] cRows cArr rO
def cnt (S:Cks) (x:Cp):Int:=(clook S x).getD 0
theorem look_cnt (S:Cks) (x:Cp):((glook (gl3 S) x.l).getD [0]) = [cnt S x]:=by
 rw [glook_gl3]
 unfold cnt
 cases clook S x <;> rfl
theorem look_gent (S:Cks) (x:Cp):((glook (gent (gl3 S) x.l [0]) x.l).getD [0]) = [cnt S x]:=by
 rw [glook_gent,Option.getD_some,look_cnt]
theorem cput_look {S:Cks} {x:Cp} {v:Int}:clook (cput S x v) x = some v:=by
 have h1:glook (gl3 (cput S x v)) x.l = some [v]:=by
  rw [← gput_gl3,← gput_gent (z:=[0])]
  have:=glook_gent (gl3 S) x.l [0]
  unfold gput
  rw [this,if_pos (by rfl)]
  unfold glook at this ⊢
  rw [List.find?_map,Option.map_map]
  obtain ⟨e,he,h3⟩:=Option.map_eq_some_iff.1 this
  have h4:(fun p:List Int × List Int => p.1 == x.l) ∘ (fun p:List Int × List Int => if p.1 = x.l then (x.l,[v]) else p) = fun p => p.1 == x.l:=by
   funext p
   simp only [Function.comp_apply]
   split
   ·rename_i hp; rw [hp]
   ·rfl
  rw [h4,he]
  have h5:e.1 = x.l:=by simpa using List.find?_some he
  simp [h5]
 rw [glook_gl3] at h1
 cases hc:clook (cput S x v) x with
 | none => rw [hc] at h1; cases h1
 | some u => rw [hc] at h1; simpa using h1
theorem gl3_inj (S:Cks) (x:Cp):∀ p ∈ gl3 S,kval true p.1 = kval true x.l → p.1 = x.l:=fun _ _ h => kval_inj h
set_option maxHeartbeats 8000000 in
set_option maxRecDepth 20000 in
theorem seen26 {C:Ctx} (hP:C.P = Tryz.prog) {w:Wh} (hw:WhOk w) {n:Int} {c:Nat} {x:Cp} (hx:CpOk w x) {rows:List CRow} {q cap bm:Nat} {S:Cks} (hS:∀ x ∈ cks S,CpOk w x) (hcnt:0 ≤ cnt S x ∧ cnt S x ≤ 10000000000000) {hd:Value} {rl j:Int} {Q:Exit → St → Prop}
  (hQ:∀ σ',Sub σ' ⟨rwE (chE c (c + 101) cap bm) hd rl j,rwO (chO w n rows q (cput S x (cnt S x + 1)) bm) x⟩ → Q .normal σ') :
  WV C (.drw t13_26) Q ⟨rwE (chE c (c + 101) cap bm) hd rl j,rwO (chO w n rows q S bm) x⟩:=by
 have hk0:=hx.key hw
 have hks:=gl3_keys hw hS
 have hks2:∀ p ∈ gent (gl3 S) x.l [0],∃ l,keyOf Tryz.prog 76 (kval true p.1) = some l:=gent_keys (Q:=fun k => ∃ l,keyOf Tryz.prog 76 (kval true k) = some l) hk0 hks
 have w1:=w64 (n:=cnt S x + 1) (by omega) (by omega)
 have hl1:=look_cnt S x
 have hl2:=look_gent S x
 have hput:gput (gent (gl3 S) x.l [0]) x.l [cnt S x + 1] = gl3 (cput S x (cnt S x + 1)):=by rw [gput_gent,gput_gl3]
 simp only [rwE,rE,chE,rwO,chO,Wh.avs]
 (refine WV_drw ?_; simp only [go_sem,hP]; (repeat' (refine And.intro ?_ ?_)))
 all_goals (repeat' (first
  | (refine raw_lookN (ka:=true) (va:=false) (n:=41) (b:=bm) (l:=gl3 S) (key:=x.l) (zs:=[0]) (k:=76) (e:=3) (x':=.t 66) (i':=.t 67) (by kernel_rfl) cpLaw (by kernel_rfl) rfl rfl rfl rfl rfl rfl rfl hk0 hks (gl3_inj S x) ?_; rw [hl1]; simp only [go_sem,hP,kav,Bool.false_eq_true,if_false,List.headD_cons,w1])
  | (refine raw_lookS (ka:=true) (va:=false) (n:=41) (b:=bm) (l:=gent (gl3 S) x.l [0]) (key:=x.l) (zs:=[0]) (k:=76) (e:=3) (x':=.t 66) (i':=.t 67) (by kernel_rfl) cpLaw (by kernel_rfl) rfl rfl rfl rfl rfl rfl rfl hk0 hks2 (fun _ _ h => kval_inj h) ?_; rw [hl2]; simp only [go_sem,hP,kav,Bool.false_eq_true,if_false,List.headD_cons,w1])
  | (refine raw_ment (ka:=true) (va:=false) (n:=41) (b:=bm) (l:=gl3 S) (key:=x.l) (zs:=[0]) (k:=76) (e:=3) (x':=.t 66) (i':=.t 67) (by kernel_rfl) cpLaw (by kernel_rfl) rfl rfl rfl rfl rfl rfl rfl hk0 hks (gl3_inj S x) ?_; intro st; rw [hl1]; simp only [go_sem,hP,kav,Bool.false_eq_true,if_false,List.headD_cons,w1])
  | (refine raw_estr (ka:=true) (va:=false) (n:=41) (b:=bm) (l:=gent (gl3 S) x.l [0]) (key:=x.l) (val:=[cnt S x + 1]) (x':=.t 66) (i':=.t 71) (v':=.t 69) rfl rfl rfl rfl rfl rfl rfl rfl rfl rfl (fun _ _ h => kval_inj h) ?_; rw [hput]; simp only [go_sem,hP])
  | refine And.intro ?_ ?_))
 all_goals (
  refine hQ _ ?_
  simp only [rwE,rE,chE,rwO,chO,Wh.avs]
  exact Sub_au)
set_option maxHeartbeats 8000000 in
set_option maxRecDepth 20000 in
theorem pointC {C:Ctx} (hP:C.P = Tryz.prog) {w:Wh} (hw:WhOk w) {n:Int} (hn:1 ≤ n ∧ n ≤ 20) {c:Nat} (hc:c ≤ 400000) {rows:List CRow} {S:Cks} {j:Nat} (hI:CInv w n rows S c j) (hlen:rows.length = c + 101) {r:CRow} (hr:rows[c]? = some r) {x:Cp} (hx:r.xs[j]? = some x.l) {q cap bm:Nat} (hcap:c + 101 ≤ cap ∧ cap ≤ c + 101 + q) {Q:Exit → St → Prop}
  (hR:n ≤ x.bo → Q .ret ⟨upd (upd e0 4 (iv c)) 5 (iv 0),o0⟩)
  (hQ:∀ σ' rows' S',x.bo < n → CInv w n rows' S' c (j + 1) → rows'.length = c + 101 → rows'[c]? = some r → Sub σ' ⟨rE (chE c (c + 101) cap bm) r.hd r.xs.length j,chO w n rows' q S' bm⟩ → Q .normal σ') :
  WV C (.block 5 v13_67) Q ⟨rE (chE c (c + 101) cap bm) r.hd r.xs.length j,chO w n rows q S bm⟩:=by
 have hjl:j < r.xs.length:=(List.getElem?_eq_some_iff.1 hx).1
 have hxr:Rch w n c x:=hI.snd.mem ⟨r,hr,List.mem_of_getElem? hx⟩
 have hxo:=hxr.ok hw hn
 have hS:∀ x ∈ cks S,CpOk w x:=fun x hx => (hI.key x hx).1
 have hsl:=hI.slen hw
 have hrl:=hI.lens r (List.mem_of_getElem? hr)
 have hcnt:0 ≤ cnt S x ∧ cnt S x ≤ 10000000000000 ∧ (x ∉ cks S → cnt S x = 0) ∧ (x ∈ cks S → 1 ≤ cnt S x ∧ clook S x = some (cnt S x)):=by
  unfold cnt
  cases hk:clook S x with
  | none =>
   refine ⟨by simp,by simp,fun _ => rfl,fun h => ?_⟩
   rw [← clook_mem,hk] at h
   cases h
  | some v =>
   have hv:=hI.vals _ (clook_get hk)
   simp only at hv
   have hb:c * 4468801 + j ≤ 400000 * 4468801 + 4468801:=Nat.add_le_add (Nat.mul_le_mul_right _ hc) (by omega)
   refine ⟨by simp only [Option.getD_some]; omega,?_,fun h => absurd (clook_mem.1 (by rw [hk]; rfl)) h,fun _ => ⟨hv.1,rfl⟩⟩
   simp only [Option.getD_some]
   exact Int.le_trans hv.2 (Int.le_trans (Int.ofNat_le.2 hb) (by decide))
 refine WV_block (WV_seq_ (WV_sops ?_))
 simp only [rE,chE,chO,Wh.avs]
 refine SOps_rawI rfl (raw_ria (n:=39) (k:=c) hr rfl rfl rfl rfl rfl (by omega) (by omega) ?_)
 simp only [go_sem,hP,Int.toNat_natCast]
 refine SOps_rawI rfl (raw_rld (n:=39) (k:=c) (i:=j) hr rfl rfl rfl hx ?_)
 simp only [go_sem,hP,Cp.l,List.map_cons,List.map_nil]
 (refine SOps_ops ?_; simp only [go_sem,hP]; (repeat refine qJ ?_))
 (repeat ((first | refine Va ?_ | refine Vb ?_ | refine Vc ?_ | refine Vd ?_ | refine Ve ?_ | refine Vf ?_); (try simp only [go_sem,hP]); (repeat refine qJ ?_)))
 (refine WV_cond rfl (fun h => ?_) (fun h => ?_))
 ·have hb:n ≤ x.bo:=by simpa using h
  (repeat ((first | refine Va ?_ | refine Vb ?_ | refine Vc ?_ | refine Vd ?_ | refine Ve ?_ | refine Vf ?_); (try simp only [go_sem,hP]); (repeat refine qJ ?_)))
  refine WV_sub (σ':=⟨upd (upd e0 4 (iv c)) 5 (iv 0),o0⟩) ?_ (WV_ret (hR hb))
  exact Sub_au
 have hb:x.bo < n:=by simp at h; omega
 clear h
 (repeat ((first | refine Va ?_ | refine Vb ?_ | refine Vc ?_ | refine Vd ?_ | refine Ve ?_ | refine Vf ?_); (try simp only [go_sem,hP]); (repeat refine qJ ?_)))
 refine WV_sub (σ':=⟨rwE (chE c (c + 101) cap bm) r.hd r.xs.length j,rwO (chO w n rows q S bm) x⟩) (Sub_of (by simp only [rwE,rE,chE,go_sem]; exact EnvLe_au) (by simp only [rwO,chO,Wh.avs,go_sem]; exact ObjLe_au)) ?_
 refine seen26 hP hw hxo hS ⟨hcnt.1,hcnt.2.1⟩ fun σ' hsub => ?_
 refine WV_sub hsub ?_
 have hin2:∀ y ∈ cks (cput S x (cnt S x + 1)),CpOk w y:=fun y hy => by
  rw [cput_keys] at hy
  split at hy
  ·exact hS y hy
  ·rcases List.mem_append.1 hy with hy | hy
   ·exact hS y hy
   ·simp only [List.mem_singleton] at hy; subst hy; exact hxo
 have hl2:((glook (gl3 (cput S x (cnt S x + 1))) x.l).getD [0]) = [cnt S x + 1]:=by rw [look_cnt]; unfold cnt; rw [cput_look]; rfl
 have hag:x ∈ cks S → CInv w n rows (cput S x (cnt S x + 1)) c (j + 1):=fun hk => hI.again hr hx hb hk (hcnt.2.2.2 hk).2
 have hfr:x ∉ cks S → cnt S x = 0:=hcnt.2.2.1
 have hone:x ∈ cks S → 1 ≤ cnt S x:=fun hk => (hcnt.2.2.2 hk).1
 have hfr2:x ∉ cks S → ∀ rows',Prog w n x c (8 * S.length + 1) rows rows' (stds x).length 0 → CInv w n rows' (cput S x (cnt S x + 1)) c (j + 1):=fun hk rows' hp => by
  rw [hfr hk]
  exact hI.fresh hw hn hr hx hb hk hp
 generalize hv:cnt S x + 1 = v at *
 generalize cput S x v = S2 at *
 simp only [rwE,rE,chE,rwO,chO,Wh.avs]
 (repeat ((first | refine Va ?_ | refine Vb ?_ | refine Vc ?_ | refine Vd ?_ | refine Ve ?_ | refine Vf ?_); (try simp only [go_sem,hP]); (repeat refine qJ ?_)))
 refine raw_lookN (ka:=true) (va:=false) (n:=41) (b:=bm) (l:=gl3 S2) (key:=x.l) (zs:=[0]) (k:=76) (e:=3) (x':=.t 72) (i':=.t 73) (by kernel_rfl) cpLaw (by kernel_rfl) rfl rfl rfl rfl rfl rfl rfl (hxo.key hw) (gl3_keys hw hin2) (gl3_inj S2 x) ?_
 rw [hl2]
 simp only [go_sem,hP,kav,Bool.false_eq_true,if_false,List.headD_cons]
 (repeat ((first | refine Va ?_ | refine Vb ?_ | refine Vc ?_ | refine Vd ?_ | refine Ve ?_ | refine Vf ?_); (try simp only [go_sem,hP]); (repeat refine qJ ?_)))
 (refine WV_cond rfl (fun h => ?_) (fun h => ?_))
 ·have hk:x ∈ cks S:=Classical.byContradiction fun hk => by
   have:=hfr hk
   simp at h; omega
  refine WV_exit ?_
  refine hQ _ rows S2 hb (hag hk) hlen hr ?_
  simp only [rE,chE,chO,Wh.avs]
  exact Sub_au
 have hk:x ∉ cks S:=fun hk => by
  have:=hone hk
  simp at h; omega
 clear h
 have hst:=Prog.start (x:=x) (c:=c) (N:=8 * S.length + 1) hI.snd hI.lens
 have hfin:∀ σ' rows',Prog w n x c (8 * S.length + 1) rows rows' (stds x).length 0 → Sub σ' ⟨rwE (chE c (c + 101) cap bm) r.hd r.xs.length j,rwO (chO w n rows' q S2 bm) x⟩ → Q .normal σ':=fun σ' rows' hp hsub => by
  refine hQ _ rows' S2 hb (hfr2 hk rows' hp) (by rw [hp.len]; exact hlen) (by rw [hp.same c (Nat.le_refl _)]; exact hr) (hsub.trans ?_)
  simp only [rwE,rE,chE,rwO,chO,Wh.avs]
  exact Sub_au
 have hN:8 * S.length + 1 ≤ 4468801:=by omega
 (repeat ((first | refine Va ?_ | refine Vb ?_ | refine Vc ?_ | refine Vd ?_ | refine Ve ?_ | refine Vf ?_); (try simp only [go_sem,hP]); (repeat refine qJ ?_)))
 by_cases hse:0 < x.cr ∧ 0 < x.pl
 ·have hsd:(stds x).map scd = [[.int .i64 x.pl,.int .i64 x.cr],[.int .i64 0,.int .i64 (x.cr - 1)]]:=by unfold stds; rw [if_pos hse]; rfl
  have hact:=act78 hw (pl:=x.pl) (cr:=x.cr) (a:=-1) hxo.pl ⟨hxo.cr.1,by have:=hxo.cr; omega⟩ rfl
  have hap:actP w x.pl x.cr (-1) = (0,x.cr - 1):=by unfold actP; rw [if_pos rfl,if_pos hse.1]
  rw [hap] at hact
  (refine WV_cond rfl (fun h => ?_) (fun h => ?_))
  ·(repeat ((first | refine Va ?_ | refine Vb ?_ | refine Vc ?_ | refine Vd ?_ | refine Ve ?_ | refine Vf ?_); (try simp only [go_sem,hP]); (repeat refine qJ ?_)))
   (refine AS_pu (hact) ?_; simp only [go_sem,hP,Wh.av,Wh.avs]; (repeat refine qJ ?_))
   refine ⟨by decide,?_⟩
   refine WV_move' 95 78 (by decide) (by decide) rfl ?_
   simp only [go_sem,hP]
   refine WV_sub (σ':=⟨upd (rwE (chE c (c + 101) cap bm) r.hd r.xs.length j) 13 (.gr 78),stO (rwO (chO w n rows q S2 bm) x) x⟩) (Sub_of (by simp only [rwE,rE,chE,go_sem]; exact EnvLe_au) (by simp only [stO,hsd,rwO,chO,Wh.avs,go_sem]; exact ObjLe_au)) ?_
   exact standsC hP hw hn hc hxr hb hN hlen hst hcap hfin
  ·exfalso; simp [hse.1,hse.2] at h
 ·have hsd:(stds x).map scd = [[.int .i64 x.pl,.int .i64 x.cr]]:=by unfold stds; rw [if_neg hse]; rfl
  (refine WV_cond rfl (fun h => ?_) (fun h => ?_))
  ·exfalso; apply hse; simpa using h
  ·(refine WV_skip ?_; simp only [go_sem])
   refine WV_sub (σ':=⟨upd (rwE (chE c (c + 101) cap bm) r.hd r.xs.length j) 13 (.gr 78),stO (rwO (chO w n rows q S2 bm) x) x⟩) (Sub_of (by simp only [rwE,rE,chE,go_sem]; exact EnvLe_au) (by simp only [stO,hsd,rwO,chO,Wh.avs,go_sem]; exact ObjLe_au)) ?_
   exact standsC hP hw hn hc hxr hb hN hlen hst hcap hfin
end Go.Proofs.YtbclmfjibpppfaaGreat

namespace Go.Proofs.YtbclmfjibpppfaaGreat
open Go Go.V
attribute [local go_sem] Nat.reduceEqDiff Nat.reduceAdd Nat.reduceMul reduceIte Nat.reduceLeDiff Nat.reduceLT Nat.reduceBEq reduceCtorEq
attribute [local go_sem] cRows cArr rO
theorem cg_nil (R:List CRow) (q:Nat):cellsG CRow.cd R 0 ++ [AV.c (.raw (.slice none 0 0))] ++ List.replicate q .non = cellsG CRow.cd (R ++ [CRow.nil]) q:=by
 rw [← cellsG_snoc]; rfl
set_option maxHeartbeats 8000000 in
set_option maxRecDepth 20000 in
theorem growC {C:Ctx} (hP:C.P = Tryz.prog) {w:Wh} {n:Int} {c:Nat} (hc:c ≤ 400000) {rows0:List CRow} {S:Cks} (hI:CInv w n rows0 S c 0) (hlen:rows0.length ≤ c + 101) {q0 cap0 bm:Nat} (hcap:rows0.length ≤ cap0 ∧ cap0 ≤ rows0.length + q0) {Q:Exit → St → Prop}
  (hQ:∀ σ' rows cap q,CInv w n rows S c 0 → rows.length = c + 101 → (c + 101 ≤ cap ∧ cap ≤ c + 101 + q) → Sub σ' ⟨chE c (c + 101) cap bm,chO w n rows q S bm⟩ → Q .normal σ') :
  WV C (.block 2 v13_18) Q ⟨chE c rows0.length cap0 bm,chO w n rows0 q0 S bm⟩:=by
 simp only [chE,chO,Wh.avs]
 refine WV_block ?_
 refine WV_loopK [2,3,6,9,10] [39,51] (fun i:List CRow × Nat × Nat => CInv w n i.1 S c 0 ∧ i.1.length ≤ c + 101 ∧ i.1.length ≤ i.2.1 ∧ i.2.1 ≤ i.1.length + i.2.2) (fun i => c + 101 - i.1.length) (fun i => [(8,.vw 1 51 0 i.1.length i.2.1)]) (fun i => [(39,cRows i.1),(51,cArr i.1 i.2.2)]) (rows0,cap0,q0) ⟨hI,hlen,hcap⟩ ?_ ?_
 ·exact Sub_au
 rintro ⟨R,cap,q⟩ ⟨hR,hl,hcp⟩
 simp only at hR hl hcp
 have w1:=w64 (n:=(c:Int) + 100) (by omega) (by omega)
 (repeat ((first | refine Va ?_ | refine Vb ?_ | refine Vc ?_ | refine Vd ?_ | refine Ve ?_ | refine Vf ?_); (try simp only [go_sem,hP,w1]); (repeat refine qJ ?_)))
 (refine WV_cond rfl (fun h => ?_) (fun h => ?_))
 ·have hl2:R.length < c + 101:=by simp at h; omega
  clear h
  (repeat ((first | refine Va ?_ | refine Vb ?_ | refine Vc ?_ | refine Vd ?_ | refine Ve ?_ | refine Vf ?_); (try simp only [go_sem,hP]); (repeat refine qJ ?_)))
  refine ⟨by rw [cg_len]; omega,by have:maxLen = 9223372036854775807:=rfl; omega,by omega,?_⟩
  intro cap' j' h1 h2 h3
  refine ⟨(R ++ [CRow.nil],cap',j'),⟨hR.grow,by simp; omega,by simp; omega,by simp; omega⟩,by simp; omega,?_⟩
  have e1:List.take (R.length * 1) (cellsG CRow.cd R q) = cellsG CRow.cd R 0:=cellsG_take cd_one R q
  rw [e1]
  have e2:AV.prgL 51 (cellsG CRow.cd R 0 ++ List.map AV.c [[CD.raw (.slice none 0 0)]].flatten ++ List.replicate j' .non) = cellsG CRow.cd (R ++ [CRow.nil]) j':=by
   rw [← prg_cellsG CRow.cd 51 (R ++ [CRow.nil]) j',← cg_nil]; rfl
  rw [e2]
  refine (Sub_rowsN 39 rfl).trans ?_
  simp only [List.length_append,List.length_singleton]
  exact Sub_au
 ·have hl2:R.length = c + 101:=by simp at h; omega
  clear h
  (repeat ((first | refine Va ?_ | refine Vb ?_ | refine Vc ?_ | refine Vd ?_ | refine Ve ?_ | refine Vf ?_); (try simp only [go_sem,hP]); (repeat refine qJ ?_)))
  refine hQ _ R cap q hR hl2 (by omega) ?_
  rw [← hl2]
  simp only [chE,chO,Wh.avs]
  exact Sub_au
set_option maxHeartbeats 8000000 in
set_option maxRecDepth 20000 in
theorem rowsC {C:Ctx} (hP:C.P = Tryz.prog) {w:Wh} (hw:WhOk w) {n:Int} (hn:1 ≤ n ∧ n ≤ 20) {c:Nat} (hc:c ≤ 400000) {rows0:List CRow} {S0:Cks} (hI:CInv w n rows0 S0 c 0) (hlen:rows0.length = c + 101) {q cap bm:Nat} (hcap:c + 101 ≤ cap ∧ cap ≤ c + 101 + q) {Q:Exit → St → Prop}
  (hR:HitC w n c → Q .ret ⟨upd (upd e0 4 (iv c)) 5 (iv 0),o0⟩)
  (hQ:∀ σ' rows S,CInv w n rows S (c + 1) 0 → rows.length = c + 101 → Sub σ' ⟨chE c (c + 101) cap bm,chO w n rows q S bm⟩ → Q .normal σ') :
  WV C v13_74 Q ⟨chE c (c + 101) cap bm,chO w n rows0 q S0 bm⟩:=by
 obtain ⟨r,hr⟩ : ∃ r,rows0[c]? = some r:=⟨_,List.getElem?_eq_getElem (by omega)⟩
 have hge:=cg_get hr q .non
 have hcl:=cg_len rows0 q
 simp only [chE,chO,Wh.avs]
 refine WV_seq_ ?_
 (refine WV_split 4 ?_; simp only [List.take_succ_cons,List.take_zero,List.take_nil,List.drop_succ_cons,List.drop_zero,List.drop_nil]; simp only [go_sem,hP,hge,Int.toNat_natCast,Nat.mul_one]; (repeat refine qJ ?_))
 refine SOps_rawI rfl (raw_rlen (n:=39) (k:=c) (sz:=3) (e:=76) hr rfl rfl rfl ?_)
 simp only [go_sem,hP]
 (refine SOps_ops ?_; simp only [go_sem,hP]; (repeat refine qJ ?_))
 refine WV_block ?_
 refine WV_loopK [2,3,6,8,9,10,55,56] [39,51,41] (fun i:Nat × List CRow × Cks => i.1 ≤ r.xs.length ∧ CInv w n i.2.1 i.2.2 c i.1 ∧ i.2.1.length = c + 101 ∧ i.2.1[c]? = some r) (fun i => r.xs.length - i.1) (fun i => [(57,iv i.1)]) (fun i => [(39,cRows i.2.1),(51,cArr i.2.1 q),(41,gmap true false (gl3 i.2.2) bm)]) (0,rows0,S0) ⟨Nat.zero_le _,hI,hlen,hr⟩ ?_ ?_
 ·exact Sub_au
 rintro ⟨j,R,S⟩ ⟨hj,hRI,hRl,hRr⟩
 simp only at hj hRI hRl hRr
 (repeat ((first | refine Va ?_ | refine Vb ?_ | refine Vc ?_ | refine Vd ?_ | refine Ve ?_ | refine Vf ?_); (try simp only [go_sem,hP]); (repeat refine qJ ?_)))
 (refine WV_cond rfl (fun h => ?_) (fun h => ?_))
 ·have hj:j < r.xs.length:=by simpa using h
  clear h
  obtain ⟨x,hx,hxr⟩:=hRI.snd c r hRr (r.xs[j]) (List.getElem_mem hj)
  have hxj:r.xs[j]? = some x.l:=by rw [List.getElem?_eq_getElem hj,hx]
  have hrl:=hRI.lens r (List.mem_of_getElem? hRr)
  have hsl:=hRI.slen hw
  have w1:=w64 (n:=(j:Int) + 1) (by omega) (by omega)
  refine WV_skip ?_
  simp only [go_sem]
  refine WV_seq_ ?_
  refine WV_sub (σ':=⟨rE (chE c (c + 101) cap bm) r.hd r.xs.length j,chO w n R q S bm⟩) (Sub_of (by simp only [rE,chE,go_sem]; exact EnvLe_au) (by simp only [chO,Wh.avs,go_sem]; exact ObjLe_au)) ?_
  refine pointC hP hw hn hc hRI hRl hRr hxj hcap (fun hb => ?_) (fun σ' R2 S2 hb hI2 hl2 hr2 hsub => ?_)
  ·exact hR ⟨x,hxr,hb⟩
  ·refine WV_sub hsub ?_
   simp only [rE,chE,chO,Wh.avs]
   (repeat ((first | refine Va ?_ | refine Vb ?_ | refine Vc ?_ | refine Vd ?_ | refine Ve ?_ | refine Vf ?_); (try simp only [go_sem,hP,w1]); (repeat refine qJ ?_)))
   refine ⟨(j + 1,R2,S2),⟨hj,hI2,hl2,hr2⟩,by simp only; omega,?_⟩
   exact Sub_au
 ·have hj:j = r.xs.length:=by simp at h; omega
  subst hj
  clear h
  (repeat ((first | refine Va ?_ | refine Vb ?_ | refine Vc ?_ | refine Vd ?_ | refine Ve ?_ | refine Vf ?_); (try simp only [go_sem,hP]); (repeat refine qJ ?_)))
  refine hQ _ R S (hRI.next hw hRr) hRl ?_
  simp only [chE,chO,Wh.avs]
  exact Sub_au
set_option maxHeartbeats 8000000 in
set_option maxRecDepth 20000 in
theorem cheapest13 (w:Wh) (n:Int):FSpec Tryz.prog 13 [w.av,iv n] (.tup [iv (cheapP w n).1,iv (cheapP w n).2]):=by
 refine FSpec_of c13 (Nat.le_refl _) (by decide) fun C hP hN hC hL => ?_; rw [init_st]
 simp only [ir13,Wh.av,Wh.avs]
 (repeat ((first | refine Va ?_ | refine Vb ?_ | refine Vc ?_ | refine Vd ?_ | refine Ve ?_ | refine Vf ?_); (try simp only [go_sem,hP]); (repeat refine qJ ?_)))
 refine AS_lend [3] (openC29 w n) rfl rfl rfl (by decide) rfl rfl ?_
 rintro r l' ⟨rfl,rfl⟩
 by_cases h1:openE w (within n 1 20) = 0
 ·rw [if_pos h1,h1]
  have hb:whB w = true ∧ within n 1 20 = true:=by
   unfold openE at h1
   split at h1
   ·split at h1
    ·rename_i a b; exact ⟨a,b⟩
    ·cases h1
   ·cases h1
  have hw:=whB_ok hb.1
  have hro:=hw.ro
  have hn:1 ≤ n ∧ n ≤ 20:=by have:=hb.2; simpa [within] using this
  refine ⟨_,_,rfl,rfl,?_⟩
  simp only [go_sem,hP,ownBack,Wh.av,Wh.avs]
  (repeat ((first | refine Va ?_ | refine Vb ?_ | refine Vc ?_ | refine Vd ?_ | refine Ve ?_ | refine Vf ?_); (try simp only [go_sem,hP]); (repeat refine qJ ?_)))
  (refine WV_cond rfl (fun h => ?_) (fun h => ?_))
  ·simp at h
  clear h
  (repeat ((first | refine Va ?_ | refine Vb ?_ | refine Vc ?_ | refine Vd ?_ | refine Ve ?_ | refine Vf ?_); (try simp only [go_sem,hP,ints,List.length_map]); (repeat refine qJ ?_)))
  by_cases hem:w.co = [] ∨ w.no = []
  ·have e1:cheapP w n = (0,3):=by unfold cheapP; rw [if_pos h1,if_pos hem]
   rw [e1]
   (refine WV_cond rfl (fun h => ?_) (fun h => ?_))
   ·(repeat ((first | refine Va ?_ | refine Vb ?_ | refine Vc ?_ | refine Vd ?_ | refine Ve ?_ | refine Vf ?_); (try simp only [go_sem,hP]); (repeat refine qJ ?_)))
    (refine WV_ret ?_; simp only [thenQ,inQ,RetQ,RetOk,resAll,resA]; simp only [go_sem,tupA,AV.port,AV.portL,exists_eq_left']; (first | exact AVle.of rfl | refine AVle.of ?_ | skip))
   ·exfalso
    rcases hem with e | e <;> simp [e] at h
  have hne:w.co ≠ [] ∧ w.no ≠ []:=⟨fun e => hem (.inl e),fun e => hem (.inr e)⟩
  have e1:cheapP w n = (((cheapN w n:Nat):Int),0):=by unfold cheapP; rw [if_pos h1,if_neg hem]
  rw [e1]
  (refine WV_cond rfl (fun h => ?_) (fun h => ?_))
  ·exfalso
   have h3:=List.length_pos_iff.2 hne.1
   have h4:=List.length_pos_iff.2 hne.2
   simp at h
   rcases h with h | h
   ·exact hne.1 h
   ·exact hne.2 h
  clear h
  (refine WV_skip ?_; simp only [go_sem])
  refine WV_seq_ ?_
  (refine WV_split 1 ?_; simp only [List.take_succ_cons,List.take_zero,List.take_nil,List.drop_succ_cons,List.drop_zero,List.drop_nil]; simp only [go_sem,hP]; (repeat refine qJ ?_))
  refine SOps_rawI rfl ?_
  refine raw_qbsl (xs:=[[0,0,0]]) rfl rfl rfl (fun z hz => by simp only [List.mem_singleton] at hz; subst hz; rfl) ?_
  intro b
  simp only [go_sem,hP]
  (refine SOps_ops ?_; simp only [go_sem,hP]; (repeat refine qJ ?_))
  (repeat ((first | refine Va ?_ | refine Vb ?_ | refine Vc ?_ | refine Vd ?_ | refine Ve ?_ | refine Vf ?_); (try simp only [go_sem,hP]); (repeat refine qJ ?_)))
  refine raw_mkG true false rfl ?_
  intro bm
  simp only [go_sem,hP]
  refine WV_move' 40 51 (by decide) (by decide) rfl ?_
  simp only [go_sem,hP]
  refine WV_rows0 39 Nat.one_pos rfl ?_
  obtain ⟨r0,hr0⟩ : ∃ r0:CRow,r0 = ⟨b,1,[[0,0,0]]⟩:=⟨_,rfl⟩
  have hc0:[AV.c (.raw (.slice (some ⟨b,0,none⟩) 1 1))] = cellsG CRow.cd [r0] 0:=by rw [hr0]; rfl
  have hx0:r0.xs = [[0,0,0]]:=by rw [hr0]
  rw [← hr0,hc0]
  clear hr0 hc0
  refine WV_seq_ ?_
  (refine WV_op ?_; simp only [go_sem,hP]; (repeat refine qJ ?_))
  refine WV_block ?_
  have hgl:([]:GL) = gl3 []:=rfl
  rw [hgl]
  obtain ⟨t0,ht0,hhit⟩:=hit_some hw hn hne.2 hne.1
  refine WV_loopK [2,3,6,9] [39,51,41] (fun i:Nat × List CRow × Cks × Nat × Nat => CInv w n i.2.1 i.2.2.1 i.1 0 ∧ i.2.1.length ≤ i.1 + 101 ∧ i.2.1.length ≤ i.2.2.2.1 ∧ i.2.2.2.1 ≤ i.2.1.length + i.2.2.2.2) (fun i => 400001 - i.1) (fun i => [(8,.vw 1 51 0 i.2.1.length i.2.2.2.1),(10,iv i.1)]) (fun i => [(39,cRows i.2.1),(51,cArr i.2.1 i.2.2.2.2),(41,gmap true false (gl3 i.2.2.1) bm)]) (0,[r0],[],1,0) ⟨CInv.start hx0,by simp,by simp,by simp⟩ ?_ ?_
  ·exact Sub_au
  rintro ⟨c,R,S,cap,q⟩ ⟨hI,hl,hcp⟩
  simp only at hI hl hcp
  have hc:c ≤ 400000:=Classical.byContradiction fun hc => hI.nohit hw (by omega) hhit
  refine WV_seq_ (WV_block (WV_seq_ ?_))
  refine WV_sub (σ':=⟨chE c R.length cap bm,chO w n R q S bm⟩) (by simp only [chE,chO,Wh.avs,ints]; exact Sub_au) ?_
  refine growC hP hc hI hl hcp fun σ' R2 cap2 q2 hI2 hl2 hcp2 hsub => ?_
  refine WV_sub hsub ?_
  refine rowsC hP hw hn hc hI2 hl2 hcp2 (fun hh => ?_) (fun σ' R3 S3 hI3 hl3 hsub3 => ?_)
  ·have e2:=cheapN_eq hh fun u hu => hI.nohit hw hu
   rw [e2]
   simp only [inQ,thenQ,RetQ,RetOk,resAll,resA]
   simp only [go_sem,tupA,AV.port,AV.portL,exists_eq_left']
   exact AVle.refl _
  ·refine WV_sub hsub3 ?_
   have w1:=w64 (n:=(c:Int) + 1) (by omega) (by omega)
   simp only [chE,chO,Wh.avs]
   (repeat ((first | refine Va ?_ | refine Vb ?_ | refine Vc ?_ | refine Vd ?_ | refine Ve ?_ | refine Vf ?_); (try simp only [go_sem,hP,w1]); (repeat refine qJ ?_)))
   refine ⟨(c + 1,R3,S3,cap2,q2),⟨hI3,by simp only; omega,by simp only; omega⟩,by simp only; omega,?_⟩
   rw [show (c + 101) = R3.length by omega]
   simp only [ints]
   exact Sub_au
 ·have e1:cheapP w n = (0,openE w (within n 1 20)):=by unfold cheapP; rw [if_neg h1]
  rw [e1,if_neg h1]
  generalize openE w (within n 1 20) = e at *
  refine ⟨_,_,rfl,rfl,?_⟩
  simp only [go_sem,hP,ownBack,whZ]
  (repeat ((first | refine Va ?_ | refine Vb ?_ | refine Vc ?_ | refine Vd ?_ | refine Ve ?_ | refine Vf ?_); (try simp only [go_sem,hP]); (repeat refine qJ ?_)))
  (refine WV_cond rfl (fun h => ?_) (fun h => ?_))
  ·(repeat ((first | refine Va ?_ | refine Vb ?_ | refine Vc ?_ | refine Vd ?_ | refine Ve ?_ | refine Vf ?_); (try simp only [go_sem,hP]); (repeat refine qJ ?_)))
   (refine WV_ret ?_; simp only [thenQ,inQ,RetQ,RetOk,resAll,resA]; simp only [go_sem,tupA,AV.port,AV.portL,exists_eq_left']; (first | exact AVle.of rfl | refine AVle.of ?_ | skip))
  ·simp at h; exact absurd h h1
end Go.Proofs.YtbclmfjibpppfaaGreat

/-
 The most plays of a purse: the search,plain; and the spot when one more coin is put in.
-/
namespace Go.Proofs.YtbclmfjibpppfaaGreat
open Go Go.V
abbrev o38_0:List Ins:=[JS 4 (JB false)]
abbrev o38_1:List Ins:=[JS 5 (Jm 0),JS 6 (Jm 1),JS 7 (Jb .gtr 5 6),JS 4 (Jm 7)]
abbrev v38_2:VC:=(.seq (.ops o38_1) .ret)
def ir38:FC:=⟨2,8,[.t 4],(.seq (.ops o38_0) v38_2)⟩
abbrev o64_0:List Ins:=[JS 4 (.box 3 (.t 0)),JS 5 (.box 6 (.t 1)),JS 8 (.alloc [Jz 0,Jz 0,Jz 0,Jz 0,Jz 0,Jz 0]),JS 9 (Ji 0)]
abbrev o64_1:List Ins:=[JS 12 (Jm 3)]
abbrev o64_2:List Ins:=[JS 13 (Jf 5 5),JS 14 (Jl 13),JS 15 (Jk .sub 14 1),JS 16 (Jf 4 5),JN (.st 1 (.t 16) (.k (Jz 0))),JS 17 (Jf 5 5),JN (Js 1 17 15)]
abbrev v64_3:VC:=(.cond (.t 12) (.ops o64_2) .skip)
abbrev o64_4:List Ins:=[JF 19 (JL 3 4),JF 20 (Jf 4 5),JF 21 (Jl 20),JF 22 (Jf 0 4),JF 23 (Jf 2 22),JF 24 (Jl 23),JF 25 (Jm 2),JF 26 (Ja 1 24 25),JF 27 (Jl 26),JS 28 (Jc 50 [.t 19,.t 21,.t 27]),JS 18 (Jm 28),JF 29 (Je 18 0),JF 30 (Je 18 1),JF 10 (Jm 29),JS 11 (Jm 30)]
abbrev o64_5:List Ins:=[JS 31 (Jm 2),JS 32 (Jf 0 5),JS 33 (.iap 4 1 (.t 32) (.t 31)),JS 34 (Jl 33),JS 35 (Jk .sub 34 1),JS 36 (Jf 0 5),JS 37 (.iap 4 1 (.t 36) (.t 31)),JN (Js 1 37 35)]
abbrev o64_6:List Ins:=[JS 38 (Jm 10),JS 39 (Jf 5 5),JS 40 (Jl 39),JS 41 (Jm 11),JS 42 (Jb .add 40 41),JS 43 (Jf 4 5),JN (Js 1 43 38),JS 44 (Jf 5 5),JN (Js 1 44 42)]
abbrev o64_7:List Ins:=[JS 45 (JL 6 5),JS 46 (Jm 11),JN (Js 6 8 45),JS 9 (Jm 46)]
abbrev v64_8:VC:=(.seq (.ops o64_7) .ret)
abbrev v64_9:VC:=(.seq (.ops o64_6) v64_8)
abbrev v64_10:VC:=(.seq (.ops o64_5) v64_9)
abbrev v64_11:VC:=(.seq (.dops o64_4) v64_10)
abbrev v64_12:VC:=(.seq (.seq (.ops o64_1) v64_3) v64_11)
def ir64:FC:=⟨4,47,[.cell 8 false 6,.t 9],(.seq (.ops o64_0) v64_12)⟩
theorem c38:compM Tryz.prog [] 38 = some ir38:=by kernel_rfl
theorem c64:compM Tryz.prog [] 64 = some ir64:=by kernel_rfl
attribute [local go_sem] Nat.reduceEqDiff Nat.reduceAdd Nat.reduceMul reduceIte Nat.reduceLeDiff Nat.reduceLT Nat.reduceBEq reduceCtorEq
structure Spt where
 x:Bag
 pl:Int
 cr:Int
 deriving DecidableEq
def Spt.l (s:Spt):List Int:=[s.x.a,s.x.b,s.x.c,s.x.d,s.pl,s.cr]
theorem Spt.inj {p q:Spt} (h:p.l = q.l):p = q:=by
 obtain ⟨⟨a,b,c,d⟩,e,f⟩:=p
 obtain ⟨⟨a',b',c',d'⟩,e',f'⟩:=q
 simp only [Spt.l,List.cons.injEq,and_true] at h
 simp only [Spt.mk.injEq,Bag.mk.injEq]
 omega
def Bag.dec (x:Bag):Nat → Bag
 | 0 => { x with a:=x.a - 1 }
 | 1 => { x with b:=x.b - 1 }
 | 2 => { x with c:=x.c - 1 }
 | 3 => { x with d:=x.d - 1 }
 | _ => x
def aft (w:Wh) (s:Spt) (k:Nat) (sel:Bool):Spt × Int :=
 (⟨s.x.dec k,((if sel then 0 else s.pl) + w.co.getD k 0) % w.ro,(if sel then s.cr - 1 else s.cr) + plays w (if sel then 0 else s.pl) (w.co.getD k 0)⟩,plays w (if sel then 0 else s.pl) (w.co.getD k 0))
structure SpOk (w:Wh) (s:Spt):Prop where
 x:BagOk s.x
 pl:0 ≤ s.pl ∧ s.pl < w.ro
 cr:0 ≤ s.cr ∧ s.cr ≤ 2000
theorem more38 (a b:Int):FSpec Tryz.prog 38 [iv a,iv b] (.c (.bool (decide (b < a)))):=by
 refine FSpec_of c38 (Nat.le_refl _) (by decide) fun C hP hN hC hL => ?_; rw [init_st]
 simp only [ir38]
 (repeat ((first | refine Va ?_ | refine Vb ?_ | refine Vc ?_ | refine Vd ?_ | refine Ve ?_ | refine Vf ?_); (try simp only [go_sem,hP]); (repeat refine qJ ?_)))
 (refine WV_ret ?_; simp only [thenQ,inQ,RetQ,RetOk,resAll,resA]; simp only [go_sem,tupA,AV.port,AV.portL,exists_eq_left']; (first | exact AVle.of rfl | refine AVle.of ?_ | skip))
theorem at_sp (s:Spt) {k:Nat} (hk:k < 4):[AV.c (.int .i64 s.x.a),.c (.int .i64 s.x.b),.c (.int .i64 s.x.c),.c (.int .i64 s.x.d),.c (.int .i64 s.pl),.c (.int .i64 s.cr)].getD k .non = .c (.int .i64 (s.x.at k)):=by
 have:k = 0 ∨ k = 1 ∨ k = 2 ∨ k = 3:=by omega
 rcases this with rfl | rfl | rfl | rfl <;> rfl
theorem set_sp (s:Spt) {k:Nat} (hk:k < 4) (pl cr:Int):[AV.c (.int .i64 s.x.a),.c (.int .i64 s.x.b),.c (.int .i64 s.x.c),.c (.int .i64 s.x.d),.c (.int .i64 pl),.c (.int .i64 cr)].set k (.c (.int .i64 (s.x.at k - 1))) = [AV.c (.int .i64 (s.x.dec k).a),.c (.int .i64 (s.x.dec k).b),.c (.int .i64 (s.x.dec k).c),.c (.int .i64 (s.x.dec k).d),.c (.int .i64 pl),.c (.int .i64 cr)]:=by
 have:k = 0 ∨ k = 1 ∨ k = 2 ∨ k = 3:=by omega
 rcases this with rfl | rfl | rfl | rfl <;> rfl
theorem Bag.at_ok {x:Bag} (hx:BagOk x) {k:Nat} (hk:k < 4):0 ≤ x.at k ∧ x.at k ≤ 14:=by
 obtain ⟨h1,h2,h3,h4,h5⟩:=hx
 have:k = 0 ∨ k = 1 ∨ k = 2 ∨ k = 3:=by omega
 rcases this with rfl | rfl | rfl | rfl <;> simp only [Bag.at,Bag.l,List.getD_cons_zero,List.getD_cons_succ] <;> omega
theorem Bag.dec_ok {x:Bag} (hx:BagOk x) {k:Nat} (hk:k < 4) (h0:x.at k ≠ 0):BagOk (x.dec k) ∧ (x.dec k).many = x.many - 1:=by
 have ha:=Bag.at_ok hx hk
 obtain ⟨h1,h2,h3,h4,h5⟩:=hx
 have:k = 0 ∨ k = 1 ∨ k = 2 ∨ k = 3:=by omega
 rcases this with rfl | rfl | rfl | rfl <;> simp only [Bag.at,Bag.l,List.getD_cons_zero,List.getD_cons_succ] at ha h0 <;> exact ⟨⟨by simp only [Bag.dec]; omega,by simp only [Bag.dec]; omega,by simp only [Bag.dec]; omega,by simp only [Bag.dec]; omega,by simp only [Bag.dec]; omega⟩,by simp only [Bag.dec,Bag.many]; omega⟩
set_option maxHeartbeats 8000000 in
theorem after64 {w:Wh} (hw:WhOk w) {s:Spt} (hs:SpOk w s) {k:Nat} (hk:k < w.co.length) (sel:Bool) (hsel:sel = true → 0 < s.cr):FSpec Tryz.prog 64 [w.av,.agg (s.l.map iv),iv k,.c (.bool sel)] (.tup [.agg ((aft w s k sel).1.l.map iv),iv (aft w s k sel).2]):=by
 have hcl:=hw.cl
 have hro:=hw.ro
 have hk4:k < 4:=by omega
 have hco:=coK_in hw hk
 have hpl:=hs.pl
 have hcr:=hs.cr
 have hat:=Bag.at_ok hs.x hk4
 have hgd:((w.co.map fun n => [CD.int .i64 n]).getD k []).getD 0 default = .int .i64 (w.co.getD k 0):=by simp [hk]
 have g1:=at_sp s hk4
 have w1:=w64 (n:=s.x.at k - 1) (by omega) (by omega)
 refine FSpec_of c64 (Nat.le_refl _) (by decide) fun C hP hN hC hL => ?_; rw [init_st]
 simp only [ir64,Wh.av,Wh.avs,Spt.l,List.map_cons,List.map_nil]
 (repeat ((first | refine Va ?_ | refine Vb ?_ | refine Vc ?_ | refine Vd ?_ | refine Ve ?_ | refine Vf ?_); (try simp only [go_sem,hP]); (repeat refine qJ ?_)))
 cases sel with
 | false =>
  (refine WV_cond rfl (fun h => ?_) (fun h => ?_))
  ·cases h
  have hp:=plays_ok hw (p:=s.pl) (c:=w.co.getD k 0) (by omega)
  have w2:=w64 (n:=s.cr + plays w s.pl (w.co.getD k 0)) (by omega) (by omega)
  have hset:=set_sp s hk4 s.pl s.cr
  have g2:=at_sp ⟨s.x,s.pl,s.cr⟩ hk4
  (repeat ((first | refine Va ?_ | refine Vb ?_ | refine Vc ?_ | refine Vd ?_ | refine Ve ?_ | refine Vf ?_); (try simp only [go_sem,hP,hgd,ints,List.length_map,Int.toNat_natCast,Nat.mul_one]); (repeat refine qJ ?_)))
  (refine AS_pu (turn84 hw hpl (c:=w.co.getD k 0) ⟨by omega,by omega⟩) ?_; simp only [go_sem,hP,Wh.av,Wh.avs,ints,Int.toNat_natCast,Nat.mul_one,g1,w1,hset,w2]; (repeat refine qJ ?_); (repeat ((first | refine Va ?_ | refine Vb ?_ | refine Vc ?_ | refine Vd ?_ | refine Ve ?_ | refine Vf ?_); (try simp only [go_sem,hP,Wh.av,Wh.avs,ints,Int.toNat_natCast,Nat.mul_one,g1,w1,hset,w2]); (repeat refine qJ ?_))))
  (refine WV_ret ?_; simp only [thenQ,inQ,RetQ,RetOk,resAll,resA]; simp only [go_sem,tupA,AV.port,AV.portL,exists_eq_left',aft,Bool.false_eq_true,if_false]; (first | exact AVle.of rfl | refine AVle.of ?_ | skip))
 | true =>
  (refine WV_cond rfl (fun h => ?_) (fun h => ?_))
  ·have hp:=plays_ok hw (p:=0) (c:=w.co.getD k 0) (by omega)
   have hc0:=hsel rfl
   have w3:=w64 (n:=s.cr - 1) (by omega) (by omega)
   have w2:=w64 (n:=s.cr - 1 + plays w 0 (w.co.getD k 0)) (by omega) (by omega)
   have hset:=set_sp s hk4 0 (s.cr - 1)
   have g2:=at_sp ⟨s.x,0,s.cr - 1⟩ hk4
   simp only at g2
   (repeat ((first | refine Va ?_ | refine Vb ?_ | refine Vc ?_ | refine Vd ?_ | refine Ve ?_ | refine Vf ?_); (try simp only [go_sem,hP,hgd,ints,List.length_map,Int.toNat_natCast,Nat.mul_one,w3]); (repeat refine qJ ?_)))
   (refine AS_pu (turn84 hw (p:=0) ⟨Int.le_refl 0,by omega⟩ (c:=w.co.getD k 0) ⟨by omega,by omega⟩) ?_; simp only [go_sem,hP,Wh.av,Wh.avs,ints,Int.toNat_natCast,Nat.mul_one,g2,w1,hset,w2]; (repeat refine qJ ?_); (repeat ((first | refine Va ?_ | refine Vb ?_ | refine Vc ?_ | refine Vd ?_ | refine Ve ?_ | refine Vf ?_); (try simp only [go_sem,hP,Wh.av,Wh.avs,ints,Int.toNat_natCast,Nat.mul_one,g2,w1,hset,w2]); (repeat refine qJ ?_))))
   (refine WV_ret ?_; simp only [thenQ,inQ,RetQ,RetOk,resAll,resA]; simp only [go_sem,tupA,AV.port,AV.portL,exists_eq_left',aft,if_true]; (first | exact AVle.of rfl | refine AVle.of ?_ | skip))
  ·cases h
end Go.Proofs.YtbclmfjibpppfaaGreat

/-
 The best way to put in a purse,plain.
-/
namespace Go.Proofs.YtbclmfjibpppfaaGreat
open Go Go.V
def optK (w:Wh) (s:Spt) (k:Nat):List (Spt × Int):=if s.x.at k = 0 then [] else aft w s k false :: (if s.cr = 0 ∨ s.pl = 0 then [] else [aft w s k true])
def opts (w:Wh) (s:Spt) (n:Nat):List (Spt × Int):=(List.range n).flatMap (optK w s)
theorem opts_succ (w:Wh) (s:Spt) (n:Nat):opts w s (n + 1) = opts w s n ++ optK w s n:=by simp [opts,List.range_succ]
def stepB (f:Spt → Int) (acc:Int × Bool) (o:Spt × Int):Int × Bool:=if (acc.2 || decide (acc.1 < o.2 + f o.1)) = true then (o.2 + f o.1,false) else acc
def trm (s:Spt):Spt:={ s with cr:=min s.cr s.x.many }
def bst (w:Wh):Nat → Spt → Int
 | 0,_ => 0
 | m + 1,s => ((opts w (trm s) w.co.length).foldl (stepB (bst w m)) (0,true)).1
def bestS (w:Wh) (s:Spt):Int:=bst w s.x.many.toNat s
theorem trm_trm (s:Spt):trm (trm s) = trm s:=by
 unfold trm
 simp only [Spt.mk.injEq,true_and]
 omega
theorem bst_trm (w:Wh) (m:Nat) (s:Spt):bst w m (trm s) = bst w m s:=by
 cases m with
 | zero => rfl
 | succ m => unfold bst; rw [trm_trm]
theorem trm_ok {w:Wh} {s:Spt} (h:SpOk w s):SpOk w (trm s) ∧ (trm s).cr ≤ 14:=by
 obtain ⟨h1,h2,h3⟩:=h
 have:=h1.m
 have h5:s.x.many ≤ 14 ∧ 0 ≤ s.x.many:=by obtain ⟨a1,a2,a3,a4,a5⟩:=h1; simp only [Bag.many]; omega
 exact ⟨⟨h1,h2,by simp only [trm]; omega⟩,by simp only [trm]; omega⟩
theorem optK_ok {w:Wh} (hw:WhOk w) {s:Spt} (hs:SpOk w s) (hc:s.cr ≤ 14) {k:Nat} (hk:k < w.co.length):∀ o ∈ optK w s k,SpOk w o.1 ∧ o.1.x.many = s.x.many - 1 ∧ 0 ≤ o.2 ∧ o.2 ≤ 112:=by
 have hcl:=hw.cl
 have hro:=hw.ro
 have hco:=coK_in hw hk
 intro o ho
 unfold optK at ho
 split at ho
 ·cases ho
 ·rename_i h0
  have hd:=Bag.dec_ok hs.x (k:=k) (by omega) h0
  have hcr:=hs.cr
  have ha:∀ sel:Bool,(sel = true → 0 < s.cr) → SpOk w (aft w s k sel).1 ∧ (aft w s k sel).1.x.many = s.x.many - 1 ∧ 0 ≤ (aft w s k sel).2 ∧ (aft w s k sel).2 ≤ 112:=by
   intro sel hsel
   have hp:=plays_ok hw (p:=if sel then 0 else s.pl) (c:=w.co.getD k 0) (by omega)
   refine ⟨⟨hd.1,⟨Int.emod_nonneg _ (by omega),Int.emod_lt_of_pos _ (by omega)⟩,?_⟩,hd.2,hp.1,?_⟩
   ·simp only [aft]
    cases sel with
    | false => simp only [Bool.false_eq_true,if_false] at hp ⊢; omega
    | true => have:=hsel rfl; simp only [if_true] at hp ⊢; omega
   ·simp only [aft]; omega
  rcases List.mem_cons.1 ho with rfl | ho
  ·exact ha false (fun h => by cases h)
  ·split at ho
   ·cases ho
   ·rename_i h1
    simp only [List.mem_singleton] at ho
    subst ho
    exact ha true (fun _ => by omega)
theorem opts_ok {w:Wh} (hw:WhOk w) {s:Spt} (hs:SpOk w s) (hc:s.cr ≤ 14) {n:Nat} (hn:n ≤ w.co.length):∀ o ∈ opts w s n,SpOk w o.1 ∧ o.1.x.many = s.x.many - 1 ∧ 0 ≤ o.2 ∧ o.2 ≤ 112:=fun o ho => by
 obtain ⟨k,hk,h⟩:=List.mem_flatMap.1 ho
 exact optK_ok hw hs hc (Nat.lt_of_lt_of_le (List.mem_range.1 hk) hn) o h
theorem stepB_in {f:Spt → Int} {b:Int}:∀ (l:List (Spt × Int)) (acc:Int × Bool),(∀ o ∈ l,0 ≤ o.2 + f o.1 ∧ o.2 + f o.1 ≤ b) → 0 ≤ acc.1 ∧ acc.1 ≤ b → 0 ≤ (l.foldl (stepB f) acc).1 ∧ (l.foldl (stepB f) acc).1 ≤ b
 | [],acc,_,h => h
 | o :: l,acc,hl,h => by
  rw [List.foldl_cons]
  refine stepB_in l _ (fun o' h' => hl o' (by simp [h'])) ?_
  unfold stepB
  split
  ·exact hl o (by simp)
  ·exact h
theorem bst_in {w:Wh} (hw:WhOk w):∀ (m:Nat) (s:Spt),SpOk w s → 0 ≤ bst w m s ∧ bst w m s ≤ 112 * m
 | 0,s,_ => by simp [bst]
 | m + 1,s,hs => by
  obtain ⟨h1,h2⟩:=trm_ok hs
  unfold bst
  refine stepB_in _ _ (fun o ho => ?_) ⟨by simp,by simp; omega⟩
  obtain ⟨a1,a2,a3,a4⟩:=opts_ok hw h1 h2 (Nat.le_refl _) o ho
  have:=bst_in hw m o.1 a1
  omega
abbrev Mm:=List (Spt × Int)
def glS (M:Mm):GL:=M.map fun e => (e.1.l,[e.2])
def slook (M:Mm) (x:Spt):Option Int:=(M.find? fun e => e.1 = x).map (·.2)
def sput (M:Mm) (x:Spt) (v:Int):Mm:=if (slook M x).isSome = true then M.map (fun e => if e.1 = x then (x,v) else e) else M ++ [(x,v)]
theorem glook_glS (M:Mm) (x:Spt):glook (glS M) x.l = (slook M x).map fun v => [v]:=by
 unfold glook glS slook
 rw [List.find?_map,Option.map_map,Option.map_map]
 have:((fun q:List Int × List Int => q.1 == x.l) ∘ fun e:Spt × Int => (e.1.l,[e.2])) = fun e => decide (e.1 = x):=by
  funext e
  simp only [Function.comp_apply]
  rw [Bool.eq_iff_iff]
  simp only [beq_iff_eq,decide_eq_true_eq]
  exact ⟨fun h => Spt.inj h,fun h => by rw [h]⟩
 rw [this]; rfl
theorem gput_glS (M:Mm) (x:Spt) (v:Int):gput (glS M) x.l [v] = glS (sput M x v):=by
 unfold gput sput
 rw [glook_glS,Option.isSome_map]
 split
 ·simp only [glS,List.map_map]
  refine List.map_congr_left fun e _ => ?_
  simp only [Function.comp_apply]
  by_cases he:e.1 = x
  ·rw [if_pos he,if_pos (by rw [he])]
  ·rw [if_neg he,if_neg fun h => he (Spt.inj h)]
 ·simp [glS]
theorem slook_get {M:Mm} {x:Spt} {v:Int} (h:slook M x = some v):(x,v) ∈ M:=by
 unfold slook at h
 obtain ⟨e,he,rfl⟩:=Option.map_eq_some_iff.1 h
 have h1:=List.mem_of_find?_eq_some he
 have h2:e.1 = x:=by simpa using List.find?_some he
 rw [← h2]; exact h1
def MmOk (w:Wh) (M:Mm):Prop:=∀ e ∈ M,SpOk w e.1 ∧ e.2 = bestS w e.1
theorem MmOk.put {w:Wh} {M:Mm} (h:MmOk w M) {x:Spt} (hx:SpOk w x):MmOk w (sput M x (bestS w x)):=by
 unfold sput
 split
 ·intro e he
  obtain ⟨a,ha,rfl⟩:=List.mem_map.1 he
  split
  ·exact ⟨hx,rfl⟩
  ·exact h a ha
 ·intro e he
  rcases List.mem_append.1 he with he | he
  ·exact h e he
  ·simp only [List.mem_singleton] at he; subst he; exact ⟨hx,rfl⟩
end Go.Proofs.YtbclmfjibpppfaaGreat

namespace Go.Proofs.YtbclmfjibpppfaaGreat
open Go Go.V
theorem spLaw:KLaw Tryz.prog 91 (fun v => ∃ l,keyOf Tryz.prog 91 v = some l):=KLaw.wide (deep_law_gate (by kernel_rfl) (Nat.le_of_ble_eq_true (by kernel_rfl)) (Nat.le_of_ble_eq_true (by kernel_rfl)) (by kernel_rfl) (by kernel_rfl))
set_option maxRecDepth 100000 in
theorem spKey {p:Spt} (h1:i64 p.x.a) (h2:i64 p.x.b) (h3:i64 p.x.c) (h4:i64 p.x.d) (h5:i64 p.pl) (h6:i64 p.cr):∃ l,keyOf Tryz.prog 91 (kval true p.l) = some l:=by
 have u3:Tryz.prog.underlying 3 = some (.int .i64):=by kernel_rfl
 have u89:Tryz.prog.underlying 89 = some (.array 4 3):=by kernel_rfl
 have u91:Tryz.prog.underlying 91 = some (.struct (Tryz.prog.fieldsOf 91)):=by kernel_rfl
 have d3:Tryz.prog.cellsOf 3 = 1:=by kernel_rfl
 have d89:Tryz.prog.cellsOf 89 = 4:=by kernel_rfl
 have d91:Tryz.prog.cellsOf 91 = 6:=by kernel_rfl
 have k3:∀ (n:Nat) (x:Int),i64 x → Tryz.prog.keyLits (n + 1) 3 [.int .i64 x] = some [.int .i64 x]:=fun n x h => by
  simp [Program.keyLits,u3,wf64 h]
 have k89:∀ (n:Nat),Tryz.prog.keyLits (n + 2) 89 [.int .i64 p.x.a,.int .i64 p.x.b,.int .i64 p.x.c,.int .i64 p.x.d] = some [.int .i64 p.x.a,.int .i64 p.x.b,.int .i64 p.x.c,.int .i64 p.x.d]:=fun n => by
  have hr:List.range 4 = [0,1,2,3]:=rfl
  have e:Tryz.prog.keyLits (n + 2) 89 [.int .i64 p.x.a,.int .i64 p.x.b,.int .i64 p.x.c,.int .i64 p.x.d] = if [Value.int .i64 p.x.a,.int .i64 p.x.b,.int .i64 p.x.c,.int .i64 p.x.d].length = Tryz.prog.cellsOf 89 then ((List.range 4).mapM fun i => Tryz.prog.keyLits (n + 1) 3 (([Value.int .i64 p.x.a,.int .i64 p.x.b,.int .i64 p.x.c,.int .i64 p.x.d].drop (i * Tryz.prog.cellsOf 3)).take (Tryz.prog.cellsOf 3))).map List.flatten else none:=by
   conv => lhs; unfold Program.keyLits
   simp only [u89]
  rw [e,d89,d3,if_pos (by rfl),hr]
  simp [k3 n _ h1,k3 n _ h2,k3 n _ h3,k3 n _ h4]
 have k91:∀ (n:Nat),Tryz.prog.keyLits (n + 3) 91 [.int .i64 p.x.a,.int .i64 p.x.b,.int .i64 p.x.c,.int .i64 p.x.d,.int .i64 p.pl,.int .i64 p.cr] = some [.int .i64 p.x.a,.int .i64 p.x.b,.int .i64 p.x.c,.int .i64 p.x.d,.int .i64 p.pl,.int .i64 p.cr]:=fun n => by
  have hf:((Tryz.prog.fieldsOf 91).toList.map fun f => (f.type,f.offset)) = [(89,0),(3,4),(3,5)]:=by kernel_rfl
  have hb:(Tryz.prog.fieldsOf 91).all (·.name != "_") = true:=by kernel_rfl
  have e:Tryz.prog.keyLits (n + 3) 91 [.int .i64 p.x.a,.int .i64 p.x.b,.int .i64 p.x.c,.int .i64 p.x.d,.int .i64 p.pl,.int .i64 p.cr] = (((Tryz.prog.fieldsOf 91).toList.map fun f => (f.type,f.offset)).mapM fun q => Tryz.prog.keyLits (n + 2) q.1 (([Value.int .i64 p.x.a,.int .i64 p.x.b,.int .i64 p.x.c,.int .i64 p.x.d,.int .i64 p.pl,.int .i64 p.cr].drop q.2).take (Tryz.prog.cellsOf q.1))).map List.flatten:=by
   conv => lhs; unfold Program.keyLits
   simp only [u91]
   rw [if_pos ⟨by rw [d91]; rfl,hb⟩,List.mapM_map]
   rfl
  rw [e,hf]
  simp [d3,d89,k3 (n + 1) _ h5,k3 (n + 1) _ h6,k89 n]
 have ht:Tryz.prog.keyType 91 = true:=by kernel_rfl
 have hsz:3 ≤ Tryz.prog.types.size + 1:=Nat.le_of_ble_eq_true (by kernel_rfl)
 obtain ⟨n,hn⟩ : ∃ n,Tryz.prog.types.size + 1 = n + 3:=⟨Tryz.prog.types.size + 1 - 3,by omega⟩
 have hk:=k91 n
 rw [← hn] at hk
 have hfo:(kval true p.l).formed Tryz.prog 91 = true:=by
  simp only [kval,if_true,Value.formed,u91,d91]
  rfl
 have key:keyOf Tryz.prog 91 (kval true p.l) = ((Tryz.prog.keyLits (Tryz.prog.types.size + 1) 91 (kval true p.l).cells.toList).map fun ls => Lit.string (keyBytes ls)):=by
  unfold keyOf
  rw [u91]
  simp only [ht,hfo,Bool.and_self,if_true]
 have hc:(kval true p.l).cells.toList = [.int .i64 p.x.a,.int .i64 p.x.b,.int .i64 p.x.c,.int .i64 p.x.d,.int .i64 p.pl,.int .i64 p.cr]:=rfl
 rw [hc,hk] at key
 exact ⟨_,key⟩
theorem SpOk.key {w:Wh} (hw:WhOk w) {p:Spt} (h:SpOk w p):∃ l,keyOf Tryz.prog 91 (kval true p.l) = some l:=by
 have hro:=hw.ro
 obtain ⟨⟨h1,h2,h3,h4,h5⟩,h6,h7⟩:=h
 refine spKey ⟨?_,?_⟩ ⟨?_,?_⟩ ⟨?_,?_⟩ ⟨?_,?_⟩ ⟨?_,?_⟩ ⟨?_,?_⟩ <;> omega
theorem glS_keys {w:Wh} (hw:WhOk w) {M:Mm} (hM:MmOk w M):∀ p ∈ glS M,∃ l,keyOf Tryz.prog 91 (kval true p.1) = some l:=fun p hp => by
 obtain ⟨e,he,rfl⟩:=List.mem_map.1 hp
 exact (hM e he).1.key hw
end Go.Proofs.YtbclmfjibpppfaaGreat

namespace Go.Proofs.YtbclmfjibpppfaaGreat
open Go Go.V
abbrev o53_0:List Ins:=[JS 7 (.box 6 (.t 1)),JS 9 (JB false)]
abbrev o53_1:List Ins:=[JS 11 (Jm 2),JS 12 (Jl 3),JS 13 (JL 6 7),JS 14 (Jc 39 [.t 12,.t 13]),JS 15 (Jb .add 11 14),JS 10 (Jm 15)]
abbrev o53_2:List Ins:=[JS 16 (Jl 4),JS 17 (Jm 16),JH 18 (Jl 3) 17 false,JH 19 (.nilc (.t 18)) 17 false,JH 20 (Jf 3 19) 17 false,JH 21 (Jl 20) 17 false,JH 22 (Jm 10) 17 false,JH 23 (Jl 5) 17 false,JG 24 (.call (.t 21) [.t 22,.t 23]) 17 false,JS 25 (Jo 17 24)]
abbrev o53_3:List Ins:=[JS 26 (Jm 10),JN (Js 1 5 26),JN (.st 1 (.t 4) (.k (.c (.bool false))))]
abbrev v53_4:VC:=(.cond (.t 25) (.ops o53_3) .skip)
abbrev v53_5:VC:=(.seq (.dops o53_2) v53_4)
abbrev o53_6:List Ins:=[JS 9 (JB true)]
abbrev v53_7:VC:=(.seq (.ops o53_6) .ret)
abbrev v53_8:VC:=(.seq (.seq (.ops o53_1) v53_5) v53_7)
def ir53:FC:=⟨6,27,[.t 9],(.seq (.ops o53_0) v53_8)⟩
abbrev o52_0:List Ins:=[JS 4 (.box 6 (.t 1))]
abbrev o52_1:List Ins:=[JS 11 (Jm 0),JS 12 (.nilc (.t 11)),JS 13 (Jf 0 12),JS 14 (Jf 0 13),JS 15 (Jf 2 14),JS 16 (Jl 15),JS 17 (Jn 16),JS 18 (Ji 0)]
abbrev o52_2:List Ins:=[JS 19 (Jb .lss 18 17)]
abbrev o52_3:List Ins:=[JS 20 (Jm 18),JS 6 (Jm 20)]
abbrev o52_4:List Ins:=[JS 21 (Jm 6),JS 22 (Jf 0 4),JS 23 (.iap 4 1 (.t 22) (.t 21)),JS 24 (Jl 23),JS 25 (Jk .eql 24 0)]
abbrev v52_5:VC:=(.cond (.t 25) (.exit 1) .skip)
abbrev o52_6:List Ins:=[JF 27 (Jm 0),JF 28 (.nilc (.t 27)),JF 29 (Jf 0 28),JF 30 (JL 3 29),JF 31 (JL 6 4),JF 32 (Jm 6),JF 7 (.alloc [Jz 0,Jz 0,Jz 0,Jz 0,Jz 0,Jz 0]),JF 33 (Jc 64 [.t 30,.t 31,.t 32,(.k (.c (.bool false)))]),JF 26 (Jm 33),JF 34 (Je 26 0),JF 35 (Je 26 1),JE (Js 6 7 34),JS 8 (Jm 35)]
abbrev o52_7:List Ins:=[JS 36 (Jm 2),JS 37 (Jm 6),JS 38 (.bsl 3 1 [.t 37]),JS 39 (JL 6 7),JS 40 (Jm 8),JS 41 (.call (.t 36) [.t 38,.t 39,.t 40]),JS 42 (.un .not (.t 41))]
abbrev v52_8:VC:=(.cond (.t 42) .ret .skip)
abbrev v52_9:VC:=(.seq (.ops o52_7) v52_8)
abbrev o52_10:List Ins:=[JS 43 (Jf 5 4),JS 44 (Jl 43),JS 45 (Jk .eql 44 0),JS 46 (Jm 45),JG 47 (Jf 4 4) 46 false,JG 48 (Jl 47) 46 false,JG 49 (Jk .eql 48 0) 46 false,JS 50 (Jo 46 49)]
abbrev v52_11:VC:=(.cond (.t 50) (.exit 1) .skip)
abbrev o52_12:List Ins:=[JF 52 (Jm 0),JF 53 (.nilc (.t 52)),JF 54 (Jf 0 53),JF 55 (JL 3 54),JF 56 (JL 6 4),JF 57 (Jm 6),JF 9 (.alloc [Jz 0,Jz 0,Jz 0,Jz 0,Jz 0,Jz 0]),JF 58 (Jc 64 [.t 55,.t 56,.t 57,(.k (.c (.bool true)))]),JF 51 (Jm 58),JF 59 (Je 51 0),JF 60 (Je 51 1),JE (Js 6 9 59),JS 10 (Jm 60)]
abbrev o52_13:List Ins:=[JS 61 (Jm 2),JS 62 (Jm 6),JS 63 (.bsl 3 1 [(.k (Jz (-1))),.t 62]),JS 64 (JL 6 9),JS 65 (Jm 10),JS 66 (.call (.t 61) [.t 63,.t 64,.t 65]),JS 67 (.un .not (.t 66))]
abbrev v52_14:VC:=(.cond (.t 67) .ret .skip)
abbrev v52_15:VC:=(.seq (.ops o52_13) v52_14)
abbrev v52_16:VC:=(.seq (.dops o52_12) v52_15)
abbrev v52_17:VC:=(.seq (.seq (.ops o52_10) v52_11) v52_16)
abbrev v52_18:VC:=(.seq (.seq (.dops o52_6) v52_9) v52_17)
abbrev v52_19:VC:=(.seq (.seq (.ops o52_4) v52_5) v52_18)
abbrev v52_20:VC:=(.seq (.ops o52_3) v52_19)
abbrev o52_21:List Ins:=[JS 68 (Jk .add 18 1),JS 18 (Jm 68)]
abbrev v52_22:VC:=(.seq (.block 1 v52_20) (.ops o52_21))
abbrev v52_23:VC:=(.seq (.cond (.t 19) .skip (.exit 0)) v52_22)
abbrev v52_24:VC:=(.seq (.ops o52_2) v52_23)
-- K52_1: changed and kept: [18]
abbrev K52_1:List Nat:=[0,2,4,17]
abbrev v52_25:VC:=(.loop v52_24)
abbrev v52_26:VC:=(.block 0 v52_25)
abbrev v52_27:VC:=(.seq (.ops o52_1) v52_26)
def ir52:FC:=⟨3,69,[],(.seq (.ops o52_0) v52_27)⟩
abbrev o39_0:List Ins:=[JS 2 (.box 1 (.t 0)),JS 3 (.box 6 (.t 1)),JS 4 (Ji 0)]
abbrev o39_1:List Ins:=[JS 5 (Ji 0)]
abbrev o39_2:List Ins:=[JS 12 (Jf 0 3),JS 13 (JL 4 12),JS 14 (Ji 0)]
abbrev o39_3:List Ins:=[JS 15 (Jk .lss 14 4)]
abbrev o39_4:List Ins:=[JS 16 (.raw (.index 89 (.tmp 13) (.tmp 14))),JS 7 (Jm 16)]
abbrev o39_5:List Ins:=[JS 17 (Jm 5),JS 18 (Jm 7),JS 19 (Jb .add 17 18),JS 5 (Jm 19)]
abbrev v39_6:VC:=(.seq (.ops o39_4) (.ops o39_5))
abbrev o39_7:List Ins:=[JS 20 (Jk .add 14 1),JS 14 (Jm 20)]
abbrev v39_8:VC:=(.seq (.block 1 v39_6) (.ops o39_7))
abbrev v39_9:VC:=(.seq (.cond (.t 15) .skip (.exit 0)) v39_8)
abbrev v39_10:VC:=(.seq (.ops o39_3) v39_9)
-- K39_1: changed and kept: [14,5]
abbrev v39_11:VC:=(.loop v39_10)
abbrev v39_12:VC:=(.block 0 v39_11)
abbrev o39_13:List Ins:=[JS 21 (Jf 5 3),JS 22 (Jl 21),JS 23 (Jm 5),JS 24 (.mm false (.t 22) (.t 23)),JS 25 (Jf 5 3),JN (Js 1 25 24)]
abbrev o39_14:List Ins:=[JF 27 (Jl 2),JF 28 (.nilc (.t 27)),JF 29 (Jf 4 28),JF 30 (Jl 29),JF 31 (JL 6 3),JS 32 (.raw (.lookup 113 (.tmp 30) (.tmp 31) true)),JS 26 (Jm 32),JF 33 (Je 26 0),JF 34 (Je 26 1),JF 8 (Jm 33),JS 9 (Jm 34)]
abbrev o39_15:List Ins:=[JS 35 (Jm 9),JS 36 (Jm 35),JG 37 (Jm 5) 36 false,JG 38 (Jk .eql 37 0) 36 false,JS 39 (Jo 36 38)]
abbrev o39_16:List Ins:=[JS 40 (Jm 8),JS 4 (Jm 40)]
abbrev v39_17:VC:=(.seq (.ops o39_16) .ret)
abbrev v39_18:VC:=(.cond (.t 39) v39_17 .skip)
abbrev v39_19:VC:=(.seq (.ops o39_15) v39_18)
abbrev o39_20:List Ins:=[JS 10 (.alloc [Jz 0]),JS 11 (.alloc [(.c (.bool false))]),JN (.st 1 (.t 10) (.k (Jz 0))),JN (.st 1 (.t 11) (.k (.c (.bool true))))]
abbrev o39_21:List Ins:=[JS 41 (Jl 2),JS 42 (JL 6 3),JS 43 (.mkfn 53 [.t 2,.t 11,.t 10]),JS 44 (Jc 52 [.t 41,.t 42,.t 43])]
abbrev o39_22:List Ins:=[JF 45 (Jl 2),JF 46 (.nilc (.t 45)),JF 47 (Jf 4 46),JF 48 (Jl 47),JF 49 (JL 6 3),JF 50 (Jl 10),JN (.raw (.mapUpdate 113 (.tmp 48) (.tmp 49) (.tmp 50)))]
abbrev o39_23:List Ins:=[JS 51 (Jl 10),JS 4 (Jm 51)]
abbrev v39_24:VC:=(.seq (.ops o39_23) .ret)
abbrev v39_25:VC:=(.seq (.dops o39_22) v39_24)
abbrev v39_26:VC:=(.seq (.ops o39_21) v39_25)
abbrev v39_27:VC:=(.seq (.ops o39_20) v39_26)
abbrev v39_28:VC:=(.seq (.seq (.dops o39_14) v39_19) v39_27)
abbrev v39_29:VC:=(.seq (.ops o39_13) v39_28)
abbrev v39_30:VC:=(.seq (.seq (.ops o39_2) v39_12) v39_29)
abbrev v39_31:VC:=(.seq (.ops o39_1) v39_30)
def ir39:FC:=⟨2,52,[.t 4],(.seq (.ops o39_0) v39_31)⟩
theorem c53:compM Tryz.prog [] 53 = some ir53:=by kernel_rfl
theorem c52:compM Tryz.prog [] 52 = some ir52:=by kernel_rfl
theorem c39:compM Tryz.prog [] 39 = some ir39:=by kernel_rfl
attribute [local go_sem] Nat.reduceEqDiff Nat.reduceAdd Nat.reduceMul reduceIte Nat.reduceLeDiff Nat.reduceLT Nat.reduceBEq reduceCtorEq
def spAvs (s:Spt):List AV:=[iv s.x.a,iv s.x.b,iv s.x.c,iv s.x.d,iv s.pl,iv s.cr]
def srO (w:Wh) (bm:Nat):Ob:=.box [iv w.ro,.c (ints w.no),.c (ints w.co),.fn 38 [],.c (.raw (.map (some bm)))]
def BuysAt (w:Wh) (m:Nat):Prop:=∀ s:Spt,SpOk w s → s.x.many = m → ∀ (M:Mm),MmOk w M → ∀ bm:Nat,
 FSpecL Tryz.prog 39 [.bp 1000 0,.agg (spAvs s)] [srO w bm,gmap true false (glS M) bm] [] (fun r l' => r = iv (bst w m s) ∧ ∃ M',MmOk w M' ∧ l' = [srO w bm,gmap true false (glS M') bm])
set_option maxHeartbeats 8000000 in
theorem clos53 {w:Wh} (hw:WhOk w) {m:Nat} (hm:m ≤ 14) (hB:BuysAt w m) (acts:List Int) {y:Spt} (hy:SpOk w y) (hym:y.x.many = m) {p:Int} (hp:0 ≤ p ∧ p ≤ 112) (best:Int) (hbest:0 ≤ best ∧ best ≤ 10000) (fst:Bool) {M:Mm} (hM:MmOk w M) (bm:Nat) :
  FSpecL Tryz.prog 53 [.c (ints acts),.agg (spAvs y),iv p,.bp 1001 0,.bp 1002 0,.bp 1003 0] [srO w bm,.box [.bp 1000 0],.box [.c (.bool fst)],.box [iv best],gmap true false (glS M) bm] []
   (fun r l' => r = .c (.bool true) ∧ ∃ M',MmOk w M' ∧ l' = [srO w bm,.box [.bp 1000 0],.box [.c (.bool (stepB (bst w m) (best,fst) (y,p)).2)],.box [iv (stepB (bst w m) (best,fst) (y,p)).1],gmap true false (glS M') bm]):=by
 have hbin:=bst_in hw m y hy
 have w1:=w64 (n:=p + bst w m y) (by omega) (by omega)
 refine FSpecL_of c53 (by first | simp | exact Nat.le_of_ble_eq_true rfl) (Nat.le_refl _) (by decide) (by decide) fun C hP hN hC hL => ?_; rw [init_env',ownW_upd (by first | simp | exact Nat.le_of_ble_eq_true rfl)]; simp only [ir53,updL,updLo,List.map_nil,List.map_cons,Nat.reduceAdd,]
 simp only [srO,spAvs]
 (repeat ((first | refine Va ?_ | refine Vb ?_ | refine Vc ?_ | refine Vd ?_ | refine Ve ?_ | refine Vf ?_); (try simp only [go_sem,hP]); (repeat refine qJ ?_)))
 refine AS_lend [1000,1004] (hB y hy hym M hM bm) rfl rfl rfl (by decide) rfl rfl ?_
 rintro r l' ⟨rfl,M',hM',rfl⟩
 refine ⟨_,_,rfl,rfl,?_⟩
 simp only [srO]
 simp only [go_sem,hP,ownBack,w1]
 cases fst with
 | false =>
  (repeat ((first | refine Va ?_ | refine Vb ?_ | refine Vc ?_ | refine Vd ?_ | refine Ve ?_ | refine Vf ?_); (try simp only [go_sem,hP,w1]); (repeat refine qJ ?_)))
  (refine AG_pu (fun hG => more38 (p + bst w m y) best) ?_; simp only [go_sem,hP]; (repeat refine qJ ?_); (repeat ((first | refine Va ?_ | refine Vb ?_ | refine Vc ?_ | refine Vd ?_ | refine Ve ?_ | refine Vf ?_); (try simp only [go_sem,hP]); (repeat refine qJ ?_))))
  by_cases hlt:best < p + bst w m y
  ·have e:stepB (bst w m) (best,false) (y,p) = (p + bst w m y,false):=by unfold stepB; rw [if_pos (by simpa using hlt)]
   rw [e]
   (refine WV_cond rfl (fun h => ?_) (fun h => ?_))
   ·(repeat ((first | refine Va ?_ | refine Vb ?_ | refine Vc ?_ | refine Vd ?_ | refine Ve ?_ | refine Vf ?_); (try simp only [go_sem,hP]); (repeat refine qJ ?_)))
    (refine WV_ret ?_; simp only [thenQ,inQ,RetQL,RetOkL,resAll,resA]; simp only [go_sem,tupA,AV.keepP,AV.keepPL]; refine ⟨_,[.box [iv w.ro,.c (ints w.no),.c (ints w.co),.fn 38 [],.c (.raw (.map (some bm)))],.box [.bp 1000 0],.box [.c (.bool false)],.box [iv (p + bst w m y)],gmap true false (glS M') bm],rfl,KeepL_mk rfl rfl ?_ ?_ rfl,?_⟩)
    ·simp only [go_sem,keepAll,Ob.keepP,AV.keepP,AV.keepPL]
    ·trivial
    ·exact ⟨rfl,M',hM',rfl⟩
   ·simp [hlt] at h
  ·have e:stepB (bst w m) (best,false) (y,p) = (best,false):=by unfold stepB; rw [if_neg (by simpa using hlt)]
   rw [e]
   (refine WV_cond rfl (fun h => ?_) (fun h => ?_))
   ·simp [hlt] at h
   ·(repeat ((first | refine Va ?_ | refine Vb ?_ | refine Vc ?_ | refine Vd ?_ | refine Ve ?_ | refine Vf ?_); (try simp only [go_sem,hP]); (repeat refine qJ ?_)))
    (refine WV_ret ?_; simp only [thenQ,inQ,RetQL,RetOkL,resAll,resA]; simp only [go_sem,tupA,AV.keepP,AV.keepPL]; refine ⟨_,[.box [iv w.ro,.c (ints w.no),.c (ints w.co),.fn 38 [],.c (.raw (.map (some bm)))],.box [.bp 1000 0],.box [.c (.bool false)],.box [iv best],gmap true false (glS M') bm],rfl,KeepL_mk rfl rfl ?_ ?_ rfl,?_⟩)
    ·simp only [go_sem,keepAll,Ob.keepP,AV.keepP,AV.keepPL]
    ·trivial
    ·exact ⟨rfl,M',hM',rfl⟩
 | true =>
  have e:stepB (bst w m) (best,true) (y,p) = (p + bst w m y,false):=by unfold stepB; rw [if_pos (by simp)]
  rw [e]
  (repeat ((first | refine Va ?_ | refine Vb ?_ | refine Vc ?_ | refine Vd ?_ | refine Ve ?_ | refine Vf ?_); (try simp only [go_sem,hP,w1]); (repeat refine qJ ?_)))
  refine .inl (ACallG_skip (.c (.bool false)) rfl ?_)
  simp only [go_sem,hP]
  (repeat ((first | refine Va ?_ | refine Vb ?_ | refine Vc ?_ | refine Vd ?_ | refine Ve ?_ | refine Vf ?_); (try simp only [go_sem,hP]); (repeat refine qJ ?_)))
  (refine WV_cond rfl (fun h => ?_) (fun h => ?_))
  ·(repeat ((first | refine Va ?_ | refine Vb ?_ | refine Vc ?_ | refine Vd ?_ | refine Ve ?_ | refine Vf ?_); (try simp only [go_sem,hP]); (repeat refine qJ ?_)))
   (refine WV_ret ?_; simp only [thenQ,inQ,RetQL,RetOkL,resAll,resA]; simp only [go_sem,tupA,AV.keepP,AV.keepPL]; refine ⟨_,[.box [iv w.ro,.c (ints w.no),.c (ints w.co),.fn 38 [],.c (.raw (.map (some bm)))],.box [.bp 1000 0],.box [.c (.bool false)],.box [iv (p + bst w m y)],gmap true false (glS M') bm],rfl,KeepL_mk rfl rfl ?_ ?_ rfl,?_⟩)
   ·simp only [go_sem,keepAll,Ob.keepP,AV.keepP,AV.keepPL]
   ·trivial
   ·exact ⟨rfl,M',hM',rfl⟩
  ·cases h
end Go.Proofs.YtbclmfjibpppfaaGreat

namespace Go.Proofs.YtbclmfjibpppfaaGreat
open Go Go.V
attribute [local go_sem] Nat.reduceEqDiff Nat.reduceAdd Nat.reduceMul reduceIte Nat.reduceLeDiff Nat.reduceLT Nat.reduceBEq reduceCtorEq
def nxO (w:Wh) (bm:Nat) (b:Int) (f:Bool) (M:Mm):List Ob:=[srO w bm,.box [.bp 1000 0],.box [.c (.bool f)],.box [iv b],gmap true false (glS M) bm]
set_option maxHeartbeats 8000000 in
set_option maxRecDepth 20000 in
theorem next52 {w:Wh} (hw:WhOk w) {m:Nat} (hm:m ≤ 13) (hB:BuysAt w m) {s:Spt} (hs:SpOk w s) (hc:s.cr ≤ 14) (hsm:s.x.many = m + 1) {M:Mm} (hM:MmOk w M) (bm:Nat) :
  FSpecL Tryz.prog 52 [.bp 1000 0,.agg (spAvs s),.fn 53 [.bp 1001 0,.bp 1002 0,.bp 1003 0]] (nxO w bm 0 true M) []
   (fun r l' => r = .tup [] ∧ ∃ M',MmOk w M' ∧ l' = nxO w bm ((opts w s w.co.length).foldl (stepB (bst w m)) (0,true)).1 ((opts w s w.co.length).foldl (stepB (bst w m)) (0,true)).2 M'):=by
 have hcl:=hw.cl
 simp only [nxO,srO,spAvs]
 refine FSpecL_of c52 (by first | simp | exact Nat.le_of_ble_eq_true rfl) (Nat.le_refl _) (by decide) (by decide) fun C hP hN hC hL => ?_; rw [init_env',ownW_upd (by first | simp | exact Nat.le_of_ble_eq_true rfl)]; simp only [ir52,updL,updLo,List.map_nil,List.map_cons,Nat.reduceAdd,]
 (repeat ((first | refine Va ?_ | refine Vb ?_ | refine Vc ?_ | refine Vd ?_ | refine Ve ?_ | refine Vf ?_); (try simp only [go_sem,hP,ints,List.length_map]); (repeat refine qJ ?_)))
 refine WV_loopK K52_1 [1002,1003,1004] (fun i:Nat × Mm × Int × Bool => i.1 ≤ w.co.length ∧ MmOk w i.2.1 ∧ (i.2.2.1,i.2.2.2) = (opts w s i.1).foldl (stepB (bst w m)) (0,true)) (fun i => w.co.length - i.1) (fun i => [(18,iv i.1)])
  (fun i => [(1002,.box [.c (.bool i.2.2.2)]),(1003,.box [iv i.2.2.1]),(1004,gmap true false (glS i.2.1) bm)]) (0,M,0,true) ⟨Nat.zero_le _,hM,rfl⟩ ?_ ?_
 ·exact Sub_au
 rintro ⟨k,M,b,f⟩ ⟨hk,hM,hbf⟩
 simp only at hk hM hbf
 have hin:=stepB_in (f:=bst w m) (b:=112 * (m + 1)) (opts w s k) (0,true) (fun o ho => by
  obtain ⟨a1,a2,a3,a4⟩:=opts_ok hw hs hc hk o ho
  have:=bst_in hw m o.1 a1
  omega) ⟨by simp,by simp; omega⟩
 rw [← hbf] at hin
 simp only at hin
 (repeat ((first | refine Va ?_ | refine Vb ?_ | refine Vc ?_ | refine Vd ?_ | refine Ve ?_ | refine Vf ?_); (try simp only [go_sem,hP]); (repeat refine qJ ?_)))
 (refine WV_cond rfl (fun h => ?_) (fun h => ?_))
 ·have hi:k < w.co.length:=by simpa using h
  clear h
  have hk4:k < 4:=by omega
  have g1:=at_sp s hk4
  have w1:=w64 (n:=(k:Int) + 1) (by omega) (by omega)
  have hos:=opts_succ w s k
  (repeat ((first | refine Va ?_ | refine Vb ?_ | refine Vc ?_ | refine Vd ?_ | refine Ve ?_ | refine Vf ?_); (try simp only [go_sem,hP,g1,Int.toNat_natCast,Nat.mul_one]); (repeat refine qJ ?_)))
  by_cases h0:s.x.at k = 0
  ·have e:optK w s k = []:=by unfold optK; rw [if_pos h0]
   rw [e,List.append_nil] at hos
   (refine WV_cond rfl (fun h => ?_) (fun h => ?_))
   ·(repeat ((first | refine Va ?_ | refine Vb ?_ | refine Vc ?_ | refine Vd ?_ | refine Ve ?_ | refine Vf ?_); (try simp only [go_sem,hP,w1]); (repeat refine qJ ?_)))
    refine ⟨(k + 1,M,b,f),⟨hi,hM,by rw [hos]; exact hbf⟩,by simp only; omega,?_⟩
    simp only [ints]
    exact Sub_au
   ·simp [h0] at h
  ·(refine WV_cond rfl (fun h => ?_) (fun h => ?_))
   ·simp at h; exact absurd h h0
   clear h
   have hoo:=optK_ok hw hs hc hi
   have hao:=after64 hw hs hi false (fun h => by cases h)
   have ho1:=hoo (aft w s k false) (by unfold optK; rw [if_neg h0]; simp)
   have hopt:optK w s k = aft w s k false :: (if s.cr = 0 ∨ s.pl = 0 then [] else [aft w s k true]):=by unfold optK; rw [if_neg h0]
   rw [hopt] at hos hoo
   obtain ⟨⟨y,p⟩,hyp⟩ : ∃ o,aft w s k false = o:=⟨_,rfl⟩
   rw [hyp] at hao ho1 hos hoo
   simp only [Spt.l,List.map_cons,List.map_nil] at hao
   simp only at ho1
   (repeat ((first | refine Va ?_ | refine Vb ?_ | refine Vc ?_ | refine Vd ?_ | refine Ve ?_ | refine Vf ?_); (try simp only [go_sem,hP]); (repeat refine qJ ?_)))
   (refine ACall_of (hao) rfl rfl rfl rfl rfl ?_; simp only [go_sem,hP,Wh.av,Wh.avs,ints]; (repeat refine qJ ?_); (repeat ((first | refine Va ?_ | refine Vb ?_ | refine Vc ?_ | refine Vd ?_ | refine Ve ?_ | refine Vf ?_); (try simp only [go_sem,hP,Wh.av,Wh.avs,ints]); (repeat refine qJ ?_))))
   have hcl1:=clos53 hw (by omega) hB [(k:Int)] ho1.1 (by omega) ho1.2.2 b (by omega) f hM bm
   refine AS_lend [1000,1001,1002,1003,1004] hcl1 rfl rfl rfl (by decide) rfl rfl ?_
   rintro r l' ⟨rfl,M',hM',rfl⟩
   refine ⟨_,_,rfl,rfl,?_⟩
   simp only [srO]
   obtain ⟨⟨b1,f1⟩,hb1⟩ : ∃ o,stepB (bst w m) (b,f) (y,p) = o:=⟨_,rfl⟩
   rw [hb1]
   have hbf1:(b1,f1) = (opts w s k ++ [(y,p)]).foldl (stepB (bst w m)) (0,true):=by rw [List.foldl_append,← hbf,← hb1]; rfl
   have hb1in:0 ≤ b1 ∧ b1 ≤ 112 * (m + 1):=by
    have h5:=bst_in hw m y ho1.1
    have h6:=stepB_in (f:=bst w m) (b:=112 * (m + 1)) [(y,p)] (b,f) (fun o ho => by
     simp only [List.mem_singleton] at ho
     subst ho
     simp only
     omega) hin
    rw [List.foldl_cons,List.foldl_nil,hb1] at h6
    exact h6
   simp only [go_sem,hP,ownBack]
   (repeat ((first | refine Va ?_ | refine Vb ?_ | refine Vc ?_ | refine Vd ?_ | refine Ve ?_ | refine Vf ?_); (try simp only [go_sem,hP]); (repeat refine qJ ?_)))
   (refine WV_cond rfl (fun h => ?_) (fun h => ?_))
   ·cases h
   (repeat ((first | refine Va ?_ | refine Vb ?_ | refine Vc ?_ | refine Vd ?_ | refine Ve ?_ | refine Vf ?_); (try simp only [go_sem,hP]); (repeat refine qJ ?_)))
   by_cases hst:s.cr = 0 ∨ s.pl = 0
   ·rw [if_pos hst] at hos
    (refine WV_cond rfl (fun h => ?_) (fun h => ?_))
    ·(repeat ((first | refine Va ?_ | refine Vb ?_ | refine Vc ?_ | refine Vd ?_ | refine Ve ?_ | refine Vf ?_); (try simp only [go_sem,hP,w1]); (repeat refine qJ ?_)))
     refine ⟨(k + 1,M',b1,f1),⟨hi,hM',by rw [hos]; exact hbf1⟩,by simp only; omega,?_⟩
     simp only [ints]
     exact Sub_au
    ·exfalso
     simp at h
     rcases hst with e | e
     ·exact h.1 e
     ·exact h.2 e
   ·rw [if_neg hst] at hos hoo
    have hao2:=after64 hw hs hi true (fun _ => by have:=hs.cr; omega)
    have ho2:=hoo (aft w s k true) (by simp)
    obtain ⟨⟨y2,p2⟩,hyp2⟩ : ∃ o,aft w s k true = o:=⟨_,rfl⟩
    rw [hyp2] at hao2 ho2 hos
    simp only [Spt.l,List.map_cons,List.map_nil] at hao2
    simp only at ho2
    (refine WV_cond rfl (fun h => ?_) (fun h => ?_))
    ·exfalso
     apply hst
     simpa using h
    (repeat ((first | refine Va ?_ | refine Vb ?_ | refine Vc ?_ | refine Vd ?_ | refine Ve ?_ | refine Vf ?_); (try simp only [go_sem,hP]); (repeat refine qJ ?_)))
    (refine ACall_of (hao2) rfl rfl rfl rfl rfl ?_; simp only [go_sem,hP,Wh.av,Wh.avs,ints]; (repeat refine qJ ?_); (repeat ((first | refine Va ?_ | refine Vb ?_ | refine Vc ?_ | refine Vd ?_ | refine Ve ?_ | refine Vf ?_); (try simp only [go_sem,hP,Wh.av,Wh.avs,ints]); (repeat refine qJ ?_))))
    have hcl2:=clos53 hw (by omega) hB [-1,(k:Int)] ho2.1 (by omega) ho2.2.2 b1 (by omega) f1 hM' bm
    refine AS_lend [1000,1001,1002,1003,1004] hcl2 rfl rfl rfl (by decide) rfl rfl ?_
    rintro r l' ⟨rfl,M2,hM2,rfl⟩
    refine ⟨_,_,rfl,rfl,?_⟩
    simp only [srO]
    obtain ⟨⟨b2,f2⟩,hb2⟩ : ∃ o,stepB (bst w m) (b1,f1) (y2,p2) = o:=⟨_,rfl⟩
    rw [hb2]
    have hbf2:(b2,f2) = (opts w s k ++ [(y,p),(y2,p2)]).foldl (stepB (bst w m)) (0,true):=by
     rw [List.foldl_append] at hbf1 ⊢
     rw [List.foldl_cons,List.foldl_nil] at hbf1
     rw [List.foldl_cons,← hbf1,List.foldl_cons,List.foldl_nil,hb2]
    simp only [go_sem,hP,ownBack]
    (repeat ((first | refine Va ?_ | refine Vb ?_ | refine Vc ?_ | refine Vd ?_ | refine Ve ?_ | refine Vf ?_); (try simp only [go_sem,hP]); (repeat refine qJ ?_)))
    (refine WV_cond rfl (fun h => ?_) (fun h => ?_))
    ·cases h
    (repeat ((first | refine Va ?_ | refine Vb ?_ | refine Vc ?_ | refine Vd ?_ | refine Ve ?_ | refine Vf ?_); (try simp only [go_sem,hP,w1]); (repeat refine qJ ?_)))
    refine ⟨(k + 1,M2,b2,f2),⟨hi,hM2,by rw [hos]; exact hbf2⟩,by simp only; omega,?_⟩
    simp only [ints]
    exact Sub_au
 ·have hi:k = w.co.length:=by simp at h; omega
  subst hi
  clear h
  (repeat ((first | refine Va ?_ | refine Vb ?_ | refine Vc ?_ | refine Vd ?_ | refine Ve ?_ | refine Vf ?_); (try simp only [go_sem,hP]); (repeat refine qJ ?_)))
  ((try simp only [thenQ,inQ,RetQL,RetOkL,resAll,resA]); (try simp only [go_sem,tupA,AV.keepP,AV.keepPL]); refine ⟨_,[.box [iv w.ro,.c (ints w.no),.c (ints w.co),.fn 38 [],.c (.raw (.map (some bm)))],.box [.bp 1000 0],.box [.c (.bool f)],.box [iv b],gmap true false (glS M) bm],rfl,KeepL_mk rfl rfl ?_ ?_ rfl,?_⟩)
  ·simp only [go_sem,keepAll,Ob.keepP,AV.keepP,AV.keepPL,ints]
  ·trivial
  ·exact ⟨rfl,M,hM,by simp only [← hbf,ints]; rfl⟩
end Go.Proofs.YtbclmfjibpppfaaGreat

namespace Go.Proofs.YtbclmfjibpppfaaGreat
open Go Go.V
attribute [local go_sem] Nat.reduceEqDiff Nat.reduceAdd Nat.reduceMul reduceIte Nat.reduceLeDiff Nat.reduceLT Nat.reduceBEq reduceCtorEq
theorem glS_inj (M:Mm) (x:Spt):∀ p ∈ glS M,kval true p.1 = kval true x.l → p.1 = x.l:=fun _ _ h => kval_inj h
theorem many_in {x:Bag} (h:BagOk x):0 ≤ x.many ∧ x.many ≤ 14:=by
 obtain ⟨a1,a2,a3,a4,a5⟩:=h
 simp only [Bag.many]; omega
theorem MmOk.look {w:Wh} {M:Mm} (h:MmOk w M) {x:Spt} {v:Int} (hv:slook M x = some v):v = bestS w x:=(h _ (slook_get hv)).2
theorem lookS (M:Mm) (x:Spt):(glook (glS M) x.l).getD [0] = [(slook M x).getD 0] ∧ (glook (glS M) x.l).isSome = (slook M x).isSome:=by
 rw [glook_glS]
 cases slook M x <;> exact ⟨rfl,rfl⟩
set_option maxHeartbeats 8000000 in
set_option maxRecDepth 20000 in
theorem buysAt {w:Wh} (hw:WhOk w) (m:Nat) (hm:m ≤ 14) (ih:∀ k,m = k + 1 → BuysAt w k):BuysAt w m:=by
 intro s hs hsm M hM bm
 have hmm:=many_in hs.x
 obtain ⟨ht1,ht2⟩:=trm_ok hs
 have hbag:=hs.x
 simp only [srO,spAvs]
 refine FSpecL_of c39 (by first | simp | exact Nat.le_of_ble_eq_true rfl) (Nat.le_refl _) (by decide) (by decide) fun C hP hN hC hL => ?_; rw [init_env',ownW_upd (by first | simp | exact Nat.le_of_ble_eq_true rfl)]; simp only [ir39,updL,updLo,List.map_nil,List.map_cons,Nat.reduceAdd,]
 (repeat ((first | refine Va ?_ | refine Vb ?_ | refine Vc ?_ | refine Vd ?_ | refine Ve ?_ | refine Vf ?_); (try simp only [go_sem,hP]); (repeat refine qJ ?_)))
 refine WV_loopK [2,3,4,13] [] (fun k:Nat => k ≤ 4) (fun k => 4 - k) (fun k => [(14,iv k),(5,iv ((s.x.l.take k).sum))]) (fun _ => []) 0 (by omega) ?_ ?_
 ·(refine Sub_of (by simp only [go_sem]; ((repeat' (first | exact EnvLe_e0 _ _ | refine EnvLe_upd ?_ ?_)) <;> ((try simp only [upd_app,e0_app,o0_app,Nat.reduceEqDiff,reduceIte]); first | exact AWk.refl _ _ | exact AWk.int (by omega) | exact AWk.int (by rw [w64 (by omega) (by omega)]; omega) | exact AWk.grow rfl | exact AWk.nil _ | exact AWk.of (by simp [Bag.l])))) (by simp only [go_sem]; exact ObjLe_au))
 intro k hk
 (repeat ((first | refine Va ?_ | refine Vb ?_ | refine Vc ?_ | refine Vd ?_ | refine Ve ?_ | refine Vf ?_); (try simp only [go_sem,hP]); (repeat refine qJ ?_)))
 (refine WV_cond rfl (fun h => ?_) (fun h => ?_))
 ·have hi:k < 4:=by simp at h; omega
  obtain ⟨v,hv⟩ : ∃ v,s.x.l[k]? = some v:=⟨_,List.getElem?_eq_getElem hi⟩
  have hc:[AV.c (.int .i64 s.x.a),.c (.int .i64 s.x.b),.c (.int .i64 s.x.c),.c (.int .i64 s.x.d)][((k:Int)).toNat]? = some (.c (.int .i64 v)):=by
   have:=congrArg (Option.map fun n => AV.c (.int .i64 n)) hv
   rwa [← List.getElem?_map] at this
  have hsu:(s.x.l.take (k + 1)).sum = (s.x.l.take k).sum + v:=by rw [List.take_add_one,hv,List.sum_append]; simp
  have hb:0 ≤ (s.x.l.take k).sum ∧ (s.x.l.take k).sum ≤ 42 ∧ 0 ≤ v ∧ v ≤ 14:=by
   obtain ⟨a1,a2,a3,a4,a5⟩:=hbag
   have:k = 0 ∨ k = 1 ∨ k = 2 ∨ k = 3:=by omega
   rcases this with rfl | rfl | rfl | rfl <;> simp [Bag.l] at hv ⊢ <;> omega
  generalize (s.x.l.take k).sum = sm at hsu hb
  have w1:=w64 (n:=(k:Int) + 1) (by omega) (by omega)
  have w2:=w64 (n:=sm + v) (by omega) (by omega)
  refine WV_skip ?_
  simp only [thenQ_normal]
  refine WV_seq_ (WV_block (WV_seq_ ?_))
  (refine WV_op ?_; simp only [go_sem,hP]; (repeat refine qJ ?_))
  refine raw_idx1 (e:=3) (n:=4) (x':=.t 13) (i':=.t 14) (k:=.i64) (j:=k) (by kernel_rfl) (by kernel_rfl) (by kernel_rfl) rfl rfl rfl rfl rfl rfl (by omega) hc ?_
  simp only [go_sem,hP]
  (repeat ((first | refine Va ?_ | refine Vb ?_ | refine Vc ?_ | refine Vd ?_ | refine Ve ?_ | refine Vf ?_); (try simp only [go_sem,hP,w1,w2]); (repeat refine qJ ?_)))
  refine ⟨k + 1,by omega,by omega,?_⟩
  rw [hsu]
  exact Sub_au
 have hi:k = 4:=by simp at h; omega
 subst hi
 clear h
 have hsum:(s.x.l.take 4).sum = s.x.many:=by simp [Bag.l,Bag.many]; omega
 rw [hsum,hsm]
 have hcr:min s.cr (m:Int) = (trm s).cr:=by rw [← hsm]; rfl
 have hk0:=ht1.key hw
 have hks:=glS_keys hw hM
 (repeat ((first | refine Va ?_ | refine Vb ?_ | refine Vc ?_ | refine Vd ?_ | refine Ve ?_ | refine Vf ?_); (try simp only [go_sem,hP,hcr]); (repeat refine qJ ?_)))
 refine raw_lookG (ka:=true) (va:=false) (n:=1001) (b:=bm) (l:=glS M) (key:=(trm s).l) (zs:=[0]) (k:=91) (e:=3) (x':=.t 30) (i':=.t 31) (by kernel_rfl) spLaw (by kernel_rfl) rfl rfl rfl rfl rfl rfl rfl hk0 hks (glS_inj M _) ?_
 rw [(lookS M (trm s)).1,(lookS M (trm s)).2]
 simp only [go_sem,hP,kav,Bool.false_eq_true,if_false,List.headD_cons]
 have hbs:bestS w (trm s) = bst w m s:=by
  unfold bestS
  rw [show (trm s).x.many.toNat = m by show s.x.many.toNat = m; omega,bst_trm]
 by_cases hf:(slook M (trm s)).isSome = true ∨ m = 0
 ·have hv:(slook M (trm s)).getD 0 = bst w m s:=by
   cases hsl:slook M (trm s) with
   | some v => rw [← hbs]; exact hM.look hsl
   | none =>
    rcases hf with h | h
    ·rw [hsl] at h; cases h
    ·subst h; rfl
  rw [hv]
  have hor:((slook M (trm s)).isSome || ((m:Int) == 0)) = true:=by
   rcases hf with h | h
   ·rw [h]; rfl
   ·subst h; simp
  generalize (slook M (trm s)).isSome = is at *
  (repeat ((first | refine Va ?_ | refine Vb ?_ | refine Vc ?_ | refine Vd ?_ | refine Ve ?_ | refine Vf ?_); (try simp only [go_sem,hP]); (repeat refine qJ ?_)))
  (refine WV_cond rfl (fun h => ?_) (fun h => ?_))
  ·(repeat ((first | refine Va ?_ | refine Vb ?_ | refine Vc ?_ | refine Vd ?_ | refine Ve ?_ | refine Vf ?_); (try simp only [go_sem,hP]); (repeat refine qJ ?_)))
   (refine WV_ret ?_; simp only [thenQ,inQ,RetQL,RetOkL,resAll,resA]; simp only [go_sem,tupA,AV.keepP,AV.keepPL]; refine ⟨_,[.box [iv w.ro,.c (ints w.no),.c (ints w.co),.fn 38 [],.c (.raw (.map (some bm)))],gmap true false (glS M) bm],rfl,KeepL_mk rfl rfl ?_ ?_ rfl,?_⟩)
   ·simp only [go_sem,keepAll,Ob.keepP,AV.keepP,AV.keepPL]
   ·trivial
   ·exact ⟨rfl,M,hM,rfl⟩
  ·rw [hor] at h; cases h
 ·have hn:slook M (trm s) = none:=by
   cases hsl:slook M (trm s) with
   | some v => rw [hsl] at hf; simp at hf
   | none => rfl
  have hm0:m ≠ 0:=fun e => hf (.inr e)
  obtain ⟨m1,rfl⟩ : ∃ m1,m = m1 + 1:=⟨m - 1,by omega⟩
  rw [hn]
  (repeat ((first | refine Va ?_ | refine Vb ?_ | refine Vc ?_ | refine Vd ?_ | refine Ve ?_ | refine Vf ?_); (try simp only [go_sem,hP]); (repeat refine qJ ?_)))
  (refine WV_cond rfl (fun h => ?_) (fun h => ?_))
  ·simp at h; omega
  clear h
  (repeat ((first | refine Va ?_ | refine Vb ?_ | refine Vc ?_ | refine Vd ?_ | refine Ve ?_ | refine Vf ?_); (try simp only [go_sem,hP]); (repeat refine qJ ?_)))
  have hnx:=next52 hw (by omega) (ih m1 rfl) ht1 ht2 (show s.x.many = (m1:Int) + 1 by omega) hM bm
  have hbe:((opts w (trm s) w.co.length).foldl (stepB (bst w m1)) (0,true)).1 = bst w (m1 + 1) s:=rfl
  rw [hbe] at hnx
  generalize ((opts w (trm s) w.co.length).foldl (stepB (bst w m1)) (0,true)).2 = fl at hnx
  refine AS_lend [1000,2,11,10,1001] hnx rfl rfl rfl (by decide) rfl rfl ?_
  rintro r l' ⟨rfl,M2,hM2,rfl⟩
  refine ⟨_,_,rfl,rfl,?_⟩
  simp only [srO]
  simp only [go_sem,hP,ownBack]
  (repeat ((first | refine Va ?_ | refine Vb ?_ | refine Vc ?_ | refine Vd ?_ | refine Ve ?_ | refine Vf ?_); (try simp only [go_sem,hP]); (repeat refine qJ ?_)))
  have hks2:=glS_keys hw hM2
  refine raw_putG (ka:=true) (va:=false) (n:=1001) (b:=bm) (l:=glS M2) (key:=(trm s).l) (val:=[bst w (m1 + 1) s]) (k:=91) (e:=3) (x':=.t 48) (i':=.t 49) (v':=.t 50) (.inl rfl) (by kernel_rfl) spLaw rfl rfl rfl rfl rfl rfl rfl rfl rfl rfl hk0 hks2 (glS_inj M2 _) ?_
  rw [gput_glS,← hbs]
  have hM3:=hM2.put ht1
  generalize sput M2 (trm s) (bestS w (trm s)) = M3 at *
  simp only [go_sem,hP]
  (repeat ((first | refine Va ?_ | refine Vb ?_ | refine Vc ?_ | refine Vd ?_ | refine Ve ?_ | refine Vf ?_); (try simp only [go_sem,hP]); (repeat refine qJ ?_)))
  (refine WV_ret ?_; simp only [thenQ,inQ,RetQL,RetOkL,resAll,resA]; simp only [go_sem,tupA,AV.keepP,AV.keepPL]; refine ⟨_,[.box [iv w.ro,.c (ints w.no),.c (ints w.co),.fn 38 [],.c (.raw (.map (some bm)))],gmap true false (glS M3) bm],rfl,KeepL_mk rfl rfl ?_ ?_ rfl,?_⟩)
  ·simp only [go_sem,keepAll,Ob.keepP,AV.keepP,AV.keepPL]
  ·trivial
  ·exact ⟨rfl,M3,hM3,rfl⟩
theorem buys39 {w:Wh} (hw:WhOk w):∀ m:Nat,m ≤ 14 → BuysAt w m
 | 0,h => buysAt hw 0 h fun k hk => by omega
 | m + 1,h => buysAt hw (m + 1) h fun k hk => by
  have:k = m:=by omega
  subst this
  exact buys39 hw k (by omega)
end Go.Proofs.YtbclmfjibpppfaaGreat

namespace Go.Proofs.YtbclmfjibpppfaaGreat
open Go Go.V
abbrev o51_0:List Ins:=[JS 3 (.box 3 (.t 0)),JS 4 (JB false)]
abbrev o51_1:List Ins:=[JS 5 (Ji 0)]
abbrev o51_2:List Ins:=[JS 8 (Jl 1),JS 9 (Jn 8),JS 10 (Ji 0)]
abbrev o51_3:List Ins:=[JS 11 (Jb .lss 10 9)]
abbrev o51_4:List Ins:=[JS 12 (Jm 10),JS 13 (Ja 1 8 10),JS 14 (Jl 13),JS 6 (Jm 12),JS 7 (Jm 14)]
abbrev o51_5:List Ins:=[JS 15 (Jm 6),JS 16 (Jf 0 3),JS 17 (Jf 2 16),JS 18 (Jl 17),JS 19 (Jn 18),JS 20 (Jb .geq 15 19),JS 21 (Jm 20),JG 22 (Jm 7) 21 false,JG 23 (Jc 31 [.t 22,(.k (Jz 0)),(.k (Jz 12))]) 21 false,JG 24 (.un .not (.t 23)) 21 false,JS 25 (Jo 21 24)]
abbrev o51_6:List Ins:=[JS 4 (JB false)]
abbrev v51_7:VC:=(.seq (.ops o51_6) .ret)
abbrev v51_8:VC:=(.cond (.t 25) v51_7 .skip)
abbrev o51_9:List Ins:=[JS 26 (Jm 6),JS 27 (Jm 7),JS 28 (Jf 0 2),JS 29 (.iap 4 1 (.t 28) (.t 26)),JN (Js 1 29 27)]
abbrev o51_10:List Ins:=[JS 30 (Jm 5),JS 31 (Jm 7),JS 32 (Jb .add 30 31),JS 5 (Jm 32)]
abbrev v51_11:VC:=(.seq (.ops o51_9) (.ops o51_10))
abbrev v51_12:VC:=(.seq (.seq (.ops o51_5) v51_8) v51_11)
abbrev v51_13:VC:=(.seq (.ops o51_4) v51_12)
abbrev o51_14:List Ins:=[JS 33 (Jk .add 10 1),JS 10 (Jm 33)]
abbrev v51_15:VC:=(.seq (.block 1 v51_13) (.ops o51_14))
abbrev v51_16:VC:=(.seq (.cond (.t 11) .skip (.exit 0)) v51_15)
abbrev v51_17:VC:=(.seq (.ops o51_3) v51_16)
-- K51_1: changed and kept: [10,5]
abbrev K51_1:List Nat:=[1,2,3,8,9]
abbrev v51_18:VC:=(.loop v51_17)
abbrev v51_19:VC:=(.block 0 v51_18)
abbrev o51_20:List Ins:=[JS 34 (Jl 1),JS 35 (Jn 34),JS 36 (Jf 0 3),JS 37 (Jf 2 36),JS 38 (Jl 37),JS 39 (Jn 38),JS 40 (Jb .eql 35 39),JS 41 (Jm 40),JG 42 (Jm 5) 41 true,JG 43 (Jk .leq 42 12) 41 true,JS 44 (Jp 41 43),JS 4 (Jm 44)]
abbrev v51_21:VC:=(.seq (.ops o51_20) .ret)
abbrev v51_22:VC:=(.seq (.seq (.ops o51_2) v51_19) v51_21)
abbrev v51_23:VC:=(.seq (.ops o51_1) v51_22)
def ir51:FC:=⟨3,45,[.t 4],(.seq (.ops o51_0) v51_23)⟩
abbrev o37_0:List Ins:=[JS 3 (.box 3 (.t 0)),JS 4 (.box 1 (.t 1)),JS 6 (.mv (.k (.c (.raw (.pointer none))))),JS 7 (.alloc [Jz 0,Jz 0,Jz 0,Jz 0,Jz 0,Jz 0]),JS 8 (Ji 0)]
abbrev o37_1:List Ins:=[JS 9 (.alloc [Jz 0,Jz 0,Jz 0,Jz 0,Jz 0,Jz 0])]
abbrev o37_2:List Ins:=[JS 13 (JL 3 3),JS 14 (.mkfn 51 [.t 4,.t 9]),JS 15 (Jc 29 [.t 13,.t 14]),JS 12 (Jm 15),JS 16 (Je 12 0),JS 17 (Je 12 1),JS 10 (.alloc [Jz 0,J0,J0]),JN (Js 3 10 16),JS 11 (Jm 17)]
abbrev o37_3:List Ins:=[JS 18 (Jm 11),JS 19 (Jk .neq 18 0)]
abbrev o37_4:List Ins:=[JS 20 (.bld [Jz 0,Jz 0,Jz 0,Jz 0,Jz 0,Jz 0] []),JS 21 (Jm 11),JS 6 (.mv (.k (.c (.raw (.pointer none))))),JN (Js 6 7 20),JS 8 (Jm 21)]
abbrev v37_5:VC:=(.seq (.ops o37_4) .ret)
abbrev v37_6:VC:=(.cond (.t 19) v37_5 .skip)
abbrev t37_7:OT:=(.br [(.cons (JF 22 (JL 3 10)) (.br [(.cons (JF 23 (Jm 2)) (.br [(.cons (JS 24 (.raw (.makeMap 113 none))) (.cons (JF 25 (.bld [Jz 0,J0,J0,(.c (.raw .nilFunc)),(.c (.raw (.map none)))] [(0,3,(.t 22)),(3,1,(.t 23)),(4,1,(.t 24))])) (.cons (JF 26 (.box 5 (.t 25))) (.cons (JF 27 (JL 6 9)) (.cons (JF 6 (Jm 26)) (.cons (JN (Js 6 7 27)) (.cons (JS 8 (Ji 0)) .nil))))))),(.cons (JF 27 (JL 6 9)) (.cons (JS 24 (.raw (.makeMap 113 none))) (.cons (JF 25 (.bld [Jz 0,J0,J0,(.c (.raw .nilFunc)),(.c (.raw (.map none)))] [(0,3,(.t 22)),(3,1,(.t 23)),(4,1,(.t 24))])) (.cons (JF 26 (.box 5 (.t 25))) (.cons (JF 6 (Jm 26)) (.cons (JN (Js 6 7 27)) (.cons (JS 8 (Ji 0)) .nil)))))))])),(.cons (JS 24 (.raw (.makeMap 113 none))) (.cons (JF 23 (Jm 2)) (.cons (JF 25 (.bld [Jz 0,J0,J0,(.c (.raw .nilFunc)),(.c (.raw (.map none)))] [(0,3,(.t 22)),(3,1,(.t 23)),(4,1,(.t 24))])) (.cons (JF 26 (.box 5 (.t 25))) (.cons (JF 27 (JL 6 9)) (.cons (JF 6 (Jm 26)) (.cons (JN (Js 6 7 27)) (.cons (JS 8 (Ji 0)) .nil)))))))),(.cons (JF 27 (JL 6 9)) (.br [(.cons (JF 23 (Jm 2)) (.cons (JS 24 (.raw (.makeMap 113 none))) (.cons (JF 25 (.bld [Jz 0,J0,J0,(.c (.raw .nilFunc)),(.c (.raw (.map none)))] [(0,3,(.t 22)),(3,1,(.t 23)),(4,1,(.t 24))])) (.cons (JF 26 (.box 5 (.t 25))) (.cons (JF 6 (Jm 26)) (.cons (JN (Js 6 7 27)) (.cons (JS 8 (Ji 0)) .nil))))))),(.cons (JS 24 (.raw (.makeMap 113 none))) (.cons (JF 23 (Jm 2)) (.cons (JF 25 (.bld [Jz 0,J0,J0,(.c (.raw .nilFunc)),(.c (.raw (.map none)))] [(0,3,(.t 22)),(3,1,(.t 23)),(4,1,(.t 24))])) (.cons (JF 26 (.box 5 (.t 25))) (.cons (JF 6 (Jm 26)) (.cons (JN (Js 6 7 27)) (.cons (JS 8 (Ji 0)) .nil)))))))]))])),(.cons (JF 23 (Jm 2)) (.br [(.cons (JF 22 (JL 3 10)) (.br [(.cons (JS 24 (.raw (.makeMap 113 none))) (.cons (JF 25 (.bld [Jz 0,J0,J0,(.c (.raw .nilFunc)),(.c (.raw (.map none)))] [(0,3,(.t 22)),(3,1,(.t 23)),(4,1,(.t 24))])) (.cons (JF 26 (.box 5 (.t 25))) (.cons (JF 27 (JL 6 9)) (.cons (JF 6 (Jm 26)) (.cons (JN (Js 6 7 27)) (.cons (JS 8 (Ji 0)) .nil))))))),(.cons (JF 27 (JL 6 9)) (.cons (JS 24 (.raw (.makeMap 113 none))) (.cons (JF 25 (.bld [Jz 0,J0,J0,(.c (.raw .nilFunc)),(.c (.raw (.map none)))] [(0,3,(.t 22)),(3,1,(.t 23)),(4,1,(.t 24))])) (.cons (JF 26 (.box 5 (.t 25))) (.cons (JF 6 (Jm 26)) (.cons (JN (Js 6 7 27)) (.cons (JS 8 (Ji 0)) .nil)))))))])),(.cons (JS 24 (.raw (.makeMap 113 none))) (.cons (JF 22 (JL 3 10)) (.cons (JF 25 (.bld [Jz 0,J0,J0,(.c (.raw .nilFunc)),(.c (.raw (.map none)))] [(0,3,(.t 22)),(3,1,(.t 23)),(4,1,(.t 24))])) (.cons (JF 26 (.box 5 (.t 25))) (.cons (JF 27 (JL 6 9)) (.cons (JF 6 (Jm 26)) (.cons (JN (Js 6 7 27)) (.cons (JS 8 (Ji 0)) .nil)))))))),(.cons (JF 27 (JL 6 9)) (.br [(.cons (JF 22 (JL 3 10)) (.cons (JS 24 (.raw (.makeMap 113 none))) (.cons (JF 25 (.bld [Jz 0,J0,J0,(.c (.raw .nilFunc)),(.c (.raw (.map none)))] [(0,3,(.t 22)),(3,1,(.t 23)),(4,1,(.t 24))])) (.cons (JF 26 (.box 5 (.t 25))) (.cons (JF 6 (Jm 26)) (.cons (JN (Js 6 7 27)) (.cons (JS 8 (Ji 0)) .nil))))))),(.cons (JS 24 (.raw (.makeMap 113 none))) (.cons (JF 22 (JL 3 10)) (.cons (JF 25 (.bld [Jz 0,J0,J0,(.c (.raw .nilFunc)),(.c (.raw (.map none)))] [(0,3,(.t 22)),(3,1,(.t 23)),(4,1,(.t 24))])) (.cons (JF 26 (.box 5 (.t 25))) (.cons (JF 6 (Jm 26)) (.cons (JN (Js 6 7 27)) (.cons (JS 8 (Ji 0)) .nil)))))))]))])),(.cons (JS 24 (.raw (.makeMap 113 none))) (.cons (JF 22 (JL 3 10)) (.cons (JF 23 (Jm 2)) (.cons (JF 25 (.bld [Jz 0,J0,J0,(.c (.raw .nilFunc)),(.c (.raw (.map none)))] [(0,3,(.t 22)),(3,1,(.t 23)),(4,1,(.t 24))])) (.cons (JF 26 (.box 5 (.t 25))) (.cons (JF 27 (JL 6 9)) (.cons (JF 6 (Jm 26)) (.cons (JN (Js 6 7 27)) (.cons (JS 8 (Ji 0)) .nil))))))))),(.cons (JF 27 (JL 6 9)) (.br [(.cons (JF 22 (JL 3 10)) (.br [(.cons (JF 23 (Jm 2)) (.cons (JS 24 (.raw (.makeMap 113 none))) (.cons (JF 25 (.bld [Jz 0,J0,J0,(.c (.raw .nilFunc)),(.c (.raw (.map none)))] [(0,3,(.t 22)),(3,1,(.t 23)),(4,1,(.t 24))])) (.cons (JF 26 (.box 5 (.t 25))) (.cons (JF 6 (Jm 26)) (.cons (JN (Js 6 7 27)) (.cons (JS 8 (Ji 0)) .nil))))))),(.cons (JS 24 (.raw (.makeMap 113 none))) (.cons (JF 23 (Jm 2)) (.cons (JF 25 (.bld [Jz 0,J0,J0,(.c (.raw .nilFunc)),(.c (.raw (.map none)))] [(0,3,(.t 22)),(3,1,(.t 23)),(4,1,(.t 24))])) (.cons (JF 26 (.box 5 (.t 25))) (.cons (JF 6 (Jm 26)) (.cons (JN (Js 6 7 27)) (.cons (JS 8 (Ji 0)) .nil)))))))])),(.cons (JF 23 (Jm 2)) (.br [(.cons (JF 22 (JL 3 10)) (.cons (JS 24 (.raw (.makeMap 113 none))) (.cons (JF 25 (.bld [Jz 0,J0,J0,(.c (.raw .nilFunc)),(.c (.raw (.map none)))] [(0,3,(.t 22)),(3,1,(.t 23)),(4,1,(.t 24))])) (.cons (JF 26 (.box 5 (.t 25))) (.cons (JF 6 (Jm 26)) (.cons (JN (Js 6 7 27)) (.cons (JS 8 (Ji 0)) .nil))))))),(.cons (JS 24 (.raw (.makeMap 113 none))) (.cons (JF 22 (JL 3 10)) (.cons (JF 25 (.bld [Jz 0,J0,J0,(.c (.raw .nilFunc)),(.c (.raw (.map none)))] [(0,3,(.t 22)),(3,1,(.t 23)),(4,1,(.t 24))])) (.cons (JF 26 (.box 5 (.t 25))) (.cons (JF 6 (Jm 26)) (.cons (JN (Js 6 7 27)) (.cons (JS 8 (Ji 0)) .nil)))))))])),(.cons (JS 24 (.raw (.makeMap 113 none))) (.cons (JF 22 (JL 3 10)) (.cons (JF 23 (Jm 2)) (.cons (JF 25 (.bld [Jz 0,J0,J0,(.c (.raw .nilFunc)),(.c (.raw (.map none)))] [(0,3,(.t 22)),(3,1,(.t 23)),(4,1,(.t 24))])) (.cons (JF 26 (.box 5 (.t 25))) (.cons (JF 6 (Jm 26)) (.cons (JN (Js 6 7 27)) (.cons (JS 8 (Ji 0)) .nil))))))))]))])
abbrev v37_8:VC:=(.seq (.drw t37_7) .ret)
abbrev v37_9:VC:=(.seq (.seq (.ops o37_3) v37_6) v37_8)
abbrev v37_10:VC:=(.seq (.ops o37_2) v37_9)
abbrev v37_11:VC:=(.seq (.ops o37_1) v37_10)
def ir37:FC:=⟨3,28,[.t 6,.cell 7 false 6,.t 8],(.seq (.ops o37_0) v37_11)⟩
abbrev o23_0:List Ins:=[JS 2 (.box 3 (.t 0)),JS 4 (Ji 0),JS 5 (Ji 0)]
abbrev o23_1:List Ins:=[JS 10 (JL 3 2),JS 11 (Jm 1),JS 12 (Jc 37 [.t 10,.t 11,(.k (.fn 38 []))]),JS 9 (Jm 12),JS 13 (Je 9 0),JS 14 (Je 9 1),JS 15 (Je 9 2),JS 7 (.alloc [Jz 0,Jz 0,Jz 0,Jz 0,Jz 0,Jz 0]),JS 6 (Jm 13),JN (Js 6 7 14),JS 8 (Jm 15)]
abbrev o23_2:List Ins:=[JS 16 (Jm 8),JS 17 (Jk .neq 16 0)]
abbrev o23_3:List Ins:=[JS 18 (Jm 8),JS 4 (Ji 0),JS 5 (Jm 18)]
abbrev v23_4:VC:=(.seq (.ops o23_3) .ret)
abbrev v23_5:VC:=(.cond (.t 17) v23_4 .skip)
abbrev o23_6:List Ins:=[JS 19 (Jm 6),JS 20 (JL 6 7),JS 21 (Jc 39 [.t 19,.t 20]),JS 4 (Jm 21),JS 5 (Ji 0)]
abbrev v23_7:VC:=(.seq (.ops o23_6) .ret)
abbrev v23_8:VC:=(.seq (.seq (.ops o23_2) v23_5) v23_7)
abbrev v23_9:VC:=(.seq (.ops o23_1) v23_8)
def ir23:FC:=⟨2,22,[.t 4,.t 5],(.seq (.ops o23_0) v23_9)⟩
theorem c51:compM Tryz.prog [] 51 = some ir51:=by kernel_rfl
theorem c37:compM Tryz.prog [] 37 = some ir37:=by kernel_rfl
theorem c23:compM Tryz.prog [] 23 = some ir23:=by kernel_rfl
attribute [local go_sem] Nat.reduceEqDiff Nat.reduceAdd Nat.reduceMul reduceIte Nat.reduceLeDiff Nat.reduceLT Nat.reduceBEq reduceCtorEq
structure PurseOk (w:Wh) (l:List Int):Prop where
 len:l.length = w.co.length
 n:∀ n ∈ l,0 ≤ n ∧ n ≤ 12
 sum:l.sum ≤ 12
theorem take_sum {l:List Int} (h:∀ n ∈ l,0 ≤ n) (k:Nat):0 ≤ (l.take k).sum ∧ (l.take k).sum ≤ l.sum:=by
 have hp:∀ m:List Int,(∀ n ∈ m,0 ≤ n) → 0 ≤ m.sum:=by
  intro m
  induction m with
  | nil => intro _; simp
  | cons a m ih =>
   intro hm
   have h1:=hm a (by simp)
   have h2:=ih fun n hn => hm n (by simp [hn])
   rw [List.sum_cons]; omega
 have e:l.sum = (l.take k).sum + (l.drop k).sum:=by rw [← List.sum_append,List.take_append_drop]
 have h1:=hp (l.take k) fun n hn => h n (List.mem_of_mem_take hn)
 have h2:=hp (l.drop k) fun n hn => h n (List.mem_of_mem_drop hn)
 omega
def sp6 (x:List Int):List AV:=bagAv (bagOf x) ++ [iv 0,iv 0]
theorem sp_snoc {n:Int} {p:List Int} (h:p.length < 4):(sp6 p).set p.length (.c (.int .i64 n)) = sp6 (p ++ [n]):=by
 unfold sp6
 rw [List.set_append_left _ _ (by simp [bagAv,bagOf]; exact h),bag_snoc h]
set_option maxHeartbeats 8000000 in
theorem sk51 {w:Wh} (hw:WhOk w) {l:List Int} (hl:PurseOk w l):FSpecL Tryz.prog 51 [w.av,.bp 1000 0,.bp 1001 0] [.box [.c (ints l)],.box (sp6 [])] [] (fun r l' => r = .c (.bool true) ∧ l' = [.box [.c (ints l)],.box (sp6 l)]):=by
 have hcl:=hw.cl
 have hll:=hl.len
 refine FSpecL_of c51 (by first | simp | exact Nat.le_of_ble_eq_true rfl) (Nat.le_refl _) (by decide) (by decide) fun C hP hN hC hL => ?_; rw [init_env',ownW_upd (by first | simp | exact Nat.le_of_ble_eq_true rfl)]; simp only [ir51,updL,updLo,List.map_nil,List.map_cons,Nat.reduceAdd,]
 simp only [Wh.av,Wh.avs]
 (repeat ((first | refine Va ?_ | refine Vb ?_ | refine Vc ?_ | refine Vd ?_ | refine Ve ?_ | refine Vf ?_); (try simp only [go_sem,hP,ints,List.length_map]); (repeat refine qJ ?_)))
 refine WV_loopK K51_1 [1001] (fun k:Nat => k ≤ l.length) (fun k => l.length - k) (fun k => [(10,iv k),(5,iv (l.take k).sum)]) (fun k => [(1001,.box (sp6 (l.take k)))]) 0 (Nat.zero_le _) ?_ ?_
 ·exact Sub_au
 intro k hk
 (repeat ((first | refine Va ?_ | refine Vb ?_ | refine Vc ?_ | refine Vd ?_ | refine Ve ?_ | refine Vf ?_); (try simp only [go_sem,hP]); (repeat refine qJ ?_)))
 (refine WV_cond rfl (fun h => ?_) (fun h => ?_))
 ·have hi:k < l.length:=by simpa using h
  clear h
  have g1:=ints_get hi
  have e1:=getD_in hl.n hi
  have hs:l.take (k + 1) = l.take k ++ [l.getD k 0]:=by rw [List.take_succ_eq_append_getElem hi,getD_at hi]
  have hlk:(l.take k).length = k:=by simp; omega
  have hsm:=take_sum (fun n hn => (hl.n n hn).1) k
  have hsl:=hl.sum
  have hset:=sp_snoc (p:=l.take k) (n:=l.getD k 0) (by omega)
  rw [hlk,← hs] at hset
  have hss:(l.take (k + 1)).sum = (l.take k).sum + l.getD k 0:=by rw [hs,List.sum_append]; simp
  generalize hq:l.take (k + 1) = q at *
  generalize hp:l.take k = p at *
  have h1:within (l.getD k 0) 0 12 = true:=by simp only [within,Bool.and_eq_true,decide_eq_true_eq]; omega
  generalize l.getD k 0 = x at *
  have w1:=w64 (n:=(k:Int) + 1) (by omega) (by omega)
  have w2:=w64 (n:=p.sum + x) (by omega) (by omega)
  have hge:decide ((w.co.length:Int) ≤ k) = false:=by simp; omega
  have h6:(sp6 p).length = 6:=rfl
  have hk4:(k:Int) < 4:=by omega
  (repeat ((first | refine Va ?_ | refine Vb ?_ | refine Vc ?_ | refine Vd ?_ | refine Ve ?_ | refine Vf ?_); (try simp only [go_sem,hP,g1,ints,List.length_map,Int.toNat_natCast,hge]); (repeat refine qJ ?_)))
  (refine AG_pu (fun hG => within50 x 0 12) ?_; simp only [go_sem,hP,h1,ints,hk4,Int.toNat_natCast,h6,Nat.mul_one,w1,w2]; (repeat refine qJ ?_); (repeat ((first | refine Va ?_ | refine Vb ?_ | refine Vc ?_ | refine Vd ?_ | refine Ve ?_ | refine Vf ?_); (try simp only [go_sem,hP,h1,ints,hk4,Int.toNat_natCast,h6,Nat.mul_one,w1,w2]); (repeat refine qJ ?_))))
  (refine WV_cond rfl (fun h => ?_) (fun h => ?_))
  ·cases h
  (repeat ((first | refine Va ?_ | refine Vb ?_ | refine Vc ?_ | refine Vd ?_ | refine Ve ?_ | refine Vf ?_); (try simp only [go_sem,hP,hk4,Int.toNat_natCast,h6,Nat.mul_one,w1,w2,Nat.zero_add]); (repeat refine qJ ?_)))
  rw [hset]
  refine ⟨k + 1,by omega,by omega,?_⟩
  rw [hq,hss]
  exact Sub_au
 ·have hi:k = l.length:=by simp at h; omega
  subst hi
  clear h
  rw [List.take_length]
  have e1:((l.length:Int) == (w.co.length:Int)) = true:=by simp; omega
  have e2:decide (l.sum ≤ 12) = true:=by simpa using hl.sum
  (repeat ((first | refine Va ?_ | refine Vb ?_ | refine Vc ?_ | refine Vd ?_ | refine Ve ?_ | refine Vf ?_); (try simp only [go_sem,hP,ints,List.length_map,e1,e2]); (repeat refine qJ ?_)))
  (refine WV_ret ?_; simp only [thenQ,inQ,RetQL,RetOkL,resAll,resA]; simp only [go_sem,tupA,AV.keepP,AV.keepPL]; refine ⟨_,[.box [.c (ints l)],.box (sp6 l)],rfl,KeepL_mk rfl rfl ?_ ?_ rfl,?_⟩)
  ·simp only [go_sem,keepAll,Ob.keepP,AV.keepP,AV.keepPL,ints,sp6,bagAv,bagOf,List.map_cons,List.map_nil,List.cons_append,List.nil_append]
  ·trivial
  ·exact ⟨rfl,rfl⟩
theorem openP29 {w:Wh} (hb:whB w = true) {l:List Int} (hl:PurseOk w l):FSpecL Tryz.prog 29 [w.av,.fn 51 [.bp 1000 0,.bp 1001 0]] [.box [.c (ints l)],.box (sp6 [])] [] (fun r l' => r = .tup [w.av,iv 0] ∧ l' = [.box [.c (ints l)],.box (sp6 l)]):=by
 refine FSpecL_of c29 (by first | simp | exact Nat.le_of_ble_eq_true rfl) (Nat.le_refl _) (by decide) (by decide) fun C hP hN hC hL => ?_; rw [init_env',ownW_upd (by first | simp | exact Nat.le_of_ble_eq_true rfl)]; simp only [ir29,updL,updLo,List.map_nil,List.map_cons,Nat.reduceAdd,]
 simp only [Wh.av,Wh.avs]
 (repeat ((first | refine Va ?_ | refine Vb ?_ | refine Vc ?_ | refine Vd ?_ | refine Ve ?_ | refine Vf ?_); (try simp only [go_sem,hP,Wh.avs,ints]); (repeat refine qJ ?_)))
 (refine AS_pu (check36 w) ?_; simp only [go_sem,hP,Wh.av,Wh.avs,ints]; (repeat refine qJ ?_); (repeat ((first | refine Va ?_ | refine Vb ?_ | refine Vc ?_ | refine Vd ?_ | refine Ve ?_ | refine Vf ?_); (try simp only [go_sem,hP,Wh.av,Wh.avs,ints]); (repeat refine qJ ?_))))
 have e0:whE w = 0:=by unfold whE; rw [if_pos hb]
 rw [e0]
 (refine WV_cond rfl (fun h => ?_) (fun h => ?_))
 ·simp at h
 ·(repeat ((first | refine Va ?_ | refine Vb ?_ | refine Vc ?_ | refine Vd ?_ | refine Ve ?_ | refine Vf ?_); (try simp only [go_sem,hP]); (repeat refine qJ ?_)))
  refine AS_lend [1000,1001] (sk51 (whB_ok hb) hl) rfl rfl rfl (by decide) rfl rfl ?_
  rintro r l' ⟨rfl,rfl⟩
  refine ⟨_,_,rfl,rfl,?_⟩
  simp only [go_sem,hP,ownBack]
  (repeat ((first | refine Va ?_ | refine Vb ?_ | refine Vc ?_ | refine Vd ?_ | refine Ve ?_ | refine Vf ?_); (try simp only [go_sem,hP]); (repeat refine qJ ?_)))
  (refine WV_cond rfl (fun h => ?_) (fun h => ?_))
  ·cases h
  ·(repeat ((first | refine Va ?_ | refine Vb ?_ | refine Vc ?_ | refine Vd ?_ | refine Ve ?_ | refine Vf ?_); (try simp only [go_sem,hP]); (repeat refine qJ ?_)))
   (refine WV_ret ?_; simp only [thenQ,inQ,RetQL,RetOkL,resAll,resA]; simp only [go_sem,tupA,AV.keepP,AV.keepPL]; refine ⟨_,[.box [.c (ints l)],.box (sp6 l)],rfl,KeepL_mk rfl rfl ?_ ?_ rfl,?_⟩)
   ·simp only [go_sem,keepAll,Ob.keepP,AV.keepP,AV.keepPL,ints,sp6,bagAv,bagOf,List.map_cons,List.map_nil,List.cons_append,List.nil_append]
   ·trivial
   ·exact ⟨rfl,rfl⟩
def spOf (l:List Int):Spt:=⟨⟨l.getD 0 0,l.getD 1 0,l.getD 2 0,l.getD 3 0⟩,0,0⟩
set_option maxHeartbeats 8000000 in
set_option maxRecDepth 20000 in
theorem seek37 {w:Wh} (hb:whB w = true) {l:List Int} (hl:PurseOk w l):FSpecN Tryz.prog 37 [w.av,.c (ints l),.fn 38 []] (fun r os => ∃ bm,r = .tup [.bp 1000 0,.agg (spAvs (spOf l)),iv 0] ∧ os = [srO w bm,gmap true false (glS []) bm]):=by
 have hop:=openP29 hb hl
 simp only [sp6,bagAv,bagOf,List.map_cons,List.map_nil,List.cons_append,List.nil_append,List.getD_nil] at hop
 refine FSpecN_of c37 (Nat.le_refl _) (by decide) fun C hP hN hC hL => ?_; rw [init_st]
 simp only [ir37,Wh.av,Wh.avs]
 (repeat ((first | refine Va ?_ | refine Vb ?_ | refine Vc ?_ | refine Vd ?_ | refine Ve ?_ | refine Vf ?_); (try simp only [go_sem,hP]); (repeat refine qJ ?_)))
 refine AS_lend [4,9] hop rfl rfl rfl (by decide) rfl rfl ?_
 rintro r l' ⟨rfl,rfl⟩
 refine ⟨_,_,rfl,rfl,?_⟩
 simp only [go_sem,hP,ownBack,Wh.av,Wh.avs]
 (repeat ((first | refine Va ?_ | refine Vb ?_ | refine Vc ?_ | refine Vd ?_ | refine Ve ?_ | refine Vf ?_); (try simp only [go_sem,hP]); (repeat refine qJ ?_)))
 (refine WV_cond rfl (fun h => ?_) (fun h => ?_))
 ·cases h
 (repeat ((first | refine Va ?_ | refine Vb ?_ | refine Vc ?_ | refine Vd ?_ | refine Ve ?_ | refine Vf ?_); (try simp only [go_sem,hP]); (repeat refine qJ ?_)))
 (refine WV_drw ?_; simp only [go_sem,hP]; (repeat' (refine And.intro ?_ ?_)))
 all_goals (
  refine raw_mkG true false rfl ?_
  intro bm
  simp only [go_sem,hP]
  (repeat' (first | refine And.intro ?_ ?_)))
 all_goals (
  (refine WV_ret ?_; simp only [thenQ,inQ,RetQN,RetOkN,resAll,resA]; simp only [go_sem,tupA])
  refine ⟨[26,24],_,_,_,by simp,by simp,rfl,AVle.refl _,rfl,_,rfl,rfl⟩)
def mostS (w:Wh) (l:List Int):Int:=bestS w (spOf l)
theorem spOf_ok {w:Wh} (hw:WhOk w) {l:List Int} (hl:PurseOk w l):SpOk w (spOf l):=by
 have hro:=hw.ro
 have hcl:=hw.cl
 have hll:=hl.len
 have hn:∀ k,0 ≤ l.getD k 0 ∧ l.getD k 0 ≤ 12:=fun k => by
  by_cases hk:k < l.length
  ·exact getD_in hl.n hk
  ·rw [List.getD_eq_getElem?_getD,List.getElem?_eq_none (by omega)]; simp
 have hs:l.getD 0 0 + l.getD 1 0 + l.getD 2 0 + l.getD 3 0 = l.sum:=by
  match l,hll with
  | [],_ => rfl
  | [a],_ => simp
  | [a,b],_ => simp
  | [a,b,c],_ => simp; omega
  | [a,b,c,d],_ => simp; omega
  | a :: b :: c :: d :: e :: l,h => simp at h; omega
 have h0:=hn 0; have h1:=hn 1; have h2:=hn 2; have h3:=hn 3
 have hsm:=hl.sum
 exact ⟨⟨⟨h0.1,by simp only [spOf]; omega⟩,⟨h1.1,by simp only [spOf]; omega⟩,⟨h2.1,by simp only [spOf]; omega⟩,⟨h3.1,by simp only [spOf]; omega⟩,by simp only [spOf]; omega⟩,⟨by simp [spOf],by simp only [spOf]; omega⟩,by simp [spOf],by simp [spOf]⟩
set_option maxHeartbeats 8000000 in
theorem most23 {w:Wh} (hb:whB w = true) {l:List Int} (hl:PurseOk w l):FSpec Tryz.prog 23 [w.av,.c (ints l)] (.tup [iv (mostS w l),iv 0]):=by
 have hw:=whB_ok hb
 have hso:=spOf_ok hw hl
 have hmm:=many_in hso.x
 refine FSpec_of c23 (Nat.le_refl _) (by decide) fun C hP hN hC hL => ?_; rw [init_st]
 simp only [ir23,Wh.av,Wh.avs]
 (repeat ((first | refine Va ?_ | refine Vb ?_ | refine Vc ?_ | refine Vd ?_ | refine Ve ?_ | refine Vf ?_); (try simp only [go_sem,hP]); (repeat refine qJ ?_)))
 refine AS_new (seek37 hb hl) rfl rfl rfl rfl ?_
 rintro r os ⟨bm,rfl,rfl⟩
 refine ⟨[100,101],_,_,by decide,rfl,rfl,rfl,rfl,?_⟩
 simp only [srO,spAvs]
 simp only [go_sem,hP,ownBack]
 (repeat ((first | refine Va ?_ | refine Vb ?_ | refine Vc ?_ | refine Vd ?_ | refine Ve ?_ | refine Vf ?_); (try simp only [go_sem,hP]); (repeat refine qJ ?_)))
 (refine WV_cond rfl (fun h => ?_) (fun h => ?_))
 ·cases h
 (repeat ((first | refine Va ?_ | refine Vb ?_ | refine Vc ?_ | refine Vd ?_ | refine Ve ?_ | refine Vf ?_); (try simp only [go_sem,hP]); (repeat refine qJ ?_)))
 have hbu:=buys39 hw (spOf l).x.many.toNat (by omega) (spOf l) hso (by omega) [] (fun e he => by cases he) bm
 refine AS_lend [100,101] hbu rfl rfl rfl (by decide) rfl rfl ?_
 rintro r l' ⟨rfl,M',hM',rfl⟩
 refine ⟨_,_,rfl,rfl,?_⟩
 simp only [srO]
 simp only [go_sem,hP,ownBack]
 (repeat ((first | refine Va ?_ | refine Vb ?_ | refine Vc ?_ | refine Vd ?_ | refine Ve ?_ | refine Vf ?_); (try simp only [go_sem,hP]); (repeat refine qJ ?_)))
 (refine WV_ret ?_; simp only [thenQ,inQ,RetQ,RetOk,resAll,resA]; simp only [go_sem,tupA,AV.port,AV.portL,exists_eq_left']; (first | exact AVle.of rfl | refine AVle.of ?_ | skip))
end Go.Proofs.YtbclmfjibpppfaaGreat

namespace Go.Proofs.YtbclmfjibpppfaaGreat
open Go Go.V
abbrev o74_0:List Ins:=[JS 3 (.box 4 (.t 1)),JS 4 (.mv (.k (.c (.raw (.map none)))))]
abbrev o74_1:List Ins:=[JS 9 (.raw (.makeMap 141 none)),JS 5 (Jm 9)]
abbrev o74_2:List Ins:=[JS 10 (Jm 0),JS 11 (.raw (.range 139 (.tmp 10)))]
abbrev o74_3:List Ins:=[JS 12 (.raw (.next (.tmp 11) false)),JS 13 (Je 12 0)]
abbrev o74_4:List Ins:=[JS 14 (.raw (.entry (.tmp 11))),JS 15 (Je 14 0),JS 6 (.alloc [Jz 0,Jz 0,Jz 0,Jz 0,Jz 0,Jz 0,Jz 0]),JN (Js 7 6 15)]
abbrev o74_5:List Ins:=[JS 17 (Jm 5),JS 18 (Jf 6 6),JS 19 (Jl 18),JS 20 (.raw (.lookup 141 (.tmp 17) (.tmp 19) true)),JS 16 (Jm 20),JS 21 (Je 16 0),JS 22 (Je 16 1),JS 7 (.alloc [Jz 0,Jz 0,Jz 0,Jz 0,Jz 0,Jz 0,Jz 0]),JN (Js 7 7 21),JS 8 (Jm 22)]
abbrev o74_6:List Ins:=[JS 23 (Jf 2 6),JS 24 (JL 4 23),JS 25 (JL 4 3),JS 26 (.raw (.binOp .eql 137 (.tmp 24) (.tmp 25) 137)),JS 27 (Jm 26),JG 28 (Jm 8) 27 true,JG 29 (.un .not (.t 28)) 27 true,JG 30 (Jm 29) 27 true,JG 31 (Jf 0 6) 30 false,JG 32 (Jf 0 31) 30 false,JG 33 (Jl 32) 30 false,JG 34 (Jf 0 7) 30 false,JG 35 (Jf 0 34) 30 false,JG 36 (Jl 35) 30 false,JG 37 (Jb .lss 33 36) 30 false,JG 38 (Jo 30 37) 27 true,JG 39 (Jm 38) 27 true,JG 40 (Jf 0 6) 39 false,JG 41 (Jf 0 40) 39 false,JG 42 (Jl 41) 39 false,JG 43 (Jf 0 7) 39 false,JG 44 (Jf 0 43) 39 false,JG 45 (Jl 44) 39 false,JG 46 (Jb .eql 42 45) 39 false,JG 47 (Jm 46) 39 false,JG 48 (Jf 0 6) 47 true,JG 49 (Jf 1 48) 47 true,JG 50 (Jl 49) 47 true,JG 51 (Jf 0 7) 47 true,JG 52 (Jf 1 51) 47 true,JG 53 (Jl 52) 47 true,JG 54 (Jb .lss 50 53) 47 true,JG 55 (Jp 47 54) 39 false,JG 56 (Jo 39 55) 27 true,JS 57 (Jp 27 56)]
abbrev o74_7:List Ins:=[JS 58 (Jm 5),JS 59 (Jf 6 6),JS 60 (Jl 59),JS 61 (JL 7 6),JN (.raw (.mapUpdate 141 (.tmp 58) (.tmp 60) (.tmp 61)))]
abbrev v74_8:VC:=(.cond (.t 57) (.ops o74_7) .skip)
abbrev v74_9:VC:=(.seq (.ops o74_6) v74_8)
abbrev v74_10:VC:=(.seq (.ops o74_5) v74_9)
abbrev v74_11:VC:=(.seq (.ops o74_4) v74_10)
abbrev v74_12:VC:=(.block 1 v74_11)
abbrev v74_13:VC:=(.seq (.cond (.t 13) .skip (.exit 0)) v74_12)
abbrev v74_14:VC:=(.seq (.ops o74_3) v74_13)
-- K74_1: changed and kept: []
abbrev v74_15:VC:=(.loop v74_14)
abbrev v74_16:VC:=(.block 0 v74_15)
abbrev o74_17:List Ins:=[JS 62 (Jm 5),JS 4 (Jm 62)]
abbrev v74_18:VC:=(.seq (.ops o74_17) .ret)
abbrev v74_19:VC:=(.seq (.seq (.ops o74_2) v74_16) v74_18)
abbrev v74_20:VC:=(.seq (.ops o74_1) v74_19)
def ir74:FC:=⟨2,63,[.t 4],(.seq (.ops o74_0) v74_20)⟩
theorem c74:compM Tryz.prog [] 74 = some ir74:=by kernel_rfl
attribute [local go_sem] Nat.reduceEqDiff Nat.reduceAdd Nat.reduceMul reduceIte Nat.reduceLeDiff Nat.reduceLT Nat.reduceBEq reduceCtorEq
abbrev Ends:=List (Int × Pt)
def gl2 (D:Ends):GL:=D.map fun e => ([e.1],e.2.l)
def dlook (D:Ends) (n:Int):Option Pt:=(D.find? fun e => e.1 = n).map (·.2)
def dput (D:Ends) (n:Int) (p:Pt):Ends:=if (dlook D n).isSome = true then D.map (fun e => if e.1 = n then (n,p) else e) else D ++ [(n,p)]
theorem glook_gl2 (D:Ends) (n:Int):glook (gl2 D) [n] = (dlook D n).map Pt.l:=by
 unfold glook gl2 dlook
 rw [List.find?_map,Option.map_map,Option.map_map]
 have:((fun q:List Int × List Int => q.1 == [n]) ∘ fun e:Int × Pt => ([e.1],e.2.l)) = fun e => decide (e.1 = n):=by
  funext e
  simp only [Function.comp_apply]
  rw [Bool.eq_iff_iff]
  simp
 rw [this]; rfl
theorem gput_gl2 (D:Ends) (n:Int) (p:Pt):gput (gl2 D) [n] p.l = gl2 (dput D n p):=by
 unfold gput dput
 rw [glook_gl2,Option.isSome_map]
 split
 ·simp only [gl2,List.map_map]
  refine List.map_congr_left fun e _ => ?_
  simp only [Function.comp_apply]
  by_cases h:e.1 = n
  ·simp [h]
  ·simp [h]
 ·simp [gl2]
def endB (D:Ends) (x:Pt):Bool:=match dlook D x.bo with | none => true | some o => decide (x.pl < o.pl) || (x.pl == o.pl && decide (x.cr < o.cr))
def endS (A:Bag) (D:Ends) (e:Pt × Int × Pt):Ends:=if (decide (e.1.bag = A) && endB D e.1) = true then dput D e.1.bo e.1 else D
theorem bag_eqb (x A:Bag):(x.a == A.a && (x.b == A.b && (x.c == A.c && x.d == A.d))) = decide (x = A):=by
 rw [Bool.eq_iff_iff]
 cases x; cases A
 simp
theorem gl_split {R:Seen} {pre post:GL} {k v:List Int} (h:gl R = pre ++ (k,v) :: post):∃ A e B,R = A ++ e :: B ∧ pre = gl A ∧ post = gl B ∧ k = e.1.l ∧ v = e.2.1 :: e.2.2.l:=by
 unfold gl at h
 obtain ⟨A,r2,rfl,h1,h2⟩:=List.map_eq_append_iff.1 h
 obtain ⟨e,B,rfl,h3,h4⟩:=List.map_eq_cons_iff.1 h2
 simp only [Prod.mk.injEq] at h3
 exact ⟨A,e,B,rfl,h1.symm,h4.symm,h3.1.symm,h3.2.symm⟩
def EndsOf (S:Seen) (A:Bag) (D:Ends):Prop:=∃ ord:Seen,ord.Perm S ∧ D = ord.foldl (endS A) []
theorem intLaw:KLaw Tryz.prog 3 (fun v => ∃ n,v = .int .i64 n):=KLaw.int (by kernel_rfl)
theorem gl2_keys (D:Ends):∀ p ∈ gl2 D,∃ n,kval false p.1 = .int .i64 n:=fun p hp => by
 obtain ⟨e,_,rfl⟩:=List.mem_map.1 hp
 exact ⟨_,rfl⟩
theorem gl2_inj (D:Ends) (n:Int):∀ p ∈ gl2 D,kval false p.1 = kval false [n] → p.1 = [n]:=fun p hp h => by
 obtain ⟨e,_,rfl⟩:=List.mem_map.1 hp
 simp only [kval,Bool.false_eq_true,if_false,List.headD_cons,Value.int.injEq,true_and] at h
 simp [h]
set_option maxHeartbeats 8000000 in
set_option maxRecDepth 20000 in
theorem ends63 {S:Seen} {A:Bag} (bm:Nat):FSpecL Tryz.prog 74 [.c (.raw (.map (some bm))),.agg (bagAv A.l)] [gmap true true (gl S) bm,empO] [] (fun r l' => ∃ be D,r = .c (.raw (.map (some be))) ∧ l' = [gmap true true (gl S) bm,gmap false true (gl2 D) be] ∧ EndsOf S A D):=by
 refine FSpecL_ofX c74 (by first | simp | exact Nat.le_of_ble_eq_true rfl) (Nat.le_refl _) (by decide) (by decide) fun C hP hN hC hpin hL => ?_; rw [init_env',ownW_upd (by first | simp | exact Nat.le_of_ble_eq_true rfl)]; simp only [ir74,updL,updLo,List.map_nil,List.map_cons,Nat.reduceAdd,]
 simp only [bagAv,Bag.l,List.map_cons,List.map_nil]
 (repeat ((first | refine Va ?_ | refine Vb ?_ | refine Vc ?_ | refine Vd ?_ | refine Ve ?_ | refine Vf ?_); (try simp only [go_sem,hP]); (repeat refine qJ ?_)))
 refine raw_mkG false true rfl ?_
 intro be
 simp only [go_sem,hP]
 refine WV_seq_ (WV_openG 1000 (ka:=true) (va:=true) (l:=gl S) (b:=bm) rfl ?_)
 intro es clock hst hes
 simp only [go_sem]
 (repeat ((first | refine Va ?_ | refine Vb ?_ | refine Vc ?_ | refine Vd ?_ | refine Ve ?_ | refine Vf ?_); (try simp only [go_sem,hP]); (repeat refine qJ ?_)))
 refine raw_rangeE (n:=1000) (b:=bm) (clock:=clock) (es:=es) (k:=148) (e:=150) (x':=.t 10) (by kernel_rfl) rfl rfl rfl rfl rfl ?_
 intro r
 simp only [go_sem,hP]
 (repeat ((first | refine Va ?_ | refine Vb ?_ | refine Vc ?_ | refine Vd ?_ | refine Ve ?_ | refine Vf ?_); (try simp only [go_sem,hP]); (repeat refine qJ ?_)))
 refine WV_loopK [3,5,11] [11,9] (fun i:Array Nat × Seen × Seen => (i.2.2 ++ i.2.1).Perm S ∧ restOf true true es i.1 (gl i.2.1)) (fun i => i.2.1.length) (fun _ => []) (fun i => [(11,iterE r bm clock i.1 clock),(9,gmap false true (gl2 (i.2.2.foldl (endS A) [])) be)]) (#[],S,[]) ⟨by simp,restOf_all hes⟩ ?_ ?_
 ·exact Sub_au
 rintro ⟨seen,R,done⟩ ⟨hp,hr⟩
 simp only at hp hr
 (repeat ((first | refine Va ?_ | refine Vb ?_ | refine Vc ?_ | refine Vd ?_ | refine Ve ?_ | refine Vf ?_); (try simp only [go_sem,hP]); (repeat refine qJ ?_)))
 refine raw_nextR (n:=1000) (m:=11) (b:=bm) (r:=r) (clock:=clock) (es:=es) (ka:=true) (va:=true) (l:=gl S) (rest:=gl R) (x':=.t 11) rfl rfl rfl rfl rfl hst rfl rfl hes hr (fun h0 => ?_) fun e pre k v post hsp hem hek hev hr2 => ?_
 ·have hR:R = []:=List.map_eq_nil_iff.1 h0
  subst hR
  rw [List.append_nil] at hp
  simp only [go_sem,hP]
  (repeat ((first | refine Va ?_ | refine Vb ?_ | refine Vc ?_ | refine Vd ?_ | refine Ve ?_ | refine Vf ?_); (try simp only [go_sem,hP]); (repeat refine qJ ?_)))
  (refine WV_cond rfl (fun h => ?_) (fun h => ?_))
  ·cases h
  ·(repeat ((first | refine Va ?_ | refine Vb ?_ | refine Vc ?_ | refine Vd ?_ | refine Ve ?_ | refine Vf ?_); (try simp only [go_sem,hP]); (repeat refine qJ ?_)))
   refine WV_closeG 1000 true true (gl S) (es:=es) (clock:=clock) rfl hst hes ?_
   refine WV_keep [4] ?_
   simp only [go_sem]
   refine WV_drop 1001 ?_
   refine WV_moveP 9 1001 (by decide) (fun hq => by have h2:false = true:=hpin 1001 hq; cases h2) rfl ?_
   unfold rnO
   simp only [go_sem,rnP_upd,rnE_upd,rnE_e0,rnP_o0,AV.rn,AV.rnL,Ob.rn]
   (refine WV_ret ?_; simp only [thenQ,inQ,RetQL,RetOkL,resAll,resA]; simp only [go_sem,tupA,AV.keepP,AV.keepPL]; refine ⟨_,[gmap true true (gl S) bm,gmap false true (gl2 (List.foldl (endS A) [] done)) be],rfl,KeepL_mk rfl rfl ?_ ?_ rfl,?_⟩)
   ·simp only [go_sem,keepAll,Ob.keepP,AV.keepP,AV.keepPL]
   ·trivial
   ·exact ⟨_,_,rfl,rfl,done,hp,rfl⟩
 ·obtain ⟨B1,en,B2,rfl,rfl,rfl,rfl,rfl⟩:=gl_split hsp
  have hgl:gl B1 ++ gl B2 = gl (B1 ++ B2):=by simp [gl]
  rw [hgl] at hr2
  have hp2:((done ++ [en]) ++ (B1 ++ B2)).Perm S:=by
   refine List.Perm.trans ?_ hp
   rw [List.append_assoc]
   refine List.Perm.append_left done ?_
   exact (List.perm_middle (a:=en) (l₁:=B1) (l₂:=B2)).symm
  have hfo:(done ++ [en]).foldl (endS A) [] = endS A (done.foldl (endS A) []) en:=by rw [List.foldl_append]; rfl
  have hlen:(B1 ++ B2).length < B1.length + (B2.length + 1):=by simp
  generalize done.foldl (endS A) [] = D at *
  obtain ⟨x,act,from_⟩:=en
  simp only at hek hev
  simp only [go_sem,hP,kav,if_true,Pt.l,List.map_cons,List.map_nil]
  (repeat ((first | refine Va ?_ | refine Vb ?_ | refine Vc ?_ | refine Vd ?_ | refine Ve ?_ | refine Vf ?_); (try simp only [go_sem,hP]); (repeat refine qJ ?_)))
  (refine WV_cond rfl (fun h => ?_) (fun h => ?_))
  ·(repeat ((first | refine Va ?_ | refine Vb ?_ | refine Vc ?_ | refine Vd ?_ | refine Ve ?_ | refine Vf ?_); (try simp only [go_sem,hP]); (repeat refine qJ ?_)))
   refine raw_entryE (n:=1000) (m:=11) (b:=bm) (r:=r) (clock:=clock) (since:=clock) (es:=es) (e:=e) (ka:=true) (va:=true) (k:=x.l) (v:=act :: from_.l) (x':=.t 11) rfl rfl rfl rfl rfl hst hem hek hev ?_
   simp only [go_sem,hP,kav,if_true,Pt.l,List.map_cons,List.map_nil]
   (repeat ((first | refine Va ?_ | refine Vb ?_ | refine Vc ?_ | refine Vd ?_ | refine Ve ?_ | refine Vf ?_); (try simp only [go_sem,hP]); (repeat refine qJ ?_)))
   have hzl:∃ y0 y1 y2 y3 y4 y5 y6:Int,(glook (gl2 D) [x.bo]).getD [0,0,0,0,0,0,0] = [y0,y1,y2,y3,y4,y5,y6] ∧ endB D x = (!(glook (gl2 D) [x.bo]).isSome || (decide (x.pl < y0) || (x.pl == y0 && decide (x.cr < y1)))):=by
    rw [glook_gl2]
    unfold endB
    cases dlook D x.bo with
    | none => exact ⟨_,_,_,_,_,_,_,rfl,rfl⟩
    | some o => exact ⟨_,_,_,_,_,_,_,rfl,rfl⟩
   obtain ⟨y0,y1,y2,y3,y4,y5,y6,hz1,hz2⟩:=hzl
   refine raw_lookG (ka:=false) (va:=true) (n:=9) (b:=be) (l:=gl2 D) (key:=[x.bo]) (zs:=[0,0,0,0,0,0,0]) (k:=3) (e:=148) (x':=.t 17) (i':=.t 19) (by kernel_rfl) intLaw (by kernel_rfl) rfl rfl rfl rfl rfl rfl rfl ⟨_,rfl⟩ (gl2_keys D) (gl2_inj D _) ?_
   rw [hz1]
   generalize (glook (gl2 D) [x.bo]).isSome = is at *
   simp only [go_sem,hP,kav,if_true,List.map_cons,List.map_nil]
   (repeat ((first | refine Va ?_ | refine Vb ?_ | refine Vc ?_ | refine Vd ?_ | refine Ve ?_ | refine Vf ?_); (try simp only [go_sem,hP]); (repeat refine qJ ?_)))
   refine raw_eqA (e:=3) (k:=.i64) (x':=.t 24) (y':=.t 25) (by kernel_rfl) (by kernel_rfl) (by kernel_rfl) (by kernel_rfl) (by kernel_rfl) rfl rfl rfl rfl rfl rfl ?_
   have hbe:(x.a == A.a && (x.b == A.b && (x.c == A.c && x.d == A.d))) = decide (x.bag = A):=bag_eqb x.bag A
   rw [hbe]
   have hend:endS A D (x,act,from_) = if (decide (x.bag = A) && endB D x) = true then dput D x.bo x else D:=rfl
   rw [hz2] at hend
   generalize decide (x.bag = A) = eq at hend
   cases eq with
   | false =>
    simp only [Bool.false_and,Bool.false_eq_true,if_false] at hend
    simp only [go_sem,hP]
    (repeat ((first | refine Va ?_ | refine Vb ?_ | refine Vc ?_ | refine Vd ?_ | refine Ve ?_ | refine Vf ?_); (try simp only [go_sem,hP]); (repeat refine qJ ?_)))
    (refine WV_cond rfl (fun h => ?_) (fun h => ?_))
    ·cases h
    ·(repeat ((first | refine Va ?_ | refine Vb ?_ | refine Vc ?_ | refine Vd ?_ | refine Ve ?_ | refine Vf ?_); (try simp only [go_sem,hP]); (repeat refine qJ ?_)))
     refine ⟨(seen.push e.born,B1 ++ B2,done ++ [(x,act,from_)]),⟨hp2,hr2⟩,hlen,?_⟩
     rw [hfo,hend]
     exact Sub_au
   | true =>
    simp only [Bool.true_and] at hend
    cases is with
    | false =>
     simp only [Bool.not_false,Bool.true_or,if_true] at hend
     simp only [go_sem,hP]
     (repeat ((first | refine Va ?_ | refine Vb ?_ | refine Vc ?_ | refine Vd ?_ | refine Ve ?_ | refine Vf ?_); (try simp only [go_sem,hP]); (repeat refine qJ ?_)))
     (refine WV_cond rfl (fun h => ?_) (fun h => ?_))
     ·(repeat ((first | refine Va ?_ | refine Vb ?_ | refine Vc ?_ | refine Vd ?_ | refine Ve ?_ | refine Vf ?_); (try simp only [go_sem,hP]); (repeat refine qJ ?_)))
      refine raw_putG (ka:=false) (va:=true) (n:=9) (b:=be) (l:=gl2 D) (key:=[x.bo]) (val:=x.l) (k:=3) (e:=148) (x':=.t 58) (i':=.t 60) (v':=.t 61) (.inl rfl) (by kernel_rfl) intLaw rfl rfl rfl rfl rfl rfl rfl rfl rfl rfl ⟨_,rfl⟩ (gl2_keys D) (gl2_inj D _) ?_
      rw [gput_gl2]
      simp only [go_sem,hP]
      refine ⟨(seen.push e.born,B1 ++ B2,done ++ [(x,act,from_)]),⟨hp2,hr2⟩,hlen,?_⟩
      rw [hfo,hend]
      exact Sub_au
     ·cases h
    | true =>
     simp only [Bool.not_true,Bool.false_or] at hend
     simp only [go_sem,hP]
     (repeat ((first | refine Va ?_ | refine Vb ?_ | refine Vc ?_ | refine Vd ?_ | refine Ve ?_ | refine Vf ?_); (try simp only [go_sem,hP]); (repeat refine qJ ?_)))
     refine ⟨fun h1 => ⟨h1,fun h2 => ⟨h1,h2⟩⟩,fun h1 => by rw [h1]; rfl,?_⟩
     by_cases hc:(decide (x.pl < y0) || (x.pl == y0 && decide (x.cr < y1))) = true
     ·rw [if_pos hc] at hend
      (refine WV_cond rfl (fun h => ?_) (fun h => ?_))
      ·(repeat ((first | refine Va ?_ | refine Vb ?_ | refine Vc ?_ | refine Vd ?_ | refine Ve ?_ | refine Vf ?_); (try simp only [go_sem,hP]); (repeat refine qJ ?_)))
       refine raw_putG (ka:=false) (va:=true) (n:=9) (b:=be) (l:=gl2 D) (key:=[x.bo]) (val:=x.l) (k:=3) (e:=148) (x':=.t 58) (i':=.t 60) (v':=.t 61) (.inl rfl) (by kernel_rfl) intLaw rfl rfl rfl rfl rfl rfl rfl rfl rfl rfl ⟨_,rfl⟩ (gl2_keys D) (gl2_inj D _) ?_
       rw [gput_gl2]
       simp only [go_sem,hP]
       refine ⟨(seen.push e.born,B1 ++ B2,done ++ [(x,act,from_)]),⟨hp2,hr2⟩,hlen,?_⟩
       rw [hfo,hend]
       exact Sub_au
      ·exfalso; simp at h hc; omega
     ·rw [if_neg hc] at hend
      (refine WV_cond rfl (fun h => ?_) (fun h => ?_))
      ·exfalso; simp at h hc; omega
      ·(repeat ((first | refine Va ?_ | refine Vb ?_ | refine Vc ?_ | refine Vd ?_ | refine Ve ?_ | refine Vf ?_); (try simp only [go_sem,hP]); (repeat refine qJ ?_)))
       refine ⟨(seen.push e.born,B1 ++ B2,done ++ [(x,act,from_)]),⟨hp2,hr2⟩,hlen,?_⟩
       rw [hfo,hend]
       exact Sub_au
  ·cases h
end Go.Proofs.YtbclmfjibpppfaaGreat

namespace Go.Proofs.YtbclmfjibpppfaaGreat
open Go Go.V
abbrev o76_0:List Ins:=[JS 1 (.box 1 (.t 0)),JS 2 (.mv (.k (.c (.raw .nilFunc))))]
abbrev o76_1:List Ins:=[JS 3 (.mkfn 85 [.t 1]),JS 2 (Jm 3)]
abbrev v76_2:VC:=(.seq (.ops o76_1) .ret)
def ir76:FC:=⟨1,4,[.t 2],(.seq (.ops o76_0) v76_2)⟩
theorem c76:compM Tryz.prog [] 76 = some ir76:=by kernel_rfl
attribute [local go_sem] Nat.reduceEqDiff Nat.reduceAdd Nat.reduceMul reduceIte Nat.reduceLeDiff Nat.reduceLT Nat.reduceBEq reduceCtorEq
def keysD (D:Ends):List Int:=D.map (·.1)
structure EndsOk (S:Seen) (A:Bag) (D:Ends):Prop where
 nd:(keysD D).Nodup
 src:∀ e ∈ D,e.1 = e.2.bo ∧ e.2.bag = A ∧ e.2 ∈ sks S
theorem dlook_some {D:Ends} {n:Int} {p:Pt} (h:dlook D n = some p):(n,p) ∈ D:=by
 unfold dlook at h
 rw [Option.map_eq_some_iff] at h
 obtain ⟨e,he,rfl⟩:=h
 have h1:=List.find?_some he
 simp only [decide_eq_true_eq] at h1
 subst h1
 exact List.mem_of_find?_eq_some he
theorem dlook_of {D:Ends} {n:Int} (h:n ∈ keysD D):∃ p,dlook D n = some p:=by
 unfold keysD at h
 obtain ⟨e,he,rfl⟩:=List.mem_map.1 h
 cases hd:dlook D e.1 with
 | some p => exact ⟨p,rfl⟩
 | none =>
  unfold dlook at hd
  rw [Option.map_eq_none_iff,List.find?_eq_none] at hd
  have:=hd e he
  simp at this
theorem dput_keys {D:Ends} {n:Int} {p:Pt}:keysD (dput D n p) = if n ∈ keysD D then keysD D else keysD D ++ [n]:=by
 unfold dput
 by_cases h:n ∈ keysD D
 ·obtain ⟨q,hq⟩:=dlook_of h
  rw [if_pos h,hq]
  simp only [Option.isSome_some,if_true,keysD,List.map_map]
  refine List.map_congr_left fun e _ => ?_
  simp only [Function.comp_apply]
  split
  ·rename_i h2; exact h2.symm
  ·rfl
 ·have:dlook D n = none:=by
   cases hd:dlook D n with
   | none => rfl
   | some q => exact absurd (List.mem_map.2 ⟨_,dlook_some hd,rfl⟩) h
  rw [if_neg h,this]
  simp [keysD]
theorem EndsOk.nil {S:Seen} {A:Bag}:EndsOk S A []:=⟨List.nodup_nil,fun e h => by cases h⟩
theorem EndsOk.put {S:Seen} {A:Bag} {D:Ends} (h:EndsOk S A D) {x:Pt} (hx:x.bag = A) (hs:x ∈ sks S):EndsOk S A (dput D x.bo x):=by
 refine ⟨?_,fun e he => ?_⟩
 ·rw [dput_keys]
  split
  ·exact h.nd
  ·rename_i h2
   rw [List.nodup_append]
   exact ⟨h.nd,by simp,fun a ha b hb => by simp only [List.mem_singleton] at hb; subst hb; intro hab; subst hab; exact h2 ha⟩
 ·unfold dput at he
  split at he
  ·obtain ⟨e',he',rfl⟩:=List.mem_map.1 he
   split
   ·exact ⟨rfl,hx,hs⟩
   ·exact h.src e' he'
  ·rcases List.mem_append.1 he with h1 | h1
   ·exact h.src e h1
   ·simp only [List.mem_singleton] at h1; subst h1; exact ⟨rfl,hx,hs⟩
theorem EndsOf.ok {S:Seen} {A:Bag} {D:Ends} (h:EndsOf S A D):EndsOk S A D:=by
 obtain ⟨ord,hp,rfl⟩:=h
 have key:∀ (l:Seen) (D:Ends),(∀ e ∈ l,e ∈ S) → EndsOk S A D → EndsOk S A (l.foldl (endS A) D):=by
  intro l
  induction l with
  | nil => intro D _ h; exact h
  | cons e l ih =>
   intro D hl h
   rw [List.foldl_cons]
   refine ih _ (fun y hy => hl y (by simp [hy])) ?_
   unfold endS
   split
   ·rename_i hc
    simp only [Bool.and_eq_true,decide_eq_true_eq] at hc
    exact h.put hc.1 (List.mem_map.2 ⟨e,hl e (by simp),rfl⟩)
   ·exact h
 exact key ord [] (fun e he => hp.subset he) .nil
theorem EndsOk.len {S:Seen} {A:Bag} {D:Ends} (h:EndsOk S A D) (hb:∀ e ∈ S,0 ≤ e.1.bo ∧ e.1.bo ≤ 2000):D.length ≤ 2001 ∧ ∀ e ∈ D,0 ≤ e.1 ∧ e.1 ≤ 2000:=by
 have hr:∀ e ∈ D,0 ≤ e.1 ∧ e.1 ≤ 2000:=fun e he => by
  obtain ⟨h1,_,h3⟩:=h.src e he
  obtain ⟨y,hy,hye⟩:=List.mem_map.1 h3
  have:=hb y hy
  rw [h1,← hye]; exact this
 refine ⟨?_,hr⟩
 have:=nodup_lt 2001 ((keysD D).map Int.toNat) ?_ ?_
 ·simpa [keysD] using this
 ·rw [List.nodup_iff_pairwise_ne,List.pairwise_map]
  refine (List.nodup_iff_pairwise_ne.1 h.nd).imp_of_mem fun {a b} ha hb' hne e => hne ?_
  obtain ⟨x,hx,rfl⟩:=List.mem_map.1 ha
  obtain ⟨y,hy,rfl⟩:=List.mem_map.1 hb'
  have:=hr x hx; have:=hr y hy
  omega
 ·intro x hx
  obtain ⟨y,hy,rfl⟩:=List.mem_map.1 hx
  obtain ⟨z,hz,rfl⟩:=List.mem_map.1 hy
  have:=hr z hz
  omega
theorem keys65 (be:Nat):FSpecN Tryz.prog 76 [.c (.raw (.map (some be)))] (fun r os => r = .fn 85 [.bp 1000 0] ∧ os = [.box [.c (.raw (.map (some be)))]]):=by
 refine FSpecN_of c76 (Nat.le_refl _) (by decide) fun C hP hN hC hL => ?_; rw [init_st]
 simp only [ir76]
 (repeat ((first | refine Va ?_ | refine Vb ?_ | refine Vc ?_ | refine Vd ?_ | refine Ve ?_ | refine Vf ?_); (try simp only [go_sem,hP]); (repeat refine qJ ?_)))
 refine WV_keep [1,2] ?_
 simp only [go_sem]
 (refine WV_ret ?_; simp only [thenQ,inQ,RetQN,RetOkN,resAll,resA]; simp only [go_sem,tupA])
 exact ⟨[1],_,_,_,by simp,by simp,rfl,AVle.refl _,rfl,rfl,rfl⟩
end Go.Proofs.YtbclmfjibpppfaaGreat

namespace Go.Proofs.YtbclmfjibpppfaaGreat
open Go Go.V Go.RowKit Go.Maps Go.Sort Go.Shelf Go.WideElems
abbrev o75_0:List Ins:=[JS 2 (.mv (.k J0))]
abbrev o75_1:List Ins:=[JS 4 (Jm 0),JS 5 (Jc 83 [.t 4]),JS 3 (Jm 5)]
abbrev o75_2:List Ins:=[JS 6 (Jm 3),JS 7 (Jc 84 [.t 6])]
abbrev o75_3:List Ins:=[JS 8 (Jm 3),JS 2 (Jm 8)]
abbrev v75_4:VC:=(.seq (.ops o75_3) .ret)
abbrev v75_5:VC:=(.seq (.ops o75_2) v75_4)
abbrev v75_6:VC:=(.seq (.ops o75_1) v75_5)
def ir75:FC:=⟨1,9,[.t 2],(.seq (.ops o75_0) v75_6)⟩
theorem c75:compM Tryz.prog [] 75 = some ir75:=by kernel_rfl
def renK:Ren:=⟨fun | 7 => 76 | 10 => 85 | n => n,fun | 23 => 141 | 26 => 3 | 3 => 148 | 28 => 145 | 27 => 144 | 33 => 85 | n => n,fun x => x⟩
def renS:Ren:=⟨fun | 6 => 75 | 8 => 83 | 9 => 84 | 11 => 91 | 13 => 93 | 12 => 92 | 23 => 105 | 24 => 106 | 14 => 96 | 15 => 97 | 16 => 98 | 17 => 99 | 18 => 100 | 19 => 101 | 20 => 102 | 21 => 103 | 22 => 104 | 25 => 107 | 26 => 108 | 27 => 109 | 28 => 110 | 29 => 111 | 30 => 112 | 31 => 113 | n => n,
 fun | 26 => 3 | 28 => 145 | 24 => 26 | 3 => 3 | 37 => 151 | 48 => 170 | 50 => 172 | 40 => 165 | 39 => 164 | 45 => 116 | 51 => 173 | 55 => 177 | 57 => 179 | 58 => 111 | 33 => 85 | n => n,fun x => x⟩
def renT:Ren:=⟨fun | 5 => 84 | 8 => 93 | 7 => 92 | 19 => 105 | 20 => 106 | 10 => 96 | 11 => 97 | 12 => 98 | 13 => 99 | 14 => 100 | 15 => 101 | 16 => 102 | 17 => 103 | 18 => 104 | 30 => 107 | 31 => 108 | 32 => 109 | 33 => 110 | 34 => 111 | 35 => 112 | 40 => 113 | n => n,
 fun | 23 => 26 | 25 => 3 | 32 => 151 | 22 => 26 | 44 => 170 | 46 => 172 | 36 => 165 | 35 => 164 | 41 => 116 | 53 => 173 | 57 => 177 | 63 => 179 | 64 => 111 | n => n,fun x => x⟩
theorem bears_of {P:Program} {f:Nat} {B:Func} (h:(P.funcs[f]?).map (fun g => { g with name := "" }) = some { B with name := "" }) (hn:(P.funcs[f]?).map (fun g => g.name == "runtime.NumGoroutine") = some false):Bears P f B:=by
 cases hg:P.funcs[f]? with
 | none => rw [hg] at h; cases h
 | some g =>
  rw [hg,Option.map_some,Option.some.injEq] at h hn
  refine ⟨g.name,hn,?_⟩
  rw [hg]
  have h2:=congrArg (fun x:Func => { x with name:=g.name }) h
  exact congrArg some h2
theorem layK:SlLaysZI.n7 Tryz.prog renK:=by
 constructor <;> first | exact bears_of (by kernel_rfl) (by kernel_rfl) | kernel_rfl | (intro w; kernel_rfl)
theorem layS:SlLaysZI.n6 Tryz.prog renS:=by
 constructor <;> first | exact bears_of (by kernel_rfl) (by kernel_rfl) | kernel_rfl | (intro w; kernel_rfl)
theorem layT:SlLaysM.n5 Tryz.prog renT:=by
 constructor <;> first | exact bears_of (by kernel_rfl) (by kernel_rfl) | kernel_rfl | (intro w; kernel_rfl)
theorem sortsS (m:Nat):AnyZI.SortsIn Tryz.prog renS Fence.wide m :=
 ⟨fun blk off cap ss W hH hblk hsz => callsIn_wide.2 (AnyM.slices_Sort_int layT blk off cap ss W hH hblk hsz),fun p cap W => callsIn_wide.2 (AnyM.slices_Sort_int_none layT p cap W)⟩
def srt (l:List Int):List Int:=l.mergeSort fun x y => decide (x ≤ y)
theorem srt_mem {l:List Int} {n:Int}:n ∈ srt l ↔ n ∈ l:=by unfold srt; rw [List.mem_mergeSort]
theorem srt_perm {l l':List Int} (h:l.Perm l'):srt l = srt l':=mergeSort_of_perm_i h
def rAny (_:Value):Option (DataW Unit × List MemPlace):=some (.nil,[])
theorem flat_ints:∀ l:List Int,(l.map fun n => [CD.int .i64 n]).flatten.map AV.c = l.map fun n => AV.c (.int .i64 n)
 | [] => rfl
 | x :: l => by simp only [List.map_cons,List.flatten_cons,List.map_append,flat_ints l]; rfl
theorem ints_rep {w:World} {M:Cells} {loc:Nat → Value} {l:List Int} {v:Value} {B:Nat} {e:TypeId} (h:w.ownsRow B e 1 v l.length (l.map encZ)) (hM:∀ b o,M b o → b < B):RepA w M loc (.c (ints l)) v:=by
 obtain ⟨_,h | ⟨g,cap,cur,rfl,hB,hb,h1,h2,h3,h4⟩⟩:=h
 ·obtain ⟨rfl,h0⟩:=h
  have:l = []:=List.eq_nil_of_length_eq_zero h0
  subst this
  simp only [RepA,RepC,ints]
  exact ⟨none,0,rfl,Nat.le_refl _,Nat.zero_le _,.inl rfl⟩
 ·simp only [RepA,RepC,ints,List.length_map]
  refine ⟨_,cap,rfl,h1,h2,.inr ⟨_,rfl,?_⟩⟩
  refine repE_of _ (l.map encZ) 0 (fun e he => ?_) ?_ (fun j u hj => ?_) (fun j hj hm => ?_)
  ·obtain ⟨n,_,rfl⟩:=List.mem_map.1 he; rfl
  ·have:=(reps_ints (w:=w) (M:=M) (loc:=fun _ => undef) l (l.map encZ)).2 rfl
   rw [flat_ints l]
   exact this
  ·rw [cell_of_row w g _ cur e (0,0) hb,Nat.zero_add,← Array.getElem?_toList]
   rw [← h4,List.getElem?_take] at hj
   split at hj
   ·exact hj
   ·cases hj
  ·have:=hM _ _ hm; omega
theorem fit_ends {D:Ends} {es:Array MapEntry} {clock:Nat} (hst:MapKept.Stamped es clock) (hes:es.toList.map (fun e => (e.key,e.val)) = gvals false true (gl2 D)) (hl:D.length ≤ 2001) (hr:∀ e ∈ D,0 ≤ e.1 ∧ e.1 ≤ 2000) :
  Fit Tryz.prog 3 rAny es clock ∧ (es.toList.map (rg Tryz.prog 3 rAny)).map (fun p => Go.intOf p.1) = keysD D:=by
 have hk:∀ n:Int,0 ≤ n ∧ n ≤ 2000 → keyOf Tryz.prog 3 (.int .i64 n) = some (.int .i64 n):=fun n hn => by
  have hu:Tryz.prog.underlying 3 = some (.int .i64):=by kernel_rfl
  have hw:(Lit.int .i64 n).wf = true:=WalkArith.wf_i64 ⟨by omega,by omega⟩
  simp [keyOf,hu,mapKey,hw]
 have hlen:es.size = D.length:=by
  have:=congrArg List.length hes
  simpa [gvals,gl2] using this
 have hkey:es.toList.map (fun e => e.key) = D.map fun e => Value.int .i64 e.1:=by
  have:=congrArg (List.map Prod.fst) hes
  simpa [gvals,gl2,kval,Function.comp_def] using this
 refine ⟨⟨by rw [hlen]; simp only [maxLen]; omega,hst,fun x hx => ?_⟩,?_⟩
 ·have:x.key ∈ es.toList.map fun e => e.key:=List.mem_map.2 ⟨x,hx,rfl⟩
  rw [hkey] at this
  obtain ⟨e,he,hxe⟩:=List.mem_map.1 this
  unfold WideElems.rd
  rw [← hxe,hk _ (hr e he)]
  exact ⟨_,rfl⟩
 ·have h2:∀ (l:List MapEntry) (D:Ends),(∀ e ∈ D,0 ≤ e.1 ∧ e.1 ≤ 2000) → l.map (fun e => e.key) = D.map (fun e => Value.int .i64 e.1) → (l.map (rg Tryz.prog 3 rAny)).map (fun p => Go.intOf p.1) = keysD D:=by
   intro l
   induction l with
   | nil => intro D _ h; cases D with
    | nil => rfl
    | cons => cases h
   | cons x l ih =>
    intro D hD h
    cases D with
    | nil => cases h
    | cons e D =>
     simp only [List.map_cons,List.cons.injEq] at h
     have:=ih D (fun y hy => hD y (by simp [hy])) h.2
     simp only [List.map_cons,keysD,List.cons.injEq]
     refine ⟨?_,this⟩
     unfold rg WideElems.rd
     rw [h.1,hk _ (hD e (by simp))]
     rfl
  exact h2 _ _ hr hkey
set_option maxHeartbeats 1000000 in
theorem sorted64 {D:Ends} (hl:D.length ≤ 2001) (hr:∀ e ∈ D,0 ≤ e.1 ∧ e.1 ≤ 2000) (be:Nat):FSpecL Tryz.prog 75 [.fn 85 [.bp 1000 0]] [.box [.c (.raw (.map (some be)))],gmap false true (gl2 D) be] [] (fun r l' => r = .c (ints (srt (keysD D))) ∧ l' = [.box [.c (.raw (.map (some be)))],gmap false true (gl2 D) be]):=by
 refine FSpecL_keep (body_call c75).1 (Nat.le_of_ble_eq_true rfl) fun w M loc vs hLO hrep => ?_
 have h0:ObOk Tryz.prog (fun _ => True) w (AddM M _ loc) loc (loc 1000) (.box [.c (.raw (.map (some be)))]):=hLO.objs 1000
 have h1:ObOk Tryz.prog (fun _ => True) w (AddM M _ loc) loc (loc 1001) (gmap false true (gl2 D) be):=hLO.objs 1001
 obtain ⟨b,l,e,hb1,_,hb2,hb3⟩:=h0
 obtain ⟨_,L,_,⟨_,_,es,clock,hm,hst,hes⟩,_⟩:=h1
 simp only [RepAs,RepA,RepC] at hb3 hrep
 obtain ⟨x,xs,hl1,⟨hx,_⟩,hxs⟩:=hb3
 subst hxs; subst hx; subst hl1
 obtain ⟨fv,_,rfl,⟨caps,rfl,y,ys,rfl,⟨b',hb',rfl⟩,rfl⟩,rfl⟩:=hrep
 obtain rfl:b' = b:=by rw [hb1] at hb'; simpa using hb'.symm
 obtain ⟨F,hkeys⟩:=fit_ends hst hes hl hr
 obtain ⟨D0,hD0⟩ : ∃ D0,D0 = (DataW.map ((es.toList.map (rg Tryz.prog 3 rAny)).foldr DataW.insert []):DataW Unit):=⟨_,rfl⟩
 have hown:w.ownsMap Tryz.prog 3 rAny be es.size D0:=⟨es,clock,hm,F,Nat.le_refl _,hD0⟩
 have hsize:Maps.size D0 ≤ 2001:=by
  rw [hD0,Maps.size_eq,length_sorted,List.length_map]
  have:=congrArg List.length hes
  simp [gvals,gl2] at this
  simp; omega
 have hperm:(intKeys D0).Perm (keysD D):=by
  rw [← hkeys,hD0]
  exact (WideShapes.sorted_perm _).map _
 have hcell:w.cell? ⟨b',0,none⟩ = some (.map (some be)):=by rw [cell_of_row w b' _ _ _ _ hb2.1]; rfl
 have hlt:b' < w.heap.size:=cell_lt (p:=⟨b',0,none⟩) (by rw [hcell]; rfl)
 have hseq:SeqGives Fence.wide 2 Tryz.prog 85 #[.pointer (some ⟨b',0,none⟩)] encZ (fun ss => ss.Perm (intKeys D0)) (Maps.size D0) w :=
  AnyZI.keys_gives (ρ:=renK) { layK with } Fence.wide _ trivial rfl (by omega) b' be es.size D0 w hlt hcell hown
 have cS:=AnyZI.sorted_in layS Fence.wide 5 trivial trivial trivial trivial rfl (by omega) (sortsS _) (show Enters Tryz.prog 84 from layT.f5.enters rfl) 85 #[.pointer (some ⟨b',0,none⟩)] trivial (show Enters Tryz.prog 85 from layK.f10.enters rfl) _ _ (by simp only [maxLen]; omega) (by omega) _ hseq
 have cT:Calls Tryz.prog 75 _ _ _:=(callsIn_wide (n:=5)).1 cS
 refine cT.mono ?_
 rintro e w' ⟨v,ss,rfl,hS,hrow,_,hb⟩
 refine ⟨v,_,rfl,rfl,hb,fun M' hM' => ?_⟩
 have h5:srt ss = srt (keysD D):=srt_perm (hS.trans hperm)
 rw [← h5]
 have h6:(srt ss).length = ss.length:=List.length_mergeSort _
 rw [← h6] at hrow
 exact ints_rep hrow hM'
end Go.Proofs.YtbclmfjibpppfaaGreat

namespace Go.Proofs.YtbclmfjibpppfaaGreat
open Go Go.V Go.RowKit Go.Maps Go.Sort Go.Shelf
abbrev o77_0:List Ins:=[JS 4 (Jm 0),JS 5 (Jn 4),JS 6 (Jk .sub 5 1),JS 2 (Ji 0),JS 3 (Jm 6)]
abbrev o77_1:List Ins:=[JS 7 (Jm 2),JS 8 (Jm 3),JS 9 (Jb .lss 7 8)]
abbrev v77_2:VC:=(.cond (.t 9) .skip (.exit 0))
abbrev o77_3:List Ins:=[JF 14 (Jm 0),JF 15 (Jm 2),JF 16 (Jm 0),JF 17 (Jm 3),JF 18 (Jm 0),JF 19 (Jm 3),JF 20 (Ja 1 18 19),JF 21 (Jl 20),JF 22 (Jm 0),JF 23 (Jm 2),JF 24 (Ja 1 22 23),JF 25 (Jl 24),JF 26 (Ja 1 14 15),JE (Js 1 26 21),JS 27 (Ja 1 16 17),JN (Js 1 27 25)]
abbrev o77_4:List Ins:=[JS 10 (Jm 2),JS 11 (Jk .add 10 1),JS 12 (Jm 3),JS 13 (Jk .sub 12 1),JS 2 (Jm 11),JS 3 (Jm 13)]
abbrev v77_5:VC:=(.seq (.block 1 (.dops o77_3)) (.ops o77_4))
abbrev v77_6:VC:=(.seq (.seq (.ops o77_1) v77_2) v77_5)
-- K77_1: changed and kept: [2,3]
abbrev v77_7:VC:=(.loop v77_6)
abbrev v77_8:VC:=(.block 0 v77_7)
def ir77:FC:=⟨1,28,[],(.seq (.ops o77_0) v77_8)⟩
theorem c77:compM Tryz.prog [] 77 = some ir77:=by kernel_rfl
def renR:Ren:=⟨fun | 112 => 77 | n => n,fun | 28 => 26 | n => n,fun x => x⟩
theorem layR:Lays.n112 Tryz.prog renR:=by
 constructor <;> first | kernel_rfl | (intro w; kernel_rfl)
def cI (zs:List Int) (j:Nat):List AV:=(zs.map fun n => AV.c (.int .i64 n)) ++ List.replicate j .non
theorem cI_len (zs:List Int) (j:Nat):(cI zs j).length = zs.length + j:=by simp [cI]
theorem nons_rep {w:World} {M:Cells} {loc:Nat → Value}:∀ {j:Nat} {l:List Value},RepAs w M loc (List.replicate j .non) l ↔ l.length = j
 | 0,l => by simp [RepAs]
 | j + 1,l => by
  simp only [List.replicate_succ,RepAs,RepA]
  constructor
  ·rintro ⟨v,vs,rfl,_,h⟩
   rw [List.length_cons,nons_rep.1 h]
  ·intro h
   cases l with
   | nil => cases h
   | cons v vs => exact ⟨v,vs,rfl,trivial,nons_rep.2 (by simpa using h)⟩
theorem cI_rep {w:World} {M:Cells} {loc:Nat → Value} {zs:List Int} {j:Nat} {l:List Value}:RepAs w M loc (cI zs j) l ↔ ∃ rest,l = zs.map encZ ++ rest ∧ rest.length = j:=by
 constructor
 ·intro h
  obtain ⟨l1,l2,rfl,h1,h2⟩:=RepAs.split h
  rw [reps_ints] at h1
  exact ⟨l2,by rw [h1],nons_rep.1 h2⟩
 ·rintro ⟨rest,rfl,h⟩
  exact RepAs.append ((reps_ints _ _).2 rfl) (nons_rep.2 h)
theorem put_cells {zs ts:List Int} (h:ts.length = zs.length) (rest:List Value):(putCells encZ 0 ts.toArray (zs.map encZ ++ rest).toArray).toList = ts.map encZ ++ rest:=by
 apply List.ext_getElem?
 intro j
 by_cases hj:j < ts.length
 ·rw [List.getElem?_append_left (by simpa using hj),Array.getElem?_toList]
  have hj2:j < (zs.map encZ ++ rest).length:=by simp; omega
  simp only [putCells,Array.getElem?_mapIdx,List.getElem?_toArray,List.size_toArray,Nat.zero_le,true_and,Nat.zero_add,hj,if_true,List.getElem?_eq_getElem hj2,Option.map_some]
  simp [hj]
 ·rw [List.getElem?_append_right (by simpa using hj),Array.getElem?_toList]
  simp only [putCells,Array.getElem?_mapIdx,List.getElem?_toArray,List.size_toArray,Nat.zero_le,true_and,Nat.zero_add,hj,if_false,List.length_map]
  rw [List.getElem?_append_right (by simp; omega),List.length_map,h]
  cases rest[j - zs.length]? <;> rfl
theorem reverse66 (zs:List Int) (j cap:Nat):FSpecL Tryz.prog 77 [.vw 1 1000 0 zs.length cap] [.box (cI zs j)] [] (fun r l' => r = .tup [] ∧ l' = [.box (cI zs.reverse j)]):=by
 refine ⟨(body_call c77).1,Nat.le_of_ble_eq_true rfl,fun w M loc vs hM hLO hrep => ?_⟩
 have h0:ObOk Tryz.prog (fun _ => True) w (AddM M _ loc) loc (loc 1000) (.box (cI zs j)):=hLO.objs 1000
 obtain ⟨b,l,e,hb1,_,hb2,hb3⟩:=h0
 obtain ⟨rest,rfl,hj⟩:=cI_rep.1 hb3
 simp only [RepAs,RepA] at hrep
 obtain ⟨v,_,rfl,⟨b',o,hb1',rfl,ho,hle,hcm⟩,rfl⟩:=hrep
 obtain rfl:b' = b:=by rw [hb1] at hb1'; simpa using hb1'.symm
 by_cases hz:zs = []
 ·subst hz
  refine (Any.slices_Reverse_int_empty layR (some ⟨b',o,none⟩) cap w).mono ?_
  rintro e' w' ⟨rfl,rfl⟩
  exact ⟨_,.tup [],_,loc,rfl,⟨rfl,rfl⟩,rfl,⟨rfl,rfl,rfl,Nat.le_refl _,fun _ _ _ => rfl⟩,Keeps.refl _ _,hLO,fun n b h => .inl ⟨n,h⟩,fun n h => ⟨h,rfl⟩,by simp only [RepA]; exact ⟨[],rfl,by simp [RepAs]⟩⟩
 have hlen:0 < zs.length:=List.length_pos_iff.2 hz
 obtain rfl:o = 0:=ho (by omega)
 have hlt:=hb2.lt
 have hH:Holds encZ w b' 0 zs.toArray:=fun k hk => by
  have hk':k < zs.length:=by simpa using hk
  refine ⟨?_,?_⟩
  ·rw [cell_of_row w b' _ _ _ _ hb2.1]
   simp [hk',List.getElem?_append_left]
  ·rw [Nat.zero_add]; exact hb2.free (by simp; omega)
 refine (Any.slices_Reverse_int layR b' 0 cap zs w hH (by have:maxLen = 9223372036854775807:=rfl; omega)).mono ?_
 rintro e' w' ⟨rfl,n,hw'⟩
 obtain ⟨os,hos⟩ : ∃ os:Array Obj,os = #[]:=⟨_,rfl⟩
 have hgw:w' = grow (putRow encZ (Sort.ahead w n) b' 0 zs.reverse.toArray) os:=by rw [hw',hos]; unfold grow; rw [Array.append_empty]
 have hgb:=grownBy_sortedI (w:=w) (g:=b') (n:=n) (os:=os) zs.reverse.toArray
 have hhp:=heap_sortedI (n:=n) (os:=os) zs.reverse.toArray hb2.1
 rw [← hgw] at hgb hhp
 have hput:=put_cells (zs:=zs) (ts:=zs.reverse) (by simp) rest
 have hat:AtC w' b' (zs.reverse.map encZ ++ rest) e:=⟨by rw [hhp,← hput],by have:=hb2.2; simpa using this⟩
 have hblk:∀ k,k < w.heap.size → k ≠ b' → w'.heap[k]? = w.heap[k]?:=fun k hk hne => hgb.block k hk (fun h => hne (Option.some.inj h))
 have hmut:∀ o,AddM M (ownW [.box (cI zs j)] []) loc b' o:=fun o => .inr ⟨1000,by show (Ob.box _).mut (loc 1000) b' o; rw [hb1]; rfl⟩
 have hown:∀ n,n ≠ 1000 → ownW [.box (cI zs.reverse j)] [] n = ownW [.box (cI zs j)] [] n:=by
  intro n hn
  simp only [ownW,ownL]
  split
  ·rfl
  ·split
   ·rw [show n - 1000 = (n - 1001) + 1 by omega]; rfl
   ·rfl
 have hhas:∀ n b,(ownW [.box (cI zs.reverse j)] [] n).has (loc n) b ↔ (ownW [.box (cI zs j)] [] n).has (loc n) b:=by
  intro n b
  by_cases hn:n = 1000
  ·subst hn
   show (Ob.box _).has (loc 1000) b ↔ (Ob.box _).has (loc 1000) b
   rw [hb1]; exact Iff.rfl
  ·rw [hown n hn]
 have hmm:∀ b o,AddM M (ownW [.box (cI zs.reverse j)] []) loc b o → AddM M (ownW [.box (cI zs j)] []) loc b o:=by
  rintro b o (h | ⟨n,h⟩)
  ·exact .inl h
  ·refine .inr ⟨n,?_⟩
   by_cases hn:n = 1000
   ·subst hn
    have h':(Ob.box (cI zs.reverse j)).mut (loc 1000) b o:=h
    show (Ob.box _).mut (loc 1000) b o
    rw [hb1] at h' ⊢; exact h'
   ·rwa [hown n hn] at h
 have hk:Keeps w w' (AddM M (ownW [.box (cI zs j)] []) loc) (AddM M (ownW [.box (cI zs.reverse j)] []) loc) :=
  ⟨fun p hp hm => World.cell?_of_block (hblk _ (cell_lt hp) fun hpb => hm (hpb ▸ hmut p.off)),fun p hp hm h => hm (hmm _ _ h)⟩
 have hno:∀ n b,n ≠ 1000 → (ownW [.box (cI zs j)] [] n).has (loc n) b → b ≠ b':=fun n b hn h hb => by
  subst hb
  exact hLO.disj n 1000 b hn h (by show (Ob.box _).has (loc 1000) b; rw [hb1]; rfl)
 refine ⟨_,.tup [],_,loc,rfl,⟨rfl,rfl⟩,rfl,⟨hgb.os,hgb.tape,hgb.output,hgb.size,fun k hk hf => hblk k hk fun hkb => hf ⟨1000,by show (Ob.box _).has (loc 1000) k; rw [hb1]; exact hkb.symm⟩⟩,hk,⟨fun n => ?_,fun n m b hnm h1 h2 => hLO.disj n m b hnm ((hhas n b).1 h1) ((hhas m b).1 h2)⟩,fun n b h => ?_,fun n h => ?_,by simp only [RepA]; exact ⟨[],rfl,by simp [RepAs]⟩⟩
 ·by_cases hn:n = 1000
  ·subst hn
   exact ⟨b',_,e,hb1,trivial,hat,cI_rep.2 ⟨rest,rfl,hj⟩⟩
  ·rw [hown n hn]
   exact ObOk.keep' hk hgb.size (fun b hb => hblk b ((hLO.objs n).lt hb) (hno n b hn hb)) (hLO.objs n)
 ·have h2:(ownW [.box (cI zs j)] [] n).has (loc n) b:=(hhas n b).1 (by
   simp only [ownW]
   split
   ·rename_i h3
    simp only [ownL] at h
    rw [if_pos (by omega),show n - 1000 = (n - 1001) + 1 by omega] at h
    exact h.elim
   ·exact h)
  refine .inl ⟨n,?_⟩
  simp only [ownW] at h2
  split at h2
  ·exact h2.elim
  ·exact h2
 ·by_cases hn:n = 1000
  ·subst hn; exact ⟨rfl,rfl⟩
  ·rw [hown n hn]; exact ⟨h,rfl⟩
end Go.Proofs.YtbclmfjibpppfaaGreat
