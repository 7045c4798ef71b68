/-
  Contracts of the layer's functions, of the laws' helpers and of the law; conditions: as each theorem states.
-/
import Derived.Test.YtbclmfjibpppfaaGreatU6
import Derived.Test.YtbclmfjibpppfaaGreatChecked
import Derived.Test.YtbclmfjibpppfaaGreatV2
set_option linter.unusedVariables false
set_option linter.unusedSimpArgs false
namespace Go.Proofs.YtbclmfjibpppfaaGreat
open Go Go.V
abbrev o25_0:List Ins:=[JS 1 (.box 5 (.t 0)),JS 2 (Ji 0)]
abbrev o25_1:List Ins:=[JS 8 (Jf 0 1),JS 9 (Jl 8),JS 10 (Jn 9),JS 11 (Jk .geq 10 1),JS 12 (Jm 11),JG 13 (Jf 0 1) 12 true,JG 14 (Jl 13) 12 true,JG 15 (Jn 14) 12 true,JG 16 (Jk .leq 15 6) 12 true,JS 17 (Jp 12 16),JS 18 (Jm 17),JG 19 (Jf 1 1) 18 true,JG 20 (Jl 19) 18 true,JG 21 (Jk .geq 20 0) 18 true,JS 22 (Jp 18 21),JS 23 (Jm 22),JG 24 (Jf 1 1) 23 true,JG 25 (Jl 24) 23 true,JG 26 (Jf 0 1) 23 true,JG 27 (Jl 26) 23 true,JG 28 (Jn 27) 23 true,JG 29 (Jb .lss 25 28) 23 true,JS 30 (Jp 23 29),JS 31 (Jm 30),JG 32 (Jf 2 1) 31 true,JG 33 (Jl 32) 31 true,JG 34 (Jk .eql 33 1) 31 true,JG 35 (Jm 34) 31 true,JG 36 (Jf 2 1) 35 false,JG 37 (Jl 36) 35 false,JG 38 (Jk .eql 37 (-1)) 35 false,JG 39 (Jo 35 38) 31 true,JS 40 (Jp 31 39),JS 41 (Jm 40),JG 42 (Jf 3 1) 41 true,JG 43 (Jl 42) 41 true,JG 44 (Jk .geq 43 0) 41 true,JS 45 (Jp 41 44),JS 46 (Jm 45),JG 47 (Jf 3 1) 46 true,JG 48 (Jl 47) 46 true,JG 49 (Jk .leq 48 60) 46 true,JS 50 (Jp 46 49),JS 51 (Jm 50),JG 52 (Jf 4 1) 51 true,JG 53 (Jl 52) 51 true,JG 54 (Jn 53) 51 true,JG 55 (Jk .leq 54 12) 51 true,JS 56 (Jp 51 55),JS 3 (Jm 56)]
abbrev o25_2:List Ins:=[JS 57 (Jf 0 1),JS 58 (Jl 57),JS 59 (Jn 58),JS 60 (Ji 0)]
abbrev o25_3:List Ins:=[JS 61 (Jb .lss 60 59)]
abbrev o25_4:List Ins:=[JS 62 (Ja 2 58 60),JS 63 (JL 2 62),JS 5 (.alloc [Jz 0,Jz 0]),JN (Js 2 5 63)]
abbrev o25_5:List Ins:=[JS 64 (Jm 3),JS 65 (Jm 64),JG 66 (Jf 0 5) 65 true,JG 67 (Jl 66) 65 true,JG 68 (Jk .geq 67 1) 65 true,JS 69 (Jp 65 68),JS 70 (Jm 69),JG 71 (Jf 0 5) 70 true,JG 72 (Jl 71) 70 true,JG 73 (Jk .leq 72 999) 70 true,JS 74 (Jp 70 73),JS 75 (Jm 74),JG 76 (Jf 1 5) 75 true,JG 77 (Jl 76) 75 true,JG 78 (Jk .geq 77 1) 75 true,JS 79 (Jp 75 78),JS 80 (Jm 79),JG 81 (Jf 1 5) 80 true,JG 82 (Jl 81) 80 true,JG 83 (Jk .leq 82 999) 80 true,JS 84 (Jp 80 83),JS 3 (Jm 84)]
abbrev v25_6:VC:=(.seq (.ops o25_4) (.ops o25_5))
abbrev o25_7:List Ins:=[JS 85 (Jk .add 60 1),JS 60 (Jm 85)]
abbrev v25_8:VC:=(.seq (.block 1 v25_6) (.ops o25_7))
abbrev v25_9:VC:=(.seq (.cond (.t 61) .skip (.exit 0)) v25_8)
abbrev v25_10:VC:=(.seq (.ops o25_3) v25_9)
-- K25_1: changed and kept: [60,3]
abbrev K25_1:List Nat:=[1,58,59]
abbrev v25_11:VC:=(.loop v25_10)
abbrev v25_12:VC:=(.block 0 v25_11)
abbrev o25_13:List Ins:=[JS 86 (Jf 4 1),JS 87 (Jl 86),JS 88 (Jn 87),JS 89 (Ji 0)]
abbrev o25_14:List Ins:=[JS 90 (Jb .lss 89 88)]
abbrev o25_15:List Ins:=[JS 91 (Ja 2 87 89),JS 92 (JL 2 91),JS 7 (.alloc [Jz 0,Jz 0]),JN (Js 2 7 92)]
abbrev o25_16:List Ins:=[JS 93 (Jm 3),JS 94 (Jm 93),JG 95 (JL 5 1) 94 true,JG 96 (Jf 0 7) 94 true,JG 97 (Jl 96) 94 true,JG 98 (Jc 40 [.t 95,.t 97]) 94 true,JS 99 (Jp 94 98),JS 100 (Jm 99),JG 101 (Jf 1 7) 100 true,JG 102 (Jl 101) 100 true,JG 103 (Jc 41 [.t 102]) 100 true,JS 104 (Jp 100 103),JS 3 (Jm 104)]
abbrev v25_17:VC:=(.seq (.ops o25_15) (.ops o25_16))
abbrev o25_18:List Ins:=[JS 105 (Jk .add 89 1),JS 89 (Jm 105)]
abbrev v25_19:VC:=(.seq (.block 3 v25_17) (.ops o25_18))
abbrev v25_20:VC:=(.seq (.cond (.t 90) .skip (.exit 2)) v25_19)
abbrev v25_21:VC:=(.seq (.ops o25_14) v25_20)
-- K25_2: changed and kept: [89,3]
abbrev K25_2:List Nat:=[1,87,88]
abbrev v25_22:VC:=(.loop v25_21)
abbrev v25_23:VC:=(.block 2 v25_22)
abbrev o25_24:List Ins:=[JS 106 (Jm 3),JS 107 (.un .not (.t 106))]
abbrev o25_25:List Ins:=[JS 2 (Ji 20)]
abbrev v25_26:VC:=(.seq (.ops o25_25) .ret)
abbrev v25_27:VC:=(.cond (.t 107) v25_26 .skip)
abbrev o25_28:List Ins:=[JS 2 (Ji 0)]
abbrev v25_29:VC:=(.seq (.ops o25_28) .ret)
abbrev v25_30:VC:=(.seq (.seq (.ops o25_24) v25_27) v25_29)
abbrev v25_31:VC:=(.seq (.seq (.ops o25_13) v25_23) v25_30)
abbrev v25_32:VC:=(.seq (.seq (.ops o25_2) v25_12) v25_31)
abbrev v25_33:VC:=(.seq (.ops o25_1) v25_32)
def ir25:FC:=⟨1,108,[.t 2],(.seq (.ops o25_0) v25_33)⟩
abbrev o41_0:List Ins:=[JS 2 (JB false)]
abbrev o41_1:List Ins:=[JS 3 (Jm 0),JS 4 (Jk .geq 3 0),JS 5 (Jm 4),JG 6 (Jm 0) 5 true,JG 7 (Jk .leq 6 9999) 5 true,JS 8 (Jp 5 7),JS 2 (Jm 8)]
abbrev v41_2:VC:=(.seq (.ops o41_1) .ret)
def ir41:FC:=⟨1,9,[.t 2],(.seq (.ops o41_0) v41_2)⟩
abbrev o40_0:List Ins:=[JS 2 (.box 5 (.t 0)),JS 4 (JB false)]
abbrev o40_1:List Ins:=[JS 5 (Jm 1),JS 6 (Jk .geq 5 0),JS 7 (Jm 6),JG 8 (Jm 1) 7 true,JG 9 (Jf 0 2) 7 true,JG 10 (Jl 9) 7 true,JG 11 (Jn 10) 7 true,JG 12 (.bin .mul (.k (Jz 2)) (.t 11)) 7 true,JG 13 (Jb .lss 8 12) 7 true,JS 14 (Jp 7 13),JS 4 (Jm 14)]
abbrev v40_2:VC:=(.seq (.ops o40_1) .ret)
def ir40:FC:=⟨2,15,[.t 4],(.seq (.ops o40_0) v40_2)⟩
abbrev o6_0:List Ins:=[JS 1 (.box 5 (.t 0)),JS 2 (Ji 0)]
abbrev o6_1:List Ins:=[JS 4 (Jf 0 1),JS 5 (Jl 4),JS 6 (Jn 5),JS 7 (Jc 17 [.t 6,(.k (Jz 1)),(.k (Jz 6))]),JS 8 (.un .not (.t 7)),JS 9 (Jm 8),JG 10 (Jf 1 1) 9 false,JG 11 (Jl 10) 9 false,JG 12 (Jf 0 1) 9 false,JG 13 (Jl 12) 9 false,JG 14 (Jn 13) 9 false,JG 15 (Jk .sub 14 1) 9 false,JG 16 (Jc 17 [.t 11,(.k (Jz 0)),.t 15]) 9 false,JG 17 (.un .not (.t 16)) 9 false,JS 18 (Jo 9 17),JS 19 (Jm 18),JG 20 (Jf 2 1) 19 false,JG 21 (Jl 20) 19 false,JG 22 (Jk .neq 21 1) 19 false,JG 23 (Jm 22) 19 false,JG 24 (Jf 2 1) 23 true,JG 25 (Jl 24) 23 true,JG 26 (Jk .neq 25 (-1)) 23 true,JG 27 (Jp 23 26) 19 false,JS 28 (Jo 19 27),JS 29 (Jm 28),JG 30 (Jf 3 1) 29 false,JG 31 (Jl 30) 29 false,JG 32 (Jc 17 [.t 31,(.k (Jz 0)),(.k (Jz 60))]) 29 false,JG 33 (.un .not (.t 32)) 29 false,JS 34 (Jo 29 33)]
abbrev o6_2:List Ins:=[JS 2 (Ji 20)]
abbrev v6_3:VC:=(.seq (.ops o6_2) .ret)
abbrev v6_4:VC:=(.cond (.t 34) v6_3 .skip)
abbrev o6_5:List Ins:=[JS 3 (Ji 0)]
abbrev o6_6:List Ins:=[JS 35 (Jm 3),JS 36 (Jf 0 1),JS 37 (Jl 36),JS 38 (Jn 37),JS 39 (Jb .lss 35 38)]
abbrev v6_7:VC:=(.cond (.t 39) .skip (.exit 0))
abbrev o6_8:List Ins:=[JS 42 (Jf 0 1),JS 43 (Jl 42),JS 44 (Jm 3),JS 45 (Ja 2 43 44),JS 46 (Jf 0 45),JS 47 (Jl 46),JS 48 (Jc 17 [.t 47,(.k (Jz 1)),(.k (Jz 999))]),JS 49 (.un .not (.t 48)),JS 50 (Jm 49),JG 51 (Jf 0 1) 50 false,JG 52 (Jl 51) 50 false,JG 53 (Jm 3) 50 false,JG 54 (Ja 2 52 53) 50 false,JG 55 (Jf 1 54) 50 false,JG 56 (Jl 55) 50 false,JG 57 (Jc 17 [.t 56,(.k (Jz 1)),(.k (Jz 999))]) 50 false,JG 58 (.un .not (.t 57)) 50 false,JS 59 (Jo 50 58)]
abbrev o6_9:List Ins:=[JS 2 (Ji 20)]
abbrev v6_10:VC:=(.seq (.ops o6_9) .ret)
abbrev v6_11:VC:=(.cond (.t 59) v6_10 .skip)
abbrev v6_12:VC:=(.seq (.ops o6_8) v6_11)
abbrev o6_13:List Ins:=[JS 40 (Jm 3),JS 41 (Jk .add 40 1),JS 3 (Jm 41)]
abbrev v6_14:VC:=(.seq (.block 1 v6_12) (.ops o6_13))
abbrev v6_15:VC:=(.seq (.seq (.ops o6_6) v6_7) v6_14)
-- K6_1: changed and kept: [3]
abbrev K6_1:List Nat:=[1]
abbrev v6_16:VC:=(.loop v6_15)
abbrev v6_17:VC:=(.block 0 v6_16)
abbrev o6_18:List Ins:=[JS 60 (JL 5 1),JS 61 (Jc 18 [.t 60,(.k (Jz 12))]),JS 2 (Jm 61)]
abbrev v6_19:VC:=(.seq (.ops o6_18) .ret)
abbrev v6_20:VC:=(.seq (.seq (.ops o6_5) v6_17) v6_19)
abbrev v6_21:VC:=(.seq (.seq (.ops o6_1) v6_4) v6_20)
def ir6:FC:=⟨1,62,[.t 2],(.seq (.ops o6_0) v6_21)⟩
abbrev o18_0:List Ins:=[JS 2 (.box 5 (.t 0)),JS 4 (Ji 0)]
abbrev o18_1:List Ins:=[JS 6 (Jf 4 2),JS 7 (Jl 6),JS 8 (Jn 7),JS 9 (Jm 1),JS 10 (Jb .gtr 8 9)]
abbrev o18_2:List Ins:=[JS 4 (Ji 20)]
abbrev v18_3:VC:=(.seq (.ops o18_2) .ret)
abbrev v18_4:VC:=(.cond (.t 10) v18_3 .skip)
abbrev o18_5:List Ins:=[JS 5 (Ji 0)]
abbrev o18_6:List Ins:=[JS 11 (Jm 5),JS 12 (Jf 4 2),JS 13 (Jl 12),JS 14 (Jn 13),JS 15 (Jb .lss 11 14)]
abbrev v18_7:VC:=(.cond (.t 15) .skip (.exit 0))
abbrev o18_8:List Ins:=[JF 18 (JL 5 2),JF 19 (Jf 4 2),JF 20 (Jl 19),JF 21 (Jm 5),JF 22 (Ja 2 20 21),JF 23 (Jf 0 22),JF 24 (Jl 23),JS 25 (Jc 33 [.t 18,.t 24]),JS 26 (.un .not (.t 25)),JS 27 (Jm 26),JH 28 (Jf 4 2) 27 false,JH 29 (Jl 28) 27 false,JH 30 (Jm 5) 27 false,JG 31 (Ja 2 29 30) 27 false,JG 32 (Jf 1 31) 27 false,JG 33 (Jl 32) 27 false,JG 34 (Jc 34 [.t 33]) 27 false,JG 35 (.un .not (.t 34)) 27 false,JS 36 (Jo 27 35)]
abbrev o18_9:List Ins:=[JS 4 (Ji 20)]
abbrev v18_10:VC:=(.seq (.ops o18_9) .ret)
abbrev v18_11:VC:=(.cond (.t 36) v18_10 .skip)
abbrev v18_12:VC:=(.seq (.dops o18_8) v18_11)
abbrev o18_13:List Ins:=[JS 16 (Jm 5),JS 17 (Jk .add 16 1),JS 5 (Jm 17)]
abbrev v18_14:VC:=(.seq (.block 1 v18_12) (.ops o18_13))
abbrev v18_15:VC:=(.seq (.seq (.ops o18_6) v18_7) v18_14)
-- K18_1: changed and kept: [5]
abbrev K18_1:List Nat:=[2]
abbrev v18_16:VC:=(.loop v18_15)
abbrev v18_17:VC:=(.block 0 v18_16)
abbrev o18_18:List Ins:=[JS 4 (Ji 0)]
abbrev v18_19:VC:=(.seq (.ops o18_18) .ret)
abbrev v18_20:VC:=(.seq (.seq (.ops o18_5) v18_17) v18_19)
abbrev v18_21:VC:=(.seq (.seq (.ops o18_1) v18_4) v18_20)
def ir18:FC:=⟨2,37,[.t 4],(.seq (.ops o18_0) v18_21)⟩
abbrev o17_0:List Ins:=[JS 6 (JB false)]
abbrev o17_1:List Ins:=[JS 7 (Jm 1),JS 8 (Jm 0),JS 9 (Jb .leq 7 8),JS 10 (Jm 9),JG 11 (Jm 0) 10 true,JG 12 (Jm 2) 10 true,JG 13 (Jb .leq 11 12) 10 true,JS 14 (Jp 10 13),JS 6 (Jm 14)]
abbrev v17_2:VC:=(.seq (.ops o17_1) .ret)
def ir17:FC:=⟨3,15,[.t 6],(.seq (.ops o17_0) v17_2)⟩
abbrev o33_0:List Ins:=[JS 2 (.box 5 (.t 0)),JS 4 (JB false)]
abbrev o33_1:List Ins:=[JS 5 (Jm 1),JS 6 (Jf 0 2),JS 7 (Jl 6),JS 8 (Jn 7),JS 9 (.bin .mul (.k (Jz 2)) (.t 8)),JS 10 (Jk .sub 9 1),JS 11 (Jc 17 [.t 5,(.k (Jz 0)),.t 10]),JS 4 (Jm 11)]
abbrev v33_2:VC:=(.seq (.ops o33_1) .ret)
def ir33:FC:=⟨2,12,[.t 4],(.seq (.ops o33_0) v33_2)⟩
abbrev o34_0:List Ins:=[JS 2 (JB false)]
abbrev o34_1:List Ins:=[JS 3 (Jm 0),JS 4 (Jc 17 [.t 3,(.k (Jz 0)),(.k (Jz 9999))]),JS 2 (Jm 4)]
abbrev v34_2:VC:=(.seq (.ops o34_1) .ret)
def ir34:FC:=⟨1,5,[.t 2],(.seq (.ops o34_0) v34_2)⟩
abbrev o4_0:List Ins:=[JS 1 (.box 5 (.t 0)),JS 2 (JB false)]
abbrev o4_1:List Ins:=[JS 3 (Jf 0 1),JS 4 (Jl 3),JS 5 (Jn 4),JS 6 (Jk .gtr 5 40),JS 7 (Jm 6),JG 8 (Jf 4 1) 7 false,JG 9 (Jl 8) 7 false,JG 10 (Jn 9) 7 false,JG 11 (Jk .gtr 10 40) 7 false,JS 12 (Jo 7 11),JS 2 (Jm 12)]
abbrev v4_2:VC:=(.seq (.ops o4_1) .ret)
def ir4:FC:=⟨1,13,[.t 2],(.seq (.ops o4_0) v4_2)⟩
theorem c25:compM Tryz.prog [] 25 = some ir25:=by kernel_rfl
theorem c41:compM Tryz.prog [] 41 = some ir41:=by kernel_rfl
theorem c40:compM Tryz.prog [] 40 = some ir40:=by kernel_rfl
theorem c6:compM Tryz.prog [] 6 = some ir6:=by kernel_rfl
theorem c18:compM Tryz.prog [] 18 = some ir18:=by kernel_rfl
theorem c17:compM Tryz.prog [] 17 = some ir17:=by kernel_rfl
theorem c33:compM Tryz.prog [] 33 = some ir33:=by kernel_rfl
theorem c34:compM Tryz.prog [] 34 = some ir34:=by kernel_rfl
theorem c4:compM Tryz.prog [] 4 = some ir4:=by kernel_rfl
attribute [local go_sem] Nat.reduceEqDiff Nat.reduceAdd Nat.reduceMul reduceIte Nat.reduceLeDiff Nat.reduceLT Nat.reduceBEq reduceCtorEq
theorem wi51 (a b c:Int):FSpec Tryz.prog 17 [iv a,iv b,iv c] (.c (.bool (within a b c))):=by
 refine FSpec_of c17 (Nat.le_refl _) (by decide) fun C hP hN hC hL => ?_; rw [init_st]
 simp only [ir17]
 (repeat ((first | refine Va ?_ | refine Vb ?_ | refine Vc ?_ | refine Vd ?_ | refine Ve ?_ | refine Vf ?_); (try simp only [go_sem,hP]); (repeat refine qJ ?_)))
 (refine WV_ret ?_; simp only [thenQ,inQ,RetQ,RetOk,resAll,resA]; simp only [go_sem,tupA,AV.port,AV.portL,exists_eq_left']; (first | exact AVle.of rfl | refine AVle.of ?_ | skip))
theorem istime53 (a:Int):FSpec Tryz.prog 41 [iv a] (.c (.bool (isTime a))):=by
 refine FSpec_of c41 (Nat.le_refl _) (by decide) fun C hP hN hC hL => ?_; rw [init_st]
 simp only [ir41]
 (repeat ((first | refine Va ?_ | refine Vb ?_ | refine Vc ?_ | refine Vd ?_ | refine Ve ?_ | refine Vf ?_); (try simp only [go_sem,hP]); (repeat refine qJ ?_)))
 (refine WV_ret ?_; simp only [thenQ,inQ,RetQ,RetOk,resAll,resA]; simp only [go_sem,tupA,AV.port,AV.portL,exists_eq_left']; (first | exact AVle.of rfl | refine AVle.of ?_ | skip))
theorem ristime18 (a:Int):FSpec Tryz.prog 34 [iv a] (.c (.bool (isTime a))):=by
 refine FSpec_of c34 (Nat.le_refl _) (by decide) fun C hP hN hC hL => ?_; rw [init_st]
 simp only [ir34]
 (repeat ((first | refine Va ?_ | refine Vb ?_ | refine Vc ?_ | refine Vd ?_ | refine Ve ?_ | refine Vf ?_); (try simp only [go_sem,hP]); (repeat refine qJ ?_)))
 (refine AS_pu (wi51 _ _ _) ?_; simp only [go_sem,hP]; (repeat refine qJ ?_); (repeat ((first | refine Va ?_ | refine Vb ?_ | refine Vc ?_ | refine Vd ?_ | refine Ve ?_ | refine Vf ?_); (try simp only [go_sem,hP]); (repeat refine qJ ?_))))
 (refine WV_ret ?_; simp only [thenQ,inQ,RetQ,RetOk,resAll,resA]; simp only [go_sem,tupA,AV.port,AV.portL,exists_eq_left']; (first | exact AVle.of rfl | refine AVle.of ?_ | skip))
theorem side_lt (n:Nat) (s:Int):(decide (0 ≤ s) && decide (s < 2 * (n:Int))) = isSide n s:=by
 unfold isSide within
 rw [Bool.eq_iff_iff]; simp; omega
theorem isside55 (t:Tray) (s:Int) (hn:t.n ≤ 1000):FSpec Tryz.prog 40 [t.av,iv s] (.c (.bool (isSide t.n s))):=by
 refine FSpec_of c40 (Nat.le_refl _) (by decide) fun C hP hN hC hL => ?_; rw [init_st]
 simp only [ir40,Tray.av]
 have hn':t.recs.length = t.n:=rfl
 have w1:=w64 (n:=2 * (t.n:Int)) (by omega) (by omega)
 (repeat ((first | refine Va ?_ | refine Vb ?_ | refine Vc ?_ | refine Vd ?_ | refine Ve ?_ | refine Vf ?_); (try simp only [go_sem,hP,recsC,List.length_map,hn',w1]); (repeat refine qJ ?_)))
 (refine WV_ret ?_; simp only [thenQ,inQ,RetQ,RetOk,resAll,resA]; simp only [go_sem,tupA,AV.port,AV.portL,exists_eq_left']; (first | exact AVle.of rfl | refine AVle.of ?_ | skip))
 exact congrArg (fun b => AV.c (CD.bool b)) (side_lt _ _)
theorem risside17 (t:Tray) (s:Int) (hn:t.n ≤ 1000):FSpec Tryz.prog 33 [t.av,iv s] (.c (.bool (isSide t.n s))):=by
 refine FSpec_of c33 (Nat.le_refl _) (by decide) fun C hP hN hC hL => ?_; rw [init_st]
 simp only [ir33,Tray.av]
 have hn':t.recs.length = t.n:=rfl
 have w1:=w64 (n:=2 * (t.n:Int)) (by omega) (by omega)
 have w2:=w64 (n:=2 * (t.n:Int) - 1) (by omega) (by omega)
 (repeat ((first | refine Va ?_ | refine Vb ?_ | refine Vc ?_ | refine Vd ?_ | refine Ve ?_ | refine Vf ?_); (try simp only [go_sem,hP,recsC,List.length_map,hn',w1,w2]); (repeat refine qJ ?_)))
 (refine AS_pu (wi51 _ _ _) ?_; simp only [go_sem,hP]; (repeat refine qJ ?_); (repeat ((first | refine Va ?_ | refine Vb ?_ | refine Vc ?_ | refine Vd ?_ | refine Ve ?_ | refine Vf ?_); (try simp only [go_sem,hP]); (repeat refine qJ ?_))))
 (refine WV_ret ?_; simp only [thenQ,inQ,RetQ,RetOk,resAll,resA]; simp only [go_sem,tupA,AV.port,AV.portL,exists_eq_left']; (first | exact AVle.of rfl | refine AVle.of ?_ | skip))
def farB (t:Tray):Bool:=decide (40 < t.n) || decide (40 < t.pres.length)
theorem far28 (t:Tray):FSpec Tryz.prog 4 [t.av] (.c (.bool (farB t))):=by
 refine FSpec_of c4 (Nat.le_refl _) (by decide) fun C hP hN hC hL => ?_; rw [init_st]
 simp only [ir4,Tray.av]
 (repeat ((first | refine Va ?_ | refine Vb ?_ | refine Vc ?_ | refine Vd ?_ | refine Ve ?_ | refine Vf ?_); (try simp only [go_sem,hP,recsC,prsC,List.length_map]); (repeat refine qJ ?_)))
 (refine WV_ret ?_; simp only [thenQ,inQ,RetQ,RetOk,resAll,resA]; simp only [go_sem,tupA,AV.port,AV.portL,exists_eq_left']; (first | exact AVle.of rfl | refine AVle.of ?_ | skip))
 have e1:decide ((40:Int) < (t.recs.length:Int)) = decide (40 < t.recs.length):=by simp; omega
 have e2:decide ((40:Int) < (t.pres.length:Int)) = decide (40 < t.pres.length):=by simp; omega
 rw [e1,e2]
 rfl
set_option maxRecDepth 20000 in
set_option maxHeartbeats 8000000 in
theorem check40 (t:Tray):FSpec Tryz.prog 25 [t.av] (iv (if t.ok then 0 else 20)):=by
 refine FSpec_of c25 (Nat.le_refl _) (by decide) fun C hP hN hC hL => ?_; rw [init_st]
 obtain ⟨h1,h2⟩:=Tray.lens hL
 have hn':t.recs.length = t.n:=rfl
 simp only [ir25,Tray.av,recsC,prsC]
 (repeat ((first | refine Va ?_ | refine Vb ?_ | refine Vc ?_ | refine Vd ?_ | refine Ve ?_ | refine Vf ?_); (try simp only [go_sem,hP,List.length_map,hn']); (repeat refine qJ ?_)))
 have hh:(decide (1 ≤ (t.n:Int)) && (decide ((t.n:Int) ≤ 6) && (decide (0 ≤ t.at_) && (decide (t.at_ < (t.n:Int)) && ((t.way == 1 || t.way == -1) && (decide (0 ≤ t.step) && (decide (t.step ≤ 60) && decide ((t.pres.length:Int) ≤ 12)))))))) = (t.okHead && decide (t.pres.length ≤ 12)):=by
  unfold Tray.okHead within
  rw [Bool.eq_iff_iff]; simp; omega
 have hh2:(((((((decide (1 ≤ (t.n:Int)) && decide ((t.n:Int) ≤ 6)) && decide (0 ≤ t.at_)) && decide (t.at_ < (t.n:Int))) && (t.way == 1 || t.way == -1)) && decide (0 ≤ t.step)) && decide (t.step ≤ 60)) && decide ((t.pres.length:Int) ≤ 12)) = (t.okHead && decide (t.pres.length ≤ 12)):=by
  rw [← hh]; simp only [Bool.and_assoc]
 rw [hh2]
 generalize hg0:(t.okHead && decide (t.pres.length ≤ 12)) = g0
 refine WV_loopK K25_1 [5] (fun k:Nat => k ≤ t.n) (fun k => t.n - k) (fun k => [(3,.c (.bool (g0 && (t.recs.take k).all okRec))),(60,iv k)]) (fun _ => []) 0 (Nat.zero_le _) ?_ ?_
 ·exact Sub_au
 ·intro k hk
  simp only [go_sem]
  (repeat ((first | refine Va ?_ | refine Vb ?_ | refine Vc ?_ | refine Vd ?_ | refine Ve ?_ | refine Vf ?_); (try simp only [go_sem,hP]); (repeat refine qJ ?_)))
  (refine WV_cond rfl (fun h => ?_) (fun h => ?_))
  ·have h:k < t.recs.length:=by simp at h; omega
   have hkl:=h
   have hI:(k:Int) < (t.n:Int):=by omega
   have hw2:=w64 (n:=(k:Int) + 1) (by omega) (by omega)
   (repeat ((first | refine Va ?_ | refine Vb ?_ | refine Vc ?_ | refine Vd ?_ | refine Ve ?_ | refine Vf ?_); (try simp only [go_sem,hP,Int.toNat_natCast,map_getD h,List.length_map,hn',hI,Int.natCast_nonneg,Rec.cds,hw2]); (repeat refine qJ ?_)))
   refine ⟨k + 1,by omega,by omega,?_⟩
   (refine Sub_of (by simp only [go_sem]; ((repeat' (first | exact EnvLe_e0 _ _ | refine EnvLe_upd ?_ ?_)) <;> ((try simp only [upd_app,e0_app,o0_app,Nat.reduceEqDiff,reduceIte]); first | exact AWk.refl _ _ | exact AWk.int (by omega) | exact AWk.int (by rw [w64 (by omega) (by omega)]; omega) | exact AWk.grow rfl | exact AWk.nil _ | exact AWk.of (by (rw [take_all okRec h]; simp [Bool.and_assoc,okRec,within]))))) (by simp only [go_sem]; exact ObjLe_au))
  ·have h:k = t.recs.length:=by simp at h; omega
   subst h
   rw [List.take_length]
   generalize hg1:(g0 && t.recs.all okRec) = g1
   (repeat ((first | refine Va ?_ | refine Vb ?_ | refine Vc ?_ | refine Vd ?_ | refine Ve ?_ | refine Vf ?_); (try simp only [go_sem,hP,List.length_map]); (repeat refine qJ ?_)))
   refine WV_loopK K25_2 [7] (fun k:Nat => k ≤ t.pres.length) (fun k => t.pres.length - k) (fun k => [(3,.c (.bool (g1 && (t.pres.take k).all (okPr t.n)))),(89,iv k)]) (fun _ => []) 0 (Nat.zero_le _) ?_ ?_
   ·exact Sub_au
   ·intro k hk
    simp only [go_sem]
    (repeat ((first | refine Va ?_ | refine Vb ?_ | refine Vc ?_ | refine Vd ?_ | refine Ve ?_ | refine Vf ?_); (try simp only [go_sem,hP,List.length_map]); (repeat refine qJ ?_)))
    (refine WV_cond rfl (fun h => ?_) (fun h => ?_))
    ·have h:k < t.pres.length:=by simpa using h
     have hI:(k:Int) < (t.pres.length:Int):=by omega
     have hw2:=w64 (n:=(k:Int) + 1) (by omega) (by omega)
     (repeat ((first | refine Va ?_ | refine Vb ?_ | refine Vc ?_ | refine Vd ?_ | refine Ve ?_ | refine Vf ?_); (try simp only [go_sem,hP,Int.toNat_natCast,map_getD h,List.length_map,hI,Int.natCast_nonneg,Pr.cds]); (repeat refine qJ ?_)))
     refine AG_pure (fun hG => isside55 t t.pres[k].side ?_) rfl (fun hG => by simp only [go_sem,hG]) rfl rfl rfl ?_
     ·simp only [Bool.and_eq_true] at hG
      have:g0 = true:=by
       have:=hG.1
       rw [← hg1] at this
       simp only [Bool.and_eq_true] at this
       exact this.1
      rw [← hg0] at this
      simp only [Bool.and_eq_true,decide_eq_true_eq,Tray.okHead,within] at this
      omega
     simp only [go_sem,hP,Tray.av,recsC,prsC]
     (repeat ((first | refine Va ?_ | refine Vb ?_ | refine Vc ?_ | refine Vd ?_ | refine Ve ?_ | refine Vf ?_); (try simp only [go_sem,hP]); (repeat refine qJ ?_)))
     (refine AG_pu (fun hG => istime53 _) ?_; simp only [go_sem,hP,hw2]; (repeat refine qJ ?_); (repeat ((first | refine Va ?_ | refine Vb ?_ | refine Vc ?_ | refine Vd ?_ | refine Ve ?_ | refine Vf ?_); (try simp only [go_sem,hP,hw2]); (repeat refine qJ ?_))))
     refine ⟨k + 1,by omega,by omega,?_⟩
     (refine Sub_of (by simp only [go_sem]; ((repeat' (first | exact EnvLe_e0 _ _ | refine EnvLe_upd ?_ ?_)) <;> ((try simp only [upd_app,e0_app,o0_app,Nat.reduceEqDiff,reduceIte]); first | exact AWk.refl _ _ | exact AWk.int (by omega) | exact AWk.int (by rw [w64 (by omega) (by omega)]; omega) | exact AWk.grow rfl | exact AWk.nil _ | exact AWk.of (by (rw [take_all (okPr t.n) h]; simp [Bool.and_assoc,okPr]))))) (by simp only [go_sem]; exact ObjLe_au))
    ·have h:k = t.pres.length:=by simp at h; omega
     subst h
     rw [List.take_length]
     have hok:(g1 && t.pres.all (okPr t.n)) = t.ok:=by
      rw [← hg1,← hg0]; unfold Tray.ok
      cases t.okHead <;> cases t.recs.all okRec <;> cases decide (t.pres.length ≤ 12) <;> rfl
     rw [hok]
     (repeat ((first | refine Va ?_ | refine Vb ?_ | refine Vc ?_ | refine Vd ?_ | refine Ve ?_ | refine Vf ?_); (try simp only [go_sem,hP]); (repeat refine qJ ?_)))
     cases t.ok
     ·(refine WV_cond rfl (fun h => ?_) (fun h => ?_))
      ·(repeat ((first | refine Va ?_ | refine Vb ?_ | refine Vc ?_ | refine Vd ?_ | refine Ve ?_ | refine Vf ?_); (try simp only [go_sem,hP]); (repeat refine qJ ?_)))
       (refine WV_ret ?_; simp only [thenQ,inQ,RetQ,RetOk,resAll,resA]; simp only [go_sem,tupA,AV.port,AV.portL,exists_eq_left']; (first | exact AVle.of rfl | refine AVle.of ?_ | skip))
      ·simp at h
     ·(refine WV_cond rfl (fun h => ?_) (fun h => ?_))
      ·simp at h
      ·(repeat ((first | refine Va ?_ | refine Vb ?_ | refine Vc ?_ | refine Vd ?_ | refine Ve ?_ | refine Vf ?_); (try simp only [go_sem,hP]); (repeat refine qJ ?_)))
       (refine WV_ret ?_; simp only [thenQ,inQ,RetQ,RetOk,resAll,resA]; simp only [go_sem,tupA,AV.port,AV.portL,exists_eq_left']; (first | exact AVle.of rfl | refine AVle.of ?_ | skip))
def presB (t:Tray) (most:Int):Bool:=decide ((t.pres.length:Int) ≤ most) && t.pres.all (okPr t.n)
set_option maxRecDepth 20000 in
set_option maxHeartbeats 8000000 in
theorem presses64 (t:Tray) (most:Int) (hn:t.n ≤ 1000):FSpec Tryz.prog 18 [t.av,iv most] (iv (if presB t most then 0 else 20)):=by
 refine FSpec_of c18 (Nat.le_refl _) (by decide) fun C hP hN hC hL => ?_; rw [init_st]
 obtain ⟨h1,h2⟩:=Tray.lens hL
 simp only [ir18,Tray.av]
 (repeat ((first | refine Va ?_ | refine Vb ?_ | refine Vc ?_ | refine Vd ?_ | refine Ve ?_ | refine Vf ?_); (try simp only [go_sem,hP,prsC,List.length_map]); (repeat refine qJ ?_)))
 (refine WV_cond rfl (fun h => ?_) (fun h => ?_))
 ·have h:most < (t.pres.length:Int):=by simpa using h
  (repeat ((first | refine Va ?_ | refine Vb ?_ | refine Vc ?_ | refine Vd ?_ | refine Ve ?_ | refine Vf ?_); (try simp only [go_sem,hP]); (repeat refine qJ ?_)))
  (refine WV_ret ?_; simp only [thenQ,inQ,RetQ,RetOk,resAll,resA]; simp only [go_sem,tupA,AV.port,AV.portL,exists_eq_left']; (first | exact AVle.of rfl | refine AVle.of ?_ | skip))
  have:presB t most = false:=by simp [presB]; intro h'; omega
  rw [this]; rfl
 have hm:(t.pres.length:Int) ≤ most:=by simp at h; omega
 clear h
 have hpb:presB t most = t.pres.all (okPr t.n):=by unfold presB; rw [decide_eq_true hm]; rfl
 rw [hpb]
 (repeat ((first | refine Va ?_ | refine Vb ?_ | refine Vc ?_ | refine Vd ?_ | refine Ve ?_ | refine Vf ?_); (try simp only [go_sem,hP]); (repeat refine qJ ?_)))
 (refine WV_loopK K18_1 [] (fun k:Nat => k ≤ t.pres.length ∧ (t.pres.take k).all (okPr t.n) = true) (fun k => t.pres.length - k) (fun k => [(5,iv k)]) (fun _ => []) 0 ⟨Nat.zero_le _,by simp⟩ ?_ ?_)
 ·exact Sub_au
 ·intro k ⟨hk,ha⟩
  simp only [go_sem]
  (repeat ((first | refine Va ?_ | refine Vb ?_ | refine Vc ?_ | refine Vd ?_ | refine Ve ?_ | refine Vf ?_); (try simp only [go_sem,hP,prsC,List.length_map]); (repeat refine qJ ?_)))
  (refine WV_cond rfl (fun h => ?_) (fun h => ?_))
  ·have h:k < t.pres.length:=by simpa using h
   have hkl:=h
   have hI:(k:Int) < (t.pres.length:Int):=by omega
   have hw2:=w64 (n:=(k:Int) + 1) (by omega) (by omega)
   (repeat ((first | refine Va ?_ | refine Vb ?_ | refine Vc ?_ | refine Vd ?_ | refine Ve ?_ | refine Vf ?_); (try simp only [go_sem,hP,prsC,map_getD h,List.length_map,hI,Int.natCast_nonneg,Pr.cds]); (repeat refine qJ ?_)))
   (refine AS_pu (risside17 t _ hn) ?_; simp only [go_sem,hP,Tray.av,prsC,map_getD h,List.length_map,hI,Int.natCast_nonneg,Pr.cds]; (repeat refine qJ ?_); (repeat ((first | refine Va ?_ | refine Vb ?_ | refine Vc ?_ | refine Vd ?_ | refine Ve ?_ | refine Vf ?_); (try simp only [go_sem,hP,Tray.av,prsC,map_getD h,List.length_map,hI,Int.natCast_nonneg,Pr.cds]); (repeat refine qJ ?_))))
   (refine AG_pu (fun hG => ristime18 _) ?_; simp only [go_sem,hP]; (repeat refine qJ ?_); (repeat ((first | refine Va ?_ | refine Vb ?_ | refine Vc ?_ | refine Vd ?_ | refine Ve ?_ | refine Vf ?_); (try simp only [go_sem,hP]); (repeat refine qJ ?_))))
   have hb:(!isSide t.n t.pres[k].side || !isTime t.pres[k].time) = !okPr t.n t.pres[k]:=by unfold okPr; cases isSide t.n t.pres[k].side <;> cases isTime t.pres[k].time <;> rfl
   rw [hb]
   cases hbb:okPr t.n t.pres[k]
   ·(refine WV_cond rfl (fun h => ?_) (fun h => ?_))
    ·(repeat ((first | refine Va ?_ | refine Vb ?_ | refine Vc ?_ | refine Vd ?_ | refine Ve ?_ | refine Vf ?_); (try simp only [go_sem,hP]); (repeat refine qJ ?_)))
     (refine WV_ret ?_; simp only [thenQ,inQ,RetQ,RetOk,resAll,resA]; simp only [go_sem,tupA,AV.port,AV.portL,exists_eq_left']; (first | exact AVle.of rfl | refine AVle.of ?_ | skip))
     have:t.pres.all (okPr t.n) = false:=List.all_eq_false.2 ⟨_,List.getElem_mem hkl,by simp [hbb]⟩
     rw [this]; rfl
    ·simp at h
   ·(refine WV_cond rfl (fun h => ?_) (fun h => ?_))
    ·simp at h
    ·(repeat ((first | refine Va ?_ | refine Vb ?_ | refine Vc ?_ | refine Vd ?_ | refine Ve ?_ | refine Vf ?_); (try simp only [go_sem,hP,hw2]); (repeat refine qJ ?_)))
     refine ⟨k + 1,⟨by omega,by rw [take_all (okPr t.n) (by assumption),ha,hbb]; rfl⟩,by omega,?_⟩
     exact Sub_au
  ·have h:k = t.pres.length:=by simp at h; omega
   subst h
   rw [List.take_length] at ha
   (repeat ((first | refine Va ?_ | refine Vb ?_ | refine Vc ?_ | refine Vd ?_ | refine Ve ?_ | refine Vf ?_); (try simp only [go_sem,hP]); (repeat refine qJ ?_)))
   (refine WV_ret ?_; simp only [thenQ,inQ,RetQ,RetOk,resAll,resA]; simp only [go_sem,tupA,AV.port,AV.portL,exists_eq_left']; (first | exact AVle.of rfl | refine AVle.of ?_ | skip))
   rw [ha]; rfl
set_option maxRecDepth 20000 in
set_option maxHeartbeats 8000000 in
theorem rcheck41 (t:Tray):FSpec Tryz.prog 6 [t.av] (iv (if t.ok then 0 else 20)):=by
 refine FSpec_of c6 (Nat.le_refl _) (by decide) fun C hP hN hC hL => ?_; rw [init_st]
 obtain ⟨h1,h2⟩:=Tray.lens hL
 have hn':t.recs.length = t.n:=rfl
 simp only [ir6,Tray.av]
 have w1:=w64 (n:=(t.n:Int) - 1) (by omega) (by omega)
 (repeat ((first | refine Va ?_ | refine Vb ?_ | refine Vc ?_ | refine Vd ?_ | refine Ve ?_ | refine Vf ?_); (try simp only [go_sem,hP,recsC,List.length_map,hn']); (repeat refine qJ ?_)))
 (refine AS_pu (wi51 _ _ _) ?_; simp only [go_sem,hP,w1,recsC,List.length_map,hn']; (repeat refine qJ ?_); (repeat ((first | refine Va ?_ | refine Vb ?_ | refine Vc ?_ | refine Vd ?_ | refine Ve ?_ | refine Vf ?_); (try simp only [go_sem,hP,w1,recsC,List.length_map,hn']); (repeat refine qJ ?_))))
 (refine AG_pu (fun hG => wi51 _ _ _) ?_; simp only [go_sem,hP]; (repeat refine qJ ?_); (repeat ((first | refine Va ?_ | refine Vb ?_ | refine Vc ?_ | refine Vd ?_ | refine Ve ?_ | refine Vf ?_); (try simp only [go_sem,hP]); (repeat refine qJ ?_))))
 (refine AG_pu (fun hG => wi51 _ _ _) ?_; simp only [go_sem,hP]; (repeat refine qJ ?_); (repeat ((first | refine Va ?_ | refine Vb ?_ | refine Vc ?_ | refine Vd ?_ | refine Ve ?_ | refine Vf ?_); (try simp only [go_sem,hP]); (repeat refine qJ ?_))))
 have hh:(!within (t.n:Int) 1 6 || (!within t.at_ 0 ((t.n:Int) - 1) || ((t.way != 1 && t.way != -1) || !within t.step 0 60))) = !t.okHead:=by
  unfold Tray.okHead
  cases within (t.n:Int) 1 6 <;> cases within t.at_ 0 ((t.n:Int) - 1) <;> cases within t.step 0 60 <;> cases h5:(t.way == 1) <;> cases h6:(t.way == -1) <;> simp [bne,h5,h6]
 have hh2:(((!within (t.n:Int) 1 6 || !within t.at_ 0 ((t.n:Int) - 1)) || (t.way != 1 && t.way != -1)) || !within t.step 0 60) = !t.okHead:=by
  rw [← hh]; simp only [Bool.or_assoc]
 rw [hh2]
 cases hhd:t.okHead
 ·(refine WV_cond rfl (fun h => ?_) (fun h => ?_))
  ·(repeat ((first | refine Va ?_ | refine Vb ?_ | refine Vc ?_ | refine Vd ?_ | refine Ve ?_ | refine Vf ?_); (try simp only [go_sem,hP]); (repeat refine qJ ?_)))
   (refine WV_ret ?_; simp only [thenQ,inQ,RetQ,RetOk,resAll,resA]; simp only [go_sem,tupA,AV.port,AV.portL,exists_eq_left']; (first | exact AVle.of rfl | refine AVle.of ?_ | skip))
   simp [Tray.ok,hhd]
  ·simp at h
 (refine WV_cond rfl (fun h => ?_) (fun h => ?_))
 ·simp at h
 clear h
 have hn6:t.n ≤ 6:=by
  simp only [Tray.okHead,within,Bool.and_eq_true,decide_eq_true_eq] at hhd
  omega
 have hok:t.ok = (t.recs.all okRec && presB t 12):=by
  unfold Tray.ok presB
  rw [hhd]
  have e:decide ((t.pres.length:Int) ≤ 12) = decide (t.pres.length ≤ 12):=by simp; omega
  rw [e]
  cases t.recs.all okRec <;> cases decide (t.pres.length ≤ 12) <;> rfl
 rw [hok]
 (repeat ((first | refine Va ?_ | refine Vb ?_ | refine Vc ?_ | refine Vd ?_ | refine Ve ?_ | refine Vf ?_); (try simp only [go_sem,hP]); (repeat refine qJ ?_)))
 (refine WV_loopK K6_1 [] (fun k:Nat => k ≤ t.n ∧ (t.recs.take k).all okRec = true) (fun k => t.n - k) (fun k => [(3,iv k)]) (fun _ => []) 0 ⟨Nat.zero_le _,by simp⟩ ?_ ?_)
 ·exact Sub_au
 ·intro k ⟨hk,ha⟩
  simp only [go_sem]
  (repeat ((first | refine Va ?_ | refine Vb ?_ | refine Vc ?_ | refine Vd ?_ | refine Ve ?_ | refine Vf ?_); (try simp only [go_sem,hP,recsC,List.length_map,hn']); (repeat refine qJ ?_)))
  (refine WV_cond rfl (fun h => ?_) (fun h => ?_))
  ·have h:k < t.recs.length:=by simp at h; omega
   have hkl:=h
   have hI:(k:Int) < (t.n:Int):=by omega
   have hw2:=w64 (n:=(k:Int) + 1) (by omega) (by omega)
   (repeat ((first | refine Va ?_ | refine Vb ?_ | refine Vc ?_ | refine Vd ?_ | refine Ve ?_ | refine Vf ?_); (try simp only [go_sem,hP,recsC,map_getD h,List.length_map,hn',hI,Int.natCast_nonneg,Rec.cds]); (repeat refine qJ ?_)))
   (refine AS_pu (wi51 _ _ _) ?_; simp only [go_sem,hP,recsC,map_getD h,List.length_map,hn',hI,Int.natCast_nonneg,Rec.cds]; (repeat refine qJ ?_); (repeat ((first | refine Va ?_ | refine Vb ?_ | refine Vc ?_ | refine Vd ?_ | refine Ve ?_ | refine Vf ?_); (try simp only [go_sem,hP,recsC,map_getD h,List.length_map,hn',hI,Int.natCast_nonneg,Rec.cds]); (repeat refine qJ ?_))))
   (refine AG_pu (fun hG => wi51 _ _ _) ?_; simp only [go_sem,hP]; (repeat refine qJ ?_); (repeat ((first | refine Va ?_ | refine Vb ?_ | refine Vc ?_ | refine Vd ?_ | refine Ve ?_ | refine Vf ?_); (try simp only [go_sem,hP]); (repeat refine qJ ?_))))
   have hb:(!within t.recs[k].front 1 999 || !within t.recs[k].back 1 999) = !okRec t.recs[k]:=by unfold okRec; cases within t.recs[k].front 1 999 <;> cases within t.recs[k].back 1 999 <;> rfl
   rw [hb]
   cases hbb:okRec t.recs[k]
   ·(refine WV_cond rfl (fun h => ?_) (fun h => ?_))
    ·(repeat ((first | refine Va ?_ | refine Vb ?_ | refine Vc ?_ | refine Vd ?_ | refine Ve ?_ | refine Vf ?_); (try simp only [go_sem,hP]); (repeat refine qJ ?_)))
     (refine WV_ret ?_; simp only [thenQ,inQ,RetQ,RetOk,resAll,resA]; simp only [go_sem,tupA,AV.port,AV.portL,exists_eq_left']; (first | exact AVle.of rfl | refine AVle.of ?_ | skip))
     have:t.recs.all okRec = false:=List.all_eq_false.2 ⟨_,List.getElem_mem hkl,by simp [hbb]⟩
     rw [this]; rfl
    ·simp at h
   ·(refine WV_cond rfl (fun h => ?_) (fun h => ?_))
    ·simp at h
    ·(repeat ((first | refine Va ?_ | refine Vb ?_ | refine Vc ?_ | refine Vd ?_ | refine Ve ?_ | refine Vf ?_); (try simp only [go_sem,hP,hw2]); (repeat refine qJ ?_)))
     refine ⟨k + 1,⟨by omega,by rw [take_all okRec (by assumption),ha,hbb]; rfl⟩,by omega,?_⟩
     exact Sub_au
  ·have h:k = t.recs.length:=by simp at h; omega
   subst h
   rw [List.take_length] at ha
   (repeat ((first | refine Va ?_ | refine Vb ?_ | refine Vc ?_ | refine Vd ?_ | refine Ve ?_ | refine Vf ?_); (try simp only [go_sem,hP]); (repeat refine qJ ?_)))
   (refine AS_pu (presses64 t 12 (by omega)) ?_; simp only [go_sem,hP,Tray.av,recsC]; (repeat refine qJ ?_); (repeat ((first | refine Va ?_ | refine Vb ?_ | refine Vc ?_ | refine Vd ?_ | refine Ve ?_ | refine Vf ?_); (try simp only [go_sem,hP,Tray.av,recsC]); (repeat refine qJ ?_))))
   (refine WV_ret ?_; simp only [thenQ,inQ,RetQ,RetOk,resAll,resA]; simp only [go_sem,tupA,AV.port,AV.portL,exists_eq_left']; (first | exact AVle.of rfl | refine AVle.of ?_ | skip))
   rw [ha]; simp
end Go.Proofs.YtbclmfjibpppfaaGreat

/-
 Ranks: the greater rest first,and of two equal ones the lesser number: plain.
-/
namespace Go.Proofs.YtbclmfjibpppfaaGreat
open Go Go.V
def before (f:Nat → Int) (a b:Nat):Bool:=decide (f b < f a) || (f a == f b && decide (a < b))
theorem before_irr (f:Nat → Int) (a:Nat):before f a a = false:=by simp [before]
theorem before_trans (f:Nat → Int) {a b c:Nat} (h:before f a b = true) (k:before f b c = true):before f a c = true:=by
 unfold before at *
 simp only [Bool.or_eq_true,decide_eq_true_eq,Bool.and_eq_true,beq_iff_eq] at *
 omega
def rank (f:Nat → Int) (n i:Nat):Nat:=((List.range n).filter fun k => before f k i).length
structure Ordered (f:Nat → Int) (n:Nat) (l:List Nat):Prop where
 perm:l.Perm (List.range n)
 sorted:l.Pairwise fun a b => before f a b = true
theorem Ordered.len {f:Nat → Int} {n:Nat} {l:List Nat} (h:Ordered f n l):l.length = n:=by
 rw [h.perm.length_eq,List.length_range]
theorem Ordered.rank {f:Nat → Int} {n:Nat} {l:List Nat} (h:Ordered f n l) {j:Nat} (hj:j < l.length):rank f n l[j] = j:=by
 unfold Go.Proofs.YtbclmfjibpppfaaGreat.rank
 rw [← (h.perm.filter _).length_eq]
 have e:l = l.take j ++ l[j] :: l.drop (j + 1):=by rw [List.getElem_cons_drop,List.take_append_drop]
 have hs:=List.pairwise_iff_getElem.1 h.sorted
 have h1:(l.take j).filter (fun k => before f k l[j]) = l.take j:=by
  rw [List.filter_eq_self]
  intro x hx
  obtain ⟨i,hi,rfl⟩:=List.mem_take_iff_getElem.1 hx
  exact hs i j (by omega) hj (by omega)
 have h2:(l.drop (j + 1)).filter (fun k => before f k l[j]) = []:=by
  rw [List.filter_eq_nil_iff]
  intro x hx
  obtain ⟨i,hi,rfl⟩:=List.mem_drop_iff_getElem.1 hx
  have:=hs j (j + 1 + i) hj (by omega) (by omega)
  intro hb
  have h3:=before_trans f this hb
  rw [before_irr] at h3
  cases h3
 have e2:l.filter (fun k => before f k l[j]) = (l.take j ++ l[j] :: l.drop (j + 1)).filter (fun k => before f k l[j]):=congrArg (List.filter (fun k => before f k l[j])) e
 rw [e2,List.filter_append,List.filter_cons,h1,h2,before_irr]
 simp
 omega
theorem Ordered.mem {f:Nat → Int} {n:Nat} {l:List Nat} (h:Ordered f n l) {i:Nat} (hi:i < n):∃ j,∃ hj:j < l.length,l[j] = i:=by
 have:i ∈ l:=h.perm.mem_iff.2 (List.mem_range.2 hi)
 obtain ⟨j,hj,e⟩:=List.mem_iff_getElem.1 this
 exact ⟨j,hj,e⟩
theorem Ordered.lt {f:Nat → Int} {n:Nat} {l:List Nat} (h:Ordered f n l) {j:Nat} (hj:j < l.length):l[j] < n :=
 List.mem_range.1 (h.perm.mem_iff.1 (List.getElem_mem hj))
def mv {α:Type} (l:List α) (i j:Nat):List α:=l.take j ++ ((l.drop i).take 1 ++ ((l.drop j).take (i - j) ++ l.drop (i + 1)))
theorem mv_len {α:Type} {l:List α} {i j:Nat} (hi:i < l.length) (hj:j ≤ i):(mv l i j).length = l.length:=by
 simp [mv]; omega
theorem mv_get {α:Type} {l:List α} {i j:Nat} (hi:i < l.length) (hj:j ≤ i) (t:Nat):(mv l i j)[t]? = if t < j then l[t]? else if t = j then l[i]? else if t ≤ i then l[t - 1]? else l[t]?:=by
 unfold mv
 rw [List.getElem?_append]
 have e1:(l.take j).length = j:=by simp; omega
 have e2:((l.drop i).take 1).length = 1:=by simp; omega
 have e3:((l.drop j).take (i - j)).length = i - j:=by simp; omega
 rw [e1]
 split
 ·rename_i h
  rw [List.getElem?_take,if_pos h]
 ·rename_i h
  rw [List.getElem?_append,e2]
  split
  ·rename_i h2
   have:t = j:=by omega
   subst this
   rw [if_pos rfl,List.getElem?_take,if_pos (by omega),List.getElem?_drop]
   congr 1
   omega
  ·rename_i h2
   rw [if_neg (by omega),List.getElem?_append,e3]
   split
   ·rename_i h3
    rw [if_pos (by omega),List.getElem?_take,if_pos h3,List.getElem?_drop]
    congr 1
    omega
   ·rename_i h3
    rw [if_neg (by omega),List.getElem?_drop]
    congr 1
    omega
theorem mv_self {α:Type} {l:List α} {i:Nat} (hi:i < l.length):mv l i i = l:=by
 apply List.ext_getElem?
 intro t
 rw [mv_get hi (Nat.le_refl _)]
 split
 ·rfl
 ·split
  ·rename_i h; rw [h]
  ·rw [if_neg (by omega)]
theorem mv_step {α:Type} {l:List α} {i j:Nat} (hi:i < l.length) (hj:j < i) (x y:α) (hx:l[i]? = some x) (hy:l[j]? = some y):((mv l i (j + 1)).set (j + 1) y).set j x = mv l i j:=by
 apply List.ext_getElem?
 intro t
 rw [List.getElem?_set,List.getElem?_set,List.length_set,mv_len hi hj,mv_get hi hj,mv_get hi (by omega)]
 by_cases h1:j = t
 ·subst h1
  rw [if_pos rfl,if_pos (by omega),if_neg (by omega),if_pos rfl,hx]
 ·rw [if_neg h1]
  by_cases h2:j + 1 = t
  ·subst h2
   rw [if_pos rfl,if_pos (by omega),if_neg (by omega),if_neg (by omega),if_pos (by omega),Nat.add_sub_cancel,hy]
  ·rw [if_neg h2]
   by_cases h3:t < j
   ·rw [if_pos (by omega),if_pos h3]
   ·rw [if_neg (by omega),if_neg (by omega),if_neg h3,if_neg (show ¬ t = j from fun e => h1 e.symm)]
structure SortI (f:Nat → Int) (n i:Nat) (l:List Nat):Prop where
 len:l.length = n
 perm:(l.take i).Perm (List.range i)
 sorted:(l.take i).Pairwise fun a b => before f a b = true
 rest:∀ t,i ≤ t → t < n → l[t]? = some t
theorem SortI.first (f:Nat → Int) {n:Nat} (hn:0 < n):SortI f n 1 (List.range n):=by
 have e:(List.range n).take 1 = [0]:=by
  cases n with
  | zero => omega
  | succ n => rw [List.range_succ_eq_map]; rfl
 refine ⟨by simp,?_,?_,fun t _ h => by simp [h]⟩
 ·rw [e]; exact List.Perm.refl _
 ·rw [e]; simp
theorem SortI.lt {f:Nat → Int} {n i:Nat} {l:List Nat} (h:SortI f n i l) {t:Nat} (ht:t < i) (hi:i ≤ n) {x:Nat} (hx:l[t]? = some x):x < i:=by
 have:x ∈ l.take i:=by
  rw [List.mem_take_iff_getElem]
  obtain ⟨h1,h2⟩:=List.getElem?_eq_some_iff.1 hx
  exact ⟨t,by omega,h2⟩
 exact List.mem_range.1 (h.perm.mem_iff.1 this)
theorem SortI.step {f:Nat → Int} {n i j:Nat} {l:List Nat} (h:SortI f n i l) (hi:i < n) (hj:j ≤ i) (h1:∀ t x,j ≤ t → t < i → l[t]? = some x → f x < f i) (h2:∀ x,0 < j → l[j - 1]? = some x → f i ≤ f x):SortI f n (i + 1) (mv l i j):=by
 have hl:=h.len
 have hx:(l.drop i).take 1 = [i]:=by
  rw [List.drop_eq_getElem_cons (by omega)]
  have:=h.rest i (Nat.le_refl _) hi
  rw [List.getElem?_eq_getElem (by omega)] at this
  simp only [Option.some.injEq] at this
  simp [this]
 have ht:(mv l i j).take (i + 1) = l.take j ++ (i :: (l.drop j).take (i - j)):=by
  unfold mv
  rw [hx,← List.append_assoc [i],← List.append_assoc (l.take j),List.take_left' (by simp; omega)]
  rfl
 have hp:l.take i = l.take j ++ (l.drop j).take (i - j):=by
  have:=List.take_append_drop j (l.take i)
  rw [List.take_take,List.drop_take,Nat.min_eq_left hj] at this
  exact this.symm
 have hs:=h.sorted
 rw [hp,List.pairwise_append] at hs
 have hA:∀ x ∈ l.take j,before f x i = true:=by
  intro x hxm
  obtain ⟨t,htl,rfl⟩:=List.mem_take_iff_getElem.1 hxm
  have hti:l[t] < i:=h.lt (t:=t) (by omega) (by omega) (List.getElem?_eq_getElem (by omega))
  have hlast:before f (l[j - 1]'(by omega)) i = true:=by
   have h3:=h2 _ (by omega) (List.getElem?_eq_getElem (by omega))
   have h4:l[j - 1]'(by omega) < i:=h.lt (t:=j - 1) (by omega) (by omega) (List.getElem?_eq_getElem (by omega))
   simp only [before,Bool.or_eq_true,decide_eq_true_eq,Bool.and_eq_true,beq_iff_eq]
   omega
  by_cases htj:t = j - 1
  ·subst htj; exact hlast
  ·refine before_trans f ?_ hlast
   have:=List.pairwise_iff_getElem.1 h.sorted t (j - 1) (by simp; omega) (by simp; omega) (by omega)
   simpa using this
 have hB:∀ x ∈ (l.drop j).take (i - j),before f i x = true:=by
  intro x hxm
  obtain ⟨t,htl,rfl⟩:=List.mem_take_iff_getElem.1 hxm
  simp only [List.getElem_drop]
  have h3:=h1 (j + t) _ (by omega) (by simp at htl; omega) (List.getElem?_eq_getElem (by simp at htl; omega))
  simp only [before,Bool.or_eq_true,decide_eq_true_eq]
  exact .inl h3
 refine ⟨by rw [mv_len (by omega) hj]; exact hl,?_,?_,fun t h3 h4 => ?_⟩
 ·rw [ht,List.range_succ]
  refine List.perm_middle.trans ?_
  rw [← hp]
  exact (List.Perm.cons i h.perm).trans (List.perm_append_comm (l₁:=[i]))
 ·rw [ht,List.pairwise_append,List.pairwise_cons]
  refine ⟨hs.1,⟨hB,hs.2.1⟩,fun a ha b hb => ?_⟩
  rcases List.mem_cons.1 hb with rfl | hb
  ·exact hA a ha
  ·exact hs.2.2 a ha b hb
 ·rw [mv_get (by omega) hj,if_neg (by omega),if_neg (by omega),if_neg (by omega)]
  exact h.rest t (by omega) h4
theorem SortI.done {f:Nat → Int} {n i:Nat} {l:List Nat} (h:SortI f n i l) (hi:n ≤ i):Ordered f n l:=by
 have hl:=h.len
 have h1:=h.perm
 have h2:=h.sorted
 rw [List.take_of_length_le (by omega)] at h1 h2
 have:i = n:=by
  have:=h1.length_eq
  simp at this; omega
 subst this
 exact ⟨h1,h2⟩
end Go.Proofs.YtbclmfjibpppfaaGreat

/-
 The carriage: plain.
-/
namespace Go.Proofs.YtbclmfjibpppfaaGreat
open Go Go.V
structure Sp where
 at_:Int
 way:Int
 side:Int
 from_:Int
 deriving DecidableEq,Inhabited
def Sp.cds (s:Sp):List CD:=[.int .i64 s.at_,.int .i64 s.way,.int .i64 s.side,.int .i64 s.from_]
def wayI (up:Bool):Int:=if up then 1 else -1
structure Cs where
 q:List Pr
 pins:List Bool
 now:Int
 at_:Nat
 up:Bool
 side:Int
 spells:List Sp
 plays:List Pr
 steps:Int
 end_:Int
 deriving DecidableEq,Inhabited
def sideAt (k:Nat) (up:Bool):Nat:=if up then 2 * k else 2 * k + 1
def Tray.rc (t:Tray) (k:Nat):Rec:=t.recs.getD k default
def secs (t:Tray) (s:Nat):Int:=if s % 2 = 0 then (t.rc (s / 2)).front else (t.rc (s / 2)).back
def Cs.mark (s:Cs) (side:Int):Cs:={ s with side:=side,spells:=s.spells ++ [⟨s.at_,wayI s.up,side,s.now⟩] }
def pressQ (now:Int):List Pr → List Bool → List Pr × List Bool
 | [],pins => ([],pins)
 | p :: q,pins => if p.time ≤ now then pressQ now q (pins.set p.side.toNat true) else (p :: q,pins)
def Cs.press (s:Cs):Cs:={ s with q:=(pressQ s.now s.q s.pins).1,pins:=(pressQ s.now s.q s.pins).2 }
def Cs.move (t:Tray) (s:Cs):Cs :=
 if s.up then (if s.at_ + 1 < t.n then { s with at_:=s.at_ + 1,now:=s.now + t.step,steps:=s.steps + 1 } else { s with up:=false })
 else (if 0 < s.at_ then { s with at_:=s.at_ - 1,now:=s.now + t.step,steps:=s.steps + 1 } else { s with up:=true })
def Cs.next (t:Tray) (s:Cs):Cs:=(s.move t).mark (-1)
def Cs.pos (s:Cs):Nat:=sideAt s.at_ s.up
def Cs.play1 (s:Cs):Cs:=({ s with pins:=s.pins.set s.pos false,plays:=s.plays ++ [⟨s.pos,s.now⟩] }:Cs).mark s.pos
def Cs.play2 (t:Tray) (s:Cs):Cs:=({ s with now:=s.now + secs t s.pos,end_:=s.now + secs t s.pos }:Cs).mark (-1)
def Cs.play (t:Tray) (s:Cs):Cs:=if s.pins.getD s.pos false = true then (s.play1).play2 t else s
def Cs.act1 (t:Tray) (s:Cs):Option Cs :=
 if s.pins.all (!·) then (match s.q with | [] => none | p :: _ => some { s with now:=p.time }) else some ((s.play t).next t)
def Cs.act (t:Tray) (s:Cs):Option Cs:=s.press.act1 t
def iter (t:Tray):Nat → Cs → Cs
 | 0,s => s
 | k + 1,s => match s.act t with | none => s.press | some s' => iter t k s'
def start (t:Tray) (q:List Pr):Cs:=⟨q,List.replicate (2 * t.n) false,0,t.at_.toNat,t.way == 1,-1,[],[],0,0⟩
def goesWith (t:Tray) (q:List Pr):Cs:=iter t 250 ((start t q).mark (-1))
def cyc (n:Nat) (k:Nat) (up:Bool):Nat:=if up then k else 2 * n - 1 - k
def cycOf (n:Nat) (s:Nat):Nat:=cyc n (s / 2) (s % 2 == 0)
theorem cycOf_side (n k:Nat) (up:Bool):cycOf n (sideAt k up) = cyc n k up:=by
 unfold cycOf sideAt
 cases up
 ·have h1:(2 * k + 1) / 2 = k:=by omega
  have h2:((2 * k + 1) % 2 == 0) = false:=by simp
  simp only [Bool.false_eq_true,if_false,h1,h2]
 ·have h1:(2 * k) / 2 = k:=by omega
  have h2:((2 * k) % 2 == 0) = true:=by simp
  simp only [if_true,h1,h2]
theorem cycOf_lt {n s:Nat} (h:s < 2 * n):cycOf n s < 2 * n:=by
 unfold cycOf cyc
 split <;> omega
theorem cycOf_inj {n s s':Nat} (h:s < 2 * n) (h':s' < 2 * n) (e:cycOf n s = cycOf n s'):s = s':=by
 unfold cycOf cyc at e
 by_cases h1:s % 2 = 0 <;> by_cases h2:s' % 2 = 0 <;> simp [h1,h2] at e <;> omega
def dist (n c d:Nat):Nat:=if c ≤ d then d - c else d + 2 * n - c
theorem dist_lt {n c d:Nat} (hc:c < 2 * n) (hd:d < 2 * n):dist n c d < 2 * n:=by unfold dist; split <;> omega
def cycNext (n c:Nat):Nat:=if c + 1 = 2 * n then 0 else c + 1
theorem dist_next {n c d:Nat} (hc:c < 2 * n) (hd:d < 2 * n) (h:c ≠ d):dist n (cycNext n c) d + 1 = dist n c d:=by
 unfold dist cycNext; split <;> split <;> split <;> omega
structure CsOk (t:Tray) (s:Cs):Prop where
 at_:s.at_ < t.n
 pins:s.pins.length = 2 * t.n
 q:∀ p ∈ s.q,(0 ≤ p.side ∧ p.side < 2 * (t.n:Int)) ∧ (0 ≤ p.time ∧ p.time ≤ 9999)
 now:0 ≤ s.now
 sorted:s.q.Pairwise fun a b => a.time ≤ b.time
def pinsW (n c:Nat) (pins:List Bool):Nat:=((List.range pins.length).map fun s => if pins.getD s false then dist n c (cycOf n s) + 1 else 0).sum
def jW (s:Cs):Nat:=match s.q with | [] => 0 | p :: _ => if s.now < p.time then 1 else 0
def Cs.c (t:Tray) (s:Cs):Nat:=cyc t.n s.at_ s.up
def mu (t:Tray) (s:Cs):Nat:=(2 * t.n + 2) * s.q.length + pinsW t.n (s.c t) s.pins + jW s
theorem sum_pt {l:List Nat} {f g:Nat → Nat} (h:∀ i ∈ l,f i ≤ g i):(l.map f).sum ≤ (l.map g).sum:=by
 induction l with
 | nil => simp
 | cons a l ih =>
  simp only [List.map_cons,List.sum_cons]
  have:=h a (by simp)
  have:=ih fun i hi => h i (by simp [hi])
  omega
theorem sum_one {l:List Nat} (hn:l.Nodup) {f g:Nat → Nat} {k d:Nat} (h:∀ i ∈ l,i ≠ k → f i ≤ g i) (hk:f k ≤ g k + d):(l.map f).sum ≤ (l.map g).sum + d:=by
 induction l with
 | nil => simp
 | cons a l ih =>
  have hn':=List.nodup_cons.1 hn
  simp only [List.map_cons,List.sum_cons]
  by_cases e:a = k
  ·subst e
   have:(l.map f).sum ≤ (l.map g).sum:=sum_pt fun i hi => h i (by simp [hi]) (fun e => hn'.1 (e ▸ hi))
   omega
  ·have h1:=h a (by simp) e
   have:=ih hn'.2 fun i hi hne => h i (by simp [hi]) hne
   omega
theorem sum_lt {l:List Nat} {f g:Nat → Nat} (h:∀ i ∈ l,f i ≤ g i) {k:Nat} (hm:k ∈ l) (hk:f k < g k):(l.map f).sum < (l.map g).sum:=by
 induction l with
 | nil => cases hm
 | cons a l ih =>
  simp only [List.map_cons,List.sum_cons]
  rcases List.mem_cons.1 hm with rfl | hm
  ·have:=sum_pt (l:=l) (f:=f) (g:=g) fun i hi => h i (by simp [hi])
   omega
  ·have h1:=h a (by simp)
   have:=ih (fun i hi => h i (by simp [hi])) hm
   omega
theorem pressQ_len (now:Int):∀ (q:List Pr) (pins:List Bool),(pressQ now q pins).2.length = pins.length
 | [],pins => rfl
 | p :: q,pins => by
  simp only [pressQ]
  split
  ·rw [pressQ_len now q]; simp
  ·rfl
theorem pressQ_suffix (now:Int):∀ (q:List Pr) (pins:List Bool),∃ k,(pressQ now q pins).1 = q.drop k
 | [],pins => ⟨0,rfl⟩
 | p :: q,pins => by
  simp only [pressQ]
  split
  ·obtain ⟨k,h⟩:=pressQ_suffix now q (pins.set p.side.toNat true)
   exact ⟨k + 1,by rw [h]; rfl⟩
  ·exact ⟨0,rfl⟩
theorem pressQ_head (now:Int):∀ (q:List Pr) (pins:List Bool),∀ p q',(pressQ now q pins).1 = p :: q' → now < p.time
 | [],pins,p,q',h => by cases h
 | a :: q,pins,p,q',h => by
  simp only [pressQ] at h
  split at h
  ·exact pressQ_head now q _ p q' h
  ·rename_i hn
   simp only [List.cons.injEq] at h
   obtain ⟨rfl,_⟩:=h
   omega
theorem CsOk.press {t:Tray} {s:Cs} (h:CsOk t s):CsOk t s.press:=by
 obtain ⟨k,hk⟩:=pressQ_suffix s.now s.q s.pins
 refine ⟨h.at_,by simp only [Cs.press]; rw [pressQ_len]; exact h.pins,fun p hp => ?_,h.now,?_⟩
 ·simp only [Cs.press,hk] at hp
  exact h.q p (List.mem_of_mem_drop hp)
 ·simp only [Cs.press,hk]
  exact h.sorted.sublist (List.drop_sublist _ _)
theorem pinsW_set {n c:Nat} {pins:List Bool} {k:Nat} (hc:c < 2 * n) (hl:pins.length = 2 * n) (hk:k < 2 * n):pinsW n c (pins.set k true) ≤ pinsW n c pins + 2 * n:=by
 unfold pinsW
 rw [List.length_set]
 refine sum_one (k:=k) List.nodup_range (fun i _ hne => ?_) ?_
 ·have e2:(pins.set k true).getD i false = pins.getD i false:=by
   rw [List.getD_eq_getElem?_getD,List.getElem?_set,if_neg (fun e => hne e.symm),← List.getD_eq_getElem?_getD]
  rw [e2]
  exact Nat.le_refl _
 ·have:=dist_lt hc (cycOf_lt (n:=n) (s:=k) (by omega))
  split <;> omega
theorem pressQ_mu {n c:Nat} (hc:c < 2 * n) (now:Int):∀ (q:List Pr) (pins:List Bool),pins.length = 2 * n → (∀ p ∈ q,0 ≤ p.side ∧ p.side < 2 * (n:Int)) →
  (2 * n + 2) * (pressQ now q pins).1.length + pinsW n c (pressQ now q pins).2 + 2 * (q.length - (pressQ now q pins).1.length) ≤ (2 * n + 2) * q.length + pinsW n c pins ∧ (pressQ now q pins).1.length ≤ q.length
 | [],pins,_,_ => by simp [pressQ]
 | p :: q,pins,hl,h => by
  simp only [pressQ]
  split
  ·have hp:=h p (by simp)
   have ih:=pressQ_mu hc now q (pins.set p.side.toNat true) (by simpa using hl) fun x hx => h x (by simp [hx])
   have hs:=pinsW_set hc hl (k:=p.side.toNat) (by omega)
   obtain ⟨i1,i2⟩:=ih
   simp only [List.length_cons]
   have e:(2 * n + 2) * (q.length + 1) = (2 * n + 2) * q.length + (2 * n + 2):=Nat.mul_succ _ _
   rw [e]
   generalize (2 * n + 2) * q.length = A at *
   generalize (2 * n + 2) * (pressQ now q (pins.set p.side.toNat true)).1.length = B at *
   constructor <;> omega
  ·simp
theorem cyc_lt {n k:Nat} {up:Bool} (h:k < n):cyc n k up < 2 * n:=by unfold cyc; split <;> omega
theorem Cs.c_lt {t:Tray} {s:Cs} (h:CsOk t s):s.c t < 2 * t.n:=cyc_lt h.at_
theorem mu_press {t:Tray} {s:Cs} (h:CsOk t s):(2 * t.n + 2) * s.press.q.length + pinsW t.n (s.press.c t) s.press.pins + 2 * (s.q.length - s.press.q.length) ≤ (2 * t.n + 2) * s.q.length + pinsW t.n (s.c t) s.pins ∧ s.press.q.length ≤ s.q.length :=
 pressQ_mu (Cs.c_lt h) s.now s.q s.pins h.pins fun p hp => (h.q p hp).1
theorem pos_lt {t:Tray} {s:Cs} (h:CsOk t s):s.pos < 2 * t.n:=by have:=h.at_; unfold Cs.pos sideAt; split <;> omega
theorem cyc_pos (t:Tray) (s:Cs):cycOf t.n s.pos = s.c t:=cycOf_side _ _ _
theorem move_c {t:Tray} {s:Cs} (h:s.at_ < t.n):(s.move t).c t = cycNext t.n (s.c t) ∧ (s.move t).at_ < t.n:=by
 unfold Cs.move Cs.c cycNext cyc
 cases hu:s.up
 ·by_cases h0:0 < s.at_
  ·simp [hu,h0]; repeat' (first | omega | split | apply And.intro)
  ·simp [hu,h0]; repeat' (first | omega | split | apply And.intro)
 ·by_cases h1:s.at_ + 1 < t.n
  ·simp [hu,h1]; repeat' (first | omega | split | apply And.intro)
  ·simp [hu,h1]; repeat' (first | omega | split | apply And.intro)
theorem move_q (t:Tray) (s:Cs):(s.move t).q = s.q ∧ (s.move t).pins = s.pins ∧ (s.move t).plays = s.plays ∧ (s.move t).spells = s.spells ∧ (s.move t).end_ = s.end_:=by
 unfold Cs.move
 split <;> split <;> exact ⟨rfl,rfl,rfl,rfl,rfl⟩
theorem move_now {t:Tray} (ht:0 ≤ t.step) (s:Cs):s.now ≤ (s.move t).now ∧ (s.move t).now ≤ s.now + t.step ∧ s.steps ≤ (s.move t).steps ∧ (s.move t).steps ≤ s.steps + 1:=by
 unfold Cs.move
 split <;> split <;> simp only <;> omega
theorem pinsW_move {n c:Nat} {pins:List Bool} (hc:c < 2 * n) (hl:pins.length = 2 * n) {k:Nat} (hk:k < 2 * n) (hck:cycOf n k = c) (h:pins.all (!·) = false) :
  pinsW n (cycNext n c) (pins.set k false) < pinsW n c pins:=by
 unfold pinsW
 rw [List.length_set,hl]
 obtain ⟨b,hb,hbt⟩:=List.all_eq_false.1 h
 obtain ⟨i,hi,rfl⟩:=List.mem_iff_getElem.1 hb
 have hbi:pins[i] = true:=by simpa using hbt
 have hle:∀ j ∈ List.range (2 * n),(if (pins.set k false).getD j false then dist n (cycNext n c) (cycOf n j) + 1 else 0) ≤ (if pins.getD j false then dist n c (cycOf n j) + 1 else 0):=by
  intro j hj
  have hj:=List.mem_range.1 hj
  by_cases e:k = j
  ·subst e
   have:(pins.set k false).getD k false = false:=by
    rw [List.getD_eq_getElem?_getD,List.getElem?_set,if_pos rfl]; split <;> rfl
   rw [this]; simp
  ·have e2:(pins.set k false).getD j false = pins.getD j false:=by
    rw [List.getD_eq_getElem?_getD,List.getElem?_set,if_neg e,← List.getD_eq_getElem?_getD]
   rw [e2]
   have hne:c ≠ cycOf n j:=fun h => e (cycOf_inj hk hj (by rw [hck,h]))
   have:=dist_next hc (cycOf_lt hj) hne
   split <;> omega
 refine sum_lt hle (k:=i) (List.mem_range.2 (by omega)) ?_
 have hgi:pins.getD i false = true:=by rw [List.getD_eq_getElem?_getD,List.getElem?_eq_getElem hi]; exact hbi
 rw [hgi]
 by_cases e:k = i
 ·subst e
  have:(pins.set k false).getD k false = false:=by
   rw [List.getD_eq_getElem?_getD,List.getElem?_set,if_pos rfl]; split <;> rfl
  rw [this]; simp
 ·have e2:(pins.set k false).getD i false = true:=by
   rw [List.getD_eq_getElem?_getD,List.getElem?_set,if_neg e,← List.getD_eq_getElem?_getD]; exact hgi
  rw [e2]
  have hne:c ≠ cycOf n i:=fun h => e (cycOf_inj hk (by omega) (by rw [hck,h]))
  have:=dist_next hc (cycOf_lt (s:=i) (n:=n) (by omega)) hne
  simp; omega
theorem set_false {pins:List Bool} {k:Nat} (h:pins.getD k false ≠ true):pins.set k false = pins:=by
 apply List.ext_getElem?
 intro i
 rw [List.getElem?_set]
 split
 ·rename_i e; subst e
  split
  ·rename_i hk
   rw [List.getD_eq_getElem?_getD,List.getElem?_eq_getElem hk] at h
   rw [List.getElem?_eq_getElem hk]
   simp only [Option.getD_some] at h
   simp at h
   rw [h]
  ·rename_i hk
   rw [List.getElem?_eq_none (by omega)]
 ·rfl
theorem play_pins (t:Tray) (s:Cs):(s.play t).pins = s.pins.set s.pos false ∧ (s.play t).q = s.q ∧ (s.play t).at_ = s.at_ ∧ (s.play t).up = s.up:=by
 unfold Cs.play
 split
 ·exact ⟨rfl,rfl,rfl,rfl⟩
 ·rename_i h
  exact ⟨(set_false h).symm,rfl,rfl,rfl⟩
theorem rec_ok {t:Tray} (h:TrayOk t) {k:Nat} (hk:k < t.n):(1 ≤ (t.rc k).front ∧ (t.rc k).front ≤ 999) ∧ (1 ≤ (t.rc k).back ∧ (t.rc k).back ≤ 999):=by
 have hk':k < t.recs.length:=hk
 have:=h.recs _ (List.getElem_mem hk')
 unfold Tray.rc
 rwa [List.getD_eq_getElem?_getD,List.getElem?_eq_getElem hk']
theorem secs_ok {t:Tray} (h:TrayOk t) {s:Nat} (hs:s < 2 * t.n):1 ≤ secs t s ∧ secs t s ≤ 999:=by
 have:=rec_ok h (k:=s / 2) (by omega)
 unfold secs
 split
 ·exact this.1
 ·exact this.2
theorem play_now {t:Tray} (h:TrayOk t) {s:Cs} (hs:CsOk t s):s.now ≤ (s.play t).now ∧ (s.play t).now ≤ s.now + 999 ∧ (s.play t).steps = s.steps:=by
 have:=secs_ok h (pos_lt hs)
 unfold Cs.play
 split
 ·refine ⟨?_,?_,rfl⟩ <;> show _ ≤ _ <;> simp only [Cs.play2,Cs.play1,Cs.mark,Cs.pos] at * <;> omega
 ·exact ⟨Int.le_refl _,by omega,rfl⟩
theorem act1_ok {t:Tray} (h:TrayOk t) {s s':Cs} (hs:CsOk t s) (e:s.act1 t = some s'):CsOk t s':=by
 unfold Cs.act1 at e
 split at e
 ·split at e
  ·cases e
  ·rename_i p q hq
   simp only [Option.some.injEq] at e
   subst e
   exact ⟨hs.at_,hs.pins,hs.q,(hs.q p (by rw [hq]; simp)).2.1,hs.sorted⟩
 ·simp only [Option.some.injEq] at e
  subst e
  obtain ⟨p1,p2,p3,p4⟩:=play_pins t s
  obtain ⟨m1,m2,m3,m4,m5⟩:=move_q t (s.play t)
  have hn:=play_now h hs
  have hm:=move_now h.step.1 (s.play t)
  refine ⟨(move_c (by rw [p3]; exact hs.at_)).2,?_,fun p hp => ?_,?_,?_⟩
  ·show ((s.play t).move t).pins.length = _
   rw [m2,p1,List.length_set]; exact hs.pins
  ·have hp':p ∈ ((s.play t).move t).q:=hp
   rw [m1,p2] at hp'
   exact hs.q p hp'
  ·show 0 ≤ ((s.play t).move t).now
   have:=hs.now
   omega
  ·show ((s.play t).move t).q.Pairwise _
   rw [m1,p2]; exact hs.sorted
theorem act_ok {t:Tray} (h:TrayOk t) {s s':Cs} (hs:CsOk t s) (e:s.act t = some s'):CsOk t s':=act1_ok h hs.press e
theorem act_mu {t:Tray} {s s':Cs} (hs:CsOk t s) (e:s.act t = some s'):mu t s' < mu t s:=by
 have hpr:=mu_press hs
 have hp:=hs.press
 have hhead:=pressQ_head s.now s.q s.pins
 have hnow:s.press.now = s.now:=rfl
 unfold Cs.act at e
 have hj1:s.press.q.length = s.q.length → s.press.q = s.q:=by
  intro hl
  obtain ⟨k,hk⟩:=pressQ_suffix s.now s.q s.pins
  have e1:s.press.q = s.q.drop k:=hk
  rw [e1] at hl ⊢
  rw [List.length_drop] at hl
  by_cases hk0:k = 0
  ·rw [hk0]; rfl
  ·have:s.q = []:=by cases hq:s.q with
    | nil => rfl
    | cons a l => rw [hq] at hl; simp at hl; omega
   rw [this]; simp
 have hjle:∀ x:Cs,jW x ≤ 1:=fun x => by unfold jW; split <;> (try split) <;> omega
 have hjp:s.press.q = s.q → s.q ≠ [] → jW s = 1:=by
  intro he hne
  unfold jW
  cases hq:s.q with
  | nil => exact absurd hq hne
  | cons p q =>
   have:s.press.q = p :: q:=by rw [he,hq]
   have:=hhead p q this
   simp [this]
 unfold Cs.act1 at e
 split at e
 ·split at e
  ·cases e
  ·rename_i p q hq
   simp only [Option.some.injEq] at e
   subst e
   unfold mu
   have hj0:jW ({ s.press with now:=p.time }:Cs) = 0:=by unfold jW; simp only [hq]; simp
   rw [hj0]
   show (2 * t.n + 2) * s.press.q.length + pinsW t.n (s.press.c t) s.press.pins + 0 < _
   by_cases hl:s.press.q.length = s.q.length
   ·have he:=hj1 hl
    have hne:s.q ≠ []:=by rw [← he,hq]; simp
    have:=hjp he hne
    omega
   ·omega
 ·rename_i hall
  have hall:s.press.pins.all (!·) = false:=by simpa using hall
  simp only [Option.some.injEq] at e
  subst e
  obtain ⟨p1,p2,p3,p4⟩:=play_pins t s.press
  obtain ⟨m1,m2,m3,m4,m5⟩:=move_q t (s.press.play t)
  have hc1:(s.press.play t).c t = s.press.c t:=by unfold Cs.c; rw [p3,p4]
  have hmv:=(move_c (t:=t) (s:=s.press.play t) (by rw [p3]; exact hp.at_)).1
  rw [hc1] at hmv
  have hw:=pinsW_move (Cs.c_lt hp) hp.pins (pos_lt hp) (cyc_pos t s.press) hall
  have e1:mu t ((s.press.play t).next t) = (2 * t.n + 2) * s.press.q.length + pinsW t.n (cycNext t.n (s.press.c t)) (s.press.pins.set s.press.pos false) + jW ((s.press.play t).next t):=by
   unfold mu
   show (2 * t.n + 2) * ((s.press.play t).move t).q.length + pinsW t.n (((s.press.play t).move t).c t) ((s.press.play t).move t).pins + _ = _
   rw [m1,m2,hmv,p1,p2]
  rw [e1]
  unfold mu
  have hj2:=hjle ((s.press.play t).next t)
  by_cases hl:s.press.q.length = s.q.length
  ·have he:=hj1 hl
   by_cases hne:s.q = []
   ·have:jW ((s.press.play t).next t) = 0:=by
     unfold jW
     have:((s.press.play t).next t).q = []:=by
      show ((s.press.play t).move t).q = []
      rw [m1,p2,he,hne]
     rw [this]
    omega
   ·have:=hjp he hne
    omega
  ·omega
end Go.Proofs.YtbclmfjibpppfaaGreat

/-
 The order by times,and how far a run goes: plain.
-/
namespace Go.Proofs.YtbclmfjibpppfaaGreat
open Go Go.V
theorem sort_exists (f:Nat → Int) {n:Nat}:∃ l,Ordered f n l:=by
 cases n with
 | zero => exact ⟨[],by simp,List.Pairwise.nil⟩
 | succ n =>
  have h:∀ i,1 ≤ i → i ≤ n + 1 → ∃ l,SortI f (n + 1) i l:=by
   intro i
   induction i with
   | zero => intro h; omega
   | succ i ih =>
    intro _ hi
    cases i with
    | zero => exact ⟨_,SortI.first f (by omega)⟩
    | succ i =>
     obtain ⟨l,hl⟩:=ih (by omega) (by omega)
     have hj:∀ m,m ≤ i + 1 → ∃ j,j ≤ i + 1 ∧ (∀ t x,j ≤ t → t < i + 1 → l[t]? = some x → f x < f (i + 1)) ∧ (j ≤ i + 1 - m ∨ ∃ x,0 < j ∧ l[j - 1]? = some x ∧ f (i + 1) ≤ f x):=by
      intro m
      induction m with
      | zero => intro _; exact ⟨i + 1,Nat.le_refl _,fun t x h1 h2 => by omega,.inl (by omega)⟩
      | succ m ihm =>
       intro hm
       obtain ⟨j,h1,h2,h3⟩:=ihm (by omega)
       rcases h3 with h3 | h3
       ·by_cases hj0:j ≤ i + 1 - (m + 1)
        ·exact ⟨j,h1,h2,.inl hj0⟩
        ·have hlen:=hl.len
         have hjl:j - 1 < l.length:=by omega
         have hg:l[j - 1]? = some l[j - 1]:=List.getElem?_eq_getElem hjl
         by_cases hf:f l[j - 1] < f (i + 1)
         ·refine ⟨j - 1,by omega,fun t x h4 h5 h6 => ?_,.inl (by omega)⟩
          by_cases ht:t = j - 1
          ·subst ht; rw [hg] at h6; cases h6; exact hf
          ·exact h2 t x (by omega) h5 h6
         ·exact ⟨j,h1,h2,.inr ⟨_,by omega,hg,by omega⟩⟩
       ·exact ⟨j,h1,h2,.inr h3⟩
     obtain ⟨j,h1,h2,h3⟩:=hj (i + 1) (Nat.le_refl _)
     refine ⟨_,hl.step (by omega) h1 h2 fun x h4 h5 => ?_⟩
     rcases h3 with h3 | ⟨y,_,h6,h7⟩
     ·omega
     ·rw [h5] at h6; cases h6; exact h7
  obtain ⟨l,hl⟩:=h (n + 1) (by omega) (Nat.le_refl _)
  exact ⟨l,hl.done (Nat.le_refl _)⟩
def ordI (f:Nat → Int) (n:Nat):List Nat:=(List.range n).map fun j => ((List.range n).find? fun i => rank f n i == j).getD 0
theorem ordered_eq {f:Nat → Int} {n:Nat} {l:List Nat} (h:Ordered f n l):l = ordI f n:=by
 have hl:=h.len
 apply List.ext_getElem
 ·simp [ordI,hl]
 ·intro j h1 h2
  have hr:=h.rank h1
  have hm:l[j] < n:=h.lt h1
  have e:(ordI f n)[j] = ((List.range n).find? fun i => rank f n i == j).getD 0:=by simp [ordI]
  rw [e]
  cases hf:(List.range n).find? (fun i => rank f n i == j) with
  | none =>
   have:=List.find?_eq_none.1 hf l[j] (List.mem_range.2 hm)
   simp [hr] at this
  | some i =>
   have h3:=List.find?_some hf
   have h4:=List.mem_range.1 (List.mem_of_find?_eq_some hf)
   obtain ⟨j',hj',rfl⟩:=h.mem h4
   have h5:=h.rank hj'
   simp only [beq_iff_eq] at h3
   have:j' = j:=by omega
   subst this
   rfl
theorem ordI_ok (f:Nat → Int) (n:Nat):Ordered f n (ordI f n):=by
 obtain ⟨l,hl⟩:=sort_exists f (n:=n)
 rw [← ordered_eq hl]; exact hl
def keyT (L:List Pr) (k:Nat):Int:=- (L.getD k default).time
def arr (L:List Pr) (π:List Nat):List Pr:=π.map fun k => L.getD k default
def sortT (L:List Pr):List Pr:=arr L (ordI (keyT L) L.length)
theorem sortT_perm (L:List Pr):(sortT L).Perm L:=by
 have h:=(ordI_ok (keyT L) L.length).perm.map fun k => L.getD k default
 have e:(List.range L.length).map (fun k => L.getD k default) = L:=by
  apply List.ext_getElem (by simp)
  intro i h1 h2
  simp [h2]
 rw [e] at h
 exact h
theorem sortT_len (L:List Pr):(sortT L).length = L.length:=(sortT_perm L).length_eq
theorem sortT_sorted (L:List Pr):(sortT L).Pairwise fun a b => a.time ≤ b.time:=by
 unfold sortT arr
 rw [List.pairwise_map]
 refine (ordI_ok (keyT L) L.length).sorted.imp fun {a b} h => ?_
 have h':keyT L b < keyT L a ∨ (keyT L a = keyT L b ∧ a < b):=by simpa [before] using h
 have ea:keyT L a = -(L.getD a default).time:=rfl
 have eb:keyT L b = -(L.getD b default).time:=rfl
 show (L.getD a default).time ≤ (L.getD b default).time
 omega
def goesS (t:Tray):Cs:=goesWith t (sortT t.pres)
theorem pinsW_none (n c m:Nat):pinsW n c (List.replicate m false) = 0:=by
 unfold pinsW
 have:((List.range (List.replicate m false).length).map fun s => if (List.replicate m false).getD s false then dist n c (cycOf n s) + 1 else 0) = (List.range (List.replicate m false).length).map fun _ => 0:=by
  refine List.map_congr_left fun s _ => ?_
  rw [List.getD_eq_getElem?_getD,List.getElem?_replicate]
  split <;> simp at *
 rw [this]
 induction (List.range (List.replicate m false).length) with
 | nil => rfl
 | cons a l ih => simpa using ih
theorem start_okQ {t:Tray} (ht:TrayOk t) {q:List Pr} (hq:q.Perm t.pres) (hs:q.Pairwise fun a b => a.time ≤ b.time):CsOk t ((start t q).mark (-1)):=by
 refine ⟨?_,by simp [start,Cs.mark],fun p hp => ?_,Int.le_refl _,hs⟩
 ·have:=ht.at_
  show t.at_.toNat < t.n
  omega
 ·exact ht.pres p (hq.mem_iff.1 hp)
theorem start_mu {t:Tray} (ht:TrayOk t) {q:List Pr} (hq:q.length ≤ 13):mu t ((start t q).mark (-1)) ≤ 200:=by
 have h6:=ht.n6
 have e:mu t ((start t q).mark (-1)) = (2 * t.n + 2) * q.length + pinsW t.n (((start t q).mark (-1)).c t) (List.replicate (2 * t.n) false) + jW ((start t q).mark (-1)):=rfl
 rw [e,pinsW_none]
 have h1:(2 * t.n + 2) * q.length ≤ 14 * 13:=Nat.mul_le_mul (by omega) hq
 have h2:jW ((start t q).mark (-1)) ≤ 1:=by unfold jW; split <;> (try split) <;> omega
 omega
structure Grown (s s':Cs):Prop where
 now:s'.now ≤ s.now + 1059 ∨ s'.now ≤ 9999
 spells:s'.spells.length ≤ s.spells.length + 3
 plays:s'.plays.length ≤ s.plays.length + 1
 steps:s.steps ≤ s'.steps ∧ s'.steps ≤ s.steps + 1
 q:s'.q.length ≤ s.q.length
theorem act1_grown {t:Tray} (ht:TrayOk t) {s1 s':Cs} (hs1:CsOk t s1) (e:s1.act1 t = some s'):Grown s1 s':=by
 have hstep:=ht.step
 unfold Cs.act1 at e
 split at e
 ·split at e
  ·cases e
  ·rename_i p q hqq
   simp only [Option.some.injEq] at e
   subst e
   exact ⟨.inr (hs1.q p (by rw [hqq]; simp)).2.2,by simp only; omega,by simp only; omega,by simp only; omega,Nat.le_refl _⟩
 ·simp only [Option.some.injEq] at e
  subst e
  have hn:=play_now ht hs1
  have hm:=move_now hstep.1 (s1.play t)
  obtain ⟨m1,m2,m3,m4,m5⟩:=move_q t (s1.play t)
  obtain ⟨p1,p2,p3,p4⟩:=play_pins t s1
  have hsp:(s1.play t).spells.length ≤ s1.spells.length + 2 ∧ (s1.play t).plays.length ≤ s1.plays.length + 1:=by
   unfold Cs.play
   split
   ·simp [Cs.play2,Cs.play1,Cs.mark]
   ·omega
  refine ⟨.inl ?_,?_,?_,?_,?_⟩
  ·show ((s1.play t).move t).now ≤ _; omega
  ·show (((s1.play t).move t).spells ++ [_]).length ≤ _
   rw [m4,List.length_append]; simp only [List.length_cons,List.length_nil]; omega
  ·show ((s1.play t).move t).plays.length ≤ _
   rw [m3]; omega
  ·show s1.steps ≤ ((s1.play t).move t).steps ∧ ((s1.play t).move t).steps ≤ _; omega
  ·show ((s1.play t).move t).q.length ≤ _
   rw [m1,p2]; exact Nat.le_refl _
theorem act_grown {t:Tray} (ht:TrayOk t) {s s':Cs} (hs:CsOk t s) (e:s.act t = some s'):Grown s s':=by
 have hq:s.press.q.length ≤ s.q.length:=(mu_press hs).2
 have h:=act1_grown ht hs.press e
 exact ⟨h.now,h.spells,h.plays,h.steps,Nat.le_trans h.q hq⟩
end Go.Proofs.YtbclmfjibpppfaaGreat

namespace Go.Proofs.YtbclmfjibpppfaaGreat
open Go Go.V
abbrev o44_0:List Ins:=[JS 2 (.box 2 (.t 0)),JS 3 (.box 2 (.t 1)),JS 4 (Ji 0)]
abbrev o44_1:List Ins:=[JS 5 (Jf 1 2),JS 6 (Jl 5),JS 7 (Jf 1 3),JS 8 (Jl 7),JS 9 (Jb .sub 6 8),JS 4 (Jm 9)]
abbrev v44_2:VC:=(.seq (.ops o44_1) .ret)
def ir44:FC:=⟨2,10,[.t 4],(.seq (.ops o44_0) v44_2)⟩
abbrev o65_0:List Ins:=[JS 10 (Jm 1),JS 11 (Jk .add 10 1),JS 8 (Jm 11)]
abbrev o65_1:List Ins:=[JS 12 (Jm 8),JS 13 (Jm 2),JS 14 (Jb .lss 12 13)]
abbrev v65_2:VC:=(.cond (.t 14) .skip (.exit 0))
abbrev o65_3:List Ins:=[JS 17 (Jm 8),JS 9 (Jm 17)]
abbrev o65_4:List Ins:=[JF 18 (Jm 9),JF 19 (Jm 1),JS 20 (Jb .gtr 18 19),JS 21 (Jm 20),JH 22 (Jm 3) 21 true,JH 23 (Jm 0) 21 true,JH 24 (Jm 9) 21 true,JH 25 (Ja 2 23 24) 21 true,JH 26 (JL 2 25) 21 true,JH 27 (Jm 0) 21 true,JH 28 (Jm 9) 21 true,JH 29 (Jk .sub 28 1) 21 true,JH 30 (Ja 2 27 29) 21 true,JH 31 (JL 2 30) 21 true,JG 32 (.call (.t 22) [.t 26,.t 31]) 21 true,JG 33 (Jk .lss 32 0) 21 true,JS 34 (Jp 21 33)]
abbrev v65_5:VC:=(.cond (.t 34) .skip (.exit 2))
abbrev o65_6:List Ins:=[JF 37 (Jm 0),JF 38 (Jm 9),JF 39 (Jm 0),JF 40 (Jm 9),JF 41 (Jk .sub 40 1),JF 42 (Jm 0),JF 43 (Jm 9),JF 44 (Jk .sub 43 1),JF 45 (Ja 2 42 44),JF 46 (JL 2 45),JF 47 (Jm 0),JF 48 (Jm 9),JF 49 (Ja 2 47 48),JF 50 (JL 2 49),JF 51 (Ja 2 37 38),JE (Js 2 51 46),JS 52 (Ja 2 39 41),JN (Js 2 52 50)]
abbrev o65_7:List Ins:=[JS 35 (Jm 9),JS 36 (Jk .sub 35 1),JS 9 (Jm 36)]
abbrev v65_8:VC:=(.seq (.block 3 (.dops o65_6)) (.ops o65_7))
abbrev v65_9:VC:=(.seq (.seq (.dops o65_4) v65_5) v65_8)
-- K65_2: changed and kept: [9]
abbrev K65_2:List Nat:=[0,1,2,3,8]
abbrev v65_10:VC:=(.loop v65_9)
abbrev v65_11:VC:=(.block 2 v65_10)
abbrev v65_12:VC:=(.seq (.ops o65_3) v65_11)
abbrev o65_13:List Ins:=[JS 15 (Jm 8),JS 16 (Jk .add 15 1),JS 8 (Jm 16)]
abbrev v65_14:VC:=(.seq (.block 1 v65_12) (.ops o65_13))
abbrev v65_15:VC:=(.seq (.seq (.ops o65_1) v65_2) v65_14)
-- K65_1: changed and kept: [8]
abbrev K65_1:List Nat:=[0,1,2,3]
abbrev v65_16:VC:=(.loop v65_15)
abbrev v65_17:VC:=(.block 0 v65_16)
def ir65:FC:=⟨4,53,[],(.seq (.ops o65_0) v65_17)⟩
abbrev o54_0:List Ins:=[JS 6 (Ji 20)]
abbrev o54_1:List Ins:=[JS 10 (Jm 6),JS 7 (Ji 0),JS 8 (Jm 10)]
abbrev o54_2:List Ins:=[JS 11 (Jm 8),JS 12 (Jm 1),JS 13 (Jb .leq 11 12)]
abbrev v54_3:VC:=(.cond (.t 13) .skip (.exit 0))
abbrev o54_4:List Ins:=[JS 14 (Jm 0),JS 15 (Jm 7),JS 16 (Jm 8),JS 17 (Jm 2),JS 18 (Jc 65 [.t 14,.t 15,.t 16,.t 17])]
abbrev o54_5:List Ins:=[JS 19 (Jm 8),JS 7 (Jm 19)]
abbrev o54_6:List Ins:=[JS 20 (Jm 8),JS 21 (Jm 6),JS 22 (Jb .add 20 21),JS 8 (Jm 22)]
abbrev v54_7:VC:=(.seq (.ops o54_5) (.ops o54_6))
abbrev v54_8:VC:=(.seq (.ops o54_4) v54_7)
abbrev v54_9:VC:=(.block 1 v54_8)
abbrev v54_10:VC:=(.seq (.seq (.ops o54_2) v54_3) v54_9)
-- K54_1: changed and kept: [8,7]
abbrev K54_1:List Nat:=[0,1,2,6]
abbrev v54_11:VC:=(.loop v54_10)
abbrev o54_12:List Ins:=[JS 23 (Jm 0),JS 24 (Jm 7),JS 25 (Jm 1),JS 26 (Jm 2),JS 27 (Jc 65 [.t 23,.t 24,.t 25,.t 26])]
abbrev o54_13:List Ins:=[JS 28 (Jm 6),JS 29 (Jm 1),JS 30 (Jb .lss 28 29)]
abbrev v54_14:VC:=(.cond (.t 30) .skip (.exit 2))
abbrev o54_15:List Ins:=[JS 31 (Jm 6),JS 32 (.bin .mul (.k (Jz 2)) (.t 31)),JS 7 (Ji 0),JS 8 (Jm 32)]
abbrev o54_16:List Ins:=[JS 33 (Jm 8),JS 34 (Jm 1),JS 35 (Jb .leq 33 34)]
abbrev v54_17:VC:=(.cond (.t 35) .skip (.exit 4))
abbrev o54_18:List Ins:=[JS 36 (Jm 0),JS 37 (Jm 7),JS 38 (Jm 7),JS 39 (Jm 6),JS 40 (Jb .add 38 39),JS 41 (Jm 8),JS 42 (Jm 2),JS 43 (Jc 66 [.t 36,.t 37,.t 40,.t 41,.t 42])]
abbrev o54_19:List Ins:=[JS 44 (Jm 8),JS 7 (Jm 44)]
abbrev o54_20:List Ins:=[JS 45 (Jm 8),JS 46 (Jm 6),JS 47 (.bin .mul (.k (Jz 2)) (.t 46)),JS 48 (Jb .add 45 47),JS 8 (Jm 48)]
abbrev v54_21:VC:=(.seq (.ops o54_19) (.ops o54_20))
abbrev v54_22:VC:=(.seq (.ops o54_18) v54_21)
abbrev v54_23:VC:=(.block 5 v54_22)
abbrev v54_24:VC:=(.seq (.seq (.ops o54_16) v54_17) v54_23)
-- K54_3: changed and kept: [8,7]
abbrev v54_25:VC:=(.loop v54_24)
abbrev o54_26:List Ins:=[JS 49 (Jm 7),JS 50 (Jm 6),JS 51 (Jb .add 49 50),JS 9 (Jm 51)]
abbrev o54_27:List Ins:=[JS 52 (Jm 9),JS 53 (Jm 1),JS 54 (Jb .lss 52 53)]
abbrev o54_28:List Ins:=[JS 55 (Jm 0),JS 56 (Jm 7),JS 57 (Jm 9),JS 58 (Jm 1),JS 59 (Jm 2),JS 60 (Jc 66 [.t 55,.t 56,.t 57,.t 58,.t 59])]
abbrev v54_29:VC:=(.cond (.t 54) (.ops o54_28) .skip)
abbrev v54_30:VC:=(.seq (.ops o54_27) v54_29)
abbrev o54_31:List Ins:=[JS 61 (Jm 6),JS 62 (Jk .mul 61 2),JS 6 (Jm 62)]
abbrev v54_32:VC:=(.seq (.seq (.ops o54_26) v54_30) (.ops o54_31))
abbrev v54_33:VC:=(.seq (.block 4 v54_25) v54_32)
abbrev v54_34:VC:=(.seq (.ops o54_15) v54_33)
abbrev v54_35:VC:=(.block 3 v54_34)
abbrev v54_36:VC:=(.seq (.seq (.ops o54_13) v54_14) v54_35)
-- K54_2: changed and kept: [6]
abbrev K54_2:List Nat:=[0,1,2]
abbrev v54_37:VC:=(.loop v54_36)
abbrev v54_38:VC:=(.block 2 v54_37)
abbrev v54_39:VC:=(.seq (.ops o54_12) v54_38)
abbrev v54_40:VC:=(.seq (.block 0 v54_11) v54_39)
abbrev v54_41:VC:=(.seq (.ops o54_1) v54_40)
def ir54:FC:=⟨3,63,[],(.seq (.ops o54_0) v54_41)⟩
abbrev o43_0:List Ins:=[JS 4 (Jm 0),JS 5 (Jm 0),JS 6 (Jn 5),JS 7 (Jm 1),JS 8 (Jc 54 [.t 4,.t 6,.t 7])]
def ir43:FC:=⟨2,9,[],(.ops o43_0)⟩
abbrev o42_0:List Ins:=[JS 2 (.mv (.k J0))]
abbrev o42_1:List Ins:=[JS 3 (Jm 0),JS 4 (.nils false (.t 3))]
abbrev o42_2:List Ins:=[JS 2 (.mv (.k J0))]
abbrev v42_3:VC:=(.seq (.ops o42_2) .ret)
abbrev v42_4:VC:=(.cond (.t 4) v42_3 .skip)
abbrev o42_5:List Ins:=[JS 5 (.bsl 84 2 []),JS 6 (Jm 0),JS 7 (.app 84 2 16 (.t 5) (.t 6)),JS 2 (Jm 7)]
abbrev v42_6:VC:=(.seq (.ops o42_5) .ret)
abbrev v42_7:VC:=(.seq (.seq (.ops o42_1) v42_4) v42_6)
def ir42:FC:=⟨1,8,[.t 2],(.seq (.ops o42_0) v42_7)⟩
theorem c44:compM Tryz.prog [] 44 = some ir44:=by kernel_rfl
theorem c65:compM Tryz.prog [] 65 = some ir65:=by kernel_rfl
theorem c54:compM Tryz.prog [] 54 = some ir54:=by kernel_rfl
theorem c43:compM Tryz.prog [] 43 = some ir43:=by kernel_rfl
theorem c42:compM Tryz.prog [] 42 = some ir42:=by kernel_rfl
attribute [local go_sem] Nat.reduceEqDiff Nat.reduceAdd Nat.reduceMul reduceIte Nat.reduceLeDiff Nat.reduceLT Nat.reduceBEq reduceCtorEq
theorem cmp70 (a b:Pr) (ha:0 ≤ a.time ∧ a.time ≤ 9999) (hb:0 ≤ b.time ∧ b.time ≤ 9999):FSpec Tryz.prog 44 [.agg [iv a.side,iv a.time],.agg [iv b.side,iv b.time]] (iv (a.time - b.time)):=by
 have w1:=w64 (n:=a.time - b.time) (by omega) (by omega)
 refine FSpec_of c44 (Nat.le_refl _) (by decide) fun C hP hN hC hL => ?_; rw [init_st]
 simp only [ir44]
 (repeat ((first | refine Va ?_ | refine Vb ?_ | refine Vc ?_ | refine Vd ?_ | refine Ve ?_ | refine Vf ?_); (try simp only [go_sem,hP,w1]); (repeat refine qJ ?_)))
 (refine WV_ret ?_; simp only [thenQ,inQ,RetQ,RetOk,resAll,resA]; simp only [go_sem,tupA,AV.port,AV.portL,exists_eq_left']; (first | exact AVle.of rfl | refine AVle.of ?_ | skip))
theorem arr_len (L:List Pr) (π:List Nat):(arr L π).length = π.length:=by simp [arr]
theorem arr_get {L:List Pr} {π:List Nat} {i k:Nat} (h:π[i]? = some k) (hi:i < (arr L π).length):(arr L π)[i] = L.getD k default:=by
 have h2:(arr L π)[i]? = some (L.getD k default):=by simp [arr,h]
 exact (List.getElem?_eq_some_iff.1 h2).2
theorem arr_set (L:List Pr) (π:List Nat) (i k:Nat):(arr L π).set i (L.getD k default) = arr L (π.set i k):=by
 simp [arr,List.map_set]
theorem arr_range (L:List Pr):arr L (List.range L.length) = L:=by
 apply List.ext_getElem (by simp [arr])
 intro i h1 h2
 simp [arr,h2]
theorem put2 {α:Type} {cds:α → List CD} (hm:∀ a,(cds a).length = 2) {l:List α} {k:Nat} (h:k < l.length) (j:Nat) (a:α) {x y:CD} (ha:cds a = [x,y]) :
  (cellsG cds l j).take (k * 2) ++ AV.c x :: AV.c y :: (cellsG cds l j).drop (k * 2 + 2) = cellsG cds (l.set k a) j:=cellsG_two hm h j a ha
set_option maxRecDepth 20000 in
set_option maxHeartbeats 8000000 in
theorem ins87 {L:List Pr} {n cap jk:Nat} (hn:0 < n) (hn20:n ≤ 20) (hl0:L.length = n) (ht:∀ p ∈ L,0 ≤ p.time ∧ p.time ≤ 9999) :
  FSpecL Tryz.prog 65 [.vw 2 1000 0 n cap,iv 0,iv n,.fn 44 []] [.box (cellsG Pr.cds L jk)] [] (fun res l' => res = .tup [] ∧ ∃ l,Ordered (keyT L) n l ∧ l' = [.box (cellsG Pr.cds (arr L l) jk)]):=by
 have w0:IntKind.i64.wrap (0 + 1) = 1:=by decide
 have hti:∀ i,i < n → 0 ≤ (L.getD i default).time ∧ (L.getD i default).time ≤ 9999:=fun i hi => by
  have hiL:i < L.length:=by omega
  have:=ht _ (List.getElem_mem hiL)
  have e:L.getD i default = L[i]:=by simp [*]
  rw [e]; exact this
 have hL0:cellsG Pr.cds L jk = cellsG Pr.cds (arr L (List.range n)) jk:=by rw [← hl0,arr_range]
 rw [hL0]
 refine FSpecL_of c65 (by first | simp | exact Nat.le_of_ble_eq_true rfl) (Nat.le_refl _) (by decide) (by decide) fun C hP hN hC hL => ?_; rw [init_env',ownW_upd (by first | simp | exact Nat.le_of_ble_eq_true rfl)]; simp only [ir65,updL,updLo,List.map_nil,List.map_cons,Nat.reduceAdd,]
 (repeat ((first | refine Va ?_ | refine Vb ?_ | refine Vc ?_ | refine Vd ?_ | refine Ve ?_ | refine Vf ?_); (try simp only [go_sem,hP,w0]); (repeat refine qJ ?_)))
 refine WV_loopK K65_1 [1000] (fun p:Nat × List Nat => 1 ≤ p.1 ∧ p.1 ≤ n ∧ SortI (keyT L) n p.1 p.2) (fun p => n - p.1) (fun p => [(8,iv p.1)]) (fun p => [(1000,.box (cellsG Pr.cds (arr L p.2) jk))]) (1,List.range n) ⟨Nat.le_refl _,hn,SortI.first (keyT L) hn⟩ ?_ ?_
 ·exact Sub_au
 ·rintro ⟨i,l⟩ ⟨h1,h2,hs⟩
  simp only at h1 h2 hs
  have hl:=hs.len
  simp only [go_sem]
  (repeat ((first | refine Va ?_ | refine Vb ?_ | refine Vc ?_ | refine Vd ?_ | refine Ve ?_ | refine Vf ?_); (try simp only [go_sem,hP]); (repeat refine qJ ?_)))
  (refine WV_cond rfl (fun h => ?_) (fun h => ?_))
  ·have hi:i < n:=by simpa using h
   (repeat ((first | refine Va ?_ | refine Vb ?_ | refine Vc ?_ | refine Vd ?_ | refine Ve ?_ | refine Vf ?_); (try simp only [go_sem,hP]); (repeat refine qJ ?_)))
   refine WV_loopK K65_2 [1000] (fun j:Nat => j ≤ i ∧ ∀ t x,j ≤ t → t < i → l[t]? = some x → keyT L x < keyT L i) (fun j => j) (fun j => [(9,iv j)]) (fun j => [(1000,.box (cellsG Pr.cds (arr L (mv l i j)) jk))]) i ⟨Nat.le_refl _,fun t x h3 h4 => by omega⟩ ?_ ?_
   ·rw [mv_self (by omega)]
    exact Sub_au
   ·rintro j ⟨hj,hd⟩
    have hgi:l[i]? = some i:=hs.rest i (Nat.le_refl _) hi
    have hmi:(mv l i j)[j]? = some i:=by rw [mv_get (by omega) hj,if_neg (by omega),if_pos rfl,hgi]
    have hlm:(arr L (mv l i j)).length = n:=by rw [arr_len,mv_len (by omega) hj,hl]
    simp only [go_sem]
    cases j with
    | zero =>
     have hd0:decide ((0:Int) < ((0:Nat):Int)) = false:=by simp
     (repeat ((first | refine Va ?_ | refine Vb ?_ | refine Vc ?_ | refine Vd ?_ | refine Ve ?_ | refine Vf ?_); (try simp only [go_sem,hP,hd0]); (repeat refine qJ ?_)))
     refine Or.inr (Or.inr ?_)
     (refine WV_cond rfl (fun h => ?_) (fun h => ?_))
     ·simp at h
     ·have hs':=hs.step hi (Nat.zero_le _) (fun t x _ h4 h5 => hd t x (Nat.zero_le _) h4 h5) (fun x h6 => by omega)
      have w1:=w64 (n:=(i:Int) + 1) (by omega) (by omega)
      (repeat ((first | refine Va ?_ | refine Vb ?_ | refine Vc ?_ | refine Vd ?_ | refine Ve ?_ | refine Vf ?_); (try simp only [go_sem,hP,w1]); (repeat refine qJ ?_)))
      refine ⟨(i + 1,mv l i 0),⟨by simp only; omega,by simp only; omega,hs'⟩,by simp only; omega,?_⟩
      exact Sub_au
    | succ j =>
     have hjl:j < l.length:=by omega
     have hgj:l[j]? = some l[j]:=List.getElem?_eq_getElem hjl
     have hjn:=hs.lt (t:=j) (by omega) h2 hgj
     have hmj:(mv l i (j + 1))[j]? = some l[j]:=by rw [mv_get (by omega) hj,if_pos (by omega),hgj]
     have hlen0:j + 1 < (arr L (mv l i (j + 1))).length:=by omega
     have hlen1:j < (arr L (mv l i (j + 1))).length:=by omega
     have g1:=cellsG_elem pr_two hlen0 jk
     rw [arr_get hmi hlen0] at g1
     have g2:=cellsG_elem pr_two hlen1 jk
     rw [arr_get hmj hlen1] at g2
     have w1:=w64 (n:=(j:Int)) (by omega) (by omega)
     have e1:(((j + 1:Nat):Int) - 1) = (j:Int):=by omega
     have hjlt:j < n:=by omega
     have hj1:j + 1 < n:=by omega
     have hcl:=cellsG_len pr_two (arr L (mv l i (j + 1))) jk
     have hq1:(j + 1) * 2 + 2 ≤ (cellsG Pr.cds (arr L (mv l i (j + 1))) jk).length:=by rw [hcl,hlm]; omega
     have hq2:j * 2 + 2 ≤ (cellsG Pr.cds (arr L (mv l i (j + 1))) jk).length:=by rw [hcl,hlm]; omega
     have p1:=put2 pr_two hlen0 jk (L.getD l[j] default) rfl
     rw [arr_set] at p1
     have hlen2:j < (arr L ((mv l i (j + 1)).set (j + 1) l[j])).length:=by rw [arr_len,List.length_set,mv_len (by omega) hj]; omega
     have p2:=put2 pr_two hlen2 jk (L.getD i default) rfl
     rw [arr_set,mv_step (by omega) (by omega) i l[j] hgi hgj] at p2
     have hq3:j * 2 + 2 ≤ (cellsG Pr.cds (arr L ((mv l i (j + 1)).set (j + 1) l[j])) jk).length:=by rw [cellsG_len pr_two,arr_len,List.length_set,mv_len (by omega) hj]; omega
     have hdj:decide (0 < ((j + 1:Nat):Int)) = true:=by simp
     have ht0:(((j + 1:Nat):Int)).toNat = j + 1:=by omega
     have hlt1:((j + 1:Nat):Int) < (n:Int):=by omega
     have hlt2:(j:Int) < (n:Int):=by omega
     have hc:=cmp70 (L.getD i default) (L.getD l[j] default) (hti i hi) (hti l[j] (by omega))
     have hcc:decide ((L.getD i default).time - (L.getD l[j] default).time < 0) = decide (keyT L l[j] < keyT L i):=by
      unfold keyT
      rw [Bool.eq_iff_iff]; simp; omega
     have hk1:keyT L i = - (L.getD i default).time:=rfl
     generalize L.getD i default = A at *
     generalize L.getD l[j] default = B at *
     (repeat ((first | refine Va ?_ | refine Vb ?_ | refine Vc ?_ | refine Vd ?_ | refine Ve ?_ | refine Vf ?_); (try simp only [go_sem,hP,w1,e1,hdj,ht0,g1,g2,hq1,hq2,hlt1,hlt2,Pr.cds]); (repeat refine qJ ?_)))
     refine AG_pure (fun _ => hc) rfl (fun _ => rfl) rfl rfl rfl ?_
     simp only [go_sem,hP]
     (repeat ((first | refine Va ?_ | refine Vb ?_ | refine Vc ?_ | refine Vd ?_ | refine Ve ?_ | refine Vf ?_); (try simp only [go_sem,hP]); (repeat refine qJ ?_)))
     rw [hcc]
     (refine WV_cond rfl (fun h => ?_) (fun h => ?_))
     ·have h:keyT L l[j] < keyT L i:=by simpa using h
      (repeat ((first | refine Va ?_ | refine Vb ?_ | refine Vc ?_ | refine Vd ?_ | refine Ve ?_ | refine Vf ?_); (try simp only [go_sem,hP,w1,e1,ht0,g1,g2,hq1,hq2,hq3,hlt1,hlt2,p1,p2,Pr.cds]); (repeat refine qJ ?_)))
      refine ⟨j,⟨by omega,fun t x h3 h4 h5 => ?_⟩,by omega,?_⟩
      ·by_cases htj:t = j
       ·subst htj; rw [hgj] at h5; cases h5; exact h
       ·exact hd t x (by omega) h4 h5
      ·exact Sub_au
     ·have h:¬ keyT L l[j] < keyT L i:=by simpa using h
      have hs':=hs.step (j:=j + 1) hi hj hd (fun x _ hx => by rw [Nat.add_sub_cancel,hgj] at hx; cases hx; omega)
      have w2:=w64 (n:=(i:Int) + 1) (by omega) (by omega)
      (repeat ((first | refine Va ?_ | refine Vb ?_ | refine Vc ?_ | refine Vd ?_ | refine Ve ?_ | refine Vf ?_); (try simp only [go_sem,hP,w2]); (repeat refine qJ ?_)))
      refine ⟨(i + 1,mv l i (j + 1)),⟨by simp only; omega,by simp only; omega,hs'⟩,by simp only; omega,?_⟩
      exact Sub_au
  ·have h:i = n:=by simp at h; omega
   subst h
   (refine WV_exit ?_; simp only [go_sem])
   ((try simp only [thenQ,inQ,RetQL,RetOkL,resAll,resA]); (try simp only [go_sem,tupA,AV.keepP,AV.keepPL]); refine ⟨_,[.box (cellsG Pr.cds (arr L l) jk)],rfl,KeepL_mk rfl rfl ?_ ?_ rfl,?_⟩)
   ·simp only [go_sem,keepAll,Ob.keepP]
   ·simp only [go_sem,winAll]
   ·exact ⟨rfl,_,hs.done (Nat.le_refl _),rfl⟩
set_option maxHeartbeats 4000000 in
theorem stable80 {L:List Pr} {n cap jk:Nat} (hn:0 < n) (hn20:n < 20) (hl0:L.length = n) (ht:∀ p ∈ L,0 ≤ p.time ∧ p.time ≤ 9999) :
  FSpecL Tryz.prog 54 [.vw 2 1000 0 n cap,iv n,.fn 44 []] [.box (cellsG Pr.cds L jk)] [] (fun res l' => res = .tup [] ∧ ∃ l,Ordered (keyT L) n l ∧ l' = [.box (cellsG Pr.cds (arr L l) jk)]):=by
 refine FSpecL_of c54 (by first | simp | exact Nat.le_of_ble_eq_true rfl) (Nat.le_refl _) (by decide) (by decide) fun C hP hN hC hL => ?_; rw [init_env',ownW_upd (by first | simp | exact Nat.le_of_ble_eq_true rfl)]; simp only [ir54,updL,updLo,List.map_nil,List.map_cons,Nat.reduceAdd,]
 (repeat ((first | refine Va ?_ | refine Vb ?_ | refine Vc ?_ | refine Vd ?_ | refine Ve ?_ | refine Vf ?_); (try simp only [go_sem,hP]); (repeat refine qJ ?_)))
 refine WV_loopK K54_1 [1000] (fun _:Unit => True) (fun _ => 0) (fun _ => [(7,iv 0),(8,iv 20)]) (fun _ => [(1000,.box (cellsG Pr.cds L jk))]) () trivial ?_ ?_
 ·exact Sub_au
 ·rintro - -
  simp only [go_sem]
  (repeat ((first | refine Va ?_ | refine Vb ?_ | refine Vc ?_ | refine Vd ?_ | refine Ve ?_ | refine Vf ?_); (try simp only [go_sem,hP]); (repeat refine qJ ?_)))
  (refine WV_cond rfl (fun h => ?_) (fun h => ?_))
  ·have h:(20:Int) ≤ n:=by simpa using h
   omega
  ·(refine WV_exit ?_; simp only [go_sem])
   (repeat ((first | refine Va ?_ | refine Vb ?_ | refine Vc ?_ | refine Vd ?_ | refine Ve ?_ | refine Vf ?_); (try simp only [go_sem,hP]); (repeat refine qJ ?_)))
   refine AS_lend [1000] (ins87 (jk:=jk) hn (by omega) hl0 ht) rfl rfl rfl (by decide) rfl ?_ ?_
   ·simp only [go_sem,obsLend,Ob.lend]
   ·rintro r l' ⟨rfl,l,hl,rfl⟩
    refine ⟨_,_,rfl,by simp only [obsBack,Ob.back,back_cellsG]; rfl,?_⟩
    simp only [go_sem,hP,ownBack]
    (repeat ((first | refine Va ?_ | refine Vb ?_ | refine Vc ?_ | refine Vd ?_ | refine Ve ?_ | refine Vf ?_); (try simp only [go_sem,hP]); (repeat refine qJ ?_)))
    refine WV_loopK K54_2 [1000] (fun _:Unit => True) (fun _ => 0) (fun _ => [(6,iv 20)]) (fun _ => [(1000,.box (cellsG Pr.cds (arr L l) jk))]) () trivial ?_ ?_
    ·exact Sub_au
    ·rintro - -
     simp only [go_sem]
     (repeat ((first | refine Va ?_ | refine Vb ?_ | refine Vc ?_ | refine Vd ?_ | refine Ve ?_ | refine Vf ?_); (try simp only [go_sem,hP]); (repeat refine qJ ?_)))
     (refine WV_cond rfl (fun h => ?_) (fun h => ?_))
     ·have h:(20:Int) < n:=by simpa using h
      omega
     ·(refine WV_exit ?_; simp only [go_sem])
      ((try simp only [thenQ,inQ,RetQL,RetOkL,resAll,resA]); (try simp only [go_sem,tupA,AV.keepP,AV.keepPL]); refine ⟨_,[.box (cellsG Pr.cds (arr L l) jk)],rfl,KeepL_mk rfl rfl ?_ ?_ rfl,?_⟩)
      ·simp only [go_sem,keepAll,Ob.keepP]
      ·simp only [go_sem,winAll]
      ·exact ⟨rfl,_,hl,rfl⟩
theorem sort69 {L:List Pr} {n cap jk:Nat} (hn:0 < n) (hn20:n < 20) (hl0:L.length = n) (ht:∀ p ∈ L,0 ≤ p.time ∧ p.time ≤ 9999) :
  FSpecL Tryz.prog 43 [.vw 2 1000 0 n cap,.fn 44 []] [.box (cellsG Pr.cds L jk)] [] (fun res l' => res = .tup [] ∧ ∃ l,Ordered (keyT L) n l ∧ l' = [.box (cellsG Pr.cds (arr L l) jk)]):=by
 refine FSpecL_of c43 (by first | simp | exact Nat.le_of_ble_eq_true rfl) (Nat.le_refl _) (by decide) (by decide) fun C hP hN hC hL => ?_; rw [init_env',ownW_upd (by first | simp | exact Nat.le_of_ble_eq_true rfl)]; simp only [ir43,updL,updLo,List.map_nil,List.map_cons,Nat.reduceAdd,]
 (repeat ((first | refine Va ?_ | refine Vb ?_ | refine Vc ?_ | refine Vd ?_ | refine Ve ?_ | refine Vf ?_); (try simp only [go_sem,hP]); (repeat refine qJ ?_)))
 refine AS_lend [1000] (stable80 (jk:=jk) hn hn20 hl0 ht) rfl rfl rfl (by decide) rfl ?_ ?_
 ·simp only [go_sem,obsLend,Ob.lend]
 ·rintro r l' ⟨rfl,l,hl,rfl⟩
  refine ⟨_,_,rfl,by simp only [obsBack,Ob.back,back_cellsG]; rfl,?_⟩
  simp only [go_sem,hP,ownBack]
  ((try simp only [thenQ,inQ,RetQL,RetOkL,resAll,resA]); (try simp only [go_sem,tupA,AV.keepP,AV.keepPL]); refine ⟨_,[.box (cellsG Pr.cds (arr L l) jk)],rfl,KeepL_mk rfl rfl ?_ ?_ rfl,?_⟩)
  ·simp only [go_sem,keepAll,Ob.keepP]
  ·simp only [go_sem,winAll]
  ·exact ⟨rfl,_,hl,rfl⟩
theorem clone56 (l:List Pr) (hl:l.length ≤ 1000):FSpec Tryz.prog 42 [.c (prsC l)] (.c (prsC l)):=by
 have hmax:maxLen = 9223372036854775807:=rfl
 refine FSpec_of c42 (Nat.le_refl _) (by decide) fun C hP hN hC hL => ?_; rw [init_st]
 simp only [ir42,prsC]
 cases l with
 | nil =>
  (repeat ((first | refine Va ?_ | refine Vb ?_ | refine Vc ?_ | refine Vd ?_ | refine Ve ?_ | refine Vf ?_); (try simp only [go_sem,hP]); (repeat refine qJ ?_)))
  intro b
  (repeat ((first | refine Va ?_ | refine Vb ?_ | refine Vc ?_ | refine Vd ?_ | refine Ve ?_ | refine Vf ?_); (try simp only [go_sem,hP]); (repeat refine qJ ?_)))
  cases b
  ·(refine WV_cond rfl (fun h => ?_) (fun h => ?_))
   ·simp at h
   ·(repeat ((first | refine Va ?_ | refine Vb ?_ | refine Vc ?_ | refine Vd ?_ | refine Ve ?_ | refine Vf ?_); (try simp only [go_sem,hP,List.all_nil]); (repeat refine qJ ?_)))
    (refine WV_ret ?_; simp only [thenQ,inQ,RetQ,RetOk,resAll,resA]; simp only [go_sem,tupA,AV.port,AV.portL,exists_eq_left']; (first | exact AVle.of rfl | refine AVle.of ?_ | skip))
  ·(refine WV_cond rfl (fun h => ?_) (fun h => ?_))
   ·(repeat ((first | refine Va ?_ | refine Vb ?_ | refine Vc ?_ | refine Vd ?_ | refine Ve ?_ | refine Vf ?_); (try simp only [go_sem,hP]); (repeat refine qJ ?_)))
    (refine WV_ret ?_; simp only [thenQ,inQ,RetQ,RetOk,resAll,resA]; simp only [go_sem,tupA,AV.port,AV.portL,exists_eq_left'])
    exact AVle.nil 2
   ·simp at h
 | cons a l =>
  (repeat ((first | refine Va ?_ | refine Vb ?_ | refine Vc ?_ | refine Vd ?_ | refine Ve ?_ | refine Vf ?_); (try simp only [go_sem,hP]); (repeat refine qJ ?_)))
  (refine WV_cond rfl (fun h => ?_) (fun h => ?_))
  ·simp at h
  ·clear h
   have hp:=prs_two (a :: l)
   simp only [List.map_cons] at hp
   have hlen:l.length + 1 ≤ 1000:=hl
   (repeat ((first | refine Va ?_ | refine Vb ?_ | refine Vc ?_ | refine Vd ?_ | refine Ve ?_ | refine Vf ?_); (try simp only [go_sem,hP,hp,List.length_cons]); (repeat refine qJ ?_)))
   (refine WV_ret ?_; simp only [thenQ,inQ,RetQ,RetOk,resAll,resA]; simp only [go_sem,tupA,AV.port,AV.portL,exists_eq_left']; (first | exact AVle.of rfl | refine AVle.of ?_ | skip))
namespace W
abbrev o42_0:List Ins:=[JS 2 (.mv (.k J0))]
abbrev o42_1:List Ins:=[JS 3 (Jm 0),JS 4 (.nils false (.t 3))]
abbrev o42_2:List Ins:=[JS 2 (.mv (.k J0))]
abbrev v42_3:VC:=(.seq (.ops o42_2) .ret)
abbrev v42_4:VC:=(.cond (.t 4) v42_3 .skip)
abbrev o42_5:List Ins:=[JS 5 (.bsl 84 2 []),JS 6 (Jm 0),JS 7 (.appv 84 2 16 (.t 5) (.t 6)),JS 2 (Jm 7)]
abbrev v42_6:VC:=(.seq (.ops o42_5) .ret)
abbrev v42_7:VC:=(.seq (.seq (.ops o42_1) v42_4) v42_6)
def ir42:FC:=⟨1,8,[.t 2],(.seq (.ops o42_0) v42_7)⟩
theorem c42:compM Tryz.prog [100007] 42 = some ir42:=by kernel_rfl
end W
def postV (S:List Pr) (res:AV) (os:List Ob):Prop:=∃ cap j,S.length ≤ cap ∧ cap ≤ maxLen ∧ cap * 2 ≤ S.length * 2 + j ∧ res = .vw 2 1000 0 S.length cap ∧ os = [.box (cellsG Pr.cds S j)]
theorem cloneN56 (l:List Pr) (hl:l.length ≤ 1000) (hne:l ≠ []):FSpecN Tryz.prog 42 [.c (prsC l)] (postV l):=by
 have hmax:maxLen = 9223372036854775807:=rfl
 refine FSpecN_of W.c42 (Nat.le_refl _) (by decide) fun C hP hN hC hL => ?_
 obtain ⟨a,l,rfl⟩:=List.exists_cons_of_ne_nil hne
 simp only [W.ir42,prsC]
 (repeat ((first | refine Va ?_ | refine Vb ?_ | refine Vc ?_ | refine Vd ?_ | refine Ve ?_ | refine Vf ?_); (try simp only [go_sem,hP]); (repeat refine qJ ?_)))
 (refine WV_cond rfl (fun h => ?_) (fun h => ?_))
 ·simp at h
 ·clear h
  have hp:=prs_two (a :: l)
  simp only [List.map_cons] at hp
  have hlen:l.length + 1 ≤ 1000:=hl
  (repeat ((first | refine Va ?_ | refine Vb ?_ | refine Vc ?_ | refine Vd ?_ | refine Ve ?_ | refine Vf ?_); (try simp only [go_sem,hP,hp,List.length_cons]); (repeat refine qJ ?_)))
  intro cap j h1 h2 h3
  have ecell:List.map AV.c (a.cds :: List.map Pr.cds l).flatten ++ List.replicate j AV.non = cellsG Pr.cds (a :: l) j:=rfl
  simp only [ecell]
  (repeat ((first | refine Va ?_ | refine Vb ?_ | refine Vc ?_ | refine Vd ?_ | refine Ve ?_ | refine Vf ?_); (try simp only [go_sem,hP]); (repeat refine qJ ?_)))
  (refine WV_ret ?_; simp only [thenQ,inQ,RetQN,RetOkN,resAll,resA]; simp only [go_sem,tupA])
  refine ⟨[7],.vw 2 1000 0 (a :: l).length cap,_,[.box (cellsG Pr.cds (a :: l) j)],by decide,by decide,?_,AVle.of rfl,?_,cap,j,?_,h2,?_,rfl,rfl⟩
  ·simp only [go_sem,AV.lend,AV.lendL,List.length_cons]
  ·simp only [go_sem,obsLend,Ob.lend]
  ·simpa using h1
  ·simpa using h3
end Go.Proofs.YtbclmfjibpppfaaGreat

namespace Go.Proofs.YtbclmfjibpppfaaGreat
open Go Go.V
abbrev o45_0:List Ins:=[JS 4 (Jm 0),JS 5 (Jm 1),JS 6 (.nilc (.t 4)),JS 7 (Jf 8 6),JS 8 (Jf 2 7),JN (Js 1 8 5)]
abbrev o45_1:List Ins:=[JF 9 (Jm 0),JF 10 (Jm 0),JF 11 (.nilc (.t 10)),JF 12 (Jf 11 11),JF 13 (Jf 0 12),JF 14 (Jl 13),JF 15 (Jm 0),JF 16 (.nilc (.t 15)),JF 17 (Jf 8 16),JF 18 (JL 3 17),JF 19 (Jm 0),JF 20 (.nilc (.t 19)),JF 21 (Jf 7 20),JF 22 (Jl 21),JF 23 (.bld [Jz 0,Jz 0,Jz 0,Jz 0] [(0,3,(.t 18)),(3,1,(.t 22))]),JF 24 (.bsl 121 4 [.t 23]),JF 25 (.app 121 4 32 (.t 14) (.t 24)),JS 26 (.nilc (.t 9)),JS 27 (Jf 11 26),JS 28 (Jf 0 27),JN (Js 1 28 25)]
def ir45:FC:=⟨2,29,[],(.seq (.ops o45_0) (.dops o45_1))⟩
abbrev o55_0:List Ins:=[JS 2 (Jm 0),JS 3 (.nilc (.t 2)),JS 4 (Jf 5 3),JS 5 (Jl 4),JS 6 (Jn 5),JS 7 (Jk .gtr 6 0),JS 8 (Jm 7),JH 9 (Jm 0) 8 true,JH 10 (.nilc (.t 9)) 8 true,JH 11 (Jf 5 10) 8 true,JH 12 (Jl 11) 8 true,JH 13 (.ia 2 (.t 12) (.k (Jz 0))) 8 true,JH 14 (Jf 1 13) 8 true,JH 15 (Jl 14) 8 true,JH 16 (Jm 0) 8 true,JH 17 (.nilc (.t 16)) 8 true,JH 18 (Jf 7 17) 8 true,JH 19 (Jl 18) 8 true,JG 20 (Jb .leq 15 19) 8 true,JS 21 (Jp 8 20)]
abbrev v55_1:VC:=(.cond (.t 21) .skip (.exit 0))
abbrev o55_2:List Ins:=[JF 22 (Jm 0),JF 23 (.nilc (.t 22)),JF 24 (Jf 6 23),JF 25 (Jl 24),JF 26 (Jm 0),JF 27 (.nilc (.t 26)),JF 28 (Jf 5 27),JF 29 (Jl 28),JF 30 (.ia 2 (.t 29) (.k (Jz 0))),JF 31 (Jf 0 30),JF 32 (Jl 31),JS 33 (Ja 1 25 32),JN (.st 1 (.t 33) (.k (.c (.bool true))))]
abbrev o55_3:List Ins:=[JS 34 (Jm 0),JS 35 (Jm 0),JS 36 (.nilc (.t 35)),JS 37 (Jf 5 36),JS 38 (Jl 37),JS 39 (.slc 2 (.t 38) (some (.k (Jz 1))) none),JS 40 (.nilc (.t 34)),JS 41 (Jf 5 40),JN (Js 1 41 39)]
abbrev v55_4:VC:=(.seq (.dops o55_2) (.ops o55_3))
abbrev v55_5:VC:=(.block 1 v55_4)
abbrev v55_6:VC:=(.seq (.seq (.dops o55_0) v55_1) v55_5)
-- K55_1: changed and kept: []
abbrev K55_1:List Nat:=[0]
abbrev v55_7:VC:=(.loop v55_6)
def ir55:FC:=⟨1,42,[],(.block 0 v55_7)⟩
abbrev o56_0:List Ins:=[JS 4 (JB false)]
abbrev o56_1:List Ins:=[JS 5 (Jm 0),JS 6 (Jm 1),JS 7 (Jc 67 [.t 5,.t 6]),JS 8 (Jk .geq 7 0),JS 4 (Jm 8)]
abbrev v56_2:VC:=(.seq (.ops o56_1) .ret)
def ir56:FC:=⟨2,9,[.t 4],(.seq (.ops o56_0) v56_2)⟩
abbrev o67_0:List Ins:=[JS 4 (Ji 0)]
abbrev o67_1:List Ins:=[JS 6 (Jm 0),JS 7 (Jn 6),JS 8 (Ji 0)]
abbrev o67_2:List Ins:=[JS 9 (Jb .lss 8 7)]
abbrev o67_3:List Ins:=[JS 10 (Jm 8),JS 5 (Jm 10)]
abbrev o67_4:List Ins:=[JS 11 (Jm 1),JS 12 (Jm 0),JS 13 (Jm 5),JS 14 (Ja 1 12 13),JS 15 (Jl 14),JS 16 (.eqs false (.t 11) (.t 15))]
abbrev o67_5:List Ins:=[JS 17 (Jm 5),JS 4 (Jm 17)]
abbrev v67_6:VC:=(.seq (.ops o67_5) .ret)
abbrev v67_7:VC:=(.cond (.t 16) v67_6 .skip)
abbrev v67_8:VC:=(.seq (.ops o67_4) v67_7)
abbrev v67_9:VC:=(.seq (.ops o67_3) v67_8)
abbrev o67_10:List Ins:=[JS 18 (Jk .add 8 1),JS 8 (Jm 18)]
abbrev v67_11:VC:=(.seq (.block 1 v67_9) (.ops o67_10))
abbrev v67_12:VC:=(.seq (.cond (.t 9) .skip (.exit 0)) v67_11)
abbrev v67_13:VC:=(.seq (.ops o67_2) v67_12)
-- K67_1: changed and kept: [8]
abbrev K67_1:List Nat:=[0,1,7]
abbrev v67_14:VC:=(.loop v67_13)
abbrev v67_15:VC:=(.block 0 v67_14)
abbrev o67_16:List Ins:=[JS 4 (Ji (-1))]
abbrev v67_17:VC:=(.seq (.ops o67_16) .ret)
abbrev v67_18:VC:=(.seq (.seq (.ops o67_1) v67_15) v67_17)
def ir67:FC:=⟨2,19,[.t 4],(.seq (.ops o67_0) v67_18)⟩
abbrev o57_0:List Ins:=[JS 2 (.box 5 (.t 0)),JS 4 (Ji 0)]
abbrev o57_1:List Ins:=[JS 5 (Jm 1),JS 6 (Jk .rem 5 2),JS 7 (Jk .eql 6 0)]
abbrev o57_2:List Ins:=[JS 8 (Jf 0 2),JS 9 (Jl 8),JS 10 (Jm 1),JS 11 (Jk .quo 10 2),JS 12 (Ja 2 9 11),JS 13 (Jf 0 12),JS 14 (Jl 13),JS 4 (Jm 14)]
abbrev v57_3:VC:=(.seq (.ops o57_2) .ret)
abbrev v57_4:VC:=(.cond (.t 7) v57_3 .skip)
abbrev o57_5:List Ins:=[JS 15 (Jf 0 2),JS 16 (Jl 15),JS 17 (Jm 1),JS 18 (Jk .quo 17 2),JS 19 (Ja 2 16 18),JS 20 (Jf 1 19),JS 21 (Jl 20),JS 4 (Jm 21)]
abbrev v57_6:VC:=(.seq (.ops o57_5) .ret)
abbrev v57_7:VC:=(.seq (.seq (.ops o57_1) v57_4) v57_6)
def ir57:FC:=⟨2,22,[.t 4],(.seq (.ops o57_0) v57_7)⟩
theorem c45:compM Tryz.prog [] 45 = some ir45:=by kernel_rfl
theorem c55:compM Tryz.prog [] 55 = some ir55:=by kernel_rfl
theorem c56:compM Tryz.prog [] 56 = some ir56:=by kernel_rfl
theorem c67:compM Tryz.prog [] 67 = some ir67:=by kernel_rfl
theorem c57:compM Tryz.prog [] 57 = some ir57:=by kernel_rfl
attribute [local go_sem] Nat.reduceEqDiff Nat.reduceAdd Nat.reduceMul reduceIte Nat.reduceLeDiff Nat.reduceLT Nat.reduceBEq reduceCtorEq
def bcd (b:Bool):List CD:=[.bool b]
theorem bcd_one (b:Bool):(bcd b).length = 1:=rfl
def carC (t:Tray) (s:Cs):List AV:=[.c (recsC t.recs),iv t.at_,iv t.way,iv t.step,.c (prsC t.pres),.c (prsC s.q),.vw 1 1001 0 (2 * t.n) (2 * t.n),iv s.now,iv s.at_,iv (wayI s.up),iv s.side,.gr 1002,.gr 1003,iv s.steps,iv s.end_]
def carO (t:Tray) (s:Cs):List Ob:=[.box (carC t s),.box (cellsG bcd s.pins 0),.grow 121 4 (s.spells.map Sp.cds),.grow 123 2 (s.plays.map Pr.cds)]
theorem sps_four (l:List Sp):((l.map Sp.cds).all fun e => e.length == 4) = true:=by
 rw [List.all_eq_true]; intro e he; obtain ⟨n,_,rfl⟩:=List.mem_map.1 he; rfl
theorem carO_place2 (t:Tray) (s:Cs):(ownW (carO t s) [] 1002).isPlace = false:=rfl
theorem carO_place3 (t:Tray) (s:Cs):(ownW (carO t s) [] 1003).isPlace = false:=rfl
set_option maxRecDepth 20000 in
set_option maxHeartbeats 8000000 in
theorem mark71 (t:Tray) (s:Cs) (side:Int) (h1:s.spells.length ≤ 5000) :
  FSpecL Tryz.prog 45 [.bp 1000 0,iv side] (carO t s) [] (fun res l' => res = .tup [] ∧ l' = carO t (s.mark side)):=by
 have hmax:maxLen = 9223372036854775807:=rfl
 have hs4:=sps_four s.spells
 refine FSpecL_ofX c45 (by first | simp | exact Nat.le_of_ble_eq_true rfl) (Nat.le_refl _) (by decide) (by decide) fun C hP hN hC hpin hL => ?_; rw [init_env',ownW_upd (by first | simp | exact Nat.le_of_ble_eq_true rfl)]; simp only [ir45,updL,updLo,List.map_nil,List.map_cons,Nat.reduceAdd,carO,carC]
 refine WV_post ?_
 (repeat ((first | refine Va ?_ | refine Vb ?_ | refine Vc ?_ | refine Vd ?_ | refine Ve ?_ | refine Vf ?_); (try simp only [go_sem,hP,hs4,List.length_append,List.length_map]); (repeat refine qJ ?_)))
 refine ⟨_,fun a w hg => Gam_move (d:=25) (n:=1002) (by decide) (fun h => by have:=hpin 1002 h; rw [carO_place2] at this; cases this) rfl hg,?_⟩
 simp only [go_sem]
 ((try simp only [thenQ,inQ,RetQL,RetOkL,resAll,resA]); (try simp only [go_sem,tupA,AV.keepP,AV.keepPL]); refine ⟨_,carO t (s.mark side),rfl,KeepL_mk rfl rfl ?_ ?_ rfl,?_⟩)
 ·simp only [go_sem,keepAll,Ob.keepP,AV.keepP,AV.keepPL,carO,carC,Cs.mark,List.map_append,Sp.cds]
 ·simp only [go_sem,winAll]
 ·exact ⟨rfl,rfl⟩
def idxB (v:Bool):List Bool → Int → Int
 | [],_ => -1
 | b :: l,k => if v == b then k else idxB v l (k + 1)
theorem idxB_any:∀ (l:List Bool) (k:Int),0 ≤ k → decide (0 ≤ idxB true l k) = !(l.all (!·))
 | [],k,_ => rfl
 | b :: l,k,hk => by
  cases b
  ·have e:idxB true (false :: l) k = idxB true l (k + 1):=rfl
   rw [e,idxB_any l (k + 1) (by omega)]
   rfl
  ·have e:idxB true (true :: l) k = k:=rfl
   rw [e]
   simp; omega
set_option maxHeartbeats 4000000 in
theorem index89 (l:List Bool) (v:Bool) (hl:l.length ≤ 1000):FSpec Tryz.prog 67 [.c (.sl 1 (l.map bcd)),bv v] (iv (idxB v l 0)):=by
 refine FSpec_of c67 (Nat.le_refl _) (by decide) fun C hP hN hC hL => ?_; rw [init_st]
 simp only [ir67]
 (repeat ((first | refine Va ?_ | refine Vb ?_ | refine Vc ?_ | refine Vd ?_ | refine Ve ?_ | refine Vf ?_); (try simp only [go_sem,hP,List.length_map]); (repeat refine qJ ?_)))
 (refine WV_loopK K67_1 [] (fun k:Nat => k ≤ l.length ∧ idxB v l 0 = idxB v (l.drop k) k) (fun k => l.length - k) (fun k => [(8,iv k)]) (fun _ => []) 0 ⟨Nat.zero_le _,rfl⟩ ?_ ?_)
 ·exact Sub_au
 ·intro k ⟨hk,hx⟩
  simp only [go_sem]
  (repeat ((first | refine Va ?_ | refine Vb ?_ | refine Vc ?_ | refine Vd ?_ | refine Ve ?_ | refine Vf ?_); (try simp only [go_sem,hP]); (repeat refine qJ ?_)))
  (refine WV_cond rfl (fun h => ?_) (fun h => ?_))
  ·have h:k < l.length:=by simpa using h
   have hI:(k:Int) < (l.length:Int):=by omega
   have hw2:=w64 (n:=(k:Int) + 1) (by omega) (by omega)
   rw [List.drop_eq_getElem_cons h] at hx
   simp only [idxB] at hx
   (repeat ((first | refine Va ?_ | refine Vb ?_ | refine Vc ?_ | refine Vd ?_ | refine Ve ?_ | refine Vf ?_); (try simp only [go_sem,hP,map_getD h,hI,List.length_map,bcd]); (repeat refine qJ ?_)))
   cases hb:(v == l[k])
   ·rw [hb] at hx
    (refine WV_cond rfl (fun h => ?_) (fun h => ?_))
    ·simp at h
    ·(repeat ((first | refine Va ?_ | refine Vb ?_ | refine Vc ?_ | refine Vd ?_ | refine Ve ?_ | refine Vf ?_); (try simp only [go_sem,hP,hw2]); (repeat refine qJ ?_)))
     refine ⟨k + 1,⟨by omega,by rw [hx]; rfl⟩,by omega,?_⟩
     exact Sub_au
   ·rw [hb] at hx
    (refine WV_cond rfl (fun h => ?_) (fun h => ?_))
    ·(repeat ((first | refine Va ?_ | refine Vb ?_ | refine Vc ?_ | refine Vd ?_ | refine Ve ?_ | refine Vf ?_); (try simp only [go_sem,hP]); (repeat refine qJ ?_)))
     (refine WV_ret ?_; simp only [thenQ,inQ,RetQ,RetOk,resAll,resA]; simp only [go_sem,tupA,AV.port,AV.portL,exists_eq_left']; (first | exact AVle.of rfl | refine AVle.of ?_ | skip))
     rw [hx]; rfl
    ·simp at h
  ·have h:k = l.length:=by simp at h; omega
   subst h
   (repeat ((first | refine Va ?_ | refine Vb ?_ | refine Vc ?_ | refine Vd ?_ | refine Ve ?_ | refine Vf ?_); (try simp only [go_sem,hP]); (repeat refine qJ ?_)))
   (refine WV_ret ?_; simp only [thenQ,inQ,RetQ,RetOk,resAll,resA]; simp only [go_sem,tupA,AV.port,AV.portL,exists_eq_left']; (first | exact AVle.of rfl | refine AVle.of ?_ | skip))
   rw [hx,List.drop_length]
   rfl
theorem contains82 (l:List Bool) (hl:l.length ≤ 1000):FSpec Tryz.prog 56 [.c (.sl 1 (l.map bcd)),bv true] (bv (!(l.all (!·)))):=by
 refine FSpec_of c56 (Nat.le_refl _) (by decide) fun C hP hN hC hL => ?_; rw [init_st]
 simp only [ir56]
 (repeat ((first | refine Va ?_ | refine Vb ?_ | refine Vc ?_ | refine Vd ?_ | refine Ve ?_ | refine Vf ?_); (try simp only [go_sem,hP]); (repeat refine qJ ?_)))
 (refine AS_pu (index89 l true hl) ?_; simp only [go_sem,hP]; (repeat refine qJ ?_); (repeat ((first | refine Va ?_ | refine Vb ?_ | refine Vc ?_ | refine Vd ?_ | refine Ve ?_ | refine Vf ?_); (try simp only [go_sem,hP]); (repeat refine qJ ?_))))
 (refine WV_ret ?_; simp only [thenQ,inQ,RetQ,RetOk,resAll,resA]; simp only [go_sem,tupA,AV.port,AV.portL,exists_eq_left']; (first | exact AVle.of rfl | refine AVle.of ?_ | skip))
 exact congrArg (fun b => AV.c (CD.bool b)) (idxB_any l 0 (Int.le_refl _))
theorem last83 {t:Tray} (ht:TrayOk t) (s:Nat) (hs:s < 2 * t.n):FSpec Tryz.prog 57 [t.av,iv s] (iv (secs t s)):=by
 have hn6:=ht.n6
 have e1:((s:Int)).tmod 2 = ((s % 2:Nat):Int):=by rw [Int.tmod_eq_emod_of_nonneg (by omega)]; omega
 have e2:((s:Int)).tdiv 2 = ((s / 2:Nat):Int):=by rw [Int.tdiv_eq_ediv_of_nonneg (by omega)]; omega
 have hk:s / 2 < t.recs.length:=by show s / 2 < t.n; omega
 have hI:((s / 2:Nat):Int) < (t.recs.length:Int):=by omega
 have w1:=w64 (n:=((s / 2:Nat):Int)) (by omega) (by omega)
 have hrc:t.rc (s / 2) = t.recs[s / 2]:=by unfold Tray.rc; simp [hk]
 refine FSpec_of c57 (Nat.le_refl _) (by decide) fun C hP hN hC hL => ?_; rw [init_st]
 simp only [ir57,Tray.av]
 (repeat ((first | refine Va ?_ | refine Vb ?_ | refine Vc ?_ | refine Vd ?_ | refine Ve ?_ | refine Vf ?_); (try simp only [go_sem,hP,e1]); (repeat refine qJ ?_)))
 (refine WV_cond rfl (fun h => ?_) (fun h => ?_))
 ·have h:s % 2 = 0:=by simp at h; omega
  (repeat ((first | refine Va ?_ | refine Vb ?_ | refine Vc ?_ | refine Vd ?_ | refine Ve ?_ | refine Vf ?_); (try simp only [go_sem,hP,e2,w1,recsC,List.length_map,hI,map_getD hk,Rec.cds,Int.natCast_nonneg]); (repeat refine qJ ?_)))
  (refine WV_ret ?_; simp only [thenQ,inQ,RetQ,RetOk,resAll,resA]; simp only [go_sem,tupA,AV.port,AV.portL,exists_eq_left']; (first | exact AVle.of rfl | refine AVle.of ?_ | skip))
  rw [secs,if_pos h,hrc]
 ·have h:¬ s % 2 = 0:=by simp at h; omega
  (repeat ((first | refine Va ?_ | refine Vb ?_ | refine Vc ?_ | refine Vd ?_ | refine Ve ?_ | refine Vf ?_); (try simp only [go_sem,hP,e2,w1,recsC,List.length_map,hI,map_getD hk,Rec.cds,Int.natCast_nonneg]); (repeat refine qJ ?_)))
  (refine WV_ret ?_; simp only [thenQ,inQ,RetQ,RetOk,resAll,resA]; simp only [go_sem,tupA,AV.port,AV.portL,exists_eq_left']; (first | exact AVle.of rfl | refine AVle.of ?_ | skip))
  rw [secs,if_neg h,hrc]
set_option maxRecDepth 20000 in
set_option maxHeartbeats 8000000 in
theorem press81 {t:Tray} (ht:TrayOk t) {s:Cs} (hs:CsOk t s) (hq:s.q.length ≤ 1000) :
  FSpecL Tryz.prog 55 [.bp 1000 0] (carO t s) [] (fun res l' => res = .tup [] ∧ l' = carO t s.press):=by
 have hn6:=ht.n6
 have hp:=hs.pins
 have hqo:=hs.q
 refine FSpecL_of c55 (by first | simp | exact Nat.le_of_ble_eq_true rfl) (Nat.le_refl _) (by decide) (by decide) fun C hP hN hC hL => ?_; rw [init_env',ownW_upd (by first | simp | exact Nat.le_of_ble_eq_true rfl)]; simp only [ir55,updL,updLo,List.map_nil,List.map_cons,Nat.reduceAdd,carO,carC]
 (repeat ((first | refine Va ?_ | refine Vb ?_ | refine Vc ?_ | refine Vd ?_ | refine Ve ?_ | refine Vf ?_); (try simp only [go_sem,hP]); (repeat refine qJ ?_)))
 refine WV_loopK K55_1 [1000,1001] (fun p:List Pr × List Bool => p.1.length ≤ 1000 ∧ p.2.length = 2 * t.n ∧ (∀ x ∈ p.1,0 ≤ x.side ∧ x.side < 2 * (t.n:Int)) ∧ pressQ s.now s.q s.pins = pressQ s.now p.1 p.2) (fun p => p.1.length) (fun _ => [])
  (fun p => [(1000,.box (carC t { s with q:=p.1,pins:=p.2 })),(1001,.box (cellsG bcd p.2 0))]) (s.q,s.pins) ⟨hq,hp,fun x hx => (hqo x hx).1,rfl⟩ ?_ ?_
 ·simp only [carC]
  exact Sub_au
 ·rintro ⟨q,pins⟩ ⟨hl,hpl,hqs,hpq⟩
  simp only at hl hpl hqs hpq
  simp only [go_sem,carC]
  cases q with
  | nil =>
   (repeat ((first | refine Va ?_ | refine Vb ?_ | refine Vc ?_ | refine Vd ?_ | refine Ve ?_ | refine Vf ?_); (try simp only [go_sem,hP,prsC,List.map_nil,List.length_nil,Int.natCast_zero]); (repeat refine qJ ?_)))
   (refine WV_cond rfl (fun h => ?_) (fun h => ?_))
   ·simp at h
   ·(refine WV_exit ?_; simp only [go_sem])
    ((try simp only [thenQ,inQ,RetQL,RetOkL,resAll,resA]); (try simp only [go_sem,tupA,AV.keepP,AV.keepPL]); refine ⟨_,carO t s.press,rfl,KeepL_mk rfl rfl ?_ ?_ rfl,?_⟩)
    ·have e1:s.press.q = []:=by simp only [Cs.press,hpq]; rfl
     have e2:s.press.pins = pins:=by simp only [Cs.press,hpq]; rfl
     simp only [carO,carC,e1,e2]
     simp only [go_sem,keepAll,Ob.keepP,AV.keepP,AV.keepPL,Cs.press,prsC,List.map_nil]
    ·simp only [go_sem,winAll]
    ·exact ⟨rfl,rfl⟩
  | cons p q =>
   have hps:=hqs p (by simp)
   have hlen:q.length + 1 ≤ 1000:=hl
   have hd:decide ((0:Int) < ((q.length + 1:Nat):Int)) = true:=by simp
   have e1:(((q.length + 1:Nat):Int)).toNat = q.length + 1:=by omega
   have e2:(q.map Pr.cds).take q.length = q.map Pr.cds:=List.take_of_length_le (by simp)
   have hI:(0:Int) < ((q.length + 1:Nat):Int):=by omega
   have hI1:(1:Int) ≤ ((q.length + 1:Nat):Int):=by omega
   have z1:((0:Int)).toNat = 0:=rfl
   have z2:((1:Int)).toNat = 1:=rfl
   simp only [pressQ] at hpq
   (repeat ((first | refine Va ?_ | refine Vb ?_ | refine Vc ?_ | refine Vd ?_ | refine Ve ?_ | refine Vf ?_); (try simp only [go_sem,hP,prsC,List.map_cons,List.length_cons,hd,hI,z1,Pr.cds]); (repeat refine qJ ?_)))
   (refine WV_cond rfl (fun h => ?_) (fun h => ?_))
   ·have h:p.time ≤ s.now:=by simpa using h
    rw [if_pos h] at hpq
    have hk:p.side.toNat < pins.length:=by omega
    have hcl:(cellsG bcd pins 0).length = 2 * t.n:=by rw [cellsG_len bcd_one,hpl]; omega
    have hset:(cellsG bcd pins 0).set p.side.toNat (.c (.bool true)) = cellsG bcd (pins.set p.side.toNat true) 0:=by
     have:=cellsG_set bcd_one hk 0 0 (by decide) (.bool true) true rfl
     rwa [Nat.mul_one,Nat.add_zero] at this
    have hI2:p.side < ((2 * t.n:Nat):Int):=by omega
    have hc1:p.side.toNat < 2 * t.n:=by omega
    have hc2:p.side.toNat + 1 ≤ 2 * t.n:=by omega
    (repeat ((first | refine Va ?_ | refine Vb ?_ | refine Vc ?_ | refine Vd ?_ | refine Ve ?_ | refine Vf ?_); (try simp only [go_sem,hP,prsC,List.map_cons,List.length_cons,hI,hI1,z1,z2,e1,e2,hps.1,hI2,hcl,hc1,hc2,hset,Pr.cds]); (repeat refine qJ ?_)))
    refine ⟨(q,pins.set p.side.toNat true),⟨by simp only; omega,by simpa using hpl,fun x hx => hqs x (by simp [hx]),hpq⟩,by simp,?_⟩
    simp only [carC,prsC]
    exact Sub_au
   ·have h:¬ p.time ≤ s.now:=by simpa using h
    rw [if_neg h] at hpq
    (refine WV_exit ?_; simp only [go_sem])
    ((try simp only [thenQ,inQ,RetQL,RetOkL,resAll,resA]); (try simp only [go_sem,tupA,AV.keepP,AV.keepPL]); refine ⟨_,carO t s.press,rfl,KeepL_mk rfl rfl ?_ ?_ rfl,?_⟩)
    ·have e1:s.press.q = p :: q:=by simp only [Cs.press,hpq]
     have e2:s.press.pins = pins:=by simp only [Cs.press,hpq]
     simp only [carO,carC,e1,e2]
     simp only [go_sem,keepAll,Ob.keepP,AV.keepP,AV.keepPL,Cs.press,prsC,List.map_cons,Pr.cds]
    ·simp only [go_sem,winAll]
    ·exact ⟨rfl,rfl⟩
end Go.Proofs.YtbclmfjibpppfaaGreat

namespace Go.Proofs.YtbclmfjibpppfaaGreat
open Go Go.V
abbrev o58_0:List Ins:=[JF 3 (Jm 0),JF 4 (.nilc (.t 3)),JF 5 (Jf 8 4),JF 6 (Jf 0 5),JF 7 (Jl 6),JF 8 (Jm 0),JF 9 (.nilc (.t 8)),JF 10 (Jf 8 9),JF 11 (Jf 1 10),JF 12 (Jl 11),JS 13 (Jb .add 7 12),JS 2 (Jm 13)]
abbrev o58_1:List Ins:=[JS 14 (Jm 2),JS 15 (Jk .geq 14 0),JS 16 (Jm 15),JG 17 (Jm 2) 16 true,JG 18 (Jm 0) 16 true,JG 19 (.nilc (.t 18)) 16 true,JG 20 (Jf 0 19) 16 true,JG 21 (Jf 0 20) 16 true,JG 22 (Jl 21) 16 true,JG 23 (Jn 22) 16 true,JG 24 (Jb .lss 17 23) 16 true,JS 25 (Jp 16 24)]
abbrev o58_2:List Ins:=[JS 26 (Jm 0),JS 27 (Jm 2),JS 28 (.nilc (.t 26)),JS 29 (Jf 8 28),JS 30 (Jf 0 29),JN (Js 1 30 27)]
abbrev o58_3:List Ins:=[JF 31 (Jm 0),JF 32 (.nilc (.t 31)),JF 33 (Jf 7 32),JF 34 (Jl 33),JF 35 (Jm 0),JF 36 (.nilc (.t 35)),JF 37 (Jf 0 36),JF 38 (Jf 3 37),JF 39 (Jl 38),JS 40 (Jb .add 34 39),JS 41 (.nilc (.t 31)),JS 42 (Jf 7 41),JN (Js 1 42 40)]
abbrev o58_4:List Ins:=[JS 43 (Jm 0),JS 44 (.nilc (.t 43)),JS 45 (Jf 11 44),JS 46 (Jf 2 45),JS 47 (Jl 46),JS 48 (Jk .add 47 1),JS 49 (.nilc (.t 43)),JS 50 (Jf 11 49),JS 51 (Jf 2 50),JN (Js 1 51 48)]
abbrev v58_5:VC:=(.seq (.dops o58_3) (.ops o58_4))
abbrev v58_6:VC:=(.seq (.ops o58_2) v58_5)
abbrev o58_7:List Ins:=[JS 52 (Jm 0),JS 53 (Jm 0),JS 54 (.nilc (.t 53)),JS 55 (Jf 8 54),JS 56 (Jf 1 55),JS 57 (Jl 56),JS 58 (.un .neg (.t 57)),JS 59 (.nilc (.t 52)),JS 60 (Jf 8 59),JS 61 (Jf 1 60),JN (Js 1 61 58)]
abbrev v58_8:VC:=(.cond (.t 25) v58_6 (.ops o58_7))
abbrev v58_9:VC:=(.seq (.ops o58_1) v58_8)
abbrev o58_10:List Ins:=[JS 62 (Jm 0),JS 63 (Jc 45 [.t 62,(.k (Jz (-1)))])]
def ir58:FC:=⟨1,64,[],(.seq (.seq (.dops o58_0) v58_9) (.ops o58_10))⟩
theorem c58:compM Tryz.prog [] 58 = some ir58:=by kernel_rfl
attribute [local go_sem] Nat.reduceEqDiff Nat.reduceAdd Nat.reduceMul reduceIte Nat.reduceLeDiff Nat.reduceLT Nat.reduceBEq reduceCtorEq
set_option maxRecDepth 20000 in
set_option maxHeartbeats 16000000 in
theorem next84 {t:Tray} (ht:TrayOk t) {s:Cs} (hs:CsOk t s) (h1:s.spells.length ≤ 5000) (h2:s.now ≤ 1000000) (h3:0 ≤ s.steps ∧ s.steps ≤ 1000000) :
  FSpecL Tryz.prog 58 [.bp 1000 0] (carO t s) [] (fun res l' => res = .tup [] ∧ l' = carO t (s.next t)):=by
 have hn6:=ht.n6
 have hat:=hs.at_
 have hnow:=hs.now
 have hst:=ht.step
 have hnl:t.recs.length = t.n:=rfl
 have w1:=w64 (n:=s.now + t.step) (by omega) (by omega)
 have w2:=w64 (n:=s.steps + 1) (by omega) (by omega)
 refine FSpecL_of c58 (by first | simp | exact Nat.le_of_ble_eq_true rfl) (Nat.le_refl _) (by decide) (by decide) fun C hP hN hC hL => ?_; rw [init_env',ownW_upd (by first | simp | exact Nat.le_of_ble_eq_true rfl)]; simp only [ir58,updL,updLo,List.map_nil,List.map_cons,Nat.reduceAdd,carO,carC]
 cases hu:s.up
 ·have hw:wayI false = -1:=rfl
  have hwn:IntKind.i64.wrap (0 - -1) = 1:=by decide
  have w3:=w64 (n:=(s.at_:Int) + -1) (by omega) (by omega)
  have hI2:decide ((s.at_:Int) + -1 < (t.n:Int)) = true:=by simp; omega
  by_cases h0:0 < s.at_
  ·have ea:(s.at_:Int) + -1 = ((s.at_ - 1:Nat):Int):=by omega
   rw [ea] at w3 hI2
   have em:s.move t = { s with at_:=s.at_ - 1,now:=s.now + t.step,steps:=s.steps + 1 }:=by simp [Cs.move,hu,h0]
   have hmk:=mark71 t { s with at_:=s.at_ - 1,now:=s.now + t.step,steps:=s.steps + 1 } (-1) h1
   (repeat ((first | refine Va ?_ | refine Vb ?_ | refine Vc ?_ | refine Vd ?_ | refine Ve ?_ | refine Vf ?_); (try simp only [go_sem,hP,hw,ea,w3,recsC,List.length_map,hnl,hI2]); (repeat refine qJ ?_)))
   (refine WV_cond rfl (fun h => ?_) (fun h => ?_))
   ·(repeat ((first | refine Va ?_ | refine Vb ?_ | refine Vc ?_ | refine Vd ?_ | refine Ve ?_ | refine Vf ?_); (try simp only [go_sem,hP,w1,w2]); (repeat refine qJ ?_)))
    (refine AS_lend [1000,1001,1002,1003] (hmk) rfl rfl rfl (by decide) rfl (by simp only [go_sem,obsLend,Ob.lend,AV.lend,AV.lendL,carO,carC,hu,hw,recsC]) ?_)
    rintro r l' ⟨rfl,rfl⟩
    (refine ⟨_,_,rfl,(by simp only [carO,carC,obsBack,Ob.back,AV.back,AV.backL,back_cellsG,hu,hw]; rfl),?_⟩; simp only [go_sem,hP,ownBack,hu,hw])
    ((try simp only [thenQ,inQ,RetQL,RetOkL,resAll,resA]); (try simp only [go_sem,tupA,AV.keepP,AV.keepPL]); refine ⟨_,carO t (s.next t),rfl,KeepL_mk rfl rfl ?_ ?_ rfl,?_⟩)
    ·simp only [Cs.next,em]
     simp only [go_sem,keepAll,Ob.keepP,AV.keepP,AV.keepPL,carO,carC,Cs.mark,hu,hw,recsC]
    ·simp only [go_sem,winAll]
    ·exact ⟨rfl,rfl⟩
   ·simp at h
  ·have ea:s.at_ = 0:=by omega
   have em:s.move t = { s with up:=true }:=by simp [Cs.move,hu,h0]
   have hmk:=mark71 t { s with up:=true } (-1) h1
   have hd:decide ((0:Int) ≤ (s.at_:Int) + -1) = false:=by simp; omega
   (repeat ((first | refine Va ?_ | refine Vb ?_ | refine Vc ?_ | refine Vd ?_ | refine Ve ?_ | refine Vf ?_); (try simp only [go_sem,hP,hw,w3,recsC,List.length_map,hnl,hI2,hd]); (repeat refine qJ ?_)))
   (refine WV_cond rfl (fun h => ?_) (fun h => ?_))
   ·simp at h
   ·(repeat ((first | refine Va ?_ | refine Vb ?_ | refine Vc ?_ | refine Vd ?_ | refine Ve ?_ | refine Vf ?_); (try simp only [go_sem,hP,hwn]); (repeat refine qJ ?_)))
    (refine AS_lend [1000,1001,1002,1003] (hmk) rfl rfl rfl (by decide) rfl (by simp only [go_sem,obsLend,Ob.lend,AV.lend,AV.lendL,carO,carC,hu,hw,wayI,recsC]) ?_)
    rintro r l' ⟨rfl,rfl⟩
    (refine ⟨_,_,rfl,(by simp only [carO,carC,obsBack,Ob.back,AV.back,AV.backL,back_cellsG,hu,hw]; rfl),?_⟩; simp only [go_sem,hP,ownBack,hu,hw])
    ((try simp only [thenQ,inQ,RetQL,RetOkL,resAll,resA]); (try simp only [go_sem,tupA,AV.keepP,AV.keepPL]); refine ⟨_,carO t (s.next t),rfl,KeepL_mk rfl rfl ?_ ?_ rfl,?_⟩)
    ·simp only [Cs.next,em]
     simp only [go_sem,keepAll,Ob.keepP,AV.keepP,AV.keepPL,carO,carC,Cs.mark,wayI,recsC]
    ·simp only [go_sem,winAll]
    ·exact ⟨rfl,rfl⟩
 ·have hw:wayI true = 1:=rfl
  have hwn:IntKind.i64.wrap (0 - 1) = -1:=by decide
  have w3:=w64 (n:=(s.at_:Int) + 1) (by omega) (by omega)
  have hI2:decide ((0:Int) ≤ (s.at_:Int) + 1) = true:=by simp; omega
  by_cases h0:s.at_ + 1 < t.n
  ·have ea:(s.at_:Int) + 1 = ((s.at_ + 1:Nat):Int):=by omega
   rw [ea] at w3 hI2
   have em:s.move t = { s with at_:=s.at_ + 1,now:=s.now + t.step,steps:=s.steps + 1 }:=by simp [Cs.move,hu,h0]
   have hmk:=mark71 t { s with at_:=s.at_ + 1,now:=s.now + t.step,steps:=s.steps + 1 } (-1) h1
   have hd:decide (((s.at_ + 1:Nat):Int) < (t.n:Int)) = true:=by simp; omega
   (repeat ((first | refine Va ?_ | refine Vb ?_ | refine Vc ?_ | refine Vd ?_ | refine Ve ?_ | refine Vf ?_); (try simp only [go_sem,hP,hw,ea,w3,recsC,List.length_map,hnl,hI2,hd]); (repeat refine qJ ?_)))
   (refine WV_cond rfl (fun h => ?_) (fun h => ?_))
   ·(repeat ((first | refine Va ?_ | refine Vb ?_ | refine Vc ?_ | refine Vd ?_ | refine Ve ?_ | refine Vf ?_); (try simp only [go_sem,hP,w1,w2]); (repeat refine qJ ?_)))
    (refine AS_lend [1000,1001,1002,1003] (hmk) rfl rfl rfl (by decide) rfl (by simp only [go_sem,obsLend,Ob.lend,AV.lend,AV.lendL,carO,carC,hu,hw,recsC]) ?_)
    rintro r l' ⟨rfl,rfl⟩
    (refine ⟨_,_,rfl,(by simp only [carO,carC,obsBack,Ob.back,AV.back,AV.backL,back_cellsG,hu,hw]; rfl),?_⟩; simp only [go_sem,hP,ownBack,hu,hw])
    ((try simp only [thenQ,inQ,RetQL,RetOkL,resAll,resA]); (try simp only [go_sem,tupA,AV.keepP,AV.keepPL]); refine ⟨_,carO t (s.next t),rfl,KeepL_mk rfl rfl ?_ ?_ rfl,?_⟩)
    ·simp only [Cs.next,em]
     simp only [go_sem,keepAll,Ob.keepP,AV.keepP,AV.keepPL,carO,carC,Cs.mark,hu,hw,recsC]
    ·simp only [go_sem,winAll]
    ·exact ⟨rfl,rfl⟩
   ·simp at h
  ·have em:s.move t = { s with up:=false }:=by simp [Cs.move,hu,h0]
   have hmk:=mark71 t { s with up:=false } (-1) h1
   have hd:decide ((s.at_:Int) + 1 < (t.n:Int)) = false:=by simp; omega
   (repeat ((first | refine Va ?_ | refine Vb ?_ | refine Vc ?_ | refine Vd ?_ | refine Ve ?_ | refine Vf ?_); (try simp only [go_sem,hP,hw,w3,recsC,List.length_map,hnl,hI2,hd]); (repeat refine qJ ?_)))
   (refine WV_cond rfl (fun h => ?_) (fun h => ?_))
   ·simp at h
   ·(repeat ((first | refine Va ?_ | refine Vb ?_ | refine Vc ?_ | refine Vd ?_ | refine Ve ?_ | refine Vf ?_); (try simp only [go_sem,hP,hwn]); (repeat refine qJ ?_)))
    (refine AS_lend [1000,1001,1002,1003] (hmk) rfl rfl rfl (by decide) rfl (by simp only [go_sem,obsLend,Ob.lend,AV.lend,AV.lendL,carO,carC,hu,hw,wayI,recsC]) ?_)
    rintro r l' ⟨rfl,rfl⟩
    (refine ⟨_,_,rfl,(by simp only [carO,carC,obsBack,Ob.back,AV.back,AV.backL,back_cellsG,hu,hw]; rfl),?_⟩; simp only [go_sem,hP,ownBack,hu,hw])
    ((try simp only [thenQ,inQ,RetQL,RetOkL,resAll,resA]); (try simp only [go_sem,tupA,AV.keepP,AV.keepPL]); refine ⟨_,carO t (s.next t),rfl,KeepL_mk rfl rfl ?_ ?_ rfl,?_⟩)
    ·simp only [Cs.next,em]
     simp only [go_sem,keepAll,Ob.keepP,AV.keepP,AV.keepPL,carO,carC,Cs.mark,wayI,recsC]
    ·simp only [go_sem,winAll]
    ·exact ⟨rfl,rfl⟩
end Go.Proofs.YtbclmfjibpppfaaGreat

namespace Go.Proofs.YtbclmfjibpppfaaGreat
open Go Go.V
abbrev o46_0:List Ins:=[JS 2 (JB false)]
abbrev o46_1:List Ins:=[JS 4 (Jm 0),JS 5 (Jc 55 [.t 4])]
abbrev o46_2:List Ins:=[JS 6 (Jm 0),JS 7 (.nilc (.t 6)),JS 8 (Jf 6 7),JS 9 (Jl 8),JS 10 (Jc 56 [.t 9,(.k (.c (.bool true)))]),JS 11 (.un .not (.t 10))]
abbrev o46_3:List Ins:=[JS 12 (Jm 0),JS 13 (.nilc (.t 12)),JS 14 (Jf 5 13),JS 15 (Jl 14),JS 16 (Jn 15),JS 17 (Jk .eql 16 0)]
abbrev o46_4:List Ins:=[JS 2 (JB false)]
abbrev v46_5:VC:=(.seq (.ops o46_4) .ret)
abbrev v46_6:VC:=(.cond (.t 17) v46_5 .skip)
abbrev o46_7:List Ins:=[JS 18 (Jm 0),JS 19 (Jm 0),JS 20 (.nilc (.t 19)),JS 21 (Jf 5 20),JS 22 (Jl 21),JS 23 (.ia 2 (.t 22) (.k (Jz 0))),JS 24 (Jf 1 23),JS 25 (Jl 24),JS 26 (.nilc (.t 18)),JS 27 (Jf 7 26),JN (Js 1 27 25)]
abbrev o46_8:List Ins:=[JS 2 (JB true)]
abbrev v46_9:VC:=(.seq (.ops o46_8) .ret)
abbrev v46_10:VC:=(.seq (.ops o46_7) v46_9)
abbrev v46_11:VC:=(.seq (.seq (.ops o46_3) v46_6) v46_10)
abbrev v46_12:VC:=(.cond (.t 11) v46_11 .skip)
abbrev o46_13:List Ins:=[JS 28 (Jm 0),JS 29 (.nilc (.t 28)),JS 30 (Jf 8 29),JS 31 (Jf 0 30),JS 32 (Jl 31),JS 33 (.bin .mul (.k (Jz 2)) (.t 32)),JS 3 (Jm 33)]
abbrev o46_14:List Ins:=[JS 34 (Jm 0),JS 35 (.nilc (.t 34)),JS 36 (Jf 8 35),JS 37 (Jf 1 36),JS 38 (Jl 37),JS 39 (Jk .lss 38 0)]
abbrev o46_15:List Ins:=[JS 40 (Jm 3),JS 41 (Jk .add 40 1),JS 3 (Jm 41)]
abbrev v46_16:VC:=(.cond (.t 39) (.ops o46_15) .skip)
abbrev o46_17:List Ins:=[JS 42 (Jm 0),JS 43 (.nilc (.t 42)),JS 44 (Jf 6 43),JS 45 (Jl 44),JS 46 (Jm 3),JS 47 (Ja 1 45 46),JS 48 (Jl 47)]
abbrev o46_18:List Ins:=[JS 49 (Jm 0),JS 50 (.nilc (.t 49)),JS 51 (Jf 6 50),JS 52 (Jl 51),JS 53 (Jm 3),JS 54 (Ja 1 52 53),JN (.st 1 (.t 54) (.k (.c (.bool false))))]
abbrev o46_19:List Ins:=[JF 55 (Jm 0),JF 56 (Jm 0),JF 57 (.nilc (.t 56)),JF 58 (Jf 11 57),JF 59 (Jf 1 58),JF 60 (Jl 59),JF 61 (Jm 3),JF 62 (Jm 0),JF 63 (.nilc (.t 62)),JF 64 (Jf 7 63),JF 65 (Jl 64),JF 66 (.bld [Jz 0,Jz 0] [(0,1,(.t 61)),(1,1,(.t 65))]),JF 67 (.bsl 123 2 [.t 66]),JF 68 (.app 123 2 16 (.t 60) (.t 67)),JS 69 (.nilc (.t 55)),JS 70 (Jf 11 69),JS 71 (Jf 1 70),JN (Js 1 71 68)]
abbrev o46_20:List Ins:=[JS 72 (Jm 0),JS 73 (Jm 3),JS 74 (Jc 45 [.t 72,.t 73])]
abbrev o46_21:List Ins:=[JF 75 (Jm 0),JF 76 (.nilc (.t 75)),JF 77 (Jf 7 76),JF 78 (Jl 77),JF 79 (Jm 0),JF 80 (.nilc (.t 79)),JF 81 (Jf 0 80),JF 82 (JL 5 81),JF 83 (Jm 3),JF 84 (Jc 57 [.t 82,.t 83]),JS 85 (Jb .add 78 84),JS 86 (.nilc (.t 75)),JS 87 (Jf 7 86),JN (Js 1 87 85)]
abbrev o46_22:List Ins:=[JS 88 (Jm 0),JS 89 (Jm 0),JS 90 (.nilc (.t 89)),JS 91 (Jf 7 90),JS 92 (Jl 91),JS 93 (.nilc (.t 88)),JS 94 (Jf 11 93),JS 95 (Jf 3 94),JN (Js 1 95 92)]
abbrev o46_23:List Ins:=[JS 96 (Jm 0),JS 97 (Jc 45 [.t 96,(.k (Jz (-1)))])]
abbrev v46_24:VC:=(.seq (.ops o46_22) (.ops o46_23))
abbrev v46_25:VC:=(.seq (.dops o46_21) v46_24)
abbrev v46_26:VC:=(.seq (.ops o46_20) v46_25)
abbrev v46_27:VC:=(.seq (.dops o46_19) v46_26)
abbrev v46_28:VC:=(.seq (.ops o46_18) v46_27)
abbrev v46_29:VC:=(.cond (.t 48) v46_28 .skip)
abbrev o46_30:List Ins:=[JS 98 (Jm 0),JS 99 (Jc 58 [.t 98])]
abbrev o46_31:List Ins:=[JS 2 (JB true)]
abbrev v46_32:VC:=(.seq (.ops o46_31) .ret)
abbrev v46_33:VC:=(.seq (.ops o46_30) v46_32)
abbrev v46_34:VC:=(.seq (.seq (.ops o46_17) v46_29) v46_33)
abbrev v46_35:VC:=(.seq (.seq (.ops o46_14) v46_16) v46_34)
abbrev v46_36:VC:=(.seq (.ops o46_13) v46_35)
abbrev v46_37:VC:=(.seq (.seq (.ops o46_2) v46_12) v46_36)
abbrev v46_38:VC:=(.seq (.ops o46_1) v46_37)
def ir46:FC:=⟨1,100,[.t 2],(.seq (.ops o46_0) v46_38)⟩
theorem c46:compM Tryz.prog [] 46 = some ir46:=by kernel_rfl
attribute [local go_sem] Nat.reduceEqDiff Nat.reduceAdd Nat.reduceMul reduceIte Nat.reduceLeDiff Nat.reduceLT Nat.reduceBEq reduceCtorEq
def actPQ (t:Tray) (s:Cs) (res:AV) (l':List Ob):Prop:=(s.act t = none ∧ res = bv false ∧ l' = carO t s.press) ∨ ∃ s',s.act t = some s' ∧ res = bv true ∧ l' = carO t s'
theorem pressQ_le (now:Int):∀ (q:List Pr) (pins:List Bool),(pressQ now q pins).1.length ≤ q.length:=fun q pins => by
 obtain ⟨k,hk⟩:=pressQ_suffix now q pins
 rw [hk,List.length_drop]; omega
set_option maxRecDepth 20000 in
set_option maxHeartbeats 16000000 in
theorem act72 {t:Tray} (ht:TrayOk t) {s:Cs} (hs:CsOk t s) (hq:s.q.length ≤ 1000) (h1:s.spells.length ≤ 4900) (h2:s.now ≤ 900000) (h3:0 ≤ s.steps ∧ s.steps ≤ 900000) (h4:s.plays.length ≤ 5000) :
  FSpecL Tryz.prog 46 [.bp 1000 0] (carO t s) [] (actPQ t s):=by
 have hmax:maxLen = 9223372036854775807:=rfl
 have hn6:=ht.n6
 have hpr:=press81 ht hs hq
 have hs1:=hs.press
 have hact:s.act t = s.press.act1 t:=rfl
 have hq1:s.press.q.length ≤ 1000:=Nat.le_trans (pressQ_le _ _ _) hq
 have e1:s.press.spells = s.spells:=rfl
 have e2:s.press.now = s.now:=rfl
 have e3:s.press.steps = s.steps:=rfl
 have e4:s.press.plays = s.plays:=rfl
 rw [← e1] at h1
 rw [← e2] at h2
 rw [← e3] at h3
 rw [← e4] at h4
 refine FSpecL_ofX c46 (by first | simp | exact Nat.le_of_ble_eq_true rfl) (Nat.le_refl _) (by decide) (by decide) fun C hP hN hC hpin hL => ?_; rw [init_env',ownW_upd (by first | simp | exact Nat.le_of_ble_eq_true rfl)]; simp only [ir46,updL,updLo,List.map_nil,List.map_cons,Nat.reduceAdd,carO,carC]
 refine WV_post ?_
 (repeat ((first | refine Va ?_ | refine Vb ?_ | refine Vc ?_ | refine Vd ?_ | refine Ve ?_ | refine Vf ?_); (try simp only [go_sem,hP]); (repeat refine qJ ?_)))
 (refine AS_lend [1000,1001,1002,1003] (hpr) rfl rfl rfl (by decide) rfl (by simp only [go_sem,obsLend,Ob.lend,AV.lend,AV.lendL,carO,carC]) ?_)
 rintro r l' ⟨rfl,rfl⟩
 (refine ⟨_,_,rfl,(by simp only [carO,carC,obsBack,Ob.back,AV.back,AV.backL,back_cellsG,]; rfl),?_⟩; simp only [go_sem,hP,ownBack])
 have hpost:∀ r l',actPQ t s r l' = ((s.press.act1 t = none ∧ r = bv false ∧ l' = carO t s.press) ∨ ∃ s',s.press.act1 t = some s' ∧ r = bv true ∧ l' = carO t s'):=fun r l' => by unfold actPQ; rw [hact]
 generalize s.press = s1 at *
 have hpl:=hs1.pins
 have hat:=hs1.at_
 have hel:∀ own:Nat → Ob,own 1001 = .box (cellsG bcd s1.pins 0) → AV.elemsV own (.vw 1 1001 0 (2 * t.n) (2 * t.n)) = some (1,s1.pins.map bcd):=fun own h => by
  have:=elemsV_cellsG bcd_one own 1001 s1.pins 0 (2 * t.n) h
  rwa [hpl] at this
 (repeat ((first | refine Va ?_ | refine Vb ?_ | refine Vc ?_ | refine Vd ?_ | refine Ve ?_ | refine Vf ?_); (try simp only [go_sem,hP]); (repeat refine qJ ?_)))
 refine AS_vol (contains82 s1.pins (by omega)) rfl rfl rfl rfl ?_ rfl ?_
 ·show AV.vportL _ [.vw 1 1001 0 (2 * t.n) (2 * t.n),bv true] = _
  simp only [AV.vportL,AV.vport]
  rw [hel]
  ·rfl
  ·rfl
 simp only [go_sem,hP]
 (repeat ((first | refine Va ?_ | refine Vb ?_ | refine Vc ?_ | refine Vd ?_ | refine Ve ?_ | refine Vf ?_); (try simp only [go_sem,hP]); (repeat refine qJ ?_)))
 cases hall:s1.pins.all (!·)
 rotate_left
 ·-- nothing is asked for
  (refine WV_cond rfl (fun h => ?_) (fun h => ?_))
  ·cases hqq:s1.q with
   | nil =>
    have ha:s1.act1 t = none:=by unfold Cs.act1; rw [if_pos hall,hqq]
    (repeat ((first | refine Va ?_ | refine Vb ?_ | refine Vc ?_ | refine Vd ?_ | refine Ve ?_ | refine Vf ?_); (try simp only [go_sem,hP,prsC,hqq,List.map_nil,List.length_nil,Int.natCast_zero,beq_self_eq_true]); (repeat refine qJ ?_)))
    (refine WV_cond rfl (fun h => ?_) (fun h => ?_))
    ·(repeat ((first | refine Va ?_ | refine Vb ?_ | refine Vc ?_ | refine Vd ?_ | refine Ve ?_ | refine Vf ?_); (try simp only [go_sem,hP]); (repeat refine qJ ?_)))
     refine WV_ret ?_
     refine ⟨_,fun a w hg => hg,?_⟩
     ((try simp only [thenQ,inQ,RetQL,RetOkL,resAll,resA]); (try simp only [go_sem,tupA,AV.keepP,AV.keepPL]); refine ⟨_,carO t s1,rfl,KeepL_mk rfl rfl ?_ ?_ rfl,?_⟩)
     ·simp only [go_sem,keepAll,Ob.keepP,AV.keepP,AV.keepPL,carO,carC,prsC,hqq,List.map_nil]
     ·simp only [go_sem,winAll]
     ·rw [hpost]; exact .inl ⟨ha,rfl,rfl⟩
    ·simp at h
   | cons p q =>
    have ha:s1.act1 t = some { s1 with now:=p.time }:=by unfold Cs.act1; rw [if_pos hall,hqq]
    have hd:(((q.length + 1:Nat):Int) == 0) = false:=by simp; omega
    have hI:(0:Int) < ((q.length + 1:Nat):Int):=by omega
    have z1:((0:Int)).toNat = 0:=rfl
    (repeat ((first | refine Va ?_ | refine Vb ?_ | refine Vc ?_ | refine Vd ?_ | refine Ve ?_ | refine Vf ?_); (try simp only [go_sem,hP,prsC,hqq,List.map_cons,List.length_cons,hd]); (repeat refine qJ ?_)))
    (refine WV_cond rfl (fun h => ?_) (fun h => ?_))
    ·simp at h
    ·(repeat ((first | refine Va ?_ | refine Vb ?_ | refine Vc ?_ | refine Vd ?_ | refine Ve ?_ | refine Vf ?_); (try simp only [go_sem,hP,prsC,hqq,List.map_cons,List.length_cons,hI,z1,Pr.cds]); (repeat refine qJ ?_)))
     refine WV_ret ?_
     refine ⟨_,fun a w hg => hg,?_⟩
     ((try simp only [thenQ,inQ,RetQL,RetOkL,resAll,resA]); (try simp only [go_sem,tupA,AV.keepP,AV.keepPL]); refine ⟨_,carO t { s1 with now:=p.time },rfl,KeepL_mk rfl rfl ?_ ?_ rfl,?_⟩)
     ·simp only [go_sem,keepAll,Ob.keepP,AV.keepP,AV.keepPL,carO,carC,prsC,hqq,List.map_cons,Pr.cds]
     ·simp only [go_sem,winAll]
     ·rw [hpost]; exact .inr ⟨_,ha,rfl,rfl⟩
  ·simp at h
 ·(refine WV_cond rfl (fun h => ?_) (fun h => ?_))
  ·simp at h
  have ha:s1.act1 t = some ((s1.play t).next t):=by unfold Cs.act1; rw [if_neg (by rw [hall]; decide)]
  have hpos:=pos_lt hs1
  have hsec:=secs_ok ht hpos
  have hlast:=last83 ht s1.pos hpos
  have hnow:=hs1.now
  have hcl:(cellsG bcd s1.pins 0).length = 2 * t.n:=by rw [cellsG_len bcd_one,hpl]; omega
  have hpk:s1.pos < s1.pins.length:=by omega
  have hget:∀ x,(cellsG bcd s1.pins 0).getD s1.pos x = bv (s1.pins.getD s1.pos false):=fun x => by
   have:=cellsG_get bcd_one hpk 0 0 (d:=.bool s1.pins[s1.pos]) rfl x
   rw [Nat.mul_one,Nat.add_zero] at this
   rw [this]
   simp [hpk]
  have hI2:(s1.pos:Int) < ((2 * t.n:Nat):Int):=by omega
  have hc2:s1.pos + 1 ≤ 2 * t.n:=by omega
  have hside:(bif decide (wayI s1.up < 0) then 2 * (s1.at_:Int) + 1 else 2 * (s1.at_:Int)) = (s1.pos:Int):=by
   unfold Cs.pos sideAt wayI
   cases s1.up <;> simp <;> omega
  have wa:=w64 (n:=2 * (s1.at_:Int)) (by omega) (by omega)
  have wb:=w64 (n:=2 * (s1.at_:Int) + 1) (by omega) (by omega)
  have hplayOk:CsOk t (s1.play t) ∧ (s1.play t).spells.length ≤ 5000 ∧ (s1.play t).now ≤ 1000000 ∧ 0 ≤ (s1.play t).steps ∧ (s1.play t).steps ≤ 1000000:=by
   obtain ⟨p1,p2,p3,p4⟩:=play_pins t s1
   have hn:=play_now ht hs1
   refine ⟨⟨by rw [p3]; exact hat,by rw [p1,List.length_set]; exact hpl,by rw [p2]; exact hs1.q,by omega,by rw [p2]; exact hs1.sorted⟩,?_,by omega,by omega,by omega⟩
   unfold Cs.play
   split
   ·simp [Cs.play2,Cs.play1,Cs.mark]; omega
   ·omega
  have hnx:=next84 ht hplayOk.1 hplayOk.2.1 hplayOk.2.2.1 hplayOk.2.2.2
  have hset:(cellsG bcd s1.pins 0).set s1.pos (.c (.bool false)) = cellsG bcd (s1.pins.set s1.pos false) 0:=by
   have:=cellsG_set bcd_one hpk 0 0 (by decide) (.bool false) false rfl
   rwa [Nat.mul_one,Nat.add_zero] at this
  have hnl:t.recs.length = t.n:=rfl
  have wc:=w64 (n:=s1.now + secs t s1.pos) (by omega) (by omega)
  have htail:WV C v46_34 (fun e σ' => ∃ σ'',(∀ a w,Gam C σ' a w → Gam C σ'' a w) ∧ RetQL [RV.t 2] (carO t s) [] (actPQ t s) e σ'')
    ⟨upd (upd e0 0 (.bp 1000 0)) 3 (iv s1.pos),upd (upd (upd (upd o0 1000 (.box (carC t s1))) 1001 (.box (cellsG bcd s1.pins 0))) 1002 (.grow 121 4 (s1.spells.map Sp.cds))) 1003 (.grow 123 2 (s1.plays.map Pr.cds))⟩:=by
   simp only [carC]
   (repeat ((first | refine Va ?_ | refine Vb ?_ | refine Vc ?_ | refine Vd ?_ | refine Ve ?_ | refine Vf ?_); (try simp only [go_sem,hP,hI2,hpk,hcl,hget]); (repeat refine qJ ?_)))
   cases hpp:s1.pins.getD s1.pos false
   ·have hpl1:s1.play t = s1:=by unfold Cs.play; rw [hpp]; rfl
    rw [hpl1] at hnx ha
    (refine WV_cond rfl (fun h => ?_) (fun h => ?_))
    ·simp at h
    (repeat ((first | refine Va ?_ | refine Vb ?_ | refine Vc ?_ | refine Vd ?_ | refine Ve ?_ | refine Vf ?_); (try simp only [go_sem,hP]); (repeat refine qJ ?_)))
    (refine AS_lend [1000,1001,1002,1003] (hnx) rfl rfl rfl (by decide) rfl (by simp only [go_sem,obsLend,Ob.lend,AV.lend,AV.lendL,carO,carC]) ?_)
    rintro r l' ⟨rfl,rfl⟩
    (refine ⟨_,_,rfl,(by simp only [carO,carC,obsBack,Ob.back,AV.back,AV.backL,back_cellsG,]; rfl),?_⟩; simp only [go_sem,hP,ownBack])
    (repeat ((first | refine Va ?_ | refine Vb ?_ | refine Vc ?_ | refine Vd ?_ | refine Ve ?_ | refine Vf ?_); (try simp only [go_sem,hP]); (repeat refine qJ ?_)))
    refine WV_ret ?_
    refine ⟨_,fun a w hg => hg,?_⟩
    ((try simp only [thenQ,inQ,RetQL,RetOkL,resAll,resA]); (try simp only [go_sem,tupA,AV.keepP,AV.keepPL]); refine ⟨_,carO t (s1.next t),rfl,KeepL_mk rfl rfl ?_ ?_ rfl,?_⟩)
    ·simp only [go_sem,keepAll,Ob.keepP,AV.keepP,AV.keepPL,carO,carC]
    ·simp only [go_sem,winAll]
    ·rw [hpost]; exact .inr ⟨_,ha,rfl,rfl⟩
   ·have hpl1:s1.play t = (s1.play1).play2 t:=by unfold Cs.play; rw [hpp]; rfl
    rw [hpl1] at hnx ha
    have hm1:=mark71 t { s1 with pins:=s1.pins.set s1.pos false,plays:=s1.plays ++ [⟨s1.pos,s1.now⟩] } s1.pos (by simp only; omega)
    have hm2:=mark71 t { s1.play1 with now:=s1.now + secs t s1.pos,end_:=s1.now + secs t s1.pos } (-1) (by simp [Cs.play1,Cs.mark]; omega)
    have e1:({ s1 with pins:=s1.pins.set s1.pos false,plays:=s1.plays ++ [⟨s1.pos,s1.now⟩] }:Cs).mark s1.pos = s1.play1:=rfl
    have e2:({ s1.play1 with now:=s1.now + secs t s1.pos,end_:=s1.now + secs t s1.pos }:Cs).mark (-1) = (s1.play1).play2 t:=rfl
    (refine WV_cond rfl (fun h => ?_) (fun h => ?_))
    ·(repeat ((first | refine Va ?_ | refine Vb ?_ | refine Vc ?_ | refine Vd ?_ | refine Ve ?_ | refine Vf ?_); (try simp only [go_sem,hP,hI2,hpk,hcl,hset,List.length_map]); (repeat refine qJ ?_)))
     (refine AS_lend [1000,1001,1002,68] (hm1) rfl rfl rfl (by decide) rfl (by simp only [go_sem,obsLend,Ob.lend,AV.lend,AV.lendL,carO,carC,List.map_append,Pr.cds]) ?_)
     rintro r l' ⟨rfl,rfl⟩
     rw [e1]
     (refine ⟨_,_,rfl,(by simp only [carO,carC,obsBack,Ob.back,AV.back,AV.backL,back_cellsG,]; rfl),?_⟩; simp only [go_sem,hP,ownBack])
     have g1:(s1.play1).spells = s1.spells ++ [⟨s1.at_,wayI s1.up,s1.pos,s1.now⟩]:=rfl
     have g2:(s1.play1).plays = s1.plays ++ [⟨s1.pos,s1.now⟩]:=rfl
     (repeat ((first | refine Va ?_ | refine Vb ?_ | refine Vc ?_ | refine Vd ?_ | refine Ve ?_ | refine Vf ?_); (try simp only [go_sem,hP,hP,Cs.play1,Cs.mark]); (repeat refine qJ ?_)))
     (refine ACall_of (hlast) rfl rfl rfl rfl rfl ?_; simp only [go_sem,hP,Tray.av,wc]; (repeat refine qJ ?_); (repeat ((first | refine Va ?_ | refine Vb ?_ | refine Vc ?_ | refine Vd ?_ | refine Ve ?_ | refine Vf ?_); (try simp only [go_sem,hP,Tray.av,wc]); (repeat refine qJ ?_))))
     (refine AS_lend [1000,1001,1002,68] (hm2) rfl rfl rfl (by decide) rfl (by simp only [go_sem,obsLend,Ob.lend,AV.lend,AV.lendL,carO,carC,Cs.play1,Cs.mark]) ?_)
     rintro r l' ⟨rfl,rfl⟩
     rw [e2]
     (refine ⟨_,_,rfl,(by simp only [carO,carC,obsBack,Ob.back,AV.back,AV.backL,back_cellsG,Cs.play2,Cs.play1,Cs.mark]; rfl),?_⟩; simp only [go_sem,hP,ownBack,Cs.play2,Cs.play1,Cs.mark])
     (repeat ((first | refine Va ?_ | refine Vb ?_ | refine Vc ?_ | refine Vd ?_ | refine Ve ?_ | refine Vf ?_); (try simp only [go_sem,hP]); (repeat refine qJ ?_)))
     (refine AS_lend [1000,1001,1002,68] (hnx) rfl rfl rfl (by decide) rfl (by simp only [go_sem,obsLend,Ob.lend,AV.lend,AV.lendL,carO,carC,Cs.play2,Cs.play1,Cs.mark]) ?_)
     rintro r l' ⟨rfl,rfl⟩
     generalize (s1.play1.play2 t).next t = s2 at *
     (refine ⟨_,_,rfl,(by simp only [carO,carC,obsBack,Ob.back,AV.back,AV.backL,back_cellsG,]; rfl),?_⟩; simp only [go_sem,hP,ownBack])
     (repeat ((first | refine Va ?_ | refine Vb ?_ | refine Vc ?_ | refine Vd ?_ | refine Ve ?_ | refine Vf ?_); (try simp only [go_sem,hP]); (repeat refine qJ ?_)))
     refine WV_ret ?_
     refine ⟨_,fun a w hg => Gam_move (d:=68) (n:=1003) (by decide) (fun h => by have:=hpin 1003 h; rw [carO_place3] at this; cases this) rfl hg,?_⟩
     simp only [go_sem]
     ((try simp only [thenQ,inQ,RetQL,RetOkL,resAll,resA]); (try simp only [go_sem,tupA,AV.keepP,AV.keepPL]); refine ⟨_,carO t s2,rfl,KeepL_mk rfl rfl ?_ ?_ rfl,?_⟩)
     ·simp only [go_sem,keepAll,Ob.keepP,AV.keepP,AV.keepPL,carO,carC]
     ·simp only [go_sem,winAll]
     ·rw [hpost]; exact .inr ⟨_,ha,rfl,rfl⟩
    ·simp at h
  simp only [carC] at htail
  cases hu:s1.up
  ·rw [hu] at htail
   have hw:wayI false = -1:=rfl
   have hp2:2 * (s1.at_:Int) + 1 = (s1.pos:Int):=by unfold Cs.pos sideAt; rw [hu]; simp
   rw [hp2] at wb
   rw [hw] at htail
   (repeat ((first | refine Va ?_ | refine Vb ?_ | refine Vc ?_ | refine Vd ?_ | refine Ve ?_ | refine Vf ?_); (try simp only [go_sem,hP,wa,hw]); (repeat refine qJ ?_)))
   (refine WV_cond rfl (fun h => ?_) (fun h => ?_))
   ·(refine WV_op ?_; simp only [go_sem,hP,wb,hp2]; (repeat refine qJ ?_))
    exact WV_sub (Sub_of (by simp only [go_sem]; exact EnvLe_au) (by simp only [go_sem]; exact ObjLe_au)) htail
   ·simp at h
  ·rw [hu] at htail
   have hw:wayI true = 1:=rfl
   have hp2:2 * (s1.at_:Int) = (s1.pos:Int):=by unfold Cs.pos sideAt; rw [hu]; simp
   rw [hp2] at wa
   rw [hw] at htail
   (repeat ((first | refine Va ?_ | refine Vb ?_ | refine Vc ?_ | refine Vd ?_ | refine Ve ?_ | refine Vf ?_); (try simp only [go_sem,hP,wa,hw,hp2]); (repeat refine qJ ?_)))
   (refine WV_cond rfl (fun h => ?_) (fun h => ?_))
   ·simp at h
   ·(refine WV_skip ?_; simp only [go_sem])
    exact WV_sub (Sub_of (by simp only [go_sem]; exact EnvLe_au) (by simp only [go_sem]; exact ObjLe_au)) htail
end Go.Proofs.YtbclmfjibpppfaaGreat

namespace Go.Proofs.YtbclmfjibpppfaaGreat
open Go Go.V
namespace W
abbrev o26_0:List Ins:=[JS 1 (.box 5 (.t 0)),JS 2 (.alloc [J0,J0,Jz 0,Jz 0])]
abbrev o26_1:List Ins:=[JF 4 (JL 5 1),JF 5 (Jf 4 1),JF 6 (Jl 5),JF 8 (Jf 0 1),JF 9 (Jl 8),JF 10 (Jn 9),JF 11 (.bin .mul (.k (Jz 2)) (.t 10)),JF 12 (.mks 4 1 1 [(.c (.bool false))] (.t 11) (.t 11)),JF 13 (Jf 1 1),JF 14 (Jl 13),JF 15 (Jf 2 1),JF 16 (Jl 15),JF 17 (.bld [Jz 0,Jz 0,Jz 0] [(0,1,(.t 14)),(1,1,(.t 16)),(2,1,(.k (Jz (-1))))]),JS 7 (.calln (.k (.fn 42 [])) [.t 6]),JS 18 (.bld [J0,Jz 0,Jz 0,Jz 0,J0,J0,J0,Jz 0,Jz 0,Jz 0,Jz 0,J0,J0,Jz 0,Jz 0] [(0,5,(.t 4)),(5,1,(.t 7)),(6,1,(.t 12)),(8,3,(.t 17))]),JS 19 (.box 15 (.t 18)),JS 3 (Jm 19)]
abbrev o26_2:List Ins:=[JS 20 (Jm 3),JS 21 (.nilc (.t 20)),JS 22 (Jf 5 21),JS 23 (Jl 22),JS 24 (Jc 43 [.t 23,(.k (.fn 44 []))])]
abbrev o26_3:List Ins:=[JS 25 (Jm 3),JS 26 (Jc 45 [.t 25,(.k (Jz (-1)))])]
abbrev o26_4:List Ins:=[JS 27 (Jm 3),JS 28 (Jc 46 [.t 27])]
abbrev v26_5:VC:=(.cond (.t 28) .skip (.exit 0))
abbrev v26_6:VC:=(.block 1 .skip)
abbrev v26_7:VC:=(.seq (.seq (.ops o26_4) v26_5) v26_6)
-- K26_1: changed and kept: []
abbrev K26_1:List Nat:=[2,3]
abbrev v26_8:VC:=(.loop v26_7)
abbrev o26_9:List Ins:=[JS 29 (Jm 3),JS 30 (.nilc (.t 29)),JS 31 (Jf 11 30),JS 32 (JL 4 31),JN (Js 4 2 32)]
abbrev v26_10:VC:=(.seq (.ops o26_9) .ret)
abbrev v26_11:VC:=(.seq (.block 0 v26_8) v26_10)
abbrev v26_12:VC:=(.seq (.ops o26_3) v26_11)
abbrev v26_13:VC:=(.seq (.ops o26_2) v26_12)
abbrev v26_14:VC:=(.seq (.dops o26_1) v26_13)
def ir26:FC:=⟨1,33,[.cell 2 false 4],(.seq (.ops o26_0) v26_14)⟩
theorem c26:compM Tryz.prog [300007] 26 = some ir26:=by kernel_rfl
end W
abbrev o26_0:List Ins:=[JS 1 (.box 5 (.t 0)),JS 2 (.alloc [J0,J0,Jz 0,Jz 0])]
abbrev o26_1:List Ins:=[JF 4 (JL 5 1),JF 5 (Jf 4 1),JF 6 (Jl 5),JF 8 (Jf 0 1),JF 9 (Jl 8),JF 10 (Jn 9),JF 11 (.bin .mul (.k (Jz 2)) (.t 10)),JF 12 (.mks 4 1 1 [(.c (.bool false))] (.t 11) (.t 11)),JF 7 (Jc 42 [.t 6]),JF 13 (Jf 1 1),JF 14 (Jl 13),JF 15 (Jf 2 1),JF 16 (Jl 15),JF 17 (.bld [Jz 0,Jz 0,Jz 0] [(0,1,(.t 14)),(1,1,(.t 16)),(2,1,(.k (Jz (-1))))]),JS 18 (.bld [J0,Jz 0,Jz 0,Jz 0,J0,J0,J0,Jz 0,Jz 0,Jz 0,Jz 0,J0,J0,Jz 0,Jz 0] [(0,5,(.t 4)),(5,1,(.t 7)),(6,1,(.t 12)),(8,3,(.t 17))]),JS 19 (.box 15 (.t 18)),JS 3 (Jm 19)]
abbrev o26_2:List Ins:=[JS 20 (Jm 3),JS 21 (.nilc (.t 20)),JS 22 (Jf 5 21),JS 23 (Jl 22),JS 24 (Jc 43 [.t 23,(.k (.fn 44 []))])]
abbrev o26_3:List Ins:=[JS 25 (Jm 3),JS 26 (Jc 45 [.t 25,(.k (Jz (-1)))])]
abbrev o26_4:List Ins:=[JS 27 (Jm 3),JS 28 (Jc 46 [.t 27])]
abbrev v26_5:VC:=(.cond (.t 28) .skip (.exit 0))
abbrev v26_6:VC:=(.block 1 .skip)
abbrev v26_7:VC:=(.seq (.seq (.ops o26_4) v26_5) v26_6)
-- K26_1: changed and kept: []
abbrev K26_1:List Nat:=[2,3]
abbrev v26_8:VC:=(.loop v26_7)
abbrev o26_9:List Ins:=[JS 29 (Jm 3),JS 30 (.nilc (.t 29)),JS 31 (Jf 11 30),JS 32 (JL 4 31),JN (Js 4 2 32)]
abbrev v26_10:VC:=(.seq (.ops o26_9) .ret)
abbrev v26_11:VC:=(.seq (.block 0 v26_8) v26_10)
abbrev v26_12:VC:=(.seq (.ops o26_3) v26_11)
abbrev v26_13:VC:=(.seq (.ops o26_2) v26_12)
abbrev v26_14:VC:=(.seq (.dops o26_1) v26_13)
def ir26:FC:=⟨1,33,[.cell 2 false 4],(.seq (.ops o26_0) v26_14)⟩
theorem c26:compM Tryz.prog [] 26 = some ir26:=by kernel_rfl
attribute [local go_sem] Nat.reduceEqDiff Nat.reduceAdd Nat.reduceMul reduceIte Nat.reduceLeDiff Nat.reduceLT Nat.reduceBEq reduceCtorEq
def spsC (l:List Sp):CD:=.sl 4 (l.map Sp.cds)
def Cs.run (s:Cs):AV:=.agg [.c (spsC s.spells),.c (prsC s.plays),iv s.steps,iv s.end_]
def carD (t:Tray) (s:Cs):List AV:=[.c (recsC t.recs),iv t.at_,iv t.way,iv t.step,.c (prsC t.pres),.c (prsC s.q),.vw 1 12 0 (2 * t.n) (2 * t.n),iv s.now,iv s.at_,iv (wayI s.up),iv s.side,.gr 81,.gr 82,iv s.steps,iv s.end_]
def zero4:List AV:=[.c (.raw (.slice none 0 0)),.c (.raw (.slice none 0 0)),.c (.int .i64 0),.c (.int .i64 0)]
set_option maxRecDepth 20000 in
set_option maxHeartbeats 16000000 in
theorem tail54 {C:Ctx} (hP:C.P = Tryz.prog) {t:Tray} (ht:TrayOk t) {q:List Pr} (hq:q.Perm t.pres) (hqs:q.Pairwise fun a b => a.time ≤ b.time) :
  WV C v26_12 (RetQ [.cell 2 false 4] (goesWith t q).run) ⟨upd (upd e0 2 (.bp 2 0)) 3 (.bp 19 0),upd (upd (upd (upd (upd o0 2 (.box zero4)) 12 (.box (cellsG bcd (start t q).pins 0))) 19 (.box (carD t (start t q)))) 81 (.grow 121 4 [])) 82 (.grow 123 2 [])⟩:=by
 have hm0:=mark71 t (start t q) (-1) (by simp [start])
 have hs0:=start_okQ ht hq hqs
 have hql:q.length ≤ 13:=by rw [hq.length_eq]; exact ht.p13
 have hmu:=start_mu ht hql
 have hgw:goesWith t q = iter t 250 ((start t q).mark (-1)):=rfl
 have b1:((start t q).mark (-1)).spells.length = 1:=rfl
 have b2:((start t q).mark (-1)).plays.length = 0:=rfl
 have b3:((start t q).mark (-1)).now = 0:=rfl
 have b4:((start t q).mark (-1)).steps = 0:=rfl
 have b5:((start t q).mark (-1)).q.length ≤ 13:=hql
 have hsp:(start t q).spells = []:=rfl
 have hpl:(start t q).plays = []:=rfl
 rw [hgw]
 simp only [carD,zero4]
 (repeat ((first | refine Va ?_ | refine Vb ?_ | refine Vc ?_ | refine Vd ?_ | refine Ve ?_ | refine Vf ?_); (try simp only [go_sem,hP]); (repeat refine qJ ?_)))
 (refine AS_lend [19,12,81,82] (hm0) rfl rfl rfl (by decide) rfl (by simp only [go_sem,obsLend,Ob.lend,AV.lend,AV.lendL,carO,carC,hsp,hpl,List.map_nil]) ?_)
 rintro r l' ⟨rfl,rfl⟩
 generalize (start t q).mark (-1) = s0 at *
 (refine ⟨_,_,rfl,(by simp only [carO,carC,obsBack,Ob.back,AV.back,AV.backL,back_cellsG,]; rfl),?_⟩; simp only [go_sem,hP,ownBack])
 (repeat ((first | refine Va ?_ | refine Vb ?_ | refine Vc ?_ | refine Vd ?_ | refine Ve ?_ | refine Vf ?_); (try simp only [go_sem,hP]); (repeat refine qJ ?_)))
 refine WV_loopK K26_1 [12,19,81,82] (fun p:Nat × Cs => CsOk t p.2 ∧ iter t 250 s0 = iter t (250 - p.1) p.2 ∧ mu t p.2 + p.1 ≤ 200 ∧ p.2.now ≤ 10000 + 1059 * (p.1:Int) ∧ p.2.spells.length ≤ 1 + 3 * p.1 ∧ p.2.plays.length ≤ p.1 ∧ (0 ≤ p.2.steps ∧ p.2.steps ≤ (p.1:Int)) ∧ p.2.q.length ≤ 13) (fun p => mu t p.2) (fun _ => [])
  (fun p => [(12,.box (cellsG bcd p.2.pins 0)),(19,.box (carD t p.2)),(81,.grow 121 4 (p.2.spells.map Sp.cds)),(82,.grow 123 2 (p.2.plays.map Pr.cds))]) (0,s0) ⟨hs0,rfl,by simpa using hmu,by rw [b3]; simp,by rw [b1]; simp,by rw [b2]; simp,by rw [b4]; simp,b5⟩ ?_ ?_
 ·simp only [carD]
  exact Sub_au
 ·rintro ⟨k,s⟩ ⟨i1,i2,i3,i4,i5,i6,i7,i8⟩
  simp only at i1 i2 i3 i4 i5 i6 i7 i8
  have hact:=act72 ht i1 (by omega) (by omega) (by omega) (by omega) (by omega)
  simp only [go_sem,carD]
  (repeat ((first | refine Va ?_ | refine Vb ?_ | refine Vc ?_ | refine Vd ?_ | refine Ve ?_ | refine Vf ?_); (try simp only [go_sem,hP]); (repeat refine qJ ?_)))
  (refine AS_lend [19,12,81,82] (hact) rfl rfl rfl (by decide) rfl (by simp only [go_sem,obsLend,Ob.lend,AV.lend,AV.lendL,carO,carC]) ?_)
  rintro r l' (⟨ha,rfl,rfl⟩ | ⟨s',ha,rfl,rfl⟩)
  ·have hend:iter t (250 - k) s = s.press:=by
    obtain ⟨m,hm⟩ : ∃ m,250 - k = m + 1:=⟨249 - k,by omega⟩
    rw [hm]; simp only [iter,ha]
   rw [hend] at i2
   rw [i2]
   generalize s.press = s2 at *
   (refine ⟨_,_,rfl,(by simp only [carO,carC,obsBack,Ob.back,AV.back,AV.backL,back_cellsG,]; rfl),?_⟩; simp only [go_sem,hP,ownBack])
   (repeat ((first | refine Va ?_ | refine Vb ?_ | refine Vc ?_ | refine Vd ?_ | refine Ve ?_ | refine Vf ?_); (try simp only [go_sem,hP]); (repeat refine qJ ?_)))
   (refine WV_cond rfl (fun h => ?_) (fun h => ?_))
   ·simp at h
   ·(refine WV_exit ?_; simp only [go_sem])
    (repeat ((first | refine Va ?_ | refine Vb ?_ | refine Vc ?_ | refine Vd ?_ | refine Ve ?_ | refine Vf ?_); (try simp only [go_sem,hP]); (repeat refine qJ ?_)))
    (refine WV_ret ?_; simp only [thenQ,inQ,RetQ,RetOk,resAll,resA]; simp only [go_sem,tupA,AV.port,AV.portL,exists_eq_left']; (first | exact AVle.of rfl | refine AVle.of ?_ | skip))
  ·have hend:iter t (250 - k) s = iter t (250 - (k + 1)) s':=by
    obtain ⟨m,hm⟩ : ∃ m,250 - k = m + 1:=⟨249 - k,by omega⟩
    rw [hm,show 250 - (k + 1) = m from by omega]; simp only [iter,ha]
   have hg:=act_grown ht i1 ha
   have hmu':=act_mu i1 ha
   have hok':=act_ok ht i1 ha
   (refine ⟨_,_,rfl,(by simp only [carO,carC,obsBack,Ob.back,AV.back,AV.backL,back_cellsG,]; rfl),?_⟩; simp only [go_sem,hP,ownBack])
   (repeat ((first | refine Va ?_ | refine Vb ?_ | refine Vc ?_ | refine Vd ?_ | refine Ve ?_ | refine Vf ?_); (try simp only [go_sem,hP]); (repeat refine qJ ?_)))
   (refine WV_cond rfl (fun h => ?_) (fun h => ?_))
   ·(repeat ((first | refine Va ?_ | refine Vb ?_ | refine Vc ?_ | refine Vd ?_ | refine Ve ?_ | refine Vf ?_); (try simp only [go_sem,hP]); (repeat refine qJ ?_)))
    refine ⟨(k + 1,s'),⟨hok',by rw [i2,hend],by simp only; omega,?_,?_,?_,?_,?_⟩,by simp only; omega,?_⟩
    ·rcases hg.now with h | h <;> (simp only; omega)
    ·have:=hg.spells; simp only; omega
    ·have:=hg.plays; simp only; omega
    ·have:=hg.steps; simp only; omega
    ·have:=hg.q; simp only; omega
    ·simp only [carD]
     exact Sub_au
   ·simp at h
theorem bools_zero (n:Nat):(List.replicate n [bv false]).flatten = cellsG bcd (List.replicate n false) 0:=by
 have:∀ n,(List.replicate n [bv false]).flatten = (flatG bcd (List.replicate n false)).map .c:=by
  intro n
  induction n with
  | zero => rfl
  | succ n ih =>
   simp only [List.replicate_succ,List.flatten_cons,ih,flatG_cons]
   rfl
 rw [this]
 simp [cellsG]
theorem ins87e:FSpec Tryz.prog 65 [.c (prsC []),iv 0,iv 0,.fn 44 []] (.tup []):=by
 have w0:IntKind.i64.wrap (0 + 1) = 1:=by decide
 refine FSpec_of c65 (Nat.le_refl _) (by decide) fun C hP hN hC hL => ?_; rw [init_st]
 simp only [ir65,prsC,List.map_nil]
 (repeat ((first | refine Va ?_ | refine Vb ?_ | refine Vc ?_ | refine Vd ?_ | refine Ve ?_ | refine Vf ?_); (try simp only [go_sem,hP,w0]); (repeat refine qJ ?_)))
 refine WV_loopK K65_1 [] (fun _:Unit => True) (fun _ => 0) (fun _ => [(8,iv 1)]) (fun _ => []) () trivial ?_ ?_
 ·exact Sub_au
 ·rintro - -
  simp only [go_sem]
  (repeat ((first | refine Va ?_ | refine Vb ?_ | refine Vc ?_ | refine Vd ?_ | refine Ve ?_ | refine Vf ?_); (try simp only [go_sem,hP]); (repeat refine qJ ?_)))
  (refine WV_cond rfl (fun h => ?_) (fun h => ?_))
  ·simp at h
  ·(refine WV_exit ?_; simp only [go_sem])
   exact ⟨trivial,_,rfl,AVle.of rfl⟩
theorem stable80e:FSpec Tryz.prog 54 [.c (prsC []),iv 0,.fn 44 []] (.tup []):=by
 refine FSpec_of c54 (Nat.le_refl _) (by decide) fun C hP hN hC hL => ?_; rw [init_st]
 simp only [ir54,prsC,List.map_nil]
 (repeat ((first | refine Va ?_ | refine Vb ?_ | refine Vc ?_ | refine Vd ?_ | refine Ve ?_ | refine Vf ?_); (try simp only [go_sem,hP]); (repeat refine qJ ?_)))
 refine WV_loopK K54_1 [] (fun _:Unit => True) (fun _ => 0) (fun _ => [(7,iv 0),(8,iv 20)]) (fun _ => []) () trivial ?_ ?_
 ·exact Sub_au
 ·rintro - -
  simp only [go_sem]
  (repeat ((first | refine Va ?_ | refine Vb ?_ | refine Vc ?_ | refine Vd ?_ | refine Ve ?_ | refine Vf ?_); (try simp only [go_sem,hP]); (repeat refine qJ ?_)))
  (refine WV_cond rfl (fun h => ?_) (fun h => ?_))
  ·simp at h
  ·(refine WV_exit ?_; simp only [go_sem])
   (repeat ((first | refine Va ?_ | refine Vb ?_ | refine Vc ?_ | refine Vd ?_ | refine Ve ?_ | refine Vf ?_); (try simp only [go_sem,hP]); (repeat refine qJ ?_)))
   (refine AS_pu (ins87e) ?_; simp only [go_sem,hP]; (repeat refine qJ ?_); (repeat ((first | refine Va ?_ | refine Vb ?_ | refine Vc ?_ | refine Vd ?_ | refine Ve ?_ | refine Vf ?_); (try simp only [go_sem,hP]); (repeat refine qJ ?_))))
   refine WV_loopK K54_2 [] (fun _:Unit => True) (fun _ => 0) (fun _ => [(6,iv 20)]) (fun _ => []) () trivial ?_ ?_
   ·exact Sub_au
   ·rintro - -
    simp only [go_sem]
    (repeat ((first | refine Va ?_ | refine Vb ?_ | refine Vc ?_ | refine Vd ?_ | refine Ve ?_ | refine Vf ?_); (try simp only [go_sem,hP]); (repeat refine qJ ?_)))
    (refine WV_cond rfl (fun h => ?_) (fun h => ?_))
    ·simp at h
    ·(refine WV_exit ?_; simp only [go_sem])
     exact ⟨trivial,_,rfl,AVle.of rfl⟩
theorem sort69e:FSpec Tryz.prog 43 [.c (prsC []),.fn 44 []] (.tup []):=by
 refine FSpec_of c43 (Nat.le_refl _) (by decide) fun C hP hN hC hL => ?_; rw [init_st]
 simp only [ir43,prsC,List.map_nil]
 (repeat ((first | refine Va ?_ | refine Vb ?_ | refine Vc ?_ | refine Vd ?_ | refine Ve ?_ | refine Vf ?_); (try simp only [go_sem,hP,List.length_nil,Int.natCast_zero]); (repeat refine qJ ?_)))
 (refine AS_pu (stable80e) ?_; simp only [go_sem,hP]; (repeat refine qJ ?_); (repeat ((first | refine Va ?_ | refine Vb ?_ | refine Vc ?_ | refine Vd ?_ | refine Ve ?_ | refine Vf ?_); (try simp only [go_sem,hP]); (repeat refine qJ ?_))))
 exact ⟨_,rfl,AVle.of rfl⟩
set_option maxRecDepth 20000 in
set_option maxHeartbeats 16000000 in
theorem goes54e {t:Tray} (ht:TrayOk t) (hp:t.pres = []):FSpec Tryz.prog 26 [t.av] (goesS t).run:=by
 have hn6:=ht.n6
 have hnl:t.recs.length = t.n:=rfl
 have hat:=ht.at_
 have hmax:maxLen = 9223372036854775807:=rfl
 have w1:=w64 (n:=2 * (t.n:Int)) (by omega) (by omega)
 have ew:(2 * (t.n:Int)).toNat = 2 * t.n:=by omega
 have hway:wayI (t.way == 1) = t.way:=by rcases ht.way with h | h <;> rw [h] <;> rfl
 have hg:goesS t = goesWith t []:=by unfold goesS; rw [hp]; rfl
 have hcl:=clone56 ([]:List Pr) (by simp)
 refine FSpec_of c26 (Nat.le_refl _) (by decide) fun C hP hN hC hL => ?_; rw [init_st]
 have htl:=tail54 hP ht (q:=[]) (by rw [hp]) List.Pairwise.nil
 rw [← hg] at htl
 simp only [ir26,Tray.av,hp]
 have hat2:(((t.at_.toNat:Nat):Int)) = t.at_:=by omega
 simp only [carD,zero4,start,hway,hp,hat2,List.map_nil] at htl
 (repeat ((first | refine Va ?_ | refine Vb ?_ | refine Vc ?_ | refine Vd ?_ | refine Ve ?_ | refine Vf ?_); (try simp only [go_sem,hP,recsC,List.length_map,hnl,w1,ew,bools_zero]); (repeat refine qJ ?_)))
 refine ACall_of hcl rfl rfl rfl rfl rfl ?_
 simp only [go_sem,hP]
 (repeat refine qJ ?_)
 refine WV_nilbox 19 11 81 121 4 (by decide) (by decide) (by decide) rfl rfl rfl ?_
 simp only [go_sem]
 refine WV_nilbox 19 12 82 123 2 (by decide) (by decide) (by decide) rfl rfl rfl ?_
 simp only [go_sem]
 (repeat ((first | refine Va ?_ | refine Vb ?_ | refine Vc ?_ | refine Vd ?_ | refine Ve ?_ | refine Vf ?_); (try simp only [go_sem,hP,prsC,List.map_nil]); (repeat refine qJ ?_)))
 refine AS_pure sort69e rfl rfl rfl rfl rfl ?_
 simp only [go_sem,hP]
 (repeat refine qJ ?_)
 exact WV_sub (Sub_of (by simp only [go_sem]; exact EnvLe_au) (by simp only [go_sem]; exact ObjLe_au)) htl
theorem prs_grp (l:List Pr):grp 2 l.length ((flatG Pr.cds l).take (l.length * 2)) = l.map Pr.cds:=grp_cellsG pr_two l
theorem prs_fit (l:List Pr):(l.length * 2 ≤ (flatG Pr.cds l).length) = True:=by rw [flatG_len pr_two]; simp
set_option maxRecDepth 20000 in
set_option maxHeartbeats 16000000 in
theorem goes54n {t:Tray} (ht:TrayOk t) (hp:t.pres ≠ []):FSpec Tryz.prog 26 [t.av] (goesS t).run:=by
 have hn6:=ht.n6
 have hnl:t.recs.length = t.n:=rfl
 have hat:=ht.at_
 have hmax:maxLen = 9223372036854775807:=rfl
 have w1:=w64 (n:=2 * (t.n:Int)) (by omega) (by omega)
 have ew:(2 * (t.n:Int)).toNat = 2 * t.n:=by omega
 have hway:wayI (t.way == 1) = t.way:=by rcases ht.way with h | h <;> rw [h] <;> rfl
 have hpl:0 < t.pres.length:=List.length_pos_iff.2 hp
 have h13:=ht.p13
 have hg:goesS t = goesWith t (sortT t.pres):=rfl
 refine FSpec_of W.c26 (Nat.le_refl _) (by decide) fun C hP hN hC hL => ?_
 have htl:=tail54 hP ht (q:=sortT t.pres) (sortT_perm t.pres) (sortT_sorted t.pres)
 rw [← hg] at htl
 simp only [W.ir26,Tray.av]
 have hat2:(((t.at_.toNat:Nat):Int)) = t.at_:=by omega
 simp only [carD,zero4,start,hway,hat2,List.map_nil] at htl
 (repeat ((first | refine Va ?_ | refine Vb ?_ | refine Vc ?_ | refine Vd ?_ | refine Ve ?_ | refine Vf ?_); (try simp only [go_sem,hP,recsC,List.length_map,hnl,w1,ew,bools_zero]); (repeat refine qJ ?_)))
 refine AM_new (cloneN56 t.pres (by omega) hp) (by decide) rfl rfl rfl rfl rfl ?_
 rintro res os ⟨cap,j,h1,h2,h3,rfl,rfl⟩
 refine ⟨_,.vw 2 7 0 t.pres.length cap,.box (cellsG Pr.cds t.pres j),rfl,rfl,by simp only [Ob.back,back_cellsG]; rfl,?_⟩
 simp only [go_sem,hP]
 (repeat refine qJ ?_)
 refine WV_nilbox 19 11 81 121 4 (by decide) (by decide) (by decide) rfl rfl rfl ?_
 simp only [go_sem]
 refine WV_nilbox 19 12 82 123 2 (by decide) (by decide) (by decide) rfl rfl rfl ?_
 simp only [go_sem]
 (repeat ((first | refine Va ?_ | refine Vb ?_ | refine Vc ?_ | refine Vd ?_ | refine Ve ?_ | refine Vf ?_); (try simp only [go_sem,hP]); (repeat refine qJ ?_)))
 refine AS_lend [7] (sort69 (jk:=j) hpl (by omega) rfl (fun p hp => (ht.pres p hp).2)) rfl rfl rfl (by decide) rfl (by simp only [go_sem,obsLend,Ob.lend,AV.lend,AV.lendL]) ?_
 rintro r l' ⟨rfl,l,hl,rfl⟩
 refine ⟨_,_,rfl,(by simp only [obsBack,Ob.back,back_cellsG]; rfl),?_⟩
 simp only [go_sem,hP,ownBack]
 have hso:arr t.pres l = sortT t.pres:=by rw [ordered_eq hl]; rfl
 rw [hso]
 have hSl:=sortT_len t.pres
 have hgr:=prs_grp (sortT t.pres)
 have hfl:=prs_fit (sortT t.pres)
 rw [hSl] at hgr hfl
 refine WV_freezeJ 7 (ds:=flatG Pr.cds (sortT t.pres)) (junk:=List.replicate j .non) rfl ?_
 simp only [go_sem,hfl,hgr]
 exact WV_sub (Sub_of (by simp only [go_sem]; exact EnvLe_au) (by simp only [go_sem]; exact ObjLe_au)) htl
theorem goes54 {t:Tray} (ht:TrayOk t):FSpec Tryz.prog 26 [t.av] (goesS t).run:=by
 by_cases hp:t.pres = []
 ·exact goes54e ht hp
 ·exact goes54n ht hp
end Go.Proofs.YtbclmfjibpppfaaGreat

/-
 What is true of a run: each press is served,the plays do not overlap: plain.
-/
namespace Go.Proofs.YtbclmfjibpppfaaGreat
open Go Go.V
def Pressed (s:Cs):Prop:=∀ p ∈ s.q,s.now < p.time
theorem pressed_press {t:Tray} {s:Cs} (h:CsOk t s):Pressed s.press:=by
 intro p hp
 have hs:=h.press.sorted
 cases hq:s.press.q with
 | nil => rw [hq] at hp; cases hp
 | cons a q =>
  have h1:=pressQ_head s.now s.q s.pins a q hq
  rw [hq] at hp hs
  have h2:=(List.pairwise_cons.1 hs).1
  show s.now < p.time
  rcases List.mem_cons.1 hp with rfl | hp
  ·exact h1
  ·have:=h2 p hp; omega
theorem iter_inv {t:Tray} (ht:TrayOk t) (I:Nat → Cs → Prop) (hp:∀ k s,CsOk t s → I k s → I k s.press) (ha:∀ k s s',CsOk t s → Pressed s → I k s → s.act1 t = some s' → I (k + 1) s') :
  ∀ (f k:Nat) (s:Cs),CsOk t s → mu t s < f → mu t s + k ≤ 200 → I k s → ∃ k',k' ≤ 200 ∧ I k' (iter t f s) ∧ (iter t f s).act1 t = none ∧ CsOk t (iter t f s) ∧ Pressed (iter t f s)
 | 0,k,s,_,hf,_,_ => by omega
 | f + 1,k,s,hs,hf,hk,hI => by
  simp only [iter]
  cases e:s.act t with
  | none => exact ⟨k,by omega,hp k s hs hI,e,hs.press,pressed_press hs⟩
  | some s' =>
   have h1:=act_mu hs e
   exact iter_inv ht I hp ha f (k + 1) s' (act_ok ht hs e) (by omega) (by omega) (ha k s.press s' hs.press (pressed_press hs) (hp k s hs hI) e)
theorem goes_inv {t:Tray} (ht:TrayOk t) {q:List Pr} (hq:q.Perm t.pres) (hqs:q.Pairwise fun a b => a.time ≤ b.time) (I:Nat → Cs → Prop) (h0:I 0 ((start t q).mark (-1))) (hp:∀ k s,CsOk t s → I k s → I k s.press)
  (ha:∀ k s s',CsOk t s → Pressed s → I k s → s.act1 t = some s' → I (k + 1) s'):∃ k',k' ≤ 200 ∧ I k' (goesWith t q) ∧ (goesWith t q).act1 t = none ∧ CsOk t (goesWith t q) ∧ Pressed (goesWith t q):=by
 have hm:=start_mu ht (q:=q) (by rw [hq.length_eq]; exact ht.p13)
 exact iter_inv ht I hp ha 250 0 _ (start_okQ ht hq hqs) (by omega) (by omega) h0
theorem act1_none {t:Tray} {s:Cs} (h:s.act1 t = none):s.q = [] ∧ s.pins.all (!·) = true:=by
 unfold Cs.act1 at h
 split at h
 ·rename_i hp
  split at h
  ·rename_i hq; exact ⟨hq,hp⟩
  ·cases h
 ·cases h
theorem act1_cases {t:Tray} {s s':Cs} (h:s.act1 t = some s'):(∃ p q,s.q = p :: q ∧ s.pins.all (!·) = true ∧ s' = { s with now:=p.time }) ∨ (s.pins.all (!·) = false ∧ s' = (s.play t).next t):=by
 unfold Cs.act1 at h
 split at h
 ·rename_i hp
  split at h
  ·cases h
  ·rename_i p q hq
   exact .inl ⟨p,q,hq,hp,(Option.some.inj h).symm⟩
 ·rename_i hp
  exact .inr ⟨by simpa using hp,(Option.some.inj h).symm⟩
theorem next_keeps (t:Tray) (s:Cs):(s.next t).q = s.q ∧ (s.next t).pins = s.pins ∧ (s.next t).plays = s.plays ∧ (s.next t).end_ = s.end_:=by
 obtain ⟨m1,m2,m3,m4,m5⟩:=move_q t s
 exact ⟨m1,m2,m3,m5⟩
theorem next_now {t:Tray} (ht:0 ≤ t.step) (s:Cs):s.now ≤ (s.next t).now ∧ (s.next t).now ≤ s.now + t.step ∧ s.steps ≤ (s.next t).steps ∧ (s.next t).steps ≤ s.steps + 1:=move_now ht s
theorem play_yes {t:Tray} {s:Cs} (h:s.pins.getD s.pos false = true):(s.play t).q = s.q ∧ (s.play t).pins = s.pins.set s.pos false ∧ (s.play t).plays = s.plays ++ [⟨s.pos,s.now⟩] ∧ (s.play t).now = s.now + secs t s.pos ∧ (s.play t).end_ = s.now + secs t s.pos ∧ (s.play t).steps = s.steps:=by
 unfold Cs.play
 rw [if_pos h]
 exact ⟨rfl,rfl,rfl,rfl,rfl,rfl⟩
theorem play_no {t:Tray} {s:Cs} (h:¬ s.pins.getD s.pos false = true):s.play t = s:=by
 unfold Cs.play; rw [if_neg h]
def secsI (t:Tray) (s:Int):Int:=secs t s.toNat
def trues (l:List Bool):Nat:=l.countP id
theorem trues_set_false:∀ {l:List Bool} {k:Nat},l.getD k false = true → trues (l.set k false) + 1 = trues l
 | [],k,h => by simp at h
 | b :: l,0,h => by
  have h:b = true:=by simpa using h
  subst h
  simp [trues]
 | b :: l,k + 1,h => by
  have:=trues_set_false (l:=l) (k:=k) (by simpa using h)
  unfold trues at *
  simp only [List.set_cons_succ,List.countP_cons]
  omega
theorem trues_set_true:∀ (l:List Bool) (k:Nat),trues (l.set k true) ≤ trues l + 1
 | [],k => by simp [trues]
 | b :: l,0 => by
  unfold trues
  simp only [List.set_cons_zero,List.countP_cons]
  cases b <;> simp
 | b :: l,k + 1 => by
  have:=trues_set_true l k
  unfold trues at *
  simp only [List.set_cons_succ,List.countP_cons]
  omega
theorem pressQ_count (now:Int):∀ (q:List Pr) (pins:List Bool),trues (pressQ now q pins).2 + (pressQ now q pins).1.length ≤ trues pins + q.length
 | [],pins => Nat.le_refl _
 | p :: q,pins => by
  simp only [pressQ]
  split
  ·have:=pressQ_count now q (pins.set p.side.toNat true)
   have:=trues_set_true pins p.side.toNat
   simp only [List.length_cons]; omega
  ·exact Nat.le_refl _
theorem getD_set_true {l:List Bool} {i k:Nat} (h:l.getD k false = true):(l.set i true).getD k false = true:=by
 rw [List.getD_eq_getElem?_getD,List.getElem?_set]
 split
 ·rename_i e; subst e
  split
  ·rfl
  ·rename_i h2
   rw [List.getD_eq_getElem?_getD,List.getElem?_eq_none (by omega)] at h; simp at h
 ·rwa [List.getD_eq_getElem?_getD] at h
theorem pressQ_pins (now:Int):∀ (q:List Pr) (pins:List Bool),(∀ p ∈ q,0 ≤ p.side ∧ p.side < (pins.length:Int)) → (∀ k,pins.getD k false = true → (pressQ now q pins).2.getD k false = true) ∧ ∀ p ∈ q,p ∈ (pressQ now q pins).1 ∨ (p.time ≤ now ∧ (pressQ now q pins).2.getD p.side.toNat false = true)
 | [],pins,_ => ⟨fun k h => h,fun p hp => by cases hp⟩
 | a :: q,pins,hl => by
  simp only [pressQ]
  split
  ·rename_i hle
   have ha:=hl a (by simp)
   obtain ⟨i1,i2⟩:=pressQ_pins now q (pins.set a.side.toNat true) fun p hp => by rw [List.length_set]; exact hl p (by simp [hp])
   refine ⟨fun k h => i1 k (getD_set_true h),fun p hp => ?_⟩
   rcases List.mem_cons.1 hp with rfl | hp
   ·right
    refine ⟨hle,i1 _ ?_⟩
    rw [List.getD_eq_getElem?_getD,List.getElem?_set,if_pos rfl,if_pos (by omega)]
    rfl
   ·exact i2 p hp
  ·exact ⟨fun k h => h,fun p hp => .inl hp⟩
structure Inv (t:Tray) (s:Cs):Prop where
 srv:∀ p ∈ t.pres,p ∈ s.q ∨ (p.time ≤ s.now ∧ (s.pins.getD p.side.toNat false = true ∨ ∃ x ∈ s.plays,x.side = p.side ∧ p.time ≤ x.time))
 ply:∀ x ∈ s.plays,0 ≤ x.side ∧ x.side < 2 * (t.n:Int) ∧ 0 ≤ x.time ∧ x.time + secsI t x.side ≤ s.now
 spc:s.plays.Pairwise fun a b => a.time + secsI t a.side ≤ b.time
 end_:s.end_ = match s.plays.getLast? with | none => 0 | some x => x.time + secsI t x.side
 cnt:s.plays.length + trues s.pins + s.q.length ≤ t.pres.length
theorem Inv.press {t:Tray} (ht:TrayOk t) {s:Cs} (hs:CsOk t s) (h:Inv t s):Inv t s.press:=by
 have hl:∀ p ∈ s.q,0 ≤ p.side ∧ p.side < (s.pins.length:Int):=fun p hp => by have:=(hs.q p hp).1; have:=hs.pins; omega
 obtain ⟨h1,h2⟩:=pressQ_pins s.now s.q s.pins hl
 refine ⟨fun p hp => ?_,h.ply,h.spc,h.end_,?_⟩
 ·rcases h.srv p hp with h3 | ⟨h3,h4⟩
  ·rcases h2 p h3 with h5 | ⟨h5,h6⟩
   ·exact .inl h5
   ·exact .inr ⟨h5,.inl h6⟩
  ·rcases h4 with h4 | h4
   ·exact .inr ⟨h3,.inl (h1 _ h4)⟩
   ·exact .inr ⟨h3,.inr h4⟩
 ·have:=pressQ_count s.now s.q s.pins
  have:=h.cnt
  show s.plays.length + trues (pressQ s.now s.q s.pins).2 + (pressQ s.now s.q s.pins).1.length ≤ _
  omega
theorem Inv.act1 {t:Tray} (ht:TrayOk t) {s s':Cs} (hs:CsOk t s) (hpr:Pressed s) (h:Inv t s) (e:s.act1 t = some s'):Inv t s':=by
 rcases act1_cases e with ⟨p,q,hq,hpins,rfl⟩ | ⟨hpins,rfl⟩
 ·have hnow:=hpr p (by rw [hq]; simp)
  refine ⟨fun x hx => ?_,fun x hx => ?_,h.spc,h.end_,h.cnt⟩
  ·rcases h.srv x hx with h3 | ⟨h3,h4⟩
   ·exact .inl h3
   ·exact .inr ⟨by simp only; omega,h4⟩
  ·have:=h.ply x hx; simp only; omega
 ·obtain ⟨n1,n2,n3,n4⟩:=next_keeps t (s.play t)
  obtain ⟨m1,m2,m3,m4⟩:=next_now ht.step.1 (s.play t)
  have hpos:=pos_lt hs
  have hsec:=secs_ok ht hpos
  have hst:=ht.step
  by_cases hp:s.pins.getD s.pos false = true
  ·obtain ⟨p1,p2,p3,p4,p5,p6⟩:=play_yes (t:=t) hp
   have hsI:secsI t ((s.pos:Nat):Int) = secs t s.pos:=by unfold secsI; rw [Int.toNat_natCast]
   refine ⟨fun x hx => ?_,fun x hx => ?_,?_,?_,?_⟩
   ·rw [n1,n2,n3,p1,p2,p3]
    rcases h.srv x hx with h3 | ⟨h3,h4⟩
    ·exact .inl h3
    ·refine .inr ⟨by omega,?_⟩
     rcases h4 with h4 | ⟨y,hy,hy2⟩
     ·by_cases es:s.pos = x.side.toNat
      ·refine .inr ⟨⟨s.pos,s.now⟩,by simp,?_,h3⟩
       have:=(ht.pres x hx).1
       simp only; omega
      ·refine .inl ?_
       rw [List.getD_eq_getElem?_getD,List.getElem?_set,if_neg es,← List.getD_eq_getElem?_getD]
       exact h4
     ·exact .inr ⟨y,by simp [hy],hy2⟩
   ·rw [n3,p3] at hx
    rcases List.mem_append.1 hx with hx | hx
    ·have:=h.ply x hx; omega
    ·simp only [List.mem_singleton] at hx
     subst hx
     have:=hs.now
     simp only [hsI]
     omega
   ·rw [n3,p3]
    refine List.pairwise_append.2 ⟨h.spc,by simp,fun x hx y hy => ?_⟩
    simp only [List.mem_singleton] at hy
    subst hy
    exact (h.ply x hx).2.2.2
   ·rw [n4,p5,n3,p3,List.getLast?_concat]
    simp only [hsI]
   ·rw [n1,n2,n3,p1,p2,p3,List.length_append]
    have:=trues_set_false hp
    have:=h.cnt
    simp only [List.length_cons,List.length_nil]; omega
  ·rw [play_no hp] at n1 n2 n3 n4 m1 m2 m3 m4 ⊢
   refine ⟨fun x hx => ?_,fun x hx => ?_,?_,?_,?_⟩
   ·rw [n1,n2,n3]
    rcases h.srv x hx with h3 | ⟨h3,h4⟩
    ·exact .inl h3
    ·exact .inr ⟨by omega,h4⟩
   ·rw [n3] at hx
    have:=h.ply x hx; omega
   ·rw [n3]; exact h.spc
   ·rw [n4,n3]; exact h.end_
   ·rw [n1,n2,n3]; exact h.cnt
theorem Inv.start {t:Tray} {q:List Pr} (hq:q.Perm t.pres):Inv t ((start t q).mark (-1)):=by
 refine ⟨fun p hp => .inl (hq.mem_iff.2 hp),fun x hx => ?_,List.Pairwise.nil,rfl,?_⟩
 ·cases hx
 ·show 0 + trues (List.replicate (2 * t.n) false) + q.length ≤ _
  have:trues (List.replicate (2 * t.n) false) = 0:=by
   unfold trues; rw [List.countP_eq_zero]; intro a ha; have:=(List.mem_replicate.1 ha).2; simp [this]
  have:=hq.length_eq
  omega
structure RunOk (t:Tray) (s:Cs):Prop where
 inv:Inv t s
 now:s.now ≤ 300000
 steps:0 ≤ s.steps ∧ s.steps ≤ 200
 q:s.q = []
 pins:s.pins.all (!·) = true
 spells:s.spells.length ≤ 1000
theorem run_ok {t:Tray} (ht:TrayOk t) {q:List Pr} (hq:q.Perm t.pres) (hqs:q.Pairwise fun a b => a.time ≤ b.time):RunOk t (goesWith t q):=by
 obtain ⟨k,hk,⟨h1,h2,h3,h4⟩,h5,_,_⟩:=goes_inv ht hq hqs (fun k s => Inv t s ∧ s.now ≤ 10000 + 1059 * (k:Int) ∧ (0 ≤ s.steps ∧ s.steps ≤ (k:Int)) ∧ s.spells.length ≤ 1 + 3 * k) ⟨Inv.start hq,by simp [start,Cs.mark],by simp [start,Cs.mark],by simp [start,Cs.mark]⟩
  (fun k s hs ⟨i1,i2,i3,i4⟩ => ⟨i1.press ht hs,i2,i3,i4⟩)
  (fun k s s' hs hpr ⟨i1,i2,i3,i4⟩ e => by
   have hg:=act1_grown ht hs e
   refine ⟨i1.act1 ht hs hpr e,?_,?_,?_⟩
   ·rcases hg.now with h | h <;> omega
   ·have:=hg.steps; omega
   ·have:=hg.spells; omega)
 obtain ⟨e1,e2⟩:=act1_none h5
 exact ⟨h1,by omega,by omega,e1,e2,by omega⟩
def servesI:List Pr → Pr → Int → Int
 | [],_,_ => -1
 | x :: l,p,k => if x.side = p.side ∧ p.time ≤ x.time then k else servesI l p (k + 1)
theorem servesI_spec (p:Pr):∀ (l:List Pr) (k:Int),(servesI l p k = -1 ∧ ∀ x ∈ l,¬ (x.side = p.side ∧ p.time ≤ x.time)) ∨ ∃ j,∃ h:j < l.length,servesI l p k = k + j ∧ (l[j].side = p.side ∧ p.time ≤ l[j].time) ∧ ∀ i (hi:i < j),¬ ((l[i]'(by omega)).side = p.side ∧ p.time ≤ (l[i]'(by omega)).time)
 | [],k => .inl ⟨rfl,by simp⟩
 | x :: l,k => by
  by_cases h:x.side = p.side ∧ p.time ≤ x.time
  ·refine .inr ⟨0,by simp,?_,h,fun i hi => by omega⟩
   simp only [servesI,if_pos h]; simp
  ·have e:servesI (x :: l) p k = servesI l p (k + 1):=by simp only [servesI,if_neg h]
   rcases servesI_spec p l (k + 1) with ⟨h1,h2⟩ | ⟨j,hj,h1,h2,h3⟩
   ·refine .inl ⟨by rw [e,h1],fun y hy => ?_⟩
    rcases List.mem_cons.1 hy with rfl | hy
    ·exact h
    ·exact h2 y hy
   ·refine .inr ⟨j + 1,by simpa using hj,by rw [e,h1]; omega,h2,fun i hi => ?_⟩
    cases i with
    | zero => exact h
    | succ i => exact h3 i (by omega)
def playsS (t:Tray):List Pr:=(goesS t).plays
theorem served_ok {t:Tray} {s:Cs} (h:RunOk t s) {p:Pr} (hp:p ∈ t.pres):∃ j,∃ h:j < s.plays.length,servesI s.plays p 0 = (j:Int) ∧ (s.plays[j].side = p.side ∧ p.time ≤ s.plays[j].time) ∧ ∀ i (hi:i < j),¬ ((s.plays[i]'(by omega)).side = p.side ∧ p.time ≤ (s.plays[i]'(by omega)).time):=by
 rcases servesI_spec p s.plays 0 with ⟨h1,h2⟩ | ⟨j,hj,h1,h2,h3⟩
 ·exfalso
  rcases h.inv.srv p hp with h3 | ⟨h3,h4⟩
  ·rw [h.q] at h3; cases h3
  ·rcases h4 with h4 | ⟨x,hx,hx2⟩
   ·have hk:p.side.toNat < s.pins.length:=by
     rcases Nat.lt_or_ge p.side.toNat s.pins.length with h | h
     ·exact h
     ·rw [List.getD_eq_getElem?_getD,List.getElem?_eq_none h] at h4; simp at h4
    rw [List.getD_eq_getElem?_getD,List.getElem?_eq_getElem hk] at h4
    have:=List.all_eq_true.1 h.pins _ (List.getElem_mem hk)
    simp at h4
    rw [h4] at this
    cases this
   ·exact h2 x hx hx2
 ·exact ⟨j,hj,by rw [h1]; omega,h2,h3⟩
theorem goes_ok {t:Tray} (ht:TrayOk t):RunOk t (goesS t):=run_ok ht (sortT_perm t.pres) (sortT_sorted t.pres)
end Go.Proofs.YtbclmfjibpppfaaGreat

namespace Go.Proofs.YtbclmfjibpppfaaGreat
open Go Go.V
abbrev o10_0:List Ins:=[JS 1 (.box 5 (.t 0)),JS 2 (.mv (.k J0)),JS 3 (Ji 0)]
abbrev o10_1:List Ins:=[JS 5 (JL 5 1),JS 6 (Jc 25 [.t 5]),JS 4 (Jm 6)]
abbrev o10_2:List Ins:=[JS 7 (Jm 4),JS 8 (Jk .neq 7 0)]
abbrev o10_3:List Ins:=[JS 9 (Jm 4),JS 2 (.mv (.k J0)),JS 3 (Jm 9)]
abbrev v10_4:VC:=(.seq (.ops o10_3) .ret)
abbrev v10_5:VC:=(.cond (.t 8) v10_4 .skip)
abbrev v10_6:VC:=(.seq (.ops o10_2) v10_5)
abbrev o10_7:List Ins:=[JS 10 (JL 5 1),JS 11 (Jc 26 [.t 10]),JS 12 (.fld true 1 1 (.t 11)),JS 2 (Jm 12),JS 3 (Ji 0)]
abbrev v10_8:VC:=(.seq (.ops o10_7) .ret)
abbrev v10_9:VC:=(.seq (.seq (.ops o10_1) v10_6) v10_8)
def ir10:FC:=⟨1,13,[.t 2,.t 3],(.seq (.ops o10_0) v10_9)⟩
theorem c10:compM Tryz.prog [] 10 = some ir10:=by kernel_rfl
attribute [local go_sem] Nat.reduceEqDiff Nat.reduceAdd Nat.reduceMul reduceIte Nat.reduceLeDiff Nat.reduceLT Nat.reduceBEq reduceCtorEq
def playsR (t:Tray):List Pr × Int:=if t.ok then (playsS t,0) else ([],20)
theorem plays22 (t:Tray):FSpec Tryz.prog 10 [t.av] (.tup [.c (prsC (playsR t).1),iv (playsR t).2]):=by
 have hck:=check40 t
 unfold playsR
 cases hok:t.ok
 ·simp only [hok,Bool.false_eq_true,if_false] at hck ⊢
  refine FSpec_of c10 (Nat.le_refl _) (by decide) fun C hP hN hC hL => ?_; rw [init_st]
  simp only [ir10,Tray.av]
  (repeat ((first | refine Va ?_ | refine Vb ?_ | refine Vc ?_ | refine Vd ?_ | refine Ve ?_ | refine Vf ?_); (try simp only [go_sem,hP]); (repeat refine qJ ?_)))
  (refine AS_pu (hck) ?_; simp only [go_sem,hP,Tray.av]; (repeat refine qJ ?_); (repeat ((first | refine Va ?_ | refine Vb ?_ | refine Vc ?_ | refine Vd ?_ | refine Ve ?_ | refine Vf ?_); (try simp only [go_sem,hP,Tray.av]); (repeat refine qJ ?_))))
  (refine WV_cond rfl (fun h => ?_) (fun h => ?_))
  ·(repeat ((first | refine Va ?_ | refine Vb ?_ | refine Vc ?_ | refine Vd ?_ | refine Ve ?_ | refine Vf ?_); (try simp only [go_sem,hP]); (repeat refine qJ ?_)))
   (refine WV_ret ?_; simp only [thenQ,inQ,RetQ,RetOk,resAll,resA]; simp only [go_sem,tupA,AV.port,AV.portL,exists_eq_left'])
   exact AVle.tup (AVles.cons (AVle.nil 2) (AVles.refl _))
  ·simp at h
 ·simp only [hok,if_true] at hck ⊢
  have hgo:=goes54 (Tray.ok_spec hok).1
  refine FSpec_of c10 (Nat.le_refl _) (by decide) fun C hP hN hC hL => ?_; rw [init_st]
  simp only [ir10,Tray.av]
  (repeat ((first | refine Va ?_ | refine Vb ?_ | refine Vc ?_ | refine Vd ?_ | refine Ve ?_ | refine Vf ?_); (try simp only [go_sem,hP]); (repeat refine qJ ?_)))
  (refine AS_pu (hck) ?_; simp only [go_sem,hP,Tray.av]; (repeat refine qJ ?_); (repeat ((first | refine Va ?_ | refine Vb ?_ | refine Vc ?_ | refine Vd ?_ | refine Ve ?_ | refine Vf ?_); (try simp only [go_sem,hP,Tray.av]); (repeat refine qJ ?_))))
  (refine WV_cond rfl (fun h => ?_) (fun h => ?_))
  ·simp at h
  ·(repeat ((first | refine Va ?_ | refine Vb ?_ | refine Vc ?_ | refine Vd ?_ | refine Ve ?_ | refine Vf ?_); (try simp only [go_sem,hP]); (repeat refine qJ ?_)))
   (refine AS_pu (hgo) ?_; simp only [go_sem,hP,Tray.av,Cs.run]; (repeat refine qJ ?_); (repeat ((first | refine Va ?_ | refine Vb ?_ | refine Vc ?_ | refine Vd ?_ | refine Ve ?_ | refine Vf ?_); (try simp only [go_sem,hP,Tray.av,Cs.run]); (repeat refine qJ ?_))))
   (refine WV_ret ?_; simp only [thenQ,inQ,RetQ,RetOk,resAll,resA]; simp only [go_sem,tupA,AV.port,AV.portL,exists_eq_left']; (first | exact AVle.of rfl | refine AVle.of ?_ | skip))
def Tray.pr (t:Tray) (k:Int):Pr:=t.pres.getD k.toNat default
end Go.Proofs.YtbclmfjibpppfaaGreat

/-
 One way up and down: no press waits longer than a whole round,and each play serves a press: plain.
-/
namespace Go.Proofs.YtbclmfjibpppfaaGreat
open Go Go.V
def sideC (n c:Nat):Nat:=if c < n then 2 * c else 2 * (2 * n - 1 - c) + 1
theorem sideC_cyc {n k:Nat} (up:Bool) (h:k < n):sideC n (cyc n k up) = sideAt k up:=by
 unfold sideC cyc sideAt
 cases up
 ·simp only [Bool.false_eq_true,if_false]; split <;> omega
 ·simp only [if_true]; split <;> omega
def goC (t:Tray) (c:Nat):Int:=if c + 1 = t.n ∨ c + 1 = 2 * t.n then 0 else t.step
def costC (t:Tray) (c:Nat):Int:=secs t (sideC t.n c) + goC t c
def preC (t:Tray):Nat → Int
 | 0 => 0
 | k + 1 => preC t k + costC t k
def roundC (t:Tray):Int:=preC t (2 * t.n)
def timeC (t:Tray) (c d:Nat):Int:=if c ≤ d then preC t d - preC t c else roundC t - preC t c + preC t d
theorem sideC_lt {n c:Nat} (h:c < 2 * n):sideC n c < 2 * n:=by unfold sideC; split <;> omega
theorem costC_nonneg {t:Tray} (ht:TrayOk t) {c:Nat} (h:c < 2 * t.n):0 ≤ costC t c:=by
 have h1:=secs_ok ht (sideC_lt h)
 have h2:=ht.step
 unfold costC goC; split <;> omega
theorem preC_mono {t:Tray} (ht:TrayOk t) {a:Nat}:∀ (k:Nat),a + k ≤ 2 * t.n → preC t a ≤ preC t (a + k)
 | 0,_ => Int.le_refl _
 | k + 1,h => by
  have h1:=preC_mono ht (a:=a) k (by omega)
  have h2:=costC_nonneg ht (c:=a + k) (by omega)
  rw [← Nat.add_assoc]
  show _ ≤ preC t (a + k) + costC t (a + k)
  omega
theorem preC_le {t:Tray} (ht:TrayOk t) {a b:Nat} (h:a ≤ b) (hb:b ≤ 2 * t.n):preC t a ≤ preC t b:=by
 have:=preC_mono ht (a:=a) (b - a) (by omega)
 rwa [show a + (b - a) = b from by omega] at this
theorem preC_nonneg {t:Tray} (ht:TrayOk t) {a:Nat} (h:a ≤ 2 * t.n):0 ≤ preC t a:=preC_le ht (Nat.zero_le a) h
theorem timeC_le {t:Tray} (ht:TrayOk t) {c d:Nat} (hc:c < 2 * t.n) (hd:d < 2 * t.n):timeC t c d ≤ roundC t:=by
 have h1:=preC_le ht (a:=d) (b:=2 * t.n) (by omega) (by omega)
 have h2:=preC_nonneg ht (a:=c) (by omega)
 unfold timeC roundC at *
 split
 ·omega
 ·have:=preC_le ht (a:=d) (b:=c) (by omega) (by omega); omega
theorem timeC_self (t:Tray) (c:Nat):timeC t c c = 0:=by unfold timeC; rw [if_pos (Nat.le_refl _)]; omega
theorem timeC_next {t:Tray} (ht:TrayOk t) {c d:Nat} (hc:c < 2 * t.n) (hd:d < 2 * t.n):timeC t (cycNext t.n c) d + costC t c ≤ roundC t ∧ (c ≠ d → timeC t (cycNext t.n c) d + costC t c = timeC t c d):=by
 have hs:preC t (c + 1) = preC t c + costC t c:=rfl
 have h0:preC t 0 = 0:=rfl
 have h1:=preC_nonneg ht (a:=c) (by omega)
 unfold cycNext
 by_cases e:c + 1 = 2 * t.n
 ·rw [if_pos e]
  have h2:=preC_le ht (a:=d) (b:=c) (by omega) (by omega)
  have h3:roundC t = preC t (c + 1):=by unfold roundC; rw [e]
  have h4:timeC t 0 d = preC t d:=by unfold timeC; rw [if_pos (Nat.zero_le _)]; omega
  refine ⟨by omega,fun hne => ?_⟩
  rw [h4]; unfold timeC; rw [if_neg (by omega)]; omega
 ·rw [if_neg e]
  by_cases hcd:c + 1 ≤ d
  ·have h2:=preC_le ht (a:=d) (b:=2 * t.n) (by omega) (by omega)
   have h4:timeC t (c + 1) d = preC t d - preC t (c + 1):=by unfold timeC; rw [if_pos hcd]
   refine ⟨by unfold roundC; omega,fun hne => ?_⟩
   rw [h4]; unfold timeC; rw [if_pos (by omega)]; omega
  ·have h2:=preC_le ht (a:=d) (b:=c) (by omega) (by omega)
   have h4:timeC t (c + 1) d = roundC t - preC t (c + 1) + preC t d:=by unfold timeC; rw [if_neg hcd]
   refine ⟨by omega,fun hne => ?_⟩
   rw [h4]; unfold timeC; rw [if_neg (by omega)]; omega
theorem move_time {t:Tray} {s:Cs} (h:s.at_ < t.n):(s.move t).now = s.now + goC t (s.c t):=by
 unfold Cs.move Cs.c cyc goC
 cases s.up
 ·simp only [Bool.false_eq_true,if_false]
  by_cases h0:0 < s.at_
  ·rw [if_pos h0,if_neg (by omega)]
  ·rw [if_neg h0,if_pos (by omega)]; simp
 ·simp only [if_true]
  by_cases h0:s.at_ + 1 < t.n
  ·rw [if_pos h0,if_neg (by omega)]
  ·rw [if_neg h0,if_pos (by omega)]; simp
theorem pressQ_from (now:Int):∀ (q:List Pr) (pins:List Bool) (k:Nat),(pressQ now q pins).2.getD k false = true → pins.getD k false = true ∨ ∃ p ∈ q,p.side.toNat = k ∧ p.time ≤ now
 | [],pins,k,h => .inl h
 | a :: q,pins,k,h => by
  simp only [pressQ] at h
  split at h
  ·rename_i hle
   rcases pressQ_from now q _ k h with h1 | ⟨p,hp,h1⟩
   ·by_cases e:a.side.toNat = k
    ·exact .inr ⟨a,by simp,e,hle⟩
    ·left
     rw [List.getD_eq_getElem?_getD,List.getElem?_set,if_neg e,← List.getD_eq_getElem?_getD] at h1
     exact h1
   ·exact .inr ⟨p,by simp [hp],h1⟩
  ·exact .inl h
theorem pressQ_sub (now:Int) (q:List Pr) (pins:List Bool):∀ p ∈ (pressQ now q pins).1,p ∈ q:=by
 obtain ⟨k,hk⟩:=pressQ_suffix now q pins
 intro p hp
 rw [hk] at hp
 exact List.mem_of_mem_drop hp
def PlyOk (t:Tray) (l:List Pr):Prop:=∀ i (h:i < l.length),∃ p ∈ t.pres,p.side = l[i].side ∧ p.time ≤ l[i].time ∧ ∀ j (hj:j < i),(l[j]'(by omega)).side = p.side → (l[j]'(by omega)).time < p.time
structure Due (t:Tray) (s:Cs):Prop where
 due:∀ p ∈ t.pres,((p ∈ s.q ∨ (p.time ≤ s.now ∧ s.pins.getD p.side.toNat false = true)) ∧ s.now + timeC t (s.c t) (cycOf t.n p.side.toNat) ≤ p.time + roundC t) ∨ ∃ x ∈ s.plays,x.side = p.side ∧ p.time ≤ x.time ∧ x.time ≤ p.time + roundC t
 sub:∀ p ∈ s.q,p ∈ t.pres
 late:∀ p ∈ s.q,∀ y ∈ s.plays,y.time < p.time
 pin:∀ k,s.pins.getD k false = true → ∃ p ∈ t.pres,p.side = (k:Int) ∧ p.time ≤ s.now ∧ ∀ y ∈ s.plays,y.side = p.side → y.time < p.time
 ply:PlyOk t s.plays
theorem Due.press {t:Tray} (ht:TrayOk t) {s:Cs} (hs:CsOk t s) (h:Due t s):Due t s.press:=by
 have hl:∀ p ∈ s.q,0 ≤ p.side ∧ p.side < (s.pins.length:Int):=fun p hp => by have:=(hs.q p hp).1; have:=hs.pins; omega
 obtain ⟨h1,h2⟩:=pressQ_pins s.now s.q s.pins hl
 refine ⟨fun p hp => ?_,fun p hp => h.sub p (pressQ_sub _ _ _ p hp),fun p hp => h.late p (pressQ_sub _ _ _ p hp),fun k hk => ?_,h.ply⟩
 ·rcases h.due p hp with ⟨h3,h4⟩ | h3
  ·refine .inl ⟨?_,h4⟩
   rcases h3 with h3 | ⟨h3,h5⟩
   ·rcases h2 p h3 with h5 | ⟨h5,h6⟩
    ·exact .inl h5
    ·exact .inr ⟨h5,h6⟩
   ·exact .inr ⟨h3,h1 _ h5⟩
  ·exact .inr h3
 ·rcases pressQ_from s.now s.q s.pins k hk with h3 | ⟨p,hp,h3,h4⟩
  ·exact h.pin k h3
  ·refine ⟨p,h.sub p hp,?_,h4,fun y hy _ => h.late p hp y hy⟩
   have:=(hl p hp).1; omega
theorem Due.act1 {t:Tray} (ht:TrayOk t) {s s':Cs} (hs:CsOk t s) (hpr:Pressed s) (h:Due t s) (e:s.act1 t = some s'):Due t s':=by
 have hc:s.c t < 2 * t.n:=Cs.c_lt hs
 have hdl:∀ p ∈ t.pres,cycOf t.n p.side.toNat < 2 * t.n:=fun p hp => cycOf_lt (by have:=(ht.pres p hp).1; omega)
 rcases act1_cases e with ⟨p,q,hq,hpins,rfl⟩ | ⟨hpins,rfl⟩
 ·have hnow:=hpr p (by rw [hq]; simp)
  have hall:∀ k,¬ s.pins.getD k false = true:=fun k hk => by
   have hkl:k < s.pins.length:=by
    rcases Nat.lt_or_ge k s.pins.length with h | h
    ·exact h
    ·rw [List.getD_eq_getElem?_getD,List.getElem?_eq_none h] at hk; simp at hk
   rw [List.getD_eq_getElem?_getD,List.getElem?_eq_getElem hkl] at hk
   have:=List.all_eq_true.1 hpins _ (List.getElem_mem hkl)
   simp at hk
   rw [hk] at this; cases this
  refine ⟨fun x hx => ?_,h.sub,h.late,fun k hk => absurd hk (hall k),h.ply⟩
  rcases h.due x hx with ⟨h3,h4⟩ | h3
  ·rcases h3 with h3 | ⟨_,h3⟩
   ·refine .inl ⟨.inl h3,?_⟩
    have h5:=timeC_le ht hc (hdl x hx)
    have h6:p.time ≤ x.time:=by
     have hso:=hs.sorted
     rw [hq] at h3 hso
     rcases List.mem_cons.1 h3 with rfl | h3
     ·exact Int.le_refl _
     ·exact (List.pairwise_cons.1 hso).1 x h3
    show p.time + timeC t (s.c t) _ ≤ _
    omega
   ·exact absurd h3 (hall _)
  ·exact .inr h3
 ·obtain ⟨n1,n2,n3,n4⟩:=next_keeps t (s.play t)
  have hpos:=pos_lt hs
  have hsec:=secs_ok ht hpos
  have ea:(s.play t).at_ = s.at_ ∧ (s.play t).up = s.up:=⟨(play_pins t s).2.2.1,(play_pins t s).2.2.2⟩
  have hat:(s.play t).at_ < t.n:=by rw [ea.1]; exact hs.at_
  have ec:(s.play t).c t = s.c t:=by unfold Cs.c; rw [ea.1,ea.2]
  have hmv:((s.play t).next t).now = (s.play t).now + goC t (s.c t):=by rw [← ec]; exact move_time hat
  have hcn:((s.play t).next t).c t = cycNext t.n (s.c t):=by rw [← ec]; exact (move_c (t:=t) hat).1
  have hps:sideC t.n (s.c t) = s.pos:=sideC_cyc s.up hs.at_
  have hcost:costC t (s.c t) = secs t s.pos + goC t (s.c t):=by unfold costC; rw [hps]
  have hcp:cycOf t.n s.pos = s.c t:=cyc_pos t s
  have hgo:0 ≤ goC t (s.c t):=by have:=ht.step; unfold goC; split <;> omega
  by_cases hp:s.pins.getD s.pos false = true
  ·obtain ⟨p1,p2,p3,p4,p5,p6⟩:=play_yes (t:=t) hp
   refine ⟨fun x hx => ?_,fun x hx => ?_,fun x hx y hy => ?_,fun k hk => ?_,?_⟩
   ·rw [n1,n2,n3,p1,p2,p3,hmv,hcn,p4]
    have hx1:=(ht.pres x hx).1
    obtain ⟨t1,t2⟩:=timeC_next ht hc (hdl x hx)
    rcases h.due x hx with ⟨h3,h4⟩ | ⟨y,hy,hy2⟩
    ·rcases h3 with h3 | ⟨h3,h5⟩
     ·have:=hpr x h3
      exact .inl ⟨.inl h3,by omega⟩
     ·by_cases es:s.pos = x.side.toNat
      ·refine .inr ⟨⟨s.pos,s.now⟩,by simp,by simp only; omega,h3,?_⟩
       rw [← es,hcp,timeC_self] at h4
       simp only; omega
      ·have hne:s.c t ≠ cycOf t.n x.side.toNat:=fun e => es (cycOf_inj hpos (by omega) (by rw [hcp,e]))
       have t3:=t2 hne
       refine .inl ⟨.inr ⟨by omega,?_⟩,by omega⟩
       rw [List.getD_eq_getElem?_getD,List.getElem?_set,if_neg es,← List.getD_eq_getElem?_getD]
       exact h5
    ·exact .inr ⟨y,by simp [hy],hy2⟩
   ·rw [n1,p1] at hx; exact h.sub x hx
   ·rw [n1,p1] at hx
    rw [n3,p3] at hy
    rcases List.mem_append.1 hy with hy | hy
    ·exact h.late x hx y hy
    ·simp only [List.mem_singleton] at hy
     subst hy; exact hpr x hx
   ·rw [n2,p2] at hk
    have hne:s.pos ≠ k:=by
     rintro rfl
     rw [List.getD_eq_getElem?_getD,List.getElem?_set,if_pos rfl] at hk
     split at hk <;> simp at hk
    rw [List.getD_eq_getElem?_getD,List.getElem?_set,if_neg hne,← List.getD_eq_getElem?_getD] at hk
    obtain ⟨p,hp1,hp2,hp3,hp4⟩:=h.pin k hk
    refine ⟨p,hp1,hp2,by rw [hmv,p4]; omega,fun y hy hy2 => ?_⟩
    rw [n3,p3] at hy
    rcases List.mem_append.1 hy with hy | hy
    ·exact hp4 y hy hy2
    ·simp only [List.mem_singleton] at hy
     subst hy
     simp only at hy2; omega
   ·rw [n3,p3]
    intro i hi
    by_cases hil:i < s.plays.length
    ·obtain ⟨p,h1,h2,h3,h4⟩:=h.ply i hil
     refine ⟨p,h1,by rw [List.getElem_append_left hil]; exact h2,by rw [List.getElem_append_left hil]; exact h3,fun j hj => ?_⟩
     rw [List.getElem_append_left (by omega)]
     exact h4 j hj
    ·have hii:i = s.plays.length:=by simp at hi; omega
     subst hii
     obtain ⟨p,hp1,hp2,hp3,hp4⟩:=h.pin s.pos hp
     refine ⟨p,hp1,by simp [hp2],by simp; exact hp3,fun j hj => ?_⟩
     rw [List.getElem_append_left hj]
     exact hp4 _ (List.getElem_mem hj)
  ·rw [play_no hp] at n1 n2 n3 n4 hmv hcn ⊢
   refine ⟨fun x hx => ?_,fun x hx => ?_,fun x hx y hy => ?_,fun k hk => ?_,?_⟩
   ·rw [n1,n2,n3,hmv,hcn]
    have hx1:=(ht.pres x hx).1
    obtain ⟨t1,t2⟩:=timeC_next ht hc (hdl x hx)
    rcases h.due x hx with ⟨h3,h4⟩ | h3
    ·rcases h3 with h3 | ⟨h3,h5⟩
     ·have:=hpr x h3
      exact .inl ⟨.inl h3,by omega⟩
     ·have es:¬ s.pos = x.side.toNat:=fun e => by rw [← e] at h5; exact hp h5
      have hne:s.c t ≠ cycOf t.n x.side.toNat:=fun e => es (cycOf_inj hpos (by omega) (by rw [hcp,e]))
      have t3:=t2 hne
      exact .inl ⟨.inr ⟨by omega,h5⟩,by omega⟩
    ·exact .inr h3
   ·rw [n1] at hx; exact h.sub x hx
   ·rw [n1] at hx
    rw [n3] at hy
    exact h.late x hx y hy
   ·rw [n2] at hk
    obtain ⟨p,hp1,hp2,hp3,hp4⟩:=h.pin k hk
    exact ⟨p,hp1,hp2,by rw [hmv]; omega,fun y hy hy2 => hp4 y (by rwa [n3] at hy) hy2⟩
   ·rw [n3]; exact h.ply
theorem due {t:Tray} (ht:TrayOk t) {q:List Pr} (hq:q.Perm t.pres) (hqs:q.Pairwise fun a b => a.time ≤ b.time):Due t (goesWith t q):=by
 have h0:=start_okQ ht hq hqs
 obtain ⟨k,_,h,_,_,_⟩:=goes_inv ht hq hqs (fun _ s => Due t s) (by
  refine ⟨fun p hp => .inl ⟨.inl (hq.mem_iff.2 hp),?_⟩,fun p hp => hq.mem_iff.1 hp,fun p hp y hy => (by cases hy),fun k hk => ?_,fun i hi => absurd hi (Nat.not_lt_zero i)⟩
  ·have h1:=timeC_le ht (Cs.c_lt h0) (cycOf_lt (n:=t.n) (s:=p.side.toNat) (by have:=(ht.pres p hp).1; omega))
   have h2:=(ht.pres p hp).2
   show (0:Int) + _ ≤ _
   omega
  ·have hk:(List.replicate (2 * t.n) false).getD k false = true:=hk
   rw [List.getD_eq_getElem?_getD,List.getElem?_replicate] at hk
   split at hk <;> simp at hk)
  (fun k s hs h => h.press ht hs) (fun k s s' hs hpr h e => h.act1 ht hs hpr e)
 exact h
theorem play_serves {t:Tray} (ht:TrayOk t) {i:Nat} (hi:i < (playsS t).length):∃ k,k < t.pres.length ∧ servesI (playsS t) (t.pr (k:Int)) 0 = (i:Int):=by
 have hd:=due ht (sortT_perm t.pres) (sortT_sorted t.pres)
 obtain ⟨p,hp,h1,h2,h3⟩:=hd.ply i hi
 have h1:p.side = (playsS t)[i].side:=h1
 have h2:p.time ≤ (playsS t)[i].time:=h2
 obtain ⟨k,hk,rfl⟩:=List.getElem_of_mem hp
 have e:t.pr (k:Int) = t.pres[k]:=by unfold Tray.pr; rw [Int.toNat_natCast,List.getD_eq_getElem?_getD,List.getElem?_eq_getElem hk]; rfl
 refine ⟨k,hk,?_⟩
 rw [e]
 rcases servesI_spec t.pres[k] (playsS t) 0 with ⟨_,h4⟩ | ⟨j,hj,h4,h5,h6⟩
 ·exact absurd ⟨h1.symm,h2⟩ (h4 _ (List.getElem_mem hi))
 ·rw [h4]
  rcases Nat.lt_trichotomy j i with h | h | h
  ·have h7:=h3 j h h5.1
   have h7:(playsS t)[j].time < _:=h7
   omega
  ·omega
  ·exact absurd ⟨h1.symm,h2⟩ (h6 i h)
end Go.Proofs.YtbclmfjibpppfaaGreat

namespace Go.Proofs.YtbclmfjibpppfaaGreat
open Go Go.V
abbrev o11_0:List Ins:=[JS 1 (.box 5 (.t 0)),JS 2 (.alloc [J0,Jz 0,Jz 0,Jz 0,J0])]
abbrev o11_1:List Ins:=[JS 4 (JL 5 1),JS 3 (.alloc [J0,Jz 0,Jz 0,Jz 0,J0]),JN (Js 5 3 4)]
abbrev t11_2:OT:=(.cons (JF 6 (Jf 0 1)) (.cons (JF 7 (Jl 6)) (.cons (JF 10 (Jf 4 1)) (.cons (JF 11 (Jl 10)) (.br [(.cons (JF 5 (.bsl 51 2 [])) (.br [(.cons (JF 8 (.app 51 2 16 (.t 5) (.t 7))) (.cons (JF 9 (.bsl 84 2 [])) (.cons (JF 12 (.app 84 2 16 (.t 9) (.t 11))) (.cons (JF 13 (Jf 0 3)) (.cons (JN (Js 1 13 8)) (.cons (JS 14 (Jf 4 3)) (.cons (JN (Js 1 14 12)) .nil))))))),(.cons (JF 9 (.bsl 84 2 [])) (.cons (JF 8 (.app 51 2 16 (.t 5) (.t 7))) (.cons (JF 12 (.app 84 2 16 (.t 9) (.t 11))) (.cons (JF 13 (Jf 0 3)) (.cons (JN (Js 1 13 8)) (.cons (JS 14 (Jf 4 3)) (.cons (JN (Js 1 14 12)) .nil)))))))])),(.cons (JF 9 (.bsl 84 2 [])) (.cons (JF 5 (.bsl 51 2 [])) (.cons (JF 8 (.app 51 2 16 (.t 5) (.t 7))) (.cons (JF 12 (.app 84 2 16 (.t 9) (.t 11))) (.cons (JF 13 (Jf 0 3)) (.cons (JN (Js 1 13 8)) (.cons (JS 14 (Jf 4 3)) (.cons (JN (Js 1 14 12)) .nil))))))))])))))
abbrev o11_3:List Ins:=[JS 15 (JL 5 3),JN (Js 5 2 15)]
abbrev v11_4:VC:=(.seq (.ops o11_3) .ret)
abbrev v11_5:VC:=(.seq (.drw t11_2) v11_4)
abbrev v11_6:VC:=(.seq (.ops o11_1) v11_5)
def ir11:FC:=⟨1,16,[.cell 2 false 5],(.seq (.ops o11_0) v11_6)⟩
theorem c11:compM Tryz.prog [] 11 = some ir11:=by kernel_rfl
attribute [local go_sem] Nat.reduceEqDiff Nat.reduceAdd Nat.reduceMul reduceIte Nat.reduceLeDiff Nat.reduceLT Nat.reduceBEq reduceCtorEq
set_option maxRecDepth 20000 in
set_option maxHeartbeats 8000000 in
theorem copy20 (t:Tray) (hn:t.recs.length ≤ 1000) (hp:t.pres.length ≤ 1000):FSpec Tryz.prog 11 [t.av] t.av:=by
 have hmax:maxLen = 9223372036854775807:=rfl
 refine FSpec_of c11 (Nat.le_refl _) (by decide) fun C hP hN hC hL => ?_; rw [init_st]
 simp only [ir11,Tray.av]
 (repeat ((first | refine Va ?_ | refine Vb ?_ | refine Vc ?_ | refine Vd ?_ | refine Ve ?_ | refine Vf ?_); (try simp only [go_sem,hP]); (repeat refine qJ ?_)))
 (refine WV_drw ?_; simp only [go_sem,hP,recsC,prsC,recs_two,prs_two,List.nil_append,List.length_nil,List.length_map]; (repeat' (refine And.intro ?_ ?_)))
 all_goals try omega
 all_goals
  (repeat ((first | refine Va ?_ | refine Vb ?_ | refine Vc ?_ | refine Vd ?_ | refine Ve ?_ | refine Vf ?_); (try simp only [go_sem,hP,recsC,prsC,recs_two,prs_two,List.nil_append,List.length_nil,List.length_map]); (repeat refine qJ ?_)))
  (refine WV_ret ?_; simp only [thenQ,inQ,RetQ,RetOk,resAll,resA]; simp only [go_sem,tupA,AV.port,AV.portL,exists_eq_left']; (first | exact AVle.of rfl | refine AVle.of ?_ | skip))
end Go.Proofs.YtbclmfjibpppfaaGreat
