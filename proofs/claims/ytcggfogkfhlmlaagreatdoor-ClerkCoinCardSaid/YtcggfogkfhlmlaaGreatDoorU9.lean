/-
  Contracts of the layer's functions, of the laws' helpers and of the law; conditions: as each theorem states.
-/
import Derived.Test.YtcggfogkfhlmlaaGreatDoorU8
import Derived.Test.YtcggfogkfhlmlaaGreatDoorU7
import Derived.Test.YtcggfogkfhlmlaaGreatDoorU6
import Derived.Test.YtcggfogkfhlmlaaGreatDoorV2
set_option linter.unusedVariables false
set_option linter.unusedSimpArgs false
/-
 Two bars are the same;a script that is run;what each law looks at besides.
-/
namespace Go.Proofs.YtcggfogkfhlmlaaGreatDoor
open Go Go.V
variable {tb:Obj}
abbrev Zyo:List Ins:=[JSL 5 15 2,JSm 6 1,JSc 7 15 [.t 5,.t 6],JS 8 (.un .not (.t 7)),JSm 9 8,JTL 10 15 2 9,JTc 11 16 [.t 10] 9,JTk 12 .eql 11 0 9,JSp 13 9 12,JSm 14 13,JTm 15 1 14,JTn 16 15 14,JTk 17 .leq 16 40 14,JSp 18 14 17,JSm 4 18]
def Zzl:FC:=⟨2,19,[.t 4],(.seq (.ops [JS 2 (.box 15 (.t 0)),JSB 4 false]) (.seq (.ops Zyo) .ret))⟩
abbrev Zyp:List Ins:=[JS 6 (.bsl 9 1 [(.k (.c (.str [112,114,101,115,115,32,51,32,48]))),(.k (.c (.str [99,111,105,110,32,49]))),(.k (.c (.str [115,116,97,110,100]))),(.k (.c (.str [112,114,101,115,115,32,51,32,48]))),(.k (.c (.str [101,110,100]))),(.k (.c (.str [115,108,117,103,32,49]))),(.k (.c (.str [99,97,115,104]))),(.k (.c (.str [109,105,115,115,105,110,103]))),(.k (.c (.str [99,97,110]))),(.k (.c (.str [99,111,105,110,32,48,49]))),(.k (.c (.str [101,109,112,116,121])))]),JSm 1 6]
abbrev Zyq:List Ins:=[JS 7 (.bsl 9 1 [(.k (.c (.str [110,111]))),(.k (.c (.str [121,101,115]))),(.k (.c (.str [49,48,32,49]))),(.k (.c (.str [121,101,115]))),(.k (.c (.str [57,53]))),(.k (.c (.str [121,101,115]))),(.k (.c (.str [49,48,32,48,32,49,48]))),(.k (.c (.str [48]))),(.k (.c (.str [50]))),(.k (.c (.str [119,104,97,116]))),(.k (.c (.str [110,111])))]),JSm 2 7]
abbrev Zy5:VC:=(.seq (.ops Zyp) (.seq (.ops Zyq) (.seq (.ops [JSc 9 51 [],JSm 10 1,JSc 11 44 [.t 9,.t 10],JSm 8 11,JSe 12 8 0,JSe 13 8 1,JSe 14 8 2,JS 4 (.alloc [Jz 0,J0,J0,J0,J0,J0,Jz 0,Jz 0,Jz 0,Jz 0,J0,Jz 0,Jz 0,Jz 0,J0]),JSm 3 12,JUs 15 4 13,JSm 5 14]) (.seq (.ops [JSm 15 5,JSk 16 .eql 15 0,JSm 17 16,JTm 18 3 17,JTm 19 2 17,JTc 20 17 [.t 18,.t 19] 17,JSp 21 17 20,JSm 0 21]) .ret))))
def Zzm:FC:=⟨0,22,[.t 0],(.seq (.ops [JSB 0 false]) Zy5)⟩
abbrev Zyr:List Ins:=[JSL 11 15 2,JSc 12 39 [.t 11],JSm 13 1,JSc 14 44 [.t 12,.t 13],JSm 10 14,JSe 15 10 0,JSe 16 10 1,JSe 17 10 2,JS 8 (.alloc [Jz 0,J0,J0,J0,J0,J0,Jz 0,Jz 0,Jz 0,Jz 0,J0,Jz 0,Jz 0,Jz 0,J0]),JSm 7 15,JUs 15 8 16,JSm 9 17]
abbrev Zys:List Ins:=[JFm 18 7,JFL 19 15 8,JFm 20 9,JFk 21 .eql 20 0,JFm 22 21,JH 23 (Jm 7) 22 true,JH 24 (Jn 23) 22 true,JH 25 (Jm 1) 22 true,JH 26 (Jn 25) 22 true,JH 27 (Jb .eql 24 26) 22 true,JFp 28 22 27,JFm 4 18,JE (Js 15 5 19),JSm 6 28]
def Zzn:FC:=⟨2,29,[.t 4,.cell 5 false 15,.t 6],(.seq (.ops [JS 2 (.box 15 (.t 0)),JS 4 (.mv (.k J0)),JS 5 (.alloc [Jz 0,J0,J0,J0,J0,J0,Jz 0,Jz 0,Jz 0,Jz 0,J0,Jz 0,Jz 0,Jz 0,J0]),JSB 6 false]) (.seq (.ops Zyr) (.seq (.dops Zys) .ret)))⟩
abbrev Zxc:VC:=(.seq (.seq (.ops [JSm 11 5,JSm 12 0,JSn 13 12,JSb 14 .lss 11 13]) (.cond (.t 14) .skip (.exit 0))) (.seq (.block 1 (.seq (.dops [JFm 17 0,JFm 18 5,JFa 19 1 17 18,JFl 20 19,JFm 21 1,JFm 22 5,JFa 23 1 21 22,JFl 24 23,JS 25 (.prim (.sbin .neq) [.t 20,.t 24])]) (.cond (.t 25) (.seq (.ops [JSB 4 false]) .ret) .skip))) (.ops [JSm 15 5,JSk 16 .add 15 1,JSm 5 16])))
-- Zuc: changed and kept: [5]
abbrev Zuc:List Nat:=[0,1]
def Zzq:FC:=⟨2,26,[.t 4],(.seq (.ops [JSB 4 false]) (.seq (.seq (.ops [JSm 6 0,JSn 7 6,JSm 8 1,JSn 9 8,JSb 10 .neq 7 9]) (.cond (.t 10) (.seq (.ops [JSB 4 false]) .ret) .skip)) (.seq (.seq (.ops [JSi 5 0]) (.block 0 (.loop Zxc))) (.seq (.ops [JSB 4 true]) .ret))))⟩
abbrev Zy0:OT:=(.cons (JFf 7 0 2) (.cons (JFL 8 8 7) (.cons (JFf 9 0 3) (.br [(.cons (JFL 10 8 9) (.br [(.cons (JF 5 (.alloc [Jz 0,J0,J0,J0,J0,J0,Jz 0,Jz 0])) (.cons (JF 6 (.alloc [Jz 0,J0,J0,J0,J0,J0,Jz 0,Jz 0])) (.cons (JE (Js 8 5 8)) (.cons (JUs 8 6 10) .nil)))),(.cons (JF 6 (.alloc [Jz 0,J0,J0,J0,J0,J0,Jz 0,Jz 0])) (.cons (JF 5 (.alloc [Jz 0,J0,J0,J0,J0,J0,Jz 0,Jz 0])) (.cons (JE (Js 8 5 8)) (.cons (JUs 8 6 10) .nil))))])),(.cons (JF 5 (.alloc [Jz 0,J0,J0,J0,J0,J0,Jz 0,Jz 0])) (.cons (JF 6 (.alloc [Jz 0,J0,J0,J0,J0,J0,Jz 0,Jz 0])) (.br [(.cons (JFL 10 8 9) (.cons (JE (Js 8 5 8)) (.cons (JUs 8 6 10) .nil))),(.cons (JE (Js 8 5 8)) (.cons (JFL 10 8 9) (.cons (JUs 8 6 10) .nil)))]))),(.cons (JF 6 (.alloc [Jz 0,J0,J0,J0,J0,J0,Jz 0,Jz 0])) (.cons (JF 5 (.alloc [Jz 0,J0,J0,J0,J0,J0,Jz 0,Jz 0])) (.br [(.cons (JFL 10 8 9) (.cons (JE (Js 8 5 8)) (.cons (JUs 8 6 10) .nil))),(.cons (JE (Js 8 5 8)) (.cons (JFL 10 8 9) (.cons (JUs 8 6 10) .nil)))])))]))))
abbrev Zyw:List Ins:=[JSf 11 8 2,JSL 12 2 11,JSf 13 8 3,JSL 14 2 13,JS 15 (.seq false [(0,true),(1,true)] (.t 12) (.t 14)),JSm 16 15,JTf 17 10 2 16,JTL 18 5 17 16,JTf 19 10 3 16,JTL 20 5 19 16,JTc 21 57 [.t 18,.t 20] 16,JSp 22 16 21,JSm 23 22,JTf 24 6 5 23,JTl 25 24 23,JTf 26 6 6 23,JTl 27 26 23,JTb 28 .eql 25 27 23,JSp 29 23 28,JSm 30 29,JTf 31 7 5 30,JTl 32 31 30,JTf 33 7 6 30,JTl 34 33 30,JTb 35 .eql 32 34 30,JSp 36 30 35,JSm 37 36,JTf 38 0 5 37,JTf 39 0 38 37,JTl 40 39 37,JTf 41 0 6 37,JTf 42 0 41 37,JTl 43 42 37,JTb 44 .eql 40 43 37,JSp 45 37 44,JSm 46 45,JTf 47 0 5 46,JTf 48 1 47 46,JTl 49 48 46,JTf 50 0 6 46,JTf 51 1 50 46,JTl 52 51 46,JTc 53 58 [.t 49,.t 52] 46,JSp 54 46 53,JSm 55 54,JTf 56 0 5 55,JTf 57 2 56 55,JTl 58 57 55,JTf 59 0 6 55,JTf 60 2 59 55,JTl 61 60 55,JTc 62 58 [.t 58,.t 61] 55,JSp 63 55 62,JSm 64 63,JTf 65 3 5 64,JTl 66 65 64,JTf 67 3 6 64,JTl 68 67 64,JTc 69 58 [.t 66,.t 68] 64,JSp 70 64 69,JSm 71 70,JTf 72 4 5 71,JTl 73 72 71,JTf 74 4 6 71,JTl 75 74 71,JTc 76 58 [.t 73,.t 75] 71,JSp 77 71 76,JSm 78 77,JTf 79 5 5 78,JTl 80 79 78,JTf 81 5 6 78,JTl 82 81 78,JTc 83 58 [.t 80,.t 82] 78,JSp 84 78 83,JSm 4 84]
def Zzr:FC:=⟨2,85,[.t 4],(.seq (.ops [JS 2 (.box 15 (.t 0)),JS 3 (.box 15 (.t 1)),JSB 4 false]) (.seq (.drw Zy0) (.seq (.ops Zyw) .ret)))⟩
abbrev ZyG:List Ins:=[JSf 7 1 2,JSl 8 7,JSf 9 1 3,JSl 10 9,JSb 11 .neq 8 10,JSm 12 11,JNf 13 2 2 12,JNl 14 13 12,JNf 15 2 3 12,JNl 16 15 12,JNb 17 .neq 14 16 12,JSo 18 12 17,JSm 19 18,JNf 20 3 2 19,JNl 21 20 19,JNf 22 3 3 19,JNl 23 22 19,JNb 24 .neq 21 23 19,JSo 25 19 24,JSm 26 25,JNf 27 0 2 26,JNl 28 27 26,JNn 29 28 26,JNf 30 0 3 26,JNl 31 30 26,JNn 32 31 26,JNb 33 .neq 29 32 26,JSo 34 26 33,JSm 35 34,JNf 36 4 2 35,JNl 37 36 35,JNn 38 37 35,JNf 39 4 3 35,JNl 40 39 35,JNn 41 40 35,JNb 42 .neq 38 41 35,JSo 43 35 42]
abbrev Zxs:VC:=(.seq (.seq (.ops [JSm 44 5,JSf 45 0 2,JSl 46 45,JSn 47 46,JSb 48 .lss 44 47]) (.cond (.t 48) .skip (.exit 0))) (.seq (.block 1 (.seq (.dops [JFf 51 0 2,JFl 52 51,JFm 53 5,JFa 54 2 52 53,JFL 55 2 54,JFf 56 0 3,JFl 57 56,JFm 58 5,JFa 59 2 57 58,JFL 60 2 59,JS 61 (.seq true [(0,true),(1,true)] (.t 55) (.t 60))]) (.cond (.t 61) (.seq (.ops [JSB 4 false]) .ret) .skip))) (.ops [JSm 49 5,JSk 50 .add 49 1,JSm 5 50])))
-- Zug: changed and kept: [5]
abbrev Zug:List Nat:=[2,3]
abbrev Zxt:VC:=(.seq (.seq (.ops [JSm 62 6,JSf 63 4 2,JSl 64 63,JSn 65 64,JSb 66 .lss 62 65]) (.cond (.t 66) .skip (.exit 2))) (.seq (.block 3 (.seq (.dops [JFf 69 4 2,JFl 70 69,JFm 71 6,JFa 72 2 70 71,JFL 73 2 72,JFf 74 4 3,JFl 75 74,JFm 76 6,JFa 77 2 75 76,JFL 78 2 77,JS 79 (.seq true [(0,true),(1,true)] (.t 73) (.t 78))]) (.cond (.t 79) (.seq (.ops [JSB 4 false]) .ret) .skip))) (.ops [JSm 67 6,JSk 68 .add 67 1,JSm 6 68])))
-- Zuh: changed and kept: [6]
abbrev Zuh:List Nat:=[2,3]
def ZzI:FC:=⟨2,80,[.t 4],(.seq (.ops [JS 2 (.box 5 (.t 0)),JS 3 (.box 5 (.t 1)),JSB 4 false]) (.seq (.seq (.ops ZyG) (.cond (.t 43) (.seq (.ops [JSB 4 false]) .ret) .skip)) (.seq (.seq (.ops [JSi 5 0]) (.block 0 (.loop Zxs))) (.seq (.seq (.ops [JSi 6 0]) (.block 2 (.loop Zxt))) (.seq (.ops [JSB 4 true]) .ret)))))⟩
-- Zui: changed and kept: [5]
abbrev Zui:List Nat:=[0,1]
abbrev Zxu:VC:=(.seq (.seq (.ops [JSi 5 0]) (.block 0 (.loop (.seq (.seq (.ops [JSm 11 5,JSm 12 0,JSn 13 12,JSb 14 .lss 11 13]) (.cond (.t 14) .skip (.exit 0))) (.seq (.block 1 (.seq (.dops [JFm 17 0,JFm 18 5,JFa 19 1 17 18,JFl 20 19,JFm 21 1,JFm 22 5,JFa 23 1 21 22,JFl 24 23,JSb 25 .neq 20 24]) (.cond (.t 25) (.seq (.ops [JSB 4 false]) .ret) .skip))) (.ops [JSm 15 5,JSk 16 .add 15 1,JSm 5 16])))))) (.seq (.ops [JSB 4 true]) .ret))
def ZzJ:FC:=⟨2,26,[.t 4],(.seq (.ops [JSB 4 false]) (.seq (.seq (.ops [JSm 6 0,JSn 7 6,JSm 8 1,JSn 9 8,JSb 10 .neq 7 9]) (.cond (.t 10) (.seq (.ops [JSB 4 false]) .ret) .skip)) Zxu))⟩
theorem c12:Zao Tryz.prog [] 12=some Zzl:=by kernel_rfl
theorem c13:Zao Tryz.prog [] 13=some Zzm:=by kernel_rfl
theorem c14:Zao Tryz.prog [] 14=some Zzn:=by kernel_rfl
theorem c17:Zao Tryz.prog [] 17=some Zzq:=by kernel_rfl
theorem c18:Zao Tryz.prog [] 18=some Zzr:=by kernel_rfl
theorem c57:Zao Tryz.prog [] 57=some ZzI:=by kernel_rfl
theorem c58:Zao Tryz.prog [] 58=some ZzJ:=by kernel_rfl
attribute [local go_sem] Nat.reduceEqDiff Nat.reduceAdd Nat.reduceMul reduceIte Nat.reduceLeDiff Nat.reduceLT Nat.reduceBEq reduceCtorEq
theorem ZiM (l:List Int) (hl:l.length≤100000):FSpec Tryz.prog 58 [.c (Zaj l),.c (Zaj l)] (.c (.bool true)):=by
 refine Zac c58 (Nat.le_refl _) (by decide) fun C hP hN hC hL=> ?_;rw[Zad]
 simp only[ZzJ];(repeat (refine vV ?_;(try simp only[go_sem,hP,Zaj,List.length_map,bne_self_eq_false]);refine vQ ?_))
 (refine vC ?_ ?_<;>intro h)
 ·simp at h
 refine vR ?_;refine Zax Zui [] (fun k:Nat=>k≤l.length) (fun k=>l.length -k) (fun k=>[(5,iv k)]) (fun _=>[]) 0 (Nat.zero_le _) ?_ ?_
 ·exact Zaz
 ·intro k hk;simp only[go_sem];refine vR0 ?_;(refine vC ?_ ?_<;>intro h)
  ·have hkl:k<l.length:=by simpa using h
   have hw2:=w64 (n:=(k:Int)+1) (by omega) (by omega);have g1:=ZaD hkl;generalize l.getD k 0=x at g1;(repeat (refine vV ?_;(try simp only[go_sem,hP,g1,Zaj,List.length_map,Int.toNat_natCast,bne_self_eq_false]);refine vQ ?_))
   (refine vC ?_ ?_<;>intro h)
   ·simp at h
   refine vW hw2 ?_;refine ⟨k+1,by omega,by omega,?_⟩;exact Zaz
  ·(refine ZbE ?_;simp only[go_sem])
   refine vR ?_;(refine vT ?_;try exact trivial)
theorem ZwL (l:List (List UInt8)) (hl:l.length≤100000):FSpec Tryz.prog 17 [.c (ZaY l),.c (ZaY l)] (.c (.bool true)):=by
 refine Zac c17 (Nat.le_refl _) (by decide) fun C hP hN hC hL=> ?_;rw[Zad]
 simp only[Zzq];(repeat (refine vV ?_;(try simp only[go_sem,hP,ZaY,List.length_map,bne_self_eq_false]);refine vQ ?_))
 (refine vC ?_ ?_<;>intro h)
 ·simp at h
 refine vR ?_;refine Zax Zuc [] (fun k:Nat=>k≤l.length) (fun k=>l.length -k) (fun k=>[(5,iv k)]) (fun _=>[]) 0 (Nat.zero_le _) ?_ ?_
 ·exact Zaz
 ·intro k hk;simp only[go_sem];refine vR4 ?_;(refine vC ?_ ?_<;>intro h)
  ·have hkl:k<l.length:=by simpa using h
   have hw2:=w64 (n:=(k:Int)+1) (by omega) (by omega);have g1:=ZhC hkl;generalize l.getD k []=x at g1;(repeat (refine vV ?_;(try simp only[go_sem,hP,g1,ZaY,List.length_map,Int.toNat_natCast,bne_self_eq_false]);refine vQ ?_))
   (refine vC ?_ ?_<;>intro h)
   ·simp at h
   refine vW hw2 ?_;refine ⟨k+1,by omega,by omega,?_⟩;exact Zaz
  ·(refine ZbE ?_;simp only[go_sem])
   refine vR ?_;(refine vT ?_;try exact trivial)
set_option maxRecDepth 20000 in
set_option maxHeartbeats 4000000 in
theorem same57 (t:Tray) (h1:t.recs.length≤1000) (h2:t.pres.length≤1000):FSpec Tryz.prog 57 [t.av,t.av] (.c (.bool true)):=by
 refine Zac c57 (Nat.le_refl _) (by decide) fun C hP hN hC hL=> ?_;rw[Zad]
 simp only[ZzI,Tray.av];(repeat (refine vV ?_;(try simp only[go_sem,hP,ZaO,ZbR,List.length_map,bne_self_eq_false]);refine vQ ?_))
 (refine vC ?_ ?_<;>intro h)
 ·simp at h
 refine vR ?_;refine Zax Zug [] (fun k:Nat=>k≤t.recs.length) (fun k=>t.recs.length -k) (fun k=>[(5,iv k)]) (fun _=>[]) 0 (Nat.zero_le _) ?_ ?_
 ·exact Zaz
 ·intro k hk;simp only[go_sem];(repeat (refine vV ?_;(try simp only[go_sem,hP,ZaO,List.length_map]);refine vQ ?_))
  (refine vC ?_ ?_<;>intro h)
  ·have hkl:k<t.recs.length:=by simpa using h
   have hI:(k:Int)<(t.recs.length:Int):=by omega
   have hw2:=w64 (n:=(k:Int)+1) (by omega) (by omega);have g1:(t.recs.map Rec.cds).getD k []=[.int .i64 t.recs[k].front,.int .i64 t.recs[k].back]:=Za7 hkl;generalize t.recs[k]=X at*;(repeat (refine vV ?_;(try simp only[go_sem,hP,g1,ZaO,hI,List.length_map,Int.natCast_nonneg,Zgi,beq_self_eq_true]);refine vQ ?_))
   (refine vC ?_ ?_<;>intro h)
   ·simp at h
   refine vW hw2 ?_;refine ⟨k+1,by omega,by omega,?_⟩;exact Zaz
  ·(refine ZbE ?_;simp only[go_sem])
   refine vR ?_;refine Zax Zuh [] (fun k:Nat=>k≤t.pres.length) (fun k=>t.pres.length -k) (fun k=>[(6,iv k)]) (fun _=>[]) 0 (Nat.zero_le _) ?_ ?_
   ·exact Zaz
   ·intro k hk;simp only[go_sem];(repeat (refine vV ?_;(try simp only[go_sem,hP,ZbR,List.length_map]);refine vQ ?_))
    (refine vC ?_ ?_<;>intro h)
    ·have hkl:k<t.pres.length:=by simpa using h
     have hI:(k:Int)<(t.pres.length:Int):=by omega
     have hw2:=w64 (n:=(k:Int)+1) (by omega) (by omega);have g1:(t.pres.map Pr.cds).getD k []=[.int .i64 t.pres[k].side,.int .i64 t.pres[k].time]:=Za7 hkl;generalize t.pres[k]=X at*;(repeat (refine vV ?_;(try simp only[go_sem,hP,g1,ZbR,hI,List.length_map,Int.natCast_nonneg,Zgi,beq_self_eq_true]);refine vQ ?_))
     (refine vC ?_ ?_<;>intro h)
     ·simp at h
     refine vW hw2 ?_;refine ⟨k+1,by omega,by omega,?_⟩;exact Zaz
    ·(refine ZbE ?_;simp only[go_sem])
     refine vR ?_;(refine vT ?_;try exact trivial)
set_option maxRecDepth 20000 in
set_option maxHeartbeats 4000000 in
theorem same18 {b:Bar} (hb:BarLn b):FSpec Tryz.prog 18 [b.av,b.av] (.c (.bool true)):=by
 have e1:=hb.no;have e2:=hb.co;have e3:=hb.fo;have e4:=hb.ma;have e5:=hb.sl;have ht:=same57 b.tray hb.rc hb.pr;have h1:=ZiM b.box.wh.no (by omega);have h2:=ZiM b.box.wh.co (by omega);have h3:=ZiM b.box.fo (by omega);have h4:=ZiM b.box.ma (by omega);have h5:=ZiM b.box.sl (by omega);simp only[Tray.av] at ht;refine Zac c18 (Nat.le_refl _) (by decide) fun C hP hN hC hL=> ?_;rw[Zad]
 simp only[Zzr,Bar.av,Bar.avs];refine vR ?_;refine Zbx ?_;simp only[go_sem,hP];(repeat' (refine And.intro ?_ ?_))
 all_goals (
  (repeat (refine vV ?_;(try simp only[go_sem,hP,Zgi,beq_self_eq_true]);refine vQ ?_))
  (refine Za9 (fun hG=>ht) ?_;simp only[go_sem,hP,beq_self_eq_true];refine vQ ?_;refine vR6 ?_)
  (refine Za9 (fun hG=>h1) ?_;simp only[go_sem,hP,beq_self_eq_true];refine vQ ?_;refine vR6 ?_)
  (refine Za9 (fun hG=>h2) ?_;simp only[go_sem,hP,beq_self_eq_true];refine vQ ?_;refine vR6 ?_)
  (refine Za9 (fun hG=>h3) ?_;simp only[go_sem,hP,beq_self_eq_true];refine vQ ?_;refine vR6 ?_)
  (refine Za9 (fun hG=>h4) ?_;simp only[go_sem,hP,beq_self_eq_true];refine vQ ?_;refine vR6 ?_)
  (refine Za9 (fun hG=>h5) ?_;simp only[go_sem,hP,beq_self_eq_true];refine vQ ?_;refine vR6 ?_)
  (refine vT ?_;try exact trivial))
def ZiG (b:Bar) (l:List (List UInt8)):Bool:=!ZxS b l&&Zcr b&&decide ((l.length:Int)≤40)
theorem ZsU (b:Bar) (l:List (List UInt8)):FSpec Tryz.prog 12 [b.av,.c (ZaY l)] (.c (.bool (ZiG b l))):=by
 have hf:=far5 b l;have hc:=rcheck6 b;simp only[Bar.av,Bar.avs] at hf hc;unfold ZiG;refine Zac c12 (Nat.le_refl _) (by decide) fun C hP hN hC hL=> ?_;rw[Zad]
 simp only[Zzl,Bar.av,Bar.avs];refine vR ?_;(refine Zau (hf) ?_;simp only[go_sem,hP];refine vQ ?_;refine vR ?_)
 cases hfar:ZxS b l with
 |true=>
  (refine ZaC ?_;simp only[go_sem,hP];refine vQ ?_;refine vR ?_)
  refine vR ?_;(refine vT ?_;try exact trivial)
 |false=>
  (refine Za9 (fun hG=>hc) ?_;simp only[go_sem,hP,ZaY,List.length_map];refine vQ ?_;refine vR4 ?_)
  unfold ZeT;cases hB:Zcr b with
  |false=>
   refine vR ?_;(refine vT ?_;try exact trivial)
  |true=>
   refine vR4 ?_;(refine vT ?_;try exact trivial)
end Go.Proofs.YtcggfogkfhlmlaaGreatDoor
/-
 The texts of numbers,and lines that are made of them. Plain.
-/
namespace Go.Proofs.YtcggfogkfhlmlaaGreatDoor
open Go Go.V
theorem Zqy {n:Nat} (h:n<10):dgt (UInt8.ofNat (48+n))=true:=by
 have:n=0∨n=1∨n=2∨n=3∨n=4∨n=5∨n=6∨n=7∨n=8∨n=9:=by omega
 rcases this with rfl|rfl|rfl|rfl|rfl|rfl|rfl|rfl|rfl|rfl<;>rfl
theorem ZqW {n:Nat} (h:n<10):((UInt8.ofNat (48+n)).toNat:Int) -48=n:=by
 have:n=0∨n=1∨n=2∨n=3∨n=4∨n=5∨n=6∨n=7∨n=8∨n=9:=by omega
 rcases this with rfl|rfl|rfl|rfl|rfl|rfl|rfl|rfl|rfl|rfl<;>rfl
theorem Zml (u:Nat):(Lib.decDigits u).all dgt=true∧dv (Lib.decDigits u)=u∧Lib.decDigits u≠[]∧(1≤u→(Lib.decDigits u).getD 0 0≠48):=by
 induction u using Nat.strongRecOn with
 |_ u ih=>
  by_cases h:u<10
  ·rw[Lib.decDigits_one h];refine ⟨by simp only[List.all_cons,List.all_nil,Zqy h,Bool.and_true],?_,by simp,fun h1=> ?_⟩
   ·show 10*(0:Int)+(((UInt8.ofNat (48+u)).toNat:Int) -48)=u;rw[ZqW h];omega
   ·show UInt8.ofNat (48+u)≠48;have:u=1∨u=2∨u=3∨u=4∨u=5∨u=6∨u=7∨u=8∨u=9:=by omega
    rcases this with rfl|rfl|rfl|rfl|rfl|rfl|rfl|rfl|rfl<;>decide
  ·obtain ⟨h1,h2,h3,h4⟩:=ih (u/10) (by omega);rw[Lib.decDigits,dif_neg h];have hm:u % 10<10:=by omega
   refine ⟨by rw[List.all_append,h1];simp only[List.all_cons,List.all_nil,Zqy hm,Bool.and_true],?_,by simp,fun _=> ?_⟩
   ·unfold dv at h2⊢;rw[List.foldl_append,h2];simp only[List.foldl_cons,List.foldl_nil];rw[ZqW hm];omega
   ·have:=h4 (by omega);cases hd:Lib.decDigits (u/10) with
    |nil=>exact absurd hd h3
    |cons a l=>rw[hd] at this;exact this
theorem ZuL {b:UInt8} (h:dgt b=true):b≠32∧b≠45:=by
 constructor<;>(rintro rfl;revert h;decide)
theorem Zmm {u:Nat} {b:UInt8} (h:b∈Lib.decDigits u):b≠32∧b≠45:=ZuL (List.all_eq_true.1 (Zml u).1 b h)
theorem Zr2 {u:Nat} (h:u<1000000000):Zbo (Lib.decDigits u)=true∧ZgG (Lib.decDigits u)=u:=by
 obtain ⟨h1,h2,h3,h4⟩:=Zml u;have hlen:=Zfz u 8 (by omega);have hb:below (Lib.decDigits u)=false:=by
  unfold below;cases hd:Lib.decDigits u with
  |nil=>rfl
  |cons a l=>
   have:=(Zmm (u:=u) (b:=a) (by rw[hd];simp)).2;simp[this]
 have hd:Zba (Lib.decDigits u)=Lib.decDigits u:=by rw[Zek,hb];rfl
 have hok:Zbo (Lib.decDigits u)=true:=by
  unfold Zbo Zcw;rw[hd,h1,Bool.and_true,Bool.not_eq_true'];have hl:0<(Lib.decDigits u).length:=List.length_pos_iff.2 h3;by_cases hz:u=0
  ·subst hz;rw[Lib.decDigits_one (by omega)];rfl
  ·have:=h4 (by omega);have e:((((Lib.decDigits u).getD 0 0).toNat:Int)==48)=false:=by
    simp only[beq_eq_false_iff_ne,ne_eq];intro h;exact this (UInt8.toNat_inj.1 (Int.ofNat.inj h))
   rw[e];simp;exact ⟨h3,by omega⟩
 refine ⟨hok,?_⟩;rw[Zm2 hok,hb,hd,h2];rfl
theorem ZkD {n:Int} (h:0≤n):ZcV n=Lib.decDigits n.toNat:=by unfold ZcV;rw[if_neg (by omega)]
theorem Zpn {n:Int} (h0:0≤n) (h1:n≤999999999):Zbo (ZcV n)=true∧ZgG (ZcV n)=n:=by
 rw[ZkD h0];have:=Zr2 (u:=n.toNat) (by omega);exact ⟨this.1,by rw[this.2];omega⟩
def ZvY (s:List UInt8):Prop:=∀b∈s,b≠32
theorem Zn2 {n:Int} (h:0≤n):ZvY (ZcV n):=fun b hb=>by rw[ZkD h] at hb;exact (Zmm hb).1
theorem Zrw {s:List UInt8} (h:ZvY s):ZeG s=[s]:=ZjZ fun j hj=>h _ (by rw[List.getD_eq_getElem?_getD,List.getElem?_eq_getElem hj];exact List.getElem_mem hj)
theorem Zrx {w r:List UInt8} (h:ZvY w):ZeG (w++32::r)=w::ZeG r:=by
 have:=Zqx (s:=w++32::r) (i:=w.length) (by simp) (by simp) fun j hj=>by
  rw[List.getD_eq_getElem?_getD,List.getElem?_append_left hj,List.getElem?_eq_getElem hj];exact h _ (List.getElem_mem hj)
 rw[this];congr 1
 ·simp
 ·congr 1
  rw[List.drop_append];simp
theorem Zwt {w:List UInt8} (hw:ZvY w) {e:Wd} (he:ZbX w=some e) (hm:e.many=1) {x:Int} (h0:0≤x) (h1:x≤999999999):Za4 (w++32::ZcV x)=some (w,[x]):=by
 obtain ⟨k1,k2⟩:=Zpn h0 h1;unfold Za4;rw[Zrx hw,Zrw (Zn2 h0)];simp only[he];rw[if_pos ⟨by rw[hm];rfl,by simp[k1]⟩];simp[k2]
end Go.Proofs.YtcggfogkfhlmlaaGreatDoor
/-
 A coin that is put in. Plain.
-/
namespace Go.Proofs.YtcggfogkfhlmlaaGreatDoor
open Go Go.V
def Zcj (b:Bar) (k:Nat):Bar:={b with pl:=(b.pl+b.box.wh.co.getD k 0) % b.box.wh.ro,cr:=b.cr+plays b.box.wh b.pl (b.box.wh.co.getD k 0),box:={b.box with fo:=b.box.fo.set k (b.box.fo.getD k 0+1),pl:=b.box.pl+plays b.box.wh b.pl (b.box.wh.co.getD k 0)}}
theorem Zjb {b:Bar} (hB:Zcr b=true):BxOk b.box∧bxB b.box=true:=by
 have q:bxB b.box=true:=by unfold Zcr at hB;simp only[Bool.and_eq_true] at hB;exact hB.1
 exact ⟨ZeF q,q⟩
theorem Zjc {b:Bar} (hB:Zcr b=true):(0≤b.pl∧b.pl<b.box.wh.ro)∧(0≤b.cr∧b.cr≤20):=by
 unfold Zcr at hB;simp only[Bool.and_eq_true,decide_eq_true_eq] at hB;obtain ⟨_,_,h3,h4,h5,h6⟩:=hB;exact ⟨⟨h3,h4⟩,h5,h6⟩
theorem ZiK {b:Bar} (hB:Zcr b=true) {k:Nat} (hk:k<b.box.wh.co.length):Zez b.box.wh b.pl b.cr [(k:Int)]=(((b.pl+b.box.wh.co.getD k 0) % b.box.wh.ro,b.cr+plays b.box.wh b.pl (b.box.wh.co.getD k 0),0),0):=by
 obtain ⟨hb,q⟩:=Zjb hB;obtain ⟨hp,hc⟩:=Zjc hB;have hwB:whB b.box.wh=true:=by
  simp only[bxB,Bool.and_eq_true] at q;exact q.1.1.1.1.1.1.1
 have hact:ZhG b.box.wh (k:Int)=true:=by
  unfold ZhG Zah;simp only[Bool.or_eq_true,Bool.and_eq_true,decide_eq_true_eq];right;omega
 have hrb:Zf4 b.box.wh b.pl b.cr [(k:Int)]=true:=by
  unfold Zf4 Zqq Zah;simp only[List.length_cons,List.length_nil,List.all_cons,List.all_nil,hact,Bool.and_true,Bool.and_eq_true,decide_eq_true_eq];omega
 unfold Zez Zdd;rw[hwB,hrb];simp only[if_true];have e:Zi2 b.box.wh b.pl b.cr [(k:Int)]=((Zgd b.box.wh b.pl b.cr (k:Int)).1,(Zgd b.box.wh b.pl b.cr (k:Int)).2,0+if (k:Int)= -1∧0<b.cr then 1 else 0):=rfl;rw[e,if_neg (by omega)];unfold Zgd;rw[if_neg (by omega),Int.toNat_natCast];rfl
theorem ZpA {b:Bar} (hB:Zcr b=true) {k:Nat} (hk:k<b.box.wh.co.length):ZiB 0 b (k:Int)=some (Zcj b k):=by
 unfold ZiB;rw[ZiK hB hk];rw[if_pos ⟨by omega,by omega,rfl⟩,Int.toNat_natCast];have e:b.box.pl+(b.cr+plays b.box.wh b.pl (b.box.wh.co.getD k 0) -b.cr)=b.box.pl+plays b.box.wh b.pl (b.box.wh.co.getD k 0):=by omega
 simp only[e];rfl
end Go.Proofs.YtcggfogkfhlmlaaGreatDoor
/-
 The example's lines by themselves;a coin's line by itself.
-/
namespace Go.Proofs.YtcggfogkfhlmlaaGreatDoor
open Go Go.V
variable {tb:Obj}
attribute [local go_sem] Nat.reduceEqDiff Nat.reduceAdd Nat.reduceMul reduceIte Nat.reduceLeDiff Nat.reduceLT Nat.reduceBEq reduceCtorEq
def exF (b:Bar) (s:List UInt8):List UInt8×Bar:=
 if s==k2 then (if b.cr==0 then (noS,b) else (ZhF,Zjq)) else if s==k1 then (ZhF,Zmq) else if s==k4 then ([49,48,32,49],b) else if s==k3 then ([57,53],b)
 else if s==k5 then (ZhF,ZdN) else if s==k6 then ([49,48,32,48,32,49,48],b) else if s==k7 then ([48],b) else if s==k8 then ([50],b) else if s==k9 then (ZtX,b) else (noS,b)
theorem ZrB:Zee exF exB wkL=(wkA,ZdN):=by kernel_rfl
theorem bx0:Zcr exB=true:=by kernel_rfl
theorem bx1:Zcr Zmq=true:=by kernel_rfl
theorem bx2:Zcr Zjq=true:=by kernel_rfl
theorem bx3:Zcr ZdN=true:=by kernel_rfl
theorem lx1:Zb3 tb exB k2 (noS,exB):=by
 have h:=Zie (tb:=tb) (Zc5 bx0) (s:=k2) (x:=3) (y:=0) (by decide) (by kernel_rfl);rwa [show Zgv exB (Zdh exB 3 0)=(noS,exB) by kernel_rfl] at h
theorem lx2:Zb3 tb exB k1 (ZhF,Zmq):=by
 have h:=Ze6 (tb:=tb) (Zc5 bx0) (by decide) (by decide) (by decide) (s:=k1) (w:=ZeV) (ns:=[1]) (by decide) (by kernel_rfl) rfl _ (fun _ h=>Zht h) (ZuF bx0 1);rwa [show Zgv exB (ZiB 0 exB 1)=(ZhF,Zmq) by kernel_rfl] at h
theorem lx3:Zb3 tb Zmq k4 ([49,48,32,49],Zmq):=by
 have h:=Zkk (tb:=tb) (Zc5 bx1) (s:=k4) (w:=k4) (ns:=[]) (by decide) (by kernel_rfl) rfl (l:=[10,1]) (er:=0) (by decide) (fun n hn=>by simp at hn;rcases hn with rfl|rfl<;>exact ⟨by decide,by decide⟩) (Zs5 Zmq (Zaj []));rwa [show Zi9 [10,1] 0=[49,48,32,49] by rw[Zl1 (by decide),List.map_cons,List.map_cons,i10,i1];rfl] at h
theorem lx4:Zb3 tb Zmq k2 (ZhF,Zjq):=by
 have h:=Zie (tb:=tb) (Zc5 bx1) (s:=k2) (x:=3) (y:=0) (by decide) (by kernel_rfl);rwa [show Zgv Zmq (Zdh Zmq 3 0)=(ZhF,Zjq) by kernel_rfl] at h
theorem lx5:Zb3 tb Zjq k3 ([57,53],Zjq):=by
 have he:Zt2 Zjq.tray=(95,0):=by kernel_rfl
 have h:=Zhk (tb:=tb) (Zc5 bx2) (s:=k3) (w:=k3) (ns:=[]) (by decide) (by kernel_rfl) (i:=1) (by omega) rfl (l:=[(Zt2 Zjq.tray).1]) (er:=(Zt2 Zjq.tray).2) (by simp) (fun n hn=>by rw[he] at hn;simp at hn;subst hn;exact ⟨by decide,by decide⟩) fun q=>Zrt (Zx2 Zjq.tray) (Zaj [])
 rw[he] at h;rwa [show Zi9 [95] 0=[57,53] by rw[Zl1 (by decide),List.map_cons,i95];rfl] at h
theorem lx6:Zb3 tb Zjq k5 (ZhF,ZdN):=by
 have h:=Ze6 (tb:=tb) (Zc5 bx2) (by decide) (by decide) (by decide) (s:=k5) (w:=Zs1) (ns:=[1]) (by decide) (by kernel_rfl) rfl _ (fun _ h=>Zht h) (ZyZ bx2 1);rwa [show Zgv Zjq (ZiB 2 Zjq 1)=(ZhF,ZdN) by kernel_rfl] at h
theorem lx7:Zb3 tb ZdN k6 ([49,48,32,48,32,49,48],ZdN):=by
 have h:=Zkk (tb:=tb) (Zc5 bx3) (s:=k6) (w:=k6) (ns:=[]) (by decide) (by kernel_rfl) rfl (l:=[10,0,10]) (er:=0) (by decide) (fun n hn=>by simp at hn;rcases hn with rfl|rfl|rfl<;>exact ⟨by decide,by decide⟩) (ZuA (b:=ZdN) (by kernel_rfl) []);rwa [show Zi9 [10,0,10] 0=[49,48,32,48,32,49,48] by rw[Zl1 (by decide),List.map_cons,List.map_cons,List.map_cons,i10,i0];rfl] at h
theorem lx8:Zb3 tb ZdN k7 ([48],ZdN):=by
 have h:=Zhk (tb:=tb) (Zc5 bx3) (s:=k7) (w:=k7) (ns:=[]) (by decide) (by kernel_rfl) (i:=4) (by omega) rfl (l:=[(ZfP ZdN.box).1]) (er:=(ZfP ZdN.box).2) (by simp) (fun n hn=>by rw[Zms] at hn;simp at hn;subst hn;exact ⟨by decide,by decide⟩) fun q=>Zrv (ZmX ZdN.box) (Zaj [])
 rw[Zms] at h;rwa [show Zi9 [0] 0=[48] by rw[Zl1 (by decide),List.map_cons,i0];rfl] at h
theorem lx9:Zb3 tb ZdN k8 ([50],ZdN):=by
 have h:=Zhk (tb:=tb) (Zc5 bx3) (s:=k8) (w:=k8) (ns:=[]) (by decide) (by kernel_rfl) (i:=3) (by omega) rfl (l:=Zmf ZdN.box) (er:=0) (by rw[Zmr];decide) (fun n hn=>by rw[Zmr] at hn;simp at hn;subst hn;exact ⟨by decide,by decide⟩) fun q=>Zru (Zx0 (b:=ZdN.box) (by kernel_rfl)) (Zaj [])
 rw[Zmr] at h;rwa [show Zi9 [2] 0=[50] by rw[Zl1 (by decide),List.map_cons,i2];rfl] at h
theorem ZBg:Zb3 tb ZdN k9 (ZtX,ZdN):=Zpg (by decide) (by kernel_rfl)
theorem ZBh:Zb3 tb ZdN k10 (noS,ZdN):=by
 have h:=Ze6 (tb:=tb) (Zc5 bx3) (by decide) (by decide) (by decide) (s:=k10) (w:=ZuN) (ns:=[]) (by decide) (by kernel_rfl) rfl _ (fun _ h=>Zk8 h) (ZrA (by decide) (by decide) (by decide));rwa [show Zgv ZdN (ZeH ZdN)=(noS,ZdN) by kernel_rfl] at h
theorem ZuP:∀k,k<wkL.length→Zb3 tb (Zee exF exB (wkL.take k)).2 (wkL.getD k []) (exF (Zee exF exB (wkL.take k)).2 (wkL.getD k [])):=by
 intro k hk;have:k=0∨k=1∨k=2∨k=3∨k=4∨k=5∨k=6∨k=7∨k=8∨k=9∨k=10:=by simp[wkL] at hk;omega
 rcases this with rfl|rfl|rfl|rfl|rfl|rfl|rfl|rfl|rfl|rfl|rfl
 ·exact lx1
 ·exact lx2
 ·exact lx3
 ·exact lx4
 ·exact lx5
 ·exact lx6
 ·exact lx7
 ·exact lx8
 ·exact lx9
 ·exact ZBg
 ·exact ZBh
theorem Zfd:ZaE Tryz.prog 13 [] [(tabO tb)] [] (fun r l'=>r= .c (.bool true)∧l'=[(tabO tb)]):=by
 have hr:=run10 (tb:=tb) (F:=exF) (Zc5 bx0) bx0 (l:=wkL) (by decide) ZuP;rw[ZrB] at hr;have hex:=Zmt;have hsm:=ZwL wkA (by decide);simp only[Bar.av,Bar.avs] at hex hr;simp only[ZaY,wkL,wkA,List.map_cons,List.map_nil,k1,k2,k3,k4,k5,k6,k7,k8,k9,k10] at hr hsm;generalize ZdN=b2 at hr;generalize exB=b0 at hr hex;refine Zat c13 (by first|simp|exact Nat.le_of_ble_eq_true rfl) (Nat.le_refl _) (by decide) (by decide) fun C hP hN hC hL=> ?_;rw[Zap,Zaw (by first|simp|exact Nat.le_of_ble_eq_true rfl)];simp only[Zzm,Zco,Za1,List.map_nil,List.map_cons,Nat.reduceAdd,]
 refine vR ?_;(refine Zau (hex) ?_;simp only[go_sem,hP];refine vQ ?_;refine vR ?_)
 refine Zas [1000] hr rfl rfl rfl (by decide) rfl rfl ?_;rintro r l' ⟨rfl,rfl⟩;refine ⟨_,_,rfl,rfl,?_⟩;simp only[go_sem,hP,Zab];refine vQ ?_;refine vR ?_;(refine Za9 (fun hG=>hsm) ?_;simp only[go_sem,hP];refine vQ ?_;refine vR ?_)
 (refine Zak ?_;simp only[Zaq,inQ,ZaB,Zar,Zae,ZaI];simp only[go_sem,ZaH,AV.keepP,AV.keepPL];refine ⟨_,[(tabO tb)],rfl,Zag rfl rfl ?_ ?_ rfl,?_⟩)
 ·simp only[go_sem,Zal,Ob.keepP,AV.keepP,AV.keepPL]
 ·trivial
 ·exact ⟨rfl,rfl⟩
theorem ZwK {F:Bar→List UInt8→List UInt8×Bar} {b:Bar} (hB:Zcr b=true) {l:List (List UInt8)} (hl:l.length≤40) (hF:∀k,k<l.length→Zb3 tb (Zee F b (l.take k)).2 (l.getD k []) (F (Zee F b (l.take k)).2 (l.getD k []))):ZaE Tryz.prog 14 [b.av,.c (ZaY l)] [(tabO tb)] [] (fun r l'=>r= .tup [.c (ZaY (Zee F b l).1),(Zee F b l).2.av,.c (.bool true)]∧l'=[(tabO tb)]):=by
 have hcp:=ZuG (Zc5 hB);have hr:=run10 (tb:=tb) (F:=F) (Zc5 hB) hB hl hF;have hln:=ZjF F b l;generalize Zee F b l=R at hr hln⊢;obtain ⟨ans,bb⟩:=R;simp only at hln;simp only[Bar.av,Bar.avs] at hcp hr;refine Zat c14 (by first|simp|exact Nat.le_of_ble_eq_true rfl) (Nat.le_refl _) (by decide) (by decide) fun C hP hN hC hL=> ?_;rw[Zap,Zaw (by first|simp|exact Nat.le_of_ble_eq_true rfl)];simp only[Zzn,Zco,Za1,List.map_nil,List.map_cons,Nat.reduceAdd,]
 simp only[Bar.av,Bar.avs];refine vR ?_;(refine Zau (hcp) ?_;simp only[go_sem,hP];refine vQ ?_;refine vR ?_)
 refine Zas [1000] hr rfl rfl rfl (by decide) rfl rfl ?_;rintro r l' ⟨rfl,rfl⟩;refine ⟨_,_,rfl,rfl,?_⟩;simp only[go_sem,hP,Zab];refine vQ ?_;(repeat (refine vV ?_;(try simp only[go_sem,hP,ZaY,List.length_map,hln]);refine vQ ?_))
 (refine Zak ?_;simp only[Zaq,inQ,ZaB,Zar,Zae,ZaI];simp only[go_sem,ZaH,AV.keepP,AV.keepPL];refine ⟨_,[(tabO tb)],rfl,Zag rfl rfl ?_ ?_ rfl,?_⟩)
 ·simp only[go_sem,Zal,Ob.keepP,AV.keepP,AV.keepPL]
 ·trivial
 ·exact ⟨by simp[ZaY],rfl⟩
theorem ZoM {b:Bar} (hB:Zcr b=true) {k:Nat} (hk:k<b.box.wh.co.length):ZaE Tryz.prog 14 [b.av,.c (.sl 1 [[.str (ZeV++32::ZcV (k:Int))]])] [(tabO tb)] [] (fun r l'=>r= .tup [.c (.sl 1 [[.str (if Zcr (Zcj b k)=true then ZhF else noS)]]),(if Zcr (Zcj b k)=true then Zcj b k else b).av,.c (.bool true)]∧l'=[(tabO tb)]):=by
 obtain ⟨hb,_⟩:=Zjb hB;have hcl:=hb.wh.cl;have e1:=hb.fl;have e2:=hb.ml;have e3:=hb.sl;have n1:b.box.fo≠[]:=fun h=>by rw[h] at e1;simp at e1;omega
 have n2:b.box.ma≠[]:=fun h=>by rw[h] at e2;simp at e2;omega
 have n3:b.box.sl≠[]:=fun h=>by rw[h] at e3;simp at e3;omega
 have htl:=ZiS (n:=(k:Int)) (by omega) (by omega);have hp:Za4 (ZeV++32::ZcV (k:Int))=some (ZeV,[(k:Int)]):=Zwt (by unfold ZvY;decide) (e:=⟨1,206,176,none⟩) rfl rfl (by omega) (by omega);have h:=Ze6 (tb:=tb) (Zc5 hB) n1 n2 n3 (s:=ZeV++32::ZcV (k:Int)) (w:=ZeV) (ns:=[(k:Int)]) (by simp[ZeV];omega) hp rfl _ (fun _ h=>Zht h) (ZuF hB (k:Int));rw[ZpA hB hk] at h;have hr:=ZwK (tb:=tb) (F:=fun _ _ => Zgv b (some (Zcj b k))) hB (l:=[ZeV ++ 32 :: ZcV (k:Int)]) (by simp) (by
  intro i hi;have:i=0:=by simp at hi;omega
  subst this;exact h)
 have e:Zee (fun _ _=>Zgv b (some (Zcj b k))) b [ZeV++32::ZcV (k:Int)]=([if Zcr (Zcj b k)=true then ZhF else noS],if Zcr (Zcj b k)=true then Zcj b k else b):=by
  show ([(Zgv b (some (Zcj b k))).1],(Zgv b (some (Zcj b k))).2)=_;simp only[Zgv];split<;>rfl
 rw[e] at hr;exact hr
end Go.Proofs.YtcggfogkfhlmlaaGreatDoor
/-
 The reference's copies,of which the coins that were found may be written.
-/
namespace Go.Proofs.YtcggfogkfhlmlaaGreatDoor
open Go Go.V
attribute [local go_sem] Nat.reduceEqDiff Nat.reduceAdd Nat.reduceMul reduceIte Nat.reduceLeDiff Nat.reduceLT Nat.reduceBEq reduceCtorEq
def ZuI (b:Bx) (res:AV) (os:List Ob):Prop:=∃cap j,b.fo.length≤cap∧cap≤maxLen∧cap≤b.fo.length+j∧res= .agg [iv b.wh.ro,.c (Zaj b.wh.no),.c (Zaj b.wh.co),.vw 1 1000 0 b.fo.length cap,.c (Zaj b.ma),.c (Zaj b.sl),iv b.pl,iv b.sk]∧os=[.box (Zaf zc b.fo j)]
theorem ZoN {w:Wh} (h1:w.no.length≤1000) (h2:w.co.length≤1000):Za3 Tryz.prog 123 [w.av] (fun r os=>r= .agg [iv w.ro,.gr 1000,.gr 1001]∧os=[.grow 3 1 (w.no.map fun n=>[CD.int .i64 n]),.grow 3 1 (w.co.map fun n=>[CD.int .i64 n])]):=by
 have hmax:maxLen=9223372036854775807:=rfl;refine ZaK Zzd (Nat.le_refl _) (by decide) fun C hP hN hC hL=> ?_
 rw[Zad];simp only[ZrN,Wh.av,Wh.avs];(repeat (refine vV ?_;(try simp only[go_sem,hP,Wh.avs,Zaj,List.length_map]);refine vQ ?_))
 (refine Zbx ?_;simp only[go_sem,hP,Zaj,List.length_map,ones];(repeat' (refine And.intro ?_ ?_)))
 all_goals first|omega|skip
 all_goals (
  (refine Zak ?_;simp only[Zaq,inQ,Zbe,ZaP,Zae,ZaI];simp only[go_sem,ZaH])
  exact ⟨[8,12],.agg [iv w.ro,.gr 1000,.gr 1001],_,[.grow 3 1 (w.no.map fun n=>[CD.int .i64 n]),.grow 3 1 (w.co.map fun n=>[CD.int .i64 n])],by decide,by decide,rfl,AVle.refl _,rfl,rfl,rfl⟩)
def grI (l:List Int):Ob:=.grow 3 1 (l.map fun n=>[CD.int .i64 n])
set_option maxHeartbeats 16000000 in
set_option maxRecDepth 20000 in
theorem copyF84 {b:Bx} (h1:b.wh.no.length≤1000) (h2:b.wh.co.length≤1000) (h3:b.fo.length≤1000) (h4:b.ma.length≤1000) (h5:b.sl.length≤1000) (h0:b.fo≠[]):Za3 Tryz.prog 84 [b.av] (ZuI b):=by
 have hmax:maxLen=9223372036854775807:=rfl;have hcw:=ZoN h1 h2;simp only[Wh.av,Wh.avs] at hcw;refine ZkO c84 (Nat.le_refl _) (by decide) fun C hP hN hC hX hL=> ?_
 rw[Zad];simp only[Zye,Bx.av,Bx.avs];(repeat (refine vV ?_;(try simp only[go_sem,hP,Bx.avs,Zaj,List.length_map]);refine vQ ?_))
 simp only[Zaj] at hcw;refine ZaR hcw rfl rfl rfl rfl ?_;rintro r os ⟨rfl,rfl⟩;refine ⟨[30,31],_,_,by simp,rfl,rfl,rfl,rfl,?_⟩;simp only[go_sem,hP,Zab];refine vQ ?_;refine vR0 ?_;refine Zdx (fun σ'=>Sub σ' ⟨upd (upd e0 2 (.bp 2 0)) 3 (.bp 3 0),upd (upd (upd (upd (upd (upd (upd o0 2 (.box [iv 0,.c (.raw (.slice none 0 0)),.c (.raw (.slice none 0 0)),.c (.raw (.slice none 0 0)),.c (.raw (.slice none 0 0)),.c (.raw (.slice none 0 0)),iv 0,iv 0])) 3 (.box [iv b.wh.ro,.gr 30,.gr 31,.gr 12,.gr 16,.gr 20,iv b.pl,iv b.sk])) 30 (grI b.wh.no)) 31 (grI b.wh.co)) 12 (grI b.fo)) 16 (grI b.ma)) 20 (grI b.sl)⟩) ?_ ?_
 ·refine Zbx ?_;simp only[go_sem,hP,Zaj,List.length_map,ones];(repeat' (refine And.intro ?_ ?_))
  all_goals first|omega|skip
  all_goals (refine Zai (by (try simp only[go_sem]);exact vEr) (by unfold grI;(try simp only[go_sem]);exact Zaa))
 ·intro σ' hsub;refine ZaL hsub ?_;have hfl:∀l:List Int,((l.map fun n=>[CD.int .i64 n]).all fun e=>e.all CD.flat)=true:=fun l=>by
   rw[List.all_eq_true];intro e he;obtain ⟨n,_,rfl⟩:=List.mem_map.1 he;rfl
  refine ZkU hX 12 (es:=b.fo.map fun n=>[CD.int .i64 n]) (by decide) rfl (hfl _) (by simpa using h0) fun cap j p1 p2 p3=> ?_
  rw[List.length_map] at p1 p3;have hcell:∀(l:List Int) (j:Nat),(l.map fun n=>[CD.int .i64 n]).flatten.map AV.c++List.replicate j .non=Zaf zc l j:=fun l j=>by
   unfold Zaf Zbh;congr 1
  rw[hcell,List.length_map];unfold grI;simp only[go_sem,hfl];refine vR ?_;(refine Zak ?_;simp only[Zaq,inQ,Zbe,ZaP,Zae,ZaI];simp only[go_sem,ZaH])
  refine ⟨[12],_,_,[.box (Zaf zc b.fo j)],by decide,by decide,rfl,AVle.refl _,?_,cap,j,p1,p2,by omega,rfl,rfl⟩;simp only[go_sem,ZaA,Ob.lend,lend_cellsG]
namespace WG
abbrev Zsb:List Ins:=[JS 1 (.box 15 (.t 0)),JS 2 (.alloc [Jz 0,J0,J0,J0,J0,J0,Jz 0,Jz 0,Jz 0,Jz 0,J0,Jz 0,Jz 0,Jz 0,J0])]
abbrev Zsc:List Ins:=[JFf 3 0 1,JFL 4 8 3,JFf 6 8 1,JFL 7 2 6,JFf 8 10 1,JFL 9 5 8,JS 5 (.calln (.k (.fn 84 [])) [.t 4]),JFc 10 85 [.t 9],JS 11 (.bld [Jz 0,J0,J0,J0,J0,J0,Jz 0,Jz 0,Jz 0,Jz 0,J0,Jz 0,Jz 0,Jz 0,J0] [(0,8,(.t 5)),(8,2,(.t 7)),(10,5,(.t 10))]),JUs 15 2 11]
abbrev ZtN:VC:=(.seq (.dops Zsc) .ret)
def ir39:FC:=⟨1,12,[.cell 2 false 15],(.seq (.ops Zsb) ZtN)⟩
theorem c39:Zao Tryz.prog [300005] 39=some ir39:=by kernel_rfl
end WG
def ZuH (b:Bar) (res:AV) (os:List Ob):Prop:=∃cap j,b.box.fo.length≤cap∧cap≤maxLen∧cap≤b.box.fo.length+j∧res= .agg [iv b.box.wh.ro,.c (Zaj b.box.wh.no),.c (Zaj b.box.wh.co),.vw 1 1000 0 b.box.fo.length cap,.c (Zaj b.box.ma),.c (Zaj b.box.sl),iv b.box.pl,iv b.box.sk,iv b.pl,iv b.cr,.c (ZaO b.tray.recs),iv b.tray.at_,iv b.tray.way,iv b.tray.step,.c (ZbR b.tray.pres)]∧os=[.box (Zaf zc b.box.fo j)]
set_option maxRecDepth 20000 in
set_option maxHeartbeats 8000000 in
theorem copyF39 {b:Bar} (hb:BarLn b) (h0:b.box.fo≠[]):Za3 Tryz.prog 39 [b.av] (ZuH b):=by
 have h1:=copyF84 hb.no hb.co hb.fo hb.ma hb.sl h0;have h2:=copy29 b.tray hb.rc hb.pr;simp only[Bx.av,Bx.avs] at h1;simp only[Tray.av] at h2;refine ZaK WG.c39 (Nat.le_refl _) (by decide) fun C hP hN hC hL=> ?_
 rw[Zad];simp only[WG.ir39,Bar.av,Bar.avs];refine vR ?_;refine Zp9 h1 (by decide) rfl rfl rfl rfl rfl ?_;rintro r os ⟨cap,j,p1,p2,p3,rfl,rfl⟩;refine ⟨_,_,.box (Zaf zc b.box.fo j),rfl,rfl,by simp only[Ob.back,back_cellsG];rfl,?_⟩;simp only[go_sem,hP];refine vQ ?_;(refine Za0 (h2) rfl rfl rfl rfl rfl ?_;simp only[go_sem,hP];refine vQ ?_;refine vR ?_)
 (refine Zak ?_;simp only[Zaq,inQ,Zbe,ZaP,Zae,ZaI];simp only[go_sem,ZaH])
 refine ⟨[5],_,_,[.box (Zaf zc b.box.fo j)],by decide,by decide,rfl,AVle.refl _,?_,cap,j,p1,p2,p3,rfl,rfl⟩;simp only[go_sem,ZaA,Ob.lend,lend_cellsG]
end Go.Proofs.YtcggfogkfhlmlaaGreatDoor
namespace Go.Proofs.YtcggfogkfhlmlaaGreatDoor
open Go Go.V
variable {tb:Obj}
abbrev Zym:List Ins:=[JSL 13 15 2,JSc 14 12 [.t 13,(.k J0)],JS 15 (.un .not (.t 14)),JSm 16 15,JNm 17 1 16,JNk 18 .lss 17 0 16,JSo 19 16 18,JSm 20 19,JNm 21 1 20,JNf 22 0 2 20,JNf 23 0 22 20,JNf 24 2 23 20,JNl 25 24 20,JNn 26 25 20,JNb 27 .geq 21 26 20,JSo 28 20 27]
abbrev Zyn:List Ins:=[JSf 31 0 2,JSf 32 0 31,JSL 33 3 32,JSf 34 8 2,JSL 35 2 34,JSm 36 1,JS 37 (.bsl 3 1 [.t 36]),JSc 38 40 [.t 33,.t 35,.t 37],JSm 30 38,JSe 39 30 0,JSe 40 30 1,JSe 41 30 2,JS 5 (.alloc [Jz 0,Jz 0]),JUs 2 5 39,JSm 6 40,JSm 7 41]
abbrev ZwS:OT:=(.cons (JFL 45 15 2) (.cons (JFm 46 1) (.br [(.cons (JFc 47 21 [.t 46]) (.cons (JF 48 (.prim (.sbin .add) [(.k (.c (.str [99,111,105,110,32]))),.t 47])) (.br [(.cons (JF 49 (.bsl 9 1 [.t 48])) (.br [(.cons (JSc 50 14 [.t 45,.t 49]) (.cons (JFm 44 50) (.cons (JFe 51 44 0) (.cons (JFe 52 44 1) (.cons (JFe 53 44 2) (.cons (JF 9 (.alloc [Jz 0,J0,J0,J0,J0,J0,Jz 0,Jz 0,Jz 0,Jz 0,J0,Jz 0,Jz 0,Jz 0,J0])) (.cons (JFm 8 51) (.cons (JE (Js 15 9 52)) (.cons (JSm 10 53) .nil))))))))),(.cons (JF 9 (.alloc [Jz 0,J0,J0,J0,J0,J0,Jz 0,Jz 0,Jz 0,Jz 0,J0,Jz 0,Jz 0,Jz 0,J0])) (.cons (JSc 50 14 [.t 45,.t 49]) (.cons (JFm 44 50) (.cons (JFe 51 44 0) (.cons (JFe 52 44 1) (.cons (JFe 53 44 2) (.cons (JFm 8 51) (.cons (JE (Js 15 9 52)) (.cons (JSm 10 53) .nil)))))))))])),(.cons (JF 9 (.alloc [Jz 0,J0,J0,J0,J0,J0,Jz 0,Jz 0,Jz 0,Jz 0,J0,Jz 0,Jz 0,Jz 0,J0])) (.cons (JF 49 (.bsl 9 1 [.t 48])) (.cons (JSc 50 14 [.t 45,.t 49]) (.cons (JFm 44 50) (.cons (JFe 51 44 0) (.cons (JFe 52 44 1) (.cons (JFe 53 44 2) (.cons (JFm 8 51) (.cons (JE (Js 15 9 52)) (.cons (JSm 10 53) .nil))))))))))]))),(.cons (JF 9 (.alloc [Jz 0,J0,J0,J0,J0,J0,Jz 0,Jz 0,Jz 0,Jz 0,J0,Jz 0,Jz 0,Jz 0,J0])) (.cons (JFc 47 21 [.t 46]) (.cons (JF 48 (.prim (.sbin .add) [(.k (.c (.str [99,111,105,110,32]))),.t 47])) (.cons (JF 49 (.bsl 9 1 [.t 48])) (.cons (JSc 50 14 [.t 45,.t 49]) (.cons (JFm 44 50) (.cons (JFe 51 44 0) (.cons (JFe 52 44 1) (.cons (JFe 53 44 2) (.cons (JFm 8 51) (.cons (JE (Js 15 9 52)) (.cons (JSm 10 53) .nil))))))))))))])))
abbrev Zv3:List Ins:=[JSf 68 1 5,JSl 69 68,JSk 70 .lss 69 0,JSm 71 70,JNf 72 1 5 71,JNl 73 72 71,JNk 74 .gtr 73 10000 71,JSo 75 71 74,JSm 76 75,JNf 77 1 5 76,JNl 78 77 76,JNf 79 8 2 76,JNf 80 1 79 76,JNl 81 80 76,JNb 82 .lss 78 81 76,JSo 83 76 82]
abbrev Zv4:List Ins:=[JSm 108 8,JS 109 (.ia 1 (.t 108) (.k (Jz 0))),JSl 110 109,JS 111 (.prim (.sbin .eql) [.t 110,(.k (.c (.str [110,111])))]),JSm 112 111,JTL 113 15 9 112,JTL 114 15 2 112,JTc 115 18 [.t 113,.t 114] 112,JSp 116 112 115,JSm 117 116,JTc 118 13 [] 117,JSp 119 117 118,JSm 4 119]
abbrev Zv5:List Ins:=[JSm 120 8,JS 121 (.ia 1 (.t 120) (.k (Jz 0))),JSl 122 121,JS 123 (.prim (.sbin .eql) [.t 122,(.k (.c (.str [121,101,115])))]),JSm 124 123,JTL 125 15 9 124,JTL 126 15 11 124,JTc 127 18 [.t 125,.t 126] 124,JSp 128 124 127,JSm 129 128,JTc 130 13 [] 129,JSp 131 129 130,JSm 4 131]
abbrev Zw5:VC:=(.seq (.ops [JSf 84 0 11,JSf 85 6 84,JSl 86 85,JSf 87 1 5,JSl 88 87,JSf 89 8 2,JSf 90 1 89,JSl 91 90,JSb 92 .sub 88 91,JSb 93 .add 86 92,JSf 94 0 11,JSf 95 6 94,JUs 1 95 93]) (.seq (.ops [JSL 96 15 11,JSc 97 16 [.t 96],JSk 98 .eql 97 0,JSm 99 98,JTf 100 0 2 99,JTf 101 0 100 99,JTL 102 3 101 99,JTL 103 2 5 99,JTc 104 41 [.t 102,.t 103] 99,JSp 105 99 104,JSm 12 105]) (.seq (.seq (.ops [JSm 106 12,JS 107 (.un .not (.t 106))]) (.cond (.t 107) (.seq (.ops Zv4) .ret) .skip)) (.seq (.ops Zv5) .ret))))
abbrev Zw6:VC:=(.seq (.ops [JSL 56 15 2,JSc 57 39 [.t 56],JS 11 (.alloc [Jz 0,J0,J0,J0,J0,J0,Jz 0,Jz 0,Jz 0,Jz 0,J0,Jz 0,Jz 0,Jz 0,J0]),JUs 15 11 57]) (.seq (.ops [JSL 58 2 5,JSf 59 8 11,JUs 2 59 58]) (.seq (.ops [JSf 60 0 11,JSf 61 3 60,JSl 62 61,JSm 63 1,JSa 64 1 62 63,JSl 65 64,JSk 66 .add 65 1,JSa 67 1 62 63,JUs 1 67 66]) (.seq (.seq (.ops Zv3) (.cond (.t 83) (.seq (.ops [JSB 4 false]) .ret) .skip)) Zw5))))
def Zzk:FC:=⟨2,132,[.t 4],(.seq (.ops [JS 2 (.box 15 (.t 0)),JSB 4 false]) (.seq (.seq (.ops Zym) (.cond (.t 28) (.seq (.ops [JSc 29 13 [],JSm 4 29]) .ret) .skip)) (.seq (.ops Zyn) (.seq (.seq (.ops [JSm 42 7,JSk 43 .neq 42 0]) (.cond (.t 43) (.seq (.ops [JSB 4 false]) .ret) .skip)) (.seq (.drw ZwS) (.seq (.seq (.ops [JSm 54 10,JS 55 (.un .not (.t 54))]) (.cond (.t 55) (.seq (.ops [JSB 4 false]) .ret) .skip)) Zw6))))))⟩
theorem c10:Zao Tryz.prog [50] 10=some Zzk:=by kernel_rfl
attribute [local go_sem] Nat.reduceEqDiff Nat.reduceAdd Nat.reduceMul reduceIte Nat.reduceLeDiff Nat.reduceLT Nat.reduceBEq reduceCtorEq
theorem ZpL (b:Bar):FSpec Tryz.prog 12 [b.av,.c (.raw (.slice none 0 0))] (.c (.bool (ZiG b []))):=FSpec.le (ZsU b []) (AVles.cons (AVle.refl _) (AVles.cons (AVle.nil 1) (AVles.refl []))) (AVle.refl _)
set_option maxRecDepth 100000 in
set_option maxHeartbeats 8000000 in
theorem coin10 (b:Bar) (kind:Int):ZaE Tryz.prog 10 [b.av,iv kind] [(tabO tb)] [] (fun r l'=>r= .c (.bool true)∧l'=[(tabO tb)]):=by
 have hmx:maxLen=9223372036854775807:=rfl;have hrd:=ZpL b;simp only[Bar.av,Bar.avs] at hrd;refine Zat c10 (by first|simp|exact Nat.le_of_ble_eq_true rfl) (Nat.le_refl _) (by decide) (by decide) fun C hP hN hC hL=> ?_;rw[Zap,Zaw (by first|simp|exact Nat.le_of_ble_eq_true rfl)];simp only[Zzk,Zco,Za1,List.map_nil,List.map_cons,Nat.reduceAdd,]
 simp only[Bar.av,Bar.avs];refine vR ?_;(refine Zau (hrd) ?_;simp only[go_sem,hP,Zaj,List.length_map];refine vQ ?_;refine vR0 ?_)
 cases hR:ZiG b [] with
 |false=>
  (refine vC ?_ ?_<;>intro h)
  ·refine vR ?_;(refine Zas [1000] (Zfd (tb:=tb)) rfl rfl rfl (by decide) rfl rfl ?_;intro r l' hh;obtain ⟨rfl,rfl⟩:=hh;refine ⟨_,_,rfl,rfl,?_⟩;simp only[go_sem,hP,Zab];refine vQ ?_;refine vR ?_;(refine Zak ?_;simp only[Zaq,inQ,ZaB,Zar,Zae,ZaI];simp only[go_sem,ZaH,AV.keepP,AV.keepPL];refine ⟨_,[(tabO tb)],rfl,Zag rfl rfl ?_ ?_ rfl,?_⟩);(all_goals (first|exact ⟨rfl,rfl⟩|trivial|(simp only[go_sem,Zal,Ob.keepP,AV.keepP,AV.keepPL];done))))
  ·cases h
 |true=>
 by_cases hat:¬(0≤kind∧kind<(b.box.wh.co.length:Int))
 ·(refine vC ?_ ?_<;>intro h)
  ·refine vR ?_;(refine Zas [1000] (Zfd (tb:=tb)) rfl rfl rfl (by decide) rfl rfl ?_;intro r l' hh;obtain ⟨rfl,rfl⟩:=hh;refine ⟨_,_,rfl,rfl,?_⟩;simp only[go_sem,hP,Zab];refine vQ ?_;refine vR ?_;(refine Zak ?_;simp only[Zaq,inQ,ZaB,Zar,Zae,ZaI];simp only[go_sem,ZaH,AV.keepP,AV.keepPL];refine ⟨_,[(tabO tb)],rfl,Zag rfl rfl ?_ ?_ rfl,?_⟩);(all_goals (first|exact ⟨rfl,rfl⟩|trivial|(simp only[go_sem,Zal,Ob.keepP,AV.keepP,AV.keepPL];done))))
  ·exfalso;simp at h;omega
 have hat:=Decidable.of_not_not hat;(refine vC ?_ ?_<;>intro h)
 ·exfalso;simp at h;omega
 clear h;have hB:Zcr b=true:=by
  unfold ZiG at hR;simp only[Bool.and_eq_true] at hR;exact hR.1.2
 obtain ⟨k,rfl⟩:=Int.eq_ofNat_of_zero_le hat.1;have hk:k<b.box.wh.co.length:=by omega
 obtain ⟨hb,hbq⟩:=Zjb hB;have hcl:=hb.wh.cl;have hfl:=hb.fl;have hkf:k<b.box.fo.length:=by omega
 have hne:b.box.fo≠[]:=fun h=>by rw[h] at hkf;simp at hkf
 have hrun:=run69 b.box.wh b.pl b.cr [(k:Int)];rw[ZiK hB hk] at hrun;have hcr:=ZoM (tb:=tb) hB hk;have htx:=Zy4 (n:=(k:Int)) (by omega) (by omega);have htl:=ZiS (n:=(k:Int)) (by omega) (by omega);have s1:ZeV++32::ZcV (k:Int)=99::111::105::110::32::ZcV (k:Int):=rfl;rw[s1] at hcr;generalize ZcV (k:Int)=tx at htx htl hcr;simp only[Wh.av,Wh.avs,Zaj,List.map_cons,List.map_nil] at hrun;simp only[Bar.av,Bar.avs] at hcr;obtain ⟨X,hX⟩:∃X,X=(if Zcr (Zcj b k)=true then Zcj b k else b):=⟨_,rfl⟩;obtain ⟨an,han⟩:∃an,an=(if Zcr (Zcj b k)=true then ZhF else noS):=⟨_,rfl⟩;rw[←hX,←han] at hcr;refine vR2 ?_;(refine Zau (hrun) ?_;simp only[go_sem,hP,Zaj];refine vQ ?_;refine vR2 ?_)
 (refine vC ?_ ?_<;>intro h)
 ·cases h
 clear h;refine vR ?_;refine Zdx (fun σ'=>Sub σ' ⟨upd (upd (upd (upd (upd (upd e0 1 (iv k)) 2 (.bp 2 0)) 5 (.bp 5 0)) 8 (.c (.sl 1 [[.str an]]))) 9 (.bp 9 0)) 10 (.c (.bool true)),upd (upd (upd (upd o0 1000 (tabO tb)) 2 (.box b.avs)) 5 (.box [iv ((b.pl+b.box.wh.co.getD k 0) % b.box.wh.ro),iv (b.cr+plays b.box.wh b.pl (b.box.wh.co.getD k 0))])) 9 (.box X.avs)⟩) ?_ ?_
 ·refine Zbx ?_;simp only[go_sem,hP];(repeat' (first|(refine Za0 htx rfl rfl rfl rfl rfl ?_;simp only[go_sem,hP,List.length_cons,List.length_nil])|refine And.intro ?_ ?_))
  all_goals (first|omega|skip)
  all_goals (
   refine Zas [1000] hcr rfl rfl rfl (by decide) rfl rfl ?_;rintro r l' ⟨rfl,rfl⟩;refine ⟨_,_,rfl,rfl,?_⟩;simp only[go_sem,hP,Zab];refine vQ ?_;refine Zai (by (try simp only[go_sem]);exact vEr) (by unfold Bar.avs;(try simp only[go_sem]);exact Zaa))
 ·intro σ' hsub;refine ZaL hsub ?_;have hcp:=copyF39 (Zc5 hB) hne;simp only[Bar.av,Bar.avs] at hcp;unfold Bar.avs;refine vR ?_;(refine vC ?_ ?_<;>intro h)
  ·cases h
  clear h;refine vR ?_;refine ZaR hcp rfl rfl rfl rfl ?_;rintro r os ⟨cap,j,p1,p2,p3,rfl,rfl⟩;refine ⟨[57],_,_,by simp,rfl,rfl,rfl,(by simp only[Zay,Ob.back,back_cellsG];rfl),?_⟩;simp only[go_sem,hP,Zab];refine vQ ?_;obtain ⟨m,hm,hg,hs,hc,wm⟩:=ZxU hkf hb.fo j;have hco:=hb.wh.co _ (List.getElem_mem hk);have hco2:b.box.wh.co.getD k 0=b.box.wh.co[k]:=by rw[List.getD_eq_getElem?_getD,List.getElem?_eq_getElem hk];rfl
  have hpp:=Zd5 hb.wh (p:=b.pl) (c:=b.box.wh.co.getD k 0) (by rw[hco2];omega);rw[←hco2] at hco;have hpp2:plays b.box.wh b.pl (b.box.wh.co.getD k 0)≤112:=by omega
  have hCX:Zcj b k= {b with pl:=(b.pl+b.box.wh.co.getD k 0) % b.box.wh.ro,cr:=b.cr+plays b.box.wh b.pl (b.box.wh.co.getD k 0),box:={b.box with fo:=b.box.fo.set k (b.box.fo.getD k 0+1),pl:=b.box.pl+plays b.box.wh b.pl (b.box.wh.co.getD k 0)}}:=rfl;have hck:=rcheck6 (Zcj b k);obtain ⟨E,hE⟩:∃E,E=ZeT (Zcj b k):=⟨_,rfl⟩;rw[←hE] at hck;have hsd:=Zia (w:=b.box.wh) ⟨by have:=hb.wh.ro;omega,by have:=hb.wh.ro;omega⟩ (Zcj b k).pl (Zcj b k).cr;have hsm:=fun hBZ=>same18 (Zc5 (b:=Zcj b k) hBZ)
  have hsb:=same18 (Zc5 hB);have hgd:=fun hBZ=>Zjc (b:=Zcj b k) hBZ
  rw[hCX] at hck hsd hsm hgd;simp only[Wh.av,Wh.avs] at hsd;simp only[Bar.av,Bar.avs] at hck hsm hsb;obtain ⟨hst1,hst2⟩:=Zjc hB;have hbp:0≤b.box.pl∧b.box.pl≤9999:=hb.pl;generalize plays b.box.wh b.pl (b.box.wh.co.getD k 0)=pp at*;have d1:decide (b.cr+pp<0)=false:=decide_eq_false (by omega);have d2:decide ((10000:Int)<b.cr+pp)=false:=decide_eq_false (by omega);have d3:decide (b.cr+pp<b.cr)=false:=decide_eq_false (by omega);have e1:b.cr+pp -b.cr=pp:=by omega
  have w1:=w64 (n:=pp) (by omega) (by omega);have w2:=w64 (n:=b.box.pl+pp) (by omega) (by omega);(repeat (refine vV ?_;(try simp only[go_sem,hP,hg,hs,hc,wm,Int.toNat_natCast,d1,d2,d3]);refine vQ ?_))
  (refine vC ?_ ?_<;>intro h)
  ·cases h
  clear h;obtain ⟨F,hF⟩:∃F,F=b.box.fo.set k (b.box.fo.getD k 0+1):=⟨_,rfl⟩;have hFl:F.length=b.box.fo.length:=by rw[hF,List.length_set]
  rw[←hF] at hck hsm hgd⊢;refine ZaL (σ':=⟨upd (upd (upd (upd (upd (upd e0 1 (iv k)) 2 (.bp 2 0)) 5 (.bp 5 0)) 8 (.c (.sl 1 [[.str an]]))) 9 (.bp 9 0)) 11 (.bp 11 0),upd (upd (upd (upd (upd (upd o0 1000 (tabO tb)) 2 (.box b.avs)) 5 (.box [iv ((b.pl+b.box.wh.co.getD k 0) % b.box.wh.ro),iv (b.cr+pp)])) 9 (.box X.avs)) 57 (.box (Zaf zc F j))) 11 (.box [iv b.box.wh.ro,.c (Zaj b.box.wh.no),.c (Zaj b.box.wh.co),.vw 1 57 0 F.length cap,.c (Zaj b.box.ma),.c (Zaj b.box.sl),iv b.box.pl,iv b.box.sk,iv ((b.pl+b.box.wh.co.getD k 0) % b.box.wh.ro),iv (b.cr+pp),.c (ZaO b.tray.recs),iv b.tray.at_,iv b.tray.way,iv b.tray.step,.c (ZbR b.tray.pres)])⟩) (Zai (by (try simp only[go_sem]);exact vEr) (by unfold Bar.avs;rw[hFl];(try simp only[go_sem]);exact Zaa)) ?_;unfold Bar.avs;refine Zef 57 (ds:=Zbh zc F) (junk:=List.replicate j .non) rfl ?_;simp only[go_sem,ZcR,Nat.le_refl,ZcQ,frz_cellsG];refine vW (vA e1 (vA w1 w2)) ?_;(refine Zau (hck) ?_;simp only[go_sem,hP];refine vQ ?_;refine vR ?_)
  cases hBZ:Zcr (Zcj b k) with
  |true=>
   have hE0:E=0:=by rw[hE];unfold ZeT;rw[if_pos hBZ]
   have hXX:X=Zcj b k:=by rw[hX,if_pos hBZ]
   have hA:an=ZhF:=by rw[han,if_pos hBZ]
   have hBZ':=hBZ;rw[hCX,←hF] at hBZ';have hsm:=hsm hBZ';have hgd:=hgd hBZ';clear hX han hE;rw[hCX] at hXX;rw[←hF] at hXX;subst hE0 hXX hA;simp only at hgd;have hw1:Zah ((b.pl+b.box.wh.co.getD k 0) % b.box.wh.ro) 0 (b.box.wh.ro -1)=true:=by unfold Zah;simp only[Bool.and_eq_true,decide_eq_true_eq];omega
   have hw2:Zah (b.cr+pp) 0 20=true:=by unfold Zah;simp only[Bool.and_eq_true,decide_eq_true_eq];omega
   rw[hw1,hw2] at hsd;(refine Za9 (fun hG=>hsd) ?_;simp only[go_sem,hP];refine vQ ?_;refine vR ?_)
   (refine vC ?_ ?_<;>intro h)
   ·cases h
   clear h;have q2:(ZhF==[121,101,115])=true:=rfl;have q3:([[CD.str ZhF]].getD (Int.toNat 0) []).getD 0 default=CD.str ZhF:=rfl;(repeat (refine vV ?_;(try simp only[go_sem,hP,q3,q2]);refine vQ ?_))
   (refine Za9 (fun hG=>hsm) ?_;simp only[go_sem,hP];refine vQ ?_;refine vR ?_)
   refine .inr (.inr ?_);(refine Zas [1000] (Zfd (tb:=tb)) rfl rfl rfl (by decide) rfl rfl ?_;intro r l' hh;obtain ⟨rfl,rfl⟩:=hh;refine ⟨_,_,rfl,rfl,?_⟩;simp only[go_sem,hP,Zab];refine vQ ?_;refine vR ?_;(refine Zak ?_;simp only[Zaq,inQ,ZaB,Zar,Zae,ZaI];simp only[go_sem,ZaH,AV.keepP,AV.keepPL];refine ⟨_,[(tabO tb)],rfl,Zag rfl rfl ?_ ?_ rfl,?_⟩);(all_goals (first|exact ⟨rfl,rfl⟩|trivial|(simp only[go_sem,Zal,Ob.keepP,AV.keepP,AV.keepPL];done))))
  |false=>
   have hE0:E=120:=by rw[hE];unfold ZeT;rw[hBZ];rfl
   have hXX:X=b:=by rw[hX,hBZ];rfl
   have hA:an=noS:=by rw[han,hBZ];rfl
   clear hX han hE hsm hgd;subst hE0 hXX hA;(refine ZaC ?_;simp only[go_sem,hP];refine vQ ?_;refine vR ?_)
   (refine vC ?_ ?_<;>intro h)
   ·have q2:(noS==[110,111])=true:=rfl;have q3:([[CD.str noS]].getD (Int.toNat 0) []).getD 0 default=CD.str noS:=rfl;(repeat (refine vV ?_;(try simp only[go_sem,hP,q3,q2]);refine vQ ?_))
    (refine Za9 (fun hG=>hsb) ?_;simp only[go_sem,hP];refine vQ ?_;refine vR ?_)
    refine .inr (.inr ?_);(refine Zas [1000] (Zfd (tb:=tb)) rfl rfl rfl (by decide) rfl rfl ?_;intro r l' hh;obtain ⟨rfl,rfl⟩:=hh;refine ⟨_,_,rfl,rfl,?_⟩;simp only[go_sem,hP,Zab];refine vQ ?_;refine vR ?_;(refine Zak ?_;simp only[Zaq,inQ,ZaB,Zar,Zae,ZaI];simp only[go_sem,ZaH,AV.keepP,AV.keepPL];refine ⟨_,[(tabO tb)],rfl,Zag rfl rfl ?_ ?_ rfl,?_⟩);(all_goals (first|exact ⟨rfl,rfl⟩|trivial|(simp only[go_sem,Zal,Ob.keepP,AV.keepP,AV.keepPL];done))))
   ·cases h
end Go.Proofs.YtcggfogkfhlmlaaGreatDoor
