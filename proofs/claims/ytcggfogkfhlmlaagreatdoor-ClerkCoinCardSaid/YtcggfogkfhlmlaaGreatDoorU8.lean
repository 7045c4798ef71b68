/-
  Contracts of the layer's functions, of the laws' helpers and of the law; conditions: as each theorem states.
-/
import Derived.Test.YtcggfogkfhlmlaaGreatDoorU7
import Derived.Test.YtcggfogkfhlmlaaGreatDoorU6
import Derived.Test.YtcggfogkfhlmlaaGreatDoorV2
import Derived.Test.YtcggfogkfhlmlaaGreatDoorV3
set_option linter.unusedVariables false
set_option linter.unusedSimpArgs false
namespace Go.Proofs.YtcggfogkfhlmlaaGreatDoor
open Go Go.V
abbrev Zyt:List Ins:=[JSf 9 10 2,JSL 10 5 9,JSc 11 52 [.t 10],JSm 12 11,JNm 13 1 12,JNn 14 13 12,JNk 15 .gtr 14 60 12,JSo 16 12 15,JSm 17 16,JNf 18 0 2 17,JNf 19 3 18 17,JNl 20 19 17,JNn 21 20 17,JNk 22 .gtr 21 40 17,JSo 23 17 22,JSm 24 23,JNf 25 0 2 24,JNf 26 4 25 24,JNl 27 26 24,JNn 28 27 24,JNk 29 .gtr 28 40 24,JSo 30 24 29,JSm 31 30,JNf 32 0 2 31,JNf 33 5 32 31,JNl 34 33 31,JNn 35 34 31,JNk 36 .gtr 35 40 31,JSo 37 31 36,JSm 38 37,JNf 39 0 2 38,JNf 40 0 39 38,JNf 41 1 40 38,JNl 42 41 38,JNn 43 42 38,JNk 44 .gtr 43 40 38,JSo 45 38 44,JSm 46 45,JNf 47 0 2 46,JNf 48 0 47 46,JNf 49 2 48 46,JNl 50 49 46,JNn 51 50 46,JNk 52 .gtr 51 40 46,JSo 53 46 52]
abbrev Zyu:List Ins:=[JSm 60 1,JSm 61 5,JSa 62 1 60 61,JSl 63 62,JS 64 (.prim .slen [.t 63]),JSk 65 .gtr 64 200,JSm 66 65,JNm 67 1 66,JNm 68 5 66,JNa 69 1 67 68 66,JNl 70 69 66,JNc 71 53 [.t 70] 66,JNm 72 71 66,JTf 73 10 2 72,JTf 74 0 73 72,JTl 75 74 72,JTn 76 75 72,JTk 77 .gtr 76 4 72,JNp 78 72 77 66,JSo 79 66 78]
abbrev Zwj:List Ins:=[JSm 89 8,JSm 90 89,JTm 91 6 90,JG 92 (.prim (.sbin .eql) [.t 91,(.k (.c (.str [108,97,116,101,115,116])))]) 90 true,JSp 93 90 92,JSm 94 93,JTm 95 7 94,JG 96 (.ia 1 (.t 95) (.k (Jz 1))) 94 true,JTl 97 96 94,JTk 98 .gtr 97 400 94,JSp 99 94 98,JSm 100 99,JTm 101 7 100,JG 102 (.ia 1 (.t 101) (.k (Jz 1))) 100 true,JTl 103 102 100,JTk 104 .leq 103 9999 100,JSp 105 100 104]
abbrev Zxa:VC:=(.seq (.block 1 (.seq (.seq (.ops Zyu) (.cond (.t 79) (.seq (.ops [JSB 4 true]) .ret) .skip)) (.seq (.ops [JSm 81 1,JSm 82 5,JSa 83 1 81 82,JSl 84 83,JSc 85 19 [.t 84],JSm 80 85,JSe 86 80 0,JSe 87 80 1,JSe 88 80 2,JSm 6 86,JSm 7 87,JSm 8 88]) (.seq (.ops Zwj) (.cond (.t 105) (.seq (.ops [JSB 4 true]) .ret) .skip))))) (.ops [JSm 58 5,JSk 59 .add 58 1,JSm 5 59]))
-- K15_1: changed and kept: [5]
def Zzo:FC:=⟨2,109,[.t 4],(.seq (.ops [JS 2 (.box 15 (.t 0)),JSB 4 false]) (.seq (.seq (.ops Zyt) (.cond (.t 53) (.seq (.ops [JSB 4 true]) .ret) .skip)) (.seq (.seq (.ops [JSi 5 0]) (.block 0 (.loop (.seq (.seq (.ops [JSm 54 5,JSm 55 1,JSn 56 55,JSb 57 .lss 54 56]) (.cond (.t 57) .skip (.exit 0))) Zxa)))) (.seq (.ops [JSL 106 15 2,JSm 107 1,JSc 108 54 [.t 106,.t 107],JSm 4 108]) .ret))))⟩
theorem c15:Zao Tryz.prog [] 15=some Zzo:=by kernel_rfl
attribute [local go_sem] Nat.reduceEqDiff Nat.reduceAdd Nat.reduceMul reduceIte Nat.reduceLeDiff Nat.reduceLT Nat.reduceBEq reduceCtorEq
def ZfC (b:Bar) (l:List (List UInt8)):Bool:=Zx4 b.tray||decide ((60:Int)<l.length)||decide ((40:Int)<b.box.fo.length)||decide ((40:Int)<b.box.ma.length)||decide ((40:Int)<b.box.sl.length)||decide ((40:Int)<b.box.wh.no.length)||decide ((40:Int)<b.box.wh.co.length)
def Zmw (b:Bar) (s:List UInt8):Bool:=decide ((200:Int)<s.length)||(Zkd s&&decide ((4:Int)<b.tray.recs.length))||Zt4 s
def ZxS (b:Bar) (l:List (List UInt8)):Bool:=ZfC b l||(l.any (Zmw b)||ZpO b l)
theorem Zox {α:Type} (p:α→Bool) {l:List α} {k:Nat} (h:k<l.length) (d:α):(l.take (k+1)).any p=((l.take k).any p||p (l.getD k d)):=by
 rw[List.take_succ_eq_append_getElem h,List.any_append,List.getD_eq_getElem?_getD,List.getElem?_eq_getElem h];simp
set_option maxRecDepth 100000 in
set_option maxHeartbeats 4000000 in
theorem far5 (b:Bar) (l:List (List UInt8)):FSpec Tryz.prog 15 [b.av,.c (ZaY l)] (.c (.bool (ZxS b l))):=by
 have hm:maxLen=9223372036854775807:=rfl;have hf:=Zx3 b.tray;simp only[Tray.av] at hf;refine Zac c15 (Nat.le_refl _) (by decide) fun C hP hN hC hL=> ?_;rw[Zad]
 simp only[Zzo,Bar.av,Bar.avs];refine vR ?_;(refine Zau (hf) ?_;simp only[go_sem,hP,ZaY,Zaj,List.length_map];refine vQ ?_;(repeat (refine vV ?_;(try simp only[go_sem,hP,ZaY,Zaj,List.length_map]);refine vQ ?_)))
 refine ZaL (σ':=⟨upd (upd (upd (upd e0 1 (.c (ZaY l))) 2 (.bp 2 0)) 4 (.c (.bool false))) 53 (.c (.bool (ZfC b l))),upd o0 2 (.box b.avs)⟩) (Zai (by (try simp only[go_sem]);exact vEr) (by unfold Bar.avs;(try simp only[go_sem]);exact Zaa)) ?_;unfold ZxS;cases hh:ZfC b l with
 |true=>
  (refine vC ?_ ?_<;>intro h)
  ·refine vR ?_;(refine vT ?_;try exact trivial)
  ·cases h
 |false=>
  have hl:l.length≤60:=by
   unfold ZfC at hh;simp only[Bool.or_eq_false_iff,decide_eq_false_iff_not] at hh;omega
  have hrc:b.tray.recs.length≤40:=by
   unfold ZfC Zx4 at hh;simp only[Bool.or_eq_false_iff,decide_eq_false_iff_not] at hh;have:=hh.1.1.1.1.1.1.1;unfold Tray.n at this;omega
  (refine vC ?_ ?_<;>intro h)
  ·cases h
  clear h;refine vR ?_;refine ZaQ (fun k:Nat=>⟨upd (upd (upd (upd e0 1 (.c (ZaY l))) 2 (.bp 2 0)) 4 (.c (.bool false))) 5 (iv k),upd o0 2 (.box b.avs)⟩) (fun k=>k≤l.length∧(l.take k).any (Zmw b)=false) (fun k=>l.length -k) 0 ⟨Nat.zero_le _,rfl⟩ ?_ ?_
  ·refine Zai (by (try simp only[go_sem]);exact vEr) (by unfold Bar.avs;(try simp only[go_sem]);exact Zaa)
  rintro k ⟨hk,hr⟩;unfold Bar.avs;refine vR4 ?_;(refine vC ?_ ?_<;>intro h)
  ·have hi:k<l.length:=by simpa using h
   clear h;have hg:=ZhC hi;have hsn:=Zox (Zmw b) hi [];rw[hr,Bool.false_or] at hsn;have hw0:=w64 (n:=(k:Int)+1) (by omega) (by omega);have hin:l.getD k []∈l:=by rw[List.getD_eq_getElem?_getD,List.getElem?_eq_getElem hi];exact List.getElem_mem hi
   have hfar:Zmw b (l.getD k [])=true→(l.any (Zmw b)||ZpO b l)=true:=fun h=>by
    rw[List.any_eq_true.2 ⟨_,hin,h⟩];rfl
   generalize l.getD k []=s at hg hsn hin hfar;(repeat (refine vV ?_;(try simp only[go_sem,hP,hg,List.length_map,Int.toNat_natCast]);refine vQ ?_))
   by_cases hs:s.length≤200
   ·have hhv:=ZrI (s:=s) (by omega);have hs':decide ((200:Int)<s.length)=false:=decide_eq_false (by omega);rw[hs'];(refine Za9 (fun hG=>hhv) ?_;simp only[go_sem,hP,ZaO,List.length_map];refine vQ ?_;(repeat (refine vV ?_;(try simp only[go_sem,hP,ZaO,List.length_map]);refine vQ ?_)))
    refine ZaL (σ':=⟨upd (upd (upd (upd (upd e0 1 (.c (ZaY l))) 2 (.bp 2 0)) 4 (.c (.bool false))) 5 (iv k)) 79 (.c (.bool (Zkd s&&decide ((4:Int)<b.tray.recs.length)))),upd o0 2 (.box b.avs)⟩) (Zai (by (try simp only[go_sem]);exact vEr) (by unfold Bar.avs;(try simp only[go_sem]);exact Zaa)) ?_;(refine vC ?_ ?_<;>intro h)
    ·rw[hfar (by unfold Zmw;rw[h];simp)];refine vR ?_;(refine vT ?_;try exact trivial)
    ·have hlat:Zmw b s=Zt4 s:=by unfold Zmw;rw[hs',h];rfl
     rw[hlat] at hsn hfar;clear h;have hp:=Zhy (s:=s) (by omega);unfold ZfW at hp;unfold Bar.avs;(repeat (refine vV ?_;(try simp only[go_sem,hP,ZaY,hg,List.length_map,Int.toNat_natCast]);refine vQ ?_))
     cases hps:Za4 s with
     |none=>
      have hlb:Zt4 s=false:=by unfold Zt4;rw[hps]
      rw[hps] at hp;(refine Zau (hp) ?_;simp only[go_sem,hP];refine vQ ?_;refine vR ?_)
      refine Zav rfl (fun h=> ?_) (fun h=> ?_)
      ·cases h
      refine vW hw0 ?_;refine ⟨k+1,⟨by omega,hsn.trans hlb⟩,by omega,?_⟩;refine Zai (by simp only[go_sem];exact vEr) (by simp only[go_sem];exact Zaa)
     |some wn=>
      obtain ⟨w,ns⟩:=wn;have hl:=Ziq hps;have hlb:Zt4 s=((w==Zb4)&&decide (400<ns.getD 1 0)&&decide (ns.getD 1 0≤9999)):=by unfold Zt4;rw[hps]
      rw[hps] at hp;simp only at hp;cases hw:(w==Zb4) with
      |true=>
       have hl2:1<ns.length:=by
        rw[eq_of_beq hw] at hl;have:Zbj Zb4=2:=rfl;omega
       have hgn:=ZaD hl2;rw[hw] at hlb;unfold Zb4 at hw;generalize ns.getD 1 0=x at hgn hlb;(refine Zau (hp) ?_;simp only[go_sem,hP,Zaj,List.length_map,hgn,hw,Int.toNat_one];refine vQ ?_;(repeat (refine vV ?_;(try simp only[go_sem,hP,Zaj,List.length_map,hgn,hw,Int.toNat_one]);refine vQ ?_)))
       rw[Bool.true_and] at hlb;refine Zav rfl (fun h=> ?_) (fun h=> ?_)
       ·rw[hfar (hlb.trans h)];refine vR ?_;(refine vT ?_;try exact trivial)
       ·rw[h] at hlb;refine vW hw0 ?_;refine ⟨k+1,⟨by omega,hsn.trans hlb⟩,by omega,?_⟩;refine Zai (by simp only[go_sem];exact vEr) (by simp only[go_sem];exact Zaa)
      |false=>
       rw[hw] at hlb;unfold Zb4 at hw;rcases ns with _|⟨a,_|⟨c,r⟩⟩
       all_goals (
        (refine Zau (hp) ?_;simp only[go_sem,hP,Zaj,hw,List.map_cons,List.map_nil,Int.toNat_one,gd0,gd1,gd2];refine vQ ?_;(repeat (refine vV ?_;(try simp only[go_sem,hP,Zaj,hw,List.map_cons,List.map_nil,Int.toNat_one,gd0,gd1,gd2]);refine vQ ?_))))
       all_goals (
        refine Zav rfl (fun h=> ?_) (fun h=> ?_)
        ·cases h
        refine vW hw0 ?_;refine ⟨k+1,⟨by omega,hsn.trans hlb⟩,by omega,?_⟩;refine Zai (by simp only[go_sem];exact vEr) (by simp only[go_sem];exact Zaa))
   ·have hs':decide ((200:Int)<s.length)=true:=decide_eq_true (by omega);have hft:Zmw b s=true:=by unfold Zmw;rw[hs'];rfl
    rw[hs',hfar hft];(refine ZaC ?_;simp only[go_sem,hP];refine vQ ?_;refine vR ?_)
    (refine vC ?_ ?_<;>intro h)
    ·refine vR ?_;(refine vT ?_;try exact trivial)
    ·cases h
  ·have hkl:k=l.length:=by
    have:¬(k<l.length):=by simpa using h
    omega
   subst hkl;rw[List.take_length] at hr;have hs:∀s∈l,s.length≤1000:=fun s hs=>by
    have:=List.any_eq_false.1 hr s hs;unfold Zmw at this;simp at this;omega
   have hrich:=rich20 b hl hs;simp only[Bar.av,Bar.avs,ZaY] at hrich;rw[hr,Bool.false_or];refine vR ?_;(refine Zau (hrich) ?_;simp only[go_sem,hP];refine vQ ?_;refine vR ?_)
   (refine vT ?_;try exact trivial)
abbrev Zv6:List Ins:=[JFm 9 0,JFm 10 0,JF 11 (.nilc (.t 10)),JFf 12 11 11,JFf 13 0 12,JFl 14 13,JFm 15 0,JF 16 (.nilc (.t 15)),JFf 17 8 16,JFL 18 3 17,JFm 19 0,JF 20 (.nilc (.t 19)),JFf 21 7 20,JFl 22 21,JF 23 (.bld [Jz 0,Jz 0,Jz 0,Jz 0] [(0,3,(.t 18)),(3,1,(.t 22))]),JF 24 (.bsl 129 4 [.t 23]),JF 25 (.app 129 4 32 (.t 14) (.t 24)),JS 26 (.nilc (.t 9)),JSf 27 11 26,JSf 28 0 27,JUs 1 28 25]
def Zu7:FC:=⟨2,29,[],(.seq (.ops [JSm 4 0,JSm 5 1,JS 6 (.nilc (.t 4)),JSf 7 8 6,JSf 8 2 7,JUs 1 8 5]) (.dops Zv6))⟩
abbrev Zwc:List Ins:=[JSm 2 0,JS 3 (.nilc (.t 2)),JSf 4 5 3,JSl 5 4,JSn 6 5,JSk 7 .gtr 6 0,JSm 8 7,JH 9 (Jm 0) 8 true,JH 10 (.nilc (.t 9)) 8 true,JH 11 (Jf 5 10) 8 true,JH 12 (Jl 11) 8 true,JH 13 (.ia 2 (.t 12) (.k (Jz 0))) 8 true,JH 14 (Jf 1 13) 8 true,JH 15 (Jl 14) 8 true,JH 16 (Jm 0) 8 true,JH 17 (.nilc (.t 16)) 8 true,JH 18 (Jf 7 17) 8 true,JH 19 (Jl 18) 8 true,JTb 20 .leq 15 19 8,JSp 21 8 20]
abbrev Zwd:List Ins:=[JFm 22 0,JF 23 (.nilc (.t 22)),JFf 24 6 23,JFl 25 24,JFm 26 0,JF 27 (.nilc (.t 26)),JFf 28 5 27,JFl 29 28,JF 30 (.ia 2 (.t 29) (.k (Jz 0))),JFf 31 0 30,JFl 32 31,JSa 33 1 25 32,JN (.st 1 (.t 33) (.k (.c (.bool true))))]
-- Zqj: changed and kept: []
abbrev Zqj:List Nat:=[0]
def Zvm:FC:=⟨1,42,[],(.block 0 (.loop (.seq (.seq (.dops Zwc) (.cond (.t 21) .skip (.exit 0))) (.block 1 (.seq (.dops Zwd) (.ops [JSm 34 0,JSm 35 0,JS 36 (.nilc (.t 35)),JSf 37 5 36,JSl 38 37,JS 39 (.slc 2 (.t 38) (some (.k (Jz 1))) none),JS 40 (.nilc (.t 34)),JSf 41 5 40,JUs 1 41 39]))))))⟩
def Zvn:FC:=⟨2,9,[.t 4],(.seq (.ops [JSB 4 false]) (.seq (.ops [JSm 5 0,JSm 6 1,JSc 7 170 [.t 5,.t 6],JSk 8 .geq 7 0,JSm 4 8]) .ret))⟩
-- Zqp: changed and kept: [8]
abbrev Zqp:List Nat:=[0,1,7]
abbrev ZtJ:VC:=(.seq (.seq (.ops [JSm 6 0,JSn 7 6,JSi 8 0]) (.block 0 (.loop (.seq (.ops [JSb 9 .lss 8 7]) (.seq (.cond (.t 9) .skip (.exit 0)) (.seq (.block 1 (.seq (.ops [JSm 10 8,JSm 5 10]) (.seq (.ops [JSm 11 1,JSm 12 0,JSm 13 5,JSa 14 1 12 13,JSl 15 14,JS 16 (.eqs false (.t 11) (.t 15))]) (.cond (.t 16) (.seq (.ops [JSm 17 5,JSm 4 17]) .ret) .skip)))) (.ops [JSk 18 .add 8 1,JSm 8 18]))))))) (.seq (.ops [JSi 4 (-1)]) .ret))
def Zvz:FC:=⟨2,19,[.t 4],(.seq (.ops [JSi 4 0]) ZtJ)⟩
def Zvo:FC:=⟨2,22,[.t 4],(.seq (.ops [JS 2 (.box 5 (.t 0)),JSi 4 0]) (.seq (.seq (.ops [JSm 5 1,JSk 6 .rem 5 2,JSk 7 .eql 6 0]) (.cond (.t 7) (.seq (.ops [JSf 8 0 2,JSl 9 8,JSm 10 1,JSk 11 .quo 10 2,JSa 12 2 9 11,JSf 13 0 12,JSl 14 13,JSm 4 14]) .ret) .skip)) (.seq (.ops [JSf 15 0 2,JSl 16 15,JSm 17 1,JSk 18 .quo 17 2,JSa 19 2 16 18,JSf 20 1 19,JSl 21 20,JSm 4 21]) .ret)))⟩
theorem ZxQ:Zao Tryz.prog [] 111=some Zu7:=by kernel_rfl
theorem ZAK:Zao Tryz.prog [] 142=some Zvm:=by kernel_rfl
theorem ZAL:Zao Tryz.prog [] 143=some Zvn:=by kernel_rfl
theorem ZAX:Zao Tryz.prog [] 170=some Zvz:=by kernel_rfl
theorem ZAM:Zao Tryz.prog [] 144=some Zvo:=by kernel_rfl
def bcd (b:Bool):List CD:=[.bool b]
theorem Zeh (b:Bool):(bcd b).length=1:=rfl
def Zcp (t:Tray) (s:Cs):List AV:=[.c (ZaO t.recs),iv t.at_,iv t.way,iv t.step,.c (ZbR t.pres),.c (ZbR s.q),.vw 1 1001 0 (2*t.n) (2*t.n),iv s.now,iv s.at_,iv (Zi3 s.up),iv s.side,.gr 1002,.gr 1003,iv s.steps,iv s.end_]
def Zbt (t:Tray) (s:Cs):List Ob:=[.box (Zcp t s),.box (Zaf bcd s.pins 0),.grow 129 4 (s.spells.map Sp.cds),.grow 121 2 (s.plays.map Pr.cds)]
theorem ZpT (l:List Sp):((l.map Sp.cds).all fun e=>e.length==4)=true:=by
 rw[List.all_eq_true];intro e he;obtain ⟨n,_,rfl⟩:=List.mem_map.1 he;rfl
theorem Zjj (t:Tray) (s:Cs):(ZaV (Zbt t s) [] 1002).isPlace=false:=rfl
theorem Zjk (t:Tray) (s:Cs):(ZaV (Zbt t s) [] 1003).isPlace=false:=rfl
set_option maxRecDepth 20000 in
set_option maxHeartbeats 8000000 in
theorem mark71 (t:Tray) (s:Cs) (side:Int) (h1:s.spells.length≤5000):
  ZaE Tryz.prog 111 [.bp 1000 0,iv side] (Zbt t s) [] (fun res l'=>res= .tup []∧l'=Zbt t (s.mark side)):=by
 have hmax:maxLen=9223372036854775807:=rfl;have hs4:=ZpT s.spells;refine ZcD ZxQ (by first|simp|exact Nat.le_of_ble_eq_true rfl) (Nat.le_refl _) (by decide) (by decide) fun C hP hN hC hpin hL=> ?_;rw[Zap,Zaw (by first|simp|exact Nat.le_of_ble_eq_true rfl)];simp only[Zu7,Zco,Za1,List.map_nil,List.map_cons,Nat.reduceAdd,Zbt,Zcp]
 refine Zg0 ?_;(repeat (refine vV ?_;(try simp only[go_sem,hP,hs4,List.length_append,List.length_map]);refine vQ ?_))
 refine ⟨_,fun a w hg=>ZdP (d:=25) (n:=1002) (by decide) (fun h=>by have:=hpin 1002 h;rw[Zjj] at this;cases this) rfl hg,?_⟩;simp only[go_sem];((try simp only[Zaq,inQ,ZaB,Zar,Zae,ZaI]);(try simp only[go_sem,ZaH,AV.keepP,AV.keepPL]);refine ⟨_,Zbt t (s.mark side),rfl,Zag rfl rfl ?_ ?_ rfl,?_⟩)
 ·simp only[go_sem,Zal,Ob.keepP,AV.keepP,AV.keepPL,Zbt,Zcp,Cs.mark,List.map_append,Sp.cds]
 ·simp only[go_sem,Zb2]
 ·exact ⟨rfl,rfl⟩
def Zo6 (v:Bool):List Bool→Int→Int
 |[],_=> -1
 |b::l,k=>if v==b then k else Zo6 v l (k+1)
theorem Zkf:∀(l:List Bool) (k:Int),0≤k→decide (0≤Zo6 true l k)= !(l.all (!·))
 |[],k,_=>rfl
 |b::l,k,hk=>by
  cases b
  ·have e:Zo6 true (false::l) k=Zo6 true l (k+1):=rfl;rw[e,Zkf l (k+1) (by omega)];rfl
  ·have e:Zo6 true (true::l) k=k:=rfl;rw[e];simp;omega
set_option maxHeartbeats 4000000 in
theorem index89 (l:List Bool) (v:Bool) (hl:l.length≤1000):FSpec Tryz.prog 170 [.c (.sl 1 (l.map bcd)),bv v] (iv (Zo6 v l 0)):=by
 refine Zac ZAX (Nat.le_refl _) (by decide) fun C hP hN hC hL=> ?_;rw[Zad]
 simp only[Zvz];refine vR3 ?_;(refine Zax Zqp [] (fun k:Nat=>k≤l.length∧Zo6 v l 0=Zo6 v (l.drop k) k) (fun k=>l.length -k) (fun k=>[(8,iv k)]) (fun _=>[]) 0 ⟨Nat.zero_le _,rfl⟩ ?_ ?_)
 ·exact Zaz
 ·intro k ⟨hk,hx⟩;simp only[go_sem];refine vR ?_;(refine vC ?_ ?_<;>intro h)
  ·have h:k<l.length:=by simpa using h
   have hI:(k:Int)<(l.length:Int):=by omega
   have hw2:=w64 (n:=(k:Int)+1) (by omega) (by omega);rw[List.drop_eq_getElem_cons h] at hx;simp only[Zo6] at hx;(repeat (refine vV ?_;(try simp only[go_sem,hP,Za7 h,hI,List.length_map,bcd]);refine vQ ?_))
   cases hb:(v==l[k])
   ·rw[hb] at hx;(refine vC ?_ ?_<;>intro h)
    ·simp at h
    ·refine vW hw2 ?_;refine ⟨k+1,⟨by omega,by rw[hx];rfl⟩,by omega,?_⟩;exact Zaz
   ·rw[hb] at hx;(refine vC ?_ ?_<;>intro h)
    ·refine vR ?_;(refine vT ?_;try exact trivial)
     rw[hx];rfl
    ·simp at h
  ·have h:k=l.length:=by simp at h;omega
   subst h;refine vR ?_;(refine vT ?_;try exact trivial)
   rw[hx,List.drop_length];rfl
theorem Zk6 (l:List Bool) (hl:l.length≤1000):FSpec Tryz.prog 143 [.c (.sl 1 (l.map bcd)),bv true] (bv (!(l.all (!·)))):=by
 refine Zac ZAL (Nat.le_refl _) (by decide) fun C hP hN hC hL=> ?_;rw[Zad]
 simp only[Zvn];refine vR ?_;(refine Zau (index89 l true hl) ?_;simp only[go_sem,hP];refine vQ ?_;refine vR ?_)
 (refine vT ?_;try exact trivial)
 exact congrArg (fun b=>AV.c (CD.bool b)) (Zkf l 0 (Int.le_refl _))
theorem ZvS {t:Tray} (ht:TrayOk t) (s:Nat) (hs:s<2*t.n):FSpec Tryz.prog 144 [t.av,iv s] (iv (Zlw t s)):=by
 have hn6:=ht.n6;have e1:((s:Int)).tmod 2=((s % 2:Nat):Int):=by rw[Int.tmod_eq_emod_of_nonneg (by omega)];omega
 have e2:((s:Int)).tdiv 2=((s/2:Nat):Int):=by rw[Int.tdiv_eq_ediv_of_nonneg (by omega)];omega
 have hk:s/2<t.recs.length:=by show s/2<t.n;omega
 have hI:((s/2:Nat):Int)<(t.recs.length:Int):=by omega
 have w1:=w64 (n:=((s/2:Nat):Int)) (by omega) (by omega);have hrc:t.rc (s/2)=t.recs[s/2]:=by unfold Tray.rc;simp[hk]
 refine Zac ZAM (Nat.le_refl _) (by decide) fun C hP hN hC hL=> ?_;rw[Zad]
 simp only[Zvo,Tray.av];refine vW e1 ?_;(refine vC ?_ ?_<;>intro h)
 ·have h:s % 2=0:=by simp at h;omega
  (repeat (refine vV ?_;(try simp only[go_sem,hP,e2,w1,ZaO,List.length_map,hI,Za7 hk,Rec.cds,Int.natCast_nonneg]);refine vQ ?_))
  (refine vT ?_;try exact trivial)
  rw[Zlw,if_pos h,hrc]
 ·have h:¬s % 2=0:=by simp at h;omega
  (repeat (refine vV ?_;(try simp only[go_sem,hP,e2,w1,ZaO,List.length_map,hI,Za7 hk,Rec.cds,Int.natCast_nonneg]);refine vQ ?_))
  (refine vT ?_;try exact trivial)
  rw[Zlw,if_neg h,hrc]
set_option maxRecDepth 20000 in
set_option maxHeartbeats 8000000 in
theorem press81 {t:Tray} (ht:TrayOk t) {s:Cs} (hs:CsOk t s) (hq:s.q.length≤1000):
  ZaE Tryz.prog 142 [.bp 1000 0] (Zbt t s) [] (fun res l'=>res= .tup []∧l'=Zbt t s.press):=by
 have hn6:=ht.n6;have hp:=hs.pins;have hqo:=hs.q;refine Zat ZAK (by first|simp|exact Nat.le_of_ble_eq_true rfl) (Nat.le_refl _) (by decide) (by decide) fun C hP hN hC hL=> ?_;rw[Zap,Zaw (by first|simp|exact Nat.le_of_ble_eq_true rfl)];simp only[Zvm,Zco,Za1,List.map_nil,List.map_cons,Nat.reduceAdd,Zbt,Zcp]
 refine vR ?_;refine Zax Zqj [1000,1001] (fun p:List Pr×List Bool=>p.1.length≤1000∧p.2.length=2*t.n∧(∀x∈p.1,0≤x.side∧x.side<2*(t.n:Int))∧Zbz s.now s.q s.pins=Zbz s.now p.1 p.2) (fun p=>p.1.length) (fun _=>[])
  (fun p=>[(1000,.box (Zcp t {s with q:=p.1,pins:=p.2})),(1001,.box (Zaf bcd p.2 0))]) (s.q,s.pins) ⟨hq,hp,fun x hx=>(hqo x hx).1,rfl⟩ ?_ ?_
 ·simp only[Zcp];exact Zaz
 ·rintro ⟨q,pins⟩ ⟨hl,hpl,hqs,hpq⟩;simp only at hl hpl hqs hpq;simp only[go_sem,Zcp];cases q with
  |nil=>
   (repeat (refine vV ?_;(try simp only[go_sem,hP,ZbR,List.map_nil,List.length_nil,Int.natCast_zero]);refine vQ ?_))
   (refine vC ?_ ?_<;>intro h)
   ·simp at h
   ·(refine ZbE ?_;simp only[go_sem])
    ((try simp only[Zaq,inQ,ZaB,Zar,Zae,ZaI]);(try simp only[go_sem,ZaH,AV.keepP,AV.keepPL]);refine ⟨_,Zbt t s.press,rfl,Zag rfl rfl ?_ ?_ rfl,?_⟩)
    ·have e1:s.press.q=[]:=by simp only[Cs.press,hpq];rfl
     have e2:s.press.pins=pins:=by simp only[Cs.press,hpq];rfl
     simp only[Zbt,Zcp,e1,e2];simp only[go_sem,Zal,Ob.keepP,AV.keepP,AV.keepPL,Cs.press,ZbR,List.map_nil]
    ·simp only[go_sem,Zb2]
    ·exact ⟨rfl,rfl⟩
  |cons p q=>
   have hps:=hqs p (by simp);have hlen:q.length+1≤1000:=hl;have hd:decide ((0:Int)<((q.length+1:Nat):Int))=true:=by simp
   have e1:(((q.length+1:Nat):Int)).toNat=q.length+1:=by omega
   have e2:(q.map Pr.cds).take q.length=q.map Pr.cds:=List.take_of_length_le (by simp);have hI:(0:Int)<((q.length+1:Nat):Int):=by omega
   have hI1:(1:Int)≤((q.length+1:Nat):Int):=by omega
   have z1:((0:Int)).toNat=0:=rfl;have z2:((1:Int)).toNat=1:=rfl;simp only[Zbz] at hpq;(repeat (refine vV ?_;(try simp only[go_sem,hP,ZbR,List.map_cons,List.length_cons,hd,hI,z1,Pr.cds]);refine vQ ?_))
   (refine vC ?_ ?_<;>intro h)
   ·have h:p.time≤s.now:=by simpa using h
    rw[if_pos h] at hpq;have hk:p.side.toNat<pins.length:=by omega
    have hcl:(Zaf bcd pins 0).length=2*t.n:=by rw[Zbl Zeh,hpl];omega
    have hset:(Zaf bcd pins 0).set p.side.toNat (.c (.bool true))=Zaf bcd (pins.set p.side.toNat true) 0:=by
     have:=Zej Zeh hk 0 0 (by decide) (.bool true) true rfl;rwa [Nat.mul_one,Nat.add_zero] at this
    have hI2:p.side<((2*t.n:Nat):Int):=by omega
    have hc1:p.side.toNat<2*t.n:=by omega
    have hc2:p.side.toNat+1≤2*t.n:=by omega
    (repeat (refine vV ?_;(try simp only[go_sem,hP,ZbR,List.map_cons,List.length_cons,hI,hI1,z1,z2,e1,e2,hps.1,hI2,hcl,hc1,hc2,hset,Pr.cds]);refine vQ ?_))
    refine ⟨(q,pins.set p.side.toNat true),⟨by simp only;omega,by simpa using hpl,fun x hx=>hqs x (by simp[hx]),hpq⟩,by simp,?_⟩;simp only[Zcp,ZbR];exact Zaz
   ·have h:¬p.time≤s.now:=by simpa using h
    rw[if_neg h] at hpq;(refine ZbE ?_;simp only[go_sem])
    ((try simp only[Zaq,inQ,ZaB,Zar,Zae,ZaI]);(try simp only[go_sem,ZaH,AV.keepP,AV.keepPL]);refine ⟨_,Zbt t s.press,rfl,Zag rfl rfl ?_ ?_ rfl,?_⟩)
    ·have e1:s.press.q=p::q:=by simp only[Cs.press,hpq]
     have e2:s.press.pins=pins:=by simp only[Cs.press,hpq]
     simp only[Zbt,Zcp,e1,e2];simp only[go_sem,Zal,Ob.keepP,AV.keepP,AV.keepPL,Cs.press,ZbR,List.map_cons,Pr.cds]
    ·simp only[go_sem,Zb2]
    ·exact ⟨rfl,rfl⟩
abbrev Zw7:VC:=(.seq (.ops [JSm 26 0,JSm 27 2,JS 28 (.nilc (.t 26)),JSf 29 8 28,JSf 30 0 29,JUs 1 30 27]) (.seq (.dops [JFm 31 0,JF 32 (.nilc (.t 31)),JFf 33 7 32,JFl 34 33,JFm 35 0,JF 36 (.nilc (.t 35)),JFf 37 0 36,JFf 38 3 37,JFl 39 38,JSb 40 .add 34 39,JS 41 (.nilc (.t 31)),JSf 42 7 41,JUs 1 42 40]) (.ops [JSm 43 0,JS 44 (.nilc (.t 43)),JSf 45 11 44,JSf 46 2 45,JSl 47 46,JSk 48 .add 47 1,JS 49 (.nilc (.t 43)),JSf 50 11 49,JSf 51 2 50,JUs 1 51 48])))
abbrev Zw8:VC:=(.seq (.ops [JSm 14 2,JSk 15 .geq 14 0,JSm 16 15,JTm 17 2 16,JTm 18 0 16,JG 19 (.nilc (.t 18)) 16 true,JTf 20 0 19 16,JTf 21 0 20 16,JTl 22 21 16,JTn 23 22 16,JTb 24 .lss 17 23 16,JSp 25 16 24]) (.cond (.t 25) Zw7 (.ops [JSm 52 0,JSm 53 0,JS 54 (.nilc (.t 53)),JSf 55 8 54,JSf 56 1 55,JSl 57 56,JS 58 (.un .neg (.t 57)),JS 59 (.nilc (.t 52)),JSf 60 8 59,JSf 61 1 60,JUs 1 61 58])))
def Zvp:FC:=⟨1,64,[],(.seq (.seq (.dops [JFm 3 0,JF 4 (.nilc (.t 3)),JFf 5 8 4,JFf 6 0 5,JFl 7 6,JFm 8 0,JF 9 (.nilc (.t 8)),JFf 10 8 9,JFf 11 1 10,JFl 12 11,JSb 13 .add 7 12,JSm 2 13]) Zw8) (.ops [JSm 62 0,JSc 63 111 [.t 62,(.k (Jz (-1)))]]))⟩
theorem ZAN:Zao Tryz.prog [] 145=some Zvp:=by kernel_rfl
set_option maxRecDepth 20000 in
set_option maxHeartbeats 16000000 in
theorem next84 {t:Tray} (ht:TrayOk t) {s:Cs} (hs:CsOk t s) (h1:s.spells.length≤5000) (h2:s.now≤1000000) (h3:0≤s.steps∧s.steps≤1000000):
  ZaE Tryz.prog 145 [.bp 1000 0] (Zbt t s) [] (fun res l'=>res= .tup []∧l'=Zbt t (s.next t)):=by
 have hn6:=ht.n6;have hat:=hs.at_;have hnow:=hs.now;have hst:=ht.step;have hnl:t.recs.length=t.n:=rfl;have w1:=w64 (n:=s.now+t.step) (by omega) (by omega);have w2:=w64 (n:=s.steps+1) (by omega) (by omega);refine Zat ZAN (by first|simp|exact Nat.le_of_ble_eq_true rfl) (Nat.le_refl _) (by decide) (by decide) fun C hP hN hC hL=> ?_;rw[Zap,Zaw (by first|simp|exact Nat.le_of_ble_eq_true rfl)];simp only[Zvp,Zco,Za1,List.map_nil,List.map_cons,Nat.reduceAdd,Zbt,Zcp]
 cases hu:s.up
 ·have hw:Zi3 false= -1:=rfl;have hwn:IntKind.i64.wrap (0 - -1)=1:=by decide
  have w3:=w64 (n:=(s.at_:Int)+ -1) (by omega) (by omega);have hI2:decide ((s.at_:Int)+ -1<(t.n:Int))=true:=by simp;omega
  by_cases h0:0<s.at_
  ·have ea:(s.at_:Int)+ -1=((s.at_ -1:Nat):Int):=by omega
   rw[ea] at w3 hI2;have em:s.move t= {s with at_:=s.at_ -1,now:=s.now+t.step,steps:=s.steps+1}:=by simp[Cs.move,hu,h0]
   have hmk:=mark71 t {s with at_:=s.at_ -1,now:=s.now+t.step,steps:=s.steps+1} (-1) h1;(repeat (refine vV ?_;(try simp only[go_sem,hP,hw,ea,w3,ZaO,List.length_map,hnl,hI2]);refine vQ ?_))
   (refine vC ?_ ?_<;>intro h)
   ·refine vW (vA w1 w2) ?_;(refine Zas [1000,1001,1002,1003] (hmk) rfl rfl rfl (by decide) rfl (by simp only[go_sem,ZaA,Ob.lend,AV.lend,AV.lendL,Zbt,Zcp,hu,hw,ZaO]) ?_)
    rintro r l' ⟨rfl,rfl⟩;(refine ⟨_,_,rfl,(by simp only[Zbt,Zcp,Zay,Ob.back,AV.back,AV.backL,back_cellsG,hu,hw];rfl),?_⟩;simp only[go_sem,hP,Zab,hu,hw])
    ((try simp only[Zaq,inQ,ZaB,Zar,Zae,ZaI]);(try simp only[go_sem,ZaH,AV.keepP,AV.keepPL]);refine ⟨_,Zbt t (s.next t),rfl,Zag rfl rfl ?_ ?_ rfl,?_⟩)
    ·simp only[Cs.next,em];simp only[go_sem,Zal,Ob.keepP,AV.keepP,AV.keepPL,Zbt,Zcp,Cs.mark,hu,hw,ZaO]
    ·simp only[go_sem,Zb2]
    ·exact ⟨rfl,rfl⟩
   ·simp at h
  ·have ea:s.at_=0:=by omega
   have em:s.move t= {s with up:=true}:=by simp[Cs.move,hu,h0]
   have hmk:=mark71 t {s with up:=true} (-1) h1;have hd:decide ((0:Int)≤(s.at_:Int)+ -1)=false:=by simp;omega
   (repeat (refine vV ?_;(try simp only[go_sem,hP,hw,w3,ZaO,List.length_map,hnl,hI2,hd]);refine vQ ?_))
   (refine vC ?_ ?_<;>intro h)
   ·simp at h
   ·(repeat (refine vV ?_;(try simp only[go_sem,hP,hwn]);refine vQ ?_))
    (refine Zas [1000,1001,1002,1003] (hmk) rfl rfl rfl (by decide) rfl (by simp only[go_sem,ZaA,Ob.lend,AV.lend,AV.lendL,Zbt,Zcp,hu,hw,Zi3,ZaO]) ?_)
    rintro r l' ⟨rfl,rfl⟩;(refine ⟨_,_,rfl,(by simp only[Zbt,Zcp,Zay,Ob.back,AV.back,AV.backL,back_cellsG,hu,hw];rfl),?_⟩;simp only[go_sem,hP,Zab,hu,hw])
    ((try simp only[Zaq,inQ,ZaB,Zar,Zae,ZaI]);(try simp only[go_sem,ZaH,AV.keepP,AV.keepPL]);refine ⟨_,Zbt t (s.next t),rfl,Zag rfl rfl ?_ ?_ rfl,?_⟩)
    ·simp only[Cs.next,em];simp only[go_sem,Zal,Ob.keepP,AV.keepP,AV.keepPL,Zbt,Zcp,Cs.mark,Zi3,ZaO]
    ·simp only[go_sem,Zb2]
    ·exact ⟨rfl,rfl⟩
 ·have hw:Zi3 true=1:=rfl;have hwn:IntKind.i64.wrap (0 -1)= -1:=by decide
  have w3:=w64 (n:=(s.at_:Int)+1) (by omega) (by omega);have hI2:decide ((0:Int)≤(s.at_:Int)+1)=true:=by simp;omega
  by_cases h0:s.at_+1<t.n
  ·have ea:(s.at_:Int)+1=((s.at_+1:Nat):Int):=by omega
   rw[ea] at w3 hI2;have em:s.move t= {s with at_:=s.at_+1,now:=s.now+t.step,steps:=s.steps+1}:=by simp[Cs.move,hu,h0]
   have hmk:=mark71 t {s with at_:=s.at_+1,now:=s.now+t.step,steps:=s.steps+1} (-1) h1;have hd:decide (((s.at_+1:Nat):Int)<(t.n:Int))=true:=by simp;omega
   (repeat (refine vV ?_;(try simp only[go_sem,hP,hw,ea,w3,ZaO,List.length_map,hnl,hI2,hd]);refine vQ ?_))
   (refine vC ?_ ?_<;>intro h)
   ·refine vW (vA w1 w2) ?_;(refine Zas [1000,1001,1002,1003] (hmk) rfl rfl rfl (by decide) rfl (by simp only[go_sem,ZaA,Ob.lend,AV.lend,AV.lendL,Zbt,Zcp,hu,hw,ZaO]) ?_)
    rintro r l' ⟨rfl,rfl⟩;(refine ⟨_,_,rfl,(by simp only[Zbt,Zcp,Zay,Ob.back,AV.back,AV.backL,back_cellsG,hu,hw];rfl),?_⟩;simp only[go_sem,hP,Zab,hu,hw])
    ((try simp only[Zaq,inQ,ZaB,Zar,Zae,ZaI]);(try simp only[go_sem,ZaH,AV.keepP,AV.keepPL]);refine ⟨_,Zbt t (s.next t),rfl,Zag rfl rfl ?_ ?_ rfl,?_⟩)
    ·simp only[Cs.next,em];simp only[go_sem,Zal,Ob.keepP,AV.keepP,AV.keepPL,Zbt,Zcp,Cs.mark,hu,hw,ZaO]
    ·simp only[go_sem,Zb2]
    ·exact ⟨rfl,rfl⟩
   ·simp at h
  ·have em:s.move t= {s with up:=false}:=by simp[Cs.move,hu,h0]
   have hmk:=mark71 t {s with up:=false} (-1) h1;have hd:decide ((s.at_:Int)+1<(t.n:Int))=false:=by simp;omega
   (repeat (refine vV ?_;(try simp only[go_sem,hP,hw,w3,ZaO,List.length_map,hnl,hI2,hd]);refine vQ ?_))
   (refine vC ?_ ?_<;>intro h)
   ·simp at h
   ·(repeat (refine vV ?_;(try simp only[go_sem,hP,hwn]);refine vQ ?_))
    (refine Zas [1000,1001,1002,1003] (hmk) rfl rfl rfl (by decide) rfl (by simp only[go_sem,ZaA,Ob.lend,AV.lend,AV.lendL,Zbt,Zcp,hu,hw,Zi3,ZaO]) ?_)
    rintro r l' ⟨rfl,rfl⟩;(refine ⟨_,_,rfl,(by simp only[Zbt,Zcp,Zay,Ob.back,AV.back,AV.backL,back_cellsG,hu,hw];rfl),?_⟩;simp only[go_sem,hP,Zab,hu,hw])
    ((try simp only[Zaq,inQ,ZaB,Zar,Zae,ZaI]);(try simp only[go_sem,ZaH,AV.keepP,AV.keepPL]);refine ⟨_,Zbt t (s.next t),rfl,Zag rfl rfl ?_ ?_ rfl,?_⟩)
    ·simp only[Cs.next,em];simp only[go_sem,Zal,Ob.keepP,AV.keepP,AV.keepPL,Zbt,Zcp,Cs.mark,Zi3,ZaO]
    ·simp only[go_sem,Zb2]
    ·exact ⟨rfl,rfl⟩
abbrev Ztg:VC:=(.seq (.seq (.ops [JSm 12 0,JS 13 (.nilc (.t 12)),JSf 14 5 13,JSl 15 14,JSn 16 15,JSk 17 .eql 16 0]) (.cond (.t 17) (.seq (.ops [JSB 2 false]) .ret) .skip)) (.seq (.ops [JSm 18 0,JSm 19 0,JS 20 (.nilc (.t 19)),JSf 21 5 20,JSl 22 21,JS 23 (.ia 2 (.t 22) (.k (Jz 0))),JSf 24 1 23,JSl 25 24,JS 26 (.nilc (.t 18)),JSf 27 7 26,JUs 1 27 25]) (.seq (.ops [JSB 2 true]) .ret)))
abbrev Zr3:List Ins:=[JFm 55 0,JFm 56 0,JF 57 (.nilc (.t 56)),JFf 58 11 57,JFf 59 1 58,JFl 60 59,JFm 61 3,JFm 62 0,JF 63 (.nilc (.t 62)),JFf 64 7 63,JFl 65 64,JF 66 (.bld [Jz 0,Jz 0] [(0,1,(.t 61)),(1,1,(.t 65))]),JF 67 (.bsl 121 2 [.t 66]),JF 68 (.app 121 2 16 (.t 60) (.t 67)),JS 69 (.nilc (.t 55)),JSf 70 11 69,JSf 71 1 70,JUs 1 71 68]
abbrev Zr4:List Ins:=[JFm 75 0,JF 76 (.nilc (.t 75)),JFf 77 7 76,JFl 78 77,JFm 79 0,JF 80 (.nilc (.t 79)),JFf 81 0 80,JFL 82 5 81,JFm 83 3,JFc 84 144 [.t 82,.t 83],JSb 85 .add 78 84,JS 86 (.nilc (.t 75)),JSf 87 7 86,JUs 1 87 85]
abbrev Zth:VC:=(.seq (.ops [JSm 49 0,JS 50 (.nilc (.t 49)),JSf 51 6 50,JSl 52 51,JSm 53 3,JSa 54 1 52 53,JN (.st 1 (.t 54) (.k (.c (.bool false))))]) (.seq (.dops Zr3) (.seq (.ops [JSm 72 0,JSm 73 3,JSc 74 111 [.t 72,.t 73]]) (.seq (.dops Zr4) (.seq (.ops [JSm 88 0,JSm 89 0,JS 90 (.nilc (.t 89)),JSf 91 7 90,JSl 92 91,JS 93 (.nilc (.t 88)),JSf 94 11 93,JSf 95 3 94,JUs 1 95 92]) (.ops [JSm 96 0,JSc 97 111 [.t 96,(.k (Jz (-1)))]]))))))
abbrev Zn4:VC:=(.seq (.seq (.ops [JSm 42 0,JS 43 (.nilc (.t 42)),JSf 44 6 43,JSl 45 44,JSm 46 3,JSa 47 1 45 46,JSl 48 47]) (.cond (.t 48) Zth .skip)) (.seq (.ops [JSm 98 0,JSc 99 145 [.t 98]]) (.seq (.ops [JSB 2 true]) .ret)))
abbrev Zti:VC:=(.seq (.seq (.ops [JSm 6 0,JS 7 (.nilc (.t 6)),JSf 8 6 7,JSl 9 8,JSc 10 143 [.t 9,(.k (.c (.bool true)))],JS 11 (.un .not (.t 10))]) (.cond (.t 11) Ztg .skip)) (.seq (.ops [JSm 28 0,JS 29 (.nilc (.t 28)),JSf 30 8 29,JSf 31 0 30,JSl 32 31,JS 33 (.bin .mul (.k (Jz 2)) (.t 32)),JSm 3 33]) (.seq (.seq (.ops [JSm 34 0,JS 35 (.nilc (.t 34)),JSf 36 8 35,JSf 37 1 36,JSl 38 37,JSk 39 .lss 38 0]) (.cond (.t 39) (.ops [JSm 40 3,JSk 41 .add 40 1,JSm 3 41]) .skip)) Zn4)))
def Zu8:FC:=⟨1,100,[.t 2],(.seq (.ops [JSB 2 false]) (.seq (.ops [JSm 4 0,JSc 5 142 [.t 4]]) Zti))⟩
theorem ZAv:Zao Tryz.prog [] 112=some Zu8:=by kernel_rfl
def Zou (t:Tray) (s:Cs) (res:AV) (l':List Ob):Prop:=(s.act t=none∧res=bv false∧l'=Zbt t s.press)∨∃s',s.act t=some s'∧res=bv true∧l'=Zbt t s'
theorem Zng (now:Int):∀(q:List Pr) (pins:List Bool),(Zbz now q pins).1.length≤q.length:=fun q pins=>by
 obtain ⟨k,hk⟩:=Zb7 now q pins;rw[hk,List.length_drop];omega
set_option maxRecDepth 20000 in
set_option maxHeartbeats 16000000 in
theorem act72 {t:Tray} (ht:TrayOk t) {s:Cs} (hs:CsOk t s) (hq:s.q.length≤1000) (h1:s.spells.length≤4900) (h2:s.now≤900000) (h3:0≤s.steps∧s.steps≤900000) (h4:s.plays.length≤5000):
  ZaE Tryz.prog 112 [.bp 1000 0] (Zbt t s) [] (Zou t s):=by
 have hmax:maxLen=9223372036854775807:=rfl;have hn6:=ht.n6;have hpr:=press81 ht hs hq;have hs1:=hs.press;have hact:s.act t=s.press.act1 t:=rfl;have hq1:s.press.q.length≤1000:=Nat.le_trans (Zng _ _ _) hq;have e1:s.press.spells=s.spells:=rfl;have e2:s.press.now=s.now:=rfl;have e3:s.press.steps=s.steps:=rfl;have e4:s.press.plays=s.plays:=rfl;rw[←e1] at h1;rw[←e2] at h2;rw[←e3] at h3;rw[←e4] at h4;refine ZcD ZAv (by first|simp|exact Nat.le_of_ble_eq_true rfl) (Nat.le_refl _) (by decide) (by decide) fun C hP hN hC hpin hL=> ?_;rw[Zap,Zaw (by first|simp|exact Nat.le_of_ble_eq_true rfl)];simp only[Zu8,Zco,Za1,List.map_nil,List.map_cons,Nat.reduceAdd,Zbt,Zcp]
 refine Zg0 ?_;refine vR ?_;(refine Zas [1000,1001,1002,1003] (hpr) rfl rfl rfl (by decide) rfl (by simp only[go_sem,ZaA,Ob.lend,AV.lend,AV.lendL,Zbt,Zcp]) ?_)
 rintro r l' ⟨rfl,rfl⟩;(refine ⟨_,_,rfl,(by simp only[Zbt,Zcp,Zay,Ob.back,AV.back,AV.backL,back_cellsG,];rfl),?_⟩;simp only[go_sem,hP,Zab])
 have hpost:∀r l',Zou t s r l'=((s.press.act1 t=none∧r=bv false∧l'=Zbt t s.press)∨∃s',s.press.act1 t=some s'∧r=bv true∧l'=Zbt t s'):=fun r l'=>by unfold Zou;rw[hact]
 generalize s.press=s1 at*;have hpl:=hs1.pins;have hat:=hs1.at_;have hel:∀own:Nat→Ob,own 1001= .box (Zaf bcd s1.pins 0)→AV.elemsV own (.vw 1 1001 0 (2*t.n) (2*t.n))=some (1,s1.pins.map bcd):=fun own h=>by
  have:=Zhb Zeh own 1001 s1.pins 0 (2*t.n) h;rwa [hpl] at this
 refine vR ?_;refine Zub (Zk6 s1.pins (by omega)) rfl rfl rfl rfl ?_ rfl ?_
 ·show AV.vportL _ [.vw 1 1001 0 (2*t.n) (2*t.n),bv true]=_;simp only[AV.vportL,AV.vport];rw[hel]
  ·rfl
  ·rfl
 simp only[go_sem,hP];refine vR ?_;cases hall:s1.pins.all (!·);rotate_left
 ·-- nothing is asked for
  (refine vC ?_ ?_<;>intro h)
  ·cases hqq:s1.q with
   |nil=>
    have ha:s1.act1 t=none:=by unfold Cs.act1;rw[if_pos hall,hqq]
    (repeat (refine vV ?_;(try simp only[go_sem,hP,ZbR,hqq,List.map_nil,List.length_nil,Int.natCast_zero,beq_self_eq_true]);refine vQ ?_))
    (refine vC ?_ ?_<;>intro h)
    ·refine vR ?_;refine Zak ?_;refine ⟨_,fun a w hg=>hg,?_⟩;((try simp only[Zaq,inQ,ZaB,Zar,Zae,ZaI]);(try simp only[go_sem,ZaH,AV.keepP,AV.keepPL]);refine ⟨_,Zbt t s1,rfl,Zag rfl rfl ?_ ?_ rfl,?_⟩)
     ·simp only[go_sem,Zal,Ob.keepP,AV.keepP,AV.keepPL,Zbt,Zcp,ZbR,hqq,List.map_nil]
     ·simp only[go_sem,Zb2]
     ·rw[hpost];exact .inl ⟨ha,rfl,rfl⟩
    ·simp at h
   |cons p q=>
    have ha:s1.act1 t=some {s1 with now:=p.time}:=by unfold Cs.act1;rw[if_pos hall,hqq]
    have hd:(((q.length+1:Nat):Int)==0)=false:=by simp;omega
    have hI:(0:Int)<((q.length+1:Nat):Int):=by omega
    have z1:((0:Int)).toNat=0:=rfl;(repeat (refine vV ?_;(try simp only[go_sem,hP,ZbR,hqq,List.map_cons,List.length_cons,hd]);refine vQ ?_))
    (refine vC ?_ ?_<;>intro h)
    ·simp at h
    ·(repeat (refine vV ?_;(try simp only[go_sem,hP,ZbR,hqq,List.map_cons,List.length_cons,hI,z1,Pr.cds]);refine vQ ?_))
     refine Zak ?_;refine ⟨_,fun a w hg=>hg,?_⟩;((try simp only[Zaq,inQ,ZaB,Zar,Zae,ZaI]);(try simp only[go_sem,ZaH,AV.keepP,AV.keepPL]);refine ⟨_,Zbt t {s1 with now:=p.time},rfl,Zag rfl rfl ?_ ?_ rfl,?_⟩)
     ·simp only[go_sem,Zal,Ob.keepP,AV.keepP,AV.keepPL,Zbt,Zcp,ZbR,hqq,List.map_cons,Pr.cds]
     ·simp only[go_sem,Zb2]
     ·rw[hpost];exact .inr ⟨_,ha,rfl,rfl⟩
  ·simp at h
 ·(refine vC ?_ ?_<;>intro h)
  ·simp at h
  have ha:s1.act1 t=some ((s1.play t).next t):=by unfold Cs.act1;rw[if_neg (by rw[hall];decide)]
  have hpos:=Zne hs1;have hsec:=ZnS ht hpos;have hlast:=ZvS ht s1.pos hpos;have hnow:=hs1.now;have hcl:(Zaf bcd s1.pins 0).length=2*t.n:=by rw[Zbl Zeh,hpl];omega
  have hpk:s1.pos<s1.pins.length:=by omega
  have hget:∀x,(Zaf bcd s1.pins 0).getD s1.pos x=bv (s1.pins.getD s1.pos false):=fun x=>by
   have:=Zgu Zeh hpk 0 0 (d:=.bool s1.pins[s1.pos]) rfl x;rw[Nat.mul_one,Nat.add_zero] at this;rw[this];simp[hpk]
  have hI2:(s1.pos:Int)<((2*t.n:Nat):Int):=by omega
  have hc2:s1.pos+1≤2*t.n:=by omega
  have hside:(bif decide (Zi3 s1.up<0) then 2*(s1.at_:Int)+1 else 2*(s1.at_:Int))=(s1.pos:Int):=by
   unfold Cs.pos Zf6 Zi3;cases s1.up<;>simp<;>omega
  have wa:=w64 (n:=2*(s1.at_:Int)) (by omega) (by omega);have wb:=w64 (n:=2*(s1.at_:Int)+1) (by omega) (by omega);have hplayOk:CsOk t (s1.play t)∧(s1.play t).spells.length≤5000∧(s1.play t).now≤1000000∧0≤(s1.play t).steps∧(s1.play t).steps≤1000000:=by
   obtain ⟨p1,p2,p3,p4⟩:=Zd4 t s1;have hn:=Zho ht hs1;refine ⟨⟨by rw[p3];exact hat,by rw[p1,List.length_set];exact hpl,by rw[p2];exact hs1.q,by omega,by rw[p2];exact hs1.sorted⟩,?_,by omega,by omega,by omega⟩;unfold Cs.play;split
   ·simp[Cs.play2,Cs.play1,Cs.mark];omega
   ·omega
  have hnx:=next84 ht hplayOk.1 hplayOk.2.1 hplayOk.2.2.1 hplayOk.2.2.2;have hset:(Zaf bcd s1.pins 0).set s1.pos (.c (.bool false))=Zaf bcd (s1.pins.set s1.pos false) 0:=by
   have:=Zej Zeh hpk 0 0 (by decide) (.bool false) false rfl;rwa [Nat.mul_one,Nat.add_zero] at this
  have hnl:t.recs.length=t.n:=rfl;have wc:=w64 (n:=s1.now+Zlw t s1.pos) (by omega) (by omega);have htail:WV C Zn4 (fun e σ'=>∃σ'',(∀a w,Gam C σ' a w→Gam C σ'' a w)∧ZaB [RV.t 2] (Zbt t s) [] (Zou t s) e σ'')
    ⟨upd (upd e0 0 (.bp 1000 0)) 3 (iv s1.pos),upd (upd (upd (upd o0 1000 (.box (Zcp t s1))) 1001 (.box (Zaf bcd s1.pins 0))) 1002 (.grow 129 4 (s1.spells.map Sp.cds))) 1003 (.grow 121 2 (s1.plays.map Pr.cds))⟩:=by
   simp only[Zcp];(repeat (refine vV ?_;(try simp only[go_sem,hP,hI2,hpk,hcl,hget]);refine vQ ?_))
   cases hpp:s1.pins.getD s1.pos false
   ·have hpl1:s1.play t=s1:=by unfold Cs.play;rw[hpp];rfl
    rw[hpl1] at hnx ha;(refine vC ?_ ?_<;>intro h)
    ·simp at h
    refine vR ?_;(refine Zas [1000,1001,1002,1003] (hnx) rfl rfl rfl (by decide) rfl (by simp only[go_sem,ZaA,Ob.lend,AV.lend,AV.lendL,Zbt,Zcp]) ?_)
    rintro r l' ⟨rfl,rfl⟩;(refine ⟨_,_,rfl,(by simp only[Zbt,Zcp,Zay,Ob.back,AV.back,AV.backL,back_cellsG,];rfl),?_⟩;simp only[go_sem,hP,Zab])
    refine vR ?_;refine Zak ?_;refine ⟨_,fun a w hg=>hg,?_⟩;((try simp only[Zaq,inQ,ZaB,Zar,Zae,ZaI]);(try simp only[go_sem,ZaH,AV.keepP,AV.keepPL]);refine ⟨_,Zbt t (s1.next t),rfl,Zag rfl rfl ?_ ?_ rfl,?_⟩)
    ·simp only[go_sem,Zal,Ob.keepP,AV.keepP,AV.keepPL,Zbt,Zcp]
    ·simp only[go_sem,Zb2]
    ·rw[hpost];exact .inr ⟨_,ha,rfl,rfl⟩
   ·have hpl1:s1.play t=(s1.play1).play2 t:=by unfold Cs.play;rw[hpp];rfl
    rw[hpl1] at hnx ha;have hm1:=mark71 t {s1 with pins:=s1.pins.set s1.pos false,plays:=s1.plays++[⟨s1.pos,s1.now⟩]} s1.pos (by simp only;omega);have hm2:=mark71 t {s1.play1 with now:=s1.now+Zlw t s1.pos,end_:=s1.now+Zlw t s1.pos} (-1) (by simp[Cs.play1,Cs.mark];omega);have e1:({s1 with pins:=s1.pins.set s1.pos false,plays:=s1.plays++[⟨s1.pos,s1.now⟩]}:Cs).mark s1.pos=s1.play1:=rfl;have e2:({s1.play1 with now:=s1.now+Zlw t s1.pos,end_:=s1.now+Zlw t s1.pos}:Cs).mark (-1)=(s1.play1).play2 t:=rfl;(refine vC ?_ ?_<;>intro h)
    ·(repeat (refine vV ?_;(try simp only[go_sem,hP,hI2,hpk,hcl,hset,List.length_map]);refine vQ ?_))
     (refine Zas [1000,1001,1002,68] (hm1) rfl rfl rfl (by decide) rfl (by simp only[go_sem,ZaA,Ob.lend,AV.lend,AV.lendL,Zbt,Zcp,List.map_append,Pr.cds]) ?_)
     rintro r l' ⟨rfl,rfl⟩;rw[e1];(refine ⟨_,_,rfl,(by simp only[Zbt,Zcp,Zay,Ob.back,AV.back,AV.backL,back_cellsG,];rfl),?_⟩;simp only[go_sem,hP,Zab])
     have g1:(s1.play1).spells=s1.spells++[⟨s1.at_,Zi3 s1.up,s1.pos,s1.now⟩]:=rfl;have g2:(s1.play1).plays=s1.plays++[⟨s1.pos,s1.now⟩]:=rfl;(repeat (refine vV ?_;(try simp only[go_sem,hP,hP,Cs.play1,Cs.mark]);refine vQ ?_))
     (refine Za0 (hlast) rfl rfl rfl rfl rfl ?_;simp only[go_sem,hP,Tray.av,wc];refine vQ ?_;(repeat (refine vV ?_;(try simp only[go_sem,hP,Tray.av,wc]);refine vQ ?_)))
     (refine Zas [1000,1001,1002,68] (hm2) rfl rfl rfl (by decide) rfl (by simp only[go_sem,ZaA,Ob.lend,AV.lend,AV.lendL,Zbt,Zcp,Cs.play1,Cs.mark]) ?_)
     rintro r l' ⟨rfl,rfl⟩;rw[e2];(refine ⟨_,_,rfl,(by simp only[Zbt,Zcp,Zay,Ob.back,AV.back,AV.backL,back_cellsG,Cs.play2,Cs.play1,Cs.mark];rfl),?_⟩;simp only[go_sem,hP,Zab,Cs.play2,Cs.play1,Cs.mark])
     refine vR ?_;(refine Zas [1000,1001,1002,68] (hnx) rfl rfl rfl (by decide) rfl (by simp only[go_sem,ZaA,Ob.lend,AV.lend,AV.lendL,Zbt,Zcp,Cs.play2,Cs.play1,Cs.mark]) ?_)
     rintro r l' ⟨rfl,rfl⟩;generalize (s1.play1.play2 t).next t=s2 at*
     (refine ⟨_,_,rfl,(by simp only[Zbt,Zcp,Zay,Ob.back,AV.back,AV.backL,back_cellsG,];rfl),?_⟩;simp only[go_sem,hP,Zab])
     refine vR ?_;refine Zak ?_;refine ⟨_,fun a w hg=>ZdP (d:=68) (n:=1003) (by decide) (fun h=>by have:=hpin 1003 h;rw[Zjk] at this;cases this) rfl hg,?_⟩;simp only[go_sem];((try simp only[Zaq,inQ,ZaB,Zar,Zae,ZaI]);(try simp only[go_sem,ZaH,AV.keepP,AV.keepPL]);refine ⟨_,Zbt t s2,rfl,Zag rfl rfl ?_ ?_ rfl,?_⟩)
     ·simp only[go_sem,Zal,Ob.keepP,AV.keepP,AV.keepPL,Zbt,Zcp]
     ·simp only[go_sem,Zb2]
     ·rw[hpost];exact .inr ⟨_,ha,rfl,rfl⟩
    ·simp at h
  simp only[Zcp] at htail;cases hu:s1.up
  ·rw[hu] at htail;have hw:Zi3 false= -1:=rfl;have hp2:2*(s1.at_:Int)+1=(s1.pos:Int):=by unfold Cs.pos Zf6;rw[hu];simp
   rw[hp2] at wb;rw[hw] at htail;refine vW (vA wa hw) ?_;(refine vC ?_ ?_<;>intro h)
   ·(refine ZcH ?_;simp only[go_sem,hP,wb,hp2];refine vQ ?_)
    exact ZaL (Zai (by simp only[go_sem];exact Zam) (by simp only[go_sem];exact Zaa)) htail
   ·simp at h
  ·rw[hu] at htail;have hw:Zi3 true=1:=rfl;have hp2:2*(s1.at_:Int)=(s1.pos:Int):=by unfold Cs.pos Zf6;rw[hu];simp
   rw[hp2] at wa;rw[hw] at htail;refine vW (vA wa (vA hw hp2)) ?_;(refine vC ?_ ?_<;>intro h)
   ·simp at h
   ·(refine Zcb ?_;simp only[go_sem])
    exact ZaL (Zai (by simp only[go_sem];exact Zam) (by simp only[go_sem];exact Zaa)) htail
end Go.Proofs.YtcggfogkfhlmlaaGreatDoor
namespace Go.Proofs.YtcggfogkfhlmlaaGreatDoor
open Go Go.V
namespace W
abbrev Zsd:List Ins:=[JS 1 (.box 5 (.t 0)),JS 2 (.alloc [J0,J0,Jz 0,Jz 0])]
abbrev Zse:List Ins:=[JFL 4 5 1,JFf 5 4 1,JFl 6 5,JFf 8 0 1,JFl 9 8,JFn 10 9,JF 11 (.bin .mul (.k (Jz 2)) (.t 10)),JF 12 (.mks 4 1 1 [(.c (.bool false))] (.t 11) (.t 11)),JFf 13 1 1,JFl 14 13,JFf 15 2 1,JFl 16 15,JF 17 (.bld [Jz 0,Jz 0,Jz 0] [(0,1,(.t 14)),(1,1,(.t 16)),(2,1,(.k (Jz (-1))))]),JS 7 (.calln (.k (.fn 76 [])) [.t 6]),JS 18 (.bld [J0,Jz 0,Jz 0,Jz 0,J0,J0,J0,Jz 0,Jz 0,Jz 0,Jz 0,J0,J0,Jz 0,Jz 0] [(0,5,(.t 4)),(5,1,(.t 7)),(6,1,(.t 12)),(8,3,(.t 17))]),JS 19 (.box 15 (.t 18)),JSm 3 19]
abbrev Zsf:List Ins:=[JSm 20 3,JS 21 (.nilc (.t 20)),JSf 22 5 21,JSl 23 22,JSc 24 109 [.t 23,(.k (.fn 110 []))]]
abbrev Zsg:List Ins:=[JSm 25 3,JSc 26 111 [.t 25,(.k (Jz (-1)))]]
abbrev Zsh:List Ins:=[JSm 27 3,JSc 28 112 [.t 27]]
abbrev ZtO:VC:=(.cond (.t 28) .skip (.exit 0))
abbrev ZtP:VC:=(.block 1 .skip)
abbrev ZtQ:VC:=(.seq (.seq (.ops Zsh) ZtO) ZtP)
-- Zop: changed and kept: []
abbrev Zop:List Nat:=[2,3]
abbrev ZtR:VC:=(.loop ZtQ)
abbrev Zsi:List Ins:=[JSm 29 3,JS 30 (.nilc (.t 29)),JSf 31 11 30,JSL 32 4 31,JUs 4 2 32]
abbrev Zn7:VC:=(.seq (.ops Zsi) .ret)
abbrev Zn8:VC:=(.seq (.block 0 ZtR) Zn7)
abbrev ZkG:VC:=(.seq (.ops Zsg) Zn8)
abbrev Zn9:VC:=(.seq (.ops Zsf) ZkG)
abbrev Zoa:VC:=(.seq (.dops Zse) Zn9)
def ir71:FC:=⟨1,33,[.cell 2 false 4],(.seq (.ops Zsd) Zoa)⟩
theorem c71:Zao Tryz.prog [300007] 71=some ir71:=by kernel_rfl
end W
abbrev Zsd:List Ins:=[JS 1 (.box 5 (.t 0)),JS 2 (.alloc [J0,J0,Jz 0,Jz 0])]
abbrev Zse:List Ins:=[JFL 4 5 1,JFf 5 4 1,JFl 6 5,JFf 8 0 1,JFl 9 8,JFn 10 9,JF 11 (.bin .mul (.k (Jz 2)) (.t 10)),JF 12 (.mks 4 1 1 [(.c (.bool false))] (.t 11) (.t 11)),JFc 7 76 [.t 6],JFf 13 1 1,JFl 14 13,JFf 15 2 1,JFl 16 15,JF 17 (.bld [Jz 0,Jz 0,Jz 0] [(0,1,(.t 14)),(1,1,(.t 16)),(2,1,(.k (Jz (-1))))]),JS 18 (.bld [J0,Jz 0,Jz 0,Jz 0,J0,J0,J0,Jz 0,Jz 0,Jz 0,Jz 0,J0,J0,Jz 0,Jz 0] [(0,5,(.t 4)),(5,1,(.t 7)),(6,1,(.t 12)),(8,3,(.t 17))]),JS 19 (.box 15 (.t 18)),JSm 3 19]
abbrev Zsf:List Ins:=[JSm 20 3,JS 21 (.nilc (.t 20)),JSf 22 5 21,JSl 23 22,JSc 24 109 [.t 23,(.k (.fn 110 []))]]
abbrev Zsg:List Ins:=[JSm 25 3,JSc 26 111 [.t 25,(.k (Jz (-1)))]]
abbrev Zsh:List Ins:=[JSm 27 3,JSc 28 112 [.t 27]]
abbrev ZtO:VC:=(.cond (.t 28) .skip (.exit 0))
abbrev ZtP:VC:=(.block 1 .skip)
abbrev ZtQ:VC:=(.seq (.seq (.ops Zsh) ZtO) ZtP)
-- Zop: changed and kept: []
abbrev Zop:List Nat:=[2,3]
abbrev ZtR:VC:=(.loop ZtQ)
abbrev Zsi:List Ins:=[JSm 29 3,JS 30 (.nilc (.t 29)),JSf 31 11 30,JSL 32 4 31,JUs 4 2 32]
abbrev Zn7:VC:=(.seq (.ops Zsi) .ret)
abbrev Zn8:VC:=(.seq (.block 0 ZtR) Zn7)
abbrev ZkG:VC:=(.seq (.ops Zsg) Zn8)
abbrev Zn9:VC:=(.seq (.ops Zsf) ZkG)
abbrev Zoa:VC:=(.seq (.dops Zse) Zn9)
def ir71:FC:=⟨1,33,[.cell 2 false 4],(.seq (.ops Zsd) Zoa)⟩
theorem c71:Zao Tryz.prog [] 71=some ir71:=by kernel_rfl
attribute [local go_sem] Nat.reduceEqDiff Nat.reduceAdd Nat.reduceMul reduceIte Nat.reduceLeDiff Nat.reduceLT Nat.reduceBEq reduceCtorEq
def ZBo (l:List Sp):CD:=.sl 4 (l.map Sp.cds)
def Cs.run (s:Cs):AV:=.agg [.c (ZBo s.spells),.c (ZbR s.plays),iv s.steps,iv s.end_]
def Zqw (t:Tray) (s:Cs):List AV:=[.c (ZaO t.recs),iv t.at_,iv t.way,iv t.step,.c (ZbR t.pres),.c (ZbR s.q),.vw 1 12 0 (2*t.n) (2*t.n),iv s.now,iv s.at_,iv (Zi3 s.up),iv s.side,.gr 81,.gr 82,iv s.steps,iv s.end_]
def Zp3:List AV:=[.c (.raw (.slice none 0 0)),.c (.raw (.slice none 0 0)),.c (.int .i64 0),.c (.int .i64 0)]
set_option maxRecDepth 20000 in
set_option maxHeartbeats 16000000 in
theorem tail54 {C:Ctx} (hP:C.P=Tryz.prog) {t:Tray} (ht:TrayOk t) {q:List Pr} (hq:q.Perm t.pres) (hqs:q.Pairwise fun a b=>a.time≤b.time):
  WV C ZkG (ZgY [.cell 2 false 4] (ZdZ t q).run) ⟨upd (upd e0 2 (.bp 2 0)) 3 (.bp 19 0),upd (upd (upd (upd (upd o0 2 (.box Zp3)) 12 (.box (Zaf bcd (Zcn t q).pins 0))) 19 (.box (Zqw t (Zcn t q)))) 81 (.grow 129 4 [])) 82 (.grow 121 2 [])⟩:=by
 have hm0:=mark71 t (Zcn t q) (-1) (by simp[Zcn]);have hs0:=ZnY ht hq hqs;have hql:q.length≤13:=by rw[hq.length_eq];exact ht.p13
 have hmu:=ZpU ht hql;have hgw:ZdZ t q=Zoi t 250 ((Zcn t q).mark (-1)):=rfl;have b1:((Zcn t q).mark (-1)).spells.length=1:=rfl;have b2:((Zcn t q).mark (-1)).plays.length=0:=rfl;have b3:((Zcn t q).mark (-1)).now=0:=rfl;have b4:((Zcn t q).mark (-1)).steps=0:=rfl;have b5:((Zcn t q).mark (-1)).q.length≤13:=hql;have hsp:(Zcn t q).spells=[]:=rfl;have hpl:(Zcn t q).plays=[]:=rfl;rw[hgw];simp only[Zqw,Zp3];refine vR ?_;(refine Zas [19,12,81,82] (hm0) rfl rfl rfl (by decide) rfl (by simp only[go_sem,ZaA,Ob.lend,AV.lend,AV.lendL,Zbt,Zcp,hsp,hpl,List.map_nil]) ?_)
 rintro r l' ⟨rfl,rfl⟩;generalize (Zcn t q).mark (-1)=s0 at*;(refine ⟨_,_,rfl,(by simp only[Zbt,Zcp,Zay,Ob.back,AV.back,AV.backL,back_cellsG,];rfl),?_⟩;simp only[go_sem,hP,Zab])
 refine vR ?_;refine Zax Zop [12,19,81,82] (fun p:Nat×Cs=>CsOk t p.2∧Zoi t 250 s0=Zoi t (250 -p.1) p.2∧mu t p.2+p.1≤200∧p.2.now≤10000+1059*(p.1:Int)∧p.2.spells.length≤1+3*p.1∧p.2.plays.length≤p.1∧(0≤p.2.steps∧p.2.steps≤(p.1:Int))∧p.2.q.length≤13) (fun p=>mu t p.2) (fun _=>[])
  (fun p=>[(12,.box (Zaf bcd p.2.pins 0)),(19,.box (Zqw t p.2)),(81,.grow 129 4 (p.2.spells.map Sp.cds)),(82,.grow 121 2 (p.2.plays.map Pr.cds))]) (0,s0) ⟨hs0,rfl,by simpa using hmu,by rw[b3];simp,by rw[b1];simp,by rw[b2];simp,by rw[b4];simp,b5⟩ ?_ ?_
 ·simp only[Zqw];exact Zaz
 ·rintro ⟨k,s⟩ ⟨i1,i2,i3,i4,i5,i6,i7,i8⟩;simp only at i1 i2 i3 i4 i5 i6 i7 i8;have hact:=act72 ht i1 (by omega) (by omega) (by omega) (by omega) (by omega);simp only[go_sem,Zqw];refine vR ?_;(refine Zas [19,12,81,82] (hact) rfl rfl rfl (by decide) rfl (by simp only[go_sem,ZaA,Ob.lend,AV.lend,AV.lendL,Zbt,Zcp]) ?_)
  rintro r l' (⟨ha,rfl,rfl⟩|⟨s',ha,rfl,rfl⟩)
  ·have hend:Zoi t (250 -k) s=s.press:=by
    obtain ⟨m,hm⟩:∃m,250 -k=m+1:=⟨249 -k,by omega⟩;rw[hm];simp only[Zoi,ha]
   rw[hend] at i2;rw[i2];generalize s.press=s2 at*;(refine ⟨_,_,rfl,(by simp only[Zbt,Zcp,Zay,Ob.back,AV.back,AV.backL,back_cellsG,];rfl),?_⟩;simp only[go_sem,hP,Zab])
   refine vR ?_;(refine vC ?_ ?_<;>intro h)
   ·simp at h
   ·(refine ZbE ?_;simp only[go_sem])
    refine vR ?_;(refine vT ?_;try exact trivial)
  ·have hend:Zoi t (250 -k) s=Zoi t (250 -(k+1)) s':=by
    obtain ⟨m,hm⟩:∃m,250 -k=m+1:=⟨249 -k,by omega⟩;rw[hm,show 250 -(k+1)=m from by omega];simp only[Zoi,ha]
   have hg:=ZlY ht i1 ha;have hmu':=Zup i1 ha;have hok':=Zuq ht i1 ha;(refine ⟨_,_,rfl,(by simp only[Zbt,Zcp,Zay,Ob.back,AV.back,AV.backL,back_cellsG,];rfl),?_⟩;simp only[go_sem,hP,Zab])
   refine vR ?_;(refine vC ?_ ?_<;>intro h)
   ·refine vR ?_;refine ⟨(k+1,s'),⟨hok',by rw[i2,hend],by simp only;omega,?_,?_,?_,?_,?_⟩,by simp only;omega,?_⟩
    ·rcases hg.now with h|h<;>(simp only;omega)
    ·have:=hg.spells;simp only;omega
    ·have:=hg.plays;simp only;omega
    ·have:=hg.steps;simp only;omega
    ·have:=hg.q;simp only;omega
    ·simp only[Zqw];exact Zaz
   ·simp at h
theorem Zgs (n:Nat):(List.replicate n [bv false]).flatten=Zaf bcd (List.replicate n false) 0:=by
 have:∀n,(List.replicate n [bv false]).flatten=(Zbh bcd (List.replicate n false)).map .c:=by
  intro n;induction n with
  |zero=>rfl
  |succ n ih=>
   simp only[List.replicate_succ,List.flatten_cons,ih,ZcK];rfl
 rw[this];simp[Zaf]
theorem ZuX:FSpec Tryz.prog 168 [.c (ZbR []),iv 0,iv 0,.fn 110 []] (.tup []):=by
 have w0:IntKind.i64.wrap (0+1)=1:=by decide
 refine Zac Zzh (Nat.le_refl _) (by decide) fun C hP hN hC hL=> ?_;rw[Zad]
 simp only[ZrR,ZbR,List.map_nil];refine vW w0 ?_;refine Zax ZlK [] (fun _:Unit=>True) (fun _=>0) (fun _=>[(8,iv 1)]) (fun _=>[]) () trivial ?_ ?_
 ·exact Zaz
 ·rintro - -;simp only[go_sem];refine vR ?_;(refine vC ?_ ?_<;>intro h)
  ·simp at h
  ·(refine ZbE ?_;simp only[go_sem])
   exact ⟨trivial,_,rfl,AVle.of rfl⟩
theorem ZnX:FSpec Tryz.prog 141 [.c (ZbR []),iv 0,.fn 110 []] (.tup []):=by
 refine Zac Zzf (Nat.le_refl _) (by decide) fun C hP hN hC hL=> ?_;rw[Zad]
 simp only[ZrP,ZbR,List.map_nil];refine vR ?_;refine Zax ZlI [] (fun _:Unit=>True) (fun _=>0) (fun _=>[(7,iv 0),(8,iv 20)]) (fun _=>[]) () trivial ?_ ?_
 ·exact Zaz
 ·rintro - -;simp only[go_sem];refine vR ?_;(refine vC ?_ ?_<;>intro h)
  ·simp at h
  ·(refine ZbE ?_;simp only[go_sem])
   refine vR ?_;(refine Zau (ZuX) ?_;simp only[go_sem,hP];refine vQ ?_;refine vR ?_)
   refine Zax ZlJ [] (fun _:Unit=>True) (fun _=>0) (fun _=>[(6,iv 20)]) (fun _=>[]) () trivial ?_ ?_
   ·exact Zaz
   ·rintro - -;simp only[go_sem];refine vR ?_;(refine vC ?_ ?_<;>intro h)
    ·simp at h
    ·(refine ZbE ?_;simp only[go_sem])
     exact ⟨trivial,_,rfl,AVle.of rfl⟩
theorem Zs2:FSpec Tryz.prog 109 [.c (ZbR []),.fn 110 []] (.tup []):=by
 refine Zac Zzc (Nat.le_refl _) (by decide) fun C hP hN hC hL=> ?_;rw[Zad]
 simp only[ZrM,ZbR,List.map_nil];(repeat (refine vV ?_;(try simp only[go_sem,hP,List.length_nil,Int.natCast_zero]);refine vQ ?_))
 (refine Zau (ZnX) ?_;simp only[go_sem,hP];refine vQ ?_;refine vR ?_)
 exact ⟨_,rfl,AVle.of rfl⟩
set_option maxRecDepth 20000 in
set_option maxHeartbeats 16000000 in
theorem goes54e {t:Tray} (ht:TrayOk t) (hp:t.pres=[]):FSpec Tryz.prog 71 [t.av] (Zjr t).run:=by
 have hn6:=ht.n6;have hnl:t.recs.length=t.n:=rfl;have hat:=ht.at_;have hmax:maxLen=9223372036854775807:=rfl;have w1:=w64 (n:=2*(t.n:Int)) (by omega) (by omega);have ew:(2*(t.n:Int)).toNat=2*t.n:=by omega
 have hway:Zi3 (t.way==1)=t.way:=by rcases ht.way with h|h<;>rw[h]<;>rfl
 have hg:Zjr t=ZdZ t []:=by unfold Zjr;rw[hp];rfl
 have hcl:=Zmk ([]:List Pr) (by simp);refine Zac c71 (Nat.le_refl _) (by decide) fun C hP hN hC hL=> ?_;rw[Zad]
 have htl:=tail54 hP ht (q:=[]) (by rw[hp]) List.Pairwise.nil;rw[←hg] at htl;simp only[ir71,Tray.av,hp];have hat2:(((t.at_.toNat:Nat):Int))=t.at_:=by omega
 simp only[Zqw,Zp3,Zcn,hway,hp,hat2,List.map_nil] at htl;(repeat (refine vV ?_;(try simp only[go_sem,hP,ZaO,List.length_map,hnl,w1,ew,Zgs]);refine vQ ?_))
 refine Za0 hcl rfl rfl rfl rfl rfl ?_;simp only[go_sem,hP];refine vQ ?_;refine Zc2 19 11 81 129 4 (by decide) (by decide) (by decide) rfl rfl rfl ?_;simp only[go_sem];refine Zc2 19 12 82 121 2 (by decide) (by decide) (by decide) rfl rfl rfl ?_;simp only[go_sem];(repeat (refine vV ?_;(try simp only[go_sem,hP,ZbR,List.map_nil]);refine vQ ?_))
 refine ZlB Zs2 rfl rfl rfl rfl rfl ?_;simp only[go_sem,hP];refine vQ ?_;exact ZaL (Zai (by simp only[go_sem];exact Zam) (by simp only[go_sem];exact Zaa)) htl
theorem ZsE (l:List Pr):grp 2 l.length ((Zbh Pr.cds l).take (l.length*2))=l.map Pr.cds:=Zep ZeM l
theorem ZsD (l:List Pr):(l.length*2≤(Zbh Pr.cds l).length)=True:=by rw[Zck ZeM];simp
set_option maxRecDepth 20000 in
set_option maxHeartbeats 16000000 in
theorem goes54n {t:Tray} (ht:TrayOk t) (hp:t.pres≠[]):FSpec Tryz.prog 71 [t.av] (Zjr t).run:=by
 have hn6:=ht.n6;have hnl:t.recs.length=t.n:=rfl;have hat:=ht.at_;have hmax:maxLen=9223372036854775807:=rfl;have w1:=w64 (n:=2*(t.n:Int)) (by omega) (by omega);have ew:(2*(t.n:Int)).toNat=2*t.n:=by omega
 have hway:Zi3 (t.way==1)=t.way:=by rcases ht.way with h|h<;>rw[h]<;>rfl
 have hpl:0<t.pres.length:=List.length_pos_iff.2 hp;have h13:=ht.p13;have hg:Zjr t=ZdZ t (Zf7 t.pres):=rfl;refine Zac W.c71 (Nat.le_refl _) (by decide) fun C hP hN hC hL=> ?_
 have htl:=tail54 hP ht (q:=Zf7 t.pres) (ZgQ t.pres) (ZiQ t.pres);rw[←hg] at htl;simp only[W.ir71,Tray.av];have hat2:(((t.at_.toNat:Nat):Int))=t.at_:=by omega
 simp only[Zqw,Zp3,Zcn,hway,hat2,List.map_nil] at htl;(repeat (refine vV ?_;(try simp only[go_sem,hP,ZaO,List.length_map,hnl,w1,ew,Zgs]);refine vQ ?_))
 refine Zp9 (ZoI t.pres (by omega) hp) (by decide) rfl rfl rfl rfl rfl ?_;rintro res os ⟨cap,j,h1,h2,h3,rfl,rfl⟩;refine ⟨_,.vw 2 7 0 t.pres.length cap,.box (Zaf Pr.cds t.pres j),rfl,rfl,by simp only[Ob.back,back_cellsG];rfl,?_⟩;simp only[go_sem,hP];refine vQ ?_;refine Zc2 19 11 81 129 4 (by decide) (by decide) (by decide) rfl rfl rfl ?_;simp only[go_sem];refine Zc2 19 12 82 121 2 (by decide) (by decide) (by decide) rfl rfl rfl ?_;simp only[go_sem];refine vR ?_;refine Zas [7] (ZwO (jk:=j) hpl (by omega) rfl (fun p hp=>(ht.pres p hp).2)) rfl rfl rfl (by decide) rfl (by simp only[go_sem,ZaA,Ob.lend,AV.lend,AV.lendL]) ?_;rintro r l' ⟨rfl,l,hl,rfl⟩;refine ⟨_,_,rfl,(by simp only[Zay,Ob.back,back_cellsG];rfl),?_⟩;simp only[go_sem,hP,Zab];have hso:arr t.pres l=Zf7 t.pres:=by rw[ZgH hl];rfl
 rw[hso];have hSl:=ZnW t.pres;have hgr:=ZsE (Zf7 t.pres);have hfl:=ZsD (Zf7 t.pres);rw[hSl] at hgr hfl;refine Zef 7 (ds:=Zbh Pr.cds (Zf7 t.pres)) (junk:=List.replicate j .non) rfl ?_;simp only[go_sem,hfl,hgr];exact ZaL (Zai (by simp only[go_sem];exact Zam) (by simp only[go_sem];exact Zaa)) htl
theorem ZuT {t:Tray} (ht:TrayOk t):FSpec Tryz.prog 71 [t.av] (Zjr t).run:=by
 by_cases hp:t.pres=[]
 ·exact goes54e ht hp
 ·exact goes54n ht hp
end Go.Proofs.YtcggfogkfhlmlaaGreatDoor
namespace Go.Proofs.YtcggfogkfhlmlaaGreatDoor
open Go Go.V
attribute [local go_sem] Nat.reduceEqDiff Nat.reduceAdd Nat.reduceMul reduceIte Nat.reduceLeDiff Nat.reduceLT Nat.reduceBEq reduceCtorEq
def ZcA (t:Tray):Int:=if t.ok then (if t.pres.length=0 then 3 else 0) else 20
theorem Ziu {t:Tray} (h:ZcA t=0):t.ok=true∧t.pres.length≠0:=by
 unfold ZcA at h;cases hok:t.ok
 ·simp[hok] at h
 ·refine ⟨rfl,fun h0=> ?_⟩;simp[hok,h0] at h
def Zt2 (t:Tray):Int×Int:=if ZcA t=0 then ((Zjr t).end_,0) else (0,ZcA t)
-- K113_1: changed and kept: [8]
abbrev Ztj:VC:=(.seq (.seq (.ops [JSm 6 0,JSn 7 6,JSi 8 0]) (.block 0 (.loop (.seq (.ops [JSb 9 .lss 8 7]) (.seq (.cond (.t 9) .skip (.exit 0)) (.seq (.block 1 (.seq (.ops [JSm 10 8,JSm 5 10]) (.seq (.ops [JSm 11 1,JSm 12 0,JSm 13 5,JSa 14 2 12 13,JSL 15 2 14,JS 16 (.call (.t 11) [.t 15])]) (.cond (.t 16) (.seq (.ops [JSm 17 5,JSm 4 17]) .ret) .skip)))) (.ops [JSk 18 .add 8 1,JSm 8 18]))))))) (.seq (.ops [JSi 4 (-1)]) .ret))
def Zya:FC:=⟨2,19,[.t 4],(.seq (.ops [JSi 4 0]) Ztj)⟩
def Zyd:FC:=⟨1,13,[.t 2],(.seq (.ops [JS 1 (.box 5 (.t 0)),JSi 2 0]) (.seq (.seq (.ops [JSL 4 5 1,JSc 5 73 [.t 4],JSm 3 5]) (.seq (.ops [JSm 6 3,JSk 7 .neq 6 0]) (.cond (.t 7) (.seq (.ops [JSm 8 3,JSm 2 8]) .ret) .skip))) (.seq (.seq (.ops [JSf 9 4 1,JSl 10 9,JSn 11 10,JSk 12 .eql 11 0]) (.cond (.t 12) (.seq (.ops [JSi 2 3]) .ret) .skip)) (.seq (.ops [JSi 2 0]) .ret))))⟩
def Zyc:FC:=⟨1,13,[.t 2,.t 3],(.seq (.ops [JS 1 (.box 5 (.t 0)),JSi 2 0,JSi 3 0]) (.seq (.seq (.ops [JSL 5 5 1,JSc 6 70 [.t 5],JSm 4 6]) (.seq (.ops [JSm 7 4,JSk 8 .neq 7 0]) (.cond (.t 8) (.seq (.ops [JSm 9 4,JSi 2 0,JSm 3 9]) .ret) .skip))) (.seq (.ops [JSL 10 5 1,JSc 11 71 [.t 10],JS 12 (.fld true 1 3 (.t 11)),JSm 2 12,JSi 3 0]) .ret)))⟩
theorem ZxZ:Zao Tryz.prog [] 113=some Zya:=by kernel_rfl
theorem c70:Zao Tryz.prog [] 70=some Zyd:=by kernel_rfl
theorem c27:Zao Tryz.prog [] 27=some Zyc:=by kernel_rfl
theorem Znh (t:Tray):FSpec Tryz.prog 70 [t.av] (iv (ZcA t)):=by
 have hck:=check40 t;unfold ZcA;cases hok:t.ok
 ·simp only[hok,Bool.false_eq_true,if_false] at hck⊢;refine Zac c70 (Nat.le_refl _) (by decide) fun C hP hN hC hL=> ?_;rw[Zad]
  simp only[Zyd,Tray.av];refine vR ?_;(refine Zau (hck) ?_;simp only[go_sem,hP,Tray.av];refine vQ ?_;(repeat (refine vV ?_;(try simp only[go_sem,hP,Tray.av]);refine vQ ?_)))
  (refine vC ?_ ?_<;>intro h)
  ·refine vR ?_;(refine vT ?_;try exact trivial)
  ·simp at h
 ·simp only[hok,if_true] at hck⊢;refine Zac c70 (Nat.le_refl _) (by decide) fun C hP hN hC hL=> ?_;rw[Zad]
  simp only[Zyd,Tray.av];refine vR ?_;(refine Zau (hck) ?_;simp only[go_sem,hP,Tray.av];refine vQ ?_;(repeat (refine vV ?_;(try simp only[go_sem,hP,Tray.av]);refine vQ ?_)))
  (refine vC ?_ ?_<;>intro h)
  ·simp at h
  ·(repeat (refine vV ?_;(try simp only[go_sem,hP,ZbR,List.length_map]);refine vQ ?_))
   (refine vC ?_ ?_<;>intro h)
   ·have h:t.pres.length=0:=by simpa using h
    refine vR ?_;(refine vT ?_;try exact trivial)
    rw[if_pos h]
   ·have h:¬t.pres.length=0:=by simpa using h
    refine vR ?_;(refine vT ?_;try exact trivial)
    rw[if_neg h]
theorem Zx2 (t:Tray):FSpec Tryz.prog 27 [t.av] (.tup [iv (Zt2 t).1,iv (Zt2 t).2]):=by
 have hck:=Znh t;unfold Zt2;by_cases h0:ZcA t=0
 ·rw[if_pos h0];rw[h0] at hck;have hgo:=ZuT (Tray.ok_spec (Ziu h0).1).1;refine Zac c27 (Nat.le_refl _) (by decide) fun C hP hN hC hL=> ?_;rw[Zad]
  simp only[Zyc,Tray.av];refine vR ?_;(refine Zau (hck) ?_;simp only[go_sem,hP,Tray.av];refine vQ ?_;(repeat (refine vV ?_;(try simp only[go_sem,hP,Tray.av]);refine vQ ?_)))
  (refine vC ?_ ?_<;>intro h)
  ·simp at h
  ·refine vR ?_;(refine Zau (hgo) ?_;simp only[go_sem,hP,Tray.av,Cs.run];refine vQ ?_;(repeat (refine vV ?_;(try simp only[go_sem,hP,Tray.av,Cs.run]);refine vQ ?_)))
   (refine vT ?_;try exact trivial)
 ·rw[if_neg h0];have hb:(ZcA t !=0)=true:=by simpa using h0
  refine Zac c27 (Nat.le_refl _) (by decide) fun C hP hN hC hL=> ?_;rw[Zad]
  simp only[Zyc,Tray.av];refine vR ?_;(refine Zau (hck) ?_;simp only[go_sem,hP,Tray.av,hb];refine vQ ?_;(repeat (refine vV ?_;(try simp only[go_sem,hP,Tray.av,hb]);refine vQ ?_)))
  (refine vC ?_ ?_<;>intro h)
  ·refine vR ?_;(refine vT ?_;try exact trivial)
  ·simp at h
variable {tb:Obj}
abbrev ZyO:List Ins:=[JS 2 (.bld [Jz 0,Jz 0] [(0,1,(.k (Jz 100))),(1,1,(.k (Jz 90)))]),JS 3 (.bld [Jz 0,Jz 0] [(0,1,(.k (Jz 120))),(1,1,(.k (Jz 80)))]),JS 4 (.bld [Jz 0,Jz 0] [(0,1,(.k (Jz 60))),(1,1,(.k (Jz 70)))]),JS 5 (.bsl 166 2 [.t 2,.t 3,.t 4]),JS 6 (.bld [Jz 0,Jz 0] [(0,1,(.k (Jz 3)))]),JS 7 (.bld [Jz 0,Jz 0] [(0,1,(.k (Jz 4))),(1,1,(.k (Jz 10)))]),JS 8 (.bld [Jz 0,Jz 0] [(1,1,(.k (Jz 12)))]),JS 9 (.bld [Jz 0,Jz 0] [(0,1,(.k (Jz 3))),(1,1,(.k (Jz 50)))]),JS 10 (.bld [Jz 0,Jz 0] [(1,1,(.k (Jz 300)))]),JS 11 (.bsl 122 2 [.t 6,.t 7,.t 8,.t 9,.t 10]),JS 12 (.bld [J0,Jz 0,Jz 0,Jz 0,J0] [(0,1,(.t 5)),(2,1,(.k (Jz 1))),(3,1,(.k (Jz 5))),(4,1,(.t 11))]),JUs 5 0 12]
abbrev ZyP:List Ins:=[JS 13 (.bld [Jz 0,Jz 0] [(0,1,(.k (Jz 10))),(1,1,(.k (Jz 20)))]),JS 14 (.bld [Jz 0,Jz 0] [(0,1,(.k (Jz 30))),(1,1,(.k (Jz 40)))]),JS 15 (.bsl 166 2 [.t 13,.t 14]),JS 16 (.bld [Jz 0,Jz 0] [(0,1,(.k (Jz 3)))]),JS 17 (.bsl 122 2 [.t 16]),JS 18 (.bld [J0,Jz 0,Jz 0,Jz 0,J0] [(0,1,(.t 15)),(2,1,(.k (Jz (-1)))),(3,1,(.k (Jz 60))),(4,1,(.t 17))]),JUs 5 1 18]
abbrev Zy3:OT:=(.cons (JFL 19 5 0) (.br [(.cons (JFL 20 5 1) (.cons (JE (Js 5 0 19)) (.cons (JUs 5 1 20) .nil))),(.cons (JE (Js 5 0 19)) (.cons (JFL 20 5 1) (.cons (JUs 5 1 20) .nil)))]))
def Zz5:FC:=⟨0,21,[.cell 0 false 5,.cell 1 false 5],(.seq (.ops [JS 0 (.alloc [J0,Jz 0,Jz 0,Jz 0,J0]),JS 1 (.alloc [J0,Jz 0,Jz 0,Jz 0,J0])]) (.seq (.ops ZyO) (.seq (.ops ZyP) (.seq (.drw Zy3) .ret))))⟩
abbrev ZyA:List Ins:=[JS 9 (.bsl 3 1 [(.k (Jz 10)),(.k (Jz 20)),(.k (Jz 25))]),JS 10 (.bsl 3 1 [(.k (Jz 5)),(.k (Jz 10)),(.k (Jz 25))]),JS 11 (.bld [Jz 0,J0,J0] [(0,1,(.k (Jz 50))),(1,1,(.t 9)),(2,1,(.t 10))]),JS 3 (.alloc [Jz 0,J0,J0]),JUs 3 3 11]
abbrev ZyB:List Ins:=[JSL 12 3 3,JS 13 (.bsl 3 1 [(.k (Jz 0)),(.k (Jz 0)),(.k (Jz 0))]),JS 14 (.bsl 3 1 [(.k (Jz 0)),(.k (Jz 0)),(.k (Jz 0))]),JS 15 (.bsl 3 1 [(.k (Jz 0)),(.k (Jz 0)),(.k (Jz 0))]),JS 16 (.bld [Jz 0,J0,J0,J0,J0,J0,Jz 0,Jz 0] [(0,3,(.t 12)),(3,1,(.t 13)),(4,1,(.t 14)),(5,1,(.t 15))]),JSL 17 5 1,JS 18 (.bld [Jz 0,J0,J0,J0,J0,J0,Jz 0,Jz 0,Jz 0,Jz 0,J0,Jz 0,Jz 0,Jz 0,J0] [(0,8,(.t 16)),(10,5,(.t 17))]),JUs 15 0 18]
def ZzC:FC:=⟨0,19,[.cell 0 false 15],(.seq (.ops [JS 0 (.alloc [Jz 0,J0,J0,J0,J0,J0,Jz 0,Jz 0,Jz 0,Jz 0,J0,Jz 0,Jz 0,Jz 0,J0])]) (.seq (.ops [JSc 5 98 [],JSm 4 5,JSe 6 4 0,JSe 7 4 1,JS 1 (.alloc [J0,Jz 0,Jz 0,Jz 0,J0]),JS 2 (.alloc [J0,Jz 0,Jz 0,Jz 0,J0]),JUs 5 1 6,JUs 5 2 7]) (.seq (.ops [JSf 8 4 1,JN (.st 1 (.t 8) (.k J0))]) (.seq (.ops ZyA) (.seq (.ops ZyB) .ret)))))⟩
theorem c98:Zao Tryz.prog [] 98=some Zz5:=by kernel_rfl
theorem c51:Zao Tryz.prog [] 51=some ZzC:=by kernel_rfl
def exT:Tray:=⟨[⟨100,90⟩,⟨120,80⟩,⟨60,70⟩],0,1,5,[⟨3,0⟩,⟨4,10⟩,⟨0,12⟩,⟨3,50⟩,⟨0,300⟩]⟩
def exU:Tray:=⟨[⟨10,20⟩,⟨30,40⟩],0,-1,60,[⟨3,0⟩]⟩
theorem Zmu:FSpec Tryz.prog 98 [] (.tup [exT.av,exU.av]):=by
 refine Zac c98 (Nat.le_refl _) (by decide) fun C hP hN hC hL=> ?_;rw[Zad]
 simp only[Zz5];refine vR ?_;refine Zbx ?_;simp only[go_sem,hP];(repeat' (refine And.intro ?_ ?_))
 all_goals (first|omega|skip)
 all_goals (refine vR ?_)
 all_goals ((refine vT ?_;try exact trivial))
def exB:Bar:=⟨⟨⟨50,[10,20,25],[5,10,25]⟩,[0,0,0],[0,0,0],[0,0,0],0,0⟩,0,0,⟨[⟨100,90⟩,⟨120,80⟩,⟨60,70⟩],0,1,5,[]⟩⟩
theorem Zmt:FSpec Tryz.prog 51 [] exB.av:=by
 have h:=Zmu;simp only[exT,exU,Tray.av,ZaO,ZbR,List.map_cons,List.map_nil,Rec.cds,Pr.cds] at h;refine Zac c51 (Nat.le_refl _) (by decide) fun C hP hN hC hL=> ?_;rw[Zad]
 simp only[ZzC];refine vR ?_;(refine Zau (h) ?_;simp only[go_sem,hP];refine vQ ?_;refine vR ?_)
 (refine Zak ?_;simp only[Zaq,inQ,ZgY,ZcN,Zae,ZaI];simp only[go_sem,ZaH,AV.port,AV.portL,exists_eq_left'])
 refine AVle.agg ?_;(repeat' (first|exact AVles.refl []|exact AVle.refl _|exact AVle.nil 2|refine AVles.cons ?_ ?_))
theorem Zc5 {b:Bar} (h:Zcr b=true):BarLn b:=by
 unfold Zcr at h;simp only[Bool.and_eq_true] at h;have h1:=ZeF h.1;obtain ⟨h2,h3⟩:=Tray.ok_spec h.2.1;have e1:=h1.wh.nl;have e2:=h1.wh.cl;have e3:=h1.fl;have e4:=h1.ml;have e5:=h1.sl;have e6:=h2.n6;unfold Tray.n at e6;exact ⟨by omega,by omega,by omega,by omega,by omega,by omega,by omega⟩
def Bar.avsV (b:Bar) (f m s:AV):List AV:=[iv b.box.wh.ro,.c (Zaj b.box.wh.no),.c (Zaj b.box.wh.co),f,m,s,iv b.box.pl,iv b.box.sk,iv b.pl,iv b.cr,.c (ZaO b.tray.recs),iv b.tray.at_,iv b.tray.way,iv b.tray.step,.c (ZbR b.tray.pres)]
def Zdj (l:List Int) (g:Nat×Nat):Prop:=l.length≤g.1∧g.1≤maxLen∧g.1≤l.length+g.2
def wV0 (l:List Int) (n m k cap:Nat):AV:=if m<k then .vw 1 n 0 l.length cap else .c (Zaj l)
def wO0 (l:List Int) (n m k j:Nat) (o:Nat→Ob):Nat→Ob:=if m<k then upd o n (.box (Zaf zc l j)) else o
set_option maxHeartbeats 1000000 in
theorem copiedV {b:Bar} (hb:BarLn b) (n1:b.box.fo≠[]) (n2:b.box.ma≠[]) (n3:b.box.sl≠[]):Za3 Tryz.prog 92 [b.av] (fun r os=>∃g1 g2 g3,Zdj b.box.fo g1∧Zdj b.box.ma g2∧Zdj b.box.sl g3∧r= .agg (b.avsV (.vw 1 1000 0 b.box.fo.length g1.1) (.vw 1 1001 0 b.box.ma.length g2.1) (.vw 1 1002 0 b.box.sl.length g3.1))∧os=[.box (Zaf zc b.box.fo g1.2),.box (Zaf zc b.box.ma g2.2),.box (Zaf zc b.box.sl g3.2)]):=by
 refine ZaK c92 (Nat.le_refl _) (by decide) fun C hP hN hC hL=> ?_;rw[Zad]
 simp only[Zyf,Bar.av,Bar.avs];refine vR ?_;refine Ze9 (e:=195) (n:=5) (sz:=1) (z:=List.replicate 5 (.c (.raw (.pointer none)))) (ps:=[(0,1,.t 7),(1,1,.t 10),(2,1,.t 12),(3,1,.t 14),(4,1,.t 16)]) (r:=[.bp 1 1,.bp 1 2,.bp 1 3,.bp 1 4,.bp 1 5]) (by kernel_rfl) (by kernel_rfl) (by kernel_rfl) rfl ?_ rfl ?_ ?_
 ·intro i q hq;have:i=0∨i=1∨i=2∨i=3∨i=4∨5≤i:=by omega
  rcases this with rfl|rfl|rfl|rfl|rfl|h
  case inr.inr.inr.inr.inr=>rw[List.getElem?_eq_none (by exact h)] at hq;cases hq
  all_goals (cases hq;exact ⟨_,rfl,rfl⟩)
 ·simp only[go_sem]
 simp only[go_sem,hP];refine vR ?_;refine ZaQ (fun p:Nat×(Nat×Nat)×(Nat×Nat)×(Nat×Nat)=>⟨upd (upd (upd (upd e0 1 (.bp 1 0)) 2 (.bp 2 0)) 17 (.agg [.bp 1 1,.bp 1 2,.bp 1 3,.bp 1 4,.bp 1 5])) 18 (iv p.1),upd (upd (wO0 b.box.sl 127 4 p.1 p.2.2.2.2 (wO0 b.box.ma 126 3 p.1 p.2.2.1.2 (wO0 b.box.fo 125 2 p.1 p.2.1.2 o0))) 1 (.box (b.avsV (wV0 b.box.fo 125 2 p.1 p.2.1.1) (wV0 b.box.ma 126 3 p.1 p.2.2.1.1) (wV0 b.box.sl 127 4 p.1 p.2.2.2.1)))) 2 (.box [iv 0,.c (.raw (.slice none 0 0)),.c (.raw (.slice none 0 0)),.c (.raw (.slice none 0 0)),.c (.raw (.slice none 0 0)),.c (.raw (.slice none 0 0)),iv 0,iv 0,iv 0,iv 0,.c (.raw (.slice none 0 0)),iv 0,iv 0,iv 0,.c (.raw (.slice none 0 0))])⟩) (fun p=>p.1≤5∧(2<p.1→Zdj b.box.fo p.2.1)∧(3<p.1→Zdj b.box.ma p.2.2.1)∧(4<p.1→Zdj b.box.sl p.2.2.2)) (fun p=>5 -p.1) (0,(0,0),(0,0),(0,0)) ⟨Nat.zero_le _,(by simp),(by simp),(by simp)⟩ ?_ ?_
 ·refine Zai (by simp only[go_sem];exact Zam) (by unfold Bar.avsV wV0 wO0;simp only[go_sem];exact Zaa)
 rintro ⟨k,g1,g2,g3⟩ ⟨hk,q1,q2,q3⟩;simp only at hk q1 q2 q3⊢;refine vR ?_;(refine vC ?_ ?_<;>intro h)
 ·have hi:k<5:=by simp at h;omega
  (refine Zcb ?_;simp only[go_sem])
  refine ZaG (Zcs (ZaG ?_));have w1:=w64 (n:=(k:Int)+1) (by omega) (by omega);have:k=0∨k=1∨k=2∨k=3∨k=4:=by omega
  have h1:=ZdA _ hb.no;have h2:=ZdA _ hb.co;rcases this with rfl|rfl|rfl|rfl|rfl
  ·(unfold Bar.avsV wV0 wO0;simp only[go_sem];(refine ZcH ?_;simp only[go_sem,hP];refine vQ ?_);refine ZbM (e:=195) (n:=5) (x':=.t 17) (i':=.t 18) (k:=.i64) (j:=_) (by kernel_rfl) (by kernel_rfl) (by kernel_rfl) rfl rfl rfl rfl rfl rfl (by omega) rfl ?_;simp only[go_sem,hP];refine vR ?_)
   refine Zau h1 ?_;simp only[go_sem,hP];refine vQ ?_;refine vW w1 ?_;refine ⟨(1,g1,g2,g3),⟨by omega,(by simp),(by simp),(by simp)⟩,by simp,Zai (by simp only[go_sem];exact Zam) (by simp only[go_sem];exact Zaa)⟩
  ·(unfold Bar.avsV wV0 wO0;simp only[go_sem];(refine ZcH ?_;simp only[go_sem,hP];refine vQ ?_);refine ZbM (e:=195) (n:=5) (x':=.t 17) (i':=.t 18) (k:=.i64) (j:=_) (by kernel_rfl) (by kernel_rfl) (by kernel_rfl) rfl rfl rfl rfl rfl rfl (by omega) rfl ?_;simp only[go_sem,hP];refine vR ?_)
   refine Zau h2 ?_;simp only[go_sem,hP];refine vQ ?_;refine vW w1 ?_;refine ⟨(2,g1,g2,g3),⟨by omega,(by simp),(by simp),(by simp)⟩,by simp,Zai (by simp only[go_sem];exact Zam) (by simp only[go_sem];exact Zaa)⟩
  ·(unfold Bar.avsV wV0 wO0;simp only[go_sem];(refine ZcH ?_;simp only[go_sem,hP];refine vQ ?_);refine ZbM (e:=195) (n:=5) (x':=.t 17) (i':=.t 18) (k:=.i64) (j:=_) (by kernel_rfl) (by kernel_rfl) (by kernel_rfl) rfl rfl rfl rfl rfl rfl (by omega) rfl ?_;simp only[go_sem,hP];refine vR ?_)
   (refine ZaR (Zg6 _ hb.fo n1) rfl rfl rfl rfl ?_;rintro r os ⟨cap,j,k1,k2,k3,rfl,rfl⟩;refine ⟨[125],_,_,by simp,rfl,rfl,rfl,(by simp only[go_sem,Zay,Ob.back,AV.back,AV.backL,back_cellsG];rfl),?_⟩;simp only[go_sem,hP,Zab];refine vQ ?_;refine vW w1 ?_)
   refine ⟨(3,(cap,j),g2,g3),⟨by omega,(fun _=>⟨k1,k2,k3⟩),(by simp),(by simp)⟩,by simp,Zai (by simp only[go_sem];exact Zam) (by simp only[go_sem];exact Zaa)⟩
  ·(unfold Bar.avsV wV0 wO0;simp only[go_sem];(refine ZcH ?_;simp only[go_sem,hP];refine vQ ?_);refine ZbM (e:=195) (n:=5) (x':=.t 17) (i':=.t 18) (k:=.i64) (j:=_) (by kernel_rfl) (by kernel_rfl) (by kernel_rfl) rfl rfl rfl rfl rfl rfl (by omega) rfl ?_;simp only[go_sem,hP];refine vR ?_)
   (refine ZaR (Zg6 _ hb.ma n2) rfl rfl rfl rfl ?_;rintro r os ⟨cap,j,k1,k2,k3,rfl,rfl⟩;refine ⟨[126],_,_,by simp,rfl,rfl,rfl,(by simp only[go_sem,Zay,Ob.back,AV.back,AV.backL,back_cellsG];rfl),?_⟩;simp only[go_sem,hP,Zab];refine vQ ?_;refine vW w1 ?_)
   refine ⟨(4,g1,(cap,j),g3),⟨by omega,(fun _=>q1 (by omega)),(fun _=>⟨k1,k2,k3⟩),(by simp)⟩,by simp,Zai (by simp only[go_sem];exact Zam) (by simp only[go_sem];exact Zaa)⟩
  ·(unfold Bar.avsV wV0 wO0;simp only[go_sem];(refine ZcH ?_;simp only[go_sem,hP];refine vQ ?_);refine ZbM (e:=195) (n:=5) (x':=.t 17) (i':=.t 18) (k:=.i64) (j:=_) (by kernel_rfl) (by kernel_rfl) (by kernel_rfl) rfl rfl rfl rfl rfl rfl (by omega) rfl ?_;simp only[go_sem,hP];refine vR ?_)
   (refine ZaR (Zg6 _ hb.sl n3) rfl rfl rfl rfl ?_;rintro r os ⟨cap,j,k1,k2,k3,rfl,rfl⟩;refine ⟨[127],_,_,by simp,rfl,rfl,rfl,(by simp only[go_sem,Zay,Ob.back,AV.back,AV.backL,back_cellsG];rfl),?_⟩;simp only[go_sem,hP,Zab];refine vQ ?_;refine vW w1 ?_)
   refine ⟨(5,g1,g2,(cap,j)),⟨by omega,(fun _=>q1 (by omega)),(fun _=>q2 (by omega)),(fun _=>⟨k1,k2,k3⟩)⟩,by simp,Zai (by simp only[go_sem];exact Zam) (by simp only[go_sem];exact Zaa)⟩
 ·have hk5:k=5:=by simp at h;omega
  subst hk5;have h6:=Zmj _ hb.rc;have p1:=q1 (by omega);have p2:=q2 (by omega);have p3:=q3 (by omega);unfold Bar.avsV wV0 wO0;simp only[go_sem];refine vR ?_;(refine Za0 (h6) rfl rfl rfl rfl rfl ?_;simp only[go_sem,hP];refine vQ ?_;refine vR ?_)
  refine Zau (Zmk _ hb.pr) ?_;simp only[go_sem,hP];refine vQ ?_;refine vR ?_;(refine Zak ?_;simp only[Zaq,inQ,Zbe,ZaP,Zae,ZaI];simp only[go_sem,ZaH])
  refine ⟨[125,126,127],_,_,_,by simp,by simp,rfl,AVle.refl _,(by simp only[go_sem,ZaA,Ob.lend]),g1,g2,g3,p1,p2,p3,rfl,rfl⟩
theorem ZcG {C:Ctx} {is:List Ins} {K:St→Prop} {env:Nat→AV} {own:Nat→Ob} (n:Nat) {l:List Int} {j:Nat} (hb:own n= .box (Zaf zc l j)) (h:ZgZ C is K ⟨Zj6 n (Zbh zc l) env,ZdO n (Zbh zc l) own⟩):ZgZ C is K ⟨env,own⟩:=ZlP n (by rw[hb];unfold Zaf;rfl) h
def Bar.obsV (b d:Bar) (g1 g2 g3:Nat×Nat):List Ob:=[.box (b.avsV (.vw 1 1001 0 d.box.fo.length g1.1) (.vw 1 1002 0 d.box.ma.length g2.1) (.vw 1 1003 0 d.box.sl.length g3.1)),.box (Zaf zc b.box.fo g1.2),.box (Zaf zc b.box.ma g2.2),.box (Zaf zc b.box.sl g3.2)]
def ZjW (b:Bar) (g1 g2 g3:Nat×Nat) (o:Option Bar) (r:AV) (l':List Ob):Prop:=
 match o with
 |none=>r= .c (.bool false)∧l'=b.obsV b g1 g2 g3
 |some b'=>r= .c (.bool true)∧l'=b'.obsV b g1 g2 g3
def ZxO (f:Nat) (ns:List Int) (b:Bar) (o:Option Bar):Prop:=∀g1 g2 g3,Zdj b.box.fo g1→Zdj b.box.ma g2→Zdj b.box.sl g3→ZaE Tryz.prog f [.bp 1000 0,.c (Zaj ns)] (b.obsV b g1 g2 g3) [] (ZjW b g1 g2 g3 o)
theorem Ze6 {b:Bar} (hb:BarLn b) (n1:b.box.fo≠[]) (n2:b.box.ma≠[]) (n3:b.box.sl≠[]) {s w:List UInt8} {ns:List Int} (hs:s.length≤1000) (hp:Za4 s=some (w,ns)) {m:Int} {f:Nat} (hw:ZbX w=some ⟨m,206,f,none⟩) (o:Option Bar) (hlen:∀b',o=some b'→b'.box.fo.length=b.box.fo.length∧b'.box.ma.length=b.box.ma.length∧b'.box.sl.length=b.box.sl.length) (hf:ZxO f ns b o):Zb3 tb b s (Zgv b o):=by
 have hcp:=copiedV hb n1 n2 n3;simp only[Bar.av,Bar.avs,Bar.avsV] at hcp;unfold Zb3;refine Zat c93 (by first|simp|exact Nat.le_of_ble_eq_true rfl) (Nat.le_refl _) (by decide) (by decide) fun C hP hN hC hL=> ?_;rw[Zap,Zaw (by first|simp|exact Nat.le_of_ble_eq_true rfl)];simp only[Zt3,Zco,Za1,List.map_nil,List.map_cons,Nat.reduceAdd,]
 simp only[Bar.avs];refine vR ?_;refine ZaR (parse53 hs) rfl rfl rfl rfl ?_;intro r os h;unfold ZbJ at h;rw[hp] at h;obtain ⟨q,e,he,rfl,rfl⟩:=h;rw[hw] at he;cases he;refine ⟨[101,102,103,104,105,106,107,108],_,_,by simp,rfl,rfl,rfl,rfl,?_⟩;simp only[go_sem,hP,Zab];refine vQ ?_;refine vR ?_;(refine vC ?_ ?_<;>intro h)
 ·cases h
 ·clear h;refine vR ?_;refine ZaR hcp rfl rfl rfl rfl ?_;rintro r os ⟨g1,g2,g3,k1,k2,k3,rfl,rfl⟩;have hps:=hf g1 g2 g3 k1 k2 k3;refine ⟨[110,111,112],_,_,by simp,rfl,rfl,rfl,(by simp only[go_sem,Zay,Ob.back,AV.back,AV.backL,back_cellsG];rfl),?_⟩;simp only[go_sem,hP,Zab];refine vQ ?_;refine vR ?_;refine ZnG (t:=204) (t':=206) (z:=.nilFunc) (x':=.t 26) (u:=fnV f []) (vr:=.c (.raw .nilFunc)) (by decide) (by kernel_rfl) (by kernel_rfl) rfl rfl rfl (fun w M loc=>by simp only[RepA,RepC];exact ⟨trivial,rfl⟩) ?_;simp only[go_sem,hP];refine vR ?_;(refine vC ?_ ?_<;>intro h)
  ·cases h
  ·clear h;refine vR ?_;refine Zhv (t:=206) (x':=.t 26) (u:=fnV f []) (vr:=.fn f []) (by kernel_rfl) rfl rfl rfl (fun w M loc=>Zem w M loc f) ?_;simp only[go_sem,hP];refine vR ?_;(refine vC ?_ ?_<;>intro h)
   ·refine ZaG ?_;(refine ZcH ?_;simp only[go_sem,hP];refine vQ ?_)
    refine ZaG ?_;(refine ZdS 3 ?_;simp only[List.take_succ_cons,List.take_zero,List.take_nil,List.drop_succ_cons,List.drop_zero,List.drop_nil];simp only[go_sem,hP];refine vQ ?_)
    refine Zas [8,110,111,112] hps rfl rfl rfl (by decide) rfl (by unfold Bar.obsV Bar.avsV;simp only[go_sem,ZaA,Ob.lend,AV.lend,AV.lendL,lend_cellsG];first|done|rfl) ?_;intro r l' h;unfold ZjW at h;cases hq:o with
    |none=>
     rw[hq] at h;obtain ⟨rfl,rfl⟩:=h;refine ⟨_,_,rfl,(by unfold Bar.obsV Bar.avsV;simp only[Zay,Ob.back,AV.back,AV.backL,back_cellsG];rfl),?_⟩;simp only[go_sem,hP,Zab];refine ZcG 110 rfl ?_;simp only[go_sem,ZcR,Nat.le_refl,ZcQ];refine ZcG 111 rfl ?_;simp only[go_sem,ZcR,Nat.le_refl,ZcQ];refine ZcG 112 rfl ?_;simp only[go_sem,ZcR,Nat.le_refl,ZcQ];refine Zdn ?_;simp only[go_sem,hP];refine vQ ?_;(refine ZaC ?_;simp only[go_sem,hP];refine vQ ?_;refine vR ?_)
     (refine vC ?_ ?_<;>intro h)
     ·refine vR ?_;(refine Zak ?_;simp only[Zaq,inQ,ZaB,Zar,Zae,ZaI];simp only[go_sem,ZaH,AV.keepP,AV.keepPL];refine ⟨_,[.box b.avs,(tabO tb)],rfl,Zag rfl rfl ?_ ?_ rfl,?_⟩)
      ·unfold Bar.avs;simp only[go_sem,Zal,Ob.keepP,AV.keepP,AV.keepPL]
      ·trivial
      ·exact ⟨rfl,rfl⟩
     ·cases h
    |some b'=>
     rw[hq] at h;obtain ⟨rfl,rfl⟩:=h;obtain ⟨l1,l2,l3⟩:=hlen b' hq;refine ⟨_,_,rfl,(by unfold Bar.obsV Bar.avsV;simp only[Zay,Ob.back,AV.back,AV.backL,back_cellsG];rfl),?_⟩;simp only[go_sem,hP,Zab];rw[←l1,←l2,←l3];refine ZcG 110 rfl ?_;simp only[go_sem,ZcR,Nat.le_refl,ZcQ];refine ZcG 111 rfl ?_;simp only[go_sem,ZcR,Nat.le_refl,ZcQ];refine ZcG 112 rfl ?_;simp only[go_sem,ZcR,Nat.le_refl,ZcQ];refine Zdn ?_;simp only[go_sem,hP];refine vQ ?_;have hck:=check25 b';simp only[Bar.av,Bar.avs] at hck;(refine Za9 (fun hG=>hck) ?_;simp only[go_sem,hP];refine vQ ?_;refine vR ?_)
     cases hB:Zcr b' with
     |true=>
      have he:ZeT b'=0:=by unfold ZeT;rw[if_pos hB]
      have hx:Zgv b (some b')=(ZhF,b'):=by unfold Zgv;simp only[hB,if_true]
      rw[he,hx];(refine vC ?_ ?_<;>intro h)
      ·cases h
      ·refine vR ?_;(refine Zak ?_;simp only[Zaq,inQ,ZaB,Zar,Zae,ZaI];simp only[go_sem,ZaH,AV.keepP,AV.keepPL];refine ⟨_,[.box b'.avs,(tabO tb)],rfl,Zag rfl rfl ?_ ?_ rfl,?_⟩)
       ·unfold Bar.avs;simp only[go_sem,Zal,Ob.keepP,AV.keepP,AV.keepPL]
       ·trivial
       ·exact ⟨rfl,rfl⟩
     |false=>
      have he:ZeT b'=120:=by unfold ZeT;rw[hB];rfl
      have hx:Zgv b (some b')=(noS,b):=by unfold Zgv;simp only[hB];rfl
      rw[he,hx];(refine vC ?_ ?_<;>intro h)
      ·refine vR ?_;(refine Zak ?_;simp only[Zaq,inQ,ZaB,Zar,Zae,ZaI];simp only[go_sem,ZaH,AV.keepP,AV.keepPL];refine ⟨_,[.box b.avs,(tabO tb)],rfl,Zag rfl rfl ?_ ?_ rfl,?_⟩)
       ·unfold Bar.avs;simp only[go_sem,Zal,Ob.keepP,AV.keepP,AV.keepPL]
       ·trivial
       ·exact ⟨rfl,rfl⟩
      ·cases h
   ·cases h
def bmp (c:Bool) (l:List Int) (k:Nat):List Int:=if c then l.set k (l.getD k 0+1) else l
def ZiB (t:Nat) (b:Bar) (kind:Int):Option Bar:=
 if 0≤kind∧kind<(b.box.wh.co.length:Int)∧(Zez b.box.wh b.pl b.cr [kind]).2=0 then
  some {b with pl:=(Zez b.box.wh b.pl b.cr [kind]).1.1,cr:=(Zez b.box.wh b.pl b.cr [kind]).1.2.1,box:={b.box with pl:=b.box.pl+((Zez b.box.wh b.pl b.cr [kind]).1.2.1 -b.cr),fo:=bmp (t !=2) b.box.fo kind.toNat,ma:=bmp (t==1) b.box.ma kind.toNat,sl:=bmp (t==2) b.box.sl kind.toNat}}
 else none
def wsV (t:Nat) (b:Bar) (g1 g2 g3:Nat×Nat):List AV:=match t with
 |0=>[.vw 1 1001 0 b.box.fo.length g1.1]
 |1=>[.vw 1 1001 0 b.box.fo.length g1.1,.vw 1 1002 0 b.box.ma.length g2.1]
 |_=>[.vw 1 1003 0 b.box.sl.length g3.1]
def Zer (t:Nat):Nat:=if t==1 then 2 else 1
theorem ZxU {l:List Int} {k:Nat} (hk:k<l.length) (hx:∀n∈l,0≤n∧n≤12) (j:Nat):∃n:Int,(0≤n∧n≤12)∧(Zaf zc l j).getD k .non= .c (.int .i64 n)∧(Zaf zc l j).set k (.c (.int .i64 (n+1)))=Zaf zc (l.set k (l.getD k 0+1)) j∧(Zaf zc l j).length=l.length+j∧IntKind.i64.wrap (n+1)=n+1:=by
 have zl:∀n:Int,(zc n).length=1:=fun _=>rfl
 have hm:=hx _ (List.getElem_mem hk);have hget:=Zgu zl (l:=l) hk j 0 (d:=.int .i64 l[k]) rfl .non;have hset:=Zej zl (l:=l) hk j 0 (by decide) (.int .i64 (l[k]+1)) (l[k]+1) rfl;have hgd:l.getD k 0=l[k]:=by rw[List.getD_eq_getElem?_getD,List.getElem?_eq_getElem hk];rfl
 have hcl:=Zbl zl l j;simp only[Nat.mul_one,Nat.add_zero] at hget hset hcl;rw[hgd];exact ⟨l[k],hm,hget,hset,hcl,w64 (by omega) (by omega)⟩
def ZeW (b:Bar) (g1 g2 g3:Nat×Nat) (t p:Nat) (b':Bar) (o:Nat→Ob) (k:Nat):Nat→Ob:=
 upd (upd (upd (upd (upd o 1000 (.box (b'.avsV (.vw 1 1001 0 b.box.fo.length g1.1) (.vw 1 1002 0 b.box.ma.length g2.1) (.vw 1 1003 0 b.box.sl.length g3.1)))) 1001 (.box (Zaf zc (bmp (t !=2&&p !=0) b.box.fo k) g1.2))) 1002 (.box (Zaf zc (bmp (t==1&&p==2) b.box.ma k) g2.2))) 1003 (.box (Zaf zc (bmp (t==2&&p !=0) b.box.sl k) g3.2))) 1004 (.box (wsV t b g1 g2 g3))
theorem Zw3 {C:Ctx} (hP:C.P=Tryz.prog) {Q:Exit→St→Prop} {b b':Bar} {kind:Int} (hk:0≤kind) (k1:kind.toNat<b.box.fo.length) (k2:kind.toNat<b.box.ma.length) (k3:kind.toNat<b.box.sl.length) (x1:∀n∈b.box.fo,0≤n∧n≤12) (x2:∀n∈b.box.ma,0≤n∧n≤12) (x3:∀n∈b.box.sl,0≤n∧n≤12) {g1 g2 g3:Nat×Nat} (q1:Zdj b.box.fo g1) (q2:Zdj b.box.ma g2) (q3:Zdj b.box.sl g3) {t:Nat} (ht:t≤2)
  (hfin:WV C .ret Q ⟨upd e0 6 (.c (.bool true)),ZeW b g1 g2 g3 t (Zer t) b' o0 kind.toNat⟩):WV C Zn6 Q ⟨upd (upd (upd e0 1 (iv kind)) 2 (.vw 1 1004 0 (Zer t) (Zer t))) 6 (.c (.bool false)),ZeW b g1 g2 g3 t 0 b' o0 kind.toNat⟩:=by
 have hmx:maxLen=9223372036854775807:=rfl;obtain ⟨n1,r1,hg1,hs1,hc1,w1⟩:=ZxU k1 x1 g1.2;obtain ⟨n2,r2,hg2,hs2,hc2,w2⟩:=ZxU k2 x2 g2.2;obtain ⟨n3,r3,hg3,hs3,hc3,w3⟩:=ZxU k3 x3 g3.2;unfold Zdj at q1 q2 q3;have hki:((kind.toNat:Nat):Int)=kind:=by omega
 have ht3:t=0∨t=1∨t=2:=by omega
 rcases ht3 with rfl|rfl|rfl
 ·(try simp only[ZeW,wsV,Bar.avsV,bmp,Zer,Nat.reduceBNe,Nat.reduceBEq,Bool.and_true,Bool.true_and,Bool.and_false,Bool.false_and,Bool.false_eq_true,if_false,if_true,beq_self_eq_true,bne_self_eq_false] at hfin⊢)
  refine vR ?_;refine ZaQ (fun p:Nat=>⟨upd (upd (upd (upd (upd e0 1 (iv kind)) 6 (.c (.bool false))) 71 (.vw 1 1004 0 1 1)) 72 (iv 1)) 73 (iv p),ZeW b g1 g2 g3 0 p b' o0 kind.toNat⟩) (fun p=>p≤1) (fun p=>1 -p) 0 (Nat.zero_le _) ?_ ?_
  ·(try simp only[ZeW,wsV,Bar.avsV,bmp,Zer,Nat.reduceBNe,Nat.reduceBEq,Bool.and_true,Bool.true_and,Bool.and_false,Bool.false_and,Bool.false_eq_true,if_false,if_true,beq_self_eq_true,bne_self_eq_false] at hfin⊢)
   refine Zai (by simp only[go_sem];exact Zam) (by simp only[go_sem];exact Zaa)
  intro p hp;have hpc:p=0∨p=1:=by omega
  rcases hpc with rfl|rfl
  ·(try simp only[ZeW,wsV,Bar.avsV,bmp,Zer,Nat.reduceBNe,Nat.reduceBEq,Bool.and_true,Bool.true_and,Bool.and_false,Bool.false_and,Bool.false_eq_true,if_false,if_true,beq_self_eq_true,bne_self_eq_false] at hfin⊢)
   refine vR ?_;(refine vC ?_ ?_<;>intro h)
   ·(repeat (refine vV ?_;(try simp only[go_sem,hP,hg1,hs1,hc1,w1]);refine vQ ?_))
    refine ⟨1,by omega,by omega,?_⟩;(try simp only[ZeW,wsV,Bar.avsV,bmp,Zer,Nat.reduceBNe,Nat.reduceBEq,Bool.and_true,Bool.true_and,Bool.and_false,Bool.false_and,Bool.false_eq_true,if_false,if_true,beq_self_eq_true,bne_self_eq_false] at hfin⊢)
    refine Zai (by simp only[go_sem];exact Zam) (by simp only[go_sem];exact Zaa)
   ·exfalso;simp at h
  ·(try simp only[ZeW,wsV,Bar.avsV,bmp,Zer,Nat.reduceBNe,Nat.reduceBEq,Bool.and_true,Bool.true_and,Bool.and_false,Bool.false_and,Bool.false_eq_true,if_false,if_true,beq_self_eq_true,bne_self_eq_false] at hfin⊢)
   refine vR ?_;(refine vC ?_ ?_<;>intro h)
   ·exfalso;simp at h
   ·refine vR ?_;refine ZaL ?_ hfin;refine Zai (by simp only[go_sem];exact Zam) (by simp only[go_sem];exact Zaa)
 ·(try simp only[ZeW,wsV,Bar.avsV,bmp,Zer,Nat.reduceBNe,Nat.reduceBEq,Bool.and_true,Bool.true_and,Bool.and_false,Bool.false_and,Bool.false_eq_true,if_false,if_true,beq_self_eq_true,bne_self_eq_false] at hfin⊢)
  refine vR ?_;refine ZaQ (fun p:Nat=>⟨upd (upd (upd (upd (upd e0 1 (iv kind)) 6 (.c (.bool false))) 71 (.vw 1 1004 0 2 2)) 72 (iv 2)) 73 (iv p),ZeW b g1 g2 g3 1 p b' o0 kind.toNat⟩) (fun p=>p≤2) (fun p=>2 -p) 0 (Nat.zero_le _) ?_ ?_
  ·(try simp only[ZeW,wsV,Bar.avsV,bmp,Zer,Nat.reduceBNe,Nat.reduceBEq,Bool.and_true,Bool.true_and,Bool.and_false,Bool.false_and,Bool.false_eq_true,if_false,if_true,beq_self_eq_true,bne_self_eq_false] at hfin⊢)
   refine Zai (by simp only[go_sem];exact Zam) (by simp only[go_sem];exact Zaa)
  intro p hp;have hpc:p=0∨p=1∨p=2:=by omega
  rcases hpc with rfl|rfl|rfl
  ·(try simp only[ZeW,wsV,Bar.avsV,bmp,Zer,Nat.reduceBNe,Nat.reduceBEq,Bool.and_true,Bool.true_and,Bool.and_false,Bool.false_and,Bool.false_eq_true,if_false,if_true,beq_self_eq_true,bne_self_eq_false] at hfin⊢)
   refine vR ?_;(refine vC ?_ ?_<;>intro h)
   ·(repeat (refine vV ?_;(try simp only[go_sem,hP,hg1,hs1,hc1,w1]);refine vQ ?_))
    refine ⟨1,by omega,by omega,?_⟩;(try simp only[ZeW,wsV,Bar.avsV,bmp,Zer,Nat.reduceBNe,Nat.reduceBEq,Bool.and_true,Bool.true_and,Bool.and_false,Bool.false_and,Bool.false_eq_true,if_false,if_true,beq_self_eq_true,bne_self_eq_false] at hfin⊢)
    refine Zai (by simp only[go_sem];exact Zam) (by simp only[go_sem];exact Zaa)
   ·exfalso;simp at h
  ·(try simp only[ZeW,wsV,Bar.avsV,bmp,Zer,Nat.reduceBNe,Nat.reduceBEq,Bool.and_true,Bool.true_and,Bool.and_false,Bool.false_and,Bool.false_eq_true,if_false,if_true,beq_self_eq_true,bne_self_eq_false] at hfin⊢)
   refine vR ?_;(refine vC ?_ ?_<;>intro h)
   ·(repeat (refine vV ?_;(try simp only[go_sem,hP,hg2,hs2,hc2,w2]);refine vQ ?_))
    refine ⟨2,by omega,by omega,?_⟩;(try simp only[ZeW,wsV,Bar.avsV,bmp,Zer,Nat.reduceBNe,Nat.reduceBEq,Bool.and_true,Bool.true_and,Bool.and_false,Bool.false_and,Bool.false_eq_true,if_false,if_true,beq_self_eq_true,bne_self_eq_false] at hfin⊢)
    refine Zai (by simp only[go_sem];exact Zam) (by simp only[go_sem];exact Zaa)
   ·exfalso;simp at h
  ·(try simp only[ZeW,wsV,Bar.avsV,bmp,Zer,Nat.reduceBNe,Nat.reduceBEq,Bool.and_true,Bool.true_and,Bool.and_false,Bool.false_and,Bool.false_eq_true,if_false,if_true,beq_self_eq_true,bne_self_eq_false] at hfin⊢)
   refine vR ?_;(refine vC ?_ ?_<;>intro h)
   ·exfalso;simp at h
   ·refine vR ?_;refine ZaL ?_ hfin;refine Zai (by simp only[go_sem];exact Zam) (by simp only[go_sem];exact Zaa)
 ·(try simp only[ZeW,wsV,Bar.avsV,bmp,Zer,Nat.reduceBNe,Nat.reduceBEq,Bool.and_true,Bool.true_and,Bool.and_false,Bool.false_and,Bool.false_eq_true,if_false,if_true,beq_self_eq_true,bne_self_eq_false] at hfin⊢)
  refine vR ?_;refine ZaQ (fun p:Nat=>⟨upd (upd (upd (upd (upd e0 1 (iv kind)) 6 (.c (.bool false))) 71 (.vw 1 1004 0 1 1)) 72 (iv 1)) 73 (iv p),ZeW b g1 g2 g3 2 p b' o0 kind.toNat⟩) (fun p=>p≤1) (fun p=>1 -p) 0 (Nat.zero_le _) ?_ ?_
  ·(try simp only[ZeW,wsV,Bar.avsV,bmp,Zer,Nat.reduceBNe,Nat.reduceBEq,Bool.and_true,Bool.true_and,Bool.and_false,Bool.false_and,Bool.false_eq_true,if_false,if_true,beq_self_eq_true,bne_self_eq_false] at hfin⊢)
   refine Zai (by simp only[go_sem];exact Zam) (by simp only[go_sem];exact Zaa)
  intro p hp;have hpc:p=0∨p=1:=by omega
  rcases hpc with rfl|rfl
  ·(try simp only[ZeW,wsV,Bar.avsV,bmp,Zer,Nat.reduceBNe,Nat.reduceBEq,Bool.and_true,Bool.true_and,Bool.and_false,Bool.false_and,Bool.false_eq_true,if_false,if_true,beq_self_eq_true,bne_self_eq_false] at hfin⊢)
   refine vR ?_;(refine vC ?_ ?_<;>intro h)
   ·(repeat (refine vV ?_;(try simp only[go_sem,hP,hg3,hs3,hc3,w3]);refine vQ ?_))
    refine ⟨1,by omega,by omega,?_⟩;(try simp only[ZeW,wsV,Bar.avsV,bmp,Zer,Nat.reduceBNe,Nat.reduceBEq,Bool.and_true,Bool.true_and,Bool.and_false,Bool.false_and,Bool.false_eq_true,if_false,if_true,beq_self_eq_true,bne_self_eq_false] at hfin⊢)
    refine Zai (by simp only[go_sem];exact Zam) (by simp only[go_sem];exact Zaa)
   ·exfalso;simp at h
  ·(try simp only[ZeW,wsV,Bar.avsV,bmp,Zer,Nat.reduceBNe,Nat.reduceBEq,Bool.and_true,Bool.true_and,Bool.and_false,Bool.false_and,Bool.false_eq_true,if_false,if_true,beq_self_eq_true,bne_self_eq_false] at hfin⊢)
   refine vR ?_;(refine vC ?_ ?_<;>intro h)
   ·exfalso;simp at h
   ·refine vR ?_;refine ZaL ?_ hfin;refine Zai (by simp only[go_sem];exact Zam) (by simp only[go_sem];exact Zaa)
def Zhs (t:Nat) (b:Bar) (g1 g2 g3:Nat×Nat) (o:Option Bar) (r:AV) (l':List Ob):Prop:=
 match o with
 |none=>r= .c (.bool false)∧l'=b.obsV b g1 g2 g3++[.box (wsV t b g1 g2 g3)]
 |some b'=>r= .c (.bool true)∧l'=b'.obsV b g1 g2 g3++[.box (wsV t b g1 g2 g3)]
theorem ZoE {b:Bar} (hB:Zcr b=true):(b.box.fo.length=b.box.wh.co.length∧b.box.ma.length=b.box.wh.co.length∧b.box.sl.length=b.box.wh.co.length)∧(∀n∈b.box.fo,0≤n∧n≤12)∧(∀n∈b.box.ma,0≤n∧n≤12)∧∀n∈b.box.sl,0≤n∧n≤12:=by
 simp only[Zcr,bxB,Bool.and_eq_true,decide_eq_true_eq,Zah] at hB;obtain ⟨⟨⟨⟨⟨⟨⟨⟨h1,h2⟩,h3⟩,h4⟩,h5⟩,h6⟩,h7⟩,h8⟩,h9,h10,h11,h12,h13⟩:=hB;exact ⟨⟨(ZaX h4).1,(ZaX h5).1,(ZaX h6).1⟩,(ZaX h4).2,(ZaX h5).2,(ZaX h6).2⟩
theorem ZsC (t:Nat) (b:Bar) (g1 g2 g3:Nat×Nat):AV.prgL 7 (wsV t b g1 g2 g3)=wsV t b g1 g2 g3∧AV.prgL 39 (wsV t b g1 g2 g3)=wsV t b g1 g2 g3:=by
 unfold wsV;split<;>exact ⟨rfl,rfl⟩
theorem ZyT (b b':Bar) (g1 g2 g3:Nat×Nat) (t:Nat) (o:Nat→Ob) (k:Nat):ZeW b g1 g2 g3 t 0 b' o k=upd (upd (upd (upd (upd o 1000 (.box (b'.avsV (.vw 1 1001 0 b.box.fo.length g1.1) (.vw 1 1002 0 b.box.ma.length g2.1) (.vw 1 1003 0 b.box.sl.length g3.1)))) 1001 (.box (Zaf zc b.box.fo g1.2))) 1002 (.box (Zaf zc b.box.ma g2.2))) 1003 (.box (Zaf zc b.box.sl g3.2))) 1004 (.box (wsV t b g1 g2 g3)):=by
 unfold ZeW bmp;simp
theorem ZyU (b b':Bar) (g1 g2 g3:Nat×Nat) {t:Nat} (ht:t≤2) (o:Nat→Ob) (k:Nat):ZeW b g1 g2 g3 t (Zer t) b' o k=upd (upd (upd (upd (upd o 1000 (.box (b'.avsV (.vw 1 1001 0 b.box.fo.length g1.1) (.vw 1 1002 0 b.box.ma.length g2.1) (.vw 1 1003 0 b.box.sl.length g3.1)))) 1001 (.box (Zaf zc (bmp (t !=2) b.box.fo k) g1.2))) 1002 (.box (Zaf zc (bmp (t==1) b.box.ma k) g2.2))) 1003 (.box (Zaf zc (bmp (t==2) b.box.sl k) g3.2))) 1004 (.box (wsV t b g1 g2 g3)):=by
 have ht3:t=0∨t=1∨t=2:=by omega
 rcases ht3 with rfl|rfl|rfl<;>rfl
theorem Zhj (own:Nat→Ob) (t:Nat) (b:Bar) (g1 g2 g3:Nat×Nat):AV.keepPL own (wsV t b g1 g2 g3)=some (wsV t b g1 g2 g3):=by
 unfold wsV;split<;>rfl
theorem ZqS {b:Bar} (hB:Zcr b=true) (kind:Int) {g1 g2 g3:Nat×Nat} (q1:Zdj b.box.fo g1) (q2:Zdj b.box.ma g2) (q3:Zdj b.box.sl g3) {t:Nat} (ht:t≤2):ZaE Tryz.prog 177 [.bp 1000 0,iv kind,.vw 1 1004 0 (Zer t) (Zer t)] (b.obsV b g1 g2 g3++[.box (wsV t b g1 g2 g3)]) [] (Zhs t b g1 g2 g3 (ZiB t b kind)):=by
 obtain ⟨hw7,hw39⟩:=ZsC t b g1 g2 g3;have hm:maxLen=9223372036854775807:=rfl;obtain ⟨⟨l1,l2,l3⟩,x1,x2,x3⟩:=ZoE hB;unfold Bar.obsV;rw[List.cons_append,List.cons_append,List.cons_append,List.cons_append,List.nil_append];refine Zat ZAZ (by first|simp|exact Nat.le_of_ble_eq_true rfl) (Nat.le_refl _) (by decide) (by decide) fun C hP hN hC hL=> ?_;rw[Zap,Zaw (by first|simp|exact Nat.le_of_ble_eq_true rfl)];simp only[ZvC,Zco,Za1,List.map_nil,List.map_cons,Nat.reduceAdd,]
 simp only[Bar.avsV];refine vR0 ?_;by_cases hk:0≤kind∧kind<(b.box.wh.co.length:Int)
 ·(refine vC ?_ ?_<;>intro h)
  ·exfalso;simp at h;omega
  ·have hrun:=run69 b.box.wh b.pl b.cr [kind];simp only[Wh.av,Wh.avs,Zaj] at hrun;generalize hR:Zez b.box.wh b.pl b.cr [kind]=R at hrun;obtain ⟨⟨pl',cr',md⟩,e⟩:=R;simp only at hrun;refine vR ?_;refine Zdx (fun σ'=>Sub σ' ⟨upd (upd (upd (upd (upd (upd (upd e0 0 (.bp 1000 0)) 1 (iv kind)) 2 (.vw 1 1004 0 (Zer t) (Zer t))) 6 (.c (.bool false))) 7 (.bp 7 0)) 8 (iv md)) 9 (iv e),upd (upd (upd (upd (upd (upd o0 1000 (.box (b.avsV (.vw 1 1001 0 b.box.fo.length g1.1) (.vw 1 1002 0 b.box.ma.length g2.1) (.vw 1 1003 0 b.box.sl.length g3.1)))) 1001 (.box (Zaf zc b.box.fo g1.2))) 1002 (.box (Zaf zc b.box.ma g2.2))) 1003 (.box (Zaf zc b.box.sl g3.2))) 1004 (.box (wsV t b g1 g2 g3))) 7 (.box [iv pl',iv cr'])⟩) ?_ ?_
   ·refine Zbx ?_;simp only[go_sem,hP,hw7,hw39];(repeat' (refine And.intro ?_ ?_))
    all_goals (
     refine Za0 hrun rfl rfl rfl rfl rfl ?_;simp only[go_sem,hP,hw7,hw39];refine vQ ?_;refine vR ?_;refine Zai (by simp only[go_sem];exact Zam) (by unfold Bar.avsV Zaj;simp only[go_sem];exact Zaa))
   ·intro σ' hs;refine ZaL hs ?_;unfold Bar.avsV;refine vR ?_;by_cases he:e=0
    ·(refine vC ?_ ?_<;>intro h)
     ·exfalso;simp[he] at h
     ·have hcb:=Zk3 hB hk hR he;have hyes:ZiB t b kind=some {b with pl:=pl',cr:=cr',box:={b.box with pl:=b.box.pl+(cr' -b.cr),fo:=bmp (t !=2) b.box.fo kind.toNat,ma:=bmp (t==1) b.box.ma kind.toNat,sl:=bmp (t==2) b.box.sl kind.toNat}}:=by
       unfold ZiB;rw[hR,if_pos ⟨hk.1,hk.2,he⟩]
      rw[hyes];have w1:=w64 (n:=cr' -b.cr) (by omega) (by omega);have w2:=w64 (n:=b.box.pl+(cr' -b.cr)) (by omega) (by omega);(refine Zcb ?_;simp only[go_sem])
      refine ZaG ?_;refine Zc0 ?_;simp only[go_sem,hP,w1,w2];refine vQ ?_;refine ZaG ?_;refine Zgo ?_;simp only[go_sem,hP];refine vQ ?_;refine ZaL ?_ (Zw3 hP (b:=b) (b':={b with pl:=pl',cr:=cr',box:={b.box with pl:=b.box.pl+(cr' -b.cr)}}) hk.1 (by omega) (by omega) (by omega) x1 x2 x3 q1 q2 q3 ht ?_)
      ·rw[ZyT];refine Zai (by simp only[go_sem];exact Zam) (by unfold Bar.avsV;simp only[go_sem];exact Zaa)
      ·rw[ZyU b _ g1 g2 g3 ht];(refine Zak ?_;simp only[Zaq,inQ,ZaB,Zar,Zae,ZaI];simp only[go_sem,ZaH,AV.keepP,AV.keepPL];refine ⟨_,Bar.obsV {b with pl:=pl',cr:=cr',box:={b.box with pl:=b.box.pl+(cr' -b.cr),fo:=bmp (t !=2) b.box.fo kind.toNat,ma:=bmp (t==1) b.box.ma kind.toNat,sl:=bmp (t==2) b.box.sl kind.toNat}} b g1 g2 g3++[.box (wsV t b g1 g2 g3)],rfl,Zag rfl rfl ?_ ?_ rfl,?_⟩)
       ·unfold Bar.obsV Bar.avsV;simp only[go_sem,List.cons_append,List.nil_append,Zal,Ob.keepP,AV.keepP,AV.keepPL,Zaj,keep_cellsG,Zhj]
       ·trivial
       ·exact ⟨rfl,rfl⟩
    ·have hno:ZiB t b kind=none:=by unfold ZiB;rw[hR,if_neg];rintro ⟨_,_,h3⟩;exact he h3
     rw[hno];(refine vC ?_ ?_<;>intro h)
     ·refine vR ?_;(refine Zak ?_;simp only[Zaq,inQ,ZaB,Zar,Zae,ZaI];simp only[go_sem,ZaH,AV.keepP,AV.keepPL];refine ⟨_,b.obsV b g1 g2 g3++[.box (wsV t b g1 g2 g3)],rfl,Zag rfl rfl ?_ ?_ rfl,?_⟩)
      ·unfold Bar.obsV Bar.avsV;simp only[go_sem,List.cons_append,List.nil_append,Zal,Ob.keepP,AV.keepP,AV.keepPL,Zaj,keep_cellsG,Zhj]
      ·trivial
      ·exact ⟨rfl,rfl⟩
     ·exfalso;simp at h;exact he h
 ·have hno:ZiB t b kind=none:=by unfold ZiB;rw[if_neg];rintro ⟨h1,h2,_⟩;exact hk ⟨h1,h2⟩
  rw[hno];(refine vC ?_ ?_<;>intro h)
  ·refine vR ?_;(refine Zak ?_;simp only[Zaq,inQ,ZaB,Zar,Zae,ZaI];simp only[go_sem,ZaH,AV.keepP,AV.keepPL];refine ⟨_,b.obsV b g1 g2 g3++[.box (wsV t b g1 g2 g3)],rfl,Zag rfl rfl ?_ ?_ rfl,?_⟩)
   ·unfold Bar.obsV Bar.avsV;simp only[go_sem,List.cons_append,List.nil_append,Zal,Ob.keepP,AV.keepP,AV.keepPL,Zaj,keep_cellsG,Zhj]
   ·trivial
   ·exact ⟨rfl,rfl⟩
  ·exfalso;simp at h;omega
abbrev ZwY:OT:=(.cons (JFm 9 0) (.cons (JF 10 (.nilc (.t 9))) (.cons (JFf 11 0 10) (.cons (JFf 12 0 11) (.cons (JFf 13 5 12) (.cons (JFl 14 13) (.br [(.cons (JFm 5 0) (.br [(.cons (JFm 6 1) (.br [(.cons (JF 7 (.ia 1 (.t 6) (.k (Jz 0)))) (.br [(.cons (JFl 8 7) (.cons (JS 15 (.bslv 22 1 [.t 14])) (.cons (JSc 16 177 [.t 5,.t 8,.t 15]) (.cons (JSm 4 16) .nil)))),(.cons (JS 15 (.bslv 22 1 [.t 14])) (.cons (JFl 8 7) (.cons (JSc 16 177 [.t 5,.t 8,.t 15]) (.cons (JSm 4 16) .nil))))])),(.cons (JS 15 (.bslv 22 1 [.t 14])) (.cons (JF 7 (.ia 1 (.t 6) (.k (Jz 0)))) (.cons (JFl 8 7) (.cons (JSc 16 177 [.t 5,.t 8,.t 15]) (.cons (JSm 4 16) .nil)))))])),(.cons (JS 15 (.bslv 22 1 [.t 14])) (.cons (JFm 6 1) (.cons (JF 7 (.ia 1 (.t 6) (.k (Jz 0)))) (.cons (JFl 8 7) (.cons (JSc 16 177 [.t 5,.t 8,.t 15]) (.cons (JSm 4 16) .nil))))))])),(.cons (JFm 6 1) (.br [(.cons (JFm 5 0) (.br [(.cons (JF 7 (.ia 1 (.t 6) (.k (Jz 0)))) (.br [(.cons (JFl 8 7) (.cons (JS 15 (.bslv 22 1 [.t 14])) (.cons (JSc 16 177 [.t 5,.t 8,.t 15]) (.cons (JSm 4 16) .nil)))),(.cons (JS 15 (.bslv 22 1 [.t 14])) (.cons (JFl 8 7) (.cons (JSc 16 177 [.t 5,.t 8,.t 15]) (.cons (JSm 4 16) .nil))))])),(.cons (JS 15 (.bslv 22 1 [.t 14])) (.cons (JF 7 (.ia 1 (.t 6) (.k (Jz 0)))) (.cons (JFl 8 7) (.cons (JSc 16 177 [.t 5,.t 8,.t 15]) (.cons (JSm 4 16) .nil)))))])),(.cons (JF 7 (.ia 1 (.t 6) (.k (Jz 0)))) (.br [(.cons (JFm 5 0) (.br [(.cons (JFl 8 7) (.cons (JS 15 (.bslv 22 1 [.t 14])) (.cons (JSc 16 177 [.t 5,.t 8,.t 15]) (.cons (JSm 4 16) .nil)))),(.cons (JS 15 (.bslv 22 1 [.t 14])) (.cons (JFl 8 7) (.cons (JSc 16 177 [.t 5,.t 8,.t 15]) (.cons (JSm 4 16) .nil))))])),(.cons (JFl 8 7) (.br [(.cons (JFm 5 0) (.cons (JS 15 (.bslv 22 1 [.t 14])) (.cons (JSc 16 177 [.t 5,.t 8,.t 15]) (.cons (JSm 4 16) .nil)))),(.cons (JS 15 (.bslv 22 1 [.t 14])) (.cons (JFm 5 0) (.cons (JSc 16 177 [.t 5,.t 8,.t 15]) (.cons (JSm 4 16) .nil))))])),(.cons (JS 15 (.bslv 22 1 [.t 14])) (.cons (JFm 5 0) (.cons (JFl 8 7) (.cons (JSc 16 177 [.t 5,.t 8,.t 15]) (.cons (JSm 4 16) .nil)))))])),(.cons (JS 15 (.bslv 22 1 [.t 14])) (.cons (JFm 5 0) (.cons (JF 7 (.ia 1 (.t 6) (.k (Jz 0)))) (.cons (JFl 8 7) (.cons (JSc 16 177 [.t 5,.t 8,.t 15]) (.cons (JSm 4 16) .nil))))))])),(.cons (JS 15 (.bslv 22 1 [.t 14])) (.cons (JFm 5 0) (.cons (JFm 6 1) (.cons (JF 7 (.ia 1 (.t 6) (.k (Jz 0)))) (.cons (JFl 8 7) (.cons (JSc 16 177 [.t 5,.t 8,.t 15]) (.cons (JSm 4 16) .nil)))))))])))))))
def ZvD:FC:=⟨2,17,[.t 4],(.seq (.ops [JSB 4 false]) (.seq (.drw ZwY) .ret))⟩
theorem ZA0:Zao Tryz.prog [100015] 179=some ZvD:=by kernel_rfl
theorem Zyi:Zer 0=1:=rfl
theorem Zyj:Zer 2=1:=rfl
theorem ZuF {b:Bar} (hB:Zcr b=true) (kind:Int):ZxO 176 [kind] b (ZiB 0 b kind):=by
 intro g1 g2 g3 q1 q2 q3;have hput:=ZqS hB kind q1 q2 q3 (t:=0) (by omega);rw[Zyi] at hput;unfold wsV at hput;simp only[Bar.obsV,List.cons_append,List.nil_append] at hput;unfold Bar.obsV;refine Zat ZAY (by first|simp|exact Nat.le_of_ble_eq_true rfl) (Nat.le_refl _) (by decide) (by decide) fun C hP hN hC hL=> ?_;rw[Zap,Zaw (by first|simp|exact Nat.le_of_ble_eq_true rfl)];simp only[ZvB,Zco,Za1,List.map_nil,List.map_cons,Nat.reduceAdd,]
 simp only[Bar.avsV];refine vR ?_;first|refine Zbx ?_|refine ZaG (Zc0 ?_)
 simp only[go_sem,hP];(repeat' (refine And.intro ?_ ?_))
 all_goals (first|exact Int.le_refl 0|rfl|exact Int.one_pos|exact Nat.one_pos|skip)
 all_goals (
  refine Zas [1000,1001,1002,1003,15] hput rfl rfl rfl (by decide) rfl (by simp only[go_sem,ZaA,Ob.lend,AV.lend,AV.lendL,lend_cellsG,Bar.avsV];first|done|rfl) ?_;intro r l' hp;unfold Zhs at hp;cases hc:ZiB 0 b kind with
  |none=>
   rw[hc] at hp;obtain ⟨rfl,rfl⟩:=hp;refine ⟨_,_,rfl,(by unfold Bar.obsV Bar.avsV wsV;simp only[List.cons_append,List.nil_append,Zay,Ob.back,AV.back,AV.backL,back_cellsG];rfl),?_⟩;simp only[go_sem,hP,Zab];refine vR ?_;(refine Zak ?_;simp only[Zaq,inQ,ZaB,Zar,Zae,ZaI];simp only[go_sem,ZaH,AV.keepP,AV.keepPL];refine ⟨_,b.obsV b g1 g2 g3,rfl,Zag rfl rfl ?_ ?_ rfl,?_⟩)
   ·unfold Bar.obsV Bar.avsV;simp only[go_sem,Zal,Ob.keepP,AV.keepP,AV.keepPL,Zaj,keep_cellsG]
   ·trivial
   ·exact ⟨rfl,rfl⟩
  |some b'=>
   rw[hc] at hp;obtain ⟨rfl,rfl⟩:=hp;refine ⟨_,_,rfl,(by unfold Bar.obsV Bar.avsV wsV;simp only[List.cons_append,List.nil_append,Zay,Ob.back,AV.back,AV.backL,back_cellsG];rfl),?_⟩;simp only[go_sem,hP,Zab];refine vR ?_;(refine Zak ?_;simp only[Zaq,inQ,ZaB,Zar,Zae,ZaI];simp only[go_sem,ZaH,AV.keepP,AV.keepPL];refine ⟨_,b'.obsV b g1 g2 g3,rfl,Zag rfl rfl ?_ ?_ rfl,?_⟩)
   ·unfold Bar.obsV Bar.avsV;simp only[go_sem,Zal,Ob.keepP,AV.keepP,AV.keepPL,Zaj,keep_cellsG]
   ·trivial
   ·exact ⟨rfl,rfl⟩)
theorem ZyZ {b:Bar} (hB:Zcr b=true) (kind:Int):ZxO 179 [kind] b (ZiB 2 b kind):=by
 intro g1 g2 g3 q1 q2 q3;have hput:=ZqS hB kind q1 q2 q3 (t:=2) (by omega);rw[Zyj] at hput;unfold wsV at hput;simp only[Bar.obsV,List.cons_append,List.nil_append] at hput;unfold Bar.obsV;refine Zat ZA0 (by first|simp|exact Nat.le_of_ble_eq_true rfl) (Nat.le_refl _) (by decide) (by decide) fun C hP hN hC hL=> ?_;rw[Zap,Zaw (by first|simp|exact Nat.le_of_ble_eq_true rfl)];simp only[ZvD,Zco,Za1,List.map_nil,List.map_cons,Nat.reduceAdd,]
 simp only[Bar.avsV];refine vR ?_;first|refine Zbx ?_|refine ZaG (Zc0 ?_)
 simp only[go_sem,hP];(repeat' (refine And.intro ?_ ?_))
 all_goals (first|exact Int.le_refl 0|rfl|exact Int.one_pos|exact Nat.one_pos|skip)
 all_goals (
  refine Zas [1000,1001,1002,1003,15] hput rfl rfl rfl (by decide) rfl (by simp only[go_sem,ZaA,Ob.lend,AV.lend,AV.lendL,lend_cellsG,Bar.avsV];first|done|rfl) ?_;intro r l' hp;unfold Zhs at hp;cases hc:ZiB 2 b kind with
  |none=>
   rw[hc] at hp;obtain ⟨rfl,rfl⟩:=hp;refine ⟨_,_,rfl,(by unfold Bar.obsV Bar.avsV wsV;simp only[List.cons_append,List.nil_append,Zay,Ob.back,AV.back,AV.backL,back_cellsG];rfl),?_⟩;simp only[go_sem,hP,Zab];refine vR ?_;(refine Zak ?_;simp only[Zaq,inQ,ZaB,Zar,Zae,ZaI];simp only[go_sem,ZaH,AV.keepP,AV.keepPL];refine ⟨_,b.obsV b g1 g2 g3,rfl,Zag rfl rfl ?_ ?_ rfl,?_⟩)
   ·unfold Bar.obsV Bar.avsV;simp only[go_sem,Zal,Ob.keepP,AV.keepP,AV.keepPL,Zaj,keep_cellsG]
   ·trivial
   ·exact ⟨rfl,rfl⟩
  |some b'=>
   rw[hc] at hp;obtain ⟨rfl,rfl⟩:=hp;refine ⟨_,_,rfl,(by unfold Bar.obsV Bar.avsV wsV;simp only[List.cons_append,List.nil_append,Zay,Ob.back,AV.back,AV.backL,back_cellsG];rfl),?_⟩;simp only[go_sem,hP,Zab];refine vR ?_;(refine Zak ?_;simp only[Zaq,inQ,ZaB,Zar,Zae,ZaI];simp only[go_sem,ZaH,AV.keepP,AV.keepPL];refine ⟨_,b'.obsV b g1 g2 g3,rfl,Zag rfl rfl ?_ ?_ rfl,?_⟩)
   ·unfold Bar.obsV Bar.avsV;simp only[go_sem,Zal,Ob.keepP,AV.keepP,AV.keepPL,Zaj,keep_cellsG]
   ·trivial
   ·exact ⟨rfl,rfl⟩)
abbrev ZwZ:OT:=(.cons (JFm 14 0) (.cons (JF 15 (.nilc (.t 14))) (.cons (JFf 16 0 15) (.cons (JFf 17 0 16) (.cons (JFf 18 3 17) (.cons (JFl 19 18) (.cons (JFm 20 0) (.cons (JF 21 (.nilc (.t 20))) (.cons (JFf 22 0 21) (.cons (JFf 23 0 22) (.cons (JFf 24 4 23) (.cons (JFl 25 24) (.cons (JFm 26 0) (.cons (JF 27 (.nilc (.t 26))) (.cons (JFf 28 0 27) (.cons (JFf 29 0 28) (.cons (JFf 30 5 29) (.cons (JFl 31 30) (.br [(.cons (JS 32 (.raw (.build 219 #[(0,(.tmp 19)),(1,(.tmp 25)),(2,(.tmp 31))]))) (.cons (JFi 33 0) .nil)),(.cons (JFi 33 0) (.cons (JS 32 (.raw (.build 219 #[(0,(.tmp 19)),(1,(.tmp 25)),(2,(.tmp 31))]))) .nil))])))))))))))))))))))
-- K183_1: changed and kept: [33]
abbrev ZtM:VC:=(.seq (.seq (.drw ZwZ) (.block 0 (.loop (.seq (.ops [JSk 34 .lss 33 3]) (.seq (.cond (.t 34) .skip (.exit 0)) (.seq (.block 1 (.seq (.ops [JS 35 (.raw (.index 219 (.tmp 32) (.tmp 33))),JSm 6 35]) (.ops [JSm 36 6,JN (.raw (.call {callee:=(.builtin .clear),args:=#[(.tmp 36)],argTypes:=#[22]}))]))) (.ops [JSk 37 .add 33 1,JSm 33 37]))))))) (.seq (.ops [JSm 38 0,JS 39 (.nilc (.t 38)),JSf 40 0 39,JSf 41 0 40,JSf 42 6 41,JN (.st 1 (.t 42) (.k (Jz 0)))]) (.seq (.ops [JSB 4 true]) .ret)))
def ZvF:FC:=⟨2,43,[.t 4],(.seq (.ops [JSB 4 false]) (.seq (.seq (.ops [JSm 7 0,JS 8 (.nilc (.t 7)),JSf 9 0 8,JSf 10 8 9,JSL 11 2 10,JS 12 (.bld [Jz 0,Jz 0] []),JS 13 (.seq true [(0,true),(1,true)] (.t 11) (.t 12))]) (.cond (.t 13) (.seq (.ops [JSB 4 false]) .ret) .skip)) ZtM))⟩
theorem ZA2:Zao Tryz.prog [] 183=some ZvF:=by kernel_rfl
theorem ZdJ (l:List Int) (j:Nat):splice (Zaf zc l j) 0 (List.replicate l.length (.c (.int .i64 0)))=Zaf zc (List.replicate l.length 0) j:=by
 have h1:(Zbh zc l).length=l.length:=Zq0 l;have h2:(Zbh zc (List.replicate l.length 0))=List.replicate l.length (CD.int .i64 0):=by
  induction l.length with
  |zero=>rfl
  |succ n ih=>rw[List.replicate_succ,List.replicate_succ,ZcK,ih];rfl
 unfold splice Zaf;rw[h2];simp[h1]
def ZeH (b:Bar):Option Bar:=if b.pl=0∧b.cr=0 then some {b with box:={b.box with fo:=List.replicate b.box.fo.length 0,ma:=List.replicate b.box.ma.length 0,sl:=List.replicate b.box.sl.length 0,pl:=0}} else none
def zL (m k:Nat) (l:List Int):List Int:=if m<k then List.replicate l.length 0 else l
theorem ZrA {b:Bar} (n1:b.box.fo≠[]) (n2:b.box.ma≠[]) (n3:b.box.sl≠[]):ZxO 183 [] b (ZeH b):=by
 intro g1 g2 g3 q1 q2 q3;have hmx:maxLen=9223372036854775807:=rfl;unfold Zdj at q1 q2 q3;have z1:b.box.fo.length≠0:=fun h=>n1 (List.eq_nil_of_length_eq_zero h)
 have z2:b.box.ma.length≠0:=fun h=>n2 (List.eq_nil_of_length_eq_zero h)
 have z3:b.box.sl.length≠0:=fun h=>n3 (List.eq_nil_of_length_eq_zero h)
 have zl:∀n:Int,(zc n).length=1:=fun _=>rfl
 have c1:=Zbl zl b.box.fo g1.2;have c2:=Zbl zl b.box.ma g2.2;have c3:=Zbl zl b.box.sl g3.2;unfold Bar.obsV;refine Zat ZA2 (by first|simp|exact Nat.le_of_ble_eq_true rfl) (Nat.le_refl _) (by decide) (by decide) fun C hP hN hC hL=> ?_;rw[Zap,Zaw (by first|simp|exact Nat.le_of_ble_eq_true rfl)];simp only[ZvF,Zco,Za1,List.map_nil,List.map_cons,Nat.reduceAdd,]
 simp only[Bar.avsV];refine vR ?_;by_cases hz:b.pl=0∧b.cr=0
 ·have hy:ZeH b=some {b with box:={b.box with fo:=List.replicate b.box.fo.length 0,ma:=List.replicate b.box.ma.length 0,sl:=List.replicate b.box.sl.length 0,pl:=0}}:=by unfold ZeH;rw[if_pos hz]
  rw[hy];(refine vC ?_ ?_<;>intro h)
  ·exfalso;simp[hz.1,hz.2] at h
  ·refine vR ?_;refine Zdx (fun σ'=>Sub σ' ⟨upd (upd (upd (upd e0 0 (.bp 1000 0)) 4 (.c (.bool false))) 32 (.agg [.vw 1 1001 0 b.box.fo.length g1.1,.vw 1 1002 0 b.box.ma.length g2.1,.vw 1 1003 0 b.box.sl.length g3.1])) 33 (iv 0),upd (upd (upd (upd o0 1000 (.box (b.avsV (.vw 1 1001 0 b.box.fo.length g1.1) (.vw 1 1002 0 b.box.ma.length g2.1) (.vw 1 1003 0 b.box.sl.length g3.1)))) 1001 (.box (Zaf zc b.box.fo g1.2))) 1002 (.box (Zaf zc b.box.ma g2.2))) 1003 (.box (Zaf zc b.box.sl g3.2))⟩) ?_ ?_
   ·refine Zbx ?_;simp only[go_sem,hP];(repeat' (refine And.intro ?_ ?_))
    all_goals (
     refine Ze9 (e:=22) (n:=3) (sz:=1) (z:=List.replicate 3 (.c (.raw (.slice none 0 0)))) (ps:=[(0,1,.t 19),(1,1,.t 25),(2,1,.t 31)]) (r:=[.vw 1 1001 0 b.box.fo.length g1.1,.vw 1 1002 0 b.box.ma.length g2.1,.vw 1 1003 0 b.box.sl.length g3.1]) (by kernel_rfl) (by kernel_rfl) (by kernel_rfl) rfl ?_ rfl ?_ ?_
     ·intro i q hq;have:i=0∨i=1∨i=2∨3≤i:=by omega
      rcases this with rfl|rfl|rfl|h
      case inr.inr.inr=>rw[List.getElem?_eq_none (by exact h)] at hq;cases hq
      all_goals (cases hq;exact ⟨_,rfl,rfl⟩)
     ·simp only[go_sem]
     simp only[go_sem,hP];refine Zai (by simp only[go_sem];exact Zam) (by unfold Bar.avsV;simp only[go_sem];exact Zaa))
   ·intro σ' hs;refine ZaL hs ?_;refine vR ?_;refine ZaQ (fun k:Nat=>⟨upd (upd (upd (upd e0 0 (.bp 1000 0)) 4 (.c (.bool false))) 32 (.agg [.vw 1 1001 0 b.box.fo.length g1.1,.vw 1 1002 0 b.box.ma.length g2.1,.vw 1 1003 0 b.box.sl.length g3.1])) 33 (iv k),upd (upd (upd (upd o0 1000 (.box (b.avsV (.vw 1 1001 0 b.box.fo.length g1.1) (.vw 1 1002 0 b.box.ma.length g2.1) (.vw 1 1003 0 b.box.sl.length g3.1)))) 1001 (.box (Zaf zc (zL 0 k b.box.fo) g1.2))) 1002 (.box (Zaf zc (zL 1 k b.box.ma) g2.2))) 1003 (.box (Zaf zc (zL 2 k b.box.sl) g3.2))⟩) (fun k=>k≤3) (fun k=>3 -k) 0 (Nat.zero_le _) ?_ ?_
    ·refine Zai (by simp only[go_sem];exact Zam) (by unfold Bar.avsV zL;simp only[go_sem];exact Zaa)
    intro k hk;refine vR ?_;(refine vC ?_ ?_<;>intro h)
    ·have hi:k<3:=by simp at h;omega
     (refine Zcb ?_;simp only[go_sem])
     refine ZaG (Zcs (ZaG ?_));have w1:=w64 (n:=(k:Int)+1) (by omega) (by omega);have:k=0∨k=1∨k=2:=by omega
     rcases this with rfl|rfl|rfl
     ·unfold Bar.avsV zL;simp only[go_sem];(refine ZcH ?_;simp only[go_sem,hP];refine vQ ?_)
      refine ZbM (e:=22) (n:=3) (x':=.t 32) (i':=.t 33) (k:=.i64) (j:=_) (by kernel_rfl) (by kernel_rfl) (by kernel_rfl) rfl rfl rfl rfl rfl rfl (by omega) rfl ?_;simp only[go_sem,hP];refine vR ?_;refine Zf2 (e:=3) (x':=.t 36) (by kernel_rfl) (by kernel_rfl) rfl rfl rfl z1 rfl (by omega) ?_;rw[ZdJ];simp only[go_sem,hP];refine vW w1 ?_;refine ⟨1,by omega,by simp,Zai (by simp only[go_sem];exact Zam) (by simp only[go_sem];exact Zaa)⟩
     ·unfold Bar.avsV zL;simp only[go_sem];(refine ZcH ?_;simp only[go_sem,hP];refine vQ ?_)
      refine ZbM (e:=22) (n:=3) (x':=.t 32) (i':=.t 33) (k:=.i64) (j:=_) (by kernel_rfl) (by kernel_rfl) (by kernel_rfl) rfl rfl rfl rfl rfl rfl (by omega) rfl ?_;simp only[go_sem,hP];refine vR ?_;refine Zf2 (e:=3) (x':=.t 36) (by kernel_rfl) (by kernel_rfl) rfl rfl rfl z2 rfl (by omega) ?_;rw[ZdJ];simp only[go_sem,hP];refine vW w1 ?_;refine ⟨2,by omega,by simp,Zai (by simp only[go_sem];exact Zam) (by simp only[go_sem];exact Zaa)⟩
     ·unfold Bar.avsV zL;simp only[go_sem];(refine ZcH ?_;simp only[go_sem,hP];refine vQ ?_)
      refine ZbM (e:=22) (n:=3) (x':=.t 32) (i':=.t 33) (k:=.i64) (j:=_) (by kernel_rfl) (by kernel_rfl) (by kernel_rfl) rfl rfl rfl rfl rfl rfl (by omega) rfl ?_;simp only[go_sem,hP];refine vR ?_;refine Zf2 (e:=3) (x':=.t 36) (by kernel_rfl) (by kernel_rfl) rfl rfl rfl z3 rfl (by omega) ?_;rw[ZdJ];simp only[go_sem,hP];refine vW w1 ?_;refine ⟨3,by omega,by simp,Zai (by simp only[go_sem];exact Zam) (by simp only[go_sem];exact Zaa)⟩
    ·have hk3:k=3:=by simp at h;omega
     subst hk3;unfold Bar.avsV zL;simp only[go_sem];refine vR ?_;(refine Zak ?_;simp only[Zaq,inQ,ZaB,Zar,Zae,ZaI];simp only[go_sem,ZaH,AV.keepP,AV.keepPL];refine ⟨_,Bar.obsV {b with box:={b.box with fo:=List.replicate b.box.fo.length 0,ma:=List.replicate b.box.ma.length 0,sl:=List.replicate b.box.sl.length 0,pl:=0}} b g1 g2 g3,rfl,Zag rfl rfl ?_ ?_ rfl,?_⟩)
     ·unfold Bar.obsV Bar.avsV;simp only[go_sem,Zal,Ob.keepP,AV.keepP,AV.keepPL,Zaj,keep_cellsG]
     ·trivial
     ·exact ⟨rfl,rfl⟩
 ·have hy:ZeH b=none:=by unfold ZeH;rw[if_neg hz]
  rw[hy];(refine vC ?_ ?_<;>intro h)
  ·refine vR ?_;(refine Zak ?_;simp only[Zaq,inQ,ZaB,Zar,Zae,ZaI];simp only[go_sem,ZaH,AV.keepP,AV.keepPL];refine ⟨_,b.obsV b g1 g2 g3,rfl,Zag rfl rfl ?_ ?_ rfl,?_⟩)
   ·unfold Bar.obsV Bar.avsV;simp only[go_sem,Zal,Ob.keepP,AV.keepP,AV.keepPL,Zaj,keep_cellsG]
   ·trivial
   ·exact ⟨rfl,rfl⟩
  ·exfalso;simp at h;exact hz h
theorem Zjd (c:Bool) (l:List Int) (k:Nat):(bmp c l k).length=l.length:=by unfold bmp;split<;>simp
theorem Zht {t:Nat} {b b':Bar} {k:Int} (h:ZiB t b k=some b'):b'.box.fo.length=b.box.fo.length∧b'.box.ma.length=b.box.ma.length∧b'.box.sl.length=b.box.sl.length:=by
 unfold ZiB at h;split at h
 ·cases h;exact ⟨Zjd _ _ _,Zjd _ _ _,Zjd _ _ _⟩
 ·cases h
theorem Zk8 {b b':Bar} (h:ZeH b=some b'):b'.box.fo.length=b.box.fo.length∧b'.box.ma.length=b.box.ma.length∧b'.box.sl.length=b.box.sl.length:=by
 unfold ZeH at h;split at h
 ·cases h;exact ⟨List.length_replicate ..,List.length_replicate ..,List.length_replicate ..⟩
 ·cases h
def ZvI:FC:=⟨2,26,[.t 4,.t 5],(.seq (.ops [JS 4 (.mv (.k J0)),JSi 5 0]) (.seq (.ops [JSm 11 0,JS 12 (.nilc (.t 11)),JSf 13 0 12,JSf 14 0 13,JSL 15 8 14,JSc 16 30 [.t 15],JSm 10 16,JSe 17 10 0,JSe 18 10 1,JSe 19 10 2,JSe 20 10 3,JSm 6 17,JSm 7 18,JSm 8 19,JSm 9 20]) (.seq (.ops [JSm 21 6,JSm 22 7,JSm 23 8,JS 24 (.bsl 3 1 [.t 21,.t 22,.t 23]),JSm 25 9,JSm 4 24,JSm 5 25]) .ret)))⟩
abbrev Zxg:VC:=(.seq (.seq (.ops [JSm 12 5,JSk 13 .neq 12 0]) (.cond (.t 13) (.seq (.ops [JSm 14 5,JSi 2 0,JSi 3 0,JSi 4 0,JSm 5 14]) .ret) .skip)) (.seq (.ops [JSm 15 6,JSf 16 4 1,JSl 17 16,JSc 18 78 [.t 15,.t 17],JSm 3 18]) (.seq (.dops [JFm 19 6,JFf 20 3 1,JFl 21 20,JFc 22 78 [.t 19,.t 21],JFm 23 3,JFb 24 .sub 22 23,JFm 25 3,JFm 26 6,JFf 27 5 1,JFl 28 27,JFc 29 78 [.t 26,.t 28],JFm 2 24,JSm 3 25,JSm 4 29,JSi 5 0]) .ret)))
def Zzu:FC:=⟨1,30,[.t 2,.t 3,.t 4,.t 5],(.seq (.ops [JS 1 (.box 8 (.t 0)),JSi 2 0,JSi 3 0,JSi 4 0,JSi 5 0]) (.seq (.ops [JSL 8 8 1,JSc 9 77 [.t 8],JSm 7 9,JSe 10 7 0,JSe 11 7 1,JSm 6 10,JSm 5 11]) Zxg))⟩
theorem ZA5:Zao Tryz.prog [] 192=some ZvI:=by kernel_rfl
theorem c30:Zao Tryz.prog [] 30=some Zzu:=by kernel_rfl
theorem Zrq {b:Bx} (h:bxB b=true):FSpec Tryz.prog 30 [b.av] (.tup [iv (Zbq b.wh b.fo -Zbq b.wh b.ma),iv (Zbq b.wh b.ma),iv (Zbq b.wh b.sl),iv 0]):=by
 have hb:=ZeF h;have hx:(b.fo.length≤b.wh.co.length∧∀n∈b.fo,0≤n∧n≤14)∧(b.ma.length≤b.wh.co.length∧∀n∈b.ma,0≤n∧n≤14)∧(b.sl.length≤b.wh.co.length∧∀n∈b.sl,0≤n∧n≤14):=by
  have q:=h;simp only[bxB,Bool.and_eq_true] at q;obtain ⟨⟨⟨⟨⟨⟨⟨_,_⟩,_⟩,h4⟩,h5⟩,h6⟩,_⟩,_⟩:=q;have a:=ZaX h4;have c:=ZaX h5;have d:=ZaX h6;refine ⟨⟨by rw[a.1];exact Nat.le_refl _,fun n hn=> ?_⟩,⟨by rw[c.1];exact Nat.le_refl _,fun n hn=> ?_⟩,⟨by rw[d.1];exact Nat.le_refl _,fun n hn=> ?_⟩⟩
  ·have:=a.2 n hn;omega
  ·have:=c.2 n hn;omega
  ·have:=d.2 n hn;omega
 have ho:=Zm4 b;rw[Zma h,Zje h] at ho;have w1:=worth25 hb.wh hx.1.1 hx.1.2;have w2:=worth25 hb.wh hx.2.1.1 hx.2.1.2;have w3:=worth25 hb.wh hx.2.2.1 hx.2.2.2;have r1:=ZkI hb.wh hx.1.1 hx.1.2;have r2:=ZkI hb.wh hx.2.1.1 hx.2.1.2;have ws:=w64 (n:=Zbq b.wh b.fo -Zbq b.wh b.ma) (by omega) (by omega);generalize Zbq b.wh b.fo=x1 at w1 ws r1⊢;generalize Zbq b.wh b.ma=x2 at w2 ws r2⊢;generalize Zbq b.wh b.sl=x3 at w3⊢;refine Zac c30 (Nat.le_refl _) (by decide) fun C hP hN hC hL=> ?_;rw[Zad]
 simp only[Zzu,Bx.av,Bx.avs];refine vR ?_;(refine Zau (ho) ?_;simp only[go_sem,hP,Bx.av,Bx.avs];refine vQ ?_;(repeat (refine vV ?_;(try simp only[go_sem,hP,Bx.av,Bx.avs]);refine vQ ?_)))
 (refine vC ?_ ?_<;>intro h)
 ·simp at h
 ·refine vR ?_;(refine Zau (w2) ?_;simp only[go_sem,hP];refine vQ ?_;refine vR ?_)
  (refine Za0 (w1) rfl rfl rfl rfl rfl ?_;simp only[go_sem,hP];refine vQ ?_;refine vR ?_)
  (refine Za0 (w3) rfl rfl rfl rfl rfl ?_;simp only[go_sem,hP,ws];refine vQ ?_;refine vW ws ?_)
  (refine vT ?_;try exact trivial)
theorem ZuA {b:Bar} (h:bxB b.box=true) (ns:List Int):ZaE Tryz.prog 192 [.bp 1000 0,.c (Zaj ns)] [.box b.avs] [] (fun r l'=>r= .tup [.c (Zaj [Zbq b.box.wh b.box.fo -Zbq b.box.wh b.box.ma,Zbq b.box.wh b.box.ma,Zbq b.box.wh b.box.sl]),iv 0]∧l'=[.box b.avs]):=by
 have hc:=Zrq h;simp only[Bx.av,Bx.avs] at hc;refine Zat ZA5 (by first|simp|exact Nat.le_of_ble_eq_true rfl) (Nat.le_refl _) (by decide) (by decide) fun C hP hN hC hL=> ?_;rw[Zap,Zaw (by first|simp|exact Nat.le_of_ble_eq_true rfl)];simp only[ZvI,Zco,Za1,List.map_nil,List.map_cons,Nat.reduceAdd,]
 simp only[Bar.avs];refine vR ?_;(refine Zau (hc) ?_;simp only[go_sem,hP];refine vQ ?_;refine vR ?_)
 (refine Zak ?_;simp only[Zaq,inQ,ZaB,Zar,Zae,ZaI];simp only[go_sem,ZaH,AV.keepP,AV.keepPL];refine ⟨_,[.box b.avs],rfl,Zag rfl rfl ?_ ?_ rfl,?_⟩)
 ·unfold Bar.avs;simp only[go_sem,Zal,Ob.keepP,AV.keepP,AV.keepPL]
 ·trivial
 ·exact ⟨rfl,rfl⟩
abbrev Zw1:OT:=(.br [(.cons (JSl 7 2) (.cons (JFm 8 0) (.cons (JF 9 (.nilc (.t 8))) (.cons (JFf 10 0 9) (.cons (JFf 11 0 10) (.cons (JFL 12 8 11) (.cons (JS 13 (.call (.t 7) [.t 12])) (.cons (JFe 14 13 0) (.cons (JFe 15 13 1) (.cons (JSm 5 14) (.cons (JSm 6 15) .nil))))))))))),(.cons (JFm 8 0) (.br [(.cons (JSl 7 2) (.cons (JF 9 (.nilc (.t 8))) (.cons (JFf 10 0 9) (.cons (JFf 11 0 10) (.cons (JFL 12 8 11) (.cons (JS 13 (.call (.t 7) [.t 12])) (.cons (JFe 14 13 0) (.cons (JFe 15 13 1) (.cons (JSm 5 14) (.cons (JSm 6 15) .nil)))))))))),(.cons (JF 9 (.nilc (.t 8))) (.br [(.cons (JSl 7 2) (.cons (JFf 10 0 9) (.cons (JFf 11 0 10) (.cons (JFL 12 8 11) (.cons (JS 13 (.call (.t 7) [.t 12])) (.cons (JFe 14 13 0) (.cons (JFe 15 13 1) (.cons (JSm 5 14) (.cons (JSm 6 15) .nil))))))))),(.cons (JFf 10 0 9) (.br [(.cons (JSl 7 2) (.cons (JFf 11 0 10) (.cons (JFL 12 8 11) (.cons (JS 13 (.call (.t 7) [.t 12])) (.cons (JFe 14 13 0) (.cons (JFe 15 13 1) (.cons (JSm 5 14) (.cons (JSm 6 15) .nil)))))))),(.cons (JFf 11 0 10) (.br [(.cons (JSl 7 2) (.cons (JFL 12 8 11) (.cons (JS 13 (.call (.t 7) [.t 12])) (.cons (JFe 14 13 0) (.cons (JFe 15 13 1) (.cons (JSm 5 14) (.cons (JSm 6 15) .nil))))))),(.cons (JFL 12 8 11) (.cons (JSl 7 2) (.cons (JS 13 (.call (.t 7) [.t 12])) (.cons (JFe 14 13 0) (.cons (JFe 15 13 1) (.cons (JSm 5 14) (.cons (JSm 6 15) .nil)))))))]))]))]))]))])
def ZvN:FC:=⟨3,16,[.t 5,.t 6],(.seq (.ops [JS 5 (.mv (.k J0)),JSi 6 0]) (.seq (.drw Zw1) .ret))⟩
abbrev Zw2:OT:=(.br [(.cons (JSl 7 2) (.cons (JFm 8 0) (.cons (JF 9 (.nilc (.t 8))) (.cons (JFf 10 0 9) (.cons (JFf 11 0 10) (.cons (JFL 12 8 11) (.cons (JS 13 (.call (.t 7) [.t 12])) (.cons (JFe 14 13 0) (.cons (JFe 15 13 1) (.cons (JSc 16 216 [.t 14,.t 15]) (.cons (JFe 17 16 0) (.cons (JFe 18 16 1) (.cons (JSm 5 17) (.cons (JSm 6 18) .nil)))))))))))))),(.cons (JFm 8 0) (.br [(.cons (JSl 7 2) (.cons (JF 9 (.nilc (.t 8))) (.cons (JFf 10 0 9) (.cons (JFf 11 0 10) (.cons (JFL 12 8 11) (.cons (JS 13 (.call (.t 7) [.t 12])) (.cons (JFe 14 13 0) (.cons (JFe 15 13 1) (.cons (JSc 16 216 [.t 14,.t 15]) (.cons (JFe 17 16 0) (.cons (JFe 18 16 1) (.cons (JSm 5 17) (.cons (JSm 6 18) .nil))))))))))))),(.cons (JF 9 (.nilc (.t 8))) (.br [(.cons (JSl 7 2) (.cons (JFf 10 0 9) (.cons (JFf 11 0 10) (.cons (JFL 12 8 11) (.cons (JS 13 (.call (.t 7) [.t 12])) (.cons (JFe 14 13 0) (.cons (JFe 15 13 1) (.cons (JSc 16 216 [.t 14,.t 15]) (.cons (JFe 17 16 0) (.cons (JFe 18 16 1) (.cons (JSm 5 17) (.cons (JSm 6 18) .nil)))))))))))),(.cons (JFf 10 0 9) (.br [(.cons (JSl 7 2) (.cons (JFf 11 0 10) (.cons (JFL 12 8 11) (.cons (JS 13 (.call (.t 7) [.t 12])) (.cons (JFe 14 13 0) (.cons (JFe 15 13 1) (.cons (JSc 16 216 [.t 14,.t 15]) (.cons (JFe 17 16 0) (.cons (JFe 18 16 1) (.cons (JSm 5 17) (.cons (JSm 6 18) .nil))))))))))),(.cons (JFf 11 0 10) (.br [(.cons (JSl 7 2) (.cons (JFL 12 8 11) (.cons (JS 13 (.call (.t 7) [.t 12])) (.cons (JFe 14 13 0) (.cons (JFe 15 13 1) (.cons (JSc 16 216 [.t 14,.t 15]) (.cons (JFe 17 16 0) (.cons (JFe 18 16 1) (.cons (JSm 5 17) (.cons (JSm 6 18) .nil)))))))))),(.cons (JFL 12 8 11) (.cons (JSl 7 2) (.cons (JS 13 (.call (.t 7) [.t 12])) (.cons (JFe 14 13 0) (.cons (JFe 15 13 1) (.cons (JSc 16 216 [.t 14,.t 15]) (.cons (JFe 17 16 0) (.cons (JFe 18 16 1) (.cons (JSm 5 17) (.cons (JSm 6 18) .nil))))))))))]))]))]))]))])
def ZvO:FC:=⟨3,19,[.t 5,.t 6],(.seq (.ops [JS 5 (.mv (.k J0)),JSi 6 0]) (.seq (.drw Zw2) .ret))⟩
theorem ZBa:Zao Tryz.prog [7] 219=some ZvN:=by kernel_rfl
theorem ZBb:Zao Tryz.prog [7] 220=some ZvO:=by kernel_rfl
theorem Zru {f:FuncId} {b:Bar} {q:Nat} {l:List Int} {e:Int} (hf:FSpec Tryz.prog f [b.box.av] (.tup [.c (Zaj l),iv e])) (x:CD):ZaE Tryz.prog 219 [.bp 1000 0,.c x,.c (.raw (Zd6 q 0))] [.box b.avs,vbox (fnV f []) q] [] (fun r l'=>r= .tup [.c (Zaj l),iv e]∧l'=[.box b.avs,vbox (fnV f []) q]):=by
 simp only[Bx.av,Bx.avs] at hf;refine Zat ZBa (by first|simp|exact Nat.le_of_ble_eq_true rfl) (Nat.le_refl _) (by decide) (by decide) fun C hP hN hC hL=> ?_;rw[Zap,Zaw (by first|simp|exact Nat.le_of_ble_eq_true rfl)];simp only[ZvN,Zco,Za1,List.map_nil,List.map_cons,Nat.reduceAdd,]
 simp only[Bar.avs];refine vR ?_;refine Zdx (fun σ'=>Sub σ' ⟨upd (upd e0 5 (.c (Zaj l))) 6 (iv e),upd (upd o0 1000 (.box b.avs)) 1001 (vbox (fnV f []) q)⟩) ?_ ?_
 ·first|refine Zbx ?_|refine Zc0 ?_|refine Zgo ?_
  simp only[go_sem,hP];(repeat' (refine And.intro ?_ ?_))
  all_goals (
   refine ZjB (n:=1001) (vr:=.fn f []) rfl rfl rfl (fun w M loc=>Zem w M loc f) ?_;simp only[go_sem,hP];refine Zau hf ?_;simp only[go_sem,hP];refine Zai (by simp only[go_sem];exact Zam) (by unfold Bar.avs;simp only[go_sem];exact Zaa))
 ·intro σ' hs;refine ZaL hs ?_;(refine Zak ?_;simp only[Zaq,inQ,ZaB,Zar,Zae,ZaI];simp only[go_sem,ZaH,AV.keepP,AV.keepPL];refine ⟨_,[.box b.avs,vbox (fnV f []) q],rfl,Zag rfl rfl ?_ ?_ rfl,?_⟩)
  ·unfold Bar.avs;simp only[go_sem,Zal,Ob.keepP,AV.keepP,AV.keepPL]
  ·trivial
  ·exact ⟨rfl,rfl⟩
theorem Zrv {f:FuncId} {b:Bar} {q:Nat} {n e:Int} (hf:FSpec Tryz.prog f [b.box.av] (.tup [iv n,iv e])) (x:CD):ZaE Tryz.prog 220 [.bp 1000 0,.c x,.c (.raw (Zd6 q 0))] [.box b.avs,vbox (fnV f []) q] [] (fun r l'=>r= .tup [.c (Zaj [n]),iv e]∧l'=[.box b.avs,vbox (fnV f []) q]):=by
 simp only[Bx.av,Bx.avs] at hf;refine Zat ZBb (by first|simp|exact Nat.le_of_ble_eq_true rfl) (Nat.le_refl _) (by decide) (by decide) fun C hP hN hC hL=> ?_;rw[Zap,Zaw (by first|simp|exact Nat.le_of_ble_eq_true rfl)];simp only[ZvO,Zco,Za1,List.map_nil,List.map_cons,Nat.reduceAdd,]
 simp only[Bar.avs];refine vR ?_;refine Zdx (fun σ'=>Sub σ' ⟨upd (upd e0 5 (.c (Zaj [n]))) 6 (iv e),upd (upd o0 1000 (.box b.avs)) 1001 (vbox (fnV f []) q)⟩) ?_ ?_
 ·first|refine Zbx ?_|refine Zc0 ?_|refine Zgo ?_
  simp only[go_sem,hP];(repeat' (refine And.intro ?_ ?_))
  all_goals (
   refine ZjB (n:=1001) (vr:=.fn f []) rfl rfl rfl (fun w M loc=>Zem w M loc f) ?_;simp only[go_sem,hP];refine Zau hf ?_;simp only[go_sem,hP];refine Zau (ZqL n e) ?_;simp only[go_sem,hP];refine Zai (by simp only[go_sem];exact Zam) (by unfold Bar.avs;simp only[go_sem];exact Zaa))
 ·intro σ' hs;refine ZaL hs ?_;(refine Zak ?_;simp only[Zaq,inQ,ZaB,Zar,Zae,ZaI];simp only[go_sem,ZaH,AV.keepP,AV.keepPL];refine ⟨_,[.box b.avs,vbox (fnV f []) q],rfl,Zag rfl rfl ?_ ?_ rfl,?_⟩)
  ·unfold Bar.avs;simp only[go_sem,Zal,Ob.keepP,AV.keepP,AV.keepPL]
  ·trivial
  ·exact ⟨rfl,rfl⟩
end Go.Proofs.YtcggfogkfhlmlaaGreatDoor
/-
 Scripts in parts;which lines change a bar,and what they change. Plain.
-/
namespace Go.Proofs.YtcggfogkfhlmlaaGreatDoor
open Go Go.V
theorem ZjF (F:Bar→List UInt8→List UInt8×Bar) (b:Bar) (l:List (List UInt8)):(Zee F b l).1.length=l.length:=by
 have:=Zhz F b l l.length (Nat.le_refl _);rwa [List.take_length] at this
def ZuN:List UInt8:=[101,109,112,116,121]
end Go.Proofs.YtcggfogkfhlmlaaGreatDoor
/-
 The example that each law looks at:eleven lines,and what is answered. Plain.
-/
namespace Go.Proofs.YtcggfogkfhlmlaaGreatDoor
open Go Go.V
def k1:List UInt8:=[99,111,105,110,32,49]
def k2:List UInt8:=[112,114,101,115,115,32,51,32,48]
def k3:List UInt8:=[101,110,100]
def k4:List UInt8:=[115,116,97,110,100]
def k5:List UInt8:=[115,108,117,103,32,49]
def k6:List UInt8:=[99,97,115,104]
def k7:List UInt8:=[109,105,115,115,105,110,103]
def k8:List UInt8:=[99,97,110]
def k9:List UInt8:=[99,111,105,110,32,48,49]
def k10:List UInt8:=[101,109,112,116,121]
def Zmq:Bar:={exB with pl:=10,cr:=1,box:={exB.box with pl:=1,fo:=[0,1,0]}}
def Zjq:Bar:={Zmq with pl:=0,cr:=0,tray:={exB.tray with pres:=[⟨3,0⟩]}}
def ZdN:Bar:={Zjq with pl:=10,cr:=1,box:={Zjq.box with pl:=2,sl:=[0,1,0]}}
theorem ZrT {n:Nat} (h:n<10):Lib.itoa ((n:Nat):Int)=[UInt8.ofNat (48+n)]:=by rw[Lib.itoa_nonneg,Lib.decDigits_one h]
theorem ZvP {n:Nat} (h:10≤n∧n<100):Lib.itoa ((n:Nat):Int)=[UInt8.ofNat (48+n/10),UInt8.ofNat (48+n % 10)]:=by rw[Lib.itoa_nonneg,Lib.decDigits_two (by omega) h.2]
theorem i0:Lib.itoa 0=[48]:=ZrT (n:=0) (by decide)
theorem i1:Lib.itoa 1=[49]:=ZrT (n:=1) (by decide)
theorem i2:Lib.itoa 2=[50]:=ZrT (n:=2) (by decide)
theorem i10:Lib.itoa 10=[49,48]:=ZvP (n:=10) (by decide)
theorem i95:Lib.itoa 95=[57,53]:=ZvP (n:=95) (by decide)
theorem Zl1 {l:List Int} (h:l≠[]):Zi9 l 0=Lib.join (l.map Lib.itoa) [32]:=by
 unfold Zi9;rw[if_neg (by simp[h]),if_neg (by decide)]
theorem Zms:ZfP ZdN.box=(0,0):=by kernel_rfl
theorem Zmr:Zmf ZdN.box=[2]:=by
 unfold Zmf srt;rw[show ((((ZeA ZdN.box.wh (pur ZdN.box [])).filter fun e=>decide (e.1.bag=pur ZdN.box [])).map fun e=>e.1.bo).eraseDups)=[2] by kernel_rfl];simp
def wkL:List (List UInt8):=[k2,k1,k4,k2,k3,k5,k6,k7,k8,k9,k10]
def wkA:List (List UInt8):=[[110,111],[121,101,115],[49,48,32,49],[121,101,115],[57,53],[121,101,115],[49,48,32,48,32,49,48],[48],[50],[119,104,97,116],[110,111]]
end Go.Proofs.YtcggfogkfhlmlaaGreatDoor
