/-
  Contracts of the layer's functions, of the laws' helpers and of the law; conditions: as each theorem states.
-/
import Derived.Test.YtcggfogkfhlmlaaGreatDoorU6
import Derived.Test.YtcggfogkfhlmlaaGreatDoorU4
import Derived.Test.YtcggfogkfhlmlaaGreatDoorV2
set_option linter.unusedVariables false
set_option linter.unusedSimpArgs false
namespace Go.Proofs.YtcggfogkfhlmlaaGreatDoor
open Go Go.V
def Zvf:FC:=⟨1,8,[.t 2],(.seq (.ops [JS 2 (.mv (.k J0))]) (.seq (.seq (.ops [JSm 3 0,JS 4 (.nils false (.t 3))]) (.cond (.t 4) (.seq (.ops [JS 2 (.mv (.k J0))]) .ret) .skip)) (.seq (.ops [JS 5 (.bsl 166 2 []),JSm 6 0,JS 7 (.app 166 2 16 (.t 5) (.t 6)),JSm 2 7]) .ret)))⟩
abbrev ZyM:List Ins:=[JSf 5 0 1,JSf 6 0 5,JSf 7 1 6,JSf 8 0 1,JSf 9 0 8,JSf 10 2 9,JSf 11 0 1,JSf 12 3 11,JSf 13 0 1,JSf 14 4 13,JSf 15 0 1,JSf 16 5 15,JS 17 (.raw (.build 196 #[(0,(.tmp 7)),(1,(.tmp 10)),(2,(.tmp 12)),(3,(.tmp 14)),(4,(.tmp 16))])),JSi 18 0]
-- K92_1: changed and kept: [18]
abbrev ZxI:VC:=(.seq (.seq (.ops ZyM) (.block 0 (.loop (.seq (.ops [JSk 19 .lss 18 5]) (.seq (.cond (.t 19) .skip (.exit 0)) (.seq (.block 1 (.seq (.ops [JS 20 (.raw (.index 196 (.tmp 17) (.tmp 18))),JSm 4 20]) (.ops [JSm 21 4,JSm 22 4,JS 23 (.nilc (.t 22)),JSl 24 23,JSc 25 124 [.t 24],JS 26 (.nilc (.t 21)),JUs 1 26 25]))) (.ops [JSk 27 .add 18 1,JSm 18 27]))))))) (.seq (.dops [JFf 28 10 1,JFf 29 0 28,JFl 30 29,JFc 31 125 [.t 30],JFf 32 10 1,JFf 33 4 32,JFl 34 33,JSc 35 76 [.t 34],JSf 36 10 1,JSf 37 0 36,JUs 1 37 31,JSf 38 10 1,JSf 39 4 38,JUs 1 39 35]) (.seq (.ops [JSL 40 15 1,JUs 15 2 40]) .ret)))
def Zyf:FC:=⟨1,41,[.cell 2 false 15],(.seq (.ops [JS 1 (.box 15 (.t 0)),JS 2 (.alloc [Jz 0,J0,J0,J0,J0,J0,Jz 0,Jz 0,Jz 0,Jz 0,J0,Jz 0,Jz 0,Jz 0,J0])]) ZxI)⟩
theorem ZAD:Zao Tryz.prog [] 125=some Zvf:=by kernel_rfl
theorem c92:Zao Tryz.prog [35] 92=some Zyf:=by kernel_rfl
attribute [local go_sem] Nat.reduceEqDiff Nat.reduceAdd Nat.reduceMul reduceIte Nat.reduceLeDiff Nat.reduceLT Nat.reduceBEq reduceCtorEq
theorem Zmj (l:List Rec) (hl:l.length≤1000):FSpec Tryz.prog 125 [.c (ZaO l)] (.c (ZaO l)):=by
 have hmax:maxLen=9223372036854775807:=rfl;refine Zac ZAD (Nat.le_refl _) (by decide) fun C hP hN hC hL=> ?_;rw[Zad]
 simp only[Zvf,ZaO];cases l with
 |nil=>
  refine vR ?_;intro b;refine vR ?_;cases b
  ·(refine vC ?_ ?_<;>intro h)
   ·simp at h
   ·(repeat (refine vV ?_;(try simp only[go_sem,hP,List.all_nil]);refine vQ ?_))
    (refine vT ?_;try exact trivial)
  ·(refine vC ?_ ?_<;>intro h)
   ·refine vR ?_;(refine Zak ?_;simp only[Zaq,inQ,ZgY,ZcN,Zae,ZaI];simp only[go_sem,ZaH,AV.port,AV.portL,exists_eq_left'])
    exact AVle.nil 2
   ·simp at h
 |cons a l=>
  refine vR ?_;(refine vC ?_ ?_<;>intro h)
  ·simp at h
  ·clear h;have hlen:l.length+1≤1000:=hl;have hp:((a.cds::l.map Rec.cds).all fun e=>e.length==2)=true:=by
    rw[List.all_eq_true];intro e he;rcases List.mem_cons.1 he with rfl|he
    ·rfl
    ·obtain ⟨n,_,rfl⟩:=List.mem_map.1 he;rfl
   (repeat (refine vV ?_;(try simp only[go_sem,hP,hp,List.length_cons,List.length_map]);refine vQ ?_))
   (refine vT ?_;try exact trivial)
structure BarLn (b:Bar):Prop where
 no:b.box.wh.no.length≤1000
 co:b.box.wh.co.length≤1000
 fo:b.box.fo.length≤1000
 ma:b.box.ma.length≤1000
 sl:b.box.sl.length≤1000
 rc:b.tray.recs.length≤1000
 pr:b.tray.pres.length≤1000
def Bar.avsP (b:Bar) (p:AV):List AV:=[iv b.box.wh.ro,.c (Zaj b.box.wh.no),.c (Zaj b.box.wh.co),.c (Zaj b.box.fo),.c (Zaj b.box.ma),.c (Zaj b.box.sl),iv b.box.pl,iv b.box.sk,iv b.pl,iv b.cr,.c (ZaO b.tray.recs),iv b.tray.at_,iv b.tray.way,iv b.tray.step,p]
set_option maxHeartbeats 1000000 in
theorem copied26 {b:Bar} (hb:BarLn b):Za3 Tryz.prog 92 [b.av] (fun r os=>r= .agg (b.avsP (.gr 1000))∧os=[.grow 122 2 (b.tray.pres.map Pr.cds)]):=by
 refine ZaK c92 (Nat.le_refl _) (by decide) fun C hP hN hC hL=> ?_;rw[Zad]
 simp only[Zyf,Bar.av,Bar.avs];refine vR ?_;refine Ze9 (e:=195) (n:=5) (sz:=1) (z:=List.replicate 5 (.c (.raw (.pointer none)))) (ps:=[(0,1,.t 7),(1,1,.t 10),(2,1,.t 12),(3,1,.t 14),(4,1,.t 16)]) (r:=[.bp 1 1,.bp 1 2,.bp 1 3,.bp 1 4,.bp 1 5]) (by kernel_rfl) (by kernel_rfl) (by kernel_rfl) rfl ?_ rfl ?_ ?_
 ·intro i q hq;have:i=0∨i=1∨i=2∨i=3∨i=4∨5≤i:=by omega
  rcases this with rfl|rfl|rfl|rfl|rfl|h
  case inr.inr.inr.inr.inr=>rw[List.getElem?_eq_none (by exact h)] at hq;cases hq
  all_goals (cases hq;exact ⟨_,rfl,rfl⟩)
 ·simp only[go_sem]
 simp only[go_sem,hP];refine vR ?_;refine ZaQ (fun k:Nat=>⟨upd (upd (upd (upd e0 1 (.bp 1 0)) 2 (.bp 2 0)) 17 (.agg [.bp 1 1,.bp 1 2,.bp 1 3,.bp 1 4,.bp 1 5])) 18 (iv k),upd (upd o0 1 (.box b.avs)) 2 (.box [iv 0,.c (.raw (.slice none 0 0)),.c (.raw (.slice none 0 0)),.c (.raw (.slice none 0 0)),.c (.raw (.slice none 0 0)),.c (.raw (.slice none 0 0)),iv 0,iv 0,iv 0,iv 0,.c (.raw (.slice none 0 0)),iv 0,iv 0,iv 0,.c (.raw (.slice none 0 0))])⟩) (fun k=>k≤5) (fun k=>5 -k) 0 (Nat.zero_le _) ?_ ?_
 ·refine Zai (by simp only[go_sem];exact Zam) (by unfold Bar.avs;simp only[go_sem];exact Zaa)
 intro k hk;unfold Bar.avs;refine vR ?_;(refine vC ?_ ?_<;>intro h)
 ·have hi:k<5:=by simp at h;omega
  (refine Zcb ?_;simp only[go_sem])
  refine ZaG (Zcs (ZaG ?_));have w1:=w64 (n:=(k:Int)+1) (by omega) (by omega);have:k=0∨k=1∨k=2∨k=3∨k=4:=by omega
  have h1:=ZdA _ hb.no;have h2:=ZdA _ hb.co;have h3:=ZdA _ hb.fo;have h4:=ZdA _ hb.ma;have h5:=ZdA _ hb.sl;rcases this with rfl|rfl|rfl|rfl|rfl
  all_goals (
   (refine ZcH ?_;simp only[go_sem,hP];refine vQ ?_)
   refine ZbM (e:=195) (n:=5) (x':=.t 17) (i':=.t 18) (k:=.i64) (j:=_) (by kernel_rfl) (by kernel_rfl) (by kernel_rfl) rfl rfl rfl rfl rfl rfl (by omega) rfl ?_;simp only[go_sem,hP];refine vR ?_;first|refine Zau h1 ?_|refine Zau h2 ?_|refine Zau h3 ?_|refine Zau h4 ?_|refine Zau h5 ?_
   simp only[go_sem,hP];refine vQ ?_;refine vW w1 ?_)
  all_goals (first|refine ⟨1,by omega,by omega,Zai (by simp only[go_sem];exact Zam) (by simp only[go_sem];exact Zaa)⟩|refine ⟨2,by omega,by omega,Zai (by simp only[go_sem];exact Zam) (by simp only[go_sem];exact Zaa)⟩|refine ⟨3,by omega,by omega,Zai (by simp only[go_sem];exact Zam) (by simp only[go_sem];exact Zaa)⟩|refine ⟨4,by omega,by omega,Zai (by simp only[go_sem];exact Zam) (by simp only[go_sem];exact Zaa)⟩|refine ⟨5,by omega,by omega,Zai (by simp only[go_sem];exact Zam) (by simp only[go_sem];exact Zaa)⟩)
 ·have hk5:k=5:=by simp at h;omega
  subst hk5;have h6:=Zmj _ hb.rc;refine vR ?_;(refine Za0 (h6) rfl rfl rfl rfl rfl ?_;simp only[go_sem,hP];refine vQ ?_;refine vR ?_)
  refine ZaR (ZoJ _ hb.pr) rfl rfl rfl rfl ?_;rintro r os ⟨rfl,rfl⟩;refine ⟨[35],_,_,by simp,rfl,rfl,rfl,rfl,?_⟩;simp only[go_sem,hP,Zab];refine vQ ?_;refine vR ?_;(refine Zak ?_;simp only[Zaq,inQ,Zbe,ZaP,Zae,ZaI];simp only[go_sem,ZaH])
  refine ⟨[35],_,_,_,by simp,by simp,rfl,AVle.refl _,rfl,rfl,rfl⟩
abbrev ZtK:VC:=(.seq (.ops [JSb 18 .lss 17 16]) (.seq (.cond (.t 18) .skip (.exit 0)) (.seq (.block 1 (.seq (.ops [JSa 19 2 15 17,JSL 20 2 19,JS 6 (.alloc [Jz 0,Jz 0]),JUs 2 6 20]) (.seq (.dops [JFf 21 1 6,JFl 22 21,JFm 23 1,JF 24 (.ia 1 (.t 23) (.k (Jz 1))),JFl 25 24,JSb 26 .gtr 22 25]) (.cond (.t 26) (.seq (.ops [JSB 4 false]) .ret) .skip)))) (.ops [JSk 27 .add 17 1,JSm 17 27]))))
-- K180_1: changed and kept: [17]
abbrev Zs9:OT:=(.cons (JFm 29 0) (.cons (JF 30 (.nilc (.t 29))) (.cons (JFf 31 0 30) (.cons (JFf 32 0 31) (.cons (JFf 33 0 32) (.cons (JFL 34 3 33) (.cons (JFm 35 0) (.cons (JF 36 (.nilc (.t 35))) (.cons (JFf 37 0 36) (.cons (JFf 38 8 37) (.cons (JFL 39 2 38) (.br [(.cons (JF 40 (.bsl 3 1 [(.k (Jz (-1)))])) (.cons (JF 7 (.alloc [Jz 0,Jz 0])) (.cons (JFc 41 40 [.t 34,.t 39,.t 40]) (.cons (JFm 28 41) (.cons (JFe 42 28 0) (.cons (JFe 43 28 1) (.cons (JFe 44 28 2) (.cons (JE (Js 2 7 42)) (.cons (JFm 8 43) (.cons (JSm 9 44) .nil)))))))))),(.cons (JF 7 (.alloc [Jz 0,Jz 0])) (.cons (JF 40 (.bsl 3 1 [(.k (Jz (-1)))])) (.cons (JFc 41 40 [.t 34,.t 39,.t 40]) (.cons (JFm 28 41) (.cons (JFe 42 28 0) (.cons (JFe 43 28 1) (.cons (JFe 44 28 2) (.cons (JE (Js 2 7 42)) (.cons (JFm 8 43) (.cons (JSm 9 44) .nil))))))))))]))))))))))))
abbrev Zsa:List Ins:=[JFm 56 0,JFm 57 0,JF 58 (.nilc (.t 57)),JFf 59 0 58,JFf 60 10 59,JFf 61 4 60,JFl 62 61,JFm 63 1,JF 64 (.ia 1 (.t 63) (.k (Jz 0))),JFl 65 64,JFm 66 1,JF 67 (.ia 1 (.t 66) (.k (Jz 1))),JFl 68 67,JF 69 (.bld [Jz 0,Jz 0] [(0,1,(.t 65)),(1,1,(.t 68))]),JF 70 (.bsl 122 2 [.t 69]),JF 71 (.app 122 2 16 (.t 62) (.t 70)),JS 72 (.nilc (.t 56)),JSf 73 0 72,JSf 74 10 73,JSf 75 4 74,JUs 1 75 71]
abbrev ZtL:VC:=(.seq (.seq (.ops [JSm 10 0,JS 11 (.nilc (.t 10)),JSf 12 0 11,JSf 13 10 12,JSf 14 4 13,JSl 15 14,JSn 16 15,JSi 17 0]) (.block 0 (.loop ZtK))) (.seq (.drw Zs9) (.seq (.seq (.ops [JSm 45 9,JSk 46 .neq 45 0,JSm 47 46,JNm 48 8 47,JNk 49 .eql 48 0 47,JSo 50 47 49]) (.cond (.t 50) (.seq (.ops [JSB 4 false]) .ret) .skip)) (.seq (.ops [JSm 51 0,JSL 52 2 7,JS 53 (.nilc (.t 51)),JSf 54 0 53,JSf 55 8 54,JUs 2 55 52]) (.seq (.dops Zsa) (.seq (.ops [JSB 4 true]) .ret))))))
def ZvE:FC:=⟨2,76,[.t 4],(.seq (.ops [JSB 4 false]) ZtL)⟩
theorem ZA1:Zao Tryz.prog [] 180=some ZvE:=by kernel_rfl
def Zdh (b:Bar) (side time:Int):Option Bar:=
 if b.tray.pres.all (fun p=>decide (p.time≤time))=true∧(Zez b.box.wh b.pl b.cr [-1]).2=0∧(Zez b.box.wh b.pl b.cr [-1]).1.2.2≠0 then
  some {b with pl:=(Zez b.box.wh b.pl b.cr [-1]).1.1,cr:=(Zez b.box.wh b.pl b.cr [-1]).1.2.1,tray:={b.tray with pres:=b.tray.pres++[⟨side,time⟩]}}
 else none
def Zmi (b:Bar) (o:Option Bar) (r:AV) (l':List Ob):Prop:=
 match o with
 |none=>r= .c (.bool false)∧l'=[.box (b.avsP (.gr 1001)),.grow 122 2 (b.tray.pres.map Pr.cds)]
 |some b'=>r= .c (.bool true)∧l'=[.box (b'.avsP (.gr 1001)),.grow 122 2 (b'.tray.pres.map Pr.cds)]
theorem Zsz {b:Bar} (hb:BarLn b) (s x:Int):ZaE Tryz.prog 180 [.bp 1000 0,.c (Zaj [s,x])] [.box (b.avsP (.gr 1001)),.grow 122 2 (b.tray.pres.map Pr.cds)] [] (Zmi b (Zdh b s x)):=by
 have hm:maxLen=9223372036854775807:=rfl;have hpr:=hb.pr;refine ZcD ZA1 (by first|simp|exact Nat.le_of_ble_eq_true rfl) (Nat.le_refl _) (by decide) (by decide) fun C hP hN hC hpin hL=> ?_;rw[Zap,Zaw (by first|simp|exact Nat.le_of_ble_eq_true rfl)];simp only[ZvE,Zco,Za1,List.map_nil,List.map_cons,Nat.reduceAdd,]
 (repeat (refine vV ?_;(try simp only[go_sem,hP,Zaj,Bar.avsP,List.length_map]);refine vQ ?_))
 refine ZaQ (fun k:Nat=>⟨upd (upd (upd (upd (upd (upd e0 0 (.bp 1000 0)) 1 (.c (Zaj [s,x]))) 4 (.c (.bool false))) 15 (.gr 1001)) 16 (iv b.tray.pres.length)) 17 (iv k),upd (upd o0 1000 (.box (b.avsP (.gr 1001)))) 1001 (.grow 122 2 (b.tray.pres.map Pr.cds))⟩) (fun k=>k≤b.tray.pres.length∧(b.tray.pres.take k).all (fun p=>decide (p.time≤x))=true) (fun k=>b.tray.pres.length -k) 0 ⟨Nat.zero_le _,rfl⟩ ?_ ?_
 ·refine Zai (by unfold Zaj;simp only[go_sem];exact Zam) (by unfold Bar.avsP;simp only[go_sem];exact Zaa)
 rintro k ⟨hk,hr⟩;refine vR0 ?_;(refine vC ?_ ?_<;>intro h)
 ·have hi:k<b.tray.pres.length:=by simpa using h
  have w1:=w64 (n:=(k:Int)+1) (by omega) (by omega);obtain ⟨p,hp⟩:∃p,p=b.tray.pres[k]:=⟨_,rfl⟩;have hg:(b.tray.pres.map Pr.cds).getD k []=p.cds:=by rw[Za7 hi,hp]
  have hts:(b.tray.pres.take (k+1)).all (fun p=>decide (p.time≤x))=decide (p.time≤x):=by rw[Zd9 _ hi,hr,Bool.true_and,hp]
  (repeat (refine vV ?_;(try simp only[go_sem,hP,hg,List.length_map,Int.toNat_natCast,Pr.cds]);refine vQ ?_))
  by_cases hpt:p.time≤x
  ·(refine vC ?_ ?_<;>intro h)
   ·simp at h;omega
   ·refine vW w1 ?_;refine ⟨k+1,⟨by omega,by rw[hts];simpa using hpt⟩,by omega,?_⟩;refine Zai (by simp only[go_sem];exact Zam) (by unfold Bar.avsP;simp only[go_sem];exact Zaa)
  ·have hno:Zdh b s x=none:=by
    unfold Zdh;rw[if_neg];rintro ⟨h1,_⟩;have:=List.all_eq_true.1 h1 p (by rw[hp];exact List.getElem_mem hi);exact hpt (by simpa using this)
   rw[hno];(refine vC ?_ ?_<;>intro h)
   ·refine vR ?_;(refine Zak ?_;simp only[Zaq,inQ,ZaB,Zar,Zae,ZaI];simp only[go_sem,ZaH,AV.keepP,AV.keepPL];refine ⟨_,[.box (b.avsP (.gr 1001)),.grow 122 2 (b.tray.pres.map Pr.cds)],rfl,Zag rfl rfl ?_ ?_ rfl,?_⟩)
    ·unfold Bar.avsP;simp only[go_sem,Zal,Ob.keepP,AV.keepP,AV.keepPL]
    ·trivial
    ·exact ⟨rfl,rfl⟩
   ·simp at h;omega
 ·have hkl:k=b.tray.pres.length:=by
   have:¬(k<b.tray.pres.length):=by simpa using h
   omega
  subst hkl;rw[List.take_length] at hr;unfold Bar.avsP;refine vR ?_;have hrun:=run69 b.box.wh b.pl b.cr [-1];simp only[Wh.av,Wh.avs] at hrun;generalize hR:Zez b.box.wh b.pl b.cr [-1]=R at hrun;obtain ⟨⟨pl',cr',md⟩,e⟩:=R;simp only at hrun;refine Zdx (fun σ'=>Sub σ' ⟨upd (upd (upd (upd (upd (upd e0 0 (.bp 1000 0)) 1 (.c (Zaj [s,x]))) 4 (.c (.bool false))) 7 (.bp 7 0)) 8 (iv md)) 9 (iv e),upd (upd (upd o0 1000 (.box (b.avsP (.gr 1001)))) 1001 (.grow 122 2 (b.tray.pres.map Pr.cds))) 7 (.box [iv pl',iv cr'])⟩) ?_ ?_
  ·refine Zbx ?_;simp only[go_sem,hP];(repeat' (refine And.intro ?_ ?_))
   all_goals (
    (refine Za0 (hrun) rfl rfl rfl rfl rfl ?_;simp only[go_sem,hP];refine vQ ?_;refine vR ?_)
    refine Zai (by unfold Zaj;simp only[go_sem];exact Zam) (by unfold Bar.avsP;simp only[go_sem];exact Zaa))
  ·intro σ' hs;refine ZaL hs ?_;unfold Bar.avsP;refine vR ?_;by_cases hbad:e≠0∨md=0
   ·have hno:Zdh b s x=none:=by
     unfold Zdh;rw[if_neg];rw[hR];rintro ⟨_,h2,h3⟩;rcases hbad with h|h
     ·exact h h2
     ·exact h3 h
    rw[hno];(refine vC ?_ ?_<;>intro h)
    ·refine vR ?_;(refine Zak ?_;simp only[Zaq,inQ,ZaB,Zar,Zae,ZaI];simp only[go_sem,ZaH,AV.keepP,AV.keepPL];refine ⟨_,[.box (b.avsP (.gr 1001)),.grow 122 2 (b.tray.pres.map Pr.cds)],rfl,Zag rfl rfl ?_ ?_ rfl,?_⟩)
     ·unfold Bar.avsP;simp only[go_sem,Zal,Ob.keepP,AV.keepP,AV.keepPL]
     ·trivial
     ·exact ⟨rfl,rfl⟩
    ·exfalso;simp at h;rcases hbad with h2|h2
     ·exact h2 h.1
     ·exact h.2 h2
   ·obtain ⟨he,hmd⟩:=not_or.1 hbad;have he:e=0:=by omega
    have hyes:Zdh b s x=some {b with pl:=pl',cr:=cr',tray:={b.tray with pres:=b.tray.pres++[⟨s,x⟩]}}:=by
     unfold Zdh;rw[hR];rw[if_pos ⟨hr,he,hmd⟩]
    rw[hyes];(refine vC ?_ ?_<;>intro h)
    ·exfalso;simp[he,hmd] at h
    ·have hp2:=Zew b.tray.pres;refine vR2 ?_;refine ZjQ 71 1001 (by decide) (fun hq=>by have h2:false=true:=hpin 1001 hq;cases h2) rfl ?_;simp only[go_sem];(refine Zak ?_;simp only[Zaq,inQ,ZaB,Zar,Zae,ZaI];simp only[go_sem,ZaH,AV.keepP,AV.keepPL];refine ⟨_,[.box (Bar.avsP {b with pl:=pl',cr:=cr',tray:={b.tray with pres:=b.tray.pres++[⟨s,x⟩]}} (.gr 1001)),.grow 122 2 ((b.tray.pres++[(⟨s,x⟩:Pr)]).map Pr.cds)],rfl,Zag rfl rfl ?_ ?_ rfl,?_⟩)
     ·unfold Bar.avsP;simp only[go_sem,Zal,Ob.keepP,AV.keepP,AV.keepPL,Zaj,List.map_append];rfl
     ·trivial
     ·exact ⟨rfl,rfl⟩
def ZvL:FC:=⟨2,9,[.t 4,.t 5],(.seq (.ops [JS 4 (.mv (.k J0)),JSi 5 0]) (.seq (.ops [JSm 6 0,JS 7 (.bsl 3 1 [.t 6]),JSm 8 1,JSm 4 7,JSm 5 8]) .ret))⟩
def ZvG:FC:=⟨2,19,[.t 4,.t 5],(.seq (.ops [JS 4 (.mv (.k J0)),JSi 5 0]) (.seq (.dops [JFm 6 0,JF 7 (.nilc (.t 6)),JFf 8 0 7,JFf 9 8 8,JFf 10 0 9,JFl 11 10,JFm 12 0,JF 13 (.nilc (.t 12)),JFf 14 0 13,JFf 15 8 14,JFf 16 1 15,JFl 17 16,JS 18 (.bsl 3 1 [.t 11,.t 17]),JSm 4 18,JSi 5 0]) .ret))⟩
abbrev Zw0:OT:=(.br [(.cons (JSl 7 2) (.cons (JFm 8 0) (.cons (JF 9 (.nilc (.t 8))) (.cons (JFf 10 0 9) (.cons (JFf 11 10 10) (.cons (JFL 12 5 11) (.cons (JS 13 (.call (.t 7) [.t 12])) (.cons (JFe 14 13 0) (.cons (JFe 15 13 1) (.cons (JSc 16 216 [.t 14,.t 15]) (.cons (JFe 17 16 0) (.cons (JFe 18 16 1) (.cons (JSm 5 17) (.cons (JSm 6 18) .nil)))))))))))))),(.cons (JFm 8 0) (.br [(.cons (JSl 7 2) (.cons (JF 9 (.nilc (.t 8))) (.cons (JFf 10 0 9) (.cons (JFf 11 10 10) (.cons (JFL 12 5 11) (.cons (JS 13 (.call (.t 7) [.t 12])) (.cons (JFe 14 13 0) (.cons (JFe 15 13 1) (.cons (JSc 16 216 [.t 14,.t 15]) (.cons (JFe 17 16 0) (.cons (JFe 18 16 1) (.cons (JSm 5 17) (.cons (JSm 6 18) .nil))))))))))))),(.cons (JF 9 (.nilc (.t 8))) (.br [(.cons (JSl 7 2) (.cons (JFf 10 0 9) (.cons (JFf 11 10 10) (.cons (JFL 12 5 11) (.cons (JS 13 (.call (.t 7) [.t 12])) (.cons (JFe 14 13 0) (.cons (JFe 15 13 1) (.cons (JSc 16 216 [.t 14,.t 15]) (.cons (JFe 17 16 0) (.cons (JFe 18 16 1) (.cons (JSm 5 17) (.cons (JSm 6 18) .nil)))))))))))),(.cons (JFf 10 0 9) (.br [(.cons (JSl 7 2) (.cons (JFf 11 10 10) (.cons (JFL 12 5 11) (.cons (JS 13 (.call (.t 7) [.t 12])) (.cons (JFe 14 13 0) (.cons (JFe 15 13 1) (.cons (JSc 16 216 [.t 14,.t 15]) (.cons (JFe 17 16 0) (.cons (JFe 18 16 1) (.cons (JSm 5 17) (.cons (JSm 6 18) .nil))))))))))),(.cons (JFf 11 10 10) (.br [(.cons (JSl 7 2) (.cons (JFL 12 5 11) (.cons (JS 13 (.call (.t 7) [.t 12])) (.cons (JFe 14 13 0) (.cons (JFe 15 13 1) (.cons (JSc 16 216 [.t 14,.t 15]) (.cons (JFe 17 16 0) (.cons (JFe 18 16 1) (.cons (JSm 5 17) (.cons (JSm 6 18) .nil)))))))))),(.cons (JFL 12 5 11) (.cons (JSl 7 2) (.cons (JS 13 (.call (.t 7) [.t 12])) (.cons (JFe 14 13 0) (.cons (JFe 15 13 1) (.cons (JSc 16 216 [.t 14,.t 15]) (.cons (JFe 17 16 0) (.cons (JFe 18 16 1) (.cons (JSm 5 17) (.cons (JSm 6 18) .nil))))))))))]))]))]))]))])
def ZvM:FC:=⟨3,19,[.t 5,.t 6],(.seq (.ops [JS 5 (.mv (.k J0)),JSi 6 0]) (.seq (.drw Zw0) .ret))⟩
theorem ZA8:Zao Tryz.prog [] 216=some ZvL:=by kernel_rfl
theorem ZA3:Zao Tryz.prog [] 184=some ZvG:=by kernel_rfl
theorem ZA9:Zao Tryz.prog [7] 217=some ZvM:=by kernel_rfl
theorem ZqL (n e:Int):FSpec Tryz.prog 216 [iv n,iv e] (.tup [.c (Zaj [n]),iv e]):=by
 refine Zac ZA8 (Nat.le_refl _) (by decide) fun C hP hN hC hL=> ?_;rw[Zad]
 simp only[ZvL,Zaj];refine vR ?_;(refine vT ?_;try exact trivial)
theorem Zs5 (b:Bar) (x:CD):ZaE Tryz.prog 184 [.bp 1000 0,.c x] [.box b.avs] [] (fun r l'=>r= .tup [.c (Zaj [b.pl,b.cr]),iv 0]∧l'=[.box b.avs]):=by
 refine Zat ZA3 (by first|simp|exact Nat.le_of_ble_eq_true rfl) (Nat.le_refl _) (by decide) (by decide) fun C hP hN hC hL=> ?_;rw[Zap,Zaw (by first|simp|exact Nat.le_of_ble_eq_true rfl)];simp only[ZvG,Zco,Za1,List.map_nil,List.map_cons,Nat.reduceAdd,]
 simp only[Bar.avs];refine vR ?_;(refine Zak ?_;simp only[Zaq,inQ,ZaB,Zar,Zae,ZaI];simp only[go_sem,ZaH,AV.keepP,AV.keepPL];refine ⟨_,[.box b.avs],rfl,Zag rfl rfl ?_ ?_ rfl,?_⟩)
 ·unfold Bar.avs;simp only[go_sem,Zal,Ob.keepP,AV.keepP,AV.keepPL]
 ·trivial
 ·exact ⟨rfl,rfl⟩
theorem Zrt {f:FuncId} {b:Bar} {q:Nat} {n e:Int} (hf:FSpec Tryz.prog f [b.tray.av] (.tup [iv n,iv e])) (x:CD):ZaE Tryz.prog 217 [.bp 1000 0,.c x,.c (.raw (Zd6 q 0))] [.box b.avs,vbox (fnV f []) q] [] (fun r l'=>r= .tup [.c (Zaj [n]),iv e]∧l'=[.box b.avs,vbox (fnV f []) q]):=by
 simp only[Tray.av] at hf;refine Zat ZA9 (by first|simp|exact Nat.le_of_ble_eq_true rfl) (Nat.le_refl _) (by decide) (by decide) fun C hP hN hC hL=> ?_;rw[Zap,Zaw (by first|simp|exact Nat.le_of_ble_eq_true rfl)];simp only[ZvM,Zco,Za1,List.map_nil,List.map_cons,Nat.reduceAdd,]
 simp only[Bar.avs];refine vR ?_;refine Zdx (fun σ'=>Sub σ' ⟨upd (upd e0 5 (.c (Zaj [n]))) 6 (iv e),upd (upd o0 1000 (.box b.avs)) 1001 (vbox (fnV f []) q)⟩) ?_ ?_
 ·refine Zbx ?_;simp only[go_sem,hP];(repeat' (refine And.intro ?_ ?_))
  all_goals (
   refine ZjB (n:=1001) (vr:=.fn f []) rfl rfl rfl (fun w M loc=>Zem w M loc f) ?_;simp only[go_sem,hP];refine Zau hf ?_;simp only[go_sem,hP];refine Zau (ZqL n e) ?_;simp only[go_sem,hP];refine Zai (by simp only[go_sem];exact Zam) (by unfold Bar.avs;simp only[go_sem];exact Zaa))
 ·intro σ' hs;refine ZaL hs ?_;(refine Zak ?_;simp only[Zaq,inQ,ZaB,Zar,Zae,ZaI];simp only[go_sem,ZaH,AV.keepP,AV.keepPL];refine ⟨_,[.box b.avs,vbox (fnV f []) q],rfl,Zag rfl rfl ?_ ?_ rfl,?_⟩)
  ·unfold Bar.avs;simp only[go_sem,Zal,Ob.keepP,AV.keepP,AV.keepPL]
  ·trivial
  ·exact ⟨rfl,rfl⟩
abbrev Zwm:List Ins:=[JSm 12 1,JSk 13 .lss 12 0,JSm 14 13,JNm 15 1 14,JNm 16 0 14,JG 17 (.nilc (.t 16)) 14 false,JNf 18 0 17 14,JNf 19 0 18 14,JNf 20 0 19 14,JNf 21 2 20 14,JNl 22 21 14,JNn 23 22 14,JNb 24 .geq 15 23 14,JSo 25 14 24]
abbrev ZwX:OT:=(.cons (JFm 27 0) (.cons (JF 28 (.nilc (.t 27))) (.cons (JFf 29 0 28) (.cons (JFf 30 0 29) (.cons (JFf 31 0 30) (.cons (JFL 32 3 31) (.cons (JFm 33 0) (.cons (JF 34 (.nilc (.t 33))) (.cons (JFf 35 0 34) (.cons (JFf 36 8 35) (.cons (JFL 37 2 36) (.cons (JFm 38 1) (.br [(.cons (JF 39 (.bsl 3 1 [.t 38])) (.cons (JF 7 (.alloc [Jz 0,Jz 0])) (.cons (JFc 40 40 [.t 32,.t 37,.t 39]) (.cons (JFm 26 40) (.cons (JFe 41 26 0) (.cons (JFe 42 26 1) (.cons (JFe 43 26 2) (.cons (JE (Js 2 7 41)) (.cons (JFm 8 42) (.cons (JSm 9 43) .nil)))))))))),(.cons (JF 7 (.alloc [Jz 0,Jz 0])) (.cons (JF 39 (.bsl 3 1 [.t 38])) (.cons (JFc 40 40 [.t 32,.t 37,.t 39]) (.cons (JFm 26 40) (.cons (JFe 41 26 0) (.cons (JFe 42 26 1) (.cons (JFe 43 26 2) (.cons (JE (Js 2 7 41)) (.cons (JFm 8 42) (.cons (JSm 9 43) .nil))))))))))])))))))))))))
abbrev Zr9:List Ins:=[JFm 46 0,JF 47 (.nilc (.t 46)),JFf 48 0 47,JFf 49 0 48,JFf 50 6 49,JFl 51 50,JFf 52 1 7,JFl 53 52,JFm 54 0,JF 55 (.nilc (.t 54)),JFf 56 0 55,JFf 57 8 56,JFf 58 1 57,JFl 59 58,JFb 60 .sub 53 59,JSb 61 .add 51 60,JS 62 (.nilc (.t 46)),JSf 63 0 62,JSf 64 0 63,JSf 65 6 64,JUs 1 65 61]
-- K177_1: changed and kept: [73]
abbrev Zn6:VC:=(.seq (.seq (.ops [JSm 71 2,JSn 72 71,JSi 73 0]) (.block 0 (.loop (.seq (.ops [JSb 74 .lss 73 72]) (.seq (.cond (.t 74) .skip (.exit 0)) (.seq (.block 1 (.seq (.ops [JSa 75 1 71 73,JSl 76 75,JSm 11 76]) (.ops [JSm 77 11,JSm 78 1,JSa 79 1 77 78,JSl 80 79,JSk 81 .add 80 1,JSa 82 1 77 78,JUs 1 82 81]))) (.ops [JSk 83 .add 73 1,JSm 73 83]))))))) (.seq (.ops [JSB 6 true]) .ret))
def ZvC:FC:=⟨3,84,[.t 6],(.seq (.ops [JSB 6 false]) (.seq (.seq (.ops Zwm) (.cond (.t 25) (.seq (.ops [JSB 6 false]) .ret) .skip)) (.seq (.drw ZwX) (.seq (.seq (.ops [JSm 44 9,JSk 45 .neq 44 0]) (.cond (.t 45) (.seq (.ops [JSB 6 false]) .ret) .skip)) (.seq (.dops Zr9) (.seq (.ops [JSm 66 0,JSL 67 2 7,JS 68 (.nilc (.t 66)),JSf 69 0 68,JSf 70 8 69,JUs 2 70 67]) Zn6))))))⟩
theorem ZAZ:Zao Tryz.prog [] 177=some ZvC:=by kernel_rfl
theorem Zk3 {b:Bar} (hB:Zcr b=true) {kind:Int} (hk:0≤kind∧kind<(b.box.wh.co.length:Int)) {pl' cr' md e:Int} (hR:Zez b.box.wh b.pl b.cr [kind]=((pl',cr',md),e)) (he:e=0):0≤cr'∧cr'≤1000∧0≤b.cr∧b.cr≤20∧0≤b.box.pl∧b.box.pl≤9999∧b.box.fo.length=b.box.wh.co.length∧∀n∈b.box.fo,0≤n∧n≤12:=by
 simp only[Zcr,bxB,Bool.and_eq_true,decide_eq_true_eq,Zah] at hB;obtain ⟨⟨⟨⟨⟨⟨⟨⟨h1,h2⟩,h3⟩,h4⟩,h5⟩,h6⟩,h7⟩,h8⟩,h9,h10,h11,h12,h13⟩:=hB;have hw:=ZeQ h1;have hl:=ZaX h4;have ha:ZhG b.box.wh kind=true:=by
  unfold ZhG Zah;simp only[Bool.or_eq_true,Bool.and_eq_true,decide_eq_true_eq];right;omega
 have hs:=ZlX hw (pl:=b.pl) (cr:=b.cr) (a:=kind) ⟨h10,h11⟩ h12 ha;have hr:Zez b.box.wh b.pl b.cr [kind]=(Zi2 b.box.wh b.pl b.cr [kind],0):=by
  unfold Zez at hR⊢;split
  ·rfl
  ·rename_i hx;rw[if_neg hx] at hR;simp only[Prod.mk.injEq] at hR;exact absurd (hR.2.trans he) hx
 rw[hr] at hR;have hcr:cr'=(Zgd b.box.wh b.pl b.cr kind).2:=by
  have:=congrArg (fun q=>q.1.2.1) hR;exact this.symm
 rw[hcr];exact ⟨hs.2.1,by omega,h12,h13,h2.1,h2.2,hl.1,hl.2⟩
abbrev ZwW:OT:=(.cons (JFm 9 0) (.cons (JF 10 (.nilc (.t 9))) (.cons (JFf 11 0 10) (.cons (JFf 12 0 11) (.cons (JFf 13 3 12) (.cons (JFl 14 13) (.br [(.cons (JFm 5 0) (.br [(.cons (JFm 6 1) (.br [(.cons (JF 7 (.ia 1 (.t 6) (.k (Jz 0)))) (.br [(.cons (JFl 8 7) (.cons (JS 15 (.bslv 22 1 [.t 14])) (.cons (JSc 16 177 [.t 5,.t 8,.t 15]) (.cons (JSm 4 16) .nil)))),(.cons (JS 15 (.bslv 22 1 [.t 14])) (.cons (JFl 8 7) (.cons (JSc 16 177 [.t 5,.t 8,.t 15]) (.cons (JSm 4 16) .nil))))])),(.cons (JS 15 (.bslv 22 1 [.t 14])) (.cons (JF 7 (.ia 1 (.t 6) (.k (Jz 0)))) (.cons (JFl 8 7) (.cons (JSc 16 177 [.t 5,.t 8,.t 15]) (.cons (JSm 4 16) .nil)))))])),(.cons (JS 15 (.bslv 22 1 [.t 14])) (.cons (JFm 6 1) (.cons (JF 7 (.ia 1 (.t 6) (.k (Jz 0)))) (.cons (JFl 8 7) (.cons (JSc 16 177 [.t 5,.t 8,.t 15]) (.cons (JSm 4 16) .nil))))))])),(.cons (JFm 6 1) (.br [(.cons (JFm 5 0) (.br [(.cons (JF 7 (.ia 1 (.t 6) (.k (Jz 0)))) (.br [(.cons (JFl 8 7) (.cons (JS 15 (.bslv 22 1 [.t 14])) (.cons (JSc 16 177 [.t 5,.t 8,.t 15]) (.cons (JSm 4 16) .nil)))),(.cons (JS 15 (.bslv 22 1 [.t 14])) (.cons (JFl 8 7) (.cons (JSc 16 177 [.t 5,.t 8,.t 15]) (.cons (JSm 4 16) .nil))))])),(.cons (JS 15 (.bslv 22 1 [.t 14])) (.cons (JF 7 (.ia 1 (.t 6) (.k (Jz 0)))) (.cons (JFl 8 7) (.cons (JSc 16 177 [.t 5,.t 8,.t 15]) (.cons (JSm 4 16) .nil)))))])),(.cons (JF 7 (.ia 1 (.t 6) (.k (Jz 0)))) (.br [(.cons (JFm 5 0) (.br [(.cons (JFl 8 7) (.cons (JS 15 (.bslv 22 1 [.t 14])) (.cons (JSc 16 177 [.t 5,.t 8,.t 15]) (.cons (JSm 4 16) .nil)))),(.cons (JS 15 (.bslv 22 1 [.t 14])) (.cons (JFl 8 7) (.cons (JSc 16 177 [.t 5,.t 8,.t 15]) (.cons (JSm 4 16) .nil))))])),(.cons (JFl 8 7) (.br [(.cons (JFm 5 0) (.cons (JS 15 (.bslv 22 1 [.t 14])) (.cons (JSc 16 177 [.t 5,.t 8,.t 15]) (.cons (JSm 4 16) .nil)))),(.cons (JS 15 (.bslv 22 1 [.t 14])) (.cons (JFm 5 0) (.cons (JSc 16 177 [.t 5,.t 8,.t 15]) (.cons (JSm 4 16) .nil))))])),(.cons (JS 15 (.bslv 22 1 [.t 14])) (.cons (JFm 5 0) (.cons (JFl 8 7) (.cons (JSc 16 177 [.t 5,.t 8,.t 15]) (.cons (JSm 4 16) .nil)))))])),(.cons (JS 15 (.bslv 22 1 [.t 14])) (.cons (JFm 5 0) (.cons (JF 7 (.ia 1 (.t 6) (.k (Jz 0)))) (.cons (JFl 8 7) (.cons (JSc 16 177 [.t 5,.t 8,.t 15]) (.cons (JSm 4 16) .nil))))))])),(.cons (JS 15 (.bslv 22 1 [.t 14])) (.cons (JFm 5 0) (.cons (JFm 6 1) (.cons (JF 7 (.ia 1 (.t 6) (.k (Jz 0)))) (.cons (JFl 8 7) (.cons (JSc 16 177 [.t 5,.t 8,.t 15]) (.cons (JSm 4 16) .nil)))))))])))))))
def ZvB:FC:=⟨2,17,[.t 4],(.seq (.ops [JSB 4 false]) (.seq (.drw ZwW) .ret))⟩
theorem ZAY:Zao Tryz.prog [100015] 176=some ZvB:=by kernel_rfl
variable {tb:Obj}
abbrev ZyN:List Ins:=[JSm 19 0,JS 20 (.nilc (.t 19)),JSf 21 0 20,JSL 22 15 21,JSc 23 92 [.t 22],JS 24 (.bld [Jz 0,J0,J0,J0,J0,J0,Jz 0,Jz 0,Jz 0,Jz 0,J0,Jz 0,Jz 0,Jz 0,J0] [(0,15,(.t 23))]),JS 8 (.alloc [Jz 0,J0,J0,J0,J0,J0,Jz 0,Jz 0,Jz 0,Jz 0,J0,Jz 0,Jz 0,Jz 0,J0]),JUs 15 8 24]
abbrev ZxJ:VC:=(.seq (.ops [JS 37 (.raw (.typeAssert (.tmp 26) 20 206 true)),JSe 38 37 1,JSe 39 37 0]) (.cond (.t 38) (.seq (.ops [JSm 10 39]) (.seq (.ops [JSm 40 10,JSm 41 6,JS 42 (.call (.t 40) [.t 8,.t 41]),JS 43 (.un .not (.t 42)),JSm 44 43,JNf 45 0 8 44,JNL 46 15 45 44,JNc 47 91 [.t 46] 44,JNk 48 .neq 47 0 44,JSo 49 44 48]) (.cond (.t 49) (.seq (.ops [JS 4 (.mv (.k (.c (.str [110,111]))))]) .ret) .skip))) .skip))
abbrev ZxK:VC:=(.seq (.seq (.ops [JSf 25 1 5,JSl 26 25]) (.block 0 (.seq (.ops [JS 27 (.raw (.typeAssert (.tmp 26) 20 204 true)),JSe 28 27 1,JSe 29 27 0]) (.cond (.t 28) (.seq (.ops [JSm 9 29]) (.seq (.ops [JSm 30 9,JSm 31 0,JSm 32 6,JS 33 (.call (.t 30) [.t 31,.t 32]),JSe 34 33 0,JSe 35 33 1,JSc 36 127 [.t 34,.t 35],JSm 4 36]) .ret)) ZxJ)))) (.seq (.ops [JSm 50 0,JSL 51 15 8,JS 52 (.nilc (.t 50)),JUs 15 52 51]) (.seq (.ops [JS 4 (.mv (.k (.c (.str [121,101,115]))))]) .ret)))
def Zt3:FC:=⟨2,53,[.t 4],(.seq (.ops [JS 4 (.mv (.k (.c (.str []))))]) (.seq (.ops [JSm 12 1,JSc 13 126 [.t 12],JSm 11 13,JSe 14 11 0,JSe 15 11 1,JSe 16 11 2,JS 5 (.alloc [Jz 0,(.c (.raw .nilIface))]),JUs 2 5 14,JSm 6 15,JSm 7 16]) (.seq (.seq (.ops [JSm 17 7,JS 18 (.un .not (.t 17))]) (.cond (.t 18) (.seq (.ops [JS 4 (.mv (.k (.c (.str [119,104,97,116]))))]) .ret) .skip)) (.seq (.ops ZyN) ZxK))))⟩
theorem c93:Zao Tryz.prog [] 93=some Zt3:=by kernel_rfl
def Zb3 (tb:Obj) (b:Bar) (s:List UInt8) (x:List UInt8×Bar):Prop:=ZaE Tryz.prog 93 [.bp 1000 0,.c (.str s)] [.box b.avs,(tabO tb)] [] (fun r l'=>r= .c (.str x.1)∧l'=[.box x.2.avs,(tabO tb)])
theorem Zpg {b:Bar} {s:List UInt8} (hs:s.length≤1000) (hp:Za4 s=none):Zb3 tb b s (ZtX,b):=by
 unfold Zb3;refine Zat c93 (by first|simp|exact Nat.le_of_ble_eq_true rfl) (Nat.le_refl _) (by decide) (by decide) fun C hP hN hC hL=> ?_;rw[Zap,Zaw (by first|simp|exact Nat.le_of_ble_eq_true rfl)];simp only[Zt3,Zco,Za1,List.map_nil,List.map_cons,Nat.reduceAdd,]
 simp only[Bar.avs];refine vR ?_;refine ZaR (parse53 hs) rfl rfl rfl rfl ?_;intro r os h;unfold ZbJ at h;rw[hp] at h;obtain ⟨m,v,rfl,rfl⟩:=h;refine ⟨[],_,_,by simp,rfl,rfl,rfl,rfl,?_⟩;simp only[go_sem,hP,Zab];refine vQ ?_;refine vR ?_;(refine vC ?_ ?_<;>intro h)
 ·refine vR ?_;(refine Zak ?_;simp only[Zaq,inQ,ZaB,Zar,Zae,ZaI];simp only[go_sem,ZaH,AV.keepP,AV.keepPL];refine ⟨_,[.box b.avs,(tabO tb)],rfl,Zag rfl rfl ?_ ?_ rfl,?_⟩)
  ·unfold Bar.avs;simp only[go_sem,Zal,Ob.keepP,AV.keepP,AV.keepPL]
  ·trivial
  ·exact ⟨rfl,rfl⟩
 ·cases h
theorem Zkk {b:Bar} (hb:BarLn b) {s w:List UInt8} {ns:List Int} (hs:s.length≤1000) (hp:Za4 s=some (w,ns)) {m:Int} {f:Nat} (hw:ZbX w=some ⟨m,204,f,none⟩) {l:List Int} {er:Int} (hl:l.length≤10000) (hr:∀n∈l,i64 n)
  (hf:ZaE Tryz.prog f [.bp 1000 0,.c (Zaj ns)] [.box b.avs] [] (fun r l'=>r= .tup [.c (Zaj l),iv er]∧l'=[.box b.avs])):Zb3 tb b s (Zi9 l er,b):=by
 have hcp:=copied26 hb;simp only[Bar.av,Bar.avs,Bar.avsP] at hcp;unfold Zb3;refine Zat c93 (by first|simp|exact Nat.le_of_ble_eq_true rfl) (Nat.le_refl _) (by decide) (by decide) fun C hP hN hC hL=> ?_;rw[Zap,Zaw (by first|simp|exact Nat.le_of_ble_eq_true rfl)];simp only[Zt3,Zco,Za1,List.map_nil,List.map_cons,Nat.reduceAdd,]
 simp only[Bar.avs];refine vR ?_;refine ZaR (parse53 hs) rfl rfl rfl rfl ?_;intro r os h;unfold ZbJ at h;rw[hp] at h;obtain ⟨q,e,he,rfl,rfl⟩:=h;rw[hw] at he;cases he;refine ⟨[101,102,103,104,105,106,107,108],_,_,by simp,rfl,rfl,rfl,rfl,?_⟩;simp only[go_sem,hP,Zab];refine vQ ?_;refine vR ?_;(refine vC ?_ ?_<;>intro h)
 ·cases h
 ·clear h;refine vR ?_;refine ZaR hcp rfl rfl rfl rfl ?_;rintro r os ⟨rfl,rfl⟩;refine ⟨[110],_,_,by simp,rfl,rfl,rfl,rfl,?_⟩;simp only[go_sem,hP,Zab];refine vQ ?_;refine vR ?_;refine Zhv (t:=204) (x':=.t 26) (u:=fnV f []) (vr:=.fn f []) (by kernel_rfl) rfl rfl rfl (fun w M loc=>Zem w M loc f) ?_;simp only[go_sem,hP];refine vR ?_;(refine vC ?_ ?_<;>intro h)
  ·refine vR ?_;refine Zas [1000] hf rfl rfl rfl (by decide) rfl (by unfold Bar.avs;simp only[go_sem,ZaA,Ob.lend,AV.lend,AV.lendL];first|done|rfl) ?_;rintro r l' ⟨rfl,rfl⟩;refine ⟨_,_,rfl,(by unfold Bar.avs;simp only[Zay,Ob.back,AV.back,AV.backL];rfl),?_⟩;simp only[go_sem,hP,Zab];refine vQ ?_;refine vR ?_;refine Zas [1001] (ZjR hl hr er) rfl rfl rfl (by decide) rfl rfl ?_;rintro r l' ⟨rfl,rfl⟩;refine ⟨_,_,rfl,rfl,?_⟩;simp only[go_sem,hP,Zab];refine vQ ?_;refine vR ?_;(refine Zak ?_;simp only[Zaq,inQ,ZaB,Zar,Zae,ZaI];simp only[go_sem,ZaH,AV.keepP,AV.keepPL];refine ⟨_,[.box b.avs,(tabO tb)],rfl,Zag rfl rfl ?_ ?_ rfl,?_⟩)
   ·unfold Bar.avs;simp only[go_sem,Zal,Ob.keepP,AV.keepP,AV.keepPL]
   ·trivial
   ·exact ⟨rfl,rfl⟩
  ·cases h
def Zza:List Nat:=[26,27,191,31,32,33,34,35]
theorem Zhk {b:Bar} (hb:BarLn b) {s w:List UInt8} {ns:List Int} (hs:s.length≤1000) (hp:Za4 s=some (w,ns)) {m:Int} {f i:Nat} (hi:i<8) (hw:ZbX w=some ⟨m,204,f,some i⟩) {l:List Int} {er:Int} (hl:l.length≤10000) (hr:∀n∈l,i64 n)
  (hf:∀q:Nat,ZaE Tryz.prog f [.bp 1000 0,.c (Zaj ns),.c (.raw (Zd6 q 0))] [.box b.avs,vbox (fnV (Zza.getD i 0) []) q] [] (fun r l'=>r= .tup [.c (Zaj l),iv er]∧l'=[.box b.avs,vbox (fnV (Zza.getD i 0) []) q])):Zb3 tb b s (Zi9 l er,b):=by
 have hcp:=copied26 hb;simp only[Bar.av,Bar.avs,Bar.avsP] at hcp;unfold Zb3;refine Zat c93 (by first|simp|exact Nat.le_of_ble_eq_true rfl) (Nat.le_refl _) (by decide) (by decide) fun C hP hN hC hL=> ?_;rw[Zap,Zaw (by first|simp|exact Nat.le_of_ble_eq_true rfl)];simp only[Zt3,Zco,Za1,List.map_nil,List.map_cons,Nat.reduceAdd,]
 simp only[Bar.avs];refine vR ?_;refine ZaR (parse53 hs) rfl rfl rfl rfl ?_;intro r os h;unfold ZbJ at h;rw[hp] at h;obtain ⟨q,e,he,rfl,rfl⟩:=h;rw[hw] at he;cases he;refine ⟨[101,102,103,104,105,106,107,108],_,_,by simp,rfl,rfl,rfl,rfl,?_⟩;simp only[go_sem,hP,Zab];refine vQ ?_;refine vR ?_;(refine vC ?_ ?_<;>intro h)
 ·cases h
 ·clear h;refine vR ?_;refine ZaR hcp rfl rfl rfl rfl ?_;rintro r os ⟨rfl,rfl⟩;refine ⟨[110],_,_,by simp,rfl,rfl,rfl,rfl,?_⟩;simp only[go_sem,hP,Zab];refine vQ ?_;refine vR ?_;refine Zhv (t:=204) (x':=.t 26) (u:=fnV f [Zd6 (q i) 0]) (vr:=.fn f [.c (.raw (Zd6 (q i) 0))]) (by kernel_rfl) rfl rfl rfl (fun w M loc=>ZrC w M loc f rfl) ?_;simp only[go_sem,hP];refine vR ?_;(refine vC ?_ ?_<;>intro h)
  ·refine vR ?_;have hfi:=hf (q i);have hc:i=0∨i=1∨i=2∨i=3∨i=4∨i=5∨i=6∨i=7:=by omega
   unfold Bar.avs at hfi;rcases hc with rfl|rfl|rfl|rfl|rfl|rfl|rfl|rfl
   all_goals (
    first|refine Zas [1000,101] hfi rfl rfl rfl (by decide) rfl (by simp only[go_sem,ZaA,Ob.lend,AV.lend,AV.lendL];first|done|rfl) ?_|refine Zas [1000,102] hfi rfl rfl rfl (by decide) rfl (by simp only[go_sem,ZaA,Ob.lend,AV.lend,AV.lendL];first|done|rfl) ?_|refine Zas [1000,103] hfi rfl rfl rfl (by decide) rfl (by simp only[go_sem,ZaA,Ob.lend,AV.lend,AV.lendL];first|done|rfl) ?_|refine Zas [1000,104] hfi rfl rfl rfl (by decide) rfl (by simp only[go_sem,ZaA,Ob.lend,AV.lend,AV.lendL];first|done|rfl) ?_|refine Zas [1000,105] hfi rfl rfl rfl (by decide) rfl (by simp only[go_sem,ZaA,Ob.lend,AV.lend,AV.lendL];first|done|rfl) ?_|refine Zas [1000,106] hfi rfl rfl rfl (by decide) rfl (by simp only[go_sem,ZaA,Ob.lend,AV.lend,AV.lendL];first|done|rfl) ?_|refine Zas [1000,107] hfi rfl rfl rfl (by decide) rfl (by simp only[go_sem,ZaA,Ob.lend,AV.lend,AV.lendL];first|done|rfl) ?_|refine Zas [1000,108] hfi rfl rfl rfl (by decide) rfl (by simp only[go_sem,ZaA,Ob.lend,AV.lend,AV.lendL];first|done|rfl) ?_
    rintro r l' ⟨rfl,rfl⟩;refine ⟨_,_,rfl,(by simp only[Zay,Ob.back,AV.back,AV.backL];rfl),?_⟩;simp only[go_sem,hP,Zab];refine vQ ?_;refine vR ?_;refine Zas [1001] (ZjR hl hr er) rfl rfl rfl (by decide) rfl rfl ?_;rintro r l' ⟨rfl,rfl⟩;refine ⟨_,_,rfl,rfl,?_⟩;simp only[go_sem,hP,Zab];refine vQ ?_;refine vR ?_;(refine Zak ?_;simp only[Zaq,inQ,ZaB,Zar,Zae,ZaI];simp only[go_sem,ZaH,AV.keepP,AV.keepPL];refine ⟨_,[.box b.avs,(tabO tb)],rfl,Zag rfl rfl ?_ ?_ rfl,?_⟩)
    ·unfold Bar.avs;simp only[go_sem,Zal,Ob.keepP,AV.keepP,AV.keepPL]
    ·trivial
    ·exact ⟨rfl,rfl⟩)
  ·cases h
def ZqO:List UInt8:=[112,114,101,115,115]
def ZeV:List UInt8:=[99,111,105,110]
def Zgv (b:Bar):Option Bar→List UInt8×Bar
 |none=>(noS,b)
 |some b'=>if Zcr b' then (ZhF,b') else (noS,b)
theorem Zie {b:Bar} (hb:BarLn b) {s:List UInt8} {x y:Int} (hs:s.length≤1000) (hp:Za4 s=some (ZqO,[x,y])):Zb3 tb b s (Zgv b (Zdh b x y)):=by
 have hw:ZbX ZqO=some ⟨2,206,180,none⟩:=rfl;have hcp:=copied26 hb;simp only[Bar.av,Bar.avs,Bar.avsP] at hcp;have hps:=Zsz hb x y;unfold Zb3;refine Zat c93 (by first|simp|exact Nat.le_of_ble_eq_true rfl) (Nat.le_refl _) (by decide) (by decide) fun C hP hN hC hL=> ?_;rw[Zap,Zaw (by first|simp|exact Nat.le_of_ble_eq_true rfl)];simp only[Zt3,Zco,Za1,List.map_nil,List.map_cons,Nat.reduceAdd,]
 simp only[Bar.avs];refine vR ?_;refine ZaR (parse53 hs) rfl rfl rfl rfl ?_;intro r os h;unfold ZbJ at h;rw[hp] at h;obtain ⟨q,e,he,rfl,rfl⟩:=h;rw[hw] at he;cases he;refine ⟨[101,102,103,104,105,106,107,108],_,_,by simp,rfl,rfl,rfl,rfl,?_⟩;simp only[go_sem,hP,Zab];refine vQ ?_;refine vR ?_;(refine vC ?_ ?_<;>intro h)
 ·cases h
 ·clear h;refine vR ?_;refine ZaR hcp rfl rfl rfl rfl ?_;rintro r os ⟨rfl,rfl⟩;refine ⟨[110],_,_,by simp,rfl,rfl,rfl,rfl,?_⟩;simp only[go_sem,hP,Zab];refine vQ ?_;refine vR ?_;refine ZnG (t:=204) (t':=206) (z:=.nilFunc) (x':=.t 26) (u:=fnV 180 []) (vr:=.c (.raw .nilFunc)) (by decide) (by kernel_rfl) (by kernel_rfl) rfl rfl rfl (fun w M loc=>by simp only[RepA,RepC];exact ⟨trivial,rfl⟩) ?_;simp only[go_sem,hP];refine vR ?_;(refine vC ?_ ?_<;>intro h)
  ·cases h
  ·clear h;refine vR ?_;refine Zhv (t:=206) (x':=.t 26) (u:=fnV 180 []) (vr:=.fn 180 []) (by kernel_rfl) rfl rfl rfl (fun w M loc=>Zem w M loc 180) ?_;simp only[go_sem,hP];refine vR ?_;(refine vC ?_ ?_<;>intro h)
   ·refine vR ?_;refine Zas [8,110] hps rfl rfl rfl (by decide) rfl (by unfold Bar.avsP;simp only[go_sem,ZaA,Ob.lend,AV.lend,AV.lendL];first|done|rfl) ?_;intro r l' h;unfold Zmi at h;cases hq:Zdh b x y with
    |none=>
     rw[hq] at h;obtain ⟨rfl,rfl⟩:=h;refine ⟨_,_,rfl,(by unfold Bar.avsP;simp only[Zay,Ob.back,AV.back,AV.backL];rfl),?_⟩;simp only[go_sem,hP,Zab];refine vQ ?_;refine vR ?_;(refine ZaC ?_;simp only[go_sem,hP];refine vQ ?_;refine vR ?_)
     (refine vC ?_ ?_<;>intro h)
     ·refine vR ?_;(refine Zak ?_;simp only[Zaq,inQ,ZaB,Zar,Zae,ZaI];simp only[go_sem,ZaH,AV.keepP,AV.keepPL];refine ⟨_,[.box b.avs,(tabO tb)],rfl,Zag rfl rfl ?_ ?_ rfl,?_⟩)
      ·unfold Bar.avs;simp only[go_sem,Zal,Ob.keepP,AV.keepP,AV.keepPL]
      ·trivial
      ·exact ⟨rfl,rfl⟩
     ·cases h
    |some b'=>
     rw[hq] at h;obtain ⟨rfl,rfl⟩:=h;refine ⟨_,_,rfl,(by unfold Bar.avsP;simp only[Zay,Ob.back,AV.back,AV.backL];rfl),?_⟩;simp only[go_sem,hP,Zab];refine vQ ?_;refine vR ?_;have hck:=check25 b';simp only[Bar.av,Bar.avs] at hck;(refine Za9 (fun hG=>hck) ?_;simp only[go_sem,hP];refine vQ ?_;refine vR ?_)
     cases hB:Zcr b' with
     |true=>
      have he:ZeT b'=0:=by unfold ZeT;rw[if_pos hB]
      have hx:Zgv b (some b')=(ZhF,b'):=by unfold Zgv;simp only[hB,if_true]
      rw[he,hx];(refine vC ?_ ?_<;>intro h)
      ·cases h
      ·refine vR ?_;(refine Zak ?_;simp only[Zaq,inQ,ZaB,Zar,Zae,ZaI];simp only[go_sem,ZaH,AV.keepP,AV.keepPL];refine ⟨_,[.box b'.avs,(tabO tb)],rfl,Zag rfl rfl ?_ ?_ rfl,?_⟩)
       ·unfold Bar.avs;simp only[go_sem,Zal,Ob.keepP,AV.keepP,AV.keepPL];rfl
       ·trivial
       ·exact ⟨rfl,rfl⟩
     |false=>
      have he:ZeT b'=120:=by unfold ZeT;rw[hB];rfl
      have hx:Zgv b (some b')=(noS,b):=by unfold Zgv;simp only[hB];rfl
      rw[he,hx];(refine vC ?_ ?_<;>intro h)
      ·refine vR ?_;(refine Zak ?_;simp only[Zaq,inQ,ZaB,Zar,Zae,ZaI];simp only[go_sem,ZaH,AV.keepP,AV.keepPL];refine ⟨_,[.box b.avs,(tabO tb)],rfl,Zag rfl rfl ?_ ?_ rfl,?_⟩)
       ·unfold Bar.avs;simp only[go_sem,Zal,Ob.keepP,AV.keepP,AV.keepPL]
       ·trivial
       ·exact ⟨rfl,rfl⟩
      ·cases h
   ·cases h
theorem ZlP {C:Ctx} {is:List Ins} {K:St→Prop} {env:Nat→AV} {own:Nat→Ob} (n:Nat) {ds:List CD} {junk:List AV} (hb:own n= .box (ds.map .c++junk)) (h:ZgZ C is K ⟨Zj6 n ds env,ZdO n ds own⟩):ZgZ C is K ⟨env,own⟩:=ZhP (Zfm n ds junk hb C) h
theorem ZcR (l:List Int):(Zbh zc l).length=l.length:=Zq0 l
theorem ZcQ (l:List Int):CD.sl 1 (grp 1 l.length (List.take l.length (Zbh zc l)))=Zaj l:=by
 have h2:=Zep (cds:=zc) (m:=1) (fun _=>rfl) l;rw[Nat.mul_one] at h2;rw[h2];rfl
-- K44_1: changed and kept: [27,4]
abbrev Zxj:VC:=(.seq (.seq (.ops [JSm 25 1,JSn 26 25,JSi 27 0]) (.block 0 (.loop (.seq (.ops [JSb 28 .lss 27 26]) (.seq (.cond (.t 28) .skip (.exit 0)) (.seq (.block 1 (.seq (.ops [JSa 29 1 25 27,JSl 30 29,JSm 10 30]) (.ops [JSm 31 4,JSm 32 8,JSm 33 10,JSc 34 93 [.t 32,.t 33],JS 35 (.bsl 9 1 [.t 34]),JS 36 (.app 9 1 16 (.t 31) (.t 35)),JSm 4 36]))) (.ops [JSk 37 .add 27 1,JSm 27 37]))))))) (.seq (.dops [JFm 38 4,JFm 39 8,JF 40 (.nilc (.t 39)),JFf 41 0 40,JFL 42 15 41,JFm 4 38,JUs 15 5 42,JSi 6 0]) .ret))
abbrev Zxk:VC:=(.seq (.seq (.ops [JSm 17 1,JSn 18 17,JSk 19 .gtr 18 40]) (.cond (.t 19) (.seq (.ops [JS 20 (.bld [Jz 0,J0,J0,J0,J0,J0,Jz 0,Jz 0,Jz 0,Jz 0,J0,Jz 0,Jz 0,Jz 0,J0] []),JS 4 (.mv (.k J0)),JUs 15 5 20,JSi 6 2]) .ret) .skip)) (.seq (.ops [JSL 21 15 2,JSc 22 92 [.t 21],JS 23 (.bld [Jz 0,J0,J0,J0,J0,J0,Jz 0,Jz 0,Jz 0,Jz 0,J0,Jz 0,Jz 0,Jz 0,J0] [(0,15,(.t 22))]),JS 24 (.box 15 (.t 23)),JSm 8 24]) Zxj))
def Zzz:FC:=⟨2,43,[.t 4,.cell 5 false 15,.t 6],(.seq (.ops [JS 2 (.box 15 (.t 0)),JS 4 (.mv (.k J0)),JS 5 (.alloc [Jz 0,J0,J0,J0,J0,J0,Jz 0,Jz 0,Jz 0,Jz 0,J0,Jz 0,Jz 0,Jz 0,J0]),JSi 6 0]) (.seq (.seq (.ops [JSL 11 15 2,JSc 12 91 [.t 11],JSm 7 12]) (.seq (.ops [JSm 13 7,JSk 14 .neq 13 0]) (.cond (.t 14) (.seq (.ops [JS 15 (.bld [Jz 0,J0,J0,J0,J0,J0,Jz 0,Jz 0,Jz 0,Jz 0,J0,Jz 0,Jz 0,Jz 0,J0] []),JSm 16 7,JS 4 (.mv (.k J0)),JUs 15 5 15,JSm 6 16]) .ret) .skip))) Zxk))⟩
theorem c44:Zao Tryz.prog [] 44=some Zzz:=by kernel_rfl
def Zee (F:Bar→List UInt8→List UInt8×Bar) (b:Bar) (l:List (List UInt8)):List (List UInt8)×Bar:=l.foldl (fun st s=>(st.1++[(F st.2 s).1],(F st.2 s).2)) ([],b)
theorem ZiJ (F:Bar→List UInt8→List UInt8×Bar) (b:Bar) {l:List (List UInt8)} {k:Nat} (h:k<l.length):Zee F b (l.take (k+1))=((Zee F b (l.take k)).1++[(F (Zee F b (l.take k)).2 (l.getD k [])).1],(F (Zee F b (l.take k)).2 (l.getD k [])).2):=by
 have hg:l.getD k []=l[k]:=by rw[List.getD_eq_getElem?_getD,List.getElem?_eq_getElem h];rfl
 rw[List.take_succ_eq_append_getElem h,hg];unfold Zee;rw[List.foldl_append];rfl
theorem Zhz (F:Bar→List UInt8→List UInt8×Bar) (b:Bar) (l:List (List UInt8)):∀k,k≤l.length→(Zee F b (l.take k)).1.length=k
 |0,_=>rfl
 |k+1,h=>by
  rw[ZiJ F b (by omega)];simp only[List.length_append,List.length_cons,List.length_nil,Zhz F b l k (by omega)]
def Zic (b:Bar):Nat→AV
 |0=> .gr 110
 |_+1=> .c (ZbR b.tray.pres)
def Zt8:List AV:=[iv 0,.c (.raw (.slice none 0 0)),.c (.raw (.slice none 0 0)),.c (.raw (.slice none 0 0)),.c (.raw (.slice none 0 0)),.c (.raw (.slice none 0 0)),iv 0,iv 0,iv 0,iv 0,.c (.raw (.slice none 0 0)),iv 0,iv 0,iv 0,.c (.raw (.slice none 0 0))]
theorem ZhC {l:List (List UInt8)} {k:Nat} (h:k<l.length):(l.map fun x=>[CD.str x]).getD k []=[CD.str (l.getD k [])]:=ZhD h
set_option maxHeartbeats 1000000 in
theorem run10 {F:Bar→List UInt8→List UInt8×Bar} {b:Bar} (hb:BarLn b) (hB:Zcr b=true) {l:List (List UInt8)} (hl:l.length≤40) (hF:∀k,k<l.length→Zb3 tb (Zee F b (l.take k)).2 (l.getD k []) (F (Zee F b (l.take k)).2 (l.getD k []))):
  ZaE Tryz.prog 44 [b.av,.c (ZaY l)] [(tabO tb)] [] (fun r l'=>r= .tup [.c (ZaY (Zee F b l).1),(Zee F b l).2.av,iv 0]∧l'=[(tabO tb)]):=by
 have hm:maxLen=9223372036854775807:=rfl;have hck:=check25 b;have he:ZeT b=0:=by unfold ZeT;rw[if_pos hB]
 rw[he] at hck;have hcp:=copied26 hb;simp only[Bar.av,Bar.avs,Bar.avsP] at hcp hck;refine Zat c44 (by first|simp|exact Nat.le_of_ble_eq_true rfl) (Nat.le_refl _) (by decide) (by decide) fun C hP hN hC hL=> ?_;rw[Zap,Zaw (by first|simp|exact Nat.le_of_ble_eq_true rfl)];simp only[Zzz,Zco,Za1,List.map_nil,List.map_cons,Nat.reduceAdd,]
 simp only[Bar.av,Bar.avs];refine vR ?_;(refine Zau (hck) ?_;simp only[go_sem,hP];refine vQ ?_;refine vR ?_)
 (refine vC ?_ ?_<;>intro h)
 ·cases h
 ·clear h;refine vR4 ?_;(refine vC ?_ ?_<;>intro h)
  ·exfalso;simp at h;omega
  ·clear h;refine vR ?_;refine ZaR hcp rfl rfl rfl rfl ?_;rintro r os ⟨rfl,rfl⟩;refine ⟨[110],_,_,by simp,rfl,rfl,rfl,rfl,?_⟩;simp only[go_sem,hP,Zab];refine vQ ?_;refine vR4 ?_;refine Zby 4 36 9 1 (by decide) (by decide) rfl rfl ?_;simp only[go_sem];refine ZaQ (fun k:Nat=>⟨upd (upd (upd (upd (upd (upd (upd e0 4 (.gr 36)) 5 (.bp 5 0)) 6 (iv 0)) 8 (.bp 24 0)) 25 (.c (ZaY l))) 26 (iv l.length)) 27 (iv k),upd (upd (upd (upd (upd o0 1000 (tabO tb)) 5 (.box Zt8)) 110 (.grow 122 2 (b.tray.pres.map Pr.cds))) 24 (.box ((Zee F b (l.take k)).2.avsP (Zic (Zee F b (l.take k)).2 k)))) 36 (.grow 9 1 ((Zee F b (l.take k)).1.map fun x=>[CD.str x]))⟩) (fun k=>k≤l.length) (fun k=>l.length -k) 0 (Nat.zero_le _) ?_ ?_
   ·refine Zai (by unfold ZaY;simp only[go_sem];exact Zam) (by simp only[List.take_zero,List.map_nil,Zee,List.foldl_nil,Zic];unfold Bar.avsP Zt8;simp only[go_sem];exact Zaa)
   intro k hk;have hrl:=Zhz F b l k hk;refine vR4 ?_;(refine vC ?_ ?_<;>intro h)
   ·have hi:k<l.length:=by simpa using h
    have hwk:=w64 (n:=(k:Int)+1) (by omega) (by omega);have hg:=ZhC hi;have hln:=hF k hi;have hsn:=ZiJ F b hi;have h0:k=0→(Zee F b (l.take k)).2=b:=by rintro rfl;rfl
    unfold Zb3 at hln;generalize l.getD k []=s at hg hln hsn;generalize Zee F b (l.take k)=bk at hrl hln hsn h0;generalize F bk.2 s=fx at hln hsn;(repeat (refine vV ?_;(try simp only[go_sem,hP,hg,List.length_map,Int.toNat_natCast]);refine vQ ?_))
    cases k with
    |zero=>
     have h0:=h0 rfl;obtain ⟨ba,bb⟩:=bk;simp only at h0;subst h0;simp only[Zic];unfold Bar.avsP;refine Zas [24,1000] hln rfl rfl rfl (by decide) rfl (by unfold Bar.avs;simp only[go_sem,ZaA,Ob.lend,AV.lend,AV.lendL];first|done|rfl) ?_;rintro r l' ⟨rfl,rfl⟩;refine ⟨_,_,rfl,(by unfold Bar.avs;simp only[Zay,Ob.back,AV.back,AV.backL];rfl),?_⟩;simp only[go_sem,hP,Zab];refine vQ ?_;(repeat (refine vV ?_;(try simp only[go_sem,hP,hwk,List.length_map,hrl]);refine vQ ?_))
     refine ⟨0+1,by omega,by omega,?_⟩;rw[hsn,List.map_append];simp only[Zic];unfold Zt8;refine Zai (by simp only[go_sem];exact Zam) (by simp only[go_sem,List.map_cons,List.map_nil];exact Zaa)
    |succ k=>
     simp only[Zic];unfold Bar.avsP;refine Zas [24,1000] hln rfl rfl rfl (by decide) rfl (by unfold Bar.avs;simp only[go_sem,ZaA,Ob.lend,AV.lend,AV.lendL];first|done|rfl) ?_;rintro r l' ⟨rfl,rfl⟩;refine ⟨_,_,rfl,(by unfold Bar.avs;simp only[Zay,Ob.back,AV.back,AV.backL];rfl),?_⟩;simp only[go_sem,hP,Zab];refine vQ ?_;(repeat (refine vV ?_;(try simp only[go_sem,hP,hwk,List.length_map,hrl]);refine vQ ?_))
     refine ⟨k+1+1,by omega,by omega,?_⟩;rw[hsn,List.map_append];simp only[Zic];unfold Zt8;refine Zai (by simp only[go_sem];exact Zam) (by simp only[go_sem,List.map_cons,List.map_nil];exact Zaa)
   ·have hkl:k=l.length:=by
     have:¬(k<l.length):=by simpa using h
     omega
    subst hkl;rw[List.take_length] at hrl⊢;have h0:l.length=0→(Zee F b l).2=b:=fun h=>by rw[List.length_eq_zero_iff.1 h];rfl
    generalize Zee F b l=bk at hrl h0;generalize l.length=n at*;cases n with
    |zero=>
     have h0:=h0 rfl;obtain ⟨ba,bb⟩:=bk;simp only at h0;subst h0;simp only[Zic];unfold Bar.avsP Zt8;refine vR ?_;(refine Zak ?_;simp only[Zaq,inQ,ZaB,Zar,Zae,ZaI];simp only[go_sem,ZaH,AV.keepP,AV.keepPL];refine ⟨_,[(tabO tb)],rfl,Zag rfl rfl ?_ ?_ rfl,?_⟩)
     ·simp only[go_sem,Zal,Ob.keepP,AV.keepP,AV.keepPL]
     ·trivial
     ·exact ⟨rfl,rfl⟩
    |succ n=>
     simp only[Zic];unfold Bar.avsP Zt8;refine vR ?_;(refine Zak ?_;simp only[Zaq,inQ,ZaB,Zar,Zae,ZaI];simp only[go_sem,ZaH,AV.keepP,AV.keepPL];refine ⟨_,[(tabO tb)],rfl,Zag rfl rfl ?_ ?_ rfl,?_⟩)
     ·simp only[go_sem,Zal,Ob.keepP,AV.keepP,AV.keepPL]
     ·trivial
     ·exact ⟨rfl,rfl⟩
abbrev Zxf:VC:=(.seq (.seq (.ops [JSm 10 0,JSk 11 .lss 10 10]) (.cond (.t 11) (.seq (.ops [JSm 12 0,JS 13 (.bin .add (.k (Jz 48)) (.t 12)),JS 14 (.prim (.conv .u8) [.t 13]),JS 15 (.bsl 5 1 [.t 14]),JS 16 (.raw (.convert 100 9 (.tmp 15))),JSm 2 16]) .ret) .skip)) (.seq (.ops [JSm 17 0,JSk 18 .quo 17 10,JSc 19 21 [.t 18],JSm 20 0,JSk 21 .rem 20 10,JSc 22 21 [.t 21],JS 23 (.prim (.sbin .add) [.t 19,.t 22]),JSm 2 23]) .ret))
def Zzt:FC:=⟨1,24,[.t 2],(.seq (.ops [JS 2 (.mv (.k (.c (.str []))))]) (.seq (.seq (.ops [JSm 3 0,JSk 4 .lss 3 0]) (.cond (.t 4) (.seq (.ops [JSm 5 0,JS 6 (.mm true (.t 5) (.k (Jz (-999999999)))),JS 7 (.un .neg (.t 6)),JSc 8 21 [.t 7],JS 9 (.prim (.sbin .add) [(.k (.c (.str [45]))),.t 8]),JSm 2 9]) .ret) .skip)) Zxf))⟩
theorem c21:Zao Tryz.prog [] 21=some Zzt:=by kernel_rfl
def ZcV (n:Int):List UInt8:=if n<0 then 45::Lib.decDigits (-(max n (-999999999))).toNat else Lib.decDigits n.toNat
theorem Zfz (u:Nat):∀k,u<10^(k+1)→(Lib.decDigits u).length≤k+1
 |0,h=>by rw[Lib.decDigits_one (by simpa using h)];simp
 |k+1,h=>by
  rw[Lib.decDigits];split
  ·simp
  ·have h2:u/10<10^(k+1):=by rw[Nat.pow_succ] at h;omega
   have:=Zfz (u/10) k h2;simp only[List.length_append,List.length_cons,List.length_nil];omega
theorem Zro {n:Nat} (h:n<10):IntKind.u8.wrap (48+(n:Int))=((UInt8.ofNat (48+n)).toNat:Int):=by
 have:n=0∨n=1∨n=2∨n=3∨n=4∨n=5∨n=6∨n=7∨n=8∨n=9:=by omega
 rcases this with rfl|rfl|rfl|rfl|rfl|rfl|rfl|rfl|rfl|rfl<;>rfl
theorem Zw4 (u:Nat) (hu:u<10^19) (hu2:u≤9223372036854775807):FSpec Tryz.prog 21 [iv u] (.c (.str (Lib.decDigits u))):=by
 have hm:maxLen=9223372036854775807:=rfl;induction u using Nat.strongRecOn with
 |_ u ih=>
  refine Zac c21 (Nat.le_refl _) (by decide) fun C hP hN hC hL=> ?_;rw[Zad]
  simp only[Zzt];refine vR ?_;(refine vC ?_ ?_<;>intro h)
  ·simp at h;omega
  ·clear h;refine vR ?_;by_cases h10:u<10
   ·rw[Lib.decDigits_one h10];have w1:=w64 (n:=48+(u:Int)) (by omega) (by omega);have hb:=Zro h10;(refine vC ?_ ?_<;>intro h)
    ·refine vW (vA w1 hb) ?_;refine ZwE (e:=5) (x':=.t 15) (s:=[UInt8.ofNat (48+u)]) (by kernel_rfl) (by kernel_rfl) (by kernel_rfl) rfl rfl rfl ?_;simp only[go_sem,hP];refine vR ?_;(refine vT ?_;try exact trivial)
    ·simp at h;omega
   ·have h1:=ih (u/10) (by omega) (by omega) (by omega);have h2:=ih (u % 10) (by omega) (by omega) (by omega);have hd:Lib.decDigits u=Lib.decDigits (u/10)++Lib.decDigits (u % 10):=by rw[Lib.decDigits,dif_neg h10,Lib.decDigits_one (show u % 10<10 by omega)]
    have hl1:=Zfz (u/10) 18 (by omega);have hl2:=Zfz (u % 10) 0 (by omega);rw[hd];have e1:(u:Int).tdiv 10=((u/10:Nat):Int):=by rw[Int.tdiv_eq_ediv_of_nonneg (by omega)];omega
    have e2:(u:Int).tmod 10=((u % 10:Nat):Int):=by rw[Int.tmod_eq_emod_of_nonneg (by omega)];omega
    have wa:=w64 (n:=((u/10:Nat):Int)) (by omega) (by omega);have wc:=w64 (n:=((u % 10:Nat):Int)) (by omega) (by omega);generalize u/10=a at*;generalize u % 10=c at*;(refine vC ?_ ?_<;>intro h)
    ·simp at h;omega
    ·(repeat (refine vV ?_;(try simp only[go_sem,hP,e1,e2,wa,wc]);refine vQ ?_))
     (refine Zau (h1) ?_;simp only[go_sem,hP,e1,e2,wa,wc];refine vQ ?_;(repeat (refine vV ?_;(try simp only[go_sem,hP,e1,e2,wa,wc]);refine vQ ?_)))
     (refine Zau (h2) ?_;simp only[go_sem,hP,e1,e2,wa,wc];refine vQ ?_;(repeat (refine vV ?_;(try simp only[go_sem,hP,e1,e2,wa,wc]);refine vQ ?_)))
     (refine vT ?_;try exact trivial)
theorem Zy4 {n:Int} (h0:0≤n) (h1:n≤9223372036854775807):FSpec Tryz.prog 21 [iv n] (.c (.str (ZcV n))):=by
 obtain ⟨u,rfl⟩:=Int.eq_ofNat_of_zero_le h0;have e:ZcV (u:Int)=Lib.decDigits u:=by unfold ZcV;rw[if_neg (by omega)];simp
 rw[e];exact Zw4 u (by omega) (by omega)
theorem ZiS {n:Int} (h0:0≤n) (h1:n≤999999999):(ZcV n).length≤10:=by
 unfold ZcV;rw[if_neg (by omega)];have:=Zfz n.toNat 8 (by omega);omega
abbrev Zyx:List Ins:=[JSm 12 5,JSm 13 0,JS 14 (.prim .slen [.t 13]),JSb 15 .eql 12 14,JSm 16 15,JNm 17 0 16,JNm 18 5 16,JG 19 (.prim .sidx [.t 17,.t 18]) 16 false,JG 20 (.bin .eql (.t 19) (.k (.c (.int .u8 32)))) 16 false,JSo 21 16 20]
abbrev Zxl:VC:=(.seq (.seq (.ops [JSm 6 5,JSm 7 0,JS 8 (.prim .slen [.t 7]),JSb 9 .leq 6 8]) (.cond (.t 9) .skip (.exit 0))) (.seq (.block 1 (.seq (.ops Zyx) (.cond (.t 21) (.seq (.ops [JSm 22 3,JSm 23 0,JSm 24 4,JSm 25 5,JS 26 (.prim (.sslc true true) [.t 23,.t 24,.t 25]),JS 27 (.bsl 9 1 [.t 26]),JS 28 (.app 9 1 16 (.t 22) (.t 27)),JSm 3 28]) (.ops [JSm 29 5,JSk 30 .add 29 1,JSm 4 30])) .skip))) (.ops [JSm 10 5,JSk 11 .add 10 1,JSm 5 11])))
-- K45_1: changed and kept: [5,3,4]
def ZzA:FC:=⟨1,32,[.t 2],(.seq (.ops [JS 2 (.mv (.k J0))]) (.seq (.ops [JS 3 (.mv (.k J0))]) (.seq (.ops [JSi 4 0]) (.seq (.seq (.ops [JSi 5 0]) (.block 0 (.loop Zxl))) (.seq (.ops [JSm 31 3,JSm 2 31]) .ret)))))⟩
theorem c45:Zao Tryz.prog [] 45=some ZzA:=by kernel_rfl
theorem Zsn (s:List UInt8) (i:Nat):Lib.occAt s [32] i=(s[i]? ==some 32):=by
 unfold Lib.occAt;cases h:s.drop i with
 |nil=>
  have:s.length≤i:=by simpa using h
  rw[List.getElem?_eq_none this];rfl
 |cons b r=>
  have h2:s[i]? =some b:=by
   have:=List.getElem?_drop (xs:=s) (i:=i) (j:=0);rw[h] at this;simpa using this.symm
  rw[h2];simp[List.isPrefixOf,BEq.comm]
theorem ZjZ {s:List UInt8} (h:∀j,j<s.length→s.getD j 0≠32):ZeG s=[s]:=by
 have hi:Lib.index s [32]= -1:=Lib.index_none fun j hj=>by
  rw[Zsn];by_cases hl:j<s.length
  ·have:=h j hl;rw[List.getD_eq_getElem?_getD,List.getElem?_eq_getElem hl] at this;rw[List.getElem?_eq_getElem hl];simpa using this
  ·rw[List.getElem?_eq_none (by omega)];rfl
 unfold ZeG Lib.split;rw[Lib.count_miss hi];rfl
theorem Zqx {s:List UInt8} {i:Nat} (hi:i<s.length) (h:s.getD i 0=32) (hn:∀j,j<i→s.getD j 0≠32):ZeG s=s.take i::ZeG (s.drop (i+1)):=by
 have hx:Lib.index s [32] = i:=Lib.index_first (by omega) (by
  rw[Zsn,List.getElem?_eq_getElem hi];rw[List.getD_eq_getElem?_getD,List.getElem?_eq_getElem hi] at h;simpa using h) fun j hj=>by
  have:=hn j hj;rw[List.getD_eq_getElem?_getD,List.getElem?_eq_getElem (by omega)] at this;rw[Zsn,List.getElem?_eq_getElem (by omega)];simpa using this
 have:((i:Int)== -1)=false:=by simp
 unfold ZeG Lib.split;rw[Lib.count_hit (by simp) hx,Nat.add_comm 1,Lib.splitK,hx,this];rfl
theorem Zhg (s:List UInt8) (a j:Nat):(s.drop a).getD j 0=s.getD (a+j) 0:=by
 rw[List.getD_eq_getElem?_getD,List.getElem?_drop,List.getD_eq_getElem?_getD]
theorem ZtZ {s:List UInt8} (hs:s.length≤1000):FSpec Tryz.prog 45 [.c (.str s)] (.c (ZaY (ZeG s))):=by
 have hm:maxLen=9223372036854775807:=rfl;refine Zac c45 (Nat.le_refl _) (by decide) fun C hP hN hC hL=> ?_;rw[Zad]
 simp only[ZzA];refine vR ?_;refine Zby 3 28 9 1 (by decide) (by decide) rfl rfl ?_;simp only[go_sem];refine ZaQ (fun p:Nat×Nat×List (List UInt8)=>⟨upd (upd (upd (upd (upd e0 0 (.c (.str s))) 2 (.c (.raw (.slice none 0 0)))) 3 (.gr 28)) 4 (iv p.2.1)) 5 (iv p.1),upd o0 28 (.grow 9 1 (p.2.2.map fun x=>[CD.str x]))⟩)
  (fun p=>p.1≤s.length+1∧p.2.1≤p.1∧p.2.2.length≤p.1∧(∀j,p.2.1≤j→j<p.1→j<s.length→s.getD j 0≠32)∧(p.1≤s.length→p.2.2++ZeG (s.drop p.2.1)=ZeG s)∧(p.1=s.length+1→p.2.2=ZeG s)) (fun p=>s.length+1 -p.1) (0,0,[]) ⟨by omega,Nat.le_refl _,Nat.le_refl _,by omega,fun _=>rfl,by omega⟩ ?_ ?_
 ·refine Zai (by simp only[go_sem];exact Zam) (by simp only[go_sem,List.map_nil];exact Zaa)
 rintro ⟨i,fr,out⟩ ⟨h1,h2,h3,h3',h5,h6⟩;simp only at h1 h2 h3 h3' h5 h6⊢;refine vR ?_;(refine vC ?_ ?_<;>intro h)
 ·have hi:i≤s.length:=by simpa using h
  clear h6 h;have wi:=w64 (n:=(i:Int)+1) (by omega) (by omega);(repeat (refine vV ?_;(try simp only[go_sem,hP,Int.toNat_natCast]);refine vQ ?_))
  by_cases hp:i=s.length∨s.getD i 0=32
  ·(refine vC ?_ ?_<;>intro h)
   ·clear h;refine vR3 ?_;refine ⟨(i+1,i+1,out++[(s.drop fr).take (i -fr)]),⟨by simp only;omega,Nat.le_refl _,by simp only[List.length_append,List.length_cons,List.length_nil];omega,fun j hj1 hj2 _=>by simp only at hj1 hj2;omega,fun h=> ?_,fun h=> ?_⟩,by simp only;omega,?_⟩
    ·simp only at h⊢;have h32:s.getD i 0=32:=hp.resolve_left (by omega);have hcut:=Zqx (s:=s.drop fr) (i:=i -fr) (by rw[List.length_drop];omega) (by rw[Zhg,Nat.add_sub_cancel' h2];exact h32) fun j hj=>by rw[Zhg];exact h3' (fr+j) (by omega) (by omega) (by omega)
     rw[List.drop_drop,show fr+(i -fr+1)=i+1 by omega] at hcut;rw[←h5 hi,hcut,List.append_assoc];rfl
    ·simp only at h⊢;have hil:i=s.length:=by omega
     have hcut:=ZjZ (s:=s.drop fr) fun j hj=>by rw[List.length_drop] at hj;rw[Zhg];exact h3' (fr+j) (by omega) (by omega) (by omega)
     rw[List.take_of_length_le (by rw[List.length_drop];omega),←h5 hi,hcut]
    ·rw[List.map_append];refine Zai (by simp only[go_sem,wi];exact Zam) (by simp only[go_sem,List.map_cons,List.map_nil];exact Zaa)
   ·exfalso;simp at h;rcases hp with rfl|hp
    ·exact h.1 rfl
    ·rw[List.getD_eq_getElem?_getD] at hp;rw[hp] at h;exact h.2 rfl
  ·(refine vC ?_ ?_<;>intro h)
   ·exfalso;simp at h;rcases h with h|h
    ·exact hp (.inl (by omega))
    ·refine hp (.inr (UInt8.toNat_inj.1 ?_));rw[List.getD_eq_getElem?_getD];exact Int.ofNat.inj h
   ·refine vW wi ?_;refine ⟨(i+1,fr,out),⟨by simp only;omega,by simp only;omega,by simp only;omega,fun j hj1 hj2 hj3=> ?_,fun h=>h5 (by omega),fun h=>by simp only at h;omega⟩,by simp only;omega,?_⟩
    ·simp only at hj1 hj2;by_cases hji:j=i
     ·subst hji;exact fun h=>hp (.inr h)
     ·exact h3' j hj1 (by omega) hj3
    ·refine Zai (by simp only[go_sem];exact Zam) (by simp only[go_sem];exact Zaa)
 ·have hi:i=s.length+1:=by
   have:¬(i≤s.length):=by simpa using h
   omega
  rw[h6 hi];refine vR ?_;(refine vT ?_;try exact trivial)
abbrev Zyy:List Ins:=[JSm 8 0,JS 9 (.prim .slen [.t 8]),JSk 10 .gtr 9 0,JSm 11 10,JTm 12 0 11,JG 13 (.prim .sidx [.t 12,(.k (Jz 0))]) 11 true,JG 14 (.bin .eql (.t 13) (.k (.c (.int .u8 45)))) 11 true,JSp 15 11 14,JSm 4 15]
abbrev Zyz:List Ins:=[JSm 20 5,JS 21 (.prim .slen [.t 20]),JSk 22 .lss 21 1,JSm 23 22,JNm 24 5 23,JG 25 (.prim .slen [.t 24]) 23 false,JNk 26 .gtr 25 9 23,JSo 27 23 26,JSm 28 27,JNm 29 5 28,JG 30 (.prim .sidx [.t 29,(.k (Jz 0))]) 28 false,JG 31 (.bin .eql (.t 30) (.k (.c (.int .u8 48)))) 28 false,JNm 32 31 28,JTm 33 4 32,JTm 34 33 32,JNm 35 5 34,JG 36 (.prim .slen [.t 35]) 34 false,JNk 37 .gtr 36 1 34,JTo 38 34 37 32,JNp 39 32 38 28,JSo 40 28 39]
abbrev Zwn:List Ins:=[JSm 47 5,JSm 48 7,JS 49 (.prim .sidx [.t 47,.t 48]),JS 50 (.bin .lss (.t 49) (.k (.c (.int .u8 48)))),JSm 51 50,JNm 52 5 51,JNm 53 7 51,JG 54 (.prim .sidx [.t 52,.t 53]) 51 false,JG 55 (.bin .gtr (.t 54) (.k (.c (.int .u8 57)))) 51 false,JSo 56 51 55]
abbrev Zwo:List Ins:=[JSm 57 6,JS 58 (.bin .mul (.k (Jz 10)) (.t 57)),JSm 59 5,JSm 60 7,JS 61 (.prim .sidx [.t 59,.t 60]),JS 62 (.bin .sub (.t 61) (.k (.c (.int .u8 48)))),JS 63 (.prim (.conv .i64) [.t 62]),JSb 64 .add 58 63,JSm 6 64]
-- K46_1: changed and kept: [7,6]
abbrev Zxm:VC:=(.seq (.seq (.ops [JSi 7 0]) (.block 0 (.loop (.seq (.seq (.ops [JSm 41 7,JSm 42 5,JS 43 (.prim .slen [.t 42]),JSb 44 .lss 41 43]) (.cond (.t 44) .skip (.exit 0))) (.seq (.block 1 (.seq (.seq (.ops Zwn) (.cond (.t 56) (.seq (.ops [JSi 2 0,JSB 3 false]) .ret) .skip)) (.ops Zwo))) (.ops [JSm 45 7,JSk 46 .add 45 1,JSm 7 46])))))) (.seq (.seq (.ops [JSm 65 4]) (.cond (.t 65) (.ops [JSm 66 6,JS 67 (.un .neg (.t 66)),JSm 6 67]) .skip)) (.seq (.ops [JSm 68 6,JSm 2 68,JSB 3 true]) .ret)))
def ZzB:FC:=⟨1,69,[.t 2,.t 3],(.seq (.ops [JSi 2 0,JSB 3 false]) (.seq (.ops Zyy) (.seq (.ops [JSm 16 0,JSm 5 16]) (.seq (.seq (.ops [JSm 17 4]) (.cond (.t 17) (.ops [JSm 18 0,JS 19 (.prim (.sslc true false) [.t 18,(.k (Jz 1))]),JSm 5 19]) .skip)) (.seq (.seq (.ops Zyz) (.cond (.t 40) (.seq (.ops [JSi 2 0,JSB 3 false]) .ret) .skip)) (.seq (.ops [JSi 6 0]) Zxm))))))⟩
theorem c46:Zao Tryz.prog [] 46=some ZzB:=by kernel_rfl
def below (s:List UInt8):Bool:=decide (0<s.length)&&decide (s.getD 0 0=45)
theorem Zek (s:List UInt8):Zba s=if below s=true then s.drop 1 else s:=by
 unfold Zba below Lib.trimPrefix;cases s with
 |nil=>rfl
 |cons b r=>
  by_cases h:b=45
  ·subst h;rfl
  ·simp[h,List.isPrefixOf,BEq.comm,Lib.hasPrefix]
def dv (l:List UInt8):Int:=l.foldl (fun a b=>10*a+((b.toNat:Int) -48)) 0
theorem Zmn {l:List UInt8} {k:Nat} (h:k<l.length):dv (l.take (k+1))=10*dv (l.take k)+(((l.getD k 0).toNat:Int) -48):=by
 rw[List.take_succ_eq_append_getElem h,List.getD_eq_getElem?_getD,List.getElem?_eq_getElem h];unfold dv;rw[List.foldl_append];rfl
theorem Zqz:∀(l:List UInt8) (acc m:Nat),Lib.decFrom acc l=some m→l.foldl (fun a b=>10*a+((b.toNat:Int) -48)) (acc:Int)=m
 |[],acc,m,h=>by simp only[Lib.decFrom,Option.some.injEq] at h;rw[h];rfl
 |b::r,acc,m,h=>by
  simp only[Lib.decFrom,Lib.digitVal] at h;by_cases hb:48≤b.toNat∧b.toNat≤57
  ·rw[if_pos hb] at h;have:=Zqz r _ m h;simp only[List.foldl_cons];rw[←this];congr 1
   omega
  ·rw[if_neg hb] at h;cases h
theorem Zj0 {l:List UInt8}:∀k,k≤l.length→k≤9→(l.take k).all dgt=true→0≤dv (l.take k)∧dv (l.take k)<10^k
 |0,_,_,_=>by simp[dv]
 |k+1,h,h9,ha=>by
  rw[Zb8 dgt l k (by omega),Bool.and_eq_true] at ha;have ih:=Zj0 k (by omega) (by omega) ha.1;have hd:=ha.2;unfold dgt at hd;simp only[Bool.and_eq_true,decide_eq_true_eq] at hd;rw[Zmn (by omega),Int.pow_succ];omega
theorem Zm2 {s:List UInt8} (h:Zbo s=true):ZgG s=if below s=true then-(dv (Zba s)) else dv (Zba s):=by
 obtain ⟨h1,h2,h3,h4⟩:=ZfR h;have ha:=Zl6 h;obtain ⟨m,hm⟩:=ZcP (Zba s) 0 h4;have hdv:=Zqz _ _ _ hm;change dv (Zba s)=m at hdv
 rw[hdv];have hne:Zba s≠[]:=fun h=>by rw[h] at h1;cases h1
 have hdn:Lib.decNat (Zba s)=some m:=by unfold Lib.decNat;rw[List.isEmpty_eq_false_iff.2 hne];exact hm
 have hb:=Zek s;cases s with
 |nil=>exact absurd rfl hne
 |cons b r=>
  by_cases h45:b=45
  ·subst h45;have e:below (45::r)=true:=rfl;rw[e,if_pos rfl] at hb;rw[e,if_pos rfl];rw[hb] at hdn;simp only[List.drop_succ_cons,List.drop_zero] at hdn;simp only[Lib.atoi,beq_self_eq_true,if_true,hdn,Option.map_some,Option.some.injEq] at ha;exact ha.symm
  ·have e:below (b::r)=false:=by simp[below,h45]
   rw[e] at hb⊢;simp only[Bool.false_eq_true,if_false] at hb⊢;rw[hb] at hdn h4;have h43:b≠43:=by
    rintro rfl;simp[dgt] at h4
   have e1:(b==45)=false:=by simpa using h45
   have e2:(b==43)=false:=by simpa using h43
   simp only[Lib.atoi,e1,e2,hdn,Option.map_some,Bool.false_eq_true,if_false,Option.some.injEq] at ha;exact ha.symm
theorem Zt0 {n:Int} (h:0≤n∧n<256):IntKind.u8.wrap n=n:=by
 simp[IntKind.wrap,IntKind.bits,IntKind.signed];omega
theorem ZnN {s:List UInt8} (hs:s.length≤1000):FSpec Tryz.prog 46 [.c (.str s)] (.tup [iv (ZgG s),.c (.bool (Zbo s))]):=by
 have hm:maxLen=9223372036854775807:=rfl;have hdb:=Zek s;have hdl:(Zba s).length≤s.length:=by unfold Zba Lib.trimPrefix;split<;>simp
 refine Zac c46 (Nat.le_refl _) (by decide) fun C hP hN hC hL=> ?_;rw[Zad]
 simp only[ZzB];refine vR ?_;have e4:(decide ((0:Int)<s.length)&&((((s.getD (Int.toNat 0) 0).toNat:Nat):Int)==45))=below s:=by
  unfold below;congr 1
  ·exact decide_eq_decide.2 (by omega)
  ·by_cases h:s.getD 0 0=45
   ·simp only[Int.toNat_zero,h];rfl
   ·simp only[Int.toNat_zero,h,decide_false,beq_eq_false_iff_ne,ne_eq];intro h2;exact h (UInt8.toNat_inj.1 (Int.ofNat.inj h2))
 refine Zdx (fun σ'=>Sub σ' ⟨upd (upd (upd (upd (upd e0 0 (.c (.str s))) 2 (iv 0)) 3 (.c (.bool false))) 4 (.c (.bool (below s)))) 5 (.c (.str (Zba s))),o0⟩) ?_ ?_
 ·cases hb:below s with
  |true=>
   rw[hb] at e4 hdb;rw[if_pos rfl] at hdb;rw[hdb];have hl:0<s.length:=by unfold below at hb;simp only[Bool.and_eq_true,decide_eq_true_eq] at hb;exact hb.1
   (refine vC ?_ ?_<;>intro h)
   ·(repeat (refine vV ?_;(try simp only[go_sem,hP,e4,Int.toNat_one]);refine vQ ?_))
    refine Zai (by simp only[go_sem,e4,Int.toNat_one];exact vEr) (by simp only[go_sem];exact Zaa)
   ·rw[e4] at h;cases h
  |false=>
   rw[hb] at e4 hdb;rw[if_neg (by decide)] at hdb;rw[hdb];(refine vC ?_ ?_<;>intro h)
   ·rw[e4] at h;cases h
   ·refine vW e4 ?_;refine Zai (by simp only[go_sem,e4];exact vEr) (by simp only[go_sem];exact Zaa)
 intro σ' hs';refine ZaL hs' ?_;refine vR ?_;refine ⟨fun h=>⟨h,fun h2=>⟨h,by simp[h2]⟩⟩,fun h=>⟨h,fun h2=>⟨h,h2⟩⟩,fun h=>by rw[h];rfl,?_⟩;have eB:(decide (((Zba s).length:Int)<1)||decide (9<((Zba s).length:Int))||((((Zba s).getD (Int.toNat 0) 0).toNat:Int)==48&&(below s||decide (1<((Zba s).length:Int)))))=Zcw s:=by
  unfold Zcw;rw[show decide (((Zba s).length:Int)<1)=(((Zba s).length:Int)==0) from decide_eq_decide.2 (by omega)];cases hz:(((Zba s).length:Int)==0) with
  |true=>simp only[Bool.true_or]
  |false=>
   have hz':¬((Zba s).length:Int)=0:=by simpa using hz
   congr 2
   rw[Bool.eq_iff_iff];cases hb:below s with
   |true=>
    rw[hb,if_pos rfl] at hdb;have:=congrArg List.length hdb;rw[List.length_drop] at this;simp;omega
   |false=>
    rw[hb,if_neg (by decide)] at hdb;rw[hdb];simp
 refine ZaL (σ':=⟨upd (upd (upd (upd (upd (upd e0 0 (.c (.str s))) 2 (iv 0)) 3 (.c (.bool false))) 4 (.c (.bool (below s)))) 5 (.c (.str (Zba s)))) 40 (.c (.bool (Zcw s))),o0⟩) (Zai (by simp only[go_sem];((repeat' (first|exact ZaW _ _|refine ZaJ ?_ ?_))<;>((try simp only[ZaT,ZbG,ZbH,Nat.reduceEqDiff,reduceIte]);first|exact AWk.refl _ _|exact AWk.int (by omega)|exact AWk.int (by rw[w64 (by omega) (by omega)];omega)|exact AWk.grow rfl|exact AWk.nil _|exact AWk.of (by rw[eB])))) (by simp only[go_sem];exact Zaa)) ?_;cases hb:Zcw s with
 |true=>
  have hok:Zbo s=false:=by unfold Zbo;rw[hb];rfl
  have hv:ZgG s=0:=by unfold ZgG;rw[hok];rfl
  rw[hok,hv];(refine vC ?_ ?_<;>intro h)
  ·refine vR ?_;(refine vT ?_;try exact trivial)
  ·cases h
 |false=>
  have hd9:(Zba s).length≤9:=by
   unfold Zcw at hb;simp at hb;omega
  (refine vC ?_ ?_<;>intro h)
  ·cases h
  clear h;refine vR ?_;refine ZaQ (fun k:Nat=>⟨upd (upd (upd (upd (upd (upd e0 2 (iv 0)) 3 (.c (.bool false))) 4 (.c (.bool (below s)))) 5 (.c (.str (Zba s)))) 6 (iv (dv ((Zba s).take k)))) 7 (iv k),o0⟩) (fun k=>k≤(Zba s).length∧((Zba s).take k).all dgt=true) (fun k=>(Zba s).length -k) 0 ⟨Nat.zero_le _,rfl⟩ ?_ ?_
  ·(refine Zai (by simp only[go_sem];exact vEr) (by simp only[go_sem];exact Zaa))
  rintro k ⟨hk,hr⟩;have hbd:=Zj0 (l:=Zba s) k hk (by omega) hr;have hpw:(10:Int)^k≤1000000000:=by
   have:k=0∨k=1∨k=2∨k=3∨k=4∨k=5∨k=6∨k=7∨k=8∨k=9:=by omega
   rcases this with rfl|rfl|rfl|rfl|rfl|rfl|rfl|rfl|rfl|rfl<;>decide
  refine vR ?_;(refine vC ?_ ?_<;>intro h)
  ·have hi:k<(Zba s).length:=by simpa using h
   have hw:=w64 (n:=(k:Int)+1) (by omega) (by omega);have hts:=Zb8 dgt (Zba s) k hi;have hsn:=Zmn hi;rw[hr,Bool.true_and] at hts;have hfail:dgt ((Zba s).getD k 0)=false→Zbo s=false:=fun h=>by
    unfold Zbo;have:(Zba s).all dgt=false:=by
     cases hx:(Zba s).all dgt with
     |false=>rfl
     |true=>
      have:=List.all_eq_true.1 hx ((Zba s).getD k 0) (by rw[List.getD_eq_getElem?_getD,List.getElem?_eq_getElem hi];exact List.getElem_mem hi);rw[h] at this;cases this
    rw[this,Bool.and_false]
   obtain ⟨z,hz⟩:∃z,(Zba s).getD k 0=z:=⟨_,rfl⟩;rw[hz] at hts hsn hfail;(repeat (refine vV ?_;(try simp only[go_sem,hP,Int.toNat_natCast,hz]);refine vQ ?_))
   generalize dv ((Zba s).take k)=d at hbd hsn⊢;by_cases hdg:dgt z=true
   ·rw[hdg] at hts;unfold dgt at hdg;simp only[Bool.and_eq_true,decide_eq_true_eq] at hdg;have w1:IntKind.u8.wrap ((z.toNat:Int) -48)=(z.toNat:Int) -48:=Zt0 (by omega);have w2:=w64 (n:=(z.toNat:Int) -48) (by omega) (by omega);have w3:=w64 (n:=10*d) (by omega) (by omega);have w4:=w64 (n:=10*d+((z.toNat:Int) -48)) (by omega) (by omega);(refine vC ?_ ?_<;>intro h)
    ·simp at h;omega
    (repeat (refine vV ?_;(try simp only[go_sem,hP,hw,Int.toNat_natCast,hz,w1,w2,w3,w4]);refine vQ ?_))
    refine ⟨k+1,⟨by omega,hts⟩,by omega,?_⟩;rw[hsn];(refine Zai (by simp only[go_sem];exact vEr) (by simp only[go_sem];exact Zaa))
   ·have hdg':dgt z=false:=by simpa using hdg
    have hok:=hfail hdg';have hv:ZgG s=0:=by unfold ZgG;rw[hok];rfl
    rw[hok,hv];unfold dgt at hdg';simp only[Bool.and_eq_false_iff,decide_eq_false_iff_not] at hdg';(refine vC ?_ ?_<;>intro h)
    ·refine vR ?_;(refine vT ?_;try exact trivial)
    ·simp at h;omega
  ·have hkl:k=(Zba s).length:=by
    have:¬(k<(Zba s).length):=by simpa using h
    omega
   subst hkl;rw[List.take_length] at hr hbd⊢;have hok:Zbo s=true:=by unfold Zbo;rw[hb,hr];rfl
   have hv:=Zm2 hok;rw[hok,hv];refine vR ?_;cases hbl:below s with
   |true=>
    (refine vC ?_ ?_<;>intro h)
    ·have wn:=w64 (n:=-(dv (Zba s))) (by omega) (by omega);(repeat (refine vV ?_;(try simp only[go_sem,hP,wn,Int.zero_sub]);refine vQ ?_))
     (refine vT ?_;try exact trivial)
    ·cases h
   |false=>
    (refine vC ?_ ?_<;>intro h)
    ·cases h
    ·refine vR ?_;(refine vT ?_;try exact trivial)
abbrev Zxv:VC:=(.seq (.ops [JS 12 (.prim (.sbin .eql) [.t 3,(.k (.c (.str [109,105,115,115,105,110,103])))]),JSm 4 12]) (.cond (.t 4) .skip (.seq (.ops [JS 13 (.prim (.sbin .eql) [.t 3,(.k (.c (.str [119,104,105,99,104])))]),JSm 4 13]) (.cond (.t 4) .skip (.seq (.ops [JS 14 (.prim (.sbin .eql) [.t 3,(.k (.c (.str [115,107,105,112,112,101,100])))]),JSm 4 14]) (.cond (.t 4) .skip (.ops [JS 15 (.prim (.sbin .eql) [.t 3,(.k (.c (.str [115,104,111,114,116])))]),JSm 4 15])))))))
abbrev Zxw:VC:=(.cond (.t 4) .skip (.seq (.ops [JS 9 (.prim (.sbin .eql) [.t 3,(.k (.c (.str [115,111,111,110,101,115,116])))]),JSm 4 9]) (.cond (.t 4) .skip (.seq (.ops [JS 10 (.prim (.sbin .eql) [.t 3,(.k (.c (.str [99,97,115,104])))]),JSm 4 10]) (.cond (.t 4) .skip (.seq (.ops [JS 11 (.prim (.sbin .eql) [.t 3,(.k (.c (.str [99,97,110])))]),JSm 4 11]) (.cond (.t 4) .skip Zxv)))))))
abbrev Zxx:VC:=(.seq (.ops [JS 22 (.prim (.sbin .eql) [.t 3,(.k (.c (.str [103,105,118,101,115])))]),JSm 16 22]) (.cond (.t 16) .skip (.seq (.ops [JS 23 (.prim (.sbin .eql) [.t 3,(.k (.c (.str [99,104,101,97,112,101,115,116])))]),JSm 16 23]) (.cond (.t 16) .skip (.seq (.ops [JS 24 (.prim (.sbin .eql) [.t 3,(.k (.c (.str [119,97,105,116])))]),JSm 16 24]) (.cond (.t 16) .skip (.ops [JS 25 (.prim (.sbin .eql) [.t 3,(.k (.c (.str [97,116])))]),JSm 16 25])))))))
abbrev Zxy:VC:=(.seq (.ops [JS 19 (.prim (.sbin .eql) [.t 3,(.k (.c (.str [115,108,117,103])))]),JSm 16 19]) (.cond (.t 16) .skip (.seq (.ops [JS 20 (.prim (.sbin .eql) [.t 3,(.k (.c (.str [108,111,115,101])))]),JSm 16 20]) (.cond (.t 16) .skip (.seq (.ops [JS 21 (.prim (.sbin .eql) [.t 3,(.k (.c (.str [115,107,105,112,115])))]),JSm 16 21]) (.cond (.t 16) .skip Zxx))))))
abbrev Zxz:VC:=(.seq (.seq (.ops [JS 17 (.prim (.sbin .eql) [.t 3,(.k (.c (.str [99,111,105,110])))]),JSm 16 17]) (.cond (.t 16) .skip (.seq (.ops [JS 18 (.prim (.sbin .eql) [.t 3,(.k (.c (.str [109,97,114,107])))]),JSm 16 18]) (.cond (.t 16) .skip Zxy)))) (.cond (.t 16) (.seq (.ops [JSi 2 1]) .ret) (.seq (.seq (.ops [JS 27 (.prim (.sbin .eql) [.t 3,(.k (.c (.str [112,114,101,115,115])))]),JSm 26 27]) (.cond (.t 26) .skip (.ops [JS 28 (.prim (.sbin .eql) [.t 3,(.k (.c (.str [108,97,116,101,115,116])))]),JSm 26 28]))) (.cond (.t 26) (.seq (.ops [JSi 2 2]) .ret) .skip))))
abbrev ZxA:VC:=(.seq (.seq (.ops [JS 5 (.prim (.sbin .eql) [.t 3,(.k (.c (.str [101,109,112,116,121])))]),JSm 4 5]) (.cond (.t 4) .skip (.seq (.ops [JS 6 (.prim (.sbin .eql) [.t 3,(.k (.c (.str [115,116,97,110,100])))]),JSm 4 6]) (.cond (.t 4) .skip (.seq (.ops [JS 7 (.prim (.sbin .eql) [.t 3,(.k (.c (.str [108,111,110,103,101,115,116])))]),JSm 4 7]) (.cond (.t 4) .skip (.seq (.ops [JS 8 (.prim (.sbin .eql) [.t 3,(.k (.c (.str [101,110,100])))]),JSm 4 8]) Zxw))))))) (.cond (.t 4) (.seq (.ops [JSi 2 0]) .ret) Zxz))
def ZzK:FC:=⟨1,29,[.t 2],(.seq (.ops [JSi 2 0]) (.seq (.seq (.ops [JSm 3 0]) (.block 0 ZxA)) (.seq (.ops [JSi 2 (-1)]) .ret)))⟩
abbrev Zxd:VC:=(.seq (.ops [JSm 26 5,JSm 27 6,JSa 28 1 26 27,JSl 29 28,JSc 30 46 [.t 29],JSm 25 30,JSe 31 25 0,JSe 32 25 1,JSm 7 31,JSm 8 32]) (.seq (.seq (.ops [JSm 33 8,JS 34 (.un .not (.t 33))]) (.cond (.t 34) (.seq (.ops [JS 2 (.mv (.k (.c (.str [])))),JS 3 (.mv (.k J0)),JSB 4 false]) .ret) .skip)) (.ops [JSm 35 3,JSm 36 7,JS 37 (.bsl 3 1 [.t 36]),JS 38 (.app 3 1 8 (.t 35) (.t 37)),JSm 3 38])))
-- K19_1: changed and kept: [6,3]
abbrev Zxe:VC:=(.seq (.seq (.ops [JSm 11 5,JS 12 (.ia 1 (.t 11) (.k (Jz 0))),JSl 13 12,JSc 14 59 [.t 13],JSm 15 5,JSn 16 15,JSk 17 .sub 16 1,JSb 18 .neq 14 17]) (.cond (.t 18) (.seq (.ops [JS 2 (.mv (.k (.c (.str [])))),JS 3 (.mv (.k J0)),JSB 4 false]) .ret) .skip)) (.seq (.seq (.ops [JSi 6 1]) (.block 0 (.loop (.seq (.seq (.ops [JSm 19 6,JSm 20 5,JSn 21 20,JSb 22 .lss 19 21]) (.cond (.t 22) .skip (.exit 0))) (.seq (.block 1 Zxd) (.ops [JSm 23 6,JSk 24 .add 23 1,JSm 6 24])))))) (.seq (.ops [JSm 39 5,JS 40 (.ia 1 (.t 39) (.k (Jz 0))),JSl 41 40,JSm 42 3,JSm 2 41,JSm 3 42,JSB 4 true]) .ret)))
def Zzs:FC:=⟨1,43,[.t 2,.t 3,.t 4],(.seq (.ops [JS 2 (.mv (.k (.c (.str [])))),JS 3 (.mv (.k J0)),JSB 4 false]) (.seq (.ops [JSm 9 0,JSc 10 45 [.t 9],JSm 5 10]) Zxe))⟩
theorem c59:Zao Tryz.prog [] 59=some ZzK:=by kernel_rfl
theorem c19:Zao Tryz.prog [] 19=some Zzs:=by kernel_rfl
def Zbj (w:List UInt8):Int:=match ZbX w with|some e=>e.many|none=> -1
theorem ZmS {w:List UInt8} (h:(Zi0.all fun p=> !(w==p.1))=true):Zbj w= -1:=by
 have:ZbX w=none:=by
  unfold ZbX;rw[Option.map_eq_none_iff,List.find?_eq_none];intro p hp hpw;have h2:=List.all_eq_true.1 h p hp;rw[eq_of_beq hpw] at h2;simp at h2
 unfold Zbj;rw[this]
set_option maxRecDepth 100000 in
theorem many38 {w:List UInt8} (hs:w.length≤1000):FSpec Tryz.prog 59 [.c (.str w)] (iv (Zbj w)):=by
 have hm:maxLen=9223372036854775807:=rfl;refine Zac c59 (Nat.le_refl _) (by decide) fun C hP hN hC hL=> ?_;rw[Zad]
 simp only[ZzK];refine vR ?_;cases h000:(w==[101,109,112,116,121]);rotate_left
 ·rw[show Zbj w=0 from by rw[eq_of_beq h000];rfl];(repeat (first|(refine Zav rfl (fun hh=> ?_) (fun hh=> ?_);rotate_left;exact absurd hh (by decide))|((first|refine Va ?_|refine Vb ?_|refine Vc ?_|refine Vd ?_|refine Ve ?_|refine Vf ?_);(try simp only[go_sem,hP]))))
  (refine vT ?_;try exact trivial)
 (refine Zav rfl (fun hh=> ?_) (fun hh=> ?_);exact absurd hh (by decide))
 refine vR ?_;cases h001:(w==[115,116,97,110,100]);rotate_left
 ·rw[show Zbj w=0 from by rw[eq_of_beq h001];rfl];(repeat (first|(refine Zav rfl (fun hh=> ?_) (fun hh=> ?_);rotate_left;exact absurd hh (by decide))|((first|refine Va ?_|refine Vb ?_|refine Vc ?_|refine Vd ?_|refine Ve ?_|refine Vf ?_);(try simp only[go_sem,hP]))))
  (refine vT ?_;try exact trivial)
 (refine Zav rfl (fun hh=> ?_) (fun hh=> ?_);exact absurd hh (by decide))
 refine vR ?_;cases h002:(w==[108,111,110,103,101,115,116]);rotate_left
 ·rw[show Zbj w=0 from by rw[eq_of_beq h002];rfl];(repeat (first|(refine Zav rfl (fun hh=> ?_) (fun hh=> ?_);rotate_left;exact absurd hh (by decide))|((first|refine Va ?_|refine Vb ?_|refine Vc ?_|refine Vd ?_|refine Ve ?_|refine Vf ?_);(try simp only[go_sem,hP]))))
  (refine vT ?_;try exact trivial)
 (refine Zav rfl (fun hh=> ?_) (fun hh=> ?_);exact absurd hh (by decide))
 refine vR ?_;cases h003:(w==[101,110,100]);rotate_left
 ·rw[show Zbj w=0 from by rw[eq_of_beq h003];rfl];(repeat (first|(refine Zav rfl (fun hh=> ?_) (fun hh=> ?_);rotate_left;exact absurd hh (by decide))|((first|refine Va ?_|refine Vb ?_|refine Vc ?_|refine Vd ?_|refine Ve ?_|refine Vf ?_);(try simp only[go_sem,hP]))))
  (refine vT ?_;try exact trivial)
 (refine Zav rfl (fun hh=> ?_) (fun hh=> ?_);exact absurd hh (by decide))
 refine vR ?_;cases h004:(w==[115,111,111,110,101,115,116]);rotate_left
 ·rw[show Zbj w=0 from by rw[eq_of_beq h004];rfl];(repeat (first|(refine Zav rfl (fun hh=> ?_) (fun hh=> ?_);rotate_left;exact absurd hh (by decide))|((first|refine Va ?_|refine Vb ?_|refine Vc ?_|refine Vd ?_|refine Ve ?_|refine Vf ?_);(try simp only[go_sem,hP]))))
  (refine vT ?_;try exact trivial)
 (refine Zav rfl (fun hh=> ?_) (fun hh=> ?_);exact absurd hh (by decide))
 refine vR ?_;cases h005:(w==[99,97,115,104]);rotate_left
 ·rw[show Zbj w=0 from by rw[eq_of_beq h005];rfl];(repeat (first|(refine Zav rfl (fun hh=> ?_) (fun hh=> ?_);rotate_left;exact absurd hh (by decide))|((first|refine Va ?_|refine Vb ?_|refine Vc ?_|refine Vd ?_|refine Ve ?_|refine Vf ?_);(try simp only[go_sem,hP]))))
  (refine vT ?_;try exact trivial)
 (refine Zav rfl (fun hh=> ?_) (fun hh=> ?_);exact absurd hh (by decide))
 refine vR ?_;cases h006:(w==[99,97,110]);rotate_left
 ·rw[show Zbj w=0 from by rw[eq_of_beq h006];rfl];(repeat (first|(refine Zav rfl (fun hh=> ?_) (fun hh=> ?_);rotate_left;exact absurd hh (by decide))|((first|refine Va ?_|refine Vb ?_|refine Vc ?_|refine Vd ?_|refine Ve ?_|refine Vf ?_);(try simp only[go_sem,hP]))))
  (refine vT ?_;try exact trivial)
 (refine Zav rfl (fun hh=> ?_) (fun hh=> ?_);exact absurd hh (by decide))
 refine vR ?_;cases h007:(w==[109,105,115,115,105,110,103]);rotate_left
 ·rw[show Zbj w=0 from by rw[eq_of_beq h007];rfl];(repeat (first|(refine Zav rfl (fun hh=> ?_) (fun hh=> ?_);rotate_left;exact absurd hh (by decide))|((first|refine Va ?_|refine Vb ?_|refine Vc ?_|refine Vd ?_|refine Ve ?_|refine Vf ?_);(try simp only[go_sem,hP]))))
  (refine vT ?_;try exact trivial)
 (refine Zav rfl (fun hh=> ?_) (fun hh=> ?_);exact absurd hh (by decide))
 refine vR ?_;cases h008:(w==[119,104,105,99,104]);rotate_left
 ·rw[show Zbj w=0 from by rw[eq_of_beq h008];rfl];(repeat (first|(refine Zav rfl (fun hh=> ?_) (fun hh=> ?_);rotate_left;exact absurd hh (by decide))|((first|refine Va ?_|refine Vb ?_|refine Vc ?_|refine Vd ?_|refine Ve ?_|refine Vf ?_);(try simp only[go_sem,hP]))))
  (refine vT ?_;try exact trivial)
 (refine Zav rfl (fun hh=> ?_) (fun hh=> ?_);exact absurd hh (by decide))
 refine vR ?_;cases h009:(w==[115,107,105,112,112,101,100]);rotate_left
 ·rw[show Zbj w=0 from by rw[eq_of_beq h009];rfl];(repeat (first|(refine Zav rfl (fun hh=> ?_) (fun hh=> ?_);rotate_left;exact absurd hh (by decide))|((first|refine Va ?_|refine Vb ?_|refine Vc ?_|refine Vd ?_|refine Ve ?_|refine Vf ?_);(try simp only[go_sem,hP]))))
  (refine vT ?_;try exact trivial)
 (refine Zav rfl (fun hh=> ?_) (fun hh=> ?_);exact absurd hh (by decide))
 refine vR ?_;cases h010:(w==[115,104,111,114,116]);rotate_left
 ·rw[show Zbj w=0 from by rw[eq_of_beq h010];rfl];(repeat (first|(refine Zav rfl (fun hh=> ?_) (fun hh=> ?_);rotate_left;exact absurd hh (by decide))|((first|refine Va ?_|refine Vb ?_|refine Vc ?_|refine Vd ?_|refine Ve ?_|refine Vf ?_);(try simp only[go_sem,hP]))))
  (refine vT ?_;try exact trivial)
 (refine Zav rfl (fun hh=> ?_) (fun hh=> ?_);exact absurd hh (by decide))
 refine vR ?_;cases h100:(w==[99,111,105,110]);rotate_left
 ·rw[show Zbj w=1 from by rw[eq_of_beq h100];rfl];(repeat (first|(refine Zav rfl (fun hh=> ?_) (fun hh=> ?_);rotate_left;exact absurd hh (by decide))|((first|refine Va ?_|refine Vb ?_|refine Vc ?_|refine Vd ?_|refine Ve ?_|refine Vf ?_);(try simp only[go_sem,hP]))))
  (refine vT ?_;try exact trivial)
 (refine Zav rfl (fun hh=> ?_) (fun hh=> ?_);exact absurd hh (by decide))
 refine vR ?_;cases h101:(w==[109,97,114,107]);rotate_left
 ·rw[show Zbj w=1 from by rw[eq_of_beq h101];rfl];(repeat (first|(refine Zav rfl (fun hh=> ?_) (fun hh=> ?_);rotate_left;exact absurd hh (by decide))|((first|refine Va ?_|refine Vb ?_|refine Vc ?_|refine Vd ?_|refine Ve ?_|refine Vf ?_);(try simp only[go_sem,hP]))))
  (refine vT ?_;try exact trivial)
 (refine Zav rfl (fun hh=> ?_) (fun hh=> ?_);exact absurd hh (by decide))
 refine vR ?_;cases h102:(w==[115,108,117,103]);rotate_left
 ·rw[show Zbj w=1 from by rw[eq_of_beq h102];rfl];(repeat (first|(refine Zav rfl (fun hh=> ?_) (fun hh=> ?_);rotate_left;exact absurd hh (by decide))|((first|refine Va ?_|refine Vb ?_|refine Vc ?_|refine Vd ?_|refine Ve ?_|refine Vf ?_);(try simp only[go_sem,hP]))))
  (refine vT ?_;try exact trivial)
 (refine Zav rfl (fun hh=> ?_) (fun hh=> ?_);exact absurd hh (by decide))
 refine vR ?_;cases h103:(w==[108,111,115,101]);rotate_left
 ·rw[show Zbj w=1 from by rw[eq_of_beq h103];rfl];(repeat (first|(refine Zav rfl (fun hh=> ?_) (fun hh=> ?_);rotate_left;exact absurd hh (by decide))|((first|refine Va ?_|refine Vb ?_|refine Vc ?_|refine Vd ?_|refine Ve ?_|refine Vf ?_);(try simp only[go_sem,hP]))))
  (refine vT ?_;try exact trivial)
 (refine Zav rfl (fun hh=> ?_) (fun hh=> ?_);exact absurd hh (by decide))
 refine vR ?_;cases h104:(w==[115,107,105,112,115]);rotate_left
 ·rw[show Zbj w=1 from by rw[eq_of_beq h104];rfl];(repeat (first|(refine Zav rfl (fun hh=> ?_) (fun hh=> ?_);rotate_left;exact absurd hh (by decide))|((first|refine Va ?_|refine Vb ?_|refine Vc ?_|refine Vd ?_|refine Ve ?_|refine Vf ?_);(try simp only[go_sem,hP]))))
  (refine vT ?_;try exact trivial)
 (refine Zav rfl (fun hh=> ?_) (fun hh=> ?_);exact absurd hh (by decide))
 refine vR ?_;cases h105:(w==[103,105,118,101,115]);rotate_left
 ·rw[show Zbj w=1 from by rw[eq_of_beq h105];rfl];(repeat (first|(refine Zav rfl (fun hh=> ?_) (fun hh=> ?_);rotate_left;exact absurd hh (by decide))|((first|refine Va ?_|refine Vb ?_|refine Vc ?_|refine Vd ?_|refine Ve ?_|refine Vf ?_);(try simp only[go_sem,hP]))))
  (refine vT ?_;try exact trivial)
 (refine Zav rfl (fun hh=> ?_) (fun hh=> ?_);exact absurd hh (by decide))
 refine vR ?_;cases h106:(w==[99,104,101,97,112,101,115,116]);rotate_left
 ·rw[show Zbj w=1 from by rw[eq_of_beq h106];rfl];(repeat (first|(refine Zav rfl (fun hh=> ?_) (fun hh=> ?_);rotate_left;exact absurd hh (by decide))|((first|refine Va ?_|refine Vb ?_|refine Vc ?_|refine Vd ?_|refine Ve ?_|refine Vf ?_);(try simp only[go_sem,hP]))))
  (refine vT ?_;try exact trivial)
 (refine Zav rfl (fun hh=> ?_) (fun hh=> ?_);exact absurd hh (by decide))
 refine vR ?_;cases h107:(w==[119,97,105,116]);rotate_left
 ·rw[show Zbj w=1 from by rw[eq_of_beq h107];rfl];(repeat (first|(refine Zav rfl (fun hh=> ?_) (fun hh=> ?_);rotate_left;exact absurd hh (by decide))|((first|refine Va ?_|refine Vb ?_|refine Vc ?_|refine Vd ?_|refine Ve ?_|refine Vf ?_);(try simp only[go_sem,hP]))))
  (refine vT ?_;try exact trivial)
 (refine Zav rfl (fun hh=> ?_) (fun hh=> ?_);exact absurd hh (by decide))
 refine vR ?_;cases h108:(w==[97,116]);rotate_left
 ·rw[show Zbj w=1 from by rw[eq_of_beq h108];rfl];(repeat (first|(refine Zav rfl (fun hh=> ?_) (fun hh=> ?_);rotate_left;exact absurd hh (by decide))|((first|refine Va ?_|refine Vb ?_|refine Vc ?_|refine Vd ?_|refine Ve ?_|refine Vf ?_);(try simp only[go_sem,hP]))))
  (refine vT ?_;try exact trivial)
 (refine Zav rfl (fun hh=> ?_) (fun hh=> ?_);exact absurd hh (by decide))
 refine vR ?_;cases h200:(w==[112,114,101,115,115]);rotate_left
 ·rw[show Zbj w=2 from by rw[eq_of_beq h200];rfl];(repeat (first|(refine Zav rfl (fun hh=> ?_) (fun hh=> ?_);rotate_left;exact absurd hh (by decide))|((first|refine Va ?_|refine Vb ?_|refine Vc ?_|refine Vd ?_|refine Ve ?_|refine Vf ?_);(try simp only[go_sem,hP]))))
  (refine vT ?_;try exact trivial)
 (refine Zav rfl (fun hh=> ?_) (fun hh=> ?_);exact absurd hh (by decide))
 refine vR ?_;cases h201:(w==[108,97,116,101,115,116]);rotate_left
 ·rw[show Zbj w=2 from by rw[eq_of_beq h201];rfl];(repeat (first|(refine Zav rfl (fun hh=> ?_) (fun hh=> ?_);rotate_left;exact absurd hh (by decide))|((first|refine Va ?_|refine Vb ?_|refine Vc ?_|refine Vd ?_|refine Ve ?_|refine Vf ?_);(try simp only[go_sem,hP]))))
  (refine vT ?_;try exact trivial)
 (refine Zav rfl (fun hh=> ?_) (fun hh=> ?_);exact absurd hh (by decide))
 refine vR ?_;rw[ZmS (by simp only[Zi0,List.all_cons,List.all_nil,h000,h001,h002,h003,h004,h005,h006,h007,h008,h009,h010,h100,h101,h102,h103,h104,h105,h106,h107,h108,h200,h201,Bool.not_false,Bool.and_self])];(refine vT ?_;try exact trivial)
theorem ZrU (w:List UInt8) (h:ZbX w≠none):Zbj w=wM w:=by
 unfold Zbj wM;cases hw:ZbX w with
 |none=>exact absurd hw h
 |some e=>rfl
def ZfW (s:List UInt8):AV:=match Za4 s with
 |some (w,ns)=> .tup [.c (.str w),.c (Zaj ns),.c (.bool true)]
 |none=> .tup [.c (.str []),.c (.raw (.slice none 0 0)),.c (.bool false)]
theorem ZgS (sep:List UInt8):∀(k:Nat) (s:List UInt8),(Lib.splitK sep 0 k s).length≤k+1
 |0,s=>by simp[Lib.splitK]
 |k+1,s=>by
  unfold Lib.splitK;split
  ·simp
  ·have:=ZgS sep k (s.drop ((Lib.index s sep).toNat+sep.length));simp only[List.length_cons];omega
theorem ZoO (s:List UInt8):(ZeG s).length≤s.length+2:=by
 have h1:=ZgS [32] (Lib.count s [32]) s;have h2:=Lib.count_le s [32];unfold ZeG Lib.split;omega
theorem Zhy {s:List UInt8} (hs:s.length≤1000):FSpec Tryz.prog 19 [.c (.str s)] (ZfW s):=by
 have hm:maxLen=9223372036854775807:=rfl;obtain ⟨w,args,hc⟩:=ZjY s;have hsp:=ZtZ hs;rw[hc] at hsp;have hwl:w.length≤1000:=by have:=Zg8 (s:=s) (w:=w) (by rw[hc];exact List.mem_cons_self ..);omega
 refine Zac c19 (Nat.le_refl _) (by decide) fun C hP hN hC hL=> ?_;rw[Zad]
 simp only[Zzs];refine vR ?_;have h00:(([CD.str w]::args.map fun x=>[CD.str x]).getD (Int.toNat 0) []).getD 0 default=CD.str w:=rfl;(refine Zau (hsp) ?_;simp only[go_sem,hP,ZaY,List.length_map,List.length_cons,h00];refine vQ ?_;(repeat (refine vV ?_;(try simp only[go_sem,hP,ZaY,List.length_map,List.length_cons,h00]);refine vQ ?_)))
 have hlen:args.length≤2000:=by have:=ZoO s;rw[hc,List.length_cons] at this;omega
 have wl:=w64 (n:=(((args.length+1:Nat):Int)) -1) (by omega) (by omega);(refine Zau (many38 hwl) ?_;simp only[go_sem,hP,List.length_map,List.length_cons,wl];refine vQ ?_;(repeat (refine vV ?_;(try simp only[go_sem,hP,List.length_map,List.length_cons,wl]);refine vQ ?_)))
 by_cases hbad:Zbj w≠(args.length:Int)
 ·have hno:Za4 s = none:=Zds hc (by
   cases hw:ZbX w with
   |none=>exact .inl rfl
   |some e=>exact .inr (.inl fun h=>hbad (by rw[ZrU w (by rw[hw];simp),h])))
  unfold ZfW;rw[hno];(refine vC ?_ ?_<;>intro h)
  ·refine vR ?_;(refine vT ?_;try exact trivial)
  ·exfalso;simp at h;exact hbad (by omega)
 ·have hmw:Zbj w=(args.length:Int):=Decidable.of_not_not hbad;have hw:∃e,ZbX w=some e:=by
   cases hw:ZbX w with
   |none=>unfold Zbj at hmw;rw[hw] at hmw;simp only at hmw;omega
   |some e=>exact ⟨e,rfl⟩
  obtain ⟨e,hw⟩:=hw;have hem:(args.length:Int)=e.many:=by unfold Zbj at hmw;rw[hw] at hmw;exact hmw.symm
  (refine vC ?_ ?_<;>intro h)
  ·exfalso;simp at h;omega
  clear h;refine vR ?_;refine Zby 3 38 3 1 (by decide) (by decide) rfl rfl ?_;simp only[go_sem];refine ZaQ (fun k:Nat=>⟨upd (upd (upd (upd (upd e0 2 (.c (.str []))) 3 (.gr 38)) 4 (.c (.bool false))) 5 (.c (ZaY (w::args)))) 6 (iv ((k:Int)+1)),upd o0 38 (.grow 3 1 (((args.take k).map ZgG).map fun n=>[CD.int .i64 n]))⟩) (fun k=>k≤args.length∧(args.take k).all Zbo=true) (fun k=>args.length -k) 0 ⟨Nat.zero_le _,rfl⟩ ?_ ?_
  ·refine Zai (by (try simp only[go_sem]);exact vEr) (by (try simp only[go_sem]);exact Zaa)
  rintro k ⟨hk,hr⟩;have w1:((k:Int)+1).toNat=k+1:=by omega
  (repeat (refine vV ?_;(try simp only[go_sem,hP,ZaY,List.length_map,List.length_cons,w1]);refine vQ ?_))
  (refine vC ?_ ?_<;>intro h)
  ·have hi:k<args.length:=by simp at h;omega
   clear h;have hg:(([CD.str w]::args.map fun x=>[CD.str x]).getD (k+1) [])=[CD.str (args.getD k [])]:=ZhD hi;have hal:(args.getD k []).length≤1000:=by
    have:args.getD k []∈ZeG s:=by rw[hc,List.getD_eq_getElem?_getD,List.getElem?_eq_getElem hi];exact List.mem_cons_of_mem _ (List.getElem_mem hi)
    have:=Zg8 this;omega
   have hnum:=ZnN hal;have htk:args.take (k+1)=args.take k++[args.getD k []]:=by rw[List.take_succ_eq_append_getElem hi,List.getD_eq_getElem?_getD,List.getElem?_eq_getElem hi];rfl
   have hin:args.getD k []∈args:=by rw[List.getD_eq_getElem?_getD,List.getElem?_eq_getElem hi];exact List.getElem_mem hi
   have hw1:=w64 (n:=(k:Int)+1+1) (by omega) (by omega);have htl:(args.take k).length=k:=by rw[List.length_take];omega
   generalize args.getD k []=x at hg hnum htk hin;(repeat (refine vV ?_;(try simp only[go_sem,hP,w1,hg,List.length_map,List.length_cons]);refine vQ ?_))
   (refine Zau (hnum) ?_;simp only[go_sem,hP];refine vQ ?_;refine vR ?_)
   cases hx:Zbo x with
   |true=>
    (refine vC ?_ ?_<;>intro h)
    ·cases h
    clear h;(repeat (refine vV ?_;(try simp only[go_sem,hP,hw1,List.length_map,htl]);refine vQ ?_))
    refine ⟨k+1,⟨by omega,?_⟩,by omega,?_⟩
    ·rw[htk,List.all_append,hr];simp[hx]
    ·rw[htk,List.map_append,List.map_append];refine Zai (by simp only[go_sem];exact Zam) (by simp only[go_sem,List.map_cons,List.map_nil];exact Zaa)
   |false=>
    have hno:Za4 s = none:=Zds hc (.inr (.inr (by
     cases ha:args.all Zbo with
     |false=>rfl
     |true=>have:=List.all_eq_true.1 ha x hin;rw[hx] at this;cases this)))
    unfold ZfW;rw[hno];(refine vC ?_ ?_<;>intro h)
    ·refine vR ?_;(refine vT ?_;try exact trivial)
    ·cases h
  ·have hkl:k=args.length:=by
    have:¬(k<args.length):=by simp at h;omega
    omega
   subst hkl;rw[List.take_length] at hr⊢;have hyes:Za4 s=some (w,args.map ZgG):=by
    unfold Za4;rw[hc];simp only[hw];rw[if_pos ⟨hem,hr⟩]
   unfold ZfW;rw[hyes];(repeat (refine vV ?_;(try simp only[go_sem,hP,h00,List.length_map,List.length_cons]);refine vQ ?_))
   (refine vT ?_;try exact trivial)
def Zz2:FC:=⟨2,10,[.t 4],(.seq (.ops [JS 2 (.box 3 (.t 0)),JSB 4 false]) (.seq (.ops [JSm 5 1,JSf 6 0 2,JSl 7 6,JSk 8 .sub 7 1,JSc 9 89 [.t 5,(.k (Jz 0)),.t 8],JSm 4 9]) .ret))⟩
def Zzy:FC:=⟨2,14,[.t 4],(.seq (.ops [JS 2 (.box 3 (.t 0)),JS 3 (.box 2 (.t 1)),JSB 4 false]) (.seq (.ops [JSL 5 3 2,JSf 6 0 3,JSl 7 6,JSc 8 88 [.t 5,.t 7],JSm 9 8,JTf 10 1 3 9,JTl 11 10 9,JTc 12 89 [.t 11,(.k (Jz 0)),(.k (Jz 20))] 9,JSp 13 9 12,JSm 4 13]) .ret))⟩
abbrev Zyv:List Ins:=[JSf 3 0 1,JSL 4 8 3,JSc 5 55 [.t 4],JSk 6 .neq 5 0,JSm 7 6,JNf 8 10 1 7,JNL 9 5 8 7,JNc 10 56 [.t 9] 7,JNk 11 .neq 10 0 7,JSo 12 7 11,JSm 13 12,JNf 14 0 1 13,JNf 15 0 14 13,JNL 16 3 15 13,JNf 17 8 1 13,JNL 18 2 17 13,JNc 19 41 [.t 16,.t 18] 13,JG 20 (.un .not (.t 19)) 13 false,JSo 21 13 20]
def Zzp:FC:=⟨1,22,[.t 2],(.seq (.ops [JS 1 (.box 15 (.t 0)),JSi 2 0]) (.seq (.seq (.ops Zyv) (.cond (.t 21) (.seq (.ops [JSi 2 120]) .ret) .skip)) (.seq (.ops [JSi 2 0]) .ret)))⟩
theorem c88:Zao Tryz.prog [] 88=some Zz2:=by kernel_rfl
theorem c41:Zao Tryz.prog [] 41=some Zzy:=by kernel_rfl
theorem c16:Zao Tryz.prog [] 16=some Zzp:=by kernel_rfl
theorem Zuw {b:Bx} (h:bxB b=true):Zdw b=true:=by
 simp only[bxB,Bool.and_eq_true,decide_eq_true_eq] at h;obtain ⟨⟨⟨⟨⟨⟨⟨h1,h2⟩,h3⟩,h4⟩,h5⟩,h6⟩,h7⟩,h8⟩:=h;have k4:=ZaX h4;have k5:=ZaX h5;have k6:=ZaX h6;have hmk:∀k,mkK b.fo b.ma k=true→∀i,i<k→b.ma.getD i 0≤b.fo.getD i 0:=by
  intro k;induction k with
  |zero=>intro _ i hi;omega
  |succ k ih=>
   intro h i hi;simp only[mkK,Bool.and_eq_true,decide_eq_true_eq] at h;rcases Nat.lt_or_ge i k with h9|h9
   ·exact ih h.1 i h9
   ·obtain rfl:i=k:=by omega
    exact h.2
 have hmar:∀k,k≤b.fo.length→Zkm b k=true:=by
  intro k;induction k with
  |zero=>intro _;rfl
  |succ k ih=>
   intro hk;have a1:=hmk _ h7 k (by omega);have a2:=ZaZ k5.2 (k:=k) (by omega);simp only[Zkm,ih (by omega),Bool.true_and,Zah,Bool.and_eq_true,decide_eq_true_eq];omega
 have hsum:∀k,k≤b.fo.length→sumK b.fo b.sl k=((ZbC b).take k).sum∧(b.fo.take k).sum≤sumK b.fo b.sl k∧(b.sl.take k).sum≤sumK b.fo b.sl k:=by
  intro k;induction k with
  |zero=>intro _;simp[sumK]
  |succ k ih=>
   intro hk;obtain ⟨i1,i2,i3⟩:=ih (by omega);have hp:k<(ZbC b).length:=by simp[ZbC,ZeD];omega
   have a1:=ZaZ k4.2 (k:=k) (by omega);have a2:=ZaZ k6.2 (k:=k) (by omega);rw[List.take_succ_eq_append_getElem hp,List.sum_append,List.take_succ_eq_append_getElem (l:=b.fo) (by omega),List.sum_append,List.take_succ_eq_append_getElem (l:=b.sl) (by omega),List.sum_append,sumK];simp only[ZbC,ZeD,List.getElem_zipWith,Zbi (l:=b.fo) (k:=k) (by omega),Zbi (l:=b.sl) (k:=k) (by omega)] at a1 a2 i1⊢;simp only[List.sum_cons,List.sum_nil];omega
 have hpl:(ZbC b).length=b.fo.length:=by simp[ZbC,ZeD];omega
 obtain ⟨hs1,hs2,hs3⟩:=hsum b.fo.length (Nat.le_refl _);rw[List.take_of_length_le (by omega)] at hs1 hs2 hs3;have hput:ZfO b.wh (ZbC b)=true:=by
  unfold ZfO;have e1:((ZbC b).length==b.wh.co.length)=true:=by rw[beq_iff_eq,hpl,k4.1]
  have e2:(ZbC b).any Zf1=false:=by
   rw[List.any_eq_false];intro n hn;have h0:∀m∈ZbC b,0≤m:=by
    intro m hm;obtain ⟨i,hi,rfl⟩:=List.mem_iff_getElem.1 hm;have a1:=ZaZ k4.2 (k:=i) (by omega);have a2:=ZaZ k6.2 (k:=i) (by omega);simp only[ZbC,ZeD,List.getElem_zipWith];rw[Zbi (by omega)] at a1 a2;omega
   have hle:n≤(ZbC b).sum:=by
    clear hs1 hpl e1;revert h0 hn;induction ZbC b with
    |nil=>intro hn;cases hn
    |cons a l ih=>
     intro hn h0;have hnn:∀l:List Int,(∀m∈l,0≤m)→0≤l.sum:=by
      intro l h;induction l with
      |nil=>simp
      |cons a l ih=>simp only[List.sum_cons];have:=h a (by simp);have:=ih fun m hm=>h m (by simp[hm]);omega
     simp only[List.sum_cons];rcases List.mem_cons.1 hn with rfl|hn
     ·have:=hnn l fun m hm=>h0 m (by simp[hm]);omega
     ·have:=ih hn (fun m hm=>h0 m (by simp[hm]));have:=h0 a (by simp);omega
   have:=h0 n hn;simp[Zf1,Zah];omega
  rw[e1,e2];rfl
 unfold Zdw Zf0;rw[h1,h4,h6,h2,h3,hmar _ (Nat.le_refl _),hput];rw[beq_iff_eq.2 (show b.ma.length=b.fo.length by rw[k5.1,k4.1]),decide_eq_true (show b.fo.sum≤12 by omega),decide_eq_true (show b.sl.sum≤12 by omega),decide_eq_true (show (ZbC b).sum≤12 by omega)];rfl
theorem ZuB (b:Bx):Zog b=if bxB b then 0 else 50:=by
 unfold Zog;have:Zdw b=bxB b:=by
  rw[Bool.eq_iff_iff];exact ⟨ZwH,Zuw⟩
 rw[this]
theorem ZmL {w:Wh} (hw:-9223372036854775807≤w.ro∧w.ro≤9223372036854775807) (n:Int):FSpec Tryz.prog 88 [w.av,iv n] (.c (.bool (Zah n 0 (w.ro -1)))):=by
 have w1:=w64 (n:=w.ro -1) (by omega) (by omega);refine Zac c88 (Nat.le_refl _) (by decide) fun C hP hN hC hL=> ?_;rw[Zad]
 simp only[Zz2,Wh.av,Wh.avs];refine vW w1 ?_;(refine Zau (ZcW n 0 (w.ro -1)) ?_;simp only[go_sem,hP,w1];refine vQ ?_;refine vW w1 ?_)
 (refine vT ?_;try exact trivial)
theorem Zia {w:Wh} (hw:-9223372036854775807≤w.ro∧w.ro≤9223372036854775807) (p c:Int):FSpec Tryz.prog 41 [w.av,.agg [iv p,iv c]] (.c (.bool (Zah p 0 (w.ro -1)&&Zah c 0 20))):=by
 have h1:=ZmL hw p;simp only[Wh.av,Wh.avs] at h1;refine Zac c41 (Nat.le_refl _) (by decide) fun C hP hN hC hL=> ?_;rw[Zad]
 simp only[Zzy,Wh.av,Wh.avs];refine vR ?_;(refine Zau (h1) ?_;simp only[go_sem,hP];refine vQ ?_;refine vR ?_)
 (refine Za9 (fun hG=>ZcW c 0 20) ?_;simp only[go_sem,hP];refine vQ ?_;refine vR ?_)
 (refine vT ?_;try exact trivial)
set_option maxRecDepth 100000 in
set_option maxHeartbeats 4000000 in
theorem rcheck6 (b:Bar):FSpec Tryz.prog 16 [b.av] (iv (ZeT b)):=by
 have h1:=check8 b.box;have h2:=rcheck41 b.tray;rw[ZuB] at h1;refine Zac c16 (Nat.le_refl _) (by decide) fun C hP hN hC hL=> ?_;rw[Zad]
 simp only[Zzp,Bar.av,Bar.avs];simp only[Bx.av,Bx.avs] at h1;simp only[Tray.av] at h2;refine vR ?_;cases hbx:bxB b.box with
 |false=>
  have e1:ZeT b=120:=by unfold ZeT Zcr;rw[hbx];rfl
  rw[hbx] at h1;rw[e1];(refine Zau (h1) ?_;simp only[go_sem,hP];refine vQ ?_;refine vR ?_)
  (refine ZaC ?_;simp only[go_sem,hP];refine vQ ?_;refine vR ?_)
  (refine ZaC ?_;simp only[go_sem,hP];refine vQ ?_;refine vR ?_)
  (refine vC ?_ ?_<;>intro h)
  ·refine vR ?_;(refine vT ?_;try exact trivial)
  ·cases h
 |true=>
  rw[hbx] at h1;(refine Zau (h1) ?_;simp only[go_sem,hP];refine vQ ?_;refine vR ?_)
  (refine Za9 (fun hG=>h2) ?_;simp only[go_sem,hP];refine vQ ?_;refine vR ?_)
  have hro:-9223372036854775807≤b.box.wh.ro∧b.box.wh.ro≤9223372036854775807:=by
   have:=(ZeF hbx).wh.ro;omega
  have h3:=Zia hro b.pl b.cr;simp only[Wh.av,Wh.avs] at h3;(refine Za9 (fun hG=>h3) ?_;simp only[go_sem,hP];refine vQ ?_;refine vR ?_)
  have hE:ZeT b=if (b.tray.ok&&(Zah b.pl 0 (b.box.wh.ro -1)&&Zah b.cr 0 20))=true then 0 else 120:=by
   have:Zcr b=(b.tray.ok&&(Zah b.pl 0 (b.box.wh.ro -1)&&Zah b.cr 0 20)):=by
    unfold Zcr;rw[hbx,Bool.true_and];congr 1
    rw[Bool.eq_iff_iff];simp only[Zah,Bool.and_eq_true,decide_eq_true_eq];omega
   unfold ZeT;rw[this]
  rw[hE];cases ht:b.tray.ok<;>cases hw:(Zah b.pl 0 (b.box.wh.ro -1)&&Zah b.cr 0 20)
  all_goals (refine vC ?_ ?_<;>intro h)
  all_goals (first|exact absurd h (by decide)|(refine vR ?_;(refine vT ?_;try exact trivial);done))
abbrev Zy2:OT:=(.cons (JFf 6 0 1) (.cons (JFl 7 6) (.cons (JFf 10 4 1) (.cons (JFl 11 10) (.br [(.cons (JF 5 (.bsl 166 2 [])) (.br [(.cons (JF 8 (.app 166 2 16 (.t 5) (.t 7))) (.cons (JF 9 (.bsl 122 2 [])) (.cons (JF 12 (.app 122 2 16 (.t 9) (.t 11))) (.cons (JFf 13 0 3) (.cons (JUs 1 13 8) (.cons (JSf 14 4 3) (.cons (JUs 1 14 12) .nil))))))),(.cons (JF 9 (.bsl 122 2 [])) (.cons (JF 8 (.app 166 2 16 (.t 5) (.t 7))) (.cons (JF 12 (.app 122 2 16 (.t 9) (.t 11))) (.cons (JFf 13 0 3) (.cons (JUs 1 13 8) (.cons (JSf 14 4 3) (.cons (JUs 1 14 12) .nil)))))))])),(.cons (JF 9 (.bsl 122 2 [])) (.cons (JF 5 (.bsl 166 2 [])) (.cons (JF 8 (.app 166 2 16 (.t 5) (.t 7))) (.cons (JF 12 (.app 122 2 16 (.t 9) (.t 11))) (.cons (JFf 13 0 3) (.cons (JUs 1 13 8) (.cons (JSf 14 4 3) (.cons (JUs 1 14 12) .nil))))))))])))))
def ZzZ:FC:=⟨1,16,[.cell 2 false 5],(.seq (.ops [JS 1 (.box 5 (.t 0)),JS 2 (.alloc [J0,Jz 0,Jz 0,Jz 0,J0])]) (.seq (.ops [JSL 4 5 1,JS 3 (.alloc [J0,Jz 0,Jz 0,Jz 0,J0]),JUs 5 3 4]) (.seq (.drw Zy2) (.seq (.ops [JSL 15 5 3,JUs 5 2 15]) .ret))))⟩
abbrev Zsb:List Ins:=[JS 1 (.box 15 (.t 0)),JS 2 (.alloc [Jz 0,J0,J0,J0,J0,J0,Jz 0,Jz 0,Jz 0,Jz 0,J0,Jz 0,Jz 0,Jz 0,J0])]
abbrev Zsc:List Ins:=[JFf 3 0 1,JFL 4 8 3,JFc 5 84 [.t 4],JFf 6 8 1,JFL 7 2 6,JFf 8 10 1,JFL 9 5 8,JFc 10 85 [.t 9],JS 11 (.bld [Jz 0,J0,J0,J0,J0,J0,Jz 0,Jz 0,Jz 0,Jz 0,J0,Jz 0,Jz 0,Jz 0,J0] [(0,8,(.t 5)),(8,2,(.t 7)),(10,5,(.t 10))]),JUs 15 2 11]
abbrev ZtN:VC:=(.seq (.dops Zsc) .ret)
def ir39:FC:=⟨1,12,[.cell 2 false 15],(.seq (.ops Zsb) ZtN)⟩
theorem c85:Zao Tryz.prog [] 85=some ZzZ:=by kernel_rfl
theorem c39:Zao Tryz.prog [] 39=some ir39:=by kernel_rfl
set_option maxRecDepth 20000 in
set_option maxHeartbeats 8000000 in
theorem copy29 (t:Tray) (hn:t.recs.length≤1000) (hp:t.pres.length≤1000):FSpec Tryz.prog 85 [t.av] t.av:=by
 have hmax:maxLen=9223372036854775807:=rfl;refine Zac c85 (Nat.le_refl _) (by decide) fun C hP hN hC hL=> ?_;rw[Zad]
 simp only[ZzZ,Tray.av];refine vR ?_;(refine Zbx ?_;simp only[go_sem,hP,ZaO,ZbR,Zkv,Zew,List.nil_append,List.length_nil,List.length_map];(repeat' (refine And.intro ?_ ?_)))
 all_goals try omega
 all_goals
  (repeat (refine vV ?_;(try simp only[go_sem,hP,ZaO,ZbR,Zkv,Zew,List.nil_append,List.length_nil,List.length_map]);refine vQ ?_))
  (refine vT ?_;try exact trivial)
theorem ZuG {b:Bar} (hb:BarLn b):FSpec Tryz.prog 39 [b.av] b.av:=by
 have h1:=copy10 hb.no hb.co hb.fo hb.ma hb.sl;have h2:=copy29 b.tray hb.rc hb.pr;simp only[Bx.av,Bx.avs] at h1;simp only[Tray.av] at h2;refine Zac c39 (Nat.le_refl _) (by decide) fun C hP hN hC hL=> ?_;rw[Zad]
 simp only[ir39,Bar.av,Bar.avs];refine vR ?_;(refine Za0 (h1) rfl rfl rfl rfl rfl ?_;simp only[go_sem,hP];refine vQ ?_;refine vR ?_)
 (refine Za0 (h2) rfl rfl rfl rfl rfl ?_;simp only[go_sem,hP];refine vQ ?_;refine vR ?_)
 (refine vT ?_;try exact trivial)
-- K99_1: changed and kept: [4,3]
-- K99_2: changed and kept: [5,3]
abbrev ZxL:VC:=(.seq (.seq (.ops [JSi 5 0]) (.block 2 (.loop (.seq (.seq (.ops [JSm 20 5,JSf 21 5 1,JSl 22 21,JSn 23 22,JSb 24 .lss 20 23]) (.cond (.t 24) .skip (.exit 2))) (.seq (.block 3 (.ops [JSm 27 3,JSf 28 5 1,JSl 29 28,JSm 30 5,JSa 31 1 29 30,JSl 32 31,JSb 33 .add 27 32,JSm 3 33])) (.ops [JSm 25 5,JSk 26 .add 25 1,JSm 5 26])))))) (.seq (.ops [JSm 34 3,JSm 2 34]) .ret))
def Zz6:FC:=⟨1,35,[.t 2],(.seq (.ops [JS 1 (.box 8 (.t 0)),JSi 2 0]) (.seq (.ops [JSi 3 0]) (.seq (.seq (.ops [JSi 4 0]) (.block 0 (.loop (.seq (.seq (.ops [JSm 6 4,JSf 7 3 1,JSl 8 7,JSn 9 8,JSb 10 .lss 6 9]) (.cond (.t 10) .skip (.exit 0))) (.seq (.block 1 (.ops [JSm 13 3,JSf 14 3 1,JSl 15 14,JSm 16 4,JSa 17 1 15 16,JSl 18 17,JSb 19 .add 13 18,JSm 3 19])) (.ops [JSm 11 4,JSk 12 .add 11 1,JSm 4 12])))))) ZxL)))⟩
abbrev ZyC:List Ins:=[JSm 12 5,JSm 13 12,JTm 14 3 13,JG 15 (.prim (.sbin .eql) [.t 14,(.k (.c (.str [108,97,116,101,115,116])))]) 13 true,JTm 16 15 13,JTm 17 4 16,JG 18 (.ia 1 (.t 17) (.k (Jz 1))) 16 true,JTl 19 18 16,JTk 20 .gtr 19 400 16,JTp 21 16 20 13,JTm 22 21 13,JTm 23 4 22,JG 24 (.ia 1 (.t 23) (.k (Jz 1))) 22 true,JTl 25 24 22,JTk 26 .leq 25 9999 22,JTp 27 22 26 13,JTm 28 27 13,JNm 29 3 28,JG 30 (.prim (.sbin .eql) [.t 29,(.k (.c (.str [115,111,111,110,101,115,116])))]) 28 false,JTo 31 28 30 13,JSp 32 13 31,JSm 2 32]
def ZzE:FC:=⟨1,33,[.t 2],(.seq (.ops [JSB 2 false]) (.seq (.ops [JSm 7 0,JSc 8 19 [.t 7],JSm 6 8,JSe 9 6 0,JSe 10 6 1,JSe 11 6 2,JSm 3 9,JSm 4 10,JSm 5 11]) (.seq (.ops ZyC) .ret)))⟩
theorem c99:Zao Tryz.prog [] 99=some Zz6:=by kernel_rfl
theorem c53:Zao Tryz.prog [] 53=some ZzE:=by kernel_rfl
theorem Zdi {l:List Int} (h:∀n∈l,0≤n∧n≤12):∀k,k≤l.length→0≤(l.take k).sum∧(l.take k).sum≤12*k
 |0,_=>by simp
 |k+1,hk=>by
  have ih:=Zdi h k (by omega);have hl:l[k]'(by omega)∈l:=List.getElem_mem _;have:=h _ hl;rw[List.take_succ_eq_append_getElem (by omega),List.sum_append,List.sum_cons,List.sum_nil];omega
theorem ZkB {l:List Int} {k:Nat} (h:k<l.length):(l.take (k+1)).sum=(l.take k).sum+l.getD k 0:=by
 rw[List.take_succ_eq_append_getElem h,List.sum_append,List.getD_eq_getElem?_getD,List.getElem?_eq_getElem h];simp
def Zlf (b:Bx):Int:=b.fo.sum+b.sl.sum
theorem ZvT {b:Bx} (hb:BxOk b):FSpec Tryz.prog 99 [b.av] (iv (Zlf b)):=by
 have hm:maxLen=9223372036854775807:=rfl;have hcl:=hb.wh.cl;have hfl:=hb.fl;have hsl:=hb.sl;refine Zac c99 (Nat.le_refl _) (by decide) fun C hP hN hC hL=> ?_;rw[Zad]
 simp only[Zz6,Bx.av,Bx.avs];refine vR ?_;refine ZaQ (fun k:Nat=>⟨upd (upd (upd (upd e0 1 (.bp 1 0)) 2 (iv 0)) 3 (iv (b.fo.take k).sum)) 4 (iv k),upd o0 1 (.box b.avs)⟩) (fun k=>k≤b.fo.length) (fun k=>b.fo.length -k) 0 (Nat.zero_le _) ?_ ?_
 ·refine Zai (by simp only[go_sem];exact vEr) (by unfold Bx.avs;simp only[go_sem];exact Zaa)
 intro k hk;unfold Bx.avs;have hbd:=Zdi hb.fo k hk;refine vR0 ?_;(refine vC ?_ ?_<;>intro h)
 ·have hi:k<b.fo.length:=by simpa using h
  have hg:=ZaD hi;have hw:=w64 (n:=(k:Int)+1) (by omega) (by omega);have hx:=ZaZ hb.fo hi;have hsn:=ZkB hi;have hw2:=w64 (n:=(b.fo.take k).sum+b.fo.getD k 0) (by omega) (by omega);(repeat (refine vV ?_;(try simp only[go_sem,hP,hg,List.length_map,Int.toNat_natCast,hw,hw2]);refine vQ ?_))
  refine ⟨k+1,by omega,by omega,?_⟩;rw[hsn];refine Zai (by simp only[go_sem,hw2];exact vEr) (by simp only[go_sem];exact Zaa)
 ·have hkl:k=b.fo.length:=by
   have:¬(k<b.fo.length):=by simpa using h
   omega
  subst hkl;rw[List.take_length] at hbd⊢;refine vR ?_;refine ZaQ (fun k:Nat=>⟨upd (upd (upd (upd e0 1 (.bp 1 0)) 2 (iv 0)) 3 (iv (b.fo.sum+(b.sl.take k).sum))) 5 (iv k),upd o0 1 (.box b.avs)⟩) (fun k=>k≤b.sl.length) (fun k=>b.sl.length -k) 0 (Nat.zero_le _) ?_ ?_
  ·refine Zai (by simp only[go_sem];simp only[List.take_zero,List.sum_nil,Int.add_zero];exact vEr) (by unfold Bx.avs Zaj;simp only[go_sem];exact Zaa)
  intro k hk;unfold Bx.avs;have hbs:=Zdi hb.sn k hk;refine vR0 ?_;(refine vC ?_ ?_<;>intro h)
  ·have hi:k<b.sl.length:=by simpa using h
   have hg:=ZaD hi;have hw:=w64 (n:=(k:Int)+1) (by omega) (by omega);have hx:=ZaZ hb.sn hi;have hsn:=ZkB hi;have hw2:=w64 (n:=b.fo.sum+(b.sl.take k).sum+b.sl.getD k 0) (by omega) (by omega);(repeat (refine vV ?_;(try simp only[go_sem,hP,hg,List.length_map,Int.toNat_natCast,hw,hw2]);refine vQ ?_))
   refine ⟨k+1,by omega,by omega,?_⟩;rw[hsn,←Int.add_assoc];refine Zai (by simp only[go_sem,hw2];exact vEr) (by simp only[go_sem];exact Zaa)
  ·have hkl:k=b.sl.length:=by
    have:¬(k<b.sl.length):=by simpa using h
    omega
   subst hkl;rw[List.take_length];refine vR ?_;(refine vT ?_;try exact trivial)
def Zb4:List UInt8:=[108,97,116,101,115,116]
def ZpS:List UInt8:=[115,111,111,110,101,115,116]
def Zt4 (s:List UInt8):Bool:=match Za4 s with
 |some (w,ns)=>(w==Zb4)&&decide (400<ns.getD 1 0)&&decide (ns.getD 1 0≤9999)
 |none=>false
def Zkd (s:List UInt8):Bool:=match Za4 s with
 |some (w,ns)=>(w==Zb4)&&decide (400<ns.getD 1 0)&&decide (ns.getD 1 0≤9999)||(w==ZpS)
 |none=>false
theorem Ziq {s w:List UInt8} {ns:List Int} (h:Za4 s=some (w,ns)):(ns.length:Int)=Zbj w:=by
 unfold Za4 at h;split at h
 ·cases h
 ·split at h
  ·cases h
  ·rename_i e he;split at h
   ·rename_i hc;cases h;unfold Zbj;rw[he,List.length_map];exact hc.1
   ·cases h
theorem gd0:(([]:List (List CD)).getD 1 []).getD 0 default=CD.sl 1 []:=rfl
theorem gd1 (a:List CD):([a].getD 1 []).getD 0 default=CD.sl 1 []:=rfl
theorem gd2 (a c:List CD) (l:List (List CD)):(a::c::l).getD 1 []=c:=rfl
theorem ZrI {s:List UInt8} (hs:s.length≤1000):FSpec Tryz.prog 53 [.c (.str s)] (.c (.bool (Zkd s))):=by
 have hm:maxLen=9223372036854775807:=rfl;have hp:=Zhy hs;unfold ZfW at hp;unfold Zkd;refine Zac c53 (Nat.le_refl _) (by decide) fun C hP hN hC hL=> ?_;rw[Zad]
 simp only[ZzE];refine vR ?_;cases h:Za4 s with
 |none=>
  rw[h] at hp;(refine Zau (hp) ?_;simp only[go_sem,hP];refine vQ ?_;refine vR ?_)
  (refine vT ?_;try exact trivial)
 |some wn=>
  obtain ⟨w,ns⟩:=wn;rw[h] at hp;have hl:=Ziq h;simp only at hp⊢;have h2:(w==Zb4)=true→1<ns.length:=fun h=>by
   rw[eq_of_beq h] at hl;have:Zbj Zb4=2:=rfl;omega
  cases hw:(w==Zb4) with
  |true=>
   have hl2:=h2 hw;have hg:=ZaD hl2;unfold Zb4 at hw;generalize ns.getD 1 0=x at hg;(refine Zau (hp) ?_;simp only[go_sem,hP,Zaj,List.length_map,hg,hw,Int.toNat_one];refine vQ ?_;(repeat (refine vV ?_;(try simp only[go_sem,hP,Zaj,List.length_map,hg,hw,Int.toNat_one]);refine vQ ?_)))
   (refine vT ?_;try exact trivial)
  |false=>
   unfold Zb4 at hw;rcases ns with _|⟨a,_|⟨c,r⟩⟩
   all_goals (
    (refine Zau (hp) ?_;simp only[go_sem,hP,Zaj,hw,List.map_cons,List.map_nil,Int.toNat_one,gd0,gd1,gd2];refine vQ ?_;(repeat (refine vV ?_;(try simp only[go_sem,hP,Zaj,hw,List.map_cons,List.map_nil,Int.toNat_one,gd0,gd1,gd2]);refine vQ ?_)))
    (refine vT ?_;try exact trivial))
abbrev Zwp:List Ins:=[JSm 31 9,JSm 32 31,JTm 33 7 32,JG 34 (.prim (.sbin .eql) [.t 33,(.k (.c (.str [99,111,105,110])))]) 32 true,JTm 35 34 32,JNm 36 7 35,JG 37 (.prim (.sbin .eql) [.t 36,(.k (.c (.str [109,97,114,107])))]) 35 false,JTo 38 35 37 32,JTm 39 38 32,JNm 40 7 39,JG 41 (.prim (.sbin .eql) [.t 40,(.k (.c (.str [115,108,117,103])))]) 39 false,JTo 42 39 41 32,JSp 43 32 42]
abbrev Zxn:VC:=(.seq (.seq (.ops [JSm 16 6,JSm 17 1,JSn 18 17,JSb 19 .lss 16 18]) (.cond (.t 19) .skip (.exit 0))) (.seq (.block 1 (.seq (.ops [JSm 23 1,JSm 24 6,JSa 25 1 23 24,JSl 26 25,JSc 27 19 [.t 26],JSm 22 27,JSe 28 22 0,JSe 29 22 1,JSe 30 22 2,JSm 7 28,JSm 8 29,JSm 9 30]) (.seq (.ops Zwp) (.cond (.t 43) (.ops [JSm 44 5,JSk 45 .add 44 1,JSm 5 45]) .skip)))) (.ops [JSm 20 6,JSk 21 .add 20 1,JSm 6 21])))
-- K54_1: changed and kept: [6,5]
abbrev Zxo:VC:=(.seq (.seq (.ops [JSL 10 15 2,JSc 11 16 [.t 10],JSk 12 .neq 11 0]) (.cond (.t 12) (.seq (.ops [JSB 4 false]) .ret) .skip)) (.seq (.ops [JSf 13 0 2,JSL 14 8 13,JSc 15 99 [.t 14],JSm 5 15]) (.seq (.seq (.ops [JSi 6 0]) (.block 0 (.loop Zxn))) (.seq (.ops [JSm 46 5,JSk 47 .gtr 46 4,JSm 48 47,JNf 49 0 2 48,JNf 50 3 49 48,JNl 51 50 48,JNn 52 51 48,JNk 53 .gtr 52 3 48,JSo 54 48 53,JSm 4 54]) .ret))))
def ZzF:FC:=⟨2,55,[.t 4],(.seq (.ops [JS 2 (.box 15 (.t 0)),JSB 4 false]) Zxo)⟩
theorem c54:Zao Tryz.prog [] 54=some ZzF:=by kernel_rfl
def ZvU:List UInt8:=[109,97,114,107]
def Zs1:List UInt8:=[115,108,117,103]
def ZpB (s:List UInt8):Bool:=match Za4 s with
 |some (w,_)=>(w==ZeV)||(w==ZvU)||(w==Zs1)
 |none=>false
def Zny (l:List (List UInt8)):Int:=(l.countP ZpB:Nat)
theorem Znz {l:List (List UInt8)} {k:Nat} (h:k<l.length):Zny (l.take (k+1))=Zny (l.take k)+if ZpB (l.getD k [])=true then 1 else 0:=by
 unfold Zny;rw[List.take_succ_eq_append_getElem h,List.countP_append,List.getD_eq_getElem?_getD,List.getElem?_eq_getElem h];simp only[List.countP_cons,List.countP_nil,Option.getD_some];split<;>omega
theorem ZsI (l:List (List UInt8)) (k:Nat):0≤Zny (l.take k)∧Zny (l.take k)≤l.length:=by
 unfold Zny;have:=List.countP_le_length (p:=ZpB) (l:=l.take k);rw[List.length_take] at this;omega
def ZpO (b:Bar) (l:List (List UInt8)):Bool:=Zcr b&&(decide (4<Zlf b.box+Zny l)||decide ((3:Int)<b.box.fo.length))
set_option maxHeartbeats 1000000 in
theorem rich20 (b:Bar) {l:List (List UInt8)} (hl:l.length≤60) (hs:∀s∈l,s.length≤1000):FSpec Tryz.prog 54 [b.av,.c (ZaY l)] (.c (.bool (ZpO b l))):=by
 have hm:maxLen=9223372036854775807:=rfl;have hck:=rcheck6 b;simp only[Bar.av,Bar.avs] at hck;refine Zac c54 (Nat.le_refl _) (by decide) fun C hP hN hC hL=> ?_;rw[Zad]
 simp only[ZzF,Bar.av,Bar.avs];refine vR ?_;(refine Zau (hck) ?_;simp only[go_sem,hP];refine vQ ?_;refine vR ?_)
 unfold ZpO ZeT;cases hB:Zcr b with
 |false=>
  (refine vC ?_ ?_<;>intro h)
  ·refine vR ?_;(refine vT ?_;try exact trivial)
  ·cases h
 |true=>
  have hbx:bxB b.box=true:=by unfold Zcr at hB;simp only[Bool.and_eq_true] at hB;exact hB.1
  have hok:=ZeF hbx;have hmb:=ZvT hok;have s1:=Zdi hok.fo b.box.fo.length (Nat.le_refl _);have s2:=Zdi hok.sn b.box.sl.length (Nat.le_refl _);rw[List.take_length] at s1 s2;have hcl:=hok.wh.cl;have hfl:=hok.fl;have hsl:=hok.sl;have hmn:0≤Zlf b.box∧Zlf b.box≤1000:=by unfold Zlf;omega
  simp only[Bx.av,Bx.avs] at hmb;(refine vC ?_ ?_<;>intro h)
  ·cases h
  clear h;refine vR ?_;(refine Zau (hmb) ?_;simp only[go_sem,hP];refine vQ ?_;refine vR ?_)
  generalize Zlf b.box=mb at hmn;refine ZaQ (fun k:Nat=>⟨upd (upd (upd (upd (upd e0 1 (.c (ZaY l))) 2 (.bp 2 0)) 4 (.c (.bool false))) 5 (iv (mb+Zny (l.take k)))) 6 (iv k),upd o0 2 (.box b.avs)⟩) (fun k=>k≤l.length) (fun k=>l.length -k) 0 (Nat.zero_le _) ?_ ?_
  ·refine Zai (by (try simp only[go_sem]);((repeat' (first|exact ZaW _ _|refine ZaJ ?_ ?_))<;>((try simp only[ZaT,ZbG,ZbH,Nat.reduceEqDiff,reduceIte]);first|exact AWk.refl _ _|exact AWk.int (by omega)|exact AWk.int (by rw[w64 (by omega) (by omega)];omega)|exact AWk.grow rfl|exact AWk.nil _|exact AWk.of (by unfold Zny;simp)))) (by unfold Bar.avs;(try simp only[go_sem]);exact Zaa)
  intro k hk;have hpn:=ZsI l k;unfold Bar.avs;refine vR4 ?_;(refine vC ?_ ?_<;>intro h)
  ·have hi:k<l.length:=by simpa using h
   clear h;have hg:=ZhC hi;have hsn:=Znz hi;have hw:=w64 (n:=(k:Int)+1) (by omega) (by omega);have hin:l.getD k []∈l:=by rw[List.getD_eq_getElem?_getD,List.getElem?_eq_getElem hi];exact List.getElem_mem hi
   generalize l.getD k []=s at hg hsn hin;have hp:=Zhy (hs s hin);have hw2:=w64 (n:=mb+Zny (l.take k)+1) (by omega) (by omega);unfold ZfW at hp;unfold ZpB at hsn;generalize Zny (l.take k)=pn at*;(repeat (refine vV ?_;(try simp only[go_sem,hP,hg,List.length_map,Int.toNat_natCast]);refine vQ ?_))
   cases hps:Za4 s with
   |none=>
    rw[hps] at hp hsn;(refine Zau (hp) ?_;simp only[go_sem,hP];refine vQ ?_;refine vR ?_)
    (refine vC ?_ ?_<;>intro h)
    ·cases h
    refine vW hw ?_;refine ⟨k+1,by omega,by omega,?_⟩;rw[hsn];refine Zai (by simp only[go_sem];exact Zam) (by simp only[go_sem];exact Zaa)
   |some wn=>
    obtain ⟨w,ns⟩:=wn;rw[hps] at hp hsn;simp only at hp hsn;unfold ZeV ZvU Zs1 at hsn;refine Zau hp ?_;cases h1:(w==[99,111,105,110])<;>cases h2:(w==[109,97,114,107])<;>cases h3:(w==[115,108,117,103])
    all_goals (
     simp only[h1,h2,h3,Bool.true_or,Bool.or_true,Bool.or_false,Bool.or_self,if_true,Bool.false_eq_true,if_false,Int.add_zero] at hsn;simp only[go_sem,hP];refine vQ ?_;refine vW (vA h1 (vA h2 h3)) ?_;refine Zav rfl (fun h=> ?_) (fun h=> ?_))
    all_goals (first|exact absurd h (by decide)|skip)
    all_goals (
     refine vW (vA hw hw2) ?_;refine ⟨k+1,by omega,by omega,?_⟩;first|rw[hsn,←Int.add_assoc]|rw[hsn]
     refine Zai (by simp only[go_sem];exact Zam) (by simp only[go_sem];exact Zaa))
  ·have hkl:k=l.length:=by
    have:¬(k<l.length):=by simpa using h
    omega
   subst hkl;rw[List.take_length] at hpn⊢;refine vR0 ?_;(refine vT ?_;try exact trivial)
end Go.Proofs.YtcggfogkfhlmlaaGreatDoor
