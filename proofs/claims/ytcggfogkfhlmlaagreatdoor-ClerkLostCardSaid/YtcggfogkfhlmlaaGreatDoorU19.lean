
import Derived.Test.YtcggfogkfhlmlaaGreatDoorU7
import Derived.Test.YtcggfogkfhlmlaaGreatDoorU6
import Derived.Test.YtcggfogkfhlmlaaGreatDoorV2
import Derived.Test.YtcggfogkfhlmlaaGreatDoorU9
set_option linter.unusedVariables false
set_option linter.defProp false
set_option linter.unusedSimpArgs false
set_option maxRecDepth 100000
set_option maxHeartbeats 8000000
namespace Go.Proofs.YtcggfogkfhlmlaaGreatDoor
open Go Go.V
attribute [local go_sem] Nat.reduceEqDiff Nat.reduceAdd Nat.reduceMul reduceIte Nat.reduceLeDiff Nat.reduceLT Nat.reduceBEq reduceCtorEq
def ZA5(b:Bx)(res:AV)(os:List Ob):Prop:=∃cap j,b.fo.length<=cap/\cap<=maxLen/\cap<=b.fo.length+j/\res= .agg [iv b.wh.ro,.c (Zai b.wh.no),.c (Zai b.wh.co),.vw 1 1000 0 b.fo.length cap,.c (Zai b.ma),.c (Zai b.sl),iv b.pl,iv b.sk]/\os=[.box (Zac zc b.fo j)]
def ZuQ{w:Wh}(h1:w.no.length<=1000)(h2:w.co.length<=1000):Fn 123 [w.av] (fun r os=>r= .agg [iv w.ro,.gr 1000,.gr 1001]/\os=[.grow 3 1 (w.no.map fun n=>[CD.int .i64 n]),.grow 3 1 (w.co.map fun n=>[CD.int .i64 n])]):=by
 have hmax:=vM;refine ZaL Zvj.h (Yi _) Kb fun C hP hN hC hL=>?_
 rw[Zbh];simp only[Zvj,Wh.av,Wh.avs];(repeat(refine vV ?_;(try simp only[go_sem,hP,Wh.avs,Zai,Yc]);refine vQ ?_));(refine ZaS ?_;simp only[go_sem,hP,Zai,Yc,ones];(repeat'(refine And.intro ?_ ?_)))
 all_goals first|omega|skip
 all_goals(
  (refine Zas ?_;simp only[Zaz,inQ,Zbk,ZaN,Zaq,ZbJ];simp only[go_sem,Zbu])
  exact⟨[8,12],.agg [iv w.ro,.gr 1000,.gr 1001],_,[.grow 3 1 (w.no.map fun n=>[CD.int .i64 n]),.grow 3 1 (w.co.map fun n=>[CD.int .i64 n])],Kb,Kb,rfl,AVle.refl _,rfl,rfl,rfl⟩)
def grI(l:List Int):Ob:=.grow 3 1 (l.map fun n=>[CD.int .i64 n])
def copyF84{b:Bx}(h1:b.wh.no.length<=1000)(h2:b.wh.co.length<=1000)(h3:b.fo.length<=1000)(h4:b.ma.length<=1000)(h5:b.sl.length<=1000)(h0:b.fo≠[]):Fn 84 [b.av] (ZA5 b):=by have hmax:=vM;have hcw:=ZuQ h1 h2;simp only[Wh.av,Wh.avs]at hcw;refine ZpR ZDm.h (Yi _) Kb fun C hP hN hC hX hL=>?_;rw[Zbh];simp only[ZDm,Bx.av,Bx.avs];(repeat(refine vV ?_;(try simp only[go_sem,hP,Bx.avs,Zai,Yc]);refine vQ ?_));simp only[Zai]at hcw;refine ZaK hcw rfl rfl rfl rfl ?_;rintro r os ⟨rfl,rfl⟩;refine⟨[30,31],_,_,Kd,rfl,rfl,rfl,rfl,?_⟩;refine vO ?_;refine vR0 ?_;refine ZcB (fun σ'=>Sub σ' ⟨upd (upd e0 2 (.bp 2 0)) 3 (.bp 3 0),upd (upd (upd (upd (upd (upd (upd o0 2 (.box [iv 0,.c (.raw (.slice none 0 0)),.c (.raw (.slice none 0 0)),.c (.raw (.slice none 0 0)),.c (.raw (.slice none 0 0)),.c (.raw (.slice none 0 0)),iv 0,iv 0])) 3 (.box [iv b.wh.ro,.gr 30,.gr 31,.gr 12,.gr 16,.gr 20,iv b.pl,iv b.sk])) 30 (grI b.wh.no)) 31 (grI b.wh.co)) 12 (grI b.fo)) 16 (grI b.ma)) 20 (grI b.sl)⟩) ?_ ?_;{refine ZaS ?_;simp only[go_sem,hP,Zai,Yc,ones];(repeat'(refine And.intro ?_ ?_));(all_goals first|omega|skip);all_goals(refine Zaf (by(try simp only[go_sem]);exact vEr) (by unfold grI;(try simp only[go_sem]);exact Zaa))};{intro σ' hsub;refine Zav hsub ?_;(have hfl:∀l:List Int,((l.map fun n=>[CD.int .i64 n]).all fun e=>e.all CD.flat)=true:=fun l=>by rw[Yn];intro e he;obtain⟨n,_,rfl⟩:=Ys.1 he;rfl);refine ZpY hX 12 (es:=b.fo.map fun n=>[CD.int .i64 n]) Kb rfl (hfl _) (by simpa using h0) fun cap j p1 p2 p3=>?_;rw[Yc]at p1 p3;(have hcell:∀(l:List Int)(j:Nat),(l.map fun n=>[CD.int .i64 n]).flatten.map AV.c++List.replicate j .non=Zac zc l j:=fun l j=>by unfold Zac Za4;congr 1);rw[hcell,Yc];unfold grI;simp only[go_sem,hfl];refine vR ?_;(refine Zas ?_;simp only[Zaz,inQ,Zbk,ZaN,Zaq,ZbJ];simp only[go_sem,Zbu]);refine⟨[12],_,_,[.box (Zac zc b.fo j)],Kb,Kb,rfl,AVle.refl _,?_,cap,j,p1,p2,Kc,rfl,rfl⟩;simp only[go_sem,Zar,Ob.lend,lend_cellsG]}
namespace WG
abbrev ZD9:=[KJ 3 0 1,Ky 4 8 3,KJ 6 8 1,Ky 7 2 6,KJ 8 10 1,Ky 9 5 8,JS 5 (.calln (.k (.fn 84 [])) [.t 4]),KW 10 85 [.t 9],JS 11 (.bld [Jz 0,J0,J0,J0,J0,J0,Jz 0,Jz 0,Jz 0,Jz 0,J0,Jz 0,Jz 0,Jz 0,J0] [(0,8,(.t 5)),(8,2,(.t 7)),(10,5,(.t 10))]),Kx 15 2 11]
def ir39:FC:=⟨1,12,[.cell 2 false 15],(Kf [JS 1 (.box 15 (.t 0)),JS 2 (.alloc [Jz 0,J0,J0,J0,J0,J0,Jz 0,Jz 0,Jz 0,Jz 0,J0,Jz 0,Jz 0,Jz 0,J0])] (Kg ZD9 .ret))⟩
def ir39.h:Ki [300005] 39 ir39:=Ke
end WG
def ZA4(b:Bar)(res:AV)(os:List Ob):Prop:=∃cap j,b.box.fo.length<=cap/\cap<=maxLen/\cap<=b.box.fo.length+j/\res= .agg [iv b.box.wh.ro,.c (Zai b.box.wh.no),.c (Zai b.box.wh.co),.vw 1 1000 0 b.box.fo.length cap,.c (Zai b.box.ma),.c (Zai b.box.sl),iv b.box.pl,iv b.box.sk,iv b.pl,iv b.cr,.c (ZaT b.tray.recs),iv b.tray.at_,iv b.tray.way,iv b.tray.step,.c (Zbb b.tray.pres)]/\os=[.box (Zac zc b.box.fo j)]
def copyF39{b:Bar}(hb:BarLn b)(h0:b.box.fo≠[]):Fn 39 [b.av] (ZA4 b):=by have h1:=copyF84 hb.no hb.co hb.fo hb.ma hb.sl h0;have h2:=copy29 b.tray hb.rc hb.pr;simp only[Bx.av,Bx.avs]at h1;simp only[Tray.av]at h2;refine ZaL WG.ir39.h (Yi _) Kb fun C hP hN hC hL=>?_;rw[Zbh];simp only[WG.ir39,Bar.av,Bar.avs];refine vR ?_;refine ZwR h1 Kb rfl rfl rfl rfl rfl ?_;rintro r os ⟨cap,j,p1,p2,p3,rfl,rfl⟩;refine⟨_,_,.box (Zac zc b.box.fo j),rfl,rfl,by simp only[Ob.back,back_cellsG];rfl,?_⟩;refine vN ?_;(refine ZaM (h2) rfl rfl rfl rfl rfl ?_;refine vS ?_);(refine Zas ?_;simp only[Zaz,inQ,Zbk,ZaN,Zaq,ZbJ];simp only[go_sem,Zbu]);refine⟨[5],_,_,[.box (Zac zc b.box.fo j)],Kb,Kb,rfl,AVle.refl _,?_,cap,j,p1,p2,p3,rfl,rfl⟩;simp only[go_sem,Zar,Ob.lend,lend_cellsG]
end Go.Proofs.YtcggfogkfhlmlaaGreatDoor
