
import Derived.Test.YtcggfogkfhlmlaaGreatDoorV3
import Derived.Test.YtcggfogkfhlmlaaGreatDoorU7
import Derived.Test.YtcggfogkfhlmlaaGreatDoorU5
import Derived.Test.YtcggfogkfhlmlaaGreatDoorU6
set_option linter.unusedVariables false
set_option linter.defProp false
set_option linter.unusedSimpArgs false
set_option maxRecDepth 100000
set_option maxHeartbeats 8000000
namespace Go.Proofs.YtcggfogkfhlmlaaGreatDoor
open Go Go.V
def Zvp:Cz [100021] 178:=ec [(1,458752,[.b [4,5,6,7,8,9,10,11,12,13,14,15] [.b [0] [.b [1] [.b [2] [.l [3,16,17,18],.l [16,3,17,18]],.l [16,2,3,17,18]],.l [16,1,2,3,17,18]],.b [1] [.b [0] [.b [2] [.l [3,16,17,18],.l [16,3,17,18]],.l [16,2,3,17,18]],.b [2] [.b [0] [.l [3,16,17,18],.l [16,3,17,18]],.b [3] [.l [0,16,17,18],.l [16,0,17,18]],.l [16,0,3,17,18]],.l [16,0,2,3,17,18]],.l [16,0,1,2,3,17,18]]])]
def Zvq:Cz [100015] 179:=ec [(1,7168,[.b [4,5,6,7,8,9] [.b [0] [.b [1] [.b [2] [.l [3,10,11,12],.l [10,3,11,12]],.l [10,2,3,11,12]],.l [10,1,2,3,11,12]],.b [1] [.b [0] [.b [2] [.l [3,10,11,12],.l [10,3,11,12]],.l [10,2,3,11,12]],.b [2] [.b [0] [.l [3,10,11,12],.l [10,3,11,12]],.b [3] [.l [0,10,11,12],.l [10,0,11,12]],.l [10,0,3,11,12]],.l [10,0,2,3,11,12]],.l [10,0,1,2,3,11,12]]])]
attribute [local go_sem] Nat.reduceEqDiff Nat.reduceAdd Nat.reduceMul reduceIte Nat.reduceLeDiff Nat.reduceLT Nat.reduceBEq reduceCtorEq
def ZDT:Zgp 0=1:=rfl
def ZDU:Zgp 1=2:=rfl
def ZDV:Zgp 2=1:=rfl
def ZDH{b:Bar}(hB:Za5 b=true)(kind:Int):Zz0 176 [kind] b (ZeR 0 b kind):=by
 intro g1 g2 g3 q1 q2 q3;have hput:=Zts hB kind q1 q2 q3 (t:=0) Kc;rw[ZDT]at hput;unfold wsV at hput;simp only[Bar.obsV,YH,YM]at hput;unfold Bar.obsV;refine vF Zvo.h fun C hP hN hC hL=>?_;simp only[Zvo,Zbj,ZaB,Yg,Ye,Nat.reduceAdd,]
 simp only[Bar.avsV];refine vR ?_;first|refine ZaS ?_|refine Zat (Zcz ?_)
 simp only[go_sem,hP];(repeat'(refine And.intro ?_ ?_));all_goals(first|exact Yar 0|rfl|exact YcI|exact Nat.one_pos|skip)
 all_goals(
  refine Zah [1000,1001,1002,1003,15] hput rfl rfl rfl Kb rfl (by simp only[go_sem,Zar,Ob.lend,AV.lend,AV.lendL,lend_cellsG,Bar.avsV];first|done|rfl) ?_;intro r l' hp;unfold ZhB at hp;cases hc:ZeR 0 b kind with
  |none=>
   rw[hc]at hp;obtain⟨rfl,rfl⟩:=hp;refine⟨_,_,rfl,(by unfold Bar.obsV Bar.avsV wsV;simp only[YH,YM,Zap,Ob.back,AV.back,AV.backL,back_cellsG];rfl),?_⟩;simp only[go_sem,hP,Zae];refine vR ?_;(refine vL ?_;refine⟨_,b.obsV b g1 g2 g3,rfl,Zab rfl rfl ?_ ?_ rfl,?_⟩)
   ·unfold Bar.obsV Bar.avsV;simp only[go_sem,Zag,Ob.keepP,AV.keepP,AV.keepPL,Zai,keep_cellsG]
   ·trivial
   ·exact⟨rfl,rfl⟩
  |some b'=>
   rw[hc]at hp;obtain⟨rfl,rfl⟩:=hp;refine⟨_,_,rfl,(by unfold Bar.obsV Bar.avsV wsV;simp only[YH,YM,Zap,Ob.back,AV.back,AV.backL,back_cellsG];rfl),?_⟩;simp only[go_sem,hP,Zae];refine vR ?_;(refine vL ?_;refine⟨_,b'.obsV b g1 g2 g3,rfl,Zab rfl rfl ?_ ?_ rfl,?_⟩)
   ·unfold Bar.obsV Bar.avsV;simp only[go_sem,Zag,Ob.keepP,AV.keepP,AV.keepPL,Zai,keep_cellsG]
   ·trivial
   ·exact⟨rfl,rfl⟩)
def ZDZ{b:Bar}(hB:Za5 b=true)(kind:Int):Zz0 178 [kind] b (ZeR 1 b kind):=by
 intro g1 g2 g3 q1 q2 q3;have hput:=Zts hB kind q1 q2 q3 (t:=1) Kc;rw[ZDU]at hput;unfold wsV at hput;simp only[Bar.obsV,YH,YM]at hput;unfold Bar.obsV;refine vF Zvp.h fun C hP hN hC hL=>?_;simp only[Zvp,Zbj,ZaB,Yg,Ye,Nat.reduceAdd,]
 simp only[Bar.avsV];refine vR ?_;first|refine ZaS ?_|refine Zat (Zcz ?_)
 simp only[go_sem,hP];(repeat'(refine And.intro ?_ ?_));all_goals(first|exact Yar 0|rfl|exact YcI|exact Nat.one_pos|skip)
 all_goals(
  refine Zah [1000,1001,1002,1003,21] hput rfl rfl rfl Kb rfl (by simp only[go_sem,Zar,Ob.lend,AV.lend,AV.lendL,lend_cellsG,Bar.avsV];first|done|rfl) ?_;intro r l' hp;unfold ZhB at hp;cases hc:ZeR 1 b kind with
  |none=>
   rw[hc]at hp;obtain⟨rfl,rfl⟩:=hp;refine⟨_,_,rfl,(by unfold Bar.obsV Bar.avsV wsV;simp only[YH,YM,Zap,Ob.back,AV.back,AV.backL,back_cellsG];rfl),?_⟩;simp only[go_sem,hP,Zae];refine vR ?_;(refine vL ?_;refine⟨_,b.obsV b g1 g2 g3,rfl,Zab rfl rfl ?_ ?_ rfl,?_⟩)
   ·unfold Bar.obsV Bar.avsV;simp only[go_sem,Zag,Ob.keepP,AV.keepP,AV.keepPL,Zai,keep_cellsG]
   ·trivial
   ·exact⟨rfl,rfl⟩
  |some b'=>
   rw[hc]at hp;obtain⟨rfl,rfl⟩:=hp;refine⟨_,_,rfl,(by unfold Bar.obsV Bar.avsV wsV;simp only[YH,YM,Zap,Ob.back,AV.back,AV.backL,back_cellsG];rfl),?_⟩;simp only[go_sem,hP,Zae];refine vR ?_;(refine vL ?_;refine⟨_,b'.obsV b g1 g2 g3,rfl,Zab rfl rfl ?_ ?_ rfl,?_⟩)
   ·unfold Bar.obsV Bar.avsV;simp only[go_sem,Zag,Ob.keepP,AV.keepP,AV.keepPL,Zai,keep_cellsG]
   ·trivial
   ·exact⟨rfl,rfl⟩)
def ZEz{b:Bar}(hB:Za5 b=true)(kind:Int):Zz0 179 [kind] b (ZeR 2 b kind):=by
 intro g1 g2 g3 q1 q2 q3;have hput:=Zts hB kind q1 q2 q3 (t:=2) Kc;rw[ZDV]at hput;unfold wsV at hput;simp only[Bar.obsV,YH,YM]at hput;unfold Bar.obsV;refine vF Zvq.h fun C hP hN hC hL=>?_;simp only[Zvq,Zbj,ZaB,Yg,Ye,Nat.reduceAdd,]
 simp only[Bar.avsV];refine vR ?_;first|refine ZaS ?_|refine Zat (Zcz ?_)
 simp only[go_sem,hP];(repeat'(refine And.intro ?_ ?_));all_goals(first|exact Yar 0|rfl|exact YcI|exact Nat.one_pos|skip)
 all_goals(
  refine Zah [1000,1001,1002,1003,15] hput rfl rfl rfl Kb rfl (by simp only[go_sem,Zar,Ob.lend,AV.lend,AV.lendL,lend_cellsG,Bar.avsV];first|done|rfl) ?_;intro r l' hp;unfold ZhB at hp;cases hc:ZeR 2 b kind with
  |none=>
   rw[hc]at hp;obtain⟨rfl,rfl⟩:=hp;refine⟨_,_,rfl,(by unfold Bar.obsV Bar.avsV wsV;simp only[YH,YM,Zap,Ob.back,AV.back,AV.backL,back_cellsG];rfl),?_⟩;simp only[go_sem,hP,Zae];refine vR ?_;(refine vL ?_;refine⟨_,b.obsV b g1 g2 g3,rfl,Zab rfl rfl ?_ ?_ rfl,?_⟩)
   ·unfold Bar.obsV Bar.avsV;simp only[go_sem,Zag,Ob.keepP,AV.keepP,AV.keepPL,Zai,keep_cellsG]
   ·trivial
   ·exact⟨rfl,rfl⟩
  |some b'=>
   rw[hc]at hp;obtain⟨rfl,rfl⟩:=hp;refine⟨_,_,rfl,(by unfold Bar.obsV Bar.avsV wsV;simp only[YH,YM,Zap,Ob.back,AV.back,AV.backL,back_cellsG];rfl),?_⟩;simp only[go_sem,hP,Zae];refine vR ?_;(refine vL ?_;refine⟨_,b'.obsV b g1 g2 g3,rfl,Zab rfl rfl ?_ ?_ rfl,?_⟩)
   ·unfold Bar.obsV Bar.avsV;simp only[go_sem,Zag,Ob.keepP,AV.keepP,AV.keepPL,Zai,keep_cellsG]
   ·trivial
   ·exact⟨rfl,rfl⟩)
def Zvr:Cz [] 181:=ec [(1,98335,[]),(3,15872,[])]
def ZBY:Cz [] 182:=ec
def ZE1{l:List Int}{k:Nat}(hk:k<l.length)(hx:∀n∈l,0<=n/\n<=12)(j:Nat):∃n:Int,(0<=n/\n<=12)/\(Zac zc l j).getD k .non= .c (.int .i64 n)/\(Zac zc l j).set k (.c (.int .i64 (n-1)))=Zac zc (l.set k (l.getD k 0-1)) j/\(Zac zc l j).length=l.length+j/\IntKind.i64.wrap (n-1)=n-1:=by have zl:∀n:Int,(zc n).length=1:=fun _=>rfl;have hm:=hx _ (Yv hk);have hget:=ZbY zl (l:=l) hk j 0 (d:=.int .i64 l[k]) rfl .non;have hset:=Za8 zl (l:=l) hk j 0 Kb (.int .i64 (l[k]-1)) (l[k]-1) rfl;(have hgd:l.getD k 0=l[k]:=by rw[Yb,Yd hk];rfl);have hcl:=ZaF zl l j;simp only[Yab,Yad]at hget hset hcl;rw[hgd];exact⟨l[k],hm,hget,hset,hcl,w64 Kc Kc⟩
def Zer(b:Bar)(n:Int):Option Bar:=if 0<=n/\n<(b.box.fo.length:Int)then some {b with box:={b.box with fo:=b.box.fo.set n.toNat (b.box.fo.getD n.toNat 0-1)}}else none
def ZDX{b:Bar}(hB:Za5 b=true)(n:Int):Zz0 181 [n] b (Zer b n):=by intro g1 g2 g3 q1 q2 q3;obtain⟨⟨l1,l2,l3⟩,x1,x2,x3⟩:=ZkH hB;have hmx:=vM;unfold Zed at q1 q2 q3;have gd0:([[CD.int .i64 n]].getD (Int.toNat 0) [])=[CD.int .i64 n]:=rfl;have gd1:([CD.int .i64 n].getD 0 default)=CD.int .i64 n:=rfl;unfold Bar.obsV;refine vF Zvr.h fun C hP hN hC hL=>?_;simp only[Zvr,Zbj,ZaB,Yg,Ye,Nat.reduceAdd,];simp only[Bar.avsV];(repeat(refine vV ?_;(try simp only[go_sem,hP,Zai,Ye,Yg,gd0,gd1]);refine vQ ?_));by_cases hn:0<=n/\n<(b.box.fo.length:Int);{(have hy:Zer b n=some {b with box:={b.box with fo:=b.box.fo.set n.toNat (b.box.fo.getD n.toNat 0-1)}}:=by unfold Zer;rw[Yt hn]);rw[hy];obtain⟨m,hm,hg,hs,hc,w⟩:=ZE1 (k:=n.toNat) Kc x1 g1.2;(have hki:((n.toNat:Nat):Int)=n:=by omega);refine vC ?_ ?_<;>intro h;{exfalso;simp at h;omega};{(repeat(refine vV ?_;(try simp only[go_sem,hP,Zai,Ye,Yg,gd0,gd1,hg,hs,hc,w]);refine vQ ?_));(refine vL ?_;refine⟨_,Bar.obsV {b with box:={b.box with fo:=b.box.fo.set n.toNat (b.box.fo.getD n.toNat 0-1)}} b g1 g2 g3,rfl,Zab rfl rfl ?_ ?_ rfl,?_⟩);{unfold Bar.obsV Bar.avsV;simp only[go_sem,Zag,Ob.keepP,AV.keepP,AV.keepPL,Zai,keep_cellsG]};{trivial};{exact⟨rfl,rfl⟩}}};{(have hy:Zer b n=none:=by unfold Zer;rw[Yx hn]);rw[hy];refine vC ?_ ?_<;>intro h;{refine vR ?_;(refine vL ?_;refine⟨_,b.obsV b g1 g2 g3,rfl,Zab rfl rfl ?_ ?_ rfl,?_⟩);{unfold Bar.obsV Bar.avsV;simp only[go_sem,Zag,Ob.keepP,AV.keepP,AV.keepPL,Zai,keep_cellsG]};{trivial};{exact⟨rfl,rfl⟩}};{exfalso;simp at h;omega}}
def Zkk(b:Bar)(n:Int):Bar:={b with box:={b.box with sk:=n}}
def Zvs:Cz [] 183:=ec [(3,262144,[.b [0,1,2,3,4,5,6,7,8,9,10,11,12,13,14,15,16,17] [.l [18,19],.l [19,18]]])]
def Zfu(l:List Int)(j:Nat):splice (Zac zc l j) 0 (List.replicate l.length (.c (.int .i64 0)))=Zac zc (List.replicate l.length 0) j:=by have h1:(Za4 zc l).length=l.length:=Zxy l;(have h2:(Za4 zc (List.replicate l.length 0))=List.replicate l.length (CD.int .i64 0):=by(induction l.length with|zero=>rfl|succ n ih=>rw[YP,YP,ZcN,ih];rfl));unfold splice Zac;rw[h2];simp[h1]
def Zb2(b:Bar):Option Bar:=if b.pl=0/\b.cr=0 then some {b with box:={b.box with fo:=List.replicate b.box.fo.length 0,ma:=List.replicate b.box.ma.length 0,sl:=List.replicate b.box.sl.length 0,pl:=0}}else none
def zL(m k:Nat)(l:List Int):List Int:=if m<k then List.replicate l.length 0 else l
def Zyb{b:Bar}(n1:b.box.fo≠[])(n2:b.box.ma≠[])(n3:b.box.sl≠[]):Zz0 183 [] b (Zb2 b):=by
 intro g1 g2 g3 q1 q2 q3;have hmx:=vM;unfold Zed at q1 q2 q3;have z1:b.box.fo.length≠0:=fun h=>n1 (YE h)
 have z2:b.box.ma.length≠0:=fun h=>n2 (YE h)
 have z3:b.box.sl.length≠0:=fun h=>n3 (YE h)
 have zl:∀n:Int,(zc n).length=1:=fun _=>rfl
 have c1:=ZaF zl b.box.fo g1.2;have c2:=ZaF zl b.box.ma g2.2;have c3:=ZaF zl b.box.sl g3.2;unfold Bar.obsV;refine vF Zvs.h fun C hP hN hC hL=>?_;simp only[Zvs,Zbj,ZaB,Yg,Ye,Nat.reduceAdd,]
 simp only[Bar.avsV];refine vR ?_;by_cases hz:b.pl=0/\b.cr=0
 ·have hy:Zb2 b=some {b with box:={b.box with fo:=List.replicate b.box.fo.length 0,ma:=List.replicate b.box.ma.length 0,sl:=List.replicate b.box.sl.length 0,pl:=0}}:=by unfold Zb2;rw[Yt hz]
  rw[hy];refine vC ?_ ?_<;>intro h
  ·exfalso;simp[hz.1,hz.2]at h
  ·refine vR ?_;refine ZcB (fun σ'=>Sub σ' ⟨upd (upd (upd (upd e0 0 (.bp 1000 0)) 4 (.c (.bool false))) 32 (.agg [.vw 1 1001 0 b.box.fo.length g1.1,.vw 1 1002 0 b.box.ma.length g2.1,.vw 1 1003 0 b.box.sl.length g3.1])) 33 (iv 0),upd (upd (upd (upd o0 1000 (.box (b.avsV (.vw 1 1001 0 b.box.fo.length g1.1) (.vw 1 1002 0 b.box.ma.length g2.1) (.vw 1 1003 0 b.box.sl.length g3.1)))) 1001 (.box (Zac zc b.box.fo g1.2))) 1002 (.box (Zac zc b.box.ma g2.2))) 1003 (.box (Zac zc b.box.sl g3.2))⟩) ?_ ?_
   ·refine ZaS ?_;simp only[go_sem,hP];(repeat'(refine And.intro ?_ ?_));all_goals(
     refine Zf6 (e:=22) (n:=3) (sz:=1) (z:=List.replicate 3 (.c (.raw (.slice none 0 0)))) (ps:=[(0,1,.t 19),(1,1,.t 25),(2,1,.t 31)]) (r:=[.vw 1 1001 0 b.box.fo.length g1.1,.vw 1 1002 0 b.box.ma.length g2.1,.vw 1 1003 0 b.box.sl.length g3.1]) Ka Ka Ka rfl ?_ rfl ?_ ?_
     ·intro i q hq;have:i=0\/i=1\/i=2\/3<=i:=by omega
      rcases this with rfl|rfl|rfl|h
      case inr.inr.inr=>rw[YW (by exact h)]at hq;cases hq
      all_goals(cases hq;exact⟨_,rfl,rfl⟩)
     ·simp only[go_sem]
     simp only[go_sem,hP];refine Zaf (by simp only[go_sem];exact Zaj) (by unfold Bar.avsV;simp only[go_sem];exact Zaa))
   ·intro σ' hs;refine Zav hs ?_;refine vR ?_;refine ZaE (fun k:Nat=>⟨upd (upd (upd (upd e0 0 (.bp 1000 0)) 4 (.c (.bool false))) 32 (.agg [.vw 1 1001 0 b.box.fo.length g1.1,.vw 1 1002 0 b.box.ma.length g2.1,.vw 1 1003 0 b.box.sl.length g3.1])) 33 (iv k),upd (upd (upd (upd o0 1000 (.box (b.avsV (.vw 1 1001 0 b.box.fo.length g1.1) (.vw 1 1002 0 b.box.ma.length g2.1) (.vw 1 1003 0 b.box.sl.length g3.1)))) 1001 (.box (Zac zc (zL 0 k b.box.fo) g1.2))) 1002 (.box (Zac zc (zL 1 k b.box.ma) g2.2))) 1003 (.box (Zac zc (zL 2 k b.box.sl) g3.2))⟩) (fun k=>k<=3) (fun k=>3-k) 0 (YC _) ?_ ?_
    ·refine Zaf (by simp only[go_sem];exact Zaj) (by unfold Bar.avsV zL;simp only[go_sem];exact Zaa)
    intro k hk;refine vR ?_;refine vC ?_ ?_<;>intro h
    ·have hi:k<3:=by simp at h;omega
     (refine Zbq ?_;simp only[go_sem])
     refine Zat (Zbe (Zat ?_));have w1:=vw (n:=(k:Int)+1);have:k=0\/k=1\/k=2:=by omega
     rcases this with rfl|rfl|rfl
     ·unfold Bar.avsV zL;simp only[go_sem];(refine ZcF ?_;refine vN ?_);refine ZbS (e:=22) (n:=3) (x':=.t 32) (i':=.t 33) (k:=.i64) (j:=_) Ka Ka Ka rfl rfl rfl rfl rfl rfl Kc rfl ?_;simp only[go_sem,hP];refine vR ?_;refine Zi1 (e:=3) (x':=.t 36) Ka Ka rfl rfl rfl z1 rfl Kc ?_;rw[Zfu];simp only[go_sem,hP];refine vW w1 ?_;refine⟨1,Kc,Kd,Zaf (by simp only[go_sem];exact Zaj) (by simp only[go_sem];exact Zaa)⟩
     ·unfold Bar.avsV zL;simp only[go_sem];(refine ZcF ?_;refine vN ?_);refine ZbS (e:=22) (n:=3) (x':=.t 32) (i':=.t 33) (k:=.i64) (j:=_) Ka Ka Ka rfl rfl rfl rfl rfl rfl Kc rfl ?_;simp only[go_sem,hP];refine vR ?_;refine Zi1 (e:=3) (x':=.t 36) Ka Ka rfl rfl rfl z2 rfl Kc ?_;rw[Zfu];simp only[go_sem,hP];refine vW w1 ?_;refine⟨2,Kc,Kd,Zaf (by simp only[go_sem];exact Zaj) (by simp only[go_sem];exact Zaa)⟩
     ·unfold Bar.avsV zL;simp only[go_sem];(refine ZcF ?_;refine vN ?_);refine ZbS (e:=22) (n:=3) (x':=.t 32) (i':=.t 33) (k:=.i64) (j:=_) Ka Ka Ka rfl rfl rfl rfl rfl rfl Kc rfl ?_;simp only[go_sem,hP];refine vR ?_;refine Zi1 (e:=3) (x':=.t 36) Ka Ka rfl rfl rfl z3 rfl Kc ?_;rw[Zfu];simp only[go_sem,hP];refine vW w1 ?_;refine⟨3,Kc,Kd,Zaf (by simp only[go_sem];exact Zaj) (by simp only[go_sem];exact Zaa)⟩
    ·have hk3:k=3:=by simp at h;omega
     subst hk3;unfold Bar.avsV zL;simp only[go_sem];refine vR ?_;(refine vL ?_;refine⟨_,Bar.obsV {b with box:={b.box with fo:=List.replicate b.box.fo.length 0,ma:=List.replicate b.box.ma.length 0,sl:=List.replicate b.box.sl.length 0,pl:=0}} b g1 g2 g3,rfl,Zab rfl rfl ?_ ?_ rfl,?_⟩)
     ·unfold Bar.obsV Bar.avsV;simp only[go_sem,Zag,Ob.keepP,AV.keepP,AV.keepPL,Zai,keep_cellsG]
     ·trivial
     ·exact⟨rfl,rfl⟩
 ·have hy:Zb2 b=none:=by unfold Zb2;rw[Yx hz]
  rw[hy];refine vC ?_ ?_<;>intro h
  ·refine vR ?_;(refine vL ?_;refine⟨_,b.obsV b g1 g2 g3,rfl,Zab rfl rfl ?_ ?_ rfl,?_⟩)
   ·unfold Bar.obsV Bar.avsV;simp only[go_sem,Zag,Ob.keepP,AV.keepP,AV.keepPL,Zai,keep_cellsG]
   ·trivial
   ·exact⟨rfl,rfl⟩
  ·exfalso;simp at h;exact hz h
variable{tb:Obj}
def Zoj(f:Nat)(ns:List Int)(b:Bar)(o:Option Bar):Prop:=Fl f [.bp 1000 0,.c (Zai ns)] [.box (b.avsP (.gr 1001)),.grow 122 2 (b.tray.pres.map Pr.cds)] [] (Znu b o)
def ZcH{b:Bar}(hb:BarLn b){s w:List UInt8}{ns:List Int}(hs:s.length<=1000)(hp:ZaA s=some (w,ns)){m:Int}{f:Nat}(hw:Za9 w=some ⟨m,206,f,none⟩)(o:Option Bar)(hps:Zoj f ns b o):ZeW tb b s (Zg9 b o):=by unfold Zoj at hps;have hcp:=Zhl hb;simp only[Bar.av,Bar.avs,Bar.avsP]at hcp;unfold ZeW;refine vF Zuj.h fun C hP hN hC hL=>?_;simp only[Zuj,Zbj,ZaB,Yg,Ye,Nat.reduceAdd,];simp only[Bar.avs];refine vR ?_;refine ZaK (parse53 hs) rfl rfl rfl rfl ?_;intro r os h;unfold Zb6 at h;rw[hp]at h;obtain⟨q,e,he,rfl,rfl⟩:=h;rw[hw]at he;cases he;refine⟨[101,102,103,104,105,106,107,108],_,_,Kd,rfl,rfl,rfl,rfl,?_⟩;refine vO ?_;refine vR ?_;refine vC ?_ ?_<;>intro h;{cases h};{clear h;refine vR ?_;refine ZaK hcp rfl rfl rfl rfl ?_;rintro r os ⟨rfl,rfl⟩;refine⟨[110],_,_,Kd,rfl,rfl,rfl,rfl,?_⟩;refine vO ?_;refine vR ?_;refine ZtA (t:=204) (t':=206) (z:=.nilFunc) (x':=.t 26) (u:=fnV f []) (vr:=.c (.raw .nilFunc)) Kb Ka Ka rfl rfl rfl (fun w M loc=>by simp only[RepA,RepC];exact⟨trivial,rfl⟩) ?_;simp only[go_sem,hP];refine vR ?_;refine vC ?_ ?_<;>intro h;{cases h};{clear h;refine vR ?_;refine Zlp (t:=206) (x':=.t 26) (u:=fnV f []) (vr:=.fn f []) Ka rfl rfl rfl (fun w M loc=>Zgz w M loc f) ?_;simp only[go_sem,hP];refine vR ?_;refine vC ?_ ?_<;>intro h;{(refine vR ?_;refine Zah [8,110] hps rfl rfl rfl Kb rfl (by unfold Bar.avsP;simp only[go_sem,Zar,Ob.lend,AV.lend,AV.lendL];first|done|rfl) ?_;intro r l' h;unfold Znu at h;cases hq:o with|none=>rw[hq]at h;obtain⟨rfl,rfl⟩:=h;refine⟨_,_,rfl,(by unfold Bar.avsP;simp only[Zap,Ob.back,AV.back,AV.backL];rfl),?_⟩;refine vO ?_;refine vR ?_;(refine Zay ?_;refine vS ?_);refine vC ?_ ?_<;>intro h;{refine vR ?_;(refine vL ?_;refine⟨_,[.box b.avs,(tabO tb)],rfl,Zab rfl rfl ?_ ?_ rfl,?_⟩);{unfold Bar.avs;simp only[go_sem,Zag,Ob.keepP,AV.keepP,AV.keepPL]};{trivial};{exact⟨rfl,rfl⟩}};{cases h}|some b'=>(rw[hq]at h;obtain⟨rfl,rfl⟩:=h;refine⟨_,_,rfl,(by unfold Bar.avsP;simp only[Zap,Ob.back,AV.back,AV.backL];rfl),?_⟩;refine vO ?_;refine vR ?_;have hck:=check25 b';simp only[Bar.av,Bar.avs]at hck;(refine ZaV (fun hG=>hck) ?_;refine vS ?_);cases hB:Za5 b' with|true=>(have he:ZeI b'=0:=by unfold ZeI;rw[Yt hB]);(have hx:Zg9 b (some b')=(Zgl,b'):=by unfold Zg9;simp only[hB,YJ]);rw[he,hx];refine vC ?_ ?_<;>intro h;{cases h};{refine vR ?_;(refine vL ?_;refine⟨_,[.box b'.avs,(tabO tb)],rfl,Zab rfl rfl ?_ ?_ rfl,?_⟩);{unfold Bar.avs;simp only[go_sem,Zag,Ob.keepP,AV.keepP,AV.keepPL];rfl};{trivial};{exact⟨rfl,rfl⟩}}|false=>(have he:ZeI b'=120:=by unfold ZeI;rw[hB];rfl);(have hx:Zg9 b (some b')=(noS,b):=by unfold Zg9;simp only[hB];rfl);rw[he,hx];refine vC ?_ ?_<;>intro h;{refine vR ?_;(refine vL ?_;refine⟨_,[.box b.avs,(tabO tb)],rfl,Zab rfl rfl ?_ ?_ rfl,?_⟩);{unfold Bar.avs;simp only[go_sem,Zag,Ob.keepP,AV.keepP,AV.keepPL]};{trivial};{exact⟨rfl,rfl⟩}};{cases h}))};{cases h}}}
def Zo8(own:Nat->Ob):∀ds:List CD,AV.keepPL own (ds.map .c)=some (ds.map .c)
 |[]=>rfl
 |d::ds=>by simp only[Ye,AV.keepPL,AV.keepP,Zo8 own ds]
def Ztr{b:Bar}(hco:b.box.wh.co=[])(kind:Int)(n:Nat)(ds:List CD):Fl 177 [.bp 1000 0,iv kind,.vw 1 1002 0 n n] [.box (b.avsP (.gr 1001)),.grow 122 2 (b.tray.pres.map Pr.cds),.box (ds.map .c)] [] (fun r l'=>r= .c (.bool false)/\l'=[.box (b.avsP (.gr 1001)),.grow 122 2 (b.tray.pres.map Pr.cds),.box (ds.map .c)]):=by have hl0:(([]:List Int).map fun n=>[CD.int .i64 n]).length=0:=rfl;refine vF Zsw.h fun C hP hN hC hL=>?_;simp only[Zsw,Zbj,ZaB,Yg,Ye,Nat.reduceAdd,];simp only[Bar.avsP,hco];(repeat(refine vV ?_;(try simp only[go_sem,hP,Zai,hl0,Yg,YI]);refine vQ ?_));refine vC ?_ ?_<;>intro h;{refine vR ?_;(refine vL ?_;refine⟨_,[.box (b.avsP (.gr 1001)),.grow 122 2 (b.tray.pres.map Pr.cds),.box (ds.map .c)],rfl,Zab rfl rfl ?_ ?_ rfl,?_⟩);{unfold Bar.avsP;simp only[go_sem,Zag,Ob.keepP,AV.keepP,AV.keepPL,Zo8,hco,Zai,Yg]};{trivial};{exact⟨rfl,by unfold Bar.avsP;rw[hco];rfl⟩}};{exfalso;simp at h;omega}
def ZDG{b:Bar}(hco:b.box.wh.co=[])(kind:Int):Zoj 176 [kind] b none:=by
 have hput:=Ztr hco kind 1 [Zai b.box.fo];simp only[Ye,Yg]at hput;unfold Zoj;refine vF Zvo.h fun C hP hN hC hL=>?_;simp only[Zvo,Zbj,ZaB,Yg,Ye,Nat.reduceAdd,]
 simp only[Bar.avsP];refine vR ?_;first|refine ZaS ?_|refine Zat (Zcz ?_)
 simp only[go_sem,hP];(repeat'(refine And.intro ?_ ?_));all_goals(first|exact Yar 0|rfl|exact YcI|exact Nat.one_pos|skip)
 all_goals(
  refine Zah [1000,1001,15] hput rfl rfl rfl Kb rfl (by simp only[go_sem,Zar,Ob.lend,AV.lend,AV.lendL,Bar.avsP];first|done|rfl) ?_;rintro r l' ⟨rfl,rfl⟩;refine⟨_,_,rfl,(by unfold Bar.avsP;simp only[Zap,Ob.back,AV.back,AV.backL];rfl),?_⟩;simp only[go_sem,hP,Zae];refine vR ?_;(refine vL ?_;refine⟨_,[.box (b.avsP (.gr 1001)),.grow 122 2 (b.tray.pres.map Pr.cds)],rfl,Zab rfl rfl ?_ ?_ rfl,?_⟩)
  ·unfold Bar.avsP;simp only[go_sem,Zag,Ob.keepP,AV.keepP,AV.keepPL]
  ·trivial
  ·exact⟨rfl,rfl⟩)
def ZDY{b:Bar}(hco:b.box.wh.co=[])(kind:Int):Zoj 178 [kind] b none:=by
 have hput:=Ztr hco kind 2 [Zai b.box.fo,Zai b.box.ma];simp only[Ye,Yg]at hput;unfold Zoj;refine vF Zvp.h fun C hP hN hC hL=>?_;simp only[Zvp,Zbj,ZaB,Yg,Ye,Nat.reduceAdd,]
 simp only[Bar.avsP];refine vR ?_;first|refine ZaS ?_|refine Zat (Zcz ?_)
 simp only[go_sem,hP];(repeat'(refine And.intro ?_ ?_));all_goals(first|exact Yar 0|rfl|exact YcI|exact Nat.one_pos|skip)
 all_goals(
  refine Zah [1000,1001,21] hput rfl rfl rfl Kb rfl (by simp only[go_sem,Zar,Ob.lend,AV.lend,AV.lendL,Bar.avsP];first|done|rfl) ?_;rintro r l' ⟨rfl,rfl⟩;refine⟨_,_,rfl,(by unfold Bar.avsP;simp only[Zap,Ob.back,AV.back,AV.backL];rfl),?_⟩;simp only[go_sem,hP,Zae];refine vR ?_;(refine vL ?_;refine⟨_,[.box (b.avsP (.gr 1001)),.grow 122 2 (b.tray.pres.map Pr.cds)],rfl,Zab rfl rfl ?_ ?_ rfl,?_⟩)
  ·unfold Bar.avsP;simp only[go_sem,Zag,Ob.keepP,AV.keepP,AV.keepPL]
  ·trivial
  ·exact⟨rfl,rfl⟩)
def ZEy{b:Bar}(hco:b.box.wh.co=[])(kind:Int):Zoj 179 [kind] b none:=by
 have hput:=Ztr hco kind 1 [Zai b.box.sl];simp only[Ye,Yg]at hput;unfold Zoj;refine vF Zvq.h fun C hP hN hC hL=>?_;simp only[Zvq,Zbj,ZaB,Yg,Ye,Nat.reduceAdd,]
 simp only[Bar.avsP];refine vR ?_;first|refine ZaS ?_|refine Zat (Zcz ?_)
 simp only[go_sem,hP];(repeat'(refine And.intro ?_ ?_));all_goals(first|exact Yar 0|rfl|exact YcI|exact Nat.one_pos|skip)
 all_goals(
  refine Zah [1000,1001,15] hput rfl rfl rfl Kb rfl (by simp only[go_sem,Zar,Ob.lend,AV.lend,AV.lendL,Bar.avsP];first|done|rfl) ?_;rintro r l' ⟨rfl,rfl⟩;refine⟨_,_,rfl,(by unfold Bar.avsP;simp only[Zap,Ob.back,AV.back,AV.backL];rfl),?_⟩;simp only[go_sem,hP,Zae];refine vR ?_;(refine vL ?_;refine⟨_,[.box (b.avsP (.gr 1001)),.grow 122 2 (b.tray.pres.map Pr.cds)],rfl,Zab rfl rfl ?_ ?_ rfl,?_⟩)
  ·unfold Bar.avsP;simp only[go_sem,Zag,Ob.keepP,AV.keepP,AV.keepPL]
  ·trivial
  ·exact⟨rfl,rfl⟩)
def ZDW{b:Bar}(hfo:b.box.fo=[])(n:Int):Zoj 181 [n] b none:=by have gd0:([[CD.int .i64 n]].getD (Int.toNat 0) [])=[CD.int .i64 n]:=rfl;have gd1:([CD.int .i64 n].getD 0 default)=CD.int .i64 n:=rfl;unfold Zoj;refine vF Zvr.h fun C hP hN hC hL=>?_;simp only[Zvr,Zbj,ZaB,Yg,Ye,Nat.reduceAdd,];simp only[Bar.avsP,hfo];(repeat(refine vV ?_;(try simp only[go_sem,hP,Zai,Ye,Yg,gd0,gd1,YI]);refine vQ ?_));refine vC ?_ ?_<;>intro h;{refine vR ?_;(refine vL ?_;refine⟨_,[.box (b.avsP (.gr 1001)),.grow 122 2 (b.tray.pres.map Pr.cds)],rfl,Zab rfl rfl ?_ ?_ rfl,?_⟩);{unfold Bar.avsP;simp only[go_sem,Zag,Ob.keepP,AV.keepP,AV.keepPL,hfo,Zai,Yg]};{trivial};{exact⟨rfl,rfl⟩}};{exfalso;simp at h;omega}
def Zxq(b:Bar)(n:Int):Zoj 182 [n] b (some (Zkk b n)):=by have gd0:([[CD.int .i64 n]].getD (Int.toNat 0) [])=[CD.int .i64 n]:=rfl;have gd1:([CD.int .i64 n].getD 0 default)=CD.int .i64 n:=rfl;unfold Zoj;refine vF ZBY.h fun C hP hN hC hL=>?_;simp only[ZBY,Zbj,ZaB,Yg,Ye,Nat.reduceAdd,];simp only[Bar.avsP];(repeat(refine vV ?_;(try simp only[go_sem,hP,Zai,Ye,Yg,gd0,gd1]);refine vQ ?_));(refine vL ?_;refine⟨_,[.box ((Zkk b n).avsP (.gr 1001)),.grow 122 2 (b.tray.pres.map Pr.cds)],rfl,Zab rfl rfl ?_ ?_ rfl,?_⟩);{unfold Bar.avsP Zkk;simp only[go_sem,Zag,Ob.keepP,AV.keepP,AV.keepPL];rfl};{trivial};{exact⟨rfl,rfl⟩}
def ZA9{b:Bar}(n1:b.box.fo=[])(n2:b.box.ma=[])(n3:b.box.sl=[]):Zoj 183 [] b (Zb2 b):=by
 have e0':(List.replicate 0 (0:Int))=[]:=rfl;unfold Zoj;refine vF Zvs.h fun C hP hN hC hL=>?_;simp only[Zvs,Zbj,ZaB,Yg,Ye,Nat.reduceAdd,]
 simp only[Bar.avsP];refine vR ?_;by_cases hz:b.pl=0/\b.cr=0
 ·have hy:Zb2 b=some {b with box:={b.box with fo:=[],ma:=[],sl:=[],pl:=0}}:=by unfold Zb2;rw[Yt hz,n1,n2,n3];rfl
  rw[hy];refine vC ?_ ?_<;>intro h
  ·exfalso;simp[hz.1,hz.2]at h
  ·refine vR ?_;refine ZcB (fun σ'=>Sub σ' ⟨upd (upd (upd (upd e0 0 (.bp 1000 0)) 4 (.c (.bool false))) 32 (.agg [.c (Zai b.box.fo),.c (Zai b.box.ma),.c (Zai b.box.sl)])) 33 (iv 0),upd (upd o0 1000 (.box (b.avsP (.gr 1001)))) 1001 (.grow 122 2 (b.tray.pres.map Pr.cds))⟩) ?_ ?_
   ·refine ZaS ?_;simp only[go_sem,hP];(repeat'(refine And.intro ?_ ?_));all_goals(
     refine Zf6 (e:=22) (n:=3) (sz:=1) (z:=List.replicate 3 (.c (.raw (.slice none 0 0)))) (ps:=[(0,1,.t 19),(1,1,.t 25),(2,1,.t 31)]) (r:=[.c (Zai b.box.fo),.c (Zai b.box.ma),.c (Zai b.box.sl)]) Ka Ka Ka rfl ?_ rfl ?_ ?_
     ·intro i q hq;have:i=0\/i=1\/i=2\/3<=i:=by omega
      rcases this with rfl|rfl|rfl|h
      case inr.inr.inr=>rw[YW (by exact h)]at hq;cases hq
      all_goals(cases hq;exact⟨_,rfl,rfl⟩)
     ·simp only[go_sem]
     simp only[go_sem,hP];refine Zaf (by simp only[go_sem];exact Zaj) (by unfold Bar.avsP;simp only[go_sem];exact Zaa))
   ·intro σ' hs;refine Zav hs ?_;refine vR ?_;refine ZaE (fun k:Nat=>⟨upd (upd (upd (upd e0 0 (.bp 1000 0)) 4 (.c (.bool false))) 32 (.agg [.c (Zai b.box.fo),.c (Zai b.box.ma),.c (Zai b.box.sl)])) 33 (iv k),upd (upd o0 1000 (.box (b.avsP (.gr 1001)))) 1001 (.grow 122 2 (b.tray.pres.map Pr.cds))⟩) (fun k=>k<=3) (fun k=>3-k) 0 (YC _) ?_ ?_
    ·refine Zaf (by simp only[go_sem];exact Zaj) (by unfold Bar.avsP;simp only[go_sem];exact Zaa)
    intro k hk;refine vR ?_;refine vC ?_ ?_<;>intro h
    ·have hi:k<3:=by simp at h;omega
     (refine Zbq ?_;simp only[go_sem])
     refine Zat (Zbe (Zat ?_));have w1:=vw (n:=(k:Int)+1);have:k=0\/k=1\/k=2:=by omega
     rcases this with rfl|rfl|rfl
     all_goals(
      unfold Bar.avsP;(refine ZcF ?_;refine vN ?_);refine ZbS (e:=22) (n:=3) (x':=.t 32) (i':=.t 33) (k:=.i64) (j:=_) Ka Ka Ka rfl rfl rfl rfl rfl rfl Kc rfl ?_;simp only[go_sem,hP];refine vR ?_;refine ZqH (e:=3) (sz:=1) (x':=.t 36) Ka rfl rfl (by simp only[go_sem,n1,n2,n3];rfl) ?_;simp only[go_sem,hP];refine vW w1 ?_)
     ·refine⟨1,Kc,Kd,Zaf (by simp only[go_sem];exact Zaj) (by simp only[go_sem];exact Zaa)⟩
     ·refine⟨2,Kc,Kd,Zaf (by simp only[go_sem];exact Zaj) (by simp only[go_sem];exact Zaa)⟩
     ·refine⟨3,Kc,Kd,Zaf (by simp only[go_sem];exact Zaj) (by simp only[go_sem];exact Zaa)⟩
    ·have hk3:k=3:=by simp at h;omega
     subst hk3;unfold Bar.avsP;refine vR ?_;(refine vL ?_;refine⟨_,[.box (Bar.avsP {b with box:={b.box with fo:=[],ma:=[],sl:=[],pl:=0}} (.gr 1001)),.grow 122 2 (b.tray.pres.map Pr.cds)],rfl,Zab rfl rfl ?_ ?_ rfl,?_⟩)
     ·unfold Bar.avsP;rw[n1,n2,n3];simp only[go_sem,Zag,Ob.keepP,AV.keepP,AV.keepPL]
     ·trivial
     ·exact⟨rfl,rfl⟩
 ·have hy:Zb2 b=none:=by unfold Zb2;rw[Yx hz]
  rw[hy];refine vC ?_ ?_<;>intro h
  ·refine vR ?_;(refine vL ?_;refine⟨_,[.box (b.avsP (.gr 1001)),.grow 122 2 (b.tray.pres.map Pr.cds)],rfl,Zab rfl rfl ?_ ?_ rfl,?_⟩)
   ·unfold Bar.avsP;simp only[go_sem,Zag,Ob.keepP,AV.keepP,AV.keepPL]
   ·trivial
   ·exact⟨rfl,rfl⟩
  ·exfalso;simp at h;exact hz h
def Zm9(f:Nat)(b:Bar)(ns:List Int):Option Bar:=
 if f=176 then ZeR 0 b (ns.getD 0 0)else if f=178 then ZeR 1 b (ns.getD 0 0)else if f=179 then ZeR 2 b (ns.getD 0 0)else if f=180 then ZcD b (ns.getD 0 0) (ns.getD 1 0)else if f=181 then Zer b (ns.getD 0 0)else if f=182 then some (Zkk b (ns.getD 0 0))else Zb2 b
def ZdD{w:List UInt8}{e:Wd}(h:Za9 w=some e):(w,e)∈Ze3:=by unfold Za9 at h;rw[Yh]at h;obtain⟨p,hp,rfl⟩:=h;have h1:=Yap hp;have h2:=Ybd hp;have h3:p.1=w:=eq_of_beq h2;rw[<-h3];exact h1
def Zj6{s w:List UInt8}{ns:List Int}{e:Wd}(hp:ZaA s=some (w,ns))(hw:Za9 w=some e):(ns.length:Int)=e.many:=by unfold ZaA at hp;split at hp;{cases hp};{rename_i w' args _;split at hp;{cases hp};{rename_i e' he;split at hp;{rename_i hc;cases hp;rw[hw]at he;cases he;rw[Yc];exact hc.1};{cases hp}}}
def ZhV(c:Bool)(l:List Int)(k:Nat):(bmp c l k).length=l.length:=by unfold bmp;split<;>simp
def Zlm{t:Nat}{b b':Bar}{k:Int}(h:ZeR t b k=some b'):b'.box.fo.length=b.box.fo.length/\b'.box.ma.length=b.box.ma.length/\b'.box.sl.length=b.box.sl.length:=by unfold ZeR at h;split at h;{cases h;exact⟨ZhV _ _ _,ZhV _ _ _,ZhV _ _ _⟩};{cases h}
def ZsJ{b b':Bar}{k:Int}(h:Zer b k=some b'):b'.box.fo.length=b.box.fo.length/\b'.box.ma.length=b.box.ma.length/\b'.box.sl.length=b.box.sl.length:=by unfold Zer at h;split at h;{cases h;exact⟨Y7 ..,rfl,rfl⟩};{cases h}
def Zqg{b b':Bar}(h:Zb2 b=some b'):b'.box.fo.length=b.box.fo.length/\b'.box.ma.length=b.box.ma.length/\b'.box.sl.length=b.box.sl.length:=by unfold Zb2 at h;split at h;{cases h;exact⟨Ybe ..,Ybe ..,Ybe ..⟩};{cases h}
def ZiY{t:Nat}{b:Bar}(h:b.box.wh.co=[])(k:Int):ZeR t b k=none:=by unfold ZeR;rw[h,Yx];rintro⟨h1,h2,_⟩;simp at h2;omega
def Zqt{b:Bar}(h:b.box.fo=[])(k:Int):Zer b k=none:=by unfold Zer;rw[h,Yx];rintro⟨h1,h2⟩;simp at h2;omega
def Zqs{b:Bar}(hB:Za5 b=true){s w:List UInt8}{ns:List Int}{e:Wd}(hs:s.length<=1000)(hp:ZaA s=some (w,ns))(hw:Za9 w=some e)(ht:e.t=206):ZeW tb b s (Zg9 b (Zm9 e.f b ns)):=by have hb:=ZfI hB;have hm:=ZdD hw;have hl:=Zj6 hp hw;obtain⟨⟨l1,l2,l3⟩,_,_,_⟩:=ZkH hB;(have one:(ns.length:Int)=1->∃x,ns=[x]:=fun h=>by(match ns,h with|[x],_=>exact⟨x,rfl⟩|[],h=>simp at h|a::c::l,h=>simp at h;omega));by_cases hco:b.box.wh.co=[];{(have z:b.box.wh.co.length=0:=by rw[hco];rfl);have f1:b.box.fo=[]:=YE Kc;have f2:b.box.ma=[]:=YE Kc;have f3:b.box.sl=[]:=YE Kc;simp only[Ze3,YF,Yag,Ybt,Yj]at hm;rcases hm with h|h|h|h|h|h|h|h|h|h|h|h|h|h|h|h|h|h|h|h|h|h;(all_goals(obtain⟨_,rfl⟩:=h));(all_goals(first|(exfalso;revert ht;decide)|skip));{obtain⟨x,rfl⟩:=one hl;exact ZcH hb hs hp hw _ (by unfold Zm9;rw[Yt rfl,ZiY hco];exact ZDG hco x)};{obtain⟨x,rfl⟩:=one hl;exact ZcH hb hs hp hw _ (by unfold Zm9;rw[Yx Kb,Yt rfl,ZiY hco];exact ZDY hco x)};{obtain⟨x,rfl⟩:=one hl;exact ZcH hb hs hp hw _ (by unfold Zm9;rw[Yx Kb,Yx Kb,Yt rfl,ZiY hco];exact ZEy hco x)};{(match ns,hl with|[x,y],_=>exact ZcH hb hs hp hw _ (Zs9 hb x y)|[],hl=>simp at hl|[x],hl=>simp at hl|a::c::d::l,hl=>simp at hl;omega)};{obtain⟨x,rfl⟩:=one hl;exact ZcH hb hs hp hw _ (by unfold Zm9;rw[Yx Kb,Yx Kb,Yx Kb,Yx Kb,Yt rfl,Zqt f1];exact ZDW f1 x)};{obtain⟨x,rfl⟩:=one hl;exact ZcH hb hs hp hw _ (Zxq b x)};{have hn:ns=[]:=YE (by simp at hl;rw[hl];rfl);subst hn;exact ZcH hb hs hp hw _ (ZA9 f1 f2 f3)}};{have z:b.box.wh.co.length≠0:=fun h=>hco (YE h);(have f1:b.box.fo≠[]:=fun h=>by rw[h]at l1;exact z l1.symm);(have f2:b.box.ma≠[]:=fun h=>by rw[h]at l2;exact z l2.symm);(have f3:b.box.sl≠[]:=fun h=>by rw[h]at l3;exact z l3.symm);simp only[Ze3,YF,Yag,Ybt,Yj]at hm;rcases hm with h|h|h|h|h|h|h|h|h|h|h|h|h|h|h|h|h|h|h|h|h|h;(all_goals(obtain⟨_,rfl⟩:=h));(all_goals(first|(exfalso;revert ht;decide)|skip));{obtain⟨x,rfl⟩:=one hl;exact ZfY hb f1 f2 f3 hs hp hw _ (fun _ h=>Zlm h) (ZDH hB x)};{obtain⟨x,rfl⟩:=one hl;exact ZfY hb f1 f2 f3 hs hp hw _ (fun _ h=>Zlm h) (ZDZ hB x)};{obtain⟨x,rfl⟩:=one hl;exact ZfY hb f1 f2 f3 hs hp hw _ (fun _ h=>Zlm h) (ZEz hB x)};{(match ns,hl with|[x,y],_=>exact ZcH hb hs hp hw _ (Zs9 hb x y)|[],hl=>simp at hl|[x],hl=>simp at hl|a::c::d::l,hl=>simp at hl;omega)};{obtain⟨x,rfl⟩:=one hl;exact ZfY hb f1 f2 f3 hs hp hw _ (fun _ h=>ZsJ h) (ZDX hB x)};{obtain⟨x,rfl⟩:=one hl;exact ZcH hb hs hp hw _ (Zxq b x)};{have hn:ns=[]:=YE (by simp at hl;rw[hl];rfl);subst hn;exact ZfY hb f1 f2 f3 hs hp hw _ (fun _ h=>Zqg h) (Zyb f1 f2 f3)}}
def ZB6:Cz [] 192:=ec
def ZFe:Cz [] 30:=ec [(5,28672,[])]
def Zns{b:Bx}(h:bxB b=true):Fq 30 [b.av] (.tup [iv (ZaD b.wh b.fo-ZaD b.wh b.ma),iv (ZaD b.wh b.ma),iv (ZaD b.wh b.sl),iv 0]):=by have hb:=Zbc h;(have hx:(b.fo.length<=b.wh.co.length/\∀n∈b.fo,0<=n/\n<=14)/\(b.ma.length<=b.wh.co.length/\∀n∈b.ma,0<=n/\n<=14)/\(b.sl.length<=b.wh.co.length/\∀n∈b.sl,0<=n/\n<=14):=by have q:=h;simp only[bxB,Yf]at q;obtain⟨⟨⟨⟨⟨⟨⟨_,_⟩,_⟩,h4⟩,h5⟩,h6⟩,_⟩,_⟩:=q;have a:=ZaI h4;have c:=ZaI h5;have d:=ZaI h6;refine⟨⟨by rw[a.1];exact Yi _,fun n hn=>?_⟩,⟨by rw[c.1];exact Yi _,fun n hn=>?_⟩,⟨by rw[d.1];exact Yi _,fun n hn=>?_⟩⟩;{have:=a.2 n hn;omega};{have:=c.2 n hn;omega};{have:=d.2 n hn;omega});have ho:=Zmz b;rw[ZlQ h,ZhX h]at ho;have w1:=ZgP hb.wh hx.1.1 hx.1.2;have w2:=ZgP hb.wh hx.2.1.1 hx.2.1.2;have w3:=ZgP hb.wh hx.2.2.1 hx.2.2.2;have r1:=Zd5 hb.wh hx.1.1 hx.1.2;have r2:=Zd5 hb.wh hx.2.1.1 hx.2.1.2;have ws:=vw (n:=ZaD b.wh b.fo-ZaD b.wh b.ma);generalize ZaD b.wh b.fo=x1 at w1 ws r1|-;generalize ZaD b.wh b.ma=x2 at w2 ws r2|-;generalize ZaD b.wh b.sl=x3 at w3|-;refine vE ZFe.h fun C hP hN hC hL=>?_;simp only[ZFe,Bx.av,Bx.avs];refine vR ?_;(refine Zal (ho) ?_;simp only[go_sem,hP,Bx.av,Bx.avs];refine vQ ?_;(repeat(refine vV ?_;(try simp only[go_sem,hP,Bx.av,Bx.avs]);refine vQ ?_)));refine vC ?_ ?_<;>intro h;{simp at h};{refine vR ?_;(refine Zal (w2) ?_;refine vS ?_);(refine ZaM (w1) rfl rfl rfl rfl rfl ?_;refine vS ?_);(refine ZaM (w3) rfl rfl rfl rfl rfl ?_;refine vX ws ?_);(refine vT ?_;try exact trivial)}
def ZAV{b:Bar}(h:bxB b.box=true)(ns:List Int):Fl 192 [.bp 1000 0,.c (Zai ns)] [.box b.avs] [] (fun r l'=>r= .tup [.c (Zai [ZaD b.box.wh b.box.fo-ZaD b.box.wh b.box.ma,ZaD b.box.wh b.box.ma,ZaD b.box.wh b.box.sl]),iv 0]/\l'=[.box b.avs]):=by have hc:=Zns h;simp only[Bx.av,Bx.avs]at hc;refine vF ZB6.h fun C hP hN hC hL=>?_;simp only[ZB6,Zbj,ZaB,Yg,Ye,Nat.reduceAdd,];simp only[Bar.avs];refine vR ?_;(refine Zal (hc) ?_;refine vS ?_);(refine vL ?_;refine⟨_,[.box b.avs],rfl,Zab rfl rfl ?_ ?_ rfl,?_⟩);{unfold Bar.avs;simp only[go_sem,Zag,Ob.keepP,AV.keepP,AV.keepPL]};{trivial};{exact⟨rfl,rfl⟩}
def ZCc:Cz [7] 219:=ec [(1,1601,[.b [] [.l [0,1,2,3,4,5,6,7,8,9,10],.b [1] [.l [0,2,3,4,5,6,7,8,9,10],.b [2] [.l [0,3,4,5,6,7,8,9,10],.b [3] [.l [0,4,5,6,7,8,9,10],.b [4] [.l [0,5,6,7,8,9,10],.l [5,0,6,7,8,9,10]]]]]]])]
def ZCd:Cz [7] 220:=ec [(1,12865,[.b [] [.l [0,1,2,3,4,5,6,7,8,9,10,11,12,13],.b [1] [.l [0,2,3,4,5,6,7,8,9,10,11,12,13],.b [2] [.l [0,3,4,5,6,7,8,9,10,11,12,13],.b [3] [.l [0,4,5,6,7,8,9,10,11,12,13],.b [4] [.l [0,5,6,7,8,9,10,11,12,13],.l [5,0,6,7,8,9,10,11,12,13]]]]]]])]
def ZrW{f:FuncId}{b:Bar}{q:Nat}{l:List Int}{e:Int}(hf:Fq f [b.box.av] (.tup [.c (Zai l),iv e]))(x:CD):Fl 219 [.bp 1000 0,.c x,.c (.raw (Zf5 q 0))] [.box b.avs,vbox (fnV f []) q] [] (fun r l'=>r= .tup [.c (Zai l),iv e]/\l'=[.box b.avs,vbox (fnV f []) q]):=by
 simp only[Bx.av,Bx.avs]at hf;refine vF ZCc.h fun C hP hN hC hL=>?_;simp only[ZCc,Zbj,ZaB,Yg,Ye,Nat.reduceAdd,]
 simp only[Bar.avs];refine vR ?_;refine ZcB (fun σ'=>Sub σ' ⟨upd (upd e0 5 (.c (Zai l))) 6 (iv e),upd (upd o0 1000 (.box b.avs)) 1001 (vbox (fnV f []) q)⟩) ?_ ?_
 ·first|refine ZaS ?_|refine Zcz ?_|refine ZgT ?_
  simp only[go_sem,hP];(repeat'(refine And.intro ?_ ?_));all_goals(
   refine Zn0 (n:=1001) (vr:=.fn f []) rfl rfl rfl (fun w M loc=>Zgz w M loc f) ?_;simp only[go_sem,hP];refine Zal hf ?_;simp only[go_sem,hP];refine Zaf (by simp only[go_sem];exact Zaj) (by unfold Bar.avs;simp only[go_sem];exact Zaa))
 ·intro σ' hs;refine Zav hs ?_;(refine vL ?_;refine⟨_,[.box b.avs,vbox (fnV f []) q],rfl,Zab rfl rfl ?_ ?_ rfl,?_⟩)
  ·unfold Bar.avs;simp only[go_sem,Zag,Ob.keepP,AV.keepP,AV.keepPL]
  ·trivial
  ·exact⟨rfl,rfl⟩
def Znw{f:FuncId}{b:Bar}{q:Nat}{n e:Int}(hf:Fq f [b.box.av] (.tup [iv n,iv e]))(x:CD):Fl 220 [.bp 1000 0,.c x,.c (.raw (Zf5 q 0))] [.box b.avs,vbox (fnV f []) q] [] (fun r l'=>r= .tup [.c (Zai [n]),iv e]/\l'=[.box b.avs,vbox (fnV f []) q]):=by
 simp only[Bx.av,Bx.avs]at hf;refine vF ZCd.h fun C hP hN hC hL=>?_;simp only[ZCd,Zbj,ZaB,Yg,Ye,Nat.reduceAdd,]
 simp only[Bar.avs];refine vR ?_;refine ZcB (fun σ'=>Sub σ' ⟨upd (upd e0 5 (.c (Zai [n]))) 6 (iv e),upd (upd o0 1000 (.box b.avs)) 1001 (vbox (fnV f []) q)⟩) ?_ ?_
 ·first|refine ZaS ?_|refine Zcz ?_|refine ZgT ?_
  simp only[go_sem,hP];(repeat'(refine And.intro ?_ ?_));all_goals(
   refine Zn0 (n:=1001) (vr:=.fn f []) rfl rfl rfl (fun w M loc=>Zgz w M loc f) ?_;simp only[go_sem,hP];refine Zal hf ?_;simp only[go_sem,hP];refine Zal (Zj3 n e) ?_;simp only[go_sem,hP];refine Zaf (by simp only[go_sem];exact Zaj) (by unfold Bar.avs;simp only[go_sem];exact Zaa))
 ·intro σ' hs;refine Zav hs ?_;(refine vL ?_;refine⟨_,[.box b.avs,vbox (fnV f []) q],rfl,Zab rfl rfl ?_ ?_ rfl,?_⟩)
  ·unfold Bar.avs;simp only[go_sem,Zag,Ob.keepP,AV.keepP,AV.keepPL]
  ·trivial
  ·exact⟨rfl,rfl⟩
def ZB0:Cz [] 185:=ec [(1,1646592,[])]
def Zyj(b:Bar)(ns:List Int):Fl 185 [.bp 1000 0,.c (Zai ns)] [.box b.avs] [] (fun r l'=>r= .tup [.c (Zai [(Zdj b.box.wh b.pl ns).1]),iv (Zdj b.box.wh b.pl ns).2]/\l'=[.box b.avs]):=by have h:=ZvW b.box.wh b.pl ns;simp only[Wh.av,Wh.avs]at h;generalize Zdj b.box.wh b.pl ns=R at h|-;obtain⟨n,e⟩:=R;have h1:=Zj3 n e;refine vF ZB0.h fun C hP hN hC hL=>?_;simp only[ZB0,Zbj,ZaB,Yg,Ye,Nat.reduceAdd,];simp only[Bar.avs];refine vR ?_;(refine Zal (h) ?_;refine vS ?_);(refine Zal (h1) ?_;refine vS ?_);(refine vL ?_;refine⟨_,[.box b.avs],rfl,Zab rfl rfl ?_ ?_ rfl,?_⟩);{unfold Bar.avs;simp only[go_sem,Zag,Ob.keepP,AV.keepP,AV.keepPL]};{trivial};{exact⟨rfl,rfl⟩}
def ZB1:Cz [] 186:=ec [(1,102912,[])]
def Zp9(b:Bar)(x:Int):Fl 186 [.bp 1000 0,.c (Zai [x])] [.box b.avs] [] (fun r l'=>r= .tup [.c (Zai [(ZcC b.box.wh x).1]),iv (ZcC b.box.wh x).2]/\l'=[.box b.avs]):=by have h:=cheapest13 b.box.wh x;simp only[Wh.av,Wh.avs]at h;generalize ZcC b.box.wh x=R at h|-;obtain⟨n,e⟩:=R;have h1:=Zj3 n e;refine vF ZB1.h fun C hP hN hC hL=>?_;simp only[ZB1,Zbj,ZaB,Yg,Ye,Nat.reduceAdd,];simp only[Bar.avs];(repeat(refine vV ?_;(try simp only[go_sem,hP,Zai,Ye,Yg]);refine vQ ?_));(refine Zal (h) ?_;refine vS ?_);(refine Zal (h1) ?_;refine vS ?_);(refine vL ?_;refine⟨_,[.box b.avs],rfl,Zab rfl rfl ?_ ?_ rfl,?_⟩);{unfold Bar.avs;simp only[go_sem,Zag,Ob.keepP,AV.keepP,AV.keepPL];first|done|rfl};{trivial};{exact⟨rfl,rfl⟩}
def ZDj:Cz [] 26:=ec [(9,1536,[])]
abbrev ZDr:List Nat:=[5,20,21]
def Zz2:Cz [] 28:=ec
abbrev ZDs:List Nat:=[1,4,8,28,29]
def Zfn(f:Nat->Int):Nat->Int×Int
 |0=>(0,-1)
 |k+1=>if(Zfn f k).2<f k then((k:Int),f k)else Zfn f k
def ZjB(t:Tray)(k:Nat):Int:=ZqT t k
def Zdf(t:Tray):Int×Int:=if Za7 t=0 then((Zfn (ZjB t) t.pres.length).1,0)else(0,Za7 t)
def Zss{t:Tray}{k:Nat}(h:k<t.pres.length):inR t (k:Int)=true:=by simp[inR,Zad];omega
def longest49(t:Tray):Fq 26 [t.av] (.tup [iv (Zdf t).1,iv (Zdf t).2]):=by have hck:=ZiO t;unfold Zdf;by_cases h0:Za7 t=0;{rw[Yt h0];rw[h0]at hck;have hok:=(Tray.ok_spec (ZbZ h0).1);have ht:=hok.1;have hgo:=ZjS ht;have hpl:=ZiL ht;have h12:=hok.2;refine vE ZDj.h fun C hP hN hC hL=>?_;simp only[ZDj,Tray.av];refine vR ?_;(refine Zal (hck) ?_;refine vS1 ?_);refine vC ?_ ?_<;>intro h;{simp at h};{refine vR ?_;(refine Zal (hgo) ?_;simp only[go_sem,hP,Tray.av,Cs.run,Zbb,Yc];refine vQ ?_;(repeat(refine vV ?_;(try simp only[go_sem,hP,Tray.av,Cs.run,Zbb,Yc]);refine vQ ?_)));refine Zam ZDr [9] (fun k:Nat=>k<=t.pres.length) (fun k=>t.pres.length-k) (fun k=>[(22,iv k),(6,iv (Zfn (ZjB t) k).1),(7,iv (Zfn (ZjB t) k).2)]) (fun _=>[]) 0 (YC _) ?_ ?_;{(refine Zaf (by simp only[go_sem];(refine vEz ?_;first|trivial|exact AWk.of (by simp[Zfn]))) (by simp only[go_sem];exact Zaa))};{intro k hk;simp only[go_sem];refine vR ?_;refine vC ?_ ?_<;>intro h;{(have hkl:k<t.pres.length:=by simpa using h);(have hI:(k:Int)<(t.pres.length:Int):=by omega);have hw2:=vw (n:=(k:Int)+1);obtain⟨j,hj,e1,e2,e3,e4,e5,e6,e7,e8⟩:=ZdJ ht (Zss hkl);have hj':j<(Zbl t).plays.length:=hj;(have hjI:(j:Int)<((Zbl t).plays.length:Int):=by omega);(have hpr:t.pr (k:Int)=t.pres[k]:=by simp[Tray.pr,hkl]);rw[hpr]at e1 e3 e7 e8 e4;have hse:=Zlu (Zbl t).plays t.pres[k] (show(ZaC t).length<=100000 by omega);rw[show Za2 (Zbl t).plays t.pres[k] 0=(j:Int)from e1]at hse;have e4':ZjB t k=(Zbl t).plays[j].time-t.pres[k].time:=e4;have hw:=w64 (n:=(Zbl t).plays[j].time-t.pres[k].time) (by show _<=(ZaC t)[j].time-_;omega) (by show(ZaC t)[j].time-_<=_;omega);(have hlt:Zfn (ZjB t) (k+1)=if(Zfn (ZjB t) k).2<(Zbl t).plays[j].time-t.pres[k].time then((k:Int),(Zbl t).plays[j].time-t.pres[k].time)else Zfn (ZjB t) k:=by rw[<-e4'];rfl);generalize Zfn (ZjB t) k=L at*;generalize hL':Zfn (ZjB t) (k+1)=L' at*;(repeat(refine vV ?_;(try simp only[go_sem,hP,Zbb,Zax hkl,hI,Yc,Pr.cds,YB]);refine vQ ?_));refine ZaM hse rfl rfl rfl rfl rfl ?_;simp only[go_sem,hP,Zbb,Zax hj',hjI,Yc,Pr.cds,YB,hw];refine vQ ?_;refine vR ?_;by_cases hc:L.2<(Zbl t).plays[j].time-t.pres[k].time;{rw[Yt hc]at hlt;rw[Yaa hc];refine vC ?_ ?_<;>intro h;{refine vW hw2 ?_;refine⟨k+1,Kc,Kc,?_⟩;rw[hL'];subst hlt;exact Zak};{simp at h}};{rw[Yx hc]at hlt;rw[YaL hc];refine vC ?_ ?_<;>intro h;{simp at h};{refine vW hw2 ?_;refine⟨k+1,Kc,Kc,?_⟩;rw[hL'];subst hlt;exact Zak}}};{(have h:k=t.pres.length:=by simp at h;omega);subst h;(refine ZaO ?_;simp only[go_sem]);(refine vU ?_;try exact trivial)}}}};{rw[Yx h0];(have hb:(Za7 t !=0)=true:=by simpa using h0);refine vE ZDj.h fun C hP hN hC hL=>?_;simp only[ZDj,Tray.av];refine vR ?_;(refine Zal (hck) ?_;simp only[go_sem,hP,Tray.av,hb];refine vQ ?_;(repeat(refine vV ?_;(try simp only[go_sem,hP,Tray.av,hb]);refine vQ ?_)));refine vC ?_ ?_<;>intro h;{exact vUt};{simp at h}}
def standG(x:Int):Sp->List Sp->Sp
 |o,[]=>o
 |o,s::l=>if x<s.from_ then o else standG x s l
def ZF8(s:Sp):AV:=.agg [iv s.at_,iv s.way,iv s.side]
def Zt1{t:Tray}(ht:TrayOk t){q:List Pr}(hq:q.Perm t.pres)(hqs:q.Pairwise fun a b=>a.time<=b.time):∃l,(Za3 t q).spells=⟨t.at_.toNat,wayI (t.way==1),-1,0⟩::l:=by
 obtain⟨k,_,h,_,_,_⟩:=Zhq ht hq hqs (fun _ s=>∃l,s.spells=⟨t.at_.toNat,wayI (t.way==1),-1,0⟩::l) ⟨[],rfl⟩ (fun k s _ h=>h)
  (fun k s s' hs hpr ⟨l,hl⟩ e =>by
   rcases ZeH e with⟨p,q,hq,hpins,rfl⟩|⟨hpins,rfl⟩
   ·exact⟨l,hl⟩
   ·have m4:=(ZjZ t (s.play t)).2.2.2.1;have e1:((s.play t).next t).spells=(s.play t).spells++[⟨((s.play t).move t).at_,wayI ((s.play t).move t).up,-1,((s.play t).move t).now⟩]:=by
     show((s.play t).move t).spells++_=_;rw[m4]
    rw[e1];unfold Cs.play;split
    ·simp only[Cs.play2,Cs.play1,Cs.mark,hl];exact⟨_,rfl⟩
    ·rw[hl];exact⟨_,rfl⟩)
 exact h
def Zko(t:Tray)(x:Int):Sp:=standG x ((Zbl t).spells.headD default) (Zbl t).spells
def Zce(t:Tray)(x:Int):Sp×Int:=if t.ok then(if Zb3 x then(Zko t x,0)else(⟨0,0,0,0⟩,1))else(⟨0,0,0,0⟩,20)
def Zn9(x:Int)(o:Sp){l:List Sp}{k:Nat}(h:k<l.length):standG x o (l.drop k)=if x<l[k].from_ then o else standG x l[k] (l.drop (k+1)):=by rw[Yan h];rfl
def stand21(t:Tray)(x:Int):Fq 28 [t.av,iv x] (.tup [ZF8 (Zce t x).1,iv (Zce t x).2]):=by have hck:=check40 t;have htm:=Zk9 x;unfold Zce;cases hok:t.ok;{simp only[hok,Yp,YA]at hck|-;refine vE Zz2.h fun C hP hN hC hL=>?_;simp only[Zz2,Tray.av];refine vR ?_;(refine Zal (hck) ?_;refine vS1 ?_);refine vC ?_ ?_<;>intro h;{exact vUt};{simp at h}};simp only[hok,YJ]at hck|-;have ht:=(Tray.ok_spec hok).1;have hgo:=ZjS ht;cases htt:Zb3 x;{rw[htt]at htm;simp only[Yp,YA];refine vE Zz2.h fun C hP hN hC hL=>?_;simp only[Zz2,Tray.av];refine vR ?_;(refine Zal (hck) ?_;refine vS1 ?_);refine vC ?_ ?_<;>intro h;{simp at h};{refine vR ?_;(refine Zal (htm) ?_;refine vS ?_);refine vC ?_ ?_<;>intro h;{exact vUt};{simp at h}}};{rw[htt]at htm;simp only[YJ];have hsl:=(Ziv ht).spells;unfold Zko;obtain⟨l1,hl1⟩:=Zt1 ht (ZcP t.pres) (Zcx t.pres);have hl1:(Zbl t).spells=⟨t.at_.toNat,wayI (t.way==1),-1,0⟩::l1:=hl1;(have h0:0<(Zbl t).spells.length:=by rw[hl1];simp);(have hhd:(Zbl t).spells.headD default=(Zbl t).spells[0]:=by simp[hl1]);rw[hhd];generalize hS:(Zbl t).spells=S at*;clear hl1 hhd;(have h0I:(0:Int)<(S.length:Int):=by omega);have z0:((0:Int)).toNat=0:=rfl;refine vE Zz2.h fun C hP hN hC hL=>?_;simp only[Zz2,Tray.av];refine vR ?_;(refine Zal (hck) ?_;refine vS1 ?_);refine vC ?_ ?_<;>intro h;{simp at h};{refine vR ?_;(refine Zal (htm) ?_;refine vS ?_);refine vC ?_ ?_<;>intro h;{simp at h};{refine vR ?_;(refine Zal (hgo) ?_;simp only[go_sem,hP,Tray.av,Cs.run,hS,ZEA,Yc,Zax h0,h0I,z0,Sp.cds];refine vQ ?_;(repeat(refine vV ?_;(try simp only[go_sem,hP,Tray.av,Cs.run,hS,ZEA,Yc,Zax h0,h0I,z0,Sp.cds]);refine vQ ?_)));refine Zam ZDs [8,10] (fun p:Nat×Sp=>p.1<=S.length/\standG x S[0] S=standG x p.2 (S.drop p.1)) (fun p=>S.length-p.1) (fun p=>[(30,iv p.1)]) (fun p=>[(8,.box [iv p.2.at_,iv p.2.way,iv p.2.side])]) (0,S[0]) ⟨YC _,rfl⟩ ?_ ?_;{exact Zak};{rintro⟨k,o⟩ ⟨hk,hx⟩;simp only at hk hx;simp only[go_sem];refine vR ?_;refine vC ?_ ?_<;>intro h;{(have hkl:k<S.length:=by simpa using h);(have hI:(k:Int)<(S.length:Int):=by omega);have hw2:=vw (n:=(k:Int)+1);rw[Zn9 x o hkl]at hx;(repeat(refine vV ?_;(try simp only[go_sem,hP,Zax hkl,hI,YB,Yc,Sp.cds]);refine vQ ?_));by_cases hc:x<S[k].from_;{rw[Yt hc]at hx;rw[Yaa hc];refine vC ?_ ?_<;>intro h;{(refine ZaO ?_;simp only[go_sem]);(refine vU ?_;try exact trivial);rw[hx];rfl};{simp at h}};{rw[Yx hc]at hx;rw[YaL hc];refine vC ?_ ?_<;>intro h;{simp at h};{refine vW hw2 ?_;refine⟨(k+1,S[k]),⟨by simp only;omega,hx⟩,by simp only;omega,?_⟩;exact Zak}}};{(have h:k=S.length:=by simp at h;omega);subst h;rw[Ycv]at hx;(refine ZaO ?_;simp only[go_sem]);(refine vU ?_;try exact trivial);rw[hx];rfl}}}}}
def Zz3:Cz [38] 29:=ec [(11,228,[.b [0,1] [.l [2,3,4,5,6,7],.b [3] [.l [2,4,5,6,7],.l [4,2,5,6,7]]]])]
abbrev ZDt:List Nat:=[1,2,3]
def ZEs(l:List Pr)(r:AV)(os:List Ob):Prop:=(r= .gr 1000/\os=[.grow 122 2 (l.map Pr.cds)])\/(l=[]/\r= .c (.raw (.slice none 0 0))/\os=[])
def ZoG(l:List Pr)(hl:l.length<=1000):Fn 76 [.c (Zbb l)] (ZEs l):=by have hmax:=vM;refine ZaL ir76.h (Yi _) Kb fun C hP hN hC hL=>?_;(simp only[ir76,Zbb];cases l with|nil=>refine vR ?_;intro b;refine vR ?_;cases b;{refine vC ?_ ?_<;>intro h;{simp at h};{(repeat(refine vV ?_;(try simp only[go_sem,hP,Ybr]);refine vQ ?_));(refine Zas ?_;simp only[Zaz,inQ,Zbk,ZaN,Zaq,ZbJ];simp only[go_sem,Zbu]);exact⟨[7],.gr 1000,_,[.grow 122 2 []],Kb,Kb,rfl,AVle.of rfl,rfl,.inl ⟨rfl,rfl⟩⟩}};{refine vC ?_ ?_<;>intro h;{refine vR ?_;(refine Zas ?_;simp only[Zaz,inQ,Zbk,ZaN,Zaq,ZbJ];simp only[go_sem,Zbu]);exact⟨[],.c (.raw (.slice none 0 0)),_,[],Kb,Kb,rfl,AVle.of rfl,rfl,.inr ⟨rfl,rfl,rfl⟩⟩};{simp at h}}|cons a l=>refine vR ?_;refine vC ?_ ?_<;>intro h;{simp at h};{clear h;have hp:=ZdX (a::l);simp only[Ye]at hp;have hlen:l.length+1<=1000:=hl;(repeat(refine vV ?_;(try simp only[go_sem,hP,hp,Yo]);refine vQ ?_));(refine Zas ?_;simp only[Zaz,inQ,Zbk,ZaN,Zaq,ZbJ];simp only[go_sem,Zbu]);exact⟨[7],.gr 1000,_,[.grow 122 2 ((a::l).map Pr.cds)],Kb,Kb,rfl,AVle.of rfl,rfl,.inl ⟨rfl,rfl⟩⟩})
def Zfy(t:Tray)(p:Pr):Tray:={t with pres:=t.pres++[p]}
def ZzX{t:Tray}(ht:TrayOk t)(h12:t.pres.length<=12){p:Pr}(hs:ZcZ t.n p.side=true)(hx:Zb3 p.time=true):TrayOk (Zfy t p):=by simp only[ZcZ,Zb3,Zad,Yf,Yl]at hs hx;refine⟨ht.n1,ht.n6,ht.at_,ht.way,ht.step,ht.recs,fun q hq=>?_,by show(t.pres++[p]).length<=13;rw[Yw];simp only[Yo,YI];omega⟩;rcases YD.1 hq with hq|hq;{exact ht.pres q hq};{simp only[Yk]at hq;subst hq;show(0<=q.side/\q.side<2*(t.n:Int))/\_;omega}
def Zgc(t:Tray)(p:Pr):Int:=((ZaC (Zfy t p)).getD (Za2 (ZaC (Zfy t p)) p 0).toNat default).time
def Zdp(f:Int->Bool):Nat->Int×Int
 |0=>(0,3)
 |k+1=>if f k then((k:Int),0)else Zdp f k
def Zc0(t:Tray)(s b:Int):Int×Int:=
 if t.ok then(if ZcZ t.n s&&Zb3 b then Zdp (fun x=>decide (Zgc t ⟨s,x⟩<=b)) (b+1).toNat else(0,1))else(0,20)
def latest26(t:Tray)(s b:Int):Fq 29 [t.av,iv s,iv b] (.tup [iv (Zc0 t s b).1,iv (Zc0 t s b).2]):=by
 have hck:=check40 t;unfold Zc0;cases hok:t.ok;{simp only[hok,Yp,YA]at hck|-;refine vE Zz3.h fun C hP hN hC hL=>?_;simp only[Zz3,Tray.av];refine vR ?_;(refine Zal (hck) ?_;refine vS1 ?_);refine vC ?_ ?_<;>intro h;{exact vUt};{simp at h}};simp only[hok,YJ]at hck|-;have hokk:=Tray.ok_spec hok;have ht:=hokk.1;have h12:=hokk.2;have hn6:=ht.n6;have hside:=Zo6 t s Kc;have htime:=Zk9 b;cases hin:ZcZ t.n s&&Zb3 b;{(have hb:(!ZcZ t.n s|| !Zb3 b)=true:=by rw[<-Bool.not_and,hin];rfl);simp only[Yp,YA];refine vE Zz3.h fun C hP hN hC hL=>?_;simp only[Zz3,Tray.av];refine vR ?_;(refine Zal (hck) ?_;refine vS1 ?_);refine vC ?_ ?_<;>intro h;{simp at h};{refine vR ?_;(refine Zal (hside) ?_;refine vS1 ?_);(refine ZaV (fun hG=>htime) ?_;refine vX hb ?_);refine vC ?_ ?_<;>intro h;{exact vUt};{simp at h}}}
 ·(have hb:(!ZcZ t.n s|| !Zb3 b)=false:=by rw[<-Bool.not_and,hin];rfl);simp only[YJ];(have hs1:ZcZ t.n s=true:=by simp only[Yf]at hin;exact hin.1);(have hb1:Zb3 b=true:=by simp only[Yf]at hin;exact hin.2);(have hb2:0<=b/\b<=9999:=by simpa [Zb3,Zad]using hb1);refine vE Zz3.h fun C hP hN hC hL=>?_;simp only[Zz3,Tray.av];refine vR ?_;(refine Zal (hck) ?_;refine vS1 ?_);refine vC ?_ ?_<;>intro h;{simp at h}
  ·refine vR ?_;(refine Zal (hside) ?_;refine vS1 ?_);(refine ZaV (fun hG=>htime) ?_;refine vX hb ?_);refine vC ?_ ?_<;>intro h;{simp at h}
   ·refine vR ?_;refine Zam ZDt [10,11] (fun m:Nat=>m<=(b+1).toNat/\Zdp (fun x=>decide (Zgc t ⟨s,x⟩<=b)) (b+1).toNat=Zdp (fun x=>decide (Zgc t ⟨s,x⟩<=b)) m) (fun m=>m) (fun m=>[(9,iv ((m:Int)-1))]) (fun _=>[]) (b+1).toNat ⟨Yi _,rfl⟩ ?_ ?_;{rw[show(((b+1).toNat:Nat):Int)-1=b from by omega];exact Zak}
    ·rintro m ⟨hm,hx⟩;simp only[go_sem];refine vR ?_;cases m with
     |zero=>(have hd:decide ((0:Int)<=((0:Nat):Int)-1)=false:=by decide);rw[hd];refine vC ?_ ?_<;>intro h;{simp at h};{(refine ZaO ?_;simp only[go_sem]);(refine vU ?_;try exact trivial);rw[hx];rfl}
     |succ m=>
      (have em:((m+1:Nat):Int)-1=(m:Int):=by omega);rw[em];refine vC ?_ ?_<;>intro h;rotate_left;{simp at h};have hw9:=vw (n:=(m:Int)-1);have hwt:TrayOk (Zfy t ⟨s,m⟩):=ZzX ht h12 hs1 (by simp[Zb3,Zad];omega);have hgo:=ZjS hwt;(have hwav:(Zfy t ⟨s,m⟩).av= .agg [.c (ZaT t.recs),iv t.at_,iv t.way,iv t.step,.c (.sl 2 (t.pres.map Pr.cds++[[.int .i64 s,.int .i64 m]]))]:=by simp[Tray.av,Zfy,Zbb,Pr.cds]);rw[hwav]at hgo;(have hin9:inR (Zfy t ⟨s,m⟩) (t.pres.length:Int)=true:=by refine Zss (t:=Zfy t ⟨s,m⟩) (k:=t.pres.length) ?_;show _<(t.pres++[_]).length;rw[Yw];simp);obtain⟨j,hj,e1,e2,e3,e4,e5,e6,e7,e8⟩:=ZdJ hwt hin9;(have hpr:(Zfy t ⟨s,m⟩).pr (t.pres.length:Int)=⟨s,m⟩:=by show(t.pres++[(⟨s,m⟩:Pr)]).getD (((t.pres.length:Nat):Int)).toNat default=_;rw[Yr,Yb,List.getElem?_concat_length];rfl);rw[hpr]at e1;(have hsv:Zgc t ⟨s,m⟩=(ZaC (Zfy t ⟨s,m⟩))[j].time:=by unfold Zgc;rw[e1,Yr,Yb,Yd hj];rfl);(have hjI:(j:Int)<((ZaC (Zfy t ⟨s,m⟩)).length:Int):=by omega);have hse:=Zlu (ZaC (Zfy t ⟨s,m⟩)) ⟨s,m⟩ (by have:=ZiL hwt;omega);rw[e1]at hse;have hlg:Zdp (fun x=>decide (Zgc t ⟨s,x⟩<=b)) (m+1)=if decide (Zgc t ⟨s,m⟩<=b)=true then((m:Int),0)else Zdp (fun x=>decide (Zgc t ⟨s,x⟩<=b)) m:=rfl;rw[hlg,hsv]at hx;clear hlg e4 hsv e2 e3 e7 e8 hpr;have hplen:(Zbl (Zfy t ⟨s,m⟩)).plays=ZaC (Zfy t ⟨s,m⟩):=rfl;generalize hPl:ZaC (Zfy t ⟨s,m⟩)=Pl at*;have hcl:=ZoG t.pres Kc;have hmax:=vM;(repeat(refine vV ?_;(try simp only[go_sem,hP,YB]);refine vQ ?_));(refine ZaS ?_;simp only[go_sem,hP];(repeat'(refine And.intro ?_ ?_)))
      all_goals
       refine ZaK hcl rfl rfl rfl rfl ?_;rintro res os (⟨rfl,rfl⟩|⟨hpn,rfl,rfl⟩)
       ·refine⟨[900],.gr 900,[.grow 122 2 (t.pres.map Pr.cds)],Kb,rfl,by simp only[go_sem,Yb4],rfl,rfl,?_⟩;simp only[go_sem,hP,Zae,ZdX,Yc];refine vQ ?_;(repeat(refine vV ?_;(try simp only[go_sem,hP,ZaT]);refine vQ ?_));(refine Zal (hgo) ?_;simp only[go_sem,hP,Cs.run,hplen];refine vQ ?_;(repeat(refine vV ?_;(try simp only[go_sem,hP,Cs.run,hplen]);refine vQ ?_)))
        refine ZkB hse rfl rfl rfl rfl rfl ?_;simp only[go_sem,hP,Zbb,Zax hj,hjI,Yc,Pr.cds,YB];refine vQ ?_;by_cases hc:Pl[j].time<=b
        ·rw[Yt (Yaa hc)]at hx;rw[Yaa hc];refine vC ?_ ?_<;>intro h
         ·(refine vU ?_;try exact trivial)
          rw[hx]
         ·simp at h
        ·rw[Yx (by simpa using hc)]at hx;rw[YaL hc];refine vC ?_ ?_<;>intro h
         ·simp at h
         ·refine vW hw9 ?_;refine⟨m,⟨Kc,hx⟩,Kc,?_⟩;exact Zak
       ·rw[hpn]at hgo;simp only[Yg,YM]at hgo;refine⟨[],.c (.raw (.slice none 0 0)),[],Kb,rfl,by simp only[go_sem,Yb4],rfl,rfl,?_⟩;simp only[go_sem,hP,Zae,ZdX,Yc];refine vQ ?_;(repeat(refine vV ?_;(try simp only[go_sem,hP,ZaT]);refine vQ ?_));(refine Zal (hgo) ?_;simp only[go_sem,hP,Cs.run,hplen];refine vQ ?_;(repeat(refine vV ?_;(try simp only[go_sem,hP,Cs.run,hplen]);refine vQ ?_)))
        refine ZkB hse rfl rfl rfl rfl rfl ?_;simp only[go_sem,hP,Zbb,Zax hj,hjI,Yc,Pr.cds,YB];refine vQ ?_;by_cases hc:Pl[j].time<=b
        ·rw[Yt (Yaa hc)]at hx;rw[Yaa hc];refine vC ?_ ?_<;>intro h
         ·(refine vU ?_;try exact trivial)
          rw[hx]
         ·simp at h
        ·rw[Yx (by simpa using hc)]at hx;rw[YaL hc];refine vC ?_ ?_<;>intro h
         ·simp at h
         ·refine vW hw9 ?_;refine⟨m,⟨Kc,hx⟩,Kc,?_⟩;exact Zak
def Zvv:Cz [] 259:=ec [(5,49152,[.b [0,1,3,4,5,6,7,8,9,10,11,12] [.l [2,13,14,15],.l [13,2,14,15]]]),(7,49152,[.b [0,1,3,4,5,6,7,8,9,10,11,12] [.l [2,13,14,15],.l [13,2,14,15]]])]
abbrev ZAy:List Nat:=[0,1,3,4]
def ZCe:Cz [] 238:=ec
abbrev ZAx:List Nat:=[2,3,4,10]
def ncd(k:Nat):List CD:=[.int .i64 (k:Int)]
def ZbM(k:Nat):(ncd k).length=1:=rfl
def ZgE(l:List Nat):CD:=.sl 1 (l.map ncd)
def Zec(o:List Nat)(i j:Nat):List Nat:=(o.set i (o.getD j 0)).set j (o.getD i 0)
def ZdK(o:List Nat)(i j:Nat):(Zec o i j).length=o.length:=by simp[Zec]
def Zmk{l:List Nat}{i:Nat}(h:i<l.length)(k x:Nat):(l.set i x).getD k 0=if k=i then x else l.getD k 0:=by rw[Yb,Y5];by_cases e:i=k;{subst e;simp[h]};{rw[Yx e,Yx (fun h=>e h.symm),Yb]}
def Zgf{o:List Nat}{i j:Nat}(hi:i<o.length)(hj:j<o.length)(k:Nat):(Zec o i j).getD k 0=if k=j then o.getD i 0 else if k=i then o.getD j 0 else o.getD k 0:=by unfold Zec;rw[Zmk (by rw[Y7];exact hj),Zmk hi]
def Zr9{l m:List Nat}(hl:l.length=m.length)(h:∀i,i<l.length->l.getD i 0=m.getD i 0):l=m:=by apply Ybo hl;intro i h1 h2;have:=h i h1;simpa [h1,h2]using this
def ZqP{o:List Nat}{i j:Nat}(hi:i<o.length)(hj:j<o.length):Zec (Zec o i j) i j=o:=by refine Zr9 (by rw[ZdK,ZdK]) fun k hk=>?_;rw[Zgf (by rw[ZdK];exact hi) (by rw[ZdK];exact hj),Zgf hi hj,Zgf hi hj,Zgf hi hj];by_cases h3:k=j;{by_cases h4:i=j;{simp[h3,h4]};{simp[h3,h4]}};{by_cases h4:k=i;{subst h4;simp[h3]};{simp[h3,h4]}}
def Ze6(n:Nat):Nat->List Nat->List (List Nat)
 |0,o=>[o]
 |f+1,o=>(List.range (f+1)).flatMap fun j=>Ze6 n f (Zec o (n-(f+1)) (n-(f+1)+j))
def Zf3(n:Nat):List (List Nat):=Ze6 n n (List.range n)
def Zui(o:List Nat):Ent:={args:=[.vw 1 2000 0 o.length o.length],wins:=[Zac ncd o 0],res:=.tup []}
def ZnW{α:Type}(cds:α->List CD)(l:List α)(j:Nat):AV.pureL (Zac cds l j)=true:=ZiU (ZnX _) (Zlk j)
def Zqk(n:Nat)(g:Gst):List AV:=[.c (.pt [.int .i64 (n:Int)]),.c (.pt [.raw g.fv]),.bp 1002 0,.bp 1003 0]
def ZnD(n:Nat)(g:Gst)(rem:List Ent)(o:List Nat):List Ob:=[.guest g rem,.box (Zac ncd o 0),.box [.vw 1 1001 0 n n],.box [.fn 259 (Zqk n g)]]
def Zwg(n f:Nat)(o:List Nat)(k i:Nat)(rest:List Ent):List Ent:=(((List.range (f+1)).drop i).flatMap fun j=>Ze6 n f (Zec o k (k+j))).map Zui++rest
def ZtD{n f:Nat}{o:List Nat}{k:Nat}(ef:n-(f+1)=k)(rest:List Ent):(Ze6 n (f+1) o).map Zui++rest=Zwg n f o k 0 rest:=by unfold Zwg;rw[Yat];simp only[Ze6,ef]
def ZtC{n f:Nat}{o:List Nat}{k i:Nat}(h:i<f+1)(rest:List Ent):Zwg n f o k i rest=(Ze6 n f (Zec o k (k+i))).map Zui++Zwg n f o k (i+1) rest:=by unfold Zwg;rw[Yan (by simpa using h),List.getElem_range,List.flatMap_cons,Yy,YO]
def Zwh{n f:Nat}{o:List Nat}{k:Nat}(rest:List Ent):Zwg n f o k (f+1) rest=rest:=by unfold Zwg;rw[List.drop_of_length_le Kd];rfl
def from85(n:Nat)(hn:n<=100)(g:Gst):∀(f k:Nat)(o:List Nat)(rest:List Ent),k+f=n->o.length=n->
  Fl 259 (iv k::Zqk n g) (ZnD n g ((Ze6 n f o).map Zui++rest) o) [] (fun res l'=>res= .tup []/\l'=ZnD n g rest o):=by
 intro f;induction f with
 |zero=>intro k o rest hk ho;(have hkn:k=n:=by omega);subst hkn;refine vF Zvv.h fun C hP hN hC hL=>?_;simp only[Zvv,Zbj,ZaB,Yg,Ye,Nat.reduceAdd,Zqk,ZnD];refine vR8 ?_;refine vC ?_ ?_<;>intro h;rotate_left;{simp at h};refine vR ?_;refine Zoi 1000 [1001] (g:=g) (e:=Zui o) (rem:=rest) rfl rfl rfl rfl Kb ?_ ?_ ?_;{simp only[go_sem,AV.lendL,AV.lend,Zui,ho]};{refine⟨⟨⟨_,rfl,[],Yas _⟩,ZnW _ _ _⟩,trivial⟩};{simp only[go_sem,hP,Zui];refine vR ?_;(refine vL ?_;refine⟨_,ZnD k g rest o,rfl,Zab rfl rfl ?_ ?_ rfl,?_⟩);{simp only[go_sem,Zag,Ob.keepP,AV.keepP,AV.keepPL,ZnD,Zqk]};{simp only[go_sem,ZbL]};{exact⟨rfl,rfl⟩}}
 |succ f ih=>
  intro k o rest hk ho;(have hkn:k<n:=by omega);(have hb:((k:Int)==(n:Int))=false:=by simp;omega);(have ef:n-(f+1)=k:=by omega);have hw1:=vw (n:=(k:Int)+1);rw[ZtD ef];simp only[Zqk,ZnD]at ih|-;refine vF Zvv.h fun C hP hN hC hL=>?_;simp only[Zvv,Zbj,ZaB,Yg,Ye,Nat.reduceAdd,];refine vW hb ?_;refine vC ?_ ?_<;>intro h;{simp at h}
  refine vR ?_;refine Zam ZAy [1000,1001,1002,1003] (fun i:Nat=>i<=f+1) (fun i=>f+1-i) (fun i=>[(6,iv ((k+i:Nat):Int))])
   (fun i=>[(1000,.guest g (Zwg n f o k i rest)),(1001,.box (Zac ncd o 0)),(1002,.box [.vw 1 1001 0 n n]),(1003,.box [.fn 259 [.c (.pt [.int .i64 (n:Int)]),.c (.pt [.raw g.fv]),.bp 1002 0,.bp 1003 0]])]) 0 (YC _) ?_ ?_
  ·exact Zak
  ·intro i hi;simp only[go_sem];refine vR ?_;refine vC ?_ ?_<;>intro h
   ·(have hil:i<f+1:=by simp at h;omega);rw[ZtC hil];generalize hR:Zwg n f o k (i+1) rest=rest2;(have hki:k+i<n:=by omega);(have hI1:(k:Int)<(n:Int):=by omega);(have hI2:((k+i:Nat):Int)<(n:Int):=by omega);(have hok:k<o.length:=by omega);(have hoi:k+i<o.length:=by omega);(have g1:∀x,(Zac ncd o 0).getD (k+i) x= .c (.int .i64 (o.getD (k+i) 0:Nat)):=fun x=>by have:=ZbY ZbM hoi 0 0 (d:=.int .i64 (o[k+i]:Nat)) rfl x;rw[Yab,Yad]at this;rw[this];simp[hoi]);(have g2:∀x,(Zac ncd o 0).getD k x= .c (.int .i64 (o.getD k 0:Nat)):=fun x=>by have:=ZbY ZbM hok 0 0 (d:=.int .i64 (o[k]:Nat)) rfl x;rw[Yab,Yad]at this;rw[this];simp[hok]);(have s1:(Zac ncd o 0).set k (.c (.int .i64 (o.getD (k+i) 0:Nat)))=Zac ncd (o.set k (o.getD (k+i) 0)) 0:=by have:=Za8 ZbM hok 0 0 Kb (.int .i64 (o.getD (k+i) 0:Nat)) (o.getD (k+i) 0) rfl;rwa [Yab,Yad]at this);(have s2:(Zac ncd (o.set k (o.getD (k+i) 0)) 0).set (k+i) (.c (.int .i64 (o.getD k 0:Nat)))=Zac ncd (Zec o k (k+i)) 0:=by have:=Za8 ZbM (l:=o.set k (o.getD (k+i) 0)) (k:=k+i) (by rw[Y7];exact hoi) 0 0 Kb (.int .i64 (o.getD k 0:Nat)) (o.getD k 0) rfl;rwa [Yab,Yad]at this);(have l1:(Zac ncd o 0).length=n:=by rw[ZaF ZbM];omega);(have l2:(Zac ncd (o.set k (o.getD (k+i) 0)) 0).length=n:=by rw[ZaF ZbM,Y7];omega);have t1:(((k+i:Nat):Int)).toNat=k+i:=Yr _;have hsp:=ih (k+1) (Zec o k (k+i)) rest2 Kc (by rw[ZdK];exact ho);(have hsl:(Zec o k (k+i)).length=n:=by rw[ZdK];exact ho);(have hok':k<(Zec o k (k+i)).length:=by omega);(have hoi':k+i<(Zec o k (k+i)).length:=by omega);have hss:=ZqP hok hoi;refine vR ?_;(refine ZaS ?_;simp only[go_sem,hP,g1,g2,s1,s2,l1,l2,hI1,hI2,t1,YB,hkn,hki];(repeat'(refine And.intro ?_ ?_)));all_goals first
    |omega
    |skip
    clear g1 g2 s1 s2 l1 l2;generalize Zec o k (k+i)=o2 at*;(have g1:∀x,(Zac ncd o2 0).getD (k+i) x= .c (.int .i64 (o2.getD (k+i) 0:Nat)):=fun x=>by have:=ZbY ZbM hoi' 0 0 (d:=.int .i64 (o2[k+i]:Nat)) rfl x;rw[Yab,Yad]at this;rw[this];simp[hoi']);(have g2:∀x,(Zac ncd o2 0).getD k x= .c (.int .i64 (o2.getD k 0:Nat)):=fun x=>by have:=ZbY ZbM hok' 0 0 (d:=.int .i64 (o2[k]:Nat)) rfl x;rw[Yab,Yad]at this;rw[this];simp[hok']);(have s1:(Zac ncd o2 0).set k (.c (.int .i64 (o2.getD (k+i) 0:Nat)))=Zac ncd (o2.set k (o2.getD (k+i) 0)) 0:=by have:=Za8 ZbM hok' 0 0 Kb (.int .i64 (o2.getD (k+i) 0:Nat)) (o2.getD (k+i) 0) rfl;rwa [Yab,Yad]at this);(have s2:(Zac ncd (o2.set k (o2.getD (k+i) 0)) 0).set (k+i) (.c (.int .i64 (o2.getD k 0:Nat)))=Zac ncd o 0:=by have:=Za8 ZbM (l:=o2.set k (o2.getD (k+i) 0)) (k:=k+i) (by rw[Y7];exact hoi') 0 0 Kb (.int .i64 (o2.getD k 0:Nat)) (o2.getD k 0) rfl;rw[Yab,Yad]at this;rw[this];exact congrArg (fun z=>Zac ncd z 0) hss);(have l1:(Zac ncd o2 0).length=n:=by rw[ZaF ZbM];omega);have l2:(Zac ncd (o2.set k (o2.getD (k+i) 0)) 0).length=n:=by rw[ZaF ZbM,Y7];omega
    have hw6:=vw (n:=((k+i:Nat):Int)+1);all_goals
     refine vW hw1 ?_;refine Zah [1000,1001,1002,1003] hsp rfl rfl rfl Kb ?_ ?_ ?_
     ·simp only[go_sem,AV.lendL,AV.lend];rfl
     ·simp only[go_sem,Zar,Ob.lend,AV.lend,AV.lendL]
     ·rintro res l' ⟨rfl,rfl⟩;refine⟨_,_,rfl,(by simp only[Zap,Ob.back,AV.back,AV.backL,back_cellsG];rfl),?_⟩;simp only[go_sem,hP,Zae];refine vR ?_;(refine ZaS ?_;simp only[go_sem,hP,g1,g2,s1,s2,l1,l2,hI1,hI2,t1,YB,hkn,hki];(repeat'(refine And.intro ?_ ?_)));all_goals first
      |omega
      |skip
      all_goals
       refine vW hw6 ?_;refine⟨i+1,Kc,Kc,?_⟩;rw[hR];exact Zak
   ·(have h:i=f+1:=by simp at h;omega);subst h;rw[Zwh];(refine ZaO ?_;simp only[go_sem]);(refine vM1 ?_;refine⟨_,[.guest g rest,.box (Zac ncd o 0),.box [.vw 1 1001 0 n n],.box [.fn 259 [.c (.pt [.int .i64 (n:Int)]),.c (.pt [.raw g.fv]),.bp 1002 0,.bp 1003 0]]],rfl,Zab rfl rfl ?_ ?_ rfl,?_⟩);{exact vK};{simp only[go_sem,ZbL]};{exact⟨rfl,rfl⟩}
def ZfU(n i:Nat):List Nat:=List.range i++List.replicate (n-i) 0
def Zsd{n i:Nat}(h:i<=n):(ZfU n i).length=n:=by simp[ZfU];omega
def Zqi(n:Nat):(List.replicate n [iv 0]).flatten=Zac ncd (ZfU n 0) 0:=by(have:∀n,(List.replicate n [iv 0]).flatten=(Za4 ncd (List.replicate n 0)).map .c:=by(intro n;induction n with|zero=>rfl|succ n ih=>simp only[YP,YaC,ih,ZcN];rfl));rw[this];simp[Zac,ZfU]
def Zse{n i:Nat}(h:i<n):(ZfU n i).set i i=ZfU n (i+1):=by unfold ZfU;rw[YbO _ _ Kd,Ycp,Yb6];obtain⟨m,hm⟩:∃m,n-i=m+1:=⟨n-i-1,Kc⟩;rw[hm,YP,YbL,Ycd,YO,show n-(i+1)=m from by omega];rfl
def Zsc(n:Nat):ZfU n n=List.range n:=by simp[ZfU]
def orders76(n:Nat)(hn:n<=100)(g:Gst):Fl 238 [iv n,.c (.raw g.fv)] [.guest g ((Zf3 n).map Zui)] [] (fun res l'=>res= .tup []/\l'=[.guest g []]):=by have hmax:=vM;have hfr:=from85 n hn g n 0 (List.range n) [] Kc Kd;rw[Yas]at hfr;simp only[Zqk,ZnD]at hfr;refine vF ZCe.h fun C hP hN hC hL=>?_;simp only[ZCe,Zbj,ZaB,Yg,Ye,Nat.reduceAdd,];(refine ZgU ?_;refine vN ?_);refine Zeg 2 (ds:=[.int .i64 (n:Int)]) rfl rfl ?_;simp only[go_sem,Yat];refine Zeg 3 (ds:=[.raw g.fv]) rfl rfl ?_;simp only[go_sem,Yat];(repeat(refine vV ?_;(try simp only[go_sem,hP,Yr,Zqi]);refine vQ ?_));refine Zam ZAx [4,8] (fun i:Nat=>i<=n) (fun i=>n-i) (fun i=>[(11,iv i)]) (fun i=>[(4,.box [.vw 1 8 0 n n]),(8,.box (Zac ncd (ZfU n i) 0))]) 0 (YC _) ?_ ?_;{exact Zak};{intro i hi;simp only[go_sem];refine vR ?_;refine vC ?_ ?_<;>intro h;{(have hil:i<n:=by simpa using h);(have hI:(i:Int)<(n:Int):=by omega);have hw:=vw (n:=(i:Int)+1);have hfl:=Zsd hi;(have s1:(Zac ncd (ZfU n i) 0).set i (.c (.int .i64 (i:Nat)))=Zac ncd (ZfU n (i+1)) 0:=by have:=Za8 ZbM (l:=ZfU n i) (k:=i) Kc 0 0 Kb (.int .i64 (i:Nat)) i rfl;rwa [Yab,Yad,Zse hil]at this);(have l1:(Zac ncd (ZfU n i) 0).length=n:=by rw[ZaF ZbM];omega);(repeat(refine vV ?_;(try simp only[go_sem,hP,YB,hI,hw,s1,l1,hil]);refine vQ ?_));refine⟨i+1,Kc,Kc,?_⟩;exact Zak};{(have h:i=n:=by simp at h;omega);subst h;rw[Zsc];(refine ZaO ?_;simp only[go_sem]);refine vR ?_;refine Zah [1000,8,4,6] hfr rfl rfl rfl Kb ?_ ?_ ?_;{simp only[go_sem,AV.lendL,AV.lend];rfl};{simp only[go_sem,Zar,Ob.lend,AV.lend,AV.lendL,Zf3]};{rintro res l' ⟨rfl,rfl⟩;refine⟨_,_,rfl,(by simp only[Zap,Ob.back,AV.back,AV.backL,back_cellsG];rfl),?_⟩;simp only[go_sem,hP,Zae];(refine vM1 ?_;refine⟨_,[.guest g []],rfl,Zab rfl rfl ?_ ?_ rfl,?_⟩);{exact vK};{simp only[go_sem,ZbL]};{exact⟨rfl,rfl⟩}}}}
def ZCh:Cz [] 260:=ec
abbrev ZAz:List Nat:=[0,1,7]
def ZCg:Cz [] 240:=ec [(6,1792,[]),(11,57344,[])]
abbrev Zq7:List Nat:=[1,2,4,5,16,17]
abbrev Zq8:List Nat:=[1,4,5,34,35]
def IsOrd(n:Nat)(o:List Nat):Prop:=o.Perm (List.range n)
def IsOrd.len{n:Nat}{o:List Nat}(h:IsOrd n o):o.length=n:=by have:=h.length_eq;simpa using this
def IsOrd.lt{n:Nat}{o:List Nat}(h:IsOrd n o){k:Nat}(hk:k∈o):k<n:=Yaj.1 (h.mem_iff.1 hk)
def IsOrd.mem{n:Nat}{o:List Nat}(h:IsOrd n o){k:Nat}(hk:k<n):k∈o:=h.mem_iff.2 (Yaj.2 hk)
def Zm8(o:List Nat)(p:Pr):Pr:=⟨2*(o.idxOf (p.side.toNat/2):Int)+p.side % 2,p.time⟩
def ZqW(t:Tray)(o:List Nat):Tray:={t with recs:=o.map t.rc,pres:=t.pres.map (Zm8 o)}
def ZlN{t:Tray}{o:List Nat}(ho:IsOrd t.n o){p:Pr}(hp:0<=p.side/\p.side<2*(t.n:Int)):o.idxOf (p.side.toNat/2)<t.n/\p.side.toNat/2<t.n:=by(have h:p.side.toNat/2<t.n:=by omega);have:=List.idxOf_lt_length_of_mem (ho.mem h);rw[ho.len]at this;exact⟨this,h⟩
def ZwY{t:Tray}(ht:TrayOk t){o:List Nat}(ho:IsOrd t.n o):TrayOk (ZqW t o):=by(have hn:(ZqW t o).n=t.n:=by show(o.map t.rc).length=_;rw[Yc,ho.len]);refine⟨by rw[hn];exact ht.n1,by rw[hn];exact ht.n6,by rw[hn];exact ht.at_,ht.way,ht.step,fun r hr=>?_,fun p hp=>?_,by show(t.pres.map _).length<=13;rw[Yc];exact ht.p13⟩;{obtain⟨k,hk,rfl⟩:=Ys.1 hr;exact ZtB ht (ho.lt hk)};{obtain⟨q,hq,rfl⟩:=Ys.1 hp;have h1:=ht.pres q hq;have h2:=ZlN ho h1.1;rw[hn];refine⟨?_,h1.2⟩;simp only[Zm8];omega}
def Zvc{o:List Nat}{m k:Nat}(h:k<o.length):(o.drop k).idxOf m=if o[k]=m then 0 else(o.drop (k+1)).idxOf m+1:=by rw[Yan h,List.idxOf_cons];by_cases e:o[k]=m;{simp[e]};{(have:(o[k]==m)=false:=by simpa using e);rw[Yx e,this];rfl}
def Zyt(o:List Nat)(m:Nat)(ho:o.length<=1000)(hm:m∈o):Fq 260 [.c (ZgE o),iv m] (iv (o.idxOf m)):=by refine vE ZCh.h fun C hP hN hC hL=>?_;simp only[ZCh];(repeat(refine vV ?_;(try simp only[go_sem,hP,ZgE,Yc]);refine vQ ?_));(refine Zam ZAz [] (fun k:Nat=>k<=o.length/\(o.idxOf m=k+(o.drop k).idxOf m/\m∈o.drop k)) (fun k=>o.length-k) (fun k=>[(8,iv k)]) (fun _=>[]) 0 ⟨YC _,⟨Kd,by simpa using hm⟩⟩ ?_ ?_);{exact Zak};{intro k ⟨hk,hx,hmm⟩;simp only[go_sem];refine vR ?_;refine vC ?_ ?_<;>intro h;{(have h:k<o.length:=by simpa using h);(have hI:(k:Int)<(o.length:Int):=by omega);have hw2:=vw (n:=(k:Int)+1);rw[Zvc h]at hx;rw[Yan h]at hmm;(repeat(refine vV ?_;(try simp only[go_sem,hP,Zax h,hI,Yc,ncd,YB]);refine vQ ?_));(have hbe:((m:Int)==((o[k]:Nat):Int))=decide (o[k]=m):=by rw[Yaq];simp;omega);rw[hbe];by_cases hb:o[k]=m;{rw[Yt hb]at hx;rw[Yaa hb];refine vC ?_ ?_<;>intro h;{(refine vU ?_;try exact trivial);rw[hx];rfl};{simp at h}};{rw[Yx hb]at hx;rw[YaL hb];refine vC ?_ ?_<;>intro h;{simp at h};{refine vW hw2 ?_;refine⟨k+1,⟨Kc,Kc,?_⟩,Kc,?_⟩;{rcases YF.1 hmm with hmm|hmm;{exact absurd hmm.symm hb};{exact hmm}};{exact Zak}}}};{(have h:k=o.length:=by simp at h;omega);subst h;rw[Ycv]at hmm;cases hmm}}
def ZvL(l:List Nat):((l.map ncd).all fun e=>e.all CD.scal)=true:=by rw[Yn];intro e he;obtain⟨n,_,rfl⟩:=Ys.1 he;rfl
def ZvM(l:List Nat):((l.map ncd).all fun e=>e.length==1)=true:=by rw[Yn];intro e he;obtain⟨n,_,rfl⟩:=Ys.1 he;rfl
def Zi4(l:List Rec):((l.map Rec.cds).all fun e=>e.all CD.scal)=true:=by rw[Yn];intro e he;obtain⟨n,_,rfl⟩:=Ys.1 he;rfl
def Zv3(l:List Pr):((l.map Pr.cds).all fun e=>e.all CD.scal)=true:=by rw[Yn];intro e he;obtain⟨n,_,rfl⟩:=Ys.1 he;rfl
def ZuN(l:List Nat)(hlen:l.length<=1000):ZhI Tryz.prog 124 [.c (ZgE l)] (.c (ZgE l)):=by refine ZlC ir124.h (Yi _) Kb fun C hP hN hC hL=>?_;(have hmax:=vM;simp only[ir124,ZgE];cases l with|nil=>refine vR ?_;intro b;refine vR ?_;refine vC ?_ ?_<;>intro h;{refine vR ?_;(refine Zas ?_;simp only[Zaz,inQ,ZlI,Ze4,Zaq,ZbJ];simp only[go_sem,Zbu,AV.fport,AV.fportL,CD.scal,YU];refine And.intro (by((repeat'(first|exact ZeG|refine Zdr (fun cs h=>by cases h) ?_)))) ?_);exact AVle.nil 1};{refine vR ?_;(refine Zas ?_;simp only[Zaz,inQ,ZlI,Ze4,Zaq,ZbJ];simp only[go_sem,Zbu,AV.fport,AV.fportL,CD.scal,YU];refine And.intro (by((repeat'(first|exact ZeG|refine Zdr (fun cs h=>by cases h) ?_)))) ?_;(first|exact AVle.of rfl|refine AVle.of ?_|skip))}|cons a l=>simp only[Yo]at hlen;have hp:=ZvM (a::l);have hs:=ZvL (a::l);simp only[Ye]at hp hs;refine vR ?_;refine vC ?_ ?_<;>intro h;{cases h};{(repeat(refine vV ?_;(try simp only[go_sem,hP,hp,Yo]);refine vQ ?_));(refine Zas ?_;simp only[Zaz,inQ,ZlI,Ze4,Zaq,ZbJ];simp only[go_sem,Zbu,AV.fport,AV.fportL,CD.scal,YU,hs];refine And.intro (by((repeat'(first|exact ZeG|refine Zdr (fun cs h=>by cases h) ?_)))) ?_);exact AVle.refl _})
def Zjw{α:Type}(g:α->α)(l:List α)(k:Nat):List α:=(l.take k).map g++l.drop k
def ZvG{α:Type}(g:α->α)(l:List α)(k:Nat):(Zjw g l k).length=l.length:=by simp[Zjw];omega
def ZsO{α:Type}(g:α->α)(l:List α):Zjw g l 0=l:=by simp[Zjw]
def ZvF{α:Type}(g:α->α)(l:List α):Zjw g l l.length=l.map g:=by simp[Zjw]
def Zpe{α:Type}{g:α->α}{l:List α}{k:Nat}(h:k<l.length)(h':k<(Zjw g l k).length):(Zjw g l k)[k]=l[k]:=by(have hl:((l.take k).map g).length=k:=by simp;omega);(have h2:(Zjw g l k)[k]? =some l[k]:=by unfold Zjw;rw[Yau (by rw[hl];exact Yi _),hl,Yb6,Yaf,Yad,Yd h]);exact(Ym.1 h2).2
def ZvH{α:Type}{g:α->α}{l:List α}{k:Nat}(h:k<l.length):(Zjw g l k).set k (g l[k])=Zjw g l (k+1):=by(have hl:((l.take k).map g).length=k:=by simp;omega);unfold Zjw;rw[YbO _ _ (by rw[hl];exact Yi _),hl,Yb6,Yan h,YbL,Yq h,Yy];simp
def Ze0(t:Tray)(o:List Nat)(k:Nat):List Rec:=(o.take k).map t.rc
def ZgM(t:Tray){o:List Nat}{k:Nat}(h:k<o.length):Ze0 t o (k+1)=Ze0 t o k++[t.rc o[k]]:=by unfold Ze0;rw[Yq h,Yy];rfl
def Zi2(t:Tray)(o:List Nat):Ze0 t o o.length=o.map t.rc:=by unfold Ze0;rw[YL]
def Zi3(t:Tray)(o:List Nat)(k:Nat):(Ze0 t o k).length<=k:=by unfold Ze0;rw[Yc,Y4];omega
def arranged78{t:Tray}(ht:TrayOk t){o:List Nat}(ho:IsOrd t.n o):ZhI Tryz.prog 240 [t.av,.c (ZgE o)] (ZqW t o).av:=by have hmax:=vM;have hn6:=ht.n6;have hol:=ho.len;have h13:=ht.p13;refine ZlC ZCg.h (Yi _) Kb fun C hP hN hC hL=>?_;simp only[ZCg,Tray.av];refine vR ?_;by_cases hpn:t.pres=[];{refine ZaK (ZoG t.pres Kc) rfl rfl rfl rfl ?_;rintro res os (⟨rfl,rfl⟩|⟨-,rfl,rfl⟩);{refine⟨[900],.gr 900,[.grow 122 2 (t.pres.map Pr.cds)],Kb,rfl,by simp only[go_sem,Yb4],rfl,rfl,?_⟩;rw[hpn];simp only[go_sem,hP,Zae,Yg];refine vQ ?_;refine Zcp 5 0 30 166 2 Kb Kb Kb rfl rfl rfl ?_;simp only[go_sem];(repeat(refine vV ?_;(try simp only[go_sem,hP,ZgE,Yc]);refine vQ ?_));refine Zam Zq7 [5,29,30] (fun k:Nat=>k<=o.length) (fun k=>o.length-k) (fun k=>[(18,iv k)]) (fun k=>[(5,.box [.gr 30,iv t.at_,iv t.way,iv t.step,.gr 900]),(30,.grow 166 2 ((Ze0 t o k).map Rec.cds))]) 0 (YC _) ?_ ?_;{exact Zak};{intro k hk;simp only[go_sem];refine vR ?_;refine vC ?_ ?_<;>intro h;{(have hkl:k<o.length:=by simpa using h);(have hI:(k:Int)<(o.length:Int):=by omega);have hw:=vw (n:=(k:Int)+1);have hlt:=ho.lt (Yv hkl);have hlt':o[k]<t.recs.length:=hlt;(have hI2:((o[k]:Nat):Int)<(t.recs.length:Int):=by omega);(have hrc:t.rc o[k]=t.recs[o[k]]:=by unfold Tray.rc;simp[hlt']);have hsu:=ZgM t hkl;have hrl:=Zi3 t o k;(have e9:(Ze0 t o k).map Rec.cds++[[CD.int .i64 t.recs[o[k]].front,CD.int .i64 t.recs[o[k]].back]]=(Ze0 t o (k+1)).map Rec.cds:=by rw[hsu,hrc,Yy];rfl);(repeat(refine vV ?_;(try simp only[go_sem,hP,Zax hkl,hI,YB,ncd,ZaT,Yc,Zax hlt',hI2,Rec.cds,Zf7,hw,e9]);refine vQ ?_));refine⟨k+1,Kc,Kc,?_⟩;exact Zak};{(have h:k=o.length:=by simp at h;omega);subst h;rw[Zi2];(refine ZaO ?_;simp only[go_sem]);(repeat(refine vV ?_;(try simp only[go_sem,hP,YI,YbY]);refine vQ ?_));refine Zam Zq8 [] (fun _:Unit=>True) (fun _=>0) (fun _=>[(36,iv 0)]) (fun _=>[]) () trivial ?_ ?_;{exact Zak};{rintro - -;simp only[go_sem];refine vR ?_;refine vC ?_ ?_<;>intro h;{simp at h};{(refine ZaO ?_;simp only[go_sem]);refine vR ?_;have hrs:=Zi4 (o.map t.rc);(have hav:(ZqW t o).av= .agg [.c (.sl 2 ((o.map t.rc).map Rec.cds)),iv t.at_,iv t.way,iv t.step,.c (.sl 2 [])]:=by simp[Tray.av,ZqW,hpn,ZaT,Zbb]);(refine Zas ?_;simp only[Zaz,inQ,ZlI,Ze4,Zaq,ZbJ];simp only[go_sem,Zbu,AV.fport,AV.fportL,CD.scal,YU,hrs];refine And.intro (by((repeat'(first|exact ZeG|refine Zdr (fun cs h=>by cases h) ?_)))) ?_);exact AVle.agg (AVles.cons (AVle.refl _) (AVles.cons (AVle.refl _) (AVles.cons (AVle.refl _) (AVles.cons (AVle.refl _) (AVles.cons (AVle.of (by simp[ZqW,hpn,Zbb])) (AVles.refl _))))))}}}}};{refine⟨[],.c (.raw (.slice none 0 0)),[],Kb,rfl,by simp only[go_sem,Yb4],rfl,rfl,?_⟩;refine vO ?_;refine Zcp 5 0 30 166 2 Kb Kb Kb rfl rfl rfl ?_;simp only[go_sem];(repeat(refine vV ?_;(try simp only[go_sem,hP,ZgE,Yc]);refine vQ ?_));refine Zam Zq7 [5,29,30] (fun k:Nat=>k<=o.length) (fun k=>o.length-k) (fun k=>[(18,iv k)]) (fun k=>[(5,.box [.gr 30,iv t.at_,iv t.way,iv t.step,.c (.raw (.slice none 0 0))]),(30,.grow 166 2 ((Ze0 t o k).map Rec.cds))]) 0 (YC _) ?_ ?_;{exact Zak};{intro k hk;simp only[go_sem];refine vR ?_;refine vC ?_ ?_<;>intro h;{(have hkl:k<o.length:=by simpa using h);(have hI:(k:Int)<(o.length:Int):=by omega);have hw:=vw (n:=(k:Int)+1);have hlt:=ho.lt (Yv hkl);have hlt':o[k]<t.recs.length:=hlt;(have hI2:((o[k]:Nat):Int)<(t.recs.length:Int):=by omega);(have hrc:t.rc o[k]=t.recs[o[k]]:=by unfold Tray.rc;simp[hlt']);have hsu:=ZgM t hkl;have hrl:=Zi3 t o k;(have e9:(Ze0 t o k).map Rec.cds++[[CD.int .i64 t.recs[o[k]].front,CD.int .i64 t.recs[o[k]].back]]=(Ze0 t o (k+1)).map Rec.cds:=by rw[hsu,hrc,Yy];rfl);(repeat(refine vV ?_;(try simp only[go_sem,hP,Zax hkl,hI,YB,ncd,ZaT,Yc,Zax hlt',hI2,Rec.cds,Zf7,hw,e9]);refine vQ ?_));refine⟨k+1,Kc,Kc,?_⟩;exact Zak};{(have h:k=o.length:=by simp at h;omega);subst h;rw[Zi2];(refine ZaO ?_;simp only[go_sem]);(repeat(refine vV ?_;(try simp only[go_sem,hP,YI,YbY]);refine vQ ?_));refine Zam Zq8 [] (fun _:Unit=>True) (fun _=>0) (fun _=>[(36,iv 0)]) (fun _=>[]) () trivial ?_ ?_;{exact Zak};{rintro - -;simp only[go_sem];refine vR ?_;refine vC ?_ ?_<;>intro h;{simp at h};{(refine ZaO ?_;simp only[go_sem]);refine vR ?_;have hrs:=Zi4 (o.map t.rc);(have hav:(ZqW t o).av= .agg [.c (.sl 2 ((o.map t.rc).map Rec.cds)),iv t.at_,iv t.way,iv t.step,.c (.sl 2 [])]:=by simp[Tray.av,ZqW,hpn,ZaT,Zbb]);(refine Zas ?_;simp only[Zaz,inQ,ZlI,Ze4,Zaq,ZbJ];simp only[go_sem,Zbu,AV.fport,AV.fportL,CD.scal,YU,hrs];refine And.intro (by((repeat'(first|exact ZeG|refine Zdr (fun cs h=>by cases h) ?_)))) ?_);exact AVle.agg (AVles.cons (AVle.refl _) (AVles.cons (AVle.refl _) (AVles.cons (AVle.refl _) (AVles.cons (AVle.refl _) (AVles.cons (by rw[show(ZqW t o).pres=[] by simp[ZqW,hpn]];exact AVle.nil 2) (AVles.refl _))))))}}}}}};{refine ZaK (ZoH t.pres Kc hpn) rfl rfl rfl rfl ?_;rintro res os ⟨cap,J,h1,h2,h3,rfl,rfl⟩;refine⟨[900],.vw 2 900 0 t.pres.length cap,[.box (Zac Pr.cds t.pres J)],Kb,rfl,by simp only[go_sem,Yb4],rfl,(by simp only[Zap,Ob.back,back_cellsG];rfl),?_⟩;refine vO ?_;refine Zcp 5 0 30 166 2 Kb Kb Kb rfl rfl rfl ?_;simp only[go_sem];(repeat(refine vV ?_;(try simp only[go_sem,hP,ZgE,Yc]);refine vQ ?_));refine Zam Zq7 [5,29,30] (fun k:Nat=>k<=o.length) (fun k=>o.length-k) (fun k=>[(18,iv k)]) (fun k=>[(5,.box [.gr 30,iv t.at_,iv t.way,iv t.step,.vw 2 900 0 t.pres.length cap]),(30,.grow 166 2 ((Ze0 t o k).map Rec.cds))]) 0 (YC _) ?_ ?_;{exact Zak};{intro k hk;simp only[go_sem];refine vR ?_;refine vC ?_ ?_<;>intro h;{(have hkl:k<o.length:=by simpa using h);(have hI:(k:Int)<(o.length:Int):=by omega);have hw:=vw (n:=(k:Int)+1);have hlt:=ho.lt (Yv hkl);have hlt':o[k]<t.recs.length:=hlt;(have hI2:((o[k]:Nat):Int)<(t.recs.length:Int):=by omega);(have hrc:t.rc o[k]=t.recs[o[k]]:=by unfold Tray.rc;simp[hlt']);have hsu:=ZgM t hkl;have hrl:=Zi3 t o k;(have e9:(Ze0 t o k).map Rec.cds++[[CD.int .i64 t.recs[o[k]].front,CD.int .i64 t.recs[o[k]].back]]=(Ze0 t o (k+1)).map Rec.cds:=by rw[hsu,hrc,Yy];rfl);(repeat(refine vV ?_;(try simp only[go_sem,hP,Zax hkl,hI,YB,ncd,ZaT,Yc,Zax hlt',hI2,Rec.cds,Zf7,hw,e9]);refine vQ ?_));refine⟨k+1,Kc,Kc,?_⟩;exact Zak};{(have h:k=o.length:=by simp at h;omega);subst h;rw[Zi2];(refine ZaO ?_;simp only[go_sem]);refine vR ?_;refine Zam Zq8 [5,9,900] (fun k:Nat=>k<=t.pres.length) (fun k=>t.pres.length-k) (fun k=>[(36,iv k)]) (fun k=>[(5,.box [.gr 30,iv t.at_,iv t.way,iv t.step,.vw 2 900 0 t.pres.length cap]),(900,.box (Zac Pr.cds (Zjw (Zm8 o) t.pres k) J))]) 0 (YC _) ?_ ?_;{rw[ZsO];exact Zak};{intro k hk;have hml:=ZvG (Zm8 o) t.pres k;simp only[go_sem];refine vR ?_;refine vC ?_ ?_<;>intro h;{(have hkl:k<t.pres.length:=by simpa using h);(have hI:(k:Int)<(t.pres.length:Int):=by omega);have hw:=vw (n:=(k:Int)+1);(have hlk:k<(Zjw (Zm8 o) t.pres k).length:=by omega);have hge:=Zfd Zd6 hlk J;rw[Zpe hkl hlk]at hge;have hps:=(ht.pres _ (Yv hkl));have hidx:=ZlN ho hps.1;have hix:=Zyt o (t.pres[k].side.toNat/2) Kc (ho.mem hidx.2);have hset:=Za8 Zd6 hlk J 0 Kb (.int .i64 (2*(o.idxOf (t.pres[k].side.toNat/2):Int)+t.pres[k].side % 2)) (Zm8 o t.pres[k]) (by rw[Zpe hkl hlk];rfl);rw[Yad,ZvH hkl]at hset;(have hcl:(Zac Pr.cds (Zjw (Zm8 o) t.pres k) J).length=t.pres.length*2+J:=by rw[ZaF Zd6,hml]);(have hc1:k*2<(Zac Pr.cds (Zjw (Zm8 o) t.pres k) J).length:=by rw[hcl];omega);(have hc2:k*2+1<=(Zac Pr.cds (Zjw (Zm8 o) t.pres k) J).length:=by rw[hcl];omega);(have hc3:k*2+2<=(Zac Pr.cds (Zjw (Zm8 o) t.pres k) J).length:=by rw[hcl];omega);(have hq1:t.pres[k].side.tdiv 2=((t.pres[k].side.toNat/2:Nat):Int):=by rw[Ybl hps.1.1];omega);have hq2:t.pres[k].side.tmod 2=t.pres[k].side % 2:=Ybm hps.1.1;have hw1:=vw (n:=((t.pres[k].side.toNat/2:Nat):Int));have hw2:=vw (n:=t.pres[k].side % 2);have hw3:=vw (n:=2*(o.idxOf (t.pres[k].side.toNat/2):Int));have hw4:=vw (n:=2*(o.idxOf (t.pres[k].side.toNat/2):Int)+t.pres[k].side % 2);clear hidx;generalize t.pres[k]=p at*;generalize Zjw (Zm8 o) t.pres k=M1 at*;generalize hM2:Zjw (Zm8 o) t.pres (k+1)=M2 at*;generalize o.idxOf (p.side.toNat/2)=I at*;generalize p.side.toNat/2=m at*;(repeat(refine vV ?_;(try simp only[go_sem,hP,hI,YB,hge,hc3,Pr.cds,Ye,Yg,hq1,hw1]);refine vQ ?_));refine ZaM hix rfl rfl rfl rfl rfl ?_;simp only[go_sem,hP,hw3,hq2,hw2,hw4,hset,hc1,hc2,hI,YB];refine vQ ?_;refine vW hw ?_;refine⟨k+1,Kc,Kc,?_⟩;rw[hM2];exact Zak};{(have h:k=t.pres.length:=by simp at h;omega);subst h;rw[ZvF];(refine ZaO ?_;simp only[go_sem]);refine vR ?_;have hrs:=Zi4 (o.map t.rc);have hps:=Zv3 (t.pres.map (Zm8 o));(have hel:∀own:Nat->Ob,own 900= .box (Zac Pr.cds (t.pres.map (Zm8 o)) J)->AV.elemsV own (.vw 2 900 0 t.pres.length cap)=some (2,(t.pres.map (Zm8 o)).map Pr.cds):=fun own h=>by have:=ZfS Zd6 own 900 (t.pres.map (Zm8 o)) J cap h;rwa [Yc]at this);(refine Zas ?_;simp only[Zaz,inQ,ZlI,Ze4,Zaq,ZbJ];simp only[go_sem,Zbu,AV.fport,AV.fportL,CD.scal,YU,hrs,hel,hps];refine And.intro (by((repeat'(first|exact ZeG|refine Zdr (fun cs h=>by cases h) ?_)))) ?_);exact AVle.of rfl}}}}}
def ZCf:Cz [] 239:=ec
def ZCb:Cz [] 218:=ec [(3,8,[.b [0] [.l [1,2,3],.l [2,1,3]]])]
def Zvt:Cz [] 191:=ec
def Zio{α:Type}{cds:α->List CD}{m:Nat}(hm:∀a,(cds a).length=m)(own:Nat->Ob)(n:Nat)(l:List α)(j cap:Nat)(h:own n= .win (Zac cds l j)):AV.elemsV own (.vw m n 0 l.length cap)=some (m,l.map cds):=by(have h2:(Zac cds l j).take (l.length*m)=(Za4 cds l).map .c:=by rw[Zfe hm];simp[Zac]);(have h3:((Za4 cds l).map AV.c).mapM (AV.toCD own)=some (Za4 cds l):=by(induction Za4 cds l with|nil=>rfl|cons a t ih=>simp only[Ye,Yao,AV.toCD,Yaw,YS,Ya8,ih]));simp only[AV.elemsV,h,Ob.cellsR,YaH,Yat,h2,h3,YR];rw[Yt (by rw[ZaF hm];omega)];have:=ZeM hm l;rw[YG (by rw[Zcs hm];exact Yi _)]at this;rw[this]
def ZoO(t:Tray)(o:List Nat):Int:=(Zbl (ZqW t o)).end_
def Zdb(t:Tray)(s:Int×Option (List Nat))(o:List Nat):Int×Option (List Nat):=if s.1<0\/ZoO t o<s.1 then(ZoO t o,some o)else s
def Zfc(t:Tray)(l:List (List Nat)):Int×Option (List Nat):=l.foldl (Zdb t) (-1,none)
def ZjM(t:Tray)(l:List (List Nat))(o:List Nat):Zfc t (l++[o])=Zdb t (Zfc t l) o:=by unfold Zfc;rw[YaO];rfl
def ZyW:Option (List Nat)->AV
 |none=> .c (.raw (.slice none 0 0))
 |some o=> .c (ZgE o)
def ZlO(s:Int×Option (List Nat)):List Ob:=[.box [iv s.1],.box [ZyW s.2]]
def best77{t:Tray}(ht:TrayOk t){o:List Nat}(ho:IsOrd t.n o)(s:Int×Option (List Nat)):
  Fl 239 [.vw 1 2000 0 o.length o.length,.c (.pt t.cds),.bp 1000 0,.bp 1001 0] (ZlO s) [Zac ncd o 0] (fun res l'=>res= .tup []/\l'=ZlO (Zdb t s o)):=by have hn6:=ht.n6;have hol:=ho.len;have har:=arranged78 ht ho;have hgo:=ZjS (ZwY ht ho);have hend:(Zbl (ZqW t o)).end_=ZoO t o:=rfl;obtain⟨m,so⟩:=s;generalize hA:ZyW so=A;simp only[ZlO,hA];refine vF ZCf.h fun C hP hN hC hL=>?_;simp only[ZCf,Zbj,ZaB,Yg,Ye,Nat.reduceAdd,];(repeat(refine vV ?_;(try simp only[go_sem,hP,Tray.cds,Yo,YI,Ye,Yg]);refine vQ ?_));refine Zoh har rfl rfl rfl ?_ rfl ?_;{simp only[go_sem,AV.vportL,AV.vport,Y8,Yaz];rw[Zio ZbM _ 2000 o 0 o.length rfl];rfl};simp only[go_sem,hP];refine vR ?_;(refine Zal (hgo) ?_;simp only[go_sem,hP,Cs.run,hend];refine vQ ?_;(repeat(refine vV ?_;(try simp only[go_sem,hP,Cs.run,hend]);refine vQ ?_)));by_cases hc:m<0\/ZoO t o<m;{(have hst:Zdb t (m,so) o=(ZoO t o,some o):=by unfold Zdb;rw[Yt hc]);(have hb:(decide (m<0)||decide (ZoO t o<m))=true:=by simpa using hc);rw[hb,hst];refine vC ?_ ?_<;>intro h;rotate_left;{simp at h};refine vR ?_;refine Zoh (ZuN o Kc) rfl rfl rfl ?_ rfl ?_;{simp only[go_sem,AV.vportL,AV.vport];rw[Zio ZbM _ 2000 o 0 o.length rfl];rfl};simp only[go_sem,hP];refine vR ?_;(refine vM1 ?_;refine⟨_,[.box [iv (ZoO t o)],.box [.c (ZgE o)]],rfl,Zab rfl rfl ?_ ?_ rfl,?_⟩);{exact vK};{simp only[go_sem,ZbL]};{exact⟨rfl,rfl⟩}};{(have hst:Zdb t (m,so) o=(m,so):=by unfold Zdb;rw[Yx hc]);(have hb:(decide (m<0)||decide (ZoO t o<m))=false:=by simpa using hc);rw[hb,hst];refine vC ?_ ?_<;>intro h;{simp at h};refine Zbq ?_;(refine vM1 ?_;refine⟨_,[.box [iv m],.box [A]],rfl,Zab rfl rfl ?_ ?_ rfl,?_⟩);{rw[<-hA];cases so<;>simp only[go_sem,Zag,Ob.keepP,AV.keepP,AV.keepPL,ZyW]};{simp only[go_sem,ZbL]};{refine⟨rfl,?_⟩;rw[<-hA]}}
def Zwy{n:Nat}{o:List Nat}(h:IsOrd n o){i j:Nat}(hi:i<n)(hj:j<n):IsOrd n (Zec o i j):=by have hl:=h.len;(have hi':i<o.length:=by omega);(have hj':j<o.length:=by omega);(have e:Zec o i j=(o.set i o[j]).set j o[i]:=by unfold Zec;simp[hi',hj']);rw[e];exact(List.set_set_perm hi' hj').trans h
def ZmC{n:Nat}:∀(f:Nat)(o:List Nat),f<=n->IsOrd n o->∀x∈Ze6 n f o,IsOrd n x
 |0,o,_,h,x,hx=>by simp only[Ze6,Yk]at hx;subst hx;exact h
 |f+1,o,hf,h,x,hx=>by simp only[Ze6]at hx;obtain⟨j,hj,hx⟩:=Ya7.1 hx;have hj:=Yaj.1 hj;exact ZmC f _ Kc (Zwy h Kc Kc) x hx
def Zj7{n:Nat}{o:List Nat}(h:o∈Zf3 n):IsOrd n o:=ZmC n _ (Yi _) (YcZ _) o h
def Znk(t:Tray)(l:List (List Nat)):(Zfc t l=(-1,none))\/∃o,Zfc t l=(ZoO t o,some o)/\o∈l:=by(suffices h:∀(m pre:List (List Nat)),l=pre++m->((Zfc t pre=(-1,none))\/∃o,Zfc t pre=(ZoO t o,some o)/\o∈l)->(Zfc t l=(-1,none))\/∃o,Zfc t l=(ZoO t o,some o)/\o∈l from h l [] rfl (.inl rfl));(intro m;induction m with|nil=>intro pre hp hh;rw[hp,Yas]at*;exact hh|cons a m ih=>intro pre hp hh;refine ih (pre++[a]) (by rw[hp];simp) ?_;rw[ZjM];unfold Zdb;split;{exact .inr ⟨a,rfl,by rw[hp];simp⟩};{exact hh})
def Zjk(t:Tray):Int×Option (List Nat):=Zfc t (Zf3 t.n)
def ZAW:Option (List Nat)->AV
 |none=> .c (ZgE [])
 |some o=> .c (ZgE o)
def best63{t:Tray}(ht:TrayOk t):Fq 218 [t.av] (.tup [ZAW (Zjk t).2,iv (Zjk t).1]):=by
 have hn6:=ht.n6;refine vE ZCb.h fun C hP hN hC hL=>?_;simp only[ZCb,Tray.av];(refine ZgU ?_;refine vN ?_);refine Zeg 1 (ds:=t.cds) rfl rfl ?_;simp only[go_sem,Yat];refine Zat (ZgT ?_);simp only[go_sem,hP];refine Zat (ZgT ?_);simp only[go_sem,hP,Tray.cds,ZaT,Yc];have hnl:t.recs.length=t.n:=rfl;have hid:IsOrd t.n (List.range t.n):=YcZ _;refine ZxB [3,2] [iv t.n] [] (l:=ZlO (Zfc t [])) (lf:=ZlO (Zfc t (Zf3 t.n))) (rem:=(Zf3 t.n).map Zui) (r:=.tup []) (fun g=>orders76 t.n Kc g) rfl rfl rfl Kb Kb rfl (by simp only[go_sem,AV.lendL,AV.lend];rfl) rfl rfl (by simp only[go_sem,Zar,Ob.lend,AV.lend,AV.lendL];rfl) (best77 ht hid (0,none)).1 ?_ rfl ?_;{refine Zrc Zui (fun pre=>ZlO (Zfc t pre)) (Zf3 t.n) (fun pre=>?_) (fun o _=>rfl) (fun pre o post hts=>?_) (Zf3 t.n) [] rfl;{cases h:(Zfc t pre).2<;>simp[ZlO,ZyW,h,Ob.solid]<;>exact⟨rfl,rfl⟩};{have ho:IsOrd t.n o:=Zj7 (by rw[hts];simp);have:=best77 ht ho (Zfc t pre);simp only[ZjM];exact this}}
 ·refine⟨[.box [iv (Zjk t).1],.box [ZyW (Zjk t).2]],?_,rfl,?_⟩;{show Zap [3,2] (ZlO (Zjk t))=_;generalize Zjk t=S;obtain⟨m,so⟩:=S;cases so<;>rfl}
  ·generalize Zjk t=S;obtain⟨m,so⟩:=S;cases so with
   |none=>
    simp only[go_sem,hP,Zae,ZyW];refine vR ?_;(refine ZaS ?_;simp only[go_sem,hP];(repeat'(refine And.intro ?_ ?_)));all_goals
     refine vR ?_;(refine Zas ?_;simp only[Zaz,inQ,ZfE,Zcb,Zaq,ZbJ];simp only[go_sem,Zbu,AV.port,AV.portL,YU]);exact AVle.tup (AVles.cons (AVle.nil 1) (AVles.refl _))
   |some o=>
    simp only[go_sem,hP,Zae,ZyW];refine vR ?_;(refine ZaS ?_;simp only[go_sem,hP];(repeat'(refine And.intro ?_ ?_)));all_goals
     (refine vU ?_;try exact trivial)
def ZmZ(t:Tray):Int×Int:=if Za7 t=0 then((Zjk t).1,0)else(0,Za7 t)
def ZtZ(t:Tray):Fq 191 [t.av] (.tup [iv (ZmZ t).1,iv (ZmZ t).2]):=by
 have hck:=ZiO t;unfold ZmZ;by_cases h0:Za7 t=0
 ·rw[Yt h0];rw[h0]at hck;have hgo:=best63 (Tray.ok_spec (ZbZ h0).1).1;generalize Zjk t=S at*;obtain⟨m,so⟩:=S;cases so;all_goals(
   simp only[ZAW]at hgo;refine vE Zvt.h fun C hP hN hC hL=>?_
   simp only[Zvt,Tray.av];refine vR ?_;(refine Zal (hck) ?_;refine vS1 ?_);refine vC ?_ ?_<;>intro h
   ·simp at h
   ·refine vR ?_;(refine Zal (hgo) ?_;refine vS1 ?_);(refine vT ?_;try exact trivial))
 ·rw[Yx h0];have hb:(Za7 t !=0)=true:=by simpa using h0
  refine vE Zvt.h fun C hP hN hC hL=>?_
  simp only[Zvt,Tray.av];refine vR ?_;(refine Zal (hck) ?_;simp only[go_sem,hP,Tray.av,hb];refine vQ ?_;(repeat(refine vV ?_;(try simp only[go_sem,hP,Tray.av,hb]);refine vQ ?_)));refine vC ?_ ?_<;>intro h
  ·exact vUt
  ·simp at h
def ZB5:Cz [] 190:=ec [(1,411648,[])]
def Zvx(b:Bar)(x y:Int):Fl 190 [.bp 1000 0,.c (Zai [x,y])] [.box b.avs] [] (fun r l'=>r= .tup [.c (Zai [(Zc0 b.tray x y).1]),iv (Zc0 b.tray x y).2]/\l'=[.box b.avs]):=by have h:=latest26 b.tray x y;simp only[Tray.av]at h;generalize Zc0 b.tray x y=R at h|-;obtain⟨n,e⟩:=R;have h1:=Zj3 n e;have g0:([[CD.int .i64 x],[CD.int .i64 y]].getD (Int.toNat 0) []).getD 0 default=CD.int .i64 x:=rfl;have g1:([[CD.int .i64 x],[CD.int .i64 y]].getD (Int.toNat 1) []).getD 0 default=CD.int .i64 y:=rfl;refine vF ZB5.h fun C hP hN hC hL=>?_;simp only[ZB5,Zbj,ZaB,Yg,Ye,Nat.reduceAdd,];simp only[Bar.avs];(repeat(refine vV ?_;(try simp only[go_sem,hP,Zai,Ye,Yg,Yo,YI,g0,g1]);refine vQ ?_));(refine Zal (h) ?_;refine vS ?_);(refine Zal (h1) ?_;refine vS ?_);(refine vL ?_;refine⟨_,[.box b.avs],rfl,Zab rfl rfl ?_ ?_ rfl,?_⟩);{unfold Bar.avs;simp only[go_sem,Zag,Ob.keepP,AV.keepP,AV.keepPL];first|done|rfl};{trivial};{exact⟨rfl,rfl⟩}
def ZBj{n:Int}(h:-1000000000<=n/\n<=1000000000):i64 n:=by unfold i64;omega
def ZoC{b:Bx}(h:bxB b=true):(∀n∈Zek b,0<=n/\n<=2000):=fun n hn=>by unfold Zek at hn;rw[Zfv,YbK,Ys]at hn;obtain⟨e,he,rfl⟩:=hn;obtain⟨he,hbag⟩:=Ybj.1 he;have hb:=Zbc h;have hA:=Zke hb (ZiT b hb);have h6:=((Zjd hb.wh hA).2.1 e he).1;have h1:=h6.bo;have h5:=hA.m;have h7:=h6.a;have h8:=h6.b;have h9:=h6.c;have h10:=h6.d;simp only[Pt.bag,Bag.many]at h1;omega
def ZwJ(b:Bx):∀(k:Nat),k<=4->∀n∈Zea b k,0<=n/\n<=4:=fun k hk n hn=>by unfold Zea at hn;obtain⟨i,hi,rfl⟩:=Ys.1 hn;have:=Yaj.1 (Ybj.1 hi).1;omega
def ZzC{b:Bx}(h:bxB b=true):-10000<=(ZmU b).1/\(ZmU b).1<=10000:=by have hpl:=(Zbc h).pl;unfold ZmU;split;{rename_i n hn;have:=ZoC h n (Yap hn);simp only;omega};{simp}
def Zwq{b:Bx}(h:bxB b=true):-10000<=Zd8 b/\Zd8 b<=10000:=by have hpl:=(Zbc h).pl;have:=ZnN (ZoC h) (ZrO h) _ (Yi _);unfold Zd8;omega
def ZvX{w:Wh}{pl:Int}{l:List Int}:-10000<=(Zdj w pl l).1/\(Zdj w pl l).1<=10000:=by unfold Zdj;split;{rename_i h1;(have hb:whB w=true/\Zeb w pl l=true:=by unfold Za1 at h1;split at h1;{split at h1;{rename_i a b;exact⟨a,b⟩};{cases h1}};{cases h1});have hw:=ZdL hb.1;have hb2:=hb.2;simp only[Zeb,Zrr,Zad,Yf,Yl]at hb2;have hok:=Zel hw hb2.2.2 l.length (Yi _);rw[YL]at hok;have:=Zdk hw (p:=pl) (c:=Zdy w l) hok.1;simp only;omega};{simp}
def ZyM{b:Bx}:0<=(Zcu b).1/\(Zcu b).1<=5600:=by unfold Zcu;split;{rename_i h;split;{simp};{rename_i h2;have hb:=Zbc h;have hl:0<(fndAll b).length:=YaJ.2 h2;have hp:PurOk b ((fndAll b).getD 0 []):=Zmh _ (by rw[Yb,Yd hl];exact Yv hl);exact Zd5 hb.wh hp.len (Zto hp)}};{simp}
def ZrP{b:Bx}(h:bxB b=true):(0<=ZaD b.wh b.fo/\ZaD b.wh b.fo<=5600)/\(0<=ZaD b.wh b.ma/\ZaD b.wh b.ma<=5600)/\(0<=ZaD b.wh b.sl/\ZaD b.wh b.sl<=5600):=by have hb:=Zbc h;have q:=h;simp only[bxB,Yf]at q;obtain⟨⟨⟨⟨⟨⟨⟨_,_⟩,_⟩,h4⟩,h5⟩,h6⟩,_⟩,_⟩:=q;have a:=ZaI h4;have c:=ZaI h5;have d:=ZaI h6;refine⟨Zd5 hb.wh (by rw[a.1];exact Yi _) fun n hn=>?_,Zd5 hb.wh (by rw[c.1];exact Yi _) fun n hn=>?_,Zd5 hb.wh (by rw[d.1];exact Yi _) fun n hn=>?_⟩;{have:=a.2 n hn;omega};{have:=c.2 n hn;omega};{have:=d.2 n hn;omega}
def ZB2:Cz [] 187:=ec [(1,51456,[])]
def ZB4:Cz [] 189:=ec [(1,16384,[.l [0,1,2,3,4,5,6,7,12,8,9,10,11,13,14]])]
def ZDb(b:Bar)(k:Int):Fl 187 [.bp 1000 0,.c (Zai [k])] [.box b.avs] [] (fun r l'=>r= .tup [.c (Zai [(Zhj b.tray k).1]),iv (Zhj b.tray k).2]/\l'=[.box b.avs]):=by have h:=ZDa b.tray k;simp only[Tray.av]at h;have h1:=Zj3 (Zhj b.tray k).1 (Zhj b.tray k).2;refine vF ZB2.h fun C hP hN hC hL=>?_;simp only[ZB2,Zbj,ZaB,Yg,Ye,Nat.reduceAdd,];simp only[Bar.avs];(repeat(refine vV ?_;(try simp only[go_sem,hP,Zai,Ye,Yg]);refine vQ ?_));(refine Zal (h) ?_;refine vS ?_);(refine Zal (h1) ?_;refine vS ?_);(refine vL ?_;refine⟨_,[.box b.avs],rfl,Zab rfl rfl ?_ ?_ rfl,?_⟩);{unfold Bar.avs;simp only[go_sem,Zag,Ob.keepP,AV.keepP,AV.keepPL];rfl};{trivial};{exact⟨rfl,rfl⟩}
def ZGh(b:Bar)(x:Int):Fl 189 [.bp 1000 0,.c (Zai [x])] [.box b.avs] [] (fun r l'=>r= .tup [.c (Zai [(Zce b.tray x).1.at_,(Zce b.tray x).1.way,(Zce b.tray x).1.side]),iv (Zce b.tray x).2]/\l'=[.box b.avs]):=by have h:=stand21 b.tray x;simp only[Tray.av,ZF8]at h;refine vF ZB4.h fun C hP hN hC hL=>?_;simp only[ZB4,Zbj,ZaB,Yg,Ye,Nat.reduceAdd,];simp only[Bar.avs];(repeat(refine vV ?_;(try simp only[go_sem,hP,Zai,Ye,Yg]);refine vQ ?_));(refine ZaM (h) rfl rfl rfl rfl rfl ?_;refine vS ?_);(refine vL ?_;refine⟨_,[.box b.avs],rfl,Zab rfl rfl ?_ ?_ rfl,?_⟩);{unfold Bar.avs;simp only[go_sem,Zag,Ob.keepP,AV.keepP,AV.keepPL];rfl};{trivial};{exact⟨rfl,rfl⟩}
noncomputable def Znj(f:Nat)(cap:Option Nat)(b:Bar)(ns:List Int):List Int×Int:=
 if f=184 then([b.pl,b.cr],0)else if f=185 then([(Zdj b.box.wh b.pl ns).1],(Zdj b.box.wh b.pl ns).2)
 else if f=186 then([(ZcC b.box.wh (ns.getD 0 0)).1],(ZcC b.box.wh (ns.getD 0 0)).2)
 else if f=187 then([(Zhj b.tray (ns.getD 0 0)).1],(Zhj b.tray (ns.getD 0 0)).2)
 else if f=189 then([(Zce b.tray (ns.getD 0 0)).1.at_,(Zce b.tray (ns.getD 0 0)).1.way,(Zce b.tray (ns.getD 0 0)).1.side],(Zce b.tray (ns.getD 0 0)).2)
 else if f=190 then([(Zc0 b.tray (ns.getD 0 0) (ns.getD 1 0)).1],(Zc0 b.tray (ns.getD 0 0) (ns.getD 1 0)).2)
 else if f=192 then([ZaD b.box.wh b.box.fo-ZaD b.box.wh b.box.ma,ZaD b.box.wh b.box.ma,ZaD b.box.wh b.box.sl],0)
 else if cap=some 0 then([(Zdf b.tray).1],(Zdf b.tray).2)
 else if cap=some 1 then([(Zr2 b.tray).1],(Zr2 b.tray).2)
 else if cap=some 2 then([(ZmZ b.tray).1],(ZmZ b.tray).2)
 else if cap=some 3 then(Zek b.box,0)
 else if cap=some 4 then([(Zcu b.box).1],(Zcu b.box).2)
 else if cap=some 5 then((Zku b.box).1,(Zku b.box).2)
 else if cap=some 6 then([(ZmU b.box).1],(ZmU b.box).2)
 else([Zd8 b.box],0)
def ZyE{b:Bar}(hB:Za5 b=true){s w:List UInt8}{ns:List Int}{e:Wd}(hs:s.length<=1000)(hp:ZaA s=some (w,ns))(hw:Za9 w=some e)(ht:e.t=204)(hl2:(Znj e.f e.cap b ns).1.length<=10000)(hr:∀n∈(Znj e.f e.cap b ns).1,i64 n):ZeW tb b s (Zjh (Znj e.f e.cap b ns).1 (Znj e.f e.cap b ns).2,b):=by have hb:=ZfI hB;(have hbx:bxB b.box=true:=by unfold Za5 at hB;simp only[Yf]at hB;exact hB.1);have hm:=ZdD hw;have hl:=Zj6 hp hw;(have one:(ns.length:Int)=1->∃x,ns=[x]:=fun h=>by(match ns,h with|[x],_=>exact⟨x,rfl⟩|[],h=>simp at h|a::c::l,h=>simp at h;omega));simp only[Ze3,YF,Yag,Ybt,Yj]at hm;rcases hm with h|h|h|h|h|h|h|h|h|h|h|h|h|h|h|h|h|h|h|h|h|h;(all_goals(obtain⟨_,rfl⟩:=h));(all_goals(first|(exfalso;revert ht;decide)|skip));{exact ZdR hb hs hp hw hl2 hr (ZzI b (Zai ns))};{exact ZdR hb hs hp hw hl2 hr (Zyj b ns)};{obtain⟨x,rfl⟩:=one hl;exact ZdR hb hs hp hw hl2 hr (Zp9 b x)};{obtain⟨x,rfl⟩:=one hl;exact ZdR hb hs hp hw hl2 hr (ZDb b x)};{exact Zde hb hs hp (i:=0) Kc hw hl2 hr fun q=>Znv (longest49 b.tray) (Zai ns)};{exact Zde hb hs hp (i:=1) Kc hw hl2 hr fun q=>Znv (ZDI b.tray) (Zai ns)};{obtain⟨x,rfl⟩:=one hl;exact ZdR hb hs hp hw hl2 hr (ZGh b x)};{(match ns,hl with|[x,y],_=>exact ZdR hb hs hp hw hl2 hr (Zvx b x y)|[],hl=>simp at hl|[x],hl=>simp at hl|a::c::d::l,hl=>simp at hl;omega)};{exact Zde hb hs hp (i:=2) Kc hw hl2 hr fun q=>Znv (ZtZ b.tray) (Zai ns)};{exact ZdR hb hs hp hw hl2 hr (ZAV hbx ns)};{exact Zde hb hs hp (i:=3) Kc hw hl2 hr fun q=>ZrW (ZAT hbx) (Zai ns)};{exact Zde hb hs hp (i:=4) Kc hw hl2 hr fun q=>Znw (ZsT b.box) (Zai ns)};{exact Zde hb hs hp (i:=5) Kc hw hl2 hr fun q=>ZrW (ZzV hbx) (Zai ns)};{exact Zde hb hs hp (i:=6) Kc hw hl2 hr fun q=>Znw (ZtX hbx) (Zai ns)};{exact Zde hb hs hp (i:=7) Kc hw hl2 hr fun q=>Znw (Zwp hbx) (Zai ns)}
noncomputable def Zao(b:Bar)(s:List UInt8):List UInt8×Bar:=match ZaA s with
 |none=>(ZwI,b)
 |some (w,ns)=>match Za9 w with
  |none=>(ZwI,b)
  |some e=>if e.t=204 then(Zjh (Znj e.f e.cap b ns).1 (Znj e.f e.cap b ns).2,b)else Zg9 b (Zm9 e.f b ns)
def ZxE(b:Bar)(s:List UInt8):Prop:=∀w ns e,ZaA s=some (w,ns)->Za9 w=some e->e.t=204->(Znj e.f e.cap b ns).1.length<=10000/\∀n∈(Znj e.f e.cap b ns).1,i64 n
def ZyD{b:Bar}(hB:Za5 b=true){s:List UInt8}(hs:s.length<=1000)(hr:ZxE b s):ZeW tb b s (Zao b s):=by(unfold Zao;cases hp:ZaA s with|none=>exact ZvA hs hp|some p=>(obtain⟨w,ns⟩:=p;simp only;cases hw:Za9 w with|none=>exfalso;unfold ZaA at hp;split at hp;{cases hp};{rename_i w' args _;split at hp;{cases hp};{rename_i e' he;split at hp;{cases hp;rw[hw]at he;cases he};{cases hp}}}|some e=>simp only;by_cases ht:e.t=204;{rw[Yt ht];have:=hr w ns e hp hw ht;exact ZyE hB hs hp hw ht this.1 this.2};{rw[Yx ht];have hm:=ZdD hw;(have h3:e.t=206:=by simp only[Ze3,YF,Yag,Ybt,Yj]at hm;rcases hm with h|h|h|h|h|h|h|h|h|h|h|h|h|h|h|h|h|h|h|h|h|h;(all_goals(obtain⟨_,rfl⟩:=h));all_goals(first|rfl|(exfalso;exact ht rfl)));exact Zqs hB hs hp hw h3}))
def Zhu{b:Bar}(hB:Za5 b=true)(s:List UInt8):Za5 (Zao b s).2=true:=by unfold Zao;split;{exact hB};{split;{exact hB};{split;{exact hB};{unfold Zg9;split;{exact hB};{split;{rename_i h;exact h};{exact hB}}}}}
def Zlr{b:Bar}(hB:Za5 b=true)(l:List (List UInt8)):∀k:Nat,k<=l.length->Za5 (ZaU Zao b (l.take k)).2=true
 |0,_=>by simpa [ZaU]using hB
 |k+1,h=>by rw[Zga Zao b (show k<l.length from h)];exact Zhu (Zlr hB l k Kc) _
def ZsH{b:Bar}(hB:Za5 b=true){l:List (List UInt8)}(hs:∀s∈l,s.length<=1000)(hA:∀b s,Za5 b=true->ZxE b s):∀k,k<l.length->ZeW tb (ZaU Zao b (l.take k)).2 (l.getD k []) (Zao (ZaU Zao b (l.take k)).2 (l.getD k [])):=fun k hk=>by(have hm:l.getD k []∈l:=by rw[Yb,Yd hk];exact Yv hk);exact ZyD (Zlr hB l k Kc) (hs _ hm) (hA _ _ (Zlr hB l k Kc))
def Zdl{x:Int}{a:Sp}(h:x<a.from_):∀(l:List Sp)(o:Sp),standG x o (l++[a])=standG x o l
 |[],o=>by simp[standG,h]
 |s::l,o=>by simp only[YH,standG];split;{rfl};{exact Zdl h l s}
def ZeU{x:Int}{a:Sp}(h:a.from_<=x):∀(l:List Sp)(o:Sp),(∀e∈l,e.from_<=x)->standG x o (l++[a])=a
 |[],o,_=>by simp only[YM,standG];rw[Yx Kc]
 |s::l,o,hl=>by simp only[YH,standG];rw[Yx (by have:=hl s Kd;omega)];exact ZeU h l s fun e he=>hl e (by simp[he])
def playing(t:Tray)(l:List Pr)(x:Int):Int:=l.foldl (fun w p=>if p.time<=x/\x<p.time+secsI t p.side then p.side else w) (-1)
def Zg3(t:Tray)(l:List Pr)(p:Pr)(x:Int):playing t (l++[p]) x=if p.time<=x/\x<p.time+secsI t p.side then p.side else playing t l x:=by unfold playing;rw[YaO];rfl
def Zey{t:Tray}{l:List Pr}{x:Int}(h:∀p∈l,p.time+secsI t p.side<=x):playing t l x= -1:=by(unfold playing;generalize hw:(-1:Int)=w;clear hw;induction l generalizing w with|nil=>rfl|cons p l ih=>rw[Yav,Yx (by have:=h p Kd;omega)];exact ih (fun q hq=>h q (by simp[hq])) w)
structure Shows(t:Tray)(s:Cs)(x:Int)(e:Sp):Prop where
 at_:∃(k:Nat)(up:Bool),k<t.n/\e.at_=(k:Int)/\e.way=wayI up/\(e.side= -1\/e.side=(sideAt k up:Int))
 before:x<s.now->e.side=playing t s.plays x
 now:s.now<=x->e.side= -1/\e.at_=(s.at_:Int)/\e.way=wayI s.up
structure Stands(t:Tray)(s:Cs):Prop where
 inv:Inv t s
 le:∀e∈s.spells,e.from_<=s.now
 shows:∀(o:Sp)(x:Int),0<=x->Shows t s x (standG x o s.spells)
def Stands.next{t:Tray}{s:Cs}(ht:TrayOk t)(hs:s.at_<t.n)(hp:∀p∈s.plays,p.time+secsI t p.side<=s.now)(h1:∀e∈s.spells,e.from_<=s.now)(h:∀(o:Sp)(x:Int),0<=x->Shows t s x (standG x o s.spells)):
  (∀e∈(s.next t).spells,e.from_<=(s.next t).now)/\∀(o:Sp)(x:Int),0<=x->Shows t (s.next t) x (standG x o (s.next t).spells):=by obtain⟨m1,m2,m3,m4,m5⟩:=ZjZ t s;obtain⟨n1,n2,n3,n4⟩:=Zhw ht.step.1 s;have hat:=(Zpi (t:=t) hs).2;(have es:(s.next t).spells=s.spells++[⟨((s.move t).at_:Int),wayI (s.move t).up,-1,(s.move t).now⟩]:=by show(s.move t).spells++_=_;rw[m4]);have en:(s.next t).now=(s.move t).now:=rfl;have ep:(s.next t).plays=s.plays:=m3;rw[es,en];refine⟨fun e he=>?_,fun o x hx=>?_⟩;{rcases YD.1 he with he|he;{have:=h1 e he;omega};{simp only[Yk]at he;subst he;exact Yar _}};{by_cases hc:x<(s.move t).now;{rw[Zdl (by exact hc)];have hh:=h o x hx;refine⟨hh.at_,fun _=>?_,fun hc2=>by rw[en]at hc2;omega⟩;rw[ep];by_cases hc2:x<s.now;{exact hh.before hc2};{rw[(hh.now Kc).1,Zey fun p hpm=>by have:=hp p hpm;omega]}};{rw[ZeU (by simp only;omega) _ _ fun e he=>by have:=h1 e he;omega];exact⟨⟨(s.move t).at_,(s.move t).up,hat,rfl,rfl,.inl rfl⟩,fun hc2=>by rw[en]at hc2;omega,fun _=>⟨rfl,rfl,rfl⟩⟩}}
def Stands.act1{t:Tray}(ht:TrayOk t){s s':Cs}(hs:CsOk t s)(hpr:Zee s)(h:Stands t s)(e:s.act1 t=some s'):Stands t s':=by
 have hi:=h.inv.act1 ht hs hpr e;have hpl:=fun p hp=>(h.inv.ply p hp).2.2.2
 rcases ZeH e with⟨p,q,hq,hpins,rfl⟩|⟨hpins,rfl⟩
 ·have hnow:=hpr p (by rw[hq];simp);refine⟨hi,fun e he=>by have:=h.le e he;simp only;omega,fun o x hx=>?_⟩;have hh:=h.shows o x hx;refine⟨hh.at_,fun hc=>?_,fun hc=>hh.now (by simp only at hc;omega)⟩;by_cases hc2:x<s.now
  ·exact hh.before hc2
  ·show(standG x o s.spells).side=playing t s.plays x;rw[(hh.now Kc).1,Zey fun p hpm=>by have:=hpl p hpm;omega]
 ·by_cases hp:s.pins.getD s.pos false=true
  ·have hpos:=Zj9 hs;have hsec:=Zd0 ht hpos;have hnow:=hs.now;have hsI:secsI t ((s.pos:Nat):Int)=Zi9 t s.pos:=by unfold secsI;rw[Yr]
   have ep:s.play t=(s.play1).play2 t:=by unfold Cs.play;rw[Yt hp]
   obtain⟨p1,p2,p3,p4,p5,p6⟩:=Zlh (t:=t) hp;have ea:(s.play t).at_=s.at_/\(s.play t).up=s.up:=⟨(Zcv t s).2.2.1,(Zcv t s).2.2.2⟩;have es:(s.play t).spells=s.spells++[⟨s.at_,wayI s.up,s.pos,s.now⟩]++[⟨s.at_,wayI s.up,-1,s.now+Zi9 t s.pos⟩]:=by rw[ep];rfl
   have hk:=Stands.next (s:=s.play t) ht (by rw [ea.1]; exact hs.at_) (fun x hx =>by
    rw[p3]at hx;rw[p4];rcases YD.1 hx with hx|hx
    ·have:=hpl x hx;omega
    ·simp only[Yk]at hx;subst hx;simp only[hsI];omega) (fun e he=>by
    rw[es]at he;rw[p4];rcases YD.1 he with he|he
    ·rcases YD.1 he with he|he
     ·have:=h.le e he;omega
     ·simp only[Yk]at he;subst he;simp only;omega
    ·simp only[Yk]at he;subst he;simp only;omega) (fun o x hx=>by
    rw[es];by_cases hc:x<s.now+Zi9 t s.pos
    ·rw[Zdl (by exact hc)];by_cases hc2:x<s.now
     ·rw[Zdl (by exact hc2)];have hh:=h.shows o x hx;refine⟨hh.at_,fun _=>?_,fun hc3=>by rw[p4]at hc3;omega⟩;rw[p3,Zg3,Yx (by simp only;omega)];exact hh.before hc2
     ·rw[ZeU (by simp only;omega) _ _ fun e he=>by have:=h.le e he;omega];refine⟨⟨s.at_,s.up,hs.at_,rfl,rfl,.inr rfl⟩,fun _=>?_,fun hc3=>by rw[p4]at hc3;omega⟩;rw[p3,Zg3,Yt (by simp only[hsI];omega)]
    ·rw [ZeU (by simp only; omega) _ _ fun e he =>by
      rcases YD.1 he with he|he
      ·have:=h.le e he;omega
      ·simp only[Yk]at he;subst he;simp only;omega]
     exact⟨⟨s.at_,s.up,hs.at_,rfl,rfl,.inl rfl⟩,fun hc3=>by rw[p4]at hc3;omega,fun _=>⟨rfl,by rw[ea.1],by rw[ea.2]⟩⟩)
   exact⟨hi,hk.1,hk.2⟩
  ·rw[ZnR hp]at hi|-;have hk:=Stands.next (s:=s) ht hs.at_ hpl h.le h.shows
   exact⟨hi,hk.1,hk.2⟩
def ZCR{t:Tray}(ht:TrayOk t){q:List Pr}(hq:q.Perm t.pres)(hqs:q.Pairwise fun a b=>a.time<=b.time):Stands t (Za3 t q):=by
 obtain⟨k,_,h,_,_,_⟩:=Zhq ht hq hqs (fun _ s =>Stands t s) (by
  refine⟨Inv.start hq,fun e he=>?_,fun o x hx=>?_⟩
  ·have he:e∈[(⟨t.at_.toNat,wayI (t.way==1),-1,0⟩:Sp)]:=he;simp only[Yk]at he;subst he;exact Yar _
  ·have es:((start t q).mark (-1)).spells=[⟨t.at_.toNat,wayI (t.way==1),-1,0⟩]:=rfl;have hat:=ht.at_;rw[es];have:standG x o [(⟨t.at_.toNat,wayI (t.way==1),-1,0⟩:Sp)]=⟨t.at_.toNat,wayI (t.way==1),-1,0⟩:=by simp only[standG];rw[Yx Kc]
   rw[this];exact⟨⟨t.at_.toNat,t.way==1,Kc,rfl,rfl,.inl rfl⟩,fun hc=>by have:x<0:=hc;omega,fun _=>⟨rfl,rfl,rfl⟩⟩)
  (fun k s hs h=>⟨h.inv.press ht hs,h.le,fun o x hx=>⟨(h.shows o x hx).at_,(h.shows o x hx).before,(h.shows o x hx).now⟩⟩)
  (fun k s s' hs hpr h e=>h.act1 ht hs hpr e)
 exact h
def Zoa{t:Tray}(ht:TrayOk t){x:Int}(hx:0<=x):(∃(k:Nat)(up:Bool),k<t.n/\(Zko t x).at_=(k:Int)/\(Zko t x).way=wayI up/\(playing t (ZaC t) x= -1\/playing t (ZaC t) x=(sideAt k up:Int)))/\(Zko t x).side=playing t (ZaC t) x:=by have h:=ZCR ht (ZcP t.pres) (Zcx t.pres);have hh:=h.shows ((Zbl t).spells.headD default) x hx;(have he:(Zko t x).side=playing t (ZaC t) x:=by by_cases hc:x<(Zbl t).now;{exact hh.before hc};{rw[show playing t (ZaC t) x= -1 from Zey fun p hp=>by have:=(h.inv.ply p hp).2.2.2;have hc:¬x<(Za3 t (Ze2 t.pres)).now:=hc;omega];exact(hh.now (by have hc:¬x<(Za3 t (Ze2 t.pres)).now:=hc;omega)).1});obtain⟨k,up,h1,h2,h3,h4⟩:=hh.at_;refine⟨⟨k,up,h1,h2,h3,?_⟩,he⟩;rw[<-he];exact h4
def Zxs{t:Tray}(ht:TrayOk t):∀k,k<=t.n->ZAa t k<=1998*k
 |0,_=>by simp[ZAa]
 |k+1,hk=>by have:=Zxs ht k Kc;have:=ZtB ht (k:=k) Kc;simp only[ZAa];omega
def ZzT{t:Tray}(ht:TrayOk t){k:Int}(hk:inR t k=true):0<=ZqT t k/\ZqT t k<=100000:=by obtain⟨j,hj,_,_,h3,h4,_⟩:=ZdJ ht hk;have h1:=ZqU ht hk;have h2:=ZtM ht;have h5:=Zxs ht t.n (Yi _);have hn:=ht.n6;have hst:=ht.step;have h6:2*t.step*((t.n:Int)-1)<=2*60*5:=YcY Kc Kc (by have:=ht.n1;omega) Kc;refine⟨Kc,Kc⟩
def Zsp{w:Wh}{n:Int}:∀t:Nat,Zom w n t->∃u,u<=t/\Zom w n u/\∀v,v<u->¬Zom w n v:=fun t=>by(induction t using Nat.strongRecOn with|_ t ih=>intro h;by_cases hc:∃v,v<t/\Zom w n v;{obtain⟨v,hv,hh⟩:=hc;obtain⟨u,hu,h1,h2⟩:=ih v hv hh;exact⟨u,Kc,h1,h2⟩};{exact⟨t,Yi _,h,fun v hv hh=>hc ⟨v,hv,hh⟩⟩})
def ZuJ(w:Wh)(n:Int):0<=(ZcC w n).1/\(ZcC w n).1<=400000:=by unfold ZcC;split;{rename_i h1;(have hb:whB w=true/\Zad n 1 20=true:=by unfold Za1 at h1;split at h1;{split at h1;{rename_i a b;exact⟨a,b⟩};{cases h1}};{cases h1});(have hn:1<=n/\n<=20:=by simpa [Zad]using hb.2);split;{simp};{rename_i h2;have h2':=Ydb.1 h2;obtain⟨t,ht,hh⟩:=Zo0 (ZdL hb.1) hn h2'.2 h2'.1;obtain⟨u,hu,h3,h4⟩:=Zsp t hh;rw[ZlU h3 h4];simp only;omega}};{simp}
def Zxa{t:Tray}(ht:TrayOk t):0<=(Zbl t).end_/\(Zbl t).end_<=1000000:=by(have hg:=Ziv ht;have he:=hg.inv.end_;have hno:=hg.now;cases hl:(Zbl t).plays.getLast? with|none=>rw[hl]at he;simp only at he;omega|some x=>have hm:=List.mem_of_getLast? hl;have hp:=hg.inv.ply x hm;have hs:=Zd0 ht (s:=x.side.toNat) Kc;rw[hl]at he;have h4:=hp.2.2.2;simp only at he;unfold secsI at h4 he;omega)
def ZwF(t:Tray)(k:Int):0<=(Zhj t k).1/\(Zhj t k).1<=100000:=by unfold Zhj;split;{rename_i h;obtain⟨h1,h2,_⟩:=Zjb h;exact ZzT (Tray.ok_spec h1).1 h2};{simp}
def Zpc(f:Nat->Int):∀k:Nat,0<=(Zfn f k).1/\(Zfn f k).1<=k
 |0=>by simp[Zfn]
 |k+1=>by have:=Zpc f k;simp only[Zfn];split;{simp only;omega};{omega}
def ZvB(t:Tray):0<=(Zdf t).1/\(Zdf t).1<=100:=by unfold Zdf;split;{rename_i h;have h1:=(Tray.ok_spec (ZbZ h).1).1.p13;have:=Zpc (ZjB t) t.pres.length;simp only;omega};{simp}
def Zyc(t:Tray):0<=(Zr2 t).1/\(Zr2 t).1<=1000000:=by unfold Zr2;split;{rename_i h;exact Zxa (Tray.ok_spec (ZbZ h).1).1};{simp}
def ZzU(u:Bool):-1<=wayI u/\wayI u<=1:=by cases u<;>decide
def Zwv(t:Tray)(x:Int):(-1<=(Zce t x).1.at_/\(Zce t x).1.at_<=100)/\(-1<=(Zce t x).1.way/\(Zce t x).1.way<=1)/\(-1<=(Zce t x).1.side/\(Zce t x).1.side<=100):=by unfold Zce;split;{rename_i hok;split;{rename_i hx;(have hx':0<=x/\x<=9999:=by simpa [Zb3,Zad]using hx);have ht:=(Tray.ok_spec hok).1;obtain⟨⟨k,up,h1,h2,h3,h4⟩,h5⟩:=Zoa ht hx'.1;have hn:=ht.n6;have hw:=ZzU up;simp only;rw[h2,h3,h5];refine⟨Kc,hw,?_⟩;rcases h4 with h4|h4;{omega};{rw[h4];unfold sideAt;split<;>omega}};{simp}};{simp}
def ZjU(f:Int->Bool):∀k:Nat,0<=(Zdp f k).1/\(Zdp f k).1<=k
 |0=>by simp[Zdp]
 |k+1=>by have:=ZjU f k;simp only[Zdp];split;{simp only;omega};{omega}
def ZsA(t:Tray)(s b:Int):0<=(Zc0 t s b).1/\(Zc0 t s b).1<=10000:=by unfold Zc0;split;{split;{rename_i h;simp only[Yf]at h;(have hx':0<=b/\b<=9999:=by simpa [Zb3,Zad]using h.2);have:=ZjU (fun x=>decide (Zgc t ⟨s,x⟩<=b)) (b+1).toNat;omega};{simp}};{simp}
def ZzE(t:Tray):-1<=(ZmZ t).1/\(ZmZ t).1<=1000000:=by unfold ZmZ;split;{rename_i h;have ht:=(Tray.ok_spec (ZbZ h).1).1;simp only;unfold Zjk;rcases Znk t (Zf3 t.n)with h1|⟨o,h1,h2⟩;{rw[h1];simp};{rw[h1];have:=Zxa (ZwY ht (Zj7 h2));show-1<=ZoO t o/\ZoO t o<=1000000;unfold ZoO;omega}};{simp}
def Zle:∀(N:Nat)(l:List Int),l.Nodup->(∀n∈l,0<=n/\n<N)->l.length<=N
 |0,l,_,h=>by(cases l with|nil=>simp|cons a l=>have:=h a Kd;omega)
 |N+1,l,hd,h=>by by_cases hm:(N:Int)∈l;{(have h1:=Zle N (l.erase (N:Int)) (hd.erase _) fun n hn=>by have h2:=(List.Nodup.mem_erase_iff hd).1 hn;have:=h n h2.2;have h3:=h2.1;omega);rw[List.length_erase_of_mem hm]at h1;omega};{(have:=Zle N l hd fun n hn=>by have:=h n hn;have h3:n≠(N:Int):=fun e=>hm (e▸hn);omega);omega}
def ZrN{b:Bx}(h:bxB b=true):(Zek b).length<=2001:=by(have hd:(Zek b).Nodup:=by unfold Zek srt;exact(List.mergeSort_perm _ _).symm.nodup (ZgH _ _ (Yi _)));(have:=Zle 2001 (Zek b) hd fun n hn=>by have:=ZoC h n hn;omega);omega
def Ze5{n:Int}(h:-999999999<=n/\n<=999999999){e:Int}:(([n],e):List Int×Int).1.length<=10000/\∀x∈(([n],e):List Int×Int).1,-999999999<=x/\x<=999999999:=⟨Kd,fun x hx=>by rw[Yk]at hx;subst hx;exact h⟩
def ZpD{n m k:Int}(h:-999999999<=n/\n<=999999999)(h2:-999999999<=m/\m<=999999999)(h3:-999999999<=k/\k<=999999999){e:Int}:(([n,m,k],e):List Int×Int).1.length<=10000/\∀x∈(([n,m,k],e):List Int×Int).1,-999999999<=x/\x<=999999999:=⟨Kd,fun x hx=>by
 simp only[YF,Yag,Ybt]at hx;rcases hx with rfl|rfl|rfl
 ·exact h
 ·exact h2
 ·exact h3⟩
def SmP(r:List Int×Int):Prop:=r.1.length<=10000/\∀n∈r.1,-999999999<=n/\n<=999999999
def Zbt{α:Type}{c:Prop}[Decidable c]{a b:α}{P:α->Prop}(h1:P a)(h2:P b):P (if c then a else b):=by split<;>assumption
def ZwZ{b:Bar}(hB:Za5 b=true)(f:Nat)(cap:Option Nat)(ns:List Int):(Znj f cap b ns).1.length<=10000/\∀n∈(Znj f cap b ns).1,-999999999<=n/\n<=999999999:=by(have hbx:bxB b.box=true:=by unfold Za5 at hB;simp only[Yf]at hB;exact hB.1);have hbo:=Zbc hbx;(have hsm:0<=b.pl/\b.pl<b.box.wh.ro/\0<=b.cr/\b.cr<=20:=by unfold Za5 at hB;simp only[Yf,Yl]at hB;exact hB.2.2);have hro:=hbo.wh.ro;(show SmP (Znj f cap b ns);unfold Znj;refine Zbt (P:=SmP) ?_ ?_);{refine⟨Kd,fun x hx=>?_⟩;simp only[YF,Yag,Ybt]at hx;rcases hx with rfl|rfl<;>omega};refine Zbt (P:=SmP) ?_ ?_;{exact Ze5 (by have:=@ZvX b.box.wh b.pl ns;omega)};refine Zbt (P:=SmP) ?_ ?_;{exact Ze5 (by have:=ZuJ b.box.wh (ns.getD 0 0);omega)};refine Zbt (P:=SmP) ?_ ?_;{exact Ze5 (by have:=ZwF b.tray (ns.getD 0 0);omega)};refine Zbt (P:=SmP) ?_ ?_;{have:=Zwv b.tray (ns.getD 0 0);exact ZpD Kc Kc Kc};refine Zbt (P:=SmP) ?_ ?_;{exact Ze5 (by have:=ZsA b.tray (ns.getD 0 0) (ns.getD 1 0);omega)};refine Zbt (P:=SmP) ?_ ?_;{have:=ZrP hbx;exact ZpD Kc Kc Kc};refine Zbt (P:=SmP) ?_ ?_;{exact Ze5 (by have:=ZvB b.tray;omega)};refine Zbt (P:=SmP) ?_ ?_;{exact Ze5 (by have:=Zyc b.tray;omega)};refine Zbt (P:=SmP) ?_ ?_;{exact Ze5 (by have:=ZzE b.tray;omega)};refine Zbt (P:=SmP) ?_ ?_;{exact⟨by have:=ZrN hbx;simp only;omega,fun x hx=>by have:=ZoC hbx x hx;omega⟩};refine Zbt (P:=SmP) ?_ ?_;{exact Ze5 (by have:=@ZyM b.box;omega)};refine Zbt (P:=SmP) ?_ ?_;{unfold Zku SmP;split;{simp};{have hcl:=hbo.wh.cl;refine⟨?_,fun x hx=>by have:=ZwJ b.box _ hcl x hx;omega⟩;unfold Zea;rw[Yc];exact YaP (Ycs _ _) (by rw[Ycp];omega)}};refine Zbt (P:=SmP) ?_ ?_;{exact Ze5 (by have:=ZzC hbx;omega)};{exact Ze5 (by have:=Zwq hbx;omega)}
def ZAJ{b:Bar}(hB:Za5 b=true)(s:List UInt8):ZxE b s:=fun w ns e _ _ _=>⟨(ZwZ hB e.f e.cap ns).1,fun n hn=>ZBj (by have:=(ZwZ hB e.f e.cap ns).2 n hn;omega)⟩
def ZeL(F:Bar->List UInt8->List UInt8×Bar):∀(l:List (List UInt8))(a:List (List UInt8))(b:Bar),l.foldl (fun st s=>(st.1++[(F st.2 s).1],(F st.2 s).2)) (a,b)=(a++(ZaU F b l).1,(ZaU F b l).2)
 |[],a,b=>by simp[ZaU]
 |s::l,a,b=>by have h1:=ZeL F l (a++[(F b s).1]) (F b s).2;have h2:=ZeL F l [(F b s).1] (F b s).2;have h3:ZaU F b (s::l)=l.foldl (fun st s=>(st.1++[(F st.2 s).1],(F st.2 s).2)) ([(F b s).1],(F b s).2):=rfl;rw[Yav,h3,h2];simp only;rw[h1,YO]
def ZbC(F:Bar->List UInt8->List UInt8×Bar)(b:Bar)(s:List UInt8)(l:List (List UInt8)):ZaU F b (s::l)=((F b s).1::(ZaU F (F b s).2 l).1,(ZaU F (F b s).2 l).2):=by have h3:ZaU F b (s::l)=l.foldl (fun st s=>(st.1++[(F st.2 s).1],(F st.2 s).2)) ([(F b s).1],(F b s).2):=rfl;rw[h3,ZeL];rfl
def ZeS(F:Bar->List UInt8->List UInt8×Bar)(b:Bar):ZaU F b []=([],b):=rfl
def ZdZ(F:Bar->List UInt8->List UInt8×Bar)(b:Bar)(l m:List (List UInt8)):ZaU F b (l++m)=((ZaU F b l).1++(ZaU F (ZaU F b l).2 m).1,(ZaU F (ZaU F b l).2 m).2):=by(have:ZaU F b (l++m)=m.foldl (fun st s=>(st.1++[(F st.2 s).1],(F st.2 s).2)) (ZaU F b l):=by unfold ZaU;rw[YaO]);rw[this];exact ZeL F m _ _
def Zc3(F:Bar->List UInt8->List UInt8×Bar)(b:Bar)(l:List (List UInt8)):(ZaU F b l).1.length=l.length:=by have:=ZhD F b l l.length (Yi _);rwa [YL]at this
def ZdY{b:Bar}(hB:Za5 b=true)(l:List (List UInt8)):Za5 (ZaU Zao b l).2=true:=by have:=Zlr hB l l.length (Yi _);rwa [YL]at this
def Zqu:List UInt8:=[108,111,115,101]
def ZmV:List UInt8:=[115,107,105,112,115]
def ZbQ:List UInt8:=[101,109,112,116,121]
def Zz1(w:List UInt8):Bool:=w==Zmb||(w==ZnM||(w==ZmX||(w==Zkc||(w==Zqu||(w==ZmV||w==ZbQ)))))
def Zfm(s:List UInt8):Bool:=match ZaA s with
 |some (w,_)=>Zz1 w
 |none=>false
def ZrT{w:List UInt8}{e:Wd}(hw:Za9 w=some e)(ht:e.t=206)(b:Bar)(ns:List Int):(w=Zmb/\Zm9 e.f b ns=ZeR 0 b (ns.getD 0 0))\/(w=ZnM/\Zm9 e.f b ns=ZeR 1 b (ns.getD 0 0))\/(w=ZmX/\Zm9 e.f b ns=ZeR 2 b (ns.getD 0 0))\/(w=Zkc/\Zm9 e.f b ns=ZcD b (ns.getD 0 0) (ns.getD 1 0))\/(w=Zqu/\Zm9 e.f b ns=Zer b (ns.getD 0 0))\/(w=ZmV/\Zm9 e.f b ns=some (Zkk b (ns.getD 0 0)))\/(w=ZbQ/\Zm9 e.f b ns=Zb2 b):=by have hm:=ZdD hw;simp only[Ze3,YF,Yag,Ybt,Yj]at hm;rcases hm with h|h|h|h|h|h|h|h|h|h|h|h|h|h|h|h|h|h|h|h|h|h;(all_goals(obtain⟨rfl,rfl⟩:=h));(all_goals(first|(exfalso;revert ht;decide)|skip));{exact .inl ⟨rfl,rfl⟩};{exact .inr (.inl ⟨rfl,rfl⟩)};{exact .inr (.inr (.inl ⟨rfl,rfl⟩))};{exact .inr (.inr (.inr (.inl ⟨rfl,rfl⟩)))};{exact .inr (.inr (.inr (.inr (.inl ⟨rfl,rfl⟩))))};{exact .inr (.inr (.inr (.inr (.inr (.inl ⟨rfl,rfl⟩)))))};{exact .inr (.inr (.inr (.inr (.inr (.inr ⟨rfl,rfl⟩)))))}
def ZuM{w:List UInt8}{e:Wd}(hw:Za9 w=some e):Zz1 w=decide (e.t≠204):=by have hm:=ZdD hw;simp only[Ze3,YF,Yag,Ybt,Yj]at hm;rcases hm with h|h|h|h|h|h|h|h|h|h|h|h|h|h|h|h|h|h|h|h|h|h;all_goals(obtain⟨rfl,rfl⟩:=h;rfl)
def ZwB{w:List UInt8}{e:Wd}(hw:Za9 w=some e)(h:e.t≠204):e.t=206:=by have hm:=ZdD hw;simp only[Ze3,YF,Yag,Ybt,Yj]at hm;rcases hm with h|h|h|h|h|h|h|h|h|h|h|h|h|h|h|h|h|h|h|h|h|h;(all_goals(obtain⟨_,rfl⟩:=h));all_goals(first|rfl|(exfalso;exact h rfl))
def Chg(b:Bar)(s:List UInt8)(b':Bar):Prop:=∃w ns,ZaA s=some (w,ns)/\((w=Zmb/\ZeR 0 b (ns.getD 0 0)=some b')\/(w=ZnM/\ZeR 1 b (ns.getD 0 0)=some b')\/(w=ZmX/\ZeR 2 b (ns.getD 0 0)=some b')\/(w=Zkc/\ZcD b (ns.getD 0 0) (ns.getD 1 0)=some b')\/(w=Zqu/\Zer b (ns.getD 0 0)=some b')\/(w=ZmV/\Zkk b (ns.getD 0 0)=b')\/(w=ZbQ/\Zb2 b=some b'))
def ZnQ{s w:List UInt8}{ns:List Int}(h:ZaA s=some (w,ns)):∃e,Za9 w=some e:=by unfold ZaA at h;split at h;{cases h};{split at h;{cases h};{rename_i e he;split at h;{cases h;exact⟨e,he⟩};{cases h}}}
def ZdS(b:Bar)(s:List UInt8):((Zao b s).2=b/\(Zfm s=true->(Zao b s).1=noS))\/(Zfm s=true/\(Zao b s).1=Zgl/\Za5 (Zao b s).2=true/\Chg b s (Zao b s).2):=by(cases hp:ZaA s with|none=>(have h1:Zfm s=false:=by unfold Zfm;rw[hp]);left;unfold Zao;rw[hp];exact⟨rfl,fun h=>by rw[h1]at h;cases h⟩|some p=>obtain⟨w,ns⟩:=p;obtain⟨e,he⟩:=ZnQ hp;(have h1:Zfm s=decide (e.t≠204):=by unfold Zfm;rw[hp];exact ZuM he);(have e0:Zao b s=if e.t=204 then(Zjh (Znj e.f e.cap b ns).1 (Znj e.f e.cap b ns).2,b)else Zg9 b (Zm9 e.f b ns):=by unfold Zao;rw[hp];simp only[he]);rw[e0,h1];by_cases ht:e.t=204;{left;rw[Yt ht];exact⟨rfl,fun h=>absurd ht (YY h)⟩};{(rw[Yx ht];have h3:=ZrT he (ZwB he ht) b ns;cases hc:Zm9 e.f b ns with|none=>left;exact⟨rfl,fun _=>rfl⟩|some b'=>simp only[Zg9];by_cases hB:Za5 b'=true;{rw[Yt hB];right;refine⟨Yaa ht,rfl,hB,w,ns,hp,?_⟩;rw[hc]at h3;rcases h3 with⟨h,h'⟩|⟨h,h'⟩|⟨h,h'⟩|⟨h,h'⟩|⟨h,h'⟩|⟨h,h'⟩|⟨h,h'⟩;{exact .inl ⟨h,h'.symm⟩};{exact .inr (.inl ⟨h,h'.symm⟩)};{exact .inr (.inr (.inl ⟨h,h'.symm⟩))};{exact .inr (.inr (.inr (.inl ⟨h,h'.symm⟩)))};{exact .inr (.inr (.inr (.inr (.inl ⟨h,h'.symm⟩))))};{exact .inr (.inr (.inr (.inr (.inr (.inl ⟨h,(YQ h').symm⟩)))))};{exact .inr (.inr (.inr (.inr (.inr (.inr ⟨h,h'.symm⟩)))))}};{rw[Yx hB];left;exact⟨rfl,fun _=>rfl⟩})})
def Zob:∀(l:List Int)(k:Nat)(x:Int),k<l.length->(l.set k x).sum=l.sum-l.getD k 0+x
 |a::l,0,x,_=>by simp;omega
 |a::l,k+1,x,h=>by have:=Zob l k x (by simpa using h);simp only[Yce,YaF,Yak,this];omega
 |[],k,x,h=>by simp at h
def Zwx(n:Nat):(List.replicate n (0:Int)).sum=0:=by(induction n with|zero=>rfl|succ n ih=>rw[YP,YaF,ih];rfl)
def Zkq{l:List Int}(h:∀n∈l,0<=n):0<=l.sum:=by(induction l with|nil=>simp|cons a l ih=>rw[YaF];have:=h a Kd;have:=ih fun n hn=>h n (by simp[hn]);omega)
def Zzz{l:List Int}{k:Nat}(h:¬k<l.length)(x:Int):l.set k x=l:=List.set_eq_of_length_le Kc
def ZrF(c:Bool)(l:List Int)(k:Nat):l.sum<=(bmp c l k).sum/\(bmp c l k).sum<=l.sum+(if c then 1 else 0):=by unfold bmp;cases c;{simp};{simp only[YJ];by_cases h:k<l.length;{rw[Zob _ _ _ h];omega};{rw[Zzz h];omega}}
def ZiX{t:Nat}{b b':Bar}{k:Int}(h:ZeR t b k=some b'):ZeY b'.box<=ZeY b.box+1/\b'.box.fo.length=b.box.fo.length:=by unfold ZeR at h;split at h;{cases h;have h1:=ZrF (t !=2) b.box.fo k.toNat;have h2:=ZrF (t==2) b.box.sl k.toNat;refine⟨?_,ZhV _ _ _⟩;(show(bmp (t !=2) b.box.fo k.toNat).sum+(bmp (t==2) b.box.sl k.toNat).sum<=b.box.fo.sum+b.box.sl.sum+1;by_cases ht:t=2);{subst ht;simp at h1 h2|-;omega};{(have e1:(t==2)=false:=by simpa using ht);(have e2:(t !=2)=true:=by simpa using ht);rw[e1]at h2;rw[e2]at h1;rw[e1,e2];simp at h1 h2;omega}};{cases h}
def ZxY{b:Bar}(hB:Za5 b=true):(∀n∈b.box.fo,0<=n)/\(∀n∈b.box.sl,0<=n):=by(have q:bxB b.box=true:=by unfold Za5 at hB;simp only[Yf]at hB;exact hB.1);simp only[bxB,Yf]at q;obtain⟨⟨⟨⟨⟨⟨⟨_,_⟩,_⟩,h4⟩,h5⟩,h6⟩,_⟩,_⟩:=q;exact⟨fun n hn=>((ZaI h4).2 n hn).1,fun n hn=>((ZaI h6).2 n hn).1⟩
def ZuK{b b':Bar}{s:List UInt8}(hB:Za5 b=true)(h:Chg b s b'):ZeY b'.box<=ZeY b.box+(if Zln s=true then 1 else 0)/\b'.box.fo.length=b.box.fo.length:=by obtain⟨w,ns,hp,h⟩:=h;(have hq:Zln s=((w==Zmb)||(w==ZnM)||(w==ZmX)):=by unfold Zln;rw[hp]);rw[hq];rcases h with⟨rfl,h⟩|⟨rfl,h⟩|⟨rfl,h⟩|⟨rfl,h⟩|⟨rfl,h⟩|⟨rfl,h⟩|⟨rfl,h⟩;{have:=ZiX h;exact⟨by rw[Yt Kb];exact this.1,this.2⟩};{have:=ZiX h;exact⟨by rw[Yt Kb];exact this.1,this.2⟩};{have:=ZiX h;exact⟨by rw[Yt Kb];exact this.1,this.2⟩};{unfold ZcD at h;split at h;{cases h;exact⟨by rw[Yx Kb];simp,rfl⟩};{cases h}};{unfold Zer at h;split at h;{rename_i hk;cases h;refine⟨?_,Kd⟩;rw[Yx Kb];have:=Zob b.box.fo (ns.getD 0 0).toNat (b.box.fo.getD (ns.getD 0 0).toNat 0-1) Kc;unfold ZeY;simp only;rw[this];omega};{cases h}};{subst h;exact⟨by rw[Yx Kb,YcK];exact Yar _,rfl⟩};{unfold Zb2 at h;split at h;{cases h;have hp:=ZxY hB;have h1:=Zkq hp.1;have h2:=Zkq hp.2;refine⟨?_,Kd⟩;rw[Yx Kb];unfold ZeY;simp only[Zwx];omega};{cases h}}
def ZsG{b:Bar}(hB:Za5 b=true)(s:List UInt8):ZeY (Zao b s).2.box<=ZeY b.box+(if Zln s=true then 1 else 0)/\(Zao b s).2.box.fo.length=b.box.fo.length:=by rcases ZdS b s with⟨h,_⟩|⟨_,_,_,h⟩;{rw[h];exact⟨by split<;>omega,rfl⟩};{exact ZuK hB h}
def Zls:∀(l:List (List UInt8)){b:Bar},Za5 b=true->ZeY (ZaU Zao b l).2.box<=ZeY b.box+Zkg l/\(ZaU Zao b l).2.box.fo.length=b.box.fo.length
 |[],b,_=>by simp[ZaU,Zkg]
 |s::l,b,hB=>by have h1:=ZsG hB s;have h2:=Zls l (Zhu hB s);rw[ZbC];(have h3:Zkg (s::l)=Zkg l+if Zln s=true then 1 else 0:=by unfold Zkg;rw[YbZ];split<;>simp);rw[h3];refine⟨by have:=h1.1;have:=h2.1;simp only;omega,h2.2.trans h1.2⟩
def Zsb{b:Bar}{l:List (List UInt8)}(hB:Za5 b=true)(hf:Zsa b l=false)(k:Nat):Zsa (ZaU Zao b (l.take k)).2 []=false:=by have hB':=ZdY hB (l.take k);have hm:=Zls (l.take k) hB;(have hpu:Zkg (l.take k)<=Zkg l:=by unfold Zkg;exact Yc6.2 (List.take_sublist k l).countP_le);generalize ZaU Zao b (l.take k)=R at hB' hm;unfold Zsa ZqN at hf;rw[hB]at hf;simp only[Ybw,YV,Yax]at hf;obtain⟨_,_,h1,h2⟩:=hf;have hb:=ZfI hB';have q:=hB';unfold Za5 at q;simp only[Yf]at q;have hx:=Zbc q.1;have ht:=Tray.ok_spec q.2.1;have e0:=hx.wh.nl;have e1:=hx.wh.cl;have e2:=hx.fl;have e3:=hx.ml;have e4:=hx.sl;have e6:=ht.1.n6;have e7:=ht.2;unfold Zsa Zgy ZqN ZDe;rw[hB'];simp only[List.any_nil,YV,Ybw,Yax,Ybp];have e8:Zkg ([]:List (List UInt8))=0:=rfl;rw[e8];refine⟨⟨⟨⟨⟨⟨⟨?_,?_⟩,?_⟩,?_⟩,?_⟩,?_⟩,?_⟩,?_,?_⟩<;>first|omega|(simp only[YI];omega)
def k1:List UInt8:=[99,111,105,110,32,49]
def k2:List UInt8:=[112,114,101,115,115,32,51,32,48]
def k3:List UInt8:=[101,110,100]
def k4:List UInt8:=[115,116,97,110,100]
def k5:List UInt8:=[115,108,117,103,32,49]
def k6:List UInt8:=[99,97,115,104]
def k7:List UInt8:=[109,105,115,115,105,110,103]
def k8:List UInt8:=[99,97,110]
def k9:List UInt8:=[99,111,105,110,32,48,49]
def k10:List UInt8:=[101,109,112,116,121]
def Zyd:Bar:={exB with pl:=10,cr:=1,box:={exB.box with pl:=1,fo:=[0,1,0]}}
def Zr4:Bar:={Zyd with pl:=0,cr:=0,tray:={exB.tray with pres:=[⟨3,0⟩]}}
def Zfj:Bar:={Zr4 with pl:=10,cr:=1,box:={Zr4.box with pl:=2,sl:=[0,1,0]}}
def Zeq{b:Bar}{s w:List UInt8}{ns:List Int}{e:Wd}(hp:ZaA s=some (w,ns))(hw:Za9 w=some e)(ht:e.t=206):Zao b s=Zg9 b (Zm9 e.f b ns):=by unfold Zao;rw[hp];simp only[hw];rw[Yx (by rw[ht];decide)]
def Zep{b:Bar}{s w:List UInt8}{ns:List Int}{e:Wd}(hp:ZaA s=some (w,ns))(hw:Za9 w=some e)(ht:e.t=204){l:List Int}{x:Int}(h:Znj e.f e.cap b ns=(l,x)):Zao b s=(Zjh l x,b):=by unfold Zao;rw[hp];simp only[hw];rw[Yt ht,h]
def ZyC{n:Nat}(h:n<10):Lib.itoa ((n:Nat):Int)=[UInt8.ofNat (48+n)]:=by rw[Lib.itoa_nonneg,Lib.decDigits_one h]
def ZCi{n:Nat}(h:10<=n/\n<100):Lib.itoa ((n:Nat):Int)=[UInt8.ofNat (48+n/10),UInt8.ofNat (48+n % 10)]:=by rw[Lib.itoa_nonneg,Lib.decDigits_two Kc h.2]
def i0:Lib.itoa 0=[48]:=ZyC (n:=0) Kb
def i1:Lib.itoa 1=[49]:=ZyC (n:=1) Kb
def i2:Lib.itoa 2=[50]:=ZyC (n:=2) Kb
def i10:Lib.itoa 10=[49,48]:=ZCi (n:=10) Kb
def i95:Lib.itoa 95=[57,53]:=ZCi (n:=95) Kb
def Zrt{l:List Int}(h:l≠[]):Zjh l 0=Lib.join (l.map Lib.itoa) [32]:=by unfold Zjh;rw[Yx (by simp[h]),Yx Kb]
def bk0:Za5 exB=true:=by kernel_rfl
def lw1:Zao exB k2=(noS,exB):=by rw[Zeq (w:=Zkc) (ns:=[3,0]) Ka rfl rfl];show Zg9 exB (ZcD exB 3 0)=_;kernel_rfl
def lw2:Zao exB k1=(Zgl,Zyd):=by rw[Zeq (w:=Zmb) (ns:=[1]) Ka rfl rfl];show Zg9 exB (ZeR 0 exB 1)=_;kernel_rfl
def lw3:Zao Zyd k4=([49,48,32,49],Zyd):=by rw[Zep (w:=k4) (ns:=[]) (l:=[10,1]) (x:=0) Ka rfl rfl rfl,Zrt Kb,Ye,Ye,i10,i1];rfl
def lw4:Zao Zyd k2=(Zgl,Zr4):=by rw[Zeq (w:=Zkc) (ns:=[3,0]) Ka rfl rfl];show Zg9 Zyd (ZcD Zyd 3 0)=_;kernel_rfl
def lw5:Zao Zr4 k3=([57,53],Zr4):=by rw[Zep (w:=k3) (ns:=[]) (l:=[95]) (x:=0) Ka rfl rfl (by show([(Zr2 Zr4.tray).1],(Zr2 Zr4.tray).2)=_;rw[show Zr2 Zr4.tray=(95,0) by kernel_rfl]),Zrt Kb,Ye,i95];rfl
def lw6:Zao Zr4 k5=(Zgl,Zfj):=by rw[Zeq (w:=ZmX) (ns:=[1]) Ka rfl rfl];show Zg9 Zr4 (ZeR 2 Zr4 1)=_;kernel_rfl
def lw7:Zao Zfj k6=([49,48,32,48,32,49,48],Zfj):=by rw[Zep (w:=k6) (ns:=[]) (l:=[10,0,10]) (x:=0) Ka rfl rfl (by show([ZaD Zfj.box.wh Zfj.box.fo-ZaD Zfj.box.wh Zfj.box.ma,ZaD Zfj.box.wh Zfj.box.ma,ZaD Zfj.box.wh Zfj.box.sl],(0:Int))=_;kernel_rfl),Zrt Kb,Ye,Ye,Ye,i10,i0];rfl
def Zye:Zcu Zfj.box=(0,0):=by kernel_rfl
def ZBb:Zek Zfj.box=[2]:=by unfold Zek srt;rw[show((((Zcc Zfj.box.wh (pur Zfj.box [])).filter fun e=>decide (e.1.bag=pur Zfj.box [])).map fun e=>e.1.bo).eraseDups)=[2] by kernel_rfl];simp
def lw8:Zao Zfj k7=([48],Zfj):=by rw[Zep (w:=k7) (ns:=[]) (l:=[0]) (x:=0) Ka rfl rfl (by show([(Zcu Zfj.box).1],(Zcu Zfj.box).2)=_;rw[Zye]),Zrt Kb,Ye,i0];rfl
def lw9:Zao Zfj k8=([50],Zfj):=by rw[Zep (w:=k8) (ns:=[]) (l:=[2]) (x:=0) Ka rfl rfl (by show(Zek Zfj.box,(0:Int))=_;rw[ZBb]),Zrt Kb,Ye,i2];rfl
def ZGr:Zao Zfj k9=(ZwI,Zfj):=by unfold Zao;rw[show ZaA k9=none by kernel_rfl]
def ZGs:Zao Zfj k10=(noS,Zfj):=by rw[Zeq (w:=ZbQ) (ns:=[]) Ka rfl rfl];show Zg9 Zfj (Zb2 Zfj)=_;kernel_rfl
def wkL:List (List UInt8):=[k2,k1,k4,k2,k3,k5,k6,k7,k8,k9,k10]
def wkA:List (List UInt8):=[[110,111],[121,101,115],[49,48,32,49],[121,101,115],[57,53],[121,101,115],[49,48,32,48,32,49,48],[48],[50],[119,104,97,116],[110,111]]
def ZDc:ZaU Zao exB wkL=(wkA,Zfj):=by unfold wkL;simp only[ZbC,ZeS,lw1,lw2,lw3,lw4,lw5,lw6,lw7,lw8,lw9,ZGr,ZGs];rfl
end Go.Proofs.YtcggfogkfhlmlaaGreatDoor
