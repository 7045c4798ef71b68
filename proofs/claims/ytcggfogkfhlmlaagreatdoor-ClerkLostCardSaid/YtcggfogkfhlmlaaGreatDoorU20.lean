
import Derived.Test.YtcggfogkfhlmlaaGreatDoorU11
import Derived.Test.YtcggfogkfhlmlaaGreatDoorU15
import Derived.Test.YtcggfogkfhlmlaaGreatDoorU19
import Derived.Test.YtcggfogkfhlmlaaGreatDoorU8
import Derived.Test.YtcggfogkfhlmlaaGreatDoorU9
set_option linter.unusedVariables false
set_option linter.defProp false
set_option linter.unusedSimpArgs false
set_option maxRecDepth 100000
set_option maxHeartbeats 8000000
namespace Go.Proofs.YtcggfogkfhlmlaaGreatDoor
open Go Go.V
variable{tb:Obj}
abbrev ZGw:=[Ku 21 15 3,Kj 22 1,Kl 23 12 [.t 21,.t 22],JS 24 (.un .not (.t 23)),Kj 25 24,Kz 26 1 25,KM 27 26 25,KL 28 .gtr 27 36 25,Kr 29 25 28,Kj 30 29,Kz 31 2 30,KL 32 .lss 31 0 30,Kr 33 30 32,Kj 34 33,Kz 35 2 34,KG 36 0 3 34,KG 37 0 36 34,KG 38 2 37 34,KK 39 38 34,KM 40 39 34,KT 41 .geq 35 40 34,Kr 42 34 41]
abbrev Ll:OT:=(.cons (Ko 10 65) (.cons (JE (Js 15 11 66)) (.cons (Kj 9 67) .nil)))
abbrev Lj:OT:=(.cons (Kl 64 14 [.t 59,.t 63]) (.cons (Ko 58 64) (.cons (Kv 65 58 0) (.cons (Kv 66 58 1) (.cons (Kv 67 58 2) Ll)))))
abbrev Lm:OT:=(.cons (JF 63 (.bsl 9 1 [.t 62])) Lj)
abbrev ZED:OT:=(.cons (Ky 59 15 8) (.cons (Ko 60 2) (.br [(.cons (KW 61 21 [.t 60]) (.cons (JF 62 (.prim (.sbin .add) [(.k (.c (.str [108,111,115,101,32]))),.t 61])) (.br [(.cons (JF 63 (.bsl 9 1 [.t 62])) (.br [(.cons (Kl 64 14 [.t 59,.t 63]) (.cons (Ko 58 64) (.cons (Kv 65 58 0) (.cons (Kv 66 58 1) (.cons (Kv 67 58 2) (.cons (JF 11 (.alloc [Jz 0,J0,J0,J0,J0,J0,Jz 0,Jz 0,Jz 0,Jz 0,J0,Jz 0,Jz 0,Jz 0,J0])) Ll)))))),(.cons (JF 11 (.alloc [Jz 0,J0,J0,J0,J0,J0,Jz 0,Jz 0,Jz 0,Jz 0,J0,Jz 0,Jz 0,Jz 0,J0])) Lj)])),(.cons (JF 11 (.alloc [Jz 0,J0,J0,J0,J0,J0,Jz 0,Jz 0,Jz 0,Jz 0,J0,Jz 0,Jz 0,Jz 0,J0])) Lm)]))),(.cons (JF 11 (.alloc [Jz 0,J0,J0,J0,J0,J0,Jz 0,Jz 0,Jz 0,Jz 0,J0,Jz 0,Jz 0,Jz 0,J0])) (.cons (KW 61 21 [.t 60]) (.cons (JF 62 (.prim (.sbin .add) [(.k (.c (.str [108,111,115,101,32]))),.t 61])) Lm)))])))
abbrev ZEh:=[Kj 68 9,JS 69 (.un .not (.t 68)),Kj 70 69,JH 71 (Jm 10) 70 false,JH 72 (.ia 1 (.t 71) (.k (Jz 0))) 70 false,JH 73 (Jl 72) 70 false,JH 74 (.prim (.sbin .eql) [.t 73,(.k (.c (.str [121,101,115])))]) 70 false,JH 75 (Jf 0 8) 70 false,JH 76 (Jf 3 75) 70 false,JH 77 (Jl 76) 70 false,JH 78 (Jm 2) 70 false,JH 79 (Ja 1 77 78) 70 false,JH 80 (Jl 79) 70 false,JH 81 (Jf 0 8) 70 false,JH 82 (Jf 4 81) 70 false,JH 83 (Jl 82) 70 false,JH 84 (Jm 2) 70 false,JH 85 (Ja 1 83 84) 70 false,JH 86 (Jl 85) 70 false,JH 87 (Jb .gtr 80 86) 70 false,JG 88 (.eqs true (.t 74) (.t 87)) 70 false,Kr 89 70 88]
abbrev ZEi:=[Kj 94 10,JS 95 (.ia 1 (.t 94) (.k (Jz 0))),KA 96 95,JS 97 (.prim (.sbin .eql) [.t 96,(.k (.c (.str [110,111])))]),Kj 98 97,KH 99 15 8 98,KH 100 15 11 98,Kw 101 18 [.t 99,.t 100] 98,Kn 102 98 101,Kj 103 102,Kw 104 13 [] 103,Kn 105 103 104,Kj 6 105]
abbrev ZEj:=[Ku 135 15 11,Ku 136 15 12,Kl 137 18 [.t 135,.t 136],Kj 138 137,Kt 139 16 138,KQ 140 .eql 139 0 138,Kn 141 138 140,Kj 142 141,Kt 143 20 142,KQ 144 .eql 143 0 142,Kn 145 142 144,Kj 146 145,Kt 147 17 146,Kt 148 13 146,Km 149 0 8 146,Km 150 0 149 146,Km 151 2 150 146,Ks 152 151 146,Kt 153 2 146,KV 154 1 152 153 146,Ks 155 154 146,KE 156 .sub 148 155 146,KE 157 .eql 147 156 146,Kn 158 146 157,Kj 159 158,Kt 160 18 159,Kt 161 14 159,KE 162 .eql 160 161 159,Kn 163 159 162,Kj 164 163,Kt 165 19 164,Kt 166 15 164,KE 167 .eql 165 166 164,Kn 168 164 167,Kj 169 168,Kw 170 13 [] 169,Kn 171 169 170,Kj 6 171]
abbrev ZEQ:=Kf [KF 120 0 8,Ku 121 8 120,Kl 122 30 [.t 121],Kj 119 122,Kk 123 119 0,Kk 124 119 1,Kk 125 119 2,Kk 126 119 3,Kj 13 123,Kj 14 124,Kj 15 125,Kj 16 126] (Kf [KF 128 0 11,Ku 129 8 128,Kl 130 30 [.t 129],Kj 127 130,Kk 131 127 0,Kk 132 127 1,Kk 133 127 2,Kk 134 127 3,Kj 17 131,Kj 18 132,Kj 19 133,Kj 20 134] (Kf ZEj .ret))
abbrev ZER:=VC.seq (Kf [Ku 106 15 11,Kl 107 16 [.t 106],KC 108 .neq 107 0] (.cond (.t 108) (Kf [Kq 6 false] .ret) .skip)) (Kf [Ku 109 15 8,Kl 110 39 [.t 109],JS 12 (.alloc [Jz 0,J0,J0,J0,J0,J0,Jz 0,Jz 0,Jz 0,Jz 0,J0,Jz 0,Jz 0,Jz 0,J0]),Kx 15 12 110] (Kf [KF 111 0 12,KF 112 3 111,KA 113 112,Kj 114 2,KN 115 1 113 114,KA 116 115,KC 117 .sub 116 1,KN 118 1 113 114,Kx 1 118 117] ZEQ))
abbrev ZES:=VC.seq (Kf [Kj 51 9,JS 52 (.un .not (.t 51)),Kj 53 52,KR 54 15 8 53,KU 55 16 [.t 54] 53,KL 56 .neq 55 0 53,Kr 57 53 56] (.cond (.t 57) (Kf [Kq 6 false] .ret) .skip)) (Kh ZED (.seq (Kg ZEh (.cond (.t 89) (Kf [Kq 6 false] .ret) .skip)) (.seq (Kf [Kj 90 10,JS 91 (.ia 1 (.t 90) (.k (Jz 0))),KA 92 91,JS 93 (.prim (.sbin .neq) [.t 92,(.k (.c (.str [121,101,115])))])] (.cond (.t 93) (Kf ZEi .ret) .skip)) ZER)))
def ir8:FC:=⟨3,172,[.t 6],(Kf [JS 3 (.box 15 (.t 0)),Kq 6 false] (.seq (Kf ZGw (.cond (.t 42) (Kf [Kl 43 13 [],Kj 6 43] .ret) .skip)) (Kf [Ku 45 15 3,Kj 46 1,Kl 47 14 [.t 45,.t 46],Kj 44 47,Kk 48 44 0,Kk 49 44 1,Kk 50 44 2,JS 8 (.alloc [Jz 0,J0,J0,J0,J0,J0,Jz 0,Jz 0,Jz 0,Jz 0,J0,Jz 0,Jz 0,Jz 0,J0]),Kj 7 48,Kx 15 8 49,Kj 9 50] ZES)))⟩
def c8:Ki [64] 8 ir8:=Ke
attribute [local go_sem] Nat.reduceEqDiff Nat.reduceAdd Nat.reduceMul reduceIte Nat.reduceLeDiff Nat.reduceLT Nat.reduceBEq reduceCtorEq
def lost8(b:Bar)(l:List (List UInt8))(kind:Int):Fl 8 [b.av,.c (Zaw l),iv kind] [(tabO tb)] [] (fun r l'=>r= .c (.bool true)/\l'=[(tabO tb)]):=by
 have hmx:=vM;have hrd:=ZgL b l;simp only[Bar.av,Bar.avs]at hrd;refine vF c8 fun C hP hN hC hL=>?_;simp only[ir8,Zbj,ZaB,Yg,Ye,Nat.reduceAdd,]
 simp only[Bar.av,Bar.avs];refine vR ?_;(refine Zal (hrd) ?_;simp only[go_sem,hP,Zaw,Zai,Yc];refine vQ ?_;(repeat(refine vV ?_;(try simp only[go_sem,hP,Zaw,Zai,Yc]);refine vQ ?_)));cases hR:Ze7 b l with
 |false=>
  refine vC ?_ ?_<;>intro h
  ·refine vR ?_;(refine Zah [1000] (Zba (tb:=tb)) rfl rfl rfl Kb rfl rfl ?_;intro r l' hh;obtain⟨rfl,rfl⟩:=hh;refine⟨_,_,rfl,rfl,?_⟩;refine vO ?_;refine vR ?_;(refine vL ?_;refine⟨_,[(tabO tb)],rfl,Zab rfl rfl ?_ ?_ rfl,?_⟩);(all_goals(first|exact⟨rfl,rfl⟩|trivial|(simp only[go_sem,Zag,Ob.keepP,AV.keepP,AV.keepPL];done))))
  ·cases h
 |true=>
 by_cases hat:¬(l.length<=36/\0<=kind/\kind<(b.box.wh.co.length:Int))
 ·refine vC ?_ ?_<;>intro h
  ·refine vR ?_;(refine Zah [1000] (Zba (tb:=tb)) rfl rfl rfl Kb rfl rfl ?_;intro r l' hh;obtain⟨rfl,rfl⟩:=hh;refine⟨_,_,rfl,rfl,?_⟩;refine vO ?_;refine vR ?_;(refine vL ?_;refine⟨_,[(tabO tb)],rfl,Zab rfl rfl ?_ ?_ rfl,?_⟩);(all_goals(first|exact⟨rfl,rfl⟩|trivial|(simp only[go_sem,Zag,Ob.keepP,AV.keepP,AV.keepPL];done))))
  ·exfalso;simp at h;omega
 have hat:=Decidable.of_not_not hat;refine vC ?_ ?_<;>intro h
 ·exfalso;simp at h;omega
 clear h;obtain⟨_,hB,hl40,hs⟩:=ZcO hR;obtain⟨k,rfl⟩:=YaM hat.2.1;have hrn:=Zi7 (tb:=tb) hB hl40 hs;have hok:=ZdY hB l;have hfe:=(Zls l hB).2;have hck:=rcheck6 (ZaU Zao b l).2;rw[show ZeI (ZaU Zao b l).2=0 by unfold ZeI;rw[Yt hok]]at hck;have hfb:=(Zdo hB).1.fl;generalize ZaU Zao b l=R at*;obtain⟨ans,x⟩:=R;simp only at hok hck hrn hfe;obtain⟨hb,hbx⟩:=Zdo hok;have hkf:k<x.box.fo.length:=by omega
 have hkc:k<x.box.wh.co.length:=by have:=hb.fl;omega
 have hkm:k<x.box.ma.length:=by have:=hb.ml;have:=hb.fl;omega
 have hne:x.box.fo≠[]:=fun h=>by rw[h]at hkf;simp at hkf
 have hcl:=hb.wh.cl;have htx:=ZEF (n:=(k:Int)) Kc Kc;have htl:=Zua (n:=(k:Int)) Kc Kc;have hll:=ZsF hok hkf;have hr2:=Zi7 (tb:=tb) hok (l:=[Zz9 ++ Zgh (k:Int)]) Kd (fun s hm =>by
  rw[Yk.1 hm,Yw];have:Zz9.length=5:=rfl;omega)
 rw[ZbC,ZeS,hll]at hr2;have s1:Zz9++Zgh (k:Int)=108::111::115::101::32::Zgh (k:Int):=rfl;rw[s1]at hr2;clear hll s1;generalize Zgh (k:Int)=tx at htx htl hr2;have gf:=Zau hkf;have gm:=Zau hkm;have gc:=Zau hkc;obtain⟨D,hD⟩:∃D,D=decide (x.box.ma.getD k 0<x.box.fo.getD k 0):=⟨_,rfl⟩;obtain⟨y,hy⟩:∃y,y=if x.box.ma.getD k 0<x.box.fo.getD k 0 then Zes x k else x:=⟨_,rfl⟩
 obtain⟨an,han⟩:∃an,an=if x.box.ma.getD k 0<x.box.fo.getD k 0 then Zgl else noS:=⟨_,rfl⟩
 have hpr:(if x.box.ma.getD k 0<x.box.fo.getD k 0 then(Zgl,Zes x k)else(noS,x))=(an,y):=by
  rw[hy,han];split<;>rfl
 rw[hpr]at hr2;simp only[Zaw,Ye,Yg]at hr2;simp only[Bar.av,Bar.avs]at hrn hck hr2;refine vR ?_;refine Zah [1000] hrn rfl rfl rfl Kb rfl rfl ?_;rintro r l' ⟨rfl,rfl⟩;refine⟨_,_,rfl,rfl,?_⟩;refine vO ?_;refine vR ?_;(refine ZaV (fun hG=>hck) ?_;refine vS ?_);refine vD ?_;refine vR ?_;refine ZcB (fun σ'=>Sub σ' ⟨upd (upd (upd (upd (upd (upd (upd e0 1 (.c (Zaw l))) 2 (iv k)) 3 (.bp 3 0)) 8 (.bp 8 0)) 9 (.c (.bool true))) 10 (.c (.sl 1 [[.str an]]))) 11 (.bp 11 0),upd (upd (upd (upd o0 1000 (tabO tb)) 3 (.box b.avs)) 8 (.box x.avs)) 11 (.box y.avs)⟩) ?_ ?_
 ·refine ZaS ?_;simp only[go_sem,hP];(repeat'(first|(refine ZaM htx rfl rfl rfl rfl rfl ?_;simp only[go_sem,hP,Yo,YI])|refine And.intro ?_ ?_));all_goals(first|omega|skip)
  all_goals(
   refine Zah [1000] hr2 rfl rfl rfl Kb rfl rfl ?_;rintro r l' ⟨rfl,rfl⟩;refine⟨_,_,rfl,rfl,?_⟩;refine vO ?_;refine Zaf (by(try simp only[go_sem]);exact vEr) (by unfold Bar.avs;(try simp only[go_sem]);exact Zaa))
 ·intro σ' hsub;refine Zav hsub ?_;unfold Bar.avs;have q3:([[CD.str Zgl]].getD (Int.toNat 0) []).getD 0 default=CD.str Zgl:=rfl;have q2:(Zgl==[121,101,115])=true:=rfl;have q6:(Zgl !=[121,101,115])=false:=rfl;have q4:(noS==[121,101,115])=false:=rfl;have q5:(noS !=[121,101,115])=true:=rfl;have q7:(noS==[110,111])=true:=rfl;by_cases hlt:x.box.ma.getD k 0<x.box.fo.getD k 0
  ·have hD1:decide (x.box.ma.getD k 0<x.box.fo.getD k 0)=true:=Yaa hlt;rw[Yt hlt]at hy han;subst hy han;(repeat(refine vV ?_;(try simp only[go_sem,hP,Zai,Yc,Yr,gf,gm,hD1,q2]);refine vQ ?_));refine vD ?_;refine vW q6 ?_;refine vD ?_;have hyk:Za5 (Zes x k)=true:=by rw[ZsL hok hkf];exact hD1
   have hcy:=rcheck6 (Zes x k);rw[show ZeI (Zes x k)=0 by unfold ZeI;rw[Yt hyk]]at hcy;have hsy:=same18 (ZfI hyk);have hcp:=copyF39 (ZfI hok) hne;have hcx:=Zns hbx;have hcz:=Zns (Zdo hyk).2;have hwk:=ZsK hkf;obtain⟨hw1,hw2,hw3⟩:=ZrP hbx;have hW:ZaD (Zes x k).box.wh (Zes x k).box.fo-ZaD (Zes x k).box.wh (Zes x k).box.ma=ZaD x.box.wh x.box.fo-ZaD x.box.wh x.box.ma-x.box.wh.co.getD k 0:=by
    show ZaD x.box.wh (Zes x k).box.fo-ZaD x.box.wh x.box.ma=_;rw[hwk];omega
   rw[hW]at hcz;have hco:=hb.wh.co _ (Yv hkc);have hco2:x.box.wh.co.getD k 0=x.box.wh.co[k]:=by rw[Yb,Yd hkc];rfl
   rw[<-hco2]at hco;have hLX:Zes x k= {x with box:={x.box with fo:=x.box.fo.set k (x.box.fo.getD k 0-1)}}:=rfl;rw[hLX]at hcy hsy hcz;simp only[Bar.av,Bar.avs]at hcy hsy hcp;simp only[Bx.av,Bx.avs]at hcx hcz;(refine Zbq ?_;simp only[go_sem]);refine vR ?_;(refine Zal (hcy) ?_;refine vS ?_);refine vD ?_;refine Zav (σ':=⟨upd (upd (upd e0 2 (iv k)) 8 (.bp 8 0)) 11 (.bp 11 0),upd (upd (upd o0 1000 (tabO tb)) 8 (.box x.avs)) 11 (.box (Zes x k).avs)⟩) (Zaf (by(try simp only[go_sem]);exact vEr) (by unfold Bar.avs;(try simp only[go_sem]);exact Zaa)) ?_;obtain⟨F,hF⟩:∃F,F=x.box.fo.set k (x.box.fo.getD k 0-1):=⟨_,rfl⟩;have hFl:F.length=x.box.fo.length:=by rw[hF,Y7]
   unfold Bar.avs;rw[hLX,<-hF];rw[<-hF]at hcy hsy hcz;refine vR ?_;refine ZaK hcp rfl rfl rfl rfl ?_;rintro r os ⟨cap,j,p1,p2,p3,rfl,rfl⟩;refine⟨[110],_,_,Kd,rfl,rfl,rfl,(by simp only[Zap,Ob.back,back_cellsG];rfl),?_⟩;refine vO ?_;obtain⟨m,hm,hg,hs',hc,wm⟩:=ZE1 hkf hb.fo j;refine Zat ?_;(refine ZcF ?_;simp only[go_sem,hP,hg,hs',hc,wm,Yr];refine vQ ?_);rw[<-hF];refine Zav (σ':=⟨upd (upd (upd (upd e0 2 (iv k)) 8 (.bp 8 0)) 11 (.bp 11 0)) 12 (.bp 12 0),upd (upd (upd (upd (upd o0 1000 (tabO tb)) 8 (.box x.avs)) 11 (.box ({x with box:={x.box with fo:=F}}:Bar).avs)) 110 (.box (Zac zc F j))) 12 (.box [iv x.box.wh.ro,.c (Zai x.box.wh.no),.c (Zai x.box.wh.co),.vw 1 110 0 F.length cap,.c (Zai x.box.ma),.c (Zai x.box.sl),iv x.box.pl,iv x.box.sk,iv x.pl,iv x.cr,.c (ZaT x.tray.recs),iv x.tray.at_,iv x.tray.way,iv x.tray.step,.c (Zbb x.tray.pres)])⟩) (Zaf (by(try simp only[go_sem]);exact vEr) (by unfold Bar.avs;rw[hFl];(try simp only[go_sem]);exact Zaa)) ?_;unfold Bar.avs;refine ZcM 110 (ds:=Za4 zc F) (junk:=List.replicate j .non) rfl ?_;simp only[go_sem,Zdd,Yi,Zdc,frz_cellsG];have w1:=vw (n:=ZaD x.box.wh x.box.fo-ZaD x.box.wh x.box.ma-x.box.wh.co.getD k 0);generalize ZaD x.box.wh x.box.fo-ZaD x.box.wh x.box.ma=A at hcx hcz w1;refine vR ?_;(refine Zal (hcx) ?_;refine vS ?_);(refine Zal (hcz) ?_;refine vS ?_)
   (refine Zal (hsy) ?_;simp only[go_sem,hP,Zai,Yc,Yr,gc,w1,YN];refine vQ ?_;(repeat(refine vV ?_;(try simp only[go_sem,hP,Zai,Yc,Yr,gc,w1,YN]);refine vQ ?_)))
   refine .inr (.inr ?_);(refine Zah [1000] (Zba (tb:=tb)) rfl rfl rfl Kb rfl rfl ?_;intro r l' hh;obtain⟨rfl,rfl⟩:=hh;refine⟨_,_,rfl,rfl,?_⟩;refine vO ?_;refine vR ?_;(refine vL ?_;refine⟨_,[(tabO tb)],rfl,Zab rfl rfl ?_ ?_ rfl,?_⟩);(all_goals(first|exact⟨rfl,rfl⟩|trivial|(simp only[go_sem,Zag,Ob.keepP,AV.keepP,AV.keepPL];done))))
  ·have hD1:decide (x.box.ma.getD k 0<x.box.fo.getD k 0)=false:=YaL hlt;have hsx:=same18 (ZfI hok);simp only[Bar.av,Bar.avs]at hsx;rw[Yx hlt]at hy han;subst hy han;(repeat(refine vV ?_;(try simp only[go_sem,hP,Zai,Yc,Yr,gf,gm,hD1,q4]);refine vQ ?_));refine vD ?_;refine vW q5 ?_;refine vC ?_ ?_<;>intro h
   ·refine vW q7 ?_;(refine ZaV (fun hG=>hsx) ?_;refine vS ?_)
    refine .inr (.inr ?_);refine And.intro (fun _=>?_) (fun hn=>absurd hn Kb);(refine Zah [1000] (Zba (tb:=tb)) rfl rfl rfl Kb rfl rfl ?_;intro r l' hh;obtain⟨rfl,rfl⟩:=hh;refine⟨_,_,rfl,rfl,?_⟩;refine vO ?_;refine vR ?_;(refine vL ?_;refine⟨_,[(tabO tb)],rfl,Zab rfl rfl ?_ ?_ rfl,?_⟩);(all_goals(first|exact⟨rfl,rfl⟩|trivial|(simp only[go_sem,Zag,Ob.keepP,AV.keepP,AV.keepPL];done))))
   ·cases h
end Go.Proofs.YtcggfogkfhlmlaaGreatDoor
