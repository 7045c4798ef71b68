
import Derived.Test.YtcggfogkfhlmlaaGreatDoorU11
import Derived.Test.YtcggfogkfhlmlaaGreatDoorU16
import Derived.Test.YtcggfogkfhlmlaaGreatDoorU9
set_option linter.unusedVariables false
set_option linter.defProp false
set_option linter.unusedSimpArgs false
set_option maxRecDepth 100000
set_option maxHeartbeats 8000000
namespace Go.Proofs.YtcggfogkfhlmlaaGreatDoor
open Go Go.V
variable{tb:Obj}
abbrev ZGv:=[Kj 39 8,Kj 40 39,Kt 41 6 40,JG 42 (.prim (.sbin .eql) [.t 41,(.k (.c (.str [108,111,115,101])))]) 40 true,Kt 43 42 40,Kz 44 6 43,JG 45 (.prim (.sbin .eql) [.t 44,(.k (.c (.str [115,107,105,112,115])))]) 43 false,KX 46 43 45 40,Kt 47 46 40,Kz 48 6 47,JG 49 (.prim (.sbin .eql) [.t 48,(.k (.c (.str [101,109,112,116,121])))]) 47 false,KX 50 47 49 40,Kn 51 40 50]
abbrev ZEO:=VC.seq (Kf [Kj 24 5,Kj 25 1,KD 26 25,KB 27 .lss 24 26] (.cond (.t 27) .skip (.exit 0))) (.seq (.block 1 (Kf [Kj 31 1,Kj 32 5,KN 33 1 31 32,KA 34 33,Kl 35 19 [.t 34],Kj 30 35,Kk 36 30 0,Kk 37 30 1,Kk 38 30 2,Kj 6 36,Kj 7 37,Kj 8 38] (Kf ZGv (.cond (.t 51) (Kf [Kl 52 13 [],Kj 4 52] .ret) .skip)))) (.ops [Kj 28 5,KC 29 .add 28 1,Kj 5 29]))
abbrev ZEZ:List Nat:=[1,2]
abbrev ZEf:=[Ku 54 15 2,Kl 55 37 [.t 54],JS 56 (.bsl 9 1 []),Kj 57 1,JS 58 (.app 9 1 16 (.t 56) (.t 57)),JS 59 (.bsl 9 1 [(.k (.c (.str [109,105,115,115,105,110,103]))),(.k (.c (.str [115,104,111,114,116])))]),JS 60 (.app 9 1 16 (.t 58) (.t 59)),Kl 61 14 [.t 55,.t 60],Kj 53 61,Kk 62 53 0,Kk 63 53 1,Kk 64 53 2,JS 10 (.alloc [Jz 0,J0,J0,J0,J0,J0,Jz 0,Jz 0,Jz 0,Jz 0,J0,Jz 0,Jz 0,Jz 0,J0]),Kj 9 62,Kx 15 10 63,Kj 11 64]
abbrev ZEg:=[Kj 78 13,KC 79 .eql 78 0,Kj 80 79,Kt 81 12 80,KS 82 81 80,KQ 83 .lss 82 4000 80,Kn 84 80 83,Kj 85 84,Kt 86 12 85,Km 87 0 10 85,Km 88 6 87 85,Ks 89 88 85,Kw 90 38 [.t 86,.t 89] 85,Kn 91 85 90,Kj 92 91,Kt 93 9 92,Kt 94 9 92,KS 95 94 92,KQ 96 .sub 95 2 92,KV 97 1 93 96 92,Ks 98 97 92,JG 99 (.prim (.sbin .eql) [.t 98,(.k (.c (.str [48])))]) 92 true,Kn 100 92 99,Kj 101 100,Kt 102 9 101,Kt 103 9 101,KS 104 103 101,KQ 105 .sub 104 1 101,KV 106 1 102 105 101,Ks 107 106 101,JG 108 (.prim (.sbin .eql) [.t 107,(.k (.c (.str [48])))]) 101 true,Kn 109 101 108,Kj 110 109,Kw 111 13 [] 110,Kn 112 110 111,Kj 4 112]
abbrev ZEP:=VC.seq (Kf [KI 5 0] (.block 0 (.loop ZEO))) (Kf ZEf (.seq (Kf [Kj 65 11,JS 66 (.un .not (.t 65)),Kj 67 66,KR 68 15 10 67,KU 69 16 [.t 68] 67,KL 70 .neq 69 0 67,Kr 71 67 70] (.cond (.t 71) (Kf [Kq 4 false] .ret) .skip)) (Kf [KF 73 0 10,Ku 74 8 73,Kl 75 31 [.t 74],Kj 72 75,Kk 76 72 0,Kk 77 72 1,Kj 12 76,Kj 13 77] (Kf ZEg .ret))))
def ir7:FC:=⟨2,113,[.t 4],(Kf [JS 2 (.box 15 (.t 0)),Kq 4 false] (.seq (Kf [Ku 14 15 2,Kj 15 1,Kl 16 12 [.t 14,.t 15],JS 17 (.un .not (.t 16)),Kj 18 17,Kz 19 1 18,KM 20 19 18,KL 21 .gtr 20 36 18,Kr 22 18 21] (.cond (.t 22) (Kf [Kl 23 13 [],Kj 4 23] .ret) .skip)) ZEP))⟩
abbrev ZAA:List Nat:=[0,1]
abbrev ZC4:=VC.seq (Kf [KI 5 0] (.block 0 (.loop (.seq (Kf [Kj 6 5,Kj 7 0,KD 8 7,KB 9 .lss 6 8] (.cond (.t 9) .skip (.exit 0))) (.seq (.block 1 (Kf [Kj 12 0,Kj 13 5,KN 14 1 12 13,KA 15 14,Kj 16 1,KB 17 .eql 15 16] (.cond (.t 17) (Kf [Kq 4 true] .ret) .skip))) (.ops [Kj 10 5,KC 11 .add 10 1,Kj 5 11])))))) (Kf [Kq 4 false] .ret)
def ZFl:FC:=⟨2,18,[.t 4],(Kf [Kq 4 false] ZC4)⟩
def c7:Ki [] 7 ir7:=Ke
def c38:Ki [] 38 ZFl:=Ke
attribute [local go_sem] Nat.reduceEqDiff Nat.reduceAdd Nat.reduceMul reduceIte Nat.reduceLeDiff Nat.reduceLT Nat.reduceBEq reduceCtorEq
def ZGp{l:List Int}{n:Int}(hm:n∈l)(hl:l.length<=100000):Fq 38 [.c (Zai l),iv n] (.c (.bool true)):=by refine vE c38 fun C hP hN hC hL=>?_;simp only[ZFl];refine vR ?_;refine Zam ZAA [] (fun k:Nat=>k<=l.length/\∀i,i<k->l.getD i 0≠n) (fun k=>l.length-k) (fun k=>[(5,iv k)]) (fun _=>[]) 0 ⟨YC _,fun i hi=>Kc⟩ ?_ ?_;{exact Zak};{rintro k ⟨hk,hne⟩;simp only[go_sem];refine vR0 ?_;refine vC ?_ ?_<;>intro h;{(have hkl:k<l.length:=by simpa using h);clear h;have hw2:=vw (n:=(k:Int)+1);have g1:=Zau hkl;(have hgk:∀i,i=k->l.getD i 0=l.getD k 0:=fun i e=>by rw[e]);generalize l.getD k 0=x at g1 hgk;refine vW1 g1 ?_;by_cases hx:x=n;{subst hx;refine vC ?_ ?_<;>intro h;{exact vUt};{simp at h}};{refine vC ?_ ?_<;>intro h;{exact absurd (by simpa using h) hx};refine vW hw2 ?_;refine⟨k+1,⟨Kc,fun i hi=>?_⟩,Kc,?_⟩;{by_cases e:i=k;{rw[hgk i e];exact hx};{exact hne i Kc}};{exact Zak}}};{exfalso;(have hkl:k=l.length:=by(have:¬(k<l.length):=by simpa using h);omega);obtain⟨i,hi,he⟩:=Ybb hm;refine hne i Kc ?_;rw[Yb,Yd hi];exact he}}
def Zof{b:Bar}(hB:Za5 b=true){l:List (List UInt8)}(hl:∀s∈l,okL s):ZaU Zao (ZaR b) (l++[Zlc,Zgd])=((ZaU Zao (ZaR b) l).1++[[48],[48]],(ZaU Zao (ZaR b) l).2):=by obtain⟨h1,h2,_⟩:=Zm7 hB hl;have h3:=ZiD h1;have h4:=ZgD h2;rw[ZAI]at h3 h4;rw[ZdZ];simp only[ZbC,ZeS,h3,h4]
def whole7(b:Bar)(l:List (List UInt8)):Fl 7 [b.av,.c (Zaw l)] [(tabO tb)] [] (fun r l'=>r= .c (.bool true)/\l'=[(tabO tb)]):=by
 have hmx:=vM;have hrd:=ZgL b l;simp only[Bar.av,Bar.avs]at hrd;refine vF c7 fun C hP hN hC hL=>?_;simp only[ir7,Zbj,ZaB,Yg,Ye,Nat.reduceAdd,]
 simp only[Bar.av,Bar.avs];refine vR ?_;(refine Zal (hrd) ?_;refine vS2 ?_);cases hR:Ze7 b l with
 |false=>
  refine vC ?_ ?_<;>intro h
  ·refine vR ?_;(refine Zah [1000] (Zba (tb:=tb)) rfl rfl rfl Kb rfl rfl ?_;intro r l' hh;obtain⟨rfl,rfl⟩:=hh;refine⟨_,_,rfl,rfl,?_⟩;refine vO ?_;refine vR ?_;(refine vL ?_;refine⟨_,[(tabO tb)],rfl,Zab rfl rfl ?_ ?_ rfl,?_⟩);(all_goals(first|exact⟨rfl,rfl⟩|trivial|(simp only[go_sem,Zag,Ob.keepP,AV.keepP,AV.keepPL];done))))
  ·cases h
 |true=>
 by_cases h36:¬l.length<=36
 ·refine vC ?_ ?_<;>intro h
  ·refine vR ?_;(refine Zah [1000] (Zba (tb:=tb)) rfl rfl rfl Kb rfl rfl ?_;intro r l' hh;obtain⟨rfl,rfl⟩:=hh;refine⟨_,_,rfl,rfl,?_⟩;refine vO ?_;refine vR ?_;(refine vL ?_;refine⟨_,[(tabO tb)],rfl,Zab rfl rfl ?_ ?_ rfl,?_⟩);(all_goals(first|exact⟨rfl,rfl⟩|trivial|(simp only[go_sem,Zag,Ob.keepP,AV.keepP,AV.keepPL];done))))
  ·exfalso;simp at h;omega
 have h36:=Decidable.of_not_not h36;refine vC ?_ ?_<;>intro h
 ·exfalso;simp at h;omega
 clear h;obtain⟨_,hB,hl40,hs⟩:=ZcO hR;refine vR ?_;refine Zam ZEZ [] (fun k:Nat=>k<=l.length/\∀s∈l.take k,okL s) (fun k=>l.length-k) (fun k=>[(5,iv k)]) (fun _=>[]) 0 ⟨YC _,fun s hs=>by simp at hs⟩ ?_ ?_
 ·exact Zak
 rintro k ⟨hk,hne⟩;simp only[go_sem];refine vR2 ?_;refine vC ?_ ?_<;>intro h
 ·have hkl:k<l.length:=by simpa using h
  clear h;have hw2:=vw (n:=(k:Int)+1);have g1:=Zd1 hkl;have hst:l.take (k+1)=l.take k++[l.getD k []]:=by rw[Yq hkl,Yb,Yd hkl];rfl
  have hsk:(l.getD k []).length<=1000:=hs _ (by rw[Yb,Yd hkl];exact Yv hkl);have hpr:=Zf9 hsk;generalize l.getD k []=s at g1 hpr hst hsk;unfold Zf2 at hpr;refine vW1 g1 ?_;cases hp:ZaA s with
  |none=>
   rw[hp]at hpr;simp only at hpr;(refine Zal (hpr) ?_;refine vS ?_);refine vC ?_ ?_<;>intro h
   ·cases h
   refine vW hw2 ?_;refine⟨k+1,⟨Kc,fun x hx=>?_⟩,Kc,?_⟩
   ·rw[hst,YD]at hx;rcases hx with hx|hx
    ·exact hne x hx
    ·rw[Yk.1 hx];intro w ns hw;rw[hp]at hw;cases hw
   ·exact Zak
  |some p=>
   obtain⟨w,ns⟩:=p;rw[hp]at hpr;simp only at hpr;(refine Zal (hpr) ?_;refine vS ?_);obtain⟨c1,h1⟩:∃c,(w==[108,111,115,101])=c:=⟨_,rfl⟩;obtain⟨c2,h2⟩:∃c,(w==[115,107,105,112,115])=c:=⟨_,rfl⟩;obtain⟨c3,h3⟩:∃c,(w==[101,109,112,116,121])=c:=⟨_,rfl⟩;rw[h1,h2,h3];cases c1<;>cases c2<;>cases c3
   ·refine vC ?_ ?_<;>intro h
    ·cases h
    refine vW hw2 ?_;refine⟨k+1,⟨Kc,fun x hx=>?_⟩,Kc,?_⟩
    ·rw[hst,YD]at hx;rcases hx with hx|hx
     ·exact hne x hx
     ·rw[Yk.1 hx];intro w' ns' hw';rw[hp]at hw';cases hw';refine⟨fun e=>?_,fun e=>?_,fun e=>?_⟩
      ·rw[e]at h1;exact absurd h1 Kb
      ·rw[e]at h2;exact absurd h2 Kb
      ·rw[e]at h3;exact absurd h3 Kb
    ·exact Zak
   all_goals(
    refine Zcy rfl (fun h=>?_) (fun h=>?_)
    ·refine vR ?_;(refine Zah [1000] (Zba (tb:=tb)) rfl rfl rfl Kb rfl rfl ?_;intro r l' hh;obtain⟨rfl,rfl⟩:=hh;refine⟨_,_,rfl,rfl,?_⟩;refine vO ?_;refine vR ?_;(refine vL ?_;refine⟨_,[(tabO tb)],rfl,Zab rfl rfl ?_ ?_ rfl,?_⟩);(all_goals(first|exact⟨rfl,rfl⟩|trivial|(simp only[go_sem,Zag,Ob.keepP,AV.keepP,AV.keepPL];done))))
    ·cases h)
 ·have hkl:k=l.length:=by
   have:¬(k<l.length):=by simpa using h
   omega
  subst hkl;rw[YL]at hne;(refine ZaO ?_;simp only[go_sem]);have hE:=ZeK hB;have hok:=ZdY hE l;have hrn:=Zi7 (tb:=tb) hE (l:=l ++ [Zlc,Zgd]) (by simp; omega) (fun s hm =>by
   rcases YD.1 hm with h|h
   ·exact hs s h
   ·simp only[YF,Yag,Ybt]at h;rcases h with rfl|rfl<;>decide)
  rw[Zof hB hne]at hrn;have hem:=emptied8 (ZfI hB);obtain⟨_,_,hcan⟩:=Zm7 hB hne;have hln:=Zc3 Zao (ZaR b) l;have hcn:=ZAT (Zdo hok).2;have hcl:=ZrN (Zdo hok).2;have hin:=ZGp hcan Kc;have hck:=rcheck6 (ZaU Zao (ZaR b) l).2;rw[show ZeI (ZaU Zao (ZaR b) l).2=0 by unfold ZeI;rw[Yt hok]]at hck;generalize ZaR b=eb at hem hrn hin hcn hcl hck hln;generalize ZaU Zao eb l=R at hrn hin hcn hcl hck hln;obtain⟨ans,x⟩:=R;simp only at hln hcl;generalize Zek x.box=cn at hin hcn hcl;simp only[Bar.av,Bar.avs,Zaw,Yy,Ye,Yg,Zlc,Zgd]at hrn hem hck;simp only[Bx.av,Bx.avs]at hcn;refine vR ?_;(refine Zal (hem) ?_;refine vS2 ?_);refine Zah [1000] hrn rfl rfl rfl Kb rfl rfl ?_;rintro r l' ⟨rfl,rfl⟩;refine⟨_,_,rfl,rfl,?_⟩;refine vO ?_;refine vR ?_;(refine ZaV (fun hG=>hck) ?_;refine vS ?_);refine vD ?_;refine vR ?_;(refine Zal (hcn) ?_;refine vS ?_);have q1:decide (((List.map (fun n=>[CD.int IntKind.i64 n]) cn).length:Int)<4000)=true:=by
   rw[Yc];exact Yaa Kc
  simp only[q1];clear q1;have w2:IntKind.i64.wrap (((ans.length+2:Nat):Int)-2)=((ans.length:Nat):Int):=by rw[w64 Kc Kc];omega
  have w1:IntKind.i64.wrap (((ans.length+2:Nat):Int)-1)=((ans.length+1:Nat):Int):=by rw[w64 Kc Kc];omega
  have g2:(ans.map (fun x=>[CD.str x])++[[CD.str [48]],[CD.str [48]]]).getD ans.length []=[CD.str [48]]:=by
   rw[Yb,Yau Kd,Yc,Yb6];rfl
  have g1:(ans.map (fun x=>[CD.str x])++[[CD.str [48]],[CD.str [48]]]).getD (ans.length+1) []=[CD.str [48]]:=by
   rw[Yb,Yau Kd,Yc,YbE];rfl
  (refine ZaV (fun hG=>hin) ?_;simp only[go_sem,hP,w2,w1,g2,g1,Yr];refine vQ ?_;(repeat(refine vV ?_;(try simp only[go_sem,hP,w2,w1,g2,g1,Yr]);refine vQ ?_)))
  refine .inr (.inr ?_);refine And.intro (fun _=>?_) (fun hn=>absurd hn Kb);(refine Zah [1000] (Zba (tb:=tb)) rfl rfl rfl Kb rfl rfl ?_;intro r l' hh;obtain⟨rfl,rfl⟩:=hh;refine⟨_,_,rfl,rfl,?_⟩;refine vO ?_;refine vR ?_;(refine vL ?_;refine⟨_,[(tabO tb)],rfl,Zab rfl rfl ?_ ?_ rfl,?_⟩);(all_goals(first|exact⟨rfl,rfl⟩|trivial|(simp only[go_sem,Zag,Ob.keepP,AV.keepP,AV.keepPL];done))))
end Go.Proofs.YtcggfogkfhlmlaaGreatDoor
