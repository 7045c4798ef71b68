
import Derived.Test.YtcggfogkfhlmlaaGreatDoorU11
import Derived.Test.YtcggfogkfhlmlaaGreatDoorU9
set_option linter.unusedVariables false
set_option linter.defProp false
set_option linter.unusedSimpArgs false
set_option maxRecDepth 100000
set_option maxHeartbeats 8000000
namespace Go.Proofs.YtcggfogkfhlmlaaGreatDoor
open Go Go.V
variable{tb:Obj}
abbrev ZGt:=[Ku 15 15 3,Kj 16 1,Kl 17 12 [.t 15,.t 16],JS 18 (.un .not (.t 17)),Kj 19 18,Kz 20 2 19,KL 21 .lss 20 0 19,Kr 22 19 21,Kj 23 22,Kz 24 2 23,Kz 25 1 23,KM 26 25 23,KT 27 .gtr 24 26 23,Kr 28 23 27]
abbrev Ln:OT:=(.cons (Ko 10 43) (.cons (JE (Js 15 11 44)) (.cons (Kj 12 45) .nil)))
abbrev ZGE:OT:=(.cons (Ky 38 15 3) (.cons (Ko 39 1) (.cons (Ko 40 2) (.cons (JF 41 (.slc 1 (.t 39) none (some (.t 40)))) (.br [(.cons (Kl 42 14 [.t 38,.t 41]) (.cons (Ko 37 42) (.cons (Kv 43 37 0) (.cons (Kv 44 37 1) (.cons (Kv 45 37 2) (.cons (JF 11 (.alloc [Jz 0,J0,J0,J0,J0,J0,Jz 0,Jz 0,Jz 0,Jz 0,J0,Jz 0,Jz 0,Jz 0,J0])) Ln)))))),(.cons (JF 11 (.alloc [Jz 0,J0,J0,J0,J0,J0,Jz 0,Jz 0,Jz 0,Jz 0,J0,Jz 0,Jz 0,Jz 0,J0])) (.cons (Kl 42 14 [.t 38,.t 41]) (.cons (Ko 37 42) (.cons (Kv 43 37 0) (.cons (Kv 44 37 1) (.cons (Kv 45 37 2) Ln))))))])))))
abbrev ZGu:=[Kj 46 9,JS 47 (.un .not (.t 46)),Kj 48 47,Kz 49 12 48,JG 50 (.un .not (.t 49)) 48 false,Kr 51 48 50,Kj 52 51,KR 53 15 11 52,KU 54 15 [.t 53,(.k J0)] 52,Kr 55 52 54,Kj 56 55,KR 57 15 11 56,KU 58 16 [.t 57] 56,KL 59 .neq 58 0 56,Kr 60 56 59]
abbrev Lo:OT:=(.cons (Ko 13 67) (.cons (JE (Js 15 14 68)) (.cons (Kj 9 69) .nil)))
abbrev ZEC:OT:=(.cons (Ky 62 15 11) (.cons (Ko 63 1) (.cons (Ko 64 2) (.cons (JF 65 (.slc 1 (.t 63) (some (.t 64)) none)) (.br [(.cons (Kl 66 14 [.t 62,.t 65]) (.cons (Ko 61 66) (.cons (Kv 67 61 0) (.cons (Kv 68 61 1) (.cons (Kv 69 61 2) (.cons (JF 14 (.alloc [Jz 0,J0,J0,J0,J0,J0,Jz 0,Jz 0,Jz 0,Jz 0,J0,Jz 0,Jz 0,Jz 0,J0])) Lo)))))),(.cons (JF 14 (.alloc [Jz 0,J0,J0,J0,J0,J0,Jz 0,Jz 0,Jz 0,Jz 0,J0,Jz 0,Jz 0,Jz 0,J0])) (.cons (Kl 66 14 [.t 62,.t 65]) (.cons (Ko 61 66) (.cons (Kv 67 61 0) (.cons (Kv 68 61 1) (.cons (Kv 69 61 2) Lo))))))])))))
abbrev ZEa:=[Kj 70 9,Kj 71 70,JG 72 (.bsl 9 1 []) 71 true,Kt 73 10 71,JG 74 (.app 9 1 16 (.t 72) (.t 73)) 71 true,Kt 75 13 71,JG 76 (.app 9 1 16 (.t 74) (.t 75)) 71 true,Kt 77 7 71,Kw 78 17 [.t 76,.t 77] 71,Kn 79 71 78,Kj 80 79,KH 81 15 14 80,KH 82 15 8 80,Kw 83 18 [.t 81,.t 82] 80,Kn 84 80 83,Kj 85 84,Kw 86 13 [] 85,Kn 87 85 86,Kj 6 87]
abbrev ZEH:=VC.seq (Kf ZGt (.cond (.t 28) (Kf [Kl 29 13 [],Kj 6 29] .ret) .skip)) (Kf [Ku 31 15 3,Kj 32 1,Kl 33 14 [.t 31,.t 32],Kj 30 33,Kk 34 30 0,Kk 35 30 1,Kk 36 30 2,JS 8 (.alloc [Jz 0,J0,J0,J0,J0,J0,Jz 0,Jz 0,Jz 0,Jz 0,J0,Jz 0,Jz 0,Jz 0,J0]),Kj 7 34,Kx 15 8 35,Kj 9 36] (Kh ZGE (.seq (Kf ZGu (.cond (.t 60) (Kf [Kq 6 false] .ret) .skip)) (Kh ZEC (Kf ZEa .ret)))))
def ir3:FC:=⟨3,88,[.t 6],(Kf [JS 3 (.box 15 (.t 0)),Kq 6 false] ZEH)⟩
def c3:Ki [42,66] 3 ir3:=Ke
attribute [local go_sem] Nat.reduceEqDiff Nat.reduceAdd Nat.reduceMul reduceIte Nat.reduceLeDiff Nat.reduceLT Nat.reduceBEq reduceCtorEq
def ZBc(b:Bar):Fq 15 [b.av,.c (.raw (.slice none 0 0))] (.c (.bool (Zsa b []))):=FSpec.le (far5 b []) (AVles.cons (AVle.refl _) (AVles.cons (AVle.nil 1) (AVles.refl []))) (AVle.refl _)
def halves3(b:Bar)(l:List (List UInt8))(at_:Int):Fl 3 [b.av,.c (Zaw l),iv at_] [(tabO tb)] [] (fun r l'=>r= .c (.bool true)/\l'=[(tabO tb)]):=by
 have hrd:=ZgL b l;simp only[Bar.av,Bar.avs]at hrd;refine vF c3 fun C hP hN hC hL=>?_;simp only[ir3,Zbj,ZaB,Yg,Ye,Nat.reduceAdd,]
 simp only[Bar.av,Bar.avs];refine vR ?_;(refine Zal (hrd) ?_;refine vS2 ?_);cases hR:Ze7 b l with
 |false=>
  refine vC ?_ ?_<;>intro h
  ·refine vR ?_;(refine Zah [1000] (Zba (tb:=tb)) rfl rfl rfl Kb rfl rfl ?_;intro r l' hh;obtain⟨rfl,rfl⟩:=hh;refine⟨_,_,rfl,rfl,?_⟩;refine vO ?_;refine vR ?_;(refine vL ?_;refine⟨_,[(tabO tb)],rfl,Zab rfl rfl ?_ ?_ rfl,?_⟩);(all_goals(first|exact⟨rfl,rfl⟩|trivial|(simp only[go_sem,Zag,Ob.keepP,AV.keepP,AV.keepPL];done))))
  ·cases h
 |true=>
 by_cases hat:¬(0<=at_/\at_<=(l.length:Int))
 ·refine vC ?_ ?_<;>intro h
  ·refine vR ?_;(refine Zah [1000] (Zba (tb:=tb)) rfl rfl rfl Kb rfl rfl ?_;intro r l' hh;obtain⟨rfl,rfl⟩:=hh;refine⟨_,_,rfl,rfl,?_⟩;refine vO ?_;refine vR ?_;(refine vL ?_;refine⟨_,[(tabO tb)],rfl,Zab rfl rfl ?_ ?_ rfl,?_⟩);(all_goals(first|exact⟨rfl,rfl⟩|trivial|(simp only[go_sem,Zag,Ob.keepP,AV.keepP,AV.keepPL];done))))
  ·exfalso;simp at h;omega
 have hat:=Decidable.of_not_not hat;refine vC ?_ ?_<;>intro h
 ·exfalso;simp at h;omega
 clear h;obtain⟨k,rfl⟩:=YaM hat.1;have hk:k<=l.length:=by omega
 obtain⟨hfar,hB,hl40,hs⟩:=ZcO hR;have hr1:=Zi7 (tb:=tb) hB hl40 hs;have hr2:=Zi7 (tb:=tb) hB (l:=l.take k) (by rw[Y4];omega) fun s hm=>hs s (List.mem_of_mem_take hm)
 have hok2:=ZdY hB (l.take k);have hr3:=Zi7 (tb:=tb) hok2 (l:=l.drop k) (by rw[Yac];omega) fun s hm=>hs s (YbT hm)
 have hfar2:=ZBc (ZaU Zao b (l.take k)).2;rw[Zsb hB hfar k]at hfar2;have hck:=rcheck6 (ZaU Zao b (l.take k)).2;rw[show ZeI (ZaU Zao b (l.take k)).2=0 by unfold ZeI;rw[Yt hok2]]at hck;have happ:=ZdZ Zao b (l.take k) (l.drop k);rw[Yah]at happ;have hok3:=ZdY hok2 (l.drop k);have hsm:=same18 (ZfI hok3);have hln:=Zc3 Zao b l;have hst:=ZtS (ZaU Zao b l).1 Kc;rw[happ]at hr1 hst hln;generalize ZaU Zao b (l.take k)=R2 at*;generalize ZaU Zao R2.2 (l.drop k)=R3 at*;obtain⟨k2,y⟩:=R2;obtain⟨m,z⟩:=R3;simp only[Bar.av,Bar.avs,Zaw,Yy,List.map_take,List.map_drop]at hr1 hr2 hr3 hfar2 hck hsm hst;have etk:List.map (fun x=>[CD.str x]) l=List.take l.length (List.map (fun x=>[CD.str x]) l):=by rw[YG];simp
 rw[etk]at hr3;clear etk;simp only at hln;refine vR ?_;refine Zah [1000] hr1 rfl rfl rfl Kb rfl rfl ?_;rintro r l' ⟨rfl,rfl⟩;refine⟨_,_,rfl,rfl,?_⟩;refine vO ?_;refine vR ?_;refine ZcB (fun σ'=>Sub σ' ⟨upd (upd (upd (upd (upd (upd (upd (upd (upd e0 1 (.c (Zaw l))) 2 (iv k)) 3 (.bp 3 0)) 7 (.c (.sl 1 (k2.map (fun x=>[CD.str x])++m.map fun x=>[CD.str x])))) 8 (.bp 8 0)) 9 (.c (.bool true))) 10 (.c (Zaw k2))) 11 (.bp 11 0)) 12 (.c (.bool true)),upd (upd (upd (upd o0 1000 (tabO tb)) 3 (.box b.avs)) 8 (.box z.avs)) 11 (.box y.avs)⟩) ?_ ?_
 ·refine ZaS ?_;simp only[go_sem,hP,Zaw,Yc,Yy];(repeat'(refine And.intro ?_ ?_));all_goals(first|omega|skip)
  all_goals(
   refine Zah [1000] hr2 rfl rfl rfl Kb rfl rfl ?_;rintro r l' ⟨rfl,rfl⟩;refine⟨_,_,rfl,rfl,?_⟩;refine vO ?_;refine Zaf (by(try simp only[go_sem]);exact vEr) (by unfold Bar.avs;(try simp only[go_sem]);exact Zaa))
 ·intro σ' hsub;refine Zav hsub ?_;unfold Zaw Bar.avs;refine vR ?_;(refine ZaV (fun hG=>hfar2) ?_;refine vS ?_);(refine ZaV (fun hG=>hck) ?_;refine vS ?_)
  refine vD ?_;refine vR ?_;refine ZcB (fun σ'=>Sub σ' ⟨upd (upd (upd (upd (upd (upd e0 7 (.c (.sl 1 (k2.map (fun x=>[CD.str x])++m.map fun x=>[CD.str x])))) 8 (.bp 8 0)) 9 (.c (.bool true))) 10 (.c (Zaw k2))) 13 (.c (Zaw m))) 14 (.bp 14 0),upd (upd (upd o0 1000 (tabO tb)) 8 (.box z.avs)) 14 (.box z.avs)⟩) ?_ ?_
  ·refine ZaS ?_;simp only[go_sem,hP,Zaw,Yc,Yy];(repeat'(refine And.intro ?_ ?_));all_goals(first|omega|skip)
   all_goals(
    refine Zah [1000] hr3 rfl rfl rfl Kb rfl rfl ?_;rintro r l' ⟨rfl,rfl⟩;refine⟨_,_,rfl,rfl,?_⟩;refine vO ?_;refine Zaf (by(try simp only[go_sem]);exact vEr) (by unfold Bar.avs;(try simp only[go_sem]);exact Zaa))
  ·intro σ' hsub;refine Zav hsub ?_;unfold Zaw Bar.avs;refine vR4 ?_;have hmx:=vM;rw[Yw]at hln;refine⟨⟨Kd,Kc,Kc⟩,⟨Kd,Kc,Kc⟩,?_⟩;(refine ZaV (fun hG=>hst) ?_;refine vS ?_);(refine ZaV (fun hG=>hsm) ?_;refine vS ?_)
   refine .inr (.inr ?_);(refine Zah [1000] (Zba (tb:=tb)) rfl rfl rfl Kb rfl rfl ?_;intro r l' hh;obtain⟨rfl,rfl⟩:=hh;refine⟨_,_,rfl,rfl,?_⟩;refine vO ?_;refine vR ?_;(refine vL ?_;refine⟨_,[(tabO tb)],rfl,Zab rfl rfl ?_ ?_ rfl,?_⟩);(all_goals(first|exact⟨rfl,rfl⟩|trivial|(simp only[go_sem,Zag,Ob.keepP,AV.keepP,AV.keepPL];done))))
end Go.Proofs.YtcggfogkfhlmlaaGreatDoor
